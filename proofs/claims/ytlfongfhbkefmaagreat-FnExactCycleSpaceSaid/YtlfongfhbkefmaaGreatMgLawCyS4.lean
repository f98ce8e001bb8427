/- Texts of this claim, joined: Adj, Dix, BfsP, BfsQ, Bits, PartP, Bag, Rep, Bfs, AppL, Part, ReachP, Has, Put, CycP, IdxP, SrtP, Clone, Swp, Reach, Roads, Wout, Two, EvenQ, PcP, MatP, Seq, Perm. -/
import Derived.Laws.Bits64
import Derived.Test.YtlfongfhbkefmaaGreatProg
import Derived.KernelRfl
import Derived.RangeFuncBox
import Derived.RangeFuncLeaves
import Derived.Shelf.Abstract
import Derived.WalkKit
import Derived.OwnWalkIn
import Derived.TacticsInMore
import Derived.LoopNIn
import Derived.LoopIn
import Derived.Maps.AppendAt
import Derived.Test.YtlfongfhbkefmaaGreatMgLawCyS3
namespace Go.Proofs.YtlfongfhbkefmaaGreat.Ai
open Go Go.RowKit
set_option linter.unusedVariables false
set_option linter.unusedSimpArgs false
theorem adj1_sz (L : List (List Int)) (e : Int × Int) (x : Nat) : ((adj1 L e).getD x []).length ≤ (L.getD x []).length + 1 := by
  unfold adj1
  rw [List.getD_eq_getElem?_getD, List.getElem?_set]
  by_cases h2 : e.2.toNat = x
  · rw [if_pos h2]
    split
    · rw [h2]; simp
    · simp
  · rw [if_neg h2, List.getElem?_set]
    by_cases h1 : e.1.toNat = x
    · rw [if_pos h1]
      split
      · rw [h1]; simp
      · simp
    · rw [if_neg h1, ← List.getD_eq_getElem?_getD]; omega
theorem adjF_sz : ∀ (ps : List (Int × Int)) (L : List (List Int)) (x : Nat), ((ps.foldl adj1 L).getD x []).length ≤ (L.getD x []).length + ps.length
  | [], L, x => by simp
  | e :: ps, L, x => by
    rw [List.foldl_cons]
    have h1 := adjF_sz ps (adj1 L e) x
    have h2 := adj1_sz L e x
    rw [List.length_cons]; omega
theorem mk_lists {n : Int} (h0 : 0 ≤ n) (h1 : n ≤ 1099511627776) (H : AH) :
    makeSliceA Tryz.prog 26 (.int .i64 n) (.int .i64 n) H = some (.slice (some ⟨H.length, 0, none⟩) n.toNat n.toNat, H ++ [.cells (List.replicate n.toNat (.slice none 0 0)) 38 false]) := by
  have hb2 : n.toNat * Tryz.prog.bytesOf 38 ≤ 281474976710656 := by
    rw [by38]; omega
  have hzc : (Value.slice none 0 0).cells = #[.slice none 0 0] := rfl
  have hzs : zerosA (.slice none 0 0) (n.toNat * 1) = List.replicate n.toNat (.slice none 0 0) := by
    unfold zerosA
    rw [hzc, Nat.mul_one]
    apply List.ext_getElem
    · simp
    · intro i h1 h2
      simp [Nat.mod_one]
  simp only [makeSliceA, Tryz.underlying26, cs38, ze38]
  rw [if_pos ⟨trivial, h0, by omega, hb2, by omega⟩, if_pos ⟨by simp [plainCs, hzc, plainC], by simp [hzc]⟩, hzs]
theorem own_base {e : TypeId} {H0 H1 H : AH} {v : Value} {xs : List Int} (h : Own e H0 H v xs) (hl : H1.length ≤ H0.length) : Own e H1 H v xs := by
  rcases h with h | ⟨o, h1, h2, h3⟩
  · exact .inl h
  · exact .inr ⟨o, h1, by omega, h3⟩
theorem own_keep {e : TypeId} {H0 H H' : AH} {v : Value} {xs : List Int} (h : Own e H0 H v xs) (hh : ∀ y, v ≠ .slice none 0 0 → H[rowO v]? = some y → H'[rowO v]? = some y) : Own e H0 H' v xs := by
  rcases h with h | ⟨o, h1, h2, h3⟩
  · exact .inl h
  · exact .inr ⟨o, h1, h2, by subst h1; exact hh _ (by intro e; cases e) h3⟩
theorem own_nil {e : TypeId} {H0 H : AH} {v : Value} {xs : List Int} (h : Own e H0 H v xs) : v = .slice none 0 0 ∨ (H0.length ≤ rowO v ∧ rowO v < H.length) := by
  rcases h with h | ⟨o, h1, h2, h3⟩
  · exact .inl h.1
  · subst h1; exact .inr ⟨h2, at_lt h3⟩
/-- lists of neighbours that grow -/
structure Adj (C G : AH) (o : Nat) (us : List Value) (L : List (List Int)) : Prop where
  at_ : G[o]? = some (.cells us 38 false)
  olt : o < C.length
  len : us.length = L.length
  el : ∀ i, i < L.length → Own 3 C G (us.getD i undef) (L.getD i [])
  ap : ∀ i j, i ≠ j → i < L.length → j < L.length → Apart (us.getD i undef) (us.getD j undef)
  keep : ∀ (j : Nat) (y : AObj), j ≠ o → C[j]? = some y → G[j]? = some y
  le : C.length ≤ G.length
theorem Adj.ne {C G : AH} {o : Nat} {us : List Value} {L : List (List Int)} (h : Adj C G o us L) {i : Nat} (hi : i < L.length) : us.getD i undef = .slice none 0 0 ∨ rowO (us.getD i undef) ≠ o := by
  rcases own_nil (h.el i hi) with g | g
  · exact .inl g
  · right; have := h.olt; omega
theorem Adj.inU {C G : AH} {o lo : Nat} {us : List Value} {L : List (List Int)} (h : Adj C G o us L) (hlo : lo ≤ o) : InU lo G.length 38 3 G o us L := by
  have := h.olt
  refine ⟨hlo, at_lt h.at_, h.at_, by rw [h.len]; exact Nat.le_refl _, fun i hi => ⟨(InI.of (h.el i hi).mine).wide (by omega) (Nat.le_refl _), h.ne hi⟩, h.ap⟩
/-- two more, at two places -/
theorem Adj.upd {C G K : AH} {o x y : Nat} {us : List Value} {L : List (List Int)} (h : Adj C G o us L) (hx : x < L.length) (hy : y < L.length) (hxy : x ≠ y) {v1 v2 : Value} {l1 l2 : List Int}
    (h1 : Own 3 C K v1 l1) (h2 : Own 3 C K v2 l2) (g1 : G.length ≤ rowO v1) (g2 : G.length ≤ rowO v2) (hap : rowO v1 ≠ rowO v2) (hl : G.length ≤ K.length)
    (hk : ∀ (j : Nat) (z : AObj), (us.getD x undef = .slice none 0 0 ∨ j ≠ rowO (us.getD x undef)) → (us.getD y undef = .slice none 0 0 ∨ j ≠ rowO (us.getD y undef)) → G[j]? = some z → K[j]? = some z) :
    Adj C (K.set o (.cells ((us.set x v1).set y v2) 38 false)) o ((us.set x v1).set y v2) ((L.set x l1).set y l2) := by
  have hol := h.olt
  have hle := h.le
  have hul := h.len
  have ax : us.getD x undef = .slice none 0 0 ∨ o ≠ rowO (us.getD x undef) := (h.ne hx).imp id fun e => fun q => e q.symm
  have ay : us.getD y undef = .slice none 0 0 ∨ o ≠ rowO (us.getD y undef) := (h.ne hy).imp id fun e => fun q => e q.symm
  have ko := hk o _ ax ay h.at_
  have gu : ∀ i, ((us.set x v1).set y v2).getD i undef = if y = i then (if y < us.length then v2 else undef) else if x = i then (if x < us.length then v1 else undef) else us.getD i undef := by
    intro i
    rw [List.getD_eq_getElem?_getD, List.getElem?_set, List.length_set]
    by_cases e2 : y = i
    · rw [if_pos e2, if_pos e2, if_pos (by omega), if_pos (by omega)]; rfl
    · rw [if_neg e2, if_neg e2, List.getElem?_set]
      by_cases e1 : x = i
      · rw [if_pos e1, if_pos e1, if_pos (by omega), if_pos (by omega)]; rfl
      · rw [if_neg e1, if_neg e1, List.getD_eq_getElem?_getD]
  have gl : ∀ i, ((L.set x l1).set y l2).getD i [] = if y = i then (if y < L.length then l2 else []) else if x = i then (if x < L.length then l1 else []) else L.getD i [] := by
    intro i
    rw [List.getD_eq_getElem?_getD, List.getElem?_set, List.length_set]
    by_cases e2 : y = i
    · rw [if_pos e2, if_pos e2, if_pos (by omega), if_pos (by omega)]; rfl
    · rw [if_neg e2, if_neg e2, List.getElem?_set]
      by_cases e1 : x = i
      · rw [if_pos e1, if_pos e1, if_pos (by omega), if_pos (by omega)]; rfl
      · rw [if_neg e1, if_neg e1, List.getD_eq_getElem?_getD]
  have setk : ∀ {j : Nat} {z : AObj}, j ≠ o → K[j]? = some z → (K.set o (.cells ((us.set x v1).set y v2) 38 false))[j]? = some z := fun hj hz => by
    rw [List.getElem?_set_ne (fun e => hj e.symm)]; exact hz
  have old : ∀ i, i < L.length → i ≠ x → i ≠ y → us.getD i undef ≠ .slice none 0 0 → rowO (us.getD i undef) < G.length ∧ ∀ z, G[rowO (us.getD i undef)]? = some z → K[rowO (us.getD i undef)]? = some z := by
    intro i hi ix iy hn
    rcases own_nil (h.el i hi) with q | q
    · exact absurd q hn
    refine ⟨q.2, fun z hz => hk _ _ ?_ ?_ hz⟩
    · rcases h.ap i x ix hi hx with q1 | q1 | q1
      · exact .inl q1
      · exact absurd q1 hn
      · exact .inr q1
    · rcases h.ap i y iy hi hy with q1 | q1 | q1
      · exact .inl q1
      · exact absurd q1 hn
      · exact .inr q1
  refine ⟨at_set ko, hol, by simp [hul], fun i hi => ?_, fun i j hij hi hj => ?_, fun j z hj hz => ?_, by simp; omega⟩
  · rw [List.length_set, List.length_set] at hi
    rw [gu, gl]
    by_cases e2 : y = i
    · rw [if_pos e2, if_pos e2, if_pos (by omega), if_pos (by omega)]
      exact own_keep h2 fun z _ hz => setk (by omega) hz
    · rw [if_neg e2, if_neg e2]
      by_cases e1 : x = i
      · rw [if_pos e1, if_pos e1, if_pos (by omega), if_pos (by omega)]
        exact own_keep h1 fun z _ hz => setk (by omega) hz
      · rw [if_neg e1, if_neg e1]
        refine own_keep (h.el i hi) fun z hn hz => ?_
        have hq := old i hi (fun e => e1 e.symm) (fun e => e2 e.symm) hn
        refine setk ?_ (hq.2 z hz)
        rcases h.ne hi with q | q
        · exact absurd q hn
        · exact q
  · rw [List.length_set, List.length_set] at hi hj
    have far : ∀ (q : Nat) (v : Value), q < L.length → q ≠ x → q ≠ y → G.length ≤ rowO v → us.getD q undef = .slice none 0 0 ∨ rowO (us.getD q undef) ≠ rowO v := by
      intro q v hq qx qy hv
      by_cases hn : us.getD q undef = .slice none 0 0
      · exact .inl hn
      · right; have := (old q hq qx qy hn).1; omega
    rw [gu, gu]
    by_cases e2 : y = i
    · rw [if_pos e2, if_pos (by omega), if_neg (show ¬ y = j by omega)]
      by_cases e1 : x = j
      · rw [if_pos e1, if_pos (by omega)]
        exact .inr (.inr fun e => hap e.symm)
      · rw [if_neg e1]
        rcases far j v2 hj (fun e => e1 e.symm) (by omega) g2 with q | q
        · exact .inl q
        · exact .inr (.inr fun e => q e.symm)
    · rw [if_neg e2]
      by_cases e1 : x = i
      · rw [if_pos e1, if_pos (by omega)]
        by_cases e3 : y = j
        · rw [if_pos e3, if_pos (by omega)]; exact .inr (.inr hap)
        · rw [if_neg e3, if_neg (show ¬ x = j by omega)]
          rcases far j v1 hj (by omega) (fun e => e3 e.symm) g1 with q | q
          · exact .inl q
          · exact .inr (.inr fun e => q e.symm)
      · rw [if_neg e1]
        by_cases e3 : y = j
        · rw [if_pos e3, if_pos (by omega)]
          rcases far i v2 hi (fun e => e1 e.symm) (fun e => e2 e.symm) g2 with q | q
          · exact .inr (.inl q)
          · exact .inr (.inr q)
        · rw [if_neg e3]
          by_cases e4 : x = j
          · rw [if_pos e4, if_pos (by omega)]
            rcases far i v1 hi (fun e => e1 e.symm) (fun e => e2 e.symm) g1 with q | q
            · exact .inr (.inl q)
            · exact .inr (.inr q)
          · rw [if_neg e4]; exact h.ap i j hij hi hj
  · refine setk hj ?_
    have hjl := at_lt hz
    have hC : ∀ q, q < L.length → us.getD q undef = .slice none 0 0 ∨ j ≠ rowO (us.getD q undef) := fun q hq => by
      rcases own_nil (h.el q hq) with g | g
      · exact .inl g
      · right; omega
    exact hk j z (hC x hx) (hC y hy) (h.keep j z hj hz)
theorem own_lens {e : TypeId} {H0 H1 H K : AH} {v : Value} {xs ys : List Int} (h : Own e H0 H v xs) (k : Own e H1 K v ys) : xs.length = ys.length := by
  obtain ⟨p, hp⟩ := h.row.shape
  obtain ⟨q, hq⟩ := k.row.shape
  rw [hp] at hq
  injection hq
theorem Adj.pre {C G G' : AH} {o : Nat} {us : List Value} {L : List (List Int)} (h : Adj C G o us L) (hp : G <+: G') : Adj C G' o us L :=
  ⟨pre_at hp h.at_, h.olt, h.len, fun i hi => own_keep (h.el i hi) fun y _ hy => pre_at hp hy, h.ap, fun j y hj hy => pre_at hp (h.keep j y hj hy), Nat.le_trans h.le hp.length_le⟩
/-- one more, at one place -/
theorem Adj.upd1 {C G K : AH} {o x : Nat} {us : List Value} {L : List (List Int)} (h : Adj C G o us L) (hx : x < L.length) {v1 : Value} {l1 : List Int}
    (h1 : Own 3 C K v1 l1) (g1 : G.length ≤ rowO v1) (hl : G.length ≤ K.length)
    (hk : ∀ (j : Nat) (z : AObj), (us.getD x undef = .slice none 0 0 ∨ j ≠ rowO (us.getD x undef)) → G[j]? = some z → K[j]? = some z) :
    Adj C (K.set o (.cells (us.set x v1) 38 false)) o (us.set x v1) (L.set x l1) := by
  have hol := h.olt
  have hle := h.le
  have hul := h.len
  have ax : us.getD x undef = .slice none 0 0 ∨ o ≠ rowO (us.getD x undef) := (h.ne hx).imp id fun e => fun q => e q.symm
  have ko := hk o _ ax h.at_
  have gu : ∀ i, (us.set x v1).getD i undef = if x = i then (if x < us.length then v1 else undef) else us.getD i undef := by
    intro i
    rw [List.getD_eq_getElem?_getD, List.getElem?_set]
    by_cases e1 : x = i
    · rw [if_pos e1, if_pos e1, if_pos (by omega), if_pos (by omega)]; rfl
    · rw [if_neg e1, if_neg e1, List.getD_eq_getElem?_getD]
  have gl : ∀ i, (L.set x l1).getD i [] = if x = i then (if x < L.length then l1 else []) else L.getD i [] := by
    intro i
    rw [List.getD_eq_getElem?_getD, List.getElem?_set]
    by_cases e1 : x = i
    · rw [if_pos e1, if_pos e1, if_pos (by omega), if_pos (by omega)]; rfl
    · rw [if_neg e1, if_neg e1, List.getD_eq_getElem?_getD]
  have setk : ∀ {j : Nat} {z : AObj}, j ≠ o → K[j]? = some z → (K.set o (.cells (us.set x v1) 38 false))[j]? = some z := fun hj hz => by
    rw [List.getElem?_set_ne (fun e => hj e.symm)]; exact hz
  have old : ∀ i, i < L.length → i ≠ x → us.getD i undef ≠ .slice none 0 0 → rowO (us.getD i undef) < G.length ∧ ∀ z, G[rowO (us.getD i undef)]? = some z → K[rowO (us.getD i undef)]? = some z := by
    intro i hi ix hn
    rcases own_nil (h.el i hi) with q | q
    · exact absurd q hn
    refine ⟨q.2, fun z hz => hk _ _ ?_ hz⟩
    rcases h.ap i x ix hi hx with q1 | q1 | q1
    · exact .inl q1
    · exact absurd q1 hn
    · exact .inr q1
  refine ⟨at_set ko, hol, by simp [hul], fun i hi => ?_, fun i j hij hi hj => ?_, fun j z hj hz => ?_, by simp; omega⟩
  · rw [List.length_set] at hi
    rw [gu, gl]
    by_cases e1 : x = i
    · rw [if_pos e1, if_pos e1, if_pos (by omega), if_pos (by omega)]
      exact own_keep h1 fun z _ hz => setk (by omega) hz
    · rw [if_neg e1, if_neg e1]
      refine own_keep (h.el i hi) fun z hn hz => ?_
      have hq := old i hi (fun e => e1 e.symm) hn
      refine setk ?_ (hq.2 z hz)
      rcases h.ne hi with q | q
      · exact absurd q hn
      · exact q
  · rw [List.length_set] at hi hj
    have far : ∀ (q : Nat) (v : Value), q < L.length → q ≠ x → G.length ≤ rowO v → us.getD q undef = .slice none 0 0 ∨ rowO (us.getD q undef) ≠ rowO v := by
      intro q v hq qx hv
      by_cases hn : us.getD q undef = .slice none 0 0
      · exact .inl hn
      · right; have := (old q hq qx hn).1; omega
    rw [gu, gu]
    by_cases e1 : x = i
    · rw [if_pos e1, if_pos (by omega), if_neg (show ¬ x = j by omega)]
      rcases far j v1 hj (by omega) g1 with q | q
      · exact .inl q
      · exact .inr (.inr fun e => q e.symm)
    · rw [if_neg e1]
      by_cases e4 : x = j
      · rw [if_pos e4, if_pos (by omega)]
        rcases far i v1 hi (fun e => e1 e.symm) g1 with q | q
        · exact .inr (.inl q)
        · exact .inr (.inr q)
      · rw [if_neg e4]; exact h.ap i j hij hi hj
  · refine setk hj ?_
    have hC : us.getD x undef = .slice none 0 0 ∨ j ≠ rowO (us.getD x undef) := by
      have hjl := at_lt hz
      rcases own_nil (h.el x hx) with g | g
      · exact .inl g
      · right; omega
    exact hk j z hC (h.keep j z hj hz)
/-- one of the lists is touched, and is as before -/
theorem Adj.same {C G K : AH} {o x : Nat} {us : List Value} {L : List (List Int)} (h : Adj C G o us L) (hx : x < L.length) (h1 : Own 3 C K (us.getD x undef) (L.getD x [])) (he : Else (us.getD x undef) G K) : Adj C K o us L := by
  have ax : us.getD x undef = .slice none 0 0 ∨ o ≠ rowO (us.getD x undef) := (h.ne hx).imp id fun e => fun q => e q.symm
  refine ⟨he.2 _ _ ax h.at_, h.olt, h.len, fun i hi => ?_, h.ap, fun j z hj hz => he.2 _ _ ?_ (h.keep j z hj hz), by rw [he.1]; exact h.le⟩
  · by_cases e : i = x
    · subst e; exact h1
    · refine own_keep (h.el i hi) fun z hn hz => he.2 _ _ ?_ hz
      rcases h.ap i x e hi hx with q | q | q
      · exact .inl q
      · exact absurd q hn
      · exact .inr q
  · have hjl := at_lt hz
    rcases own_nil (h.el x hx) with g | g
    · exact .inl g
    · right; omega
/-- appending a number to one of the lists -/
theorem Adj.app1 {C G : AH} {o x : Nat} {us : List Value} {L : List (List Int)} (h : Adj C G o us L) (hx : x < L.length) (hb : (L.getD x []).length ≤ 1000000) (y : Int) :
    ∃ v K, appendA Tryz.prog 38 38 (us.getD x undef) (.slice (some ⟨G.length, 0, none⟩) 1 1) (G ++ [.cells [.int .i64 y] 3 false]) = some (v, K) ∧
      (∀ (j : Nat) (z : AObj), (us.getD x undef = .slice none 0 0 ∨ j ≠ rowO (us.getD x undef)) → G[j]? = some z → K[j]? = some z) ∧ K[o]? = some (.cells us 38 false) ∧ isTup v = false ∧ v.cells.toList = [v] ∧
      Adj C (K.set o (.cells (us.set x v) 38 false)) o (us.set x v) (L.set x (L.getD x [] ++ [y])) := by
  have hox := h.el x hx
  have hle := h.le
  have hlC : (G.take C.length).length = C.length := by simp; omega
  have ox2 : Own 3 (G.take C.length) G (us.getD x undef) (L.getD x []) := own_base hox (by omega)
  obtain ⟨v, K, j1, j2, j3, j4, j5, j6⟩ := own1_38 ox2 (List.take_prefix _ _) (by omega) y
  have hjC : Own 3 C K v (L.getD x [] ++ [y]) := own_base j2 (by omega)
  have ax : us.getD x undef = .slice none 0 0 ∨ o ≠ rowO (us.getD x undef) := (h.ne hx).imp id fun e => fun q => e q.symm
  have hlK : G.length ≤ K.length := by
    rcases own_nil hjC with q | q
    · have h1 : (L.getD x [] ++ [y]).length = 0 := by
        rcases hjC with ⟨_, q1⟩ | ⟨o', q1, _⟩
        · rw [q1]; rfl
        · rw [q1] at q; cases q
      simp at h1
    · omega
  obtain ⟨p, hp⟩ := j2.row.shape
  exact ⟨v, K, j1, fun j z hj hz => j4 j z hj hz, j4 o _ ax h.at_, j6, by rw [hp]; rfl, h.upd1 hx hjC j5 hlK fun j z hj hz => j4 j z hj hz⟩
end Go.Proofs.YtlfongfhbkefmaaGreat.Ai
namespace Go.Proofs.YtlfongfhbkefmaaGreat.Ai
open Go
set_option linter.unusedVariables false
/-- the places that only one of two has -/
def dix (a b : List Int) : Nat → List Int
  | 0 => []
  | k + 1 => dix a b k ++ (if (decide ((k : Int) ∈ a) != decide ((k : Int) ∈ b)) = true then [(k : Int)] else [])
theorem dix_mem (a b : List Int) (x : Int) : ∀ k, x ∈ dix a b k ↔ (0 ≤ x ∧ x < k) ∧ (decide (x ∈ a) != decide (x ∈ b)) = true
  | 0 => by simp [dix]; omega
  | k + 1 => by
    simp only [dix, List.mem_append, dix_mem a b x k]
    constructor
    · rintro (⟨h1, h2⟩ | h)
      · exact ⟨by omega, h2⟩
      · split at h
        · rename_i hk
          simp only [List.mem_singleton] at h
          subst h
          exact ⟨by omega, hk⟩
        · simp at h
    · rintro ⟨h1, h2⟩
      by_cases e : x = k
      · right
        subst e
        rw [if_pos h2]; simp
      · exact .inl ⟨by omega, h2⟩
theorem dix_len (a b : List Int) : ∀ k, (dix a b k).length ≤ k
  | 0 => Nat.le_refl _
  | k + 1 => by
    have := dix_len a b k
    simp only [dix, List.length_append]
    split <;> simp <;> omega
theorem dix_more (a b : List Int) {N : Nat} (ha : ∀ x ∈ a, x < N) (hb : ∀ x ∈ b, x < N) : ∀ k, N ≤ k → dix a b k = dix a b N := by
  intro k hk
  induction k with
  | zero =>
    have : N = 0 := by omega
    rw [this]
  | succ k ih =>
    by_cases e : N = k + 1
    · rw [e]
    · simp only [dix]
      rw [ih (by omega)]
      have h1 : (k : Int) ∉ a := fun h => by have := ha _ h; omega
      have h2 : (k : Int) ∉ b := fun h => by have := hb _ h; omega
      rw [decide_eq_false h1, decide_eq_false h2]
      simp
def dED (es : List (Int × Int)) (ds : List Int) : List (Int × Int) := ds.map fun i => es.getD i.toNat (0, 0)
/-- the edges that only one of two has -/
def dE (es : List (Int × Int)) (a b : List Int) : List (Int × Int) := dED es (dix a b es.length)
theorem dE_mem {es : List (Int × Int)} {a b : List Int} {e : Int × Int} (h : e ∈ dE es a b) : e ∈ es := by
  unfold dE dED at h
  rw [List.mem_map] at h
  obtain ⟨i, hi, rfl⟩ := h
  have := ((dix_mem a b i es.length).1 hi).1
  have hlt : i.toNat < es.length := by omega
  simp [hlt]
theorem dE_near {es : List (Int × Int)} {a b : List Int} {x y : Int} (h : nearB (dE es a b) x y = true) : nearB es x y = true := by
  rw [nearB_iff] at h ⊢
  exact h.imp dE_mem dE_mem
theorem dE_rng {n : Int} {es : List (Int × Int)} (hg : Grd n es) {a b : List Int} {x y : Int} (h : nearB (dE es a b) x y = true) : (0 ≤ x ∧ x < n) ∧ (0 ≤ y ∧ y < n) ∧ x ≠ y := near_rng hg (dE_near h)
/-- the numbers in a bag are those below 64 in a list -/
def BagI (b : Nat) (s : List Int) : Prop := b < 2 ^ 32 ∧ ∀ z : Nat, z < 64 → b.testBit z = decide ((z : Int) ∈ s)
theorem BagI.zero : BagI 0 [] := ⟨by decide, fun z _ => by simp⟩
theorem BagI.or {b y : Nat} {s : List Int} (h : BagI b s) (hy : y < 32) : BagI (b ||| 2 ^ y) (s ++ [(y : Int)]) := by
  refine ⟨Nat.or_lt_two_pow h.1 (Nat.pow_lt_pow_right (by decide) hy), fun z hz => ?_⟩
  rw [Nat.testBit_or, h.2 z hz, Nat.testBit_two_pow]
  by_cases e : y = z
  · subst e; simp
  · have e2 : ¬ ((z : Int) = y) := by omega
    simp [e, e2]
theorem BagI.congr {b : Nat} {s t : List Int} (h : BagI b s) (he : ∀ z : Nat, z < 64 → ((z : Int) ∈ s ↔ (z : Int) ∈ t)) : BagI b t :=
  ⟨h.1, fun z hz => by rw [h.2 z hz]; exact decide_eq_decide.2 (he z hz)⟩
end Go.Proofs.YtlfongfhbkefmaaGreat.Ai
namespace Go.Proofs.YtlfongfhbkefmaaGreat.Ai
open Go
set_option linter.unusedVariables false
/-- the places of one list, met from a place at the distance d - 1 -/
def bfsIn (d : Int) : List Int → List Int × List Int → List Int × List Int
  | [], st => st
  | j :: r, st => if st.1.getD j.toNat 0 < 0 then bfsIn d r (st.1.set j.toNat d, st.2 ++ [j]) else bfsIn d r st
/-- from the k-th place of the queue on -/
def bfsF (L : List (List Int)) : Nat → List Int × List Int → Nat → List Int
  | 0, st, _ => st.1
  | f + 1, st, k => if k < st.2.length then bfsF L f (bfsIn (st.1.getD (st.2.getD k 0).toNat 0 + 1) (L.getD (st.2.getD k 0).toNat []) st) (k + 1) else st.1
def bfs0 (N i : Nat) : List Int := (List.replicate N (-1)).set i 0
/-- lists of places -/
def LOk (N : Nat) (L : List (List Int)) : Prop := ∀ i, ∀ y ∈ L.getD i [], 0 ≤ y ∧ y < N
/-- what holds all along -/
structure BI (N : Nat) (st : List Int × List Int) : Prop where
  len : st.1.length = N
  q : ∀ x ∈ st.2, (0 ≤ x ∧ x < N) ∧ 0 ≤ st.1.getD x.toNat 0
  lo : ∀ v, v < N → -1 ≤ st.1.getD v 0 ∧ st.1.getD v 0 < st.2.length
  cnt : st.2.length + st.1.countP (· < 0) = N
theorem countP_set_neg (xs : List Int) (j : Nat) (d : Int) (hj : j < xs.length) (h : xs.getD j 0 < 0) (hd : 0 ≤ d) : (xs.set j d).countP (· < 0) + 1 = xs.countP (· < 0) := by
  induction xs generalizing j with
  | nil => simp at hj
  | cons x xs ih =>
    cases j with
    | zero =>
      have hx : x < 0 := by simpa using h
      simp only [List.set_cons_zero, List.countP_cons]
      simp only [decide_eq_true_eq]
      rw [if_neg (by omega), if_pos hx]
    | succ j =>
      have := ih j (by simpa using hj) (by simpa using h)
      simp only [List.set_cons_succ, List.countP_cons]
      omega
theorem BI.len_le {N : Nat} {st : List Int × List Int} (h : BI N st) : st.2.length ≤ N := by have := h.cnt; omega
theorem getD_setB (xs : List Int) (j v : Nat) (d : Int) (hv : v < xs.length) : (xs.set j d).getD v 0 = if j = v then d else xs.getD v 0 := by
  rw [List.getD_eq_getElem?_getD, List.getD_eq_getElem?_getD, List.getElem?_set]
  by_cases h : j = v
  · subst h; rw [if_pos rfl, if_pos rfl, if_pos hv]; rfl
  · rw [if_neg h, if_neg h]
theorem BI.put {N : Nat} {st : List Int × List Int} (h : BI N st) {j d : Int} (hj : 0 ≤ j ∧ j < N) (hn : st.1.getD j.toNat 0 < 0) (hd : 0 ≤ d ∧ d ≤ st.2.length) : BI N (st.1.set j.toNat d, st.2 ++ [j]) := by
  have hl := h.len
  refine ⟨by simp [hl], ?_, ?_, ?_⟩
  · intro x hx
    simp only [List.mem_append, List.mem_cons, List.not_mem_nil, or_false] at hx
    rcases hx with hx | rfl
    · obtain ⟨h1, h2⟩ := h.q x hx
      refine ⟨h1, ?_⟩
      show 0 ≤ (st.1.set j.toNat d).getD x.toNat 0
      rw [getD_setB _ _ _ _ (by omega)]
      split <;> omega
    · refine ⟨hj, ?_⟩
      show 0 ≤ (st.1.set x.toNat d).getD x.toNat 0
      rw [getD_setB _ _ _ _ (by omega), if_pos rfl]; omega
  · intro v hv
    have := h.lo v hv
    show -1 ≤ (st.1.set j.toNat d).getD v 0 ∧ (st.1.set j.toNat d).getD v 0 < ((st.2 ++ [j]).length : Nat)
    rw [getD_setB _ _ _ _ (by omega)]
    simp only [List.length_append, List.length_cons, List.length_nil]
    split <;> omega
  · have := countP_set_neg st.1 j.toNat d (by omega) hn hd.1
    have := h.cnt
    show (st.2 ++ [j]).length + (st.1.set j.toNat d).countP (· < 0) = N
    simp only [List.length_append, List.length_cons, List.length_nil]
    omega
theorem bfs0_BI (N i : Nat) (hi : i < N) : BI N (bfs0 N i, [(i : Int)]) := by
  have hat : ∀ v, v < N → (bfs0 N i).getD v 0 = if i = v then 0 else -1 := by
    intro v hv
    unfold bfs0
    rw [getD_setB _ _ _ _ (by simpa using hv)]
    split
    · rfl
    · rw [List.getD_eq_getElem?_getD, List.getElem?_replicate, if_pos hv]; rfl
  refine ⟨by simp [bfs0], ?_, ?_, ?_⟩
  · intro x hx
    simp only [List.mem_cons, List.not_mem_nil, or_false] at hx
    subst hx
    refine ⟨by omega, ?_⟩
    show 0 ≤ (bfs0 N i).getD (i : Int).toNat 0
    rw [Int.toNat_natCast, hat i hi, if_pos rfl]; omega
  · intro v hv
    show -1 ≤ (bfs0 N i).getD v 0 ∧ (bfs0 N i).getD v 0 < _
    rw [hat v hv]
    simp only [List.length_cons, List.length_nil]
    split <;> omega
  · show [(i : Int)].length + (bfs0 N i).countP (· < 0) = N
    have := countP_set_neg (List.replicate N (-1)) i 0 (by simpa using hi) (by rw [List.getD_eq_getElem?_getD, List.getElem?_replicate, if_pos hi]; decide) (by omega)
    have h2 : (List.replicate N (-1 : Int)).countP (· < 0) = N := by rw [List.countP_replicate]; simp
    unfold bfs0
    simp only [List.length_cons, List.length_nil]
    omega
theorem BI.inn {N : Nat} {d : Int} : ∀ (l : List Int) {st : List Int × List Int}, BI N st → (∀ y ∈ l, 0 ≤ y ∧ y < N) → (0 ≤ d ∧ d ≤ st.2.length) → BI N (bfsIn d l st)
  | [], st, h, _, _ => h
  | j :: r, st, h, hl, hd => by
    simp only [bfsIn]
    split
    · rename_i hn
      refine BI.inn r (h.put (hl j (by simp)) hn hd) (fun y hy => hl y (by simp [hy])) ?_
      simp only [List.length_append, List.length_cons, List.length_nil]
      omega
    · exact BI.inn r h (fun y hy => hl y (by simp [hy])) hd
/-- the inner loop keeps the beginning of the queue and what is known -/
theorem bfsIn_pre (d : Int) : ∀ (l : List Int) (st : List Int × List Int), st.2 <+: (bfsIn d l st).2
  | [], st => List.prefix_refl _
  | j :: r, st => by
    simp only [bfsIn]
    split
    · exact (List.prefix_append st.2 [j]).trans (bfsIn_pre d r (st.1.set j.toNat d, st.2 ++ [j]))
    · exact bfsIn_pre d r st
end Go.Proofs.YtlfongfhbkefmaaGreat.Ai
namespace Go.Proofs.YtlfongfhbkefmaaGreat.Ai
open Go
set_option linter.unusedVariables false
structure DI (L : List (List Int)) (i : Nat) (st : List Int × List Int) (k : Nat) : Prop where
  bi : BI L.length st
  iff : ∀ v, v < L.length → (0 ≤ st.1.getD v 0 ↔ (v : Int) ∈ st.2)
  src : ∀ v, v < L.length → 0 ≤ st.1.getD v 0 → (v = i ∧ st.1.getD v 0 = 0) ∨ ∃ u, u < L.length ∧ 0 ≤ st.1.getD u 0 ∧ (v : Int) ∈ L.getD u [] ∧ st.1.getD v 0 = st.1.getD u 0 + 1
  cl : ∀ j, j < k → ∀ y ∈ L.getD (st.2.getD j 0).toNat [], 0 ≤ st.1.getD y.toNat 0
  le : k ≤ st.2.length
  at_ : 0 ≤ st.1.getD i 0
theorem bfsIn_keep (d : Int) (v : Nat) : ∀ (l : List Int) (st : List Int × List Int), (∀ y ∈ l, 0 ≤ y ∧ y < st.1.length) → 0 ≤ st.1.getD v 0 → (bfsIn d l st).1.getD v 0 = st.1.getD v 0
  | [], st, _, _ => rfl
  | j :: r, st, hl, h => by
    simp only [bfsIn]
    have hj := hl j (by simp)
    split
    · rename_i hn
      have hvj : j.toNat ≠ v := fun e => by rw [e] at hn; omega
      have e1 : (st.1.set j.toNat d).getD v 0 = st.1.getD v 0 := by
        rw [List.getD_eq_getElem?_getD, List.getD_eq_getElem?_getD, List.getElem?_set_ne hvj]
      rw [bfsIn_keep d v r _ (fun y hy => by simpa using hl y (by simp [hy])) (by show 0 ≤ (st.1.set j.toNat d).getD v 0; rw [e1]; exact h)]
      exact e1
    · exact bfsIn_keep d v r st (fun y hy => hl y (by simp [hy])) h
theorem bfsIn_new (d : Int) (hd : 0 ≤ d) (v : Nat) : ∀ (l : List Int) (st : List Int × List Int), (∀ y ∈ l, 0 ≤ y ∧ y < st.1.length) → v < st.1.length → st.1.getD v 0 < 0 →
    (((v : Int) ∈ l ∧ (bfsIn d l st).1.getD v 0 = d ∧ (v : Int) ∈ (bfsIn d l st).2) ∨ ((v : Int) ∉ l ∧ (bfsIn d l st).1.getD v 0 = st.1.getD v 0 ∧ ((v : Int) ∈ (bfsIn d l st).2 → (v : Int) ∈ st.2)))
  | [], st, _, _, h => .inr ⟨by simp, rfl, id⟩
  | j :: r, st, hl, hv, h => by
    have hj := hl j (by simp)
    simp only [bfsIn]
    by_cases e : j = (v : Int)
    · subst e
      rw [Int.toNat_natCast, if_pos h]
      have e1 : (st.1.set v d).getD v 0 = d := by rw [getD_setB _ _ _ _ hv, if_pos rfl]
      refine .inl ⟨by simp, ?_, ?_⟩
      · rw [bfsIn_keep d v r _ (fun y hy => by simpa using hl y (by simp [hy])) (by show 0 ≤ (st.1.set v d).getD v 0; rw [e1]; exact hd)]
        exact e1
      · exact (bfsIn_pre d r _).subset (by simp)
    · have hne : ¬ (v : Int) = j := fun h => e h.symm
      split
      · rename_i hn
        have e1 : (st.1.set j.toNat d).getD v 0 = st.1.getD v 0 := by
          rw [getD_setB _ _ _ _ hv, if_neg (by omega)]
        rcases bfsIn_new d hd v r (st.1.set j.toNat d, st.2 ++ [j]) (fun y hy => by simpa using hl y (by simp [hy])) (by simpa using hv) (by show (st.1.set j.toNat d).getD v 0 < 0; rw [e1]; exact h) with ⟨h1, h2, h3⟩ | ⟨h1, h2, h3⟩
        · exact .inl ⟨by simp [h1], h2, h3⟩
        · refine .inr ⟨by simp [hne, h1], by rw [h2]; exact e1, fun h4 => ?_⟩
          have := h3 h4
          simpa [hne] using this
      · rcases bfsIn_new d hd v r st (fun y hy => hl y (by simp [hy])) hv h with ⟨h1, h2, h3⟩ | ⟨h1, h2, h3⟩
        · exact .inl ⟨by simp [h1], h2, h3⟩
        · exact .inr ⟨by simp [hne, h1], h2, h3⟩
theorem DI.step {L : List (List Int)} (hL : LOk L.length L) {i : Nat} {st : List Int × List Int} {k : Nat} (h : DI L i st k) (hk : k < st.2.length) :
    DI L i (bfsIn (st.1.getD (st.2.getD k 0).toNat 0 + 1) (L.getD (st.2.getD k 0).toNat []) st) (k + 1) := by
  have hm : st.2.getD k 0 ∈ st.2 := by simp [hk]
  obtain ⟨hxr, hx0⟩ := h.bi.q _ hm
  have hlo := h.bi.lo (st.2.getD k 0).toNat (by omega)
  have hlen := h.bi.len
  generalize hx : (st.2.getD k 0).toNat = x at *
  generalize hd : st.1.getD x 0 + 1 = d at *
  have hl := hL x
  have hl' : ∀ y ∈ L.getD x [], 0 ≤ y ∧ y < (st.1.length : Int) := by rw [hlen]; exact hl
  have hbi := BI.inn (d := d) _ h.bi hl (by omega)
  have hpre := bfsIn_pre d (L.getD x []) st
  have keep : ∀ v, 0 ≤ st.1.getD v 0 → _ := fun v hv => bfsIn_keep d v (L.getD x []) st hl' hv
  have new : ∀ v, v < L.length → st.1.getD v 0 < 0 → _ := fun v hv hn => bfsIn_new d (by omega) v (L.getD x []) st hl' (by omega) hn
  refine ⟨hbi, ?_, ?_, ?_, ?_, ?_⟩
  · intro v hv
    by_cases hn : 0 ≤ st.1.getD v 0
    · rw [keep v hn]
      exact ⟨fun _ => hpre.subset ((h.iff v hv).1 hn), fun _ => hn⟩
    · rcases new v hv (by omega) with ⟨h1, h2, h3⟩ | ⟨h1, h2, h3⟩
      · rw [h2]; exact ⟨fun _ => h3, fun _ => by omega⟩
      · rw [h2]; exact ⟨fun g => absurd g hn, fun g => (h.iff v hv).2 (h3 g)⟩
  · intro v hv hp
    by_cases hn : 0 ≤ st.1.getD v 0
    · rw [keep v hn]
      rcases h.src v hv hn with h1 | ⟨u, u1, u2, u3, u4⟩
      · exact .inl h1
      · exact .inr ⟨u, u1, by rw [keep u u2]; exact u2, u3, by rw [keep u u2]; exact u4⟩
    · rcases new v hv (by omega) with ⟨h1, h2, h3⟩ | ⟨h1, h2, h3⟩
      · refine .inr ⟨x, by omega, by rw [keep x hx0]; exact hx0, h1, ?_⟩
        rw [h2, keep x hx0, ← hd]
      · rw [h2] at hp; exact absurd hp hn
  · intro j hj y hy
    have hg : (bfsIn d (L.getD x []) st).2.getD j 0 = st.2.getD j 0 := by
      obtain ⟨t, ht⟩ := hpre
      rw [← ht, List.getD_eq_getElem?_getD, List.getElem?_append_left (by omega), ← List.getD_eq_getElem?_getD]
    rw [hg] at hy
    by_cases hn : 0 ≤ st.1.getD y.toNat 0
    · rw [keep _ hn]; exact hn
    · by_cases e : j = k
      · subst e
        rw [hx] at hy
        have hr := hl y hy
        rcases new y.toNat (by omega) (by omega) with ⟨h1, h2, h3⟩ | ⟨h1, h2, h3⟩
        · rw [h2]; omega
        · rw [Int.toNat_of_nonneg hr.1] at h1; exact absurd hy h1
      · exact absurd (h.cl j (by omega) y hy) hn
  · have := hpre.length_le
    omega
  · rw [keep i h.at_]; exact h.at_
theorem DI.run {L : List (List Int)} (hL : LOk L.length L) {i : Nat} : ∀ (f : Nat) (st : List Int × List Int) (k : Nat), f + k = L.length + 1 → DI L i st k → ∃ q, DI L i (bfsF L f st k, q) q.length
  | 0, st, k, hf, h => by have := h.bi.len_le; have := h.le; omega
  | f + 1, st, k, hf, h => by
    simp only [bfsF]
    split
    · rename_i hk
      exact DI.run hL f _ _ (by omega) (h.step hL hk)
    · have e : k = st.2.length := by have := h.le; omega
      exact ⟨st.2, by rw [← e]; exact h⟩
theorem DI.zero {L : List (List Int)} {i : Nat} (hi : i < L.length) : DI L i (bfs0 L.length i, [(i : Int)]) 0 := by
  have hat : ∀ v, v < L.length → (bfs0 L.length i).getD v 0 = if i = v then 0 else -1 := by
    intro v hv
    unfold bfs0
    rw [getD_setB _ _ _ _ (by simpa using hv)]
    split
    · rfl
    · rw [List.getD_eq_getElem?_getD, List.getElem?_replicate, if_pos hv]; rfl
  refine ⟨bfs0_BI _ i hi, ?_, ?_, fun j hj => absurd hj (Nat.not_lt_zero j), Nat.zero_le _, ?_⟩
  · intro v hv
    show 0 ≤ (bfs0 L.length i).getD v 0 ↔ (v : Int) ∈ [(i : Int)]
    rw [hat v hv, List.mem_singleton]
    split <;> omega
  · intro v hv h
    left
    have h' : 0 ≤ (bfs0 L.length i).getD v 0 := h
    rw [hat v hv] at h'
    show v = i ∧ (bfs0 L.length i).getD v 0 = 0
    rw [hat v hv]
    by_cases e : i = v
    · exact ⟨e.symm, by rw [if_pos e]⟩
    · rw [if_neg e] at h'; omega
  · show 0 ≤ (bfs0 L.length i).getD i 0
    rw [hat i hi, if_pos rfl]; omega
/-- the distance of a place in the queue -/
def dq (st : List Int × List Int) (a : Nat) : Int := st.1.getD (st.2.getD a 0).toNat 0
theorem bfsIn_mono (d : Int) (hd : 0 ≤ d) : ∀ (l : List Int) (st : List Int × List Int), (∀ y ∈ l, 0 ≤ y ∧ y < st.1.length) → (∀ x ∈ st.2, (0 ≤ x ∧ x < st.1.length) ∧ 0 ≤ st.1.getD x.toNat 0) →
    (∀ a b, a ≤ b → b < st.2.length → dq st a ≤ dq st b) → (∀ b, b < st.2.length → dq st b ≤ d) →
    (∀ a b, a ≤ b → b < (bfsIn d l st).2.length → dq (bfsIn d l st) a ≤ dq (bfsIn d l st) b) ∧ ∀ b, b < (bfsIn d l st).2.length → dq (bfsIn d l st) b ≤ d
  | [], st, _, _, h1, h2 => ⟨h1, h2⟩
  | j :: r, st, hl, hq, h1, h2 => by
    have hj := hl j (by simp)
    simp only [bfsIn]
    split
    · rename_i hn
      have keep : ∀ a, a < st.2.length → dq (st.1.set j.toNat d, st.2 ++ [j]) a = dq st a := by
        intro a ha
        have hm : st.2.getD a 0 ∈ st.2 := by simp [ha]
        have hx := hq _ hm
        unfold dq
        have e1 : (st.2 ++ [j]).getD a 0 = st.2.getD a 0 := by
          rw [List.getD_eq_getElem?_getD, List.getElem?_append_left ha, ← List.getD_eq_getElem?_getD]
        show (st.1.set j.toNat d).getD ((st.2 ++ [j]).getD a 0).toNat 0 = _
        rw [e1, getD_setB _ _ _ _ (by omega), if_neg (fun e => by rw [e] at hn; omega)]
      have last : dq (st.1.set j.toNat d, st.2 ++ [j]) st.2.length = d := by
        unfold dq
        show (st.1.set j.toNat d).getD ((st.2 ++ [j]).getD st.2.length 0).toNat 0 = d
        rw [show (st.2 ++ [j]).getD st.2.length 0 = j by simp, getD_setB _ _ _ _ (by omega), if_pos rfl]
      refine bfsIn_mono d hd r _ (fun y hy => by simpa using hl y (by simp [hy])) ?_ ?_ ?_
      · intro x hx
        rcases List.mem_append.1 hx with hx | hx
        · have := hq x hx
          refine ⟨by simpa using this.1, ?_⟩
          show 0 ≤ (st.1.set j.toNat d).getD x.toNat 0
          rw [getD_setB _ _ _ _ (by omega)]
          split <;> omega
        · rw [List.mem_singleton] at hx; subst hx
          refine ⟨by simpa using hj, ?_⟩
          show 0 ≤ (st.1.set x.toNat d).getD x.toNat 0
          rw [getD_setB _ _ _ _ (by omega), if_pos rfl]; exact hd
      · intro a b hab hb
        have hb' : b < st.2.length + 1 := by simpa using hb
        by_cases eb : b = st.2.length
        · subst eb
          rw [last]
          by_cases ea : a = st.2.length
          · subst ea; rw [last]; exact Int.le_refl _
          · rw [keep a (by omega)]; exact h2 a (by omega)
        · rw [keep b (by omega), keep a (by omega)]; exact h1 a b hab (by omega)
      · intro b hb
        have hb' : b < st.2.length + 1 := by simpa using hb
        by_cases eb : b = st.2.length
        · subst eb; rw [last]; exact Int.le_refl _
        · rw [keep b (by omega)]; exact h2 b (by omega)
    · exact bfsIn_mono d hd r st (fun y hy => hl y (by simp [hy])) hq h1 h2
structure DS (L : List (List Int)) (i : Nat) (st : List Int × List Int) (k : Nat) : Prop where
  di : DI L i st k
  zero : st.1.getD i 0 = 0
  mono : ∀ a b, a ≤ b → b < st.2.length → dq st a ≤ dq st b
  near : ∀ a b, k ≤ a → a < st.2.length → b < st.2.length → dq st b ≤ dq st a + 1
  ed : ∀ a, a < k → ∀ y ∈ L.getD (st.2.getD a 0).toNat [], 0 ≤ st.1.getD y.toNat 0 ∧ st.1.getD y.toNat 0 ≤ dq st a + 1
theorem DS.step {L : List (List Int)} (hL : LOk L.length L) {i : Nat} (hi : i < L.length) {st : List Int × List Int} {k : Nat} (h : DS L i st k) (hk : k < st.2.length) :
    DS L i (bfsIn (st.1.getD (st.2.getD k 0).toNat 0 + 1) (L.getD (st.2.getD k 0).toNat []) st) (k + 1) := by
  have hd1 := h.di.step hL hk
  have hm : st.2.getD k 0 ∈ st.2 := by simp [hk]
  obtain ⟨hxr, hx0⟩ := h.di.bi.q _ hm
  have hlen := h.di.bi.len
  have hl := hL (st.2.getD k 0).toNat
  have hdk : dq st k + 1 = st.1.getD (st.2.getD k 0).toNat 0 + 1 := rfl
  have hl' : ∀ y ∈ L.getD (st.2.getD k 0).toNat [], 0 ≤ y ∧ y < (st.1.length : Int) := by rw [hlen]; exact hl
  have hmono := bfsIn_mono (dq st k + 1) (by unfold dq; omega) _ st hl' (fun x hx => by have := h.di.bi.q x hx; rw [hlen]; exact this) h.mono (fun b hb => h.near k b (Nat.le_refl _) hk hb)
  have hpre := bfsIn_pre (dq st k + 1) (L.getD (st.2.getD k 0).toNat []) st
  have keep : ∀ v, 0 ≤ st.1.getD v 0 → _ := fun v hv => bfsIn_keep (dq st k + 1) v (L.getD (st.2.getD k 0).toNat []) st hl' hv
  have gq : ∀ a, a < st.2.length → (bfsIn (dq st k + 1) (L.getD (st.2.getD k 0).toNat []) st).2.getD a 0 = st.2.getD a 0 := by
    intro a ha
    obtain ⟨t, ht⟩ := hpre
    rw [← ht, List.getD_eq_getElem?_getD, List.getElem?_append_left ha, ← List.getD_eq_getElem?_getD]
  have kq : ∀ a, a < st.2.length → dq (bfsIn (dq st k + 1) (L.getD (st.2.getD k 0).toNat []) st) a = dq st a := by
    intro a ha
    have hma : st.2.getD a 0 ∈ st.2 := by simp [ha]
    unfold dq at *
    rw [gq a ha]
    exact keep _ (h.di.bi.q _ hma).2
  have hpl := hpre.length_le
  rw [← hdk] at hd1 ⊢
  refine ⟨hd1, ?_, hmono.1, ?_, ?_⟩
  · rw [keep i (by rw [h.zero]; exact Int.le_refl _)]; exact h.zero
  · intro a b ha hal hb
    have h1 := hmono.2 b hb
    have h2 := hmono.1 k a (by omega) hal
    rw [kq k hk] at h2
    omega
  · intro a ha y hy
    rw [gq a (by omega)] at hy
    by_cases e : a = k
    · subst e
      rw [kq a hk]
      have hyr := hl y hy
      by_cases hn : 0 ≤ st.1.getD y.toNat 0
      · rw [keep _ hn]
        refine ⟨hn, ?_⟩
        have hin := (h.di.iff y.toNat (by omega)).1 hn
        rw [Int.toNat_of_nonneg hyr.1] at hin
        obtain ⟨b, hb, eb⟩ := List.mem_iff_getElem.1 hin
        have e2 : st.2.getD b 0 = y := by simp [hb, eb]
        have := h.near a b (Nat.le_refl _) hk hb
        have e3 : dq st b = st.1.getD y.toNat 0 := by unfold dq; rw [e2]
        rw [e3] at this; exact this
      · rcases bfsIn_new (dq st a + 1) (by unfold dq; omega) y.toNat _ st hl' (by omega) (by omega) with ⟨_, g2, _⟩ | ⟨g1, _⟩
        · rw [g2]; exact ⟨by unfold dq; omega, Int.le_refl _⟩
        · rw [Int.toNat_of_nonneg hyr.1] at g1; exact absurd hy g1
    · rw [kq a (by omega)]
      have h1 := h.ed a (by omega) y hy
      rw [keep _ h1.1]; exact h1
theorem DS.run {L : List (List Int)} (hL : LOk L.length L) {i : Nat} (hi : i < L.length) : ∀ (f : Nat) (st : List Int × List Int) (k : Nat), f + k = L.length + 1 → DS L i st k → ∃ q, DS L i (bfsF L f st k, q) q.length
  | 0, st, k, hf, h => by have := h.di.bi.len_le; have := h.di.le; omega
  | f + 1, st, k, hf, h => by
    simp only [bfsF]
    split
    · rename_i hk
      exact DS.run hL hi f _ _ (by omega) (h.step hL hi hk)
    · have e : k = st.2.length := by have := h.di.le; omega
      exact ⟨st.2, by rw [← e]; exact h⟩
end Go.Proofs.YtlfongfhbkefmaaGreat.Ai
namespace Go.Proofs.YtlfongfhbkefmaaGreat.Ai
open Go Go.RowKit
set_option linter.unusedVariables false
set_option linter.unusedSimpArgs false
/-- all numbers below one -/
def alls (n : Nat) : List Int := (List.range n).map fun z : Nat => (z : Int)
theorem alls_len (n : Nat) : (alls n).length = n := by simp [alls]
theorem alls_mem (n : Nat) (z : Int) : z ∈ alls n ↔ 0 ≤ z ∧ z < n := by
  unfold alls
  rw [List.mem_map]
  constructor
  · rintro ⟨a, ha, rfl⟩
    have := List.mem_range.1 ha
    omega
  · rintro ⟨h1, h2⟩
    exact ⟨z.toNat, List.mem_range.2 (by omega), by omega⟩
theorem alls_srt (n : Nat) : (alls n).Pairwise (· < ·) := by
  unfold alls
  refine List.Pairwise.map _ ?_ List.pairwise_lt_range
  intro a b hab
  omega
theorem alls_succ (n : Nat) : alls (n + 1) = alls n ++ [(n : Int)] := by
  unfold alls; rw [List.range_succ, List.map_append]; rfl
end Go.Proofs.YtlfongfhbkefmaaGreat.Ai
namespace Go.Proofs.YtlfongfhbkefmaaGreat.Ai
open Go
set_option linter.unusedVariables false
/-- the neighbors of one place: those not seen yet are added -/
def ptIn : List Int → List Bool × List Int → List Bool × List Int
  | [], st => st
  | j :: r, st => if st.1.getD j.toNat false = true then ptIn r st else ptIn r (st.1.set j.toNat true, st.2 ++ [j])
def ptF (L : List (List Int)) : Nat → List Bool × List Int → Nat → List Bool × List Int
  | 0, st, _ => st
  | f + 1, st, k => if k < st.2.length then ptF L f (ptIn (L.getD (st.2.getD k 0).toNat []) st) (k + 1) else st
/-- the numbers of a list, in order -/
def inOrd (N : Nat) (q : List Int) : List Int := ((List.range N).map fun z : Nat => (z : Int)).filter fun z => decide (z ∈ q)
/-- the parts that begin at the first k places -/
def prF (L : List (List Int)) (s0 : List Bool) : Nat → List Bool × List (List Int)
  | 0 => (s0, [])
  | k + 1 => if (prF L s0 k).1.getD k false = true then prF L s0 k else
      ((ptF L (L.length + 1) ((prF L s0 k).1.set k true, [(k : Int)]) 0).1, (prF L s0 k).2 ++ [inOrd L.length (ptF L (L.length + 1) ((prF L s0 k).1.set k true, [(k : Int)]) 0).2])
def seen0 (N : Nat) (without : Int) : List Bool := if 0 ≤ without then (List.replicate N false).set without.toNat true else List.replicate N false
/-- all parts, without a place -/
def partsL (L : List (List Int)) (without : Int) : List (List Int) := (prF L (seen0 L.length without) L.length).2
structure PI (N C : Nat) (st : List Bool × List Int) : Prop where
  len : st.1.length = N
  q : ∀ x ∈ st.2, (0 ≤ x ∧ x < N) ∧ st.1.getD x.toNat false = true
  nd : st.2.Nodup
  cnt : st.2.length + st.1.countP (fun b => !b) = C
  le : C ≤ N
theorem getD_setBool (xs : List Bool) (j v : Nat) (d : Bool) (hv : v < xs.length) : (xs.set j d).getD v false = if j = v then d else xs.getD v false := by
  rw [List.getD_eq_getElem?_getD, List.getD_eq_getElem?_getD, List.getElem?_set]
  by_cases h : j = v
  · subst h; rw [if_pos rfl, if_pos rfl, if_pos hv]; rfl
  · rw [if_neg h, if_neg h]
theorem countP_set_true : ∀ (xs : List Bool) (j : Nat), j < xs.length → xs.getD j false = false → (xs.set j true).countP (fun b => !b) + 1 = xs.countP (fun b => !b)
  | [], j, h, _ => by simp at h
  | x :: xs, 0, _, h => by
    have hx : x = false := by simpa using h
    subst hx
    simp [List.countP_cons]
  | x :: xs, j + 1, hj, h => by
    have := countP_set_true xs j (by simpa using hj) (by simpa using h)
    simp only [List.set_cons_succ, List.countP_cons]
    omega
theorem PI.len_le {N C : Nat} {st : List Bool × List Int} (h : PI N C st) : st.2.length ≤ N := by have := h.cnt; have := h.le; omega
theorem PI.put {N C : Nat} {st : List Bool × List Int} (h : PI N C st) {j : Int} (hj : 0 ≤ j ∧ j < N) (hn : ¬ st.1.getD j.toNat false = true) : PI N C (st.1.set j.toNat true, st.2 ++ [j]) := by
  have hl := h.len
  have hf : st.1.getD j.toNat false = false := by simpa using hn
  refine ⟨by simp [hl], ?_, ?_, ?_, h.le⟩
  · intro x hx
    simp only [List.mem_append, List.mem_cons, List.not_mem_nil, or_false] at hx
    rcases hx with hx | rfl
    · obtain ⟨h1, h2⟩ := h.q x hx
      refine ⟨h1, ?_⟩
      show (st.1.set j.toNat true).getD x.toNat false = true
      rw [getD_setBool _ _ _ _ (by omega)]
      split
      · rfl
      · exact h2
    · refine ⟨hj, ?_⟩
      show (st.1.set x.toNat true).getD x.toNat false = true
      rw [getD_setBool _ _ _ _ (by omega), if_pos rfl]
  · rw [List.nodup_append]
    refine ⟨h.nd, by simp, ?_⟩
    intro a ha b hb hab
    simp only [List.mem_cons, List.not_mem_nil, or_false] at hb
    subst hab; subst hb
    exact hn (h.q a ha).2
  · have := countP_set_true st.1 j.toNat (by omega) hf
    have := h.cnt
    show (st.2 ++ [j]).length + (st.1.set j.toNat true).countP (fun b => !b) = C
    simp only [List.length_append, List.length_cons, List.length_nil]
    omega
theorem PI.first {N : Nat} {s : List Bool} (hs : s.length = N) {k : Nat} (hk : k < N) (hn : ¬ s.getD k false = true) : PI N (s.countP fun b => !b) (s.set k true, [(k : Int)]) := by
  have hf : s.getD k false = false := by simpa using hn
  refine ⟨by simp [hs], ?_, by simp, ?_, ?_⟩
  · intro x hx
    simp only [List.mem_cons, List.not_mem_nil, or_false] at hx
    subst hx
    refine ⟨by omega, ?_⟩
    show (s.set k true).getD (k : Int).toNat false = true
    rw [Int.toNat_natCast, getD_setBool _ _ _ _ (by omega), if_pos rfl]
  · have := countP_set_true s k (by omega) hf
    show [(k : Int)].length + (s.set k true).countP (fun b => !b) = _
    simp only [List.length_cons, List.length_nil]
    omega
  · rw [← hs]; exact List.countP_le_length
theorem PI.inn {N C : Nat} : ∀ (l : List Int) {st : List Bool × List Int}, PI N C st → (∀ y ∈ l, 0 ≤ y ∧ y < N) → PI N C (ptIn l st)
  | [], st, h, _ => h
  | j :: r, st, h, hl => by
    simp only [ptIn]
    split
    · exact PI.inn r h (fun y hy => hl y (by simp [hy]))
    · rename_i hn
      exact PI.inn r (h.put (hl j (by simp)) hn) (fun y hy => hl y (by simp [hy]))
theorem ptIn_pre : ∀ (l : List Int) (st : List Bool × List Int), st.2 <+: (ptIn l st).2
  | [], st => List.prefix_refl _
  | j :: r, st => by
    simp only [ptIn]
    split
    · exact ptIn_pre r st
    · exact (List.prefix_append st.2 [j]).trans (ptIn_pre r (st.1.set j.toNat true, st.2 ++ [j]))
theorem ptF_done (L : List (List Int)) (f : Nat) (st : List Bool × List Int) (k : Nat) (h : st.2.length ≤ k) : ptF L f st k = st := by
  cases f with
  | zero => rfl
  | succ f => simp only [ptF]; rw [if_neg (by omega)]
theorem ptF_step (L : List (List Int)) (f : Nat) (st : List Bool × List Int) (k : Nat) (h : k < st.2.length) : ptF L (f + 1) st k = ptF L f (ptIn (L.getD (st.2.getD k 0).toNat []) st) (k + 1) := by
  simp only [ptF]; rw [if_pos h]
theorem ptF_PI (L : List (List Int)) (hL : LOk L.length L) {C : Nat} : ∀ (f : Nat) (st : List Bool × List Int) (k : Nat), PI L.length C st → PI L.length C (ptF L f st k)
  | 0, st, k, h => h
  | f + 1, st, k, h => by
    simp only [ptF]
    split
    · exact ptF_PI L hL f _ _ (PI.inn _ h (hL _))
    · exact h
theorem ptIn_drop (l : List Int) (j : Nat) (hj : j < l.length) (st : List Bool × List Int) : ptIn (l.drop j) st = if st.1.getD (l.getD j 0).toNat false = true then ptIn (l.drop (j + 1)) st else ptIn (l.drop (j + 1)) (st.1.set (l.getD j 0).toNat true, st.2 ++ [l.getD j 0]) := by
  have e : l.getD j 0 = l[j] := by simp [hj]
  rw [List.drop_eq_getElem_cons hj, e]
  rfl
/-- in order and the same numbers -/
theorem inOrd_eq {N : Nat} {q ys : List Int} (hq : q.Nodup) (hr : ∀ x ∈ q, 0 ≤ x ∧ x < N) (hp : ys.Perm q) (ha : Asc ys) : ys = inOrd N q := by
  have hnd : (inOrd N q).Nodup := by
    unfold inOrd
    refine List.Pairwise.filter _ ?_
    refine List.Pairwise.map _ ?_ List.nodup_range
    intro a b hab e
    exact hab (by omega)
  have hperm : ys.Perm (inOrd N q) := by
    refine hp.trans ((List.perm_ext_iff_of_nodup hq hnd).2 fun z => ?_)
    unfold inOrd
    rw [List.mem_filter, decide_eq_true_iff]
    constructor
    · intro hz
      have := hr z hz
      exact ⟨List.mem_map.2 ⟨z.toNat, List.mem_range.2 (by omega), by omega⟩, hz⟩
    · exact fun h => h.2
  have hs : (inOrd N q).Pairwise (· ≤ ·) := by
    unfold inOrd
    refine List.Pairwise.filter _ ?_
    refine List.Pairwise.map _ ?_ List.pairwise_lt_range
    intro a b hab
    omega
  exact hperm.eq_of_pairwise (fun a b _ _ h1 h2 => by omega) (asc_of ha) hs
theorem prF_len (L : List (List Int)) (s0 : List Bool) (h0 : s0.length = L.length) (hL : LOk L.length L) (k : Nat) (hk : k ≤ L.length) : (prF L s0 k).1.length = L.length ∧ (prF L s0 k).2.length ≤ k := by
  induction k with
  | zero => exact ⟨h0, by simp [prF]⟩
  | succ k ih =>
    obtain ⟨i1, i2⟩ := ih (by omega)
    simp only [prF]
    split
    · exact ⟨i1, by omega⟩
    · rename_i hn
      have := ptF_PI L hL (L.length + 1) _ 0 (PI.first i1 (by omega) hn)
      exact ⟨this.len, by simp; omega⟩
end Go.Proofs.YtlfongfhbkefmaaGreat.Ai
namespace Go.Proofs.YtlfongfhbkefmaaGreat.Ai
open Go
def ords98 : List (Nat × List (Nat × Bool)) := []
def cd98 : Cd := (.seq (.reg [⟨⟨some 4, Op.assign (Operand.const (Value.bool false)), none⟩, []⟩]) (.seq (.reg [⟨⟨some 5, Op.move (Operand.tmp 0), none⟩, []⟩,
  ⟨⟨some 6, Op.move (Operand.tmp 1), none⟩, []⟩,
  ⟨⟨some 7, Op.binOp BinOp.shr 109 (Operand.tmp 5) (Operand.tmp 6) 3, none⟩, []⟩,
  ⟨⟨some 8, Op.binOp BinOp.and 109 (Operand.tmp 7) (Operand.const (Value.int IntKind.u64 1)) 109, none⟩, []⟩,
  ⟨⟨some 9, Op.binOp BinOp.eql 109 (Operand.tmp 8) (Operand.const (Value.int IntKind.u64 1)) 109, none⟩, []⟩,
  ⟨⟨some 4, Op.assign (Operand.tmp 9), none⟩, []⟩]) .ret))
theorem sl98 : slim Tryz.f98.ntmps ords98 (Tryz.f98.body.getD .skip) = some cd98 := by kernel_rfl
theorem in98 {args : List Value} {H : AH} {R : Value → AH → Prop} (hl : args.length = 2) (h : ∀ (Q : Exit → Sl → AH → Prop), (∀ e s H, endA Tryz.prog [ResultVar.tmp 4] R e s H → Q e s H) → wpC Tryz.prog cd98 Q (enterA args) H) : ACalls Tryz.prog 98 args H R :=
  ACalls.intro (by kernel_rfl) Tryz.func98 rfl (by kernel_rfl) sl98 hl (of_decide_eq_true (by kernel_rfl)) (by kernel_rfl) h
end Go.Proofs.YtlfongfhbkefmaaGreat.Ai
namespace Go.Proofs.YtlfongfhbkefmaaGreat.Ai
open Go Go.RowKit
set_option linter.unusedVariables false
set_option linter.unusedSimpArgs false
theorem ofInt_nat (n : Nat) (h : n < 2 ^ 64) : (BitVec.ofInt 64 (n : Int)).toNat = n := by
  rw [BitVec.ofInt_natCast, BitVec.toNat_ofNat, Nat.mod_eq_of_lt h]
theorem and_nat (a b : Nat) (ha : a < 2 ^ 64) (hb : b < 2 ^ 64) : bitsA .and .u64 (a : Int) (b : Int) = ((a &&& b : Nat) : Int) := by
  have h : a &&& b < 2 ^ 64 := Nat.lt_of_le_of_lt Nat.and_le_left ha
  have e : (BitVec.ofInt 64 (a : Int) &&& BitVec.ofInt 64 (b : Int)).toNat = a &&& b := by rw [BitVec.toNat_and, ofInt_nat a ha, ofInt_nat b hb]
  show IntKind.u64.wrap (((BitVec.ofInt 64 (a : Int) &&& BitVec.ofInt 64 (b : Int)).toNat : Nat) : Int) = _
  rw [e, IntKind.wrap_u64]; omega
theorem or_nat (a b : Nat) (ha : a < 2 ^ 64) (hb : b < 2 ^ 64) : bitsA .or .u64 (a : Int) (b : Int) = ((a ||| b : Nat) : Int) := by
  have h : a ||| b < 2 ^ 64 := Nat.or_lt_two_pow ha hb
  have e : (BitVec.ofInt 64 (a : Int) ||| BitVec.ofInt 64 (b : Int)).toNat = a ||| b := by rw [BitVec.toNat_or, ofInt_nat a ha, ofInt_nat b hb]
  show IntKind.u64.wrap (((BitVec.ofInt 64 (a : Int) ||| BitVec.ofInt 64 (b : Int)).toNat : Nat) : Int) = _
  rw [e, IntKind.wrap_u64]; omega
theorem shr_nat (a y : Nat) (hy : y ≤ 64) : (a : Int).fdiv (2 ^ (min (y : Int).toNat 64)) = ((a / 2 ^ y : Nat) : Int) := by
  rw [Int.toNat_natCast, Nat.min_eq_left hy]
  rw [Int.fdiv_eq_ediv_of_nonneg _ (Int.le_of_lt (Int.pow_pos (by decide)))]
  norm_cast
theorem bit_and (b y : Nat) : ((b / 2 ^ y) &&& 1 = 1) ↔ b.testBit y = true := by
  rw [Nat.testBit_eq_decide_div_mod_eq, Nat.and_one_is_mod]
  simp
theorem bin_shr (P : Program) (t : TypeId) (b y : Nat) (hy : y < 64) : binA P .shr t (.int .u64 (b : Int)) (.int .i64 (y : Int)) = some (.int .u64 ((b / 2 ^ y : Nat) : Int)) := by
  have : ¬ ((y : Int) < 0) := by omega
  simp only [binA, shiftA, this, if_false, IntKind.bits]
  rw [if_pos (.inr trivial)]
  have := shr_nat b y (by omega)
  simp only [this]
theorem bin_and (P : Program) (t : TypeId) (a b : Nat) (ha : a < 2 ^ 64) (hb : b < 2 ^ 64) : binA P .and t (.int .u64 (a : Int)) (.int .u64 (b : Int)) = some (.int .u64 ((a &&& b : Nat) : Int)) := by
  simp only [binA, intA, and_nat a b ha hb]
  simp
theorem bin_or (P : Program) (t : TypeId) (a b : Nat) (ha : a < 2 ^ 64) (hb : b < 2 ^ 64) : binA P .or t (.int .u64 (a : Int)) (.int .u64 (b : Int)) = some (.int .u64 ((a ||| b : Nat) : Int)) := by
  simp only [binA, intA, or_nat a b ha hb]
  simp
theorem bin_shl (P : Program) (t : TypeId) (y : Nat) (hy : y < 64) : binA P .shl t (.int .u64 1) (.int .i64 (y : Int)) = some (.int .u64 ((2 ^ y : Nat) : Int)) := by
  have h0 : ¬ ((y : Int) < 0) := by omega
  have h1 : 2 ^ y < 2 ^ 64 := Nat.pow_lt_pow_right (by decide) hy
  have h2 : (1 : Int) * 2 ^ (min (y : Int).toNat 64) = ((2 ^ y : Nat) : Int) := by
    rw [Int.toNat_natCast, Nat.min_eq_left (by omega), Int.one_mul]; norm_cast
  have h3 : binA P .shl t (.int .u64 1) (.int .i64 (y : Int)) = some (.int .u64 (IntKind.u64.wrap ((1 : Int) * 2 ^ (min (y : Int).toNat 64)))) := by
    simp only [binA, shiftA]
    rw [if_pos (.inl trivial), if_neg h0]; rfl
  have h4 : ((2 ^ y : Nat) : Int) % 18446744073709551616 = ((2 ^ y : Nat) : Int) := by
    generalize 2 ^ y = z at h1
    omega
  rw [h3, h2, IntKind.wrap_u64, h4]
theorem div_lt (b y : Nat) (hb : b < 2 ^ 64) : b / 2 ^ y < 2 ^ 64 := Nat.lt_of_le_of_lt (Nat.div_le_self _ _) hb
theorem has_c (b y : Nat) (H : AH) (hb : b < 2 ^ 64) (hy : y < 64) : ACalls Tryz.prog 98 [.int .u64 (b : Int), .int .i64 (y : Int)] H fun r H' => r = .bool (b.testBit y) ∧ H = H' := by
  refine in98 rfl ?_
  intro Q hQ
  have e1 := bin_shr Tryz.prog 109 b y hy
  have e2 : binA Tryz.prog .and 109 (.int .u64 ((b / 2 ^ y : Nat) : Int)) (.int .u64 1) = some (.int .u64 (((b / 2 ^ y) &&& 1 : Nat) : Int)) := bin_and Tryz.prog 109 (b / 2 ^ y) 1 (div_lt b y hb) (by decide)
  simp (maxSteps := 1000000) (disch := omega) only [cd98, e1, e2, S, S1, S2, S3, S4, S5, ST, eq_self, reduceIte, reduceCtorEq, Nat.reduceEqDiff, Nat.reduceAdd]
  refine hQ _ _ _ ?_
  simp (maxSteps := 1000000) (disch := omega) only [S, S1, S2, S3, S4, S5, ST, eq_self, reduceIte, reduceCtorEq, Nat.reduceEqDiff, Nat.reduceAdd]
  have : ((((b / 2 ^ y) &&& 1 : Nat) : Int) = 1) ↔ b.testBit y = true := by
    rw [← bit_and]; omega
  simp only [this]
  simp
/-- a word that is a set of numbers below L -/
def Bits (b : Nat) (L : Nat) (s : List Int) : Prop := b < 256 ∧ ∀ z, z < L → b.testBit z = decide ((z : Int) ∈ s)
theorem Bits.or {b L y : Nat} {s : List Int} (h : Bits b L s) (hy : y < 8) : Bits (b ||| 2 ^ y) L (s ++ [(y : Int)]) := by
  refine ⟨?_, fun z hz => ?_⟩
  · have h1 : 2 ^ y < 2 ^ 8 := Nat.pow_lt_pow_right (by decide) hy
    exact Nat.or_lt_two_pow (n := 8) h.1 h1
  · rw [Nat.testBit_or, h.2 z hz, Nat.testBit_two_pow]
    have e : (y = z) ↔ ((z : Int) = y) := by omega
    by_cases hm : (z : Int) ∈ s <;> by_cases hz2 : y = z <;> simp [hm, hz2, e]
    · intro hh; exact hz2 (by omega)
theorem Bits.no {b L x y : Nat} {s : List Int} (h : Bits b L s) (hx : x < L) (hy : y < L) : (b &&& (2 ^ x ||| 2 ^ y) ≠ 0) ↔ ((x : Int) ∈ s ∨ (y : Int) ∈ s) := by
  have hbx := h.2 x hx
  have hby := h.2 y hy
  constructor
  · intro hne
    apply Decidable.byContradiction
    intro hno
    rw [not_or] at hno
    rw [decide_eq_false hno.1] at hbx
    rw [decide_eq_false hno.2] at hby
    apply hne
    apply Nat.eq_of_testBit_eq
    intro z
    rw [Nat.testBit_and, Nat.testBit_or, Nat.testBit_two_pow, Nat.testBit_two_pow, Nat.zero_testBit]
    by_cases e1 : x = z
    · subst e1; rw [hbx]; rfl
    · by_cases e2 : y = z
      · subst e2; rw [hby]; rfl
      · simp [e1, e2]
  · rintro h' h0
    rcases h' with g | g
    · rw [decide_eq_true g] at hbx
      have := congrArg (fun n => Nat.testBit n x) h0
      simp only [Nat.testBit_and, Nat.testBit_or, Nat.testBit_two_pow, Nat.zero_testBit, hbx] at this
      simp at this
    · rw [decide_eq_true g] at hby
      have := congrArg (fun n => Nat.testBit n y) h0
      simp only [Nat.testBit_and, Nat.testBit_or, Nat.testBit_two_pow, Nat.zero_testBit, hby] at this
      simp at this
theorem Bits.or2 {b L x y : Nat} {s : List Int} (h : Bits b L s) (hx : x < 8) (hy : y < 8) : Bits (b ||| (2 ^ x ||| 2 ^ y)) L (s ++ [(x : Int), (y : Int)]) := by
  rw [← Nat.or_assoc]
  have := (h.or hx).or hy
  rwa [List.append_assoc] at this
end Go.Proofs.YtlfongfhbkefmaaGreat.Ai
namespace Go.Proofs.YtlfongfhbkefmaaGreat.Ai
open Go
end Go.Proofs.YtlfongfhbkefmaaGreat.Ai
namespace Go.Proofs.YtlfongfhbkefmaaGreat.Ai
open Go Go.RowKit
set_option linter.unusedVariables false
set_option linter.unusedSimpArgs false
/-- a part of an object -/
theorem sl_own {P : Program} {t e : TypeId} (hu : P.underlying t = some (.slice e)) (hc : P.cellsOf e = 1) {H : AH} {o k n c : Nat} {vs : List Value} {ro : Bool} (ho : H[o]? = some (.cells vs e ro)) {lo hi : Option Value} {l r : Nat} (h1 : boundA lo 0 = some l) (h2 : boundA hi n = some r) (hl : l ≤ r) (hr : r ≤ n) :
    sliceA P t (.slice (some ⟨o, k, none⟩) n c) lo hi none H = some (.slice (some ⟨o, k + l, none⟩) (r - l) (r - l)) := by
  simp only [sliceA, hu, h1, h2, ho, hc, Nat.mul_one]
  rw [if_pos ⟨hl, hr, trivial, Nat.one_pos⟩]
end Go.Proofs.YtlfongfhbkefmaaGreat.Ai
namespace Go.Proofs.YtlfongfhbkefmaaGreat.Ai
open Go
end Go.Proofs.YtlfongfhbkefmaaGreat.Ai
namespace Go.Proofs.YtlfongfhbkefmaaGreat.Ai
open Go Go.RowKit
set_option linter.unusedVariables false
set_option linter.unusedSimpArgs false
/-- the list of distances and the queue in the heap -/
def QH (H0 H : AH) (oo : Nat) (out : List Int) (oq kq nq : Nat) (q : List Int) : Prop :=
  (∃ zs, H[oq]? = some (.cells (ints zs) 3 false) ∧ (zs.drop kq).take nq = q ∧ kq + nq ≤ zs.length) ∧ H[oo]? = some (.cells (ints out) 3 false) ∧ H0.length ≤ oo ∧ H0.length ≤ oq ∧ oq ≠ oo ∧ H0 <+: H
/-- appending to a part of an object of ints -/
theorem app_q {P : Program} {t e : TypeId} (hu : P.underlying t = some (.slice e)) (hc : P.cellsOf e = 1) (hby : P.bytesOf e ≤ 64) (hz : zeroOk P e = true) {H : AH} {o k n c : Nat} {zs : List Int} {x : Int} (ho : H[o]? = some (.cells (ints zs) e false)) (hn : k + n ≤ zs.length) (hb : n ≤ 1099511627775) :
    appendA P t t (.slice (some ⟨o, k, none⟩) n c) (.slice (some ⟨H.length, 0, none⟩) 1 1) (H ++ [.cells [.int .i64 x] e false]) = some (.slice (some ⟨H.length + 1, 0, none⟩) (n + 1) (n + 1), H.set o .dead ++ [.cells [.int .i64 x] e false, .cells (ints ((zs.drop k).take n ++ [x])) e false]) := by
  have hlt : o < H.length := at_lt ho
  have hb2 : (n + 1) * P.bytesOf e ≤ 140737488355328 := by
    refine Nat.le_trans (Nat.mul_le_mul_left _ hby) ?_
    omega
  have ho2 : (H ++ [AObj.cells [.int .i64 x] e false])[o]? = some (.cells (ints zs) e false) := at_app ho _
  have hsc : sliceCells P e (.slice (some ⟨H.length, 0, none⟩) 1 1) (H ++ [.cells [.int .i64 x] e false]) = some (1, [.int .i64 x]) := by
    simp only [sliceCells, at_new, hc]; simp
  simp only [appendA, hu, hc, hsc, ho2, hz]
  rw [if_pos (by simp), if_neg (by simp), if_pos ⟨trivial, by rw [ints_len]; omega, hb2, by omega, trivial⟩]
  have : List.take (n * 1) (List.drop k (ints zs)) ++ [Value.int .i64 x] = ints ((zs.drop k).take n ++ [x]) := by
    simp [ints, List.map_take, List.map_drop]
  rw [this, List.length_append, List.set_append_left _ _ hlt]
  simp
theorem QH.push {H0 H : AH} {oo : Nat} {out : List Int} {oq kq nq : Nat} {q : List Int} (h : QH H0 H oo out oq kq nq q) (y : Nat) (d x : Int) (hb : nq ≤ 1099511627775) :
    ∃ H2, appendA Tryz.prog 38 38 (.slice (some ⟨oq, kq, none⟩) nq nq) (.slice (some ⟨(H.set oo (.cells (ints (out.set y d)) 3 false)).length, 0, none⟩) 1 1) (H.set oo (.cells (ints (out.set y d)) 3 false) ++ [.cells [.int .i64 x] 3 false]) = some (.slice (some ⟨(H.set oo (.cells (ints (out.set y d)) 3 false)).length + 1, 0, none⟩) (nq + 1) (nq + 1), H2) ∧
      QH H0 H2 oo (out.set y d) ((H.set oo (.cells (ints (out.set y d)) 3 false)).length + 1) 0 (nq + 1) (q ++ [x]) := by
  obtain ⟨⟨zs, h1, h2, h3⟩, h4, h5, h6, h7, h8⟩ := h
  have hlt := at_lt h4
  generalize hH1 : H.set oo (.cells (ints (out.set y d)) 3 false) = H1
  have l1 : H1.length = H.length := by rw [← hH1]; simp
  have k1 : H1[oq]? = some (.cells (ints zs) 3 false) := by rw [← hH1, List.getElem?_set_ne (fun e => h7 e.symm)]; exact h1
  have k4 : H1[oo]? = some (.cells (ints (out.set y d)) 3 false) := by rw [← hH1]; exact at_set h4
  have hp1 : H0 <+: H1 := by rw [← hH1]; exact pre_set h8 h5 _
  refine ⟨_, app_q Tryz.underlying38 cs3 (by rw [by3]; decide) zk3 k1 h3 hb, ⟨(zs.drop kq).take nq ++ [x], ?_, ?_, ?_⟩, ?_, h5, ?_, ?_, ?_⟩
  · rw [List.getElem?_append_right (by simp)]
    simp
  · rw [List.drop_zero, h2, List.take_of_length_le]
    rw [← h2]; simp; omega
  · simp; omega
  · rw [List.getElem?_append_left (by simp; omega), List.getElem?_set_ne h7]
    exact k4
  · have := h8.length_le; omega
  · omega
  · exact pre_app (pre_set hp1 h6 _) _
theorem QH.tail {H0 H : AH} {oo : Nat} {out : List Int} {oq kq nq : Nat} {x : Int} {q : List Int} (h : QH H0 H oo out oq kq nq (x :: q)) : QH H0 H oo out oq (kq + 1) (nq - 1) q ∧ cellA H oq kq = some (.int .i64 x) ∧ 0 < nq := by
  obtain ⟨⟨zs, h1, h2, h3⟩, h4⟩ := h
  have hl := congrArg List.length h2
  simp only [List.length_take, List.length_drop, List.length_cons] at hl
  have hk : kq < zs.length := by omega
  obtain ⟨n, rfl⟩ : ∃ n, nq = n + 1 := ⟨nq - 1, by omega⟩
  rw [List.drop_eq_getElem_cons hk, List.take_succ_cons] at h2
  injection h2 with e1 e2
  refine ⟨⟨⟨zs, h1, by simpa using e2, by omega⟩, h4⟩, ?_, by omega⟩
  rw [cell_of h1, ints_at zs hk]
  congr 2
  simp [hk, e1]
theorem QH.at {H0 H : AH} {oo : Nat} {out : List Int} {oq kq nq : Nat} {q : List Int} (h : QH H0 H oo out oq kq nq q) {j : Nat} (hj : j < q.length) : cellA H oq (kq + j) = some (.int .i64 (q.getD j 0)) := by
  obtain ⟨⟨zs, h1, h2, h3⟩, _⟩ := h
  have hl := congrArg List.length h2
  simp only [List.length_take, List.length_drop] at hl
  have hk : kq + j < zs.length := by omega
  rw [cell_of h1, ints_at zs hk]
  congr 2
  rw [← h2, List.getD_eq_getElem?_getD, List.getD_eq_getElem?_getD, List.getElem?_take, if_pos (by omega), List.getElem?_drop]
end Go.Proofs.YtlfongfhbkefmaaGreat.Ai
namespace Go.Proofs.YtlfongfhbkefmaaGreat.Ai
open Go Go.RowKit
set_option linter.unusedVariables false
theorem InU.appL {P : Program} {t2 e2 e : TypeId} (hu : P.underlying t2 = some (.slice e2)) (hc : P.cellsOf e2 = 1) (hby : P.bytesOf e2 ≤ 64) (hz : zeroOk P e2 = true) {lo hi hi2 : Nat} {H : AH} {o : Nat} {us : List Value} {w : Value} {ls ms : List (List Int)}
    (h : InU lo hi e2 e H o us ls) (hw : InL hi hi2 e2 e H w ms) (hl1 : lo ≤ hi) (hl2 : hi ≤ hi2) (hl3 : hi2 ≤ H.length) (hb : ls.length + ms.length ≤ 1099511627775) :
    ∃ v' H' o' us', appendA P t2 t2 (.slice (some ⟨o, 0, none⟩) ls.length ls.length) w H = some (v', H') ∧ v' = .slice (some ⟨o', 0, none⟩) (ls ++ ms).length (ls ++ ms).length ∧
      InU lo H'.length e2 e H' o' us' (ls ++ ms) ∧ H.length ≤ H'.length ∧ (∀ (j : Nat) (y : AObj), j ≠ o → H[j]? = some y → H'[j]? = some y) ∧ (o' = o ∨ H.length ≤ o') := by
  have bb : ∀ n : Nat, n ≤ 1099511627776 → n * P.bytesOf e2 ≤ 140737488355328 := fun n hn => by
    refine Nat.le_trans (Nat.mul_le_mul_left _ hby) ?_
    omega
  by_cases hm : ms.length = 0
  · have hms : ms = [] := List.eq_nil_of_length_eq_zero hm
    subst hms
    have hsc : ∃ us2, sliceCells P e2 w H = some (0, us2) := by
      rcases hw with ⟨rfl, _⟩ | ⟨o2, us2, rfl, g1, g2, g3, _⟩
      · exact ⟨[], rfl⟩
      · refine ⟨(us2.drop 0).take (0 * P.cellsOf e2), ?_⟩
        simp only [sliceCells, g3, List.length_nil]
        rw [if_pos ⟨by omega, trivial⟩]
    obtain ⟨us2, hsc⟩ := hsc
    refine ⟨_, H, o, us, ?_, by rw [List.append_nil], ?_, Nat.le_refl _, fun j y _ hy => hy, .inl rfl⟩
    · simp only [appendA, hu, hc, hsc, isSl]
      rw [if_pos (by simp), if_pos (by simp), if_pos trivial]
    · rw [List.append_nil]
      obtain ⟨h1, h2, h3, h4, h5, h6⟩ := h
      exact ⟨h1, by omega, h3, h4, fun i hi' => ⟨(h5 i hi').1.wide (Nat.le_refl _) (by omega), (h5 i hi').2⟩, h6⟩
  rcases hw with ⟨_, e0⟩ | ⟨o2, us2, rfl, g1, g2, g3, g4, g5, g6⟩
  · rw [e0] at hm; simp at hm
  have hsc : sliceCells P e2 (.slice (some ⟨o2, 0, none⟩) ms.length ms.length) H = some (ms.length, us2.take ms.length) := by
    simp only [sliceCells, g3, hc, Nat.mul_one, List.drop_zero]
    rw [if_pos ⟨by omega, trivial⟩]
  obtain ⟨h2, h3, h4, h5, h6, h7⟩ := h
  have ho := at_lt h4
  have keep : ∀ (j : Nat) (y : AObj), j ≠ o → H[j]? = some y → (H.set o AObj.dead ++ [AObj.cells (us.take ls.length ++ us2.take ms.length) e2 false])[j]? = some y := by
    intro j y hj hy
    exact at_old hy (fun e => hj e.symm) _
  refine ⟨.slice (some ⟨H.length, 0, none⟩) (ls.length + ms.length) (ls.length + ms.length), H.set o AObj.dead ++ [AObj.cells (us.take ls.length ++ us2.take ms.length) e2 false], H.length, us.take ls.length ++ us2.take ms.length, ?_, by rw [List.length_append], ?_, by simp, keep, .inr (Nat.le_refl _)⟩
  · simp only [appendA, hu, hc, hsc, hz, h4]
    rw [if_pos (by simp), if_neg hm, if_pos ⟨trivial, by omega, bb _ (by omega), by omega, trivial⟩]
    simp
  · have hul : (us.take ls.length).length = ls.length := by simp; omega
    have hul2 : (us2.take ms.length).length = ms.length := by simp; omega
    have uat : ∀ i, i < ls.length → (us.take ls.length ++ us2.take ms.length).getD i undef = us.getD i undef := by
      intro i hi'
      rw [List.getD_eq_getElem?_getD, List.getD_eq_getElem?_getD, List.getElem?_append_left (by omega), List.getElem?_take, if_pos hi']
    have uat2 : ∀ i, i < ms.length → (us.take ls.length ++ us2.take ms.length).getD (ls.length + i) undef = us2.getD i undef := by
      intro i hi'
      rw [List.getD_eq_getElem?_getD, List.getD_eq_getElem?_getD, List.getElem?_append_right (by omega), hul, Nat.add_sub_cancel_left, List.getElem?_take, if_pos hi']
    have lat : ∀ i, i < ls.length → (ls ++ ms).getD i [] = ls.getD i [] := by
      intro i hi'
      rw [List.getD_eq_getElem?_getD, List.getD_eq_getElem?_getD, List.getElem?_append_left hi']
    have lat2 : ∀ i, i < ms.length → (ls ++ ms).getD (ls.length + i) [] = ms.getD i [] := by
      intro i hi'
      rw [List.getD_eq_getElem?_getD, List.getD_eq_getElem?_getD, List.getElem?_append_right (by omega), Nat.add_sub_cancel_left]
    have cross : ∀ i j, i < ls.length → j < ms.length → Apart (us.getD i undef) (us2.getD j undef) := by
      intro i j hi' hj'
      rcases (h6 i hi').1.at_ with g | g
      · exact .inr (.inl g)
      · rcases (g5 j hj').1.at_ with g' | g'
        · exact .inl g'
        · exact .inr (.inr (by omega))
    refine ⟨by omega, by simp, ?_, by simp; omega, ?_, ?_⟩
    · rw [List.getElem?_append_right (by simp)]; simp
    · intro i hi'
      rw [List.length_append] at hi'
      by_cases hc' : i < ls.length
      · rw [uat i hc', lat i hc']
        obtain ⟨k1, k2⟩ := h6 i hc'
        refine ⟨(k1.move fun y hn hy => ?_).wide (Nat.le_refl _) (by simp; omega), ?_⟩
        · rcases k2 with g | g
          · exact absurd g hn
          · exact keep _ _ g hy
        · rcases k1.at_ with g | g
          · exact .inl g
          · exact .inr (by omega)
      · obtain ⟨j, rfl⟩ : ∃ j, i = ls.length + j := ⟨i - ls.length, by omega⟩
        have hj : j < ms.length := by omega
        rw [uat2 j hj, lat2 j hj]
        obtain ⟨k1, k2⟩ := g5 j hj
        refine ⟨(k1.move fun y hn hy => ?_).wide hl1 (by simp; omega), ?_⟩
        · rcases k1.at_ with g | g
          · exact absurd g hn
          · exact keep _ _ (by omega) hy
        · rcases k1.at_ with g | g
          · exact .inl g
          · exact .inr (by omega)
    · intro i j hij hi' hj'
      rw [List.length_append] at hi' hj'
      by_cases ci : i < ls.length <;> by_cases cj : j < ls.length
      · rw [uat i ci, uat j cj]; exact h7 i j hij ci cj
      · obtain ⟨j', rfl⟩ : ∃ j', j = ls.length + j' := ⟨j - ls.length, by omega⟩
        rw [uat i ci, uat2 j' (by omega)]; exact cross i j' ci (by omega)
      · obtain ⟨i', rfl⟩ : ∃ i', i = ls.length + i' := ⟨i - ls.length, by omega⟩
        rw [uat j cj, uat2 i' (by omega)]
        rcases cross j i' cj (by omega) with g | g | g
        · exact .inr (.inl g)
        · exact .inl g
        · exact .inr (.inr fun e => g e.symm)
      · obtain ⟨i', rfl⟩ : ∃ i', i = ls.length + i' := ⟨i - ls.length, by omega⟩
        obtain ⟨j', rfl⟩ : ∃ j', j = ls.length + j' := ⟨j - ls.length, by omega⟩
        rw [uat2 i' (by omega), uat2 j' (by omega)]
        exact g6 i' j' (by omega) (by omega) (by omega)
/-- the lists of a list of lists -/
theorem InL.parts {lo hi : Nat} {e2 e : TypeId} {H : AH} {v : Value} {ls : List (List Int)} (h : InL lo hi e2 e H v ls) : ∃ us : List Value, RowV e2 H v us ∧ us.length = ls.length ∧ ∀ i, i < ls.length → InI lo hi e H (us.getD i undef) (ls.getD i []) := by
  rcases h with ⟨h1, h2⟩ | ⟨o, us, h0, h1, h2, h3, h4, h5, h6⟩
  · subst h1; subst h2; exact ⟨[], .inl ⟨rfl, rfl⟩, rfl, fun i hi => absurd hi (by simp)⟩
  · refine ⟨us.take ls.length, .inr ⟨o, 0, us, false, by simp [h0, Nat.min_eq_left h4], h3, by simp; omega, by simp [Nat.min_eq_left h4]⟩, by simp; omega, fun i hi => ?_⟩
    have : (us.take ls.length).getD i undef = us.getD i undef := by
      rw [List.getD_eq_getElem?_getD, List.getD_eq_getElem?_getD, List.getElem?_take, if_pos hi]
    rw [this]
    exact (h5 i hi).1
end Go.Proofs.YtlfongfhbkefmaaGreat.Ai
namespace Go.Proofs.YtlfongfhbkefmaaGreat.Ai
open Go
def ords96 : List (Nat × List (Nat × Bool)) := [(1, [(0, false), (1, false), (2, false), (3, false), (4, false), (5, false)])]
def cd96 : Cd := (.seq (.reg [⟨⟨some 4, Op.assign (Operand.const (Value.slice none 0 0)), none⟩, []⟩]) (.seq (.reg [⟨⟨some 12, Op.buildSlice 26 0 #[], none⟩, []⟩,
  ⟨⟨some 13, Op.move (Operand.tmp 0), none⟩, []⟩,
  ⟨⟨some 14, Op.call { callee := (Callee.builtin Builtin.len), args := #[(Operand.tmp 13)], argTypes := #[26] }, none⟩, []⟩,
  ⟨⟨some 15, Op.makeSlice 137 (Operand.tmp 14) (Operand.tmp 14), none⟩, []⟩,
  ⟨⟨some 5, Op.assign (Operand.tmp 12), none⟩, []⟩,
  ⟨⟨some 6, Op.assign (Operand.tmp 15), none⟩, []⟩]) (.seq (.seq (.reg [⟨⟨some 16, Op.move (Operand.tmp 1), none⟩, []⟩,
  ⟨⟨some 17, Op.binOp BinOp.geq 3 (Operand.tmp 16) (Operand.const (Value.int IntKind.i64 0)) 3, none⟩, []⟩]) (.cond (Operand.tmp 17) (.reg [⟨⟨some 18, Op.move (Operand.tmp 6), none⟩, []⟩,
  ⟨⟨some 19, Op.move (Operand.tmp 1), none⟩, []⟩,
  ⟨⟨some 20, Op.indexAddr 137 (Operand.tmp 18) (Operand.tmp 19), none⟩, []⟩,
  ⟨⟨none, Op.store 4 (Operand.tmp 20) (Operand.const (Value.bool true)), none⟩, []⟩]) .skip)) (.seq (.seq (.reg [⟨⟨some 21, Op.move (Operand.tmp 0), none⟩, []⟩,
  ⟨⟨some 22, Op.call { callee := (Callee.builtin Builtin.len), args := #[(Operand.tmp 21)], argTypes := #[26] }, none⟩, []⟩,
  ⟨⟨some 23, Op.move (Operand.const (Value.int IntKind.i64 0)), none⟩, []⟩]) (.block 0 (.loop (.seq (.reg [⟨⟨some 24, Op.binOp BinOp.lss 3 (Operand.tmp 23) (Operand.tmp 22) 3, none⟩, []⟩]) (.seq (.cond (Operand.tmp 24) .skip (.exit 0)) (.seq (.block 1 (.seq (.reg [⟨⟨some 25, Op.move (Operand.tmp 23), none⟩, []⟩,
  ⟨⟨some 7, Op.assign (Operand.tmp 25), none⟩, []⟩]) (.seq (.seq (.reg [⟨⟨some 26, Op.move (Operand.tmp 6), none⟩, []⟩,
  ⟨⟨some 27, Op.move (Operand.tmp 7), none⟩, []⟩,
  ⟨⟨some 28, Op.indexAddr 137 (Operand.tmp 26) (Operand.tmp 27), none⟩, []⟩,
  ⟨⟨some 29, Op.load 4 (Operand.tmp 28), none⟩, []⟩]) (.cond (Operand.tmp 29) (.exit 1) .skip)) (.seq (.reg [⟨⟨some 30, Op.move (Operand.tmp 6), none⟩, []⟩,
  ⟨⟨some 31, Op.move (Operand.tmp 7), none⟩, []⟩,
  ⟨⟨some 32, Op.indexAddr 137 (Operand.tmp 30) (Operand.tmp 31), none⟩, []⟩,
  ⟨⟨none, Op.store 4 (Operand.tmp 32) (Operand.const (Value.bool true)), none⟩, []⟩]) (.seq (.reg [⟨⟨some 33, Op.move (Operand.tmp 7), none⟩, []⟩,
  ⟨⟨some 34, Op.buildSlice 38 1 #[(0, (Operand.tmp 33))], none⟩, []⟩,
  ⟨⟨some 8, Op.assign (Operand.tmp 34), none⟩, []⟩]) (.seq (.seq (.reg [⟨⟨some 9, Op.assign (Operand.const (Value.int IntKind.i64 0)), none⟩, []⟩]) (.block 2 (.loop (.seq (.seq (.reg [⟨⟨some 35, Op.move (Operand.tmp 9), none⟩, []⟩,
  ⟨⟨some 36, Op.move (Operand.tmp 8), none⟩, []⟩,
  ⟨⟨some 37, Op.call { callee := (Callee.builtin Builtin.len), args := #[(Operand.tmp 36)], argTypes := #[38] }, none⟩, []⟩,
  ⟨⟨some 38, Op.binOp BinOp.lss 3 (Operand.tmp 35) (Operand.tmp 37) 3, none⟩, []⟩]) (.cond (Operand.tmp 38) .skip (.exit 2))) (.seq (.block 3 (.seq (.reg [⟨⟨some 41, Op.move (Operand.tmp 0), none⟩, []⟩,
  ⟨⟨some 42, Op.move (Operand.tmp 8), none⟩, []⟩,
  ⟨⟨some 43, Op.move (Operand.tmp 9), none⟩, []⟩,
  ⟨⟨some 44, Op.indexAddr 38 (Operand.tmp 42) (Operand.tmp 43), none⟩, []⟩,
  ⟨⟨some 45, Op.load 3 (Operand.tmp 44), none⟩, []⟩,
  ⟨⟨some 46, Op.indexAddr 26 (Operand.tmp 41) (Operand.tmp 45), none⟩, []⟩,
  ⟨⟨some 47, Op.load 38 (Operand.tmp 46), none⟩, []⟩,
  ⟨⟨some 48, Op.call { callee := (Callee.builtin Builtin.len), args := #[(Operand.tmp 47)], argTypes := #[38] }, none⟩, []⟩,
  ⟨⟨some 49, Op.move (Operand.const (Value.int IntKind.i64 0)), none⟩, []⟩]) (.block 4 (.loop (.seq (.reg [⟨⟨some 50, Op.binOp BinOp.lss 3 (Operand.tmp 49) (Operand.tmp 48) 3, none⟩, []⟩]) (.seq (.cond (Operand.tmp 50) .skip (.exit 4)) (.seq (.block 5 (.seq (.reg [⟨⟨some 51, Op.indexAddr 38 (Operand.tmp 47) (Operand.tmp 49), none⟩, []⟩,
  ⟨⟨some 52, Op.load 3 (Operand.tmp 51), none⟩, []⟩,
  ⟨⟨some 11, Op.assign (Operand.tmp 52), none⟩, []⟩]) (.seq (.reg [⟨⟨some 53, Op.move (Operand.tmp 6), none⟩, []⟩,
  ⟨⟨some 54, Op.move (Operand.tmp 11), none⟩, []⟩,
  ⟨⟨some 55, Op.indexAddr 137 (Operand.tmp 53) (Operand.tmp 54), none⟩, []⟩,
  ⟨⟨some 56, Op.load 4 (Operand.tmp 55), none⟩, []⟩,
  ⟨⟨some 57, Op.unOp UnOp.not 4 (Operand.tmp 56), none⟩, []⟩]) (.cond (Operand.tmp 57) (.seq (.reg [⟨⟨some 58, Op.move (Operand.tmp 6), none⟩, []⟩,
  ⟨⟨some 59, Op.move (Operand.tmp 11), none⟩, []⟩,
  ⟨⟨some 60, Op.indexAddr 137 (Operand.tmp 58) (Operand.tmp 59), none⟩, []⟩,
  ⟨⟨none, Op.store 4 (Operand.tmp 60) (Operand.const (Value.bool true)), none⟩, []⟩]) (.reg [⟨⟨some 61, Op.move (Operand.tmp 8), none⟩, []⟩,
  ⟨⟨some 62, Op.move (Operand.tmp 11), none⟩, []⟩,
  ⟨⟨some 63, Op.buildSlice 38 1 #[(0, (Operand.tmp 62))], none⟩, []⟩,
  ⟨⟨some 64, Op.call { callee := (Callee.builtin Builtin.append), args := #[(Operand.tmp 61), (Operand.tmp 63)], argTypes := #[38, 38] }, none⟩, []⟩,
  ⟨⟨some 8, Op.assign (Operand.tmp 64), none⟩, []⟩])) .skip)))) (.reg [⟨⟨some 65, Op.binOp BinOp.add 3 (Operand.tmp 49) (Operand.const (Value.int IntKind.i64 1)) 3, none⟩, []⟩,
  ⟨⟨some 49, Op.move (Operand.tmp 65), none⟩, []⟩])))))))) (.reg [⟨⟨some 39, Op.move (Operand.tmp 9), none⟩, []⟩,
  ⟨⟨some 40, Op.binOp BinOp.add 3 (Operand.tmp 39) (Operand.const (Value.int IntKind.i64 1)) 3, none⟩, []⟩,
  ⟨⟨some 9, Op.assign (Operand.tmp 40), none⟩, []⟩])))))) (.seq (.reg [⟨⟨some 66, Op.move (Operand.tmp 8), none⟩, []⟩,
  ⟨⟨some 67, Op.call { callee := (Callee.value (Operand.func 134)), args := #[(Operand.tmp 66)], argTypes := #[38] }, none⟩, []⟩]) (.reg [⟨⟨some 68, Op.move (Operand.tmp 5), none⟩, []⟩,
  ⟨⟨some 69, Op.move (Operand.tmp 8), none⟩, []⟩,
  ⟨⟨some 70, Op.buildSlice 26 1 #[(0, (Operand.tmp 69))], none⟩, []⟩,
  ⟨⟨some 71, Op.call { callee := (Callee.builtin Builtin.append), args := #[(Operand.tmp 68), (Operand.tmp 70)], argTypes := #[26, 26] }, none⟩, []⟩,
  ⟨⟨some 5, Op.assign (Operand.tmp 71), none⟩, []⟩])))))))) (.reg [⟨⟨some 72, Op.binOp BinOp.add 3 (Operand.tmp 23) (Operand.const (Value.int IntKind.i64 1)) 3, none⟩, []⟩,
  ⟨⟨some 23, Op.move (Operand.tmp 72), none⟩, []⟩]))))))) (.seq (.reg [⟨⟨some 73, Op.move (Operand.tmp 5), none⟩, []⟩,
  ⟨⟨some 4, Op.assign (Operand.tmp 73), none⟩, []⟩]) .ret)))))
theorem sl96 : slim Tryz.f96.ntmps ords96 (Tryz.f96.body.getD .skip) = some cd96 := by kernel_rfl
theorem in96 {args : List Value} {H : AH} {R : Value → AH → Prop} (hl : args.length = 2) (h : ∀ (Q : Exit → Sl → AH → Prop), (∀ e s H, endA Tryz.prog [ResultVar.tmp 4] R e s H → Q e s H) → wpC Tryz.prog cd96 Q (enterA args) H) : ACalls Tryz.prog 96 args H R :=
  ACalls.intro (by kernel_rfl) Tryz.func96 rfl (by kernel_rfl) sl96 hl (of_decide_eq_true (by kernel_rfl)) (by kernel_rfl) h
end Go.Proofs.YtlfongfhbkefmaaGreat.Ai
namespace Go.Proofs.YtlfongfhbkefmaaGreat.Ai
open Go Go.RowKit
set_option linter.unusedVariables false
set_option linter.unusedSimpArgs false
def bls (bs : List Bool) : List Value := bs.map Value.bool
theorem bls_len (bs : List Bool) : (bls bs).length = bs.length := by simp [bls]
theorem mk_bools {n : Int} (h0 : 0 ≤ n) (h1 : n ≤ 1099511627776) (H : AH) :
    makeSliceA Tryz.prog 137 (.int .i64 n) (.int .i64 n) H = some (.slice (some ⟨H.length, 0, none⟩) n.toNat n.toNat, H ++ [.cells (bls (List.replicate n.toNat false)) 4 false]) := by
  have hb2 : n.toNat * Tryz.prog.bytesOf 4 ≤ 281474976710656 := by
    rw [by4]; omega
  have hzc : (Value.bool false).cells = #[.bool false] := rfl
  have hzs : zerosA (.bool false) (n.toNat * 1) = bls (List.replicate n.toNat false) := by
    unfold zerosA bls
    rw [hzc, Nat.mul_one, List.map_replicate]
    apply List.ext_getElem
    · simp
    · intro i h1 h2
      simp [Nat.mod_one]
  simp only [makeSliceA, Tryz.underlying137, cs4, ze4]
  rw [if_pos ⟨trivial, h0, by omega, hb2, by omega⟩, if_pos ⟨by simp [plainCs, hzc, plainC], by simp [hzc]⟩, hzs]
theorem cell_bls {H : AH} {o i : Nat} {bs : List Bool} {e : TypeId} {ro : Bool} (ho : H[o]? = some (.cells (bls bs) e ro)) (hi : i < bs.length) : cellA H o i = some (.bool (bs.getD i false)) := by
  rw [cell_of ho]
  simp [bls, hi]
theorem st_bls {H : AH} {o i : Nat} {bs : List Bool} {e : TypeId} (ho : H[o]? = some (.cells (bls bs) e false)) (hi : i < bs.length) (b : Bool) : storeA Tryz.prog 4 (.pointer (some ⟨o, i, none⟩)) (.bool b) H = some (H.set o (.cells (bls (bs.set i b)) e false)) := by
  have := st_at (P := Tryz.prog) (t := 4) (i := i) (y := .bool b) cs4 ho (by rw [bls_len]; exact hi) rfl rfl
  rw [this]
  simp [bls, List.map_set]
set_option maxRecDepth 20000 in
set_option maxHeartbeats 4000000 in
theorem parts_c (v : Value) (L : List (List Int)) (wo : Int) (H : AH) {b : Nat} (hr : RowLB b 38 3 H v L) (hL : LOk L.length L) (hN : L.length ≤ 12) (hwo : -1 ≤ wo ∧ wo < L.length) (hls : ∀ x, (L.getD x []).length ≤ 1000000000) :
    ACalls Tryz.prog 96 [v, .int .i64 wo] H fun r H' => InL H.length H'.length 38 3 H' r (partsL L wo) ∧ H <+: H' := by
  refine in96 rfl ?_
  intro Q hQ
  obtain ⟨us, hus, hvb, hul, hin⟩ := hr
  have mk := mk_bools (n := (L.length : Int)) (by omega) (by omega)
  simp only [Int.toNat_natCast] at mk
  simp (maxSteps := 1000000) (disch := omega) only [cd96, hus.len Tryz.underlying26, hul, mk, S, S1, S2, S3, S4, S5, ST, eq_self, reduceIte, reduceCtorEq, Nat.reduceEqDiff, Nat.reduceAdd]
  generalize hA : H ++ [AObj.cells [] 38 false] = A
  have pA : H <+: A := by rw [← hA]; exact List.prefix_append _ _
  have cA : A[H.length]? = some (.cells [] 38 false) := by rw [← hA]; exact at_new ..
  have lA : A.length = H.length + 1 := by rw [← hA]; simp
  generalize hB : A ++ [AObj.cells (bls (List.replicate L.length false)) 4 false] = B
  have pB : A <+: B := by rw [← hB]; exact List.prefix_append _ _
  have cB : B[A.length]? = some (.cells (bls (List.replicate L.length false)) 4 false) := by rw [← hB]; exact at_new ..
  have lB : B.length = A.length + 1 := by rw [← hB]; simp
  have uB : InU H.length B.length 38 3 B H.length [] [] := ⟨Nat.le_refl _, by omega, pre_at pB cA, Nat.le_refl _, fun i hi => absurd hi (by simp), fun i j _ hi _ => absurd hi (by simp)⟩
  have pHB := pA.trans pB
  refine brD.intro (fun g0 => ?_) (fun g0 => ?_)
  · obtain ⟨w0, hw0⟩ : ∃ w0 : Nat, wo = w0 := ⟨wo.toNat, by omega⟩
    subst hw0
    have hwl : w0 < (List.replicate L.length false).length := by simp; omega
    simp (maxSteps := 1000000) (disch := omega) only [Int.toNat_natCast, Nat.zero_add, st_bls cB hwl, S, S1, S2, S3, S4, S5, ST, eq_self, reduceIte, reduceCtorEq, Nat.reduceEqDiff, Nat.reduceAdd]
    obtain ⟨s0, hs0⟩ : ∃ s0, s0 = (List.replicate L.length false).set w0 true := ⟨_, rfl⟩
    have hs0e : s0 = seen0 L.length (w0 : Int) := by unfold seen0; rw [if_pos (by omega), hs0, Int.toNat_natCast]
    rw [← hs0]
    generalize hCC : B.set A.length (.cells (bls s0) 4 false) = C
    have cS : C[A.length]? = some (.cells (bls s0) 4 false) := by rw [← hCC]; exact at_set cB
    have pC : H <+: C := by rw [← hCC]; exact pre_set pHB (by omega) _
    have lC : C.length = B.length := by rw [← hCC]; simp
    have uC : InU H.length C.length 38 3 C H.length [] [] := by
      rw [lC, ← hCC]
      have aw0 : Away A.length H.length [] ([] : List (List Int)) := ⟨by omega, fun i hi => absurd hi (by simp)⟩
      exact uB.moveq aw0 fun j y hj hy => by rw [List.getElem?_set_ne (fun e => hj e.symm)]; exact hy
    have hs0l : s0.length = L.length := by rw [hs0]; simp
    simp (maxSteps := 1000000) (disch := omega) only [hus.len Tryz.underlying26, hul, S, S1, S2, S3, S4, S5, ST, eq_self, reduceIte, reduceCtorEq, Nat.reduceEqDiff, Nat.reduceAdd]
    refine LoopH.by (fun m s H' => ∃ i oo vs, m + i = L.length ∧ s 0 = v ∧ s 5 = .slice (some ⟨oo, 0, none⟩) (prF L s0 i).2.length (prF L s0 i).2.length ∧ s 6 = .slice (some ⟨A.length, 0, none⟩) L.length L.length ∧ s 22 = .int .i64 (L.length : Int) ∧ s 23 = .int .i64 ((i : Nat) : Int) ∧ H'[A.length]? = some (.cells (bls (prF L s0 i).1) 4 false) ∧ InU H.length H'.length 38 3 H' oo vs (prF L s0 i).2 ∧ Away A.length oo vs (prF L s0 i).2 ∧ H <+: H') L.length ?_ ?_
    · exact ⟨0, H.length, [], by simp, rfl, rfl, rfl, rfl, rfl, cS, uC, ⟨by omega, fun i hi => absurd hi (by simp [prF])⟩, pC⟩
    rintro m s H' ⟨i, oo, vs, hm, h0, h5, h6, h22, h23, hcs, hin1, haw, hpp⟩
    obtain ⟨hsl, hpl⟩ := prF_len L s0 (by rw [hs0l]) hL i (by omega)
    have hstep : prF L s0 (i + 1) = if (prF L s0 i).1.getD i false = true then prF L s0 i else ((ptF L (L.length + 1) ((prF L s0 i).1.set i true, [(i : Int)]) 0).1, (prF L s0 i).2 ++ [inOrd L.length (ptF L (L.length + 1) ((prF L s0 i).1.set i true, [(i : Int)]) 0).2]) := rfl
    have hfin : i = L.length → (prF L s0 L.length).2 = (prF L s0 i).2 := fun e => by rw [e]
    generalize hSe : (prF L s0 i).1 = Se at *
    generalize hPs : (prF L s0 i).2 = Ps at *
    simp (maxSteps := 1000000) (disch := omega) only [h0, h5, h6, h22, h23, S, S1, S2, S3, S4, S5, ST, eq_self, reduceIte, reduceCtorEq, Nat.reduceEqDiff, Nat.reduceAdd]
    refine brD.intro (fun g => ?_) (fun g => ?_)
    rotate_left
    · have hi : i = L.length := by omega
      simp (maxSteps := 1000000) (disch := omega) only [h5, S, S1, S2, S3, S4, S5, ST, eq_self, reduceIte, reduceCtorEq, Nat.reduceEqDiff, Nat.reduceAdd]
      refine hQ _ _ _ ?_
      simp (maxSteps := 1000000) (disch := omega) only [h5, S, S1, S2, S3, S4, S5, ST, eq_self, reduceIte, reduceCtorEq, Nat.reduceEqDiff, Nat.reduceAdd]
      have hP : partsL L (w0 : Int) = Ps := by unfold partsL; rw [← hs0e, hfin hi]
      rw [hP]
      exact ⟨hin1.inl, hpp⟩
    have hi : i < L.length := by omega
    have hiS : i < Se.length := by omega
    simp (maxSteps := 1000000) (disch := omega) only [h0, h5, h6, h22, h23, Int.toNat_natCast, Nat.zero_add, cell_bls hcs hiS, S, S1, S2, S3, S4, S5, ST, eq_self, reduceIte, reduceCtorEq, Nat.reduceEqDiff, Nat.reduceAdd]
    refine brH.intro (fun e1 => ?_) (fun e1 => ?_)
    · rw [if_pos e1] at hstep
      simp (maxSteps := 1000000) (disch := omega) only [e1, h0, h5, h6, h22, h23, wrap64, S, S1, S2, S3, S4, S5, ST, eq_self, reduceIte, reduceCtorEq, Nat.reduceEqDiff, Nat.reduceAdd]
      refine ⟨m - 1, by omega, i + 1, oo, vs, ?_⟩
      have g1 : (prF L s0 (i + 1)).1 = Se := by rw [hstep, hSe]
      have g2 : (prF L s0 (i + 1)).2 = Ps := by rw [hstep, hPs]
      rw [g1, g2]
      (repeat' first | exact hcs | exact hin1 | exact haw | exact hpp | apply And.intro) <;> first | (simp only [Value.int.injEq, true_and]; omega) | omega | rfl | assumption | (simp; done) | (simp; omega)
    have hne : ¬ Se.getD i false = true := by rw [e1]; decide
    rw [if_neg hne] at hstep
    have hPI := PI.first hsl hi hne
    generalize hCn : Se.countP (fun b => !b) = Cn at hPI
    simp (maxSteps := 1000000) (disch := omega) only [e1, h0, h5, h6, h22, h23, Int.toNat_natCast, Nat.zero_add, st_bls hcs hiS, S, S1, S2, S3, S4, S5, ST, eq_self, reduceIte, reduceCtorEq, Nat.reduceEqDiff, Nat.reduceAdd]
    have hin2 : InU H.length H'.length 38 3 (H'.set A.length (.cells (bls (Se.set i true)) 4 false)) oo vs Ps := hin1.moveq haw fun j y hj hy => by rw [List.getElem?_set_ne (fun e => hj e.symm)]; exact hy
    have hcs2 : (H'.set A.length (.cells (bls (Se.set i true)) 4 false))[A.length]? = some (.cells (bls (Se.set i true)) 4 false) := at_set hcs
    have hpp2 : H <+: H'.set A.length (.cells (bls (Se.set i true)) 4 false) := pre_set hpp (by omega) _
    have hll : (H'.set A.length (.cells (bls (Se.set i true)) 4 false)).length = H'.length := by simp
    generalize hG : H'.set A.length (.cells (bls (Se.set i true)) 4 false) = G at *
    have hltS := at_lt hcs
    have lH' := hpp.length_le
    refine LoopH.by (fun m s G' => ∃ st k op, m + k = L.length ∧ s 0 = v ∧ s 5 = .slice (some ⟨oo, 0, none⟩) Ps.length Ps.length ∧ s 6 = .slice (some ⟨A.length, 0, none⟩) L.length L.length ∧ s 8 = .slice (some ⟨op, 0, none⟩) st.2.length st.2.length ∧ s 9 = .int .i64 ((k : Nat) : Int) ∧ s 22 = .int .i64 (L.length : Int) ∧ s 23 = .int .i64 ((i : Nat) : Int) ∧ k ≤ st.2.length ∧ G'[A.length]? = some (.cells (bls st.1) 4 false) ∧ G'[op]? = some (.cells (ints st.2) 3 false) ∧ H'.length ≤ op ∧ InU H.length H'.length 38 3 G' oo vs Ps ∧ PI L.length Cn st ∧ ptF L (m + 1) st k = ptF L (L.length + 1) (Se.set i true, [(i : Int)]) 0 ∧ H <+: G') L.length ?_ ?_
    · refine ⟨(Se.set i true, [(i : Int)]), 0, G.length, by omega, ?_⟩
      simp only [S, S1, S2, S3, S4, S5, ST, eq_self, reduceIte, reduceCtorEq, Nat.reduceEqDiff, Nat.reduceAdd, h0, h5, h6, h22, h23]
      have q1 := at_app hcs2 [AObj.cells [.int .i64 (i : Int)] 3 false]
      have q2 : (G ++ [AObj.cells [.int .i64 (i : Int)] 3 false])[G.length]? = some (.cells (ints [(i : Int)]) 3 false) := at_new ..
      have q3 := hin2.pre (List.prefix_append G [AObj.cells [.int .i64 (i : Int)] 3 false])
      have q4 := pre_app hpp2 [AObj.cells [.int .i64 (i : Int)] 3 false]
      (repeat' first | exact q1 | exact q2 | exact q3 | exact q4 | exact hPI | apply And.intro) <;> first | (simp only [Value.int.injEq, true_and]; omega) | omega | rfl | assumption | (simp; done) | (simp; omega)
    rintro mk s G' ⟨st, k, op, hmk, h0, h5, h6, h8, h9, h22, h23, hkl, hcs3, hcp, hop, hin3, hpi, hF, hpp3⟩
    have hle := hpi.len_le
    simp (maxSteps := 1000000) (disch := omega) only [h0, h5, h6, h8, h9, h22, h23, S, S1, S2, S3, S4, S5, ST, eq_self, reduceIte, reduceCtorEq, Nat.reduceEqDiff, Nat.reduceAdd]
    refine brD.intro (fun gk => ?_) (fun gk => ?_)
    · have hk : k < st.2.length := by omega
      rw [ptF_step L mk st k hk] at hF
      have hqm : st.2.getD k 0 ∈ st.2 := by simp [hk]
      obtain ⟨hxr, _⟩ := hpi.q _ hqm
      obtain ⟨x, hx⟩ : ∃ x : Nat, st.2.getD k 0 = x := ⟨(st.2.getD k 0).toNat, by omega⟩
      have hcell := cell_ints hcp hk
      rw [hx] at hF hxr hcell
      rw [Int.toNat_natCast] at hF
      have hus' := hus.pre hpp3
      have hxu : x < us.length := by omega
      have hinH := (hin x (by omega)).1
      have hin' := hinH.pre hpp3
      have hlb := hls x
      have hLx := hL x
      simp (maxSteps := 1000000) (disch := omega) only [h0, h5, h6, h8, h9, h22, h23, hcell, hus'.ix Tryz.underlying26 cs38, hus'.cell, Int.toNat_natCast, Nat.zero_add, S, S1, S2, S3, S4, S5, ST, eq_self, reduceIte, reduceCtorEq, Nat.reduceEqDiff, Nat.reduceAdd]
      generalize hw : us.getD x undef = w at *
      generalize hl : L.getD x [] = l at *
      simp (maxSteps := 1000000) (disch := omega) only [hin'.len Tryz.underlying38, S, S1, S2, S3, S4, S5, ST, eq_self, reduceIte, reduceCtorEq, Nat.reduceEqDiff, Nat.reduceAdd]
      refine LoopH.by (fun m' s' G2 => ∃ j st' op', m' + j = l.length ∧ s' 0 = v ∧ s' 5 = .slice (some ⟨oo, 0, none⟩) Ps.length Ps.length ∧ s' 6 = .slice (some ⟨A.length, 0, none⟩) L.length L.length ∧ s' 8 = .slice (some ⟨op', 0, none⟩) st'.2.length st'.2.length ∧ s' 9 = .int .i64 ((k : Nat) : Int) ∧ s' 22 = .int .i64 (L.length : Int) ∧ s' 23 = .int .i64 ((i : Nat) : Int) ∧ s' 47 = w ∧ s' 48 = .int .i64 (l.length : Int) ∧ s' 49 = .int .i64 ((j : Nat) : Int) ∧ G2[A.length]? = some (.cells (bls st'.1) 4 false) ∧ G2[op']? = some (.cells (ints st'.2) 3 false) ∧ H'.length ≤ op' ∧ InU H.length H'.length 38 3 G2 oo vs Ps ∧ PI L.length Cn st' ∧ st.2 <+: st'.2 ∧ ptIn (l.drop j) st' = ptIn l st ∧ H <+: G2) l.length ?_ ?_
      · refine ⟨0, st, op, by simp, ?_⟩
        simp only [S, S1, S2, S3, S4, S5, ST, eq_self, reduceIte, reduceCtorEq, Nat.reduceEqDiff, Nat.reduceAdd, h0, h5, h6, h8, h9, h22, h23]
        have hd2 : ptIn (l.drop 0) st = ptIn l st := by rw [List.drop_zero]
        have hpr := List.prefix_refl st.2
        (repeat' first | exact hcs3 | exact hcp | exact hin3 | exact hpi | exact hd2 | exact hpr | exact hpp3 | apply And.intro) <;> first | (simp only [Value.int.injEq, true_and]; omega) | omega | rfl | assumption | (simp; done) | (simp; omega)
      · rintro m' s' G2 ⟨j, st', op', hm', g0, g5, g6, g8, g9, g22, g23, g47, g48, g49, hcs4, hcp4, hop4, hin4, hpi4, hpre, hD, hpp4⟩
        have hw' := hinH.pre hpp4
        have hle' := hpi4.len_le
        have hlen' := hpi4.len
        simp (maxSteps := 1000000) (disch := omega) only [g0, g5, g6, g8, g9, g22, g23, g47, g48, g49, S, S1, S2, S3, S4, S5, ST, eq_self, reduceIte, reduceCtorEq, Nat.reduceEqDiff, Nat.reduceAdd]
        refine brD.intro (fun q => ?_) (fun q => ?_)
        · have hj : j < l.length := by omega
          rw [ptIn_drop l j hj] at hD
          have hym : l.getD j 0 ∈ l := by simp [hj]
          have hyr := hLx _ hym
          obtain ⟨y, hy⟩ : ∃ y : Nat, l.getD j 0 = y := ⟨(l.getD j 0).toNat, by omega⟩
          rw [hy] at hD hyr
          rw [Int.toNat_natCast] at hD
          have hyl : y < st'.1.length := by omega
          have hcw := hw'.cell hj
          rw [hy] at hcw
          simp (maxSteps := 1000000) (disch := omega) only [g0, g5, g6, g8, g9, g22, g23, g47, g48, g49, hw'.ix Tryz.underlying38 cs3, hcw, Int.toNat_natCast, Nat.zero_add, cell_bls hcs4 hyl, S, S1, S2, S3, S4, S5, ST, eq_self, reduceIte, reduceCtorEq, Nat.reduceEqDiff, Nat.reduceAdd]
          refine brH.intro (fun e => ?_) (fun e => ?_)
          · rw [if_pos e] at hD
            simp (maxSteps := 1000000) (disch := omega) only [e, g0, g5, g6, g8, g9, g22, g23, g47, g48, g49, wrap64, S, S1, S2, S3, S4, S5, ST, eq_self, reduceIte, reduceCtorEq, Nat.reduceEqDiff, Nat.reduceAdd]
            refine ⟨m' - 1, by omega, j + 1, st', op', ?_⟩
            (repeat' first | exact hcs4 | exact hcp4 | exact hin4 | exact hpi4 | exact hpre | exact hD | exact hpp4 | apply And.intro) <;> first | (simp only [Value.int.injEq, true_and]; omega) | omega | rfl | assumption | (simp; done) | (simp; omega)
          · have hnn : ¬ st'.1.getD y false = true := by rw [e]; decide
            rw [if_neg hnn] at hD
            have hb2 := hpi4.put (j := (y : Int)) hyr (by rw [Int.toNat_natCast]; exact hnn)
            rw [Int.toNat_natCast] at hb2
            have hlt4 := at_lt hcs4
            have hltp := at_lt hcp4
            have hcp5 : (G2.set A.length (.cells (bls (st'.1.set y true)) 4 false))[op']? = some (.cells (ints st'.2) 3 false) := by rw [List.getElem?_set_ne (by omega)]; exact hcp4
            have hap := appi38 (x := (y : Int)) (n := st'.2.length) (c := st'.2.length) hcp5 rfl (by omega)
            simp (maxSteps := 1000000) (disch := omega) only [e, g0, g5, g6, g8, g9, g22, g23, g47, g48, g49, Int.toNat_natCast, Nat.zero_add, st_bls hcs4 hyl, hap, wrap64, S, S1, S2, S3, S4, S5, ST, eq_self, reduceIte, reduceCtorEq, Nat.reduceEqDiff, Nat.reduceAdd]
            have f1 : st.2 <+: st'.2 ++ [(y : Int)] := hpre.trans (List.prefix_append _ _)
            have f2 : (st'.2 ++ [(y : Int)]).length = st'.2.length + 1 := by simp
            have aw : ∀ {o z}, o ≠ A.length → o ≠ op' → G2[o]? = some z → ((G2.set A.length (.cells (bls (st'.1.set y true)) 4 false)).set op' .dead ++ [AObj.cells [.int .i64 (y : Int)] 3 false, .cells (ints (st'.2 ++ [(y : Int)])) 3 false])[o]? = some z := by
              intro o z ho1 ho2 hz
              have := at_lt hz
              rw [List.getElem?_append_left (by simp; omega), List.getElem?_set_ne (fun e => ho2 e.symm), List.getElem?_set_ne (fun e => ho1 e.symm)]
              exact hz
            have f3 : ((G2.set A.length (.cells (bls (st'.1.set y true)) 4 false)).set op' .dead ++ [AObj.cells [.int .i64 (y : Int)] 3 false, .cells (ints (st'.2 ++ [(y : Int)])) 3 false])[A.length]? = some (.cells (bls (st'.1.set y true)) 4 false) := by
              rw [List.getElem?_append_left (by simp; omega), List.getElem?_set_ne (by omega), List.getElem?_set_self hlt4]
            have f4 : ((G2.set A.length (.cells (bls (st'.1.set y true)) 4 false)).set op' .dead ++ [AObj.cells [.int .i64 (y : Int)] 3 false, .cells (ints (st'.2 ++ [(y : Int)])) 3 false])[(G2.set A.length (.cells (bls (st'.1.set y true)) 4 false)).length + 1]? = some (.cells (ints (st'.2 ++ [(y : Int)])) 3 false) := by
              rw [List.getElem?_append_right (by simp)]; simp
            have f5 : InU H.length H'.length 38 3 ((G2.set A.length (.cells (bls (st'.1.set y true)) 4 false)).set op' .dead ++ [AObj.cells [.int .i64 (y : Int)] 3 false, .cells (ints (st'.2 ++ [(y : Int)])) 3 false]) oo vs Ps := by
              have q1 := hin4.moveq haw (H' := G2.set A.length (.cells (bls (st'.1.set y true)) 4 false)) fun j z hj hz => by rw [List.getElem?_set_ne (fun e => hj e.symm)]; exact hz
              refine q1.move fun j z hj1 hj2 hz => ?_
              have := at_lt hz
              rw [List.getElem?_append_left (by simpa using this), List.getElem?_set_ne (by omega)]
              exact hz
            have f6 : H <+: (G2.set A.length (.cells (bls (st'.1.set y true)) 4 false)).set op' .dead ++ [AObj.cells [.int .i64 (y : Int)] 3 false, .cells (ints (st'.2 ++ [(y : Int)])) 3 false] := pre_app (pre_set (pre_set hpp4 (by omega) _) (by omega) _) _
            have f7 : H'.length ≤ (G2.set A.length (.cells (bls (st'.1.set y true)) 4 false)).length + 1 := by simp; omega
            refine ⟨m' - 1, by omega, j + 1, (st'.1.set y true, st'.2 ++ [(y : Int)]), (G2.set A.length (.cells (bls (st'.1.set y true)) 4 false)).length + 1, ?_⟩
            simp only [f2]
            (repeat' first | exact f3 | exact f4 | exact f5 | exact f6 | exact f7 | exact f1 | exact hb2 | exact hD | apply And.intro) <;> first | (simp only [Value.int.injEq, true_and]; omega) | omega | rfl | assumption | (simp; done) | (simp; omega)
        · simp (maxSteps := 1000000) (disch := omega) only [g0, g5, g6, g8, g9, g22, g23, g47, g48, g49, wrap64, S, S1, S2, S3, S4, S5, ST, eq_self, reduceIte, reduceCtorEq, Nat.reduceEqDiff, Nat.reduceAdd]
          rw [List.drop_of_length_le (by omega)] at hD
          have hD' : st' = ptIn l st := hD
          rw [← hD'] at hF
          have hm1 : mk - 1 + 1 = mk := by omega
          rw [← hm1] at hF
          have hkl' : k + 1 ≤ st'.2.length := by have := hpre.length_le; omega
          refine ⟨mk - 1, by omega, st', k + 1, op', ?_⟩
          (repeat' first | exact hcs4 | exact hcp4 | exact hop4 | exact hin4 | exact hpi4 | exact hF | exact hkl' | exact hpp4 | apply And.intro) <;> first | (simp only [Value.int.injEq, true_and]; omega) | omega | rfl | assumption | (simp; done) | (simp; omega)
    · rw [ptF_done L _ st k (by omega)] at hF
      rw [← hF] at hstep
      have hnd := hpi.nd
      have hltp := at_lt hcp
      simp (maxSteps := 1000000) (disch := omega) only [h0, h5, h6, h8, h9, h22, h23, S, S1, S2, S3, S4, S5, ST, eq_self, reduceIte, reduceCtorEq, Nat.reduceEqDiff, Nat.reduceAdd]
      refine CallH.by (Sort_c (.slice (some ⟨op, 0, none⟩) st.2.length st.2.length) st.2 H G' (.inr ⟨op, rfl, by omega, hcp⟩) (by omega)) ?_
      rintro _ K ⟨ys, hys, hperm, hasc, hel⟩
      have hyl : ys.length = st.2.length := hperm.length_eq
      have hyeq := inOrd_eq hnd (fun x hx => (hpi.q x hx).1) hperm hasc
      have hKl : K.length = G'.length := hel.1
      have hke : ∀ {o z}, o ≠ op → G'[o]? = some z → K[o]? = some z := fun ho hz => hel.2 _ _ (.inr ho) hz
      have hcsK := hke (by omega) hcs3
      have hinK : InU H.length H'.length 38 3 K oo vs Ps := hin3.move fun j z hj1 hj2 hz => hke (by omega) hz
      have hcpK : K[op]? = some (.cells (ints ys) 3 false) := by
        rcases hys with ⟨q, _⟩ | ⟨o, q, _, hc⟩
        · cases q
        · simp only [Value.slice.injEq, Option.some.injEq, Addr.mk.injEq, and_true] at q
          obtain ⟨q1, _⟩ := q
          have q2 : o = op := by
            first
            | exact q1.symm
            | exact q1
            | exact q1.1.symm
            | exact q1.1
          rw [← q2]; exact hc
      have hppK : H <+: K := prefix_of fun o z hz => hke (by have := at_lt hz; omega) (pre_at hpp3 hz)
      have hltG := hpp3.length_le
      have hGH : H'.length ≤ G'.length := by omega
      have hinw : InI H'.length K.length 3 K (.slice (some ⟨op, 0, none⟩) st.2.length st.2.length) ys := .inr ⟨op, ys, by rw [hyl], hop, by omega, hcpK, List.take_of_length_le (Nat.le_refl _)⟩
      obtain ⟨K2, k1, k2, k3, k4⟩ := hinK.app1 (P := Tryz.prog) (t2 := 26) Tryz.underlying26 cs38 (by rw [by38]; decide) zk38 hinw lH' (by omega) (Nat.le_refl _) (by omega)
      simp (maxSteps := 1000000) (disch := omega) only [h0, h5, h6, h8, h9, h22, h23, k1, wrap64, S, S1, S2, S3, S4, S5, ST, eq_self, reduceIte, reduceCtorEq, Nat.reduceEqDiff, Nat.reduceAdd]
      have g1 : (prF L s0 (i + 1)).1 = st.1 := by rw [hstep]
      have g2 : (prF L s0 (i + 1)).2 = Ps ++ [ys] := by rw [hstep, hyeq]
      have g3 : (Ps ++ [ys]).length = Ps.length + 1 := by simp
      have c1 : K2[A.length]? = some (.cells (bls st.1) 4 false) := k4 _ _ (fun e => haw.1 e.symm) hcsK
      have c2 : InU H.length K2.length 38 3 K2 (K.length + 1) (vs.take Ps.length ++ [.slice (some ⟨op, 0, none⟩) st.2.length st.2.length]) (Ps ++ [ys]) := by rw [k3]; exact k2
      have c3 : Away A.length (K.length + 1) (vs.take Ps.length ++ [.slice (some ⟨op, 0, none⟩) st.2.length st.2.length]) (Ps ++ [ys]) := by
        refine ⟨by omega, fun j hj => ?_⟩
        rw [g3] at hj
        have hvl := hinK.2.2.2.1
        rw [List.getD_eq_getElem?_getD, List.getElem?_append]
        have hl2 : (vs.take Ps.length).length = Ps.length := by simp; omega
        rw [hl2]
        split
        · rename_i hj2
          rw [List.getElem?_take, if_pos hj2, ← List.getD_eq_getElem?_getD]
          exact haw.2 j hj2
        · have : j - Ps.length = 0 := by omega
          rw [this]
          refine .inr ?_
          show op ≠ A.length
          omega
      have c4 : H <+: K2 := prefix_of fun o z hz => k4 o z (by have := at_lt hz; have := hinK.1; omega) (pre_at hppK hz)
      refine ⟨m - 1, by omega, i + 1, K.length + 1, vs.take Ps.length ++ [.slice (some ⟨op, 0, none⟩) st.2.length st.2.length], ?_⟩
      rw [g1, g2, g3]
      (repeat' first | exact c1 | exact c2 | exact c3 | exact c4 | apply And.intro) <;> first | (simp only [Value.int.injEq, true_and]; omega) | omega | rfl | assumption | (simp; done) | (simp; omega)
  · simp (maxSteps := 1000000) (disch := omega) only [S, S1, S2, S3, S4, S5, ST, eq_self, reduceIte, reduceCtorEq, Nat.reduceEqDiff, Nat.reduceAdd]
    obtain ⟨s0, hs0⟩ : ∃ s0, s0 = List.replicate L.length false := ⟨_, rfl⟩
    have hs0e : s0 = seen0 L.length wo := by unfold seen0; rw [if_neg (by omega), hs0]
    rw [← hs0] at cB
    have cS := cB
    have pC := pHB
    have uC := uB
    have hs0l : s0.length = L.length := by rw [hs0]; simp
    simp (maxSteps := 1000000) (disch := omega) only [hus.len Tryz.underlying26, hul, S, S1, S2, S3, S4, S5, ST, eq_self, reduceIte, reduceCtorEq, Nat.reduceEqDiff, Nat.reduceAdd]
    refine LoopH.by (fun m s H' => ∃ i oo vs, m + i = L.length ∧ s 0 = v ∧ s 5 = .slice (some ⟨oo, 0, none⟩) (prF L s0 i).2.length (prF L s0 i).2.length ∧ s 6 = .slice (some ⟨A.length, 0, none⟩) L.length L.length ∧ s 22 = .int .i64 (L.length : Int) ∧ s 23 = .int .i64 ((i : Nat) : Int) ∧ H'[A.length]? = some (.cells (bls (prF L s0 i).1) 4 false) ∧ InU H.length H'.length 38 3 H' oo vs (prF L s0 i).2 ∧ Away A.length oo vs (prF L s0 i).2 ∧ H <+: H') L.length ?_ ?_
    · exact ⟨0, H.length, [], by simp, rfl, rfl, rfl, rfl, rfl, cS, uC, ⟨by omega, fun i hi => absurd hi (by simp [prF])⟩, pC⟩
    rintro m s H' ⟨i, oo, vs, hm, h0, h5, h6, h22, h23, hcs, hin1, haw, hpp⟩
    obtain ⟨hsl, hpl⟩ := prF_len L s0 (by rw [hs0l]) hL i (by omega)
    have hstep : prF L s0 (i + 1) = if (prF L s0 i).1.getD i false = true then prF L s0 i else ((ptF L (L.length + 1) ((prF L s0 i).1.set i true, [(i : Int)]) 0).1, (prF L s0 i).2 ++ [inOrd L.length (ptF L (L.length + 1) ((prF L s0 i).1.set i true, [(i : Int)]) 0).2]) := rfl
    have hfin : i = L.length → (prF L s0 L.length).2 = (prF L s0 i).2 := fun e => by rw [e]
    generalize hSe : (prF L s0 i).1 = Se at *
    generalize hPs : (prF L s0 i).2 = Ps at *
    simp (maxSteps := 1000000) (disch := omega) only [h0, h5, h6, h22, h23, S, S1, S2, S3, S4, S5, ST, eq_self, reduceIte, reduceCtorEq, Nat.reduceEqDiff, Nat.reduceAdd]
    refine brD.intro (fun g => ?_) (fun g => ?_)
    rotate_left
    · have hi : i = L.length := by omega
      simp (maxSteps := 1000000) (disch := omega) only [h5, S, S1, S2, S3, S4, S5, ST, eq_self, reduceIte, reduceCtorEq, Nat.reduceEqDiff, Nat.reduceAdd]
      refine hQ _ _ _ ?_
      simp (maxSteps := 1000000) (disch := omega) only [h5, S, S1, S2, S3, S4, S5, ST, eq_self, reduceIte, reduceCtorEq, Nat.reduceEqDiff, Nat.reduceAdd]
      have hP : partsL L wo = Ps := by unfold partsL; rw [← hs0e, hfin hi]
      rw [hP]
      exact ⟨hin1.inl, hpp⟩
    have hi : i < L.length := by omega
    have hiS : i < Se.length := by omega
    simp (maxSteps := 1000000) (disch := omega) only [h0, h5, h6, h22, h23, Int.toNat_natCast, Nat.zero_add, cell_bls hcs hiS, S, S1, S2, S3, S4, S5, ST, eq_self, reduceIte, reduceCtorEq, Nat.reduceEqDiff, Nat.reduceAdd]
    refine brH.intro (fun e1 => ?_) (fun e1 => ?_)
    · rw [if_pos e1] at hstep
      simp (maxSteps := 1000000) (disch := omega) only [e1, h0, h5, h6, h22, h23, wrap64, S, S1, S2, S3, S4, S5, ST, eq_self, reduceIte, reduceCtorEq, Nat.reduceEqDiff, Nat.reduceAdd]
      refine ⟨m - 1, by omega, i + 1, oo, vs, ?_⟩
      have g1 : (prF L s0 (i + 1)).1 = Se := by rw [hstep, hSe]
      have g2 : (prF L s0 (i + 1)).2 = Ps := by rw [hstep, hPs]
      rw [g1, g2]
      (repeat' first | exact hcs | exact hin1 | exact haw | exact hpp | apply And.intro) <;> first | (simp only [Value.int.injEq, true_and]; omega) | omega | rfl | assumption | (simp; done) | (simp; omega)
    have hne : ¬ Se.getD i false = true := by rw [e1]; decide
    rw [if_neg hne] at hstep
    have hPI := PI.first hsl hi hne
    generalize hCn : Se.countP (fun b => !b) = Cn at hPI
    simp (maxSteps := 1000000) (disch := omega) only [e1, h0, h5, h6, h22, h23, Int.toNat_natCast, Nat.zero_add, st_bls hcs hiS, S, S1, S2, S3, S4, S5, ST, eq_self, reduceIte, reduceCtorEq, Nat.reduceEqDiff, Nat.reduceAdd]
    have hin2 : InU H.length H'.length 38 3 (H'.set A.length (.cells (bls (Se.set i true)) 4 false)) oo vs Ps := hin1.moveq haw fun j y hj hy => by rw [List.getElem?_set_ne (fun e => hj e.symm)]; exact hy
    have hcs2 : (H'.set A.length (.cells (bls (Se.set i true)) 4 false))[A.length]? = some (.cells (bls (Se.set i true)) 4 false) := at_set hcs
    have hpp2 : H <+: H'.set A.length (.cells (bls (Se.set i true)) 4 false) := pre_set hpp (by omega) _
    have hll : (H'.set A.length (.cells (bls (Se.set i true)) 4 false)).length = H'.length := by simp
    generalize hG : H'.set A.length (.cells (bls (Se.set i true)) 4 false) = G at *
    have hltS := at_lt hcs
    have lH' := hpp.length_le
    refine LoopH.by (fun m s G' => ∃ st k op, m + k = L.length ∧ s 0 = v ∧ s 5 = .slice (some ⟨oo, 0, none⟩) Ps.length Ps.length ∧ s 6 = .slice (some ⟨A.length, 0, none⟩) L.length L.length ∧ s 8 = .slice (some ⟨op, 0, none⟩) st.2.length st.2.length ∧ s 9 = .int .i64 ((k : Nat) : Int) ∧ s 22 = .int .i64 (L.length : Int) ∧ s 23 = .int .i64 ((i : Nat) : Int) ∧ k ≤ st.2.length ∧ G'[A.length]? = some (.cells (bls st.1) 4 false) ∧ G'[op]? = some (.cells (ints st.2) 3 false) ∧ H'.length ≤ op ∧ InU H.length H'.length 38 3 G' oo vs Ps ∧ PI L.length Cn st ∧ ptF L (m + 1) st k = ptF L (L.length + 1) (Se.set i true, [(i : Int)]) 0 ∧ H <+: G') L.length ?_ ?_
    · refine ⟨(Se.set i true, [(i : Int)]), 0, G.length, by omega, ?_⟩
      simp only [S, S1, S2, S3, S4, S5, ST, eq_self, reduceIte, reduceCtorEq, Nat.reduceEqDiff, Nat.reduceAdd, h0, h5, h6, h22, h23]
      have q1 := at_app hcs2 [AObj.cells [.int .i64 (i : Int)] 3 false]
      have q2 : (G ++ [AObj.cells [.int .i64 (i : Int)] 3 false])[G.length]? = some (.cells (ints [(i : Int)]) 3 false) := at_new ..
      have q3 := hin2.pre (List.prefix_append G [AObj.cells [.int .i64 (i : Int)] 3 false])
      have q4 := pre_app hpp2 [AObj.cells [.int .i64 (i : Int)] 3 false]
      (repeat' first | exact q1 | exact q2 | exact q3 | exact q4 | exact hPI | apply And.intro) <;> first | (simp only [Value.int.injEq, true_and]; omega) | omega | rfl | assumption | (simp; done) | (simp; omega)
    rintro mk s G' ⟨st, k, op, hmk, h0, h5, h6, h8, h9, h22, h23, hkl, hcs3, hcp, hop, hin3, hpi, hF, hpp3⟩
    have hle := hpi.len_le
    simp (maxSteps := 1000000) (disch := omega) only [h0, h5, h6, h8, h9, h22, h23, S, S1, S2, S3, S4, S5, ST, eq_self, reduceIte, reduceCtorEq, Nat.reduceEqDiff, Nat.reduceAdd]
    refine brD.intro (fun gk => ?_) (fun gk => ?_)
    · have hk : k < st.2.length := by omega
      rw [ptF_step L mk st k hk] at hF
      have hqm : st.2.getD k 0 ∈ st.2 := by simp [hk]
      obtain ⟨hxr, _⟩ := hpi.q _ hqm
      obtain ⟨x, hx⟩ : ∃ x : Nat, st.2.getD k 0 = x := ⟨(st.2.getD k 0).toNat, by omega⟩
      have hcell := cell_ints hcp hk
      rw [hx] at hF hxr hcell
      rw [Int.toNat_natCast] at hF
      have hus' := hus.pre hpp3
      have hxu : x < us.length := by omega
      have hinH := (hin x (by omega)).1
      have hin' := hinH.pre hpp3
      have hlb := hls x
      have hLx := hL x
      simp (maxSteps := 1000000) (disch := omega) only [h0, h5, h6, h8, h9, h22, h23, hcell, hus'.ix Tryz.underlying26 cs38, hus'.cell, Int.toNat_natCast, Nat.zero_add, S, S1, S2, S3, S4, S5, ST, eq_self, reduceIte, reduceCtorEq, Nat.reduceEqDiff, Nat.reduceAdd]
      generalize hw : us.getD x undef = w at *
      generalize hl : L.getD x [] = l at *
      simp (maxSteps := 1000000) (disch := omega) only [hin'.len Tryz.underlying38, S, S1, S2, S3, S4, S5, ST, eq_self, reduceIte, reduceCtorEq, Nat.reduceEqDiff, Nat.reduceAdd]
      refine LoopH.by (fun m' s' G2 => ∃ j st' op', m' + j = l.length ∧ s' 0 = v ∧ s' 5 = .slice (some ⟨oo, 0, none⟩) Ps.length Ps.length ∧ s' 6 = .slice (some ⟨A.length, 0, none⟩) L.length L.length ∧ s' 8 = .slice (some ⟨op', 0, none⟩) st'.2.length st'.2.length ∧ s' 9 = .int .i64 ((k : Nat) : Int) ∧ s' 22 = .int .i64 (L.length : Int) ∧ s' 23 = .int .i64 ((i : Nat) : Int) ∧ s' 47 = w ∧ s' 48 = .int .i64 (l.length : Int) ∧ s' 49 = .int .i64 ((j : Nat) : Int) ∧ G2[A.length]? = some (.cells (bls st'.1) 4 false) ∧ G2[op']? = some (.cells (ints st'.2) 3 false) ∧ H'.length ≤ op' ∧ InU H.length H'.length 38 3 G2 oo vs Ps ∧ PI L.length Cn st' ∧ st.2 <+: st'.2 ∧ ptIn (l.drop j) st' = ptIn l st ∧ H <+: G2) l.length ?_ ?_
      · refine ⟨0, st, op, by simp, ?_⟩
        simp only [S, S1, S2, S3, S4, S5, ST, eq_self, reduceIte, reduceCtorEq, Nat.reduceEqDiff, Nat.reduceAdd, h0, h5, h6, h8, h9, h22, h23]
        have hd2 : ptIn (l.drop 0) st = ptIn l st := by rw [List.drop_zero]
        have hpr := List.prefix_refl st.2
        (repeat' first | exact hcs3 | exact hcp | exact hin3 | exact hpi | exact hd2 | exact hpr | exact hpp3 | apply And.intro) <;> first | (simp only [Value.int.injEq, true_and]; omega) | omega | rfl | assumption | (simp; done) | (simp; omega)
      · rintro m' s' G2 ⟨j, st', op', hm', g0, g5, g6, g8, g9, g22, g23, g47, g48, g49, hcs4, hcp4, hop4, hin4, hpi4, hpre, hD, hpp4⟩
        have hw' := hinH.pre hpp4
        have hle' := hpi4.len_le
        have hlen' := hpi4.len
        simp (maxSteps := 1000000) (disch := omega) only [g0, g5, g6, g8, g9, g22, g23, g47, g48, g49, S, S1, S2, S3, S4, S5, ST, eq_self, reduceIte, reduceCtorEq, Nat.reduceEqDiff, Nat.reduceAdd]
        refine brD.intro (fun q => ?_) (fun q => ?_)
        · have hj : j < l.length := by omega
          rw [ptIn_drop l j hj] at hD
          have hym : l.getD j 0 ∈ l := by simp [hj]
          have hyr := hLx _ hym
          obtain ⟨y, hy⟩ : ∃ y : Nat, l.getD j 0 = y := ⟨(l.getD j 0).toNat, by omega⟩
          rw [hy] at hD hyr
          rw [Int.toNat_natCast] at hD
          have hyl : y < st'.1.length := by omega
          have hcw := hw'.cell hj
          rw [hy] at hcw
          simp (maxSteps := 1000000) (disch := omega) only [g0, g5, g6, g8, g9, g22, g23, g47, g48, g49, hw'.ix Tryz.underlying38 cs3, hcw, Int.toNat_natCast, Nat.zero_add, cell_bls hcs4 hyl, S, S1, S2, S3, S4, S5, ST, eq_self, reduceIte, reduceCtorEq, Nat.reduceEqDiff, Nat.reduceAdd]
          refine brH.intro (fun e => ?_) (fun e => ?_)
          · rw [if_pos e] at hD
            simp (maxSteps := 1000000) (disch := omega) only [e, g0, g5, g6, g8, g9, g22, g23, g47, g48, g49, wrap64, S, S1, S2, S3, S4, S5, ST, eq_self, reduceIte, reduceCtorEq, Nat.reduceEqDiff, Nat.reduceAdd]
            refine ⟨m' - 1, by omega, j + 1, st', op', ?_⟩
            (repeat' first | exact hcs4 | exact hcp4 | exact hin4 | exact hpi4 | exact hpre | exact hD | exact hpp4 | apply And.intro) <;> first | (simp only [Value.int.injEq, true_and]; omega) | omega | rfl | assumption | (simp; done) | (simp; omega)
          · have hnn : ¬ st'.1.getD y false = true := by rw [e]; decide
            rw [if_neg hnn] at hD
            have hb2 := hpi4.put (j := (y : Int)) hyr (by rw [Int.toNat_natCast]; exact hnn)
            rw [Int.toNat_natCast] at hb2
            have hlt4 := at_lt hcs4
            have hltp := at_lt hcp4
            have hcp5 : (G2.set A.length (.cells (bls (st'.1.set y true)) 4 false))[op']? = some (.cells (ints st'.2) 3 false) := by rw [List.getElem?_set_ne (by omega)]; exact hcp4
            have hap := appi38 (x := (y : Int)) (n := st'.2.length) (c := st'.2.length) hcp5 rfl (by omega)
            simp (maxSteps := 1000000) (disch := omega) only [e, g0, g5, g6, g8, g9, g22, g23, g47, g48, g49, Int.toNat_natCast, Nat.zero_add, st_bls hcs4 hyl, hap, wrap64, S, S1, S2, S3, S4, S5, ST, eq_self, reduceIte, reduceCtorEq, Nat.reduceEqDiff, Nat.reduceAdd]
            have f1 : st.2 <+: st'.2 ++ [(y : Int)] := hpre.trans (List.prefix_append _ _)
            have f2 : (st'.2 ++ [(y : Int)]).length = st'.2.length + 1 := by simp
            have aw : ∀ {o z}, o ≠ A.length → o ≠ op' → G2[o]? = some z → ((G2.set A.length (.cells (bls (st'.1.set y true)) 4 false)).set op' .dead ++ [AObj.cells [.int .i64 (y : Int)] 3 false, .cells (ints (st'.2 ++ [(y : Int)])) 3 false])[o]? = some z := by
              intro o z ho1 ho2 hz
              have := at_lt hz
              rw [List.getElem?_append_left (by simp; omega), List.getElem?_set_ne (fun e => ho2 e.symm), List.getElem?_set_ne (fun e => ho1 e.symm)]
              exact hz
            have f3 : ((G2.set A.length (.cells (bls (st'.1.set y true)) 4 false)).set op' .dead ++ [AObj.cells [.int .i64 (y : Int)] 3 false, .cells (ints (st'.2 ++ [(y : Int)])) 3 false])[A.length]? = some (.cells (bls (st'.1.set y true)) 4 false) := by
              rw [List.getElem?_append_left (by simp; omega), List.getElem?_set_ne (by omega), List.getElem?_set_self hlt4]
            have f4 : ((G2.set A.length (.cells (bls (st'.1.set y true)) 4 false)).set op' .dead ++ [AObj.cells [.int .i64 (y : Int)] 3 false, .cells (ints (st'.2 ++ [(y : Int)])) 3 false])[(G2.set A.length (.cells (bls (st'.1.set y true)) 4 false)).length + 1]? = some (.cells (ints (st'.2 ++ [(y : Int)])) 3 false) := by
              rw [List.getElem?_append_right (by simp)]; simp
            have f5 : InU H.length H'.length 38 3 ((G2.set A.length (.cells (bls (st'.1.set y true)) 4 false)).set op' .dead ++ [AObj.cells [.int .i64 (y : Int)] 3 false, .cells (ints (st'.2 ++ [(y : Int)])) 3 false]) oo vs Ps := by
              have q1 := hin4.moveq haw (H' := G2.set A.length (.cells (bls (st'.1.set y true)) 4 false)) fun j z hj hz => by rw [List.getElem?_set_ne (fun e => hj e.symm)]; exact hz
              refine q1.move fun j z hj1 hj2 hz => ?_
              have := at_lt hz
              rw [List.getElem?_append_left (by simpa using this), List.getElem?_set_ne (by omega)]
              exact hz
            have f6 : H <+: (G2.set A.length (.cells (bls (st'.1.set y true)) 4 false)).set op' .dead ++ [AObj.cells [.int .i64 (y : Int)] 3 false, .cells (ints (st'.2 ++ [(y : Int)])) 3 false] := pre_app (pre_set (pre_set hpp4 (by omega) _) (by omega) _) _
            have f7 : H'.length ≤ (G2.set A.length (.cells (bls (st'.1.set y true)) 4 false)).length + 1 := by simp; omega
            refine ⟨m' - 1, by omega, j + 1, (st'.1.set y true, st'.2 ++ [(y : Int)]), (G2.set A.length (.cells (bls (st'.1.set y true)) 4 false)).length + 1, ?_⟩
            simp only [f2]
            (repeat' first | exact f3 | exact f4 | exact f5 | exact f6 | exact f7 | exact f1 | exact hb2 | exact hD | apply And.intro) <;> first | (simp only [Value.int.injEq, true_and]; omega) | omega | rfl | assumption | (simp; done) | (simp; omega)
        · simp (maxSteps := 1000000) (disch := omega) only [g0, g5, g6, g8, g9, g22, g23, g47, g48, g49, wrap64, S, S1, S2, S3, S4, S5, ST, eq_self, reduceIte, reduceCtorEq, Nat.reduceEqDiff, Nat.reduceAdd]
          rw [List.drop_of_length_le (by omega)] at hD
          have hD' : st' = ptIn l st := hD
          rw [← hD'] at hF
          have hm1 : mk - 1 + 1 = mk := by omega
          rw [← hm1] at hF
          have hkl' : k + 1 ≤ st'.2.length := by have := hpre.length_le; omega
          refine ⟨mk - 1, by omega, st', k + 1, op', ?_⟩
          (repeat' first | exact hcs4 | exact hcp4 | exact hop4 | exact hin4 | exact hpi4 | exact hF | exact hkl' | exact hpp4 | apply And.intro) <;> first | (simp only [Value.int.injEq, true_and]; omega) | omega | rfl | assumption | (simp; done) | (simp; omega)
    · rw [ptF_done L _ st k (by omega)] at hF
      rw [← hF] at hstep
      have hnd := hpi.nd
      have hltp := at_lt hcp
      simp (maxSteps := 1000000) (disch := omega) only [h0, h5, h6, h8, h9, h22, h23, S, S1, S2, S3, S4, S5, ST, eq_self, reduceIte, reduceCtorEq, Nat.reduceEqDiff, Nat.reduceAdd]
      refine CallH.by (Sort_c (.slice (some ⟨op, 0, none⟩) st.2.length st.2.length) st.2 H G' (.inr ⟨op, rfl, by omega, hcp⟩) (by omega)) ?_
      rintro _ K ⟨ys, hys, hperm, hasc, hel⟩
      have hyl : ys.length = st.2.length := hperm.length_eq
      have hyeq := inOrd_eq hnd (fun x hx => (hpi.q x hx).1) hperm hasc
      have hKl : K.length = G'.length := hel.1
      have hke : ∀ {o z}, o ≠ op → G'[o]? = some z → K[o]? = some z := fun ho hz => hel.2 _ _ (.inr ho) hz
      have hcsK := hke (by omega) hcs3
      have hinK : InU H.length H'.length 38 3 K oo vs Ps := hin3.move fun j z hj1 hj2 hz => hke (by omega) hz
      have hcpK : K[op]? = some (.cells (ints ys) 3 false) := by
        rcases hys with ⟨q, _⟩ | ⟨o, q, _, hc⟩
        · cases q
        · simp only [Value.slice.injEq, Option.some.injEq, Addr.mk.injEq, and_true] at q
          obtain ⟨q1, _⟩ := q
          have q2 : o = op := by
            first
            | exact q1.symm
            | exact q1
            | exact q1.1.symm
            | exact q1.1
          rw [← q2]; exact hc
      have hppK : H <+: K := prefix_of fun o z hz => hke (by have := at_lt hz; omega) (pre_at hpp3 hz)
      have hltG := hpp3.length_le
      have hGH : H'.length ≤ G'.length := by omega
      have hinw : InI H'.length K.length 3 K (.slice (some ⟨op, 0, none⟩) st.2.length st.2.length) ys := .inr ⟨op, ys, by rw [hyl], hop, by omega, hcpK, List.take_of_length_le (Nat.le_refl _)⟩
      obtain ⟨K2, k1, k2, k3, k4⟩ := hinK.app1 (P := Tryz.prog) (t2 := 26) Tryz.underlying26 cs38 (by rw [by38]; decide) zk38 hinw lH' (by omega) (Nat.le_refl _) (by omega)
      simp (maxSteps := 1000000) (disch := omega) only [h0, h5, h6, h8, h9, h22, h23, k1, wrap64, S, S1, S2, S3, S4, S5, ST, eq_self, reduceIte, reduceCtorEq, Nat.reduceEqDiff, Nat.reduceAdd]
      have g1 : (prF L s0 (i + 1)).1 = st.1 := by rw [hstep]
      have g2 : (prF L s0 (i + 1)).2 = Ps ++ [ys] := by rw [hstep, hyeq]
      have g3 : (Ps ++ [ys]).length = Ps.length + 1 := by simp
      have c1 : K2[A.length]? = some (.cells (bls st.1) 4 false) := k4 _ _ (fun e => haw.1 e.symm) hcsK
      have c2 : InU H.length K2.length 38 3 K2 (K.length + 1) (vs.take Ps.length ++ [.slice (some ⟨op, 0, none⟩) st.2.length st.2.length]) (Ps ++ [ys]) := by rw [k3]; exact k2
      have c3 : Away A.length (K.length + 1) (vs.take Ps.length ++ [.slice (some ⟨op, 0, none⟩) st.2.length st.2.length]) (Ps ++ [ys]) := by
        refine ⟨by omega, fun j hj => ?_⟩
        rw [g3] at hj
        have hvl := hinK.2.2.2.1
        rw [List.getD_eq_getElem?_getD, List.getElem?_append]
        have hl2 : (vs.take Ps.length).length = Ps.length := by simp; omega
        rw [hl2]
        split
        · rename_i hj2
          rw [List.getElem?_take, if_pos hj2, ← List.getD_eq_getElem?_getD]
          exact haw.2 j hj2
        · have : j - Ps.length = 0 := by omega
          rw [this]
          refine .inr ?_
          show op ≠ A.length
          omega
      have c4 : H <+: K2 := prefix_of fun o z hz => k4 o z (by have := at_lt hz; have := hinK.1; omega) (pre_at hppK hz)
      refine ⟨m - 1, by omega, i + 1, K.length + 1, vs.take Ps.length ++ [.slice (some ⟨op, 0, none⟩) st.2.length st.2.length], ?_⟩
      rw [g1, g2, g3]
      (repeat' first | exact c1 | exact c2 | exact c3 | exact c4 | apply And.intro) <;> first | (simp only [Value.int.injEq, true_and]; omega) | omega | rfl | assumption | (simp; done) | (simp; omega)
end Go.Proofs.YtlfongfhbkefmaaGreat.Ai
namespace Go.Proofs.YtlfongfhbkefmaaGreat.Ai
open Go
set_option linter.unusedVariables false
def rcIn (es : List (Int × Int)) (out : List Int) (y : Int) : List Int := if y ∈ out then out else if (out.any fun o => nearB es o y) = true then put out y else out
def rcRound (es : List (Int × Int)) (set out : List Int) : List Int := set.foldl (rcIn es) out
def rcIter (es : List (Int × Int)) (set : List Int) : Nat → List Int → List Int
  | 0, o => o
  | k + 1, o => rcRound es set (rcIter es set k o)
/-- the numbers of a set that are reached from one of them -/
def reachL (es : List (Int × Int)) (set : List Int) (x : Int) : List Int := rcIter es set set.length [x]
def pcS (es : List (Int × Int)) (set : List Int) (st : List (List Int) × List Int) (x : Int) : List (List Int) × List Int :=
  if x ∈ st.2 then st else (st.1 ++ [reachL es set x], (reachL es set x).foldl put st.2)
def pcK (es : List (Int × Int)) (set : List Int) (l : List Int) : List (List Int) × List Int := l.foldl (pcS es set) ([], [])
/-- all pieces of a set -/
def piecesL (es : List (Int × Int)) (set : List Int) : List (List Int) := (pcK es set set).1
/-- reached by roads, all of them to places of a kind -/
inductive Rch (adj : Int → Int → Prop) (S : Int → Prop) (x : Int) : Int → Prop
  | refl : Rch adj S x x
  | step {y z : Int} : Rch adj S x y → adj y z → S z → Rch adj S x z
theorem Rch.mono {adj : Int → Int → Prop} {S T : Int → Prop} {x z : Int} (h : Rch adj S x z) (hs : ∀ y, S y → T y) : Rch adj T x z := by
  induction h with
  | refl => exact .refl
  | step _ h1 h2 ih => exact .step ih h1 (hs _ h2)
theorem Rch.in_ {adj : Int → Int → Prop} {S : Int → Prop} {x z : Int} (h : Rch adj S x z) (hx : S x) : S z := by
  cases h with
  | refl => exact hx
  | step _ _ h2 => exact h2
theorem nodup_le {a b : List Int} (ha : a.Nodup) (h : ∀ x ∈ a, x ∈ b) : a.length ≤ b.length := by
  induction a generalizing b with
  | nil => simp
  | cons x a ih =>
    have hx : x ∈ b := h x (by simp)
    rw [List.nodup_cons] at ha
    have hl := List.length_erase_of_mem hx
    have hp := List.length_pos_of_mem hx
    have := ih (b := b.erase x) ha.2 fun y hy => (List.mem_erase_of_ne (fun e : y = x => ha.1 (by rw [← e]; exact hy))).2 (h y (by simp [hy]))
    simp only [List.length_cons]
    omega
theorem lt_nodup {l : List Int} (h : l.Pairwise (· < ·)) : l.Nodup := h.imp fun h => by omega
theorem rcIn_mem (es : List (Int × Int)) (out : List Int) (y : Int) {z : Int} (h : z ∈ out) : z ∈ rcIn es out y := by
  unfold rcIn
  split
  · exact h
  · split
    · exact (put_mem _ _ _).2 (.inr h)
    · exact h
theorem fold_mem (es : List (Int × Int)) (set : List Int) : ∀ (out : List Int) {z : Int}, z ∈ out → z ∈ set.foldl (rcIn es) out := by
  induction set with
  | nil => intro out z h; exact h
  | cons y ys ih => intro out z h; exact ih _ (rcIn_mem es out y h)
theorem rcIn_srt (es : List (Int × Int)) (out : List Int) (y : Int) (h : out.Pairwise (· < ·)) : (rcIn es out y).Pairwise (· < ·) := by
  unfold rcIn
  split
  · exact h
  · split
    · exact put_sorted _ _ h
    · exact h
theorem fold_srt (es : List (Int × Int)) (set : List Int) : ∀ (out : List Int), out.Pairwise (· < ·) → (set.foldl (rcIn es) out).Pairwise (· < ·) := by
  induction set with
  | nil => intro out h; exact h
  | cons y ys ih => intro out h; exact ih _ (rcIn_srt es out y h)
theorem rcIn_inv (es : List (Int × Int)) (S : Int → Prop) (x : Int) (out : List Int) (y : Int) (hy : S y) (h : ∀ z ∈ out, Rch (fun a b => nearB es a b = true) S x z) : ∀ z ∈ rcIn es out y, Rch (fun a b => nearB es a b = true) S x z := by
  unfold rcIn
  split
  · exact h
  · split
    · rename_i e
      intro z hz
      rcases (put_mem _ _ _).1 hz with rfl | hz
      · obtain ⟨o, ho, hn⟩ := List.any_eq_true.1 e
        exact .step (h o ho) hn hy
      · exact h z hz
    · exact h
theorem fold_inv (es : List (Int × Int)) (S : Int → Prop) (x : Int) (set : List Int) : ∀ (out : List Int), (∀ y ∈ set, S y) → (∀ z ∈ out, Rch (fun a b => nearB es a b = true) S x z) → ∀ z ∈ set.foldl (rcIn es) out, Rch (fun a b => nearB es a b = true) S x z := by
  induction set with
  | nil => intro out _ h; exact h
  | cons y ys ih => intro out hs h; exact ih _ (fun z hz => hs z (by simp [hz])) (rcIn_inv es S x out y (hs y (by simp)) h)
theorem rcIter_srt (es : List (Int × Int)) (set : List Int) (x : Int) (k : Nat) : (rcIter es set k [x]).Pairwise (· < ·) := by
  induction k with
  | zero => exact List.pairwise_singleton _ _
  | succ k ih => exact fold_srt es set _ ih
theorem rcIter_x (es : List (Int × Int)) (set : List Int) (x : Int) (k : Nat) : x ∈ rcIter es set k [x] := by
  induction k with
  | zero => simp [rcIter]
  | succ k ih => exact fold_mem es set _ ih
theorem rcIter_inv (es : List (Int × Int)) (set : List Int) (x : Int) (k : Nat) : ∀ z ∈ rcIter es set k [x], Rch (fun a b => nearB es a b = true) (· ∈ set) x z := by
  induction k with
  | zero => intro z hz; simp [rcIter] at hz; subst hz; exact .refl
  | succ k ih => exact fold_inv es (· ∈ set) x set _ (fun _ h => h) ih
def Clo (es : List (Int × Int)) (set out : List Int) : Prop := ∀ a ∈ out, ∀ b ∈ set, nearB es a b = true → b ∈ out
theorem fold_get (es : List (Int × Int)) {a b : Int} (hn : nearB es a b = true) : ∀ (set out : List Int), b ∈ set → a ∈ out → b ∈ set.foldl (rcIn es) out
  | [], out, h, _ => by simp at h
  | y :: ys, out, h, ha => by
    rw [List.foldl_cons]
    rcases List.mem_cons.1 h with rfl | h
    · refine fold_mem es ys _ ?_
      unfold rcIn
      split
      · rename_i hm; exact hm
      · rw [if_pos (List.any_eq_true.2 ⟨a, ha, hn⟩)]
        exact (put_mem _ _ _).2 (.inl rfl)
    · exact fold_get es hn ys _ h (rcIn_mem es out y ha)
theorem fold_clo (es : List (Int × Int)) (set : List Int) (out : List Int) (hc : Clo es set out) : ∀ l : List Int, (∀ y ∈ l, y ∈ set) → l.foldl (rcIn es) out = out
  | [], _ => rfl
  | y :: ys, h => by
    have : rcIn es out y = out := by
      unfold rcIn
      split
      · rfl
      · rename_i hm
        rw [if_neg]
        intro e
        obtain ⟨o, ho, hn⟩ := List.any_eq_true.1 e
        exact hm (hc o ho y (h y (by simp)) hn)
    rw [List.foldl_cons, this]
    exact fold_clo es set out hc ys fun z hz => h z (by simp [hz])
theorem rcIter_or (es : List (Int × Int)) (set : List Int) (x : Int) (k : Nat) : Clo es set (rcIter es set k [x]) ∨ k + 1 ≤ (rcIter es set k [x]).length := by
  induction k with
  | zero => exact .inr (by simp [rcIter])
  | succ k ih =>
    by_cases hc : Clo es set (rcIter es set k [x])
    · left
      have : rcIter es set (k + 1) [x] = rcIter es set k [x] := fold_clo es set _ hc set fun _ h => h
      rw [this]; exact hc
    · right
      have ih := ih.resolve_left hc
      have hex : ∃ a b, a ∈ rcIter es set k [x] ∧ b ∈ set ∧ nearB es a b = true ∧ b ∉ rcIter es set k [x] := Classical.byContradiction fun h => hc fun a ha b hb hn => Classical.byContradiction fun hm => h ⟨a, b, ha, hb, hn, hm⟩
      obtain ⟨a, b, ha, hb, hn, hm⟩ := hex
      have hb2 : b ∈ rcIter es set (k + 1) [x] := fold_get es hn set _ hb ha
      have := nodup_le (a := b :: rcIter es set k [x]) (b := rcIter es set (k + 1) [x]) (by
        rw [List.nodup_cons]; exact ⟨hm, lt_nodup (rcIter_srt es set x k)⟩) (by
        intro z hz
        rcases List.mem_cons.1 hz with rfl | hz
        · exact hb2
        · exact fold_mem es set _ hz)
      simp only [List.length_cons] at this
      omega
theorem reach_iff (es : List (Int × Int)) (set : List Int) (x : Int) (hx : x ∈ set) (z : Int) : z ∈ reachL es set x ↔ Rch (fun a b => nearB es a b = true) (· ∈ set) x z := by
  constructor
  · exact rcIter_inv es set x _ z
  · have hc : Clo es set (reachL es set x) := by
      rcases rcIter_or es set x set.length with h | h
      · exact h
      · have := nodup_le (a := rcIter es set set.length [x]) (b := set) (lt_nodup (rcIter_srt es set x _)) fun y hy => (rcIter_inv es set x _ y hy).in_ hx
        omega
    intro h
    induction h with
    | refl => exact rcIter_x es set x _
    | step _ h1 h2 ih => exact hc _ ih _ h2 h1
theorem reach_srt (es : List (Int × Int)) (set : List Int) (x : Int) : (reachL es set x).Pairwise (· < ·) := rcIter_srt es set x _
theorem puts_mem (z : Int) : ∀ (l s : List Int), z ∈ l.foldl put s ↔ z ∈ l ∨ z ∈ s
  | [], s => by simp
  | y :: ys, s => by
    rw [List.foldl_cons, puts_mem z ys, put_mem, List.mem_cons]
    constructor
    · rintro (h | h | h)
      · exact .inl (.inr h)
      · exact .inl (.inl h)
      · exact .inr h
    · rintro ((h | h) | h)
      · exact .inr (.inl h)
      · exact .inl h
      · exact .inr (.inr h)
theorem ptIn_seen {N C : Nat} (v : Nat) (hv : v < N) : ∀ (l : List Int) (st : List Bool × List Int), PI N C st → (∀ y ∈ l, 0 ≤ y ∧ y < N) → ((ptIn l st).1.getD v false = true ↔ (st.1.getD v false = true ∨ (v : Int) ∈ l))
  | [], st, h, _ => by simp [ptIn]
  | j :: r, st, h, hl => by
    have hj := hl j (by simp)
    simp only [ptIn]
    split
    · rename_i hs
      rw [ptIn_seen v hv r st h (fun y hy => hl y (by simp [hy])), List.mem_cons]
      constructor
      · rintro (h1 | h1)
        · exact .inl h1
        · exact .inr (.inr h1)
      · rintro (h1 | h1 | h1)
        · exact .inl h1
        · left; rw [← h1] at hs; simpa using hs
        · exact .inr h1
    · rename_i hn
      have hlen := h.len
      rw [ptIn_seen v hv r _ (h.put hj hn) (fun y hy => hl y (by simp [hy])), List.mem_cons]
      show ((st.1.set j.toNat true).getD v false = true ∨ _) ↔ _
      rw [getD_setBool _ _ _ _ (by omega)]
      by_cases e : j.toNat = v
      · rw [if_pos e]
        have : (v : Int) = j := by omega
        simp [this]
      · rw [if_neg e]
        have : ¬ (v : Int) = j := by omega
        simp [this]
theorem ptIn_q (z : Int) : ∀ (l : List Int) (st : List Bool × List Int), z ∈ (ptIn l st).2 → z ∈ st.2 ∨ (z ∈ l ∧ ¬ st.1.getD z.toNat false = true)
  | [], st, h => .inl h
  | j :: r, st, h => by
    simp only [ptIn] at h
    split at h
    · rcases ptIn_q z r st h with h | ⟨h, h2⟩
      · exact .inl h
      · exact .inr ⟨by simp [h], h2⟩
    · rename_i hn
      rcases ptIn_q z r _ h with h | ⟨h, h2⟩
      · simp only [List.mem_append, List.mem_cons, List.not_mem_nil, or_false] at h
        rcases h with h | rfl
        · exact .inl h
        · exact .inr ⟨by simp, hn⟩
      · refine .inr ⟨by simp [h], fun h3 => h2 ?_⟩
        show (st.1.set j.toNat true).getD z.toNat false = true
        rw [List.getD_eq_getElem?_getD, List.getElem?_set]
        rw [List.getD_eq_getElem?_getD] at h3
        split
        · split
          · rfl
          · rename_i e1 e2
            rw [← e1, List.getElem?_eq_none (by omega)] at h3
            exact h3
        · exact h3
/-- what holds of the queue from a place, all along: s is what was seen before -/
structure QI (L : List (List Int)) (s : List Bool) (x : Nat) (C : Nat) (st : List Bool × List Int) (k : Nat) : Prop where
  pi : PI L.length C st
  seen : ∀ v, v < L.length → (st.1.getD v false = true ↔ (s.getD v false = true ∨ (v : Int) ∈ st.2))
  rch : ∀ z ∈ st.2, Rch (fun a b => b ∈ L.getD a.toNat []) (fun z => 0 ≤ z ∧ z < L.length ∧ ¬ s.getD z.toNat false = true) x z
  cl : ∀ i, i < k → ∀ y ∈ L.getD (st.2.getD i 0).toNat [], st.1.getD y.toNat false = true
  le : k ≤ st.2.length
  x : (x : Int) ∈ st.2
theorem QI.step {L : List (List Int)} (hL : LOk L.length L) {s : List Bool} {x C : Nat} {st : List Bool × List Int} {k : Nat} (h : QI L s x C st k) (hk : k < st.2.length) : QI L s x C (ptIn (L.getD (st.2.getD k 0).toNat []) st) (k + 1) := by
  have hpre := ptIn_pre (L.getD (st.2.getD k 0).toNat []) st
  have hPI := PI.inn _ h.pi (hL (st.2.getD k 0).toNat)
  have hm : st.2.getD k 0 ∈ st.2 := by simp [hk]
  have hsn : ∀ v, v < L.length → _ := fun v hv => ptIn_seen v hv (L.getD (st.2.getD k 0).toNat []) st h.pi (hL _)
  refine ⟨hPI, ?_, ?_, ?_, ?_, hpre.subset h.x⟩
  · intro v hv
    constructor
    · intro hh
      rcases (hsn v hv).1 hh with h1 | h1
      · rcases (h.seen v hv).1 h1 with h2 | h2
        · exact .inl h2
        · exact .inr (hpre.subset h2)
      · by_cases h2 : st.1.getD v false = true
        · rcases (h.seen v hv).1 h2 with h2 | h2
          · exact .inl h2
          · exact .inr (hpre.subset h2)
        · right
          -- it is put into the queue
          have key : ∀ (l : List Int) (st : List Bool × List Int), PI L.length C st → (∀ y ∈ l, 0 ≤ y ∧ y < L.length) → (v : Int) ∈ l → ¬ st.1.getD v false = true → (v : Int) ∈ (ptIn l st).2 := by
            intro l
            induction l with
            | nil => intro st _ _ h3; simp at h3
            | cons j r ih =>
              intro st hp hl h3 h4
              have hj := hl j (by simp)
              simp only [ptIn]
              by_cases e : j = (v : Int)
              · subst e
                rw [Int.toNat_natCast, if_neg h4]
                exact (ptIn_pre r _).subset (by simp)
              · have h3' : (v : Int) ∈ r := by
                  rcases List.mem_cons.1 h3 with h | h
                  · exact absurd h.symm e
                  · exact h
                split
                · exact ih st hp (fun y hy => hl y (by simp [hy])) h3' h4
                · rename_i hn
                  refine ih _ (hp.put hj hn) (fun y hy => hl y (by simp [hy])) h3' ?_
                  show ¬ (st.1.set j.toNat true).getD v false = true
                  have := hp.len
                  rw [getD_setBool _ _ _ _ (by omega), if_neg (by omega)]
                  exact h4
          exact key _ st h.pi (hL _) h1 h2
    · rintro (h1 | h1)
      · exact (hsn v hv).2 (.inl ((h.seen v hv).2 (.inl h1)))
      · obtain ⟨_, h2⟩ := hPI.q _ h1
        simpa using h2
  · intro z hz
    rcases ptIn_q z _ st hz with h1 | ⟨h1, h2⟩
    · exact h.rch z h1
    · have hr := hL _ z h1
      refine .step (h.rch _ hm) h1 ⟨hr.1, hr.2, fun h3 => h2 ?_⟩
      exact (h.seen z.toNat (by omega)).2 (.inl h3)
  · intro i hi y hy
    have hg : (ptIn (L.getD (st.2.getD k 0).toNat []) st).2.getD i 0 = st.2.getD i 0 := by
      obtain ⟨t, ht⟩ := hpre
      rw [← ht, List.getD_eq_getElem?_getD, List.getElem?_append_left (by omega), ← List.getD_eq_getElem?_getD]
    rw [hg] at hy
    have hr := hL _ y hy
    refine (hsn y.toNat (by omega)).2 ?_
    by_cases e : i = k
    · subst e
      right
      rw [Int.toNat_of_nonneg hr.1]; exact hy
    · exact .inl (h.cl i (by omega) y hy)
  · have := hpre.length_le
    by_cases e : (ptIn (L.getD (st.2.getD k 0).toNat []) st).2.length = st.2.length <;> omega
theorem QI.run {L : List (List Int)} (hL : LOk L.length L) {s : List Bool} {x C : Nat} : ∀ (f : Nat) (st : List Bool × List Int) (k : Nat), f + k = L.length + 1 → QI L s x C st k → QI L s x C (ptF L f st k) (ptF L f st k).2.length
  | 0, st, k, hf, h => by have := h.pi.len_le; have := h.le; omega
  | f + 1, st, k, hf, h => by
    simp only [ptF]
    split
    · rename_i hk
      exact QI.run hL f _ _ (by omega) (h.step hL hk)
    · have : k = st.2.length := by have := h.le; omega
      rw [← this]; exact h
/-- what the queue holds at last -/
theorem queue_iff {L : List (List Int)} (hL : LOk L.length L) {s : List Bool} (hs : s.length = L.length) {x : Nat} (hx : x < L.length) (hn : ¬ s.getD x false = true) :
    (∀ z, z ∈ (ptF L (L.length + 1) (s.set x true, [(x : Int)]) 0).2 ↔ Rch (fun a b => b ∈ L.getD a.toNat []) (fun z => 0 ≤ z ∧ z < L.length ∧ ¬ s.getD z.toNat false = true) x z)
    ∧ (∀ v, v < L.length → ((ptF L (L.length + 1) (s.set x true, [(x : Int)]) 0).1.getD v false = true ↔ (s.getD v false = true ∨ (v : Int) ∈ (ptF L (L.length + 1) (s.set x true, [(x : Int)]) 0).2)))
    ∧ (ptF L (L.length + 1) (s.set x true, [(x : Int)]) 0).1.length = L.length := by
  have h0 : QI L s x (s.countP fun b => !b) (s.set x true, [(x : Int)]) 0 := by
    refine ⟨PI.first hs hx hn, ?_, ?_, fun i hi => absurd hi (Nat.not_lt_zero i), Nat.zero_le _, by simp⟩
    · intro v hv
      show (s.set x true).getD v false = true ↔ _
      rw [getD_setBool _ _ _ _ (by omega)]
      by_cases e : x = v
      · rw [if_pos e]; simp [e]
      · rw [if_neg e]
        have : ¬ (v : Int) = (x : Int) := by omega
        simp [this]
    · intro z hz
      simp only [List.mem_cons, List.not_mem_nil, or_false] at hz
      subst hz; exact .refl
  have h := QI.run hL (L.length + 1) _ 0 (by omega) h0
  refine ⟨fun z => ⟨h.rch z, fun hz => ?_⟩, h.seen, h.pi.len⟩
  induction hz with
  | refl => exact h.x
  | step _ h1 h2 ih =>
    rename_i y z _
    obtain ⟨i, hi, e⟩ := List.mem_iff_getElem.1 ih
    have e2 : (ptF L (L.length + 1) (s.set x true, [(x : Int)]) 0).2.getD i 0 = y := by simp [hi, e]
    have h3 := h.cl i hi z (by rw [e2]; exact h1)
    rcases (h.seen z.toNat (by omega)).1 h3 with h4 | h4
    · exact absurd h4 h2.2.2
    · rw [Int.toNat_of_nonneg h2.1] at h4; exact h4
/-- the places not seen at first -/
def setW (s0 : List Bool) : Nat → List Int
  | 0 => []
  | k + 1 => setW s0 k ++ if s0.getD k false = true then [] else [(k : Int)]
theorem setW_mem (s0 : List Bool) (k : Nat) (z : Int) : z ∈ setW s0 k ↔ (0 ≤ z ∧ z < k ∧ ¬ s0.getD z.toNat false = true) := by
  induction k with
  | zero =>
    simp only [setW, List.not_mem_nil, false_iff]
    rintro ⟨h1, h2, _⟩
    omega
  | succ k ih =>
    have e0 : setW s0 (k + 1) = setW s0 k ++ if s0.getD k false = true then [] else [(k : Int)] := rfl
    rw [e0, List.mem_append, ih]
    by_cases hs : s0.getD k false = true
    · rw [if_pos hs]
      simp only [List.not_mem_nil, or_false]
      constructor
      · rintro ⟨h1, h2, h3⟩; exact ⟨h1, by omega, h3⟩
      · rintro ⟨h1, h2, h3⟩
        refine ⟨h1, ?_, h3⟩
        by_cases e : z = k
        · subst e; rw [Int.toNat_natCast] at h3; exact absurd hs h3
        · omega
    · rw [if_neg hs]
      simp only [List.mem_cons, List.not_mem_nil, or_false]
      constructor
      · rintro (⟨h1, h2, h3⟩ | rfl)
        · exact ⟨h1, by omega, h3⟩
        · exact ⟨by omega, by omega, by rw [Int.toNat_natCast]; exact hs⟩
      · rintro ⟨h1, h2, h3⟩
        by_cases e : z = k
        · exact .inr e
        · exact .inl ⟨h1, by omega, h3⟩
theorem srt_ext {a b : List Int} (ha : a.Pairwise (· < ·)) (hb : b.Pairwise (· < ·)) (h : ∀ z, z ∈ a ↔ z ∈ b) : a = b := by
  have hp : a.Perm b := (List.perm_ext_iff_of_nodup (lt_nodup ha) (lt_nodup hb)).2 h
  exact List.Perm.eq_of_pairwise (le := (· < ·)) (fun x y _ _ h1 h2 => by omega) ha hb hp
theorem inOrd_srt (N : Nat) (q : List Int) : (inOrd N q).Pairwise (· < ·) := by
  unfold inOrd
  refine List.Pairwise.filter _ ?_
  refine List.Pairwise.map _ ?_ List.pairwise_lt_range
  intro a b hab
  omega
theorem inOrd_mem (N : Nat) (q : List Int) (z : Int) : z ∈ inOrd N q ↔ (0 ≤ z ∧ z < N) ∧ z ∈ q := by
  unfold inOrd
  rw [List.mem_filter, decide_eq_true_iff, List.mem_map]
  constructor
  · rintro ⟨⟨a, ha, rfl⟩, h⟩
    have := List.mem_range.1 ha
    exact ⟨by omega, h⟩
  · rintro ⟨⟨h1, h2⟩, h⟩
    exact ⟨⟨z.toNat, List.mem_range.2 (by omega), by omega⟩, h⟩
structure PR (L : List (List Int)) (es : List (Int × Int)) (s0 : List Bool) (k : Nat) : Prop where
  eq : (prF L s0 k).2 = (pcK es (setW s0 L.length) (setW s0 k)).1
  len : (prF L s0 k).1.length = L.length
  seen : ∀ v, v < L.length → ((prF L s0 k).1.getD v false = true ↔ (s0.getD v false = true ∨ (v : Int) ∈ (pcK es (setW s0 L.length) (setW s0 k)).2))
  sub : ∀ z ∈ (pcK es (setW s0 L.length) (setW s0 k)).2, z ∈ setW s0 L.length
  clo : Clo es (setW s0 L.length) (pcK es (setW s0 L.length) (setW s0 k)).2
theorem parts_pc {L : List (List Int)} {es : List (Int × Int)} (hadj : ∀ x, x < L.length → ∀ y, y ∈ L.getD x [] ↔ ((0 ≤ y ∧ y < L.length) ∧ nearB es x y = true)) (s0 : List Bool) (hs : s0.length = L.length) {k : Nat} : k ≤ L.length → PR L es s0 k := by
  have hL : LOk L.length L := by
    intro i y hy
    by_cases hi : i < L.length
    · exact ((hadj i hi y).1 hy).1
    · have : L.getD i [] = [] := by simp [List.getElem?_eq_none (by omega : L.length ≤ i)]
      rw [this] at hy; simp at hy
  induction k with
  | zero =>
    intro _
    refine ⟨rfl, hs, ?_, ?_, ?_⟩
    · intro v hv; simp [prF, setW, pcK]
    · intro z hz; simp [setW, pcK] at hz
    · intro a ha; simp [setW, pcK] at ha
  | succ k ih =>
    intro hk
    have h := ih (by omega)
    obtain ⟨h1, h2, h3, h4, h5⟩ := h
    have e0 : setW s0 (k + 1) = setW s0 k ++ if s0.getD k false = true then [] else [(k : Int)] := rfl
    have p0 : prF L s0 (k + 1) = if (prF L s0 k).1.getD k false = true then prF L s0 k else
      ((ptF L (L.length + 1) ((prF L s0 k).1.set k true, [(k : Int)]) 0).1, (prF L s0 k).2 ++ [inOrd L.length (ptF L (L.length + 1) ((prF L s0 k).1.set k true, [(k : Int)]) 0).2]) := rfl
    by_cases hk0 : s0.getD k false = true
    · rw [if_pos hk0, List.append_nil] at e0
      have hk1 : (prF L s0 k).1.getD k false = true := (h3 k (by omega)).2 (.inl hk0)
      rw [if_pos hk1] at p0
      refine ⟨?_, ?_, ?_, ?_, ?_⟩
      · rw [p0, e0]; exact h1
      · rw [p0]; exact h2
      · rw [p0, e0]; exact h3
      · rw [e0]; exact h4
      · rw [e0]; exact h5
    · rw [if_neg hk0] at e0
      have hkS : (k : Int) ∈ setW s0 L.length := (setW_mem s0 L.length k).2 ⟨by omega, by omega, by rw [Int.toNat_natCast]; exact hk0⟩
      have c0 : pcK es (setW s0 L.length) (setW s0 (k + 1)) = pcS es (setW s0 L.length) (pcK es (setW s0 L.length) (setW s0 k)) k := by
        rw [e0]; unfold pcK; rw [List.foldl_append]; rfl
      generalize hS : setW s0 L.length = S at *
      generalize hP : pcK es S (setW s0 k) = P at *
      by_cases hk1 : (k : Int) ∈ P.2
      · have hk2 : (prF L s0 k).1.getD k false = true := (h3 k (by omega)).2 (.inr hk1)
        rw [if_pos hk2] at p0
        have c1 : pcK es S (setW s0 (k + 1)) = P := by rw [c0]; unfold pcS; rw [if_pos hk1]
        refine ⟨?_, ?_, ?_, ?_, ?_⟩
        · rw [p0, hS, c1]; exact h1
        · rw [p0]; exact h2
        · rw [p0, hS, c1]; exact h3
        · rw [hS, c1]; exact h4
        · rw [hS, c1]; exact h5
      · have hk2 : ¬ (prF L s0 k).1.getD k false = true := fun h => by
          rcases (h3 k (by omega)).1 h with h | h
          · exact hk0 h
          · exact hk1 h
        rw [if_neg hk2] at p0
        have c1 : pcK es S (setW s0 (k + 1)) = (P.1 ++ [reachL es S k], (reachL es S k).foldl put P.2) := by rw [c0]; unfold pcS; rw [if_neg hk1]
        obtain ⟨q1, q2, q3⟩ := queue_iff hL h2 (x := k) (by omega) hk2
        have hri := reach_iff es S k hkS
        -- what is reached is the same
        have same : ∀ z, z ∈ (ptF L (L.length + 1) ((prF L s0 k).1.set k true, [(k : Int)]) 0).2 ↔ z ∈ reachL es S k := by
          intro z
          rw [q1, hri]
          constructor
          · intro h
            induction h with
            | refl => exact .refl
            | step hy h1' h2' ih =>
              rename_i y z
              have hyr0 := hy.in_ (S := fun z : Int => 0 ≤ z ∧ z < L.length ∧ ¬ (prF L s0 k).1.getD z.toNat false = true) ⟨by omega, by omega, by rw [Int.toNat_natCast]; exact hk2⟩
              have hyr : 0 ≤ y ∧ y < L.length := ⟨hyr0.1, hyr0.2.1⟩
              have hn := ((hadj y.toNat (by omega) z).1 h1').2
              rw [Int.toNat_of_nonneg hyr.1] at hn
              refine .step ih hn ?_
              show z ∈ S
              rw [← hS, setW_mem]
              exact ⟨h2'.1, h2'.2.1, fun h => h2'.2.2 ((h3 z.toNat (by omega)).2 (.inl h))⟩
          · intro h
            have key : (z ∉ P.2 ∧ z ∈ S) ∧ Rch (fun a b => b ∈ L.getD a.toNat []) (fun z => 0 ≤ z ∧ z < L.length ∧ ¬ (prF L s0 k).1.getD z.toNat false = true) k z := by
              induction h with
              | refl => exact ⟨⟨hk1, hkS⟩, .refl⟩
              | step _ hn hz ih =>
                rename_i y z _
                obtain ⟨⟨i1, i2⟩, i3⟩ := ih
                have hz' : z ∈ S := hz
                have hzP : z ∉ P.2 := fun hm => i1 (h5 z hm y i2 (by rw [nearB_comm]; exact hn))
                have hzr := hz'
                rw [← hS, setW_mem] at hzr
                have hyr := i2
                rw [← hS, setW_mem] at hyr
                refine ⟨⟨hzP, hz'⟩, .step i3 ?_ ⟨hzr.1, hzr.2.1, fun h => ?_⟩⟩
                · refine (hadj y.toNat (by omega) z).2 ⟨⟨hzr.1, hzr.2.1⟩, ?_⟩
                  rw [Int.toNat_of_nonneg hyr.1]; exact hn
                · rcases (h3 z.toNat (by omega)).1 h with h | h
                  · exact hzr.2.2 h
                  · rw [Int.toNat_of_nonneg hzr.1] at h; exact hzP h
            exact key.2
        have hsub : ∀ z ∈ reachL es S k, z ∈ S := fun z hz => ((hri z).1 hz).in_ (S := (· ∈ S)) hkS
        have hrng : ∀ z ∈ S, 0 ≤ z ∧ z < L.length := fun z hz => by rw [← hS, setW_mem] at hz; exact ⟨hz.1, hz.2.1⟩
        have heq : inOrd L.length (ptF L (L.length + 1) ((prF L s0 k).1.set k true, [(k : Int)]) 0).2 = reachL es S k := by
          refine srt_ext (inOrd_srt _ _) (reach_srt es S k) fun z => ?_
          rw [inOrd_mem, same]
          exact ⟨fun h => h.2, fun h => ⟨hrng z (hsub z h), h⟩⟩
        refine ⟨?_, ?_, ?_, ?_, ?_⟩
        · rw [p0, hS, c1, heq, h1]
        · rw [p0]; exact q3
        · intro v hv
          rw [p0, hS, c1]
          show (ptF L (L.length + 1) ((prF L s0 k).1.set k true, [(k : Int)]) 0).1.getD v false = true ↔ (_ ∨ (v : Int) ∈ (reachL es S k).foldl put P.2)
          rw [q2 v hv, puts_mem, h3 v hv, same]
          constructor
          · rintro ((h | h) | h)
            · exact .inl h
            · exact .inr (.inr h)
            · exact .inr (.inl h)
          · rintro (h | h | h)
            · exact .inl (.inl h)
            · exact .inr h
            · exact .inl (.inr h)
        · rw [hS, c1]
          intro z hz
          rcases (puts_mem z _ _).1 hz with h | h
          · exact hsub z h
          · exact h4 z h
        · rw [hS, c1]
          intro a ha b hb hn
          refine (puts_mem b _ _).2 ?_
          rcases (puts_mem a _ _).1 ha with h | h
          · exact .inl ((hri b).2 (.step ((hri a).1 h) hn hb))
          · exact .inr (h5 a h b hb hn)
/-- THE PARTS are the pieces. -/
theorem parts_pieces {L : List (List Int)} {es : List (Int × Int)} (hadj : ∀ x, x < L.length → ∀ y, y ∈ L.getD x [] ↔ ((0 ≤ y ∧ y < L.length) ∧ nearB es x y = true)) (wo : Int) : partsL L wo = piecesL es (setW (seen0 L.length wo) L.length) := by
  have hs : (seen0 L.length wo).length = L.length := by unfold seen0; split <;> simp
  exact (parts_pc hadj _ hs (k := L.length) (Nat.le_refl _)).eq
end Go.Proofs.YtlfongfhbkefmaaGreat.Ai
namespace Go.Proofs.YtlfongfhbkefmaaGreat.Ai
open Go
def ords153 : List (Nat × List (Nat × Bool)) := []
def cd153 : Cd := (.seq (.reg [⟨⟨some 4, Op.assign (Operand.const (Value.bool false)), none⟩, []⟩]) (.seq (.seq (.reg [⟨⟨some 5, Op.assign (Operand.const (Value.int IntKind.i64 0)), none⟩, []⟩]) (.block 0 (.loop (.seq (.seq (.reg [⟨⟨some 6, Op.move (Operand.tmp 5), none⟩, []⟩,
  ⟨⟨some 7, Op.move (Operand.tmp 0), none⟩, []⟩,
  ⟨⟨some 8, Op.call { callee := (Callee.builtin Builtin.len), args := #[(Operand.tmp 7)], argTypes := #[38] }, none⟩, []⟩,
  ⟨⟨some 9, Op.binOp BinOp.lss 3 (Operand.tmp 6) (Operand.tmp 8) 3, none⟩, []⟩]) (.cond (Operand.tmp 9) .skip (.exit 0))) (.seq (.block 1 (.seq (.reg [⟨⟨some 12, Op.move (Operand.tmp 0), none⟩, []⟩,
  ⟨⟨some 13, Op.move (Operand.tmp 5), none⟩, []⟩,
  ⟨⟨some 14, Op.indexAddr 38 (Operand.tmp 12) (Operand.tmp 13), none⟩, []⟩,
  ⟨⟨some 15, Op.load 3 (Operand.tmp 14), none⟩, []⟩,
  ⟨⟨some 16, Op.move (Operand.tmp 1), none⟩, []⟩,
  ⟨⟨some 17, Op.binOp BinOp.eql 3 (Operand.tmp 15) (Operand.tmp 16) 3, none⟩, []⟩]) (.cond (Operand.tmp 17) (.seq (.reg [⟨⟨some 4, Op.assign (Operand.const (Value.bool true)), none⟩, []⟩]) .ret) .skip))) (.reg [⟨⟨some 10, Op.move (Operand.tmp 5), none⟩, []⟩,
  ⟨⟨some 11, Op.binOp BinOp.add 3 (Operand.tmp 10) (Operand.const (Value.int IntKind.i64 1)) 3, none⟩, []⟩,
  ⟨⟨some 5, Op.assign (Operand.tmp 11), none⟩, []⟩])))))) (.seq (.reg [⟨⟨some 4, Op.assign (Operand.const (Value.bool false)), none⟩, []⟩]) .ret)))
theorem sl153 : slim Tryz.f153.ntmps ords153 (Tryz.f153.body.getD .skip) = some cd153 := by kernel_rfl
theorem in153 {args : List Value} {H : AH} {R : Value → AH → Prop} (hl : args.length = 2) (h : ∀ (Q : Exit → Sl → AH → Prop), (∀ e s H, endA Tryz.prog [ResultVar.tmp 4] R e s H → Q e s H) → wpC Tryz.prog cd153 Q (enterA args) H) : ACalls Tryz.prog 153 args H R :=
  ACalls.intro (by kernel_rfl) Tryz.func153 rfl (by kernel_rfl) sl153 hl (of_decide_eq_true (by kernel_rfl)) (by kernel_rfl) h
end Go.Proofs.YtlfongfhbkefmaaGreat.Ai
namespace Go.Proofs.YtlfongfhbkefmaaGreat.Ai
open Go Go.RowKit
set_option linter.unusedVariables false
set_option linter.unusedSimpArgs false
theorem l1Has_c (v : Value) (xs : List Int) (x : Int) (H : AH) (hr : Row 3 H v xs) (hlen : xs.length ≤ 1099511627776) : ACalls Tryz.prog 153 [v, .int .i64 x] H fun r H' => r = .bool (decide (x ∈ xs)) ∧ H = H' := by
  refine in153 rfl ?_
  intro Q hQ
  simp (maxSteps := 1000000) (disch := omega) only [cd153, S, S1, S2, S3, S4, S5, ST, eq_self, reduceIte, reduceCtorEq, Nat.reduceEqDiff, Nat.reduceAdd]
  refine LoopH.by (fun m s H' => ∃ i, m + i = xs.length ∧ s 0 = v ∧ s 1 = .int .i64 x ∧ s 5 = .int .i64 ((i : Nat) : Int) ∧ H = H' ∧ x ∉ xs.take i) xs.length ?_ ?_
  · exact ⟨0, by simp, rfl, rfl, rfl, rfl, by simp⟩
  · rintro m s H' ⟨i, hm, h0, h1, h5, rfl, hn⟩
    simp (maxSteps := 1000000) (disch := omega) only [h0, h1, h5, hr.len Tryz.underlying38, S, S1, S2, S3, S4, S5, ST, eq_self, reduceIte, reduceCtorEq, Nat.reduceEqDiff, Nat.reduceAdd]
    refine brD.intro (fun g => ?_) (fun g => ?_) <;> simp (maxSteps := 1000000) (disch := omega) only [h0, h1, h5, hr.ix Tryz.underlying38 cs3, hr.cell, Int.toNat_natCast, S, S1, S2, S3, S4, S5, ST, eq_self, reduceIte, reduceCtorEq, Nat.reduceEqDiff, Nat.reduceAdd]
    · have hi : i < xs.length := by omega
      have hg : xs.getD i 0 = xs[i] := by simp [hi]
      refine brD.intro (fun e => ?_) (fun e => ?_) <;> simp (maxSteps := 1000000) (disch := omega) only [h0, h1, h5, wrap64, S, S1, S2, S3, S4, S5, ST, eq_self, reduceIte, reduceCtorEq, Nat.reduceEqDiff, Nat.reduceAdd]
      · refine hQ _ _ _ ?_
        simp (maxSteps := 1000000) (disch := omega) only [S, S1, S2, S3, S4, S5, ST, eq_self, reduceIte, reduceCtorEq, Nat.reduceEqDiff, Nat.reduceAdd]
        rw [hg] at e
        have : x ∈ xs := e ▸ List.getElem_mem hi
        simp [this]
      · refine ⟨m - 1, by omega, i + 1, by omega, by simp, ?_⟩
        rw [List.take_add_one, List.getElem?_eq_getElem hi]
        rw [hg] at e
        simp only [Option.toList_some, List.mem_append, List.mem_singleton, not_or]
        exact ⟨hn, fun e' => e e'.symm⟩
    · refine hQ _ _ _ ?_
      simp (maxSteps := 1000000) (disch := omega) only [S, S1, S2, S3, S4, S5, ST, eq_self, reduceIte, reduceCtorEq, Nat.reduceEqDiff, Nat.reduceAdd]
      rw [List.take_of_length_le (by omega)] at hn
      simp [hn]
end Go.Proofs.YtlfongfhbkefmaaGreat.Ai
namespace Go.Proofs.YtlfongfhbkefmaaGreat.Ai
open Go
def ords155 : List (Nat × List (Nat × Bool)) := [(6, [(0, false), (1, false), (2, false), (3, false), (5, false), (6, false), (8, false), (9, false), (10, false), (4, true), (7, true), (11, true), (12, false)])]
def cd155 : Cd := (.seq (.reg [⟨⟨some 4, Op.assign (Operand.const (Value.slice none 0 0)), none⟩, []⟩]) (.seq (.reg [⟨⟨some 5, Op.assign (Operand.const (Value.int IntKind.i64 0)), none⟩, []⟩]) (.seq (.block 0 (.loop (.seq (.seq (.reg [⟨⟨some 6, Op.move (Operand.tmp 5), none⟩, []⟩,
  ⟨⟨some 7, Op.move (Operand.tmp 0), none⟩, []⟩,
  ⟨⟨some 8, Op.call { callee := (Callee.builtin Builtin.len), args := #[(Operand.tmp 7)], argTypes := #[38] }, none⟩, []⟩,
  ⟨⟨some 9, Op.binOp BinOp.lss 3 (Operand.tmp 6) (Operand.tmp 8) 3, none⟩, []⟩,
  ⟨⟨some 10, Op.move (Operand.tmp 9), none⟩, []⟩,
  ⟨⟨some 11, Op.move (Operand.tmp 0), some (10, true)⟩, []⟩,
  ⟨⟨some 12, Op.move (Operand.tmp 5), some (10, true)⟩, []⟩,
  ⟨⟨some 13, Op.indexAddr 38 (Operand.tmp 11) (Operand.tmp 12), some (10, true)⟩, []⟩,
  ⟨⟨some 14, Op.load 3 (Operand.tmp 13), some (10, true)⟩, []⟩,
  ⟨⟨some 15, Op.move (Operand.tmp 1), some (10, true)⟩, []⟩,
  ⟨⟨some 16, Op.binOp BinOp.lss 3 (Operand.tmp 14) (Operand.tmp 15) 3, some (10, true)⟩, []⟩,
  ⟨⟨some 17, Op.pick (Operand.tmp 10) (Operand.tmp 16) (Operand.const (Value.bool false)), none⟩, []⟩]) (.cond (Operand.tmp 17) .skip (.exit 0))) (.block 1 (.reg [⟨⟨some 18, Op.move (Operand.tmp 5), none⟩, []⟩,
  ⟨⟨some 19, Op.binOp BinOp.add 3 (Operand.tmp 18) (Operand.const (Value.int IntKind.i64 1)) 3, none⟩, []⟩,
  ⟨⟨some 5, Op.assign (Operand.tmp 19), none⟩, []⟩]))))) (.seq (.seq (.reg [⟨⟨some 20, Op.move (Operand.tmp 5), none⟩, []⟩,
  ⟨⟨some 21, Op.move (Operand.tmp 0), none⟩, []⟩,
  ⟨⟨some 22, Op.call { callee := (Callee.builtin Builtin.len), args := #[(Operand.tmp 21)], argTypes := #[38] }, none⟩, []⟩,
  ⟨⟨some 23, Op.binOp BinOp.lss 3 (Operand.tmp 20) (Operand.tmp 22) 3, none⟩, []⟩,
  ⟨⟨some 24, Op.move (Operand.tmp 23), none⟩, []⟩,
  ⟨⟨some 25, Op.move (Operand.tmp 0), some (24, true)⟩, []⟩,
  ⟨⟨some 26, Op.move (Operand.tmp 5), some (24, true)⟩, []⟩,
  ⟨⟨some 27, Op.indexAddr 38 (Operand.tmp 25) (Operand.tmp 26), some (24, true)⟩, []⟩,
  ⟨⟨some 28, Op.load 3 (Operand.tmp 27), some (24, true)⟩, []⟩,
  ⟨⟨some 29, Op.move (Operand.tmp 1), some (24, true)⟩, []⟩,
  ⟨⟨some 30, Op.binOp BinOp.eql 3 (Operand.tmp 28) (Operand.tmp 29) 3, some (24, true)⟩, []⟩,
  ⟨⟨some 31, Op.pick (Operand.tmp 24) (Operand.tmp 30) (Operand.const (Value.bool false)), none⟩, []⟩]) (.cond (Operand.tmp 31) (.seq (.reg [⟨⟨some 32, Op.move (Operand.tmp 0), none⟩, []⟩,
  ⟨⟨some 4, Op.assign (Operand.tmp 32), none⟩, []⟩]) .ret) .skip)) (.seq (.reg [⟨⟨some 33, Op.buildSlice 38 0 #[], none⟩, []⟩,
  ⟨⟨some 34, Op.move (Operand.tmp 0), none⟩, []⟩,
  ⟨⟨some 35, Op.move (Operand.tmp 5), none⟩, []⟩,
  ⟨⟨some 36, Op.slice 38 (Operand.tmp 34) none (some (Operand.tmp 35)) none, none⟩, []⟩,
  ⟨⟨some 38, Op.move (Operand.tmp 1), none⟩, []⟩,
  ⟨⟨some 39, Op.buildSlice 38 1 #[(0, (Operand.tmp 38))], none⟩, []⟩,
  ⟨⟨some 41, Op.move (Operand.tmp 0), none⟩, []⟩,
  ⟨⟨some 42, Op.move (Operand.tmp 5), none⟩, []⟩,
  ⟨⟨some 43, Op.slice 38 (Operand.tmp 41) (some (Operand.tmp 42)) none none, none⟩, []⟩,
  ⟨⟨some 37, Op.call { callee := (Callee.builtin Builtin.append), args := #[(Operand.tmp 33), (Operand.tmp 36)], argTypes := #[38, 38] }, none⟩, [⟨some 43, Op.slice 38 (Operand.tmp 41) (some (Operand.tmp 42)) none none, none⟩, ⟨some 39, Op.buildSlice 38 1 #[(0, (Operand.tmp 38))], none⟩]⟩,
  ⟨⟨some 40, Op.call { callee := (Callee.builtin Builtin.append), args := #[(Operand.tmp 37), (Operand.tmp 39)], argTypes := #[38, 38] }, none⟩, [⟨some 43, Op.slice 38 (Operand.tmp 41) (some (Operand.tmp 42)) none none, none⟩]⟩,
  ⟨⟨some 44, Op.call { callee := (Callee.builtin Builtin.append), args := #[(Operand.tmp 40), (Operand.tmp 43)], argTypes := #[38, 38] }, none⟩, []⟩,
  ⟨⟨some 4, Op.assign (Operand.tmp 44), none⟩, []⟩]) .ret)))))
theorem sl155 : slim Tryz.f155.ntmps ords155 (Tryz.f155.body.getD .skip) = some cd155 := by kernel_rfl
theorem in155 {args : List Value} {H : AH} {R : Value → AH → Prop} (hl : args.length = 2) (h : ∀ (Q : Exit → Sl → AH → Prop), (∀ e s H, endA Tryz.prog [ResultVar.tmp 4] R e s H → Q e s H) → wpC Tryz.prog cd155 Q (enterA args) H) : ACalls Tryz.prog 155 args H R :=
  ACalls.intro (by kernel_rfl) Tryz.func155 rfl (by kernel_rfl) sl155 hl (of_decide_eq_true (by kernel_rfl)) (by kernel_rfl) h
end Go.Proofs.YtlfongfhbkefmaaGreat.Ai
namespace Go.Proofs.YtlfongfhbkefmaaGreat.Ai
open Go Go.RowKit
set_option linter.unusedVariables false
set_option linter.unusedSimpArgs false
set_option maxHeartbeats 2000000 in
theorem l1Put_c (v : Value) (l : List Int) (x : Int) (H : AH) (hr : Row 3 H v l) (hlen : l.length ≤ 1000000) (hx : x ∉ l) :
    ACalls Tryz.prog 155 [v, .int .i64 x] H fun r H' => Own 3 H H' r (put l x) ∧ H <+: H' := by
  refine in155 rfl ?_
  intro Q hQ
  simp (maxSteps := 1000000) (disch := omega) only [cd155, S, S1, S2, S3, S4, S5, ST, eq_self, reduceIte, reduceCtorEq, Nat.reduceEqDiff, Nat.reduceAdd]
  refine LoopH.by (fun m s H' => ∃ i, m + i = l.length ∧ s 0 = v ∧ s 1 = .int .i64 x ∧ s 5 = .int .i64 ((i : Nat) : Int) ∧ H = H' ∧ ∀ j, j < i → l.getD j 0 < x) l.length ?_ ?_
  · exact ⟨0, by simp, rfl, rfl, rfl, rfl, by omega⟩
  · rintro m s H' ⟨i, hm, h0, h1, h5, rfl, hlt⟩
    have fin : (i < l.length → x ≤ l.getD i 0) → put l x = l.take i ++ x :: l.drop i := by
      intro h
      rw [putAt_eq0 l x i (by omega) hlt h, if_neg]
      rintro ⟨hi, e⟩
      apply hx
      have : l.getD i 0 = l[i] := by simp [hi]
      rw [← e, this]; exact List.getElem_mem hi
    have last : (i < l.length → x ≤ l.getD i 0) → ∀ s' : Sl, s' 0 = v → s' 1 = .int .i64 x → s' 5 = .int .i64 ((i : Nat) : Int) → True := fun _ _ _ _ _ => trivial
    -- the list made anew
    have hp1 := List.prefix_append H [AObj.cells [] 3 false]
    have hp2 : H <+: H ++ [AObj.cells [] 3 false] ++ [AObj.cells [.int .i64 x] 3 false] := pre_app hp1 _
    have sl1 : ∀ H1, H <+: H1 → sliceA Tryz.prog 38 v none (some (.int .i64 ((i : Nat) : Int))) none H1 = some (subV v 0 i) ∧ Row 3 H1 (subV v 0 i) (l.take i) := by
      intro H1 hp
      have h := (hr.pre hp).slice Tryz.underlying38 cs3 (lo := none) (hi := some (.int .i64 ((i : Nat) : Int))) lo_none (bound_some (by omega) _) (by omega) (by simp; omega)
      simp only [Int.toNat_natCast, List.drop_zero, Nat.sub_zero] at h
      exact ⟨h.1, h.2.1⟩
    have sl2 : ∀ H1, H <+: H1 → sliceA Tryz.prog 38 v (some (.int .i64 ((i : Nat) : Int))) none none H1 = some (subV v i l.length) ∧ Row 3 H1 (subV v i l.length) (l.drop i) := by
      intro H1 hp
      have h := (hr.pre hp).slice Tryz.underlying38 cs3 (lo := some (.int .i64 ((i : Nat) : Int))) (hi := none) (bound_some (by omega) _) (hi_none _) (by simp; omega) (Nat.le_refl _)
      simp only [Int.toNat_natCast] at h
      refine ⟨h.1, ?_⟩
      have e : (l.drop i).take (l.length - i) = l.drop i := List.take_of_length_le (by simp)
      rw [← e]; exact h.2.1
    have ho0 : Own 3 H (H ++ [AObj.cells [] 3 false] ++ [AObj.cells [.int .i64 x] 3 false]) (.slice (some ⟨H.length, 0, none⟩) 0 0) [] := .inr ⟨H.length, rfl, Nat.le_refl _, at_app (at_new ..) _⟩
    obtain ⟨w1, H3, k1, o1, p1, e1, _⟩ := ho0.app (P := Tryz.prog) (t := 38) Tryz.underlying38 cs3 (by rw [by3]; decide) zk3 (sl1 _ hp2).2 hp2 (by simp; omega)
    simp only [List.nil_append] at o1
    have c3 : H3[(H ++ [AObj.cells [] 3 false]).length]? = some (.cells [.int .i64 x] 3 false) := e1 _ _ (.inr (by simp [rowO])) (at_new ..)
    have c2 : (H ++ [AObj.cells [] 3 false] ++ [AObj.cells [.int .i64 x] 3 false])[(H ++ [AObj.cells [] 3 false]).length]? = some (.cells [.int .i64 x] 3 false) := at_new ..
    have r39 : Row 3 H3 (.slice (some ⟨(H ++ [AObj.cells [] 3 false]).length, 0, none⟩) 1 1) [x] := .inr ⟨_, 0, [.int .i64 x], false, rfl, c3, by simp, rfl⟩
    obtain ⟨w2, H4, k2, o2, p2, e2, _⟩ := o1.app (P := Tryz.prog) (t := 38) Tryz.underlying38 cs3 (by rw [by3]; decide) zk3 r39 p1 (by simp; omega)
    obtain ⟨w3, H5, k3, o3, p3, e3, _⟩ := o2.app (P := Tryz.prog) (t := 38) Tryz.underlying38 cs3 (by rw [by3]; decide) zk3 (sl2 _ p2).2 p2 (by simp; omega)
    have hcat : l.take i ++ [x] ++ l.drop i = l.take i ++ x :: l.drop i := by simp
    simp (maxSteps := 1000000) (disch := omega) only [h0, h1, h5, hr.len Tryz.underlying38, S, S1, S2, S3, S4, S5, ST, eq_self, reduceIte, reduceCtorEq, Nat.reduceEqDiff, Nat.reduceAdd]
    refine brD.intro (fun g => ?_) (fun g => ?_)
    · have hi : i < l.length := by omega
      simp (maxSteps := 1000000) (disch := omega) only [g, h0, h1, h5, hr.ix Tryz.underlying38 cs3, hr.cell, Int.toNat_natCast, S, S1, S2, S3, S4, S5, ST, eq_self, reduceIte, reduceCtorEq, Nat.reduceEqDiff, Nat.reduceAdd]
      refine brD.intro (fun e => ?_) (fun e => ?_)
      · simp (maxSteps := 1000000) (disch := omega) only [h0, h1, h5, wrap64, S, S1, S2, S3, S4, S5, ST, eq_self, reduceIte, reduceCtorEq, Nat.reduceEqDiff, Nat.reduceAdd]
        have fx : ∀ j, j < i + 1 → l.getD j 0 < x := by
          intro j hj
          by_cases ej : j = i
          · subst ej; exact e
          · exact hlt j (by omega)
        refine ⟨m - 1, by omega, i + 1, ?_⟩
        (repeat' apply And.intro) <;> first | exact fx | (simp only [Value.int.injEq, true_and]; omega) | omega | rfl | assumption | (simp; done) | (simp; omega)
      · have hne : ¬ l.getD i 0 = x := fun h => hx (by
          have : l.getD i 0 = l[i] := by simp [hi]
          rw [← h, this]; exact List.getElem_mem hi)
        simp (maxSteps := 1000000) (disch := omega) only [g, h0, h1, h5, hr.len Tryz.underlying38, hr.ix Tryz.underlying38 cs3, hr.cell, Int.toNat_natCast, S, S1, S2, S3, S4, S5, ST, eq_self, reduceIte, reduceCtorEq, Nat.reduceEqDiff, Nat.reduceAdd]
        refine brD.intro (fun h => absurd h hne) (fun hne => ?_)
        simp (maxSteps := 1000000) (disch := omega) only [hne, g, h0, h1, h5, (sl1 _ hp1).1, (sl2 _ hp2).1, k1, k2, k3, (sl2 _ p1).1, (sl2 _ p2).1, c2, c3, S, S1, S2, S3, S4, S5, ST, eq_self, reduceIte, reduceCtorEq, Nat.reduceEqDiff, Nat.reduceAdd]
        refine hQ _ _ _ ?_
        simp (maxSteps := 1000000) (disch := omega) only [o3.row.tup, S, S1, S2, S3, S4, S5, ST, eq_self, reduceIte, reduceCtorEq, Nat.reduceEqDiff, Nat.reduceAdd]
        rw [fin (fun _ => by omega), ← hcat]
        exact ⟨o3, p3⟩
    · simp (maxSteps := 1000000) (disch := omega) only [g, h0, h1, h5, hr.len Tryz.underlying38, S, S1, S2, S3, S4, S5, ST, eq_self, reduceIte, reduceCtorEq, Nat.reduceEqDiff, Nat.reduceAdd]
      simp (maxSteps := 1000000) (disch := omega) only [h0, h1, h5, (sl1 _ hp1).1, (sl2 _ hp2).1, k1, k2, k3, (sl2 _ p1).1, (sl2 _ p2).1, c2, c3, g, S, S1, S2, S3, S4, S5, ST, eq_self, reduceIte, reduceCtorEq, Nat.reduceEqDiff, Nat.reduceAdd]
      refine hQ _ _ _ ?_
      simp (maxSteps := 1000000) (disch := omega) only [o3.row.tup, S, S1, S2, S3, S4, S5, ST, eq_self, reduceIte, reduceCtorEq, Nat.reduceEqDiff, Nat.reduceAdd]
      rw [fin (fun _ => by omega), ← hcat]
      exact ⟨o3, p3⟩
end Go.Proofs.YtlfongfhbkefmaaGreat.Ai
namespace Go.Proofs.YtlfongfhbkefmaaGreat.Ai
open Go
theorem prm_range {p : List Int} (h : Prm p) : (∀ i, i < p.length → 0 ≤ p.getD i 0 ∧ p.getD i 0 < p.length) ∧ ∀ i j, i < p.length → j < p.length → p.getD i 0 = p.getD j 0 → i = j := by
  have hm := List.mergeSort_perm p (fun x y => decide (x ≤ y))
  have hs : (p.mergeSort (fun x y => decide (x ≤ y))).Pairwise (fun x y => decide (x ≤ y) = true) := List.pairwise_mergeSort (fun a b c h1 h2 => by simp at *; omega) (fun a b => by simp; omega) p
  have ha : Asc (p.mergeSort (fun x y => decide (x ≤ y))) := by
    intro i j hij hj
    rw [List.pairwise_iff_getElem] at hs
    have := hs i j (by omega) hj hij
    simp only [decide_eq_true_eq] at this
    rw [List.getD_eq_getElem?_getD, List.getD_eq_getElem?_getD, List.getElem?_eq_getElem hj, List.getElem?_eq_getElem (show i < (p.mergeSort (fun x y => decide (x ≤ y))).length by omega)]
    exact this
  have hat := prm_at h hm ha
  have hl := hm.length_eq
  generalize p.mergeSort (fun x y => decide (x ≤ y)) = ys at *
  have mem : ∀ y ∈ p, 0 ≤ y ∧ y < p.length := by
    intro y hy
    obtain ⟨i, hi, e⟩ := pos_ex (hm.mem_iff.2 hy)
    rw [hat i hi] at e
    omega
  have nd : ys.Nodup := by
    rw [List.Nodup, List.pairwise_iff_getElem]
    intro i j hi hj hij e
    have h1 := hat i hi
    have h2 := hat j hj
    simp only [List.getD_eq_getElem?_getD, List.getElem?_eq_getElem hi, List.getElem?_eq_getElem hj, Option.getD_some] at h1 h2
    omega
  have pd : p.Nodup := hm.nodup_iff.1 nd
  refine ⟨fun i hi => mem _ (by simp [hi]), fun i j hi hj e => ?_⟩
  rw [List.Nodup, List.pairwise_iff_getElem] at pd
  simp only [List.getD_eq_getElem?_getD, List.getElem?_eq_getElem hi, List.getElem?_eq_getElem hj, Option.getD_some] at e
  rcases Nat.lt_trichotomy i j with g | g | g
  · exact absurd e (pd i j hi hj g)
  · exact g
  · exact absurd e.symm (pd j i hj hi g)
/-- the way from y till x -/
def orb (p : List Int) (x y : Int) : Nat → List Int
  | 0 => []
  | n + 1 => if y = x then [] else y :: orb p x (p.getD y.toNat 0) n
def cycC (p : List Int) (x : Int) : List Int := x :: orb p x (p.getD x.toNat 0) p.length
theorem orb_self (p : List Int) (x : Int) (n : Nat) : orb p x x n = [] := by cases n <;> simp [orb]
/-- a way begun at x: c, and y comes next -/
structure Way (p : List Int) (x : Int) (c : List Int) (y : Int) : Prop where
  rng : ∀ z ∈ c, 0 ≤ z ∧ z < p.length
  nd : c.Nodup
  ne : c ≠ []
  head : c.getD 0 0 = x
  step : ∀ i, i + 1 < c.length → c.getD (i + 1) 0 = p.getD (c.getD i 0).toNat 0
  last : y = p.getD (c.getD (c.length - 1) 0).toNat 0
  tail : cycC p x = c ++ orb p x y (p.length + 1 - c.length)
theorem nodup_len (n : Nat) : ∀ (c : List Int), c.Nodup → (∀ z ∈ c, 0 ≤ z ∧ z < (n : Int)) → c.length ≤ n := by
  induction n with
  | zero =>
    intro c _ h
    cases c with
    | nil => simp
    | cons z c => have := h z (by simp); omega
  | succ n ih =>
    intro c hn h
    have hn' := hn.erase (n : Int)
    have hl : c.length ≤ (c.erase (n : Int)).length + 1 := by
      rw [List.length_erase]; split <;> omega
    have := ih (c.erase (n : Int)) hn' (fun z hz => by
      have h1 := h z (List.mem_of_mem_erase hz)
      have h2 : z ≠ n := fun e => by
        subst e
        exact (hn.not_mem_erase) hz
      omega)
    omega
theorem Way.len {p : List Int} {x y : Int} {c : List Int} (h : Way p x c y) : 1 ≤ c.length ∧ c.length ≤ p.length := by
  refine ⟨?_, nodup_len _ c h.nd h.rng⟩
  have := h.ne
  cases c with
  | nil => exact absurd rfl this
  | cons _ _ => simp
theorem getD_mem {c : List Int} {i : Nat} (h : i < c.length) : c.getD i 0 ∈ c := by simp [h]
theorem Way.yrng {p : List Int} {x y : Int} {c : List Int} (hp : Prm p) (h : Way p x c y) : 0 ≤ y ∧ y < p.length := by
  have hl := h.len
  have := h.rng _ (getD_mem (show c.length - 1 < c.length by omega))
  rw [h.last]
  exact (prm_range hp).1 _ (by omega)
/-- what comes again is x -/
theorem Way.back {p : List Int} {x y : Int} {c : List Int} (hp : Prm p) (h : Way p x c y) (hy : y ∈ c) : y = x := by
  have hl := h.len
  obtain ⟨i, hi, e⟩ := pos_ex hy
  by_cases h0 : i = 0
  · subst h0; rw [← e, h.head]
  · have h1 := h.step (i - 1) (by omega)
    rw [show i - 1 + 1 = i from by omega, e, h.last] at h1
    have r1 := h.rng _ (getD_mem (show c.length - 1 < c.length by omega))
    have r2 := h.rng _ (getD_mem (show i - 1 < c.length by omega))
    have := (prm_range hp).2 _ _ (by omega) (by omega) h1
    have e2 : c.getD (c.length - 1) 0 = c.getD (i - 1) 0 := by omega
    have nd := h.nd
    rw [List.Nodup, List.pairwise_iff_getElem] at nd
    simp only [List.getD_eq_getElem?_getD, List.getElem?_eq_getElem (show c.length - 1 < c.length by omega), List.getElem?_eq_getElem (show i - 1 < c.length by omega), Option.getD_some] at e2
    exact absurd e2.symm (nd (i - 1) (c.length - 1) (by omega) (by omega) (by omega))
set_option linter.unusedVariables false in
theorem Way.first {p : List Int} (hp : Prm p) {x : Nat} (hx : x < p.length) : Way p (x : Int) [(x : Int)] (p.getD x 0) :=
  ⟨fun z hz => by simp at hz; omega, by simp, by simp, rfl, fun i hi => by simp at hi, by simp, by simp [cycC]⟩
set_option linter.unusedVariables false in
theorem Way.next {p : List Int} {x y : Int} {c : List Int} (hp : Prm p) (h : Way p x c y) (hy : y ≠ x) : Way p x (c ++ [y]) (p.getD y.toNat 0) := by
  have hl := h.len
  have hyr := h.yrng hp
  have hni : y ∉ c := fun hm => hy (h.back hp hm)
  have hnd : (c ++ [y]).Nodup := List.nodup_append.2 ⟨h.nd, by simp, fun a ha b hb e => by simp at hb; subst hb; exact hni (e ▸ ha)⟩
  have hlen := nodup_len p.length (c ++ [y]) hnd (fun z hz => by
    rcases List.mem_append.1 hz with g | g
    · exact h.rng z g
    · simp at g; rw [g]; exact hyr)
  simp only [List.length_append, List.length_cons, List.length_nil] at hlen
  have at1 : ∀ i, i < c.length → (c ++ [y]).getD i 0 = c.getD i 0 := fun i hi => by
    rw [List.getD_eq_getElem?_getD, List.getD_eq_getElem?_getD, List.getElem?_append_left hi]
  have at2 : (c ++ [y]).getD c.length 0 = y := by
    rw [List.getD_eq_getElem?_getD, List.getElem?_append_right (Nat.le_refl _)]; simp
  refine ⟨fun z hz => ?_, hnd, by simp, by rw [at1 0 (by omega)]; exact h.head, fun i hi => ?_, ?_, ?_⟩
  · rcases List.mem_append.1 hz with g | g
    · exact h.rng z g
    · simp at g; rw [g]; exact hyr
  · simp only [List.length_append, List.length_cons, List.length_nil] at hi
    by_cases c1 : i + 1 < c.length
    · rw [at1 _ c1, at1 _ (by omega)]; exact h.step i c1
    · have : i = c.length - 1 := by omega
      subst this
      rw [show c.length - 1 + 1 = c.length from by omega, at2, at1 _ (by omega)]
      exact h.last
  · simp only [List.length_append, List.length_cons, List.length_nil, Nat.add_sub_cancel]
    rw [at2]
  · have := h.tail
    obtain ⟨n, hn⟩ : ∃ n, p.length + 1 - c.length = n + 1 := ⟨p.length - c.length, by omega⟩
    rw [hn] at this
    simp only [orb, if_neg hy] at this
    rw [this]
    simp only [List.length_append, List.length_cons, List.length_nil, List.append_assoc, List.cons_append, List.nil_append]
    rw [show p.length + 1 - (c.length + (0 + 1)) = n from by omega]
theorem Way.done {p : List Int} {x : Int} {c : List Int} (h : Way p x c x) : c = cycC p x := by
  rw [h.tail, orb_self, List.append_nil]
/-- a set that nothing leads into from outside -/
def Shut (p s : List Int) : Prop := (∀ z ∈ s, 0 ≤ z ∧ z < p.length) ∧ ∀ z : Nat, z < p.length → p.getD z 0 ∈ s → (z : Int) ∈ s
theorem Way.out {p s : List Int} {x y : Int} {c : List Int} (h : Way p x c y) (hs : Shut p s) (hd : ∀ z ∈ c, z ∉ s) : y ∉ s := by
  have hl := h.len
  have hm := getD_mem (show c.length - 1 < c.length by omega)
  have r := h.rng _ hm
  intro hy
  rw [h.last] at hy
  have := hs.2 (c.getD (c.length - 1) 0).toNat (by omega) hy
  rw [show (((c.getD (c.length - 1) 0).toNat : Nat) : Int) = c.getD (c.length - 1) 0 from by omega] at this
  exact hd _ hm this
end Go.Proofs.YtlfongfhbkefmaaGreat.Ai
namespace Go.Proofs.YtlfongfhbkefmaaGreat.Ai
open Go
set_option linter.unusedVariables false
/-- the place of the first that p takes, or -1 -/
def idxP (p : Int → Bool) : List Int → Nat → Int
  | [], _ => -1
  | x :: xs, k => if p x = true then (k : Int) else idxP p xs (k + 1)
end Go.Proofs.YtlfongfhbkefmaaGreat.Ai
namespace Go.Proofs.YtlfongfhbkefmaaGreat.Ai
open Go
set_option linter.unusedVariables false
/-- the place of a number -/
def ax (q : List Int) (x : Int) : Int := idxP (fun y => decide (x = y)) q 0
theorem idxP_at (p : Int → Bool) : ∀ (xs : List Int) (k : Nat), xs.any p = true → ∃ i : Nat, i < xs.length ∧ idxP p xs k = ((k + i : Nat) : Int) ∧ p (xs.getD i 0) = true
  | [], k, h => by simp at h
  | x :: xs, k, h => by
    by_cases hx : p x = true
    · exact ⟨0, by simp, by simp [idxP, hx], by simpa using hx⟩
    · have : xs.any p = true := by simpa [hx] using h
      obtain ⟨i, h1, h2, h3⟩ := idxP_at p xs (k + 1) this
      refine ⟨i + 1, by simpa using h1, ?_, by simpa using h3⟩
      rw [idxP, if_neg hx, h2]
      congr 1; omega
theorem ax_at {q : List Int} {x : Int} (h : x ∈ q) : ∃ i : Nat, i < q.length ∧ ax q x = (i : Int) ∧ q.getD i 0 = x := by
  obtain ⟨i, h1, h2, h3⟩ := idxP_at (fun y => decide (x = y)) q 0 (by simpa using h)
  refine ⟨i, h1, by rw [ax, h2]; congr 1; omega, ?_⟩
  have := of_decide_eq_true h3
  exact this.symm
def swp (p : List Int) (a b : Nat) : List Int := (p.set a (p.getD b 0)).set b (p.getD a 0)
theorem swp_len (p : List Int) (a b : Nat) : (swp p a b).length = p.length := by simp [swp]
theorem swp_at (p : List Int) (a b k : Nat) (ha : a < p.length) (hb : b < p.length) (hk : k < p.length) : (swp p a b).getD k 0 = if k = b then p.getD a 0 else if k = a then p.getD b 0 else p.getD k 0 := by
  unfold swp
  rw [List.getD_eq_getElem?_getD, List.getElem?_set]
  by_cases h1 : b = k
  · subst h1
    rw [if_pos rfl, if_pos (by simpa using hb), if_pos rfl]; rfl
  · rw [if_neg h1, if_neg (fun e => h1 e.symm), List.getElem?_set]
    by_cases h2 : a = k
    · subst h2
      rw [if_pos rfl, if_pos ha, if_pos rfl]; rfl
    · rw [if_neg h2, if_neg (fun e => h2 e.symm), ← List.getD_eq_getElem?_getD]
theorem mem_getD {q : List Int} {k : Nat} (h : k < q.length) : q.getD k 0 ∈ q := by simp [h]
theorem swp_prm {p : List Int} (h : Prm p) {a b : Nat} (ha : a < p.length) (hb : b < p.length) : Prm (swp p a b) := by
  refine ⟨by rw [swp_len]; exact h.1, fun x hx => ?_⟩
  rw [swp_len] at hx
  obtain ⟨i, hi, e⟩ := pos_ex (h.2 x hx)
  have mk : ∀ k, k < p.length → (swp p a b).getD k 0 = x → (x : Int) ∈ swp p a b := fun k hk e => by
    rw [← e]; exact mem_getD (by rw [swp_len]; exact hk)
  by_cases h1 : i = a
  · subst h1; exact mk b hb (by rw [swp_at p _ b b ha hb hb, if_pos rfl]; exact e)
  · by_cases h2 : i = b
    · subst h2
      by_cases h3 : a = i
      · exact absurd h3.symm h1
      · exact mk a ha (by rw [swp_at p a _ a ha hb ha, if_neg h3, if_pos rfl]; exact e)
    · exact mk i hi (by rw [swp_at p a b i ha hb hi, if_neg h2, if_neg h1]; exact e)
structure SrtOk (p : List Int) (x : Nat) (o : List (Int × Int)) (q : List Int) : Prop where
  prm : Prm q
  len : q.length = p.length
  fix : ∀ y, y < x → q.getD y 0 = y
  few : o.length ≤ x
theorem SrtOk.place {p : List Int} {x : Nat} {o : List (Int × Int)} {q : List Int} (h : SrtOk p x o q) (hx : x < p.length) : ∃ i : Nat, x ≤ i ∧ i < p.length ∧ ax q x = (i : Int) ∧ q.getD i 0 = x ∧ (q.getD x 0 = x ↔ i = x) := by
  obtain ⟨i, h1, h2, h3⟩ := ax_at (h.prm.2 x (by rw [h.len]; exact hx))
  have hl := h.len
  refine ⟨i, ?_, by omega, h2, h3, fun e => ?_, fun e => by rw [← e]; rw [h3]; rw [e]⟩
  · by_cases hlt : i < x
    · have := h.fix i hlt
      omega
    · omega
  · exact (prm_range h.prm).2 i x h1 (by omega) (by rw [h3, e])
theorem SrtOk.stay {p : List Int} {x : Nat} {o : List (Int × Int)} {q : List Int} (h : SrtOk p x o q) (e : q.getD x 0 = x) : SrtOk p (x + 1) o q :=
  ⟨h.prm, h.len, fun y hy => by
    by_cases hc : y = x
    · subst hc; exact e
    · exact h.fix y (by omega), by have := h.few; omega⟩
theorem SrtOk.next {p : List Int} {x i : Nat} {o : List (Int × Int)} {q : List Int} (h : SrtOk p x o q) (hx : x < p.length) (h1 : x ≤ i) (h2 : i < p.length) (h3 : q.getD i 0 = x) (hne : i ≠ x) : SrtOk p (x + 1) (o ++ [((x : Int), (i : Int))]) (swp q x i) := by
  have hl := h.len
  refine ⟨swp_prm h.prm (by omega) (by omega), by rw [swp_len]; exact hl, fun y hy => ?_, by have := h.few; simp; omega⟩
  rw [swp_at q x i y (by omega) (by omega) (by omega), if_neg (by omega)]
  by_cases hc : y = x
  · rw [if_pos hc, h3, hc]
  · rw [if_neg hc]; exact h.fix y (by omega)
def swOk (n : Nat) (s : Int × Int) : Prop := 0 ≤ s.1 ∧ s.1 < s.2 ∧ s.2 < n
instance (n : Nat) (s : Int × Int) : Decidable (swOk n s) := inferInstanceAs (Decidable (_ ∧ _))
def plcOk (p : List Int) (ss : List (Int × Int)) : Prop := Prm p ∧ ∀ s ∈ ss, swOk p.length s
instance (p : List Int) (ss : List (Int × Int)) : Decidable (plcOk p ss) := inferInstanceAs (Decidable (_ ∧ _))
end Go.Proofs.YtlfongfhbkefmaaGreat.Ai
namespace Go.Proofs.YtlfongfhbkefmaaGreat.Ai
open Go
def ords77 : List (Nat × List (Nat × Bool)) := []
def cd77 : Cd := (.seq (.reg [⟨⟨some 2, Op.assign (Operand.const (Value.slice none 0 0)), none⟩, []⟩]) (.seq (.seq (.reg [⟨⟨some 3, Op.move (Operand.tmp 0), none⟩, []⟩,
  ⟨⟨some 4, Op.binOp BinOp.eql 38 (Operand.tmp 3) (Operand.const (Value.slice none 0 0)) 38, none⟩, []⟩]) (.cond (Operand.tmp 4) (.seq (.reg [⟨⟨some 2, Op.assign (Operand.const (Value.slice none 0 0)), none⟩, []⟩]) .ret) .skip)) (.seq (.reg [⟨⟨some 5, Op.buildSlice 38 0 #[], none⟩, []⟩,
  ⟨⟨some 6, Op.move (Operand.tmp 0), none⟩, []⟩,
  ⟨⟨some 7, Op.call { callee := (Callee.builtin Builtin.append), args := #[(Operand.tmp 5), (Operand.tmp 6)], argTypes := #[38, 38] }, none⟩, []⟩,
  ⟨⟨some 2, Op.assign (Operand.tmp 7), none⟩, []⟩]) .ret)))
theorem sl77 : slim Tryz.f77.ntmps ords77 (Tryz.f77.body.getD .skip) = some cd77 := by kernel_rfl
theorem in77 {args : List Value} {H : AH} {R : Value → AH → Prop} (hl : args.length = 1) (h : ∀ (Q : Exit → Sl → AH → Prop), (∀ e s H, endA Tryz.prog [ResultVar.tmp 2] R e s H → Q e s H) → wpC Tryz.prog cd77 Q (enterA args) H) : ACalls Tryz.prog 77 args H R :=
  ACalls.intro (by kernel_rfl) Tryz.func77 rfl (by kernel_rfl) sl77 hl (of_decide_eq_true (by kernel_rfl)) (by kernel_rfl) h
end Go.Proofs.YtlfongfhbkefmaaGreat.Ai
namespace Go.Proofs.YtlfongfhbkefmaaGreat.Ai
open Go Go.RowKit
set_option linter.unusedVariables false
set_option linter.unusedSimpArgs false
set_option maxRecDepth 20000 in
theorem Clone_c (v : Value) (xs : List Int) (H : AH) (hr : Row 3 H v xs) (hlen : xs.length ≤ 1099511627776) : ACalls Tryz.prog 77 [v] H fun r H' => Own 3 H H' r xs ∧ H <+: H' := by
  refine in77 rfl ?_
  intro Q hQ
  obtain ⟨p, e⟩ := hr.shape
  subst e
  simp (maxSteps := 1000000) (disch := omega) only [cd77, S, S1, S2, S3, S4, S5, ST, eq_self, reduceIte, reduceCtorEq, Nat.reduceEqDiff, Nat.reduceAdd]
  refine brH.intro (fun g => ?_) (fun g => ?_) <;> simp (maxSteps := 1000000) (disch := omega) only [S, S1, S2, S3, S4, S5, ST, eq_self, reduceIte, reduceCtorEq, Nat.reduceEqDiff, Nat.reduceAdd]
  · refine hQ _ _ _ ?_
    simp (maxSteps := 1000000) (disch := omega) only [S, S1, S2, S3, S4, S5, ST, eq_self, reduceIte, reduceCtorEq, Nat.reduceEqDiff, Nat.reduceAdd]
    have : xs = [] := by
      rcases hr with h | ⟨o, k, vs, ro, h1, _⟩
      · exact h.2
      · cases p with
        | none => cases h1
        | some p => cases g
    exact ⟨.inl ⟨rfl, this⟩, List.prefix_refl _⟩
  · have hp := List.prefix_append H [AObj.cells [] 3 false]
    have ho : Own 3 H (H ++ [AObj.cells [] 3 false]) (.slice (some ⟨H.length, 0, none⟩) 0 0) [] := .inr ⟨H.length, rfl, Nat.le_refl _, at_new ..⟩
    obtain ⟨v', H2, k1, k2, k3, _⟩ := ho.app (P := Tryz.prog) (t := 38) Tryz.underlying38 cs3 (by rw [by3]; decide) zk3 (hr.pre hp) hp (by simp; omega)
    simp (maxSteps := 1000000) (disch := omega) only [k1, S, S1, S2, S3, S4, S5, ST, eq_self, reduceIte, reduceCtorEq, Nat.reduceEqDiff, Nat.reduceAdd]
    refine hQ _ _ _ ?_
    simp (maxSteps := 1000000) (disch := omega) only [k2.row.tup, S, S1, S2, S3, S4, S5, ST, eq_self, reduceIte, reduceCtorEq, Nat.reduceEqDiff, Nat.reduceAdd]
    exact ⟨k2, k3⟩
end Go.Proofs.YtlfongfhbkefmaaGreat.Ai
namespace Go.Proofs.YtlfongfhbkefmaaGreat.Ai
open Go
def ords79 : List (Nat × List (Nat × Bool)) := []
def cd79 : Cd := (.seq (.reg [⟨⟨some 2, Op.assign (Operand.const (Value.slice none 0 0)), none⟩, []⟩]) (.seq (.reg [⟨⟨some 3, Op.buildSlice 38 0 #[], none⟩, []⟩,
  ⟨⟨some 4, Op.move (Operand.tmp 0), none⟩, []⟩,
  ⟨⟨some 5, Op.call { callee := (Callee.builtin Builtin.append), args := #[(Operand.tmp 3), (Operand.tmp 4)], argTypes := #[38, 38] }, none⟩, []⟩,
  ⟨⟨some 2, Op.assign (Operand.tmp 5), none⟩, []⟩]) .ret))
theorem sl79 : slim Tryz.f79.ntmps ords79 (Tryz.f79.body.getD .skip) = some cd79 := by kernel_rfl
theorem in79 {args : List Value} {H : AH} {R : Value → AH → Prop} (hl : args.length = 1) (h : ∀ (Q : Exit → Sl → AH → Prop), (∀ e s H, endA Tryz.prog [ResultVar.tmp 2] R e s H → Q e s H) → wpC Tryz.prog cd79 Q (enterA args) H) : ACalls Tryz.prog 79 args H R :=
  ACalls.intro (by kernel_rfl) Tryz.func79 rfl (by kernel_rfl) sl79 hl (of_decide_eq_true (by kernel_rfl)) (by kernel_rfl) h
end Go.Proofs.YtlfongfhbkefmaaGreat.Ai
namespace Go.Proofs.YtlfongfhbkefmaaGreat.Ai
open Go Go.RowKit
set_option linter.unusedVariables false
set_option linter.unusedSimpArgs false
set_option maxRecDepth 20000 in
theorem l1Own_c (v : Value) (xs : List Int) (H : AH) (hr : Row 3 H v xs) (hlen : xs.length ≤ 1099511627776) : ACalls Tryz.prog 79 [v] H fun r H' => Own 3 H H' r xs ∧ H <+: H' := by
  refine in79 rfl ?_
  intro Q hQ
  simp (maxSteps := 1000000) (disch := omega) only [cd79, S, S1, S2, S3, S4, S5, ST, eq_self, reduceIte, reduceCtorEq, Nat.reduceEqDiff, Nat.reduceAdd]
  have hp := List.prefix_append H [AObj.cells [] 3 false]
  have ho : Own 3 H (H ++ [AObj.cells [] 3 false]) (.slice (some ⟨H.length, 0, none⟩) 0 0) [] := .inr ⟨H.length, rfl, Nat.le_refl _, at_new ..⟩
  obtain ⟨v', H2, k1, k2, k3, _⟩ := ho.app (P := Tryz.prog) (t := 38) Tryz.underlying38 cs3 (by rw [by3]; decide) zk3 (hr.pre hp) hp (by simp; omega)
  simp (maxSteps := 1000000) (disch := omega) only [k1, S, S1, S2, S3, S4, S5, ST, eq_self, reduceIte, reduceCtorEq, Nat.reduceEqDiff, Nat.reduceAdd]
  refine hQ _ _ _ ?_
  simp (maxSteps := 1000000) (disch := omega) only [k2.row.tup, S, S1, S2, S3, S4, S5, ST, eq_self, reduceIte, reduceCtorEq, Nat.reduceEqDiff, Nat.reduceAdd]
  exact ⟨k2, k3⟩
end Go.Proofs.YtlfongfhbkefmaaGreat.Ai
namespace Go.Proofs.YtlfongfhbkefmaaGreat.Ai
open Go
def ords154 : List (Nat × List (Nat × Bool)) := [(11, [(0, false), (1, false), (2, false), (3, false), (4, false), (5, false), (6, false), (7, false), (8, false), (9, true)])]
def cd154 : Cd := (.seq (.reg [⟨⟨some 3, Op.box 31 (Operand.tmp 0), none⟩, []⟩,
  ⟨⟨some 6, Op.assign (Operand.const (Value.slice none 0 0)), none⟩, []⟩]) (.seq (.reg [⟨⟨some 11, Op.move (Operand.tmp 2), none⟩, []⟩,
  ⟨⟨some 12, Op.buildSlice 38 1 #[(0, (Operand.tmp 11))], none⟩, []⟩,
  ⟨⟨some 7, Op.assign (Operand.tmp 12), none⟩, []⟩]) (.seq (.seq (.reg [⟨⟨some 8, Op.assign (Operand.const (Value.int IntKind.i64 0)), none⟩, []⟩]) (.block 0 (.loop (.seq (.seq (.reg [⟨⟨some 13, Op.move (Operand.tmp 8), none⟩, []⟩,
  ⟨⟨some 14, Op.move (Operand.tmp 1), none⟩, []⟩,
  ⟨⟨some 15, Op.call { callee := (Callee.builtin Builtin.len), args := #[(Operand.tmp 14)], argTypes := #[38] }, none⟩, []⟩,
  ⟨⟨some 16, Op.binOp BinOp.lss 3 (Operand.tmp 13) (Operand.tmp 15) 3, none⟩, []⟩]) (.cond (Operand.tmp 16) .skip (.exit 0))) (.seq (.block 1 (.seq (.reg [⟨⟨some 9, Op.assign (Operand.const (Value.int IntKind.i64 0)), none⟩, []⟩]) (.block 2 (.loop (.seq (.seq (.reg [⟨⟨some 19, Op.move (Operand.tmp 9), none⟩, []⟩,
  ⟨⟨some 20, Op.move (Operand.tmp 1), none⟩, []⟩,
  ⟨⟨some 21, Op.call { callee := (Callee.builtin Builtin.len), args := #[(Operand.tmp 20)], argTypes := #[38] }, none⟩, []⟩,
  ⟨⟨some 22, Op.binOp BinOp.lss 3 (Operand.tmp 19) (Operand.tmp 21) 3, none⟩, []⟩]) (.cond (Operand.tmp 22) .skip (.exit 2))) (.seq (.block 3 (.seq (.reg [⟨⟨some 10, Op.assign (Operand.const (Value.int IntKind.i64 0)), none⟩, []⟩]) (.block 4 (.loop (.seq (.seq (.reg [⟨⟨some 25, Op.move (Operand.tmp 10), none⟩, []⟩,
  ⟨⟨some 26, Op.move (Operand.tmp 7), none⟩, []⟩,
  ⟨⟨some 27, Op.call { callee := (Callee.builtin Builtin.len), args := #[(Operand.tmp 26)], argTypes := #[38] }, none⟩, []⟩,
  ⟨⟨some 28, Op.binOp BinOp.lss 3 (Operand.tmp 25) (Operand.tmp 27) 3, none⟩, []⟩,
  ⟨⟨some 29, Op.move (Operand.tmp 28), none⟩, []⟩,
  ⟨⟨some 30, Op.move (Operand.tmp 7), some (29, true)⟩, []⟩,
  ⟨⟨some 31, Op.move (Operand.tmp 1), some (29, true)⟩, []⟩,
  ⟨⟨some 32, Op.move (Operand.tmp 9), some (29, true)⟩, []⟩,
  ⟨⟨some 33, Op.indexAddr 38 (Operand.tmp 31) (Operand.tmp 32), some (29, true)⟩, []⟩,
  ⟨⟨some 34, Op.load 3 (Operand.tmp 33), some (29, true)⟩, []⟩,
  ⟨⟨some 35, Op.call { callee := (Callee.value (Operand.func 153)), args := #[(Operand.tmp 30), (Operand.tmp 34)], argTypes := #[38, 3] }, some (29, true)⟩, []⟩,
  ⟨⟨some 36, Op.unOp UnOp.not 4 (Operand.tmp 35), some (29, true)⟩, []⟩,
  ⟨⟨some 37, Op.pick (Operand.tmp 29) (Operand.tmp 36) (Operand.const (Value.bool false)), none⟩, []⟩]) (.cond (Operand.tmp 37) .skip (.exit 4))) (.seq (.block 5 (.seq (.reg [⟨⟨some 40, Op.load 31 (Operand.tmp 3), none⟩, []⟩,
  ⟨⟨some 41, Op.move (Operand.tmp 7), none⟩, []⟩,
  ⟨⟨some 42, Op.move (Operand.tmp 10), none⟩, []⟩,
  ⟨⟨some 43, Op.indexAddr 38 (Operand.tmp 41) (Operand.tmp 42), none⟩, []⟩,
  ⟨⟨some 44, Op.load 3 (Operand.tmp 43), none⟩, []⟩,
  ⟨⟨some 45, Op.move (Operand.tmp 1), none⟩, []⟩,
  ⟨⟨some 46, Op.move (Operand.tmp 9), none⟩, []⟩,
  ⟨⟨some 47, Op.indexAddr 38 (Operand.tmp 45) (Operand.tmp 46), none⟩, []⟩,
  ⟨⟨some 48, Op.load 3 (Operand.tmp 47), none⟩, []⟩,
  ⟨⟨some 49, Op.call { callee := (Callee.value (Operand.func 80)), args := #[(Operand.tmp 40), (Operand.tmp 44), (Operand.tmp 48)], argTypes := #[31, 3, 3] }, none⟩, []⟩]) (.cond (Operand.tmp 49) (.reg [⟨⟨some 50, Op.move (Operand.tmp 7), none⟩, []⟩,
  ⟨⟨some 51, Op.move (Operand.tmp 1), none⟩, []⟩,
  ⟨⟨some 52, Op.move (Operand.tmp 9), none⟩, []⟩,
  ⟨⟨some 53, Op.indexAddr 38 (Operand.tmp 51) (Operand.tmp 52), none⟩, []⟩,
  ⟨⟨some 54, Op.load 3 (Operand.tmp 53), none⟩, []⟩,
  ⟨⟨some 55, Op.call { callee := (Callee.value (Operand.func 155)), args := #[(Operand.tmp 50), (Operand.tmp 54)], argTypes := #[38, 3] }, none⟩, []⟩,
  ⟨⟨some 7, Op.assign (Operand.tmp 55), none⟩, []⟩]) .skip))) (.reg [⟨⟨some 38, Op.move (Operand.tmp 10), none⟩, []⟩,
  ⟨⟨some 39, Op.binOp BinOp.add 3 (Operand.tmp 38) (Operand.const (Value.int IntKind.i64 1)) 3, none⟩, []⟩,
  ⟨⟨some 10, Op.assign (Operand.tmp 39), none⟩, []⟩]))))))) (.reg [⟨⟨some 23, Op.move (Operand.tmp 9), none⟩, []⟩,
  ⟨⟨some 24, Op.binOp BinOp.add 3 (Operand.tmp 23) (Operand.const (Value.int IntKind.i64 1)) 3, none⟩, []⟩,
  ⟨⟨some 9, Op.assign (Operand.tmp 24), none⟩, []⟩]))))))) (.reg [⟨⟨some 17, Op.move (Operand.tmp 8), none⟩, []⟩,
  ⟨⟨some 18, Op.binOp BinOp.add 3 (Operand.tmp 17) (Operand.const (Value.int IntKind.i64 1)) 3, none⟩, []⟩,
  ⟨⟨some 8, Op.assign (Operand.tmp 18), none⟩, []⟩])))))) (.seq (.reg [⟨⟨some 56, Op.move (Operand.tmp 7), none⟩, []⟩,
  ⟨⟨some 6, Op.assign (Operand.tmp 56), none⟩, []⟩]) .ret))))
theorem sl154 : slim Tryz.f154.ntmps ords154 (Tryz.f154.body.getD .skip) = some cd154 := by kernel_rfl
theorem in154 {args : List Value} {H : AH} {R : Value → AH → Prop} (hl : args.length = 3) (h : ∀ (Q : Exit → Sl → AH → Prop), (∀ e s H, endA Tryz.prog [ResultVar.tmp 6] R e s H → Q e s H) → wpC Tryz.prog cd154 Q (enterA args) H) : ACalls Tryz.prog 154 args H R :=
  ACalls.intro (by kernel_rfl) Tryz.func154 rfl (by kernel_rfl) sl154 hl (of_decide_eq_true (by kernel_rfl)) (by kernel_rfl) h
def ords126 : List (Nat × List (Nat × Bool)) := [(6, [(0, false), (1, false), (2, false), (3, false), (4, false), (5, false), (6, true), (7, false)])]
def cd126 : Cd := (.seq (.reg [⟨⟨some 2, Op.box 31 (Operand.tmp 0), none⟩, []⟩,
  ⟨⟨some 4, Op.assign (Operand.const (Value.slice none 0 0)), none⟩, []⟩]) (.seq (.reg [⟨⟨some 10, Op.buildSlice 26 0 #[], none⟩, []⟩,
  ⟨⟨some 11, Op.buildSlice 38 0 #[], none⟩, []⟩,
  ⟨⟨some 5, Op.assign (Operand.tmp 10), none⟩, []⟩,
  ⟨⟨some 6, Op.assign (Operand.tmp 11), none⟩, []⟩]) (.seq (.seq (.reg [⟨⟨some 7, Op.assign (Operand.const (Value.int IntKind.i64 0)), none⟩, []⟩]) (.block 0 (.loop (.seq (.seq (.reg [⟨⟨some 12, Op.move (Operand.tmp 7), none⟩, []⟩,
  ⟨⟨some 13, Op.move (Operand.tmp 1), none⟩, []⟩,
  ⟨⟨some 14, Op.call { callee := (Callee.builtin Builtin.len), args := #[(Operand.tmp 13)], argTypes := #[38] }, none⟩, []⟩,
  ⟨⟨some 15, Op.binOp BinOp.lss 3 (Operand.tmp 12) (Operand.tmp 14) 3, none⟩, []⟩]) (.cond (Operand.tmp 15) .skip (.exit 0))) (.seq (.block 1 (.seq (.seq (.reg [⟨⟨some 18, Op.move (Operand.tmp 6), none⟩, []⟩,
  ⟨⟨some 19, Op.move (Operand.tmp 1), none⟩, []⟩,
  ⟨⟨some 20, Op.move (Operand.tmp 7), none⟩, []⟩,
  ⟨⟨some 21, Op.indexAddr 38 (Operand.tmp 19) (Operand.tmp 20), none⟩, []⟩,
  ⟨⟨some 22, Op.load 3 (Operand.tmp 21), none⟩, []⟩,
  ⟨⟨some 23, Op.call { callee := (Callee.value (Operand.func 153)), args := #[(Operand.tmp 18), (Operand.tmp 22)], argTypes := #[38, 3] }, none⟩, []⟩]) (.cond (Operand.tmp 23) (.exit 1) .skip)) (.seq (.reg [⟨⟨some 24, Op.load 31 (Operand.tmp 2), none⟩, []⟩,
  ⟨⟨some 25, Op.move (Operand.tmp 1), none⟩, []⟩,
  ⟨⟨some 26, Op.move (Operand.tmp 1), none⟩, []⟩,
  ⟨⟨some 27, Op.move (Operand.tmp 7), none⟩, []⟩,
  ⟨⟨some 28, Op.indexAddr 38 (Operand.tmp 26) (Operand.tmp 27), none⟩, []⟩,
  ⟨⟨some 29, Op.load 3 (Operand.tmp 28), none⟩, []⟩,
  ⟨⟨some 30, Op.call { callee := (Callee.value (Operand.func 154)), args := #[(Operand.tmp 24), (Operand.tmp 25), (Operand.tmp 29)], argTypes := #[31, 38, 3] }, none⟩, []⟩,
  ⟨⟨some 8, Op.assign (Operand.tmp 30), none⟩, []⟩]) (.seq (.seq (.reg [⟨⟨some 9, Op.assign (Operand.const (Value.int IntKind.i64 0)), none⟩, []⟩]) (.block 2 (.loop (.seq (.seq (.reg [⟨⟨some 31, Op.move (Operand.tmp 9), none⟩, []⟩,
  ⟨⟨some 32, Op.move (Operand.tmp 8), none⟩, []⟩,
  ⟨⟨some 33, Op.call { callee := (Callee.builtin Builtin.len), args := #[(Operand.tmp 32)], argTypes := #[38] }, none⟩, []⟩,
  ⟨⟨some 34, Op.binOp BinOp.lss 3 (Operand.tmp 31) (Operand.tmp 33) 3, none⟩, []⟩]) (.cond (Operand.tmp 34) .skip (.exit 2))) (.seq (.block 3 (.reg [⟨⟨some 37, Op.move (Operand.tmp 6), none⟩, []⟩,
  ⟨⟨some 38, Op.move (Operand.tmp 8), none⟩, []⟩,
  ⟨⟨some 39, Op.move (Operand.tmp 9), none⟩, []⟩,
  ⟨⟨some 40, Op.indexAddr 38 (Operand.tmp 38) (Operand.tmp 39), none⟩, []⟩,
  ⟨⟨some 41, Op.load 3 (Operand.tmp 40), none⟩, []⟩,
  ⟨⟨some 42, Op.call { callee := (Callee.value (Operand.func 155)), args := #[(Operand.tmp 37), (Operand.tmp 41)], argTypes := #[38, 3] }, none⟩, []⟩,
  ⟨⟨some 6, Op.assign (Operand.tmp 42), none⟩, []⟩])) (.reg [⟨⟨some 35, Op.move (Operand.tmp 9), none⟩, []⟩,
  ⟨⟨some 36, Op.binOp BinOp.add 3 (Operand.tmp 35) (Operand.const (Value.int IntKind.i64 1)) 3, none⟩, []⟩,
  ⟨⟨some 9, Op.assign (Operand.tmp 36), none⟩, []⟩])))))) (.reg [⟨⟨some 43, Op.move (Operand.tmp 5), none⟩, []⟩,
  ⟨⟨some 44, Op.move (Operand.tmp 8), none⟩, []⟩,
  ⟨⟨some 45, Op.buildSlice 26 1 #[(0, (Operand.tmp 44))], none⟩, []⟩,
  ⟨⟨some 46, Op.call { callee := (Callee.builtin Builtin.append), args := #[(Operand.tmp 43), (Operand.tmp 45)], argTypes := #[26, 26] }, none⟩, []⟩,
  ⟨⟨some 5, Op.assign (Operand.tmp 46), none⟩, []⟩]))))) (.reg [⟨⟨some 16, Op.move (Operand.tmp 7), none⟩, []⟩,
  ⟨⟨some 17, Op.binOp BinOp.add 3 (Operand.tmp 16) (Operand.const (Value.int IntKind.i64 1)) 3, none⟩, []⟩,
  ⟨⟨some 7, Op.assign (Operand.tmp 17), none⟩, []⟩])))))) (.seq (.reg [⟨⟨some 47, Op.move (Operand.tmp 5), none⟩, []⟩,
  ⟨⟨some 4, Op.assign (Operand.tmp 47), none⟩, []⟩]) .ret))))
theorem sl126 : slim Tryz.f126.ntmps ords126 (Tryz.f126.body.getD .skip) = some cd126 := by kernel_rfl
theorem in126 {args : List Value} {H : AH} {R : Value → AH → Prop} (hl : args.length = 2) (h : ∀ (Q : Exit → Sl → AH → Prop), (∀ e s H, endA Tryz.prog [ResultVar.tmp 4] R e s H → Q e s H) → wpC Tryz.prog cd126 Q (enterA args) H) : ACalls Tryz.prog 126 args H R :=
  ACalls.intro (by kernel_rfl) Tryz.func126 rfl (by kernel_rfl) sl126 hl (of_decide_eq_true (by kernel_rfl)) (by kernel_rfl) h
end Go.Proofs.YtlfongfhbkefmaaGreat.Ai
namespace Go.Proofs.YtlfongfhbkefmaaGreat.Ai
open Go Go.RowKit
set_option linter.unusedVariables false
set_option linter.unusedSimpArgs false
theorem bsRow {H0 : AH} {v : Value} {xs : List Int} (h : Row 3 H0 v xs) (K : AH) : buildSliceA Tryz.prog 26 1 [(0, v)] K = some (.slice (some ⟨K.length, 0, none⟩) 1 1, K ++ [.cells [v] 38 false]) := by
  obtain ⟨q, eq⟩ := h.shape
  rw [eq]
  exact bs1 Tryz.underlying26 cs38 ze38 ⟨by kernel_rfl, by kernel_rfl⟩ K rfl
/-- a set of few nodes -/
def Sm (o : List Int) : Prop := o.Pairwise (· < ·) ∧ ∀ z ∈ o, 0 ≤ z ∧ z < 8
theorem Sm.len {o : List Int} (h : Sm o) : o.length ≤ 8 := by
  have := nodup_le (a := o) (b := (List.range 8).map fun z : Nat => (z : Int)) (lt_nodup h.1) fun x hx => by
    have := h.2 x hx
    exact List.mem_map.2 ⟨x.toNat, List.mem_range.2 (by omega), by omega⟩
  simpa using this
theorem Sm.put {o : List Int} (h : Sm o) {x : Int} (hx : 0 ≤ x ∧ x < 8) : Sm (put o x) := by
  refine ⟨put_sorted _ _ h.1, fun z hz => ?_⟩
  rcases (put_mem _ _ _).1 hz with rfl | hz
  · exact hx
  · exact h.2 z hz
theorem Sm.nil : Sm [] := ⟨List.Pairwise.nil, fun z hz => by simp at hz⟩
theorem Sm.one {x : Int} (hx : 0 ≤ x ∧ x < 8) : Sm [x] := ⟨List.pairwise_singleton _ _, fun z hz => by simp at hz; subst hz; exact hx⟩
theorem Sm.rcIn {o : List Int} (h : Sm o) (es : List (Int × Int)) {y : Int} (hy : 0 ≤ y ∧ y < 8) : Sm (rcIn es o y) := by
  unfold Ai.rcIn
  split
  · exact h
  · split
    · exact h.put hy
    · exact h
theorem Sm.fold (es : List (Int × Int)) : ∀ (l : List Int) {o : List Int}, Sm o → (∀ y ∈ l, 0 ≤ y ∧ y < 8) → Sm (l.foldl (Ai.rcIn es) o)
  | [], o, h, _ => h
  | y :: ys, o, h, hl => Sm.fold es ys (h.rcIn es (hl y (by simp))) fun z hz => hl z (by simp [hz])
theorem Sm.iter (es : List (Int × Int)) (set : List Int) (hl : ∀ y ∈ set, 0 ≤ y ∧ y < 8) {x : Int} (hx : 0 ≤ x ∧ x < 8) : ∀ k, Sm (rcIter es set k [x])
  | 0 => Sm.one hx
  | k + 1 => Sm.fold es set (Sm.iter es set hl hx k) hl
theorem drop_fold {β : Type} (f : β → Int → β) (l : List Int) (i : Nat) (hi : i < l.length) (o : β) : (l.drop i).foldl f o = (l.drop (i + 1)).foldl f (f o (l.getD i 0)) := by
  have e : l.getD i 0 = l[i] := by simp [hi]
  rw [List.drop_eq_getElem_cons hi, List.foldl_cons, e]
set_option maxRecDepth 20000 in
set_option maxHeartbeats 4000000 in
theorem l2Reach_c (n : Int) (v w : Value) (es : List (Int × Int)) (set : List Int) (x : Int) (H : AH) (hr : RowP 83 H v es) (hlen : es.length ≤ 1099511627776) (hs : Row 3 H w set) (hsr : ∀ z ∈ set, 0 ≤ z ∧ z < 8) (hsl : set.length ≤ 8) (hx : 0 ≤ x ∧ x < 8) :
    ACalls Tryz.prog 154 [.agg (List.toArray [.int .i64 n, v]), w, .int .i64 x] H fun r H' => Own 3 H H' r (reachL es set x) ∧ H <+: H' := by
  refine in154 rfl ?_
  intro Q hQ
  simp (maxSteps := 1000000) (disch := omega) only [cd154, hr.boxG, S, S1, S2, S3, S4, S5, ST, eq_self, reduceIte, reduceCtorEq, Nat.reduceEqDiff, Nat.reduceAdd]
  generalize hA : H ++ [AObj.cells [.int .i64 n, v] 31 false] = A
  have pA : H <+: A := by rw [← hA]; exact List.prefix_append _ _
  have cA : A[H.length]? = some (.cells [.int .i64 n, v] 31 false) := by rw [← hA]; exact at_new ..
  have rA := hr.pre pA
  try simp (maxSteps := 1000000) (disch := omega) only [S, S1, S2, S3, S4, S5, ST, eq_self, reduceIte, reduceCtorEq, Nat.reduceEqDiff, Nat.reduceAdd]
  refine LoopH.by (fun m s H' => ∃ i, m + i = set.length ∧ s 1 = w ∧ s 3 = .pointer (some ⟨H.length, 0, none⟩) ∧ s 8 = .int .i64 ((i : Nat) : Int) ∧ Own 3 A H' (s 7) (rcIter es set i [x]) ∧ A <+: H') set.length ?_ ?_
  · exact ⟨0, by simp, rfl, rfl, rfl, .inr ⟨A.length, rfl, Nat.le_refl _, at_new ..⟩, List.prefix_append _ _⟩
  rintro m s H' ⟨i, hm, h1, h3, h8, ho, hp⟩
  have hss := hs.pre (pA.trans hp)
  have hiter : rcIter es set (i + 1) [x] = set.foldl (rcIn es) (rcIter es set i [x]) := rfl
  have hsm := Sm.iter es set hsr hx i
  have hend : i = set.length → rcIter es set i [x] = reachL es set x := fun e => by rw [e]; rfl
  generalize hw : s 7 = u at *
  generalize hR : rcIter es set i [x] = R at *
  simp (maxSteps := 1000000) (disch := omega) only [h1, h3, h8, hw, hss.len Tryz.underlying38, S, S1, S2, S3, S4, S5, ST, eq_self, reduceIte, reduceCtorEq, Nat.reduceEqDiff, Nat.reduceAdd]
  refine brD.intro (fun g => ?_) (fun g => ?_)
  rotate_left
  · simp (maxSteps := 1000000) (disch := omega) only [hw, S, S1, S2, S3, S4, S5, ST, eq_self, reduceIte, reduceCtorEq, Nat.reduceEqDiff, Nat.reduceAdd]
    refine hQ _ _ _ ?_
    simp (maxSteps := 1000000) (disch := omega) only [hw, ho.row.tup, S, S1, S2, S3, S4, S5, ST, eq_self, reduceIte, reduceCtorEq, Nat.reduceEqDiff, Nat.reduceAdd]
    rw [← hend (by omega)]
    exact ⟨ho.base pA, pA.trans hp⟩
  simp (maxSteps := 1000000) (disch := omega) only [h1, h3, h8, hw, S, S1, S2, S3, S4, S5, ST, eq_self, reduceIte, reduceCtorEq, Nat.reduceEqDiff, Nat.reduceAdd]
  refine LoopH.by (fun m2 s H2 => ∃ j R2, m2 + j = set.length ∧ s 1 = w ∧ s 3 = .pointer (some ⟨H.length, 0, none⟩) ∧ s 8 = .int .i64 ((i : Nat) : Int) ∧ s 9 = .int .i64 ((j : Nat) : Int) ∧ Own 3 A H2 (s 7) R2 ∧ A <+: H2 ∧ Sm R2 ∧ (set.drop j).foldl (rcIn es) R2 = set.foldl (rcIn es) R) set.length ?_ ?_
  · refine ⟨0, R, by simp, h1, h3, h8, rfl, ?_, hp, hsm, by rw [List.drop_zero]⟩
    simp only [S, S1, S2, S3, S4, S5, ST, eq_self, reduceIte, reduceCtorEq, Nat.reduceEqDiff, Nat.reduceAdd, hw]
    exact ho
  rintro m2 s H2 ⟨j, R2, hm2, h1, h3, h8, h9, ho2, hp2, hsm2, hf⟩
  have hss2 := hs.pre (pA.trans hp2)
  generalize hw : s 7 = u2 at *
  simp (maxSteps := 1000000) (disch := omega) only [h1, h3, h8, h9, hw, hss2.len Tryz.underlying38, S, S1, S2, S3, S4, S5, ST, eq_self, reduceIte, reduceCtorEq, Nat.reduceEqDiff, Nat.reduceAdd]
  refine brD.intro (fun g2 => ?_) (fun g2 => ?_)
  rotate_left
  · simp (maxSteps := 1000000) (disch := omega) only [h1, h3, h8, h9, hw, wrap64, S, S1, S2, S3, S4, S5, ST, eq_self, reduceIte, reduceCtorEq, Nat.reduceEqDiff, Nat.reduceAdd]
    rw [List.drop_of_length_le (by omega), List.foldl_nil, ← hiter] at hf
    refine ⟨m - 1, by omega, i + 1, ?_⟩
    rw [← hf]
    (repeat' first | exact ho2 | exact hp2 | apply And.intro) <;> first | (simp only [Value.int.injEq, true_and]; omega) | omega | rfl | assumption | (simp; done) | (simp; omega)
  have hj : j < set.length := by omega
  rw [drop_fold _ set j hj] at hf
  have hym : set.getD j 0 ∈ set := by simp [hj]
  have hyr := hsr _ hym
  generalize hy : set.getD j 0 = y at *
  simp (maxSteps := 1000000) (disch := omega) only [h1, h3, h8, h9, hw, S, S1, S2, S3, S4, S5, ST, eq_self, reduceIte, reduceCtorEq, Nat.reduceEqDiff, Nat.reduceAdd]
  refine LoopH.by (fun m3 s H3 => ∃ k R3, m3 + k = 9 ∧ s 1 = w ∧ s 3 = .pointer (some ⟨H.length, 0, none⟩) ∧ s 8 = .int .i64 ((i : Nat) : Int) ∧ s 9 = .int .i64 ((j : Nat) : Int) ∧ s 10 = .int .i64 ((k : Nat) : Int) ∧ Own 3 A H3 (s 7) R3 ∧ A <+: H3 ∧ Sm R3 ∧ rcIn es R3 y = rcIn es R2 y ∧ (y ∉ R3 → ∀ l, l < k → l < R3.length → nearB es (R3.getD l 0) y = false)) 9 ?_ ?_
  · refine ⟨0, R2, by omega, h1, h3, h8, h9, rfl, ?_, hp2, hsm2, rfl, fun _ l hl => absurd hl (Nat.not_lt_zero l)⟩
    simp only [S, S1, S2, S3, S4, S5, ST, eq_self, reduceIte, reduceCtorEq, Nat.reduceEqDiff, Nat.reduceAdd, hw]
    exact ho2
  rintro m3 s H3 ⟨k, R3, hm3, h1, h3, h8, h9, h10, ho3, hp3, hsm3, hq, hno⟩
  have hss3 := hs.pre (pA.trans hp3)
  have hl3 := hsm3.len
  have hr3 := rA.pre hp3
  have c3 := pre_at hp3 cA
  generalize hw : s 7 = u3 at *
  have stay : ∀ (H4 : AH), A <+: H4 → Own 3 A H4 u3 R3 → (y ∈ R3 ∨ k ≥ R3.length) → rcIn es R2 y = R3 := by
    intro H4 _ _ hc
    rw [← hq]
    unfold rcIn
    split
    · rfl
    · rename_i hm
      rw [if_neg]
      intro e
      obtain ⟨o, hoo, hn⟩ := List.any_eq_true.1 e
      obtain ⟨l, hl, rfl⟩ := List.mem_iff_getElem.1 hoo
      have h5 := hno hm l (by rcases hc with h | h <;> first | exact absurd h hm | omega) hl
      have e5 : R3.getD l 0 = R3[l] := by simp [hl]
      rw [e5, hn] at h5
      exact absurd h5 (by decide)
  simp (maxSteps := 1000000) (disch := omega) only [h1, h3, h8, h9, h10, hw, ho3.row.len Tryz.underlying38, S, S1, S2, S3, S4, S5, ST, eq_self, reduceIte, reduceCtorEq, Nat.reduceEqDiff, Nat.reduceAdd]
  refine brD.intro (fun g3 => ?_) (fun g3 => ?_)
  rotate_left
  · simp (maxSteps := 1000000) (disch := omega) only [g3, h1, h3, h8, h9, h10, hw, wrap64, S, S1, S2, S3, S4, S5, ST, eq_self, reduceIte, reduceCtorEq, Nat.reduceEqDiff, Nat.reduceAdd]
    rw [stay H3 hp3 ho3 (.inr (by omega))] at hf
    refine ⟨m2 - 1, by omega, j + 1, R3, ?_⟩
    (repeat' first | exact ho3 | exact hp3 | exact hsm3 | exact hf | apply And.intro) <;> first | (simp only [Value.int.injEq, true_and]; omega) | omega | rfl | assumption | (simp; done) | (simp; omega)
  have hk : k < R3.length := by omega
  have hcy := hss3.cell hj
  rw [hy] at hcy
  simp (maxSteps := 1000000) (disch := omega) only [g3, h1, h3, h8, h9, h10, hw, hss3.ix Tryz.underlying38 cs3, hcy, Int.toNat_natCast, S, S1, S2, S3, S4, S5, ST, eq_self, reduceIte, reduceCtorEq, Nat.reduceEqDiff, Nat.reduceAdd]
  refine CallH.by (l1Has_c u3 R3 y H3 ho3.row (by omega)) ?_
  rintro _ _ ⟨rfl, rfl⟩
  simp (maxSteps := 1000000) (disch := omega) only [g3, S, S1, S2, S3, S4, S5, ST, eq_self, reduceIte, reduceCtorEq, Nat.reduceEqDiff, Nat.reduceAdd]
  refine brD.intro (fun g4 => ?_) (fun g4 => ?_)
  · simp (maxSteps := 1000000) (disch := omega) only [h1, h3, h8, h9, h10, hw, wrap64, S, S1, S2, S3, S4, S5, ST, eq_self, reduceIte, reduceCtorEq, Nat.reduceEqDiff, Nat.reduceAdd]
    rw [stay H3 hp3 ho3 (.inl g4)] at hf
    refine ⟨m2 - 1, by omega, j + 1, R3, ?_⟩
    (repeat' first | exact ho3 | exact hp3 | exact hsm3 | exact hf | apply And.intro) <;> first | (simp only [Value.int.injEq, true_and]; omega) | omega | rfl | assumption | (simp; done) | (simp; omega)
  simp (maxSteps := 1000000) (disch := omega) only [h1, h3, h8, h9, h10, hw, hss3.ix Tryz.underlying38 cs3, hcy, ho3.row.ix Tryz.underlying38 cs3, ho3.row.cell, Int.toNat_natCast, ld_agg ag31 cs31 c3, S, S1, S2, S3, S4, S5, ST, eq_self, reduceIte, reduceCtorEq, Nat.reduceEqDiff, Nat.reduceAdd]
  refine CallH.by (l2Near_c n v es _ y H3 hr3 hlen) ?_
  rintro _ H4 ⟨rfl, p4⟩
  have hss4 := hss3.pre p4
  have ho4 := ho3.pre p4
  have hp4 := hp3.trans p4
  have hcy4 := hss4.cell hj
  rw [hy] at hcy4
  simp (maxSteps := 1000000) (disch := omega) only [S, S1, S2, S3, S4, S5, ST, eq_self, reduceIte, reduceCtorEq, Nat.reduceEqDiff, Nat.reduceAdd]
  refine brH.intro (fun e => ?_) (fun e => ?_)
  · simp (maxSteps := 1000000) (disch := omega) only [e, h1, h3, h8, h9, h10, hw, hss4.ix Tryz.underlying38 cs3, hcy4, Int.toNat_natCast, S, S1, S2, S3, S4, S5, ST, eq_self, reduceIte, reduceCtorEq, Nat.reduceEqDiff, Nat.reduceAdd]
    refine CallH.by (l1Put_c u3 R3 y H4 ho4.row (by omega) g4) ?_
    rintro u5 H5 ⟨ho5, p5⟩
    have ho5' := ho5.base hp4
    have hp5 := hp4.trans p5
    have hsm5 := hsm3.put hyr
    have hmp : y ∈ put R3 y := (put_mem _ _ _).2 (.inl rfl)
    have hq5 : rcIn es (put R3 y) y = rcIn es R2 y := by
      rw [← hq]
      have e1 : rcIn es R3 y = put R3 y := by
        unfold rcIn
        rw [if_neg g4, if_pos]
        refine List.any_eq_true.2 ⟨R3.getD k 0, by simp [hk], e⟩
      rw [e1]
      unfold rcIn
      rw [if_pos hmp]
    have hno5 : y ∉ put R3 y → ∀ l, l < k + 1 → l < (put R3 y).length → nearB es ((put R3 y).getD l 0) y = false := fun h => absurd hmp h
    simp (maxSteps := 1000000) (disch := omega) only [h1, h3, h8, h9, h10, wrap64, S, S1, S2, S3, S4, S5, ST, eq_self, reduceIte, reduceCtorEq, Nat.reduceEqDiff, Nat.reduceAdd]
    refine ⟨m3 - 1, by omega, k + 1, put R3 y, ?_⟩
    (repeat' first | exact ho5' | exact hp5 | exact hsm5 | exact hq5 | exact hno5 | apply And.intro) <;> first | (simp only [Value.int.injEq, true_and]; omega) | omega | rfl | assumption | (simp; done) | (simp; omega)
  · have hno5 : y ∉ R3 → ∀ l, l < k + 1 → l < R3.length → nearB es (R3.getD l 0) y = false := by
      intro h l hl1 hl2
      by_cases el : l = k
      · subst el; exact e
      · exact hno h l (by omega) hl2
    simp (maxSteps := 1000000) (disch := omega) only [e, h1, h3, h8, h9, h10, hw, wrap64, S, S1, S2, S3, S4, S5, ST, eq_self, reduceIte, reduceCtorEq, Nat.reduceEqDiff, Nat.reduceAdd]
    refine ⟨m3 - 1, by omega, k + 1, R3, ?_⟩
    (repeat' first | exact ho4 | exact hp4 | exact hsm3 | exact hq | exact hno5 | apply And.intro) <;> first | (simp only [Value.int.injEq, true_and]; omega) | omega | rfl | assumption | (simp; done) | (simp; omega)
set_option maxRecDepth 20000 in
set_option maxHeartbeats 2000000 in
theorem l1PutW_c (v : Value) (l : List Int) (x : Int) (H : AH) (hr : Row 3 H v l) (hlen : l.length ≤ 1000000) (hso : l.Pairwise (· < ·)) :
    ACalls Tryz.prog 155 [v, .int .i64 x] H fun r H' => ((r = v ∧ put l x = l) ∨ Own 3 H H' r (put l x)) ∧ H <+: H' := by
  by_cases hx : x ∈ l
  rotate_left
  · exact (l1Put_c v l x H hr hlen hx).mono fun r H' h => ⟨.inr h.1, h.2⟩
  · refine in155 rfl ?_
    intro Q hQ
    obtain ⟨q, hq, hqe⟩ := List.mem_iff_getElem.1 hx
    have hqd : l.getD q 0 = x := by simp [hq, hqe]
    have hpt : put l x = l := by
      have hlt : ∀ j, j < q → l.getD j 0 < x := fun j hj => by
        have := List.pairwise_iff_getElem.1 hso j q (by omega) hq hj
        have e : l.getD j 0 = l[j] := by simp [show j < l.length by omega]
        rw [e]; omega
      rw [putAt_eq0 l x q (by omega) hlt (fun _ => by omega), if_pos ⟨hq, hqd⟩]
    simp (maxSteps := 1000000) (disch := omega) only [cd155, S, S1, S2, S3, S4, S5, ST, eq_self, reduceIte, reduceCtorEq, Nat.reduceEqDiff, Nat.reduceAdd]
    refine LoopH.by (fun m s H' => ∃ i, m + i = l.length ∧ s 0 = v ∧ s 1 = .int .i64 x ∧ s 5 = .int .i64 ((i : Nat) : Int) ∧ H = H' ∧ i ≤ q) l.length ?_ ?_
    · exact ⟨0, by simp, rfl, rfl, rfl, rfl, by omega⟩
    · rintro m s H' ⟨i, hm, h0, h1, h5, rfl, hiq⟩
      have hi : i < l.length := by omega
      have hle : l.getD i 0 ≤ x ∧ (i < q → l.getD i 0 < x) := by
        have e : l.getD i 0 = l[i] := by simp [hi]
        rw [e]
        by_cases e2 : i = q
        · subst e2; exact ⟨by omega, fun h => absurd h (by omega)⟩
        · have := List.pairwise_iff_getElem.1 hso i q hi hq (by omega)
          exact ⟨by omega, fun _ => by omega⟩
      simp (maxSteps := 1000000) (disch := omega) only [h0, h1, h5, hr.len Tryz.underlying38, S, S1, S2, S3, S4, S5, ST, eq_self, reduceIte, reduceCtorEq, Nat.reduceEqDiff, Nat.reduceAdd]
      refine brD.intro (fun g => ?_) (fun g => absurd (show (i : Int) < l.length by omega) g)
      simp (maxSteps := 1000000) (disch := omega) only [g, h0, h1, h5, hr.ix Tryz.underlying38 cs3, hr.cell, Int.toNat_natCast, S, S1, S2, S3, S4, S5, ST, eq_self, reduceIte, reduceCtorEq, Nat.reduceEqDiff, Nat.reduceAdd]
      refine brD.intro (fun e => ?_) (fun e => ?_)
      · simp (maxSteps := 1000000) (disch := omega) only [h0, h1, h5, wrap64, S, S1, S2, S3, S4, S5, ST, eq_self, reduceIte, reduceCtorEq, Nat.reduceEqDiff, Nat.reduceAdd]
        have fx : i + 1 ≤ q := by
          by_cases e2 : i = q
          · subst e2; omega
          · omega
        refine ⟨m - 1, by omega, i + 1, ?_⟩
        (repeat' apply And.intro) <;> first | exact fx | (simp only [Value.int.injEq, true_and]; omega) | omega | rfl | assumption | (simp; done) | (simp; omega)
      · have hee : l.getD i 0 = x := by
          by_cases e2 : i = q
          · subst e2; exact hqd
          · exact absurd (hle.2 (by omega)) e
        simp (maxSteps := 1000000) (disch := omega) only [g, h0, h1, h5, hr.len Tryz.underlying38, hr.ix Tryz.underlying38 cs3, hr.cell, Int.toNat_natCast, S, S1, S2, S3, S4, S5, ST, eq_self, reduceIte, reduceCtorEq, Nat.reduceEqDiff, Nat.reduceAdd]
        refine brD.intro (fun h => ?_) (fun h => absurd hee h)
        simp (maxSteps := 1000000) (disch := omega) only [h0, S, S1, S2, S3, S4, S5, ST, eq_self, reduceIte, reduceCtorEq, Nat.reduceEqDiff, Nat.reduceAdd]
        refine hQ _ _ _ ?_
        simp (maxSteps := 1000000) (disch := omega) only [h0, hr.tup, S, S1, S2, S3, S4, S5, ST, eq_self, reduceIte, reduceCtorEq, Nat.reduceEqDiff, Nat.reduceAdd]
        exact ⟨.inl hpt, List.prefix_refl _⟩
theorem Sm.puts : ∀ (l : List Int) {s : List Int}, Sm s → (∀ y ∈ l, 0 ≤ y ∧ y < 8) → Sm (l.foldl Ai.put s)
  | [], s, h, _ => h
  | y :: ys, s, h, hl => Sm.puts ys (h.put (hl y (by simp))) fun z hz => hl z (by simp [hz])
theorem Sm.reach {es : List (Int × Int)} {set : List Int} (hl : ∀ y ∈ set, 0 ≤ y ∧ y < 8) {x : Int} (hx : 0 ≤ x ∧ x < 8) : Sm (reachL es set x) := Sm.iter es set hl hx _
theorem pcK_Sm (es : List (Int × Int)) (set : List Int) (hl : ∀ y ∈ set, 0 ≤ y ∧ y < 8) : ∀ (l : List Int) (st : List (List Int) × List Int), (∀ y ∈ l, 0 ≤ y ∧ y < 8) → Sm st.2 → Sm (l.foldl (pcS es set) st).2 ∧ (l.foldl (pcS es set) st).1.length ≤ st.1.length + l.length
  | [], st, _, h => ⟨h, by simp⟩
  | y :: ys, st, hy, h => by
    rw [List.foldl_cons]
    have h1 : Sm (pcS es set st y).2 ∧ (pcS es set st y).1.length ≤ st.1.length + 1 := by
      unfold pcS
      split
      · exact ⟨h, by omega⟩
      · exact ⟨h.puts _ fun z hz => (Sm.reach hl (hy y (by simp))).2 z hz, by simp⟩
    obtain ⟨i1, i2⟩ := pcK_Sm es set hl ys _ (fun z hz => hy z (by simp [hz])) h1.1
    exact ⟨i1, by simp only [List.length_cons]; omega⟩
set_option maxRecDepth 20000 in
set_option maxHeartbeats 4000000 in
theorem l2Pieces_c (n : Int) (v w : Value) (es : List (Int × Int)) (set : List Int) (H : AH) (hr : RowP 83 H v es) (hlen : es.length ≤ 1099511627776) (hs : Row 3 H w set) (hsr : ∀ z ∈ set, 0 ≤ z ∧ z < 8) (hsl : set.length ≤ 8) :
    ACalls Tryz.prog 126 [.agg (List.toArray [.int .i64 n, v]), w] H fun r H' => InL H.length H'.length 38 3 H' r (piecesL es set) ∧ H <+: H' := by
  refine in126 rfl ?_
  intro Q hQ
  simp (maxSteps := 1000000) (disch := omega) only [cd126, hr.boxG, S, S1, S2, S3, S4, S5, ST, eq_self, reduceIte, reduceCtorEq, Nat.reduceEqDiff, Nat.reduceAdd]
  generalize hA : H ++ [AObj.cells [.int .i64 n, v] 31 false] = A
  have pA : H <+: A := by rw [← hA]; exact List.prefix_append _ _
  have cA : A[H.length]? = some (.cells [.int .i64 n, v] 31 false) := by rw [← hA]; exact at_new ..
  have rA := hr.pre pA
  try simp (maxSteps := 1000000) (disch := omega) only [S, S1, S2, S3, S4, S5, ST, eq_self, reduceIte, reduceCtorEq, Nat.reduceEqDiff, Nat.reduceAdd]
  have lA : A.length = H.length + 1 := by rw [← hA]; simp
  generalize hB : A ++ [AObj.cells [] 38 false] = B
  have pB : A <+: B := by rw [← hB]; exact List.prefix_append _ _
  have cB : B[A.length]? = some (.cells [] 38 false) := by rw [← hB]; exact at_new ..
  have lB : B.length = A.length + 1 := by rw [← hB]; simp
  have uB : InU H.length B.length 38 3 B A.length [] [] := ⟨by omega, by omega, cB, Nat.le_refl _, fun i hi => absurd hi (by simp), fun i j _ hi _ => absurd hi (by simp)⟩
  refine LoopH.by (fun m s H' => ∃ i st oo vs q, m + i = set.length ∧ s 1 = w ∧ s 2 = .pointer (some ⟨H.length, 0, none⟩) ∧ s 7 = .int .i64 ((i : Nat) : Int) ∧ s 5 = .slice (some ⟨oo, 0, none⟩) st.1.length st.1.length ∧ s 6 = .slice (some ⟨q, 0, none⟩) st.2.length st.2.length ∧ (set.drop i).foldl (pcS es set) st = pcK es set set ∧ InU H.length H'.length 38 3 H' oo vs st.1 ∧ H'[q]? = some (.cells (ints st.2) 3 false) ∧ q ≠ oo ∧ A.length ≤ oo ∧ A.length ≤ q ∧ A <+: H' ∧ Sm st.2 ∧ st.1.length ≤ i) set.length ?_ ?_
  · refine ⟨0, ([], []), A.length, [], B.length, by simp, ?_⟩
    simp only [S, S1, S2, S3, S4, S5, ST, eq_self, reduceIte, reduceCtorEq, Nat.reduceEqDiff, Nat.reduceAdd]
    have q1 := uB.pre (List.prefix_append B [AObj.cells [] 3 false])
    have q1' := q1.wide (Nat.le_refl _) (show B.length ≤ (B ++ [AObj.cells [] 3 false]).length by simp)
    have q2 : (B ++ [AObj.cells [] 3 false])[B.length]? = some (.cells (ints []) 3 false) := at_new ..
    have q3 := pre_app pB [AObj.cells [] 3 false]
    have q4 : (set.drop 0).foldl (pcS es set) ([], []) = pcK es set set := by rw [List.drop_zero]; rfl
    have q5 := Sm.nil
    (repeat' first | exact q1' | exact q2 | exact q3 | exact q4 | exact q5 | apply And.intro) <;> first | (simp only [Value.int.injEq, true_and]; omega) | omega | rfl | assumption | (simp; done) | (simp; omega)
  rintro m s H' ⟨i, st, oo, vs, q, hm, h1, h2, h7, h5, h6, hf, hu, hq, hqo, hAo, hAq, hp, hsm, hcn⟩
  have hss := hs.pre (pA.trans hp)
  have hsl6 := hsm.len
  have hlt := hp.length_le
  have hrq : Row 3 H' (.slice (some ⟨q, 0, none⟩) st.2.length st.2.length) st.2 := .inr ⟨q, 0, ints st.2, false, rfl, hq, by rw [ints_len]; omega, by rw [List.drop_zero, ← ints_len, List.take_length]⟩
  simp (maxSteps := 1000000) (disch := omega) only [h1, h2, h7, h5, h6, hss.len Tryz.underlying38, S, S1, S2, S3, S4, S5, ST, eq_self, reduceIte, reduceCtorEq, Nat.reduceEqDiff, Nat.reduceAdd]
  refine brD.intro (fun g => ?_) (fun g => ?_)
  rotate_left
  · simp (maxSteps := 1000000) (disch := omega) only [h5, S, S1, S2, S3, S4, S5, ST, eq_self, reduceIte, reduceCtorEq, Nat.reduceEqDiff, Nat.reduceAdd]
    refine hQ _ _ _ ?_
    simp (maxSteps := 1000000) (disch := omega) only [h5, S, S1, S2, S3, S4, S5, ST, eq_self, reduceIte, reduceCtorEq, Nat.reduceEqDiff, Nat.reduceAdd]
    rw [List.drop_of_length_le (by omega), List.foldl_nil] at hf
    have hP : piecesL es set = st.1 := by unfold piecesL; rw [← hf]
    rw [hP]
    exact ⟨hu.inl, pA.trans hp⟩
  have hi : i < set.length := by omega
  rw [drop_fold _ set i hi] at hf
  have hym : set.getD i 0 ∈ set := by simp [hi]
  have hyr := hsr _ hym
  have hcy := hss.cell hi
  generalize hy : set.getD i 0 = y at *
  simp (maxSteps := 1000000) (disch := omega) only [h1, h2, h7, h5, h6, hss.ix Tryz.underlying38 cs3, hcy, Int.toNat_natCast, S, S1, S2, S3, S4, S5, ST, eq_self, reduceIte, reduceCtorEq, Nat.reduceEqDiff, Nat.reduceAdd]
  refine CallH.by (l1Has_c _ st.2 y H' hrq (by omega)) ?_
  rintro _ _ ⟨rfl, rfl⟩
  simp (maxSteps := 1000000) (disch := omega) only [S, S1, S2, S3, S4, S5, ST, eq_self, reduceIte, reduceCtorEq, Nat.reduceEqDiff, Nat.reduceAdd]
  refine brD.intro (fun e => ?_) (fun e => ?_)
  · have hst : pcS es set st y = st := by unfold pcS; rw [if_pos e]
    rw [hst] at hf
    simp (maxSteps := 1000000) (disch := omega) only [h1, h2, h7, h5, h6, wrap64, S, S1, S2, S3, S4, S5, ST, eq_self, reduceIte, reduceCtorEq, Nat.reduceEqDiff, Nat.reduceAdd]
    refine ⟨m - 1, by omega, i + 1, st, oo, vs, q, ?_⟩
    (repeat' first | exact hf | exact hu | exact hq | exact hp | exact hsm | apply And.intro) <;> first | (simp only [Value.int.injEq, true_and]; omega) | omega | rfl | assumption | (simp; done) | (simp; omega)
  have hst : pcS es set st y = (st.1 ++ [reachL es set y], (reachL es set y).foldl put st.2) := by unfold pcS; rw [if_neg e]
  rw [hst] at hf
  have c3 := pre_at hp cA
  simp (maxSteps := 1000000) (disch := omega) only [h1, h2, h7, h5, h6, hss.ix Tryz.underlying38 cs3, hcy, Int.toNat_natCast, ld_agg ag31 cs31 c3, S, S1, S2, S3, S4, S5, ST, eq_self, reduceIte, reduceCtorEq, Nat.reduceEqDiff, Nat.reduceAdd]
  refine CallH.by (l2Reach_c n v w es set y H' (rA.pre hp) hlen hss hsr hsl hyr) ?_
  rintro pv H2 ⟨ho2, p2⟩
  have hpm := ho2.mine
  have hrs := Sm.reach (es := es) hsr hyr
  have hrl := hrs.len
  generalize hR : reachL es set y = R at *
  simp (maxSteps := 1000000) (disch := omega) only [h1, h2, h7, h5, h6, S, S1, S2, S3, S4, S5, ST, eq_self, reduceIte, reduceCtorEq, Nat.reduceEqDiff, Nat.reduceAdd]
  have hu2 := hu.pre p2
  have hl2 := p2.length_le
  refine LoopH.by (fun m2 s H3 => ∃ k sn q', m2 + k = R.length ∧ s 1 = w ∧ s 2 = .pointer (some ⟨H.length, 0, none⟩) ∧ s 7 = .int .i64 ((i : Nat) : Int) ∧ s 5 = .slice (some ⟨oo, 0, none⟩) st.1.length st.1.length ∧ s 6 = .slice (some ⟨q', 0, none⟩) sn.length sn.length ∧ s 8 = pv ∧ s 9 = .int .i64 ((k : Nat) : Int) ∧ H3[q']? = some (.cells (ints sn) 3 false) ∧ q' ≠ oo ∧ A.length ≤ q' ∧ H2 <+: H3 ∧ Sm sn ∧ (R.drop k).foldl put sn = R.foldl put st.2) R.length ?_ ?_
  · refine ⟨0, st.2, q, by simp, ?_⟩
    simp only [S, S1, S2, S3, S4, S5, ST, eq_self, reduceIte, reduceCtorEq, Nat.reduceEqDiff, Nat.reduceAdd, h1, h2, h7, h5, h6]
    have q2 := pre_at p2 hq
    have q3 := List.prefix_refl H2
    have q4 : (R.drop 0).foldl put st.2 = R.foldl put st.2 := by rw [List.drop_zero]
    (repeat' first | exact q2 | exact q3 | exact q4 | exact hsm | apply And.intro) <;> first | (simp only [Value.int.injEq, true_and]; omega) | omega | rfl | assumption | (simp; done) | (simp; omega)
  rintro m2 s H3 ⟨k, sn, q', hm2, h1, h2, h7, h5, h6, h8, h9, hq', hqo', hAq', hp3, hsn, hfo⟩
  have hpr := ho2.row.pre hp3
  have hsnl := hsn.len
  have hrq' : Row 3 H3 (.slice (some ⟨q', 0, none⟩) sn.length sn.length) sn := .inr ⟨q', 0, ints sn, false, rfl, hq', by rw [ints_len]; omega, by rw [List.drop_zero, ← ints_len, List.take_length]⟩
  have hl3 := hp3.length_le
  simp (maxSteps := 1000000) (disch := omega) only [h1, h2, h7, h5, h6, h8, h9, hpr.len Tryz.underlying38, S, S1, S2, S3, S4, S5, ST, eq_self, reduceIte, reduceCtorEq, Nat.reduceEqDiff, Nat.reduceAdd]
  refine brD.intro (fun g2 => ?_) (fun g2 => ?_)
  · have hk : k < R.length := by omega
    rw [drop_fold _ R k hk] at hfo
    have hzm : R.getD k 0 ∈ R := by simp [hk]
    have hzr := hrs.2 _ hzm
    have hcz := hpr.cell hk
    generalize hz : R.getD k 0 = z at *
    simp (maxSteps := 1000000) (disch := omega) only [h1, h2, h7, h5, h6, h8, h9, hpr.ix Tryz.underlying38 cs3, hcz, Int.toNat_natCast, S, S1, S2, S3, S4, S5, ST, eq_self, reduceIte, reduceCtorEq, Nat.reduceEqDiff, Nat.reduceAdd]
    refine CallH.by (l1PutW_c _ sn z H3 hrq' (by omega) hsn.1) ?_
    rintro r4 H4 ⟨hr4, p4⟩
    have hsn4 := hsn.put hzr
    have hp4 := hp3.trans p4
    have hq4 : ∃ q4, r4 = .slice (some ⟨q4, 0, none⟩) (put sn z).length (put sn z).length ∧ H4[q4]? = some (.cells (ints (put sn z)) 3 false) ∧ q4 ≠ oo ∧ A.length ≤ q4 := by
      rcases hr4 with ⟨rfl, e4⟩ | (⟨_, e4⟩ | ⟨q4, e4, g4, c4⟩)
      · rw [e4]
        exact ⟨q', rfl, pre_at p4 hq', hqo', hAq'⟩
      · have : z ∈ put sn z := (put_mem _ _ _).2 (.inl rfl)
        rw [e4] at this; simp at this
      · have := hu.2.1
        exact ⟨q4, e4, c4, by omega, by omega⟩
    obtain ⟨q4, rfl, c4, n4, l4⟩ := hq4
    simp (maxSteps := 1000000) (disch := omega) only [h1, h2, h7, h5, h6, h8, h9, wrap64, S, S1, S2, S3, S4, S5, ST, eq_self, reduceIte, reduceCtorEq, Nat.reduceEqDiff, Nat.reduceAdd]
    refine ⟨m2 - 1, by omega, k + 1, put sn z, q4, ?_⟩
    (repeat' first | exact c4 | exact hp4 | exact hsn4 | exact hfo | apply And.intro) <;> first | (simp only [Value.int.injEq, true_and]; omega) | omega | rfl | assumption | (simp; done) | (simp; omega)
  · rw [List.drop_of_length_le (by omega), List.foldl_nil] at hfo
    rw [← hfo] at hf
    have hu3 := hu2.pre hp3
    have hw3 : InI H'.length H3.length 3 H3 pv R := (InI.of (hpm.pre hp3)).wide (Nat.le_refl _) (Nat.le_refl _)
    have hHA := pA.length_le
    obtain ⟨K2, k1, k2, k3, k4⟩ := hu3.app1 (P := Tryz.prog) (t2 := 26) Tryz.underlying26 cs38 (by rw [by38]; decide) zk38 hw3 (by omega) (by omega) (Nat.le_refl _) (by omega)
    simp (maxSteps := 1000000) (disch := omega) only [h1, h2, h7, h5, h6, h8, h9, bsRow hpr H3, k1, wrap64, S, S1, S2, S3, S4, S5, ST, eq_self, reduceIte, reduceCtorEq, Nat.reduceEqDiff, Nat.reduceAdd]
    have g1 : (st.1 ++ [R]).length = st.1.length + 1 := by simp
    have c1 : InU H.length K2.length 38 3 K2 (H3.length + 1) (vs.take st.1.length ++ [pv]) (st.1 ++ [R]) := by rw [k3]; exact k2
    have c2 : K2[q']? = some (.cells (ints sn) 3 false) := k4 _ _ hqo' hq'
    have c5 : A <+: K2 := prefix_of fun o z hz => k4 o z (by have := at_lt hz; omega) (pre_at (hp.trans (p2.trans hp3)) hz)
    have n1 : q' ≠ H3.length + 1 := by have := at_lt hq'; omega
    have n2 : A.length ≤ H3.length + 1 := by omega
    refine ⟨m - 1, by omega, i + 1, (st.1 ++ [R], sn), H3.length + 1, vs.take st.1.length ++ [pv], q', ?_⟩
    simp only [g1]
    (repeat' first | exact hf | exact c1 | exact c2 | exact c5 | exact n1 | exact n2 | exact hsn | apply And.intro) <;> first | (simp only [Value.int.injEq, true_and]; omega) | omega | rfl | assumption | (simp; done) | (simp; omega)
end Go.Proofs.YtlfongfhbkefmaaGreat.Ai
namespace Go.Proofs.YtlfongfhbkefmaaGreat.Ai
open Go
def ords74 : List (Nat × List (Nat × Bool)) := []
def cd74 : Cd := (.seq (.reg [⟨⟨some 2, Op.box 31 (Operand.tmp 0), none⟩, []⟩,
  ⟨⟨some 4, Op.assign (Operand.const (Value.slice none 0 0)), none⟩, []⟩]) (.seq (.reg [⟨⟨some 7, Op.buildSlice 38 0 #[], none⟩, []⟩,
  ⟨⟨some 5, Op.assign (Operand.tmp 7), none⟩, []⟩]) (.seq (.seq (.reg [⟨⟨some 6, Op.assign (Operand.const (Value.int IntKind.i64 0)), none⟩, []⟩]) (.block 0 (.loop (.seq (.seq (.reg [⟨⟨some 8, Op.move (Operand.tmp 6), none⟩, []⟩,
  ⟨⟨some 9, Op.fieldAddr 31 (Operand.tmp 2) 0, none⟩, []⟩,
  ⟨⟨some 10, Op.load 3 (Operand.tmp 9), none⟩, []⟩,
  ⟨⟨some 11, Op.binOp BinOp.lss 3 (Operand.tmp 8) (Operand.tmp 10) 3, none⟩, []⟩]) (.cond (Operand.tmp 11) .skip (.exit 0))) (.seq (.block 1 (.seq (.reg [⟨⟨some 14, Op.load 31 (Operand.tmp 2), none⟩, []⟩,
  ⟨⟨some 15, Op.move (Operand.tmp 1), none⟩, []⟩,
  ⟨⟨some 16, Op.move (Operand.tmp 6), none⟩, []⟩,
  ⟨⟨some 17, Op.call { callee := (Callee.value (Operand.func 80)), args := #[(Operand.tmp 14), (Operand.tmp 15), (Operand.tmp 16)], argTypes := #[31, 3, 3] }, none⟩, []⟩]) (.cond (Operand.tmp 17) (.reg [⟨⟨some 18, Op.move (Operand.tmp 5), none⟩, []⟩,
  ⟨⟨some 19, Op.move (Operand.tmp 6), none⟩, []⟩,
  ⟨⟨some 20, Op.buildSlice 38 1 #[(0, (Operand.tmp 19))], none⟩, []⟩,
  ⟨⟨some 21, Op.call { callee := (Callee.builtin Builtin.append), args := #[(Operand.tmp 18), (Operand.tmp 20)], argTypes := #[38, 38] }, none⟩, []⟩,
  ⟨⟨some 5, Op.assign (Operand.tmp 21), none⟩, []⟩]) .skip))) (.reg [⟨⟨some 12, Op.move (Operand.tmp 6), none⟩, []⟩,
  ⟨⟨some 13, Op.binOp BinOp.add 3 (Operand.tmp 12) (Operand.const (Value.int IntKind.i64 1)) 3, none⟩, []⟩,
  ⟨⟨some 6, Op.assign (Operand.tmp 13), none⟩, []⟩])))))) (.seq (.reg [⟨⟨some 22, Op.move (Operand.tmp 5), none⟩, []⟩,
  ⟨⟨some 4, Op.assign (Operand.tmp 22), none⟩, []⟩]) .ret))))
theorem sl74 : slim Tryz.f74.ntmps ords74 (Tryz.f74.body.getD .skip) = some cd74 := by kernel_rfl
theorem in74 {args : List Value} {H : AH} {R : Value → AH → Prop} (hl : args.length = 2) (h : ∀ (Q : Exit → Sl → AH → Prop), (∀ e s H, endA Tryz.prog [ResultVar.tmp 4] R e s H → Q e s H) → wpC Tryz.prog cd74 Q (enterA args) H) : ACalls Tryz.prog 74 args H R :=
  ACalls.intro (by kernel_rfl) Tryz.func74 rfl (by kernel_rfl) sl74 hl (of_decide_eq_true (by kernel_rfl)) (by kernel_rfl) h
end Go.Proofs.YtlfongfhbkefmaaGreat.Ai
namespace Go.Proofs.YtlfongfhbkefmaaGreat.Ai
open Go Go.RowKit
set_option linter.unusedVariables false
set_option linter.unusedSimpArgs false
set_option maxRecDepth 20000 in
set_option maxHeartbeats 1000000 in
theorem l2Neighbors_c (n : Int) (v : Value) (es : List (Int × Int)) (x : Int) (H : AH) (hr : RowP 83 H v es) (hlen : es.length ≤ 1099511627776) (hn : 0 ≤ n ∧ n ≤ 8) :
    ACalls Tryz.prog 74 [.agg (List.toArray [.int .i64 n, v]), .int .i64 x] H fun r H' => Own 3 H H' r (nbsU es x n.toNat) ∧ H <+: H' := by
  refine in74 rfl ?_
  intro Q hQ
  simp (maxSteps := 1000000) (disch := omega) only [cd74, hr.boxG, S, S1, S2, S3, S4, S5, ST, eq_self, reduceIte, reduceCtorEq, Nat.reduceEqDiff, Nat.reduceAdd]
  generalize hA : H ++ [AObj.cells [.int .i64 n, v] 31 false] = A
  have pA : H <+: A := by rw [← hA]; exact List.prefix_append _ _
  have cA : A[H.length]? = some (.cells [.int .i64 n, v] 31 false) := by rw [← hA]; exact at_new ..
  have rA := hr.pre pA
  try simp (maxSteps := 1000000) (disch := omega) only [S, S1, S2, S3, S4, S5, ST, eq_self, reduceIte, reduceCtorEq, Nat.reduceEqDiff, Nat.reduceAdd]
  refine LoopH.by (fun m s H' => ∃ i, m + i = n.toNat ∧ s 1 = .int .i64 x ∧ s 2 = .pointer (some ⟨H.length, 0, none⟩) ∧ s 6 = .int .i64 ((i : Nat) : Int) ∧ Own 3 A H' (s 5) (nbsU es x i) ∧ A <+: H') n.toNat ?_ ?_
  · exact ⟨0, by simp, rfl, rfl, rfl, .inr ⟨A.length, rfl, Nat.le_refl _, at_new ..⟩, List.prefix_append _ _⟩
  · rintro m s H' ⟨i, hm, h1, h2, h6, ho, hp⟩
    have hr' := rA.pre hp
    have cH := pre_at hp cA
    have hl := nbsU_len es x i
    have hst : nbsU es x (i + 1) = nbsU es x i ++ if nearB es x i = true then [(i : Int)] else [] := rfl
    generalize hw : s 5 = w at *
    simp (maxSteps := 1000000) (disch := omega) only [h1, h2, h6, hw, cell_of cH, S, S1, S2, S3, S4, S5, ST, eq_self, reduceIte, reduceCtorEq, Nat.reduceEqDiff, Nat.reduceAdd]
    refine brD.intro (fun g => ?_) (fun g => ?_)
    · simp (maxSteps := 1000000) (disch := omega) only [h1, h2, h6, hw, ld_agg ag31 cs31 cH, S, S1, S2, S3, S4, S5, ST, eq_self, reduceIte, reduceCtorEq, Nat.reduceEqDiff, Nat.reduceAdd]
      refine CallH.by (l2Near_c n v es x i H' hr' hlen) ?_
      rintro _ B ⟨rfl, pB⟩
      have hoB := ho.pre pB
      have hpB := hp.trans pB
      simp (maxSteps := 1000000) (disch := omega) only [S, S1, S2, S3, S4, S5, ST, eq_self, reduceIte, reduceCtorEq, Nat.reduceEqDiff, Nat.reduceAdd]
      refine brH.intro (fun e2 => ?_) (fun e2 => ?_)
      · obtain ⟨w', H2, k1, k2, k3, k4, k5, k6⟩ := own1_38 hoB hpB (by omega) (i : Int)
        simp (maxSteps := 1000000) (disch := omega) only [e2, h1, h2, h6, hw, k1, wrap64, S, S1, S2, S3, S4, S5, ST, eq_self, reduceIte, reduceCtorEq, Nat.reduceEqDiff, Nat.reduceAdd]
        rw [if_pos e2] at hst
        rw [← hst] at k2
        refine ⟨m - 1, by omega, i + 1, ?_⟩
        (repeat' first | exact k2 | exact k3 | apply And.intro) <;> first | (simp only [Value.int.injEq, true_and]; omega) | omega | rfl | assumption | (simp; done) | (simp; omega)
      · simp (maxSteps := 1000000) (disch := omega) only [e2, h1, h2, h6, hw, wrap64, S, S1, S2, S3, S4, S5, ST, eq_self, reduceIte, reduceCtorEq, Nat.reduceEqDiff, Nat.reduceAdd]
        rw [if_neg (by simpa using e2), List.append_nil] at hst
        rw [← hst] at hoB
        refine ⟨m - 1, by omega, i + 1, ?_⟩
        (repeat' first | exact hoB | exact hpB | apply And.intro) <;> first | (simp only [Value.int.injEq, true_and]; omega) | omega | rfl | assumption | (simp; done) | (simp; omega)
    · simp (maxSteps := 1000000) (disch := omega) only [hw, S, S1, S2, S3, S4, S5, ST, eq_self, reduceIte, reduceCtorEq, Nat.reduceEqDiff, Nat.reduceAdd]
      refine hQ _ _ _ ?_
      simp (maxSteps := 1000000) (disch := omega) only [hw, ho.row.tup, S, S1, S2, S3, S4, S5, ST, eq_self, reduceIte, reduceCtorEq, Nat.reduceEqDiff, Nat.reduceAdd]
      have : i = n.toNat := by omega
      subst this
      exact ⟨ho.base pA, pA.trans hp⟩
end Go.Proofs.YtlfongfhbkefmaaGreat.Ai
namespace Go.Proofs.YtlfongfhbkefmaaGreat.Ai
open Go Go.RowKit
set_option linter.unusedVariables false
set_option linter.unusedSimpArgs false
/-- what of a list another one does not have -/
def without (xs ys : List Int) : List Int := xs.filter fun x => decide (¬ x ∈ ys)
end Go.Proofs.YtlfongfhbkefmaaGreat.Ai
namespace Go.Proofs.YtlfongfhbkefmaaGreat.Ai
open Go Go.RowKit
set_option linter.unusedVariables false
set_option linter.unusedSimpArgs false
theorem setW_srt (s0 : List Bool) : ∀ k, (setW s0 k).Pairwise (· < ·)
  | 0 => List.Pairwise.nil
  | k + 1 => by
    simp only [setW]
    rw [List.pairwise_append]
    refine ⟨setW_srt s0 k, by split <;> simp, fun a ha b hb => ?_⟩
    have := (setW_mem s0 k a).1 ha
    split at hb
    · simp at hb
    · simp only [List.mem_cons, List.not_mem_nil, or_false] at hb
      omega
theorem setW_all (N : Nat) : setW (seen0 N (-1)) N = alls N := by
  refine srt_ext (setW_srt _ _) (alls_srt N) fun z => ?_
  rw [setW_mem, alls_mem]
  constructor
  · rintro ⟨h1, h2, _⟩; exact ⟨h1, h2⟩
  · rintro ⟨h1, h2⟩
    refine ⟨h1, h2, ?_⟩
    unfold seen0
    rw [if_neg (by omega), List.getD_eq_getElem?_getD, List.getElem?_replicate, if_pos (by omega)]
    decide
theorem pieces_le (es : List (Int × Int)) (set : List Int) (hl : ∀ y ∈ set, 0 ≤ y ∧ y < 8) : (piecesL es set).length ≤ set.length := by
  have := (pcK_Sm es set hl set ([], []) hl Sm.nil).2
  simpa [piecesL, pcK] using this
theorem alls_sm {n : Nat} (h : n ≤ 8) : ∀ y ∈ alls n, 0 ≤ y ∧ y < 8 := fun y hy => by have := (alls_mem n y).1 hy; omega
end Go.Proofs.YtlfongfhbkefmaaGreat.Ai
namespace Go.Proofs.YtlfongfhbkefmaaGreat.Ai
open Go
set_option linter.unusedVariables false
theorem reach_x (es : List (Int × Int)) (set : List Int) (x : Int) : x ∈ reachL es set x := rcIter_x es set x _
structure PcI (es : List (Int × Int)) (set : List Int) (st : List (List Int) × List Int) : Prop where
  mem : ∀ p ∈ st.1, ∃ x ∈ set, p = reachL es set x
  seen : ∀ z, z ∈ st.2 ↔ ∃ p ∈ st.1, z ∈ p
theorem PcI.step {es : List (Int × Int)} {set : List Int} {st : List (List Int) × List Int} (h : PcI es set st) {y : Int} (hy : y ∈ set) : PcI es set (pcS es set st y) := by
  unfold pcS
  split
  · exact h
  · refine ⟨?_, ?_⟩
    · intro p hp
      rcases List.mem_append.1 hp with hp | hp
      · exact h.mem p hp
      · simp only [List.mem_cons, List.not_mem_nil, or_false] at hp
        exact ⟨y, hy, hp⟩
    · intro z
      show z ∈ (reachL es set y).foldl put st.2 ↔ _
      rw [puts_mem, h.seen]
      constructor
      · rintro (h1 | ⟨p, h1, h2⟩)
        · exact ⟨_, List.mem_append.2 (.inr (by simp)), h1⟩
        · exact ⟨p, List.mem_append.2 (.inl h1), h2⟩
      · rintro ⟨p, h1, h2⟩
        rcases List.mem_append.1 h1 with h1 | h1
        · exact .inr ⟨p, h1, h2⟩
        · simp only [List.mem_cons, List.not_mem_nil, or_false] at h1
          rw [h1] at h2; exact .inl h2
theorem pcS_mono (es : List (Int × Int)) (set : List Int) (st : List (List Int) × List Int) (y : Int) {z : Int} (h : z ∈ st.2) : z ∈ (pcS es set st y).2 := by
  unfold pcS
  split
  · exact h
  · exact (puts_mem z _ _).2 (.inr h)
theorem pcS_get (es : List (Int × Int)) (set : List Int) (st : List (List Int) × List Int) (y : Int) : y ∈ (pcS es set st y).2 := by
  unfold pcS
  split
  · rename_i h; exact h
  · exact (puts_mem y _ _).2 (.inl (reach_x es set y))
theorem pcF_mono (es : List (Int × Int)) (set : List Int) {z : Int} : ∀ (l : List Int) (st : List (List Int) × List Int), z ∈ st.2 → z ∈ (l.foldl (pcS es set) st).2
  | [], st, h => h
  | y :: ys, st, h => pcF_mono es set ys _ (pcS_mono es set st y h)
theorem pcF_inv (es : List (Int × Int)) (set : List Int) : ∀ (l : List Int) (st : List (List Int) × List Int), (∀ y ∈ l, y ∈ set) → PcI es set st → PcI es set (l.foldl (pcS es set) st) ∧ ∀ y ∈ l, y ∈ (l.foldl (pcS es set) st).2
  | [], st, _, h => ⟨h, fun y hy => by simp at hy⟩
  | y :: ys, st, hl, h => by
    obtain ⟨i1, i2⟩ := pcF_inv es set ys _ (fun z hz => hl z (by simp [hz])) (h.step (hl y (by simp)))
    refine ⟨i1, fun z hz => ?_⟩
    rcases List.mem_cons.1 hz with rfl | hz
    · exact pcF_mono es set ys _ (pcS_get es set st z)
    · exact i2 z hz
theorem pieces_mem {es : List (Int × Int)} {set p : List Int} (hp : p ∈ piecesL es set) : ∃ x ∈ set, p = reachL es set x :=
  (pcF_inv es set set ([], []) (fun _ h => h) ⟨fun p hp => by simp at hp, fun z => by simp⟩).1.mem p hp
theorem piece_sub {es : List (Int × Int)} {set p : List Int} (hp : p ∈ piecesL es set) {a : Int} (ha : a ∈ p) : a ∈ set := by
  obtain ⟨x, hx, rfl⟩ := pieces_mem hp
  exact ((reach_iff es set x hx a).1 ha).in_ (S := (· ∈ set)) hx
theorem piece_first {es : List (Int × Int)} {set p : List Int} (hp : p ∈ piecesL es set) : p.getD 0 0 ∈ p := by
  obtain ⟨x, hx, rfl⟩ := pieces_mem hp
  have := List.length_pos_of_mem (reach_x es set x)
  simp [this]
end Go.Proofs.YtlfongfhbkefmaaGreat.Ai
namespace Go.Proofs.YtlfongfhbkefmaaGreat.Ai
open Go
set_option linter.unusedVariables false
/-- at some edge -/
def nbB (es : List (Int × Int)) (n : Nat) (x : Int) : Bool := decide (0 < (nbsU es x n).length)
theorem nbB_iff (es : List (Int × Int)) (n : Nat) (x : Int) : nbB es n x = true ↔ ∃ y : Int, (0 ≤ y ∧ y < n) ∧ nearB es x y = true := by
  unfold nbB
  rw [decide_eq_true_iff, List.length_pos_iff_exists_mem]
  exact exists_congr fun y => nbsU_mem es x n y
/-- the nodes at edges, of the first few -/
def domL (es : List (Int × Int)) (n : Nat) (k : Nat) : List Int := (alls k).filter (nbB es n)
theorem domL_succ (es : List (Int × Int)) (n k : Nat) : domL es n (k + 1) = domL es n k ++ (if nbB es n (k : Int) = true then [(k : Int)] else []) := by
  unfold domL
  rw [alls_succ, List.filter_append]
  congr 1
  by_cases h : nbB es n (k : Int) = true
  · rw [if_pos h]; simp [h]
  · rw [if_neg h]; simp [h]
theorem domL_mem (es : List (Int × Int)) (n k : Nat) (x : Int) : x ∈ domL es n k ↔ (0 ≤ x ∧ x < k) ∧ nbB es n x = true := by
  unfold domL; rw [List.mem_filter, alls_mem]
theorem domL_len (es : List (Int × Int)) (n k : Nat) : (domL es n k).length ≤ k := by
  unfold domL
  have := List.length_filter_le (nbB es n) (alls k)
  rw [alls_len] at this; exact this
section
variable {es : List (Int × Int)} {n : Nat} (hr : ∀ x y : Int, nearB es x y = true → (0 ≤ x ∧ x < n) ∧ (0 ≤ y ∧ y < n))
include hr
theorem nb_of {x y : Int} (h : nearB es x y = true) : nbB es n y = true := (nbB_iff es n y).2 ⟨x, (hr x y h).1, by rw [nearB_comm]; exact h⟩
theorem rch_dom {x z : Int} (h : Rch (fun a b => nearB es a b = true) (· ∈ alls n) x z) : Rch (fun a b => nearB es a b = true) (· ∈ domL es n n) x z := by
  induction h with
  | refl => exact .refl
  | step h1 h2 h3 ih => exact .step ih h2 ((domL_mem es n n _).2 ⟨(alls_mem n _).1 h3, nb_of hr h2⟩)
theorem reach_lone {x : Int} (hx : x ∈ alls n) (h : nbB es n x = false) : reachL es (alls n) x = [x] := by
  refine srt_ext (reach_srt es _ x) (by simp) fun z => ?_
  rw [reach_iff es _ x hx, List.mem_singleton]
  constructor
  · intro hz
    have : z = x ∧ True := by
      induction hz with
      | refl => exact ⟨rfl, trivial⟩
      | step h1 h2 h3 ih =>
        have e := ih.1
        subst e
        have hp := hr _ _ h2
        have : nbB es n _ = true := (nbB_iff es n _).2 ⟨_, hp.2, h2⟩
        rw [h] at this; cases this
    exact this.1
  · rintro rfl; exact .refl
theorem reach_dom {x : Int} (hx : x ∈ domL es n n) : reachL es (alls n) x = reachL es (domL es n n) x := by
  have hxa : x ∈ alls n := (alls_mem n x).2 ((domL_mem es n n x).1 hx).1
  refine srt_ext (reach_srt es _ x) (reach_srt es _ x) fun z => ?_
  rw [reach_iff es _ x hxa, reach_iff es _ x hx]
  exact ⟨rch_dom hr, fun h => h.mono fun y hy => (alls_mem n y).2 ((domL_mem es n n y).1 hy).1⟩
theorem pc_dom : ∀ (l : List Int), (∀ x ∈ l, x ∈ alls n) → ∀ (s t : List (List Int) × List Int), t.1 = s.1.filter (fun p => nbB es n (p.getD 0 0)) → (∀ z, nbB es n z = true → (z ∈ s.2 ↔ z ∈ t.2)) →
    ((l.filter (nbB es n)).foldl (pcS es (domL es n n)) t).1 = (l.foldl (pcS es (alls n)) s).1.filter (fun p => nbB es n (p.getD 0 0))
  | [], _, s, t, h1, _ => h1
  | x :: l, hl, s, t, h1, h2 => by
    have hxa := hl x (by simp)
    have hl' : ∀ y ∈ l, y ∈ alls n := fun y hy => hl y (by simp [hy])
    by_cases hx : nbB es n x = true
    · rw [List.filter_cons, if_pos hx, List.foldl_cons, List.foldl_cons]
      have hxd : x ∈ domL es n n := (domL_mem es n n x).2 ⟨(alls_mem n x).1 hxa, hx⟩
      by_cases hs : x ∈ s.2
      · rw [show pcS es (alls n) s x = s from if_pos hs, show pcS es (domL es n n) t x = t from if_pos ((h2 x hx).1 hs)]
        exact pc_dom l hl' s t h1 h2
      · rw [show pcS es (alls n) s x = (s.1 ++ [reachL es (alls n) x], (reachL es (alls n) x).foldl put s.2) from if_neg hs, show pcS es (domL es n n) t x = (t.1 ++ [reachL es (domL es n n) x], (reachL es (domL es n n) x).foldl put t.2) from if_neg (fun h => hs ((h2 x hx).2 h))]
        rw [reach_dom hr hxd]
        refine pc_dom l hl' _ _ ?_ ?_
        · show t.1 ++ [reachL es (domL es n n) x] = (s.1 ++ [reachL es (domL es n n) x]).filter _
          rw [List.filter_append, ← h1]
          congr 1
          have hf : (reachL es (domL es n n) x).getD 0 0 ∈ reachL es (domL es n n) x := by
            have := List.length_pos_of_mem (reach_x es (domL es n n) x)
            simp [this]
          have hd := ((reach_iff es _ x hxd _).1 hf).in_ (S := (· ∈ domL es n n)) hxd
          have := ((domL_mem es n n _).1 hd).2
          rw [List.filter_cons, if_pos this]; rfl
        · intro z hz
          show z ∈ (reachL es (domL es n n) x).foldl put s.2 ↔ z ∈ (reachL es (domL es n n) x).foldl put t.2
          rw [puts_mem, puts_mem, h2 z hz]
    · have hx' : nbB es n x = false := by simpa using hx
      rw [List.filter_cons, if_neg hx, List.foldl_cons]
      by_cases hs : x ∈ s.2
      · rw [show pcS es (alls n) s x = s from if_pos hs]
        exact pc_dom l hl' s t h1 h2
      · rw [show pcS es (alls n) s x = (s.1 ++ [reachL es (alls n) x], (reachL es (alls n) x).foldl put s.2) from if_neg hs]
        rw [reach_lone hr hxa hx']
        refine pc_dom l hl' _ _ ?_ ?_
        · show t.1 = (s.1 ++ [[x]]).filter _
          rw [List.filter_append, ← h1, List.filter_cons, if_neg (show ¬ nbB es n ([x].getD 0 0) = true by simpa using hx')]
          simp
        · intro z hz
          show z ∈ [x].foldl put s.2 ↔ z ∈ t.2
          rw [puts_mem, h2 z hz, List.mem_singleton]
          constructor
          · rintro (rfl | h)
            · exact absurd hz hx
            · exact h
          · exact .inr
/-- the pieces of the nodes at edges are the pieces of all that begin with one -/
theorem pieces_dom : (piecesL es (alls n)).filter (fun p => nbB es n (p.getD 0 0)) = piecesL es (domL es n n) := by
  have := pc_dom hr (alls n) (fun x h => h) ([], []) ([], []) rfl (fun z _ => Iff.rfl)
  unfold piecesL pcK
  exact this.symm
end
end Go.Proofs.YtlfongfhbkefmaaGreat.Ai
namespace Go.Proofs.YtlfongfhbkefmaaGreat.Ai
open Go Go.RowKit
set_option linter.unusedVariables false
/-- both nodes of an edge -/
abbrev ed1 (es : List (Int × Int)) (e : Int) : Int := (es.getD e.toNat (0, 0)).1
abbrev ed2 (es : List (Int × Int)) (e : Int) : Int := (es.getD e.toNat (0, 0)).2
def seenL (es : List (Int × Int)) (xs : List Int) : List Int := xs.flatMap fun e => [ed1 es e, ed2 es e]
theorem seenL_snoc (es : List (Int × Int)) (xs : List Int) (e : Int) : seenL es (xs ++ [e]) = seenL es xs ++ [ed1 es e, ed2 es e] := by simp [seenL]
theorem seenL_take (es : List (Int × Int)) (xs : List Int) (i : Nat) (hi : i < xs.length) : seenL es (xs.take (i + 1)) = seenL es (xs.take i) ++ [ed1 es (xs.getD i 0), ed2 es (xs.getD i 0)] := by
  rw [List.take_add_one, List.getElem?_eq_getElem hi]
  have : xs.getD i 0 = xs[i] := by simp [hi]
  rw [this]
  exact seenL_snoc es _ _
theorem seenL_len (es : List (Int × Int)) (xs : List Int) : (seenL es xs).length = 2 * xs.length := by
  induction xs with
  | nil => rfl
  | cons a xs ih => simp only [seenL, List.flatMap_cons, List.length_append] at ih ⊢; simp only [List.length_cons, List.length_nil, ih]; omega
def rsOk (n : Int) (xs : List Int) (i : Nat) : Prop := (0 ≤ xs.getD i 0 ∧ xs.getD i 0 ≤ n - 1) ∧ (0 < i → xs.getD (i - 1) 0 < xs.getD i 0)
instance (n : Int) (xs : List Int) (i : Nat) : Decidable (rsOk n xs i) := by unfold rsOk; infer_instance
def frOk (es : List (Int × Int)) (xs : List Int) (i : Nat) : Prop := ed1 es (xs.getD i 0) ∉ seenL es (xs.take i) ∧ ed2 es (xs.getD i 0) ∉ seenL es (xs.take i)
instance (es : List (Int × Int)) (xs : List Int) (i : Nat) : Decidable (frOk es xs i) := by unfold frOk; infer_instance
def MtU (es : List (Int × Int)) (xs : List Int) (k : Nat) : Prop := ∀ i, i < k → rsOk es.length xs i ∧ frOk es xs i
instance (es : List (Int × Int)) (xs : List Int) (k : Nat) : Decidable (MtU es xs k) := by unfold MtU; infer_instance
/-- a matching -/
abbrev Mtc (es : List (Int × Int)) (xs : List Int) : Prop := MtU es xs xs.length
theorem MtU.zero (es : List (Int × Int)) (xs : List Int) : MtU es xs 0 := fun i h => absurd h (Nat.not_lt_zero i)
theorem MtU.succ {es : List (Int × Int)} {xs : List Int} {k : Nat} (h : MtU es xs k) (h1 : rsOk es.length xs k) (h2 : frOk es xs k) : MtU es xs (k + 1) := by
  intro i hi
  rcases Nat.lt_succ_iff_lt_or_eq.1 hi with g | g
  · exact h i g
  · rw [g]; exact ⟨h1, h2⟩
theorem MtU.no {es : List (Int × Int)} {xs : List Int} {k i : Nat} (hi : i < k) (h : ¬ (rsOk es.length xs i ∧ frOk es xs i)) : ¬ MtU es xs k := fun g => h (g i hi)
end Go.Proofs.YtlfongfhbkefmaaGreat.Ai
namespace Go.Proofs.YtlfongfhbkefmaaGreat.Ai
open Go Go.RowKit Go.Shelf
set_option linter.unusedVariables false
set_option linter.unusedSimpArgs false
attribute [local go_sem] Oper.semAt_some
/-- a slice value that holds ints, in a block below n₀; or it is nil -/
def SlInts (n₀ : Nat) (W : World) (sv : Value) (zs : List Int) : Prop :=
  (∃ a c, sv = .slice a 0 c ∧ zs = []) ∨ ∃ b off cap, sv = .slice (some ⟨b, off, none⟩) zs.length cap ∧ b < n₀ ∧ ∀ j, j < zs.length → W.cell? ⟨b, off + j, none⟩ = some (.int .i64 (zs[j]?.getD 0))
theorem SlInts.below {n₀ : Nat} {A B : World} (h : Below n₀ A B) {sv : Value} {zs : List Int} : SlInts n₀ A sv zs → SlInts n₀ B sv zs
  | .inl e => .inl e
  | .inr ⟨b, off, cap, e, hb, hc⟩ => .inr ⟨b, off, cap, e, hb, fun j hj => (h.cell (p := ⟨b, off + j, none⟩) hb).trans (hc j hj)⟩
end Go.Proofs.YtlfongfhbkefmaaGreat.Ai
namespace Go.Proofs.YtlfongfhbkefmaaGreat.Ai
open Go
end Go.Proofs.YtlfongfhbkefmaaGreat.Ai
namespace Go.Proofs.YtlfongfhbkefmaaGreat.Ai
open Go Go.RowKit
set_option linter.unusedVariables false
set_option linter.unusedSimpArgs false
instance (n : Int) (ys : List Int) : Decidable (Rsg n ys) := by unfold Rsg; infer_instance
end Go.Proofs.YtlfongfhbkefmaaGreat.Ai
