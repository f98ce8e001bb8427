/- The abstract heap's moves: a new object, one that goes, cells written, an object that another takes the place of. No condition. -/
import Derived.Test.YtnoihoeaconllaaAi0
import Derived.Laws.CopyRow
namespace Go.Proofs.Ytnoihoeaconllaa.Ai
open Go Go.RowKit
set_option linter.unusedVariables false

def Mu.put (μ : Mu) (o : Nat) (L : Loc) : Mu := fun i => if i = o then some L else μ i

theorem Mu.put_same (μ : Mu) (o : Nat) (L : Loc) : μ.put o L o = some L := by simp [Mu.put]
theorem Mu.put_other (μ : Mu) (o : Nat) (L : Loc) {i : Nat} (h : i ≠ o) : μ.put o L i = μ i := by simp [Mu.put, h]
theorem Mu.le_put {μ : Mu} {o : Nat} {L : Loc} (h : μ o = none) : μ.Le (μ.put o L) := by
  intro i L' hi
  by_cases e : i = o
  · subst e; rw [h] at hi; cases hi
  · rw [Mu.put_other _ _ _ e]; exact hi

theorem cells_at {cur : Array Value} {t : TypeId} {fr : Nat × Nat} {w : World} {b i : Nat} (h : w.heap[b]? = some (.cells cur t fr)) : w.cell? ⟨b, i, none⟩ = cur[i]? := by
  simp [World.cell?, h]

theorem HRel.live_lt {P : Program} {μ : Mu} {H : AH} {w : World} (h : HRel P μ H w) {o : Nat} {x : AObj} (ho : H[o]? = some x) (hl : x.live = true) {L : Loc} (hL : μ o = some L) : L.blk < w.heap.size := by
  cases x with
  | cells vs t ro => exact (h.cells_ o vs t ro L ho hL).1
  | mp es =>
    obtain ⟨cs, clock, h2, _⟩ := h.maps_ o es L ho hL
    exact (Array.getElem?_eq_some_iff.1 h2).1
  | dead => cases hl

theorem getElem?_snoc {α : Type} (l : List α) (x : α) (i : Nat) : (l ++ [x])[i]? = if i = l.length then some x else l[i]? := by
  by_cases h : i < l.length
  · rw [List.getElem?_append_left h, if_neg (by omega)]
  · by_cases e : i = l.length
    · subst e; simp
    · rw [if_neg e, List.getElem?_eq_none (by simp; omega), List.getElem?_eq_none (by omega)]

theorem getElem?_set' {α : Type} (l : List α) (o i : Nat) (x : α) : (l.set o x)[i]? = if i = o ∧ o < l.length then some x else l[i]? := by
  rw [List.getElem?_set]
  by_cases h : o = i
  · subst h
    by_cases hl : o < l.length
    · simp [hl]
    · simp [hl]
  · rw [if_neg h, if_neg (fun e => h e.1.symm)]

/-- An object that nobody writes or reads any more. -/
theorem HRel.kill {P : Program} {μ : Mu} {H : AH} {w : World} (h : HRel P μ H w) (o : Nat) : HRel P μ (H.set o .dead) w := by
  have key : ∀ (i : Nat) (x : AObj), (H.set o .dead)[i]? = some x → x.live = true → i ≠ o ∧ H[i]? = some x := by
    intro i x hi hl
    rw [getElem?_set'] at hi
    split at hi
    · cases hi; cases hl
    · rename_i hn
      refine ⟨?_, hi⟩
      intro e
      subst e
      exact hn ⟨rfl, (List.getElem?_eq_some_iff.1 hi).1⟩
  refine ⟨fun i hi => h.dom i (by simpa using hi), ?_, ?_, ?_⟩
  · intro i vs t ro L hi; exact h.cells_ i vs t ro L (key i _ hi rfl).2
  · intro i es L hi; exact h.maps_ i es L (key i _ hi rfl).2
  · intro i i' x x' L L' hne h1 h2 h3 h4
    have hx : x.live = true := by cases x <;> first | rfl | cases h3
    exact h.sep i i' x x' L L' hne (key i x h1 hx).2 (key i' x' h2 h4).2 h3 h4

theorem Evo.kill {μ : Mu} {H : AH} {w : World} (o : Nat) : Evo μ H w μ (H.set o .dead) w := by
  refine ⟨Mu.Le.refl _, by simp, fun _ _ => rfl, rfl, rfl, rfl, Nat.le_refl _, fun _ _ _ => rfl, ?_⟩
  intro i x L h1 h2 h3
  rw [getElem?_set'] at h1
  split at h1
  · cases h1; cases h2
  · exact .inr ⟨i, x, L, h1, h2, h3, rfl⟩

/-- A new object in a new block. -/
theorem HRel.alloc {P : Program} {μ : Mu} {H : AH} {w : World} (h : HRel P μ H w) (t : TypeId) (vs : List Value) (cur : Array Value) (ext : Nat)
    (hsz : 0 < P.cellsOf t) (hl : vs.length ≤ ext) (he : ext ≤ cur.size) (hc : ∀ (i : Nat) (v : Value), vs[i]? = some v → ∃ cv, cur[i]? = some cv ∧ CRel μ v cv) :
    HRel P (μ.put H.length ⟨w.heap.size, 0, ext, P.cellsOf t⟩) (H ++ [.cells vs t false]) (w.alloc (.cells cur t)) ∧
    Evo μ H w (μ.put H.length ⟨w.heap.size, 0, ext, P.cellsOf t⟩) (H ++ [.cells vs t false]) (w.alloc (.cells cur t)) := by
  have hfree : μ H.length = none := h.dom _ (Nat.le_refl _)
  have hle : μ.Le (μ.put H.length ⟨w.heap.size, 0, ext, P.cellsOf t⟩) := Mu.le_put hfree
  have hnew : (w.alloc (.cells cur t)).heap[w.heap.size]? = some (.cells cur t (0, 0)) := by show (w.heap.push _)[w.heap.size]? = _; simp
  have hold : ∀ b, b < w.heap.size → (w.alloc (.cells cur t)).heap[b]? = w.heap[b]? := fun b hb => Below.heap_alloc w _ b hb
  refine ⟨⟨?_, ?_, ?_, ?_⟩, ⟨hle, by simp, fun o ho => Mu.put_other _ _ _ (by omega), rfl, rfl, rfl, by simp, fun b hb _ => hold b hb, ?_⟩⟩
  · intro i hi
    simp only [List.length_append, List.length_cons, List.length_nil] at hi
    rw [Mu.put_other _ _ _ (by omega)]; exact h.dom i (by omega)
  · intro i vs' t' ro L hi hL
    rw [getElem?_snoc] at hi
    split at hi
    · rename_i e
      simp only [Option.some.injEq, AObj.cells.injEq] at hi
      obtain ⟨rfl, rfl, rfl⟩ := hi
      subst e
      rw [Mu.put_same] at hL
      cases hL
      refine ⟨by simp, hsz, rfl, hl, ?_, fun _ => ⟨cur, hnew, by simpa using he⟩⟩
      intro i v hv
      obtain ⟨cv, g1, g2⟩ := hc i v hv
      exact ⟨cv, by rw [cells_at hnew]; simpa using g1, g2.mono hle⟩
    · rename_i e
      rw [Mu.put_other _ _ _ e] at hL
      obtain ⟨h2, h3, h4, h5, h6, h7⟩ := h.cells_ i vs' t' ro L hi hL
      refine ⟨by simp; omega, h3, h4, h5, ?_, ?_⟩
      · intro j v hv
        obtain ⟨cv, g1, g2⟩ := h6 j v hv
        exact ⟨cv, by rw [cell_of_block (a := ⟨L.blk, L.base + j, none⟩) (hold _ h2)]; exact g1, g2.mono hle⟩
      · intro hr
        rw [hold _ h2]; exact h7 hr
  · intro i es L hi hL
    rw [getElem?_snoc] at hi
    split at hi
    · cases hi
    · rename_i e
      rw [Mu.put_other _ _ _ e] at hL
      obtain ⟨cs, clock, h2, h3⟩ := h.maps_ i es L hi hL
      refine ⟨cs, clock, ?_, all2_mono (fun a b hab => ⟨hab.1.mono hle, hab.2.mono hle⟩) h3⟩
      rw [hold _ (Array.getElem?_eq_some_iff.1 h2).1]; exact h2
  · intro i i' x x' L L' hne h1 h2 h3 h4 h5 h6
    have hx : x.live = true := by cases x <;> first | rfl | cases h3
    rw [getElem?_snoc] at h1 h2
    split at h1
    · rename_i e
      subst e
      rw [Mu.put_same] at h5
      cases h5
      rw [if_neg (fun e => hne e.symm)] at h2
      rw [Mu.put_other _ _ _ (fun e => hne e.symm)] at h6
      have g2 := h.live_lt h2 h4 h6
      show w.heap.size ≠ L'.blk
      omega
    · rename_i e
      rw [Mu.put_other _ _ _ e] at h5
      split at h2
      · rename_i e'
        subst e'
        rw [Mu.put_same] at h6
        cases h6
        have g2 := h.live_lt h1 hx h5
        show L.blk ≠ w.heap.size
        omega
      · rename_i e'
        rw [Mu.put_other _ _ _ e'] at h6
        exact h.sep i i' x x' L L' hne h1 h2 h3 h4 h5 h6
  · intro i x L h1 h2 h3
    rw [getElem?_snoc] at h1
    split at h1
    · rename_i e
      subst e
      rw [Mu.put_same] at h3
      cases h3
      exact .inl (Nat.le_refl _)
    · rename_i e
      rw [Mu.put_other _ _ _ e] at h3
      exact .inr ⟨i, x, L, h1, h2, h3, rfl⟩

/-- A writable object's cells are written anew. -/
theorem HRel.rewrite {P : Program} {μ : Mu} {H : AH} {w : World} (h : HRel P μ H w) {o : Nat} {vs : List Value} {t : TypeId} (ho : H[o]? = some (.cells vs t false))
    {L : Loc} (hL : μ o = some L) {cur : Array Value} (hb : w.heap[L.blk]? = some (.cells cur t (0, 0))) (cur' : Array Value) (hs : cur'.size = cur.size) (vs' : List Value) (hl : vs'.length ≤ L.ext)
    (hc : ∀ (i : Nat) (v : Value), vs'[i]? = some v → ∃ cv, cur'[L.base + i]? = some cv ∧ CRel μ v cv) :
    HRel P μ (H.set o (.cells vs' t false)) (w.setRow L.blk cur') ∧ Evo μ H w μ (H.set o (.cells vs' t false)) (w.setRow L.blk cur') := by
  have hlt : o < H.length := (List.getElem?_eq_some_iff.1 ho).1
  have hnew : (w.setRow L.blk cur').heap[L.blk]? = some (.cells cur' t (0, 0)) := setRow_heap w L.blk cur cur' t (0, 0) hb
  have hold : ∀ b, b ≠ L.blk → (w.setRow L.blk cur').heap[b]? = w.heap[b]? := fun b hb => setRow_other w L.blk b cur' hb
  have hsize : (w.setRow L.blk cur').heap.size = w.heap.size := by simp [World.setRow]
  obtain ⟨L0, f1, f2, f3, f4, f5, f6, f7⟩ := h.cells ho hL
  rw [hL] at f1; cases f1
  obtain ⟨cur0, k1, k2⟩ := f7 rfl
  rw [hb] at k1; cases k1
  refine ⟨⟨?_, ?_, ?_, ?_⟩, ⟨Mu.Le.refl _, by simp, fun _ _ => rfl, rfl, rfl, rfl, by rw [hsize]; exact Nat.le_refl _, ?_, ?_⟩⟩
  · intro i hi; exact h.dom i (by simpa using hi)
  · intro i ws t' ro L1 hi h1
    rw [getElem?_set'] at hi
    split at hi
    · rename_i e
      obtain ⟨rfl, _⟩ := e
      simp only [Option.some.injEq, AObj.cells.injEq] at hi
      obtain ⟨rfl, rfl, rfl⟩ := hi
      rw [hL] at h1; cases h1
      refine ⟨by rw [hsize]; exact f2, f3, f4, hl, ?_, fun _ => ⟨cur', hnew, by rw [hs]; exact k2⟩⟩
      intro j v hv
      obtain ⟨cv, g1, g2⟩ := hc j v hv
      exact ⟨cv, by rw [cells_at hnew]; exact g1, g2⟩
    · rename_i e
      have hne : i ≠ o := fun x => e ⟨x, hlt⟩
      obtain ⟨h2, h3, h4, h5, h6, h7⟩ := h.cells_ i ws t' ro L1 hi h1
      have hbk : L.blk ≠ L1.blk := h.sep o i _ _ L L1 (Ne.symm hne) ho hi rfl rfl hL h1
      refine ⟨by rw [hsize]; exact h2, h3, h4, h5, ?_, ?_⟩
      · intro j v hv
        obtain ⟨cv, g1, g2⟩ := h6 j v hv
        exact ⟨cv, by rw [cell_of_block (a := ⟨L1.blk, L1.base + j, none⟩) (hold _ (Ne.symm hbk))]; exact g1, g2⟩
      · intro hr; rw [hold _ (Ne.symm hbk)]; exact h7 hr
  · intro i es L1 hi h1
    rw [getElem?_set'] at hi
    split at hi
    · cases hi
    · rename_i e
      have hne : i ≠ o := fun x => e ⟨x, hlt⟩
      obtain ⟨cs, clock, h2, h3⟩ := h.maps_ i es L1 hi h1
      have hbk : L.blk ≠ L1.blk := h.sep o i _ _ L L1 (Ne.symm hne) ho hi rfl rfl hL h1
      exact ⟨cs, clock, by rw [hold _ (Ne.symm hbk)]; exact h2, h3⟩
  · have key : ∀ (i : Nat) (x : AObj), (H.set o (.cells vs' t false))[i]? = some x → ∃ y, H[i]? = some y ∧ y.live = x.live ∧ y.wr = x.wr := by
      intro i x hi
      rw [getElem?_set'] at hi
      split at hi
      · rename_i e
        obtain ⟨rfl, _⟩ := e
        cases hi
        exact ⟨_, ho, rfl, rfl⟩
      · exact ⟨x, hi, rfl, rfl⟩
    intro i i' x x' L1 L2 hne h1 h2 h3 h4 h5 h6
    obtain ⟨y, a1, a2, a3⟩ := key i x h1
    obtain ⟨y', b1, b2, b3⟩ := key i' x' h2
    exact h.sep i i' y y' L1 L2 hne a1 b1 (a3.trans h3) (b2.trans h4) h5 h6
  · intro b hb' hn
    exact hold b (fun e => hn o _ L ho rfl hL e.symm)
  · intro i x L1 h1 h2 h3
    rw [getElem?_set'] at h1
    split at h1
    · rename_i e
      obtain ⟨rfl, _⟩ := e
      rw [hL] at h3; cases h3
      exact .inr ⟨i, _, L, ho, rfl, hL, rfl⟩
    · exact .inr ⟨i, x, L1, h1, h2, h3, rfl⟩

/-- A writable object goes, and a new one has its cells from one of them on. -/
theorem HRel.move {P : Program} {μ : Mu} {H : AH} {w : World} (h : HRel P μ H w) {o : Nat} {vs : List Value} {t : TypeId} (ho : H[o]? = some (.cells vs t false))
    {L : Loc} (hL : μ o = some L) (k : Nat) (hk : k ≤ vs.length) :
    HRel P (μ.put H.length ⟨L.blk, L.base + k, L.ext - k, L.sz⟩) (H.set o .dead ++ [.cells (vs.drop k) t false]) w ∧
    Evo μ H w (μ.put H.length ⟨L.blk, L.base + k, L.ext - k, L.sz⟩) (H.set o .dead ++ [.cells (vs.drop k) t false]) w := by
  have hlt : o < H.length := (List.getElem?_eq_some_iff.1 ho).1
  have hfree : μ H.length = none := h.dom _ (Nat.le_refl _)
  have hle : μ.Le (μ.put H.length ⟨L.blk, L.base + k, L.ext - k, L.sz⟩) := Mu.le_put hfree
  obtain ⟨L0, f1, f2, f3, f4, f5, f6, f7⟩ := h.cells ho hL
  rw [hL] at f1; cases f1
  obtain ⟨cur, k1, k2⟩ := f7 rfl
  have key : ∀ (i : Nat) (x : AObj), (H.set o .dead ++ [.cells (vs.drop k) t false])[i]? = some x → x.live = true → (i = H.length ∧ x = .cells (vs.drop k) t false) ∨ (i ≠ H.length ∧ i ≠ o ∧ H[i]? = some x) := by
    intro i x hi hl
    rw [getElem?_snoc, List.length_set] at hi
    split at hi
    · rename_i e; cases hi; exact .inl ⟨e, rfl⟩
    · rename_i e
      rw [getElem?_set'] at hi
      split at hi
      · cases hi; cases hl
      · rename_i e'; exact .inr ⟨e, fun x => e' ⟨x, hlt⟩, hi⟩
  refine ⟨⟨?_, ?_, ?_, ?_⟩, ⟨hle, by simp, fun o ho => Mu.put_other _ _ _ (by omega), rfl, rfl, rfl, Nat.le_refl _, fun _ _ _ => rfl, ?_⟩⟩
  · intro i hi
    simp only [List.length_append, List.length_cons, List.length_nil, List.length_set] at hi
    rw [Mu.put_other _ _ _ (by omega)]; exact h.dom i (by omega)
  · intro i ws t' ro L1 hi h1
    rcases key i _ hi rfl with ⟨e, hx⟩ | ⟨e, e', hx⟩
    · simp only [AObj.cells.injEq] at hx
      obtain ⟨rfl, rfl, rfl⟩ := hx
      subst e
      rw [Mu.put_same] at h1
      cases h1
      refine ⟨f2, f3, f4, by simp only [List.length_drop]; omega, ?_, fun _ => ⟨cur, k1, by simp only; omega⟩⟩
      intro j v hv
      rw [List.getElem?_drop] at hv
      obtain ⟨cv, g1, g2⟩ := f6 _ v hv
      exact ⟨cv, by simpa [Nat.add_assoc] using g1, g2.mono hle⟩
    · rw [Mu.put_other _ _ _ e] at h1
      obtain ⟨h2, h3, h4, h5, h6, h7⟩ := h.cells_ i ws t' ro L1 hx h1
      refine ⟨h2, h3, h4, h5, ?_, h7⟩
      intro j v hv
      obtain ⟨cv, g1, g2⟩ := h6 j v hv
      exact ⟨cv, g1, g2.mono hle⟩
  · intro i es L1 hi h1
    rcases key i _ hi rfl with ⟨e, hx⟩ | ⟨e, e', hx⟩
    · cases hx
    · rw [Mu.put_other _ _ _ e] at h1
      obtain ⟨cs, clock, h2, h3⟩ := h.maps_ i es L1 hx h1
      exact ⟨cs, clock, h2, all2_mono (fun a b hab => ⟨hab.1.mono hle, hab.2.mono hle⟩) h3⟩
  · intro i i' x x' L1 L2 hne h1 h2 h3 h4 h5 h6
    have hx : x.live = true := by cases x <;> first | rfl | cases h3
    rcases key i x h1 hx with ⟨e, gx⟩ | ⟨e, e', gx⟩ <;> rcases key i' x' h2 h4 with ⟨d, gy⟩ | ⟨d, d', gy⟩
    · exact absurd (e.trans d.symm) hne
    · subst e
      rw [Mu.put_same] at h5; cases h5
      rw [Mu.put_other _ _ _ d] at h6
      exact h.sep o i' _ x' L L2 (Ne.symm d') ho gy rfl h4 hL h6
    · subst d
      rw [Mu.put_same] at h6; cases h6
      rw [Mu.put_other _ _ _ e] at h5
      exact h.sep i o x _ L1 L e' gx ho h3 rfl h5 hL
    · rw [Mu.put_other _ _ _ e] at h5
      rw [Mu.put_other _ _ _ d] at h6
      exact h.sep i i' x x' L1 L2 hne gx gy h3 h4 h5 h6
  · intro i x L1 h1 h2 h3
    have hx : x.live = true := by cases x <;> first | rfl | cases h2
    rcases key i x h1 hx with ⟨e, gx⟩ | ⟨e, e', gx⟩
    · subst e
      rw [Mu.put_same] at h3; cases h3
      exact .inr ⟨o, _, L, ho, rfl, hL, rfl⟩
    · rw [Mu.put_other _ _ _ e] at h3
      exact .inr ⟨i, x, L1, gx, h2, h3, rfl⟩

/-- an object yet to come -/
theorem HRel.phantom {P : Program} {μ : Mu} {H : AH} {w : World} (h : HRel P μ H w) (obj : AObj) : HRel P μ (H ++ [obj]) w := by
  have hn : μ H.length = none := h.dom _ (Nat.le_refl _)
  have key : ∀ {i : Nat} {x : AObj} {L : Loc}, (H ++ [obj])[i]? = some x → μ i = some L → H[i]? = some x := by
    intro i x L hi hL
    rw [getElem?_snoc] at hi
    split at hi
    · rename_i e; subst e; rw [hn] at hL; cases hL
    · exact hi
  refine ⟨fun i hi => h.dom i (by simp at hi; omega), fun i vs t ro L hi hL => h.cells_ i vs t ro L (key hi hL) hL, fun i es L hi hL => h.maps_ i es L (key hi hL) hL, ?_⟩
  intro i i' x x' L L' hne h1 h2 h3 h4 h5 h6
  exact h.sep i i' x x' L L' hne (key h1 h5) (key h2 h6) h3 h4 h5 h6

theorem Evo.phantom {P : Program} {μ0 μ : Mu} {H0 H : AH} {w0 w : World} (h : Evo μ0 H0 w0 μ H w) (hH : HRel P μ H w) (obj : AObj) : Evo μ0 H0 w0 μ (H ++ [obj]) w := by
  refine ⟨h.le, by have := h.len; simp; omega, h.old, h.os, h.tape, h.output, h.size, h.frame, ?_⟩
  intro o x L h1 h2 h3
  rw [getElem?_snoc] at h1
  split at h1
  · rename_i e; subst e; rw [hH.dom _ (Nat.le_refl _)] at h3; cases h3
  · exact h.own o x L h1 h2 h3

end Go.Proofs.Ytnoihoeaconllaa.Ai
