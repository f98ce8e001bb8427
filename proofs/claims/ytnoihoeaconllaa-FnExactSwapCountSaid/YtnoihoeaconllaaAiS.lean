/- A block that a call of memory's own has laid comes into the abstract heap (adopt). No condition. -/
import Derived.Test.YtnoihoeaconllaaAiK
namespace Go.Proofs.Ytnoihoeaconllaa.Ai
open Go Go.RowKit
set_option linter.unusedVariables false

/-- nothing that lay has turned: the same heap -/
theorem HRel.below {P : Program} {μ : Mu} {H : AH} {w w' : World} (h : HRel P μ H w) (hb : Below w.heap.size w w') : HRel P μ H w' :=
  h.same hb.size fun o x L ho hl hL => hb.block _ (h.live_lt ho hl hL)
theorem Evo.below' {P : Program} {μ : Mu} {H : AH} {w w' : World} (h : HRel P μ H w) (hb : Below w.heap.size w w') : Evo μ H w μ H w' :=
  ⟨Mu.Le.refl _, Nat.le_refl _, fun _ _ => rfl, hb.os, hb.tape, hb.output, hb.size, fun b hlt _ => hb.block b hlt, fun o x L h1 h2 h3 => .inr ⟨o, x, L, h1, h2, h3, rfl⟩⟩

/-- a block that was laid behind all that lay -/
theorem HRel.adopt {P : Program} {μ : Mu} {H : AH} {w w' : World} (h : HRel P μ H w) (hb : Below w.heap.size w w') {g : Nat} {cur : Array Value} {t : TypeId} {vs : List Value} {ext : Nat} (hg : w.heap.size ≤ g) (hc : w'.heap[g]? = some (.cells cur t (0, 0)))
    (hsz : 0 < P.cellsOf t) (hl : vs.length ≤ ext) (he : ext ≤ cur.size) (hv : ∀ (i : Nat) (v : Value), vs[i]? = some v → ∃ cv, cur[i]? = some cv ∧ CRel μ v cv) :
    HRel P (μ.put H.length ⟨g, 0, ext, P.cellsOf t⟩) (H ++ [.cells vs t false]) w' ∧ Evo μ H w (μ.put H.length ⟨g, 0, ext, P.cellsOf t⟩) (H ++ [.cells vs t false]) w' := by
  have h' := h.below hb
  have hfree : μ H.length = none := h.dom _ (Nat.le_refl _)
  have hle : μ.Le (μ.put H.length ⟨g, 0, ext, P.cellsOf t⟩) := Mu.le_put hfree
  have hglt : g < w'.heap.size := (Array.getElem?_eq_some_iff.1 hc).1
  refine ⟨⟨?_, ?_, ?_, ?_⟩, ⟨hle, by simp, fun o ho => Mu.put_other _ _ _ (by omega), hb.os, hb.tape, hb.output, hb.size, fun b hlt _ => hb.block b hlt, ?_⟩⟩
  · intro i hi
    simp only [List.length_append, List.length_cons, List.length_nil] at hi
    rw [Mu.put_other _ _ _ (by omega)]; exact h.dom i (by omega)
  · intro i vs' t' ro L hi hL
    rw [getElem?_snoc] at hi
    split at hi
    · rename_i e
      simp only [Option.some.injEq, AObj.cells.injEq] at hi
      obtain ⟨rfl, rfl, rfl⟩ := hi
      subst e
      rw [Mu.put_same] at hL
      cases hL
      refine ⟨hglt, hsz, rfl, hl, ?_, fun _ => ⟨cur, hc, by simpa using he⟩⟩
      intro i v hv'
      obtain ⟨cv, g1, g2⟩ := hv i v hv'
      exact ⟨cv, by rw [cells_at hc]; simpa using g1, g2.mono hle⟩
    · rename_i e
      rw [Mu.put_other _ _ _ e] at hL
      obtain ⟨h2, h3, h4, h5, h6, h7⟩ := h'.cells_ i vs' t' ro L hi hL
      refine ⟨h2, h3, h4, h5, ?_, h7⟩
      intro j v hv'
      obtain ⟨cv, g1, g2⟩ := h6 j v hv'
      exact ⟨cv, g1, g2.mono hle⟩
  · intro i es L hi hL
    rw [getElem?_snoc] at hi
    split at hi
    · cases hi
    · rename_i e
      rw [Mu.put_other _ _ _ e] at hL
      obtain ⟨cs, clock, h2, h3⟩ := h'.maps_ i es L hi hL
      exact ⟨cs, clock, h2, all2_mono (fun a b hab => ⟨hab.1.mono hle, hab.2.mono hle⟩) h3⟩
  · intro i i' x x' L L' hne h1 h2 h3 h4 h5 h6
    have hx : x.live = true := by cases x <;> first | rfl | cases h3
    rw [getElem?_snoc] at h1 h2
    split at h1
    · rename_i e
      subst e
      rw [Mu.put_same] at h5
      cases h5
      rw [if_neg (fun e => hne e.symm)] at h2
      rw [Mu.put_other _ _ _ (fun e => hne e.symm)] at h6
      have g2 := h.live_lt h2 h4 h6
      show g ≠ L'.blk
      omega
    · rename_i e
      rw [Mu.put_other _ _ _ e] at h5
      split at h2
      · rename_i e'
        subst e'
        rw [Mu.put_same] at h6
        cases h6
        have g2 := h.live_lt h1 hx h5
        show L.blk ≠ g
        omega
      · rename_i e'
        rw [Mu.put_other _ _ _ e'] at h6
        exact h'.sep i i' x x' L L' hne h1 h2 h3 h4 h5 h6
  · intro i x L h1 h2 h3
    rw [getElem?_snoc] at h1
    split at h1
    · rename_i e
      subst e
      rw [Mu.put_same] at h3
      cases h3
      exact .inl hg
    · rename_i e
      rw [Mu.put_other _ _ _ e] at h3
      exact .inr ⟨i, x, L, h1, h2, h3, rfl⟩
end Go.Proofs.Ytnoihoeaconllaa.Ai
