/- Arguments of a row: ints, bools, slices of ints, as an abstract heap of objects that are only read. No condition. -/
import Derived.Test.YtnoihoeaconllaaAiK
import Derived.WalkKit
import Derived.ProofKit
import Derived.OpenShut
import Derived.ShutString
import Derived.ChangeOld
import Derived.Below
import Derived.SizedLaws
namespace Go.Proofs.Ytnoihoeaconllaa.Ai
open Go Go.RowKit
set_option linter.unusedVariables false
set_option linter.unusedSimpArgs false

def I64 (x : Int) : Prop := -9223372036854775808 ≤ x ∧ x ≤ 9223372036854775807

def IsRow (k : IntKind) (w : World) (a : Option Addr) (len cap : Nat) (zs : List Int) : Prop :=
  (a = none ∧ len = 0 ∧ cap = 0 ∧ zs = []) ∨
  ∃ x, a = some x ∧ len ≤ cap ∧ cap ≤ maxLen ∧ zs.length = cap ∧ (∀ i, i < zs.length → w.cell? (x.add i) = some (.int k (zs.getD i 0))) ∧ ∀ n ∈ zs, (Lit.int k n).wf = true

/-- an abstract heap of things that are only read -/
structure Args (P : Program) (μ : Mu) (H : AH) (W : World) : Prop where
  rel : HRel P μ H W
  ro : ∀ (o : Nat) (x : AObj), H[o]? = some x → x.wr = false

theorem Args.nil0 (P : Program) (W : World) : Args P (fun _ => none) [] W := ⟨⟨fun _ _ => rfl, fun _ _ _ _ _ h => by simp at h, fun _ _ _ h => by simp at h, fun _ _ _ _ _ _ _ h => by simp at h⟩, fun _ _ h => by simp at h⟩

theorem Args.addInts {P : Program} {t e : TypeId} {W : World} {base : Nat} {a : Option Addr} {len cap : Nat} {zs : List Int} {μ : Mu} {H : AH} (h : Args P μ H W) (hc : P.cellsOf e = 1) (hu : P.underlying t = some (.slice e))
    (hok : Value.okWide P W .any base t (.slice a len cap)) (hrow : IsRow .i64 W a len cap zs) :
    ∃ (μ' : Mu) (obj : AObj) (va : Value) (xs : List Int), Args P μ' (H ++ [obj]) W ∧ μ.Le μ' ∧ TRel μ' va (.slice a len cap) ∧ Row e (H ++ [obj]) va xs ∧ ∀ y ∈ xs, I64 y := by
  rcases hrow with ⟨rfl, rfl, rfl, rfl⟩ | ⟨x, rfl, hl, hm, hz, hcell, hwf⟩
  · refine ⟨μ, .dead, .slice none 0 0, [], ⟨h.rel.phantom .dead, ?_⟩, Mu.Le.refl _, ⟨rfl, rfl, rfl⟩, .inl ⟨rfl, rfl⟩, by simp⟩
    intro o y hy
    rw [getElem?_snoc] at hy
    split at hy
    · cases hy; rfl
    · exact h.ro o y hy
  · simp only [Value.okWide, hu, Cell.okWide, Cell.ok] at hok
    obtain ⟨_, _, _, hspot, row, cells, hsh, _⟩ := hok
    have hblk : x.block < W.heap.size := by
      unfold World.shape? at hsh
      cases hb : W.heap[x.block]? with
      | none => rw [hb] at hsh; cases hsh
      | some o => exact (Array.getElem?_eq_some_iff.1 hb).1
    have hx : ∀ i, x.add i = ⟨x.block, x.off + i, none⟩ := by intro i; cases x; simp_all [Addr.add]
    have hfree : μ H.length = none := h.rel.dom _ (Nat.le_refl _)
    have hle := Mu.le_put (L := ⟨x.block, x.off, cap, 1⟩) hfree
    have hro : ∀ (o : Nat) (y : AObj), (H ++ [AObj.cells (ints zs) e true])[o]? = some y → y.wr = false := by
      intro o y hy
      rw [getElem?_snoc] at hy
      split at hy
      · cases hy; rfl
      · exact h.ro o y hy
    refine ⟨μ.put H.length ⟨x.block, x.off, cap, 1⟩, .cells (ints zs) e true, .slice (some ⟨H.length, 0, none⟩) len len, zs.take len, ⟨?_, hro⟩, hle, ?_, ?_, ?_⟩
    · refine ⟨?_, ?_, ?_, ?_⟩
      · intro o ho
        simp only [List.length_append, List.length_cons, List.length_nil] at ho
        rw [Mu.put_other _ _ _ (by omega)]; exact h.rel.dom o (by omega)
      · intro o vs t' ro L ho hL
        rw [getElem?_snoc] at ho
        split at ho
        · rename_i eo
          subst eo
          simp only [Option.some.injEq, AObj.cells.injEq] at ho
          obtain ⟨rfl, rfl, rfl⟩ := ho
          rw [Mu.put_same] at hL
          cases hL
          refine ⟨hblk, by simp, hc.symm, by rw [ints_len]; show zs.length ≤ cap; omega, ?_, fun h => by cases h⟩
          intro i v hv
          have hi : i < zs.length := by have := (List.getElem?_eq_some_iff.1 hv).1; rwa [ints_len] at this
          rw [ints_at zs hi] at hv
          cases hv
          refine ⟨_, ?_, rfl⟩
          rw [← hx]; exact hcell i hi
        · rename_i eo
          rw [Mu.put_other _ _ _ eo] at hL
          obtain ⟨h2, h3, h4, h5, h6, h7⟩ := h.rel.cells_ o vs t' ro L ho hL
          refine ⟨h2, h3, h4, h5, ?_, h7⟩
          intro i v hv
          obtain ⟨cv, g1, g2⟩ := h6 i v hv
          exact ⟨cv, g1, g2.mono hle⟩
      · intro o es L ho hL
        rw [getElem?_snoc] at ho
        split at ho
        · cases ho
        · have := h.ro o _ ho
          cases this
      · intro o o' y y' L L' hne ho ho' hw
        have := hro o y ho
        rw [this] at hw; cases hw
    · refine ⟨rfl, rfl, x, cap, rfl, hl, .inr ⟨⟨x.block, x.off, cap, 1⟩, Mu.put_same _ _ _, ?_, by simp⟩⟩
      have := hx 0
      cases x
      simp_all
    · refine .inr ⟨H.length, 0, ints zs, true, ?_, at_new .., ?_, ?_⟩
      · have : (zs.take len).length = len := by simp; omega
        rw [this]
      · rw [ints_len]; simp; omega
      · have : (zs.take len).length = len := by simp; omega
        rw [this, List.drop_zero]
        simp [ints, List.map_take]
    · intro y hy
      have := hwf y (List.mem_of_mem_take hy)
      simp [Lit.wf, IntKind.min, IntKind.max, IntKind.signed, IntKind.bits] at this
      exact ⟨by omega, by omega⟩

/-- the number of an int argument -/
theorem Args.wr {P : Program} {μ : Mu} {H : AH} {W : World} (h : Args P μ H W) : ∀ (o : Nat) (x : AObj) (L : Loc), H[o]? = some x → x.wr = true → μ o = some L → W.heap.size ≤ L.blk := fun o x L ho hw => by
  rw [h.ro o x ho] at hw; cases hw
end Go.Proofs.Ytnoihoeaconllaa.Ai
