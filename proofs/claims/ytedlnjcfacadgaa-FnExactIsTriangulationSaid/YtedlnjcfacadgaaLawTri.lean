/- The row of FnExactIsTriangulation. -/
import Derived.Test.YtedlnjcfacadgaaRows
import Derived.Test.YtedlnjcfacadgaaLTri
import Derived.WalkKit
import Derived.ProofKit
import Derived.OpenShut
import Derived.ShutString
import Derived.ChangeOld
import Derived.Below
import Derived.SizedLaws
namespace Go.Proofs.Ytedlnjcfacadgaa.fnExactIsTriangulation
open Go Go.ChangeShapes Go.WideShapes Go.ChangeAt Go.RowKit Go.Proofs.Ytedlnjcfacadgaa.Ai
open Go.ChangeMaps (open_string shut_string)
set_option linter.unusedVariables false
theorem own : ownKnob Try.prog.godebug = none := by kernel_rfl
theorem laidOut : laidOutB Try.prog = true := by kernel_rfl
def IsRow (k : IntKind) (w : World) (a : Option Addr) (len cap : Nat) (zs : List Int) : Prop :=
  (a = none ∧ len = 0 ∧ cap = 0 ∧ zs = []) ∨
  ∃ x, a = some x ∧ len ≤ cap ∧ cap ≤ maxLen ∧ zs.length = cap ∧ (∀ i, i < zs.length → w.cell? (x.add i) = some (.int k (zs.getD i 0))) ∧ ∀ n ∈ zs, (Lit.int k n).wf = true
theorem row_in {P : Program} {t e : TypeId} {W : World} {base : Nat} {a : Option Addr} {len cap : Nat} {zs : List Int} (hc : P.cellsOf e = 1) (hu : P.underlying t = some (.slice e)) (hok : Value.okWide P W .any base t (.slice a len cap)) (hrow : IsRow .i64 W a len cap zs) :
    ∃ (μ : Mu) (va : Value) (xs : List Int), HRel P μ [.cells (ints zs) e true] W ∧ TRel μ va (.slice a len cap) ∧ Row e [.cells (ints zs) e true] va xs ∧ ∀ y ∈ xs, I64 y := by
  rcases hrow with ⟨rfl, rfl, rfl, rfl⟩ | ⟨x, rfl, hl, hm, hz, hcell, hwf⟩
  · refine ⟨fun _ => none, .slice none 0 0, [], ⟨fun _ _ => rfl, ?_, ?_, ?_⟩, ⟨rfl, rfl, rfl⟩, .inl ⟨rfl, rfl⟩, by simp⟩
    · intro o vs t' ro L _ h; cases h
    · intro o es L _ h; cases h
    · intro o o' y y' L L' _ _ _ _ _ h; cases h
  · simp only [Value.okWide, hu, Cell.okWide, Cell.ok] at hok
    obtain ⟨_, _, _, hspot, row, cells, hsh, _⟩ := hok
    have hblk : x.block < W.heap.size := by
      unfold World.shape? at hsh
      cases hb : W.heap[x.block]? with
      | none => rw [hb] at hsh; cases hsh
      | some o => exact (Array.getElem?_eq_some_iff.1 hb).1
    have hx : ∀ i, x.add i = ⟨x.block, x.off + i, none⟩ := by intro i; cases x; simp_all [Addr.add]
    refine ⟨fun o => if o = 0 then some ⟨x.block, x.off, cap, 1⟩ else none, .slice (some ⟨0, 0, none⟩) len len, zs.take len, ?_, ?_, ?_, ?_⟩
    · refine ⟨fun o ho => by simp at ho; simp; omega, ?_, ?_, ?_⟩
      · intro o vs t' ro L ho hL
        cases o with
        | succ o => simp at ho
        | zero =>
          simp only [List.getElem?_cons_zero, Option.some.injEq, AObj.cells.injEq] at ho
          obtain ⟨rfl, rfl, rfl⟩ := ho
          simp only [if_true, Option.some.injEq] at hL
          subst hL
          refine ⟨hblk, by simp, hc.symm, by rw [ints_len]; show zs.length ≤ cap; omega, ?_, fun h => by cases h⟩
          intro i v hv
          have hi : i < zs.length := by have := (List.getElem?_eq_some_iff.1 hv).1; rwa [ints_len] at this
          rw [Go.Proofs.Ytedlnjcfacadgaa.Ai.ints_at zs hi] at hv
          cases hv
          refine ⟨_, ?_, rfl⟩
          rw [← hx]; exact hcell i hi
      · intro o es L ho
        cases o with
        | succ o => simp at ho
        | zero => simp at ho
      · intro o o' y y' L L' hne ho ho' hw
        cases o with
        | succ o => simp at ho
        | zero => simp at ho; subst ho; cases hw
    · refine ⟨rfl, rfl, ⟨x.block, x.off, cap, 1⟩, x, cap, by simp, rfl, hl, ?_⟩
      refine .inr ⟨?_, by simp⟩
      have := hx 0
      cases x
      simp_all
    · refine .inr ⟨0, 0, ints zs, true, ?_, rfl, ?_, ?_⟩
      · have : (zs.take len).length = len := by simp; omega
        rw [this]
      · rw [ints_len]; simp; omega
      · have : (zs.take len).length = len := by simp; omega
        rw [this, List.drop_zero]
        simp [ints, List.map_take]
    · intro y hy
      have := hwf y (List.mem_of_mem_take hy)
      simp [Lit.wf, IntKind.min, IntKind.max, IntKind.signed, IntKind.bits] at this
      exact ⟨by omega, by omega⟩
set_option maxRecDepth 100000 in
theorem lifted (os : Os) (started : os.Started) (H : Type) (enc : TypeId × Value → H) :
    ReturnsInHanded {} Try.checked os 8 .any (Rows.fnExactIsTriangulationSpec.pre6 enc Try.prog Try.f8 Rows.fnExactIsTriangulationRow.domain false) (Rows.fnExactIsTriangulationSpec.post enc Try.prog Try.f8 false true false false) := by
  refine returnsInHanded_of_change_sized (C := Try.checked) own started (by kernel_rfl) Try.func8
    (ChangeSpec.witness6 (enc := enc) (C := Try.checked) false ⟨#[], #[.int .i64 0, .slice none 0 0], []⟩ 8 (by kernel_rfl) (by kernel_rfl) (by kernel_rfl) (by kernel_rfl)) ?_
  intro W base args ds gs before hval0 hW hcnd hsz0 _
  have hsz : (DataW.weightsEach Try.prog (Try.f8.params.toList ++ Rows.fnExactIsTriangulationSpec.plain.varTypes Try.prog) (ds ++ gs)).all (· ≤ reachBytes) = true := hsz0
  have hval : ∀ (j : Nat) t v, Try.f8.params[j]? = some t → args[j]? = some v → Value.okWide Try.prog W .any base t v := hval0
  have hW' := hW
  obtain ⟨p, q, hA0, hV, rfl, hfz, hnd⟩ := hW
  have hA : DataW.TrodAll enc Try.prog W 0 (fun _ => true) true Try.f8.params.toList args.toList ds p := hA0
  rw [Try.params8] at hA hval hsz
  obtain ⟨v0, vs0, d0, ds0, p0, q0, hargs, rfl, rfl, h0, r0⟩ := trodAll_cons hA
  obtain ⟨v1, vs1, d1, ds1, p1, q1, rfl, rfl, rfl, h1, r1⟩ := trodAll_cons r0
  obtain ⟨rfl, rfl, rfl⟩ := trodAll_nil r1
  obtain rfl : args = #[v0, v1] := by cases args; simp_all
  obtain ⟨rfl, rfl⟩ := trodVars_none hV
  obtain ⟨a0, rfl, rfl, rfl, w0⟩ := open_int Try.underlying3 (hval 0 3 v0 rfl rfl) h0
  have ok1 := hval 1 25 v1 rfl rfl
  obtain ⟨a1, len1, cap1, rfl⟩ := okWide_slice Try.underlying25 ok1
  have k1 := h1
  have lt1 : ∀ x ∈ p1, x.block < W.heap.size := by obtain ⟨m, hm⟩ := k1; exact DataW.trod_lt m _ _ _ hm
  obtain ⟨z1, w1⟩ : ∃ zs, IsRow .i64 W a1 len1 cap1 zs := by
    obtain ⟨fuel, hf⟩ := h1
    rcases open_ints Try.underlying25 Try.underlying3 (by kernel_rfl) hf with ⟨hcs, _⟩ | ⟨x, l, c, zs, hcs, _, hl, hm, hz, _, hcell, hwz⟩
    · simp [Value.cells] at hcs
      obtain ⟨rfl, rfl, rfl⟩ := hcs
      exact ⟨[], .inl ⟨rfl, rfl, rfl, rfl⟩⟩
    · simp [Value.cells] at hcs
      obtain ⟨rfl, rfl, rfl⟩ := hcs
      exact ⟨zs, .inr ⟨_, rfl, hl, hm, by simpa using hz, hcell, hwz⟩⟩
  clear hA0 hval0 hsz0 hsz
  obtain ⟨μ, va, xs, hH0, hrel, hrow, hwf⟩ := row_in (P := Try.prog) (by kernel_rfl) Try.underlying25 ok1 w1
  have hcall := (triLaw_c a0 va xs [.cells (ints z1) 3 true] hrow hwf).calls hH0 (cargs := #[.int .i64 a0, .slice a1 len1 cap1]) ⟨rfl, hrel, trivial⟩ (Nat.le_refl W.heap.size) (fun o x L h hw => by
    cases o with
    | zero => simp at h; subst h; cases hw
    | succ o => simp at h)
  refine hcall.mono fun e W' ⟨μ', r, H', cr, he, hr, _, bel, hres⟩ => ?_
  subst he
  subst hres
  obtain rfl : cr = .bool true := hr
  exact ⟨_, rfl, _, _, _, [], _, [], hW', trodAll_mk1 (shut_bool Try.underlying4 _), (trodAll_cons_mk (shut_int Try.underlying3 w0) (trodAll_cons_mk (Below.trod laidOut (by kernel_rfl) (of_decide_eq_true (by kernel_rfl)) k1 bel lt1) trodAll_mk0)), rfl, bel.frame _, fun h => by cases h⟩
theorem over : Rows.fnExactIsTriangulationRow.holds Try.pinned (OpenSpec.ofChange Rows.fnExactIsTriangulationSpec) :=
  OpenClaim.holds_of_wide 8 Try.f8 rfl rfl rfl rfl rfl rfl rfl ⟨rfl, rfl, rfl, rfl, rfl⟩ rfl rfl rfl rfl rfl (by kernel_rfl) Try.func8 (by kernel_rfl)
    (of_decide_eq_true (by kernel_rfl)) (by unfold Func.isWrapper; first | (rw [if_pos (by decide +kernel)]; kernel_rfl) | (rw [if_neg (by decide +kernel)]; exact ⟨rfl, rfl⟩))
    (fun os started H enc _ => lifted os started H enc)
theorem proved : Rows.FnExactIsTriangulationSaid := over
#print axioms proved
end Go.Proofs.Ytedlnjcfacadgaa.fnExactIsTriangulation
namespace Go.Proofs.Ytedlnjcfacadgaa
/-- The row, under a short name, for the claim. -/
theorem fnExactIsTriangulation_holds : Rows.FnExactIsTriangulationSaid := fnExactIsTriangulation.proved
end Go.Proofs.Ytedlnjcfacadgaa
