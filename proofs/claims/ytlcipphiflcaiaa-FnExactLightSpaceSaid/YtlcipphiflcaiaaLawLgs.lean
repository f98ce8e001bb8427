/- The row of FnExactLightSpace. -/
import Derived.Test.YtlcipphiflcaiaaRows
import Derived.Test.YtlcipphiflcaiaaMgLawLgs7
namespace Go.Proofs.Ytlcipphiflcaiaa.fnExactLightSpace
open Go Go.ChangeShapes Go.WideShapes Go.ChangeAt Go.RowKit Go.Proofs.Ytlcipphiflcaiaa.Ai
open Go.ChangeMaps (open_string shut_string)
set_option linter.unusedVariables false
theorem own : ownKnob Try.prog.godebug = none := by kernel_rfl
theorem laidOut : laidOutB Try.prog = true := by kernel_rfl
set_option maxRecDepth 100000 in
set_option maxHeartbeats 4000000 in
theorem lifted (os : Os) (started : os.Started) (H : Type) (enc : TypeId × Value → H) :
    ReturnsInHanded {} Try.checked os 3 .any (Rows.fnExactLightSpaceSpec.pre6 enc Try.prog Try.f3 Rows.fnExactLightSpaceRow.domain false) (Rows.fnExactLightSpaceSpec.post enc Try.prog Try.f3 false true false false) := by
  refine returnsInHanded_of_change_sized (C := Try.checked) own started (by kernel_rfl) Try.func3
    (ChangeSpec.witness6 (enc := enc) (C := Try.checked) false ⟨#[], #[.agg #[.int .i64 0, .slice none 0 0], .slice none 0 0], []⟩ 8 (by kernel_rfl) (by kernel_rfl) (by kernel_rfl) (by kernel_rfl)) ?_
  intro W base args ds gs before hval0 hW hcnd hsz0 _
  have hsz : (DataW.weightsEach Try.prog (Try.f3.params.toList ++ Rows.fnExactLightSpaceSpec.plain.varTypes Try.prog) (ds ++ gs)).all (· ≤ reachBytes) = true := hsz0
  have hval : ∀ (j : Nat) t v, Try.f3.params[j]? = some t → args[j]? = some v → Value.okWide Try.prog W .any base t v := hval0
  have hW' := hW
  obtain ⟨p, q, hA0, hV, rfl, hfz, hnd⟩ := hW
  have hA : DataW.TrodAll enc Try.prog W 0 (fun _ => true) true Try.f3.params.toList args.toList ds p := hA0
  rw [Try.params3] at hA hval hsz
  obtain ⟨v0, vs0, d0, ds0, p0, q0, hargs, rfl, rfl, h0, r0⟩ := trodAll_cons hA
  obtain ⟨v1, vs1, d1, ds1, p1, q1, rfl, rfl, rfl, h1, r1⟩ := trodAll_cons r0
  obtain ⟨rfl, rfl, rfl⟩ := trodAll_nil r1
  obtain rfl : args = #[v0, v1] := by cases args; simp_all
  obtain ⟨rfl, rfl⟩ := trodVars_none hV
  have ok0 := hval 0 24 v0 rfl rfl
  simp only [Value.okWide, Try.underlying24] at ok0
  obtain ⟨⟨cs0⟩, rfl, sz0, _⟩ := ok0
  have sz0' : cs0.length = 2 := by simpa [show Try.prog.cellsOf 24 = 2 from by kernel_rfl] using sz0
  obtain ⟨c0, cc0, rfl⟩ := two_of cs0 sz0'
  have k0 := h0
  have lt0 : ∀ x ∈ p0, x.block < W.heap.size := by obtain ⟨m, hm⟩ := k0; exact DataW.trod_lt m _ _ _ hm
  obtain ⟨⟨gn0, gz0⟩, fuel0, y0, hf0⟩ : (∃ z : Int, c0 = .int .i64 z ∧ (Lit.int .i64 z).wf = true) ∧ ∃ fuel y, DataW.trod enc Try.prog W 0 (fun _ => true) true fuel 22 [cc0] = some y := by
    obtain ⟨fuel, hf⟩ := h0
    exact open_graph (n0 := "") (n1 := "") Try.underlying24 rfl rfl rfl rfl rfl Try.underlying3 (by kernel_rfl) (by kernel_rfl) hf
  obtain ⟨rfl, wn0⟩ := gz0
  obtain ⟨a0, len0, cap0, rfl⟩ : ∃ a l c, cc0 = .slice a l c := by
    rcases DataW.trod_slice Try.underlying22 hf0 with ⟨e, _⟩ | ⟨x, l, c, _, _, _, _, e, _⟩
    · simp at e; exact ⟨_, _, _, e⟩
    · simp at e; exact ⟨_, _, _, e⟩
  have bn0 : I64 gn0 := by
    simp [Lit.wf, IntKind.min, IntKind.max, IntKind.signed, IntKind.bits] at wn0
    exact ⟨by omega, by omega⟩
  obtain ⟨z0, w0⟩ : ∃ zs, IsRowP W a0 len0 cap0 zs := open_pairs Try.underlying22 Try.underlying65 Try.underlying3 (by kernel_rfl) (by kernel_rfl) hf0
  have ok1 := hval 1 25 v1 rfl rfl
  obtain ⟨a1, len1, cap1, rfl⟩ := okWide_slice Try.underlying25 ok1
  have k1 := h1
  have lt1 : ∀ x ∈ p1, x.block < W.heap.size := by obtain ⟨m, hm⟩ := k1; exact DataW.trod_lt m _ _ _ hm
  obtain ⟨z1, w1⟩ : ∃ zs, IsRow .i64 W a1 len1 cap1 zs := by
    obtain ⟨fuel, hf⟩ := h1
    rcases open_ints Try.underlying25 Try.underlying3 (by kernel_rfl) hf with ⟨hcs, _⟩ | ⟨x, l, c, zs, hcs, _, hl, hm, hz, _, hcell, hwz⟩
    · simp [Value.cells] at hcs
      obtain ⟨rfl, rfl, rfl⟩ := hcs
      exact ⟨[], .inl ⟨rfl, rfl, rfl, rfl⟩⟩
    · simp [Value.cells] at hcs
      obtain ⟨rfl, rfl, rfl⟩ := hcs
      exact ⟨zs, .inr ⟨_, rfl, hl, hm, by simpa using hz, hcell, hwz⟩⟩
  clear hA0 hval0 hsz0 hsz
  have A0 := Args.nil0 Try.prog W
  obtain ⟨μ0, obj0, va0, xs0, A1, le0, crel0, row0, wf0, pa0, rfl⟩ := A0.addPairs (e := 65) (by kernel_rfl) w0
  have rel0 : TRel μ0 (.agg (List.toArray [.int .i64 gn0, .slice pa0 len0 len0])) (.agg (List.toArray [.int .i64 gn0, .slice a0 len0 cap0])) := ⟨_, rfl, rfl, crel0, trivial⟩
  obtain ⟨μ1, obj1, va1, xs1, A2, le1, rel1, row1, wf1⟩ := A1.addInts (by kernel_rfl) Try.underlying25 ok1 w1
  replace rel0 := rel0.mono le1
  replace row0 := row0.pre (List.prefix_append _ [obj1])
  have hcall := (lgsLaw_c gn0 (.slice pa0 len0 len0) va1 xs0 xs1 _ row0 wf0 row1 wf1 bn0).calls A2.rel (cargs := #[.agg (List.toArray [.int .i64 gn0, .slice a0 len0 cap0]), .slice a1 len1 cap1]) ⟨rel0, rel1, trivial⟩ (Nat.le_refl W.heap.size) A2.wr
  refine hcall.mono fun e W' ⟨μ', r, H', cr, he, hr, _, bel, hres⟩ => ?_
  subst he
  subst hres
  obtain rfl : cr = .bool true := hr
  exact ⟨_, rfl, _, _, _, [], _, [], hW', trodAll_mk1 (shut_bool Try.underlying4 _), (trodAll_cons_mk (Below.trod laidOut (by kernel_rfl) (of_decide_eq_true (by kernel_rfl)) k0 bel lt0) (trodAll_cons_mk (Below.trod laidOut (by kernel_rfl) (of_decide_eq_true (by kernel_rfl)) k1 bel lt1) trodAll_mk0)), rfl, bel.frame _, fun h => by cases h⟩
theorem over : Rows.fnExactLightSpaceRow.holds Try.pinned (OpenSpec.ofChange Rows.fnExactLightSpaceSpec) :=
  OpenClaim.holds_of_wide 3 Try.f3 rfl rfl rfl rfl rfl rfl rfl ⟨rfl, rfl, rfl, rfl, rfl⟩ rfl rfl rfl rfl rfl (by kernel_rfl) Try.func3 (by kernel_rfl)
    (of_decide_eq_true (by kernel_rfl)) (by unfold Func.isWrapper; first | (rw [if_pos (by decide +kernel)]; kernel_rfl) | (rw [if_neg (by decide +kernel)]; exact ⟨rfl, rfl⟩))
    (fun os started H enc _ => lifted os started H enc)
theorem proved : Rows.FnExactLightSpaceSaid := over
#print axioms proved
end Go.Proofs.Ytlcipphiflcaiaa.fnExactLightSpace
namespace Go.Proofs.Ytlcipphiflcaiaa
/-- The row, under a short name, for the claim. -/
theorem fnExactLightSpace_holds : Rows.FnExactLightSpaceSaid := fnExactLightSpace.proved
end Go.Proofs.Ytlcipphiflcaiaa
