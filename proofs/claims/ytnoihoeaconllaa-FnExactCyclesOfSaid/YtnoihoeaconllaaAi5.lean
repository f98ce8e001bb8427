/- What one operation does to an abstract heap, fourth part: make, literals, parts of values, function values, len, min, max. No condition. -/
import Derived.Test.YtnoihoeaconllaaAi4
namespace Go.Proofs.Ytnoihoeaconllaa.Ai
open Go Go.RowKit
set_option linter.unusedVariables false
set_option linter.unusedSimpArgs false

/- ---------- filling a literal ---------- -/
theorem setIf_all2 {R : Value → Value → Prop} : ∀ {xs ys : List Value} (h : All2 R xs ys) (i : Nat) {u v : Value}, R u v → All2 R (xs.set i u) (ys.set i v)
  | [], [], _, _, _, _, _ => trivial
  | x :: xs, y :: ys, h, 0, _, _, hr => ⟨hr, h.2⟩
  | x :: xs, y :: ys, h, i + 1, _, _, hr => ⟨h.1, setIf_all2 h.2 i hr⟩

theorem foldl_put_all2 {R : Value → Value → Prop} (off : Nat) : ∀ (us vs : List Value) (k : Nat) (cs ds : Array Value), All2 R us vs → All2 R cs.toList ds.toList →
    All2 R ((us.zipIdx k).foldl (fun (cs : Array Value) (p : Value × Nat) => cs.setIfInBounds (off + p.2) p.1) cs).toList ((vs.zipIdx k).foldl (fun (cs : Array Value) (p : Value × Nat) => cs.setIfInBounds (off + p.2) p.1) ds).toList
  | [], [], k, cs, ds, _, h => h
  | u :: us, v :: vs, k, cs, ds, hr, h => by
    simp only [List.zipIdx_cons, List.foldl_cons]
    exact foldl_put_all2 off us vs (k + 1) _ _ hr.2 (by
      rw [Array.toList_setIfInBounds, Array.toList_setIfInBounds]
      exact setIf_all2 h _ hr.1)

theorem size_eq_of_all2 {R : Value → Value → Prop} {cs ds : Array Value} (h : All2 R cs.toList ds.toList) : cs.size = ds.size := by
  have := all2_len h
  simpa using this

theorem fill_all2 {μ : Mu} (place : Nat → Option (Nat × Nat)) : ∀ (ps qs : List (Nat × Value)) (cs ds r : Array Value),
    All2 (fun (p q : Nat × Value) => p.1 = q.1 ∧ VRel μ p.2 q.2) ps qs → All2 (CRel μ) cs.toList ds.toList → Instr.fill place cs ps = some r →
    ∃ r', Instr.fill place ds qs = some r' ∧ All2 (CRel μ) r.toList r'.toList
  | [], [], cs, ds, r, _, h, hf => by
    simp only [Instr.fill, Option.some.injEq] at hf ⊢
    subst hf; exact ⟨ds, rfl, h⟩
  | (i, v) :: ps, (j, v') :: qs, cs, ds, r, hp, h, hf => by
    obtain ⟨⟨h1, h2⟩, h3⟩ := hp
    have h1' : i = j := h1
    subst h1'
    simp only [Instr.fill] at hf ⊢
    cases hpl : place i with
    | none => rw [hpl] at hf; cases hf
    | some os =>
      obtain ⟨off, size⟩ := os
      rw [hpl] at hf
      simp only at hf ⊢
      have hvc := VRel.cells h2
      have s1 := size_eq_of_all2 hvc
      have s2 := size_eq_of_all2 h
      have hvc' : v.cells.size = v'.cells.size := s1
      rw [hvc', s2] at hf
      split at hf
      · cases hf
      · rename_i hc
        rw [if_neg hc]
        refine fill_all2 place ps qs _ _ r h3 ?_ hf
        have := foldl_put_all2 off v.cells.toList v'.cells.toList 0 cs ds hvc h
        rw [← Array.foldl_toList, ← Array.foldl_toList, Array.toList_zipIdx, Array.toList_zipIdx]
        exact this

def partsA (s : Sl) (ps : Array (Nat × Operand)) : List (Nat × Value) := ps.toList.map fun p => (p.1, evalA s p.2)

def plainCs (z : Value) : Bool := z.cells.toList.all plainC

theorem plainCs_self (μ : Mu) {z : Value} (h : plainCs z = true) : All2 (CRel μ) z.cells.toList z.cells.toList :=
  all2_self (fun a ha => CRel.of0 (plainC_self μ ha)) _ h

/-- zero cells for n elements -/
def zerosA (z : Value) (n : Nat) : List Value := ((Array.range n).map (z.cells[· % z.cells.size]!)).toList

theorem zerosA_all2 (μ : Mu) {z : Value} (h : plainCs z = true) (n : Nat) (hz : 0 < z.cells.size) : All2 (CRel μ) (zerosA z n) ((Array.range n).map (z.cells[· % z.cells.size]!)).toList := by
  refine all2_self (p := plainC) (fun a ha => CRel.of0 (plainC_self μ ha)) _ ?_
  unfold zerosA
  rw [List.all_eq_true]
  intro x hx
  simp only [Array.toList_map, List.mem_map] at hx
  obtain ⟨i, _, rfl⟩ := hx
  unfold plainCs at h
  rw [List.all_eq_true] at h
  have hlt : i % z.cells.size < z.cells.size := Nat.mod_lt _ hz
  rw [getElem!_pos z.cells _ hlt]
  exact h _ (by rw [← Array.getElem_toList]; exact List.getElem_mem _)

def buildSliceA (P : Program) (t : TypeId) (len : Nat) (ps : List (Nat × Value)) (H : AH) : Option (Value × AH) :=
  match P.underlying t with
  | some (.slice e) =>
    if 0 < P.cellsOf e ∧ len * P.cellsOf e ≤ 16777216 ∧ ps.all (fun p => !isTup p.2) = true then
      match zeroA P e with
      | some z =>
        if plainCs z = true ∧ z.cells.size = P.cellsOf e then
          match Instr.fill (fun i => some (i * P.cellsOf e, P.cellsOf e)) (zerosA z (len * P.cellsOf e)).toArray ps with
          | some r => some (.slice (some ⟨H.length, 0, none⟩) len len, H ++ [.cells r.toList e false])
          | none => none
        else none
      | none => none
    else none
  | _ => none

theorem parts_all2 {N : Nat} {μ : Mu} {s : Sl} {a : Act} (hs : SRel N μ s a) : ∀ (ps : List (Nat × Operand)), ps.all (fun p => opOkC p.2) = true → (ps.map fun p => (p.1, evalA s p.2)).all (fun p => !isTup p.2) = true →
    All2 (fun (p q : Nat × Value) => p.1 = q.1 ∧ VRel μ p.2 q.2) (ps.map fun p => (p.1, evalA s p.2)) (ps.map fun p => (p.1, a.eval p.2))
  | [], _, _ => trivial
  | p :: ps, h, h' => by
    simp only [List.all_cons, Bool.and_eq_true, List.map_cons, Bool.not_eq_true'] at h h' ⊢
    exact ⟨⟨rfl, VRel.of_t' h'.1 (hs.eval h.1)⟩, parts_all2 hs ps h.2 h'.2⟩

theorem fill_size (place : Nat → Option (Nat × Nat)) : ∀ (ps : List (Nat × Value)) (cs r : Array Value), Instr.fill place cs ps = some r → r.size = cs.size
  | [], cs, r, h => by simp only [Instr.fill, Option.some.injEq] at h; rw [← h]
  | (i, v) :: ps, cs, r, h => by
    simp only [Instr.fill] at h
    split at h
    · cases h
    · split at h
      · cases h
      · rw [fill_size place ps _ r h]
        have : ∀ (l : List (Value × Nat)) (off : Nat) (cs : Array Value), (l.foldl (fun (cs : Array Value) (p : Value × Nat) => cs.setIfInBounds (off + p.2) p.1) cs).size = cs.size := by
          intro l off
          induction l with
          | nil => intro cs; rfl
          | cons x l ih => intro cs; simp only [List.foldl_cons]; rw [ih]; simp
        rw [← Array.foldl_toList]
        exact this _ _ _

theorem buildSliceA_run {P : Program} {N : Nat} {μ : Mu} {H H' : AH} {w : World} (hH : HRel P μ H w) {s : Sl} {a : Act} (hs : SRel N μ s a) {t : TypeId} {len : Nat} {ps : Array (Nat × Operand)} {v : Value}
    (hok : ps.toList.all (fun p => opOkC p.2) = true) (h : buildSliceA P t len (partsA s ps) H = some (v, H')) :
    ∃ μ' cv w', (Instr.buildSlice t len (ps.map fun (i, x) => (i, a.eval x))).run P w = .ok cv w' ∧ TRel μ' v cv ∧ HRel P μ' H' w' ∧ Evo μ H w μ' H' w' := by
  unfold buildSliceA at h
  split at h
  · rename_i e hu
    split at h
    · rename_i hc
      obtain ⟨hsz, hbd, hnt⟩ := hc
      split at h
      · rename_i z hz
        split at h
        · rename_i hp
          obtain ⟨hp, hzs⟩ := hp
          split at h
          · rename_i r hf
            cases h
            have hps := parts_all2 hs ps.toList hok hnt
            obtain ⟨r', hf', hall⟩ := fill_all2 (μ := μ) (fun i => some (i * P.cellsOf e, P.cellsOf e)) _ _ (zerosA z (len * P.cellsOf e)).toArray ((Array.range (len * P.cellsOf e)).map (z.cells[· % z.cells.size]!)) r hps (by
              exact zerosA_all2 μ hp _ (by omega)) hf
            have hl := all2_len hall
            have hal := hH.alloc e r.toList r' r'.size hsz (by rw [hl]; simp) (Nat.le_refl _) (by
              intro i x hx
              obtain ⟨y, h1, h2⟩ := all2_at hall i x hx
              exact ⟨y, by simpa using h1, h2⟩)
            have hr' : r'.size = len * P.cellsOf e := by rw [fill_size _ _ _ _ hf']; simp
            refine ⟨_, .slice (some ⟨w.heap.size, 0, none⟩) len len, _, ?_, ⟨rfl, rfl, _, len, rfl, Nat.le_refl _, .inr ⟨_, Mu.put_same _ _ _, rfl, ?_⟩⟩, hal.1, hal.2⟩
            · have hps' : (ps.map fun (i, x) => (i, a.eval x)).toList = ps.toList.map fun p => (p.1, a.eval p.2) := by simp
              simp only [Instr.buildSlice, Sem.run_bind, run_underlying hu, Result.andThen_ok, sizeOf_run hsz, Sem.run_ite]
              rw [if_neg (by omega)]
              by_cases h0 : len * P.cellsOf e = 0
              · rw [if_pos h0]
                simp only [Sem.run_pure, Result.andThen_ok]
                rw [h0] at hf' ⊢
                have hf2 : Instr.fill (fun i => some (i * P.cellsOf e, P.cellsOf e)) ((Array.range 0).map fun x => (#[] : Array Value)[x % (#[] : Array Value).size]!) (ps.map fun (i, x) => (i, a.eval x)).toList = some r' := by
                  have hnil : ∀ f : Nat → Value, (Array.range 0).map f = #[] := fun f => by simp
                  rw [hnil] at hf' ⊢
                  rw [hps']; exact hf'
                rw [hf2]
                simp [newRow]
              · rw [if_neg h0]
                simp only [Sem.run_bind, zeroA_run hz, Result.andThen_ok, Sem.run_pure]
                rw [hps', hf']
                simp [newRow]
            · show 0 + len * P.cellsOf e ≤ r'.size
              omega
          · cases h
        · cases h
      · cases h
    · cases h
  · cases h

/- ---------- a struct, an array ---------- -/
def buildA (P : Program) (t : TypeId) (ps : List (Nat × Value)) : Option Value :=
  if ps.all (fun p => !isTup p.2) = true then
    match zeroA P t with
    | some z =>
      if plainCs z = true then
        match P.underlying t with
        | some (.struct fs) =>
          if fs.toList.all (fun f => decide (0 < P.cellsOf f.type)) = true then
            (Instr.fill ((fs.map fun f => (f.offset, P.cellsOf f.type))[·]?) z.cells ps).map .agg
          else none
        | some (.array _ e) => if 0 < P.cellsOf e then (Instr.fill (fun i => some (i * P.cellsOf e, P.cellsOf e)) z.cells ps).map .agg else none
        | _ => none
      else none
    | none => none
  else none

theorem mapM_sizes {P : Program} (w : World) : ∀ (fs : List Field), fs.all (fun f => decide (0 < P.cellsOf f.type)) = true →
    (fs.mapM (fun f => (do pure (f.offset, ← Go.sizeOf f.type) : Sem (Nat × Nat)))).run P w = .ok (fs.map fun f => (f.offset, P.cellsOf f.type)) w
  | [], _ => by simp
  | f :: fs, h => by
    simp only [List.all_cons, Bool.and_eq_true, decide_eq_true_eq] at h
    simp only [List.mapM_cons, Sem.run_bind, sizeOf_run h.1, Result.andThen_ok, Sem.run_pure, mapM_sizes w fs h.2, List.map_cons]

theorem buildA_run {P : Program} {N : Nat} {μ : Mu} {w : World} {s : Sl} {a : Act} (hs : SRel N μ s a) {t : TypeId} {ps : Array (Nat × Operand)} {v : Value}
    (hok : ps.toList.all (fun p => opOkC p.2) = true) (h : buildA P t (partsA s ps) = some v) :
    ∃ cv, (Instr.build t (ps.map fun (i, x) => (i, a.eval x))).run P w = .ok cv w ∧ TRel μ v cv := by
  have hps' : (ps.map fun (i, x) => (i, a.eval x)).toList = ps.toList.map fun p => (p.1, a.eval p.2) := by simp
  unfold buildA at h
  split at h
  · rename_i hnt
    have hps := parts_all2 hs ps.toList hok hnt
    split at h
    · rename_i z hz
      split at h
      · rename_i hp
        split at h
        · rename_i fs hu
          split at h
          · rename_i hsz
            cases hf : Instr.fill ((fs.map fun f => (f.offset, P.cellsOf f.type))[·]?) z.cells (partsA s ps) with
            | none => rw [hf] at h; cases h
            | some r =>
              rw [hf] at h; cases h
              obtain ⟨r', hf', hall⟩ := fill_all2 (μ := μ) _ _ _ z.cells z.cells r hps (plainCs_self μ hp) hf
              refine ⟨.agg r', ?_, ⟨r', rfl, hall⟩⟩
              have hm : (fs.mapM (fun f => (do pure (f.offset, ← Go.sizeOf f.type) : Sem (Nat × Nat)))).run P w = .ok (fs.map fun f => (f.offset, P.cellsOf f.type)) w := by
                rw [Array.mapM_eq_mapM_toList, Sem.run_map, mapM_sizes w fs.toList hsz]
                simp only [Result.andThen_ok]
                rw [← Array.toList_map, Array.toArray_toList]
              simp only [Instr.build, Sem.run_bind, zeroA_run hz, run_underlying hu, Result.andThen_ok, hm]
              rw [hps', hf']; rfl
          · cases h
        · rename_i n e hu
          split at h
          · rename_i hsz
            cases hf : Instr.fill (fun i => some (i * P.cellsOf e, P.cellsOf e)) z.cells (partsA s ps) with
            | none => rw [hf] at h; cases h
            | some r =>
              rw [hf] at h; cases h
              obtain ⟨r', hf', hall⟩ := fill_all2 (μ := μ) _ _ _ z.cells z.cells r hps (plainCs_self μ hp) hf
              refine ⟨.agg r', ?_, ⟨r', rfl, hall⟩⟩
              simp only [Instr.build, Sem.run_bind, zeroA_run hz, run_underlying hu, Result.andThen_ok, sizeOf_run hsz]
              rw [hps', hf']; rfl
          · cases h
        · cases h
      · cases h
    · cases h
  · cases h

/- ---------- make ---------- -/
def makeSliceA (P : Program) (t : TypeId) (l c : Value) (H : AH) : Option (Value × AH) :=
  match l, c, P.underlying t with
  | .int .i64 n, .int .i64 m, some (.slice e) =>
    if n = m ∧ 0 ≤ n ∧ 0 < P.cellsOf e ∧ n.toNat * P.bytesOf e ≤ 281474976710656 ∧ n ≤ 9223372036854775807 then
      match zeroA P e with
      | some z => if plainCs z = true ∧ z.cells.size = P.cellsOf e then some (.slice (some ⟨H.length, 0, none⟩) n.toNat n.toNat, H ++ [.cells (zerosA z (n.toNat * P.cellsOf e)) e false]) else none
      | none => none
    else none
  | _, _, _ => none

theorem makeSliceA_run {P : Program} {μ : Mu} {H H' : AH} {w : World} (hH : HRel P μ H w) {t : TypeId} {l c cl cc v : Value} (h : makeSliceA P t l c H = some (v, H')) (hl : TRel μ l cl) (hc : TRel μ c cc) :
    ∃ μ' cv w', (Instr.makeSlice t cl cc).run P w = .ok cv w' ∧ TRel μ' v cv ∧ HRel P μ' H' w' ∧ Evo μ H w μ' H' w' := by
  unfold makeSliceA at h
  split at h
  · rename_i n m e hu
    have e1 : cl = .int .i64 n := hl
    have e2 : cc = .int .i64 m := hc
    subst e1; subst e2
    split at h
    · rename_i hcnd
      obtain ⟨rfl, h0, hsz, hby, hmx⟩ := hcnd
      split at h
      · rename_i z hz
        split at h
        · rename_i hp
          obtain ⟨hp, hzs⟩ := hp
          cases h
          obtain ⟨i, hi, hi1, hi2⟩ := sizeOf_info hsz
          have hal := hH.alloc e (zerosA z (n.toNat * P.cellsOf e)) ((Array.range (n.toNat * P.cellsOf e)).map (z.cells[· % z.cells.size]!)) (n.toNat * P.cellsOf e) hsz (by simp [zerosA]) (by simp) (by
            intro i x hx
            obtain ⟨y, h1, h2⟩ := all2_at (zerosA_all2 μ hp (n.toNat * P.cellsOf e) (by omega)) i x hx
            exact ⟨y, by rw [Array.getElem?_toList] at h1; exact h1, h2⟩)
          refine ⟨_, .slice (some ⟨w.heap.size, 0, none⟩) n.toNat n.toNat, _, ?_, ⟨rfl, rfl, _, n.toNat, rfl, Nat.le_refl _, .inr ⟨_, Mu.put_same _ _ _, rfl, by simp⟩⟩, hal.1, hal.2⟩
          have hw : IntKind.i64.wrap n = n := by rw [IntKind.wrap_i64]; omega
          have hbi : (i.bytes : Int) * n ≤ 281474976710656 := by
            rw [hi2]
            have : (n.toNat : Int) = n := by omega
            rw [← this]
            have h2 : (((n.toNat * P.bytesOf e : Nat)) : Int) ≤ 281474976710656 := by omega
            rw [Int.natCast_mul] at h2
            rw [Int.mul_comm]; exact h2
          have hn0 : ¬ n < 0 := by omega
          have hbi' : ¬ (281474976710656 < (i.bytes : Int) * n) := by omega
          simp only [Instr.makeSlice, Sem.run_bind, run_underlying hu, Result.andThen_ok, asInt, asIntOf, Sem.run_pure, typeInfo, run_program, hi, hw]
          simp [hn0, hbi', sizeOf_run hsz]
          by_cases h00 : n.toNat * P.cellsOf e = 0
          · have hnil : ∀ f : Nat → Value, (Array.range 0).map f = #[] := fun f => by simp
            rw [if_pos h00, h00]
            simp only [Result.andThen_ok, newRow, Sem.run_bind, run_newObj, Sem.run_pure, hnil]
            rfl
          · rw [if_neg h00]
            simp [zeroA_run hz, newRow]
        · cases h
      · cases h
    · cases h
  · cases h

end Go.Proofs.Ytnoihoeaconllaa.Ai
