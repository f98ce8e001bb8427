/- What an operation may come before or after: those that only compute, those that only read, those that only make a new object. No condition. -/
import Derived.Test.YtnoihoeaconllaaAi8
namespace Go.Proofs.Ytnoihoeaconllaa.Ai
open Go Go.RowKit
set_option linter.unusedVariables false
set_option linter.unusedSimpArgs false

/-- 0: stays where it is; 1: computes; 2: reads; 3: makes an object -/
def fl : Op → Nat
  | .move _ | .assign _ | .pick .. | .build .. | .nilCheck _ | .binOp .. | .unOp .. | .convert .. | .makeFunc .. | .fieldAddr .. | .field .. | .indexAddr .. | .index .. | .extract .. => 1
  | .load .. | .slice _ _ _ _ none => 2
  | .alloc _ | .box .. | .buildSlice .. | .makeSlice .. => 3
  | .call { callee := .builtin .len, .. } | .call { callee := .builtin .min, .. } | .call { callee := .builtin .max, .. } => 1
  | _ => 0

theorem fl_mk {op : Op} : fl op = 3 → isMk op = true := by
  unfold fl; split <;> intro h <;> first | rfl | cases h
theorem fl_notmk {op : Op} : fl op = 1 ∨ fl op = 2 → isMk op = false := by
  unfold fl; split <;> intro h <;> first | rfl | (rcases h with h | h <;> cases h)

theorem evalsA_congr {s s' : Sl} {xs : List Operand} (h : ∀ x ∈ xs, evalA s x = evalA s' x) : xs.map (evalA s) = xs.map (evalA s') := List.map_congr_left h

theorem stepA_congr {P : Program} {op : Op} {s s' : Sl} (h : ∀ x ∈ op.operands, evalA s x = evalA s' x) (H : AH) : stepA P op s H = stepA P op s' H := by
  cases op with
  | build t ps =>
    have : partsA s ps = partsA s' ps := by
      unfold partsA
      exact List.map_congr_left fun p hp => by rw [h p.2 (by simpa [Op.operands] using ⟨p.1, by simpa using hp⟩)]
    simp only [stepA, this]
  | buildSlice t n ps =>
    have : partsA s ps = partsA s' ps := by
      unfold partsA
      exact List.map_congr_left fun p hp => by rw [h p.2 (by simpa [Op.operands] using ⟨p.1, by simpa using hp⟩)]
    simp only [stepA, this]
  | makeFunc fn first caps =>
    have h1 : evalsA s first = evalsA s' first := evalsA_congr fun x hx => h x (by simp [Op.operands]; exact .inl (by simpa using hx))
    have h2 : evalsA s caps = evalsA s' caps := evalsA_congr fun x hx => h x (by simp [Op.operands]; exact .inr (by simpa using hx))
    simp only [stepA, h1, h2]
  | slice t x lo hi mx =>
    have h0 := h x (by simp [Op.operands])
    have h1 : lo.map (evalA s) = lo.map (evalA s') := by cases lo <;> first | rfl | (simp only [Option.map_some]; rw [h _ (by simp [Op.operands])])
    have h2 : hi.map (evalA s) = hi.map (evalA s') := by cases hi <;> first | rfl | (simp only [Option.map_some]; rw [h _ (by simp [Op.operands])])
    cases mx with
    | none => simp only [stepA, h0, h1, h2]
    | some m =>
      have h3 := h m (by simp [Op.operands])
      simp only [stepA, h0, h1, h2, h3]
  | call c =>
    obtain ⟨callee, xs, ts⟩ := c
    cases callee with
    | builtin b =>
      have : evalsA s xs = evalsA s' xs := evalsA_congr fun x hx => h x (by simp [Op.operands, Call.operands]; simpa using hx)
      simp only [stepA, this]
    | _ => rfl
  | move x => simp only [stepA, h x (by simp [Op.operands])]
  | assign x => simp only [stepA, h x (by simp [Op.operands])]
  | box e x => simp only [stepA, h x (by simp [Op.operands])]
  | load e x => simp only [stepA, h x (by simp [Op.operands])]
  | nilCheck x => simp only [stepA, h x (by simp [Op.operands])]
  | unOp o e x => simp only [stepA, h x (by simp [Op.operands])]
  | convert e f x => simp only [stepA, h x (by simp [Op.operands])]
  | fieldAddr e x f => simp only [stepA, h x (by simp [Op.operands])]
  | field e x f => simp only [stepA, h x (by simp [Op.operands])]
  | extract x f => simp only [stepA, h x (by simp [Op.operands])]
  | pick c x y => simp only [stepA, h c (by simp [Op.operands]), h x (by simp [Op.operands]), h y (by simp [Op.operands])]
  | store e x y => simp only [stepA, h x (by simp [Op.operands]), h y (by simp [Op.operands])]
  | binOp o e x y f => simp only [stepA, h x (by simp [Op.operands]), h y (by simp [Op.operands])]
  | makeSlice e x y => simp only [stepA, h x (by simp [Op.operands]), h y (by simp [Op.operands])]
  | indexAddr e x y => simp only [stepA, h x (by simp [Op.operands]), h y (by simp [Op.operands])]
  | index e x y => simp only [stepA, h x (by simp [Op.operands]), h y (by simp [Op.operands])]
  | _ => rfl

theorem stepW_congr {P : Program} {op : Op} {s s' : Sl} (h : ∀ x ∈ op.operands, evalA s x = evalA s' x) (H : AH) (K : Value → AH → Prop) : stepW P op s H K = stepW P op s' H K := by
  cases op with
  | call c =>
    obtain ⟨callee, xs, ts⟩ := c
    cases callee with
    | value f =>
      have h1 : evalsA s xs = evalsA s' xs := evalsA_congr fun x hx => h x (by simp [Op.operands, Call.operands]; exact .inr (by simpa using hx))
      have h2 : evalA s f = evalA s' f := h f (by simp [Op.operands, Call.operands])
      simp only [stepW, h1, h2]
    | builtin b => simp only [stepW, stepA_congr h]
    | invoke r m => simp only [stepW, stepA_congr h]
  | _ => simp only [stepW, stepA_congr h]

theorem pair_map {x : Option Value} {v : Value} {H H1 : AH} (h : x.map (·, H) = some (v, H1)) : H1 = H ∧ x = some v := by
  cases x with
  | none => cases h
  | some a => simp only [Option.map_some, Option.some.injEq, Prod.mk.injEq] at h; exact ⟨h.2.symm, by rw [h.1]⟩

/-- what only computes -/
theorem pure_step {P : Program} {op : Op} {s : Sl} {H H1 : AH} {v : Value} (hp : fl op = 1) (h : stepA P op s H = some (v, H1)) : H1 = H ∧ ∀ H2, stepA P op s H2 = some (v, H2) := by
  cases op with
  | move x => simp only [stepA, Option.some.injEq, Prod.mk.injEq] at h ⊢; exact ⟨h.2.symm, fun _ => ⟨h.1, trivial⟩⟩
  | assign x => simp only [stepA, Option.some.injEq, Prod.mk.injEq] at h ⊢; exact ⟨h.2.symm, fun _ => ⟨h.1, trivial⟩⟩
  | pick c x y =>
    simp only [stepA] at h ⊢
    split at h
    · simp only [Option.some.injEq, Prod.mk.injEq] at h ⊢; exact ⟨h.2.symm, fun _ => ⟨h.1, trivial⟩⟩
    · cases h
  | nilCheck x =>
    simp only [stepA] at h ⊢
    split at h
    · simp only [Option.some.injEq, Prod.mk.injEq] at h ⊢; exact ⟨h.2.symm, fun _ => ⟨h.1, trivial⟩⟩
    · simp only [Option.some.injEq, Prod.mk.injEq] at h ⊢; exact ⟨h.2.symm, fun _ => ⟨h.1, trivial⟩⟩
    · cases h
  | build t ps => obtain ⟨e, k⟩ := pair_map h; exact ⟨e, fun H2 => by simp only [stepA, k, Option.map_some]⟩
  | binOp o t x y f => obtain ⟨e, k⟩ := pair_map h; exact ⟨e, fun H2 => by simp only [stepA, k, Option.map_some]⟩
  | unOp o t x => obtain ⟨e, k⟩ := pair_map h; exact ⟨e, fun H2 => by simp only [stepA, k, Option.map_some]⟩
  | convert t f x => obtain ⟨e, k⟩ := pair_map h; exact ⟨e, fun H2 => by simp only [stepA, k, Option.map_some]⟩
  | makeFunc t f x => obtain ⟨e, k⟩ := pair_map h; exact ⟨e, fun H2 => by simp only [stepA, k, Option.map_some]⟩
  | fieldAddr t x f => obtain ⟨e, k⟩ := pair_map h; exact ⟨e, fun H2 => by simp only [stepA, k, Option.map_some]⟩
  | field t x f => obtain ⟨e, k⟩ := pair_map h; exact ⟨e, fun H2 => by simp only [stepA, k, Option.map_some]⟩
  | indexAddr t x f => obtain ⟨e, k⟩ := pair_map h; exact ⟨e, fun H2 => by simp only [stepA, k, Option.map_some]⟩
  | index t x f => obtain ⟨e, k⟩ := pair_map h; exact ⟨e, fun H2 => by simp only [stepA, k, Option.map_some]⟩
  | extract x f => obtain ⟨e, k⟩ := pair_map h; exact ⟨e, fun H2 => by simp only [stepA, k, Option.map_some]⟩
  | call c =>
    obtain ⟨callee, xs, ts⟩ := c
    cases callee with
    | builtin b =>
      cases b with
      | len =>
        simp only [stepA] at h ⊢
        unfold builtinA at h ⊢
        split at h <;> first | (rename_i hb _ _; cases hb; done) | (rename_i hb; cases hb; done) | cases h | skip
        all_goals (rename_i t x e1 e2; obtain ⟨e, k⟩ := pair_map h; refine ⟨e, fun H2 => ?_⟩; simp only [e1, e2, k, Option.map_some])
      | min =>
        simp only [stepA, builtinA] at h ⊢
        obtain ⟨e, k⟩ := pair_map h; exact ⟨e, fun H2 => by simp only [k, Option.map_some]⟩
      | max =>
        simp only [stepA, builtinA] at h ⊢
        obtain ⟨e, k⟩ := pair_map h; exact ⟨e, fun H2 => by simp only [k, Option.map_some]⟩
      | _ => cases hp
    | _ => cases hp
  | slice t x lo hi mx => cases mx <;> cases hp
  | _ => cases hp

/-- what only reads -/
theorem read_step {P : Program} {op : Op} {s : Sl} {H H1 : AH} {v : Value} (hp : fl op = 2) (h : stepA P op s H = some (v, H1)) : H1 = H ∧ ∀ o, stepA P op s (H ++ [o]) = some (v, H ++ [o]) := by
  have look : ∀ {b : Nat} {x : AObj} (o : AObj), H[b]? = some x → (H ++ [o])[b]? = some x := by
    intro b x o hb
    rw [List.getElem?_append_left (List.getElem?_eq_some_iff.1 hb).1]; exact hb
  cases op with
  | load t x =>
    obtain ⟨e, k⟩ := pair_map h
    refine ⟨e, fun o => ?_⟩
    have k2 : loadA P t (evalA s x) (H ++ [o]) = some v := by
      unfold loadA at k ⊢
      split at k
      · split at k
        · rename_i hb; simp only [look o hb]; exact k
        · cases k
      · cases k
    simp only [stepA, k2, Option.map_some]
  | slice t x lo hi mx =>
    cases mx with
    | some m => cases hp
    | none =>
    obtain ⟨e, k⟩ := pair_map h
    refine ⟨e, fun o => ?_⟩
    have k2 : sliceA P t (evalA s x) (lo.map (evalA s)) (hi.map (evalA s)) none (H ++ [o]) = some v := by
      unfold sliceA at k ⊢
      split at k
      · split at k
        · rename_i h1 h2 hb; simp only [h1, h2, look o hb]; exact k
        · cases k
      · exact k
      · cases k
    simp only [stepA, k2, Option.map_some]
  | call c =>
    obtain ⟨callee, xs, ts⟩ := c
    cases callee with
    | builtin b => cases b <;> cases hp
    | _ => cases hp
  | _ => cases hp

/-- what an object's making comes to in memory: a block of its own; vof: the value, by the object's number -/
def Made (P : Program) (op : Oper) (s : Sl) (vof : Nat → Value) (obj : AObj) : Prop :=
  ∀ (N : Nat) (μ : Mu) (a : Act) (w : World), SRel N μ s a → ∃ cv cur t vs ext, obj = .cells vs t false ∧ (execOp a.eval op).run P w = .ok (.value cv) (w.alloc (.cells cur t)) ∧
    0 < P.cellsOf t ∧ vs.length ≤ ext ∧ ext ≤ cur.size ∧ (∀ (i : Nat) (v : Value), vs[i]? = some v → ∃ cv, cur[i]? = some cv ∧ CRel μ v cv) ∧
    ∀ (μ' : Mu) o, μ' o = some ⟨w.heap.size, 0, ext, P.cellsOf t⟩ → TRel μ' (vof o) cv

theorem box_made {P : Program} {t : TypeId} {v v' : Value} {H H' : AH} (h : boxA P t v H = some (v', H')) :
    ∃ (vof : Nat → Value) (obj : AObj), v' = vof H.length ∧ H' = H ++ [obj] ∧ idOf v' = some H.length ∧ ∀ (μ : Mu) (w : World) (cv : Value), TRel μ v cv → ∃ c cur vs ext, obj = .cells vs t false ∧ (Instr.box t cv).run P w = .ok c (w.alloc (.cells cur t)) ∧
    0 < P.cellsOf t ∧ vs.length ≤ ext ∧ ext ≤ cur.size ∧ (∀ (i : Nat) (v : Value), vs[i]? = some v → ∃ cv, cur[i]? = some cv ∧ CRel μ v cv) ∧
    ∀ (μ' : Mu) o, μ' o = some ⟨w.heap.size, 0, ext, P.cellsOf t⟩ → TRel μ' (vof o) c := by
  unfold boxA at h
  split at h
  · rename_i hc
    cases h
    refine ⟨fun o => .pointer (some ⟨o, 0, none⟩), _, rfl, rfl, rfl, ?_⟩
    intro μ w cv hv
    have hcs := (VRel.of_t' hc.1 hv).cells
    have hl := all2_len hcs
    refine ⟨.pointer (some ⟨w.heap.size, 0, none⟩), cv.cells, _, cv.cells.size, rfl, by simp [Instr.box, newVar, newRow], hc.2, by rw [← Array.length_toList, ← hl]; exact Nat.le_refl _, Nat.le_refl _, ?_, ?_⟩
    · intro i x hx
      obtain ⟨y, h1, h2⟩ := all2_at hcs i x hx
      exact ⟨y, by simpa using h1, h2⟩
    · intro μ' o ho
      exact ⟨rfl, _, ho, by simp⟩
  · cases h

theorem mk_step {P : Program} {o : Oper} {s : Sl} {H H1 : AH} {v : Value} (hp : fl o.op = 3) (hok : opOK o.op = true) (h : stepA P o.op s H = some (v, H1)) :
    ∃ (vof : Nat → Value) (obj : AObj), v = vof H.length ∧ H1 = H ++ [obj] ∧ idOf v = some H.length ∧ Made P o s vof obj := by
  obtain ⟨dst, op, type, pos, after, guard⟩ := o
  simp only at h hok hp
  cases op with
  | box e x =>
    obtain ⟨vof, obj, h1, h2, h0, h3⟩ := box_made h
    refine ⟨vof, obj, h1, h2, h0, ?_⟩
    intro N μ a w hs
    obtain ⟨c, cur, vs, ext, g1, g2, g3⟩ := h3 μ w _ (hs.eval hok)
    refine ⟨c, cur, e, vs, ext, g1, ?_, g3⟩
    simp only [execOp, Sem.run_bind]
    have : (Instr.box e (a.eval x)).run P w = .ok c (w.alloc (.cells cur e)) := g2
    rw [this]; rfl
  | alloc e =>
    have h' : allocA P e H = some (v, H1) := h
    unfold allocA at h'
    split at h'
    · rename_i z hz
      split at h'
      · rename_i hpz
        obtain ⟨vof, obj, h1, h2, h0, h3⟩ := box_made h'
        refine ⟨vof, obj, h1, h2, h0, ?_⟩
        intro N μ a w hs
        obtain ⟨c, cur, vs, ext, g1, g2, g3⟩ := h3 μ w _ (plainV_self μ hpz)
        refine ⟨c, cur, e, vs, ext, g1, ?_, g3⟩
        have : (Instr.alloc e true (.tuple #[])).run P w = .ok c (w.alloc (.cells cur e)) := by
          simpa [Instr.alloc, zeroA_run hz, Instr.box] using g2
        simp only [execOp, Sem.run_bind]
        rw [this]; rfl
      · cases h'
    · cases h'
  | buildSlice t len ps =>
    have h' : buildSliceA P t len (partsA s ps) H = some (v, H1) := h
    unfold buildSliceA at h'
    split at h'
    · rename_i e hu
      split at h'
      · rename_i hc
        obtain ⟨hsz, hbd, hnt⟩ := hc
        split at h'
        · rename_i z hz
          split at h'
          · rename_i hp
            obtain ⟨hp, hzs⟩ := hp
            split at h'
            · rename_i r hf
              cases h'
              refine ⟨fun o => .slice (some ⟨o, 0, none⟩) len len, _, rfl, rfl, rfl, ?_⟩
              intro N μ a w hs
              have hps := parts_all2 hs ps.toList hok hnt
              obtain ⟨r', hf', hall⟩ := fill_all2 (μ := μ) (fun i => some (i * P.cellsOf e, P.cellsOf e)) _ _ (zerosA z (len * P.cellsOf e)).toArray ((Array.range (len * P.cellsOf e)).map (z.cells[· % z.cells.size]!)) r hps (by
                exact zerosA_all2 μ hp _ (by omega)) hf
              have hl := all2_len hall
              have hr' : r'.size = len * P.cellsOf e := by rw [fill_size _ _ _ _ hf']; simp
              refine ⟨.slice (some ⟨w.heap.size, 0, none⟩) len len, r', e, _, r'.size, rfl, ?_, hsz, by rw [hl]; simp, Nat.le_refl _, ?_, ?_⟩
              · have hps' : (ps.map fun (i, x) => (i, a.eval x)).toList = ps.toList.map fun p => (p.1, a.eval p.2) := by simp
                have hrun : (Instr.buildSlice t len (ps.map fun (i, x) => (i, a.eval x))).run P w = .ok (.slice (some ⟨w.heap.size, 0, none⟩) len len) (w.alloc (.cells r' e)) := by
                  simp only [Instr.buildSlice, Sem.run_bind, run_underlying hu, Result.andThen_ok, sizeOf_run hsz, Sem.run_ite]
                  rw [if_neg (by omega)]
                  by_cases h0 : len * P.cellsOf e = 0
                  · rw [if_pos h0]
                    simp only [Sem.run_pure, Result.andThen_ok]
                    rw [h0] at hf' ⊢
                    have hf2 : Instr.fill (fun i => some (i * P.cellsOf e, P.cellsOf e)) ((Array.range 0).map fun x => (#[] : Array Value)[x % (#[] : Array Value).size]!) (ps.map fun (i, x) => (i, a.eval x)).toList = some r' := by
                      have hnil : ∀ f : Nat → Value, (Array.range 0).map f = #[] := fun f => by simp
                      rw [hnil] at hf' ⊢
                      rw [hps']; exact hf'
                    rw [hf2]
                    simp [newRow]
                  · rw [if_neg h0]
                    simp only [Sem.run_bind, zeroA_run hz, Result.andThen_ok, Sem.run_pure]
                    rw [hps', hf']
                    simp [newRow]
                simp only [execOp, Sem.run_bind]
                rw [hrun]; rfl
              · intro i x hx
                obtain ⟨y, h1, h2⟩ := all2_at hall i x hx
                exact ⟨y, by simpa using h1, h2⟩
              · intro μ' o ho
                refine ⟨rfl, rfl, _, len, rfl, Nat.le_refl _, .inr ⟨_, ho, by simp, ?_⟩⟩
                show 0 + len * P.cellsOf e ≤ r'.size
                omega
            · cases h'
          · cases h'
        · cases h'
      · cases h'
    · cases h'
  | makeSlice t l c =>
    have h' : makeSliceA P t (evalA s l) (evalA s c) H = some (v, H1) := h
    simp only [opOK, Bool.and_eq_true] at hok
    generalize hl : evalA s l = vl at h'
    generalize hc : evalA s c = vc at h'
    unfold makeSliceA at h'
    split at h'
    · rename_i n m e hu
      split at h'
      · rename_i hcnd
        obtain ⟨rfl, h0, hsz, hby, hmx⟩ := hcnd
        split at h'
        · rename_i z hz
          split at h'
          · rename_i hp
            obtain ⟨hp, hzs⟩ := hp
            cases h'
            refine ⟨fun o => .slice (some ⟨o, 0, none⟩) n.toNat n.toNat, _, rfl, rfl, rfl, ?_⟩
            intro N μ a w hs
            have e1 := hs.eval hok.1
            have e2 := hs.eval hok.2
            rw [hl] at e1
            rw [hc] at e2
            have e1 : a.eval l = .int .i64 n := e1
            have e2 : a.eval c = .int .i64 n := e2
            obtain ⟨i, hi, hi1, hi2⟩ := sizeOf_info hsz
            refine ⟨.slice (some ⟨w.heap.size, 0, none⟩) n.toNat n.toNat, (Array.range (n.toNat * P.cellsOf e)).map (z.cells[· % z.cells.size]!), e, _, n.toNat * P.cellsOf e, rfl, ?_, hsz, by simp [zerosA], by simp, ?_, ?_⟩
            · have hw : IntKind.i64.wrap n = n := by rw [IntKind.wrap_i64]; omega
              have hbi : (i.bytes : Int) * n ≤ 281474976710656 := by
                rw [hi2]
                have : (n.toNat : Int) = n := by omega
                rw [← this]
                have h2 : (((n.toNat * P.bytesOf e : Nat)) : Int) ≤ 281474976710656 := by omega
                rw [Int.natCast_mul] at h2
                rw [Int.mul_comm]; exact h2
              have hn0 : ¬ n < 0 := by omega
              have hbi' : ¬ (281474976710656 < (i.bytes : Int) * n) := by omega
              have hrun : (Instr.makeSlice t (.int .i64 n) (.int .i64 n)).run P w = .ok (.slice (some ⟨w.heap.size, 0, none⟩) n.toNat n.toNat) (w.alloc (.cells ((Array.range (n.toNat * P.cellsOf e)).map (z.cells[· % z.cells.size]!)) e)) := by
                simp only [Instr.makeSlice, Sem.run_bind, run_underlying hu, Result.andThen_ok, asInt, asIntOf, Sem.run_pure, typeInfo, run_program, hi, hw]
                simp [hn0, hbi', sizeOf_run hsz]
                by_cases h00 : n.toNat * P.cellsOf e = 0
                · have hnil : ∀ f : Nat → Value, (Array.range 0).map f = #[] := fun f => by simp
                  rw [if_pos h00, h00]
                  simp only [Result.andThen_ok, newRow, Sem.run_bind, run_newObj, Sem.run_pure, hnil]
                  rfl
                · rw [if_neg h00]
                  simp [zeroA_run hz, newRow]
              simp only [execOp, Sem.run_bind, e1, e2]
              rw [hrun]; rfl
            · intro i x hx
              obtain ⟨y, h1, h2⟩ := all2_at (zerosA_all2 μ hp (n.toNat * P.cellsOf e) (by omega)) i x hx
              exact ⟨y, by rw [Array.getElem?_toList] at h1; exact h1, h2⟩
            · intro μ' o ho
              exact ⟨rfl, rfl, _, n.toNat, rfl, Nat.le_refl _, .inr ⟨_, ho, by simp, by simp⟩⟩
          · cases h'
        · cases h'
      · cases h'
    · cases h'
  | call c =>
    obtain ⟨callee, xs, ts⟩ := c
    cases callee with
    | builtin b => cases b <;> cases hp
    | _ => cases hp
  | slice t x lo hi mx => cases mx <;> cases hp
  | _ => cases hp

/-- an object that was to come has come -/
theorem HRel.realize {P : Program} {μ : Mu} {H : AH} {w : World} (h : HRel P μ H w) {o : Nat} {t : TypeId} {vs : List Value} {cur : Array Value} {ext : Nat} (ho : H[o]? = some (.cells vs t false)) (hm : μ o = none)
    (hsz : 0 < P.cellsOf t) (hl : vs.length ≤ ext) (he : ext ≤ cur.size) (hc : ∀ (i : Nat) (v : Value), vs[i]? = some v → ∃ cv, cur[i]? = some cv ∧ CRel μ v cv) :
    HRel P (μ.put o ⟨w.heap.size, 0, ext, P.cellsOf t⟩) H (w.alloc (.cells cur t)) := by
  have hlt : o < H.length := (List.getElem?_eq_some_iff.1 ho).1
  have hle : μ.Le (μ.put o ⟨w.heap.size, 0, ext, P.cellsOf t⟩) := Mu.le_put hm
  have hnew : (w.alloc (.cells cur t)).heap[w.heap.size]? = some (.cells cur t (0, 0)) := by show (w.heap.push _)[w.heap.size]? = _; simp
  have hold : ∀ b, b < w.heap.size → (w.alloc (.cells cur t)).heap[b]? = w.heap[b]? := fun b hb => Below.heap_alloc w _ b hb
  refine ⟨?_, ?_, ?_, ?_⟩
  · intro i hi
    rw [Mu.put_other _ _ _ (by omega)]; exact h.dom i hi
  · intro i vs' t' ro L hi hL
    by_cases e : i = o
    · subst e
      rw [ho] at hi
      simp only [Option.some.injEq, AObj.cells.injEq] at hi
      obtain ⟨rfl, rfl, rfl⟩ := hi
      rw [Mu.put_same] at hL
      cases hL
      refine ⟨by simp, hsz, rfl, hl, ?_, fun _ => ⟨cur, hnew, by simpa using he⟩⟩
      intro j v hv
      obtain ⟨cv, g1, g2⟩ := hc j v hv
      exact ⟨cv, by rw [cells_at hnew]; simpa using g1, g2.mono hle⟩
    · rw [Mu.put_other _ _ _ e] at hL
      obtain ⟨h2, h3, h4, h5, h6, h7⟩ := h.cells_ i vs' t' ro L hi hL
      refine ⟨by simp; omega, h3, h4, h5, ?_, ?_⟩
      · intro j v hv
        obtain ⟨cv, g1, g2⟩ := h6 j v hv
        exact ⟨cv, by rw [cell_of_block (a := ⟨L.blk, L.base + j, none⟩) (hold _ h2)]; exact g1, g2.mono hle⟩
      · intro hr
        rw [hold _ h2]; exact h7 hr
  · intro i es L hi hL
    by_cases e : i = o
    · subst e; rw [ho] at hi; cases hi
    · rw [Mu.put_other _ _ _ e] at hL
      obtain ⟨cs, clock, h2, h3⟩ := h.maps_ i es L hi hL
      refine ⟨cs, clock, ?_, all2_mono (fun a b hab => ⟨hab.1.mono hle, hab.2.mono hle⟩) h3⟩
      rw [hold _ (Array.getElem?_eq_some_iff.1 h2).1]; exact h2
  · intro i i' x x' L L' hne h1 h2 h3 h4 h5 h6
    have hx : x.live = true := by cases x <;> first | rfl | cases h3
    by_cases e : i = o
    · subst e
      rw [Mu.put_same] at h5
      cases h5
      rw [Mu.put_other _ _ _ (fun e => hne e.symm)] at h6
      have g2 := h.live_lt h2 h4 h6
      show w.heap.size ≠ L'.blk
      omega
    · rw [Mu.put_other _ _ _ e] at h5
      by_cases e' : i' = o
      · subst e'
        rw [Mu.put_same] at h6
        cases h6
        have g2 := h.live_lt h1 hx h5
        show L.blk ≠ w.heap.size
        omega
      · rw [Mu.put_other _ _ _ e'] at h6
        exact h.sep i i' x x' L L' hne h1 h2 h3 h4 h5 h6

theorem Evo.realize {μ0 μ : Mu} {H0 H : AH} {w0 w : World} (h : Evo μ0 H0 w0 μ H w) {o : Nat} (hm : μ o = none) (hlo : H0.length ≤ o) (L : Loc) (hL : L.blk = w.heap.size) (c : Obj) : Evo μ0 H0 w0 (μ.put o L) H (w.alloc c) := by
  refine ⟨h.le.trans (Mu.le_put hm), h.len, fun i hi => by rw [Mu.put_other _ _ _ (by omega)]; exact h.old i hi, h.os, h.tape, h.output, by simp; have := h.size; omega, ?_, ?_⟩
  · intro b hb hn
    rw [Below.heap_alloc w _ b (by have := h.size; omega)]
    exact h.frame b hb hn
  · intro i x L' h1 h2 h3
    by_cases e : i = o
    · subst e
      rw [Mu.put_same] at h3
      cases h3
      exact .inl (by rw [hL]; exact h.size)
    · rw [Mu.put_other _ _ _ e] at h3
      exact h.own i x L' h1 h2 h3

end Go.Proofs.Ytnoihoeaconllaa.Ai
