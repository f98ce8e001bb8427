/- What one operation does to an abstract heap (a function), first part: addresses, loads, stores, new variables; each as the model does it. No condition. -/
import Derived.Test.YtnoihoeaconllaaAi1
import Derived.Laws.AppendOwn
import Derived.Laws.MakeOwn
namespace Go.Proofs.Ytnoihoeaconllaa.Ai
open Go Go.RowKit
set_option linter.unusedVariables false
set_option linter.unusedSimpArgs false

/-- What an operation may come to: a value (or none, for a store), the abstract heap behind it. -/
def Ok1 (P : Program) (μ : Mu) (H : AH) (w : World) (v : Value) (H' : AH) (r : Result Next) : Prop :=
  ∃ μ' cv w', (r = .ok (.value cv) w' ∨ (r = .ok .skip w' ∧ cv = undef)) ∧ TRel μ' v cv ∧ HRel P μ' H' w' ∧ Evo μ H w μ' H' w'

theorem Ok1.same {P : Program} {μ : Mu} {H : AH} {w : World} {v cv : Value} (h : HRel P μ H w) (hv : TRel μ v cv) : Ok1 P μ H w v H (.ok (.value cv) w) :=
  ⟨μ, cv, w, .inl rfl, hv, h, Evo.refl _ _ _⟩

theorem run_value (P : Program) (w : World) (x : Sem Value) : ((do pure (.value (← x)) : Sem Next)).run P w = (x.run P w).andThen fun a w' => .ok (.value a) w' := by
  simp [Sem.run_bind]

theorem sizeOf_run {P : Program} {t : TypeId} (h : 0 < P.cellsOf t) (w : World) : (Go.sizeOf t).run P w = .ok (P.cellsOf t) w := by
  unfold Program.cellsOf at h ⊢
  cases hi : P.info? t with
  | none => rw [hi] at h; simp at h
  | some i => simp [Go.sizeOf, typeInfo, hi]

theorem sizeOf_info {P : Program} {t : TypeId} (h : 0 < P.cellsOf t) : ∃ i, P.info? t = some i ∧ i.size = P.cellsOf t ∧ i.bytes = P.bytesOf t := by
  unfold Program.cellsOf at h ⊢
  unfold Program.bytesOf
  cases hi : P.info? t with
  | none => rw [hi] at h; simp at h
  | some i => exact ⟨i, rfl, by simp, by simp⟩

def isAggA (P : Program) (t : TypeId) : Option Bool :=
  match P.underlying t with
  | some (.struct _) => some true
  | some (.array _ _) => some true
  | some _ => some false
  | none => none

theorem isAgg_run {P : Program} {t : TypeId} {b : Bool} (h : isAggA P t = some b) (w : World) : (isAgg t).run P w = .ok b w := by
  unfold isAggA at h
  cases hu : P.underlying t with
  | none => rw [hu] at h; cases h
  | some d => rw [hu] at h; cases d <;> simp at h <;> subst h <;> simp [isAgg, run_underlying hu]

theorem Addr.add_lit' (b o k : Nat) : (⟨b, o, none⟩ : Addr).add k = ⟨b, o + k, none⟩ := by
  unfold Addr.add
  split
  · rename_i h; subst h; rfl
  · rfl

/- ---------- indexAddr ---------- -/
def indexAddrA (P : Program) (t : TypeId) (x i : Value) : Option Value :=
  match x, i with
  | .slice (some p) n _, .int _ i =>
    match P.underlying t with
    | some (.slice e) => if 0 ≤ i ∧ i < (n : Int) ∧ 0 < P.cellsOf e then some (.pointer (some ⟨p.block, p.off + i.toNat * P.cellsOf e, none⟩)) else none
    | _ => none
  | .pointer (some p), .int _ i =>
    match P.underlying t with
    | some (.array n e) => if 0 ≤ i ∧ i < (n : Int) ∧ 0 < P.cellsOf e then some (.pointer (some ⟨p.block, p.off + i.toNat * P.cellsOf e, none⟩)) else none
    | _ => none
  | _, _ => none

theorem indexAddrA_run {P : Program} {μ : Mu} {t : TypeId} {x i v cx ci : Value} (h : indexAddrA P t x i = some v) (hx : TRel μ x cx) (hi : TRel μ i ci) (w : World) :
    ∃ cv, (Instr.indexAt t cx ci).run P w = .ok cv w ∧ TRel μ v cv := by
  unfold indexAddrA at h
  split at h
  · rename_i p n c k i
    split at h
    · rename_i e hu
      split at h
      · rename_i hc
        obtain ⟨h0, h1, h2⟩ := hc
        cases h
        have hi' : ci = .int k i := hi
        subst hi'
        obtain ⟨e1, e2, a, m, e3, hm, e4⟩ := hx
        subst e3
        have hm0 : m ≠ 0 := by omega
        rcases e4 with e4 | ⟨L, hL, e4, _⟩
        · exact absurd e4 hm0
        · subst e4
          refine ⟨.pointer (some ⟨L.blk, L.base + p.off + i.toNat * P.cellsOf e, none⟩), ?_, ⟨rfl, L, hL, by simp [Nat.add_assoc]⟩⟩
          simp [Instr.indexAt, asIntOf, run_underlying hu, h0, h1, sizeOf_run h2, Addr.add_lit']
      · cases h
    · cases h
  · rename_i p k i
    split at h
    · rename_i n e hu
      split at h
      · rename_i hc
        obtain ⟨h0, h1, h2⟩ := hc
        cases h
        have hi' : ci = .int k i := hi
        subst hi'
        obtain ⟨e1, L, hL, e3⟩ := hx
        subst e3
        refine ⟨.pointer (some ⟨L.blk, L.base + p.off + i.toNat * P.cellsOf e, none⟩), ?_, ⟨rfl, L, hL, by simp [Nat.add_assoc]⟩⟩
        simp [Instr.indexAt, asIntOf, run_underlying hu, h0, h1, sizeOf_run h2, Addr.add_lit', Instr.sureAddr]
      · cases h
    · cases h
  · cases h

/- ---------- fieldAddr ---------- -/
def fieldAddrA (P : Program) (t : TypeId) (x : Value) (f : Nat) : Option Value :=
  match x with
  | .pointer (some p) =>
    match P.underlying t with
    | some (.struct fs) =>
      match fs[f]? with
      | some fd => if 0 < P.cellsOf fd.type then some (.pointer (some ⟨p.block, p.off + fd.offset, none⟩)) else none
      | none => none
    | _ => none
  | _ => none

theorem fieldAddrA_run {P : Program} {μ : Mu} {t : TypeId} {x v cx : Value} {f : Nat} (h : fieldAddrA P t x f = some v) (hx : TRel μ x cx) (w : World) :
    ∃ cv, (Instr.fieldAt t cx f).run P w = .ok cv w ∧ TRel μ v cv := by
  unfold fieldAddrA at h
  split at h
  · rename_i p
    split at h
    · rename_i fs hu
      split at h
      · rename_i fd hf
        split at h
        · rename_i h2
          cases h
          obtain ⟨e1, L, hL, e3⟩ := hx
          subst e3
          refine ⟨.pointer (some ⟨L.blk, L.base + p.off + fd.offset, none⟩), ?_, ⟨rfl, L, hL, by simp [Nat.add_assoc]⟩⟩
          simp [Instr.fieldAt, run_underlying hu, hf, Instr.sureAddr, fieldPlace, sizeOf_run h2, Addr.add_lit', show ¬ P.cellsOf fd.type = 0 from by omega]
        · cases h
      · cases h
    · cases h
  · cases h

/- ---------- load ---------- -/
def loadA (P : Program) (t : TypeId) (x : Value) (H : AH) : Option Value :=
  match x with
  | .pointer (some p) =>
    match H[p.block]? with
    | some (.cells vs _ _) =>
      match isAggA P t with
      | some true => if p.off + P.cellsOf t ≤ vs.length ∧ 0 < P.cellsOf t then some (.agg ((vs.drop p.off).take (P.cellsOf t)).toArray) else none
      | some false => vs[p.off]?
      | none => none
    | _ => none
  | _ => none

theorem all2_pick {R : Value → Value → Prop} {Q : Nat → Value → Prop} : ∀ (vs : List Value) (k : Nat), (∀ (i : Nat) (v : Value), vs[i]? = some v → ∃ cv, Q (k + i) cv ∧ R v cv) →
    ∃ cs, All2 R vs cs ∧ cs.length = vs.length ∧ ∀ (j : Nat) (c : Value), cs[j]? = some c → Q (k + j) c := by
  intro vs
  induction vs with
  | nil => intro k _; exact ⟨[], trivial, rfl, fun j c h => by simp at h⟩
  | cons v vs ih =>
    intro k h
    obtain ⟨c, h1, h2⟩ := h 0 v rfl
    obtain ⟨cs, g1, g2, g3⟩ := ih (k + 1) (fun i v hv => by have := h (i + 1) v (by simpa using hv); rwa [show k + (i + 1) = k + 1 + i from by omega] at this)
    refine ⟨c :: cs, ⟨h2, g1⟩, by simp [g2], ?_⟩
    intro j c' hj
    cases j with
    | zero => simp at hj; subst hj; exact h1
    | succ j => have := g3 j c' (by simpa using hj); rwa [show k + 1 + j = k + (j + 1) from by omega] at this

theorem all2_len {α β : Type} {R : α → β → Prop} : ∀ {xs : List α} {ys : List β}, All2 R xs ys → xs.length = ys.length
  | [], [], _ => rfl
  | _ :: _, _ :: _, h => by simp [all2_len h.2]

theorem all2_at {α β : Type} {R : α → β → Prop} : ∀ {xs : List α} {ys : List β}, All2 R xs ys → ∀ (i : Nat) (x : α), xs[i]? = some x → ∃ y, ys[i]? = some y ∧ R x y
  | [], [], _, i, x, hx => by simp at hx
  | a :: xs, b :: ys, h, i, x, hx => by
    cases i with
    | zero => simp at hx; subst hx; exact ⟨b, rfl, h.1⟩
    | succ i => exact all2_at h.2 i x (by simpa using hx)

/-- a range of an object's cells, in memory -/
theorem HRel.range {P : Program} {μ : Mu} {H : AH} {w : World} (h : HRel P μ H w) {o : Nat} {vs : List Value} {t : TypeId} {ro : Bool} (ho : H[o]? = some (.cells vs t ro)) {L : Loc} (hL : μ o = some L) (k n : Nat) :
    ∃ cs, All2 (CRel μ) ((vs.drop k).take n) cs ∧ cs.length = ((vs.drop k).take n).length ∧ ∀ (j : Nat) (c : Value), cs[j]? = some c → w.cell? ((⟨L.blk, L.base + k, none⟩ : Addr).add j) = some c := by
  obtain ⟨L0, f1, f2, f3, f4, f5, f6, f7⟩ := h.cells ho hL
  rw [hL] at f1; cases f1
  have := all2_pick (R := CRel μ) (Q := fun i c => w.cell? ⟨L.blk, L.base + i, none⟩ = some c) ((vs.drop k).take n) k (by
    intro i v hv
    rw [List.getElem?_take] at hv
    split at hv
    · rw [List.getElem?_drop] at hv; exact f6 _ v hv
    · cases hv)
  obtain ⟨cs, g1, g2, g3⟩ := this
  exact ⟨cs, g1, g2, fun j c hj => by rw [Addr.add_lit', Nat.add_assoc]; exact g3 j c hj⟩

theorem loadA_run {P : Program} {μ : Mu} {H : AH} {w : World} (hH : HRel P μ H w) {t : TypeId} {x v cx : Value} (h : loadA P t x H = some v) (hx : TRel μ x cx) :
    ∃ cv, (Instr.loadAt t cx).run P w = .ok cv w ∧ TRel μ v cv := by
  unfold loadA at h
  split at h
  · rename_i p
    split at h
    · rename_i vs t' ro ho
      obtain ⟨e1, L, hL, e3⟩ := hx
      subst e3
      split at h
      · rename_i hagg
        split at h
        · rename_i hc
          obtain ⟨h1, h2⟩ := hc
          cases h
          obtain ⟨cs, g1, g2, g3⟩ := hH.range ho hL p.off (P.cellsOf t)
          have hlen : cs.length = P.cellsOf t := by rw [g2]; simp; omega
          refine ⟨.agg cs.toArray, ?_, ⟨cs.toArray, rfl, by simpa using g1⟩⟩
          have hr := run_loadCells_list (P := P) w ⟨L.blk, L.base + p.off, none⟩ cs g3
          rw [hlen] at hr
          simp [Instr.loadAt, Instr.sureAddr, loadVar, isAgg_run hagg, sizeOf_run h2, hr]
        · cases h
      · rename_i hagg
        obtain ⟨L0, f1, f2, f3, f4, f5, f6, f7⟩ := hH.cells ho hL
        rw [hL] at f1; cases f1
        obtain ⟨cv, g1, g2⟩ := f6 _ v h
        refine ⟨cv, ?_, TRel.of_c g2.one.1 g2⟩
        simp [Instr.loadAt, Instr.sureAddr, loadVar, isAgg_run hagg, g1]
      · cases h
    · cases h
  · cases h

/- ---------- store ---------- -/
def putAt (vs : List Value) (k : Nat) (cs : List Value) : List Value := vs.take k ++ cs ++ vs.drop (k + cs.length)

def isTup : Value → Bool
  | .tuple _ => true
  | _ => false

theorem VRel.of_t' {μ : Mu} {v c : Value} (h1 : isTup v = false) (h : TRel μ v c) : VRel μ v c :=
  VRel.of_t (fun cs e => by subst e; cases h1) h
theorem TRel.of_v' {μ : Mu} {v c : Value} (h1 : isTup v = false) (h : VRel μ v c) : TRel μ v c :=
  TRel.of_v (fun cs e => by subst e; cases h1) h

def storeA (P : Program) (t : TypeId) (x y : Value) (H : AH) : Option AH :=
  match x with
  | .pointer (some p) =>
    match H[p.block]? with
    | some (.cells vs e false) =>
      if isTup y = false ∧ y.cells.toList.length = P.cellsOf t ∧ 0 < P.cellsOf t ∧ p.off + y.cells.toList.length ≤ vs.length then
        some (H.set p.block (.cells (putAt vs p.off y.cells.toList) e false)) else none
    | _ => none
  | _ => none

theorem putAt_len (vs : List Value) (k : Nat) (cs : List Value) (h : k + cs.length ≤ vs.length) : (putAt vs k cs).length = vs.length := by
  simp [putAt]; omega

theorem putAt_at (vs : List Value) (k : Nat) (cs : List Value) (h : k + cs.length ≤ vs.length) (i : Nat) : (putAt vs k cs)[i]? = if i < k then vs[i]? else if i < k + cs.length then cs[i - k]? else vs[i]? := by
  unfold putAt
  by_cases h1 : i < k
  · rw [if_pos h1, List.append_assoc, List.getElem?_append_left (by simp; omega), List.getElem?_take, if_pos h1]
  · rw [if_neg h1, List.append_assoc, List.getElem?_append_right (by simp; omega)]
    have hk : (vs.take k).length = k := by simp; omega
    rw [hk]
    by_cases h2 : i < k + cs.length
    · rw [if_pos h2, List.getElem?_append_left (by omega)]
    · rw [if_neg h2, List.getElem?_append_right (by omega), List.getElem?_drop]
      congr 1; omega

/-- cells written into a part of an object -/
theorem write_run {P : Program} {μ : Mu} {H : AH} {w : World} (hH : HRel P μ H w) {o : Nat} {vs : List Value} {e : TypeId} (ho : H[o]? = some (.cells vs e false)) {L : Loc} (hL : μ o = some L) {k : Nat} {news cs : List Value} (h3 : k + news.length ≤ vs.length) (hcs : All2 (CRel μ) news cs) :
    ∃ w', (storeCells ⟨L.blk, L.base + k, none⟩ cs).run P w = .ok () w' ∧ HRel P μ (H.set o (.cells (putAt vs k news) e false)) w' ∧ Evo μ H w μ (H.set o (.cells (putAt vs k news) e false)) w' := by
  have hl := all2_len hcs
  obtain ⟨L0, f1, f2, f3, f4, f5, f6, f7⟩ := hH.cells ho hL
  rw [hL] at f1; cases f1
  obtain ⟨cur, k1, k2⟩ := f7 rfl
  have h1' : ∀ v ∈ cs, v.oneCell' = true := by
    intro v hv
    obtain ⟨j, hj⟩ := List.getElem?_of_mem hv
    have hlt : j < news.length := by rw [hl]; exact (List.getElem?_eq_some_iff.1 hj).1
    obtain ⟨z, hz1, hz2⟩ := all2_at hcs j _ (List.getElem?_eq_getElem hlt)
    rw [hj] at hz1; cases hz1; exact hz2.one.2
  have hst := run_storeCells_at (P := P) L.blk (L.base + k) e cs 0 cur w k1 (by omega) h1'
  simp only [Nat.add_zero] at hst
  have hsz : (cur.toList.take (L.base + k) ++ cs ++ cur.toList.drop (L.base + k + cs.length)).toArray.size = cur.size := by
    have a1 : cur.toList.length = cur.size := Array.length_toList
    simp only [List.size_toArray, List.length_append, List.length_take, List.length_drop]
    omega
  have hrw := hH.rewrite ho hL k1 (cur.toList.take (L.base + k) ++ cs ++ cur.toList.drop (L.base + k + cs.length)).toArray hsz (putAt vs k news) (by rw [putAt_len _ _ _ h3]; exact f5) (by
    intro i v hv
    have e := putAt_at cur.toList (L.base + k) cs (by rw [show cur.toList.length = cur.size from Array.length_toList]; omega) (L.base + i)
    unfold putAt at e
    rw [List.getElem?_toArray, e]
    rw [putAt_at _ _ _ h3] at hv
    by_cases g1 : i < k
    · rw [if_pos g1] at hv
      rw [if_pos (by omega)]
      obtain ⟨cv, a1, a2⟩ := f6 i v hv
      rw [cells_at k1] at a1
      exact ⟨cv, by simpa using a1, a2⟩
    · rw [if_neg g1] at hv
      rw [if_neg (by omega)]
      by_cases g2 : i < k + news.length
      · rw [if_pos g2] at hv
        rw [if_pos (by omega)]
        obtain ⟨cv, a1, a2⟩ := all2_at hcs _ v hv
        exact ⟨cv, by rw [show L.base + i - (L.base + k) = i - k from by omega]; exact a1, a2⟩
      · rw [if_neg g2] at hv
        rw [if_neg (by omega)]
        obtain ⟨cv, a1, a2⟩ := f6 i v hv
        rw [cells_at k1] at a1
        exact ⟨cv, by simpa using a1, a2⟩)
  exact ⟨_, hst, hrw.1, hrw.2⟩

theorem storeA_run {P : Program} {μ : Mu} {H H' : AH} {w : World} (hH : HRel P μ H w) {t : TypeId} {x y cx cy : Value} (h : storeA P t x y H = some H') (hx : TRel μ x cx) (hy : TRel μ y cy) :
    ∃ w', (Instr.storeAt t cx cy).run P w = .ok () w' ∧ HRel P μ H' w' ∧ Evo μ H w μ H' w' := by
  unfold storeA at h
  split at h
  · rename_i p
    split at h
    · rename_i vs e ho
      split at h
      · rename_i hc
        obtain ⟨ht, h1, h2, h3⟩ := hc
        cases h
        obtain ⟨e1, L, hL, e3⟩ := hx
        subst e3
        have hcs := (VRel.of_t' ht hy).cells
        have hl := all2_len hcs
        obtain ⟨L0, f1, f2, f3, f4, f5, f6, f7⟩ := hH.cells ho hL
        rw [hL] at f1; cases f1
        obtain ⟨cur, k1, k2⟩ := f7 rfl
        have h1' : ∀ v ∈ cy.cells.toList, v.oneCell' = true := by
          intro v hv
          obtain ⟨j, hj⟩ := List.getElem?_of_mem hv
          have hlt : j < y.cells.toList.length := by rw [hl]; exact (List.getElem?_eq_some_iff.1 hj).1
          obtain ⟨z, hz1, hz2⟩ := all2_at hcs j _ (List.getElem?_eq_getElem hlt)
          rw [hj] at hz1; cases hz1; exact hz2.one.2
        have hst := run_storeCells_at (P := P) L.blk (L.base + p.off) e cy.cells.toList 0 cur w k1 (by omega) h1'
        simp only [Nat.add_zero] at hst
        have hsz : (cur.toList.take (L.base + p.off) ++ cy.cells.toList ++ cur.toList.drop (L.base + p.off + cy.cells.toList.length)).toArray.size = cur.size := by
          have a1 : cur.toList.length = cur.size := Array.length_toList
          simp only [List.size_toArray, List.length_append, List.length_take, List.length_drop]
          omega
        have hrw := hH.rewrite ho hL k1 (cur.toList.take (L.base + p.off) ++ cy.cells.toList ++ cur.toList.drop (L.base + p.off + cy.cells.toList.length)).toArray hsz (putAt vs p.off y.cells.toList) (by rw [putAt_len _ _ _ h3]; exact f5) (by
          intro i v hv
          have e := putAt_at cur.toList (L.base + p.off) cy.cells.toList (by rw [show cur.toList.length = cur.size from Array.length_toList]; omega) (L.base + i)
          unfold putAt at e
          rw [List.getElem?_toArray, e]
          rw [putAt_at _ _ _ h3] at hv
          by_cases g1 : i < p.off
          · rw [if_pos g1] at hv; rw [if_pos (by omega)]
            obtain ⟨cv, a1, a2⟩ := f6 i v hv
            rw [cells_at k1] at a1
            exact ⟨cv, by simpa using a1, a2⟩
          · rw [if_neg g1] at hv; rw [if_neg (by omega)]
            by_cases g2 : i < p.off + y.cells.toList.length
            · rw [if_pos g2] at hv; rw [if_pos (by omega)]
              obtain ⟨cv, a1, a2⟩ := all2_at hcs _ v hv
              exact ⟨cv, by rw [show L.base + i - (L.base + p.off) = i - p.off from by omega]; exact a1, a2⟩
            · rw [if_neg g2] at hv; rw [if_neg (by omega)]
              obtain ⟨cv, a1, a2⟩ := f6 i v hv
              rw [cells_at k1] at a1
              exact ⟨cv, by simpa using a1, a2⟩)
        refine ⟨_, ?_, hrw⟩
        have hsize : cy.cells.size = P.cellsOf t := by rw [← Array.length_toList, ← hl]; exact h1
        simp [Instr.storeAt, Instr.sureAddr, storeVar, sizeOf_run h2, hsize, hst]
      · cases h
    · cases h
  · cases h

/- ---------- new variables ---------- -/
/-- a new object, of a value's cells -/
theorem newVar_ok {P : Program} {μ : Mu} {H : AH} {w : World} (hH : HRel P μ H w) {t : TypeId} (hsz : 0 < P.cellsOf t) {v cv : Value} (hv : VRel μ v cv) :
    ∃ μ' w', (newVar t cv).run P w = .ok ⟨w.heap.size, 0, none⟩ w' ∧ μ' H.length = some ⟨w.heap.size, 0, cv.cells.size, P.cellsOf t⟩ ∧ HRel P μ' (H ++ [.cells v.cells.toList t false]) w' ∧ Evo μ H w μ' (H ++ [.cells v.cells.toList t false]) w' := by
  have hcs := hv.cells
  have hl := all2_len hcs
  have := hH.alloc t v.cells.toList cv.cells cv.cells.size hsz (by rw [← Array.length_toList, ← hl]; exact Nat.le_refl _) (Nat.le_refl _) (by
    intro i x hx
    obtain ⟨y, h1, h2⟩ := all2_at hcs i x hx
    exact ⟨y, by simpa using h1, h2⟩)
  exact ⟨_, _, by simp [newVar, newRow], Mu.put_same _ _ _, this.1, this.2⟩

def boxA (P : Program) (t : TypeId) (v : Value) (H : AH) : Option (Value × AH) :=
  if isTup v = false ∧ 0 < P.cellsOf t then some (.pointer (some ⟨H.length, 0, none⟩), H ++ [.cells v.cells.toList t false]) else none

theorem boxA_run {P : Program} {μ : Mu} {H H' : AH} {w : World} (hH : HRel P μ H w) {t : TypeId} {v v' cv : Value} (h : boxA P t v H = some (v', H')) (hv : TRel μ v cv) :
    ∃ μ' c w', (Instr.box t cv).run P w = .ok c w' ∧ TRel μ' v' c ∧ HRel P μ' H' w' ∧ Evo μ H w μ' H' w' := by
  unfold boxA at h
  split at h
  · rename_i hc
    cases h
    obtain ⟨μ', w', h1, h2, h3, h4⟩ := newVar_ok hH hc.2 (VRel.of_t' hc.1 hv)
    exact ⟨μ', .pointer (some ⟨w.heap.size, 0, none⟩), w', by simp [Instr.box, h1], ⟨rfl, _, h2, by simp⟩, h3, h4⟩
  · cases h

def zeroA (P : Program) (t : TypeId) : Option Value := (P.info? t).bind (·.zero)

theorem zeroA_run {P : Program} {t : TypeId} {z : Value} (h : zeroA P t = some z) (w : World) : (zeroValue t).run P w = .ok z w := by
  unfold zeroA at h
  cases hi : P.info? t with
  | none => rw [hi] at h; cases h
  | some i =>
    rw [hi] at h
    have hz : i.zero = some z := h
    simp [zeroValue, typeInfo, hi, hz]

def allocA (P : Program) (t : TypeId) (H : AH) : Option (Value × AH) :=
  match zeroA P t with
  | some z => if plainV z = true then boxA P t z H else none
  | none => none

theorem allocA_run {P : Program} {μ : Mu} {H H' : AH} {w : World} (hH : HRel P μ H w) {t : TypeId} {v' : Value} (h : allocA P t H = some (v', H')) :
    ∃ μ' c w', (Instr.alloc t true (.tuple #[])).run P w = .ok c w' ∧ TRel μ' v' c ∧ HRel P μ' H' w' ∧ Evo μ H w μ' H' w' := by
  unfold allocA at h
  split at h
  · rename_i z hz
    split at h
    · rename_i hp
      obtain ⟨μ', c, w', h1, h2, h3, h4⟩ := boxA_run hH h (plainV_self μ hp)
      refine ⟨μ', c, w', ?_, h2, h3, h4⟩
      simpa [Instr.alloc, zeroA_run hz, Instr.box] using h1
    · cases h
  · cases h

end Go.Proofs.Ytnoihoeaconllaa.Ai
