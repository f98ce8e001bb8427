/- An abstract heap over the model's memory: what a value and a heap stand for (a relation), how a call may change memory. No condition. -/
import Derived.Below
import Derived.Calls
import Derived.WalkKit
namespace Go.Proofs.Ytnoihoeaconllaa.Ai
open Go Go.RowKit
set_option linter.unusedVariables false

/-- Where an abstract object lies: a block, the first cell, how many cells are its own from there on, how many cells an element has. -/
structure Loc where
  blk : Nat
  base : Nat
  ext : Nat
  sz : Nat

abbrev Mu := Nat → Option Loc

/-- Two lists, element by element. -/
def All2 {α β : Type} (R : α → β → Prop) : List α → List β → Prop
  | [], [] => True
  | a :: as, b :: bs => R a b ∧ All2 R as bs
  | _, _ => False

/-- An abstract object: cells (of elements of a type; ro: they came in and are only read), a map, or one that is gone. -/
inductive AObj where
  | cells (vs : List Value) (t : TypeId) (ro : Bool)
  | mp (es : List (Value × Value))
  | dead

def AObj.wr : AObj → Bool
  | .cells _ _ ro => !ro
  | .mp _ => true
  | .dead => false
def AObj.live : AObj → Bool
  | .dead => false
  | _ => true

abbrev AH := List AObj

/-- what one cell holds, abstract and in memory (no function value) -/
def CRel0 (μ : Mu) : Value → Value → Prop
  | .bool b, v => v = .bool b
  | .int k n, v => v = .int k n
  | .string s, v => v = .string s
  | .pointer none, v => v = .pointer none
  | .pointer (some p), v => p.spot = none ∧ ∃ L, μ p.block = some L ∧ v = .pointer (some ⟨L.blk, L.base + p.off, none⟩)
  | .slice none n c, v => n = 0 ∧ c = 0 ∧ v = .slice none 0 0
  | .slice (some p) n c, v => p.spot = none ∧ c = n ∧ ∃ a m, v = .slice (some a) n m ∧ n ≤ m ∧
      (m = 0 ∨ ∃ L, μ p.block = some L ∧ a = ⟨L.blk, L.base + p.off, none⟩ ∧ p.off + m * L.sz ≤ L.ext)
  | .map none, v => v = .map none
  | .map (some o), v => ∃ L, μ o = some L ∧ v = .map (some L.blk)
  | .nilFunc, v => v = .nilFunc
  | .nilIface, v => v = .nilIface
  | _, _ => False

/-- .. a function value too: what it has captured are such cells -/
def CRel (μ : Mu) : Value → Value → Prop
  | .func fn fs cs, v => fs = #[] ∧ ∃ ds : Array Value, v = .func fn #[] ds ∧ All2 (CRel0 μ) cs.toList ds.toList
  | x, v => CRel0 μ x v

/-- .. a struct or an array -/
def VRel (μ : Mu) : Value → Value → Prop
  | .agg cs, v => ∃ ds : Array Value, v = .agg ds ∧ All2 (CRel μ) cs.toList ds.toList
  | x, v => CRel μ x v

/-- .. several results -/
def TRel (μ : Mu) : Value → Value → Prop
  | .tuple cs, v => ∃ ds : Array Value, v = .tuple ds ∧ All2 (VRel μ) cs.toList ds.toList
  | x, v => VRel μ x v

def Mu.Le (μ μ' : Mu) : Prop := ∀ o L, μ o = some L → μ' o = some L

theorem Mu.Le.refl (μ : Mu) : μ.Le μ := fun _ _ h => h
theorem Mu.Le.trans {a b c : Mu} (h : a.Le b) (k : b.Le c) : a.Le c := fun o L e => k o L (h o L e)

theorem CRel0.mono {μ μ' : Mu} (h : μ.Le μ') {v c : Value} (hv : CRel0 μ v c) : CRel0 μ' v c := by
  cases v with
  | pointer p =>
    cases p with
    | none => exact hv
    | some p => obtain ⟨h0, L, hL, e⟩ := hv; exact ⟨h0, L, h _ _ hL, e⟩
  | slice p n m =>
    cases p with
    | none => exact hv
    | some p => obtain ⟨h0, h1, a, m', e1, e2, e3⟩ := hv; exact ⟨h0, h1, a, m', e1, e2, e3.imp id fun ⟨L, hL, e⟩ => ⟨L, h _ _ hL, e⟩⟩
  | map r =>
    cases r with
    | none => exact hv
    | some o => obtain ⟨L, hL, e⟩ := hv; exact ⟨L, h _ _ hL, e⟩
  | _ => exact hv

theorem all2_mono {α β : Type} {R S : α → β → Prop} (h : ∀ a b, R a b → S a b) {xs : List α} {ys : List β} (hr : All2 R xs ys) : All2 S xs ys := by
  induction xs generalizing ys with
  | nil => cases ys <;> exact hr
  | cons x xs ih =>
    cases ys with
    | nil => exact hr
    | cons y ys => exact ⟨h _ _ hr.1, ih hr.2⟩

theorem CRel.mono {μ μ' : Mu} (h : μ.Le μ') {v c : Value} (hv : CRel μ v c) : CRel μ' v c := by
  cases v with
  | func fn fs cs => obtain ⟨h0, ds, e, hf⟩ := hv; exact ⟨h0, ds, e, all2_mono (fun _ _ => CRel0.mono h) hf⟩
  | _ => simp only [CRel] at hv ⊢; exact CRel0.mono h hv

theorem VRel.mono {μ μ' : Mu} (h : μ.Le μ') {v c : Value} (hv : VRel μ v c) : VRel μ' v c := by
  cases v with
  | agg cs => obtain ⟨ds, e, hf⟩ := hv; exact ⟨ds, e, all2_mono (fun _ _ => CRel.mono h) hf⟩
  | _ => simp only [VRel] at hv ⊢; exact CRel.mono h hv

theorem TRel.mono {μ μ' : Mu} (h : μ.Le μ') {v c : Value} (hv : TRel μ v c) : TRel μ' v c := by
  cases v with
  | tuple cs => obtain ⟨ds, e, hf⟩ := hv; exact ⟨ds, e, all2_mono (fun _ _ => VRel.mono h) hf⟩
  | _ => simp only [TRel] at hv ⊢; exact VRel.mono h hv

/-- a value of one cell -/
def isOne : Value → Bool
  | .agg _ | .tuple _ => false
  | _ => true

theorem CRel.one {μ : Mu} {v c : Value} (h : CRel μ v c) : isOne v = true ∧ c.oneCell' = true := by
  cases v with
  | func fn fs cs => obtain ⟨h0, ds, e, hf⟩ := h; subst e; exact ⟨rfl, rfl⟩
  | pointer p =>
    cases p with
    | none => have e : c = _ := h; subst e; exact ⟨rfl, rfl⟩
    | some p => obtain ⟨h0, L, hL, e⟩ := h; subst e; exact ⟨rfl, rfl⟩
  | slice p n m =>
    cases p with
    | none => obtain ⟨_, _, e⟩ := h; subst e; exact ⟨rfl, rfl⟩
    | some p => obtain ⟨h0, h1, a, m', e, _⟩ := h; subst e; exact ⟨rfl, rfl⟩
  | map r =>
    cases r with
    | none => have e : c = _ := h; subst e; exact ⟨rfl, rfl⟩
    | some o => obtain ⟨L, hL, e⟩ := h; subst e; exact ⟨rfl, rfl⟩
  | bool b => have e : c = _ := h; subst e; exact ⟨rfl, rfl⟩
  | int k n => have e : c = _ := h; subst e; exact ⟨rfl, rfl⟩
  | string s => have e : c = _ := h; subst e; exact ⟨rfl, rfl⟩
  | nilFunc => have e : c = _ := h; subst e; exact ⟨rfl, rfl⟩
  | nilIface => have e : c = _ := h; subst e; exact ⟨rfl, rfl⟩
  | float _ _ => exact h.elim
  | complex _ _ _ => exact h.elim
  | chan _ => exact h.elim
  | iface _ _ => exact h.elim
  | agg _ => exact h.elim
  | tuple _ => exact h.elim

theorem TRel.of_c {μ : Mu} {v c : Value} (h1 : isOne v = true) (h : CRel μ v c) : TRel μ v c := by
  cases v <;> first | exact h | (simp [isOne] at h1)
theorem CRel.of_t {μ : Mu} {v c : Value} (h1 : isOne v = true) (h : TRel μ v c) : CRel μ v c := by
  cases v <;> first | exact h | (simp [isOne] at h1)
theorem TRel.of_v {μ : Mu} {v c : Value} (h1 : ∀ cs, v ≠ .tuple cs) (h : VRel μ v c) : TRel μ v c := by
  cases v <;> first | exact h | (exact absurd rfl (h1 _))
theorem VRel.of_t {μ : Mu} {v c : Value} (h1 : ∀ cs, v ≠ .tuple cs) (h : TRel μ v c) : VRel μ v c := by
  cases v <;> first | exact h | (exact absurd rfl (h1 _))

/-- the cells of a value and of what it stands for -/
theorem VRel.cells {μ : Mu} {v c : Value} (h : VRel μ v c) : All2 (CRel μ) v.cells.toList c.cells.toList := by
  cases v with
  | agg cs => obtain ⟨ds, e, hf⟩ := h; subst e; exact hf
  | tuple cs => exact h.elim
  | _ =>
    simp only [VRel] at h
    have h1 := h.one.2
    cases c <;> first | (simp [Value.oneCell'] at h1; done) | exact ⟨h, trivial⟩

/-- The heap as the abstract one says (an object without a place is yet to come). -/
structure HRel (P : Program) (μ : Mu) (H : AH) (w : World) : Prop where
  dom : ∀ o, H.length ≤ o → μ o = none
  cells_ : ∀ o vs t ro L, H[o]? = some (.cells vs t ro) → μ o = some L → L.blk < w.heap.size ∧ 0 < L.sz ∧ L.sz = P.cellsOf t ∧ vs.length ≤ L.ext ∧
    (∀ i v, vs[i]? = some v → ∃ cv, w.cell? ⟨L.blk, L.base + i, none⟩ = some cv ∧ CRel μ v cv) ∧
    (ro = false → ∃ cur, w.heap[L.blk]? = some (.cells cur t (0, 0)) ∧ L.base + L.ext ≤ cur.size)
  maps_ : ∀ o es L, H[o]? = some (.mp es) → μ o = some L → ∃ cs clock, w.heap[L.blk]? = some (.map cs clock) ∧
    All2 (fun (e : Value × Value) (m : MapEntry) => CRel μ e.1 m.key ∧ CRel μ e.2 m.val) es cs.toList
  sep : ∀ o o' x x' L L', o ≠ o' → H[o]? = some x → H[o']? = some x' → x.wr = true → x'.live = true → μ o = some L → μ o' = some L' → L.blk ≠ L'.blk

theorem HRel.cells {P : Program} {μ : Mu} {H : AH} {w : World} (h : HRel P μ H w) {o : Nat} {vs : List Value} {t : TypeId} {ro : Bool} (ho : H[o]? = some (.cells vs t ro)) {L : Loc} (hL : μ o = some L) :
    ∃ L, μ o = some L ∧ L.blk < w.heap.size ∧ 0 < L.sz ∧ L.sz = P.cellsOf t ∧ vs.length ≤ L.ext ∧
    (∀ i v, vs[i]? = some v → ∃ cv, w.cell? ⟨L.blk, L.base + i, none⟩ = some cv ∧ CRel μ v cv) ∧
    (ro = false → ∃ cur, w.heap[L.blk]? = some (.cells cur t (0, 0)) ∧ L.base + L.ext ≤ cur.size) := ⟨L, hL, h.cells_ o vs t ro L ho hL⟩

/-- How memory may have changed: blocks that no writable object has are as they were. -/
structure Evo (μ : Mu) (H : AH) (w : World) (μ' : Mu) (H' : AH) (w' : World) : Prop where
  le : μ.Le μ'
  len : H.length ≤ H'.length
  old : ∀ o, o < H.length → μ' o = μ o
  os : w'.os = w.os
  tape : w'.tape = w.tape
  output : w'.output = w.output
  size : w.heap.size ≤ w'.heap.size
  frame : ∀ b, b < w.heap.size → (∀ o x L, H[o]? = some x → x.wr = true → μ o = some L → L.blk ≠ b) → w'.heap[b]? = w.heap[b]?
  own : ∀ o x L, H'[o]? = some x → x.wr = true → μ' o = some L → w.heap.size ≤ L.blk ∨ ∃ o1 x1 L1, H[o1]? = some x1 ∧ x1.wr = true ∧ μ o1 = some L1 ∧ L1.blk = L.blk

theorem Evo.refl (μ : Mu) (H : AH) (w : World) : Evo μ H w μ H w :=
  ⟨Mu.Le.refl _, Nat.le_refl _, fun _ _ => rfl, rfl, rfl, rfl, Nat.le_refl _, fun _ _ _ => rfl, fun o x L h1 h2 h3 => .inr ⟨o, x, L, h1, h2, h3, rfl⟩⟩

theorem Evo.trans {μ μ' μ'' : Mu} {H H' H'' : AH} {w w' w'' : World} (h : Evo μ H w μ' H' w') (k : Evo μ' H' w' μ'' H'' w'') : Evo μ H w μ'' H'' w'' := by
  refine ⟨h.le.trans k.le, Nat.le_trans h.len k.len, fun o ho => (k.old o (Nat.lt_of_lt_of_le ho h.len)).trans (h.old o ho), k.os.trans h.os, k.tape.trans h.tape, k.output.trans h.output, Nat.le_trans h.size k.size, ?_, ?_⟩
  · intro b hb hn
    refine (k.frame b (Nat.lt_of_lt_of_le hb h.size) ?_).trans (h.frame b hb hn)
    intro o x L h1 h2 h3 e
    rcases h.own o x L h1 h2 h3 with h4 | ⟨o1, x1, L1, g1, g2, g3, g4⟩
    · omega
    · exact hn o1 x1 L1 g1 g2 g3 (g4.trans e)
  · intro o x L h1 h2 h3
    rcases k.own o x L h1 h2 h3 with h4 | ⟨o1, x1, L1, g1, g2, g3, g4⟩
    · exact .inl (Nat.le_trans h.size h4)
    · rcases h.own o1 x1 L1 g1 g2 g3 with h5 | ⟨o2, x2, L2, f1, f2, f3, f4⟩
      · exact .inl (by omega)
      · exact .inr ⟨o2, x2, L2, f1, f2, f3, f4.trans g4⟩

/-- Behind it, below a number from which on all writable objects lie, nothing has changed. -/
theorem Evo.below {μ μ' : Mu} {H H' : AH} {w w' : World} (h : Evo μ H w μ' H' w') {B : Nat} (hB : B ≤ w.heap.size) (ho : ∀ o x L, H[o]? = some x → x.wr = true → μ o = some L → B ≤ L.blk) : Below B w w' :=
  ⟨h.os, h.tape, h.output, h.size, fun k hk => h.frame k (by omega) (fun o x L h1 h2 h3 e => by have := ho o x L h1 h2 h3; omega)⟩

/-- a cell's reading: what it needs of the world is its block -/
theorem cell_of_block {w w' : World} {a : Addr} (h : w'.heap[a.block]? = w.heap[a.block]?) : w'.cell? a = w.cell? a := by simp [World.cell?, h]

/-- A world in which every live object's block is as it was. -/
theorem HRel.same {P : Program} {μ : Mu} {H : AH} {w w' : World} (h : HRel P μ H w) (hs : w.heap.size ≤ w'.heap.size)
    (hb : ∀ o x L, H[o]? = some x → x.live = true → μ o = some L → w'.heap[L.blk]? = w.heap[L.blk]?) : HRel P μ H w' := by
  refine ⟨h.dom, ?_, ?_, h.sep⟩
  · intro o vs t ro L ho h1
    obtain ⟨h2, h3, h4, h5, h6, h7⟩ := h.cells_ o vs t ro L ho h1
    have e := hb o _ L ho rfl h1
    refine ⟨by omega, h3, h4, h5, ?_, ?_⟩
    · intro i v hv
      obtain ⟨cv, g1, g2⟩ := h6 i v hv
      exact ⟨cv, by rw [cell_of_block (a := ⟨L.blk, L.base + i, none⟩) e]; exact g1, g2⟩
    · intro hr
      rw [e]; exact h7 hr
  · intro o es L ho h1
    obtain ⟨cs, clock, h2, h3⟩ := h.maps_ o es L ho h1
    have e := hb o _ L ho rfl h1
    exact ⟨cs, clock, by rw [e]; exact h2, h3⟩

/-- A draw. -/
theorem HRel.drew {P : Program} {μ : Mu} {H : AH} {w : World} (h : HRel P μ H w) : HRel P μ H w.drew := h.same (Nat.le_refl _) (fun _ _ _ _ _ _ => rfl)
theorem Evo.drew (μ : Mu) (H : AH) (w : World) : Evo μ H w μ H w.drew :=
  ⟨Mu.Le.refl _, Nat.le_refl _, fun _ _ => rfl, rfl, rfl, rfl, Nat.le_refl _, fun _ _ _ => rfl, fun o x L h1 h2 h3 => .inr ⟨o, x, L, h1, h2, h3, rfl⟩⟩

/-- Slots: a value for each number. -/
abbrev Sl := Nat → Value

def Sl.put (s : Sl) (d : Option Nat) (v : Value) : Sl :=
  match d with
  | none => s
  | some d => fun i => if i = d then v else s i

theorem Sl.put_at (s : Sl) (d : Nat) (v : Value) (i : Nat) : Sl.put s (some d) v i = if i = d then v else s i := rfl
theorem Sl.put_none (s : Sl) (v : Value) : Sl.put s none v = s := rfl

def evalA (s : Sl) : Operand → Value
  | .tmp t => s t
  | .const v => v
  | .func f => .func (.func f) #[] #[]
  | .global _ => undef

/-- A constant that stands for itself. -/
def plainC : Value → Bool
  | .bool _ | .int _ _ | .string _ | .pointer none | .slice none 0 0 | .map none | .nilFunc | .nilIface => true
  | _ => false
def plainV : Value → Bool
  | .agg cs => cs.toList.all plainC
  | .tuple cs => cs.toList.all plainC
  | v => plainC v

theorem plainC_self (μ : Mu) {v : Value} (h : plainC v = true) : CRel0 μ v v := by
  unfold plainC at h
  split at h <;> first | rfl | exact ⟨rfl, rfl, rfl⟩ | cases h

theorem all2_self {α : Type} {R : α → α → Prop} {p : α → Bool} (h : ∀ a, p a = true → R a a) (l : List α) (hl : l.all p = true) : All2 R l l := by
  induction l with
  | nil => trivial
  | cons x l ih =>
    simp only [List.all_cons, Bool.and_eq_true] at hl
    exact ⟨h x hl.1, ih hl.2⟩

theorem CRel.of0 {μ : Mu} {v c : Value} (h : CRel0 μ v c) : CRel μ v c := by
  cases v <;> first | exact h.elim | exact h
theorem VRel.of0 {μ : Mu} {v c : Value} (h : CRel0 μ v c) : VRel μ v c := by
  cases v <;> first | exact h.elim | exact h
theorem TRel.of0 {μ : Mu} {v c : Value} (h : CRel0 μ v c) : TRel μ v c := by
  cases v <;> first | exact h.elim | exact h

theorem plainV_self (μ : Mu) {v : Value} (h : plainV v = true) : TRel μ v v := by
  cases v with
  | agg cs => exact ⟨cs, rfl, all2_self (fun a ha => CRel.of0 (plainC_self μ ha)) _ h⟩
  | tuple cs => exact ⟨cs, rfl, all2_self (fun a ha => VRel.of0 (plainC_self μ ha)) _ h⟩
  | _ => exact TRel.of0 (plainC_self μ h)

structure SRel (N : Nat) (μ : Mu) (s : Sl) (a : Act) : Prop where
  defers : a.defers = []
  size : a.tmps.size = N
  at_ : ∀ i, TRel μ (s i) (a.tmps.getD i undef)

theorem SRel.mono {N : Nat} {μ μ' : Mu} {s : Sl} {a : Act} (h : SRel N μ s a) (hm : μ.Le μ') : SRel N μ' s a := ⟨h.defers, h.size, fun i => (h.at_ i).mono hm⟩

theorem TRel.undef (μ : Mu) : TRel μ undef undef := ⟨#[], rfl, trivial⟩

theorem SRel.put {N : Nat} {μ : Mu} {s : Sl} {a : Act} (h : SRel N μ s a) {d : Option Nat} (hd : ∀ i, d = some i → i < N) {v c : Value} (hv : TRel μ v c) : SRel N μ (s.put d v) (a.put d c) := by
  cases d with
  | none => exact h
  | some d =>
    have hlt := hd d rfl
    refine ⟨h.defers, by simp [Act.put, h.size], fun i => ?_⟩
    simp only [Sl.put, Act.put, Array.getD_eq_getD_getElem?, Array.getElem?_setIfInBounds]
    by_cases e : i = d
    · subst e
      rw [if_pos rfl, if_pos rfl, if_pos (by rw [h.size]; exact hlt)]
      exact hv
    · rw [if_neg e, if_neg (fun x => e x.symm)]
      have := h.at_ i
      simpa [Array.getD_eq_getD_getElem?] using this

def opOkC : Operand → Bool
  | .tmp _ => true
  | .const v => plainV v
  | .func _ => true
  | .global _ => false

theorem SRel.eval {N : Nat} {μ : Mu} {s : Sl} {a : Act} (h : SRel N μ s a) {x : Operand} (hx : opOkC x = true) : TRel μ (evalA s x) (a.eval x) := by
  cases x with
  | tmp t => exact h.at_ t
  | const v => exact plainV_self μ hx
  | func f => exact ⟨rfl, #[], rfl, trivial⟩
  | global g => cases hx

end Go.Proofs.Ytnoihoeaconllaa.Ai
