/- Slim operations: what a region's operation does over an abstract heap, its guard by slot; regions in text order. No condition. -/
import Derived.Test.YtnoihoeaconllaaAi7
import Derived.Orders
namespace Go.Proofs.Ytnoihoeaconllaa.Ai
open Go Go.RowKit
set_option linter.unusedVariables false
set_option linter.unusedSimpArgs false

/-- an operation without its place: where its value goes, what it does, its guard (a slot and what it must hold) -/
structure Opx where
  dst : Option Nat
  op : Op
  grd : Option (Nat × Bool)

/-- .. and the earlier operations that may come after it in memory's own order -/
structure Stp where
  x : Opx
  ws : List Opx

/-- a branch (simp looks at its condition alone) -/
def Br (b : Bool) (A B : Prop) : Prop := (b = true → A) ∧ (b = false → B)
theorem Br.intro {b : Bool} {A B : Prop} (h1 : b = true → A) (h2 : b = false → B) : Br b A B := ⟨h1, h2⟩
theorem Br.T (A B : Prop) : Br true A B = A := by simp [Br]
theorem Br.F (A B : Prop) : Br false A B = B := by simp [Br]
def runX (P : Program) (x : Opx) (s : Sl) (H : AH) (K : Value → AH → Prop) : Prop :=
  match x.grd with
  | none => stepW P x.op s H K
  | some (g, want) => match s g with
    | .bool b => (match want with | true => Br b (stepW P x.op s H K) (K undef H) | false => Br b (K undef H) (stepW P x.op s H K))
    | _ => K undef H

def idOf : Value → Option Nat
  | .pointer (some p) => some p.block
  | .slice (some p) _ _ => some p.block
  | _ => none

def isMk : Op → Bool
  | .alloc _ | .box .. | .buildSlice .. | .makeSlice .. => true
  | _ => false

def grdOn (g : Option (Nat × Bool)) (s : Sl) : Prop :=
  match g with
  | none => True
  | some (g, want) => s g = .bool want

/-- an operation that may come later finds what it found before -/
def watch1 (P : Program) (x : Opx) (s : Sl) (H H' : AH) : Prop :=
  match x.dst with
  | none => False
  | some d =>
    match isMk x.op with
    | true => match idOf (s d) with | some o => H'[o]? = H[o]? | none => True
    | false => grdOn x.grd s → stepA P x.op s H' = some (s d, H')

def watchA (P : Program) (s : Sl) (H H' : AH) : List Opx → Prop
  | [] => True
  | x :: xs => watch1 P x s H H' ∧ watchA P s H H' xs

theorem watchA_mem {P : Program} {s : Sl} {H H' : AH} {xs : List Opx} {x : Opx} (h : watchA P s H H' xs) (hm : x ∈ xs) : watch1 P x s H H' := by
  induction xs with
  | nil => cases hm
  | cons y xs ih =>
    simp only [watchA] at h
    rcases List.mem_cons.1 hm with e | hm
    · rw [e]; exact h.1
    · exact ih h.2 hm

def wpSteps (P : Program) (Q : Sl → AH → Prop) : List Stp → Sl → AH → Prop
  | [], s, H => Q s H
  | t :: rest, s, H => runX P t.x s H fun v H' => watchA P (s.put t.x.dst v) H H' t.ws ∧ wpSteps P Q rest (s.put t.x.dst v) H'

/-- a guard, by slot -/
def grdOf (ops : Array Oper) (o : Oper) : Option (Option (Nat × Bool)) :=
  match o.guard with
  | none => some none
  | some (j, want) => match (ops[j]?).bind (·.dst) with | some d => some (some (d, want)) | none => none

def opxOf (ops : Array Oper) (o : Oper) : Option Opx := (grdOf ops o).map fun g => ⟨o.dst, o.op, g⟩

/-- one operation of a region, in the model -/
theorem oper_sound {P : Program} {N : Nat} {μ : Mu} {H : AH} {w : World} (hH : HRel P μ H w) {s : Sl} {a : Act} (hs : SRel N μ s a) {ops : Array Oper} {i : Nat} {o : Oper} (ho : ops[i]? = some o) {g : Option (Nat × Bool)} (hg : grdOf ops o = some g)
    (hok : opOK o.op = true) (hd : ∀ i, o.dst = some i → i < N) {K : Value → AH → Prop} {next : Act → World → Prop} {Q : Exit → Act → World → Prop} (h : runX P ⟨o.dst, o.op, g⟩ s H K)
    (hn : ∀ v H' μ' cv w', K v H' → TRel μ' v cv → HRel P μ' H' w' → Evo μ H w μ' H' w' → next (a.put o.dst cv) w') : wpOp P ops Q i next a w := by
  unfold wpOp
  simp only [ho]
  unfold grdOf at hg
  unfold runX at h
  cases hgd : o.guard with
  | none =>
    rw [hgd] at hg
    cases hg
    rw [if_pos (by simp [Region.wanted, hgd])]
    exact .inl (stepW_sound hH hs o hok hd h hn)
  | some gw =>
    obtain ⟨j, want⟩ := gw
    rw [hgd] at hg
    simp only at hg
    have hy := yielded_eq hs ops j
    unfold guardVal at hy
    rw [Array.getElem?_toList] at hy
    split at hg
    · rename_i d e
      cases hg
      rw [e] at hy
      simp only at hy h
      split at h
      · rename_i b eb
        rw [eb] at hy
        simp only at hy
        by_cases hb : b = want
        · rw [if_pos (by simp [Region.wanted, hgd, hy, hb])]
          exact .inl (stepW_sound hH hs o hok hd (by subst hb; cases b <;> first | exact h.1 rfl | exact h.2 rfl) hn)
        · rw [if_neg (by simp [Region.wanted, hgd, hy, hb])]
          exact hn undef H μ undef w (by cases b <;> cases want <;> first | exact h.1 rfl | exact h.2 rfl | exact absurd rfl hb) (TRel.undef _) hH (Evo.refl _ _ _)
      · rename_i hnb
        have hy' : yielded ops a.tmps j = none := by
          rw [hy]
          split
          · rename_i b eb; exact absurd eb (hnb b)
          · rfl
        rw [if_neg (by simp [Region.wanted, hgd, hy'])]
        exact hn undef H μ undef w h (TRel.undef _) hH (Evo.refl _ _ _)
    · cases hg

theorem Oper.wp_weaken {P : Program} {o : Oper} {a : Act} {w : World} {K K' : Act → World → Prop} {Q Q' : Exit → Act → World → Prop} (h : ∀ a w, K a w → K' a w) (hq : ∀ e a w, Q e a w → Q' e a w) (hh : o.wp P a w K Q) : o.wp P a w K' Q' := by
  unfold Oper.wp at *
  generalize (execOp a.eval o).run P w = r at *
  cases r with
  | ok n w' =>
    cases n <;> simp only [Oper.upon] at hh ⊢ <;>
      first
        | exact h _ _ hh
        | exact Calls.mono hh (fun e w'' he => by cases e <;> first | exact h _ _ he | exact hq _ _ _ he | (obtain ⟨a0, w0, h0⟩ := he; exact ⟨a0, w0, hq _ _ _ h0⟩))
        | exact Rows.mono hh (fun _ _ he => h _ _ he)
  | halt x w' => cases x <;> simp only [Oper.upon] at hh ⊢ <;> exact hq _ _ _ hh

theorem wpOps_weaken {P : Program} {ops : Array Oper} {Q Q' : Exit → Act → World → Prop} (hq : ∀ e a w, Q e a w → Q' e a w) : ∀ (is : List Nat) (a : Act) (w : World), wpOps P ops Q is a w → wpOps P ops Q' is a w := by
  intro is
  induction is with
  | nil => intro a w h; exact hq _ _ _ h
  | cons i is ihs =>
    intro a w2 h
    simp only [wpOps] at h ⊢
    split
    · rename_i e; rw [e] at h; exact ihs _ _ h
    · rename_i o2 e
      rw [e] at h
      simp only at h
      split
      · rename_i hw; rw [if_pos hw] at h
        exact h.imp (Oper.wp_weaken ihs hq) (fun h => ⟨h.1, by obtain ⟨a0, w0, h0⟩ := h.2; exact ⟨a0, w0, hq _ _ _ h0⟩⟩)
      · rename_i hw; rw [if_neg hw] at h; exact ihs _ _ h

/-- the steps of a region in text order -/
def textSteps (ops : Array Oper) : List Oper → Option (List Stp)
  | [] => some []
  | o :: l => match opxOf ops o, textSteps ops l with
    | some x, some r => some (⟨x, []⟩ :: r)
    | _, _ => none

theorem text_sound {P : Program} {N : Nat} {ops : Array Oper} {Q : Exit → Sl → AH → Prop} : ∀ (l : List Oper) (k : Nat), (∀ j, l[j]? = ops[k + j]?) → (∀ o ∈ l, opOK o.op = true ∧ ∀ i, o.dst = some i → i < N) → ∀ ts, textSteps ops l = some ts →
    ∀ (s : Sl) (H : AH) (μ : Mu) (a : Act) (w : World), wpSteps P (Q .normal) ts s H → HRel P μ H w → SRel N μ s a → wpOps P ops (Post P N μ H w Q) (List.range' k l.length) a w
  | [], k, _, _, ts, ht, s, H, μ, a, w, h, hH, hs => by
    simp only [textSteps, Option.some.injEq] at ht
    subst ht
    exact ⟨μ, s, H, hH, hs, Evo.refl _ _ _, h⟩
  | o :: l, k, hl, hok, ts, ht, s, H, μ, a, w, h, hH, hs => by
    have h0 : ops[k]? = some o := by have := hl 0; simpa using this.symm
    have hl' : ∀ j, l[j]? = ops[k + 1 + j]? := fun j => by have := hl (j + 1); rw [show k + (j + 1) = k + 1 + j from by omega] at this; simpa using this
    simp only [textSteps] at ht
    split at ht
    · rename_i x r hx hr
      cases ht
      unfold opxOf at hx
      cases hg : grdOf ops o with
      | none => rw [hg] at hx; cases hx
      | some g =>
        rw [hg] at hx
        cases hx
        simp only [wpSteps] at h
        rw [List.length_cons, List.range'_succ, wpOps_cons]
        refine oper_sound hH hs h0 hg (hok o List.mem_cons_self).1 (hok o List.mem_cons_self).2 h ?_
        intro v H' μ' cv w' hk hv hH' he
        refine wpOps_weaken (fun e a w h => Post.trans he h) _ _ _ ?_
        exact text_sound l (k + 1) hl' (fun o ho => hok o (List.mem_cons_of_mem _ ho)) r hr _ _ _ _ _ hk.2 hH' ((hs.mono he.le).put (hok o List.mem_cons_self).2 hv)
    · cases ht

end Go.Proofs.Ytnoihoeaconllaa.Ai
