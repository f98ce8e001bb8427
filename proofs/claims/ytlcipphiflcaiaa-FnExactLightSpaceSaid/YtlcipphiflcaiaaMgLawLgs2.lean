/- Texts of this claim, joined: AiM2, AiM3. -/
import Derived.Orders
import Derived.WalkKit
import Derived.ProofKit
import Derived.OpenShut
import Derived.ShutString
import Derived.ChangeOld
import Derived.Below
import Derived.SizedLaws
import Derived.WideKeyPair
import Derived.Test.YtlcipphiflcaiaaMgLawLgs1
namespace Go.Proofs.Ytlcipphiflcaiaa.Ai
open Go Go.RowKit
set_option linter.unusedVariables false
set_option linter.unusedSimpArgs false
/-- A call of function f over an abstract heap returns, and what it returns and the heap behind it are as R says. -/
def ACalls (P : Program) (f : FuncId) (args : List Value) (H : AH) (R : Value → AH → Prop) : Prop :=
  (∃ fn, P.funcs[f]? = some fn ∧ fn.body.isNone = false ∧ (fn.name == "runtime.NumGoroutine") = false) ∧
  ∀ (μ : Mu) (w : World) (cargs : Array Value), HRel P μ H w → All2 (TRel μ) args cargs.toList →
    Calls P f cargs w fun e w' => ∃ μ' r H' cr, e = .returned cr ∧ TRel μ' r cr ∧ HRel P μ' H' w' ∧ Evo μ H w μ' H' w' ∧ R r H'
theorem ACalls.mono {P : Program} {f : FuncId} {args : List Value} {H : AH} {R R' : Value → AH → Prop} (h : ACalls P f args H R) (hr : ∀ r H', R r H' → R' r H') : ACalls P f args H R' :=
  ⟨h.1, fun μ w cargs hH ha => (h.2 μ w cargs hH ha).mono fun e w' ⟨μ', r, H', cr, h1, h2, h3, h4, h5⟩ => ⟨μ', r, H', cr, h1, h2, h3, h4, hr r H' h5⟩⟩
/-- One operation, a call too. -/
def stepW (P : Program) (op : Op) (s : Sl) (H : AH) (K : Value → AH → Prop) : Prop :=
  match op with
  | .call { callee := .value f, args := xs, .. } =>
    match evalA s f with
    | .func (.func g) fs caps => ACalls P g (fs.toList ++ (evalsA s xs ++ caps.toList)) H K
    | _ => False
  | op =>
    match stepA P op s H with
    | some (v, H') => K v H'
    | none => False
/-- what a guard's operation has left -/
def guardVal (ops : List Oper) (j : Nat) (s : Sl) : Option Bool :=
  match (ops[j]?).bind (·.dst) with
  | some d => match s d with | .bool b => some b | _ => none
  | none => none
/-- what the model's code must come to -/
def Post (P : Program) (N : Nat) (μ : Mu) (H : AH) (w : World) (Q : Exit → Sl → AH → Prop) : Exit → Act → World → Prop := fun e a' w' =>
  ∃ μ' s' H', HRel P μ' H' w' ∧ SRel N μ' s' a' ∧ Evo μ H w μ' H' w' ∧ Q e s' H'
theorem Post.trans {P : Program} {N : Nat} {μ μ' : Mu} {H H' : AH} {w w' : World} {Q : Exit → Sl → AH → Prop} (h : Evo μ H w μ' H' w') {e : Exit} {a : Act} {w2 : World} (hp : Post P N μ' H' w' Q e a w2) : Post P N μ H w Q e a w2 := by
  obtain ⟨μ2, s2, H2, h1, h2, h3, h4⟩ := hp
  exact ⟨μ2, s2, H2, h1, h2, h.trans h3, h4⟩
def AWP (P : Program) (N : Nat) (c : Code) (Q : Exit → Sl → AH → Prop) (s : Sl) (H : AH) : Prop :=
  ∀ (μ : Mu) (a : Act) (w : World), HRel P μ H w → SRel N μ s a → c.wp P (Post P N μ H w Q) a w
theorem trel_bool {μ : Mu} {v : Value} {b : Bool} (h : TRel μ v (.bool b)) : v = .bool b := by
  cases v with
  | bool c => have : Value.bool b = .bool c := h; rw [this]
  | int k n => have : Value.bool b = .int k n := h; cases this
  | string s => have : Value.bool b = .string s := h; cases this
  | pointer p =>
    cases p with
    | none => have : Value.bool b = .pointer none := h; cases this
    | some p => obtain ⟨_, L, _, e⟩ := h; cases e
  | slice p n c =>
    cases p with
    | none => obtain ⟨_, _, e⟩ := h; cases e
    | some p => obtain ⟨_, _, a, m, e, _⟩ := h; cases e
  | map r =>
    cases r with
    | none => have : Value.bool b = .map none := h; cases this
    | some r => obtain ⟨L, _, e⟩ := h; cases e
  | nilFunc => have : Value.bool b = .nilFunc := h; cases this
  | nilIface => have : Value.bool b = .nilIface := h; cases this
  | func f fs cs => obtain ⟨_, ds, e, _⟩ := h; cases e
  | agg cs => obtain ⟨ds, e, _⟩ := h; cases e
  | tuple cs => obtain ⟨ds, e, _⟩ := h; cases e
  | float _ _ => exact h.elim
  | complex _ _ _ => exact h.elim
  | chan _ => exact h.elim
  | iface _ _ => exact h.elim
theorem yielded_eq {N : Nat} {μ : Mu} {s : Sl} {a : Act} (hs : SRel N μ s a) (ops : Array Oper) (j : Nat) : yielded ops a.tmps j = guardVal ops.toList j s := by
  unfold yielded guardVal
  rw [Array.getElem?_toList]
  cases hd : (ops[j]?).bind (·.dst) with
  | none => rfl
  | some d =>
    have h := hs.at_ d
    simp only [Option.bind_some]
    rw [Array.getD_eq_getD_getElem?] at h
    cases ht : a.tmps[d]? with
    | none =>
      rw [ht] at h
      simp only [Option.getD_none] at h
      cases hv : s d <;> first | rfl | (rw [hv] at h; have : undef = .bool _ := h; cases this)
    | some v =>
      rw [ht] at h
      simp only [Option.getD_some] at h
      cases v with
      | bool b => rw [trel_bool h]
      | _ =>
        cases hv : s d <;> first | rfl | (rw [hv] at h; cases (show _ = Value.bool _ from h))
/-- one operation, in the model -/
theorem stepW_sound {P : Program} {N : Nat} {μ : Mu} {H : AH} {w : World} (hH : HRel P μ H w) {s : Sl} {a : Act} (hs : SRel N μ s a) (o : Oper) (hok : opOK o.op = true) (hd : ∀ i, o.dst = some i → i < N)
    {K : Value → AH → Prop} {next : Act → World → Prop} {Q : Exit → Act → World → Prop} (h : stepW P o.op s H K)
    (hn : ∀ v H' μ' cv w', K v H' → TRel μ' v cv → HRel P μ' H' w' → Evo μ H w μ' H' w' → next (a.put o.dst cv) w') : o.wp P a w next Q := by
  have plain : (∃ v H', stepA P o.op s H = some (v, H') ∧ K v H') → o.wp P a w next Q := by
    rintro ⟨v, H', h1, h2⟩
    obtain ⟨μ', cv, w', g1, g2, g3, g4⟩ := stepA_ok hH hs o hok h1
    unfold Oper.wp
    rcases g1 with g1 | ⟨g1, rfl⟩
    · rw [g1]; exact hn v H' μ' cv w' h2 g2 g3 g4
    · rw [g1]; exact hn v H' μ' undef w' h2 g2 g3 g4
  have other : (match stepA P o.op s H with | some (v, H') => K v H' | none => False) → o.wp P a w next Q := by
    intro h
    split at h
    · rename_i v H' e; exact plain ⟨v, H', e, h⟩
    · exact h.elim
  obtain ⟨dst, op, type, pos, after, guard⟩ := o
  cases op with
  | call c =>
    obtain ⟨callee, xs, ts⟩ := c
    cases callee with
    | value f =>
      simp only [stepW] at h
      simp only [opOK, Bool.and_eq_true] at hok
      split at h
      · rename_i g fs caps e
        have hf := hs.eval hok.2
        rw [e] at hf
        obtain ⟨es, ds, e2, hfs, hcaps⟩ := hf
        obtain ⟨⟨fn, f1, f2, f3⟩, hc⟩ := h
        have hargs := evals_all2 hs xs.toList hok.1
        have hall : All2 (TRel μ) (fs.toList ++ (evalsA s xs ++ caps.toList)) (es ++ xs.map a.eval ++ ds).toList := by
          rw [Array.toList_append, Array.toList_append, Array.toList_map, List.append_assoc]
          refine all2_append (all2_mono (fun _ _ => TRel.of_f) hfs) (all2_append hargs ?_)
          have key : ∀ (as bs : List Value), All2 (CRel0 μ) as bs → All2 (TRel μ) as bs := fun as bs hab => all2_mono (fun _ _ => TRel.of0) hab
          exact key _ _ hcaps
        have hrun : (execOp a.eval ⟨dst, .call ⟨.value f, xs, ts⟩, type, pos, after, guard⟩).run P w = .ok (.enter g (es ++ xs.map a.eval ++ ds)) w := by
          simp only [execOp, resolve, e2, Deferred.ofValue, pure_bind, invoke]
          simp only [callFunc, Sem.run_bind, run_program, Result.andThen_ok, f1, f3, Bool.false_eq_true, if_false, f2, Sem.run_pure]
        unfold Oper.wp
        rw [hrun]
        refine (hc μ w _ hH hall).mono ?_
        rintro e w' ⟨μ', r, H', cr, rfl, k1, k2, k3, k4⟩
        exact hn r H' μ' cr w' k4 k1 k2 k3
      · exact h.elim
    | builtin b => exact other h
    | invoke r m => exact other h
  | _ => exact other h
end Go.Proofs.Ytlcipphiflcaiaa.Ai
namespace Go.Proofs.Ytlcipphiflcaiaa.Ai
open Go Go.RowKit
set_option linter.unusedVariables false
set_option linter.unusedSimpArgs false
/-- an operation without its place: where its value goes, what it does, its guard (a slot and what it must hold) -/
structure Opx where
  dst : Option Nat
  op : Op
  grd : Option (Nat × Bool)
/-- .. and the earlier operations that may come after it in memory's own order -/
structure Stp where
  x : Opx
  ws : List Opx
/-- a branch (simp looks at its condition alone) -/
def Br (b : Bool) (A B : Prop) : Prop := (b = true → A) ∧ (b = false → B)
theorem Br.intro {b : Bool} {A B : Prop} (h1 : b = true → A) (h2 : b = false → B) : Br b A B := ⟨h1, h2⟩
theorem Br.T (A B : Prop) : Br true A B = A := by simp [Br]
theorem Br.F (A B : Prop) : Br false A B = B := by simp [Br]
def runX (P : Program) (x : Opx) (s : Sl) (H : AH) (K : Value → AH → Prop) : Prop :=
  match x.grd with
  | none => stepW P x.op s H K
  | some (g, want) => match s g with
    | .bool b => (match want with | true => Br b (stepW P x.op s H K) (K undef H) | false => Br b (K undef H) (stepW P x.op s H K))
    | _ => K undef H
def idOf : Value → Option Nat
  | .pointer (some p) => some p.block
  | .slice (some p) _ _ => some p.block
  | _ => none
def isMk : Op → Bool
  | .alloc _ | .box .. | .buildSlice .. | .makeSlice .. => true
  | _ => false
def grdOn (g : Option (Nat × Bool)) (s : Sl) : Prop :=
  match g with
  | none => True
  | some (g, want) => s g = .bool want
/-- an operation that may come later finds what it found before -/
def watch1 (P : Program) (x : Opx) (s : Sl) (H H' : AH) : Prop :=
  match x.dst with
  | none => False
  | some d =>
    match isMk x.op with
    | true => match idOf (s d) with | some o => H'[o]? = H[o]? | none => True
    | false => grdOn x.grd s → stepA P x.op s H' = some (s d, H')
def watchA (P : Program) (s : Sl) (H H' : AH) : List Opx → Prop
  | [] => True
  | x :: xs => watch1 P x s H H' ∧ watchA P s H H' xs
theorem watchA_mem {P : Program} {s : Sl} {H H' : AH} {xs : List Opx} {x : Opx} (h : watchA P s H H' xs) (hm : x ∈ xs) : watch1 P x s H H' := by
  induction xs with
  | nil => cases hm
  | cons y xs ih =>
    simp only [watchA] at h
    rcases List.mem_cons.1 hm with e | hm
    · rw [e]; exact h.1
    · exact ih h.2 hm
def wpSteps (P : Program) (Q : Sl → AH → Prop) : List Stp → Sl → AH → Prop
  | [], s, H => Q s H
  | t :: rest, s, H => runX P t.x s H fun v H' => watchA P (s.put t.x.dst v) H H' t.ws ∧ wpSteps P Q rest (s.put t.x.dst v) H'
/-- a guard, by slot -/
def grdOf (ops : Array Oper) (o : Oper) : Option (Option (Nat × Bool)) :=
  match o.guard with
  | none => some none
  | some (j, want) => match (ops[j]?).bind (·.dst) with | some d => some (some (d, want)) | none => none
def opxOf (ops : Array Oper) (o : Oper) : Option Opx := (grdOf ops o).map fun g => ⟨o.dst, o.op, g⟩
/-- one operation of a region, in the model -/
theorem oper_sound {P : Program} {N : Nat} {μ : Mu} {H : AH} {w : World} (hH : HRel P μ H w) {s : Sl} {a : Act} (hs : SRel N μ s a) {ops : Array Oper} {i : Nat} {o : Oper} (ho : ops[i]? = some o) {g : Option (Nat × Bool)} (hg : grdOf ops o = some g)
    (hok : opOK o.op = true) (hd : ∀ i, o.dst = some i → i < N) {K : Value → AH → Prop} {next : Act → World → Prop} {Q : Exit → Act → World → Prop} (h : runX P ⟨o.dst, o.op, g⟩ s H K)
    (hn : ∀ v H' μ' cv w', K v H' → TRel μ' v cv → HRel P μ' H' w' → Evo μ H w μ' H' w' → next (a.put o.dst cv) w') : wpOp P ops Q i next a w := by
  unfold wpOp
  simp only [ho]
  unfold grdOf at hg
  unfold runX at h
  cases hgd : o.guard with
  | none =>
    rw [hgd] at hg
    cases hg
    rw [if_pos (by simp [Region.wanted, hgd])]
    exact .inl (stepW_sound hH hs o hok hd h hn)
  | some gw =>
    obtain ⟨j, want⟩ := gw
    rw [hgd] at hg
    simp only at hg
    have hy := yielded_eq hs ops j
    unfold guardVal at hy
    rw [Array.getElem?_toList] at hy
    split at hg
    · rename_i d e
      cases hg
      rw [e] at hy
      simp only at hy h
      split at h
      · rename_i b eb
        rw [eb] at hy
        simp only at hy
        by_cases hb : b = want
        · rw [if_pos (by simp [Region.wanted, hgd, hy, hb])]
          exact .inl (stepW_sound hH hs o hok hd (by subst hb; cases b <;> first | exact h.1 rfl | exact h.2 rfl) hn)
        · rw [if_neg (by simp [Region.wanted, hgd, hy, hb])]
          exact hn undef H μ undef w (by cases b <;> cases want <;> first | exact h.1 rfl | exact h.2 rfl | exact absurd rfl hb) (TRel.undef _) hH (Evo.refl _ _ _)
      · rename_i hnb
        have hy' : yielded ops a.tmps j = none := by
          rw [hy]
          split
          · rename_i b eb; exact absurd eb (hnb b)
          · rfl
        rw [if_neg (by simp [Region.wanted, hgd, hy'])]
        exact hn undef H μ undef w h (TRel.undef _) hH (Evo.refl _ _ _)
    · cases hg
theorem Oper.wp_weaken {P : Program} {o : Oper} {a : Act} {w : World} {K K' : Act → World → Prop} {Q Q' : Exit → Act → World → Prop} (h : ∀ a w, K a w → K' a w) (hq : ∀ e a w, Q e a w → Q' e a w) (hh : o.wp P a w K Q) : o.wp P a w K' Q' := by
  unfold Oper.wp at *
  generalize (execOp a.eval o).run P w = r at *
  cases r with
  | ok n w' =>
    cases n <;> simp only [Oper.upon] at hh ⊢ <;>
      first
        | exact h _ _ hh
        | exact Calls.mono hh (fun e w'' he => by cases e <;> first | exact h _ _ he | exact hq _ _ _ he | (obtain ⟨a0, w0, h0⟩ := he; exact ⟨a0, w0, hq _ _ _ h0⟩))
        | exact Rows.mono hh (fun _ _ he => h _ _ he)
  | halt x w' => cases x <;> simp only [Oper.upon] at hh ⊢ <;> exact hq _ _ _ hh
theorem wpOps_weaken {P : Program} {ops : Array Oper} {Q Q' : Exit → Act → World → Prop} (hq : ∀ e a w, Q e a w → Q' e a w) : ∀ (is : List Nat) (a : Act) (w : World), wpOps P ops Q is a w → wpOps P ops Q' is a w := by
  intro is
  induction is with
  | nil => intro a w h; exact hq _ _ _ h
  | cons i is ihs =>
    intro a w2 h
    simp only [wpOps] at h ⊢
    split
    · rename_i e; rw [e] at h; exact ihs _ _ h
    · rename_i o2 e
      rw [e] at h
      simp only at h
      split
      · rename_i hw; rw [if_pos hw] at h
        exact h.imp (Oper.wp_weaken ihs hq) (fun h => ⟨h.1, by obtain ⟨a0, w0, h0⟩ := h.2; exact ⟨a0, w0, hq _ _ _ h0⟩⟩)
      · rename_i hw; rw [if_neg hw] at h; exact ihs _ _ h
/-- the steps of a region in text order -/
def textSteps (ops : Array Oper) : List Oper → Option (List Stp)
  | [] => some []
  | o :: l => match opxOf ops o, textSteps ops l with
    | some x, some r => some (⟨x, []⟩ :: r)
    | _, _ => none
theorem text_sound {P : Program} {N : Nat} {ops : Array Oper} {Q : Exit → Sl → AH → Prop} : ∀ (l : List Oper) (k : Nat), (∀ j, l[j]? = ops[k + j]?) → (∀ o ∈ l, opOK o.op = true ∧ ∀ i, o.dst = some i → i < N) → ∀ ts, textSteps ops l = some ts →
    ∀ (s : Sl) (H : AH) (μ : Mu) (a : Act) (w : World), wpSteps P (Q .normal) ts s H → HRel P μ H w → SRel N μ s a → wpOps P ops (Post P N μ H w Q) (List.range' k l.length) a w
  | [], k, _, _, ts, ht, s, H, μ, a, w, h, hH, hs => by
    simp only [textSteps, Option.some.injEq] at ht
    subst ht
    exact ⟨μ, s, H, hH, hs, Evo.refl _ _ _, h⟩
  | o :: l, k, hl, hok, ts, ht, s, H, μ, a, w, h, hH, hs => by
    have h0 : ops[k]? = some o := by have := hl 0; simpa using this.symm
    have hl' : ∀ j, l[j]? = ops[k + 1 + j]? := fun j => by have := hl (j + 1); rw [show k + (j + 1) = k + 1 + j from by omega] at this; simpa using this
    simp only [textSteps] at ht
    split at ht
    · rename_i x r hx hr
      cases ht
      unfold opxOf at hx
      cases hg : grdOf ops o with
      | none => rw [hg] at hx; cases hx
      | some g =>
        rw [hg] at hx
        cases hx
        simp only [wpSteps] at h
        rw [List.length_cons, List.range'_succ, wpOps_cons]
        refine oper_sound hH hs h0 hg (hok o List.mem_cons_self).1 (hok o List.mem_cons_self).2 h ?_
        intro v H' μ' cv w' hk hv hH' he
        refine wpOps_weaken (fun e a w h => Post.trans he h) _ _ _ ?_
        exact text_sound l (k + 1) hl' (fun o ho => hok o (List.mem_cons_of_mem _ ho)) r hr _ _ _ _ _ hk.2 hH' ((hs.mono he.le).put (hok o List.mem_cons_self).2 hv)
    · cases ht
end Go.Proofs.Ytlcipphiflcaiaa.Ai
namespace Go.Proofs.Ytlcipphiflcaiaa.Ai
open Go Go.RowKit
set_option linter.unusedVariables false
set_option linter.unusedSimpArgs false
/-- 0: stays where it is; 1: computes; 2: reads; 3: makes an object -/
def fl : Op → Nat
  | .move _ | .assign _ | .pick .. | .build .. | .nilCheck _ | .binOp .. | .unOp .. | .convert .. | .makeFunc .. | .fieldAddr .. | .field .. | .indexAddr .. | .index .. | .extract .. => 1
  | .load .. | .slice _ _ _ _ none => 2
  | .alloc _ | .box .. | .buildSlice .. | .makeSlice .. => 3
  | .call { callee := .builtin .len, argTypes := ts, .. } => if ts.toList = [mapT] then 0 else 1
  | .call { callee := .builtin .min, .. } | .call { callee := .builtin .max, .. } => 1
  | _ => 0
theorem fl_mk {op : Op} : fl op = 3 → isMk op = true := by
  unfold fl; split <;> intro h <;> first | rfl | cases h | (split at h <;> cases h)
theorem fl_notmk {op : Op} : fl op = 1 ∨ fl op = 2 → isMk op = false := by
  unfold fl; split <;> intro h <;> first | rfl | (rcases h with h | h <;> cases h)
theorem evalsA_congr {s s' : Sl} {xs : List Operand} (h : ∀ x ∈ xs, evalA s x = evalA s' x) : xs.map (evalA s) = xs.map (evalA s') := List.map_congr_left h
theorem stepA_congr {P : Program} {op : Op} {s s' : Sl} (h : ∀ x ∈ op.operands, evalA s x = evalA s' x) (H : AH) : stepA P op s H = stepA P op s' H := by
  cases op with
  | build t ps =>
    have : partsA s ps = partsA s' ps := by
      unfold partsA
      exact List.map_congr_left fun p hp => by rw [h p.2 (by simpa [Op.operands] using ⟨p.1, by simpa using hp⟩)]
    simp only [stepA, this]
  | buildSlice t n ps =>
    have : partsA s ps = partsA s' ps := by
      unfold partsA
      exact List.map_congr_left fun p hp => by rw [h p.2 (by simpa [Op.operands] using ⟨p.1, by simpa using hp⟩)]
    simp only [stepA, this]
  | makeFunc fn first caps =>
    have h1 : evalsA s first = evalsA s' first := evalsA_congr fun x hx => h x (by simp [Op.operands]; exact .inl (by simpa using hx))
    have h2 : evalsA s caps = evalsA s' caps := evalsA_congr fun x hx => h x (by simp [Op.operands]; exact .inr (by simpa using hx))
    simp only [stepA, h1, h2]
  | slice t x lo hi mx =>
    have h0 := h x (by simp [Op.operands])
    have h1 : lo.map (evalA s) = lo.map (evalA s') := by cases lo <;> first | rfl | (simp only [Option.map_some]; rw [h _ (by simp [Op.operands])])
    have h2 : hi.map (evalA s) = hi.map (evalA s') := by cases hi <;> first | rfl | (simp only [Option.map_some]; rw [h _ (by simp [Op.operands])])
    cases mx with
    | none => simp only [stepA, h0, h1, h2]
    | some m =>
      have h3 := h m (by simp [Op.operands])
      simp only [stepA, h0, h1, h2, h3]
  | call c =>
    obtain ⟨callee, xs, ts⟩ := c
    cases callee with
    | builtin b =>
      have : evalsA s xs = evalsA s' xs := evalsA_congr fun x hx => h x (by simp [Op.operands, Call.operands]; simpa using hx)
      simp only [stepA, this]
    | _ => rfl
  | move x => simp only [stepA, h x (by simp [Op.operands])]
  | assign x => simp only [stepA, h x (by simp [Op.operands])]
  | box e x => simp only [stepA, h x (by simp [Op.operands])]
  | load e x => simp only [stepA, h x (by simp [Op.operands])]
  | nilCheck x => simp only [stepA, h x (by simp [Op.operands])]
  | unOp o e x => simp only [stepA, h x (by simp [Op.operands])]
  | convert e f x => simp only [stepA, h x (by simp [Op.operands])]
  | fieldAddr e x f => simp only [stepA, h x (by simp [Op.operands])]
  | field e x f => simp only [stepA, h x (by simp [Op.operands])]
  | extract x f => simp only [stepA, h x (by simp [Op.operands])]
  | pick c x y => simp only [stepA, h c (by simp [Op.operands]), h x (by simp [Op.operands]), h y (by simp [Op.operands])]
  | store e x y => simp only [stepA, h x (by simp [Op.operands]), h y (by simp [Op.operands])]
  | binOp o e x y f => simp only [stepA, h x (by simp [Op.operands]), h y (by simp [Op.operands])]
  | makeSlice e x y => simp only [stepA, h x (by simp [Op.operands]), h y (by simp [Op.operands])]
  | indexAddr e x y => simp only [stepA, h x (by simp [Op.operands]), h y (by simp [Op.operands])]
  | index e x y => simp only [stepA, h x (by simp [Op.operands]), h y (by simp [Op.operands])]
  | lookup e x y b => simp only [stepA, h x (by simp [Op.operands]), h y (by simp [Op.operands])]
  | mapUpdate e x y z => simp only [stepA, h x (by simp [Op.operands]), h y (by simp [Op.operands]), h z (by simp [Op.operands])]
  | insert e x y z => simp only [stepA, h x (by simp [Op.operands]), h y (by simp [Op.operands]), h z (by simp [Op.operands])]
  | makeMap t r => cases r <;> rfl
  | _ => rfl
theorem stepW_congr {P : Program} {op : Op} {s s' : Sl} (h : ∀ x ∈ op.operands, evalA s x = evalA s' x) (H : AH) (K : Value → AH → Prop) : stepW P op s H K = stepW P op s' H K := by
  cases op with
  | call c =>
    obtain ⟨callee, xs, ts⟩ := c
    cases callee with
    | value f =>
      have h1 : evalsA s xs = evalsA s' xs := evalsA_congr fun x hx => h x (by simp [Op.operands, Call.operands]; exact .inr (by simpa using hx))
      have h2 : evalA s f = evalA s' f := h f (by simp [Op.operands, Call.operands])
      simp only [stepW, h1, h2]
    | builtin b => simp only [stepW, stepA_congr h]
    | invoke r m => simp only [stepW, stepA_congr h]
  | _ => simp only [stepW, stepA_congr h]
theorem pair_map {x : Option Value} {v : Value} {H H1 : AH} (h : x.map (·, H) = some (v, H1)) : H1 = H ∧ x = some v := by
  cases x with
  | none => cases h
  | some a => simp only [Option.map_some, Option.some.injEq, Prod.mk.injEq] at h; exact ⟨h.2.symm, by rw [h.1]⟩
/-- what only computes -/
theorem pure_step {P : Program} {op : Op} {s : Sl} {H H1 : AH} {v : Value} (hp : fl op = 1) (h : stepA P op s H = some (v, H1)) : H1 = H ∧ ∀ H2, stepA P op s H2 = some (v, H2) := by
  cases op with
  | move x => simp only [stepA, Option.some.injEq, Prod.mk.injEq] at h ⊢; exact ⟨h.2.symm, fun _ => ⟨h.1, trivial⟩⟩
  | assign x => simp only [stepA, Option.some.injEq, Prod.mk.injEq] at h ⊢; exact ⟨h.2.symm, fun _ => ⟨h.1, trivial⟩⟩
  | pick c x y =>
    simp only [stepA] at h ⊢
    split at h
    · simp only [Option.some.injEq, Prod.mk.injEq] at h ⊢; exact ⟨h.2.symm, fun _ => ⟨h.1, trivial⟩⟩
    · cases h
  | nilCheck x =>
    simp only [stepA] at h ⊢
    split at h
    · simp only [Option.some.injEq, Prod.mk.injEq] at h ⊢; exact ⟨h.2.symm, fun _ => ⟨h.1, trivial⟩⟩
    · simp only [Option.some.injEq, Prod.mk.injEq] at h ⊢; exact ⟨h.2.symm, fun _ => ⟨h.1, trivial⟩⟩
    · cases h
  | build t ps => obtain ⟨e, k⟩ := pair_map h; exact ⟨e, fun H2 => by simp only [stepA, k, Option.map_some]⟩
  | binOp o t x y f => obtain ⟨e, k⟩ := pair_map h; exact ⟨e, fun H2 => by simp only [stepA, k, Option.map_some]⟩
  | unOp o t x => obtain ⟨e, k⟩ := pair_map h; exact ⟨e, fun H2 => by simp only [stepA, k, Option.map_some]⟩
  | convert t f x => obtain ⟨e, k⟩ := pair_map h; exact ⟨e, fun H2 => by simp only [stepA, k, Option.map_some]⟩
  | makeFunc t f x => obtain ⟨e, k⟩ := pair_map h; exact ⟨e, fun H2 => by simp only [stepA, k, Option.map_some]⟩
  | fieldAddr t x f => obtain ⟨e, k⟩ := pair_map h; exact ⟨e, fun H2 => by simp only [stepA, k, Option.map_some]⟩
  | field t x f => obtain ⟨e, k⟩ := pair_map h; exact ⟨e, fun H2 => by simp only [stepA, k, Option.map_some]⟩
  | indexAddr t x f => obtain ⟨e, k⟩ := pair_map h; exact ⟨e, fun H2 => by simp only [stepA, k, Option.map_some]⟩
  | index t x f => obtain ⟨e, k⟩ := pair_map h; exact ⟨e, fun H2 => by simp only [stepA, k, Option.map_some]⟩
  | extract x f => obtain ⟨e, k⟩ := pair_map h; exact ⟨e, fun H2 => by simp only [stepA, k, Option.map_some]⟩
  | call c =>
    obtain ⟨callee, xs, ts⟩ := c
    cases callee with
    | builtin b =>
      cases b with
      | len =>
        simp only [stepA] at h ⊢
        have ht0 : ∀ t : TypeId, ts.toList = [t] → ¬ t = mapT := fun t e1 e => by
          have hp' : (if ts.toList = [mapT] then 0 else 1) = 1 := hp
          rw [e1, e, if_pos rfl] at hp'
          cases hp'
        unfold builtinA at h ⊢
        split at h <;> first | (rename_i hb _ _; cases hb; done) | (rename_i hb; cases hb; done) | cases h | skip
        all_goals
          rename_i e1 e2
          rw [if_neg (ht0 _ e1)] at h
          obtain ⟨e, k⟩ := pair_map h
          refine ⟨e, fun H2 => ?_⟩
          simp only [e1, e2, if_neg (ht0 _ e1), k, Option.map_some]
      | min =>
        simp only [stepA, builtinA] at h ⊢
        obtain ⟨e, k⟩ := pair_map h; exact ⟨e, fun H2 => by simp only [k, Option.map_some]⟩
      | max =>
        simp only [stepA, builtinA] at h ⊢
        obtain ⟨e, k⟩ := pair_map h; exact ⟨e, fun H2 => by simp only [k, Option.map_some]⟩
      | _ => cases hp
    | _ => cases hp
  | slice t x lo hi mx => cases mx <;> cases hp
  | _ => cases hp
/-- what only reads -/
theorem read_step {P : Program} {op : Op} {s : Sl} {H H1 : AH} {v : Value} (hp : fl op = 2) (h : stepA P op s H = some (v, H1)) : H1 = H ∧ ∀ o, stepA P op s (H ++ [o]) = some (v, H ++ [o]) := by
  have look : ∀ {b : Nat} {x : AObj} (o : AObj), H[b]? = some x → (H ++ [o])[b]? = some x := by
    intro b x o hb
    rw [List.getElem?_append_left (List.getElem?_eq_some_iff.1 hb).1]; exact hb
  cases op with
  | load t x =>
    obtain ⟨e, k⟩ := pair_map h
    refine ⟨e, fun o => ?_⟩
    have k2 : loadA P t (evalA s x) (H ++ [o]) = some v := by
      unfold loadA at k ⊢
      split at k
      · split at k
        · rename_i hb; simp only [look o hb]; exact k
        · cases k
      · cases k
    simp only [stepA, k2, Option.map_some]
  | slice t x lo hi mx =>
    cases mx with
    | some m => cases hp
    | none =>
    obtain ⟨e, k⟩ := pair_map h
    refine ⟨e, fun o => ?_⟩
    have k2 : sliceA P t (evalA s x) (lo.map (evalA s)) (hi.map (evalA s)) none (H ++ [o]) = some v := by
      unfold sliceA at k ⊢
      split at k
      · split at k
        · rename_i h1 h2 hb; simp only [h1, h2, look o hb]; exact k
        · cases k
      · exact k
      · cases k
    simp only [stepA, k2, Option.map_some]
  | call c =>
    obtain ⟨callee, xs, ts⟩ := c
    cases callee with
    | builtin b => cases b <;> first | cases hp | (simp only [fl] at hp; split at hp <;> cases hp)
    | _ => cases hp
  | _ => cases hp
/-- what an object's making comes to in memory: a block of its own; vof: the value, by the object's number -/
def Made (P : Program) (op : Oper) (s : Sl) (vof : Nat → Value) (obj : AObj) : Prop :=
  ∀ (N : Nat) (μ : Mu) (a : Act) (w : World), SRel N μ s a → ∃ cv cur t vs ext, obj = .cells vs t false ∧ (execOp a.eval op).run P w = .ok (.value cv) (w.alloc (.cells cur t)) ∧
    0 < P.cellsOf t ∧ vs.length ≤ ext ∧ ext ≤ cur.size ∧ (∀ (i : Nat) (v : Value), vs[i]? = some v → ∃ cv, cur[i]? = some cv ∧ CRel μ v cv) ∧
    ∀ (μ' : Mu) o, μ' o = some ⟨w.heap.size, 0, ext, P.cellsOf t⟩ → TRel μ' (vof o) cv
theorem box_made {P : Program} {t : TypeId} {v v' : Value} {H H' : AH} (h : boxA P t v H = some (v', H')) :
    ∃ (vof : Nat → Value) (obj : AObj), v' = vof H.length ∧ H' = H ++ [obj] ∧ idOf v' = some H.length ∧ ∀ (μ : Mu) (w : World) (cv : Value), TRel μ v cv → ∃ c cur vs ext, obj = .cells vs t false ∧ (Instr.box t cv).run P w = .ok c (w.alloc (.cells cur t)) ∧
    0 < P.cellsOf t ∧ vs.length ≤ ext ∧ ext ≤ cur.size ∧ (∀ (i : Nat) (v : Value), vs[i]? = some v → ∃ cv, cur[i]? = some cv ∧ CRel μ v cv) ∧
    ∀ (μ' : Mu) o, μ' o = some ⟨w.heap.size, 0, ext, P.cellsOf t⟩ → TRel μ' (vof o) c := by
  unfold boxA at h
  split at h
  · rename_i hc
    cases h
    refine ⟨fun o => .pointer (some ⟨o, 0, none⟩), _, rfl, rfl, rfl, ?_⟩
    intro μ w cv hv
    have hcs := (VRel.of_t' hc.1 hv).cells
    have hl := all2_len hcs
    refine ⟨.pointer (some ⟨w.heap.size, 0, none⟩), cv.cells, _, cv.cells.size, rfl, by simp [Instr.box, newVar, newRow], hc.2, by rw [← Array.length_toList, ← hl]; exact Nat.le_refl _, Nat.le_refl _, ?_, ?_⟩
    · intro i x hx
      obtain ⟨y, h1, h2⟩ := all2_at hcs i x hx
      exact ⟨y, by simpa using h1, h2⟩
    · intro μ' o ho
      exact ⟨rfl, _, ho, by simp⟩
  · cases h
theorem mk_step {P : Program} {o : Oper} {s : Sl} {H H1 : AH} {v : Value} (hp : fl o.op = 3) (hok : opOK o.op = true) (h : stepA P o.op s H = some (v, H1)) :
    ∃ (vof : Nat → Value) (obj : AObj), v = vof H.length ∧ H1 = H ++ [obj] ∧ idOf v = some H.length ∧ Made P o s vof obj := by
  obtain ⟨dst, op, type, pos, after, guard⟩ := o
  simp only at h hok hp
  cases op with
  | box e x =>
    obtain ⟨vof, obj, h1, h2, h0, h3⟩ := box_made h
    refine ⟨vof, obj, h1, h2, h0, ?_⟩
    intro N μ a w hs
    obtain ⟨c, cur, vs, ext, g1, g2, g3⟩ := h3 μ w _ (hs.eval hok)
    refine ⟨c, cur, e, vs, ext, g1, ?_, g3⟩
    simp only [execOp, Sem.run_bind]
    have : (Instr.box e (a.eval x)).run P w = .ok c (w.alloc (.cells cur e)) := g2
    rw [this]; rfl
  | alloc e =>
    have h' : allocA P e H = some (v, H1) := h
    unfold allocA at h'
    split at h'
    · rename_i z hz
      split at h'
      · rename_i hpz
        obtain ⟨vof, obj, h1, h2, h0, h3⟩ := box_made h'
        refine ⟨vof, obj, h1, h2, h0, ?_⟩
        intro N μ a w hs
        obtain ⟨c, cur, vs, ext, g1, g2, g3⟩ := h3 μ w _ (plainV_self μ hpz)
        refine ⟨c, cur, e, vs, ext, g1, ?_, g3⟩
        have : (Instr.alloc e true (.tuple #[])).run P w = .ok c (w.alloc (.cells cur e)) := by
          simpa [Instr.alloc, zeroA_run hz, Instr.box] using g2
        simp only [execOp, Sem.run_bind]
        rw [this]; rfl
      · cases h'
    · cases h'
  | buildSlice t len ps =>
    have h' : buildSliceA P t len (partsA s ps) H = some (v, H1) := h
    unfold buildSliceA at h'
    split at h'
    · rename_i e hu
      split at h'
      · rename_i hc
        obtain ⟨hsz, hbd, hnt⟩ := hc
        split at h'
        · rename_i z hz
          split at h'
          · rename_i hp
            obtain ⟨hp, hzs⟩ := hp
            split at h'
            · rename_i r hf
              cases h'
              refine ⟨fun o => .slice (some ⟨o, 0, none⟩) len len, _, rfl, rfl, rfl, ?_⟩
              intro N μ a w hs
              have hps := parts_all2 hs ps.toList hok hnt
              obtain ⟨r', hf', hall⟩ := fill_all2 (μ := μ) (fun i => some (i * P.cellsOf e, P.cellsOf e)) _ _ (zerosA z (len * P.cellsOf e)).toArray ((Array.range (len * P.cellsOf e)).map (z.cells[· % z.cells.size]!)) r hps (by
                exact zerosA_all2 μ hp _ (by omega)) hf
              have hl := all2_len hall
              have hr' : r'.size = len * P.cellsOf e := by rw [fill_size _ _ _ _ hf']; simp
              refine ⟨.slice (some ⟨w.heap.size, 0, none⟩) len len, r', e, _, r'.size, rfl, ?_, hsz, by rw [hl]; simp, Nat.le_refl _, ?_, ?_⟩
              · have hps' : (ps.map fun (i, x) => (i, a.eval x)).toList = ps.toList.map fun p => (p.1, a.eval p.2) := by simp
                have hrun : (Instr.buildSlice t len (ps.map fun (i, x) => (i, a.eval x))).run P w = .ok (.slice (some ⟨w.heap.size, 0, none⟩) len len) (w.alloc (.cells r' e)) := by
                  simp only [Instr.buildSlice, Sem.run_bind, run_underlying hu, Result.andThen_ok, sizeOf_run hsz, Sem.run_ite]
                  rw [if_neg (by omega)]
                  by_cases h0 : len * P.cellsOf e = 0
                  · rw [if_pos h0]
                    simp only [Sem.run_pure, Result.andThen_ok]
                    rw [h0] at hf' ⊢
                    have hf2 : Instr.fill (fun i => some (i * P.cellsOf e, P.cellsOf e)) ((Array.range 0).map fun x => (#[] : Array Value)[x % (#[] : Array Value).size]!) (ps.map fun (i, x) => (i, a.eval x)).toList = some r' := by
                      have hnil : ∀ f : Nat → Value, (Array.range 0).map f = #[] := fun f => by simp
                      rw [hnil] at hf' ⊢
                      rw [hps']; exact hf'
                    rw [hf2]
                    simp [newRow]
                  · rw [if_neg h0]
                    simp only [Sem.run_bind, zeroA_run hz, Result.andThen_ok, Sem.run_pure]
                    rw [hps', hf']
                    simp [newRow]
                simp only [execOp, Sem.run_bind]
                rw [hrun]; rfl
              · intro i x hx
                obtain ⟨y, h1, h2⟩ := all2_at hall i x hx
                exact ⟨y, by simpa using h1, h2⟩
              · intro μ' o ho
                refine ⟨rfl, rfl, _, len, rfl, Nat.le_refl _, .inr ⟨_, ho, by simp, ?_⟩⟩
                show 0 + len * P.cellsOf e ≤ r'.size
                omega
            · cases h'
          · cases h'
        · cases h'
      · cases h'
    · cases h'
  | makeSlice t l c =>
    have h' : makeSliceA P t (evalA s l) (evalA s c) H = some (v, H1) := h
    simp only [opOK, Bool.and_eq_true] at hok
    generalize hl : evalA s l = vl at h'
    generalize hc : evalA s c = vc at h'
    unfold makeSliceA at h'
    split at h'
    · rename_i n m e hu
      split at h'
      · rename_i hcnd
        obtain ⟨rfl, h0, hsz, hby, hmx⟩ := hcnd
        split at h'
        · rename_i z hz
          split at h'
          · rename_i hp
            obtain ⟨hp, hzs⟩ := hp
            cases h'
            refine ⟨fun o => .slice (some ⟨o, 0, none⟩) n.toNat n.toNat, _, rfl, rfl, rfl, ?_⟩
            intro N μ a w hs
            have e1 := hs.eval hok.1
            have e2 := hs.eval hok.2
            rw [hl] at e1
            rw [hc] at e2
            have e1 : a.eval l = .int .i64 n := e1
            have e2 : a.eval c = .int .i64 n := e2
            obtain ⟨i, hi, hi1, hi2⟩ := sizeOf_info hsz
            refine ⟨.slice (some ⟨w.heap.size, 0, none⟩) n.toNat n.toNat, (Array.range (n.toNat * P.cellsOf e)).map (z.cells[· % z.cells.size]!), e, _, n.toNat * P.cellsOf e, rfl, ?_, hsz, by simp [zerosA], by simp, ?_, ?_⟩
            · have hw : IntKind.i64.wrap n = n := by rw [IntKind.wrap_i64]; omega
              have hbi : (i.bytes : Int) * n ≤ 281474976710656 := by
                rw [hi2]
                have : (n.toNat : Int) = n := by omega
                rw [← this]
                have h2 : (((n.toNat * P.bytesOf e : Nat)) : Int) ≤ 281474976710656 := by omega
                rw [Int.natCast_mul] at h2
                rw [Int.mul_comm]; exact h2
              have hn0 : ¬ n < 0 := by omega
              have hbi' : ¬ (281474976710656 < (i.bytes : Int) * n) := by omega
              have hrun : (Instr.makeSlice t (.int .i64 n) (.int .i64 n)).run P w = .ok (.slice (some ⟨w.heap.size, 0, none⟩) n.toNat n.toNat) (w.alloc (.cells ((Array.range (n.toNat * P.cellsOf e)).map (z.cells[· % z.cells.size]!)) e)) := by
                simp only [Instr.makeSlice, Sem.run_bind, run_underlying hu, Result.andThen_ok, asInt, asIntOf, Sem.run_pure, typeInfo, run_program, hi, hw]
                simp [hn0, hbi', sizeOf_run hsz]
                by_cases h00 : n.toNat * P.cellsOf e = 0
                · have hnil : ∀ f : Nat → Value, (Array.range 0).map f = #[] := fun f => by simp
                  rw [if_pos h00, h00]
                  simp only [Result.andThen_ok, newRow, Sem.run_bind, run_newObj, Sem.run_pure, hnil]
                  rfl
                · rw [if_neg h00]
                  simp [zeroA_run hz, newRow]
              simp only [execOp, Sem.run_bind, e1, e2]
              rw [hrun]; rfl
            · intro i x hx
              obtain ⟨y, h1, h2⟩ := all2_at (zerosA_all2 μ hp (n.toNat * P.cellsOf e) (by omega)) i x hx
              exact ⟨y, by rw [Array.getElem?_toList] at h1; exact h1, h2⟩
            · intro μ' o ho
              exact ⟨rfl, rfl, _, n.toNat, rfl, Nat.le_refl _, .inr ⟨_, ho, by simp, by simp⟩⟩
          · cases h'
        · cases h'
      · cases h'
    · cases h'
  | call c =>
    obtain ⟨callee, xs, ts⟩ := c
    cases callee with
    | builtin b => cases b <;> first | cases hp | (simp only [fl] at hp; split at hp <;> cases hp)
    | _ => cases hp
  | slice t x lo hi mx => cases mx <;> cases hp
  | _ => cases hp
/-- an object that was to come has come -/
theorem HRel.realize {P : Program} {μ : Mu} {H : AH} {w : World} (h : HRel P μ H w) {o : Nat} {t : TypeId} {vs : List Value} {cur : Array Value} {ext : Nat} (ho : H[o]? = some (.cells vs t false)) (hm : μ o = none)
    (hsz : 0 < P.cellsOf t) (hl : vs.length ≤ ext) (he : ext ≤ cur.size) (hc : ∀ (i : Nat) (v : Value), vs[i]? = some v → ∃ cv, cur[i]? = some cv ∧ CRel μ v cv) :
    HRel P (μ.put o ⟨w.heap.size, 0, ext, P.cellsOf t⟩) H (w.alloc (.cells cur t)) := by
  have hlt : o < H.length := (List.getElem?_eq_some_iff.1 ho).1
  have hle : μ.Le (μ.put o ⟨w.heap.size, 0, ext, P.cellsOf t⟩) := Mu.le_put hm
  have hnew : (w.alloc (.cells cur t)).heap[w.heap.size]? = some (.cells cur t (0, 0)) := by show (w.heap.push _)[w.heap.size]? = _; simp
  have hold : ∀ b, b < w.heap.size → (w.alloc (.cells cur t)).heap[b]? = w.heap[b]? := fun b hb => Below.heap_alloc w _ b hb
  refine ⟨?_, ?_, ?_, ?_⟩
  · intro i hi
    rw [Mu.put_other _ _ _ (by omega)]; exact h.dom i hi
  · intro i vs' t' ro L hi hL
    by_cases e : i = o
    · subst e
      rw [ho] at hi
      simp only [Option.some.injEq, AObj.cells.injEq] at hi
      obtain ⟨rfl, rfl, rfl⟩ := hi
      rw [Mu.put_same] at hL
      cases hL
      refine ⟨by simp, hsz, rfl, hl, ?_, fun _ => ⟨cur, hnew, by simpa using he⟩⟩
      intro j v hv
      obtain ⟨cv, g1, g2⟩ := hc j v hv
      exact ⟨cv, by rw [cells_at hnew]; simpa using g1, g2.mono hle⟩
    · rw [Mu.put_other _ _ _ e] at hL
      obtain ⟨h2, h3, h4, h5, h6, h7⟩ := h.cells_ i vs' t' ro L hi hL
      refine ⟨by simp; omega, h3, h4, h5, ?_, ?_⟩
      · intro j v hv
        obtain ⟨cv, g1, g2⟩ := h6 j v hv
        exact ⟨cv, by rw [cell_of_block (a := ⟨L.blk, L.base + j, none⟩) (hold _ h2)]; exact g1, g2.mono hle⟩
      · intro hr
        rw [hold _ h2]; exact h7 hr
  · intro i es L hi hL
    by_cases e : i = o
    · subst e; rw [ho] at hi; cases hi
    · rw [Mu.put_other _ _ _ e] at hL
      obtain ⟨cs, clock, h2, h3⟩ := h.maps_ i es L hi hL
      refine ⟨cs, clock, ?_, all2_mono (fun a b hab => ⟨hab.1.mono hle, hab.2.mono hle⟩) h3⟩
      rw [hold _ (Array.getElem?_eq_some_iff.1 h2).1]; exact h2
  · intro i i' x x' L L' hne h1 h2 h3 h4 h5 h6
    have hx : x.live = true := by cases x <;> first | rfl | cases h3
    by_cases e : i = o
    · subst e
      rw [Mu.put_same] at h5
      cases h5
      rw [Mu.put_other _ _ _ (fun e => hne e.symm)] at h6
      have g2 := h.live_lt h2 h4 h6
      show w.heap.size ≠ L'.blk
      omega
    · rw [Mu.put_other _ _ _ e] at h5
      by_cases e' : i' = o
      · subst e'
        rw [Mu.put_same] at h6
        cases h6
        have g2 := h.live_lt h1 hx h5
        show L.blk ≠ w.heap.size
        omega
      · rw [Mu.put_other _ _ _ e'] at h6
        exact h.sep i i' x x' L L' hne h1 h2 h3 h4 h5 h6
theorem Evo.realize {μ0 μ : Mu} {H0 H : AH} {w0 w : World} (h : Evo μ0 H0 w0 μ H w) {o : Nat} (hm : μ o = none) (hlo : H0.length ≤ o) (L : Loc) (hL : L.blk = w.heap.size) (c : Obj) : Evo μ0 H0 w0 (μ.put o L) H (w.alloc c) := by
  refine ⟨h.le.trans (Mu.le_put hm), h.len, fun i hi => by rw [Mu.put_other _ _ _ (by omega)]; exact h.old i hi, h.os, h.tape, h.output, by simp; have := h.size; omega, ?_, ?_⟩
  · intro b hb hn
    rw [Below.heap_alloc w _ b (by have := h.size; omega)]
    exact h.frame b hb hn
  · intro i x L' h1 h2 h3
    by_cases e : i = o
    · subst e
      rw [Mu.put_same] at h3
      cases h3
      exact .inl (by rw [hL]; exact h.size)
    · rw [Mu.put_other _ _ _ e] at h3
      exact h.own i x L' h1 h2 h3
end Go.Proofs.Ytlcipphiflcaiaa.Ai
namespace Go.Proofs.Ytlcipphiflcaiaa.Ai
open Go Go.RowKit
set_option linter.unusedVariables false
set_option linter.unusedSimpArgs false
def readsOf (x : Opx) : List Nat := (x.op.operands.toList.filterMap fun | .tmp t => some t | _ => none) ++ (match x.grd with | some (g, _) => [g] | none => [])
def opxAt (ops : Array Oper) (j : Nat) : Option Opx := (ops[j]?).bind (opxOf ops)
/-- what must have been before, as bits, closed -/
def bitsOk (ops : Array Oper) (B : Array Nat) : Bool :=
  (List.range ops.size).all fun i => match ops[i]? with
    | some o => (B.getD i 0 == o.after.toList.foldl (fun s e => if Region.binds .any e = true then s ||| 2 ^ e.on ||| B.getD e.on 0 else s) 0) && o.after.toList.all (fun e => !Region.binds .any e || decide (e.on < i))
    | none => false
/-- our order (an operation's number; whether it stays where it is), checked -/
def drawChk (N : Nat) (ops : Array Oper) (B : Array Nat) : List (Nat × Bool) → List Nat → Option Nat → Bool
  | [], pre, _ => (List.range ops.size).all fun i => pre.contains i
  | (i, c) :: rest, pre, last =>
    match ops[i]? with
    | none => false
    | some o =>
      match opxOf ops o with
      | none => false
      | some x =>
        !pre.contains i && opOK o.op && o.dst.all (fun d => decide (d < N)) && (match last with | some l => (B.getD i 0).testBit l | none => true) &&
        (pre.all fun j => match opxAt ops j with
          | some y => (match y.dst with | some d => !(readsOf x).contains d || (B.getD i 0).testBit j | none => true) &&
              (match x.dst with | some d => (c && (B.getD i 0).testBit j) || (!(readsOf y).contains d && y.dst != some d) | none => true)
          | none => false) &&
        (c || (fl o.op != 0 && o.dst.isSome && x.dst.all (fun d => !(readsOf x).contains d))) && drawChk N ops B rest (i :: pre) (if c = true then some i else last)
/-- which earlier ones may come after it -/
def wsOf (ops : Array Oper) (B : Array Nat) (pre : List Nat) (i : Nat) : List Opx :=
  pre.filterMap fun j => if (B.getD i 0).testBit j = true then none else match opxAt ops j with | some y => if 2 ≤ fl y.op then some y else none | none => none
def stepsOf (ops : Array Oper) (B : Array Nat) : List (Nat × Bool) → List Nat → List Stp
  | [], _ => []
  | (i, c) :: rest, pre => match opxAt ops i with
    | some x => ⟨x, if c = true then wsOf ops B pre i else []⟩ :: stepsOf ops B rest (i :: pre)
    | none => []
theorem eval_of_reads {x : Opx} {s s' : Sl} (h : ∀ i ∈ readsOf x, s' i = s i) : ∀ o ∈ x.op.operands, evalA s' o = evalA s o := by
  intro o ho
  cases o with
  | tmp t => exact h t (List.mem_append_left _ (List.mem_filterMap.2 ⟨.tmp t, by simpa using ho, rfl⟩))
  | _ => rfl
theorem grdOn_congr {x : Opx} {s s' : Sl} (h : ∀ i ∈ readsOf x, s' i = s i) : grdOn x.grd s' ↔ grdOn x.grd s := by
  unfold grdOn
  cases hg : x.grd with
  | none => exact Iff.rfl
  | some g =>
    obtain ⟨g, want⟩ := g
    have : s' g = s g := h g (List.mem_append_right _ (by rw [hg]; simp))
    simp only [this]
theorem runX_congr {P : Program} {x : Opx} {s s' : Sl} (h : ∀ i ∈ readsOf x, s' i = s i) (H : AH) (K : Value → AH → Prop) : runX P x s' H K = runX P x s H K := by
  unfold runX
  have h1 := stepW_congr (P := P) (eval_of_reads h) H K
  cases hg : x.grd with
  | none => simp only [h1]
  | some g =>
    obtain ⟨g, want⟩ := g
    have : s' g = s g := h g (List.mem_append_right _ (by rw [hg]; simp))
    simp only [this, h1]
/-- what one that may move does -/
theorem runX_fl {P : Program} {x : Opx} {s : Sl} {H : AH} {K : Value → AH → Prop} (hf : fl x.op ≠ 0) (h : runX P x s H K) : ∃ v H', K v H' ∧ ((¬ grdOn x.grd s ∧ v = undef ∧ H' = H) ∨ (grdOn x.grd s ∧ stepA P x.op s H = some (v, H'))) := by
  have key : stepW P x.op s H K → ∃ v H', K v H' ∧ stepA P x.op s H = some (v, H') := by
    intro h
    have other : (match stepA P x.op s H with | some (v, H') => K v H' | none => False) → ∃ v H', K v H' ∧ stepA P x.op s H = some (v, H') := by
      intro h
      split at h
      · rename_i v H' e; exact ⟨v, H', h, e⟩
      · exact h.elim
    obtain ⟨dst, op, grd⟩ := x
    cases op with
    | call c =>
      obtain ⟨callee, xs, ts⟩ := c
      cases callee with
      | value f => exact absurd rfl hf
      | builtin b => exact other h
      | invoke r m => exact other h
    | _ => exact other h
  unfold runX at h
  cases hg : x.grd with
  | none =>
    rw [hg] at h
    obtain ⟨v, H', h1, h2⟩ := key h
    exact ⟨v, H', h1, .inr ⟨trivial, h2⟩⟩
  | some g =>
    obtain ⟨g, want⟩ := g
    rw [hg] at h
    simp only at h
    split at h
    · rename_i b e
      by_cases hb : b = want
      · obtain ⟨v, H', h1, h2⟩ := key (by subst hb; cases b <;> first | exact h.1 rfl | exact h.2 rfl)
        exact ⟨v, H', h1, .inr ⟨by simp [grdOn, e, hb], h2⟩⟩
      · exact ⟨undef, H, (by cases b <;> cases want <;> first | exact h.1 rfl | exact h.2 rfl | exact absurd rfl hb), .inl ⟨by simp [grdOn, e, hb], rfl, rfl⟩⟩
    · rename_i hn
      exact ⟨undef, H, h, .inl ⟨by simp only [grdOn]; exact hn want, rfl, rfl⟩⟩
theorem opxOf_some {ops : Array Oper} {o : Oper} {x : Opx} (h : opxOf ops o = some x) : grdOf ops o = some x.grd ∧ x.dst = o.dst ∧ x.op = o.op := by
  unfold opxOf at h
  cases hg : grdOf ops o with
  | none => rw [hg] at h; cases h
  | some g => rw [hg] at h; cases h; exact ⟨rfl, rfl, rfl⟩
theorem wanted_iff {N : Nat} {μ : Mu} {s : Sl} {a : Act} (hs : SRel N μ s a) {ops : Array Oper} {o : Oper} {x : Opx} (hx : opxOf ops o = some x) : Region.wanted o (yielded ops a.tmps) = true ↔ grdOn x.grd s := by
  have hg := (opxOf_some hx).1
  unfold grdOf at hg
  unfold Region.wanted grdOn
  cases hgd : o.guard with
  | none => rw [hgd] at hg; simp only [Option.some.injEq] at hg; rw [← hg]; simp
  | some gw =>
    obtain ⟨j, want⟩ := gw
    rw [hgd] at hg
    simp only at hg
    have hy := yielded_eq hs ops j
    unfold guardVal at hy
    rw [Array.getElem?_toList] at hy
    split at hg
    · rename_i d e
      simp only [Option.some.injEq] at hg
      rw [← hg]
      rw [e] at hy
      simp only at hy ⊢
      rw [hy]
      split
      · rename_i b eb; rw [eb]; simp
      · rename_i hn
        constructor
        · intro h; simp at h
        · intro h; exact absurd h (hn want)
    · cases hg
/-- an operation of ours that is done, in memory not yet -/
structure Lag (P : Program) (s : Sl) (μ : Mu) (H0 H : AH) (id : Nat) (x : Opx) : Prop where
  flt : fl x.op ≠ 0
  dst : ∃ d, x.dst = some d ∧ (¬ grdOn x.grd s → s d = undef) ∧ (grdOn x.grd s →
    (fl x.op = 1 → ∀ H2, stepA P x.op s H2 = some (s d, H2)) ∧ (fl x.op = 2 → stepA P x.op s H = some (s d, H)) ∧
    (fl x.op = 3 → ∃ H1 obj, stepA P x.op s H1 = some (s d, H1 ++ [obj]) ∧ id = H1.length ∧ idOf (s d) = some id ∧ H[id]? = some obj ∧ μ id = none ∧ H0.length ≤ id))
theorem Lag.keep {P : Program} {s s' : Sl} {μ μ' : Mu} {H0 H H' : AH} {id : Nat} {x : Opx} (h : Lag P s μ H0 H id x) (hr : ∀ i ∈ readsOf x, s' i = s i) (hd : ∀ d, x.dst = some d → s' d = s d)
    (h2 : fl x.op = 2 → ∀ d, x.dst = some d → grdOn x.grd s' → stepA P x.op s' H' = some (s' d, H'))
    (h3 : fl x.op = 3 → grdOn x.grd s' → ∀ d, x.dst = some d → idOf (s' d) = some id → H'[id]? = H[id]?) (h4 : μ id = none → id < H.length → μ' id = none) : Lag P s' μ' H0 H' id x := by
  obtain ⟨hf, d, hd0, k1, k2⟩ := h
  have e := hd d hd0
  refine ⟨hf, d, hd0, fun hn => by rw [e]; exact k1 (fun hg => hn ((grdOn_congr hr).2 hg)), fun hg => ?_⟩
  obtain ⟨g1, g2, g3⟩ := k2 ((grdOn_congr hr).1 hg)
  refine ⟨fun hp H2 => by rw [stepA_congr (eval_of_reads hr), e]; exact g1 hp H2, fun hp => h2 hp d hd0 hg, fun hp => ?_⟩
  obtain ⟨H1, obj, f1, f2, f3, f4, f5, f6⟩ := g3 hp
  refine ⟨H1, obj, by rw [stepA_congr (eval_of_reads hr), e]; exact f1, f2, by rw [e]; exact f3, ?_, h4 f5 (List.getElem?_eq_some_iff.1 f4).1, f6⟩
  rw [h3 hp hg d hd0 (by rw [e]; exact f3)]; exact f4
/-- ours and the model's, side by side -/
structure Side (P : Program) (N : Nat) (ops : Array Oper) (μ0 : Mu) (H0 : AH) (w0 : World) (pre : List Nat) (listed : Array Bool) (μ : Mu) (s sa : Sl) (H : AH) (ids : Nat → Nat) (a : Act) (w : World) : Prop where
  hH : HRel P μ H w
  hs : SRel N μ sa a
  evo : Evo μ0 H0 w0 μ H w
  agree : ∀ i, (∀ j ∈ pre, listed.getD j true = false → ∀ x, opxAt ops j = some x → x.dst ≠ some i) → sa i = s i
  lag : ∀ j ∈ pre, listed.getD j true = false → ∃ x, opxAt ops j = some x ∧ Lag P s μ H0 H (ids j) x
  apart : ∀ j ∈ pre, ∀ k ∈ pre, listed.getD j true = false → listed.getD k true = false → j ≠ k → ∀ x y, opxAt ops j = some x → opxAt ops k = some y → fl x.op = 3 → fl y.op = 3 → grdOn x.grd s → grdOn y.grd s → ids j ≠ ids k
/-- what the check says of one step -/
structure Chk (N : Nat) (ops : Array Oper) (B : Array Nat) (i : Nat) (c : Bool) (pre : List Nat) (last : Option Nat) (o : Oper) (x : Opx) : Prop where
  at_ : ops[i]? = some o
  opx : opxOf ops o = some x
  new : i ∉ pre
  ok : opOK o.op = true
  dst : ∀ d, o.dst = some d → d < N
  last : ∀ l, last = some l → (B.getD i 0).testBit l = true
  rd : ∀ j ∈ pre, ∀ y d, opxAt ops j = some y → y.dst = some d → d ∈ readsOf x → (B.getD i 0).testBit j = true
  wr : ∀ j ∈ pre, ∀ y d, opxAt ops j = some y → x.dst = some d → (c = true ∧ (B.getD i 0).testBit j = true) ∨ (d ∉ readsOf y ∧ y.dst ≠ some d)
  known : ∀ j ∈ pre, ∃ y, opxAt ops j = some y
  flo : c = false → fl x.op ≠ 0 ∧ ∃ d, x.dst = some d ∧ d ∉ readsOf x
theorem Chk.optAt {N : Nat} {ops : Array Oper} {B : Array Nat} {i : Nat} {c : Bool} {pre : List Nat} {last : Option Nat} {o : Oper} {x : Opx} (h : Chk N ops B i c pre last o x) : opxAt ops i = some x := by
  unfold opxAt; rw [h.at_]; exact h.opx
theorem drawChk_cons {N : Nat} {ops : Array Oper} {B : Array Nat} {i : Nat} {c : Bool} {rest : List (Nat × Bool)} {pre : List Nat} {last : Option Nat} (h : drawChk N ops B ((i, c) :: rest) pre last = true) :
    (∃ o x, Chk N ops B i c pre last o x) ∧ drawChk N ops B rest (i :: pre) (if c = true then some i else last) = true := by
  unfold drawChk at h
  split at h
  · cases h
  · rename_i o ho
    split at h
    · cases h
    · rename_i x hx
      simp only [Bool.and_eq_true] at h
      obtain ⟨⟨⟨⟨⟨⟨h1, h2⟩, h3⟩, h4⟩, h5⟩, h6⟩, h7⟩ := h
      refine ⟨⟨o, x, ho, hx, by simpa using h1, h2, ?_, ?_, ?_, ?_, ?_, ?_⟩, h7⟩
      · intro d hd; rw [hd] at h3; simpa using h3
      · intro l hl; rw [hl] at h4; exact h4
      · intro j hj y d hy hd hm
        have := List.all_eq_true.1 h5 j hj
        rw [hy] at this
        simp only [hd, Bool.and_eq_true, Bool.or_eq_true] at this
        rcases this.1 with h | h
        · simp [hm] at h
        · exact h
      · intro j hj y d hy hd
        have := List.all_eq_true.1 h5 j hj
        rw [hy] at this
        simp only [hd, Bool.and_eq_true, Bool.or_eq_true] at this
        rcases this.2 with h | h
        · exact .inl h
        · exact .inr ⟨by simpa using h.1, by simpa using h.2⟩
      · intro j hj
        have := List.all_eq_true.1 h5 j hj
        split at this
        · rename_i y hy; exact ⟨y, hy⟩
        · cases this
      · intro hc
        subst hc
        simp only [Bool.false_or, Bool.and_eq_true] at h6
        obtain ⟨_, e1, e2⟩ := opxOf_some hx
        obtain ⟨d, hd⟩ := Option.isSome_iff_exists.1 h6.1.2
        refine ⟨by rw [e2]; simpa using h6.1.1, d, by rw [e1]; exact hd, ?_⟩
        have := h6.2
        rw [e1, hd] at this
        simpa using this
theorem fold_bits {B : Array Nat} {j : Nat} : ∀ (es : List Edge) (s : Nat), (es.foldl (fun s e => if Region.binds .any e = true then s ||| 2 ^ e.on ||| B.getD e.on 0 else s) s).testBit j = true →
    s.testBit j = true ∨ ∃ e ∈ es, Region.binds .any e = true ∧ (j = e.on ∨ (B.getD e.on 0).testBit j = true)
  | [], s, h => .inl h
  | e :: es, s, h => by
    simp only [List.foldl_cons] at h
    rcases fold_bits es _ h with h1 | ⟨e', h1, h2, h3⟩
    · split at h1
      · rename_i hb
        rw [Nat.testBit_or, Nat.testBit_or, Nat.testBit_two_pow] at h1
        simp only [Bool.or_eq_true, decide_eq_true_eq] at h1
        rcases h1 with (h1 | h1) | h1
        · exact .inl h1
        · exact .inr ⟨e, List.mem_cons_self, hb, .inl h1.symm⟩
        · exact .inr ⟨e, List.mem_cons_self, hb, .inr h1⟩
      · exact .inl h1
    · exact .inr ⟨e', List.mem_cons_of_mem _ h1, h2, h3⟩
def Closed (ops : Array Oper) (listed : Array Bool) : Prop := ∀ j o, listed.getD j true = true → ops[j]? = some o → ∀ e ∈ o.after, Region.binds .any e = true → listed.getD e.on false = true
theorem listed_agree {listed : Array Bool} {j : Nat} (h : listed.getD j false = true) : listed.getD j true = true := by
  rw [Array.getD_eq_getD_getElem?] at h ⊢
  cases hj : listed[j]? with
  | none => rfl
  | some b => rw [hj] at h; exact h
theorem bits_listed {ops : Array Oper} {B : Array Nat} (hB : bitsOk ops B = true) {listed : Array Bool} (hc : Closed ops listed) : ∀ (i : Nat) (o : Oper), ops[i]? = some o → (∀ e ∈ o.after, Region.binds .any e = true → listed.getD e.on false = true) → ∀ j, (B.getD i 0).testBit j = true → listed.getD j false = true := by
  intro i
  induction i using Nat.strongRecOn with
  | _ i ih =>
    intro o ho hr j hj
    have hi : i < ops.size := (Array.getElem?_eq_some_iff.1 ho).1
    have hk := List.all_eq_true.1 hB i (List.mem_range.2 hi)
    rw [ho] at hk
    simp only [Bool.and_eq_true, beq_iff_eq] at hk
    rw [hk.1] at hj
    rcases fold_bits _ _ hj with h | ⟨e, h1, h2, h3⟩
    · simp at h
    · have hl := hr e (by simpa using h1) h2
      rcases h3 with rfl | h3
      · exact hl
      · have hlt : e.on < i := by have := List.all_eq_true.1 hk.2 e h1; simpa [h2] using this
        have he : e.on < ops.size := by omega
        exact ih e.on hlt ops[e.on] (by simp [he]) (hc e.on _ (listed_agree hl) (by simp [he])) j h3
theorem all_listed {ops : Array Oper} {B : Array Nat} (hB : bitsOk ops B = true) {listed : Array Bool} (hsz : listed.size = ops.size) (hr : Region.ready .any ops listed = []) : ∀ i, i < ops.size → listed.getD i true = true := by
  intro i
  induction i using Nat.strongRecOn with
  | _ i ih =>
    intro hi
    cases hl : listed.getD i true with
    | true => rfl
    | false =>
      have hk := List.all_eq_true.1 hB i (List.mem_range.2 hi)
      have ho : ops[i]? = some ops[i] := by simp [hi]
      rw [ho] at hk
      simp only [Bool.and_eq_true, beq_iff_eq] at hk
      have : i ∈ Region.ready .any ops listed := by
        rw [mem_ready]
        refine ⟨hl, ops[i], ho, ?_⟩
        intro e he hb
        have hlt : e.on < i := by have := List.all_eq_true.1 hk.2 e (by simpa using he); simpa [hb] using this
        have := ih e.on hlt (by omega)
        rw [Array.getD_eq_getD_getElem?] at this ⊢
        have hin : e.on < listed.size := by omega
        rw [Array.getElem?_eq_getElem hin] at this ⊢
        exact this
      rw [hr] at this
      cases this
end Go.Proofs.Ytlcipphiflcaiaa.Ai
namespace Go.Proofs.Ytlcipphiflcaiaa.Ai
open Go Go.RowKit
set_option linter.unusedVariables false
set_option linter.unusedSimpArgs false
theorem wpOp_on {P : Program} {ops : Array Oper} {Q : Exit → Act → World → Prop} {i : Nat} {o : Oper} {K : Act → World → Prop} {a : Act} {w : World} (ho : ops[i]? = some o) (hw : Region.wanted o (yielded ops a.tmps) = true) (h : o.wp P a w K Q) : wpOp P ops Q i K a w := by
  unfold wpOp; simp only [ho]; rw [if_pos hw]; exact .inl h
theorem wpOp_off {P : Program} {ops : Array Oper} {Q : Exit → Act → World → Prop} {i : Nat} {o : Oper} {K : Act → World → Prop} {a : Act} {w : World} (ho : ops[i]? = some o) (hw : ¬ Region.wanted o (yielded ops a.tmps) = true) (h : K (a.put o.dst undef) w) : wpOp P ops Q i K a w := by
  unfold wpOp; simp only [ho]; rw [if_neg hw]; exact h
theorem put_ne (s : Sl) {d : Option Nat} {v : Value} {i : Nat} (h : d ≠ some i) : Sl.put s d v i = s i := by
  cases d with
  | none => rfl
  | some d => rw [Sl.put_at, if_neg (fun e => h (by rw [e]))]
theorem put_eq (s : Sl) (v : Value) (i : Nat) : Sl.put s (some i) v i = v := by rw [Sl.put_at, if_pos rfl]
section
variable {P : Program} {N : Nat} {ops : Array Oper} {B : Array Nat} {μ0 : Mu} {H0 : AH} {w0 : World}
/-- ours does one more that may move -/
theorem Side.float {i : Nat} {pre : List Nat} {last : Option Nat} {o : Oper} {x : Opx} (hk : Chk N ops B i false pre last o x) {listed : Array Bool} {μ : Mu} {s sa : Sl} {H : AH} {ids : Nat → Nat} {a : Act} {w : World}
    (h : Side P N ops μ0 H0 w0 pre listed μ s sa H ids a w) (hl : listed.getD i true = false) {v : Value} {H' : AH} (hv : (¬ grdOn x.grd s ∧ v = undef ∧ H' = H) ∨ (grdOn x.grd s ∧ stepA P x.op s H = some (v, H'))) :
    ∃ ids', Side P N ops μ0 H0 w0 (i :: pre) listed μ (s.put x.dst v) sa H' ids' a w := by
  obtain ⟨hfl, d, hd, hself⟩ := hk.flo rfl
  -- what stays as it is, of x itself
  have hop : opOK x.op = true := by rw [(opxOf_some hk.opx).2.2]; exact hk.ok
  have far : ∀ j ∈ pre, ∀ y, opxAt ops j = some y → d ∉ readsOf y ∧ y.dst ≠ some d := by
    intro j hj y hy
    rcases hk.wr j hj y d hy hd with ⟨e, _⟩ | h
    · cases e
    · exact h
  -- the heap: as it was, or one more
  have heap : H' = H ∨ ∃ obj, H' = H ++ [obj] ∧ fl x.op = 3 := by
    rcases hv with ⟨_, _, e⟩ | ⟨_, e⟩
    · exact .inl e
    · have hc : fl x.op = 1 ∨ fl x.op = 2 ∨ fl x.op = 3 := by
        have : fl x.op ≤ 3 := by unfold fl; split <;> first | omega | (split <;> omega)
        omega
      rcases hc with hc | hc | hc
      · exact .inl (pure_step hc e).1
      · exact .inl (read_step hc e).1
      · have he := (opxOf_some hk.opx).2.2
        rw [he] at e hc
        obtain ⟨vof, obj, g1, g2, g3, g4⟩ := mk_step hc hk.ok e
        exact .inr ⟨obj, g2, by rw [he]; exact hc⟩
  have hlen : H.length ≤ H'.length := by rcases heap with rfl | ⟨obj, rfl, _⟩ <;> simp
  have look : ∀ k, k < H.length → H'[k]? = H[k]? := by
    intro k hk
    rcases heap with rfl | ⟨obj, rfl, _⟩
    · rfl
    · rw [List.getElem?_append_left hk]
  have hH' : HRel P μ H' w := by
    rcases heap with rfl | ⟨obj, rfl, _⟩
    · exact h.hH
    · exact h.hH.phantom obj
  have hE' : Evo μ0 H0 w0 μ H' w := by
    rcases heap with rfl | ⟨obj, rfl, _⟩
    · exact h.evo
    · exact h.evo.phantom h.hH obj
  -- x's own reads are not x's place
  let ids' : Nat → Nat := fun j => if j = i then H.length else ids j
  have selfr : grdOn x.grd s → (fl x.op = 1 → True) := fun _ _ => trivial
  have oldlag : ∀ j ∈ pre, listed.getD j true = false → ∃ y, opxAt ops j = some y ∧ Lag P (s.put x.dst v) μ H0 H' (ids j) y := by
    intro j hj hjl
    obtain ⟨y, hy, hlag⟩ := h.lag j hj hjl
    obtain ⟨f1, f2⟩ := far j hj y hy
    refine ⟨y, hy, hlag.keep (fun k hk => put_ne s (by rw [hd]; intro e; cases e; exact f1 hk)) (fun e he => put_ne s (by rw [hd]; intro e'; cases e'; exact f2 he)) ?_ ?_ (fun e _ => e)⟩
    · intro hp e he hg
      obtain ⟨_, e', he', _, k2⟩ := hlag
      rw [he] at he'; cases he'
      have hr : ∀ k ∈ readsOf y, s.put x.dst v k = s k := fun k hk => put_ne s (by rw [hd]; intro e; cases e; exact f1 hk)
      have hst := (k2 ((grdOn_congr hr).1 hg)).2.1 hp
      rw [stepA_congr (eval_of_reads hr), show s.put x.dst v e = s e from put_ne s (by rw [hd]; intro e'; cases e'; exact f2 he)]
      rcases heap with rfl | ⟨obj, rfl, _⟩
      · exact hst
      · exact (read_step hp hst).2 obj
    · intro hp hg e he hid
      obtain ⟨_, e', he', _, k2⟩ := hlag
      have hr : ∀ k ∈ readsOf y, s.put x.dst v k = s k := fun k hk => put_ne s (by rw [hd]; intro e; cases e; exact f1 hk)
      obtain ⟨H1, obj, g1, g2, g3, g4, g5, g6⟩ := (k2 ((grdOn_congr hr).1 hg)).2.2 hp
      exact look _ (List.getElem?_eq_some_iff.1 g4).1
  have idsold : ∀ j ∈ pre, ids' j = ids j := by
    intro j hj
    have : j ≠ i := fun e => hk.new (e ▸ hj)
    simp [ids', this]
  · have hr : ∀ k ∈ readsOf x, s.put x.dst v k = s k := fun k hk => put_ne s (by rw [hd]; intro e; cases e; exact hself hk)
    have mine : Lag P (s.put x.dst v) μ H0 H' H.length x := by
      refine ⟨hfl, d, hd, ?_, ?_⟩
      · intro hn
        rw [hd, put_eq]
        rcases hv with ⟨_, e, _⟩ | ⟨e, _⟩
        · exact e
        · exact absurd ((grdOn_congr hr).2 e) hn
      · intro hg
        have hg0 := (grdOn_congr hr).1 hg
        rcases hv with ⟨e, _⟩ | ⟨_, e⟩
        · exact absurd hg0 e
        · rw [hd, put_eq]
          have er : ∀ H2, stepA P x.op (s.put (some d) v) H2 = stepA P x.op s H2 := fun H2 => by rw [← hd]; exact stepA_congr (eval_of_reads hr) H2
          refine ⟨fun hp H2 => by rw [er]; exact (pure_step hp e).2 H2, fun hp => ?_, fun hp => ?_⟩
          · have e2 := (read_step hp e).1
            rw [er, e2]; rw [e2] at e; exact e
          · have he := (opxOf_some hk.opx).2.2
            have hp' : fl o.op = 3 := by rw [← he]; exact hp
            have e' : stepA P o.op s H = some (v, H') := by rw [← he]; exact e
            obtain ⟨vof, obj, g1, g2, g3, g4⟩ := mk_step hp' hk.ok e'
            refine ⟨H, obj, by rw [er, ← g2]; exact e, rfl, g3, ?_, h.hH.dom _ (Nat.le_refl _), h.evo.len⟩
            rw [g2]; simp
    refine ⟨ids', hH', h.hs, hE', ?_, ?_, ?_⟩
    · intro k hkk
      have hne : d ≠ k := fun e => hkk i List.mem_cons_self hl x hk.optAt (by rw [hd, e])
      rw [put_ne s (by rw [hd]; intro e; cases e; exact hne rfl)]
      exact h.agree k (fun j hj => hkk j (List.mem_cons_of_mem _ hj))
    · intro j hj hjl
      rcases List.mem_cons.1 hj with rfl | hj
      · exact ⟨x, hk.optAt, by simpa [ids'] using mine⟩
      · obtain ⟨y, hy, hlag⟩ := oldlag j hj hjl
        exact ⟨y, hy, by rw [idsold j hj]; exact hlag⟩
    · intro j hj k hkm hjl hkl hne y z hy hz hfy hfz hgy hgz
      have lt : ∀ j ∈ pre, listed.getD j true = false → ∀ y, opxAt ops j = some y → fl y.op = 3 → grdOn y.grd (s.put x.dst v) → ids j < H.length := by
        intro j hj hjl y hy hfy hgy
        obtain ⟨y', hy', hlag⟩ := h.lag j hj hjl
        rw [hy] at hy'; cases hy'
        obtain ⟨_, e', he', _, k2⟩ := hlag
        have hr : ∀ k ∈ readsOf y, s.put x.dst v k = s k := fun k hk => put_ne s (by rw [hd]; intro e; cases e; exact (far j hj y hy).1 hk)
        obtain ⟨H1, obj, g1, g2, g3, g4, g5, g6⟩ := (k2 ((grdOn_congr hr).1 hgy)).2.2 hfy
        exact (List.getElem?_eq_some_iff.1 g4).1
      rcases List.mem_cons.1 hj with ej | hj1 <;> rcases List.mem_cons.1 hkm with ek | hk1
      · exact absurd (ej.trans ek.symm) hne
      · rw [idsold k hk1]
        have := lt k hk1 hkl z hz hfz hgz
        simp only [ids', ej, if_true]; omega
      · rw [idsold j hj1]
        have := lt j hj1 hjl y hy hfy hgy
        simp only [ids', ek, if_true]; omega
      · have hj := hj1
        have hkm := hk1
        rw [idsold j hj, idsold k hkm]
        refine h.apart j hj k hkm hjl hkl hne y z hy hz hfy hfz ((grdOn_congr ?_).1 hgy) ((grdOn_congr ?_).1 hgz)
        · exact fun q hq => put_ne s (by rw [hd]; intro e; cases e; exact (far j hj y hy).1 hq)
        · exact fun q hq => put_ne s (by rw [hd]; intro e; cases e; exact (far k hkm z hz).1 hq)
/-- what our order has passed, checked -/
def PreOk (N : Nat) (ops : Array Oper) (B : Array Nat) (chn : Nat → Bool) : List Nat → Prop
  | [] => True
  | i :: pre => (∃ last o x, Chk N ops B i (chn i) pre last o x) ∧ PreOk N ops B chn pre
theorem PreOk.at_ {chn : Nat → Bool} : ∀ {pre : List Nat}, PreOk N ops B chn pre → ∀ j ∈ pre, ∃ p l o x, Chk N ops B j (chn j) p l o x
  | [], _, j, hj => by cases hj
  | i :: pre, h, j, hj => by
    simp only [PreOk] at h
    rcases List.mem_cons.1 hj with e | hj
    · rw [e]; obtain ⟨l, o, x, hk⟩ := h.1; exact ⟨_, l, o, x, hk⟩
    · exact PreOk.at_ h.2 j hj
theorem PreOk.reads {chn : Nat → Bool} : ∀ {pre : List Nat}, PreOk N ops B chn pre → ∀ j ∈ pre, ∀ k ∈ pre, chn j = false → chn k = false → ∀ x y d, opxAt ops j = some x → opxAt ops k = some y → y.dst = some d → d ∈ readsOf x → (B.getD j 0).testBit k = true
  | [], _, j, hj, _, _, _, _, _, _, _, _, _, _, _ => by cases hj
  | i :: pre, h, j, hj, k, hk, hcj, hck, x, y, d, hx, hy, hd, hm => by
    simp only [PreOk] at h
    obtain ⟨⟨l, o, z, hz⟩, h2⟩ := h
    rcases List.mem_cons.1 hj with ej | hj1 <;> rcases List.mem_cons.1 hk with ek | hk1
    · subst ej; subst ek
      rw [hx] at hy; cases hy
      have := hz.optAt; rw [hx] at this; cases this
      obtain ⟨_, d', hd', hn⟩ := hz.flo hcj
      rw [hd] at hd'; cases hd'
      exact absurd hm hn
    · subst ej
      have := hz.optAt; rw [hx] at this; cases this
      exact hz.rd k hk1 y d hy hd hm
    · subst ek
      have := hz.optAt; rw [hy] at this; cases this
      rcases hz.wr j hj1 x d hx hd with ⟨e, _⟩ | ⟨e, _⟩
      · rw [hck] at e; cases e
      · exact absurd hm e
    · exact PreOk.reads h2 j hj1 k hk1 hcj hck x y d hx hy hd hm
theorem getD_set_same {listed : Array Bool} {i : Nat} : (listed.setIfInBounds i true).getD i true = true := by
  rw [Array.getD_eq_getD_getElem?, Array.getElem?_setIfInBounds]
  by_cases h : i < listed.size
  · simp [h]
  · simp [h]
theorem unlisted_of_set {listed : Array Bool} {i j : Nat} (h : (listed.setIfInBounds i true).getD j true = false) : j ≠ i ∧ listed.getD j true = false := by
  have hne : j ≠ i := by
    intro e
    subst e
    rw [getD_set_same] at h; cases h
  exact ⟨hne, by rw [getD_set_ne true (Ne.symm hne)] at h; exact h⟩
theorem Side.late {chn : Nat → Bool} {pre : List Nat} (hpre : PreOk N ops B chn pre) (hB : bitsOk ops B = true) {listed : Array Bool} (hcl : Closed ops listed) {μ : Mu} {s sa : Sl} {H : AH} {ids : Nat → Nat} {a : Act} {w : World}
    (h : Side P N ops μ0 H0 w0 pre listed μ s sa H ids a w) (hch : ∀ j ∈ pre, chn j = true → listed.getD j false = true) {j : Nat} (hj : j ∈ pre) (hr : j ∈ Region.ready .any ops listed) {next : Act → World → Prop} {Q : Exit → Act → World → Prop}
    (hn : ∀ μ' sa' a' w', Side P N ops μ0 H0 w0 pre (listed.setIfInBounds j true) μ' s sa' H ids a' w' → next a' w') : wpOp P ops Q j next a w := by
  obtain ⟨hjl, o, ho, hedge⟩ := mem_ready.1 hr
  obtain ⟨p, l, o', x, hk⟩ := hpre.at_ j hj
  have e0 := hk.at_; rw [ho] at e0; cases e0
  obtain ⟨x', hx', hlag⟩ := h.lag j hj hjl
  have e1 := hk.optAt; rw [hx'] at e1; cases e1
  have bits := bits_listed hB hcl j o ho hedge
  have nochn : ∀ k ∈ pre, listed.getD k true = false → chn k = false := by
    intro k hkm hkl
    cases hc : chn k with
    | false => rfl
    | true => have := listed_agree (hch k hkm hc); rw [hkl] at this; cases this
  have hcj := nochn j hj hjl
  have reads : ∀ r ∈ readsOf x, sa r = s r := by
    intro r hrm
    refine h.agree r ?_
    intro k hkm hkl y hy hd
    have := hpre.reads j hj k hkm hcj (nochn k hkm hkl) x y r hx' hy hd hrm
    have := listed_agree (bits k this)
    rw [hkl] at this; cases this
  obtain ⟨hfl, d, hd, hoff, hon⟩ := hlag
  have hod : o.dst = some d := by rw [← (opxOf_some hk.opx).2.1]; exact hd
  have hop := (opxOf_some hk.opx).2.2
  have hdN : ∀ i, o.dst = some i → i < N := hk.dst
  -- what holds behind it
  have fin : ∀ (μ' : Mu) (cv : Value) (w' : World), HRel P μ' H w' → Evo μ0 H0 w0 μ' H w' → μ.Le μ' → TRel μ' (s d) cv → (∀ k ∈ pre, k ≠ j → listed.getD k true = false → ∀ y, opxAt ops k = some y → fl y.op = 3 → grdOn y.grd s → μ (ids k) = none → ids k < H.length → μ' (ids k) = none) → next (a.put o.dst cv) w' := by
    intro μ' cv w' g1 g2 g3 g4 g5
    refine hn μ' (sa.put o.dst (s d)) _ w' ⟨g1, (h.hs.mono g3).put hdN g4, g2, ?_, ?_, ?_⟩
    · intro i hi
      rw [hod]
      by_cases e : d = i
      · subst e; rw [put_eq]
      · rw [put_ne sa (fun e' => e (Option.some.inj e'))]
        refine h.agree i ?_
        intro k hkm hkl y hy hdk
        by_cases ekj : k = j
        · subst ekj
          rw [hx'] at hy; cases hy
          rw [hd] at hdk; cases hdk; exact e rfl
        · exact hi k hkm (by rw [getD_set_ne true (Ne.symm ekj)]; exact hkl) y hy hdk
    · intro k hkm hkl
      obtain ⟨hne, hkl⟩ := unlisted_of_set hkl
      obtain ⟨y, hy, hly⟩ := h.lag k hkm hkl
      refine ⟨y, hy, ?_⟩
      obtain ⟨q1, d', q2, q3, q4⟩ := hly
      refine ⟨q1, d', q2, q3, fun hg => ⟨(q4 hg).1, (q4 hg).2.1, fun hp => ?_⟩⟩
      obtain ⟨H1, obj, f1, f2, f3, f4, f5, f6⟩ := (q4 hg).2.2 hp
      exact ⟨H1, obj, f1, f2, f3, f4, g5 k hkm hne hkl y hy hp hg f5 (List.getElem?_eq_some_iff.1 f4).1, f6⟩
    · intro k hkm k' hkm' hkl hkl'
      exact h.apart k hkm k' hkm' (unlisted_of_set hkl).2 (unlisted_of_set hkl').2
  by_cases hg : grdOn x.grd s
  · have hw : Region.wanted o (yielded ops a.tmps) = true := (wanted_iff h.hs hk.opx).2 ((grdOn_congr reads).2 hg)
    refine wpOp_on ho hw ?_
    obtain ⟨k1, k2, k3⟩ := hon hg
    have hc : fl x.op = 1 ∨ fl x.op = 2 ∨ fl x.op = 3 := by
      have : fl x.op ≤ 3 := by unfold fl; split <;> first | omega | (split <;> omega)
      omega
    have plain : stepA P x.op s H = some (s d, H) → o.wp P a w next Q := by
      intro hst
      have hst' : stepA P o.op sa H = some (s d, H) := by rw [← hop, stepA_congr (eval_of_reads reads)]; exact hst
      obtain ⟨μ', cv, w', g1, g2, g3, g4⟩ := stepA_ok h.hH h.hs o hk.ok hst'
      have key : next (a.put o.dst cv) w' := fin μ' cv w' g3 (h.evo.trans g4) g4.le g2 (fun k _ _ _ _ _ _ _ hm hlt => by rw [g4.old _ hlt]; exact hm)
      unfold Oper.wp
      rcases g1 with g1 | ⟨g1, e⟩
      · rw [g1]; exact key
      · rw [g1]
        rw [e] at g2
        exact fin μ' undef w' g3 (h.evo.trans g4) g4.le g2 (fun k _ _ _ _ _ _ _ hm hlt => by rw [g4.old _ hlt]; exact hm)
    rcases hc with hc | hc | hc
    · exact plain (k1 hc H)
    · exact plain (k2 hc)
    · obtain ⟨H1, obj, f1, f2, f3, f4, f5, f6⟩ := k3 hc
      have f1' : stepA P o.op sa H1 = some (s d, H1 ++ [obj]) := by rw [← hop, stepA_congr (eval_of_reads reads)]; exact f1
      obtain ⟨vof, obj', m1, m2, m3, m4⟩ := mk_step (by rw [← hop]; exact hc) hk.ok f1'
      have eo : obj' = obj := by simpa using m2.symm
      subst eo
      obtain ⟨cv, cur, t, vs, ext, c1, c2, c3, c4, c5, c6, c7⟩ := m4 N μ a w h.hs
      subst c1
      unfold Oper.wp
      rw [c2]
      have hre := h.hH.realize f4 f5 c3 c4 c5 c6
      refine fin _ cv _ hre (h.evo.realize f5 f6 _ rfl _) (Mu.le_put f5) (by rw [m1, ← f2]; exact c7 _ _ (Mu.put_same _ _ _)) ?_
      intro k hkm hne hkl y hy hp hgy hm hlt
      rw [Mu.put_other]
      · exact hm
      · exact h.apart k hkm j hj hkl hjl hne y x hy hx' hp hc hgy hg
  · have hw : ¬ Region.wanted o (yielded ops a.tmps) = true := fun hw => hg ((grdOn_congr reads).1 ((wanted_iff h.hs hk.opx).1 hw))
    refine wpOp_off ho hw ?_
    exact fin μ undef w h.hH h.evo (Mu.Le.refl _) (by rw [hoff hg]; exact TRel.undef _) (fun k _ _ _ _ _ _ _ hm _ => hm)
theorem mem_wsOf {pre : List Nat} {i j : Nat} {y : Opx} (hj : j ∈ pre) (hb : ¬ (B.getD i 0).testBit j = true) (hy : opxAt ops j = some y) (hf : 2 ≤ fl y.op) : y ∈ wsOf ops B pre i := by
  unfold wsOf
  refine List.mem_filterMap.2 ⟨j, hj, ?_⟩
  rw [if_neg hb, hy]
  simp [hf]
theorem Side.chain {pre : List Nat} (hB : bitsOk ops B = true) {listed : Array Bool} (hcl : Closed ops listed) {μ : Mu} {s sa : Sl} {H : AH} {ids : Nat → Nat} {a : Act} {w : World}
    (h : Side P N ops μ0 H0 w0 pre listed μ s sa H ids a w) {i : Nat} {last : Option Nat} {o : Oper} {x : Opx} (hk : Chk N ops B i true pre last o x) (hr : i ∈ Region.ready .any ops listed) {K : Value → AH → Prop}
    (hx : runX P x s H fun v H' => watchA P (s.put x.dst v) H H' (wsOf ops B pre i) ∧ K v H') {next : Act → World → Prop} {Q : Exit → Act → World → Prop}
    (hn : ∀ v H' μ' sa' a' w', K v H' → Side P N ops μ0 H0 w0 (i :: pre) (listed.setIfInBounds i true) μ' (s.put x.dst v) sa' H' ids a' w' → next a' w') : wpOp P ops Q i next a w := by
  obtain ⟨hil, o', ho, hedge⟩ := mem_ready.1 hr
  have e0 := hk.at_; rw [ho] at e0; cases e0
  have bits := bits_listed hB hcl i o ho hedge
  have nobit : ∀ k, listed.getD k true = false → ¬ (B.getD i 0).testBit k = true := by
    intro k hkl hb
    have := listed_agree (bits k hb)
    rw [hkl] at this; cases this
  have reads : ∀ r ∈ readsOf x, sa r = s r := by
    intro r hrm
    refine h.agree r ?_
    intro k hkm hkl y hy hd
    exact nobit k hkl (hk.rd k hkm y r hy hd hrm)
  obtain ⟨hg, e1, e2⟩ := opxOf_some hk.opx
  have hxs : runX P ⟨o.dst, o.op, x.grd⟩ sa H fun v H' => watchA P (s.put x.dst v) H H' (wsOf ops B pre i) ∧ K v H' := by
    rw [← e1, ← e2]
    have := runX_congr (P := P) reads H (fun v H' => watchA P (s.put x.dst v) H H' (wsOf ops B pre i) ∧ K v H')
    exact this ▸ hx
  refine oper_sound h.hH h.hs ho hg hk.ok hk.dst hxs ?_
  rintro v H' μ' cv w' ⟨hwt, hK⟩ hv hH' he
  have far : ∀ j ∈ pre, listed.getD j true = false → ∀ y d, opxAt ops j = some y → x.dst = some d → d ∉ readsOf y ∧ y.dst ≠ some d := by
    intro j hj hjl y d hy hd
    rcases hk.wr j hj y d hy hd with ⟨_, hb⟩ | h
    · exact absurd hb (nobit j hjl)
    · exact h
  refine hn v H' μ' (sa.put x.dst v) _ w' hK ⟨hH', ?_, h.evo.trans he, ?_, ?_, ?_⟩
  · rw [e1]; exact (h.hs.mono he.le).put hk.dst hv
  · intro q hq
    by_cases e : x.dst = some q
    · rw [e, put_eq, put_eq]
    · rw [put_ne sa e, put_ne s e]
      refine h.agree q ?_
      intro k hkm hkl y hy
      by_cases ek : k = i
      · exact absurd (ek ▸ hkm) hk.new
      · exact hq k (List.mem_cons_of_mem _ hkm) (by rw [getD_set_ne true (Ne.symm ek)]; exact hkl) y hy
  · intro k hkm hkl
    obtain ⟨hne, hkl⟩ := unlisted_of_set hkl
    have hkp : k ∈ pre := by rcases List.mem_cons.1 hkm with e | e; exact absurd e hne; exact e
    obtain ⟨y, hy, hly⟩ := h.lag k hkp hkl
    refine ⟨y, hy, ?_⟩
    have hrd : ∀ q ∈ readsOf y, s.put x.dst v q = s q := fun q hq => put_ne s (fun e => (far k hkp hkl y q hy e).1 hq)
    refine hly.keep hrd (fun q hq => put_ne s (fun e => (far k hkp hkl y q hy e).2 hq)) ?_ ?_ ?_
    · intro hp q hq hgq
      have := watchA_mem hwt (mem_wsOf hkp (nobit k hkl) hy (by omega))
      unfold watch1 at this
      rw [hq] at this
      simp only [fl_notmk (.inr hp)] at this
      exact this hgq
    · intro hp hgq q hq hid
      have := watchA_mem hwt (mem_wsOf hkp (nobit k hkl) hy (by omega))
      unfold watch1 at this
      rw [hq] at this
      simp only [fl_mk hp, hid] at this
      exact this
    · intro hm hlt
      rw [he.old _ hlt]; exact hm
  · intro j hj k hkm hjl hkl hne y z hy hz hfy hfz hgy hgz
    obtain ⟨hji, hjl⟩ := unlisted_of_set hjl
    obtain ⟨hki, hkl⟩ := unlisted_of_set hkl
    have hjp : j ∈ pre := by rcases List.mem_cons.1 hj with e | e; exact absurd e hji; exact e
    have hkp : k ∈ pre := by rcases List.mem_cons.1 hkm with e | e; exact absurd e hki; exact e
    refine h.apart j hjp k hkp hjl hkl hne y z hy hz hfy hfz ((grdOn_congr ?_).1 hgy) ((grdOn_congr ?_).1 hgz)
    · exact fun q hq => put_ne s (fun e => (far j hjp hjl y q hy e).1 hq)
    · exact fun q hq => put_ne s (fun e => (far k hkp hkl z q hz e).1 hq)
theorem drawChk_all : ∀ {rest : List (Nat × Bool)} {pre : List Nat} {last : Option Nat}, drawChk N ops B rest pre last = true → ∀ i, i < ops.size → i ∈ pre ∨ ∃ c, (i, c) ∈ rest
  | [], pre, last, h, i, hi => by
    have := List.all_eq_true.1 h i (List.mem_range.2 hi)
    exact .inl (by simpa using this)
  | (k, c) :: rest, pre, last, h, i, hi => by
    rcases drawChk_all (drawChk_cons h).2 i hi with h1 | ⟨c', h1⟩
    · rcases List.mem_cons.1 h1 with rfl | h1
      · exact .inr ⟨c, List.mem_cons_self⟩
      · exact .inl h1
    · exact .inr ⟨c', List.mem_cons_of_mem _ h1⟩
theorem drawChk_last : ∀ {rest : List (Nat × Bool)} {pre : List Nat} {l0 : Nat}, drawChk N ops B rest pre (some l0) = true → ∀ i c, (i, c) ∈ rest → ∃ l, (l = l0 ∨ (l, true) ∈ rest) ∧ (B.getD i 0).testBit l = true
  | [], pre, l0, h, i, c, hi => by cases hi
  | (k, c') :: rest, pre, l0, h, i, c, hi => by
    obtain ⟨⟨o, x, hk⟩, h2⟩ := drawChk_cons h
    rcases List.mem_cons.1 hi with e | hi1
    · cases e; exact ⟨l0, .inl rfl, hk.last l0 rfl⟩
    · cases c' with
      | true =>
        rw [if_pos rfl] at h2
        obtain ⟨l, h3, h4⟩ := drawChk_last h2 i c hi1
        refine ⟨l, .inr ?_, h4⟩
        rcases h3 with rfl | h3
        · exact List.mem_cons_self
        · exact List.mem_cons_of_mem _ h3
      | false =>
        rw [if_neg (by simp)] at h2
        obtain ⟨l, h3, h4⟩ := drawChk_last h2 i c hi1
        exact ⟨l, h3.imp id (List.mem_cons_of_mem _), h4⟩
structure Good (P : Program) (N : Nat) (ops : Array Oper) (B : Array Nat) (chn : Nat → Bool) (Q : Sl → AH → Prop) (μ0 : Mu) (H0 : AH) (w0 : World) (listed : Array Bool) (a : Act) (w : World) (pre : List Nat) (rest : List (Nat × Bool)) (last : Option Nat) (μ : Mu) (s sa : Sl) (H : AH) (ids : Nat → Nat) : Prop where
  side : Side P N ops μ0 H0 w0 pre listed μ s sa H ids a w
  pok : PreOk N ops B chn pre
  lst : ∀ j ∈ pre, chn j = true → listed.getD j false = true
  chk : drawChk N ops B rest pre last = true
  wp : wpSteps P Q (stepsOf ops B rest pre) s H
  un : ∀ p ∈ rest, listed.getD p.1 true = false
  flag : ∀ p ∈ rest, chn p.1 = p.2
theorem Good.advance {chn : Nat → Bool} {Q : Sl → AH → Prop} {listed : Array Bool} {a : Act} {w : World} {μ : Mu} {sa : Sl} : ∀ (rest : List (Nat × Bool)) (pre : List Nat) (last : Option Nat) (s : Sl) (H : AH) (ids : Nat → Nat), Good P N ops B chn Q μ0 H0 w0 listed a w pre rest last μ s sa H ids →
    ∃ pre' rest' last' s' H' ids', Good P N ops B chn Q μ0 H0 w0 listed a w pre' rest' last' μ s' sa H' ids' ∧ (rest' = [] ∨ ∃ i r, rest' = (i, true) :: r)
  | [], pre, last, s, H, ids, h => ⟨pre, [], last, s, H, ids, h, .inl rfl⟩
  | (i, true) :: r, pre, last, s, H, ids, h => ⟨pre, _, last, s, H, ids, h, .inr ⟨i, r, rfl⟩⟩
  | (i, false) :: r, pre, last, s, H, ids, h => by
    obtain ⟨⟨o, x, hk⟩, h2⟩ := drawChk_cons h.chk
    have hw := h.wp
    simp only [stepsOf, hk.optAt, Bool.false_eq_true, if_false, wpSteps, watchA, true_and] at hw
    obtain ⟨v, H', g1, g2⟩ := runX_fl (hk.flo rfl).1 hw
    have hl := h.un (i, false) List.mem_cons_self
    have hf := h.flag (i, false) List.mem_cons_self
    obtain ⟨ids', hs⟩ := h.side.float hk hl g2
    refine Good.advance r (i :: pre) _ (s.put x.dst v) H' ids' ⟨hs, ⟨⟨last, o, x, by rw [hf]; exact hk⟩, h.pok⟩, ?_, h2, g1, fun p hp => h.un p (List.mem_cons_of_mem _ hp), fun p hp => h.flag p (List.mem_cons_of_mem _ hp)⟩
    intro j hj hc
    rcases List.mem_cons.1 hj with e | hj
    · rw [e] at hc; rw [hf] at hc; cases hc
    · exact h.lst j hj hc
def cnt (ops : Array Oper) (listed : Array Bool) : Nat := ((List.range ops.size).filter fun i => !listed.getD i true).length
theorem filter_lt {p q : Nat → Bool} : ∀ (l : List Nat), (∀ x, q x = true → p x = true) → ∀ i ∈ l, p i = true → q i = false → (l.filter q).length < (l.filter p).length
  | [], _, i, hi, _, _ => by cases hi
  | x :: l, h, i, hi, hp, hq => by
    have hle : ∀ l : List Nat, (l.filter q).length ≤ (l.filter p).length := by
      intro l
      induction l with
      | nil => exact Nat.le_refl _
      | cons y l ih =>
        simp only [List.filter_cons]
        cases hy : q y with
        | true => rw [h y hy]; simp only [if_true, List.length_cons]; omega
        | false => cases hp : p y <;> simp <;> omega
    have hll := hle l
    simp only [List.filter_cons]
    rcases List.mem_cons.1 hi with e | hi
    · subst e; rw [hp, hq]; simp only [if_true, List.length_cons, Bool.false_eq_true, if_false]; omega
    · have := filter_lt l h i hi hp hq
      cases hx : q x with
      | true => rw [h x hx]; simp only [if_true, List.length_cons]; omega
      | false => cases hp : p x <;> simp <;> omega
theorem cnt_set {listed : Array Bool} {i : Nat} (hi : i < ops.size) (hl : listed.getD i true = false) : cnt ops (listed.setIfInBounds i true) < cnt ops listed := by
  refine filter_lt _ ?_ i (List.mem_range.2 hi) (by simp [hl]) (by rw [getD_set_same]; rfl)
  intro x hx
  have hx' : (listed.setIfInBounds i true).getD x true = false := by simpa using hx
  simp [(unlisted_of_set hx').2]
theorem closed_set {listed : Array Bool} (hc : Closed ops listed) {i : Nat} (hr : i ∈ Region.ready .any ops listed) : Closed ops (listed.setIfInBounds i true) := by
  obtain ⟨_, o, ho, he⟩ := mem_ready.1 hr
  intro j o' hj ho' e hem hb
  refine getD_set_true ?_
  by_cases hji : j = i
  · subst hji
    rw [ho] at ho'; cases ho'
    exact he e hem hb
  · exact hc j o' (by rw [getD_set_ne true (Ne.symm hji)] at hj; exact hj) ho' e hem hb
theorem any_sound (hB : bitsOk ops B = true) {chn : Nat → Bool} {Q : Exit → Sl → AH → Prop} : ∀ (fuel : Nat) (listed : Array Bool) (a : Act) (w : World) (pre : List Nat) (rest : List (Nat × Bool)) (last : Option Nat) (μ : Mu) (s sa : Sl) (H : AH) (ids : Nat → Nat),
    Good P N ops B chn (Q .normal) μ0 H0 w0 listed a w pre rest last μ s sa H ids → Closed ops listed → listed.size = ops.size → cnt ops listed ≤ fuel → wpAny P .any ops (Post P N μ0 H0 w0 Q) fuel listed a w := by
  intro fuel
  induction fuel with
  | zero =>
    intro listed a w pre rest last μ s sa H ids hg hcl hsz hcnt
    have hall : ∀ i, i < ops.size → listed.getD i true = true := by
      intro i hi
      cases hl : listed.getD i true with
      | true => rfl
      | false => have := cnt_set hi hl; omega
    have hr : Region.ready .any ops listed = [] := by
      cases hrr : Region.ready .any ops listed with
      | nil => rfl
      | cons j r =>
        have hj : j ∈ Region.ready .any ops listed := by rw [hrr]; exact List.mem_cons_self
        obtain ⟨h1, o, h2, _⟩ := mem_ready.1 hj
        rw [hall j (Array.getElem?_eq_some_iff.1 h2).1] at h1; cases h1
    refine ⟨hr, ?_⟩
    exact fin hall (Good.advance rest pre last s H ids hg)
  | succ fuel ih =>
    intro listed a w pre rest last μ s sa H ids hg hcl hsz hcnt
    obtain ⟨pre', rest', last', s', H', ids', hg', hrest⟩ := Good.advance rest pre last s H ids hg
    refine ⟨fun hr => fin (all_listed hB hsz hr) ⟨pre', rest', last', s', H', ids', hg', hrest⟩, ?_⟩
    intro i hi
    obtain ⟨hil, o, ho, hedge⟩ := mem_ready.1 hi
    have hin : i < ops.size := (Array.getElem?_eq_some_iff.1 ho).1
    have hcnt' : cnt ops (listed.setIfInBounds i true) ≤ fuel := by have := cnt_set hin hil; omega
    have hsz' : (listed.setIfInBounds i true).size = ops.size := by simpa using hsz
    have hcl' := closed_set hcl hi
    rcases drawChk_all hg'.chk i hin with hp | ⟨c, hp⟩
    · refine hg'.side.late hg'.pok hB hcl hg'.lst hp hi ?_
      intro μ2 sa2 a2 w2 hs2
      refine ih _ _ _ pre' rest' last' μ2 s' sa2 H' ids' ⟨hs2, hg'.pok, fun j hj hc => getD_set_true (hg'.lst j hj hc), hg'.chk, hg'.wp, ?_, hg'.flag⟩ hcl' hsz' hcnt'
      intro p hpm
      have : p.1 ≠ i := by
        intro e
        have h1 := hg'.un p hpm
        -- i is in pre' already: it cannot be in rest' (it would be new there)
        exact notboth hg'.chk i hp p hpm e
      rw [getD_set_ne true (Ne.symm this)]; exact hg'.un p hpm
    · rcases hrest with e | ⟨k, r, e⟩
      · rw [e] at hp; cases hp
      · subst e
        obtain ⟨⟨o', x, hk⟩, h2⟩ := drawChk_cons hg'.chk
        rw [if_pos rfl] at h2
        rcases List.mem_cons.1 hp with e | hp
        · cases e
          have hw := hg'.wp
          simp only [stepsOf, hk.optAt, if_true, wpSteps] at hw
          refine hg'.side.chain hB hcl hk hi hw ?_
          intro v H2 μ2 sa2 a2 w2 hK hs2
          have hf := hg'.flag (i, true) List.mem_cons_self
          refine ih _ _ _ (i :: pre') r _ μ2 _ sa2 H2 ids' ⟨hs2, ⟨⟨last', o', x, by rw [hf]; exact hk⟩, hg'.pok⟩, ?_, h2, hK, ?_, fun p hp => hg'.flag p (List.mem_cons_of_mem _ hp)⟩ hcl' hsz' hcnt'
          · intro j hj hc
            rcases List.mem_cons.1 hj with e | hj
            · rw [e]
              rw [Array.getD_eq_getD_getElem?, Array.getElem?_setIfInBounds]
              simp [show i < listed.size from by omega]
            · exact getD_set_true (hg'.lst j hj hc)
          · intro p hpm
            have : p.1 ≠ i := fun e => notboth h2 i List.mem_cons_self p hpm e
            rw [getD_set_ne true (Ne.symm this)]; exact hg'.un p (List.mem_cons_of_mem _ hpm)
        · obtain ⟨l, h3, h4⟩ := drawChk_last h2 i c hp
          have hll := listed_agree (bits_listed hB hcl i o ho hedge l h4)
          have hul : listed.getD l true = false := by
            rcases h3 with rfl | h3
            · exact hg'.un (l, true) List.mem_cons_self
            · exact hg'.un (l, true) (List.mem_cons_of_mem _ h3)
          rw [hul] at hll; cases hll
where
  notboth : ∀ {rest : List (Nat × Bool)} {pre : List Nat} {last : Option Nat}, drawChk N ops B rest pre last = true → ∀ i, i ∈ pre → ∀ p ∈ rest, p.1 = i → False := by
    intro rest
    induction rest with
    | nil => intro pre last _ i _ p hp; cases hp
    | cons q rest ihr =>
      intro pre last h i hi p hp e
      obtain ⟨k, c⟩ := q
      obtain ⟨⟨o, x, hk⟩, h2⟩ := drawChk_cons h
      rcases List.mem_cons.1 hp with e2 | hp
      · rw [e2] at e; exact hk.new (by rw [show k = i from e]; exact hi)
      · exact ihr h2 i (List.mem_cons_of_mem _ hi) p hp e
  fin : ∀ {listed : Array Bool} {a : Act} {w : World} {μ : Mu} {sa : Sl}, (∀ i, i < ops.size → listed.getD i true = true) →
      (∃ pre' rest' last' s' H' ids', Good P N ops B chn (Q .normal) μ0 H0 w0 listed a w pre' rest' last' μ s' sa H' ids' ∧ (rest' = [] ∨ ∃ i r, rest' = (i, true) :: r)) → Post P N μ0 H0 w0 Q .normal a w := by
    intro listed a w μ sa hall h
    obtain ⟨pre, rest, last, s, H, ids, hg, hr⟩ := h
    have hnil : rest = [] := by
      rcases hr with e | ⟨i, r, e⟩
      · exact e
      · subst e
        obtain ⟨⟨o, x, hk⟩, _⟩ := drawChk_cons hg.chk
        have := hg.un (i, true) List.mem_cons_self
        rw [hall i (Array.getElem?_eq_some_iff.1 hk.at_).1] at this; cases this
    subst hnil
    have hsa : sa = s := by
      funext i
      refine hg.side.agree i ?_
      intro j hj hl x hx
      have : j < ops.size := by
        unfold opxAt at hx
        cases ho : ops[j]? with
        | none => rw [ho] at hx; cases hx
        | some o => exact (Array.getElem?_eq_some_iff.1 ho).1
      rw [hall j this] at hl; cases hl
    have hw := hg.wp
    simp only [stepsOf, wpSteps] at hw
    have hs := hg.side.hs
    rw [hsa] at hs
    exact ⟨μ, s, H, hg.side.hH, hs, hg.side.evo, hw⟩
/-- A REGION WHOSE ORDER IS DRAWN. -/
theorem draw_sound (hm : P.follows .mixedOrders = true) (hB : bitsOk ops B = true) {cl : List (Nat × Bool)} (hchk : drawChk N ops B cl [] none = true) {Q : Exit → Sl → AH → Prop} {s : Sl} {H : AH} {id : Nat}
    (h : wpSteps P (Q .normal) (stepsOf ops B cl []) s H) {μ : Mu} {a : Act} {w : World} (hH : HRel P μ H w) (hs : SRel N μ s a) : (Code.region id ops true).wp P (Post P N μ H w Q) a w := by
  refine wp_region_any hm ?_
  let chn : Nat → Bool := fun i => cl.any fun p => p.1 == i && p.2
  have hflag : ∀ (cl : List (Nat × Bool)) (pre : List Nat) (last : Option Nat), drawChk N ops B cl pre last = true → ∀ p ∈ cl, (cl.any fun q => q.1 == p.1 && q.2) = p.2 := by
    intro cl
    induction cl with
    | nil => intro _ _ _ p hp; cases hp
    | cons q cl ih =>
      intro pre last hc p hp
      obtain ⟨k, c⟩ := q
      obtain ⟨⟨o, x, hk⟩, h2⟩ := drawChk_cons hc
      have none' : (cl.any fun q => q.1 == k && q.2) = false := by
        rw [List.any_eq_false]
        intro q hq hx
        simp only [Bool.and_eq_true, beq_iff_eq] at hx
        exact any_sound.notboth h2 k List.mem_cons_self q hq hx.1
      simp only [List.any_cons]
      rcases List.mem_cons.1 hp with e | hp
      · rw [e]; simp only [beq_self_eq_true, Bool.true_and]
        rw [none', Bool.or_false]
      · rw [ih _ _ h2 p hp]
        have hne : k ≠ p.1 := fun e => any_sound.notboth h2 k List.mem_cons_self p hp e.symm
        simp [hne]
  have hw' : HRel P μ H { w with drawn := w.drawn + 1 } := hH.drew
  have key : wpAny P .any ops (Post P N μ H { w with drawn := w.drawn + 1 } Q) ops.size (Array.replicate ops.size false) a { w with drawn := w.drawn + 1 } := by
    refine any_sound (B := B) (chn := chn) hB ops.size _ _ _ [] cl none μ s s H (fun _ => 0) ⟨⟨hw', hs, Evo.refl _ _ _, fun _ _ => rfl, fun j hj => (by cases hj), fun j hj => (by cases hj)⟩, trivial, fun j hj => (by cases hj), hchk, h, ?_, hflag cl [] none hchk⟩ ?_ (by simp) ?_
    · intro p hp
      have : p.1 < ops.size := by
        clear hflag
        have key : ∀ (cl : List (Nat × Bool)) (pre : List Nat) (last : Option Nat), drawChk N ops B cl pre last = true → ∀ p ∈ cl, p.1 < ops.size := by
          intro cl
          induction cl with
          | nil => intro _ _ _ p hp; cases hp
          | cons q cl ih =>
            intro pre last hc p hp
            obtain ⟨k, c⟩ := q
            obtain ⟨⟨o, x, hk⟩, h2⟩ := drawChk_cons hc
            rcases List.mem_cons.1 hp with e | hp
            · rw [e]; exact (Array.getElem?_eq_some_iff.1 hk.at_).1
            · exact ih _ _ h2 p hp
        exact key cl [] none hchk p hp
      simp [this]
    · intro j o hj ho e he hb
      have : j < ops.size := (Array.getElem?_eq_some_iff.1 ho).1
      simp [this] at hj
    · unfold cnt
      exact Nat.le_trans (List.length_filter_le _ _) (by simp)
  have he : Evo μ H w μ H { w with drawn := w.drawn + 1 } := Evo.drew μ H w
  exact wpAny_weaken (fun e a w2 h => Post.trans he h) _ _ _ _ key
where
  wpAny_weaken {Q Q' : Exit → Act → World → Prop} (hq : ∀ e a w, Q e a w → Q' e a w) : ∀ (fuel : Nat) (listed : Array Bool) (a : Act) (w : World), wpAny P .any ops Q fuel listed a w → wpAny P .any ops Q' fuel listed a w := by
    intro fuel
    induction fuel with
    | zero => intro listed a w h; exact ⟨h.1, hq _ _ _ h.2⟩
    | succ fuel ih =>
      intro listed a w h
      refine ⟨fun hr => hq _ _ _ (h.1 hr), fun i hi => ?_⟩
      have := h.2 i hi
      unfold wpOp at this ⊢
      split
      · rename_i e; rw [e] at this; exact ih _ _ _ this
      · rename_i o e
        rw [e] at this
        simp only at this
        split
        · rename_i hw; rw [if_pos hw] at this
          exact this.imp (Oper.wp_weaken (ih _) hq) (fun h => ⟨h.1, by obtain ⟨a0, w0, h0⟩ := h.2; exact ⟨a0, w0, hq _ _ _ h0⟩⟩)
        · rename_i hw; rw [if_neg hw] at this; exact ih _ _ _ this
end
end Go.Proofs.Ytlcipphiflcaiaa.Ai
namespace Go.Proofs.Ytlcipphiflcaiaa.Ai
open Go Go.RowKit
set_option linter.unusedVariables false
set_option linter.unusedSimpArgs false
/-- A loop, its rounds counted down by a number that the relation bears. -/
theorem wp_loop_down {P : Program} {Q : Exit → Act → World → Prop} {c : Code} (I : Nat → Act → World → Prop)
    (round : ∀ n a w, I n a w → c.wp P (Exit.then (fun a' w' => ∃ m, m < n ∧ I m a' w') Q) a w) {n : Nat} {a : Act} {w : World} (h₀ : I n a w) : (Code.loop c).wp P Q a w := by
  intro b k cs
  have key : ∀ n a w, I n a w → ∃ e a' w', Q e a' w' ∧ Arrives P (lone (b.at a (.code c :: .inLoop c :: k)) cs w) b k cs e a' w' := by
    intro n
    induction n using Nat.strongRecOn with
    | _ n ih =>
      intro a w hI
      obtain ⟨e, a₁, w₁, hq, harr⟩ := round n a w hI b (.inLoop c :: k) cs
      cases e with
      | normal =>
        obtain ⟨m, hlt, hI₁⟩ := hq
        obtain ⟨e₂, a₂, w₂, hq₂, harr₂⟩ := ih m hlt a₁ w₁ hI₁
        exact ⟨e₂, a₂, w₂, hq₂, .of_steps (Steps.trans harr (.one step_inLoop)) harr₂⟩
      | exit id => exact ⟨_, a₁, w₁, hq, .pass (x := .inLoop c) rfl (fun _ _ => .inl (by simp)) harr⟩
      | goto l => exact ⟨_, a₁, w₁, hq, .pass (x := .inLoop c) rfl (fun _ _ => .inl (by simp)) harr⟩
      | ret => exact ⟨_, a₁, w₁, hq, .pass (x := .inLoop c) rfl (fun _ _ => .inl (by simp)) harr⟩
      | panic ch => exact ⟨_, a₁, w₁, hq, .pass (x := .inLoop c) rfl (fun _ _ => .inl (by simp)) harr⟩
      | outgrown => exact ⟨_, a₁, w₁, hq, .pass (x := .inLoop c) rfl (fun _ _ => .inl (by simp)) harr⟩
  obtain ⟨e, a', w', hq, harr⟩ := key n a w h₀
  exact ⟨e, a', w', hq, .of_steps (.one step_loop) harr⟩
/-- slim code -/
inductive Cd where
  | skip
  | exit (id : Nat)
  | ret
  | reg (ts : List Stp)
  | seq (a b : Cd)
  | cond (c : Operand) (t e : Cd)
  | block (id : Nat) (c : Cd)
  | loop (c : Cd)
def lookO (ords : List (Nat × List (Nat × Bool))) (id : Nat) : List (Nat × Bool) :=
  match ords with
  | [] => []
  | (i, l) :: r => if i = id then l else lookO r id
def opsOK (N : Nat) (ops : List Oper) : Bool := ops.all fun o => opOK o.op && (o.dst.all fun d => decide (d < N))
/-- the model's code, slim, if all checks hold -/
def slim (N : Nat) (ords : List (Nat × List (Nat × Bool))) : Code → Option Cd
  | .skip => some .skip
  | .exit id => some (.exit id)
  | .ret => some .ret
  | .region id ops draw =>
    match draw with
    | true =>
      match bitsOk ops (Region.before ops) && drawChk N ops (Region.before ops) (lookO ords id) [] none with
      | true => some (.reg (stepsOf ops (Region.before ops) (lookO ords id) []))
      | false => none
    | false =>
      match opsOK N ops.toList with
      | true => (textSteps ops ops.toList).map .reg
      | false => none
  | .seq a b => match slim N ords a, slim N ords b with | some x, some y => some (.seq x y) | _, _ => none
  | .cond c t e => match opOkC c, slim N ords t, slim N ords e with | true, some x, some y => some (.cond c x y) | _, _, _ => none
  | .block id c => (slim N ords c).map (.block id)
  | .loop c => (slim N ords c).map .loop
  | _ => none
/-- behind a part that ends normally -/
def thenA (K : Sl → AH → Prop) (Q : Exit → Sl → AH → Prop) : Exit → Sl → AH → Prop
  | .normal, s, H => K s H
  | e, s, H => Q e s H
def blockA (id : Nat) (Q : Exit → Sl → AH → Prop) : Exit → Sl → AH → Prop
  | .exit id', s, H => if id' = id then Q .normal s H else Q (.exit id') s H
  | e, s, H => Q e s H
/-- a loop: what holds before each round, counted down -/
def LoopA (body : (Sl → AH → Prop) → Sl → AH → Prop) (s : Sl) (H : AH) : Prop :=
  ∃ I : Nat → Sl → AH → Prop, (∃ n, I n s H) ∧ ∀ n s H, I n s H → body (fun s' H' => ∃ m, m < n ∧ I m s' H') s H
def wpC (P : Program) : Cd → (Exit → Sl → AH → Prop) → Sl → AH → Prop
  | .skip, Q, s, H => Q .normal s H
  | .reg ts, Q, s, H => wpSteps P (Q .normal) ts s H
  | .seq a b, Q, s, H => wpC P a (thenA (wpC P b Q) Q) s H
  | .cond c t e, Q, s, H => match evalA s c with | .bool b => Br b (wpC P t Q s H) (wpC P e Q s H) | _ => False
  | .block id c, Q, s, H => wpC P c (blockA id Q) s H
  | .loop c, Q, s, H => LoopA (fun K => wpC P c (thenA K Q)) s H
  | .exit id, Q, s, H => Q (.exit id) s H
  | .ret, Q, s, H => Q .ret s H
theorem wpC_sound {P : Program} {N : Nat} {ords : List (Nat × List (Nat × Bool))} (hm : P.follows .mixedOrders = true) : ∀ (c : Code) (d : Cd), slim N ords c = some d → ∀ (Q : Exit → Sl → AH → Prop) (s : Sl) (H : AH), wpC P d Q s H → AWP P N c Q s H := by
  intro c
  induction c with
  | skip => intro d hd Q s H h μ a w hH hs; cases hd; exact wp_skip ⟨μ, s, H, hH, hs, Evo.refl _ _ _, h⟩
  | exit id => intro d hd Q s H h μ a w hH hs; cases hd; exact wp_exit ⟨μ, s, H, hH, hs, Evo.refl _ _ _, h⟩
  | ret => intro d hd Q s H h μ a w hH hs; cases hd; exact wp_ret ⟨μ, s, H, hH, hs, Evo.refl _ _ _, h⟩
  | region id ops draw =>
    intro d hd Q s H h μ a w hH hs
    cases draw with
    | false =>
      simp only [slim] at hd
      split at hd
      · rename_i hok
        cases ht : textSteps ops ops.toList with
        | none => rw [ht] at hd; cases hd
        | some ts =>
          rw [ht] at hd
          cases hd
          refine wp_region ?_
          have := text_sound (P := P) (N := N) (Q := Q) ops.toList 0 (fun j => by rw [Array.getElem?_toList, Nat.zero_add]) (by
            intro o ho
            have := List.all_eq_true.1 hok o ho
            simp only [Bool.and_eq_true] at this
            refine ⟨this.1, fun i hi => ?_⟩
            have h2 := this.2
            rw [hi] at h2
            simpa using h2) ts ht s H μ a w h hH hs
          rwa [Array.length_toList, ← List.range_eq_range'] at this
      · cases hd
    | true =>
      simp only [slim] at hd
      split at hd
      · rename_i hok
        cases hd
        simp only [Bool.and_eq_true] at hok
        exact draw_sound hm hok.1 hok.2 h hH hs
      · cases hd
  | seq x y ihx ihy =>
    intro d hd Q s H h μ a w hH hs
    simp only [slim] at hd
    split at hd
    · rename_i dx dy ex ey
      cases hd
      refine wp_seq (wp_mono (ihx dx ex _ s H h μ a w hH hs) ?_)
      intro e a' w' hp
      obtain ⟨μ', s', H', h1, h2, h3, h4⟩ := hp
      cases e with
      | normal => exact wp_mono (ihy dy ey _ s' H' h4 μ' a' w' h1 h2) (fun e a2 w2 hp => Post.trans h3 hp)
      | _ => exact ⟨μ', s', H', h1, h2, h3, h4⟩
    · cases hd
  | cond c x y ihx ihy =>
    intro d hd Q s H h μ a w hH hs
    simp only [slim] at hd
    split at hd
    · rename_i dx dy hok ex ey
      cases hd
      simp only [wpC] at h
      split at h
      · rename_i b e
        have hc := hs.eval hok
        rw [e] at hc
        have hc' : a.eval c = .bool b := hc
        refine wp_cond hc' ?_
        cases b with
        | true => exact ihx dx ex Q s H (h.1 rfl) μ a w hH hs
        | false => exact ihy dy ey Q s H (h.2 rfl) μ a w hH hs
      · exact h.elim
    · cases hd
  | block id c ih =>
    intro d hd Q s H h μ a w hH hs
    simp only [slim] at hd
    cases hc : slim N ords c with
    | none => rw [hc] at hd; cases hd
    | some dc =>
      rw [hc] at hd
      cases hd
      refine wp_block (wp_mono (ih dc hc _ s H h μ a w hH hs) ?_)
      intro e a' w' hp
      obtain ⟨μ', s', H', h1, h2, h3, h4⟩ := hp
      cases e with
      | exit id' =>
        simp only [Exit.inBlock]
        simp only [blockA] at h4
        split
        · rename_i e; rw [if_pos e] at h4; exact ⟨μ', s', H', h1, h2, h3, h4⟩
        · rename_i e; rw [if_neg e] at h4; exact ⟨μ', s', H', h1, h2, h3, h4⟩
      | _ => exact ⟨μ', s', H', h1, h2, h3, h4⟩
  | loop c ih =>
    intro d hd Q s H h μ a w hH hs
    simp only [slim] at hd
    cases hc : slim N ords c with
    | none => rw [hc] at hd; cases hd
    | some dc =>
      rw [hc] at hd
      cases hd
      obtain ⟨I, ⟨n, h0⟩, hr⟩ := h
      refine wp_loop_down (fun n a' w' => ∃ μ' s' H', HRel P μ' H' w' ∧ SRel N μ' s' a' ∧ Evo μ H w μ' H' w' ∧ I n s' H') ?_ (n := n) ⟨μ, s, H, hH, hs, Evo.refl _ _ _, h0⟩
      rintro n a1 w1 ⟨μ1, s1, H1, g1, g2, g3, g4⟩
      refine wp_mono (ih dc hc _ s1 H1 (hr n s1 H1 g4) μ1 a1 w1 g1 g2) ?_
      intro e a' w' hp
      obtain ⟨μ', s', H', h1, h2, h3, h4⟩ := hp
      cases e with
      | normal => obtain ⟨m, hm, hI⟩ := h4; exact ⟨m, hm, μ', s', H', h1, h2, g3.trans h3, hI⟩
      | _ => exact ⟨μ', s', H', h1, h2, g3.trans h3, h4⟩
  | _ => intro d hd; cases hd
/-- what a function hands back -/
def resA (P : Program) (s : Sl) (H : AH) : List ResultVar → Option (List Value)
  | [] => some []
  | .tmp t :: rs => if isTup (s t) = true then none else (resA P s H rs).map (s t :: ·)
  | .cell a t :: rs => match loadA P t (s a) H with | some v => if isTup v = true then none else (resA P s H rs).map (v :: ·) | none => none
def outA (vs : List Value) : Value :=
  match vs with
  | [v] => v
  | vs => .tuple vs.toArray
theorem loadA_ptr {P : Program} {t : TypeId} {x v : Value} {H : AH} (h : loadA P t x H = some v) : ∃ p, x = .pointer (some p) := by
  unfold loadA at h
  split at h
  · exact ⟨_, rfl⟩
  · cases h
def rdRes (a : Act) : ResultVar → Sem Value
  | .tmp t => pure (a.tmps.getD t undef)
  | .cell x t => do loadVar t (← asAddr (a.tmps.getD x undef))
theorem asAddr_run {P : Program} (p : Addr) (w : World) : (asAddr (.pointer (some p))).run P w = .ok p w := rfl
theorem resA_run {P : Program} {N : Nat} {μ : Mu} {H : AH} {w : World} (hH : HRel P μ H w) {s : Sl} {a : Act} (hs : SRel N μ s a) : ∀ (rs : List ResultVar) (vs : List Value), resA P s H rs = some vs →
    ∃ cs, (rs.mapM (rdRes a)).run P w = .ok cs w ∧ All2 (VRel μ) vs cs
  | [], vs, h => by simp only [resA, Option.some.injEq] at h; subst h; exact ⟨[], by simp, trivial⟩
  | .tmp t :: rs, vs, h => by
    simp only [resA] at h
    split at h
    · cases h
    · rename_i hnt
      obtain ⟨us, h1, h2⟩ := map_some h
      subst h2
      obtain ⟨cs, g1, g2⟩ := resA_run hH hs rs us h1
      refine ⟨a.tmps.getD t undef :: cs, ?_, VRel.of_t' (by simpa using hnt) (hs.at_ t), g2⟩
      simp only [List.mapM_cons, rdRes, Sem.run_bind, Sem.run_pure, Result.andThen_ok, g1]
  | .cell x t :: rs, vs, h => by
    simp only [resA] at h
    split at h
    · rename_i v hv
      split at h
      · cases h
      · rename_i hnt
        obtain ⟨us, h1, h2⟩ := map_some h
        subst h2
        obtain ⟨cs, g1, g2⟩ := resA_run hH hs rs us h1
        obtain ⟨p, hp⟩ := loadA_ptr hv
        have hx := hs.at_ x
        obtain ⟨cv, k1, k2⟩ := loadA_run hH hv hx
        rw [hp] at hx
        obtain ⟨_, L, _, e⟩ := hx
        refine ⟨cv :: cs, ?_, VRel.of_t' (by simpa using hnt) k2, g2⟩
        rw [e] at k1
        have k1' : (loadVar t ⟨L.blk, L.base + p.off, none⟩).run P w = .ok cv w := by
          simpa [Instr.loadAt, Instr.sureAddr] using k1
        simp only [List.mapM_cons, rdRes, Sem.run_bind, e, asAddr_run, Sem.run_pure, Result.andThen_ok, k1', g1]
    · cases h
theorem results_run {P : Program} {N : Nat} {μ : Mu} {H : AH} {w : World} (hH : HRel P μ H w) {s : Sl} {a : Act} (hs : SRel N μ s a) {fn : Func} {vs : List Value} (h : resA P s H fn.results.toList = some vs) :
    ∃ c, (results fn a.tmps).run P w = .ok c w ∧ TRel μ (outA vs) c := by
  obtain ⟨cs, g1, g2⟩ := resA_run hH hs fn.results.toList vs h
  have hm : (fn.results.mapM (rdRes a)).run P w = .ok cs.toArray w := by
    rw [Array.mapM_eq_mapM_toList, Sem.run_map, g1]; rfl
  have hl := all2_len g2
  refine ⟨if h : cs.toArray.size = 1 then cs.toArray[0] else .tuple cs.toArray, ?_, ?_⟩
  · change ((fn.results.mapM (rdRes a)) >>= fun vs => pure (if h : vs.size = 1 then vs[0] else .tuple vs) : Sem Value).run P w = _
    rw [Sem.run_bind, hm]
    rfl
  · match vs, cs, g2, hl with
    | [], [], _, _ => exact ⟨#[], rfl, trivial⟩
    | [v], [c], g2, _ => exact TRel.of_vrel g2.1
    | v :: v2 :: vs, c :: c2 :: cs, g2, _ =>
      refine ⟨(c :: c2 :: cs).toArray, ?_, g2⟩
      simp
/-- the slots when a call begins -/
def enterA (args : List Value) : Sl := fun i => args.getD i undef
/-- what a body must come to -/
def endA (P : Program) (rs : List ResultVar) (R : Value → AH → Prop) : Exit → Sl → AH → Prop
  | .normal, s, H | .ret, s, H => match resA P s H rs with | some vs => R (outA vs) H | none => False
  | _, _, _ => False
/-- HOW A CONTRACT IS PROVED: the function's own text, over the abstract heap. -/
theorem ACalls.intro {P : Program} (hm : P.follows .mixedOrders = true) {f : FuncId} {fn : Func} {c : Code} {d : Cd} {ords : List (Nat × List (Nat × Bool))} {args : List Value} {H : AH} {R : Value → AH → Prop} (hf : P.funcs[f]? = some fn) (hb : fn.body = some c) (hn : (fn.name == "runtime.NumGoroutine") = false)
    (hok : slim fn.ntmps ords c = some d) {n : Nat} (hl : args.length = n) (hl2 : n ≤ fn.ntmps) {rs : List ResultVar} (hrs : fn.results.toList = rs) (h' : ∀ (Q : Exit → Sl → AH → Prop), (∀ e s H, endA P rs R e s H → Q e s H) → wpC P d Q (enterA args) H) : ACalls P f args H R := by
  subst hl
  subst hrs
  have h := h' _ (fun _ _ _ h => h)
  have hl := hl2
  refine ⟨⟨fn, hf, by rw [hb]; rfl, hn⟩, ?_⟩
  intro μ w cargs hH ha
  have hlen0 := all2_len ha
  have hlen : args.length = cargs.size := by rw [hlen0]; exact Array.length_toList
  have hs : SRel fn.ntmps μ (enterA args) { tmps := cargs ++ Array.replicate (fn.ntmps - cargs.size) undef, defers := [] } := by
    refine ⟨rfl, by simp; omega, ?_⟩
    intro i
    unfold enterA
    rw [Array.getD_eq_getD_getElem?, List.getD_eq_getElem?_getD]
    by_cases hi : i < args.length
    · obtain ⟨y, h1, h2⟩ := all2_at ha i args[i] (List.getElem?_eq_getElem hi)
      rw [List.getElem?_eq_getElem hi, Array.getElem?_append_left (by omega)]
      have h1' : cargs[i]? = some y := by simpa using h1
      rw [h1']; exact h2
    · rw [List.getElem?_eq_none (by omega)]
      simp only [Option.getD_none]
      rw [Array.getElem?_append_right (by omega)]
      by_cases h2 : i - cargs.size < fn.ntmps - cargs.size
      · simp [h2]; exact TRel.undef μ
      · simp [h2]; exact TRel.undef μ
  refine calls_of_wp hf hb (wp_mono (wpC_sound hm c d hok _ _ H h μ _ w hH hs) ?_)
  intro e a' w' hp
  obtain ⟨μ', s', H', h1, h2, h3, h4⟩ := hp
  have fin : (match resA P s' H' fn.results.toList with | some vs => R (outA vs) H' | none => False) → a'.defers = [] ∧ ∃ v, (results fn a'.tmps).run P w' = .ok v w' ∧ ∃ μ'' r H'' cr, Ending.returned v = .returned cr ∧ TRel μ'' r cr ∧ HRel P μ'' H'' w' ∧ Evo μ H w μ'' H'' w' ∧ R r H'' := by
    intro h4
    split at h4
    · rename_i vs e
      obtain ⟨c, g1, g2⟩ := results_run h1 h2 e
      exact ⟨h2.defers, c, g1, μ', outA vs, H', c, rfl, g2, h1, h3, h4⟩
    · exact h4.elim
  cases e with
  | normal => exact fin h4
  | ret => exact fin h4
  | _ => exact h4.elim
/-- FROM A CONTRACT TO THE MODEL'S CALL. -/
theorem ACalls.calls {P : Program} {f : FuncId} {args : List Value} {H : AH} {R : Value → AH → Prop} (h : ACalls P f args H R) {μ : Mu} {w : World} {cargs : Array Value} (hH : HRel P μ H w) (ha : All2 (TRel μ) args cargs.toList)
    {B : Nat} (hB : B ≤ w.heap.size) (ho : ∀ o x L, H[o]? = some x → x.wr = true → μ o = some L → B ≤ L.blk) :
    Calls P f cargs w fun e w' => ∃ μ' r H' cr, e = .returned cr ∧ TRel μ' r cr ∧ HRel P μ' H' w' ∧ Below B w w' ∧ R r H' :=
  (h.2 μ w cargs hH ha).mono fun e w' ⟨μ', r, H', cr, h1, h2, h3, h4, h5⟩ => ⟨μ', r, H', cr, h1, h2, h3, h4.below hB ho, h5⟩
end Go.Proofs.Ytlcipphiflcaiaa.Ai
namespace Go.Proofs.Ytlcipphiflcaiaa.Ai
open Go Go.RowKit
set_option linter.unusedVariables false
set_option linter.unusedSimpArgs false
/-- what simp leaves alone -/
class Hold (α : Type) where
  v : α
def brH (b : Bool) [A : Hold Prop] [B : Hold Prop] : Prop := (b = true → A.v) ∧ (b = false → B.v)
theorem brH.intro {b : Bool} {A B : Prop} (h1 : b = true → A) (h2 : b = false → B) : @brH b ⟨A⟩ ⟨B⟩ := ⟨h1, h2⟩
theorem brD.intro {p : Prop} {dp : Decidable p} {A B : Prop} (h1 : p → A) (h2 : ¬ p → B) : @brH (@decide p dp) ⟨A⟩ ⟨B⟩ := ⟨fun h => h1 (of_decide_eq_true h), fun h => h2 (of_decide_eq_false h)⟩
def letA (o : Option Value) [k : Hold (Value → Prop)] : Prop := match o with | some v => k.v v | none => False
def letP (o : Option (Value × AH)) [k : Hold (Value → AH → Prop)] : Prop := match o with | some p => k.v p.1 p.2 | none => False
def letH (o : Option AH) [k : Hold (AH → Prop)] : Prop := match o with | some h => k.v h | none => False
def condA (v : Value) [A : Hold Prop] [B : Hold Prop] : Prop := match v with | .bool b => @brH b A B | _ => False
def guardA (v : Value) [A : Hold Prop] [B : Hold Prop] : Prop := match v with | .bool b => @brH b A B | _ => B.v
def guardB (v : Value) [A : Hold Prop] [B : Hold Prop] : Prop := match v with | .bool b => @brH b B A | _ => B.v
def stepH (P : Program) (op : Op) (s : Sl) (H : AH) [K : Hold (Value → AH → Prop)] : Prop := stepW P op s H K.v
def runH (P : Program) (x : Opx) (s : Sl) (H : AH) [K : Hold (Value → AH → Prop)] : Prop := runX P x s H K.v
def callH (P : Program) (f : Value) (xs : List Value) (H : AH) [K : Hold (Value → AH → Prop)] : Prop := match f with | .func (.func g) fs caps => ACalls P g (fs.toList ++ (xs ++ caps.toList)) H K.v | _ => False
/-- a call, by its number -/
def CallH (P : Program) (g : FuncId) (xs : List Value) (H : AH) [K : Hold (Value → AH → Prop)] : Prop := ACalls P g xs H K.v
def LoopH (s : Sl) (H : AH) [body : Hold ((Sl → AH → Prop) → Sl → AH → Prop)] : Prop := LoopA body.v s H
/-- A CALL: by its contract. -/
theorem CallH.by {P : Program} {g : FuncId} {xs : List Value} {H : AH} {K R : Value → AH → Prop} (h : ACalls P g xs H R) (hk : ∀ r H', R r H' → K r H') : @CallH P g xs H ⟨K⟩ := h.mono hk
/-- A LOOP: by what holds before each round, counted down. -/
theorem LoopH.by {body : (Sl → AH → Prop) → Sl → AH → Prop} {s : Sl} {H : AH} (I : Nat → Sl → AH → Prop) (n : Nat) (h0 : I n s H) (hr : ∀ n s H, I n s H → body (fun s' H' => ∃ m, m < n ∧ I m s' H') s H) : @LoopH s H ⟨body⟩ := ⟨I, ⟨n, h0⟩, hr⟩
def pickA (c a b : Value) : Option Value := match c with | .bool t => some (if t = true then a else b) | _ => none
theorem stepH_let (P : Program) (op : Op) (s : Sl) (H : AH) (K : Value → AH → Prop) (o : Option Value) (h : stepA P op s H = o.map (·, H)) (hs : stepW P op s H K = (match stepA P op s H with | some (v, H') => K v H' | none => False)) : @stepH P op s H ⟨K⟩ = @letA o ⟨fun v => K v H⟩ := by
  show stepW P op s H K = _
  rw [hs, h]
  cases o <;> rfl
theorem stepH_letP (P : Program) (op : Op) (s : Sl) (H : AH) (K : Value → AH → Prop) (o : Option (Value × AH)) (h : stepA P op s H = o) (hs : stepW P op s H K = (match stepA P op s H with | some (v, H') => K v H' | none => False)) : @stepH P op s H ⟨K⟩ = @letP o ⟨K⟩ := by
  show stepW P op s H K = _
  rw [hs, h]; cases o <;> rfl
theorem pick_step (P : Program) (c a b : Operand) (s : Sl) (H : AH) : stepA P (.pick c a b) s H = (pickA (evalA s c) (evalA s a) (evalA s b)).map (·, H) := by
  simp only [stepA, pickA]
  cases evalA s c <;> rfl
/-- the length of a slice, or of a map -/
def lenS (P : Program) (t : TypeId) (x : Value) (H : AH) : Option Value := if t = mapT then lenMapA P t x H else lenA P t x
theorem len_step (P : Program) (x : Operand) (t : TypeId) (s : Sl) (H : AH) : stepA P (.call ⟨.builtin .len, List.toArray [x], List.toArray [t]⟩) s H = (lenS P t (evalA s x) H).map (·, H) := by
  show (if t = mapT then (lenMapA P t (evalA s x) H).map (·, H) else (lenA P t (evalA s x)).map (·, H)) = _
  unfold lenS
  split <;> rfl
theorem lenS_sl {P : Program} {t : TypeId} (h : t ≠ mapT) (x : Value) (H : AH) : lenS P t x H = lenA P t x := if_neg h
def nilA (x : Value) : Option Value := match x with | .pointer (some p) => some (.pointer (some p)) | .func (.func f) fs cs => some (.func (.func f) fs cs) | _ => none
theorem nil_step (P : Program) (x : Operand) (s : Sl) (H : AH) : stepA P (.nilCheck x) s H = (nilA (evalA s x)).map (·, H) := by
  simp only [stepA, nilA]
  split <;> simp_all
/-- THE RULES. -/
theorem S :
    (∀ (P : Program) Q s H, wpC P .skip Q s H = Q .normal s H) ∧
    (∀ (P : Program) Q s H id, wpC P (.exit id) Q s H = Q (.exit id) s H) ∧
    (∀ (P : Program) Q s H, wpC P .ret Q s H = Q .ret s H) ∧
    (∀ (P : Program) Q s H ts, wpC P (.reg ts) Q s H = wpSteps P (Q .normal) ts s H) ∧
    (∀ (P : Program) Q s H a b, wpC P (.seq a b) Q s H = wpC P a (thenA (wpC P b Q) Q) s H) ∧
    (∀ (P : Program) Q s H c t e, wpC P (.cond c t e) Q s H = @condA (evalA s c) ⟨wpC P t Q s H⟩ ⟨wpC P e Q s H⟩) ∧
    (∀ (P : Program) Q s H id c, wpC P (.block id c) Q s H = wpC P c (blockA id Q) s H) ∧
    (∀ (P : Program) Q s H c, wpC P (.loop c) Q s H = @LoopH s H ⟨fun K => wpC P c (thenA K Q)⟩) ∧
    (∀ K Q s H, thenA K Q .normal s H = K s H) ∧
    (∀ K Q s H id, thenA K Q (.exit id) s H = Q (.exit id) s H) ∧
    (∀ K Q s H, thenA K Q .ret s H = Q .ret s H) ∧
    (∀ id Q s H, blockA id Q .normal s H = Q .normal s H) ∧
    (∀ id Q s H id', blockA id Q (.exit id') s H = if id' = id then Q .normal s H else Q (.exit id') s H) ∧
    (∀ id Q s H, blockA id Q .ret s H = Q .ret s H) ∧
    (∀ (P : Program) Q s H, wpSteps P Q [] s H = Q s H) ∧
    (∀ (P : Program) Q s H x rest, wpSteps P Q (⟨x, []⟩ :: rest) s H = @runH P x s H ⟨fun v H' => wpSteps P Q rest (s.put x.dst v) H'⟩) ∧
    (∀ (P : Program) Q s H x w ws rest, wpSteps P Q (⟨x, w :: ws⟩ :: rest) s H = @runH P x s H ⟨fun v H' => watchA P (s.put x.dst v) H H' (w :: ws) ∧ wpSteps P Q rest (s.put x.dst v) H'⟩) ∧
    (∀ (P : Program) s H H' x xs, watchA P s H H' (x :: xs) = (watch1 P x s H H' ∧ watchA P s H H' xs)) ∧
    (∀ (P : Program) s H H', watchA P s H H' [] = True) ∧
    (∀ (P : Program) d op s H K, @runH P ⟨d, op, none⟩ s H ⟨K⟩ = @stepH P op s H ⟨K⟩) ∧
    (∀ (P : Program) d op g s H K, @runH P ⟨d, op, some (g, true)⟩ s H ⟨K⟩ = @guardA (s g) ⟨@stepH P op s H ⟨K⟩⟩ ⟨K undef H⟩) ∧
    (∀ (P : Program) d op g s H K, @runH P ⟨d, op, some (g, false)⟩ s H ⟨K⟩ = @guardB (s g) ⟨@stepH P op s H ⟨K⟩⟩ ⟨K undef H⟩) ∧
    (∀ b A B, @condA (.bool b) ⟨A⟩ ⟨B⟩ = @brH b ⟨A⟩ ⟨B⟩) ∧
    (∀ b A B, @guardA (.bool b) ⟨A⟩ ⟨B⟩ = @brH b ⟨A⟩ ⟨B⟩) ∧
    (∀ b A B, @guardB (.bool b) ⟨A⟩ ⟨B⟩ = @brH b ⟨B⟩ ⟨A⟩) ∧
    (∀ vs A B, @guardA (.tuple vs) ⟨A⟩ ⟨B⟩ = B) ∧
    (∀ vs A B, @guardB (.tuple vs) ⟨A⟩ ⟨B⟩ = B) ∧
    (∀ A B, @guardA undef ⟨A⟩ ⟨B⟩ = B) ∧
    (∀ A B, @guardB undef ⟨A⟩ ⟨B⟩ = B) ∧
    (∀ b A B, @brH (!b) ⟨A⟩ ⟨B⟩ = @brH b ⟨B⟩ ⟨A⟩) ∧
    (∀ A B, @brH true ⟨A⟩ ⟨B⟩ = A) ∧
    (∀ A B, @brH false ⟨A⟩ ⟨B⟩ = B) ∧
    (∀ v k, @letA (some v) ⟨k⟩ = k v) ∧
    (∀ k, @letA none k = False) ∧
    (∀ v h k, @letP (some (v, h)) ⟨k⟩ = k v h) ∧
    (∀ k, @letP none k = False) ∧
    (∀ h k, @letH (some h) ⟨k⟩ = k h) ∧
    (∀ k, @letH none k = False) ∧
    (∀ (P : Program) g fs caps xs H K, @callH P (.func (.func g) (List.toArray fs) (List.toArray caps)) xs H ⟨K⟩ = @CallH P g (fs ++ (xs ++ caps)) H ⟨K⟩) ∧
    (∀ s t, evalA s (.tmp t) = s t) ∧
    (∀ s v, evalA s (.const v) = v) ∧
    (∀ s f, evalA s (.func f) = .func (.func f) #[] #[]) ∧
    (∀ s l, evalsA s (List.toArray l) = l.map (evalA s)) ∧
    (∀ s l, partsA s (List.toArray l) = l.map fun p => (p.1, evalA s p.2)) ∧
    (∀ s d v i, Sl.put s (some d) v i = if i = d then v else s i) ∧
    (∀ s v, Sl.put s none v = s) := by
  refine ⟨?_, ?_, ?_, ?_, ?_, ?_, ?_, ?_, ?_, ?_, ?_, ?_, ?_, ?_, ?_, ?_, ?_, ?_, ?_, ?_, ?_, ?_, ?_, ?_, ?_, ?_, ?_, ?_, ?_, ?_, ?_, ?_, ?_, ?_, ?_, ?_, ?_, ?_, ?_, ?_, ?_, ?_, ?_, ?_, ?_, ?_⟩
  all_goals intros
  all_goals first
    | rfl
    | (simp [brH]; done)
    | (rename_i b A B; cases b <;> simp [brH]; done)
    | (simp [wpSteps, watchA, runH, stepH, runX]; done)
    | (simp [evalsA, partsA, callH, CallH]; done)
    | skip
/-- .. of operations -/
theorem S1 :
    (∀ (P : Program) s H K x, @stepH P (.move x) s H ⟨K⟩ = K (evalA s x) H) ∧
    (∀ (P : Program) s H K x, @stepH P (.assign x) s H ⟨K⟩ = K (evalA s x) H) ∧
    (∀ (P : Program) s H K c a b, @stepH P (.pick c a b) s H ⟨K⟩ = @letA (pickA (evalA s c) (evalA s a) (evalA s b)) ⟨fun v => K v H⟩) ∧
    (∀ a b, pickA (.bool true) a b = some a) ∧
    (∀ a b, pickA (.bool false) a b = some b) ∧
    (∀ (P : Program) s H K e, @stepH P (.alloc e) s H ⟨K⟩ = @letP (allocA P e H) ⟨K⟩) ∧
    (∀ (P : Program) s H K e x, @stepH P (.box e x) s H ⟨K⟩ = @letP (boxA P e (evalA s x) H) ⟨K⟩) ∧
    (∀ (P : Program) s H K t ps, @stepH P (.build t ps) s H ⟨K⟩ = @letA (buildA P t (partsA s ps)) ⟨fun v => K v H⟩) ∧
    (∀ (P : Program) s H K t n ps, @stepH P (.buildSlice t n ps) s H ⟨K⟩ = @letP (buildSliceA P t n (partsA s ps) H) ⟨K⟩) ∧
    (∀ (P : Program) s H K t x, @stepH P (.load t x) s H ⟨K⟩ = @letA (loadA P t (evalA s x) H) ⟨fun v => K v H⟩) ∧
    (∀ (P : Program) s H K t a x, @stepH P (.store t a x) s H ⟨K⟩ = @letH (storeA P t (evalA s a) (evalA s x) H) ⟨fun h => K undef h⟩) ∧
    (∀ (P : Program) s H K op t x y u, @stepH P (.binOp op t x y u) s H ⟨K⟩ = @letA (binA P op t (evalA s x) (evalA s y)) ⟨fun v => K v H⟩) ∧
    (∀ (P : Program) s H K op t x, @stepH P (.unOp op t x) s H ⟨K⟩ = @letA (unA op (evalA s x)) ⟨fun v => K v H⟩) ∧
    (∀ (P : Program) s H K a b x, @stepH P (.convert a b x) s H ⟨K⟩ = @letA (convA P a b (evalA s x)) ⟨fun v => K v H⟩) ∧
    (∀ (P : Program) s H K f xs ys, @stepH P (.makeFunc f xs ys) s H ⟨K⟩ = @letA (makeFuncA f (evalsA s xs) (evalsA s ys)) ⟨fun v => K v H⟩) ∧
    (∀ (P : Program) s H K t l c, @stepH P (.makeSlice t l c) s H ⟨K⟩ = @letP (makeSliceA P t (evalA s l) (evalA s c) H) ⟨K⟩) ∧
    (∀ (P : Program) s H K t x lo hi, @stepH P (.slice t x lo hi none) s H ⟨K⟩ = @letA (sliceA P t (evalA s x) (lo.map (evalA s)) (hi.map (evalA s)) none H) ⟨fun v => K v H⟩) ∧
    (∀ (P : Program) s H K t x lo hi m, @stepH P (.slice t x lo hi (some m)) s H ⟨K⟩ = @letP (slice3A P t (evalA s x) (lo.map (evalA s)) (hi.map (evalA s)) (evalA s m) H) ⟨K⟩) ∧
    (∀ (P : Program) s H K x t, @stepH P (.call ⟨.builtin .clear, List.toArray [x], List.toArray [t]⟩) s H ⟨K⟩ = @letP (clearA P t (evalA s x) H) ⟨K⟩) ∧
    (∀ (P : Program) s H K x y t t2, @stepH P (.call ⟨.builtin .copy, List.toArray [x, y], List.toArray [t, t2]⟩) s H ⟨K⟩ = @letP (copyA P t (evalA s x) (evalA s y) H) ⟨K⟩) ∧
    (∀ (P : Program) s H K t x f, @stepH P (.fieldAddr t x f) s H ⟨K⟩ = @letA (fieldAddrA P t (evalA s x) f) ⟨fun v => K v H⟩) ∧
    (∀ (P : Program) s H K t x f, @stepH P (.field t x f) s H ⟨K⟩ = @letA (fieldA P t (evalA s x) f) ⟨fun v => K v H⟩) ∧
    (∀ (P : Program) s H K t x f, @stepH P (.indexAddr t x f) s H ⟨K⟩ = @letA (indexAddrA P t (evalA s x) (evalA s f)) ⟨fun v => K v H⟩) ∧
    (∀ (P : Program) s H K t x f, @stepH P (.index t x f) s H ⟨K⟩ = @letA (indexA P t (evalA s x) (evalA s f)) ⟨fun v => K v H⟩) ∧
    (∀ (P : Program) s H K x i, @stepH P (.extract x i) s H ⟨K⟩ = @letA (extractA (evalA s x) i) ⟨fun v => K v H⟩) ∧
    (∀ (P : Program) s H K x, @stepH P (.nilCheck x) s H ⟨K⟩ = @letA (nilA (evalA s x)) ⟨fun v => K v H⟩) ∧
    (∀ p, nilA (.pointer (some p)) = some (.pointer (some p))) ∧
    (∀ f fs cs, nilA (.func (.func f) fs cs) = some (.func (.func f) fs cs)) ∧
    (∀ (P : Program) s H K f xs ts, @stepH P (.call ⟨.value f, xs, ts⟩) s H ⟨K⟩ = @callH P (evalA s f) (evalsA s xs) H ⟨K⟩) ∧
    (∀ (P : Program) s H K x y t t2, @stepH P (.call ⟨.builtin .append, List.toArray [x, y], List.toArray [t, t2]⟩) s H ⟨K⟩ = @letP (appendA P t t2 (evalA s x) (evalA s y) H) ⟨K⟩) ∧
    (∀ (P : Program) s H K x t, @stepH P (.call ⟨.builtin .len, List.toArray [x], List.toArray [t]⟩) s H ⟨K⟩ = @letA (lenS P t (evalA s x) H) ⟨fun v => K v H⟩) ∧
    (∀ (P : Program) s H K t, @stepH P (.makeMap t none) s H ⟨K⟩ = @letP (makeMapA P t H) ⟨K⟩) ∧
    (∀ (P : Program) s H K t m k b, @stepH P (.lookup t m k b) s H ⟨K⟩ = @letA (lookupA P t (evalA s m) (evalA s k) b H) ⟨fun v => K v H⟩) ∧
    (∀ (P : Program) s H K t m k x, @stepH P (.mapUpdate t m k x) s H ⟨K⟩ = @letH (updA P t (evalA s m) (evalA s k) (evalA s x) H) ⟨fun h => K undef h⟩) ∧
    (∀ (P : Program) s H K t m k x, @stepH P (.insert t m k x) s H ⟨K⟩ = @letH (updA P t (evalA s m) (evalA s k) (evalA s x) H) ⟨fun h => K undef h⟩) ∧
    (∀ (P : Program) s H K xs ts, @stepH P (.call ⟨.builtin .min, xs, ts⟩) s H ⟨K⟩ = @letA (minmaxA minI (evalsA s xs)) ⟨fun v => K v H⟩) ∧
    (∀ (P : Program) s H K xs ts, @stepH P (.call ⟨.builtin .max, xs, ts⟩) s H ⟨K⟩ = @letA (minmaxA maxI (evalsA s xs)) ⟨fun v => K v H⟩) ∧
    (∀ l i, extractA (.tuple (List.toArray l)) i = l[i]?) := by
  refine ⟨?_, ?_, ?_, ?_, ?_, ?_, ?_, ?_, ?_, ?_, ?_, ?_, ?_, ?_, ?_, ?_, ?_, ?_, ?_, ?_, ?_, ?_, ?_, ?_, ?_, ?_, ?_, ?_, ?_, ?_, ?_, ?_, ?_, ?_, ?_, ?_, ?_, ?_⟩
  all_goals intros
  all_goals first
    | rfl
    | exact stepH_let _ _ _ _ _ _ (pick_step ..) rfl
    | exact stepH_let _ _ _ _ _ _ (nil_step ..) rfl
    | exact stepH_let _ _ _ _ _ _ (len_step ..) rfl
    | exact stepH_let _ _ _ _ _ _ rfl rfl
    | exact stepH_letP _ _ _ _ _ _ rfl rfl
    | skip
  all_goals first
    | (simp [extractA, pickA, nilA]; done)
    | (simp [stepH, stepW, stepA, callH]; done)
    | (simp only [stepH, stepW, stepA, letH]; cases storeA _ _ _ _ _ <;> rfl)
    | (simp only [stepH, stepW, stepA, letH]; cases updA _ _ _ _ _ _ <;> rfl)
    | skip
end Go.Proofs.Ytlcipphiflcaiaa.Ai
namespace Go.Proofs.Ytlcipphiflcaiaa.Ai
open Go Go.RowKit
set_option linter.unusedVariables false
set_option linter.unusedSimpArgs false
theorem S2 :
    (∀ (P : Program) t k a b, binA P .add t (.int k a) (.int k b) = some (.int k (k.wrap (a + b)))) ∧ (∀ (P : Program) t k a b, binA P .sub t (.int k a) (.int k b) = some (.int k (k.wrap (a - b)))) ∧ (∀ (P : Program) t k a b, binA P .mul t (.int k a) (.int k b) = some (.int k (k.wrap (a * b)))) ∧
    (∀ (P : Program) t k a b, b ≠ 0 → binA P .quo t (.int k a) (.int k b) = some (.int k (k.wrap (a.tdiv b)))) ∧ (∀ (P : Program) t k a b, b ≠ 0 → binA P .rem t (.int k a) (.int k b) = some (.int k (a.tmod b))) ∧
    (∀ (P : Program) t k a b, binA P .eql t (.int k a) (.int k b) = some (.bool (decide (a = b)))) ∧ (∀ (P : Program) t k a b, binA P .neq t (.int k a) (.int k b) = some (.bool (decide (a ≠ b)))) ∧
    (∀ (P : Program) t k a b, binA P .lss t (.int k a) (.int k b) = some (.bool (decide (a < b)))) ∧ (∀ (P : Program) t k a b, binA P .leq t (.int k a) (.int k b) = some (.bool (decide (a ≤ b)))) ∧
    (∀ (P : Program) t k a b, binA P .gtr t (.int k a) (.int k b) = some (.bool (decide (b < a)))) ∧ (∀ (P : Program) t k a b, binA P .geq t (.int k a) (.int k b) = some (.bool (decide (b ≤ a)))) ∧
    (∀ b, unA .not (.bool b) = some (.bool (!b))) ∧ (∀ k n, unA .neg (.int k n) = some (.int k (k.wrap (0 - n)))) ∧
    (∀ k n, isOne (.int k n) = true) ∧ (∀ b, isOne (.bool b) = true) ∧ (∀ p n c, isOne (.slice p n c) = true) ∧ (∀ p, isOne (.pointer p) = true) ∧ (∀ k n, isTup (.int k n) = false) ∧ (∀ b, isTup (.bool b) = false) ∧ (∀ p n c, isTup (.slice p n c) = false) ∧ (∀ p, isTup (.pointer p) = false) ∧ (∀ cs, isTup (.agg cs) = false) ∧
    (∀ (Q : Nat → Value → Prop) (x : Value), True) := by
  refine ⟨?_, ?_, ?_, ?_, ?_, ?_, ?_, ?_, ?_, ?_, ?_, ?_, ?_, ?_, ?_, ?_, ?_, ?_, ?_, ?_, ?_, ?_, ?_⟩
  all_goals intros
  all_goals first
    | rfl
    | trivial
    | (simp [binA, intA, *]; done)
    | (rename_i a b; by_cases h : a = b <;> simp [binA, intA, h]; done)
/-- .. of endings -/
theorem S3 :
    (∀ (P : Program) a R s H, endA P [.tmp a] R .ret s H = (isTup (s a) = false ∧ R (s a) H)) ∧ (∀ (P : Program) a R s H, endA P [.tmp a] R .normal s H = (isTup (s a) = false ∧ R (s a) H)) ∧
    (∀ (P : Program) a b R s H, endA P [.tmp a, .tmp b] R .ret s H = ((isTup (s a) = false ∧ isTup (s b) = false) ∧ R (.tuple (List.toArray [s a, s b])) H)) ∧
    (∀ (P : Program) a b c R s H, endA P [.tmp a, .tmp b, .tmp c] R .ret s H = ((isTup (s a) = false ∧ isTup (s b) = false ∧ isTup (s c) = false) ∧ R (.tuple (List.toArray [s a, s b, s c])) H)) ∧
    (∀ (P : Program) R s H, endA P [] R .ret s H = R (.tuple #[]) H) ∧ (∀ (P : Program) R s H, endA P [] R .normal s H = R (.tuple #[]) H) ∧
    (∀ (l : List Value) i, enterA l i = l.getD i undef) := by
  refine ⟨?_, ?_, ?_, ?_, ?_, ?_, ?_⟩
  all_goals intros
  all_goals first
    | rfl
    | skip
  all_goals simp only [endA, resA]
  · rename_i P a R s H
    cases h : isTup (s a) <;> simp [outA]
  · rename_i P a R s H
    cases h : isTup (s a) <;> simp [outA]
  · rename_i P a b R s H
    cases h : isTup (s a) <;> cases h2 : isTup (s b) <;> simp [outA]
  · rename_i P a b c R s H
    cases h : isTup (s a) <;> cases h2 : isTup (s b) <;> cases h3 : isTup (s c) <;> simp [outA]
/-- what must be as it was -/
def keptA (v : Value) (H H' : AH) : Prop := match idOf v with | some o => H'[o]? = H[o]? | none => True
theorem S5 : (∀ {α : Type} (a b : α), (a ≠ b) = ¬ (a = b)) ∧ ((¬ True) = False) ∧ ((¬ False) = True) ∧ (∀ p : Prop, (p ∧ p) = p) ∧ (∀ p : Prop, (True ∧ p) = p) ∧ (∀ p : Prop, (p ∧ True) = p) ∧
    (∀ n : Nat, 0 + n = n) ∧ (∀ n : Nat, n + 0 = n) ∧ (∀ {α β : Type} (f : α → β), Option.map f none = none) ∧ (∀ {α β : Type} (f : α → β) (a : α), Option.map f (some a) = some (f a)) ∧
    (∀ {α β : Type} (f : α → β) (a : α) (l : List α), List.map f (a :: l) = f a :: List.map f l) ∧ (∀ {α β : Type} (f : α → β), List.map f [] = []) ∧ (∀ {α : Type} (l : List α), l ++ [] = l) ∧ (∀ {α : Type} (a : α) (l m : List α), (a :: l) ++ m = a :: (l ++ m)) ∧ (∀ {α : Type} (l : List α), [] ++ l = l) ∧
    (∀ {α : Type} (a : α) (l : List α), (a :: l)[0]? = some a) ∧ (∀ {α : Type} (a : α) (l : List α) (n : Nat), (a :: l)[n + 1]? = l[n]?) ∧ (∀ {α : Type} (a : α) (l : List α) (d : α), (a :: l).getD 0 d = a) ∧ (∀ {α : Type} (a : α) (l : List α) (n : Nat) (d : α), (a :: l).getD (n + 1) d = l.getD n d) ∧ (∀ {α : Type} (n : Nat) (d : α), ([] : List α).getD n d = d) ∧
    ((!true) = false) ∧ ((!false) = true) ∧ (∀ h : Decidable True, @decide True h = true) ∧ (∀ h : Decidable False, @decide False h = false) :=
  ⟨fun _ _ => rfl, not_true_eq_false, not_false_eq_true, and_self, true_and, and_true, Nat.zero_add, Nat.add_zero, fun _ => rfl, fun _ _ => rfl, fun _ _ _ => rfl, fun _ => rfl, List.append_nil, fun _ _ _ => rfl, fun _ => rfl,
   fun _ _ => rfl, fun _ _ _ => rfl, fun _ _ _ => rfl, fun _ _ _ _ => rfl, fun _ _ => rfl, rfl, rfl, fun h => @decide_true h, fun h => @decide_false h⟩
/-- .. of watches, of the least and the greatest -/
theorem S4 :
    (∀ (P : Program) s H H' d t a, watch1 P ⟨some d, .load t a, none⟩ s H H' = (loadA P t (evalA s a) H' = some (s d))) ∧
    (∀ (P : Program) s H H' d t a g b, watch1 P ⟨some d, .load t a, some (g, b)⟩ s H H' = (s g = .bool b → loadA P t (evalA s a) H' = some (s d))) ∧
    (∀ (P : Program) s H H' d t x lo hi, watch1 P ⟨some d, .slice t x lo hi none, none⟩ s H H' = (sliceA P t (evalA s x) (lo.map (evalA s)) (hi.map (evalA s)) none H' = some (s d))) ∧
    (∀ (P : Program) s H H' d t x lo hi g b, watch1 P ⟨some d, .slice t x lo hi none, some (g, b)⟩ s H H' = (s g = .bool b → sliceA P t (evalA s x) (lo.map (evalA s)) (hi.map (evalA s)) none H' = some (s d))) ∧
    (∀ (P : Program) s H H' d e g, watch1 P ⟨some d, .alloc e, g⟩ s H H' = keptA (s d) H H') ∧
    (∀ (P : Program) s H H' d e x g, watch1 P ⟨some d, .box e x, g⟩ s H H' = keptA (s d) H H') ∧
    (∀ (P : Program) s H H' d t n ps g, watch1 P ⟨some d, .buildSlice t n ps, g⟩ s H H' = keptA (s d) H H') ∧
    (∀ (P : Program) s H H' d t n c g, watch1 P ⟨some d, .makeSlice t n c, g⟩ s H H' = keptA (s d) H H') ∧
    (∀ p n c H H', keptA (.slice (some p) n c) H H' = (H'[p.block]? = H[p.block]?)) ∧ (∀ n c H H', keptA (.slice none n c) H H' = True) ∧
    (∀ p H H', keptA (.pointer (some p)) H H' = (H'[p.block]? = H[p.block]?)) ∧ (∀ vs H H', keptA (.tuple vs) H H' = True) ∧
    (∀ f k a b, minmaxA f [.int k a, .int k b] = some (.int k (f a b))) := by
  refine ⟨?_, ?_, ?_, ?_, ?_, ?_, ?_, ?_, ?_, ?_, ?_, ?_, ?_⟩
  all_goals intros
  all_goals first
    | rfl
    | (simp only [watch1, isMk, grdOn, stepA]; simp; done)
    | skip
theorem wrap64 {n : Int} (h1 : -9223372036854775808 ≤ n) (h2 : n ≤ 9223372036854775807) : IntKind.i64.wrap n = n := by
  rw [IntKind.wrap_i64]; omega
/-- ints in a row -/
def ints (xs : List Int) : List Value := xs.map (.int .i64)
theorem ints_len (xs : List Int) : (ints xs).length = xs.length := by simp [ints]
theorem ints_cons (x : Int) (xs : List Int) : ints (x :: xs) = .int .i64 x :: ints xs := rfl
theorem ints_app (xs ys : List Int) : ints (xs ++ ys) = ints xs ++ ints ys := by simp [ints]
theorem ints_at (xs : List Int) {i : Nat} (h : i < xs.length) : (ints xs)[i]? = some (.int .i64 (xs.getD i 0)) := by
  simp [ints, h, List.getElem?_eq_getElem]
/-- an object's cell -/
def cellA (H : AH) (o i : Nat) : Option Value := match H[o]? with | some (.cells vs _ _) => vs[i]? | _ => none
theorem ld_one {P : Program} {t : TypeId} (h : isAggA P t = some false) (p : Addr) (H : AH) : loadA P t (.pointer (some p)) H = cellA H p.block p.off := by
  simp only [loadA, cellA, h]
  cases H[p.block]? with
  | none => rfl
  | some x => cases x <;> rfl
theorem cell_of {H : AH} {o : Nat} {vs : List Value} {t : TypeId} {ro : Bool} (h : H[o]? = some (.cells vs t ro)) (i : Nat) : cellA H o i = vs[i]? := by simp only [cellA, h]
theorem cell_ints {H : AH} {o : Nat} {xs : List Int} {t : TypeId} {ro : Bool} (h : H[o]? = some (.cells (ints xs) t ro)) {i : Nat} (hi : i < xs.length) : cellA H o i = some (.int .i64 (xs.getD i 0)) := by rw [cell_of h, ints_at xs hi]
theorem ix_one {P : Program} {t e : TypeId} (hu : P.underlying t = some (.slice e)) (hc : P.cellsOf e = 1) (p : Addr) (n c : Nat) (k : IntKind) {i : Int} (h0 : 0 ≤ i) (h1 : i < (n : Int)) :
    indexAddrA P t (.slice (some p) n c) (.int k i) = some (.pointer (some ⟨p.block, p.off + i.toNat, none⟩)) := by
  simp [indexAddrA, hu, hc, h0, h1]
theorem ix_arr {P : Program} {t e : TypeId} {n : Nat} (hu : P.underlying t = some (.array n e)) (hc : P.cellsOf e = 1) (p : Addr) (k : IntKind) {i : Int} (h0 : 0 ≤ i) (h1 : i < (n : Int)) :
    indexAddrA P t (.pointer (some p)) (.int k i) = some (.pointer (some ⟨p.block, p.off + i.toNat, none⟩)) := by
  simp [indexAddrA, hu, hc, h0, h1]
theorem ln_sl {P : Program} {t e : TypeId} (hu : P.underlying t = some (.slice e)) (p : Option Addr) (n c : Nat) : lenA P t (.slice p n c) = some (.int .i64 n) := by
  simp [lenA, hu]
theorem eq_bool_eql {P : Program} {t : TypeId} (hu : P.underlying t = some .bool) (a b : Bool) : binA P .eql t (.bool a) (.bool b) = some (.bool (decide (a = b))) := by
  simp only [binA, eqA, hu]; cases a <;> cases b <;> rfl
theorem eq_bool_neq {P : Program} {t : TypeId} (hu : P.underlying t = some .bool) (a b : Bool) : binA P .neq t (.bool a) (.bool b) = some (.bool (decide (a ≠ b))) := by
  simp only [binA, eqA, hu]; cases a <;> cases b <;> rfl
theorem eq_nil_eql {P : Program} {t e : TypeId} (hu : P.underlying t = some (.slice e)) (a : Option Addr) (n c m d : Nat) : binA P .eql t (.slice a n c) (.slice none m d) = some (.bool a.isNone) := by
  simp only [binA, eqA, hu]; rfl
theorem eq_nil_neq {P : Program} {t e : TypeId} (hu : P.underlying t = some (.slice e)) (a : Option Addr) (n c m d : Nat) : binA P .neq t (.slice a n c) (.slice none m d) = some (.bool (!a.isNone)) := by
  simp only [binA, eqA, hu]; rfl
/-- a literal of 0 to 3 elements of one cell -/
theorem bs0 {P : Program} {t e : TypeId} {z : Value} (hu : P.underlying t = some (.slice e)) (hc : P.cellsOf e = 1) (hz : zeroA P e = some z) (hp : plainCs z = true ∧ z.cells.size = 1) (H : AH) :
    buildSliceA P t 0 [] H = some (.slice (some ⟨H.length, 0, none⟩) 0 0, H ++ [.cells [] e false]) := by
  have hp' : plainCs z = true ∧ z.cells.size = P.cellsOf e := by rw [hc]; exact hp
  simp only [buildSliceA, hu, hc, hz]
  rw [if_pos (by simp), if_pos hp]
  simp [Instr.fill, zerosA]
theorem bs1 {P : Program} {t e : TypeId} {z : Value} (hu : P.underlying t = some (.slice e)) (hc : P.cellsOf e = 1) (hz : zeroA P e = some z) (hp : plainCs z = true ∧ z.cells.size = 1) (H : AH) {a : Value} (ha : isOne a = true) :
    buildSliceA P t 1 [(0, a)] H = some (.slice (some ⟨H.length, 0, none⟩) 1 1, H ++ [.cells [a] e false]) := by
  simp only [buildSliceA, hu, hc, hz]
  have ht : isTup a = false := by cases a <;> first | rfl | cases ha
  have hcl : a.cells = #[a] := by cases a <;> first | rfl | cases ha
  rw [if_pos (by simp [ht]), if_pos hp]
  simp [Instr.fill, zerosA, hcl, Array.range]
theorem bs2 {P : Program} {t e : TypeId} {z : Value} (hu : P.underlying t = some (.slice e)) (hc : P.cellsOf e = 1) (hz : zeroA P e = some z) (hp : plainCs z = true ∧ z.cells.size = 1) (H : AH) {a b : Value} (ha : isOne a = true) (hb : isOne b = true) :
    buildSliceA P t 2 [(0, a), (1, b)] H = some (.slice (some ⟨H.length, 0, none⟩) 2 2, H ++ [.cells [a, b] e false]) := by
  simp only [buildSliceA, hu, hc, hz]
  have ht : isTup a = false := by cases a <;> first | rfl | cases ha
  have hcl : a.cells = #[a] := by cases a <;> first | rfl | cases ha
  have ht2 : isTup b = false := by cases b <;> first | rfl | cases hb
  have hcl2 : b.cells = #[b] := by cases b <;> first | rfl | cases hb
  rw [if_pos (by simp [ht, ht2]), if_pos hp]
  simp [Instr.fill, zerosA, hcl, hcl2, Array.range]
theorem bs3 {P : Program} {t e : TypeId} {z : Value} (hu : P.underlying t = some (.slice e)) (hc : P.cellsOf e = 1) (hz : zeroA P e = some z) (hp : plainCs z = true ∧ z.cells.size = 1) (H : AH) {a b c : Value} (ha : isOne a = true) (hb : isOne b = true) (hcc : isOne c = true) :
    buildSliceA P t 3 [(0, a), (1, b), (2, c)] H = some (.slice (some ⟨H.length, 0, none⟩) 3 3, H ++ [.cells [a, b, c] e false]) := by
  simp only [buildSliceA, hu, hc, hz]
  have ht : isTup a = false := by cases a <;> first | rfl | cases ha
  have hcl : a.cells = #[a] := by cases a <;> first | rfl | cases ha
  have ht2 : isTup b = false := by cases b <;> first | rfl | cases hb
  have hcl2 : b.cells = #[b] := by cases b <;> first | rfl | cases hb
  have ht3 : isTup c = false := by cases c <;> first | rfl | cases hcc
  have hcl3 : c.cells = #[c] := by cases c <;> first | rfl | cases hcc
  rw [if_pos (by simp [ht, ht2, ht3]), if_pos hp]
  simp [Instr.fill, zerosA, hcl, hcl2, hcl3, Array.range]
theorem pre_app {H0 H : AH} (h : H0 <+: H) (l : AH) : H0 <+: H ++ l := h.trans (List.prefix_append _ _)
theorem pre_set {H0 H : AH} (h : H0 <+: H) {o : Nat} (ho : H0.length ≤ o) (x : AObj) : H0 <+: H.set o x := by
  obtain ⟨l, rfl⟩ := h
  rw [List.set_append_right _ _ ho]
  exact List.prefix_append _ _
theorem pre_at {H0 H : AH} (h : H0 <+: H) {o : Nat} {x : AObj} (ho : H0[o]? = some x) : H[o]? = some x := by
  obtain ⟨l, rfl⟩ := h
  rw [List.getElem?_append_left (List.getElem?_eq_some_iff.1 ho).1]; exact ho
theorem at_new (H : AH) (a : AObj) : (H ++ [a])[H.length]? = some a := by simp
theorem at_old {H : AH} {o o' : Nat} {x d : AObj} (h : H[o']? = some x) (hne : o ≠ o') (l : AH) : (H.set o d ++ l)[o']? = some x := by
  have hlt := (List.getElem?_eq_some_iff.1 h).1
  rw [List.getElem?_append_left (by simpa using hlt), List.getElem?_set_ne hne]; exact h
theorem at_app {H : AH} {o : Nat} {x : AObj} (h : H[o]? = some x) (l : AH) : (H ++ l)[o]? = some x := by
  rw [List.getElem?_append_left (List.getElem?_eq_some_iff.1 h).1]; exact h
theorem at_lt {H : AH} {o : Nat} {x : AObj} (h : H[o]? = some x) : o < H.length := (List.getElem?_eq_some_iff.1 h).1
theorem putAt_ints (xs : List Int) (i : Nat) (x : Int) (h : i < xs.length) : putAt (ints xs) i [.int .i64 x] = ints (xs.set i x) := by
  unfold putAt ints
  simp only [List.length_cons, List.length_nil]
  rw [List.set_eq_take_append_cons_drop, if_pos h]
  simp
/-- a store into a row of ints -/
theorem st_ints {P : Program} {t t' : TypeId} (hc : P.cellsOf t = 1) {H : AH} {o i : Nat} {xs : List Int} {x : Int} (ho : H[o]? = some (.cells (ints xs) t' false)) (hi : i < xs.length) :
    storeA P t (.pointer (some ⟨o, i, none⟩)) (.int .i64 x) H = some (H.set o (.cells (ints (xs.set i x)) t' false)) := by
  simp only [storeA, ho]
  have hcl : (Value.int IntKind.i64 x).cells.toList = [.int .i64 x] := rfl
  rw [hcl, if_pos ⟨rfl, by rw [hc]; rfl, by omega, by rw [ints_len]; simp; omega⟩, putAt_ints xs i x hi]
/-- a whole value into a new variable -/
theorem st_new {P : Program} {t e : TypeId} {H : AH} {vs : List Value} {y : Value} (h1 : isTup y = false) (h2 : y.cells.toList.length = P.cellsOf t) (h3 : 0 < P.cellsOf t) (h4 : vs.length = P.cellsOf t) :
    storeA P t (.pointer (some ⟨H.length, 0, none⟩)) y (H ++ [.cells vs e false]) = some (H ++ [.cells y.cells.toList e false]) := by
  simp only [storeA, at_new]
  rw [if_pos ⟨h1, h2, h3, by omega⟩]
  have : putAt vs 0 y.cells.toList = y.cells.toList := by
    unfold putAt
    rw [List.take_zero, List.nil_append, List.drop_of_length_le (by omega), List.append_nil]
  rw [this]
  simp
theorem set_new (H : AH) (a b : AObj) : (H ++ [a]).set H.length b = H ++ [b] := by simp
theorem at_set {H : AH} {o : Nat} {x d : AObj} (h : H[o]? = some x) : (H.set o d)[o]? = some d := by
  rw [List.getElem?_set_self (at_lt h)]
end Go.Proofs.Ytlcipphiflcaiaa.Ai
namespace Go.Proofs.Ytlcipphiflcaiaa.Ai
open Go Go.RowKit
set_option linter.unusedVariables false
set_option linter.unusedSimpArgs false
def rowO : Value → Nat
  | .slice (some p) _ _ => p.block
  | _ => 0
def rowK : Value → Nat
  | .slice (some p) _ _ => p.off
  | _ => 0
/-- a slice that shows xs -/
def Row (e : TypeId) (H : AH) (v : Value) (xs : List Int) : Prop :=
  (v = .slice none 0 0 ∧ xs = []) ∨ ∃ o k vs ro, v = .slice (some ⟨o, k, none⟩) xs.length xs.length ∧ H[o]? = some (.cells vs e ro) ∧ k + xs.length ≤ vs.length ∧ (vs.drop k).take xs.length = ints xs
/-- a slice of one's own that shows xs -/
def Own (e : TypeId) (H0 H : AH) (v : Value) (xs : List Int) : Prop :=
  (v = .slice none 0 0 ∧ xs = []) ∨ ∃ o, v = .slice (some ⟨o, 0, none⟩) xs.length xs.length ∧ H0.length ≤ o ∧ H[o]? = some (.cells (ints xs) e false)
theorem Own.row {e : TypeId} {H0 H : AH} {v : Value} {xs : List Int} (h : Own e H0 H v xs) : Row e H v xs := by
  rcases h with h | ⟨o, h1, h2, h3⟩
  · exact .inl h
  · refine .inr ⟨o, 0, _, _, h1, h3, by simp [ints_len], ?_⟩
    rw [List.drop_zero, List.take_of_length_le (by simp [ints_len])]
theorem Row.mono {e : TypeId} {H H' : AH} {v : Value} {xs : List Int} (h : Row e H v xs) (hh : ∀ x, H[rowO v]? = some x → H'[rowO v]? = some x) : Row e H' v xs := by
  rcases h with h | ⟨o, k, vs, ro, h1, h2, h3⟩
  · exact .inl h
  · subst h1; exact .inr ⟨o, k, vs, ro, rfl, hh _ h2, h3⟩
theorem Row.pre {e : TypeId} {H H' : AH} {v : Value} {xs : List Int} (h : Row e H v xs) (hp : H <+: H') : Row e H' v xs := h.mono fun x hx => pre_at hp hx
theorem Row.shape {e : TypeId} {H : AH} {v : Value} {xs : List Int} (h : Row e H v xs) : ∃ p, v = .slice p xs.length xs.length := by
  rcases h with ⟨h1, h2⟩ | ⟨o, k, vs, ro, h1, _⟩
  · subst h2; exact ⟨_, h1⟩
  · exact ⟨_, h1⟩
theorem Row.tup {e : TypeId} {H : AH} {v : Value} {xs : List Int} (h : Row e H v xs) : isTup v = false := by
  obtain ⟨p, rfl⟩ := h.shape; rfl
theorem Row.len {P : Program} {t e : TypeId} (hu : P.underlying t = some (.slice e)) {H : AH} {v : Value} {xs : List Int} (h : Row e H v xs) : lenA P t v = some (.int .i64 xs.length) := by
  obtain ⟨p, rfl⟩ := h.shape; exact ln_sl hu _ _ _
theorem Row.ix {P : Program} {t e : TypeId} (hu : P.underlying t = some (.slice e)) (hc : P.cellsOf e = 1) {H : AH} {v : Value} {xs : List Int} (h : Row e H v xs) (k : IntKind) {i : Int} (h0 : 0 ≤ i) (h1 : i < (xs.length : Int)) :
    indexAddrA P t v (.int k i) = some (.pointer (some ⟨rowO v, rowK v + i.toNat, none⟩)) := by
  rcases h with ⟨_, h2⟩ | ⟨o, k2, vs, ro, e1, _⟩
  · subst h2; simp at h1; omega
  · subst e1; exact ix_one hu hc _ _ _ _ h0 h1
theorem Row.cell {e : TypeId} {H : AH} {v : Value} {xs : List Int} (h : Row e H v xs) {j : Nat} (hj : j < xs.length) : cellA H (rowO v) (rowK v + j) = some (.int .i64 (xs.getD j 0)) := by
  rcases h with ⟨_, h2⟩ | ⟨o, k, vs, ro, e1, h2, h3, h4⟩
  · subst h2; simp at hj
  · subst e1
    rw [show cellA H (rowO _) _ = cellA H o (k + j) from rfl, cell_of h2]
    have := congrArg (·[j]?) h4
    simp only [List.getElem?_take, List.getElem?_drop, if_pos hj] at this
    rw [this, ints_at xs hj]
theorem Row.cells {P : Program} {e : TypeId} (hc : P.cellsOf e = 1) {H : AH} {v : Value} {xs : List Int} (h : Row e H v xs) : sliceCells P e v H = some (xs.length, ints xs) := by
  rcases h with ⟨h1, h2⟩ | ⟨o, k, vs, ro, e1, h2, h3, h4⟩
  · subst h1; subst h2; rfl
  · subst e1
    simp only [sliceCells, h2, hc, Nat.mul_one]
    rw [if_pos ⟨h3, trivial⟩, h4]
/-- a part of a row -/
def subV (v : Value) (l h : Nat) : Value :=
  match v with
  | .slice (some p) _ _ => .slice (some ⟨p.block, p.off + l, none⟩) (h - l) (h - l)
  | _ => .slice none 0 0
theorem Row.slice {P : Program} {t e : TypeId} (hu : P.underlying t = some (.slice e)) (hc : P.cellsOf e = 1) {H : AH} {v : Value} {xs : List Int} (h : Row e H v xs) {lo hi : Option Value} {l r : Nat} (h1 : boundA lo 0 = some l) (h2 : boundA hi xs.length = some r) (hl : l ≤ r) (hr : r ≤ xs.length) :
    sliceA P t v lo hi none H = some (subV v l r) ∧ Row e H (subV v l r) ((xs.drop l).take (r - l)) ∧ (rowO (subV v l r) = rowO v) := by
  rcases h with ⟨e1, e2⟩ | ⟨o, k, vs, ro, e1, g2, g3, g4⟩
  · subst e1; subst e2
    have hr0 : r = 0 := by simpa using hr
    have hl0 : l = 0 := by omega
    subst hr0; subst hl0
    refine ⟨?_, .inl ⟨rfl, by simp⟩, rfl⟩
    simp only [List.length_nil] at h2
    simp only [sliceA, hu, h1, h2, hc, subV]; rfl
  · subst e1
    refine ⟨?_, .inr ⟨o, k + l, vs, ro, ?_, g2, ?_, ?_⟩, rfl⟩
    · simp only [sliceA, hu, h1, h2, g2, hc, Nat.mul_one, subV]
      rw [if_pos ⟨hl, hr, trivial, Nat.one_pos⟩]
    · simp only [subV, List.length_take, List.length_drop]
      rw [Nat.min_eq_left (by omega)]
    · simp only [List.length_take, List.length_drop]; omega
    · have e3 : ((xs.drop l).take (r - l)).length = r - l := by simp; omega
      rw [e3, ← List.drop_drop]
      have e4 : ints ((xs.drop l).take (r - l)) = ((ints xs).drop l).take (r - l) := by simp [ints, List.map_drop, List.map_take]
      rw [e4, ← g4, List.drop_take, List.take_take, Nat.min_eq_left (by omega)]
theorem lo_none : boundA none 0 = some 0 := rfl
theorem hi_none (n : Nat) : boundA none n = some n := rfl
theorem bound_some {k : IntKind} {i : Int} (h : 0 ≤ i) (d : Nat) : boundA (some (.int k i)) d = some i.toNat := by simp [boundA, h]
/-- appending a row to one's own -/
theorem Own.app {P : Program} {t e : TypeId} (hu : P.underlying t = some (.slice e)) (hc : P.cellsOf e = 1) (hby : P.bytesOf e ≤ 64) (hz : zeroOk P e = true) {H0 H : AH} {v x : Value} {ys xs : List Int} (h : Own e H0 H v ys) (hx : Row e H x xs) (hp : H0 <+: H) (hb : ys.length + xs.length ≤ 1099511627776) :
    ∃ v' H', appendA P t t v x H = some (v', H') ∧ Own e H0 H' v' (ys ++ xs) ∧ H0 <+: H' ∧ (∀ o y, (v = .slice none 0 0 ∨ o ≠ rowO v) → H[o]? = some y → H'[o]? = some y) ∧ (H.length ≤ rowO v' ∨ (v' = v ∧ H' = H)) := by
  have hcells := hx.cells (P := P) hc
  have hb2 : (ys.length + xs.length) * P.bytesOf e ≤ 140737488355328 := by
    refine Nat.le_trans (Nat.mul_le_mul_left _ hby) ?_
    omega
  by_cases hm : xs.length = 0
  · have hx0 : xs = [] := List.eq_nil_of_length_eq_zero hm
    subst hx0
    refine ⟨v, H, ?_, by simpa using h, hp, fun o y _ hy => hy, .inr ⟨rfl, rfl⟩⟩
    have hsl : isSl v = true := by rcases h with ⟨h1, _⟩ | ⟨o, h1, _⟩ <;> subst h1 <;> rfl
    simp only [appendA, hu, hc, hcells, hsl]
    simp
  · rcases h with ⟨h1, h2⟩ | ⟨o, h1, h2, h3⟩
    · subst h1; subst h2
      refine ⟨.slice (some ⟨H.length, 0, none⟩) xs.length xs.length, H ++ [.cells (ints xs) e false], ?_, .inr ⟨H.length, rfl, hp.length_le, at_new ..⟩, pre_app hp _, fun o y _ hy => at_app hy _, .inl (Nat.le_refl _)⟩
      simp only [appendA, hu, hc, hcells, hz]
      simp only [List.length_nil, Nat.zero_add] at hb hb2
      simp [hm, hb2]; omega
    · subst h1
      refine ⟨.slice (some ⟨H.length, 0, none⟩) (ys.length + xs.length) (ys.length + xs.length), H.set o .dead ++ [.cells (ints (ys ++ xs)) e false], ?_, .inr ⟨H.length, by simp, hp.length_le, ?_⟩, pre_app (pre_set hp h2 _) _, ?_, .inl (Nat.le_refl _)⟩
      · simp only [appendA, hu, hc, hcells, hz, h3]
        rw [if_pos (by simp), if_neg hm, if_pos ⟨trivial, by simp [ints_len], hb2, by omega, trivial⟩]
        simp only [Nat.mul_one, List.drop_zero, ints_app]
        rw [List.take_of_length_le (by simp [ints_len])]
      · simp
      · intro o' y hne hy
        refine at_old hy ?_ _
        rcases hne with hne | hne
        · cases hne
        · exact fun e => hne e.symm
theorem Own.keep {e : TypeId} {H0 H H' : AH} {v : Value} {xs : List Int} (h : Own e H0 H v xs) (hh : ∀ y, H[rowO v]? = some y → H'[rowO v]? = some y) : Own e H0 H' v xs := by
  rcases h with h | ⟨o, h1, h2, h3⟩
  · exact .inl h
  · subst h1; exact .inr ⟨o, rfl, h2, hh _ h3⟩
theorem Own.pre {e : TypeId} {H0 H H' : AH} {v : Value} {xs : List Int} (h : Own e H0 H v xs) (hp : H <+: H') : Own e H0 H' v xs := h.keep fun _ hy => pre_at hp hy
theorem Own.base {e : TypeId} {H0 H1 H : AH} {v : Value} {xs : List Int} (h : Own e H1 H v xs) (hp : H0 <+: H1) : Own e H0 H v xs := by
  rcases h with h | ⟨o, h1, h2, h3⟩
  · exact .inl h
  · exact .inr ⟨o, h1, Nat.le_trans hp.length_le h2, h3⟩
/-- an old row is not one's own -/
theorem Row.apart {e : TypeId} {H0 H : AH} {x v : Value} {xs ys : List Int} (hx : Row e H0 x xs) (h : Own e H0 H v ys) : v = .slice none 0 0 ∨ x = .slice none 0 0 ∨ rowO x ≠ rowO v := by
  rcases h with h | ⟨o, h1, h2, h3⟩
  · exact .inl h.1
  · rcases hx with hx | ⟨o', k, vs, ro, g1, g2, _⟩
    · exact .inr (.inl hx.1)
    · subst h1; subst g1
      refine .inr (.inr ?_)
      have := at_lt g2
      show o' ≠ o
      omega
theorem Row.low {e : TypeId} {H0 : AH} {x : Value} {xs : List Int} (hx : Row e H0 x xs) : x = .slice none 0 0 ∨ rowO x < H0.length := by
  rcases hx with hx | ⟨o', k, vs, ro, g1, g2, _⟩
  · exact .inl hx.1
  · subst g1; exact .inr (at_lt g2)
/-- a new row of zeros -/
theorem mk_ints {P : Program} {t e : TypeId} (hu : P.underlying t = some (.slice e)) (hc : P.cellsOf e = 1) (hby : P.bytesOf e ≤ 64) (hz : zeroA P e = some (.int .i64 0)) {n : Int} (h0 : 0 ≤ n) (h1 : n ≤ 1099511627776) (H : AH) :
    makeSliceA P t (.int .i64 n) (.int .i64 n) H = some (.slice (some ⟨H.length, 0, none⟩) n.toNat n.toNat, H ++ [.cells (ints (List.replicate n.toNat 0)) e false]) := by
  have hb2 : n.toNat * P.bytesOf e ≤ 281474976710656 := by
    refine Nat.le_trans (Nat.mul_le_mul_left _ hby) ?_
    omega
  have hzc : (Value.int IntKind.i64 0).cells = #[.int .i64 0] := rfl
  have hzs : zerosA (.int .i64 0) (n.toNat * 1) = ints (List.replicate n.toNat 0) := by
    unfold zerosA ints
    rw [hzc, Nat.mul_one, List.map_replicate]
    apply List.ext_getElem
    · simp
    · intro i h1 h2
      simp [Nat.mod_one]
  simp only [makeSliceA, hu, hc, hz]
  rw [if_pos ⟨trivial, h0, by omega, hb2, by omega⟩, if_pos ⟨by simp [plainCs, hzc, plainC], by simp [hzc]⟩, hzs]
end Go.Proofs.Ytlcipphiflcaiaa.Ai
namespace Go.Proofs.Ytlcipphiflcaiaa.Ai
open Go Go.RowKit
set_option linter.unusedVariables false
set_option linter.unusedSimpArgs false
/-- a slice that shows values -/
def RowV (e : TypeId) (H : AH) (v : Value) (us : List Value) : Prop :=
  (v = .slice none 0 0 ∧ us = []) ∨ ∃ o k vs ro, v = .slice (some ⟨o, k, none⟩) us.length us.length ∧ H[o]? = some (.cells vs e ro) ∧ k + us.length ≤ vs.length ∧ (vs.drop k).take us.length = us
theorem RowV.mono {e : TypeId} {H H' : AH} {v : Value} {us : List Value} (h : RowV e H v us) (hh : ∀ x, H[rowO v]? = some x → H'[rowO v]? = some x) : RowV e H' v us := by
  rcases h with h | ⟨o, k, vs, ro, h1, h2, h3⟩
  · exact .inl h
  · subst h1; exact .inr ⟨o, k, vs, ro, rfl, hh _ h2, h3⟩
theorem RowV.pre {e : TypeId} {H H' : AH} {v : Value} {us : List Value} (h : RowV e H v us) (hp : H <+: H') : RowV e H' v us := h.mono fun x hx => pre_at hp hx
theorem RowV.shape {e : TypeId} {H : AH} {v : Value} {us : List Value} (h : RowV e H v us) : ∃ p, v = .slice p us.length us.length := by
  rcases h with ⟨h1, h2⟩ | ⟨o, k, vs, ro, h1, _⟩
  · subst h2; exact ⟨_, h1⟩
  · exact ⟨_, h1⟩
theorem RowV.tup {e : TypeId} {H : AH} {v : Value} {us : List Value} (h : RowV e H v us) : isTup v = false := by
  obtain ⟨p, rfl⟩ := h.shape; rfl
theorem RowV.len {P : Program} {t e : TypeId} (hu : P.underlying t = some (.slice e)) {H : AH} {v : Value} {us : List Value} (h : RowV e H v us) : lenA P t v = some (.int .i64 us.length) := by
  obtain ⟨p, rfl⟩ := h.shape; exact ln_sl hu _ _ _
theorem RowV.ix {P : Program} {t e : TypeId} (hu : P.underlying t = some (.slice e)) (hc : P.cellsOf e = 1) {H : AH} {v : Value} {us : List Value} (h : RowV e H v us) (k : IntKind) {i : Int} (h0 : 0 ≤ i) (h1 : i < (us.length : Int)) :
    indexAddrA P t v (.int k i) = some (.pointer (some ⟨rowO v, rowK v + i.toNat, none⟩)) := by
  rcases h with ⟨_, h2⟩ | ⟨o, k2, vs, ro, e1, _⟩
  · subst h2; simp at h1; omega
  · subst e1; exact ix_one hu hc _ _ _ _ h0 h1
theorem RowV.cell {e : TypeId} {H : AH} {v : Value} {us : List Value} (h : RowV e H v us) {j : Nat} (hj : j < us.length) : cellA H (rowO v) (rowK v + j) = some (us.getD j undef) := by
  rcases h with ⟨_, h2⟩ | ⟨o, k, vs, ro, e1, h2, h3, h4⟩
  · subst h2; simp at hj
  · subst e1
    rw [show cellA H (rowO _) _ = cellA H o (k + j) from rfl, cell_of h2]
    have := congrArg (·[j]?) h4
    simp only [List.getElem?_take, List.getElem?_drop, if_pos hj] at this
    rw [this]
    simp [hj]
theorem RowV.cells {P : Program} {e : TypeId} (hc : P.cellsOf e = 1) {H : AH} {v : Value} {us : List Value} (h : RowV e H v us) : sliceCells P e v H = some (us.length, us) := by
  rcases h with ⟨h1, h2⟩ | ⟨o, k, vs, ro, e1, h2, h3, h4⟩
  · subst h1; subst h2; rfl
  · subst e1
    simp only [sliceCells, h2, hc, Nat.mul_one]
    rw [if_pos ⟨h3, trivial⟩, h4]
/-- a row just made -/
theorem RowV.new (e : TypeId) (H : AH) (us : List Value) : RowV e (H ++ [.cells us e false]) (.slice (some ⟨H.length, 0, none⟩) us.length us.length) us := by
  refine .inr ⟨H.length, 0, us, false, rfl, at_new .., by simp, ?_⟩
  simp
theorem RowV.slice {P : Program} {t e : TypeId} (hu : P.underlying t = some (.slice e)) (hc : P.cellsOf e = 1) {H : AH} {v : Value} {us : List Value} (h : RowV e H v us) {lo hi : Option Value} {l r : Nat} (h1 : boundA lo 0 = some l) (h2 : boundA hi us.length = some r) (hl : l ≤ r) (hr : r ≤ us.length) :
    sliceA P t v lo hi none H = some (subV v l r) ∧ RowV e H (subV v l r) ((us.drop l).take (r - l)) ∧ (rowO (subV v l r) = rowO v) := by
  rcases h with ⟨e1, e2⟩ | ⟨o, k, vs, ro, e1, g2, g3, g4⟩
  · subst e1; subst e2
    have hr0 : r = 0 := by simpa using hr
    have hl0 : l = 0 := by omega
    subst hr0; subst hl0
    refine ⟨?_, .inl ⟨rfl, by simp⟩, rfl⟩
    simp only [List.length_nil] at h2
    simp only [sliceA, hu, h1, h2, hc, subV]; rfl
  · subst e1
    refine ⟨?_, .inr ⟨o, k + l, vs, ro, ?_, g2, ?_, ?_⟩, rfl⟩
    · simp only [sliceA, hu, h1, h2, g2, hc, Nat.mul_one, subV]
      rw [if_pos ⟨hl, hr, trivial, Nat.one_pos⟩]
    · simp only [subV, List.length_take, List.length_drop]
      rw [Nat.min_eq_left (by omega)]
    · simp only [List.length_take, List.length_drop]; omega
    · have e3 : ((us.drop l).take (r - l)).length = r - l := by simp; omega
      rw [e3, ← List.drop_drop]
      have e4 : (us.drop l).take (r - l) = (((vs.drop k).take us.length).drop l).take (r - l) := by rw [g4]
      rw [e4, List.drop_take, List.take_take, Nat.min_eq_left (by omega)]
end Go.Proofs.Ytlcipphiflcaiaa.Ai
namespace Go.Proofs.Ytlcipphiflcaiaa.Ai
open Go Go.RowKit
set_option linter.unusedVariables false
set_option linter.unusedSimpArgs false
/-- a slice of one's own that shows xs, in an object that may be longer -/
def Mine (e : TypeId) (H0 H : AH) (v : Value) (xs : List Int) : Prop :=
  (v = .slice none 0 0 ∧ xs = []) ∨ ∃ o zs, v = .slice (some ⟨o, 0, none⟩) xs.length xs.length ∧ H0.length ≤ o ∧ H[o]? = some (.cells (ints zs) e false) ∧ zs.take xs.length = xs
theorem Own.mine {e : TypeId} {H0 H : AH} {v : Value} {xs : List Int} (h : Own e H0 H v xs) : Mine e H0 H v xs := by
  rcases h with h | ⟨o, h1, h2, h3⟩
  · exact .inl h
  · exact .inr ⟨o, xs, h1, h2, h3, List.take_length ..⟩
theorem Mine.row {e : TypeId} {H0 H : AH} {v : Value} {xs : List Int} (h : Mine e H0 H v xs) : Row e H v xs := by
  rcases h with h | ⟨o, zs, h1, h2, h3, h4⟩
  · exact .inl h
  · have hl : xs.length ≤ zs.length := by have := congrArg List.length h4; simp at this; omega
    refine .inr ⟨o, 0, _, _, h1, h3, by rw [ints_len]; omega, ?_⟩
    rw [List.drop_zero]
    have : (ints zs).take xs.length = ints (zs.take xs.length) := by simp [ints, List.map_take]
    rw [this, h4]
theorem Mine.keep {e : TypeId} {H0 H H' : AH} {v : Value} {xs : List Int} (h : Mine e H0 H v xs) (hh : ∀ y, H[rowO v]? = some y → H'[rowO v]? = some y) : Mine e H0 H' v xs := by
  rcases h with h | ⟨o, zs, h1, h2, h3, h4⟩
  · exact .inl h
  · subst h1; exact .inr ⟨o, zs, rfl, h2, hh _ h3, h4⟩
theorem Mine.pre {e : TypeId} {H0 H H' : AH} {v : Value} {xs : List Int} (h : Mine e H0 H v xs) (hp : H <+: H') : Mine e H0 H' v xs := h.keep fun _ hy => pre_at hp hy
theorem Mine.base {e : TypeId} {H0 H1 H : AH} {v : Value} {xs : List Int} (h : Mine e H1 H v xs) (hp : H0 <+: H1) : Mine e H0 H v xs := by
  rcases h with h | ⟨o, zs, h1, h2, h3, h4⟩
  · exact .inl h
  · exact .inr ⟨o, zs, h1, Nat.le_trans hp.length_le h2, h3, h4⟩
/-- all objects but a slice's own are as they were -/
def Else (v : Value) (H H' : AH) : Prop := H'.length = H.length ∧ ∀ o x, (v = .slice none 0 0 ∨ o ≠ rowO v) → H[o]? = some x → H'[o]? = some x
theorem Else.refl (v : Value) (H : AH) : Else v H H := ⟨rfl, fun _ _ _ h => h⟩
theorem Else.trans {v : Value} {H H' H'' : AH} (h : Else v H H') (k : Else v H' H'') : Else v H H'' := ⟨k.1.trans h.1, fun o x hn hx => k.2 o x hn (h.2 o x hn hx)⟩
theorem Else.set {o : Nat} {p : Nat} {n c : Nat} (H : AH) (x : AObj) : Else (.slice (some ⟨o, p, none⟩) n c) H (H.set o x) := by
  refine ⟨by simp, fun o' y hn hy => ?_⟩
  rcases hn with hn | hn
  · cases hn
  · have hn' : o ≠ o' := fun e => hn e.symm
    rw [List.getElem?_set_ne hn']; exact hy
theorem prefix_of {H0 H : AH} (h : ∀ (o : Nat) (x : AObj), H0[o]? = some x → H[o]? = some x) : H0 <+: H := by
  rw [List.prefix_iff_eq_take]
  apply List.ext_getElem?
  intro i
  rw [List.getElem?_take]
  by_cases hi : i < H0.length
  · rw [if_pos hi, List.getElem?_eq_getElem hi, h i _ (List.getElem?_eq_getElem hi)]
  · rw [if_neg hi, List.getElem?_eq_none (by omega)]
/-- an older row is still there -/
theorem Row.else {e e' : TypeId} {H0 H H' : AH} {x v : Value} {xs ys : List Int} (hx : Row e H x xs) (ho : rowO x < H0.length) (h : Mine e' H0 H v ys) (he : Else v H H') : Row e H' x xs := by
  refine hx.mono fun y hy => he.2 _ _ ?_ hy
  rcases h with h | ⟨o, zs, h1, h2, h3, h4⟩
  · exact .inl h.1
  · subst h1
    refine .inr ?_
    show rowO x ≠ o
    omega
theorem Row.nil {e : TypeId} {H : AH} {v : Value} {xs : List Int} (h : Row e H v xs) : (v = .slice none 0 0 ∧ xs = []) ∨ rowO v < H.length := by
  rcases h with h | ⟨o, k, vs, ro, h1, h2, _⟩
  · exact .inl h
  · subst h1; exact .inr (at_lt h2)
/-- one's own row stays when an older one is written -/
theorem Mine.else {e e' : TypeId} {H0 H H' : AH} {x v : Value} {xs ys : List Int} (hm : Mine e H0 H v ys) (hx : Row e' H0 x xs) (he : Else x H H') : Mine e H0 H' v ys := by
  rcases hm with h | ⟨o, zs, h1, h2, h3, h4⟩
  · exact .inl h
  · refine .inr ⟨o, zs, h1, h2, he.2 _ _ ?_ h3, h4⟩
    rcases hx.nil with h | h
    · exact .inl h.1
    · exact .inr (by omega)
/-- k, k + 1, .. -/
def runI (k : Int) : Nat → List Int
  | 0 => []
  | n + 1 => runI k n ++ [k + n]
theorem runI_len (k : Int) (n : Nat) : (runI k n).length = n := by
  induction n with
  | zero => rfl
  | succ n ih => simp [runI, ih]
theorem runI_at (k : Int) (n i : Nat) (h : i < n) : (runI k n).getD i 0 = k + i := by
  induction n with
  | zero => omega
  | succ n ih =>
    by_cases hi : i < n
    · have := ih hi
      rw [List.getD_eq_getElem?_getD, runI, List.getElem?_append_left (by rw [runI_len]; exact hi), ← List.getD_eq_getElem?_getD]; exact this
    · obtain rfl : i = n := by omega
      rw [List.getD_eq_getElem?_getD, runI, List.getElem?_append_right (by rw [runI_len]; omega), runI_len]; simp
def Apart (x v : Value) : Prop := v = .slice none 0 0 ∨ x = .slice none 0 0 ∨ rowO x ≠ rowO v
/-- what an appending keeps -/
def Kept (v : Value) (H H' : AH) : Prop := ∀ o y, (v = .slice none 0 0 ∨ o ≠ rowO v) → H[o]? = some y → H'[o]? = some y
theorem Row.kept {e : TypeId} {H H' : AH} {x v : Value} {xs : List Int} (hr : Row e H x xs) (ha : Apart x v) (hk : Kept v H H') : Row e H' x xs := by
  rcases ha with ha | ha | ha
  · exact hr.mono fun y hy => hk _ _ (.inl ha) hy
  · rcases hr with h | ⟨o, k, vs, ro, h1, _⟩
    · exact .inl h
    · rw [h1] at ha; cases ha
  · exact hr.mono fun y hy => hk _ _ (.inr ha) hy
theorem Apart.new {e : TypeId} {H : AH} {x v : Value} {xs : List Int} (hr : Row e H x xs) (h : H.length ≤ rowO v) : Apart x v := by
  rcases hr.nil with g | g
  · exact .inr (.inl g.1)
  · exact .inr (.inr (by omega))
/-- appending one to one's own -/
theorem Own.app1 {P : Program} {t e : TypeId} (hu : P.underlying t = some (.slice e)) (hc : P.cellsOf e = 1) (hby : P.bytesOf e ≤ 64) (hz : zeroOk P e = true) {H0 H : AH} {v : Value} {ys : List Int} (h : Own e H0 H v ys) (hp : H0 <+: H) (hb : ys.length ≤ 1099511627775) (x : Int) :
    ∃ v' H', appendA P t t v (.slice (some ⟨H.length, 0, none⟩) 1 1) (H ++ [.cells [.int .i64 x] e false]) = some (v', H') ∧ Own e H0 H' v' (ys ++ [x]) ∧ H0 <+: H' ∧ Kept v H H' ∧ H.length ≤ rowO v' ∧ isTup v' = false := by
  have hx : Row e (H ++ [.cells [.int .i64 x] e false]) (.slice (some ⟨H.length, 0, none⟩) 1 1) [x] := .inr ⟨H.length, 0, [.int .i64 x], false, rfl, at_new .., by simp, rfl⟩
  obtain ⟨v', H', h1, h2, h3, h4, h5⟩ := (h.pre (List.prefix_append H [.cells [.int .i64 x] e false])).app hu hc hby hz hx (pre_app hp _) (by simp; omega)
  refine ⟨v', H', h1, h2, h3, fun o y hn hy => h4 o y hn (at_app hy _), ?_, h2.row.tup⟩
  rcases h5 with h5 | ⟨h5, h6⟩
  · simp only [List.length_append, List.length_cons, List.length_nil] at h5; omega
  · subst h5
    obtain ⟨p, e1⟩ := h.row.shape
    obtain ⟨q, e2⟩ := h2.row.shape
    rw [e1] at e2
    simp at e2
end Go.Proofs.Ytlcipphiflcaiaa.Ai
namespace Go.Proofs.Ytlcipphiflcaiaa.Ai
open Go Go.RowKit
set_option linter.unusedVariables false
set_option linter.unusedSimpArgs false
/-- all objects but a stretch are as they were -/
def ElseR (lo hi : Nat) (H H' : AH) : Prop := H'.length = H.length ∧ ∀ (o : Nat) (x : AObj), (o < lo ∨ hi ≤ o) → H[o]? = some x → H'[o]? = some x
theorem ElseR.refl (lo hi : Nat) (H : AH) : ElseR lo hi H H := ⟨rfl, fun _ _ _ h => h⟩
theorem ElseR.trans {lo hi : Nat} {H H' H'' : AH} (h : ElseR lo hi H H') (k : ElseR lo hi H' H'') : ElseR lo hi H H'' := ⟨k.1.trans h.1, fun o x hn hx => k.2 o x hn (h.2 o x hn hx)⟩
theorem ElseR.pre {lo hi : Nat} {H0 H H' : AH} (h : ElseR lo hi H H') (hp : H0 <+: H) (hl : H0.length ≤ lo) : H0 <+: H' :=
  prefix_of fun o x hx => h.2 o x (.inl (by have := at_lt hx; omega)) (pre_at hp hx)
def RowB (b : Nat) (e : TypeId) (H : AH) (v : Value) (xs : List Int) : Prop := Row e H v xs ∧ (v = .slice none 0 0 ∨ rowO v < b)
def InI (lo hi : Nat) (e : TypeId) (H : AH) (v : Value) (xs : List Int) : Prop :=
  (v = .slice none 0 0 ∧ xs = []) ∨ ∃ o zs, v = .slice (some ⟨o, 0, none⟩) xs.length xs.length ∧ lo ≤ o ∧ o < hi ∧ H[o]? = some (.cells (ints zs) e false) ∧ zs.take xs.length = xs
theorem Row.nilv {e : TypeId} {H : AH} {v : Value} {xs : List Int} (h : Row e H v xs) (hv : v = .slice none 0 0) : xs = [] := by
  rcases h with h | ⟨o, k, vs, ro, h1, _⟩
  · exact h.2
  · rw [h1] at hv; cases hv
theorem Row.b {e : TypeId} {H : AH} {v : Value} {xs : List Int} (h : Row e H v xs) : RowB H.length e H v xs := ⟨h, h.nil.imp (fun g => g.1) id⟩
theorem RowB.pre {b : Nat} {e : TypeId} {H H' : AH} {v : Value} {xs : List Int} (h : RowB b e H v xs) (hp : H <+: H') : RowB b e H' v xs := ⟨h.1.pre hp, h.2⟩
theorem RowB.keep {b lo hi : Nat} {e : TypeId} {H H' : AH} {v : Value} {xs : List Int} (h : RowB b e H v xs) (he : ElseR lo hi H H') (hl : b ≤ lo) : RowB b e H' v xs := by
  refine ⟨?_, h.2⟩
  rcases h.2 with g | g
  · exact .inl ⟨g, h.1.nilv g⟩
  · exact h.1.mono fun y hy => he.2 _ _ (.inl (by omega)) hy
theorem InI.row {lo hi : Nat} {e : TypeId} {H : AH} {v : Value} {xs : List Int} (h : InI lo hi e H v xs) : RowB hi e H v xs := by
  rcases h with h | ⟨o, zs, h1, h2, h3, h4, h5⟩
  · exact ⟨.inl h, .inl h.1⟩
  · have hl : xs.length ≤ zs.length := by have := congrArg List.length h5; simp at this; omega
    refine ⟨.inr ⟨o, 0, _, _, h1, h4, by rw [ints_len]; omega, ?_⟩, .inr (by rw [h1]; exact h3)⟩
    rw [List.drop_zero]
    have : (ints zs).take xs.length = ints (zs.take xs.length) := by simp [ints, List.map_take]
    rw [this, h5]
theorem InI.of {e : TypeId} {H0 H : AH} {v : Value} {xs : List Int} (h : Mine e H0 H v xs) : InI H0.length H.length e H v xs := by
  rcases h with h | ⟨o, zs, h1, h2, h3, h4⟩
  · exact .inl h
  · exact .inr ⟨o, zs, h1, h2, at_lt h3, h3, h4⟩
theorem InI.mine {hi : Nat} {e : TypeId} {H0 H : AH} {v : Value} {xs : List Int} (h : InI H0.length hi e H v xs) : Mine e H0 H v xs := by
  rcases h with h | ⟨o, zs, h1, h2, h3, h4, h5⟩
  · exact .inl h
  · exact .inr ⟨o, zs, h1, h2, h4, h5⟩
theorem InI.wide {lo hi lo' hi' : Nat} {e : TypeId} {H : AH} {v : Value} {xs : List Int} (h : InI lo hi e H v xs) (h1 : lo' ≤ lo) (h2 : hi ≤ hi') : InI lo' hi' e H v xs := by
  rcases h with h | ⟨o, zs, g1, g2, g3, g4, g5⟩
  · exact .inl h
  · exact .inr ⟨o, zs, g1, by omega, by omega, g4, g5⟩
theorem InI.move {lo hi : Nat} {e : TypeId} {H H' : AH} {v : Value} {xs : List Int} (h : InI lo hi e H v xs) (hh : ∀ y, v ≠ .slice none 0 0 → H[rowO v]? = some y → H'[rowO v]? = some y) : InI lo hi e H' v xs := by
  rcases h with h | ⟨o, zs, g1, g2, g3, g4, g5⟩
  · exact .inl h
  · subst g1; exact .inr ⟨o, zs, rfl, g2, g3, hh _ (by intro e; cases e) g4, g5⟩
theorem InI.pre {lo hi : Nat} {e : TypeId} {H H' : AH} {v : Value} {xs : List Int} (h : InI lo hi e H v xs) (hp : H <+: H') : InI lo hi e H' v xs := h.move fun _ _ hy => pre_at hp hy
theorem InI.keep {lo hi lo' hi' : Nat} {e : TypeId} {H H' : AH} {v : Value} {xs : List Int} (h : InI lo hi e H v xs) (he : ElseR lo' hi' H H') (hl : hi ≤ lo' ∨ hi' ≤ lo) : InI lo hi e H' v xs := by
  rcases h with h | ⟨o, zs, g1, g2, g3, g4, g5⟩
  · exact .inl h
  · exact .inr ⟨o, zs, g1, g2, g3, he.2 _ _ (by omega) g4, g5⟩
theorem InI.at_ {lo hi : Nat} {e : TypeId} {H : AH} {v : Value} {xs : List Int} (h : InI lo hi e H v xs) : v = .slice none 0 0 ∨ (lo ≤ rowO v ∧ rowO v < hi) := by
  rcases h with h | ⟨o, zs, g1, g2, g3, g4, g5⟩
  · exact .inl h.1
  · subst g1; exact .inr ⟨g2, g3⟩
def RowLB (b : Nat) (e2 e : TypeId) (H : AH) (v : Value) (ls : List (List Int)) : Prop :=
  ∃ us : List Value, RowV e2 H v us ∧ (v = .slice none 0 0 ∨ rowO v < b) ∧ us.length = ls.length ∧ ∀ i, i < ls.length → RowB b e H (us.getD i undef) (ls.getD i [])
/-- its parts -/
def InU (lo hi : Nat) (e2 e : TypeId) (H : AH) (o : Nat) (us : List Value) (ls : List (List Int)) : Prop :=
  lo ≤ o ∧ o < hi ∧ H[o]? = some (.cells us e2 false) ∧ ls.length ≤ us.length ∧ (∀ i, i < ls.length → InI lo hi e H (us.getD i undef) (ls.getD i []) ∧ (us.getD i undef = .slice none 0 0 ∨ rowO (us.getD i undef) ≠ o)) ∧
  ∀ i j, i ≠ j → i < ls.length → j < ls.length → Apart (us.getD i undef) (us.getD j undef)
def InL (lo hi : Nat) (e2 e : TypeId) (H : AH) (v : Value) (ls : List (List Int)) : Prop :=
  (v = .slice none 0 0 ∧ ls = []) ∨ ∃ o us, v = .slice (some ⟨o, 0, none⟩) ls.length ls.length ∧ InU lo hi e2 e H o us ls
theorem RowV.nilv {e : TypeId} {H : AH} {v : Value} {us : List Value} (h : RowV e H v us) (hv : v = .slice none 0 0) : us = [] := by
  rcases h with h | ⟨o, k, vs, ro, h1, _⟩
  · exact h.2
  · rw [h1] at hv; cases hv
theorem RowLB.pre {b : Nat} {e2 e : TypeId} {H H' : AH} {v : Value} {ls : List (List Int)} (h : RowLB b e2 e H v ls) (hp : H <+: H') : RowLB b e2 e H' v ls := by
  obtain ⟨us, h1, h2, h3, h4⟩ := h
  exact ⟨us, h1.pre hp, h2, h3, fun i hi => (h4 i hi).pre hp⟩
theorem RowLB.keep {b lo hi : Nat} {e2 e : TypeId} {H H' : AH} {v : Value} {ls : List (List Int)} (h : RowLB b e2 e H v ls) (he : ElseR lo hi H H') (hl : b ≤ lo) : RowLB b e2 e H' v ls := by
  obtain ⟨us, h1, h2, h3, h4⟩ := h
  refine ⟨us, ?_, h2, h3, fun i hi => (h4 i hi).keep he hl⟩
  rcases h2 with g | g
  · exact .inl ⟨g, h1.nilv g⟩
  · exact h1.mono fun y hy => he.2 _ _ (.inl (by omega)) hy
theorem InU.row {lo hi : Nat} {e2 e : TypeId} {H : AH} {o : Nat} {us : List Value} {ls : List (List Int)} (h : InU lo hi e2 e H o us ls) : RowLB hi e2 e H (.slice (some ⟨o, 0, none⟩) ls.length ls.length) ls := by
  obtain ⟨h1, h2, h3, h4, h5, h6⟩ := h
  refine ⟨us.take ls.length, .inr ⟨o, 0, us, false, by simp [Nat.min_eq_left h4], h3, by simp; omega, by simp [Nat.min_eq_left h4]⟩, .inr h2, by simp; omega, fun i hi => ?_⟩
  have : (us.take ls.length).getD i undef = us.getD i undef := by
    rw [List.getD_eq_getElem?_getD, List.getD_eq_getElem?_getD, List.getElem?_take, if_pos hi]
  rw [this]
  exact (h5 i hi).1.row
theorem InL.row {lo hi : Nat} {e2 e : TypeId} {H : AH} {v : Value} {ls : List (List Int)} (h : InL lo hi e2 e H v ls) : RowLB hi e2 e H v ls := by
  rcases h with ⟨h1, h2⟩ | ⟨o, us, h1, h2⟩
  · subst h1; subst h2; exact ⟨[], .inl ⟨rfl, rfl⟩, .inl rfl, rfl, fun i hi => absurd hi (by simp)⟩
  · rw [h1]; exact h2.row
theorem InU.move {lo hi : Nat} {e2 e : TypeId} {H H' : AH} {o : Nat} {us : List Value} {ls : List (List Int)} (h : InU lo hi e2 e H o us ls) (hh : ∀ (j : Nat) (y : AObj), lo ≤ j → j < hi → H[j]? = some y → H'[j]? = some y) : InU lo hi e2 e H' o us ls := by
  obtain ⟨h1, h2, h3, h4, h5, h6⟩ := h
  refine ⟨h1, h2, hh _ _ h1 h2 h3, h4, fun i hi => ⟨(h5 i hi).1.move fun y hn hy => ?_, (h5 i hi).2⟩, h6⟩
  rcases (h5 i hi).1.at_ with g | g
  · exact absurd g hn
  · exact hh _ _ g.1 g.2 hy
theorem InL.pre {lo hi : Nat} {e2 e : TypeId} {H H' : AH} {v : Value} {ls : List (List Int)} (h : InL lo hi e2 e H v ls) (hp : H <+: H') : InL lo hi e2 e H' v ls := by
  rcases h with h | ⟨o, us, h1, h2⟩
  · exact .inl h
  · exact .inr ⟨o, us, h1, h2.move fun j y _ _ hy => pre_at hp hy⟩
theorem InL.keep {lo hi lo' hi' : Nat} {e2 e : TypeId} {H H' : AH} {v : Value} {ls : List (List Int)} (h : InL lo hi e2 e H v ls) (he : ElseR lo' hi' H H') (hl : hi ≤ lo' ∨ hi' ≤ lo) : InL lo hi e2 e H' v ls := by
  rcases h with h | ⟨o, us, h1, h2⟩
  · exact .inl h
  · exact .inr ⟨o, us, h1, h2.move fun j y _ _ hy => he.2 _ _ (by omega) hy⟩
theorem InL.wide {lo hi lo' hi' : Nat} {e2 e : TypeId} {H : AH} {v : Value} {ls : List (List Int)} (h : InL lo hi e2 e H v ls) (h1 : lo' ≤ lo) (h2 : hi ≤ hi') : InL lo' hi' e2 e H v ls := by
  rcases h with h | ⟨o, us, g1, g2, g3, g4, g5, g6, g7⟩
  · exact .inl h
  · exact .inr ⟨o, us, g1, by omega, by omega, g4, g5, fun i hi => ⟨(g6 i hi).1.wide h1 h2, (g6 i hi).2⟩, g7⟩
/-- one more list at the end -/
theorem InL.app1 {P : Program} {t2 e2 e : TypeId} (hu : P.underlying t2 = some (.slice e2)) (hc : P.cellsOf e2 = 1) (hby : P.bytesOf e2 ≤ 64) (hz : zeroOk P e2 = true) {lo hi hi2 : Nat} {H : AH} {v w : Value} {ls : List (List Int)} {l : List Int}
    (h : InL lo hi e2 e H v ls) (hw : InI hi hi2 e H w l) (hl1 : lo ≤ hi) (hl2 : hi ≤ H.length) (hl3 : hi2 ≤ H.length) (hb : ls.length ≤ 1099511627775) :
    ∃ v' H', appendA P t2 t2 v (.slice (some ⟨H.length, 0, none⟩) 1 1) (H ++ [.cells [w] e2 false]) = some (v', H') ∧ InL lo H'.length e2 e H' v' (ls ++ [l]) ∧ (∀ H0 : AH, H0 <+: H → H0.length ≤ lo → H0 <+: H') ∧ H.length ≤ H'.length ∧ isTup v' = false := by
  have hone : isTup w = false := by rcases hw with g | ⟨o, zs, g1, _⟩ <;> first | (rw [g.1]; rfl) | (rw [g1]; rfl)
  have bb : ∀ n : Nat, n ≤ 1099511627776 → n * P.bytesOf e2 ≤ 140737488355328 := fun n hn => by
    refine Nat.le_trans (Nat.mul_le_mul_left _ hby) ?_
    omega
  have hsc : sliceCells P e2 (.slice (some ⟨H.length, 0, none⟩) 1 1) (H ++ [.cells [w] e2 false]) = some (1, [w]) := by
    simp only [sliceCells, at_new, hc]; simp
  rcases h with ⟨h1, h2⟩ | ⟨o, us, h1, h2, h3, h4, h5, h6, h7⟩
  · subst h1; subst h2
    refine ⟨.slice (some ⟨H.length + 1, 0, none⟩) 1 1, H ++ [.cells [w] e2 false] ++ [.cells [w] e2 false], ?_, ?_, fun H0 hp _ => pre_app (pre_app hp _) _, by simp, rfl⟩
    · simp only [appendA, hu, hc, hsc, hz]
      have := bb 1 (by omega)
      simp at this ⊢
      exact this
    · refine .inr ⟨H.length + 1, [w], rfl, by omega, by simp, ?_, by simp, ?_, ?_⟩
      · rw [List.getElem?_append_right (by simp)]; simp
      · intro i hi'
        simp only [List.nil_append, List.length_cons, List.length_nil] at hi'
        obtain rfl : i = 0 := by omega
        refine ⟨((hw.pre (List.prefix_append _ _)).pre (List.prefix_append _ _)).wide hl1 (by simp; omega), ?_⟩
        rcases hw.at_ with g | g
        · exact .inl g
        · right
          show rowO w ≠ H.length + 1
          omega
      · intro i j hij hi' hj'
        simp at hi' hj'; omega
  · subst h1
    have ho := at_lt h4
    have hlt : o < (H ++ [AObj.cells [w] e2 false]).length := by simp; omega
    refine ⟨.slice (some ⟨H.length + 1, 0, none⟩) (ls.length + 1) (ls.length + 1), (H ++ [AObj.cells [w] e2 false]).set o AObj.dead ++ [AObj.cells (us.take ls.length ++ [w]) e2 false], ?_, ?_, ?_, by simp; omega, rfl⟩
    · have ho2 : (H ++ [AObj.cells [w] e2 false])[o]? = some (.cells us e2 false) := at_app h4 _
      simp only [appendA, hu, hc, hsc, hz, ho2]
      rw [if_pos (by simp), if_neg (by simp), if_pos ⟨trivial, by omega, bb _ (by omega), by omega, trivial⟩]
      simp
    · have keep : ∀ (j : Nat) (y : AObj), j ≠ o → H[j]? = some y → ((H ++ [AObj.cells [w] e2 false]).set o .dead ++ [AObj.cells (us.take ls.length ++ [w]) e2 false])[j]? = some y := by
        intro j y hj hy
        exact at_old (at_app hy _) (fun e => hj e.symm) _
      have hul : (us.take ls.length).length = ls.length := by simp; omega
      have uat : ∀ i, i < ls.length → (us.take ls.length ++ [w]).getD i undef = us.getD i undef := by
        intro i hi'
        rw [List.getD_eq_getElem?_getD, List.getD_eq_getElem?_getD, List.getElem?_append_left (by omega), List.getElem?_take, if_pos hi']
      have ulast : (us.take ls.length ++ [w]).getD ls.length undef = w := by
        rw [List.getD_eq_getElem?_getD, List.getElem?_append_right (by omega), hul]; simp
      have lat : ∀ i, i < ls.length → (ls ++ [l]).getD i [] = ls.getD i [] := by
        intro i hi'
        rw [List.getD_eq_getElem?_getD, List.getD_eq_getElem?_getD, List.getElem?_append_left hi']
      have llast : (ls ++ [l]).getD ls.length [] = l := by
        rw [List.getD_eq_getElem?_getD, List.getElem?_append_right (by omega)]; simp
      have aw : ∀ i, i < ls.length → Apart (us.getD i undef) w := by
        intro i hi'
        rcases (h6 i hi').1.at_ with g | g
        · exact .inr (.inl g)
        · rcases hw.at_ with g' | g'
          · exact .inl g'
          · exact .inr (.inr (by omega))
      refine .inr ⟨H.length + 1, us.take ls.length ++ [w], by simp, by omega, by simp, ?_, by simp; omega, ?_, ?_⟩
      · rw [List.getElem?_append_right (by simp)]; simp
      · intro i hi'
        simp only [List.length_append, List.length_cons, List.length_nil] at hi'
        by_cases hc' : i < ls.length
        · rw [uat i hc', lat i hc']
          obtain ⟨k1, k2⟩ := h6 i hc'
          refine ⟨(k1.move fun y hn hy => ?_).wide (Nat.le_refl _) (by simp; omega), ?_⟩
          · rcases k2 with g | g
            · exact absurd g hn
            · exact keep _ _ g hy
          · rcases k1.at_ with g | g
            · exact .inl g
            · exact .inr (by omega)
        · obtain rfl : i = ls.length := by omega
          rw [ulast, llast]
          refine ⟨(hw.move fun y hn hy => ?_).wide hl1 (by simp; omega), ?_⟩
          · rcases hw.at_ with g | g
            · exact absurd g hn
            · exact keep _ _ (by omega) hy
          · rcases hw.at_ with g | g
            · exact .inl g
            · exact .inr (by omega)
      · intro i j hij hi' hj'
        simp only [List.length_append, List.length_cons, List.length_nil] at hi' hj'
        by_cases ci : i < ls.length <;> by_cases cj : j < ls.length
        · rw [uat i ci, uat j cj]; exact h7 i j hij ci cj
        · obtain rfl : j = ls.length := by omega
          rw [uat i ci, ulast]; exact aw i ci
        · obtain rfl : i = ls.length := by omega
          rw [uat j cj, ulast]
          rcases aw j cj with g | g | g
          · exact .inr (.inl g)
          · exact .inl g
          · exact .inr (.inr fun e => g e.symm)
        · omega
    · intro H0 hp hl0
      refine pre_app (pre_set (pre_app hp _) (by omega) _) _
/-- counting through lists -/
def sizeL (ls : List (List Int)) : Nat := (ls.map List.length).sum
def runL (k : Int) : List (List Int) → List (List Int)
  | [] => []
  | l :: ls => runI k l.length :: runL (k + l.length) ls
theorem runL_len (k : Int) (ls : List (List Int)) : (runL k ls).length = ls.length := by
  induction ls generalizing k with
  | nil => rfl
  | cons l ls ih => simp [runL, ih]
theorem sizeL_cons (l : List Int) (ls : List (List Int)) : sizeL (l :: ls) = l.length + sizeL ls := by simp [sizeL]
theorem sizeL_take (ls : List (List Int)) (i : Nat) (h : i < ls.length) : sizeL (ls.take (i + 1)) = sizeL (ls.take i) + (ls.getD i []).length := by
  rw [List.take_add_one, List.getElem?_eq_getElem h]
  unfold sizeL
  rw [List.map_append, List.sum_append]
  simp [h]
theorem sizeL_le (ls : List (List Int)) (i : Nat) : sizeL (ls.take i) ≤ sizeL ls := by
  induction ls generalizing i with
  | nil => simp
  | cons l ls ih =>
    cases i with
    | zero => simp [sizeL]
    | succ i => simp only [List.take_succ_cons, sizeL_cons]; have := ih i; omega
theorem runL_at (k : Int) (ls : List (List Int)) (i : Nat) (h : i < ls.length) : (runL k ls).getD i [] = runI (k + sizeL (ls.take i)) (ls.getD i []).length := by
  induction ls generalizing k i with
  | nil => simp at h
  | cons l ls ih =>
    cases i with
    | zero => simp [runL, sizeL]
    | succ i =>
      simp only [List.length_cons] at h
      have := ih (k + l.length) i (by omega)
      simp only [runL, List.getD_cons_succ, List.take_succ_cons, sizeL_cons, this]
      congr 1
      omega
end Go.Proofs.Ytlcipphiflcaiaa.Ai
namespace Go.Proofs.Ytlcipphiflcaiaa.Ai
open Go Go.RowKit
set_option linter.unusedVariables false
set_option linter.unusedSimpArgs false
def I64 (x : Int) : Prop := -9223372036854775808 ≤ x ∧ x ≤ 9223372036854775807
def IsRow (k : IntKind) (w : World) (a : Option Addr) (len cap : Nat) (zs : List Int) : Prop :=
  (a = none ∧ len = 0 ∧ cap = 0 ∧ zs = []) ∨
  ∃ x, a = some x ∧ len ≤ cap ∧ cap ≤ maxLen ∧ zs.length = cap ∧ (∀ i, i < zs.length → w.cell? (x.add i) = some (.int k (zs.getD i 0))) ∧ ∀ n ∈ zs, (Lit.int k n).wf = true
/-- an abstract heap of things that are only read -/
structure Args (P : Program) (μ : Mu) (H : AH) (W : World) : Prop where
  rel : HRel P μ H W
  ro : ∀ (o : Nat) (x : AObj), H[o]? = some x → x.wr = false
theorem Args.nil0 (P : Program) (W : World) : Args P (fun _ => none) [] W := ⟨⟨fun _ _ => rfl, fun _ _ _ _ _ h => by simp at h, fun _ _ _ h => by simp at h, fun _ _ _ _ _ _ _ h => by simp at h⟩, fun _ _ h => by simp at h⟩
theorem Args.addInts {P : Program} {t e : TypeId} {W : World} {base : Nat} {a : Option Addr} {len cap : Nat} {zs : List Int} {μ : Mu} {H : AH} (h : Args P μ H W) (hc : P.cellsOf e = 1) (hu : P.underlying t = some (.slice e))
    (hok : Value.okWide P W .any base t (.slice a len cap)) (hrow : IsRow .i64 W a len cap zs) :
    ∃ (μ' : Mu) (obj : AObj) (va : Value) (xs : List Int), Args P μ' (H ++ [obj]) W ∧ μ.Le μ' ∧ TRel μ' va (.slice a len cap) ∧ Row e (H ++ [obj]) va xs ∧ ∀ y ∈ xs, I64 y := by
  rcases hrow with ⟨rfl, rfl, rfl, rfl⟩ | ⟨x, rfl, hl, hm, hz, hcell, hwf⟩
  · refine ⟨μ, .dead, .slice none 0 0, [], ⟨h.rel.phantom .dead, ?_⟩, Mu.Le.refl _, ⟨rfl, rfl, rfl⟩, .inl ⟨rfl, rfl⟩, by simp⟩
    intro o y hy
    rw [getElem?_snoc] at hy
    split at hy
    · cases hy; rfl
    · exact h.ro o y hy
  · simp only [Value.okWide, hu, Cell.okWide, Cell.ok] at hok
    obtain ⟨_, _, _, hspot, row, cells, hsh, _⟩ := hok
    have hblk : x.block < W.heap.size := by
      unfold World.shape? at hsh
      cases hb : W.heap[x.block]? with
      | none => rw [hb] at hsh; cases hsh
      | some o => exact (Array.getElem?_eq_some_iff.1 hb).1
    have hx : ∀ i, x.add i = ⟨x.block, x.off + i, none⟩ := by intro i; cases x; simp_all [Addr.add]
    have hfree : μ H.length = none := h.rel.dom _ (Nat.le_refl _)
    have hle := Mu.le_put (L := ⟨x.block, x.off, cap, 1⟩) hfree
    have hro : ∀ (o : Nat) (y : AObj), (H ++ [AObj.cells (ints zs) e true])[o]? = some y → y.wr = false := by
      intro o y hy
      rw [getElem?_snoc] at hy
      split at hy
      · cases hy; rfl
      · exact h.ro o y hy
    refine ⟨μ.put H.length ⟨x.block, x.off, cap, 1⟩, .cells (ints zs) e true, .slice (some ⟨H.length, 0, none⟩) len len, zs.take len, ⟨?_, hro⟩, hle, ?_, ?_, ?_⟩
    · refine ⟨?_, ?_, ?_, ?_⟩
      · intro o ho
        simp only [List.length_append, List.length_cons, List.length_nil] at ho
        rw [Mu.put_other _ _ _ (by omega)]; exact h.rel.dom o (by omega)
      · intro o vs t' ro L ho hL
        rw [getElem?_snoc] at ho
        split at ho
        · rename_i eo
          subst eo
          simp only [Option.some.injEq, AObj.cells.injEq] at ho
          obtain ⟨rfl, rfl, rfl⟩ := ho
          rw [Mu.put_same] at hL
          cases hL
          refine ⟨hblk, by simp, hc.symm, by rw [ints_len]; show zs.length ≤ cap; omega, ?_, fun h => by cases h⟩
          intro i v hv
          have hi : i < zs.length := by have := (List.getElem?_eq_some_iff.1 hv).1; rwa [ints_len] at this
          rw [ints_at zs hi] at hv
          cases hv
          refine ⟨_, ?_, rfl⟩
          rw [← hx]; exact hcell i hi
        · rename_i eo
          rw [Mu.put_other _ _ _ eo] at hL
          obtain ⟨h2, h3, h4, h5, h6, h7⟩ := h.rel.cells_ o vs t' ro L ho hL
          refine ⟨h2, h3, h4, h5, ?_, h7⟩
          intro i v hv
          obtain ⟨cv, g1, g2⟩ := h6 i v hv
          exact ⟨cv, g1, g2.mono hle⟩
      · intro o es L ho hL
        rw [getElem?_snoc] at ho
        split at ho
        · cases ho
        · have := h.ro o _ ho
          cases this
      · intro o o' y y' L L' hne ho ho' hw
        have := hro o y ho
        rw [this] at hw; cases hw
    · refine ⟨rfl, rfl, x, cap, rfl, hl, .inr ⟨⟨x.block, x.off, cap, 1⟩, Mu.put_same _ _ _, ?_, by simp⟩⟩
      have := hx 0
      cases x
      simp_all
    · refine .inr ⟨H.length, 0, ints zs, true, ?_, at_new .., ?_, ?_⟩
      · have : (zs.take len).length = len := by simp; omega
        rw [this]
      · rw [ints_len]; simp; omega
      · have : (zs.take len).length = len := by simp; omega
        rw [this, List.drop_zero]
        simp [ints, List.map_take]
    · intro y hy
      have := hwf y (List.mem_of_mem_take hy)
      simp [Lit.wf, IntKind.min, IntKind.max, IntKind.signed, IntKind.bits] at this
      exact ⟨by omega, by omega⟩
/-- the number of an int argument -/
theorem Args.wr {P : Program} {μ : Mu} {H : AH} {W : World} (h : Args P μ H W) : ∀ (o : Nat) (x : AObj) (L : Loc), H[o]? = some x → x.wr = true → μ o = some L → W.heap.size ≤ L.blk := fun o x L ho hw => by
  rw [h.ro o x ho] at hw; cases hw
end Go.Proofs.Ytlcipphiflcaiaa.Ai
namespace Go.Proofs.Ytlcipphiflcaiaa.Ai
open Go Go.RowKit
set_option linter.unusedVariables false
set_option linter.unusedSimpArgs false
/-- an object that is none of theirs -/
def Away (q o : Nat) (us : List Value) (ls : List (List Int)) : Prop := o ≠ q ∧ ∀ i, i < ls.length → us.getD i undef = .slice none 0 0 ∨ rowO (us.getD i undef) ≠ q
theorem InU.moveq {lo hi q : Nat} {e2 e : TypeId} {H H' : AH} {o : Nat} {us : List Value} {ls : List (List Int)} (h : InU lo hi e2 e H o us ls) (ha : Away q o us ls) (hh : ∀ (j : Nat) (y : AObj), j ≠ q → H[j]? = some y → H'[j]? = some y) : InU lo hi e2 e H' o us ls := by
  obtain ⟨h1, h2, h3, h4, h5, h6⟩ := h
  refine ⟨h1, h2, hh _ _ ha.1 h3, h4, fun i hi => ⟨(h5 i hi).1.move fun y hn hy => ?_, (h5 i hi).2⟩, h6⟩
  rcases ha.2 i hi with g | g
  · exact absurd g hn
  · exact hh _ _ g hy
theorem InU.wide {lo hi lo' hi' : Nat} {e2 e : TypeId} {H : AH} {o : Nat} {us : List Value} {ls : List (List Int)} (h : InU lo hi e2 e H o us ls) (h1 : lo' ≤ lo) (h2 : hi ≤ hi') : InU lo' hi' e2 e H o us ls := by
  obtain ⟨g2, g3, g4, g5, g6, g7⟩ := h
  exact ⟨by omega, by omega, g4, g5, fun i hi => ⟨(g6 i hi).1.wide h1 h2, (g6 i hi).2⟩, g7⟩
theorem InU.pre {lo hi : Nat} {e2 e : TypeId} {H H' : AH} {o : Nat} {us : List Value} {ls : List (List Int)} (h : InU lo hi e2 e H o us ls) (hp : H <+: H') : InU lo hi e2 e H' o us ls := h.move fun j y _ _ hy => pre_at hp hy
theorem InU.inl {lo hi : Nat} {e2 e : TypeId} {H : AH} {o : Nat} {us : List Value} {ls : List (List Int)} (h : InU lo hi e2 e H o us ls) : InL lo hi e2 e H (.slice (some ⟨o, 0, none⟩) ls.length ls.length) ls := .inr ⟨o, us, rfl, h⟩
/-- an empty one -/
theorem InU.new (lo : Nat) (e2 e : TypeId) (H : AH) (hl : lo ≤ H.length) : InU lo (H.length + 1) e2 e (H ++ [.cells [] e2 false]) H.length [] [] :=
  ⟨hl, by omega, at_new .., Nat.le_refl _, fun i hi => absurd hi (by simp), fun i j _ hi _ => absurd hi (by simp)⟩
theorem InU.app1 {P : Program} {t2 e2 e : TypeId} (hu : P.underlying t2 = some (.slice e2)) (hc : P.cellsOf e2 = 1) (hby : P.bytesOf e2 ≤ 64) (hz : zeroOk P e2 = true) {lo hi hi2 : Nat} {H : AH} {o : Nat} {us : List Value} {w : Value} {ls : List (List Int)} {l : List Int}
    (h : InU lo hi e2 e H o us ls) (hw : InI hi hi2 e H w l) (hl1 : lo ≤ hi) (hl2 : hi ≤ H.length) (hl3 : hi2 ≤ H.length) (hb : ls.length ≤ 1099511627775) :
    ∃ H', appendA P t2 t2 (.slice (some ⟨o, 0, none⟩) ls.length ls.length) (.slice (some ⟨H.length, 0, none⟩) 1 1) (H ++ [.cells [w] e2 false]) = some (.slice (some ⟨H.length + 1, 0, none⟩) (ls.length + 1) (ls.length + 1), H') ∧
      InU lo (H.length + 2) e2 e H' (H.length + 1) (us.take ls.length ++ [w]) (ls ++ [l]) ∧ H'.length = H.length + 2 ∧ (∀ (j : Nat) (y : AObj), j ≠ o → H[j]? = some y → H'[j]? = some y) := by
  have bb : ∀ n : Nat, n ≤ 1099511627776 → n * P.bytesOf e2 ≤ 140737488355328 := fun n hn => by
    refine Nat.le_trans (Nat.mul_le_mul_left _ hby) ?_
    omega
  have hsc : sliceCells P e2 (.slice (some ⟨H.length, 0, none⟩) 1 1) (H ++ [.cells [w] e2 false]) = some (1, [w]) := by
    simp only [sliceCells, at_new, hc]; simp
  obtain ⟨h2, h3, h4, h5, h6, h7⟩ := h
  have ho := at_lt h4
  have hlt : o < (H ++ [AObj.cells [w] e2 false]).length := by simp; omega
  have keep : ∀ (j : Nat) (y : AObj), j ≠ o → H[j]? = some y → ((H ++ [AObj.cells [w] e2 false]).set o AObj.dead ++ [AObj.cells (us.take ls.length ++ [w]) e2 false])[j]? = some y := by
    intro j y hj hy
    exact at_old (at_app hy _) (fun e => hj e.symm) _
  refine ⟨(H ++ [AObj.cells [w] e2 false]).set o AObj.dead ++ [AObj.cells (us.take ls.length ++ [w]) e2 false], ?_, ?_, by simp, keep⟩
  · have ho2 : (H ++ [AObj.cells [w] e2 false])[o]? = some (.cells us e2 false) := at_app h4 _
    simp only [appendA, hu, hc, hsc, hz, ho2]
    rw [if_pos (by simp), if_neg (by simp), if_pos ⟨trivial, by omega, bb _ (by omega), by omega, trivial⟩]
    simp
  · have hul : (us.take ls.length).length = ls.length := by simp; omega
    have uat : ∀ i, i < ls.length → (us.take ls.length ++ [w]).getD i undef = us.getD i undef := by
      intro i hi'
      rw [List.getD_eq_getElem?_getD, List.getD_eq_getElem?_getD, List.getElem?_append_left (by omega), List.getElem?_take, if_pos hi']
    have ulast : (us.take ls.length ++ [w]).getD ls.length undef = w := by
      rw [List.getD_eq_getElem?_getD, List.getElem?_append_right (by omega), hul]; simp
    have lat : ∀ i, i < ls.length → (ls ++ [l]).getD i [] = ls.getD i [] := by
      intro i hi'
      rw [List.getD_eq_getElem?_getD, List.getD_eq_getElem?_getD, List.getElem?_append_left hi']
    have llast : (ls ++ [l]).getD ls.length [] = l := by
      rw [List.getD_eq_getElem?_getD, List.getElem?_append_right (by omega)]; simp
    have aw : ∀ i, i < ls.length → Apart (us.getD i undef) w := by
      intro i hi'
      rcases (h6 i hi').1.at_ with g | g
      · exact .inr (.inl g)
      · rcases hw.at_ with g' | g'
        · exact .inl g'
        · exact .inr (.inr (by omega))
    refine ⟨by omega, by omega, ?_, by simp; omega, ?_, ?_⟩
    · rw [List.getElem?_append_right (by simp)]; simp
    · intro i hi'
      simp only [List.length_append, List.length_cons, List.length_nil] at hi'
      by_cases hc' : i < ls.length
      · rw [uat i hc', lat i hc']
        obtain ⟨k1, k2⟩ := h6 i hc'
        refine ⟨(k1.move fun y hn hy => ?_).wide (Nat.le_refl _) (by omega), ?_⟩
        · rcases k2 with g | g
          · exact absurd g hn
          · exact keep _ _ g hy
        · rcases k1.at_ with g | g
          · exact .inl g
          · exact .inr (by omega)
      · obtain rfl : i = ls.length := by omega
        rw [ulast, llast]
        refine ⟨(hw.move fun y hn hy => ?_).wide hl1 (by omega), ?_⟩
        · rcases hw.at_ with g | g
          · exact absurd g hn
          · exact keep _ _ (by omega) hy
        · rcases hw.at_ with g | g
          · exact .inl g
          · exact .inr (by omega)
    · intro i j hij hi' hj'
      simp only [List.length_append, List.length_cons, List.length_nil] at hi' hj'
      by_cases ci : i < ls.length <;> by_cases cj : j < ls.length
      · rw [uat i ci, uat j cj]; exact h7 i j hij ci cj
      · obtain rfl : j = ls.length := by omega
        rw [uat i ci, ulast]; exact aw i ci
      · obtain rfl : i = ls.length := by omega
        rw [uat j cj, ulast]
        rcases aw j cj with g | g | g
        · exact .inr (.inl g)
        · exact .inl g
        · exact .inr (.inr fun e => g e.symm)
      · omega
end Go.Proofs.Ytlcipphiflcaiaa.Ai
namespace Go.Proofs.Ytlcipphiflcaiaa.Ai
open Go Go.RowKit
set_option linter.unusedVariables false
set_option linter.unusedSimpArgs false
def flat (ps : List (Int × Int)) : List Int := ps.flatMap fun p => [p.1, p.2]
theorem flat_cons (p : Int × Int) (ps : List (Int × Int)) : flat (p :: ps) = p.1 :: p.2 :: flat ps := rfl
theorem flat_len (ps : List (Int × Int)) : (flat ps).length = 2 * ps.length := by
  induction ps with
  | nil => rfl
  | cons p ps ih => rw [flat_cons]; simp only [List.length_cons, ih]; omega
theorem flat_app (ps qs : List (Int × Int)) : flat (ps ++ qs) = flat ps ++ flat qs := by simp [flat]
theorem flat_take (ps : List (Int × Int)) (i : Nat) : (flat ps).take (2 * i) = flat (ps.take i) := by
  induction ps generalizing i with
  | nil => simp [flat]
  | cons p ps ih =>
    cases i with
    | zero => simp [flat]
    | succ i => rw [flat_cons, show 2 * (i + 1) = 2 * i + 1 + 1 from by omega, List.take_succ_cons, List.take_succ_cons, ih, List.take_succ_cons, flat_cons]
theorem flat_drop (ps : List (Int × Int)) (i : Nat) : (flat ps).drop (2 * i) = flat (ps.drop i) := by
  induction ps generalizing i with
  | nil => simp [flat]
  | cons p ps ih =>
    cases i with
    | zero => simp [flat]
    | succ i => rw [flat_cons, show 2 * (i + 1) = 2 * i + 1 + 1 from by omega, List.drop_succ_cons, List.drop_succ_cons, ih, List.drop_succ_cons]
theorem flat_at0 (ps : List (Int × Int)) (i : Nat) (h : i < ps.length) : (flat ps).getD (2 * i) 0 = (ps.getD i (0, 0)).1 := by
  induction ps generalizing i with
  | nil => simp at h
  | cons p ps ih =>
    cases i with
    | zero => rfl
    | succ i =>
      simp only [List.length_cons] at h
      rw [flat_cons, show 2 * (i + 1) = 2 * i + 1 + 1 from by omega, List.getD_cons_succ, List.getD_cons_succ, ih i (by omega), List.getD_cons_succ]
theorem flat_at1 (ps : List (Int × Int)) (i : Nat) (h : i < ps.length) : (flat ps).getD (2 * i + 1) 0 = (ps.getD i (0, 0)).2 := by
  induction ps generalizing i with
  | nil => simp at h
  | cons p ps ih =>
    cases i with
    | zero => rfl
    | succ i =>
      simp only [List.length_cons] at h
      rw [flat_cons, show 2 * (i + 1) + 1 = 2 * i + 1 + 1 + 1 from by omega, List.getD_cons_succ, List.getD_cons_succ, ih i (by omega), List.getD_cons_succ]
theorem flat_snoc (ps : List (Int × Int)) (a b : Int) : flat (ps ++ [(a, b)]) = flat ps ++ [a, b] := by rw [flat_app]; rfl
/-- a slice that shows pairs -/
def RowP (e : TypeId) (H : AH) (v : Value) (ps : List (Int × Int)) : Prop :=
  (v = .slice none 0 0 ∧ ps = []) ∨ ∃ o k vs ro, v = .slice (some ⟨o, k, none⟩) ps.length ps.length ∧ H[o]? = some (.cells vs e ro) ∧ k + 2 * ps.length ≤ vs.length ∧ (vs.drop k).take (2 * ps.length) = ints (flat ps)
/-- a slice of one's own that shows pairs, in an object that may be longer -/
def MineP (e : TypeId) (H0 H : AH) (v : Value) (ps : List (Int × Int)) : Prop :=
  (v = .slice none 0 0 ∧ ps = []) ∨ ∃ o zs, v = .slice (some ⟨o, 0, none⟩) ps.length ps.length ∧ H0.length ≤ o ∧ H[o]? = some (.cells (ints zs) e false) ∧ zs.take (2 * ps.length) = flat ps
theorem take_flat_len {zs : List Int} {ps : List (Int × Int)} (h : zs.take (2 * ps.length) = flat ps) : 2 * ps.length ≤ zs.length := by
  have := congrArg List.length h
  rw [flat_len, List.length_take] at this; omega
theorem MineP.row {e : TypeId} {H0 H : AH} {v : Value} {ps : List (Int × Int)} (h : MineP e H0 H v ps) : RowP e H v ps := by
  rcases h with h | ⟨o, zs, h1, h2, h3, h4⟩
  · exact .inl h
  · have hl := take_flat_len h4
    refine .inr ⟨o, 0, _, _, h1, h3, by rw [ints_len]; omega, ?_⟩
    rw [List.drop_zero]
    have : (ints zs).take (2 * ps.length) = ints (zs.take (2 * ps.length)) := by simp [ints, List.map_take]
    rw [this, h4]
theorem MineP.keep {e : TypeId} {H0 H H' : AH} {v : Value} {ps : List (Int × Int)} (h : MineP e H0 H v ps) (hh : ∀ y, H[rowO v]? = some y → H'[rowO v]? = some y) : MineP e H0 H' v ps := by
  rcases h with h | ⟨o, zs, h1, h2, h3, h4⟩
  · exact .inl h
  · subst h1; exact .inr ⟨o, zs, rfl, h2, hh _ h3, h4⟩
theorem MineP.pre {e : TypeId} {H0 H H' : AH} {v : Value} {ps : List (Int × Int)} (h : MineP e H0 H v ps) (hp : H <+: H') : MineP e H0 H' v ps := h.keep fun _ hy => pre_at hp hy
theorem MineP.base {e : TypeId} {H0 H1 H : AH} {v : Value} {ps : List (Int × Int)} (h : MineP e H1 H v ps) (hp : H0 <+: H1) : MineP e H0 H v ps := by
  rcases h with h | ⟨o, zs, h1, h2, h3, h4⟩
  · exact .inl h
  · exact .inr ⟨o, zs, h1, Nat.le_trans hp.length_le h2, h3, h4⟩
theorem MineP.new (e : TypeId) (H0 H : AH) (ps : List (Int × Int)) (hl : H0.length ≤ H.length) : MineP e H0 (H ++ [.cells (ints (flat ps)) e false]) (.slice (some ⟨H.length, 0, none⟩) ps.length ps.length) ps :=
  .inr ⟨H.length, _, rfl, hl, at_new .., by rw [List.take_of_length_le (by rw [flat_len]; omega)]⟩
theorem RowP.mono {e : TypeId} {H H' : AH} {v : Value} {ps : List (Int × Int)} (h : RowP e H v ps) (hh : ∀ x, H[rowO v]? = some x → H'[rowO v]? = some x) : RowP e H' v ps := by
  rcases h with h | ⟨o, k, vs, ro, h1, h2, h3⟩
  · exact .inl h
  · subst h1; exact .inr ⟨o, k, vs, ro, rfl, hh _ h2, h3⟩
theorem RowP.pre {e : TypeId} {H H' : AH} {v : Value} {ps : List (Int × Int)} (h : RowP e H v ps) (hp : H <+: H') : RowP e H' v ps := h.mono fun x hx => pre_at hp hx
theorem RowP.shape {e : TypeId} {H : AH} {v : Value} {ps : List (Int × Int)} (h : RowP e H v ps) : ∃ p, v = .slice p ps.length ps.length := by
  rcases h with ⟨h1, h2⟩ | ⟨o, k, vs, ro, h1, _⟩
  · subst h2; exact ⟨_, h1⟩
  · exact ⟨_, h1⟩
theorem RowP.tup {e : TypeId} {H : AH} {v : Value} {ps : List (Int × Int)} (h : RowP e H v ps) : isTup v = false := by
  obtain ⟨p, rfl⟩ := h.shape; rfl
theorem RowP.len {P : Program} {t e : TypeId} (hu : P.underlying t = some (.slice e)) {H : AH} {v : Value} {ps : List (Int × Int)} (h : RowP e H v ps) : lenA P t v = some (.int .i64 ps.length) := by
  obtain ⟨p, rfl⟩ := h.shape; exact ln_sl hu _ _ _
theorem ix_two {P : Program} {t e : TypeId} (hu : P.underlying t = some (.slice e)) (hc : P.cellsOf e = 2) (p : Addr) (n c : Nat) (k : IntKind) {i : Int} (h0 : 0 ≤ i) (h1 : i < (n : Int)) :
    indexAddrA P t (.slice (some p) n c) (.int k i) = some (.pointer (some ⟨p.block, p.off + 2 * i.toNat, none⟩)) := by
  simp only [indexAddrA, hu, hc]
  rw [if_pos ⟨h0, h1, by omega⟩, Nat.mul_comm]
theorem RowP.ix {P : Program} {t e : TypeId} (hu : P.underlying t = some (.slice e)) (hc : P.cellsOf e = 2) {H : AH} {v : Value} {ps : List (Int × Int)} (h : RowP e H v ps) (k : IntKind) {i : Int} (h0 : 0 ≤ i) (h1 : i < (ps.length : Int)) :
    indexAddrA P t v (.int k i) = some (.pointer (some ⟨rowO v, rowK v + 2 * i.toNat, none⟩)) := by
  rcases h with ⟨_, h2⟩ | ⟨o, k2, vs, ro, e1, _⟩
  · subst h2; simp at h1; omega
  · subst e1; exact ix_two hu hc _ _ _ _ h0 h1
theorem RowP.cell {e : TypeId} {H : AH} {v : Value} {ps : List (Int × Int)} (h : RowP e H v ps) {j : Nat} (hj : j < 2 * ps.length) : cellA H (rowO v) (rowK v + j) = some (.int .i64 ((flat ps).getD j 0)) := by
  rcases h with ⟨_, h2⟩ | ⟨o, k, vs, ro, e1, h2, h3, h4⟩
  · subst h2; simp at hj
  · subst e1
    rw [show cellA H (rowO _) _ = cellA H o (k + j) from rfl, cell_of h2]
    have := congrArg (·[j]?) h4
    simp only [List.getElem?_take, List.getElem?_drop, if_pos hj] at this
    rw [this, ints_at (flat ps) (by rw [flat_len]; exact hj)]
theorem RowP.cell0 {e : TypeId} {H : AH} {v : Value} {ps : List (Int × Int)} (h : RowP e H v ps) {i : Nat} (hi : i < ps.length) : cellA H (rowO v) (rowK v + 2 * i) = some (.int .i64 (ps.getD i (0, 0)).1) := by
  rw [h.cell (by omega), flat_at0 ps i hi]
theorem RowP.cell1 {e : TypeId} {H : AH} {v : Value} {ps : List (Int × Int)} (h : RowP e H v ps) {i : Nat} (hi : i < ps.length) : cellA H (rowO v) (rowK v + 2 * i + 1) = some (.int .i64 (ps.getD i (0, 0)).2) := by
  rw [Nat.add_assoc, h.cell (by omega), flat_at1 ps i hi]
theorem ld_two {P : Program} {t : TypeId} (h : isAggA P t = some true) (hc : P.cellsOf t = 2) {p : Addr} {H : AH} {a b : Value} (h0 : cellA H p.block p.off = some a) (h1 : cellA H p.block (p.off + 1) = some b) : loadA P t (.pointer (some p)) H = some (.agg (List.toArray [a, b])) := by
  unfold cellA at h0 h1
  simp only [loadA, h, hc]
  split at h0
  · rename_i vs ty ro ho
    simp only [ho] at h1 ⊢
    have l1 := (List.getElem?_eq_some_iff.1 h1).1
    rw [if_pos ⟨by omega, by omega⟩]
    have : (vs.drop p.off).take 2 = [a, b] := by
      apply List.ext_getElem?
      intro i
      rw [List.getElem?_take]
      rcases i with _ | _ | i
      · simp [h0]
      · simp [h1]
      · simp; intro; omega
    rw [this]
  · cases h0
theorem RowP.ld {P : Program} {t2 e : TypeId} (ha : isAggA P t2 = some true) (hc : P.cellsOf t2 = 2) {H : AH} {v : Value} {ps : List (Int × Int)} (h : RowP e H v ps) {i : Nat} (hi : i < ps.length) :
    loadA P t2 (.pointer (some ⟨rowO v, rowK v + 2 * i, none⟩)) H = some (.agg (List.toArray [.int .i64 (ps.getD i (0, 0)).1, .int .i64 (ps.getD i (0, 0)).2])) :=
  ld_two ha hc (h.cell0 hi) (h.cell1 hi)
theorem RowP.nil {e : TypeId} {H : AH} {v : Value} {ps : List (Int × Int)} (h : RowP e H v ps) : (v = .slice none 0 0 ∧ ps = []) ∨ rowO v < H.length := by
  rcases h with h | ⟨o, k, vs, ro, h1, h2, _⟩
  · exact .inl h
  · subst h1; exact .inr (at_lt h2)
theorem RowP.nilv {e : TypeId} {H : AH} {v : Value} {ps : List (Int × Int)} (h : RowP e H v ps) (hv : v = .slice none 0 0) : ps = [] := by
  rcases h with h | ⟨o, k, vs, ro, h1, _⟩
  · exact h.2
  · rw [h1] at hv; cases hv
theorem RowP.kept {e : TypeId} {H H' : AH} {x v : Value} {ps : List (Int × Int)} (hr : RowP e H x ps) (ha : Apart x v) (hk : Kept v H H') : RowP e H' x ps := by
  rcases ha with ha | ha | ha
  · exact hr.mono fun y hy => hk _ _ (.inl ha) hy
  · rcases hr with h | ⟨o, k, vs, ro, h1, _⟩
    · exact .inl h
    · rw [h1] at ha; cases ha
  · exact hr.mono fun y hy => hk _ _ (.inr ha) hy
/-- literals of pairs -/
theorem bsP0 {P : Program} {t e : TypeId} {z : Value} (hu : P.underlying t = some (.slice e)) (hc : P.cellsOf e = 2) (hz : zeroA P e = some z) (hp : plainCs z = true ∧ z.cells.size = 2) (H : AH) :
    buildSliceA P t 0 [] H = some (.slice (some ⟨H.length, 0, none⟩) 0 0, H ++ [.cells [] e false]) := by
  have hp' : plainCs z = true ∧ z.cells.size = P.cellsOf e := by rw [hc]; exact hp
  simp only [buildSliceA, hu, hc, hz]
  rw [if_pos (by simp), if_pos hp]
  simp [Instr.fill, zerosA]
theorem bsP1 {P : Program} {t e : TypeId} (hu : P.underlying t = some (.slice e)) (hc : P.cellsOf e = 2) (hz : zeroA P e = some (.agg #[.int .i64 0, .int .i64 0])) (H : AH) (a b : Value) :
    buildSliceA P t 1 [(0, .agg (List.toArray [a, b]))] H = some (.slice (some ⟨H.length, 0, none⟩) 1 1, H ++ [.cells [a, b] e false]) := by
  have hcl : (Value.agg (List.toArray [a, b])).cells = #[a, b] := rfl
  have hcz : (Value.agg #[.int .i64 0, .int .i64 0]).cells = #[.int .i64 0, .int .i64 0] := rfl
  simp only [buildSliceA, hu, hc, hz]
  rw [if_pos (by simp [isTup]), if_pos ⟨by simp [plainCs, hcz, plainC], by rw [hcz]; rfl⟩]
  simp [Instr.fill, zerosA, hcl, hcz, Array.range]
theorem MineP.nil0 {P : Program} {e : TypeId} (H0 H : AH) (hl : H0.length ≤ H.length) : MineP e H0 (H ++ [.cells [] e false]) (.slice (some ⟨H.length, 0, none⟩) 0 0) [] := MineP.new e H0 H [] hl
/-- appending one pair -/
theorem MineP.app1 {P : Program} {t e : TypeId} (hu : P.underlying t = some (.slice e)) (hc : P.cellsOf e = 2) (hby : P.bytesOf e ≤ 64) (hz : zeroOk P e = true) {H0 H : AH} {v : Value} {ps : List (Int × Int)} (h : MineP e H0 H v ps) (hp : H0 <+: H) (hb : ps.length ≤ 1099511627775) (a b : Int) :
    ∃ v' H', appendA P t t v (.slice (some ⟨H.length, 0, none⟩) 1 1) (H ++ [.cells [.int .i64 a, .int .i64 b] e false]) = some (v', H') ∧ MineP e H0 H' v' (ps ++ [(a, b)]) ∧ H0 <+: H' ∧ Kept v H H' ∧ H.length ≤ rowO v' ∧ isTup v' = false := by
  have bb : ∀ n : Nat, n ≤ 1099511627776 → n * P.bytesOf e ≤ 140737488355328 := fun n hn => by
    refine Nat.le_trans (Nat.mul_le_mul_left _ hby) ?_
    omega
  have hsc : sliceCells P e (.slice (some ⟨H.length, 0, none⟩) 1 1) (H ++ [.cells [.int .i64 a, .int .i64 b] e false]) = some (1, [.int .i64 a, .int .i64 b]) := by
    simp only [sliceCells, at_new, hc]; simp
  rcases h with ⟨h1, h2⟩ | ⟨o, zs, h1, h2, h3, h4⟩
  · subst h1; subst h2
    refine ⟨.slice (some ⟨H.length + 1, 0, none⟩) 1 1, H ++ [.cells [.int .i64 a, .int .i64 b] e false] ++ [.cells [.int .i64 a, .int .i64 b] e false], ?_, ?_, pre_app (pre_app hp _) _, fun o y _ hy => at_app (at_app hy _) _, by show H.length ≤ H.length + 1; omega, rfl⟩
    · simp only [appendA, hu, hc, hsc, hz]
      have := bb 1 (by omega)
      simp at this ⊢
      exact this
    · have hlen := hp.length_le
      refine .inr ⟨H.length + 1, [a, b], rfl, by omega, ?_, rfl⟩
      rw [List.getElem?_append_right (by simp)]; simp [ints]
  · subst h1
    have ho := at_lt h3
    have hl := take_flat_len h4
    have ho2 : (H ++ [AObj.cells [.int .i64 a, .int .i64 b] e false])[o]? = some (.cells (ints zs) e false) := at_app h3 _
    refine ⟨.slice (some ⟨H.length + 1, 0, none⟩) (ps.length + 1) (ps.length + 1), (H ++ [AObj.cells [.int .i64 a, .int .i64 b] e false]).set o AObj.dead ++ [AObj.cells (ints (flat (ps ++ [(a, b)]))) e false], ?_, ?_, pre_app (pre_set (pre_app hp _) (by omega) _) _, ?_, by show H.length ≤ H.length + 1; omega, rfl⟩
    · simp only [appendA, hu, hc, hsc, hz, ho2]
      rw [if_pos (by simp), if_neg (by simp), if_pos ⟨trivial, by rw [ints_len]; omega, bb _ (by omega), by omega, trivial⟩]
      have : ((ints zs).drop 0).take (ps.length * 2) ++ [.int .i64 a, .int .i64 b] = ints (flat (ps ++ [(a, b)])) := by
        rw [flat_snoc, ints_app, ← h4, List.drop_zero, Nat.mul_comm]
        simp [ints, List.map_take]
      rw [this]
      simp
    · have hlen := hp.length_le
      refine .inr ⟨H.length + 1, flat (ps ++ [(a, b)]), by simp, by omega, ?_, ?_⟩
      · rw [List.getElem?_append_right (by simp)]; simp
      · rw [List.take_of_length_le (by rw [flat_len]; omega)]
    · intro o' y hne hy
      refine at_old (at_app hy _) ?_ _
      rcases hne with hne | hne
      · cases hne
      · exact fun e => hne e.symm
/-- a new row of zero pairs -/
theorem mk_prs {P : Program} {t e : TypeId} (hu : P.underlying t = some (.slice e)) (hc : P.cellsOf e = 2) (hby : P.bytesOf e ≤ 64) (hz : zeroA P e = some (.agg #[.int .i64 0, .int .i64 0])) {n : Int} (h0 : 0 ≤ n) (h1 : n ≤ 1099511627776) (H : AH) :
    makeSliceA P t (.int .i64 n) (.int .i64 n) H = some (.slice (some ⟨H.length, 0, none⟩) n.toNat n.toNat, H ++ [.cells (ints (flat (List.replicate n.toNat (0, 0)))) e false]) := by
  have hb2 : n.toNat * P.bytesOf e ≤ 281474976710656 := by
    refine Nat.le_trans (Nat.mul_le_mul_left _ hby) ?_
    omega
  have hzc : (Value.agg #[.int .i64 0, .int .i64 0]).cells = #[.int .i64 0, .int .i64 0] := rfl
  have hrep : ∀ m : Nat, flat (List.replicate m (0, 0)) = List.replicate (m * 2) 0 := by
    intro m
    induction m with
    | zero => rfl
    | succ m ih => rw [List.replicate_succ, flat_cons, ih, show (m + 1) * 2 = m * 2 + 1 + 1 from by omega, List.replicate_succ, List.replicate_succ]
  have hzs : zerosA (.agg #[.int .i64 0, .int .i64 0]) (n.toNat * 2) = ints (flat (List.replicate n.toNat (0, 0))) := by
    rw [hrep]
    unfold zerosA ints
    rw [hzc, List.map_replicate]
    apply List.ext_getElem
    · simp
    · intro i h1 h2
      have : i % 2 = 0 ∨ i % 2 = 1 := by omega
      rcases this with h | h <;> simp [h]
  simp only [makeSliceA, hu, hc, hz]
  rw [if_pos ⟨trivial, h0, by omega, hb2, by omega⟩, if_pos ⟨by simp [plainCs, hzc, plainC], by simp [hzc]⟩, hzs]
/-- a store of a pair -/
theorem st_prs {P : Program} {t t' : TypeId} (hc : P.cellsOf t = 2) {H : AH} {o i : Nat} {ps : List (Int × Int)} {a b : Int} (ho : H[o]? = some (.cells (ints (flat ps)) t' false)) (hi : i < ps.length) :
    storeA P t (.pointer (some ⟨o, 2 * i, none⟩)) (.agg (List.toArray [.int .i64 a, .int .i64 b])) H = some (H.set o (.cells (ints (flat (ps.set i (a, b)))) t' false)) := by
  simp only [storeA, ho]
  have hcl : (Value.agg (List.toArray [.int .i64 a, .int .i64 b])).cells.toList = [.int .i64 a, .int .i64 b] := rfl
  rw [hcl, if_pos ⟨rfl, by rw [hc]; rfl, by omega, by rw [ints_len, flat_len]; simp; omega⟩]
  have : putAt (ints (flat ps)) (2 * i) [.int .i64 a, .int .i64 b] = ints (flat (ps.set i (a, b))) := by
    unfold putAt
    rw [List.set_eq_take_append_cons_drop, if_pos hi, flat_app, flat_cons, ints_app, ints_cons, ints_cons]
    have e1 : (ints (flat ps)).take (2 * i) = ints (flat (ps.take i)) := by rw [← flat_take]; simp [ints, List.map_take]
    have e2 : (ints (flat ps)).drop (2 * i + [Value.int .i64 a, .int .i64 b].length) = ints (flat (ps.drop (i + 1))) := by
      rw [← flat_drop, show 2 * i + [Value.int .i64 a, .int .i64 b].length = 2 * (i + 1) from by simp; omega]; simp [ints, List.map_drop]
    rw [e1, e2]
    simp
  rw [this]
def RowPB (b : Nat) (e : TypeId) (H : AH) (v : Value) (ps : List (Int × Int)) : Prop := RowP e H v ps ∧ (v = .slice none 0 0 ∨ rowO v < b)
def InP (lo hi : Nat) (e : TypeId) (H : AH) (v : Value) (ps : List (Int × Int)) : Prop :=
  (v = .slice none 0 0 ∧ ps = []) ∨ ∃ o zs, v = .slice (some ⟨o, 0, none⟩) ps.length ps.length ∧ lo ≤ o ∧ o < hi ∧ H[o]? = some (.cells (ints zs) e false) ∧ zs.take (2 * ps.length) = flat ps
theorem RowP.b {e : TypeId} {H : AH} {v : Value} {ps : List (Int × Int)} (h : RowP e H v ps) : RowPB H.length e H v ps := ⟨h, h.nil.imp (fun g => g.1) id⟩
theorem RowPB.pre {b : Nat} {e : TypeId} {H H' : AH} {v : Value} {ps : List (Int × Int)} (h : RowPB b e H v ps) (hp : H <+: H') : RowPB b e H' v ps := ⟨h.1.pre hp, h.2⟩
theorem RowPB.keep {b lo hi : Nat} {e : TypeId} {H H' : AH} {v : Value} {ps : List (Int × Int)} (h : RowPB b e H v ps) (he : ElseR lo hi H H') (hl : b ≤ lo) : RowPB b e H' v ps := by
  refine ⟨?_, h.2⟩
  rcases h.2 with g | g
  · exact .inl ⟨g, h.1.nilv g⟩
  · exact h.1.mono fun y hy => he.2 _ _ (.inl (by omega)) hy
theorem InP.row {lo hi : Nat} {e : TypeId} {H : AH} {v : Value} {ps : List (Int × Int)} (h : InP lo hi e H v ps) : RowPB hi e H v ps := by
  rcases h with h | ⟨o, zs, h1, h2, h3, h4, h5⟩
  · exact ⟨.inl h, .inl h.1⟩
  · have : MineP e [] H v ps := .inr ⟨o, zs, h1, Nat.zero_le _, h4, h5⟩
    exact ⟨this.row, .inr (by rw [h1]; exact h3)⟩
theorem InP.of {e : TypeId} {H0 H : AH} {v : Value} {ps : List (Int × Int)} (h : MineP e H0 H v ps) : InP H0.length H.length e H v ps := by
  rcases h with h | ⟨o, zs, h1, h2, h3, h4⟩
  · exact .inl h
  · exact .inr ⟨o, zs, h1, h2, at_lt h3, h3, h4⟩
theorem InP.wide {lo hi lo' hi' : Nat} {e : TypeId} {H : AH} {v : Value} {ps : List (Int × Int)} (h : InP lo hi e H v ps) (h1 : lo' ≤ lo) (h2 : hi ≤ hi') : InP lo' hi' e H v ps := by
  rcases h with h | ⟨o, zs, g1, g2, g3, g4, g5⟩
  · exact .inl h
  · exact .inr ⟨o, zs, g1, by omega, by omega, g4, g5⟩
theorem InP.move {lo hi : Nat} {e : TypeId} {H H' : AH} {v : Value} {ps : List (Int × Int)} (h : InP lo hi e H v ps) (hh : ∀ y, v ≠ .slice none 0 0 → H[rowO v]? = some y → H'[rowO v]? = some y) : InP lo hi e H' v ps := by
  rcases h with h | ⟨o, zs, g1, g2, g3, g4, g5⟩
  · exact .inl h
  · subst g1; exact .inr ⟨o, zs, rfl, g2, g3, hh _ (by intro e; cases e) g4, g5⟩
theorem InP.pre {lo hi : Nat} {e : TypeId} {H H' : AH} {v : Value} {ps : List (Int × Int)} (h : InP lo hi e H v ps) (hp : H <+: H') : InP lo hi e H' v ps := h.move fun _ _ hy => pre_at hp hy
theorem InP.keep {lo hi lo' hi' : Nat} {e : TypeId} {H H' : AH} {v : Value} {ps : List (Int × Int)} (h : InP lo hi e H v ps) (he : ElseR lo' hi' H H') (hl : hi ≤ lo' ∨ hi' ≤ lo) : InP lo hi e H' v ps := by
  rcases h with h | ⟨o, zs, g1, g2, g3, g4, g5⟩
  · exact .inl h
  · exact .inr ⟨o, zs, g1, g2, g3, he.2 _ _ (by omega) g4, g5⟩
theorem InP.at_ {lo hi : Nat} {e : TypeId} {H : AH} {v : Value} {ps : List (Int × Int)} (h : InP lo hi e H v ps) : v = .slice none 0 0 ∨ (lo ≤ rowO v ∧ rowO v < hi) := by
  rcases h with h | ⟨o, zs, g1, g2, g3, g4, g5⟩
  · exact .inl h.1
  · subst g1; exact .inr ⟨g2, g3⟩
/-- pairs that count on -/
def runP (k : Int) : Nat → List (Int × Int)
  | 0 => []
  | n + 1 => runP k n ++ [(k + 2 * n, k + 2 * n + 1)]
theorem runP_len (k : Int) (n : Nat) : (runP k n).length = n := by
  induction n with
  | zero => rfl
  | succ n ih => simp [runP, ih]
theorem runP_flat (k : Int) (n : Nat) : flat (runP k n) = runI k (2 * n) := by
  induction n with
  | zero => rfl
  | succ n ih =>
    rw [runP, flat_snoc, ih, show 2 * (n + 1) = 2 * n + 1 + 1 from by omega, runI, runI, List.append_assoc]
    congr 1
    simp only [List.cons_append, List.nil_append, List.cons.injEq, and_true]
    omega
end Go.Proofs.Ytlcipphiflcaiaa.Ai
namespace Go.Proofs.Ytlcipphiflcaiaa.Ai
open Go Go.RowKit
set_option linter.unusedVariables false
/-- nothing that lay has turned: the same heap -/
theorem HRel.below {P : Program} {μ : Mu} {H : AH} {w w' : World} (h : HRel P μ H w) (hb : Below w.heap.size w w') : HRel P μ H w' :=
  h.same hb.size fun o x L ho hl hL => hb.block _ (h.live_lt ho hl hL)
end Go.Proofs.Ytlcipphiflcaiaa.Ai
namespace Go.Proofs.Ytlcipphiflcaiaa.Ai
open Go Go.RowKit Go.ChangeShapes
set_option linter.unusedVariables false
set_option linter.unusedSimpArgs false
def intAt (w : World) (a : Addr) : Int := match w.cell? a with | some (.int _ n) => n | _ => 0
theorem intAt_of {w : World} {a : Addr} {k : IntKind} {n : Int} (h : w.cell? a = some (.int k n)) : intAt w a = n := by simp [intAt, h]
def IsRowP (w : World) (a : Option Addr) (len cap : Nat) (zs : List Int) : Prop :=
  (a = none ∧ len = 0 ∧ cap = 0 ∧ zs = []) ∨
  ∃ x, a = some x ∧ len ≤ cap ∧ cap ≤ maxLen ∧ zs.length = 2 * cap ∧ (∀ i, i < zs.length → w.cell? (x.add i) = some (.int .i64 (zs.getD i 0))) ∧ ∀ n ∈ zs, (Lit.int .i64 n).wf = true
section
variable {E : Type} {enc : TypeId × Value → E} {P : Program} {W : World} {base : Nat} {held : Bool}
theorem trod_a2 {e k : TypeId} {fuel : Nat} {cs : List Value} {sp : Nat → Bool} {y : DataW E × List MemPlace} (hu : P.underlying e = some (.array 2 k)) (he : P.underlying k = some (.int .i64)) (hc : P.cellsOf e = 2) (hk : P.cellsOf k = 1)
    (h : DataW.trod enc P W base sp held fuel e cs = some y) : ∃ a b : Int, cs = [.int .i64 a, .int .i64 b] ∧ (Lit.int .i64 a).wf = true ∧ (Lit.int .i64 b).wf = true := by
  cases fuel with
  | zero => simp [DataW.trod] at h
  | succ n =>
    rw [DataW.trod_step] at h
    unfold DataW.trodStep at h
    simp only [hu] at h
    have hl : cs.length = 2 := by
      by_cases hl : cs.length = P.cellsOf e
      · rw [hl, hc]
      · rw [if_neg hl] at h; cases h
    match cs, hl with
    | [c0, c1], _ =>
      rw [if_pos (by rw [hc]; rfl)] at h
      simp only [Option.map_eq_some_iff] at h
      obtain ⟨xs, hx, e1⟩ := h
      rw [show List.range 2 = [0, 1] from rfl, List.mapM_cons, List.mapM_cons, List.mapM_nil] at hx
      simp only [bind, Option.bind_eq_some_iff, pure, Option.some.injEq, hk] at hx
      obtain ⟨y0, h0, _, ⟨y1, h1, _, rfl, rfl⟩, rfl⟩ := hx
      obtain ⟨a, ea, rfl, wa⟩ := DataW.trod_int he h0
      obtain ⟨b, eb, rfl, wb⟩ := DataW.trod_int he h1
      simp at ea eb
      subst ea; subst eb
      exact ⟨a, b, rfl, wa, wb⟩
theorem open_pairs {t e k : TypeId} {fuel : Nat} {a : Option Addr} {len cap : Nat} {y : DataW E × List MemPlace} (ht : P.underlying t = some (.slice e)) (hu : P.underlying e = some (.array 2 k)) (he : P.underlying k = some (.int .i64)) (hc : P.cellsOf e = 2) (hk : P.cellsOf k = 1)
    (h : DataW.trod enc P W base (fun _ => true) held fuel t [.slice a len cap] = some y) : ∃ zs, IsRowP W a len cap zs := by
  rcases DataW.trod_slice ht h with ⟨h0, _⟩ | ⟨x, len', cap', elems, rest, n, _, hcs, _, hb, hl, hm, hlen, hel, hsp, _⟩
  · simp at h0
    obtain ⟨rfl, rfl, rfl⟩ := h0
    exact ⟨[], .inl ⟨rfl, rfl, rfl, rfl⟩⟩
  · simp at hcs
    obtain ⟨rfl, rfl, rfl⟩ := hcs
    obtain ⟨hrl, hr⟩ := hsp rfl
    have each : ∀ i, i < cap → ∃ p q : Int, W.cell? (x.add (2 * i)) = some (.int .i64 p) ∧ W.cell? (x.add (2 * i + 1)) = some (.int .i64 q) ∧ (Lit.int .i64 p).wf = true ∧ (Lit.int .i64 q).wf = true := by
      intro i hi
      have hb' : ∃ y, (W.cells? base (x.add (i * P.cellsOf e)) (P.cellsOf e)).bind (DataW.trod enc P W base (fun _ => true) held n e) = some y := by
        by_cases hi' : i < len
        · exact ⟨elems[i]'(by omega), by rw [hel i hi', List.getElem?_eq_getElem]⟩
        · have := hr (i - len) (by omega)
          rw [show len + (i - len) = i by omega] at this
          exact ⟨rest[i - len]'(by omega), by rw [this, List.getElem?_eq_getElem]⟩
      obtain ⟨y, hy⟩ := hb'
      rw [hc, Option.bind_eq_some_iff] at hy
      obtain ⟨cs, hcs, hy⟩ := hy
      obtain ⟨p, q, rfl, wp, wq⟩ := trod_a2 hu he hc hk hy
      obtain ⟨_, _, hcell⟩ := World.cells?_some hcs
      have c0 := hcell 0 (by omega)
      have c1 := hcell 1 (by omega)
      refine ⟨p, q, ?_, ?_, wp, wq⟩
      · rw [Nat.mul_comm]; simpa [Addr.add] using c0
      · have e1 : (x.add (i * 2)).add 1 = x.add (2 * i + 1) := by
          unfold Addr.add
          by_cases h0 : i * 2 = 0
          · rw [if_pos h0, if_neg (by omega), if_neg (by omega)]
            have : 2 * i = 0 := by omega
            rw [this]
          · rw [if_neg h0, if_neg (by omega), if_neg (by omega)]
            simp; omega
        rw [e1] at c1; simpa using c1
    have full : ∀ j, j < 2 * cap → ∃ p : Int, W.cell? (x.add j) = some (.int .i64 p) ∧ (Lit.int .i64 p).wf = true := by
      intro j hj
      obtain ⟨p, q, h1, h2, h3, h4⟩ := each (j / 2) (by omega)
      have : j = 2 * (j / 2) ∨ j = 2 * (j / 2) + 1 := by omega
      rcases this with e | e
      · rw [← e] at h1; exact ⟨p, h1, h3⟩
      · rw [← e] at h2; exact ⟨q, h2, h4⟩
    refine ⟨(List.range (2 * cap)).map fun j => intAt W (x.add j), .inr ⟨x, rfl, hl, hm, by simp, ?_, ?_⟩⟩
    · intro i hi
      simp only [List.length_map, List.length_range] at hi
      obtain ⟨p, h1, _⟩ := full i hi
      rw [h1, List.getD_eq_getElem?_getD, List.getElem?_map, List.getElem?_range hi]
      simp [intAt_of h1]
    · intro z hz
      simp only [List.mem_map, List.mem_range] at hz
      obtain ⟨j, hj, rfl⟩ := hz
      obtain ⟨p, h1, h2⟩ := full j hj
      rw [intAt_of h1]; exact h2
theorem open_graph {g t it : TypeId} {fuel : Nat} {c0 c1 : Value} {fs : Array Field} {n0 n1 : String} {y : DataW E × List MemPlace} {f0 f1 : Field} (hg : P.underlying g = some (.struct fs)) (hfs : fs.toList = [f0, f1]) (ho0 : f0.offset = 0) (ho1 : f1.offset = 1) (ht0 : f0.type = it) (ht1 : f1.type = t) (hi : P.underlying it = some (.int .i64)) (hci : P.cellsOf it = 1) (hct : P.cellsOf t = 1)
    (h : DataW.trod enc P W base (fun _ => true) held fuel g [c0, c1] = some y) : (∃ z : Int, c0 = .int .i64 z ∧ (Lit.int .i64 z).wf = true) ∧ ∃ fuel' y', DataW.trod enc P W base (fun _ => true) held fuel' t [c1] = some y' := by
  cases fuel with
  | zero => simp [DataW.trod] at h
  | succ n =>
    rw [DataW.trod_step] at h
    unfold DataW.trodStep at h
    simp only [hg] at h
    by_cases hl : [c0, c1].length = P.cellsOf g
    · rw [if_pos hl, hfs] at h
      simp only [Option.map_eq_some_iff, List.mapM_cons, List.mapM_nil, bind, Option.bind_eq_some_iff, pure, Option.some.injEq, ho0, ho1, ht0, ht1, hci, hct, List.drop_zero, List.drop_succ_cons, List.take_succ_cons, List.take_zero] at h
      obtain ⟨xs, ⟨y0, h0, _, ⟨y1, h1, _, rfl, rfl⟩, rfl⟩, _⟩ := h
      obtain ⟨a, ea, rfl, wa⟩ := DataW.trod_int hi h0
      simp at ea
      exact ⟨⟨a, ea, wa⟩, n, y1, h1⟩
    · rw [if_neg hl] at h; cases h
end
theorem unflat : ∀ (n : Nat) (zs : List Int), zs.length = 2 * n → ∃ ps : List (Int × Int), ps.length = n ∧ flat ps = zs
  | 0, zs, h => ⟨[], rfl, (List.eq_nil_of_length_eq_zero (by omega)).symm⟩
  | n + 1, zs, h => by
    match zs, h with
    | a :: b :: zs, h =>
      obtain ⟨ps, h1, h2⟩ := unflat n zs (by simp only [List.length_cons] at h; omega)
      exact ⟨(a, b) :: ps, by simp [h1], by rw [flat_cons, h2]⟩
    | [], h => simp at h
    | [_], h => simp at h; omega
theorem Args.addPairs {P : Program} {e : TypeId} {W : World} {a : Option Addr} {len cap : Nat} {zs : List Int} {μ : Mu} {H : AH} (h : Args P μ H W) (hc : P.cellsOf e = 2) (hrow : IsRowP W a len cap zs) :
    ∃ (μ' : Mu) (obj : AObj) (va : Value) (ps : List (Int × Int)), Args P μ' (H ++ [obj]) W ∧ μ.Le μ' ∧ CRel0 μ' va (.slice a len cap) ∧ RowP e (H ++ [obj]) va ps ∧ ((∀ s ∈ ps, I64 s.1 ∧ I64 s.2) ∧ (ps.length : Int) ≤ 9223372036854775807) ∧ ∃ pa, va = .slice pa len len := by
  have ph : ∀ obj : AObj, obj.wr = false → Args P μ (H ++ [obj]) W := fun obj ho => ⟨h.rel.phantom obj, fun o y hy => by
    rw [getElem?_snoc] at hy
    split at hy
    · cases hy; exact ho
    · exact h.ro o y hy⟩
  rcases hrow with ⟨rfl, rfl, rfl, rfl⟩ | ⟨x, rfl, hl, hm, hz, hcell, hwf⟩
  · exact ⟨μ, .dead, .slice none 0 0, [], ph _ rfl, Mu.Le.refl _, ⟨rfl, rfl, rfl⟩, .inl ⟨rfl, rfl⟩, ⟨by simp, by simp⟩, _, rfl⟩
  · obtain ⟨ps, hpl, hpf⟩ := unflat cap zs hz
    have hwf2 : ∀ s ∈ ps.take len, I64 s.1 ∧ I64 s.2 := by
      intro s hs
      have hs' := List.mem_of_mem_take hs
      have m1 : s.1 ∈ zs := by rw [← hpf]; simp only [flat, List.mem_flatMap]; exact ⟨s, hs', by simp⟩
      have m2 : s.2 ∈ zs := by rw [← hpf]; simp only [flat, List.mem_flatMap]; exact ⟨s, hs', by simp⟩
      have w1 := hwf _ m1
      have w2 := hwf _ m2
      simp [Lit.wf, IntKind.min, IntKind.max, IntKind.signed, IntKind.bits] at w1 w2
      exact ⟨⟨by omega, by omega⟩, ⟨by omega, by omega⟩⟩
    have htl : (ps.take len).length = len := by simp; omega
    by_cases hcap : cap = 0
    · subst hcap
      have hl0 : len = 0 := by omega
      subst hl0
      have hps : ps = [] := List.eq_nil_of_length_eq_zero hpl
      subst hps
      refine ⟨μ, .cells [] e true, .slice (some ⟨H.length, 0, none⟩) 0 0, [], ph _ rfl, Mu.Le.refl _, ⟨rfl, rfl, x, 0, rfl, Nat.le_refl _, .inl rfl⟩, .inr ⟨H.length, 0, [], true, rfl, at_new .., by simp, rfl⟩, ⟨by simp, by simp⟩, _, rfl⟩
    · have h0 := hcell 0 (by omega)
      have hx0 : x.add 0 = x := by simp [Addr.add]
      rw [hx0] at h0
      have hsp : x.spot = none ∧ x.block < W.heap.size := by
        unfold World.cell? at h0
        split at h0
        · rename_i c t' r' hb
          split at h0
          · cases h0
          · rename_i hs
            refine ⟨by cases hq : x.spot <;> simp_all, (Array.getElem?_eq_some_iff.1 hb).1⟩
        · cases h0
      have hx : ∀ i, x.add i = ⟨x.block, x.off + i, none⟩ := by
        intro i
        obtain ⟨h1, _⟩ := hsp
        cases x; simp_all [Addr.add]
      have hfree : μ H.length = none := h.rel.dom _ (Nat.le_refl _)
      have hle := Mu.le_put (L := ⟨x.block, x.off, 2 * cap, 2⟩) hfree
      have hro : ∀ (o : Nat) (y : AObj), (H ++ [AObj.cells (ints zs) e true])[o]? = some y → y.wr = false := by
        intro o y hy
        rw [getElem?_snoc] at hy
        split at hy
        · cases hy; rfl
        · exact h.ro o y hy
      refine ⟨μ.put H.length ⟨x.block, x.off, 2 * cap, 2⟩, .cells (ints zs) e true, .slice (some ⟨H.length, 0, none⟩) len len, ps.take len, ⟨?_, hro⟩, hle, ?_, ?_, ⟨hwf2, by rw [htl]; unfold maxLen at hm; omega⟩, _, rfl⟩
      · refine ⟨?_, ?_, ?_, ?_⟩
        · intro o ho
          simp only [List.length_append, List.length_cons, List.length_nil] at ho
          rw [Mu.put_other _ _ _ (by omega)]; exact h.rel.dom o (by omega)
        · intro o vs t' ro L ho hL
          rw [getElem?_snoc] at ho
          split at ho
          · rename_i eo
            subst eo
            simp only [Option.some.injEq, AObj.cells.injEq] at ho
            obtain ⟨rfl, rfl, rfl⟩ := ho
            rw [Mu.put_same] at hL
            cases hL
            refine ⟨hsp.2, by simp, hc.symm, by rw [ints_len]; show zs.length ≤ 2 * cap; omega, ?_, fun h => by cases h⟩
            intro i v hv
            have hi : i < zs.length := by have := (List.getElem?_eq_some_iff.1 hv).1; rwa [ints_len] at this
            rw [ints_at zs hi] at hv
            cases hv
            refine ⟨_, ?_, rfl⟩
            rw [← hx]; exact hcell i hi
          · rename_i eo
            rw [Mu.put_other _ _ _ eo] at hL
            obtain ⟨h2, h3, h4, h5, h6, h7⟩ := h.rel.cells_ o vs t' ro L ho hL
            refine ⟨h2, h3, h4, h5, ?_, h7⟩
            intro i v hv
            obtain ⟨cv, g1, g2⟩ := h6 i v hv
            exact ⟨cv, g1, g2.mono hle⟩
        · intro o es L ho hL
          rw [getElem?_snoc] at ho
          split at ho
          · cases ho
          · have := h.ro o _ ho
            cases this
        · intro o o' y y' L L' hne ho ho' hw
          have := hro o y ho
          rw [this] at hw; cases hw
      · refine ⟨rfl, rfl, x, cap, rfl, hl, .inr ⟨⟨x.block, x.off, 2 * cap, 2⟩, Mu.put_same _ _ _, ?_, by show 0 + cap * 2 ≤ 2 * cap; omega⟩⟩
        have := hx 0
        rw [hx0] at this
        exact this
      · refine .inr ⟨H.length, 0, ints zs, true, by rw [htl], at_new .., by rw [ints_len, htl]; omega, ?_⟩
        rw [htl, List.drop_zero, ← flat_take, hpf]
        simp [ints, List.map_take]
end Go.Proofs.Ytlcipphiflcaiaa.Ai
