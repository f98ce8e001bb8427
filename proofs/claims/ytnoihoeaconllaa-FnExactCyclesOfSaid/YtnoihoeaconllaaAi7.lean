/- Code over an abstract heap: what it must come to (wpA), computed from the code; and that the model's code comes to it. Calls by their contracts (ACalls). No condition. -/
import Derived.Test.YtnoihoeaconllaaAi6
namespace Go.Proofs.Ytnoihoeaconllaa.Ai
open Go Go.RowKit
set_option linter.unusedVariables false
set_option linter.unusedSimpArgs false

/-- A call of function f over an abstract heap returns, and what it returns and the heap behind it are as R says. -/
def ACalls (P : Program) (f : FuncId) (args : List Value) (H : AH) (R : Value → AH → Prop) : Prop :=
  (∃ fn, P.funcs[f]? = some fn ∧ fn.body.isNone = false ∧ (fn.name == "runtime.NumGoroutine") = false) ∧
  ∀ (μ : Mu) (w : World) (cargs : Array Value), HRel P μ H w → All2 (TRel μ) args cargs.toList →
    Calls P f cargs w fun e w' => ∃ μ' r H' cr, e = .returned cr ∧ TRel μ' r cr ∧ HRel P μ' H' w' ∧ Evo μ H w μ' H' w' ∧ R r H'

theorem ACalls.mono {P : Program} {f : FuncId} {args : List Value} {H : AH} {R R' : Value → AH → Prop} (h : ACalls P f args H R) (hr : ∀ r H', R r H' → R' r H') : ACalls P f args H R' :=
  ⟨h.1, fun μ w cargs hH ha => (h.2 μ w cargs hH ha).mono fun e w' ⟨μ', r, H', cr, h1, h2, h3, h4, h5⟩ => ⟨μ', r, H', cr, h1, h2, h3, h4, hr r H' h5⟩⟩

/-- One operation, a call too. -/
def stepW (P : Program) (op : Op) (s : Sl) (H : AH) (K : Value → AH → Prop) : Prop :=
  match op with
  | .call { callee := .value f, args := xs, .. } =>
    match evalA s f with
    | .func (.func g) _ caps => ACalls P g (evalsA s xs ++ caps.toList) H K
    | _ => False
  | op =>
    match stepA P op s H with
    | some (v, H') => K v H'
    | none => False

/-- what a guard's operation has left -/
def guardVal (ops : List Oper) (j : Nat) (s : Sl) : Option Bool :=
  match (ops[j]?).bind (·.dst) with
  | some d => match s d with | .bool b => some b | _ => none
  | none => none

/-- what the model's code must come to -/
def Post (P : Program) (N : Nat) (μ : Mu) (H : AH) (w : World) (Q : Exit → Sl → AH → Prop) : Exit → Act → World → Prop := fun e a' w' =>
  ∃ μ' s' H', HRel P μ' H' w' ∧ SRel N μ' s' a' ∧ Evo μ H w μ' H' w' ∧ Q e s' H'

theorem Post.trans {P : Program} {N : Nat} {μ μ' : Mu} {H H' : AH} {w w' : World} {Q : Exit → Sl → AH → Prop} (h : Evo μ H w μ' H' w') {e : Exit} {a : Act} {w2 : World} (hp : Post P N μ' H' w' Q e a w2) : Post P N μ H w Q e a w2 := by
  obtain ⟨μ2, s2, H2, h1, h2, h3, h4⟩ := hp
  exact ⟨μ2, s2, H2, h1, h2, h.trans h3, h4⟩

def AWP (P : Program) (N : Nat) (c : Code) (Q : Exit → Sl → AH → Prop) (s : Sl) (H : AH) : Prop :=
  ∀ (μ : Mu) (a : Act) (w : World), HRel P μ H w → SRel N μ s a → c.wp P (Post P N μ H w Q) a w

theorem trel_bool {μ : Mu} {v : Value} {b : Bool} (h : TRel μ v (.bool b)) : v = .bool b := by
  cases v with
  | bool c => have : Value.bool b = .bool c := h; rw [this]
  | int k n => have : Value.bool b = .int k n := h; cases this
  | string s => have : Value.bool b = .string s := h; cases this
  | pointer p =>
    cases p with
    | none => have : Value.bool b = .pointer none := h; cases this
    | some p => obtain ⟨_, L, _, e⟩ := h; cases e
  | slice p n c =>
    cases p with
    | none => obtain ⟨_, _, e⟩ := h; cases e
    | some p => obtain ⟨_, _, a, m, e, _⟩ := h; cases e
  | map r =>
    cases r with
    | none => have : Value.bool b = .map none := h; cases this
    | some r => obtain ⟨L, _, e⟩ := h; cases e
  | nilFunc => have : Value.bool b = .nilFunc := h; cases this
  | nilIface => have : Value.bool b = .nilIface := h; cases this
  | func f fs cs => obtain ⟨_, ds, e, _⟩ := h; cases e
  | agg cs => obtain ⟨ds, e, _⟩ := h; cases e
  | tuple cs => obtain ⟨ds, e, _⟩ := h; cases e
  | float _ _ => exact h.elim
  | complex _ _ _ => exact h.elim
  | chan _ => exact h.elim
  | iface _ _ => exact h.elim

theorem yielded_eq {N : Nat} {μ : Mu} {s : Sl} {a : Act} (hs : SRel N μ s a) (ops : Array Oper) (j : Nat) : yielded ops a.tmps j = guardVal ops.toList j s := by
  unfold yielded guardVal
  rw [Array.getElem?_toList]
  cases hd : (ops[j]?).bind (·.dst) with
  | none => rfl
  | some d =>
    have h := hs.at_ d
    simp only [Option.bind_some]
    rw [Array.getD_eq_getD_getElem?] at h
    cases ht : a.tmps[d]? with
    | none =>
      rw [ht] at h
      simp only [Option.getD_none] at h
      cases hv : s d <;> first | rfl | (rw [hv] at h; have : undef = .bool _ := h; cases this)
    | some v =>
      rw [ht] at h
      simp only [Option.getD_some] at h
      cases v with
      | bool b => rw [trel_bool h]
      | _ =>
        cases hv : s d <;> first | rfl | (rw [hv] at h; cases (show _ = Value.bool _ from h))

theorem all2_toArray {α β : Type} {R : α → β → Prop} {xs xs' : List α} {ys ys' : List β} (h : All2 R xs ys) (h' : All2 R xs' ys') : All2 R (xs ++ xs') (ys ++ ys') := all2_append h h'

/-- one operation, in the model -/
theorem stepW_sound {P : Program} {N : Nat} {μ : Mu} {H : AH} {w : World} (hH : HRel P μ H w) {s : Sl} {a : Act} (hs : SRel N μ s a) (o : Oper) (hok : opOK o.op = true) (hd : ∀ i, o.dst = some i → i < N)
    {K : Value → AH → Prop} {next : Act → World → Prop} {Q : Exit → Act → World → Prop} (h : stepW P o.op s H K)
    (hn : ∀ v H' μ' cv w', K v H' → TRel μ' v cv → HRel P μ' H' w' → Evo μ H w μ' H' w' → next (a.put o.dst cv) w') : o.wp P a w next Q := by
  have plain : (∃ v H', stepA P o.op s H = some (v, H') ∧ K v H') → o.wp P a w next Q := by
    rintro ⟨v, H', h1, h2⟩
    obtain ⟨μ', cv, w', g1, g2, g3, g4⟩ := stepA_ok hH hs o hok h1
    unfold Oper.wp
    rcases g1 with g1 | ⟨g1, rfl⟩
    · rw [g1]; exact hn v H' μ' cv w' h2 g2 g3 g4
    · rw [g1]; exact hn v H' μ' undef w' h2 g2 g3 g4
  have other : (match stepA P o.op s H with | some (v, H') => K v H' | none => False) → o.wp P a w next Q := by
    intro h
    split at h
    · rename_i v H' e; exact plain ⟨v, H', e, h⟩
    · exact h.elim
  obtain ⟨dst, op, type, pos, after, guard⟩ := o
  cases op with
  | call c =>
    obtain ⟨callee, xs, ts⟩ := c
    cases callee with
    | value f =>
      simp only [stepW] at h
      simp only [opOK, Bool.and_eq_true] at hok
      split at h
      · rename_i g fs caps e
        have hf := hs.eval hok.2
        rw [e] at hf
        obtain ⟨rfl, ds, e2, hcaps⟩ := hf
        obtain ⟨⟨fn, f1, f2, f3⟩, hc⟩ := h
        have hargs := evals_all2 hs xs.toList hok.1
        have hall : All2 (TRel μ) (evalsA s xs ++ caps.toList) (xs.map a.eval ++ ds).toList := by
          rw [Array.toList_append, Array.toList_map]
          refine all2_append hargs ?_
          have key : ∀ (as bs : List Value), All2 (CRel0 μ) as bs → All2 (TRel μ) as bs := fun as bs hab => all2_mono (fun _ _ => TRel.of0) hab
          exact key _ _ hcaps
        have hrun : (execOp a.eval ⟨dst, .call ⟨.value f, xs, ts⟩, type, pos, after, guard⟩).run P w = .ok (.enter g (xs.map a.eval ++ ds)) w := by
          simp only [execOp, resolve, e2, Deferred.ofValue, pure_bind, invoke, Array.empty_append]
          simp only [callFunc, Sem.run_bind, run_program, Result.andThen_ok, f1, f3, Bool.false_eq_true, if_false, f2, Sem.run_pure]
        unfold Oper.wp
        rw [hrun]
        refine (hc μ w _ hH hall).mono ?_
        rintro e w' ⟨μ', r, H', cr, rfl, k1, k2, k3, k4⟩
        exact hn r H' μ' cr w' k4 k1 k2 k3
      · exact h.elim
    | builtin b => exact other h
    | invoke r m => exact other h
  | _ => exact other h

end Go.Proofs.Ytnoihoeaconllaa.Ai
