/- The rules by which simp walks slim code (S, S1): what is to come lies in instances, where simp does not go. No condition. -/
import Derived.Test.YtnoihoeaconllaaAiC
namespace Go.Proofs.Ytnoihoeaconllaa.Ai
open Go Go.RowKit
set_option linter.unusedVariables false
set_option linter.unusedSimpArgs false

/-- what simp leaves alone -/
class Hold (α : Type) where
  v : α

def brH (b : Bool) [A : Hold Prop] [B : Hold Prop] : Prop := (b = true → A.v) ∧ (b = false → B.v)
theorem brH.intro {b : Bool} {A B : Prop} (h1 : b = true → A) (h2 : b = false → B) : @brH b ⟨A⟩ ⟨B⟩ := ⟨h1, h2⟩
theorem brD.intro {p : Prop} {dp : Decidable p} {A B : Prop} (h1 : p → A) (h2 : ¬ p → B) : @brH (@decide p dp) ⟨A⟩ ⟨B⟩ := ⟨fun h => h1 (of_decide_eq_true h), fun h => h2 (of_decide_eq_false h)⟩
def letA (o : Option Value) [k : Hold (Value → Prop)] : Prop := match o with | some v => k.v v | none => False
def letP (o : Option (Value × AH)) [k : Hold (Value → AH → Prop)] : Prop := match o with | some p => k.v p.1 p.2 | none => False
def letH (o : Option AH) [k : Hold (AH → Prop)] : Prop := match o with | some h => k.v h | none => False
def condA (v : Value) [A : Hold Prop] [B : Hold Prop] : Prop := match v with | .bool b => @brH b A B | _ => False
def guardA (v : Value) [A : Hold Prop] [B : Hold Prop] : Prop := match v with | .bool b => @brH b A B | _ => B.v
def guardB (v : Value) [A : Hold Prop] [B : Hold Prop] : Prop := match v with | .bool b => @brH b B A | _ => B.v
def stepH (P : Program) (op : Op) (s : Sl) (H : AH) [K : Hold (Value → AH → Prop)] : Prop := stepW P op s H K.v
def runH (P : Program) (x : Opx) (s : Sl) (H : AH) [K : Hold (Value → AH → Prop)] : Prop := runX P x s H K.v
def callH (P : Program) (f : Value) (xs : List Value) (H : AH) [K : Hold (Value → AH → Prop)] : Prop := match f with | .func (.func g) _ caps => ACalls P g (xs ++ caps.toList) H K.v | _ => False
/-- a call, by its number -/
def CallH (P : Program) (g : FuncId) (xs : List Value) (H : AH) [K : Hold (Value → AH → Prop)] : Prop := ACalls P g xs H K.v
def LoopH (s : Sl) (H : AH) [body : Hold ((Sl → AH → Prop) → Sl → AH → Prop)] : Prop := LoopA body.v s H

/-- A CALL: by its contract. -/
theorem CallH.by {P : Program} {g : FuncId} {xs : List Value} {H : AH} {K R : Value → AH → Prop} (h : ACalls P g xs H R) (hk : ∀ r H', R r H' → K r H') : @CallH P g xs H ⟨K⟩ := h.mono hk
/-- A LOOP: by what holds before each round, counted down. -/
theorem LoopH.by {body : (Sl → AH → Prop) → Sl → AH → Prop} {s : Sl} {H : AH} (I : Nat → Sl → AH → Prop) (n : Nat) (h0 : I n s H) (hr : ∀ n s H, I n s H → body (fun s' H' => ∃ m, m < n ∧ I m s' H') s H) : @LoopH s H ⟨body⟩ := ⟨I, ⟨n, h0⟩, hr⟩

def pickA (c a b : Value) : Option Value := match c with | .bool t => some (if t = true then a else b) | _ => none

theorem stepH_let (P : Program) (op : Op) (s : Sl) (H : AH) (K : Value → AH → Prop) (o : Option Value) (h : stepA P op s H = o.map (·, H)) (hs : stepW P op s H K = (match stepA P op s H with | some (v, H') => K v H' | none => False)) : @stepH P op s H ⟨K⟩ = @letA o ⟨fun v => K v H⟩ := by
  show stepW P op s H K = _
  rw [hs, h]
  cases o <;> rfl
theorem stepH_letP (P : Program) (op : Op) (s : Sl) (H : AH) (K : Value → AH → Prop) (o : Option (Value × AH)) (h : stepA P op s H = o) (hs : stepW P op s H K = (match stepA P op s H with | some (v, H') => K v H' | none => False)) : @stepH P op s H ⟨K⟩ = @letP o ⟨K⟩ := by
  show stepW P op s H K = _
  rw [hs, h]; cases o <;> rfl
theorem pick_step (P : Program) (c a b : Operand) (s : Sl) (H : AH) : stepA P (.pick c a b) s H = (pickA (evalA s c) (evalA s a) (evalA s b)).map (·, H) := by
  simp only [stepA, pickA]
  cases evalA s c <;> rfl

def nilA (x : Value) : Option Value := match x with | .pointer (some p) => some (.pointer (some p)) | .func (.func f) fs cs => some (.func (.func f) fs cs) | _ => none
theorem nil_step (P : Program) (x : Operand) (s : Sl) (H : AH) : stepA P (.nilCheck x) s H = (nilA (evalA s x)).map (·, H) := by
  simp only [stepA, nilA]
  split <;> simp_all

/-- THE RULES. -/
theorem S :
    (∀ (P : Program) Q s H, wpC P .skip Q s H = Q .normal s H) ∧
    (∀ (P : Program) Q s H id, wpC P (.exit id) Q s H = Q (.exit id) s H) ∧
    (∀ (P : Program) Q s H, wpC P .ret Q s H = Q .ret s H) ∧
    (∀ (P : Program) Q s H ts, wpC P (.reg ts) Q s H = wpSteps P (Q .normal) ts s H) ∧
    (∀ (P : Program) Q s H a b, wpC P (.seq a b) Q s H = wpC P a (thenA (wpC P b Q) Q) s H) ∧
    (∀ (P : Program) Q s H c t e, wpC P (.cond c t e) Q s H = @condA (evalA s c) ⟨wpC P t Q s H⟩ ⟨wpC P e Q s H⟩) ∧
    (∀ (P : Program) Q s H id c, wpC P (.block id c) Q s H = wpC P c (blockA id Q) s H) ∧
    (∀ (P : Program) Q s H c, wpC P (.loop c) Q s H = @LoopH s H ⟨fun K => wpC P c (thenA K Q)⟩) ∧
    (∀ K Q s H, thenA K Q .normal s H = K s H) ∧
    (∀ K Q s H id, thenA K Q (.exit id) s H = Q (.exit id) s H) ∧
    (∀ K Q s H, thenA K Q .ret s H = Q .ret s H) ∧
    (∀ id Q s H, blockA id Q .normal s H = Q .normal s H) ∧
    (∀ id Q s H id', blockA id Q (.exit id') s H = if id' = id then Q .normal s H else Q (.exit id') s H) ∧
    (∀ id Q s H, blockA id Q .ret s H = Q .ret s H) ∧
    (∀ (P : Program) Q s H, wpSteps P Q [] s H = Q s H) ∧
    (∀ (P : Program) Q s H x rest, wpSteps P Q (⟨x, []⟩ :: rest) s H = @runH P x s H ⟨fun v H' => wpSteps P Q rest (s.put x.dst v) H'⟩) ∧
    (∀ (P : Program) Q s H x w ws rest, wpSteps P Q (⟨x, w :: ws⟩ :: rest) s H = @runH P x s H ⟨fun v H' => watchA P (s.put x.dst v) H H' (w :: ws) ∧ wpSteps P Q rest (s.put x.dst v) H'⟩) ∧
    (∀ (P : Program) s H H' x xs, watchA P s H H' (x :: xs) = (watch1 P x s H H' ∧ watchA P s H H' xs)) ∧
    (∀ (P : Program) s H H', watchA P s H H' [] = True) ∧
    (∀ (P : Program) d op s H K, @runH P ⟨d, op, none⟩ s H ⟨K⟩ = @stepH P op s H ⟨K⟩) ∧
    (∀ (P : Program) d op g s H K, @runH P ⟨d, op, some (g, true)⟩ s H ⟨K⟩ = @guardA (s g) ⟨@stepH P op s H ⟨K⟩⟩ ⟨K undef H⟩) ∧
    (∀ (P : Program) d op g s H K, @runH P ⟨d, op, some (g, false)⟩ s H ⟨K⟩ = @guardB (s g) ⟨@stepH P op s H ⟨K⟩⟩ ⟨K undef H⟩) ∧
    (∀ b A B, @condA (.bool b) ⟨A⟩ ⟨B⟩ = @brH b ⟨A⟩ ⟨B⟩) ∧
    (∀ b A B, @guardA (.bool b) ⟨A⟩ ⟨B⟩ = @brH b ⟨A⟩ ⟨B⟩) ∧
    (∀ b A B, @guardB (.bool b) ⟨A⟩ ⟨B⟩ = @brH b ⟨B⟩ ⟨A⟩) ∧
    (∀ vs A B, @guardA (.tuple vs) ⟨A⟩ ⟨B⟩ = B) ∧
    (∀ vs A B, @guardB (.tuple vs) ⟨A⟩ ⟨B⟩ = B) ∧
    (∀ A B, @guardA undef ⟨A⟩ ⟨B⟩ = B) ∧
    (∀ A B, @guardB undef ⟨A⟩ ⟨B⟩ = B) ∧
    (∀ b A B, @brH (!b) ⟨A⟩ ⟨B⟩ = @brH b ⟨B⟩ ⟨A⟩) ∧
    (∀ A B, @brH true ⟨A⟩ ⟨B⟩ = A) ∧
    (∀ A B, @brH false ⟨A⟩ ⟨B⟩ = B) ∧
    (∀ v k, @letA (some v) ⟨k⟩ = k v) ∧
    (∀ k, @letA none k = False) ∧
    (∀ v h k, @letP (some (v, h)) ⟨k⟩ = k v h) ∧
    (∀ k, @letP none k = False) ∧
    (∀ h k, @letH (some h) ⟨k⟩ = k h) ∧
    (∀ k, @letH none k = False) ∧
    (∀ (P : Program) g fs caps xs H K, @callH P (.func (.func g) fs (List.toArray caps)) xs H ⟨K⟩ = @CallH P g (xs ++ caps) H ⟨K⟩) ∧
    (∀ s t, evalA s (.tmp t) = s t) ∧
    (∀ s v, evalA s (.const v) = v) ∧
    (∀ s f, evalA s (.func f) = .func (.func f) #[] #[]) ∧
    (∀ s l, evalsA s (List.toArray l) = l.map (evalA s)) ∧
    (∀ s l, partsA s (List.toArray l) = l.map fun p => (p.1, evalA s p.2)) ∧
    (∀ s d v i, Sl.put s (some d) v i = if i = d then v else s i) ∧
    (∀ s v, Sl.put s none v = s) := by
  refine ⟨?_, ?_, ?_, ?_, ?_, ?_, ?_, ?_, ?_, ?_, ?_, ?_, ?_, ?_, ?_, ?_, ?_, ?_, ?_, ?_, ?_, ?_, ?_, ?_, ?_, ?_, ?_, ?_, ?_, ?_, ?_, ?_, ?_, ?_, ?_, ?_, ?_, ?_, ?_, ?_, ?_, ?_, ?_, ?_, ?_, ?_⟩
  all_goals intros
  all_goals first
    | rfl
    | (simp [brH]; done)
    | (rename_i b A B; cases b <;> simp [brH]; done)
    | (simp [wpSteps, watchA, runH, stepH, runX]; done)
    | (simp [evalsA, partsA, callH, CallH]; done)
    | skip

/-- .. of operations -/
theorem S1 :
    (∀ (P : Program) s H K x, @stepH P (.move x) s H ⟨K⟩ = K (evalA s x) H) ∧
    (∀ (P : Program) s H K x, @stepH P (.assign x) s H ⟨K⟩ = K (evalA s x) H) ∧
    (∀ (P : Program) s H K c a b, @stepH P (.pick c a b) s H ⟨K⟩ = @letA (pickA (evalA s c) (evalA s a) (evalA s b)) ⟨fun v => K v H⟩) ∧
    (∀ a b, pickA (.bool true) a b = some a) ∧
    (∀ a b, pickA (.bool false) a b = some b) ∧
    (∀ (P : Program) s H K e, @stepH P (.alloc e) s H ⟨K⟩ = @letP (allocA P e H) ⟨K⟩) ∧
    (∀ (P : Program) s H K e x, @stepH P (.box e x) s H ⟨K⟩ = @letP (boxA P e (evalA s x) H) ⟨K⟩) ∧
    (∀ (P : Program) s H K t ps, @stepH P (.build t ps) s H ⟨K⟩ = @letA (buildA P t (partsA s ps)) ⟨fun v => K v H⟩) ∧
    (∀ (P : Program) s H K t n ps, @stepH P (.buildSlice t n ps) s H ⟨K⟩ = @letP (buildSliceA P t n (partsA s ps) H) ⟨K⟩) ∧
    (∀ (P : Program) s H K t x, @stepH P (.load t x) s H ⟨K⟩ = @letA (loadA P t (evalA s x) H) ⟨fun v => K v H⟩) ∧
    (∀ (P : Program) s H K t a x, @stepH P (.store t a x) s H ⟨K⟩ = @letH (storeA P t (evalA s a) (evalA s x) H) ⟨fun h => K undef h⟩) ∧
    (∀ (P : Program) s H K op t x y u, @stepH P (.binOp op t x y u) s H ⟨K⟩ = @letA (binA P op t (evalA s x) (evalA s y)) ⟨fun v => K v H⟩) ∧
    (∀ (P : Program) s H K op t x, @stepH P (.unOp op t x) s H ⟨K⟩ = @letA (unA op (evalA s x)) ⟨fun v => K v H⟩) ∧
    (∀ (P : Program) s H K a b x, @stepH P (.convert a b x) s H ⟨K⟩ = @letA (convA P a b (evalA s x)) ⟨fun v => K v H⟩) ∧
    (∀ (P : Program) s H K f xs ys, @stepH P (.makeFunc f xs ys) s H ⟨K⟩ = @letA (makeFuncA f (evalsA s xs) (evalsA s ys)) ⟨fun v => K v H⟩) ∧
    (∀ (P : Program) s H K t l c, @stepH P (.makeSlice t l c) s H ⟨K⟩ = @letP (makeSliceA P t (evalA s l) (evalA s c) H) ⟨K⟩) ∧
    (∀ (P : Program) s H K t x lo hi, @stepH P (.slice t x lo hi none) s H ⟨K⟩ = @letA (sliceA P t (evalA s x) (lo.map (evalA s)) (hi.map (evalA s)) none H) ⟨fun v => K v H⟩) ∧
    (∀ (P : Program) s H K t x lo hi m, @stepH P (.slice t x lo hi (some m)) s H ⟨K⟩ = @letP (slice3A P t (evalA s x) (lo.map (evalA s)) (hi.map (evalA s)) (evalA s m) H) ⟨K⟩) ∧
    (∀ (P : Program) s H K x t, @stepH P (.call ⟨.builtin .clear, List.toArray [x], List.toArray [t]⟩) s H ⟨K⟩ = @letP (clearA P t (evalA s x) H) ⟨K⟩) ∧
    (∀ (P : Program) s H K t x f, @stepH P (.fieldAddr t x f) s H ⟨K⟩ = @letA (fieldAddrA P t (evalA s x) f) ⟨fun v => K v H⟩) ∧
    (∀ (P : Program) s H K t x f, @stepH P (.field t x f) s H ⟨K⟩ = @letA (fieldA P t (evalA s x) f) ⟨fun v => K v H⟩) ∧
    (∀ (P : Program) s H K t x f, @stepH P (.indexAddr t x f) s H ⟨K⟩ = @letA (indexAddrA P t (evalA s x) (evalA s f)) ⟨fun v => K v H⟩) ∧
    (∀ (P : Program) s H K t x f, @stepH P (.index t x f) s H ⟨K⟩ = @letA (indexA P t (evalA s x) (evalA s f)) ⟨fun v => K v H⟩) ∧
    (∀ (P : Program) s H K x i, @stepH P (.extract x i) s H ⟨K⟩ = @letA (extractA (evalA s x) i) ⟨fun v => K v H⟩) ∧
    (∀ (P : Program) s H K x, @stepH P (.nilCheck x) s H ⟨K⟩ = @letA (nilA (evalA s x)) ⟨fun v => K v H⟩) ∧
    (∀ p, nilA (.pointer (some p)) = some (.pointer (some p))) ∧
    (∀ f fs cs, nilA (.func (.func f) fs cs) = some (.func (.func f) fs cs)) ∧
    (∀ (P : Program) s H K f xs ts, @stepH P (.call ⟨.value f, xs, ts⟩) s H ⟨K⟩ = @callH P (evalA s f) (evalsA s xs) H ⟨K⟩) ∧
    (∀ (P : Program) s H K x y t t2, @stepH P (.call ⟨.builtin .append, List.toArray [x, y], List.toArray [t, t2]⟩) s H ⟨K⟩ = @letP (appendA P t t2 (evalA s x) (evalA s y) H) ⟨K⟩) ∧
    (∀ (P : Program) s H K x t, @stepH P (.call ⟨.builtin .len, List.toArray [x], List.toArray [t]⟩) s H ⟨K⟩ = @letA (lenA P t (evalA s x)) ⟨fun v => K v H⟩) ∧
    (∀ (P : Program) s H K xs ts, @stepH P (.call ⟨.builtin .min, xs, ts⟩) s H ⟨K⟩ = @letA (minmaxA minI (evalsA s xs)) ⟨fun v => K v H⟩) ∧
    (∀ (P : Program) s H K xs ts, @stepH P (.call ⟨.builtin .max, xs, ts⟩) s H ⟨K⟩ = @letA (minmaxA maxI (evalsA s xs)) ⟨fun v => K v H⟩) ∧
    (∀ l i, extractA (.tuple (List.toArray l)) i = l[i]?) := by
  refine ⟨?_, ?_, ?_, ?_, ?_, ?_, ?_, ?_, ?_, ?_, ?_, ?_, ?_, ?_, ?_, ?_, ?_, ?_, ?_, ?_, ?_, ?_, ?_, ?_, ?_, ?_, ?_, ?_, ?_, ?_, ?_, ?_, ?_⟩
  all_goals intros
  all_goals first
    | rfl
    | exact stepH_let _ _ _ _ _ _ (pick_step ..) rfl
    | exact stepH_let _ _ _ _ _ _ (nil_step ..) rfl
    | exact stepH_let _ _ _ _ _ _ rfl rfl
    | exact stepH_letP _ _ _ _ _ _ rfl rfl
    | skip
  all_goals first
    | (simp [extractA, pickA, nilA]; done)
    | (simp [stepH, stepW, stepA, callH]; done)
    | (simp only [stepH, stepW, stepA, letH]; cases storeA _ _ _ _ _ <;> rfl)
    | skip

end Go.Proofs.Ytnoihoeaconllaa.Ai
