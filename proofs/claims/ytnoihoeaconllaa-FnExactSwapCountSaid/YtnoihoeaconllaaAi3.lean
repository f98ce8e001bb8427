/- What one operation does to an abstract heap, second part: arithmetic and tests, slices, append, make, literals. No condition. -/
import Derived.Test.YtnoihoeaconllaaAi2
import Derived.Laws.StructEq
import Derived.WalkSpells
namespace Go.Proofs.Ytnoihoeaconllaa.Ai
open Go Go.RowKit
set_option linter.unusedVariables false
set_option linter.unusedSimpArgs false

/- ---------- two operands ---------- -/
def bitsA (op : BinOp) (k : IntKind) (x y : Int) : Int :=
  match op with
  | .and => k.wrap ((BitVec.ofInt k.bits x &&& BitVec.ofInt k.bits y).toNat)
  | .or => k.wrap ((BitVec.ofInt k.bits x ||| BitVec.ofInt k.bits y).toNat)
  | .xor => k.wrap ((BitVec.ofInt k.bits x ^^^ BitVec.ofInt k.bits y).toNat)
  | _ => k.wrap ((BitVec.ofInt k.bits x &&& ~~~ (BitVec.ofInt k.bits y)).toNat)

def intA (op : BinOp) (k : IntKind) (a b : Int) : Option Value :=
  match op with
  | .add => some (.int k (k.wrap (a + b)))
  | .sub => some (.int k (k.wrap (a - b)))
  | .mul => some (.int k (k.wrap (a * b)))
  | .quo => if b = 0 then none else some (.int k (k.wrap (a.tdiv b)))
  | .rem => if b = 0 then none else some (.int k (a.tmod b))
  | .and | .or | .xor | .andNot => some (.int k (bitsA op k a b))
  | .eql => some (.bool (a == b))
  | .neq => some (.bool (a != b))
  | .lss => some (.bool (a < b))
  | .leq => some (.bool (a ≤ b))
  | .gtr => some (.bool (a > b))
  | .geq => some (.bool (a ≥ b))
  | _ => none

def shiftA (op : BinOp) (k : IntKind) (a b : Int) : Option Value :=
  if b < 0 then none else
  match op with
  | .shl => some (.int k (k.wrap (a * 2 ^ (min b.toNat k.bits))))
  | _ => some (.int k (a.fdiv (2 ^ (min b.toNat k.bits))))

/-- are two values of a type equal: bools, pairs of ints, a slice and nil -/
def eqA (P : Program) (t : TypeId) (x y : Value) : Option Bool :=
  match x, y with
  | .bool a, .bool b => match P.underlying t with | some .bool => some (a == b) | _ => none
  | .slice a _ _, .slice none _ _ => match P.underlying t with | some (.slice _) => some a.isNone | _ => none
  | .slice none _ _, .slice b _ _ => match P.underlying t with | some (.slice _) => some b.isNone | _ => none
  | .agg xs, .agg ys =>
    match P.underlying t with
    | some (.array 2 e) =>
      match P.underlying e, xs.toList, ys.toList with
      | some (.int _), [.int j a, .int k b], [.int l c, .int m d] =>
        if j = l ∧ k = m ∧ P.cellsOf e = 1 ∧ P.eqGuardType P.depth t = false then some (a == c && b == d) else none
      | _, _, _ => none
    | _ => none
  | _, _ => none

def binA (P : Program) (op : BinOp) (t : TypeId) (x y : Value) : Option Value :=
  match x, y with
  | .int k a, .int k' b =>
    if op = .shl ∨ op = .shr then shiftA op k a b else if k = k' then intA op k a b else none
  | _, _ =>
    match op with
    | .eql => (eqA P t x y).map .bool
    | .neq => (eqA P t x y).map fun b => .bool (!b)
    | _ => none

theorem intA_run {P : Program} {op : BinOp} {k : IntKind} {a b : Int} {v : Value} (hop : ¬ (op = .shl ∨ op = .shr)) (h : intA op k a b = some v) (t : TypeId) (w : World) :
    (binOp op t (.int k a) (.int k b)).run P w = .ok v w ∧ ∀ μ, TRel μ v v := by
  cases op
  case shl => exact absurd (.inl rfl) hop
  case shr => exact absurd (.inr rfl) hop
  case quo =>
    simp only [intA] at h
    split at h
    · cases h
    · rename_i hb
      cases h
      exact ⟨by simp [binOp, Op.intDiv, hb], fun μ => rfl⟩
  case rem =>
    simp only [intA] at h
    split at h
    · cases h
    · rename_i hb
      cases h
      exact ⟨by simp [binOp, Op.intDiv, hb], fun μ => rfl⟩
  all_goals
    simp only [intA, Option.some.injEq] at h
    subst h
    exact ⟨by simp [binOp, Op.intArith, Op.intCmp, Op.intBits, bitsA], fun μ => rfl⟩

theorem shiftA_run {P : Program} {op : BinOp} {k k' : IntKind} {a b : Int} {v : Value} (hop : op = .shl ∨ op = .shr) (h : shiftA op k a b = some v) (t : TypeId) (w : World) :
    (binOp op t (.int k a) (.int k' b)).run P w = .ok v w ∧ ∀ μ, TRel μ v v := by
  unfold shiftA at h
  split at h
  · cases h
  · rename_i hb
    rcases hop with rfl | rfl
    · simp only [Option.some.injEq] at h
      subst h
      exact ⟨by simp [binOp, Op.shift, hb], fun μ => rfl⟩
    · simp only [Option.some.injEq] at h
      subst h
      exact ⟨by simp [binOp, Op.shift, hb], fun μ => rfl⟩

theorem eqGuard_none {P : Program} {op : BinOp} {t : TypeId} {x y : Operand} {a b : Value} (w : World) (h : (∀ xs ys, a = .agg xs → b = .agg ys → P.eqGuardType P.depth t = false) ∧ (a ≠ .nilIface)) :
    (eqGuard op t x y a b).run P w = .ok () w := by
  unfold eqGuard
  cases op <;> first
    | rfl
    | (simp only [Bool.not_true, Bool.false_eq_true, if_false]
       split
       · exact absurd rfl h.2
       · simp [h.1 _ _ rfl rfl]
       · rfl)

theorem equalIn_bool (P : Program) (w : World) (d : Nat) (t : TypeId) (a b : Bool) (hu : P.underlying t = some .bool) : (Op.equalIn (d + 1) t (.bool a) (.bool b)).run P w = .ok (a == b) w := by
  simp only [Op.equalIn, Sem.run_bind, run_underlying hu, Result.andThen_ok]; rfl
theorem equalIn_slice_nil (P : Program) (w : World) (d : Nat) (t e : TypeId) (a : Option Addr) (n c n' c' : Nat) (hu : P.underlying t = some (.slice e)) :
    (Op.equalIn (d + 1) t (.slice a n c) (.slice none n' c')).run P w = .ok a.isNone w := by
  cases a <;> (simp only [Op.equalIn, Sem.run_bind, run_underlying hu, Result.andThen_ok]; rfl)
theorem equalIn_nil_slice (P : Program) (w : World) (d : Nat) (t e : TypeId) (a : Option Addr) (n c n' c' : Nat) (hu : P.underlying t = some (.slice e)) :
    (Op.equalIn (d + 1) t (.slice none n' c') (.slice a n c)).run P w = .ok a.isNone w := by
  cases a <;> (simp only [Op.equalIn, Sem.run_bind, run_underlying hu, Result.andThen_ok]; rfl)
theorem equalIn_int (P : Program) (w : World) (d : Nat) (t : TypeId) (k k' : IntKind) (a b : Int) (hu : P.underlying t = some (.int k')) : (Op.equalIn (d + 1) t (.int k a) (.int k b)).run P w = .ok (a == b) w := by
  simp only [Op.equalIn, Sem.run_bind, run_underlying hu, Result.andThen_ok, if_true]; rfl
theorem part_one {P : Program} {e : TypeId} (hag : isAggA P e = some false) (w : World) (cs : Array Value) (i : Nat) (v : Value) (h : cs[i]? = some v) : (part e cs i).run P w = .ok v w := by
  simp only [part, Sem.run_bind, isAgg_run hag, Result.andThen_ok, Bool.false_eq_true, if_false, h]; rfl
theorem equalIn_pair (P : Program) (w : World) (d : Nat) (t e : TypeId) (j k kk : IntKind) (a b c x : Int) (hu : P.underlying t = some (.array 2 e)) (he : P.underlying e = some (.int kk)) (hsz : P.cellsOf e = 1) :
    (Op.equalIn (d + 2) t (.agg #[.int j a, .int k b]) (.agg #[.int j c, .int k x])).run P w = .ok (a == c && b == x) w := by
  have hag : isAggA P e = some false := by unfold isAggA; rw [he]
  have hs : ∀ w, (Go.sizeOf e).run P w = .ok 1 w := fun w => by have := sizeOf_run (P := P) (t := e) (by omega) w; rwa [hsz] at this
  have q0 := fun (w : World) (u v : Value) => part_one (P := P) hag w #[u, v] 0 u rfl
  have q1 := fun (w : World) (u v : Value) => part_one (P := P) hag w #[u, v] 1 v rfl
  rw [Op.equalIn]
  simp only [Sem.run_bind, run_underlying hu, Result.andThen_ok, hs, Std.Legacy.Range.forIn_eq_forIn_range', Std.Legacy.Range.size, List.range']
  simp only [Nat.sub_zero, Nat.add_sub_cancel, Nat.reduceAdd, Nat.reduceSub, Nat.reduceDiv, Nat.div_one, List.range', List.forIn_cons, List.forIn_nil, Sem.run_bind, Nat.zero_mul, Nat.one_mul, q0, q1, Result.andThen_ok, equalIn_int P w d e _ kk _ _ he, Nat.zero_add]
  by_cases hac : a = c
  · by_cases hbd : b = x
    · simp [hac, hbd, q0, q1, equalIn_int P w d e _ kk _ _ he]
    · simp [hac, hbd, q0, q1, equalIn_int P w d e _ kk _ _ he]
  · simp [hac]

theorem eqA_run {P : Program} {μ : Mu} {t : TypeId} {x y cx cy : Value} {r : Bool} (h : eqA P t x y = some r) (hx : TRel μ x cx) (hy : TRel μ y cy) (w : World) :
    (Op.equal t cx cy).run P w = .ok r w ∧ (∀ xs ys, cx = .agg xs → cy = .agg ys → P.eqGuardType P.depth t = false) ∧ cx ≠ .nilIface ∧ (∀ k n, cx ≠ .int k n) ∧
      (∀ op, op = .eql ∨ op = .neq → binOp op t cx cy = if op = .eql then (do pure (.bool (← Op.equal t cx cy))) else (do pure (.bool (!(← Op.equal t cx cy))))) := by
  unfold eqA at h
  split at h
  · rename_i a b
    split at h
    · rename_i hu
      cases h
      have e1 : cx = .bool a := hx
      have e2 : cy = .bool b := hy
      subst e1; subst e2
      refine ⟨equalIn_bool P w 9999 t a b hu, (fun xs ys e => by cases e), (by simp), (fun _ _ => by simp), ?_⟩
      intro op ho; rcases ho with rfl | rfl <;> simp [binOp]
    · cases h
  · rename_i a n c m d
    split at h
    · rename_i e hu
      cases h
      obtain ⟨rfl, rfl, e2⟩ := hy
      subst e2
      have hc : ∃ b n' c', cx = .slice b n' c' ∧ b.isNone = a.isNone := by
        cases a with
        | none => obtain ⟨_, _, e⟩ := hx; exact ⟨_, _, _, e, rfl⟩
        | some p => obtain ⟨_, _, b, m', e, _⟩ := hx; exact ⟨_, _, _, e, rfl⟩
      obtain ⟨b, n', c', rfl, hb⟩ := hc
      refine ⟨?_, (fun xs ys e => by cases e), (by simp), (fun _ _ => by simp), ?_⟩
      · rw [← hb]; exact equalIn_slice_nil P w 9999 t e b n' c' 0 0 hu
      · intro op ho; rcases ho with rfl | rfl <;> simp [binOp]
    · cases h
  · rename_i n c d m2 c2 hne
    split at h
    · rename_i e hu
      cases h
      obtain ⟨rfl, rfl, e2⟩ := hx
      subst e2
      have hc : ∃ b' n' c', cy = .slice b' n' c' ∧ b'.isNone = d.isNone := by
        cases d with
        | none => obtain ⟨_, _, e⟩ := hy; exact ⟨_, _, _, e, rfl⟩
        | some p => obtain ⟨_, _, b, m', e, _⟩ := hy; exact ⟨_, _, _, e, rfl⟩
      obtain ⟨b', n', c', rfl, hb⟩ := hc
      refine ⟨?_, (fun xs ys e => by cases e), (by simp), (fun _ _ => by simp), ?_⟩
      · rw [← hb]; exact equalIn_nil_slice P w 9999 t e b' n' c' 0 0 hu
      · intro op ho; rcases ho with rfl | rfl <;> simp [binOp]
    · cases h
  · rename_i xs ys
    split at h
    · rename_i e hu
      split at h
      · rename_i kk j a k b l c m d he hxs hys
        split at h
        · rename_i hc
          obtain ⟨rfl, rfl, hsz, hg⟩ := hc
          cases h
          obtain ⟨ds, rfl, h1⟩ := hx
          obtain ⟨es, rfl, h2⟩ := hy
          rw [hxs] at h1; rw [hys] at h2
          have e1 : ds = #[.int j a, .int k b] := by
            rcases ds with ⟨l⟩
            match l, h1 with
            | [u, v], h1 => obtain ⟨h1, h3, _⟩ := h1; have : u = .int j a := h1; have : v = .int k b := h3; subst_vars; rfl
          have e2 : es = #[.int j c, .int k d] := by
            rcases es with ⟨l⟩
            match l, h2 with
            | [u, v], h2 => obtain ⟨h1, h3, _⟩ := h2; have : u = .int j c := h1; have : v = .int k d := h3; subst_vars; rfl
          subst e1; subst e2
          refine ⟨equalIn_pair P w 9998 t e j k kk a b c d hu he hsz, (fun xs ys _ _ => hg), (by simp), (fun _ _ => by simp), ?_⟩
          · intro op ho; rcases ho with rfl | rfl <;> simp [binOp]
        · cases h
      · cases h
    · cases h
  · cases h

theorem binA_run {P : Program} {μ : Mu} {op : BinOp} {t : TypeId} {x y cx cy v : Value} (h : binA P op t x y = some v) (hx : TRel μ x cx) (hy : TRel μ y cy) (ox oy : Operand) (w : World) :
    ((do eqGuard op t ox oy cx cy; binOp op t cx cy : Sem Value)).run P w = .ok v w ∧ TRel μ v v := by
  unfold binA at h
  split at h
  · rename_i k a k' b
    have e1 : cx = .int k a := hx
    have e2 : cy = .int k' b := hy
    subst e1; subst e2
    have hg := eqGuard_none (P := P) (op := op) (t := t) (x := ox) (y := oy) (a := .int k a) (b := .int k' b) w ⟨(fun _ _ e => by cases e), (by simp)⟩
    split at h
    · rename_i hop
      obtain ⟨r1, r2⟩ := shiftA_run (P := P) hop h t (k' := k') w
      exact ⟨by simp only [Sem.run_bind, hg, Result.andThen_ok, r1], r2 μ⟩
    · rename_i hop
      split at h
      · rename_i hk
        subst hk
        obtain ⟨r1, r2⟩ := intA_run (P := P) hop h t w
        exact ⟨by simp only [Sem.run_bind, hg, Result.andThen_ok, r1], r2 μ⟩
      · cases h
  · split at h
    · cases hq : eqA P t x y with
      | none => rw [hq] at h; cases h
      | some r =>
        rw [hq] at h; cases h
        obtain ⟨r1, r2, r3, r4, r5⟩ := eqA_run hq hx hy w
        have hg := eqGuard_none (P := P) (op := .eql) (t := t) (x := ox) (y := oy) w ⟨r2, r3⟩
        refine ⟨?_, rfl⟩
        rw [r5 _ (.inl rfl)]
        simp only [Sem.run_bind, hg, Result.andThen_ok, if_true, r1, Sem.run_pure]
    · cases hq : eqA P t x y with
      | none => rw [hq] at h; cases h
      | some r =>
        rw [hq] at h; cases h
        obtain ⟨r1, r2, r3, r4, r5⟩ := eqA_run hq hx hy w
        have hg := eqGuard_none (P := P) (op := .neq) (t := t) (x := ox) (y := oy) w ⟨r2, r3⟩
        refine ⟨?_, rfl⟩
        rw [r5 _ (.inr rfl)]
        simp only [Sem.run_bind, hg, Result.andThen_ok, r1, Sem.run_pure, reduceCtorEq, if_false]
    · cases h

/- ---------- one operand ---------- -/
def unA (op : UnOp) (x : Value) : Option Value :=
  match op, x with
  | .neg, .int k n => some (.int k (k.wrap (0 - n)))
  | .xor, .int k n => some (.int k (bitsA .xor k (if k.signed then -1 else k.max) n))
  | .not, .bool b => some (.bool !b)
  | _, _ => none

theorem unA_run {P : Program} {μ : Mu} {op : UnOp} {x cx v : Value} (h : unA op x = some v) (hx : TRel μ x cx) (w : World) : (Op.unary op cx).run P w = .ok v w ∧ TRel μ v v := by
  unfold unA at h
  split at h
  · rename_i k n; cases h; have e : cx = .int k n := hx; subst e; exact ⟨by simp [Op.unary, Op.intArith], rfl⟩
  · rename_i k n; cases h; have e : cx = .int k n := hx; subst e; exact ⟨by simp [Op.unary, Op.intBits, bitsA], rfl⟩
  · rename_i b; cases h; have e : cx = .bool b := hx; subst e; exact ⟨by simp [Op.unary], rfl⟩
  · cases h

def convA (P : Program) (s d : TypeId) (x : Value) : Option Value :=
  match x with
  | .int _ n =>
    match P.underlying s, P.underlying d with
    | some _, some (.int k) => some (.int k (k.wrap n))
    | _, _ => none
  | .slice a n c =>
    match P.underlying s, P.underlying d with
    | _, _ => none
  | _ => none

theorem convA_run {P : Program} {μ : Mu} {s d : TypeId} {x cx v : Value} (h : convA P s d x = some v) (hx : TRel μ x cx) (w : World) : (convert s d cx).run P w = .ok v w ∧ TRel μ v v := by
  unfold convA at h
  split at h
  · rename_i j n
    split at h
    · rename_i ds k h1 h2
      cases h
      have e : cx = .int j n := hx
      subst e
      exact ⟨by simp [convert, run_underlying h1, run_underlying h2, Conv.intToInt], rfl⟩
    · cases h
  · cases h
  · cases h

/- ---------- slices ---------- -/
def boundA (i : Option Value) (d : Nat) : Option Nat :=
  match i with
  | none => some d
  | some (.int _ n) => if 0 ≤ n then some n.toNat else none
  | _ => none

def sliceA (P : Program) (t : TypeId) (x : Value) (lo hi mx : Option Value) (H : AH) : Option Value :=
  match mx, x, P.underlying t with
  | none, .slice (some p) n _, some (.slice e) =>
    match boundA lo 0, boundA hi n, H[p.block]? with
    | some l, some h, some (.cells _ e' _) =>
      if l ≤ h ∧ h ≤ n ∧ e' = e ∧ 0 < P.cellsOf e then some (.slice (some ⟨p.block, p.off + l * P.cellsOf e, none⟩) (h - l) (h - l)) else none
    | _, _, _ => none
  | none, .slice none _ _, some (.slice e) =>
    match boundA lo 0, boundA hi 0 with
    | some 0, some 0 => if 0 < P.cellsOf e then some (.slice none 0 0) else none
    | _, _ => none
  | _, _, _ => none

/-- what a bound comes to, in memory -/
def BRel (i ci : Option Value) : Prop := (i = none ∧ ci = none) ∨ ∃ k n, i = some (.int k n) ∧ ci = some (.int k n)

theorem boundA_low {P : Program} {i ci : Option Value} {l h : Nat} (hi : boundA i 0 = some l) (hc : BRel i ci) (hl : l ≤ h) (w : World) :
    ((match ci with | some v => Instr.sliceBound v h .sliceB | none => pure 0) : Sem Nat).run P w = .ok l w := by
  rcases hc with ⟨rfl, rfl⟩ | ⟨k, n, rfl, rfl⟩
  · simp only [boundA, Option.some.injEq] at hi; subst hi; rfl
  · simp only [boundA] at hi
    split at hi
    · rename_i h0
      cases hi
      simp only [Instr.sliceBound, asIntOf, Sem.run_bind, Sem.run_pure, Result.andThen_ok]
      rw [if_pos ⟨h0, by omega⟩]; rfl
    · cases hi

theorem boundA_high {P : Program} {i ci : Option Value} {h n cap : Nat} (hi : boundA i n = some h) (hc : BRel i ci) (hl : h ≤ cap) (w : World) (code : BoundsCode) :
    ((match ci with | some v => Instr.sliceBound v cap code | none => pure n) : Sem Nat).run P w = .ok h w := by
  rcases hc with ⟨rfl, rfl⟩ | ⟨k, m, rfl, rfl⟩
  · simp only [boundA, Option.some.injEq] at hi; subst hi; rfl
  · simp only [boundA] at hi
    split at hi
    · rename_i h0
      cases hi
      simp only [Instr.sliceBound, asIntOf, Sem.run_bind, Sem.run_pure, Result.andThen_ok]
      rw [if_pos ⟨h0, by omega⟩]; rfl
    · cases hi

theorem sliceBounds_run {P : Program} {lo hi clo chi : Option Value} {l h n cap : Nat} (h1 : boundA lo 0 = some l) (h2 : boundA hi n = some h) (c1 : BRel lo clo) (c2 : BRel hi chi) (hl : l ≤ h) (hh : h ≤ cap) (w : World) :
    (Instr.sliceBounds true n cap clo chi none).run P w = .ok (l, h, cap) w := by
  have r1 := boundA_high (P := P) (code := .sliceAcap) h2 c2 hh w
  have r2 := boundA_low (P := P) h1 c1 hl w
  rcases c2 with ⟨_, rfl⟩ | ⟨k, m, _, rfl⟩ <;> rcases c1 with ⟨_, rfl⟩ | ⟨k', m', _, rfl⟩ <;>
    · simp only [Sem.run_pure, Result.ok.injEq, and_true] at r1 r2
      simp only [Instr.sliceBounds, Sem.run_bind, Sem.run_pure, Result.andThen_ok, if_true, Option.isSome_none, Bool.false_eq_true, if_false, r1, r2]

theorem sliceA_run {P : Program} {μ : Mu} {H : AH} {w : World} (hH : HRel P μ H w) {t : TypeId} {x cx v : Value} {lo hi mx clo chi cmx : Option Value} (h : sliceA P t x lo hi mx H = some v)
    (hx : TRel μ x cx) (c1 : BRel lo clo) (c2 : BRel hi chi) (c3 : mx = none → cmx = none) :
    ∃ cv, (Instr.sliceAt t cx clo chi cmx).run P w = .ok cv w ∧ TRel μ v cv := by
  unfold sliceA at h
  split at h
  · rename_i p n c e hu
    obtain rfl := c3 rfl
    split at h
    · rename_i l hh vs e' ro hb1 hb2 ho
      split at h
      · rename_i hc
        obtain ⟨g1, g2, rfl, hsz⟩ := hc
        cases h
        obtain ⟨e1, rfl, a, m, e3, hm, e4⟩ := hx
        subst e3
        have r := sliceBounds_run (P := P) hb1 hb2 c1 c2 g1 (show hh ≤ m by omega) w
        refine ⟨.slice (if m = l then some a else some (a.add (l * P.cellsOf e'))) (hh - l) (m - l), ?_, ?_⟩
        · simp only [Instr.sliceAt, Instr.slice, Sem.run_bind, run_underlying hu, Result.andThen_ok, r, sizeOf_run hsz, Option.map_some, Sem.run_pure]
        · by_cases hml : m = l
          · rw [if_pos hml]
            exact ⟨rfl, rfl, a, m - l, rfl, by omega, .inl (by omega)⟩
          · rw [if_neg hml]
            rcases e4 with e4 | ⟨L, hL, e4, e5⟩
            · omega
            · subst e4
              obtain ⟨L0, f1, f2, f3, f4, _⟩ := hH.cells ho hL
              rw [hL] at f1; cases f1
              refine ⟨rfl, rfl, _, m - l, by rw [Addr.add_lit'], by omega, .inr ⟨L, hL, by simp [Nat.add_assoc], ?_⟩⟩
              show p.off + l * P.cellsOf e' + (m - l) * L.sz ≤ L.ext
              rw [← f4, Nat.add_assoc, ← Nat.add_mul, show l + (m - l) = m from by omega]
              exact e5
      · cases h
    · cases h
  · rename_i n c e hu
    obtain rfl := c3 rfl
    split at h
    · rename_i hb1 hb2
      split at h
      · rename_i hsz
        cases h
        obtain ⟨rfl, rfl, e2⟩ := hx
        subst e2
        have r := sliceBounds_run (P := P) hb1 hb2 c1 c2 (Nat.le_refl _) (Nat.le_refl 0) w
        refine ⟨.slice none 0 0, ?_, ⟨rfl, rfl, rfl⟩⟩
        simp only [Instr.sliceAt, Instr.slice, Sem.run_bind, run_underlying hu, Result.andThen_ok, r, sizeOf_run hsz, Sem.run_pure, if_true, Nat.sub_zero]
      · cases h
    · cases h
  · cases h

/-- an empty slice without room for more (an object that has no place stands for what it would show) -/
def slice3A (P : Program) (t : TypeId) (x : Value) (lo hi : Option Value) (m : Value) (H : AH) : Option (Value × AH) :=
  match x, hi, P.underlying t with
  | .slice (some p) n _, some hi, some (.slice e) =>
    match boundA lo 0, boundA (some hi) 0, boundA (some m) 0 with
    | some l, some h, some k => if l = h ∧ h = k ∧ k ≤ n ∧ 0 < P.cellsOf e ∧ p.spot = none then some (.slice (some ⟨H.length, 0, none⟩) 0 0, H ++ [.cells [] e false]) else none
    | _, _, _ => none
  | .slice none _ _, some hi, some (.slice e) =>
    match boundA lo 0, boundA (some hi) 0, boundA (some m) 0 with
    | some 0, some 0, some 0 => if 0 < P.cellsOf e then some (.slice none 0 0, H) else none
    | _, _, _ => none
  | _, _, _ => none

theorem bound3_run {P : Program} {v : Value} {k cap : Nat} (h : boundA (some v) 0 = some k) (hl : k ≤ cap) (w : World) (code : BoundsCode) : (Instr.sliceBound v cap code).run P w = .ok k w := by
  unfold boundA at h
  split at h
  · rename_i e; cases e
  · rename_i kk m e
    cases e
    split at h
    · rename_i h0
      cases h
      simp only [Instr.sliceBound, asIntOf, Sem.run_bind, Sem.run_pure, Result.andThen_ok]
      rw [if_pos ⟨h0, by omega⟩]; rfl
    · cases h
  · cases h

theorem slice3A_run {P : Program} {μ : Mu} {H H' : AH} {w : World} (hH : HRel P μ H w) {t : TypeId} {x cx v m : Value} {lo hi clo chi : Option Value} (h : slice3A P t x lo hi m H = some (v, H'))
    (hx : TRel μ x cx) (c1 : BRel lo clo) (c2 : BRel hi chi) {cm : Value} (c3 : BRel (some m) (some cm)) :
    ∃ cv, (Instr.sliceAt t cx clo chi (some cm)).run P w = .ok cv w ∧ TRel μ v cv ∧ HRel P μ H' w ∧ Evo μ H w μ H' w := by
  have key : ∀ {a b : Option Value} {va : Value}, a = some va → BRel a b → b = some va := by
    intro a b va e hb
    rcases hb with ⟨e1, _⟩ | ⟨k, n, e1, e2⟩
    · rw [e1] at e; cases e
    · rw [e1] at e; cases e; exact e2
  have em := key rfl c3
  cases em
  unfold slice3A at h
  split at h
  · rename_i p n c hi e hu
    have eh := key rfl c2
    subst eh
    split at h
    · rename_i l hh k hb1 hb2 hb3
      split at h
      · rename_i hc
        obtain ⟨rfl, rfl, g2, hsz, hsp⟩ := hc
        cases h
        obtain ⟨e1, rfl, a, cap, e3, hm, e4⟩ := hx
        subst e3
        have r1 := bound3_run (P := P) hb3 (show l ≤ cap by omega) w .slice3Acap
        have r2 := bound3_run (P := P) hb2 (Nat.le_refl l) w .slice3B
        have r3 : ((match clo with | some v => Instr.sliceBound v l .slice3C | none => pure 0) : Sem Nat).run P w = .ok l w := by
          rcases c1 with ⟨rfl, rfl⟩ | ⟨k, n, rfl, rfl⟩
          · simp only [boundA, Option.some.injEq] at hb1; subst hb1; rfl
          · exact bound3_run (P := P) hb1 (Nat.le_refl l) w .slice3C
        refine ⟨.slice (some a) 0 0, ?_, ⟨rfl, rfl, a, 0, rfl, Nat.le_refl _, .inl rfl⟩, hH.phantom _, (Evo.refl _ _ _).phantom hH _⟩
        simp only [Instr.sliceAt, Instr.slice, Sem.run_bind, run_underlying hu, Result.andThen_ok, Instr.sliceBounds, r1, r2, if_true, Option.isSome_some]
        cases clo with
        | none =>
          simp only [Sem.run_pure, Result.ok.injEq, and_true] at r3
          subst r3
          simp only [Sem.run_bind, Sem.run_pure, Result.andThen_ok, sizeOf_run hsz, if_true, Nat.sub_self]
        | some v => 
          simp only [Sem.run_bind, r3, Sem.run_pure, Result.andThen_ok, sizeOf_run hsz, if_true, Nat.sub_self]
      · cases h
    · cases h
  · rename_i n c hi e hu
    have eh := key rfl c2
    subst eh
    split at h
    · rename_i hb1 hb2 hb3
      split at h
      · rename_i hsz
        cases h
        obtain ⟨rfl, rfl, e2⟩ := hx
        subst e2
        have r1 := bound3_run (P := P) hb3 (Nat.le_refl 0) w .slice3Acap
        have r2 := bound3_run (P := P) hb2 (Nat.le_refl 0) w .slice3B
        have r3 : ((match clo with | some v => Instr.sliceBound v 0 .slice3C | none => pure 0) : Sem Nat).run P w = .ok 0 w := by
          rcases c1 with ⟨rfl, rfl⟩ | ⟨k, n, rfl, rfl⟩
          · rfl
          · exact bound3_run (P := P) hb1 (Nat.le_refl 0) w .slice3C
        refine ⟨.slice none 0 0, ?_, ⟨rfl, rfl, rfl⟩, hH, Evo.refl _ _ _⟩
        simp only [Instr.sliceAt, Instr.slice, Sem.run_bind, run_underlying hu, Result.andThen_ok, Instr.sliceBounds, r1, r2, if_true, Option.isSome_some]
        cases clo with
        | none => simp only [Sem.run_bind, Sem.run_pure, Result.andThen_ok, sizeOf_run hsz, if_true, Nat.sub_self]
        | some v => simp only [Sem.run_bind, r3, Sem.run_pure, Result.andThen_ok, sizeOf_run hsz, if_true, Nat.sub_self]
      · cases h
    · cases h
  · cases h

end Go.Proofs.Ytnoihoeaconllaa.Ai
