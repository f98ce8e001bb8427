/- Texts of this claim, joined: ReachP, Has, Put, CycP, IdxP, SrtP, Clone, Swp, Reach, Roads, Two, EvenQ, PcP, MatP, Seq, Perm, Match, DfB, PcI, PcS, AltP, MatA, MatW. -/
import Derived.Test.YtlfongfhbkefmaaProg
import Derived.KernelRfl
import Derived.RangeFuncBox
import Derived.RangeFuncLeaves
import Derived.Shelf.Abstract
import Derived.WalkKit
import Derived.OwnWalkIn
import Derived.TacticsInMore
import Derived.LoopNIn
import Derived.LoopIn
import Derived.Maps.AppendAt
import Derived.Test.YtlfongfhbkefmaaMgLawSqS3
namespace Go.Proofs.Ytlfongfhbkefmaa.Ai
open Go
set_option linter.unusedVariables false
def rcIn (es : List (Int × Int)) (out : List Int) (y : Int) : List Int := if y ∈ out then out else if (out.any fun o => nearB es o y) = true then put out y else out
def rcRound (es : List (Int × Int)) (set out : List Int) : List Int := set.foldl (rcIn es) out
def rcIter (es : List (Int × Int)) (set : List Int) : Nat → List Int → List Int
  | 0, o => o
  | k + 1, o => rcRound es set (rcIter es set k o)
/-- the numbers of a set that are reached from one of them -/
def reachL (es : List (Int × Int)) (set : List Int) (x : Int) : List Int := rcIter es set set.length [x]
def pcS (es : List (Int × Int)) (set : List Int) (st : List (List Int) × List Int) (x : Int) : List (List Int) × List Int :=
  if x ∈ st.2 then st else (st.1 ++ [reachL es set x], (reachL es set x).foldl put st.2)
def pcK (es : List (Int × Int)) (set : List Int) (l : List Int) : List (List Int) × List Int := l.foldl (pcS es set) ([], [])
/-- all pieces of a set -/
def piecesL (es : List (Int × Int)) (set : List Int) : List (List Int) := (pcK es set set).1
/-- reached by roads, all of them to places of a kind -/
inductive Rch (adj : Int → Int → Prop) (S : Int → Prop) (x : Int) : Int → Prop
  | refl : Rch adj S x x
  | step {y z : Int} : Rch adj S x y → adj y z → S z → Rch adj S x z
theorem Rch.mono {adj : Int → Int → Prop} {S T : Int → Prop} {x z : Int} (h : Rch adj S x z) (hs : ∀ y, S y → T y) : Rch adj T x z := by
  induction h with
  | refl => exact .refl
  | step _ h1 h2 ih => exact .step ih h1 (hs _ h2)
theorem Rch.in_ {adj : Int → Int → Prop} {S : Int → Prop} {x z : Int} (h : Rch adj S x z) (hx : S x) : S z := by
  cases h with
  | refl => exact hx
  | step _ _ h2 => exact h2
theorem nodup_le {a b : List Int} (ha : a.Nodup) (h : ∀ x ∈ a, x ∈ b) : a.length ≤ b.length := by
  induction a generalizing b with
  | nil => simp
  | cons x a ih =>
    have hx : x ∈ b := h x (by simp)
    rw [List.nodup_cons] at ha
    have hl := List.length_erase_of_mem hx
    have hp := List.length_pos_of_mem hx
    have := ih (b := b.erase x) ha.2 fun y hy => (List.mem_erase_of_ne (fun e : y = x => ha.1 (by rw [← e]; exact hy))).2 (h y (by simp [hy]))
    simp only [List.length_cons]
    omega
theorem lt_nodup {l : List Int} (h : l.Pairwise (· < ·)) : l.Nodup := h.imp fun h => by omega
theorem rcIn_mem (es : List (Int × Int)) (out : List Int) (y : Int) {z : Int} (h : z ∈ out) : z ∈ rcIn es out y := by
  unfold rcIn
  split
  · exact h
  · split
    · exact (put_mem _ _ _).2 (.inr h)
    · exact h
theorem fold_mem (es : List (Int × Int)) (set : List Int) : ∀ (out : List Int) {z : Int}, z ∈ out → z ∈ set.foldl (rcIn es) out := by
  induction set with
  | nil => intro out z h; exact h
  | cons y ys ih => intro out z h; exact ih _ (rcIn_mem es out y h)
theorem rcIn_srt (es : List (Int × Int)) (out : List Int) (y : Int) (h : out.Pairwise (· < ·)) : (rcIn es out y).Pairwise (· < ·) := by
  unfold rcIn
  split
  · exact h
  · split
    · exact put_sorted _ _ h
    · exact h
theorem fold_srt (es : List (Int × Int)) (set : List Int) : ∀ (out : List Int), out.Pairwise (· < ·) → (set.foldl (rcIn es) out).Pairwise (· < ·) := by
  induction set with
  | nil => intro out h; exact h
  | cons y ys ih => intro out h; exact ih _ (rcIn_srt es out y h)
theorem rcIn_inv (es : List (Int × Int)) (S : Int → Prop) (x : Int) (out : List Int) (y : Int) (hy : S y) (h : ∀ z ∈ out, Rch (fun a b => nearB es a b = true) S x z) : ∀ z ∈ rcIn es out y, Rch (fun a b => nearB es a b = true) S x z := by
  unfold rcIn
  split
  · exact h
  · split
    · rename_i e
      intro z hz
      rcases (put_mem _ _ _).1 hz with rfl | hz
      · obtain ⟨o, ho, hn⟩ := List.any_eq_true.1 e
        exact .step (h o ho) hn hy
      · exact h z hz
    · exact h
theorem fold_inv (es : List (Int × Int)) (S : Int → Prop) (x : Int) (set : List Int) : ∀ (out : List Int), (∀ y ∈ set, S y) → (∀ z ∈ out, Rch (fun a b => nearB es a b = true) S x z) → ∀ z ∈ set.foldl (rcIn es) out, Rch (fun a b => nearB es a b = true) S x z := by
  induction set with
  | nil => intro out _ h; exact h
  | cons y ys ih => intro out hs h; exact ih _ (fun z hz => hs z (by simp [hz])) (rcIn_inv es S x out y (hs y (by simp)) h)
theorem rcIter_srt (es : List (Int × Int)) (set : List Int) (x : Int) (k : Nat) : (rcIter es set k [x]).Pairwise (· < ·) := by
  induction k with
  | zero => exact List.pairwise_singleton _ _
  | succ k ih => exact fold_srt es set _ ih
theorem rcIter_x (es : List (Int × Int)) (set : List Int) (x : Int) (k : Nat) : x ∈ rcIter es set k [x] := by
  induction k with
  | zero => simp [rcIter]
  | succ k ih => exact fold_mem es set _ ih
theorem rcIter_inv (es : List (Int × Int)) (set : List Int) (x : Int) (k : Nat) : ∀ z ∈ rcIter es set k [x], Rch (fun a b => nearB es a b = true) (· ∈ set) x z := by
  induction k with
  | zero => intro z hz; simp [rcIter] at hz; subst hz; exact .refl
  | succ k ih => exact fold_inv es (· ∈ set) x set _ (fun _ h => h) ih
def Clo (es : List (Int × Int)) (set out : List Int) : Prop := ∀ a ∈ out, ∀ b ∈ set, nearB es a b = true → b ∈ out
theorem fold_get (es : List (Int × Int)) {a b : Int} (hn : nearB es a b = true) : ∀ (set out : List Int), b ∈ set → a ∈ out → b ∈ set.foldl (rcIn es) out
  | [], out, h, _ => by simp at h
  | y :: ys, out, h, ha => by
    rw [List.foldl_cons]
    rcases List.mem_cons.1 h with rfl | h
    · refine fold_mem es ys _ ?_
      unfold rcIn
      split
      · rename_i hm; exact hm
      · rw [if_pos (List.any_eq_true.2 ⟨a, ha, hn⟩)]
        exact (put_mem _ _ _).2 (.inl rfl)
    · exact fold_get es hn ys _ h (rcIn_mem es out y ha)
theorem fold_clo (es : List (Int × Int)) (set : List Int) (out : List Int) (hc : Clo es set out) : ∀ l : List Int, (∀ y ∈ l, y ∈ set) → l.foldl (rcIn es) out = out
  | [], _ => rfl
  | y :: ys, h => by
    have : rcIn es out y = out := by
      unfold rcIn
      split
      · rfl
      · rename_i hm
        rw [if_neg]
        intro e
        obtain ⟨o, ho, hn⟩ := List.any_eq_true.1 e
        exact hm (hc o ho y (h y (by simp)) hn)
    rw [List.foldl_cons, this]
    exact fold_clo es set out hc ys fun z hz => h z (by simp [hz])
theorem rcIter_or (es : List (Int × Int)) (set : List Int) (x : Int) (k : Nat) : Clo es set (rcIter es set k [x]) ∨ k + 1 ≤ (rcIter es set k [x]).length := by
  induction k with
  | zero => exact .inr (by simp [rcIter])
  | succ k ih =>
    by_cases hc : Clo es set (rcIter es set k [x])
    · left
      have : rcIter es set (k + 1) [x] = rcIter es set k [x] := fold_clo es set _ hc set fun _ h => h
      rw [this]; exact hc
    · right
      have ih := ih.resolve_left hc
      have hex : ∃ a b, a ∈ rcIter es set k [x] ∧ b ∈ set ∧ nearB es a b = true ∧ b ∉ rcIter es set k [x] := Classical.byContradiction fun h => hc fun a ha b hb hn => Classical.byContradiction fun hm => h ⟨a, b, ha, hb, hn, hm⟩
      obtain ⟨a, b, ha, hb, hn, hm⟩ := hex
      have hb2 : b ∈ rcIter es set (k + 1) [x] := fold_get es hn set _ hb ha
      have := nodup_le (a := b :: rcIter es set k [x]) (b := rcIter es set (k + 1) [x]) (by
        rw [List.nodup_cons]; exact ⟨hm, lt_nodup (rcIter_srt es set x k)⟩) (by
        intro z hz
        rcases List.mem_cons.1 hz with rfl | hz
        · exact hb2
        · exact fold_mem es set _ hz)
      simp only [List.length_cons] at this
      omega
theorem reach_iff (es : List (Int × Int)) (set : List Int) (x : Int) (hx : x ∈ set) (z : Int) : z ∈ reachL es set x ↔ Rch (fun a b => nearB es a b = true) (· ∈ set) x z := by
  constructor
  · exact rcIter_inv es set x _ z
  · have hc : Clo es set (reachL es set x) := by
      rcases rcIter_or es set x set.length with h | h
      · exact h
      · have := nodup_le (a := rcIter es set set.length [x]) (b := set) (lt_nodup (rcIter_srt es set x _)) fun y hy => (rcIter_inv es set x _ y hy).in_ hx
        omega
    intro h
    induction h with
    | refl => exact rcIter_x es set x _
    | step _ h1 h2 ih => exact hc _ ih _ h2 h1
theorem reach_srt (es : List (Int × Int)) (set : List Int) (x : Int) : (reachL es set x).Pairwise (· < ·) := rcIter_srt es set x _
theorem puts_mem (z : Int) : ∀ (l s : List Int), z ∈ l.foldl put s ↔ z ∈ l ∨ z ∈ s
  | [], s => by simp
  | y :: ys, s => by
    rw [List.foldl_cons, puts_mem z ys, put_mem, List.mem_cons]
    constructor
    · rintro (h | h | h)
      · exact .inl (.inr h)
      · exact .inl (.inl h)
      · exact .inr h
    · rintro ((h | h) | h)
      · exact .inr (.inl h)
      · exact .inl h
      · exact .inr (.inr h)
theorem ptIn_seen {N C : Nat} (v : Nat) (hv : v < N) : ∀ (l : List Int) (st : List Bool × List Int), PI N C st → (∀ y ∈ l, 0 ≤ y ∧ y < N) → ((ptIn l st).1.getD v false = true ↔ (st.1.getD v false = true ∨ (v : Int) ∈ l))
  | [], st, h, _ => by simp [ptIn]
  | j :: r, st, h, hl => by
    have hj := hl j (by simp)
    simp only [ptIn]
    split
    · rename_i hs
      rw [ptIn_seen v hv r st h (fun y hy => hl y (by simp [hy])), List.mem_cons]
      constructor
      · rintro (h1 | h1)
        · exact .inl h1
        · exact .inr (.inr h1)
      · rintro (h1 | h1 | h1)
        · exact .inl h1
        · left; rw [← h1] at hs; simpa using hs
        · exact .inr h1
    · rename_i hn
      have hlen := h.len
      rw [ptIn_seen v hv r _ (h.put hj hn) (fun y hy => hl y (by simp [hy])), List.mem_cons]
      show ((st.1.set j.toNat true).getD v false = true ∨ _) ↔ _
      rw [getD_setBool _ _ _ _ (by omega)]
      by_cases e : j.toNat = v
      · rw [if_pos e]
        have : (v : Int) = j := by omega
        simp [this]
      · rw [if_neg e]
        have : ¬ (v : Int) = j := by omega
        simp [this]
theorem ptIn_q (z : Int) : ∀ (l : List Int) (st : List Bool × List Int), z ∈ (ptIn l st).2 → z ∈ st.2 ∨ (z ∈ l ∧ ¬ st.1.getD z.toNat false = true)
  | [], st, h => .inl h
  | j :: r, st, h => by
    simp only [ptIn] at h
    split at h
    · rcases ptIn_q z r st h with h | ⟨h, h2⟩
      · exact .inl h
      · exact .inr ⟨by simp [h], h2⟩
    · rename_i hn
      rcases ptIn_q z r _ h with h | ⟨h, h2⟩
      · simp only [List.mem_append, List.mem_cons, List.not_mem_nil, or_false] at h
        rcases h with h | rfl
        · exact .inl h
        · exact .inr ⟨by simp, hn⟩
      · refine .inr ⟨by simp [h], fun h3 => h2 ?_⟩
        show (st.1.set j.toNat true).getD z.toNat false = true
        rw [List.getD_eq_getElem?_getD, List.getElem?_set]
        rw [List.getD_eq_getElem?_getD] at h3
        split
        · split
          · rfl
          · rename_i e1 e2
            rw [← e1, List.getElem?_eq_none (by omega)] at h3
            exact h3
        · exact h3
/-- what holds of the queue from a place, all along: s is what was seen before -/
structure QI (L : List (List Int)) (s : List Bool) (x : Nat) (C : Nat) (st : List Bool × List Int) (k : Nat) : Prop where
  pi : PI L.length C st
  seen : ∀ v, v < L.length → (st.1.getD v false = true ↔ (s.getD v false = true ∨ (v : Int) ∈ st.2))
  rch : ∀ z ∈ st.2, Rch (fun a b => b ∈ L.getD a.toNat []) (fun z => 0 ≤ z ∧ z < L.length ∧ ¬ s.getD z.toNat false = true) x z
  cl : ∀ i, i < k → ∀ y ∈ L.getD (st.2.getD i 0).toNat [], st.1.getD y.toNat false = true
  le : k ≤ st.2.length
  x : (x : Int) ∈ st.2
theorem QI.step {L : List (List Int)} (hL : LOk L.length L) {s : List Bool} {x C : Nat} {st : List Bool × List Int} {k : Nat} (h : QI L s x C st k) (hk : k < st.2.length) : QI L s x C (ptIn (L.getD (st.2.getD k 0).toNat []) st) (k + 1) := by
  have hpre := ptIn_pre (L.getD (st.2.getD k 0).toNat []) st
  have hPI := PI.inn _ h.pi (hL (st.2.getD k 0).toNat)
  have hm : st.2.getD k 0 ∈ st.2 := by simp [hk]
  have hsn : ∀ v, v < L.length → _ := fun v hv => ptIn_seen v hv (L.getD (st.2.getD k 0).toNat []) st h.pi (hL _)
  refine ⟨hPI, ?_, ?_, ?_, ?_, hpre.subset h.x⟩
  · intro v hv
    constructor
    · intro hh
      rcases (hsn v hv).1 hh with h1 | h1
      · rcases (h.seen v hv).1 h1 with h2 | h2
        · exact .inl h2
        · exact .inr (hpre.subset h2)
      · by_cases h2 : st.1.getD v false = true
        · rcases (h.seen v hv).1 h2 with h2 | h2
          · exact .inl h2
          · exact .inr (hpre.subset h2)
        · right
          -- it is put into the queue
          have key : ∀ (l : List Int) (st : List Bool × List Int), PI L.length C st → (∀ y ∈ l, 0 ≤ y ∧ y < L.length) → (v : Int) ∈ l → ¬ st.1.getD v false = true → (v : Int) ∈ (ptIn l st).2 := by
            intro l
            induction l with
            | nil => intro st _ _ h3; simp at h3
            | cons j r ih =>
              intro st hp hl h3 h4
              have hj := hl j (by simp)
              simp only [ptIn]
              by_cases e : j = (v : Int)
              · subst e
                rw [Int.toNat_natCast, if_neg h4]
                exact (ptIn_pre r _).subset (by simp)
              · have h3' : (v : Int) ∈ r := by
                  rcases List.mem_cons.1 h3 with h | h
                  · exact absurd h.symm e
                  · exact h
                split
                · exact ih st hp (fun y hy => hl y (by simp [hy])) h3' h4
                · rename_i hn
                  refine ih _ (hp.put hj hn) (fun y hy => hl y (by simp [hy])) h3' ?_
                  show ¬ (st.1.set j.toNat true).getD v false = true
                  have := hp.len
                  rw [getD_setBool _ _ _ _ (by omega), if_neg (by omega)]
                  exact h4
          exact key _ st h.pi (hL _) h1 h2
    · rintro (h1 | h1)
      · exact (hsn v hv).2 (.inl ((h.seen v hv).2 (.inl h1)))
      · obtain ⟨_, h2⟩ := hPI.q _ h1
        simpa using h2
  · intro z hz
    rcases ptIn_q z _ st hz with h1 | ⟨h1, h2⟩
    · exact h.rch z h1
    · have hr := hL _ z h1
      refine .step (h.rch _ hm) h1 ⟨hr.1, hr.2, fun h3 => h2 ?_⟩
      exact (h.seen z.toNat (by omega)).2 (.inl h3)
  · intro i hi y hy
    have hg : (ptIn (L.getD (st.2.getD k 0).toNat []) st).2.getD i 0 = st.2.getD i 0 := by
      obtain ⟨t, ht⟩ := hpre
      rw [← ht, List.getD_eq_getElem?_getD, List.getElem?_append_left (by omega), ← List.getD_eq_getElem?_getD]
    rw [hg] at hy
    have hr := hL _ y hy
    refine (hsn y.toNat (by omega)).2 ?_
    by_cases e : i = k
    · subst e
      right
      rw [Int.toNat_of_nonneg hr.1]; exact hy
    · exact .inl (h.cl i (by omega) y hy)
  · have := hpre.length_le
    by_cases e : (ptIn (L.getD (st.2.getD k 0).toNat []) st).2.length = st.2.length <;> omega
theorem QI.run {L : List (List Int)} (hL : LOk L.length L) {s : List Bool} {x C : Nat} : ∀ (f : Nat) (st : List Bool × List Int) (k : Nat), f + k = L.length + 1 → QI L s x C st k → QI L s x C (ptF L f st k) (ptF L f st k).2.length
  | 0, st, k, hf, h => by have := h.pi.len_le; have := h.le; omega
  | f + 1, st, k, hf, h => by
    simp only [ptF]
    split
    · rename_i hk
      exact QI.run hL f _ _ (by omega) (h.step hL hk)
    · have : k = st.2.length := by have := h.le; omega
      rw [← this]; exact h
theorem srt_ext {a b : List Int} (ha : a.Pairwise (· < ·)) (hb : b.Pairwise (· < ·)) (h : ∀ z, z ∈ a ↔ z ∈ b) : a = b := by
  have hp : a.Perm b := (List.perm_ext_iff_of_nodup (lt_nodup ha) (lt_nodup hb)).2 h
  exact List.Perm.eq_of_pairwise (le := (· < ·)) (fun x y _ _ h1 h2 => by omega) ha hb hp
end Go.Proofs.Ytlfongfhbkefmaa.Ai
namespace Go.Proofs.Ytlfongfhbkefmaa.Ai
open Go
def ords144 : List (Nat × List (Nat × Bool)) := []
def cd144 : Cd := (.seq (.reg [⟨⟨some 4, Op.assign (Operand.const (Value.bool false)), none⟩, []⟩]) (.seq (.seq (.reg [⟨⟨some 5, Op.assign (Operand.const (Value.int IntKind.i64 0)), none⟩, []⟩]) (.block 0 (.loop (.seq (.seq (.reg [⟨⟨some 6, Op.move (Operand.tmp 5), none⟩, []⟩,
  ⟨⟨some 7, Op.move (Operand.tmp 0), none⟩, []⟩,
  ⟨⟨some 8, Op.call { callee := (Callee.builtin Builtin.len), args := #[(Operand.tmp 7)], argTypes := #[38] }, none⟩, []⟩,
  ⟨⟨some 9, Op.binOp BinOp.lss 3 (Operand.tmp 6) (Operand.tmp 8) 3, none⟩, []⟩]) (.cond (Operand.tmp 9) .skip (.exit 0))) (.seq (.block 1 (.seq (.reg [⟨⟨some 12, Op.move (Operand.tmp 0), none⟩, []⟩,
  ⟨⟨some 13, Op.move (Operand.tmp 5), none⟩, []⟩,
  ⟨⟨some 14, Op.indexAddr 38 (Operand.tmp 12) (Operand.tmp 13), none⟩, []⟩,
  ⟨⟨some 15, Op.load 3 (Operand.tmp 14), none⟩, []⟩,
  ⟨⟨some 16, Op.move (Operand.tmp 1), none⟩, []⟩,
  ⟨⟨some 17, Op.binOp BinOp.eql 3 (Operand.tmp 15) (Operand.tmp 16) 3, none⟩, []⟩]) (.cond (Operand.tmp 17) (.seq (.reg [⟨⟨some 4, Op.assign (Operand.const (Value.bool true)), none⟩, []⟩]) .ret) .skip))) (.reg [⟨⟨some 10, Op.move (Operand.tmp 5), none⟩, []⟩,
  ⟨⟨some 11, Op.binOp BinOp.add 3 (Operand.tmp 10) (Operand.const (Value.int IntKind.i64 1)) 3, none⟩, []⟩,
  ⟨⟨some 5, Op.assign (Operand.tmp 11), none⟩, []⟩])))))) (.seq (.reg [⟨⟨some 4, Op.assign (Operand.const (Value.bool false)), none⟩, []⟩]) .ret)))
theorem sl144 : slim Try.f144.ntmps ords144 (Try.f144.body.getD .skip) = some cd144 := by kernel_rfl
theorem in144 {args : List Value} {H : AH} {R : Value → AH → Prop} (hl : args.length = 2) (h : ∀ (Q : Exit → Sl → AH → Prop), (∀ e s H, endA Try.prog [ResultVar.tmp 4] R e s H → Q e s H) → wpC Try.prog cd144 Q (enterA args) H) : ACalls Try.prog 144 args H R :=
  ACalls.intro (by kernel_rfl) Try.func144 rfl (by kernel_rfl) sl144 hl (of_decide_eq_true (by kernel_rfl)) (by kernel_rfl) h
end Go.Proofs.Ytlfongfhbkefmaa.Ai
namespace Go.Proofs.Ytlfongfhbkefmaa.Ai
open Go Go.RowKit
set_option linter.unusedVariables false
set_option linter.unusedSimpArgs false
theorem l1Has_c (v : Value) (xs : List Int) (x : Int) (H : AH) (hr : Row 3 H v xs) (hlen : xs.length ≤ 1099511627776) : ACalls Try.prog 144 [v, .int .i64 x] H fun r H' => r = .bool (decide (x ∈ xs)) ∧ H = H' := by
  refine in144 rfl ?_
  intro Q hQ
  simp (maxSteps := 1000000) (disch := omega) only [cd144, S, S1, S2, S3, S4, S5, ST, eq_self, reduceIte, reduceCtorEq, Nat.reduceEqDiff, Nat.reduceAdd]
  refine LoopH.by (fun m s H' => ∃ i, m + i = xs.length ∧ s 0 = v ∧ s 1 = .int .i64 x ∧ s 5 = .int .i64 ((i : Nat) : Int) ∧ H = H' ∧ x ∉ xs.take i) xs.length ?_ ?_
  · exact ⟨0, by simp, rfl, rfl, rfl, rfl, by simp⟩
  · rintro m s H' ⟨i, hm, h0, h1, h5, rfl, hn⟩
    simp (maxSteps := 1000000) (disch := omega) only [h0, h1, h5, hr.len Try.underlying38, S, S1, S2, S3, S4, S5, ST, eq_self, reduceIte, reduceCtorEq, Nat.reduceEqDiff, Nat.reduceAdd]
    refine brD.intro (fun g => ?_) (fun g => ?_) <;> simp (maxSteps := 1000000) (disch := omega) only [h0, h1, h5, hr.ix Try.underlying38 cs3, hr.cell, Int.toNat_natCast, S, S1, S2, S3, S4, S5, ST, eq_self, reduceIte, reduceCtorEq, Nat.reduceEqDiff, Nat.reduceAdd]
    · have hi : i < xs.length := by omega
      have hg : xs.getD i 0 = xs[i] := by simp [hi]
      refine brD.intro (fun e => ?_) (fun e => ?_) <;> simp (maxSteps := 1000000) (disch := omega) only [h0, h1, h5, wrap64, S, S1, S2, S3, S4, S5, ST, eq_self, reduceIte, reduceCtorEq, Nat.reduceEqDiff, Nat.reduceAdd]
      · refine hQ _ _ _ ?_
        simp (maxSteps := 1000000) (disch := omega) only [S, S1, S2, S3, S4, S5, ST, eq_self, reduceIte, reduceCtorEq, Nat.reduceEqDiff, Nat.reduceAdd]
        rw [hg] at e
        have : x ∈ xs := e ▸ List.getElem_mem hi
        simp [this]
      · refine ⟨m - 1, by omega, i + 1, by omega, by simp, ?_⟩
        rw [List.take_add_one, List.getElem?_eq_getElem hi]
        rw [hg] at e
        simp only [Option.toList_some, List.mem_append, List.mem_singleton, not_or]
        exact ⟨hn, fun e' => e e'.symm⟩
    · refine hQ _ _ _ ?_
      simp (maxSteps := 1000000) (disch := omega) only [S, S1, S2, S3, S4, S5, ST, eq_self, reduceIte, reduceCtorEq, Nat.reduceEqDiff, Nat.reduceAdd]
      rw [List.take_of_length_le (by omega)] at hn
      simp [hn]
end Go.Proofs.Ytlfongfhbkefmaa.Ai
namespace Go.Proofs.Ytlfongfhbkefmaa.Ai
open Go
def ords86 : List (Nat × List (Nat × Bool)) := [(6, [(0, false), (1, false), (2, false), (3, false), (5, false), (6, false), (8, false), (9, false), (10, false), (4, true), (7, true), (11, true), (12, false)])]
def cd86 : Cd := (.seq (.reg [⟨⟨some 4, Op.assign (Operand.const (Value.slice none 0 0)), none⟩, []⟩]) (.seq (.reg [⟨⟨some 5, Op.assign (Operand.const (Value.int IntKind.i64 0)), none⟩, []⟩]) (.seq (.block 0 (.loop (.seq (.seq (.reg [⟨⟨some 6, Op.move (Operand.tmp 5), none⟩, []⟩,
  ⟨⟨some 7, Op.move (Operand.tmp 0), none⟩, []⟩,
  ⟨⟨some 8, Op.call { callee := (Callee.builtin Builtin.len), args := #[(Operand.tmp 7)], argTypes := #[38] }, none⟩, []⟩,
  ⟨⟨some 9, Op.binOp BinOp.lss 3 (Operand.tmp 6) (Operand.tmp 8) 3, none⟩, []⟩,
  ⟨⟨some 10, Op.move (Operand.tmp 9), none⟩, []⟩,
  ⟨⟨some 11, Op.move (Operand.tmp 0), some (10, true)⟩, []⟩,
  ⟨⟨some 12, Op.move (Operand.tmp 5), some (10, true)⟩, []⟩,
  ⟨⟨some 13, Op.indexAddr 38 (Operand.tmp 11) (Operand.tmp 12), some (10, true)⟩, []⟩,
  ⟨⟨some 14, Op.load 3 (Operand.tmp 13), some (10, true)⟩, []⟩,
  ⟨⟨some 15, Op.move (Operand.tmp 1), some (10, true)⟩, []⟩,
  ⟨⟨some 16, Op.binOp BinOp.lss 3 (Operand.tmp 14) (Operand.tmp 15) 3, some (10, true)⟩, []⟩,
  ⟨⟨some 17, Op.pick (Operand.tmp 10) (Operand.tmp 16) (Operand.const (Value.bool false)), none⟩, []⟩]) (.cond (Operand.tmp 17) .skip (.exit 0))) (.block 1 (.reg [⟨⟨some 18, Op.move (Operand.tmp 5), none⟩, []⟩,
  ⟨⟨some 19, Op.binOp BinOp.add 3 (Operand.tmp 18) (Operand.const (Value.int IntKind.i64 1)) 3, none⟩, []⟩,
  ⟨⟨some 5, Op.assign (Operand.tmp 19), none⟩, []⟩]))))) (.seq (.seq (.reg [⟨⟨some 20, Op.move (Operand.tmp 5), none⟩, []⟩,
  ⟨⟨some 21, Op.move (Operand.tmp 0), none⟩, []⟩,
  ⟨⟨some 22, Op.call { callee := (Callee.builtin Builtin.len), args := #[(Operand.tmp 21)], argTypes := #[38] }, none⟩, []⟩,
  ⟨⟨some 23, Op.binOp BinOp.lss 3 (Operand.tmp 20) (Operand.tmp 22) 3, none⟩, []⟩,
  ⟨⟨some 24, Op.move (Operand.tmp 23), none⟩, []⟩,
  ⟨⟨some 25, Op.move (Operand.tmp 0), some (24, true)⟩, []⟩,
  ⟨⟨some 26, Op.move (Operand.tmp 5), some (24, true)⟩, []⟩,
  ⟨⟨some 27, Op.indexAddr 38 (Operand.tmp 25) (Operand.tmp 26), some (24, true)⟩, []⟩,
  ⟨⟨some 28, Op.load 3 (Operand.tmp 27), some (24, true)⟩, []⟩,
  ⟨⟨some 29, Op.move (Operand.tmp 1), some (24, true)⟩, []⟩,
  ⟨⟨some 30, Op.binOp BinOp.eql 3 (Operand.tmp 28) (Operand.tmp 29) 3, some (24, true)⟩, []⟩,
  ⟨⟨some 31, Op.pick (Operand.tmp 24) (Operand.tmp 30) (Operand.const (Value.bool false)), none⟩, []⟩]) (.cond (Operand.tmp 31) (.seq (.reg [⟨⟨some 32, Op.move (Operand.tmp 0), none⟩, []⟩,
  ⟨⟨some 4, Op.assign (Operand.tmp 32), none⟩, []⟩]) .ret) .skip)) (.seq (.reg [⟨⟨some 33, Op.buildSlice 38 0 #[], none⟩, []⟩,
  ⟨⟨some 34, Op.move (Operand.tmp 0), none⟩, []⟩,
  ⟨⟨some 35, Op.move (Operand.tmp 5), none⟩, []⟩,
  ⟨⟨some 36, Op.slice 38 (Operand.tmp 34) none (some (Operand.tmp 35)) none, none⟩, []⟩,
  ⟨⟨some 38, Op.move (Operand.tmp 1), none⟩, []⟩,
  ⟨⟨some 39, Op.buildSlice 38 1 #[(0, (Operand.tmp 38))], none⟩, []⟩,
  ⟨⟨some 41, Op.move (Operand.tmp 0), none⟩, []⟩,
  ⟨⟨some 42, Op.move (Operand.tmp 5), none⟩, []⟩,
  ⟨⟨some 43, Op.slice 38 (Operand.tmp 41) (some (Operand.tmp 42)) none none, none⟩, []⟩,
  ⟨⟨some 37, Op.call { callee := (Callee.builtin Builtin.append), args := #[(Operand.tmp 33), (Operand.tmp 36)], argTypes := #[38, 38] }, none⟩, [⟨some 43, Op.slice 38 (Operand.tmp 41) (some (Operand.tmp 42)) none none, none⟩, ⟨some 39, Op.buildSlice 38 1 #[(0, (Operand.tmp 38))], none⟩]⟩,
  ⟨⟨some 40, Op.call { callee := (Callee.builtin Builtin.append), args := #[(Operand.tmp 37), (Operand.tmp 39)], argTypes := #[38, 38] }, none⟩, [⟨some 43, Op.slice 38 (Operand.tmp 41) (some (Operand.tmp 42)) none none, none⟩]⟩,
  ⟨⟨some 44, Op.call { callee := (Callee.builtin Builtin.append), args := #[(Operand.tmp 40), (Operand.tmp 43)], argTypes := #[38, 38] }, none⟩, []⟩,
  ⟨⟨some 4, Op.assign (Operand.tmp 44), none⟩, []⟩]) .ret)))))
theorem sl86 : slim Try.f86.ntmps ords86 (Try.f86.body.getD .skip) = some cd86 := by kernel_rfl
theorem in86 {args : List Value} {H : AH} {R : Value → AH → Prop} (hl : args.length = 2) (h : ∀ (Q : Exit → Sl → AH → Prop), (∀ e s H, endA Try.prog [ResultVar.tmp 4] R e s H → Q e s H) → wpC Try.prog cd86 Q (enterA args) H) : ACalls Try.prog 86 args H R :=
  ACalls.intro (by kernel_rfl) Try.func86 rfl (by kernel_rfl) sl86 hl (of_decide_eq_true (by kernel_rfl)) (by kernel_rfl) h
end Go.Proofs.Ytlfongfhbkefmaa.Ai
namespace Go.Proofs.Ytlfongfhbkefmaa.Ai
open Go Go.RowKit
set_option linter.unusedVariables false
set_option linter.unusedSimpArgs false
set_option maxHeartbeats 2000000 in
theorem l1Put_c (v : Value) (l : List Int) (x : Int) (H : AH) (hr : Row 3 H v l) (hlen : l.length ≤ 1000000) (hx : x ∉ l) :
    ACalls Try.prog 86 [v, .int .i64 x] H fun r H' => Own 3 H H' r (put l x) ∧ H <+: H' := by
  refine in86 rfl ?_
  intro Q hQ
  simp (maxSteps := 1000000) (disch := omega) only [cd86, S, S1, S2, S3, S4, S5, ST, eq_self, reduceIte, reduceCtorEq, Nat.reduceEqDiff, Nat.reduceAdd]
  refine LoopH.by (fun m s H' => ∃ i, m + i = l.length ∧ s 0 = v ∧ s 1 = .int .i64 x ∧ s 5 = .int .i64 ((i : Nat) : Int) ∧ H = H' ∧ ∀ j, j < i → l.getD j 0 < x) l.length ?_ ?_
  · exact ⟨0, by simp, rfl, rfl, rfl, rfl, by omega⟩
  · rintro m s H' ⟨i, hm, h0, h1, h5, rfl, hlt⟩
    have fin : (i < l.length → x ≤ l.getD i 0) → put l x = l.take i ++ x :: l.drop i := by
      intro h
      rw [putAt_eq0 l x i (by omega) hlt h, if_neg]
      rintro ⟨hi, e⟩
      apply hx
      have : l.getD i 0 = l[i] := by simp [hi]
      rw [← e, this]; exact List.getElem_mem hi
    have last : (i < l.length → x ≤ l.getD i 0) → ∀ s' : Sl, s' 0 = v → s' 1 = .int .i64 x → s' 5 = .int .i64 ((i : Nat) : Int) → True := fun _ _ _ _ _ => trivial
    -- the list made anew
    have hp1 := List.prefix_append H [AObj.cells [] 3 false]
    have hp2 : H <+: H ++ [AObj.cells [] 3 false] ++ [AObj.cells [.int .i64 x] 3 false] := pre_app hp1 _
    have sl1 : ∀ H1, H <+: H1 → sliceA Try.prog 38 v none (some (.int .i64 ((i : Nat) : Int))) none H1 = some (subV v 0 i) ∧ Row 3 H1 (subV v 0 i) (l.take i) := by
      intro H1 hp
      have h := (hr.pre hp).slice Try.underlying38 cs3 (lo := none) (hi := some (.int .i64 ((i : Nat) : Int))) lo_none (bound_some (by omega) _) (by omega) (by simp; omega)
      simp only [Int.toNat_natCast, List.drop_zero, Nat.sub_zero] at h
      exact ⟨h.1, h.2.1⟩
    have sl2 : ∀ H1, H <+: H1 → sliceA Try.prog 38 v (some (.int .i64 ((i : Nat) : Int))) none none H1 = some (subV v i l.length) ∧ Row 3 H1 (subV v i l.length) (l.drop i) := by
      intro H1 hp
      have h := (hr.pre hp).slice Try.underlying38 cs3 (lo := some (.int .i64 ((i : Nat) : Int))) (hi := none) (bound_some (by omega) _) (hi_none _) (by simp; omega) (Nat.le_refl _)
      simp only [Int.toNat_natCast] at h
      refine ⟨h.1, ?_⟩
      have e : (l.drop i).take (l.length - i) = l.drop i := List.take_of_length_le (by simp)
      rw [← e]; exact h.2.1
    have ho0 : Own 3 H (H ++ [AObj.cells [] 3 false] ++ [AObj.cells [.int .i64 x] 3 false]) (.slice (some ⟨H.length, 0, none⟩) 0 0) [] := .inr ⟨H.length, rfl, Nat.le_refl _, at_app (at_new ..) _⟩
    obtain ⟨w1, H3, k1, o1, p1, e1, _⟩ := ho0.app (P := Try.prog) (t := 38) Try.underlying38 cs3 (by rw [by3]; decide) zk3 (sl1 _ hp2).2 hp2 (by simp; omega)
    simp only [List.nil_append] at o1
    have c3 : H3[(H ++ [AObj.cells [] 3 false]).length]? = some (.cells [.int .i64 x] 3 false) := e1 _ _ (.inr (by simp [rowO])) (at_new ..)
    have c2 : (H ++ [AObj.cells [] 3 false] ++ [AObj.cells [.int .i64 x] 3 false])[(H ++ [AObj.cells [] 3 false]).length]? = some (.cells [.int .i64 x] 3 false) := at_new ..
    have r39 : Row 3 H3 (.slice (some ⟨(H ++ [AObj.cells [] 3 false]).length, 0, none⟩) 1 1) [x] := .inr ⟨_, 0, [.int .i64 x], false, rfl, c3, by simp, rfl⟩
    obtain ⟨w2, H4, k2, o2, p2, e2, _⟩ := o1.app (P := Try.prog) (t := 38) Try.underlying38 cs3 (by rw [by3]; decide) zk3 r39 p1 (by simp; omega)
    obtain ⟨w3, H5, k3, o3, p3, e3, _⟩ := o2.app (P := Try.prog) (t := 38) Try.underlying38 cs3 (by rw [by3]; decide) zk3 (sl2 _ p2).2 p2 (by simp; omega)
    have hcat : l.take i ++ [x] ++ l.drop i = l.take i ++ x :: l.drop i := by simp
    simp (maxSteps := 1000000) (disch := omega) only [h0, h1, h5, hr.len Try.underlying38, S, S1, S2, S3, S4, S5, ST, eq_self, reduceIte, reduceCtorEq, Nat.reduceEqDiff, Nat.reduceAdd]
    refine brD.intro (fun g => ?_) (fun g => ?_)
    · have hi : i < l.length := by omega
      simp (maxSteps := 1000000) (disch := omega) only [g, h0, h1, h5, hr.ix Try.underlying38 cs3, hr.cell, Int.toNat_natCast, S, S1, S2, S3, S4, S5, ST, eq_self, reduceIte, reduceCtorEq, Nat.reduceEqDiff, Nat.reduceAdd]
      refine brD.intro (fun e => ?_) (fun e => ?_)
      · simp (maxSteps := 1000000) (disch := omega) only [h0, h1, h5, wrap64, S, S1, S2, S3, S4, S5, ST, eq_self, reduceIte, reduceCtorEq, Nat.reduceEqDiff, Nat.reduceAdd]
        have fx : ∀ j, j < i + 1 → l.getD j 0 < x := by
          intro j hj
          by_cases ej : j = i
          · subst ej; exact e
          · exact hlt j (by omega)
        refine ⟨m - 1, by omega, i + 1, ?_⟩
        (repeat' apply And.intro) <;> first | exact fx | (simp only [Value.int.injEq, true_and]; omega) | omega | rfl | assumption | (simp; done) | (simp; omega)
      · have hne : ¬ l.getD i 0 = x := fun h => hx (by
          have : l.getD i 0 = l[i] := by simp [hi]
          rw [← h, this]; exact List.getElem_mem hi)
        simp (maxSteps := 1000000) (disch := omega) only [g, h0, h1, h5, hr.len Try.underlying38, hr.ix Try.underlying38 cs3, hr.cell, Int.toNat_natCast, S, S1, S2, S3, S4, S5, ST, eq_self, reduceIte, reduceCtorEq, Nat.reduceEqDiff, Nat.reduceAdd]
        refine brD.intro (fun h => absurd h hne) (fun hne => ?_)
        simp (maxSteps := 1000000) (disch := omega) only [hne, g, h0, h1, h5, (sl1 _ hp1).1, (sl2 _ hp2).1, k1, k2, k3, (sl2 _ p1).1, (sl2 _ p2).1, c2, c3, S, S1, S2, S3, S4, S5, ST, eq_self, reduceIte, reduceCtorEq, Nat.reduceEqDiff, Nat.reduceAdd]
        refine hQ _ _ _ ?_
        simp (maxSteps := 1000000) (disch := omega) only [o3.row.tup, S, S1, S2, S3, S4, S5, ST, eq_self, reduceIte, reduceCtorEq, Nat.reduceEqDiff, Nat.reduceAdd]
        rw [fin (fun _ => by omega), ← hcat]
        exact ⟨o3, p3⟩
    · simp (maxSteps := 1000000) (disch := omega) only [g, h0, h1, h5, hr.len Try.underlying38, S, S1, S2, S3, S4, S5, ST, eq_self, reduceIte, reduceCtorEq, Nat.reduceEqDiff, Nat.reduceAdd]
      simp (maxSteps := 1000000) (disch := omega) only [h0, h1, h5, (sl1 _ hp1).1, (sl2 _ hp2).1, k1, k2, k3, (sl2 _ p1).1, (sl2 _ p2).1, c2, c3, g, S, S1, S2, S3, S4, S5, ST, eq_self, reduceIte, reduceCtorEq, Nat.reduceEqDiff, Nat.reduceAdd]
      refine hQ _ _ _ ?_
      simp (maxSteps := 1000000) (disch := omega) only [o3.row.tup, S, S1, S2, S3, S4, S5, ST, eq_self, reduceIte, reduceCtorEq, Nat.reduceEqDiff, Nat.reduceAdd]
      rw [fin (fun _ => by omega), ← hcat]
      exact ⟨o3, p3⟩
end Go.Proofs.Ytlfongfhbkefmaa.Ai
namespace Go.Proofs.Ytlfongfhbkefmaa.Ai
open Go
theorem prm_range {p : List Int} (h : Prm p) : (∀ i, i < p.length → 0 ≤ p.getD i 0 ∧ p.getD i 0 < p.length) ∧ ∀ i j, i < p.length → j < p.length → p.getD i 0 = p.getD j 0 → i = j := by
  have hm := List.mergeSort_perm p (fun x y => decide (x ≤ y))
  have hs : (p.mergeSort (fun x y => decide (x ≤ y))).Pairwise (fun x y => decide (x ≤ y) = true) := List.pairwise_mergeSort (fun a b c h1 h2 => by simp at *; omega) (fun a b => by simp; omega) p
  have ha : Asc (p.mergeSort (fun x y => decide (x ≤ y))) := by
    intro i j hij hj
    rw [List.pairwise_iff_getElem] at hs
    have := hs i j (by omega) hj hij
    simp only [decide_eq_true_eq] at this
    rw [List.getD_eq_getElem?_getD, List.getD_eq_getElem?_getD, List.getElem?_eq_getElem hj, List.getElem?_eq_getElem (show i < (p.mergeSort (fun x y => decide (x ≤ y))).length by omega)]
    exact this
  have hat := prm_at h hm ha
  have hl := hm.length_eq
  generalize p.mergeSort (fun x y => decide (x ≤ y)) = ys at *
  have mem : ∀ y ∈ p, 0 ≤ y ∧ y < p.length := by
    intro y hy
    obtain ⟨i, hi, e⟩ := pos_ex (hm.mem_iff.2 hy)
    rw [hat i hi] at e
    omega
  have nd : ys.Nodup := by
    rw [List.Nodup, List.pairwise_iff_getElem]
    intro i j hi hj hij e
    have h1 := hat i hi
    have h2 := hat j hj
    simp only [List.getD_eq_getElem?_getD, List.getElem?_eq_getElem hi, List.getElem?_eq_getElem hj, Option.getD_some] at h1 h2
    omega
  have pd : p.Nodup := hm.nodup_iff.1 nd
  refine ⟨fun i hi => mem _ (by simp [hi]), fun i j hi hj e => ?_⟩
  rw [List.Nodup, List.pairwise_iff_getElem] at pd
  simp only [List.getD_eq_getElem?_getD, List.getElem?_eq_getElem hi, List.getElem?_eq_getElem hj, Option.getD_some] at e
  rcases Nat.lt_trichotomy i j with g | g | g
  · exact absurd e (pd i j hi hj g)
  · exact g
  · exact absurd e.symm (pd j i hj hi g)
/-- the way from y till x -/
def orb (p : List Int) (x y : Int) : Nat → List Int
  | 0 => []
  | n + 1 => if y = x then [] else y :: orb p x (p.getD y.toNat 0) n
def cycC (p : List Int) (x : Int) : List Int := x :: orb p x (p.getD x.toNat 0) p.length
theorem orb_self (p : List Int) (x : Int) (n : Nat) : orb p x x n = [] := by cases n <;> simp [orb]
/-- a way begun at x: c, and y comes next -/
structure Way (p : List Int) (x : Int) (c : List Int) (y : Int) : Prop where
  rng : ∀ z ∈ c, 0 ≤ z ∧ z < p.length
  nd : c.Nodup
  ne : c ≠ []
  head : c.getD 0 0 = x
  step : ∀ i, i + 1 < c.length → c.getD (i + 1) 0 = p.getD (c.getD i 0).toNat 0
  last : y = p.getD (c.getD (c.length - 1) 0).toNat 0
  tail : cycC p x = c ++ orb p x y (p.length + 1 - c.length)
theorem nodup_len (n : Nat) : ∀ (c : List Int), c.Nodup → (∀ z ∈ c, 0 ≤ z ∧ z < (n : Int)) → c.length ≤ n := by
  induction n with
  | zero =>
    intro c _ h
    cases c with
    | nil => simp
    | cons z c => have := h z (by simp); omega
  | succ n ih =>
    intro c hn h
    have hn' := hn.erase (n : Int)
    have hl : c.length ≤ (c.erase (n : Int)).length + 1 := by
      rw [List.length_erase]; split <;> omega
    have := ih (c.erase (n : Int)) hn' (fun z hz => by
      have h1 := h z (List.mem_of_mem_erase hz)
      have h2 : z ≠ n := fun e => by
        subst e
        exact (hn.not_mem_erase) hz
      omega)
    omega
theorem Way.len {p : List Int} {x y : Int} {c : List Int} (h : Way p x c y) : 1 ≤ c.length ∧ c.length ≤ p.length := by
  refine ⟨?_, nodup_len _ c h.nd h.rng⟩
  have := h.ne
  cases c with
  | nil => exact absurd rfl this
  | cons _ _ => simp
theorem getD_mem {c : List Int} {i : Nat} (h : i < c.length) : c.getD i 0 ∈ c := by simp [h]
theorem Way.yrng {p : List Int} {x y : Int} {c : List Int} (hp : Prm p) (h : Way p x c y) : 0 ≤ y ∧ y < p.length := by
  have hl := h.len
  have := h.rng _ (getD_mem (show c.length - 1 < c.length by omega))
  rw [h.last]
  exact (prm_range hp).1 _ (by omega)
/-- what comes again is x -/
theorem Way.back {p : List Int} {x y : Int} {c : List Int} (hp : Prm p) (h : Way p x c y) (hy : y ∈ c) : y = x := by
  have hl := h.len
  obtain ⟨i, hi, e⟩ := pos_ex hy
  by_cases h0 : i = 0
  · subst h0; rw [← e, h.head]
  · have h1 := h.step (i - 1) (by omega)
    rw [show i - 1 + 1 = i from by omega, e, h.last] at h1
    have r1 := h.rng _ (getD_mem (show c.length - 1 < c.length by omega))
    have r2 := h.rng _ (getD_mem (show i - 1 < c.length by omega))
    have := (prm_range hp).2 _ _ (by omega) (by omega) h1
    have e2 : c.getD (c.length - 1) 0 = c.getD (i - 1) 0 := by omega
    have nd := h.nd
    rw [List.Nodup, List.pairwise_iff_getElem] at nd
    simp only [List.getD_eq_getElem?_getD, List.getElem?_eq_getElem (show c.length - 1 < c.length by omega), List.getElem?_eq_getElem (show i - 1 < c.length by omega), Option.getD_some] at e2
    exact absurd e2.symm (nd (i - 1) (c.length - 1) (by omega) (by omega) (by omega))
set_option linter.unusedVariables false in
theorem Way.first {p : List Int} (hp : Prm p) {x : Nat} (hx : x < p.length) : Way p (x : Int) [(x : Int)] (p.getD x 0) :=
  ⟨fun z hz => by simp at hz; omega, by simp, by simp, rfl, fun i hi => by simp at hi, by simp, by simp [cycC]⟩
set_option linter.unusedVariables false in
theorem Way.next {p : List Int} {x y : Int} {c : List Int} (hp : Prm p) (h : Way p x c y) (hy : y ≠ x) : Way p x (c ++ [y]) (p.getD y.toNat 0) := by
  have hl := h.len
  have hyr := h.yrng hp
  have hni : y ∉ c := fun hm => hy (h.back hp hm)
  have hnd : (c ++ [y]).Nodup := List.nodup_append.2 ⟨h.nd, by simp, fun a ha b hb e => by simp at hb; subst hb; exact hni (e ▸ ha)⟩
  have hlen := nodup_len p.length (c ++ [y]) hnd (fun z hz => by
    rcases List.mem_append.1 hz with g | g
    · exact h.rng z g
    · simp at g; rw [g]; exact hyr)
  simp only [List.length_append, List.length_cons, List.length_nil] at hlen
  have at1 : ∀ i, i < c.length → (c ++ [y]).getD i 0 = c.getD i 0 := fun i hi => by
    rw [List.getD_eq_getElem?_getD, List.getD_eq_getElem?_getD, List.getElem?_append_left hi]
  have at2 : (c ++ [y]).getD c.length 0 = y := by
    rw [List.getD_eq_getElem?_getD, List.getElem?_append_right (Nat.le_refl _)]; simp
  refine ⟨fun z hz => ?_, hnd, by simp, by rw [at1 0 (by omega)]; exact h.head, fun i hi => ?_, ?_, ?_⟩
  · rcases List.mem_append.1 hz with g | g
    · exact h.rng z g
    · simp at g; rw [g]; exact hyr
  · simp only [List.length_append, List.length_cons, List.length_nil] at hi
    by_cases c1 : i + 1 < c.length
    · rw [at1 _ c1, at1 _ (by omega)]; exact h.step i c1
    · have : i = c.length - 1 := by omega
      subst this
      rw [show c.length - 1 + 1 = c.length from by omega, at2, at1 _ (by omega)]
      exact h.last
  · simp only [List.length_append, List.length_cons, List.length_nil, Nat.add_sub_cancel]
    rw [at2]
  · have := h.tail
    obtain ⟨n, hn⟩ : ∃ n, p.length + 1 - c.length = n + 1 := ⟨p.length - c.length, by omega⟩
    rw [hn] at this
    simp only [orb, if_neg hy] at this
    rw [this]
    simp only [List.length_append, List.length_cons, List.length_nil, List.append_assoc, List.cons_append, List.nil_append]
    rw [show p.length + 1 - (c.length + (0 + 1)) = n from by omega]
theorem Way.done {p : List Int} {x : Int} {c : List Int} (h : Way p x c x) : c = cycC p x := by
  rw [h.tail, orb_self, List.append_nil]
/-- a set that nothing leads into from outside -/
def Shut (p s : List Int) : Prop := (∀ z ∈ s, 0 ≤ z ∧ z < p.length) ∧ ∀ z : Nat, z < p.length → p.getD z 0 ∈ s → (z : Int) ∈ s
theorem Way.out {p s : List Int} {x y : Int} {c : List Int} (h : Way p x c y) (hs : Shut p s) (hd : ∀ z ∈ c, z ∉ s) : y ∉ s := by
  have hl := h.len
  have hm := getD_mem (show c.length - 1 < c.length by omega)
  have r := h.rng _ hm
  intro hy
  rw [h.last] at hy
  have := hs.2 (c.getD (c.length - 1) 0).toNat (by omega) hy
  rw [show (((c.getD (c.length - 1) 0).toNat : Nat) : Int) = c.getD (c.length - 1) 0 from by omega] at this
  exact hd _ hm this
end Go.Proofs.Ytlfongfhbkefmaa.Ai
namespace Go.Proofs.Ytlfongfhbkefmaa.Ai
open Go
set_option linter.unusedVariables false
/-- the place of the first that p takes, or -1 -/
def idxP (p : Int → Bool) : List Int → Nat → Int
  | [], _ => -1
  | x :: xs, k => if p x = true then (k : Int) else idxP p xs (k + 1)
end Go.Proofs.Ytlfongfhbkefmaa.Ai
namespace Go.Proofs.Ytlfongfhbkefmaa.Ai
open Go
set_option linter.unusedVariables false
/-- the place of a number -/
def ax (q : List Int) (x : Int) : Int := idxP (fun y => decide (x = y)) q 0
theorem idxP_at (p : Int → Bool) : ∀ (xs : List Int) (k : Nat), xs.any p = true → ∃ i : Nat, i < xs.length ∧ idxP p xs k = ((k + i : Nat) : Int) ∧ p (xs.getD i 0) = true
  | [], k, h => by simp at h
  | x :: xs, k, h => by
    by_cases hx : p x = true
    · exact ⟨0, by simp, by simp [idxP, hx], by simpa using hx⟩
    · have : xs.any p = true := by simpa [hx] using h
      obtain ⟨i, h1, h2, h3⟩ := idxP_at p xs (k + 1) this
      refine ⟨i + 1, by simpa using h1, ?_, by simpa using h3⟩
      rw [idxP, if_neg hx, h2]
      congr 1; omega
theorem ax_at {q : List Int} {x : Int} (h : x ∈ q) : ∃ i : Nat, i < q.length ∧ ax q x = (i : Int) ∧ q.getD i 0 = x := by
  obtain ⟨i, h1, h2, h3⟩ := idxP_at (fun y => decide (x = y)) q 0 (by simpa using h)
  refine ⟨i, h1, by rw [ax, h2]; congr 1; omega, ?_⟩
  have := of_decide_eq_true h3
  exact this.symm
def swp (p : List Int) (a b : Nat) : List Int := (p.set a (p.getD b 0)).set b (p.getD a 0)
theorem swp_len (p : List Int) (a b : Nat) : (swp p a b).length = p.length := by simp [swp]
theorem swp_at (p : List Int) (a b k : Nat) (ha : a < p.length) (hb : b < p.length) (hk : k < p.length) : (swp p a b).getD k 0 = if k = b then p.getD a 0 else if k = a then p.getD b 0 else p.getD k 0 := by
  unfold swp
  rw [List.getD_eq_getElem?_getD, List.getElem?_set]
  by_cases h1 : b = k
  · subst h1
    rw [if_pos rfl, if_pos (by simpa using hb), if_pos rfl]; rfl
  · rw [if_neg h1, if_neg (fun e => h1 e.symm), List.getElem?_set]
    by_cases h2 : a = k
    · subst h2
      rw [if_pos rfl, if_pos ha, if_pos rfl]; rfl
    · rw [if_neg h2, if_neg (fun e => h2 e.symm), ← List.getD_eq_getElem?_getD]
theorem mem_getD {q : List Int} {k : Nat} (h : k < q.length) : q.getD k 0 ∈ q := by simp [h]
theorem swp_prm {p : List Int} (h : Prm p) {a b : Nat} (ha : a < p.length) (hb : b < p.length) : Prm (swp p a b) := by
  refine ⟨by rw [swp_len]; exact h.1, fun x hx => ?_⟩
  rw [swp_len] at hx
  obtain ⟨i, hi, e⟩ := pos_ex (h.2 x hx)
  have mk : ∀ k, k < p.length → (swp p a b).getD k 0 = x → (x : Int) ∈ swp p a b := fun k hk e => by
    rw [← e]; exact mem_getD (by rw [swp_len]; exact hk)
  by_cases h1 : i = a
  · subst h1; exact mk b hb (by rw [swp_at p _ b b ha hb hb, if_pos rfl]; exact e)
  · by_cases h2 : i = b
    · subst h2
      by_cases h3 : a = i
      · exact absurd h3.symm h1
      · exact mk a ha (by rw [swp_at p a _ a ha hb ha, if_neg h3, if_pos rfl]; exact e)
    · exact mk i hi (by rw [swp_at p a b i ha hb hi, if_neg h2, if_neg h1]; exact e)
structure SrtOk (p : List Int) (x : Nat) (o : List (Int × Int)) (q : List Int) : Prop where
  prm : Prm q
  len : q.length = p.length
  fix : ∀ y, y < x → q.getD y 0 = y
  few : o.length ≤ x
theorem SrtOk.place {p : List Int} {x : Nat} {o : List (Int × Int)} {q : List Int} (h : SrtOk p x o q) (hx : x < p.length) : ∃ i : Nat, x ≤ i ∧ i < p.length ∧ ax q x = (i : Int) ∧ q.getD i 0 = x ∧ (q.getD x 0 = x ↔ i = x) := by
  obtain ⟨i, h1, h2, h3⟩ := ax_at (h.prm.2 x (by rw [h.len]; exact hx))
  have hl := h.len
  refine ⟨i, ?_, by omega, h2, h3, fun e => ?_, fun e => by rw [← e]; rw [h3]; rw [e]⟩
  · by_cases hlt : i < x
    · have := h.fix i hlt
      omega
    · omega
  · exact (prm_range h.prm).2 i x h1 (by omega) (by rw [h3, e])
theorem SrtOk.stay {p : List Int} {x : Nat} {o : List (Int × Int)} {q : List Int} (h : SrtOk p x o q) (e : q.getD x 0 = x) : SrtOk p (x + 1) o q :=
  ⟨h.prm, h.len, fun y hy => by
    by_cases hc : y = x
    · subst hc; exact e
    · exact h.fix y (by omega), by have := h.few; omega⟩
theorem SrtOk.next {p : List Int} {x i : Nat} {o : List (Int × Int)} {q : List Int} (h : SrtOk p x o q) (hx : x < p.length) (h1 : x ≤ i) (h2 : i < p.length) (h3 : q.getD i 0 = x) (hne : i ≠ x) : SrtOk p (x + 1) (o ++ [((x : Int), (i : Int))]) (swp q x i) := by
  have hl := h.len
  refine ⟨swp_prm h.prm (by omega) (by omega), by rw [swp_len]; exact hl, fun y hy => ?_, by have := h.few; simp; omega⟩
  rw [swp_at q x i y (by omega) (by omega) (by omega), if_neg (by omega)]
  by_cases hc : y = x
  · rw [if_pos hc, h3, hc]
  · rw [if_neg hc]; exact h.fix y (by omega)
def swOk (n : Nat) (s : Int × Int) : Prop := 0 ≤ s.1 ∧ s.1 < s.2 ∧ s.2 < n
instance (n : Nat) (s : Int × Int) : Decidable (swOk n s) := inferInstanceAs (Decidable (_ ∧ _))
def plcOk (p : List Int) (ss : List (Int × Int)) : Prop := Prm p ∧ ∀ s ∈ ss, swOk p.length s
instance (p : List Int) (ss : List (Int × Int)) : Decidable (plcOk p ss) := inferInstanceAs (Decidable (_ ∧ _))
end Go.Proofs.Ytlfongfhbkefmaa.Ai
namespace Go.Proofs.Ytlfongfhbkefmaa.Ai
open Go
def ords87 : List (Nat × List (Nat × Bool)) := []
def cd87 : Cd := (.seq (.reg [⟨⟨some 2, Op.assign (Operand.const (Value.slice none 0 0)), none⟩, []⟩]) (.seq (.seq (.reg [⟨⟨some 3, Op.move (Operand.tmp 0), none⟩, []⟩,
  ⟨⟨some 4, Op.binOp BinOp.eql 38 (Operand.tmp 3) (Operand.const (Value.slice none 0 0)) 38, none⟩, []⟩]) (.cond (Operand.tmp 4) (.seq (.reg [⟨⟨some 2, Op.assign (Operand.const (Value.slice none 0 0)), none⟩, []⟩]) .ret) .skip)) (.seq (.reg [⟨⟨some 5, Op.buildSlice 38 0 #[], none⟩, []⟩,
  ⟨⟨some 6, Op.move (Operand.tmp 0), none⟩, []⟩,
  ⟨⟨some 7, Op.call { callee := (Callee.builtin Builtin.append), args := #[(Operand.tmp 5), (Operand.tmp 6)], argTypes := #[38, 38] }, none⟩, []⟩,
  ⟨⟨some 2, Op.assign (Operand.tmp 7), none⟩, []⟩]) .ret)))
theorem sl87 : slim Try.f87.ntmps ords87 (Try.f87.body.getD .skip) = some cd87 := by kernel_rfl
theorem in87 {args : List Value} {H : AH} {R : Value → AH → Prop} (hl : args.length = 1) (h : ∀ (Q : Exit → Sl → AH → Prop), (∀ e s H, endA Try.prog [ResultVar.tmp 2] R e s H → Q e s H) → wpC Try.prog cd87 Q (enterA args) H) : ACalls Try.prog 87 args H R :=
  ACalls.intro (by kernel_rfl) Try.func87 rfl (by kernel_rfl) sl87 hl (of_decide_eq_true (by kernel_rfl)) (by kernel_rfl) h
end Go.Proofs.Ytlfongfhbkefmaa.Ai
namespace Go.Proofs.Ytlfongfhbkefmaa.Ai
open Go Go.RowKit
set_option linter.unusedVariables false
set_option linter.unusedSimpArgs false
set_option maxRecDepth 20000 in
theorem Clone_c (v : Value) (xs : List Int) (H : AH) (hr : Row 3 H v xs) (hlen : xs.length ≤ 1099511627776) : ACalls Try.prog 87 [v] H fun r H' => Own 3 H H' r xs ∧ H <+: H' := by
  refine in87 rfl ?_
  intro Q hQ
  obtain ⟨p, e⟩ := hr.shape
  subst e
  simp (maxSteps := 1000000) (disch := omega) only [cd87, S, S1, S2, S3, S4, S5, ST, eq_self, reduceIte, reduceCtorEq, Nat.reduceEqDiff, Nat.reduceAdd]
  refine brH.intro (fun g => ?_) (fun g => ?_) <;> simp (maxSteps := 1000000) (disch := omega) only [S, S1, S2, S3, S4, S5, ST, eq_self, reduceIte, reduceCtorEq, Nat.reduceEqDiff, Nat.reduceAdd]
  · refine hQ _ _ _ ?_
    simp (maxSteps := 1000000) (disch := omega) only [S, S1, S2, S3, S4, S5, ST, eq_self, reduceIte, reduceCtorEq, Nat.reduceEqDiff, Nat.reduceAdd]
    have : xs = [] := by
      rcases hr with h | ⟨o, k, vs, ro, h1, _⟩
      · exact h.2
      · cases p with
        | none => cases h1
        | some p => cases g
    exact ⟨.inl ⟨rfl, this⟩, List.prefix_refl _⟩
  · have hp := List.prefix_append H [AObj.cells [] 3 false]
    have ho : Own 3 H (H ++ [AObj.cells [] 3 false]) (.slice (some ⟨H.length, 0, none⟩) 0 0) [] := .inr ⟨H.length, rfl, Nat.le_refl _, at_new ..⟩
    obtain ⟨v', H2, k1, k2, k3, _⟩ := ho.app (P := Try.prog) (t := 38) Try.underlying38 cs3 (by rw [by3]; decide) zk3 (hr.pre hp) hp (by simp; omega)
    simp (maxSteps := 1000000) (disch := omega) only [k1, S, S1, S2, S3, S4, S5, ST, eq_self, reduceIte, reduceCtorEq, Nat.reduceEqDiff, Nat.reduceAdd]
    refine hQ _ _ _ ?_
    simp (maxSteps := 1000000) (disch := omega) only [k2.row.tup, S, S1, S2, S3, S4, S5, ST, eq_self, reduceIte, reduceCtorEq, Nat.reduceEqDiff, Nat.reduceAdd]
    exact ⟨k2, k3⟩
end Go.Proofs.Ytlfongfhbkefmaa.Ai
namespace Go.Proofs.Ytlfongfhbkefmaa.Ai
open Go
def ords82 : List (Nat × List (Nat × Bool)) := []
def cd82 : Cd := (.seq (.reg [⟨⟨some 2, Op.assign (Operand.const (Value.slice none 0 0)), none⟩, []⟩]) (.seq (.reg [⟨⟨some 3, Op.buildSlice 38 0 #[], none⟩, []⟩,
  ⟨⟨some 4, Op.move (Operand.tmp 0), none⟩, []⟩,
  ⟨⟨some 5, Op.call { callee := (Callee.builtin Builtin.append), args := #[(Operand.tmp 3), (Operand.tmp 4)], argTypes := #[38, 38] }, none⟩, []⟩,
  ⟨⟨some 2, Op.assign (Operand.tmp 5), none⟩, []⟩]) .ret))
theorem sl82 : slim Try.f82.ntmps ords82 (Try.f82.body.getD .skip) = some cd82 := by kernel_rfl
theorem in82 {args : List Value} {H : AH} {R : Value → AH → Prop} (hl : args.length = 1) (h : ∀ (Q : Exit → Sl → AH → Prop), (∀ e s H, endA Try.prog [ResultVar.tmp 2] R e s H → Q e s H) → wpC Try.prog cd82 Q (enterA args) H) : ACalls Try.prog 82 args H R :=
  ACalls.intro (by kernel_rfl) Try.func82 rfl (by kernel_rfl) sl82 hl (of_decide_eq_true (by kernel_rfl)) (by kernel_rfl) h
end Go.Proofs.Ytlfongfhbkefmaa.Ai
namespace Go.Proofs.Ytlfongfhbkefmaa.Ai
open Go Go.RowKit
set_option linter.unusedVariables false
set_option linter.unusedSimpArgs false
set_option maxRecDepth 20000 in
theorem l1Own_c (v : Value) (xs : List Int) (H : AH) (hr : Row 3 H v xs) (hlen : xs.length ≤ 1099511627776) : ACalls Try.prog 82 [v] H fun r H' => Own 3 H H' r xs ∧ H <+: H' := by
  refine in82 rfl ?_
  intro Q hQ
  simp (maxSteps := 1000000) (disch := omega) only [cd82, S, S1, S2, S3, S4, S5, ST, eq_self, reduceIte, reduceCtorEq, Nat.reduceEqDiff, Nat.reduceAdd]
  have hp := List.prefix_append H [AObj.cells [] 3 false]
  have ho : Own 3 H (H ++ [AObj.cells [] 3 false]) (.slice (some ⟨H.length, 0, none⟩) 0 0) [] := .inr ⟨H.length, rfl, Nat.le_refl _, at_new ..⟩
  obtain ⟨v', H2, k1, k2, k3, _⟩ := ho.app (P := Try.prog) (t := 38) Try.underlying38 cs3 (by rw [by3]; decide) zk3 (hr.pre hp) hp (by simp; omega)
  simp (maxSteps := 1000000) (disch := omega) only [k1, S, S1, S2, S3, S4, S5, ST, eq_self, reduceIte, reduceCtorEq, Nat.reduceEqDiff, Nat.reduceAdd]
  refine hQ _ _ _ ?_
  simp (maxSteps := 1000000) (disch := omega) only [k2.row.tup, S, S1, S2, S3, S4, S5, ST, eq_self, reduceIte, reduceCtorEq, Nat.reduceEqDiff, Nat.reduceAdd]
  exact ⟨k2, k3⟩
end Go.Proofs.Ytlfongfhbkefmaa.Ai
namespace Go.Proofs.Ytlfongfhbkefmaa.Ai
open Go
def ords214 : List (Nat × List (Nat × Bool)) := [(11, [(0, false), (1, false), (2, false), (3, false), (4, false), (5, false), (6, false), (7, false), (8, false), (9, true)])]
def cd214 : Cd := (.seq (.reg [⟨⟨some 3, Op.box 31 (Operand.tmp 0), none⟩, []⟩,
  ⟨⟨some 6, Op.assign (Operand.const (Value.slice none 0 0)), none⟩, []⟩]) (.seq (.reg [⟨⟨some 11, Op.move (Operand.tmp 2), none⟩, []⟩,
  ⟨⟨some 12, Op.buildSlice 38 1 #[(0, (Operand.tmp 11))], none⟩, []⟩,
  ⟨⟨some 7, Op.assign (Operand.tmp 12), none⟩, []⟩]) (.seq (.seq (.reg [⟨⟨some 8, Op.assign (Operand.const (Value.int IntKind.i64 0)), none⟩, []⟩]) (.block 0 (.loop (.seq (.seq (.reg [⟨⟨some 13, Op.move (Operand.tmp 8), none⟩, []⟩,
  ⟨⟨some 14, Op.move (Operand.tmp 1), none⟩, []⟩,
  ⟨⟨some 15, Op.call { callee := (Callee.builtin Builtin.len), args := #[(Operand.tmp 14)], argTypes := #[38] }, none⟩, []⟩,
  ⟨⟨some 16, Op.binOp BinOp.lss 3 (Operand.tmp 13) (Operand.tmp 15) 3, none⟩, []⟩]) (.cond (Operand.tmp 16) .skip (.exit 0))) (.seq (.block 1 (.seq (.reg [⟨⟨some 9, Op.assign (Operand.const (Value.int IntKind.i64 0)), none⟩, []⟩]) (.block 2 (.loop (.seq (.seq (.reg [⟨⟨some 19, Op.move (Operand.tmp 9), none⟩, []⟩,
  ⟨⟨some 20, Op.move (Operand.tmp 1), none⟩, []⟩,
  ⟨⟨some 21, Op.call { callee := (Callee.builtin Builtin.len), args := #[(Operand.tmp 20)], argTypes := #[38] }, none⟩, []⟩,
  ⟨⟨some 22, Op.binOp BinOp.lss 3 (Operand.tmp 19) (Operand.tmp 21) 3, none⟩, []⟩]) (.cond (Operand.tmp 22) .skip (.exit 2))) (.seq (.block 3 (.seq (.reg [⟨⟨some 10, Op.assign (Operand.const (Value.int IntKind.i64 0)), none⟩, []⟩]) (.block 4 (.loop (.seq (.seq (.reg [⟨⟨some 25, Op.move (Operand.tmp 10), none⟩, []⟩,
  ⟨⟨some 26, Op.move (Operand.tmp 7), none⟩, []⟩,
  ⟨⟨some 27, Op.call { callee := (Callee.builtin Builtin.len), args := #[(Operand.tmp 26)], argTypes := #[38] }, none⟩, []⟩,
  ⟨⟨some 28, Op.binOp BinOp.lss 3 (Operand.tmp 25) (Operand.tmp 27) 3, none⟩, []⟩,
  ⟨⟨some 29, Op.move (Operand.tmp 28), none⟩, []⟩,
  ⟨⟨some 30, Op.move (Operand.tmp 7), some (29, true)⟩, []⟩,
  ⟨⟨some 31, Op.move (Operand.tmp 1), some (29, true)⟩, []⟩,
  ⟨⟨some 32, Op.move (Operand.tmp 9), some (29, true)⟩, []⟩,
  ⟨⟨some 33, Op.indexAddr 38 (Operand.tmp 31) (Operand.tmp 32), some (29, true)⟩, []⟩,
  ⟨⟨some 34, Op.load 3 (Operand.tmp 33), some (29, true)⟩, []⟩,
  ⟨⟨some 35, Op.call { callee := (Callee.value (Operand.func 144)), args := #[(Operand.tmp 30), (Operand.tmp 34)], argTypes := #[38, 3] }, some (29, true)⟩, []⟩,
  ⟨⟨some 36, Op.unOp UnOp.not 4 (Operand.tmp 35), some (29, true)⟩, []⟩,
  ⟨⟨some 37, Op.pick (Operand.tmp 29) (Operand.tmp 36) (Operand.const (Value.bool false)), none⟩, []⟩]) (.cond (Operand.tmp 37) .skip (.exit 4))) (.seq (.block 5 (.seq (.reg [⟨⟨some 40, Op.load 31 (Operand.tmp 3), none⟩, []⟩,
  ⟨⟨some 41, Op.move (Operand.tmp 7), none⟩, []⟩,
  ⟨⟨some 42, Op.move (Operand.tmp 10), none⟩, []⟩,
  ⟨⟨some 43, Op.indexAddr 38 (Operand.tmp 41) (Operand.tmp 42), none⟩, []⟩,
  ⟨⟨some 44, Op.load 3 (Operand.tmp 43), none⟩, []⟩,
  ⟨⟨some 45, Op.move (Operand.tmp 1), none⟩, []⟩,
  ⟨⟨some 46, Op.move (Operand.tmp 9), none⟩, []⟩,
  ⟨⟨some 47, Op.indexAddr 38 (Operand.tmp 45) (Operand.tmp 46), none⟩, []⟩,
  ⟨⟨some 48, Op.load 3 (Operand.tmp 47), none⟩, []⟩,
  ⟨⟨some 49, Op.call { callee := (Callee.value (Operand.func 257)), args := #[(Operand.tmp 40), (Operand.tmp 44), (Operand.tmp 48)], argTypes := #[31, 3, 3] }, none⟩, []⟩]) (.cond (Operand.tmp 49) (.reg [⟨⟨some 50, Op.move (Operand.tmp 7), none⟩, []⟩,
  ⟨⟨some 51, Op.move (Operand.tmp 1), none⟩, []⟩,
  ⟨⟨some 52, Op.move (Operand.tmp 9), none⟩, []⟩,
  ⟨⟨some 53, Op.indexAddr 38 (Operand.tmp 51) (Operand.tmp 52), none⟩, []⟩,
  ⟨⟨some 54, Op.load 3 (Operand.tmp 53), none⟩, []⟩,
  ⟨⟨some 55, Op.call { callee := (Callee.value (Operand.func 86)), args := #[(Operand.tmp 50), (Operand.tmp 54)], argTypes := #[38, 3] }, none⟩, []⟩,
  ⟨⟨some 7, Op.assign (Operand.tmp 55), none⟩, []⟩]) .skip))) (.reg [⟨⟨some 38, Op.move (Operand.tmp 10), none⟩, []⟩,
  ⟨⟨some 39, Op.binOp BinOp.add 3 (Operand.tmp 38) (Operand.const (Value.int IntKind.i64 1)) 3, none⟩, []⟩,
  ⟨⟨some 10, Op.assign (Operand.tmp 39), none⟩, []⟩]))))))) (.reg [⟨⟨some 23, Op.move (Operand.tmp 9), none⟩, []⟩,
  ⟨⟨some 24, Op.binOp BinOp.add 3 (Operand.tmp 23) (Operand.const (Value.int IntKind.i64 1)) 3, none⟩, []⟩,
  ⟨⟨some 9, Op.assign (Operand.tmp 24), none⟩, []⟩]))))))) (.reg [⟨⟨some 17, Op.move (Operand.tmp 8), none⟩, []⟩,
  ⟨⟨some 18, Op.binOp BinOp.add 3 (Operand.tmp 17) (Operand.const (Value.int IntKind.i64 1)) 3, none⟩, []⟩,
  ⟨⟨some 8, Op.assign (Operand.tmp 18), none⟩, []⟩])))))) (.seq (.reg [⟨⟨some 56, Op.move (Operand.tmp 7), none⟩, []⟩,
  ⟨⟨some 6, Op.assign (Operand.tmp 56), none⟩, []⟩]) .ret))))
theorem sl214 : slim Try.f214.ntmps ords214 (Try.f214.body.getD .skip) = some cd214 := by kernel_rfl
theorem in214 {args : List Value} {H : AH} {R : Value → AH → Prop} (hl : args.length = 3) (h : ∀ (Q : Exit → Sl → AH → Prop), (∀ e s H, endA Try.prog [ResultVar.tmp 6] R e s H → Q e s H) → wpC Try.prog cd214 Q (enterA args) H) : ACalls Try.prog 214 args H R :=
  ACalls.intro (by kernel_rfl) Try.func214 rfl (by kernel_rfl) sl214 hl (of_decide_eq_true (by kernel_rfl)) (by kernel_rfl) h
def ords161 : List (Nat × List (Nat × Bool)) := [(6, [(0, false), (1, false), (2, false), (3, false), (4, false), (5, false), (6, true), (7, false)])]
def cd161 : Cd := (.seq (.reg [⟨⟨some 2, Op.box 31 (Operand.tmp 0), none⟩, []⟩,
  ⟨⟨some 4, Op.assign (Operand.const (Value.slice none 0 0)), none⟩, []⟩]) (.seq (.reg [⟨⟨some 10, Op.buildSlice 26 0 #[], none⟩, []⟩,
  ⟨⟨some 11, Op.buildSlice 38 0 #[], none⟩, []⟩,
  ⟨⟨some 5, Op.assign (Operand.tmp 10), none⟩, []⟩,
  ⟨⟨some 6, Op.assign (Operand.tmp 11), none⟩, []⟩]) (.seq (.seq (.reg [⟨⟨some 7, Op.assign (Operand.const (Value.int IntKind.i64 0)), none⟩, []⟩]) (.block 0 (.loop (.seq (.seq (.reg [⟨⟨some 12, Op.move (Operand.tmp 7), none⟩, []⟩,
  ⟨⟨some 13, Op.move (Operand.tmp 1), none⟩, []⟩,
  ⟨⟨some 14, Op.call { callee := (Callee.builtin Builtin.len), args := #[(Operand.tmp 13)], argTypes := #[38] }, none⟩, []⟩,
  ⟨⟨some 15, Op.binOp BinOp.lss 3 (Operand.tmp 12) (Operand.tmp 14) 3, none⟩, []⟩]) (.cond (Operand.tmp 15) .skip (.exit 0))) (.seq (.block 1 (.seq (.seq (.reg [⟨⟨some 18, Op.move (Operand.tmp 6), none⟩, []⟩,
  ⟨⟨some 19, Op.move (Operand.tmp 1), none⟩, []⟩,
  ⟨⟨some 20, Op.move (Operand.tmp 7), none⟩, []⟩,
  ⟨⟨some 21, Op.indexAddr 38 (Operand.tmp 19) (Operand.tmp 20), none⟩, []⟩,
  ⟨⟨some 22, Op.load 3 (Operand.tmp 21), none⟩, []⟩,
  ⟨⟨some 23, Op.call { callee := (Callee.value (Operand.func 144)), args := #[(Operand.tmp 18), (Operand.tmp 22)], argTypes := #[38, 3] }, none⟩, []⟩]) (.cond (Operand.tmp 23) (.exit 1) .skip)) (.seq (.reg [⟨⟨some 24, Op.load 31 (Operand.tmp 2), none⟩, []⟩,
  ⟨⟨some 25, Op.move (Operand.tmp 1), none⟩, []⟩,
  ⟨⟨some 26, Op.move (Operand.tmp 1), none⟩, []⟩,
  ⟨⟨some 27, Op.move (Operand.tmp 7), none⟩, []⟩,
  ⟨⟨some 28, Op.indexAddr 38 (Operand.tmp 26) (Operand.tmp 27), none⟩, []⟩,
  ⟨⟨some 29, Op.load 3 (Operand.tmp 28), none⟩, []⟩,
  ⟨⟨some 30, Op.call { callee := (Callee.value (Operand.func 214)), args := #[(Operand.tmp 24), (Operand.tmp 25), (Operand.tmp 29)], argTypes := #[31, 38, 3] }, none⟩, []⟩,
  ⟨⟨some 8, Op.assign (Operand.tmp 30), none⟩, []⟩]) (.seq (.seq (.reg [⟨⟨some 9, Op.assign (Operand.const (Value.int IntKind.i64 0)), none⟩, []⟩]) (.block 2 (.loop (.seq (.seq (.reg [⟨⟨some 31, Op.move (Operand.tmp 9), none⟩, []⟩,
  ⟨⟨some 32, Op.move (Operand.tmp 8), none⟩, []⟩,
  ⟨⟨some 33, Op.call { callee := (Callee.builtin Builtin.len), args := #[(Operand.tmp 32)], argTypes := #[38] }, none⟩, []⟩,
  ⟨⟨some 34, Op.binOp BinOp.lss 3 (Operand.tmp 31) (Operand.tmp 33) 3, none⟩, []⟩]) (.cond (Operand.tmp 34) .skip (.exit 2))) (.seq (.block 3 (.reg [⟨⟨some 37, Op.move (Operand.tmp 6), none⟩, []⟩,
  ⟨⟨some 38, Op.move (Operand.tmp 8), none⟩, []⟩,
  ⟨⟨some 39, Op.move (Operand.tmp 9), none⟩, []⟩,
  ⟨⟨some 40, Op.indexAddr 38 (Operand.tmp 38) (Operand.tmp 39), none⟩, []⟩,
  ⟨⟨some 41, Op.load 3 (Operand.tmp 40), none⟩, []⟩,
  ⟨⟨some 42, Op.call { callee := (Callee.value (Operand.func 86)), args := #[(Operand.tmp 37), (Operand.tmp 41)], argTypes := #[38, 3] }, none⟩, []⟩,
  ⟨⟨some 6, Op.assign (Operand.tmp 42), none⟩, []⟩])) (.reg [⟨⟨some 35, Op.move (Operand.tmp 9), none⟩, []⟩,
  ⟨⟨some 36, Op.binOp BinOp.add 3 (Operand.tmp 35) (Operand.const (Value.int IntKind.i64 1)) 3, none⟩, []⟩,
  ⟨⟨some 9, Op.assign (Operand.tmp 36), none⟩, []⟩])))))) (.reg [⟨⟨some 43, Op.move (Operand.tmp 5), none⟩, []⟩,
  ⟨⟨some 44, Op.move (Operand.tmp 8), none⟩, []⟩,
  ⟨⟨some 45, Op.buildSlice 26 1 #[(0, (Operand.tmp 44))], none⟩, []⟩,
  ⟨⟨some 46, Op.call { callee := (Callee.builtin Builtin.append), args := #[(Operand.tmp 43), (Operand.tmp 45)], argTypes := #[26, 26] }, none⟩, []⟩,
  ⟨⟨some 5, Op.assign (Operand.tmp 46), none⟩, []⟩]))))) (.reg [⟨⟨some 16, Op.move (Operand.tmp 7), none⟩, []⟩,
  ⟨⟨some 17, Op.binOp BinOp.add 3 (Operand.tmp 16) (Operand.const (Value.int IntKind.i64 1)) 3, none⟩, []⟩,
  ⟨⟨some 7, Op.assign (Operand.tmp 17), none⟩, []⟩])))))) (.seq (.reg [⟨⟨some 47, Op.move (Operand.tmp 5), none⟩, []⟩,
  ⟨⟨some 4, Op.assign (Operand.tmp 47), none⟩, []⟩]) .ret))))
theorem sl161 : slim Try.f161.ntmps ords161 (Try.f161.body.getD .skip) = some cd161 := by kernel_rfl
theorem in161 {args : List Value} {H : AH} {R : Value → AH → Prop} (hl : args.length = 2) (h : ∀ (Q : Exit → Sl → AH → Prop), (∀ e s H, endA Try.prog [ResultVar.tmp 4] R e s H → Q e s H) → wpC Try.prog cd161 Q (enterA args) H) : ACalls Try.prog 161 args H R :=
  ACalls.intro (by kernel_rfl) Try.func161 rfl (by kernel_rfl) sl161 hl (of_decide_eq_true (by kernel_rfl)) (by kernel_rfl) h
end Go.Proofs.Ytlfongfhbkefmaa.Ai
namespace Go.Proofs.Ytlfongfhbkefmaa.Ai
open Go Go.RowKit
set_option linter.unusedVariables false
set_option linter.unusedSimpArgs false
theorem bsRow {H0 : AH} {v : Value} {xs : List Int} (h : Row 3 H0 v xs) (K : AH) : buildSliceA Try.prog 26 1 [(0, v)] K = some (.slice (some ⟨K.length, 0, none⟩) 1 1, K ++ [.cells [v] 38 false]) := by
  obtain ⟨q, eq⟩ := h.shape
  rw [eq]
  exact bs1 Try.underlying26 cs38 ze38 ⟨by kernel_rfl, by kernel_rfl⟩ K rfl
/-- a set of few nodes -/
def Sm (o : List Int) : Prop := o.Pairwise (· < ·) ∧ ∀ z ∈ o, 0 ≤ z ∧ z < 8
theorem Sm.len {o : List Int} (h : Sm o) : o.length ≤ 8 := by
  have := nodup_le (a := o) (b := (List.range 8).map fun z : Nat => (z : Int)) (lt_nodup h.1) fun x hx => by
    have := h.2 x hx
    exact List.mem_map.2 ⟨x.toNat, List.mem_range.2 (by omega), by omega⟩
  simpa using this
theorem Sm.put {o : List Int} (h : Sm o) {x : Int} (hx : 0 ≤ x ∧ x < 8) : Sm (put o x) := by
  refine ⟨put_sorted _ _ h.1, fun z hz => ?_⟩
  rcases (put_mem _ _ _).1 hz with rfl | hz
  · exact hx
  · exact h.2 z hz
theorem Sm.nil : Sm [] := ⟨List.Pairwise.nil, fun z hz => by simp at hz⟩
theorem Sm.one {x : Int} (hx : 0 ≤ x ∧ x < 8) : Sm [x] := ⟨List.pairwise_singleton _ _, fun z hz => by simp at hz; subst hz; exact hx⟩
theorem Sm.rcIn {o : List Int} (h : Sm o) (es : List (Int × Int)) {y : Int} (hy : 0 ≤ y ∧ y < 8) : Sm (rcIn es o y) := by
  unfold Ai.rcIn
  split
  · exact h
  · split
    · exact h.put hy
    · exact h
theorem Sm.fold (es : List (Int × Int)) : ∀ (l : List Int) {o : List Int}, Sm o → (∀ y ∈ l, 0 ≤ y ∧ y < 8) → Sm (l.foldl (Ai.rcIn es) o)
  | [], o, h, _ => h
  | y :: ys, o, h, hl => Sm.fold es ys (h.rcIn es (hl y (by simp))) fun z hz => hl z (by simp [hz])
theorem Sm.iter (es : List (Int × Int)) (set : List Int) (hl : ∀ y ∈ set, 0 ≤ y ∧ y < 8) {x : Int} (hx : 0 ≤ x ∧ x < 8) : ∀ k, Sm (rcIter es set k [x])
  | 0 => Sm.one hx
  | k + 1 => Sm.fold es set (Sm.iter es set hl hx k) hl
theorem drop_fold {β : Type} (f : β → Int → β) (l : List Int) (i : Nat) (hi : i < l.length) (o : β) : (l.drop i).foldl f o = (l.drop (i + 1)).foldl f (f o (l.getD i 0)) := by
  have e : l.getD i 0 = l[i] := by simp [hi]
  rw [List.drop_eq_getElem_cons hi, List.foldl_cons, e]
set_option maxRecDepth 20000 in
set_option maxHeartbeats 4000000 in
theorem l2Reach_c (n : Int) (v w : Value) (es : List (Int × Int)) (set : List Int) (x : Int) (H : AH) (hr : RowP 81 H v es) (hlen : es.length ≤ 1099511627776) (hs : Row 3 H w set) (hsr : ∀ z ∈ set, 0 ≤ z ∧ z < 8) (hsl : set.length ≤ 8) (hx : 0 ≤ x ∧ x < 8) :
    ACalls Try.prog 214 [.agg (List.toArray [.int .i64 n, v]), w, .int .i64 x] H fun r H' => Own 3 H H' r (reachL es set x) ∧ H <+: H' := by
  refine in214 rfl ?_
  intro Q hQ
  simp (maxSteps := 1000000) (disch := omega) only [cd214, hr.boxG, S, S1, S2, S3, S4, S5, ST, eq_self, reduceIte, reduceCtorEq, Nat.reduceEqDiff, Nat.reduceAdd]
  generalize hA : H ++ [AObj.cells [.int .i64 n, v] 31 false] = A
  have pA : H <+: A := by rw [← hA]; exact List.prefix_append _ _
  have cA : A[H.length]? = some (.cells [.int .i64 n, v] 31 false) := by rw [← hA]; exact at_new ..
  have rA := hr.pre pA
  try simp (maxSteps := 1000000) (disch := omega) only [S, S1, S2, S3, S4, S5, ST, eq_self, reduceIte, reduceCtorEq, Nat.reduceEqDiff, Nat.reduceAdd]
  refine LoopH.by (fun m s H' => ∃ i, m + i = set.length ∧ s 1 = w ∧ s 3 = .pointer (some ⟨H.length, 0, none⟩) ∧ s 8 = .int .i64 ((i : Nat) : Int) ∧ Own 3 A H' (s 7) (rcIter es set i [x]) ∧ A <+: H') set.length ?_ ?_
  · exact ⟨0, by simp, rfl, rfl, rfl, .inr ⟨A.length, rfl, Nat.le_refl _, at_new ..⟩, List.prefix_append _ _⟩
  rintro m s H' ⟨i, hm, h1, h3, h8, ho, hp⟩
  have hss := hs.pre (pA.trans hp)
  have hiter : rcIter es set (i + 1) [x] = set.foldl (rcIn es) (rcIter es set i [x]) := rfl
  have hsm := Sm.iter es set hsr hx i
  have hend : i = set.length → rcIter es set i [x] = reachL es set x := fun e => by rw [e]; rfl
  generalize hw : s 7 = u at *
  generalize hR : rcIter es set i [x] = R at *
  simp (maxSteps := 1000000) (disch := omega) only [h1, h3, h8, hw, hss.len Try.underlying38, S, S1, S2, S3, S4, S5, ST, eq_self, reduceIte, reduceCtorEq, Nat.reduceEqDiff, Nat.reduceAdd]
  refine brD.intro (fun g => ?_) (fun g => ?_)
  rotate_left
  · simp (maxSteps := 1000000) (disch := omega) only [hw, S, S1, S2, S3, S4, S5, ST, eq_self, reduceIte, reduceCtorEq, Nat.reduceEqDiff, Nat.reduceAdd]
    refine hQ _ _ _ ?_
    simp (maxSteps := 1000000) (disch := omega) only [hw, ho.row.tup, S, S1, S2, S3, S4, S5, ST, eq_self, reduceIte, reduceCtorEq, Nat.reduceEqDiff, Nat.reduceAdd]
    rw [← hend (by omega)]
    exact ⟨ho.base pA, pA.trans hp⟩
  simp (maxSteps := 1000000) (disch := omega) only [h1, h3, h8, hw, S, S1, S2, S3, S4, S5, ST, eq_self, reduceIte, reduceCtorEq, Nat.reduceEqDiff, Nat.reduceAdd]
  refine LoopH.by (fun m2 s H2 => ∃ j R2, m2 + j = set.length ∧ s 1 = w ∧ s 3 = .pointer (some ⟨H.length, 0, none⟩) ∧ s 8 = .int .i64 ((i : Nat) : Int) ∧ s 9 = .int .i64 ((j : Nat) : Int) ∧ Own 3 A H2 (s 7) R2 ∧ A <+: H2 ∧ Sm R2 ∧ (set.drop j).foldl (rcIn es) R2 = set.foldl (rcIn es) R) set.length ?_ ?_
  · refine ⟨0, R, by simp, h1, h3, h8, rfl, ?_, hp, hsm, by rw [List.drop_zero]⟩
    simp only [S, S1, S2, S3, S4, S5, ST, eq_self, reduceIte, reduceCtorEq, Nat.reduceEqDiff, Nat.reduceAdd, hw]
    exact ho
  rintro m2 s H2 ⟨j, R2, hm2, h1, h3, h8, h9, ho2, hp2, hsm2, hf⟩
  have hss2 := hs.pre (pA.trans hp2)
  generalize hw : s 7 = u2 at *
  simp (maxSteps := 1000000) (disch := omega) only [h1, h3, h8, h9, hw, hss2.len Try.underlying38, S, S1, S2, S3, S4, S5, ST, eq_self, reduceIte, reduceCtorEq, Nat.reduceEqDiff, Nat.reduceAdd]
  refine brD.intro (fun g2 => ?_) (fun g2 => ?_)
  rotate_left
  · simp (maxSteps := 1000000) (disch := omega) only [h1, h3, h8, h9, hw, wrap64, S, S1, S2, S3, S4, S5, ST, eq_self, reduceIte, reduceCtorEq, Nat.reduceEqDiff, Nat.reduceAdd]
    rw [List.drop_of_length_le (by omega), List.foldl_nil, ← hiter] at hf
    refine ⟨m - 1, by omega, i + 1, ?_⟩
    rw [← hf]
    (repeat' first | exact ho2 | exact hp2 | apply And.intro) <;> first | (simp only [Value.int.injEq, true_and]; omega) | omega | rfl | assumption | (simp; done) | (simp; omega)
  have hj : j < set.length := by omega
  rw [drop_fold _ set j hj] at hf
  have hym : set.getD j 0 ∈ set := by simp [hj]
  have hyr := hsr _ hym
  generalize hy : set.getD j 0 = y at *
  simp (maxSteps := 1000000) (disch := omega) only [h1, h3, h8, h9, hw, S, S1, S2, S3, S4, S5, ST, eq_self, reduceIte, reduceCtorEq, Nat.reduceEqDiff, Nat.reduceAdd]
  refine LoopH.by (fun m3 s H3 => ∃ k R3, m3 + k = 9 ∧ s 1 = w ∧ s 3 = .pointer (some ⟨H.length, 0, none⟩) ∧ s 8 = .int .i64 ((i : Nat) : Int) ∧ s 9 = .int .i64 ((j : Nat) : Int) ∧ s 10 = .int .i64 ((k : Nat) : Int) ∧ Own 3 A H3 (s 7) R3 ∧ A <+: H3 ∧ Sm R3 ∧ rcIn es R3 y = rcIn es R2 y ∧ (y ∉ R3 → ∀ l, l < k → l < R3.length → nearB es (R3.getD l 0) y = false)) 9 ?_ ?_
  · refine ⟨0, R2, by omega, h1, h3, h8, h9, rfl, ?_, hp2, hsm2, rfl, fun _ l hl => absurd hl (Nat.not_lt_zero l)⟩
    simp only [S, S1, S2, S3, S4, S5, ST, eq_self, reduceIte, reduceCtorEq, Nat.reduceEqDiff, Nat.reduceAdd, hw]
    exact ho2
  rintro m3 s H3 ⟨k, R3, hm3, h1, h3, h8, h9, h10, ho3, hp3, hsm3, hq, hno⟩
  have hss3 := hs.pre (pA.trans hp3)
  have hl3 := hsm3.len
  have hr3 := rA.pre hp3
  have c3 := pre_at hp3 cA
  generalize hw : s 7 = u3 at *
  have stay : ∀ (H4 : AH), A <+: H4 → Own 3 A H4 u3 R3 → (y ∈ R3 ∨ k ≥ R3.length) → rcIn es R2 y = R3 := by
    intro H4 _ _ hc
    rw [← hq]
    unfold rcIn
    split
    · rfl
    · rename_i hm
      rw [if_neg]
      intro e
      obtain ⟨o, hoo, hn⟩ := List.any_eq_true.1 e
      obtain ⟨l, hl, rfl⟩ := List.mem_iff_getElem.1 hoo
      have h5 := hno hm l (by rcases hc with h | h <;> first | exact absurd h hm | omega) hl
      have e5 : R3.getD l 0 = R3[l] := by simp [hl]
      rw [e5, hn] at h5
      exact absurd h5 (by decide)
  simp (maxSteps := 1000000) (disch := omega) only [h1, h3, h8, h9, h10, hw, ho3.row.len Try.underlying38, S, S1, S2, S3, S4, S5, ST, eq_self, reduceIte, reduceCtorEq, Nat.reduceEqDiff, Nat.reduceAdd]
  refine brD.intro (fun g3 => ?_) (fun g3 => ?_)
  rotate_left
  · simp (maxSteps := 1000000) (disch := omega) only [g3, h1, h3, h8, h9, h10, hw, wrap64, S, S1, S2, S3, S4, S5, ST, eq_self, reduceIte, reduceCtorEq, Nat.reduceEqDiff, Nat.reduceAdd]
    rw [stay H3 hp3 ho3 (.inr (by omega))] at hf
    refine ⟨m2 - 1, by omega, j + 1, R3, ?_⟩
    (repeat' first | exact ho3 | exact hp3 | exact hsm3 | exact hf | apply And.intro) <;> first | (simp only [Value.int.injEq, true_and]; omega) | omega | rfl | assumption | (simp; done) | (simp; omega)
  have hk : k < R3.length := by omega
  have hcy := hss3.cell hj
  rw [hy] at hcy
  simp (maxSteps := 1000000) (disch := omega) only [g3, h1, h3, h8, h9, h10, hw, hss3.ix Try.underlying38 cs3, hcy, Int.toNat_natCast, S, S1, S2, S3, S4, S5, ST, eq_self, reduceIte, reduceCtorEq, Nat.reduceEqDiff, Nat.reduceAdd]
  refine CallH.by (l1Has_c u3 R3 y H3 ho3.row (by omega)) ?_
  rintro _ _ ⟨rfl, rfl⟩
  simp (maxSteps := 1000000) (disch := omega) only [g3, S, S1, S2, S3, S4, S5, ST, eq_self, reduceIte, reduceCtorEq, Nat.reduceEqDiff, Nat.reduceAdd]
  refine brD.intro (fun g4 => ?_) (fun g4 => ?_)
  · simp (maxSteps := 1000000) (disch := omega) only [h1, h3, h8, h9, h10, hw, wrap64, S, S1, S2, S3, S4, S5, ST, eq_self, reduceIte, reduceCtorEq, Nat.reduceEqDiff, Nat.reduceAdd]
    rw [stay H3 hp3 ho3 (.inl g4)] at hf
    refine ⟨m2 - 1, by omega, j + 1, R3, ?_⟩
    (repeat' first | exact ho3 | exact hp3 | exact hsm3 | exact hf | apply And.intro) <;> first | (simp only [Value.int.injEq, true_and]; omega) | omega | rfl | assumption | (simp; done) | (simp; omega)
  simp (maxSteps := 1000000) (disch := omega) only [h1, h3, h8, h9, h10, hw, hss3.ix Try.underlying38 cs3, hcy, ho3.row.ix Try.underlying38 cs3, ho3.row.cell, Int.toNat_natCast, ld_agg ag31 cs31 c3, S, S1, S2, S3, S4, S5, ST, eq_self, reduceIte, reduceCtorEq, Nat.reduceEqDiff, Nat.reduceAdd]
  refine CallH.by (l2Near_c n v es _ y H3 hr3 hlen) ?_
  rintro _ H4 ⟨rfl, p4⟩
  have hss4 := hss3.pre p4
  have ho4 := ho3.pre p4
  have hp4 := hp3.trans p4
  have hcy4 := hss4.cell hj
  rw [hy] at hcy4
  simp (maxSteps := 1000000) (disch := omega) only [S, S1, S2, S3, S4, S5, ST, eq_self, reduceIte, reduceCtorEq, Nat.reduceEqDiff, Nat.reduceAdd]
  refine brH.intro (fun e => ?_) (fun e => ?_)
  · simp (maxSteps := 1000000) (disch := omega) only [e, h1, h3, h8, h9, h10, hw, hss4.ix Try.underlying38 cs3, hcy4, Int.toNat_natCast, S, S1, S2, S3, S4, S5, ST, eq_self, reduceIte, reduceCtorEq, Nat.reduceEqDiff, Nat.reduceAdd]
    refine CallH.by (l1Put_c u3 R3 y H4 ho4.row (by omega) g4) ?_
    rintro u5 H5 ⟨ho5, p5⟩
    have ho5' := ho5.base hp4
    have hp5 := hp4.trans p5
    have hsm5 := hsm3.put hyr
    have hmp : y ∈ put R3 y := (put_mem _ _ _).2 (.inl rfl)
    have hq5 : rcIn es (put R3 y) y = rcIn es R2 y := by
      rw [← hq]
      have e1 : rcIn es R3 y = put R3 y := by
        unfold rcIn
        rw [if_neg g4, if_pos]
        refine List.any_eq_true.2 ⟨R3.getD k 0, by simp [hk], e⟩
      rw [e1]
      unfold rcIn
      rw [if_pos hmp]
    have hno5 : y ∉ put R3 y → ∀ l, l < k + 1 → l < (put R3 y).length → nearB es ((put R3 y).getD l 0) y = false := fun h => absurd hmp h
    simp (maxSteps := 1000000) (disch := omega) only [h1, h3, h8, h9, h10, wrap64, S, S1, S2, S3, S4, S5, ST, eq_self, reduceIte, reduceCtorEq, Nat.reduceEqDiff, Nat.reduceAdd]
    refine ⟨m3 - 1, by omega, k + 1, put R3 y, ?_⟩
    (repeat' first | exact ho5' | exact hp5 | exact hsm5 | exact hq5 | exact hno5 | apply And.intro) <;> first | (simp only [Value.int.injEq, true_and]; omega) | omega | rfl | assumption | (simp; done) | (simp; omega)
  · have hno5 : y ∉ R3 → ∀ l, l < k + 1 → l < R3.length → nearB es (R3.getD l 0) y = false := by
      intro h l hl1 hl2
      by_cases el : l = k
      · subst el; exact e
      · exact hno h l (by omega) hl2
    simp (maxSteps := 1000000) (disch := omega) only [e, h1, h3, h8, h9, h10, hw, wrap64, S, S1, S2, S3, S4, S5, ST, eq_self, reduceIte, reduceCtorEq, Nat.reduceEqDiff, Nat.reduceAdd]
    refine ⟨m3 - 1, by omega, k + 1, R3, ?_⟩
    (repeat' first | exact ho4 | exact hp4 | exact hsm3 | exact hq | exact hno5 | apply And.intro) <;> first | (simp only [Value.int.injEq, true_and]; omega) | omega | rfl | assumption | (simp; done) | (simp; omega)
set_option maxRecDepth 20000 in
set_option maxHeartbeats 2000000 in
theorem l1PutW_c (v : Value) (l : List Int) (x : Int) (H : AH) (hr : Row 3 H v l) (hlen : l.length ≤ 1000000) (hso : l.Pairwise (· < ·)) :
    ACalls Try.prog 86 [v, .int .i64 x] H fun r H' => ((r = v ∧ put l x = l) ∨ Own 3 H H' r (put l x)) ∧ H <+: H' := by
  by_cases hx : x ∈ l
  rotate_left
  · exact (l1Put_c v l x H hr hlen hx).mono fun r H' h => ⟨.inr h.1, h.2⟩
  · refine in86 rfl ?_
    intro Q hQ
    obtain ⟨q, hq, hqe⟩ := List.mem_iff_getElem.1 hx
    have hqd : l.getD q 0 = x := by simp [hq, hqe]
    have hpt : put l x = l := by
      have hlt : ∀ j, j < q → l.getD j 0 < x := fun j hj => by
        have := List.pairwise_iff_getElem.1 hso j q (by omega) hq hj
        have e : l.getD j 0 = l[j] := by simp [show j < l.length by omega]
        rw [e]; omega
      rw [putAt_eq0 l x q (by omega) hlt (fun _ => by omega), if_pos ⟨hq, hqd⟩]
    simp (maxSteps := 1000000) (disch := omega) only [cd86, S, S1, S2, S3, S4, S5, ST, eq_self, reduceIte, reduceCtorEq, Nat.reduceEqDiff, Nat.reduceAdd]
    refine LoopH.by (fun m s H' => ∃ i, m + i = l.length ∧ s 0 = v ∧ s 1 = .int .i64 x ∧ s 5 = .int .i64 ((i : Nat) : Int) ∧ H = H' ∧ i ≤ q) l.length ?_ ?_
    · exact ⟨0, by simp, rfl, rfl, rfl, rfl, by omega⟩
    · rintro m s H' ⟨i, hm, h0, h1, h5, rfl, hiq⟩
      have hi : i < l.length := by omega
      have hle : l.getD i 0 ≤ x ∧ (i < q → l.getD i 0 < x) := by
        have e : l.getD i 0 = l[i] := by simp [hi]
        rw [e]
        by_cases e2 : i = q
        · subst e2; exact ⟨by omega, fun h => absurd h (by omega)⟩
        · have := List.pairwise_iff_getElem.1 hso i q hi hq (by omega)
          exact ⟨by omega, fun _ => by omega⟩
      simp (maxSteps := 1000000) (disch := omega) only [h0, h1, h5, hr.len Try.underlying38, S, S1, S2, S3, S4, S5, ST, eq_self, reduceIte, reduceCtorEq, Nat.reduceEqDiff, Nat.reduceAdd]
      refine brD.intro (fun g => ?_) (fun g => absurd (show (i : Int) < l.length by omega) g)
      simp (maxSteps := 1000000) (disch := omega) only [g, h0, h1, h5, hr.ix Try.underlying38 cs3, hr.cell, Int.toNat_natCast, S, S1, S2, S3, S4, S5, ST, eq_self, reduceIte, reduceCtorEq, Nat.reduceEqDiff, Nat.reduceAdd]
      refine brD.intro (fun e => ?_) (fun e => ?_)
      · simp (maxSteps := 1000000) (disch := omega) only [h0, h1, h5, wrap64, S, S1, S2, S3, S4, S5, ST, eq_self, reduceIte, reduceCtorEq, Nat.reduceEqDiff, Nat.reduceAdd]
        have fx : i + 1 ≤ q := by
          by_cases e2 : i = q
          · subst e2; omega
          · omega
        refine ⟨m - 1, by omega, i + 1, ?_⟩
        (repeat' apply And.intro) <;> first | exact fx | (simp only [Value.int.injEq, true_and]; omega) | omega | rfl | assumption | (simp; done) | (simp; omega)
      · have hee : l.getD i 0 = x := by
          by_cases e2 : i = q
          · subst e2; exact hqd
          · exact absurd (hle.2 (by omega)) e
        simp (maxSteps := 1000000) (disch := omega) only [g, h0, h1, h5, hr.len Try.underlying38, hr.ix Try.underlying38 cs3, hr.cell, Int.toNat_natCast, S, S1, S2, S3, S4, S5, ST, eq_self, reduceIte, reduceCtorEq, Nat.reduceEqDiff, Nat.reduceAdd]
        refine brD.intro (fun h => ?_) (fun h => absurd hee h)
        simp (maxSteps := 1000000) (disch := omega) only [h0, S, S1, S2, S3, S4, S5, ST, eq_self, reduceIte, reduceCtorEq, Nat.reduceEqDiff, Nat.reduceAdd]
        refine hQ _ _ _ ?_
        simp (maxSteps := 1000000) (disch := omega) only [h0, hr.tup, S, S1, S2, S3, S4, S5, ST, eq_self, reduceIte, reduceCtorEq, Nat.reduceEqDiff, Nat.reduceAdd]
        exact ⟨.inl hpt, List.prefix_refl _⟩
theorem Sm.puts : ∀ (l : List Int) {s : List Int}, Sm s → (∀ y ∈ l, 0 ≤ y ∧ y < 8) → Sm (l.foldl Ai.put s)
  | [], s, h, _ => h
  | y :: ys, s, h, hl => Sm.puts ys (h.put (hl y (by simp))) fun z hz => hl z (by simp [hz])
theorem Sm.reach {es : List (Int × Int)} {set : List Int} (hl : ∀ y ∈ set, 0 ≤ y ∧ y < 8) {x : Int} (hx : 0 ≤ x ∧ x < 8) : Sm (reachL es set x) := Sm.iter es set hl hx _
theorem pcK_Sm (es : List (Int × Int)) (set : List Int) (hl : ∀ y ∈ set, 0 ≤ y ∧ y < 8) : ∀ (l : List Int) (st : List (List Int) × List Int), (∀ y ∈ l, 0 ≤ y ∧ y < 8) → Sm st.2 → Sm (l.foldl (pcS es set) st).2 ∧ (l.foldl (pcS es set) st).1.length ≤ st.1.length + l.length
  | [], st, _, h => ⟨h, by simp⟩
  | y :: ys, st, hy, h => by
    rw [List.foldl_cons]
    have h1 : Sm (pcS es set st y).2 ∧ (pcS es set st y).1.length ≤ st.1.length + 1 := by
      unfold pcS
      split
      · exact ⟨h, by omega⟩
      · exact ⟨h.puts _ fun z hz => (Sm.reach hl (hy y (by simp))).2 z hz, by simp⟩
    obtain ⟨i1, i2⟩ := pcK_Sm es set hl ys _ (fun z hz => hy z (by simp [hz])) h1.1
    exact ⟨i1, by simp only [List.length_cons]; omega⟩
set_option maxRecDepth 20000 in
set_option maxHeartbeats 4000000 in
theorem l2Pieces_c (n : Int) (v w : Value) (es : List (Int × Int)) (set : List Int) (H : AH) (hr : RowP 81 H v es) (hlen : es.length ≤ 1099511627776) (hs : Row 3 H w set) (hsr : ∀ z ∈ set, 0 ≤ z ∧ z < 8) (hsl : set.length ≤ 8) :
    ACalls Try.prog 161 [.agg (List.toArray [.int .i64 n, v]), w] H fun r H' => InL H.length H'.length 38 3 H' r (piecesL es set) ∧ H <+: H' := by
  refine in161 rfl ?_
  intro Q hQ
  simp (maxSteps := 1000000) (disch := omega) only [cd161, hr.boxG, S, S1, S2, S3, S4, S5, ST, eq_self, reduceIte, reduceCtorEq, Nat.reduceEqDiff, Nat.reduceAdd]
  generalize hA : H ++ [AObj.cells [.int .i64 n, v] 31 false] = A
  have pA : H <+: A := by rw [← hA]; exact List.prefix_append _ _
  have cA : A[H.length]? = some (.cells [.int .i64 n, v] 31 false) := by rw [← hA]; exact at_new ..
  have rA := hr.pre pA
  try simp (maxSteps := 1000000) (disch := omega) only [S, S1, S2, S3, S4, S5, ST, eq_self, reduceIte, reduceCtorEq, Nat.reduceEqDiff, Nat.reduceAdd]
  have lA : A.length = H.length + 1 := by rw [← hA]; simp
  generalize hB : A ++ [AObj.cells [] 38 false] = B
  have pB : A <+: B := by rw [← hB]; exact List.prefix_append _ _
  have cB : B[A.length]? = some (.cells [] 38 false) := by rw [← hB]; exact at_new ..
  have lB : B.length = A.length + 1 := by rw [← hB]; simp
  have uB : InU H.length B.length 38 3 B A.length [] [] := ⟨by omega, by omega, cB, Nat.le_refl _, fun i hi => absurd hi (by simp), fun i j _ hi _ => absurd hi (by simp)⟩
  refine LoopH.by (fun m s H' => ∃ i st oo vs q, m + i = set.length ∧ s 1 = w ∧ s 2 = .pointer (some ⟨H.length, 0, none⟩) ∧ s 7 = .int .i64 ((i : Nat) : Int) ∧ s 5 = .slice (some ⟨oo, 0, none⟩) st.1.length st.1.length ∧ s 6 = .slice (some ⟨q, 0, none⟩) st.2.length st.2.length ∧ (set.drop i).foldl (pcS es set) st = pcK es set set ∧ InU H.length H'.length 38 3 H' oo vs st.1 ∧ H'[q]? = some (.cells (ints st.2) 3 false) ∧ q ≠ oo ∧ A.length ≤ oo ∧ A.length ≤ q ∧ A <+: H' ∧ Sm st.2 ∧ st.1.length ≤ i) set.length ?_ ?_
  · refine ⟨0, ([], []), A.length, [], B.length, by simp, ?_⟩
    simp only [S, S1, S2, S3, S4, S5, ST, eq_self, reduceIte, reduceCtorEq, Nat.reduceEqDiff, Nat.reduceAdd]
    have q1 := uB.pre (List.prefix_append B [AObj.cells [] 3 false])
    have q1' := q1.wide (Nat.le_refl _) (show B.length ≤ (B ++ [AObj.cells [] 3 false]).length by simp)
    have q2 : (B ++ [AObj.cells [] 3 false])[B.length]? = some (.cells (ints []) 3 false) := at_new ..
    have q3 := pre_app pB [AObj.cells [] 3 false]
    have q4 : (set.drop 0).foldl (pcS es set) ([], []) = pcK es set set := by rw [List.drop_zero]; rfl
    have q5 := Sm.nil
    (repeat' first | exact q1' | exact q2 | exact q3 | exact q4 | exact q5 | apply And.intro) <;> first | (simp only [Value.int.injEq, true_and]; omega) | omega | rfl | assumption | (simp; done) | (simp; omega)
  rintro m s H' ⟨i, st, oo, vs, q, hm, h1, h2, h7, h5, h6, hf, hu, hq, hqo, hAo, hAq, hp, hsm, hcn⟩
  have hss := hs.pre (pA.trans hp)
  have hsl6 := hsm.len
  have hlt := hp.length_le
  have hrq : Row 3 H' (.slice (some ⟨q, 0, none⟩) st.2.length st.2.length) st.2 := .inr ⟨q, 0, ints st.2, false, rfl, hq, by rw [ints_len]; omega, by rw [List.drop_zero, ← ints_len, List.take_length]⟩
  simp (maxSteps := 1000000) (disch := omega) only [h1, h2, h7, h5, h6, hss.len Try.underlying38, S, S1, S2, S3, S4, S5, ST, eq_self, reduceIte, reduceCtorEq, Nat.reduceEqDiff, Nat.reduceAdd]
  refine brD.intro (fun g => ?_) (fun g => ?_)
  rotate_left
  · simp (maxSteps := 1000000) (disch := omega) only [h5, S, S1, S2, S3, S4, S5, ST, eq_self, reduceIte, reduceCtorEq, Nat.reduceEqDiff, Nat.reduceAdd]
    refine hQ _ _ _ ?_
    simp (maxSteps := 1000000) (disch := omega) only [h5, S, S1, S2, S3, S4, S5, ST, eq_self, reduceIte, reduceCtorEq, Nat.reduceEqDiff, Nat.reduceAdd]
    rw [List.drop_of_length_le (by omega), List.foldl_nil] at hf
    have hP : piecesL es set = st.1 := by unfold piecesL; rw [← hf]
    rw [hP]
    exact ⟨hu.inl, pA.trans hp⟩
  have hi : i < set.length := by omega
  rw [drop_fold _ set i hi] at hf
  have hym : set.getD i 0 ∈ set := by simp [hi]
  have hyr := hsr _ hym
  have hcy := hss.cell hi
  generalize hy : set.getD i 0 = y at *
  simp (maxSteps := 1000000) (disch := omega) only [h1, h2, h7, h5, h6, hss.ix Try.underlying38 cs3, hcy, Int.toNat_natCast, S, S1, S2, S3, S4, S5, ST, eq_self, reduceIte, reduceCtorEq, Nat.reduceEqDiff, Nat.reduceAdd]
  refine CallH.by (l1Has_c _ st.2 y H' hrq (by omega)) ?_
  rintro _ _ ⟨rfl, rfl⟩
  simp (maxSteps := 1000000) (disch := omega) only [S, S1, S2, S3, S4, S5, ST, eq_self, reduceIte, reduceCtorEq, Nat.reduceEqDiff, Nat.reduceAdd]
  refine brD.intro (fun e => ?_) (fun e => ?_)
  · have hst : pcS es set st y = st := by unfold pcS; rw [if_pos e]
    rw [hst] at hf
    simp (maxSteps := 1000000) (disch := omega) only [h1, h2, h7, h5, h6, wrap64, S, S1, S2, S3, S4, S5, ST, eq_self, reduceIte, reduceCtorEq, Nat.reduceEqDiff, Nat.reduceAdd]
    refine ⟨m - 1, by omega, i + 1, st, oo, vs, q, ?_⟩
    (repeat' first | exact hf | exact hu | exact hq | exact hp | exact hsm | apply And.intro) <;> first | (simp only [Value.int.injEq, true_and]; omega) | omega | rfl | assumption | (simp; done) | (simp; omega)
  have hst : pcS es set st y = (st.1 ++ [reachL es set y], (reachL es set y).foldl put st.2) := by unfold pcS; rw [if_neg e]
  rw [hst] at hf
  have c3 := pre_at hp cA
  simp (maxSteps := 1000000) (disch := omega) only [h1, h2, h7, h5, h6, hss.ix Try.underlying38 cs3, hcy, Int.toNat_natCast, ld_agg ag31 cs31 c3, S, S1, S2, S3, S4, S5, ST, eq_self, reduceIte, reduceCtorEq, Nat.reduceEqDiff, Nat.reduceAdd]
  refine CallH.by (l2Reach_c n v w es set y H' (rA.pre hp) hlen hss hsr hsl hyr) ?_
  rintro pv H2 ⟨ho2, p2⟩
  have hpm := ho2.mine
  have hrs := Sm.reach (es := es) hsr hyr
  have hrl := hrs.len
  generalize hR : reachL es set y = R at *
  simp (maxSteps := 1000000) (disch := omega) only [h1, h2, h7, h5, h6, S, S1, S2, S3, S4, S5, ST, eq_self, reduceIte, reduceCtorEq, Nat.reduceEqDiff, Nat.reduceAdd]
  have hu2 := hu.pre p2
  have hl2 := p2.length_le
  refine LoopH.by (fun m2 s H3 => ∃ k sn q', m2 + k = R.length ∧ s 1 = w ∧ s 2 = .pointer (some ⟨H.length, 0, none⟩) ∧ s 7 = .int .i64 ((i : Nat) : Int) ∧ s 5 = .slice (some ⟨oo, 0, none⟩) st.1.length st.1.length ∧ s 6 = .slice (some ⟨q', 0, none⟩) sn.length sn.length ∧ s 8 = pv ∧ s 9 = .int .i64 ((k : Nat) : Int) ∧ H3[q']? = some (.cells (ints sn) 3 false) ∧ q' ≠ oo ∧ A.length ≤ q' ∧ H2 <+: H3 ∧ Sm sn ∧ (R.drop k).foldl put sn = R.foldl put st.2) R.length ?_ ?_
  · refine ⟨0, st.2, q, by simp, ?_⟩
    simp only [S, S1, S2, S3, S4, S5, ST, eq_self, reduceIte, reduceCtorEq, Nat.reduceEqDiff, Nat.reduceAdd, h1, h2, h7, h5, h6]
    have q2 := pre_at p2 hq
    have q3 := List.prefix_refl H2
    have q4 : (R.drop 0).foldl put st.2 = R.foldl put st.2 := by rw [List.drop_zero]
    (repeat' first | exact q2 | exact q3 | exact q4 | exact hsm | apply And.intro) <;> first | (simp only [Value.int.injEq, true_and]; omega) | omega | rfl | assumption | (simp; done) | (simp; omega)
  rintro m2 s H3 ⟨k, sn, q', hm2, h1, h2, h7, h5, h6, h8, h9, hq', hqo', hAq', hp3, hsn, hfo⟩
  have hpr := ho2.row.pre hp3
  have hsnl := hsn.len
  have hrq' : Row 3 H3 (.slice (some ⟨q', 0, none⟩) sn.length sn.length) sn := .inr ⟨q', 0, ints sn, false, rfl, hq', by rw [ints_len]; omega, by rw [List.drop_zero, ← ints_len, List.take_length]⟩
  have hl3 := hp3.length_le
  simp (maxSteps := 1000000) (disch := omega) only [h1, h2, h7, h5, h6, h8, h9, hpr.len Try.underlying38, S, S1, S2, S3, S4, S5, ST, eq_self, reduceIte, reduceCtorEq, Nat.reduceEqDiff, Nat.reduceAdd]
  refine brD.intro (fun g2 => ?_) (fun g2 => ?_)
  · have hk : k < R.length := by omega
    rw [drop_fold _ R k hk] at hfo
    have hzm : R.getD k 0 ∈ R := by simp [hk]
    have hzr := hrs.2 _ hzm
    have hcz := hpr.cell hk
    generalize hz : R.getD k 0 = z at *
    simp (maxSteps := 1000000) (disch := omega) only [h1, h2, h7, h5, h6, h8, h9, hpr.ix Try.underlying38 cs3, hcz, Int.toNat_natCast, S, S1, S2, S3, S4, S5, ST, eq_self, reduceIte, reduceCtorEq, Nat.reduceEqDiff, Nat.reduceAdd]
    refine CallH.by (l1PutW_c _ sn z H3 hrq' (by omega) hsn.1) ?_
    rintro r4 H4 ⟨hr4, p4⟩
    have hsn4 := hsn.put hzr
    have hp4 := hp3.trans p4
    have hq4 : ∃ q4, r4 = .slice (some ⟨q4, 0, none⟩) (put sn z).length (put sn z).length ∧ H4[q4]? = some (.cells (ints (put sn z)) 3 false) ∧ q4 ≠ oo ∧ A.length ≤ q4 := by
      rcases hr4 with ⟨rfl, e4⟩ | (⟨_, e4⟩ | ⟨q4, e4, g4, c4⟩)
      · rw [e4]
        exact ⟨q', rfl, pre_at p4 hq', hqo', hAq'⟩
      · have : z ∈ put sn z := (put_mem _ _ _).2 (.inl rfl)
        rw [e4] at this; simp at this
      · have := hu.2.1
        exact ⟨q4, e4, c4, by omega, by omega⟩
    obtain ⟨q4, rfl, c4, n4, l4⟩ := hq4
    simp (maxSteps := 1000000) (disch := omega) only [h1, h2, h7, h5, h6, h8, h9, wrap64, S, S1, S2, S3, S4, S5, ST, eq_self, reduceIte, reduceCtorEq, Nat.reduceEqDiff, Nat.reduceAdd]
    refine ⟨m2 - 1, by omega, k + 1, put sn z, q4, ?_⟩
    (repeat' first | exact c4 | exact hp4 | exact hsn4 | exact hfo | apply And.intro) <;> first | (simp only [Value.int.injEq, true_and]; omega) | omega | rfl | assumption | (simp; done) | (simp; omega)
  · rw [List.drop_of_length_le (by omega), List.foldl_nil] at hfo
    rw [← hfo] at hf
    have hu3 := hu2.pre hp3
    have hw3 : InI H'.length H3.length 3 H3 pv R := (InI.of (hpm.pre hp3)).wide (Nat.le_refl _) (Nat.le_refl _)
    have hHA := pA.length_le
    obtain ⟨K2, k1, k2, k3, k4⟩ := hu3.app1 (P := Try.prog) (t2 := 26) Try.underlying26 cs38 (by rw [by38]; decide) zk38 hw3 (by omega) (by omega) (Nat.le_refl _) (by omega)
    simp (maxSteps := 1000000) (disch := omega) only [h1, h2, h7, h5, h6, h8, h9, bsRow hpr H3, k1, wrap64, S, S1, S2, S3, S4, S5, ST, eq_self, reduceIte, reduceCtorEq, Nat.reduceEqDiff, Nat.reduceAdd]
    have g1 : (st.1 ++ [R]).length = st.1.length + 1 := by simp
    have c1 : InU H.length K2.length 38 3 K2 (H3.length + 1) (vs.take st.1.length ++ [pv]) (st.1 ++ [R]) := by rw [k3]; exact k2
    have c2 : K2[q']? = some (.cells (ints sn) 3 false) := k4 _ _ hqo' hq'
    have c5 : A <+: K2 := prefix_of fun o z hz => k4 o z (by have := at_lt hz; omega) (pre_at (hp.trans (p2.trans hp3)) hz)
    have n1 : q' ≠ H3.length + 1 := by have := at_lt hq'; omega
    have n2 : A.length ≤ H3.length + 1 := by omega
    refine ⟨m - 1, by omega, i + 1, (st.1 ++ [R], sn), H3.length + 1, vs.take st.1.length ++ [pv], q', ?_⟩
    simp only [g1]
    (repeat' first | exact hf | exact c1 | exact c2 | exact c5 | exact n1 | exact n2 | exact hsn | apply And.intro) <;> first | (simp only [Value.int.injEq, true_and]; omega) | omega | rfl | assumption | (simp; done) | (simp; omega)
end Go.Proofs.Ytlfongfhbkefmaa.Ai
namespace Go.Proofs.Ytlfongfhbkefmaa.Ai
open Go
def ords228 : List (Nat × List (Nat × Bool)) := []
def cd228 : Cd := (.seq (.reg [⟨⟨some 2, Op.box 31 (Operand.tmp 0), none⟩, []⟩,
  ⟨⟨some 4, Op.assign (Operand.const (Value.slice none 0 0)), none⟩, []⟩]) (.seq (.reg [⟨⟨some 7, Op.buildSlice 38 0 #[], none⟩, []⟩,
  ⟨⟨some 5, Op.assign (Operand.tmp 7), none⟩, []⟩]) (.seq (.seq (.reg [⟨⟨some 6, Op.assign (Operand.const (Value.int IntKind.i64 0)), none⟩, []⟩]) (.block 0 (.loop (.seq (.seq (.reg [⟨⟨some 8, Op.move (Operand.tmp 6), none⟩, []⟩,
  ⟨⟨some 9, Op.fieldAddr 31 (Operand.tmp 2) 0, none⟩, []⟩,
  ⟨⟨some 10, Op.load 3 (Operand.tmp 9), none⟩, []⟩,
  ⟨⟨some 11, Op.binOp BinOp.lss 3 (Operand.tmp 8) (Operand.tmp 10) 3, none⟩, []⟩]) (.cond (Operand.tmp 11) .skip (.exit 0))) (.seq (.block 1 (.seq (.reg [⟨⟨some 14, Op.load 31 (Operand.tmp 2), none⟩, []⟩,
  ⟨⟨some 15, Op.move (Operand.tmp 1), none⟩, []⟩,
  ⟨⟨some 16, Op.move (Operand.tmp 6), none⟩, []⟩,
  ⟨⟨some 17, Op.call { callee := (Callee.value (Operand.func 257)), args := #[(Operand.tmp 14), (Operand.tmp 15), (Operand.tmp 16)], argTypes := #[31, 3, 3] }, none⟩, []⟩]) (.cond (Operand.tmp 17) (.reg [⟨⟨some 18, Op.move (Operand.tmp 5), none⟩, []⟩,
  ⟨⟨some 19, Op.move (Operand.tmp 6), none⟩, []⟩,
  ⟨⟨some 20, Op.buildSlice 38 1 #[(0, (Operand.tmp 19))], none⟩, []⟩,
  ⟨⟨some 21, Op.call { callee := (Callee.builtin Builtin.append), args := #[(Operand.tmp 18), (Operand.tmp 20)], argTypes := #[38, 38] }, none⟩, []⟩,
  ⟨⟨some 5, Op.assign (Operand.tmp 21), none⟩, []⟩]) .skip))) (.reg [⟨⟨some 12, Op.move (Operand.tmp 6), none⟩, []⟩,
  ⟨⟨some 13, Op.binOp BinOp.add 3 (Operand.tmp 12) (Operand.const (Value.int IntKind.i64 1)) 3, none⟩, []⟩,
  ⟨⟨some 6, Op.assign (Operand.tmp 13), none⟩, []⟩])))))) (.seq (.reg [⟨⟨some 22, Op.move (Operand.tmp 5), none⟩, []⟩,
  ⟨⟨some 4, Op.assign (Operand.tmp 22), none⟩, []⟩]) .ret))))
theorem sl228 : slim Try.f228.ntmps ords228 (Try.f228.body.getD .skip) = some cd228 := by kernel_rfl
theorem in228 {args : List Value} {H : AH} {R : Value → AH → Prop} (hl : args.length = 2) (h : ∀ (Q : Exit → Sl → AH → Prop), (∀ e s H, endA Try.prog [ResultVar.tmp 4] R e s H → Q e s H) → wpC Try.prog cd228 Q (enterA args) H) : ACalls Try.prog 228 args H R :=
  ACalls.intro (by kernel_rfl) Try.func228 rfl (by kernel_rfl) sl228 hl (of_decide_eq_true (by kernel_rfl)) (by kernel_rfl) h
end Go.Proofs.Ytlfongfhbkefmaa.Ai
namespace Go.Proofs.Ytlfongfhbkefmaa.Ai
open Go Go.RowKit
set_option linter.unusedVariables false
set_option linter.unusedSimpArgs false
set_option maxRecDepth 20000 in
set_option maxHeartbeats 1000000 in
theorem l2Neighbors_c (n : Int) (v : Value) (es : List (Int × Int)) (x : Int) (H : AH) (hr : RowP 81 H v es) (hlen : es.length ≤ 1099511627776) (hn : 0 ≤ n ∧ n ≤ 8) :
    ACalls Try.prog 228 [.agg (List.toArray [.int .i64 n, v]), .int .i64 x] H fun r H' => Own 3 H H' r (nbsU es x n.toNat) ∧ H <+: H' := by
  refine in228 rfl ?_
  intro Q hQ
  simp (maxSteps := 1000000) (disch := omega) only [cd228, hr.boxG, S, S1, S2, S3, S4, S5, ST, eq_self, reduceIte, reduceCtorEq, Nat.reduceEqDiff, Nat.reduceAdd]
  generalize hA : H ++ [AObj.cells [.int .i64 n, v] 31 false] = A
  have pA : H <+: A := by rw [← hA]; exact List.prefix_append _ _
  have cA : A[H.length]? = some (.cells [.int .i64 n, v] 31 false) := by rw [← hA]; exact at_new ..
  have rA := hr.pre pA
  try simp (maxSteps := 1000000) (disch := omega) only [S, S1, S2, S3, S4, S5, ST, eq_self, reduceIte, reduceCtorEq, Nat.reduceEqDiff, Nat.reduceAdd]
  refine LoopH.by (fun m s H' => ∃ i, m + i = n.toNat ∧ s 1 = .int .i64 x ∧ s 2 = .pointer (some ⟨H.length, 0, none⟩) ∧ s 6 = .int .i64 ((i : Nat) : Int) ∧ Own 3 A H' (s 5) (nbsU es x i) ∧ A <+: H') n.toNat ?_ ?_
  · exact ⟨0, by simp, rfl, rfl, rfl, .inr ⟨A.length, rfl, Nat.le_refl _, at_new ..⟩, List.prefix_append _ _⟩
  · rintro m s H' ⟨i, hm, h1, h2, h6, ho, hp⟩
    have hr' := rA.pre hp
    have cH := pre_at hp cA
    have hl := nbsU_len es x i
    have hst : nbsU es x (i + 1) = nbsU es x i ++ if nearB es x i = true then [(i : Int)] else [] := rfl
    generalize hw : s 5 = w at *
    simp (maxSteps := 1000000) (disch := omega) only [h1, h2, h6, hw, cell_of cH, S, S1, S2, S3, S4, S5, ST, eq_self, reduceIte, reduceCtorEq, Nat.reduceEqDiff, Nat.reduceAdd]
    refine brD.intro (fun g => ?_) (fun g => ?_)
    · simp (maxSteps := 1000000) (disch := omega) only [h1, h2, h6, hw, ld_agg ag31 cs31 cH, S, S1, S2, S3, S4, S5, ST, eq_self, reduceIte, reduceCtorEq, Nat.reduceEqDiff, Nat.reduceAdd]
      refine CallH.by (l2Near_c n v es x i H' hr' hlen) ?_
      rintro _ B ⟨rfl, pB⟩
      have hoB := ho.pre pB
      have hpB := hp.trans pB
      simp (maxSteps := 1000000) (disch := omega) only [S, S1, S2, S3, S4, S5, ST, eq_self, reduceIte, reduceCtorEq, Nat.reduceEqDiff, Nat.reduceAdd]
      refine brH.intro (fun e2 => ?_) (fun e2 => ?_)
      · obtain ⟨w', H2, k1, k2, k3, k4, k5, k6⟩ := own1_38 hoB hpB (by omega) (i : Int)
        simp (maxSteps := 1000000) (disch := omega) only [e2, h1, h2, h6, hw, k1, wrap64, S, S1, S2, S3, S4, S5, ST, eq_self, reduceIte, reduceCtorEq, Nat.reduceEqDiff, Nat.reduceAdd]
        rw [if_pos e2] at hst
        rw [← hst] at k2
        refine ⟨m - 1, by omega, i + 1, ?_⟩
        (repeat' first | exact k2 | exact k3 | apply And.intro) <;> first | (simp only [Value.int.injEq, true_and]; omega) | omega | rfl | assumption | (simp; done) | (simp; omega)
      · simp (maxSteps := 1000000) (disch := omega) only [e2, h1, h2, h6, hw, wrap64, S, S1, S2, S3, S4, S5, ST, eq_self, reduceIte, reduceCtorEq, Nat.reduceEqDiff, Nat.reduceAdd]
        rw [if_neg (by simpa using e2), List.append_nil] at hst
        rw [← hst] at hoB
        refine ⟨m - 1, by omega, i + 1, ?_⟩
        (repeat' first | exact hoB | exact hpB | apply And.intro) <;> first | (simp only [Value.int.injEq, true_and]; omega) | omega | rfl | assumption | (simp; done) | (simp; omega)
    · simp (maxSteps := 1000000) (disch := omega) only [hw, S, S1, S2, S3, S4, S5, ST, eq_self, reduceIte, reduceCtorEq, Nat.reduceEqDiff, Nat.reduceAdd]
      refine hQ _ _ _ ?_
      simp (maxSteps := 1000000) (disch := omega) only [hw, ho.row.tup, S, S1, S2, S3, S4, S5, ST, eq_self, reduceIte, reduceCtorEq, Nat.reduceEqDiff, Nat.reduceAdd]
      have : i = n.toNat := by omega
      subst this
      exact ⟨ho.base pA, pA.trans hp⟩
end Go.Proofs.Ytlfongfhbkefmaa.Ai
namespace Go.Proofs.Ytlfongfhbkefmaa.Ai
open Go
end Go.Proofs.Ytlfongfhbkefmaa.Ai
namespace Go.Proofs.Ytlfongfhbkefmaa.Ai
open Go Go.RowKit
set_option linter.unusedVariables false
set_option linter.unusedSimpArgs false
theorem pieces_le (es : List (Int × Int)) (set : List Int) (hl : ∀ y ∈ set, 0 ≤ y ∧ y < 8) : (piecesL es set).length ≤ set.length := by
  have := (pcK_Sm es set hl set ([], []) hl Sm.nil).2
  simpa [piecesL, pcK] using this
end Go.Proofs.Ytlfongfhbkefmaa.Ai
namespace Go.Proofs.Ytlfongfhbkefmaa.Ai
open Go
set_option linter.unusedVariables false
theorem Rch.trans' {adj : Int → Int → Prop} {S : Int → Prop} {x y z : Int} (h1 : Rch adj S x y) (h2 : Rch adj S y z) : Rch adj S x z := by
  induction h2 with
  | refl => exact h1
  | step _ a b ih => exact .step ih a b
theorem Rch.symm' {adj : Int → Int → Prop} {S : Int → Prop} (hs : ∀ a b, adj a b → adj b a) {x z : Int} (hx : S x) (h : Rch adj S x z) : Rch adj S z x := by
  induction h with
  | refl => exact .refl
  | step hy ha hz ih => exact (Rch.step .refl (hs _ _ ha) (hy.in_ hx)).trans' ih
theorem reach_x (es : List (Int × Int)) (set : List Int) (x : Int) : x ∈ reachL es set x := rcIter_x es set x _
structure PcI (es : List (Int × Int)) (set : List Int) (st : List (List Int) × List Int) : Prop where
  mem : ∀ p ∈ st.1, ∃ x ∈ set, p = reachL es set x
  seen : ∀ z, z ∈ st.2 ↔ ∃ p ∈ st.1, z ∈ p
theorem PcI.step {es : List (Int × Int)} {set : List Int} {st : List (List Int) × List Int} (h : PcI es set st) {y : Int} (hy : y ∈ set) : PcI es set (pcS es set st y) := by
  unfold pcS
  split
  · exact h
  · refine ⟨?_, ?_⟩
    · intro p hp
      rcases List.mem_append.1 hp with hp | hp
      · exact h.mem p hp
      · simp only [List.mem_cons, List.not_mem_nil, or_false] at hp
        exact ⟨y, hy, hp⟩
    · intro z
      show z ∈ (reachL es set y).foldl put st.2 ↔ _
      rw [puts_mem, h.seen]
      constructor
      · rintro (h1 | ⟨p, h1, h2⟩)
        · exact ⟨_, List.mem_append.2 (.inr (by simp)), h1⟩
        · exact ⟨p, List.mem_append.2 (.inl h1), h2⟩
      · rintro ⟨p, h1, h2⟩
        rcases List.mem_append.1 h1 with h1 | h1
        · exact .inr ⟨p, h1, h2⟩
        · simp only [List.mem_cons, List.not_mem_nil, or_false] at h1
          rw [h1] at h2; exact .inl h2
theorem pcS_mono (es : List (Int × Int)) (set : List Int) (st : List (List Int) × List Int) (y : Int) {z : Int} (h : z ∈ st.2) : z ∈ (pcS es set st y).2 := by
  unfold pcS
  split
  · exact h
  · exact (puts_mem z _ _).2 (.inr h)
theorem pcS_get (es : List (Int × Int)) (set : List Int) (st : List (List Int) × List Int) (y : Int) : y ∈ (pcS es set st y).2 := by
  unfold pcS
  split
  · rename_i h; exact h
  · exact (puts_mem y _ _).2 (.inl (reach_x es set y))
theorem pcF_mono (es : List (Int × Int)) (set : List Int) {z : Int} : ∀ (l : List Int) (st : List (List Int) × List Int), z ∈ st.2 → z ∈ (l.foldl (pcS es set) st).2
  | [], st, h => h
  | y :: ys, st, h => pcF_mono es set ys _ (pcS_mono es set st y h)
theorem pcF_inv (es : List (Int × Int)) (set : List Int) : ∀ (l : List Int) (st : List (List Int) × List Int), (∀ y ∈ l, y ∈ set) → PcI es set st → PcI es set (l.foldl (pcS es set) st) ∧ ∀ y ∈ l, y ∈ (l.foldl (pcS es set) st).2
  | [], st, _, h => ⟨h, fun y hy => by simp at hy⟩
  | y :: ys, st, hl, h => by
    obtain ⟨i1, i2⟩ := pcF_inv es set ys _ (fun z hz => hl z (by simp [hz])) (h.step (hl y (by simp)))
    refine ⟨i1, fun z hz => ?_⟩
    rcases List.mem_cons.1 hz with rfl | hz
    · exact pcF_mono es set ys _ (pcS_get es set st z)
    · exact i2 z hz
theorem pieces_mem {es : List (Int × Int)} {set p : List Int} (hp : p ∈ piecesL es set) : ∃ x ∈ set, p = reachL es set x :=
  (pcF_inv es set set ([], []) (fun _ h => h) ⟨fun p hp => by simp at hp, fun z => by simp⟩).1.mem p hp
theorem pieces_cov {es : List (Int × Int)} {set : List Int} {z : Int} (hz : z ∈ set) : ∃ p ∈ piecesL es set, z ∈ p := by
  obtain ⟨h1, h2⟩ := pcF_inv es set set ([], []) (fun _ h => h) ⟨fun p hp => by simp at hp, fun z => by simp⟩
  exact (h1.seen z).1 (h2 z hz)
theorem piece_clo {es : List (Int × Int)} {set p : List Int} (hp : p ∈ piecesL es set) {a b : Int} (hb : b ∈ set) (hn : nearB es a b = true) (ha : a ∈ p) : b ∈ p := by
  obtain ⟨x, hx, rfl⟩ := pieces_mem hp
  exact (reach_iff es set x hx b).2 (.step ((reach_iff es set x hx a).1 ha) hn hb)
theorem piece_sub {es : List (Int × Int)} {set p : List Int} (hp : p ∈ piecesL es set) {a : Int} (ha : a ∈ p) : a ∈ set := by
  obtain ⟨x, hx, rfl⟩ := pieces_mem hp
  exact ((reach_iff es set x hx a).1 ha).in_ (S := (· ∈ set)) hx
theorem piece_first {es : List (Int × Int)} {set p : List Int} (hp : p ∈ piecesL es set) : p.getD 0 0 ∈ p := by
  obtain ⟨x, hx, rfl⟩ := pieces_mem hp
  have := List.length_pos_of_mem (reach_x es set x)
  simp [this]
theorem piece_rch {es : List (Int × Int)} {set p : List Int} (hp : p ∈ piecesL es set) {a b : Int} (ha : a ∈ p) (hb : b ∈ p) : Rch (fun a b => nearB es a b = true) (· ∈ set) a b := by
  obtain ⟨x, hx, rfl⟩ := pieces_mem hp
  have h1 := (reach_iff es set x hx a).1 ha
  have h2 := (reach_iff es set x hx b).1 hb
  exact (h1.symm' (fun a b h => by rw [nearB_comm]; exact h) hx).trans' h2
end Go.Proofs.Ytlfongfhbkefmaa.Ai
namespace Go.Proofs.Ytlfongfhbkefmaa.Ai
open Go
set_option linter.unusedVariables false
/-- at some edge -/
def nbB (es : List (Int × Int)) (n : Nat) (x : Int) : Bool := decide (0 < (nbsU es x n).length)
theorem nbB_iff (es : List (Int × Int)) (n : Nat) (x : Int) : nbB es n x = true ↔ ∃ y : Int, (0 ≤ y ∧ y < n) ∧ nearB es x y = true := by
  unfold nbB
  rw [decide_eq_true_iff, List.length_pos_iff_exists_mem]
  exact exists_congr fun y => nbsU_mem es x n y
/-- the nodes at edges, of the first few -/
def domL (es : List (Int × Int)) (n : Nat) (k : Nat) : List Int := (alls k).filter (nbB es n)
theorem domL_succ (es : List (Int × Int)) (n k : Nat) : domL es n (k + 1) = domL es n k ++ (if nbB es n (k : Int) = true then [(k : Int)] else []) := by
  unfold domL
  rw [alls_succ, List.filter_append]
  congr 1
  by_cases h : nbB es n (k : Int) = true
  · rw [if_pos h]; simp [h]
  · rw [if_neg h]; simp [h]
theorem domL_mem (es : List (Int × Int)) (n k : Nat) (x : Int) : x ∈ domL es n k ↔ (0 ≤ x ∧ x < k) ∧ nbB es n x = true := by
  unfold domL; rw [List.mem_filter, alls_mem]
theorem domL_len (es : List (Int × Int)) (n k : Nat) : (domL es n k).length ≤ k := by
  unfold domL
  have := List.length_filter_le (nbB es n) (alls k)
  rw [alls_len] at this; exact this
section
variable {es : List (Int × Int)} {n : Nat} (hr : ∀ x y : Int, nearB es x y = true → (0 ≤ x ∧ x < n) ∧ (0 ≤ y ∧ y < n))
include hr
end
end Go.Proofs.Ytlfongfhbkefmaa.Ai
namespace Go.Proofs.Ytlfongfhbkefmaa.Ai
open Go Go.RowKit
set_option linter.unusedVariables false
/-- both nodes of an edge -/
abbrev ed1 (es : List (Int × Int)) (e : Int) : Int := (es.getD e.toNat (0, 0)).1
abbrev ed2 (es : List (Int × Int)) (e : Int) : Int := (es.getD e.toNat (0, 0)).2
def seenL (es : List (Int × Int)) (xs : List Int) : List Int := xs.flatMap fun e => [ed1 es e, ed2 es e]
theorem seenL_snoc (es : List (Int × Int)) (xs : List Int) (e : Int) : seenL es (xs ++ [e]) = seenL es xs ++ [ed1 es e, ed2 es e] := by simp [seenL]
theorem seenL_take (es : List (Int × Int)) (xs : List Int) (i : Nat) (hi : i < xs.length) : seenL es (xs.take (i + 1)) = seenL es (xs.take i) ++ [ed1 es (xs.getD i 0), ed2 es (xs.getD i 0)] := by
  rw [List.take_add_one, List.getElem?_eq_getElem hi]
  have : xs.getD i 0 = xs[i] := by simp [hi]
  rw [this]
  exact seenL_snoc es _ _
theorem seenL_len (es : List (Int × Int)) (xs : List Int) : (seenL es xs).length = 2 * xs.length := by
  induction xs with
  | nil => rfl
  | cons a xs ih => simp only [seenL, List.flatMap_cons, List.length_append] at ih ⊢; simp only [List.length_cons, List.length_nil, ih]; omega
def rsOk (n : Int) (xs : List Int) (i : Nat) : Prop := (0 ≤ xs.getD i 0 ∧ xs.getD i 0 ≤ n - 1) ∧ (0 < i → xs.getD (i - 1) 0 < xs.getD i 0)
instance (n : Int) (xs : List Int) (i : Nat) : Decidable (rsOk n xs i) := by unfold rsOk; infer_instance
def frOk (es : List (Int × Int)) (xs : List Int) (i : Nat) : Prop := ed1 es (xs.getD i 0) ∉ seenL es (xs.take i) ∧ ed2 es (xs.getD i 0) ∉ seenL es (xs.take i)
instance (es : List (Int × Int)) (xs : List Int) (i : Nat) : Decidable (frOk es xs i) := by unfold frOk; infer_instance
def MtU (es : List (Int × Int)) (xs : List Int) (k : Nat) : Prop := ∀ i, i < k → rsOk es.length xs i ∧ frOk es xs i
instance (es : List (Int × Int)) (xs : List Int) (k : Nat) : Decidable (MtU es xs k) := by unfold MtU; infer_instance
/-- a matching -/
abbrev Mtc (es : List (Int × Int)) (xs : List Int) : Prop := MtU es xs xs.length
theorem MtU.zero (es : List (Int × Int)) (xs : List Int) : MtU es xs 0 := fun i h => absurd h (Nat.not_lt_zero i)
theorem MtU.succ {es : List (Int × Int)} {xs : List Int} {k : Nat} (h : MtU es xs k) (h1 : rsOk es.length xs k) (h2 : frOk es xs k) : MtU es xs (k + 1) := by
  intro i hi
  rcases Nat.lt_succ_iff_lt_or_eq.1 hi with g | g
  · exact h i g
  · rw [g]; exact ⟨h1, h2⟩
theorem MtU.no {es : List (Int × Int)} {xs : List Int} {k i : Nat} (hi : i < k) (h : ¬ (rsOk es.length xs i ∧ frOk es xs i)) : ¬ MtU es xs k := fun g => h (g i hi)
end Go.Proofs.Ytlfongfhbkefmaa.Ai
namespace Go.Proofs.Ytlfongfhbkefmaa.Ai
open Go Go.RowKit Go.Shelf
set_option linter.unusedVariables false
set_option linter.unusedSimpArgs false
attribute [local go_sem] Oper.semAt_some
/-- a slice value that holds ints, in a block below n₀; or it is nil -/
def SlInts (n₀ : Nat) (W : World) (sv : Value) (zs : List Int) : Prop :=
  (∃ a c, sv = .slice a 0 c ∧ zs = []) ∨ ∃ b off cap, sv = .slice (some ⟨b, off, none⟩) zs.length cap ∧ b < n₀ ∧ ∀ j, j < zs.length → W.cell? ⟨b, off + j, none⟩ = some (.int .i64 (zs[j]?.getD 0))
theorem SlInts.below {n₀ : Nat} {A B : World} (h : Below n₀ A B) {sv : Value} {zs : List Int} : SlInts n₀ A sv zs → SlInts n₀ B sv zs
  | .inl e => .inl e
  | .inr ⟨b, off, cap, e, hb, hc⟩ => .inr ⟨b, off, cap, e, hb, fun j hj => (h.cell (p := ⟨b, off + j, none⟩) hb).trans (hc j hj)⟩
end Go.Proofs.Ytlfongfhbkefmaa.Ai
namespace Go.Proofs.Ytlfongfhbkefmaa.Ai
open Go
end Go.Proofs.Ytlfongfhbkefmaa.Ai
namespace Go.Proofs.Ytlfongfhbkefmaa.Ai
open Go Go.RowKit
set_option linter.unusedVariables false
set_option linter.unusedSimpArgs false
instance (n : Int) (ys : List Int) : Decidable (Rsg n ys) := by unfold Rsg; infer_instance
end Go.Proofs.Ytlfongfhbkefmaa.Ai
namespace Go.Proofs.Ytlfongfhbkefmaa.Ai
open Go
def ords151 : List (Nat × List (Nat × Bool)) := [(5, [(0, false), (1, false), (2, false), (3, false), (4, false), (5, false), (6, false), (7, false), (8, true), (9, false), (10, false), (11, false), (12, false), (13, false), (14, false), (15, false), (16, false), (17, false), (18, false), (19, false), (20, false), (21, false), (22, false), (23, false), (24, false), (25, false)]), (7, [(0, false), (1, false), (2, false), (3, false), (4, false), (5, false), (6, false), (7, false), (8, false), (9, true)]), (10, [(0, false), (1, false), (2, false), (3, false), (5, false), (6, false), (7, false), (4, true), (8, true), (9, true)])]
def cd151 : Cd := (.seq (.reg [⟨⟨some 2, Op.box 31 (Operand.tmp 0), none⟩, []⟩,
  ⟨⟨some 4, Op.assign (Operand.const (Value.bool false)), none⟩, []⟩]) (.seq (.reg [⟨⟨some 8, Op.buildSlice 38 0 #[], none⟩, []⟩,
  ⟨⟨some 5, Op.assign (Operand.tmp 8), none⟩, []⟩]) (.seq (.seq (.reg [⟨⟨some 6, Op.assign (Operand.const (Value.int IntKind.i64 0)), none⟩, []⟩]) (.block 0 (.loop (.seq (.seq (.reg [⟨⟨some 9, Op.move (Operand.tmp 6), none⟩, []⟩,
  ⟨⟨some 10, Op.move (Operand.tmp 1), none⟩, []⟩,
  ⟨⟨some 11, Op.call { callee := (Callee.builtin Builtin.len), args := #[(Operand.tmp 10)], argTypes := #[38] }, none⟩, []⟩,
  ⟨⟨some 12, Op.binOp BinOp.lss 3 (Operand.tmp 9) (Operand.tmp 11) 3, none⟩, []⟩]) (.cond (Operand.tmp 12) .skip (.exit 0))) (.seq (.block 1 (.seq (.seq (.reg [⟨⟨some 15, Op.move (Operand.tmp 1), none⟩, []⟩,
  ⟨⟨some 16, Op.move (Operand.tmp 6), none⟩, []⟩,
  ⟨⟨some 17, Op.indexAddr 38 (Operand.tmp 15) (Operand.tmp 16), none⟩, []⟩,
  ⟨⟨some 18, Op.load 3 (Operand.tmp 17), none⟩, []⟩,
  ⟨⟨some 19, Op.fieldAddr 31 (Operand.tmp 2) 1, none⟩, []⟩,
  ⟨⟨some 20, Op.load 22 (Operand.tmp 19), none⟩, []⟩,
  ⟨⟨some 21, Op.call { callee := (Callee.builtin Builtin.len), args := #[(Operand.tmp 20)], argTypes := #[22] }, none⟩, []⟩,
  ⟨⟨some 22, Op.binOp BinOp.sub 3 (Operand.tmp 21) (Operand.const (Value.int IntKind.i64 1)) 3, none⟩, []⟩,
  ⟨⟨some 23, Op.call { callee := (Callee.value (Operand.func 67)), args := #[(Operand.tmp 18), (Operand.const (Value.int IntKind.i64 0)), (Operand.tmp 22)], argTypes := #[3, 3, 3] }, none⟩, []⟩,
  ⟨⟨some 24, Op.unOp UnOp.not 4 (Operand.tmp 23), none⟩, []⟩,
  ⟨⟨some 25, Op.move (Operand.tmp 24), none⟩, []⟩,
  ⟨⟨some 26, Op.move (Operand.tmp 6), some (25, false)⟩, []⟩,
  ⟨⟨some 27, Op.binOp BinOp.gtr 3 (Operand.tmp 26) (Operand.const (Value.int IntKind.i64 0)) 3, some (25, false)⟩, []⟩,
  ⟨⟨some 28, Op.move (Operand.tmp 27), some (25, false)⟩, []⟩,
  ⟨⟨some 29, Op.move (Operand.tmp 1), some (28, true)⟩, []⟩,
  ⟨⟨some 30, Op.move (Operand.tmp 6), some (28, true)⟩, []⟩,
  ⟨⟨some 31, Op.binOp BinOp.sub 3 (Operand.tmp 30) (Operand.const (Value.int IntKind.i64 1)) 3, some (28, true)⟩, []⟩,
  ⟨⟨some 32, Op.indexAddr 38 (Operand.tmp 29) (Operand.tmp 31), some (28, true)⟩, []⟩,
  ⟨⟨some 33, Op.load 3 (Operand.tmp 32), some (28, true)⟩, []⟩,
  ⟨⟨some 34, Op.move (Operand.tmp 1), some (28, true)⟩, []⟩,
  ⟨⟨some 35, Op.move (Operand.tmp 6), some (28, true)⟩, []⟩,
  ⟨⟨some 36, Op.indexAddr 38 (Operand.tmp 34) (Operand.tmp 35), some (28, true)⟩, []⟩,
  ⟨⟨some 37, Op.load 3 (Operand.tmp 36), some (28, true)⟩, []⟩,
  ⟨⟨some 38, Op.binOp BinOp.geq 3 (Operand.tmp 33) (Operand.tmp 37) 3, some (28, true)⟩, []⟩,
  ⟨⟨some 39, Op.pick (Operand.tmp 28) (Operand.tmp 38) (Operand.const (Value.bool false)), some (25, false)⟩, []⟩,
  ⟨⟨some 40, Op.pick (Operand.tmp 25) (Operand.const (Value.bool true)) (Operand.tmp 39), none⟩, []⟩]) (.cond (Operand.tmp 40) (.seq (.reg [⟨⟨some 4, Op.assign (Operand.const (Value.bool false)), none⟩, []⟩]) .ret) .skip)) (.seq (.reg [⟨⟨some 41, Op.fieldAddr 31 (Operand.tmp 2) 1, none⟩, []⟩,
  ⟨⟨some 42, Op.load 22 (Operand.tmp 41), none⟩, []⟩,
  ⟨⟨some 43, Op.move (Operand.tmp 1), none⟩, []⟩,
  ⟨⟨some 44, Op.move (Operand.tmp 6), none⟩, []⟩,
  ⟨⟨some 45, Op.indexAddr 38 (Operand.tmp 43) (Operand.tmp 44), none⟩, []⟩,
  ⟨⟨some 46, Op.load 3 (Operand.tmp 45), none⟩, []⟩,
  ⟨⟨some 47, Op.indexAddr 22 (Operand.tmp 42) (Operand.tmp 46), none⟩, []⟩,
  ⟨⟨some 48, Op.load 81 (Operand.tmp 47), none⟩, []⟩,
  ⟨⟨some 7, Op.alloc 81, none⟩, []⟩,
  ⟨⟨none, Op.store 81 (Operand.tmp 7) (Operand.tmp 48), none⟩, []⟩]) (.seq (.seq (.reg [⟨⟨some 49, Op.move (Operand.tmp 5), none⟩, []⟩,
  ⟨⟨some 50, Op.indexAddr 81 (Operand.tmp 7) (Operand.const (Value.int IntKind.i64 0)), none⟩, []⟩,
  ⟨⟨some 51, Op.load 3 (Operand.tmp 50), none⟩, []⟩,
  ⟨⟨some 52, Op.call { callee := (Callee.value (Operand.func 144)), args := #[(Operand.tmp 49), (Operand.tmp 51)], argTypes := #[38, 3] }, none⟩, []⟩,
  ⟨⟨some 53, Op.move (Operand.tmp 52), none⟩, []⟩,
  ⟨⟨some 54, Op.move (Operand.tmp 5), some (53, false)⟩, []⟩,
  ⟨⟨some 55, Op.indexAddr 81 (Operand.tmp 7) (Operand.const (Value.int IntKind.i64 1)), some (53, false)⟩, []⟩,
  ⟨⟨some 56, Op.load 3 (Operand.tmp 55), some (53, false)⟩, []⟩,
  ⟨⟨some 57, Op.call { callee := (Callee.value (Operand.func 144)), args := #[(Operand.tmp 54), (Operand.tmp 56)], argTypes := #[38, 3] }, some (53, false)⟩, []⟩,
  ⟨⟨some 58, Op.pick (Operand.tmp 53) (Operand.const (Value.bool true)) (Operand.tmp 57), none⟩, []⟩]) (.cond (Operand.tmp 58) (.seq (.reg [⟨⟨some 4, Op.assign (Operand.const (Value.bool false)), none⟩, []⟩]) .ret) .skip)) (.reg [⟨⟨some 59, Op.move (Operand.tmp 5), none⟩, []⟩,
  ⟨⟨some 60, Op.indexAddr 81 (Operand.tmp 7) (Operand.const (Value.int IntKind.i64 0)), none⟩, []⟩,
  ⟨⟨some 61, Op.load 3 (Operand.tmp 60), none⟩, []⟩,
  ⟨⟨some 62, Op.buildSlice 38 1 #[(0, (Operand.tmp 61))], none⟩, []⟩,
  ⟨⟨some 64, Op.indexAddr 81 (Operand.tmp 7) (Operand.const (Value.int IntKind.i64 1)), none⟩, []⟩,
  ⟨⟨some 65, Op.load 3 (Operand.tmp 64), none⟩, []⟩,
  ⟨⟨some 66, Op.buildSlice 38 1 #[(0, (Operand.tmp 65))], none⟩, []⟩,
  ⟨⟨some 63, Op.call { callee := (Callee.builtin Builtin.append), args := #[(Operand.tmp 59), (Operand.tmp 62)], argTypes := #[38, 38] }, none⟩, [⟨some 66, Op.buildSlice 38 1 #[(0, (Operand.tmp 65))], none⟩, ⟨some 65, Op.load 3 (Operand.tmp 64), none⟩]⟩,
  ⟨⟨some 67, Op.call { callee := (Callee.builtin Builtin.append), args := #[(Operand.tmp 63), (Operand.tmp 66)], argTypes := #[38, 38] }, none⟩, []⟩,
  ⟨⟨some 5, Op.assign (Operand.tmp 67), none⟩, []⟩]))))) (.reg [⟨⟨some 13, Op.move (Operand.tmp 6), none⟩, []⟩,
  ⟨⟨some 14, Op.binOp BinOp.add 3 (Operand.tmp 13) (Operand.const (Value.int IntKind.i64 1)) 3, none⟩, []⟩,
  ⟨⟨some 6, Op.assign (Operand.tmp 14), none⟩, []⟩])))))) (.seq (.reg [⟨⟨some 4, Op.assign (Operand.const (Value.bool true)), none⟩, []⟩]) .ret))))
theorem sl151 : slim Try.f151.ntmps ords151 (Try.f151.body.getD .skip) = some cd151 := by kernel_rfl
theorem in151 {args : List Value} {H : AH} {R : Value → AH → Prop} (hl : args.length = 2) (h : ∀ (Q : Exit → Sl → AH → Prop), (∀ e s H, endA Try.prog [ResultVar.tmp 4] R e s H → Q e s H) → wpC Try.prog cd151 Q (enterA args) H) : ACalls Try.prog 151 args H R :=
  ACalls.intro (by kernel_rfl) Try.func151 rfl (by kernel_rfl) sl151 hl (of_decide_eq_true (by kernel_rfl)) (by kernel_rfl) h
end Go.Proofs.Ytlfongfhbkefmaa.Ai
namespace Go.Proofs.Ytlfongfhbkefmaa.Ai
open Go Go.RowKit
set_option linter.unusedVariables false
set_option linter.unusedSimpArgs false
/-- two numbers, appended one after the other -/
theorem Own.app2 {P : Program} {t e : TypeId} (hu : P.underlying t = some (.slice e)) (hc : P.cellsOf e = 1) (hby : P.bytesOf e ≤ 64) (hz : zeroOk P e = true) {H0 B : AH} {v : Value} {ys : List Int} (h : Own e H0 B v ys) (hp : H0 <+: B) (hb : ys.length ≤ 1099511627774) (a b : Int) :
    ∃ v1 H1, appendA P t t v (.slice (some ⟨B.length, 0, none⟩) 1 1) (B ++ [.cells [.int .i64 a] e false] ++ [.cells [.int .i64 b] e false]) = some (v1, H1) ∧ isTup v1 = false ∧ H1[(B ++ [AObj.cells [.int .i64 a] e false]).length]? = some (.cells [.int .i64 b] e false) ∧ Kept v B H1 ∧
      ∃ v2 H2, appendA P t t v1 (.slice (some ⟨(B ++ [AObj.cells [.int .i64 a] e false]).length, 0, none⟩) 1 1) H1 = some (v2, H2) ∧ Own e H0 H2 v2 (ys ++ [a, b]) ∧ H0 <+: H2 ∧ Kept v B H2 ∧ isTup v2 = false := by
  have hx : Row e (B ++ [.cells [.int .i64 a] e false] ++ [.cells [.int .i64 b] e false]) (.slice (some ⟨B.length, 0, none⟩) 1 1) [a] := .inr ⟨B.length, 0, [.int .i64 a], false, rfl, at_app (at_new ..) _, by simp, rfl⟩
  have p2 : B <+: B ++ [AObj.cells [.int .i64 a] e false] ++ [.cells [.int .i64 b] e false] := pre_app (List.prefix_append _ _) _
  obtain ⟨v1, H1, h1, h2, h3, h4, h5⟩ := (h.pre p2).app hu hc hby hz hx (hp.trans p2) (by simp; omega)
  have hY : H1[(B ++ [AObj.cells [.int .i64 a] e false]).length]? = some (.cells [.int .i64 b] e false) := by
    refine h4 _ _ ?_ (at_new ..)
    rcases h.row.nil with g | g
    · exact .inl g.1
    · right; simp; omega
  have hy : Row e H1 (.slice (some ⟨(B ++ [AObj.cells [.int .i64 a] e false]).length, 0, none⟩) 1 1) [b] :=
    .inr ⟨_, 0, [.int .i64 b], false, rfl, hY, by simp, rfl⟩
  obtain ⟨v2, H2, k1, k2, k3, k4, k5⟩ := h2.app hu hc hby hz hy h3 (by simp; omega)
  refine ⟨v1, H1, h1, h2.row.tup, hY, fun o y ho hoy => h4 o y ho (pre_at p2 hoy), v2, H2, k1, by simpa using k2, k3, fun o y ho hoy => k4 o y ?_ (h4 o y ho (pre_at p2 hoy)), k2.row.tup⟩
  rcases h5 with h5 | ⟨h5, h6⟩
  · right
    have := at_lt hoy
    simp only [List.length_append, List.length_cons, List.length_nil] at h5; omega
  · subst h5; exact ho
set_option maxRecDepth 20000 in
set_option maxHeartbeats 4000000 in
theorem l8Matches_c (n : Int) (v w : Value) (es : List (Int × Int)) (xs : List Int) (H : AH) (hr : RowP 81 H v es) (hx : Row 3 H w xs) (hlen : es.length ≤ 1099511627776) (hlx : xs.length ≤ 1048576) :
    ACalls Try.prog 151 [.agg (List.toArray [.int .i64 n, v]), w] H fun r H' => r = .bool (decide (Mtc es xs)) ∧ H <+: H' := by
  refine in151 rfl ?_
  intro Q hQ
  simp (maxSteps := 1000000) (disch := omega) only [cd151, hr.boxG, S, S1, S2, S3, S4, S5, ST, eq_self, reduceIte, reduceCtorEq, Nat.reduceEqDiff, Nat.reduceAdd]
  generalize hA : H ++ [AObj.cells [.int .i64 n, v] 31 false] = A
  have pA : H <+: A := by rw [← hA]; exact List.prefix_append _ _
  have cA : A[H.length]? = some (.cells [.int .i64 n, v] 31 false) := by rw [← hA]; exact at_new ..
  have rA := hr.pre pA
  try simp (maxSteps := 1000000) (disch := omega) only [S, S1, S2, S3, S4, S5, ST, eq_self, reduceIte, reduceCtorEq, Nat.reduceEqDiff, Nat.reduceAdd]
  have xA := hx.pre pA
  refine LoopH.by (fun m s H' => ∃ i, m + i = xs.length ∧ s 1 = w ∧ s 2 = .pointer (some ⟨H.length, 0, none⟩) ∧ s 6 = .int .i64 ((i : Nat) : Int) ∧ MtU es xs i ∧ Own 3 A H' (s 5) (seenL es (xs.take i)) ∧ A <+: H') xs.length ?_ ?_
  · refine ⟨0, by simp, rfl, rfl, rfl, MtU.zero _ _, .inr ⟨A.length, rfl, Nat.le_refl _, at_new ..⟩, List.prefix_append _ _⟩
  · rintro m s H' ⟨i, hm, h1, h2, h6, hu, ho, hp⟩
    have hr' := rA.pre hp
    have hx' := xA.pre hp
    have cH := pre_at hp cA
    generalize hw : s 5 = u at *
    simp (maxSteps := 1000000) (disch := omega) only [h1, h2, h6, hw, hx'.len Try.underlying38, S, S1, S2, S3, S4, S5, ST, eq_self, reduceIte, reduceCtorEq, Nat.reduceEqDiff, Nat.reduceAdd]
    refine brD.intro (fun g => ?_) (fun g => ?_)
    · have hi : i < xs.length := by omega
      have e0 : ((i : Int) - 1).toNat = i - 1 := by omega
      have hsl : (seenL es (xs.take i)).length ≤ 2097152 := by rw [seenL_len, List.length_take]; omega
      have hst := seenL_take es xs i hi
      have bad : ¬ (rsOk es.length xs i ∧ frOk es xs i) → decide (Mtc es xs) = false := fun h => decide_eq_false (MtU.no hi h)
      have nxt : rsOk es.length xs i → frOk es xs i → MtU es xs (i + 1) := hu.succ
      have hpp := pA.trans hp
      simp (maxSteps := 1000000) (disch := omega) only [h1, h2, h6, hw, cell_of cH, hr'.len Try.underlying22, hx'.ix Try.underlying38 cs3, hx'.cell, Int.toNat_natCast, wrap64, S, S1, S2, S3, S4, S5, ST, eq_self, reduceIte, reduceCtorEq, Nat.reduceEqDiff, Nat.reduceAdd]
      refine CallH.by (l1In_c _ _ _ H') ?_
      rintro _ _ ⟨rfl, rfl⟩
      simp (maxSteps := 1000000) (disch := omega) only [h1, h2, h6, hw, S, S1, S2, S3, S4, S5, ST, eq_self, reduceIte, reduceCtorEq, Nat.reduceEqDiff, Nat.reduceAdd]
      refine brD.intro (fun e1 => ?_) (fun e1 => ?_) <;> simp (maxSteps := 1000000) (disch := omega) only [e1, h1, h2, h6, hw, S, S1, S2, S3, S4, S5, ST, eq_self, reduceIte, reduceCtorEq, Nat.reduceEqDiff, Nat.reduceAdd]
      · have hei : (xs.getD i 0).toNat < es.length := by omega
        refine brD.intro (fun e2 => ?_) (fun e2 => ?_) <;> simp (maxSteps := 1000000) (disch := omega) only [e1, e2, e0, h1, h2, h6, hw, hx'.ix Try.underlying38 cs3, hx'.cell, cell_of cH, Int.toNat_natCast, wrap64, S, S1, S2, S3, S4, S5, ST, eq_self, reduceIte, reduceCtorEq, Nat.reduceEqDiff, Nat.reduceAdd]
        · refine brD.intro (fun e3 => ?_) (fun e3 => ?_) <;> simp (maxSteps := 1000000) (disch := omega) only [e1, e2, e3, h1, h2, h6, hw, S, S1, S2, S3, S4, S5, ST, eq_self, reduceIte, reduceCtorEq, Nat.reduceEqDiff, Nat.reduceAdd]
          · refine hQ _ _ _ ?_
            simp (maxSteps := 1000000) (disch := omega) only [S, S1, S2, S3, S4, S5, ST, eq_self, reduceIte, reduceCtorEq, Nat.reduceEqDiff, Nat.reduceAdd]
            exact ⟨by rw [bad (fun h => by have := h.1.2 (by omega); omega)], hpp⟩
          · have hrs : rsOk es.length xs i := ⟨e1, fun h => by omega⟩
            have hst0 := store_a2 H' [.int .i64 0, .int .i64 0] rfl
            have hld := hr'.ld ag81 cs81 hei
            have hfr : frOk es xs i ↔ ((es.getD (xs.getD i 0).toNat (0, 0)).1 ∉ seenL es (xs.take i) ∧ (es.getD (xs.getD i 0).toNat (0, 0)).2 ∉ seenL es (xs.take i)) := Iff.rfl
            have hst' : seenL es (xs.take (i + 1)) = seenL es (xs.take i) ++ [(es.getD (xs.getD i 0).toNat (0, 0)).1, (es.getD (xs.getD i 0).toNat (0, 0)).2] := hst
            simp (maxSteps := 1000000) (disch := omega) only [e1, e2, e3, h1, h2, h6, hw, cell_of cH, hx'.ix Try.underlying38 cs3, hx'.cell, hr'.ix Try.underlying22 cs81, Int.toNat_natCast, hld, alloc_a2, hst0, cell_new, wrap64, S, S1, S2, S3, S4, S5, ST, eq_self, reduceIte, reduceCtorEq, Nat.reduceEqDiff, Nat.reduceAdd]
            generalize hy : es.getD (xs.getD i 0).toNat (0, 0) = y at *
            generalize hB : H' ++ [AObj.cells [.int .i64 y.1, .int .i64 y.2] 81 false] = B
            have pB : H' <+: B := by rw [← hB]; exact List.prefix_append _ _
            have b0 : B[H'.length]? = some (.cells [.int .i64 y.1, .int .i64 y.2] 81 false) := by rw [← hB]; exact at_new ..
            have hoB := ho.pre pB
            have hpB := hp.trans pB
            refine CallH.by (l1Has_c u (seenL es (xs.take i)) y.1 B hoB.row (by omega)) ?_
            rintro _ _ ⟨rfl, rfl⟩
            simp (maxSteps := 1000000) (disch := omega) only [e1, e2, e3, cell_of b0, S, S1, S2, S3, S4, S5, ST, eq_self, reduceIte, reduceCtorEq, Nat.reduceEqDiff, Nat.reduceAdd]
            refine brD.intro (fun e4 => ?_) (fun e4 => ?_) <;> simp (maxSteps := 1000000) (disch := omega) only [e1, e2, e3, e4, h1, h2, h6, hw, cell_of b0, S, S1, S2, S3, S4, S5, ST, eq_self, reduceIte, reduceCtorEq, Nat.reduceEqDiff, Nat.reduceAdd]
            · refine hQ _ _ _ ?_
              simp (maxSteps := 1000000) (disch := omega) only [S, S1, S2, S3, S4, S5, ST, eq_self, reduceIte, reduceCtorEq, Nat.reduceEqDiff, Nat.reduceAdd]
              exact ⟨by rw [bad (fun h => (hfr.1 h.2).1 e4)], hpp.trans pB⟩
            · refine CallH.by (l1Has_c u (seenL es (xs.take i)) y.2 B hoB.row (by omega)) ?_
              rintro _ _ ⟨rfl, rfl⟩
              simp (maxSteps := 1000000) (disch := omega) only [e1, e2, e3, e4, cell_of b0, S, S1, S2, S3, S4, S5, ST, eq_self, reduceIte, reduceCtorEq, Nat.reduceEqDiff, Nat.reduceAdd]
              refine brD.intro (fun e5 => ?_) (fun e5 => ?_) <;> simp (maxSteps := 1000000) (disch := omega) only [e1, e2, e3, e4, e5, h1, h2, h6, hw, cell_of b0, wrap64, S, S1, S2, S3, S4, S5, ST, eq_self, reduceIte, reduceCtorEq, Nat.reduceEqDiff, Nat.reduceAdd]
              · refine hQ _ _ _ ?_
                simp (maxSteps := 1000000) (disch := omega) only [S, S1, S2, S3, S4, S5, ST, eq_self, reduceIte, reduceCtorEq, Nat.reduceEqDiff, Nat.reduceAdd]
                exact ⟨by rw [bad (fun h => (hfr.1 h.2).2 e5)], hpp.trans pB⟩
              · obtain ⟨v1, H1, k1, k2, kY, kB, v2, H2, k3, k4, k5, k6, k7⟩ := hoB.app2 (P := Try.prog) Try.underlying38 cs3 (by rw [by3]; decide) zk3 hpB (by omega) y.1 y.2
                have b1 : H1[H'.length]? = some (.cells [.int .i64 y.1, .int .i64 y.2] 81 false) := kB _ _ (by
                  rcases ho.row.nil with q | q
                  · exact .inl q.1
                  · right; omega) b0
                simp (maxSteps := 1000000) (disch := omega) only [h1, h2, h6, hw, cell_of (at_app b0 _), k1, k3, kY, at_new, cell_of b1, wrap64, S, S1, S2, S3, S4, S5, ST, eq_self, reduceIte, reduceCtorEq, Nat.reduceEqDiff, Nat.reduceAdd]
                rw [← hst'] at k4
                have f1 := nxt hrs (hfr.2 ⟨e4, e5⟩)
                refine ⟨m - 1, by omega, i + 1, ?_⟩
                (repeat' first | exact f1 | exact k4 | exact k5 | apply And.intro) <;> first | (simp only [Value.int.injEq, true_and]; omega) | omega | rfl | assumption | (simp; done) | (simp; omega)
        · have hrs : rsOk es.length xs i := ⟨e1, fun h => by omega⟩
          have hst0 := store_a2 H' [.int .i64 0, .int .i64 0] rfl
          have hld := hr'.ld ag81 cs81 hei
          have hfr : frOk es xs i ↔ ((es.getD (xs.getD i 0).toNat (0, 0)).1 ∉ seenL es (xs.take i) ∧ (es.getD (xs.getD i 0).toNat (0, 0)).2 ∉ seenL es (xs.take i)) := Iff.rfl
          have hst' : seenL es (xs.take (i + 1)) = seenL es (xs.take i) ++ [(es.getD (xs.getD i 0).toNat (0, 0)).1, (es.getD (xs.getD i 0).toNat (0, 0)).2] := hst
          simp (maxSteps := 1000000) (disch := omega) only [e1, e2, h1, h2, h6, hw, cell_of cH, hx'.ix Try.underlying38 cs3, hx'.cell, hr'.ix Try.underlying22 cs81, Int.toNat_natCast, hld, alloc_a2, hst0, cell_new, wrap64, S, S1, S2, S3, S4, S5, ST, eq_self, reduceIte, reduceCtorEq, Nat.reduceEqDiff, Nat.reduceAdd]
          generalize hy : es.getD (xs.getD i 0).toNat (0, 0) = y at *
          generalize hB : H' ++ [AObj.cells [.int .i64 y.1, .int .i64 y.2] 81 false] = B
          have pB : H' <+: B := by rw [← hB]; exact List.prefix_append _ _
          have b0 : B[H'.length]? = some (.cells [.int .i64 y.1, .int .i64 y.2] 81 false) := by rw [← hB]; exact at_new ..
          have hoB := ho.pre pB
          have hpB := hp.trans pB
          refine CallH.by (l1Has_c u (seenL es (xs.take i)) y.1 B hoB.row (by omega)) ?_
          rintro _ _ ⟨rfl, rfl⟩
          simp (maxSteps := 1000000) (disch := omega) only [e1, e2, cell_of b0, S, S1, S2, S3, S4, S5, ST, eq_self, reduceIte, reduceCtorEq, Nat.reduceEqDiff, Nat.reduceAdd]
          refine brD.intro (fun e4 => ?_) (fun e4 => ?_) <;> simp (maxSteps := 1000000) (disch := omega) only [e1, e2, e4, h1, h2, h6, hw, cell_of b0, S, S1, S2, S3, S4, S5, ST, eq_self, reduceIte, reduceCtorEq, Nat.reduceEqDiff, Nat.reduceAdd]
          · refine hQ _ _ _ ?_
            simp (maxSteps := 1000000) (disch := omega) only [S, S1, S2, S3, S4, S5, ST, eq_self, reduceIte, reduceCtorEq, Nat.reduceEqDiff, Nat.reduceAdd]
            exact ⟨by rw [bad (fun h => (hfr.1 h.2).1 e4)], hpp.trans pB⟩
          · refine CallH.by (l1Has_c u (seenL es (xs.take i)) y.2 B hoB.row (by omega)) ?_
            rintro _ _ ⟨rfl, rfl⟩
            simp (maxSteps := 1000000) (disch := omega) only [e1, e2, e4, cell_of b0, S, S1, S2, S3, S4, S5, ST, eq_self, reduceIte, reduceCtorEq, Nat.reduceEqDiff, Nat.reduceAdd]
            refine brD.intro (fun e5 => ?_) (fun e5 => ?_) <;> simp (maxSteps := 1000000) (disch := omega) only [e1, e2, e4, e5, h1, h2, h6, hw, cell_of b0, wrap64, S, S1, S2, S3, S4, S5, ST, eq_self, reduceIte, reduceCtorEq, Nat.reduceEqDiff, Nat.reduceAdd]
            · refine hQ _ _ _ ?_
              simp (maxSteps := 1000000) (disch := omega) only [S, S1, S2, S3, S4, S5, ST, eq_self, reduceIte, reduceCtorEq, Nat.reduceEqDiff, Nat.reduceAdd]
              exact ⟨by rw [bad (fun h => (hfr.1 h.2).2 e5)], hpp.trans pB⟩
            · obtain ⟨v1, H1, k1, k2, kY, kB, v2, H2, k3, k4, k5, k6, k7⟩ := hoB.app2 (P := Try.prog) Try.underlying38 cs3 (by rw [by3]; decide) zk3 hpB (by omega) y.1 y.2
              have b1 : H1[H'.length]? = some (.cells [.int .i64 y.1, .int .i64 y.2] 81 false) := kB _ _ (by
                rcases ho.row.nil with q | q
                · exact .inl q.1
                · right; omega) b0
              simp (maxSteps := 1000000) (disch := omega) only [h1, h2, h6, hw, cell_of (at_app b0 _), k1, k3, kY, at_new, cell_of b1, wrap64, S, S1, S2, S3, S4, S5, ST, eq_self, reduceIte, reduceCtorEq, Nat.reduceEqDiff, Nat.reduceAdd]
              rw [← hst'] at k4
              have f1 := nxt hrs (hfr.2 ⟨e4, e5⟩)
              refine ⟨m - 1, by omega, i + 1, ?_⟩
              (repeat' first | exact f1 | exact k4 | exact k5 | apply And.intro) <;> first | (simp only [Value.int.injEq, true_and]; omega) | omega | rfl | assumption | (simp; done) | (simp; omega)
      · refine hQ _ _ _ ?_
        simp (maxSteps := 1000000) (disch := omega) only [S, S1, S2, S3, S4, S5, ST, eq_self, reduceIte, reduceCtorEq, Nat.reduceEqDiff, Nat.reduceAdd]
        exact ⟨by rw [bad (fun h => e1 h.1.1)], hpp⟩
    · simp (maxSteps := 1000000) (disch := omega) only [h1, h2, h6, hw, S, S1, S2, S3, S4, S5, ST, eq_self, reduceIte, reduceCtorEq, Nat.reduceEqDiff, Nat.reduceAdd]
      refine hQ _ _ _ ?_
      simp (maxSteps := 1000000) (disch := omega) only [S, S1, S2, S3, S4, S5, ST, eq_self, reduceIte, reduceCtorEq, Nat.reduceEqDiff, Nat.reduceAdd]
      have : i = xs.length := by omega
      subst this
      simp [hu, pA.trans hp]
theorem grd_ed {n : Int} {es : List (Int × Int)} (h : Grd n es) {k : Nat} (hk : k < es.length) : ∃ x y : Nat, (es.getD k (0, 0)).1 = x ∧ (es.getD k (0, 0)).2 = y ∧ x < y ∧ (y : Int) < n ∧ y < 8 := by
  obtain ⟨h1, h2⟩ := h
  obtain ⟨a1, a2, a3, _⟩ := h2 k hk
  exact ⟨(es.getD k (0, 0)).1.toNat, (es.getD k (0, 0)).2.toNat, by omega, by omega, by omega, by omega, by omega⟩
end Go.Proofs.Ytlfongfhbkefmaa.Ai
namespace Go.Proofs.Ytlfongfhbkefmaa.Ai
open Go
def ords213 : List (Nat × List (Nat × Bool)) := []
def cd213 : Cd := (.seq (.reg [⟨⟨some 2, Op.assign (Operand.const (Value.int IntKind.u64 0)), none⟩, []⟩]) (.seq (.reg [⟨⟨some 3, Op.assign (Operand.const (Value.int IntKind.u64 0)), none⟩, []⟩]) (.seq (.seq (.reg [⟨⟨some 6, Op.move (Operand.tmp 0), none⟩, []⟩,
  ⟨⟨some 7, Op.call { callee := (Callee.builtin Builtin.len), args := #[(Operand.tmp 6)], argTypes := #[38] }, none⟩, []⟩,
  ⟨⟨some 8, Op.move (Operand.const (Value.int IntKind.i64 0)), none⟩, []⟩]) (.block 0 (.loop (.seq (.reg [⟨⟨some 9, Op.binOp BinOp.lss 3 (Operand.tmp 8) (Operand.tmp 7) 3, none⟩, []⟩]) (.seq (.cond (Operand.tmp 9) .skip (.exit 0)) (.seq (.block 1 (.seq (.reg [⟨⟨some 10, Op.indexAddr 38 (Operand.tmp 6) (Operand.tmp 8), none⟩, []⟩,
  ⟨⟨some 11, Op.load 3 (Operand.tmp 10), none⟩, []⟩,
  ⟨⟨some 5, Op.assign (Operand.tmp 11), none⟩, []⟩]) (.reg [⟨⟨some 12, Op.move (Operand.tmp 3), none⟩, []⟩,
  ⟨⟨some 13, Op.move (Operand.tmp 5), none⟩, []⟩,
  ⟨⟨some 14, Op.binOp BinOp.shl 98 (Operand.const (Value.int IntKind.u64 1)) (Operand.tmp 13) 3, none⟩, []⟩,
  ⟨⟨some 15, Op.binOp BinOp.or 98 (Operand.tmp 12) (Operand.tmp 14) 98, none⟩, []⟩,
  ⟨⟨some 3, Op.assign (Operand.tmp 15), none⟩, []⟩]))) (.reg [⟨⟨some 16, Op.binOp BinOp.add 3 (Operand.tmp 8) (Operand.const (Value.int IntKind.i64 1)) 3, none⟩, []⟩,
  ⟨⟨some 8, Op.move (Operand.tmp 16), none⟩, []⟩]))))))) (.seq (.reg [⟨⟨some 17, Op.move (Operand.tmp 3), none⟩, []⟩,
  ⟨⟨some 2, Op.assign (Operand.tmp 17), none⟩, []⟩]) .ret))))
theorem sl213 : slim Try.f213.ntmps ords213 (Try.f213.body.getD .skip) = some cd213 := by kernel_rfl
theorem in213 {args : List Value} {H : AH} {R : Value → AH → Prop} (hl : args.length = 1) (h : ∀ (Q : Exit → Sl → AH → Prop), (∀ e s H, endA Try.prog [ResultVar.tmp 2] R e s H → Q e s H) → wpC Try.prog cd213 Q (enterA args) H) : ACalls Try.prog 213 args H R :=
  ACalls.intro (by kernel_rfl) Try.func213 rfl (by kernel_rfl) sl213 hl (of_decide_eq_true (by kernel_rfl)) (by kernel_rfl) h
def ords158 : List (Nat × List (Nat × Bool)) := []
def cd158 : Cd := (.seq (.reg [⟨⟨some 4, Op.assign (Operand.const (Value.int IntKind.u64 0)), none⟩, []⟩,
  ⟨⟨some 5, Op.assign (Operand.const (Value.int IntKind.u64 0)), none⟩, []⟩]) (.seq (.reg [⟨⟨some 8, Op.move (Operand.tmp 0), none⟩, []⟩,
  ⟨⟨some 9, Op.call { callee := (Callee.value (Operand.func 213)), args := #[(Operand.tmp 8)], argTypes := #[38] }, none⟩, []⟩,
  ⟨⟨some 10, Op.move (Operand.tmp 1), none⟩, []⟩,
  ⟨⟨some 11, Op.call { callee := (Callee.value (Operand.func 213)), args := #[(Operand.tmp 10)], argTypes := #[38] }, none⟩, []⟩,
  ⟨⟨some 6, Op.assign (Operand.tmp 9), none⟩, []⟩,
  ⟨⟨some 7, Op.assign (Operand.tmp 11), none⟩, []⟩]) (.seq (.reg [⟨⟨some 12, Op.move (Operand.tmp 6), none⟩, []⟩,
  ⟨⟨some 13, Op.move (Operand.tmp 7), none⟩, []⟩,
  ⟨⟨some 14, Op.binOp BinOp.andNot 98 (Operand.tmp 12) (Operand.tmp 13) 98, none⟩, []⟩,
  ⟨⟨some 15, Op.move (Operand.tmp 7), none⟩, []⟩,
  ⟨⟨some 16, Op.move (Operand.tmp 6), none⟩, []⟩,
  ⟨⟨some 17, Op.binOp BinOp.andNot 98 (Operand.tmp 15) (Operand.tmp 16) 98, none⟩, []⟩,
  ⟨⟨some 4, Op.assign (Operand.tmp 14), none⟩, []⟩,
  ⟨⟨some 5, Op.assign (Operand.tmp 17), none⟩, []⟩]) .ret)))
theorem sl158 : slim Try.f158.ntmps ords158 (Try.f158.body.getD .skip) = some cd158 := by kernel_rfl
theorem in158 {args : List Value} {H : AH} {R : Value → AH → Prop} (hl : args.length = 2) (h : ∀ (Q : Exit → Sl → AH → Prop), (∀ e s H, endA Try.prog [ResultVar.tmp 4, ResultVar.tmp 5] R e s H → Q e s H) → wpC Try.prog cd158 Q (enterA args) H) : ACalls Try.prog 158 args H R :=
  ACalls.intro (by kernel_rfl) Try.func158 rfl (by kernel_rfl) sl158 hl (of_decide_eq_true (by kernel_rfl)) (by kernel_rfl) h
def ords100 : List (Nat × List (Nat × Bool)) := []
def cd100 : Cd := (.seq (.reg [⟨⟨some 4, Op.assign (Operand.const (Value.slice none 0 0)), none⟩, []⟩]) (.seq (.reg [⟨⟨some 10, Op.move (Operand.tmp 0), none⟩, []⟩,
  ⟨⟨some 11, Op.move (Operand.tmp 1), none⟩, []⟩,
  ⟨⟨some 12, Op.call { callee := (Callee.value (Operand.func 158)), args := #[(Operand.tmp 10), (Operand.tmp 11)], argTypes := #[38, 38] }, none⟩, []⟩,
  ⟨⟨some 9, Op.move (Operand.tmp 12), none⟩, []⟩,
  ⟨⟨some 13, Op.extract (Operand.tmp 9) 0, none⟩, []⟩,
  ⟨⟨some 14, Op.extract (Operand.tmp 9) 1, none⟩, []⟩,
  ⟨⟨some 5, Op.assign (Operand.tmp 13), none⟩, []⟩,
  ⟨⟨some 6, Op.assign (Operand.tmp 14), none⟩, []⟩]) (.seq (.reg [⟨⟨some 15, Op.buildSlice 38 0 #[], none⟩, []⟩,
  ⟨⟨some 7, Op.assign (Operand.tmp 15), none⟩, []⟩]) (.seq (.seq (.reg [⟨⟨some 16, Op.move (Operand.const (Value.int IntKind.i64 0)), none⟩, []⟩]) (.block 0 (.loop (.seq (.reg [⟨⟨some 17, Op.binOp BinOp.lss 3 (Operand.tmp 16) (Operand.const (Value.int IntKind.i64 32)) 3, none⟩, []⟩]) (.seq (.cond (Operand.tmp 17) .skip (.exit 0)) (.seq (.block 1 (.seq (.reg [⟨⟨some 18, Op.move (Operand.tmp 16), none⟩, []⟩,
  ⟨⟨some 8, Op.assign (Operand.tmp 18), none⟩, []⟩]) (.seq (.reg [⟨⟨some 19, Op.move (Operand.tmp 5), none⟩, []⟩,
  ⟨⟨some 20, Op.move (Operand.tmp 6), none⟩, []⟩,
  ⟨⟨some 21, Op.binOp BinOp.or 98 (Operand.tmp 19) (Operand.tmp 20) 98, none⟩, []⟩,
  ⟨⟨some 22, Op.move (Operand.tmp 8), none⟩, []⟩,
  ⟨⟨some 23, Op.call { callee := (Callee.value (Operand.func 171)), args := #[(Operand.tmp 21), (Operand.tmp 22)], argTypes := #[98, 3] }, none⟩, []⟩]) (.cond (Operand.tmp 23) (.reg [⟨⟨some 24, Op.move (Operand.tmp 7), none⟩, []⟩,
  ⟨⟨some 25, Op.move (Operand.tmp 8), none⟩, []⟩,
  ⟨⟨some 26, Op.buildSlice 38 1 #[(0, (Operand.tmp 25))], none⟩, []⟩,
  ⟨⟨some 27, Op.call { callee := (Callee.builtin Builtin.append), args := #[(Operand.tmp 24), (Operand.tmp 26)], argTypes := #[38, 38] }, none⟩, []⟩,
  ⟨⟨some 7, Op.assign (Operand.tmp 27), none⟩, []⟩]) .skip)))) (.reg [⟨⟨some 28, Op.binOp BinOp.add 3 (Operand.tmp 16) (Operand.const (Value.int IntKind.i64 1)) 3, none⟩, []⟩,
  ⟨⟨some 16, Op.move (Operand.tmp 28), none⟩, []⟩]))))))) (.seq (.reg [⟨⟨some 29, Op.move (Operand.tmp 7), none⟩, []⟩,
  ⟨⟨some 4, Op.assign (Operand.tmp 29), none⟩, []⟩]) .ret)))))
theorem sl100 : slim Try.f100.ntmps ords100 (Try.f100.body.getD .skip) = some cd100 := by kernel_rfl
theorem in100 {args : List Value} {H : AH} {R : Value → AH → Prop} (hl : args.length = 2) (h : ∀ (Q : Exit → Sl → AH → Prop), (∀ e s H, endA Try.prog [ResultVar.tmp 4] R e s H → Q e s H) → wpC Try.prog cd100 Q (enterA args) H) : ACalls Try.prog 100 args H R :=
  ACalls.intro (by kernel_rfl) Try.func100 rfl (by kernel_rfl) sl100 hl (of_decide_eq_true (by kernel_rfl)) (by kernel_rfl) h
def ords101 : List (Nat × List (Nat × Bool)) := [(5, [(0, false), (1, false), (2, false), (3, false), (4, false), (5, false), (6, false), (7, false), (8, false), (9, false), (10, false), (11, false), (12, false), (13, false), (14, false), (15, false), (16, false), (17, true)])]
def cd101 : Cd := (.seq (.reg [⟨⟨some 2, Op.box 31 (Operand.tmp 0), none⟩, []⟩,
  ⟨⟨some 4, Op.assign (Operand.const (Value.int IntKind.u64 0)), none⟩, []⟩]) (.seq (.reg [⟨⟨some 5, Op.assign (Operand.const (Value.int IntKind.u64 0)), none⟩, []⟩]) (.seq (.seq (.reg [⟨⟨some 8, Op.move (Operand.tmp 1), none⟩, []⟩,
  ⟨⟨some 9, Op.call { callee := (Callee.builtin Builtin.len), args := #[(Operand.tmp 8)], argTypes := #[38] }, none⟩, []⟩,
  ⟨⟨some 10, Op.move (Operand.const (Value.int IntKind.i64 0)), none⟩, []⟩]) (.block 0 (.loop (.seq (.reg [⟨⟨some 11, Op.binOp BinOp.lss 3 (Operand.tmp 10) (Operand.tmp 9) 3, none⟩, []⟩]) (.seq (.cond (Operand.tmp 11) .skip (.exit 0)) (.seq (.block 1 (.seq (.reg [⟨⟨some 12, Op.indexAddr 38 (Operand.tmp 8) (Operand.tmp 10), none⟩, []⟩,
  ⟨⟨some 13, Op.load 3 (Operand.tmp 12), none⟩, []⟩,
  ⟨⟨some 7, Op.assign (Operand.tmp 13), none⟩, []⟩]) (.reg [⟨⟨some 14, Op.move (Operand.tmp 5), none⟩, []⟩,
  ⟨⟨some 15, Op.fieldAddr 31 (Operand.tmp 2) 1, none⟩, []⟩,
  ⟨⟨some 16, Op.load 22 (Operand.tmp 15), none⟩, []⟩,
  ⟨⟨some 17, Op.move (Operand.tmp 7), none⟩, []⟩,
  ⟨⟨some 18, Op.indexAddr 22 (Operand.tmp 16) (Operand.tmp 17), none⟩, []⟩,
  ⟨⟨some 19, Op.indexAddr 81 (Operand.tmp 18) (Operand.const (Value.int IntKind.i64 0)), none⟩, []⟩,
  ⟨⟨some 20, Op.load 3 (Operand.tmp 19), none⟩, []⟩,
  ⟨⟨some 21, Op.binOp BinOp.shl 98 (Operand.const (Value.int IntKind.u64 1)) (Operand.tmp 20) 3, none⟩, []⟩,
  ⟨⟨some 22, Op.fieldAddr 31 (Operand.tmp 2) 1, none⟩, []⟩,
  ⟨⟨some 23, Op.load 22 (Operand.tmp 22), none⟩, []⟩,
  ⟨⟨some 24, Op.move (Operand.tmp 7), none⟩, []⟩,
  ⟨⟨some 25, Op.indexAddr 22 (Operand.tmp 23) (Operand.tmp 24), none⟩, []⟩,
  ⟨⟨some 26, Op.indexAddr 81 (Operand.tmp 25) (Operand.const (Value.int IntKind.i64 1)), none⟩, []⟩,
  ⟨⟨some 27, Op.load 3 (Operand.tmp 26), none⟩, []⟩,
  ⟨⟨some 28, Op.binOp BinOp.shl 98 (Operand.const (Value.int IntKind.u64 1)) (Operand.tmp 27) 3, none⟩, []⟩,
  ⟨⟨some 29, Op.binOp BinOp.or 98 (Operand.tmp 21) (Operand.tmp 28) 98, none⟩, []⟩,
  ⟨⟨some 30, Op.binOp BinOp.or 98 (Operand.tmp 14) (Operand.tmp 29) 98, none⟩, []⟩,
  ⟨⟨some 5, Op.assign (Operand.tmp 30), none⟩, []⟩]))) (.reg [⟨⟨some 31, Op.binOp BinOp.add 3 (Operand.tmp 10) (Operand.const (Value.int IntKind.i64 1)) 3, none⟩, []⟩,
  ⟨⟨some 10, Op.move (Operand.tmp 31), none⟩, []⟩]))))))) (.seq (.reg [⟨⟨some 32, Op.move (Operand.tmp 5), none⟩, []⟩,
  ⟨⟨some 4, Op.assign (Operand.tmp 32), none⟩, []⟩]) .ret))))
theorem sl101 : slim Try.f101.ntmps ords101 (Try.f101.body.getD .skip) = some cd101 := by kernel_rfl
theorem in101 {args : List Value} {H : AH} {R : Value → AH → Prop} (hl : args.length = 2) (h : ∀ (Q : Exit → Sl → AH → Prop), (∀ e s H, endA Try.prog [ResultVar.tmp 4] R e s H → Q e s H) → wpC Try.prog cd101 Q (enterA args) H) : ACalls Try.prog 101 args H R :=
  ACalls.intro (by kernel_rfl) Try.func101 rfl (by kernel_rfl) sl101 hl (of_decide_eq_true (by kernel_rfl)) (by kernel_rfl) h
end Go.Proofs.Ytlfongfhbkefmaa.Ai
namespace Go.Proofs.Ytlfongfhbkefmaa.Ai
open Go Go.RowKit
set_option linter.unusedVariables false
set_option linter.unusedSimpArgs false
/-- one without another -/
def anN (a b : Nat) : Nat := (BitVec.ofNat 64 a &&& ~~~ BitVec.ofNat 64 b).toNat
theorem anN_bit (a b z : Nat) (hz : z < 64) : (anN a b).testBit z = (a.testBit z && !b.testBit z) := by
  unfold anN
  rw [BitVec.testBit_toNat, BitVec.getLsbD_and, BitVec.getLsbD_not, BitVec.getLsbD_ofNat, BitVec.getLsbD_ofNat]
  simp [hz]
theorem anN_le (a b : Nat) : anN a b ≤ a := by
  unfold anN
  rw [BitVec.toNat_and]
  refine Nat.le_trans Nat.and_le_left ?_
  rw [BitVec.toNat_ofNat]
  exact Nat.mod_le _ _
theorem bin_andNot (P : Program) (t : TypeId) (a b : Nat) (ha : a < 2 ^ 64) : binA P .andNot t (.int .u64 (a : Int)) (.int .u64 (b : Int)) = some (.int .u64 ((anN a b : Nat) : Int)) := by
  have e : bitsA .andNot .u64 (a : Int) (b : Int) = ((anN a b : Nat) : Int) := by
    show IntKind.u64.wrap (((BitVec.ofInt 64 (a : Int) &&& ~~~ BitVec.ofInt 64 (b : Int)).toNat : Nat) : Int) = _
    rw [BitVec.ofInt_natCast, BitVec.ofInt_natCast]
    show IntKind.u64.wrap ((anN a b : Nat) : Int) = _
    have := anN_le a b
    rw [IntKind.wrap_u64]; omega
  simp only [binA, intA, e]
  simp
set_option maxHeartbeats 1000000 in
theorem bagOf_c (w : Value) (xs : List Int) (H : AH) (hr : Row 3 H w xs) (hlen : xs.length ≤ 1048576) (hx : ∀ x ∈ xs, 0 ≤ x ∧ x < 32) :
    ACalls Try.prog 213 [w] H fun r H' => ∃ b : Nat, r = .int .u64 (b : Int) ∧ BagI b xs ∧ H = H' := by
  refine in213 rfl ?_
  intro Q hQ
  simp (maxSteps := 1000000) (disch := omega) only [cd213, hr.len Try.underlying38, S, S1, S2, S3, S4, S5, ST, eq_self, reduceIte, reduceCtorEq, Nat.reduceEqDiff, Nat.reduceAdd]
  refine LoopH.by (fun m s H' => ∃ (i b : Nat), m + i = xs.length ∧ s 3 = .int .u64 (b : Int) ∧ s 6 = w ∧ s 7 = .int .i64 (xs.length : Int) ∧ s 8 = .int .i64 ((i : Nat) : Int) ∧ BagI b (xs.take i) ∧ H' = H) xs.length ?_ ?_
  · exact ⟨0, 0, by simp, rfl, rfl, rfl, rfl, by simpa using BagI.zero, rfl⟩
  rintro m s H' ⟨i, b, hm, h3, h6, h7, h8, hb, rfl⟩
  simp (maxSteps := 1000000) (disch := omega) only [h3, h6, h7, h8, S, S1, S2, S3, S4, S5, ST, eq_self, reduceIte, reduceCtorEq, Nat.reduceEqDiff, Nat.reduceAdd]
  refine brD.intro (fun g => ?_) (fun g => ?_)
  · have hi : i < xs.length := by omega
    have hxm : xs.getD i 0 ∈ xs := by simp [hi]
    have hxr := hx _ hxm
    obtain ⟨x, hxe⟩ : ∃ x : Nat, xs.getD i 0 = x := ⟨(xs.getD i 0).toNat, by omega⟩
    have hc := hr.cell hi
    rw [hxe] at hc
    have hb64 : b < 2 ^ 64 := Nat.lt_of_lt_of_le hb.1 (by decide)
    have hx64 : 2 ^ x < 2 ^ 64 := Nat.pow_lt_pow_right (by decide) (by omega)
    have k1 := bin_shl Try.prog 98 x (by omega)
    have k2 := bin_or Try.prog 98 b (2 ^ x) hb64 hx64
    have f1 : BagI (b ||| 2 ^ x) (xs.take (i + 1)) := by
      have e : xs.take (i + 1) = xs.take i ++ [(x : Int)] := by
        rw [List.take_add_one, List.getElem?_eq_getElem hi, ← hxe]
        simp [hi]
      rw [e]; exact hb.or (by omega)
    simp (maxSteps := 1000000) (disch := omega) only [h3, h6, h7, h8, hr.ix Try.underlying38 cs3, Int.toNat_natCast, hc, k1, k2, wrap64, S, S1, S2, S3, S4, S5, ST, eq_self, reduceIte, reduceCtorEq, Nat.reduceEqDiff, Nat.reduceAdd]
    refine ⟨m - 1, by omega, i + 1, b ||| 2 ^ x, ?_⟩
    (repeat' first | exact f1 | apply And.intro) <;> first | (simp only [Value.int.injEq, true_and]; omega) | omega | rfl | assumption | (simp; done) | (simp; omega)
  · simp (maxSteps := 1000000) (disch := omega) only [h3, S, S1, S2, S3, S4, S5, ST, eq_self, reduceIte, reduceCtorEq, Nat.reduceEqDiff, Nat.reduceAdd]
    refine hQ _ _ _ ?_
    simp (maxSteps := 1000000) (disch := omega) only [S, S1, S2, S3, S4, S5, ST, eq_self, reduceIte, reduceCtorEq, Nat.reduceEqDiff, Nat.reduceAdd]
    rw [List.take_of_length_le (by omega)] at hb
    exact ⟨b, rfl, hb⟩
theorem moves_c (v w : Value) (xs ys : List Int) (H : AH) (hr : Row 3 H v xs) (hs : Row 3 H w ys) (hlx : xs.length ≤ 1048576) (hly : ys.length ≤ 1048576) (hx : ∀ x ∈ xs, 0 ≤ x ∧ x < 32) (hy : ∀ x ∈ ys, 0 ≤ x ∧ x < 32) :
    ACalls Try.prog 158 [v, w] H fun r H' => ∃ a b : Nat, r = .tuple (List.toArray [.int .u64 (a : Int), .int .u64 (b : Int)]) ∧ BagI a (xs.filter fun x => !decide (x ∈ ys)) ∧ BagI b (ys.filter fun x => !decide (x ∈ xs)) ∧ H = H' := by
  refine in158 rfl ?_
  intro Q hQ
  simp (maxSteps := 1000000) (disch := omega) only [cd158, S, S1, S2, S3, S4, S5, ST, eq_self, reduceIte, reduceCtorEq, Nat.reduceEqDiff, Nat.reduceAdd]
  refine CallH.by (bagOf_c v xs H hr hlx hx) ?_
  rintro _ _ ⟨a, rfl, ha, rfl⟩
  simp (maxSteps := 1000000) (disch := omega) only [S, S1, S2, S3, S4, S5, ST, eq_self, reduceIte, reduceCtorEq, Nat.reduceEqDiff, Nat.reduceAdd]
  refine CallH.by (bagOf_c w ys H hs hly hy) ?_
  rintro _ _ ⟨b, rfl, hb, rfl⟩
  have ha64 : a < 2 ^ 64 := Nat.lt_of_lt_of_le ha.1 (by decide)
  have hb64 : b < 2 ^ 64 := Nat.lt_of_lt_of_le hb.1 (by decide)
  have k1 := bin_andNot Try.prog 98 a b ha64
  have k2 := bin_andNot Try.prog 98 b a hb64
  simp (maxSteps := 1000000) (disch := omega) only [k1, k2, S, S1, S2, S3, S4, S5, ST, eq_self, reduceIte, reduceCtorEq, Nat.reduceEqDiff, Nat.reduceAdd]
  refine hQ _ _ _ ?_
  simp (maxSteps := 1000000) (disch := omega) only [S, S1, S2, S3, S4, S5, ST, eq_self, reduceIte, reduceCtorEq, Nat.reduceEqDiff, Nat.reduceAdd]
  refine ⟨_, _, rfl, ⟨Nat.lt_of_le_of_lt (anN_le a b) ha.1, fun z hz => ?_⟩, ⟨Nat.lt_of_le_of_lt (anN_le b a) hb.1, fun z hz => ?_⟩⟩
  · rw [anN_bit a b z hz, ha.2 z hz, hb.2 z hz]
    by_cases h1 : (z : Int) ∈ xs <;> by_cases h2 : (z : Int) ∈ ys <;> simp [h1, h2]
  · rw [anN_bit b a z hz, ha.2 z hz, hb.2 z hz]
    by_cases h1 : (z : Int) ∈ xs <;> by_cases h2 : (z : Int) ∈ ys <;> simp [h1, h2]
set_option maxHeartbeats 1000000 in
theorem difference_c (v w : Value) (xs ys : List Int) (H : AH) (hr : Row 3 H v xs) (hs : Row 3 H w ys) (hlx : xs.length ≤ 1048576) (hly : ys.length ≤ 1048576) (hx : ∀ x ∈ xs, 0 ≤ x ∧ x < 32) (hy : ∀ x ∈ ys, 0 ≤ x ∧ x < 32) :
    ACalls Try.prog 100 [v, w] H fun r H' => Own 3 H H' r (dix xs ys 32) ∧ H <+: H' := by
  refine in100 rfl ?_
  intro Q hQ
  simp (maxSteps := 1000000) (disch := omega) only [cd100, S, S1, S2, S3, S4, S5, ST, eq_self, reduceIte, reduceCtorEq, Nat.reduceEqDiff, Nat.reduceAdd]
  refine CallH.by (moves_c v w xs ys H hr hs hlx hly hx hy) ?_
  rintro _ _ ⟨a, b, rfl, ha, hb, rfl⟩
  simp (maxSteps := 1000000) (disch := omega) only [S, S1, S2, S3, S4, S5, ST, eq_self, reduceIte, reduceCtorEq, Nat.reduceEqDiff, Nat.reduceAdd]
  generalize hA : H ++ [AObj.cells [] 3 false] = A
  have pA : H <+: A := by rw [← hA]; exact List.prefix_append _ _
  have cA : A[H.length]? = some (.cells (ints []) 3 false) := by rw [← hA]; exact at_new ..
  have own0 : Own 3 H A (.slice (some ⟨H.length, 0, none⟩) 0 0) (dix xs ys 0) := .inr ⟨H.length, rfl, Nat.le_refl _, cA⟩
  have ha64 : a < 2 ^ 64 := Nat.lt_of_lt_of_le ha.1 (by decide)
  have hb64 : b < 2 ^ 64 := Nat.lt_of_lt_of_le hb.1 (by decide)
  have k1 := bin_or Try.prog 98 a b ha64 hb64
  refine LoopH.by (fun m s H' => ∃ (i : Nat), m + i = 32 ∧ s 5 = .int .u64 (a : Int) ∧ s 6 = .int .u64 (b : Int) ∧ s 16 = .int .i64 ((i : Nat) : Int) ∧ Own 3 H H' (s 7) (dix xs ys i) ∧ H <+: H') 32 ?_ ?_
  · refine ⟨0, ?_⟩
    simp (maxSteps := 1000000) (disch := omega) only [S, S1, S2, S3, S4, S5, ST, eq_self, reduceIte, reduceCtorEq, Nat.reduceEqDiff, Nat.reduceAdd]
    (repeat' first | exact own0 | exact pA | apply And.intro) <;> first | (simp only [Value.int.injEq, true_and]; omega) | omega | rfl | assumption | (simp; done) | (simp; omega)
  rintro m s H' ⟨i, hm, h5, h6, h16, ho, hp⟩
  generalize hU : s 7 = U at *
  simp (maxSteps := 1000000) (disch := omega) only [h5, h6, h16, hU, S, S1, S2, S3, S4, S5, ST, eq_self, reduceIte, reduceCtorEq, Nat.reduceEqDiff, Nat.reduceAdd]
  refine brD.intro (fun g => ?_) (fun g => ?_)
  · have hi : i < 32 := by omega
    simp (maxSteps := 1000000) (disch := omega) only [h5, h6, h16, hU, k1, S, S1, S2, S3, S4, S5, ST, eq_self, reduceIte, reduceCtorEq, Nat.reduceEqDiff, Nat.reduceAdd]
    refine CallH.by (has_c (a ||| b) i H' (Nat.or_lt_two_pow ha64 hb64) (by omega)) ?_
    rintro _ _ ⟨rfl, rfl⟩
    have hbit : (a ||| b).testBit i = (decide ((i : Int) ∈ xs) != decide ((i : Int) ∈ ys)) := by
      rw [Nat.testBit_or, ha.2 i (by omega), hb.2 i (by omega)]
      by_cases h1 : (i : Int) ∈ xs <;> by_cases h2 : (i : Int) ∈ ys <;> simp [h1, h2]
    rw [hbit]
    cases hh : (decide ((i : Int) ∈ xs) != decide ((i : Int) ∈ ys)) with
    | true =>
      have hd : dix xs ys (i + 1) = dix xs ys i ++ [(i : Int)] := by rw [dix, if_pos hh]
      obtain ⟨U', H2, j1, j2, j3, j4, j5, j6⟩ := own1_38 ho hp (by have := dix_len xs ys i; omega) (i : Int)
      rw [← hd] at j2
      simp (maxSteps := 1000000) (disch := omega) only [h5, h6, h16, hU, j1, wrap64, S, S1, S2, S3, S4, S5, ST, eq_self, reduceIte, reduceCtorEq, Nat.reduceEqDiff, Nat.reduceAdd]
      refine ⟨m - 1, by omega, i + 1, ?_⟩
      (repeat' first | exact j2 | exact j3 | apply And.intro) <;> first | (simp only [Value.int.injEq, true_and]; omega) | omega | rfl | assumption | (simp; done) | (simp; omega)
    | false =>
      have hd : dix xs ys (i + 1) = dix xs ys i := by rw [dix, if_neg (by rw [hh]; decide), List.append_nil]
      rw [← hd] at ho
      simp (maxSteps := 1000000) (disch := omega) only [h5, h6, h16, hU, wrap64, S, S1, S2, S3, S4, S5, ST, eq_self, reduceIte, reduceCtorEq, Nat.reduceEqDiff, Nat.reduceAdd]
      refine ⟨m - 1, by omega, i + 1, ?_⟩
      (repeat' first | exact ho | exact hp | apply And.intro) <;> first | (simp only [Value.int.injEq, true_and]; omega) | omega | rfl | assumption | (simp; done) | (simp; omega)
  · simp (maxSteps := 1000000) (disch := omega) only [hU, S, S1, S2, S3, S4, S5, ST, eq_self, reduceIte, reduceCtorEq, Nat.reduceEqDiff, Nat.reduceAdd]
    refine hQ _ _ _ ?_
    simp (maxSteps := 1000000) (disch := omega) only [hU, ho.row.tup, S, S1, S2, S3, S4, S5, ST, eq_self, reduceIte, reduceCtorEq, Nat.reduceEqDiff, Nat.reduceAdd]
    have hi : i = 32 := by omega
    subst hi
    exact ⟨ho, hp⟩
set_option maxHeartbeats 2000000 in
theorem ends_c (n : Int) (v w : Value) (es : List (Int × Int)) (ds : List Int) (H : AH) (hr : RowP 81 H v es) (hlen : es.length ≤ 1099511627776) (hg : Grd n es) (hs : Row 3 H w ds) (hld : ds.length ≤ 1048576) (hd : ∀ x ∈ ds, 0 ≤ x ∧ x < es.length) :
    ACalls Try.prog 101 [.agg (List.toArray [.int .i64 n, v]), w] H fun r H' => ∃ b : Nat, r = .int .u64 (b : Int) ∧ BagI b (seenL es ds) ∧ H <+: H' := by
  refine in101 rfl ?_
  intro Q hQ
  simp (maxSteps := 1000000) (disch := omega) only [cd101, hr.boxG, S, S1, S2, S3, S4, S5, ST, eq_self, reduceIte, reduceCtorEq, Nat.reduceEqDiff, Nat.reduceAdd]
  generalize hA : H ++ [AObj.cells [.int .i64 n, v] 31 false] = A
  have pA : H <+: A := by rw [← hA]; exact List.prefix_append _ _
  have cA : A[H.length]? = some (.cells [.int .i64 n, v] 31 false) := by rw [← hA]; exact at_new ..
  have rA := hr.pre pA
  have xA := hs.pre pA
  simp (maxSteps := 1000000) (disch := omega) only [xA.len Try.underlying38, S, S1, S2, S3, S4, S5, ST, eq_self, reduceIte, reduceCtorEq, Nat.reduceEqDiff, Nat.reduceAdd]
  refine LoopH.by (fun m s H' => ∃ (i b : Nat), m + i = ds.length ∧ s 2 = .pointer (some ⟨H.length, 0, none⟩) ∧ s 5 = .int .u64 (b : Int) ∧ s 8 = w ∧ s 9 = .int .i64 (ds.length : Int) ∧ s 10 = .int .i64 ((i : Nat) : Int) ∧ BagI b (seenL es (ds.take i)) ∧ H' = A) ds.length ?_ ?_
  · exact ⟨0, 0, by simp, rfl, rfl, rfl, rfl, rfl, by simpa [seenL] using BagI.zero, rfl⟩
  rintro m s H' ⟨i, b, hm, h2, h5, h8, h9, h10, hb, rfl⟩
  simp (maxSteps := 1000000) (disch := omega) only [h2, h5, h8, h9, h10, S, S1, S2, S3, S4, S5, ST, eq_self, reduceIte, reduceCtorEq, Nat.reduceEqDiff, Nat.reduceAdd]
  refine brD.intro (fun g => ?_) (fun g => ?_)
  · have hi : i < ds.length := by omega
    have hdm : ds.getD i 0 ∈ ds := by simp [hi]
    have hdr := hd _ hdm
    have hei : (ds.getD i 0).toNat < es.length := by omega
    have hst := seenL_take es ds i hi
    obtain ⟨x, y, ex, ey, hxy, hyn, hy8⟩ := grd_ed hg hei
    unfold ed1 ed2 at hst
    rw [ex, ey] at hst
    have hb64 : b < 2 ^ 64 := Nat.lt_of_lt_of_le hb.1 (by decide)
    have hx64 : 2 ^ x < 2 ^ 64 := Nat.pow_lt_pow_right (by decide) (by omega)
    have hy64 : 2 ^ y < 2 ^ 64 := Nat.pow_lt_pow_right (by decide) (by omega)
    have k1 := bin_shl Try.prog 98 x (by omega)
    have k2 := bin_shl Try.prog 98 y (by omega)
    have k3 := bin_or Try.prog 98 (2 ^ x) (2 ^ y) hx64 hy64
    have k5 := bin_or Try.prog 98 b (2 ^ x ||| 2 ^ y) hb64 (Nat.or_lt_two_pow hx64 hy64)
    have l0 := rA.cell0 hei
    have l1 := rA.cell1 hei
    rw [ex] at l0
    rw [ey] at l1
    have f1 : BagI (b ||| (2 ^ x ||| 2 ^ y)) (seenL es (ds.take (i + 1))) := by
      rw [hst, ← Nat.or_assoc]
      have := (hb.or (y := x) (by omega)).or (y := y) (by omega)
      rw [List.append_assoc] at this
      exact this
    simp (maxSteps := 1000000) (disch := omega) only [h2, h5, h8, h9, h10, cell_of cA, xA.ix Try.underlying38 cs3, xA.cell, rA.ix Try.underlying22 cs81, Int.toNat_natCast, l0, l1, k1, k2, k3, k5, wrap64, S, S1, S2, S3, S4, S5, ST, eq_self, reduceIte, reduceCtorEq, Nat.reduceEqDiff, Nat.reduceAdd]
    refine ⟨m - 1, by omega, i + 1, b ||| (2 ^ x ||| 2 ^ y), ?_⟩
    (repeat' first | exact f1 | apply And.intro) <;> first | (simp only [Value.int.injEq, true_and]; omega) | omega | rfl | assumption | (simp; done) | (simp; omega)
  · simp (maxSteps := 1000000) (disch := omega) only [h5, S, S1, S2, S3, S4, S5, ST, eq_self, reduceIte, reduceCtorEq, Nat.reduceEqDiff, Nat.reduceAdd]
    refine hQ _ _ _ ?_
    simp (maxSteps := 1000000) (disch := omega) only [S, S1, S2, S3, S4, S5, ST, eq_self, reduceIte, reduceCtorEq, Nat.reduceEqDiff, Nat.reduceAdd]
    rw [List.take_of_length_le (by omega)] at hb
    exact ⟨b, rfl, hb, pA⟩
end Go.Proofs.Ytlfongfhbkefmaa.Ai
namespace Go.Proofs.Ytlfongfhbkefmaa.Ai
open Go Go.RowKit
set_option linter.unusedVariables false
set_option linter.unusedSimpArgs false
theorem nodupP_le : ∀ (n : Nat) (l : List Int), l.Nodup → (∀ x ∈ l, 0 ≤ x ∧ x < n) → l.length ≤ n
  | 0, l, _, h => by
    cases l with
    | nil => simp
    | cons a l => have := h a (by simp); omega
  | n + 1, l, hn, h => by
    have := nodupP_le n (l.erase (n : Int)) (hn.erase _) (fun x hx => by
      have h1 := h x (List.mem_of_mem_erase hx)
      have h2 : x ≠ n := fun e => by subst e; exact (hn.not_mem_erase) hx
      omega)
    have h3 : l.length ≤ (l.erase (n : Int)).length + 1 := by rw [List.length_erase]; split <;> omega
    omega
theorem grd_pwP {n : Int} {es : List (Int × Int)} (hg : Grd n es) : es.Pairwise pairLt := by
  rw [List.pairwise_iff_getElem]
  have at_ : ∀ i (h : i < es.length), es.getD i (0, 0) = es[i] := fun i h => by simp [h]
  have key : ∀ (k i : Nat), i + k + 1 < es.length → pairLt (es.getD i (0, 0)) (es.getD (i + k + 1) (0, 0)) := by
    intro k
    induction k with
    | zero =>
      intro i hi
      have := (hg.2 (i + 1) hi).2.2.2 (by omega)
      simpa using this
    | succ k ih =>
      intro i hi
      have h1 := ih i (by omega)
      have h2 := (hg.2 (i + (k + 1) + 1) hi).2.2.2 (by omega)
      have e : i + (k + 1) + 1 - 1 = i + k + 1 := by omega
      rw [e] at h2
      unfold pairLt at *
      omega
  intro i j hi hj hij
  have := key (j - i - 1) i (by omega)
  rw [show i + (j - i - 1) + 1 = j by omega, at_ i hi, at_ j hj] at this
  exact this
def tri8 (b : Int) : Int := [0, 0, 1, 3, 6, 10, 15, 21].getD b.toNat 0
theorem tri8_at {a b : Int} (h : 0 ≤ a ∧ a < b ∧ b < 8) : (b = 1 ∧ tri8 b = 0) ∨ (b = 2 ∧ tri8 b = 1) ∨ (b = 3 ∧ tri8 b = 3) ∨ (b = 4 ∧ tri8 b = 6) ∨ (b = 5 ∧ tri8 b = 10) ∨ (b = 6 ∧ tri8 b = 15) ∨ (b = 7 ∧ tri8 b = 21) := by
  have : b = 1 ∨ b = 2 ∨ b = 3 ∨ b = 4 ∨ b = 5 ∨ b = 6 ∨ b = 7 := by omega
  rcases this with rfl | rfl | rfl | rfl | rfl | rfl | rfl <;> simp [tri8]
theorem grd_28 {n : Int} {es : List (Int × Int)} (hg : Grd n es) : es.length ≤ 28 := by
  have hp := grd_pwP hg
  have hn := hg.1
  have h8 : ∀ e ∈ es, 0 ≤ e.1 ∧ e.1 < e.2 ∧ e.2 < 8 := fun e he => by
    have := grd_mem hg he; omega
  have := nodupP_le 28 (es.map fun e => tri8 e.2 + e.1) (by
    rw [List.Nodup, List.pairwise_map]
    refine List.Pairwise.imp_of_mem ?_ hp
    intro a b ha hb hab e
    have h1 := h8 a ha
    have h2 := h8 b hb
    have t1 := tri8_at h1
    have t2 := tri8_at h2
    unfold pairLt at hab
    omega) (fun x hx => by
    obtain ⟨e, he, rfl⟩ := List.mem_map.1 hx
    have h1 := h8 e he
    have t1 := tri8_at h1
    omega)
  simpa using this
theorem mtc_rng {es : List (Int × Int)} {a : List Int} (h : Mtc es a) : ∀ x ∈ a, 0 ≤ x ∧ x < es.length := by
  intro x hx
  obtain ⟨i, hi, rfl⟩ := List.getElem_of_mem hx
  have := (h i hi).1.1
  have e : a.getD i 0 = a[i] := by simp [hi]
  rw [e] at this; omega
theorem seen_nb {n : Int} {es : List (Int × Int)} (hg : Grd n es) {ds : List Int} (hd : ∀ x ∈ ds, 0 ≤ x ∧ x < es.length) (x : Int) : x ∈ seenL es ds ↔ nbB (dED es ds) n.toNat x = true := by
  have hmem : ∀ e ∈ dED es ds, e ∈ es := fun e he => by
    unfold dED at he
    obtain ⟨i, hi, rfl⟩ := List.mem_map.1 he
    have := hd i hi
    simp [show i.toNat < es.length by omega]
  rw [nbB_iff]
  unfold seenL
  rw [List.mem_flatMap]
  constructor
  · rintro ⟨i, hi, hx⟩
    have he : es.getD i.toNat (0, 0) ∈ dED es ds := List.mem_map.2 ⟨i, hi, rfl⟩
    have hr := grd_mem hg (hmem _ he)
    simp only [ed1, ed2, List.mem_cons, List.not_mem_nil, or_false] at hx
    rcases hx with rfl | rfl
    · exact ⟨(es.getD i.toNat (0, 0)).2, by omega, (nearB_iff _ _ _).2 (.inl he)⟩
    · exact ⟨(es.getD i.toNat (0, 0)).1, by omega, (nearB_iff _ _ _).2 (.inr he)⟩
  · rintro ⟨y, hy, hn⟩
    rw [nearB_iff] at hn
    rcases hn with h | h
    · obtain ⟨i, hi, he⟩ := List.mem_map.1 h
      exact ⟨i, hi, by simp only [ed1, ed2, he]; simp⟩
    · obtain ⟨i, hi, he⟩ := List.mem_map.1 h
      exact ⟨i, hi, by simp only [ed1, ed2, he]; simp⟩
theorem mkf_1C (f : Fn) (p : Option Addr) : makeFuncA f [] [.pointer p] = some (.func f #[] (List.toArray [.pointer p])) := rfl
end Go.Proofs.Ytlfongfhbkefmaa.Ai
namespace Go.Proofs.Ytlfongfhbkefmaa.Ai
open Go
def ords227 : List (Nat × List (Nat × Bool)) := [(6, [(0, false), (1, false), (2, false), (3, false), (4, false), (5, false), (6, false), (7, false), (8, true), (9, false), (10, true)])]
def cd227 : Cd := (.seq (.reg [⟨⟨some 3, Op.box 31 (Operand.tmp 0), none⟩, []⟩,
  ⟨⟨some 6, Op.alloc 31, none⟩, []⟩]) (.seq (.reg [⟨⟨some 9, Op.fieldAddr 31 (Operand.tmp 3) 0, none⟩, []⟩,
  ⟨⟨some 10, Op.load 3 (Operand.tmp 9), none⟩, []⟩,
  ⟨⟨some 11, Op.buildSlice 22 0 #[], none⟩, []⟩,
  ⟨⟨some 12, Op.build 31 #[(0, (Operand.tmp 10)), (1, (Operand.tmp 11))], none⟩, []⟩,
  ⟨⟨some 7, Op.alloc 31, none⟩, []⟩,
  ⟨⟨none, Op.store 31 (Operand.tmp 7) (Operand.tmp 12), none⟩, []⟩]) (.seq (.seq (.reg [⟨⟨some 8, Op.assign (Operand.const (Value.int IntKind.i64 0)), none⟩, []⟩]) (.block 0 (.loop (.seq (.seq (.reg [⟨⟨some 13, Op.move (Operand.tmp 8), none⟩, []⟩,
  ⟨⟨some 14, Op.fieldAddr 31 (Operand.tmp 3) 1, none⟩, []⟩,
  ⟨⟨some 15, Op.load 22 (Operand.tmp 14), none⟩, []⟩,
  ⟨⟨some 16, Op.call { callee := (Callee.builtin Builtin.len), args := #[(Operand.tmp 15)], argTypes := #[22] }, none⟩, []⟩,
  ⟨⟨some 17, Op.binOp BinOp.lss 3 (Operand.tmp 13) (Operand.tmp 16) 3, none⟩, []⟩]) (.cond (Operand.tmp 17) .skip (.exit 0))) (.seq (.block 1 (.seq (.reg [⟨⟨some 20, Op.move (Operand.tmp 1), none⟩, []⟩,
  ⟨⟨some 21, Op.move (Operand.tmp 8), none⟩, []⟩,
  ⟨⟨some 22, Op.call { callee := (Callee.value (Operand.func 144)), args := #[(Operand.tmp 20), (Operand.tmp 21)], argTypes := #[38, 3] }, none⟩, []⟩,
  ⟨⟨some 23, Op.move (Operand.tmp 2), none⟩, []⟩,
  ⟨⟨some 24, Op.move (Operand.tmp 8), none⟩, []⟩,
  ⟨⟨some 25, Op.call { callee := (Callee.value (Operand.func 144)), args := #[(Operand.tmp 23), (Operand.tmp 24)], argTypes := #[38, 3] }, none⟩, []⟩,
  ⟨⟨some 26, Op.binOp BinOp.neq 4 (Operand.tmp 22) (Operand.tmp 25) 4, none⟩, []⟩]) (.cond (Operand.tmp 26) (.reg [⟨⟨some 27, Op.fieldAddr 31 (Operand.tmp 7) 1, none⟩, []⟩,
  ⟨⟨some 28, Op.load 22 (Operand.tmp 27), none⟩, []⟩,
  ⟨⟨some 29, Op.fieldAddr 31 (Operand.tmp 3) 1, none⟩, []⟩,
  ⟨⟨some 30, Op.load 22 (Operand.tmp 29), none⟩, []⟩,
  ⟨⟨some 31, Op.move (Operand.tmp 8), none⟩, []⟩,
  ⟨⟨some 32, Op.indexAddr 22 (Operand.tmp 30) (Operand.tmp 31), none⟩, []⟩,
  ⟨⟨some 33, Op.load 81 (Operand.tmp 32), none⟩, []⟩,
  ⟨⟨some 34, Op.buildSlice 22 1 #[(0, (Operand.tmp 33))], none⟩, []⟩,
  ⟨⟨some 35, Op.call { callee := (Callee.builtin Builtin.append), args := #[(Operand.tmp 28), (Operand.tmp 34)], argTypes := #[22, 22] }, none⟩, []⟩,
  ⟨⟨some 36, Op.fieldAddr 31 (Operand.tmp 7) 1, none⟩, []⟩,
  ⟨⟨none, Op.store 22 (Operand.tmp 36) (Operand.tmp 35), none⟩, []⟩]) .skip))) (.reg [⟨⟨some 18, Op.move (Operand.tmp 8), none⟩, []⟩,
  ⟨⟨some 19, Op.binOp BinOp.add 3 (Operand.tmp 18) (Operand.const (Value.int IntKind.i64 1)) 3, none⟩, []⟩,
  ⟨⟨some 8, Op.assign (Operand.tmp 19), none⟩, []⟩])))))) (.seq (.reg [⟨⟨some 37, Op.load 31 (Operand.tmp 7), none⟩, []⟩,
  ⟨⟨none, Op.store 31 (Operand.tmp 6) (Operand.tmp 37), none⟩, []⟩]) .ret))))
theorem sl227 : slim Try.f227.ntmps ords227 (Try.f227.body.getD .skip) = some cd227 := by kernel_rfl
set_option maxRecDepth 20000 in
theorem in227 {args : List Value} {H : AH} {R : Value → AH → Prop} (hl : args.length = 3) (h : ∀ (Q : Exit → Sl → AH → Prop), (∀ e s H, endA Try.prog [ResultVar.cell 6 31] R e s H → Q e s H) → wpC Try.prog cd227 Q (enterA args) H) : ACalls Try.prog 227 args H R :=
  ACalls.intro (by kernel_rfl) Try.func227 rfl (by kernel_rfl) sl227 hl (of_decide_eq_true (by kernel_rfl)) (by kernel_rfl) h
def ords170 : List (Nat × List (Nat × Bool)) := []
def cd170 : Cd := (.seq (.reg [⟨⟨some 3, Op.box 31 (Operand.tmp 0), none⟩, []⟩,
  ⟨⟨some 6, Op.assign (Operand.const (Value.slice none 0 0)), none⟩, []⟩]) (.seq (.reg [⟨⟨some 11, Op.buildSlice 26 0 #[], none⟩, []⟩,
  ⟨⟨some 12, Op.load 31 (Operand.tmp 3), none⟩, []⟩,
  ⟨⟨some 13, Op.move (Operand.tmp 1), none⟩, []⟩,
  ⟨⟨some 14, Op.move (Operand.tmp 2), none⟩, []⟩,
  ⟨⟨some 15, Op.call { callee := (Callee.value (Operand.func 227)), args := #[(Operand.tmp 12), (Operand.tmp 13), (Operand.tmp 14)], argTypes := #[31, 38, 38] }, none⟩, []⟩,
  ⟨⟨some 16, Op.buildSlice 38 0 #[], none⟩, []⟩,
  ⟨⟨some 8, Op.alloc 31, none⟩, []⟩,
  ⟨⟨some 7, Op.assign (Operand.tmp 11), none⟩, []⟩,
  ⟨⟨none, Op.store 31 (Operand.tmp 8) (Operand.tmp 15), none⟩, []⟩,
  ⟨⟨some 9, Op.assign (Operand.tmp 16), none⟩, []⟩]) (.seq (.seq (.reg [⟨⟨some 10, Op.assign (Operand.const (Value.int IntKind.i64 0)), none⟩, []⟩]) (.block 0 (.loop (.seq (.seq (.reg [⟨⟨some 17, Op.move (Operand.tmp 10), none⟩, []⟩,
  ⟨⟨some 18, Op.fieldAddr 31 (Operand.tmp 3) 0, none⟩, []⟩,
  ⟨⟨some 19, Op.load 3 (Operand.tmp 18), none⟩, []⟩,
  ⟨⟨some 20, Op.binOp BinOp.lss 3 (Operand.tmp 17) (Operand.tmp 19) 3, none⟩, []⟩]) (.cond (Operand.tmp 20) .skip (.exit 0))) (.seq (.block 1 (.seq (.reg [⟨⟨some 23, Op.load 31 (Operand.tmp 8), none⟩, []⟩,
  ⟨⟨some 24, Op.move (Operand.tmp 10), none⟩, []⟩,
  ⟨⟨some 25, Op.call { callee := (Callee.value (Operand.func 228)), args := #[(Operand.tmp 23), (Operand.tmp 24)], argTypes := #[31, 3] }, none⟩, []⟩,
  ⟨⟨some 26, Op.call { callee := (Callee.builtin Builtin.len), args := #[(Operand.tmp 25)], argTypes := #[38] }, none⟩, []⟩,
  ⟨⟨some 27, Op.binOp BinOp.gtr 3 (Operand.tmp 26) (Operand.const (Value.int IntKind.i64 0)) 3, none⟩, []⟩]) (.cond (Operand.tmp 27) (.reg [⟨⟨some 28, Op.move (Operand.tmp 9), none⟩, []⟩,
  ⟨⟨some 29, Op.move (Operand.tmp 10), none⟩, []⟩,
  ⟨⟨some 30, Op.buildSlice 38 1 #[(0, (Operand.tmp 29))], none⟩, []⟩,
  ⟨⟨some 31, Op.call { callee := (Callee.builtin Builtin.append), args := #[(Operand.tmp 28), (Operand.tmp 30)], argTypes := #[38, 38] }, none⟩, []⟩,
  ⟨⟨some 9, Op.assign (Operand.tmp 31), none⟩, []⟩]) .skip))) (.reg [⟨⟨some 21, Op.move (Operand.tmp 10), none⟩, []⟩,
  ⟨⟨some 22, Op.binOp BinOp.add 3 (Operand.tmp 21) (Operand.const (Value.int IntKind.i64 1)) 3, none⟩, []⟩,
  ⟨⟨some 10, Op.assign (Operand.tmp 22), none⟩, []⟩])))))) (.seq (.reg [⟨⟨some 32, Op.move (Operand.tmp 7), none⟩, []⟩,
  ⟨⟨some 33, Op.load 31 (Operand.tmp 8), none⟩, []⟩,
  ⟨⟨some 34, Op.move (Operand.tmp 9), none⟩, []⟩,
  ⟨⟨some 35, Op.call { callee := (Callee.value (Operand.func 161)), args := #[(Operand.tmp 33), (Operand.tmp 34)], argTypes := #[31, 38] }, none⟩, []⟩,
  ⟨⟨some 36, Op.call { callee := (Callee.builtin Builtin.append), args := #[(Operand.tmp 32), (Operand.tmp 35)], argTypes := #[26, 26] }, none⟩, []⟩,
  ⟨⟨some 7, Op.assign (Operand.tmp 36), none⟩, []⟩]) (.seq (.reg [⟨⟨some 37, Op.move (Operand.tmp 7), none⟩, []⟩,
  ⟨⟨some 6, Op.assign (Operand.tmp 37), none⟩, []⟩]) .ret)))))
theorem sl170 : slim Try.f170.ntmps ords170 (Try.f170.body.getD .skip) = some cd170 := by kernel_rfl
theorem in170 {args : List Value} {H : AH} {R : Value → AH → Prop} (hl : args.length = 3) (h : ∀ (Q : Exit → Sl → AH → Prop), (∀ e s H, endA Try.prog [ResultVar.tmp 6] R e s H → Q e s H) → wpC Try.prog cd170 Q (enterA args) H) : ACalls Try.prog 170 args H R :=
  ACalls.intro (by kernel_rfl) Try.func170 rfl (by kernel_rfl) sl170 hl (of_decide_eq_true (by kernel_rfl)) (by kernel_rfl) h
end Go.Proofs.Ytlfongfhbkefmaa.Ai
namespace Go.Proofs.Ytlfongfhbkefmaa.Ai
open Go Go.RowKit
set_option linter.unusedVariables false
set_option linter.unusedSimpArgs false
theorem bld_G (n : Int) (p : Option Addr) (m c : Nat) : buildA Try.prog 31 [(0, .int .i64 n), (1, .slice p m c)] = some (.agg (List.toArray [.int .i64 n, .slice p m c])) := by kernel_rfl
set_option maxRecDepth 20000 in
set_option maxHeartbeats 4000000 in
theorem l8Differ_c (n : Int) (v w u : Value) (es : List (Int × Int)) (a b : List Int) (H : AH) (hr : RowP 81 H v es) (hlen : es.length ≤ 1099511627) (ha : Row 3 H w a) (hb : Row 3 H u b) (hla : a.length ≤ 1048576) (hlb : b.length ≤ 1048576) :
    ACalls Try.prog 227 [.agg (List.toArray [.int .i64 n, v]), w, u] H fun r H' => ∃ st, r = .agg (List.toArray [.int .i64 n, st]) ∧ RowP 81 H' st (dE es a b) ∧ H <+: H' := by
  refine in227 rfl ?_
  intro Q hQ
  simp (maxSteps := 1000000) (disch := omega) only [cd227, hr.boxG, S, S1, S2, S3, S4, S5, ST, eq_self, reduceIte, reduceCtorEq, Nat.reduceEqDiff, Nat.reduceAdd]
  generalize hA0 : H ++ [AObj.cells [.int .i64 n, v] 31 false] = A0
  have pA0 : H <+: A0 := by rw [← hA0]; exact List.prefix_append _ _
  have cA0 : A0[H.length]? = some (.cells [.int .i64 n, v] 31 false) := by rw [← hA0]; exact at_new ..
  have rA0 := hr.pre pA0
  simp (maxSteps := 1000000) (disch := omega) only [alloc_G, S, S1, S2, S3, S4, S5, ST, eq_self, reduceIte, reduceCtorEq, Nat.reduceEqDiff, Nat.reduceAdd]
  generalize hA : A0 ++ [AObj.cells [.int .i64 0, .slice none 0 0] 31 false] = A
  have pA1 : A0 <+: A := by rw [← hA]; exact List.prefix_append _ _
  have cT : A[A0.length]? = some (.cells [.int .i64 0, .slice none 0 0] 31 false) := by rw [← hA]; exact at_new ..
  have lA0 : A0.length = H.length + 1 := by rw [← hA0]; simp
  have lA : A.length = A0.length + 1 := by rw [← hA]; simp
  have cA := pre_at pA1 cA0
  have pA := pA0.trans pA1
  simp (maxSteps := 1000000) (disch := omega) only [cell_of cA, S, S1, S2, S3, S4, S5, ST, eq_self, reduceIte, reduceCtorEq, Nat.reduceEqDiff, Nat.reduceAdd]
  generalize hE : A ++ [AObj.cells [] 81 false] = E
  have pE : A <+: E := by rw [← hE]; exact List.prefix_append _ _
  have lE : E.length = A.length + 1 := by rw [← hE]; simp
  have m0 : MineP 81 A E (.slice (some ⟨A.length, 0, none⟩) 0 0) [] := by rw [← hE]; exact MineP.nil0 (P := Try.prog) A A (Nat.le_refl _)
  have st0 := st_G m0.row (at_new E (.cells [.int .i64 0, .slice none 0 0] 31 false)) rfl n
  rw [set_new] at st0
  simp (maxSteps := 1000000) (disch := omega) only [bld_G, alloc_G, st0, S, S1, S2, S3, S4, S5, ST, eq_self, reduceIte, reduceCtorEq, Nat.reduceEqDiff, Nat.reduceAdd]
  generalize hG : E ++ [AObj.cells [.int .i64 n, .slice (some ⟨A.length, 0, none⟩) 0 0] 31 false] = G
  have pG : E <+: G := by rw [← hG]; exact List.prefix_append _ _
  have cG : G[E.length]? = some (.cells [.int .i64 n, .slice (some ⟨A.length, 0, none⟩) 0 0] 31 false) := by rw [← hG]; exact at_new ..
  have lG : G.length = E.length + 1 := by rw [← hG]; simp
  have rA := rA0.pre pA1
  refine LoopH.by (fun m s H' => ∃ (i : Nat) (st : Value), m + i = es.length ∧ s 1 = w ∧ s 2 = u ∧ s 3 = .pointer (some ⟨H.length, 0, none⟩) ∧ s 6 = .pointer (some ⟨A0.length, 0, none⟩) ∧ s 7 = .pointer (some ⟨E.length, 0, none⟩) ∧ s 8 = .int .i64 ((i : Nat) : Int) ∧ H'[E.length]? = some (.cells [.int .i64 n, st] 31 false) ∧ (rowO st = A.length ∨ G.length ≤ rowO st) ∧ st ≠ .slice none 0 0 ∧ MineP 81 A H' st (dED es (dix a b i)) ∧ A <+: H') es.length ?_ ?_
  · exact ⟨0, .slice (some ⟨A.length, 0, none⟩) 0 0, by simp, rfl, rfl, rfl, rfl, rfl, rfl, cG, .inl rfl, (by intro e; cases e), m0.pre pG, pE.trans pG⟩
  rintro m s H' ⟨i, st, hm, h1, h2, h3, h6, h7, h8, hc5, hst, hsn, hmn, hpp⟩
  have cH := pre_at hpp cA
  have rH := rA.pre hpp
  have aH := ha.pre (pA.trans hpp)
  have bH := hb.pre (pA.trans hpp)
  simp (maxSteps := 1000000) (disch := omega) only [h1, h2, h3, h6, h7, h8, cell_of cH, rH.len Try.underlying22, S, S1, S2, S3, S4, S5, ST, eq_self, reduceIte, reduceCtorEq, Nat.reduceEqDiff, Nat.reduceAdd]
  refine brD.intro (fun q => ?_) (fun q => ?_)
  · have hi : i < es.length := by omega
    simp (maxSteps := 1000000) (disch := omega) only [h1, h2, h3, h6, h7, h8, S, S1, S2, S3, S4, S5, ST, eq_self, reduceIte, reduceCtorEq, Nat.reduceEqDiff, Nat.reduceAdd]
    refine CallH.by (l1Has_c w a (i : Int) H' aH (by omega)) ?_
    rintro _ _ ⟨rfl, rfl⟩
    simp (maxSteps := 1000000) (disch := omega) only [h1, h2, h3, h6, h7, h8, S, S1, S2, S3, S4, S5, ST, eq_self, reduceIte, reduceCtorEq, Nat.reduceEqDiff, Nat.reduceAdd]
    refine CallH.by (l1Has_c u b (i : Int) H' bH (by omega)) ?_
    rintro _ _ ⟨rfl, rfl⟩
    have hdl := dix_len a b i
    have hdel : (dED es (dix a b i)).length ≤ i := by unfold dED; rw [List.length_map]; exact hdl
    have hne : ∀ o, o = E.length → o ≠ rowO st := fun o ho => by omega
    have l5 := at_lt hc5
    have hld := rH.ld ag81 cs81 hi
    have hdix : ∀ t : Bool, (decide ((i : Int) ∈ a) != decide ((i : Int) ∈ b)) = t → dED es (dix a b (i + 1)) = dED es (dix a b i) ++ if t = true then [es.getD i (0, 0)] else [] := by
      intro t ht
      simp only [dix]
      rw [ht]
      unfold dED
      rw [List.map_append]
      congr 1
      cases t <;> simp
    have go : ∀ t : Bool, (decide ((i : Int) ∈ a) != decide ((i : Int) ∈ b)) = t → t = t := fun t _ => rfl
    by_cases ea : (i : Int) ∈ a <;> by_cases eb : (i : Int) ∈ b
    · have hs := hdix false (by rw [decide_eq_true ea, decide_eq_true eb]; rfl)
      rw [if_neg (by decide), List.append_nil] at hs
      rw [← hs] at hmn
      simp (maxSteps := 1000000) (disch := omega) only [decide_eq_true ea, decide_eq_true eb, h1, h2, h3, h6, h7, h8, wrap64, S, S1, S2, S3, S4, S5, ST, eq_self, reduceIte, reduceCtorEq, Nat.reduceEqDiff, Nat.reduceAdd]
      refine ⟨m - 1, by omega, i + 1, st, ?_⟩
      (repeat' first | exact hc5 | exact hst | exact hsn | exact hmn | exact hpp | apply And.intro) <;> first | (simp only [Value.int.injEq, true_and]; omega) | omega | rfl | assumption | (simp; done) | (simp; omega)
    · have hs := hdix true (by rw [decide_eq_true ea, decide_eq_false eb]; rfl)
      rw [if_pos rfl] at hs
      obtain ⟨st2, H3, k1, k2, k3, k4, k5, k6⟩ := own1_22 hmn hpp (by omega) (es.getD i (0, 0)).1 (es.getD i (0, 0)).2
      have d5 : H3[E.length]? = some (.cells [.int .i64 n, st] 31 false) := k4 _ _ (.inr (hne _ rfl)) hc5
      obtain ⟨q2, hq2⟩ := k2.row.shape
      have t2 : st2.cells.toList = [st2] := by rw [hq2]; rfl
      have hst3 := st_at (P := Try.prog) (t := 22) (i := 1) (y := st2) cs22 d5 (by show 1 < 2; decide) k6 t2
      simp (maxSteps := 1000000) (disch := omega) only [decide_eq_true ea, decide_eq_false eb, h1, h2, h3, h6, h7, h8, cell_of hc5, cell_of cH, rH.ix Try.underlying22 cs81, Int.toNat_natCast, hld, k1, hst3, wrap64, S, S1, S2, S3, S4, S5, ST, eq_self, reduceIte, reduceCtorEq, Nat.reduceEqDiff, Nat.reduceAdd]
      have f5 : (H3.set E.length (.cells ([.int .i64 n, st].set 1 st2) 31 false))[E.length]? = some (.cells [.int .i64 n, st2] 31 false) := by
        rw [List.getElem?_set_self (at_lt d5)]; rfl
      have fs1 : rowO st2 = A.length ∨ G.length ≤ rowO st2 := .inr (by omega)
      have fs2 : st2 ≠ .slice none 0 0 := by
        intro hh
        rw [hh] at k5
        have : rowO (Value.slice none 0 0) = 0 := rfl
        omega
      have fm : MineP 81 A (H3.set E.length (.cells ([.int .i64 n, st].set 1 st2) 31 false)) st2 (dED es (dix a b (i + 1))) := by
        rw [hs]
        exact k2.keepL fun hl y hy => by rw [List.getElem?_set_ne (by omega)]; exact hy
      have fp : A <+: H3.set E.length (.cells ([.int .i64 n, st].set 1 st2) 31 false) := pre_set k3 (by omega) _
      refine ⟨m - 1, by omega, i + 1, st2, ?_⟩
      (repeat' first | exact f5 | exact fs1 | exact fs2 | exact fm | exact fp | apply And.intro) <;> first | (simp only [Value.int.injEq, true_and]; omega) | omega | rfl | assumption | (simp; done) | (simp; omega)
    · have hs := hdix true (by rw [decide_eq_false ea, decide_eq_true eb]; rfl)
      rw [if_pos rfl] at hs
      obtain ⟨st2, H3, k1, k2, k3, k4, k5, k6⟩ := own1_22 hmn hpp (by omega) (es.getD i (0, 0)).1 (es.getD i (0, 0)).2
      have d5 : H3[E.length]? = some (.cells [.int .i64 n, st] 31 false) := k4 _ _ (.inr (hne _ rfl)) hc5
      obtain ⟨q2, hq2⟩ := k2.row.shape
      have t2 : st2.cells.toList = [st2] := by rw [hq2]; rfl
      have hst3 := st_at (P := Try.prog) (t := 22) (i := 1) (y := st2) cs22 d5 (by show 1 < 2; decide) k6 t2
      simp (maxSteps := 1000000) (disch := omega) only [decide_eq_false ea, decide_eq_true eb, h1, h2, h3, h6, h7, h8, cell_of hc5, cell_of cH, rH.ix Try.underlying22 cs81, Int.toNat_natCast, hld, k1, hst3, wrap64, S, S1, S2, S3, S4, S5, ST, eq_self, reduceIte, reduceCtorEq, Nat.reduceEqDiff, Nat.reduceAdd]
      have f5 : (H3.set E.length (.cells ([.int .i64 n, st].set 1 st2) 31 false))[E.length]? = some (.cells [.int .i64 n, st2] 31 false) := by
        rw [List.getElem?_set_self (at_lt d5)]; rfl
      have fs1 : rowO st2 = A.length ∨ G.length ≤ rowO st2 := .inr (by omega)
      have fs2 : st2 ≠ .slice none 0 0 := by
        intro hh
        rw [hh] at k5
        have : rowO (Value.slice none 0 0) = 0 := rfl
        omega
      have fm : MineP 81 A (H3.set E.length (.cells ([.int .i64 n, st].set 1 st2) 31 false)) st2 (dED es (dix a b (i + 1))) := by
        rw [hs]
        exact k2.keepL fun hl y hy => by rw [List.getElem?_set_ne (by omega)]; exact hy
      have fp : A <+: H3.set E.length (.cells ([.int .i64 n, st].set 1 st2) 31 false) := pre_set k3 (by omega) _
      refine ⟨m - 1, by omega, i + 1, st2, ?_⟩
      (repeat' first | exact f5 | exact fs1 | exact fs2 | exact fm | exact fp | apply And.intro) <;> first | (simp only [Value.int.injEq, true_and]; omega) | omega | rfl | assumption | (simp; done) | (simp; omega)
    · have hs := hdix false (by rw [decide_eq_false ea, decide_eq_false eb]; rfl)
      rw [if_neg (by decide), List.append_nil] at hs
      rw [← hs] at hmn
      simp (maxSteps := 1000000) (disch := omega) only [decide_eq_false ea, decide_eq_false eb, h1, h2, h3, h6, h7, h8, wrap64, S, S1, S2, S3, S4, S5, ST, eq_self, reduceIte, reduceCtorEq, Nat.reduceEqDiff, Nat.reduceAdd]
      refine ⟨m - 1, by omega, i + 1, st, ?_⟩
      (repeat' first | exact hc5 | exact hst | exact hsn | exact hmn | exact hpp | apply And.intro) <;> first | (simp only [Value.int.injEq, true_and]; omega) | omega | rfl | assumption | (simp; done) | (simp; omega)
  · have hi : i = es.length := by omega
    subst hi
    have cTH := pre_at hpp cT
    have hstore := st_G hmn.row cTH rfl n
    simp (maxSteps := 1000000) (disch := omega) only [h6, h7, ld_agg ag31 cs31 hc5, hstore, S, S1, S2, S3, S4, S5, ST, eq_self, reduceIte, reduceCtorEq, Nat.reduceEqDiff, Nat.reduceAdd]
    have d4 := at_set (d := .cells [.int .i64 n, st] 31 false) cTH
    have lAH := hpp.length_le
    refine hQ _ _ _ (end_cell _ _ _ _ _ _ (.agg (List.toArray [.int .i64 n, st])) ?_ rfl ⟨st, rfl, ?_, pre_set (pA.trans hpp) (by have := pA0.length_le; omega) _⟩)
    · simp (maxSteps := 1000000) (disch := omega) only [h6, ld_agg ag31 cs31 d4, S, S1, S2, S3, S4, S5, ST, eq_self, reduceIte, reduceCtorEq, Nat.reduceEqDiff, Nat.reduceAdd]
    · exact (hmn.keepL fun hl y hy => by rw [List.getElem?_set_ne (by omega)]; exact hy).row
set_option maxRecDepth 20000 in
set_option maxHeartbeats 4000000 in
theorem l8Pieces_c (n : Nat) (v w u : Value) (es : List (Int × Int)) (a b : List Int) (H : AH) (hr : RowP 81 H v es) (hlen : es.length ≤ 1099511627776) (hg : Grd (n : Int) es) (ha : Row 3 H w a) (hb : Row 3 H u b) (hla : a.length ≤ 1048576) (hlb : b.length ≤ 1048576) :
    ACalls Try.prog 170 [.agg (List.toArray [.int .i64 (n : Int), v]), w, u] H fun r H' => InL H.length H'.length 38 3 H' r (piecesL (dE es a b) (domL (dE es a b) n n)) ∧ H <+: H' := by
  have hn8 : n ≤ 8 := by have := hg.1; omega
  have hes := grd_28 hg
  refine in170 rfl ?_
  intro Q hQ
  simp (maxSteps := 1000000) (disch := omega) only [cd170, hr.boxG, S, S1, S2, S3, S4, S5, ST, eq_self, reduceIte, reduceCtorEq, Nat.reduceEqDiff, Nat.reduceAdd]
  generalize hA : H ++ [AObj.cells [.int .i64 ↑n, v] 31 false] = A
  have pA : H <+: A := by rw [← hA]; exact List.prefix_append _ _
  have cA : A[H.length]? = some (.cells [.int .i64 ↑n, v] 31 false) := by rw [← hA]; exact at_new ..
  have rA := hr.pre pA
  have u0 := InU.new H.length 38 3 A pA.length_le
  have lA : A.length = H.length + 1 := by rw [← hA]; simp
  generalize hB : A ++ [AObj.cells [] 38 false] = B at *
  have pB : A <+: B := by rw [← hB]; exact List.prefix_append _ _
  have lB : B.length = A.length + 1 := by rw [← hB]; simp
  have cB := pre_at pB cA
  simp (maxSteps := 1000000) (disch := omega) only [ld_agg ag31 cs31 cB, S, S1, S2, S3, S4, S5, ST, eq_self, reduceIte, reduceCtorEq, Nat.reduceEqDiff, Nat.reduceAdd]
  refine CallH.by (l8Differ_c (n : Int) v w u es a b B (rA.pre pB) (by omega) (ha.pre (pA.trans pB)) (hb.pre (pA.trans pB)) hla hlb) ?_
  rintro _ E ⟨st, rfl, hst, pE⟩
  have hdl : (dE es a b).length ≤ 28 := by
    have := dix_len a b es.length
    unfold dE dED; rw [List.length_map]; omega
  generalize hdE : dE es a b = ps at *
  have lE := pE.length_le
  have cE := pre_at pE cB
  simp (maxSteps := 1000000) (disch := omega) only [S, S1, S2, S3, S4, S5, ST, eq_self, reduceIte, reduceCtorEq, Nat.reduceEqDiff, Nat.reduceAdd]
  generalize hF : E ++ [AObj.cells [] 3 false] = F
  have pF : E <+: F := by rw [← hF]; exact List.prefix_append _ _
  have lF : F.length = E.length + 1 := by rw [← hF]; simp
  have cF : F[E.length]? = some (.cells (ints []) 3 false) := by rw [← hF]; exact at_new ..
  have st0 := st_G hst (at_new F (.cells [.int .i64 0, .slice none 0 0] 31 false)) rfl (n : Int)
  rw [set_new] at st0
  simp (maxSteps := 1000000) (disch := omega) only [alloc_G, st0, S, S1, S2, S3, S4, S5, ST, eq_self, reduceIte, reduceCtorEq, Nat.reduceEqDiff, Nat.reduceAdd]
  generalize hG : F ++ [AObj.cells [.int .i64 (n : Int), st] 31 false] = G
  have pG : F <+: G := by rw [← hG]; exact List.prefix_append _ _
  have cG : G[F.length]? = some (.cells [.int .i64 (n : Int), st] 31 false) := by rw [← hG]; exact at_new ..
  have lG : G.length = F.length + 1 := by rw [← hG]; simp
  have own0 : Own 3 E G (.slice (some ⟨E.length, 0, none⟩) 0 0) (domL ps n 0) := .inr ⟨E.length, rfl, Nat.le_refl _, pre_at pG cF⟩
  have hO0 : rowO (Value.slice (some ⟨E.length, 0, none⟩) 0 0) = E.length ∨ G.length ≤ rowO (Value.slice (some ⟨E.length, 0, none⟩) 0 0) := .inl rfl
  have hN0 : Value.slice (some ⟨E.length, 0, none⟩) 0 0 ≠ .slice none 0 0 := by intro e; cases e
  have pEG := pF.trans pG
  refine LoopH.by (fun m s H' => ∃ (i : Nat), m + i = n ∧ s 3 = .pointer (some ⟨H.length, 0, none⟩) ∧ s 7 = .slice (some ⟨A.length, 0, none⟩) 0 0 ∧ s 8 = .pointer (some ⟨F.length, 0, none⟩) ∧ s 10 = .int .i64 ((i : Nat) : Int) ∧ Own 3 E H' (s 9) (domL ps n i) ∧ (rowO (s 9) = E.length ∨ G.length ≤ rowO (s 9)) ∧ s 9 ≠ .slice none 0 0 ∧ H'[F.length]? = some (.cells [.int .i64 (n : Int), st] 31 false) ∧ E <+: H') n ?_ ?_
  · refine ⟨0, ?_⟩
    simp (maxSteps := 1000000) (disch := omega) only [S, S1, S2, S3, S4, S5, ST, eq_self, reduceIte, reduceCtorEq, Nat.reduceEqDiff, Nat.reduceAdd]
    (repeat' first | exact own0 | exact hO0 | exact hN0 | exact cG | exact pEG | apply And.intro) <;> first | (simp only [Value.int.injEq, true_and]; omega) | omega | rfl | assumption | (simp; done) | (simp; omega)
  rintro m s H' ⟨i, hm, h3, h7, h8, h10, ho, hO, hN, hc, hp⟩
  generalize hU : s 9 = U at *
  have cH := pre_at (pE.trans hp) cB
  have hstH := hst.pre hp
  simp (maxSteps := 1000000) (disch := omega) only [h3, h7, h8, h10, hU, cell_of cH, S, S1, S2, S3, S4, S5, ST, eq_self, reduceIte, reduceCtorEq, Nat.reduceEqDiff, Nat.reduceAdd]
  refine brD.intro (fun q => ?_) (fun q => ?_)
  · have hi : i < n := by omega
    simp (maxSteps := 1000000) (disch := omega) only [h3, h7, h8, h10, hU, ld_agg ag31 cs31 hc, S, S1, S2, S3, S4, S5, ST, eq_self, reduceIte, reduceCtorEq, Nat.reduceEqDiff, Nat.reduceAdd]
    refine CallH.by (l2Neighbors_c (n : Int) st ps (i : Int) H' hstH (by omega) (by omega)) ?_
    rintro nb K ⟨hnb, pK⟩
    rw [Int.toNat_natCast] at hnb
    have hoK := ho.pre pK
    have hcK := pre_at pK hc
    have hpK := hp.trans pK
    have hsucc := domL_succ ps n i
    have hdo := domL_len ps n i
    simp (maxSteps := 1000000) (disch := omega) only [h3, h7, h8, h10, hU, hnb.row.len Try.underlying38, S, S1, S2, S3, S4, S5, ST, eq_self, reduceIte, reduceCtorEq, Nat.reduceEqDiff, Nat.reduceAdd]
    refine brD.intro (fun e => ?_) (fun e => ?_)
    · have hnb1 : nbB ps n (i : Int) = true := by unfold nbB; rw [decide_eq_true_iff]; omega
      rw [if_pos hnb1] at hsucc
      obtain ⟨U', H2, j1, j2, j3, j4, j5, j6⟩ := own1_38 hoK hpK (by omega) (i : Int)
      rw [← hsucc] at j2
      have l5 := at_lt hc
      have f1 : H2[F.length]? = some (.cells [.int .i64 (n : Int), st] 31 false) := j4 _ _ (.inr (by omega)) hcK
      have lK := pK.length_le
      have f2 : rowO U' = E.length ∨ G.length ≤ rowO U' := .inr (by omega)
      have f3 : U' ≠ .slice none 0 0 := by
        intro hh
        rw [hh] at j5
        have : rowO (Value.slice none 0 0) = 0 := rfl
        omega
      simp (maxSteps := 1000000) (disch := omega) only [e, h3, h7, h8, h10, hU, j1, wrap64, S, S1, S2, S3, S4, S5, ST, eq_self, reduceIte, reduceCtorEq, Nat.reduceEqDiff, Nat.reduceAdd]
      refine ⟨m - 1, by omega, i + 1, ?_⟩
      (repeat' first | exact j2 | exact f2 | exact f3 | exact f1 | exact j3 | apply And.intro) <;> first | (simp only [Value.int.injEq, true_and]; omega) | omega | rfl | assumption | (simp; done) | (simp; omega)
    · have hnb1 : ¬ nbB ps n (i : Int) = true := by unfold nbB; rw [decide_eq_true_iff]; omega
      rw [if_neg hnb1, List.append_nil] at hsucc
      rw [← hsucc] at hoK
      simp (maxSteps := 1000000) (disch := omega) only [e, h3, h7, h8, h10, hU, wrap64, S, S1, S2, S3, S4, S5, ST, eq_self, reduceIte, reduceCtorEq, Nat.reduceEqDiff, Nat.reduceAdd]
      refine ⟨m - 1, by omega, i + 1, ?_⟩
      (repeat' first | exact hoK | exact hO | exact hN | exact hcK | exact hpK | apply And.intro) <;> first | (simp only [Value.int.injEq, true_and]; omega) | omega | rfl | assumption | (simp; done) | (simp; omega)
  · have hi : i = n := by omega
    subst hi
    simp (maxSteps := 1000000) (disch := omega) only [h3, h7, h8, hU, ld_agg ag31 cs31 hc, S, S1, S2, S3, S4, S5, ST, eq_self, reduceIte, reduceCtorEq, Nat.reduceEqDiff, Nat.reduceAdd]
    have hdm : ∀ z ∈ domL ps i i, 0 ≤ z ∧ z < 8 := fun z hz => by have := ((domL_mem ps i i z).1 hz).1; omega
    have hdl2 := domL_len ps i i
    refine CallH.by (l2Pieces_c (i : Int) st U ps (domL ps i i) H' hstH (by omega) ho.row hdm (by omega)) ?_
    rintro r K ⟨hL, pK⟩
    have hpl := pieces_le ps (domL ps i i) hdm
    have uK := (u0.pre (pE.trans (hp.trans pK))).wide (Nat.le_refl _) (show A.length + 1 ≤ H'.length by have := hp.length_le; omega)
    obtain ⟨v', H5, o', us', q1, q2, q3, q4, q5, q6⟩ := uK.appL (P := Try.prog) (t2 := 26) Try.underlying26 cs38 (by rw [by38]; decide) zk38 hL (by have := hp.length_le; omega) pK.length_le (Nat.le_refl _) (by simp; omega)
    rw [List.nil_append] at q2 q3
    have z0 : ([] : List (List Int)).length = 0 := rfl
    rw [z0] at q1
    simp (maxSteps := 1000000) (disch := omega) only [q1, S, S1, S2, S3, S4, S5, ST, eq_self, reduceIte, reduceCtorEq, Nat.reduceEqDiff, Nat.reduceAdd]
    refine hQ _ _ _ ?_
    simp (maxSteps := 1000000) (disch := omega) only [q2, S, S1, S2, S3, S4, S5, ST, eq_self, reduceIte, reduceCtorEq, Nat.reduceEqDiff, Nat.reduceAdd]
    refine ⟨q3.inl, prefix_of fun j y hy => q5 j y (by have := at_lt hy; omega) (pre_at (pA.trans (pB.trans (pE.trans (hp.trans pK)))) hy)⟩
end Go.Proofs.Ytlfongfhbkefmaa.Ai
namespace Go.Proofs.Ytlfongfhbkefmaa.Ai
open Go
set_option linter.unusedVariables false
/-- an exchange of the members of a set without fixed points -/
structure Mate (N : Int → Prop) (m : Int → Int) : Prop where
  in_ : ∀ x, N x → N (m x)
  ne : ∀ x, N x → m x ≠ x
  inv : ∀ x, N x → m (m x) = x
/-- by turns -/
def trn (mA mB : Int → Int) (k : Nat) : Int → Int := if k % 2 = 0 then mA else mB
def alw (mA mB : Int → Int) (s : Int) : Nat → Int
  | 0 => s
  | k + 1 => trn mA mB k (alw mA mB s k)
theorem trn_two (mA mB : Int → Int) (k d : Nat) : trn mA mB (k + 2 * d) = trn mA mB k := by
  unfold trn
  have : (k + 2 * d) % 2 = k % 2 := by omega
  rw [this]
section
variable {N : Int → Prop} {mA mB : Int → Int} (hA : Mate N mA) (hB : Mate N mB) {s : Int} (hs : N s)
include hA hB
theorem trn_mate (k : Nat) : Mate N (trn mA mB k) := by
  unfold trn; split
  · exact hA
  · exact hB
include hs
theorem alw_in : ∀ k, N (alw mA mB s k)
  | 0 => hs
  | k + 1 => (trn_mate hA hB k).in_ _ (alw_in k)
theorem alw_back (k : Nat) : trn mA mB k (alw mA mB s (k + 1)) = alw mA mB s k := (trn_mate hA hB k).inv _ (alw_in hA hB hs k)
theorem alw_odd : ∀ d a, alw mA mB s a ≠ alw mA mB s (a + (2 * d + 1))
  | 0, a => fun e => (trn_mate hA hB a).ne _ (alw_in hA hB hs a) e.symm
  | d + 1, a => fun e => by
    have h1 := alw_back hA hB hs (a + 2 * (d + 1))
    rw [show a + 2 * (d + 1) + 1 = a + (2 * (d + 1) + 1) by omega, ← e, trn_two] at h1
    have h2 := alw_odd d (a + 1)
    rw [show a + 1 + (2 * d + 1) = a + 2 * (d + 1) by omega, ← h1] at h2
    exact h2 rfl
theorem alw_even : ∀ a d, alw mA mB s a = alw mA mB s (a + 2 * d) → s = alw mA mB s (2 * d)
  | 0, d, e => by rw [Nat.zero_add] at e; exact e
  | a + 1, d, e => by
    refine alw_even a d ?_
    have h1 := alw_back hA hB hs a
    have h2 := alw_back hA hB hs (a + 2 * d)
    rw [show a + 2 * d + 1 = a + 1 + 2 * d by omega, ← e, trn_two] at h2
    rw [← h1, ← h2]
end
/-- the first return -/
structure Per (mA mB : Int → Int) (s : Int) (p : Nat) : Prop where
  pos : 1 ≤ p
  ret : alw mA mB s (2 * p) = s
  min : ∀ k, 1 ≤ k → k < p → alw mA mB s (2 * k) ≠ s
theorem per_min {mA mB : Int → Int} {s : Int} : ∀ q, 1 ≤ q → alw mA mB s (2 * q) = s → ∃ p, p ≤ q ∧ Per mA mB s p := by
  intro q
  induction q using Nat.strongRecOn with
  | ind q ih =>
    intro h1 h2
    by_cases h : ∃ k, 1 ≤ k ∧ k < q ∧ alw mA mB s (2 * k) = s
    · obtain ⟨k, k1, k2, k3⟩ := h
      obtain ⟨p, p1, p2⟩ := ih k k2 k1 k3
      exact ⟨p, by omega, p2⟩
    · exact ⟨q, Nat.le_refl _, h1, h2, fun k k1 k2 k3 => h ⟨k, k1, k2, k3⟩⟩
theorem per_ex {n : Nat} {mA mB : Int → Int} (hA : Mate (fun x => 0 ≤ x ∧ x < n) mA) (hB : Mate (fun x => 0 ≤ x ∧ x < n) mB) {s : Int} (hs : 0 ≤ s ∧ s < n) : ∃ p, p ≤ n ∧ Per mA mB s p := by
  have hnot : ¬ ((List.range (n + 1)).map fun i => alw mA mB s (2 * i)).Nodup := by
    intro h
    have := nodupP_le n _ h (fun x hx => by
      obtain ⟨i, _, rfl⟩ := List.mem_map.1 hx
      exact alw_in hA hB hs (2 * i))
    simp at this
    omega
  have hex : ∃ i j, i < j ∧ j < n + 1 ∧ alw mA mB s (2 * i) = alw mA mB s (2 * j) := by
    refine Classical.byContradiction fun hno => hnot ?_
    rw [List.Nodup, List.pairwise_map]
    refine List.Pairwise.imp_of_mem ?_ List.pairwise_lt_range
    intro i j hi hj hij e
    exact hno ⟨i, j, hij, List.mem_range.1 hj, e⟩
  obtain ⟨i, j, hij, hj, e⟩ := hex
  have := alw_even hA hB hs (2 * i) (j - i) (by rw [show 2 * i + 2 * (j - i) = 2 * j by omega]; exact e)
  obtain ⟨p, h1, h2⟩ := per_min (mA := mA) (mB := mB) (s := s) (j - i) (by omega) this.symm
  exact ⟨p, by omega, h2⟩
/-- the walk to its first return -/
def alwL (mA mB : Int → Int) (s : Int) (k : Nat) : List Int := (List.range k).map (alw mA mB s)
section
variable {N : Int → Prop} {mA mB : Int → Int} (hA : Mate N mA) (hB : Mate N mB) {s : Int} (hs : N s) {p : Nat} (hp : Per mA mB s p)
include hA hB hs hp
theorem alwL_nodup : (alwL mA mB s (2 * p)).Nodup := by
  unfold alwL
  rw [List.Nodup, List.pairwise_map]
  refine List.Pairwise.imp_of_mem ?_ List.pairwise_lt_range
  intro a b ha hb hab e
  have hb' := List.mem_range.1 hb
  by_cases h2 : (b - a) % 2 = 0
  · obtain ⟨d, hd⟩ : ∃ d, b = a + 2 * d := ⟨(b - a) / 2, by omega⟩
    rw [hd] at e
    have := alw_even hA hB hs a d e
    exact hp.min d (by omega) (by omega) this.symm
  · obtain ⟨d, hd⟩ : ∃ d, b = a + (2 * d + 1) := ⟨(b - a) / 2, by omega⟩
    rw [hd] at e
    exact alw_odd hA hB hs d a e
theorem alwL_clo {x : Int} (hx : x ∈ alwL mA mB s (2 * p)) : mA x ∈ alwL mA mB s (2 * p) ∧ mB x ∈ alwL mA mB s (2 * p) := by
  unfold alwL at *
  obtain ⟨a, ha, rfl⟩ := List.mem_map.1 hx
  have ha' := List.mem_range.1 ha
  have hp1 := hp.pos
  have mem : ∀ k, k < 2 * p → alw mA mB s k ∈ (List.range (2 * p)).map (alw mA mB s) := fun k hk => List.mem_map.2 ⟨k, List.mem_range.2 hk, rfl⟩
  have nxt : trn mA mB a (alw mA mB s a) ∈ (List.range (2 * p)).map (alw mA mB s) := by
    by_cases e : a + 1 < 2 * p
    · exact mem (a + 1) e
    · have e2 : a + 1 = 2 * p := by omega
      have : trn mA mB a (alw mA mB s a) = alw mA mB s (a + 1) := rfl
      rw [this, e2, hp.ret]
      exact mem 0 (by omega)
  have prv : trn mA mB (a + 1) (alw mA mB s a) ∈ (List.range (2 * p)).map (alw mA mB s) := by
    by_cases e : a = 0
    · subst e
      have h1 := alw_back hA hB hs (2 * p - 1)
      rw [show 2 * p - 1 + 1 = 2 * p by omega, hp.ret] at h1
      have h2 : trn mA mB (2 * p - 1) = trn mA mB 1 := by
        rw [show 2 * p - 1 = 1 + 2 * (p - 1) by omega, trn_two]
      rw [h2] at h1
      show trn mA mB 1 s ∈ _
      rw [h1]
      exact mem _ (by omega)
    · have h1 := alw_back hA hB hs (a - 1)
      rw [show a - 1 + 1 = a by omega] at h1
      have h2 : trn mA mB (a + 1) = trn mA mB (a - 1) := by
        rw [show a + 1 = a - 1 + 2 * 1 by omega, trn_two]
      rw [h2, h1]
      exact mem _ (by omega)
  unfold trn at nxt prv
  by_cases h2 : a % 2 = 0
  · rw [if_pos h2] at nxt
    rw [if_neg (by omega)] at prv
    exact ⟨nxt, prv⟩
  · rw [if_neg h2] at nxt
    rw [if_pos (by omega)] at prv
    exact ⟨prv, nxt⟩
end
theorem nodup_le_of : ∀ (l m : List Int), l.Nodup → (∀ x ∈ l, x ∈ m) → l.length ≤ m.length
  | [], m, _, _ => Nat.zero_le _
  | a :: l, m, hn, h => by
    have ha := h a (by simp)
    have hn' := List.nodup_cons.1 hn
    have := nodup_le_of l (m.erase a) hn'.2 (fun x hx => (List.mem_erase_of_ne (fun e => by subst e; exact hn'.1 hx)).2 (h x (by simp [hx])))
    rw [List.length_erase_of_mem ha] at this
    have : 0 < m.length := List.length_pos_of_mem ha
    simp only [List.length_cons]
    omega
def mateF (es : List (Int × Int)) : List Int → Int → Int
  | [], _ => -1
  | i :: r, x => if ed1 es i = x then ed2 es i else if ed2 es i = x then ed1 es i else mateF es r x
theorem seenL_memP (es : List (Int × Int)) (xs : List Int) (x : Int) : x ∈ seenL es xs ↔ ∃ i ∈ xs, x = ed1 es i ∨ x = ed2 es i := by
  unfold seenL
  rw [List.mem_flatMap]
  simp
theorem mateF_ed (es : List (Int × Int)) : ∀ (xs : List Int), (seenL es xs).Nodup → ∀ i ∈ xs, mateF es xs (ed1 es i) = ed2 es i ∧ mateF es xs (ed2 es i) = ed1 es i
  | [], _, i, hi => by simp at hi
  | j :: r, hn, i, hi => by
    have hc : seenL es (j :: r) = ed1 es j :: ed2 es j :: seenL es r := rfl
    rw [hc] at hn
    have h1 := List.nodup_cons.1 hn
    have h2 := List.nodup_cons.1 h1.2
    by_cases e : i = j
    · subst e
      simp only [mateF, if_true]
      refine ⟨trivial, ?_⟩
      rw [if_neg (fun e => h1.1 (by rw [e]; simp))]
    · have hir : i ∈ r := by simpa [e] using hi
      have m1 : ed1 es i ∈ seenL es r := (seenL_memP es r _).2 ⟨i, hir, .inl rfl⟩
      have m2 : ed2 es i ∈ seenL es r := (seenL_memP es r _).2 ⟨i, hir, .inr rfl⟩
      have ih := mateF_ed es r h2.2 i hir
      simp only [mateF]
      have a1 : ed1 es j ≠ ed1 es i := fun e => h1.1 (by rw [e]; exact List.mem_cons_of_mem _ m1)
      have a2 : ed2 es j ≠ ed1 es i := fun e => h2.1 (by rw [e]; exact m1)
      have a3 : ed1 es j ≠ ed2 es i := fun e => h1.1 (by rw [e]; exact List.mem_cons_of_mem _ m2)
      have a4 : ed2 es j ≠ ed2 es i := fun e => h2.1 (by rw [e]; exact m2)
      rw [if_neg a1, if_neg a2, if_neg a3, if_neg a4]
      exact ih
section
variable {n : Nat} {es : List (Int × Int)} (hg : Grd (n : Int) es)
include hg
theorem seen_nodup {a : List Int} (hm : Mtc es a) : (seenL es a).Nodup := by
  have key : ∀ k, k ≤ a.length → (seenL es (a.take k)).Nodup := by
    intro k
    induction k with
    | zero => intro _; simp [seenL]
    | succ k ih =>
      intro hk
      rw [seenL_take es a k (by omega)]
      obtain ⟨h1, h2⟩ := hm k (by omega)
      have hmem : es.getD (a.getD k 0).toNat (0, 0) ∈ es := by
        have hlt : (a.getD k 0).toNat < es.length := by have := h1.1; omega
        rw [List.getD_eq_getElem?_getD, List.getElem?_eq_getElem hlt]
        exact List.getElem_mem _
      have hr := grd_mem hg hmem
      have hne : ed1 es (a.getD k 0) ≠ ed2 es (a.getD k 0) := by
        show (es.getD (a.getD k 0).toNat (0, 0)).1 ≠ (es.getD (a.getD k 0).toNat (0, 0)).2
        omega
      rw [List.nodup_append]
      refine ⟨ih (by omega), List.nodup_cons.2 ⟨fun h => hne (List.mem_singleton.1 h), List.nodup_cons.2 ⟨by simp, List.nodup_nil⟩⟩, fun x hx y hy e => ?_⟩
      subst e
      simp only [List.mem_cons, List.not_mem_nil, or_false] at hy
      rcases hy with rfl | rfl
      · exact h2.1 hx
      · exact h2.2 hx
  have := key a.length (Nat.le_refl _)
  rwa [List.take_length] at this
theorem ed_rng {a : List Int} (hm : Mtc es a) {i : Int} (hi : i ∈ a) : es.getD i.toNat (0, 0) ∈ es ∧ 0 ≤ ed1 es i ∧ ed1 es i < ed2 es i ∧ ed2 es i < n := by
  have h := mtc_rng hm i hi
  have hmem : es.getD i.toNat (0, 0) ∈ es := by
    rw [List.getD_eq_getElem?_getD, List.getElem?_eq_getElem (show i.toNat < es.length by omega)]
    exact List.getElem_mem _
  exact ⟨hmem, grd_mem hg hmem⟩
theorem seen_all {a : List Int} (hm : Mtc es a) (hl : 2 * a.length = n) {x : Int} (hx : 0 ≤ x ∧ x < n) : x ∈ seenL es a := by
  refine Decidable.byContradiction fun hno => ?_
  have hn : (x :: seenL es a).Nodup := List.nodup_cons.2 ⟨hno, seen_nodup hg hm⟩
  have := nodupP_le n _ hn (fun y hy => by
    rcases List.mem_cons.1 hy with rfl | hy
    · exact hx
    · obtain ⟨i, hi, e⟩ := (seenL_memP es a y).1 hy
      have := ed_rng hg hm hi
      rcases e with rfl | rfl <;> omega)
  rw [List.length_cons, seenL_len] at this
  omega
theorem mate_ok {a : List Int} (hm : Mtc es a) (hl : 2 * a.length = n) : Mate (fun x => 0 ≤ x ∧ x < n) (mateF es a) := by
  have key : ∀ x : Int, 0 ≤ x ∧ x < n → ∃ i ∈ a, (x = ed1 es i ∧ mateF es a x = ed2 es i) ∨ (x = ed2 es i ∧ mateF es a x = ed1 es i) := by
    intro x hx
    obtain ⟨i, hi, e⟩ := (seenL_memP es a x).1 (seen_all hg hm hl hx)
    have := mateF_ed es a (seen_nodup hg hm) i hi
    refine ⟨i, hi, ?_⟩
    rcases e with rfl | rfl
    · exact .inl ⟨rfl, this.1⟩
    · exact .inr ⟨rfl, this.2⟩
  refine ⟨fun x hx => ?_, fun x hx => ?_, fun x hx => ?_⟩
  · obtain ⟨i, hi, h⟩ := key x hx
    have := ed_rng hg hm hi
    rcases h with ⟨e1, e2⟩ | ⟨e1, e2⟩ <;> rw [e2] <;> omega
  · obtain ⟨i, hi, h⟩ := key x hx
    have := ed_rng hg hm hi
    rcases h with ⟨e1, e2⟩ | ⟨e1, e2⟩ <;> rw [e2] <;> omega
  · obtain ⟨i, hi, h⟩ := key x hx
    have := mateF_ed es a (seen_nodup hg hm) i hi
    rcases h with ⟨e1, e2⟩ | ⟨e1, e2⟩
    · rw [e2, this.2, e1]
    · rw [e2, this.1, e1]
/-- an edge of a matching joins a node to its mate -/
theorem mate_near {a : List Int} (hm : Mtc es a) (hl : 2 * a.length = n) {x y : Int} (hx : 0 ≤ x ∧ x < n) : mateF es a x = y ↔ ∃ i ∈ a, es.getD i.toNat (0, 0) = (x, y) ∨ es.getD i.toNat (0, 0) = (y, x) := by
  have hed := mateF_ed es a (seen_nodup hg hm)
  constructor
  · intro h
    obtain ⟨i, hi, e⟩ := (seenL_memP es a x).1 (seen_all hg hm hl hx)
    refine ⟨i, hi, ?_⟩
    rcases e with rfl | rfl
    · left; rw [(hed i hi).1] at h; rw [← h]
    · right; rw [(hed i hi).2] at h; rw [← h]
  · rintro ⟨i, hi, e | e⟩
    · have e1 : ed1 es i = x := by show (es.getD i.toNat (0, 0)).1 = x; rw [e]
      have e2 : ed2 es i = y := by show (es.getD i.toNat (0, 0)).2 = y; rw [e]
      have := (hed i hi).1
      rw [e1, e2] at this; exact this
    · have e1 : ed1 es i = y := by show (es.getD i.toNat (0, 0)).1 = y; rw [e]
      have e2 : ed2 es i = x := by show (es.getD i.toNat (0, 0)).2 = x; rw [e]
      have := (hed i hi).2
      rw [e1, e2] at this; exact this
theorem es_inj {i j : Nat} (hi : i < es.length) (hj : j < es.length) {x y : Int} (h1 : es.getD i (0, 0) = (x, y) ∨ es.getD i (0, 0) = (y, x)) (h2 : es.getD j (0, 0) = (x, y) ∨ es.getD j (0, 0) = (y, x)) : i = j := by
  have at_ : ∀ i (h : i < es.length), es.getD i (0, 0) = es[i] := fun i h => by simp [h]
  have mi : es.getD i (0, 0) ∈ es := by rw [at_ i hi]; exact List.getElem_mem _
  have mj : es.getD j (0, 0) ∈ es := by rw [at_ j hj]; exact List.getElem_mem _
  have ri := grd_mem hg mi
  have rj := grd_mem hg mj
  have heq : es.getD i (0, 0) = es.getD j (0, 0) := by
    rcases h1 with h1 | h1 <;> rcases h2 with h2 | h2 <;> rw [h1] at ri ⊢ <;> rw [h2] at rj ⊢ <;> simp only at ri rj <;> omega
  have hp := grd_pwP hg
  rw [List.pairwise_iff_getElem] at hp
  rcases Nat.lt_trichotomy i j with h | h | h
  · have := hp i j hi hj h
    rw [← at_ i hi, ← at_ j hj, heq] at this
    unfold pairLt at this; omega
  · exact h
  · have := hp j i hj hi h
    rw [← at_ i hi, ← at_ j hj, heq] at this
    unfold pairLt at this; omega
theorem diff_near {a b : List Int} (hma : Mtc es a) (hmb : Mtc es b) (hla : 2 * a.length = n) (hlb : 2 * b.length = n) {x y : Int} (hx : 0 ≤ x ∧ x < n) :
    nearB (dE es a b) x y = true ↔ mateF es a x ≠ mateF es b x ∧ (y = mateF es a x ∨ y = mateF es b x) := by
  have na := fun z => mate_near hg hma hla (y := z) hx
  have nb := fun z => mate_near hg hmb hlb (y := z) hx
  rw [nearB_iff]
  have hmem : ∀ e : Int × Int, e ∈ dE es a b ↔ ∃ i : Int, ((0 ≤ i ∧ i < es.length) ∧ (decide (i ∈ a) != decide (i ∈ b)) = true) ∧ es.getD i.toNat (0, 0) = e := by
    intro e
    unfold dE dED
    rw [List.mem_map]
    exact exists_congr fun i => by rw [dix_mem]
  have lhs : ((x, y) ∈ dE es a b ∨ (y, x) ∈ dE es a b) ↔ ∃ i : Int, ((0 ≤ i ∧ i < es.length) ∧ (decide (i ∈ a) != decide (i ∈ b)) = true) ∧ (es.getD i.toNat (0, 0) = (x, y) ∨ es.getD i.toNat (0, 0) = (y, x)) := by
    rw [hmem, hmem]
    constructor
    · rintro (⟨i, h1, h2⟩ | ⟨i, h1, h2⟩)
      · exact ⟨i, h1, .inl h2⟩
      · exact ⟨i, h1, .inr h2⟩
    · rintro ⟨i, h1, h2 | h2⟩
      · exact .inl ⟨i, h1, h2⟩
      · exact .inr ⟨i, h1, h2⟩
  rw [lhs]
  have same : ∀ i j : Int, (0 ≤ i ∧ i < es.length) → (0 ≤ j ∧ j < es.length) → (es.getD i.toNat (0, 0) = (x, y) ∨ es.getD i.toNat (0, 0) = (y, x)) → (es.getD j.toNat (0, 0) = (x, y) ∨ es.getD j.toNat (0, 0) = (y, x)) → i = j := fun i j hi hj h1 h2 => by
    have := es_inj hg (i := i.toNat) (j := j.toNat) (by omega) (by omega) h1 h2
    omega
  constructor
  · rintro ⟨i, ⟨hi, hd⟩, h⟩
    by_cases ia : i ∈ a
    · have ib : i ∉ b := fun ib => by rw [decide_eq_true ia, decide_eq_true ib] at hd; simp at hd
      have ha := (na y).2 ⟨i, ia, h⟩
      refine ⟨fun e => ?_, .inl ha.symm⟩
      obtain ⟨j, jb, hj⟩ := (nb y).1 (by rw [← e]; exact ha)
      have := same i j hi (mtc_rng hmb j jb) h hj
      subst this
      exact ib jb
    · have ib : i ∈ b := Decidable.byContradiction fun ib => by rw [decide_eq_false ia, decide_eq_false ib] at hd; simp at hd
      have hb := (nb y).2 ⟨i, ib, h⟩
      refine ⟨fun e => ?_, .inr hb.symm⟩
      obtain ⟨j, ja, hj⟩ := (na y).1 (by rw [e]; exact hb)
      have := same i j hi (mtc_rng hma j ja) h hj
      subst this
      exact ia ja
  · rintro ⟨hne, h | h⟩
    · obtain ⟨i, ia, hi⟩ := (na y).1 h.symm
      have ib : i ∉ b := fun ib => hne (by rw [← h]; exact ((nb y).2 ⟨i, ib, hi⟩).symm)
      exact ⟨i, ⟨mtc_rng hma i ia, by rw [decide_eq_true ia, decide_eq_false ib]; rfl⟩, hi⟩
    · obtain ⟨i, ib, hi⟩ := (nb y).1 h.symm
      have ia : i ∉ a := fun ia => hne (by rw [← h]; exact (na y).2 ⟨i, ia, hi⟩)
      exact ⟨i, ⟨mtc_rng hmb i ib, by rw [decide_eq_false ia, decide_eq_true ib]; rfl⟩, hi⟩
/-- the walk goes over the piece that it begins in -/
theorem alt_piece {a b : List Int} (hma : Mtc es a) (hmb : Mtc es b) (hla : 2 * a.length = n) (hlb : 2 * b.length = n) {P : List Int} (hP : P ∈ piecesL (dE es a b) (domL (dE es a b) n n)) {p : Nat} (hp : Per (mateF es a) (mateF es b) (P.getD 0 0) p) : P.length = 2 * p := by
  have hA := mate_ok hg hma hla
  have hB := mate_ok hg hmb hlb
  have hs := piece_first hP
  have dom : ∀ x ∈ P, (0 ≤ x ∧ x < n) ∧ nbB (dE es a b) n x = true := fun x hx => (domL_mem _ _ _ x).1 (piece_sub hP hx)
  have hsN := (dom _ hs).1
  have hne : ∀ x ∈ P, mateF es a x ≠ mateF es b x := fun x hx => by
    obtain ⟨h1, h2⟩ := dom x hx
    obtain ⟨y, hy, hn⟩ := (nbB_iff _ _ _).1 h2
    exact ((diff_near hg hma hmb hla hlb h1).1 hn).1
  have stepP : ∀ x ∈ P, mateF es a x ∈ P ∧ mateF es b x ∈ P := fun x hx => by
    obtain ⟨h1, h2⟩ := dom x hx
    have nA := (diff_near hg hma hmb hla hlb h1).2 ⟨hne x hx, .inl rfl⟩
    have nB := (diff_near hg hma hmb hla hlb h1).2 ⟨hne x hx, .inr rfl⟩
    have inD : ∀ y, nearB (dE es a b) x y = true → y ∈ domL (dE es a b) n n := fun y hy => by
      have hr := dE_rng hg hy
      refine (domL_mem _ _ _ y).2 ⟨hr.2.1, (nbB_iff _ _ _).2 ⟨x, hr.1, by rw [nearB_comm]; exact hy⟩⟩
    exact ⟨piece_clo hP (inD _ nA) nA hx, piece_clo hP (inD _ nB) nB hx⟩
  have walkP : ∀ k, alw (mateF es a) (mateF es b) (P.getD 0 0) k ∈ P := by
    intro k
    induction k with
    | zero => exact hs
    | succ k ih =>
      show trn _ _ k _ ∈ P
      unfold trn
      split
      · exact (stepP _ ih).1
      · exact (stepP _ ih).2
  have hWP : ∀ x ∈ alwL (mateF es a) (mateF es b) (P.getD 0 0) (2 * p), x ∈ P := fun x hx => by
    obtain ⟨k, _, rfl⟩ := List.mem_map.1 hx
    exact walkP k
  have hPW : ∀ x ∈ P, x ∈ alwL (mateF es a) (mateF es b) (P.getD 0 0) (2 * p) := fun x hx => by
    have hr := piece_rch hP hs hx
    have hp1 := hp.pos
    induction hr with
    | refl => exact List.mem_map.2 ⟨0, List.mem_range.2 (by omega), rfl⟩
    | @step y z h1 h2 h3 ih =>
      have hyD := h1.in_ (S := (· ∈ domL (dE es a b) n n)) (piece_sub hP hs)
      have hyP : y ∈ P := by
        obtain ⟨q, hq, rfl⟩ := pieces_mem hP
        have hfD := piece_sub hP hs
        exact (reach_iff _ _ _ hq y).2 (((reach_iff _ _ _ hq _).1 hs).trans' h1)
      have hw := ih hyP
      have hN := (dom y hyP).1
      have := ((diff_near hg hma hmb hla hlb hN).1 h2).2
      have hc := alwL_clo hA hB hsN hp hw
      rcases this with e | e
      · rw [e]; exact hc.1
      · rw [e]; exact hc.2
  have hl : (alwL (mateF es a) (mateF es b) (P.getD 0 0) (2 * p)).length = 2 * p := by simp [alwL]
  have hPn : P.Nodup := by
    obtain ⟨q, hq, rfl⟩ := pieces_mem hP
    exact (reach_srt _ _ _).imp fun h e => by omega
  have h1 := nodup_le_of _ _ hPn hPW
  have h2 := nodup_le_of _ _ (alwL_nodup hA hB hsN hp) hWP
  omega
end
end Go.Proofs.Ytlfongfhbkefmaa.Ai
namespace Go.Proofs.Ytlfongfhbkefmaa.Ai
open Go
set_option linter.unusedVariables false
/-- an edge that meets none of some -/
def frE (es : List (Int × Int)) (ed : List Int) (e : Int) : Prop := ed1 es e ∉ seenL es ed ∧ ed2 es e ∉ seenL es ed
instance (es : List (Int × Int)) (ed : List Int) (e : Int) : Decidable (frE es ed e) := by unfold frE; infer_instance
/-- all matchings that begin with some edges and have more, of the last k edges; in order -/
def mall (es : List (Int × Int)) : Nat → List Int → List (List Int)
  | 0, _ => []
  | k + 1, ed => (if frE es ed ((es.length - (k + 1) : Nat) : Int) then (ed ++ [((es.length - (k + 1) : Nat) : Int)]) :: mall es k (ed ++ [((es.length - (k + 1) : Nat) : Int)]) else []) ++ mall es k ed
/-- a fold that may stop -/
def sfold {σ : Type} (cb : σ → List Int → σ × Bool) : List (List Int) → σ → σ × Bool
  | [], s => (s, true)
  | x :: xs, s => if (cb s x).2 = true then sfold cb xs (cb s x).1 else ((cb s x).1, false)
theorem sfold_append {σ : Type} (cb : σ → List Int → σ × Bool) (xs ys : List (List Int)) (s : σ) : sfold cb (xs ++ ys) s = if (sfold cb xs s).2 = true then sfold cb ys (sfold cb xs s).1 else sfold cb xs s := by
  induction xs generalizing s with
  | nil => simp [sfold]
  | cons x xs ih =>
    by_cases h : (cb s x).2 = true
    · have e1 : sfold cb (x :: xs) s = sfold cb xs (cb s x).1 := by rw [sfold, if_pos h]
      have e2 : sfold cb ((x :: xs) ++ ys) s = sfold cb (xs ++ ys) (cb s x).1 := by rw [List.cons_append, sfold, if_pos h]
      rw [e1, e2, ih]
    · have e1 : sfold cb (x :: xs) s = ((cb s x).1, false) := by rw [sfold, if_neg h]
      have e2 : sfold cb ((x :: xs) ++ ys) s = ((cb s x).1, false) := by rw [List.cons_append, sfold, if_neg h]
      rw [e1, e2]; simp
theorem mall_longer (es : List (Int × Int)) : ∀ (k : Nat) (ed : List Int), ∀ x ∈ mall es k ed, ed.length < x.length
  | 0, ed, x, hx => by simp [mall] at hx
  | k + 1, ed, x, hx => by
    simp only [mall, List.mem_append] at hx
    rcases hx with hx | hx
    · split at hx
      · simp only [List.mem_cons] at hx
        rcases hx with rfl | hx
        · simp
        · have := mall_longer es k _ x hx
          simp at this; omega
      · simp at hx
    · exact mall_longer es k ed x hx
/-- those with j edges -/
def mext (es : List (Int × Int)) (k : Nat) (ed : List Int) (j : Nat) : List (List Int) := (ed :: mall es k ed).filter fun x => decide (x.length = j)
theorem mext_done (es : List (Int × Int)) (k : Nat) (ed : List Int) : mext es k ed ed.length = [ed] := by
  unfold mext
  rw [List.filter_cons, if_pos (by simp)]
  have : (mall es k ed).filter (fun x => decide (x.length = ed.length)) = [] := by
    rw [List.filter_eq_nil_iff]
    intro x hx
    have := mall_longer es k ed x hx
    simp; omega
  rw [this]
/-- the loop of the reference: those that go on with one of the last k edges -/
def mlpE (es : List (Int × Int)) (k : Nat) (ed : List Int) (j : Nat) : List (List Int) := (mall es k ed).filter fun x => decide (x.length = j)
theorem mext_loop (es : List (Int × Int)) (k : Nat) (ed : List Int) (j : Nat) (h : ed.length ≠ j) : mext es k ed j = mlpE es k ed j := by
  unfold mext mlpE
  rw [List.filter_cons, if_neg (by simpa using h)]
theorem mlpE_step (es : List (Int × Int)) (k : Nat) (ed : List Int) (j : Nat) : mlpE es (k + 1) ed j = (if frE es ed ((es.length - (k + 1) : Nat) : Int) then mext es k (ed ++ [((es.length - (k + 1) : Nat) : Int)]) j else []) ++ mlpE es k ed j := by
  unfold mlpE mext
  rw [mall, List.filter_append]
  split <;> rfl
/-- numbers of a range, each once -/
theorem nodupM_le : ∀ (n : Nat) (l : List Int), l.Nodup → (∀ x ∈ l, 0 ≤ x ∧ x < n) → l.length ≤ n
  | 0, l, _, h => by
    cases l with
    | nil => simp
    | cons x l => have := h x (by simp); omega
  | n + 1, l, hd, h => by
    have h1 := nodupM_le n (l.erase (n : Int)) (hd.erase _) (fun x hx => by
      have := (hd.mem_erase_iff).1 hx
      have h2 := h x this.2
      have : x ≠ (n : Int) := this.1
      omega)
    have : l.length ≤ (l.erase (n : Int)).length + 1 := by
      rw [List.length_erase]
      split <;> omega
    omega
/-- nodes of different edges, each once -/
def Mgo (n : Int) (es : List (Int × Int)) (ed : List Int) : Prop := (seenL es ed).Nodup ∧ ∀ z ∈ seenL es ed, 0 ≤ z ∧ z < n
theorem Mgo.nil (n : Int) (es : List (Int × Int)) : Mgo n es [] := ⟨by simp [seenL], fun z hz => by simp [seenL] at hz⟩
theorem Mgo.snoc {n : Int} {es : List (Int × Int)} {ed : List Int} {e : Int} (hg : Grd n es) (h : Mgo n es ed) (he : e.toNat < es.length) (hf : frE es ed e) : Mgo n es (ed ++ [e]) := by
  obtain ⟨a1, a2, a3, _⟩ := hg.2 e.toNat he
  have b1 : ed1 es e < ed2 es e := a2
  have b2 : 0 ≤ ed1 es e := a1
  have b3 : ed2 es e < n := a3
  refine ⟨?_, ?_⟩
  · rw [seenL_snoc, List.nodup_append]
    refine ⟨h.1, ?_, ?_⟩
    · simp; omega
    · intro x hx y hy hxy
      subst hxy
      simp only [List.mem_cons, List.not_mem_nil, or_false] at hy
      rcases hy with rfl | rfl
      · exact hf.1 hx
      · exact hf.2 hx
  · intro z hz
    rw [seenL_snoc, List.mem_append] at hz
    rcases hz with hz | hz
    · exact h.2 z hz
    · simp only [List.mem_cons, List.not_mem_nil, or_false] at hz
      omega
theorem Mgo.all {n : Int} {es : List (Int × Int)} (hg : Grd n es) : ∀ (k : Nat) (ed : List Int), k ≤ es.length → Mgo n es ed → ∀ x ∈ mall es k ed, Mgo n es x
  | 0, ed, _, h, x, hx => by simp [mall] at hx
  | k + 1, ed, hk, h, x, hx => by
    simp only [mall, List.mem_append] at hx
    rcases hx with hx | hx
    · split at hx
      · rename_i hf
        have h2 := h.snoc hg (by rw [Int.toNat_natCast]; omega) hf
        simp only [List.mem_cons] at hx
        rcases hx with rfl | hx
        · exact h2
        · exact Mgo.all hg k _ (by omega) h2 x hx
      · simp at hx
    · exact Mgo.all hg k ed (by omega) h x hx
theorem Mgo.len {n : Int} {es : List (Int × Int)} {ed : List Int} (hn : 0 ≤ n) (h : Mgo n es ed) : 2 * ed.length ≤ n.toNat := by
  have := nodupM_le n.toNat (seenL es ed) h.1 (fun z hz => by have := h.2 z hz; omega)
  rw [seenL_len] at this
  exact this
/-- a graph has at most 28 edges -/
def rnkE (a b : Nat) : Nat := a * (15 - a) / 2 + (b - a - 1)
theorem rnkE_lt : ∀ a b c d : Fin 8, a.1 < b.1 → c.1 < d.1 → (a.1 < c.1 ∨ a.1 = c.1 ∧ b.1 < d.1) → rnkE a.1 b.1 + 1 ≤ rnkE c.1 d.1 := by decide +kernel
theorem rnkE_le : ∀ a b : Fin 8, a.1 < b.1 → rnkE a.1 b.1 ≤ 27 := by decide +kernel
theorem grd_nat {n : Int} {es : List (Int × Int)} (hg : Grd n es) {i : Nat} (hi : i < es.length) : ∃ a b : Fin 8, a.1 < b.1 ∧ es.getD i (0, 0) = ((a.1 : Int), (b.1 : Int)) := by
  obtain ⟨h1, h2, h3, _⟩ := hg.2 i hi
  have := hg.1
  refine ⟨⟨(es.getD i (0, 0)).1.toNat, by omega⟩, ⟨(es.getD i (0, 0)).2.toNat, by omega⟩, by show (es.getD i (0, 0)).1.toNat < (es.getD i (0, 0)).2.toNat; omega, ?_⟩
  apply Prod.ext
  · show _ = (((es.getD i (0, 0)).1.toNat : Nat) : Int); omega
  · show _ = (((es.getD i (0, 0)).2.toNat : Nat) : Int); omega
theorem grd_len {n : Int} {es : List (Int × Int)} (hg : Grd n es) : es.length ≤ 28 := by
  have key : ∀ i, i < es.length → ∃ a b : Fin 8, a.1 < b.1 ∧ es.getD i (0, 0) = ((a.1 : Int), (b.1 : Int)) ∧ i ≤ rnkE a.1 b.1 := by
    intro i
    induction i with
    | zero => intro hi; obtain ⟨a, b, h1, h2⟩ := grd_nat hg hi; exact ⟨a, b, h1, h2, Nat.zero_le _⟩
    | succ i ih =>
      intro hi
      obtain ⟨a, b, h1, h2, h3⟩ := ih (by omega)
      obtain ⟨c, d, k1, k2⟩ := grd_nat hg hi
      have hlt := (hg.2 (i + 1) hi).2.2.2 (by omega)
      rw [Nat.add_sub_cancel, h2, k2] at hlt
      unfold pairLt at hlt
      simp only at hlt
      have := rnkE_lt a b c d h1 k1 (by omega)
      exact ⟨c, d, k1, k2, by omega⟩
  apply Decidable.byContradiction
  intro hc
  obtain ⟨a, b, h1, _, h3⟩ := key 28 (by omega)
  have := rnkE_le a b h1
  omega
end Go.Proofs.Ytlfongfhbkefmaa.Ai
namespace Go.Proofs.Ytlfongfhbkefmaa.Ai
open Go
def ords210 : List (Nat × List (Nat × Bool)) := [(5, [(0, false), (1, false), (2, false), (3, false), (4, false), (5, false), (6, false), (7, false), (8, false), (9, false), (10, false), (11, false), (12, false), (13, false), (14, false), (15, false)])]
def cd210 : Cd := (.seq (.reg [⟨⟨some 8, Op.assign (Operand.const (Value.bool false)), none⟩, []⟩]) (.seq (.seq (.reg [⟨⟨some 10, Op.load 69 (Operand.tmp 2), none⟩, []⟩,
  ⟨⟨some 11, Op.load 38 (Operand.tmp 3), none⟩, []⟩,
  ⟨⟨some 12, Op.call { callee := (Callee.value (Operand.tmp 10)), args := #[(Operand.tmp 11)], argTypes := #[38] }, none⟩, []⟩,
  ⟨⟨some 13, Op.unOp UnOp.not 4 (Operand.tmp 12), none⟩, []⟩]) (.cond (Operand.tmp 13) (.seq (.reg [⟨⟨some 8, Op.assign (Operand.const (Value.bool false)), none⟩, []⟩]) .ret) .skip)) (.seq (.block 0 (.loop (.seq (.seq (.reg [⟨⟨some 14, Op.move (Operand.tmp 0), none⟩, []⟩,
  ⟨⟨some 15, Op.fieldAddr 31 (Operand.tmp 4) 1, none⟩, []⟩,
  ⟨⟨some 16, Op.load 22 (Operand.tmp 15), none⟩, []⟩,
  ⟨⟨some 17, Op.call { callee := (Callee.builtin Builtin.len), args := #[(Operand.tmp 16)], argTypes := #[22] }, none⟩, []⟩,
  ⟨⟨some 18, Op.binOp BinOp.lss 3 (Operand.tmp 14) (Operand.tmp 17) 3, none⟩, []⟩]) (.cond (Operand.tmp 18) .skip (.exit 0))) (.seq (.block 1 (.seq (.reg [⟨⟨some 21, Op.fieldAddr 31 (Operand.tmp 4) 1, none⟩, []⟩,
  ⟨⟨some 22, Op.load 22 (Operand.tmp 21), none⟩, []⟩,
  ⟨⟨some 23, Op.move (Operand.tmp 0), none⟩, []⟩,
  ⟨⟨some 24, Op.indexAddr 22 (Operand.tmp 22) (Operand.tmp 23), none⟩, []⟩,
  ⟨⟨some 25, Op.indexAddr 81 (Operand.tmp 24) (Operand.const (Value.int IntKind.i64 0)), none⟩, []⟩,
  ⟨⟨some 26, Op.load 3 (Operand.tmp 25), none⟩, []⟩,
  ⟨⟨some 27, Op.binOp BinOp.shl 98 (Operand.const (Value.int IntKind.u64 1)) (Operand.tmp 26) 3, none⟩, []⟩,
  ⟨⟨some 28, Op.fieldAddr 31 (Operand.tmp 4) 1, none⟩, []⟩,
  ⟨⟨some 29, Op.load 22 (Operand.tmp 28), none⟩, []⟩,
  ⟨⟨some 30, Op.move (Operand.tmp 0), none⟩, []⟩,
  ⟨⟨some 31, Op.indexAddr 22 (Operand.tmp 29) (Operand.tmp 30), none⟩, []⟩,
  ⟨⟨some 32, Op.indexAddr 81 (Operand.tmp 31) (Operand.const (Value.int IntKind.i64 1)), none⟩, []⟩,
  ⟨⟨some 33, Op.load 3 (Operand.tmp 32), none⟩, []⟩,
  ⟨⟨some 34, Op.binOp BinOp.shl 98 (Operand.const (Value.int IntKind.u64 1)) (Operand.tmp 33) 3, none⟩, []⟩,
  ⟨⟨some 35, Op.binOp BinOp.or 98 (Operand.tmp 27) (Operand.tmp 34) 98, none⟩, []⟩,
  ⟨⟨some 9, Op.assign (Operand.tmp 35), none⟩, []⟩]) (.seq (.seq (.reg [⟨⟨some 36, Op.move (Operand.tmp 1), none⟩, []⟩,
  ⟨⟨some 37, Op.move (Operand.tmp 9), none⟩, []⟩,
  ⟨⟨some 38, Op.binOp BinOp.and 98 (Operand.tmp 36) (Operand.tmp 37) 98, none⟩, []⟩,
  ⟨⟨some 39, Op.binOp BinOp.neq 98 (Operand.tmp 38) (Operand.const (Value.int IntKind.u64 0)) 98, none⟩, []⟩]) (.cond (Operand.tmp 39) (.exit 1) .skip)) (.seq (.reg [⟨⟨some 40, Op.load 38 (Operand.tmp 3), none⟩, []⟩,
  ⟨⟨some 41, Op.move (Operand.tmp 0), none⟩, []⟩,
  ⟨⟨some 42, Op.buildSlice 38 1 #[(0, (Operand.tmp 41))], none⟩, []⟩,
  ⟨⟨some 43, Op.call { callee := (Callee.builtin Builtin.append), args := #[(Operand.tmp 40), (Operand.tmp 42)], argTypes := #[38, 38] }, none⟩, []⟩,
  ⟨⟨none, Op.store 38 (Operand.tmp 3) (Operand.tmp 43), none⟩, []⟩]) (.seq (.seq (.reg [⟨⟨some 44, Op.load 172 (Operand.tmp 5), none⟩, []⟩,
  ⟨⟨some 45, Op.move (Operand.tmp 0), none⟩, []⟩,
  ⟨⟨some 46, Op.binOp BinOp.add 3 (Operand.tmp 45) (Operand.const (Value.int IntKind.i64 1)) 3, none⟩, []⟩,
  ⟨⟨some 47, Op.move (Operand.tmp 1), none⟩, []⟩,
  ⟨⟨some 48, Op.move (Operand.tmp 9), none⟩, []⟩,
  ⟨⟨some 49, Op.binOp BinOp.or 98 (Operand.tmp 47) (Operand.tmp 48) 98, none⟩, []⟩,
  ⟨⟨some 50, Op.call { callee := (Callee.value (Operand.tmp 44)), args := #[(Operand.tmp 46), (Operand.tmp 49)], argTypes := #[3, 98] }, none⟩, []⟩,
  ⟨⟨some 51, Op.unOp UnOp.not 4 (Operand.tmp 50), none⟩, []⟩]) (.cond (Operand.tmp 51) (.seq (.reg [⟨⟨some 8, Op.assign (Operand.const (Value.bool false)), none⟩, []⟩]) .ret) .skip)) (.reg [⟨⟨some 52, Op.load 38 (Operand.tmp 3), none⟩, []⟩,
  ⟨⟨some 53, Op.load 38 (Operand.tmp 3), none⟩, []⟩,
  ⟨⟨some 54, Op.call { callee := (Callee.builtin Builtin.len), args := #[(Operand.tmp 53)], argTypes := #[38] }, none⟩, []⟩,
  ⟨⟨some 55, Op.binOp BinOp.sub 3 (Operand.tmp 54) (Operand.const (Value.int IntKind.i64 1)) 3, none⟩, []⟩,
  ⟨⟨some 56, Op.slice 38 (Operand.tmp 52) none (some (Operand.tmp 55)) none, none⟩, []⟩,
  ⟨⟨none, Op.store 38 (Operand.tmp 3) (Operand.tmp 56), none⟩, []⟩])))))) (.reg [⟨⟨some 19, Op.move (Operand.tmp 0), none⟩, []⟩,
  ⟨⟨some 20, Op.binOp BinOp.add 3 (Operand.tmp 19) (Operand.const (Value.int IntKind.i64 1)) 3, none⟩, []⟩,
  ⟨⟨some 0, Op.assign (Operand.tmp 20), none⟩, []⟩]))))) (.seq (.reg [⟨⟨some 8, Op.assign (Operand.const (Value.bool true)), none⟩, []⟩]) .ret))))
theorem sl210 : slim Try.f210.ntmps ords210 (Try.f210.body.getD .skip) = some cd210 := by kernel_rfl
theorem in210 {args : List Value} {H : AH} {R : Value → AH → Prop} (hl : args.length = 6) (h : ∀ (Q : Exit → Sl → AH → Prop), (∀ e s H, endA Try.prog [ResultVar.tmp 8] R e s H → Q e s H) → wpC Try.prog cd210 Q (enterA args) H) : ACalls Try.prog 210 args H R :=
  ACalls.intro (by kernel_rfl) Try.func210 rfl (by kernel_rfl) sl210 hl (of_decide_eq_true (by kernel_rfl)) (by kernel_rfl) h
def ords154 : List (Nat × List (Nat × Bool)) := []
def cd154 : Cd := (.seq (.reg [⟨⟨some 2, Op.box 31 (Operand.tmp 0), none⟩, []⟩,
  ⟨⟨some 3, Op.box 69 (Operand.tmp 1), none⟩, []⟩]) (.seq (.reg [⟨⟨some 6, Op.buildSlice 38 0 #[], none⟩, []⟩,
  ⟨⟨some 4, Op.alloc 38, none⟩, []⟩,
  ⟨⟨none, Op.store 38 (Operand.tmp 4) (Operand.tmp 6), none⟩, []⟩]) (.seq (.reg [⟨⟨some 5, Op.alloc 172, none⟩, []⟩]) (.seq (.reg [⟨⟨some 7, Op.makeFunc (Fn.func 210) #[] #[(Operand.tmp 3), (Operand.tmp 4), (Operand.tmp 2), (Operand.tmp 5)], none⟩, []⟩,
  ⟨⟨none, Op.store 172 (Operand.tmp 5) (Operand.tmp 7), none⟩, []⟩]) (.reg [⟨⟨some 8, Op.load 172 (Operand.tmp 5), none⟩, []⟩,
  ⟨⟨some 9, Op.call { callee := (Callee.value (Operand.tmp 8)), args := #[(Operand.const (Value.int IntKind.i64 0)), (Operand.const (Value.int IntKind.u64 0))], argTypes := #[3, 98] }, none⟩, []⟩])))))
theorem sl154 : slim Try.f154.ntmps ords154 (Try.f154.body.getD .skip) = some cd154 := by kernel_rfl
theorem in154 {args : List Value} {H : AH} {R : Value → AH → Prop} (hl : args.length = 2) (h : ∀ (Q : Exit → Sl → AH → Prop), (∀ e s H, endA Try.prog [] R e s H → Q e s H) → wpC Try.prog cd154 Q (enterA args) H) : ACalls Try.prog 154 args H R :=
  ACalls.intro (by kernel_rfl) Try.func154 rfl (by kernel_rfl) sl154 hl (of_decide_eq_true (by kernel_rfl)) (by kernel_rfl) h
end Go.Proofs.Ytlfongfhbkefmaa.Ai
namespace Go.Proofs.Ytlfongfhbkefmaa.Ai
open Go Go.RowKit
set_option linter.unusedVariables false
set_option linter.unusedSimpArgs false
/-- a function that is called for each, with what it keeps in memory -/
structure CbOk {σ : Type} (HB : AH) (fW : FuncId) (caps : List Value) (I IF : σ → (Nat → Prop) → AH → Prop) (cb : σ → List Int → σ × Bool) : Prop where
  fin : ∀ {s F H}, I s F H → IF s F H
  live : ∀ {s F H o}, I s F H → F o → o < H.length ∧ HB.length ≤ o
  keep : ∀ {s F H H'}, I s F H → (∀ o y, F o → H[o]? = some y → H'[o]? = some y) → I s F H'
  call : ∀ {s F H w xs}, I s F H → Row 3 H w xs → (w = .slice none 0 0 ∨ ¬ F (rowO w)) → xs.length ≤ 1048576 → HB <+: H →
    ACalls Try.prog fW (w :: caps) H fun r H' => r = .bool (cb s xs).2 ∧ (∃ F', IF (cb s xs).1 F' H' ∧ ((cb s xs).2 = true → I (cb s xs).1 F' H') ∧ ∀ o, F' o → F o ∨ H.length ≤ o) ∧ ∀ o y, ¬ F o → H[o]? = some y → H'[o]? = some y
/-- the variables of the walk: the function, the edges so far, the graph, the walk itself -/
structure WSt (HB : AH) (vW v : Value) (n : Int) (pw pe pg pf : Nat) (F : Nat → Prop) (H : AH) (ed : List Int) : Prop where
  w : H[pw]? = some (.cells [vW] 69 false)
  g : H[pg]? = some (.cells [.int .i64 n, v] 31 false)
  f : H[pf]? = some (.cells [.func (.func 210) #[] (List.toArray [.pointer (some ⟨pw, 0, none⟩), .pointer (some ⟨pe, 0, none⟩), .pointer (some ⟨pg, 0, none⟩), .pointer (some ⟨pf, 0, none⟩)])] 172 false)
  e : ∃ oe zs, H[pe]? = some (.cells [.slice (some ⟨oe, 0, none⟩) ed.length ed.length] 38 false) ∧ H[oe]? = some (.cells (ints zs) 3 false) ∧ zs.take ed.length = ed ∧ ¬ F oe ∧ oe ≠ pw ∧ oe ≠ pg ∧ oe ≠ pf ∧ oe ≠ pe ∧ HB.length ≤ oe
  ne : pe ≠ pw ∧ pe ≠ pg ∧ pe ≠ pf
  out : ¬ F pw ∧ ¬ F pg ∧ ¬ F pf ∧ ¬ F pe
  lo : HB.length ≤ pw ∧ HB.length ≤ pe ∧ HB.length ≤ pg ∧ HB.length ≤ pf
  pre : HB <+: H
section
variable {HB : AH} {vW v : Value} {n : Int} {pw pe pg pf : Nat} {F F' : Nat → Prop} {H H' : AH} {ed : List Int}
/-- a call of the function leaves the variables -/
theorem WSt.cb (h : WSt HB vW v n pw pe pg pf F H ed) (hlive : ∀ o, F o → HB.length ≤ o) (hF : ∀ o, F' o → F o ∨ H.length ≤ o) (hk : ∀ o y, ¬ F o → H[o]? = some y → H'[o]? = some y) : WSt HB vW v n pw pe pg pf F' H' ed := by
  obtain ⟨oe, zs, e1, e2, e3, e4, e5⟩ := h.e
  have no : ∀ {o x}, ¬ F o → H[o]? = some x → ¬ F' o := fun ho hx hf => by
    rcases hF _ hf with g | g
    · exact ho g
    · have := at_lt hx; omega
  refine ⟨hk _ _ h.out.1 h.w, hk _ _ h.out.2.1 h.g, hk _ _ h.out.2.2.1 h.f, ⟨oe, zs, hk _ _ h.out.2.2.2 e1, hk _ _ e4 e2, e3, no e4 e2, e5⟩, h.ne, ⟨no h.out.1 h.w, no h.out.2.1 h.g, no h.out.2.2.1 h.f, no h.out.2.2.2 e1⟩, h.lo, ?_⟩
  exact prefix_of fun o x hx => hk o x (fun hf => by have := hlive o hf; have := at_lt hx; omega) (pre_at h.pre hx)
/-- one edge more -/
theorem WSt.push (h : WSt HB vW v n pw pe pg pf F H ed) (hlive : ∀ o, F o → o < H.length) (hb : ed.length ≤ 1048576) (x : Int) :
    ∃ w H2 H3, cellA H pe 0 = some (.slice (some w) ed.length ed.length) ∧ appendA Try.prog 38 38 (.slice (some w) ed.length ed.length) (.slice (some ⟨H.length, 0, none⟩) 1 1) (H ++ [.cells [.int .i64 x] 3 false]) = some (.slice (some ⟨H.length + 1, 0, none⟩) (ed.length + 1) (ed.length + 1), H2) ∧
      storeA Try.prog 38 (.pointer (some ⟨pe, 0, none⟩)) (.slice (some ⟨H.length + 1, 0, none⟩) (ed.length + 1) (ed.length + 1)) H2 = some H3 ∧ WSt HB vW v n pw pe pg pf F H3 (ed ++ [x]) ∧ (∀ o y, F o → H[o]? = some y → H3[o]? = some y) ∧ H.length ≤ H3.length := by
  obtain ⟨oe, zs, e1, e2, e3, e4, e5, e6, e7, e8, e9⟩ := h.e
  have hzl : ed.length ≤ zs.length := by
    have := congrArg List.length e3
    rw [List.length_take] at this; omega
  have k1 := app_q (P := Try.prog) (t := 38) (k := 0) (n := ed.length) (c := ed.length) (x := x) Try.underlying38 cs3 (by rw [by3]; decide) zk3 e2 (by omega) (by omega)
  rw [List.drop_zero, e3] at k1
  have at_ : ∀ {o y}, o ≠ oe → H[o]? = some y → (H.set oe .dead ++ [AObj.cells [.int .i64 x] 3 false, .cells (ints (ed ++ [x])) 3 false])[o]? = some y := by
    intro o y ho hy
    rw [List.getElem?_append_left (by simpa using at_lt hy), List.getElem?_set_ne (fun e => ho e.symm)]
    exact hy
  have a1 := at_ (fun e => e8 e.symm) e1
  have hst := st_at (P := Try.prog) (t := 38) (i := 0) (y := .slice (some ⟨H.length + 1, 0, none⟩) (ed.length + 1) (ed.length + 1)) cs38 a1 (by show 0 < 1; decide) rfl rfl
  have l1 := at_lt e1
  have l2 := at_lt e2
  have aw : ∀ {o y}, o ≠ oe → o ≠ pe → H[o]? = some y → ((H.set oe .dead ++ [AObj.cells [.int .i64 x] 3 false, .cells (ints (ed ++ [x])) 3 false]).set pe (.cells ([Value.slice (some ⟨oe, 0, none⟩) ed.length ed.length].set 0 (.slice (some ⟨H.length + 1, 0, none⟩) (ed.length + 1) (ed.length + 1))) 38 false))[o]? = some y := by
    intro o y ho1 ho2 hy
    rw [List.getElem?_set_ne (fun e => ho2 e.symm)]
    exact at_ ho1 hy
  have lw := at_lt h.w
  have lg := at_lt h.g
  have lf := at_lt h.f
  have lo := h.lo
  refine ⟨_, _, _, cell_of e1 0, k1, hst, ⟨aw (fun e => e5 e.symm) (fun e => h.ne.1 e.symm) h.w, aw (fun e => e6 e.symm) (fun e => h.ne.2.1 e.symm) h.g, aw (fun e => e7 e.symm) (fun e => h.ne.2.2 e.symm) h.f, ⟨H.length + 1, ed ++ [x], ?_, ?_, ?_, ?_, by omega, by omega, by omega, by omega, by have := h.pre.length_le; omega⟩, h.ne, h.out, h.lo, ?_⟩, ?_, by simp⟩
  · rw [List.getElem?_set_self (by simp; omega)]
    simp
  · rw [List.getElem?_set_ne (by omega), List.getElem?_append_right (by simp)]
    simp
  · rw [List.take_of_length_le (Nat.le_refl _)]
  · intro hf; have := hlive _ hf; omega
  · exact prefix_of fun o y hy => aw (by have := at_lt hy; omega) (by have := at_lt hy; omega) (pre_at h.pre hy)
  · intro o y hf hy
    exact aw (fun e => e4 (e ▸ hf)) (fun e => h.out.2.2.2 (e ▸ hf)) hy
/-- the last edge away -/
theorem WSt.pop {x : Int} (h : WSt HB vW v n pw pe pg pf F H (ed ++ [x])) :
    ∃ w c, cellA H pe 0 = some (.slice (some w) (ed.length + 1) c) ∧ sliceA Try.prog 38 (.slice (some w) (ed.length + 1) c) none (some (.int .i64 (ed.length : Int))) none H = some (.slice (some w) ed.length ed.length) ∧
      ∃ H3, storeA Try.prog 38 (.pointer (some ⟨pe, 0, none⟩)) (.slice (some w) ed.length ed.length) H = some H3 ∧ WSt HB vW v n pw pe pg pf F H3 ed ∧ (∀ o y, F o → H[o]? = some y → H3[o]? = some y) ∧ H3.length = H.length := by
  obtain ⟨oe, zs, e1, e2, e3, e4, e5, e6, e7, e8, e9⟩ := h.e
  have hl : (ed ++ [x]).length = ed.length + 1 := by simp
  rw [hl] at e1 e3
  have hz : zs.take ed.length = ed := by
    have := congrArg (List.take ed.length) e3
    rw [List.take_take, Nat.min_eq_left (by omega)] at this
    simpa using this
  have hsl := sl_own (P := Try.prog) (t := 38) (k := 0) (n := ed.length + 1) (c := ed.length + 1) Try.underlying38 cs3 e2 lo_none (bound_some (k := .i64) (i := (ed.length : Int)) (by omega) (ed.length + 1)) (Nat.zero_le _) (by omega)
  simp only [Int.toNat_natCast, Nat.add_zero, Nat.sub_zero] at hsl
  have hst := st_at (P := Try.prog) (t := 38) (i := 0) (y := .slice (some ⟨oe, 0, none⟩) ed.length ed.length) cs38 e1 (by show 0 < 1; decide) rfl rfl
  have aw : ∀ {o y}, o ≠ pe → H[o]? = some y → (H.set pe (.cells ([Value.slice (some ⟨oe, 0, none⟩) (ed.length + 1) (ed.length + 1)].set 0 (.slice (some ⟨oe, 0, none⟩) ed.length ed.length)) 38 false))[o]? = some y := by
    intro o y ho hy
    rw [List.getElem?_set_ne (fun e => ho e.symm)]; exact hy
  have lo := h.lo
  refine ⟨_, _, cell_of e1 0, hsl, _, hst, ⟨aw (fun e => h.ne.1 e.symm) h.w, aw (fun e => h.ne.2.1 e.symm) h.g, aw (fun e => h.ne.2.2 e.symm) h.f, ⟨oe, zs, ?_, aw e8 e2, hz, e4, e5, e6, e7, e8, e9⟩, h.ne, h.out, h.lo, ?_⟩, fun o y hf hy => aw (fun e => h.out.2.2.2 (e ▸ hf)) hy, by simp⟩
  · rw [List.getElem?_set_self (at_lt e1)]; rfl
  · exact prefix_of fun o y hy => aw (by have := at_lt hy; omega) (pre_at h.pre hy)
end
theorem box_func (H : AH) (f : Fn) (fs caps : Array Value) : boxA Try.prog 69 (.func f fs caps) H = some (.pointer (some ⟨H.length, 0, none⟩), H ++ [.cells [.func f fs caps] 69 false]) := by kernel_rfl
theorem alloc_sl (H : AH) : allocA Try.prog 38 H = some (.pointer (some ⟨H.length, 0, none⟩), H ++ [.cells [.slice none 0 0] 38 false]) := by kernel_rfl
theorem alloc_fn (H : AH) : allocA Try.prog 172 H = some (.pointer (some ⟨H.length, 0, none⟩), H ++ [.cells [.nilFunc] 172 false]) := by kernel_rfl
theorem csF : Try.prog.cellsOf 172 = 1 := by kernel_rfl
theorem agF : isAggA Try.prog 172 = some false := by kernel_rfl
theorem agW : isAggA Try.prog 69 = some false := by kernel_rfl
theorem mkf_4 (f : Fn) (p q r t : Option Addr) : makeFuncA f [] [.pointer p, .pointer q, .pointer r, .pointer t] = some (.func f #[] (List.toArray [.pointer p, .pointer q, .pointer r, .pointer t])) := rfl
theorem frE_or {es : List (Int × Int)} {ed : List Int} {e : Int} {x y : Nat} (ex : ed1 es e = x) (ey : ed2 es e = y) : frE es ed e ↔ ¬ ((x : Int) ∈ seenL es ed ∨ (y : Int) ∈ seenL es ed) := by
  unfold frE
  rw [ex, ey, not_or]
set_option maxRecDepth 20000 in
set_option maxHeartbeats 4000000 in
theorem from_c {σ : Type} {HB : AH} {fW : FuncId} {caps : List Value} {I IF : σ → (Nat → Prop) → AH → Prop} {cb : σ → List Int → σ × Bool} (hc : CbOk HB fW caps I IF cb) (v : Value) (n : Int) (es : List (Int × Int)) (hr : RowP 81 HB v es) (hlen : es.length ≤ 1048576) (hg : Grd n es) (pw pe pg pf : Nat) :
    ∀ (k : Nat) (ed : List Int) (s : σ) (F : Nat → Prop) (H : AH) (b : Nat), k ≤ es.length → ed.length + k ≤ es.length → I s F H → WSt HB (.func (.func fW) #[] (List.toArray caps)) v n pw pe pg pf F H ed → Bits b 8 (seenL es ed) →
      ACalls Try.prog 210 [.int .i64 ((es.length - k : Nat) : Int), .int .u64 ((b : Nat) : Int), .pointer (some ⟨pw, 0, none⟩), .pointer (some ⟨pe, 0, none⟩), .pointer (some ⟨pg, 0, none⟩), .pointer (some ⟨pf, 0, none⟩)] H fun r H' =>
        r = .bool (sfold cb (ed :: mall es k ed) s).2 ∧ HB <+: H' ∧ ∃ F', IF (sfold cb (ed :: mall es k ed) s).1 F' H' ∧ ((sfold cb (ed :: mall es k ed) s).2 = true → I (sfold cb (ed :: mall es k ed) s).1 F' H' ∧ WSt HB (.func (.func fW) #[] (List.toArray caps)) v n pw pe pg pf F' H' ed) := by
  intro k
  induction k using Nat.strongRecOn with
  | ind k ih =>
  intro ed s F H b hk hek hI hW hb
  refine in210 rfl ?_
  intro Q hQ
  obtain ⟨oe, zs, e1, e2, e3, e4, e5⟩ := hW.e
  have hrow : Row 3 H (.slice (some ⟨oe, 0, none⟩) ed.length ed.length) ed := by
    have hzl : ed.length ≤ zs.length := by
      have := congrArg List.length e3
      rw [List.length_take] at this; omega
    refine .inr ⟨oe, 0, ints zs, false, rfl, e2, by rw [ints_len]; omega, ?_⟩
    rw [List.drop_zero]
    have : (ints zs).take ed.length = ints (zs.take ed.length) := by simp [ints, List.map_take]
    rw [this, e3]
  have hlv : ∀ o, F o → HB.length ≤ o := fun o ho => (hc.live hI ho).2
  simp (maxSteps := 1000000) (disch := omega) only [cd210, ld_one agW, cell_of hW.w, cell_of e1, S, S1, S2, S3, S4, S5, ST, eq_self, reduceIte, reduceCtorEq, Nat.reduceEqDiff, Nat.reduceAdd]
  refine CallH.by (hc.call hI hrow (.inr e4) (by omega) hW.pre) ?_
  rintro _ H1 ⟨rfl, ⟨F1, hI1, hIt, hF1⟩, hk1⟩
  have hW1 := hW.cb hlv hF1 hk1
  have hfold : sfold cb (ed :: mall es k ed) s = if (cb s ed).2 = true then sfold cb (mall es k ed) (cb s ed).1 else ((cb s ed).1, false) := rfl
  simp (maxSteps := 1000000) (disch := omega) only [S, S1, S2, S3, S4, S5, ST, eq_self, reduceIte, reduceCtorEq, Nat.reduceEqDiff, Nat.reduceAdd]
  refine brH.intro (fun g0 => ?_) (fun g0 => ?_)
  rotate_left
  · simp (maxSteps := 1000000) (disch := omega) only [g0, S, S1, S2, S3, S4, S5, ST, eq_self, reduceIte, reduceCtorEq, Nat.reduceEqDiff, Nat.reduceAdd]
    refine hQ _ _ _ ?_
    simp (maxSteps := 1000000) (disch := omega) only [S, S1, S2, S3, S4, S5, ST, eq_self, reduceIte, reduceCtorEq, Nat.reduceEqDiff, Nat.reduceAdd]
    rw [hfold, if_neg (by rw [g0]; decide)]
    exact ⟨rfl, hW1.pre, F1, hI1, fun h => by cases h⟩
  replace hI1 := hIt g0
  rw [if_pos g0] at hfold
  rw [hfold] at hQ
  generalize hs1 : (cb s ed).1 = s1 at *
  simp (maxSteps := 1000000) (disch := omega) only [g0, S, S1, S2, S3, S4, S5, ST, eq_self, reduceIte, reduceCtorEq, Nat.reduceEqDiff, Nat.reduceAdd]
  refine LoopH.by (fun m st H' => ∃ s' F', m ≤ k ∧ st 0 = .int .i64 ((es.length - m : Nat) : Int) ∧ st 1 = .int .u64 ((b : Nat) : Int) ∧ st 2 = .pointer (some ⟨pw, 0, none⟩) ∧ st 3 = .pointer (some ⟨pe, 0, none⟩) ∧ st 4 = .pointer (some ⟨pg, 0, none⟩) ∧ st 5 = .pointer (some ⟨pf, 0, none⟩) ∧ I s' F' H' ∧ WSt HB (.func (.func fW) #[] (List.toArray caps)) v n pw pe pg pf F' H' ed ∧ sfold cb (mall es k ed) s1 = sfold cb (mall es m ed) s') k ?_ ?_
  · exact ⟨s1, F1, Nat.le_refl _, rfl, rfl, rfl, rfl, rfl, rfl, hI1, hW1, rfl⟩
  rintro m st H' ⟨s', F', hmk, h0, h1, h2, h3, h4, h5, hI', hW', hS⟩
  have hrH := hr.pre hW'.pre
  simp (maxSteps := 1000000) (disch := omega) only [h0, h1, h2, h3, h4, h5, cell_of hW'.g, hrH.len Try.underlying22, S, S1, S2, S3, S4, S5, ST, eq_self, reduceIte, reduceCtorEq, Nat.reduceEqDiff, Nat.reduceAdd]
  refine brD.intro (fun g => ?_) (fun g => ?_)
  rotate_left
  · have hm0 : m = 0 := by omega
    subst hm0
    simp (maxSteps := 1000000) (disch := omega) only [S, S1, S2, S3, S4, S5, ST, eq_self, reduceIte, reduceCtorEq, Nat.reduceEqDiff, Nat.reduceAdd]
    refine hQ _ _ _ ?_
    simp (maxSteps := 1000000) (disch := omega) only [S, S1, S2, S3, S4, S5, ST, eq_self, reduceIte, reduceCtorEq, Nat.reduceEqDiff, Nat.reduceAdd]
    rw [hS]
    exact ⟨rfl, hW'.pre, F', hc.fin hI', fun _ => ⟨hI', hW'⟩⟩
  obtain ⟨i, rfl⟩ : ∃ i, m = i + 1 := ⟨m - 1, by omega⟩
  have hei : es.length - (i + 1) < es.length := by omega
  have he1 : ((es.length - (i + 1) : Nat) : Int) + 1 = ((es.length - i : Nat) : Int) := by omega
  obtain ⟨x, y, ex, ey, hxy, hyn, hy8⟩ := grd_ed hg hei
  have hb64 : b < 2 ^ 64 := Nat.lt_of_lt_of_le hb.1 (by decide)
  have hx64 : 2 ^ x < 2 ^ 64 := Nat.pow_lt_pow_right (by decide) (by omega)
  have hy64 : 2 ^ y < 2 ^ 64 := Nat.pow_lt_pow_right (by decide) (by omega)
  have k1 := bin_shl Try.prog 98 x (by omega)
  have k2 := bin_shl Try.prog 98 y (by omega)
  have k3 := bin_or Try.prog 98 (2 ^ x) (2 ^ y) hx64 hy64
  have k4 := bin_and Try.prog 98 b (2 ^ x ||| 2 ^ y) hb64 (Nat.or_lt_two_pow hx64 hy64)
  have k5 := bin_or Try.prog 98 b (2 ^ x ||| 2 ^ y) hb64 (Nat.or_lt_two_pow hx64 hy64)
  have l0 := hrH.cell0 hei
  have l1 := hrH.cell1 hei
  rw [ex] at l0
  rw [ey] at l1
  have hno := hb.no (x := x) (y := y) (by omega) hy8
  have hor := hb.or2 (x := x) (y := y) (by omega) hy8
  generalize he : es.length - (i + 1) = e at *
  have ex' : ed1 es (e : Int) = x := by unfold ed1; rw [Int.toNat_natCast]; exact ex
  have ey' : ed2 es (e : Int) = y := by unfold ed2; rw [Int.toNat_natCast]; exact ey
  have hfr := frE_or (ed := ed) ex' ey'
  have hst := seenL_snoc es ed (e : Int)
  rw [ex', ey'] at hst
  rw [← hst] at hor
  have hmall : mall es (i + 1) ed = (if frE es ed (e : Int) then (ed ++ [(e : Int)]) :: mall es i (ed ++ [(e : Int)]) else []) ++ mall es i ed := by rw [mall, he]
  simp (maxSteps := 1000000) (disch := omega) only [h0, h1, h2, h3, h4, h5, cell_of hW'.g, hrH.ix Try.underlying22 cs81, Int.toNat_natCast, l0, l1, k1, k2, k3, k4, wrap64, S, S1, S2, S3, S4, S5, ST, eq_self, reduceIte, reduceCtorEq, Nat.reduceEqDiff, Nat.reduceAdd]
  refine brD.intro (fun q => ?_) (fun q => ?_) <;> simp (maxSteps := 1000000) (disch := omega) only [h0, h1, h2, h3, h4, h5, he1, wrap64, S, S1, S2, S3, S4, S5, ST, eq_self, reduceIte, reduceCtorEq, Nat.reduceEqDiff, Nat.reduceAdd]
  · have q' : b &&& (2 ^ x ||| 2 ^ y) ≠ 0 := by intro h; rw [h] at q; exact q rfl
    rw [if_neg (fun h => (hfr.1 h) (hno.1 q')), List.nil_append] at hmall
    rw [hmall] at hS
    refine ⟨i, by omega, s', F', by omega, ?_⟩
    (repeat' first | exact hI' | exact hW' | exact hS | apply And.intro) <;> first | (simp only [Value.int.injEq, true_and]; omega) | omega | rfl | assumption | (simp; done) | (simp; omega)
  · have q' : ¬ (b &&& (2 ^ x ||| 2 ^ y) ≠ 0) := by intro h; apply h; have := Decidable.not_not.1 q; exact_mod_cast this
    have hfr' : frE es ed (e : Int) := hfr.2 (fun h => q' (hno.2 h))
    rw [if_pos hfr'] at hmall
    rw [hmall, sfold_append] at hS
    obtain ⟨w, H2, H3, p1, p2, p3, hW3, hk3, hl3⟩ := hW'.push (fun o ho => (hc.live hI' ho).1) (by omega) (e : Int)
    have hI3 := hc.keep hI' hk3
    simp (maxSteps := 1000000) (disch := omega) only [h0, h1, h2, h3, h4, h5, p1, p2, p3, ld_one agF, cell_of hW3.f, k5, he1, wrap64, S, S1, S2, S3, S4, S5, ST, eq_self, reduceIte, reduceCtorEq, Nat.reduceEqDiff, Nat.reduceAdd]
    refine CallH.by (ih i (by omega) (ed ++ [(e : Int)]) s' F' H3 (b ||| (2 ^ x ||| 2 ^ y)) (by omega) (by simp; omega) hI3 hW3 hor) ?_
    rintro _ H4 ⟨rfl, hp4, F4, hI4, hW4⟩
    generalize hX : sfold cb ((ed ++ [(e : Int)]) :: mall es i (ed ++ [(e : Int)])) s' = X at *
    simp (maxSteps := 1000000) (disch := omega) only [S, S1, S2, S3, S4, S5, ST, eq_self, reduceIte, reduceCtorEq, Nat.reduceEqDiff, Nat.reduceAdd]
    refine brH.intro (fun g2 => ?_) (fun g2 => ?_)
    · obtain ⟨hI4', hW4'⟩ := hW4 g2
      obtain ⟨w4, c4, r1, r2, H5, r3, hW5, hk5, hl5⟩ := hW4'.pop
      have hI5 := hc.keep hI4' hk5
      rw [if_pos g2] at hS
      have hcl : ((ed.length + 1 : Nat) : Int) - 1 = (ed.length : Int) := by omega
      simp (maxSteps := 1000000) (disch := omega) only [g2, h0, h1, h2, h3, h4, h5, r1, hcl, r2, r3, he1, wrap64, S, S1, S2, S3, S4, S5, ST, eq_self, reduceIte, reduceCtorEq, Nat.reduceEqDiff, Nat.reduceAdd]
      refine ⟨i, by omega, X.1, F4, by omega, ?_⟩
      (repeat' first | exact hI5 | exact hW5 | exact hS | apply And.intro) <;> first | (simp only [Value.int.injEq, true_and]; omega) | omega | rfl | assumption | (simp; done) | (simp; omega)
    · simp (maxSteps := 1000000) (disch := omega) only [g2, S, S1, S2, S3, S4, S5, ST, eq_self, reduceIte, reduceCtorEq, Nat.reduceEqDiff, Nat.reduceAdd]
      refine hQ _ _ _ ?_
      simp (maxSteps := 1000000) (disch := omega) only [S, S1, S2, S3, S4, S5, ST, eq_self, reduceIte, reduceCtorEq, Nat.reduceEqDiff, Nat.reduceAdd]
      rw [if_neg (by rw [g2]; decide)] at hS
      rw [hS, g2]
      exact ⟨rfl, hp4, F4, hI4, fun h => by cases h⟩
set_option maxRecDepth 20000 in
set_option maxHeartbeats 1000000 in
theorem matchings_c {σ : Type} {HB : AH} {fW : FuncId} {caps : List Value} {I IF : σ → (Nat → Prop) → AH → Prop} {cb : σ → List Int → σ × Bool} (hc : CbOk HB fW caps I IF cb) (v : Value) (n : Int) (es : List (Int × Int)) (hr : RowP 81 HB v es) (hlen : es.length ≤ 1048576) (hg : Grd n es)
    (s : σ) (F : Nat → Prop) (H : AH) (hI : I s F H) (hp : HB <+: H) :
    ACalls Try.prog 154 [.agg (List.toArray [.int .i64 n, v]), .func (.func fW) #[] (List.toArray caps)] H fun r H' => HB <+: H' ∧ ∃ F', IF (sfold cb ([] :: mall es es.length []) s).1 F' H' := by
  refine in154 rfl ?_
  intro Q hQ
  have hrH := hr.pre hp
  simp (maxSteps := 1000000) (disch := omega) only [cd154, hrH.boxG, box_func, alloc_sl, alloc_fn, S, S1, S2, S3, S4, S5, ST, eq_self, reduceIte, reduceCtorEq, Nat.reduceEqDiff, Nat.reduceAdd]
  generalize hA : H ++ [AObj.cells [.int .i64 n, v] 31 false] = A
  have pA : H <+: A := by rw [← hA]; exact List.prefix_append _ _
  have cA : A[H.length]? = some (.cells [.int .i64 n, v] 31 false) := by rw [← hA]; exact at_new ..
  have rA := hrH.pre pA
  generalize hW0 : A ++ [AObj.cells [.func (.func fW) #[] (List.toArray caps)] 69 false] = W
  have pW : A <+: W := by rw [← hW0]; exact List.prefix_append _ _
  have cW : W[A.length]? = some (.cells [.func (.func fW) #[] (List.toArray caps)] 69 false) := by rw [← hW0]; exact at_new ..
  generalize hZ : W ++ [AObj.cells [] 3 false] = Z
  have pZ : W <+: Z := by rw [← hZ]; exact List.prefix_append _ _
  have cZ : Z[W.length]? = some (.cells (ints []) 3 false) := by rw [← hZ]; exact at_new ..
  have st1 := st_at (P := Try.prog) (t := 38) (i := 0) (y := .slice (some ⟨W.length, 0, none⟩) 0 0) cs38 (at_new Z (.cells [.slice none 0 0] 38 false)) (by show 0 < 1; decide) rfl rfl
  rw [set_new, List.set_cons_zero] at st1
  simp (maxSteps := 1000000) (disch := omega) only [st1, S, S1, S2, S3, S4, S5, ST, eq_self, reduceIte, reduceCtorEq, Nat.reduceEqDiff, Nat.reduceAdd]
  generalize hE : Z ++ [AObj.cells [.slice (some ⟨W.length, 0, none⟩) 0 0] 38 false] = E
  have pE : Z <+: E := by rw [← hE]; exact List.prefix_append _ _
  have cE : E[Z.length]? = some (.cells [.slice (some ⟨W.length, 0, none⟩) 0 0] 38 false) := by rw [← hE]; exact at_new ..
  have st2 := st_at (P := Try.prog) (t := 172) (i := 0) (y := .func (.func 210) #[] (List.toArray [.pointer (some ⟨A.length, 0, none⟩), .pointer (some ⟨Z.length, 0, none⟩), .pointer (some ⟨H.length, 0, none⟩), .pointer (some ⟨E.length, 0, none⟩)])) csF (at_new E (.cells [.nilFunc] 172 false)) (by show 0 < 1; decide) rfl rfl
  rw [set_new, List.set_cons_zero] at st2
  simp (maxSteps := 1000000) (disch := omega) only [alloc_fn, mkf_4, st2, ld_one agF, cell_new, S, S1, S2, S3, S4, S5, ST, eq_self, reduceIte, reduceCtorEq, Nat.reduceEqDiff, Nat.reduceAdd]
  generalize hG : E ++ [AObj.cells [.func (.func 210) #[] (List.toArray [.pointer (some ⟨A.length, 0, none⟩), .pointer (some ⟨Z.length, 0, none⟩), .pointer (some ⟨H.length, 0, none⟩), .pointer (some ⟨E.length, 0, none⟩)])] 172 false] = G
  have pG : E <+: G := by rw [← hG]; exact List.prefix_append _ _
  have cG : G[E.length]? = some (.cells [.func (.func 210) #[] (List.toArray [.pointer (some ⟨A.length, 0, none⟩), .pointer (some ⟨Z.length, 0, none⟩), .pointer (some ⟨H.length, 0, none⟩), .pointer (some ⟨E.length, 0, none⟩)])] 172 false) := by rw [← hG]; exact at_new ..
  have lA : A.length = H.length + 1 := by rw [← hA]; simp
  have lW : W.length = A.length + 1 := by rw [← hW0]; simp
  have lZ : Z.length = W.length + 1 := by rw [← hZ]; simp
  have lE : E.length = Z.length + 1 := by rw [← hE]; simp
  have lHB := hp.length_le
  have pHG := pA.trans (pW.trans (pZ.trans (pE.trans pG)))
  have hI2 := hc.keep hI (fun o y _ hy => pre_at pHG hy)
  have nF : ∀ {o}, H.length ≤ o → ¬ F o := fun ho hf => by have := (hc.live hI hf).1; omega
  have hW2 : WSt HB (.func (.func fW) #[] (List.toArray caps)) v n A.length Z.length H.length E.length F G [] :=
    ⟨pre_at (pZ.trans (pE.trans pG)) cW, pre_at (pW.trans (pZ.trans (pE.trans pG))) cA, cG, ⟨W.length, [], pre_at pG cE, pre_at (pE.trans pG) cZ, rfl, nF (by omega), by omega, by omega, by omega, by omega, by omega⟩, ⟨by omega, by omega, by omega⟩, ⟨nF (by omega), nF (by omega), nF (by omega), nF (by omega)⟩, ⟨by omega, by omega, by omega, by omega⟩, hp.trans pHG⟩
  have hf := from_c hc v n es hr hlen hg A.length Z.length H.length E.length es.length [] s F G 0 (Nat.le_refl _) (by simp) hI2 hW2 ⟨by decide, fun z _ => by simp [seenL]⟩
  have z0 : ((0 : Nat) : Int) = 0 := rfl
  rw [Nat.sub_self, z0] at hf
  refine CallH.by hf ?_
  rintro _ H' ⟨rfl, hp', F', hI', _⟩
  simp (maxSteps := 1000000) (disch := omega) only [S, S1, S2, S3, S4, S5, ST, eq_self, reduceIte, reduceCtorEq, Nat.reduceEqDiff, Nat.reduceAdd]
  refine hQ _ _ _ ?_
  simp (maxSteps := 1000000) (disch := omega) only [S, S1, S2, S3, S4, S5, ST, eq_self, reduceIte, reduceCtorEq, Nat.reduceEqDiff, Nat.reduceAdd]
  exact ⟨hp', F', hI'⟩
end Go.Proofs.Ytlfongfhbkefmaa.Ai
