/- All matchings of a size, at most 301 of them (impl's Graph.ofSize). -/
import Derived.Test.YtahakecifgjcnaaMatW
import Derived.Test.YtahakecifgjcnaaClone
import Derived.Test.YtahakecifgjcnaaAppL
import Derived.Test.YtahakecifgjcnaaProg
import Derived.Test.YtahakecifgjcnaaAiM2
import Derived.KernelRfl
/- Slim code of this translation. By the kernel. -/
namespace Go.Proofs.Ytahakecifgjcnaa.Ai
open Go

/- (loop.example/g01128/impl.Graph).ofSize$1 -/
def ords169 : List (Nat × List (Nat × Bool)) := [(2, [(0, false), (1, false), (2, true), (3, false), (4, true), (5, true)])]
def cd169 : Cd := (.seq (.reg [⟨⟨some 4, Op.assign (Operand.const (Value.bool false)), none⟩, []⟩]) (.seq (.seq (.reg [⟨⟨some 5, Op.move (Operand.tmp 0), none⟩, []⟩,
  ⟨⟨some 6, Op.call { callee := (Callee.builtin Builtin.len), args := #[(Operand.tmp 5)], argTypes := #[22] }, none⟩, []⟩,
  ⟨⟨some 7, Op.load 3 (Operand.tmp 1), none⟩, []⟩,
  ⟨⟨some 8, Op.binOp BinOp.eql 3 (Operand.tmp 6) (Operand.tmp 7) 3, none⟩, []⟩]) (.cond (Operand.tmp 8) (.reg [⟨⟨some 9, Op.load 47 (Operand.tmp 2), none⟩, []⟩,
  ⟨⟨some 10, Op.move (Operand.tmp 0), none⟩, []⟩,
  ⟨⟨some 11, Op.call { callee := (Callee.value (Operand.func 62)), args := #[(Operand.tmp 10)], argTypes := #[22] }, none⟩, [⟨some 9, Op.load 47 (Operand.tmp 2), none⟩]⟩,
  ⟨⟨some 12, Op.buildSlice 47 1 #[(0, (Operand.tmp 11))], none⟩, []⟩,
  ⟨⟨some 13, Op.call { callee := (Callee.builtin Builtin.append), args := #[(Operand.tmp 9), (Operand.tmp 12)], argTypes := #[47, 47] }, none⟩, []⟩,
  ⟨⟨none, Op.store 47 (Operand.tmp 2) (Operand.tmp 13), none⟩, []⟩]) .skip)) (.seq (.reg [⟨⟨some 14, Op.load 47 (Operand.tmp 2), none⟩, []⟩,
  ⟨⟨some 15, Op.call { callee := (Callee.builtin Builtin.len), args := #[(Operand.tmp 14)], argTypes := #[47] }, none⟩, []⟩,
  ⟨⟨some 16, Op.binOp BinOp.leq 3 (Operand.tmp 15) (Operand.const (Value.int IntKind.i64 300)) 3, none⟩, []⟩,
  ⟨⟨some 4, Op.assign (Operand.tmp 16), none⟩, []⟩]) .ret)))
theorem sl169 : slim Try.f169.ntmps ords169 (Try.f169.body.getD .skip) = some cd169 := by kernel_rfl
theorem in169 {args : List Value} {H : AH} {R : Value → AH → Prop} (hl : args.length = 3) (h : ∀ (Q : Exit → Sl → AH → Prop), (∀ e s H, endA Try.prog [ResultVar.tmp 4] R e s H → Q e s H) → wpC Try.prog cd169 Q (enterA args) H) : ACalls Try.prog 169 args H R :=
  ACalls.intro (by kernel_rfl) Try.func169 rfl (by kernel_rfl) sl169 hl (of_decide_eq_true (by kernel_rfl)) (by kernel_rfl) h

/- (loop.example/g01128/impl.Graph).ofSize -/
def ords147 : List (Nat × List (Nat × Bool)) := []
def cd147 : Cd := (.seq (.reg [⟨⟨some 2, Op.box 41 (Operand.tmp 0), none⟩, []⟩,
  ⟨⟨some 3, Op.box 3 (Operand.tmp 1), none⟩, []⟩,
  ⟨⟨some 4, Op.assign (Operand.const (Value.slice none 0 0)), none⟩, []⟩]) (.seq (.reg [⟨⟨some 6, Op.buildSlice 47 0 #[], none⟩, []⟩,
  ⟨⟨some 5, Op.alloc 47, none⟩, []⟩,
  ⟨⟨none, Op.store 47 (Operand.tmp 5) (Operand.tmp 6), none⟩, []⟩]) (.seq (.reg [⟨⟨some 7, Op.load 41 (Operand.tmp 2), none⟩, []⟩,
  ⟨⟨some 8, Op.makeFunc (Fn.func 169) #[] #[(Operand.tmp 3), (Operand.tmp 5)], none⟩, []⟩,
  ⟨⟨some 9, Op.call { callee := (Callee.value (Operand.func 94)), args := #[(Operand.tmp 7), (Operand.tmp 8)], argTypes := #[41, 65] }, none⟩, []⟩]) (.seq (.reg [⟨⟨some 10, Op.load 47 (Operand.tmp 5), none⟩, []⟩,
  ⟨⟨some 4, Op.assign (Operand.tmp 10), none⟩, []⟩]) .ret))))
theorem sl147 : slim Try.f147.ntmps ords147 (Try.f147.body.getD .skip) = some cd147 := by kernel_rfl
theorem in147 {args : List Value} {H : AH} {R : Value → AH → Prop} (hl : args.length = 2) (h : ∀ (Q : Exit → Sl → AH → Prop), (∀ e s H, endA Try.prog [ResultVar.tmp 4] R e s H → Q e s H) → wpC Try.prog cd147 Q (enterA args) H) : ACalls Try.prog 147 args H R :=
  ACalls.intro (by kernel_rfl) Try.func147 rfl (by kernel_rfl) sl147 hl (of_decide_eq_true (by kernel_rfl)) (by kernel_rfl) h
end Go.Proofs.Ytahakecifgjcnaa.Ai

namespace Go.Proofs.Ytahakecifgjcnaa.Ai
open Go Go.RowKit
set_option linter.unusedVariables false
set_option linter.unusedSimpArgs false

/-- the objects of a list of lists -/
def Objs (o : Nat) (us : List Value) (ls : List (List Int)) (j : Nat) : Prop := j = o ∨ ∃ i, i < ls.length ∧ us.getD i undef ≠ .slice none 0 0 ∧ j = rowO (us.getD i undef)
theorem InU.refit {lo hi : Nat} {e2 e : TypeId} {H H' : AH} {o : Nat} {us : List Value} {ls : List (List Int)} (h : InU lo hi e2 e H o us ls) (hk : ∀ j y, Objs o us ls j → H[j]? = some y → H'[j]? = some y) : InU lo H'.length e2 e H' o us ls := by
  obtain ⟨h1, h2, h3, h4, h5, h6⟩ := h
  have k3 := hk _ _ (.inl rfl) h3
  refine ⟨h1, at_lt k3, k3, h4, fun i hi => ⟨?_, (h5 i hi).2⟩, h6⟩
  rcases (h5 i hi).1 with g | ⟨oo, zs, g1, g2, g3, g4, g5⟩
  · exact .inl g
  · have := hk oo _ (.inr ⟨i, hi, (by rw [g1]; intro e; cases e), (by rw [g1]; rfl)⟩) g4
    exact .inr ⟨oo, zs, g1, g2, at_lt this, this, g5⟩
theorem InU.objs {lo hi : Nat} {e2 e : TypeId} {H : AH} {o : Nat} {us : List Value} {ls : List (List Int)} (h : InU lo hi e2 e H o us ls) {j : Nat} (hj : Objs o us ls j) : lo ≤ j ∧ j < hi := by
  obtain ⟨h1, h2, h3, h4, h5, h6⟩ := h
  rcases hj with rfl | ⟨i, hi, hn, rfl⟩
  · exact ⟨h1, h2⟩
  · rcases (h5 i hi).1.at_ with g | g
    · exact absurd g hn
    · exact g

def szCb (k : Nat) (out : List (List Int)) (x : List Int) : List (List Int) × Bool :=
  if x.length = k then (out ++ [x], decide ((out ++ [x]).length ≤ 300)) else (out, decide (out.length ≤ 300))
theorem sfold_sz (k : Nat) : ∀ (l : List (List Int)) (out : List (List Int)), out.length ≤ 300 → sfold (szCb k) l out = ((out ++ l.filter fun x => decide (x.length = k)).take 301, decide ((out ++ l.filter fun x => decide (x.length = k)).length ≤ 300))
  | [], out, h => by simp only [sfold, List.filter_nil, List.append_nil]; rw [List.take_of_length_le (by omega), decide_eq_true h]
  | x :: l, out, h => by
    rw [sfold]
    by_cases hx : x.length = k
    · have hf : (x :: l).filter (fun x => decide (x.length = k)) = x :: l.filter (fun x => decide (x.length = k)) := by rw [List.filter_cons, if_pos (by simpa using hx)]
      have hc : szCb k out x = (out ++ [x], decide ((out ++ [x]).length ≤ 300)) := by unfold szCb; rw [if_pos hx]
      rw [hc, hf]
      have happ : out ++ x :: l.filter (fun x => decide (x.length = k)) = (out ++ [x]) ++ l.filter (fun x => decide (x.length = k)) := by simp
      rw [happ]
      by_cases h2 : (out ++ [x]).length ≤ 300
      · rw [if_pos (by simpa using h2)]
        exact sfold_sz k l _ h2
      · rw [if_neg (by simpa using h2)]
        have hl : (out ++ [x]).length = 301 := by simp at h2 ⊢; omega
        rw [List.take_append_of_le_length (by omega), List.take_of_length_le (by omega), decide_eq_false h2]
        congr 1
        rw [eq_comm, decide_eq_false_iff_not, List.length_append]; omega
    · have hf : (x :: l).filter (fun x => decide (x.length = k)) = l.filter (fun x => decide (x.length = k)) := by rw [List.filter_cons, if_neg (by simpa using hx)]
      have hc : szCb k out x = (out, decide (out.length ≤ 300)) := by unfold szCb; rw [if_neg hx]
      rw [hc, hf, if_pos (by simpa using h)]
      exact sfold_sz k l out h

/-- those found so far, in memory -/
def ISz (HB : AH) (pk po k : Nat) (out : List (List Int)) (F : Nat → Prop) (H : AH) : Prop :=
  ∃ o us, H[pk]? = some (.cells [.int .i64 (k : Int)] 3 false) ∧ H[po]? = some (.cells [.slice (some ⟨o, 0, none⟩) out.length out.length] 47 false) ∧ InU HB.length H.length 22 3 H o us out ∧ (HB.length ≤ pk ∧ HB.length ≤ po) ∧ pk ≠ po ∧ ¬ Objs o us out pk ∧ ¬ Objs o us out po ∧
    out.length ≤ 301 ∧ F = fun j => j = pk ∨ j = po ∨ Objs o us out j

theorem getD_app1 {us : List Value} {n i : Nat} {c : Value} (hn : n ≤ us.length) : (us.take n ++ [c]).getD i undef = if i < n then us.getD i undef else if i = n then c else undef := by
  rw [List.getD_eq_getElem?_getD, List.getElem?_append]
  have hl : (us.take n).length = n := by simp; omega
  rw [hl]
  split
  · rw [List.getElem?_take, if_pos (by assumption), List.getD_eq_getElem?_getD]
  · split
    · rename_i h; subst h; simp
    · rw [List.getElem?_eq_none (by simp; omega)]; rfl
theorem away_app {q o' : Nat} {us : List Value} {out : List (List Int)} {c : Value} {xs : List Int} (hu : out.length ≤ us.length) (h : ∀ i, i < out.length → us.getD i undef = .slice none 0 0 ∨ rowO (us.getD i undef) ≠ q) (hc : c = .slice none 0 0 ∨ rowO c ≠ q) (ho : o' ≠ q) : Away q o' (us.take out.length ++ [c]) (out ++ [xs]) := by
  refine ⟨ho, fun i hi => ?_⟩
  simp only [List.length_append, List.length_cons, List.length_nil] at hi
  rw [getD_app1 hu]
  split
  · exact h i (by assumption)
  · rw [if_pos (by omega)]; exact hc
theorem clear_tup {H0 H : AH} {e : TypeId} {v : Value} {xs : List Int} (h : Own e H0 H v xs) : isTup v = false := h.row.tup

set_option maxRecDepth 20000 in
set_option maxHeartbeats 2000000 in
theorem sz_ok (HB : AH) (pk po k : Nat) (hk : k ≤ 1000000) : CbOk HB 169 [.pointer (some ⟨pk, 0, none⟩), .pointer (some ⟨po, 0, none⟩)] (fun out F H => ISz HB pk po k out F H ∧ out.length ≤ 300) (fun out F H => ISz HB pk po k out F H) (szCb k) := by
  refine ⟨fun h => h.1, ?_, ?_, ?_⟩
  · rintro out F H j ⟨⟨o, us, h1, h2, h3, h4, h5, h6, h7, h8, rfl⟩, _⟩ hF
    have hF' : j = pk ∨ j = po ∨ Objs o us out j := hF
    rcases hF' with rfl | rfl | hj
    · exact ⟨at_lt h1, h4.1⟩
    · exact ⟨at_lt h2, h4.2⟩
    · have := h3.objs hj
      exact ⟨this.2, this.1⟩
  · rintro out F H H' ⟨⟨o, us, h1, h2, h3, h4, h5, h6, h7, h8, rfl⟩, h9⟩ hk
    exact ⟨⟨o, us, hk _ _ (.inl rfl) h1, hk _ _ (.inr (.inl rfl)) h2, h3.refit fun j y hj hy => hk _ _ (.inr (.inr hj)) hy, h4, h5, h6, h7, h8, rfl⟩, h9⟩
  · rintro out F H w xs ⟨⟨o, us, h1, h2, h3, h4, h5, h6, h7, h8, rfl⟩, h9⟩ hw hwF hl hp
    refine in169 rfl ?_
    intro Q hQ
    have ao : Away po o us out := ⟨fun e => h7 (.inl e.symm), fun i hi => by
      by_cases hn : us.getD i undef = .slice none 0 0
      · exact .inl hn
      · exact .inr fun e => h7 (.inr ⟨i, hi, hn, e.symm⟩)⟩
    simp (maxSteps := 1000000) (disch := omega) only [cd169, hw.len Try.underlying22, cell_of h1, S, S1, S2, S3, S4, ST, eq_self, ne_eq, not_true_eq_false, not_false_eq_true, and_self, true_and, and_true, reduceIte, reduceCtorEq, Nat.reduceEqDiff, Nat.reduceAdd, Nat.zero_add, Nat.add_zero, Option.map_none, Option.map_some, List.map_cons, List.map_nil, List.append_nil, List.cons_append, List.nil_append, List.getElem?_cons_zero, List.getElem?_cons_succ, List.getD_cons_zero, List.getD_cons_succ, List.getD_nil, Bool.not_true, Bool.not_false, decide_true, decide_false]
    refine brD.intro (fun g => ?_) (fun g => ?_)
    · have hxk : xs.length = k := by omega
      have hcb : szCb k out xs = (out ++ [xs], decide ((out ++ [xs]).length ≤ 300)) := by unfold szCb; rw [if_pos hxk]
      rw [hcb] at hQ
      simp (maxSteps := 1000000) (disch := omega) only [cell_of h2, S, S1, S2, S3, S4, ST, eq_self, ne_eq, not_true_eq_false, not_false_eq_true, and_self, true_and, and_true, reduceIte, reduceCtorEq, Nat.reduceEqDiff, Nat.reduceAdd, Nat.zero_add, Nat.add_zero, Option.map_none, Option.map_some, List.map_cons, List.map_nil, List.append_nil, List.cons_append, List.nil_append, List.getElem?_cons_zero, List.getElem?_cons_succ, List.getD_cons_zero, List.getD_cons_succ, List.getD_nil, Bool.not_true, Bool.not_false, decide_true, decide_false]
      refine CallH.by (Clone_c w xs H hw (by omega)) ?_
      rintro c C ⟨hcl, pC⟩
      have c2 := pre_at pC h2
      have c1 := pre_at pC h1
      have hinw := InI.of hcl.mine
      obtain ⟨H3, k1, k2, k3, k4⟩ := (h3.pre pC).app1 (P := Try.prog) (t2 := 47) Try.underlying47 cs22 (by rw [by22]; decide) zk22 hinw hp.length_le pC.length_le (Nat.le_refl _) (by omega)
      have hbs : buildSliceA Try.prog 47 1 [(0, c)] C = some (.slice (some ⟨C.length, 0, none⟩) 1 1, C ++ [.cells [c] 22 false]) := by
        obtain ⟨q, eq⟩ := hcl.row.shape
        rw [eq]
        exact bs1 Try.underlying47 cs22 ze22 ⟨by kernel_rfl, by kernel_rfl⟩ C rfl
      have lC := pC.length_le
      have l1 := at_lt h1
      have l2 := at_lt h2
      have d2 := k4 po _ (fun e => h7 (.inl e)) c2
      have d1 := k4 pk _ (fun e => h6 (.inl e)) c1
      have hst := st_at (P := Try.prog) (t := 47) (i := 0) (y := .slice (some ⟨C.length + 1, 0, none⟩) (out.length + 1) (out.length + 1)) cs47 d2 (by show 0 < 1; decide) rfl rfl
      have e2 : (H3.set po (.cells ([Value.slice (some ⟨o, 0, none⟩) out.length out.length].set 0 (.slice (some ⟨C.length + 1, 0, none⟩) (out.length + 1) (out.length + 1))) 47 false))[po]? = some (.cells [.slice (some ⟨C.length + 1, 0, none⟩) (out.length + 1) (out.length + 1)] 47 false) := by
        rw [List.getElem?_set_self (by omega)]; rfl
      simp (maxSteps := 1000000) (disch := omega) only [cell_of c2, hbs, k1, hst, cell_of e2, S, S1, S2, S3, S4, ST, eq_self, ne_eq, not_true_eq_false, not_false_eq_true, and_self, true_and, and_true, reduceIte, reduceCtorEq, Nat.reduceEqDiff, Nat.reduceAdd, Nat.zero_add, Nat.add_zero, Option.map_none, Option.map_some, List.map_cons, List.map_nil, List.append_nil, List.cons_append, List.nil_append, List.getElem?_cons_zero, List.getElem?_cons_succ, List.getD_cons_zero, List.getD_cons_succ, List.getD_nil, Bool.not_true, Bool.not_false, decide_true, decide_false]
      refine hQ _ _ _ ?_
      simp (maxSteps := 1000000) (disch := omega) only [S, S1, S2, S3, S4, ST, eq_self, ne_eq, not_true_eq_false, not_false_eq_true, and_self, true_and, and_true, reduceIte, reduceCtorEq, Nat.reduceEqDiff, Nat.reduceAdd, Nat.zero_add, Nat.add_zero, Option.map_none, Option.map_some, List.map_cons, List.map_nil, List.append_nil, List.cons_append, List.nil_append, List.getElem?_cons_zero, List.getElem?_cons_succ, List.getD_cons_zero, List.getD_cons_succ, List.getD_nil, Bool.not_true, Bool.not_false, decide_true, decide_false]
      have hal : (out ++ [xs]).length = out.length + 1 := by simp
      have hcO : c = .slice none 0 0 ∨ H.length ≤ rowO c := by
        rcases hcl with ⟨q, _⟩ | ⟨oc, q, hoc, _⟩
        · exact .inl q
        · exact .inr (by rw [q]; exact hoc)
      have hul := h3.2.2.2.1
      have aw2 : Away po (C.length + 1) (us.take out.length ++ [c]) (out ++ [xs]) := away_app hul ao.2 (hcO.imp id fun q => by omega) (by omega)
      have ak2 : Away pk (C.length + 1) (us.take out.length ++ [c]) (out ++ [xs]) := away_app hul (fun i hi => by
        by_cases hn : us.getD i undef = .slice none 0 0
        · exact .inl hn
        · exact .inr fun e => h6 (.inr ⟨i, hi, hn, e.symm⟩)) (hcO.imp id fun q => by omega) (by omega)
      have k2' := (k2.wide (Nat.le_refl _) (Nat.le_of_eq k3.symm) : InU HB.length H3.length 22 3 H3 _ _ _)
      have hnew : ISz HB pk po k (out ++ [xs]) (fun j => j = pk ∨ j = po ∨ Objs (C.length + 1) (us.take out.length ++ [c]) (out ++ [xs]) j) (H3.set po (.cells ([Value.slice (some ⟨o, 0, none⟩) out.length out.length].set 0 (.slice (some ⟨C.length + 1, 0, none⟩) (out.length + 1) (out.length + 1))) 47 false)) := by
        refine ⟨C.length + 1, us.take out.length ++ [c], ?_, by rw [hal]; exact e2, ?_, h4, h5, ?_, ?_, by rw [hal]; omega, rfl⟩
        · rw [List.getElem?_set_ne (fun e => h5 e.symm)]; exact d1
        · have := k2'.moveq aw2 (H' := H3.set po (.cells ([Value.slice (some ⟨o, 0, none⟩) out.length out.length].set 0 (.slice (some ⟨C.length + 1, 0, none⟩) (out.length + 1) (out.length + 1))) 47 false)) (fun j y hj hy => by rw [List.getElem?_set_ne (fun e => hj e.symm)]; exact hy)
          simpa using this
        · rintro (e | ⟨i, hi, hn, e⟩)
          · omega
          · rcases ak2.2 i hi with q | q
            · exact hn q
            · exact q e.symm
        · rintro (e | ⟨i, hi, hn, e⟩)
          · omega
          · rcases aw2.2 i hi with q | q
            · exact hn q
            · exact q e.symm
      refine ⟨?_, ⟨_, hnew, fun hok => ⟨hnew, by simpa using hok⟩, ?_⟩, ?_⟩
      · rw [Value.bool.injEq, decide_eq_decide, hal]; constructor <;> intro h <;> omega
      · rintro j (e | e | e | ⟨i, hi, hn, e⟩)
        · exact .inl (.inl e)
        · exact .inl (.inr (.inl e))
        · exact .inr (by omega)
        · rw [getD_app1 hul] at hn e
          simp only [List.length_append, List.length_cons, List.length_nil] at hi
          by_cases hi2 : i < out.length
          · rw [if_pos hi2] at hn e
            exact .inl (.inr (.inr (.inr ⟨i, hi2, hn, e⟩)))
          · rw [if_neg hi2, if_pos (by omega)] at hn e
            rcases hcO with q | q
            · exact absurd q hn
            · exact .inr (by omega)
      · intro j y hj hy
        rw [List.getElem?_set_ne (fun e => hj (.inr (.inl e.symm)))]
        exact k4 j y (fun e => hj (.inr (.inr (.inl e)))) (pre_at pC hy)
    · have hcb : szCb k out xs = (out, decide (out.length ≤ 300)) := by unfold szCb; rw [if_neg (by omega)]
      rw [hcb] at hQ
      simp (maxSteps := 1000000) (disch := omega) only [cell_of h2, S, S1, S2, S3, S4, ST, eq_self, ne_eq, not_true_eq_false, not_false_eq_true, and_self, true_and, and_true, reduceIte, reduceCtorEq, Nat.reduceEqDiff, Nat.reduceAdd, Nat.zero_add, Nat.add_zero, Option.map_none, Option.map_some, List.map_cons, List.map_nil, List.append_nil, List.cons_append, List.nil_append, List.getElem?_cons_zero, List.getElem?_cons_succ, List.getD_cons_zero, List.getD_cons_succ, List.getD_nil, Bool.not_true, Bool.not_false, decide_true, decide_false]
      refine hQ _ _ _ ?_
      simp (maxSteps := 1000000) (disch := omega) only [S, S1, S2, S3, S4, ST, eq_self, ne_eq, not_true_eq_false, not_false_eq_true, and_self, true_and, and_true, reduceIte, reduceCtorEq, Nat.reduceEqDiff, Nat.reduceAdd, Nat.zero_add, Nat.add_zero, Option.map_none, Option.map_some, List.map_cons, List.map_nil, List.append_nil, List.cons_append, List.nil_append, List.getElem?_cons_zero, List.getElem?_cons_succ, List.getD_cons_zero, List.getD_cons_succ, List.getD_nil, Bool.not_true, Bool.not_false, decide_true, decide_false]
      have hI : ISz HB pk po k out (fun j => j = pk ∨ j = po ∨ Objs o us out j) H := ⟨o, us, h1, h2, h3, h4, h5, h6, h7, h8, rfl⟩
      refine ⟨?_, ⟨_, hI, fun _ => ⟨hI, h9⟩, fun o ho => .inl ho⟩, fun o y _ hy => hy⟩
      rw [Value.bool.injEq, decide_eq_decide]; constructor <;> intro h <;> omega

theorem box_int (H : AH) (k : Int) : boxA Try.prog 3 (.int .i64 k) H = some (.pointer (some ⟨H.length, 0, none⟩), H ++ [.cells [.int .i64 k] 3 false]) := by kernel_rfl
theorem alloc_ll (H : AH) : allocA Try.prog 47 H = some (.pointer (some ⟨H.length, 0, none⟩), H ++ [.cells [.slice none 0 0] 47 false]) := by kernel_rfl
theorem mkf_2 (f : Fn) (p q : Option Addr) : makeFuncA f [] [.pointer p, .pointer q] = some (.func f #[] (List.toArray [.pointer p, .pointer q])) := rfl

set_option maxRecDepth 20000 in
set_option maxHeartbeats 1000000 in
theorem ofSize_c (n : Int) (v : Value) (es : List (Int × Int)) (k : Nat) (H : AH) (hr : RowP 66 H v es) (hlen : es.length ≤ 1048576) (hg : Grd n es) (hk : k ≤ 1000000) :
    ACalls Try.prog 147 [.agg (List.toArray [.int .i64 n, v]), .int .i64 (k : Int)] H fun r H' => InL H.length H'.length 22 3 H' r ((mext es es.length [] k).take 301) ∧ H <+: H' := by
  refine in147 rfl ?_
  intro Q hQ
  simp (maxSteps := 1000000) (disch := omega) only [cd147, hr.boxG, box_int, alloc_ll, S, S1, S2, S3, S4, ST, eq_self, ne_eq, not_true_eq_false, not_false_eq_true, and_self, true_and, and_true, reduceIte, reduceCtorEq, Nat.reduceEqDiff, Nat.reduceAdd, Nat.zero_add, Nat.add_zero, Option.map_none, Option.map_some, List.map_cons, List.map_nil, List.append_nil, List.cons_append, List.nil_append, List.getElem?_cons_zero, List.getElem?_cons_succ, List.getD_cons_zero, List.getD_cons_succ, List.getD_nil, Bool.not_true, Bool.not_false, decide_true, decide_false]
  generalize hA : H ++ [AObj.cells [.int .i64 n, v] 41 false] = A
  have pA : H <+: A := by rw [← hA]; exact List.prefix_append _ _
  have cA : A[H.length]? = some (.cells [.int .i64 n, v] 41 false) := by rw [← hA]; exact at_new ..
  have rA := hr.pre pA
  generalize hK : A ++ [AObj.cells [.int .i64 (k : Int)] 3 false] = K
  have pK : A <+: K := by rw [← hK]; exact List.prefix_append _ _
  have cK : K[A.length]? = some (.cells [.int .i64 (k : Int)] 3 false) := by rw [← hK]; exact at_new ..
  generalize hZ : K ++ [AObj.cells [] 22 false] = Z
  have pZ : K <+: Z := by rw [← hZ]; exact List.prefix_append _ _
  have cZ : Z[K.length]? = some (.cells [] 22 false) := by rw [← hZ]; exact at_new ..
  have st1 := st_at (P := Try.prog) (t := 47) (i := 0) (y := .slice (some ⟨K.length, 0, none⟩) 0 0) cs47 (at_new Z (.cells [.slice none 0 0] 47 false)) (by show 0 < 1; decide) rfl rfl
  rw [set_new, List.set_cons_zero] at st1
  have cZA := pre_at (pK.trans pZ) cA
  simp (maxSteps := 1000000) (disch := omega) only [st1, mkf_2, ld_agg ag41 cs41 (at_app cZA _), S, S1, S2, S3, S4, ST, eq_self, ne_eq, not_true_eq_false, not_false_eq_true, and_self, true_and, and_true, reduceIte, reduceCtorEq, Nat.reduceEqDiff, Nat.reduceAdd, Nat.zero_add, Nat.add_zero, Option.map_none, Option.map_some, List.map_cons, List.map_nil, List.append_nil, List.cons_append, List.nil_append, List.getElem?_cons_zero, List.getElem?_cons_succ, List.getD_cons_zero, List.getD_cons_succ, List.getD_nil, Bool.not_true, Bool.not_false, decide_true, decide_false]
  generalize hE : Z ++ [AObj.cells [.slice (some ⟨K.length, 0, none⟩) 0 0] 47 false] = E
  have pE : Z <+: E := by rw [← hE]; exact List.prefix_append _ _
  have cE : E[Z.length]? = some (.cells [.slice (some ⟨K.length, 0, none⟩) 0 0] 47 false) := by rw [← hE]; exact at_new ..
  have lA : A.length = H.length + 1 := by rw [← hA]; simp
  have lK : K.length = A.length + 1 := by rw [← hK]; simp
  have lZ : Z.length = K.length + 1 := by rw [← hZ]; simp
  have lE : E.length = Z.length + 1 := by rw [← hE]; simp
  have hU : InU H.length E.length 22 3 E K.length [] [] := ⟨by omega, by omega, pre_at pE cZ, Nat.le_refl _, fun i hi => absurd hi (by simp), fun i j _ hi _ => absurd hi (by simp)⟩
  have nob : ∀ j, j ≠ K.length → ¬ Objs K.length [] [] j := by
    rintro j hj (e | ⟨i, hi, _⟩)
    · exact hj e
    · simp at hi
  have hI : ISz H A.length Z.length k [] (fun j => j = A.length ∨ j = Z.length ∨ Objs K.length [] [] j) E ∧ ([] : List (List Int)).length ≤ 300 :=
    ⟨⟨K.length, [], pre_at (pZ.trans pE) cK, cE, hU, ⟨by omega, by omega⟩, by omega, nob _ (by omega), nob _ (by omega), by simp, rfl⟩, by simp⟩
  have pHE := pA.trans (pK.trans (pZ.trans pE))
  refine CallH.by (matchings_c (sz_ok H A.length Z.length k hk) #[] v n es hr hlen hg [] _ E hI pHE) ?_
  rintro _ H' ⟨hp', F', o, us, h1, h2, h3, _⟩
  rw [sfold_sz k _ [] (by simp)] at h2 h3
  simp (maxSteps := 1000000) (disch := omega) only [cell_of h2, S, S1, S2, S3, S4, ST, eq_self, ne_eq, not_true_eq_false, not_false_eq_true, and_self, true_and, and_true, reduceIte, reduceCtorEq, Nat.reduceEqDiff, Nat.reduceAdd, Nat.zero_add, Nat.add_zero, Option.map_none, Option.map_some, List.map_cons, List.map_nil, List.append_nil, List.cons_append, List.nil_append, List.getElem?_cons_zero, List.getElem?_cons_succ, List.getD_cons_zero, List.getD_cons_succ, List.getD_nil, Bool.not_true, Bool.not_false, decide_true, decide_false]
  refine hQ _ _ _ ?_
  simp (maxSteps := 1000000) (disch := omega) only [S, S1, S2, S3, S4, ST, eq_self, ne_eq, not_true_eq_false, not_false_eq_true, and_self, true_and, and_true, reduceIte, reduceCtorEq, Nat.reduceEqDiff, Nat.reduceAdd, Nat.zero_add, Nat.add_zero, Option.map_none, Option.map_some, List.map_cons, List.map_nil, List.append_nil, List.cons_append, List.nil_append, List.getElem?_cons_zero, List.getElem?_cons_succ, List.getD_cons_zero, List.getD_cons_succ, List.getD_nil, Bool.not_true, Bool.not_false, decide_true, decide_false]
  rw [List.nil_append] at h2 h3
  exact ⟨h3.inl, hp'⟩
end Go.Proofs.Ytahakecifgjcnaa.Ai
