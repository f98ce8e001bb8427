/- Slim code of this translation. By the kernel. -/
import Derived.Test.YtnoihoeaconllaaProg
import Derived.Test.YtnoihoeaconllaaAiC
import Derived.KernelRfl
namespace Go.Proofs.Ytnoihoeaconllaa.Ai
open Go

/- (loop.example/g01128/impl.bag).has -/
def ords99 : List (Nat × List (Nat × Bool)) := []
def cd99 : Cd := (.seq (.reg [⟨⟨some 4, Op.assign (Operand.const (Value.bool false)), none⟩, []⟩]) (.seq (.reg [⟨⟨some 5, Op.move (Operand.tmp 0), none⟩, []⟩,
  ⟨⟨some 6, Op.move (Operand.tmp 1), none⟩, []⟩,
  ⟨⟨some 7, Op.binOp BinOp.shr 88 (Operand.tmp 5) (Operand.tmp 6) 3, none⟩, []⟩,
  ⟨⟨some 8, Op.binOp BinOp.and 88 (Operand.tmp 7) (Operand.const (Value.int IntKind.u64 1)) 88, none⟩, []⟩,
  ⟨⟨some 9, Op.binOp BinOp.eql 88 (Operand.tmp 8) (Operand.const (Value.int IntKind.u64 1)) 88, none⟩, []⟩,
  ⟨⟨some 4, Op.assign (Operand.tmp 9), none⟩, []⟩]) .ret))
theorem sl99 : slim Try.f99.ntmps ords99 (Try.f99.body.getD .skip) = some cd99 := by kernel_rfl
theorem in99 {args : List Value} {H : AH} {R : Value → AH → Prop} (hl : args.length = 2) (h : ∀ (Q : Exit → Sl → AH → Prop), (∀ e s H, endA Try.prog [ResultVar.tmp 4] R e s H → Q e s H) → wpC Try.prog cd99 Q (enterA args) H) : ACalls Try.prog 99 args H R :=
  ACalls.intro (by kernel_rfl) Try.func99 rfl (by kernel_rfl) sl99 hl (of_decide_eq_true (by kernel_rfl)) (by kernel_rfl) h
end Go.Proofs.Ytnoihoeaconllaa.Ai
