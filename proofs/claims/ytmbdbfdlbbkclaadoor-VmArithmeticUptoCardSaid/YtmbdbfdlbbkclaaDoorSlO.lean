/- Data whose cells are known: loaded as such. General over the program. -/
import Derived.Test.YtmbdbfdlbbkclaaDoorSlN
import Derived.Test.YtmbdbfdlbbkclaaDoorSlX
namespace Go.Sl
set_option linter.unusedSimpArgs false
set_option linter.unusedVariables false
open Go.RowKit
variable {P : Program} {S : Snap} {M : List Chunk} {l : List Value} {α : Type} [Rep α]
/-- Data that determine their cells. -/
class FlatC (α : Type) [Rep α] (cells : outParam (α → List Value)) : Prop where
  flat : ∀ {S : Snap} {cs : List Value} {x : α}, Rep.R S cs x → cs = cells x
theorem qt_ldp_flat {cells : α → List Value} {T : TypeId} {x : Operand} {zero : List Value} {bb : Nat} {p : Value} {y : α} (hx : evF l x = p) (hp : Pt S p y) (hF : FlatC α cells) (hT : Ty P T (Rep.agg α) (Rep.z α) zero bb) (ha : Rep.agg α = true) :
    Qt P l (.load T x) S M (.agg (cells y).toArray) := fun dst ty pos af w hst => by
  obtain ⟨v, ⟨cs, rfl, hR⟩, hq⟩ := qt_ldp (P := P) (M := M) (l := l) hx hp hT
  have := hq dst ty pos af w hst
  rw [hF.flat hR, ha] at this
  exact this
theorem qt_rem_b {T U : TypeId} {x y : Operand} {k : IntKind} {a b c : Int} (hx : evF l x = .int k a) (hy : evF l y = .int k b) (hb : b ≠ 0) (h : a.tmod b = c) : Qt P l (.binOp .rem T x y U) S M (.int k c) := fun dst ty pos af w _ => by
  simp [execOp, hx, hy, eqGuard_at_int, binOp_rem, Op.intDiv, hb, h]
/-- A type of integers; and any type that stands in the program. -/
class IntT (P : Program) (T : TypeId) (k : outParam IntKind) : Prop where
  u : P.underlying T = some (.int k)
theorem qt_conv_b {T U : TypeId} {x : Operand} {k k1 k2 : IntKind} {n m : Int} (hx : evF l x = .int k n) (hT : IntT P T k1) (hU : IntT P U k2) (h : k2.wrap n = m) : Qt P l (.convert T U x) S M (.int k2 m) := fun dst ty pos af w _ => by
  simp [execOp, hx, convert, run_underlying hT.u, run_underlying hU.u, Conv.intToInt, h]
theorem wrap_sm {n : Int} (h : 0 ≤ n ∧ n < 9223372036854775808) : IntKind.i64.wrap n = n := by
  simp only [IntKind.wrap, IntKind.bits, IntKind.signed]
  simp
  omega
theorem kq_conv {K : Act → Prop} {ops : Array Oper} {rest : List Oper} {ty : TypeId} {pos : String} {af : Array Edge} {dd : Option Tmp} {x : Operand} {T U : TypeId} {g : Option (Nat × Bool)} {a : Act} (h : wpQuiet P ops (St S M) K (⟨dd, .convert T U x, ty, pos, af, g⟩ :: rest) a) : wpQuiet P ops (St S M) K (⟨dd, .convert T U x, ty, pos, af, g⟩ :: rest) a := h
theorem tmod_nn {a b : Int} (h : 0 ≤ a) : a.tmod b = a % b := Int.tmod_eq_emod_of_nonneg h
end Go.Sl
