/- Rules for tests whose answer is known. General over the program. -/
import Derived.Test.YtmbdbfdlbbkclaaDoorSlF
namespace Go.Sl
set_option linter.unusedSimpArgs false
set_option linter.unusedVariables false
open Go.RowKit
variable {P : Program} {l : List Value} {S : Snap} {M : List Chunk}
theorem qt_neq_b {T U : TypeId} {x y : Operand} {k : IntKind} {a b : Int} {c : Bool} (hx : evF l x = .int k a) (hy : evF l y = .int k b) (h : (a != b) = c) : Qt P l (.binOp .neq T x y U) S M (.bool c) := by
  subst h; exact qt_neq hx hy
theorem qt_eql_b {T U : TypeId} {x y : Operand} {k : IntKind} {a b : Int} {c : Bool} (hx : evF l x = .int k a) (hy : evF l y = .int k b) (h : (a == b) = c) : Qt P l (.binOp .eql T x y U) S M (.bool c) := by
  subst h; exact qt_eql hx hy
theorem qt_lss_b {T U : TypeId} {x y : Operand} {k : IntKind} {a b : Int} {c : Bool} (hx : evF l x = .int k a) (hy : evF l y = .int k b) (h : decide (a < b) = c) : Qt P l (.binOp .lss T x y U) S M (.bool c) := by
  subst h; exact qt_lss hx hy
theorem qt_gtr_b {T U : TypeId} {x y : Operand} {k : IntKind} {a b : Int} {c : Bool} (hx : evF l x = .int k a) (hy : evF l y = .int k b) (h : decide (a > b) = c) : Qt P l (.binOp .gtr T x y U) S M (.bool c) := by
  subst h; exact qt_gtr hx hy
end Go.Sl
