/- Where a box or an own slice stands among the chunks: found by instances. Side conditions that close themselves. General over the program. -/
import Derived.Test.YtmbdbfdlbbkclaaDoorSlF
namespace Go.Sl
set_option linter.unusedSimpArgs false
set_option linter.unusedVariables false
class BoxIn (M : List Chunk) (b : Nat) (k : outParam Nat) (c : outParam (List Value)) (B : outParam TypeId) : Prop where
  h : M[k]? = some (.box b c B)
instance (priority := high) boxIn_here {M : List Chunk} {b : Nat} {c : List Value} {B : TypeId} : BoxIn (.box b c B :: M) b 0 c B := ⟨rfl⟩
instance (priority := low) boxIn_there {M : List Chunk} {d : Chunk} {b k : Nat} {c : List Value} {B : TypeId} [i : BoxIn M b k c B] : BoxIn (d :: M) b (k + 1) c B := ⟨by simpa using i.h⟩
class SlIn (M : List Chunk) (v : Value) (k : outParam Nat) (T : outParam TypeId) (z n : outParam Nat) (c : outParam (List Value)) : Prop where
  h : M[k]? = some (.sl v T z n c)
instance (priority := high) slIn_here {M : List Chunk} {v : Value} {T : TypeId} {z n : Nat} {c : List Value} : SlIn (.sl v T z n c :: M) v 0 T z n c := ⟨rfl⟩
instance (priority := low) slIn_there {M : List Chunk} {d : Chunk} {v : Value} {k : Nat} {T : TypeId} {z n : Nat} {c : List Value} [i : SlIn M v k T z n c] : SlIn (d :: M) v (k + 1) T z n c := ⟨by simpa using i.h⟩

/-- What an operand holds. -/
theorem evX {a b : Value} (h : a = b := by first | (simp only [evF, nth]; rfl) | with_unfolding_all exact rfl) : a = b := h
theorem asX {p : Prop} (h : p := by assumption) : p := h
theorem inX {p : Prop} (h : p := by infer_instance) : p := h
theorem omX {p : Prop} (h : p := by first | omega | (simp only [List.length_set]; omega)) : p := h
theorem lenOk {p : Prop} (h : p := by first | rfl | (simp [Value.cells]; done) | (simpa [Value.cells] using Rep.len (by assumption))) : p := h
theorem oneOk {p : Prop} (h : p := by first | rfl | (simp [Value.cells, Value.oneCell', *]; done) | (exact List.all_eq_true.2 (Rep.one (by assumption)))) : p := h
end Go.Sl
