/- Own slices that hold data: elements read. General over the program. -/
import Derived.Test.YtmbdbfdlbbkclaaDoorSlPv
import Derived.Test.YtmbdbfdlbbkclaaDoorSlO
namespace Go.Sl
set_option linter.unusedSimpArgs false
set_option linter.unusedVariables false
open Go.RowKit
section
variable {P : Program} {S : Snap} {M : List Chunk} {l : List Value} {α : Type} [Rep α]
theorem RL.at_len {c : List Value} {xs : List α} (h : RL S c xs) {j : Nat} (hl : j < xs.length) : j * Rep.z α + Rep.z α ≤ c.length := by
  rw [h.1]
  have := Nat.mul_le_mul_right (Rep.z α) (show j + 1 ≤ xs.length by omega)
  rw [Nat.succ_mul] at this
  exact this
theorem RL.at_some {c : List Value} {xs : List α} (h : RL S c xs) {j : Nat} {y : α} (hy : xs[j]? = some y) : j * Rep.z α + Rep.z α ≤ c.length := h.at_len (List.getElem?_eq_some_iff.1 hy).1
/-- An element of an own slice of data. -/
theorem qt_ldR {T F : TypeId} {x : Operand} {agg : Bool} {zero : List Value} {bb : Nat} {v p : Value} {j k n : Nat} {c : List Value} {xs : List α} {y : α} (hx : evF l x = p) (hp : PtO v p (j * Rep.z α)) (hk : M[k]? = some (.sl v F (Rep.z α) n c)) (hR : RL S c xs)
    (hT : Ty P T agg (Rep.z α) zero bb) (hy : xs[j]? = some y) : ∃ u, (∃ cs, u = vOf agg cs ∧ Rep.R S cs y) ∧ Qt P l (.load T x) S M u :=
  ⟨_, ⟨_, rfl, hR.2 j _ hy⟩, qt_load_own hx hp hk hT rfl (hR.at_some hy)⟩
/-- An element of an own slice of data, flat. -/
theorem qt_ldRF {cells : α → List Value} {T F : TypeId} {x : Operand} {agg : Bool} {zero : List Value} {bb : Nat} {v p : Value} {j k n : Nat} {c : List Value} {xs : List α} {y : α} (hx : evF l x = p) (hp : PtO v p (j * Rep.z α)) (hk : M[k]? = some (.sl v F (Rep.z α) n c)) (hF : FlatC α cells) (hR : RL S c xs)
    (hT : Ty P T agg (Rep.z α) zero bb) (hy : xs[j]? = some y) : Qt P l (.load T x) S M (vOf agg (cells y)) :=
  qt_load_own hx hp hk hT (hF.flat (hR.2 j _ hy)) (hR.at_some hy)
theorem sl_onek {w : World} {v : Value} {T : TypeId} {k z n : Nat} {c : List Value} (h : St S M w) (hk : M[k]? = some (.sl v T z n c)) : v.oneCell' = true := by
  rcases (h.get hk).2 with ⟨rfl, _⟩ | ⟨g, cap, cur, fz, rfl, _⟩ <;> rfl
end
end Go.Sl
