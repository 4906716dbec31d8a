/- Rules for walking a program, fourth part: own boxes and slices of data that are not flat, strings compared. -/
import Derived.Test.YtcobalpbencboaaDoorBb
import Derived.Test.YtcobalpbencboaaDoorBa

/- Fields of own boxes stored, what they hold not flat. General over the program. -/
namespace Go.Sl
set_option linter.unusedSimpArgs false
set_option linter.unusedVariables false
open Go.RowKit
section
variable {P : Program} {S : Snap} {M : List Chunk} {l : List Value} {α β : Type} [Rep α] [Rep β] {ops : Array Oper} {rest : List Oper} {Q : Exit → Act → World → Prop} {D : List Deferred} {w : World} {ty : TypeId} {pos : String} {af : Array Edge} {d : Tmp}
/-- A field of an own box stored. -/
theorem s_stP {T B : TypeId} {x y : Operand} {agg : Bool} {zero : List Value} {bb b off off' : Nat} (kf : Nat) {k : Nat} {get : α → β} {put : α → β → α} {x0 : α} {y0 : β} {c cs : List Value} (hst : St S M w) (hx : evF l x = .pointer (some ⟨b, off, none⟩)) (hk : M[k]? = some (.box b c B))
    (i : HasF α kf β off' get put) (ho : off = off') (h0 : Rep.R S c x0) (hT : Ty P T agg (Rep.z β) zero bb) (hy : evF l y = vOf agg cs) (hR : Rep.R S cs y0) (ha : agg = false → Rep.z β = 1)
    (h : ∀ w' c', Rep.R S c' (put x0 y0) → St S (M.set k (.box b c' B)) w' → wpList P ops Q rest ⟨l.toArray, D⟩ w') :
    wpList P ops Q (⟨none, .store T x y, ty, pos, af, none⟩ :: rest) ⟨l.toArray, D⟩ w := by
  subst ho
  have hl := Rep.len hR
  have hb := i.le
  have hl0 := Rep.len h0
  have h1 : cs.all (·.oneCell') = true := List.all_eq_true.2 (Rep.one hR)
  have hw := i.wr h0 hR
  have hc : (vOf agg cs).cells.toList = cs := by
    cases agg with
    | true => rfl
    | false =>
      have : cs.length = 1 := by rw [hl, ha rfl]
      obtain ⟨v, rfl⟩ := List.length_eq_one_iff.1 this
      have hv : v.oneCell' = true := Rep.one hR v (by simp)
      exact cells_one hv
  refine s_store hst hx k hk hT hy (cs := cs) hc hl h1 (by omega) fun w' hst' => ?_
  exact h w' _ hw hst'
end
end Go.Sl

/- Own slices that hold data: elements read. General over the program. -/
namespace Go.Sl
set_option linter.unusedSimpArgs false
set_option linter.unusedVariables false
open Go.RowKit
section
variable {P : Program} {S : Snap} {M : List Chunk} {l : List Value} {α : Type} [Rep α]
theorem RL.at_len {c : List Value} {xs : List α} (h : RL S c xs) {j : Nat} (hl : j < xs.length) : j * Rep.z α + Rep.z α ≤ c.length := by
  rw [h.1]
  have := Nat.mul_le_mul_right (Rep.z α) (show j + 1 ≤ xs.length by omega)
  rw [Nat.succ_mul] at this
  exact this
theorem RL.at_some {c : List Value} {xs : List α} (h : RL S c xs) {j : Nat} {y : α} (hy : xs[j]? = some y) : j * Rep.z α + Rep.z α ≤ c.length := h.at_len (List.getElem?_eq_some_iff.1 hy).1
/-- An element of an own slice of data. -/
theorem qt_ldR {T F : TypeId} {x : Operand} {agg : Bool} {zero : List Value} {bb : Nat} {v p : Value} {j k n : Nat} {c : List Value} {xs : List α} {y : α} (hx : evF l x = p) (hp : PtO v p (j * Rep.z α)) (hk : M[k]? = some (.sl v F (Rep.z α) n c)) (hR : RL S c xs)
    (hT : Ty P T agg (Rep.z α) zero bb) (hy : xs[j]? = some y) : ∃ u, (∃ cs, u = vOf agg cs ∧ Rep.R S cs y) ∧ Qt P l (.load T x) S M u :=
  ⟨_, ⟨_, rfl, hR.2 j _ hy⟩, qt_load_own hx hp hk hT rfl (hR.at_some hy)⟩
/-- An element of an own slice of data, flat. -/
theorem qt_ldRF {cells : α → List Value} {T F : TypeId} {x : Operand} {agg : Bool} {zero : List Value} {bb : Nat} {v p : Value} {j k n : Nat} {c : List Value} {xs : List α} {y : α} (hx : evF l x = p) (hp : PtO v p (j * Rep.z α)) (hk : M[k]? = some (.sl v F (Rep.z α) n c)) (hF : FlatC α cells) (hR : RL S c xs)
    (hT : Ty P T agg (Rep.z α) zero bb) (hy : xs[j]? = some y) : Qt P l (.load T x) S M (vOf agg (cells y)) :=
  qt_load_own hx hp hk hT (hF.flat (hR.2 j _ hy)) (hR.at_some hy)
theorem sl_onek {w : World} {v : Value} {T : TypeId} {k z n : Nat} {c : List Value} (h : St S M w) (hk : M[k]? = some (.sl v T z n c)) : v.oneCell' = true := by
  rcases (h.get hk).2 with ⟨rfl, _⟩ | ⟨g, cap, cur, fz, rfl, _⟩ <;> rfl
end
end Go.Sl

/- Strings compared. General over the program. -/
namespace Go.Sl
set_option linter.unusedSimpArgs false
set_option linter.unusedVariables false
open Go.RowKit
section
variable {P : Program} {S : Snap} {M : List Chunk} {l : List Value}
theorem str_beq (a b : List UInt8) : ((⟨a.toArray⟩ : ByteArray).toList == (⟨b.toArray⟩ : ByteArray).toList) = decide (a = b) := by
  rw [ByteArray.toList_eq, ByteArray.toList_eq]
  by_cases h : a = b
  · rw [decide_eq_true h, h]; exact beq_self_eq_true _
  · rw [decide_eq_false h]; exact beq_eq_false_iff_ne.2 h
theorem qt_eql_str {T U : TypeId} {x y : Operand} {a b : List UInt8} {c : Bool} (hx : evF l x = .string ⟨a.toArray⟩) (hy : evF l y = .string ⟨b.toArray⟩) (hT : StrT P T) (e : decide (a = b) = c) : Qt P l (.binOp .eql T x y U) S M (.bool c) := fun dst ty pos af w _ => by
  simp only [execOp, hx, hy, eqGuard_at_string, binOp_string_eql, str_beq, e]
  rfl
theorem qt_neq_str {T U : TypeId} {x y : Operand} {a b : List UInt8} {c : Bool} (hx : evF l x = .string ⟨a.toArray⟩) (hy : evF l y = .string ⟨b.toArray⟩) (hT : StrT P T) (e : decide (a = b) = c) : Qt P l (.binOp .neq T x y U) S M (.bool (!c)) := fun dst ty pos af w _ => by
  simp only [execOp, hx, hy, eqGuard_at_string, binOp_string_neq, str_beq, e]
  rfl
end
end Go.Sl
