/- Elements of array values and of strings. General over the program. -/
import Derived.Test.YtmbdbfdlbbkclaaDoorSlI
import Derived.Test.YtmbdbfdlbbkclaaDoorSlV
import Derived.Test.YtmbdbfdlbbkclaaDoorSlK
namespace Go.Sl
set_option linter.unusedSimpArgs false
set_option linter.unusedVariables false
open Go.RowKit
variable {P : Program} {S : Snap} {M : List Chunk} {l : List Value} {ops : Array Oper} {rest : List Oper} {Q : Exit → Act → World → Prop} {D : List Deferred} {w : World} {ty : TypeId} {pos : String} {af : Array Edge} {d : Tmp} {dd : Option Tmp}

theorem run_part {E : TypeId} {agg : Bool} {z : Nat} {zero : List Value} {bb : Nat} (hE : Ty P E agg z zero bb) (w : World) {cs es : List Value} {o : Nat} (hc : (cs.drop o).take z = es) (hl : es.length = z) :
    (part E cs.toArray o).run P w = .ok (vOf agg es) w := by
  cases agg with
  | true =>
    simp only [part, Sem.run_bind, hE.run_isAgg, Result.andThen_ok, if_true, hE.run_sizeOf, Sem.run_pure, vOf_true]
    congr 2
    rw [List.extract_toArray, List.extract_eq_take_drop, ← hc]
    congr 2
    omega
  | false =>
    have hz := hE.size_pos rfl
    subst hz
    obtain ⟨v, rfl⟩ := List.length_eq_one_iff.1 hl
    have h0 : cs[o]? = some v := by
      have := congrArg (·[0]?) hc
      simpa [List.getElem?_take, List.getElem?_drop] using this
    simp only [part, Sem.run_bind, hE.run_isAgg, Result.andThen_ok, if_false, Bool.false_eq_true, vOf_false]
    simp [h0]

/-- 'x[i]' of an array that is a value. -/
theorem qt_indexV {T E : TypeId} {n : Nat} {x i : Operand} {agg : Bool} {z : Nat} {zero : List Value} {bb : Nat} {cs es : List Value} {k : IntKind} {j : Int} (hx : evF l x = .agg cs.toArray) (hi : evF l i = .int k j)
    (hT : ArrT P T n E) (hE : Ty P E agg z zero bb) (h0 : 0 ≤ j) (hn : j.toNat < n) (hc : (cs.drop (j.toNat * z)).take z = es) (hl : es.length = z) : Qt P l (.index T x i) S M (vOf agg es) := fun dst ty pos af w _ => by
  have hlt : j < n := by omega
  have hp := run_part hE w hc hl
  simp [execOp, hx, hi, Instr.index, asIntOf, run_underlying hT.u, h0, hlt, hE.run_sizeOf, hp]

/-- 's[i]' of a string. -/
theorem qt_indexS {T : TypeId} {x i : Operand} {b : List UInt8} {k : IntKind} {j : Int} (hx : evF l x = .string ⟨b.toArray⟩) (hi : evF l i = .int k j) (hT : P.underlying T = some .string)
    (h0 : 0 ≤ j) (hn : j.toNat < b.length) : Qt P l (.index T x i) S M (.int .u8 (b[j.toNat].toNat : Nat)) := fun dst ty pos af w _ => by
  have e : (⟨b.toArray⟩ : ByteArray)[j.toNat]? = some b[j.toNat] := by
    have : (⟨b.toArray⟩ : ByteArray).size = b.length := rfl
    rw [getElem?_pos _ _ (by rw [this]; exact hn)]
    rfl
  simp [execOp, hx, hi, Instr.index, asIntOf, run_underlying hT, h0, e]

/-- A call of a function value in a region that draws its order. -/
theorem q_callv {K : Act → Prop} {f : FuncId} {x : Operand} {xs : List Operand} {ats : Array TypeId} {args args' : List Value} {fi ca : List Value} {v : Value} (c : ∀ w, St S M w → Rets P f args' w fun v' w' => v' = v ∧ St S M w')
    (hx : evF l x = .func (.func f) fi.toArray ca.toArray) (hb : Body P f) (ha : xs.map (evF l) = args) (hargs : fi ++ args ++ ca = args')
    (h : wpQuiet P ops (St S M) K rest ⟨(putD l dd v).toArray, D⟩) :
    wpQuiet P ops (St S M) K (⟨dd, .call { callee := .value x, args := xs.toArray, argTypes := ats }, ty, pos, af, none⟩ :: rest) ⟨l.toArray, D⟩ := by
  refine q_step rfl (fun w hw => ?_) h
  subst ha; subst hargs
  have hr : (execOp (evF l) ⟨dd, .call { callee := .value x, args := xs.toArray, argTypes := ats }, ty, pos, af, none⟩).run P w = .ok (.enter f (fi ++ xs.map (evF l) ++ ca).toArray) w := by
    have := hb.enter (w := w) (fi ++ xs.map (evF l) ++ ca).toArray
    simp only [execOp, resolve, hx, Deferred.ofValue, Sem.run_bind, Sem.run_pure, Result.andThen_ok, invoke]
    simpa using this
  rw [hr]
  exact ⟨rfl, Calls.mono (c w hw) fun e w' ⟨v', he, hv, hs⟩ => ⟨by rw [he, hv], hs⟩⟩

/-- What is owned at least. -/
class Suf (M M' : List Chunk) : Prop where
  h : ∃ N, M' = N ++ M
instance (priority := high) suf_here {M : List Chunk} : Suf M M := ⟨[], rfl⟩
instance (priority := low) suf_there {M M' : List Chunk} {c : Chunk} [i : Suf M M'] : Suf M (c :: M') := ⟨let ⟨N, h⟩ := i.h; ⟨c :: N, by rw [h]; rfl⟩⟩
theorem Suf.box {M M' : List Chunk} {b : Nat} {c : List Value} {T : TypeId} (i : Suf (.box b c T :: M) M') : ∃ k, BoxIn M' b k c T := by
  obtain ⟨N, rfl⟩ := i.h
  exact ⟨N.length, ⟨by simp⟩⟩

theorem Suf.boxIn {M M' : List Chunk} {b k : Nat} {c : List Value} {T : TypeId} (i : Suf M M') (h : BoxIn M b k c T) : ∃ k', BoxIn M' b k' c T := by
  obtain ⟨N, rfl⟩ := i.h
  exact ⟨N.length + k, ⟨by rw [List.getElem?_append_right (by omega), Nat.add_sub_cancel_left]; exact h.h⟩⟩

theorem qt_geq_b {T U : TypeId} {x y : Operand} {k : IntKind} {a b : Int} {c : Bool} (hx : evF l x = .int k a) (hy : evF l y = .int k b) (h : decide (a ≥ b) = c) : Qt P l (.binOp .geq T x y U) S M (.bool c) := by
  subst h; exact qt_geq hx hy
theorem qt_leq_b {T U : TypeId} {x y : Operand} {k : IntKind} {a b : Int} {c : Bool} (hx : evF l x = .int k a) (hy : evF l y = .int k b) (h : decide (a ≤ b) = c) : Qt P l (.binOp .leq T x y U) S M (.bool c) := by
  subst h; exact qt_leq hx hy
theorem deX {p : Prop} (h : p := by first | assumption | decide) : p := h

section
variable {α : Type} [Rep α]
theorem qt_eqlK_b {T U : TypeId} {d : Nat} {a b : Operand} {agg : Bool} {zero : List Value} {bb : Nat} {cs cs' : List Value} {x y : α} {c : Bool} (ha : evF l a = .agg cs.toArray) (hb : evF l b = .agg cs'.toArray) (h : Rep.R S cs x) (h' : Rep.R S cs' y) (hT : Ty P T agg (Rep.z α) zero bb) (hE : EqTy P T) (k : Key P T α d) [DecidableEq α]
    (e : decide (x = y) = c) : Qt P l (.binOp .eql T a b U) S M (.bool c) := by subst e; exact qt_eqlK ha hb h h' hT hE k
theorem qt_neqK_b {T U : TypeId} {d : Nat} {a b : Operand} {agg : Bool} {zero : List Value} {bb : Nat} {cs cs' : List Value} {x y : α} {c : Bool} (ha : evF l a = .agg cs.toArray) (hb : evF l b = .agg cs'.toArray) (h : Rep.R S cs x) (h' : Rep.R S cs' y) (hT : Ty P T agg (Rep.z α) zero bb) (hE : EqTy P T) (k : Key P T α d) [DecidableEq α]
    (e : decide (x = y) = c) : Qt P l (.binOp .neq T a b U) S M (.bool (!c)) := by subst e; exact qt_neqK ha hb h h' hT hE k
end
theorem kq_bin {K : Act → Prop} {b : BinOp} {x y : Operand} {T U : TypeId} {g : Option (Nat × Bool)} {a : Act} (h : wpQuiet P ops (St S M) K (⟨dd, .binOp b T x y U, ty, pos, af, g⟩ :: rest) a) : wpQuiet P ops (St S M) K (⟨dd, .binOp b T x y U, ty, pos, af, g⟩ :: rest) a := h
theorem k_indexV {x y : Operand} {T : TypeId} {g : Option (Nat × Bool)} {a : Act} (h : wpList P ops Q (⟨dd, .index T x y, ty, pos, af, g⟩ :: rest) a w) : wpList P ops Q (⟨dd, .index T x y, ty, pos, af, g⟩ :: rest) a w := h
end Go.Sl
