/- Regions that draw their order and may panic: what does not look at memory is taken first, the rest comes in any order. General over the program. -/
import Derived.Test.YtmbdbfdlbbkclaaDoorSlPn
import Derived.Test.YtmbdbfdlbbkclaaDoorSlH
namespace Go.Sl
set_option linter.unusedSimpArgs false
set_option linter.unusedVariables false
open Go.RowKit
section
variable {P : Program} {lo : List Oper} {Q : Exit → Act → World → Prop} {K : Act → World → Prop} {S : Snap} {M : List Chunk} {l : List Value} {D : List Deferred} {w : World} {bs : List Bool} {f : Nat} {o : Oper} {v : Value}

/-- At a panic the temporaries do not matter. -/
def PanicQ (Q : Exit → Act → World → Prop) : Prop := ∀ c (a : Act) d v w, Q (.panic c) (a.put d v) w → Q (.panic c) a w
theorem put_defers (a : Act) (d : Option Tmp) (v : Value) : (a.put d v).defers = a.defers := by cases d <;> rfl
theorem panicQ_body {fn : Func} {R : Ending → World → Prop} : PanicQ (bodyPost P fn R) := fun c a d v w h => ⟨by rw [← put_defers a d v]; exact h.1, h.2⟩
theorem panicQ_then {K : Act → World → Prop} (h : PanicQ Q) : PanicQ (Exit.then K Q) := fun c a d v w k => h c a d v w k
theorem panicQ_block {id : Nat} (h : PanicQ Q) : PanicQ (Exit.inBlock id Q) := fun c a d v w k => h c a d v w k

abbrev AnyP (P : Program) (lo : List Oper) (Q : Exit → Act → World → Prop) (f : Nat) (bs : List Bool) (l : List Value) (D : List Deferred) (w : World) : Prop :=
  wpAnyH P .any lo.toArray Q (fun _ => True) f bs.toArray ⟨l.toArray, D⟩ w

theorem p_begin {id : Nat} (hst : St S M w) (hm : P.follows .mixedOrders = true) (h : ∀ w', St S M w' → AnyP P lo Q lo.length (List.replicate lo.length false) l D w') : (Code.region id lo.toArray true).wp P Q ⟨l.toArray, D⟩ w := by
  refine wp_region_held (S := fun _ => True) hm ?_
  have := h _ hst.drew
  simpa [AnyP] using this

theorem p_take (k : Nat) (hQ : PanicQ Q) (ho : lo[k]? = some o) (hs : Region.noSelect lo.toArray = true) (hf : Region.free .any lo.toArray bs.toArray k = true) (hr : (Region.ready .any lo.toArray bs.toArray).contains k = true)
    (hw : Region.wanted o (yielded lo.toArray l.toArray) = true) (hq : ∀ S M, Qt P l o.op S M v) (h : AnyP P lo Q f (bs.set k true) (putD l o.dst v) D w) : AnyP P lo Q (f + 1) bs l D w := by
  refine wpAnyH_take (i := k) (by simpa using ho) hs hf hr (fun c a w h => hQ c a _ _ w h) (.inl ⟨hw, fun w' _ => by rw [evF_eq]; exact hq (snapOf w') [] o.dst o.type o.pos o.after w' (St.start w')⟩) trivial ?_
  have e1 : bs.toArray.setIfInBounds k true = (bs.set k true).toArray := by simp
  have e2 : (⟨l.toArray, D⟩ : Act).put o.dst v = ⟨(putD l o.dst v).toArray, D⟩ := by cases o.dst <;> simp [Act.put, putD]
  rw [e1, e2]
  exact h

def RestP (P : Program) (lo : List Oper) (Q : Exit → Act → World → Prop) (f : Nat) (bs : List Bool) (K : Act → World → Prop) : Prop :=
  ∀ l D w, AnyP P lo Q f bs l D w → K ⟨l.toArray, D⟩ w
theorem p_core {k : Nat} (ho : lo[k]? = some o) (h : ∀ K, RestP P lo Q f (bs.set k true) K → wpList P lo.toArray (Exit.then K Q) [o] ⟨l.toArray, D⟩ w) :
    wpOp P lo.toArray Q k (fun a' w' => True ∧ wpAnyH P .any lo.toArray Q (fun _ => True) f (bs.toArray.setIfInBounds k true) a' w') ⟨l.toArray, D⟩ w := by
  refine wpOp_of_list (by simpa using ho) (h _ fun l D w hA => ⟨trivial, ?_⟩)
  have e1 : bs.toArray.setIfInBounds k true = (bs.set k true).toArray := by simp
  rw [e1]
  exact hA
theorem p_one (k : Nat) (ho : lo[k]? = some o) (hr : Region.ready .any lo.toArray bs.toArray = [k])
    (h : ∀ K, RestP P lo Q f (bs.set k true) K → wpList P lo.toArray (Exit.then K Q) [o] ⟨l.toArray, D⟩ w) : AnyP P lo Q (f + 1) bs l D w := by
  refine wpAnyH_all hr (by simp) fun i hi => ?_
  obtain rfl := List.mem_singleton.1 hi
  exact p_core ho h
theorem p_two (j k : Nat) {o' : Oper} (ho : lo[j]? = some o) (ho' : lo[k]? = some o') (hr : Region.ready .any lo.toArray bs.toArray = [j, k])
    (h : ∀ K, RestP P lo Q f (bs.set j true) K → wpList P lo.toArray (Exit.then K Q) [o] ⟨l.toArray, D⟩ w)
    (h' : ∀ K, RestP P lo Q f (bs.set k true) K → wpList P lo.toArray (Exit.then K Q) [o'] ⟨l.toArray, D⟩ w) : AnyP P lo Q (f + 1) bs l D w := by
  refine wpAnyH_all hr (by simp) fun i hi => ?_
  rcases List.mem_cons.1 hi with rfl | hi
  · exact p_core ho h
  · obtain rfl := List.mem_singleton.1 hi
    exact p_core ho' h'
theorem p_next {ops : Array Oper} {Q' : Exit → Act → World → Prop} (hK : RestP P lo Q f bs K) (h : AnyP P lo Q f bs l D w) : wpList P ops (Exit.then K Q') [] ⟨l.toArray, D⟩ w := hK l D w h
theorem p_done (hr : Region.ready .any lo.toArray bs.toArray = []) (h : Q .normal ⟨l.toArray, D⟩ w) : AnyP P lo Q f bs l D w := wpAnyH_done hr h f
theorem qt_nil {x : Operand} {a : Addr} (hx : evF l x = .pointer (some a)) : Qt P l (.nilCheck x) S M (.pointer (some a)) := fun dst ty pos af w _ => by simp [execOp, hx]
end
end Go.Sl
