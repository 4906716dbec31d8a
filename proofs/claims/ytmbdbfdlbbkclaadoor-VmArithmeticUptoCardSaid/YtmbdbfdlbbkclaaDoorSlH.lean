/- Regions that draw their order and make memory: what reads is taken first, the rest comes in any order. General over the program. -/
import Derived.Deep.RegionHeld3
import Derived.Test.YtmbdbfdlbbkclaaDoorSlN
import Derived.Test.YtmbdbfdlbbkclaaDoorSlX
namespace Go.Sl
set_option linter.unusedSimpArgs false
set_option linter.unusedVariables false
open Go.RowKit
section
variable {P : Program} {lo : List Oper} {Q : Exit → Act → World → Prop} {K : Act → World → Prop} {S : Snap} {M : List Chunk} {l : List Value} {D : List Deferred} {w : World} {bs : List Bool} {f : Nat} {o : Oper} {v : Value}

/-- Whatever order is picked from here on. -/
abbrev Any (P : Program) (lo : List Oper) (Q : Exit → Act → World → Prop) (S : Snap) (M : List Chunk) (f : Nat) (bs : List Bool) (l : List Value) (D : List Deferred) (w : World) : Prop :=
  wpAnyH P .any lo.toArray (NoPanic Q) (St S M) f bs.toArray ⟨l.toArray, D⟩ w

theorem h_begin {id : Nat} (hst : St S M w) (hm : P.follows .mixedOrders = true) (h : ∀ w', St S M w' → Any P lo Q S M lo.length (List.replicate lo.length false) l D w') : (Code.region id lo.toArray true).wp P Q ⟨l.toArray, D⟩ w := by
  refine wp_region_noPanic (wp_region_held_drew (S := St S M) hm hst.drew fun hd => ?_)
  have := h _ hd
  simpa [Any] using this

theorem take_core {k : Nat} (ho : lo[k]? = some o) (hs : Region.noSelect lo.toArray = true) (hf : Region.free .any lo.toArray bs.toArray k = true) (hr : (Region.ready .any lo.toArray bs.toArray).contains k = true)
    (hy : YieldsIf P lo.toArray (St S M) o v ⟨l.toArray, D⟩) (hst : St S M w) (h : Any P lo Q S M f (bs.set k true) (putD l o.dst v) D w) : Any P lo Q S M (f + 1) bs l D w := by
  refine wpAnyH_take (i := k) (by simpa using ho) hs hf hr (fun c a w h => h) hy hst ?_
  have e1 : bs.toArray.setIfInBounds k true = (bs.set k true).toArray := by simp
  have e2 : (⟨l.toArray, D⟩ : Act).put o.dst v = ⟨(putD l o.dst v).toArray, D⟩ := by cases o.dst <;> simp [Act.put, putD]
  rw [e1, e2]
  exact h

theorem h_take (k : Nat) (ho : lo[k]? = some o) (hs : Region.noSelect lo.toArray = true) (hf : Region.free .any lo.toArray bs.toArray k = true) (hr : (Region.ready .any lo.toArray bs.toArray).contains k = true)
    (hw : Region.wanted o (yielded lo.toArray l.toArray) = true) (hq : Qt P l o.op S M v) (hst : St S M w) (h : Any P lo Q S M f (bs.set k true) (putD l o.dst v) D w) : Any P lo Q S M (f + 1) bs l D w :=
  take_core ho hs hf hr (.inl ⟨hw, fun w' hw' => by rw [evF_eq]; exact hq o.dst o.type o.pos o.after w' hw'⟩) hst h
theorem h_takex (k : Nat) {F : Value → Prop} (ho : lo[k]? = some o) (hs : Region.noSelect lo.toArray = true) (hf : Region.free .any lo.toArray bs.toArray k = true) (hr : (Region.ready .any lo.toArray bs.toArray).contains k = true)
    (hw : Region.wanted o (yielded lo.toArray l.toArray) = true) (hq : ∃ v, F v ∧ Qt P l o.op S M v) (hst : St S M w) (h : ∀ v, F v → Any P lo Q S M f (bs.set k true) (putD l o.dst v) D w) : Any P lo Q S M (f + 1) bs l D w :=
  let ⟨v, hv, q⟩ := hq
  h_take k ho hs hf hr hw q hst (h v hv)
theorem h_takeno (k : Nat) (ho : lo[k]? = some o) (hs : Region.noSelect lo.toArray = true) (hf : Region.free .any lo.toArray bs.toArray k = true) (hr : (Region.ready .any lo.toArray bs.toArray).contains k = true)
    (hw : Region.wanted o (yielded lo.toArray l.toArray) = false) (hst : St S M w) (h : Any P lo Q S M f (bs.set k true) (putD l o.dst undef) D w) : Any P lo Q S M (f + 1) bs l D w :=
  take_core ho hs hf hr (.inr ⟨hw, rfl⟩) hst h

theorem wpOp_of_list {a : Act} {k : Nat} {ops : Array Oper} (ho : ops[k]? = some o) (h : wpList P ops (Exit.then K Q) [o] a w) : wpOp P ops Q k K a w := by
  unfold wpOp
  rw [ho]
  exact h

/-- What has been kept back while an operation runs. -/
def Rest (P : Program) (lo : List Oper) (Q : Exit → Act → World → Prop) (S : Snap) (M : List Chunk) (f : Nat) (bs : List Bool) (K : Act → World → Prop) : Prop :=
  ∀ l D w, St S M w → Any P lo Q S M f bs l D w → K ⟨l.toArray, D⟩ w

theorem run_core {k : Nat} (ho : lo[k]? = some o) (h : ∀ K, Rest P lo Q S M f (bs.set k true) K → wpList P lo.toArray (Exit.then K (NoPanic Q)) [o] ⟨l.toArray, D⟩ w) :
    wpOp P lo.toArray (NoPanic Q) k (fun a' w' => St S M w' ∧ wpAnyH P .any lo.toArray (NoPanic Q) (St S M) f (bs.toArray.setIfInBounds k true) a' w') ⟨l.toArray, D⟩ w := by
  refine wpOp_of_list (by simpa using ho) (h _ fun l D w hst hA => ⟨hst, ?_⟩)
  have e1 : bs.toArray.setIfInBounds k true = (bs.set k true).toArray := by simp
  rw [e1]
  exact hA

theorem h_one (k : Nat) (ho : lo[k]? = some o) (hr : Region.ready .any lo.toArray bs.toArray = [k])
    (h : ∀ K, Rest P lo Q S M f (bs.set k true) K → wpList P lo.toArray (Exit.then K (NoPanic Q)) [o] ⟨l.toArray, D⟩ w) : Any P lo Q S M (f + 1) bs l D w := by
  refine wpAnyH_all hr (by simp) fun i hi => ?_
  obtain rfl := List.mem_singleton.1 hi
  exact run_core ho h
theorem h_two (j k : Nat) {o' : Oper} (ho : lo[j]? = some o) (ho' : lo[k]? = some o') (hr : Region.ready .any lo.toArray bs.toArray = [j, k])
    (h : ∀ K, Rest P lo Q S M f (bs.set j true) K → wpList P lo.toArray (Exit.then K (NoPanic Q)) [o] ⟨l.toArray, D⟩ w)
    (h' : ∀ K, Rest P lo Q S M f (bs.set k true) K → wpList P lo.toArray (Exit.then K (NoPanic Q)) [o'] ⟨l.toArray, D⟩ w) : Any P lo Q S M (f + 1) bs l D w := by
  refine wpAnyH_all hr (by simp) fun i hi => ?_
  rcases List.mem_cons.1 hi with rfl | hi
  · exact run_core ho h
  · obtain rfl := List.mem_singleton.1 hi
    exact run_core ho' h'
theorem h_next {ops : Array Oper} {Q' : Exit → Act → World → Prop} (hK : Rest P lo Q S M f bs K) (hst : St S M w) (h : Any P lo Q S M f bs l D w) : wpList P ops (Exit.then K Q') [] ⟨l.toArray, D⟩ w := hK l D w hst h
theorem h_done (hr : Region.ready .any lo.toArray bs.toArray = []) (h : Q .normal ⟨l.toArray, D⟩ w) : Any P lo Q S M f bs l D w := wpAnyH_done hr (NoPanic.normal h) f
theorem g_any (h : Any P lo Q S M f bs l D w) : Any P lo Q S M f bs l D w := h
theorem g_nil {ops : Array Oper} {a : Act} (h : wpList P ops Q [] a w) : wpList P ops Q [] a w := h
theorem g_cons {ops : Array Oper} {rest : List Oper} {a : Act} (h : wpList P ops Q (o :: rest) a w) : wpList P ops Q (o :: rest) a w := h
theorem k_lit {ops : Array Oper} {rest : List Oper} {a : Act} {dd : Option Tmp} {T ty : TypeId} {n : Nat} {ps : Array (Nat × Operand)} {pos : String} {af : Array Edge} {g : Option (Nat × Bool)} (h : wpList P ops Q (⟨dd, .buildSlice T n ps, ty, pos, af, g⟩ :: rest) a w) : wpList P ops Q (⟨dd, .buildSlice T n ps, ty, pos, af, g⟩ :: rest) a w := h
end
end Go.Sl
