/- The statement EvidenceOmission. -/
import Derived.Recover
import Derived.Test.YtgihhhdeoaplhaaDoorBa
import Derived.Test.YtgihhhdeoaplhaaDoorBb
import Derived.Test.YtgihhhdeoaplhaaDoorBj
import Derived.Test.YtgihhhdeoaplhaaDoorBg

/- Calls that panic. General over the program. -/
namespace Go.Sl
set_option linter.unusedSimpArgs false
set_option linter.unusedVariables false
open Go.RowKit
variable {P : Program}

/-- The call panics; 'post' of the world behind it. -/
def Pans (P : Program) (f : FuncId) (args : List Value) (w : World) (ch : List PanicEntry) (post : World → Prop) : Prop :=
  Calls P f args.toArray w fun e w' => e = .panicked ch ∧ post w'

section
variable {ops : Array Oper} {rest : List Oper} {Q : Exit → Act → World → Prop} {l : List Value} {D : List Deferred} {w : World} {ty : TypeId} {pos : String} {af : Array Edge}

theorem Pans.mono {f : FuncId} {args : List Value} {ch : List PanicEntry} {post post' : World → Prop} (h : Pans P f args w ch post) (hp : ∀ w', post w' → post' w') : Pans P f args w ch post' :=
  Calls.mono h fun _ w' ⟨e, p⟩ => ⟨e, hp w' p⟩

theorem step_enterP {o : Oper} (hg : o.guard = none) {f : FuncId} {args : List Value} {ch : List PanicEntry} {post : World → Prop} (hr : (execOp (evF l) o).run P w = .ok (.enter f args.toArray) w)
    (c : Pans P f args w ch post) (h : ∀ w', post w' → Q (.panic ch) ⟨l.toArray, D⟩ w') : wpList P ops Q (o :: rest) ⟨l.toArray, D⟩ w := by
  refine wpList_plain hg fun K _ => ?_
  unfold Oper.wp
  rw [evF_eq, hr]
  refine Calls.mono c fun e w' ⟨he, hp⟩ => ?_
  subst he
  exact h w' hp

/-- A call of a function that is named. -/
theorem s_callP {f : FuncId} {xs : List Operand} {ats : Array TypeId} {args : List Value} {dd : Option Tmp} {ch : List PanicEntry} {post : World → Prop} (c : Pans P f args w ch post) (hb : Body P f) (ha : xs.map (evF l) = args)
    (h : ∀ w', post w' → Q (.panic ch) ⟨l.toArray, D⟩ w') :
    wpList P ops Q (⟨dd, .call { callee := .value (.func f), args := xs.toArray, argTypes := ats }, ty, pos, af, none⟩ :: rest) ⟨l.toArray, D⟩ w := by
  refine step_enterP rfl ?_ c h
  subst ha
  have := hb.enter (w := w) (xs.map (evF l)).toArray
  simp only [execOp, resolve, Deferred.ofValue, evF, Sem.run_bind, Sem.run_pure, Result.andThen_ok, invoke]
  simpa using this

/-- A call of a function value. -/
theorem s_callvP {f : FuncId} {x : Operand} {xs : List Operand} {ats : Array TypeId} {args args' : List Value} {fi ca : List Value} {dd : Option Tmp} {ch : List PanicEntry} {post : World → Prop} (c : Pans P f args' w ch post) (hx : evF l x = .func (.func f) fi.toArray ca.toArray) (hb : Body P f) (ha : xs.map (evF l) = args)
    (hargs : fi ++ args ++ ca = args') (h : ∀ w', post w' → Q (.panic ch) ⟨l.toArray, D⟩ w') :
    wpList P ops Q (⟨dd, .call { callee := .value x, args := xs.toArray, argTypes := ats }, ty, pos, af, none⟩ :: rest) ⟨l.toArray, D⟩ w := by
  refine step_enterP rfl ?_ c h
  subst ha; subst hargs
  have := hb.enter (w := w) (fi ++ xs.map (evF l) ++ ca).toArray
  simp only [execOp, resolve, hx, Deferred.ofValue, Sem.run_bind, Sem.run_pure, Result.andThen_ok, invoke]
  simpa using this

theorem s_panic {x : Operand} {T : TypeId} {v : Value} (hx : evF l x = .iface T v) (h : Q (.panic [{ v := .iface T v, recovered := false }]) ⟨l.toArray, D⟩ w) :
    wpList P ops Q (⟨none, .panic x, ty, pos, af, none⟩ :: rest) ⟨l.toArray, D⟩ w := by
  refine wpList_plain rfl fun K _ => ?_
  unfold Oper.wp
  rw [evF_eq]
  have hr : (execOp (evF l) ⟨none, .panic x, ty, pos, af, none⟩).run P w = .halt (.panic (.iface T v)) w := by
    simp only [execOp, hx, Sem.run_bind, run_panic_iface]
    rfl
  rw [hr]
  exact h

/-- A pointer into an own slice is not nil. -/
theorem s_nilO {d : Tmp} {x : Operand} {v p : Value} {o : Nat} (hx : evF l x = p) (hp : PtO v p o) (h : wpList P ops Q rest ⟨(l.set d p).toArray, D⟩ w) :
    wpList P ops Q (⟨some d, .nilCheck x, ty, pos, af, none⟩ :: rest) ⟨l.toArray, D⟩ w := by
  obtain ⟨g, n, cap, rfl, rfl⟩ := hp
  refine step_value (w' := w) ?_ h
  simp [execOp, hx]

theorem panic_end {fn : Func} {ch : List PanicEntry} {post : World → Prop} {a : Act} (ha : a.defers = []) (h : post w) : bodyPost P fn (fun e w' => e = .panicked ch ∧ post w') (.panic ch) a w := ⟨ha, rfl, h⟩
end
theorem dtX {ok : Bool} (h : ok = true := by first | rfl | assumption | exact decide_eq_true (by omega)) : ok = true := h
theorem dfX {ok : Bool} (h : ok = false := by first | rfl | assumption | exact decide_eq_false (by omega)) : ok = false := h
end Go.Sl

/- Regions that draw their order and may panic: what does not look at memory is taken first, the rest comes in any order. General over the program. -/
namespace Go.Sl
set_option linter.unusedSimpArgs false
set_option linter.unusedVariables false
open Go.RowKit
section
variable {P : Program} {lo : List Oper} {Q : Exit → Act → World → Prop} {K : Act → World → Prop} {S : Snap} {M : List Chunk} {l : List Value} {D : List Deferred} {w : World} {bs : List Bool} {f : Nat} {o : Oper} {v : Value}

/-- At a panic the temporaries do not matter. -/
def PanicQ (Q : Exit → Act → World → Prop) : Prop := ∀ c (a : Act) d v w, Q (.panic c) (a.put d v) w → Q (.panic c) a w
theorem put_defers (a : Act) (d : Option Tmp) (v : Value) : (a.put d v).defers = a.defers := by cases d <;> rfl
theorem panicQ_body {fn : Func} {R : Ending → World → Prop} : PanicQ (bodyPost P fn R) := fun c a d v w h => ⟨by rw [← put_defers a d v]; exact h.1, h.2⟩
theorem panicQ_then {K : Act → World → Prop} (h : PanicQ Q) : PanicQ (Exit.then K Q) := fun c a d v w k => h c a d v w k
theorem panicQ_block {id : Nat} (h : PanicQ Q) : PanicQ (Exit.inBlock id Q) := fun c a d v w k => h c a d v w k

abbrev AnyP (P : Program) (lo : List Oper) (Q : Exit → Act → World → Prop) (f : Nat) (bs : List Bool) (l : List Value) (D : List Deferred) (w : World) : Prop :=
  wpAnyH P .any lo.toArray Q (fun _ => True) f bs.toArray ⟨l.toArray, D⟩ w

theorem p_begin {id : Nat} (hst : St S M w) (hm : P.follows .mixedOrders = true) (h : ∀ w', St S M w' → AnyP P lo Q lo.length (List.replicate lo.length false) l D w') : (Code.region id lo.toArray true).wp P Q ⟨l.toArray, D⟩ w := by
  refine wp_region_held (S := fun _ => True) hm ?_
  have := h _ hst.drew
  simpa [AnyP] using this

theorem p_take (k : Nat) (hQ : PanicQ Q) (ho : lo[k]? = some o) (hs : Region.noSelect lo.toArray = true) (hf : Region.free .any lo.toArray bs.toArray k = true) (hr : (Region.ready .any lo.toArray bs.toArray).contains k = true)
    (hw : Region.wanted o (yielded lo.toArray l.toArray) = true) (hq : ∀ S M, Qt P l o.op S M v) (h : AnyP P lo Q f (bs.set k true) (putD l o.dst v) D w) : AnyP P lo Q (f + 1) bs l D w := by
  refine wpAnyH_take (i := k) (by simpa using ho) hs hf hr (fun c a w h => hQ c a _ _ w h) (.inl ⟨hw, fun w' _ => by rw [evF_eq]; exact hq (snapOf w') [] o.dst o.type o.pos o.after w' (St.start w')⟩) trivial ?_
  have e1 : bs.toArray.setIfInBounds k true = (bs.set k true).toArray := by simp
  have e2 : (⟨l.toArray, D⟩ : Act).put o.dst v = ⟨(putD l o.dst v).toArray, D⟩ := by cases o.dst <;> simp [Act.put, putD]
  rw [e1, e2]
  exact h

def RestP (P : Program) (lo : List Oper) (Q : Exit → Act → World → Prop) (f : Nat) (bs : List Bool) (K : Act → World → Prop) : Prop :=
  ∀ l D w, AnyP P lo Q f bs l D w → K ⟨l.toArray, D⟩ w
theorem p_core {k : Nat} (ho : lo[k]? = some o) (h : ∀ K, RestP P lo Q f (bs.set k true) K → wpList P lo.toArray (Exit.then K Q) [o] ⟨l.toArray, D⟩ w) :
    wpOp P lo.toArray Q k (fun a' w' => True ∧ wpAnyH P .any lo.toArray Q (fun _ => True) f (bs.toArray.setIfInBounds k true) a' w') ⟨l.toArray, D⟩ w := by
  refine wpOp_of_list (by simpa using ho) (h _ fun l D w hA => ⟨trivial, ?_⟩)
  have e1 : bs.toArray.setIfInBounds k true = (bs.set k true).toArray := by simp
  rw [e1]
  exact hA
theorem p_one (k : Nat) (ho : lo[k]? = some o) (hr : Region.ready .any lo.toArray bs.toArray = [k])
    (h : ∀ K, RestP P lo Q f (bs.set k true) K → wpList P lo.toArray (Exit.then K Q) [o] ⟨l.toArray, D⟩ w) : AnyP P lo Q (f + 1) bs l D w := by
  refine wpAnyH_all hr (by simp) fun i hi => ?_
  obtain rfl := List.mem_singleton.1 hi
  exact p_core ho h
theorem p_two (j k : Nat) {o' : Oper} (ho : lo[j]? = some o) (ho' : lo[k]? = some o') (hr : Region.ready .any lo.toArray bs.toArray = [j, k])
    (h : ∀ K, RestP P lo Q f (bs.set j true) K → wpList P lo.toArray (Exit.then K Q) [o] ⟨l.toArray, D⟩ w)
    (h' : ∀ K, RestP P lo Q f (bs.set k true) K → wpList P lo.toArray (Exit.then K Q) [o'] ⟨l.toArray, D⟩ w) : AnyP P lo Q (f + 1) bs l D w := by
  refine wpAnyH_all hr (by simp) fun i hi => ?_
  rcases List.mem_cons.1 hi with rfl | hi
  · exact p_core ho h
  · obtain rfl := List.mem_singleton.1 hi
    exact p_core ho' h'
theorem p_next {ops : Array Oper} {Q' : Exit → Act → World → Prop} (hK : RestP P lo Q f bs K) (h : AnyP P lo Q f bs l D w) : wpList P ops (Exit.then K Q') [] ⟨l.toArray, D⟩ w := hK l D w h
theorem p_done (hr : Region.ready .any lo.toArray bs.toArray = []) (h : Q .normal ⟨l.toArray, D⟩ w) : AnyP P lo Q f bs l D w := wpAnyH_done hr h f
theorem qt_nil {x : Operand} {a : Addr} (hx : evF l x = .pointer (some a)) : Qt P l (.nilCheck x) S M (.pointer (some a)) := fun dst ty pos af w _ => by simp [execOp, hx]
end
end Go.Sl

/- Regions that draw their order: what reads what lay there at the start is taken first, the rest comes in any order, the state free behind each step. General over the program. -/
namespace Go.Sl
set_option linter.unusedSimpArgs false
set_option linter.unusedVariables false
open Go.RowKit
section
variable {P : Program} {lo : List Oper} {Q : Exit → Act → World → Prop} {K : Act → World → Prop} {S S0 : Snap} {M : List Chunk} {l : List Value} {D : List Deferred} {w : World} {bs : List Bool} {f : Nat} {o : Oper} {v : Value}

theorem St.nilM : ∀ {M : List Chunk}, St S M w → St S [] w
  | [], h => h
  | _ :: _, h => St.nilM h.drop
theorem St.cls (hS : S0.Le S) (h : St S M w) : St S0 [] w := St.weaken hS h.nilM

theorem RL.set {α : Type} [Rep α] {c cs : List Value} {xs : List α} {y : α} {k : Nat} (h : RL S c xs) (hy : Rep.R S cs y) (hk : k < xs.length) : RL S (c.take (k * Rep.z α) ++ cs ++ c.drop (k * Rep.z α + Rep.z α)) (xs.set k y) := by
  have e : xs.set k y = (xs.take k ++ [y]) ++ xs.drop (k + 1) := by
    rw [List.set_eq_take_append_cons_drop, if_pos hk]
    simp
  rw [e]
  have h1 := h.sub 0 k (by omega)
  rw [Nat.zero_mul, List.drop_zero, List.drop_zero] at h1
  have h2 := h.sub (k + 1) (xs.length - (k + 1)) (by omega)
  have hl := h.1
  rw [List.take_of_length_le (l := xs.drop (k + 1)) (by rw [List.length_drop]; exact Nat.le_refl _), List.take_of_length_le (l := c.drop ((k + 1) * Rep.z α)) (by rw [List.length_drop, hl, ← Nat.sub_mul]; exact Nat.le_refl _), Nat.succ_mul] at h2
  exact (h1.append (RL.one_mk hy)).append h2
theorem le_of (_ : St S M w) : S.Le S := Snap.Le.refl S

abbrev AnyS (P : Program) (lo : List Oper) (Q : Exit → Act → World → Prop) (S0 : Snap) (f : Nat) (bs : List Bool) (l : List Value) (D : List Deferred) (w : World) : Prop :=
  wpAnyH P .any lo.toArray Q (fun w => St S0 [] w) f bs.toArray ⟨l.toArray, D⟩ w

theorem ps_begin {id : Nat} (hst : St S M w) (hm : P.follows .mixedOrders = true) (h : ∀ w', St S M w' → AnyS P lo Q S lo.length (List.replicate lo.length false) l D w') : (Code.region id lo.toArray true).wp P Q ⟨l.toArray, D⟩ w := by
  refine wp_region_held (S := fun w => St S [] w) hm ?_
  have := h _ hst.drew
  simpa [AnyS] using this

theorem ps_take (k : Nat) (hQ : PanicQ Q) (ho : lo[k]? = some o) (hs : Region.noSelect lo.toArray = true) (hf : Region.free .any lo.toArray bs.toArray k = true) (hr : (Region.ready .any lo.toArray bs.toArray).contains k = true)
    (hw : Region.wanted o (yielded lo.toArray l.toArray) = true) (hc : St S0 [] w) (hq : Qt P l o.op S0 [] v) (h : AnyS P lo Q S0 f (bs.set k true) (putD l o.dst v) D w) : AnyS P lo Q S0 (f + 1) bs l D w := by
  refine wpAnyH_take (i := k) (by simpa using ho) hs hf hr (fun c a w h => hQ c a _ _ w h) (.inl ⟨hw, fun w' hw' => by rw [evF_eq]; exact hq o.dst o.type o.pos o.after w' hw'⟩) hc ?_
  have e1 : bs.toArray.setIfInBounds k true = (bs.set k true).toArray := by simp
  have e2 : (⟨l.toArray, D⟩ : Act).put o.dst v = ⟨(putD l o.dst v).toArray, D⟩ := by cases o.dst <;> simp [Act.put, putD]
  rw [e1, e2]
  exact h
theorem ps_takex (k : Nat) {F : Value → Prop} (hQ : PanicQ Q) (ho : lo[k]? = some o) (hs : Region.noSelect lo.toArray = true) (hf : Region.free .any lo.toArray bs.toArray k = true) (hr : (Region.ready .any lo.toArray bs.toArray).contains k = true)
    (hw : Region.wanted o (yielded lo.toArray l.toArray) = true) (hc : St S0 [] w) (hq : ∃ v, F v ∧ Qt P l o.op S0 [] v) (h : ∀ v, F v → AnyS P lo Q S0 f (bs.set k true) (putD l o.dst v) D w) : AnyS P lo Q S0 (f + 1) bs l D w :=
  let ⟨v, hv, q⟩ := hq; ps_take k hQ ho hs hf hr hw hc q (h v hv)
theorem ps_takeno (k : Nat) (hQ : PanicQ Q) (ho : lo[k]? = some o) (hs : Region.noSelect lo.toArray = true) (hf : Region.free .any lo.toArray bs.toArray k = true) (hr : (Region.ready .any lo.toArray bs.toArray).contains k = true)
    (hw : Region.wanted o (yielded lo.toArray l.toArray) = false) (hc : St S0 [] w) (h : AnyS P lo Q S0 f (bs.set k true) (putD l o.dst undef) D w) : AnyS P lo Q S0 (f + 1) bs l D w := by
  refine wpAnyH_take (i := k) (v := undef) (by simpa using ho) hs hf hr (fun c a w h => hQ c a _ _ w h) (.inr ⟨hw, rfl⟩) hc ?_
  have e1 : bs.toArray.setIfInBounds k true = (bs.set k true).toArray := by simp
  have e2 : (⟨l.toArray, D⟩ : Act).put o.dst undef = ⟨(putD l o.dst undef).toArray, D⟩ := by cases o.dst <;> simp [Act.put, putD]
  rw [e1, e2]
  exact h

def RestS (P : Program) (lo : List Oper) (Q : Exit → Act → World → Prop) (S0 : Snap) (f : Nat) (bs : List Bool) (K : Act → World → Prop) : Prop :=
  ∀ l D w, St S0 [] w → AnyS P lo Q S0 f bs l D w → K ⟨l.toArray, D⟩ w
theorem ps_core {k : Nat} (ho : lo[k]? = some o) (h : ∀ K, RestS P lo Q S0 f (bs.set k true) K → wpList P lo.toArray (Exit.then K Q) [o] ⟨l.toArray, D⟩ w) :
    wpOp P lo.toArray Q k (fun a' w' => St S0 [] w' ∧ wpAnyH P .any lo.toArray Q (fun w => St S0 [] w) f (bs.toArray.setIfInBounds k true) a' w') ⟨l.toArray, D⟩ w := by
  refine wpOp_of_list (by simpa using ho) (h _ fun l D w hc hA => ⟨hc, ?_⟩)
  have e1 : bs.toArray.setIfInBounds k true = (bs.set k true).toArray := by simp
  rw [e1]
  exact hA
theorem ps_one (k : Nat) (ho : lo[k]? = some o) (hr : Region.ready .any lo.toArray bs.toArray = [k])
    (h : ∀ K, RestS P lo Q S0 f (bs.set k true) K → wpList P lo.toArray (Exit.then K Q) [o] ⟨l.toArray, D⟩ w) : AnyS P lo Q S0 (f + 1) bs l D w := by
  refine wpAnyH_all hr (by simp) fun i hi => ?_
  obtain rfl := List.mem_singleton.1 hi
  exact ps_core ho h
theorem ps_two (j k : Nat) {o' : Oper} (ho : lo[j]? = some o) (ho' : lo[k]? = some o') (hr : Region.ready .any lo.toArray bs.toArray = [j, k])
    (h : ∀ K, RestS P lo Q S0 f (bs.set j true) K → wpList P lo.toArray (Exit.then K Q) [o] ⟨l.toArray, D⟩ w)
    (h' : ∀ K, RestS P lo Q S0 f (bs.set k true) K → wpList P lo.toArray (Exit.then K Q) [o'] ⟨l.toArray, D⟩ w) : AnyS P lo Q S0 (f + 1) bs l D w := by
  refine wpAnyH_all hr (by simp) fun i hi => ?_
  rcases List.mem_cons.1 hi with rfl | hi
  · exact ps_core ho h
  · obtain rfl := List.mem_singleton.1 hi
    exact ps_core ho' h'
theorem ps_three (i j k : Nat) {o' o'' : Oper} (ho : lo[i]? = some o) (ho' : lo[j]? = some o') (ho'' : lo[k]? = some o'') (hr : Region.ready .any lo.toArray bs.toArray = [i, j, k])
    (h : ∀ K, RestS P lo Q S0 f (bs.set i true) K → wpList P lo.toArray (Exit.then K Q) [o] ⟨l.toArray, D⟩ w)
    (h' : ∀ K, RestS P lo Q S0 f (bs.set j true) K → wpList P lo.toArray (Exit.then K Q) [o'] ⟨l.toArray, D⟩ w)
    (h'' : ∀ K, RestS P lo Q S0 f (bs.set k true) K → wpList P lo.toArray (Exit.then K Q) [o''] ⟨l.toArray, D⟩ w) : AnyS P lo Q S0 (f + 1) bs l D w := by
  refine wpAnyH_all hr (by simp) fun q hi => ?_
  rcases List.mem_cons.1 hi with rfl | hi
  · exact ps_core ho h
  · rcases List.mem_cons.1 hi with rfl | hi
    · exact ps_core ho' h'
    · obtain rfl := List.mem_singleton.1 hi
      exact ps_core ho'' h''
theorem ps_next {ops : Array Oper} {Q' : Exit → Act → World → Prop} (hK : RestS P lo Q S0 f bs K) (hc : St S0 [] w) (h : AnyS P lo Q S0 f bs l D w) : wpList P ops (Exit.then K Q') [] ⟨l.toArray, D⟩ w := hK l D w hc h
theorem ps_done (hr : Region.ready .any lo.toArray bs.toArray = []) (h : Q .normal ⟨l.toArray, D⟩ w) : AnyS P lo Q S0 f bs l D w := wpAnyH_done hr h f
end
end Go.Sl

/- The statement EvidenceOmission, walked. -/
--@u32
--@hgp
--@flat
--@dg
--@ex0
namespace Go.Proofs.YtgihhhdeoaplhaaDoor
set_option linter.unusedSimpArgs false
set_option linter.unusedVariables false
open Go.RowKit Go.Sl

theorem tk_hdI {h : Hd} (k : HdOk h) : ((hdC h).drop 16).take 16 = u8s h.2.1.l := by
  have h1 : (u8s h.1.l).length = 16 := by rw [u8s_length]; exact k.a
  have h2 : (u8s h.2.1.l).length = 16 := by rw [u8s_length]; exact k.b
  show ((u8s h.1.l ++ (u8s h.2.1.l ++ _)).drop 16).take 16 = _
  rw [List.drop_append_of_le_length (by omega), List.drop_of_length_le (by omega), List.nil_append, List.take_append_of_le_length (by omega), List.take_of_length_le (by omega)]
theorem len_hdI {h : Hd} (k : HdOk h) : (u8s h.2.1.l).length = 16 := by rw [u8s_length]; exact k.b

set_option maxRecDepth 8000 in
set_option maxHeartbeats 8000000 in
theorem eomit_c {S M} (w : World) (hst : St S M w) (hG : Glob S) (m : Dg) (hm : m.l.length = 16) (vl : Value) (log : List Ev) (hl : RSl S vl log) (hlm : log.length ≤ 1048576) (a : Nat) (ha : a ≤ 255) (b : Nat) (hb : b ≤ 255) :
    Rets Tryd.prog 7 [dgV m, vl, .int .u8 (a : Int), .int .u8 (b : Int)] w fun v w' => v = .bool true ∧ St S M w' := by
  unfold Rets
  have hl1 := hl.oneCell
  obtain ⟨a0, a1, a2, a3, a4, a5, a6, a7, a8, a9, c0, c1, c2, c3, c4, c5, rfl⟩ := dg16 hm
  obtain ⟨z, hz⟩ : ∃ z, fewN log = z := ⟨_, rfl⟩
  have cFw := fun {S : Snap} {M : List Chunk} (w : World) (hst : St S M w) (hl : RSl S vl log) => (fewN_c w hst vl log hl hlm).eq hz
  cases z with
  | false =>
    go_enter Tryd.func7, Tryd.ntmps7
    repeat' (first | go_skip | (((with_reducible refine Sl.k_call ?_; (first | (refine s_call (esanity_c _ hst hG) inX rfl ?_; clear hst; rintro v w ⟨rfl, hst⟩) | (refine s_call (cFw _ hst hl) inX rfl ?_; clear hst; rintro v w ⟨rfl, hst⟩)))) <;> (try refine nY ?_) <;> (try replace hst := nH hst)) | ((fail_if_success (go_big_may)); (go_step)) | (with_reducible refine Sl.gate rfl ?_; (go_step)) | (((((refine s_box hst evX rfl ?_; clear hst; intro bx w hst)))) <;> (try refine nY ?_) <;> (try replace hst := nH hst)))
    go_ret
    exact ⟨_, rfl, rfl, hst.drop⟩
  | true =>
    obtain ⟨h6, hX⟩ := fewN_of hz
    have hok : ∀ e ∈ log, evOk e := fun e he => (hX e he).ok
    have h6' : log.length ≤ 1000 := by omega
    clear hz hX
    by_cases h0 : log.length = 0
    · have h00 : ((log.length : Int) == 0) = true := beq_iff_eq.2 (by omega)
      clear h0
      go_enter Tryd.func7, Tryd.ntmps7
      repeat' (first | ((first | (with_reducible refine Sl.k_bin ?_; (refine s_qt hst (qt_eql_b rfl rfl h00) ?_)) | (with_reducible refine Sl.k_guard ?_; ((refine Sl.guard_yes rfl ?_)))) <;> (try refine nY ?_)) | (((with_reducible refine Sl.k_call ?_; (first | (refine s_call (esanity_c _ hst hG) inX rfl ?_; clear hst; rintro v w ⟨rfl, hst⟩) | (refine s_call (cFw _ hst hl) inX rfl ?_; clear hst; rintro v w ⟨rfl, hst⟩)))) <;> (try refine nY ?_) <;> (try replace hst := nH hst)) | ((fail_if_success (go_big_may)); (go_step)) | (((with_reducible refine Sl.k_call ?_; (refine s_qt hst (by exact qt_len evX asX inX) ?_))) <;> (try refine nY ?_)) | (with_reducible refine Sl.gate rfl ?_; (go_step)) | (((((refine s_box hst evX rfl ?_; clear hst; intro bx w hst)))) <;> (try refine nY ?_) <;> (try replace hst := nH hst)))
      go_ret
      exact ⟨_, rfl, rfl, hst.drop⟩
    · have h00 : ((log.length : Int) == 0) = false := beq_eq_false_iff_ne.2 (by omega)
      have hkl : a % log.length < log.length := Nat.mod_lt _ (by omega)
      obtain ⟨k, hke, hkl⟩ : ∃ k : Nat, ((a : Int) % (log.length : Int)) = (k : Int) ∧ k < log.length := ⟨a % log.length, by omega, hkl⟩
      have hl0 : 1 ≤ log.length := by omega
      clear h0
      have cN := fun {S' : Snap} {M : List Chunk} (w : World) (hS : S.Le S') (hst : St S' M w) => (make_c w hst (hG.mono hS) _ hm vl log (hl.mono hS) h6' hok (.slice none 0 0) [] rsl_nilR (by simp)).mono fun v w' h => make_some h (ps := []) rfl
      have hls : (log.map headM).length = log.length := List.length_map _
      have hne : (((log.map headM).length : Int) != (log.length : Int)) = false := bne_eq_false_iff_eq.2 (by rw [hls])
      generalize log.map headM = hs at *
      have hs10 : hs.length ≤ 10 := by omega
      have hkh : k < hs.length := by omega
      have hl2 : hs.length ≤ log.length ∧ log.length ≤ hs.length := by omega
      clear hls
      go_enter Tryd.func7, Tryd.ntmps7
      repeat' ((fail_if_success (with_reducible show Code.wp _ (Code.region 5 _ _) _ _ _)); first | ((first | (with_reducible refine Sl.k_bin ?_; (refine s_qt hst (qt_eql_b rfl rfl h00) ?_)) | (with_reducible refine Sl.k_guard ?_; ((refine Sl.guard_yes rfl ?_)))) <;> (try refine nY ?_)) | (((with_reducible refine Sl.k_call ?_; (first | (refine s_call (esanity_c _ hst hG) inX rfl ?_; clear hst; rintro v w ⟨rfl, hst⟩) | (refine s_call (cFw _ hst hl) inX rfl ?_; clear hst; rintro v w ⟨rfl, hst⟩) | (refine s_call (cN _ (Snap.Le.refl _) hst) inX rfl ?_; clear hst; rintro v w ⟨S1, cm1, hS1, rfl, hR1, hst⟩)))) <;> (try refine nY ?_) <;> (try replace hst := nH hst)) | ((fail_if_success (go_big_may)); (go_step)) | ((first | (with_reducible refine Sl.k_load ?_; (refine s_qt hst (by exact qt_loadA evX BoxIn.h inX rfX) ?_)) | (with_reducible refine Sl.k_call ?_; (refine s_qt hst (by exact qt_len evX asX inX) ?_))) <;> (try refine nY ?_)) | (with_reducible refine Sl.gate rfl ?_; (go_step)) | ((((first | (refine s_box hst evX rfl ?_; clear hst; intro bx w hst) | (refine s_alloc hst inX ?_; clear hst; intro bk w hst)))) <;> (try refine nY ?_) <;> (try replace hst := nH hst)))
      refine s_stW0 hst rfl BoxIn.h inX (x0 := (((⟨[a0, a1, a2, a3, a4, a5, a6, a7, a8, a9, c0, c1, c2, c3, c4, c5]⟩ : Dg), hs, [], ()) : Evd)) (cs := cm1) evX hR1 rfl ?_
      clear hst; intro w hst
      (try refine nY ?_)
      (try replace hst := nH hst)
      repeat' ((fail_if_success (with_reducible show Code.wp _ (Code.region 5 _ _) _ _ _)); ((fail_if_success (go_big_may)); (go_step)))
      have hst0 := hst
      clear hst
      obtain ⟨S2, hS2, hst, hpe⟩ := pt_box (α := Evd) hst0 hR1 (Rep.len hR1)
      clear hst0
      generalize Value.pointer (some ⟨bk, 0, none⟩) = pE at *
      replace hG := hG.mono (hS1.trans hS2)
      have hle := hS1.trans hS2
      replace hl := hl.mono hle
      have hh2 := evd_hd hR1
      dsimp only at hh2
      repeat' ((fail_if_success (with_reducible show Code.wp _ (Code.region 8 _ _) _ _ _)); first | ((first | (with_reducible refine Sl.k_bin ?_; (refine s_qt hst (qt_neq_b rfl rfl hne) ?_)) | (with_reducible refine Sl.k_guard ?_; ((refine Sl.guard_yes rfl ?_)))) <;> (try refine nY ?_)) | ((fail_if_success (go_big_may)); (go_step)) | ((first | (with_reducible refine Sl.k_load ?_; ((refine s_ex hst (qt_ldp_list evX asX inX) ?_; rintro v ⟨hvl, hv1⟩))) | (with_reducible refine Sl.k_field ?_; (((refine s_ex hst (qt_fieldp evX asX inX inX rfl) ?_); rintro v hp; (try simp only [Int.toNat_natCast, Int.toNat_natCast_add_one, Int.reduceToNat] at hp)))) | (with_reducible refine Sl.k_call ?_; (refine s_qt hst (by exact qt_len evX asX inX) ?_))) <;> (try refine nY ?_)) | (with_reducible refine Sl.gate rfl ?_; (go_step)))
      simp only [hke]
      clear hke
      repeat' ((fail_if_success (with_reducible show Code.wp _ (Code.region 8 _ _) _ _ _)); fail)
      refine wp_region_lit ?_
      refine s_ex hst (qt_ldp evX hpe inX) ?_
      rintro v ⟨cl, rfl, hcl⟩
      obtain ⟨u8, p8, rfl, hu8, hp8⟩ := evB_ofM hcl
      obtain ⟨ua, un, uc, rfl⟩ := rsl_formE hu8
      obtain ⟨na, nn, nc, rfl⟩ := rsl_formE hp8
      (try refine nY ?_)
      repeat' ((fail_if_success (with_reducible show Code.wp _ (Code.region 10 _ _) _ _ _)); first | ((fail_if_success (go_big_may)); (go_step)) | (with_reducible refine Sl.gate rfl ?_; (go_step)) | ((((first | (with_reducible refine Sl.k_store ?_; (refine s_stR hst rfl BoxIn.h evX asX inX rfl rfl ?_); clear hst; intro w hst) | (refine s_alloc hst inX ?_; clear hst; intro bk w hst)))) <;> (try refine nY ?_) <;> (try replace hst := nH hst)))
      have hnil := hp8
      rcases (show (b : Int) % 3 = 0 ∨ (b : Int) % 3 = 1 ∨ (b : Int) % 3 = 2 by omega) with hqe | hqe | hqe
      · simp only [hqe]
        clear hqe
        repeat' ((fail_if_success (with_reducible show Code.wp _ (Code.region 11 _ _) _ _ _)); first | ((fail_if_success (go_big_may)); (go_step)) | (with_reducible refine Sl.gate rfl ?_; (go_step)))
        have e1 : (hs.drop 0).take (k - 0) = hs.take k := by simp
        have e2 : (hs.drop (k + 1)).take (hs.length - (k + 1)) = hs.drop (k + 1) := List.take_of_length_le (by rw [List.length_drop]; exact Nat.le_refl _)
        have l1 : (hs.take k).length ≤ 10 := by rw [List.length_take]; omega
        have l2 : (hs.drop (k + 1)).length ≤ 10 := by rw [List.length_drop]; omega
        refine ps_begin hst (by kernel_rfl) ?_; clear hst; intro w hst; have hSS := le_of hst; (try refine nY ?_)
        ((refine ps_takex 1 (by repeat (first | exact panicQ_body | refine panicQ_then ?_ | refine panicQ_block ?_)) rfl (by kernel_rfl) (by kernel_rfl) (by kernel_rfl) rfl (St.cls hSS hst) (qt_fieldp evX hpe inX inX rfl ) ?_; rintro  v1 hp1)) <;> (try refine nY ?_)
        ((refine ps_takex 2 (by repeat (first | exact panicQ_body | refine panicQ_then ?_ | refine panicQ_block ?_)) rfl (by kernel_rfl) (by kernel_rfl) (by kernel_rfl) rfl (St.cls hSS hst) (qt_ldp_list evX hp1 inX ) ?_; rintro  v2 ⟨hv2, hv21⟩; replace hv2 : RSl S2 v2 hs := hv2)) <;> (try refine nY ?_)
        (refine ps_take 3 (by repeat (first | exact panicQ_body | refine panicQ_then ?_ | refine panicQ_block ?_)) rfl (by kernel_rfl) (by kernel_rfl) (by kernel_rfl) rfl (St.cls hSS hst) (by exact qt_move evX) ?_) <;> (try refine nY ?_)
        ((refine ps_takex 4 (by repeat (first | exact panicQ_body | refine panicQ_then ?_ | refine panicQ_block ?_)) rfl (by kernel_rfl) (by kernel_rfl) (by kernel_rfl) rfl (St.cls hSS hst) (qt_slice (a := 0) (b := k) evX hv2 inX inX (.inl ⟨rfl, rfl⟩) (.inr ⟨.i64, by simp [evF, nth]⟩) (.inl rfl) (by omega) (by omega) ) ?_; rintro  v4 hv4; rw [e1] at hv4)) <;> (try refine nY ?_)
        ((refine ps_takex 6 (by repeat (first | exact panicQ_body | refine panicQ_then ?_ | refine panicQ_block ?_)) rfl (by kernel_rfl) (by kernel_rfl) (by kernel_rfl) rfl (St.cls hSS hst) (qt_fieldp evX hpe inX inX rfl ) ?_; rintro  v1 hp1)) <;> (try refine nY ?_)
        ((refine ps_takex 7 (by repeat (first | exact panicQ_body | refine panicQ_then ?_ | refine panicQ_block ?_)) rfl (by kernel_rfl) (by kernel_rfl) (by kernel_rfl) rfl (St.cls hSS hst) (qt_ldp_list evX hp1 inX ) ?_; rintro  v7 ⟨hv7, hv71⟩; replace hv7 : RSl S2 v7 hs := hv7)) <;> (try refine nY ?_)
        (refine ps_take 8 (by repeat (first | exact panicQ_body | refine panicQ_then ?_ | refine panicQ_block ?_)) rfl (by kernel_rfl) (by kernel_rfl) (by kernel_rfl) rfl (St.cls hSS hst) (by exact qt_move evX) ?_) <;> (try refine nY ?_)
        (refine ps_take 9 (by repeat (first | exact panicQ_body | refine panicQ_then ?_ | refine panicQ_block ?_)) rfl (by kernel_rfl) (by kernel_rfl) (by kernel_rfl) rfl (St.cls hSS hst) (by exact qt_add' rfl rfl omX) ?_) <;> (try refine nY ?_)
        ((refine ps_takex 10 (by repeat (first | exact panicQ_body | refine panicQ_then ?_ | refine panicQ_block ?_)) rfl (by kernel_rfl) (by kernel_rfl) (by kernel_rfl) rfl (St.cls hSS hst) (qt_slice (a := k + 1) (b := hs.length) evX hv7 inX inX (.inr ⟨.i64, by simp [evF, nth]⟩) (.inl ⟨rfl, rfl⟩) (.inl rfl) (by omega) (by omega) ) ?_; rintro  v10 hv10; rw [e2] at hv10)) <;> (try refine nY ?_)
        refine ps_one 0 rfl (by kernel_rfl) ?_; intro K hK; refine s_lit (vs := []) hst inX inX rfl rfl (by simp [Value.cells]) rfl (by omega) (by omega) ?_; clear hst; intro x0 w hst; (try refine nY ?_); (try replace hst := nH hst); refine ps_next hK (St.cls hSS hst) ?_; clear hK K; (try refine nY ?_)
        refine ps_one 5 rfl (by kernel_rfl) ?_; intro K hK; refine s_append_data hst evX evX SlIn.h hv4 inX inX inX (by omega) (by omega) (by decide) ?_; clear hst; intro x5 w d5 hd5 hst; have hone5 := sl_onek (k := 0) hst rfl; (try refine nY ?_); (try replace hst := nH hst); refine ps_next hK (St.cls hSS hst) ?_; clear hK K; (try refine nY ?_)
        refine ps_one 11 rfl (by kernel_rfl) ?_; intro K hK; refine s_append_data hst evX evX SlIn.h hv10 inX inX inX (by omega) (by omega) (by decide) ?_; clear hst; intro x11 w d11 hd11 hst; have hone11 := sl_onek (k := 0) hst rfl; (try refine nY ?_); (try replace hst := nH hst); refine ps_next hK (St.cls hSS hst) ?_; clear hK K; (try refine nY ?_)
        (refine ps_take 12 (by repeat (first | exact panicQ_body | refine panicQ_then ?_ | refine panicQ_block ?_)) rfl (by kernel_rfl) (by kernel_rfl) (by kernel_rfl) rfl (St.cls hSS hst) (qt_field rfl inX) ?_) <;> (try refine nY ?_)
        refine ps_one 13 rfl (by kernel_rfl) ?_; intro K hK; (refine s_st1 hst rfl BoxIn.h evX asX inX (by simp <;> omega) ?_); clear hst; intro w hst; (try refine nY ?_); (try replace hst := nH hst); refine ps_next hK (St.cls hSS hst) ?_; clear hK K; (try refine nY ?_)
        refine ps_done (by kernel_rfl) ?_
        clear e1 e2
        repeat' ((fail_if_success (with_reducible show Code.wp _ (Code.region 25 _ _) _ _ _)); ((fail_if_success (go_big_may)); (go_step)))
        obtain ⟨S3, hS3, hst, hxs⟩ := St.freeze (α := Hd) (xs := hs.take k ++ hs.drop (k + 1)) hst (hd5.append hd11) (by rw [List.length_append])
        have hlaw0 : ∀ xs : List Hd, xs = hs.take k ++ hs.drop (k + 1) → (regE (⟨[a0, a1, a2, a3, a4, a5, a6, a7, a8, a9, c0, c1, c2, c3, c4, c5]⟩ : Dg) hs).1 = (regE (⟨[a0, a1, a2, a3, a4, a5, a6, a7, a8, a9, c0, c1, c2, c3, c4, c5]⟩ : Dg) xs).1 → collE (⟨[a0, a1, a2, a3, a4, a5, a6, a7, a8, a9, c0, c1, c2, c3, c4, c5]⟩ : Dg) hs (⟨[a0, a1, a2, a3, a4, a5, a6, a7, a8, a9, c0, c1, c2, c3, c4, c5]⟩ : Dg) xs = true := by
          rintro _ rfl h
          refine coll_len h ?_
          rw [List.length_append, List.length_take, List.length_drop]
          omega
        have hx20 : ∀ xs : List Hd, xs = hs.take k ++ hs.drop (k + 1) → ∀ h ∈ xs, HdOk h := by
          rintro _ rfl h hh
          rcases List.mem_append.1 hh with h1 | h1
          · exact hh2 h (List.mem_of_mem_take h1)
          · exact hh2 h (List.mem_of_mem_drop h1)
        have hxl0 : ∀ xs : List Hd, xs = hs.take k ++ hs.drop (k + 1) → xs.length ≤ 20 := by
          rintro _ rfl
          simp <;> omega
        obtain ⟨xs, hxse⟩ : ∃ xs, xs = hs.take k ++ hs.drop (k + 1) := ⟨_, rfl⟩
        rw [← hxse] at hxs
        have hlaw := hlaw0 xs hxse
        have hx2 := hx20 xs hxse
        have hxl := hxl0 xs hxse
        clear hlaw0 hx20 hxl0 hxse
        replace hpe := hpe.mono hS3
        replace hG := hG.mono hS3
        replace hle := hle.trans hS3
        have hRx : Rep.R S3 (evB a0 a1 a2 a3 a4 a5 a6 a7 a8 a9 c0 c1 c2 c3 c4 c5 x11 (.slice na nn nc)) (((⟨[a0, a1, a2, a3, a4, a5, a6, a7, a8, a9, c0, c1, c2, c3, c4, c5]⟩ : Dg), xs, [], ()) : Evd) := prod_mk (r_dgx hm) (prod_mk (cs := [_]) ⟨_, rfl, hxs⟩ (prod_mk (cs := [_]) ⟨_, rfl, hnil.mono hS3⟩ unit_mk))
        have hst0 := hst
        clear hst
        obtain ⟨S4, hS4, hst, hpx⟩ := pt_box (α := Evd) hst0 hRx rfl
        clear hst0
        generalize Value.pointer (some ⟨bk, 0, none⟩) = pX at *
        replace hpe := hpe.mono hS4
        replace hG := hG.mono hS4
        replace hle := hle.trans hS4
        have okX := regE_ok (⟨[a0, a1, a2, a3, a4, a5, a6, a7, a8, a9, c0, c1, c2, c3, c4, c5]⟩ : Dg) xs
        have okE := regE_ok (⟨[a0, a1, a2, a3, a4, a5, a6, a7, a8, a9, c0, c1, c2, c3, c4, c5]⟩ : Dg) hs
        have cX := fun {S' : Snap} {M : List Chunk} (w : World) (hS : S4.Le S') (hst : St S' M w) (cs : List Value) (hR : Rep.R S4 cs (((⟨[a0, a1, a2, a3, a4, a5, a6, a7, a8, a9, c0, c1, c2, c3, c4, c5]⟩ : Dg), xs, [], ()) : Evd)) => registers_c w hst (hG.mono hS) cs _ (Rep.mono hS hR) hm hx2 (show xs.length ≤ 1048576 by omega)
        have cE := fun {S' : Snap} {M : List Chunk} (w : World) (hS : S4.Le S') (hst : St S' M w) (cs : List Value) (hR : Rep.R S4 cs (((⟨[a0, a1, a2, a3, a4, a5, a6, a7, a8, a9, c0, c1, c2, c3, c4, c5]⟩ : Dg), hs, [], ()) : Evd)) => registers_c w hst (hG.mono hS) cs _ (Rep.mono hS hR) hm hh2 (show hs.length ≤ 1048576 by omega)
        have cC := fun {S' : Snap} {M : List Chunk} (w : World) (hS : S4.Le S') (hst : St S' M w) (va : Value) (ha : RSl S' va hs) (vb : Value) (hb : RSl S' vb xs) => collides21_c w hst (⟨[a0, a1, a2, a3, a4, a5, a6, a7, a8, a9, c0, c1, c2, c3, c4, c5]⟩ : Dg) hm va hs ha hh2 (by omega) (⟨[a0, a1, a2, a3, a4, a5, a6, a7, a8, a9, c0, c1, c2, c3, c4, c5]⟩ : Dg) hm vb xs hb hx2 (by omega)
        dsimp only at cX cE
        generalize regE (⟨[a0, a1, a2, a3, a4, a5, a6, a7, a8, a9, c0, c1, c2, c3, c4, c5]⟩ : Dg) xs = X at *
        generalize regE (⟨[a0, a1, a2, a3, a4, a5, a6, a7, a8, a9, c0, c1, c2, c3, c4, c5]⟩ : Dg) hs = G at *
        generalize collE (⟨[a0, a1, a2, a3, a4, a5, a6, a7, a8, a9, c0, c1, c2, c3, c4, c5]⟩ : Dg) hs (⟨[a0, a1, a2, a3, a4, a5, a6, a7, a8, a9, c0, c1, c2, c3, c4, c5]⟩ : Dg) xs = cb at *
        obtain ⟨y2, g2⟩ : ∃ y, decide (X.1 = G.1) = y := ⟨_, rfl⟩
        cases y2 with
        | false =>
          refine v_begin hst (by kernel_rfl) ?_; clear hst; intro ops; (try refine nY ?_)
          (refine t_qt 0 rfl (by kernel_rfl) rfl rfl (by exact qt_move evX) ?_) <;> (try refine nY ?_)
          (refine t_qt 1 rfl (by kernel_rfl) rfl rfl (by exact qt_move evX) ?_) <;> (try refine nY ?_)
          (((refine t_ex0 2 rfl (by kernel_rfl) rfl rfl (qt_ldp evX hpx inX ) ?_; rintro  v2 ⟨cl2, rfl, hcl2⟩))) <;> (try refine nY ?_)
          ((refine t_call 3 rfl (by kernel_rfl) rfl (fun S' M' w hS hM hst => cX w hS hst cl2 hcl2) inX rfl ?_)) <;> (try refine nY ?_)
          ((refine t_qt 4 rfl (by kernel_rfl) rfl rfl (qt_regC rfl okX) ?_)) <;> (try refine nY ?_)
          (((refine t_ex0 5 rfl (by kernel_rfl) rfl rfl (qt_ldp evX hpe inX ) ?_; rintro  v5 ⟨cl5, rfl, hcl5⟩))) <;> (try refine nY ?_)
          ((refine t_call 6 rfl (by kernel_rfl) rfl (fun S' M' w hS hM hst => cE w hS hst cl5 hcl5) inX rfl ?_)) <;> (try refine nY ?_)
          ((refine t_qt 7 rfl (by kernel_rfl) rfl rfl (qt_regC rfl okE) ?_)) <;> (try refine nY ?_)
          ((refine t_qt 8 rfl (by kernel_rfl) rfl rfl (qt_neqK_b rfl rfl (r_dg okX.a) (r_dg okE.a) inX inX inferInstance g2) ?_)) <;> (try refine nY ?_)
          (refine t_qt 9 rfl (by kernel_rfl) rfl rfl (by exact qt_move evX) ?_) <;> (try refine nY ?_)
          (refine t_no 10 rfl (by kernel_rfl) rfl rfl ?_) <;> (try refine nY ?_)
          (refine t_no 11 rfl (by kernel_rfl) rfl rfl ?_) <;> (try refine nY ?_)
          (refine t_no 12 rfl (by kernel_rfl) rfl rfl ?_) <;> (try refine nY ?_)
          (refine t_no 13 rfl (by kernel_rfl) rfl rfl ?_) <;> (try refine nY ?_)
          (refine t_no 14 rfl (by kernel_rfl) rfl rfl ?_) <;> (try refine nY ?_)
          (refine t_no 15 rfl (by kernel_rfl) rfl rfl ?_) <;> (try refine nY ?_)
          (refine t_no 16 rfl (by kernel_rfl) rfl rfl ?_) <;> (try refine nY ?_)
          (refine t_qt 17 rfl (by kernel_rfl) rfl rfl (by exact qt_pick_t rfl evX) ?_) <;> (try refine nY ?_)
          (refine t_qt 18 rfl (by kernel_rfl) rfl rfl (by exact qt_pick_t rfl evX) ?_) <;> (try refine nY ?_)
          (refine t_qt 19 rfl (by kernel_rfl) rfl rfl (by exact qt_assign evX) ?_) <;> (try refine nY ?_)
          refine v_done (by kernel_rfl) ?_; clear ops; intro w hst
          repeat' (((fail_if_success (go_big_may)); (go_step)))
          go_ret
          exact ⟨_, rfl, rfl, St.weaken hle hst.drop⟩
        | true =>
          obtain rfl : cb = true := hlaw (of_decide_eq_true g2).symm
          refine v_begin hst (by kernel_rfl) ?_; clear hst; intro ops; (try refine nY ?_)
          (refine t_qt 0 rfl (by kernel_rfl) rfl rfl (by exact qt_move evX) ?_) <;> (try refine nY ?_)
          (refine t_qt 1 rfl (by kernel_rfl) rfl rfl (by exact qt_move evX) ?_) <;> (try refine nY ?_)
          (((refine t_ex0 2 rfl (by kernel_rfl) rfl rfl (qt_ldp evX hpx inX ) ?_; rintro  v2 ⟨cl2, rfl, hcl2⟩))) <;> (try refine nY ?_)
          ((refine t_call 3 rfl (by kernel_rfl) rfl (fun S' M' w hS hM hst => cX w hS hst cl2 hcl2) inX rfl ?_)) <;> (try refine nY ?_)
          ((refine t_qt 4 rfl (by kernel_rfl) rfl rfl (qt_regC rfl okX) ?_)) <;> (try refine nY ?_)
          (((refine t_ex0 5 rfl (by kernel_rfl) rfl rfl (qt_ldp evX hpe inX ) ?_; rintro  v5 ⟨cl5, rfl, hcl5⟩))) <;> (try refine nY ?_)
          ((refine t_call 6 rfl (by kernel_rfl) rfl (fun S' M' w hS hM hst => cE w hS hst cl5 hcl5) inX rfl ?_)) <;> (try refine nY ?_)
          ((refine t_qt 7 rfl (by kernel_rfl) rfl rfl (qt_regC rfl okE) ?_)) <;> (try refine nY ?_)
          ((refine t_qt 8 rfl (by kernel_rfl) rfl rfl (qt_neqK_b rfl rfl (r_dg okX.a) (r_dg okE.a) inX inX inferInstance g2) ?_)) <;> (try refine nY ?_)
          (refine t_qt 9 rfl (by kernel_rfl) rfl rfl (by exact qt_move evX) ?_) <;> (try refine nY ?_)
          (refine t_qt 10 rfl (by kernel_rfl) rfl rfl (by exact qt_loadA evX BoxIn.h inX rfX) ?_) <;> (try refine nY ?_)
          (((refine t_ex0 11 rfl (by kernel_rfl) rfl rfl (qt_fieldp evX hpe inX inX rfl ) ?_; rintro  v11 hp11))) <;> (try refine nY ?_)
          (((refine t_ex0 12 rfl (by kernel_rfl) rfl rfl (qt_ldp_list evX hp11 inX ) ?_; rintro  v12 ⟨hv12, hv121⟩))) <;> (try refine nY ?_)
          (refine t_qt 13 rfl (by kernel_rfl) rfl rfl (by exact qt_loadA evX BoxIn.h inX rfX) ?_) <;> (try refine nY ?_)
          (((refine t_ex0 14 rfl (by kernel_rfl) rfl rfl (qt_fieldp evX hpx inX inX rfl ) ?_; rintro  v14 hp14))) <;> (try refine nY ?_)
          (((refine t_ex0 15 rfl (by kernel_rfl) rfl rfl (qt_ldp_list evX hp14 inX ) ?_; rintro  v15 ⟨hv15, hv151⟩))) <;> (try refine nY ?_)
          ((refine t_call 16 rfl (by kernel_rfl) rfl (fun S' M' w hS hM hst => cC w hS hst v12 (hv12.mono hS) v15 (hv15.mono hS)) inX rfl ?_)) <;> (try refine nY ?_)
          (refine t_qt 17 rfl (by kernel_rfl) rfl rfl (by exact qt_pick_f rfl evX) ?_) <;> (try refine nY ?_)
          (refine t_qt 18 rfl (by kernel_rfl) rfl rfl (by exact qt_pick_t rfl evX) ?_) <;> (try refine nY ?_)
          (refine t_qt 19 rfl (by kernel_rfl) rfl rfl (by exact qt_assign evX) ?_) <;> (try refine nY ?_)
          refine v_done (by kernel_rfl) ?_; clear ops; intro w hst
          repeat' (((fail_if_success (go_big_may)); (go_step)))
          go_ret
          exact ⟨_, rfl, rfl, St.weaken hle hst.drop⟩
      · simp only [hqe]
        clear hqe
        repeat' ((fail_if_success (with_reducible show Code.wp _ (Code.region 13 _ _) _ _ _)); first | ((fail_if_success (go_big_may)); (go_step)) | (with_reducible refine Sl.gate rfl ?_; (go_step)))
        have e1 : (hs.drop 0).take (k - 0) = hs.take k := by simp
        have e2 : (hs.drop k).take (hs.length - k) = hs.drop k := List.take_of_length_le (by rw [List.length_drop]; exact Nat.le_refl _)
        have l1 : (hs.take k).length ≤ 10 := by rw [List.length_take]; omega
        have l2 : (hs.drop k).length ≤ 10 := by rw [List.length_drop]; omega
        have okh := hh2 _ (List.getElem_mem hkh)
        have hl66 := hdC_len okh
        refine ps_begin hst (by kernel_rfl) ?_; clear hst; intro w hst; have hSS := le_of hst; (try refine nY ?_)
        ((refine ps_takex 1 (by repeat (first | exact panicQ_body | refine panicQ_then ?_ | refine panicQ_block ?_)) rfl (by kernel_rfl) (by kernel_rfl) (by kernel_rfl) rfl (St.cls hSS hst) (qt_fieldp evX hpe inX inX rfl ) ?_; rintro  v1 hp1)) <;> (try refine nY ?_)
        ((refine ps_takex 2 (by repeat (first | exact panicQ_body | refine panicQ_then ?_ | refine panicQ_block ?_)) rfl (by kernel_rfl) (by kernel_rfl) (by kernel_rfl) rfl (St.cls hSS hst) (qt_ldp_list evX hp1 inX ) ?_; rintro  v2 ⟨hv2, hv21⟩; replace hv2 : RSl S2 v2 hs := hv2)) <;> (try refine nY ?_)
        (refine ps_take 3 (by repeat (first | exact panicQ_body | refine panicQ_then ?_ | refine panicQ_block ?_)) rfl (by kernel_rfl) (by kernel_rfl) (by kernel_rfl) rfl (St.cls hSS hst) (by exact qt_move evX) ?_) <;> (try refine nY ?_)
        ((refine ps_takex 4 (by repeat (first | exact panicQ_body | refine panicQ_then ?_ | refine panicQ_block ?_)) rfl (by kernel_rfl) (by kernel_rfl) (by kernel_rfl) rfl (St.cls hSS hst) (qt_slice (a := 0) (b := k) evX hv2 inX inX (.inl ⟨rfl, rfl⟩) (.inr ⟨.i64, by simp [evF, nth]⟩) (.inl rfl) (by omega) (by omega) ) ?_; rintro  v4 hv4; rw [e1] at hv4)) <;> (try refine nY ?_)
        ((refine ps_takex 6 (by repeat (first | exact panicQ_body | refine panicQ_then ?_ | refine panicQ_block ?_)) rfl (by kernel_rfl) (by kernel_rfl) (by kernel_rfl) rfl (St.cls hSS hst) (qt_fieldp evX hpe inX inX rfl ) ?_; rintro  v1 hp1)) <;> (try refine nY ?_)
        ((refine ps_takex 7 (by repeat (first | exact panicQ_body | refine panicQ_then ?_ | refine panicQ_block ?_)) rfl (by kernel_rfl) (by kernel_rfl) (by kernel_rfl) rfl (St.cls hSS hst) (qt_ldp_list evX hp1 inX ) ?_; rintro  v7 ⟨hv7, hv71⟩; replace hv7 : RSl S2 v7 hs := hv7)) <;> (try refine nY ?_)
        (refine ps_take 8 (by repeat (first | exact panicQ_body | refine panicQ_then ?_ | refine panicQ_block ?_)) rfl (by kernel_rfl) (by kernel_rfl) (by kernel_rfl) rfl (St.cls hSS hst) (by exact qt_move evX) ?_) <;> (try refine nY ?_)
        ((refine ps_takex 9 (by repeat (first | exact panicQ_body | refine panicQ_then ?_ | refine panicQ_block ?_)) rfl (by kernel_rfl) (by kernel_rfl) (by kernel_rfl) rfl (St.cls hSS hst) (qt_index evX hv7 rfl inX inX omX omX ) ?_; rintro  v9 hp9; simp only [Int.toNat_natCast] at hp9)) <;> (try refine nY ?_)
        (refine ps_take 10 (by repeat (first | exact panicQ_body | refine panicQ_then ?_ | refine panicQ_block ?_)) rfl (by kernel_rfl) (by kernel_rfl) (by kernel_rfl) rfl (St.cls hSS hst) (qt_ldp_flat evX hp9 inX inX rfl) ?_) <;> (try refine nY ?_)
        ((refine ps_takex 13 (by repeat (first | exact panicQ_body | refine panicQ_then ?_ | refine panicQ_block ?_)) rfl (by kernel_rfl) (by kernel_rfl) (by kernel_rfl) rfl (St.cls hSS hst) (qt_fieldp evX hpe inX inX rfl ) ?_; rintro  v1 hp1)) <;> (try refine nY ?_)
        ((refine ps_takex 14 (by repeat (first | exact panicQ_body | refine panicQ_then ?_ | refine panicQ_block ?_)) rfl (by kernel_rfl) (by kernel_rfl) (by kernel_rfl) rfl (St.cls hSS hst) (qt_ldp_list evX hp1 inX ) ?_; rintro  v14 ⟨hv14, hv141⟩; replace hv14 : RSl S2 v14 hs := hv14)) <;> (try refine nY ?_)
        (refine ps_take 15 (by repeat (first | exact panicQ_body | refine panicQ_then ?_ | refine panicQ_block ?_)) rfl (by kernel_rfl) (by kernel_rfl) (by kernel_rfl) rfl (St.cls hSS hst) (by exact qt_move evX) ?_) <;> (try refine nY ?_)
        ((refine ps_takex 16 (by repeat (first | exact panicQ_body | refine panicQ_then ?_ | refine panicQ_block ?_)) rfl (by kernel_rfl) (by kernel_rfl) (by kernel_rfl) rfl (St.cls hSS hst) (qt_slice (a := k) (b := hs.length) evX hv14 inX inX (.inr ⟨.i64, by simp [evF, nth]⟩) (.inl ⟨rfl, rfl⟩) (.inl rfl) (by omega) (by omega) ) ?_; rintro  v16 hv16; rw [e2] at hv16)) <;> (try refine nY ?_)
        refine ps_two 0 11 rfl rfl (by kernel_rfl) ?_ ?_
        intro K hK; refine s_lit (vs := []) hst inX inX rfl rfl (by simp [Value.cells]) rfl (by omega) (by omega) ?_; clear hst; intro x0 w hst; (try refine nY ?_); (try replace hst := nH hst); refine ps_next hK (St.cls hSS hst) ?_; clear hK K; (try refine nY ?_)
        refine ps_two 5 11 rfl rfl (by kernel_rfl) ?_ ?_
        intro K hK; refine s_append_data hst evX evX SlIn.h hv4 inX inX inX (by omega) (by omega) (by decide) ?_; clear hst; intro x5 w d5 hd5 hst; have hone5 := sl_onek (k := 0) hst rfl; (try refine nY ?_); (try replace hst := nH hst); refine ps_next hK (St.cls hSS hst) ?_; clear hK K; (try refine nY ?_)
        refine ps_one 11 rfl (by kernel_rfl) ?_; intro K hK; refine s_lit (vs := [hdV hs[k]]) (cs := hdC hs[k]) hst inX inX rfl rfl (by simp [Value.cells, hl66]) (by simp [Value.cells]) (by omega) (by omega) ?_; clear hst; intro x11 w hst; (try refine nY ?_); (try replace hst := nH hst); refine ps_next hK (St.cls hSS hst) ?_; clear hK K; (try refine nY ?_)
        refine ps_one 12 rfl (by kernel_rfl) ?_; intro K hK; ((refine s_append (j := 0) hst evX evX SlIn.h rfl inX inX inX (Rep.one (S := S2) (r_hd okh)) (by omega) (by omega) (by decide) ?_; clear hst; intro x12 w hst; (try refine nY ?_); (try simp only [List.set_cons_succ, List.set_cons_zero, List.drop_succ_cons, List.drop_zero, List.take_succ_cons, List.take_zero, List.nil_append, List.cons_append, List.append_nil, Value.cells, List.eraseIdx_cons_zero, List.eraseIdx_cons_succ, Nat.zero_add, Nat.add_zero, List.flatten_cons, List.flatten_nil, List.map_cons, List.map_nil] at hst); replace hst := hst.drop)); have hone12 := sl_one hst; (try refine nY ?_); (try replace hst := nH hst); refine ps_next hK (St.cls hSS hst) ?_; clear hK K; (try refine nY ?_)
        refine ps_one 17 rfl (by kernel_rfl) ?_; intro K hK; refine s_append_data hst evX evX SlIn.h hv16 inX inX inX (by omega) (by omega) (by decide) ?_; clear hst; intro x17 w d17 hd17 hst; have hone17 := sl_onek (k := 0) hst rfl; (try refine nY ?_); (try replace hst := nH hst); refine ps_next hK (St.cls hSS hst) ?_; clear hK K; (try refine nY ?_)
        (refine ps_take 18 (by repeat (first | exact panicQ_body | refine panicQ_then ?_ | refine panicQ_block ?_)) rfl (by kernel_rfl) (by kernel_rfl) (by kernel_rfl) rfl (St.cls hSS hst) (qt_field rfl inX) ?_) <;> (try refine nY ?_)
        refine ps_one 19 rfl (by kernel_rfl) ?_; intro K hK; (refine s_st1 hst rfl BoxIn.h evX asX inX (by simp <;> omega) ?_); clear hst; intro w hst; (try refine nY ?_); (try replace hst := nH hst); refine ps_next hK (St.cls hSS hst) ?_; clear hK K; (try refine nY ?_)
        refine ps_done (by kernel_rfl) ?_; rotate_left
        intro K hK; refine s_lit (vs := [hdV hs[k]]) (cs := hdC hs[k]) hst inX inX rfl rfl (by simp [Value.cells, hl66]) (by simp [Value.cells]) (by omega) (by omega) ?_; clear hst; intro x11 w hst; (try refine nY ?_); (try replace hst := nH hst); refine ps_next hK (St.cls hSS hst) ?_; clear hK K; (try refine nY ?_)
        refine ps_one 5 rfl (by kernel_rfl) ?_; intro K hK; refine s_append_data hst evX evX SlIn.h hv4 inX inX inX (by omega) (by omega) (by decide) ?_; clear hst; intro x5 w d5 hd5 hst; have hone5 := sl_onek (k := 0) hst rfl; (try refine nY ?_); (try replace hst := nH hst); refine ps_next hK (St.cls hSS hst) ?_; clear hK K; (try refine nY ?_)
        refine ps_one 12 rfl (by kernel_rfl) ?_; intro K hK; ((refine s_append (j := 0) hst evX evX SlIn.h rfl inX inX inX (Rep.one (S := S2) (r_hd okh)) (by omega) (by omega) (by decide) ?_; clear hst; intro x12 w hst; (try refine nY ?_); (try simp only [List.set_cons_succ, List.set_cons_zero, List.drop_succ_cons, List.drop_zero, List.take_succ_cons, List.take_zero, List.nil_append, List.cons_append, List.append_nil, Value.cells, List.eraseIdx_cons_zero, List.eraseIdx_cons_succ, Nat.zero_add, Nat.add_zero, List.flatten_cons, List.flatten_nil, List.map_cons, List.map_nil] at hst); replace hst := hst.drop)); have hone12 := sl_one hst; (try refine nY ?_); (try replace hst := nH hst); refine ps_next hK (St.cls hSS hst) ?_; clear hK K; (try refine nY ?_)
        refine ps_one 17 rfl (by kernel_rfl) ?_; intro K hK; refine s_append_data hst evX evX SlIn.h hv16 inX inX inX (by omega) (by omega) (by decide) ?_; clear hst; intro x17 w d17 hd17 hst; have hone17 := sl_onek (k := 0) hst rfl; (try refine nY ?_); (try replace hst := nH hst); refine ps_next hK (St.cls hSS hst) ?_; clear hK K; (try refine nY ?_)
        (refine ps_take 18 (by repeat (first | exact panicQ_body | refine panicQ_then ?_ | refine panicQ_block ?_)) rfl (by kernel_rfl) (by kernel_rfl) (by kernel_rfl) rfl (St.cls hSS hst) (qt_field rfl inX) ?_) <;> (try refine nY ?_)
        refine ps_one 19 rfl (by kernel_rfl) ?_; intro K hK; (refine s_st1 hst rfl BoxIn.h evX asX inX (by simp <;> omega) ?_); clear hst; intro w hst; (try refine nY ?_); (try replace hst := nH hst); refine ps_next hK (St.cls hSS hst) ?_; clear hK K; (try refine nY ?_)
        refine ps_done (by kernel_rfl) ?_; rotate_left
        intro K hK; refine s_lit (vs := [hdV hs[k]]) (cs := hdC hs[k]) hst inX inX rfl rfl (by simp [Value.cells, hl66]) (by simp [Value.cells]) (by omega) (by omega) ?_; clear hst; intro x11 w hst; (try refine nY ?_); (try replace hst := nH hst); refine ps_next hK (St.cls hSS hst) ?_; clear hK K; (try refine nY ?_)
        refine ps_one 0 rfl (by kernel_rfl) ?_; intro K hK; refine s_lit (vs := []) hst inX inX rfl rfl (by simp [Value.cells]) rfl (by omega) (by omega) ?_; clear hst; intro x0 w hst; (try refine nY ?_); (try replace hst := nH hst); refine ps_next hK (St.cls hSS hst) ?_; clear hK K; (try refine nY ?_)
        refine ps_one 5 rfl (by kernel_rfl) ?_; intro K hK; refine s_append_data hst evX evX SlIn.h hv4 inX inX inX (by omega) (by omega) (by decide) ?_; clear hst; intro x5 w d5 hd5 hst; have hone5 := sl_onek (k := 0) hst rfl; (try refine nY ?_); (try replace hst := nH hst); refine ps_next hK (St.cls hSS hst) ?_; clear hK K; (try refine nY ?_)
        refine ps_one 12 rfl (by kernel_rfl) ?_; intro K hK; ((refine s_append (j := 1) hst evX evX SlIn.h rfl inX inX inX (Rep.one (S := S2) (r_hd okh)) (by omega) (by omega) (by decide) ?_; clear hst; intro x12 w hst; (try refine nY ?_); (try simp only [List.set_cons_succ, List.set_cons_zero, List.drop_succ_cons, List.drop_zero, List.take_succ_cons, List.take_zero, List.nil_append, List.cons_append, List.append_nil, Value.cells, List.eraseIdx_cons_zero, List.eraseIdx_cons_succ, Nat.zero_add, Nat.add_zero, List.flatten_cons, List.flatten_nil, List.map_cons, List.map_nil] at hst); replace hst := (hst.perm (List.Perm.swap _ _ _)).drop)); have hone12 := sl_one hst; (try refine nY ?_); (try replace hst := nH hst); refine ps_next hK (St.cls hSS hst) ?_; clear hK K; (try refine nY ?_)
        refine ps_one 17 rfl (by kernel_rfl) ?_; intro K hK; refine s_append_data hst evX evX SlIn.h hv16 inX inX inX (by omega) (by omega) (by decide) ?_; clear hst; intro x17 w d17 hd17 hst; have hone17 := sl_onek (k := 0) hst rfl; (try refine nY ?_); (try replace hst := nH hst); refine ps_next hK (St.cls hSS hst) ?_; clear hK K; (try refine nY ?_)
        (refine ps_take 18 (by repeat (first | exact panicQ_body | refine panicQ_then ?_ | refine panicQ_block ?_)) rfl (by kernel_rfl) (by kernel_rfl) (by kernel_rfl) rfl (St.cls hSS hst) (qt_field rfl inX) ?_) <;> (try refine nY ?_)
        refine ps_one 19 rfl (by kernel_rfl) ?_; intro K hK; (refine s_st1 hst rfl BoxIn.h evX asX inX (by simp <;> omega) ?_); clear hst; intro w hst; (try refine nY ?_); (try replace hst := nH hst); refine ps_next hK (St.cls hSS hst) ?_; clear hK K; (try refine nY ?_)
        refine ps_done (by kernel_rfl) ?_; rotate_left
        clear e1 e2
        all_goals
          repeat' ((fail_if_success (with_reducible show Code.wp _ (Code.region 25 _ _) _ _ _)); ((fail_if_success (go_big_may)); (go_step)))
          obtain ⟨S3, hS3, hst, hxs⟩ := St.freeze (α := Hd) (xs := hs.take k ++ [hs[k]] ++ hs.drop k) hst ((hd5.append (RL.one_mk (r_hd okh))).append hd17) (by rw [List.length_append, List.length_append]; rfl)
          have hlaw0 : ∀ xs : List Hd, xs = hs.take k ++ [hs[k]] ++ hs.drop k → (regE (⟨[a0, a1, a2, a3, a4, a5, a6, a7, a8, a9, c0, c1, c2, c3, c4, c5]⟩ : Dg) hs).1 = (regE (⟨[a0, a1, a2, a3, a4, a5, a6, a7, a8, a9, c0, c1, c2, c3, c4, c5]⟩ : Dg) xs).1 → collE (⟨[a0, a1, a2, a3, a4, a5, a6, a7, a8, a9, c0, c1, c2, c3, c4, c5]⟩ : Dg) hs (⟨[a0, a1, a2, a3, a4, a5, a6, a7, a8, a9, c0, c1, c2, c3, c4, c5]⟩ : Dg) xs = true := by
            rintro _ rfl h
            refine coll_len h ?_
            rw [List.length_append, List.length_append, List.length_take, List.length_drop, List.length_singleton]
            omega
          have hx20 : ∀ xs : List Hd, xs = hs.take k ++ [hs[k]] ++ hs.drop k → ∀ h ∈ xs, HdOk h := by
            rintro _ rfl h hh
            rcases List.mem_append.1 hh with h1 | h1
            · rcases List.mem_append.1 h1 with h1 | h1
              · exact hh2 h (List.mem_of_mem_take h1)
              · obtain rfl := List.mem_singleton.1 h1; exact okh
            · exact hh2 h (List.mem_of_mem_drop h1)
          have hxl0 : ∀ xs : List Hd, xs = hs.take k ++ [hs[k]] ++ hs.drop k → xs.length ≤ 20 := by
            rintro _ rfl
            simp <;> omega
          obtain ⟨xs, hxse⟩ : ∃ xs, xs = hs.take k ++ [hs[k]] ++ hs.drop k := ⟨_, rfl⟩
          rw [← hxse] at hxs
          have hlaw := hlaw0 xs hxse
          have hx2 := hx20 xs hxse
          have hxl := hxl0 xs hxse
          clear hlaw0 hx20 hxl0 hxse
          replace hpe := hpe.mono hS3
          replace hG := hG.mono hS3
          replace hle := hle.trans hS3
          have hRx : Rep.R S3 (evB a0 a1 a2 a3 a4 a5 a6 a7 a8 a9 c0 c1 c2 c3 c4 c5 x17 (.slice na nn nc)) (((⟨[a0, a1, a2, a3, a4, a5, a6, a7, a8, a9, c0, c1, c2, c3, c4, c5]⟩ : Dg), xs, [], ()) : Evd) := prod_mk (r_dgx hm) (prod_mk (cs := [_]) ⟨_, rfl, hxs⟩ (prod_mk (cs := [_]) ⟨_, rfl, hnil.mono hS3⟩ unit_mk))
          have hst0 := hst
          clear hst
          obtain ⟨S4, hS4, hst, hpx⟩ := pt_box (α := Evd) hst0 hRx rfl
          clear hst0
          generalize Value.pointer (some ⟨bk, 0, none⟩) = pX at *
          replace hpe := hpe.mono hS4
          replace hG := hG.mono hS4
          replace hle := hle.trans hS4
          have okX := regE_ok (⟨[a0, a1, a2, a3, a4, a5, a6, a7, a8, a9, c0, c1, c2, c3, c4, c5]⟩ : Dg) xs
          have okE := regE_ok (⟨[a0, a1, a2, a3, a4, a5, a6, a7, a8, a9, c0, c1, c2, c3, c4, c5]⟩ : Dg) hs
          have cX := fun {S' : Snap} {M : List Chunk} (w : World) (hS : S4.Le S') (hst : St S' M w) (cs : List Value) (hR : Rep.R S4 cs (((⟨[a0, a1, a2, a3, a4, a5, a6, a7, a8, a9, c0, c1, c2, c3, c4, c5]⟩ : Dg), xs, [], ()) : Evd)) => registers_c w hst (hG.mono hS) cs _ (Rep.mono hS hR) hm hx2 (show xs.length ≤ 1048576 by omega)
          have cE := fun {S' : Snap} {M : List Chunk} (w : World) (hS : S4.Le S') (hst : St S' M w) (cs : List Value) (hR : Rep.R S4 cs (((⟨[a0, a1, a2, a3, a4, a5, a6, a7, a8, a9, c0, c1, c2, c3, c4, c5]⟩ : Dg), hs, [], ()) : Evd)) => registers_c w hst (hG.mono hS) cs _ (Rep.mono hS hR) hm hh2 (show hs.length ≤ 1048576 by omega)
          have cC := fun {S' : Snap} {M : List Chunk} (w : World) (hS : S4.Le S') (hst : St S' M w) (va : Value) (ha : RSl S' va hs) (vb : Value) (hb : RSl S' vb xs) => collides21_c w hst (⟨[a0, a1, a2, a3, a4, a5, a6, a7, a8, a9, c0, c1, c2, c3, c4, c5]⟩ : Dg) hm va hs ha hh2 (by omega) (⟨[a0, a1, a2, a3, a4, a5, a6, a7, a8, a9, c0, c1, c2, c3, c4, c5]⟩ : Dg) hm vb xs hb hx2 (by omega)
          dsimp only at cX cE
          generalize regE (⟨[a0, a1, a2, a3, a4, a5, a6, a7, a8, a9, c0, c1, c2, c3, c4, c5]⟩ : Dg) xs = X at *
          generalize regE (⟨[a0, a1, a2, a3, a4, a5, a6, a7, a8, a9, c0, c1, c2, c3, c4, c5]⟩ : Dg) hs = G at *
          generalize collE (⟨[a0, a1, a2, a3, a4, a5, a6, a7, a8, a9, c0, c1, c2, c3, c4, c5]⟩ : Dg) hs (⟨[a0, a1, a2, a3, a4, a5, a6, a7, a8, a9, c0, c1, c2, c3, c4, c5]⟩ : Dg) xs = cb at *
          obtain ⟨y2, g2⟩ : ∃ y, decide (X.1 = G.1) = y := ⟨_, rfl⟩
          cases y2 with
          | false =>
            refine v_begin hst (by kernel_rfl) ?_; clear hst; intro ops; (try refine nY ?_)
            (refine t_qt 0 rfl (by kernel_rfl) rfl rfl (by exact qt_move evX) ?_) <;> (try refine nY ?_)
            (refine t_qt 1 rfl (by kernel_rfl) rfl rfl (by exact qt_move evX) ?_) <;> (try refine nY ?_)
            (((refine t_ex0 2 rfl (by kernel_rfl) rfl rfl (qt_ldp evX hpx inX ) ?_; rintro  v2 ⟨cl2, rfl, hcl2⟩))) <;> (try refine nY ?_)
            ((refine t_call 3 rfl (by kernel_rfl) rfl (fun S' M' w hS hM hst => cX w hS hst cl2 hcl2) inX rfl ?_)) <;> (try refine nY ?_)
            ((refine t_qt 4 rfl (by kernel_rfl) rfl rfl (qt_regC rfl okX) ?_)) <;> (try refine nY ?_)
            (((refine t_ex0 5 rfl (by kernel_rfl) rfl rfl (qt_ldp evX hpe inX ) ?_; rintro  v5 ⟨cl5, rfl, hcl5⟩))) <;> (try refine nY ?_)
            ((refine t_call 6 rfl (by kernel_rfl) rfl (fun S' M' w hS hM hst => cE w hS hst cl5 hcl5) inX rfl ?_)) <;> (try refine nY ?_)
            ((refine t_qt 7 rfl (by kernel_rfl) rfl rfl (qt_regC rfl okE) ?_)) <;> (try refine nY ?_)
            ((refine t_qt 8 rfl (by kernel_rfl) rfl rfl (qt_neqK_b rfl rfl (r_dg okX.a) (r_dg okE.a) inX inX inferInstance g2) ?_)) <;> (try refine nY ?_)
            (refine t_qt 9 rfl (by kernel_rfl) rfl rfl (by exact qt_move evX) ?_) <;> (try refine nY ?_)
            (refine t_no 10 rfl (by kernel_rfl) rfl rfl ?_) <;> (try refine nY ?_)
            (refine t_no 11 rfl (by kernel_rfl) rfl rfl ?_) <;> (try refine nY ?_)
            (refine t_no 12 rfl (by kernel_rfl) rfl rfl ?_) <;> (try refine nY ?_)
            (refine t_no 13 rfl (by kernel_rfl) rfl rfl ?_) <;> (try refine nY ?_)
            (refine t_no 14 rfl (by kernel_rfl) rfl rfl ?_) <;> (try refine nY ?_)
            (refine t_no 15 rfl (by kernel_rfl) rfl rfl ?_) <;> (try refine nY ?_)
            (refine t_no 16 rfl (by kernel_rfl) rfl rfl ?_) <;> (try refine nY ?_)
            (refine t_qt 17 rfl (by kernel_rfl) rfl rfl (by exact qt_pick_t rfl evX) ?_) <;> (try refine nY ?_)
            (refine t_qt 18 rfl (by kernel_rfl) rfl rfl (by exact qt_pick_t rfl evX) ?_) <;> (try refine nY ?_)
            (refine t_qt 19 rfl (by kernel_rfl) rfl rfl (by exact qt_assign evX) ?_) <;> (try refine nY ?_)
            refine v_done (by kernel_rfl) ?_; clear ops; intro w hst
            repeat' (((fail_if_success (go_big_may)); (go_step)))
            go_ret
            exact ⟨_, rfl, rfl, St.weaken hle hst.drop⟩
          | true =>
            obtain rfl : cb = true := hlaw (of_decide_eq_true g2).symm
            refine v_begin hst (by kernel_rfl) ?_; clear hst; intro ops; (try refine nY ?_)
            (refine t_qt 0 rfl (by kernel_rfl) rfl rfl (by exact qt_move evX) ?_) <;> (try refine nY ?_)
            (refine t_qt 1 rfl (by kernel_rfl) rfl rfl (by exact qt_move evX) ?_) <;> (try refine nY ?_)
            (((refine t_ex0 2 rfl (by kernel_rfl) rfl rfl (qt_ldp evX hpx inX ) ?_; rintro  v2 ⟨cl2, rfl, hcl2⟩))) <;> (try refine nY ?_)
            ((refine t_call 3 rfl (by kernel_rfl) rfl (fun S' M' w hS hM hst => cX w hS hst cl2 hcl2) inX rfl ?_)) <;> (try refine nY ?_)
            ((refine t_qt 4 rfl (by kernel_rfl) rfl rfl (qt_regC rfl okX) ?_)) <;> (try refine nY ?_)
            (((refine t_ex0 5 rfl (by kernel_rfl) rfl rfl (qt_ldp evX hpe inX ) ?_; rintro  v5 ⟨cl5, rfl, hcl5⟩))) <;> (try refine nY ?_)
            ((refine t_call 6 rfl (by kernel_rfl) rfl (fun S' M' w hS hM hst => cE w hS hst cl5 hcl5) inX rfl ?_)) <;> (try refine nY ?_)
            ((refine t_qt 7 rfl (by kernel_rfl) rfl rfl (qt_regC rfl okE) ?_)) <;> (try refine nY ?_)
            ((refine t_qt 8 rfl (by kernel_rfl) rfl rfl (qt_neqK_b rfl rfl (r_dg okX.a) (r_dg okE.a) inX inX inferInstance g2) ?_)) <;> (try refine nY ?_)
            (refine t_qt 9 rfl (by kernel_rfl) rfl rfl (by exact qt_move evX) ?_) <;> (try refine nY ?_)
            (refine t_qt 10 rfl (by kernel_rfl) rfl rfl (by exact qt_loadA evX BoxIn.h inX rfX) ?_) <;> (try refine nY ?_)
            (((refine t_ex0 11 rfl (by kernel_rfl) rfl rfl (qt_fieldp evX hpe inX inX rfl ) ?_; rintro  v11 hp11))) <;> (try refine nY ?_)
            (((refine t_ex0 12 rfl (by kernel_rfl) rfl rfl (qt_ldp_list evX hp11 inX ) ?_; rintro  v12 ⟨hv12, hv121⟩))) <;> (try refine nY ?_)
            (refine t_qt 13 rfl (by kernel_rfl) rfl rfl (by exact qt_loadA evX BoxIn.h inX rfX) ?_) <;> (try refine nY ?_)
            (((refine t_ex0 14 rfl (by kernel_rfl) rfl rfl (qt_fieldp evX hpx inX inX rfl ) ?_; rintro  v14 hp14))) <;> (try refine nY ?_)
            (((refine t_ex0 15 rfl (by kernel_rfl) rfl rfl (qt_ldp_list evX hp14 inX ) ?_; rintro  v15 ⟨hv15, hv151⟩))) <;> (try refine nY ?_)
            ((refine t_call 16 rfl (by kernel_rfl) rfl (fun S' M' w hS hM hst => cC w hS hst v12 (hv12.mono hS) v15 (hv15.mono hS)) inX rfl ?_)) <;> (try refine nY ?_)
            (refine t_qt 17 rfl (by kernel_rfl) rfl rfl (by exact qt_pick_f rfl evX) ?_) <;> (try refine nY ?_)
            (refine t_qt 18 rfl (by kernel_rfl) rfl rfl (by exact qt_pick_t rfl evX) ?_) <;> (try refine nY ?_)
            (refine t_qt 19 rfl (by kernel_rfl) rfl rfl (by exact qt_assign evX) ?_) <;> (try refine nY ?_)
            refine v_done (by kernel_rfl) ?_; clear ops; intro w hst
            repeat' (((fail_if_success (go_big_may)); (go_step)))
            go_ret
            exact ⟨_, rfl, rfl, St.weaken hle hst.drop⟩
      · simp only [hqe]
        clear hqe
        by_cases hlast : log.length ≤ k + 1
        · repeat' ((fail_if_success (with_reducible show Code.wp _ (Code.region 25 _ _) _ _ _)); first | ((fail_if_success (go_big_may)); (go_step)) | (((with_reducible refine Sl.k_call ?_; (refine s_qt hst (by exact qt_len evX asX inX) ?_))) <;> (try refine nY ?_)) | (with_reducible refine Sl.gate rfl ?_; (go_step)))
          go_ret
          exact ⟨_, rfl, rfl, St.weaken hle hst.drop.drop⟩
        · have hk1 : k + 1 < hs.length := by omega
          have okh := hh2 _ (List.getElem_mem hkh)
          have okb := hh2 _ (List.getElem_mem hk1)
          have hl66 := hdC_len okh
          have hlb66 := hdC_len okb
          repeat' ((fail_if_success (with_reducible show Code.wp _ (Code.region 17 _ _) _ _ _)); first | ((fail_if_success (go_big_may)); (go_step)) | (((with_reducible refine Sl.k_call ?_; (refine s_qt hst (by exact qt_len evX asX inX) ?_))) <;> (try refine nY ?_)) | (with_reducible refine Sl.gate rfl ?_; (go_step)))
          refine wp_region_lit ?_
          refine s_lit (vs := []) (cs := []) hst inX inX rfl rfl (by simp) rfl (by omega) (by omega) ?_
          clear hst; intro x17a w hst
          (try refine nY ?_)
          repeat' (((first | (with_reducible refine Sl.k_load ?_; ((refine s_ex hst (qt_ldp_list evX asX inX) ?_; rintro v ⟨hvl, hv1⟩))) | (with_reducible refine Sl.k_field ?_; (((refine s_ex hst (qt_fieldp evX asX inX inX rfl) ?_); rintro v hp; (try simp only [Int.toNat_natCast, Int.toNat_natCast_add_one, Int.reduceToNat] at hp))))) <;> (try refine nY ?_)))
          refine s_append_data hst evX evX SlIn.h (show RSl S2 _ hs from hvl) inX inX inX (by omega) (by omega) (by decide) ?_
          clear hst; intro x17 w d17 hd17 hst
          (try refine nY ?_)
          (try replace hst := nH hst)
          have hone17 := sl_one hst
          repeat' ((fail_if_success (with_reducible show Code.wp _ (Code.region 18 _ _) _ _ _)); first | ((fail_if_success (go_big_may)); (go_step)) | (((with_reducible refine Sl.k_field ?_; (refine s_qt hst (qt_field rfl inX) ?_))) <;> (try refine nY ?_)) | (((((with_reducible refine Sl.k_store ?_; (refine s_st1 hst rfl BoxIn.h evX asX inX (by simp) ?_); clear hst; intro w hst)))) <;> (try refine nY ?_) <;> (try replace hst := nH hst)))
          have gA := List.getElem?_eq_getElem hkh
          have gB := List.getElem?_eq_getElem hk1
          refine v_begin hst (by kernel_rfl) ?_; clear hst; intro ops; (try refine nY ?_)
          (refine t_qt 0 rfl (by kernel_rfl) rfl rfl (qt_field rfl inX) ?_) <;> (try refine nY ?_)
          (refine t_qt 1 rfl (by kernel_rfl) rfl rfl (by exact qt_load rfl _ BoxIn.h inX rfl rfl) ?_) <;> (try refine nY ?_)
          (refine t_qt 2 rfl (by kernel_rfl) rfl rfl (by exact qt_move evX) ?_) <;> (try refine nY ?_)
          ((refine t_ex0 3 rfl (by kernel_rfl) rfl rfl (qt_fieldp evX hpe inX inX rfl ) ?_; rintro  v3 hp3)) <;> (try refine nY ?_)
          ((refine t_ex0 4 rfl (by kernel_rfl) rfl rfl (qt_ldp_list evX hp3 inX ) ?_; rintro  v4 ⟨hv4, hv41⟩; replace hv4 : RSl S2 v4 hs := hv4)) <;> (try refine nY ?_)
          (refine t_qt 5 rfl (by kernel_rfl) rfl rfl (by exact qt_move evX) ?_) <;> (try refine nY ?_)
          (refine t_qt 6 rfl (by kernel_rfl) rfl rfl (by exact qt_add' rfl rfl omX) ?_) <;> (try refine nY ?_)
          ((refine t_ex0 7 rfl (by kernel_rfl) rfl rfl (qt_index evX hv4 rfl inX inX omX omX ) ?_; rintro  v7 hp7; simp only [Int.toNat_natCast_add_one] at hp7)) <;> (try refine nY ?_)
          (refine t_qt 8 rfl (by kernel_rfl) rfl rfl (qt_ldp_flat evX hp7 inX inX rfl) ?_) <;> (try refine nY ?_)
          ((refine t_ex 9 rfl (by kernel_rfl) rfl rfl (fun w hst => qt_index_own hst evX SlIn.h rfl inX inX omX omX ) ?_; rintro  v9 hp9; simp only [Int.toNat_natCast] at hp9)) <;> (try refine nY ?_)
          refine v_one 10 rfl (by kernel_rfl) ?_; intro w hst K hK; refine s_store_own (u := hdV hs[k + 1]) (cs := hdC hs[k + 1]) hst evX hp9 SlIn.h inX evX rfl hlb66 (List.all_eq_true.2 (Rep.one (S := S2) (r_hd okb))) (RL.at_len hd17 hkh) ?_; clear hst; intro w hst; (try refine nY ?_); (try replace hst := nH hst); refine v_last hK hst ?_; clear hst hK K; (try clear w); (try refine nY ?_)
          refine v_done (by kernel_rfl) ?_; clear ops; intro w hst
          have hq1 : RL S2 (List.take (k * Rep.z Hd) d17 ++ hdC hs[k + 1] ++ List.drop (k * Rep.z Hd + 66) d17) (hs.set k hs[k + 1]) := RL.set hd17 (r_hd (S := S2) okb) hkh
          generalize List.take (k * Rep.z Hd) d17 ++ hdC hs[k + 1] ++ List.drop (k * Rep.z Hd + 66) d17 = d18 at hst hq1
          have hk1s : k + 1 < (hs.set k hs[k + 1]).length := by simpa using hk1
          clear hp3 hv4 hv41 hp7 hp9
          repeat' ((fail_if_success (with_reducible show Code.wp _ (Code.region 19 _ _) _ _ _)); ((fail_if_success (go_big_may)); (go_step)))
          refine v_begin hst (by kernel_rfl) ?_; clear hst; intro ops; (try refine nY ?_)
          (refine t_qt 0 rfl (by kernel_rfl) rfl rfl (qt_field rfl inX) ?_) <;> (try refine nY ?_)
          (refine t_qt 1 rfl (by kernel_rfl) rfl rfl (by exact qt_load rfl _ BoxIn.h inX rfl rfl) ?_) <;> (try refine nY ?_)
          (refine t_qt 2 rfl (by kernel_rfl) rfl rfl (by exact qt_move evX) ?_) <;> (try refine nY ?_)
          (refine t_qt 3 rfl (by kernel_rfl) rfl rfl (by exact qt_add' rfl rfl omX) ?_) <;> (try refine nY ?_)
          ((refine t_ex0 4 rfl (by kernel_rfl) rfl rfl (qt_fieldp evX hpe inX inX rfl ) ?_; rintro  v4 hp4)) <;> (try refine nY ?_)
          ((refine t_ex0 5 rfl (by kernel_rfl) rfl rfl (qt_ldp_list evX hp4 inX ) ?_; rintro  v5 ⟨hv5, hv51⟩; replace hv5 : RSl S2 v5 hs := hv5)) <;> (try refine nY ?_)
          (refine t_qt 6 rfl (by kernel_rfl) rfl rfl (by exact qt_move evX) ?_) <;> (try refine nY ?_)
          ((refine t_ex0 7 rfl (by kernel_rfl) rfl rfl (qt_index evX hv5 rfl inX inX omX omX ) ?_; rintro  v7 hp7; simp only [Int.toNat_natCast] at hp7)) <;> (try refine nY ?_)
          (refine t_qt 8 rfl (by kernel_rfl) rfl rfl (qt_ldp_flat evX hp7 inX inX rfl) ?_) <;> (try refine nY ?_)
          ((refine t_ex 9 rfl (by kernel_rfl) rfl rfl (fun w hst => qt_index_own hst evX SlIn.h rfl inX inX omX omX ) ?_; rintro  v9 hp9; simp only [Int.toNat_natCast_add_one] at hp9)) <;> (try refine nY ?_)
          refine v_one 10 rfl (by kernel_rfl) ?_; intro w hst K hK; refine s_store_own (u := hdV hs[k]) (cs := hdC hs[k]) hst evX hp9 SlIn.h inX evX rfl hl66 (List.all_eq_true.2 (Rep.one (S := S2) (r_hd okh))) (RL.at_len hq1 hk1s) ?_; clear hst; intro w hst; (try refine nY ?_); (try replace hst := nH hst); refine v_last hK hst ?_; clear hst hK K; (try clear w); (try refine nY ?_)
          refine v_done (by kernel_rfl) ?_; clear ops; intro w hst
          have hq2 : RL S2 (List.take ((k + 1) * Rep.z Hd) d18 ++ hdC hs[k] ++ List.drop ((k + 1) * Rep.z Hd + 66) d18) ((hs.set k hs[k + 1]).set (k + 1) hs[k]) := RL.set hq1 (r_hd (S := S2) okh) hk1s
          generalize List.take ((k + 1) * Rep.z Hd) d18 ++ hdC hs[k] ++ List.drop ((k + 1) * Rep.z Hd + 66) d18 = d19 at hst hq2
          have gA2 : ((hs.set k hs[k + 1]).set (k + 1) hs[k])[k]? = some hs[k + 1] := by rw [List.getElem?_set_ne (by omega), List.getElem?_set_self hkh]
          have gB2 : ((hs.set k hs[k + 1]).set (k + 1) hs[k])[k + 1]? = some hs[k] := by rw [List.getElem?_set_self hk1s]
          clear hp4 hv5 hv51 hp7 hp9 hq1 hd17 hk1s gA gB
          repeat' (first | (((with_reducible (refine Sl.k_load ?_; with_unfolding_all refine s_qt hst (qt_ldRF (j := k) evX asX SlIn.h flatHd hq2 inX gA2) ?_))) <;> (try refine nY ?_)) | ((fail_if_success (go_big_may)); (go_step)) | ((first | (with_reducible refine Sl.k_load ?_; (refine s_qt hst (by exact qt_load rfl _ BoxIn.h inX rfl rfl) ?_)) | (with_reducible refine Sl.k_field ?_; (refine s_qt hst (qt_field rfl inX) ?_)) | (with_reducible refine Sl.k_index ?_; (((refine s_ex hst (qt_index_own hst evX SlIn.h rfl inX inX omX omX) ?_); rintro v hp; (try simp only [Int.toNat_natCast, Int.toNat_natCast_add_one, Int.reduceToNat] at hp))))) <;> (try refine nY ?_)) | (((((refine s_alloc hst inX ?_; clear hst; intro bk w hst)))) <;> (try refine nY ?_) <;> (try replace hst := nH hst)))
          rename Nat => b14
          refine s_stW0 hst rfl BoxIn.h inX (x0 := hs[k + 1]) (cs := hdC hs[k + 1]) evX (r_hd okb) rfl ?_
          clear hst; intro w hst
          (try refine nY ?_)
          (try replace hst := nH hst)
          repeat' (first | (((with_reducible (refine Sl.k_load ?_; with_unfolding_all refine s_qt hst (qt_ldRF (j := k + 1) evX asX SlIn.h flatHd hq2 inX gB2) ?_))) <;> (try refine nY ?_)) | ((fail_if_success (go_big_may)); (go_step)) | ((first | (with_reducible refine Sl.k_load ?_; (refine s_qt hst (by exact qt_load rfl _ BoxIn.h inX rfl rfl) ?_)) | (with_reducible refine Sl.k_field ?_; (refine s_qt hst (qt_field rfl inX) ?_)) | (with_reducible refine Sl.k_index ?_; (((refine s_ex hst (qt_index_own hst evX SlIn.h rfl inX inX omX omX) ?_); rintro v hp; (try simp only [Int.toNat_natCast, Int.toNat_natCast_add_one, Int.reduceToNat] at hp))))) <;> (try refine nY ?_)) | (with_reducible refine Sl.gate rfl ?_; (go_step)) | (((((refine s_alloc hst inX ?_; clear hst; intro bk w hst)))) <;> (try refine nY ?_) <;> (try replace hst := nH hst)))
          rename Nat => b15
          refine s_stW0 hst rfl BoxIn.h inX (x0 := hs[k]) (cs := hdC hs[k]) evX (r_hd okh) rfl ?_
          clear hst; intro w hst
          (try refine nY ?_)
          (try replace hst := nH hst)
          repeat' ((fail_if_success (with_reducible show Code.wp _ (Code.region 22 _ _) _ _ _)); ((fail_if_success (go_big_may)); (go_step)))
          repeat' (first | (((with_reducible (refine Sl.k_load ?_; with_unfolding_all refine s_qt hst (qt_load rfl _ BoxIn.h inX (tk_hdI okh) (len_hdI okh)) ?_))) <;> (try refine nY ?_)) | ((fail_if_success (go_big_may)); (go_step)) | (((with_reducible refine Sl.k_field ?_; (refine s_qt hst (qt_field rfl inX) ?_))) <;> (try refine nY ?_)))
          refine s_stFo 1 (x0 := hs[k + 1]) hst flatHd rfl BoxIn.h inX rfl (r_hd okb) inX evX (r_dgx (d := hs[k].2.1) okh.b) (fun h => by cases h) ?_
          clear hst; intro w hR14 hst
          (try refine nY ?_)
          (try replace hst := nH hst)
          replace hR14 : Rep.R S2 (hdC ((hs[k + 1].1, hs[k].2.1, hs[k + 1].2.2) : Hd)) ((hs[k + 1].1, hs[k].2.1, hs[k + 1].2.2) : Hd) := hR14
          have hR15 : Rep.R S2 (hdC hs[k]) hs[k] := r_hd okh
          obtain ⟨y7, g7⟩ : ∃ y, decide (((hs[k + 1].1, hs[k].2.1, hs[k + 1].2.2) : Hd) = hs[k]) = y := ⟨_, rfl⟩
          have hcd : y7 = false → codeH hs[k + 1] ≠ codeH hs[k] := fun hy e => by
            subst hy
            refine of_decide_eq_false g7 ?_
            unfold codeH at e
            simp only [Prod.mk.injEq] at e
            obtain ⟨e1, e2⟩ := e
            exact Prod.ext e1 (Prod.ext rfl e2)
          cases y7 with
          | true =>
            repeat' ((fail_if_success (with_reducible show Code.wp _ (Code.region 25 _ _) _ _ _)); first | ((first | (with_reducible (refine Sl.k_load ?_; with_unfolding_all refine s_qt hst (by first | exact qt_loadF rfl BoxIn.h hR14 inX | exact qt_loadF rfl BoxIn.h hR15 inX) ?_)) | (with_reducible refine Sl.k_bin ?_; (refine s_qt hst (qt_eqlK_b rfl rfl hR14 hR15 inX inX inferInstance g7) ?_))) <;> (try refine nY ?_)) | ((fail_if_success (go_big_may)); (go_step)))
            go_ret
            exact ⟨_, rfl, rfl, St.weaken hle hst.drop.drop.drop.drop.drop⟩
          | false =>
            have hcd := hcd rfl
            repeat' ((fail_if_success (with_reducible show Code.wp _ (Code.region 25 _ _) _ _ _)); first | ((first | (with_reducible (refine Sl.k_load ?_; with_unfolding_all refine s_qt hst (by first | exact qt_loadF rfl BoxIn.h hR14 inX | exact qt_loadF rfl BoxIn.h hR15 inX) ?_)) | (with_reducible refine Sl.k_bin ?_; (refine s_qt hst (qt_eqlK_b rfl rfl hR14 hR15 inX inX inferInstance g7) ?_))) <;> (try refine nY ?_)) | ((fail_if_success (go_big_may)); (go_step)))
            have hst0 := hst.drop.drop
            clear hst
            have hst := hst0
            clear hst0
            obtain ⟨S3, hS3, hst, hxs⟩ := St.freeze (α := Hd) (xs := (hs.set k hs[k + 1]).set (k + 1) hs[k]) hst hq2 (by simp)
            have hlaw0 : ∀ xs : List Hd, xs = (hs.set k hs[k + 1]).set (k + 1) hs[k] → (regE (⟨[a0, a1, a2, a3, a4, a5, a6, a7, a8, a9, c0, c1, c2, c3, c4, c5]⟩ : Dg) hs).1 = (regE (⟨[a0, a1, a2, a3, a4, a5, a6, a7, a8, a9, c0, c1, c2, c3, c4, c5]⟩ : Dg) xs).1 → collE (⟨[a0, a1, a2, a3, a4, a5, a6, a7, a8, a9, c0, c1, c2, c3, c4, c5]⟩ : Dg) hs (⟨[a0, a1, a2, a3, a4, a5, a6, a7, a8, a9, c0, c1, c2, c3, c4, c5]⟩ : Dg) xs = true := by
              rintro _ rfl h
              exact omit_swap (List.getElem?_eq_getElem hkh) (List.getElem?_eq_getElem hk1) hcd h
            have hx20 : ∀ xs : List Hd, xs = (hs.set k hs[k + 1]).set (k + 1) hs[k] → ∀ h ∈ xs, HdOk h := by
              rintro _ rfl h hh
              rcases List.mem_or_eq_of_mem_set hh with h1 | h1
              · rcases List.mem_or_eq_of_mem_set h1 with h1 | h1
                · exact hh2 h h1
                · subst h1; exact okb
              · subst h1; exact okh
            have hxl0 : ∀ xs : List Hd, xs = (hs.set k hs[k + 1]).set (k + 1) hs[k] → xs.length ≤ 20 := by
              rintro _ rfl
              simp <;> omega
            obtain ⟨xs, hxse⟩ : ∃ xs, xs = (hs.set k hs[k + 1]).set (k + 1) hs[k] := ⟨_, rfl⟩
            rw [← hxse] at hxs
            have hlaw := hlaw0 xs hxse
            have hx2 := hx20 xs hxse
            have hxl := hxl0 xs hxse
            clear hlaw0 hx20 hxl0 hxse
            replace hpe := hpe.mono hS3
            replace hG := hG.mono hS3
            replace hle := hle.trans hS3
            have hRx : Rep.R S3 (evB a0 a1 a2 a3 a4 a5 a6 a7 a8 a9 c0 c1 c2 c3 c4 c5 x17 (.slice na nn nc)) (((⟨[a0, a1, a2, a3, a4, a5, a6, a7, a8, a9, c0, c1, c2, c3, c4, c5]⟩ : Dg), xs, [], ()) : Evd) := prod_mk (r_dgx hm) (prod_mk (cs := [_]) ⟨_, rfl, hxs⟩ (prod_mk (cs := [_]) ⟨_, rfl, hnil.mono hS3⟩ unit_mk))
            have hst0 := hst
            clear hst
            obtain ⟨S4, hS4, hst, hpx⟩ := pt_box (α := Evd) hst0 hRx rfl
            clear hst0
            generalize Value.pointer (some ⟨bk, 0, none⟩) = pX at *
            replace hpe := hpe.mono hS4
            replace hG := hG.mono hS4
            replace hle := hle.trans hS4
            have okX := regE_ok (⟨[a0, a1, a2, a3, a4, a5, a6, a7, a8, a9, c0, c1, c2, c3, c4, c5]⟩ : Dg) xs
            have okE := regE_ok (⟨[a0, a1, a2, a3, a4, a5, a6, a7, a8, a9, c0, c1, c2, c3, c4, c5]⟩ : Dg) hs
            have cX := fun {S' : Snap} {M : List Chunk} (w : World) (hS : S4.Le S') (hst : St S' M w) (cs : List Value) (hR : Rep.R S4 cs (((⟨[a0, a1, a2, a3, a4, a5, a6, a7, a8, a9, c0, c1, c2, c3, c4, c5]⟩ : Dg), xs, [], ()) : Evd)) => registers_c w hst (hG.mono hS) cs _ (Rep.mono hS hR) hm hx2 (show xs.length ≤ 1048576 by omega)
            have cE := fun {S' : Snap} {M : List Chunk} (w : World) (hS : S4.Le S') (hst : St S' M w) (cs : List Value) (hR : Rep.R S4 cs (((⟨[a0, a1, a2, a3, a4, a5, a6, a7, a8, a9, c0, c1, c2, c3, c4, c5]⟩ : Dg), hs, [], ()) : Evd)) => registers_c w hst (hG.mono hS) cs _ (Rep.mono hS hR) hm hh2 (show hs.length ≤ 1048576 by omega)
            have cC := fun {S' : Snap} {M : List Chunk} (w : World) (hS : S4.Le S') (hst : St S' M w) (va : Value) (ha : RSl S' va hs) (vb : Value) (hb : RSl S' vb xs) => collides21_c w hst (⟨[a0, a1, a2, a3, a4, a5, a6, a7, a8, a9, c0, c1, c2, c3, c4, c5]⟩ : Dg) hm va hs ha hh2 (by omega) (⟨[a0, a1, a2, a3, a4, a5, a6, a7, a8, a9, c0, c1, c2, c3, c4, c5]⟩ : Dg) hm vb xs hb hx2 (by omega)
            dsimp only at cX cE
            generalize regE (⟨[a0, a1, a2, a3, a4, a5, a6, a7, a8, a9, c0, c1, c2, c3, c4, c5]⟩ : Dg) xs = X at *
            generalize regE (⟨[a0, a1, a2, a3, a4, a5, a6, a7, a8, a9, c0, c1, c2, c3, c4, c5]⟩ : Dg) hs = G at *
            generalize collE (⟨[a0, a1, a2, a3, a4, a5, a6, a7, a8, a9, c0, c1, c2, c3, c4, c5]⟩ : Dg) hs (⟨[a0, a1, a2, a3, a4, a5, a6, a7, a8, a9, c0, c1, c2, c3, c4, c5]⟩ : Dg) xs = cb at *
            obtain ⟨y2, g2⟩ : ∃ y, decide (X.1 = G.1) = y := ⟨_, rfl⟩
            cases y2 with
            | false =>
              refine v_begin hst (by kernel_rfl) ?_; clear hst; intro ops; (try refine nY ?_)
              (refine t_qt 0 rfl (by kernel_rfl) rfl rfl (by exact qt_move evX) ?_) <;> (try refine nY ?_)
              (refine t_qt 1 rfl (by kernel_rfl) rfl rfl (by exact qt_move evX) ?_) <;> (try refine nY ?_)
              (((refine t_ex0 2 rfl (by kernel_rfl) rfl rfl (qt_ldp evX hpx inX ) ?_; rintro  v2 ⟨cl2, rfl, hcl2⟩))) <;> (try refine nY ?_)
              ((refine t_call 3 rfl (by kernel_rfl) rfl (fun S' M' w hS hM hst => cX w hS hst cl2 hcl2) inX rfl ?_)) <;> (try refine nY ?_)
              ((refine t_qt 4 rfl (by kernel_rfl) rfl rfl (qt_regC rfl okX) ?_)) <;> (try refine nY ?_)
              (((refine t_ex0 5 rfl (by kernel_rfl) rfl rfl (qt_ldp evX hpe inX ) ?_; rintro  v5 ⟨cl5, rfl, hcl5⟩))) <;> (try refine nY ?_)
              ((refine t_call 6 rfl (by kernel_rfl) rfl (fun S' M' w hS hM hst => cE w hS hst cl5 hcl5) inX rfl ?_)) <;> (try refine nY ?_)
              ((refine t_qt 7 rfl (by kernel_rfl) rfl rfl (qt_regC rfl okE) ?_)) <;> (try refine nY ?_)
              ((refine t_qt 8 rfl (by kernel_rfl) rfl rfl (qt_neqK_b rfl rfl (r_dg okX.a) (r_dg okE.a) inX inX inferInstance g2) ?_)) <;> (try refine nY ?_)
              (refine t_qt 9 rfl (by kernel_rfl) rfl rfl (by exact qt_move evX) ?_) <;> (try refine nY ?_)
              (refine t_no 10 rfl (by kernel_rfl) rfl rfl ?_) <;> (try refine nY ?_)
              (refine t_no 11 rfl (by kernel_rfl) rfl rfl ?_) <;> (try refine nY ?_)
              (refine t_no 12 rfl (by kernel_rfl) rfl rfl ?_) <;> (try refine nY ?_)
              (refine t_no 13 rfl (by kernel_rfl) rfl rfl ?_) <;> (try refine nY ?_)
              (refine t_no 14 rfl (by kernel_rfl) rfl rfl ?_) <;> (try refine nY ?_)
              (refine t_no 15 rfl (by kernel_rfl) rfl rfl ?_) <;> (try refine nY ?_)
              (refine t_no 16 rfl (by kernel_rfl) rfl rfl ?_) <;> (try refine nY ?_)
              (refine t_qt 17 rfl (by kernel_rfl) rfl rfl (by exact qt_pick_t rfl evX) ?_) <;> (try refine nY ?_)
              (refine t_qt 18 rfl (by kernel_rfl) rfl rfl (by exact qt_pick_t rfl evX) ?_) <;> (try refine nY ?_)
              (refine t_qt 19 rfl (by kernel_rfl) rfl rfl (by exact qt_assign evX) ?_) <;> (try refine nY ?_)
              refine v_done (by kernel_rfl) ?_; clear ops; intro w hst
              repeat' (((fail_if_success (go_big_may)); (go_step)))
              go_ret
              exact ⟨_, rfl, rfl, St.weaken hle hst.drop⟩
            | true =>
              obtain rfl : cb = true := hlaw (of_decide_eq_true g2).symm
              refine v_begin hst (by kernel_rfl) ?_; clear hst; intro ops; (try refine nY ?_)
              (refine t_qt 0 rfl (by kernel_rfl) rfl rfl (by exact qt_move evX) ?_) <;> (try refine nY ?_)
              (refine t_qt 1 rfl (by kernel_rfl) rfl rfl (by exact qt_move evX) ?_) <;> (try refine nY ?_)
              (((refine t_ex0 2 rfl (by kernel_rfl) rfl rfl (qt_ldp evX hpx inX ) ?_; rintro  v2 ⟨cl2, rfl, hcl2⟩))) <;> (try refine nY ?_)
              ((refine t_call 3 rfl (by kernel_rfl) rfl (fun S' M' w hS hM hst => cX w hS hst cl2 hcl2) inX rfl ?_)) <;> (try refine nY ?_)
              ((refine t_qt 4 rfl (by kernel_rfl) rfl rfl (qt_regC rfl okX) ?_)) <;> (try refine nY ?_)
              (((refine t_ex0 5 rfl (by kernel_rfl) rfl rfl (qt_ldp evX hpe inX ) ?_; rintro  v5 ⟨cl5, rfl, hcl5⟩))) <;> (try refine nY ?_)
              ((refine t_call 6 rfl (by kernel_rfl) rfl (fun S' M' w hS hM hst => cE w hS hst cl5 hcl5) inX rfl ?_)) <;> (try refine nY ?_)
              ((refine t_qt 7 rfl (by kernel_rfl) rfl rfl (qt_regC rfl okE) ?_)) <;> (try refine nY ?_)
              ((refine t_qt 8 rfl (by kernel_rfl) rfl rfl (qt_neqK_b rfl rfl (r_dg okX.a) (r_dg okE.a) inX inX inferInstance g2) ?_)) <;> (try refine nY ?_)
              (refine t_qt 9 rfl (by kernel_rfl) rfl rfl (by exact qt_move evX) ?_) <;> (try refine nY ?_)
              (refine t_qt 10 rfl (by kernel_rfl) rfl rfl (by exact qt_loadA evX BoxIn.h inX rfX) ?_) <;> (try refine nY ?_)
              (((refine t_ex0 11 rfl (by kernel_rfl) rfl rfl (qt_fieldp evX hpe inX inX rfl ) ?_; rintro  v11 hp11))) <;> (try refine nY ?_)
              (((refine t_ex0 12 rfl (by kernel_rfl) rfl rfl (qt_ldp_list evX hp11 inX ) ?_; rintro  v12 ⟨hv12, hv121⟩))) <;> (try refine nY ?_)
              (refine t_qt 13 rfl (by kernel_rfl) rfl rfl (by exact qt_loadA evX BoxIn.h inX rfX) ?_) <;> (try refine nY ?_)
              (((refine t_ex0 14 rfl (by kernel_rfl) rfl rfl (qt_fieldp evX hpx inX inX rfl ) ?_; rintro  v14 hp14))) <;> (try refine nY ?_)
              (((refine t_ex0 15 rfl (by kernel_rfl) rfl rfl (qt_ldp_list evX hp14 inX ) ?_; rintro  v15 ⟨hv15, hv151⟩))) <;> (try refine nY ?_)
              ((refine t_call 16 rfl (by kernel_rfl) rfl (fun S' M' w hS hM hst => cC w hS hst v12 (hv12.mono hS) v15 (hv15.mono hS)) inX rfl ?_)) <;> (try refine nY ?_)
              (refine t_qt 17 rfl (by kernel_rfl) rfl rfl (by exact qt_pick_f rfl evX) ?_) <;> (try refine nY ?_)
              (refine t_qt 18 rfl (by kernel_rfl) rfl rfl (by exact qt_pick_t rfl evX) ?_) <;> (try refine nY ?_)
              (refine t_qt 19 rfl (by kernel_rfl) rfl rfl (by exact qt_assign evX) ?_) <;> (try refine nY ?_)
              refine v_done (by kernel_rfl) ?_; clear ops; intro w hst
              repeat' (((fail_if_success (go_big_may)); (go_step)))
              go_ret
              exact ⟨_, rfl, rfl, St.weaken hle hst.drop⟩
end Go.Proofs.YtgihhhdeoaplhaaDoor

/- The statement EvidenceOmission. -/
namespace Go.Proofs.YtgihhhdeoaplhaaDoor
set_option linter.unusedSimpArgs false
set_option linter.unusedVariables false
open Go.RowKit Go.Sl Go.ChangeShapes Go.WideShapes Go.ChangeAt

set_option maxRecDepth 20000 in
theorem eomit_post (H : Type) (enc : TypeId × Value → H) (W : World) (base : Nat) (args : Array Value) (ds gs : List (DataW H)) (before : List MemPlace)
    (hval : ∀ (j : Nat) t v, Tryd.f7.params[j]? = some t → args[j]? = some v → Value.okWide Tryd.prog W .any base t v)
    (hW : DataW.Whole enc Tryd.prog Tryd.f7.params.toList Rows.evidenceOmissionSpec.vars false W args.toList ds gs before) (hk : Rows.uptoSmall H (ds ++ gs) = true) (hL : laidMetH Tryd.prog Rows.evidenceOmissionUptoRow.laid W) :
    Calls Tryd.prog 7 args W fun e W' => ∃ v, e = .returned v ∧ Rows.evidenceOmissionSpec.post enc Tryd.prog Tryd.f7 false true false false W args v W' := by
  have hW' := hW
  obtain ⟨p, q, hA0, hV, rfl, hfz, hnd⟩ := hW
  have hA : DataW.TrodAll enc Tryd.prog W 0 (fun _ => true) true Tryd.f7.params.toList args.toList ds p := hA0
  have hk := small_all hk
  rw [Tryd.params7] at hA hval
  obtain ⟨v0, vs0, d0, ds0, p0, q0, hargs, rfl, rfl, h0, r0⟩ := trodAll_cons hA
  obtain ⟨v1, vs1, d1, ds1, p1, q1, rfl, rfl, rfl, h1, r1⟩ := trodAll_cons r0
  obtain ⟨v2, vs2, d2, ds2, p2, q2, rfl, rfl, rfl, h2, r2⟩ := trodAll_cons r1
  obtain ⟨v3, vs3, d3, ds3, p3, q3, rfl, rfl, rfl, h3, r3⟩ := trodAll_cons r2
  obtain ⟨rfl, rfl, rfl⟩ := trodAll_nil r3
  obtain rfl : args = #[v0, v1, v2, v3] := by cases args; simp_all
  obtain ⟨rfl, rfl⟩ := trodVars_none hV
  simp only [List.append_nil, Rows.uptoBulkAll] at hk
  obtain ⟨d0, rfl, hd0⟩ := open_dg (hval 0 23 v0 rfl rfl) h0
  obtain ⟨l1, hl1, hm1⟩ := open_evs (hval 1 24 v1 rfl rfl) h1 (by omega)
  obtain ⟨n2, rfl, hn2⟩ := open_u8 (hval 2 5 v2 rfl rfl) h2
  obtain ⟨n3, rfl, hn3⟩ := open_u8 (hval 3 5 v3 rfl rfl) h3
  refine Calls.mono (eomit_c W (St.start W) (glob_of hL) d0 hd0 v1 l1 hl1 hm1 n2 hn2 n3 hn3) fun e W' ⟨v, he, hv, hst⟩ => ?_
  subst hv
  exact ⟨_, he, law_post (tb := 4) rfl hW' (by kernel_rfl) (by rw [Tryd.params7]; intro t ht'; have e : t = 23 ∨ t = 24 ∨ t = 5 := (by simpa using ht'); rcases e with rfl | rfl | rfl <;> exact ⟨by kernel_rfl, of_decide_eq_true (by kernel_rfl)⟩) (by kernel_rfl) (by kernel_rfl) rfl rfl rfl hst.below⟩

abbrev eomit_args : Array Value := #[.agg #[.int .u8 0, .int .u8 0, .int .u8 0, .int .u8 0, .int .u8 0, .int .u8 0, .int .u8 0, .int .u8 0, .int .u8 0, .int .u8 0, .int .u8 0, .int .u8 0, .int .u8 0, .int .u8 0, .int .u8 0, .int .u8 0], .slice none 0 0, .int .u8 0, .int .u8 0]
theorem eomit_met (os : Os) : laidMet Tryd.prog Rows.evidenceOmissionUptoRow.laid ((laidWorld os #[]).forCall (fun _ _ => 0) ⟨#[], eomit_args, []⟩).memory :=
  laidMet_of_run' 8 (by kernel_rfl) (by kernel_rfl)
theorem eomit_reads (os : Os) {H : Type} (enc : TypeId × Value → H) : ∃ places, DataW.whole enc Tryd.prog ((laidWorld os #[]).forCall (fun _ _ => 0) ⟨#[], eomit_args, []⟩).memory Tryd.f7.params.toList Rows.evidenceOmissionSpec.vars false eomit_args.toList 8 = some ([.agg [.lit (.int .u8 0), .lit (.int .u8 0), .lit (.int .u8 0), .lit (.int .u8 0), .lit (.int .u8 0), .lit (.int .u8 0), .lit (.int .u8 0), .lit (.int .u8 0), .lit (.int .u8 0), .lit (.int .u8 0), .lit (.int .u8 0), .lit (.int .u8 0), .lit (.int .u8 0), .lit (.int .u8 0), .lit (.int .u8 0), .lit (.int .u8 0)], .nil, .lit (.int .u8 0), .lit (.int .u8 0)], [], places) :=
  ⟨[], by kernel_rfl⟩

set_option maxRecDepth 100000 in
theorem eomit_lifted (os : Os) (started : os.Started) (H : Type) (enc : TypeId × Value → H) (F : Stop.Interp) :
    ReturnsInHanded {} Tryd.checked os 7 .any ((Rows.OpenSpec.upto Rows.evidenceOmissionSpec).preRow enc Tryd.prog Tryd.f7 Rows.evidenceOmissionUptoRow.domain false Rows.evidenceOmissionUptoRow.laid) (((Rows.OpenSpec.upto Rows.evidenceOmissionSpec).at F).post enc Tryd.prog Tryd.f7 false true false false) := by
  obtain ⟨places, hx⟩ := eomit_reads os enc
  refine returnsInHanded_of_row (C := Tryd.checked) (s := Rows.OpenSpec.upto Rows.evidenceOmissionSpec) own started (by kernel_rfl) Tryd.func7
    (witness_row_at (enc := enc) (C := Tryd.checked) false (laidWorld os #[]) eomit_args rfl (by kernel_rfl) (by kernel_rfl) (by kernel_rfl)
      (OpenSpec.preRow_of_cond 8 hx (by kernel_rfl) (fun k hk => by cases hk; kernel_rfl) (by kernel_rfl) (eomit_met os))) ?_
  intro W base args ds gs before hval hW _ hc _ hL _ _
  exact eomit_post H enc W base args ds gs before hval hW (hc _ rfl) hL

theorem eomit_said : Rows.EvidenceOmissionUptoSaid :=
  OpenClaim.holds_of_cond 7 Tryd.f7 rfl rfl rfl rfl rfl rfl rfl ⟨rfl, rfl, rfl, rfl, rfl⟩ rfl rfl rfl rfl rfl (by kernel_rfl) Tryd.func7 (by kernel_rfl)
    (of_decide_eq_true (by kernel_rfl)) (by unfold Func.isWrapper; first | (rw [if_pos (by decide +kernel)]; kernel_rfl) | (rw [if_neg (by decide +kernel)]; exact ⟨rfl, rfl⟩))
    (fun os started H enc _ F => by rw [OpenClaim.pre_eq_preRow]; exact eomit_lifted os started H enc F)

theorem eomit_plain (f : FuncId) (fn : Func) (hf : Tryd.pinned.checked.prog.funcNamed "bootchain/bootchainlaw21.EvidenceOmission" = some f) (hfn : Tryd.pinned.checked.prog.funcs[f]? = some fn) :
    false = Tryd.pinned.checked.prog.looks [] ∧ ∀ (j : Nat) t, fn.params[j]? = some t → Tryd.pinned.checked.prog.wantsStandIn t = false := by
  obtain rfl : f = 7 := Option.some.inj ((show Tryd.prog.funcNamed "bootchain/bootchainlaw21.EvidenceOmission" = some 7 by kernel_rfl).symm.trans hf) |>.symm
  obtain rfl : fn = Tryd.f7 := (Option.some.inj (Tryd.func7.symm.trans hfn)).symm
  refine ⟨by kernel_rfl, fun j t ht => ?_⟩
  rw [Tryd.params7] at ht
  have e : t = 23 ∨ t = 24 ∨ t = 5 := by simpa using Array.mem_of_getElem? ht
  rcases e with rfl | rfl | rfl
  · exact (show Tryd.prog.wantsStandIn 23 = false by kernel_rfl)
  · exact (show Tryd.prog.wantsStandIn 24 = false by kernel_rfl)
  · exact (show Tryd.prog.wantsStandIn 5 = false by kernel_rfl)

theorem eomit_proved : Rows.EvidenceOmissionUptoCardSaid :=
  Claim7.holds_tied_plain_at .later [] _ _ _ _ eomit_said (fun _ h => by cases h) (by kernel_rfl) (fun _ h => by cases h) evidenceOmissionUpto_row_tie rfl ⟨rfl, rfl⟩ (by kernel_rfl) rfl eomit_plain (by kernel_rfl)
end Go.Proofs.YtgihhhdeoaplhaaDoor
