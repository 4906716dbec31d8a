/- Calls that panic. General over the program. -/
import Derived.Test.YtmbdbfdlbbkclaaDoorSlE
import Derived.Recover
namespace Go.Sl
set_option linter.unusedSimpArgs false
set_option linter.unusedVariables false
open Go.RowKit
variable {P : Program}

/-- The call panics; 'post' of the world behind it. -/
def Pans (P : Program) (f : FuncId) (args : List Value) (w : World) (ch : List PanicEntry) (post : World → Prop) : Prop :=
  Calls P f args.toArray w fun e w' => e = .panicked ch ∧ post w'

section
variable {ops : Array Oper} {rest : List Oper} {Q : Exit → Act → World → Prop} {l : List Value} {D : List Deferred} {w : World} {ty : TypeId} {pos : String} {af : Array Edge}

theorem Pans.mono {f : FuncId} {args : List Value} {ch : List PanicEntry} {post post' : World → Prop} (h : Pans P f args w ch post) (hp : ∀ w', post w' → post' w') : Pans P f args w ch post' :=
  Calls.mono h fun _ w' ⟨e, p⟩ => ⟨e, hp w' p⟩

theorem step_enterP {o : Oper} (hg : o.guard = none) {f : FuncId} {args : List Value} {ch : List PanicEntry} {post : World → Prop} (hr : (execOp (evF l) o).run P w = .ok (.enter f args.toArray) w)
    (c : Pans P f args w ch post) (h : ∀ w', post w' → Q (.panic ch) ⟨l.toArray, D⟩ w') : wpList P ops Q (o :: rest) ⟨l.toArray, D⟩ w := by
  refine wpList_plain hg fun K _ => ?_
  unfold Oper.wp
  rw [evF_eq, hr]
  refine Calls.mono c fun e w' ⟨he, hp⟩ => ?_
  subst he
  exact h w' hp

/-- A call of a function that is named. -/
theorem s_callP {f : FuncId} {xs : List Operand} {ats : Array TypeId} {args : List Value} {dd : Option Tmp} {ch : List PanicEntry} {post : World → Prop} (c : Pans P f args w ch post) (hb : Body P f) (ha : xs.map (evF l) = args)
    (h : ∀ w', post w' → Q (.panic ch) ⟨l.toArray, D⟩ w') :
    wpList P ops Q (⟨dd, .call { callee := .value (.func f), args := xs.toArray, argTypes := ats }, ty, pos, af, none⟩ :: rest) ⟨l.toArray, D⟩ w := by
  refine step_enterP rfl ?_ c h
  subst ha
  have := hb.enter (w := w) (xs.map (evF l)).toArray
  simp only [execOp, resolve, Deferred.ofValue, evF, Sem.run_bind, Sem.run_pure, Result.andThen_ok, invoke]
  simpa using this

/-- A call of a function value. -/
theorem s_callvP {f : FuncId} {x : Operand} {xs : List Operand} {ats : Array TypeId} {args args' : List Value} {fi ca : List Value} {dd : Option Tmp} {ch : List PanicEntry} {post : World → Prop} (c : Pans P f args' w ch post) (hx : evF l x = .func (.func f) fi.toArray ca.toArray) (hb : Body P f) (ha : xs.map (evF l) = args)
    (hargs : fi ++ args ++ ca = args') (h : ∀ w', post w' → Q (.panic ch) ⟨l.toArray, D⟩ w') :
    wpList P ops Q (⟨dd, .call { callee := .value x, args := xs.toArray, argTypes := ats }, ty, pos, af, none⟩ :: rest) ⟨l.toArray, D⟩ w := by
  refine step_enterP rfl ?_ c h
  subst ha; subst hargs
  have := hb.enter (w := w) (fi ++ xs.map (evF l) ++ ca).toArray
  simp only [execOp, resolve, hx, Deferred.ofValue, Sem.run_bind, Sem.run_pure, Result.andThen_ok, invoke]
  simpa using this

theorem s_panic {x : Operand} {T : TypeId} {v : Value} (hx : evF l x = .iface T v) (h : Q (.panic [{ v := .iface T v, recovered := false }]) ⟨l.toArray, D⟩ w) :
    wpList P ops Q (⟨none, .panic x, ty, pos, af, none⟩ :: rest) ⟨l.toArray, D⟩ w := by
  refine wpList_plain rfl fun K _ => ?_
  unfold Oper.wp
  rw [evF_eq]
  have hr : (execOp (evF l) ⟨none, .panic x, ty, pos, af, none⟩).run P w = .halt (.panic (.iface T v)) w := by
    simp only [execOp, hx, Sem.run_bind, run_panic_iface]
    rfl
  rw [hr]
  exact h

/-- A pointer into an own slice is not nil. -/
theorem s_nilO {d : Tmp} {x : Operand} {v p : Value} {o : Nat} (hx : evF l x = p) (hp : PtO v p o) (h : wpList P ops Q rest ⟨(l.set d p).toArray, D⟩ w) :
    wpList P ops Q (⟨some d, .nilCheck x, ty, pos, af, none⟩ :: rest) ⟨l.toArray, D⟩ w := by
  obtain ⟨g, n, cap, rfl, rfl⟩ := hp
  refine step_value (w' := w) ?_ h
  simp [execOp, hx]

theorem panic_end {fn : Func} {ch : List PanicEntry} {post : World → Prop} {a : Act} (ha : a.defers = []) (h : post w) : bodyPost P fn (fun e w' => e = .panicked ch ∧ post w') (.panic ch) a w := ⟨ha, rfl, h⟩
end
theorem dtX {ok : Bool} (h : ok = true := by first | rfl | assumption | exact decide_eq_true (by omega)) : ok = true := h
theorem dfX {ok : Bool} (h : ok = false := by first | rfl | assumption | exact decide_eq_false (by omega)) : ok = false := h
end Go.Sl
