/- Deferred closures that recover. General over the program. -/
import Derived.Test.YtmbdbfdlbbkclaaDoorSlPn
import Derived.Test.YtmbdbfdlbbkclaaDoorSlQ
namespace Go.Sl
set_option linter.unusedSimpArgs false
set_option linter.unusedVariables false
open Go.RowKit
variable {P : Program} {w : World} {l : List Value} {S : Snap} {M : List Chunk}

theorem results_two {fn : Func} {r1 r2 : ResultVar} {v1 v2 : Value} (hr : fn.results = #[r1, r2]) (h1 : RVar P l w r1 v1) (h2 : RVar P l w r2 v2) : (results fn l.toArray).run P w = .ok (.tuple #[v1, v2]) w := by
  have hn : ∀ t, nth l t = l[t]?.getD undef := fun t => by simp [nth_eq]
  cases r1 <;> cases r2 <;> simp only [RVar, hn] at h1 h2 <;> (try obtain ⟨ad, h1, k1⟩ := h1) <;> (try obtain ⟨ad2, h2, k2⟩ := h2) <;> simp_all [results, asAddr]
theorem leaves_two {fn : Func} {R : Ending → World → Prop} {r1 r2 : ResultVar} {v1 v2 : Value} (hr : fn.results = #[r1, r2]) (h1 : RVar P l w r1 v1) (h2 : RVar P l w r2 v2) (hR : R (.returned (.tuple #[v1, v2])) w) : Leaves P fn l.toArray R [] .returning w :=
  ⟨_, results_two hr h1 h2, hR⟩

theorem s_defer {ops : Array Oper} {rest : List Oper} {Q : Exit → Act → World → Prop} {D : List Deferred} {ty : TypeId} {pos : String} {af : Array Edge} {x : Operand} {f : FuncId} {ca : List Value} (hx : evF l x = .func (.func f) #[] ca.toArray)
    (h : wpList P ops Q rest ⟨l.toArray, { target := .fn (.func f) ca.toArray, args := #[] } :: D⟩ w) :
    wpList P ops Q (⟨none, .defer { callee := .value x, args := #[], argTypes := #[] }, ty, pos, af, none⟩ :: rest) ⟨l.toArray, D⟩ w := by
  refine wpList_plain rfl fun K hK => ?_
  unfold Oper.wp
  rw [evF_eq]
  have hr : (execOp (evF l) ⟨none, .defer { callee := .value x, args := #[], argTypes := #[] }, ty, pos, af, none⟩).run P w = .ok (.defer { target := .fn (.func f) ca.toArray, args := #[] }) w := by
    simp [execOp, resolve, hx, Deferred.ofValue]
  rw [hr]
  exact hK _ _ h
theorem leaves_one {fn : Func} {tmps : Array Value} {R : Ending → World → Prop} {f : FuncId} {ca : List Value} {u v : FrameMode} {post : World → Prop} (hb : Body P f) (hu : u ≠ .run)
    (c : CallsD P f ca.toArray u w fun e u' w' => e = .returned (.tuple #[]) ∧ u' = v ∧ post w') (h : ∀ w', post w' → Leaves P fn tmps R [] (settle v) w') :
    Leaves P fn tmps R [{ target := .fn (.func f) ca.toArray, args := #[] }] u w := by
  refine leaves_cons (f := f) (args := ca.toArray) hu ?_ (c.mono fun e u' w' ⟨he, hu', hp⟩ => ?_)
  · have := hb.enter (w := w) ca.toArray
    simp only [invoke]
    simpa using this
  · subst he
    subst hu'
    exact h w' hp
theorem bodyD_ret {fn : Func} {R : Ending → World → Prop} {D : List Deferred} (h : Leaves P fn l.toArray R D .returning w) : bodyPostD P fn R .ret ⟨l.toArray, D⟩ w := h
theorem bodyD_panic {fn : Func} {R : Ending → World → Prop} {D : List Deferred} {ch : List PanicEntry} (h : Leaves P fn l.toArray R D (.panicking ch) w) : bodyPostD P fn R (.panic ch) ⟨l.toArray, D⟩ w := h
/-- A new variable and what is put into it at once. -/
theorem St.allocSet {T : TypeId} {c d : List Value} (h : St S M w) (hl : d.length = c.length) :
    St S (.box w.heap.size d T :: M) ((w.alloc (.cells c.toArray T)).setRow w.heap.size d.toArray) := by
  have h1 := (h.alloc c T).write (k := 0) (o := 0) (vs := d) rfl (by omega)
  rw [List.take_zero, List.nil_append, List.drop_of_length_le (by omega), List.append_nil] at h1
  exact h1

section
variable {Q : Exit → Act → List Frame → World → Prop} {a : Act} {cs : List Frame}
/-- A region whose first operation recovers, the others none. -/
theorem wpS_region_rec {id : Nat} {o : Oper} {lo : List Oper} {v : Value} {cs' : List Frame} (hr : ∀ w, (execOp a.eval o).run P w = .ok .recover w) (hg : o.guard = none) (hc : (recoverD cs).getD (.nilIface, cs) = (v, cs'))
    (h : wpList P (o :: lo).toArray (fun e a w => Q e a cs' w) lo (a.put o.dst v) w) : (Code.region id (o :: lo).toArray false).wpS P Q a cs w := by
  intro b k hb hro
  have hl : wpOps P (o :: lo).toArray (fun e a w => Q e a cs' w) (List.range' 1 lo.length) (a.put o.dst v) w := by
    rw [wpOps_eq_wpList lo 1 (fun j => by simp [Nat.add_comm 1 j])]
    exact h
  obtain ⟨e, a', w', hq, harr⟩ := wp_ops _ _ _ hl b k cs'
  refine ⟨e, a', cs', w', hq, .of_steps (.head step_region (.one (step_lone_go ?_))) harr⟩
  have hrg : List.range (o :: lo).toArray.size = 0 :: List.range' 1 lo.length := by
    rw [List.range_eq_range']
    simp [List.range'_succ]
  rw [hrg]
  have ho : (o :: lo).toArray[0]? = some o := by simp
  have hw : Region.wanted o (yielded (o :: lo).toArray a.tmps) = true := by simp [Region.wanted, hg]
  have hgo := stepG_op (P := P) (b := b) (k := k) (cs := cs) (w := w) (rest := List.range' 1 lo.length) ho hw
  have hfin : ∀ v, (b.at a (.inRegion (o :: lo).toArray (0 :: List.range' 1 lo.length) :: k)).finish v = b.at (a.put o.dst v) (.inRegion (o :: lo).toArray (List.range' 1 lo.length) :: k) := by
    intro v; rw [Frame.finish_at, ho]; rfl
  have hk : (b.at a (.inRegion (o :: lo).toArray (0 :: List.range' 1 lo.length) :: k)).kind = .deferred := hb
  have htr := tryRecover_deferred hk cs
  rw [hgo, ← hfin]
  simp only [Frame.at] at htr ⊢
  cases hrec : recoverD cs with
  | none =>
    rw [hrec] at hc
    cases hc
    simp [stepG.apply, hr, htr, hrec]
  | some p =>
    obtain ⟨v', c'⟩ := p
    rw [hrec] at hc
    cases hc
    simp [stepG.apply, hr, htr, hrec]
end
end Go.Sl
