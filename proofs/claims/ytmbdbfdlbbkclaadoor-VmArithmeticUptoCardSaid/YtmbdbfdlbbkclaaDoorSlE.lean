/- Rules of a small separation logic over the model's worlds: calls; own slices read and written in place. General over the program. -/
import Derived.Test.YtmbdbfdlbbkclaaDoorSlC
import Derived.Test.YtmbdbfdlbbkclaaDoorSlD
namespace Go.Sl
set_option linter.unusedSimpArgs false
set_option linter.unusedVariables false
open Go.RowKit
variable {P : Program}
section
variable {ops : Array Oper} {rest : List Oper} {Q : Exit → Act → World → Prop} {l : List Value} {D : List Deferred} {w : World} {d : Tmp} {ty : TypeId} {pos : String} {af : Array Edge} {S : Snap} {M : List Chunk}
variable {α β : Type} [Rep α] [Rep β]

/-- A function with a body. -/
class Body (P : Program) (f : FuncId) : Prop where
  ok : (P.funcs[f]?).map (fun fn => (fn.name == "runtime.NumGoroutine", fn.body.isNone)) = some (false, false)

theorem Body.enter {f : FuncId} (h : Body P f) (args : Array Value) (w : World) : (callFunc f args).run P w = .ok (.enter f args) w := by
  have := h.ok
  cases hf : P.funcs[f]? with
  | none => simp [hf] at this
  | some fn =>
    rw [hf] at this
    simp only [Option.map_some, Option.some.injEq, Prod.mk.injEq] at this
    obtain ⟨h1, h2⟩ := this
    have h1' : ¬ (fn.name = "runtime.NumGoroutine") := by simpa using h1
    have h2' : ¬ (fn.body = none) := by intro e; rw [e] at h2; simp at h2
    simp [callFunc, hf, h1', h2']

/-- The call returns; 'post' of what it returns and of the world behind it. -/
def Rets (P : Program) (f : FuncId) (args : List Value) (w : World) (post : Value → World → Prop) : Prop :=
  Calls P f args.toArray w fun e w' => ∃ v, e = .returned v ∧ post v w'

theorem Rets.mono {f : FuncId} {args : List Value} {post post' : Value → World → Prop} (h : Rets P f args w post) (hp : ∀ v w', post v w' → post' v w') : Rets P f args w post' :=
  Calls.mono h fun _ w' ⟨v, e, p⟩ => ⟨v, e, hp v w' p⟩

def putD (l : List Value) (d : Option Tmp) (v : Value) : List Value := match d with | some t => l.set t v | none => l

theorem step_enter {o : Oper} (hg : o.guard = none) {f : FuncId} {args : List Value} {post : Value → World → Prop} (hr : (execOp (evF l) o).run P w = .ok (.enter f args.toArray) w)
    (c : Rets P f args w post) (h : ∀ v w', post v w' → wpList P ops Q rest ⟨(putD l o.dst v).toArray, D⟩ w') : wpList P ops Q (o :: rest) ⟨l.toArray, D⟩ w := by
  refine wpList_plain hg fun K hK => ?_
  unfold Oper.wp
  rw [evF_eq, hr]
  refine Calls.mono c fun e w' ⟨v, he, hp⟩ => ?_
  subst he
  refine hK _ _ ?_
  have := h v w' hp
  cases ho : o.dst <;> simpa [Act.put, putD, ho] using this

/-- A call of a function that is named. -/
theorem s_call {f : FuncId} {xs : List Operand} {ats : Array TypeId} {args : List Value} {dd : Option Tmp} {post : Value → World → Prop} (c : Rets P f args w post) (hb : Body P f) (ha : xs.map (evF l) = args)
    (h : ∀ v w', post v w' → wpList P ops Q rest ⟨(putD l dd v).toArray, D⟩ w') :
    wpList P ops Q (⟨dd, .call { callee := .value (.func f), args := xs.toArray, argTypes := ats }, ty, pos, af, none⟩ :: rest) ⟨l.toArray, D⟩ w := by
  refine step_enter rfl ?_ c h
  subst ha
  have := hb.enter (w := w) (xs.map (evF l)).toArray
  simp only [execOp, resolve, Deferred.ofValue, evF, Sem.run_bind, Sem.run_pure, Result.andThen_ok, invoke]
  simpa using this

/-- A call of a function value. -/
theorem s_callv {f : FuncId} {x : Operand} {xs : List Operand} {ats : Array TypeId} {args args' : List Value} {fi ca : List Value} {dd : Option Tmp} {post : Value → World → Prop} (c : Rets P f args' w post) (hx : evF l x = .func (.func f) fi.toArray ca.toArray) (hb : Body P f) (ha : xs.map (evF l) = args)
    (hargs : fi ++ args ++ ca = args') (h : ∀ v w', post v w' → wpList P ops Q rest ⟨(putD l dd v).toArray, D⟩ w') :
    wpList P ops Q (⟨dd, .call { callee := .value x, args := xs.toArray, argTypes := ats }, ty, pos, af, none⟩ :: rest) ⟨l.toArray, D⟩ w := by
  refine step_enter rfl ?_ c h
  subst ha; subst hargs
  have := hb.enter (w := w) (fi ++ xs.map (evF l) ++ ca).toArray
  simp only [execOp, resolve, hx, Deferred.ofValue, Sem.run_bind, Sem.run_pure, Result.andThen_ok, invoke]
  simpa using this

/-! ### Loads of one cell -/
theorem s_ldp_int {T : TypeId} {x : Operand} {zero : List Value} {bb : Nat} {p : Value} {y : Int} (hst : St S M w) (hx : evF l x = p) (hp : Pt S p y)
    (hT : Ty P T false 1 zero bb) (h : I64 y → wpList P ops Q rest ⟨(l.set d (.int .i64 y)).toArray, D⟩ w) :
    wpList P ops Q (⟨some d, .load T x, ty, pos, af, none⟩ :: rest) ⟨l.toArray, D⟩ w :=
  s_ldp hst hx hp hT fun cs hcs => by obtain ⟨rfl, hi⟩ := hcs; exact h hi

theorem s_ldp_u8 {T : TypeId} {x : Operand} {zero : List Value} {bb : Nat} {p : Value} {y : UInt8} (hst : St S M w) (hx : evF l x = p) (hp : Pt S p y)
    (hT : Ty P T false 1 zero bb) (h : wpList P ops Q rest ⟨(l.set d (.int .u8 y.toNat)).toArray, D⟩ w) :
    wpList P ops Q (⟨some d, .load T x, ty, pos, af, none⟩ :: rest) ⟨l.toArray, D⟩ w :=
  s_ldp hst hx hp hT fun cs hcs => by obtain rfl := hcs; exact h

theorem s_ldp_bool {T : TypeId} {x : Operand} {zero : List Value} {bb : Nat} {p : Value} {y : Bool} (hst : St S M w) (hx : evF l x = p) (hp : Pt S p y)
    (hT : Ty P T false 1 zero bb) (h : wpList P ops Q rest ⟨(l.set d (.bool y)).toArray, D⟩ w) :
    wpList P ops Q (⟨some d, .load T x, ty, pos, af, none⟩ :: rest) ⟨l.toArray, D⟩ w :=
  s_ldp hst hx hp hT fun cs hcs => by obtain rfl := hcs; exact h

theorem RSl.oneCell {v : Value} {xs : List α} (h : RSl S v xs) : v.oneCell' = true := by
  rcases h with ⟨ad, cap, rfl, _⟩ | ⟨b, o, cap, c, T, fz, rfl, _⟩ <;> rfl

theorem s_ldp_list {T : TypeId} {x : Operand} {zero : List Value} {bb : Nat} {p : Value} {y : List α} (hst : St S M w) (hx : evF l x = p) (hp : Pt S p y)
    (hT : Ty P T false 1 zero bb) (h : ∀ v, RSl S v y → v.oneCell' = true → wpList P ops Q rest ⟨(l.set d v).toArray, D⟩ w) :
    wpList P ops Q (⟨some d, .load T x, ty, pos, af, none⟩ :: rest) ⟨l.toArray, D⟩ w :=
  s_ldp hst hx hp hT fun cs hcs => by obtain ⟨v, rfl, hv⟩ := hcs; exact h v hv hv.oneCell

/-! ### Own slices in place -/
/-- p points into the own slice v, at cell o. -/
def PtO (v p : Value) (o : Nat) : Prop := ∃ g n cap, v = .slice (some ⟨g, 0, none⟩) n cap ∧ p = .pointer (some ⟨g, o, none⟩)

theorem s_len_own {T E F : TypeId} {x : Operand} {v : Value} {k z n : Nat} {c : List Value} (hst : St S M w) (hx : evF l x = v) (hk : M[k]? = some (.sl v F z n c)) (hT : SlT P T E)
    (h : wpList P ops Q rest ⟨(l.set d (.int .i64 n)).toArray, D⟩ w) :
    wpList P ops Q (⟨some d, .call { callee := .builtin .len, args := #[x], argTypes := #[T] }, ty, pos, af, none⟩ :: rest) ⟨l.toArray, D⟩ w := by
  refine step_value (v := .int .i64 n) (w' := w) ?_ h
  rcases (hst.get hk).2 with ⟨rfl, rfl⟩ | ⟨g, cap, cur, fz, rfl, _⟩ <;>
    simp [execOp, resolve, invoke, builtin, hx, Builtin.len_, run_underlying hT.u, goInt]

theorem s_index_own {T E F : TypeId} {x i : Operand} {agg : Bool} {zero : List Value} {bb : Nat} {v : Value} {k z n : Nat} {c : List Value} {kk : IntKind} {j : Int} (hst : St S M w) (hx : evF l x = v) (hk : M[k]? = some (.sl v F z n c)) (hi : evF l i = .int kk j)
    (hT : SlT P T E) (hE : Ty P E agg z zero bb) (h0 : 0 ≤ j) (hn : j.toNat < n)
    (h : ∀ p, PtO v p (j.toNat * z) → wpList P ops Q rest ⟨(l.set d p).toArray, D⟩ w) :
    wpList P ops Q (⟨some d, .indexAddr T x i, ty, pos, af, none⟩ :: rest) ⟨l.toArray, D⟩ w := by
  rcases (hst.get hk).2 with ⟨rfl, rfl⟩ | ⟨g, cap, cur, fz, rfl, _⟩
  · omega
  · refine step_value (v := .pointer (some ⟨g, j.toNat * z, none⟩)) (w' := w) ?_ (h _ ⟨g, n, cap, rfl, rfl⟩)
    have hlt : j < n := by omega
    simp [execOp, hx, hi, Instr.indexAt, asIntOf, run_underlying hT.u, h0, hlt, hE.run_sizeOf, Addr.add_mid]

theorem s_field_own {T : TypeId} {kf off : Nat} {x : Operand} {v p : Value} {o : Nat} (hx : evF l x = p) (hp : PtO v p o) (hT : FldT P T kf off)
    (h : ∀ q, PtO v q (o + off) → wpList P ops Q rest ⟨(l.set d q).toArray, D⟩ w) :
    wpList P ops Q (⟨some d, .fieldAddr T x kf, ty, pos, af, none⟩ :: rest) ⟨l.toArray, D⟩ w := by
  obtain ⟨g, n, cap, rfl, rfl⟩ := hp
  exact s_field hx hT (h _ ⟨g, n, cap, rfl, rfl⟩)

theorem s_load_own {T F : TypeId} {x : Operand} {agg : Bool} {z : Nat} {zero : List Value} {bb : Nat} {v p : Value} {o k zz n : Nat} {c cs : List Value} (hst : St S M w) (hx : evF l x = p) (hp : PtO v p o) (hk : M[k]? = some (.sl v F zz n c))
    (hT : Ty P T agg z zero bb) (hc : (c.drop o).take z = cs) (hl : o + z ≤ c.length) (h : wpList P ops Q rest ⟨(l.set d (vOf agg cs)).toArray, D⟩ w) :
    wpList P ops Q (⟨some d, .load T x, ty, pos, af, none⟩ :: rest) ⟨l.toArray, D⟩ w := by
  obtain ⟨g, n', cap', rfl, rfl⟩ := hp
  have h0 := hst.get hk
  rcases h0.2 with ⟨e, _⟩ | ⟨g', cap, cur, fz, e, hg, hfz, hnc, hcm, hcs, htk⟩
  · cases e
  · obtain ⟨rfl, rfl, rfl⟩ : g = g' ∧ n' = n ∧ cap' = cap := by simpa using e
    have hlen : cs.length = z := by rw [← hc]; simp; omega
    have hr : w.rangeAt g o cs := by
      have := range_of (o := o) (n := z) hg
      rw [← hc, ← htk]
      rw [← htk] at hl
      simp only [List.length_take] at hl
      rw [List.drop_take, List.take_take, Nat.min_eq_left (by omega)]
      exact this
    refine step_value (v := vOf agg cs) (w' := w) ?_ h
    simp only [execOp, hx, Sem.run_bind, run_load hT w g o cs hr hlen, Result.andThen_ok, Sem.run_pure]

theorem s_store_own {T F : TypeId} {x y : Operand} {agg : Bool} {z : Nat} {zero : List Value} {bb : Nat} {v p u : Value} {o k zz n : Nat} {c cs : List Value} (hst : St S M w) (hx : evF l x = p) (hp : PtO v p o) (hk : M[k]? = some (.sl v F zz n c))
    (hT : Ty P T agg z zero bb) (hy : evF l y = u) (hc : u.cells.toList = cs) (hl : cs.length = z) (h1 : cs.all (·.oneCell') = true) (hf : o + z ≤ c.length)
    (h : ∀ w', St S (M.set k (.sl v F zz n (c.take o ++ cs ++ c.drop (o + z)))) w' → wpList P ops Q rest ⟨l.toArray, D⟩ w') :
    wpList P ops Q (⟨none, .store T x y, ty, pos, af, none⟩ :: rest) ⟨l.toArray, D⟩ w := by
  subst hl
  obtain ⟨g, n', cap', rfl, rfl⟩ := hp
  have hmv := hst.move hk
  have h0 := hst.get hk
  rcases h0.2 with ⟨e, _⟩ | ⟨g', cap, cur, fz, e, hg, hfz, hnc, hcm, hcs, htk⟩
  · cases e
  · obtain ⟨hgg, hnn, hcc⟩ : g = g' ∧ n' = n ∧ cap' = cap := by simpa using e
    subst hgg; subst hcc
    have hcl := h0.1
    have hcur : n * zz ≤ cur.size := Nat.le_trans (Nat.mul_le_mul_right _ hnc) hcs
    have hfit : o + cs.length ≤ cur.toList.length := by simp; omega
    have hat := setCells_at g F fz cs o w cur.toList (by simpa using hg) hfit
    obtain ⟨e1, e2, e3⟩ := setCells_world g cs o w
    have hcell : ∀ j, j < cs.length → (w.cell? ⟨g, o + 0 + j, none⟩).isSome = true := fun j hj => by
      have hlt : o + j < cur.size := by simp at hfit; omega
      simp only [World.cell?, hg]
      simp [hlt]
    have hfro : ∀ j, j < cs.length → w.frozen? ⟨g, o + 0 + j, none⟩ = false := fun j hj => by
      have := hfz (o + j) (by simp at hfit; omega)
      simp only [World.frozen?, hg]
      simpa using this
    have hrun := run_storeCells_cells (P := P) g o cs 0 w hcell hfro (fun u hu => List.all_eq_true.1 h1 u hu)
    refine step_skip (w' := w.setCells g o cs) ?_ (h _ (St.back hk (hmv.set e1 e2 e3 ⟨?_, .inr ⟨g, cap', _, fz, by rw [hnn], hat, ?_, hnc, hcm, ?_, ?_⟩⟩ (fun b hb => .inl hb) (fun b _ hne => setCells_other g cs _ w b (fun e => hne (by simp [Chunk.own, Value.ownBlock, e]))))))
    · have hsz : u.cells.size = cs.length := by rw [← hc]; simp
      simp only [execOp, hx, hy, Instr.storeAt, Instr.sureAddr, Sem.run_bind, Sem.run_pure, Result.andThen_ok, storeVar, hT.run_sizeOf, hsz, ne_eq, not_true_eq_false, if_false]
      rw [hc]
      simp only [Nat.add_zero] at hrun
      rw [hrun]
      rfl
    · simp only [List.length_append, List.length_take, List.length_drop]; omega
    · intro j hj
      refine hfz j ?_
      simp only [List.size_toArray, List.length_append, List.length_take, List.length_drop, Array.length_toList] at hj hfit
      omega
    · simp only [List.size_toArray, List.length_append, List.length_take, List.length_drop, Array.length_toList] at hfit ⊢
      omega
    · rw [List.toList_toArray, ← htk]
      have hlc : (cur.toList.take (n * zz)).length = n * zz := by simp; omega
      rw [List.take_append, List.take_append]
      simp only [List.length_append, List.length_take, Array.length_toList] at hfit ⊢
      have hmin : min o cur.size = o := by omega
      rw [hmin, List.take_take, List.take_take, List.drop_take]
      have ho : o ≤ n * zz := by omega
      rw [Nat.min_eq_left ho, Nat.min_eq_right ho]
      rw [List.take_of_length_le (show cs.length ≤ n * zz - o by omega)]
end
end Go.Sl
