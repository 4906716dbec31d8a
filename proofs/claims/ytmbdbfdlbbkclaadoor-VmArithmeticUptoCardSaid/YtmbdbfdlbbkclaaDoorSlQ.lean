/- Rules of a small separation logic over the model's worlds: what only reads, as one value in every world of a class; in a plain region and in one that draws its order. General over the program. -/
import Derived.Test.YtmbdbfdlbbkclaaDoorSlE
import Derived.BigQuiet
import Derived.Lib.Hide
namespace Go.Sl
set_option linter.unusedSimpArgs false
set_option linter.unusedVariables false
open Go.RowKit
variable {P : Program}
section
variable {ops : Array Oper} {rest : List Oper} {Q : Exit → Act → World → Prop} {l : List Value} {D : List Deferred} {w : World} {d : Tmp} {dd : Option Tmp} {ty : TypeId} {pos : String} {af : Array Edge} {S : Snap} {M : List Chunk}
variable {α β : Type} [Rep α] [Rep β]

/-- In every world of the class the operation yields v and leaves the world as it is. -/
def Qt (P : Program) (l : List Value) (op : Op) (S : Snap) (M : List Chunk) (v : Value) : Prop :=
  ∀ (dst : Option Tmp) (ty : TypeId) (pos : String) (af : Array Edge) (w : World), St S M w → (execOp (evF l) ⟨dst, op, ty, pos, af, none⟩).run P w = .ok (.value v) w

theorem s_qt {op : Op} {v : Value} (hst : St S M w) (hq : Qt P l op S M v) (h : wpList P ops Q rest ⟨(l.set d v).toArray, D⟩ w) :
    wpList P ops Q (⟨some d, op, ty, pos, af, none⟩ :: rest) ⟨l.toArray, D⟩ w := step_value (hq _ _ _ _ w hst) h

theorem s_ex {op : Op} {F : Value → Prop} (hst : St S M w) (hq : ∃ v, F v ∧ Qt P l op S M v) (h : ∀ v, F v → wpList P ops Q rest ⟨(l.set d v).toArray, D⟩ w) :
    wpList P ops Q (⟨some d, op, ty, pos, af, none⟩ :: rest) ⟨l.toArray, D⟩ w := let ⟨v, hf, hq⟩ := hq; s_qt hst hq (h v hf)

/-! ### Regions that draw their order -/
variable {K : Act → Prop}
theorem q_step {o : Oper} {v : Value} (hg : o.guard = none) (hq : ∀ w, St S M w → Oper.quietUpon P (St S M) w v ((execOp (evF l) o).run P w)) (h : wpQuiet P ops (St S M) K rest ⟨(putD l o.dst v).toArray, D⟩) :
    wpQuiet P ops (St S M) K (o :: rest) ⟨l.toArray, D⟩ := by
  unfold wpQuiet
  rw [if_pos (by simp [Region.wanted, hg])]
  refine ⟨v, fun w hw => ?_, ?_⟩
  · unfold Oper.quietAt
    rw [evF_eq]
    exact hq w hw
  · cases ho : o.dst <;> simpa [Act.put, putD, ho] using h

theorem q_qt {op : Op} {v : Value} (hq : Qt P l op S M v) (h : wpQuiet P ops (St S M) K rest ⟨(l.set d v).toArray, D⟩) :
    wpQuiet P ops (St S M) K (⟨some d, op, ty, pos, af, none⟩ :: rest) ⟨l.toArray, D⟩ :=
  q_step rfl (fun w hw => by rw [hq _ _ _ _ w hw]; exact ⟨rfl, rfl⟩) h

theorem q_ex {op : Op} {F : Value → Prop} (hq : ∃ v, F v ∧ Qt P l op S M v) (h : ∀ v, F v → wpQuiet P ops (St S M) K rest ⟨(l.set d v).toArray, D⟩) :
    wpQuiet P ops (St S M) K (⟨some d, op, ty, pos, af, none⟩ :: rest) ⟨l.toArray, D⟩ := let ⟨v, hf, hq⟩ := hq; q_qt hq (h v hf)

theorem q_guard_yes {op : Op} {g : Nat × Bool} (hg : yielded ops l.toArray g.1 = some g.2) (h : wpQuiet P ops (St S M) K (⟨dd, op, ty, pos, af, none⟩ :: rest) ⟨l.toArray, D⟩) :
    wpQuiet P ops (St S M) K (⟨dd, op, ty, pos, af, some g⟩ :: rest) ⟨l.toArray, D⟩ := by
  unfold wpQuiet at h ⊢
  rw [if_pos (by simp [Region.wanted, hg])]
  rw [if_pos (by simp [Region.wanted])] at h
  exact h

theorem q_guard_no {op : Op} {g : Nat × Bool} (hg : (yielded ops l.toArray g.1 == some g.2) = false) (h : wpQuiet P ops (St S M) K rest ⟨(putD l dd undef).toArray, D⟩) :
    wpQuiet P ops (St S M) K (⟨dd, op, ty, pos, af, some g⟩ :: rest) ⟨l.toArray, D⟩ := by
  unfold wpQuiet
  rw [if_neg (by simpa [Region.wanted] using hg)]
  cases dd <;> simpa [Act.put, putD] using h

/-- A call in a region that draws its order: it returns v, whatever the world of the class, and leaves a world of the class. -/
theorem q_call {f : FuncId} {xs : List Operand} {ats : Array TypeId} {args : List Value} {v : Value} (c : ∀ w, St S M w → Rets P f args w fun v' w' => v' = v ∧ St S M w') (hb : Body P f) (ha : xs.map (evF l) = args)
    (h : wpQuiet P ops (St S M) K rest ⟨(putD l dd v).toArray, D⟩) :
    wpQuiet P ops (St S M) K (⟨dd, .call { callee := .value (.func f), args := xs.toArray, argTypes := ats }, ty, pos, af, none⟩ :: rest) ⟨l.toArray, D⟩ := by
  refine q_step rfl (fun w hw => ?_) h
  subst ha
  have hr : (execOp (evF l) ⟨dd, .call { callee := .value (.func f), args := xs.toArray, argTypes := ats }, ty, pos, af, none⟩).run P w = .ok (.enter f (xs.map (evF l)).toArray) w := by
    have := hb.enter (w := w) (xs.map (evF l)).toArray
    simp only [execOp, resolve, Deferred.ofValue, evF, Sem.run_bind, Sem.run_pure, Result.andThen_ok, invoke]
    simpa using this
  rw [hr]
  exact ⟨rfl, Calls.mono (c w hw) fun e w' ⟨v', he, hv, hs⟩ => ⟨by rw [he, hv], hs⟩⟩

/-- Where the region's own operations only read: one walk in the order of the text. -/
theorem region_quiet {id : Nat} {lo : List Oper} (hst : St S M w) (hm : P.follows .mixedOrders = true) (hB : Region.lexB .any lo.toArray = true)
    (h : wpQuiet P lo.toArray (St S M) (fun a' => ∀ w', St S M w' → Q .normal a' w') lo ⟨l.toArray, D⟩) : (Code.region id lo.toArray true).wp P Q ⟨l.toArray, D⟩ w :=
  wp_region_quiet hm hB (by have := hst.drew; exact this) (by simpa using h)

theorem q_nil {a : Act} (h : K a) : wpQuiet P ops (St S M) K [] a := h
theorem is_quiet {o : Oper} {a : Act} (g : wpQuiet P ops (St S M) K (o :: rest) a) : wpQuiet P ops (St S M) K (o :: rest) a := g

/-! ### What reads -/
theorem qt_load {T : TypeId} {x : Operand} {agg : Bool} {z : Nat} {zero : List Value} {bb : Nat} {b off : Nat} {c cs : List Value} {B : TypeId} (hx : evF l x = .pointer (some ⟨b, off, none⟩)) (k : Nat) (hk : M[k]? = some (.box b c B))
    (hT : Ty P T agg z zero bb) (hc : (c.drop off).take z = cs) (hl : cs.length = z) : Qt P l (.load T x) S M (vOf agg cs) := fun dst ty pos af w hst => by
  simp only [execOp, hx, Sem.run_bind, run_load hT w b off cs (hc ▸ range_box (hst.get hk)) hl, Result.andThen_ok, Sem.run_pure]

theorem qt_ldp {T : TypeId} {x : Operand} {zero : List Value} {bb : Nat} {p : Value} {y : α} (hx : evF l x = p) (hp : Pt S p y)
    (hT : Ty P T (Rep.agg α) (Rep.z α) zero bb) : ∃ v, (∃ cs, v = vOf (Rep.agg α) cs ∧ Rep.R S cs y) ∧ Qt P l (.load T x) S M v := by
  obtain ⟨b, o, c, B, fz, rfl, hb, hR⟩ := hp
  refine ⟨_, ⟨_, rfl, hR⟩, fun dst ty pos af w hst => ?_⟩
  simp only [execOp, hx, Sem.run_bind, run_load hT w b o _ (range_of (hst.has _ _ hb)) (Rep.len hR), Result.andThen_ok, Sem.run_pure]

theorem qt_ldp_int {T : TypeId} {x : Operand} {zero : List Value} {bb : Nat} {p : Value} {y : Int} (hx : evF l x = p) (hp : Pt S p y) (hT : Ty P T false 1 zero bb) :
    ∃ v, (v = .int .i64 y ∧ I64 y) ∧ Qt P l (.load T x) S M v := by
  obtain ⟨v, ⟨cs, rfl, rfl, hi⟩, hq⟩ := qt_ldp (P := P) (M := M) hx hp hT
  exact ⟨_, ⟨rfl, hi⟩, hq⟩

theorem qt_ldp_u8 {T : TypeId} {x : Operand} {zero : List Value} {bb : Nat} {p : Value} {y : UInt8} (hx : evF l x = p) (hp : Pt S p y) (hT : Ty P T false 1 zero bb) :
    Qt P l (.load T x) S M (.int .u8 y.toNat) := by
  obtain ⟨v, ⟨cs, rfl, rfl⟩, hq⟩ := qt_ldp (P := P) (M := M) hx hp hT
  exact hq

theorem qt_ldp_bool {T : TypeId} {x : Operand} {zero : List Value} {bb : Nat} {p : Value} {y : Bool} (hx : evF l x = p) (hp : Pt S p y) (hT : Ty P T false 1 zero bb) :
    Qt P l (.load T x) S M (.bool y) := by
  obtain ⟨v, ⟨cs, rfl, rfl⟩, hq⟩ := qt_ldp (P := P) (M := M) hx hp hT
  exact hq

theorem qt_ldp_str {T : TypeId} {x : Operand} {zero : List Value} {bb : Nat} {p : Value} {y : Str} (hx : evF l x = p) (hp : Pt S p y) (hT : Ty P T false 1 zero bb) :
    ∃ v, (v = .string ⟨y.b.toArray⟩ ∧ y.b.length ≤ maxLen) ∧ Qt P l (.load T x) S M v := by
  obtain ⟨v, ⟨cs, rfl, rfl, hi⟩, hq⟩ := qt_ldp (P := P) (M := M) hx hp hT
  exact ⟨_, ⟨rfl, hi⟩, hq⟩

theorem qt_ldp_list {T : TypeId} {x : Operand} {zero : List Value} {bb : Nat} {p : Value} {y : List α} (hx : evF l x = p) (hp : Pt S p y) (hT : Ty P T false 1 zero bb) :
    ∃ v, (RSl S v y ∧ v.oneCell' = true) ∧ Qt P l (.load T x) S M v := by
  obtain ⟨v, ⟨cs, rfl, u, rfl, hu⟩, hq⟩ := qt_ldp (P := P) (M := M) hx hp hT
  exact ⟨u, ⟨hu, hu.oneCell⟩, hq⟩

theorem qt_index {T E : TypeId} {x i : Operand} {agg : Bool} {zero : List Value} {bb : Nat} {v : Value} {xs : List α} {k : IntKind} {n : Int} (hx : evF l x = v) (hv : RSl S v xs) (hi : evF l i = .int k n)
    (hT : SlT P T E) (hE : Ty P E agg (Rep.z α) zero bb) (h0 : 0 ≤ n) (hn : n.toNat < xs.length) : ∃ p, Pt S p (xs[n.toNat]) ∧ Qt P l (.indexAddr T x i) S M p := by
  rcases hv with ⟨_, _, _, rfl, _⟩ | ⟨b, o, cap, c, B, fz, rfl, hb, hc, hm, hRL⟩
  · simp at hn
  · refine ⟨.pointer (some ⟨b, o + n.toNat * Rep.z α, none⟩), ⟨b, _, c, B, fz, rfl, hb, ?_⟩, fun dst ty pos af w hst => ?_⟩
    · have := hRL.at_ n.toNat hn
      rw [List.drop_take, List.take_take, List.drop_drop, Nat.min_eq_left (by
        have : n.toNat * Rep.z α + Rep.z α ≤ xs.length * Rep.z α := by rw [← Nat.succ_mul]; exact Nat.mul_le_mul_right _ hn
        omega)] at this
      exact this
    · have hlt : n < xs.length := by omega
      simp [execOp, hx, hi, Instr.indexAt, asIntOf, run_underlying hT.u, h0, hlt, hE.run_sizeOf, Addr.add_mid]

theorem qt_len {T : TypeId} {E : TypeId} {x : Operand} {v : Value} {xs : List α} (hx : evF l x = v) (hv : RSl S v xs) (hT : SlT P T E) :
    Qt P l (.call { callee := .builtin .len, args := #[x], argTypes := #[T] }) S M (.int .i64 xs.length) := fun dst ty pos af w hst => by
  rcases hv with ⟨ad, cap, rfl, rfl, _⟩ | ⟨b, o, cap, c, B, fz, rfl, hb, hc, hm, hRL⟩ <;>
    simp [execOp, resolve, invoke, builtin, hx, Builtin.len_, run_underlying hT.u, goInt]

theorem qt_field {T : TypeId} {k off : Nat} {x : Operand} {b o : Nat} (hx : evF l x = .pointer (some ⟨b, o, none⟩)) (hT : FldT P T k off) :
    Qt P l (.fieldAddr T x k) S M (.pointer (some ⟨b, o + off, none⟩)) := fun dst ty pos af w hst => by
  simp only [execOp, hx, Sem.run_bind, run_fieldAt hT, Result.andThen_ok, Sem.run_pure]

theorem qt_fieldp {T : TypeId} {k off off' : Nat} {get : α → β} {put : α → β → α} {x : Operand} {p : Value} {y : α} (hx : evF l x = p) (hp : Pt S p y) (hT : FldT P T k off) (_hF : HasF α k β off' get put) (ho : off = off') :
    ∃ q, Pt S q (get y) ∧ Qt P l (.fieldAddr T x k) S M q := by
  subst ho
  obtain ⟨b, o, c, B, fz, rfl, hb, hR⟩ := id hp
  exact ⟨_, Pt.field (k := k) (put := put) hp, qt_field hx hT⟩

theorem qt_indexA {T E : TypeId} {n : Nat} {x i : Operand} {agg : Bool} {z : Nat} {zero : List Value} {bb : Nat} {b o : Nat} {k : IntKind} {j : Int} (hx : evF l x = .pointer (some ⟨b, o, none⟩)) (hi : evF l i = .int k j)
    (hT : ArrT P T n E) (hE : Ty P E agg z zero bb) (h0 : 0 ≤ j) (hn : j.toNat < n) : Qt P l (.indexAddr T x i) S M (.pointer (some ⟨b, o + j.toNat * z, none⟩)) := fun dst ty pos af w hst => by
  have hlt : j < n := by omega
  simp [execOp, hx, hi, Instr.indexAt, asIntOf, run_underlying hT.u, Instr.sureAddr, h0, hlt, hE.run_sizeOf, Addr.add_mid]

theorem qt_indexAp {T E : TypeId} {n m : Nat} {x i : Operand} {agg : Bool} {zero : List Value} {bb : Nat} {p : Value} {y : Arr α m} {k : IntKind} {j : Int} (hx : evF l x = p) (hp : Pt S p y) (hi : evF l i = .int k j)
    (hT : ArrT P T n E) (hE : Ty P E agg (Rep.z α) zero bb) (hm : n = m) (h0 : 0 ≤ j) (hn : j.toNat < y.l.length) : ∃ q, Pt S q y.l[j.toNat] ∧ Qt P l (.indexAddr T x i) S M q := by
  subst hm
  obtain ⟨b, o, c, B, fz, rfl, hb, hR⟩ := id hp
  exact ⟨_, Pt.elem hp _ hn, qt_indexA hx hi hT hE h0 (hR.1 ▸ hn)⟩

/-- A pair as an array of two. -/
theorem qt_indexP0 {T E : TypeId} {x i : Operand} {agg : Bool} {zero : List Value} {bb : Nat} {p : Value} {y : α × α} {k : IntKind} (hx : evF l x = p) (hp : Pt S p y) (hi : evF l i = .int k 0)
    (hT : ArrT P T 2 E) (hE : Ty P E agg (Rep.z α) zero bb) : ∃ q, Pt S q y.1 ∧ Qt P l (.indexAddr T x i) S M q := by
  obtain ⟨b, o, c, B, fz, rfl, hb, hR⟩ := id hp
  refine ⟨_, ⟨b, o, c, B, fz, rfl, hb, ?_⟩, by have := qt_indexA (S := S) (M := M) hx hi hT hE (by omega) (by omega); simpa using this⟩
  have h1 : Rep.R S (((c.toList.drop o).take (Rep.z α + Rep.z α)).take (Rep.z α)) y.1 := hR.2.1
  rwa [List.take_take, Nat.min_eq_left (by omega)] at h1

theorem qt_indexP1 {T E : TypeId} {x i : Operand} {agg : Bool} {zero : List Value} {bb : Nat} {p : Value} {y : α × α} {k : IntKind} (hx : evF l x = p) (hp : Pt S p y) (hi : evF l i = .int k 1)
    (hT : ArrT P T 2 E) (hE : Ty P E agg (Rep.z α) zero bb) : ∃ q, Pt S q y.2 ∧ Qt P l (.indexAddr T x i) S M q := by
  obtain ⟨b, o, c, B, fz, rfl, hb, hR⟩ := id hp
  refine ⟨_, ⟨b, o + Rep.z α, c, B, fz, rfl, hb, ?_⟩, by have := qt_indexA (S := S) (M := M) hx hi hT hE (by omega) (by omega); simpa using this⟩
  have h1 : Rep.R S (((c.toList.drop o).take (Rep.z α + Rep.z α)).drop (Rep.z α)) y.2 := hR.2.2
  rwa [List.drop_take, List.drop_drop, show Rep.z α + Rep.z α - Rep.z α = Rep.z α from by omega] at h1

theorem qt_slice {T E : TypeId} {x : Operand} {lo hi mx : Option Operand} {agg : Bool} {zero : List Value} {bb : Nat} {v : Value} {xs : List α} {a b : Nat} (hx : evF l x = v) (hv : RSl S v xs) (hT : SlT P T E) (hE : Ty P E agg (Rep.z α) zero bb)
    (hl : Bd (lo.map (evF l)) 0 a) (hh : Bd (hi.map (evF l)) xs.length b) (hm : mx = none ∨ (∃ k m, mx.map (evF l) = some (.int k (m : Nat)) ∧ b ≤ m ∧ m ≤ xs.length ∧ hi.isSome = true)) (h1 : a ≤ b) (h2 : b ≤ xs.length) :
    ∃ v', RSl S v' ((xs.drop a).take (b - a)) ∧ Qt P l (.slice T x lo hi mx) S M v' := by
  obtain ⟨ad, cap, rfl, hc, _⟩ := hv.form
  rcases hm with rfl | ⟨k, m, hmx, hbm, hml, his⟩
  · refine ⟨_, hv.sub rfl a b cap h1 h2 (by omega) (Nat.le_refl _), fun dst ty pos af w hst => ?_⟩
    simp only [execOp, hx, Sem.run_bind]
    rw [run_sliceAt hT hE hl hh (mx := (none : Option Operand).map (evF l)) (.inl ⟨rfl, rfl⟩) h1 (by omega) (Nat.le_refl _) (by simp)]
    rfl
  · refine ⟨_, hv.sub rfl a b m h1 h2 hbm (by omega), fun dst ty pos af w hst => ?_⟩
    simp only [execOp, hx, Sem.run_bind]
    rw [run_sliceAt hT hE hl hh (m := m) (.inr ⟨k, hmx⟩) h1 hbm (by omega) (by intro _; simpa using his)]
    rfl

theorem qt_string {src dst E : TypeId} {x : Operand} {v : Value} {b : List UInt8} (hx : evF l x = v) (hv : RSl S v b) (hs : SlT P src E) (he : P.underlying E = some (.int .u8)) (hd : P.underlying dst = some .string) :
    Qt P l (.convert src dst x) S M (.string ⟨b.toArray⟩) := fun dst ty pos af w hst => by
  rcases hv with ⟨ad, cap, rfl, rfl, _⟩ | ⟨b0, o, cap0, c, T, fz, rfl, hb, hc, hm, hRL⟩
  · have := run_string (P := P) (w := w) (ad := ad) (cap := cap) (b := []) hs he hd (.inl rfl)
    simp at this
    simp [execOp, hx, this]
  · have := run_string (P := P) (w := w) (ad := some ⟨b0, o, none⟩) (cap := cap0) (b := b) hs he hd (.inr ⟨b0, o, rfl, by rw [← hRL.eq_u8s]; exact range_of (hst.has _ _ hb)⟩)
    simp [execOp, hx, this]

theorem qt_len_own {T E F : TypeId} {x : Operand} {v : Value} {k z n : Nat} {c : List Value} (hx : evF l x = v) (hk : M[k]? = some (.sl v F z n c)) (hT : SlT P T E) :
    Qt P l (.call { callee := .builtin .len, args := #[x], argTypes := #[T] }) S M (.int .i64 n) := fun dst ty pos af w hst => by
  rcases (hst.get hk).2 with ⟨rfl, rfl⟩ | ⟨g, cap, cur, fz, rfl, _⟩ <;>
    simp [execOp, resolve, invoke, builtin, hx, Builtin.len_, run_underlying hT.u, goInt]

theorem qt_load_own {T F : TypeId} {x : Operand} {agg : Bool} {z : Nat} {zero : List Value} {bb : Nat} {v p : Value} {o k zz n : Nat} {c cs : List Value} (hx : evF l x = p) (hp : PtO v p o) (hk : M[k]? = some (.sl v F zz n c))
    (hT : Ty P T agg z zero bb) (hc : (c.drop o).take z = cs) (hl : o + z ≤ c.length) : Qt P l (.load T x) S M (vOf agg cs) := fun dst ty pos af w hst => by
  obtain ⟨g, n', cap', rfl, rfl⟩ := hp
  have h0 := hst.get hk
  rcases h0.2 with ⟨e, _⟩ | ⟨g', cap, cur, fz, e, hg, hfz, hnc, hcm, hcs, htk⟩
  · cases e
  · obtain ⟨rfl, rfl, rfl⟩ : g = g' ∧ n' = n ∧ cap' = cap := by simpa using e
    have hlen : cs.length = z := by rw [← hc]; simp; omega
    have hr : w.rangeAt g o cs := by
      have := range_of (o := o) (n := z) hg
      rw [← hc, ← htk]
      rw [← htk] at hl
      simp only [List.length_take] at hl
      rw [List.drop_take, List.take_take, Nat.min_eq_left (by omega)]
      exact this
    simp only [execOp, hx, Sem.run_bind, run_load hT w g o cs hr hlen, Result.andThen_ok, Sem.run_pure]

theorem qt_field_own {T : TypeId} {kf off : Nat} {x : Operand} {v p : Value} {o : Nat} (hx : evF l x = p) (hp : PtO v p o) (hT : FldT P T kf off) :
    ∃ q, PtO v q (o + off) ∧ Qt P l (.fieldAddr T x kf) S M q := by
  obtain ⟨g, n, cap, rfl, rfl⟩ := hp
  exact ⟨_, ⟨g, n, cap, rfl, rfl⟩, qt_field hx hT⟩

/-- The own slice is not nil (it has an element): its elements' addresses. -/
theorem qt_index_own {T E F : TypeId} {x i : Operand} {agg : Bool} {zero : List Value} {bb : Nat} {v : Value} {k z n : Nat} {c : List Value} {kk : IntKind} {j : Int} (hst : St S M w) (hx : evF l x = v) (hk : M[k]? = some (.sl v F z n c)) (hi : evF l i = .int kk j)
    (hT : SlT P T E) (hE : Ty P E agg z zero bb) (h0 : 0 ≤ j) (hn : j.toNat < n) : ∃ p, PtO v p (j.toNat * z) ∧ Qt P l (.indexAddr T x i) S M p := by
  rcases (hst.get hk).2 with ⟨rfl, rfl⟩ | ⟨g, cap, cur, fz, rfl, _⟩
  · omega
  · refine ⟨.pointer (some ⟨g, j.toNat * z, none⟩), ⟨g, n, cap, rfl, rfl⟩, fun dst ty pos af w _ => ?_⟩
    have hlt : j < n := by omega
    simp [execOp, hx, hi, Instr.indexAt, asIntOf, run_underlying hT.u, h0, hlt, hE.run_sizeOf, Addr.add_mid]

theorem kq_plain {o : Oper} {a : Act} (_h : plainOp o.op = true) (g : wpQuiet P ops (St S M) K (o :: rest) a) : wpQuiet P ops (St S M) K (o :: rest) a := g

/-! ### Plain operations -/
theorem qt_move {x : Operand} {v : Value} (hx : evF l x = v) : Qt P l (.move x) S M v := fun dst ty pos af w _ => by simp [execOp, hx]
theorem qt_assign {x : Operand} {v : Value} (hx : evF l x = v) : Qt P l (.assign x) S M v := fun dst ty pos af w _ => by simp [execOp, hx]
theorem qt_pick_t {c x y : Operand} {v : Value} (hc : evF l c = .bool true) (hx : evF l x = v) : Qt P l (.pick c x y) S M v := fun dst ty pos af w _ => by simp [execOp, hc, hx, asBool]
theorem qt_pick_f {c x y : Operand} {v : Value} (hc : evF l c = .bool false) (hy : evF l y = v) : Qt P l (.pick c x y) S M v := fun dst ty pos af w _ => by simp [execOp, hc, hy, asBool]
theorem qt_not {T : TypeId} {x : Operand} {b : Bool} (hx : evF l x = .bool b) : Qt P l (.unOp .not T x) S M (.bool (!b)) := fun dst ty pos af w _ => by simp [execOp, hx, Op.unary]
theorem qt_lss {T U : TypeId} {x y : Operand} {k : IntKind} {a b : Int} (hx : evF l x = .int k a) (hy : evF l y = .int k b) : Qt P l (.binOp .lss T x y U) S M (.bool (decide (a < b))) := fun dst ty pos af w _ => by
  simp [execOp, hx, hy, binOp_lss, eqGuard_at_int]
theorem qt_leq {T U : TypeId} {x y : Operand} {k : IntKind} {a b : Int} (hx : evF l x = .int k a) (hy : evF l y = .int k b) : Qt P l (.binOp .leq T x y U) S M (.bool (decide (a ≤ b))) := fun dst ty pos af w _ => by
  simp [execOp, hx, hy, binOp_leq, eqGuard_at_int]
theorem qt_gtr {T U : TypeId} {x y : Operand} {k : IntKind} {a b : Int} (hx : evF l x = .int k a) (hy : evF l y = .int k b) : Qt P l (.binOp .gtr T x y U) S M (.bool (decide (a > b))) := fun dst ty pos af w _ => by
  simp [execOp, hx, hy, binOp_gtr, eqGuard_at_int]
theorem qt_geq {T U : TypeId} {x y : Operand} {k : IntKind} {a b : Int} (hx : evF l x = .int k a) (hy : evF l y = .int k b) : Qt P l (.binOp .geq T x y U) S M (.bool (decide (a ≥ b))) := fun dst ty pos af w _ => by
  simp [execOp, hx, hy, binOp_geq, eqGuard_at_int]
theorem qt_eql {T U : TypeId} {x y : Operand} {k : IntKind} {a b : Int} (hx : evF l x = .int k a) (hy : evF l y = .int k b) : Qt P l (.binOp .eql T x y U) S M (.bool (a == b)) := fun dst ty pos af w _ => by
  simp [execOp, hx, hy, binOp_eql, eqGuard_at_int]
theorem qt_neq {T U : TypeId} {x y : Operand} {k : IntKind} {a b : Int} (hx : evF l x = .int k a) (hy : evF l y = .int k b) : Qt P l (.binOp .neq T x y U) S M (.bool (a != b)) := fun dst ty pos af w _ => by
  simp [execOp, hx, hy, binOp_neq, eqGuard_at_int]
theorem qt_add {T U : TypeId} {x y : Operand} {k : IntKind} {a b : Int} (hx : evF l x = .int k a) (hy : evF l y = .int k b) : Qt P l (.binOp .add T x y U) S M (.int k (k.wrap (a + b))) := fun dst ty pos af w _ => by
  simp [execOp, hx, hy, binOp_add, eqGuard_add, Op.intArith]
theorem qt_add' {T U : TypeId} {x y : Operand} {a b : Int} (hx : evF l x = .int .i64 a) (hy : evF l y = .int .i64 b) (hw : -9223372036854775808 ≤ a + b ∧ a + b ≤ 9223372036854775807) : Qt P l (.binOp .add T x y U) S M (.int .i64 (a + b)) := by
  have := qt_add (P := P) (S := S) (M := M) (T := T) (U := U) hx hy
  rwa [show IntKind.i64.wrap (a + b) = a + b from by rw [IntKind.wrap_i64]; omega] at this
theorem qt_sub {T U : TypeId} {x y : Operand} {k : IntKind} {a b : Int} (hx : evF l x = .int k a) (hy : evF l y = .int k b) : Qt P l (.binOp .sub T x y U) S M (.int k (k.wrap (a - b))) := fun dst ty pos af w _ => by
  simp [execOp, hx, hy, binOp_sub, eqGuard_sub, Op.intArith]
theorem qt_sub' {T U : TypeId} {x y : Operand} {a b : Int} (hx : evF l x = .int .i64 a) (hy : evF l y = .int .i64 b) (hw : -9223372036854775808 ≤ a - b ∧ a - b ≤ 9223372036854775807) : Qt P l (.binOp .sub T x y U) S M (.int .i64 (a - b)) := by
  have := qt_sub (P := P) (S := S) (M := M) (T := T) (U := U) hx hy
  rwa [show IntKind.i64.wrap (a - b) = a - b from by rw [IntKind.wrap_i64]; omega] at this
theorem qt_mul {T U : TypeId} {x y : Operand} {k : IntKind} {a b : Int} (hx : evF l x = .int k a) (hy : evF l y = .int k b) : Qt P l (.binOp .mul T x y U) S M (.int k (k.wrap (a * b))) := fun dst ty pos af w _ => by
  simp [execOp, hx, hy, binOp_mul, eqGuard_mul, Op.intArith]
theorem qt_mul' {T U : TypeId} {x y : Operand} {a b : Int} (hx : evF l x = .int .i64 a) (hy : evF l y = .int .i64 b) (hw : -9223372036854775808 ≤ a * b ∧ a * b ≤ 9223372036854775807) : Qt P l (.binOp .mul T x y U) S M (.int .i64 (a * b)) := by
  have := qt_mul (P := P) (S := S) (M := M) (T := T) (U := U) hx hy
  rwa [show IntKind.i64.wrap (a * b) = a * b from by rw [IntKind.wrap_i64]; omega] at this

theorem qt_max {x y : Operand} {ats : Array TypeId} {k k' : IntKind} {a b : Int} (hx : evF l x = .int k a) (hy : evF l y = .int k' b) : Qt P l (.call { callee := .builtin .max, args := #[x, y], argTypes := ats }) S M (.int k (max a b)) := fun dst ty pos af w _ => by
  have : (if b > a then b else a) = max a b := by omega
  simp [execOp, resolve, invoke, builtin, hx, hy, Builtin.max_, Builtin.max2, List.foldlM, this]
theorem qt_min {x y : Operand} {ats : Array TypeId} {k k' : IntKind} {a b : Int} (hx : evF l x = .int k a) (hy : evF l y = .int k' b) : Qt P l (.call { callee := .builtin .min, args := #[x, y], argTypes := ats }) S M (.int k (min a b)) := fun dst ty pos af w _ => by
  have : (if b < a then b else a) = min a b := by omega
  simp [execOp, resolve, invoke, builtin, hx, hy, Builtin.min_, Builtin.min2, List.foldlM, this]

/-! ### What a function hands back out of memory -/
/-- One result: in a slot, or out of an owned box. -/
def RVar (P : Program) (l : List Value) (w : World) : ResultVar → Value → Prop
  | .tmp t, v => nth l t = v
  | .cell a T, v => ∃ ad, nth l a = .pointer (some ad) ∧ (loadVar T ad).run P w = .ok v w

theorem rv_tmp {t : Tmp} {v : Value} (h : nth l t = v) : RVar P l w (.tmp t) v := h
theorem rv_cell {a : Tmp} {T : TypeId} {agg : Bool} {z : Nat} {zero : List Value} {bb : Nat} {b off : Nat} {c cs : List Value} {B : TypeId} (hst : St S M w) (hx : nth l a = .pointer (some ⟨b, off, none⟩)) (k : Nat) (hk : M[k]? = some (.box b c B))
    (hT : Ty P T agg z zero bb) (hc : (c.drop off).take z = cs) (hl : cs.length = z) : RVar P l w (.cell a T) (vOf agg cs) :=
  ⟨_, hx, by
    have := run_load hT w b off cs (hc ▸ range_box (hst.get hk)) hl
    simpa only [Instr.loadAt, Instr.sureAddr, Sem.run_bind, Sem.run_pure, Result.andThen_ok] using this⟩

theorem ret_one {fn : Func} {R : Ending → World → Prop} {r : ResultVar} {v : Value} (hr : fn.results = #[r]) (h : RVar P l w r v) (hR : R (.returned v) w) : bodyPost P fn R .ret ⟨l.toArray, []⟩ w := by
  refine bodyPost_ret (v := v) ?_ rfl hR
  have hn : ∀ t, nth l t = l[t]?.getD undef := fun t => by simp [nth_eq]
  cases r <;> simp only [RVar, hn] at h <;> (try obtain ⟨ad, h, k⟩ := h) <;> simp_all [results, asAddr]

theorem ret_cell {fn : Func} {R : Ending → World → Prop} {a : Tmp} {T : TypeId} {agg : Bool} {z : Nat} {zero : List Value} {bb : Nat} {b off : Nat} {c cs : List Value} {B : TypeId} (hr : fn.results = #[.cell a T]) (hst : St S M w) (hx : nth l a = .pointer (some ⟨b, off, none⟩)) (k : Nat) (hk : M[k]? = some (.box b c B))
    (hT : Ty P T agg z zero bb) (hc : (c.drop off).take z = cs) (hl : cs.length = z) (hR : R (.returned (vOf agg cs)) w) : bodyPost P fn R .ret ⟨l.toArray, []⟩ w :=
  ret_one hr (rv_cell hst hx k hk hT hc hl) hR

theorem ret_two {fn : Func} {R : Ending → World → Prop} {r1 r2 : ResultVar} {v1 v2 : Value} (hr : fn.results = #[r1, r2]) (h1 : RVar P l w r1 v1) (h2 : RVar P l w r2 v2) (hR : R (.returned (.tuple #[v1, v2])) w) : bodyPost P fn R .ret ⟨l.toArray, []⟩ w := by
  refine bodyPost_ret (v := .tuple #[v1, v2]) ?_ rfl hR
  have hn : ∀ t, nth l t = l[t]?.getD undef := fun t => by simp [nth_eq]
  cases r1 <;> cases r2 <;> simp only [RVar, hn] at h1 h2 <;> (try obtain ⟨ad, h1, k1⟩ := h1) <;> (try obtain ⟨ad2, h2, k2⟩ := h2) <;> simp_all [results, asAddr]

theorem ret_three {fn : Func} {R : Ending → World → Prop} {r1 r2 r3 : ResultVar} {v1 v2 v3 : Value} (hr : fn.results = #[r1, r2, r3]) (h1 : RVar P l w r1 v1) (h2 : RVar P l w r2 v2) (h3 : RVar P l w r3 v3) (hR : R (.returned (.tuple #[v1, v2, v3])) w) : bodyPost P fn R .ret ⟨l.toArray, []⟩ w := by
  refine bodyPost_ret (v := .tuple #[v1, v2, v3]) ?_ rfl hR
  have hn : ∀ t, nth l t = l[t]?.getD undef := fun t => by simp [nth_eq]
  cases r1 <;> cases r2 <;> cases r3 <;> simp only [RVar, hn] at h1 h2 h3 <;> (try obtain ⟨ad, h1, k1⟩ := h1) <;> (try obtain ⟨ad2, h2, k2⟩ := h2) <;> (try obtain ⟨ad3, h3, k3⟩ := h3) <;> simp_all [results, asAddr]

/-! ### The kind of an operation: a gate that is cheap to try -/
theorem k_load {x : Operand} {T : TypeId} {g : Option (Nat × Bool)} {a : Act} (h : wpList P ops Q (⟨dd, .load T x, ty, pos, af, g⟩ :: rest) a w) : wpList P ops Q (⟨dd, .load T x, ty, pos, af, g⟩ :: rest) a w := h
theorem k_store {x y : Operand} {T : TypeId} {g : Option (Nat × Bool)} {a : Act} (h : wpList P ops Q (⟨dd, .store T x y, ty, pos, af, g⟩ :: rest) a w) : wpList P ops Q (⟨dd, .store T x y, ty, pos, af, g⟩ :: rest) a w := h
theorem k_index {x y : Operand} {T : TypeId} {g : Option (Nat × Bool)} {a : Act} (h : wpList P ops Q (⟨dd, .indexAddr T x y, ty, pos, af, g⟩ :: rest) a w) : wpList P ops Q (⟨dd, .indexAddr T x y, ty, pos, af, g⟩ :: rest) a w := h
theorem k_field {x : Operand} {T : TypeId} {k : Nat} {g : Option (Nat × Bool)} {a : Act} (h : wpList P ops Q (⟨dd, .fieldAddr T x k, ty, pos, af, g⟩ :: rest) a w) : wpList P ops Q (⟨dd, .fieldAddr T x k, ty, pos, af, g⟩ :: rest) a w := h
theorem k_call {c : Call} {g : Option (Nat × Bool)} {a : Act} (h : wpList P ops Q (⟨dd, .call c, ty, pos, af, g⟩ :: rest) a w) : wpList P ops Q (⟨dd, .call c, ty, pos, af, g⟩ :: rest) a w := h
theorem k_bin {b : BinOp} {x y : Operand} {T U : TypeId} {g : Option (Nat × Bool)} {a : Act} (h : wpList P ops Q (⟨dd, .binOp b T x y U, ty, pos, af, g⟩ :: rest) a w) : wpList P ops Q (⟨dd, .binOp b T x y U, ty, pos, af, g⟩ :: rest) a w := h
theorem k_guard {op : Op} {g : Nat × Bool} {a : Act} (h : wpList P ops Q (⟨dd, op, ty, pos, af, some g⟩ :: rest) a w) : wpList P ops Q (⟨dd, op, ty, pos, af, some g⟩ :: rest) a w := h
theorem kq_load {x : Operand} {T : TypeId} {g : Option (Nat × Bool)} {a : Act} (h : wpQuiet P ops (St S M) K (⟨dd, .load T x, ty, pos, af, g⟩ :: rest) a) : wpQuiet P ops (St S M) K (⟨dd, .load T x, ty, pos, af, g⟩ :: rest) a := h
theorem kq_index {x y : Operand} {T : TypeId} {g : Option (Nat × Bool)} {a : Act} (h : wpQuiet P ops (St S M) K (⟨dd, .indexAddr T x y, ty, pos, af, g⟩ :: rest) a) : wpQuiet P ops (St S M) K (⟨dd, .indexAddr T x y, ty, pos, af, g⟩ :: rest) a := h
theorem kq_field {x : Operand} {T : TypeId} {k : Nat} {g : Option (Nat × Bool)} {a : Act} (h : wpQuiet P ops (St S M) K (⟨dd, .fieldAddr T x k, ty, pos, af, g⟩ :: rest) a) : wpQuiet P ops (St S M) K (⟨dd, .fieldAddr T x k, ty, pos, af, g⟩ :: rest) a := h
theorem kq_call {c : Call} {g : Option (Nat × Bool)} {a : Act} (h : wpQuiet P ops (St S M) K (⟨dd, .call c, ty, pos, af, g⟩ :: rest) a) : wpQuiet P ops (St S M) K (⟨dd, .call c, ty, pos, af, g⟩ :: rest) a := h
theorem kq_guard {op : Op} {g : Nat × Bool} {a : Act} (h : wpQuiet P ops (St S M) K (⟨dd, op, ty, pos, af, some g⟩ :: rest) a) : wpQuiet P ops (St S M) K (⟨dd, op, ty, pos, af, some g⟩ :: rest) a := h
end
end Go.Sl
