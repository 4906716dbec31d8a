/- Regions that draw their order: what reads, and calls that hand back a value and keep what is owned, are taken first; what makes memory or stores comes in any order. General over the program. -/
import Derived.Deep.RegionHeld3
import Derived.Test.YtmbdbfdlbbkclaaDoorSlR
import Derived.Test.YtmbdbfdlbbkclaaDoorSlH
import Derived.Test.YtmbdbfdlbbkclaaDoorSlT
namespace Go.Sl
set_option linter.unusedSimpArgs false
set_option linter.unusedVariables false
open Go.RowKit

/-- What is owned at least: an extension. -/
theorem St.suf {S S' : Snap} {M M' : List Chunk} {w : World} (hS : S.Le S') (hM : Suf M M') (h : St S' M' w) : St S M w := by
  obtain ⟨N, rfl⟩ := hM.h
  clear hM
  induction N with
  | nil => exact St.weaken hS h
  | cons c N ih => exact ih h.drop
theorem Suf.refl (M : List Chunk) : Suf M M := ⟨[], rfl⟩
theorem Suf.trans {A B C : List Chunk} (h : Suf A B) (k : Suf B C) : Suf A C := by
  obtain ⟨N, rfl⟩ := h.h
  obtain ⟨N', rfl⟩ := k.h
  exact ⟨N' ++ N, by rw [List.append_assoc]⟩
theorem Suf.cons {A B : List Chunk} {c : Chunk} (h : Suf A B) : Suf A (c :: B) := by
  obtain ⟨N, rfl⟩ := h.h
  exact ⟨c :: N, rfl⟩
theorem Suf.slIn {M M' : List Chunk} {v : Value} {k z n : Nat} {T : TypeId} {c : List Value} (i : Suf M M') (h : SlIn M v k T z n c) : ∃ k', SlIn M' v k' T z n c := by
  obtain ⟨N, rfl⟩ := i.h
  exact ⟨N.length + k, ⟨by rw [List.getElem?_append_right (by omega), Nat.add_sub_cancel_left]; exact h.h⟩⟩

def isSt (o : Oper) : Bool := match o.op with | .store .. => true | .call c => (match c.callee with | .builtin .append => true | _ => false) | _ => false

section
variable {P : Program} {lo : List Oper} {Q : Exit → Act → World → Prop}

/-- Whatever order is picked from here on, in every world of the class, which may grow on the way. -/
def AnyV (P : Program) (lo : List Oper) (Q : Exit → Act → World → Prop) : Nat → Snap → List Chunk → List Bool → List Value → List Deferred → Prop
  | 0, S, M, bs, l, D => Region.ready .any lo.toArray bs.toArray = [] ∧ ∀ w, St S M w → Q .normal ⟨l.toArray, D⟩ w
  | f + 1, S, M, bs, l, D => (Region.ready .any lo.toArray bs.toArray = [] → ∀ w, St S M w → Q .normal ⟨l.toArray, D⟩ w) ∧
    ∀ j ∈ Region.ready .any lo.toArray bs.toArray, ∀ w, St S M w →
      wpOp P lo.toArray (NoPanic Q) j (fun a' w' => ∃ S' M' l', ((∃ o, lo[j]? = some o ∧ isSt o = true) ∨ (S.Le S' ∧ Suf M M')) ∧ a' = ⟨l'.toArray, D⟩ ∧ St S' M' w' ∧ AnyV P lo Q f S' M' (bs.set j true) l' D) ⟨l.toArray, D⟩ w

theorem set_arr (bs : List Bool) (j : Nat) : bs.toArray.setIfInBounds j true = (bs.set j true).toArray := by simp

theorem anyV_any : ∀ (f : Nat) (S : Snap) (M : List Chunk) (bs : List Bool) (l : List Value) (D : List Deferred) (w : World), AnyV P lo Q f S M bs l D → St S M w →
    wpAny P .any lo.toArray (NoPanic Q) f bs.toArray ⟨l.toArray, D⟩ w
  | 0, S, M, bs, l, D, w, h, hst => ⟨h.1, NoPanic.normal (h.2 w hst)⟩
  | f + 1, S, M, bs, l, D, w, h, hst => by
    refine ⟨fun e => NoPanic.normal (h.1 e w hst), fun j hj => wpOp_mono (fun a' w' h' => ?_) (h.2 j hj w hst)⟩
    obtain ⟨S', M', l', _, rfl, h1, h2⟩ := h'
    rw [set_arr]
    exact anyV_any f S' M' _ l' D w' h2 h1

theorem v_begin {S : Snap} {M : List Chunk} {l : List Value} {D : List Deferred} {w : World} {id : Nat} (hst : St S M w) (hm : P.follows .mixedOrders = true) (h : let ops := lo; AnyV P ops Q ops.length S M (List.replicate ops.length false) l D) :
    (Code.region id lo.toArray true).wp P Q ⟨l.toArray, D⟩ w := by
  refine wp_region_noPanic (wp_region_any hm ?_)
  have := anyV_any _ _ _ _ _ _ _ h hst.drew
  simpa using this

theorem wpOp_putX {i j : Nat} {oi oj : Oper} {v : Value} (hj : lo.toArray[j]? = some oj) (hap : oi.apart lo.toArray oj = true)
    (hsi : ∀ cs b, oi.op ≠ .select cs b) (hsj : ∀ cs b, oj.op ≠ .select cs b) {K : Act → World → Prop} {a : Act} {w : World} (h : wpOp P lo.toArray (NoPanic Q) j K (a.put oi.dst v) w) :
    wpOp P lo.toArray (NoPanic Q) j (fun a' w' => (execOp a'.eval oi = execOp a.eval oi ∧ Region.wanted oi (yielded lo.toArray a'.tmps) = Region.wanted oi (yielded lo.toArray a.tmps)) ∧ K (a'.put oi.dst v) w') a w := by
  obtain ⟨h1, h2, h3⟩ := Oper.apart_spec hap
  have keep : ∀ (a : Act) (u : Value), execOp (a.put oj.dst u).eval oi = execOp a.eval oi ∧ Region.wanted oi (yielded lo.toArray (a.put oj.dst u).tmps) = Region.wanted oi (yielded lo.toArray a.tmps) :=
    fun a u => ⟨execOp_put oi hsi a oj.dst u h3, wanted_put oi a oj.dst u h3⟩
  unfold wpOp at *
  simp only [hj] at *
  rw [wanted_put oj a oi.dst v h1] at h
  split
  · rename_i hw
    simp only [hw, if_true] at h
    rcases h with h | ⟨_, a0, w0, hf⟩
    case inr => exact .inr ⟨by rename_i hasks; unfold Oper.asks at *; rw [execOp_put oj hsj a oi.dst v h1] at hasks; exact hasks, a0, w0, hf⟩
    refine .inl ?_
    unfold Oper.wp at *
    rw [execOp_put oj hsj a oi.dst v h1] at h
    generalize (execOp a.eval oj).run P w = r at *
    cases r with
    | ok n w' =>
      cases n <;> simp only [Oper.upon] at h ⊢
      case value u => exact ⟨keep a u, by rw [← Act.put_comm a v u h2]; exact h⟩
      case skip => exact ⟨keep a _, by rw [← Act.put_comm a v undef h2]; exact h⟩
      case defer d =>
        have hk := keep { a with defers := d :: a.defers } undef
        refine ⟨hk, ?_⟩
        rw [← Act.put_comm _ v undef h2, ← Act.put_defers]
        exact h
      case enter f args =>
        refine Calls.mono h fun e w'' he => ?_
        cases e with
        | returned u => exact ⟨keep a u, by rw [← Act.put_comm a v u h2]; exact he⟩
        | panicked c => exact he
        | outgrown => exact he
      case row row args => exact Rows.mono h fun u w'' he => ⟨keep a u, by rw [← Act.put_comm a v u h2]; exact he⟩
    | halt x w' =>
      cases x <;> simp only [Oper.upon] at h ⊢
      case panic u => exact h
  · rename_i hw
    simp only [hw] at h
    exact ⟨keep a _, by rw [← Act.put_comm a v undef h2]; exact h⟩

/-- Operation j waits for operation i, directly or through others. -/
def waits (lo : List Oper) : Nat → Nat → Nat → Bool
  | 0, _, _ => false
  | f + 1, j, i => match lo[j]? with | some o => o.after.any (fun e => Region.binds .any e && (e.on == i || waits lo f e.on i)) | none => false
/-- What has come up has come up behind what it waits for. -/
def closedB (lo : List Oper) (bs : List Bool) : Bool :=
  (List.range lo.length).all fun k => !bs.getD k false || match lo[k]? with | some o => o.after.all (fun e => !Region.binds .any e || bs.getD e.on false) | none => true
/-- Every store that has not come up waits for operation i. -/
def storesWait (lo : List Oper) (bs : List Bool) (i : Nat) : Bool :=
  (List.range lo.length).all fun k => bs.getD k true || match lo[k]? with | some o => !isSt o || waits lo lo.length k i | none => true
def takeOk (lo : List Oper) (bs : List Bool) (i : Nat) : Bool :=
  Region.noSelect lo.toArray && Region.free .any lo.toArray bs.toArray i && (Region.ready .any lo.toArray bs.toArray).contains i && storesWait lo bs i && closedB lo bs

def Closed (lo : List Oper) (bs : List Bool) : Prop := ∀ k o, lo[k]? = some o → bs.toArray.getD k false = true → ∀ e ∈ o.after, Region.binds .any e = true → bs.toArray.getD e.on false = true
theorem closedB_spec {bs : List Bool} (h : closedB lo bs = true) : Closed lo bs := by
  intro k o ho hk e he hb
  have hlt : k < lo.length := (List.getElem?_eq_some_iff.1 ho).1
  have := List.all_eq_true.1 h k (List.mem_range.2 hlt)
  have hk' : bs.getD k false = true := by simpa using hk
  rw [hk', ho] at this
  simp only [Bool.not_true, Bool.false_or] at this
  obtain ⟨x, hx, rfl⟩ := Array.getElem_of_mem he
  have := Array.all_eq_true.1 this x hx
  rw [hb] at this
  simpa using this
theorem waits_listed {bs : List Bool} (hc : Closed lo bs) : ∀ (f j i : Nat) (o : Oper), lo[j]? = some o → (∀ e ∈ o.after, Region.binds .any e = true → bs.toArray.getD e.on false = true) → waits lo f j i = true → bs.toArray.getD i false = true
  | 0, _, _, _, _, _, h => by cases h
  | f + 1, j, i, o, ho, hall, h => by
    rw [waits, ho] at h
    simp only [Array.any_eq_true, Bool.and_eq_true, Bool.or_eq_true, beq_iff_eq] at h
    obtain ⟨x, hx, hb, h⟩ := h
    have hl := hall _ (Array.getElem_mem hx) hb
    rcases h with rfl | h
    · exact hl
    · cases ho' : lo[(o.after[x]).on]? with
      | none =>
        exfalso
        cases f with
        | zero => cases h
        | succ f => rw [waits, ho'] at h; cases h
      | some o' => exact waits_listed hc f _ i o' ho' (fun e he hb => hc _ o' ho' hl e he hb) h

/-- In every world of the class and of each that extends it the operation yields v and keeps the class. -/
def YX (P : Program) (S : Snap) (M : List Chunk) (l : List Value) (o : Oper) (v : Value) : Prop :=
  ∀ S' M' w, S.Le S' → Suf M M' → St S' M' w → Oper.quietUpon P (St S' M') w v ((execOp (evF l) o).run P w)
theorem YX.ext {S S' : Snap} {M M' : List Chunk} {l : List Value} {o : Oper} {v : Value} (h : YX P S M l o v) (hS : S.Le S') (hM : Suf M M') : YX P S' M' l o v :=
  fun S2 M2 w h1 h2 h3 => h S2 M2 w (hS.trans h1) (hM.trans h2) h3

theorem putD_put (l : List Value) (D : List Deferred) (d : Option Tmp) (v : Value) : (⟨l.toArray, D⟩ : Act).put d v = ⟨(putD l d v).toArray, D⟩ := by cases d <;> simp [Act.put, putD]

theorem wpOp_quiet {S : Snap} {M : List Chunk} {i : Nat} {o : Oper} {v : Value} {l : List Value} {D : List Deferred} {w : World} {K : Act → World → Prop} (hi : lo.toArray[i]? = some o)
    (hw : Region.wanted o (yielded lo.toArray l.toArray) = true) (hst : St S M w) (hy : Oper.quietUpon P (St S M) w v ((execOp (evF l) o).run P w)) (h : ∀ w', St S M w' → K ⟨(putD l o.dst v).toArray, D⟩ w') :
    wpOp P lo.toArray (NoPanic Q) i K ⟨l.toArray, D⟩ w := by
  unfold wpOp
  simp only [hi, hw, if_true]
  refine .inl ?_
  unfold Oper.wp
  rw [evF_eq]
  generalize (execOp (evF l) o).run P w = r at hy ⊢
  cases r with
  | ok n w' =>
    cases n <;> simp only [Oper.quietUpon] at hy <;> simp only [Oper.upon]
    case value u =>
      obtain ⟨e1, e2⟩ := hy
      rw [e1, e2, putD_put]
      exact h _ hst
    case skip =>
      obtain ⟨e1, e2⟩ := hy
      rw [e1, ← e2, putD_put]
      exact h _ hst
    case enter f args =>
      obtain ⟨e1, e2⟩ := hy
      rw [e1]
      refine Calls.mono e2 fun e w'' he => ?_
      obtain ⟨rfl, hC⟩ := he
      show K _ w''
      rw [putD_put]
      exact h _ hC
  | halt x w' => simp only [Oper.quietUpon] at hy

theorem v_take {i : Nat} {oi : Oper} {v : Value} {D : List Deferred} (hi : lo[i]? = some oi) (hsel : Region.noSelect lo.toArray = true) (hns : isSt oi = false) :
    ∀ (f : Nat) (S : Snap) (M : List Chunk) (bs : List Bool) (l : List Value),
      (∀ j oj, lo[j]? = some oj → j ≠ i → bs.toArray.getD j true = false → (∀ e ∈ oj.after, Region.binds .any e = true → e.on ≠ i) → oi.apart lo.toArray oj = true) →
      (∀ j oj, lo[j]? = some oj → bs.toArray.getD j true = false → isSt oj = true → ∃ g, waits lo g j i = true) → Closed lo bs →
      i ∈ Region.ready .any lo.toArray bs.toArray → (Region.wanted oi (yielded lo.toArray l.toArray) = true ∧ YX P S M l oi v ∨ Region.wanted oi (yielded lo.toArray l.toArray) = false ∧ v = undef) →
      AnyV P lo Q f S M (bs.set i true) (putD l oi.dst v) D → AnyV P lo Q (f + 1) S M bs l D := by
  have hi' : lo.toArray[i]? = some oi := by simpa using hi
  have first : ∀ {f : Nat} {S : Snap} {M : List Chunk} {bs : List Bool} {l : List Value} {w : World}, (Region.wanted oi (yielded lo.toArray l.toArray) = true ∧ YX P S M l oi v ∨ Region.wanted oi (yielded lo.toArray l.toArray) = false ∧ v = undef) → St S M w →
      AnyV P lo Q f S M (bs.set i true) (putD l oi.dst v) D → wpOp P lo.toArray (NoPanic Q) i (fun a' w' => ∃ S' M' l', ((∃ o, lo[i]? = some o ∧ isSt o = true) ∨ (S.Le S' ∧ Suf M M')) ∧ a' = ⟨l'.toArray, D⟩ ∧ St S' M' w' ∧ AnyV P lo Q f S' M' (bs.set i true) l' D) ⟨l.toArray, D⟩ w := by
    intro f S M bs l w hy hst H
    rcases hy with ⟨hw, hy⟩ | ⟨hw, rfl⟩
    · exact wpOp_quiet hi' hw hst (hy S M w (Snap.Le.refl S) (Suf.refl M) hst) fun w' hw' => ⟨S, M, _, .inr ⟨Snap.Le.refl S, Suf.refl M⟩, rfl, hw', H⟩
    · unfold wpOp
      simp only [hi', hw, Bool.false_eq_true, if_false]
      exact ⟨S, M, _, .inr ⟨Snap.Le.refl S, Suf.refl M⟩, putD_put l D oi.dst undef, hst, H⟩
  intro f
  induction f with
  | zero =>
    intro S M bs l hfree hsw hcl hr hy H
    refine ⟨fun e => (by rw [e] at hr; cases hr), fun j hj w hst => ?_⟩
    by_cases hji : j = i
    · subst hji; exact first hy hst H
    · have := ready_mono hj hji
      rw [set_arr, H.1] at this
      cases this
  | succ f ih =>
    intro S M bs l hfree hsw hcl hr hy H
    refine ⟨fun e => (by rw [e] at hr; cases hr), fun j hj w hst => ?_⟩
    by_cases hji : j = i
    · subst hji; exact first hy hst H
    · have hj2 : j ∈ Region.ready .any lo.toArray (bs.set i true).toArray := by rw [← set_arr]; exact ready_mono hj hji
      have h1 := H.2 j hj2 w hst
      obtain ⟨hjun, oj, hoj, hall⟩ := mem_ready.1 hj
      have hnot : ∀ e ∈ oj.after, Region.binds .any e = true → e.on ≠ i := fun e he hb heq => by
        have h1 := hall e he hb
        have h0 := (mem_ready.1 hr).1
        rw [heq, getD_both h0] at h1
        cases h1
      have hoj' : lo[j]? = some oj := by simpa using hoj
      have hnst : isSt oj = false := by
        cases e : isSt oj with
        | false => rfl
        | true =>
          obtain ⟨g, hg⟩ := hsw j oj hoj' hjun e
          have h1 := waits_listed hcl g j i oj hoj' hall hg
          have h0 := (mem_ready.1 hr).1
          rw [getD_both h0] at h1
          cases h1
      rw [← putD_put] at h1
      have h2 := wpOp_putX (i := i) hoj (hfree j oj hoj' hji hjun hnot) (fun cs b => Region.noSelect_spec hsel i oi cs b hi') (fun cs b => Region.noSelect_spec hsel j oj cs b hoj) h1
      refine wpOp_mono (fun a' w' h3 => ?_) h2
      obtain ⟨⟨hc1, hc2⟩, S', M', l'', hex, hl, hst', hA⟩ := h3
      have hex' : S.Le S' ∧ Suf M M' := by
        rcases hex with ⟨o, ho, hs⟩ | hex
        · rw [hoj'] at ho
          cases ho
          rw [hnst] at hs
          cases hs
        · exact hex
      obtain ⟨t, d⟩ := a'
      have hd : d = D := by
        have := congrArg Act.defers hl
        cases ho : oi.dst <;> simpa [Act.put, ho] using this
      subst hd
      obtain ⟨l', rfl⟩ : ∃ l' : List Value, t = l'.toArray := ⟨t.toList, by simp⟩
      rw [putD_put] at hl
      obtain rfl : putD l' oi.dst v = l'' := by
        have := congrArg (fun a => a.tmps.toList) hl
        simpa using this
      refine ⟨S', M', l', .inr hex', rfl, hst', ih S' M' (bs.set j true) l' ?_ ?_ ?_ ?_ ?_ ?_⟩
      · intro k ok hk hki hun hno
        refine hfree k ok hk hki ?_ hno
        rw [← set_arr] at hun
        by_cases hjk : j = k
        · subst hjk; exact hjun
        · rwa [getD_set_ne true hjk] at hun
      · intro k ok hk hun hs
        refine hsw k ok hk ?_ hs
        rw [← set_arr] at hun
        by_cases hjk : j = k
        · subst hjk; exact hjun
        · rwa [getD_set_ne true hjk] at hun
      · intro k ok hk hl e he hb
        rw [← set_arr] at hl ⊢
        by_cases hjk : j = k
        · subst hjk
          obtain rfl : oj = ok := by rw [hoj'] at hk; cases hk; rfl
          exact getD_set_true (hall e he hb)
        · rw [getD_set_ne false hjk] at hl
          exact getD_set_true (hcl k ok hk hl e he hb)
      · rw [← set_arr]; exact ready_mono hr (Ne.symm hji)
      · rw [evF_eq, evF_eq] at hc1
        rcases hy with ⟨hw, hy⟩ | ⟨hw, hv⟩
        · refine .inl ⟨hc2.trans hw, ?_⟩
          intro S2 M2 w2 hS2 hM2 hst2
          rw [hc1]
          exact hy.ext hex'.1 hex'.2 S2 M2 w2 hS2 hM2 hst2
        · exact .inr ⟨hc2.trans hw, hv⟩
      · have e := Array.setIfInBounds_comm (xs := bs.toArray) (i := i) (j := j) true true (Ne.symm hji)
        have e' : (bs.set i true).set j true = (bs.set j true).set i true := by
          have := congrArg Array.toList e
          simpa using this
        rw [← e']
        exact hA

variable {S : Snap} {M : List Chunk} {f : Nat} {bs : List Bool} {l : List Value} {D : List Deferred} {o : Oper} {v : Value}

theorem takeOk_use {k : Nat} (ho : lo[k]? = some o) (hok : takeOk lo bs k = true) (hns : isSt o = false) (hy : Region.wanted o (yielded lo.toArray l.toArray) = true ∧ YX P S M l o v ∨ Region.wanted o (yielded lo.toArray l.toArray) = false ∧ v = undef)
    (h : AnyV P lo Q f S M (bs.set k true) (putD l o.dst v) D) : AnyV P lo Q (f + 1) S M bs l D := by
  simp only [takeOk, Bool.and_eq_true] at hok
  obtain ⟨⟨⟨⟨h1, h2⟩, h3⟩, h4⟩, h5⟩ := hok
  have ho' : lo.toArray[k]? = some o := by simpa using ho
  refine v_take ho h1 hns f S M bs l (fun j oj hj => Region.free_spec ho' h2 j oj (by simpa using hj)) (fun j oj hj hun hs => ?_) (closedB_spec h5) (by simpa using h3) hy h
  have hlt : j < lo.length := (List.getElem?_eq_some_iff.1 hj).1
  have := List.all_eq_true.1 h4 j (List.mem_range.2 hlt)
  have hun' : bs.getD j true = false := by simpa using hun
  rw [hun', hj] at this
  simp only [Bool.false_or, hs, Bool.not_true] at this
  exact ⟨_, this⟩

theorem Qt.suf {op : Op} {S' : Snap} {M' : List Chunk} (h : Qt P l op S M v) (hS : S.Le S') (hM : Suf M M') : Qt P l op S' M' v := fun d ty pos af w hw => h d ty pos af w (hw.suf hS hM)
theorem YX.qt (hq : Qt P l o.op S M v) (hg : ∀ w, (execOp (evF l) o).run P w = (execOp (evF l) ⟨o.dst, o.op, o.type, o.pos, o.after, none⟩).run P w := by intro; rfl) : YX P S M l o v := fun S' M' w hS hM hst => by
  rw [hg, hq.suf hS hM o.dst o.type o.pos o.after w hst]
  exact ⟨rfl, rfl⟩

/-- Take an operation that reads. -/
theorem t_qt (k : Nat) (ho : lo[k]? = some o) (hok : takeOk lo bs k = true) (hns : isSt o = false) (hw : Region.wanted o (yielded lo.toArray l.toArray) = true) (hq : Qt P l o.op S M v)
    (h : AnyV P lo Q f S M (bs.set k true) (putD l o.dst v) D) : AnyV P lo Q (f + 1) S M bs l D := takeOk_use ho hok hns (.inl ⟨hw, YX.qt hq⟩) h
theorem v_assume (h : ∀ w, St S M w → AnyV P lo Q (f + 1) S M bs l D) : AnyV P lo Q (f + 1) S M bs l D :=
  ⟨fun e w hst => (h w hst).1 e w hst, fun j hj w hst => (h w hst).2 j hj w hst⟩
theorem t_ex (k : Nat) {F : Value → Prop} (ho : lo[k]? = some o) (hok : takeOk lo bs k = true) (hns : isSt o = false) (hw : Region.wanted o (yielded lo.toArray l.toArray) = true) (hq : ∀ w, St S M w → ∃ v, F v ∧ Qt P l o.op S M v)
    (h : ∀ v, F v → AnyV P lo Q f S M (bs.set k true) (putD l o.dst v) D) : AnyV P lo Q (f + 1) S M bs l D := v_assume fun w hst => let ⟨v, hv, q⟩ := hq w hst; t_qt k ho hok hns hw q (h v hv)
theorem t_no (k : Nat) (ho : lo[k]? = some o) (hok : takeOk lo bs k = true) (hns : isSt o = false) (hw : Region.wanted o (yielded lo.toArray l.toArray) = false)
    (h : AnyV P lo Q f S M (bs.set k true) (putD l o.dst undef) D) : AnyV P lo Q (f + 1) S M bs l D := takeOk_use ho hok hns (.inr ⟨hw, rfl⟩) h

/-- Take a call that hands back v and keeps what is owned. -/
theorem t_call (k : Nat) {fn : FuncId} {xs : List Operand} {ats : Array TypeId} {args : List Value} {d : Option Tmp} {ty : TypeId} {pos : String} {af : Array Edge} {g : Option (Nat × Bool)}
    (ho : lo[k]? = some ⟨d, .call { callee := .value (.func fn), args := xs.toArray, argTypes := ats }, ty, pos, af, g⟩) (hok : takeOk lo bs k = true) (hw : Region.wanted ⟨d, .call { callee := .value (.func fn), args := xs.toArray, argTypes := ats }, ty, pos, af, g⟩ (yielded lo.toArray l.toArray) = true)
    (c : ∀ S' M' w, S.Le S' → Suf M M' → St S' M' w → Rets P fn args w fun v' w' => v' = v ∧ St S' M' w') (hb : Body P fn) (ha : xs.map (evF l) = args)
    (h : AnyV P lo Q f S M (bs.set k true) (putD l d v) D) : AnyV P lo Q (f + 1) S M bs l D := by
  refine takeOk_use ho hok rfl (.inl ⟨hw, fun S' M' w hS hM hst => ?_⟩) h
  subst ha
  have hr : (execOp (evF l) ⟨d, .call { callee := .value (.func fn), args := xs.toArray, argTypes := ats }, ty, pos, af, g⟩).run P w = .ok (.enter fn (xs.map (evF l)).toArray) w := by
    have := hb.enter (w := w) (xs.map (evF l)).toArray
    simp only [execOp, resolve, Deferred.ofValue, evF, Sem.run_bind, Sem.run_pure, Result.andThen_ok, invoke]
    simpa using this
  rw [hr]
  exact ⟨rfl, Calls.mono (c S' M' w hS hM hst) fun e w' ⟨v', he, hv, hs⟩ => ⟨by rw [he, hv], hs⟩⟩

/-- Take a call of a function value. -/
theorem t_callv (k : Nat) {fn : FuncId} {x : Operand} {xs : List Operand} {ats : Array TypeId} {args args' : List Value} {fi ca : List Value} {d : Option Tmp} {ty : TypeId} {pos : String} {af : Array Edge} {g : Option (Nat × Bool)}
    (ho : lo[k]? = some ⟨d, .call { callee := .value x, args := xs.toArray, argTypes := ats }, ty, pos, af, g⟩) (hok : takeOk lo bs k = true) (hw : Region.wanted ⟨d, .call { callee := .value x, args := xs.toArray, argTypes := ats }, ty, pos, af, g⟩ (yielded lo.toArray l.toArray) = true)
    (c : ∀ S' M' w, S.Le S' → Suf M M' → St S' M' w → Rets P fn args' w fun v' w' => v' = v ∧ St S' M' w') (hx : evF l x = .func (.func fn) fi.toArray ca.toArray) (hb : Body P fn) (ha : xs.map (evF l) = args) (hargs : fi ++ args ++ ca = args')
    (h : AnyV P lo Q f S M (bs.set k true) (putD l d v) D) : AnyV P lo Q (f + 1) S M bs l D := by
  refine takeOk_use ho hok rfl (.inl ⟨hw, fun S' M' w hS hM hst => ?_⟩) h
  subst ha; subst hargs
  have hr : (execOp (evF l) ⟨d, .call { callee := .value x, args := xs.toArray, argTypes := ats }, ty, pos, af, g⟩).run P w = .ok (.enter fn (fi ++ xs.map (evF l) ++ ca).toArray) w := by
    have := hb.enter (w := w) (fi ++ xs.map (evF l) ++ ca).toArray
    simp only [execOp, resolve, hx, Deferred.ofValue, Sem.run_bind, Sem.run_pure, Result.andThen_ok, invoke]
    simpa using this
  rw [hr]
  exact ⟨rfl, Calls.mono (c S' M' w hS hM hst) fun e w' ⟨v', he, hv, hs⟩ => ⟨by rw [he, hv], hs⟩⟩

/-- What stands behind an operation that makes memory. -/
def RestV (P : Program) (lo : List Oper) (Q : Exit → Act → World → Prop) (S : Snap) (M : List Chunk) (f : Nat) (bs : List Bool) (D : List Deferred) (K : Act → World → Prop) : Prop :=
  ∀ S' M' l' w, S.Le S' → Suf M M' → St S' M' w → AnyV P lo Q f S' M' bs l' D → K ⟨l'.toArray, D⟩ w
/-- What stands behind a store. -/
def LastV (P : Program) (lo : List Oper) (Q : Exit → Act → World → Prop) (f : Nat) (bs : List Bool) (D : List Deferred) (K : Act → World → Prop) : Prop :=
  ∀ S' M' l' w, St S' M' w → AnyV P lo Q f S' M' bs l' D → K ⟨l'.toArray, D⟩ w

def Step1 (P : Program) (lo : List Oper) (Q : Exit → Act → World → Prop) (S : Snap) (M : List Chunk) (f : Nat) (bs : List Bool) (l : List Value) (D : List Deferred) (k : Nat) (o : Oper) : Prop :=
  ∀ w, St S M w → ∀ K, (if isSt o then LastV P lo Q f (bs.set k true) D K else RestV P lo Q S M f (bs.set k true) D K) → wpList P lo.toArray (Exit.then K (NoPanic Q)) [o] ⟨l.toArray, D⟩ w
theorem step1_use {k : Nat} (ho : lo[k]? = some o) (h : Step1 P lo Q S M f bs l D k o) (w : World) (hst : St S M w) :
    wpOp P lo.toArray (NoPanic Q) k (fun a' w' => ∃ S' M' l', ((∃ o, lo[k]? = some o ∧ isSt o = true) ∨ (S.Le S' ∧ Suf M M')) ∧ a' = ⟨l'.toArray, D⟩ ∧ St S' M' w' ∧ AnyV P lo Q f S' M' (bs.set k true) l' D) ⟨l.toArray, D⟩ w := by
  refine wpOp_of_list (by simpa using ho) (h w hst _ ?_)
  cases e : isSt o with
  | true => exact fun S' M' l' w' h1 h2 => ⟨S', M', l', .inl ⟨o, ho, e⟩, rfl, h1, h2⟩
  | false => exact fun S' M' l' w' h0 h1 h2 h3 => ⟨S', M', l', .inr ⟨h0, h1⟩, rfl, h2, h3⟩
theorem v_all (rs : List Nat) (hr : Region.ready .any lo.toArray bs.toArray = rs) (hne : rs ≠ []) (h : ∀ k ∈ rs, ∃ o, lo[k]? = some o ∧ Step1 P lo Q S M f bs l D k o) : AnyV P lo Q (f + 1) S M bs l D :=
  ⟨fun e => absurd (hr ▸ e) hne, fun j hj w hst => let ⟨_, ho, h1⟩ := h j (hr ▸ hj); step1_use ho h1 w hst⟩
theorem v_one (k : Nat) (ho : lo[k]? = some o) (hr : Region.ready .any lo.toArray bs.toArray = [k]) (h : Step1 P lo Q S M f bs l D k o) : AnyV P lo Q (f + 1) S M bs l D :=
  v_all [k] hr (by simp) fun i hi => by obtain rfl := List.mem_singleton.1 hi; exact ⟨o, ho, h⟩
theorem v_two (j k : Nat) {o' : Oper} (ho : lo[j]? = some o) (ho' : lo[k]? = some o') (hr : Region.ready .any lo.toArray bs.toArray = [j, k]) (h : Step1 P lo Q S M f bs l D j o) (h' : Step1 P lo Q S M f bs l D k o') : AnyV P lo Q (f + 1) S M bs l D :=
  v_all [j, k] hr (by simp) fun i hi => by
    rcases List.mem_cons.1 hi with rfl | hi
    · exact ⟨o, ho, h⟩
    · obtain rfl := List.mem_singleton.1 hi
      exact ⟨o', ho', h'⟩
theorem v_three (i j k : Nat) {o' o'' : Oper} (ho : lo[i]? = some o) (ho' : lo[j]? = some o') (ho'' : lo[k]? = some o'') (hr : Region.ready .any lo.toArray bs.toArray = [i, j, k]) (h : Step1 P lo Q S M f bs l D i o) (h' : Step1 P lo Q S M f bs l D j o')
    (h'' : Step1 P lo Q S M f bs l D k o'') : AnyV P lo Q (f + 1) S M bs l D :=
  v_all [i, j, k] hr (by simp) fun x hx => by
    rcases List.mem_cons.1 hx with rfl | hx
    · exact ⟨o, ho, h⟩
    · rcases List.mem_cons.1 hx with rfl | hx
      · exact ⟨o', ho', h'⟩
      · obtain rfl := List.mem_singleton.1 hx
        exact ⟨o'', ho'', h''⟩
theorem v_done (hr : Region.ready .any lo.toArray bs.toArray = []) (h : ∀ w, St S M w → Q .normal ⟨l.toArray, D⟩ w) : AnyV P lo Q f S M bs l D := by
  cases f with
  | zero => exact ⟨hr, h⟩
  | succ f => exact ⟨fun _ => h, by rw [hr]; simp⟩
/-- Behind an operation: the class grows. -/
theorem v_next {ops : Array Oper} {K : Act → World → Prop} {Q' : Exit → Act → World → Prop} {S' : Snap} {M' : List Chunk} {w : World} (hK : RestV P lo Q S M f bs D K) (hst : St S' M' w) (hS : S.Le S') (hM : Suf M M')
    (h : AnyV P lo Q f S' M' bs l D) : wpList P ops (Exit.then K Q') [] ⟨l.toArray, D⟩ w := hK S' M' l w hS hM hst h
theorem v_last {ops : Array Oper} {K : Act → World → Prop} {Q' : Exit → Act → World → Prop} {S' : Snap} {M' : List Chunk} {w : World} (hK : LastV P lo Q f bs D K) (hst : St S' M' w)
    (h : AnyV P lo Q f S' M' bs l D) : wpList P ops (Exit.then K Q') [] ⟨l.toArray, D⟩ w := hK S' M' l w hst h
end
end Go.Sl
