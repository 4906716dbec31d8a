/- Regions that draw their order: what neither reads nor changes memory may be taken at any time. General over the program. -/
import Derived.Test.YtncffjdmcalioaaSlJ
namespace Go.Sl
set_option linter.unusedSimpArgs false
set_option linter.unusedVariables false
open Go.RowKit
section
variable {P : Program} {lo : List Oper} {Q : Exit → Act → World → Prop}
def takeOkP (lo : List Oper) (bs : List Bool) (i : Nat) : Bool :=
  Region.noSelect lo.toArray && Region.free .any lo.toArray bs.toArray i && (Region.ready .any lo.toArray bs.toArray).contains i
theorem v_takeP {i : Nat} {oi : Oper} {v : Value} {D : List Deferred} (hi : lo[i]? = some oi) (hsel : Region.noSelect lo.toArray = true) (hns : isSt oi = false) :
    ∀ (f : Nat) (S : Snap) (M : List Chunk) (bs : List Bool) (l : List Value),
      (∀ j oj, lo[j]? = some oj → j ≠ i → bs.toArray.getD j true = false → (∀ e ∈ oj.after, Region.binds .any e = true → e.on ≠ i) → oi.apart lo.toArray oj = true) →
      i ∈ Region.ready .any lo.toArray bs.toArray → (Region.wanted oi (yielded lo.toArray l.toArray) = true ∧ (∀ S M, YX P S M l oi v) ∨ Region.wanted oi (yielded lo.toArray l.toArray) = false ∧ v = undef) →
      AnyV P lo Q f S M (bs.set i true) (putD l oi.dst v) D → AnyV P lo Q (f + 1) S M bs l D := by
  have hi' : lo.toArray[i]? = some oi := by simpa using hi
  have first : ∀ {f : Nat} {S : Snap} {M : List Chunk} {bs : List Bool} {l : List Value} {w : World}, (Region.wanted oi (yielded lo.toArray l.toArray) = true ∧ (∀ S M, YX P S M l oi v) ∨ Region.wanted oi (yielded lo.toArray l.toArray) = false ∧ v = undef) → St S M w →
      AnyV P lo Q f S M (bs.set i true) (putD l oi.dst v) D → wpOp P lo.toArray (NoPanic Q) i (fun a' w' => ∃ S' M' l', ((∃ o, lo[i]? = some o ∧ isSt o = true) ∨ (S.Le S' ∧ Suf M M')) ∧ a' = ⟨l'.toArray, D⟩ ∧ St S' M' w' ∧ AnyV P lo Q f S' M' (bs.set i true) l' D) ⟨l.toArray, D⟩ w := by
    intro f S M bs l w hy hst H
    rcases hy with ⟨hw, hy⟩ | ⟨hw, rfl⟩
    · exact wpOp_quiet hi' hw hst (hy S M S M w (Snap.Le.refl S) (Suf.refl M) hst) fun w' hw' => ⟨S, M, _, .inr ⟨Snap.Le.refl S, Suf.refl M⟩, rfl, hw', H⟩
    · unfold wpOp
      simp only [hi', hw, Bool.false_eq_true, if_false]
      exact ⟨S, M, _, .inr ⟨Snap.Le.refl S, Suf.refl M⟩, putD_put l D oi.dst undef, hst, H⟩
  intro f
  induction f with
  | zero =>
    intro S M bs l hfree hr hy H
    refine ⟨fun e => (by rw [e] at hr; cases hr), fun j hj w hst => ?_⟩
    by_cases hji : j = i
    · subst hji; exact first hy hst H
    · have := ready_mono hj hji
      rw [set_arr, H.1] at this
      cases this
  | succ f ih =>
    intro S M bs l hfree hr hy H
    refine ⟨fun e => (by rw [e] at hr; cases hr), fun j hj w hst => ?_⟩
    by_cases hji : j = i
    · subst hji; exact first hy hst H
    · have hj2 : j ∈ Region.ready .any lo.toArray (bs.set i true).toArray := by rw [← set_arr]; exact ready_mono hj hji
      have h1 := H.2 j hj2 w hst
      obtain ⟨hjun, oj, hoj, hall⟩ := mem_ready.1 hj
      have hnot : ∀ e ∈ oj.after, Region.binds .any e = true → e.on ≠ i := fun e he hb heq => by
        have h1 := hall e he hb
        have h0 := (mem_ready.1 hr).1
        rw [heq, getD_both h0] at h1
        cases h1
      have hoj' : lo[j]? = some oj := by simpa using hoj
      rw [← putD_put] at h1
      have h2 := wpOp_putX (i := i) hoj (hfree j oj hoj' hji hjun hnot) (fun cs b => Region.noSelect_spec hsel i oi cs b hi') (fun cs b => Region.noSelect_spec hsel j oj cs b hoj) h1
      refine wpOp_mono (fun a' w' h3 => ?_) h2
      obtain ⟨⟨hc1, hc2⟩, S', M', l'', hex, hl, hst', hA⟩ := h3
      obtain ⟨t, d⟩ := a'
      have hd : d = D := by
        have := congrArg Act.defers hl
        cases ho : oi.dst <;> simpa [Act.put, ho] using this
      subst hd
      obtain ⟨l', rfl⟩ : ∃ l' : List Value, t = l'.toArray := ⟨t.toList, by simp⟩
      rw [putD_put] at hl
      obtain rfl : putD l' oi.dst v = l'' := by
        have := congrArg (fun a => a.tmps.toList) hl
        simpa using this
      refine ⟨S', M', l', hex, rfl, hst', ih S' M' (bs.set j true) l' ?_ ?_ ?_ ?_⟩
      · intro k ok hk hki hun hno
        refine hfree k ok hk hki ?_ hno
        rw [← set_arr] at hun
        by_cases hjk : j = k
        · subst hjk; exact hjun
        · rwa [getD_set_ne true hjk] at hun
      · rw [← set_arr]; exact ready_mono hr (Ne.symm hji)
      · rw [evF_eq, evF_eq] at hc1
        rcases hy with ⟨hw, hy⟩ | ⟨hw, hv⟩
        · refine .inl ⟨hc2.trans hw, ?_⟩
          intro S1 M1 S2 M2 w2 hS2 hM2 hst2
          rw [hc1]
          exact hy S1 M1 S2 M2 w2 hS2 hM2 hst2
        · exact .inr ⟨hc2.trans hw, hv⟩
      · have e := Array.setIfInBounds_comm (xs := bs.toArray) (i := i) (j := j) true true (Ne.symm hji)
        have e' : (bs.set i true).set j true = (bs.set j true).set i true := by
          have := congrArg Array.toList e
          simpa using this
        rw [← e']
        exact hA

variable {S : Snap} {M : List Chunk} {f : Nat} {bs : List Bool} {l : List Value} {D : List Deferred} {o : Oper} {v : Value}
/-- Take an operation that does not look at memory. -/
theorem t_pure (k : Nat) (ho : lo[k]? = some o) (hok : takeOkP lo bs k = true) (hns : isSt o = false) (hw : Region.wanted o (yielded lo.toArray l.toArray) = true) (hq : ∀ S M, Qt P l o.op S M v)
    (h : AnyV P lo Q f S M (bs.set k true) (putD l o.dst v) D) : AnyV P lo Q (f + 1) S M bs l D := by
  simp only [takeOkP, Bool.and_eq_true] at hok
  obtain ⟨⟨h1, h2⟩, h3⟩ := hok
  have ho' : lo.toArray[k]? = some o := by simpa using ho
  exact v_takeP ho h1 hns f S M bs l (fun j oj hj => Region.free_spec ho' h2 j oj (by simpa using hj)) (by simpa using h3) (.inl ⟨hw, fun S M => YX.qt (hq S M)⟩) h
theorem t_pureno (k : Nat) (ho : lo[k]? = some o) (hok : takeOkP lo bs k = true) (hns : isSt o = false) (hw : Region.wanted o (yielded lo.toArray l.toArray) = false)
    (h : AnyV P lo Q f S M (bs.set k true) (putD l o.dst undef) D) : AnyV P lo Q (f + 1) S M bs l D := by
  simp only [takeOkP, Bool.and_eq_true] at hok
  obtain ⟨⟨h1, h2⟩, h3⟩ := hok
  have ho' : lo.toArray[k]? = some o := by simpa using ho
  exact v_takeP ho h1 hns f S M bs l (fun j oj hj => Region.free_spec ho' h2 j oj (by simpa using hj)) (by simpa using h3) (.inr ⟨hw, rfl⟩) h
end
end Go.Sl
