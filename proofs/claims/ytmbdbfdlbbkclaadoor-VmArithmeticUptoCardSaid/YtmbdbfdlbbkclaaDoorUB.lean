/- Package vm: plain mathematics: code that is not reached, arithmetic, loops. -/
import Derived.Test.YtmbdbfdlbbkclaaDoorUA
namespace Go.Proofs.YtmbdbfdlbbkclaaDoor
set_option linter.unusedSimpArgs false
set_option linter.unusedVariables false
open Go.RowKit Go.Sl

/-- The same but for variables behind the others. -/
structure Ext (s t : VS) : Prop where
  pc : t.pc = s.pc
  vars : ∃ z, t.vars = s.vars ++ z
  stack : t.stack = s.stack
  br : t.br = s.br
  pts : t.pts = s.pts
  notes : t.notes = s.notes
  fin : t.fin = s.fin
  steps : t.steps = s.steps
  done : t.done = s.done
theorem Ext.inn {s t : VS} (h : Ext s t) {a : Int} (k : inV s a = true) : inV t a = true ∧ a.toNat < s.vars.length ∧ t.vars.getD a.toNat 0 = s.vars.getD a.toNat 0 ∧ ∀ x, ∃ z, setV t.vars a x = setV s.vars a x ++ z := by
  obtain ⟨z, hz⟩ := h.vars
  unfold inV at *
  simp only [decide_eq_true_eq] at *
  have hlt : a.toNat < s.vars.length := by omega
  refine ⟨by rw [hz, List.length_append]; omega, hlt, ?_, fun x => ⟨z, ?_⟩⟩
  · rw [List.getD_eq_getElem?_getD, List.getD_eq_getElem?_getD, hz, List.getElem?_append_left hlt]
  · unfold setV; rw [hz, List.set_append_left _ _ hlt]
theorem Ext.top {s t : VS} (h : Ext s t) : topV t = topV s := by unfold topV; rw [h.stack]
theorem Ext.pop {s t : VS} (h : Ext s t) : Ext (popV s) (popV t) := ⟨h.pc, h.vars, by simp only [popV, h.stack], h.br, h.pts, h.notes, h.fin, h.steps, h.done⟩
theorem Ext.push {s t u : VS} (h : Ext s t) {v : Int} (k : pushV s v = .ok u) : ∃ u', pushV t v = .ok u' ∧ Ext u u' := by
  unfold pushV at *
  rw [h.stack]
  split at k
  · cases k
    rename_i hh
    rw [if_pos hh]
    exact ⟨_, rfl, h.pc, h.vars, by simp only [h.stack], h.br, h.pts, h.notes, h.fin, h.steps, h.done⟩
  · cases k
def ExtR (r r' : VR) : Prop := ∀ u, r = .ok u → ∃ u', r' = .ok u' ∧ Ext u u'
theorem ExtR.err {e : Nat} {r : VR} : ExtR (.err e) r := fun _ h => by cases h
theorem ExtR.ok {u u' : VS} (h : Ext u u') : ExtR (.ok u) (.ok u') := fun _ e => by cases e; exact ⟨_, rfl, h⟩
theorem Ext.pushR {s t : VS} (h : Ext s t) {v : Int} : ExtR (pushV s v) (pushV t v) := fun _ k => h.push k
theorem execV_1 {gl : List Int} {pts : Int} {i : InsD} {s : VS} (e : i.1 = 1) : execV gl pts i s = (pushV s (wrapV i.2.1)) := by
  obtain ⟨op, a, b, u⟩ := i
  obtain rfl : op = 1 := e
  rfl
theorem execV_2 {gl : List Int} {pts : Int} {i : InsD} {s : VS} (e : i.1 = 2) : execV gl pts i s = (if inV s i.2.1 then pushV s (s.vars.getD i.2.1.toNat 0) else .err 21) := by
  obtain ⟨op, a, b, u⟩ := i
  obtain rfl : op = 2 := e
  rfl
theorem execV_3 {gl : List Int} {pts : Int} {i : InsD} {s : VS} (e : i.1 = 3) : execV gl pts i s = (if s.stack.length = 0 then .err 21 else if inV s i.2.1 then .ok { popV s with vars := setV s.vars i.2.1 (topV s) } else .err 21) := by
  obtain ⟨op, a, b, u⟩ := i
  obtain rfl : op = 3 := e
  rfl
theorem execV_11 {gl : List Int} {pts : Int} {i : InsD} {s : VS} (e : i.1 = 11) : execV gl pts i s = (if s.stack.length = 0 then .err 21 else pushV (popV s) (truthV (decide (topV s = 0)))) := by
  obtain ⟨op, a, b, u⟩ := i
  obtain rfl : op = 11 := e
  rfl
theorem execV_12 {gl : List Int} {pts : Int} {i : InsD} {s : VS} (e : i.1 = 12) : execV gl pts i s = (branchV gl pts i s) := by
  obtain ⟨op, a, b, u⟩ := i
  obtain rfl : op = 12 := e
  rfl
theorem execV_13 {gl : List Int} {pts : Int} {i : InsD} {s : VS} (e : i.1 = 13) : execV gl pts i s = (.ok { s with pc := i.2.1 }) := by
  obtain ⟨op, a, b, u⟩ := i
  obtain rfl : op = 13 := e
  rfl
theorem execV_14 {gl : List Int} {pts : Int} {i : InsD} {s : VS} (e : i.1 = 14) : execV gl pts i s = (if s.stack.length = 0 then .err 21 else .ok { popV s with notes := s.notes ++ [topV s] }) := by
  obtain ⟨op, a, b, u⟩ := i
  obtain rfl : op = 14 := e
  rfl
theorem execV_15 {gl : List Int} {pts : Int} {i : InsD} {s : VS} (e : i.1 = 15) : execV gl pts i s = (.ok { s with fin := i.2.1, done := true }) := by
  obtain ⟨op, a, b, u⟩ := i
  obtain rfl : op = 15 := e
  rfl
theorem execV_16 {gl : List Int} {pts : Int} {i : InsD} {s : VS} (e : i.1 = 16) : execV gl pts i s = (.ok { s with done := true }) := by
  obtain ⟨op, a, b, u⟩ := i
  obtain rfl : op = 16 := e
  rfl
theorem execV_4 {gl : List Int} {pts : Int} {i : InsD} {s : VS} (e1 : i.1 ≠ 1) (e2 : i.1 ≠ 2) (e3 : i.1 ≠ 3) (e : i.1 ≤ 10) : execV gl pts i s = (if s.stack.length < 2 then .err 21 else pushV (popV (popV s)) (binV i.1 (topV (popV s)) (topV s))) := by
  unfold execV; rw [if_neg e1, if_neg e2, if_neg e3, if_pos e]
theorem execV_17 {gl : List Int} {pts : Int} {i : InsD} {s : VS} (e : 16 < i.1) : execV gl pts i s = (if inV s i.2.1 then .ok { s with vars := setV s.vars i.2.1 (loopV (s.vars.getD i.2.1.toNat 0)), pc := if 0 < loopV (s.vars.getD i.2.1.toNat 0) then i.2.2.1 else s.pc } else .err 21) := by
  have a1 : i.1 ≠ 1 := by omega
  have a2 : i.1 ≠ 2 := by omega
  have a3 : i.1 ≠ 3 := by omega
  have a4 : ¬ i.1 ≤ 10 := by omega
  have a11 : i.1 ≠ 11 := by omega
  have a12 : i.1 ≠ 12 := by omega
  have a13 : i.1 ≠ 13 := by omega
  have a14 : i.1 ≠ 14 := by omega
  have a15 : i.1 ≠ 15 := by omega
  have a16 : i.1 ≠ 16 := by omega
  unfold execV; rw [if_neg a1, if_neg a2, if_neg a3, if_neg a4, if_neg a11, if_neg a12, if_neg a13, if_neg a14, if_neg a15, if_neg a16]
theorem Ext.execR {gl : List Int} {pts : Int} {i : InsD} {s t : VS} (h : Ext s t) : ExtR (execV gl pts i s) (execV gl pts i t) := by
  refine exec_elim (m := fun r => ExtR r (execV gl pts i t)) ?_ ?_ ?_ ?_ ?_ ?_ ?_ ?_ ?_ ?_ ?_
  · intro e
    rw [execV_1 e]
    exact h.pushR
  · intro e
    rw [execV_2 e]
    by_cases hi : inV s i.2.1 = true
    · obtain ⟨a, _, b, _⟩ := h.inn hi
      rw [if_pos hi, if_pos a, b]
      exact h.pushR
    · rw [if_neg hi]; exact ExtR.err
  · intro e
    rw [execV_3 e]
    by_cases h0 : s.stack.length = 0
    · rw [if_pos h0]; exact ExtR.err
    rw [if_neg h0, if_neg (show ¬ t.stack.length = 0 by rw [h.stack]; exact h0)]
    by_cases hi : inV s i.2.1 = true
    · obtain ⟨a, _, _, d⟩ := h.inn hi
      rw [if_pos hi, if_pos a]
      exact ExtR.ok ⟨h.pc, by rw [h.top]; exact d _, by simp only [popV, h.stack], h.br, h.pts, h.notes, h.fin, h.steps, h.done⟩
    · rw [if_neg hi]; exact ExtR.err
  · intro e1 e2 e3 e
    rw [execV_4 e1 e2 e3 e]
    by_cases h0 : s.stack.length < 2
    · rw [if_pos h0]; exact ExtR.err
    · rw [if_neg h0, if_neg (show ¬ t.stack.length < 2 by rw [h.stack]; exact h0), h.top, h.pop.top]
      exact h.pop.pop.pushR
  · intro e
    rw [execV_11 e]
    by_cases h0 : s.stack.length = 0
    · rw [if_pos h0]; exact ExtR.err
    · rw [if_neg h0, if_neg (show ¬ t.stack.length = 0 by rw [h.stack]; exact h0), h.top]
      exact h.pop.pushR
  · intro e
    rw [execV_12 e]
    unfold branchV
    rw [h.stack, h.top, h.br, h.pts]
    by_cases h0 : s.stack.length = 0
    · rw [if_pos h0]; exact ExtR.err
    rw [if_neg h0, if_neg h0]
    by_cases h1 : 0 ≤ i.2.2.1 ∧ i.2.2.1 < pts
    · rw [if_pos h1, if_pos h1]
      simp only
      split
      · exact ExtR.ok ⟨h.pc, h.vars, by simp only [popV, h.stack], rfl, rfl, h.notes, h.fin, h.steps, h.done⟩
      · exact ExtR.ok ⟨rfl, h.vars, by simp only [popV, h.stack], rfl, rfl, h.notes, h.fin, h.steps, h.done⟩
    · rw [if_neg h1]; exact ExtR.err
  · intro e
    rw [execV_13 e]
    exact ExtR.ok ⟨rfl, h.vars, h.stack, h.br, h.pts, h.notes, h.fin, h.steps, h.done⟩
  · intro e
    rw [execV_14 e]
    by_cases h0 : s.stack.length = 0
    · rw [if_pos h0]; exact ExtR.err
    · rw [if_neg h0, if_neg (show ¬ t.stack.length = 0 by rw [h.stack]; exact h0)]
      exact ExtR.ok ⟨h.pc, h.vars, by simp only [popV, h.stack], h.br, h.pts, by simp only [h.notes, h.top], h.fin, h.steps, h.done⟩
  · intro e
    rw [execV_15 e]
    exact ExtR.ok ⟨h.pc, h.vars, h.stack, h.br, h.pts, h.notes, rfl, h.steps, rfl⟩
  · intro e
    rw [execV_16 e]
    exact ExtR.ok ⟨h.pc, h.vars, h.stack, h.br, h.pts, h.notes, h.fin, h.steps, rfl⟩
  · intro e
    rw [execV_17 e]
    by_cases hi : inV s i.2.1 = true
    · obtain ⟨a, _, b, d⟩ := h.inn hi
      rw [if_pos hi, if_pos a]
      exact ExtR.ok ⟨by simp only [b, h.pc], by rw [b]; exact d _, h.stack, h.br, h.pts, h.notes, h.fin, h.steps, h.done⟩
    · rw [if_neg hi]; exact ExtR.err
theorem Ext.exec {gl : List Int} {pts : Int} {i : InsD} {s t u : VS} (h : Ext s t) (k : execV gl pts i s = .ok u) : ∃ u', execV gl pts i t = .ok u' ∧ Ext u u' := h.execR u k

/-- The code with more behind it. -/
structure More (c d : CodeD) : Prop where
  ins : ∃ z, d.1 = c.1 ++ z
  pts : d.2.2.1 = c.2.2.1
theorem Ext.step {c d : CodeD} {gl : List Int} {s t u : VS} (m : More c d) (h : Ext s t) (k : stepV c gl s = .ok u) : ∃ u', stepV d gl t = .ok u' ∧ Ext u u' := by
  obtain ⟨z, hz⟩ := m.ins
  unfold stepV at *
  rw [h.steps, h.pc, m.pts]
  split at k
  · rename_i h1
    rw [if_pos h1]
    split at k
    · rename_i h2
      have hi : insV d s.pc = insV c s.pc := by
        unfold insV
        rw [List.getD_eq_getElem?_getD, List.getD_eq_getElem?_getD, hz, List.getElem?_append_left (by omega)]
      rw [if_pos (by rw [hz, List.length_append]; omega), hi]
      split at k
      · rename_i h3
        rw [if_pos h3]
        refine Ext.exec (s := nextV s) ⟨?_, h.vars, h.stack, h.br, h.pts, h.notes, h.fin, ?_, h.done⟩ k
        · simp only [nextV, h.pc]
        · simp only [nextV, h.steps]
      · cases k
    · cases k
  · cases k
theorem Ext.run {c d : CodeD} {gl : List Int} (m : More c d) : ∀ (f : Nat) (s t u : VS), Ext s t → runV c gl f s = .ok u → ∃ u', runV d gl f t = .ok u' ∧ Ext u u'
  | 0, s, t, u, h, k => by cases k; exact ⟨t, rfl, h⟩
  | f + 1, s, t, u, h, k => by
    rw [runV] at k ⊢
    rw [h.done]
    cases hd : s.done with
    | true => rw [hd] at k; cases k; exact ⟨t, rfl, h⟩
    | false =>
      rw [hd, if_neg (by simp)] at k
      rw [if_neg (by simp)]
      cases e : stepV c gl s with
      | ok s' =>
        rw [e] at k
        obtain ⟨t', e', h'⟩ := h.step m e
        rw [e']
        exact Ext.run m f s' t' u h' k
      | err n => rw [e] at k; cases k
theorem Ext.out {s t : VS} (h : Ext s t) : outV t = outV s := by unfold outV; rw [h.pts, h.notes, h.fin, h.steps]

theorem vm_ok {c : CodeD} {inputs gl : List Int} (h : (vmM c inputs gl).2 = 0) : validV c inputs = true ∧ ∃ s, runV c gl 3001 (startV c inputs) = .ok s ∧ vmM c inputs gl = (outV s, 0) := by
  unfold vmM at h ⊢
  split at h
  · rename_i hv
    refine ⟨hv, ?_⟩
    rw [if_pos hv]
    have hg := run_good (gl := gl) 3001 _ (start_good hv) (by simp [startV])
    cases e : runV c gl 3001 (startV c inputs) with
    | ok s => exact ⟨s, rfl, rfl⟩
    | err k =>
      rw [e] at h hg
      rcases hg with rfl | rfl | rfl <;> cases h
  · cases h
theorem vm_err {c : CodeD} {inputs gl : List Int} (h : (vmM c inputs gl).2 ≠ 0) : (vmM c inputs gl).1 = out0 := by
  unfold vmM at h ⊢
  split
  · rename_i hv
    rw [if_pos hv] at h
    cases e : runV c gl 3001 (startV c inputs) with
    | ok s => rw [e] at h; simp at h
    | err k => rfl
  · rfl
/-- What the law 'outcome is valid' asks. -/
theorem vm_valid {c : CodeD} {inputs gl : List Int} (h : (vmM c inputs gl).2 = 0) :
    (∀ v ∈ (vmM c inputs gl).1.1, 0 ≤ v ∧ v ≤ 3) ∧ (∀ v ∈ (vmM c inputs gl).1.2.1, 0 ≤ v ∧ v < 65536) ∧ ((vmM c inputs gl).1.1.length : Int) = c.2.2.1 ∧ 1 ≤ (vmM c inputs gl).1.2.2.2.1 ∧ (vmM c inputs gl).1.2.2.2.1 ≤ 3000 ∧ ((vmM c inputs gl).1.2.1.length : Int) < (vmM c inputs gl).1.2.2.2.1 := by
  obtain ⟨hv, s, hr, he⟩ := vm_ok h
  have hg := run_good (gl := gl) 3001 _ (start_good hv) (by simp [startV])
  rw [hr] at hg
  obtain ⟨g, hd⟩ := hg
  rw [he]
  have hn := g.nlen
  rw [hd] at hn
  have hp : 0 ≤ c.2.2.1 := by
    unfold validV at hv
    simp only [Bool.and_eq_true, decide_eq_true_eq] at hv
    exact hv.1.1.1.1
  have hpl := g.plen
  have hst := g.steps
  simp only [if_true] at hn
  refine ⟨g.pts, fun v hv => ?_, ?_, ?_, ?_, ?_⟩
  · have := g.notes v hv; unfold inR at this; omega
  · show (s.pts.length : Int) = _; omega
  · show (1 : Int) ≤ (s.steps : Int); omega
  · show (s.steps : Int) ≤ 3000; omega
  · show (s.notes.length : Int) < (s.steps : Int); omega
/-- Glitches beyond the end. -/
theorem vm_glitch {c : CodeD} {inputs gl : List Int} {far : Nat} {more : List Int} (hm : more = gl ++ gl ++ [-1 - (far : Int), 3000 + (far : Int)] ++ (if (vmM c inputs gl).2 = 0 then [(vmM c inputs gl).1.2.2.2.1 + (far : Int)] else [])) :
    vmM c inputs more = vmM c inputs gl := by
  have hc : ∀ k : Nat, k < 3000 → ((vmM c inputs gl).2 = 0 → (k : Int) < (vmM c inputs gl).1.2.2.2.1) → gl.contains (k : Int) = more.contains (k : Int) := fun k hk hs => by
    rw [hm]
    have e1 : ((k : Int) == -1 - (far : Int)) = false := by simp; omega
    have e2 : ((k : Int) == 3000 + (far : Int)) = false := by simp; omega
    simp only [List.contains_append, List.contains_cons, List.contains_nil, e1, e2, Bool.or_false, Bool.or_self]
    split
    · rename_i h0
      have := hs h0
      have e3 : ((k : Int) == (vmM c inputs gl).1.2.2.2.1 + (far : Int)) = false := by simp; omega
      simp only [List.contains_cons, List.contains_nil, e3, Bool.or_false, Bool.or_self]
    · simp
  by_cases hv : validV c inputs = true
  · by_cases h0 : (vmM c inputs gl).2 = 0
    · obtain ⟨_, s, hr, he⟩ := vm_ok h0
      have hg := run_good (gl := gl) 3001 _ (start_good hv) (by simp [startV])
      rw [hr] at hg
      have hst := hg.1.steps
      have := run_glitch_ok (gl' := more) 3001 _ s (start_good hv) (fun k hk => hc k (by omega) fun _ => by rw [he]; show (k : Int) < (s.steps : Int); omega) hr
      rw [he]
      unfold vmM
      rw [if_pos hv, this]
    · have := run_glitch (gl := gl) (gl' := more) (fun k hk => hc k hk fun h => absurd h h0) 3001 _ (start_good hv)
      unfold vmM
      rw [if_pos hv, this, if_pos hv]
  · unfold vmM
    rw [if_neg hv, if_neg hv]
/-- Code that is not reached. -/
theorem vm_more {c d : CodeD} {inputs gl : List Int} (m : More c d) (h1 : c.2.1 ≤ d.2.1) (h2 : d.2.1 ≤ 400) (h : (vmM c inputs gl).2 = 0) : vmM d inputs gl = vmM c inputs gl := by
  obtain ⟨hv, s, hr, he⟩ := vm_ok h
  have hv' : validV d inputs = true := by
    unfold validV at hv ⊢
    rw [m.pts]
    simp only [Bool.and_eq_true, decide_eq_true_eq] at hv ⊢
    exact ⟨⟨⟨hv.1.1.1, by omega⟩, h2⟩, hv.2⟩
  have hl : (inputs.length : Int) ≤ c.2.1 := by
    unfold validV at hv
    simp only [Bool.and_eq_true, decide_eq_true_eq] at hv
    exact hv.1.1.2
  have h0 : Ext (startV c inputs) (startV d inputs) := by
    refine ⟨rfl, ⟨List.replicate (d.2.1.toNat - c.2.1.toNat) 0, ?_⟩, rfl, rfl, ?_, rfl, rfl, rfl, rfl⟩
    · unfold startV
      simp only
      rw [List.append_assoc, List.replicate_append_replicate]
      congr 2
      omega
    · unfold startV
      simp only
      rw [m.pts]
  obtain ⟨t, ht, hx⟩ := Ext.run m 3001 _ _ s h0 hr
  rw [he]
  unfold vmM
  rw [if_pos hv', ht]
  show (outV t, 0) = _
  rw [hx.out]
end Go.Proofs.YtmbdbfdlbbkclaaDoor
