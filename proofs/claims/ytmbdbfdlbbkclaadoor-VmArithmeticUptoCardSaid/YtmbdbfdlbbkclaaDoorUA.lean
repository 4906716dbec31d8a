/- Package vm: plain mathematics: what an execution computes; what an outcome is like; what glitches that are not reached do. -/
import Derived.Test.YtmbdbfdlbbkclaaDoorSlX
namespace Go.Proofs.YtmbdbfdlbbkclaaDoor
set_option linter.unusedSimpArgs false
set_option linter.unusedVariables false
open Go.RowKit Go.Sl

abbrev InsD := Int × Int × Int × Unit
abbrev CodeD := List InsD × Int × Int × Unit
abbrev OutD := List Int × List Int × Int × Int × Unit

/-- A machine's state. -/
structure VS where
  pc : Int
  vars : List Int
  stack : List Int
  br : Nat
  pts : List Int
  notes : List Int
  fin : Int
  steps : Nat
  done : Bool
inductive VR where
  | ok (s : VS)
  | err (e : Nat)
def VR.bind (r : VR) (k : VS → VR) : VR := match r with | .ok s => k s | .err e => .err e

def wrapV (n : Int) : Int := n % 65536
def truthV (b : Bool) : Int := if b then 1 else 0
def pushV (s : VS) (v : Int) : VR := if s.stack.length < 400 then .ok { s with stack := s.stack ++ [v] } else .err 2
def topV (s : VS) : Int := s.stack.getD (s.stack.length - 1) 0
abbrev popV (s : VS) : VS := { s with stack := s.stack.take (s.stack.length - 1) }
def inV (s : VS) (a : Int) : Bool := decide (0 ≤ a ∧ a < s.vars.length)
def binV (op a b : Int) : Int :=
  if op = 4 then wrapV (a + b) else if op = 5 then wrapV (a - b) else if op = 6 then wrapV (a * b) else if op = 7 then truthV (decide (a < b))
  else if op = 8 then truthV (decide (a = b)) else if op = 9 then truthV (decide (a ≠ 0) && decide (b ≠ 0)) else truthV (decide (a ≠ 0) || decide (b ≠ 0))
def orV (p side : Int) : Int := ((p.toNat ||| side.toNat : Nat) : Int)
def setV (l : List Int) (a v : Int) : List Int := l.set a.toNat v
def loopV (v : Int) : Int := max (v - 1) 0

def branchV (gl : List Int) (points : Int) (i : InsD) (s : VS) : VR :=
  if s.stack.length = 0 then .err 21 else
  if 0 ≤ i.2.2.1 ∧ i.2.2.1 < points then
    let s' := { popV s with br := s.br + 1 }
    if (decide (topV s ≠ 0)) ^^ gl.contains (s.br : Int) then .ok { s' with pts := setV s.pts i.2.2.1 (orV (s.pts.getD i.2.2.1.toNat 0) 1) }
    else .ok { s' with pts := setV s.pts i.2.2.1 (orV (s.pts.getD i.2.2.1.toNat 0) 2), pc := i.2.1 }
  else .err 21
def execV (gl : List Int) (points : Int) (i : InsD) (s : VS) : VR :=
  if i.1 = 1 then pushV s (wrapV i.2.1)
  else if i.1 = 2 then if inV s i.2.1 then pushV s (s.vars.getD i.2.1.toNat 0) else .err 21
  else if i.1 = 3 then if s.stack.length = 0 then .err 21 else if inV s i.2.1 then .ok { popV s with vars := setV s.vars i.2.1 (topV s) } else .err 21
  else if i.1 ≤ 10 then if s.stack.length < 2 then .err 21 else pushV (popV (popV s)) (binV i.1 (topV (popV s)) (topV s))
  else if i.1 = 11 then if s.stack.length = 0 then .err 21 else pushV (popV s) (truthV (decide (topV s = 0)))
  else if i.1 = 12 then branchV gl points i s
  else if i.1 = 13 then .ok { s with pc := i.2.1 }
  else if i.1 = 14 then if s.stack.length = 0 then .err 21 else .ok { popV s with notes := s.notes ++ [topV s] }
  else if i.1 = 15 then .ok { s with fin := i.2.1, done := true }
  else if i.1 = 16 then .ok { s with done := true }
  else if inV s i.2.1 then
    let v := loopV (s.vars.getD i.2.1.toNat 0)
    .ok { s with vars := setV s.vars i.2.1 v, pc := if 0 < v then i.2.2.1 else s.pc }
  else .err 21
def insV (c : CodeD) (pc : Int) : InsD := c.1.getD pc.toNat (0, 0, 0, ())
abbrev nextV (s : VS) : VS := { s with pc := s.pc + 1, steps := s.steps + 1 }
def stepV (c : CodeD) (gl : List Int) (s : VS) : VR :=
  if s.steps < 3000 then
    if 0 ≤ s.pc ∧ s.pc < c.1.length then
      if 1 ≤ (insV c s.pc).1 ∧ (insV c s.pc).1 < 18 then execV gl c.2.2.1 (insV c s.pc) (nextV s) else .err 21
    else .err 21
  else .err 20
def runV (c : CodeD) (gl : List Int) : Nat → VS → VR
  | 0, s => .ok s
  | f + 1, s => if s.done then .ok s else (stepV c gl s).bind (runV c gl f)
def startV (c : CodeD) (inputs : List Int) : VS := ⟨0, inputs ++ List.replicate (c.2.1.toNat - inputs.length) 0, [], 0, List.replicate c.2.2.1.toNat 0, [], 0, 0, false⟩
def validV (c : CodeD) (inputs : List Int) : Bool :=
  decide (0 ≤ c.2.2.1) && decide (c.2.2.1 ≤ 8) && decide ((inputs.length : Int) ≤ c.2.1) && decide (c.2.1 ≤ 400) && inputs.all fun n => decide (0 ≤ n ∧ n < 65536)
def outV (s : VS) : OutD := (s.pts, s.notes, s.fin, (s.steps : Int), ())
def out0 : OutD := ([], [], 0, 0, ())
def vmM (c : CodeD) (inputs gl : List Int) : OutD × Nat :=
  if validV c inputs then match runV c gl 3001 (startV c inputs) with | .ok s => (outV s, 0) | .err e => (out0, e)
  else (out0, 1)

/-- The instructions, one by one. -/
theorem exec_elim {gl : List Int} {points : Int} {i : InsD} {s : VS} {m : VR → Prop}
    (h1 : i.1 = 1 → m (pushV s (wrapV i.2.1)))
    (h2 : i.1 = 2 → m (if inV s i.2.1 then pushV s (s.vars.getD i.2.1.toNat 0) else .err 21))
    (h3 : i.1 = 3 → m (if s.stack.length = 0 then .err 21 else if inV s i.2.1 then .ok { popV s with vars := setV s.vars i.2.1 (topV s) } else .err 21))
    (h4 : i.1 ≠ 1 → i.1 ≠ 2 → i.1 ≠ 3 → i.1 ≤ 10 → m (if s.stack.length < 2 then .err 21 else pushV (popV (popV s)) (binV i.1 (topV (popV s)) (topV s))))
    (h11 : i.1 = 11 → m (if s.stack.length = 0 then .err 21 else pushV (popV s) (truthV (decide (topV s = 0)))))
    (h12 : i.1 = 12 → m (branchV gl points i s))
    (h13 : i.1 = 13 → m (.ok { s with pc := i.2.1 }))
    (h14 : i.1 = 14 → m (if s.stack.length = 0 then .err 21 else .ok { popV s with notes := s.notes ++ [topV s] }))
    (h15 : i.1 = 15 → m (.ok { s with fin := i.2.1, done := true }))
    (h16 : i.1 = 16 → m (.ok { s with done := true }))
    (h17 : 16 < i.1 → m (if inV s i.2.1 then .ok { s with vars := setV s.vars i.2.1 (loopV (s.vars.getD i.2.1.toNat 0)), pc := if 0 < loopV (s.vars.getD i.2.1.toNat 0) then i.2.2.1 else s.pc } else .err 21)) :
    m (execV gl points i s) := by
  unfold execV
  by_cases e1 : i.1 = 1
  · rw [if_pos e1]; exact h1 e1
  rw [if_neg e1]
  by_cases e2 : i.1 = 2
  · rw [if_pos e2]; exact h2 e2
  rw [if_neg e2]
  by_cases e3 : i.1 = 3
  · rw [if_pos e3]; exact h3 e3
  rw [if_neg e3]
  by_cases e4 : i.1 ≤ 10
  · rw [if_pos e4]; exact h4 e1 e2 e3 e4
  rw [if_neg e4]
  by_cases e11 : i.1 = 11
  · rw [if_pos e11]; exact h11 e11
  rw [if_neg e11]
  by_cases e12 : i.1 = 12
  · rw [if_pos e12]; exact h12 e12
  rw [if_neg e12]
  by_cases e13 : i.1 = 13
  · rw [if_pos e13]; exact h13 e13
  rw [if_neg e13]
  by_cases e14 : i.1 = 14
  · rw [if_pos e14]; exact h14 e14
  rw [if_neg e14]
  by_cases e15 : i.1 = 15
  · rw [if_pos e15]; exact h15 e15
  rw [if_neg e15]
  by_cases e16 : i.1 = 16
  · rw [if_pos e16]; exact h16 e16
  rw [if_neg e16]
  exact h17 (by omega)

/-! ### What a state is like -/
def inR (n : Int) : Prop := 0 ≤ n ∧ n ≤ 65535
structure GoodV (c : CodeD) (s : VS) : Prop where
  vlen : s.vars.length = c.2.1.toNat
  vars : ∀ v ∈ s.vars, inR v
  stack : ∀ v ∈ s.stack, inR v
  slen : s.stack.length ≤ 400
  br : s.br ≤ s.steps
  plen : s.pts.length = c.2.2.1.toNat
  pts : ∀ v ∈ s.pts, 0 ≤ v ∧ v ≤ 3
  notes : ∀ v ∈ s.notes, inR v
  nlen : s.notes.length + (if s.done then 1 else 0) ≤ s.steps
  steps : s.steps ≤ 3000
def PostV (p : VS → Prop) : VR → Prop
  | .ok s => p s
  | .err e => e = 2 ∨ e = 20 ∨ e = 21
theorem wrapV_in (n : Int) : inR (wrapV n) := by unfold inR wrapV; omega
theorem truthV_in (b : Bool) : inR (truthV b) := by unfold inR truthV; cases b <;> simp
theorem getD_in {l : List Int} (h : ∀ v ∈ l, inR v) (k : Nat) : inR (l.getD k 0) := by
  rw [List.getD_eq_getElem?_getD]
  cases e : l[k]? with
  | none => exact ⟨Int.le_refl _, by decide⟩
  | some v => exact h v (List.mem_of_getElem? e)
theorem binV_in (op a b : Int) : inR (binV op a b) := by
  unfold binV
  repeat' split
  all_goals first | exact wrapV_in _ | exact truthV_in _
theorem loopV_in {v : Int} (h : inR v) : inR (loopV v) := by unfold inR loopV at *; omega
theorem set_all {p : Int → Prop} {l : List Int} (h : ∀ v ∈ l, p v) {k : Nat} {x : Int} (hx : p x) : ∀ v ∈ l.set k x, p v := fun v hv => by
  rcases List.mem_or_eq_of_mem_set hv with hv | rfl
  · exact h v hv
  · exact hx
theorem app_all {p : Int → Prop} {l : List Int} (h : ∀ v ∈ l, p v) {x : Int} (hx : p x) : ∀ v ∈ l ++ [x], p v := fun v hv => by
  rcases List.mem_append.1 hv with hv | hv
  · exact h v hv
  · rw [List.mem_singleton.1 hv]; exact hx
theorem take_all {p : Int → Prop} {l : List Int} (h : ∀ v ∈ l, p v) {k : Nat} : ∀ v ∈ l.take k, p v := fun v hv => h v (List.mem_of_mem_take hv)
theorem or3 : ∀ a < 4, ∀ b < 4, a ||| b < 4 := by decide
theorem orV_in {p side : Int} (h : 0 ≤ p ∧ p ≤ 3) (k : 0 ≤ side ∧ side ≤ 3) : 0 ≤ orV p side ∧ orV p side ≤ 3 := by
  unfold orV
  have := or3 p.toNat (by omega) side.toNat (by omega)
  omega
theorem getD_pt {l : List Int} (h : ∀ v ∈ l, 0 ≤ v ∧ v ≤ 3) (k : Nat) : 0 ≤ l.getD k 0 ∧ l.getD k 0 ≤ 3 := by
  rw [List.getD_eq_getElem?_getD]
  cases e : l[k]? with
  | none => exact ⟨Int.le_refl _, by decide⟩
  | some v => exact h v (List.mem_of_getElem? e)

theorem start_good {c : CodeD} {inputs : List Int} (h : validV c inputs = true) : GoodV c (startV c inputs) := by
  unfold validV at h
  simp only [Bool.and_eq_true, decide_eq_true_eq, List.all_eq_true] at h
  obtain ⟨⟨⟨⟨h1, h2⟩, h3⟩, h4⟩, h5⟩ := h
  refine ⟨?_, ?_, by simp [startV], by simp [startV], by simp [startV], by simp [startV], ?_, by simp [startV], by simp [startV], by simp [startV]⟩
  · simp [startV]; omega
  · intro v hv
    rcases List.mem_append.1 hv with hv | hv
    · have := h5 v hv; unfold inR; omega
    · rw [(List.mem_replicate.1 hv).2]; exact ⟨Int.le_refl _, by decide⟩
  · intro v hv
    rw [(List.mem_replicate.1 hv).2]; exact ⟨Int.le_refl _, by decide⟩

theorem push_good {c : CodeD} {s : VS} (g : GoodV c s) {v : Int} (hv : inR v) : PostV (GoodV c) (pushV s v) := by
  unfold pushV
  split
  · exact ⟨g.vlen, g.vars, app_all g.stack hv, by simp; omega, g.br, g.plen, g.pts, g.notes, g.nlen, g.steps⟩
  · exact .inl rfl
theorem pop_good {c : CodeD} {s : VS} (g : GoodV c s) : GoodV c (popV s) :=
  ⟨g.vlen, g.vars, take_all g.stack, by have := g.slen; simp [popV]; omega, g.br, g.plen, g.pts, g.notes, g.nlen, g.steps⟩
theorem top_in {c : CodeD} {s : VS} (g : GoodV c s) : inR (topV s) := getD_in g.stack _

theorem exec_good {c : CodeD} {gl : List Int} {i : InsD} {s : VS} (g : GoodV c s) (hd : s.done = false) (hb : s.br < s.steps) (hn : s.notes.length < s.steps) : PostV (GoodV c) (execV gl c.2.2.1 i s) := by
  have h21 : PostV (GoodV c) (.err 21) := .inr (.inr rfl)
  have hsl := g.slen
  refine exec_elim ?_ ?_ ?_ ?_ ?_ ?_ ?_ ?_ ?_ ?_ ?_
  · exact fun _ => push_good g (wrapV_in _)
  · intro _
    by_cases h : inV s i.2.1 = true
    · rw [if_pos h]; exact push_good g (getD_in g.vars _)
    · rw [if_neg h]; exact h21
  · intro _
    by_cases h0 : s.stack.length = 0
    · rw [if_pos h0]; exact h21
    rw [if_neg h0]
    by_cases h : inV s i.2.1 = true
    · rw [if_pos h]; exact ⟨by simp [setV, popV, g.vlen], set_all g.vars (top_in g), take_all g.stack, by simp [popV]; omega, g.br, g.plen, g.pts, g.notes, g.nlen, g.steps⟩
    · rw [if_neg h]; exact h21
  · intro _ _ _ _
    by_cases h0 : s.stack.length < 2
    · rw [if_pos h0]; exact h21
    · rw [if_neg h0]; exact push_good (pop_good (pop_good g)) (binV_in _ _ _)
  · intro _
    by_cases h0 : s.stack.length = 0
    · rw [if_pos h0]; exact h21
    · rw [if_neg h0]; exact push_good (pop_good g) (truthV_in _)
  · intro _
    unfold branchV
    by_cases h0 : s.stack.length = 0
    · rw [if_pos h0]; exact h21
    rw [if_neg h0]
    by_cases h1 : 0 ≤ i.2.2.1 ∧ i.2.2.1 < c.2.2.1
    · rw [if_pos h1]
      have hp : ∀ side : Int, 0 ≤ side ∧ side ≤ 3 → ∀ v ∈ setV s.pts i.2.2.1 (orV (s.pts.getD i.2.2.1.toNat 0) side), 0 ≤ v ∧ v ≤ 3 := fun side hs => set_all g.pts (orV_in (getD_pt g.pts _) hs)
      simp only
      split
      · exact ⟨g.vlen, g.vars, take_all g.stack, by simp [popV]; omega, hb, by simp [setV, g.plen], hp 1 ⟨by decide, by decide⟩, g.notes, g.nlen, g.steps⟩
      · exact ⟨g.vlen, g.vars, take_all g.stack, by simp [popV]; omega, hb, by simp [setV, g.plen], hp 2 ⟨by decide, by decide⟩, g.notes, g.nlen, g.steps⟩
    · rw [if_neg h1]; exact h21
  · exact fun _ => ⟨g.vlen, g.vars, g.stack, g.slen, g.br, g.plen, g.pts, g.notes, g.nlen, g.steps⟩
  · intro _
    by_cases h0 : s.stack.length = 0
    · rw [if_pos h0]; exact h21
    · rw [if_neg h0]; exact ⟨g.vlen, g.vars, take_all g.stack, by simp [popV]; omega, g.br, g.plen, g.pts, app_all g.notes (top_in g), by simp [popV, hd]; omega, g.steps⟩
  · exact fun _ => ⟨g.vlen, g.vars, g.stack, g.slen, g.br, g.plen, g.pts, g.notes, by simp; omega, g.steps⟩
  · exact fun _ => ⟨g.vlen, g.vars, g.stack, g.slen, g.br, g.plen, g.pts, g.notes, by simp; omega, g.steps⟩
  · intro _
    by_cases h : inV s i.2.1 = true
    · rw [if_pos h]; exact ⟨by simp [setV, g.vlen], set_all g.vars (loopV_in (getD_in g.vars _)), g.stack, g.slen, g.br, g.plen, g.pts, g.notes, g.nlen, g.steps⟩
    · rw [if_neg h]; exact h21
theorem push_steps {s t : VS} {v : Int} (h : pushV s v = .ok t) : t.steps = s.steps := by
  unfold pushV at h
  split at h
  · cases h; rfl
  · cases h
def StepsV (n : Nat) : VR → Prop
  | .ok t => t.steps = n
  | .err _ => True
theorem push_stepsV {s : VS} {v : Int} : StepsV s.steps (pushV s v) := by
  unfold pushV
  split <;> first | rfl | trivial
theorem exec_stepsV {gl : List Int} {pts : Int} {i : InsD} {s : VS} : StepsV s.steps (execV gl pts i s) := by
  refine exec_elim ?_ ?_ ?_ ?_ ?_ ?_ ?_ ?_ ?_ ?_ ?_
  all_goals (intros; first | rfl | exact push_stepsV | (split <;> first | trivial | rfl | exact push_stepsV | exact (push_stepsV (s := popV _)) | (split <;> first | trivial | rfl)) | (unfold branchV; repeat' (first | trivial | rfl | split)))
theorem exec_steps {gl : List Int} {pts : Int} {i : InsD} {s : VS} : ∀ t, execV gl pts i s = .ok t → t.steps = s.steps := by
  intro t h
  have := exec_stepsV (gl := gl) (pts := pts) (i := i) (s := s)
  rw [h] at this
  exact this
theorem step_good {c : CodeD} {gl : List Int} {s : VS} (g : GoodV c s) (hd : s.done = false) : PostV (fun t => GoodV c t ∧ t.steps = s.steps + 1) (stepV c gl s) := by
  unfold stepV
  split
  · split
    · split
      · have g' : GoodV c (nextV s) := ⟨g.vlen, g.vars, g.stack, g.slen, by have := g.br; show s.br ≤ s.steps + 1; omega, g.plen, g.pts, g.notes, Nat.le_succ_of_le g.nlen, by show s.steps + 1 ≤ 3000; omega⟩
        have hn := g.nlen
        rw [hd] at hn
        have h := exec_good (gl := gl) (i := insV c s.pc) g' hd (by have := g.br; show s.br < s.steps + 1; omega) (by show s.notes.length < s.steps + 1; simp at hn; omega)
        have hs := exec_steps (gl := gl) (pts := c.2.2.1) (i := insV c s.pc) (s := nextV s)
        cases e : execV gl c.2.2.1 (insV c s.pc) (nextV s) with
        | ok t => rw [e] at h hs; exact ⟨h, hs t rfl⟩
        | err k => rw [e] at h; exact h
      · exact .inr (.inr rfl)
    · exact .inr (.inr rfl)
  · exact .inr (.inl rfl)
theorem run_good {c : CodeD} {gl : List Int} : ∀ (f : Nat) (s : VS), GoodV c s → 3001 ≤ f + s.steps → PostV (fun t => GoodV c t ∧ t.done = true) (runV c gl f s)
  | 0, s, g, h => by have := g.steps; omega
  | f + 1, s, g, h => by
    rw [runV]
    cases hd : s.done with
    | true => exact ⟨g, hd⟩
    | false =>
      have hs := step_good (gl := gl) g hd
      rw [if_neg (by simp)]
      cases e : stepV c gl s with
      | ok t => rw [e] at hs; exact run_good f t hs.1 (by have := hs.2; omega)
      | err k => rw [e] at hs; exact hs

/-! ### Glitches -/
theorem exec_glitch {gl gl' : List Int} {pts : Int} {i : InsD} {s : VS} (h : gl.contains (s.br : Int) = gl'.contains (s.br : Int)) : execV gl pts i s = execV gl' pts i s := by
  unfold execV branchV; rw [h]
theorem step_glitch {c : CodeD} {gl gl' : List Int} {s : VS} (h : gl.contains (s.br : Int) = gl'.contains (s.br : Int)) : stepV c gl s = stepV c gl' s := by
  unfold stepV; rw [exec_glitch (s := nextV s) h]
/-- All glitches alike: the same execution. -/
theorem run_glitch {c : CodeD} {gl gl' : List Int} (h : ∀ k : Nat, k < 3000 → gl.contains (k : Int) = gl'.contains (k : Int)) : ∀ (f : Nat) (s : VS), GoodV c s → runV c gl f s = runV c gl' f s
  | 0, _, _ => rfl
  | f + 1, s, g => by
    rw [runV, runV]
    cases hd : s.done with
    | true => rfl
    | false =>
      rw [if_neg (by simp), if_neg (by simp)]
      have hs := step_good (gl := gl) g hd
      have e : stepV c gl s = stepV c gl' s := by
        by_cases h3 : s.steps < 3000
        · exact step_glitch (h s.br (by have := g.br; omega))
        · unfold stepV; rw [if_neg h3, if_neg h3]
      rw [← e]
      cases e2 : stepV c gl s with
      | ok t => rw [e2] at hs; exact run_glitch h f t hs.1
      | err k => rfl
/-- The glitches below the number of steps alike: the same end. -/
theorem run_steps {c : CodeD} {gl : List Int} : ∀ (f : Nat) (s t : VS), GoodV c s → runV c gl f s = .ok t → s.steps ≤ t.steps
  | 0, s, t, _, h => by cases h; exact Nat.le_refl _
  | f + 1, s, t, g, h => by
    rw [runV] at h
    cases hd : s.done with
    | true => rw [hd] at h; cases h; exact Nat.le_refl _
    | false =>
      rw [hd, if_neg (by simp)] at h
      have hs := step_good (gl := gl) g hd
      cases e : stepV c gl s with
      | ok u => rw [e] at hs h; have := run_steps f u t hs.1 h; have := hs.2; omega
      | err k => rw [e] at h; cases h
theorem run_glitch_ok {c : CodeD} {gl gl' : List Int} : ∀ (f : Nat) (s t : VS), GoodV c s → (∀ k : Nat, k < t.steps → gl.contains (k : Int) = gl'.contains (k : Int)) → runV c gl f s = .ok t → runV c gl' f s = .ok t
  | 0, _, _, _, _, h => h
  | f + 1, s, t, g, hk, h => by
    have hle := run_steps _ s t g h
    rw [runV] at h ⊢
    cases hd : s.done with
    | true => rw [hd] at h; exact h
    | false =>
      rw [hd, if_neg (by simp)] at h
      rw [if_neg (by simp)]
      have hs := step_good (gl := gl) g hd
      cases e : stepV c gl s with
      | ok u =>
        rw [e] at hs h
        have h1 := run_steps f u t hs.1 h
        have h2 := hs.2
        rw [← step_glitch (hk s.br (by have := g.br; omega)), e]
        exact run_glitch_ok f u t hs.1 hk h
      | err k => rw [e] at h; cases h
end Go.Proofs.YtmbdbfdlbbkclaaDoor
