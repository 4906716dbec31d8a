/- Operations in a round of a range over a function, and in an iterator, by the plain rules. General over the program. -/
import Derived.RangeFuncNested
import Derived.RangeFuncBound
import Derived.RangeFuncCalls
import Derived.RangeFuncLeaves
import Derived.Test.YtmbdbfdlbbkclaaDoorSlP
namespace Go.Sl
set_option linter.unusedSimpArgs false
set_option linter.unusedVariables false
open Go.RowKit
variable {P : Program}

/-- A fence that asks nothing, in a round or not. -/
def Wd (F : Fence) : Prop := F = Fence.wide ∨ ∃ r, F = Fence.wide.inRound r
theorem Wd.fn {F : Fence} (h : Wd F) (f : FuncId) : F.fn f := by rcases h with rfl | ⟨r, rfl⟩ <;> trivial
theorem Wd.depth {F : Fence} (h : Wd F) : F.depth = none := by rcases h with rfl | ⟨r, rfl⟩ <;> rfl
theorem Wd.calls {F : Fence} (h : Wd F) {n : Nat} {f : FuncId} {args : Array Value} {w : World} {R : Ending → World → Prop} (c : Calls P f args w R) : CallsIn F n P f args w R := by
  rcases h with rfl | ⟨r, rfl⟩
  · exact callsIn_wide.2 c
  · exact CallsIn.inRound r (callsIn_wide.2 c)
theorem Wd.fenced {F : Fence} (h : Wd F) {m m' : Machine} (s : Steps P m m') : StepsIn (Machine.fenced P F) P m m' := by
  rcases h with rfl | ⟨r, rfl⟩
  · exact stepsIn_wide.2 s
  · rw [fenced_inRound]; exact stepsIn_wide.2 s
theorem Wd.rows {F : Fence} (h : Wd F) {n : Nat} {row : String} {args : Array Value} {w : World} {R : Value → World → Prop} (c : Rows P row args w R) : RowsIn F n P row args w R :=
  fun c0 cs _ => let ⟨v, w', r, s⟩ := c c0 cs; ⟨v, w', r, h.fenced s⟩

/-- No operation is a defer statement. -/
def noDefer (l : List Oper) : Bool := l.all fun o => match o.op with | .defer _ => false | _ => true

theorem operIn {F : Fence} (hF : Wd F) {n : Nat} {o : Oper} {a : Act} {w : World} {K K' : Act → World → Prop} {Q Q' : Exit → Act → World → Prop} (hd : ∀ c, o.op ≠ .defer c) (hK : ∀ a w, K a w → K' a w)
    (hQ : ¬ LetsOut Q) (hQQ : ∀ c a w, Q (.panic c) a w → Q' (.panic c) a w) (h : o.wp P a w K Q) : o.wpIn F n P a w K' Q' := by
  refine ⟨fun f _ => hF.fn f, ?_⟩
  rw [Oper.semAt_eq _ _ _ hd]
  unfold Oper.wp at h
  have hn : F.depth.isSome = true → 1 ≤ n := by rw [hF.depth]; intro h; cases h
  generalize (execOp a.eval o).run P w = r at h ⊢
  cases r with
  | ok x w' =>
    cases x with
    | value v => exact hK _ _ h
    | skip => exact hK _ _ h
    | defer d => exact hK _ _ h
    | enter f args =>
      refine ⟨hn, hF.calls (Calls.mono h fun e w'' he => ?_)⟩
      cases e with
      | returned v => exact hK _ _ he
      | panicked c => exact hQQ _ _ _ he
      | outgrown => exact (hQ he).elim
    | row row args => exact ⟨hn, (hF.rows h).mono fun v w'' he => hK _ _ he⟩
    | _ => exact h.elim
  | halt x w' =>
    cases x with
    | panic v => exact hQQ _ _ _ h
    | _ => exact h.elim

/-- The first operations by the plain rules, the rest as it may be. -/
theorem listIn {F : Fence} (hF : Wd F) {n : Nat} {ops : Array Oper} {Q : Exit → Act → World → Prop} (hQ : ¬ LetsOut Q) {rest : List Oper} {K : Act → World → Prop} (hK : ∀ a w, K a w → wpListIn F n P ops Q rest a w) :
    ∀ (pre : List Oper), noDefer pre = true → ∀ (a : Act) (w : World), wpList P ops (Exit.then K Q) pre a w → wpListIn F n P ops Q (pre ++ rest) a w
  | [], _, a, w, h => hK a w h
  | o :: pre, hd, a, w, h => by
    simp only [noDefer, List.all_cons, Bool.and_eq_true] at hd
    have hd1 : ∀ c, o.op ≠ .defer c := fun c e => by rw [e] at hd; simp at hd
    have hLQ : ¬ LetsOut (Exit.then K Q) := fun ⟨a, w, h⟩ => hQ ⟨a, w, h⟩
    rw [List.cons_append]
    unfold wpListIn
    unfold wpList at h
    by_cases hw : Region.wanted o (yielded ops a.tmps) = true
    · rw [if_pos hw] at h ⊢
      rcases h with h | ⟨_, h⟩
      · exact operIn hF hd1 (fun a w h => listIn hF hQ hK pre hd.2 a w h) hLQ (fun c a w h => h) h
      · exact (hLQ h).elim
    · rw [if_neg hw] at h ⊢
      exact ⟨fun f _ => hF.fn f, listIn hF hQ hK pre hd.2 _ _ h⟩

/-- A plain region in a round. -/
theorem regionIn {F : Fence} (hF : Wd F) {n id : Nat} {l : List Oper} {Q : Exit → Act → World → Prop} (hQ : ¬ LetsOut Q) {a : Act} {w : World} (hd : noDefer l = true) (h : wpList P l.toArray Q l a w) : (Code.region id l.toArray false).wpIn F n P Q a w := by
  refine wpIn_region_lit ?_
  have := listIn (n := n) (rest := []) (K := Q .normal) hF hQ (fun a w h => h) l hd a w (ops := l.toArray) (by
    have e : Exit.then (Q .normal) Q = Q := by funext e a w; cases e <;> rfl
    rw [e]; exact h)
  rwa [List.append_nil] at this

theorem opsIn {F : Fence} (hF : Wd F) {n : Nat} {ops : Array Oper} {Q : Exit → Act → World → Prop} (hQ : ¬ LetsOut Q) (hd : noDefer ops.toList = true) :
    ∀ (l : List Nat) (a : Act) (w : World), wpOps P ops Q l a w → wpOpsIn F n P ops Q l a w
  | [], a, w, h => h
  | i :: l, a, w, h => by
    unfold wpOpsIn
    unfold wpOps at h
    cases ho : ops[i]? with
    | none => rw [ho] at h; exact opsIn hF hQ hd l a w h
    | some o =>
      rw [ho] at h
      have hd1 : ∀ c, o.op ≠ .defer c := fun c e => by
        have := List.all_eq_true.1 hd o (by rw [Array.mem_toList_iff]; exact Array.mem_of_getElem? ho)
        simp only [e] at this
        exact absurd this (by decide)
      simp only at h ⊢
      by_cases hw : Region.wanted o (yielded ops a.tmps) = true
      · rw [if_pos hw] at h ⊢
        rcases h with h | ⟨_, h⟩
        · exact operIn hF hd1 (fun a w h => opsIn hF hQ hd l a w h) hQ (fun c a w h => h) h
        · exact (hQ h).elim
      · rw [if_neg hw] at h ⊢
        exact ⟨fun f _ => hF.fn f, opsIn hF hQ hd l _ _ h⟩

/-- A region that draws its order, in a round. -/
theorem drawnIn {F : Fence} (hF : Wd F) {n id : Nat} {ops : Array Oper} {Q : Exit → Act → World → Prop} (hQ : ¬ LetsOut Q) {a : Act} {w : World} (hd : noDefer ops.toList = true) (hm : P.follows .mixedOrders = true)
    (h : wpAny P .any ops Q ops.size (Array.replicate ops.size false) a { w with drawn := w.drawn + 1 }) : (Code.region id ops true).wpIn F n P Q a w := by
  refine wpIn_region_draw fun t => opsIn hF hQ hd _ _ _ ?_
  simp only [Region.schedule, hm, Bool.true_or, if_true]
  exact wpAny_sound ops.size t _ a _ h
end Go.Sl
