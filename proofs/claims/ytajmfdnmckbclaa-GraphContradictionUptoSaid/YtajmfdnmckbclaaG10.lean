/- Package graph: 'Infer', in plain Lean and walked. -/
import Derived.Test.YtajmfdnmckbclaaG9
namespace Go.Proofs.Ytajmfdnmckbclaa
set_option linter.unusedSimpArgs false
set_option linter.unusedVariables false
open Go.RowKit Go.Sl

def shutAt (en : List (Int × Int)) (o : List Int) (i : Nat) : Bool := shutB (en.getD i (-1, 0)).1 (en.getD i (-1, 0)).2 o
/-- One outcome looked at: an unknown one that is shut becomes 0. -/
def look (en : List (Int × Int)) (t : List Int × Bool) (i : Nat) : List Int × Bool := if t.1.getD i 0 == -1 && shutAt en t.1 i then (t.1.set i 0, true) else t
def looks (en : List (Int × Int)) (o : List Int) (n : Nat) : List Int × Bool := (List.range n).foldl (look en) (o, false)
def settle (en : List (Int × Int)) : Nat → List Int → List Int
  | 0, o => o
  | f + 1, o => if (looks en o o.length).2 then settle en f (looks en o o.length).1 else (looks en o o.length).1
def bad (en : List (Int × Int)) (o : List Int) (i : Nat) : Bool := decide (o.getD i 0 > 0) && shutAt en o i
def infer (en : List (Int × Int)) (took : List Int) : Option (List Int) :=
  if validB took en.length (-1) then
    let o := settle en (took.length + 1) took
    if (List.range o.length).any (bad en o) then none else some o
  else none

theorem looks_succ (en : List (Int × Int)) (o : List Int) (n : Nat) : looks en o (n + 1) = look en (looks en o n) n := by simp [looks, List.range_succ, List.foldl_append]

theorem looks_length (en : List (Int × Int)) (o : List Int) (n : Nat) : (looks en o n).1.length = o.length :=
  foldl_keeps (p := fun t : List Int × Bool => t.1.length = o.length) (fun t i h => by unfold look; split; simpa using h; exact h) _ _ rfl

theorem count_set0 {l : List Int} {k : Nat} (h : l.getD k 0 = -1) : (l.set k 0).count (-1) + 1 = l.count (-1) := by
  induction l generalizing k with
  | nil => simp at h
  | cons b l ih =>
    cases k with
    | zero => simp at h; subst h; simp
    | succ k => have h : l.getD k 0 = -1 := by simpa using h
                have := ih h
                simp only [List.set_cons_succ, List.count_cons]; omega

/-- How many outcomes are unknown. -/
def unknowns (o : List Int) : Nat := o.count (-1)

theorem looks_count (en : List (Int × Int)) (o : List Int) : ∀ n, unknowns (looks en o n).1 + (if (looks en o n).2 then 1 else 0) ≤ unknowns o
  | 0 => by simp [looks]
  | n + 1 => by
    have ih := looks_count en o n
    rw [looks_succ]
    unfold look
    split
    · rename_i h
      simp only [Bool.and_eq_true, beq_iff_eq] at h
      have := count_set0 h.1
      simp only [unknowns] at *
      simp only [if_true]
      omega
    · exact ih
end Go.Proofs.Ytajmfdnmckbclaa
