/- Package graph: what 'Enclosing' answers, in plain Lean. And: what holds in a larger snapshot's world holds in the smaller one's. -/
import Derived.Test.YtajmfdnmckbclaaG5
namespace Go.Sl
set_option linter.unusedSimpArgs false
set_option linter.unusedVariables false
theorem St.weaken {S S' : Snap} {M : List Chunk} {w : World} (h : S.Le S') (g : St S' M w) : St S M w := by
  refine ⟨?_, ?_, ?_, fun b o e => g.has b o (h.blk b o e), g.at_, fun d hd b hb => ?_, g.apart⟩
  · first | exact g.os.trans h.os.symm | exact g.os.trans h.os | (rw [h.os]; exact g.os)
  · first | exact g.tape.trans h.tape.symm | exact g.tape.trans h.tape | (rw [h.tape]; exact g.tape)
  · first | exact g.output.trans h.output.symm | exact g.output.trans h.output | (rw [h.output]; exact g.output)
  · have := g.out d hd b hb
    cases e : S.blk b with
    | none => rfl
    | some o => rw [h.blk b o e] at this; cases this
end Go.Sl
namespace Go.Proofs.Ytajmfdnmckbclaa
open Go.RowKit Go.Sl

/-- An enclosing point: none, or a point and one of its two sides. -/
def Encl (np : Nat) (p : Int × Int) : Prop := p = (-1, 0) ∨ (0 ≤ p.1 ∧ p.1 < np ∧ (p.2 = 1 ∨ p.2 = 2))

theorem visit_shape {nodes : List Nd} {np : Nat} : ∀ (f : Nat) (k : Int) (ar : Int × Int) (s : VS), Encl np ar → s.out.length = np ∧ (∀ p ∈ s.out, Encl np p) →
    (visit nodes f k ar s).out.length = np ∧ ∀ p ∈ (visit nodes f k ar s).out, Encl np p
  | 0, _, _, _, _, h => h
  | f + 1, k, ar, s, ha, h => by
    unfold visit
    split
    · exact h
    · rename_i nd hg
      refine foldl_keeps (p := fun s : VS => s.out.length = np ∧ ∀ p ∈ s.out, Encl np p) (fun t i ht => visit_shape f _ _ t ?_ ht) _ _ ?_
      · have hp : isPoint nd s = true → 0 ≤ nd.2.1 ∧ nd.2.1 < np := fun e => by
          simp only [isPoint, Bool.and_eq_true, decide_eq_true_eq, h.1] at e
          exact ⟨e.2.1, e.2.2.1⟩
        unfold inner
        split
        · rename_i c; exact .inr ⟨(hp c.1).1, (hp c.1).2, .inr rfl⟩
        · split
          · rename_i c; exact .inr ⟨(hp c.1).1, (hp c.1).2, .inl rfl⟩
          · exact ha
      · unfold Proofs.Ytajmfdnmckbclaa.enter
        split
        · refine ⟨by simpa using h.1, fun p hp => ?_⟩
          rcases List.mem_or_eq_of_mem_set hp with hp | rfl
          · exact h.2 p hp
          · exact ha
        · exact h

theorem encl_shape (nodes : List Nd) (root pts : Int) : (encl nodes root pts).length = npOf pts ∧ ∀ p ∈ encl nodes root pts, Encl (npOf pts) p :=
  visit_shape (nodes.length + 1) root (-1, 0) _ (.inl rfl) ⟨by simp, fun p hp => .inl (List.eq_of_mem_replicate hp)⟩
end Go.Proofs.Ytajmfdnmckbclaa
