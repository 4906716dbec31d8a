/- Fields of own boxes stored, what they hold not flat. General over the program. -/
import Derived.Test.YtmbdbfdlbbkclaaDoorSlPu
namespace Go.Sl
set_option linter.unusedSimpArgs false
set_option linter.unusedVariables false
open Go.RowKit
section
variable {P : Program} {S : Snap} {M : List Chunk} {l : List Value} {α β : Type} [Rep α] [Rep β] {ops : Array Oper} {rest : List Oper} {Q : Exit → Act → World → Prop} {D : List Deferred} {w : World} {ty : TypeId} {pos : String} {af : Array Edge} {d : Tmp}
/-- A field of an own box stored. -/
theorem s_stP {T B : TypeId} {x y : Operand} {agg : Bool} {zero : List Value} {bb b off off' : Nat} (kf : Nat) {k : Nat} {get : α → β} {put : α → β → α} {x0 : α} {y0 : β} {c cs : List Value} (hst : St S M w) (hx : evF l x = .pointer (some ⟨b, off, none⟩)) (hk : M[k]? = some (.box b c B))
    (i : HasF α kf β off' get put) (ho : off = off') (h0 : Rep.R S c x0) (hT : Ty P T agg (Rep.z β) zero bb) (hy : evF l y = vOf agg cs) (hR : Rep.R S cs y0) (ha : agg = false → Rep.z β = 1)
    (h : ∀ w' c', Rep.R S c' (put x0 y0) → St S (M.set k (.box b c' B)) w' → wpList P ops Q rest ⟨l.toArray, D⟩ w') :
    wpList P ops Q (⟨none, .store T x y, ty, pos, af, none⟩ :: rest) ⟨l.toArray, D⟩ w := by
  subst ho
  have hl := Rep.len hR
  have hb := i.le
  have hl0 := Rep.len h0
  have h1 : cs.all (·.oneCell') = true := List.all_eq_true.2 (Rep.one hR)
  have hw := i.wr h0 hR
  have hc : (vOf agg cs).cells.toList = cs := by
    cases agg with
    | true => rfl
    | false =>
      have : cs.length = 1 := by rw [hl, ha rfl]
      obtain ⟨v, rfl⟩ := List.length_eq_one_iff.1 this
      have hv : v.oneCell' = true := Rep.one hR v (by simp)
      exact cells_one hv
  refine s_store hst hx k hk hT hy (cs := cs) hc hl h1 (by omega) fun w' hst' => ?_
  exact h w' _ hw hst'
end
end Go.Sl
