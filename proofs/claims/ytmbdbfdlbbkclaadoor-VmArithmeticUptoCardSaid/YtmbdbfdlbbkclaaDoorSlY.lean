/- Arrays sliced, slices taken for arrays, an array's bytes appended. General over the program. -/
import Derived.Test.YtmbdbfdlbbkclaaDoorSlX
namespace Go.Sl
set_option linter.unusedSimpArgs false
set_option linter.unusedVariables false
open Go.RowKit
variable {P : Program} {S : Snap} {M : List Chunk} {l : List Value} {ops : Array Oper} {rest : List Oper} {Q : Exit → Act → World → Prop} {D : List Deferred} {w : World} {ty : TypeId} {pos : String} {af : Array Edge} {d : Tmp}

theorem qt_arrSlice {T E : TypeId} {n : Nat} {x : Operand} {agg : Bool} {z : Nat} {zero : List Value} {bb b : Nat} (hx : evF l x = .pointer (some ⟨b, 0, none⟩)) (hT : ArrT P T n E) (hE : Ty P E agg z zero bb) :
    Qt P l (.slice T x none none none) S M (.slice (some ⟨b, 0, none⟩) n n) := fun dst ty pos af w hst => by
  have h1 : (Instr.sureAddr (.pointer (some ⟨b, 0, none⟩))).run P w = .ok ⟨b, 0, none⟩ w := rfl
  have h2 := run_bounds (P := P) (w := w) (lo := none) (hi := none) (mx := none) (len := n) (cap := n) (a := 0) (b := n) (m := n) (.inl ⟨rfl, rfl⟩) (.inl ⟨rfl, rfl⟩) (.inl ⟨rfl, rfl⟩) (Nat.zero_le _) (Nat.le_refl _) (Nat.le_refl _) (by simp) false
  simp [execOp, hx, Instr.sliceAt, run_underlying hT.u, hE.run_sizeOf, h1, h2, Addr.add]

theorem s_append_box {k j b : Nat} {x y : Operand} {v : Value} {t tx E e' B : TypeId} {agg : Bool} {z n m : Nat} {zero c c' : List Value} {bb : Nat} (hst : St S M w) (hx : evF l x = v) (hy : evF l y = .slice (some ⟨b, 0, none⟩) m m) (hk : M[k]? = some (.sl v E z n c)) (hj : M[j]? = some (.box b c' B))
    (hT : SlT P t E) (hE : Ty P E agg z zero bb) (hU : SlT P tx e') (hl : c'.length = m * z) (h1 : ∀ q ∈ c', q.oneCell' = true) (hb : (n + m) * bb ≤ 140737488355328) (hm : n + m ≤ 140737488355328) (hz : 0 < z)
    (h : ∀ v' w', St S ((M.set k (.sl v' E z (n + m) (c ++ c')))) w' → wpList P ops Q rest ⟨(l.set d v').toArray, D⟩ w') :
    wpList P ops Q (⟨some d, .call { callee := .builtin .append, args := #[x, y], argTypes := #[t, tx] }, ty, pos, af, none⟩ :: rest) ⟨l.toArray, D⟩ w := by
  have hs : Src P z tx (.slice (some ⟨b, 0, none⟩) m m) m c' w := by
    refine Src.ofSlice w hU.u _ _ _ _ hl (fun j u hu => ?_) h1
    have hg : w.heap[b]? = some (.cells c'.toArray B (0, 0)) := hst.get hj
    rw [Addr.add_mid, Nat.zero_add]
    simp only [World.cell?, hg]
    simpa using hu
  obtain ⟨v', w', hr, hst'⟩ := run_append (P := P) (ty := ty) hst hk hT hE hs hb hm hz
  refine step_value ?_ (h v' w' hst')
  simp [execOp, resolve, invoke, builtin, hx, hy, hr]

variable {α : Type} [Rep α]
theorem qt_arrayAt {T E : TypeId} {n : Nat} {x : Operand} {v : Value} {xs : List α} (hx : evF l x = v) (hv : RSl S v xs) (hT : ArrT P T n E) (hn : xs.length = n) (h0 : 0 < n) :
    ∃ p, Pt S p (⟨xs⟩ : Arr α n) ∧ Qt P l (.sliceToArrayPointer T x) S M p := by
  rcases hv with ⟨ad, cap, rfl, rfl, _⟩ | ⟨b, o, cap, c, TT, fz, rfl, hb, hc, hm, hRL⟩
  · simp at hn; omega
  · subst hn
    refine ⟨.pointer (some ⟨b, o, none⟩), ⟨b, o, c, TT, fz, rfl, hb, rfl, hRL.1, hRL.2⟩, fun dst ty pos af w hst => ?_⟩
    simp [execOp, hx, Instr.arrayAt, run_underlying hT.u]

class StrT (P : Program) (T : TypeId) : Prop where
  u : P.underlying T = some .string
theorem qt_len_str {T : TypeId} {x : Operand} {b : List UInt8} (hx : evF l x = .string ⟨b.toArray⟩) (hT : StrT P T) : Qt P l (.call { callee := .builtin .len, args := #[x], argTypes := #[T] }) S M (.int .i64 (b.length : Nat)) := fun dst ty pos af w hst => by
  simp [execOp, resolve, invoke, builtin, hx, Builtin.len_, run_underlying hT.u, goInt]
  rfl
theorem u8s_one (b : List UInt8) : ∀ q ∈ u8s b, q.oneCell' = true := by
  intro q hq
  simp only [u8s, List.mem_map] at hq
  obtain ⟨x, _, rfl⟩ := hq
  rfl
theorem u8s_length (b : List UInt8) : (u8s b).length = b.length := by simp [u8s]
end Go.Sl
