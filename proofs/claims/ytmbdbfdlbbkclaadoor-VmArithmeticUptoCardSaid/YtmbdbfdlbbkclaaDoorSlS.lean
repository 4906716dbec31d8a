/- Parts of arrays that are data. General over the program. -/
import Derived.Test.YtmbdbfdlbbkclaaDoorSlJ
namespace Go.Sl
set_option linter.unusedSimpArgs false
set_option linter.unusedVariables false
open Go.RowKit
/-- A part of an array that is data. -/
theorem qt_arrSliceP {P : Program} {S : Snap} {M : List Chunk} {l : List Value} {α : Type} [Rep α] {T E : TypeId} {n : Nat} {x : Operand} {lo hi : Option Operand} {agg : Bool} {zero : List Value} {bb : Nat} {p : Value} {y : Arr α n} {a b : Nat} (hx : evF l x = p) (hp : Pt S p y) (hT : ArrT P T n E) (hE : Ty P E agg (Rep.z α) zero bb)
    (hl : Bd (lo.map (evF l)) 0 a) (hh : Bd (hi.map (evF l)) n b) (h1 : a ≤ b) (h2 : b ≤ n) (hn : n ≤ maxLen) : ∃ v, RSl S v ((y.l.drop a).take (b - a)) ∧ Qt P l (.slice T x lo hi none) S M v := by
  obtain ⟨b0, o, c, B, fz, rfl, hb, hR⟩ := hp
  have hyl : y.l.length = n := hR.1
  have hRL : RL S ((c.toList.drop o).take (y.l.length * Rep.z α)) y.l := by rw [hyl]; exact hR.2
  have hv : RSl S (.slice (some ⟨b0, o, none⟩) n n) y.l := .inr ⟨b0, o, n, c, B, fz, by rw [hyl], hb, by omega, by omega, hRL⟩
  have hs := hv.sub rfl a b n h1 (by omega) (by omega) (Nat.le_refl _)
  refine ⟨_, hs, fun dst ty pos af w hst => ?_⟩
  have e1 : (Instr.sureAddr (.pointer (some ⟨b0, o, none⟩))).run P w = .ok ⟨b0, o, none⟩ w := rfl
  have e2 := run_bounds (P := P) (w := w) (lo := lo.map (evF l)) (hi := hi.map (evF l)) (mx := none) (len := n) (cap := n) (a := a) (b := b) (m := n) hl hh (.inl ⟨rfl, rfl⟩) h1 h2 (Nat.le_refl _) (by simp) false
  have e3 : (if n = a then some (⟨b0, o, none⟩ : Addr) else Option.map (fun x : Addr => x.add (a * Rep.z α)) (some ⟨b0, o, none⟩)) = some (if n = a then ⟨b0, o, none⟩ else (⟨b0, o, none⟩ : Addr).add (a * Rep.z α)) := by split <;> rfl
  rw [e3]
  simp only [execOp, hx, Instr.sliceAt, Sem.run_bind, run_underlying hT.u, Result.andThen_ok, e1, e2, hE.run_sizeOf, Sem.run_pure, Option.map_none]

theorem t_ex0 {P : Program} {lo : List Oper} {Q : Exit → Act → World → Prop} {S : Snap} {M : List Chunk} {f : Nat} {bs : List Bool} {l : List Value} {D : List Deferred} {o : Oper} (k : Nat) {F : Value → Prop} (ho : lo[k]? = some o) (hok : takeOk lo bs k = true) (hns : isSt o = false) (hw : Region.wanted o (yielded lo.toArray l.toArray) = true)
    (hq : ∃ v, F v ∧ Qt P l o.op S M v) (h : ∀ v, F v → AnyV P lo Q f S M (bs.set k true) (putD l o.dst v) D) : AnyV P lo Q (f + 1) S M bs l D := let ⟨v, hv, q⟩ := hq; t_qt k ho hok hns hw q (h v hv)
/-! ### Bytes of a known length in a box -/
class LenIs (bs : List UInt8) (n : Nat) : Prop where
  h : bs.length = n
section
variable {P : Program} {S : Snap} {M : List Chunk} {l : List Value} {ops : Array Oper} {rest : List Oper} {Q : Exit → Act → World → Prop} {D : List Deferred} {w : World} {ty : TypeId} {pos : String} {af : Array Edge}
theorem cells_size1 {v : Value} (h : v.oneCell' = true) : v.cells.size = 1 := by
  have := congrArg List.length (cells_one h)
  simpa using this
theorem qt_loadD {T B : TypeId} {x : Operand} {zero : List Value} {z bb b k : Nat} {bs : List UInt8} (hx : evF l x = .pointer (some ⟨b, 0, none⟩)) (hk : M[k]? = some (.box b (u8s bs) B)) (hT : Ty P T true z zero bb) (hl : LenIs bs z) : Qt P l (.load T x) S M (.agg (u8s bs).toArray) :=
  qt_loadA hx hk hT (by rw [u8s_length, hl.h])
theorem s_stD {T B : TypeId} {x y : Operand} {zero c : List Value} {z bb b k : Nat} {bs : List UInt8} (hst : St S M w) (hx : evF l x = .pointer (some ⟨b, 0, none⟩)) (hk : M[k]? = some (.box b c B)) (hT : Ty P T true z zero bb) (hy : evF l y = .agg (u8s bs).toArray) (hl : LenIs bs z) (hc : c.length = z)
    (h : ∀ w', St S (M.set k (.box b (u8s bs) B)) w' → wpList P ops Q rest ⟨l.toArray, D⟩ w') : wpList P ops Q (⟨none, .store T x y, ty, pos, af, none⟩ :: rest) ⟨l.toArray, D⟩ w := by
  have hb := hl.h
  refine s_store hst hx k hk hT hy (cs := u8s bs) rfl (by rw [u8s_length, hb]) (List.all_eq_true.2 (u8s_one _)) (by omega) fun w' h' => h w' ?_
  rw [List.take_zero, List.nil_append, List.drop_of_length_le (by omega), List.append_nil] at h'
  exact h'
/-- The length of what a box holds. -/
theorem lenX {c : List Value} {z : Nat} (h : c.length = z := by first | (with_unfolding_all exact rfl) | (rw [u8s_length]; exact LenIs.h)) : c.length = z := h
theorem ret_D {fn : Func} {R : Ending → World → Prop} {a : Tmp} {T : TypeId} {z : Nat} {zero : List Value} {bb : Nat} {b : Nat} {bs : List UInt8} {B : TypeId} {k : Nat} (hr : fn.results = #[.cell a T]) (hst : St S M w) (hx : nth l a = .pointer (some ⟨b, 0, none⟩)) (hk : M[k]? = some (.box b (u8s bs) B))
    (hT : Ty P T true z zero bb) (hl : LenIs bs z) (hR : R (.returned (.agg (u8s bs).toArray)) w) : bodyPost P fn R .ret ⟨l.toArray, []⟩ w :=
  ret_cell hr hst hx k hk hT (cs := u8s bs) (by rw [List.drop_zero, List.take_of_length_le (by rw [u8s_length, hl.h]; exact Nat.le_refl _)]) (by rw [u8s_length, hl.h]) hR
/-- A store whose place and value are as usual; which rule holds is tried in turn. -/
theorem rv_D {a : Tmp} {T : TypeId} {z : Nat} {zero : List Value} {bb : Nat} {b : Nat} {bs : List UInt8} {B : TypeId} {k : Nat} (hst : St S M w) (hx : nth l a = .pointer (some ⟨b, 0, none⟩)) (hk : M[k]? = some (.box b (u8s bs) B))
    (hT : Ty P T true z zero bb) (hl : LenIs bs z) : RVar P l w (.cell a T) (.agg (u8s bs).toArray) :=
  rv_cell (cs := u8s bs) hst hx k hk hT (by rw [List.drop_zero, List.take_of_length_le (by rw [u8s_length, hl.h]; exact Nat.le_refl _)]) (by rw [u8s_length, hl.h])
end
end Go.Sl
