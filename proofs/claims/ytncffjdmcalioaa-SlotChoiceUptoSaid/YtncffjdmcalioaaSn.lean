/- Package slot: how what comes in is read. -/
import Derived.Test.YtncffjdmcalioaaSc
import Derived.Test.YtncffjdmcalioaaSlW
namespace Go.Proofs.Ytncffjdmcalioaa
set_option linter.unusedSimpArgs false
set_option linter.unusedVariables false
open Go.RowKit Go.Sl Go.ChangeShapes Go.WideShapes Go.ChangeAt

instance op3 : Opens Try.prog 3 Int := opens_int (by kernel_rfl)
instance op5 : Opens Try.prog 5 UInt8 := opens_u8 (by kernel_rfl)
instance op9 : Opens Try.prog 9 Str := opens_str (by kernel_rfl)
instance op_sl : Opens Try.prog 23 TSl := opens_struct Try.underlying23 (by kernel_rfl)
  (openFs_cons rfl (by kernel_rfl) (ob := openFs_cons rfl (by kernel_rfl) (ob := openFs_cons rfl (by kernel_rfl) (ob := openFs_nil))))
instance op_arr : Opens Try.prog 24 (Arr TSl 2) := opens_array inferInstance (by kernel_rfl) (by kernel_rfl)
instance op_st : Opens Try.prog 26 TSt := opens_struct Try.underlying26 (by kernel_rfl) (openFs_cons rfl (by kernel_rfl) (ob := openFs_nil))
abbrev TMv := UInt8 × UInt8 × UInt8 × Unit
instance op_mv : Opens Try.prog 42 TMv := opens_struct Try.underlying42 (by kernel_rfl)
  (openFs_cons rfl (by kernel_rfl) (ob := openFs_cons rfl (by kernel_rfl) (ob := openFs_cons rfl (by kernel_rfl) (ob := openFs_nil))))
instance op_mvs : Opens Try.prog 40 (List TMv) := opens_list inferInstance inferInstance (by decide)

theorem own : ownKnob Try.prog.godebug = none := by kernel_rfl

theorem sl_cells {S : Snap} {cs : List Value} {p : TSl} (h : Rep.R S cs p) : ∃ x : Sx, cs = [.int .i64 x.s, .int .i64 x.v, .int .i64 x.t] ∧ x.big := by
  obtain ⟨a, b, c, u⟩ := p
  obtain ⟨c1, r1, e1, ⟨rfl, h1⟩, g1⟩ := prod_cells h
  obtain ⟨c2, r2, e2, ⟨rfl, h2⟩, g2⟩ := prod_cells g1
  obtain ⟨c3, r3, e3, ⟨rfl, h3⟩, g3⟩ := prod_cells g2
  obtain rfl : r3 = [] := g3
  subst e3; subst e2; subst e1
  exact ⟨⟨a, b, c⟩, rfl, h1, h2, h3⟩
theorem st_cells {S : Snap} {cs : List Value} {p : TSt} (h : Rep.R S cs p) : ∃ x y : Sx, cs = [.int .i64 x.s, .int .i64 x.v, .int .i64 x.t, .int .i64 y.s, .int .i64 y.v, .int .i64 y.t] ∧ x.big ∧ y.big := by
  obtain ⟨⟨l⟩, u⟩ := p
  obtain ⟨c1, r1, e1, ⟨hl, hR⟩, g1⟩ := prod_cells h
  obtain rfl : r1 = [] := g1
  obtain ⟨p, q, rfl⟩ : ∃ p q, l = [p, q] := by
    match l, hl with
    | [p, q], _ => exact ⟨p, q, rfl⟩
  obtain ⟨x, hx, bx⟩ := sl_cells (hR.at_ 0 (by simp))
  obtain ⟨y, hy, bY⟩ := sl_cells (hR.at_ 1 (by simp))
  refine ⟨x, y, ?_, bx, bY⟩
  have hlen : c1.length = 6 := hR.1
  rw [e1, List.append_nil, ← List.take_append_drop 3 c1]
  have e0 : c1.take 3 = [.int .i64 x.s, .int .i64 x.v, .int .i64 x.t] := hx
  have e3 : c1.drop 3 = [.int .i64 y.s, .int .i64 y.v, .int .i64 y.t] := by
    have : (c1.drop 3).take 3 = [.int .i64 y.s, .int .i64 y.v, .int .i64 y.t] := hy
    rwa [List.take_of_length_le (by simp; omega)] at this
  rw [e0, e3]
  rfl

theorem open_st {H : Type} {enc : TypeId × Value → H} {W : World} {base : Nat} {v : Value} {d : DataW H} {p : List MemPlace} (hv : Value.okWide Try.prog W .any base 26 v) (h : DataW.Trod enc Try.prog W 0 (fun _ => true) true 26 v d p) :
    ∃ x y : Sx, v = stV x y ∧ x.big ∧ y.big := by
  obtain ⟨cs, rfl, _⟩ := okWide_struct Try.underlying26 hv
  obtain ⟨y, hy, hs⟩ := open_arg (α := TSt) h
  obtain ⟨a, b, e, h1, h2⟩ := st_cells hy
  have e' : cs = #[.int .i64 a.s, .int .i64 a.v, .int .i64 a.t, .int .i64 b.s, .int .i64 b.v, .int .i64 b.t] := by
    apply Array.ext'
    exact e
  subst e'
  exact ⟨a, b, rfl, h1, h2⟩

/-- A string that came in. -/
theorem open_s {H : Type} {enc : TypeId × Value → H} {W : World} {base : Nat} {v : Value} {d : DataW H} {p : List MemPlace} (hv : Value.okWide Try.prog W .any base 9 v) (h : DataW.Trod enc Try.prog W 0 (fun _ => true) true 9 v d p) (hk : Rows.uptoBulk d ≤ 1048576) :
    ∃ s : List UInt8, v = .string ⟨s.toArray⟩ ∧ s.length ≤ 1048576 := by
  obtain ⟨s, rfl⟩ := okWide_string Try.underlying9 hv
  obtain ⟨y, ⟨e, _⟩, hs⟩ := open_arg (α := Str) h
  have e' : s = ⟨y.b.toArray⟩ := by simpa [Value.cells] using e
  subst e'
  exact ⟨y.b, rfl, by simp only [Siz.siz] at hs; omega⟩

theorem open_mvs {H : Type} {enc : TypeId × Value → H} {W : World} {base : Nat} {v : Value} {d : DataW H} {p : List MemPlace} (hv : Value.okWide Try.prog W .any base 40 v) (h : DataW.Trod enc Try.prog W 0 (fun _ => true) true 40 v d p) :
    ∃ xs : List TMv, RSl (snapOf W) v xs := by
  obtain ⟨a, n, c, rfl⟩ := okWide_slice Try.underlying40 hv
  obtain ⟨y, ⟨v', e, hy⟩, hs⟩ := open_arg (α := List TMv) h
  obtain rfl : v' = .slice a n c := by simpa [Value.cells] using e.symm
  exact ⟨y, hy⟩
end Go.Proofs.Ytncffjdmcalioaa
