/- Package wire: how what comes in is read. -/
import Derived.Test.YtphobngmankpeaaV9
import Derived.Test.YtphobngmankpeaaSlW
namespace Go.Proofs.Ytphobngmankpeaa
set_option linter.unusedSimpArgs false
set_option linter.unusedVariables false
open Go.RowKit Go.Sl Go.ChangeShapes Go.WideShapes Go.ChangeAt

instance op3 : Opens Try.prog 3 Int := opens_int (by kernel_rfl)
instance op5 : Opens Try.prog 5 UInt8 := opens_u8 (by kernel_rfl)
instance op9 : Opens Try.prog 9 Str := opens_str (by kernel_rfl)
instance op22 : Opens Try.prog 22 (List Int) := opens_list (sl22) (ty3) (by decide)
instance op26 : Opens Try.prog 26 (List UInt8) := opens_list (sl26) (ty5) (by decide)
instance op51 : Opens Try.prog 51 Dg := opens_array (arr51) (by kernel_rfl) (by kernel_rfl)
instance op23 : Opens Try.prog 23 (List Dg) := opens_list (sl23) (ty51) (by decide)

theorem own : ownKnob Try.prog.godebug = none := by kernel_rfl

theorem sum_ge {α : Type} [Siz α] {xs : List α} (h : ∀ x ∈ xs, 1 ≤ Siz.siz x) : xs.length ≤ (xs.map Siz.siz).sum := by
  induction xs with
  | nil => simp
  | cons a l ih =>
    have := ih fun x hx => h x (.tail _ hx)
    have := h a (.head _)
    simp only [List.length_cons, List.map_cons, List.sum_cons]; omega

theorem open_l {α : Type} [Rep α] [Siz α] {T E : TypeId} [Opens Try.prog T (List α)] (hT : Try.prog.underlying T = some (.slice E)) {H : Type} {enc : TypeId × Value → H} {W : World} {base : Nat} {v : Value} {d : DataW H} {p : List MemPlace} (hv : Value.okWide Try.prog W .any base T v) (h : DataW.Trod enc Try.prog W 0 (fun _ => true) true T v d p) :
    ∃ xs : List α, RSl (snapOf W) v xs ∧ (xs.map Siz.siz).sum + 1 ≤ Rows.uptoBulk d := by
  obtain ⟨a, n, c, rfl⟩ := okWide_slice hT hv
  obtain ⟨y, ⟨v', e, hy⟩, hs⟩ := open_arg (α := List α) h
  obtain rfl : v' = .slice a n c := by simpa [Value.cells] using e.symm
  exact ⟨y, hy, hs⟩

theorem open_l22 {H : Type} {enc : TypeId × Value → H} {W : World} {base : Nat} {v : Value} {d : DataW H} {p : List MemPlace} (hv : Value.okWide Try.prog W .any base 22 v) (h : DataW.Trod enc Try.prog W 0 (fun _ => true) true 22 v d p) (hk : Rows.uptoBulk d ≤ 1048576) :
    ∃ xs : List Int, RSl (snapOf W) v xs ∧ xs.length ≤ 1048576 := by
  obtain ⟨xs, hx, hs⟩ := open_l (α := Int) Try.underlying22 hv h
  have := sum_ge (xs := xs) fun x _ => Nat.le_refl _
  exact ⟨xs, hx, by omega⟩
theorem open_l26 {H : Type} {enc : TypeId × Value → H} {W : World} {base : Nat} {v : Value} {d : DataW H} {p : List MemPlace} (hv : Value.okWide Try.prog W .any base 26 v) (h : DataW.Trod enc Try.prog W 0 (fun _ => true) true 26 v d p) (hk : Rows.uptoBulk d ≤ 1048576) :
    ∃ xs : List UInt8, RSl (snapOf W) v xs ∧ xs.length ≤ 1048576 := by
  obtain ⟨xs, hx, hs⟩ := open_l (α := UInt8) Try.underlying26 hv h
  have := sum_ge (xs := xs) fun x _ => Nat.le_refl _
  exact ⟨xs, hx, by omega⟩
end Go.Proofs.Ytphobngmankpeaa
