/- Package graph: how a program is read; the statement GraphTree. -/
import Derived.Test.YtajmfdnmckbclaaG15
import Derived.Test.YtajmfdnmckbclaaSlW
namespace Go.Proofs.Ytajmfdnmckbclaa
set_option linter.unusedSimpArgs false
set_option linter.unusedVariables false
open Go.RowKit Go.Sl Go.ChangeShapes Go.WideShapes Go.ChangeAt

instance op3 : Opens Try.prog 3 Int := opens_int (by kernel_rfl)
instance op5 : Opens Try.prog 5 UInt8 := opens_u8 (by kernel_rfl)
instance op9 : Opens Try.prog 9 Str := opens_str (by kernel_rfl)
instance op31 : Opens Try.prog 31 (List Int) := opens_list (sl31) (ty3) (by decide)
instance op41 : Opens Try.prog 41 Nd := opens_struct Try.underlying41 (by kernel_rfl)
  (openFs_cons rfl (by kernel_rfl) (ob := openFs_cons rfl (by kernel_rfl) (ob := openFs_cons rfl (by kernel_rfl) (ob := openFs_cons rfl (by kernel_rfl) (ob := openFs_nil)))))
instance op69 : Opens Try.prog 69 (Str × Int × Int × Int × Unit) := opens_struct Try.underlying69 (by kernel_rfl)
  (openFs_cons rfl (by kernel_rfl) (ob := openFs_cons rfl (by kernel_rfl) (ob := openFs_cons rfl (by kernel_rfl) (ob := openFs_cons rfl (by kernel_rfl) (ob := openFs_nil)))))
instance op23 : Opens Try.prog 23 (List Nd) := opens_list (sl23) (ty41) (by decide)
instance op22 : Opens Try.prog 22 (List (Str × Int × Int × Int × Unit)) := opens_list (sl22) (ty69) (by decide)
abbrev Pg := List (Str × Int × Int × Int × Unit) × List Nd × Int × Int × Unit
instance op25 : Opens Try.prog 25 Pg := opens_struct Try.underlying25 (by kernel_rfl)
  (openFs_cons rfl (by kernel_rfl) (ob := openFs_cons rfl (by kernel_rfl) (ob := openFs_cons rfl (by kernel_rfl) (ob := openFs_cons rfl (by kernel_rfl) (ob := openFs_nil)))))

theorem pg_cells {S : Snap} {cs : List Value} {p : Pg} (h : Rep.R S cs p) : ∃ vi vn, cs = [vi, vn, .int .i64 p.2.2.1, .int .i64 p.2.2.2.1] ∧ RSl S vi p.1 ∧ RSl S vn p.2.1 ∧ I64 p.2.2.1 ∧ I64 p.2.2.2.1 := by
  obtain ⟨i, n, r, k, u⟩ := p
  obtain ⟨c1, r1, e1, ⟨v1, rfl, h1⟩, g1⟩ := prod_cells h
  obtain ⟨c2, r2, e2, ⟨v2, rfl, h2⟩, g2⟩ := prod_cells g1
  obtain ⟨c3, r3, e3, ⟨rfl, i3⟩, g3⟩ := prod_cells g2
  obtain ⟨c4, r4, e4, ⟨rfl, i4⟩, g4⟩ := prod_cells g3
  obtain rfl : r4 = [] := g4
  subst e4; subst e3; subst e2; subst e1
  exact ⟨v1, v2, rfl, h1, h2, i3, i4⟩

theorem own : ownKnob Try.prog.godebug = none := by kernel_rfl

/-- A program that came in. -/
theorem open_pg {H : Type} {enc : TypeId × Value → H} {W : World} {base : Nat} {v : Value} {d : DataW H} {p : List MemPlace} (hv : Value.okWide Try.prog W .any base 25 v) (h : DataW.Trod enc Try.prog W 0 (fun _ => true) true 25 v d p) (hk : Rows.uptoBulk d ≤ 1048576) :
    ∃ (vi vn : Value) (root pts : Int) (ins : List (Str × Int × Int × Int × Unit)) (nodes : List Nd), v = .agg #[vi, vn, .int .i64 root, .int .i64 pts] ∧ RSl (snapOf W) vi ins ∧ RSl (snapOf W) vn nodes ∧ nodes.length ≤ 140737488355328 ∧ I64 root ∧ I64 pts := by
  obtain ⟨cs, rfl, _⟩ := okWide_struct Try.underlying25 hv
  obtain ⟨y, hy, hs⟩ := open_arg (α := Pg) h
  obtain ⟨vi, vn, e, h1, h2, h3, h4⟩ := pg_cells hy
  have e' : cs = #[vi, vn, .int .i64 y.2.2.1, .int .i64 y.2.2.2.1] := by
    apply Array.ext'
    exact e
  subst e'
  refine ⟨vi, vn, _, _, y.1, y.2.1, rfl, h1, h2, ?_, h3, h4⟩
  have : y.2.1.length ≤ (y.2.1.map Siz.siz).sum := by
    generalize y.2.1 = l
    induction l with
    | nil => simp
    | cons a l ih => simp only [List.length_cons, List.map_cons, List.sum_cons]; have : 1 ≤ Siz.siz a := by simp only [Siz.siz]; omega
                     omega
  simp only [Siz.siz] at hs this
  omega

/-- WHAT THE WALK GIVES. -/
theorem tree_post (H : Type) (enc : TypeId × Value → H) (W : World) (base : Nat) (args : Array Value) (ds gs : List (DataW H)) (before : List MemPlace)
    (hval : ∀ (j : Nat) t v, Try.f3.params[j]? = some t → args[j]? = some v → Value.okWide Try.prog W .any base t v)
    (hW : DataW.Whole enc Try.prog Try.f3.params.toList Rows.graphTreeSpec.vars false W args.toList ds gs before) (hk : Rows.uptoSmall H (ds ++ gs) = true) :
    Calls Try.prog 3 args W fun e W' => ∃ v, e = .returned v ∧ Rows.graphTreeSpec.post enc Try.prog Try.f3 false true false false W args v W' := by
  have hW' := hW
  obtain ⟨p, q, hA0, hV, rfl, hfz, hnd⟩ := hW
  have hA : DataW.TrodAll enc Try.prog W 0 (fun _ => true) true Try.f3.params.toList args.toList ds p := hA0
  have hk := small_all hk
  rw [Try.params3] at hA hval
  obtain ⟨v0, vs0, d0, ds0, p0, q0, hargs, rfl, rfl, h0, r0⟩ := trodAll_cons hA
  obtain ⟨rfl, rfl, rfl⟩ := trodAll_nil r0
  obtain rfl : args = #[v0] := by cases args; simp_all
  obtain ⟨rfl, rfl⟩ := trodVars_none hV
  simp only [List.append_nil, Rows.uptoBulkAll] at hk
  obtain ⟨vi, vn, root, pts, ins, nodes, rfl, hi, hn, hnn, hr, hp⟩ := open_pg (hval 0 25 v0 rfl rfl) h0 (by omega)
  refine Calls.mono (tree_c W (St.start W) vi vn root pts ins nodes hi hn hnn hr hp) fun e W' ⟨v, he, hv, hst⟩ => ?_
  subst hv
  exact ⟨_, he, law_post (tb := 4) rfl hW' (by kernel_rfl) (by rw [Try.params3]; simp only [List.mem_singleton]; rintro t rfl; exact ⟨by kernel_rfl, of_decide_eq_true (by kernel_rfl)⟩) (by kernel_rfl) (by kernel_rfl) rfl rfl rfl hst.below⟩

set_option maxRecDepth 100000 in
theorem tree_lifted (os : Os) (started : os.Started) (H : Type) (enc : TypeId × Value → H) (F : Stop.Interp) :
    ReturnsInHanded {} Try.checked os 3 .any ((Rows.OpenSpec.upto Rows.graphTreeSpec).pre6 enc Try.prog Try.f3 Rows.graphTreeUptoRow.domain false) (((Rows.OpenSpec.upto Rows.graphTreeSpec).at F).post enc Try.prog Try.f3 false true false false) := by
  refine returnsInHanded_of_cond (C := Try.checked) (s := Rows.OpenSpec.upto Rows.graphTreeSpec) (k := Rows.uptoSmall) rfl own started (by kernel_rfl) Try.func3
    (OpenSpec.witness (enc := enc) (C := Try.checked) (s := Rows.OpenSpec.upto Rows.graphTreeSpec) (k := Rows.uptoSmall) rfl false ⟨#[], #[.agg #[.slice none 0 0, .slice none 0 0, .int .i64 0, .int .i64 0]], []⟩ 8 (by kernel_rfl) (by kernel_rfl) (by kernel_rfl)
      (x := ([.agg [.nil, .nil, .lit (.int .i64 0), .lit (.int .i64 0)]], [], [])) (by kernel_rfl) rfl (by kernel_rfl)) ?_
  intro W base args ds gs before hval hW _ hk _
  exact tree_post H enc W base args ds gs before hval hW hk

theorem tree_proved : Rows.GraphTreeUptoSaid :=
  OpenClaim.holds_of_cond 3 Try.f3 rfl rfl rfl rfl rfl rfl rfl ⟨rfl, rfl, rfl, rfl, rfl⟩ rfl rfl rfl rfl rfl (by kernel_rfl) Try.func3 (by kernel_rfl)
    (of_decide_eq_true (by kernel_rfl)) (by unfold Func.isWrapper; first | (rw [if_pos (by decide +kernel)]; kernel_rfl) | (rw [if_neg (by decide +kernel)]; exact ⟨rfl, rfl⟩))
    (fun os started H enc _ F => tree_lifted os started H enc F)
end Go.Proofs.Ytajmfdnmckbclaa
