/- Package vm: how code, lists of numbers and the laws' structs are read. -/
import Derived.Test.YtmbdbfdlbbkclaaDoorUo
namespace Go.Proofs.YtmbdbfdlbbkclaaDoor
set_option linter.unusedSimpArgs false
set_option linter.unusedVariables false
open Go.RowKit Go.Sl Go.ChangeShapes Go.WideShapes Go.ChangeAt

/-- A number of two bytes, as it lies. -/
structure W16 where
  n : Nat
instance : Rep W16 where
  z := 1
  agg := false
  R _ cs x := cs = [.int .u16 (x.n : Int)] ∧ x.n ≤ 65535
  mono _ h := h
  len h := by rw [h.1]; rfl
  one h := by rw [h.1]; intro u hu; simp at hu; subst hu; rfl
  z1 _ := rfl
instance : Siz W16 := ⟨fun _ => 1⟩
theorem opens_w16 {P : Program} {T : TypeId} (h : P.underlying T = some (.int .u16)) : Opens P T W16 := ⟨fun hx => by
  obtain ⟨n, rfl, rfl, hw⟩ := DataW.trod_int h hx
  have : 0 ≤ n ∧ n ≤ 65535 := by simpa [Lit.wf, IntKind.min, IntKind.max, IntKind.signed, IntKind.bits] using hw
  refine ⟨⟨n.toNat⟩, ⟨?_, by show n.toNat ≤ 65535; omega⟩, by simp [Rows.uptoBulk, Siz.siz]⟩
  show [Value.int .u16 n] = [Value.int .u16 ((n.toNat : Nat) : Int)]
  rw [Int.toNat_of_nonneg this.1]⟩

abbrev GIn := CodeD × List Int × List Int × W16 × Unit
abbrev UIn := CodeD × List InsD × UInt8 × List Int × List Int × Unit
instance opI : Opens Tryd.prog 3 Int := opens_int (by kernel_rfl)
instance opB : Opens Tryd.prog 5 UInt8 := opens_u8 (by kernel_rfl)
instance opW : Opens Tryd.prog 34 W16 := opens_w16 (by kernel_rfl)
instance opLI : Opens Tryd.prog 25 (List Int) := opens_list (sl25) (ty3) (by decide)
instance opIns : Opens Tryd.prog 42 InsD := opens_struct Tryd.underlying42 (by kernel_rfl)
  (openFs_cons rfl (by kernel_rfl) (ob := openFs_cons rfl (by kernel_rfl) (ob := openFs_cons rfl (by kernel_rfl) (ob := openFs_nil))))
instance opLIns : Opens Tryd.prog 22 (List InsD) := opens_list (sl22) (ty42) (by decide)
instance opCode : Opens Tryd.prog 24 CodeD := opens_struct Tryd.underlying24 (by kernel_rfl)
  (openFs_cons rfl (by kernel_rfl) (ob := openFs_cons rfl (by kernel_rfl) (ob := openFs_cons rfl (by kernel_rfl) (ob := openFs_nil))))
instance opGIn : Opens Tryd.prog 36 GIn := opens_struct Tryd.underlying36 (by kernel_rfl)
  (openFs_cons rfl (by kernel_rfl) (ob := openFs_cons rfl (by kernel_rfl) (ob := openFs_cons rfl (by kernel_rfl) (ob := openFs_cons rfl (by kernel_rfl) (ob := openFs_nil)))))
instance opUIn : Opens Tryd.prog 39 UIn := opens_struct Tryd.underlying39 (by kernel_rfl)
  (openFs_cons rfl (by kernel_rfl) (ob := openFs_cons rfl (by kernel_rfl) (ob := openFs_cons rfl (by kernel_rfl) (ob := openFs_cons rfl (by kernel_rfl) (ob := openFs_cons rfl (by kernel_rfl) (ob := openFs_nil))))))

theorem sum_ge {α : Type} [Siz α] {xs : List α} (h : ∀ x ∈ xs, 1 ≤ Siz.siz x) : xs.length ≤ (xs.map Siz.siz).sum := by
  induction xs with
  | nil => simp
  | cons a l ih =>
    have := ih fun x hx => h x (.tail _ hx)
    have := h a (.head _)
    simp only [List.length_cons, List.map_cons, List.sum_cons]; omega
theorem siz_ints (xs : List Int) : xs.length + 1 ≤ Siz.siz xs := by
  have := sum_ge (xs := xs) fun x _ => Nat.le_refl 1
  show xs.length + 1 ≤ (xs.map Siz.siz).sum + 1
  omega
theorem siz_ins (xs : List InsD) : xs.length + 1 ≤ Siz.siz xs := by
  have := sum_ge (xs := xs) fun x _ => by show 1 ≤ 1 + (1 + (1 + 0)); omega
  show xs.length + 1 ≤ (xs.map Siz.siz).sum + 1
  omega
theorem siz_prod {α β : Type} [Siz α] [Siz β] (x : α × β) : Siz.siz x = Siz.siz x.1 + Siz.siz x.2 := rfl
theorem prod_inv {α β : Type} [Rep α] [Rep β] {S : Snap} {cs : List Value} {x : α × β} (h : Rep.R S cs x) : ∃ a b, cs = a ++ b ∧ Rep.R S a x.1 ∧ Rep.R S b x.2 :=
  ⟨_, _, (List.take_append_drop _ cs).symm, h.2.1, h.2.2⟩
theorem code_cells {S : Snap} {cs : List Value} {c : CodeD} (h : Rep.R S cs c) : ∃ vi, cs = [vi, .int .i64 c.2.1, .int .i64 c.2.2.1] ∧ RSl S vi c.1 := by
  obtain ⟨a, b, rfl, ⟨vi, rfl, h1⟩, k1⟩ := prod_inv h
  obtain ⟨a, b, rfl, ⟨rfl, _⟩, k2⟩ := prod_inv k1
  obtain ⟨a, b, rfl, ⟨rfl, _⟩, rfl⟩ := prod_inv k2
  exact ⟨vi, rfl, h1⟩

set_option maxRecDepth 20000 in
theorem open_is {H : Type} {enc : TypeId × Value → H} {W : World} {base : Nat} {v : Value} {d : DataW H} {p : List MemPlace} (hv : Value.okWide Tryd.prog W .any base 25 v) (h : DataW.Trod enc Tryd.prog W 0 (fun _ => true) true 25 v d p) (hk : Rows.uptoBulk d ≤ 1048576) :
    ∃ xs : List Int, RSl (snapOf W) v xs ∧ xs.length ≤ 1048576 := by
  obtain ⟨a, n, c, rfl⟩ := okWide_slice Tryd.underlying25 hv
  obtain ⟨y, ⟨v', e, hy⟩, hs⟩ := open_arg (α := List Int) h
  obtain rfl : v' = .slice a n c := by simpa [Value.cells] using e.symm
  have := siz_ints y
  exact ⟨y, hy, by omega⟩
set_option maxRecDepth 20000 in
theorem open_code {H : Type} {enc : TypeId × Value → H} {W : World} {base : Nat} {v : Value} {d : DataW H} {p : List MemPlace} (hv : Value.okWide Tryd.prog W .any base 24 v) (h : DataW.Trod enc Tryd.prog W 0 (fun _ => true) true 24 v d p) (hk : Rows.uptoBulk d ≤ 1048576) :
    ∃ (vi : Value) (c : CodeD), v = codeVal vi c ∧ RSl (snapOf W) vi c.1 ∧ c.1.length ≤ 1048576 := by
  obtain ⟨cs, rfl, _⟩ := okWide_struct Tryd.underlying24 hv
  obtain ⟨y, hy, hs⟩ := open_arg (α := CodeD) h
  have hR : Rep.R (snapOf W) cs.toList y := hy
  obtain ⟨vi, e, hi⟩ := code_cells hR
  have := siz_ins y.1
  rw [siz_prod] at hs
  exact ⟨vi, y, by show Value.agg cs = Value.agg _; congr 1; apply Array.ext'; exact e, hi, by omega⟩
set_option maxRecDepth 20000 in
theorem open_gin {H : Type} {enc : TypeId × Value → H} {W : World} {base : Nat} {v : Value} {d : DataW H} {p : List MemPlace} (hv : Value.okWide Tryd.prog W .any base 36 v) (h : DataW.Trod enc Tryd.prog W 0 (fun _ => true) true 36 v d p) (hk : Rows.uptoBulk d ≤ 1048576) :
    ∃ (vi : Value) (c : CodeD) (vs : Value) (xs : List Int) (vg : Value) (gl : List Int) (far : Nat), v = .agg #[vi, .int .i64 c.2.1, .int .i64 c.2.2.1, vs, vg, .int .u16 (far : Int)] ∧ RSl (snapOf W) vi c.1 ∧ c.1.length ≤ 1048576 ∧ RSl (snapOf W) vs xs ∧ xs.length ≤ 1048576 ∧ RSl (snapOf W) vg gl ∧ gl.length ≤ 1048576 ∧ far ≤ 65535 := by
  obtain ⟨cs, rfl, _⟩ := okWide_struct Tryd.underlying36 hv
  obtain ⟨⟨c, xs, gl, far, u⟩, hy, hs⟩ := open_arg (α := GIn) h
  have hR : Rep.R (snapOf W) cs.toList (c, xs, gl, far, u) := hy
  obtain ⟨a, b, e, h1, k3⟩ := prod_inv hR
  obtain ⟨vi, rfl, hi⟩ := code_cells h1
  obtain ⟨a, b, rfl, ⟨vs, rfl, h2⟩, k4⟩ := prod_inv k3
  obtain ⟨a, b, rfl, ⟨vg, rfl, h3⟩, k5⟩ := prod_inv k4
  obtain ⟨a, b, rfl, ⟨rfl, h4⟩, rfl⟩ := prod_inv k5
  have := siz_ins c.1
  have := siz_ints xs
  have := siz_ints gl
  simp only [siz_prod] at hs
  exact ⟨vi, c, vs, xs, vg, gl, far.n, by congr 1; apply Array.ext'; exact e, hi, by omega, h2, by omega, h3, by omega, h4⟩
set_option maxRecDepth 20000 in
theorem open_uin {H : Type} {enc : TypeId × Value → H} {W : World} {base : Nat} {v : Value} {d : DataW H} {p : List MemPlace} (hv : Value.okWide Tryd.prog W .any base 39 v) (h : DataW.Trod enc Tryd.prog W 0 (fun _ => true) true 39 v d p) (hk : Rows.uptoBulk d ≤ 1048576) :
    ∃ (vi : Value) (c : CodeD) (vm : Value) (more : List InsD) (x : Nat) (vs : Value) (xs : List Int) (vg : Value) (gl : List Int), v = .agg #[vi, .int .i64 c.2.1, .int .i64 c.2.2.1, vm, .int .u8 (x : Int), vs, vg] ∧ RSl (snapOf W) vi c.1 ∧ c.1.length ≤ 1048576 ∧ RSl (snapOf W) vm more ∧ more.length ≤ 1048576 ∧ x ≤ 255 ∧ RSl (snapOf W) vs xs ∧ xs.length ≤ 1048576 ∧ RSl (snapOf W) vg gl ∧ gl.length ≤ 1048576 := by
  obtain ⟨cs, rfl, _⟩ := okWide_struct Tryd.underlying39 hv
  obtain ⟨⟨c, more, x, xs, gl, u⟩, hy, hs⟩ := open_arg (α := UIn) h
  have hR : Rep.R (snapOf W) cs.toList (c, more, x, xs, gl, u) := hy
  obtain ⟨a, b, e, h1, k6⟩ := prod_inv hR
  obtain ⟨vi, rfl, hi⟩ := code_cells h1
  obtain ⟨a, b, rfl, ⟨vm, rfl, h5⟩, k7⟩ := prod_inv k6
  obtain ⟨a, b, rfl, rfl, k8⟩ := prod_inv k7
  obtain ⟨a, b, rfl, ⟨vs, rfl, h2⟩, k9⟩ := prod_inv k8
  obtain ⟨a, b, rfl, ⟨vg, rfl, h3⟩, rfl⟩ := prod_inv k9
  have := siz_ins c.1
  have := siz_ins more
  have := siz_ints xs
  have := siz_ints gl
  have := x.toNat_lt
  simp only [siz_prod] at hs
  exact ⟨vi, c, vm, more, x.toNat, vs, xs, vg, gl, by congr 1; apply Array.ext'; exact e, hi, by omega, h5, by omega, by omega, h2, by omega, h3, by omega⟩
end Go.Proofs.YtmbdbfdlbbkclaaDoor
