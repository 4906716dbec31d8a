/- Package vm: what is known of an outcome. -/
import Derived.Test.YtmbdbfdlbbkclaaDoorUN
namespace Go.Proofs.YtmbdbfdlbbkclaaDoor
set_option linter.unusedSimpArgs false
set_option linter.unusedVariables false
open Go.RowKit Go.Sl

theorem smallV_of {c : CodeD} {inputs gl : List Int} (h : smallV c inputs gl = true) : c.1.length ≤ 200 ∧ inputs.length ≤ 20 ∧ gl.length ≤ 20 := by
  unfold smallV at h
  simp only [Bool.and_eq_true, decide_eq_true_eq] at h
  omega
theorem rsl_i64x {S : Snap} {v : Value} {xs : List Int} (h : RSl S v xs) : ∀ x ∈ xs, I64 x := by
  intro x hx
  obtain ⟨i, hi, rfl⟩ := List.mem_iff_getElem.1 hx
  rcases h with ⟨ad, cap, _, h, _⟩ | ⟨b, o, cap, c, T, fz, _, _, _, _, h⟩
  · subst h; simp at hi
  · exact (h.at_ i hi).2
theorem steps_i64 {c : CodeD} {inputs gl : List Int} {o : OutD} {e : Nat} (hr : vmM c inputs gl = (o, e)) (he : e = 0) : 1 ≤ o.2.2.2.1 ∧ o.2.2.2.1 ≤ 3000 := by
  have := vm_valid (c := c) (inputs := inputs) (gl := gl) (by rw [hr]; exact he)
  rw [hr] at this
  exact ⟨this.2.2.2.1, this.2.2.2.2.1⟩
theorem len_le {c : CodeD} {inputs gl : List Int} {o : OutD} {e : Nat} (hr : vmM c inputs gl = (o, e)) : o.1.length ≤ 1048576 ∧ o.2.1.length ≤ 1048576 := by
  by_cases he : e = 0
  · have hv := (vm_ok (c := c) (inputs := inputs) (gl := gl) (by rw [hr]; exact he)).1
    have := vm_valid (c := c) (inputs := inputs) (gl := gl) (by rw [hr]; exact he)
    rw [hr] at this
    unfold validV at hv
    simp only [Bool.and_eq_true, decide_eq_true_eq] at hv
    obtain ⟨⟨⟨⟨h1, h2⟩, h3⟩, h4⟩, h5⟩ := hv
    obtain ⟨_, _, a, b, d, f⟩ := this
    simp only at a b d f
    omega
  · have := vm_err (c := c) (inputs := inputs) (gl := gl) (by rw [hr]; exact he)
    rw [hr] at this
    simp only at this
    subst this
    exact ⟨by decide, by decide⟩
theorem vars_le {c : CodeD} {inputs gl : List Int} {o : OutD} {e : Nat} (hr : vmM c inputs gl = (o, e)) (he : e = 0) : 0 ≤ c.2.1 ∧ c.2.1 ≤ 400 := by
  have hv := (vm_ok (c := c) (inputs := inputs) (gl := gl) (by rw [hr]; exact he)).1
  unfold validV at hv
  simp only [Bool.and_eq_true, decide_eq_true_eq] at hv
  obtain ⟨⟨⟨⟨h1, h2⟩, h3⟩, h4⟩, h5⟩ := hv
  omega
end Go.Proofs.YtmbdbfdlbbkclaaDoor
