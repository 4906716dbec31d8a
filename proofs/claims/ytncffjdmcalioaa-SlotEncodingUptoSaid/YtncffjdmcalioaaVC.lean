/- Package wire: plain mathematics: what is decoded is the encoding of the result. -/
import Derived.Test.YtncffjdmcalioaaVB
namespace Go.Proofs.Ytncffjdmcalioaa
set_option linter.unusedSimpArgs false
set_option linter.unusedVariables false
open Go.RowKit Go.Sl

theorem zig_unzig {u : Nat} : zig (unzig u) = u := by
  unfold unzig zig
  split <;> split <;> omega

theorem getF_canon : ∀ (f k U : Nat) (r : List UInt8) (n : Int) (used : Nat), f + k = 10 → U < 2 ^ (7 * k) → getF f k U r = (n, used, 0) →
    ∃ v, n = unzig (U + v * 2 ^ (7 * k)) ∧ k ≤ used ∧ used - k ≤ r.length ∧ encF f v = r.take (used - k) ∧ (0 < k → 0 < v)
  | 0, _, _, _, _, _, _, _, h => by simp [getF] at h
  | _ + 1, _, _, [], _, _, _, _, h => by simp [getF] at h
  | f + 1, k, U, c :: r, n, used, hk, hU, h => by
    by_cases h1 : 128 ≤ c.toNat
    · rw [getF_more h1] at h
      obtain ⟨v, e1, e2, e3, e4, e5⟩ := getF_canon f (k + 1) _ r n used (by omega) (group_lt hU) h
      have hv := e5 (by omega)
      have hcl := c.toNat_lt
      refine ⟨c.toNat % 128 + 128 * v, ?_, by omega, by simp only [List.length_cons]; omega, ?_, fun _ => by omega⟩
      · rw [e1]
        congr 1
        rw [Nat.mul_succ, Nat.pow_add, Nat.add_mul, Nat.add_assoc, Nat.mul_comm 128 v, Nat.mul_assoc, Nat.mul_comm (2 ^ (7 * k))]
      · rw [encF_more (by omega), show used - k = (used - (k + 1)) + 1 by omega, List.take_succ_cons, ← e4]
        congr 1
        · apply UInt8.toNat_inj.1
          rw [UInt8.toNat_ofNat']; omega
        · congr 1; omega
    · by_cases hb : (c.toNat = 0 ∧ 0 < k) ∨ (k = 9 ∧ 1 < c.toNat)
      · rw [getF_bad h1 hb] at h; simp at h
      · rw [getF_ok h1 hb] at h
        simp only [Prod.mk.injEq, and_true] at h
        obtain ⟨e1, e2⟩ := h
        subst e2
        refine ⟨c.toNat, ?_, by omega, by simp only [List.length_cons]; omega, ?_, fun hk0 => ?_⟩
        · rw [← e1, Nat.mod_eq_of_lt (by omega)]
        · rw [encF_one (by omega), show k + 1 - k = 0 + 1 by omega, List.take_succ_cons, List.take_zero]
          congr 1
          apply UInt8.toNat_inj.1
          rw [UInt8.toNat_ofNat']; omega
        · rcases Nat.eq_zero_or_pos c.toNat with h0 | h0
          · exact absurd (.inl ⟨h0, hk0⟩) hb
          · exact h0

theorem getI_canon {b : List UInt8} {n : Int} {used : Nat} (h : getI b = (n, used, 0)) : used ≤ b.length ∧ encI n = b.take used := by
  obtain ⟨v, e1, _, e3, e4, _⟩ := getF_canon 10 0 0 b n used rfl (by simp) h
  refine ⟨by simpa using e3, ?_⟩
  unfold encI
  rw [e1]
  simp only [Nat.mul_zero, Nat.pow_zero, Nat.mul_one, Nat.zero_add, zig_unzig]
  simpa using e4
end Go.Proofs.Ytncffjdmcalioaa
