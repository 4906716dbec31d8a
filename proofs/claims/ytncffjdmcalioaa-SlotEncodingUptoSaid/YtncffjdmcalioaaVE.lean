/- Package wire: plain mathematics: lists and byte strings that are decoded are the encoding of the result. -/
import Derived.Test.YtncffjdmcalioaaVD
namespace Go.Proofs.Ytncffjdmcalioaa
set_option linter.unusedSimpArgs false
set_option linter.unusedVariables false
open Go.RowKit Go.Sl

theorem countP_canon {s : Nat} {b : List UInt8} {n : Int} {a : Nat} (h : countP s b = (n, a, 0)) : getI b = (n, a, 0) := by
  unfold countP at h
  split at h
  · rename_i h0; rw [h] at h0; simp at h0
  · split at h
    · simp at h
    · split at h
      · simp at h
      · exact h

theorem getB_len (b : List UInt8) : (getB b).1.length ≤ b.length := by
  unfold getB
  split
  · simp
  · simp only [List.length_take, List.length_drop]; omega

theorem getB_canon {b s : List UInt8} {used : Nat} (h : getB b = (s, used, 0)) : used ≤ b.length ∧ encB s = b.take used := by
  have hsp := countP_spec (s := 1) (b := b) (by omega)
  have hc : countP 1 b = ((countP 1 b).1, (countP 1 b).2.1, (countP 1 b).2.2) := rfl
  unfold getB at h
  split at h
  · rename_i h0; simp only [Prod.mk.injEq] at h; exact absurd h.2.2 h0
  · rename_i h0
    have h0 : (countP 1 b).2.2 = 0 := by simpa using h0
    rw [h0] at hc
    obtain ⟨g1, g2⟩ := getI_canon (countP_canon hc)
    rcases hsp with ⟨_, h1, h2⟩ | h1 | h1
    · generalize (countP 1 b).2.1 = a at *
      generalize (countP 1 b).1 = n at *
      obtain ⟨m, rfl⟩ : ∃ m : Nat, n = m := ⟨n.toNat, by omega⟩
      simp only [Int.toNat_natCast, Prod.mk.injEq, and_true] at h h2
      obtain ⟨rfl, rfl⟩ := h
      refine ⟨by omega, ?_⟩
      have hl : ((b.drop a).take m).length = m := by rw [List.length_take, List.length_drop]; omega
      rw [encB, hl, g2, List.take_add]
    · omega
    · omega

theorem getLF_canon : ∀ (m : Nat) (b : List UInt8) (a : Nat) (out l : List Int) (used : Nat), a ≤ b.length → getLF m b a out = (l, used, 0) →
    ∃ l2, l = out ++ l2 ∧ l2.length = m ∧ a ≤ used ∧ used ≤ b.length ∧ l2.flatMap encI = (b.drop a).take (used - a)
  | 0, b, a, out, l, used, ha, h => by
    simp only [getLF, Prod.mk.injEq, and_true] at h
    obtain ⟨rfl, rfl⟩ := h
    exact ⟨[], by simp, rfl, Nat.le_refl _, ha, by simp⟩
  | m + 1, b, a, out, l, used, ha, h => by
    unfold getLF at h
    split at h
    · rename_i h0; simp only [Prod.mk.injEq] at h; exact absurd h.2.2 h0
    · rename_i h0
      have h0 : (getI (b.drop a)).2.2 = 0 := by simpa using h0
      have hc : getI (b.drop a) = ((getI (b.drop a)).1, (getI (b.drop a)).2.1, 0) := by rw [← h0]
      obtain ⟨g1, g2⟩ := getI_canon hc
      rw [List.length_drop] at g1
      generalize (getI (b.drop a)).1 = x at *
      generalize (getI (b.drop a)).2.1 = u at *
      obtain ⟨l2, e1, e2, e3, e4, e5⟩ := getLF_canon m b (a + u) _ l used (by omega) h
      refine ⟨x :: l2, by rw [e1]; simp, by simp [e2], by omega, e4, ?_⟩
      rw [List.flatMap_cons, g2, e5, show used - a = u + (used - (a + u)) by omega, List.take_add, List.drop_drop]

theorem getLF_len : ∀ (m : Nat) (b : List UInt8) (a : Nat) (out : List Int), (getLF m b a out).1.length ≤ out.length + m
  | 0, _, _, _ => by simp [getLF]
  | m + 1, b, a, out => by
    unfold getLF
    split
    · simp
    · have := getLF_len m b (a + (getI (b.drop a)).2.1) (out ++ [(getI (b.drop a)).1])
      simp only [List.length_append, List.length_cons, List.length_nil] at this
      omega
theorem getL_len (b : List UInt8) : (getL b).1.length ≤ b.length := by
  have hsp := countP_spec (s := 1) (b := b) (by omega)
  unfold getL
  split
  · simp
  · rename_i h0
    have := getLF_len (countP 1 b).1.toNat b (countP 1 b).2.1 []
    have h0 : (countP 1 b).2.2 = 0 := by simpa using h0
    simp only [List.length_nil] at this
    omega
theorem getL_canon {b : List UInt8} {l : List Int} {used : Nat} (h : getL b = (l, used, 0)) : used ≤ b.length ∧ encL l = b.take used := by
  have hsp := countP_spec (s := 1) (b := b) (by omega)
  have hc : countP 1 b = ((countP 1 b).1, (countP 1 b).2.1, (countP 1 b).2.2) := rfl
  unfold getL at h
  split at h
  · rename_i h0; simp only [Prod.mk.injEq] at h; exact absurd h.2.2 h0
  · rename_i h0
    have h0 : (countP 1 b).2.2 = 0 := by simpa using h0
    rw [h0] at hc
    obtain ⟨g1, g2⟩ := getI_canon (countP_canon hc)
    rcases hsp with ⟨_, h1, h2⟩ | h1 | h1
    · generalize (countP 1 b).2.1 = a at *
      generalize (countP 1 b).1 = n at *
      obtain ⟨m, rfl⟩ : ∃ m : Nat, n = m := ⟨n.toNat, by omega⟩
      rw [Int.toNat_natCast] at h
      obtain ⟨l2, e1, e2, e3, e4, e5⟩ := getLF_canon m b a [] l used g1 h
      simp only [List.nil_append] at e1
      subst e1
      refine ⟨e4, ?_⟩
      rw [encL, e2, g2, e5]
      conv => rhs; rw [show used = a + (used - a) by omega, List.take_add]
    · omega
    · omega

end Go.Proofs.Ytncffjdmcalioaa
