/- Package wire: plain mathematics: the references' decoding gives what ours gives. -/
import Derived.Test.YtncffjdmcalioaaVC
namespace Go.Proofs.Ytncffjdmcalioaa
set_option linter.unusedSimpArgs false
set_option linter.unusedVariables false
open Go.RowKit Go.Sl

/-- How many bytes the number takes, so many of them read; 0 if it does not end. -/
def lenF : Nat → Nat → List UInt8 → Nat
  | 0, _, _ => 0
  | _ + 1, _, [] => 0
  | f + 1, k, c :: r => if c.toNat < 128 then k + 1 else lenF f (k + 1) r
/-- The number, its groups read from the last one on. -/
def valF : List UInt8 → Nat
  | [] => 0
  | c :: r => c.toNat % 128 + 128 * valF r
def refI (b : List UInt8) : Int × Nat × Nat :=
  if lenF 10 0 b = 0 ∧ b.length < 10 then (0, 0, 6)
  else if lenF 10 0 b = 0 ∨ encI (unzig (valF (b.take (lenF 10 0 b)) % 2 ^ 64)) ≠ b.take (lenF 10 0 b) then (0, 0, 7)
  else (unzig (valF (b.take (lenF 10 0 b)) % 2 ^ 64), lenF 10 0 b, 0)

theorem lenF_le : ∀ (f k : Nat) (r : List UInt8), lenF f k r = 0 ∨ (k < lenF f k r ∧ lenF f k r ≤ k + r.length ∧ lenF f k r ≤ k + f)
  | 0, _, _ => .inl rfl
  | _ + 1, _, [] => .inl rfl
  | f + 1, k, c :: r => by
    unfold lenF
    split
    · right; simp
    · rcases lenF_le f (k + 1) r with h | ⟨h1, h2, h3⟩
      · exact .inl h
      · right; simp only [List.length_cons]; omega
theorem getF_ok_len : ∀ (f k u : Nat) (r : List UInt8), (getF f k u r).2.2 = 0 → lenF f k r = (getF f k u r).2.1
  | 0, _, _, _, h => by simp [getF] at h
  | _ + 1, _, _, [], h => by simp [getF] at h
  | f + 1, k, u, c :: r, h => by
    by_cases h1 : 128 ≤ c.toNat
    · rw [getF_more h1] at h ⊢
      rw [lenF, if_neg (by omega)]
      exact getF_ok_len f _ _ _ h
    · by_cases hb : (c.toNat = 0 ∧ 0 < k) ∨ (k = 9 ∧ 1 < c.toNat)
      · rw [getF_bad h1 hb] at h; simp at h
      · rw [getF_ok h1 hb, lenF, if_pos (by omega)]
theorem getF_none : ∀ (f k u : Nat) (r : List UInt8), lenF f k r = 0 → getF f k u r = if r.length < f then (0, 0, 6) else (0, 0, 7)
  | 0, _, _, _, _ => by simp [getF]
  | f + 1, _, _, [], _ => by simp [getF]
  | f + 1, k, u, c :: r, h => by
    unfold lenF at h
    split at h
    · omega
    · rename_i hc
      rw [getF_more (by omega), getF_none f _ _ _ h]
      simp only [List.length_cons, Nat.add_lt_add_iff_right]
theorem getF_some : ∀ (f k u : Nat) (r : List UInt8), lenF f k r ≠ 0 → (getF f k u r).2.2 ≠ 6
  | 0, _, _, _, h => (h rfl).elim
  | _ + 1, _, _, [], h => (h rfl).elim
  | f + 1, k, u, c :: r, h => by
    by_cases h1 : 128 ≤ c.toNat
    · rw [getF_more h1]
      rw [lenF, if_neg (by omega)] at h
      exact getF_some f _ _ _ h
    · by_cases hb : (c.toNat = 0 ∧ 0 < k) ∨ (k = 9 ∧ 1 < c.toNat)
      · rw [getF_bad h1 hb]; simp
      · rw [getF_ok h1 hb]; simp
theorem valF_encF : ∀ (f u : Nat), u < 128 ^ f → valF (encF f u) = u
  | 0, u, h => by simp at h; subst h; rfl
  | f + 1, u, h => by
    by_cases hlt : u < 128
    · rw [encF_one hlt]
      simp only [valF, UInt8.toNat_ofNat']
      omega
    · rw [encF_more hlt]
      simp only [valF, UInt8.toNat_ofNat']
      rw [valF_encF f (u / 128) (by rw [Nat.pow_succ] at h; exact Nat.div_lt_of_lt_mul (by rw [Nat.mul_comm]; exact h))]
      omega
theorem refI_eq (b : List UInt8) : refI b = getI b := by
  unfold refI
  by_cases h0 : lenF 10 0 b = 0
  · have := getF_none 10 0 0 b h0
    rw [getI, this]
    by_cases hl : b.length < 10
    · rw [if_pos ⟨h0, hl⟩, if_pos hl]
    · rw [if_neg (by omega), if_pos (.inl h0), if_neg hl]
  · rw [if_neg (by omega)]
    obtain ⟨s1, s2, s3⟩ := getI_spec b
    rcases s3 with s3 | s3 | s3
    · obtain ⟨x, used, e, hg⟩ : ∃ x used e, getI b = (x, used, e) := ⟨_, _, _, rfl⟩
      rw [hg] at s3 s2
      obtain rfl : e = 0 := s3
      have s2 : I64 x := s2
      have hl : lenF 10 0 b = used := by
        have := getF_ok_len 10 0 0 b (by show (getI b).2.2 = 0; rw [hg])
        rw [this]
        show (getI b).2.1 = used
        rw [hg]
      obtain ⟨c1, c2⟩ := getI_canon hg
      have hv : valF (b.take used) = zig x := by
        rw [← c2]
        exact valF_encF 10 (zig x) (Nat.lt_trans (zig_lt s2) pow10)
      rw [hl, hv, Nat.mod_eq_of_lt (zig_lt s2), unzig_zig, if_neg, hg]
      intro h
      rcases h with h | h
      · omega
      · exact h c2
    · exact (getF_some 10 0 0 b h0 (by show (getI b).2.2 = 6; rw [s3])).elim
    · rw [s3, if_pos]
      refine .inr fun h => ?_
      have hm : I64 (unzig (valF (b.take (lenF 10 0 b)) % 2 ^ 64)) := unzig_i64 (Nat.mod_lt _ (by decide))
      have := getI_encI hm (b.drop (lenF 10 0 b))
      rw [h, List.take_append_drop, s3] at this
      simp at this

/-- A length, as the references read it. -/
def refP (s : Nat) (b : List UInt8) : Int × Nat × Nat :=
  if (getI b).2.2 ≠ 0 then (0, 0, (getI b).2.2) else if (getI b).1 < 0 then (0, 0, 7) else if (b.length : Int) < (getI b).1 ∨ (b.length : Int) - (getI b).2.1 < (getI b).1 * s then (0, 0, 6) else getI b
theorem refP_eq {s : Nat} (hs : 1 ≤ s) (b : List UInt8) : (refP s b).2.2 = (countP s b).2.2 ∧ ((countP s b).2.2 = 0 → refP s b = countP s b) := by
  obtain ⟨s1, s2, s3⟩ := getI_spec b
  unfold refP countP
  generalize getI b = t at *
  obtain ⟨n, at_, e⟩ := t
  simp only at *
  by_cases he : e = 0
  · subst he
    simp only [ne_eq, not_true_eq_false, if_false]
    by_cases hn : n < 0
    · simp [hn]
    · obtain ⟨m, rfl⟩ : ∃ m : Nat, n = m := ⟨n.toNat, by omega⟩
      have hiff : ((b.length : Int) < (m : Int) ∨ (b.length : Int) - at_ < (m : Int) * s) ↔ (((b.length - at_) / s : Nat) : Int) < (m : Int) := by
        have h1 : (b.length - at_) / s < m ↔ b.length - at_ < m * s := Nat.div_lt_iff_lt_mul hs
        have h2 : m ≤ m * s := Nat.le_mul_of_pos_right m hs
        have h3 : ((m : Int) * s) = ((m * s : Nat) : Int) := by push_cast; rfl
        rw [h3]
        constructor
        · intro h
          have : b.length - at_ < m * s := by omega
          have := h1.2 this
          omega
        · intro h
          have : (b.length - at_) / s < m := by omega
          have := h1.1 this
          right
          omega
      simp only [hn, if_false]
      by_cases hc : (((b.length - at_) / s : Nat) : Int) < (m : Int)
      · rw [if_pos (hiff.2 hc), if_pos hc]; simp
      · rw [if_neg (fun h => hc (hiff.1 h)), if_neg hc]; simp
  · rw [if_pos he, if_pos he]
    simp [he]
end Go.Proofs.Ytncffjdmcalioaa
