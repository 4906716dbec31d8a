/- The statement RegisterMatchesSpec. -/
import Derived.Test.YtcobalpbencboaaDoorBc
import Derived.Test.YtcobalpbencboaaDoorBb
import Derived.Test.YtcobalpbencboaaDoorBi
import Derived.Test.YtcobalpbencboaaDoorBf
import Derived.Test.YtcobalpbencboaaDoorBg
import Derived.Test.YtcobalpbencboaaDoorBj

/- Package wire: plain mathematics: what was encoded is decoded. -/
namespace Go.Proofs.YtcobalpbencboaaDoor
set_option linter.unusedSimpArgs false
set_option linter.unusedVariables false
open Go.RowKit Go.Sl

theorem unzig_zig {n : Int} : unzig (zig n) = n := by
  unfold unzig zig
  split <;> split <;> omega

theorem getF_encF : ∀ (f k v U : Nat) (tail : List UInt8), f + k = 10 → 1 ≤ f → v < 128 ^ f → (0 < k → 0 < v) → U + v * 2 ^ (7 * k) < 2 ^ 64 →
    getF f k U (encF f v ++ tail) = (unzig (U + v * 2 ^ (7 * k)), k + (encF f v).length, 0)
  | 0, _, _, _, _, _, h, _, _, _ => by omega
  | f + 1, k, v, U, tail, hk, _, hv, h0, hlt => by
    by_cases hs : v < 128
    · rw [encF_one hs]
      have hc : (UInt8.ofNat v).toNat = v := by rw [UInt8.toNat_ofNat']; omega
      have hk9 : ¬ (k = 9 ∧ 1 < v) := by
        rintro ⟨rfl, h⟩
        have : 2 * 2 ^ (7 * 9) ≤ v * 2 ^ (7 * 9) := Nat.mul_le_mul_right _ h
        omega
      show getF (f + 1) k U (UInt8.ofNat v :: tail) = _
      rw [getF_ok (by rw [hc]; omega) (by rw [hc]; rintro (⟨h1, h2⟩ | h); exact absurd (h0 h2) (by omega); exact hk9 h), hc, Nat.mod_eq_of_lt hs]
      rfl
    · rw [encF_more hs]
      have hc : (UInt8.ofNat (128 + v % 128)).toNat = 128 + v % 128 := by rw [UInt8.toNat_ofNat']; omega
      show getF (f + 1) k U (UInt8.ofNat (128 + v % 128) :: (encF f (v / 128) ++ tail)) = _
      have hf : 1 ≤ f := by
        rcases Nat.eq_zero_or_pos f with rfl | h
        · simp at hv; omega
        · exact h
      have e : U + v % 128 * 2 ^ (7 * k) + v / 128 * 2 ^ (7 * (k + 1)) = U + v * 2 ^ (7 * k) := by
        rw [Nat.mul_succ, Nat.pow_add, Nat.mul_comm (2 ^ (7 * k)), ← Nat.mul_assoc, Nat.add_assoc, ← Nat.add_mul]
        congr 2
        omega
      rw [getF_more (by rw [hc]; omega), hc, show (128 + v % 128) % 128 = v % 128 by omega,
        getF_encF f (k + 1) (v / 128) _ tail (by omega) hf (Nat.div_lt_of_lt_mul (by rw [← Nat.pow_succ']; exact hv)) (fun _ => by omega) (by rw [e]; exact hlt), e]
      simp only [List.length_cons]
      congr 2
      omega

/-- Decoding the encoding of an integer, whatever follows it. -/
theorem getI_encI {n : Int} (hn : I64 n) (tail : List UInt8) : getI (encI n ++ tail) = (n, (encI n).length, 0) := by
  have hz := zig_lt hn
  have := getF_encF 10 0 (zig n) 0 tail rfl (by omega) (Nat.lt_trans hz pow10) (fun h => by omega) (by simpa using hz)
  unfold getI encI
  rw [this]
  simp [unzig_zig]

theorem encI_app {m n : Int} (hm : I64 m) (hn : I64 n) {a b : List UInt8} (h : encI m ++ a = encI n ++ b) : m = n ∧ a = b := by
  have h1 := getI_encI hm a
  rw [h, getI_encI hn b] at h1
  have e : n = m := congrArg Prod.fst h1
  subst e
  exact ⟨rfl, List.append_cancel_left h⟩

theorem encI_inj {m n : Int} (hm : I64 m) (hn : I64 n) : encI m = encI n ↔ m = n :=
  ⟨fun h => (encI_app (a := []) (b := []) hm hn (by rw [h])).1, fun h => by rw [h]⟩

theorem flat_inj : ∀ {a b : List Int}, (∀ x ∈ a, I64 x) → (∀ x ∈ b, I64 x) → a.length = b.length → a.flatMap encI = b.flatMap encI → a = b
  | [], [], _, _, _, _ => rfl
  | x :: a, y :: b, ha, hb, hl, h => by
    rw [List.flatMap_cons, List.flatMap_cons] at h
    obtain ⟨rfl, h'⟩ := encI_app (ha x (.head _)) (hb y (.head _)) h
    rw [flat_inj (fun z hz => ha z (.tail _ hz)) (fun z hz => hb z (.tail _ hz)) (by simpa using hl) h']

theorem encL_inj {a b : List Int} (ha : ∀ x ∈ a, I64 x) (hb : ∀ x ∈ b, I64 x) (hla : a.length ≤ 1048576) (hlb : b.length ≤ 1048576) : encL a = encL b ↔ a = b := by
  constructor
  · intro h
    obtain ⟨h1, h2⟩ := encI_app (nat_i64 hla) (nat_i64 hlb) h
    exact flat_inj ha hb (by omega) h2
  · rintro rfl; rfl
end Go.Proofs.YtcobalpbencboaaDoor

/- Package wire: plain mathematics: byte strings and lists, encoded and decoded. -/
namespace Go.Proofs.YtcobalpbencboaaDoor
set_option linter.unusedSimpArgs false
set_option linter.unusedVariables false
open Go.RowKit Go.Sl

theorem encF_pos : ∀ {f u : Nat}, 1 ≤ f → 1 ≤ (encF f u).length
  | 0, _, h => by omega
  | f + 1, u, _ => by unfold encF; split <;> simp
theorem encI_pos (n : Int) : 1 ≤ (encI n).length := encF_pos (by omega)
theorem flat_ge (l : List Int) : l.length ≤ (l.flatMap encI).length := by
  induction l with
  | nil => simp
  | cons x l ih => have := encI_pos x; simp only [List.flatMap_cons, List.length_append, List.length_cons]; omega

theorem countP_enc {n s : Nat} {r : List UInt8} (hn : n ≤ 1048576) (hs : 1 ≤ s) (hr : n * s ≤ r.length) : countP s (encI n ++ r) = ((n : Int), (encI n).length, 0) := by
  have h := getI_encI (nat_i64 hn) r
  have hd : n ≤ ((encI (n : Int) ++ r).length - (encI (n : Int)).length) / s := by
    rw [List.length_append, Nat.add_sub_cancel_left]
    exact (Nat.le_div_iff_mul_le hs).2 hr
  unfold countP
  rw [h]
  simp only []
  rw [if_neg (by simp), if_neg (by omega), if_neg (by omega)]

theorem getB_encB {s t : List UInt8} (hs : s.length ≤ 1048576) : getB (encB s ++ t) = (s, (encB s).length, 0) := by
  have hc : countP 1 (encB s ++ t) = ((s.length : Int), (encI s.length).length, 0) := by
    unfold encB
    rw [List.append_assoc]
    exact countP_enc hs (Nat.le_refl _) (by simp)
  unfold getB
  rw [hc]
  simp only []
  rw [if_neg (by simp)]
  unfold encB
  rw [List.append_assoc, List.drop_left, Int.toNat_natCast, List.take_left, List.length_append]

theorem getLF_enc : ∀ (l : List Int) (b : List UInt8) (a : Nat) (t : List UInt8) (out : List Int), (∀ x ∈ l, I64 x) → b.drop a = l.flatMap encI ++ t → getLF l.length b a out = (out ++ l, a + (l.flatMap encI).length, 0)
  | [], _, _, _, _, _, _ => by simp [getLF]
  | x :: l, b, a, t, out, hx, hd => by
    have e : b.drop a = encI x ++ (l.flatMap encI ++ t) := by rw [hd, List.flatMap_cons, List.append_assoc]
    have hg := getI_encI (hx x (.head _)) (l.flatMap encI ++ t)
    have hd2 : b.drop (a + (encI x).length) = l.flatMap encI ++ t := by rw [← List.drop_drop, e, List.drop_left]
    show getLF (l.length + 1) b a out = _
    unfold getLF
    rw [e, hg]
    simp only []
    rw [if_neg (by simp), getLF_enc l b _ t _ (fun y hy => hx y (.tail _ hy)) hd2]
    simp only [List.append_assoc, List.singleton_append, List.flatMap_cons, List.length_append, Nat.add_assoc]

theorem getL_encL {l : List Int} {t : List UInt8} (hl : l.length ≤ 1048576) (hx : ∀ x ∈ l, I64 x) : getL (encL l ++ t) = (l, (encL l).length, 0) := by
  have e : encL l ++ t = encI l.length ++ (l.flatMap encI ++ t) := by unfold encL; rw [List.append_assoc]
  have hc : countP 1 (encL l ++ t) = ((l.length : Int), (encI l.length).length, 0) := by
    rw [e]
    exact countP_enc hl (Nat.le_refl _) (by have := flat_ge l; rw [List.length_append]; omega)
  unfold getL
  rw [hc]
  simp only []
  rw [if_neg (by simp), Int.toNat_natCast, getLF_enc l _ _ t [] hx (by rw [e, List.drop_left])]
  simp [encL]
end Go.Proofs.YtcobalpbencboaaDoor

/- Package wire: plain mathematics: what is decoded is the encoding of the result. -/
namespace Go.Proofs.YtcobalpbencboaaDoor
set_option linter.unusedSimpArgs false
set_option linter.unusedVariables false
open Go.RowKit Go.Sl

theorem zig_unzig {u : Nat} : zig (unzig u) = u := by
  unfold unzig zig
  split <;> split <;> omega

theorem getF_canon : ∀ (f k U : Nat) (r : List UInt8) (n : Int) (used : Nat), f + k = 10 → U < 2 ^ (7 * k) → getF f k U r = (n, used, 0) →
    ∃ v, n = unzig (U + v * 2 ^ (7 * k)) ∧ k ≤ used ∧ used - k ≤ r.length ∧ encF f v = r.take (used - k) ∧ (0 < k → 0 < v)
  | 0, _, _, _, _, _, _, _, h => by simp [getF] at h
  | _ + 1, _, _, [], _, _, _, _, h => by simp [getF] at h
  | f + 1, k, U, c :: r, n, used, hk, hU, h => by
    by_cases h1 : 128 ≤ c.toNat
    · rw [getF_more h1] at h
      obtain ⟨v, e1, e2, e3, e4, e5⟩ := getF_canon f (k + 1) _ r n used (by omega) (group_lt hU) h
      have hv := e5 (by omega)
      have hcl := c.toNat_lt
      refine ⟨c.toNat % 128 + 128 * v, ?_, by omega, by simp only [List.length_cons]; omega, ?_, fun _ => by omega⟩
      · rw [e1]
        congr 1
        rw [Nat.mul_succ, Nat.pow_add, Nat.add_mul, Nat.add_assoc, Nat.mul_comm 128 v, Nat.mul_assoc, Nat.mul_comm (2 ^ (7 * k))]
      · rw [encF_more (by omega), show used - k = (used - (k + 1)) + 1 by omega, List.take_succ_cons, ← e4]
        congr 1
        · apply UInt8.toNat_inj.1
          rw [UInt8.toNat_ofNat']; omega
        · congr 1; omega
    · by_cases hb : (c.toNat = 0 ∧ 0 < k) ∨ (k = 9 ∧ 1 < c.toNat)
      · rw [getF_bad h1 hb] at h; simp at h
      · rw [getF_ok h1 hb] at h
        simp only [Prod.mk.injEq, and_true] at h
        obtain ⟨e1, e2⟩ := h
        subst e2
        refine ⟨c.toNat, ?_, by omega, by simp only [List.length_cons]; omega, ?_, fun hk0 => ?_⟩
        · rw [← e1, Nat.mod_eq_of_lt (by omega)]
        · rw [encF_one (by omega), show k + 1 - k = 0 + 1 by omega, List.take_succ_cons, List.take_zero]
          congr 1
          apply UInt8.toNat_inj.1
          rw [UInt8.toNat_ofNat']; omega
        · rcases Nat.eq_zero_or_pos c.toNat with h0 | h0
          · exact absurd (.inl ⟨h0, hk0⟩) hb
          · exact h0

theorem getI_canon {b : List UInt8} {n : Int} {used : Nat} (h : getI b = (n, used, 0)) : used ≤ b.length ∧ encI n = b.take used := by
  obtain ⟨v, e1, _, e3, e4, _⟩ := getF_canon 10 0 0 b n used rfl (by simp) h
  refine ⟨by simpa using e3, ?_⟩
  unfold encI
  rw [e1]
  simp only [Nat.mul_zero, Nat.pow_zero, Nat.mul_one, Nat.zero_add, zig_unzig]
  simpa using e4
end Go.Proofs.YtcobalpbencboaaDoor

/- Package wire: plain mathematics: the references' decoding gives what ours gives. -/
namespace Go.Proofs.YtcobalpbencboaaDoor
set_option linter.unusedSimpArgs false
set_option linter.unusedVariables false
open Go.RowKit Go.Sl

/-- How many bytes the number takes, so many of them read; 0 if it does not end. -/
def lenF : Nat → Nat → List UInt8 → Nat
  | 0, _, _ => 0
  | _ + 1, _, [] => 0
  | f + 1, k, c :: r => if c.toNat < 128 then k + 1 else lenF f (k + 1) r
/-- The number, its groups read from the last one on. -/
def valF : List UInt8 → Nat
  | [] => 0
  | c :: r => c.toNat % 128 + 128 * valF r
def refI (b : List UInt8) : Int × Nat × Nat :=
  if lenF 10 0 b = 0 ∧ b.length < 10 then (0, 0, 6)
  else if lenF 10 0 b = 0 ∨ encI (unzig (valF (b.take (lenF 10 0 b)) % 2 ^ 64)) ≠ b.take (lenF 10 0 b) then (0, 0, 7)
  else (unzig (valF (b.take (lenF 10 0 b)) % 2 ^ 64), lenF 10 0 b, 0)

theorem lenF_le : ∀ (f k : Nat) (r : List UInt8), lenF f k r = 0 ∨ (k < lenF f k r ∧ lenF f k r ≤ k + r.length ∧ lenF f k r ≤ k + f)
  | 0, _, _ => .inl rfl
  | _ + 1, _, [] => .inl rfl
  | f + 1, k, c :: r => by
    unfold lenF
    split
    · right; simp
    · rcases lenF_le f (k + 1) r with h | ⟨h1, h2, h3⟩
      · exact .inl h
      · right; simp only [List.length_cons]; omega
theorem getF_ok_len : ∀ (f k u : Nat) (r : List UInt8), (getF f k u r).2.2 = 0 → lenF f k r = (getF f k u r).2.1
  | 0, _, _, _, h => by simp [getF] at h
  | _ + 1, _, _, [], h => by simp [getF] at h
  | f + 1, k, u, c :: r, h => by
    by_cases h1 : 128 ≤ c.toNat
    · rw [getF_more h1] at h ⊢
      rw [lenF, if_neg (by omega)]
      exact getF_ok_len f _ _ _ h
    · by_cases hb : (c.toNat = 0 ∧ 0 < k) ∨ (k = 9 ∧ 1 < c.toNat)
      · rw [getF_bad h1 hb] at h; simp at h
      · rw [getF_ok h1 hb, lenF, if_pos (by omega)]
theorem getF_none : ∀ (f k u : Nat) (r : List UInt8), lenF f k r = 0 → getF f k u r = if r.length < f then (0, 0, 6) else (0, 0, 7)
  | 0, _, _, _, _ => by simp [getF]
  | f + 1, _, _, [], _ => by simp [getF]
  | f + 1, k, u, c :: r, h => by
    unfold lenF at h
    split at h
    · omega
    · rename_i hc
      rw [getF_more (by omega), getF_none f _ _ _ h]
      simp only [List.length_cons, Nat.add_lt_add_iff_right]
theorem getF_some : ∀ (f k u : Nat) (r : List UInt8), lenF f k r ≠ 0 → (getF f k u r).2.2 ≠ 6
  | 0, _, _, _, h => (h rfl).elim
  | _ + 1, _, _, [], h => (h rfl).elim
  | f + 1, k, u, c :: r, h => by
    by_cases h1 : 128 ≤ c.toNat
    · rw [getF_more h1]
      rw [lenF, if_neg (by omega)] at h
      exact getF_some f _ _ _ h
    · by_cases hb : (c.toNat = 0 ∧ 0 < k) ∨ (k = 9 ∧ 1 < c.toNat)
      · rw [getF_bad h1 hb]; simp
      · rw [getF_ok h1 hb]; simp
theorem valF_encF : ∀ (f u : Nat), u < 128 ^ f → valF (encF f u) = u
  | 0, u, h => by simp at h; subst h; rfl
  | f + 1, u, h => by
    by_cases hlt : u < 128
    · rw [encF_one hlt]
      simp only [valF, UInt8.toNat_ofNat']
      omega
    · rw [encF_more hlt]
      simp only [valF, UInt8.toNat_ofNat']
      rw [valF_encF f (u / 128) (by rw [Nat.pow_succ] at h; exact Nat.div_lt_of_lt_mul (by rw [Nat.mul_comm]; exact h))]
      omega
theorem refI_eq (b : List UInt8) : refI b = getI b := by
  unfold refI
  by_cases h0 : lenF 10 0 b = 0
  · have := getF_none 10 0 0 b h0
    rw [getI, this]
    by_cases hl : b.length < 10
    · rw [if_pos ⟨h0, hl⟩, if_pos hl]
    · rw [if_neg (by omega), if_pos (.inl h0), if_neg hl]
  · rw [if_neg (by omega)]
    obtain ⟨s1, s2, s3⟩ := getI_spec b
    rcases s3 with s3 | s3 | s3
    · obtain ⟨x, used, e, hg⟩ : ∃ x used e, getI b = (x, used, e) := ⟨_, _, _, rfl⟩
      rw [hg] at s3 s2
      obtain rfl : e = 0 := s3
      have s2 : I64 x := s2
      have hl : lenF 10 0 b = used := by
        have := getF_ok_len 10 0 0 b (by show (getI b).2.2 = 0; rw [hg])
        rw [this]
        show (getI b).2.1 = used
        rw [hg]
      obtain ⟨c1, c2⟩ := getI_canon hg
      have hv : valF (b.take used) = zig x := by
        rw [← c2]
        exact valF_encF 10 (zig x) (Nat.lt_trans (zig_lt s2) pow10)
      rw [hl, hv, Nat.mod_eq_of_lt (zig_lt s2), unzig_zig, if_neg, hg]
      intro h
      rcases h with h | h
      · omega
      · exact h c2
    · exact (getF_some 10 0 0 b h0 (by show (getI b).2.2 = 6; rw [s3])).elim
    · rw [s3, if_pos]
      refine .inr fun h => ?_
      have hm : I64 (unzig (valF (b.take (lenF 10 0 b)) % 2 ^ 64)) := unzig_i64 (Nat.mod_lt _ (by decide))
      have := getI_encI hm (b.drop (lenF 10 0 b))
      rw [h, List.take_append_drop, s3] at this
      simp at this

/-- A length, as the references read it. -/
def refP (s : Nat) (b : List UInt8) : Int × Nat × Nat :=
  if (getI b).2.2 ≠ 0 then (0, 0, (getI b).2.2) else if (getI b).1 < 0 then (0, 0, 7) else if (b.length : Int) < (getI b).1 ∨ (b.length : Int) - (getI b).2.1 < (getI b).1 * s then (0, 0, 6) else getI b
theorem refP_eq {s : Nat} (hs : 1 ≤ s) (b : List UInt8) : (refP s b).2.2 = (countP s b).2.2 ∧ ((countP s b).2.2 = 0 → refP s b = countP s b) := by
  obtain ⟨s1, s2, s3⟩ := getI_spec b
  unfold refP countP
  generalize getI b = t at *
  obtain ⟨n, at_, e⟩ := t
  simp only at *
  by_cases he : e = 0
  · subst he
    simp only [ne_eq, not_true_eq_false, if_false]
    by_cases hn : n < 0
    · simp [hn]
    · obtain ⟨m, rfl⟩ : ∃ m : Nat, n = m := ⟨n.toNat, by omega⟩
      have hiff : ((b.length : Int) < (m : Int) ∨ (b.length : Int) - at_ < (m : Int) * s) ↔ (((b.length - at_) / s : Nat) : Int) < (m : Int) := by
        have h1 : (b.length - at_) / s < m ↔ b.length - at_ < m * s := Nat.div_lt_iff_lt_mul hs
        have h2 : m ≤ m * s := Nat.le_mul_of_pos_right m hs
        have h3 : ((m : Int) * s) = ((m * s : Nat) : Int) := by push_cast; rfl
        rw [h3]
        constructor
        · intro h
          have : b.length - at_ < m * s := by omega
          have := h1.2 this
          omega
        · intro h
          have : (b.length - at_) / s < m := by omega
          have := h1.1 this
          right
          omega
      simp only [hn, if_false]
      by_cases hc : (((b.length - at_) / s : Nat) : Int) < (m : Int)
      · rw [if_pos (hiff.2 hc), if_pos hc]; simp
      · rw [if_neg (fun h => hc (hiff.1 h)), if_neg hc]; simp
  · rw [if_pos he, if_pos he]
    simp [he]
end Go.Proofs.YtcobalpbencboaaDoor

/- Package wire: the references' decoding of integers and of lists, walked. -/
--@opt
--@hgp
--@idxv
namespace Go.Proofs.YtcobalpbencboaaDoor
set_option linter.unusedSimpArgs false
set_option linter.unusedVariables false
open Go.RowKit Go.Sl

theorem u8_mod128 (c : UInt8) : ((c.toNat : Int) % 128) = ((c.toNat % 128 : Nat) : Int) := by omega
theorem val_step {b : List UInt8} {n k : Nat} (hn : n ≤ b.length) (hk : k < n) : valF ((b.take n).drop k) = b[k].toNat % 128 + 128 * valF ((b.take n).drop (k + 1)) := by
  have h : k < (b.take n).length := by rw [List.length_take]; omega
  rw [List.drop_eq_getElem_cons h, valF, List.getElem_take]

theorem refInt_f {S M} (w : World) (hst : St S M w) (n : Int) (hn : I64 n) : Rets Tryd.prog 50 [.int .i64 n] w fun v w' => Fz UInt8 S M (encI n) v w' :=
  Rets.mono (refInt_c w hst n hn) fun _ _ h => fz_u8 h
theorem xor_off {x : Nat} (h : x < 2 ^ 64) : wrap64 (IntKind.u64.wrap ((x : Int) / 2)) = ((x / 2 : Nat) : Int) := by
  rw [show ((x : Int) / 2) = ((x / 2 : Nat) : Int) by omega, wrap_u64 (by omega)]
  unfold wrap64; omega
theorem unzig0 {x : Nat} (h : x < 2 ^ 64) (hp : ((x : Int) % 2 == 1) = false) : wrap64 (IntKind.u64.wrap ((x : Int) / 2)) = unzig x := by
  rw [xor_off h, unzig, if_neg (by have := beq_eq_false_iff_ne.1 hp; omega)]
theorem unzig1 {x : Nat} (h : x < 2 ^ 64) (hp : ((x : Int) % 2 == 1) = true) : wrap64 (wrap64 (-wrap64 (IntKind.u64.wrap ((x : Int) / 2))) - 1) = unzig x := by
  rw [xor_off h, unzig, if_pos (by have := eq_of_beq hp; omega)]
  unfold wrap64; omega
theorem val_wrap {x v : Nat} {c : UInt8} (h : x = v % 2 ^ 64) : IntKind.u64.wrap (IntKind.u64.wrap (128 * (x : Int)) + (c.toNat : Int) % 128) = (((c.toNat % 128 + 128 * v) % 2 ^ 64 : Nat) : Int) := by
  subst h
  have e1 : IntKind.u64.wrap (128 * ((v % 2 ^ 64 : Nat) : Int)) = ((128 * v % 2 ^ 64 : Nat) : Int) := by
    have e0 : ∀ m : Nat, (128 * (m : Int)) = ((128 * m : Nat) : Int) := fun m => by push_cast; rfl
    rw [e0, wrap_nat, Nat.mul_mod_mod]
  rw [e1, u8_mod128]
  rw [← Int.natCast_add, wrap_nat, Nat.mod_add_mod, Nat.add_comm]

end Go.Proofs.YtcobalpbencboaaDoor

/- Fields of own boxes stored, flat, the place apart. General over the program. -/
namespace Go.Sl
set_option linter.unusedSimpArgs false
set_option linter.unusedVariables false
open Go.RowKit
section
variable {P : Program} {S : Snap} {M : List Chunk} {l : List Value} {α β : Type} [Rep α] [Rep β] {ops : Array Oper} {rest : List Oper} {Q : Exit → Act → World → Prop} {D : List Deferred} {w : World} {ty : TypeId} {pos : String} {af : Array Edge} {d : Tmp}
/-- A field of an own box stored, both flat. -/
theorem s_stFo {T B : TypeId} {x y : Operand} {agg : Bool} {zero : List Value} {bb b off off' : Nat} (kf : Nat) {k : Nat} {cells : α → List Value} {get : α → β} {put : α → β → α} {x0 : α} {y0 : β} {cs : List Value} (hst : St S M w) (hF : FlatC α cells) (hx : evF l x = .pointer (some ⟨b, off, none⟩)) (hk : M[k]? = some (.box b (cells x0) B))
    (i : HasF α kf β off' get put) (ho : off = off') (h0 : Rep.R S (cells x0) x0) (hT : Ty P T agg (Rep.z β) zero bb) (hy : evF l y = vOf agg cs) (hR : Rep.R S cs y0) (ha : agg = false → Rep.z β = 1)
    (h : ∀ w', Rep.R S (cells (put x0 y0)) (put x0 y0) → St S (M.set k (.box b (cells (put x0 y0)) B)) w' → wpList P ops Q rest ⟨l.toArray, D⟩ w') :
    wpList P ops Q (⟨none, .store T x y, ty, pos, af, none⟩ :: rest) ⟨l.toArray, D⟩ w := by
  subst ho
  exact s_stF hst hF hx hk i h0 hT hy hR ha h
end
end Go.Sl

/- Package register's reference: raw digests, leaves, starts, extensions, walked. -/
--@u32
--@hgp
--@flat
--@dg
--@ex0
--@b8
namespace Go.Proofs.YtcobalpbencboaaDoor
set_option linter.unusedSimpArgs false
set_option linter.unusedVariables false
open Go.RowKit Go.Sl

theorem u8s_take_succ {b : List UInt8} {n : Nat} (h : n < b.length) : u8s (b.take (n + 1)) = u8s (b.take n) ++ [.int .u8 ((b.getD n 0).toNat : Int)] := by
  rw [List.take_succ_eq_append_getElem h, u8s_append, List.getD_eq_getElem?_getD, List.getElem?_eq_getElem h]
  rfl

set_option maxRecDepth 8000 in
set_option maxHeartbeats 1000000 in
theorem refRaw_f {S M} (w : World) (hst : St S M w) (d : Dg) (hd : d.l.length = 16) :
    Rets Tryd.prog 56 [dgV d] w fun v w' => Fz UInt8 S M d.l v w' := by
  unfold Rets
  haveI : LenIs d.l 16 := ⟨hd⟩
  go_enter Tryd.func56, Tryd.ntmps56
  repeat' (first | ((fail_if_success (go_big_may)); (go_step)) | (((((refine s_box hst evX rfl ?_; clear hst; intro bx w hst)))) <;> (try refine nY ?_) <;> (try replace hst := nH hst)))
  have hst := hst.nil 5 1
  go_loopw [3, 4] (fun u v wr => ∃ n : Nat, n ≤ 16 ∧ v = .int .i64 n ∧ u.oneCell' = true ∧ St S (.sl u 5 1 n (u8s (d.l.take n)) :: .box bx (u8s d.l) 28 :: M) wr) (fun _ v _ => 16 - (intOf v).toNat)
  case atStart => exact ⟨0, by omega, rfl, rfl, hst⟩
  case round =>
    clear hst
    obtain ⟨n, hn, rfl, hone, hst⟩ := hrel
    by_cases hlt : n < 16
    · have hsu := Lib.hid (u8s_take_succ (b := d.l) (n := n) (by omega))
      repeat' (first | ((fail_if_success (go_big_may)); (go_step)) | ((first | (with_reducible refine Sl.k_load ?_; (refine s_qt hst (by exact qt_ldB8 evX BoxIn.h inX omX) ?_)) | (with_reducible refine Sl.k_index ?_; (refine s_qt hst (qt_indexA rfl rfl inX inX omX omX) ?_))) <;> (try refine nY ?_)) | (with_reducible refine Sl.gate rfl ?_; (go_step)))
      refine s_lit (vs := [.int .u8 ((d.l.getD n 0).toNat : Int)]) hst inX inX rfl rfl (by simp [Value.cells]) rfl (by omega) (by omega) ?_
      clear hst; intro u w hst
      refine nY ?_
      repeat' (fail)
      refine s_append (j := 0) hst evX evX SlIn.h rfl inX inX inX (by simp [Value.cells, Value.oneCell']) (by omega) (by omega) (by decide) ?_
      clear hst; intro v' w hst
      refine nY ?_
      (try replace hst := nH hst)
      replace hst := hst.drop
      repeat' (first | ((fail_if_success (go_big_may)); (go_step)) | (with_reducible refine Sl.gate rfl ?_; (go_step)))
      have hone' := sl_one hst
      go_roundw
      case rel => exact ⟨n + 1, by omega, by go_num, hone', by rw [hsu.out]; exact hst⟩
      case measure => simp [intOf]; omega
    · obtain rfl : n = 16 := by omega
      rw [List.take_of_length_le (by omega)] at hst
      repeat' (first | ((fail_if_success (go_big_may)); (go_step)) | (with_reducible refine Sl.gate rfl ?_; (go_step)))
      go_ret
      obtain ⟨S2, hS2, hst, hv⟩ := St.freeze (α := UInt8) hst (rl_u8 d.l) (by omega)
      exact ⟨_, rfl, S2, hS2, hv, hone, hst.drop⟩

set_option maxRecDepth 8000 in
set_option maxHeartbeats 400000 in
theorem rleaf_c {S M} (w : World) (hst : St S M w) (i t : Int) (hi : I64 i) (ht : I64 t) :
    Rets Tryd.prog 28 [.int .i64 i, .int .i64 t] w fun v w' => v = dgV (leafP i t) ∧ St S M w' := by
  unfold Rets
  haveI : LenIs (leafP i t).l 16 := ⟨leafP_len i t⟩
  go_enter Tryd.func28, Tryd.ntmps28
  repeat' (first | (((with_reducible refine Sl.k_call ?_; ((refine s_call (refInt_f _ hst i hi) inX rfl ?_; clear hst; rintro v w ⟨S1, hS1, h1, h11, hst⟩)))) <;> (try refine nY ?_) <;> (try replace hst := nH hst)) | ((fail_if_success (go_big_may)); (go_step)) | (((((refine s_alloc hst inX ?_; clear hst; intro bk w hst)))) <;> (try refine nY ?_) <;> (try replace hst := nH hst)))
  repeat' ((((with_reducible refine Sl.k_call ?_; ((refine s_call (refInt_f _ hst t ht) inX rfl ?_; clear hst; rintro v w ⟨S2, hS2, h2, h21, hst⟩)))) <;> (try refine nY ?_) <;> (try replace hst := nH hst)))
  refine s_parts hst (.cons (h1.mono hS2) (.cons h2 .nil)) inX inX rfl rfl (by omega) ?_
  clear hst; intro S3 u w hS3 hu hu1 hst
  (try refine nY ?_)
  repeat' (first | (((with_reducible refine Sl.k_call ?_; ((refine s_call (refDigest_c _ hst 10 (by omega) _ _ hu (Nat.le_trans (size2 (encI_len i) (encI_len t)) (by omega))) inX rfl ?_; clear hst; rintro v w ⟨rfl, hst⟩)))) <;> (try refine nY ?_) <;> (try replace hst := nH hst)) | ((fail_if_success (go_big_may)); (go_step)) | (((((with_reducible refine Sl.k_store ?_; (refine s_stD hst rfl BoxIn.h inX evX inX lenX ?_); clear hst; intro w hst)))) <;> (try refine nY ?_) <;> (try replace hst := nH hst)))
  exact ret_D rfl hst rfl BoxIn.h inX inX ⟨_, rfl, rfl, St.weaken ((hS1.trans hS2).trans hS3) hst.drop⟩

set_option maxRecDepth 8000 in
set_option maxHeartbeats 1000000 in
theorem rstart_c {S M} (w : World) (hst : St S M w) (m : Dg) (hm : m.l.length = 16) :
    Rets Tryd.prog 32 [dgV m] w fun v w' => v = rgV (startM m) ∧ St S M w' := by
  unfold Rets
  haveI : LenIs m.l 16 := ⟨hm⟩
  have hX : Hid (startM m = (⟨dig 7 [encI 0, m.l]⟩, ⟨dig 7 [encI 1, m.l]⟩, ())) := Lib.hid rfl
  have c0 := fun {S : Snap} {M : List Chunk} (w : World) (hst : St S M w) (vp : Value) (hp : RSl S vp [encI 0, m.l]) => refDigest_c w hst 7 (by omega) vp _ hp (Nat.le_trans (size2 (encI_len 0) (Nat.le_of_eq hm)) (by omega))
  have c1 := fun {S : Snap} {M : List Chunk} (w : World) (hst : St S M w) (vp : Value) (hp : RSl S vp [encI 1, m.l]) => refDigest_c w hst 7 (by omega) vp _ hp (Nat.le_trans (size2 (encI_len 1) (Nat.le_of_eq hm)) (by omega))
  have l0 : (dig 7 [encI 0, m.l]).length = 16 := dig_len _ _
  have l1 : (dig 7 [encI 1, m.l]).length = 16 := dig_len _ _
  generalize dig 7 [encI 0, m.l] = D0 at *
  generalize dig 7 [encI 1, m.l] = D1 at *
  have hok : RgOk (⟨D0⟩, ⟨D1⟩, ()) := ⟨l0, l1⟩
  go_enter Tryd.func32, Tryd.ntmps32
  repeat' ((fail_if_success (with_reducible show Code.wp _ (Code.region 2 _ _) _ _ _)); first | (((with_reducible refine Sl.k_call ?_; ((refine s_call (refRaw_f _ hst m hm) inX rfl ?_; clear hst; rintro v w ⟨S1, hS1, hv1, hv11, hst⟩)))) <;> (try refine nY ?_) <;> (try replace hst := nH hst)) | ((fail_if_success (go_big_may)); (go_step)) | (((with_reducible refine Sl.k_load ?_; (refine s_qt hst (by exact qt_loadD evX BoxIn.h inX inX) ?_))) <;> (try refine nY ?_)) | ((((first | (refine s_box hst evX rfl ?_; clear hst; intro bx w hst) | (refine s_alloc hst inX ?_; clear hst; intro bk w hst)))) <;> (try refine nY ?_) <;> (try replace hst := nH hst)))
  refine wp_region_lit ?_
  refine s_qt hst (qt_buildF flatRg inX inX (r_rg rg0_ok) .nil) ?_
  (try refine nY ?_)
  repeat' ((((((refine s_alloc hst inX ?_; clear hst; intro bk w hst)))) <;> (try refine nY ?_) <;> (try replace hst := nH hst)))
  refine s_stW0 hst rfl BoxIn.h inX (x0 := rg0) (cs := rgC rg0) evX (r_rg rg0_ok) rfl ?_
  clear hst; intro w hst
  (try refine nY ?_)
  (try replace hst := nH hst)
  repeat' (first | (((with_reducible refine Sl.k_call ?_; ((refine s_call (refInt_f _ hst 0 (by unfold I64; omega)) inX rfl ?_; clear hst; rintro v w ⟨S2, hS2, hv2, hv21, hst⟩)))) <;> (try refine nY ?_) <;> (try replace hst := nH hst)) | ((fail_if_success (go_big_may)); (go_step)))
  refine s_parts hst (.cons hv2 (.cons (hv1.mono hS2) .nil)) inX inX rfl rfl (by omega) ?_
  clear hst; intro S3 u3 w hS3 hu3 hu31 hst
  (try refine nY ?_)
  repeat' (first | (((with_reducible refine Sl.k_call ?_; ((refine s_call (c0 _ hst _ hu3) inX rfl ?_; clear hst; rintro v w ⟨rfl, hst⟩)))) <;> (try refine nY ?_) <;> (try replace hst := nH hst)) | (((with_reducible refine Sl.k_field ?_; (refine s_qt hst (qt_field rfl inX) ?_))) <;> (try refine nY ?_)))
  refine s_stFo 0 hst flatRg rfl BoxIn.h inX rfl (r_rg rg0_ok) inX evX (r_dgx (d := ⟨D0⟩) l0) (fun h => by cases h) ?_
  clear hst; intro w hR hst
  (try refine nY ?_)
  (try replace hst := nH hst)
  repeat' (first | (((with_reducible refine Sl.k_call ?_; ((refine s_call (refInt_f _ hst 1 (by unfold I64; omega)) inX rfl ?_; clear hst; rintro v w ⟨S4, hS4, hv4, hv41, hst⟩)))) <;> (try refine nY ?_) <;> (try replace hst := nH hst)) | ((fail_if_success (go_big_may)); (go_step)))
  refine s_parts hst (.cons hv4 (.cons (((hv1.mono hS2).mono hS3).mono hS4) .nil)) inX inX rfl rfl (by omega) ?_
  clear hst; intro S5 u5 w hS5 hu5 hu51 hst
  (try refine nY ?_)
  repeat' (first | (((with_reducible refine Sl.k_call ?_; ((refine s_call (c1 _ hst _ hu5) inX rfl ?_; clear hst; rintro v w ⟨rfl, hst⟩)))) <;> (try refine nY ?_) <;> (try replace hst := nH hst)) | (((with_reducible refine Sl.k_field ?_; (refine s_qt hst (qt_field rfl inX) ?_))) <;> (try refine nY ?_)))
  refine s_stFo 1 hst flatRg rfl BoxIn.h inX rfl (Rep.mono (hS4.trans hS5) hR) inX evX (r_dgx (d := ⟨D1⟩) l1) (fun h => by cases h) ?_
  clear hst hR; intro w hR hst
  (try refine nY ?_)
  (try replace hst := nH hst)
  repeat' (first | (((with_reducible (refine Sl.k_load ?_; with_unfolding_all refine s_qt hst (qt_loadF rfl BoxIn.h hR inX) ?_))) <;> (try refine nY ?_)) | ((fail_if_success (go_big_may)); (go_step)))
  refine s_stW0 hst rfl BoxIn.h inX evX hR rfl ?_
  clear hst; intro w hst
  (try refine nY ?_)
  (try replace hst := nH hst)
  repeat' (((fail_if_success (go_big_may)); (go_step)))
  exact ret_F rfl hst rfl BoxIn.h inX hR ⟨_, rfl, by rw [hX.out], St.weaken ((((hS1.trans hS2).trans hS3).trans hS4).trans hS5) hst.drop.drop.drop⟩

set_option maxRecDepth 8000 in
set_option maxHeartbeats 2000000 in
theorem rext_c {S M} (w : World) (hst : St S M w) (r : Rg) (hr : RgOk r) (h : Hd) (hh : HdOk h) :
    Rets Tryd.prog 34 [rgV r, hdV h] w fun v w' => v = rgV (extM r h) ∧ St S M w' := by
  unfold Rets
  have hX : Hid (extM r h = (⟨dig 9 [r.1.l, h.1.l, encI h.2.2.1, h.2.2.2.1.l, h.2.2.2.2.1.l, encI h.2.2.2.2.2.1]⟩, ⟨dig 9 [r.2.1.l, h.2.1.l]⟩, ())) := Lib.hid rfl
  have hl1 := hr.a
  have hl2 := hr.b
  have hl3 := hh.a
  have hl4 := hh.b
  have hl5 := hh.d
  have hl6 := hh.e
  have hi1 := hh.c
  have hi2 := hh.f
  have he1 := encI_len h.2.2.1
  have he2 := encI_len h.2.2.2.2.2.1
  have cA := fun {S : Snap} {M : List Chunk} (w : World) (hst : St S M w) (vp : Value) (hp : RSl S vp [r.1.l, h.1.l, encI h.2.2.1, h.2.2.2.1.l, h.2.2.2.2.1.l, encI h.2.2.2.2.2.1]) => refDigest_c w hst 9 (by omega) vp _ hp (by simp [sizeB]; omega)
  have cB := fun {S : Snap} {M : List Chunk} (w : World) (hst : St S M w) (vp : Value) (hp : RSl S vp [r.2.1.l, h.2.1.l]) => refDigest_c w hst 9 (by omega) vp _ hp (by simp [sizeB]; omega)
  have l0 : (dig 9 [r.1.l, h.1.l, encI h.2.2.1, h.2.2.2.1.l, h.2.2.2.2.1.l, encI h.2.2.2.2.2.1]).length = 16 := dig_len _ _
  have l1 : (dig 9 [r.2.1.l, h.2.1.l]).length = 16 := dig_len _ _
  generalize dig 9 [r.1.l, h.1.l, encI h.2.2.1, h.2.2.2.1.l, h.2.2.2.2.1.l, encI h.2.2.2.2.2.1] = D0 at *
  generalize dig 9 [r.2.1.l, h.2.1.l] = D1 at *
  go_enter Tryd.func34, Tryd.ntmps34
  repeat' ((fail_if_success (with_reducible show Code.wp _ (Code.region 1 _ _) _ _ _)); first | ((fail_if_success (go_big_may)); (go_step)) | ((((first | (refine s_box hst evX rfl ?_; clear hst; intro bx w hst) | (refine s_alloc hst inX ?_; clear hst; intro bk w hst)))) <;> (try refine nY ?_) <;> (try replace hst := nH hst)))
  obtain ⟨S1, hS1, hst, hph⟩ := pt_box (α := Hd) (hst.perm (List.Perm.swap _ _ _)) (r_hd hh) (Rep.len (S := S) (r_hd hh))
  obtain ⟨S2, hS2, hst, hpr⟩ := pt_box (α := Rg) hst.swap (r_rg hr) (Rep.len (S := S) (r_rg hr))
  replace hph := hph.mono hS2
  have hle := hS1.trans hS2
  refine wp_region_lit ?_
  refine s_qt hst (qt_buildF flatRg inX inX (r_rg rg0_ok) .nil) ?_
  (try refine nY ?_)
  repeat' ((((((refine s_alloc hst inX ?_; clear hst; intro bk w hst)))) <;> (try refine nY ?_) <;> (try replace hst := nH hst)))
  refine s_stW0 hst rfl BoxIn.h inX (x0 := rg0) (cs := rgC rg0) evX (r_rg rg0_ok) rfl ?_
  clear hst; intro w hst
  (try refine nY ?_)
  (try replace hst := nH hst)
  repeat' (((fail_if_success (go_big_may)); (go_step)))
  refine v_begin hst (by kernel_rfl) ?_; clear hst; intro ops; (try refine nY ?_)
  ((refine t_ex0 0 rfl (by kernel_rfl) rfl rfl (qt_fieldp evX hpr inX inX rfl ) ?_; rintro  vf hpf)) <;> (try refine nY ?_)
  (refine t_qt 1 rfl (by kernel_rfl) rfl rfl (by exact qt_ldp_flat evX asX inX inX rfl) ?_) <;> (try refine nY ?_)
  ((refine t_ex0 3 rfl (by kernel_rfl) rfl rfl (qt_fieldp evX hph inX inX rfl ) ?_; rintro  vf hpf)) <;> (try refine nY ?_)
  (refine t_qt 4 rfl (by kernel_rfl) rfl rfl (by exact qt_ldp_flat evX asX inX inX rfl) ?_) <;> (try refine nY ?_)
  ((refine t_ex0 6 rfl (by kernel_rfl) rfl rfl (qt_fieldp evX hph inX inX rfl ) ?_; rintro  vf hpf)) <;> (try refine nY ?_)
  ((refine t_ex0 7 rfl (by kernel_rfl) rfl rfl (qt_ldp_int evX asX inX) ?_; rintro v ⟨rfl, hI⟩)) <;> (try refine nY ?_)
  ((refine t_ex0 9 rfl (by kernel_rfl) rfl rfl (qt_fieldp evX hph inX inX rfl ) ?_; rintro  vf hpf)) <;> (try refine nY ?_)
  (refine t_qt 10 rfl (by kernel_rfl) rfl rfl (by exact qt_ldp_flat evX asX inX inX rfl) ?_) <;> (try refine nY ?_)
  ((refine t_ex0 12 rfl (by kernel_rfl) rfl rfl (qt_fieldp evX hph inX inX rfl ) ?_; rintro  vf hpf)) <;> (try refine nY ?_)
  (refine t_qt 13 rfl (by kernel_rfl) rfl rfl (by exact qt_ldp_flat evX asX inX inX rfl) ?_) <;> (try refine nY ?_)
  ((refine t_ex0 15 rfl (by kernel_rfl) rfl rfl (qt_fieldp evX hph inX inX rfl ) ?_; rintro  vf hpf)) <;> (try refine nY ?_)
  ((refine t_ex0 16 rfl (by kernel_rfl) rfl rfl (qt_ldp_int evX asX inX) ?_; rintro v ⟨rfl, hI⟩)) <;> (try refine nY ?_)
  refine v_one 2 rfl (by kernel_rfl) ?_; intro w hst K hK; refine s_call (refRaw_f w hst r.1 hl1) inX rfl ?_; clear hst; rintro v2 w ⟨T2, hT2, hv2, hv21, hst⟩; (try refine nY ?_); (try replace hst := nH hst); refine v_next hK hst hT2 (Suf.refl _) ?_; clear hst hK K; (try clear w); (try refine nY ?_)
  refine v_one 5 rfl (by kernel_rfl) ?_; intro w hst K hK; refine s_call (refRaw_f w hst h.1 hl3) inX rfl ?_; clear hst; rintro v5 w ⟨T5, hT5, hv5, hv51, hst⟩; (try refine nY ?_); (try replace hst := nH hst); refine v_next hK hst hT5 (Suf.refl _) ?_; clear hst hK K; (try clear w); (try refine nY ?_)
  refine v_one 8 rfl (by kernel_rfl) ?_; intro w hst K hK; refine s_call (refInt_f w hst _ hi1) inX rfl ?_; clear hst; rintro v8 w ⟨T8, hT8, hv8, hv81, hst⟩; (try refine nY ?_); (try replace hst := nH hst); refine v_next hK hst hT8 (Suf.refl _) ?_; clear hst hK K; (try clear w); (try refine nY ?_)
  refine v_one 11 rfl (by kernel_rfl) ?_; intro w hst K hK; refine s_call (refRaw_f w hst h.2.2.2.1 hl5) inX rfl ?_; clear hst; rintro v11 w ⟨T11, hT11, hv11, hv111, hst⟩; (try refine nY ?_); (try replace hst := nH hst); refine v_next hK hst hT11 (Suf.refl _) ?_; clear hst hK K; (try clear w); (try refine nY ?_)
  refine v_one 14 rfl (by kernel_rfl) ?_; intro w hst K hK; refine s_call (refRaw_f w hst h.2.2.2.2.1 hl6) inX rfl ?_; clear hst; rintro v14 w ⟨T14, hT14, hv14, hv141, hst⟩; (try refine nY ?_); (try replace hst := nH hst); refine v_next hK hst hT14 (Suf.refl _) ?_; clear hst hK K; (try clear w); (try refine nY ?_)
  refine v_one 17 rfl (by kernel_rfl) ?_; intro w hst K hK; refine s_call (refInt_f w hst _ hi2) inX rfl ?_; clear hst; rintro v17 w ⟨T17, hT17, hv17, hv171, hst⟩; (try refine nY ?_); (try replace hst := nH hst); refine v_next hK hst hT17 (Suf.refl _) ?_; clear hst hK K; (try clear w); (try refine nY ?_)
  refine v_one 18 rfl (by kernel_rfl) ?_; intro w hst K hK; refine s_parts hst (.cons ((((((hv2.mono hT5).mono hT8).mono hT11).mono hT14).mono hT17)) (.cons (((((hv5.mono hT8).mono hT11).mono hT14).mono hT17)) (.cons ((((hv8.mono hT11).mono hT14).mono hT17)) (.cons ((hv11.mono hT14).mono hT17) (.cons (hv14.mono hT17) (.cons hv17 .nil)))))) inX inX rfl rfl (by omega) ?_; clear hst; intro T18 v18 w hT18 hv18 hv181 hst; (try refine nY ?_); (try replace hst := nH hst); refine v_next hK hst hT18 (Suf.refl _) ?_; clear hst hK K; (try clear w); (try refine nY ?_)
  (refine t_call 19 rfl (by kernel_rfl) rfl (fun S' M' w hS hM hst => cA w hst _ (hv18.mono hS)) inX rfl ?_) <;> (try refine nY ?_)
  (refine t_qt 20 rfl (by kernel_rfl) rfl rfl (qt_field rfl inX) ?_) <;> (try refine nY ?_)
  refine v_one 21 rfl (by kernel_rfl) ?_; intro w hst K hK; refine s_stFo 0 hst flatRg rfl BoxIn.h inX rfl (r_rg rg0_ok) inX evX (r_dgx (d := ⟨D0⟩) l0) (fun h => by cases h) ?_; clear hst; intro w hR hst; (try refine nY ?_); (try replace hst := nH hst); refine v_last hK hst ?_; clear hst hK K; (try clear w); (try refine nY ?_)
  refine v_done (by kernel_rfl) ?_; clear ops; intro w hst
  have hT := (((((hT2.trans hT5).trans hT8).trans hT11).trans hT14).trans hT17).trans hT18
  replace hph := hph.mono hT
  replace hpr := hpr.mono hT
  replace hle := hle.trans hT
  clear hT hT2 hT5 hT8 hT11 hT14 hT17 hT18 hv2 hv5 hv8 hv11 hv14 hv17
  repeat' (((fail_if_success (go_big_may)); (go_step)))
  refine v_begin hst (by kernel_rfl) ?_; clear hst; intro ops; (try refine nY ?_)
  ((refine t_ex0 0 rfl (by kernel_rfl) rfl rfl (qt_fieldp evX hpr inX inX rfl ) ?_; rintro  vf hpf)) <;> (try refine nY ?_)
  (refine t_qt 1 rfl (by kernel_rfl) rfl rfl (by exact qt_ldp_flat evX asX inX inX rfl) ?_) <;> (try refine nY ?_)
  ((refine t_ex0 3 rfl (by kernel_rfl) rfl rfl (qt_fieldp evX hph inX inX rfl ) ?_; rintro  vf hpf)) <;> (try refine nY ?_)
  (refine t_qt 4 rfl (by kernel_rfl) rfl rfl (by exact qt_ldp_flat evX asX inX inX rfl) ?_) <;> (try refine nY ?_)
  refine v_one 2 rfl (by kernel_rfl) ?_; intro w hst K hK; refine s_call (refRaw_f w hst r.2.1 hl2) inX rfl ?_; clear hst; rintro v2 w ⟨T2, hT2, hv2, hv21, hst⟩; (try refine nY ?_); (try replace hst := nH hst); refine v_next hK hst hT2 (Suf.refl _) ?_; clear hst hK K; (try clear w); (try refine nY ?_)
  refine v_one 5 rfl (by kernel_rfl) ?_; intro w hst K hK; refine s_call (refRaw_f w hst h.2.1 hl4) inX rfl ?_; clear hst; rintro v5 w ⟨T5, hT5, hv5, hv51, hst⟩; (try refine nY ?_); (try replace hst := nH hst); refine v_next hK hst hT5 (Suf.refl _) ?_; clear hst hK K; (try clear w); (try refine nY ?_)
  refine v_one 6 rfl (by kernel_rfl) ?_; intro w hst K hK; refine s_parts hst (.cons (hv2.mono hT5) (.cons hv5 .nil)) inX inX rfl rfl (by omega) ?_; clear hst; intro T18 v18 w hT18 hv18 hv181 hst; (try refine nY ?_); (try replace hst := nH hst); refine v_next hK hst hT18 (Suf.refl _) ?_; clear hst hK K; (try clear w); (try refine nY ?_)
  (refine t_call 7 rfl (by kernel_rfl) rfl (fun S' M' w hS hM hst => cB w hst _ (hv18.mono hS)) inX rfl ?_) <;> (try refine nY ?_)
  (refine t_qt 8 rfl (by kernel_rfl) rfl rfl (qt_field rfl inX) ?_) <;> (try refine nY ?_)
  refine v_one 9 rfl (by kernel_rfl) ?_; intro w hst K hK; refine s_stFo 1 hst flatRg rfl BoxIn.h inX rfl (Rep.mono ((hT2.trans hT5).trans hT18) hR) inX evX (r_dgx (d := ⟨D1⟩) l1) (fun h => by cases h) ?_; clear hst hR; intro w hR hst; (try refine nY ?_); (try replace hst := nH hst); refine v_last hK hst ?_; clear hst hK K; (try clear w); (try refine nY ?_)
  refine v_done (by kernel_rfl) ?_; clear ops; intro w hst
  replace hle := hle.trans ((hT2.trans hT5).trans hT18)
  repeat' (first | (((with_reducible (refine Sl.k_load ?_; with_unfolding_all refine s_qt hst (qt_loadF rfl BoxIn.h hR inX) ?_))) <;> (try refine nY ?_)) | ((fail_if_success (go_big_may)); (go_step)))
  refine s_stW0 hst rfl BoxIn.h inX evX hR rfl ?_
  clear hst; intro w hst
  (try refine nY ?_)
  (try replace hst := nH hst)
  repeat' (((fail_if_success (go_big_may)); (go_step)))
  exact ret_F rfl hst rfl BoxIn.h inX hR ⟨_, rfl, by rw [hX.out], St.weaken hle hst.drop.drop⟩
end Go.Proofs.YtcobalpbencboaaDoor

/- Package register: leaves of lists, plain. -/
namespace Go.Proofs.YtcobalpbencboaaDoor
set_option linter.unusedSimpArgs false
set_option linter.unusedVariables false
open Go.RowKit Go.Sl

theorem leavesP_get (lf : Int → Int → Dg) {xs : List Int} {k : Nat} (h : k < xs.length) (h2 : k < (leavesP lf xs).length) : (leavesP lf xs)[k] = lf (k : Int) xs[k] := by
  simp only [leavesP, List.getElem_map, List.getElem_range]
  rw [List.getD_eq_getElem?_getD, List.getElem?_eq_getElem h]
  rfl
theorem leaves_succ (lf : Int → Int → Dg) {xs : List Int} {i : Nat} (h : i < xs.length) : ((List.range (i + 1)).map fun (j : Nat) => lf (j : Int) (xs.getD j 0)) = ((List.range i).map fun (j : Nat) => lf (j : Int) (xs.getD j 0)) ++ [lf (i : Int) xs[i]] := by
  rw [List.range_succ, List.map_append]
  simp only [List.map_cons, List.map_nil]
  rw [List.getD_eq_getElem?_getD, List.getElem?_eq_getElem h]
  rfl

end Go.Proofs.YtcobalpbencboaaDoor

/- Package wire: the references' encoding of lists of integers, walked. -/
--@opt
namespace Go.Proofs.YtcobalpbencboaaDoor
set_option linter.unusedSimpArgs false
set_option linter.unusedVariables false
open Go.RowKit Go.Sl

set_option maxRecDepth 8000 in
set_option maxHeartbeats 400000 in
theorem refInts_c {S M} (w : World) (hst : St S M w) (vl : Value) (xs : List Int) (hl : RSl S vl xs) (hm : xs.length ≤ 1048576) :
    Rets Tryd.prog 54 [vl] w fun v w' => St S (.sl v 5 1 (encL xs).length (u8s (encL xs)) :: M) w' := by
  unfold Rets
  go_enter Tryd.func54, Tryd.ntmps54
  repeat' (first | (((with_reducible refine Sl.k_call ?_; ((refine s_call (refInt_c w hst (xs.length : Nat) (nat_i64 hm)) inX rfl ?_; clear hst; rintro v w hst)))) <;> (try refine nX ?_) <;> (try replace hst := nH hst)) | ((fail_if_success (go_big_may)); (go_step)) | (((with_reducible refine Sl.k_call ?_; (refine s_qt hst (by exact qt_len evX asX inX) ?_))) <;> (try refine nX ?_)))
  go_loopw [3, 4] (fun u v wr => ∃ i : Nat, i ≤ xs.length ∧ v = .int .i64 i ∧ St S (.sl u 5 1 (encI xs.length ++ (xs.take i).flatMap encI).length (u8s (encI xs.length ++ (xs.take i).flatMap encI)) :: M) wr) (fun _ v _ => xs.length - (intOf v).toNat)
  case atStart => exact ⟨0, Nat.zero_le _, rfl, by simpa using hst⟩
  case round =>
    clear hst
    obtain ⟨i, hi, rfl, hst⟩ := hrel
    have hu := sl_one hst
    by_cases hlt : i < xs.length
    · have hcl : (encI xs.length ++ (xs.take i).flatMap encI).length ≤ 10 + 10 * i := by
        rw [List.length_append]
        have := encI_len xs.length
        have := flat_len (xs.take i)
        have : (xs.take i).length ≤ i := List.length_take_le _ _
        omega
      have htk : (xs.take (i + 1)).flatMap encI = (xs.take i).flatMap encI ++ encI xs[i] := by rw [List.take_add_one, List.getElem?_eq_getElem hlt, Option.toList_some, List.flatMap_append, List.flatMap_cons, List.flatMap_nil, List.append_nil]
      have Htk := Lib.hid htk
      clear htk
      have hxl := encI_len xs[i]
      generalize hc : encI xs.length ++ (xs.take i).flatMap encI = c at *
      have Hc := Lib.hid hc
      clear hc
      repeat' (first | (((with_reducible refine Sl.k_call ?_; ((refine s_call (refInt_c _ hst xs[i] hI) inX rfl ?_; clear hst; rintro v w hst)))) <;> (try refine nX ?_) <;> (try replace hst := nH hst)) | ((fail_if_success (go_big_may)); (go_step)) | ((first | (with_reducible refine Sl.k_load ?_; ((refine s_ex hst (qt_ldp_int evX asX inX) ?_; rintro v ⟨rfl, hI⟩))) | (with_reducible refine Sl.k_index ?_; (((refine s_ex hst (qt_index evX asX rfl inX inX omX omX) ?_); rintro v hp; (try simp only [Int.toNat_natCast, Int.toNat_natCast_add_one, Int.reduceToNat] at hp)))) | (with_reducible refine Sl.k_call ?_; (refine s_qt hst (by exact qt_len evX asX inX) ?_))) <;> (try refine nX ?_)) | (with_reducible refine Sl.gate rfl ?_; (go_step)))
      refine s_append (j := 0) hst evX evX SlIn.h rfl inX inX inX (u8s_one _) (by omega) (by omega) (by decide) ?_
      clear hst; intro v' w hst
      (try refine nX ?_)
      (try replace hst := nH hst)
      replace hst := hst.drop
      repeat' (first | ((fail_if_success (go_big_may)); (go_step)) | (with_reducible refine Sl.gate rfl ?_; (go_step)))
      go_roundw
      case rel =>
        refine ⟨i + 1, by omega, by go_num, ?_⟩
        rw [Htk.out, ← List.append_assoc, Hc.out, u8s_append, List.length_append]
        exact hst
      case measure => simp [intOf]; omega
    · repeat' (first | ((fail_if_success (go_big_may)); (go_step)) | (((with_reducible refine Sl.k_call ?_; (refine s_qt hst (by exact qt_len evX asX inX) ?_))) <;> (try refine nX ?_)) | (with_reducible refine Sl.gate rfl ?_; (go_step)))
      go_ret
      refine ⟨_, rfl, ?_⟩
      rw [encL]
      rw [List.take_of_length_le (by omega)] at hst
      exact hst

end Go.Proofs.YtcobalpbencboaaDoor

/- Package register's reference: heads of events, walked. -/
--@u32
--@hgp
--@flat
--@dg
--@ex0
namespace Go.Proofs.YtcobalpbencboaaDoor
set_option linter.unusedSimpArgs false
set_option linter.unusedVariables false
open Go.RowKit Go.Sl

theorem refInts_f {S M} (w : World) (hst : St S M w) (vl : Value) (xs : List Int) (hl : RSl S vl xs) (hm : xs.length ≤ 1048576) : Rets Tryd.prog 54 [vl] w fun v w' => Fz UInt8 S M (encL xs) v w' :=
  Rets.mono (refInts_c w hst vl xs hl hm) fun _ _ h => fz_u8 h

set_option maxRecDepth 8000 in
set_option maxHeartbeats 2000000 in
theorem rhead_c {S M} (w : World) (hst : St S M w) (hG : Glob S) (cs : List Value) (ev : Ev) (hR : Rep.R S cs ev) (h1 : ev.2.1.length ≤ 1000) (h2 : ev.2.2.1.length ≤ 1000) (h3 : ev.2.2.2.1.length ≤ 1000) :
    Rets Tryd.prog 30 [.agg cs.toArray] w fun v w' => v = hdV (headM ev) ∧ St S M w' := by
  unfold Rets
  obtain ⟨hs16, hf64⟩ := ev_facts hR
  obtain ⟨up, _, hup⟩ := hR.2.2.2.2.2.1
  obtain ⟨un, _, hun⟩ := hR.2.2.2.2.2.2.2.1
  have hpi := rsl_i64 hup
  have hni := rsl_i64 hun
  have hc64 : I64 (ev.2.2.1.length : Int) := by unfold I64; omega
  have hzl : (encL ev.2.1).length ≤ 10 + 10 * ev.2.1.length := encL_len _
  clear hup hun
  go_enter Tryd.func30, Tryd.ntmps30
  repeat' ((fail_if_success (with_reducible show Code.wp _ (Code.region 1 _ _) _ _ _)); first | ((fail_if_success (go_big_may)); (go_step)) | ((((first | (refine s_box hst evX rfl ?_; clear hst; intro bx w hst) | (refine s_alloc hst inX ?_; clear hst; intro bk w hst)))) <;> (try refine nY ?_) <;> (try replace hst := nH hst)))
  obtain ⟨S1, hS1, hst1, hpe⟩ := pt_box (α := Ev) hst.swap hR (Rep.len hR)
  clear hst
  have hst : St S1 (.box bk (hdC hd0) 44 :: M) w := hst1
  clear hst1
  replace hG := hG.mono hS1
  repeat' (((fail_if_success (go_big_may)); (go_step)))
  have hst := hst.nil 28 16
  go_loopw [3, 4] (fun u v wr => ∃ (n : Nat) (c : List Dg), n ≤ ev.2.2.1.length ∧ v = .int .i64 n ∧ Hid (c = (List.range n).map fun (j : Nat) => leafP (j : Int) (ev.2.2.1.getD j 0)) ∧ (n ≤ c.length ∧ c.length ≤ n) ∧ u.oneCell' = true ∧ St S1 (.sl u 28 16 c.length (cF dgC c) :: .box bk (hdC hd0) 44 :: M) wr) (fun _ v _ => ev.2.2.1.length - (intOf v).toNat)
  case atStart => exact ⟨0, [], Nat.zero_le _, rfl, Lib.hid rfl, ⟨Nat.le_refl _, Nat.le_refl _⟩, rfl, hst⟩
  case round =>
    clear hst
    obtain ⟨n, c, hn, rfl, hc, hcl2, hone, hst⟩ := hrel
    by_cases hlt : n < ev.2.2.1.length
    · have hx64 := hpi ev.2.2.1[n] (List.getElem_mem hlt)
      have hn64 : I64 (n : Int) := by unfold I64; omega
      have hsu := Lib.hid (leaves_succ leafP hlt)
      repeat' (first | (((with_reducible (refine Sl.k_field ?_; refine s_ex hst (qt_fieldp evX hpe inX inX rfl) ?_; rintro vf hpf))) <;> (try refine nY ?_)) | (((with_reducible refine Sl.k_call ?_; ((refine s_call (rleaf_c _ hst (n : Int) ev.2.2.1[n] hn64 hx64) inX rfl ?_; clear hst; rintro v w ⟨rfl, hst⟩)))) <;> (try refine nY ?_) <;> (try replace hst := nH hst)) | ((fail_if_success (go_big_may)); (go_step)) | ((first | (with_reducible refine Sl.k_load ?_; (first | (refine s_ex hst (qt_ldp_int evX asX inX) ?_; rintro v ⟨rfl, hI⟩) | (refine s_ex hst (qt_ldp_list evX asX inX) ?_; rintro v ⟨hvl, hv1⟩))) | (with_reducible refine Sl.k_index ?_; (((refine s_ex hst (qt_index evX asX rfl inX inX omX omX) ?_); rintro v hp; (try simp only [Int.toNat_natCast, Int.toNat_natCast_add_one, Int.reduceToNat] at hp)))) | (with_reducible refine Sl.k_call ?_; (refine s_qt hst (by exact qt_len evX asX inX) ?_))) <;> (try refine nY ?_)) | (with_reducible refine Sl.gate rfl ?_; (go_step)))
      refine s_lit (vs := [dgV (leafP (n : Int) ev.2.2.1[n])]) hst inX inX rfl rfl (by simp [Value.cells, u8s_length, leafP_len]) rfl (by omega) (by omega) ?_
      clear hst; intro u w hst
      (try refine nY ?_)
      (try replace hst := nH hst)
      repeat' (fail)
      refine s_append (j := 0) hst evX evX SlIn.h rfl inX inX inX (by simpa [Value.cells] using u8s_one (leafP (n : Int) ev.2.2.1[n]).l) (by omega) (by omega) (by decide) ?_
      clear hst; intro v' w hst
      (try refine nY ?_)
      (try replace hst := nH hst)
      replace hst := hst.drop
      repeat' (first | ((fail_if_success (go_big_may)); (go_step)) | (with_reducible refine Sl.gate rfl ?_; (go_step)))
      have hone' := sl_one hst
      go_roundw
      case rel => exact ⟨n + 1, c ++ [leafP (n : Int) ev.2.2.1[n]], by omega, by go_num, Lib.hid (by rw [hsu.out, hc.out]), by simp; omega, hone', by rw [List.length_append, cF_snoc]; exact hst⟩
      case measure => simp [intOf]; omega
    · obtain rfl : n = ev.2.2.1.length := by omega
      have hcE : c = leavesP leafP ev.2.2.1 := hc.out
      have hc16 : ∀ d ∈ c, d.l.length = 16 := by rw [hcE]; exact leavesP_16 leafP_len _
      obtain ⟨S2, hS2, hst2, hvc⟩ := St.freeze (α := Dg) hst (rl_digs hc16) rfl
      clear hst
      have hst := hst2
      clear hst2
      have hvc1 := hvc.oneCell
      replace hG := hG.mono hS2
      replace hpe := hpe.mono hS2
      rename_i hpold
      repeat' (first | (((with_reducible (refine Sl.k_field ?_; refine s_ex hst (qt_fieldp evX hpe inX inX rfl) ?_; rintro vf hpf))) <;> (try refine nY ?_)) | ((fail_if_success (go_big_may)); (go_step)) | ((first | (with_reducible refine Sl.k_load ?_; ((refine s_ex hst (qt_ldp_list evX asX inX) ?_; rintro v ⟨hvl, hv1⟩))) | (with_reducible refine Sl.k_call ?_; (refine s_qt hst (by exact qt_len evX asX inX) ?_))) <;> (try refine nY ?_)) | (with_reducible refine Sl.gate rfl ?_; (go_step)))
      have hst := hst.nil 28 16
      go_loopw [5, 6] (fun u v wr => ∃ (n : Nat) (c : List Dg), n ≤ ev.2.2.2.1.length ∧ v = .int .i64 n ∧ Hid (c = (List.range n).map fun (j : Nat) => noteP (j : Int) (ev.2.2.2.1.getD j 0)) ∧ (n ≤ c.length ∧ c.length ≤ n) ∧ u.oneCell' = true ∧ St S2 (.sl u 28 16 c.length (cF dgC c) :: .box bk (hdC hd0) 44 :: M) wr) (fun _ v _ => ev.2.2.2.1.length - (intOf v).toNat)
      case atStart => exact ⟨0, [], Nat.zero_le _, rfl, Lib.hid rfl, ⟨Nat.le_refl _, Nat.le_refl _⟩, rfl, hst⟩
      case round =>
        clear hst
        obtain ⟨n, c2, hn, rfl, hc2, hcl3, hone2, hst⟩ := hrel
        by_cases hlt : n < ev.2.2.2.1.length
        · have hx64 := hni ev.2.2.2.1[n] (List.getElem_mem hlt)
          have hn64 : I64 (n : Int) := by unfold I64; omega
          have hsu := Lib.hid (leaves_succ noteP hlt)
          have hl16 := noteP_len (n : Int) ev.2.2.2.1[n]
          repeat' (first | (((with_reducible (refine Sl.k_field ?_; refine s_ex hst (qt_fieldp evX hpe inX inX rfl) ?_; rintro vf hpf))) <;> (try refine nY ?_)) | ((fail_if_success (go_big_may)); (go_step)) | ((first | (with_reducible refine Sl.k_load ?_; ((refine s_ex hst (qt_ldp_list evX asX inX) ?_; rintro v ⟨hvl, hv1⟩))) | (with_reducible refine Sl.k_call ?_; (refine s_qt hst (by exact qt_len evX asX inX) ?_))) <;> (try refine nY ?_)) | (with_reducible refine Sl.gate rfl ?_; (go_step)))
          refine v_begin hst (by kernel_rfl) ?_; clear hst; intro ops; (try refine nY ?_)
          (refine t_qt 0 rfl (by kernel_rfl) rfl rfl (by exact qt_move evX) ?_) <;> (try refine nY ?_)
          (refine t_qt 1 rfl (by kernel_rfl) rfl rfl (by exact qt_move evX) ?_) <;> (try refine nY ?_)
          ((refine t_ex0 3 rfl (by kernel_rfl) rfl rfl (qt_fieldp evX hpe inX inX rfl ) ?_; rintro  vf hpf)) <;> (try refine nY ?_)
          ((refine t_ex0 4 rfl (by kernel_rfl) rfl rfl (qt_ldp_list evX asX inX ) ?_; rintro  v4 ⟨hv4, hv41⟩)) <;> (try refine nY ?_)
          (refine t_qt 5 rfl (by kernel_rfl) rfl rfl (by exact qt_move evX) ?_) <;> (try refine nY ?_)
          ((refine t_ex0 6 rfl (by kernel_rfl) rfl rfl (qt_index evX asX rfl inX inX omX omX) ?_; rintro v hp; (try simp only [Int.toNat_natCast, Int.toNat_natCast_add_one, Int.reduceToNat] at hp))) <;> (try refine nY ?_)
          ((refine t_ex0 7 rfl (by kernel_rfl) rfl rfl (qt_ldp_int evX asX inX) ?_; rintro v ⟨rfl, hI⟩)) <;> (try refine nY ?_)
          refine v_one 2 rfl (by kernel_rfl) ?_; intro w hst K hK; refine s_call (refInt_f w hst (n : Int) hn64) inX rfl ?_; clear hst; rintro v2 w ⟨T2, hT2, hv2, hv21, hst⟩; (try refine nY ?_); (try replace hst := nH hst); refine v_next hK hst hT2 (Suf.refl _) ?_; clear hst hK K; (try clear w); (try refine nY ?_)
          refine v_one 8 rfl (by kernel_rfl) ?_; intro w hst K hK; refine s_call (refInt_f w hst _ hx64) inX rfl ?_; clear hst; rintro v8 w ⟨T8, hT8, hv8, hv81, hst⟩; (try refine nY ?_); (try replace hst := nH hst); refine v_next hK hst hT8 (Suf.refl _) ?_; clear hst hK K; (try clear w); (try refine nY ?_)
          refine v_one 9 rfl (by kernel_rfl) ?_; intro w hst K hK; refine s_parts hst (.cons (hv2.mono hT8) (.cons hv8 .nil)) inX inX rfl rfl (by omega) ?_; clear hst; intro T9 u9 w hT9 hu9 hu91 hst; (try refine nY ?_); (try replace hst := nH hst); refine v_next hK hst hT9 (Suf.refl _) ?_; clear hst hK K; (try clear w); (try refine nY ?_)
          (refine t_call 10 rfl (by kernel_rfl) rfl (fun S' M' w hS hM hst => refDigest_c w hst 8 (by omega) _ _ (hu9.mono hS) (Nat.le_trans (size2 (encI_len _) (encI_len _)) (by omega))) inX rfl ?_) <;> (try refine nY ?_)
          refine v_one 11 rfl (by kernel_rfl) ?_; intro w hst K hK; refine s_lit (vs := [dgV (noteP (n : Int) ev.2.2.2.1[n])]) (cs := u8s (noteP (n : Int) ev.2.2.2.1[n]).l) hst inX inX rfl rfl (by simp [Value.cells, u8s_length, hl16]) (by simp [Value.cells]) (by omega) (by omega) ?_; clear hst; intro x11 w hst; (try refine nY ?_); (try replace hst := nH hst); refine v_next hK hst (Snap.Le.refl _) (Suf.cons (Suf.refl _)) ?_; clear hst hK K; (try clear w); (try refine nY ?_)
          refine v_one 12 rfl (by kernel_rfl) ?_; intro w hst K hK; refine s_append (j := 0) hst evX evX SlIn.h rfl inX inX inX (u8s_one (noteP (n : Int) ev.2.2.2.1[n]).l) (by omega) (by omega) (by decide) ?_; clear hst; intro x12 w hst; (try refine nY ?_); (try replace hst := nH hst); replace hst := hst.drop; have hone12 := sl_one hst; refine v_last hK hst ?_; clear hst hK K; (try clear w); (try refine nY ?_)
          (refine t_qt 13 rfl (by kernel_rfl) rfl rfl (by exact qt_assign evX) ?_) <;> (try refine nY ?_)
          refine v_done (by kernel_rfl) ?_; clear ops; intro w hst
          repeat' (first | ((fail_if_success (go_big_may)); (go_step)) | (with_reducible refine Sl.gate rfl ?_; (go_step)))
          have hone' := sl_one hst
          go_roundw
          case rel => exact ⟨n + 1, c2 ++ [noteP (n : Int) ev.2.2.2.1[n]], by omega, by go_num, Lib.hid (by rw [hsu.out, hc2.out]), by simp; omega, hone', by rw [List.length_append, cF_snoc]; exact St.weaken ((hT2.trans hT8).trans hT9) hst⟩
          case measure => simp [intOf]; omega
        · obtain rfl : n = ev.2.2.2.1.length := by omega
          have hcE2 : c2 = leavesP noteP ev.2.2.2.1 := hc2.out
          have hc216 : ∀ d ∈ c2, d.l.length = 16 := by rw [hcE2]; exact leavesP_16 noteP_len _
          obtain ⟨S3, hS3, hst2, hvd⟩ := St.freeze (α := Dg) hst (rl_digs hc216) rfl
          clear hst
          have hst := hst2
          clear hst2
          have hvd1 := hvd.oneCell
          replace hG := hG.mono hS3
          replace hpe := hpe.mono hS3
          replace hvc := hvc.mono hS3
          have hle := (hS1.trans hS2).trans hS3
          have hE : Hid (headM ev = (ev.1, ⟨dig 11 [encL ev.2.1]⟩, (ev.2.2.1.length : Int), rootM c, rootM c2, ev.2.2.2.2.1, ())) := Lib.hid (by rw [hcE, hcE2]; rfl)
          have cD := fun {S : Snap} {M : List Chunk} (w : World) (hst : St S M w) (vp : Value) (hp : RSl S vp [encL ev.2.1]) => refDigest_c w hst 11 (by omega) vp _ hp (Nat.le_trans (size1 hzl) (by omega))
          have hD16 : (dig 11 [encL ev.2.1]).length = 16 := dig_len _ _
          have cR1 := fun {S : Snap} {M : List Chunk} (w : World) (hst : St S M w) (hG : Glob S) (v : Value) (hl : RSl S v c) => refRoot_c c.length w hst hG v c hl (Nat.le_refl _) (by omega)
          have cR2 := fun {S : Snap} {M : List Chunk} (w : World) (hst : St S M w) (hG : Glob S) (v : Value) (hl : RSl S v c2) => refRoot_c c2.length w hst hG v c2 hl (Nat.le_refl _) (by omega)
          have hR1 := rootM_len c
          have hR2 := rootM_len c2
          generalize dig 11 [encL ev.2.1] = DI at *
          generalize rootM c = RP at *
          generalize rootM c2 = RN at *
          clear hcE hcE2 hc hc2
          have ok1 : HdOk (ev.1, dg0, (ev.2.2.1.length : Int), dg0, dg0, ev.2.2.2.2.1, ()) := ⟨hs16, rfl, hc64, rfl, rfl, hf64⟩
          repeat' (first | ((first | (with_reducible (refine Sl.k_field ?_; refine s_ex hst (qt_fieldp evX hpe inX inX rfl) ?_; rintro vf hpf)) | (with_reducible (refine Sl.k_build ?_; with_unfolding_all refine s_qt hst (qt_buildF (x' := ((ev.1, dg0, (ev.2.2.1.length : Int), dg0, dg0, ev.2.2.2.2.1, ()) : Hd)) flatHd inX inX (r_hd hd0_ok) (.cons (k := 0) (v := dgV ev.1) (y := ev.1) (r_dgx hs16) rfl (.cons (k := 2) (v := .int .i64 (ev.2.2.1.length : Int)) (y := (ev.2.2.1.length : Int)) ⟨rfl, hc64⟩ rfl (.cons (k := 5) (v := .int .i64 ev.2.2.2.2.1) (y := ev.2.2.2.2.1) ⟨rfl, hf64⟩ rfl .nil)))) ?_))) <;> (try refine nY ?_)) | ((fail_if_success (go_big_may)); (go_step)) | ((first | (with_reducible refine Sl.k_load ?_; (first | refine s_qt hst (by exact qt_ldp_flat evX asX inX inX rfl) ?_ | (refine s_ex hst (qt_ldp_int evX asX inX) ?_; rintro v ⟨rfl, hI⟩) | (refine s_ex hst (qt_ldp_list evX asX inX) ?_; rintro v ⟨hvl, hv1⟩))) | (with_reducible refine Sl.k_call ?_; (refine s_qt hst (by exact qt_len evX asX inX) ?_))) <;> (try refine nY ?_)) | (with_reducible refine Sl.gate rfl ?_; (go_step)) | (((((refine s_alloc hst inX ?_; clear hst; intro bk w hst)))) <;> (try refine nY ?_) <;> (try replace hst := nH hst)))
          refine s_stW0 hst rfl BoxIn.h inX (x0 := ((ev.1, dg0, (ev.2.2.1.length : Int), dg0, dg0, ev.2.2.2.2.1, ()) : Hd)) (cs := hdC (ev.1, dg0, (ev.2.2.1.length : Int), dg0, dg0, ev.2.2.2.2.1, ())) evX (r_hd ok1) rfl ?_
          clear hst; intro w hst
          (try refine nY ?_)
          (try replace hst := nH hst)
          repeat' (first | (((with_reducible (refine Sl.k_field ?_; refine s_ex hst (qt_fieldp evX hpe inX inX rfl) ?_; rintro vf hpf))) <;> (try refine nY ?_)) | (((with_reducible refine Sl.k_call ?_; ((refine s_call (refInts_f _ hst _ ev.2.1 hvl (by omega)) inX rfl ?_; clear hst; rintro v w ⟨S4, hS4, hv4, hv41, hst⟩)))) <;> (try refine nY ?_) <;> (try replace hst := nH hst)) | ((fail_if_success (go_big_may)); (go_step)) | (((with_reducible refine Sl.k_load ?_; ((refine s_ex hst (qt_ldp_list evX asX inX) ?_; rintro v ⟨hvl, hv1⟩)))) <;> (try refine nY ?_)))
          refine s_parts hst (.cons hv4 .nil) inX inX rfl rfl (by omega) ?_
          clear hst; intro S5 u5 w hS5 hu5 hu51 hst
          (try refine nY ?_)
          repeat' (first | (((with_reducible refine Sl.k_call ?_; ((refine s_call (cD _ hst _ hu5) inX rfl ?_; clear hst; rintro v w ⟨rfl, hst⟩)))) <;> (try refine nY ?_) <;> (try replace hst := nH hst)) | (((with_reducible refine Sl.k_field ?_; (refine s_qt hst (qt_field rfl inX) ?_))) <;> (try refine nY ?_)))
          refine s_stFo 1 hst flatHd rfl BoxIn.h inX rfl (r_hd ok1) inX evX (r_dgx (d := ⟨DI⟩) hD16) (fun h => by cases h) ?_
          clear hst; intro w hRH hst
          (try refine nY ?_)
          (try replace hst := nH hst)
          replace hvc := (hvc.mono hS4).mono hS5
          replace hvd := (hvd.mono hS4).mono hS5
          replace hG := (hG.mono hS4).mono hS5
          repeat' (first | (((with_reducible refine Sl.k_call ?_; ((refine s_call (cR1 _ hst hG _ hvc) inX rfl ?_; clear hst; rintro v w ⟨rfl, hst⟩)))) <;> (try refine nY ?_) <;> (try replace hst := nH hst)) | ((fail_if_success (go_big_may)); (go_step)) | (((with_reducible refine Sl.k_field ?_; (refine s_qt hst (qt_field rfl inX) ?_))) <;> (try refine nY ?_)))
          refine s_stFo 3 hst flatHd rfl BoxIn.h inX rfl hRH inX evX (r_dgx (d := RP) hR1) (fun h => by cases h) ?_
          clear hst hRH; intro w hRH hst
          (try refine nY ?_)
          (try replace hst := nH hst)
          repeat' (first | (((with_reducible refine Sl.k_call ?_; ((refine s_call (cR2 _ hst hG _ hvd) inX rfl ?_; clear hst; rintro v w ⟨rfl, hst⟩)))) <;> (try refine nY ?_) <;> (try replace hst := nH hst)) | ((fail_if_success (go_big_may)); (go_step)) | (((with_reducible refine Sl.k_field ?_; (refine s_qt hst (qt_field rfl inX) ?_))) <;> (try refine nY ?_)))
          refine s_stFo 4 hst flatHd rfl BoxIn.h inX rfl hRH inX evX (r_dgx (d := RN) hR2) (fun h => by cases h) ?_
          clear hst hRH; intro w hRH hst
          (try refine nY ?_)
          (try replace hst := nH hst)
          repeat' (first | (((with_reducible (refine Sl.k_load ?_; with_unfolding_all refine s_qt hst (qt_loadF rfl BoxIn.h hRH inX) ?_))) <;> (try refine nY ?_)) | ((fail_if_success (go_big_may)); (go_step)))
          refine s_stW0 hst rfl BoxIn.h inX evX hRH rfl ?_
          clear hst; intro w hst
          (try refine nY ?_)
          (try replace hst := nH hst)
          repeat' (((fail_if_success (go_big_may)); (go_step)))
          exact ret_F rfl hst rfl BoxIn.h inX hRH ⟨_, rfl, by rw [hE.out], St.weaken (hle.trans (hS4.trans hS5)) hst.drop.drop⟩
end Go.Proofs.YtcobalpbencboaaDoor

/- Package register: heads compared. -/
namespace Go.Proofs.YtcobalpbencboaaDoor
set_option linter.unusedSimpArgs false
set_option linter.unusedVariables false
open Go.RowKit Go.Sl
instance keyI : Key Tryd.prog 3 Int 1 := key_int (by kernel_rfl)
instance key_hd : Key Tryd.prog 44 Hd 3 := by
  refine key_struct (d := 2) Tryd.underlying44 (by kernel_rfl) (by kernel_rfl) ?_
  simp only [List.toList_toArray]
  haveI k6 : KeyFs Tryd.prog [] 66 Unit 0 := keyFs_nil
  exact keyFs_cons (d := 2) (d' := 2) rfl (by kernel_rfl) (kb := keyFs_cons (d := 2) (d' := 2) rfl (by kernel_rfl) (kb := keyFs_cons (d := 1) (d' := 2) rfl (by kernel_rfl) (kb := keyFs_cons (d := 2) (d' := 2) rfl (by kernel_rfl) (kb := keyFs_cons (d := 2) (d' := 1) rfl (by kernel_rfl) (kb := keyFs_cons (d := 1) (d' := 0) rfl (by kernel_rfl) (kb := k6))))))
instance eqt_hd : EqTy Tryd.prog 44 := ⟨by kernel_rfl, by kernel_rfl, by kernel_rfl⟩

instance decHd : DecidableEq Hd := @instDecidableEqProd _ _ inferInstance (@instDecidableEqProd _ _ inferInstance (@instDecidableEqProd _ _ inferInstance (@instDecidableEqProd Dg (Dg × Int × Unit) inferInstance inferInstance)))
end Go.Proofs.YtcobalpbencboaaDoor

/- The statement RegisterMatchesSpec, walked. -/
--@u32
--@hgp
--@flat
--@dg
--@ex0
namespace Go.Proofs.YtcobalpbencboaaDoor
set_option linter.unusedSimpArgs false
set_option linter.unusedVariables false
open Go.RowKit Go.Sl

abbrev RIn := Ev × Rg × Hd × Dg × Int × Unit

set_option maxRecDepth 8000 in
set_option maxHeartbeats 2000000 in
theorem rmatch_c {S M} (w : World) (hst : St S M w) (hG : Glob S) (cs : List Value) (x : RIn) (hR : Rep.R S cs x) (okr : RgOk x.2.1) (okh : HdOk x.2.2.1) (hm : x.2.2.2.1.l.length = 16) (ht : I64 x.2.2.2.2.1) :
    Rets Tryd.prog 9 [.agg cs.toArray] w fun v w' => v = .bool true ∧ St S M w' := by
  unfold Rets
  obtain ⟨ev, r, h, m, t, u⟩ := x
  simp only at okr okh hm ht
  haveI : LenIs m.l 16 := ⟨hm⟩
  obtain ⟨fw, hfw⟩ : ∃ b, fewM [ev] = b := ⟨_, rfl⟩
  have cW := fun {S : Snap} {M : List Chunk} (w : World) (hst : St S M w) (vl : Value) (hl : RSl S vl [ev]) => (few_c w hst vl [ev] hl (by simp)).eq hfw
  go_enter Tryd.func9, Tryd.ntmps9
  repeat' ((fail_if_success (with_reducible show Code.wp _ (Code.region 1 _ _) _ _ _)); first | ((fail_if_success (go_big_may)); (go_step)) | (((((refine s_box hst evX rfl ?_; clear hst; intro bx w hst)))) <;> (try refine nY ?_) <;> (try replace hst := nH hst)))
  obtain ⟨S1, hS1, hst1, hpi⟩ := pt_box (α := RIn) hst hR (Rep.len hR)
  clear hst
  have hst := hst1
  clear hst1
  replace hG := hG.mono hS1
  repeat' (first | (((with_reducible (refine Sl.k_field ?_; refine s_ex hst (qt_fieldp evX hpi inX inX rfl) ?_; rintro vf hpf))) <;> (try refine nY ?_)) | ((fail_if_success (go_big_may)); (go_step)) | (((with_reducible refine Sl.k_load ?_; ((refine s_ex hst (qt_ldp evX asX inX) ?_; rintro v ⟨cl, rfl, hcl⟩)))) <;> (try refine nY ?_)) | (((((refine s_alloc hst inX ?_; clear hst; intro bk w hst)))) <;> (try refine nY ?_) <;> (try replace hst := nH hst)))
  refine s_stW0 hst rfl BoxIn.h inX evX hcl rfl ?_
  clear hst; intro w hst
  (try refine nY ?_)
  (try replace hst := nH hst)
  repeat' (first | (((with_reducible (refine Sl.k_field ?_; refine s_ex hst (qt_fieldp evX hpi inX inX rfl) ?_; rintro vf hpf))) <;> (try refine nY ?_)) | ((fail_if_success (go_big_may)); (go_step)) | (((with_reducible refine Sl.k_load ?_; (refine s_qt hst (by exact qt_ldp_flat evX asX inX inX rfl) ?_))) <;> (try refine nY ?_)) | (((((refine s_alloc hst inX ?_; clear hst; intro bk w hst)))) <;> (try refine nY ?_) <;> (try replace hst := nH hst)))
  refine s_stW0 hst rfl BoxIn.h inX (x0 := r) (cs := rgC r) evX (r_rg okr) rfl ?_
  clear hst; intro w hst
  (try refine nY ?_)
  (try replace hst := nH hst)
  repeat' (first | (((with_reducible (refine Sl.k_field ?_; refine s_ex hst (qt_fieldp evX hpi inX inX rfl) ?_; rintro vf hpf))) <;> (try refine nY ?_)) | ((fail_if_success (go_big_may)); (go_step)) | (((with_reducible refine Sl.k_load ?_; (refine s_qt hst (by exact qt_ldp_flat evX asX inX inX rfl) ?_))) <;> (try refine nY ?_)) | (((((refine s_alloc hst inX ?_; clear hst; intro bk w hst)))) <;> (try refine nY ?_) <;> (try replace hst := nH hst)))
  refine s_stW0 hst rfl BoxIn.h inX (x0 := h) (cs := hdC h) evX (r_hd okh) rfl ?_
  clear hst; intro w hst
  (try refine nY ?_)
  (try replace hst := nH hst)
  repeat' (first | (((with_reducible (refine Sl.k_field ?_; refine s_ex hst (qt_fieldp evX hpi inX inX rfl) ?_; rintro vf hpf))) <;> (try refine nY ?_)) | ((fail_if_success (go_big_may)); (go_step)) | (((with_reducible refine Sl.k_load ?_; (refine s_qt hst (by exact qt_ldp_flat evX asX inX inX rfl) ?_))) <;> (try refine nY ?_)) | (((((refine s_alloc hst inX ?_; clear hst; intro bk w hst)))) <;> (try refine nY ?_) <;> (try replace hst := nH hst)))
  refine s_stW0 hst rfl BoxIn.h inX (x0 := m) (cs := u8s m.l) evX (r_dgx hm) rfl ?_
  clear hst; intro w hst
  (try refine nY ?_)
  (try replace hst := nH hst)
  obtain ⟨S2, hS2, hst2, hpm⟩ := pt_box (α := Dg) hst (r_dgx hm) (Rep.len (S := S1) (r_dgx hm))
  clear hst
  obtain ⟨S3, hS3, hst3, hph⟩ := pt_box (α := Hd) hst2 (r_hd okh) (Rep.len (S := S1) (r_hd okh))
  clear hst2
  obtain ⟨S4, hS4, hst4, hpr⟩ := pt_box (α := Rg) hst3 (r_rg okr) (Rep.len (S := S1) (r_rg okr))
  clear hst3
  obtain ⟨S5, hS5, hst, hpe⟩ := pt_box (α := Ev) hst4 (Rep.mono ((hS2.trans hS3).trans hS4) hcl) (Rep.len hcl)
  clear hst4
  have hT := ((hS2.trans hS3).trans hS4).trans hS5
  replace hpm := ((hpm.mono hS3).mono hS4).mono hS5
  replace hph := (hph.mono hS4).mono hS5
  replace hpr := hpr.mono hS5
  replace hpi := hpi.mono hT
  replace hG := hG.mono hT
  have hle := hS1.trans hT
  replace hcl := Rep.mono hT hcl
  clear hS1 hS2 hS3 hS4 hS5 hT
  clear hpf
  clear hcl
  repeat' ((fail_if_success (with_reducible show Code.wp _ (Code.region 7 _ _) _ _ _)); first | (((with_reducible (refine Sl.k_field ?_; refine s_ex hst (qt_fieldp evX hpi inX inX rfl) ?_; rintro vf hpf))) <;> (try refine nY ?_)) | (((with_reducible refine Sl.k_call ?_; ((refine s_call (rsanity_c _ hst hG) inX rfl ?_; clear hst; rintro v w ⟨rfl, hst⟩)))) <;> (try refine nY ?_) <;> (try replace hst := nH hst)) | ((fail_if_success (go_big_may)); (go_step)) | (((with_reducible refine Sl.k_load ?_; ((refine s_ex hst (qt_ldp_int evX asX inX) ?_; rintro v ⟨rfl, hI⟩)))) <;> (try refine nY ?_)))
  repeat' (first | ((fail_if_success (go_big_may)); (go_step)) | (((with_reducible refine Sl.k_load ?_; ((refine s_ex hst (qt_ldp evX asX inX) ?_; rintro v ⟨cl, rfl, hcl⟩)))) <;> (try refine nY ?_)))
  have hcl20 : cl.length = 20 := Rep.len hcl
  refine s_lit (vs := [.agg cl.toArray]) (cs := cl) hst inX inX rfl rfl (by simp [Value.cells, hcl20]) (by simp [Value.cells]) (by omega) (by omega) ?_
  clear hst; intro x w hst
  obtain ⟨S6, hS6, hst6, hx⟩ := St.freeze (α := Ev) (xs := [ev]) hst (RL.one_mk hcl) rfl
  clear hst
  have hst := hst6
  clear hst6
  have hx1 := hx.oneCell
  replace hpm := hpm.mono hS6
  replace hph := hph.mono hS6
  replace hpr := hpr.mono hS6
  replace hpe := hpe.mono hS6
  replace hG := hG.mono hS6
  (try refine nY ?_)
  cases fw with
  | false =>
    repeat' (first | (((with_reducible refine Sl.k_call ?_; ((refine s_call (cW _ hst _ hx) inX rfl ?_; clear hst; rintro v w ⟨rfl, hst⟩)))) <;> (try refine nY ?_) <;> (try replace hst := nH hst)) | ((fail_if_success (go_big_may)); (go_step)) | (with_reducible refine Sl.gate rfl ?_; (go_step)))
    go_ret
    exact ⟨_, rfl, rfl, St.weaken (hle.trans hS6) hst⟩
  | true =>
    have he := (fewM_of hfw).2 ev (.head _)
    have cH := fun {S : Snap} {M : List Chunk} (w : World) (hst : St S M w) (hG : Glob S) (cs : List Value) (hR : Rep.R S cs ev) => head_c w hst hG cs ev hR he.ok.1 he.ok.2.1 he.ok.2.2
    have cH2 := fun {S : Snap} {M : List Chunk} (w : World) (hst : St S M w) (hG : Glob S) (cs : List Value) (hR : Rep.R S cs ev) => rhead_c w hst hG cs ev hR he.ok.1 he.ok.2.1 he.ok.2.2
    have cS := fun {S : Snap} {M : List Chunk} (w : World) (hst : St S M w) (hG : Glob S) => start_c w hst hG m hm
    have cS2 := fun {S : Snap} {M : List Chunk} (w : World) (hst : St S M w) => rstart_c w hst m hm
    have cX := fun {S : Snap} {M : List Chunk} (w : World) (hst : St S M w) (hG : Glob S) => extend_c w hst hG r okr h okh
    have cX2 := fun {S : Snap} {M : List Chunk} (w : World) (hst : St S M w) => rext_c w hst r okr h okh
    have cL := fun {S : Snap} {M : List Chunk} (w : World) (hst : St S M w) (hG : Glob S) => pleaf_c w hst hG h.2.2.1 t okh.c ht
    have cL2 := fun {S : Snap} {M : List Chunk} (w : World) (hst : St S M w) => rleaf_c w hst h.2.2.1 t okh.c ht
    have okE : HdOk (headM ev) := headM_ok hcl he.ok
    have okS := startM_ok m
    have okX := extM_ok r h
    have okL := leafP_len h.2.2.1 t
    generalize headM ev = E at *
    generalize startM m = R0 at *
    generalize extM r h = X at *
    generalize leafP h.2.2.1 t = L at *
    repeat' (first | (((with_reducible refine Sl.k_call ?_; ((refine s_call (cW _ hst _ hx) inX rfl ?_; clear hst; rintro v w ⟨rfl, hst⟩)))) <;> (try refine nY ?_) <;> (try replace hst := nH hst)) | ((fail_if_success (go_big_may)); (go_step)) | (with_reducible refine Sl.gate rfl ?_; (go_step)))
    refine v_begin hst (by kernel_rfl) ?_; clear hst; intro ops; (try refine nY ?_)
    (refine t_qt 0 rfl (by kernel_rfl) rfl rfl (by exact qt_move evX) ?_) <;> (try refine nY ?_)
    (refine t_qt 1 rfl (by kernel_rfl) rfl rfl (by exact qt_move evX) ?_) <;> (try refine nY ?_)
    (((refine t_ex0 2 rfl (by kernel_rfl) rfl rfl (qt_fieldp evX hph inX inX rfl ) ?_; rintro  vf hpf))) <;> (try refine nY ?_)
    ((refine t_ex0 3 rfl (by kernel_rfl) rfl rfl (qt_ldp_int evX asX inX) ?_; rintro v ⟨rfl, hI⟩)) <;> (try refine nY ?_)
    (refine t_qt 4 rfl (by kernel_rfl) rfl rfl (by exact qt_move evX) ?_) <;> (try refine nY ?_)
    ((refine t_call 5 rfl (by kernel_rfl) rfl (fun S' M' w hS hM hst => cL w hst (hG.mono hS)) inX rfl ?_)) <;> (try refine nY ?_)
    (((refine t_ex0 6 rfl (by kernel_rfl) rfl rfl (qt_fieldp evX hph inX inX rfl ) ?_; rintro  vf hpf))) <;> (try refine nY ?_)
    ((refine t_ex0 7 rfl (by kernel_rfl) rfl rfl (qt_ldp_int evX asX inX) ?_; rintro v ⟨rfl, hI⟩)) <;> (try refine nY ?_)
    (refine t_qt 8 rfl (by kernel_rfl) rfl rfl (by exact qt_move evX) ?_) <;> (try refine nY ?_)
    ((refine t_call 9 rfl (by kernel_rfl) rfl (fun S' M' w hS hM hst => cL2 w hst) inX rfl ?_)) <;> (try refine nY ?_)
    ((refine t_qt 10 rfl (by kernel_rfl) rfl rfl (qt_eqlK_b rfl rfl (r_dgx okL) (r_dgx okL) inX inX inferInstance (decide_eq_true rfl)) ?_)) <;> (try refine nY ?_)
    (refine t_qt 11 rfl (by kernel_rfl) rfl rfl (by exact qt_pick_t rfl evX) ?_) <;> (try refine nY ?_)
    (refine t_qt 12 rfl (by kernel_rfl) rfl rfl (by exact qt_move evX) ?_) <;> (try refine nY ?_)
    (((refine t_ex0 13 rfl (by kernel_rfl) rfl rfl (qt_ldp evX hpe inX ) ?_; rintro  v13 ⟨cl13, rfl, hcl13⟩))) <;> (try refine nY ?_)
    ((refine t_call 14 rfl (by kernel_rfl) rfl (fun S' M' w hS hM hst => cH w hst (hG.mono hS) cl13 (Rep.mono hS hcl13)) inX rfl ?_)) <;> (try refine nY ?_)
    (((refine t_ex0 15 rfl (by kernel_rfl) rfl rfl (qt_ldp evX hpe inX ) ?_; rintro  v15 ⟨cl15, rfl, hcl15⟩))) <;> (try refine nY ?_)
    ((refine t_call 16 rfl (by kernel_rfl) rfl (fun S' M' w hS hM hst => cH2 w hst (hG.mono hS) cl15 (Rep.mono hS hcl15)) inX rfl ?_)) <;> (try refine nY ?_)
    ((refine t_qt 17 rfl (by kernel_rfl) rfl rfl (qt_eqlK_b rfl rfl (r_hd okE) (r_hd okE) inX inX inferInstance (decide_eq_true rfl)) ?_)) <;> (try refine nY ?_)
    (refine t_qt 18 rfl (by kernel_rfl) rfl rfl (by exact qt_pick_t rfl evX) ?_) <;> (try refine nY ?_)
    (refine t_qt 19 rfl (by kernel_rfl) rfl rfl (by exact qt_move evX) ?_) <;> (try refine nY ?_)
    (refine t_qt 20 rfl (by kernel_rfl) rfl rfl (by exact qt_ldp_flat evX asX inX inX rfl) ?_) <;> (try refine nY ?_)
    ((refine t_call 21 rfl (by kernel_rfl) rfl (fun S' M' w hS hM hst => cS w hst (hG.mono hS)) inX rfl ?_)) <;> (try refine nY ?_)
    (refine t_qt 22 rfl (by kernel_rfl) rfl rfl (by exact qt_ldp_flat evX asX inX inX rfl) ?_) <;> (try refine nY ?_)
    ((refine t_call 23 rfl (by kernel_rfl) rfl (fun S' M' w hS hM hst => cS2 w hst) inX rfl ?_)) <;> (try refine nY ?_)
    ((refine t_qt 24 rfl (by kernel_rfl) rfl rfl (qt_eqlK_b rfl rfl (r_rg okS) (r_rg okS) inX inX inferInstance (decide_eq_true rfl)) ?_)) <;> (try refine nY ?_)
    (refine t_qt 25 rfl (by kernel_rfl) rfl rfl (by exact qt_pick_t rfl evX) ?_) <;> (try refine nY ?_)
    (refine t_qt 26 rfl (by kernel_rfl) rfl rfl (by exact qt_move evX) ?_) <;> (try refine nY ?_)
    (refine t_qt 27 rfl (by kernel_rfl) rfl rfl (by exact qt_ldp_flat evX asX inX inX rfl) ?_) <;> (try refine nY ?_)
    (refine t_qt 28 rfl (by kernel_rfl) rfl rfl (by exact qt_ldp_flat evX asX inX inX rfl) ?_) <;> (try refine nY ?_)
    ((refine t_call 29 rfl (by kernel_rfl) rfl (fun S' M' w hS hM hst => cX w hst (hG.mono hS)) inX rfl ?_)) <;> (try refine nY ?_)
    (refine t_qt 30 rfl (by kernel_rfl) rfl rfl (by exact qt_ldp_flat evX asX inX inX rfl) ?_) <;> (try refine nY ?_)
    (refine t_qt 31 rfl (by kernel_rfl) rfl rfl (by exact qt_ldp_flat evX asX inX inX rfl) ?_) <;> (try refine nY ?_)
    ((refine t_call 32 rfl (by kernel_rfl) rfl (fun S' M' w hS hM hst => cX2 w hst) inX rfl ?_)) <;> (try refine nY ?_)
    ((refine t_qt 33 rfl (by kernel_rfl) rfl rfl (qt_eqlK_b rfl rfl (r_rg okX) (r_rg okX) inX inX inferInstance (decide_eq_true rfl)) ?_)) <;> (try refine nY ?_)
    (refine t_qt 34 rfl (by kernel_rfl) rfl rfl (by exact qt_pick_t rfl evX) ?_) <;> (try refine nY ?_)
    (refine t_qt 35 rfl (by kernel_rfl) rfl rfl (by exact qt_assign evX) ?_) <;> (try refine nY ?_)
    refine v_done (by kernel_rfl) ?_; clear ops; intro w hst
    repeat' (((fail_if_success (go_big_may)); (go_step)))
    go_ret
    exact ⟨_, rfl, rfl, St.weaken (hle.trans hS6) hst⟩
end Go.Proofs.YtcobalpbencboaaDoor

/- Package register: how the arguments of RegisterMatchesSpec are read. -/
namespace Go.Proofs.YtcobalpbencboaaDoor
set_option linter.unusedSimpArgs false
set_option linter.unusedVariables false
open Go.RowKit Go.Sl Go.ChangeShapes Go.WideShapes Go.ChangeAt

instance opRg : Opens Tryd.prog 42 Rg := opens_struct Tryd.underlying42 (by kernel_rfl)
  (openFs_cons rfl (by kernel_rfl) (ob := openFs_cons rfl (by kernel_rfl) (ob := openFs_nil)))
instance opRIn : Opens Tryd.prog 46 RIn := opens_struct Tryd.underlying46 (by kernel_rfl)
  (openFs_cons rfl (by kernel_rfl) (ob := openFs_cons rfl (by kernel_rfl) (ob := openFs_cons rfl (by kernel_rfl) (ob := openFs_cons rfl (by kernel_rfl) (ob := openFs_cons rfl (by kernel_rfl) (ob := openFs_nil))))))

theorem rg_okR {S : Snap} {cs : List Value} {r : Rg} (hR : Rep.R S cs r) : RgOk r := ⟨hR.2.1.1, hR.2.2.2.1.1⟩
theorem hd_okR {S : Snap} {cs : List Value} {y : Hd} (hR : Rep.R S cs y) : HdOk y := ⟨hR.2.1.1, hR.2.2.2.1.1, hR.2.2.2.2.2.1.2, hR.2.2.2.2.2.2.2.1.1, hR.2.2.2.2.2.2.2.2.2.1.1, hR.2.2.2.2.2.2.2.2.2.2.2.1.2⟩
set_option maxRecDepth 20000 in
theorem open_rin {H : Type} {enc : TypeId × Value → H} {W : World} {base : Nat} {v : Value} {d : DataW H} {p : List MemPlace} (hv : Value.okWide Tryd.prog W .any base 46 v) (h : DataW.Trod enc Tryd.prog W 0 (fun _ => true) true 46 v d p) :
    ∃ (cs : List Value) (x : RIn), v = .agg cs.toArray ∧ Rep.R (snapOf W) cs x ∧ RgOk x.2.1 ∧ HdOk x.2.2.1 ∧ x.2.2.2.1.l.length = 16 ∧ I64 x.2.2.2.2.1 := by
  obtain ⟨cs, rfl, _⟩ := okWide_struct Tryd.underlying46 hv
  obtain ⟨y, hy, _⟩ := open_arg (α := RIn) h
  have hR : Rep.R (snapOf W) cs.toList y := hy
  exact ⟨cs.toList, y, by simp, hR, rg_okR hR.2.2.2.1, hd_okR hR.2.2.2.2.2.1, hR.2.2.2.2.2.2.2.1.1, hR.2.2.2.2.2.2.2.2.2.1.2⟩
end Go.Proofs.YtcobalpbencboaaDoor

/- The statement RegisterMatchesSpec. -/
namespace Go.Proofs.YtcobalpbencboaaDoor
set_option linter.unusedSimpArgs false
set_option linter.unusedVariables false
open Go.RowKit Go.Sl Go.ChangeShapes Go.WideShapes Go.ChangeAt

set_option maxRecDepth 20000 in
theorem rmatch_post (H : Type) (enc : TypeId × Value → H) (W : World) (base : Nat) (args : Array Value) (ds gs : List (DataW H)) (before : List MemPlace)
    (hval : ∀ (j : Nat) t v, Tryd.f9.params[j]? = some t → args[j]? = some v → Value.okWide Tryd.prog W .any base t v)
    (hW : DataW.Whole enc Tryd.prog Tryd.f9.params.toList Rows.registerMatchesSpecSpec.vars false W args.toList ds gs before) (hk : Rows.uptoSmall H (ds ++ gs) = true) (hL : laidMetH Tryd.prog Rows.registerMatchesSpecUptoRow.laid W) :
    Calls Tryd.prog 9 args W fun e W' => ∃ v, e = .returned v ∧ Rows.registerMatchesSpecSpec.post enc Tryd.prog Tryd.f9 false true false false W args v W' := by
  have hW' := hW
  obtain ⟨p, q, hA0, hV, rfl, hfz, hnd⟩ := hW
  have hA : DataW.TrodAll enc Tryd.prog W 0 (fun _ => true) true Tryd.f9.params.toList args.toList ds p := hA0
  have hk := small_all hk
  rw [Tryd.params9] at hA hval
  obtain ⟨v0, vs0, d0, ds0, p0, q0, hargs, rfl, rfl, h0, r0⟩ := trodAll_cons hA
  obtain ⟨rfl, rfl, rfl⟩ := trodAll_nil r0
  obtain rfl : args = #[v0] := by cases args; simp_all
  obtain ⟨rfl, rfl⟩ := trodVars_none hV
  simp only [List.append_nil, Rows.uptoBulkAll] at hk
  obtain ⟨c0, x0, rfl, hR0, hr0, hh0, hm0, ht0⟩ := open_rin (hval 0 46 v0 rfl rfl) h0
  refine Calls.mono (rmatch_c W (St.start W) (glob_of hL) c0 x0 hR0 hr0 hh0 hm0 ht0) fun e W' ⟨v, he, hv, hst⟩ => ?_
  subst hv
  exact ⟨_, he, law_post (tb := 4) rfl hW' (by kernel_rfl) (by rw [Tryd.params9]; intro t ht'; have e : t = 46 := (by simpa using ht'); subst e; exact ⟨by kernel_rfl, of_decide_eq_true (by kernel_rfl)⟩) (by kernel_rfl) (by kernel_rfl) rfl rfl rfl hst.below⟩

abbrev rmatch_args : Array Value := #[.agg #[.int .u8 0, .int .u8 0, .int .u8 0, .int .u8 0, .int .u8 0, .int .u8 0, .int .u8 0, .int .u8 0, .int .u8 0, .int .u8 0, .int .u8 0, .int .u8 0, .int .u8 0, .int .u8 0, .int .u8 0, .int .u8 0, .slice none 0 0, .slice none 0 0, .slice none 0 0, .int .i64 0, .int .u8 0, .int .u8 0, .int .u8 0, .int .u8 0, .int .u8 0, .int .u8 0, .int .u8 0, .int .u8 0, .int .u8 0, .int .u8 0, .int .u8 0, .int .u8 0, .int .u8 0, .int .u8 0, .int .u8 0, .int .u8 0, .int .u8 0, .int .u8 0, .int .u8 0, .int .u8 0, .int .u8 0, .int .u8 0, .int .u8 0, .int .u8 0, .int .u8 0, .int .u8 0, .int .u8 0, .int .u8 0, .int .u8 0, .int .u8 0, .int .u8 0, .int .u8 0, .int .u8 0, .int .u8 0, .int .u8 0, .int .u8 0, .int .u8 0, .int .u8 0, .int .u8 0, .int .u8 0, .int .u8 0, .int .u8 0, .int .u8 0, .int .u8 0, .int .u8 0, .int .u8 0, .int .u8 0, .int .u8 0, .int .u8 0, .int .u8 0, .int .u8 0, .int .u8 0, .int .u8 0, .int .u8 0, .int .u8 0, .int .u8 0, .int .u8 0, .int .u8 0, .int .u8 0, .int .u8 0, .int .u8 0, .int .u8 0, .int .u8 0, .int .u8 0, .int .i64 0, .int .u8 0, .int .u8 0, .int .u8 0, .int .u8 0, .int .u8 0, .int .u8 0, .int .u8 0, .int .u8 0, .int .u8 0, .int .u8 0, .int .u8 0, .int .u8 0, .int .u8 0, .int .u8 0, .int .u8 0, .int .u8 0, .int .u8 0, .int .u8 0, .int .u8 0, .int .u8 0, .int .u8 0, .int .u8 0, .int .u8 0, .int .u8 0, .int .u8 0, .int .u8 0, .int .u8 0, .int .u8 0, .int .u8 0, .int .u8 0, .int .u8 0, .int .u8 0, .int .i64 0, .int .u8 0, .int .u8 0, .int .u8 0, .int .u8 0, .int .u8 0, .int .u8 0, .int .u8 0, .int .u8 0, .int .u8 0, .int .u8 0, .int .u8 0, .int .u8 0, .int .u8 0, .int .u8 0, .int .u8 0, .int .u8 0, .int .i64 0]]
theorem rmatch_met (os : Os) : laidMet Tryd.prog Rows.registerMatchesSpecUptoRow.laid ((laidWorld os #[]).forCall (fun _ _ => 0) ⟨#[], rmatch_args, []⟩).memory :=
  laidMet_of_run' 8 (by kernel_rfl) (by kernel_rfl)
theorem rmatch_reads (os : Os) {H : Type} (enc : TypeId × Value → H) : ∃ places, DataW.whole enc Tryd.prog ((laidWorld os #[]).forCall (fun _ _ => 0) ⟨#[], rmatch_args, []⟩).memory Tryd.f9.params.toList Rows.registerMatchesSpecSpec.vars false rmatch_args.toList 8 = some ([.agg [.agg [.agg [.lit (.int .u8 0), .lit (.int .u8 0), .lit (.int .u8 0), .lit (.int .u8 0), .lit (.int .u8 0), .lit (.int .u8 0), .lit (.int .u8 0), .lit (.int .u8 0), .lit (.int .u8 0), .lit (.int .u8 0), .lit (.int .u8 0), .lit (.int .u8 0), .lit (.int .u8 0), .lit (.int .u8 0), .lit (.int .u8 0), .lit (.int .u8 0)], .nil, .nil, .nil, .lit (.int .i64 0)], .agg [.agg [.lit (.int .u8 0), .lit (.int .u8 0), .lit (.int .u8 0), .lit (.int .u8 0), .lit (.int .u8 0), .lit (.int .u8 0), .lit (.int .u8 0), .lit (.int .u8 0), .lit (.int .u8 0), .lit (.int .u8 0), .lit (.int .u8 0), .lit (.int .u8 0), .lit (.int .u8 0), .lit (.int .u8 0), .lit (.int .u8 0), .lit (.int .u8 0)], .agg [.lit (.int .u8 0), .lit (.int .u8 0), .lit (.int .u8 0), .lit (.int .u8 0), .lit (.int .u8 0), .lit (.int .u8 0), .lit (.int .u8 0), .lit (.int .u8 0), .lit (.int .u8 0), .lit (.int .u8 0), .lit (.int .u8 0), .lit (.int .u8 0), .lit (.int .u8 0), .lit (.int .u8 0), .lit (.int .u8 0), .lit (.int .u8 0)]], .agg [.agg [.lit (.int .u8 0), .lit (.int .u8 0), .lit (.int .u8 0), .lit (.int .u8 0), .lit (.int .u8 0), .lit (.int .u8 0), .lit (.int .u8 0), .lit (.int .u8 0), .lit (.int .u8 0), .lit (.int .u8 0), .lit (.int .u8 0), .lit (.int .u8 0), .lit (.int .u8 0), .lit (.int .u8 0), .lit (.int .u8 0), .lit (.int .u8 0)], .agg [.lit (.int .u8 0), .lit (.int .u8 0), .lit (.int .u8 0), .lit (.int .u8 0), .lit (.int .u8 0), .lit (.int .u8 0), .lit (.int .u8 0), .lit (.int .u8 0), .lit (.int .u8 0), .lit (.int .u8 0), .lit (.int .u8 0), .lit (.int .u8 0), .lit (.int .u8 0), .lit (.int .u8 0), .lit (.int .u8 0), .lit (.int .u8 0)], .lit (.int .i64 0), .agg [.lit (.int .u8 0), .lit (.int .u8 0), .lit (.int .u8 0), .lit (.int .u8 0), .lit (.int .u8 0), .lit (.int .u8 0), .lit (.int .u8 0), .lit (.int .u8 0), .lit (.int .u8 0), .lit (.int .u8 0), .lit (.int .u8 0), .lit (.int .u8 0), .lit (.int .u8 0), .lit (.int .u8 0), .lit (.int .u8 0), .lit (.int .u8 0)], .agg [.lit (.int .u8 0), .lit (.int .u8 0), .lit (.int .u8 0), .lit (.int .u8 0), .lit (.int .u8 0), .lit (.int .u8 0), .lit (.int .u8 0), .lit (.int .u8 0), .lit (.int .u8 0), .lit (.int .u8 0), .lit (.int .u8 0), .lit (.int .u8 0), .lit (.int .u8 0), .lit (.int .u8 0), .lit (.int .u8 0), .lit (.int .u8 0)], .lit (.int .i64 0)], .agg [.lit (.int .u8 0), .lit (.int .u8 0), .lit (.int .u8 0), .lit (.int .u8 0), .lit (.int .u8 0), .lit (.int .u8 0), .lit (.int .u8 0), .lit (.int .u8 0), .lit (.int .u8 0), .lit (.int .u8 0), .lit (.int .u8 0), .lit (.int .u8 0), .lit (.int .u8 0), .lit (.int .u8 0), .lit (.int .u8 0), .lit (.int .u8 0)], .lit (.int .i64 0)]], [], places) :=
  ⟨[], by kernel_rfl⟩

set_option maxRecDepth 100000 in
theorem rmatch_lifted (os : Os) (started : os.Started) (H : Type) (enc : TypeId × Value → H) (F : Stop.Interp) :
    ReturnsInHanded {} Tryd.checked os 9 .any ((Rows.OpenSpec.upto Rows.registerMatchesSpecSpec).preRow enc Tryd.prog Tryd.f9 Rows.registerMatchesSpecUptoRow.domain false Rows.registerMatchesSpecUptoRow.laid) (((Rows.OpenSpec.upto Rows.registerMatchesSpecSpec).at F).post enc Tryd.prog Tryd.f9 false true false false) := by
  obtain ⟨places, hx⟩ := rmatch_reads os enc
  refine returnsInHanded_of_row (C := Tryd.checked) (s := Rows.OpenSpec.upto Rows.registerMatchesSpecSpec) own started (by kernel_rfl) Tryd.func9
    (witness_row_at (enc := enc) (C := Tryd.checked) false (laidWorld os #[]) rmatch_args rfl (by kernel_rfl) (by kernel_rfl) (by kernel_rfl)
      (OpenSpec.preRow_of_cond 8 hx (by kernel_rfl) (fun k hk => by cases hk; kernel_rfl) (by kernel_rfl) (rmatch_met os))) ?_
  intro W base args ds gs before hval hW _ hc _ hL _ _
  exact rmatch_post H enc W base args ds gs before hval hW (hc _ rfl) hL

theorem rmatch_said : Rows.RegisterMatchesSpecUptoSaid :=
  OpenClaim.holds_of_cond 9 Tryd.f9 rfl rfl rfl rfl rfl rfl rfl ⟨rfl, rfl, rfl, rfl, rfl⟩ rfl rfl rfl rfl rfl (by kernel_rfl) Tryd.func9 (by kernel_rfl)
    (of_decide_eq_true (by kernel_rfl)) (by unfold Func.isWrapper; first | (rw [if_pos (by decide +kernel)]; kernel_rfl) | (rw [if_neg (by decide +kernel)]; exact ⟨rfl, rfl⟩))
    (fun os started H enc _ F => by rw [OpenClaim.pre_eq_preRow]; exact rmatch_lifted os started H enc F)

theorem rmatch_plain (f : FuncId) (fn : Func) (hf : Tryd.pinned.checked.prog.funcNamed "bootchain/bootchainlaw20.RegisterMatchesSpec" = some f) (hfn : Tryd.pinned.checked.prog.funcs[f]? = some fn) :
    false = Tryd.pinned.checked.prog.looks [] ∧ ∀ (j : Nat) t, fn.params[j]? = some t → Tryd.pinned.checked.prog.wantsStandIn t = false := by
  obtain rfl : f = 9 := Option.some.inj ((show Tryd.prog.funcNamed "bootchain/bootchainlaw20.RegisterMatchesSpec" = some 9 by kernel_rfl).symm.trans hf) |>.symm
  obtain rfl : fn = Tryd.f9 := (Option.some.inj (Tryd.func9.symm.trans hfn)).symm
  refine ⟨by kernel_rfl, fun j t ht => ?_⟩
  rw [Tryd.params9] at ht
  have e : t = 46 := by simpa using Array.mem_of_getElem? ht
  subst e
  · exact (show Tryd.prog.wantsStandIn 46 = false by kernel_rfl)

theorem rmatch_proved : Rows.RegisterMatchesSpecUptoCardSaid :=
  Claim7.holds_tied_plain_at .later [] _ _ _ _ rmatch_said (fun _ h => by cases h) (by kernel_rfl) (fun _ h => by cases h) registerMatchesSpecUpto_row_tie rfl ⟨rfl, rfl⟩ (by kernel_rfl) rfl rmatch_plain (by kernel_rfl)
end Go.Proofs.YtcobalpbencboaaDoor
