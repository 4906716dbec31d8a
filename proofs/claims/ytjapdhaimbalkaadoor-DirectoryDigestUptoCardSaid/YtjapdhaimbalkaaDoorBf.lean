/- Package slices at the entries of package directory, walked; facts in plain form. -/
import Derived.Lib.Bytealg
import Derived.Test.YtjapdhaimbalkaaDoorChecked
import Derived.Lib.Strings
import Derived.Lib.Slices
import Derived.Lib.Walk
import Derived.Test.YtjapdhaimbalkaaDoorBe
import Derived.Test.YtjapdhaimbalkaaDoorBb

/- Sorting by insertion, merging by rotation: plain mathematics, no program in sight. General. -/
namespace Go.Srt
set_option linter.unusedSimpArgs false
set_option linter.unusedVariables false

/-- A comparison: 'cf x y < 0' says that x comes first. -/
structure Ord {α : Type} (cf : α → α → Int) : Prop where
  tr : ∀ {x y z}, ¬ cf y x < 0 → ¬ cf z y < 0 → ¬ cf z x < 0
  asy : ∀ {x y}, cf x y < 0 → ¬ cf y x < 0

section
variable {α : Type} {cf : α → α → Int} {d : α}

/-- x may stand ahead of y. -/
abbrev le (cf : α → α → Int) (x y : α) : Prop := ¬ cf y x < 0
/-- The range is in order. -/
def Srtd (cf : α → α → Int) (d : α) (xs : List α) (a b : Nat) : Prop := ∀ i j, a ≤ i → i < j → j < b → le cf (xs.getD i d) (xs.getD j d)

/-- ys is xs but for the range, where it holds no other elements. -/
structure Upd (d : α) (a b : Nat) (xs ys : List α) : Prop where
  perm : ys.Perm xs
  out : ∀ t, ¬ (a ≤ t ∧ t < b) → ys.getD t d = xs.getD t d
  mem : ∀ t, a ≤ t → t < b → ∃ t', a ≤ t' ∧ t' < b ∧ ys.getD t d = xs.getD t' d

theorem Upd.len {a b : Nat} {xs ys : List α} (h : Upd d a b xs ys) : ys.length = xs.length := h.perm.length_eq
theorem Upd.refl (a b : Nat) (xs : List α) : Upd d a b xs xs := ⟨.refl _, fun _ _ => rfl, fun t h1 h2 => ⟨t, h1, h2, rfl⟩⟩
theorem Upd.trans {a b : Nat} {xs ys zs : List α} (h : Upd d a b xs ys) (g : Upd d a b ys zs) : Upd d a b xs zs :=
  ⟨g.perm.trans h.perm, fun t ht => (g.out t ht).trans (h.out t ht), fun t h1 h2 => by
    obtain ⟨t1, a1, b1, e1⟩ := g.mem t h1 h2
    obtain ⟨t2, a2, b2, e2⟩ := h.mem t1 a1 b1
    exact ⟨t2, a2, b2, e1.trans e2⟩⟩
theorem Upd.wide {a b a' b' : Nat} {xs ys : List α} (h : Upd d a b xs ys) (ha : a' ≤ a) (hb : b ≤ b') : Upd d a' b' xs ys :=
  ⟨h.perm, fun t ht => h.out t fun k => ht ⟨by omega, by omega⟩, fun t h1 h2 => by
    by_cases k : a ≤ t ∧ t < b
    · obtain ⟨t', a1, b1, e⟩ := h.mem t k.1 k.2
      exact ⟨t', by omega, by omega, e⟩
    · exact ⟨t, h1, h2, h.out t k⟩⟩

theorem getD_lt {xs : List α} {i : Nat} (h : i < xs.length) : xs.getD i d = xs[i] := by
  rw [List.getD_eq_getElem?_getD, List.getElem?_eq_getElem h, Option.getD_some]

/-- Two elements exchanged. -/
def swap (d : α) (xs : List α) (i j : Nat) : List α := (xs.set i (xs.getD j d)).set j (xs.getD i d)
theorem swap_len (xs : List α) (i j : Nat) : (swap d xs i j).length = xs.length := by simp [swap]
theorem swap_at {xs : List α} {i j : Nat} (hi : i < xs.length) (hj : j < xs.length) (t : Nat) : (swap d xs i j).getD t d = if t = j then xs.getD i d else if t = i then xs.getD j d else xs.getD t d := by
  unfold swap
  rw [List.getD_eq_getElem?_getD, List.getElem?_set, List.length_set]
  by_cases h1 : j = t
  · subst h1
    rw [if_pos rfl, if_pos hj, if_pos rfl, Option.getD_some]
  · rw [if_neg h1, if_neg (fun e => h1 e.symm), List.getElem?_set]
    by_cases h2 : i = t
    · subst h2
      rw [if_pos rfl, if_pos hi, if_pos rfl, Option.getD_some]
    · rw [if_neg h2, if_neg (fun e => h2 e.symm), ← List.getD_eq_getElem?_getD]
theorem swap_perm {xs : List α} {i j : Nat} (hi : i < xs.length) (hj : j < xs.length) : (swap d xs i j).Perm xs := by
  unfold swap
  rw [getD_lt hi, getD_lt hj]
  exact List.set_set_perm hi hj
theorem swap_upd {xs : List α} {i j a b : Nat} (hi : i < xs.length) (hj : j < xs.length) (h1 : a ≤ i ∧ i < b) (h2 : a ≤ j ∧ j < b) : Upd d a b xs (swap d xs i j) :=
  ⟨swap_perm hi hj, fun t ht => by rw [swap_at hi hj, if_neg (by omega), if_neg (by omega)], fun t k1 k2 => by
    rw [swap_at hi hj]
    split
    · exact ⟨i, h1.1, h1.2, rfl⟩
    · split
      · exact ⟨j, h2.1, h2.2, rfl⟩
      · exact ⟨t, k1, k2, rfl⟩⟩

/-! ### Insertion -/
/-- In order but for what stands at j, which is not greater than what follows it. -/
def Ins (cf : α → α → Int) (d : α) (xs : List α) (a j b : Nat) : Prop := ∀ p q, a ≤ p → p < q → q < b → q ≠ j → le cf (xs.getD p d) (xs.getD q d)
theorem ins_begin {xs : List α} {a i : Nat} (h : Srtd cf d xs a i) : Ins cf d xs a i (i + 1) := fun p q h1 h2 h3 h4 => h p q h1 h2 (by omega)
theorem ins_step (O : Ord cf) {xs : List α} {a j b : Nat} (h : Ins cf d xs a j b) (hj : a < j) (hjb : j < b) (hb : b ≤ xs.length) (hlt : cf (xs.getD j d) (xs.getD (j - 1) d) < 0) : Ins cf d (swap d xs j (j - 1)) a (j - 1) b := by
  intro p q h1 h2 h3 h4
  rw [swap_at (by omega) (by omega), swap_at (by omega) (by omega)]
  by_cases c1 : q = j
  · subst c1
    rw [if_neg h4, if_pos rfl]
    by_cases c2 : p = q - 1
    · rw [if_pos c2]
      exact O.asy hlt
    · rw [if_neg c2, if_neg (by omega)]
      exact h p (q - 1) h1 (by omega) (by omega) (by omega)
  · rw [if_neg h4, if_neg c1]
    by_cases c2 : p = j - 1
    · rw [if_pos c2]
      exact h j q (by omega) (by omega) h3 c1
    · rw [if_neg c2]
      by_cases c3 : p = j
      · rw [if_pos c3]
        exact h (j - 1) q (by omega) (by omega) h3 c1
      · rw [if_neg c3]
        exact h p q h1 h2 h3 c1
theorem ins_end_a {xs : List α} {a b : Nat} (h : Ins cf d xs a a b) : Srtd cf d xs a b := fun p q h1 h2 h3 => h p q h1 h2 h3 (by omega)
theorem ins_end (O : Ord cf) {xs : List α} {a j b : Nat} (h : Ins cf d xs a j b) (hj : a < j) (hn : ¬ cf (xs.getD j d) (xs.getD (j - 1) d) < 0) : Srtd cf d xs a b := by
  intro p q h1 h2 h3
  by_cases c : q = j
  · subst c
    by_cases c2 : p = q - 1
    · subst c2
      exact hn
    · exact O.tr (h p (q - 1) h1 (by omega) (by omega) (by omega)) hn
  · exact h p q h1 h2 h3 c
theorem srtd_one {xs : List α} {a b : Nat} (h : b ≤ a + 1) : Srtd cf d xs a b := fun i j h1 h2 h3 => by omega
theorem srtd_sub {xs : List α} {a b a' b' : Nat} (h : Srtd cf d xs a b) (h1 : a ≤ a') (h2 : b' ≤ b) : Srtd cf d xs a' b' := fun i j k1 k2 k3 => h i j (by omega) k2 (by omega)
theorem srtd_out {xs ys : List α} {a b a' b' : Nat} (h : Srtd cf d xs a b) (g : Upd d a' b' xs ys) (ho : b ≤ a' ∨ b' ≤ a) : Srtd cf d ys a b := fun i j h1 h2 h3 => by
  rw [g.out i (by omega), g.out j (by omega)]
  exact h i j h1 h2 h3

/-! ### Ranges exchanged, and a rotation -/
def SwR (d : α) (xs ys : List α) (a b n : Nat) : Prop := ys.Perm xs ∧ ∀ t, ys.getD t d = if a ≤ t ∧ t < a + n then xs.getD (t - a + b) d else if b ≤ t ∧ t < b + n then xs.getD (t - b + a) d else xs.getD t d
theorem swR_zero (xs : List α) (a b : Nat) : SwR d xs xs a b 0 := ⟨.refl _, fun t => by rw [if_neg (by omega), if_neg (by omega)]⟩
theorem swR_succ {xs ys : List α} {a b n : Nat} (h : SwR d xs ys a b n) (hab : a + n < b) (hb : b + n < xs.length) : SwR d xs (swap d ys (a + n) (b + n)) a b (n + 1) := by
  have hl : ys.length = xs.length := h.1.length_eq
  refine ⟨(swap_perm (by omega) (by omega)).trans h.1, fun t => ?_⟩
  rw [swap_at (by omega) (by omega), h.2, h.2, h.2]
  by_cases c1 : t = b + n
  · rw [if_pos c1, if_neg (show ¬ (a ≤ a + n ∧ a + n < a + n) by omega), if_neg (show ¬ (b ≤ a + n ∧ a + n < b + n) by omega), if_neg (show ¬ (a ≤ t ∧ t < a + (n + 1)) by omega), if_pos (show b ≤ t ∧ t < b + (n + 1) by omega)]
    congr 1; omega
  · rw [if_neg c1]
    by_cases c2 : t = a + n
    · rw [if_pos c2, if_neg (show ¬ (a ≤ b + n ∧ b + n < a + n) by omega), if_neg (show ¬ (b ≤ b + n ∧ b + n < b + n) by omega), if_pos (show a ≤ t ∧ t < a + (n + 1) by omega)]
      congr 1; omega
    · rw [if_neg c2]
      by_cases c3 : a ≤ t ∧ t < a + n
      · rw [if_pos c3, if_pos (show a ≤ t ∧ t < a + (n + 1) by omega)]
      · rw [if_neg c3, if_neg (show ¬ (a ≤ t ∧ t < a + (n + 1)) by omega)]
        by_cases c4 : b ≤ t ∧ t < b + n
        · rw [if_pos c4, if_pos (show b ≤ t ∧ t < b + (n + 1) by omega)]
        · rw [if_neg c4, if_neg (show ¬ (b ≤ t ∧ t < b + (n + 1)) by omega)]

/-- The ranges [a, m) and [m, b) change places. -/
def rotG (f : Nat → α) (a m b t : Nat) : α := if a ≤ t ∧ t < a + (b - m) then f (t + (m - a)) else if a + (b - m) ≤ t ∧ t < b then f (t - (b - m)) else f t
def Rot (d : α) (xs ys : List α) (a m b : Nat) : Prop := ys.Perm xs ∧ ∀ t, ys.getD t d = rotG (xs.getD · d) a m b t
/-- What is left to do: i at the left, j at the right of m. -/
def RotI (d : α) (xs ys : List α) (a m b i j : Nat) : Prop := ys.Perm xs ∧ ∀ t, rotG (xs.getD · d) a m b t = rotG (ys.getD · d) (m - i) m (m + j) t
theorem rotI_begin (xs : List α) {a m b : Nat} (h1 : a ≤ m) (h2 : m ≤ b) : RotI d xs xs a m b (m - a) (b - m) := ⟨.refl _, fun t => by
  rw [show m - (m - a) = a by omega, show m + (b - m) = b by omega]⟩
theorem rotI_gt {xs ys zs : List α} {a m b i j : Nat} (h : RotI d xs ys a m b i j) (hs : SwR d ys zs (m - i) m j) (hij : j < i) (hi : i ≤ m) : RotI d xs zs a m b (i - j) j := by
  refine ⟨hs.1.trans h.1, fun t => ?_⟩
  rw [h.2]
  simp only [rotG, hs.2]
  repeat' split
  all_goals first
    | (exfalso; omega)
    | (congr 1 <;> omega)
theorem rotI_lt {xs ys zs : List α} {a m b i j : Nat} (h : RotI d xs ys a m b i j) (hs : SwR d ys zs (m - i) (m + j - i) i) (hij : i < j) (hi : i ≤ m) : RotI d xs zs a m b i (j - i) := by
  refine ⟨hs.1.trans h.1, fun t => ?_⟩
  rw [h.2]
  simp only [rotG, hs.2]
  repeat' split
  all_goals first
    | (exfalso; omega)
    | (congr 1 <;> omega)
theorem rotI_end {xs ys zs : List α} {a m b i : Nat} (h : RotI d xs ys a m b i i) (hs : SwR d ys zs (m - i) m i) (hi : i ≤ m) : Rot d xs zs a m b := by
  refine ⟨hs.1.trans h.1, fun t => ?_⟩
  rw [h.2]
  simp only [rotG, hs.2]
  repeat' split
  all_goals first
    | (exfalso; omega)
    | (congr 1 <;> omega)

theorem rot_upd {xs ys : List α} {a m b : Nat} (h : Rot d xs ys a m b) (h1 : a ≤ m) (h2 : m ≤ b) : Upd d a b xs ys :=
  ⟨h.1, fun t ht => by rw [h.2, rotG, if_neg (by omega), if_neg (by omega)], fun t k1 k2 => by
    rw [h.2, rotG]
    split
    · exact ⟨t + (m - a), by omega, by omega, rfl⟩
    · split
      · exact ⟨t - (b - m), by omega, by omega, rfl⟩
      · exact ⟨t, k1, k2, rfl⟩⟩
theorem rot_triv (xs : List α) {a m b : Nat} (h : a = m ∨ b = m) (h1 : a ≤ m) (h2 : m ≤ b) : Rot d xs xs a m b := ⟨.refl _, fun t => by
  simp only [rotG]
  repeat' split
  all_goals first
    | (exfalso; omega)
    | (congr 1 <;> omega)⟩
/-- One element moved to the right, a step further. -/
theorem rot_right {xs ys : List α} {a k : Nat} (h : Rot d xs ys a (a + 1) (k + 1)) (hk : a ≤ k) (hl : k + 1 < xs.length) : Rot d xs (swap d ys k (k + 1)) a (a + 1) (k + 2) := by
  have hn : ys.length = xs.length := h.1.length_eq
  refine ⟨(swap_perm (by omega) (by omega)).trans h.1, fun t => ?_⟩
  rw [swap_at (by omega) (by omega), h.2, h.2, h.2]
  simp only [rotG]
  repeat' split
  all_goals first
    | (exfalso; omega)
    | (congr 1 <;> omega)
/-- One element moved to the left, a step further. -/
theorem rot_left {xs ys : List α} {m k : Nat} (h : Rot d xs ys k m (m + 1)) (hk : 0 < k) (hkm : k ≤ m) (hl : m < xs.length) : Rot d xs (swap d ys k (k - 1)) (k - 1) m (m + 1) := by
  have hn : ys.length = xs.length := h.1.length_eq
  refine ⟨(swap_perm (by omega) (by omega)).trans h.1, fun t => ?_⟩
  rw [swap_at (by omega) (by omega), h.2, h.2, h.2]
  simp only [rotG]
  repeat' split
  all_goals first
    | (exfalso; omega)
    | (congr 1 <;> omega)

/-! ### Merging -/
theorem Ord.rf (O : Ord cf) (x : α) : le cf x x := fun h => O.asy h h
theorem Srtd.le' (O : Ord cf) {xs : List α} {a b i j : Nat} (h : Srtd cf d xs a b) (h1 : a ≤ i) (h2 : i ≤ j) (h3 : j < b) : le cf (xs.getD i d) (xs.getD j d) := by
  by_cases e : i = j
  · subst e; exact O.rf _
  · exact h i j h1 (by omega) h3
/-- The two halves behind a rotation. -/
theorem sym_split (O : Ord cf) {xs zs : List α} {a m b s e c : Nat} (h1 : Srtd cf d xs a m) (h2 : Srtd cf d xs m b) (hr : Rot d xs zs s m e) (k1 : a ≤ s) (k2 : s ≤ m) (k3 : m ≤ e) (k4 : e ≤ b) (hc : c = s + (e - m))
    (hA : s = a ∨ e = b ∨ le cf (xs.getD (s - 1) d) (xs.getD e d)) (hB : e = m ∨ s = m ∨ cf (xs.getD (e - 1) d) (xs.getD s d) < 0) :
    Srtd cf d zs a s ∧ Srtd cf d zs s c ∧ Srtd cf d zs c e ∧ Srtd cf d zs e b ∧ ∀ i j, a ≤ i → i < c → c ≤ j → j < b → le cf (zs.getD i d) (zs.getD j d) := by
  subst hc
  have g1 : ∀ t, t < s → zs.getD t d = xs.getD t d := fun t ht => by rw [hr.2, rotG, if_neg (by omega), if_neg (by omega)]
  have g2 : ∀ t, s ≤ t → t < s + (e - m) → zs.getD t d = xs.getD (t + (m - s)) d := fun t ht ht2 => by rw [hr.2, rotG, if_pos ⟨ht, ht2⟩]
  have g3 : ∀ t, s + (e - m) ≤ t → t < e → zs.getD t d = xs.getD (t - (e - m)) d := fun t ht ht2 => by rw [hr.2, rotG, if_neg (by omega), if_pos ⟨ht, ht2⟩]
  have g4 : ∀ t, e ≤ t → zs.getD t d = xs.getD t d := fun t ht => by rw [hr.2, rotG, if_neg (by omega), if_neg (by omega)]
  refine ⟨fun i j q1 q2 q3 => ?_, fun i j q1 q2 q3 => ?_, fun i j q1 q2 q3 => ?_, fun i j q1 q2 q3 => ?_, fun i j q1 q2 q3 q4 => ?_⟩
  · rw [g1 i (by omega), g1 j q3]; exact h1 i j q1 q2 (by omega)
  · rw [g2 i q1 (by omega), g2 j (by omega) q3]; exact h2 _ _ (by omega) (by omega) (by omega)
  · rw [g3 i q1 (by omega), g3 j (by omega) q3]; exact h1 _ _ (by omega) (by omega) (by omega)
  · rw [g4 i q1, g4 j (by omega)]; exact h2 i j (by omega) q2 q3
  · by_cases c1 : i < s
    · rw [g1 i c1]
      by_cases c2 : j < e
      · rw [g3 j q3 c2]; exact h1 _ _ q1 (by omega) (by omega)
      · rw [g4 j (by omega)]
        have hA' : le cf (xs.getD (s - 1) d) (xs.getD e d) := by
          rcases hA with h | h | h
          · omega
          · omega
          · exact h
        exact O.tr (O.tr (h1.le' O q1 (show i ≤ s - 1 by omega) (by omega)) hA') (h2.le' O k3 (by omega) q4)
    · rw [g2 i (by omega) q2]
      by_cases c2 : j < e
      · rw [g3 j q3 c2]
        have hB' : cf (xs.getD (e - 1) d) (xs.getD s d) < 0 := by
          rcases hB with h | h | h
          · omega
          · omega
          · exact h
        exact O.tr (O.tr (h2.le' O (by omega) (show i + (m - s) ≤ e - 1 by omega) (by omega)) (O.asy hB')) (h1.le' O k1 (by omega) (by omega))
      · rw [g4 j (by omega)]; exact h2 _ _ (by omega) (by omega) q4
/-- The two halves in order: the whole in order. -/
theorem sym_join {xs ys zs : List α} {a b c : Nat} (hx : ∀ i j, a ≤ i → i < c → c ≤ j → j < b → le cf (xs.getD i d) (xs.getD j d)) (u1 : Upd d a c xs ys) (s1 : Srtd cf d ys a c) (u2 : Upd d c b ys zs) (s2 : Srtd cf d zs c b) : Srtd cf d zs a b := by
  intro i j q1 q2 q3
  by_cases c1 : j < c
  · rw [u2.out i (by omega), u2.out j (by omega)]; exact s1 i j q1 q2 c1
  · by_cases c2 : c ≤ i
    · exact s2 i j c2 q2 q3
    · rw [u2.out i (by omega)]
      obtain ⟨i', a1, a2, e1⟩ := u1.mem i q1 (by omega)
      obtain ⟨j', b1, b2, e2⟩ := u2.mem j (by omega) q3
      rw [e1, e2, u1.out j' (by omega)]
      exact hx i' j' a1 a2 b1 b2
/-- Where the search in symMerge stands. -/
def Srch (cf : α → α → Int) (d : α) (xs : List α) (p lo hi s r : Nat) : Prop := (∀ c, lo ≤ c → c < s → le cf (xs.getD c d) (xs.getD (p - c) d)) ∧ ∀ c, r ≤ c → c < hi → cf (xs.getD (p - c) d) (xs.getD c d) < 0
theorem srch_up (O : Ord cf) {xs : List α} {a m b p lo hi s r c : Nat} (h1 : Srtd cf d xs a m) (h2 : Srtd cf d xs m b) (h : Srch cf d xs p lo hi s r) (ha : a ≤ lo) (hc : c < m) (hp1 : m ≤ p - c) (hp2 : p - lo < b) (hcl : lo ≤ c) (hcp : c ≤ p) (hn : ¬ cf (xs.getD (p - c) d) (xs.getD c d) < 0) : Srch cf d xs p lo hi (c + 1) r :=
  ⟨fun x q1 q2 => O.tr (O.tr (h1.le' O (by omega) (show x ≤ c by omega) hc) hn) (h2.le' O hp1 (by omega) (by omega)), h.2⟩
theorem lt_le (O : Ord cf) {x y z : α} (h : cf x y < 0) (g : le cf y z) : cf x z < 0 := Decidable.byContradiction fun n => O.tr g n h
theorem le_lt (O : Ord cf) {x y z : α} (h : le cf x y) (g : cf y z < 0) : cf x z < 0 := Decidable.byContradiction fun n => O.tr n h g
theorem srch_down (O : Ord cf) {xs : List α} {a m b p lo hi s r c : Nat} (h1 : Srtd cf d xs a m) (h2 : Srtd cf d xs m b) (h : Srch cf d xs p lo hi s r) (ha : a ≤ c) (hi1 : hi ≤ m) (hp1 : m ≤ p - (hi - 1)) (hp2 : p - c < b) (hc : c < hi) (hn : cf (xs.getD (p - c) d) (xs.getD c d) < 0) : Srch cf d xs p lo hi s c :=
  ⟨h.1, fun x q1 q2 => le_lt O (h2.le' O (show m ≤ p - x by omega) (show p - x ≤ p - c by omega) hp2) (lt_le O hn (h1.le' O ha q1 (by omega)))⟩

/-! ### One element merged -/
theorem one_left (O : Ord cf) {xs ys : List α} {a i b : Nat} (h : Srtd cf d xs (a + 1) b) (hr : Rot d xs ys a (a + 1) i) (h1 : a + 1 ≤ i) (h2 : i ≤ b) (hA : ∀ t, a + 1 ≤ t → t < i → cf (xs.getD t d) (xs.getD a d) < 0) (hB : ∀ t, i ≤ t → t < b → ¬ cf (xs.getD t d) (xs.getD a d) < 0) : Srtd cf d ys a b := by
  intro p q q1 q2 q3
  rw [hr.2, hr.2]
  simp only [rotG]
  have e1 : a + 1 - a = 1 := by omega
  rw [e1]
  by_cases c1 : p < i - 1
  · rw [if_pos (show a ≤ p ∧ p < a + (i - (a + 1)) by omega)]
    by_cases c2 : q < i - 1
    · rw [if_pos (show a ≤ q ∧ q < a + (i - (a + 1)) by omega)]; exact h _ _ (by omega) (by omega) (by omega)
    · rw [if_neg (show ¬ (a ≤ q ∧ q < a + (i - (a + 1))) by omega)]
      by_cases c3 : q < i
      · rw [if_pos (show a + (i - (a + 1)) ≤ q ∧ q < i by omega), show q - (i - (a + 1)) = a by omega]
        exact O.asy (hA (p + 1) (by omega) (by omega))
      · rw [if_neg (show ¬ (a + (i - (a + 1)) ≤ q ∧ q < i) by omega)]; exact h _ _ (by omega) (by omega) q3
  · rw [if_neg (show ¬ (a ≤ p ∧ p < a + (i - (a + 1))) by omega), if_neg (show ¬ (a ≤ q ∧ q < a + (i - (a + 1))) by omega), if_neg (show ¬ (a + (i - (a + 1)) ≤ q ∧ q < i) by omega)]
    by_cases c3 : p < i
    · rw [if_pos (show a + (i - (a + 1)) ≤ p ∧ p < i by omega), show p - (i - (a + 1)) = a by omega]
      exact hB q (by omega) q3
    · rw [if_neg (show ¬ (a + (i - (a + 1)) ≤ p ∧ p < i) by omega)]; exact h _ _ (by omega) q2 q3
theorem one_right (O : Ord cf) {xs ys : List α} {a i m : Nat} (h : Srtd cf d xs a m) (hr : Rot d xs ys i m (m + 1)) (h1 : a ≤ i) (h2 : i ≤ m) (hA : ∀ t, a ≤ t → t < i → ¬ cf (xs.getD m d) (xs.getD t d) < 0) (hB : ∀ t, i ≤ t → t < m → cf (xs.getD m d) (xs.getD t d) < 0) : Srtd cf d ys a (m + 1) := by
  intro p q q1 q2 q3
  rw [hr.2, hr.2]
  simp only [rotG]
  have e1 : m + 1 - m = 1 := by omega
  rw [e1]
  by_cases c1 : p < i
  · rw [if_neg (show ¬ (i ≤ p ∧ p < i + 1) by omega), if_neg (show ¬ (i + 1 ≤ p ∧ p < m + 1) by omega)]
    by_cases c2 : q < i
    · rw [if_neg (show ¬ (i ≤ q ∧ q < i + 1) by omega), if_neg (show ¬ (i + 1 ≤ q ∧ q < m + 1) by omega)]; exact h _ _ q1 q2 (by omega)
    · by_cases c3 : q = i
      · rw [if_pos (show i ≤ q ∧ q < i + 1 by omega), show q + (m - i) = m by omega]
        exact hA p q1 c1
      · rw [if_neg (show ¬ (i ≤ q ∧ q < i + 1) by omega), if_pos (show i + 1 ≤ q ∧ q < m + 1 by omega)]; exact h _ _ q1 (by omega) (by omega)
  · rw [if_neg (show ¬ (i ≤ q ∧ q < i + 1) by omega), if_pos (show i + 1 ≤ q ∧ q < m + 1 by omega)]
    by_cases c3 : p = i
    · rw [if_pos (show i ≤ p ∧ p < i + 1 by omega), show p + (m - i) = m by omega]
      exact O.asy (hB (q - 1) (by omega) (by omega))
    · rw [if_neg (show ¬ (i ≤ p ∧ p < i + 1) by omega), if_pos (show i + 1 ≤ p ∧ p < m + 1 by omega)]; exact h _ _ (by omega) (by omega) (by omega)

/-! ### Blocks -/
def Blks (cf : α → α → Int) (d : α) (xs : List α) (bs lo hi : Nat) : Prop := ∀ i j, lo ≤ i → i < j → j < hi → i / bs = j / bs → le cf (xs.getD i d) (xs.getD j d)
theorem blks_nil (xs : List α) (bs : Nat) : Blks cf d xs bs 0 0 := fun _ _ _ _ h => by omega
theorem blks_ins {xs ys : List α} {bs q a b : Nat} (h : Blks cf d xs bs 0 a) (ha : a = q * bs) (hb : 0 < bs) (u : Upd d a b xs ys) (s : Srtd cf d ys a b) : Blks cf d ys bs 0 b := fun i j h1 h2 h3 h4 => by
  by_cases c : j < a
  · rw [u.out i (by omega), u.out j (by omega)]
    exact h i j h1 h2 c h4
  · have h5 : q ≤ j / bs := (Nat.le_div_iff_mul_le hb).2 (by omega)
    have h6 : q ≤ i / bs := by omega
    have h7 := (Nat.le_div_iff_mul_le hb).1 h6
    exact s i j (by omega) h2 h3
theorem blks_out {xs ys : List α} {bs a b n : Nat} (h : Blks cf d xs bs a n) (u : Upd d a b xs ys) (hab : a ≤ b) : Blks cf d ys bs b n := fun i j h1 h2 h3 h4 => by
  rw [u.out i (by omega), u.out j (by omega)]
  exact h i j (by omega) h2 h3 h4
theorem blks_srtd {xs : List α} {bs r lo b n : Nat} (h : Blks cf d xs bs lo n) (hb : 0 < bs) (h1 : lo ≤ r * bs) (h2 : b ≤ r * bs + bs) (h3 : b ≤ n) : Srtd cf d xs (r * bs) b := fun i j k1 k2 k3 => by
  have e : ∀ t, r * bs ≤ t → t < b → t / bs = r := fun t t1 t2 => by
    refine Nat.div_eq_of_lt_le t1 ?_
    rw [Nat.succ_mul]
    omega
  exact h i j (by omega) k2 (by omega) ((e i k1 (by omega)).trans (e j (by omega) k3).symm)
theorem blks_part {xs : List α} {bs q a n : Nat} (h : Blks cf d xs (2 * bs) 0 a) (g : Blks cf d xs bs a n) (hb : 0 < bs) (ha : a = q * (2 * bs)) (hn : n ≤ a + bs) : Blks cf d xs (2 * bs) 0 n := fun i j h1 h2 h3 h4 => by
  by_cases c : j < a
  · exact h i j h1 h2 c h4
  · have h5 : q ≤ j / (2 * bs) := (Nat.le_div_iff_mul_le (by omega)).2 (by omega)
    have h6 : q ≤ i / (2 * bs) := by omega
    have h7 := (Nat.le_div_iff_mul_le (by omega)).1 h6
    have e : a = (2 * q) * bs := by rw [ha, Nat.mul_assoc, Nat.mul_left_comm]
    have := blks_srtd (r := 2 * q) (b := n) g hb (by omega) (by omega) (Nat.le_refl _)
    exact this i j (by omega) h2 h3
theorem blks_end {xs : List α} {bs n : Nat} (h : Blks cf d xs bs 0 n) (hn : n ≤ bs) : Srtd cf d xs 0 n := fun i j h1 h2 h3 => h i j h1 h2 h3 (by rw [Nat.div_eq_of_lt (by omega), Nat.div_eq_of_lt (by omega)])

/-! ### Neighbours that are the same, left out -/
structure OrdA {α : Type} (cf : α → α → Int) : Prop extends Ord cf where
  an : ∀ x y, cf x y = - cf y x
theorem OrdA.lt_of (O : OrdA cf) {x y : α} (h : le cf x y) (hn : cf x y ≠ 0) : cf x y < 0 := by
  have := O.an x y
  unfold le at h
  omega
theorem OrdA.lt_le (O : OrdA cf) {x y z : α} (h : cf x y < 0) (g : le cf y z) : cf x z < 0 := Srt.lt_le O.toOrd h g
theorem OrdA.le_lt (O : OrdA cf) {x y z : α} (h : le cf x y) (g : cf y z < 0) : cf x z < 0 := Srt.le_lt O.toOrd h g
/-- The first n elements, but for those that are the same as the one ahead of them. -/
def ddF (cf : α → α → Int) (d : α) (xs : List α) : Nat → List α
  | 0 => []
  | n + 1 => if 0 < n ∧ cf (xs.getD n d) (xs.getD (n - 1) d) = 0 then ddF cf d xs n else ddF cf d xs n ++ [xs.getD n d]
theorem ddF_len (xs : List α) : ∀ n, (ddF cf d xs n).length ≤ n
  | 0 => Nat.le_refl _
  | n + 1 => by
    have := ddF_len xs n
    rw [ddF]
    split
    · omega
    · rw [List.length_append, List.length_singleton]; omega
theorem ddF_mem {xs : List α} : ∀ {n}, n ≤ xs.length → ∀ x ∈ ddF cf d xs n, ∃ i, i < n ∧ x = xs.getD i d
  | 0, _, x, h => by cases h
  | n + 1, hn, x, h => by
    rw [ddF] at h
    split at h
    · obtain ⟨i, h1, h2⟩ := ddF_mem (n := n) (by omega) x h
      exact ⟨i, by omega, h2⟩
    · rcases List.mem_append.1 h with h | h
      · obtain ⟨i, h1, h2⟩ := ddF_mem (n := n) (by omega) x h
        exact ⟨i, by omega, h2⟩
      · exact ⟨n, by omega, List.mem_singleton.1 h⟩
theorem ddF_cov (O : OrdA cf) {xs : List α} : ∀ {n}, ∀ i, i < n → ∃ x ∈ ddF cf d xs n, cf (xs.getD i d) x = 0
  | 0, i, h => by omega
  | n + 1, i, h => by
    have rf : ∀ x : α, cf x x = 0 := fun x => by have := O.an x x; omega
    by_cases c : i < n
    · obtain ⟨x, h1, h2⟩ := ddF_cov O (n := n) i c
      refine ⟨x, ?_, h2⟩
      rw [ddF]
      split
      · exact h1
      · exact List.mem_append_left _ h1
    · obtain rfl : i = n := by omega
      by_cases c2 : 0 < i ∧ cf (xs.getD i d) (xs.getD (i - 1) d) = 0
      · obtain ⟨x, h1, h2⟩ := ddF_cov O (n := i) (i - 1) (by omega)
        refine ⟨x, by rw [ddF, if_pos c2]; exact h1, ?_⟩
        have a1 := O.an (xs.getD i d) (xs.getD (i - 1) d)
        have a2 := O.an (xs.getD (i - 1) d) x
        have a3 := O.an (xs.getD i d) x
        have t1 := O.tr (x := xs.getD i d) (y := xs.getD (i - 1) d) (z := x) (by omega) (by omega)
        have t2 := O.tr (x := x) (y := xs.getD (i - 1) d) (z := xs.getD i d) (by omega) (by omega)
        omega
      · exact ⟨xs.getD i d, by rw [ddF, if_neg c2]; exact List.mem_append_right _ (List.mem_singleton.2 rfl), rf _⟩
theorem ddF_strict (O : OrdA cf) {xs : List α} : ∀ {n}, n ≤ xs.length → Srtd cf d xs 0 n → (ddF cf d xs n).Pairwise fun x y => cf x y < 0
  | 0, _, _ => List.Pairwise.nil
  | n + 1, hn, hs => by
    have ih := ddF_strict O (n := n) (by omega) (srtd_sub hs (Nat.le_refl _) (by omega))
    rw [ddF]
    split
    · exact ih
    · rename_i hc
      refine List.pairwise_append.2 ⟨ih, List.pairwise_singleton _ _, fun x hx y hy => ?_⟩
      obtain rfl := List.mem_singleton.1 hy
      obtain ⟨i, h1, rfl⟩ := ddF_mem (by omega) x hx
      have h2 : cf (xs.getD (n - 1) d) (xs.getD n d) < 0 := by
        refine O.lt_of (hs (n - 1) n (by omega) (by omega) (by omega)) fun e => hc ⟨by omega, ?_⟩
        have := O.an (xs.getD n d) (xs.getD (n - 1) d)
        omega
      exact O.le_lt (hs.le' O.toOrd (Nat.zero_le _) (show i ≤ n - 1 by omega) (by omega)) h2
/-- Two lists in strict order with the same members are one. -/
theorem eq_of_strict {r : α → α → Prop} (irr : ∀ x, ¬ r x x) (tr : ∀ {x y z}, r x y → r y z → r x z) : ∀ {l1 l2 : List α}, l1.Pairwise r → l2.Pairwise r → (∀ x, x ∈ l1 ↔ x ∈ l2) → l1 = l2
  | [], [], _, _, _ => rfl
  | [], b :: _, _, _, h => by have := (h b).2 (.head _); cases this
  | a :: _, [], _, _, h => by have := (h a).1 (.head _); cases this
  | a :: l1, b :: l2, h1, h2, h => by
    obtain ⟨p1, q1⟩ := List.pairwise_cons.1 h1
    obtain ⟨p2, q2⟩ := List.pairwise_cons.1 h2
    have e : a = b := by
      rcases List.mem_cons.1 ((h a).1 (.head _)) with e | e
      · exact e
      · rcases List.mem_cons.1 ((h b).2 (.head _)) with e' | e'
        · exact e'.symm
        · exact absurd (tr (p1 b e') (p2 a e)) (irr a)
    subst e
    congr 1
    refine eq_of_strict irr tr q1 q2 fun x => ⟨fun hx => ?_, fun hx => ?_⟩
    · rcases List.mem_cons.1 ((h x).1 (.tail _ hx)) with e | e
      · subst e; exact absurd (p1 x hx) (irr x)
      · exact e
    · rcases List.mem_cons.1 ((h x).2 (.tail _ hx)) with e | e
      · subst e; exact absurd (p2 x hx) (irr x)
      · exact e
end
end Go.Srt

/- The order of byte strings. General. -/
namespace Go.Srt
set_option linter.unusedSimpArgs false
set_option linter.unusedVariables false
open Go.Lib

theorem cmp_anti : ∀ a b : List UInt8, compareBytes a b = - compareBytes b a
  | [], [] => rfl
  | [], _ :: _ => rfl
  | _ :: _, [] => rfl
  | a :: asy, b :: bs => by
    have ih := cmp_anti asy bs
    simp only [compareBytes, UInt8.lt_iff_toNat_lt]
    by_cases h1 : a.toNat < b.toNat
    · rw [if_pos h1, if_neg (by omega), if_pos h1]
    · by_cases h2 : b.toNat < a.toNat
      · rw [if_neg h1, if_pos h2, if_pos h2]; rfl
      · rw [if_neg h1, if_neg h2, if_neg h2, if_neg h1]; exact ih
theorem cmp_zero : ∀ a b : List UInt8, compareBytes a b = 0 ↔ a = b
  | [], [] => by simp [compareBytes]
  | [], _ :: _ => by simp [compareBytes]
  | _ :: _, [] => by simp [compareBytes]
  | a :: asy, b :: bs => by
    have ih := cmp_zero asy bs
    simp only [compareBytes, UInt8.lt_iff_toNat_lt, List.cons.injEq, ← UInt8.toNat_inj]
    by_cases h1 : a.toNat < b.toNat
    · rw [if_pos h1]
      constructor
      · intro h; omega
      · intro h; omega
    · by_cases h2 : b.toNat < a.toNat
      · rw [if_neg h1, if_pos h2]
        constructor
        · intro h; omega
        · intro h; omega
      · rw [if_neg h1, if_neg h2, ih]
        constructor
        · intro h; exact ⟨by omega, h⟩
        · intro h; exact h.2
theorem cmp_tr : ∀ {a b c : List UInt8}, ¬ compareBytes b a < 0 → ¬ compareBytes c b < 0 → ¬ compareBytes c a < 0
  | [], _, [], _, _ => by simp [compareBytes]
  | [], _, _ :: _, _, _ => by simp [compareBytes]
  | _ :: _, [], _, h, _ => by simp [compareBytes] at h
  | _ :: _, _ :: _, [], _, h => by simp [compareBytes] at h
  | a :: asy, b :: bs, c :: cs, h, g => by
    have ih := cmp_tr (a := asy) (b := bs) (c := cs)
    simp only [compareBytes, UInt8.lt_iff_toNat_lt] at h g ⊢
    by_cases h1 : b.toNat < a.toNat
    · rw [if_pos h1] at h; exact absurd (by decide) h
    · rw [if_neg h1] at h
      by_cases g1 : c.toNat < b.toNat
      · rw [if_pos g1] at g; exact absurd (by decide) g
      · rw [if_neg g1] at g
        by_cases h2 : a.toNat < b.toNat
        · rw [if_neg (by omega), if_pos (by omega)]; decide
        · rw [if_neg h2] at h
          by_cases g2 : b.toNat < c.toNat
          · rw [if_neg (by omega), if_pos (by omega)]; decide
          · rw [if_neg g2] at g
            rw [if_neg (by omega), if_neg (by omega)]
            exact ih h g
theorem ord_key {α : Type} (key : α → List UInt8) : OrdA fun x y => compareBytes (key x) (key y) where
  tr := cmp_tr
  asy := fun {x y} h => by have := cmp_anti (key x) (key y); omega
  an := fun x y => cmp_anti _ _
theorem less_cmp : ∀ a b : List UInt8, Op.bytesLess a b = decide (compareBytes a b < 0)
  | [], [] => rfl
  | [], _ :: _ => rfl
  | _ :: _, [] => rfl
  | a :: asy, b :: bs => by
    have ih := less_cmp asy bs
    simp only [Op.bytesLess, compareBytes]
    by_cases h1 : a < b
    · simp [h1]
    · by_cases h2 : b < a
      · have h3 : (a == b) = false := beq_eq_false_iff_ne.2 fun e => by subst e; exact UInt8.lt_irrefl _ h2
        simp [h1, h2, h3]
      · have h3 : a = b := by
          rw [← UInt8.toNat_inj]
          simp only [UInt8.lt_iff_toNat_lt] at h1 h2
          omega
        simp [h1, h3, ih]
end Go.Srt

/- Package directory: facts and their normal form, plain. -/
namespace Go.Proofs.YtjapdhaimbalkaaDoor
set_option linter.unusedSimpArgs false
set_option linter.unusedVariables false
open Go.RowKit Go.Sl Go.Srt Go.Lib

abbrev Fa := Int × Str × MF × Dg × Unit
structure FaOk (f : Fa) : Prop where
  k : I64 f.1
  t : f.2.1.b.length ≤ 300
  m : MfOk f.2.2.1
  s : f.2.2.1.2.2.2.1.length ≤ 10
  d : f.2.2.2.1.l.length = 16
def zeroDg : Dg := ⟨List.replicate 16 0⟩
def plainM (m : MF) : Bool := decide (m.1 = 0) && decide (m.2.1 = 0) && decide (m.2.2.1 = 0) && decide (m.2.2.2.1.length = 0)
def validF (f : Fa) : Bool :=
  if f.1 = 1 then plainM f.2.2.1 && decide (f.2.2.2.1 = zeroDg) && decide (f.2.1.b.length ≤ 1500)
  else if f.1 = 2 then decide (f.2.2.2.1 = zeroDg) && decide (f.2.1.b.length = 0) && validM f.2.2.1
  else if f.1 = 3 ∨ f.1 = 4 then plainM f.2.2.1 && decide (f.2.1.b.length = 0)
  else false
def encFa (f : Fa) : List UInt8 := encI f.1 ++ (if f.1 = 1 then encB f.2.1.b else if f.1 = 2 then encB (encMF f.2.2.1) else if f.1 = 3 ∨ f.1 = 4 then f.2.2.2.1.l else [])
theorem plainM_of {m : MF} (h : plainM m = true) : m = (0, 0, 0, [], ()) := by
  simp only [plainM, Bool.and_eq_true, decide_eq_true_eq, List.length_eq_zero_iff] at h
  obtain ⟨⟨⟨h1, h2⟩, h3⟩, h4⟩ := h
  exact Prod.ext h1 (Prod.ext h2 (Prod.ext h3 (Prod.ext h4 rfl)))
theorem str0 {s : Str} (h : s.b.length = 0) : s = ⟨[]⟩ := by
  obtain ⟨b⟩ := s
  rw [List.length_eq_zero_iff] at h
  subst h
  rfl
theorem FaOk.mo {f : Fa} (h : FaOk f) : okMF f.2.2.1 := by
  obtain ⟨i1, i2, i3, i4⟩ := h.m
  have := h.s
  exact ⟨i1, i2, i3, ⟨by omega, i4⟩, trivial⟩
theorem FaOk.ml {f : Fa} (h : FaOk f) : (encMF f.2.2.1).length ≤ 200 := encMF_bound h.m h.s
theorem encB_app {s t : List UInt8} {a b : List UInt8} (hs : s.length ≤ 1048576) (ht : t.length ≤ 1048576) (h : encB s ++ a = encB t ++ b) : s = t ∧ a = b := by
  have h1 := getB_encB (t := a) hs
  rw [h, getB_encB ht] at h1
  obtain ⟨e1, e2⟩ := Prod.mk.inj h1
  subst e1
  exact ⟨rfl, List.append_cancel_left h⟩
theorem encFa_inj {f g : Fa} (of : FaOk f) (og : FaOk g) (vf : validF f = true) (vg : validF g = true) (h : encFa f = encFa g) : f = g := by
  obtain ⟨k, tf, mf, df, ⟨⟩⟩ := f
  obtain ⟨k', tg, mg, dg, ⟨⟩⟩ := g
  obtain ⟨e1, e2⟩ := encI_app of.k og.k h
  have e1' : k = k' := e1
  subst e1'
  simp only [validF] at vf vg
  simp only at e2
  by_cases c1 : k = 1
  · simp only [if_pos c1, Bool.and_eq_true, decide_eq_true_eq] at vf vg e2
    have e3 := encB_app (s := tf.b) (t := tg.b) (a := []) (b := []) (by have := of.t; simp only at this; omega) (by have := og.t; simp only at this; omega) (by simpa using e2)
    have em : mf = mg := (plainM_of vf.1.1).trans (plainM_of vg.1.1).symm
    have ed : df = dg := vf.1.2.trans vg.1.2.symm
    have et : tf = tg := by cases tf; cases tg; simpa using e3.1
    subst em; subst ed; subst et; rfl
  · by_cases c2 : k = 2
    · simp only [if_neg c1, if_pos c2, Bool.and_eq_true, decide_eq_true_eq] at vf vg e2
      have lf := of.ml
      have lg := og.ml
      simp only at lf lg
      have e3 := encB_app (s := encMF mf) (t := encMF mg) (a := []) (b := []) (by omega) (by omega) (by simpa using e2)
      have em : mf = mg := (enc_inj mf_codec of.mo og.mo).1 e3.1
      have ed : df = dg := vf.1.1.trans vg.1.1.symm
      have et : tf = tg := (str0 vf.1.2).trans (str0 vg.1.2).symm
      subst em; subst ed; subst et; rfl
    · by_cases c3 : k = 3 ∨ k = 4
      · simp only [if_neg c1, if_neg c2, if_pos c3, Bool.and_eq_true, decide_eq_true_eq] at vf vg e2
        have em : mf = mg := (plainM_of vf.1).trans (plainM_of vg.1).symm
        have et : tf = tg := (str0 vf.2).trans (str0 vg.2).symm
        have ed : df = dg := by cases df; cases dg; simpa using e2
        subst em; subst ed; subst et; rfl
      · simp only [if_neg c1, if_neg c2, if_neg c3] at vf
        cases vf

/-! ### The normal form -/
abbrev cfF (f g : Fa) : Int := compareBytes (encFa f) (encFa g)
def insF (f : Fa) : List Fa → List Fa
  | [] => [f]
  | x :: l => if encFa x = encFa f then x :: l else if cfF f x < 0 then f :: x :: l else x :: insF f l
def nrm (fs : List Fa) : List Fa := (fs.filter validF).foldl (fun out f => insF f out) []
theorem nrm_snoc (fs : List Fa) (f : Fa) : nrm (fs ++ [f]) = if validF f = true then insF f (nrm fs) else nrm fs := by
  unfold nrm
  rw [List.filter_append, List.foldl_append]
  cases h : validF f <;> simp [List.filter, h]
theorem ordF : OrdA cfF := ord_key encFa
def GoodF (f : Fa) : Prop := FaOk f ∧ validF f = true
theorem cf_zero {f g : Fa} (hf : GoodF f) (hg : GoodF g) (h : cfF f g = 0) : f = g := encFa_inj hf.1 hg.1 hf.2 hg.2 ((cmp_zero _ _).1 h)
theorem insF_mem {f : Fa} (hf : GoodF f) : ∀ {l : List Fa}, (∀ x ∈ l, GoodF x) → ∀ y, y ∈ insF f l ↔ y = f ∨ y ∈ l
  | [], _, y => by simp [insF]
  | x :: l, h, y => by
    have ih := insF_mem hf (l := l) (fun z hz => h z (.tail _ hz)) y
    rw [insF]
    split
    · rename_i e
      have : x = f := encFa_inj (h x (.head _)).1 hf.1 (h x (.head _)).2 hf.2 e
      subst this
      simp
    · split
      · simp
      · simp only [List.mem_cons, ih]
        constructor
        · rintro (h | h | h) <;> simp [h]
        · rintro (h | h | h) <;> simp [h]
theorem insF_sub (f : Fa) : ∀ (l : List Fa), ∀ y ∈ insF f l, y = f ∨ y ∈ l
  | [], y, h => by simpa [insF] using h
  | x :: l, y, h => by
    rw [insF] at h
    split at h
    · exact .inr h
    · split at h
      · exact List.mem_cons.1 h
      · rcases List.mem_cons.1 h with h | h
        · exact .inr (by rw [h]; exact .head _)
        · rcases insF_sub f l y h with h | h
          · exact .inl h
          · exact .inr (.tail _ h)
theorem insF_strict (f : Fa) : ∀ {l : List Fa}, (l.Pairwise fun x y => cfF x y < 0) → (insF f l).Pairwise fun x y => cfF x y < 0
  | [], _ => by simp [insF]
  | x :: l, h => by
    obtain ⟨p, q⟩ := List.pairwise_cons.1 h
    have ih := insF_strict f q
    have an := ordF.an
    rw [insF]
    split
    · exact h
    · rename_i hne
      split
      · rename_i hlt
        refine List.pairwise_cons.2 ⟨fun y hy => ?_, h⟩
        rcases List.mem_cons.1 hy with rfl | hy
        · exact hlt
        · exact ordF.lt_le hlt (ordF.asy (p y hy))
      · rename_i hge
        refine List.pairwise_cons.2 ⟨fun y hy => ?_, ih⟩
        rcases insF_sub f l y hy with rfl | hy
        · refine ordF.lt_of hge fun e => hne ((cmp_zero _ _).1 e)
        · exact p y hy
theorem nrm_strict (fs : List Fa) : (nrm fs).Pairwise fun x y => cfF x y < 0 := by
  unfold nrm
  generalize fs.filter validF = gs
  have : ∀ (gs out : List Fa), (out.Pairwise fun x y => cfF x y < 0) → ((gs.foldl (fun out f => insF f out) out).Pairwise fun x y => cfF x y < 0) := by
    intro gs
    induction gs with
    | nil => exact fun out h => h
    | cons g gs ih => exact fun out h => ih _ (insF_strict g h)
  exact this gs [] List.Pairwise.nil
theorem nrm_mem {fs : List Fa} (ok : ∀ f ∈ fs, FaOk f) (y : Fa) : y ∈ nrm fs ↔ y ∈ fs ∧ validF y = true := by
  have key : ∀ (gs out : List Fa), (∀ g ∈ gs, GoodF g) → (∀ g ∈ out, GoodF g) → (y ∈ gs.foldl (fun out f => insF f out) out ↔ y ∈ gs ∨ y ∈ out) := by
    intro gs
    induction gs with
    | nil => intro out _ _; simp
    | cons g gs ih =>
      intro out h1 h2
      have hg := h1 g (.head _)
      rw [List.foldl_cons, ih _ (fun x hx => h1 x (.tail _ hx)) fun x hx => by
        rcases (insF_mem hg h2 x).1 hx with rfl | h
        · exact hg
        · exact h2 x h, insF_mem hg h2]
      simp only [List.mem_cons]
      constructor
      · rintro (h | h | h) <;> simp [h]
      · rintro ((h | h) | h) <;> simp [h]
  unfold nrm
  rw [key _ [] (fun g hg => ⟨ok g (List.mem_filter.1 hg).1, (List.mem_filter.1 hg).2⟩) (fun g hg => by cases hg), List.mem_filter]
  simp
theorem nrm_good {fs : List Fa} (ok : ∀ f ∈ fs, FaOk f) : ∀ y ∈ nrm fs, GoodF y := fun y hy => by
  obtain ⟨h1, h2⟩ := (nrm_mem ok y).1 hy
  exact ⟨ok y h1, h2⟩
theorem cf_irr (x : Fa) : ¬ cfF x x < 0 := fun h => ordF.asy h h
theorem cf_tr {x y z : Fa} (h : cfF x y < 0) (g : cfF y z < 0) : cfF x z < 0 := ordF.lt_le h (ordF.asy g)
/-- What is in strict order and holds just the valid facts is the normal form. -/
theorem nrm_uniq {fs ys : List Fa} (ok : ∀ f ∈ fs, FaOk f) (hs : ys.Pairwise fun x y => cfF x y < 0) (hm : ∀ y, y ∈ ys ↔ y ∈ fs ∧ validF y = true) : ys = nrm fs :=
  @eq_of_strict Fa (fun x y => cfF x y < 0) cf_irr (fun {x y z} h g => cf_tr h g) ys (nrm fs) hs (nrm_strict fs) fun x => (hm x).trans (nrm_mem ok x).symm
theorem nrm_congr {a b : List Fa} (oa : ∀ f ∈ a, FaOk f) (ob : ∀ f ∈ b, FaOk f) (h : ∀ y, validF y = true → (y ∈ a ↔ y ∈ b)) : nrm a = nrm b :=
  nrm_uniq ob (nrm_strict a) fun y => by
    rw [nrm_mem oa]
    constructor
    · rintro ⟨h1, h2⟩; exact ⟨(h y h2).1 h1, h2⟩
    · rintro ⟨h1, h2⟩; exact ⟨(h y h2).2 h1, h2⟩
theorem nrm_ok {fs : List Fa} (ok : ∀ f ∈ fs, FaOk f) : ∀ f ∈ nrm fs, FaOk f := fun f hf => (nrm_good ok f hf).1
theorem nrm_nrm {a b : List Fa} (oa : ∀ f ∈ a, FaOk f) (ob : ∀ f ∈ b, FaOk f) : nrm (nrm a ++ b) = nrm (a ++ b) := by
  have o1 : ∀ f ∈ a ++ b, FaOk f := fun f hf => by
    rcases List.mem_append.1 hf with h | h
    · exact oa f h
    · exact ob f h
  have o2 : ∀ f ∈ nrm a ++ b, FaOk f := fun f hf => by
    rcases List.mem_append.1 hf with h | h
    · exact nrm_ok oa f h
    · exact ob f h
  refine nrm_congr o2 o1 fun y hy => ?_
  rw [List.mem_append, List.mem_append, nrm_mem oa]
  simp [hy]
/-- Entries in order, neighbours with the same encoding left out: the normal form. -/
theorem nrm_dd {fs xs : List Fa} {d : Fa} (ok : ∀ f ∈ fs, FaOk f) (hp : xs.Perm (fs.filter validF)) (hs : Srtd cfF d xs 0 xs.length) : ddF cfF d xs xs.length = nrm fs := by
  have hg : ∀ x ∈ xs, GoodF x := fun x hx => by
    have := List.mem_filter.1 (hp.mem_iff.1 hx)
    exact ⟨ok x this.1, this.2⟩
  refine nrm_uniq ok (ddF_strict ordF (Nat.le_refl _) hs) fun y => ?_
  rw [← List.mem_filter, ← hp.mem_iff]
  constructor
  · intro h
    obtain ⟨i, h1, rfl⟩ := ddF_mem (Nat.le_refl _) y h
    rw [getD_lt h1]
    exact List.getElem_mem h1
  · intro h
    obtain ⟨i, h1, rfl⟩ := List.getElem_of_mem h
    obtain ⟨x, h2, h3⟩ := ddF_cov (d := d) ordF i h1
    rw [getD_lt h1] at h3
    obtain ⟨j, j1, rfl⟩ := ddF_mem (Nat.le_refl _) x h2
    rw [getD_lt j1] at h3 h2
    rw [cf_zero (hg _ (List.getElem_mem h1)) (hg _ (List.getElem_mem j1)) h3]
    exact h2
end Go.Proofs.YtjapdhaimbalkaaDoor

/- Package directory: entries compared, walked. -/
--@hgp
--@flat
--@dg
--@ex0
namespace Go.Proofs.YtjapdhaimbalkaaDoor
set_option linter.unusedSimpArgs false
set_option linter.unusedVariables false
open Go.RowKit Go.Sl Go.Srt Go.Lib

abbrev En := Fa × Str × Unit
abbrev cfE (x y : En) : Int := compareBytes x.2.1.b y.2.1.b
theorem ordE : OrdA cfE := ord_key fun e : En => e.2.1.b
def dFa : Fa := (0, ⟨[]⟩, (0, 0, 0, [], ()), zeroDg, ())
def dEn : En := (dFa, ⟨[]⟩, ())

set_option maxHeartbeats 1000000 in
set_option maxRecDepth 100000 in
theorem cmpString_k (a b : ByteArray) (w : World) :
    Calls Tryd.prog 101 #[.string a, .string b] w fun e w' => e = .returned (.int .i64 (Lib.compareBytes a.data.toList b.data.toList)) ∧ w' = w := by
  go_enter Tryd.func101, Tryd.ntmps101
  go_wp2
  rw [run_callFunc_extern Tryd.func106 (by kernel_rfl) (by kernel_rfl) (by kernel_rfl) (e := Extern.BytealgCompare.compare) (by kernel_rfl), Lib.run_compareString]
  simp only [Result.andThen]
  rw [Oper.upon_value]
  go_wp2
  go_ret
  exact ⟨rfl, rfl⟩
set_option maxHeartbeats 1000000 in
theorem compare_k (a b : ByteArray) (w : World) :
    Calls Tryd.prog 92 #[.string a, .string b] w fun e w' => e = .returned (.int .i64 (Lib.compareBytes a.data.toList b.data.toList)) ∧ w' = w := by
  go_enter Tryd.func92, Tryd.ntmps92
  go_wp2_with (go_at_call 101; refine (cmpString_k _ _ _).mono ?_; rintro e w' ⟨rfl, rfl⟩)
  go_ret
  exact ⟨rfl, rfl⟩
theorem scmp_c {S M} (w : World) (hst : St S M w) (a b : List UInt8) :
    Rets Tryd.prog 92 [.string ⟨a.toArray⟩, .string ⟨b.toArray⟩] w fun v w' => v = .int .i64 (compareBytes a b) ∧ St S M w' :=
  Calls.mono (compare_k ⟨a.toArray⟩ ⟨b.toArray⟩ w) fun e w' ⟨h1, h2⟩ => ⟨_, h1, by simp, by rw [h2]; exact hst⟩

set_option maxRecDepth 8000 in
set_option maxHeartbeats 1000000 in
theorem ecmp_c {S M} (w : World) (hst : St S M w) (c1 : List Value) (x : En) (h1 : Rep.R S c1 x) (c2 : List Value) (y : En) (h2 : Rep.R S c2 y) :
    Rets Tryd.prog 71 [.agg c1.toArray, .agg c2.toArray] w fun v w' => v = .int .i64 (cfE x y) ∧ St S M w' := by
  unfold Rets
  go_enter Tryd.func71, Tryd.ntmps71
  repeat' ((fail_if_success (with_reducible show Code.wp _ (Code.region 1 _ _) _ _ _)); first | ((fail_if_success (go_big_may)); (go_step)) | (((((refine s_box hst evX rfl ?_; clear hst; intro bx w hst)))) <;> (try refine nX ?_) <;> (try replace hst := nH hst)))
  have hst0 := hst
  clear hst
  obtain ⟨S1, hS1, hst, hpy⟩ := pt_box (α := En) hst0 h2 (Rep.len h2)
  clear hst0
  generalize Value.pointer (some ⟨bx, 0, none⟩) = pY at *
  rename Nat => bz
  have hst0 := hst
  clear hst
  obtain ⟨S2, hS2, hst, hpx⟩ := pt_box (α := En) hst0 (Rep.mono hS1 h1) (Rep.len h1)
  clear hst0
  generalize Value.pointer (some ⟨bx, 0, none⟩) = pX at *
  replace hpy := hpy.mono hS2
  repeat' (first | (((with_reducible refine Sl.k_call ?_; ((refine s_call (scmp_c _ hst x.2.1.b y.2.1.b) inX rfl ?_; clear hst; rintro v w ⟨rfl, hst⟩)))) <;> (try refine nX ?_) <;> (try replace hst := nH hst)) | ((fail_if_success (go_big_may)); (go_step)) | ((first | (with_reducible refine Sl.k_load ?_; ((refine s_ex hst (qt_ldp_str evX asX inX) ?_; rintro v ⟨rfl, hs⟩))) | (with_reducible refine Sl.k_field ?_; (((refine s_ex hst (qt_fieldp evX asX inX inX rfl) ?_); rintro v hp; (try simp only [Int.toNat_natCast, Int.toNat_natCast_add_one, Int.reduceToNat] at hp))))) <;> (try refine nX ?_)))
  go_ret
  exact ⟨_, rfl, rfl, St.weaken (hS1.trans hS2) hst⟩
set_option maxRecDepth 8000 in
set_option maxHeartbeats 1000000 in
theorem esame_c {S M} (w : World) (hst : St S M w) (c1 : List Value) (x : En) (h1 : Rep.R S c1 x) (c2 : List Value) (y : En) (h2 : Rep.R S c2 y) :
    Rets Tryd.prog 73 [.agg c1.toArray, .agg c2.toArray] w fun v w' => v = .bool (decide (cfE x y = 0)) ∧ St S M w' := by
  unfold Rets
  have hE : decide (cfE x y = 0) = decide (x.2.1.b = y.2.1.b) := decide_eq_decide.2 (cmp_zero _ _)
  rw [hE]
  clear hE
  go_enter Tryd.func73, Tryd.ntmps73
  repeat' ((fail_if_success (with_reducible show Code.wp _ (Code.region 1 _ _) _ _ _)); first | ((fail_if_success (go_big_may)); (go_step)) | (((((refine s_box hst evX rfl ?_; clear hst; intro bx w hst)))) <;> (try refine nX ?_) <;> (try replace hst := nH hst)))
  have hst0 := hst
  clear hst
  obtain ⟨S1, hS1, hst, hpy⟩ := pt_box (α := En) hst0 h2 (Rep.len h2)
  clear hst0
  generalize Value.pointer (some ⟨bx, 0, none⟩) = pY at *
  rename Nat => bz
  have hst0 := hst
  clear hst
  obtain ⟨S2, hS2, hst, hpx⟩ := pt_box (α := En) hst0 (Rep.mono hS1 h1) (Rep.len h1)
  clear hst0
  generalize Value.pointer (some ⟨bx, 0, none⟩) = pX at *
  replace hpy := hpy.mono hS2
  repeat' (first | (((with_reducible refine Sl.k_bin ?_; (refine s_qt hst (qt_eql_str rfl rfl inX rfl) ?_))) <;> (try refine nX ?_)) | ((fail_if_success (go_big_may)); (go_step)) | ((first | (with_reducible refine Sl.k_load ?_; ((refine s_ex hst (qt_ldp_str evX asX inX) ?_; rintro v ⟨rfl, hs⟩))) | (with_reducible refine Sl.k_field ?_; (((refine s_ex hst (qt_fieldp evX asX inX inX rfl) ?_); rintro v hp; (try simp only [Int.toNat_natCast, Int.toNat_natCast_add_one, Int.reduceToNat] at hp))))) <;> (try refine nX ?_)))
  go_ret
  exact ⟨_, rfl, rfl, St.weaken (hS1.trans hS2) hst⟩
end Go.Proofs.YtjapdhaimbalkaaDoor

/- Package slices at the entries of package directory: ranges exchanged, insertion, walked. -/
--@hgp
--@flat
--@dg
--@ex0
namespace Go.Proofs.YtjapdhaimbalkaaDoor
set_option linter.unusedSimpArgs false
set_option linter.unusedVariables false
open Go.RowKit Go.Sl Go.Srt

theorem getD_some {α : Type} {d : α} {xs : List α} {i : Nat} (h : i < xs.length) : xs[i]? = some (xs.getD i d) := by
  rw [List.getElem?_eq_getElem h, getD_lt h]
theorem num_sub {i j : Nat} (h : j ≤ i) : Value.int .i64 ((i : Int) - (j : Int)) = .int .i64 ((i - j : Nat) : Int) := by rw [Int.ofNat_sub h]
theorem swR_at {xs ys : List En} {a b n : Int} {a' b' n' : Nat} (h : SwR dEn xs ys a.toNat b.toNat n.toNat) (h1 : a = a') (h2 : b = b') (h3 : n = n') : SwR dEn xs ys a' b' n' := by
  subst h1; subst h2; subst h3
  simpa using h
/-- The comparison that is handed over. -/
abbrev cmpV : Value := .func (.func 71) #[] #[]

set_option maxRecDepth 8000 in
set_option maxHeartbeats 2000000 in
theorem swapR_c {S M} (w : World) (v : Value) (N : Nat) (xs : List En) (hN : xs.length = N) (c : List Value) (hst : St S (.sl v 83 23 N c :: M) w) (hR : RL S c xs) (a b n : Nat) (hab : a + n ≤ b) (hb : b + n ≤ N) (hx : N ≤ 1000000) :
    Rets Tryd.prog 107 [v, .int .i64 a, .int .i64 b, .int .i64 n, cmpV] w fun _ w' => ∃ c' ys, RL S c' ys ∧ SwR dEn xs ys a b n ∧ St S (.sl v 83 23 N c' :: M) w' := by
  unfold Rets
  have hone := sl_one hst
  have HN := Lib.hid hN
  clear hN
  go_enter Tryd.func107, Tryd.ntmps107
  repeat' (((fail_if_success (go_big_may)); (go_step)))
  go_loopw [10] (fun v10 wr => ∃ (i : Nat) (c' : List Value) (ys : List En), i ≤ n ∧ v10 = .int .i64 i ∧ RL S c' ys ∧ Hid (SwR dEn xs ys a b i) ∧ St S (.sl v 83 23 N c' :: M) wr) (fun v _ => n - (intOf v).toNat)
  case atStart => exact ⟨0, c, xs, Nat.zero_le _, rfl, hR, Lib.hid (swR_zero xs a b), hst⟩
  case round =>
    clear hst hR
    obtain ⟨i, c', ys, hi, rfl, hR, hS, hst⟩ := hrel
    by_cases hlt : i < n
    · have hyl : ys.length = N := hS.out.1.length_eq.trans HN.out
      have hia : a + i < ys.length := by omega
      have hib : b + i < ys.length := by omega
      have gA := getD_some (d := dEn) hia
      have gB := getD_some (d := dEn) hib
      have ea : ((a : Int) + (i : Int)).toNat = a + i := by omega
      have eb : ((b : Int) + (i : Int)).toNat = b + i := by omega
      have hnx := Lib.hid (swR_succ hS.out (show a + i < b by omega) (show b + i < xs.length by rw [HN.out]; omega))
      obtain ⟨ca, hca⟩ : ∃ cs, Rep.R S cs (ys.getD (a + i) dEn) := ⟨_, hR.2 _ _ gA⟩
      clear hca ca
      have hyl := Lib.hid hyl
      repeat' ((fail_if_success (with_reducible show Code.wp _ (Code.region 3 _ _) _ _ _)); first | ((fail_if_success (go_big_may)); (go_step)) | (with_reducible refine Sl.gate rfl ?_; (go_step)))
      refine v_begin hst (by kernel_rfl) ?_; clear hst; intro ops; (try refine nX ?_)
      (refine t_qt 0 rfl (by kernel_rfl) rfl rfl (by exact qt_move evX) ?_) <;> (try refine nX ?_)
      (refine t_qt 1 rfl (by kernel_rfl) rfl rfl (by exact qt_move evX) ?_) <;> (try refine nX ?_)
      (refine t_qt 2 rfl (by kernel_rfl) rfl rfl (by exact qt_move evX) ?_) <;> (try refine nX ?_)
      (refine t_qt 3 rfl (by kernel_rfl) rfl rfl (by exact qt_add' rfl rfl omX) ?_) <;> (try refine nX ?_)
      (refine t_pure 4 rfl (by kernel_rfl) rfl rfl (fun _ _ => by exact qt_move evX) ?_) <;> (try refine nX ?_)
      (refine t_pure 5 rfl (by kernel_rfl) rfl rfl (fun _ _ => by exact qt_move evX) ?_) <;> (try refine nX ?_)
      (refine t_pure 6 rfl (by kernel_rfl) rfl rfl (fun _ _ => by exact qt_move evX) ?_) <;> (try refine nX ?_)
      (refine t_pure 7 rfl (by kernel_rfl) rfl rfl (fun _ _ => by exact qt_add' rfl rfl omX) ?_) <;> (try refine nX ?_)
      (refine t_qt 8 rfl (by kernel_rfl) rfl rfl (by exact qt_move evX) ?_) <;> (try refine nX ?_)
      (refine t_qt 9 rfl (by kernel_rfl) rfl rfl (by exact qt_move evX) ?_) <;> (try refine nX ?_)
      (refine t_qt 10 rfl (by kernel_rfl) rfl rfl (by exact qt_move evX) ?_) <;> (try refine nX ?_)
      (refine t_qt 11 rfl (by kernel_rfl) rfl rfl (by exact qt_add' rfl rfl omX) ?_) <;> (try refine nX ?_)
      ((refine t_ex 12 rfl (by kernel_rfl) rfl rfl (fun w hst => qt_index_own hst evX SlIn.h rfl inX inX omX omX ) ?_; rintro  v12 hp12; rw [eb] at hp12)) <;> (try refine nX ?_)
      ((refine t_ex0 13 rfl (by kernel_rfl) rfl rfl (qt_ldR (j := b + i) evX hp12 SlIn.h hR inX gB ) ?_; rintro  v13 ⟨cb, rfl, hcb⟩)) <;> (try refine nX ?_)
      (refine t_qt 14 rfl (by kernel_rfl) rfl rfl (by exact qt_move evX) ?_) <;> (try refine nX ?_)
      (refine t_qt 15 rfl (by kernel_rfl) rfl rfl (by exact qt_move evX) ?_) <;> (try refine nX ?_)
      (refine t_qt 16 rfl (by kernel_rfl) rfl rfl (by exact qt_move evX) ?_) <;> (try refine nX ?_)
      (refine t_qt 17 rfl (by kernel_rfl) rfl rfl (by exact qt_add' rfl rfl omX) ?_) <;> (try refine nX ?_)
      ((refine t_ex 18 rfl (by kernel_rfl) rfl rfl (fun w hst => qt_index_own hst evX SlIn.h rfl inX inX omX omX ) ?_; rintro  v18 hp18; rw [ea] at hp18)) <;> (try refine nX ?_)
      ((refine t_ex0 19 rfl (by kernel_rfl) rfl rfl (qt_ldR (j := a + i) evX hp18 SlIn.h hR inX gA ) ?_; rintro  v19 ⟨ca, rfl, hca⟩)) <;> (try refine nX ?_)
      ((refine t_ex 20 rfl (by kernel_rfl) rfl rfl (fun w hst => qt_index_own hst evX SlIn.h rfl inX inX omX omX ) ?_; rintro  v20 hp20; rw [ea] at hp20)) <;> (try refine nX ?_)
      refine v_one 21 rfl (by kernel_rfl) ?_; intro w hst K hK; refine s_store_own (u := .agg cb.toArray) (cs := cb) hst evX hp20 SlIn.h inX evX rfl (Rep.len hcb) (List.all_eq_true.2 (Rep.one hcb)) (RL.at_len hR hia) ?_; clear hst; intro w hst; (try refine nX ?_); (try replace hst := nH hst); refine v_last hK hst ?_; clear hst hK K; (try clear w); (try refine nX ?_)
      ((refine t_ex 22 rfl (by kernel_rfl) rfl rfl (fun w hst => qt_index_own hst evX SlIn.h rfl inX inX omX omX ) ?_; rintro  v22 hp22; rw [eb] at hp22)) <;> (try refine nX ?_)
      refine v_one 23 rfl (by kernel_rfl) ?_; intro w hst K hK; refine s_store_own (u := .agg ca.toArray) (cs := ca) hst evX hp22 SlIn.h inX evX rfl (Rep.len hca) (List.all_eq_true.2 (Rep.one hca)) (RL.at_len (RL.set hR hcb hia) (by simpa using hib)) ?_; clear hst; intro w hst; (try refine nX ?_); (try replace hst := nH hst); refine v_last hK hst ?_; clear hst hK K; (try clear w); (try refine nX ?_)
      refine v_done (by kernel_rfl) ?_; clear ops; intro w hst
      have hq := RL.set (RL.set hR hcb hia) hca (show b + i < (ys.set (a + i) (ys.getD (b + i) dEn)).length by simpa using hib)
      repeat' (first | ((fail_if_success (go_big_may)); (go_step)) | (with_reducible refine Sl.gate rfl ?_; (go_step)))
      go_roundw
      case rel => exact ⟨i + 1, _, _, by omega, by go_num, hq, hnx, hst⟩
      case measure => simp [intOf]; omega
    · obtain rfl : i = n := by omega
      repeat' (first | ((fail_if_success (go_big_may)); (go_step)) | (with_reducible refine Sl.gate rfl ?_; (go_step)))
      go_end0
      exact ⟨_, rfl, c', ys, hR, hS.out, hst⟩
theorem swapRI_c {S M} (w : World) (v : Value) (N : Nat) (xs : List En) (hN : xs.length = N) (c : List Value) (hst : St S (.sl v 83 23 N c :: M) w) (hR : RL S c xs) (a b n : Int) (ha : 0 ≤ a) (hn : 0 ≤ n) (hab : a + n ≤ b) (hb : b + n ≤ N) (hx : N ≤ 1000000) :
    Rets Tryd.prog 107 [v, .int .i64 a, .int .i64 b, .int .i64 n, cmpV] w fun _ w' => ∃ c' ys, RL S c' ys ∧ SwR dEn xs ys a.toNat b.toNat n.toNat ∧ St S (.sl v 83 23 N c' :: M) w' := by
  obtain ⟨a, rfl⟩ := Int.eq_ofNat_of_zero_le ha
  obtain ⟨n, rfl⟩ := Int.eq_ofNat_of_zero_le hn
  obtain ⟨b, rfl⟩ := Int.eq_ofNat_of_zero_le (show 0 ≤ b by omega)
  exact swapR_c w v N xs hN c hst hR a b n (by omega) (by omega) hx

set_option maxRecDepth 8000 in
set_option maxHeartbeats 2000000 in
theorem rotate_c {S M} (w : World) (v : Value) (N : Nat) (xs : List En) (hN : xs.length = N) (c : List Value) (hst : St S (.sl v 83 23 N c :: M) w) (hR : RL S c xs) (a m b : Nat) (ham : a < m) (hmb : m < b) (hb : b ≤ N) (hx : N ≤ 1000000) :
    Rets Tryd.prog 105 [v, .int .i64 a, .int .i64 m, .int .i64 b, cmpV] w fun _ w' => ∃ c' ys, RL S c' ys ∧ Rot dEn xs ys a m b ∧ St S (.sl v 83 23 N c' :: M) w' := by
  unfold Rets
  have hone := sl_one hst
  have HN := Lib.hid hN
  clear hN
  have h0 := Lib.hid (rotI_begin (d := dEn) xs (Nat.le_of_lt ham) (Nat.le_of_lt hmb))
  obtain ⟨i0, hi0, ei⟩ : ∃ i : Nat, i = m - a ∧ ((m : Int) - (a : Int)) = (i : Int) := ⟨m - a, rfl, by omega⟩
  obtain ⟨j0, hj0, ej⟩ : ∃ j : Nat, j = b - m ∧ ((b : Int) - (m : Int)) = (j : Int) := ⟨b - m, rfl, by omega⟩
  rw [← hi0, ← hj0] at h0
  have b1 : 0 < i0 ∧ i0 + a ≤ m := by omega
  have b2 : 0 < j0 ∧ j0 + m ≤ b := by omega
  clear hi0 hj0
  go_enter Tryd.func105, Tryd.ntmps105
  repeat' (first | ((fail_if_success (go_big_may)); (go_step)) | (with_reducible refine Sl.gate rfl ?_; (go_step)))
  clear ei ej
  go_loopw [10, 11] (fun v10 v11 wr => ∃ (i j : Nat) (c' : List Value) (ys : List En), (0 < i ∧ i + a ≤ m) ∧ (0 < j ∧ j + m ≤ b) ∧ v10 = .int .i64 i ∧ v11 = .int .i64 j ∧ RL S c' ys ∧ Hid (RotI dEn xs ys a m b i j) ∧ St S (.sl v 83 23 N c' :: M) wr) (fun v v2 _ => (intOf v).toNat + (intOf v2).toNat)
  case atStart => exact ⟨i0, j0, c, xs, b1, b2, rfl, rfl, hR, h0, hst⟩
  case round =>
    clear hst hR h0
    obtain ⟨i, j, c', ys, k1, k2, rfl, rfl, hR, hI, hst⟩ := hrel
    have hyl : ys.length = N := hI.out.1.length_eq.trans HN.out
    by_cases hij : i = j
    · subst hij
      have hE := Lib.hid (fun zs (hs : SwR dEn ys zs (m - i) m i) => rotI_end hI.out hs (by omega))
      repeat' (first | (((with_reducible refine Sl.k_bin ?_; ((refine s_qt hst (qt_neq_self rfl rfl) ?_)))) <;> (try refine nX ?_)) | (((with_reducible refine Sl.k_call ?_; ((refine s_call (swapRI_c _ v N ys hyl c' hst hR ((m : Int) - (i : Int)) m i (by omega) (by omega) (by omega) (by omega) hx) inX rfl ?_; clear hst; rintro v w ⟨c2, zs, hR2, hS2, hst⟩)))) <;> (try refine nX ?_) <;> (try replace hst := nH hst)) | ((fail_if_success (go_big_may)); (go_step)) | (with_reducible refine Sl.gate rfl ?_; (go_step)))
      go_end0
      exact ⟨_, rfl, c2, zs, hR2, hE.out zs (by rwa [show ((m : Int) - (i : Int)).toNat = m - i by omega] at hS2), hst⟩
    · have g1 : ((i : Int) != (j : Int)) = true := bne_iff_ne.2 (by omega)
      by_cases hgt : j < i
      · have hE := Lib.hid (fun zs (hs : SwR dEn ys zs (m - i) m j) => rotI_gt hI.out hs hgt (by omega))
        repeat' (first | (((with_reducible refine Sl.k_bin ?_; (refine s_qt hst (qt_neq_b rfl rfl g1) ?_))) <;> (try refine nX ?_)) | (((with_reducible refine Sl.k_call ?_; ((refine s_call (swapRI_c _ v N ys hyl c' hst hR ((m : Int) - (i : Int)) m j (by omega) (by omega) (by omega) (by omega) hx) inX rfl ?_; clear hst; rintro v w ⟨c2, zs, hR2, hS2, hst⟩)))) <;> (try refine nX ?_) <;> (try replace hst := nH hst)) | ((fail_if_success (go_big_may)); (go_step)) | (with_reducible refine Sl.gate rfl ?_; (go_step)))
        go_roundw
        case rel => exact ⟨i - j, j, c2, zs, by omega, k2, num_sub (by omega), rfl, hR2, Lib.hid (hE.out zs (swR_at hS2 (by omega) rfl rfl)), hst⟩
        case measure => simp [intOf]; omega
      · have hlt : i < j := by omega
        have hE := Lib.hid (fun zs (hs : SwR dEn ys zs (m - i) (m + j - i) i) => rotI_lt hI.out hs hlt (by omega))
        repeat' (first | (((with_reducible refine Sl.k_bin ?_; (refine s_qt hst (qt_neq_b rfl rfl g1) ?_))) <;> (try refine nX ?_)) | (((with_reducible refine Sl.k_call ?_; ((refine s_call (swapRI_c _ v N ys hyl c' hst hR ((m : Int) - (i : Int)) ((m : Int) + (j : Int) - (i : Int)) i (by omega) (by omega) (by omega) (by omega) hx) inX rfl ?_; clear hst; rintro v w ⟨c2, zs, hR2, hS2, hst⟩)))) <;> (try refine nX ?_) <;> (try replace hst := nH hst)) | ((fail_if_success (go_big_may)); (go_step)) | (with_reducible refine Sl.gate rfl ?_; (go_step)))
        go_roundw
        case rel => exact ⟨i, j - i, c2, zs, k1, by omega, rfl, num_sub (by omega), hR2, Lib.hid (hE.out zs (swR_at hS2 (by omega) (by omega) rfl)), hst⟩
        case measure => simp [intOf]; omega
end Go.Proofs.YtjapdhaimbalkaaDoor

/- Package slices at the entries of package directory: insertion, walked. -/
--@hgp
--@flat
--@dg
--@ex0
namespace Go.Proofs.YtjapdhaimbalkaaDoor
set_option linter.unusedSimpArgs false
set_option linter.unusedVariables false
open Go.RowKit Go.Sl Go.Srt

theorem num_pred {a j : Nat} (h : a < j) : Value.int .i64 ((j : Int) - 1) = .int .i64 ((j - 1 : Nat) : Int) := by congr 1; omega

set_option maxRecDepth 8000 in
set_option maxHeartbeats 2000000 in
theorem insert_c {S M} (w : World) (v : Value) (N : Nat) (xs : List En) (hN : xs.length = N) (c : List Value) (hst : St S (.sl v 83 23 N c :: M) w) (hR : RL S c xs) (a b : Nat) (hb : b ≤ N) (hx : N ≤ 1000000) (ha : a ≤ 1000000) :
    Rets Tryd.prog 99 [v, .int .i64 a, .int .i64 b, cmpV] w fun _ w' => ∃ c' ys, RL S c' ys ∧ Upd dEn a b xs ys ∧ Srtd cfE dEn ys a b ∧ St S (.sl v 83 23 N c' :: M) w' := by
  unfold Rets
  have hone := sl_one hst
  have HN := Lib.hid hN
  clear hN
  go_enter Tryd.func99, Tryd.ntmps99
  repeat' (first | ((fail_if_success (go_big_may)); (go_step)) | (with_reducible refine Sl.gate rfl ?_; (go_step)))
  go_loopw [8, 9] (fun v8 _ wr => ∃ (i : Nat) (c' : List Value) (ys : List En), (a + 1 ≤ i ∧ (i ≤ b ∨ i ≤ a + 1)) ∧ v8 = .int .i64 i ∧ RL S c' ys ∧ Hid (Upd dEn a b xs ys ∧ Srtd cfE dEn ys a i) ∧ St S (.sl v 83 23 N c' :: M) wr) (fun v _ _ => b - (intOf v).toNat)
  case atStart => exact ⟨a + 1, c, xs, by omega, by go_num, hR, Lib.hid ⟨Upd.refl _ _ _, srtd_one (Nat.le_refl _)⟩, hst⟩
  case round =>
    clear hst hR
    obtain ⟨i, c', ys, hi, rfl, hR, hU, hst⟩ := hrel
    by_cases hlt : i < b
    · repeat' (first | ((fail_if_success (go_big_may)); (go_step)) | (with_reducible refine Sl.gate rfl ?_; (go_step)))
      go_loopw [9] (fun v9 wr => ∃ (j : Nat) (c' : List Value) (ys : List En), (a ≤ j ∧ j ≤ i) ∧ v9 = .int .i64 j ∧ RL S c' ys ∧ Hid (Upd dEn a b xs ys ∧ Ins cfE dEn ys a j (i + 1)) ∧ St S (.sl v 83 23 N c' :: M) wr) (fun v _ => (intOf v).toNat)
      case atStart => exact ⟨i, c', ys, by omega, rfl, hR, Lib.hid ⟨hU.out.1, ins_begin hU.out.2⟩, hst⟩
      case round =>
        clear hst hR hU
        rename_i c0 ys0
        obtain ⟨j, c', ys, hj, rfl, hR, hU, hst⟩ := hrel
        by_cases hja : a < j
        · have hyl : ys.length = N := hU.out.1.len.trans HN.out
          have hj0 : j < ys.length := by omega
          have hj1 : j - 1 < ys.length := by omega
          have gA := getD_some (d := dEn) hj0
          have gB := getD_some (d := dEn) hj1
          have eb : ((j : Int) - 1).toNat = j - 1 := by omega
          have g0 : decide ((a : Int) < (j : Int)) = true := decide_eq_true (by omega)
          have cC := fun {S' : Snap} {M : List Chunk} (w : World) (hS : S.Le S') (hst : St S' M w) (c1 c2 : List Value) (h1 : Rep.R S c1 (ys.getD j dEn)) (h2 : Rep.R S c2 (ys.getD (j - 1) dEn)) => ecmp_c w hst c1 _ (Rep.mono hS h1) c2 _ (Rep.mono hS h2)
          obtain ⟨y, gy⟩ : ∃ y, decide (cfE (ys.getD j dEn) (ys.getD (j - 1) dEn) < 0) = y := ⟨_, rfl⟩
          have hyl := Lib.hid hyl
          cases y with
          | true =>
            have hst1 := Lib.hid (ins_step ordE.toOrd hU.out.2 hja (show j < i + 1 by omega) (show i + 1 ≤ ys.length by rw [hyl.out]; omega) (of_decide_eq_true gy))
            have hup := Lib.hid (hU.out.1.trans (swap_upd hj0 hj1 (a := a) (b := b) (by omega) (by omega)))
            repeat' ((fail_if_success (with_reducible show Code.wp _ (Code.region 4 _ _) _ _ _)); ((fail_if_success (go_big_may)); (go_step)))
            refine v_begin hst (by kernel_rfl) ?_; clear hst; intro ops; (try refine nX ?_)
            (refine t_qt 0 rfl (by kernel_rfl) rfl rfl (by exact qt_move evX) ?_) <;> (try refine nX ?_)
            (refine t_qt 1 rfl (by kernel_rfl) rfl rfl (by exact qt_move evX) ?_) <;> (try refine nX ?_)
            (refine t_qt 2 rfl (by kernel_rfl) rfl rfl (qt_gtr_b rfl rfl g0) ?_) <;> (try refine nX ?_)
            (refine t_qt 3 rfl (by kernel_rfl) rfl rfl (by exact qt_move evX) ?_) <;> (try refine nX ?_)
            (refine t_qt 4 rfl (by kernel_rfl) rfl rfl (by exact qt_move evX) ?_) <;> (try refine nX ?_)
            (refine t_qt 5 rfl (by kernel_rfl) rfl rfl (by exact qt_move evX) ?_) <;> (try refine nX ?_)
            (refine t_qt 6 rfl (by kernel_rfl) rfl rfl (by exact qt_move evX) ?_) <;> (try refine nX ?_)
            (((refine t_ex 7 rfl (by kernel_rfl) rfl rfl (fun w hst => qt_index_own hst evX SlIn.h rfl inX inX omX omX ) ?_; rintro  v7 hp7; simp only [Int.toNat_natCast] at hp7))) <;> (try refine nX ?_)
            (((refine t_ex0 8 rfl (by kernel_rfl) rfl rfl (qt_ldR (j := j) evX hp7 SlIn.h hR inX gA ) ?_; rintro  v8 ⟨c8, rfl, hc8⟩))) <;> (try refine nX ?_)
            (refine t_qt 9 rfl (by kernel_rfl) rfl rfl (by exact qt_move evX) ?_) <;> (try refine nX ?_)
            (refine t_qt 10 rfl (by kernel_rfl) rfl rfl (by exact qt_move evX) ?_) <;> (try refine nX ?_)
            (refine t_qt 11 rfl (by kernel_rfl) rfl rfl (by exact qt_sub' rfl rfl omX) ?_) <;> (try refine nX ?_)
            (((refine t_ex 12 rfl (by kernel_rfl) rfl rfl (fun w hst => qt_index_own hst evX SlIn.h rfl inX inX omX omX ) ?_; rintro  v12 hp12; rw [eb] at hp12))) <;> (try refine nX ?_)
            (((refine t_ex0 13 rfl (by kernel_rfl) rfl rfl (qt_ldR (j := j - 1) evX hp12 SlIn.h hR inX gB ) ?_; rintro  v13 ⟨c13, rfl, hc13⟩))) <;> (try refine nX ?_)
            (refine t_callv 14 rfl (by kernel_rfl) rfl (fun S' M' w hS hM hst => cC w hS hst c8 c13 hc8 hc13) rfl inX rfl rfl ?_) <;> (try refine nX ?_)
            ((refine t_qt 15 rfl (by kernel_rfl) rfl rfl (qt_lss_b rfl rfl gy) ?_)) <;> (try refine nX ?_)
            (refine t_qt 16 rfl (by kernel_rfl) rfl rfl (by exact qt_pick_t rfl evX) ?_) <;> (try refine nX ?_)
            refine v_done (by kernel_rfl) ?_; clear ops; intro w hst
            repeat' (((fail_if_success (go_big_may)); (go_step)))
            refine v_begin hst (by kernel_rfl) ?_; clear hst; intro ops; (try refine nX ?_)
            (refine t_qt 0 rfl (by kernel_rfl) rfl rfl (by exact qt_move evX) ?_) <;> (try refine nX ?_)
            (refine t_qt 1 rfl (by kernel_rfl) rfl rfl (by exact qt_move evX) ?_) <;> (try refine nX ?_)
            (refine t_pure 2 rfl (by kernel_rfl) rfl rfl (fun _ _ => by exact qt_move evX) ?_) <;> (try refine nX ?_)
            (refine t_pure 3 rfl (by kernel_rfl) rfl rfl (fun _ _ => by exact qt_move evX) ?_) <;> (try refine nX ?_)
            (refine t_pure 4 rfl (by kernel_rfl) rfl rfl (fun _ _ => by exact qt_sub' rfl rfl omX) ?_) <;> (try refine nX ?_)
            (refine t_qt 5 rfl (by kernel_rfl) rfl rfl (by exact qt_move evX) ?_) <;> (try refine nX ?_)
            (refine t_qt 6 rfl (by kernel_rfl) rfl rfl (by exact qt_move evX) ?_) <;> (try refine nX ?_)
            (refine t_qt 7 rfl (by kernel_rfl) rfl rfl (by exact qt_sub' rfl rfl omX) ?_) <;> (try refine nX ?_)
            ((refine t_ex 8 rfl (by kernel_rfl) rfl rfl (fun w hst => qt_index_own hst evX SlIn.h rfl inX inX omX omX ) ?_; rintro  v8 hq8; rw [eb] at hq8)) <;> (try refine nX ?_)
            ((refine t_ex0 9 rfl (by kernel_rfl) rfl rfl (qt_ldR (j := j - 1) evX hq8 SlIn.h hR inX gB ) ?_; rintro  v9 ⟨cb, rfl, hcb⟩)) <;> (try refine nX ?_)
            (refine t_qt 10 rfl (by kernel_rfl) rfl rfl (by exact qt_move evX) ?_) <;> (try refine nX ?_)
            (refine t_qt 11 rfl (by kernel_rfl) rfl rfl (by exact qt_move evX) ?_) <;> (try refine nX ?_)
            ((refine t_ex 12 rfl (by kernel_rfl) rfl rfl (fun w hst => qt_index_own hst evX SlIn.h rfl inX inX omX omX ) ?_; rintro  v12 hq12; simp only [Int.toNat_natCast] at hq12)) <;> (try refine nX ?_)
            ((refine t_ex0 13 rfl (by kernel_rfl) rfl rfl (qt_ldR (j := j) evX hq12 SlIn.h hR inX gA ) ?_; rintro  v13 ⟨ca, rfl, hca⟩)) <;> (try refine nX ?_)
            ((refine t_ex 14 rfl (by kernel_rfl) rfl rfl (fun w hst => qt_index_own hst evX SlIn.h rfl inX inX omX omX ) ?_; rintro  v14 hq14; simp only [Int.toNat_natCast] at hq14)) <;> (try refine nX ?_)
            refine v_one 15 rfl (by kernel_rfl) ?_; intro w hst K hK; refine s_store_own (u := .agg cb.toArray) (cs := cb) hst evX hq14 SlIn.h inX evX rfl (Rep.len hcb) (List.all_eq_true.2 (Rep.one hcb)) (RL.at_len hR hj0) ?_; clear hst; intro w hst; (try refine nX ?_); (try replace hst := nH hst); refine v_last hK hst ?_; clear hst hK K; (try clear w); (try refine nX ?_)
            ((refine t_ex 16 rfl (by kernel_rfl) rfl rfl (fun w hst => qt_index_own hst evX SlIn.h rfl inX inX omX omX ) ?_; rintro  v16 hq16; rw [eb] at hq16)) <;> (try refine nX ?_)
            refine v_one 17 rfl (by kernel_rfl) ?_; intro w hst K hK; refine s_store_own (u := .agg ca.toArray) (cs := ca) hst evX hq16 SlIn.h inX evX rfl (Rep.len hca) (List.all_eq_true.2 (Rep.one hca)) (RL.at_len (RL.set hR hcb hj0) (by simpa using hj1)) ?_; clear hst; intro w hst; (try refine nX ?_); (try replace hst := nH hst); refine v_last hK hst ?_; clear hst hK K; (try clear w); (try refine nX ?_)
            refine v_done (by kernel_rfl) ?_; clear ops; intro w hst
            have hq := RL.set (RL.set hR hcb hj0) hca (show j - 1 < (ys.set j (ys.getD (j - 1) dEn)).length by simpa using hj1)
            repeat' (first | ((fail_if_success (go_big_may)); (go_step)) | (with_reducible refine Sl.gate rfl ?_; (go_step)))
            go_roundw
            case rel => exact ⟨j - 1, _, _, by omega, num_pred hja, hq, Lib.hid ⟨hup.out, hst1.out⟩, hst⟩
            case measure => simp [intOf]; omega
          | false =>
            have hso := Lib.hid (ins_end ordE.toOrd hU.out.2 hja (of_decide_eq_false gy))
            repeat' ((fail_if_success (with_reducible show Code.wp _ (Code.region 4 _ _) _ _ _)); ((fail_if_success (go_big_may)); (go_step)))
            refine v_begin hst (by kernel_rfl) ?_; clear hst; intro ops; (try refine nX ?_)
            (refine t_qt 0 rfl (by kernel_rfl) rfl rfl (by exact qt_move evX) ?_) <;> (try refine nX ?_)
            (refine t_qt 1 rfl (by kernel_rfl) rfl rfl (by exact qt_move evX) ?_) <;> (try refine nX ?_)
            (refine t_qt 2 rfl (by kernel_rfl) rfl rfl (qt_gtr_b rfl rfl g0) ?_) <;> (try refine nX ?_)
            (refine t_qt 3 rfl (by kernel_rfl) rfl rfl (by exact qt_move evX) ?_) <;> (try refine nX ?_)
            (refine t_qt 4 rfl (by kernel_rfl) rfl rfl (by exact qt_move evX) ?_) <;> (try refine nX ?_)
            (refine t_qt 5 rfl (by kernel_rfl) rfl rfl (by exact qt_move evX) ?_) <;> (try refine nX ?_)
            (refine t_qt 6 rfl (by kernel_rfl) rfl rfl (by exact qt_move evX) ?_) <;> (try refine nX ?_)
            (((refine t_ex 7 rfl (by kernel_rfl) rfl rfl (fun w hst => qt_index_own hst evX SlIn.h rfl inX inX omX omX ) ?_; rintro  v7 hp7; simp only [Int.toNat_natCast] at hp7))) <;> (try refine nX ?_)
            (((refine t_ex0 8 rfl (by kernel_rfl) rfl rfl (qt_ldR (j := j) evX hp7 SlIn.h hR inX gA ) ?_; rintro  v8 ⟨c8, rfl, hc8⟩))) <;> (try refine nX ?_)
            (refine t_qt 9 rfl (by kernel_rfl) rfl rfl (by exact qt_move evX) ?_) <;> (try refine nX ?_)
            (refine t_qt 10 rfl (by kernel_rfl) rfl rfl (by exact qt_move evX) ?_) <;> (try refine nX ?_)
            (refine t_qt 11 rfl (by kernel_rfl) rfl rfl (by exact qt_sub' rfl rfl omX) ?_) <;> (try refine nX ?_)
            (((refine t_ex 12 rfl (by kernel_rfl) rfl rfl (fun w hst => qt_index_own hst evX SlIn.h rfl inX inX omX omX ) ?_; rintro  v12 hp12; rw [eb] at hp12))) <;> (try refine nX ?_)
            (((refine t_ex0 13 rfl (by kernel_rfl) rfl rfl (qt_ldR (j := j - 1) evX hp12 SlIn.h hR inX gB ) ?_; rintro  v13 ⟨c13, rfl, hc13⟩))) <;> (try refine nX ?_)
            (refine t_callv 14 rfl (by kernel_rfl) rfl (fun S' M' w hS hM hst => cC w hS hst c8 c13 hc8 hc13) rfl inX rfl rfl ?_) <;> (try refine nX ?_)
            ((refine t_qt 15 rfl (by kernel_rfl) rfl rfl (qt_lss_b rfl rfl gy) ?_)) <;> (try refine nX ?_)
            (refine t_qt 16 rfl (by kernel_rfl) rfl rfl (by exact qt_pick_t rfl evX) ?_) <;> (try refine nX ?_)
            refine v_done (by kernel_rfl) ?_; clear ops; intro w hst
            repeat' (first | ((fail_if_success (go_big_may)); (go_step)) | (with_reducible refine Sl.gate rfl ?_; (go_step)))
            go_roundw
            case rel => exact ⟨i + 1, c', ys, by omega, by go_num, hR, Lib.hid ⟨hU.out.1, hso.out⟩, hst⟩
            case measure => simp [intOf]; omega
        · obtain rfl : j = a := by omega
          have g0 : decide ((j : Int) < (j : Int)) = false := decide_eq_false (by omega)
          have hso := Lib.hid (ins_end_a hU.out.2)
          repeat' ((fail_if_success (with_reducible show Code.wp _ (Code.region 4 _ _) _ _ _)); ((fail_if_success (go_big_may)); (go_step)))
          refine v_begin hst (by kernel_rfl) ?_; clear hst; intro ops; (try refine nX ?_)
          (refine t_qt 0 rfl (by kernel_rfl) rfl rfl (by exact qt_move evX) ?_) <;> (try refine nX ?_)
          (refine t_qt 1 rfl (by kernel_rfl) rfl rfl (by exact qt_move evX) ?_) <;> (try refine nX ?_)
          (refine t_qt 2 rfl (by kernel_rfl) rfl rfl (qt_gtr_b rfl rfl g0) ?_) <;> (try refine nX ?_)
          (refine t_qt 3 rfl (by kernel_rfl) rfl rfl (by exact qt_move evX) ?_) <;> (try refine nX ?_)
          (refine t_no 4 rfl (by kernel_rfl) rfl rfl ?_) <;> (try refine nX ?_)
          (refine t_no 5 rfl (by kernel_rfl) rfl rfl ?_) <;> (try refine nX ?_)
          (refine t_no 6 rfl (by kernel_rfl) rfl rfl ?_) <;> (try refine nX ?_)
          (refine t_no 7 rfl (by kernel_rfl) rfl rfl ?_) <;> (try refine nX ?_)
          (refine t_no 8 rfl (by kernel_rfl) rfl rfl ?_) <;> (try refine nX ?_)
          (refine t_no 9 rfl (by kernel_rfl) rfl rfl ?_) <;> (try refine nX ?_)
          (refine t_no 10 rfl (by kernel_rfl) rfl rfl ?_) <;> (try refine nX ?_)
          (refine t_no 11 rfl (by kernel_rfl) rfl rfl ?_) <;> (try refine nX ?_)
          (refine t_no 12 rfl (by kernel_rfl) rfl rfl ?_) <;> (try refine nX ?_)
          (refine t_no 13 rfl (by kernel_rfl) rfl rfl ?_) <;> (try refine nX ?_)
          (refine t_no 14 rfl (by kernel_rfl) rfl rfl ?_) <;> (try refine nX ?_)
          (refine t_no 15 rfl (by kernel_rfl) rfl rfl ?_) <;> (try refine nX ?_)
          (refine t_qt 16 rfl (by kernel_rfl) rfl rfl (by exact qt_pick_f rfl evX) ?_) <;> (try refine nX ?_)
          refine v_done (by kernel_rfl) ?_; clear ops; intro w hst
          repeat' (first | ((fail_if_success (go_big_may)); (go_step)) | (with_reducible refine Sl.gate rfl ?_; (go_step)))
          go_roundw
          case rel => exact ⟨i + 1, c', ys, by omega, by go_num, hR, Lib.hid ⟨hU.out.1, hso.out⟩, hst⟩
          case measure => simp [intOf]; omega
    · repeat' (first | ((fail_if_success (go_big_may)); (go_step)) | (with_reducible refine Sl.gate rfl ?_; (go_step)))
      go_end0
      exact ⟨_, rfl, c', ys, hR, hU.out.1, srtd_sub hU.out.2 (Nat.le_refl _) (by omega), hst⟩
end Go.Proofs.YtjapdhaimbalkaaDoor

/- Package slices at the entries of package directory: merging, walked. -/
--@hgp
--@flat
--@dg
--@ex0
namespace Go.Proofs.YtjapdhaimbalkaaDoor
set_option linter.unusedSimpArgs false
set_option linter.unusedVariables false
open Go.RowKit Go.Sl Go.Srt

theorem hide_zs {S : Snap} {M : List Chunk} {w : World} {sv : Value} {N : Nat} {c : List Value} {xs : List En} {P : List En → Prop} (hR : RL S c xs) (hP : P xs) (hst : St S (.sl sv 83 23 N c :: M) w) : ∃ zs c2, RL S c2 zs ∧ P zs ∧ St S (.sl sv 83 23 N c2 :: M) w := ⟨xs, c, hR, hP, hst⟩

set_option maxRecDepth 8000 in
set_option maxHeartbeats 8000000 in
theorem symM_c : ∀ (L : Nat) {S M} (w : World) (sv : Value) (N : Nat) (xs : List En) (_hN : xs.length = N) (c : List Value) (_hst : St S (.sl sv 83 23 N c :: M) w) (_hR : RL S c xs) (a m b : Nat) (_ham : a < m) (_hmb : m < b) (_hb : b ≤ N) (_hx : N ≤ 1000000) (_hL : b - a ≤ L) (_hs1 : Srtd cfE dEn xs a m) (_hs2 : Srtd cfE dEn xs m b),
    Rets Tryd.prog 100 [sv, .int .i64 a, .int .i64 m, .int .i64 b, cmpV] w fun _ w' => ∃ c' ys, RL S c' ys ∧ Upd dEn a b xs ys ∧ Srtd cfE dEn ys a b ∧ St S (.sl sv 83 23 N c' :: M) w' := by
  intro L
  induction L with
  | zero => intro S M w sv N xs hN c hst hR a m b ham hmb hb hx hL; omega
  | succ L ih =>
    intro S M w sv N xs hN c hst hR a m b ham hmb hb hx hL hs1 hs2
    unfold Rets
    have hone := sl_one hst
    have HN := Lib.hid hN
    clear hN
    by_cases h1 : m = a + 1
    · skip
      have g1 : ((m : Int) - (a : Int) == 1) = true := beq_iff_eq.2 (by omega)
      have H1 := Lib.hid h1
      have hm1 : m ≤ a + 1 ∧ a + 1 ≤ m := by omega
      clear h1 hs1
      go_enter Tryd.func100, Tryd.ntmps100
      repeat' (first | (((with_reducible refine Sl.k_bin ?_; (refine s_qt hst (qt_eql_b rfl rfl g1) ?_))) <;> (try refine nX ?_)) | ((fail_if_success (go_big_may)); (go_step)) | (with_reducible refine Sl.gate rfl ?_; (go_step)))
      clear g1
      go_loopw [10, 11, 12] (fun v10 v11 _ wr => ∃ (i j : Nat), (m ≤ i ∧ i ≤ j ∧ j ≤ b) ∧ v10 = .int .i64 i ∧ v11 = .int .i64 j ∧ Hid ((∀ t, m ≤ t → t < i → cfE (xs.getD t dEn) (xs.getD a dEn) < 0) ∧ ∀ t, j ≤ t → t < b → ¬ cfE (xs.getD t dEn) (xs.getD a dEn) < 0) ∧ St S (.sl sv 83 23 N c :: M) wr) (fun v v2 _ _ => (intOf v2).toNat - (intOf v).toNat)
      case atStart => exact ⟨m, b, by omega, rfl, rfl, Lib.hid ⟨fun t h1 h2 => by omega, fun t h1 h2 => by omega⟩, hst⟩
      case round =>
        clear hst
        obtain ⟨i, j, hij, rfl, rfl, hse, hst⟩ := hrel
        by_cases hlt : i < j
        · obtain ⟨h, eh, hh⟩ : ∃ h : Nat, ((i : Int) + (j : Int)) / 2 = (h : Int) ∧ i ≤ h ∧ h < j := ⟨(i + j) / 2, by omega, by omega, by omega⟩
          have hA0 : h < xs.length := by rw [HN.out]; omega
          have hB0 : a < xs.length := by rw [HN.out]; omega
          have gA := getD_some (d := dEn) hA0
          have gB := getD_some (d := dEn) hB0
          have cC := fun {S' : Snap} {M : List Chunk} (w : World) (hS : S.Le S') (hst : St S' M w) (c1 c2 : List Value) (h1 : Rep.R S c1 (xs.getD h dEn)) (h2 : Rep.R S c2 (xs.getD a dEn)) => ecmp_c w hst c1 _ (Rep.mono hS h1) c2 _ (Rep.mono hS h2)
          obtain ⟨y, gy⟩ : ∃ y, decide (cfE (xs.getD h dEn) (xs.getD a dEn) < 0) = y := ⟨_, rfl⟩
          cases y with
          | true =>
            have hnx := Lib.hid (show ∀ t, m ≤ t → t < h + 1 → cfE (xs.getD t dEn) (xs.getD a dEn) < 0 from fun t k1 k2 => le_lt ordE.toOrd (hs2.le' ordE.toOrd k1 (show t ≤ h by omega) (by omega)) (of_decide_eq_true gy))
            repeat' ((fail_if_success (with_reducible show Code.wp _ (Code.region 5 _ _) _ _ _)); first | ((fail_if_success (go_big_may)); (go_step)) | (with_reducible refine Sl.gate rfl ?_; (go_step)))
            refine v_begin hst (by kernel_rfl) ?_; clear hst; intro ops; (try refine nX ?_)
            (refine t_qt 0 rfl (by kernel_rfl) rfl rfl (by exact qt_move evX) ?_) <;> (try refine nX ?_)
            (refine t_qt 1 rfl (by kernel_rfl) rfl rfl (by exact qt_move evX) ?_) <;> (try refine nX ?_)
            (refine t_qt 2 rfl (by kernel_rfl) rfl rfl (by exact qt_move evX) ?_) <;> (try refine nX ?_)
            ((refine t_ex 3 rfl (by kernel_rfl) rfl rfl (fun w hst => qt_index_own hst evX SlIn.h rfl inX inX omX omX ) ?_; rintro  v3 hp3; simp only [Int.toNat_natCast] at hp3)) <;> (try refine nX ?_)
            ((refine t_ex0 4 rfl (by kernel_rfl) rfl rfl (qt_ldR (j := h) evX hp3 SlIn.h hR inX gA ) ?_; rintro  v4 ⟨c4, rfl, hc4⟩)) <;> (try refine nX ?_)
            (refine t_qt 5 rfl (by kernel_rfl) rfl rfl (by exact qt_move evX) ?_) <;> (try refine nX ?_)
            (refine t_qt 6 rfl (by kernel_rfl) rfl rfl (by exact qt_move evX) ?_) <;> (try refine nX ?_)
            ((refine t_ex 7 rfl (by kernel_rfl) rfl rfl (fun w hst => qt_index_own hst evX SlIn.h rfl inX inX omX omX ) ?_; rintro  v7 hp7; simp only [Int.toNat_natCast] at hp7)) <;> (try refine nX ?_)
            ((refine t_ex0 8 rfl (by kernel_rfl) rfl rfl (qt_ldR (j := a) evX hp7 SlIn.h hR inX gB ) ?_; rintro  v8 ⟨c8, rfl, hc8⟩)) <;> (try refine nX ?_)
            (refine t_callv 9 rfl (by kernel_rfl) rfl (fun S' M' w hS hM hst => cC w hS hst c4 c8 hc4 hc8) rfl inX rfl rfl ?_) <;> (try refine nX ?_)
            (refine t_qt 10 rfl (by kernel_rfl) rfl rfl (qt_lss_b rfl rfl gy) ?_) <;> (try refine nX ?_)
            refine v_done (by kernel_rfl) ?_; clear ops; intro w hst
            repeat' (first | ((fail_if_success (go_big_may)); (go_step)) | (with_reducible refine Sl.gate rfl ?_; (go_step)))
            go_roundw
            case rel => exact ⟨h + 1, j, by omega, by go_num, rfl, Lib.hid ⟨hnx.out, hse.out.2⟩, hst⟩
            case measure => simp [intOf]; omega
          | false =>
            have hnx := Lib.hid (show ∀ t, h ≤ t → t < b → ¬ cfE (xs.getD t dEn) (xs.getD a dEn) < 0 from fun t k1 k2 => ordE.tr (of_decide_eq_false gy) (hs2.le' ordE.toOrd (by omega) k1 k2))
            repeat' ((fail_if_success (with_reducible show Code.wp _ (Code.region 5 _ _) _ _ _)); first | ((fail_if_success (go_big_may)); (go_step)) | (with_reducible refine Sl.gate rfl ?_; (go_step)))
            refine v_begin hst (by kernel_rfl) ?_; clear hst; intro ops; (try refine nX ?_)
            (refine t_qt 0 rfl (by kernel_rfl) rfl rfl (by exact qt_move evX) ?_) <;> (try refine nX ?_)
            (refine t_qt 1 rfl (by kernel_rfl) rfl rfl (by exact qt_move evX) ?_) <;> (try refine nX ?_)
            (refine t_qt 2 rfl (by kernel_rfl) rfl rfl (by exact qt_move evX) ?_) <;> (try refine nX ?_)
            ((refine t_ex 3 rfl (by kernel_rfl) rfl rfl (fun w hst => qt_index_own hst evX SlIn.h rfl inX inX omX omX ) ?_; rintro  v3 hp3; simp only [Int.toNat_natCast] at hp3)) <;> (try refine nX ?_)
            ((refine t_ex0 4 rfl (by kernel_rfl) rfl rfl (qt_ldR (j := h) evX hp3 SlIn.h hR inX gA ) ?_; rintro  v4 ⟨c4, rfl, hc4⟩)) <;> (try refine nX ?_)
            (refine t_qt 5 rfl (by kernel_rfl) rfl rfl (by exact qt_move evX) ?_) <;> (try refine nX ?_)
            (refine t_qt 6 rfl (by kernel_rfl) rfl rfl (by exact qt_move evX) ?_) <;> (try refine nX ?_)
            ((refine t_ex 7 rfl (by kernel_rfl) rfl rfl (fun w hst => qt_index_own hst evX SlIn.h rfl inX inX omX omX ) ?_; rintro  v7 hp7; simp only [Int.toNat_natCast] at hp7)) <;> (try refine nX ?_)
            ((refine t_ex0 8 rfl (by kernel_rfl) rfl rfl (qt_ldR (j := a) evX hp7 SlIn.h hR inX gB ) ?_; rintro  v8 ⟨c8, rfl, hc8⟩)) <;> (try refine nX ?_)
            (refine t_callv 9 rfl (by kernel_rfl) rfl (fun S' M' w hS hM hst => cC w hS hst c4 c8 hc4 hc8) rfl inX rfl rfl ?_) <;> (try refine nX ?_)
            (refine t_qt 10 rfl (by kernel_rfl) rfl rfl (qt_lss_b rfl rfl gy) ?_) <;> (try refine nX ?_)
            refine v_done (by kernel_rfl) ?_; clear ops; intro w hst
            repeat' (((fail_if_success (go_big_may)); (go_step)))
            go_roundw
            case rel => exact ⟨i, h, by omega, rfl, rfl, Lib.hid ⟨hse.out.1, hnx.out⟩, hst⟩
            case measure => simp [intOf]; omega
        · obtain rfl : i = j := by omega
          have h0 := Lib.hid (show Rot dEn xs xs a (a + 1) (a + 1) from rot_triv xs (.inr rfl) (by omega) (Nat.le_refl _))
          repeat' (first | ((fail_if_success (go_big_may)); (go_step)) | (with_reducible refine Sl.gate rfl ?_; (go_step)))
          go_loopw [13] (fun v13 wr => ∃ (k : Nat) (c' : List Value) (ys : List En), (a ≤ k ∧ k + 1 ≤ i) ∧ v13 = .int .i64 k ∧ RL S c' ys ∧ Hid (Rot dEn xs ys a (a + 1) (k + 1)) ∧ St S (.sl sv 83 23 N c' :: M) wr) (fun v _ => i - (intOf v).toNat)
          case atStart => exact ⟨a, c, xs, by omega, rfl, hR, h0, hst⟩
          case round =>
            clear hst hR h0
            obtain ⟨k, c', ys, hk, rfl, hR, hro, hst⟩ := hrel
            have hyl : ys.length = N := hro.out.1.length_eq.trans HN.out
            by_cases hki : k + 1 < i
            · have hjA : k < ys.length := by omega
              have hjB : k + 1 < ys.length := by omega
              have gA := getD_some (d := dEn) hjA
              have gB := getD_some (d := dEn) hjB
              have hyl := Lib.hid hyl
              have hnx := Lib.hid (rot_right hro.out hk.1 (show k + 1 < xs.length by rw [HN.out]; omega))
              repeat' ((fail_if_success (with_reducible show Code.wp _ (Code.region 11 _ _) _ _ _)); first | ((fail_if_success (go_big_may)); (go_step)) | (with_reducible refine Sl.gate rfl ?_; (go_step)))
              refine v_begin hst (by kernel_rfl) ?_; clear hst; intro ops; (try refine nX ?_)
              (refine t_qt 0 rfl (by kernel_rfl) rfl rfl (by exact qt_move evX) ?_) <;> (try refine nX ?_)
              (refine t_qt 1 rfl (by kernel_rfl) rfl rfl (by exact qt_move evX) ?_) <;> (try refine nX ?_)
              (refine t_pure 2 rfl (by kernel_rfl) rfl rfl (fun _ _ => by exact qt_move evX) ?_) <;> (try refine nX ?_)
              (refine t_pure 3 rfl (by kernel_rfl) rfl rfl (fun _ _ => by exact qt_move evX) ?_) <;> (try refine nX ?_)
              (refine t_pure 4 rfl (by kernel_rfl) rfl rfl (fun _ _ => by exact qt_add' rfl rfl omX) ?_) <;> (try refine nX ?_)
              (refine t_qt 5 rfl (by kernel_rfl) rfl rfl (by exact qt_move evX) ?_) <;> (try refine nX ?_)
              (refine t_qt 6 rfl (by kernel_rfl) rfl rfl (by exact qt_move evX) ?_) <;> (try refine nX ?_)
              (refine t_qt 7 rfl (by kernel_rfl) rfl rfl (by exact qt_add' rfl rfl omX) ?_) <;> (try refine nX ?_)
              ((refine t_ex 8 rfl (by kernel_rfl) rfl rfl (fun w hst => qt_index_own hst evX SlIn.h rfl inX inX omX omX ) ?_; rintro  v8 hq8; simp only [Int.toNat_natCast_add_one] at hq8)) <;> (try refine nX ?_)
              ((refine t_ex0 9 rfl (by kernel_rfl) rfl rfl (qt_ldR (j := k + 1) evX hq8 SlIn.h hR inX gB ) ?_; rintro  v9 ⟨cb, rfl, hcb⟩)) <;> (try refine nX ?_)
              (refine t_qt 10 rfl (by kernel_rfl) rfl rfl (by exact qt_move evX) ?_) <;> (try refine nX ?_)
              (refine t_qt 11 rfl (by kernel_rfl) rfl rfl (by exact qt_move evX) ?_) <;> (try refine nX ?_)
              ((refine t_ex 12 rfl (by kernel_rfl) rfl rfl (fun w hst => qt_index_own hst evX SlIn.h rfl inX inX omX omX ) ?_; rintro  v12 hq12; simp only [Int.toNat_natCast] at hq12)) <;> (try refine nX ?_)
              ((refine t_ex0 13 rfl (by kernel_rfl) rfl rfl (qt_ldR (j := k) evX hq12 SlIn.h hR inX gA ) ?_; rintro  v13 ⟨ca, rfl, hca⟩)) <;> (try refine nX ?_)
              ((refine t_ex 14 rfl (by kernel_rfl) rfl rfl (fun w hst => qt_index_own hst evX SlIn.h rfl inX inX omX omX ) ?_; rintro  v14 hq14; simp only [Int.toNat_natCast] at hq14)) <;> (try refine nX ?_)
              refine v_one 15 rfl (by kernel_rfl) ?_; intro w hst K hK; refine s_store_own (u := .agg cb.toArray) (cs := cb) hst evX hq14 SlIn.h inX evX rfl (Rep.len hcb) (List.all_eq_true.2 (Rep.one hcb)) (RL.at_len hR hjA) ?_; clear hst; intro w hst; (try refine nX ?_); (try replace hst := nH hst); refine v_last hK hst ?_; clear hst hK K; (try clear w); (try refine nX ?_)
              ((refine t_ex 16 rfl (by kernel_rfl) rfl rfl (fun w hst => qt_index_own hst evX SlIn.h rfl inX inX omX omX ) ?_; rintro  v16 hq16; simp only [Int.toNat_natCast_add_one] at hq16)) <;> (try refine nX ?_)
              refine v_one 17 rfl (by kernel_rfl) ?_; intro w hst K hK; refine s_store_own (u := .agg ca.toArray) (cs := ca) hst evX hq16 SlIn.h inX evX rfl (Rep.len hca) (List.all_eq_true.2 (Rep.one hca)) (RL.at_len (RL.set hR hcb hjA) (by simpa using hjB)) ?_; clear hst; intro w hst; (try refine nX ?_); (try replace hst := nH hst); refine v_last hK hst ?_; clear hst hK K; (try clear w); (try refine nX ?_)
              refine v_done (by kernel_rfl) ?_; clear ops; intro w hst
              have hq := RL.set (RL.set hR hcb hjA) hca (show k + 1 < (ys.set k (ys.getD (k + 1) dEn)).length by simpa using hjB)
              repeat' (first | ((fail_if_success (go_big_may)); (go_step)) | (with_reducible refine Sl.gate rfl ?_; (go_step)))
              go_roundw
              case rel => exact ⟨k + 1, _, _, by omega, by go_num, hq, hnx, hst⟩
              case measure => simp [intOf]; omega
            · have e : k + 1 = i := by omega
              have hE := Lib.hid (show Upd dEn a b xs ys ∧ Srtd cfE dEn ys a b by
                rw [e] at hro
                rw [H1.out] at hs2 hse
                exact ⟨(rot_upd hro.out (by omega) (by omega)).wide (Nat.le_refl _) (by omega), one_left ordE.toOrd hs2 hro.out (by omega) (by omega) hse.out.1 hse.out.2⟩)
              clear e
              repeat' (first | ((fail_if_success (go_big_may)); (go_step)) | (with_reducible refine Sl.gate rfl ?_; (go_step)))
              refine bodyPost_ret (results_none rfl _ _ _) rfl ?_
              exact ⟨_, rfl, c', ys, hR, hE.out.1, hE.out.2, hst⟩
    · by_cases h2 : b = m + 1
      · skip
        have g0 : ((m : Int) - (a : Int) == 1) = false := beq_eq_false_iff_ne.2 (by omega)
        have g1 : ((b : Int) - (m : Int) == 1) = true := beq_iff_eq.2 (by omega)
        have H1 := Lib.hid h2
        have hm1 : b ≤ m + 1 ∧ m + 1 ≤ b := by omega
        clear h2 hs2
        go_enter Tryd.func100, Tryd.ntmps100
        repeat' (first | (((with_reducible refine Sl.k_bin ?_; (first | refine s_qt hst (qt_eql_b rfl rfl g0) ?_ | refine s_qt hst (qt_eql_b rfl rfl g1) ?_))) <;> (try refine nX ?_)) | ((fail_if_success (go_big_may)); (go_step)) | (with_reducible refine Sl.gate rfl ?_; (go_step)))
        clear g0 g1
        go_loopw [14, 15, 16] (fun v10 v11 _ wr => ∃ (i j : Nat), (a ≤ i ∧ i ≤ j ∧ j ≤ m) ∧ v10 = .int .i64 i ∧ v11 = .int .i64 j ∧ Hid ((∀ t, a ≤ t → t < i → ¬ cfE (xs.getD m dEn) (xs.getD t dEn) < 0) ∧ ∀ t, j ≤ t → t < m → cfE (xs.getD m dEn) (xs.getD t dEn) < 0) ∧ St S (.sl sv 83 23 N c :: M) wr) (fun v v2 _ _ => (intOf v2).toNat - (intOf v).toNat)
        case atStart => exact ⟨a, m, by omega, rfl, rfl, Lib.hid ⟨fun t h1 h2 => by omega, fun t h1 h2 => by omega⟩, hst⟩
        case round =>
          clear hst
          obtain ⟨i, j, hij, rfl, rfl, hse, hst⟩ := hrel
          by_cases hlt : i < j
          · obtain ⟨h, eh, hh⟩ : ∃ h : Nat, ((i : Int) + (j : Int)) / 2 = (h : Int) ∧ i ≤ h ∧ h < j := ⟨(i + j) / 2, by omega, by omega, by omega⟩
            have hA0 : m < xs.length := by rw [HN.out]; omega
            have hB0 : h < xs.length := by rw [HN.out]; omega
            have gA := getD_some (d := dEn) hA0
            have gB := getD_some (d := dEn) hB0
            have cC := fun {S' : Snap} {M : List Chunk} (w : World) (hS : S.Le S') (hst : St S' M w) (c1 c2 : List Value) (h1 : Rep.R S c1 (xs.getD m dEn)) (h2 : Rep.R S c2 (xs.getD h dEn)) => ecmp_c w hst c1 _ (Rep.mono hS h1) c2 _ (Rep.mono hS h2)
            obtain ⟨y, gy⟩ : ∃ y, decide (cfE (xs.getD m dEn) (xs.getD h dEn) < 0) = y := ⟨_, rfl⟩
            cases y with
            | true =>
              have hnx := Lib.hid (show ∀ t, h ≤ t → t < m → cfE (xs.getD m dEn) (xs.getD t dEn) < 0 from fun t k1 k2 => Srt.lt_le ordE.toOrd (of_decide_eq_true gy) (hs1.le' ordE.toOrd (by omega) k1 k2))
              repeat' ((fail_if_success (with_reducible show Code.wp _ (Code.region 17 _ _) _ _ _)); first | ((fail_if_success (go_big_may)); (go_step)) | (with_reducible refine Sl.gate rfl ?_; (go_step)))
              refine v_begin hst (by kernel_rfl) ?_; clear hst; intro ops; (try refine nX ?_)
              (refine t_qt 0 rfl (by kernel_rfl) rfl rfl (by exact qt_move evX) ?_) <;> (try refine nX ?_)
              (refine t_qt 1 rfl (by kernel_rfl) rfl rfl (by exact qt_move evX) ?_) <;> (try refine nX ?_)
              (refine t_qt 2 rfl (by kernel_rfl) rfl rfl (by exact qt_move evX) ?_) <;> (try refine nX ?_)
              ((refine t_ex 3 rfl (by kernel_rfl) rfl rfl (fun w hst => qt_index_own hst evX SlIn.h rfl inX inX omX omX ) ?_; rintro  v3 hp3; simp only [Int.toNat_natCast] at hp3)) <;> (try refine nX ?_)
              ((refine t_ex0 4 rfl (by kernel_rfl) rfl rfl (qt_ldR (j := m) evX hp3 SlIn.h hR inX gA ) ?_; rintro  v4 ⟨c4, rfl, hc4⟩)) <;> (try refine nX ?_)
              (refine t_qt 5 rfl (by kernel_rfl) rfl rfl (by exact qt_move evX) ?_) <;> (try refine nX ?_)
              (refine t_qt 6 rfl (by kernel_rfl) rfl rfl (by exact qt_move evX) ?_) <;> (try refine nX ?_)
              ((refine t_ex 7 rfl (by kernel_rfl) rfl rfl (fun w hst => qt_index_own hst evX SlIn.h rfl inX inX omX omX ) ?_; rintro  v7 hp7; simp only [Int.toNat_natCast] at hp7)) <;> (try refine nX ?_)
              ((refine t_ex0 8 rfl (by kernel_rfl) rfl rfl (qt_ldR (j := h) evX hp7 SlIn.h hR inX gB ) ?_; rintro  v8 ⟨c8, rfl, hc8⟩)) <;> (try refine nX ?_)
              (refine t_callv 9 rfl (by kernel_rfl) rfl (fun S' M' w hS hM hst => cC w hS hst c4 c8 hc4 hc8) rfl inX rfl rfl ?_) <;> (try refine nX ?_)
              (refine t_qt 10 rfl (by kernel_rfl) rfl rfl (qt_lss_b rfl rfl gy) ?_) <;> (try refine nX ?_)
              (refine t_qt 11 rfl (by kernel_rfl) rfl rfl (by exact qt_not rfl) ?_) <;> (try refine nX ?_)
              refine v_done (by kernel_rfl) ?_; clear ops; intro w hst
              repeat' (((fail_if_success (go_big_may)); (go_step)))
              go_roundw
              case rel => exact ⟨i, h, by omega, rfl, rfl, Lib.hid ⟨hse.out.1, hnx.out⟩, hst⟩
              case measure => simp [intOf]; omega
            | false =>
              have hnx := Lib.hid (show ∀ t, a ≤ t → t < h + 1 → ¬ cfE (xs.getD m dEn) (xs.getD t dEn) < 0 from fun t k1 k2 => ordE.tr (hs1.le' ordE.toOrd k1 (show t ≤ h by omega) (by omega)) (of_decide_eq_false gy))
              repeat' ((fail_if_success (with_reducible show Code.wp _ (Code.region 17 _ _) _ _ _)); first | ((fail_if_success (go_big_may)); (go_step)) | (with_reducible refine Sl.gate rfl ?_; (go_step)))
              refine v_begin hst (by kernel_rfl) ?_; clear hst; intro ops; (try refine nX ?_)
              (refine t_qt 0 rfl (by kernel_rfl) rfl rfl (by exact qt_move evX) ?_) <;> (try refine nX ?_)
              (refine t_qt 1 rfl (by kernel_rfl) rfl rfl (by exact qt_move evX) ?_) <;> (try refine nX ?_)
              (refine t_qt 2 rfl (by kernel_rfl) rfl rfl (by exact qt_move evX) ?_) <;> (try refine nX ?_)
              ((refine t_ex 3 rfl (by kernel_rfl) rfl rfl (fun w hst => qt_index_own hst evX SlIn.h rfl inX inX omX omX ) ?_; rintro  v3 hp3; simp only [Int.toNat_natCast] at hp3)) <;> (try refine nX ?_)
              ((refine t_ex0 4 rfl (by kernel_rfl) rfl rfl (qt_ldR (j := m) evX hp3 SlIn.h hR inX gA ) ?_; rintro  v4 ⟨c4, rfl, hc4⟩)) <;> (try refine nX ?_)
              (refine t_qt 5 rfl (by kernel_rfl) rfl rfl (by exact qt_move evX) ?_) <;> (try refine nX ?_)
              (refine t_qt 6 rfl (by kernel_rfl) rfl rfl (by exact qt_move evX) ?_) <;> (try refine nX ?_)
              ((refine t_ex 7 rfl (by kernel_rfl) rfl rfl (fun w hst => qt_index_own hst evX SlIn.h rfl inX inX omX omX ) ?_; rintro  v7 hp7; simp only [Int.toNat_natCast] at hp7)) <;> (try refine nX ?_)
              ((refine t_ex0 8 rfl (by kernel_rfl) rfl rfl (qt_ldR (j := h) evX hp7 SlIn.h hR inX gB ) ?_; rintro  v8 ⟨c8, rfl, hc8⟩)) <;> (try refine nX ?_)
              (refine t_callv 9 rfl (by kernel_rfl) rfl (fun S' M' w hS hM hst => cC w hS hst c4 c8 hc4 hc8) rfl inX rfl rfl ?_) <;> (try refine nX ?_)
              (refine t_qt 10 rfl (by kernel_rfl) rfl rfl (qt_lss_b rfl rfl gy) ?_) <;> (try refine nX ?_)
              (refine t_qt 11 rfl (by kernel_rfl) rfl rfl (by exact qt_not rfl) ?_) <;> (try refine nX ?_)
              refine v_done (by kernel_rfl) ?_; clear ops; intro w hst
              repeat' (first | ((fail_if_success (go_big_may)); (go_step)) | (with_reducible refine Sl.gate rfl ?_; (go_step)))
              go_roundw
              case rel => exact ⟨h + 1, j, by omega, by go_num, rfl, Lib.hid ⟨hnx.out, hse.out.2⟩, hst⟩
              case measure => simp [intOf]; omega
          · obtain rfl : i = j := by omega
            have h0 := Lib.hid (show Rot dEn xs xs m m (m + 1) from rot_triv xs (.inl rfl) (Nat.le_refl _) (by omega))
            repeat' (first | ((fail_if_success (go_big_may)); (go_step)) | (with_reducible refine Sl.gate rfl ?_; (go_step)))
            go_loopw [17] (fun v13 wr => ∃ (k : Nat) (c' : List Value) (ys : List En), (i ≤ k ∧ k ≤ m) ∧ v13 = .int .i64 k ∧ RL S c' ys ∧ Hid (Rot dEn xs ys k m (m + 1)) ∧ St S (.sl sv 83 23 N c' :: M) wr) (fun v _ => (intOf v).toNat)
            case atStart => exact ⟨m, c, xs, by omega, rfl, hR, h0, hst⟩
            case round =>
              clear hst hR h0
              obtain ⟨k, c', ys, hk, rfl, hR, hro, hst⟩ := hrel
              have hyl : ys.length = N := hro.out.1.length_eq.trans HN.out
              by_cases hki : i < k
              · have hjA : k < ys.length := by omega
                have hjB : k - 1 < ys.length := by omega
                have gA := getD_some (d := dEn) hjA
                have gB := getD_some (d := dEn) hjB
                have eb : ((k : Int) - 1).toNat = k - 1 := by omega
                have hyl := Lib.hid hyl
                have hnx := Lib.hid (rot_left hro.out (by omega) hk.2 (show m < xs.length by rw [HN.out]; omega))
                repeat' ((fail_if_success (with_reducible show Code.wp _ (Code.region 23 _ _) _ _ _)); first | ((fail_if_success (go_big_may)); (go_step)) | (with_reducible refine Sl.gate rfl ?_; (go_step)))
                refine v_begin hst (by kernel_rfl) ?_; clear hst; intro ops; (try refine nX ?_)
                (refine t_qt 0 rfl (by kernel_rfl) rfl rfl (by exact qt_move evX) ?_) <;> (try refine nX ?_)
                (refine t_qt 1 rfl (by kernel_rfl) rfl rfl (by exact qt_move evX) ?_) <;> (try refine nX ?_)
                (refine t_pure 2 rfl (by kernel_rfl) rfl rfl (fun _ _ => by exact qt_move evX) ?_) <;> (try refine nX ?_)
                (refine t_pure 3 rfl (by kernel_rfl) rfl rfl (fun _ _ => by exact qt_move evX) ?_) <;> (try refine nX ?_)
                (refine t_pure 4 rfl (by kernel_rfl) rfl rfl (fun _ _ => by exact qt_sub' rfl rfl omX) ?_) <;> (try refine nX ?_)
                (refine t_qt 5 rfl (by kernel_rfl) rfl rfl (by exact qt_move evX) ?_) <;> (try refine nX ?_)
                (refine t_qt 6 rfl (by kernel_rfl) rfl rfl (by exact qt_move evX) ?_) <;> (try refine nX ?_)
                (refine t_qt 7 rfl (by kernel_rfl) rfl rfl (by exact qt_sub' rfl rfl omX) ?_) <;> (try refine nX ?_)
                ((refine t_ex 8 rfl (by kernel_rfl) rfl rfl (fun w hst => qt_index_own hst evX SlIn.h rfl inX inX omX omX ) ?_; rintro  v8 hq8; rw [eb] at hq8)) <;> (try refine nX ?_)
                ((refine t_ex0 9 rfl (by kernel_rfl) rfl rfl (qt_ldR (j := k - 1) evX hq8 SlIn.h hR inX gB ) ?_; rintro  v9 ⟨cb, rfl, hcb⟩)) <;> (try refine nX ?_)
                (refine t_qt 10 rfl (by kernel_rfl) rfl rfl (by exact qt_move evX) ?_) <;> (try refine nX ?_)
                (refine t_qt 11 rfl (by kernel_rfl) rfl rfl (by exact qt_move evX) ?_) <;> (try refine nX ?_)
                ((refine t_ex 12 rfl (by kernel_rfl) rfl rfl (fun w hst => qt_index_own hst evX SlIn.h rfl inX inX omX omX ) ?_; rintro  v12 hq12; simp only [Int.toNat_natCast] at hq12)) <;> (try refine nX ?_)
                ((refine t_ex0 13 rfl (by kernel_rfl) rfl rfl (qt_ldR (j := k) evX hq12 SlIn.h hR inX gA ) ?_; rintro  v13 ⟨ca, rfl, hca⟩)) <;> (try refine nX ?_)
                ((refine t_ex 14 rfl (by kernel_rfl) rfl rfl (fun w hst => qt_index_own hst evX SlIn.h rfl inX inX omX omX ) ?_; rintro  v14 hq14; simp only [Int.toNat_natCast] at hq14)) <;> (try refine nX ?_)
                refine v_one 15 rfl (by kernel_rfl) ?_; intro w hst K hK; refine s_store_own (u := .agg cb.toArray) (cs := cb) hst evX hq14 SlIn.h inX evX rfl (Rep.len hcb) (List.all_eq_true.2 (Rep.one hcb)) (RL.at_len hR hjA) ?_; clear hst; intro w hst; (try refine nX ?_); (try replace hst := nH hst); refine v_last hK hst ?_; clear hst hK K; (try clear w); (try refine nX ?_)
                ((refine t_ex 16 rfl (by kernel_rfl) rfl rfl (fun w hst => qt_index_own hst evX SlIn.h rfl inX inX omX omX ) ?_; rintro  v16 hq16; rw [eb] at hq16)) <;> (try refine nX ?_)
                refine v_one 17 rfl (by kernel_rfl) ?_; intro w hst K hK; refine s_store_own (u := .agg ca.toArray) (cs := ca) hst evX hq16 SlIn.h inX evX rfl (Rep.len hca) (List.all_eq_true.2 (Rep.one hca)) (RL.at_len (RL.set hR hcb hjA) (by simpa using hjB)) ?_; clear hst; intro w hst; (try refine nX ?_); (try replace hst := nH hst); refine v_last hK hst ?_; clear hst hK K; (try clear w); (try refine nX ?_)
                refine v_done (by kernel_rfl) ?_; clear ops; intro w hst
                have hq := RL.set (RL.set hR hcb hjA) hca (show k - 1 < (ys.set k (ys.getD (k - 1) dEn)).length by simpa using hjB)
                repeat' (first | ((fail_if_success (go_big_may)); (go_step)) | (with_reducible refine Sl.gate rfl ?_; (go_step)))
                go_roundw
                case rel => exact ⟨k - 1, _, _, by omega, num_pred hki, hq, hnx, hst⟩
                case measure => simp [intOf]; omega
              · have e : k = i := by omega
                have hE := Lib.hid (show Upd dEn a b xs ys ∧ Srtd cfE dEn ys a b by
                  rw [e] at hro
                  have e2 : b = m + 1 := by omega
                  rw [e2]
                  exact ⟨(rot_upd hro.out (by omega) (by omega)).wide (by omega) (Nat.le_refl _), one_right ordE.toOrd hs1 hro.out (by omega) (by omega) hse.out.1 hse.out.2⟩)
                clear e
                repeat' (first | ((fail_if_success (go_big_may)); (go_step)) | (with_reducible refine Sl.gate rfl ?_; (go_step)))
                refine bodyPost_ret (results_none rfl _ _ _) rfl ?_
                exact ⟨_, rfl, c', ys, hR, hE.out.1, hE.out.2, hst⟩
      · skip
        have g0 : ((m : Int) - (a : Int) == 1) = false := beq_eq_false_iff_ne.2 (by omega)
        have g1 : ((b : Int) - (m : Int) == 1) = false := beq_eq_false_iff_ne.2 (by omega)
        obtain ⟨q, eq, hq⟩ : ∃ q : Nat, ((a : Int) + (b : Int)) / 2 = (q : Int) ∧ 2 * q ≤ a + b ∧ a + b ≤ 2 * q + 1 := ⟨(a + b) / 2, by omega, by omega, by omega⟩
        obtain ⟨n, en, hn⟩ : ∃ n : Nat, (q : Int) + (m : Int) = (n : Int) ∧ n ≤ q + m ∧ q + m ≤ n := ⟨q + m, by omega, by omega, by omega⟩
        obtain ⟨p, ep, hp⟩ : ∃ p : Nat, (n : Int) - 1 = (p : Int) ∧ n ≤ p + 1 ∧ p + 1 ≤ n := ⟨n - 1, by omega, by omega, by omega⟩
        have key : ∃ lo hi : Nat, (((n : Int) - (b : Int) = (lo : Int) ∧ hi = q ∧ m > q) ∨ (lo = a ∧ hi = m ∧ ¬ m > q)) ∧ (a ≤ lo ∧ lo ≤ hi ∧ hi ≤ m ∧ hi ≤ q ∧ n ≤ lo + b) ∧ (lo = a ∨ n = lo + b) ∧ (hi = m ∨ hi = q) := by
          by_cases k : m > q
          · exact ⟨n - b, q, .inl ⟨by omega, rfl, k⟩, by omega, .inr (by omega), .inr rfl⟩
          · exact ⟨a, m, .inr ⟨rfl, rfl, k⟩, by omega, .inl rfl, .inl rfl⟩
        obtain ⟨lo, hi, f1, f3, f4, f5⟩ := key
        have F4 := Lib.hid f4
        have F5 := Lib.hid f5
        clear f4 f5
        have h0 := Lib.hid (show Srch cfE dEn xs p lo hi lo hi from ⟨fun c k1 k2 => by omega, fun c k1 k2 => by omega⟩)
        rcases f1 with ⟨elo, ehi, hmq⟩ | ⟨elo, ehi, hmq⟩
        all_goals
          go_enter Tryd.func100, Tryd.ntmps100
          repeat' (first | (((with_reducible refine Sl.k_bin ?_; (first | refine s_qt hst (qt_eql_b rfl rfl g0) ?_ | refine s_qt hst (qt_eql_b rfl rfl g1) ?_))) <;> (try refine nX ?_)) | ((fail_if_success (go_big_may)); (go_step)) | (with_reducible refine Sl.gate rfl ?_; (go_step)))
          go_loopw [20, 21, 23] (fun v1 v2 _ wr => ∃ (s r : Nat), (lo ≤ s ∧ s ≤ r ∧ r ≤ hi) ∧ v1 = .int .i64 s ∧ v2 = .int .i64 r ∧ Hid (Srch cfE dEn xs p lo hi s r) ∧ St S (.sl sv 83 23 N c :: M) wr) (fun v v2 _ _ => (intOf v2).toNat - (intOf v).toNat)
          case atStart => exact ⟨lo, hi, by omega, by first | rfl | rw [elo], by first | rfl | rw [ehi], h0, hst⟩
          case round =>
            clear hst h0 eq en ep elo ehi hmq g0 g1
            obtain ⟨s, r, hsr, rfl, rfl, hse, hst⟩ := hrel
            by_cases hlt : s < r
            · obtain ⟨h, eh, hh⟩ : ∃ h : Nat, ((s : Int) + (r : Int)) / 2 = (h : Int) ∧ s ≤ h ∧ h < r := ⟨(s + r) / 2, by omega, by omega, by omega⟩
              obtain ⟨u, eu, hu⟩ : ∃ u : Nat, ((p : Int) - (h : Int)).toNat = u ∧ p ≤ u + h ∧ u + h ≤ p ∧ m ≤ u ∧ u < b := ⟨p - h, by omega, by omega, by omega, by omega, by omega⟩
              have hA0 : u < xs.length := by rw [HN.out]; omega
              have hB0 : h < xs.length := by rw [HN.out]; omega
              have gA := getD_some (d := dEn) hA0
              have gB := getD_some (d := dEn) hB0
              have HU := Lib.hid (show p - h = u by omega)
              have cC := fun {S' : Snap} {M : List Chunk} (w : World) (hS : S.Le S') (hst : St S' M w) (c1 c2 : List Value) (h1 : Rep.R S c1 (xs.getD u dEn)) (h2 : Rep.R S c2 (xs.getD h dEn)) => ecmp_c w hst c1 _ (Rep.mono hS h1) c2 _ (Rep.mono hS h2)
              obtain ⟨y, gy⟩ : ∃ y, decide (cfE (xs.getD u dEn) (xs.getD h dEn) < 0) = y := ⟨_, rfl⟩
              cases y with
              | true =>
                have hnx := Lib.hid (srch_down ordE.toOrd hs1 hs2 hse.out (c := h) (by omega) (by omega) (by omega) (by omega) (by omega) (by rw [HU.out]; exact of_decide_eq_true gy))
                repeat' ((fail_if_success (with_reducible show Code.wp _ (Code.region 35 _ _) _ _ _)); first | ((fail_if_success (go_big_may)); (go_step)) | (with_reducible refine Sl.gate rfl ?_; (go_step)))
                refine v_begin hst (by kernel_rfl) ?_; clear hst; intro ops; (try refine nX ?_)
                (refine t_qt 0 rfl (by kernel_rfl) rfl rfl (by exact qt_move evX) ?_) <;> (try refine nX ?_)
                (refine t_qt 1 rfl (by kernel_rfl) rfl rfl (by exact qt_move evX) ?_) <;> (try refine nX ?_)
                (refine t_qt 2 rfl (by kernel_rfl) rfl rfl (by exact qt_move evX) ?_) <;> (try refine nX ?_)
                (refine t_qt 3 rfl (by kernel_rfl) rfl rfl (by exact qt_move evX) ?_) <;> (try refine nX ?_)
                (refine t_qt 4 rfl (by kernel_rfl) rfl rfl (by exact qt_sub' rfl rfl omX) ?_) <;> (try refine nX ?_)
                ((refine t_ex 5 rfl (by kernel_rfl) rfl rfl (fun w hst => qt_index_own hst evX SlIn.h rfl inX inX omX omX ) ?_; rintro  v5 hp5; rw [eu] at hp5)) <;> (try refine nX ?_)
                ((refine t_ex0 6 rfl (by kernel_rfl) rfl rfl (qt_ldR (j := u) evX hp5 SlIn.h hR inX gA ) ?_; rintro  v6 ⟨c6, rfl, hc6⟩)) <;> (try refine nX ?_)
                (refine t_qt 7 rfl (by kernel_rfl) rfl rfl (by exact qt_move evX) ?_) <;> (try refine nX ?_)
                (refine t_qt 8 rfl (by kernel_rfl) rfl rfl (by exact qt_move evX) ?_) <;> (try refine nX ?_)
                ((refine t_ex 9 rfl (by kernel_rfl) rfl rfl (fun w hst => qt_index_own hst evX SlIn.h rfl inX inX omX omX ) ?_; rintro  v9 hp9; simp only [Int.toNat_natCast] at hp9)) <;> (try refine nX ?_)
                ((refine t_ex0 10 rfl (by kernel_rfl) rfl rfl (qt_ldR (j := h) evX hp9 SlIn.h hR inX gB ) ?_; rintro  v10 ⟨c10, rfl, hc10⟩)) <;> (try refine nX ?_)
                (refine t_callv 11 rfl (by kernel_rfl) rfl (fun S' M' w hS hM hst => cC w hS hst c6 c10 hc6 hc10) rfl inX rfl rfl ?_) <;> (try refine nX ?_)
                (refine t_qt 12 rfl (by kernel_rfl) rfl rfl (qt_lss_b rfl rfl gy) ?_) <;> (try refine nX ?_)
                (refine t_qt 13 rfl (by kernel_rfl) rfl rfl (by exact qt_not rfl) ?_) <;> (try refine nX ?_)
                refine v_done (by kernel_rfl) ?_; clear ops; intro w hst
                repeat' (((fail_if_success (go_big_may)); (go_step)))
                go_roundw
                case rel => exact ⟨s, h, by omega, rfl, rfl, hnx, hst⟩
                case measure => simp [intOf]; omega
              | false =>
                have hnx := Lib.hid (srch_up ordE.toOrd hs1 hs2 hse.out (c := h) (by omega) (by omega) (by omega) (by omega) (by omega) (by omega) (by rw [HU.out]; exact of_decide_eq_false gy))
                repeat' ((fail_if_success (with_reducible show Code.wp _ (Code.region 35 _ _) _ _ _)); first | ((fail_if_success (go_big_may)); (go_step)) | (with_reducible refine Sl.gate rfl ?_; (go_step)))
                refine v_begin hst (by kernel_rfl) ?_; clear hst; intro ops; (try refine nX ?_)
                (refine t_qt 0 rfl (by kernel_rfl) rfl rfl (by exact qt_move evX) ?_) <;> (try refine nX ?_)
                (refine t_qt 1 rfl (by kernel_rfl) rfl rfl (by exact qt_move evX) ?_) <;> (try refine nX ?_)
                (refine t_qt 2 rfl (by kernel_rfl) rfl rfl (by exact qt_move evX) ?_) <;> (try refine nX ?_)
                (refine t_qt 3 rfl (by kernel_rfl) rfl rfl (by exact qt_move evX) ?_) <;> (try refine nX ?_)
                (refine t_qt 4 rfl (by kernel_rfl) rfl rfl (by exact qt_sub' rfl rfl omX) ?_) <;> (try refine nX ?_)
                ((refine t_ex 5 rfl (by kernel_rfl) rfl rfl (fun w hst => qt_index_own hst evX SlIn.h rfl inX inX omX omX ) ?_; rintro  v5 hp5; rw [eu] at hp5)) <;> (try refine nX ?_)
                ((refine t_ex0 6 rfl (by kernel_rfl) rfl rfl (qt_ldR (j := u) evX hp5 SlIn.h hR inX gA ) ?_; rintro  v6 ⟨c6, rfl, hc6⟩)) <;> (try refine nX ?_)
                (refine t_qt 7 rfl (by kernel_rfl) rfl rfl (by exact qt_move evX) ?_) <;> (try refine nX ?_)
                (refine t_qt 8 rfl (by kernel_rfl) rfl rfl (by exact qt_move evX) ?_) <;> (try refine nX ?_)
                ((refine t_ex 9 rfl (by kernel_rfl) rfl rfl (fun w hst => qt_index_own hst evX SlIn.h rfl inX inX omX omX ) ?_; rintro  v9 hp9; simp only [Int.toNat_natCast] at hp9)) <;> (try refine nX ?_)
                ((refine t_ex0 10 rfl (by kernel_rfl) rfl rfl (qt_ldR (j := h) evX hp9 SlIn.h hR inX gB ) ?_; rintro  v10 ⟨c10, rfl, hc10⟩)) <;> (try refine nX ?_)
                (refine t_callv 11 rfl (by kernel_rfl) rfl (fun S' M' w hS hM hst => cC w hS hst c6 c10 hc6 hc10) rfl inX rfl rfl ?_) <;> (try refine nX ?_)
                (refine t_qt 12 rfl (by kernel_rfl) rfl rfl (qt_lss_b rfl rfl gy) ?_) <;> (try refine nX ?_)
                (refine t_qt 13 rfl (by kernel_rfl) rfl rfl (by exact qt_not rfl) ?_) <;> (try refine nX ?_)
                refine v_done (by kernel_rfl) ?_; clear ops; intro w hst
                repeat' (first | ((fail_if_success (go_big_may)); (go_step)) | (with_reducible refine Sl.gate rfl ?_; (go_step)))
                go_roundw
                case rel => exact ⟨h + 1, r, by omega, by go_num, rfl, hnx, hst⟩
                case measure => simp [intOf]; omega
            · obtain rfl : s = r := by omega
              obtain ⟨e, ee, he⟩ : ∃ e : Nat, (n : Int) - (s : Int) = (e : Int) ∧ n ≤ e + s ∧ e + s ≤ n := ⟨n - s, by omega, by omega, by omega⟩
              have hse1 : a ≤ s := by omega
              have hse2 : s ≤ m := by omega
              have hse3 : m ≤ e := by omega
              have hse4 : e ≤ b := by omega
              have hqe : q ≤ e := by omega
              have hqs : s ≤ q ∧ q < b ∧ a < q := by omega
              have hA : s = a ∨ e = b ∨ le cfE (xs.getD (s - 1) dEn) (xs.getD e dEn) := by
                by_cases k : lo < s
                · have := hse.out.1 (s - 1) (by omega) (by omega)
                  rw [show p - (s - 1) = e by omega] at this
                  exact .inr (.inr this)
                · rcases F4.out with k2 | k2
                  · exact .inl (by omega)
                  · exact .inr (.inl (by omega))
              have hB : e = m ∨ s = m ∨ cfE (xs.getD (e - 1) dEn) (xs.getD s dEn) < 0 := by
                by_cases k : s < hi
                · have := hse.out.2 s (Nat.le_refl _) k
                  rw [show p - s = e - 1 by omega] at this
                  exact .inr (.inr this)
                · rcases F5.out with k2 | k2
                  · exact .inr (.inl (by omega))
                  · exact .inl (by omega)
              have HQ := Lib.hid (show q = s + (e - m) by omega)
              by_cases hrot : s < m ∧ m < e
              · repeat' ((fail_if_success (with_reducible show Code.wp _ (Code.region 41 _ _) _ _ _)); first | (((with_reducible refine Sl.k_guard ?_; ((refine Sl.guard_yes rfl ?_)))) <;> (try refine nX ?_)) | (((with_reducible refine Sl.k_call ?_; ((refine s_call (rotate_c _ sv N xs HN.out c hst hR s m e hrot.1 hrot.2 (by omega) hx) inX rfl ?_; clear hst; rintro v w ⟨c2, zs, hR2, hro0, hst⟩)))) <;> (try refine nX ?_) <;> (try replace hst := nH hst)) | ((fail_if_success (go_big_may)); (go_step)) | (with_reducible refine Sl.gate rfl ?_; (go_step)))
                have hro := Lib.hid hro0
                clear hro0
                have hzl : zs.length = N := hro.out.1.length_eq.trans HN.out
                obtain ⟨hz1, hz2, hz3, hz4, hx0⟩ := sym_split ordE.toOrd hs1 hs2 hro.out hse1 hse2 hse3 hse4 HQ.out hA hB
                have hx1 := Lib.hid hx0
                have hup := Lib.hid (show Upd dEn a b xs zs from (rot_upd hro.out hse2 hse3).wide hse1 hse4)
                clear hA hB hx0 hs1 hs2
                by_cases hq1 : a < s ∧ s < q
                · have hle1 : q - a ≤ L := by omega
                  repeat' ((fail_if_success (with_reducible show Code.wp _ (Code.region 43 _ _) _ _ _)); first | (((with_reducible refine Sl.k_guard ?_; ((refine Sl.guard_yes rfl ?_)))) <;> (try refine nX ?_)) | (((with_reducible refine Sl.k_call ?_; ((refine s_call (ih _ sv N zs hzl c2 hst hR2 a s q hq1.1 hq1.2 (by omega) hx hle1 hz1 hz2) inX rfl ?_; clear hst; rintro v w ⟨c3, ys1, hR3, hu, hs, hst⟩)))) <;> (try refine nX ?_) <;> (try replace hst := nH hst)) | ((fail_if_success (go_big_may)); (go_step)) | (with_reducible refine Sl.gate rfl ?_; (go_step)))
                  have hl1 : ys1.length = N := hu.len.trans hzl
                  replace hz3 := srtd_out hz3 hu (.inr (Nat.le_refl _))
                  replace hz4 := srtd_out hz4 hu (.inr hqe)
                  have hu3 := Lib.hid hu
                  have hs3 := Lib.hid hs
                  clear hu hs
                  by_cases hq2 : q < e ∧ e < b
                  · have hle2 : b - q ≤ L := by omega
                    repeat' (first | (((with_reducible refine Sl.k_guard ?_; ((refine Sl.guard_yes rfl ?_)))) <;> (try refine nX ?_)) | (((with_reducible refine Sl.k_call ?_; ((refine s_call (ih _ sv N ys1 hl1 c3 hst hR3 q e b hq2.1 hq2.2 hb hx hle2 hz3 hz4) inX rfl ?_; clear hst; rintro v w ⟨c4, ys2, hR4, hu4, hs4, hst⟩)))) <;> (try refine nX ?_) <;> (try replace hst := nH hst)) | ((fail_if_success (go_big_may)); (go_step)) | (with_reducible refine Sl.gate rfl ?_; (go_step)))
                    go_end0
                    exact ⟨_, rfl, c4, ys2, hR4, ((hup.out.trans (hu3.out.wide (Nat.le_refl _) (by omega))).trans (hu4.wide (by omega) (Nat.le_refl _))), sym_join hx1.out hu3.out hs3.out hu4 hs4, hst⟩
                  · have hs4 := Lib.hid (show Srtd cfE dEn ys1 q b by
                      by_cases k1 : q < e
                      · have : e = b := by omega
                        rw [this] at hz3
                        exact hz3
                      · have : e = q := by omega
                        rw [this] at hz4
                        exact hz4)
                    repeat' (first | (((with_reducible refine Sl.k_guard ?_; (first | (refine Sl.guard_yes rfl ?_) | (refine Sl.guard_cases rfl ?_ ?_ <;> intro hg <;> first | (exfalso; simp only [decide_eq_true_eq, decide_eq_false_iff_not, Bool.not_false, Bool.not_true, beq_iff_eq, beq_eq_false_iff_ne, ne_eq] at hg; omega) | (simp only [hg, Bool.not_true, Bool.not_false])) <;> (try simp only [decide_eq_true_eq, decide_eq_false_iff_not, Bool.not_false, Bool.not_true, beq_iff_eq, beq_eq_false_iff_ne, bne_iff_ne, bne_eq_false_iff_eq, ne_eq] at hg)))) <;> (try refine nX ?_)) | ((fail_if_success (go_big_may)); (go_step)) | (with_reducible refine Sl.gate rfl ?_; (go_step)))
                    all_goals first
                      | (exfalso; omega)
                      | (go_end0; exact ⟨_, rfl, c3, ys1, hR3, hup.out.trans (hu3.out.wide (Nat.le_refl _) (by omega)), sym_join hx1.out hu3.out hs3.out (Upd.refl q b ys1) hs4.out, hst⟩)
                · have hs30 : Srtd cfE dEn zs a q := by
                    by_cases k1 : a < s
                    · have : s = q := by omega
                      rw [this] at hz1
                      exact hz1
                    · have : s = a := by omega
                      rw [this] at hz2
                      exact hz2
                  repeat' ((fail_if_success (with_reducible show Code.wp _ (Code.region 43 _ _) _ _ _)); first | go_skip | (((with_reducible refine Sl.k_guard ?_; ((refine Sl.guard_cases rfl ?_ ?_ <;> intro hg <;> first | (exfalso; simp only [decide_eq_true_eq, decide_eq_false_iff_not, Bool.not_false, Bool.not_true, beq_iff_eq, beq_eq_false_iff_ne, ne_eq] at hg; omega) | (simp only [hg, Bool.not_true, Bool.not_false])) <;> (try simp only [decide_eq_true_eq, decide_eq_false_iff_not, Bool.not_false, Bool.not_true, beq_iff_eq, beq_eq_false_iff_ne, bne_iff_ne, bne_eq_false_iff_eq, ne_eq] at hg)))) <;> (try refine nX ?_)) | ((fail_if_success (go_big_may)); (go_step)) | (with_reducible refine Sl.gate rfl ?_; (go_step)))
                  all_goals first
                    | (exfalso; omega)
                    | skip
                  all_goals
                    obtain ⟨ys1, c3, hR3, ⟨hu3, hs3, hl1, hz3, hz4⟩, hst⟩ := hide_zs (P := fun ys => Hid (Upd dEn a q zs ys) ∧ Hid (Srtd cfE dEn ys a q) ∧ ys.length = N ∧ Srtd cfE dEn ys q e ∧ Srtd cfE dEn ys e b) hR2 ⟨Lib.hid (Upd.refl a q zs), Lib.hid hs30, hzl, hz3, hz4⟩ hst
                    by_cases hq2 : q < e ∧ e < b
                    · have hle2 : b - q ≤ L := by omega
                      repeat' (first | (((with_reducible refine Sl.k_guard ?_; ((refine Sl.guard_yes rfl ?_)))) <;> (try refine nX ?_)) | (((with_reducible refine Sl.k_call ?_; ((refine s_call (ih _ sv N ys1 hl1 c3 hst hR3 q e b hq2.1 hq2.2 hb hx hle2 hz3 hz4) inX rfl ?_; clear hst; rintro v w ⟨c4, ys2, hR4, hu4, hs4, hst⟩)))) <;> (try refine nX ?_) <;> (try replace hst := nH hst)) | ((fail_if_success (go_big_may)); (go_step)) | (with_reducible refine Sl.gate rfl ?_; (go_step)))
                      go_end0
                      exact ⟨_, rfl, c4, ys2, hR4, ((hup.out.trans (hu3.out.wide (Nat.le_refl _) (by omega))).trans (hu4.wide (by omega) (Nat.le_refl _))), sym_join hx1.out hu3.out hs3.out hu4 hs4, hst⟩
                    · have hs4 := Lib.hid (show Srtd cfE dEn ys1 q b by
                        by_cases k1 : q < e
                        · have : e = b := by omega
                          rw [this] at hz3
                          exact hz3
                        · have : e = q := by omega
                          rw [this] at hz4
                          exact hz4)
                      repeat' (first | (((with_reducible refine Sl.k_guard ?_; (first | (refine Sl.guard_yes rfl ?_) | (refine Sl.guard_cases rfl ?_ ?_ <;> intro hg <;> first | (exfalso; simp only [decide_eq_true_eq, decide_eq_false_iff_not, Bool.not_false, Bool.not_true, beq_iff_eq, beq_eq_false_iff_ne, ne_eq] at hg; omega) | (simp only [hg, Bool.not_true, Bool.not_false])) <;> (try simp only [decide_eq_true_eq, decide_eq_false_iff_not, Bool.not_false, Bool.not_true, beq_iff_eq, beq_eq_false_iff_ne, bne_iff_ne, bne_eq_false_iff_eq, ne_eq] at hg)))) <;> (try refine nX ?_)) | ((fail_if_success (go_big_may)); (go_step)) | (with_reducible refine Sl.gate rfl ?_; (go_step)))
                      all_goals first
                        | (exfalso; omega)
                        | (go_end0; exact ⟨_, rfl, c3, ys1, hR3, hup.out.trans (hu3.out.wide (Nat.le_refl _) (by omega)), sym_join hx1.out hu3.out hs3.out (Upd.refl q b ys1) hs4.out, hst⟩)
              · have hro := Lib.hid (show Rot dEn xs xs s m e from rot_triv xs (by omega) hse2 hse3)
                repeat' ((fail_if_success (with_reducible show Code.wp _ (Code.region 41 _ _) _ _ _)); first | go_skip | (((with_reducible refine Sl.k_guard ?_; (first | (refine Sl.guard_yes rfl ?_) | (refine Sl.guard_cases rfl ?_ ?_ <;> intro hg <;> (simp only [hg, Bool.not_true, Bool.not_false])) <;> (try simp only [decide_eq_true_eq, decide_eq_false_iff_not, Bool.not_false, Bool.not_true, beq_iff_eq, beq_eq_false_iff_ne, bne_iff_ne, bne_eq_false_iff_eq, ne_eq] at hg)))) <;> (try refine nX ?_)) | ((fail_if_success (go_big_may)); (go_step)) | (with_reducible refine Sl.gate rfl ?_; (go_step)))
                all_goals first
                  | (exfalso; omega)
                  | skip
                all_goals
                  obtain ⟨zs, c2, hR2, hro, hst⟩ := hide_zs (P := fun zs => Hid (Rot dEn xs zs s m e)) hR hro hst
                  have hzl : zs.length = N := hro.out.1.length_eq.trans HN.out
                  obtain ⟨hz1, hz2, hz3, hz4, hx0⟩ := sym_split ordE.toOrd hs1 hs2 hro.out hse1 hse2 hse3 hse4 HQ.out hA hB
                  have hx1 := Lib.hid hx0
                  have hup := Lib.hid (show Upd dEn a b xs zs from (rot_upd hro.out hse2 hse3).wide hse1 hse4)
                  clear hA hB hx0 hs1 hs2
                  by_cases hq1 : a < s ∧ s < q
                  · have hle1 : q - a ≤ L := by omega
                    repeat' ((fail_if_success (with_reducible show Code.wp _ (Code.region 43 _ _) _ _ _)); first | (((with_reducible refine Sl.k_guard ?_; ((refine Sl.guard_yes rfl ?_)))) <;> (try refine nX ?_)) | (((with_reducible refine Sl.k_call ?_; ((refine s_call (ih _ sv N zs hzl c2 hst hR2 a s q hq1.1 hq1.2 (by omega) hx hle1 hz1 hz2) inX rfl ?_; clear hst; rintro v w ⟨c3, ys1, hR3, hu, hs, hst⟩)))) <;> (try refine nX ?_) <;> (try replace hst := nH hst)) | ((fail_if_success (go_big_may)); (go_step)) | (with_reducible refine Sl.gate rfl ?_; (go_step)))
                    have hl1 : ys1.length = N := hu.len.trans hzl
                    replace hz3 := srtd_out hz3 hu (.inr (Nat.le_refl _))
                    replace hz4 := srtd_out hz4 hu (.inr hqe)
                    have hu3 := Lib.hid hu
                    have hs3 := Lib.hid hs
                    clear hu hs
                    by_cases hq2 : q < e ∧ e < b
                    · have hle2 : b - q ≤ L := by omega
                      repeat' (first | (((with_reducible refine Sl.k_guard ?_; ((refine Sl.guard_yes rfl ?_)))) <;> (try refine nX ?_)) | (((with_reducible refine Sl.k_call ?_; ((refine s_call (ih _ sv N ys1 hl1 c3 hst hR3 q e b hq2.1 hq2.2 hb hx hle2 hz3 hz4) inX rfl ?_; clear hst; rintro v w ⟨c4, ys2, hR4, hu4, hs4, hst⟩)))) <;> (try refine nX ?_) <;> (try replace hst := nH hst)) | ((fail_if_success (go_big_may)); (go_step)) | (with_reducible refine Sl.gate rfl ?_; (go_step)))
                      go_end0
                      exact ⟨_, rfl, c4, ys2, hR4, ((hup.out.trans (hu3.out.wide (Nat.le_refl _) (by omega))).trans (hu4.wide (by omega) (Nat.le_refl _))), sym_join hx1.out hu3.out hs3.out hu4 hs4, hst⟩
                    · have hs4 := Lib.hid (show Srtd cfE dEn ys1 q b by
                        by_cases k1 : q < e
                        · have : e = b := by omega
                          rw [this] at hz3
                          exact hz3
                        · have : e = q := by omega
                          rw [this] at hz4
                          exact hz4)
                      repeat' (first | go_skip | (((with_reducible refine Sl.k_guard ?_; ((refine Sl.guard_cases rfl ?_ ?_ <;> intro hg <;> first | (exfalso; simp only [decide_eq_true_eq, decide_eq_false_iff_not, Bool.not_false, Bool.not_true, beq_iff_eq, beq_eq_false_iff_ne, ne_eq] at hg; omega) | (simp only [hg, Bool.not_true, Bool.not_false])) <;> (try simp only [decide_eq_true_eq, decide_eq_false_iff_not, Bool.not_false, Bool.not_true, beq_iff_eq, beq_eq_false_iff_ne, bne_iff_ne, bne_eq_false_iff_eq, ne_eq] at hg)))) <;> (try refine nX ?_)) | ((fail_if_success (go_big_may)); (go_step)) | (with_reducible refine Sl.gate rfl ?_; (go_step)))
                      all_goals first
                        | (exfalso; omega)
                        | (go_end0; exact ⟨_, rfl, c3, ys1, hR3, hup.out.trans (hu3.out.wide (Nat.le_refl _) (by omega)), sym_join hx1.out hu3.out hs3.out (Upd.refl q b ys1) hs4.out, hst⟩)
                  · have hs30 : Srtd cfE dEn zs a q := by
                      by_cases k1 : a < s
                      · have : s = q := by omega
                        rw [this] at hz1
                        exact hz1
                      · have : s = a := by omega
                        rw [this] at hz2
                        exact hz2
                    repeat' ((fail_if_success (with_reducible show Code.wp _ (Code.region 43 _ _) _ _ _)); first | (((with_reducible refine Sl.k_guard ?_; (first | (refine Sl.guard_yes rfl ?_) | (refine Sl.guard_cases rfl ?_ ?_ <;> intro hg <;> first | (exfalso; simp only [decide_eq_true_eq, decide_eq_false_iff_not, Bool.not_false, Bool.not_true, beq_iff_eq, beq_eq_false_iff_ne, ne_eq] at hg; omega) | (simp only [hg, Bool.not_true, Bool.not_false])) <;> (try simp only [decide_eq_true_eq, decide_eq_false_iff_not, Bool.not_false, Bool.not_true, beq_iff_eq, beq_eq_false_iff_ne, bne_iff_ne, bne_eq_false_iff_eq, ne_eq] at hg)))) <;> (try refine nX ?_)) | ((fail_if_success (go_big_may)); (go_step)) | (with_reducible refine Sl.gate rfl ?_; (go_step)))
                    all_goals first
                      | (exfalso; omega)
                      | skip
                    all_goals
                      obtain ⟨ys1, c3, hR3, ⟨hu3, hs3, hl1, hz3, hz4⟩, hst⟩ := hide_zs (P := fun ys => Hid (Upd dEn a q zs ys) ∧ Hid (Srtd cfE dEn ys a q) ∧ ys.length = N ∧ Srtd cfE dEn ys q e ∧ Srtd cfE dEn ys e b) hR2 ⟨Lib.hid (Upd.refl a q zs), Lib.hid hs30, hzl, hz3, hz4⟩ hst
                      by_cases hq2 : q < e ∧ e < b
                      · have hle2 : b - q ≤ L := by omega
                        repeat' (first | (((with_reducible refine Sl.k_guard ?_; ((refine Sl.guard_yes rfl ?_)))) <;> (try refine nX ?_)) | (((with_reducible refine Sl.k_call ?_; ((refine s_call (ih _ sv N ys1 hl1 c3 hst hR3 q e b hq2.1 hq2.2 hb hx hle2 hz3 hz4) inX rfl ?_; clear hst; rintro v w ⟨c4, ys2, hR4, hu4, hs4, hst⟩)))) <;> (try refine nX ?_) <;> (try replace hst := nH hst)) | ((fail_if_success (go_big_may)); (go_step)) | (with_reducible refine Sl.gate rfl ?_; (go_step)))
                        go_end0
                        exact ⟨_, rfl, c4, ys2, hR4, ((hup.out.trans (hu3.out.wide (Nat.le_refl _) (by omega))).trans (hu4.wide (by omega) (Nat.le_refl _))), sym_join hx1.out hu3.out hs3.out hu4 hs4, hst⟩
                      · have hs4 := Lib.hid (show Srtd cfE dEn ys1 q b by
                          by_cases k1 : q < e
                          · have : e = b := by omega
                            rw [this] at hz3
                            exact hz3
                          · have : e = q := by omega
                            rw [this] at hz4
                            exact hz4)
                        repeat' (first | go_skip | (((with_reducible refine Sl.k_guard ?_; ((refine Sl.guard_cases rfl ?_ ?_ <;> intro hg <;> first | (exfalso; simp only [decide_eq_true_eq, decide_eq_false_iff_not, Bool.not_false, Bool.not_true, beq_iff_eq, beq_eq_false_iff_ne, ne_eq] at hg; omega) | (simp only [hg, Bool.not_true, Bool.not_false])) <;> (try simp only [decide_eq_true_eq, decide_eq_false_iff_not, Bool.not_false, Bool.not_true, beq_iff_eq, beq_eq_false_iff_ne, bne_iff_ne, bne_eq_false_iff_eq, ne_eq] at hg)))) <;> (try refine nX ?_)) | ((fail_if_success (go_big_may)); (go_step)) | (with_reducible refine Sl.gate rfl ?_; (go_step)))
                        all_goals first
                          | (exfalso; omega)
                          | (go_end0; exact ⟨_, rfl, c3, ys1, hR3, hup.out.trans (hu3.out.wide (Nat.le_refl _) (by omega)), sym_join hx1.out hu3.out hs3.out (Upd.refl q b ys1) hs4.out, hst⟩)
end Go.Proofs.YtjapdhaimbalkaaDoor

/- Package slices at the entries of package directory: the stable sort, walked. -/
--@hgp
--@flat
--@dg
--@ex0
namespace Go.Proofs.YtjapdhaimbalkaaDoor
set_option linter.unusedSimpArgs false
set_option linter.unusedVariables false
open Go.RowKit Go.Sl Go.Srt

set_option maxRecDepth 8000 in
set_option maxHeartbeats 4000000 in
theorem stable_c {S M} (w : World) (sv : Value) (N : Nat) (xs : List En) (hN : xs.length = N) (c : List Value) (hst : St S (.sl sv 83 23 N c :: M) w) (hR : RL S c xs) (hx : N ≤ 1000000) :
    Rets Tryd.prog 91 [sv, .int .i64 N, cmpV] w fun _ w' => ∃ c' ys, RL S c' ys ∧ ys.Perm xs ∧ Srtd cfE dEn ys 0 N ∧ St S (.sl sv 83 23 N c' :: M) w' := by
  unfold Rets
  have hone := sl_one hst
  have HN := Lib.hid hN
  clear hN
  go_enter Tryd.func91, Tryd.ntmps91
  repeat' (((fail_if_success (go_big_may)); (go_step)))
  go_loopw [7, 8] (fun v7 v8 wr => ∃ (q a b : Nat) (c' : List Value) (ys : List En), (b ≤ a + 20 ∧ a + 20 ≤ b ∧ a ≤ N) ∧ v7 = .int .i64 a ∧ v8 = .int .i64 b ∧ RL S c' ys ∧ Hid (a = q * 20 ∧ Upd dEn 0 N xs ys ∧ Blks cfE dEn ys 20 0 a) ∧ St S (.sl sv 83 23 N c' :: M) wr) (fun _ v _ => N + 20 - (intOf v).toNat)
  case atStart => exact ⟨0, 0, 20, c, xs, by omega, rfl, rfl, hR, Lib.hid ⟨by omega, Upd.refl _ _ _, blks_nil _ _⟩, hst⟩
  case round =>
    clear hst hR
    obtain ⟨q, a, b, c', ys, hi, rfl, rfl, hR, hU, hst⟩ := hrel
    have hyl : ys.length = N := hU.out.2.1.len.trans HN.out
    by_cases hlt : b ≤ N
    · repeat' (first | (((with_reducible refine Sl.k_call ?_; ((refine s_call (insert_c _ sv N ys hyl c' hst hR a b hlt hx (by omega)) inX rfl ?_; clear hst; rintro v w ⟨c2, zs, hR2, hu, hs, hst⟩)))) <;> (try refine nX ?_) <;> (try replace hst := nH hst)) | ((fail_if_success (go_big_may)); (go_step)) | (with_reducible refine Sl.gate rfl ?_; (go_step)))
      have hU2 := Lib.hid (show b = (q + 1) * 20 ∧ Upd dEn 0 N xs zs ∧ Blks cfE dEn zs 20 0 b from ⟨by have := hU.out.1; omega, hU.out.2.1.trans (hu.wide (Nat.zero_le _) hlt), blks_ins hU.out.2.2 hU.out.1 (by omega) hu hs⟩)
      clear hu hs
      repeat' (fail)
      go_roundw
      case rel => exact ⟨q + 1, b, b + 20, c2, zs, by omega, rfl, by congr 1 <;> omega, hR2, hU2, hst⟩
      case measure => simp [intOf]; omega
    · repeat' (first | (((with_reducible refine Sl.k_call ?_; ((refine s_call (insert_c _ sv N ys hyl c' hst hR a N (Nat.le_refl _) hx (by omega)) inX rfl ?_; clear hst; rintro v w ⟨c2, zs, hR2, hu, hs, hst⟩)))) <;> (try refine nX ?_) <;> (try replace hst := nH hst)) | ((fail_if_success (go_big_may)); (go_step)) | (with_reducible refine Sl.gate rfl ?_; (go_step)))
      have hU2 := Lib.hid (show Upd dEn 0 N xs zs ∧ Blks cfE dEn zs 20 0 N from ⟨hU.out.2.1.trans (hu.wide (Nat.zero_le _) (Nat.le_refl _)), blks_ins hU.out.2.2 hU.out.1 (by omega) hu hs⟩)
      clear hu hs hU hyl hR hi hlt
      repeat' (fail)
      go_loopw [6, 7, 8, 9] (fun v6 _ _ _ wr => ∃ (bs : Nat) (c' : List Value) (ys : List En), (0 < bs ∧ bs ≤ 2000000) ∧ v6 = .int .i64 bs ∧ RL S c' ys ∧ Hid (Upd dEn 0 N xs ys ∧ Blks cfE dEn ys bs 0 N) ∧ St S (.sl sv 83 23 N c' :: M) wr) (fun v _ _ _ _ => N - (intOf v).toNat)
      case atStart => exact ⟨20, c2, zs, by omega, rfl, hR2, hU2, hst⟩
      case round =>
        clear hst hR2 hU2
        obtain ⟨bs, c', ys, hbs, rfl, hR, hU, hst⟩ := hrel
        by_cases hlt : bs < N
        · obtain ⟨d, ed, ed2, hd⟩ : ∃ d : Nat, 2 * (bs : Int) = (d : Int) ∧ (bs : Int) * 2 = (d : Int) ∧ d ≤ 2 * bs ∧ 2 * bs ≤ d := ⟨2 * bs, by omega, by omega, by omega⟩
          have HD := Lib.hid (show d = 2 * bs by omega)
          repeat' (first | ((fail_if_success (go_big_may)); (go_step)) | (with_reducible refine Sl.gate rfl ?_; (go_step)))
          go_loopw [7, 8] (fun v7 v8 wr => ∃ (q a b : Nat) (c' : List Value) (ys : List En), (b ≤ a + d ∧ a + d ≤ b ∧ a ≤ N) ∧ v7 = .int .i64 a ∧ v8 = .int .i64 b ∧ RL S c' ys ∧ Hid (a = q * d ∧ Upd dEn 0 N xs ys ∧ Blks cfE dEn ys d 0 a ∧ Blks cfE dEn ys bs a N) ∧ St S (.sl sv 83 23 N c' :: M) wr) (fun _ v _ => N + d - (intOf v).toNat)
          case atStart => exact ⟨0, 0, d, c', ys, by omega, rfl, by congr 1, hR, Lib.hid ⟨by omega, hU.out.1, blks_nil _ _, hU.out.2⟩, hst⟩
          case round =>
            clear hst hR hU
            rename_i cu0 ys0
            obtain ⟨q, a, b, c', ys, hi, rfl, rfl, hR, hU, hst⟩ := hrel
            have hyl : ys.length = N := hU.out.2.1.len.trans HN.out
            obtain ⟨m, em, hm⟩ : ∃ m : Nat, (a : Int) + (bs : Int) = (m : Int) ∧ m ≤ a + bs ∧ a + bs ≤ m := ⟨a + bs, by omega, by omega⟩
            by_cases hlt2 : b ≤ N
            · have hq1 : Srtd cfE dEn ys a m ∧ Srtd cfE dEn ys m b := by
                have e1 : a = (2 * q) * bs := by rw [hU.out.1, HD.out, ← Nat.mul_assoc, Nat.mul_comm q 2]
                have e2 : m = (2 * q + 1) * bs := by rw [Nat.succ_mul, ← e1]; omega
                constructor
                · have := blks_srtd (r := 2 * q) (b := m) hU.out.2.2.2 hbs.1 (by omega) (by omega) (by omega)
                  rwa [← e1] at this
                · have := blks_srtd (r := 2 * q + 1) (b := b) hU.out.2.2.2 hbs.1 (by omega) (by omega) hlt2
                  rwa [← e2] at this
              repeat' (first | (((with_reducible refine Sl.k_call ?_; ((refine s_call (symM_c N _ sv N ys hyl c' hst hR a m b (by omega) (by omega) hlt2 hx (by omega) hq1.1 hq1.2) inX rfl ?_; clear hst; rintro v w ⟨c2, zs, hR2, hu, hs, hst⟩)))) <;> (try refine nX ?_) <;> (try replace hst := nH hst)) | ((fail_if_success (go_big_may)); (go_step)) | (with_reducible refine Sl.gate rfl ?_; (go_step)))
              have hU2 := Lib.hid (show b = (q + 1) * d ∧ Upd dEn 0 N xs zs ∧ Blks cfE dEn zs d 0 b ∧ Blks cfE dEn zs bs b N from ⟨by rw [Nat.succ_mul, ← hU.out.1]; omega, hU.out.2.1.trans (hu.wide (Nat.zero_le _) hlt2), blks_ins hU.out.2.2.1 hU.out.1 (by omega) hu hs, blks_out hU.out.2.2.2 hu (by omega)⟩)
              clear hu hs hq1
              repeat' (fail)
              go_roundw
              case rel => exact ⟨q + 1, b, b + d, c2, zs, by omega, rfl, by congr 1 <;> omega, hR2, hU2, hst⟩
              case measure => simp [intOf]; omega
            · by_cases hmN : m < N
              · have hq1 : Srtd cfE dEn ys a m ∧ Srtd cfE dEn ys m N := by
                  have e1 : a = (2 * q) * bs := by rw [hU.out.1, HD.out, ← Nat.mul_assoc, Nat.mul_comm q 2]
                  have e2 : m = (2 * q + 1) * bs := by rw [Nat.succ_mul, ← e1]; omega
                  constructor
                  · have := blks_srtd (r := 2 * q) (b := m) hU.out.2.2.2 hbs.1 (by omega) (by omega) (by omega)
                    rwa [← e1] at this
                  · have := blks_srtd (r := 2 * q + 1) (b := N) hU.out.2.2.2 hbs.1 (by omega) (by omega) (Nat.le_refl _)
                    rwa [← e2] at this
                repeat' (first | (((with_reducible refine Sl.k_call ?_; ((refine s_call (symM_c N _ sv N ys hyl c' hst hR a m N (by omega) hmN (Nat.le_refl _) hx (by omega) hq1.1 hq1.2) inX rfl ?_; clear hst; rintro v w ⟨c2, zs, hR2, hu, hs, hst⟩)))) <;> (try refine nX ?_) <;> (try replace hst := nH hst)) | ((fail_if_success (go_big_may)); (go_step)) | (with_reducible refine Sl.gate rfl ?_; (go_step)))
                have hU2 := Lib.hid (show Upd dEn 0 N xs zs ∧ Blks cfE dEn zs d 0 N from ⟨hU.out.2.1.trans (hu.wide (Nat.zero_le _) (Nat.le_refl _)), blks_ins hU.out.2.2.1 hU.out.1 (by omega) hu hs⟩)
                clear hu hs hq1
                repeat' (fail)
                go_roundw
                case rel => exact ⟨d, c2, zs, by omega, rfl, hR2, hU2, hst⟩
                case measure => simp [intOf]; omega
              · have hU2 := Lib.hid (show Upd dEn 0 N xs ys ∧ Blks cfE dEn ys d 0 N from ⟨hU.out.2.1, by rw [HD.out]; exact blks_part (q := q) (by rw [← HD.out]; exact hU.out.2.2.1) hU.out.2.2.2 hbs.1 (by rw [← HD.out]; exact hU.out.1) (by omega)⟩)
                repeat' (first | ((fail_if_success (go_big_may)); (go_step)) | (with_reducible refine Sl.gate rfl ?_; (go_step)))
                go_roundw
                case rel => exact ⟨d, c', ys, by omega, rfl, hR, hU2, hst⟩
                case measure => simp [intOf]; omega
        · repeat' (first | ((fail_if_success (go_big_may)); (go_step)) | (with_reducible refine Sl.gate rfl ?_; (go_step)))
          go_end0
          exact ⟨_, rfl, c', ys, hR, hU.out.1.perm, blks_end hU.out.2 (by omega), hst⟩

set_option maxRecDepth 8000 in
theorem sort_c {S M} (w : World) (sv : Value) (N : Nat) (xs : List En) (hN : xs.length = N) (c : List Value) (hst : St S (.sl sv 83 23 N c :: M) w) (hR : RL S c xs) (hx : N ≤ 1000000) :
    Rets Tryd.prog 70 [sv, cmpV] w fun _ w' => ∃ c' ys, RL S c' ys ∧ ys.Perm xs ∧ Srtd cfE dEn ys 0 N ∧ St S (.sl sv 83 23 N c' :: M) w' := by
  unfold Rets
  have HN := Lib.hid hN
  clear hN
  go_enter Tryd.func70, Tryd.ntmps70
  repeat' (first | (((with_reducible refine Sl.k_call ?_; ((refine s_call (stable_c _ sv N xs HN.out c hst hR hx) inX rfl ?_; clear hst; rintro v w ⟨c2, zs, hR2, hu, hs, hst⟩)))) <;> (try refine nX ?_) <;> (try replace hst := nH hst)) | ((fail_if_success (go_big_may)); (go_step)) | (((with_reducible refine Sl.k_call ?_; (refine s_qt hst (by exact qt_len_own evX SlIn.h inX) ?_))) <;> (try refine nX ?_)))
  go_end0
  exact ⟨_, rfl, c2, zs, hR2, hu, hs, hst⟩
end Go.Proofs.YtjapdhaimbalkaaDoor

/- Package slices at the entries of package directory: neighbours left out, walked. -/
--@hgp
--@flat
--@dg
--@ex0
namespace Go.Proofs.YtjapdhaimbalkaaDoor
set_option linter.unusedSimpArgs false
set_option linter.unusedVariables false
open Go.RowKit Go.Sl Go.Srt

/-! ### Plain -/
def CpI (xs ys : List En) (kk q : Nat) : Prop := ys.length = xs.length ∧ ys.take kk = ddF cfE dEn xs q ∧ ∀ t, q ≤ t + 1 → ys.getD t dEn = xs.getD t dEn
theorem dd_dup {xs : List En} {q p : Nat} (hp : p + 1 = q) (h : decide (cfE (xs.getD q dEn) (xs.getD p dEn) = 0) = true) : ddF cfE dEn xs (q + 1) = ddF cfE dEn xs q := by
  rw [ddF, if_pos ⟨by omega, by rw [show q - 1 = p by omega]; exact of_decide_eq_true h⟩]
theorem dd_new {xs : List En} {q p : Nat} (hp : p + 1 = q) (h : decide (cfE (xs.getD q dEn) (xs.getD p dEn) = 0) = false) : ddF cfE dEn xs (q + 1) = ddF cfE dEn xs q ++ [xs.getD q dEn] := by
  rw [ddF, if_neg (fun c => by rw [show q - 1 = p by omega] at c; exact of_decide_eq_false h c.2)]
theorem take_snoc {xs : List En} {q : Nat} (h : q < xs.length) : xs.take (q + 1) = xs.take q ++ [xs.getD q dEn] := by
  rw [List.take_add_one, getD_some (d := dEn) h]
  rfl
theorem cp_begin {xs : List En} {k p : Nat} (hp : p + 1 = k) (h : ddF cfE dEn xs k = xs.take k) (g : decide (cfE (xs.getD k dEn) (xs.getD p dEn) = 0) = true) : CpI xs xs k (k + 1) :=
  ⟨rfl, by rw [dd_dup hp g, h], fun _ _ => rfl⟩
theorem cp_skip {xs ys : List En} {kk q p : Nat} (hp : p + 1 = q) (h : CpI xs ys kk q) (g : decide (cfE (xs.getD q dEn) (xs.getD p dEn) = 0) = true) : CpI xs ys kk (q + 1) :=
  ⟨h.1, by rw [dd_dup hp g, h.2.1], fun t ht => h.2.2 t (by omega)⟩
theorem cp_put {xs ys : List En} {kk q p : Nat} (hp : p + 1 = q) (h : CpI xs ys kk q) (hk : kk < q) (hq : q < xs.length) (g : decide (cfE (xs.getD q dEn) (xs.getD p dEn) = 0) = false) : CpI xs (ys.set kk (ys.getD q dEn)) (kk + 1) (q + 1) := by
  have hl := h.1
  refine ⟨by simpa using hl, ?_, fun t ht => ?_⟩
  · rw [dd_new hp g, ← h.2.1, ← h.2.2 q (by omega), take_snoc (by rw [List.length_set]; omega), List.take_set_of_le (Nat.le_refl _)]
    congr 1
    rw [List.getD_eq_getElem?_getD, List.getElem?_set, if_pos rfl, if_pos (by omega)]
    rfl
  · rw [← h.2.2 t (by omega), List.getD_eq_getElem?_getD, List.getElem?_set, if_neg (by omega), ← List.getD_eq_getElem?_getD]

set_option maxRecDepth 8000 in
theorem zero_en {S : Snap} : Rep.R S [.int .i64 0, .string ByteArray.empty, .int .i64 0, .int .i64 0, .int .i64 0, .slice none 0 0, .int .u8 0, .int .u8 0, .int .u8 0, .int .u8 0, .int .u8 0, .int .u8 0, .int .u8 0, .int .u8 0, .int .u8 0, .int .u8 0, .int .u8 0, .int .u8 0, .int .u8 0, .int .u8 0, .int .u8 0, .int .u8 0, .string ByteArray.empty] dEn :=
  prod_mk (cs := [.int .i64 0, .string ByteArray.empty, .int .i64 0, .int .i64 0, .int .i64 0, .slice none 0 0, .int .u8 0, .int .u8 0, .int .u8 0, .int .u8 0, .int .u8 0, .int .u8 0, .int .u8 0, .int .u8 0, .int .u8 0, .int .u8 0, .int .u8 0, .int .u8 0, .int .u8 0, .int .u8 0, .int .u8 0, .int .u8 0])
    (prod_mk (cs := [_]) ⟨rfl, by unfold I64; omega⟩ (prod_mk (cs := [_]) ⟨rfl, by simp [maxLen]⟩ (prod_mk (cs := [_, _, _, _]) (prod_mk (cs := [_]) ⟨rfl, by unfold I64; omega⟩ (prod_mk (cs := [_]) ⟨rfl, by unfold I64; omega⟩ (prod_mk (cs := [_]) ⟨rfl, by unfold I64; omega⟩ (prod_mk (cs := [_]) ⟨_, rfl, .inl ⟨none, 0, rfl, rfl, by simp [maxLen]⟩⟩ unit_mk)))) (prod_mk (cs := [.int .u8 0, .int .u8 0, .int .u8 0, .int .u8 0, .int .u8 0, .int .u8 0, .int .u8 0, .int .u8 0, .int .u8 0, .int .u8 0, .int .u8 0, .int .u8 0, .int .u8 0, .int .u8 0, .int .u8 0, .int .u8 0]) (show Rep.R S (u8s zeroDg.l) zeroDg from ⟨rfl, rl_u8 _⟩) unit_mk))))
    (prod_mk (cs := [_]) ⟨rfl, by simp [maxLen]⟩ unit_mk)

set_option maxRecDepth 8000 in
set_option maxHeartbeats 4000000 in
theorem compact_c {S M} (w : World) (sv : Value) (N : Nat) (xs : List En) (hN : xs.length = N) (c : List Value) (hst : St S (.sl sv 83 23 N c :: M) w) (hR : RL S c xs) (hx : N ≤ 1000000) :
    Rets Tryd.prog 72 [sv, .func (.func 73) #[] #[]] w fun v w' => ∃ S', S.Le S' ∧ RSl S' v (ddF cfE dEn xs N) ∧ St S' M w' := by
  unfold Rets
  have hone := sl_one hst
  have HN := Lib.hid hN
  clear hN
  by_cases hlt2 : N < 2
  · have hE : Hid (ddF cfE dEn xs N = xs) := Lib.hid (by
      match xs, HN.out with
      | [], h => subst h; rfl
      | [x], h => subst h; rfl
      | _ :: _ :: _, h => simp at h; omega)
    go_enter Tryd.func72, Tryd.ntmps72
    repeat' (first | ((fail_if_success (go_big_may)); (go_step)) | (((with_reducible refine Sl.k_call ?_; (refine s_qt hst (by exact qt_len_own evX SlIn.h inX) ?_))) <;> (try refine nX ?_)) | (with_reducible refine Sl.gate rfl ?_; (go_step)))
    refine bodyPost_ret (results_tmp rfl _ _ _) rfl ?_
    obtain ⟨S1, hS1, hst, hv⟩ := St.freeze (α := En) hst hR HN.out.symm
    exact ⟨_, rfl, S1, hS1, by rw [hE.out]; exact hv, hst⟩
  · go_enter Tryd.func72, Tryd.ntmps72
    repeat' (first | ((fail_if_success (go_big_may)); (go_step)) | (((with_reducible refine Sl.k_call ?_; (refine s_qt hst (by exact qt_len_own evX SlIn.h inX) ?_))) <;> (try refine nX ?_)) | (with_reducible refine Sl.gate rfl ?_; (go_step)))
    go_loopw [4, 5, 6, 7] (fun _ v5 _ _ wr => ∃ (k : Nat), (1 ≤ k ∧ k ≤ N) ∧ v5 = .int .i64 k ∧ Hid (ddF cfE dEn xs k = xs.take k) ∧ St S (.sl sv 83 23 N c :: M) wr) (fun _ v _ _ _ => N - (intOf v).toNat)
    case atStart => exact ⟨1, by omega, rfl, Lib.hid (by
      match xs, HN.out with
      | [], h => exact absurd h (by simp; omega)
      | x :: _, _ => rfl), hst⟩
    case round =>
      clear hst
      obtain ⟨k, hk, rfl, hD, hst⟩ := hrel
      by_cases hlt : k < N
      · have hA0 : k < xs.length := by rw [HN.out]; omega
        have hB0 : k - 1 < xs.length := by rw [HN.out]; omega
        have gA := getD_some (d := dEn) hA0
        have gB := getD_some (d := dEn) hB0
        have eb : ((k : Int) - 1).toNat = k - 1 := by omega
        obtain ⟨y, gy⟩ : ∃ y, decide (cfE (xs.getD k dEn) (xs.getD (k - 1) dEn) = 0) = y := ⟨_, rfl⟩
        have cC := fun {S' : Snap} {M : List Chunk} (w : World) (hS : S.Le S') (hst : St S' M w) (c1 c2 : List Value) (h1 : Rep.R S c1 (xs.getD k dEn)) (h2 : Rep.R S c2 (xs.getD (k - 1) dEn)) => Rets.eq (esame_c w hst c1 _ (Rep.mono hS h1) c2 _ (Rep.mono hS h2)) gy
        cases y with
        | false =>
          have hnx := Lib.hid (show ddF cfE dEn xs (k + 1) = xs.take (k + 1) by rw [dd_new (p := k - 1) (by omega) gy, hD.out, take_snoc hA0])
          repeat' ((fail_if_success (with_reducible show Code.wp _ (Code.region 6 _ _) _ _ _)); first | ((fail_if_success (go_big_may)); (go_step)) | (((with_reducible refine Sl.k_call ?_; (refine s_qt hst (by exact qt_len_own evX SlIn.h inX) ?_))) <;> (try refine nX ?_)) | (with_reducible refine Sl.gate rfl ?_; (go_step)))
          refine v_begin hst (by kernel_rfl) ?_; clear hst; intro ops; (try refine nX ?_)
          (refine t_qt 0 rfl (by kernel_rfl) rfl rfl (by exact qt_move evX) ?_) <;> (try refine nX ?_)
          (refine t_qt 1 rfl (by kernel_rfl) rfl rfl (by exact qt_move evX) ?_) <;> (try refine nX ?_)
          (refine t_qt 2 rfl (by kernel_rfl) rfl rfl (by exact qt_move evX) ?_) <;> (try refine nX ?_)
          ((refine t_ex 3 rfl (by kernel_rfl) rfl rfl (fun w hst => qt_index_own hst evX SlIn.h rfl inX inX omX omX ) ?_; rintro  v3 hp3; simp only [Int.toNat_natCast] at hp3)) <;> (try refine nX ?_)
          ((refine t_ex0 4 rfl (by kernel_rfl) rfl rfl (qt_ldR (j := k) evX hp3 SlIn.h hR inX gA ) ?_; rintro  v4 ⟨c4, rfl, hc4⟩)) <;> (try refine nX ?_)
          (refine t_qt 5 rfl (by kernel_rfl) rfl rfl (by exact qt_move evX) ?_) <;> (try refine nX ?_)
          (refine t_qt 6 rfl (by kernel_rfl) rfl rfl (by exact qt_move evX) ?_) <;> (try refine nX ?_)
          (refine t_qt 7 rfl (by kernel_rfl) rfl rfl (by exact qt_sub' rfl rfl omX) ?_) <;> (try refine nX ?_)
          ((refine t_ex 8 rfl (by kernel_rfl) rfl rfl (fun w hst => qt_index_own hst evX SlIn.h rfl inX inX omX omX ) ?_; rintro  v8 hp8; rw [eb] at hp8)) <;> (try refine nX ?_)
          ((refine t_ex0 9 rfl (by kernel_rfl) rfl rfl (qt_ldR (j := k - 1) evX hp8 SlIn.h hR inX gB ) ?_; rintro  v9 ⟨c9, rfl, hc9⟩)) <;> (try refine nX ?_)
          (refine t_callv 10 rfl (by kernel_rfl) rfl (fun S' M' w hS hM hst => cC w hS hst c4 c9 hc4 hc9) rfl inX rfl rfl ?_) <;> (try refine nX ?_)
          refine v_done (by kernel_rfl) ?_; clear ops; intro w hst
          repeat' (first | ((fail_if_success (go_big_may)); (go_step)) | (with_reducible refine Sl.gate rfl ?_; (go_step)))
          go_roundw
          case rel => exact ⟨k + 1, by omega, by go_num, hnx, hst⟩
          case measure => simp [intOf]; omega
        | true =>
          have hnx := Lib.hid (cp_begin (p := k - 1) (by omega) hD.out gy)
          repeat' ((fail_if_success (with_reducible show Code.wp _ (Code.region 6 _ _) _ _ _)); first | ((fail_if_success (go_big_may)); (go_step)) | (((with_reducible refine Sl.k_call ?_; (refine s_qt hst (by exact qt_len_own evX SlIn.h inX) ?_))) <;> (try refine nX ?_)) | (with_reducible refine Sl.gate rfl ?_; (go_step)))
          refine v_begin hst (by kernel_rfl) ?_; clear hst; intro ops; (try refine nX ?_)
          (refine t_qt 0 rfl (by kernel_rfl) rfl rfl (by exact qt_move evX) ?_) <;> (try refine nX ?_)
          (refine t_qt 1 rfl (by kernel_rfl) rfl rfl (by exact qt_move evX) ?_) <;> (try refine nX ?_)
          (refine t_qt 2 rfl (by kernel_rfl) rfl rfl (by exact qt_move evX) ?_) <;> (try refine nX ?_)
          ((refine t_ex 3 rfl (by kernel_rfl) rfl rfl (fun w hst => qt_index_own hst evX SlIn.h rfl inX inX omX omX ) ?_; rintro  v3 hp3; simp only [Int.toNat_natCast] at hp3)) <;> (try refine nX ?_)
          ((refine t_ex0 4 rfl (by kernel_rfl) rfl rfl (qt_ldR (j := k) evX hp3 SlIn.h hR inX gA ) ?_; rintro  v4 ⟨c4, rfl, hc4⟩)) <;> (try refine nX ?_)
          (refine t_qt 5 rfl (by kernel_rfl) rfl rfl (by exact qt_move evX) ?_) <;> (try refine nX ?_)
          (refine t_qt 6 rfl (by kernel_rfl) rfl rfl (by exact qt_move evX) ?_) <;> (try refine nX ?_)
          (refine t_qt 7 rfl (by kernel_rfl) rfl rfl (by exact qt_sub' rfl rfl omX) ?_) <;> (try refine nX ?_)
          ((refine t_ex 8 rfl (by kernel_rfl) rfl rfl (fun w hst => qt_index_own hst evX SlIn.h rfl inX inX omX omX ) ?_; rintro  v8 hp8; rw [eb] at hp8)) <;> (try refine nX ?_)
          ((refine t_ex0 9 rfl (by kernel_rfl) rfl rfl (qt_ldR (j := k - 1) evX hp8 SlIn.h hR inX gB ) ?_; rintro  v9 ⟨c9, rfl, hc9⟩)) <;> (try refine nX ?_)
          (refine t_callv 10 rfl (by kernel_rfl) rfl (fun S' M' w hS hM hst => cC w hS hst c4 c9 hc4 hc9) rfl inX rfl rfl ?_) <;> (try refine nX ?_)
          refine v_done (by kernel_rfl) ?_; clear ops; intro w hst
          clear cC gA gB gy eb hD
          repeat' (first | (((with_reducible (refine s_ex hst (qt_tail (a := k) hst evX SlIn.h rfl inX inX hlt) ?_; rintro tv ht))) <;> (try refine nX ?_)) | ((fail_if_success (go_big_may)); (go_step)))
          go_loopw [5, 7] (fun v5 v7 wr => ∃ (kk k2 : Nat) (c' : List Value) (ys : List En), (1 ≤ kk ∧ 1 ≤ k2 ∧ kk + 1 ≤ k + k2 ∧ k + k2 ≤ N) ∧ v5 = .int .i64 kk ∧ v7 = .int .i64 k2 ∧ RL S c' ys ∧ Hid (CpI xs ys kk (k + k2)) ∧ St S (.sl sv 83 23 N c' :: M) wr) (fun _ v _ => N - (intOf v).toNat)
          case atStart => exact ⟨k, 1, c, xs, by omega, rfl, rfl, hR, hnx, hst⟩
          case round =>
            clear hst hR hnx
            obtain ⟨kk, k2, c', ys, hkk, rfl, rfl, hR, hI, hst⟩ := hrel
            have hyl : ys.length = N := hI.out.1.trans HN.out
            obtain ⟨q, hq⟩ : ∃ q : Nat, k + k2 ≤ q ∧ q ≤ k + k2 := ⟨k + k2, by omega⟩
            obtain ⟨p, hp⟩ : ∃ p : Nat, p + 1 ≤ q ∧ q ≤ p + 1 := ⟨q - 1, by omega⟩
            have eQ : Hid (k + k2 = q) := Lib.hid (by omega)
            have hI : Hid (CpI xs ys kk q) := Lib.hid (by rw [← eQ.out]; exact hI.out)
            by_cases hlt3 : k2 < N - k
            · have hA1 : q < ys.length := by omega
              have hB1 : p < ys.length := by omega
              have gA := getD_some (d := dEn) hA1
              have gB := getD_some (d := dEn) hB1
              have eq1 : k * 23 + (k2 : Int).toNat * 23 = q * 23 := by omega
              have eq2 : k * 23 + ((k2 : Int) - 1).toNat * 23 = p * 23 := by omega
              have hg1 : ys.getD q dEn = xs.getD q dEn := hI.out.2.2 q (by omega)
              have hg2 : ys.getD p dEn = xs.getD p dEn := hI.out.2.2 p (by omega)
              obtain ⟨y, gy⟩ : ∃ y, decide (cfE (ys.getD q dEn) (ys.getD p dEn) = 0) = y := ⟨_, rfl⟩
              have gy' := gy
              rw [hg1, hg2] at gy'
              clear hg1 hg2
              have cC := fun {S' : Snap} {M : List Chunk} (w : World) (hS : S.Le S') (hst : St S' M w) (c1 c2 : List Value) (h1 : Rep.R S c1 (ys.getD q dEn)) (h2 : Rep.R S c2 (ys.getD p dEn)) => Rets.eq (esame_c w hst c1 _ (Rep.mono hS h1) c2 _ (Rep.mono hS h2)) gy
              cases y with
              | true =>
                have hnx := Lib.hid (cp_skip (p := p) (by omega) hI.out gy')
                clear gy'
                repeat' ((fail_if_success (with_reducible show Code.wp _ (Code.region 11 _ _) _ _ _)); first | (((with_reducible (refine s_qt hst (qt_len_tl evX ht inX) ?_))) <;> (try refine nX ?_)) | ((fail_if_success (go_big_may)); (go_step)) | (with_reducible refine Sl.gate rfl ?_; (go_step)))
                refine v_begin hst (by kernel_rfl) ?_; clear hst; intro ops; (try refine nX ?_)
                (refine t_qt 0 rfl (by kernel_rfl) rfl rfl (by exact qt_move evX) ?_) <;> (try refine nX ?_)
                (refine t_qt 1 rfl (by kernel_rfl) rfl rfl (by exact qt_move evX) ?_) <;> (try refine nX ?_)
                (refine t_qt 2 rfl (by kernel_rfl) rfl rfl (by exact qt_move evX) ?_) <;> (try refine nX ?_)
                ((refine t_ex0 3 rfl (by kernel_rfl) rfl rfl (qt_index_tl evX ht rfl inX inX omX omX ) ?_; rintro  v3 hp3; rw [eq1] at hp3)) <;> (try refine nX ?_)
                ((refine t_ex0 4 rfl (by kernel_rfl) rfl rfl (qt_ldR (j := q) evX hp3 SlIn.h hR inX gA ) ?_; rintro  v4 ⟨c4, rfl, hc4⟩)) <;> (try refine nX ?_)
                (refine t_qt 5 rfl (by kernel_rfl) rfl rfl (by exact qt_move evX) ?_) <;> (try refine nX ?_)
                (refine t_qt 6 rfl (by kernel_rfl) rfl rfl (by exact qt_move evX) ?_) <;> (try refine nX ?_)
                (refine t_qt 7 rfl (by kernel_rfl) rfl rfl (by exact qt_sub' rfl rfl omX) ?_) <;> (try refine nX ?_)
                ((refine t_ex0 8 rfl (by kernel_rfl) rfl rfl (qt_index_tl evX ht rfl inX inX omX omX ) ?_; rintro  v8 hp8; rw [eq2] at hp8)) <;> (try refine nX ?_)
                ((refine t_ex0 9 rfl (by kernel_rfl) rfl rfl (qt_ldR (j := p) evX hp8 SlIn.h hR inX gB ) ?_; rintro  v9 ⟨c9, rfl, hc9⟩)) <;> (try refine nX ?_)
                (refine t_callv 10 rfl (by kernel_rfl) rfl (fun S' M' w hS hM hst => cC w hS hst c4 c9 hc4 hc9) rfl inX rfl rfl ?_) <;> (try refine nX ?_)
                (refine t_qt 11 rfl (by kernel_rfl) rfl rfl (by exact qt_not rfl) ?_) <;> (try refine nX ?_)
                refine v_done (by kernel_rfl) ?_; clear ops; intro w hst
                repeat' (first | ((fail_if_success (go_big_may)); (go_step)) | (with_reducible refine Sl.gate rfl ?_; (go_step)))
                go_roundw
                case rel => exact ⟨kk, k2 + 1, c', ys, by omega, rfl, by go_num, hR, by rw [show k + (k2 + 1) = q + 1 by omega]; exact hnx, hst⟩
                case measure => simp [intOf]; omega
              | false =>
                have hkl : kk < ys.length := by omega
                have hnx := Lib.hid (cp_put (p := p) (by omega) hI.out (by omega) (by rw [HN.out]; omega) gy')
                clear gy'
                repeat' ((fail_if_success (with_reducible show Code.wp _ (Code.region 11 _ _) _ _ _)); first | (((with_reducible (refine s_qt hst (qt_len_tl evX ht inX) ?_))) <;> (try refine nX ?_)) | ((fail_if_success (go_big_may)); (go_step)) | (with_reducible refine Sl.gate rfl ?_; (go_step)))
                refine v_begin hst (by kernel_rfl) ?_; clear hst; intro ops; (try refine nX ?_)
                (refine t_qt 0 rfl (by kernel_rfl) rfl rfl (by exact qt_move evX) ?_) <;> (try refine nX ?_)
                (refine t_qt 1 rfl (by kernel_rfl) rfl rfl (by exact qt_move evX) ?_) <;> (try refine nX ?_)
                (refine t_qt 2 rfl (by kernel_rfl) rfl rfl (by exact qt_move evX) ?_) <;> (try refine nX ?_)
                ((refine t_ex0 3 rfl (by kernel_rfl) rfl rfl (qt_index_tl evX ht rfl inX inX omX omX ) ?_; rintro  v3 hp3; rw [eq1] at hp3)) <;> (try refine nX ?_)
                ((refine t_ex0 4 rfl (by kernel_rfl) rfl rfl (qt_ldR (j := q) evX hp3 SlIn.h hR inX gA ) ?_; rintro  v4 ⟨c4, rfl, hc4⟩)) <;> (try refine nX ?_)
                (refine t_qt 5 rfl (by kernel_rfl) rfl rfl (by exact qt_move evX) ?_) <;> (try refine nX ?_)
                (refine t_qt 6 rfl (by kernel_rfl) rfl rfl (by exact qt_move evX) ?_) <;> (try refine nX ?_)
                (refine t_qt 7 rfl (by kernel_rfl) rfl rfl (by exact qt_sub' rfl rfl omX) ?_) <;> (try refine nX ?_)
                ((refine t_ex0 8 rfl (by kernel_rfl) rfl rfl (qt_index_tl evX ht rfl inX inX omX omX ) ?_; rintro  v8 hp8; rw [eq2] at hp8)) <;> (try refine nX ?_)
                ((refine t_ex0 9 rfl (by kernel_rfl) rfl rfl (qt_ldR (j := p) evX hp8 SlIn.h hR inX gB ) ?_; rintro  v9 ⟨c9, rfl, hc9⟩)) <;> (try refine nX ?_)
                (refine t_callv 10 rfl (by kernel_rfl) rfl (fun S' M' w hS hM hst => cC w hS hst c4 c9 hc4 hc9) rfl inX rfl rfl ?_) <;> (try refine nX ?_)
                (refine t_qt 11 rfl (by kernel_rfl) rfl rfl (by exact qt_not rfl) ?_) <;> (try refine nX ?_)
                refine v_done (by kernel_rfl) ?_; clear ops; intro w hst
                clear cC
                repeat' (first | ((first | (with_reducible (refine s_ex hst (qt_index_tl evX ht rfl inX inX omX omX) ?_; rintro v54 hp54; rw [eq1] at hp54)) | (with_reducible (refine s_ex hst (qt_ldR (j := q) evX hp54 SlIn.h hR inX gA) ?_; rintro v55 ⟨cl, rfl, hcl⟩)) | (with_reducible (refine s_ex hst (qt_index_own hst evX SlIn.h rfl inX inX omX omX) ?_; rintro v56 hp56; simp only [Int.toNat_natCast] at hp56))) <;> (try refine nX ?_)) | ((fail_if_success (go_big_may)); (go_step)))
                refine s_store_own (u := .agg cl.toArray) (cs := cl) hst evX hp56 SlIn.h inX evX rfl (Rep.len hcl) (List.all_eq_true.2 (Rep.one hcl)) (RL.at_len hR hkl) ?_
                clear hst; intro w hst
                (try refine nX ?_)
                (try replace hst := nH hst)
                have hq2 := RL.set hR hcl hkl
                repeat' (first | ((fail_if_success (go_big_may)); (go_step)) | (with_reducible refine Sl.gate rfl ?_; (go_step)))
                go_roundw
                case rel => exact ⟨kk + 1, k2 + 1, _, _, by omega, by go_num, by go_num, hq2, by rw [show k + (k2 + 1) = q + 1 by omega]; exact hnx, hst⟩
                case measure => simp [intOf]; omega
            · have e : q = N := by omega
              have hkN : kk < N := by omega
              have hE := Lib.hid (show ys.take kk = ddF cfE dEn xs N by rw [← e]; exact hI.out.2.1)
              clear e
              repeat' ((fail_if_success (with_reducible show Code.wp _ (Code.region 14 _ _) _ _ _)); first | (((with_reducible (refine s_qt hst (qt_len_tl evX ht inX) ?_))) <;> (try refine nX ?_)) | ((fail_if_success (go_big_may)); (go_step)) | (with_reducible refine Sl.gate rfl ?_; (go_step)))
              repeat' ((fail_if_success (with_reducible show Code.wp _ (Code.region 15 _ _) _ _ _)); first | (((with_reducible (refine s_ex hst (qt_tail (a := kk) hst evX SlIn.h rfl inX inX hkN) ?_; rintro tw ht2))) <;> (try refine nX ?_)) | ((fail_if_success (go_big_may)); (go_step)))
              refine s_clear_tl hst evX ht2 SlIn.h inX inX (by rfl) (by omega) hkN ?_
              clear hst; intro w hst
              (try refine nX ?_)
              (try replace hst := nH hst)
              have hq2 := (hR.sub 0 kk (by omega)).append (RL.reps zero_en (N - kk))
              rw [Nat.zero_mul, List.drop_zero, List.drop_zero] at hq2
              obtain ⟨S1, hS1, hst, hv⟩ := St.freeze (α := En) hst hq2 (by rw [List.length_append, List.length_replicate, List.length_take]; omega)
              have hl2 : kk ≤ (ys.take kk ++ List.replicate (N - kk) dEn).length := by rw [List.length_append, List.length_take]; omega
              repeat' (((fail_if_success (go_big_may)); (go_step)))
              refine s_ex hst (qt_slice (a := 0) (b := kk) evX hv inX inX (.inl ⟨rfl, rfl⟩) (.inr ⟨.i64, by simp [evF, nth]⟩) (.inl rfl) (by omega) hl2) ?_
              rintro v6 hv6
              repeat' (((fail_if_success (go_big_may)); (go_step)))
              refine bodyPost_ret (results_tmp rfl _ _ _) rfl ?_
              refine ⟨_, rfl, S1, hS1, ?_, hst⟩
              rw [← hE.out]
              have e1 : ((ys.take kk ++ List.replicate (N - kk) dEn).drop 0).take (kk - 0) = ys.take kk := by
                rw [List.drop_zero, Nat.sub_zero, List.take_append_of_le_length (by rw [List.length_take]; omega), List.take_take, Nat.min_self]
              rw [e1] at hv6
              exact hv6
      · have e : k = N := by omega
        have hE := Lib.hid (show ddF cfE dEn xs N = xs by rw [← e, hD.out, e, ← HN.out, List.take_length])
        clear e
        repeat' (first | ((fail_if_success (go_big_may)); (go_step)) | (((with_reducible refine Sl.k_call ?_; (refine s_qt hst (by exact qt_len_own evX SlIn.h inX) ?_))) <;> (try refine nX ?_)) | (with_reducible refine Sl.gate rfl ?_; (go_step)))
        refine bodyPost_ret (results_tmp rfl _ _ _) rfl ?_
        obtain ⟨S1, hS1, hst, hv⟩ := St.freeze (α := En) hst hR HN.out.symm
        exact ⟨_, rfl, S1, hS1, by rw [hE.out]; exact hv, hst⟩
end Go.Proofs.YtjapdhaimbalkaaDoor
