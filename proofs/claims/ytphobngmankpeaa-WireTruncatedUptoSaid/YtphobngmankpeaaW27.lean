/- Package wire: plain mathematics: what is cut short is told as cut short. -/
import Derived.Test.YtphobngmankpeaaW14
namespace Go.Proofs.Ytphobngmankpeaa
set_option linter.unusedSimpArgs false
set_option linter.unusedVariables false
open Go.RowKit Go.Sl

theorem dflat_len : ∀ {d : List Dg}, (∀ x ∈ d, x.l.length = 16) → (d.flatMap (·.l)).length = 16 * d.length
  | [], _ => rfl
  | x :: d, h => by
    have := dflat_len fun y hy => h y (.tail _ hy)
    have := h x (.head _)
    simp only [List.flatMap_cons, List.length_append, List.length_cons]; omega

theorem getF_cut : ∀ (f k v U i : Nat), i < (encF f v).length → getF f k U ((encF f v).take i) = (0, 0, 6)
  | 0, _, _, _, i, h => by simp [encF] at h
  | f + 1, k, v, U, 0, _ => by rw [List.take_zero]; rfl
  | f + 1, k, v, U, i + 1, h => by
    by_cases hs : v < 128
    · rw [encF_one hs] at h; simp at h
    · rw [encF_more hs] at h ⊢
      have hc : (UInt8.ofNat (128 + v % 128)).toNat = 128 + v % 128 := by rw [UInt8.toNat_ofNat']; omega
      rw [List.take_succ_cons, getF_more (by rw [hc]; omega), getF_cut f (k + 1) (v / 128) _ i (by simpa using h)]
theorem getI_cut {n : Int} {i : Nat} (h : i < (encI n).length) : getI ((encI n).take i) = (0, 0, 6) := getF_cut 10 0 (zig n) 0 i h

theorem take_app {a b : List UInt8} {i : Nat} (h : a.length ≤ i) : (a ++ b).take i = a ++ b.take (i - a.length) := by
  rw [List.take_append, List.take_of_length_le h]

/-- A length ahead of too little. -/
theorem countP_cut {n s : Nat} {r : List UInt8} {i : Nat} (hn : n ≤ 1048576) (hs : 1 ≤ s) (hi : i < (encI n).length + r.length) (hr : r.length ≤ n * s) : (countP s ((encI n ++ r).take i)).2.2 = 6 := by
  by_cases h : i < (encI n).length
  · rw [List.take_append_of_le_length (by omega)]
    unfold countP
    rw [getI_cut h]
    rfl
  · rw [take_app (by omega)]
    have hg := getI_encI (nat_i64 hn) (r.take (i - (encI (n : Int)).length))
    have hd : ((encI (n : Int) ++ r.take (i - (encI (n : Int)).length)).length - (encI (n : Int)).length) / s < n := by
      rw [List.length_append, Nat.add_sub_cancel_left, List.length_take]
      exact (Nat.div_lt_iff_lt_mul hs).2 (by omega)
    unfold countP
    rw [hg]
    simp only []
    rw [if_neg (by simp), if_neg (by omega), if_pos (by omega)]

theorem getB_cut {s : List UInt8} {i : Nat} (hs : s.length ≤ 1048576) (h : i < (encB s).length) : (getB ((encB s).take i)).2.2 = 6 := by
  have hc : (countP 1 ((encB s).take i)).2.2 = 6 := countP_cut hs (Nat.le_refl _) (by unfold encB at h; rwa [List.length_append] at h) (by simp)
  unfold getB
  rw [if_pos (by rw [hc]; simp)]
  exact hc
theorem getDg_cut {d : List Dg} {i : Nat} (hd : d.length ≤ 1048576) (hx : ∀ x ∈ d, x.l.length = 16) (h : i < (encD d).length) : (getDg ((encD d).take i)).2.2 = 6 := by
  have hl := dflat_len hx
  have hc : (countP 16 ((encD d).take i)).2.2 = 6 := countP_cut hd (by omega) (by unfold encD at h; rwa [List.length_append] at h) (by omega)
  unfold getDg
  rw [if_pos (by rw [hc]; simp)]
  exact hc

theorem getLF_cut : ∀ (l : List Int) (b : List UInt8) (a j : Nat) (out : List Int), (∀ x ∈ l, I64 x) → b.drop a = (l.flatMap encI).take j → j < (l.flatMap encI).length → (getLF l.length b a out).2.2 = 6
  | [], _, _, _, _, _, _, h => by simp at h
  | x :: l, b, a, j, out, hx, hd, hj => by
    show (getLF (l.length + 1) b a out).2.2 = 6
    rw [List.flatMap_cons] at hd hj
    unfold getLF
    by_cases h : j < (encI x).length
    · rw [List.take_append_of_le_length (by omega)] at hd
      rw [hd, getI_cut h]
      rfl
    · rw [take_app (by omega)] at hd
      rw [List.length_append] at hj
      rw [hd, getI_encI (hx x (.head _))]
      simp only []
      rw [if_neg (by simp)]
      exact getLF_cut l b _ (j - (encI x).length) _ (fun y hy => hx y (.tail _ hy)) (by rw [← List.drop_drop, hd, List.drop_left]) (by omega)
theorem getL_cut {l : List Int} {i : Nat} (hl : l.length ≤ 1048576) (hx : ∀ x ∈ l, I64 x) (h : i < (encL l).length) : (getL ((encL l).take i)).2.2 = 6 := by
  unfold encL at h ⊢
  rw [List.length_append] at h
  by_cases h1 : i < (encI l.length).length
  · rw [List.take_append_of_le_length (by omega)]
    have hc : (countP 1 ((encI l.length).take i)).2.2 = 6 := by unfold countP; rw [getI_cut h1]; rfl
    unfold getL
    rw [if_pos (by rw [hc]; simp)]
    exact hc
  · rw [take_app (by omega)]
    have hg := getI_encI (nat_i64 hl) ((l.flatMap encI).take (i - (encI (l.length : Int)).length))
    generalize hr : (l.flatMap encI).take (i - (encI (l.length : Int)).length) = r at *
    by_cases hcc : ((((encI (l.length : Int) ++ r).length - (encI (l.length : Int)).length) / 1 : Nat) : Int) < (l.length : Int)
    · have hc : countP 1 (encI (l.length : Int) ++ r) = ((l.length : Int), (encI (l.length : Int)).length, 6) := by
        unfold countP; rw [hg]; simp only []; rw [if_neg (by simp), if_neg (by omega), if_pos hcc]
      unfold getL
      rw [hc]
      rfl
    · have hc : countP 1 (encI (l.length : Int) ++ r) = ((l.length : Int), (encI (l.length : Int)).length, 0) := by
        unfold countP; rw [hg]; simp only []; rw [if_neg (by simp), if_neg (by omega), if_neg hcc]
      unfold getL
      rw [hc]
      simp only []
      rw [if_neg (by simp), Int.toNat_natCast]
      exact getLF_cut l _ _ (i - (encI (l.length : Int)).length) [] hx (by rw [List.drop_left, hr]) (by omega)
end Go.Proofs.Ytphobngmankpeaa
