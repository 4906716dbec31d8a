/- Package wire: plain mathematics: byte strings and lists, encoded and decoded. -/
import Derived.Test.YtncffjdmcalioaaVA
namespace Go.Proofs.Ytncffjdmcalioaa
set_option linter.unusedSimpArgs false
set_option linter.unusedVariables false
open Go.RowKit Go.Sl

theorem encF_pos : ∀ {f u : Nat}, 1 ≤ f → 1 ≤ (encF f u).length
  | 0, _, h => by omega
  | f + 1, u, _ => by unfold encF; split <;> simp
theorem encI_pos (n : Int) : 1 ≤ (encI n).length := encF_pos (by omega)
theorem flat_ge (l : List Int) : l.length ≤ (l.flatMap encI).length := by
  induction l with
  | nil => simp
  | cons x l ih => have := encI_pos x; simp only [List.flatMap_cons, List.length_append, List.length_cons]; omega

theorem countP_enc {n s : Nat} {r : List UInt8} (hn : n ≤ 1048576) (hs : 1 ≤ s) (hr : n * s ≤ r.length) : countP s (encI n ++ r) = ((n : Int), (encI n).length, 0) := by
  have h := getI_encI (nat_i64 hn) r
  have hd : n ≤ ((encI (n : Int) ++ r).length - (encI (n : Int)).length) / s := by
    rw [List.length_append, Nat.add_sub_cancel_left]
    exact (Nat.le_div_iff_mul_le hs).2 hr
  unfold countP
  rw [h]
  simp only []
  rw [if_neg (by simp), if_neg (by omega), if_neg (by omega)]

theorem getB_encB {s t : List UInt8} (hs : s.length ≤ 1048576) : getB (encB s ++ t) = (s, (encB s).length, 0) := by
  have hc : countP 1 (encB s ++ t) = ((s.length : Int), (encI s.length).length, 0) := by
    unfold encB
    rw [List.append_assoc]
    exact countP_enc hs (Nat.le_refl _) (by simp)
  unfold getB
  rw [hc]
  simp only []
  rw [if_neg (by simp)]
  unfold encB
  rw [List.append_assoc, List.drop_left, Int.toNat_natCast, List.take_left, List.length_append]

theorem getLF_enc : ∀ (l : List Int) (b : List UInt8) (a : Nat) (t : List UInt8) (out : List Int), (∀ x ∈ l, I64 x) → b.drop a = l.flatMap encI ++ t → getLF l.length b a out = (out ++ l, a + (l.flatMap encI).length, 0)
  | [], _, _, _, _, _, _ => by simp [getLF]
  | x :: l, b, a, t, out, hx, hd => by
    have e : b.drop a = encI x ++ (l.flatMap encI ++ t) := by rw [hd, List.flatMap_cons, List.append_assoc]
    have hg := getI_encI (hx x (.head _)) (l.flatMap encI ++ t)
    have hd2 : b.drop (a + (encI x).length) = l.flatMap encI ++ t := by rw [← List.drop_drop, e, List.drop_left]
    show getLF (l.length + 1) b a out = _
    unfold getLF
    rw [e, hg]
    simp only []
    rw [if_neg (by simp), getLF_enc l b _ t _ (fun y hy => hx y (.tail _ hy)) hd2]
    simp only [List.append_assoc, List.singleton_append, List.flatMap_cons, List.length_append, Nat.add_assoc]

theorem getL_encL {l : List Int} {t : List UInt8} (hl : l.length ≤ 1048576) (hx : ∀ x ∈ l, I64 x) : getL (encL l ++ t) = (l, (encL l).length, 0) := by
  have e : encL l ++ t = encI l.length ++ (l.flatMap encI ++ t) := by unfold encL; rw [List.append_assoc]
  have hc : countP 1 (encL l ++ t) = ((l.length : Int), (encI l.length).length, 0) := by
    rw [e]
    exact countP_enc hl (Nat.le_refl _) (by have := flat_ge l; rw [List.length_append]; omega)
  unfold getL
  rw [hc]
  simp only []
  rw [if_neg (by simp), Int.toNat_natCast, getLF_enc l _ _ t [] hx (by rw [e, List.drop_left])]
  simp [encL]
end Go.Proofs.Ytncffjdmcalioaa
