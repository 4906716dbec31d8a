/- Package wire: plain mathematics: what was encoded is decoded. -/
import Derived.Test.YtncffjdmcalioaaV8
namespace Go.Proofs.Ytncffjdmcalioaa
set_option linter.unusedSimpArgs false
set_option linter.unusedVariables false
open Go.RowKit Go.Sl

theorem unzig_zig {n : Int} : unzig (zig n) = n := by
  unfold unzig zig
  split <;> split <;> omega

theorem getF_encF : ∀ (f k v U : Nat) (tail : List UInt8), f + k = 10 → 1 ≤ f → v < 128 ^ f → (0 < k → 0 < v) → U + v * 2 ^ (7 * k) < 2 ^ 64 →
    getF f k U (encF f v ++ tail) = (unzig (U + v * 2 ^ (7 * k)), k + (encF f v).length, 0)
  | 0, _, _, _, _, _, h, _, _, _ => by omega
  | f + 1, k, v, U, tail, hk, _, hv, h0, hlt => by
    by_cases hs : v < 128
    · rw [encF_one hs]
      have hc : (UInt8.ofNat v).toNat = v := by rw [UInt8.toNat_ofNat']; omega
      have hk9 : ¬ (k = 9 ∧ 1 < v) := by
        rintro ⟨rfl, h⟩
        have : 2 * 2 ^ (7 * 9) ≤ v * 2 ^ (7 * 9) := Nat.mul_le_mul_right _ h
        omega
      show getF (f + 1) k U (UInt8.ofNat v :: tail) = _
      rw [getF_ok (by rw [hc]; omega) (by rw [hc]; rintro (⟨h1, h2⟩ | h); exact absurd (h0 h2) (by omega); exact hk9 h), hc, Nat.mod_eq_of_lt hs]
      rfl
    · rw [encF_more hs]
      have hc : (UInt8.ofNat (128 + v % 128)).toNat = 128 + v % 128 := by rw [UInt8.toNat_ofNat']; omega
      show getF (f + 1) k U (UInt8.ofNat (128 + v % 128) :: (encF f (v / 128) ++ tail)) = _
      have hf : 1 ≤ f := by
        rcases Nat.eq_zero_or_pos f with rfl | h
        · simp at hv; omega
        · exact h
      have e : U + v % 128 * 2 ^ (7 * k) + v / 128 * 2 ^ (7 * (k + 1)) = U + v * 2 ^ (7 * k) := by
        rw [Nat.mul_succ, Nat.pow_add, Nat.mul_comm (2 ^ (7 * k)), ← Nat.mul_assoc, Nat.add_assoc, ← Nat.add_mul]
        congr 2
        omega
      rw [getF_more (by rw [hc]; omega), hc, show (128 + v % 128) % 128 = v % 128 by omega,
        getF_encF f (k + 1) (v / 128) _ tail (by omega) hf (Nat.div_lt_of_lt_mul (by rw [← Nat.pow_succ']; exact hv)) (fun _ => by omega) (by rw [e]; exact hlt), e]
      simp only [List.length_cons]
      congr 2
      omega

/-- Decoding the encoding of an integer, whatever follows it. -/
theorem getI_encI {n : Int} (hn : I64 n) (tail : List UInt8) : getI (encI n ++ tail) = (n, (encI n).length, 0) := by
  have hz := zig_lt hn
  have := getF_encF 10 0 (zig n) 0 tail rfl (by omega) (Nat.lt_trans hz pow10) (fun h => by omega) (by simpa using hz)
  unfold getI encI
  rw [this]
  simp [unzig_zig]

theorem encI_app {m n : Int} (hm : I64 m) (hn : I64 n) {a b : List UInt8} (h : encI m ++ a = encI n ++ b) : m = n ∧ a = b := by
  have h1 := getI_encI hm a
  rw [h, getI_encI hn b] at h1
  have e : n = m := congrArg Prod.fst h1
  subst e
  exact ⟨rfl, List.append_cancel_left h⟩

theorem encI_inj {m n : Int} (hm : I64 m) (hn : I64 n) : encI m = encI n ↔ m = n :=
  ⟨fun h => (encI_app (a := []) (b := []) hm hn (by rw [h])).1, fun h => by rw [h]⟩

theorem flat_inj : ∀ {a b : List Int}, (∀ x ∈ a, I64 x) → (∀ x ∈ b, I64 x) → a.length = b.length → a.flatMap encI = b.flatMap encI → a = b
  | [], [], _, _, _, _ => rfl
  | x :: a, y :: b, ha, hb, hl, h => by
    rw [List.flatMap_cons, List.flatMap_cons] at h
    obtain ⟨rfl, h'⟩ := encI_app (ha x (.head _)) (hb y (.head _)) h
    rw [flat_inj (fun z hz => ha z (.tail _ hz)) (fun z hz => hb z (.tail _ hz)) (by simpa using hl) h']

theorem encL_inj {a b : List Int} (ha : ∀ x ∈ a, I64 x) (hb : ∀ x ∈ b, I64 x) (hla : a.length ≤ 1048576) (hlb : b.length ≤ 1048576) : encL a = encL b ↔ a = b := by
  constructor
  · intro h
    obtain ⟨h1, h2⟩ := encI_app (nat_i64 hla) (nat_i64 hlb) h
    exact flat_inj ha hb (by omega) h2
  · rintro rfl; rfl
end Go.Proofs.Ytncffjdmcalioaa
