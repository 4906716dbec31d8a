/- Packages merkle and manifest, what package directory calls, walked; plain forms. -/
import Derived.Test.YtjapdhaimbalkaaDoorBc
import Derived.Test.YtjapdhaimbalkaaDoorBb
import Derived.Test.YtjapdhaimbalkaaDoorBd

/- Package manifest: plain mathematics: decoders that keep the first error, and their encodings. -/
namespace Go.Proofs.YtjapdhaimbalkaaDoor
set_option linter.unusedSimpArgs false
set_option linter.unusedVariables false
open Go.RowKit Go.Sl

/-- What remains to be decoded, and the first error. -/
abbrev PS := List UInt8 × Nat
/-- A decoder and the encoding that it reads. -/
structure Codec {α : Type} (p : PS → α × PS) (enc : α → List UInt8) (ok : α → Prop) : Prop where
  rt : ∀ x t, ok x → p (enc x ++ t, 0) = (x, (t, 0))
  canon : ∀ b, (p (b, 0)).2.2 = 0 → b = enc (p (b, 0)).1 ++ (p (b, 0)).2.1
  good : ∀ b, b.length ≤ 1048576 → (p (b, 0)).2.2 = 0 → ok (p (b, 0)).1
  stick : ∀ b e, e ≠ 0 → (p (b, e)).2 = (b, e)
  cut : ∀ x i, ok x → i < (enc x).length → (p ((enc x).take i, 0)).2.2 = 6

def nxt {α : Type} (z : α) (get : List UInt8 → α × Nat × Nat) (s : PS) : α × PS :=
  if s.2 ≠ 0 then (z, s) else if (get s.1).2.2 ≠ 0 then (z, (s.1, (get s.1).2.2)) else ((get s.1).1, (s.1.drop (get s.1).2.1, 0))
theorem nxt_codec {α : Type} {z : α} {get : List UInt8 → α × Nat × Nat} {enc : α → List UInt8} {ok : α → Prop} (rt : ∀ x t, ok x → get (enc x ++ t) = (x, (enc x).length, 0))
    (canon : ∀ b x used, get b = (x, used, 0) → used ≤ b.length ∧ enc x = b.take used) (good : ∀ b, b.length ≤ 1048576 → ok (get b).1) (cut : ∀ x i, ok x → i < (enc x).length → (get ((enc x).take i)).2.2 = 6) : Codec (nxt z get) enc ok where
  rt x t h := by simp [nxt, rt x t h]
  canon b h := by
    by_cases e : (get b).2.2 = 0
    · have hc := canon b (get b).1 (get b).2.1 (by rw [← e])
      simp [nxt, e, hc.2]
    · simp [nxt, e] at h
  good b hb h := by
    by_cases e : (get b).2.2 = 0
    · have : (nxt z get (b, 0)).1 = (get b).1 := by simp [nxt, e]
      rw [this]; exact good b hb
    · simp [nxt, e] at h
  stick b e h := by simp [nxt, h]
  cut x i h hi := by simp [nxt, cut x i h hi]
def unitP (s : PS) : Unit × PS := ((), s)
theorem unit_codec : Codec unitP (fun _ => []) (fun _ => True) := ⟨fun _ _ _ => rfl, fun _ _ => rfl, fun _ _ _ => trivial, fun _ _ _ => rfl, fun _ _ _ h => by simp at h⟩
def pairP {α β : Type} (p : PS → α × PS) (q : PS → β × PS) (s : PS) : (α × β) × PS := (((p s).1, (q (p s).2).1), (q (p s).2).2)
theorem take_cat {a b : List UInt8} {i : Nat} (h : a.length ≤ i) : (a ++ b).take i = a ++ b.take (i - a.length) := take_app h
theorem pair_codec {α β : Type} {p : PS → α × PS} {q : PS → β × PS} {e1 : α → List UInt8} {e2 : β → List UInt8} {o1 : α → Prop} {o2 : β → Prop} (c1 : Codec p e1 o1) (c2 : Codec q e2 o2) : Codec (pairP p q) (fun x => e1 x.1 ++ e2 x.2) (fun x => o1 x.1 ∧ o2 x.2) where
  rt x t h := by
    unfold pairP
    rw [List.append_assoc, c1.rt _ _ h.1]
    simp only
    rw [c2.rt _ _ h.2]
  canon b h := by
    unfold pairP at h ⊢
    simp only at h ⊢
    have h1 : (p (b, 0)).2.2 = 0 := by
      rcases Nat.eq_zero_or_pos (p (b, 0)).2.2 with e | e
      · exact e
      · have := c2.stick (p (b, 0)).2.1 (p (b, 0)).2.2 (by omega)
        rw [show ((p (b, 0)).2.1, (p (b, 0)).2.2) = (p (b, 0)).2 from rfl] at this
        rw [this] at h
        exact h
    have k1 := c1.canon b h1
    have e : (p (b, 0)).2 = ((p (b, 0)).2.1, 0) := Prod.ext rfl h1
    rw [e] at h ⊢
    have k2 := c2.canon _ h
    rw [List.append_assoc, ← k2]
    exact k1
  good b hb h := by
    unfold pairP at h ⊢
    simp only at h ⊢
    have h1 : (p (b, 0)).2.2 = 0 := by
      rcases Nat.eq_zero_or_pos (p (b, 0)).2.2 with e | e
      · exact e
      · have := c2.stick (p (b, 0)).2.1 (p (b, 0)).2.2 (by omega)
        rw [show ((p (b, 0)).2.1, (p (b, 0)).2.2) = (p (b, 0)).2 from rfl] at this
        rw [this] at h
        exact h
    have k1 := c1.canon b h1
    have e : (p (b, 0)).2 = ((p (b, 0)).2.1, 0) := Prod.ext rfl h1
    refine ⟨c1.good b hb h1, ?_⟩
    rw [e] at h ⊢
    refine c2.good _ ?_ h
    have := congrArg List.length k1
    rw [List.length_append] at this
    omega
  stick b e h := by
    unfold pairP
    rw [c1.stick b e h]
    exact c2.stick b e h
  cut x i h hi := by
    unfold pairP
    simp only
    rw [List.length_append] at hi
    by_cases hl : i < (e1 x.1).length
    · rw [List.take_append_of_le_length (by omega)]
      have k := c1.cut x.1 i h.1 hl
      have := c2.stick (p ((e1 x.1).take i, 0)).2.1 (p ((e1 x.1).take i, 0)).2.2 (by omega)
      rw [show ((p ((e1 x.1).take i, 0)).2.1, (p ((e1 x.1).take i, 0)).2.2) = (p ((e1 x.1).take i, 0)).2 from rfl] at this
      rw [this]
      exact k
    · rw [take_cat (by omega), c1.rt _ _ h.1]
      exact c2.cut x.2 _ h.2 (by omega)

/-! ### Lists -/
def listF {α : Type} (get : PS → α × PS) : Nat → PS → List α → List α × PS
  | 0, s, out => (out, s)
  | n + 1, s, out => if s.2 ≠ 0 then (out, s) else listF get n (get s).2 (out ++ [(get s).1])
def manyE (n : Int) (s : PS) : PS := if s.2 ≠ 0 then s else if n < 0 then (s.1, 7) else if (s.1.length : Int) < n then (s.1, 6) else s
def listP {α : Type} (get : PS → α × PS) (s : PS) : List α × PS := listF get (nxt 0 getI s).1.toNat (manyE (nxt 0 getI s).1 (nxt 0 getI s).2) []
section
variable {α : Type} {p : PS → α × PS} {enc : α → List UInt8} {ok : α → Prop} (c : Codec p enc ok)
include c
theorem listF_stick : ∀ (n : Nat) (b : List UInt8) (e : Nat) (out : List α), e ≠ 0 → (listF p n (b, e) out).2 = (b, e)
  | 0, _, _, _, _ => rfl
  | n + 1, b, e, out, h => by have := c; simp [listF, h]
theorem listF_rt : ∀ (xs : List α) (t : List UInt8) (out : List α), (∀ x ∈ xs, ok x) → listF p xs.length (xs.flatMap enc ++ t, 0) out = (out ++ xs, (t, 0))
  | [], _, _, _ => by simp [listF]
  | x :: xs, t, out, h => by
    have ih := listF_rt xs t (out ++ [x]) fun y hy => h y (.tail _ hy)
    simp only [List.length_cons, listF, List.flatMap_cons, List.append_assoc]
    rw [c.rt x _ (h x (.head _))]
    simp only [ne_eq, not_true_eq_false, if_false]
    rw [ih]
    simp
theorem listF_canon : ∀ (n : Nat) (b : List UInt8) (out : List α), (listF p n (b, 0) out).2.2 = 0 → ∃ xs, xs.length = n ∧ (listF p n (b, 0) out).1 = out ++ xs ∧ b = xs.flatMap enc ++ (listF p n (b, 0) out).2.1 ∧ (b.length ≤ 1048576 → ∀ x ∈ xs, ok x)
  | 0, b, out, _ => ⟨[], rfl, by simp [listF], by simp [listF], by simp⟩
  | n + 1, b, out, h => by
    simp only [listF, ne_eq, not_true_eq_false, if_false] at h ⊢
    have h1 : (p (b, 0)).2.2 = 0 := by
      rcases Nat.eq_zero_or_pos (p (b, 0)).2.2 with e | e
      · exact e
      · have := listF_stick c n (p (b, 0)).2.1 (p (b, 0)).2.2 (out ++ [(p (b, 0)).1]) (by omega)
        rw [show ((p (b, 0)).2.1, (p (b, 0)).2.2) = (p (b, 0)).2 from rfl] at this
        rw [this] at h
        exact h
    have k1 := c.canon b h1
    have e : (p (b, 0)).2 = ((p (b, 0)).2.1, 0) := Prod.ext rfl h1
    have g1 := fun hb => c.good b hb h1
    rw [e] at h ⊢
    obtain ⟨xs, a1, a2, a3, a4⟩ := listF_canon n _ _ h
    refine ⟨(p (b, 0)).1 :: xs, by simp [a1], by rw [a2]; simp, ?_, ?_⟩
    · rw [List.flatMap_cons, List.append_assoc, ← a3]
      exact k1
    · intro hb x hx
      have := congrArg List.length k1
      rw [List.length_append] at this
      rcases List.mem_cons.1 hx with rfl | hx
      · exact g1 hb
      · exact a4 (by omega) x hx
theorem listF_cut : ∀ (xs : List α) (i : Nat) (out : List α), (∀ x ∈ xs, ok x) → i < (xs.flatMap enc).length → (listF p xs.length ((xs.flatMap enc).take i, 0) out).2.2 = 6
  | [], i, _, _, h => by simp at h
  | x :: xs, i, out, h, hi => by
    simp only [List.length_cons, listF, List.flatMap_cons, ne_eq, not_true_eq_false, if_false]
    rw [List.flatMap_cons, List.length_append] at hi
    have hx := h x (.head _)
    by_cases hl : i < (enc x).length
    · rw [List.take_append_of_le_length (by omega)]
      have k := c.cut x i hx hl
      have := listF_stick c xs.length (p ((enc x).take i, 0)).2.1 (p ((enc x).take i, 0)).2.2 (out ++ [(p ((enc x).take i, 0)).1]) (by omega)
      rw [show ((p ((enc x).take i, 0)).2.1, (p ((enc x).take i, 0)).2.2) = (p ((enc x).take i, 0)).2 from rfl] at this
      rw [this]
      exact k
    · rw [take_cat (by omega), c.rt _ _ hx]
      exact listF_cut xs _ _ (fun y hy => h y (.tail _ hy)) (by omega)
end
end Go.Proofs.YtjapdhaimbalkaaDoor

/- Package manifest: plain mathematics: lists, whole texts. -/
namespace Go.Proofs.YtjapdhaimbalkaaDoor
set_option linter.unusedSimpArgs false
set_option linter.unusedVariables false
open Go.RowKit Go.Sl

theorem getI_i64 (b : List UInt8) : I64 (getI b).1 := (getI_spec b).2.1

theorem int_codec : Codec (nxt 0 getI) encI I64 :=
  nxt_codec (fun x t h => getI_encI h t) (fun _ _ _ h => getI_canon h) (fun b _ => getI_i64 b) (fun _ _ _ hi => by rw [getI_cut hi])
theorem str_codec : Codec (nxt [] getB) encB (fun s => s.length ≤ 1048576) :=
  nxt_codec (fun _ _ h => getB_encB h) (fun _ _ _ h => getB_canon h) (fun b hb => Nat.le_trans (getB_len b) hb) (fun _ _ h hi => getB_cut h hi)
theorem dgs_codec : Codec (nxt [] getDg) encD (fun d => d.length ≤ 1048576 ∧ ∀ x ∈ d, x.l.length = 16) :=
  nxt_codec (fun _ _ h => getDg_encD h.1 h.2) (fun _ _ _ h => getDg_canon h) (fun b hb => ⟨Nat.le_trans (getDg_len b) hb, getDg_16 b⟩) (fun _ _ h hi => getDg_cut h.1 h.2 hi)

theorem fl_len {α : Type} {enc : α → List UInt8} : ∀ {xs : List α}, (∀ x ∈ xs, 1 ≤ (enc x).length) → xs.length ≤ (xs.flatMap enc).length
  | [], _ => by simp
  | x :: xs, h => by
    have := fl_len (xs := xs) fun y hy => h y (.tail _ hy)
    have := h x (.head _)
    rw [List.flatMap_cons, List.length_append, List.length_cons]
    omega
def encLs {α : Type} (enc : α → List UInt8) (xs : List α) : List UInt8 := encI xs.length ++ xs.flatMap enc
theorem list_codec {α : Type} {p : PS → α × PS} {enc : α → List UInt8} {ok : α → Prop} (c : Codec p enc ok) (hpos : ∀ x, 1 ≤ (enc x).length) : Codec (listP p) (encLs enc) (fun xs => (∀ x ∈ xs, ok x) ∧ xs.length ≤ 1048576) where
  rt xs t h := by
    have hn : I64 (xs.length : Int) := by unfold I64; omega
    have hl := fl_len (enc := enc) (xs := xs) fun x _ => hpos x
    unfold listP encLs
    rw [List.append_assoc, int_codec.rt _ _ hn]
    have e : manyE (xs.length : Int) (xs.flatMap enc ++ t, 0) = (xs.flatMap enc ++ t, 0) := by
      unfold manyE
      rw [if_neg (by simp), if_neg (by omega), if_neg (by simp only [List.length_append]; omega)]
    simp only [e, Int.toNat_natCast]
    rw [listF_rt c xs t [] h.1]
    simp
  canon b h := by
    unfold listP at h ⊢
    have hS := fun (n : Nat) (s : PS) (out : List α) (hs : s.2 ≠ 0) => listF_stick c n s.1 s.2 out hs
    have h1 : (manyE (nxt 0 getI (b, 0)).1 (nxt 0 getI (b, 0)).2).2 = 0 := by
      rcases Nat.eq_zero_or_pos (manyE (nxt 0 getI (b, 0)).1 (nxt 0 getI (b, 0)).2).2 with e | e
      · exact e
      · have := hS (nxt 0 getI (b, 0)).1.toNat _ [] (Nat.ne_of_gt e)
        rw [show ((manyE (nxt 0 getI (b, 0)).1 (nxt 0 getI (b, 0)).2).1, (manyE (nxt 0 getI (b, 0)).1 (nxt 0 getI (b, 0)).2).2) = manyE (nxt 0 getI (b, 0)).1 (nxt 0 getI (b, 0)).2 from rfl] at this
        rw [this] at h
        exact h
    have h2 : (nxt 0 getI (b, 0)).2.2 = 0 ∧ 0 ≤ (nxt 0 getI (b, 0)).1 ∧ manyE (nxt 0 getI (b, 0)).1 (nxt 0 getI (b, 0)).2 = (nxt 0 getI (b, 0)).2 := by
      unfold manyE at h1 ⊢
      split at h1
      · rename_i hh; exact absurd h1 hh
      · rename_i hh
        split at h1
        · cases h1
        · split at h1
          · cases h1
          · exact ⟨by simpa using hh, by omega, by rw [if_neg hh]; rw [if_neg (by assumption), if_neg (by assumption)]⟩
    obtain ⟨a1, a2, a3⟩ := h2
    have k1 := int_codec.canon b a1
    rw [a3] at h ⊢
    have e : (nxt 0 getI (b, 0)).2 = ((nxt 0 getI (b, 0)).2.1, 0) := Prod.ext rfl a1
    rw [e] at h ⊢
    obtain ⟨xs, b1, b2, b3, _⟩ := listF_canon c _ _ _ h
    rw [b2, List.nil_append]
    unfold encLs
    rw [List.append_assoc, ← b3, b1, Int.toNat_of_nonneg a2]
    exact k1
  good b hb h := by
    unfold listP at h ⊢
    have hS := fun (n : Nat) (s : PS) (out : List α) (hs : s.2 ≠ 0) => listF_stick c n s.1 s.2 out hs
    have h1 : (manyE (nxt 0 getI (b, 0)).1 (nxt 0 getI (b, 0)).2).2 = 0 := by
      rcases Nat.eq_zero_or_pos (manyE (nxt 0 getI (b, 0)).1 (nxt 0 getI (b, 0)).2).2 with e | e
      · exact e
      · have := hS (nxt 0 getI (b, 0)).1.toNat _ [] (Nat.ne_of_gt e)
        rw [show ((manyE (nxt 0 getI (b, 0)).1 (nxt 0 getI (b, 0)).2).1, (manyE (nxt 0 getI (b, 0)).1 (nxt 0 getI (b, 0)).2).2) = manyE (nxt 0 getI (b, 0)).1 (nxt 0 getI (b, 0)).2 from rfl] at this
        rw [this] at h
        exact h
    have h2 : (nxt 0 getI (b, 0)).2.2 = 0 ∧ (0 ≤ (nxt 0 getI (b, 0)).1 ∧ (nxt 0 getI (b, 0)).1 ≤ ((nxt 0 getI (b, 0)).2.1.length : Int)) ∧ manyE (nxt 0 getI (b, 0)).1 (nxt 0 getI (b, 0)).2 = (nxt 0 getI (b, 0)).2 := by
      unfold manyE at h1 ⊢
      split at h1
      · rename_i hh; exact absurd h1 hh
      · rename_i hh
        split at h1
        · cases h1
        · split at h1
          · cases h1
          · exact ⟨by simpa using hh, ⟨by omega, by omega⟩, by rw [if_neg hh]; rw [if_neg (by assumption), if_neg (by assumption)]⟩
    obtain ⟨a1, ⟨a2, a4⟩, a3⟩ := h2
    have k1 := congrArg List.length (int_codec.canon b a1)
    rw [List.length_append] at k1
    rw [a3] at h ⊢
    have e : (nxt 0 getI (b, 0)).2 = ((nxt 0 getI (b, 0)).2.1, 0) := Prod.ext rfl a1
    rw [e] at h ⊢
    obtain ⟨xs, b1, b2, b3, b4⟩ := listF_canon c _ _ _ h
    rw [b2, List.nil_append]
    exact ⟨b4 (by omega), by omega⟩
  stick b e h := by
    unfold listP
    have e1 : nxt 0 getI (b, e) = (0, (b, e)) := by simp [nxt, h]
    have e2 : manyE 0 (b, e) = (b, e) := by simp [manyE, h]
    rw [e1]
    simp only [e2]
    exact listF_stick c _ _ _ _ h
  cut xs i h hi := by
    have hn : I64 (xs.length : Int) := by unfold I64; omega
    unfold listP encLs
    unfold encLs at hi
    rw [List.length_append] at hi
    by_cases hl : i < (encI xs.length).length
    · rw [List.take_append_of_le_length (by omega)]
      have k := int_codec.cut _ i hn hl
      have e : manyE (nxt 0 getI ((encI (xs.length : Int)).take i, 0)).1 (nxt 0 getI ((encI (xs.length : Int)).take i, 0)).2 = (nxt 0 getI ((encI (xs.length : Int)).take i, 0)).2 := by
        unfold manyE; rw [if_pos (by omega)]
      rw [e]
      have := listF_stick c (nxt 0 getI ((encI (xs.length : Int)).take i, 0)).1.toNat (nxt 0 getI ((encI (xs.length : Int)).take i, 0)).2.1 (nxt 0 getI ((encI (xs.length : Int)).take i, 0)).2.2 [] (by omega)
      rw [show ((nxt 0 getI ((encI (xs.length : Int)).take i, 0)).2.1, (nxt 0 getI ((encI (xs.length : Int)).take i, 0)).2.2) = (nxt 0 getI ((encI (xs.length : Int)).take i, 0)).2 from rfl] at this
      rw [this]
      exact k
    · rw [take_cat (by omega), int_codec.rt _ _ hn]
      simp only [Int.toNat_natCast]
      generalize hr : (xs.flatMap enc).take (i - (encI xs.length).length) = r
      unfold manyE
      rw [if_neg (by simp), if_neg (by omega)]
      split
      · have := listF_stick c xs.length r 6 [] (by omega)
        rw [this]
      · rw [← hr]
        exact listF_cut c xs _ [] h.1 (by omega)

/-! ### Whole texts -/
def decP {α : Type} (p : PS → α × PS) (z : α) (b : List UInt8) : α × Nat :=
  if (p (b, 0)).2.2 ≠ 0 then (z, (p (b, 0)).2.2) else if (p (b, 0)).2.1 ≠ [] then (z, 7) else ((p (b, 0)).1, 0)
section
variable {α : Type} {p : PS → α × PS} {enc : α → List UInt8} {ok : α → Prop} {z : α} (c : Codec p enc ok)
include c
theorem dec_rt {x : α} (h : ok x) : decP p z (enc x) = (x, 0) := by
  have := c.rt x [] h
  rw [List.append_nil] at this
  simp [decP, this]
theorem dec_canon {b : List UInt8} (h : (decP p z b).2 = 0) : enc (decP p z b).1 = b := by
  unfold decP at h ⊢
  split at h
  · rename_i hh; exact absurd h hh
  · rename_i hh
    rw [if_neg hh]
    split at h
    · cases h
    · rename_i h2
      rw [if_neg h2]
      have k := c.canon b (by simpa using hh)
      rw [show (p (b, 0)).2.1 = [] by simpa using h2, List.append_nil] at k
      exact k.symm
theorem dec_cut {x : α} {i : Nat} (h : ok x) (hi : i < (enc x).length) : (decP p z ((enc x).take i)).2 = 6 := by
  have k := c.cut x i h hi
  unfold decP
  rw [if_pos (by omega)]
  exact k
theorem dec_more {x : α} {t : List UInt8} (h : ok x) (ht : t ≠ []) : (decP p z (enc x ++ t)).2 = 7 := by
  simp [decP, c.rt x t h, ht]
theorem enc_inj {x y : α} (h : ok x) (k : ok y) : enc x = enc y ↔ x = y := by
  refine ⟨fun e => ?_, fun e => by rw [e]⟩
  have h1 := c.rt x [] h
  rw [e, c.rt y [] k] at h1
  exact (congrArg Prod.fst h1).symm
end
end Go.Proofs.YtjapdhaimbalkaaDoor

/- Package manifest: plain mathematics: manifests, keysets, bundles, rotations. -/
namespace Go.Proofs.YtjapdhaimbalkaaDoor
set_option linter.unusedSimpArgs false
set_option linter.unusedVariables false
open Go.RowKit Go.Sl

abbrev MF := Int × Int × Int × List Dg × Unit
abbrev SG := Int × List Dg × List Dg × Unit
abbrev SD := Int × SG × Unit
abbrev BU := MF × List SD × List Str × Unit
abbrev RO := MF × List SD × Unit
def getS (b : List UInt8) : Str × Nat × Nat := (⟨(getB b).1⟩, (getB b).2.1, (getB b).2.2)
theorem sr_codec : Codec (nxt ⟨[]⟩ getS) (fun s => encB s.b) (fun s => s.b.length ≤ 1048576) :=
  nxt_codec (fun x t h => by unfold getS; rw [getB_encB h]) (fun b x used h => by
    have e1 : (⟨(getB b).1⟩ : Str) = x := congrArg Prod.fst h
    have e2 : (getB b).2 = (used, 0) := congrArg Prod.snd h
    rw [← e1]
    exact getB_canon (Prod.ext rfl e2)) (fun b hb => Nat.le_trans (getB_len b) hb) (fun _ _ h hi => getB_cut h hi)
def okDs (d : List Dg) : Prop := d.length ≤ 1048576 ∧ ∀ x ∈ d, x.l.length = 16
def mfP : PS → MF × PS := pairP (nxt 0 getI) (pairP (nxt 0 getI) (pairP (nxt 0 getI) (pairP (nxt [] getDg) unitP)))
def encMF (m : MF) : List UInt8 := encI m.1 ++ (encI m.2.1 ++ (encI m.2.2.1 ++ (encD m.2.2.2.1 ++ [])))
def okMF (m : MF) : Prop := I64 m.1 ∧ I64 m.2.1 ∧ I64 m.2.2.1 ∧ okDs m.2.2.2.1 ∧ True
theorem mf_codec : Codec mfP encMF okMF := pair_codec int_codec (pair_codec int_codec (pair_codec int_codec (pair_codec dgs_codec unit_codec)))
def sdP : PS → SD × PS := pairP (nxt 0 getI) (pairP (pairP (nxt 0 getI) (pairP (nxt [] getDg) (pairP (nxt [] getDg) unitP))) unitP)
def encSD (s : SD) : List UInt8 := encI s.1 ++ ((encI s.2.1.1 ++ (encD s.2.1.2.1 ++ (encD s.2.1.2.2.1 ++ []))) ++ [])
def okSD (s : SD) : Prop := I64 s.1 ∧ (I64 s.2.1.1 ∧ okDs s.2.1.2.1 ∧ okDs s.2.1.2.2.1 ∧ True) ∧ True
theorem sd_codec : Codec sdP encSD okSD := pair_codec int_codec (pair_codec (pair_codec int_codec (pair_codec dgs_codec (pair_codec dgs_codec unit_codec))) unit_codec)
theorem encSD_pos (s : SD) : 1 ≤ (encSD s).length := by
  have := encI_pos s.1
  unfold encSD
  rw [List.length_append]; omega
def buP : PS → BU × PS := pairP mfP (pairP (listP sdP) (pairP (listP (nxt ⟨[]⟩ getS)) unitP))
def encBU (u : BU) : List UInt8 := encMF u.1 ++ (encLs encSD u.2.1 ++ (encLs (fun s => encB s.b) u.2.2.1 ++ []))
def okBU (u : BU) : Prop := okMF u.1 ∧ ((∀ x ∈ u.2.1, okSD x) ∧ u.2.1.length ≤ 1048576) ∧ ((∀ x ∈ u.2.2.1, x.b.length ≤ 1048576) ∧ u.2.2.1.length ≤ 1048576) ∧ True
theorem encB_pos (s : List UInt8) : 1 ≤ (encB s).length := by
  have := encI_pos s.length
  unfold encB
  rw [List.length_append]; omega
theorem bu_codec : Codec buP encBU okBU := pair_codec mf_codec (pair_codec (list_codec sd_codec encSD_pos) (pair_codec (list_codec sr_codec fun s => encB_pos s.b) unit_codec))
def roP : PS → RO × PS := pairP mfP (pairP (listP sdP) unitP)
def encRO (r : RO) : List UInt8 := encMF r.1 ++ (encLs encSD r.2.1 ++ [])
def okRO (r : RO) : Prop := okMF r.1 ∧ ((∀ x ∈ r.2.1, okSD x) ∧ r.2.1.length ≤ 1048576) ∧ True
theorem ro_codec : Codec roP encRO okRO := pair_codec mf_codec (pair_codec (list_codec sd_codec encSD_pos) unit_codec)
end Go.Proofs.YtjapdhaimbalkaaDoor

/- Package manifest: plain mathematics: what remains, clipped; what decoders leave; sizes. -/
namespace Go.Proofs.YtjapdhaimbalkaaDoor
set_option linter.unusedSimpArgs false
set_option linter.unusedVariables false
open Go.RowKit Go.Sl

def clip (s : PS) : PS := if s.2 ≠ 0 then ([], s.2) else s
theorem clip_ok {s : PS} (h : s.2 = 0) : clip s = s := by simp [clip, h]
theorem clip_err {s : PS} (h : s.2 ≠ 0) : clip s = ([], s.2) := by simp [clip, h]
theorem clip_e (s : PS) : (clip s).2 = s.2 := by unfold clip; split <;> rfl
theorem clip_len (s : PS) : (clip s).1.length ≤ s.1.length := by unfold clip; split <;> simp

/-- A decoder does not lengthen what remains. -/
def Shr {α : Type} (p : PS → α × PS) : Prop := ∀ s, (p s).2.1.length ≤ s.1.length
theorem nxt_shr {α : Type} (z : α) (get : List UInt8 → α × Nat × Nat) : Shr (nxt z get) := by
  intro s
  unfold nxt
  split
  · exact Nat.le_refl _
  · split
    · exact Nat.le_refl _
    · simp
theorem pair_shr {α β : Type} {p : PS → α × PS} {q : PS → β × PS} (h : Shr p) (k : Shr q) : Shr (pairP p q) := fun s => Nat.le_trans (k _) (h s)
theorem unit_shr : Shr unitP := fun _ => Nat.le_refl _
theorem manyE_shr (n : Int) (s : PS) : (manyE n s).1.length ≤ s.1.length := by
  unfold manyE
  repeat' split
  all_goals exact Nat.le_refl _
theorem listF_shr {α : Type} {p : PS → α × PS} (h : Shr p) : ∀ (n : Nat) (s : PS) (out : List α), (listF p n s out).2.1.length ≤ s.1.length
  | 0, _, _ => Nat.le_refl _
  | n + 1, s, out => by
    rw [listF]
    split
    · exact Nat.le_refl _
    · exact Nat.le_trans (listF_shr h n _ _) (h s)
theorem listP_shr {α : Type} {p : PS → α × PS} (h : Shr p) : Shr (listP p) := fun s =>
  Nat.le_trans (listF_shr h _ _ _) (Nat.le_trans (manyE_shr _ _) (nxt_shr _ _ s))
theorem mf_shr : Shr mfP := pair_shr (nxt_shr _ _) (pair_shr (nxt_shr _ _) (pair_shr (nxt_shr _ _) (pair_shr (nxt_shr _ _) unit_shr)))
theorem sd_shr : Shr sdP := pair_shr (nxt_shr _ _) (pair_shr (pair_shr (nxt_shr _ _) (pair_shr (nxt_shr _ _) (pair_shr (nxt_shr _ _) unit_shr))) unit_shr)

theorem listF_err {α : Type} {p : PS → α × PS} {n : Nat} {s : PS} {out : List α} (h : s.2 ≠ 0) : listF p n s out = (out, s) := by
  cases n with
  | zero => rfl
  | succ n => rw [listF, if_pos h]
theorem listF_go {α : Type} {p : PS → α × PS} {n : Nat} {s : PS} {out : List α} (h : s.2 = 0) : listF p (n + 1) s out = listF p n (p s).2 (out ++ [(p s).1]) := by
  rw [listF, if_neg (by simp [h])]
theorem manyE_ok {n : Int} {s : PS} (h : (manyE n s).2 = 0) : s.2 = 0 ∧ 0 ≤ n ∧ n ≤ s.1.length ∧ manyE n s = s := by
  unfold manyE at h ⊢
  split at h
  · rename_i hh; exact absurd h hh
  · rename_i hh
    rw [if_neg hh]
    split at h
    · cases h
    · rename_i h2
      rw [if_neg h2]
      split at h
      · cases h
      · rename_i h3
        rw [if_neg h3]
        exact ⟨by simpa using hh, by omega, by omega, rfl⟩

theorem nxt_err {α : Type} {z : α} {get : List UInt8 → α × Nat × Nat} {s : PS} (h : s.2 ≠ 0) : nxt z get s = (z, s) := by rw [nxt, if_pos h]
theorem nxt_no {α : Type} {z : α} {get : List UInt8 → α × Nat × Nat} {s : PS} {x : α} {a e : Nat} (h : s.2 = 0) (hg : get s.1 = (x, a, e)) (he : e ≠ 0) : nxt z get s = (z, (s.1, e)) := by
  rw [nxt, if_neg (by simp [h]), if_pos (by rw [hg]; exact he), hg]
theorem nxt_yes {α : Type} {z : α} {get : List UInt8 → α × Nat × Nat} {s : PS} {x : α} {a : Nat} (h : s.2 = 0) (hg : get s.1 = (x, a, 0)) : nxt z get s = (x, (s.1.drop a, 0)) := by
  rw [nxt, if_neg (by simp [h]), if_neg (by rw [hg]; simp), hg]
theorem nxt_i64 (s : PS) : I64 (nxt 0 getI s).1 := by
  unfold nxt
  split
  · unfold I64; omega
  · split
    · unfold I64; omega
    · exact getI_i64 _
theorem nxt_dg (s : PS) : (nxt [] getDg s).1.length ≤ s.1.length ∧ ∀ x ∈ (nxt [] getDg s).1, x.l.length = 16 := by
  unfold nxt
  split
  · simp
  · split
    · simp
    · exact ⟨getDg_len _, getDg_16 _⟩

/-! ### Sizes -/
theorem fl_bound {α : Type} {enc : α → List UInt8} {k : Nat} : ∀ {xs : List α}, (∀ x ∈ xs, (enc x).length ≤ k) → (xs.flatMap enc).length ≤ xs.length * k
  | [], _ => by simp
  | x :: xs, h => by
    have := fl_bound (xs := xs) fun y hy => h y (.tail _ hy)
    have := h x (.head _)
    rw [List.flatMap_cons, List.length_append, List.length_cons, Nat.succ_mul]
    omega
theorem encLs_bound {α : Type} {enc : α → List UInt8} {k m : Nat} {xs : List α} (h : ∀ x ∈ xs, (enc x).length ≤ k) (hm : xs.length ≤ m) : (encLs enc xs).length ≤ 10 + m * k := by
  have h1 := fl_bound h
  have h2 := encI_len xs.length
  have h3 := Nat.mul_le_mul_right k hm
  unfold encLs
  rw [List.length_append]; omega
theorem encD_bound {d : List Dg} (h : ∀ x ∈ d, x.l.length = 16) : (encD d).length ≤ 10 + 16 * d.length := by
  have := dflat_len h
  have := encI_len d.length
  unfold encD
  rw [List.length_append]; omega
def smallM (g : SG) : Bool := decide (g.2.1.length ≤ 100) && decide (g.2.2.1.length ≤ 20)
def fewS (l : List SD) : Bool := l.all fun x => smallM x.2.1
def fewM (u : BU) : Bool := decide (u.1.2.2.2.1.length ≤ 10 ∧ u.2.1.length ≤ 6 ∧ u.2.2.1.length ≤ 6) && u.2.2.1.all (fun s => decide (s.b.length ≤ 600)) && fewS u.2.1
structure SdOk (x : SD) : Prop where
  ok : okSD x
  a : x.2.1.2.1.length ≤ 100
  b : x.2.1.2.2.1.length ≤ 20
def MfOk (m : MF) : Prop := I64 m.1 ∧ I64 m.2.1 ∧ I64 m.2.2.1 ∧ (∀ x ∈ m.2.2.2.1, x.l.length = 16)
def SdIn (x : SD) : Prop := I64 x.1 ∧ I64 x.2.1.1 ∧ (∀ y ∈ x.2.1.2.1, y.l.length = 16) ∧ (∀ y ∈ x.2.1.2.2.1, y.l.length = 16)
theorem encSD_bound {x : SD} (h : SdIn x) (k : smallM x.2.1 = true) : (encSD x).length ≤ 2000 := by
  obtain ⟨_, _, h3, h4⟩ := h
  simp only [smallM, Bool.and_eq_true, decide_eq_true_eq] at k
  have := encD_bound h3
  have := encD_bound h4
  have := encI_len x.1
  have := encI_len x.2.1.1
  unfold encSD
  simp only [List.length_append, List.length_nil]
  omega
theorem encSDs_bound {l : List SD} (h : ∀ x ∈ l, SdIn x) (k : fewS l = true) (hl : l.length ≤ 6) : (encLs encSD l).length ≤ 12010 :=
  encLs_bound (k := 2000) (m := 6) (fun x hx => encSD_bound (h x hx) (List.all_eq_true.1 k x hx)) hl
theorem encMF_bound {m : MF} (h : MfOk m) {k : Nat} (hk : m.2.2.2.1.length ≤ k) : (encMF m).length ≤ 40 + 16 * k := by
  obtain ⟨_, _, _, h4⟩ := h
  have := encD_bound h4
  have := encI_len m.1
  have := encI_len m.2.1
  have := encI_len m.2.2.1
  unfold encMF
  simp only [List.length_append, List.length_nil]
  omega
theorem okMF_of {m : MF} (h : MfOk m) (hk : m.2.2.2.1.length ≤ 1048576) : okMF m := ⟨h.1, h.2.1, h.2.2.1, ⟨hk, h.2.2.2⟩, trivial⟩
theorem okSD_of {x : SD} (h : SdIn x) (k : smallM x.2.1 = true) : okSD x := by
  simp only [smallM, Bool.and_eq_true, decide_eq_true_eq] at k
  exact ⟨h.1, ⟨h.2.1, ⟨by omega, h.2.2.1⟩, ⟨by omega, h.2.2.2⟩, trivial⟩, trivial⟩
structure FewP (u : BU) : Prop where
  a : u.1.2.2.2.1.length ≤ 10
  b : u.2.1.length ≤ 6
  c : u.2.2.1.length ≤ 6
  d : ∀ s ∈ u.2.2.1, s.b.length ≤ 600
  e : fewS u.2.1 = true
theorem fewM_of {u : BU} (h : fewM u = true) : FewP u := by
  simp only [fewM, Bool.and_eq_true, decide_eq_true_eq] at h
  exact ⟨h.1.1.1, h.1.1.2.1, h.1.1.2.2, fun s hs => by have := List.all_eq_true.1 h.1.2 s hs; simpa using this, h.2⟩
theorem encBU_bound {u : BU} (h : FewP u) (hm : MfOk u.1) (hs : ∀ x ∈ u.2.1, SdIn x) : (encBU u).length ≤ 20000 := by
  have h1 := encMF_bound hm h.a
  have h2 := encSDs_bound hs h.e h.b
  have h3 : (encLs (fun s : Str => encB s.b) u.2.2.1).length ≤ 10 + 6 * 610 := encLs_bound (fun s hs => by
    have := h.d s hs
    have := encI_len s.b.length
    unfold encB
    rw [List.length_append]; omega) h.c
  unfold encBU
  simp only [List.length_append, List.length_nil]
  omega
theorem okBU_of {u : BU} (h : FewP u) (hm : MfOk u.1) (hs : ∀ x ∈ u.2.1, SdIn x) : okBU u :=
  ⟨okMF_of hm (by have := h.a; omega), ⟨fun x hx => okSD_of (hs x hx) (List.all_eq_true.1 h.e x hx), by have := h.b; omega⟩, ⟨fun s hs => by have := h.d s hs; omega, by have := h.c; omega⟩, trivial⟩
theorem encRO_bound {r : RO} (hk : r.1.2.2.2.1.length ≤ 20) (hl : r.2.1.length ≤ 6) (he : fewS r.2.1 = true) (hm : MfOk r.1) (hs : ∀ x ∈ r.2.1, SdIn x) : (encRO r).length ≤ 20000 := by
  have h1 := encMF_bound hm hk
  have h2 := encSDs_bound hs he hl
  unfold encRO
  simp only [List.length_append, List.length_nil]
  omega
theorem okRO_of {r : RO} (hk : r.1.2.2.2.1.length ≤ 20) (hl : r.2.1.length ≤ 6) (he : fewS r.2.1 = true) (hm : MfOk r.1) (hs : ∀ x ∈ r.2.1, SdIn x) : okRO r :=
  ⟨okMF_of hm (by omega), ⟨fun x hx => okSD_of (hs x hx) (List.all_eq_true.1 he x hx), by omega⟩, trivial⟩
end Go.Proofs.YtjapdhaimbalkaaDoor

/- Package manifest: what is valid; integers encoded, walked. -/
--@hgp
--@flat
--@dg
--@ex0
namespace Go.Proofs.YtjapdhaimbalkaaDoor
set_option linter.unusedSimpArgs false
set_option linter.unusedVariables false
open Go.RowKit Go.Sl

theorem within_c {S M} (w : World) (hst : St S M w) (n lo hi : Int) (hn : I64 n) :
    Rets Tryd.prog 74 [.int .i64 n, .int .i64 lo, .int .i64 hi] w fun v w' => v = .bool (decide (lo ≤ n ∧ n ≤ hi)) ∧ St S M w' := by
  unfold Rets
  by_cases h1 : lo ≤ n
  · by_cases h2 : n ≤ hi
    · go_enter Tryd.func74, Tryd.ntmps74
      repeat' (first | (((with_reducible refine Sl.k_guard ?_; ((refine Sl.guard_yes rfl ?_)))) <;> (try refine nX ?_)) | ((fail_if_success (go_big_may)); (go_step)) | (with_reducible refine Sl.gate rfl ?_; (go_step)))
      go_ret
      exact ⟨_, rfl, by rw [decide_eq_true ⟨h1, h2⟩]; rfl, hst⟩
    · go_enter Tryd.func74, Tryd.ntmps74
      repeat' (first | (((with_reducible refine Sl.k_guard ?_; ((refine Sl.guard_yes rfl ?_)))) <;> (try refine nX ?_)) | ((fail_if_success (go_big_may)); (go_step)) | (with_reducible refine Sl.gate rfl ?_; (go_step)))
      go_ret
      exact ⟨_, rfl, by rw [decide_eq_false fun h => h2 h.2]; rfl, hst⟩
  · go_enter Tryd.func74, Tryd.ntmps74
    repeat' (first | go_skip | ((fail_if_success (go_big_may)); (go_step)) | (with_reducible refine Sl.gate rfl ?_; (go_step)))
    go_ret
    exact ⟨_, rfl, by rw [decide_eq_false fun h => h1 h.1]; rfl, hst⟩

def validM (m : MF) : Bool := decide (1 ≤ m.2.1 ∧ m.2.1 ≤ m.1) && decide (m.1 ≤ 16) && decide (0 ≤ m.2.2.1 ∧ m.2.2.1 ≤ 16) && decide ((1 : Int) ≤ (m.2.2.2.1.length : Int) ∧ (m.2.2.2.1.length : Int) ≤ 4)
theorem mf_ok {S : Snap} {cs : List Value} {m : MF} (h : Rep.R S cs m) : MfOk m := by
  refine ⟨h.2.1.2, h.2.2.2.1.2, h.2.2.2.2.2.1.2, ?_⟩
  obtain ⟨u, _, hu⟩ := h.2.2.2.2.2.2.2.1
  exact hu.dgs

set_option maxRecDepth 8000 in
set_option maxHeartbeats 1000000 in
theorem mvalid_c {S M} (w : World) (hst : St S M w) (cs : List Value) (m : MF) (hR : Rep.R S cs m) (hl : m.2.2.2.1.length ≤ 1048576) :
    Rets Tryd.prog 41 [.agg cs.toArray] w fun v w' => v = .bool (validM m) ∧ St S M w' := by
  unfold Rets
  obtain ⟨i1, i2, i3, _⟩ := mf_ok hR
  have i4 : I64 (m.2.2.2.1.length : Int) := by unfold I64; omega
  obtain ⟨b1, e1⟩ : ∃ b, decide (1 ≤ m.2.1 ∧ m.2.1 ≤ m.1) = b := ⟨_, rfl⟩
  obtain ⟨b3, e3⟩ : ∃ b, decide (0 ≤ m.2.2.1 ∧ m.2.2.1 ≤ 16) = b := ⟨_, rfl⟩
  obtain ⟨b4, e4⟩ : ∃ b, decide ((1 : Int) ≤ (m.2.2.2.1.length : Int) ∧ (m.2.2.2.1.length : Int) ≤ 4) = b := ⟨_, rfl⟩
  have c1 := fun {S : Snap} {M : List Chunk} (w : World) (hst : St S M w) => (within_c w hst m.2.1 1 m.1 i2).eq e1
  have c3 := fun {S : Snap} {M : List Chunk} (w : World) (hst : St S M w) => (within_c w hst m.2.2.1 0 16 i3).eq e3
  have c4 := fun {S : Snap} {M : List Chunk} (w : World) (hst : St S M w) => (within_c w hst (m.2.2.2.1.length : Int) 1 4 i4).eq e4
  have hv : validM m = (b1 && decide (m.1 ≤ 16) && b3 && b4) := by rw [validM, e1, e3, e4]
  by_cases h2 : m.1 ≤ 16 <;> cases b1 <;> cases b3
  all_goals
    go_enter Tryd.func41, Tryd.ntmps41
    repeat' ((fail_if_success (with_reducible show Code.wp _ (Code.region 1 _ _) _ _ _)); first | ((fail_if_success (go_big_may)); (go_step)) | (((((refine s_box hst evX rfl ?_; clear hst; intro bx w hst)))) <;> (try refine nX ?_) <;> (try replace hst := nH hst)))
    obtain ⟨S1, hS1, hst, hpe⟩ := pt_box (α := MF) hst hR (Rep.len hR)
    repeat' (first | go_skip | ((first | (with_reducible (refine Sl.k_field ?_; refine s_ex hst (qt_fieldp evX hpe inX inX rfl) ?_; rintro vf hpf)) | (with_reducible refine Sl.k_guard ?_; ((refine Sl.guard_yes rfl ?_)))) <;> (try refine nX ?_)) | (((with_reducible refine Sl.k_call ?_; (first | (refine s_callv (c1 _ hst) rfl inX rfl rfl ?_; clear hst; rintro v w ⟨rfl, hst⟩) | (refine s_callv (c3 _ hst) rfl inX rfl rfl ?_; clear hst; rintro v w ⟨rfl, hst⟩) | (refine s_callv (c4 _ hst) rfl inX rfl rfl ?_; clear hst; rintro v w ⟨rfl, hst⟩)))) <;> (try refine nX ?_) <;> (try replace hst := nH hst)) | ((fail_if_success (go_big_may)); (go_step)) | ((first | (with_reducible refine Sl.k_load ?_; (first | (refine s_ex hst (qt_ldp_int evX asX inX) ?_; rintro v ⟨rfl, hI⟩) | (refine s_ex hst (qt_ldp_list evX asX inX) ?_; rintro v ⟨hvl, hv1⟩))) | (with_reducible refine Sl.k_call ?_; (refine s_qt hst (by exact qt_len evX asX inX) ?_))) <;> (try refine nX ?_)) | (with_reducible refine Sl.gate rfl ?_; (go_step)))
    go_ret
    exact ⟨_, rfl, by rw [hv]; simp [h2], St.weaken hS1 hst⟩

set_option maxRecDepth 8000 in
set_option maxHeartbeats 1000000 in
theorem ints_c {S M} (w : World) (hst : St S M w) (vl : Value) (xs : List Int) (hl : RSl S vl xs) (hm : xs.length ≤ 1048576) :
    Rets Tryd.prog 86 [vl] w fun v w' => St S (.sl v 5 1 (xs.flatMap encI).length (u8s (xs.flatMap encI)) :: M) w' := by
  unfold Rets
  have hx := rsl_i64 hl
  go_enter Tryd.func86, Tryd.ntmps86
  have hst := hst.nil 5 1
  repeat' (first | ((fail_if_success (go_big_may)); (go_step)) | (((with_reducible refine Sl.k_call ?_; (refine s_qt hst (by exact qt_len evX asX inX) ?_))) <;> (try refine nX ?_)))
  go_loopw [3, 5, 8] (fun u o v wr => ∃ i : Nat, i ≤ xs.length ∧ v = .int .i64 i ∧ St S (.sl u 5 1 ((xs.take i).flatMap encI).length (u8s ((xs.take i).flatMap encI)) :: M) wr) (fun _ _ v _ => xs.length - (intOf v).toNat)
  case atStart => exact ⟨0, Nat.zero_le _, rfl, hst⟩
  case round =>
    clear hst
    obtain ⟨i, hi, rfl, hst⟩ := hrel
    have hu := sl_one hst
    by_cases hlt : i < xs.length
    · have hcl : ((xs.take i).flatMap encI).length ≤ 10 * i := by
        have := flat_len (xs.take i)
        have : (xs.take i).length ≤ i := List.length_take_le _ _
        omega
      have htk : (xs.take (i + 1)).flatMap encI = (xs.take i).flatMap encI ++ encI xs[i] := by rw [List.take_add_one, List.getElem?_eq_getElem hlt, Option.toList_some, List.flatMap_append, List.flatMap_cons, List.flatMap_nil, List.append_nil]
      have Htk := Lib.hid htk
      clear htk
      have hxl := encI_len xs[i]
      have hI := hx xs[i] (List.getElem_mem hlt)
      generalize (xs.take i).flatMap encI = c at *
      repeat' (first | (((with_reducible refine Sl.k_call ?_; ((refine s_call (int_c _ hst xs[i] hI) inX rfl ?_; clear hst; rintro v w hst)))) <;> (try refine nX ?_) <;> (try replace hst := nH hst)) | ((fail_if_success (go_big_may)); (go_step)) | ((first | (with_reducible refine Sl.k_load ?_; ((refine s_ex hst (qt_ldp_int evX asX inX) ?_; rintro v ⟨rfl, hI⟩))) | (with_reducible refine Sl.k_index ?_; (((refine s_ex hst (qt_index evX asX rfl inX inX omX omX) ?_); rintro v hp; (try simp only [Int.toNat_natCast, Int.toNat_natCast_add_one, Int.reduceToNat] at hp))))) <;> (try refine nX ?_)) | (with_reducible refine Sl.gate rfl ?_; (go_step)))
      refine s_append (j := 0) hst evX evX SlIn.h rfl inX inX inX (u8s_one _) (by omega) (by omega) (by decide) ?_
      clear hst; intro v' w hst
      (try refine nX ?_)
      (try replace hst := nH hst)
      replace hst := hst.drop
      repeat' (first | ((fail_if_success (go_big_may)); (go_step)) | (with_reducible refine Sl.gate rfl ?_; (go_step)))
      go_roundw
      case rel =>
        refine ⟨i + 1, by omega, by go_num, ?_⟩
        rw [Htk.out, u8s_append, List.length_append]
        exact hst
      case measure => simp [intOf]; omega
    · repeat' (first | ((fail_if_success (go_big_may)); (go_step)) | (with_reducible refine Sl.gate rfl ?_; (go_step)))
      go_ret
      refine ⟨_, rfl, ?_⟩
      rw [List.take_of_length_le (by omega)] at hst
      exact hst
end Go.Proofs.YtjapdhaimbalkaaDoor

/- Package manifest: slices grown and joined. -/
--@opt
--@hgp
--@flat
--@dg
--@ex0
namespace Go.Proofs.YtjapdhaimbalkaaDoor
set_option linter.unusedSimpArgs false
set_option linter.unusedVariables false
open Go.RowKit Go.Sl

abbrev u8T : TypeId := 5
theorem qt_capN {P : Program} {S : Snap} {M : List Chunk} {l : List Value} {T E : TypeId} {x : Operand} (hx : evF l x = .slice none 0 0) (hT : SlT P T E) :
    Qt P l (.call { callee := .builtin .cap, args := #[x], argTypes := #[T] }) S M (.int .i64 0) := fun dst ty pos af w hst => by
  simp [execOp, resolve, invoke, builtin, hx, Builtin.cap_, run_underlying hT.u, goInt]
theorem qt_sliceN {P : Program} {S : Snap} {M : List Chunk} {l : List Value} {T E : TypeId} {x y : Operand} {agg : Bool} {z : Nat} {zero : List Value} {bb : Nat} {k : IntKind} (hx : evF l x = .slice none 0 0) (hy : evF l y = .int k 0) (hT : SlT P T E) (hE : Ty P E agg z zero bb) :
    Qt P l (.slice T x none (some y) none) S M (.slice none 0 0) := fun dst ty pos af w hst => by
  simp only [execOp, hx, Sem.run_bind]
  have := run_sliceAt (P := P) (w := w) (hi := some (.int k ((0 : Nat) : Int))) (mx := none) (lo := none) (ad := none) (len := 0) (cap := 0) (a := 0) (b := 0) (m := 0) hT hE (.inl ⟨rfl, rfl⟩) (.inr ⟨k, rfl⟩) (.inl ⟨rfl, rfl⟩) (Nat.zero_le _) (by omega) (Nat.le_refl _) (by simp)
  simp only [Option.map_none, Option.map_some, hy]
  rw [show (0 : Int) = ((0 : Nat) : Int) from rfl, this]
  rfl
theorem nilSl {α : Type} [Rep α] {S : Snap} : RSl S (.slice none 0 0) ([] : List α) := .inl ⟨none, 0, rfl, rfl, by simp [maxLen]⟩
theorem flat_take {xs : List (List UInt8)} {i : Nat} (h : i < xs.length) : (xs.take (i + 1)).flatten = (xs.take i).flatten ++ xs[i] := by
  rw [List.take_succ_eq_append_getElem h, List.flatten_append]; simp
theorem flat_le {xs : List (List UInt8)} (i : Nat) : (xs.take i).flatten.length ≤ xs.flatten.length := by
  have : xs.flatten = (xs.take i).flatten ++ (xs.drop i).flatten := by rw [← List.flatten_append, List.take_append_drop]
  rw [this, List.length_append]; omega
end Go.Proofs.YtjapdhaimbalkaaDoor

/- Package manifest: manifests, keysets, signatures, encoded. -/
--@opt
--@hgp
--@flat
--@dg
--@ex0
namespace Go.Proofs.YtjapdhaimbalkaaDoor
set_option linter.unusedSimpArgs false
set_option linter.unusedVariables false
open Go.RowKit Go.Sl

theorem encMF_eq (m : MF) : encMF m = [m.1, m.2.1, m.2.2.1].flatMap encI ++ encD m.2.2.2.1 := by simp [encMF]
theorem encD_ge (d : List Dg) (h : ∀ x ∈ d, x.l.length = 16) : d.length ≤ (encD d).length := by
  have := dflat_len h
  unfold encD
  rw [List.length_append]; omega
abbrev OwnB (S : Snap) (M : List Chunk) (b : List UInt8) (v : Value) (w : World) : Prop := St S (.sl v u8T 1 b.length (u8s b) :: M) w

set_option maxRecDepth 8000 in
set_option maxHeartbeats 1000000 in
theorem manifest_c {S M} (w : World) (hst : St S M w) (cs : List Value) (m : MF) (hR : Rep.R S cs m) (hB : (encMF m).length ≤ 1048576) :
    Rets Tryd.prog 59 [.agg cs.toArray] w fun v w' => OwnB S M (encMF m) v w' := by
  unfold Rets
  obtain ⟨i1, i2, i3, i4⟩ := mf_ok hR
  have hl4 := encD_ge _ i4
  rw [encMF_eq] at hB ⊢
  rw [List.length_append] at hB
  go_enter Tryd.func59, Tryd.ntmps59
  repeat' ((fail_if_success (with_reducible show Code.wp _ (Code.region 1 _ _) _ _ _)); first | ((fail_if_success (go_big_may)); (go_step)) | (((((refine s_box hst evX rfl ?_; clear hst; intro bx w hst)))) <;> (try refine nX ?_) <;> (try replace hst := nH hst)))
  obtain ⟨S1, hS1, hst, hpe⟩ := pt_box (α := MF) hst hR (Rep.len hR)
  refine v_begin hst (by kernel_rfl) ?_; clear hst; intro ops; (try refine nX ?_)
  ((refine t_ex0 0 rfl (by kernel_rfl) rfl rfl (qt_fieldp evX hpe inX inX rfl ) ?_; rintro  vf hpf)) <;> (try refine nX ?_)
  ((refine t_ex0 1 rfl (by kernel_rfl) rfl rfl (qt_ldp_int evX asX inX ) ?_; rintro  vi ⟨rfl, hI⟩)) <;> (try refine nX ?_)
  ((refine t_ex0 2 rfl (by kernel_rfl) rfl rfl (qt_fieldp evX hpe inX inX rfl ) ?_; rintro  vf hpf)) <;> (try refine nX ?_)
  ((refine t_ex0 3 rfl (by kernel_rfl) rfl rfl (qt_ldp_int evX asX inX ) ?_; rintro  vi ⟨rfl, hI⟩)) <;> (try refine nX ?_)
  ((refine t_ex0 4 rfl (by kernel_rfl) rfl rfl (qt_fieldp evX hpe inX inX rfl ) ?_; rintro  vf hpf)) <;> (try refine nX ?_)
  ((refine t_ex0 5 rfl (by kernel_rfl) rfl rfl (qt_ldp_int evX asX inX ) ?_; rintro  vi ⟨rfl, hI⟩)) <;> (try refine nX ?_)
  ((refine t_ex0 8 rfl (by kernel_rfl) rfl rfl (qt_fieldp evX hpe inX inX rfl ) ?_; rintro  v8 hp8)) <;> (try refine nX ?_)
  ((refine t_ex0 9 rfl (by kernel_rfl) rfl rfl (qt_ldp_list evX hp8 inX ) ?_; rintro  v9 ⟨hvl9, hv19⟩)) <;> (try refine nX ?_)
  refine v_one 6 rfl (by kernel_rfl) ?_; intro w hst K hK; refine s_lit (vs := [.int .i64 m.1, .int .i64 m.2.1, .int .i64 m.2.2.1]) (cs := cF intC [m.1, m.2.1, m.2.2.1]) hst inX inX rfl rfl (by simp [Value.cells]) rfl (by omega) (by omega) ?_; clear hst; intro x6 w hst; obtain ⟨S2, hS2, hst, hx6⟩ := lit_ints [m.1, m.2.1, m.2.2.1] hst rfl (by simp only [List.forall_mem_cons, List.not_mem_nil, false_implies, implies_true, and_true]; exact ⟨i1, i2, i3⟩) rfl; (try refine nX ?_); (try replace hst := nH hst); refine v_next hK hst hS2 (Suf.refl _) ?_; clear hst hK K; (try clear w); (try refine nX ?_)
  refine v_one 7 rfl (by kernel_rfl) ?_; intro w hst K hK; refine s_call (ints_c w hst x6 [m.1, m.2.1, m.2.2.1] (by exact hx6) (by simp)) inX rfl ?_; clear hst; intro x7 w hst; (try refine nX ?_); (try replace hst := nH hst); refine v_next hK hst (Snap.Le.refl _) (Suf.cons (Suf.refl _)) ?_; clear hst hK K; (try clear w); (try refine nX ?_)
  refine v_one 10 rfl (by kernel_rfl) ?_; intro w hst K hK; refine s_call (encDigs_c w hst v9 m.2.2.2.1 (by exact hvl9.mono hS2) (by omega)) inX rfl ?_; clear hst; intro x10 w hst; (try refine nX ?_); (try replace hst := nH hst); refine v_next hK hst (Snap.Le.refl _) (Suf.cons (Suf.refl _)) ?_; clear hst hK K; (try clear w); (try refine nX ?_)
  refine v_one 11 rfl (by kernel_rfl) ?_; intro w hst K hK; refine s_append (j := 0) hst evX evX SlIn.h rfl inX inX inX ((u8s_one _)) (by omega) (by omega) (by decide) ?_; clear hst; intro x11 w hst; (try refine nX ?_); (try replace hst := nH hst); replace hst := hst.drop; have hone11 := sl_one hst; refine v_last hK hst ?_; clear hst hK K; (try clear w); (try refine nX ?_)
  (refine t_qt 12 rfl (by kernel_rfl) rfl rfl (by exact qt_assign evX) ?_) <;> (try refine nX ?_)
  refine v_done (by kernel_rfl) ?_; clear ops; intro w hst
  all_goals
    repeat' (((fail_if_success (go_big_may)); (go_step)))
    go_ret
    rw [← u8s_append, ← List.length_append] at hst
    exact ⟨_, rfl, St.weaken (hS1.trans hS2) hst⟩

end Go.Proofs.YtjapdhaimbalkaaDoor

/- Package manifest: encodings as strings; signature lists, encoded. -/
--@opt
--@hgp
--@flat
--@dg
--@ex0
namespace Go.Proofs.YtjapdhaimbalkaaDoor
set_option linter.unusedSimpArgs false
set_option linter.unusedVariables false
open Go.RowKit Go.Sl

abbrev StrV (b : List UInt8) : Value := .string ⟨b.toArray⟩
set_option maxRecDepth 8000 in
set_option maxHeartbeats 1000000 in
theorem encode_c {S M} (w : World) (hst : St S M w) (cs : List Value) (m : MF) (hR : Rep.R S cs m) (hB : (encMF m).length ≤ 1048576) :
    Rets Tryd.prog 46 [.agg cs.toArray] w fun v w' => v = StrV (encMF m) ∧ St S M w' := by
  unfold Rets
  go_enter Tryd.func46, Tryd.ntmps46
  repeat' (first | ((first | (with_reducible (refine Sl.k_load ?_; with_unfolding_all refine s_qt hst (qt_loadF (x0 := m) rfl BoxIn.h hR inX) ?_)) | (with_reducible (refine Sl.k_conv ?_; with_unfolding_all refine s_string_own (k := 0) (b := encMF m) hst rfl rfl inX IntT.u StrT.u ?_))) <;> (try refine nX ?_)) | (((with_reducible refine Sl.k_call ?_; ((refine s_call (manifest_c _ hst cs m hR hB) inX rfl ?_; clear hst; rintro v w hst)))) <;> (try refine nX ?_) <;> (try replace hst := nH hst)) | ((fail_if_success (go_big_may)); (go_step)) | (((((refine s_box hst evX rfl ?_; clear hst; intro bx w hst)))) <;> (try refine nX ?_) <;> (try replace hst := nH hst)))
  go_ret
  exact ⟨_, rfl, rfl, hst.drop.drop⟩
theorem sd_in {S : Snap} {cs : List Value} {x : SD} (h : Rep.R S cs x) : SdIn x := by
  refine ⟨h.2.1.2, h.2.2.2.1.2.1.2, ?_, ?_⟩
  · obtain ⟨u, _, hu⟩ := h.2.2.2.1.2.2.2.1
    exact hu.dgs
  · obtain ⟨u, _, hu⟩ := h.2.2.2.1.2.2.2.2.2.1
    exact hu.dgs
theorem fm_take {α : Type} {enc : α → List UInt8} {l : List α} {i : Nat} (h : i < l.length) : (l.take (i + 1)).flatMap enc = (l.take i).flatMap enc ++ enc l[i] := by
  rw [List.take_succ_eq_append_getElem h, List.flatMap_append]; simp
theorem fm_le {α : Type} {enc : α → List UInt8} {l : List α} (i : Nat) : ((l.take i).flatMap enc).length ≤ (l.flatMap enc).length := by
  have : l.flatMap enc = (l.take i).flatMap enc ++ (l.drop i).flatMap enc := by rw [← List.flatMap_append, List.take_append_drop]
  rw [this, List.length_append]; omega
theorem encLs_take {α : Type} (enc : α → List UInt8) {l : List α} : encLs enc l = encI l.length ++ l.flatMap enc := rfl
end Go.Proofs.YtjapdhaimbalkaaDoor

/- Package manifest: bundles and rotations, encoded. -/
--@opt
--@hgp
--@flat
--@dg
--@ex0
namespace Go.Proofs.YtjapdhaimbalkaaDoor
set_option linter.unusedSimpArgs false
set_option linter.unusedVariables false
open Go.RowKit Go.Sl

theorem manifest_f {S M} (w : World) (hst : St S M w) (cs : List Value) (m : MF) (hR : Rep.R S cs m) (hB : (encMF m).length ≤ 1048576) : Rets Tryd.prog 59 [.agg cs.toArray] w fun v w' => Fz UInt8 S M (encMF m) v w' :=
  Rets.mono (manifest_c w hst cs m hR hB) fun _ _ h => fz_u8 h
theorem ints_f {S M} (w : World) (hst : St S M w) (vl : Value) (xs : List Int) (hl : RSl S vl xs) (hm : xs.length ≤ 1048576) : Rets Tryd.prog 86 [vl] w fun v w' => Fz UInt8 S M (xs.flatMap encI) v w' :=
  Rets.mono (ints_c w hst vl xs hl hm) fun _ _ h => fz_u8 h
theorem len_i64 {n : Nat} (h : n ≤ 1048576) : I64 (n : Int) := by unfold I64; omega
abbrev encSt (s : Str) : List UInt8 := encB s.b

end Go.Proofs.YtjapdhaimbalkaaDoor

/- Package manifest: digests. -/
--@opt
--@u32
--@hgp
--@flat
--@dg
--@ex0
namespace Go.Proofs.YtjapdhaimbalkaaDoor
set_option linter.unusedSimpArgs false
set_option linter.unusedVariables false
open Go.RowKit Go.Sl

abbrev dgVm (d : Dg) : Value := .agg (u8s d.l).toArray
instance lenDigM {t : Int} {p : List (List UInt8)} : LenIs (dig t p) 16 := ⟨dig_len _ _⟩
def mdP (m : MF) : Dg := ⟨dig 12 [encMF m]⟩
def kdP (m : MF) : Dg := ⟨dig 13 [encMF m]⟩
def sdgP (b : List UInt8) : Dg := ⟨dig 6 [b]⟩
theorem mdP_len (m : MF) : (mdP m).l.length = 16 := dig_len _ _
theorem kdP_len (m : MF) : (kdP m).l.length = 16 := dig_len _ _
theorem sdgP_len (b : List UInt8) : (sdgP b).l.length = 16 := dig_len _ _

set_option maxRecDepth 8000 in
set_option maxHeartbeats 1000000 in
theorem mdig_c {S M} (w : World) (hst : St S M w) (hG : Glob S) (cs : List Value) (m : MF) (hR : Rep.R S cs m) (hB : (encMF m).length ≤ 1000000) :
    Rets Tryd.prog 27 [.agg cs.toArray] w fun v w' => v = dgVm (mdP m) ∧ St S M w' := by
  unfold Rets
  haveI : LenIs (mdP m).l 16 := ⟨mdP_len m⟩
  go_enter Tryd.func27, Tryd.ntmps27
  repeat' (first | (((with_reducible (refine Sl.k_load ?_; with_unfolding_all refine s_qt hst (qt_loadF (x0 := m) rfl BoxIn.h hR inX) ?_))) <;> (try refine nY ?_)) | (((with_reducible refine Sl.k_call ?_; ((refine s_call (manifest_c _ hst cs m hR (by omega)) inX rfl ?_; clear hst; rintro v w hst)))) <;> (try refine nY ?_) <;> (try replace hst := nH hst)) | ((fail_if_success (go_big_may)); (go_step)) | ((((first | (refine s_box hst evX rfl ?_; clear hst; intro bx w hst) | (refine s_alloc hst inX ?_; clear hst; intro bk w hst)))) <;> (try refine nY ?_) <;> (try replace hst := nH hst)))
  obtain ⟨S1, hS1, hstA, hv, ho⟩ : ∃ S', S.Le S' ∧ St S' _ w ∧ RSl S' v (encMF m) ∧ v.oneCell' = true := by
    obtain ⟨S', a, b, c, d⟩ := fz_u8 hst
    exact ⟨S', a, d, b, c⟩
  clear hst
  have hst := hstA
  clear hstA
  refine s_parts hst (Sls.cons hv Sls.nil) inX inX rfl rfl (by simp) ?_
  clear hst; intro S2 u w hS2 hu hou hst
  (try refine nY ?_)
  repeat' (first | (((with_reducible refine Sl.k_call ?_; ((refine s_call (digest_c _ hst ((hG.mono hS1).mono hS2) 12 (by omega) _ _ hu (by simp [sizeB]; omega)) inX rfl ?_; clear hst; rintro v w ⟨rfl, hst⟩)))) <;> (try refine nY ?_) <;> (try replace hst := nH hst)) | ((fail_if_success (go_big_may)); (go_step)) | (((((with_reducible refine Sl.k_store ?_; (refine s_stD hst rfl BoxIn.h inX evX inX lenX ?_); clear hst; intro w hst)))) <;> (try refine nY ?_) <;> (try replace hst := nH hst)))
  exact ret_D rfl hst rfl BoxIn.h inX inX ⟨_, rfl, rfl, (St.weaken (hS1.trans hS2) hst).drop.drop⟩

set_option maxRecDepth 8000 in
set_option maxHeartbeats 1000000 in
theorem sdig_c {S M} (w : World) (hst : St S M w) (hG : Glob S) (b : List UInt8) (hB : b.length ≤ 1000000) :
    Rets Tryd.prog 26 [StrV b] w fun v w' => v = dgVm (sdgP b) ∧ St S M w' := by
  unfold Rets
  haveI : LenIs (sdgP b).l 16 := ⟨sdgP_len b⟩
  go_enter Tryd.func26, Tryd.ntmps26
  repeat' (first | (((with_reducible (refine Sl.k_conv ?_; (with_unfolding_all refine s_bytes (b := b) hst rfl StrT.u inX IntT.u (by omega) ?_); clear hst; intro v4 w hst; have fz := fz_u8 hst; clear hst; obtain ⟨S1, hS1, hv, ho, hst⟩ := fz))) <;> (try refine nY ?_)) | ((fail_if_success (go_big_may)); (go_step)) | (((((refine s_alloc hst inX ?_; clear hst; intro bk w hst)))) <;> (try refine nY ?_) <;> (try replace hst := nH hst)))
  refine s_parts hst (Sls.cons hv Sls.nil) inX inX rfl rfl (by simp) ?_
  clear hst; intro S2 u w hS2 hu hou hst
  (try refine nY ?_)
  repeat' (first | (((with_reducible refine Sl.k_call ?_; ((refine s_call (digest_c _ hst ((hG.mono hS1).mono hS2) 6 (by omega) _ _ hu (by simp [sizeB]; omega)) inX rfl ?_; clear hst; rintro v w ⟨rfl, hst⟩)))) <;> (try refine nY ?_) <;> (try replace hst := nH hst)) | ((fail_if_success (go_big_may)); (go_step)) | (((((with_reducible refine Sl.k_store ?_; (refine s_stD hst rfl BoxIn.h inX evX inX lenX ?_); clear hst; intro w hst)))) <;> (try refine nY ?_) <;> (try replace hst := nH hst)))
  exact ret_D rfl hst rfl BoxIn.h inX inX ⟨_, rfl, rfl, (St.weaken (hS1.trans hS2) hst).drop⟩
end Go.Proofs.YtjapdhaimbalkaaDoor

/- Package merkle: split, leaves, nodes, roots, walked. -/
--@u32
--@hgp
--@flat
--@dg
namespace Go.Proofs.YtjapdhaimbalkaaDoor
set_option linter.unusedSimpArgs false
set_option linter.unusedVariables false
open Go.RowKit Go.Sl

theorem rl_1 {S : Snap} {v : Value} {x : List UInt8} (h : RSl S v x) : RL S [v] [x] := by
  refine ⟨rfl, fun i y hy => ?_⟩
  match i, hy with
  | 0, hy => cases hy; exact ⟨v, rfl, h⟩
theorem rl_2 {S : Snap} {v u : Value} {x y : List UInt8} (h : RSl S v x) (k : RSl S u y) : RL S [v, u] [x, y] := by
  refine ⟨rfl, fun i z hz => ?_⟩
  match i, hz with
  | 0, hz => cases hz; exact ⟨v, rfl, h⟩
  | 1, hz => cases hz; exact ⟨u, rfl, k⟩
theorem lit_p1 {S : Snap} {M : List Chunk} {w : World} {v u : Value} {T : TypeId} {x : List UInt8} (h : St S (.sl v T 1 1 [u] :: M) w) (hu : RSl S u x) : ∃ S', S.Le S' ∧ St S' M w ∧ RSl S' v [x] :=
  St.freeze (α := List UInt8) h (rl_1 hu) rfl
theorem lit_p2 {S : Snap} {M : List Chunk} {w : World} {v u u' : Value} {T : TypeId} {x y : List UInt8} (h : St S (.sl v T 1 2 [u, u'] :: M) w) (hu : RSl S u x) (hu' : RSl S u' y) : ∃ S', S.Le S' ∧ St S' M w ∧ RSl S' v [x, y] :=
  St.freeze (α := List UInt8) h (rl_2 hu hu') rfl
theorem dg_box {S : Snap} {M : List Chunk} {w : World} {b : Nat} {T : TypeId} {d : Dg} (h : St S (.box b (u8s d.l) T :: M) w) (hl : d.l.length = 16) : ∃ S', S.Le S' ∧ St S' M w ∧ Pt S' (.pointer (some ⟨b, 0, none⟩)) d :=
  pt_box (α := Dg) (x := d) h (by exact ⟨hl, rl_u8 d.l⟩) (by rw [u8s_length, hl]; rfl)
theorem leafM_len (d : Dg) : (leafM d).l.length = 16 := dig_len _ _
theorem nodeM_len (a b : Dg) : (nodeM a b).l.length = 16 := dig_len _ _
theorem emptyM_len : emptyM.l.length = 16 := dig_len _ _
abbrev dgV (d : Dg) : Value := .agg (u8s d.l).toArray
theorem rootF_len : ∀ (f : Nat) (l : List Dg), (rootF f l).l.length = 16
  | f, [] => by cases f <;> exact emptyM_len
  | f, [d] => by cases f <;> exact leafM_len d
  | 0, a :: b :: r => emptyM_len
  | f + 1, a :: b :: r => by rw [rootF]; exact nodeM_len _ _; all_goals simp
theorem rootM_len (l : List Dg) : (rootM l).l.length = 16 := rootF_len _ _
instance lenDig {t : Int} {p : List (List UInt8)} : LenIs (dig t p) 16 := ⟨dig_len _ _⟩
instance lenLeaf {d : Dg} : LenIs (leafM d).l 16 := ⟨leafM_len _⟩
instance lenNode {a b : Dg} : LenIs (nodeM a b).l 16 := ⟨nodeM_len _ _⟩
instance lenEmpty : LenIs emptyM.l 16 := ⟨emptyM_len⟩
instance lenRoot {l : List Dg} : LenIs (rootM l).l 16 := ⟨rootM_len _⟩

set_option maxRecDepth 8000 in
set_option maxHeartbeats 400000 in
theorem split_c {S M} (w : World) (hst : St S M w) (n : Nat) (h2 : 2 ≤ n) (hm : n ≤ 1048576) :
    Rets Tryd.prog 78 [.int .i64 (n : Int)] w fun v w' => v = .int .i64 (splitM n : Nat) ∧ St S M w' := by
  unfold Rets
  go_enter Tryd.func78, Tryd.ntmps78
  repeat' (((fail_if_success (go_big_may)); (go_step)))
  go_loopw [3] (fun v wr => ∃ (k : Nat), 1 ≤ k ∧ k < n ∧ v = .int .i64 k ∧ Hid (splitF n n k = splitM n) ∧ St S M wr) (fun v _ => n - (intOf v).toNat)
  case atStart => exact ⟨1, by omega, by omega, rfl, Lib.hid rfl, hst⟩
  case round =>
    clear hst
    obtain ⟨k, h1, hk, rfl, hs, hst⟩ := hrel
    by_cases hlt : 2 * k < n
    · repeat' (first | ((fail_if_success (go_big_may)); (go_step)) | (with_reducible refine Sl.gate rfl ?_; (go_step)))
      go_roundw
      case rel => exact ⟨2 * k, by omega, hlt, by go_num, Lib.hid (by rw [← hs.out, splitF_go n n k hlt (by omega)]; exact splitF_more _ _ _ _ (by omega) (by omega) (by omega)), hst⟩
      case measure => simp [intOf]; omega
    · repeat' (first | ((fail_if_success (go_big_may)); (go_step)) | (with_reducible refine Sl.gate rfl ?_; (go_step)))
      go_ret
      refine ⟨_, rfl, ?_, hst⟩
      rw [← hs.out, splitF_stop hlt]
      rfl

set_option maxRecDepth 8000 in
set_option maxHeartbeats 400000 in
theorem leaf_c {S M} (w : World) (hst : St S M w) (hG : Glob S) (d : Dg) (hd : d.l.length = 16) :
    Rets Tryd.prog 77 [dgV d] w fun v w' => v = dgV (leafM d) ∧ St S M w' := by
  unfold Rets
  go_enter Tryd.func77, Tryd.ntmps77
  repeat' ((fail_if_success (with_reducible show Code.wp _ (Code.region 1 _ _) _ _ _)); first | ((fail_if_success (go_big_may)); (go_step)) | ((((first | (refine s_box hst evX rfl ?_; clear hst; intro bx w hst) | (refine s_alloc hst inX ?_; clear hst; intro bk w hst)))) <;> (try refine nY ?_) <;> (try replace hst := nH hst)))
  obtain ⟨S1, hS1, hst, hpd⟩ := dg_box hst.swap hd
  refine wp_region_lit ?_
  refine s_ex hst (qt_arrSliceP (a := 0) (b := 16) evX hpd inX inX (.inl ⟨rfl, rfl⟩) (.inl ⟨rfl, rfl⟩) (by omega) (by omega) (by unfold maxLen; omega)) ?_
  rintro v hv
  rw [List.drop_zero, List.take_of_length_le (by omega)] at hv
  have hv1 := hv.oneCell
  refine nY ?_
  refine s_lit (vs := [v]) hst inX inX rfl rfl (by simp [cells_size1 hv1]) rfl (by omega) (by omega) ?_
  clear hst; intro x w hst
  simp only [List.map_cons, List.map_nil, cells_one hv1, List.flatten_cons, List.flatten_nil, List.append_nil] at hst
  obtain ⟨S2, hS2, hst, hx⟩ := lit_p1 hst hv
  refine nY ?_
  repeat' (first | (((with_reducible refine Sl.k_call ?_; ((refine s_call (digest_c _ hst ((hG.mono hS1).mono hS2) 1 (by omega) _ _ hx (by simp [sizeB]; omega)) inX rfl ?_; clear hst; rintro v w ⟨rfl, hst⟩)))) <;> (try refine nY ?_) <;> (try replace hst := nH hst)) | ((fail_if_success (go_big_may)); (go_step)) | (((((with_reducible refine Sl.k_store ?_; (refine s_stD hst rfl BoxIn.h inX evX inX lenX ?_); clear hst; intro w hst)))) <;> (try refine nY ?_) <;> (try replace hst := nH hst)))
  exact ret_D rfl hst rfl BoxIn.h inX inX ⟨_, rfl, rfl, St.weaken (hS1.trans hS2) hst.drop⟩

set_option maxRecDepth 8000 in
set_option maxHeartbeats 400000 in
theorem node_c {S M} (w : World) (hst : St S M w) (hG : Glob S) (a b : Dg) (ha : a.l.length = 16) (hb : b.l.length = 16) :
    Rets Tryd.prog 79 [dgV a, dgV b] w fun v w' => v = dgV (nodeM a b) ∧ St S M w' := by
  unfold Rets
  go_enter Tryd.func79, Tryd.ntmps79
  repeat' ((fail_if_success (with_reducible show Code.wp _ (Code.region 1 _ _) _ _ _)); first | ((fail_if_success (go_big_may)); (go_step)) | ((((first | (refine s_box hst evX rfl ?_; clear hst; intro bx w hst) | (refine s_alloc hst inX ?_; clear hst; intro bk w hst)))) <;> (try refine nY ?_) <;> (try replace hst := nH hst)))
  obtain ⟨S1, hS1, hst, hpb⟩ := dg_box (hst.perm (List.Perm.swap _ _ _)) hb
  obtain ⟨S2, hS2, hst, hpa⟩ := dg_box hst.swap ha
  replace hpb := hpb.mono hS2
  have hG2 := (hG.mono hS1).mono hS2
  refine v_begin hst (by kernel_rfl) ?_; clear hst; intro ops; (try refine nY ?_)
  ((refine t_ex 0 rfl (by kernel_rfl) rfl rfl (fun w hst => qt_arrSliceP (a := 0) (b := 16) evX hpa inX inX (.inl ⟨rfl, rfl⟩) (.inl ⟨rfl, rfl⟩) (by omega) (by omega) (by unfold maxLen; omega) ) ?_; rintro  v5 hv5)) <;> (try refine nY ?_)
  ((refine t_ex 1 rfl (by kernel_rfl) rfl rfl (fun w hst => qt_arrSliceP (a := 0) (b := 16) evX hpb inX inX (.inl ⟨rfl, rfl⟩) (.inl ⟨rfl, rfl⟩) (by omega) (by omega) (by unfold maxLen; omega) ) ?_; rintro  v6 hv6)) <;> (try refine nY ?_)
  refine v_one 2 rfl (by kernel_rfl) ?_; intro w hst K hK; (rw [List.drop_zero, List.take_of_length_le (by omega)] at hv5 hv6; refine s_lit (vs := [v5, v6]) hst inX inX rfl rfl (by simp [cells_size1 hv5.oneCell, cells_size1 hv6.oneCell]) rfl (by omega) (by omega) ?_; clear hst; intro x2 w hst; simp only [List.map_cons, List.map_nil, cells_one hv5.oneCell, cells_one hv6.oneCell, List.flatten_cons, List.flatten_nil, List.append_nil, List.cons_append, List.nil_append] at hst; obtain ⟨S3, hS3, hst, hx⟩ := lit_p2 hst hv5 hv6); (try refine nY ?_); (try replace hst := nH hst); refine v_next hK hst hS3 (Suf.refl _) ?_; clear hst hK K; (try clear w); (try refine nY ?_)
  (refine t_call 3 rfl (by kernel_rfl) rfl (fun S' M' w hS hM hst => digest_c w hst ((hG2.mono hS3).mono hS) 2 (by omega) _ _ (hx.mono hS) (by simp [sizeB]; omega)) inX rfl ?_) <;> (try refine nY ?_)
  refine v_one 4 rfl (by kernel_rfl) ?_; intro w hst K hK; (refine s_stD hst rfl BoxIn.h inX evX inX lenX ?_); clear hst; intro w hst; (try refine nY ?_); (try replace hst := nH hst); refine v_last hK hst ?_; clear hst hK K; (try clear w); (try refine nY ?_)
  refine v_done (by kernel_rfl) ?_; clear ops; intro w hst
  repeat' (((fail_if_success (go_big_may)); (go_step)))
  exact ret_D rfl hst rfl BoxIn.h inX inX ⟨_, rfl, rfl, St.weaken ((hS1.trans hS2).trans hS3) hst.drop⟩

set_option maxRecDepth 8000 in
set_option maxHeartbeats 400000 in
theorem root0_c {S M} (w : World) (hst : St S M w) (hG : Glob S) (vl : Value) (l : List Dg) (hl : RSl S vl l) (h0 : l.length = 0) :
    Rets Tryd.prog 50 [vl] w fun v w' => v = dgV (rootM l) ∧ St S M w' := by
  unfold Rets
  obtain rfl := List.eq_nil_of_length_eq_zero h0
  have hnil : RSl S (.slice none 0 0) ([] : List (List UInt8)) := .inl ⟨none, 0, rfl, rfl, by unfold maxLen; omega⟩
  go_enter Tryd.func50, Tryd.ntmps50
  repeat' (first | (((with_reducible refine Sl.k_call ?_; ((refine s_call (digest_c _ hst hG 1 (by omega) _ _ hnil (by simp [sizeB])) inX rfl ?_; clear hst; rintro v w ⟨rfl, hst⟩)))) <;> (try refine nY ?_) <;> (try replace hst := nH hst)) | ((fail_if_success (go_big_may)); (go_step)) | (((with_reducible refine Sl.k_call ?_; (refine s_qt hst (by exact qt_len evX asX inX) ?_))) <;> (try refine nY ?_)) | (with_reducible refine Sl.gate rfl ?_; (go_step)) | ((((first | (with_reducible refine Sl.k_store ?_; (refine s_stD hst rfl BoxIn.h inX evX inX lenX ?_); clear hst; intro w hst) | (refine s_alloc hst inX ?_; clear hst; intro bk w hst)))) <;> (try refine nY ?_) <;> (try replace hst := nH hst)))
  exact ret_D rfl hst rfl BoxIn.h inX inX ⟨_, rfl, rfl, hst.drop⟩

set_option maxRecDepth 8000 in
set_option maxHeartbeats 400000 in
theorem root1_c {S M} (w : World) (hst : St S M w) (hG : Glob S) (vl : Value) (l : List Dg) (hl : RSl S vl l) (h1 : l.length = 1) :
    Rets Tryd.prog 50 [vl] w fun v w' => v = dgV (rootM l) ∧ St S M w' := by
  unfold Rets
  have h11 : 1 ≤ l.length ∧ l.length ≤ 1 := by omega
  have h0l : 0 < l.length := by omega
  clear h1
  have hd := hl.dgs (l[0]'h0l) (List.getElem_mem h0l)
  have hE : Hid (rootM l = leafM (l[0]'h0l)) := Lib.hid (by
    obtain ⟨d, rfl⟩ := List.length_eq_one_iff.1 (show l.length = 1 by omega)
    rfl)
  go_enter Tryd.func50, Tryd.ntmps50
  repeat' (first | (((with_reducible refine Sl.k_call ?_; ((refine s_call (leaf_c _ hst hG l[0] hd) inX rfl ?_; clear hst; rintro v w ⟨rfl, hst⟩)))) <;> (try refine nY ?_) <;> (try replace hst := nH hst)) | ((fail_if_success (go_big_may)); (go_step)) | ((first | (with_reducible refine Sl.k_load ?_; (refine s_qt hst (by exact qt_ldp_flat evX asX inX inX rfl) ?_)) | (with_reducible refine Sl.k_index ?_; (((refine s_ex hst (qt_index evX asX rfl inX inX omX omX) ?_); rintro v hp; (try simp only [Int.toNat_natCast, Int.toNat_natCast_add_one, Int.reduceToNat] at hp)))) | (with_reducible refine Sl.k_call ?_; (refine s_qt hst (by exact qt_len evX asX inX) ?_))) <;> (try refine nY ?_)) | (with_reducible refine Sl.gate rfl ?_; (go_step)) | ((((first | (with_reducible refine Sl.k_store ?_; (refine s_stD hst rfl BoxIn.h inX evX inX lenX ?_); clear hst; intro w hst) | (refine s_alloc hst inX ?_; clear hst; intro bk w hst)))) <;> (try refine nY ?_) <;> (try replace hst := nH hst)))
  exact ret_D rfl hst rfl BoxIn.h inX inX ⟨_, rfl, by rw [hE.out], hst.drop⟩

theorem RSl.dg {S : Snap} {v : Value} {xs : List Dg} (h : RSl S v xs) : ∀ d ∈ xs, d.l.length = 16 := h.dgs

set_option maxRecDepth 8000 in
set_option maxHeartbeats 1000000 in
theorem root_c : ∀ (m : Nat) {S M} (w : World) (_hst : St S M w) (_hG : Glob S) (vl : Value) (l : List Dg) (_hl : RSl S vl l) (_hm : l.length ≤ m) (_hm2 : m ≤ 1048576),
    Rets Tryd.prog 50 [vl] w fun v w' => v = dgV (rootM l) ∧ St S M w' := by
  intro m
  induction m with
  | zero => exact fun w hst hG vl l hl h0 h1 => root0_c w hst hG vl l hl (by omega)
  | succ m ih =>
    intro S M w hst hG vl l hl hm hm2
    by_cases h0 : l.length = 0
    · exact root0_c w hst hG vl l hl h0
    · by_cases h1 : l.length = 1
      · exact root1_c w hst hG vl l hl h1
      · have h2 : 2 ≤ l.length := by omega
        obtain ⟨hs1, hs2⟩ := splitM_spec h2
        have hE := Lib.hid (rootM_two h2)
        have hlen1 : (l.take (splitM l.length)).length ≤ m := by rw [List.length_take]; omega
        have hlen2 : (l.drop (splitM l.length)).length ≤ m := by rw [List.length_drop]; omega
        have hsp := fun {S M} (w : World) (hst : St S M w) => split_c w hst l.length h2 (by omega)
        have hl20 : l.length ≤ 1048576 := by omega
        have e9 : (l.drop (splitM l.length)).take (l.length - splitM l.length) = l.drop (splitM l.length) := List.take_of_length_le (by rw [List.length_drop]; exact Nat.le_refl _)
        have E9 := Lib.hid e9
        clear h0 h1 e9
        generalize hk : splitM l.length = k at *
        have Hk := Lib.hid hk
        clear hk
        unfold Rets
        go_enter Tryd.func50, Tryd.ntmps50
        repeat' (first | (((with_reducible refine Sl.k_call ?_; ((refine s_call (hsp _ hst) inX rfl ?_; clear hst; rintro v w ⟨rfl, hst⟩)))) <;> (try refine nY ?_) <;> (try replace hst := nH hst)) | ((fail_if_success (go_big_may)); (go_step)) | (((with_reducible refine Sl.k_call ?_; (refine s_qt hst (by exact qt_len evX asX inX) ?_))) <;> (try refine nY ?_)) | (with_reducible refine Sl.gate rfl ?_; (go_step)) | (((((refine s_alloc hst inX ?_; clear hst; intro bk w hst)))) <;> (try refine nY ?_) <;> (try replace hst := nH hst)))
        refine v_begin hst (by kernel_rfl) ?_; clear hst; intro ops; (try refine nY ?_)
        (refine t_qt 0 rfl (by kernel_rfl) rfl rfl (by exact qt_move evX) ?_) <;> (try refine nY ?_)
        (refine t_qt 1 rfl (by kernel_rfl) rfl rfl (by exact qt_move evX) ?_) <;> (try refine nY ?_)
        (refine t_qt 2 rfl (by kernel_rfl) rfl rfl (by exact qt_move evX) ?_) <;> (try refine nY ?_)
        ((refine t_ex 3 rfl (by kernel_rfl) rfl rfl (fun w hst => qt_slice (a := 0) (b := k) evX hl inX inX (.inl ⟨rfl, rfl⟩) (.inr ⟨.i64, by simp [evF, nth]⟩) (.inr ⟨.i64, k, by simp [evF, nth], by omega, by omega, rfl⟩) (by omega) (by omega) ) ?_; rintro  v3 hv3)) <;> (try refine nY ?_)
        (refine t_call 4 rfl (by kernel_rfl) rfl (fun S' M' w hS hM hst => ih w hst (hG.mono hS) v3 (l.take k) (hv3.mono hS) hlen1 (by omega)) inX rfl ?_) <;> (try refine nY ?_)
        (refine t_qt 5 rfl (by kernel_rfl) rfl rfl (by exact qt_move evX) ?_) <;> (try refine nY ?_)
        (refine t_qt 6 rfl (by kernel_rfl) rfl rfl (by exact qt_move evX) ?_) <;> (try refine nY ?_)
        (refine t_qt 7 rfl (by kernel_rfl) rfl rfl (by exact qt_move evX) ?_) <;> (try refine nY ?_)
        (refine t_qt 8 rfl (by kernel_rfl) rfl rfl (by exact qt_move evX) ?_) <;> (try refine nY ?_)
        ((refine t_ex 9 rfl (by kernel_rfl) rfl rfl (fun w hst => qt_slice (a := k) (b := l.length) evX hl inX inX (.inr ⟨.i64, by simp [evF, nth]⟩) (.inr ⟨.i64, by simp [evF, nth]⟩) (.inr ⟨.i64, l.length, by simp [evF, nth], by omega, by omega, rfl⟩) (by omega) (by omega) ) ?_; rintro  v9 hv9)) <;> (try refine nY ?_)
        (refine t_call 10 rfl (by kernel_rfl) rfl (fun S' M' w hS hM hst => ih w hst (hG.mono hS) v9 (l.drop k) (by have := hv9.mono hS; rwa [E9.out] at this) hlen2 (by omega)) inX rfl ?_) <;> (try refine nY ?_)
        (refine t_call 11 rfl (by kernel_rfl) rfl (fun S' M' w hS hM hst => node_c w hst (hG.mono hS) _ _ (rootM_len _) (rootM_len _)) inX rfl ?_) <;> (try refine nY ?_)
        refine v_one 12 rfl (by kernel_rfl) ?_; intro w hst K hK; (refine s_stD hst rfl BoxIn.h inX evX inX lenX ?_); clear hst; intro w hst; (try refine nY ?_); (try replace hst := nH hst); refine v_last hK hst ?_; clear hst hK K; (try clear w); (try refine nY ?_)
        refine v_done (by kernel_rfl) ?_; clear ops; intro w hst
        repeat' (((fail_if_success (go_big_may)); (go_step)))
        exact ret_D rfl hst rfl BoxIn.h inX inX ⟨_, rfl, by rw [hE.out], hst.drop⟩
end Go.Proofs.YtjapdhaimbalkaaDoor

/- Package merkle: proofs, walked. -/
--@opt
--@u32
--@hgp
--@flat
--@dg
namespace Go.Proofs.YtjapdhaimbalkaaDoor
set_option linter.unusedSimpArgs false
set_option linter.unusedVariables false
open Go.RowKit Go.Sl

theorem dgc_len (ds : List Dg) (h : ∀ d ∈ ds, d.l.length = 16) : (cF dgC ds).length = ds.length * 16 := by
  induction ds with
  | nil => rfl
  | cons d r ih =>
    have h1 := h d (.head _)
    have h2 := ih fun x hx => h x (.tail _ hx)
    have e : cF dgC (d :: r) = u8s d.l ++ cF dgC r := rfl
    rw [e, List.length_append, h2, u8s_length, h1, List.length_cons]
    omega
theorem proofF_len : ∀ (f : Nat) (l : List Dg) (i : Nat), ∀ d ∈ proofF f l i, d.l.length = 16
  | 0, _, _, d, h => by cases h
  | f + 1, l, i, d, h => by
    rw [proofF] at h
    split at h
    · cases h
    · split at h
      · rcases List.mem_append.1 h with h | h
        · exact proofF_len f _ _ d h
        · obtain rfl := List.mem_singleton.1 h; exact rootM_len _
      · rcases List.mem_append.1 h with h | h
        · exact proofF_len f _ _ d h
        · obtain rfl := List.mem_singleton.1 h; exact rootM_len _
theorem proofM_len (l : List Dg) (i : Nat) : ∀ d ∈ proofM l i, d.l.length = 16 := proofF_len _ _ _
theorem proofF_cnt : ∀ (f : Nat) (l : List Dg) (i : Nat), (proofF f l i).length ≤ f
  | 0, _, _ => by simp [proofF]
  | f + 1, l, i => by
    rw [proofF]
    split
    · simp
    · split
      · have := proofF_cnt f (l.take (splitM l.length)) i
        simp; omega
      · have := proofF_cnt f (l.drop (splitM l.length)) (i - splitM l.length)
        simp; omega
theorem proofM_cnt (l : List Dg) (i : Nat) : (proofM l i).length ≤ l.length := proofF_cnt _ _ _

end Go.Proofs.YtjapdhaimbalkaaDoor

/- Package merkle: Prove, Verify, walked. -/
--@opt
--@u32
--@hgp
--@flat
--@dg
namespace Go.Proofs.YtjapdhaimbalkaaDoor
set_option linter.unusedSimpArgs false
set_option linter.unusedVariables false
open Go.RowKit Go.Sl

theorem r_dg {S : Snap} {d : Dg} (h : d.l.length = 16) : Rep.R S (u8s d.l) d := by exact ⟨h, rl_u8 d.l⟩

end Go.Proofs.YtjapdhaimbalkaaDoor

/- Package merkle: the examples of the law's sanity function: plain facts; comparing lists of digests; leaves as bytes. -/
--@opt
--@u32
--@hgp
--@flat
--@dg
--@ex0
namespace Go.Proofs.YtjapdhaimbalkaaDoor
set_option linter.unusedSimpArgs false
set_option linter.unusedVariables false
open Go.RowKit Go.Sl

def digK {α : Type} (tag : Int) (parts : List (List UInt8)) (k : List UInt8 → α) : α := hashK (UInt8.ofNat tag.toNat :: joinB parts) fun h => fzBs (h.take 16) k
theorem digK_eq {α : Type} (tag : Int) (parts : List (List UInt8)) (k : List UInt8 → α) : digK tag parts k = k (dig tag parts) := by
  rw [digK, hashK_eq, fzBs_eq]; rfl
def dA : Dg := ⟨[1, 0, 0, 0, 0, 0, 0, 0, 0, 0, 0, 0, 0, 0, 0, 0]⟩
def dB : Dg := ⟨[2, 0, 0, 0, 0, 0, 0, 0, 0, 0, 0, 0, 0, 0, 0, 0]⟩
def dC : Dg := ⟨[3, 0, 0, 0, 0, 0, 0, 0, 0, 0, 0, 0, 0, 0, 0, 0]⟩
def dLeft : Dg := nodeM (leafM dA) (leafM dB)
def dRoot : Dg := nodeM dLeft (leafM dC)
set_option maxRecDepth 1000000 in
theorem differ : nodeM dLeft (leafM dA) ≠ dRoot := by
  have h : (digK 1 [dA.l] fun la => digK 1 [dB.l] fun lb => digK 1 [dC.l] fun lc => digK 2 [la, lb] fun left => digK 2 [left, la] fun x => digK 2 [left, lc] fun y => decide (x ≠ y)) = true := by decide +kernel
  simp only [digK_eq] at h
  intro e
  exact of_decide_eq_true h (congrArg Arr.l e)
theorem root3 : rootM [dA, dB, dC] = dRoot := rfl
theorem proof3 : proofM [dA, dB, dC] 2 = [dLeft] := rfl
theorem ver1 : verifyM dRoot 3 2 dC [dLeft] = true := by
  have h : verifyM (rootM [dA, dB, dC]) 3 2 dC (proofM [dA, dB, dC] 2) = true := verify_complete (l := [dA, dB, dC]) (i := 2) (by decide)
  exact h
theorem ver2 : verifyM dRoot 3 2 dA [dLeft] = false := by
  have h : foldV (sidesM 3 2) dA [dLeft] = nodeM dLeft (leafM dA) := rfl
  rw [verifyM, h, decide_eq_false differ]
  rfl
theorem ver3 : verifyM dRoot 3 1 dC [dLeft] = false := by
  have h : (sidesM 3 1).length = 2 := rfl
  rw [verifyM, h]
  rfl

theorem rl_dgs {S : Snap} (xs : List Dg) (h : ∀ d ∈ xs, d.l.length = 16) : RL S (cF dgC xs) xs := by
  refine ⟨dgc_len xs h, fun i x hx => ?_⟩
  obtain ⟨hi, rfl⟩ := List.getElem?_eq_some_iff.1 hx
  have : ((cF dgC xs).drop (i * 16)).take 16 = u8s xs[i].l := by
    clear hx
    induction xs generalizing i with
    | nil => simp at hi
    | cons y r ih =>
      have h1 := h y (.head _)
      have e : cF dgC (y :: r) = u8s y.l ++ cF dgC r := rfl
      cases i with
      | zero => rw [e, Nat.zero_mul, List.drop_zero, List.take_append_of_le_length (by rw [u8s_length, h1]; exact Nat.le_refl _), List.take_of_length_le (by rw [u8s_length, h1]; exact Nat.le_refl _)]; rfl
      | succ i =>
        rw [e, List.drop_append, List.drop_of_length_le (by rw [u8s_length, h1]; omega), List.nil_append, u8s_length, h1, show (i + 1) * 16 - 16 = i * 16 by omega]
        exact ih (fun d hd => h d (.tail _ hd)) i (by simpa using hi)
  show Rep.R S (((cF dgC xs).drop (i * 16)).take 16) xs[i]
  rw [this]
  exact r_dg (h _ (List.getElem_mem hi))
theorem lit_dgs {S : Snap} {M : List Chunk} {w : World} {v : Value} {n : Nat} {c : List Value} {T : TypeId} (xs : List Dg) (hx : ∀ d ∈ xs, d.l.length = 16) (h : St S (.sl v T 16 n c :: M) w) (hc : c = cF dgC xs) (hn : n = xs.length) : ∃ S', S.Le S' ∧ St S' M w ∧ RSl S' v xs := by
  subst hc
  exact St.freeze (α := Dg) h (rl_dgs xs hx) hn

set_option maxRecDepth 8000 in
set_option maxHeartbeats 400000 in
theorem same_c {S M} (w : World) (hst : St S M w) (va vb : Value) (a b : List Dg) (ha : RSl S va a) (hb : RSl S vb b) (hma : a.length ≤ 1048576) (hmb : b.length ≤ 1048576) :
    Rets Tryd.prog 68 [va, vb] w fun v w' => v = .bool (decide (a = b)) ∧ St S M w' := by
  unfold Rets
  by_cases hl : a.length = b.length
  · have h1 : ((a.length : Int) != (b.length : Int)) = false := bne_eq_false_iff_eq.2 (by omega)
    have hll : a.length ≤ b.length ∧ b.length ≤ a.length := by omega
    clear hl
    go_enter Tryd.func68, Tryd.ntmps68
    repeat' (first | ((fail_if_success (go_big_may)); (go_step)) | (((with_reducible refine Sl.k_call ?_; (refine s_qt hst (by exact qt_len evX asX inX) ?_))) <;> (try refine nY ?_)) | (with_reducible refine Sl.gate rfl ?_; (go_step)))
    clear h1
    go_loopw [5] (fun v wr => ∃ i : Nat, i ≤ a.length ∧ v = .int .i64 i ∧ Hid (a.take i = b.take i) ∧ St S M wr) (fun v _ => a.length - (intOf v).toNat)
    case atStart => exact ⟨0, Nat.zero_le _, rfl, Lib.hid rfl, hst⟩
    case round =>
      clear hst
      obtain ⟨i, hi, rfl, ht, hst⟩ := hrel
      by_cases hlt : i < a.length
      · have hlb : i < b.length := by omega
        have hda := ha.dgs a[i] (List.getElem_mem hlt)
        have hdb := hb.dgs b[i] (List.getElem_mem hlb)
        repeat' (first | ((fail_if_success (go_big_may)); (go_step)) | (((with_reducible refine Sl.k_call ?_; (refine s_qt hst (by exact qt_len evX asX inX) ?_))) <;> (try refine nY ?_)) | (with_reducible refine Sl.gate rfl ?_; (go_step)))
        refine v_begin hst (by kernel_rfl) ?_; clear hst; intro ops; (try refine nY ?_)
        (refine t_qt 0 rfl (by kernel_rfl) rfl rfl (by exact qt_move evX) ?_) <;> (try refine nY ?_)
        (refine t_qt 1 rfl (by kernel_rfl) rfl rfl (by exact qt_move evX) ?_) <;> (try refine nY ?_)
        ((refine t_ex0 2 rfl (by kernel_rfl) rfl rfl (qt_index evX asX rfl inX inX omX omX) ?_; rintro v hp; (try simp only [Int.toNat_natCast, Int.toNat_natCast_add_one, Int.reduceToNat] at hp))) <;> (try refine nY ?_)
        (refine t_qt 3 rfl (by kernel_rfl) rfl rfl (by exact qt_ldp_flat evX asX inX inX rfl) ?_) <;> (try refine nY ?_)
        (refine t_qt 4 rfl (by kernel_rfl) rfl rfl (by exact qt_move evX) ?_) <;> (try refine nY ?_)
        (refine t_qt 5 rfl (by kernel_rfl) rfl rfl (by exact qt_move evX) ?_) <;> (try refine nY ?_)
        ((refine t_ex0 6 rfl (by kernel_rfl) rfl rfl (qt_index evX asX rfl inX inX omX omX) ?_; rintro v hp; (try simp only [Int.toNat_natCast, Int.toNat_natCast_add_one, Int.reduceToNat] at hp))) <;> (try refine nY ?_)
        (refine t_qt 7 rfl (by kernel_rfl) rfl rfl (by exact qt_ldp_flat evX asX inX inX rfl) ?_) <;> (try refine nY ?_)
        (refine t_qt 8 rfl (by kernel_rfl) rfl rfl (qt_neqK rfl rfl (r_dg hda) (r_dg hdb) inX inX inferInstance) ?_) <;> (try refine nY ?_)
        refine v_done (by kernel_rfl) ?_; clear ops; intro w hst
        repeat' (first | ((fail_if_success (go_big_may)); (go_step)) | (with_reducible refine Sl.gate rfl ?_; (go_step)))
        · have hne : a[i] ≠ b[i] := by simpa using (by assumption : (!decide (a[i] = b[i])) = true)
          have hE : Hid (decide (a = b) = false) := Lib.hid (decide_eq_false fun e => hne (by subst e; rfl))
          clear hne
          go_ret
          exact ⟨_, rfl, by rw [hE.out]; rfl, hst⟩
        · have he : a[i] = b[i] := by simpa using (by assumption : (!decide (a[i] = b[i])) = false)
          have hE := Lib.hid ((take_succ_eq ht.out hlt hlb).2 he)
          clear he
          go_roundw
          case rel => exact ⟨i + 1, by omega, by go_num, hE, hst⟩
          case measure => simp [intOf]; omega
      · have hab : a = b := by
          have := ht.out
          rwa [List.take_of_length_le (by omega), List.take_of_length_le (by omega)] at this
        subst hab
        repeat' (first | ((fail_if_success (go_big_may)); (go_step)) | (((with_reducible refine Sl.k_call ?_; (refine s_qt hst (by exact qt_len evX asX inX) ?_))) <;> (try refine nY ?_)) | (with_reducible refine Sl.gate rfl ?_; (go_step)))
        go_ret
        exact ⟨_, rfl, by simp, hst⟩
  · have h1 : ((a.length : Int) != (b.length : Int)) = true := bne_iff_ne.2 (by omega)
    have hab : Hid (decide (a = b) = false) := Lib.hid (decide_eq_false fun e => hl (by rw [e]))
    clear hl
    go_enter Tryd.func68, Tryd.ntmps68
    repeat' (first | ((fail_if_success (go_big_may)); (go_step)) | (((with_reducible refine Sl.k_call ?_; (refine s_qt hst (by exact qt_len evX asX inX) ?_))) <;> (try refine nY ?_)) | (with_reducible refine Sl.gate rfl ?_; (go_step)))
    go_ret
    exact ⟨_, rfl, by rw [hab.out]; rfl, hst⟩

end Go.Proofs.YtjapdhaimbalkaaDoor
