/- The statement RegisterSeparatesFields. -/
import Derived.Deep.Cut
import Derived.Test.YtcobalpbencboaaDoorBc
import Derived.Test.YtcobalpbencboaaDoorBi
import Derived.Test.YtcobalpbencboaaDoorBb
import Derived.Test.YtcobalpbencboaaDoorBj

/- Package wire: plain mathematics: what was encoded is decoded. -/
namespace Go.Proofs.YtcobalpbencboaaDoor
set_option linter.unusedSimpArgs false
set_option linter.unusedVariables false
open Go.RowKit Go.Sl

theorem unzig_zig {n : Int} : unzig (zig n) = n := by
  unfold unzig zig
  split <;> split <;> omega

theorem getF_encF : ∀ (f k v U : Nat) (tail : List UInt8), f + k = 10 → 1 ≤ f → v < 128 ^ f → (0 < k → 0 < v) → U + v * 2 ^ (7 * k) < 2 ^ 64 →
    getF f k U (encF f v ++ tail) = (unzig (U + v * 2 ^ (7 * k)), k + (encF f v).length, 0)
  | 0, _, _, _, _, _, h, _, _, _ => by omega
  | f + 1, k, v, U, tail, hk, _, hv, h0, hlt => by
    by_cases hs : v < 128
    · rw [encF_one hs]
      have hc : (UInt8.ofNat v).toNat = v := by rw [UInt8.toNat_ofNat']; omega
      have hk9 : ¬ (k = 9 ∧ 1 < v) := by
        rintro ⟨rfl, h⟩
        have : 2 * 2 ^ (7 * 9) ≤ v * 2 ^ (7 * 9) := Nat.mul_le_mul_right _ h
        omega
      show getF (f + 1) k U (UInt8.ofNat v :: tail) = _
      rw [getF_ok (by rw [hc]; omega) (by rw [hc]; rintro (⟨h1, h2⟩ | h); exact absurd (h0 h2) (by omega); exact hk9 h), hc, Nat.mod_eq_of_lt hs]
      rfl
    · rw [encF_more hs]
      have hc : (UInt8.ofNat (128 + v % 128)).toNat = 128 + v % 128 := by rw [UInt8.toNat_ofNat']; omega
      show getF (f + 1) k U (UInt8.ofNat (128 + v % 128) :: (encF f (v / 128) ++ tail)) = _
      have hf : 1 ≤ f := by
        rcases Nat.eq_zero_or_pos f with rfl | h
        · simp at hv; omega
        · exact h
      have e : U + v % 128 * 2 ^ (7 * k) + v / 128 * 2 ^ (7 * (k + 1)) = U + v * 2 ^ (7 * k) := by
        rw [Nat.mul_succ, Nat.pow_add, Nat.mul_comm (2 ^ (7 * k)), ← Nat.mul_assoc, Nat.add_assoc, ← Nat.add_mul]
        congr 2
        omega
      rw [getF_more (by rw [hc]; omega), hc, show (128 + v % 128) % 128 = v % 128 by omega,
        getF_encF f (k + 1) (v / 128) _ tail (by omega) hf (Nat.div_lt_of_lt_mul (by rw [← Nat.pow_succ']; exact hv)) (fun _ => by omega) (by rw [e]; exact hlt), e]
      simp only [List.length_cons]
      congr 2
      omega

/-- Decoding the encoding of an integer, whatever follows it. -/
theorem getI_encI {n : Int} (hn : I64 n) (tail : List UInt8) : getI (encI n ++ tail) = (n, (encI n).length, 0) := by
  have hz := zig_lt hn
  have := getF_encF 10 0 (zig n) 0 tail rfl (by omega) (Nat.lt_trans hz pow10) (fun h => by omega) (by simpa using hz)
  unfold getI encI
  rw [this]
  simp [unzig_zig]

theorem encI_app {m n : Int} (hm : I64 m) (hn : I64 n) {a b : List UInt8} (h : encI m ++ a = encI n ++ b) : m = n ∧ a = b := by
  have h1 := getI_encI hm a
  rw [h, getI_encI hn b] at h1
  have e : n = m := congrArg Prod.fst h1
  subst e
  exact ⟨rfl, List.append_cancel_left h⟩

theorem encI_inj {m n : Int} (hm : I64 m) (hn : I64 n) : encI m = encI n ↔ m = n :=
  ⟨fun h => (encI_app (a := []) (b := []) hm hn (by rw [h])).1, fun h => by rw [h]⟩

theorem flat_inj : ∀ {a b : List Int}, (∀ x ∈ a, I64 x) → (∀ x ∈ b, I64 x) → a.length = b.length → a.flatMap encI = b.flatMap encI → a = b
  | [], [], _, _, _, _ => rfl
  | x :: a, y :: b, ha, hb, hl, h => by
    rw [List.flatMap_cons, List.flatMap_cons] at h
    obtain ⟨rfl, h'⟩ := encI_app (ha x (.head _)) (hb y (.head _)) h
    rw [flat_inj (fun z hz => ha z (.tail _ hz)) (fun z hz => hb z (.tail _ hz)) (by simpa using hl) h']

theorem encL_inj {a b : List Int} (ha : ∀ x ∈ a, I64 x) (hb : ∀ x ∈ b, I64 x) (hla : a.length ≤ 1048576) (hlb : b.length ≤ 1048576) : encL a = encL b ↔ a = b := by
  constructor
  · intro h
    obtain ⟨h1, h2⟩ := encI_app (nat_i64 hla) (nat_i64 hlb) h
    exact flat_inj ha hb (by omega) h2
  · rintro rfl; rfl
end Go.Proofs.YtcobalpbencboaaDoor

/- Package register: plain mathematics: which parts of a log the registers depend on. -/
namespace Go.Proofs.YtcobalpbencboaaDoor
set_option linter.unusedSimpArgs false
set_option linter.unusedVariables false
open Go.RowKit Go.Sl

theorem ext_code {r1 r2 : Rg} {h1 h2 : Hd} (hr : r1.1 = r2.1) (e1 : h1.1 = h2.1) (e2 : h1.2.2 = h2.2.2) : (extM r1 h1).1 = (extM r2 h2).1 := by
  simp only [extM]
  rw [hr, e1, e2]
theorem ext_input {r1 r2 : Rg} {h1 h2 : Hd} (hr : r1.2.1 = r2.2.1) (e1 : h1.2.1 = h2.2.1) : (extM r1 h1).2.1 = (extM r2 h2).2.1 := by
  simp only [extM]
  rw [hr, e1]
theorem head_code (a1 : Dg) (a2 b2 : List Int) (a3 : List Int × List Int × Int × Unit) : (headM (a1, a2, a3)).1 = (headM (a1, b2, a3)).1 ∧ (headM (a1, a2, a3)).2.2 = (headM (a1, b2, a3)).2.2 := by
  simp only [headM]
  exact ⟨trivial, trivial⟩
theorem head_input (a1 b1 : Dg) (a2 : List Int) (a3 b3 : List Int × List Int × Int × Unit) : (headM (a1, a2, a3)).2.1 = (headM (b1, a2, b3)).2.1 := by
  simp only [headM]
theorem fold_code : ∀ (l1 l2 : List Ev) (r1 r2 : Rg), l1.map (fun e => (e.1, e.2.2)) = l2.map (fun e => (e.1, e.2.2)) → r1.1 = r2.1 → (l1.foldl (fun r e => extM r (headM e)) r1).1 = (l2.foldl (fun r e => extM r (headM e)) r2).1
  | [], [], _, _, _, h => h
  | [], _ :: _, _, _, h, _ => by cases h
  | _ :: _, [], _, _, h, _ => by cases h
  | a :: l1, b :: l2, r1, r2, h, hr => by
    simp only [List.map_cons, List.cons.injEq] at h
    obtain ⟨h1, h2⟩ := h
    rw [List.foldl_cons, List.foldl_cons]
    refine fold_code l1 l2 _ _ h2 ?_
    obtain ⟨a1, a2, a3⟩ := a
    obtain ⟨b1, b2, b3⟩ := b
    simp only [Prod.mk.injEq] at h1
    obtain ⟨rfl, rfl⟩ := h1
    have := head_code a1 a2 b2 a3
    exact ext_code hr this.1 this.2
theorem fold_input : ∀ (l1 l2 : List Ev) (r1 r2 : Rg), l1.map (fun e => e.2.1) = l2.map (fun e => e.2.1) → r1.2.1 = r2.2.1 → (l1.foldl (fun r e => extM r (headM e)) r1).2.1 = (l2.foldl (fun r e => extM r (headM e)) r2).2.1
  | [], [], _, _, _, h => h
  | [], _ :: _, _, _, h, _ => by cases h
  | _ :: _, [], _, _, h, _ => by cases h
  | a :: l1, b :: l2, r1, r2, h, hr => by
    simp only [List.map_cons, List.cons.injEq] at h
    obtain ⟨h1, h2⟩ := h
    rw [List.foldl_cons, List.foldl_cons]
    refine fold_input l1 l2 _ _ h2 ?_
    obtain ⟨a1, a2, a3⟩ := a
    obtain ⟨b1, b2, b3⟩ := b
    obtain rfl : a2 = b2 := h1
    exact ext_input hr (head_input a1 b1 a2 a3 b3)

/-- The log with other inputs; the inputs with another log. -/
def codeL (log other : List Ev) (n : Nat) : List Ev := (List.range n).filterMap fun i => match log[i]?, other[i]? with | some a, some b => some (a.1, b.2.1, a.2.2) | _, _ => none
theorem codeL_succ {log other : List Ev} {i : Nat} (h : i < log.length) (h2 : i < other.length) : codeL log other (i + 1) = codeL log other i ++ [(log[i].1, other[i].2.1, log[i].2.2)] := by
  rw [codeL, List.range_succ, List.filterMap_append]
  simp [codeL, List.getElem?_eq_getElem h, List.getElem?_eq_getElem h2]
theorem codeL_map {log other : List Ev} : ∀ (n : Nat), n ≤ log.length → n ≤ other.length → (codeL log other n).map (fun e => (e.1, e.2.2)) = (log.take n).map (fun e => (e.1, e.2.2))
  | 0, _, _ => by simp [codeL]
  | n + 1, h, h2 => by
    rw [codeL_succ (by omega) (by omega), List.map_append, codeL_map n (by omega) (by omega), List.take_succ_eq_append_getElem (by omega), List.map_append]
    rfl
theorem codeL_map2 {log other : List Ev} : ∀ (n : Nat), n ≤ log.length → n ≤ other.length → (codeL other log n).map (fun e => e.2.1) = (log.take n).map (fun e => e.2.1)
  | 0, _, _ => by simp [codeL]
  | n + 1, h, h2 => by
    rw [codeL_succ (by omega) (by omega), List.map_append, codeL_map2 n (by omega) (by omega), List.take_succ_eq_append_getElem (by omega), List.map_append]
    rfl
theorem codeL_len {log other : List Ev} : ∀ (n : Nat), n ≤ log.length → n ≤ other.length → (codeL log other n).length = n
  | 0, _, _ => by simp [codeL]
  | n + 1, h, h2 => by rw [codeL_succ (by omega) (by omega), List.length_append, codeL_len n (by omega) (by omega)]; rfl
theorem code_same (m : Dg) {log other : List Ev} (h : log.length ≤ other.length) : (foldM m (codeL log other log.length)).1 = (foldM m log).1 :=
  fold_code _ _ _ _ (by rw [codeL_map _ (Nat.le_refl _) h, List.take_length]) rfl
theorem input_same (m : Dg) {log other : List Ev} (h : log.length ≤ other.length) : (foldM m (codeL other log log.length)).2.1 = (foldM m log).2.1 :=
  fold_input _ _ _ _ (by rw [codeL_map2 _ (Nat.le_refl _) h, List.take_length]) rfl
theorem codeL_mem {log other : List Ev} {P1 P2 : Ev → Prop} (h1 : ∀ e ∈ log, P1 e) (h2 : ∀ e ∈ other, P2 e) {Q : Ev → Prop} (hq : ∀ a b, P1 a → P2 b → Q (a.1, b.2.1, a.2.2)) (n : Nat) : ∀ e ∈ codeL log other n, Q e := by
  intro e he
  obtain ⟨i, _, hi⟩ := List.mem_filterMap.1 he
  split at hi
  · rename_i a b ha hb
    cases hi
    exact hq a b (h1 a (List.mem_of_getElem? ha)) (h2 b (List.mem_of_getElem? hb))
  · cases hi
end Go.Proofs.YtcobalpbencboaaDoor

/- Package register: plain mathematics: the encodings of a head's fields tell them apart. -/
namespace Go.Proofs.YtcobalpbencboaaDoor
set_option linter.unusedSimpArgs false
set_option linter.unusedVariables false
open Go.RowKit Go.Sl

theorem encB_app {s t a b : List UInt8} (hs : s.length ≤ 1048576) (ht : t.length ≤ 1048576) (h : encB s ++ a = encB t ++ b) : s = t ∧ a = b := by
  unfold encB at h
  rw [List.append_assoc, List.append_assoc] at h
  obtain ⟨h1, h2⟩ := encI_app (by unfold I64; omega) (by unfold I64; omega) h
  exact List.append_inj h2 (by omega)
/-- All fields of a head but its inputs, encoded. -/
def hbM (h : Hd) : List UInt8 := encB h.1.l ++ (encB (encI h.2.2.1) ++ (encB h.2.2.2.1.l ++ (encB h.2.2.2.2.1.l ++ encB (encI h.2.2.2.2.2.1))))
theorem hbM_inj {h g : Hd} (oh : HdOk h) (og : HdOk g) : hbM h = hbM g ↔ (h.1 = g.1 ∧ h.2.2 = g.2.2) := by
  constructor
  · intro e
    unfold hbM at e
    have i1 := encI_len h.2.2.1
    have i2 := encI_len g.2.2.1
    have i3 := encI_len h.2.2.2.2.2.1
    have i4 := encI_len g.2.2.2.2.2.1
    have l1 := oh.a
    have l2 := oh.d
    have l3 := oh.e
    have k1 := og.a
    have k2 := og.d
    have k3 := og.e
    obtain ⟨e1, e⟩ := encB_app (by omega) (by omega) e
    obtain ⟨e2, e⟩ := encB_app (by omega) (by omega) e
    obtain ⟨e3, e⟩ := encB_app (by omega) (by omega) e
    obtain ⟨e4, e⟩ := encB_app (by omega) (by omega) e
    have e : encB (encI h.2.2.2.2.2.1) ++ [] = encB (encI g.2.2.2.2.2.1) ++ [] := by rw [List.append_nil, List.append_nil]; exact e
    obtain ⟨e5, _⟩ := encB_app (by omega) (by omega) e
    replace e2 := (encI_inj oh.c og.c).1 e2
    replace e5 := (encI_inj oh.f og.f).1 e5
    clear e i1 i2 i3 i4 l1 l2 l3 k1 k2 k3 oh og
    obtain ⟨⟨a1⟩, a2, a3, ⟨a4⟩, ⟨a5⟩, a6, a7⟩ := h
    obtain ⟨⟨b1⟩, b2, b3, ⟨b4⟩, ⟨b5⟩, b6, b7⟩ := g
    simp only at e1 e2 e3 e4 e5
    subst e1 e2 e3 e4 e5
    exact ⟨rfl, rfl⟩
  · rintro ⟨e1, e2⟩
    unfold hbM
    rw [e1, e2]
end Go.Proofs.YtcobalpbencboaaDoor

/- Package register: heads compared. -/
namespace Go.Proofs.YtcobalpbencboaaDoor
set_option linter.unusedSimpArgs false
set_option linter.unusedVariables false
open Go.RowKit Go.Sl
instance keyI : Key Tryd.prog 3 Int 1 := key_int (by kernel_rfl)
instance key_hd : Key Tryd.prog 44 Hd 3 := by
  refine key_struct (d := 2) Tryd.underlying44 (by kernel_rfl) (by kernel_rfl) ?_
  simp only [List.toList_toArray]
  haveI k6 : KeyFs Tryd.prog [] 66 Unit 0 := keyFs_nil
  exact keyFs_cons (d := 2) (d' := 2) rfl (by kernel_rfl) (kb := keyFs_cons (d := 2) (d' := 2) rfl (by kernel_rfl) (kb := keyFs_cons (d := 1) (d' := 2) rfl (by kernel_rfl) (kb := keyFs_cons (d := 2) (d' := 2) rfl (by kernel_rfl) (kb := keyFs_cons (d := 2) (d' := 1) rfl (by kernel_rfl) (kb := keyFs_cons (d := 1) (d' := 0) rfl (by kernel_rfl) (kb := k6))))))
instance eqt_hd : EqTy Tryd.prog 44 := ⟨by kernel_rfl, by kernel_rfl, by kernel_rfl⟩

instance decHd : DecidableEq Hd := @instDecidableEqProd _ _ inferInstance (@instDecidableEqProd _ _ inferInstance (@instDecidableEqProd _ _ inferInstance (@instDecidableEqProd Dg (Dg × Int × Unit) inferInstance inferInstance)))
end Go.Proofs.YtcobalpbencboaaDoor

/- The statement RegisterSeparatesFields, walked. -/
--@u32
--@hgp
--@flat
--@dg
--@ex0
namespace Go.Proofs.YtcobalpbencboaaDoor
set_option linter.unusedSimpArgs false
set_option linter.unusedVariables false
open Go.RowKit Go.Sl

theorem encB_le (s : List UInt8) : (encB s).length ≤ 10 + s.length := by
  have := encI_len s.length
  unfold encB; rw [List.length_append]; omega

set_option maxRecDepth 8000 in
set_option maxHeartbeats 2000000 in
theorem hb_c {S M} (w : World) (hst : St S M w) (h : Hd) (hh : HdOk h) :
    Rets Tryd.prog 37 [hdV h] w fun v w' => ∃ S', S.Le S' ∧ RSl S' v (hbM h) ∧ v.oneCell' = true ∧ St S' M w' := by
  unfold Rets
  have ha := hh.a
  have hd := hh.d
  have he := hh.e
  have hc64 := hh.c
  have hf64 := hh.f
  have i1 := encI_len h.2.2.1
  have i2 := encI_len h.2.2.2.2.2.1
  have j1 := encB_le h.1.l
  have j2 := encB_le (encI h.2.2.1)
  have j3 := encB_le h.2.2.2.1.l
  have j4 := encB_le h.2.2.2.2.1.l
  have j5 := encB_le (encI h.2.2.2.2.2.1)
  go_enter Tryd.func37, Tryd.ntmps37
  repeat' ((fail_if_success (with_reducible show Code.wp _ (Code.region 1 _ _) _ _ _)); first | ((fail_if_success (go_big_may)); (go_step)) | (((((refine s_box hst evX rfl ?_; clear hst; intro bx w hst)))) <;> (try refine nY ?_) <;> (try replace hst := nH hst)))
  obtain ⟨S1, hS1, hst, hp⟩ := pt_box (α := Hd) hst (r_hd hh) (Rep.len (S := S) (r_hd hh))
  have hst := hst.nil 5 1
  repeat' (first | ((first | (with_reducible (refine Sl.k_field ?_; refine s_ex hst (qt_fieldp evX hp inX inX rfl) ?_; rintro vf hpf)) | (with_reducible (refine s_ex hst (qt_dgSl evX asX) ?_; rintro v6 hv6)) | (with_reducible refine Sl.k_conv ?_; refine s_stringI hst evX asX inX inX inX ?_)) <;> (try refine nY ?_)) | (((with_reducible refine Sl.k_call ?_; ((refine s_call (bytes_c _ hst h.1.l (by omega)) inX rfl ?_; clear hst; rintro v w hst)))) <;> (try refine nY ?_) <;> (try replace hst := nH hst)) | ((fail_if_success (go_big_may)); (go_step)))
  refine s_append (j := 0) hst evX evX SlIn.h rfl inX inX inX (u8s_one _) (by omega) (by omega) (by decide) ?_
  clear hst; intro v' w hst
  (try refine nY ?_)
  (try replace hst := nH hst)
  replace hst := hst.drop
  repeat' (first | ((first | (with_reducible (refine Sl.k_field ?_; refine s_ex hst (qt_fieldp evX hp inX inX rfl) ?_; rintro vf hpf)) | (with_reducible refine Sl.k_conv ?_; refine s_stringI hst evX asX inX inX inX ?_)) <;> (try refine nY ?_)) | (((with_reducible refine Sl.k_call ?_; ((refine s_call (int_f _ hst _ hc64) inX rfl ?_; clear hst; rintro v w ⟨S2, hS2, hv2, hv21, hst⟩)))) <;> (try refine nY ?_) <;> (try replace hst := nH hst)) | ((fail_if_success (go_big_may)); (go_step)) | (((with_reducible refine Sl.k_load ?_; ((refine s_ex hst (qt_ldp_int evX asX inX) ?_; rintro v ⟨rfl, hI⟩)))) <;> (try refine nY ?_)))
  replace hp := hp.mono hS2
  repeat' ((((with_reducible refine Sl.k_call ?_; ((refine s_call (bytes_c _ hst (encI h.2.2.1) (by omega)) inX rfl ?_; clear hst; rintro v w hst)))) <;> (try refine nY ?_) <;> (try replace hst := nH hst)))
  refine s_append (j := 0) hst evX evX SlIn.h rfl inX inX inX (u8s_one _) (by omega) (by omega) (by decide) ?_
  clear hst; intro v' w hst
  (try refine nY ?_)
  (try replace hst := nH hst)
  replace hst := hst.drop
  repeat' (first | ((first | (with_reducible (refine Sl.k_field ?_; refine s_ex hst (qt_fieldp evX hp inX inX rfl) ?_; rintro vf hpf)) | (with_reducible (refine s_ex hst (qt_dgSl evX asX) ?_; rintro v6 hv6)) | (with_reducible refine Sl.k_conv ?_; refine s_stringI hst evX asX inX inX inX ?_)) <;> (try refine nY ?_)) | (((with_reducible refine Sl.k_call ?_; ((refine s_call (bytes_c _ hst h.2.2.2.1.l (by omega)) inX rfl ?_; clear hst; rintro v w hst)))) <;> (try refine nY ?_) <;> (try replace hst := nH hst)) | ((fail_if_success (go_big_may)); (go_step)))
  refine s_append (j := 0) hst evX evX SlIn.h rfl inX inX inX (u8s_one _) (by omega) (by omega) (by decide) ?_
  clear hst; intro v' w hst
  (try refine nY ?_)
  (try replace hst := nH hst)
  replace hst := hst.drop
  repeat' (first | ((first | (with_reducible (refine Sl.k_field ?_; refine s_ex hst (qt_fieldp evX hp inX inX rfl) ?_; rintro vf hpf)) | (with_reducible (refine s_ex hst (qt_dgSl evX asX) ?_; rintro v6 hv6)) | (with_reducible refine Sl.k_conv ?_; refine s_stringI hst evX asX inX inX inX ?_)) <;> (try refine nY ?_)) | (((with_reducible refine Sl.k_call ?_; ((refine s_call (bytes_c _ hst h.2.2.2.2.1.l (by omega)) inX rfl ?_; clear hst; rintro v w hst)))) <;> (try refine nY ?_) <;> (try replace hst := nH hst)) | ((fail_if_success (go_big_may)); (go_step)))
  refine s_append (j := 0) hst evX evX SlIn.h rfl inX inX inX (u8s_one _) (by omega) (by omega) (by decide) ?_
  clear hst; intro v' w hst
  (try refine nY ?_)
  (try replace hst := nH hst)
  replace hst := hst.drop
  repeat' (first | ((first | (with_reducible (refine Sl.k_field ?_; refine s_ex hst (qt_fieldp evX hp inX inX rfl) ?_; rintro vf hpf)) | (with_reducible refine Sl.k_conv ?_; refine s_stringI hst evX asX inX inX inX ?_)) <;> (try refine nY ?_)) | (((with_reducible refine Sl.k_call ?_; ((refine s_call (int_f _ hst _ hf64) inX rfl ?_; clear hst; rintro v w ⟨S3, hS3, hv3, hv31, hst⟩)))) <;> (try refine nY ?_) <;> (try replace hst := nH hst)) | ((fail_if_success (go_big_may)); (go_step)) | (((with_reducible refine Sl.k_load ?_; ((refine s_ex hst (qt_ldp_int evX asX inX) ?_; rintro v ⟨rfl, hI⟩)))) <;> (try refine nY ?_)))
  replace hp := hp.mono hS3
  repeat' ((((with_reducible refine Sl.k_call ?_; ((refine s_call (bytes_c _ hst (encI h.2.2.2.2.2.1) (by omega)) inX rfl ?_; clear hst; rintro v w hst)))) <;> (try refine nY ?_) <;> (try replace hst := nH hst)))
  refine s_append (j := 0) hst evX evX SlIn.h rfl inX inX inX (u8s_one _) (by omega) (by omega) (by decide) ?_
  clear hst; intro v' w hst
  (try refine nY ?_)
  (try replace hst := nH hst)
  replace hst := hst.drop
  repeat' (((fail_if_success (go_big_may)); (go_step)))
  have hone := sl_one hst
  go_ret
  have hE : u8s (hbM h) = u8s (encB h.1.l) ++ (u8s (encB (encI h.2.2.1)) ++ (u8s (encB h.2.2.2.1.l) ++ (u8s (encB h.2.2.2.2.1.l) ++ u8s (encB (encI h.2.2.2.2.2.1))))) := by unfold hbM; simp only [u8s_append]
  have hL : (hbM h).length = (encB h.1.l).length + ((encB (encI h.2.2.1)).length + ((encB h.2.2.2.1.l).length + ((encB h.2.2.2.2.1.l).length + (encB (encI h.2.2.2.2.2.1)).length))) := by unfold hbM; simp only [List.length_append]
  simp only [List.append_assoc, List.nil_append] at hst
  rw [← hE] at hst
  obtain ⟨S4, hS4, hst, hv⟩ := St.freeze (α := UInt8) hst (rl_u8 (hbM h)) (by omega)
  exact ⟨_, rfl, S4, ((hS1.trans hS2).trans hS3).trans hS4, hv, hone, hst⟩

/-- The ways in which two heads differ, or agree. -/
theorem hd_cases (h g : Hd) : (h.1 ≠ g.1 ∧ decide (h.1 = g.1 ∧ h.2.2 = g.2.2) = false) ∨ (h.1 = g.1 ∧ (h.2.2.1 == g.2.2.1) = false ∧ decide (h.1 = g.1 ∧ h.2.2 = g.2.2) = false) ∨
    (h.1 = g.1 ∧ (h.2.2.1 == g.2.2.1) = true ∧ h.2.2.2.1 ≠ g.2.2.2.1 ∧ decide (h.1 = g.1 ∧ h.2.2 = g.2.2) = false) ∨ (h.1 = g.1 ∧ (h.2.2.1 == g.2.2.1) = true ∧ h.2.2.2.1 = g.2.2.2.1 ∧ h.2.2.2.2.1 ≠ g.2.2.2.2.1 ∧ decide (h.1 = g.1 ∧ h.2.2 = g.2.2) = false) ∨
    (h.1 = g.1 ∧ (h.2.2.1 == g.2.2.1) = true ∧ h.2.2.2.1 = g.2.2.2.1 ∧ h.2.2.2.2.1 = g.2.2.2.2.1 ∧ (h.2.2.2.2.2.1 == g.2.2.2.2.2.1) = false ∧ decide (h.1 = g.1 ∧ h.2.2 = g.2.2) = false) ∨
    (h.1 = g.1 ∧ (h.2.2.1 == g.2.2.1) = true ∧ h.2.2.2.1 = g.2.2.2.1 ∧ h.2.2.2.2.1 = g.2.2.2.2.1 ∧ (h.2.2.2.2.2.1 == g.2.2.2.2.2.1) = true ∧ decide (h.1 = g.1 ∧ h.2.2 = g.2.2) = true) := by
  obtain ⟨a1, a2, a3, a4, a5, a6, a7⟩ := h
  obtain ⟨b1, b2, b3, b4, b5, b6, b7⟩ := g
  simp only [Prod.mk.injEq, beq_iff_eq, beq_eq_false_iff_ne, decide_eq_true_eq, decide_eq_false_iff_not]
  by_cases q1 : a1 = b1 <;> by_cases q2 : a3 = b3 <;> by_cases q3 : a4 = b4 <;> by_cases q4 : a5 = b5 <;> by_cases q5 : a6 = b6 <;> simp [q1, q2, q3, q4, q5]

set_option maxRecDepth 8000 in
set_option maxHeartbeats 4000000 in
theorem sepf_c {S M} (w : World) (hst : St S M w) (hG : Glob S) (h : Hd) (oh : HdOk h) (g : Hd) (og : HdOk g) :
    Rets Tryd.prog 13 [hdV h, hdV g] w fun v w' => v = .bool true ∧ St S M w' := by
  unfold Rets
  have law := hbM_inj oh og
  have cX := fun {S : Snap} {M : List Chunk} (w : World) (hst : St S M w) (hG : Glob S) => extend_c w hst hG rg0 rg0_ok h oh
  have cY := fun {S : Snap} {M : List Chunk} (w : World) (hst : St S M w) (hG : Glob S) => extend_c w hst hG rg0 rg0_ok g og
  have okX := extM_ok rg0 h
  have okY := extM_ok rg0 g
  have f1 : h.1 = g.1 → h.2.2 = g.2.2 → (extM rg0 h).1 = (extM rg0 g).1 := fun a b => ext_code rfl a b
  have f2 : h.2.1 = g.2.1 → (extM rg0 h).2.1 = (extM rg0 g).2.1 := fun a => ext_input rfl a
  generalize extM rg0 h = X at *
  generalize extM rg0 g = Y at *
  have cA := fun {S : Snap} {M : List Chunk} (w : World) (hst : St S M w) => hb_c w hst h oh
  have cB := fun {S : Snap} {M : List Chunk} (w : World) (hst : St S M w) => hb_c w hst g og
  generalize hbM h = bh at *
  generalize hbM g = bg at *
  have rz : Rep.R S (rgC rg0) rg0 := r_rg rg0_ok
  have hz0 : (rgC rg0).length = 32 := Rep.len (S := S) (r_rg rg0_ok)
  go_enter Tryd.func13, Tryd.ntmps13
  repeat' ((fail_if_success (with_reducible show Code.wp _ (Code.region 1 _ _) _ _ _)); first | ((fail_if_success (go_big_may)); (go_step)) | (((((refine s_box hst evX rfl ?_; clear hst; intro bx w hst)))) <;> (try refine nY ?_) <;> (try replace hst := nH hst)))
  obtain ⟨S1, hS1, hstA, hpg⟩ := pt_box (α := Hd) hst (r_hd og) (Rep.len (S := S) (r_hd og))
  clear hst
  obtain ⟨S2, hS2, hst, hph⟩ := pt_box (α := Hd) hstA (r_hd oh) (Rep.len (S := S) (r_hd oh))
  clear hstA
  replace hpg := hpg.mono hS2
  replace hG := (hG.mono hS1).mono hS2
  have hle := hS1.trans hS2
  clear hS1 hS2
  repeat' (first | (((with_reducible refine Sl.k_call ?_; ((refine s_call (rsanity_c _ hst hG) inX rfl ?_; clear hst; rintro v w ⟨rfl, hst⟩)))) <;> (try refine nY ?_) <;> (try replace hst := nH hst)) | ((fail_if_success (go_big_may)); (go_step)) | (((with_reducible refine Sl.k_load ?_; (refine s_qt hst (by exact qt_ldp_flat evX asX inX inX rfl) ?_))) <;> (try refine nY ?_)))
  repeat' (first | (((with_reducible refine Sl.k_call ?_; ((refine s_call (cA _ hst) inX rfl ?_; clear hst; rintro v w ⟨S3, hS3, hva, hva1, hst⟩)))) <;> (try refine nY ?_) <;> (try replace hst := nH hst)) | ((fail_if_success (go_big_may)); (go_step)))
  replace hpg := hpg.mono hS3
  replace hph := hph.mono hS3
  replace hG := hG.mono hS3
  repeat' ((fail_if_success (with_reducible show Code.wp _ (Code.region 4 _ _) _ _ _)); first | (((with_reducible refine Sl.k_call ?_; ((refine s_call (cB _ hst) inX rfl ?_; clear hst; rintro v w ⟨S4, hS4, hvb, hvb1, hst⟩)))) <;> (try refine nY ?_) <;> (try replace hst := nH hst)) | ((fail_if_success (go_big_may)); (go_step)) | (((with_reducible refine Sl.k_load ?_; (refine s_qt hst (by exact qt_ldp_flat evX asX inX inX rfl) ?_))) <;> (try refine nY ?_)))
  replace hpg := hpg.mono hS4
  replace hph := hph.mono hS4
  replace hva := hva.mono hS4
  replace hG := hG.mono hS4
  replace hle := hle.trans (hS3.trans hS4)
  clear hS3 hS4
  go_cut [5, 6, 7, 8] from 5 (fun p5 p6 p7 p wr => p5 = .bool true ∧ RSl S4 p6 bh ∧ RSl S4 p7 bg ∧ p = .bool (decide (h.1 = g.1 ∧ h.2.2 = g.2.2)) ∧ St S4 M wr)
  case first =>
    rcases hd_cases h g with ⟨q1, hip⟩ | ⟨q1, q2, hip⟩ | ⟨q1, q2, q3, hip⟩ | ⟨q1, q2, q3, q4, hip⟩ | ⟨q1, q2, q3, q4, q5, hip⟩ | ⟨q1, q2, q3, q4, q5, hip⟩
    all_goals (
      repeat' (first | go_skip | ((first | (with_reducible (refine Sl.k_field ?_; (first | refine s_ex hst (qt_fieldp evX hph inX inX rfl) ?_ | refine s_ex hst (qt_fieldp evX hpg inX inX rfl) ?_); rintro vf hpf)) | (with_reducible refine Sl.k_bin ?_; (first | (refine s_qt hst (qt_eqlK_b rfl rfl (r_dgx oh.a) (r_dgx og.a) inX inX inX (by first | exact decide_eq_true (by assumption) | exact decide_eq_false (by assumption))) ?_) | (refine s_qt hst (qt_eqlK_b rfl rfl (r_dgx oh.d) (r_dgx og.d) inX inX inX (by first | exact decide_eq_true (by assumption) | exact decide_eq_false (by assumption))) ?_) | (refine s_qt hst (qt_eqlK_b rfl rfl (r_dgx oh.e) (r_dgx og.e) inX inX inX (by first | exact decide_eq_true (by assumption) | exact decide_eq_false (by assumption))) ?_))) | (with_reducible refine Sl.k_guard ?_; ((refine Sl.guard_yes rfl ?_)))) <;> (try refine nY ?_)) | ((fail_if_success (go_big_may)); (go_step)) | (((with_reducible refine Sl.k_load ?_; (first | refine s_qt hst (by exact qt_ldp_flat evX asX inX inX rfl) ?_ | (refine s_ex hst (qt_ldp_int evX asX inX) ?_; rintro v ⟨rfl, hI⟩)))) <;> (try refine nY ?_)) | (with_reducible refine Sl.gate rfl ?_; (go_step)))
      go_meet; case rel => exact ⟨rfl, hva, hvb, by rw [hip], hst⟩)
  case rest =>
    clear hst hva hvb
    by_cases hs : h.1 = g.1 ∧ h.2.2 = g.2.2
    · rw [decide_eq_true hs] at hcut
      obtain ⟨rfl, hva, hvb, rfl, hst⟩ := hcut
      have hva1 := hva.oneCell
      have hvb1 := hvb.oneCell
      have hbb := law.2 hs
      have hX := f1 hs.1 hs.2
      repeat' (first | (((with_reducible (refine Sl.k_build ?_; with_unfolding_all refine s_qt hst (qt_buildF flatRg inX inX (r_rg rg0_ok) .nil) ?_))) <;> (try refine nY ?_)) | ((fail_if_success (go_big_may)); (go_step)) | (((((refine s_alloc hst inX ?_; clear hst; intro bk w hst)))) <;> (try refine nY ?_) <;> (try replace hst := nH hst)))
      refine s_stW0 hst rfl BoxIn.h inX (x0 := rg0) (cs := rgC rg0) evX (r_rg rg0_ok) rfl ?_
      clear hst; intro w hst
      (try refine nY ?_)
      (try replace hst := nH hst)
      repeat' ((fail_if_success (with_reducible show Code.wp _ (Code.region 7 _ _) _ _ _)); first | (((with_reducible (refine Sl.k_load ?_; with_unfolding_all refine s_qt hst (qt_loadF (x0 := rg0) rfl BoxIn.h (r_rg rg0_ok) inX) ?_))) <;> (try refine nY ?_)) | (((with_reducible refine Sl.k_call ?_; ((refine s_call (cX _ hst hG) inX rfl ?_; clear hst; rintro v w ⟨rfl, hst⟩)))) <;> (try refine nY ?_) <;> (try replace hst := nH hst)) | ((fail_if_success (go_big_may)); (go_step)) | (((with_reducible refine Sl.k_load ?_; (refine s_qt hst (by exact qt_ldp_flat evX asX inX inX rfl) ?_))) <;> (try refine nY ?_)) | (((((refine s_alloc hst inX ?_; clear hst; intro bk w hst)))) <;> (try refine nY ?_) <;> (try replace hst := nH hst)))
      refine s_stW0 hst rfl BoxIn.h inX (x0 := X) (cs := rgC X) evX (r_rg okX) rfl ?_
      clear hst; intro w hst
      (try refine nY ?_)
      (try replace hst := nH hst)
      repeat' (first | (((with_reducible (refine Sl.k_load ?_; with_unfolding_all refine s_qt hst (qt_loadF (x0 := rg0) rfl BoxIn.h (r_rg rg0_ok) inX) ?_))) <;> (try refine nY ?_)) | (((with_reducible refine Sl.k_call ?_; ((refine s_call (cY _ hst hG) inX rfl ?_; clear hst; rintro v w ⟨rfl, hst⟩)))) <;> (try refine nY ?_) <;> (try replace hst := nH hst)) | ((fail_if_success (go_big_may)); (go_step)) | (((with_reducible refine Sl.k_load ?_; (refine s_qt hst (by exact qt_ldp_flat evX asX inX inX rfl) ?_))) <;> (try refine nY ?_)) | (((((refine s_alloc hst inX ?_; clear hst; intro bk w hst)))) <;> (try refine nY ?_) <;> (try replace hst := nH hst)))
      refine s_stW0 hst rfl BoxIn.h inX (x0 := Y) (cs := rgC Y) evX (r_rg okY) rfl ?_
      clear hst; intro w hst
      (try refine nY ?_)
      (try replace hst := nH hst)
      obtain ⟨S5, hS5, hstA, hpY⟩ := pt_box (α := Rg) hst (r_rg okY) (Rep.len (S := S4) (r_rg okY))
      clear hst
      obtain ⟨S6, hS6, hst, hpX⟩ := pt_box (α := Rg) hstA (r_rg okX) (Rep.len (S := S4) (r_rg okX))
      clear hstA
      replace hpY := hpY.mono hS6
      replace hph := (hph.mono hS5).mono hS6
      replace hpg := (hpg.mono hS5).mono hS6
      replace hva := (hva.mono hS5).mono hS6
      replace hvb := (hvb.mono hS5).mono hS6
      by_cases hi : h.2.1 = g.2.1
      · have hY := f2 hi
        repeat' (first | ((first | (with_reducible (refine Sl.k_field ?_; (first | refine s_ex hst (qt_fieldp evX hph inX inX rfl) ?_ | refine s_ex hst (qt_fieldp evX hpg inX inX rfl) ?_ | refine s_ex hst (qt_fieldp evX hpX inX inX rfl) ?_ | refine s_ex hst (qt_fieldp evX hpY inX inX rfl) ?_); rintro vf hpf)) | (with_reducible (refine Sl.k_bin ?_; refine s_qt hst (qt_eql_str rfl rfl inX (decide_eq_true hbb)) ?_)) | (with_reducible (refine Sl.k_bin ?_; refine s_qt hst (qt_eql_bself rfl rfl inX) ?_)) | (with_reducible refine Sl.k_bin ?_; (first | (refine s_qt hst (qt_eqlK_b rfl rfl (r_dgx okX.a) (r_dgx okY.a) inX inX inX (by exact decide_eq_true (by assumption))) ?_) | (refine s_qt hst (qt_eqlK_b rfl rfl (r_dgx okX.b) (r_dgx okY.b) inX inX inX (by exact decide_eq_true (by assumption))) ?_) | (refine s_qt hst (qt_neqK_b rfl rfl (r_dgx oh.b) (r_dgx og.b) inX inX inX (by exact decide_eq_true (by assumption))) ?_))) | (with_reducible refine Sl.k_guard ?_; ((refine Sl.guard_yes rfl ?_))) | (with_reducible refine Sl.k_conv ?_; refine s_stringI hst evX asX inX inX inX ?_)) <;> (try refine nY ?_)) | ((fail_if_success (go_big_may)); (go_step)) | (((with_reducible refine Sl.k_load ?_; (refine s_qt hst (by exact qt_ldp_flat evX asX inX inX rfl) ?_))) <;> (try refine nY ?_)) | (with_reducible refine Sl.gate rfl ?_; (go_step)))
        go_ret
        exact ⟨_, rfl, rfl, St.weaken (hle.trans (hS5.trans hS6)) hst.drop⟩
      · skip
        repeat' (first | ((first | (with_reducible (refine Sl.k_field ?_; (first | refine s_ex hst (qt_fieldp evX hph inX inX rfl) ?_ | refine s_ex hst (qt_fieldp evX hpg inX inX rfl) ?_ | refine s_ex hst (qt_fieldp evX hpX inX inX rfl) ?_ | refine s_ex hst (qt_fieldp evX hpY inX inX rfl) ?_); rintro vf hpf)) | (with_reducible (refine Sl.k_bin ?_; refine s_qt hst (qt_eql_str rfl rfl inX (decide_eq_true hbb)) ?_)) | (with_reducible (refine Sl.k_bin ?_; refine s_qt hst (qt_eql_bself rfl rfl inX) ?_)) | (with_reducible refine Sl.k_bin ?_; (first | (refine s_qt hst (qt_eqlK_b rfl rfl (r_dgx okX.a) (r_dgx okY.a) inX inX inX (by exact decide_eq_true (by assumption))) ?_) | (refine s_qt hst (qt_neqK_b rfl rfl (r_dgx oh.b) (r_dgx og.b) inX inX inX (by exact decide_eq_false (by assumption))) ?_))) | (with_reducible refine Sl.k_guard ?_; (first | (refine Sl.guard_yes rfl ?_) | (refine Sl.guard_no rfl ?_))) | (with_reducible refine Sl.k_conv ?_; refine s_stringI hst evX asX inX inX inX ?_)) <;> (try refine nY ?_)) | ((fail_if_success (go_big_may)); (go_step)) | (((with_reducible refine Sl.k_load ?_; (refine s_qt hst (by exact qt_ldp_flat evX asX inX inX rfl) ?_))) <;> (try refine nY ?_)) | (with_reducible refine Sl.gate rfl ?_; (go_step)))
        go_ret
        exact ⟨_, rfl, rfl, St.weaken (hle.trans (hS5.trans hS6)) hst.drop⟩
    · rw [decide_eq_false hs] at hcut
      obtain ⟨rfl, hva, hvb, rfl, hst⟩ := hcut
      have hva1 := hva.oneCell
      have hvb1 := hvb.oneCell
      have hbb : bh ≠ bg := fun e => hs (law.1 e)
      repeat' (first | (((with_reducible (refine Sl.k_build ?_; with_unfolding_all refine s_qt hst (qt_buildF flatRg inX inX (r_rg rg0_ok) .nil) ?_))) <;> (try refine nY ?_)) | ((fail_if_success (go_big_may)); (go_step)) | (((((refine s_alloc hst inX ?_; clear hst; intro bk w hst)))) <;> (try refine nY ?_) <;> (try replace hst := nH hst)))
      refine s_stW0 hst rfl BoxIn.h inX (x0 := rg0) (cs := rgC rg0) evX (r_rg rg0_ok) rfl ?_
      clear hst; intro w hst
      (try refine nY ?_)
      (try replace hst := nH hst)
      repeat' ((fail_if_success (with_reducible show Code.wp _ (Code.region 7 _ _) _ _ _)); first | (((with_reducible (refine Sl.k_load ?_; with_unfolding_all refine s_qt hst (qt_loadF (x0 := rg0) rfl BoxIn.h (r_rg rg0_ok) inX) ?_))) <;> (try refine nY ?_)) | (((with_reducible refine Sl.k_call ?_; ((refine s_call (cX _ hst hG) inX rfl ?_; clear hst; rintro v w ⟨rfl, hst⟩)))) <;> (try refine nY ?_) <;> (try replace hst := nH hst)) | ((fail_if_success (go_big_may)); (go_step)) | (((with_reducible refine Sl.k_load ?_; (refine s_qt hst (by exact qt_ldp_flat evX asX inX inX rfl) ?_))) <;> (try refine nY ?_)) | (((((refine s_alloc hst inX ?_; clear hst; intro bk w hst)))) <;> (try refine nY ?_) <;> (try replace hst := nH hst)))
      refine s_stW0 hst rfl BoxIn.h inX (x0 := X) (cs := rgC X) evX (r_rg okX) rfl ?_
      clear hst; intro w hst
      (try refine nY ?_)
      (try replace hst := nH hst)
      repeat' (first | (((with_reducible (refine Sl.k_load ?_; with_unfolding_all refine s_qt hst (qt_loadF (x0 := rg0) rfl BoxIn.h (r_rg rg0_ok) inX) ?_))) <;> (try refine nY ?_)) | (((with_reducible refine Sl.k_call ?_; ((refine s_call (cY _ hst hG) inX rfl ?_; clear hst; rintro v w ⟨rfl, hst⟩)))) <;> (try refine nY ?_) <;> (try replace hst := nH hst)) | ((fail_if_success (go_big_may)); (go_step)) | (((with_reducible refine Sl.k_load ?_; (refine s_qt hst (by exact qt_ldp_flat evX asX inX inX rfl) ?_))) <;> (try refine nY ?_)) | (((((refine s_alloc hst inX ?_; clear hst; intro bk w hst)))) <;> (try refine nY ?_) <;> (try replace hst := nH hst)))
      refine s_stW0 hst rfl BoxIn.h inX (x0 := Y) (cs := rgC Y) evX (r_rg okY) rfl ?_
      clear hst; intro w hst
      (try refine nY ?_)
      (try replace hst := nH hst)
      obtain ⟨S5, hS5, hstA, hpY⟩ := pt_box (α := Rg) hst (r_rg okY) (Rep.len (S := S4) (r_rg okY))
      clear hst
      obtain ⟨S6, hS6, hst, hpX⟩ := pt_box (α := Rg) hstA (r_rg okX) (Rep.len (S := S4) (r_rg okX))
      clear hstA
      replace hpY := hpY.mono hS6
      replace hph := (hph.mono hS5).mono hS6
      replace hpg := (hpg.mono hS5).mono hS6
      replace hva := (hva.mono hS5).mono hS6
      replace hvb := (hvb.mono hS5).mono hS6
      by_cases hi : h.2.1 = g.2.1
      · have hY := f2 hi
        repeat' (first | ((first | (with_reducible (refine Sl.k_field ?_; (first | refine s_ex hst (qt_fieldp evX hph inX inX rfl) ?_ | refine s_ex hst (qt_fieldp evX hpg inX inX rfl) ?_ | refine s_ex hst (qt_fieldp evX hpX inX inX rfl) ?_ | refine s_ex hst (qt_fieldp evX hpY inX inX rfl) ?_); rintro vf hpf)) | (with_reducible (refine Sl.k_bin ?_; refine s_qt hst (qt_eql_str rfl rfl inX (decide_eq_false hbb)) ?_)) | (with_reducible (refine Sl.k_bin ?_; refine s_qt hst (qt_eql_bself rfl rfl inX) ?_)) | (with_reducible refine Sl.k_bin ?_; (first | (refine s_qt hst (qt_eqlK_b rfl rfl (r_dgx okX.b) (r_dgx okY.b) inX inX inX (by exact decide_eq_true (by assumption))) ?_) | (refine s_qt hst (qt_neqK_b rfl rfl (r_dgx oh.b) (r_dgx og.b) inX inX inX (by exact decide_eq_true (by assumption))) ?_))) | (with_reducible refine Sl.k_guard ?_; (first | (refine Sl.guard_yes rfl ?_) | (refine Sl.guard_no rfl ?_))) | (with_reducible refine Sl.k_conv ?_; refine s_stringI hst evX asX inX inX inX ?_)) <;> (try refine nY ?_)) | ((fail_if_success (go_big_may)); (go_step)) | (((with_reducible refine Sl.k_load ?_; (refine s_qt hst (by exact qt_ldp_flat evX asX inX inX rfl) ?_))) <;> (try refine nY ?_)) | (with_reducible refine Sl.gate rfl ?_; (go_step)))
        go_ret
        exact ⟨_, rfl, rfl, St.weaken (hle.trans (hS5.trans hS6)) hst.drop⟩
      · skip
        repeat' (first | ((first | (with_reducible (refine Sl.k_field ?_; (first | refine s_ex hst (qt_fieldp evX hph inX inX rfl) ?_ | refine s_ex hst (qt_fieldp evX hpg inX inX rfl) ?_); rintro vf hpf)) | (with_reducible (refine Sl.k_bin ?_; refine s_qt hst (qt_eql_str rfl rfl inX (decide_eq_false hbb)) ?_)) | (with_reducible (refine Sl.k_bin ?_; refine s_qt hst (qt_eql_bself rfl rfl inX) ?_)) | (with_reducible refine Sl.k_bin ?_; ((refine s_qt hst (qt_neqK_b rfl rfl (r_dgx oh.b) (r_dgx og.b) inX inX inX (by exact decide_eq_false (by assumption))) ?_))) | (with_reducible refine Sl.k_guard ?_; (first | (refine Sl.guard_yes rfl ?_) | (refine Sl.guard_no rfl ?_))) | (with_reducible refine Sl.k_conv ?_; refine s_stringI hst evX asX inX inX inX ?_)) <;> (try refine nY ?_)) | ((fail_if_success (go_big_may)); (go_step)) | (((with_reducible refine Sl.k_load ?_; (refine s_qt hst (by exact qt_ldp_flat evX asX inX inX rfl) ?_))) <;> (try refine nY ?_)) | (with_reducible refine Sl.gate rfl ?_; (go_step)))
        go_ret
        exact ⟨_, rfl, rfl, St.weaken (hle.trans (hS5.trans hS6)) hst.drop⟩
end Go.Proofs.YtcobalpbencboaaDoor

/- The statement RegisterSeparatesFields. -/
namespace Go.Proofs.YtcobalpbencboaaDoor
set_option linter.unusedSimpArgs false
set_option linter.unusedVariables false
open Go.RowKit Go.Sl Go.ChangeShapes Go.WideShapes Go.ChangeAt

set_option maxRecDepth 20000 in
theorem sepf_post (H : Type) (enc : TypeId × Value → H) (W : World) (base : Nat) (args : Array Value) (ds gs : List (DataW H)) (before : List MemPlace)
    (hval : ∀ (j : Nat) t v, Tryd.f13.params[j]? = some t → args[j]? = some v → Value.okWide Tryd.prog W .any base t v)
    (hW : DataW.Whole enc Tryd.prog Tryd.f13.params.toList Rows.registerSeparatesFieldsSpec.vars false W args.toList ds gs before) (hk : Rows.uptoSmall H (ds ++ gs) = true) (hL : laidMetH Tryd.prog Rows.registerSeparatesFieldsUptoRow.laid W) :
    Calls Tryd.prog 13 args W fun e W' => ∃ v, e = .returned v ∧ Rows.registerSeparatesFieldsSpec.post enc Tryd.prog Tryd.f13 false true false false W args v W' := by
  have hW' := hW
  obtain ⟨p, q, hA0, hV, rfl, hfz, hnd⟩ := hW
  have hA : DataW.TrodAll enc Tryd.prog W 0 (fun _ => true) true Tryd.f13.params.toList args.toList ds p := hA0
  have hk := small_all hk
  rw [Tryd.params13] at hA hval
  obtain ⟨v0, vs0, d0, ds0, p0, q0, hargs, rfl, rfl, h0, r0⟩ := trodAll_cons hA
  obtain ⟨v1, vs1, d1, ds1, p1, q1, rfl, rfl, rfl, h1, r1⟩ := trodAll_cons r0
  obtain ⟨rfl, rfl, rfl⟩ := trodAll_nil r1
  obtain rfl : args = #[v0, v1] := by cases args; simp_all
  obtain ⟨rfl, rfl⟩ := trodVars_none hV
  simp only [List.append_nil, Rows.uptoBulkAll] at hk
  obtain ⟨x0, rfl, hx0⟩ := open_hd (hval 0 44 v0 rfl rfl) h0
  obtain ⟨x1, rfl, hx1⟩ := open_hd (hval 1 44 v1 rfl rfl) h1
  refine Calls.mono (sepf_c W (St.start W) (glob_of hL) x0 hx0 x1 hx1) fun e W' ⟨v, he, hv, hst⟩ => ?_
  subst hv
  exact ⟨_, he, law_post (tb := 4) rfl hW' (by kernel_rfl) (by rw [Tryd.params13]; intro t ht'; have e : t = 44 := (by simpa using ht'); subst e; exact ⟨by kernel_rfl, of_decide_eq_true (by kernel_rfl)⟩) (by kernel_rfl) (by kernel_rfl) rfl rfl rfl hst.below⟩

abbrev sepf_args : Array Value := #[.agg #[.int .u8 0, .int .u8 0, .int .u8 0, .int .u8 0, .int .u8 0, .int .u8 0, .int .u8 0, .int .u8 0, .int .u8 0, .int .u8 0, .int .u8 0, .int .u8 0, .int .u8 0, .int .u8 0, .int .u8 0, .int .u8 0, .int .u8 0, .int .u8 0, .int .u8 0, .int .u8 0, .int .u8 0, .int .u8 0, .int .u8 0, .int .u8 0, .int .u8 0, .int .u8 0, .int .u8 0, .int .u8 0, .int .u8 0, .int .u8 0, .int .u8 0, .int .u8 0, .int .i64 0, .int .u8 0, .int .u8 0, .int .u8 0, .int .u8 0, .int .u8 0, .int .u8 0, .int .u8 0, .int .u8 0, .int .u8 0, .int .u8 0, .int .u8 0, .int .u8 0, .int .u8 0, .int .u8 0, .int .u8 0, .int .u8 0, .int .u8 0, .int .u8 0, .int .u8 0, .int .u8 0, .int .u8 0, .int .u8 0, .int .u8 0, .int .u8 0, .int .u8 0, .int .u8 0, .int .u8 0, .int .u8 0, .int .u8 0, .int .u8 0, .int .u8 0, .int .u8 0, .int .i64 0], .agg #[.int .u8 0, .int .u8 0, .int .u8 0, .int .u8 0, .int .u8 0, .int .u8 0, .int .u8 0, .int .u8 0, .int .u8 0, .int .u8 0, .int .u8 0, .int .u8 0, .int .u8 0, .int .u8 0, .int .u8 0, .int .u8 0, .int .u8 0, .int .u8 0, .int .u8 0, .int .u8 0, .int .u8 0, .int .u8 0, .int .u8 0, .int .u8 0, .int .u8 0, .int .u8 0, .int .u8 0, .int .u8 0, .int .u8 0, .int .u8 0, .int .u8 0, .int .u8 0, .int .i64 0, .int .u8 0, .int .u8 0, .int .u8 0, .int .u8 0, .int .u8 0, .int .u8 0, .int .u8 0, .int .u8 0, .int .u8 0, .int .u8 0, .int .u8 0, .int .u8 0, .int .u8 0, .int .u8 0, .int .u8 0, .int .u8 0, .int .u8 0, .int .u8 0, .int .u8 0, .int .u8 0, .int .u8 0, .int .u8 0, .int .u8 0, .int .u8 0, .int .u8 0, .int .u8 0, .int .u8 0, .int .u8 0, .int .u8 0, .int .u8 0, .int .u8 0, .int .u8 0, .int .i64 0]]
theorem sepf_met (os : Os) : laidMet Tryd.prog Rows.registerSeparatesFieldsUptoRow.laid ((laidWorld os #[]).forCall (fun _ _ => 0) ⟨#[], sepf_args, []⟩).memory :=
  laidMet_of_run' 8 (by kernel_rfl) (by kernel_rfl)
theorem sepf_reads (os : Os) {H : Type} (enc : TypeId × Value → H) : ∃ places, DataW.whole enc Tryd.prog ((laidWorld os #[]).forCall (fun _ _ => 0) ⟨#[], sepf_args, []⟩).memory Tryd.f13.params.toList Rows.registerSeparatesFieldsSpec.vars false sepf_args.toList 8 = some ([.agg [.agg [.lit (.int .u8 0), .lit (.int .u8 0), .lit (.int .u8 0), .lit (.int .u8 0), .lit (.int .u8 0), .lit (.int .u8 0), .lit (.int .u8 0), .lit (.int .u8 0), .lit (.int .u8 0), .lit (.int .u8 0), .lit (.int .u8 0), .lit (.int .u8 0), .lit (.int .u8 0), .lit (.int .u8 0), .lit (.int .u8 0), .lit (.int .u8 0)], .agg [.lit (.int .u8 0), .lit (.int .u8 0), .lit (.int .u8 0), .lit (.int .u8 0), .lit (.int .u8 0), .lit (.int .u8 0), .lit (.int .u8 0), .lit (.int .u8 0), .lit (.int .u8 0), .lit (.int .u8 0), .lit (.int .u8 0), .lit (.int .u8 0), .lit (.int .u8 0), .lit (.int .u8 0), .lit (.int .u8 0), .lit (.int .u8 0)], .lit (.int .i64 0), .agg [.lit (.int .u8 0), .lit (.int .u8 0), .lit (.int .u8 0), .lit (.int .u8 0), .lit (.int .u8 0), .lit (.int .u8 0), .lit (.int .u8 0), .lit (.int .u8 0), .lit (.int .u8 0), .lit (.int .u8 0), .lit (.int .u8 0), .lit (.int .u8 0), .lit (.int .u8 0), .lit (.int .u8 0), .lit (.int .u8 0), .lit (.int .u8 0)], .agg [.lit (.int .u8 0), .lit (.int .u8 0), .lit (.int .u8 0), .lit (.int .u8 0), .lit (.int .u8 0), .lit (.int .u8 0), .lit (.int .u8 0), .lit (.int .u8 0), .lit (.int .u8 0), .lit (.int .u8 0), .lit (.int .u8 0), .lit (.int .u8 0), .lit (.int .u8 0), .lit (.int .u8 0), .lit (.int .u8 0), .lit (.int .u8 0)], .lit (.int .i64 0)], .agg [.agg [.lit (.int .u8 0), .lit (.int .u8 0), .lit (.int .u8 0), .lit (.int .u8 0), .lit (.int .u8 0), .lit (.int .u8 0), .lit (.int .u8 0), .lit (.int .u8 0), .lit (.int .u8 0), .lit (.int .u8 0), .lit (.int .u8 0), .lit (.int .u8 0), .lit (.int .u8 0), .lit (.int .u8 0), .lit (.int .u8 0), .lit (.int .u8 0)], .agg [.lit (.int .u8 0), .lit (.int .u8 0), .lit (.int .u8 0), .lit (.int .u8 0), .lit (.int .u8 0), .lit (.int .u8 0), .lit (.int .u8 0), .lit (.int .u8 0), .lit (.int .u8 0), .lit (.int .u8 0), .lit (.int .u8 0), .lit (.int .u8 0), .lit (.int .u8 0), .lit (.int .u8 0), .lit (.int .u8 0), .lit (.int .u8 0)], .lit (.int .i64 0), .agg [.lit (.int .u8 0), .lit (.int .u8 0), .lit (.int .u8 0), .lit (.int .u8 0), .lit (.int .u8 0), .lit (.int .u8 0), .lit (.int .u8 0), .lit (.int .u8 0), .lit (.int .u8 0), .lit (.int .u8 0), .lit (.int .u8 0), .lit (.int .u8 0), .lit (.int .u8 0), .lit (.int .u8 0), .lit (.int .u8 0), .lit (.int .u8 0)], .agg [.lit (.int .u8 0), .lit (.int .u8 0), .lit (.int .u8 0), .lit (.int .u8 0), .lit (.int .u8 0), .lit (.int .u8 0), .lit (.int .u8 0), .lit (.int .u8 0), .lit (.int .u8 0), .lit (.int .u8 0), .lit (.int .u8 0), .lit (.int .u8 0), .lit (.int .u8 0), .lit (.int .u8 0), .lit (.int .u8 0), .lit (.int .u8 0)], .lit (.int .i64 0)]], [], places) :=
  ⟨[], by kernel_rfl⟩

set_option maxRecDepth 100000 in
theorem sepf_lifted (os : Os) (started : os.Started) (H : Type) (enc : TypeId × Value → H) (F : Stop.Interp) :
    ReturnsInHanded {} Tryd.checked os 13 .any ((Rows.OpenSpec.upto Rows.registerSeparatesFieldsSpec).preRow enc Tryd.prog Tryd.f13 Rows.registerSeparatesFieldsUptoRow.domain false Rows.registerSeparatesFieldsUptoRow.laid) (((Rows.OpenSpec.upto Rows.registerSeparatesFieldsSpec).at F).post enc Tryd.prog Tryd.f13 false true false false) := by
  obtain ⟨places, hx⟩ := sepf_reads os enc
  refine returnsInHanded_of_row (C := Tryd.checked) (s := Rows.OpenSpec.upto Rows.registerSeparatesFieldsSpec) own started (by kernel_rfl) Tryd.func13
    (witness_row_at (enc := enc) (C := Tryd.checked) false (laidWorld os #[]) sepf_args rfl (by kernel_rfl) (by kernel_rfl) (by kernel_rfl)
      (OpenSpec.preRow_of_cond 8 hx (by kernel_rfl) (fun k hk => by cases hk; kernel_rfl) (by kernel_rfl) (sepf_met os))) ?_
  intro W base args ds gs before hval hW _ hc _ hL _ _
  exact sepf_post H enc W base args ds gs before hval hW (hc _ rfl) hL

theorem sepf_said : Rows.RegisterSeparatesFieldsUptoSaid :=
  OpenClaim.holds_of_cond 13 Tryd.f13 rfl rfl rfl rfl rfl rfl rfl ⟨rfl, rfl, rfl, rfl, rfl⟩ rfl rfl rfl rfl rfl (by kernel_rfl) Tryd.func13 (by kernel_rfl)
    (of_decide_eq_true (by kernel_rfl)) (by unfold Func.isWrapper; first | (rw [if_pos (by decide +kernel)]; kernel_rfl) | (rw [if_neg (by decide +kernel)]; exact ⟨rfl, rfl⟩))
    (fun os started H enc _ F => by rw [OpenClaim.pre_eq_preRow]; exact sepf_lifted os started H enc F)

theorem sepf_plain (f : FuncId) (fn : Func) (hf : Tryd.pinned.checked.prog.funcNamed "bootchain/bootchainlaw20.RegisterSeparatesFields" = some f) (hfn : Tryd.pinned.checked.prog.funcs[f]? = some fn) :
    false = Tryd.pinned.checked.prog.looks [] ∧ ∀ (j : Nat) t, fn.params[j]? = some t → Tryd.pinned.checked.prog.wantsStandIn t = false := by
  obtain rfl : f = 13 := Option.some.inj ((show Tryd.prog.funcNamed "bootchain/bootchainlaw20.RegisterSeparatesFields" = some 13 by kernel_rfl).symm.trans hf) |>.symm
  obtain rfl : fn = Tryd.f13 := (Option.some.inj (Tryd.func13.symm.trans hfn)).symm
  refine ⟨by kernel_rfl, fun j t ht => ?_⟩
  rw [Tryd.params13] at ht
  have e : t = 44 := by simpa using Array.mem_of_getElem? ht
  subst e
  · exact (show Tryd.prog.wantsStandIn 44 = false by kernel_rfl)

theorem sepf_proved : Rows.RegisterSeparatesFieldsUptoCardSaid :=
  Claim7.holds_tied_plain_at .later [] _ _ _ _ sepf_said (fun _ h => by cases h) (by kernel_rfl) (fun _ h => by cases h) registerSeparatesFieldsUpto_row_tie rfl ⟨rfl, rfl⟩ (by kernel_rfl) rfl sepf_plain (by kernel_rfl)
end Go.Proofs.YtcobalpbencboaaDoor
