/- The statement MerkleBinding is proved: lists of equal length with equal roots are equal or exhibit a collision, for at most 40 leaves. -/
import Derived.Test.YtcobalpbencboaaDoorBb
import Derived.Test.YtcobalpbencboaaDoorBg
import Derived.Test.YtcobalpbencboaaDoorBe

/- The statement MerkleBinding, walked. -/
--@u32
--@hgp
--@flat
--@dg
--@ex0
namespace Go.Proofs.YtcobalpbencboaaDoor
set_option linter.unusedSimpArgs false
set_option linter.unusedVariables false
open Go.RowKit Go.Sl

theorem ifor_bool {p q : Prop} [Decidable p] [Decidable q] {b : Bool} : (if p ∧ q then true else b) = (decide p && decide q || b) := by
  by_cases hp : p <;> by_cases hq : q <;> simp [hp, hq]
theorem diff_fin {L L' R R' : Dg} {N : Prop} [Decidable N] {c1 c2 c3 b : Bool} (g1 : decide (L = L') = c1) (g2 : decide (R = R') = c2) (g3 : decide N = c3) : (if (L ≠ L' ∨ R ≠ R') ∧ N then true else b) = ((!c1 || !c2) && c3 || b) := by
  subst g1; subst g2; subst g3
  by_cases h1 : L = L' <;> by_cases h2 : R = R' <;> by_cases h3 : N <;> simp [h1, h2, h3]
theorem getD0 {l : List Dg} (h : 0 < l.length) : l[0] = l.getD 0 zeroD := by rw [List.getD_eq_getElem?_getD, List.getElem?_eq_getElem h]; rfl

set_option maxRecDepth 8000 in
set_option maxHeartbeats 1000000 in
theorem differs_c : ∀ (m : Nat) {S M} (w : World) (_hst : St S M w) (_hG : Glob S) (va vb : Value) (a b : List Dg) (_ha : RSl S va a) (_hb : RSl S vb b) (_hl : a.length = b.length) (_hm : a.length ≤ m) (_hm2 : m ≤ 1000),
    Rets Tryd.prog 24 [va, vb] w fun v w' => v = .bool (diffM a b) ∧ St S M w' := by
  intro m
  induction m with
  | zero =>
    intro S M w hst hG va vb a b ha hb hl hm hm2
    have h0 : a.length = 0 := by omega
    have hE := Lib.hid (diffM_nil (b := b) h0)
    have h1 : ((a.length : Int) != (b.length : Int)) = false := bne_eq_false_iff_eq.2 (by omega)
    have h2 : ((a.length : Int) == 0) = true := beq_iff_eq.2 (by omega)
    have ha1 := ha.oneCell
    have hb1 := hb.oneCell
    clear h0 hl hm
    unfold Rets
    go_enter Tryd.func24, Tryd.ntmps24
    repeat' (first | (((with_reducible refine Sl.k_guard ?_; ((refine Sl.guard_yes rfl ?_)))) <;> (try refine nY ?_)) | ((fail_if_success (go_big_may)); (go_step)) | (((with_reducible refine Sl.k_call ?_; (refine s_qt hst (by exact qt_len evX asX inX) ?_))) <;> (try refine nY ?_)) | (with_reducible refine Sl.gate rfl ?_; (go_step)))
    go_ret
    exact ⟨_, rfl, by rw [hE.out]; rfl, hst⟩
  | succ m ih =>
    intro S M w hst hG va vb a b ha hb hl hm hm2
    have ha1 := ha.oneCell
    have hb1 := hb.oneCell
    have h1 : ((a.length : Int) != (b.length : Int)) = false := bne_eq_false_iff_eq.2 (by omega)
    by_cases h0 : a.length = 0
    · have hE := Lib.hid (diffM_nil (b := b) h0)
      have h2 : ((a.length : Int) == 0) = true := beq_iff_eq.2 (by omega)
      clear h0 hl
      unfold Rets
      go_enter Tryd.func24, Tryd.ntmps24
      repeat' (first | (((with_reducible refine Sl.k_guard ?_; ((refine Sl.guard_yes rfl ?_)))) <;> (try refine nY ?_)) | ((fail_if_success (go_big_may)); (go_step)) | (((with_reducible refine Sl.k_call ?_; (refine s_qt hst (by exact qt_len evX asX inX) ?_))) <;> (try refine nY ?_)) | (with_reducible refine Sl.gate rfl ?_; (go_step)))
      go_ret
      exact ⟨_, rfl, by rw [hE.out]; rfl, hst⟩
    · have h2 : ((a.length : Int) == 0) = false := beq_eq_false_iff_ne.2 (by omega)
      by_cases h1' : a.length = 1
      · have hE := Lib.hid (diffM_one (b := b) h1')
        have h3 : ((a.length : Int) == 1) = true := beq_iff_eq.2 (by omega)
        have hla : 0 < a.length := by omega
        have hlb : 0 < b.length := by omega
        have hga := Lib.hid (getD0 hla)
        have hgb := Lib.hid (getD0 hlb)
        have hda := ha.dgs a[0] (List.getElem_mem hla)
        have hdb := hb.dgs b[0] (List.getElem_mem hlb)
        clear h0 hl h1'
        unfold Rets
        by_cases hab : a[0] = b[0]
        · have hv : Hid (diffM a b = false) := Lib.hid (by rw [hE.out, ← hga.out, ← hgb.out, hab]; simp)
          go_enter Tryd.func24, Tryd.ntmps24
          repeat' (first | (((with_reducible refine Sl.k_guard ?_; ((refine Sl.guard_yes rfl ?_)))) <;> (try refine nY ?_)) | ((fail_if_success (go_big_may)); (go_step)) | (((with_reducible refine Sl.k_call ?_; (refine s_qt hst (by exact qt_len evX asX inX) ?_))) <;> (try refine nY ?_)) | (with_reducible refine Sl.gate rfl ?_; (go_step)))
          refine v_begin hst (by kernel_rfl) ?_; clear hst; intro ops; (try refine nY ?_)
          (refine t_qt 0 rfl (by kernel_rfl) rfl rfl (by exact qt_move evX) ?_) <;> (try refine nY ?_)
          ((refine t_ex0 1 rfl (by kernel_rfl) rfl rfl (qt_index evX asX rfl inX inX omX omX) ?_; rintro v hp; (try simp only [Int.toNat_natCast, Int.toNat_natCast_add_one, Int.reduceToNat] at hp))) <;> (try refine nY ?_)
          (refine t_qt 2 rfl (by kernel_rfl) rfl rfl (by exact qt_ldp_flat evX asX inX inX rfl) ?_) <;> (try refine nY ?_)
          (refine t_qt 3 rfl (by kernel_rfl) rfl rfl (by exact qt_move evX) ?_) <;> (try refine nY ?_)
          ((refine t_ex0 4 rfl (by kernel_rfl) rfl rfl (qt_index evX asX rfl inX inX omX omX) ?_; rintro v hp; (try simp only [Int.toNat_natCast, Int.toNat_natCast_add_one, Int.reduceToNat] at hp))) <;> (try refine nY ?_)
          (refine t_qt 5 rfl (by kernel_rfl) rfl rfl (by exact qt_ldp_flat evX asX inX inX rfl) ?_) <;> (try refine nY ?_)
          (refine t_qt 6 rfl (by kernel_rfl) rfl rfl (qt_neqK_b rfl rfl (r_dg hda) (r_dg hdb) inX inX inferInstance (decide_eq_true hab)) ?_) <;> (try refine nY ?_)
          (refine t_qt 7 rfl (by kernel_rfl) rfl rfl (by exact qt_move evX) ?_) <;> (try refine nY ?_)
          (refine t_no 8 rfl (by kernel_rfl) rfl rfl ?_) <;> (try refine nY ?_)
          (refine t_no 9 rfl (by kernel_rfl) rfl rfl ?_) <;> (try refine nY ?_)
          (refine t_no 10 rfl (by kernel_rfl) rfl rfl ?_) <;> (try refine nY ?_)
          (refine t_no 11 rfl (by kernel_rfl) rfl rfl ?_) <;> (try refine nY ?_)
          (refine t_no 12 rfl (by kernel_rfl) rfl rfl ?_) <;> (try refine nY ?_)
          (refine t_no 13 rfl (by kernel_rfl) rfl rfl ?_) <;> (try refine nY ?_)
          (refine t_no 14 rfl (by kernel_rfl) rfl rfl ?_) <;> (try refine nY ?_)
          (refine t_no 15 rfl (by kernel_rfl) rfl rfl ?_) <;> (try refine nY ?_)
          (refine t_no 16 rfl (by kernel_rfl) rfl rfl ?_) <;> (try refine nY ?_)
          (refine t_qt 17 rfl (by kernel_rfl) rfl rfl (by exact qt_pick_f rfl evX) ?_) <;> (try refine nY ?_)
          (refine t_qt 18 rfl (by kernel_rfl) rfl rfl (by exact qt_assign evX) ?_) <;> (try refine nY ?_)
          refine v_done (by kernel_rfl) ?_; clear ops; intro w hst
          repeat' (((fail_if_success (go_big_may)); (go_step)))
          go_ret
          exact ⟨_, rfl, by rw [hv.out]; rfl, hst⟩
        · have hv : Hid (diffM a b = decide (leafM a[0] = leafM b[0])) := Lib.hid (by rw [hE.out, ← hga.out, ← hgb.out]; simp [hab])
          go_enter Tryd.func24, Tryd.ntmps24
          repeat' (first | (((with_reducible refine Sl.k_guard ?_; ((refine Sl.guard_yes rfl ?_)))) <;> (try refine nY ?_)) | ((fail_if_success (go_big_may)); (go_step)) | (((with_reducible refine Sl.k_call ?_; (refine s_qt hst (by exact qt_len evX asX inX) ?_))) <;> (try refine nY ?_)) | (with_reducible refine Sl.gate rfl ?_; (go_step)))
          refine v_begin hst (by kernel_rfl) ?_; clear hst; intro ops; (try refine nY ?_)
          (refine t_qt 0 rfl (by kernel_rfl) rfl rfl (by exact qt_move evX) ?_) <;> (try refine nY ?_)
          ((refine t_ex0 1 rfl (by kernel_rfl) rfl rfl (qt_index evX asX rfl inX inX omX omX) ?_; rintro v hp; (try simp only [Int.toNat_natCast, Int.toNat_natCast_add_one, Int.reduceToNat] at hp))) <;> (try refine nY ?_)
          (refine t_qt 2 rfl (by kernel_rfl) rfl rfl (by exact qt_ldp_flat evX asX inX inX rfl) ?_) <;> (try refine nY ?_)
          (refine t_qt 3 rfl (by kernel_rfl) rfl rfl (by exact qt_move evX) ?_) <;> (try refine nY ?_)
          ((refine t_ex0 4 rfl (by kernel_rfl) rfl rfl (qt_index evX asX rfl inX inX omX omX) ?_; rintro v hp; (try simp only [Int.toNat_natCast, Int.toNat_natCast_add_one, Int.reduceToNat] at hp))) <;> (try refine nY ?_)
          (refine t_qt 5 rfl (by kernel_rfl) rfl rfl (by exact qt_ldp_flat evX asX inX inX rfl) ?_) <;> (try refine nY ?_)
          (refine t_qt 6 rfl (by kernel_rfl) rfl rfl (qt_neqK_b rfl rfl (r_dg hda) (r_dg hdb) inX inX inferInstance (decide_eq_false hab)) ?_) <;> (try refine nY ?_)
          (refine t_qt 7 rfl (by kernel_rfl) rfl rfl (by exact qt_move evX) ?_) <;> (try refine nY ?_)
          (refine t_qt 8 rfl (by kernel_rfl) rfl rfl (by exact qt_move evX) ?_) <;> (try refine nY ?_)
          ((refine t_ex0 9 rfl (by kernel_rfl) rfl rfl (qt_index evX asX rfl inX inX omX omX) ?_; rintro v hp; (try simp only [Int.toNat_natCast, Int.toNat_natCast_add_one, Int.reduceToNat] at hp))) <;> (try refine nY ?_)
          (refine t_qt 10 rfl (by kernel_rfl) rfl rfl (by exact qt_ldp_flat evX asX inX inX rfl) ?_) <;> (try refine nY ?_)
          ((refine t_call 11 rfl (by kernel_rfl) rfl (fun S' M' w hS hM hst => refLeaf_c w hst (hG.mono hS) a[0] hda) inX rfl ?_)) <;> (try refine nY ?_)
          (refine t_qt 12 rfl (by kernel_rfl) rfl rfl (by exact qt_move evX) ?_) <;> (try refine nY ?_)
          ((refine t_ex0 13 rfl (by kernel_rfl) rfl rfl (qt_index evX asX rfl inX inX omX omX) ?_; rintro v hp; (try simp only [Int.toNat_natCast, Int.toNat_natCast_add_one, Int.reduceToNat] at hp))) <;> (try refine nY ?_)
          (refine t_qt 14 rfl (by kernel_rfl) rfl rfl (by exact qt_ldp_flat evX asX inX inX rfl) ?_) <;> (try refine nY ?_)
          ((refine t_call 15 rfl (by kernel_rfl) rfl (fun S' M' w hS hM hst => refLeaf_c w hst (hG.mono hS) b[0] hdb) inX rfl ?_)) <;> (try refine nY ?_)
          ((refine t_qt 16 rfl (by kernel_rfl) rfl rfl (qt_eqlK rfl rfl (r_dg (leafM_len _)) (r_dg (leafM_len _)) inX inX inferInstance) ?_)) <;> (try refine nY ?_)
          (refine t_qt 17 rfl (by kernel_rfl) rfl rfl (by exact qt_pick_t rfl evX) ?_) <;> (try refine nY ?_)
          (refine t_qt 18 rfl (by kernel_rfl) rfl rfl (by exact qt_assign evX) ?_) <;> (try refine nY ?_)
          refine v_done (by kernel_rfl) ?_; clear ops; intro w hst
          repeat' (((fail_if_success (go_big_may)); (go_step)))
          go_ret
          exact ⟨_, rfl, by rw [hv.out]; rfl, hst⟩
      · have h3 : ((a.length : Int) == 1) = false := beq_eq_false_iff_ne.2 (by omega)
        have hl2 : 2 ≤ a.length := by omega
        obtain ⟨hs1, hs2⟩ := splitM_spec hl2
        have hE := Lib.hid (diffM_two (b := b) hl2)
        have hsp := fun {S M} (w : World) (hst : St S M w) => refSplit_c w hst a.length hl2 (by omega)
        have hal : (a.take (splitM a.length)).length ≤ m ∧ (a.take (splitM a.length)).length = (b.take (splitM a.length)).length := by rw [List.length_take, List.length_take]; omega
        have har : (a.drop (splitM a.length)).length ≤ m ∧ (a.drop (splitM a.length)).length = (b.drop (splitM a.length)).length := by rw [List.length_drop, List.length_drop]; omega
        have hbl : (b.take (splitM a.length)).length ≤ 1000 ∧ (b.drop (splitM a.length)).length ≤ 1000 := by omega
        have e9 : (a.drop (splitM a.length)).take (a.length - splitM a.length) = a.drop (splitM a.length) := List.take_of_length_le (by rw [List.length_drop]; exact Nat.le_refl _)
        have e8 : (b.drop (splitM a.length)).take (b.length - splitM a.length) = b.drop (splitM a.length) := List.take_of_length_le (by rw [List.length_drop]; exact Nat.le_refl _)
        have E9 := Lib.hid e9
        have E8 := Lib.hid e8
        have hll : a.length ≤ b.length ∧ b.length ≤ a.length := by omega
        clear e8 e9 h0 h1' hl
        generalize hk : splitM a.length = k at *
        have Hk := Lib.hid hk
        clear hk
        have cL := fun {S M} (w : World) (hst : St S M w) (hG : Glob S) (v : Value) (hv : RSl S v (a.take k)) => refRoot_c m w hst hG v (a.take k) hv hal.1 (by omega)
        have cR := fun {S M} (w : World) (hst : St S M w) (hG : Glob S) (v : Value) (hv : RSl S v (a.drop k)) => refRoot_c m w hst hG v (a.drop k) hv har.1 (by omega)
        have cM := fun {S M} (w : World) (hst : St S M w) (hG : Glob S) (v : Value) (hv : RSl S v (b.take k)) => refRoot_c 1000 w hst hG v (b.take k) hv hbl.1 (by omega)
        have cS := fun {S M} (w : World) (hst : St S M w) (hG : Glob S) (v : Value) (hv : RSl S v (b.drop k)) => refRoot_c 1000 w hst hG v (b.drop k) hv hbl.2 (by omega)
        obtain ⟨dl, hdl⟩ : ∃ d, diffM (a.take k) (b.take k) = d := ⟨_, rfl⟩
        have cD := fun {S M} (w : World) (hst : St S M w) (hG : Glob S) (v u : Value) (hv : RSl S v (a.take k)) (hu : RSl S u (b.take k)) => (ih w hst hG v u (a.take k) (b.take k) hv hu hal.2 hal.1 (by omega)).eq hdl
        have cE := fun {S M} (w : World) (hst : St S M w) (hG : Glob S) (v u : Value) (hv : RSl S v (a.drop k)) (hu : RSl S u (b.drop k)) => ih w hst hG v u (a.drop k) (b.drop k) hv hu har.2 har.1 (by omega)
        have lL := rootM_len (a.take k)
        have lR := rootM_len (a.drop k)
        have lM := rootM_len (b.take k)
        have lS := rootM_len (b.drop k)
        rw [hdl] at hE
        generalize diffM (a.drop k) (b.drop k) = dr at *
        generalize rootM (a.take k) = L at *
        generalize rootM (a.drop k) = R at *
        generalize rootM (b.take k) = L' at *
        generalize rootM (b.drop k) = R' at *
        haveI : LenIs L.l 16 := ⟨lL⟩
        haveI : LenIs R.l 16 := ⟨lR⟩
        haveI : LenIs L'.l 16 := ⟨lM⟩
        haveI : LenIs R'.l 16 := ⟨lS⟩
        obtain ⟨c1, g1⟩ : ∃ c, decide (L = L') = c := ⟨_, rfl⟩
        obtain ⟨c2, g2⟩ : ∃ c, decide (R = R') = c := ⟨_, rfl⟩
        obtain ⟨c3, g3⟩ : ∃ c, decide (nodeM L R = nodeM L' R') = c := ⟨_, rfl⟩
        have G1 := Lib.hid g1
        have G2 := Lib.hid g2
        have G3 := Lib.hid g3
        unfold Rets
        go_enter Tryd.func24, Tryd.ntmps24
        repeat' (first | (((with_reducible refine Sl.k_guard ?_; ((refine Sl.guard_yes rfl ?_)))) <;> (try refine nY ?_)) | (((with_reducible refine Sl.k_call ?_; ((refine s_call (hsp _ hst) inX rfl ?_; clear hst; rintro v w ⟨rfl, hst⟩)))) <;> (try refine nY ?_) <;> (try replace hst := nH hst)) | ((fail_if_success (go_big_may)); (go_step)) | (((with_reducible refine Sl.k_call ?_; (refine s_qt hst (by exact qt_len evX asX inX) ?_))) <;> (try refine nY ?_)) | (with_reducible refine Sl.gate rfl ?_; (go_step)))
        refine s_slice (a := 0) (b := k) evX ha inX inX (.inl ⟨rfl, rfl⟩) (.inr ⟨.i64, by simp [evF, nth]⟩) (.inl rfl) (by omega) (by omega) ?_
        intro v1 hv1
        replace hv1 : RSl S v1 (a.take k) := hv1
        have hv11 := hv1.oneCell
        (try refine nY ?_)
        repeat' (first | (((with_reducible refine Sl.k_call ?_; ((refine s_call (cL _ hst hG _ hv1) inX rfl ?_; clear hst; rintro v w ⟨rfl, hst⟩)))) <;> (try refine nY ?_) <;> (try replace hst := nH hst)) | ((fail_if_success (go_big_may)); (go_step)) | ((((first | (with_reducible refine Sl.k_store ?_; (refine s_stD hst rfl BoxIn.h inX evX inX lenX ?_); clear hst; intro w hst) | (refine s_alloc hst inX ?_; clear hst; intro bk w hst)))) <;> (try refine nY ?_) <;> (try replace hst := nH hst)))
        refine s_slice (a := k) (b := a.length) evX ha inX inX (.inr ⟨.i64, by simp [evF, nth]⟩) (.inl ⟨rfl, rfl⟩) (.inl rfl) (by omega) (by omega) ?_
        intro v2 hv2
        rw [E9.out] at hv2
        have hv21 := hv2.oneCell
        (try refine nY ?_)
        repeat' (first | (((with_reducible refine Sl.k_call ?_; ((refine s_call (cR _ hst hG _ hv2) inX rfl ?_; clear hst; rintro v w ⟨rfl, hst⟩)))) <;> (try refine nY ?_) <;> (try replace hst := nH hst)) | ((fail_if_success (go_big_may)); (go_step)) | ((((first | (with_reducible refine Sl.k_store ?_; (refine s_stD hst rfl BoxIn.h inX evX inX lenX ?_); clear hst; intro w hst) | (refine s_alloc hst inX ?_; clear hst; intro bk w hst)))) <;> (try refine nY ?_) <;> (try replace hst := nH hst)))
        refine s_slice (a := 0) (b := k) evX hb inX inX (.inl ⟨rfl, rfl⟩) (.inr ⟨.i64, by simp [evF, nth]⟩) (.inl rfl) (by omega) (by omega) ?_
        intro v3 hv3
        replace hv3 : RSl S v3 (b.take k) := hv3
        have hv31 := hv3.oneCell
        (try refine nY ?_)
        repeat' (first | (((with_reducible refine Sl.k_call ?_; ((refine s_call (cM _ hst hG _ hv3) inX rfl ?_; clear hst; rintro v w ⟨rfl, hst⟩)))) <;> (try refine nY ?_) <;> (try replace hst := nH hst)) | ((fail_if_success (go_big_may)); (go_step)) | ((((first | (with_reducible refine Sl.k_store ?_; (refine s_stD hst rfl BoxIn.h inX evX inX lenX ?_); clear hst; intro w hst) | (refine s_alloc hst inX ?_; clear hst; intro bk w hst)))) <;> (try refine nY ?_) <;> (try replace hst := nH hst)))
        refine s_slice (a := k) (b := b.length) evX hb inX inX (.inr ⟨.i64, by simp [evF, nth]⟩) (.inl ⟨rfl, rfl⟩) (.inl rfl) (by omega) (by omega) ?_
        intro v4 hv4
        rw [E8.out] at hv4
        have hv41 := hv4.oneCell
        (try refine nY ?_)
        repeat' (first | (((with_reducible refine Sl.k_call ?_; ((refine s_call (cS _ hst hG _ hv4) inX rfl ?_; clear hst; rintro v w ⟨rfl, hst⟩)))) <;> (try refine nY ?_) <;> (try replace hst := nH hst)) | ((fail_if_success (go_big_may)); (go_step)) | ((((first | (with_reducible refine Sl.k_store ?_; (refine s_stD hst rfl BoxIn.h inX evX inX lenX ?_); clear hst; intro w hst) | (refine s_alloc hst inX ?_; clear hst; intro bk w hst)))) <;> (try refine nY ?_) <;> (try replace hst := nH hst)))
        cases c1
        cases c3
        rotate_left 2
        cases c2
        cases c3
        all_goals
          refine v_begin hst (by kernel_rfl) ?_; clear hst; intro ops; (try refine nY ?_)
          (refine t_qt 0 rfl (by kernel_rfl) rfl rfl (by exact qt_loadD evX BoxIn.h inX inX) ?_) <;> (try refine nY ?_)
          (refine t_qt 1 rfl (by kernel_rfl) rfl rfl (by exact qt_loadD evX BoxIn.h inX inX) ?_) <;> (try refine nY ?_)
          (refine t_qt 2 rfl (by kernel_rfl) rfl rfl (qt_neqK_b rfl rfl (r_dg lL) (r_dg lM) inX inX inferInstance g1) ?_) <;> (try refine nY ?_)
          (refine t_qt 3 rfl (by kernel_rfl) rfl rfl (by exact qt_move evX) ?_) <;> (try refine nY ?_)
          (first | refine t_qt 4 rfl (by kernel_rfl) rfl rfl (by exact qt_loadD evX BoxIn.h inX inX) ?_ | refine t_no 4 rfl (by kernel_rfl) rfl rfl ?_) <;> (try refine nY ?_)
          (first | refine t_qt 5 rfl (by kernel_rfl) rfl rfl (by exact qt_loadD evX BoxIn.h inX inX) ?_ | refine t_no 5 rfl (by kernel_rfl) rfl rfl ?_) <;> (try refine nY ?_)
          ((first | refine t_qt 6 rfl (by kernel_rfl) rfl rfl (qt_neqK_b rfl rfl (r_dg lR) (r_dg lS) inX inX inferInstance g2) ?_ | refine t_no 6 rfl (by kernel_rfl) rfl rfl ?_)) <;> (try refine nY ?_)
          (refine t_qt 7 rfl (by kernel_rfl) rfl rfl (by first | exact qt_pick_t rfl evX | exact qt_pick_f rfl evX) ?_) <;> (try refine nY ?_)
          (refine t_qt 8 rfl (by kernel_rfl) rfl rfl (by exact qt_move evX) ?_) <;> (try refine nY ?_)
          (first | refine t_qt 9 rfl (by kernel_rfl) rfl rfl (by exact qt_loadD evX BoxIn.h inX inX) ?_ | refine t_no 9 rfl (by kernel_rfl) rfl rfl ?_) <;> (try refine nY ?_)
          (first | refine t_qt 10 rfl (by kernel_rfl) rfl rfl (by exact qt_loadD evX BoxIn.h inX inX) ?_ | refine t_no 10 rfl (by kernel_rfl) rfl rfl ?_) <;> (try refine nY ?_)
          ((first | refine t_call 11 rfl (by kernel_rfl) rfl (fun S' M' w hS hM hst => refNode_c w hst (hG.mono hS) L R lL lR) inX rfl ?_ | refine t_no 11 rfl (by kernel_rfl) rfl rfl ?_)) <;> (try refine nY ?_)
          (first | refine t_qt 12 rfl (by kernel_rfl) rfl rfl (by exact qt_loadD evX BoxIn.h inX inX) ?_ | refine t_no 12 rfl (by kernel_rfl) rfl rfl ?_) <;> (try refine nY ?_)
          (first | refine t_qt 13 rfl (by kernel_rfl) rfl rfl (by exact qt_loadD evX BoxIn.h inX inX) ?_ | refine t_no 13 rfl (by kernel_rfl) rfl rfl ?_) <;> (try refine nY ?_)
          ((first | refine t_call 14 rfl (by kernel_rfl) rfl (fun S' M' w hS hM hst => refNode_c w hst (hG.mono hS) L' R' lM lS) inX rfl ?_ | refine t_no 14 rfl (by kernel_rfl) rfl rfl ?_)) <;> (try refine nY ?_)
          ((first | refine t_qt 15 rfl (by kernel_rfl) rfl rfl (qt_eqlK_b rfl rfl (r_dg (nodeM_len _ _)) (r_dg (nodeM_len _ _)) inX inX inferInstance g3) ?_ | refine t_no 15 rfl (by kernel_rfl) rfl rfl ?_)) <;> (try refine nY ?_)
          (refine t_qt 16 rfl (by kernel_rfl) rfl rfl (by first | exact qt_pick_t rfl evX | exact qt_pick_f rfl evX) ?_) <;> (try refine nY ?_)
          refine v_done (by kernel_rfl) ?_; clear ops; intro w hst
          repeat' (((fail_if_success (go_big_may)); (go_step)))
        rotate_left
        go_ret
        exact ⟨_, rfl, by rw [hE.out, diff_fin G1.out G2.out G3.out]; simp, hst.drop.drop.drop.drop⟩
        rotate_left 2
        go_ret
        exact ⟨_, rfl, by rw [hE.out, diff_fin G1.out G2.out G3.out]; simp, hst.drop.drop.drop.drop⟩
        all_goals cases dl
        all_goals
          refine v_begin hst (by kernel_rfl) ?_; clear hst; intro ops; (try refine nY ?_)
          (refine t_qt 0 rfl (by kernel_rfl) rfl rfl (by exact qt_move evX) ?_) <;> (try refine nY ?_)
          (refine t_qt 1 rfl (by kernel_rfl) rfl rfl (by exact qt_move evX) ?_) <;> (try refine nY ?_)
          ((refine t_ex0 2 rfl (by kernel_rfl) rfl rfl (qt_slice (a := 0) (b := k) evX ha inX inX (.inl ⟨rfl, rfl⟩) (.inr ⟨.i64, by simp [evF, nth]⟩) (.inl rfl) (by omega) (by omega) ) ?_; rintro  v2 hw2)) <;> (try refine nY ?_)
          (refine t_qt 3 rfl (by kernel_rfl) rfl rfl (by exact qt_move evX) ?_) <;> (try refine nY ?_)
          (refine t_qt 4 rfl (by kernel_rfl) rfl rfl (by exact qt_move evX) ?_) <;> (try refine nY ?_)
          ((refine t_ex0 5 rfl (by kernel_rfl) rfl rfl (qt_slice (a := 0) (b := k) evX hb inX inX (.inl ⟨rfl, rfl⟩) (.inr ⟨.i64, by simp [evF, nth]⟩) (.inl rfl) (by omega) (by omega) ) ?_; rintro  v5 hw5)) <;> (try refine nY ?_)
          (refine t_call 6 rfl (by kernel_rfl) rfl (fun S' M' w hS hM hst => cD w hst (hG.mono hS) v2 v5 (hw2.mono hS) (hw5.mono hS)) inX rfl ?_) <;> (try refine nY ?_)
          (refine t_qt 7 rfl (by kernel_rfl) rfl rfl (by exact qt_move evX) ?_) <;> (try refine nY ?_)
          (first | refine t_qt 8 rfl (by kernel_rfl) rfl rfl (by exact qt_move evX) ?_ | refine t_no 8 rfl (by kernel_rfl) rfl rfl ?_) <;> (try refine nY ?_)
          (first | refine t_qt 9 rfl (by kernel_rfl) rfl rfl (by exact qt_move evX) ?_ | refine t_no 9 rfl (by kernel_rfl) rfl rfl ?_) <;> (try refine nY ?_)
          ((first | (refine t_ex0 10 rfl (by kernel_rfl) rfl rfl (qt_slice (a := k) (b := a.length) evX ha inX inX (.inr ⟨.i64, by simp [evF, nth]⟩) (.inl ⟨rfl, rfl⟩) (.inl rfl) (by omega) (by omega) ) ?_; rintro  v10 hw10) | refine t_no 10 rfl (by kernel_rfl) rfl rfl ?_)) <;> (try refine nY ?_)
          (first | refine t_qt 11 rfl (by kernel_rfl) rfl rfl (by exact qt_move evX) ?_ | refine t_no 11 rfl (by kernel_rfl) rfl rfl ?_) <;> (try refine nY ?_)
          (first | refine t_qt 12 rfl (by kernel_rfl) rfl rfl (by exact qt_move evX) ?_ | refine t_no 12 rfl (by kernel_rfl) rfl rfl ?_) <;> (try refine nY ?_)
          ((first | (refine t_ex0 13 rfl (by kernel_rfl) rfl rfl (qt_slice (a := k) (b := b.length) evX hb inX inX (.inr ⟨.i64, by simp [evF, nth]⟩) (.inl ⟨rfl, rfl⟩) (.inl rfl) (by omega) (by omega) ) ?_; rintro  v13 hw13) | refine t_no 13 rfl (by kernel_rfl) rfl rfl ?_)) <;> (try refine nY ?_)
          ((first | refine t_call 14 rfl (by kernel_rfl) rfl (fun S' M' w hS hM hst => cE w hst (hG.mono hS) v10 v13 (by rw [← E9.out]; exact hw10.mono hS) (by rw [← E8.out]; exact hw13.mono hS)) inX rfl ?_ | refine t_no 14 rfl (by kernel_rfl) rfl rfl ?_)) <;> (try refine nY ?_)
          (refine t_qt 15 rfl (by kernel_rfl) rfl rfl (by first | exact qt_pick_t rfl evX | exact qt_pick_f rfl evX) ?_) <;> (try refine nY ?_)
          (refine t_qt 16 rfl (by kernel_rfl) rfl rfl (by exact qt_assign evX) ?_) <;> (try refine nY ?_)
          refine v_done (by kernel_rfl) ?_; clear ops; intro w hst
          repeat' (((fail_if_success (go_big_may)); (go_step)))
          go_ret
          exact ⟨_, rfl, by rw [hE.out, diff_fin G1.out G2.out G3.out]; simp, hst.drop.drop.drop.drop⟩
end Go.Proofs.YtcobalpbencboaaDoor

/- The statement MerkleBinding, walked. -/
--@u32
--@hgp
--@flat
--@dg
--@ex0
namespace Go.Proofs.YtcobalpbencboaaDoor
set_option linter.unusedSimpArgs false
set_option linter.unusedVariables false
open Go.RowKit Go.Sl

set_option maxRecDepth 8000 in
set_option maxHeartbeats 1000000 in
theorem binding_c {S M} (w : World) (hst : St S M w) (hG : Glob S) (va vb : Value) (a b : List Dg) (ha : RSl S va a) (hb : RSl S vb b) (hma : a.length ≤ 1048576) (hmb : b.length ≤ 1048576) :
    Rets Tryd.prog 7 [va, vb] w fun v w' => v = .bool true ∧ St S M w' := by
  unfold Rets
  have ha1 := ha.oneCell
  have hb1 := hb.oneCell
  by_cases h40 : 40 < a.length
  · go_enter Tryd.func7, Tryd.ntmps7
    repeat' (first | go_skip | (((with_reducible refine Sl.k_guard ?_; ((refine Sl.guard_cases rfl ?_ ?_ <;> intro hg <;> first | (exfalso; simp only [decide_eq_true_eq, decide_eq_false_iff_not, Bool.not_false, Bool.not_true, beq_iff_eq, beq_eq_false_iff_ne, ne_eq] at hg; omega) | (simp only [hg, Bool.not_true, Bool.not_false])) <;> (try simp only [decide_eq_true_eq, decide_eq_false_iff_not, Bool.not_false, Bool.not_true, beq_iff_eq, beq_eq_false_iff_ne, bne_iff_ne, bne_eq_false_iff_eq, ne_eq] at hg)))) <;> (try refine nY ?_)) | (((with_reducible refine Sl.k_call ?_; ((refine s_call (sanity_c _ hst hG) inX rfl ?_; clear hst; rintro v w ⟨rfl, hst⟩)))) <;> (try refine nY ?_) <;> (try replace hst := nH hst)) | ((fail_if_success (go_big_may)); (go_step)) | (((with_reducible refine Sl.k_call ?_; (refine s_qt hst (by exact qt_len evX asX inX) ?_))) <;> (try refine nY ?_)) | (with_reducible refine Sl.gate rfl ?_; (go_step)))
    go_ret
    exact ⟨_, rfl, rfl, hst⟩
  · by_cases hl : a.length = b.length
    · have h1 : ((a.length : Int) != (b.length : Int)) = false := bne_eq_false_iff_eq.2 (by omega)
      have hbl : b.length ≤ 40 := by omega
      have cA := fun {S M} (w : World) (hst : St S M w) (hG : Glob S) (hl : RSl S va a) => root_c 40 w hst hG va a hl (by omega) (by omega)
      have cB := fun {S M} (w : World) (hst : St S M w) (hG : Glob S) (hl : RSl S vb b) => root_c 40 w hst hG vb b hl (by omega) (by omega)
      have hA16 := rootM_len a
      have hB16 := rootM_len b
      by_cases hr : rootM a = rootM b
      · have hlaw := binding_law a.length a b (Nat.le_refl _) hl hr
        by_cases hab : a = b
        · have cS := fun {S : Snap} {M : List Chunk} (w : World) (hst : St S M w) (ha : RSl S va a) (hb : RSl S vb b) => (same_c w hst va vb a b ha hb hma hmb).eq (decide_eq_true hab)
          clear hlaw hl
          go_enter Tryd.func7, Tryd.ntmps7
          repeat' (first | go_skip | ((first | (with_reducible refine Sl.k_bin ?_; ((refine s_qt hst (qt_neqK_b rfl rfl (r_dg hA16) (r_dg hB16) inX inX inX (by exact decide_eq_true (by assumption))) ?_))) | (with_reducible refine Sl.k_guard ?_; (first | (refine Sl.guard_yes rfl ?_) | (refine Sl.guard_cases rfl ?_ ?_ <;> intro hg <;> first | (exfalso; simp only [decide_eq_true_eq, decide_eq_false_iff_not, Bool.not_false, Bool.not_true, beq_iff_eq, beq_eq_false_iff_ne, ne_eq] at hg; omega) | (simp only [hg, Bool.not_true, Bool.not_false])) <;> (try simp only [decide_eq_true_eq, decide_eq_false_iff_not, Bool.not_false, Bool.not_true, beq_iff_eq, beq_eq_false_iff_ne, bne_iff_ne, bne_eq_false_iff_eq, ne_eq] at hg)))) <;> (try refine nY ?_)) | (((with_reducible refine Sl.k_call ?_; (first | (refine s_call (sanity_c _ hst hG) inX rfl ?_; clear hst; rintro v w ⟨rfl, hst⟩) | (refine s_call (cS _ hst ha hb) inX rfl ?_; clear hst; rintro v w ⟨rfl, hst⟩) | (refine s_call (cA _ hst hG ha) inX rfl ?_; clear hst; rintro v w ⟨rfl, hst⟩) | (refine s_call (cB _ hst hG hb) inX rfl ?_; clear hst; rintro v w ⟨rfl, hst⟩)))) <;> (try refine nY ?_) <;> (try replace hst := nH hst)) | ((fail_if_success (go_big_may)); (go_step)) | (((with_reducible refine Sl.k_call ?_; (refine s_qt hst (by exact qt_len evX asX inX) ?_))) <;> (try refine nY ?_)) | (with_reducible refine Sl.gate rfl ?_; (go_step)))
          go_ret
          exact ⟨_, rfl, rfl, hst⟩
        · have cS := fun {S : Snap} {M : List Chunk} (w : World) (hst : St S M w) (ha : RSl S va a) (hb : RSl S vb b) => (same_c w hst va vb a b ha hb hma hmb).eq (decide_eq_false hab)
          have hd := hlaw.resolve_left hab
          have cD := fun {S : Snap} {M : List Chunk} (w : World) (hst : St S M w) (hG : Glob S) (ha : RSl S va a) (hb : RSl S vb b) => (differs_c a.length w hst hG va vb a b ha hb hl (Nat.le_refl _) (by omega)).eq hd
          clear hlaw hl hd
          go_enter Tryd.func7, Tryd.ntmps7
          repeat' (first | ((first | (with_reducible refine Sl.k_bin ?_; ((refine s_qt hst (qt_neqK_b rfl rfl (r_dg hA16) (r_dg hB16) inX inX inX (by exact decide_eq_true (by assumption))) ?_))) | (with_reducible refine Sl.k_guard ?_; (first | (refine Sl.guard_yes rfl ?_) | (refine Sl.guard_cases rfl ?_ ?_ <;> intro hg <;> first | (exfalso; simp only [decide_eq_true_eq, decide_eq_false_iff_not, Bool.not_false, Bool.not_true, beq_iff_eq, beq_eq_false_iff_ne, ne_eq] at hg; omega) | (simp only [hg, Bool.not_true, Bool.not_false])) <;> (try simp only [decide_eq_true_eq, decide_eq_false_iff_not, Bool.not_false, Bool.not_true, beq_iff_eq, beq_eq_false_iff_ne, bne_iff_ne, bne_eq_false_iff_eq, ne_eq] at hg)))) <;> (try refine nY ?_)) | (((with_reducible refine Sl.k_call ?_; (first | (refine s_call (sanity_c _ hst hG) inX rfl ?_; clear hst; rintro v w ⟨rfl, hst⟩) | (refine s_call (cS _ hst ha hb) inX rfl ?_; clear hst; rintro v w ⟨rfl, hst⟩) | (refine s_call (cA _ hst hG ha) inX rfl ?_; clear hst; rintro v w ⟨rfl, hst⟩) | (refine s_call (cB _ hst hG hb) inX rfl ?_; clear hst; rintro v w ⟨rfl, hst⟩) | (refine s_call (cD _ hst hG ha hb) inX rfl ?_; clear hst; rintro v w ⟨rfl, hst⟩)))) <;> (try refine nY ?_) <;> (try replace hst := nH hst)) | ((fail_if_success (go_big_may)); (go_step)) | (((with_reducible refine Sl.k_call ?_; (refine s_qt hst (by exact qt_len evX asX inX) ?_))) <;> (try refine nY ?_)) | (with_reducible refine Sl.gate rfl ?_; (go_step)))
          go_ret
          exact ⟨_, rfl, rfl, hst⟩
      · have hab : a ≠ b := fun e => hr (by rw [e])
        have cS := fun {S : Snap} {M : List Chunk} (w : World) (hst : St S M w) (ha : RSl S va a) (hb : RSl S vb b) => (same_c w hst va vb a b ha hb hma hmb).eq (decide_eq_false hab)
        clear hl
        go_enter Tryd.func7, Tryd.ntmps7
        repeat' (first | ((first | (with_reducible refine Sl.k_bin ?_; ((refine s_qt hst (qt_neqK_b rfl rfl (r_dg hA16) (r_dg hB16) inX inX inX (by exact decide_eq_false (by assumption))) ?_))) | (with_reducible refine Sl.k_guard ?_; (first | (refine Sl.guard_yes rfl ?_) | (refine Sl.guard_cases rfl ?_ ?_ <;> intro hg <;> first | (exfalso; simp only [decide_eq_true_eq, decide_eq_false_iff_not, Bool.not_false, Bool.not_true, beq_iff_eq, beq_eq_false_iff_ne, ne_eq] at hg; omega) | (simp only [hg, Bool.not_true, Bool.not_false])) <;> (try simp only [decide_eq_true_eq, decide_eq_false_iff_not, Bool.not_false, Bool.not_true, beq_iff_eq, beq_eq_false_iff_ne, bne_iff_ne, bne_eq_false_iff_eq, ne_eq] at hg)))) <;> (try refine nY ?_)) | (((with_reducible refine Sl.k_call ?_; (first | (refine s_call (sanity_c _ hst hG) inX rfl ?_; clear hst; rintro v w ⟨rfl, hst⟩) | (refine s_call (cS _ hst ha hb) inX rfl ?_; clear hst; rintro v w ⟨rfl, hst⟩) | (refine s_call (cA _ hst hG ha) inX rfl ?_; clear hst; rintro v w ⟨rfl, hst⟩) | (refine s_call (cB _ hst hG hb) inX rfl ?_; clear hst; rintro v w ⟨rfl, hst⟩)))) <;> (try refine nY ?_) <;> (try replace hst := nH hst)) | ((fail_if_success (go_big_may)); (go_step)) | (((with_reducible refine Sl.k_call ?_; (refine s_qt hst (by exact qt_len evX asX inX) ?_))) <;> (try refine nY ?_)) | (with_reducible refine Sl.gate rfl ?_; (go_step)))
        go_ret
        exact ⟨_, rfl, rfl, hst⟩
    · have h1 : ((a.length : Int) != (b.length : Int)) = true := bne_iff_ne.2 (by omega)
      clear hl
      go_enter Tryd.func7, Tryd.ntmps7
      repeat' (first | (((with_reducible refine Sl.k_guard ?_; (first | (refine Sl.guard_yes rfl ?_) | (refine Sl.guard_cases rfl ?_ ?_ <;> intro hg <;> first | (exfalso; simp only [decide_eq_true_eq, decide_eq_false_iff_not, Bool.not_false, Bool.not_true, beq_iff_eq, beq_eq_false_iff_ne, ne_eq] at hg; omega) | (simp only [hg, Bool.not_true, Bool.not_false])) <;> (try simp only [decide_eq_true_eq, decide_eq_false_iff_not, Bool.not_false, Bool.not_true, beq_iff_eq, beq_eq_false_iff_ne, bne_iff_ne, bne_eq_false_iff_eq, ne_eq] at hg)))) <;> (try refine nY ?_)) | (((with_reducible refine Sl.k_call ?_; ((refine s_call (sanity_c _ hst hG) inX rfl ?_; clear hst; rintro v w ⟨rfl, hst⟩)))) <;> (try refine nY ?_) <;> (try replace hst := nH hst)) | ((fail_if_success (go_big_may)); (go_step)) | (((with_reducible refine Sl.k_call ?_; (refine s_qt hst (by exact qt_len evX asX inX) ?_))) <;> (try refine nY ?_)) | (with_reducible refine Sl.gate rfl ?_; (go_step)))
      go_ret
      exact ⟨_, rfl, rfl, hst⟩
theorem binding_c' {S M} (w : World) (hst : St S M w) (hG : Glob S) (va : Value) (a : List Dg) (ha : RSl S va a) (hma : a.length ≤ 1048576) (vb : Value) (b : List Dg) (hb : RSl S vb b) (hmb : b.length ≤ 1048576) :
    Rets Tryd.prog 7 [va, vb] w fun v w' => v = .bool true ∧ St S M w' := binding_c w hst hG va vb a b ha hb hma hmb
end Go.Proofs.YtcobalpbencboaaDoor

/- The statement MerkleBinding. -/
namespace Go.Proofs.YtcobalpbencboaaDoor
set_option linter.unusedSimpArgs false
set_option linter.unusedVariables false
open Go.RowKit Go.Sl Go.ChangeShapes Go.WideShapes Go.ChangeAt

set_option maxRecDepth 20000 in
theorem mbind_post (H : Type) (enc : TypeId × Value → H) (W : World) (base : Nat) (args : Array Value) (ds gs : List (DataW H)) (before : List MemPlace)
    (hval : ∀ (j : Nat) t v, Tryd.f7.params[j]? = some t → args[j]? = some v → Value.okWide Tryd.prog W .any base t v)
    (hW : DataW.Whole enc Tryd.prog Tryd.f7.params.toList Rows.merkleBindingSpec.vars false W args.toList ds gs before) (hk : Rows.uptoSmall H (ds ++ gs) = true) (hL : laidMetH Tryd.prog Rows.merkleBindingUptoRow.laid W) :
    Calls Tryd.prog 7 args W fun e W' => ∃ v, e = .returned v ∧ Rows.merkleBindingSpec.post enc Tryd.prog Tryd.f7 false true false false W args v W' := by
  have hW' := hW
  obtain ⟨p, q, hA0, hV, rfl, hfz, hnd⟩ := hW
  have hA : DataW.TrodAll enc Tryd.prog W 0 (fun _ => true) true Tryd.f7.params.toList args.toList ds p := hA0
  have hk := small_all hk
  rw [Tryd.params7] at hA hval
  obtain ⟨v0, vs0, d0, ds0, p0, q0, hargs, rfl, rfl, h0, r0⟩ := trodAll_cons hA
  obtain ⟨v1, vs1, d1, ds1, p1, q1, rfl, rfl, rfl, h1, r1⟩ := trodAll_cons r0
  obtain ⟨rfl, rfl, rfl⟩ := trodAll_nil r1
  obtain rfl : args = #[v0, v1] := by cases args; simp_all
  obtain ⟨rfl, rfl⟩ := trodVars_none hV
  simp only [List.append_nil, Rows.uptoBulkAll] at hk
  obtain ⟨l0, hl0, hm0⟩ := open_ds (hval 0 22 v0 rfl rfl) h0 (by omega)
  obtain ⟨l1, hl1, hm1⟩ := open_ds (hval 1 22 v1 rfl rfl) h1 (by omega)
  refine Calls.mono (binding_c' W (St.start W) (glob_of hL) v0 l0 hl0 hm0 v1 l1 hl1 hm1) fun e W' ⟨v, he, hv, hst⟩ => ?_
  subst hv
  exact ⟨_, he, law_post (tb := 4) rfl hW' (by kernel_rfl) (by rw [Tryd.params7]; intro t ht'; have e : t = 22 := (by simpa using ht'); subst e; exact ⟨by kernel_rfl, of_decide_eq_true (by kernel_rfl)⟩) (by kernel_rfl) (by kernel_rfl) rfl rfl rfl hst.below⟩

abbrev mbind_args : Array Value := #[.slice none 0 0, .slice none 0 0]
theorem mbind_met (os : Os) : laidMet Tryd.prog Rows.merkleBindingUptoRow.laid ((laidWorld os #[]).forCall (fun _ _ => 0) ⟨#[], mbind_args, []⟩).memory :=
  laidMet_of_run' 8 (by kernel_rfl) (by kernel_rfl)
theorem mbind_reads (os : Os) {H : Type} (enc : TypeId × Value → H) : ∃ places, DataW.whole enc Tryd.prog ((laidWorld os #[]).forCall (fun _ _ => 0) ⟨#[], mbind_args, []⟩).memory Tryd.f7.params.toList Rows.merkleBindingSpec.vars false mbind_args.toList 8 = some ([.nil, .nil], [], places) :=
  ⟨[], by kernel_rfl⟩

set_option maxRecDepth 100000 in
theorem mbind_lifted (os : Os) (started : os.Started) (H : Type) (enc : TypeId × Value → H) (F : Stop.Interp) :
    ReturnsInHanded {} Tryd.checked os 7 .any ((Rows.OpenSpec.upto Rows.merkleBindingSpec).preRow enc Tryd.prog Tryd.f7 Rows.merkleBindingUptoRow.domain false Rows.merkleBindingUptoRow.laid) (((Rows.OpenSpec.upto Rows.merkleBindingSpec).at F).post enc Tryd.prog Tryd.f7 false true false false) := by
  obtain ⟨places, hx⟩ := mbind_reads os enc
  refine returnsInHanded_of_row (C := Tryd.checked) (s := Rows.OpenSpec.upto Rows.merkleBindingSpec) own started (by kernel_rfl) Tryd.func7
    (witness_row_at (enc := enc) (C := Tryd.checked) false (laidWorld os #[]) mbind_args rfl (by kernel_rfl) (by kernel_rfl) (by kernel_rfl)
      (OpenSpec.preRow_of_cond 8 hx (by kernel_rfl) (fun k hk => by cases hk; kernel_rfl) (by kernel_rfl) (mbind_met os))) ?_
  intro W base args ds gs before hval hW _ hc _ hL _ _
  exact mbind_post H enc W base args ds gs before hval hW (hc _ rfl) hL

theorem mbind_said : Rows.MerkleBindingUptoSaid :=
  OpenClaim.holds_of_cond 7 Tryd.f7 rfl rfl rfl rfl rfl rfl rfl ⟨rfl, rfl, rfl, rfl, rfl⟩ rfl rfl rfl rfl rfl (by kernel_rfl) Tryd.func7 (by kernel_rfl)
    (of_decide_eq_true (by kernel_rfl)) (by unfold Func.isWrapper; first | (rw [if_pos (by decide +kernel)]; kernel_rfl) | (rw [if_neg (by decide +kernel)]; exact ⟨rfl, rfl⟩))
    (fun os started H enc _ F => by rw [OpenClaim.pre_eq_preRow]; exact mbind_lifted os started H enc F)

theorem mbind_plain (f : FuncId) (fn : Func) (hf : Tryd.pinned.checked.prog.funcNamed "bootchain/bootchainlaw03.MerkleBinding" = some f) (hfn : Tryd.pinned.checked.prog.funcs[f]? = some fn) :
    false = Tryd.pinned.checked.prog.looks [] ∧ ∀ (j : Nat) t, fn.params[j]? = some t → Tryd.pinned.checked.prog.wantsStandIn t = false := by
  obtain rfl : f = 7 := Option.some.inj ((show Tryd.prog.funcNamed "bootchain/bootchainlaw03.MerkleBinding" = some 7 by kernel_rfl).symm.trans hf) |>.symm
  obtain rfl : fn = Tryd.f7 := (Option.some.inj (Tryd.func7.symm.trans hfn)).symm
  refine ⟨by kernel_rfl, fun j t ht => ?_⟩
  rw [Tryd.params7] at ht
  have e : t = 22 := by simpa using Array.mem_of_getElem? ht
  subst e
  · exact (show Tryd.prog.wantsStandIn 22 = false by kernel_rfl)

theorem mbind_proved : Rows.MerkleBindingUptoCardSaid :=
  Claim7.holds_tied_plain_at .later [] _ _ _ _ mbind_said (fun _ h => by cases h) (by kernel_rfl) (fun _ h => by cases h) merkleBindingUpto_row_tie rfl ⟨rfl, rfl⟩ (by kernel_rfl) rfl mbind_plain (by kernel_rfl)
end Go.Proofs.YtcobalpbencboaaDoor
