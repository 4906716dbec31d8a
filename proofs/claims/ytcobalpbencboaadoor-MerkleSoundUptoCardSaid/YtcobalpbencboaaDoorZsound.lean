/- The statement MerkleSound is proved: a proof that verifies is of the leaf at the index, or a collision is exhibited, for at most 40 leaves. -/
import Derived.Test.YtcobalpbencboaaDoorBb
import Derived.Test.YtcobalpbencboaaDoorBg
import Derived.Test.YtcobalpbencboaaDoorBe

/- The reference's search for collisions, walked. -/
--@u32
--@hgp
--@flat
--@dg
--@ex0
namespace Go.Proofs.YtcobalpbencboaaDoor
set_option linter.unusedSimpArgs false
set_option linter.unusedVariables false
open Go.RowKit Go.Sl

theorem coll_fin {L L' R R' : Dg} {N : Prop} [Decidable N] {c1 c2 c3 b : Bool} (g1 : decide (L = L') = c1) (g2 : decide (R = R') = c2) (g3 : decide N = c3) : (if (L ≠ L' ∨ R ≠ R') ∧ N then true else b) = ((!c1 || !c2) && c3 || b) := by
  subst g1; subst g2; subst g3
  by_cases h1 : L = L' <;> by_cases h2 : R = R' <;> by_cases h3 : N <;> simp [h1, h2, h3]
theorem getD0' {l : List Dg} (h : 0 < l.length) : l[0] = l.getD 0 zeroD := by rw [List.getD_eq_getElem?_getD, List.getElem?_eq_getElem h]; rfl
theorem lastD_len {p : List Dg} (h : ∀ d ∈ p, d.l.length = 16) : (lastD p).l.length = 16 := by
  rw [lastD, List.getD_eq_getElem?_getD]
  cases e : p[p.length - 1]? with
  | none => rfl
  | some d => exact h d (List.mem_of_getElem? e)

set_option maxRecDepth 8000 in
set_option maxHeartbeats 2000000 in
theorem collides_c : ∀ (m : Nat) {S M} (w : World) (_hst : St S M w) (_hG : Glob S) (vl : Value) (l : List Dg) (_hl : RSl S vl l) (i : Nat) (_hi : i < l.length) (_hm : l.length ≤ m) (_hm2 : m ≤ 1000) (leaf : Dg) (_hf : leaf.l.length = 16) (vp : Value) (proof : List Dg) (_hp : RSl S vp proof) (_hpm : proof.length ≤ 1048576),
    Rets Tryd.prog 23 [vl, .int .i64 (i : Int), dgV leaf, vp] w fun v w' => v = .bool (collM l i leaf proof) ∧ St S M w' := by
  intro m
  induction m with
  | zero => intro S M w hst hG vl l hl i hi hm; omega
  | succ m ih =>
    intro S M w hst hG vl l hl i hi hm hm2 leaf hf vp proof hp hpm
    haveI : LenIs leaf.l 16 := ⟨hf⟩
    have hl1 := hl.oneCell
    have hp1 := hp.oneCell
    have hpd := hp.dgs
    by_cases h1 : l.length = 1
    · have hE := Lib.hid (collM_one (i := i) (leaf := leaf) (proof := proof) h1)
      have h3 : ((l.length : Int) == 1) = true := beq_iff_eq.2 (by omega)
      have hla : 0 < l.length := by omega
      have hga := Lib.hid (getD0' hla)
      have hda := hl.dgs l[0] (List.getElem_mem hla)
      clear h1
      unfold Rets
      by_cases hab : l[0] = leaf
      · have hv : Hid (collM l i leaf proof = false) := Lib.hid (by rw [hE.out, ← hga.out, hab]; simp)
        go_enter Tryd.func23, Tryd.ntmps23
        repeat' (first | (((with_reducible refine Sl.k_guard ?_; ((refine Sl.guard_yes rfl ?_)))) <;> (try refine nY ?_)) | ((fail_if_success (go_big_may)); (go_step)) | (((with_reducible refine Sl.k_call ?_; (refine s_qt hst (by exact qt_len evX asX inX) ?_))) <;> (try refine nY ?_)) | (with_reducible refine Sl.gate rfl ?_; (go_step)) | (((((refine s_box hst evX rfl ?_; clear hst; intro bx w hst)))) <;> (try refine nY ?_) <;> (try replace hst := nH hst)))
        refine v_begin hst (by kernel_rfl) ?_; clear hst; intro ops; (try refine nY ?_)
        (refine t_qt 0 rfl (by kernel_rfl) rfl rfl (by exact qt_move evX) ?_) <;> (try refine nY ?_)
        ((refine t_ex0 1 rfl (by kernel_rfl) rfl rfl (qt_index evX asX rfl inX inX omX omX) ?_; rintro v hp; (try simp only [Int.toNat_natCast, Int.toNat_natCast_add_one, Int.reduceToNat] at hp))) <;> (try refine nY ?_)
        (refine t_qt 2 rfl (by kernel_rfl) rfl rfl (by exact qt_ldp_flat evX asX inX inX rfl) ?_) <;> (try refine nY ?_)
        (refine t_qt 3 rfl (by kernel_rfl) rfl rfl (by exact qt_loadD evX BoxIn.h inX inX) ?_) <;> (try refine nY ?_)
        (refine t_qt 4 rfl (by kernel_rfl) rfl rfl (qt_neqK_b rfl rfl (r_dg hda) (r_dg hf) inX inX inferInstance (decide_eq_true hab)) ?_) <;> (try refine nY ?_)
        (refine t_qt 5 rfl (by kernel_rfl) rfl rfl (by exact qt_move evX) ?_) <;> (try refine nY ?_)
        (refine t_no 6 rfl (by kernel_rfl) rfl rfl ?_) <;> (try refine nY ?_)
        (refine t_no 7 rfl (by kernel_rfl) rfl rfl ?_) <;> (try refine nY ?_)
        (refine t_no 8 rfl (by kernel_rfl) rfl rfl ?_) <;> (try refine nY ?_)
        (refine t_no 9 rfl (by kernel_rfl) rfl rfl ?_) <;> (try refine nY ?_)
        (refine t_no 10 rfl (by kernel_rfl) rfl rfl ?_) <;> (try refine nY ?_)
        (refine t_no 11 rfl (by kernel_rfl) rfl rfl ?_) <;> (try refine nY ?_)
        (refine t_no 12 rfl (by kernel_rfl) rfl rfl ?_) <;> (try refine nY ?_)
        (refine t_qt 13 rfl (by kernel_rfl) rfl rfl (by exact qt_pick_f rfl evX) ?_) <;> (try refine nY ?_)
        (refine t_qt 14 rfl (by kernel_rfl) rfl rfl (by exact qt_assign evX) ?_) <;> (try refine nY ?_)
        refine v_done (by kernel_rfl) ?_; clear ops; intro w hst
        repeat' (((fail_if_success (go_big_may)); (go_step)))
        go_ret
        exact ⟨_, rfl, by rw [hv.out]; rfl, hst.drop⟩
      · have hv : Hid (collM l i leaf proof = decide (leafM l[0] = leafM leaf)) := Lib.hid (by rw [hE.out, ← hga.out]; simp [hab])
        go_enter Tryd.func23, Tryd.ntmps23
        repeat' (first | (((with_reducible refine Sl.k_guard ?_; ((refine Sl.guard_yes rfl ?_)))) <;> (try refine nY ?_)) | ((fail_if_success (go_big_may)); (go_step)) | (((with_reducible refine Sl.k_call ?_; (refine s_qt hst (by exact qt_len evX asX inX) ?_))) <;> (try refine nY ?_)) | (with_reducible refine Sl.gate rfl ?_; (go_step)) | (((((refine s_box hst evX rfl ?_; clear hst; intro bx w hst)))) <;> (try refine nY ?_) <;> (try replace hst := nH hst)))
        refine v_begin hst (by kernel_rfl) ?_; clear hst; intro ops; (try refine nY ?_)
        (refine t_qt 0 rfl (by kernel_rfl) rfl rfl (by exact qt_move evX) ?_) <;> (try refine nY ?_)
        ((refine t_ex0 1 rfl (by kernel_rfl) rfl rfl (qt_index evX asX rfl inX inX omX omX) ?_; rintro v hp; (try simp only [Int.toNat_natCast, Int.toNat_natCast_add_one, Int.reduceToNat] at hp))) <;> (try refine nY ?_)
        (refine t_qt 2 rfl (by kernel_rfl) rfl rfl (by exact qt_ldp_flat evX asX inX inX rfl) ?_) <;> (try refine nY ?_)
        (refine t_qt 3 rfl (by kernel_rfl) rfl rfl (by exact qt_loadD evX BoxIn.h inX inX) ?_) <;> (try refine nY ?_)
        (refine t_qt 4 rfl (by kernel_rfl) rfl rfl (qt_neqK_b rfl rfl (r_dg hda) (r_dg hf) inX inX inferInstance (decide_eq_false hab)) ?_) <;> (try refine nY ?_)
        (refine t_qt 5 rfl (by kernel_rfl) rfl rfl (by exact qt_move evX) ?_) <;> (try refine nY ?_)
        (refine t_qt 6 rfl (by kernel_rfl) rfl rfl (by exact qt_move evX) ?_) <;> (try refine nY ?_)
        ((refine t_ex0 7 rfl (by kernel_rfl) rfl rfl (qt_index evX asX rfl inX inX omX omX) ?_; rintro v hp; (try simp only [Int.toNat_natCast, Int.toNat_natCast_add_one, Int.reduceToNat] at hp))) <;> (try refine nY ?_)
        (refine t_qt 8 rfl (by kernel_rfl) rfl rfl (by exact qt_ldp_flat evX asX inX inX rfl) ?_) <;> (try refine nY ?_)
        ((refine t_call 9 rfl (by kernel_rfl) rfl (fun S' M' w hS hM hst => refLeaf_c w hst (hG.mono hS) l[0] hda) inX rfl ?_)) <;> (try refine nY ?_)
        (refine t_qt 10 rfl (by kernel_rfl) rfl rfl (by exact qt_loadD evX BoxIn.h inX inX) ?_) <;> (try refine nY ?_)
        ((refine t_call 11 rfl (by kernel_rfl) rfl (fun S' M' w hS hM hst => refLeaf_c w hst (hG.mono hS) leaf hf) inX rfl ?_)) <;> (try refine nY ?_)
        ((refine t_qt 12 rfl (by kernel_rfl) rfl rfl (qt_eqlK rfl rfl (r_dg (leafM_len _)) (r_dg (leafM_len _)) inX inX inferInstance) ?_)) <;> (try refine nY ?_)
        (refine t_qt 13 rfl (by kernel_rfl) rfl rfl (by exact qt_pick_t rfl evX) ?_) <;> (try refine nY ?_)
        (refine t_qt 14 rfl (by kernel_rfl) rfl rfl (by exact qt_assign evX) ?_) <;> (try refine nY ?_)
        refine v_done (by kernel_rfl) ?_; clear ops; intro w hst
        repeat' (((fail_if_success (go_big_may)); (go_step)))
        go_ret
        exact ⟨_, rfl, by rw [hv.out]; rfl, hst.drop⟩
    · have h3 : ((l.length : Int) == 1) = false := beq_eq_false_iff_ne.2 (by omega)
      have hl2 : 2 ≤ l.length := by omega
      by_cases h0 : proof.length = 0
      · have hE := Lib.hid (collM_nil (i := i) (leaf := leaf) hl2 h0)
        have h00 : ((proof.length : Int) == 0) = true := beq_iff_eq.2 (by omega)
        clear h0 h1
        unfold Rets
        go_enter Tryd.func23, Tryd.ntmps23
        repeat' (first | (((with_reducible refine Sl.k_guard ?_; ((refine Sl.guard_yes rfl ?_)))) <;> (try refine nY ?_)) | ((fail_if_success (go_big_may)); (go_step)) | (((with_reducible refine Sl.k_call ?_; (refine s_qt hst (by exact qt_len evX asX inX) ?_))) <;> (try refine nY ?_)) | (with_reducible refine Sl.gate rfl ?_; (go_step)) | (((((refine s_box hst evX rfl ?_; clear hst; intro bx w hst)))) <;> (try refine nY ?_) <;> (try replace hst := nH hst)))
        go_ret
        exact ⟨_, rfl, by rw [hE.out]; rfl, hst.drop⟩
      · have h00 : ((proof.length : Int) == 0) = false := beq_eq_false_iff_ne.2 (by omega)
        obtain ⟨hs1, hs2⟩ := splitM_spec hl2
        have hEL := Lib.hid (fun h => collM_left (i := i) (leaf := leaf) hl2 h0 h)
        have hER := Lib.hid (fun h => collM_right (i := i) (leaf := leaf) hl2 h0 h)
        have hsp := fun {S M} (w : World) (hst : St S M w) => refSplit_c w hst l.length hl2 (by omega)
        have hal : (l.take (splitM l.length)).length ≤ m ∧ (l.take (splitM l.length)).length = splitM l.length := by rw [List.length_take]; omega
        have har : (l.drop (splitM l.length)).length ≤ m ∧ (l.drop (splitM l.length)).length = l.length - splitM l.length := by rw [List.length_drop]; omega
        have E9 : Hid ((l.drop (splitM l.length)).take (l.length - splitM l.length) = l.drop (splitM l.length)) := Lib.hid (List.take_of_length_le (by rw [List.length_drop]; exact Nat.le_refl _))
        obtain ⟨q, hq⟩ : ∃ q, proof.length = q + 1 := ⟨proof.length - 1, by omega⟩
        have hqb : q + 1 ≤ proof.length ∧ proof.length ≤ q + 1 := by omega
        have hqi : Hid (proof.take q = initD proof) := Lib.hid (by rw [initD, hq]; rfl)
        have hlt1 : ((proof.length : Int) - 1).toNat < proof.length := by omega
        have hql : proof[((proof.length : Int) - 1).toNat]'hlt1 = lastD proof := lastD_get _ (by omega)
        have hilen : (initD proof).length ≤ 1048576 := by rw [init_len]; omega
        have lP := lastD_len hpd
        have cL := fun {S M} (w : World) (hst : St S M w) (hG : Glob S) (v : Value) (hv : RSl S v (l.take (splitM l.length))) => refRoot_c m w hst hG v _ hv hal.1 (by omega)
        have cR := fun {S M} (w : World) (hst : St S M w) (hG : Glob S) (v : Value) (hv : RSl S v (l.drop (splitM l.length))) => refRoot_c m w hst hG v _ hv har.1 (by omega)
        have lL := rootM_len (l.take (splitM l.length))
        have lR := rootM_len (l.drop (splitM l.length))
        have HA1 := Lib.hid hal.2
        have HA2 := Lib.hid har.2
        have hal1 := hal.1
        have har1 := har.1
        clear h0 h1 hq hal har
        generalize rootM (l.take (splitM l.length)) = L at *
        generalize rootM (l.drop (splitM l.length)) = R at *
        generalize lastD proof = P at *
        generalize hk : splitM l.length = k at *
        have Hk := Lib.hid hk
        clear hk
        haveI : LenIs L.l 16 := ⟨lL⟩
        haveI : LenIs R.l 16 := ⟨lR⟩
        haveI : LenIs P.l 16 := ⟨lP⟩
        unfold Rets
        by_cases hik : i < k
        · have hE := Lib.hid (hEL.out hik)
          clear hEL hER
          have cC := fun {S M} (w : World) (hst : St S M w) (hG : Glob S) (v : Value) (hv : RSl S v (initD proof)) => combine_c k w hst hG k i hik (Nat.le_refl _) (by omega) leaf hf v (initD proof) hv hilen
          have cX := fun {S M} (w : World) (hst : St S M w) (hG : Glob S) (v : Value) (hv : RSl S v (l.take k)) (u : Value) (hu : RSl S u (initD proof)) => ih w hst hG v (l.take k) hv i (by rw [HA1.out]; exact hik) hal1 (by omega) leaf hf u (initD proof) hu hilen
          have lD := combM_len k i leaf (initD proof)
          generalize combM k i leaf (initD proof) = CM at *
          generalize collM (l.take k) i leaf (initD proof) = X at *
          haveI : LenIs CM.1.l 16 := ⟨lD⟩
          obtain ⟨c1, g1⟩ : ∃ c, decide (CM.1 = L) = c := ⟨_, rfl⟩
          obtain ⟨c2, g2⟩ : ∃ c, decide (P = R) = c := ⟨_, rfl⟩
          obtain ⟨c3, g3⟩ : ∃ c, decide (nodeM CM.1 P = nodeM L R) = c := ⟨_, rfl⟩
          have G1 := Lib.hid g1
          have G2 := Lib.hid g2
          have G3 := Lib.hid g3
          go_enter Tryd.func23, Tryd.ntmps23
          repeat' (first | (((with_reducible refine Sl.k_guard ?_; ((refine Sl.guard_yes rfl ?_)))) <;> (try refine nY ?_)) | (((with_reducible refine Sl.k_call ?_; ((refine s_call (hsp _ hst) inX rfl ?_; clear hst; rintro v w ⟨rfl, hst⟩)))) <;> (try refine nY ?_) <;> (try replace hst := nH hst)) | ((fail_if_success (go_big_may)); (go_step)) | (((with_reducible refine Sl.k_call ?_; (refine s_qt hst (by exact qt_len evX asX inX) ?_))) <;> (try refine nY ?_)) | (with_reducible refine Sl.gate rfl ?_; (go_step)) | (((((refine s_box hst evX rfl ?_; clear hst; intro bx w hst)))) <;> (try refine nY ?_) <;> (try replace hst := nH hst)))
          refine s_slice (a := 0) (b := k) evX hl inX inX (.inl ⟨rfl, rfl⟩) (.inr ⟨.i64, by simp [evF, nth]⟩) (.inl rfl) (by omega) (by omega) ?_
          intro v1 hv1
          replace hv1 : RSl S v1 (l.take k) := hv1
          have hv11 := hv1.oneCell
          (try refine nY ?_)
          repeat' (first | (((with_reducible refine Sl.k_call ?_; ((refine s_call (cL _ hst hG _ hv1) inX rfl ?_; clear hst; rintro v w ⟨rfl, hst⟩)))) <;> (try refine nY ?_) <;> (try replace hst := nH hst)) | ((fail_if_success (go_big_may)); (go_step)) | ((((first | (with_reducible refine Sl.k_store ?_; (refine s_stD hst rfl BoxIn.h inX evX inX lenX ?_); clear hst; intro w hst) | (refine s_alloc hst inX ?_; clear hst; intro bk w hst)))) <;> (try refine nY ?_) <;> (try replace hst := nH hst)))
          refine s_slice (a := k) (b := l.length) evX hl inX inX (.inr ⟨.i64, by simp [evF, nth]⟩) (.inl ⟨rfl, rfl⟩) (.inl rfl) (by omega) (by omega) ?_
          intro v2 hv2
          rw [E9.out] at hv2
          have hv21 := hv2.oneCell
          (try refine nY ?_)
          repeat' (first | (((with_reducible refine Sl.k_call ?_; ((refine s_call (cR _ hst hG _ hv2) inX rfl ?_; clear hst; rintro v w ⟨rfl, hst⟩)))) <;> (try refine nY ?_) <;> (try replace hst := nH hst)) | ((fail_if_success (go_big_may)); (go_step)) | (with_reducible refine Sl.gate rfl ?_; (go_step)) | ((((first | (with_reducible refine Sl.k_store ?_; (refine s_stD hst rfl BoxIn.h inX evX inX lenX ?_); clear hst; intro w hst) | (refine s_alloc hst inX ?_; clear hst; intro bk w hst)))) <;> (try refine nY ?_) <;> (try replace hst := nH hst)))
          refine v_begin hst (by kernel_rfl) ?_; clear hst; intro ops; (try refine nY ?_)
          (refine t_qt 0 rfl (by kernel_rfl) rfl rfl (by exact qt_move evX) ?_) <;> (try refine nY ?_)
          (refine t_qt 1 rfl (by kernel_rfl) rfl rfl (by exact qt_move evX) ?_) <;> (try refine nY ?_)
          (refine t_qt 2 rfl (by kernel_rfl) rfl rfl (by exact qt_loadD evX BoxIn.h inX inX) ?_) <;> (try refine nY ?_)
          (refine t_qt 3 rfl (by kernel_rfl) rfl rfl (by exact qt_move evX) ?_) <;> (try refine nY ?_)
          (refine t_qt 4 rfl (by kernel_rfl) rfl rfl (by exact qt_move evX) ?_) <;> (try refine nY ?_)
          ((refine t_ex0 5 rfl (by kernel_rfl) rfl rfl (qt_slice (a := 0) (b := q) evX hp inX inX (.inl ⟨rfl, rfl⟩) (.inr ⟨.i64, by simp [evF, nth]; omega⟩) (.inl rfl) (by omega) (by omega) ) ?_; rintro  v5 hw5)) <;> (try refine nY ?_)
          (refine t_call 6 rfl (by kernel_rfl) rfl (fun S' M' w hS hM hst => cC w hst (hG.mono hS) v5 (show RSl _ v5 (initD proof) by rw [← hqi.out]; exact hw5.mono hS)) inX rfl ?_) <;> (try refine nY ?_)
          (refine t_qt 7 rfl (by kernel_rfl) rfl rfl (by exact qt_move evX) ?_) <;> (try refine nY ?_)
          (refine t_qt 8 rfl (by kernel_rfl) rfl rfl (by exact qt_extract rfl rfl) ?_) <;> (try refine nY ?_)
          (refine t_pure 9 rfl (by kernel_rfl) rfl rfl (fun _ _ => by exact qt_extract rfl rfl) ?_) <;> (try refine nY ?_)
          refine v_one 10 rfl (by kernel_rfl) ?_; intro w hst K hK; refine s_alloc hst inX ?_; clear hst; intro b10 w hst; (try refine nY ?_); (try replace hst := nH hst); refine v_next hK hst (Snap.Le.refl _) (Suf.cons (Suf.refl _)) ?_; clear hst hK K; (try clear w); (try refine nY ?_)
          refine v_one 11 rfl (by kernel_rfl) ?_; intro w hst K hK; (refine s_stD hst rfl BoxIn.h inX evX inX lenX ?_); clear hst; intro w hst; (try refine nY ?_); (try replace hst := nH hst); refine v_last hK hst ?_; clear hst hK K; (try clear w); (try refine nY ?_)
          (refine t_qt 12 rfl (by kernel_rfl) rfl rfl (by exact qt_assign evX) ?_) <;> (try refine nY ?_)
          refine v_done (by kernel_rfl) ?_; clear ops; intro w hst
          repeat' (((fail_if_success (go_big_may)); (go_step)))
          cases c1
          cases c3
          rotate_left 2
          cases c2
          cases c3
          all_goals
            refine v_begin hst (by kernel_rfl) ?_; clear hst; intro ops; (try refine nY ?_)
            (refine t_qt 0 rfl (by kernel_rfl) rfl rfl (by exact qt_loadD evX BoxIn.h inX inX) ?_) <;> (try refine nY ?_)
            (refine t_qt 1 rfl (by kernel_rfl) rfl rfl (by exact qt_loadD evX BoxIn.h inX inX) ?_) <;> (try refine nY ?_)
            (refine t_qt 2 rfl (by kernel_rfl) rfl rfl (qt_neqK_b rfl rfl (r_dg lD) (r_dg lL) inX inX inferInstance g1) ?_) <;> (try refine nY ?_)
            (refine t_qt 3 rfl (by kernel_rfl) rfl rfl (by exact qt_move evX) ?_) <;> (try refine nY ?_)
            (first | refine t_qt 4 rfl (by kernel_rfl) rfl rfl (by exact qt_move evX) ?_ | refine t_no 4 rfl (by kernel_rfl) rfl rfl ?_) <;> (try refine nY ?_)
            (first | refine t_qt 5 rfl (by kernel_rfl) rfl rfl (by exact qt_move evX) ?_ | refine t_no 5 rfl (by kernel_rfl) rfl rfl ?_) <;> (try refine nY ?_)
            ((first | (refine t_ex0 6 rfl (by kernel_rfl) rfl rfl (qt_index evX hp rfl inX inX omX omX ) ?_; rintro  v6 hw6; rw [hql] at hw6) | refine t_no 6 rfl (by kernel_rfl) rfl rfl ?_)) <;> (try refine nY ?_)
            (first | refine t_qt 7 rfl (by kernel_rfl) rfl rfl (by exact qt_ldp_flat evX asX inX inX rfl) ?_ | refine t_no 7 rfl (by kernel_rfl) rfl rfl ?_) <;> (try refine nY ?_)
            (first | refine t_qt 8 rfl (by kernel_rfl) rfl rfl (by exact qt_loadD evX BoxIn.h inX inX) ?_ | refine t_no 8 rfl (by kernel_rfl) rfl rfl ?_) <;> (try refine nY ?_)
            ((first | refine t_qt 9 rfl (by kernel_rfl) rfl rfl (qt_neqK_b rfl rfl (r_dg lP) (r_dg lR) inX inX inferInstance g2) ?_ | refine t_no 9 rfl (by kernel_rfl) rfl rfl ?_)) <;> (try refine nY ?_)
            (refine t_qt 10 rfl (by kernel_rfl) rfl rfl (by first | exact qt_pick_t rfl evX | exact qt_pick_f rfl evX) ?_) <;> (try refine nY ?_)
            (refine t_qt 11 rfl (by kernel_rfl) rfl rfl (by exact qt_move evX) ?_) <;> (try refine nY ?_)
            (first | refine t_qt 12 rfl (by kernel_rfl) rfl rfl (by exact qt_loadD evX BoxIn.h inX inX) ?_ | refine t_no 12 rfl (by kernel_rfl) rfl rfl ?_) <;> (try refine nY ?_)
            (first | refine t_qt 13 rfl (by kernel_rfl) rfl rfl (by exact qt_move evX) ?_ | refine t_no 13 rfl (by kernel_rfl) rfl rfl ?_) <;> (try refine nY ?_)
            (first | refine t_qt 14 rfl (by kernel_rfl) rfl rfl (by exact qt_move evX) ?_ | refine t_no 14 rfl (by kernel_rfl) rfl rfl ?_) <;> (try refine nY ?_)
            ((first | (refine t_ex0 15 rfl (by kernel_rfl) rfl rfl (qt_index evX hp rfl inX inX omX omX ) ?_; rintro  v15 hw15; rw [hql] at hw15) | refine t_no 15 rfl (by kernel_rfl) rfl rfl ?_)) <;> (try refine nY ?_)
            (first | refine t_qt 16 rfl (by kernel_rfl) rfl rfl (by exact qt_ldp_flat evX asX inX inX rfl) ?_ | refine t_no 16 rfl (by kernel_rfl) rfl rfl ?_) <;> (try refine nY ?_)
            ((first | refine t_call 17 rfl (by kernel_rfl) rfl (fun S' M' w hS hM hst => refNode_c w hst (hG.mono hS) CM.1 P lD lP) inX rfl ?_ | refine t_no 17 rfl (by kernel_rfl) rfl rfl ?_)) <;> (try refine nY ?_)
            (first | refine t_qt 18 rfl (by kernel_rfl) rfl rfl (by exact qt_loadD evX BoxIn.h inX inX) ?_ | refine t_no 18 rfl (by kernel_rfl) rfl rfl ?_) <;> (try refine nY ?_)
            (first | refine t_qt 19 rfl (by kernel_rfl) rfl rfl (by exact qt_loadD evX BoxIn.h inX inX) ?_ | refine t_no 19 rfl (by kernel_rfl) rfl rfl ?_) <;> (try refine nY ?_)
            ((first | refine t_call 20 rfl (by kernel_rfl) rfl (fun S' M' w hS hM hst => refNode_c w hst (hG.mono hS) L R lL lR) inX rfl ?_ | refine t_no 20 rfl (by kernel_rfl) rfl rfl ?_)) <;> (try refine nY ?_)
            ((first | refine t_qt 21 rfl (by kernel_rfl) rfl rfl (qt_eqlK_b rfl rfl (r_dg (nodeM_len _ _)) (r_dg (nodeM_len _ _)) inX inX inferInstance g3) ?_ | refine t_no 21 rfl (by kernel_rfl) rfl rfl ?_)) <;> (try refine nY ?_)
            (refine t_qt 22 rfl (by kernel_rfl) rfl rfl (by first | exact qt_pick_t rfl evX | exact qt_pick_f rfl evX) ?_) <;> (try refine nY ?_)
            refine v_done (by kernel_rfl) ?_; clear ops; intro w hst
            repeat' (((fail_if_success (go_big_may)); (go_step)))
          rotate_left
          go_ret
          exact ⟨_, rfl, by rw [hE.out, coll_fin G1.out G2.out G3.out]; simp, hst.drop.drop.drop.drop⟩
          rotate_left 2
          go_ret
          exact ⟨_, rfl, by rw [hE.out, coll_fin G1.out G2.out G3.out]; simp, hst.drop.drop.drop.drop⟩
          all_goals
            refine v_begin hst (by kernel_rfl) ?_; clear hst; intro ops; (try refine nY ?_)
            (refine t_qt 0 rfl (by kernel_rfl) rfl rfl (by exact qt_move evX) ?_) <;> (try refine nY ?_)
            (refine t_qt 1 rfl (by kernel_rfl) rfl rfl (by exact qt_move evX) ?_) <;> (try refine nY ?_)
            ((refine t_ex0 2 rfl (by kernel_rfl) rfl rfl (qt_slice (a := 0) (b := k) evX hl inX inX (.inl ⟨rfl, rfl⟩) (.inr ⟨.i64, by simp [evF, nth]⟩) (.inl rfl) (by omega) (by omega) ) ?_; rintro  v2 hw2)) <;> (try refine nY ?_)
            (refine t_qt 3 rfl (by kernel_rfl) rfl rfl (by exact qt_move evX) ?_) <;> (try refine nY ?_)
            (refine t_qt 4 rfl (by kernel_rfl) rfl rfl (by exact qt_loadD evX BoxIn.h inX inX) ?_) <;> (try refine nY ?_)
            (refine t_qt 5 rfl (by kernel_rfl) rfl rfl (by exact qt_move evX) ?_) <;> (try refine nY ?_)
            (refine t_qt 6 rfl (by kernel_rfl) rfl rfl (by exact qt_move evX) ?_) <;> (try refine nY ?_)
            ((refine t_ex0 7 rfl (by kernel_rfl) rfl rfl (qt_slice (a := 0) (b := q) evX hp inX inX (.inl ⟨rfl, rfl⟩) (.inr ⟨.i64, by simp [evF, nth]; omega⟩) (.inl rfl) (by omega) (by omega) ) ?_; rintro  v7 hw7)) <;> (try refine nY ?_)
            (refine t_call 8 rfl (by kernel_rfl) rfl (fun S' M' w hS hM hst => cX w hst (hG.mono hS) v2 (hw2.mono hS) v7 (show RSl _ v7 (initD proof) by rw [← hqi.out]; exact hw7.mono hS)) inX rfl ?_) <;> (try refine nY ?_)
            (refine t_qt 9 rfl (by kernel_rfl) rfl rfl (by exact qt_assign evX) ?_) <;> (try refine nY ?_)
            refine v_done (by kernel_rfl) ?_; clear ops; intro w hst
            repeat' (((fail_if_success (go_big_may)); (go_step)))
            go_ret
            exact ⟨_, rfl, by rw [hE.out, coll_fin G1.out G2.out G3.out]; simp, hst.drop.drop.drop.drop⟩
        · have hE := Lib.hid (hER.out hik)
          clear hEL hER
          have cC := fun {S M} (w : World) (hst : St S M w) (hG : Glob S) (v : Value) (hv : RSl S v (initD proof)) => combine_c (l.length - k) w hst hG (l.length - k) (i - k) (by omega) (Nat.le_refl _) (by omega) leaf hf v (initD proof) hv hilen
          have cX := fun {S M} (w : World) (hst : St S M w) (hG : Glob S) (v : Value) (hv : RSl S v (l.drop k)) (u : Value) (hu : RSl S u (initD proof)) => ih w hst hG v (l.drop k) hv (i - k) (by rw [HA2.out]; omega) har1 (by omega) leaf hf u (initD proof) hu hilen
          rw [show ((l.length - k : Nat) : Int) = (l.length : Int) - (k : Int) by omega, show ((i - k : Nat) : Int) = (i : Int) - (k : Int) by omega] at cC
          rw [show ((i - k : Nat) : Int) = (i : Int) - (k : Int) by omega] at cX
          have lD := combM_len (l.length - k) (i - k) leaf (initD proof)
          generalize combM (l.length - k) (i - k) leaf (initD proof) = CM at *
          generalize collM (l.drop k) (i - k) leaf (initD proof) = X at *
          haveI : LenIs CM.1.l 16 := ⟨lD⟩
          obtain ⟨c1, g1⟩ : ∃ c, decide (P = L) = c := ⟨_, rfl⟩
          obtain ⟨c2, g2⟩ : ∃ c, decide (CM.1 = R) = c := ⟨_, rfl⟩
          obtain ⟨c3, g3⟩ : ∃ c, decide (nodeM P CM.1 = nodeM L R) = c := ⟨_, rfl⟩
          have G1 := Lib.hid g1
          have G2 := Lib.hid g2
          have G3 := Lib.hid g3
          go_enter Tryd.func23, Tryd.ntmps23
          repeat' (first | (((with_reducible refine Sl.k_guard ?_; ((refine Sl.guard_yes rfl ?_)))) <;> (try refine nY ?_)) | (((with_reducible refine Sl.k_call ?_; ((refine s_call (hsp _ hst) inX rfl ?_; clear hst; rintro v w ⟨rfl, hst⟩)))) <;> (try refine nY ?_) <;> (try replace hst := nH hst)) | ((fail_if_success (go_big_may)); (go_step)) | (((with_reducible refine Sl.k_call ?_; (refine s_qt hst (by exact qt_len evX asX inX) ?_))) <;> (try refine nY ?_)) | (with_reducible refine Sl.gate rfl ?_; (go_step)) | (((((refine s_box hst evX rfl ?_; clear hst; intro bx w hst)))) <;> (try refine nY ?_) <;> (try replace hst := nH hst)))
          refine s_slice (a := 0) (b := k) evX hl inX inX (.inl ⟨rfl, rfl⟩) (.inr ⟨.i64, by simp [evF, nth]⟩) (.inl rfl) (by omega) (by omega) ?_
          intro v1 hv1
          replace hv1 : RSl S v1 (l.take k) := hv1
          have hv11 := hv1.oneCell
          (try refine nY ?_)
          repeat' (first | (((with_reducible refine Sl.k_call ?_; ((refine s_call (cL _ hst hG _ hv1) inX rfl ?_; clear hst; rintro v w ⟨rfl, hst⟩)))) <;> (try refine nY ?_) <;> (try replace hst := nH hst)) | ((fail_if_success (go_big_may)); (go_step)) | ((((first | (with_reducible refine Sl.k_store ?_; (refine s_stD hst rfl BoxIn.h inX evX inX lenX ?_); clear hst; intro w hst) | (refine s_alloc hst inX ?_; clear hst; intro bk w hst)))) <;> (try refine nY ?_) <;> (try replace hst := nH hst)))
          refine s_slice (a := k) (b := l.length) evX hl inX inX (.inr ⟨.i64, by simp [evF, nth]⟩) (.inl ⟨rfl, rfl⟩) (.inl rfl) (by omega) (by omega) ?_
          intro v2 hv2
          rw [E9.out] at hv2
          have hv21 := hv2.oneCell
          (try refine nY ?_)
          repeat' (first | (((with_reducible refine Sl.k_call ?_; ((refine s_call (cR _ hst hG _ hv2) inX rfl ?_; clear hst; rintro v w ⟨rfl, hst⟩)))) <;> (try refine nY ?_) <;> (try replace hst := nH hst)) | ((fail_if_success (go_big_may)); (go_step)) | (with_reducible refine Sl.gate rfl ?_; (go_step)) | ((((first | (with_reducible refine Sl.k_store ?_; (refine s_stD hst rfl BoxIn.h inX evX inX lenX ?_); clear hst; intro w hst) | (refine s_alloc hst inX ?_; clear hst; intro bk w hst)))) <;> (try refine nY ?_) <;> (try replace hst := nH hst)))
          refine v_begin hst (by kernel_rfl) ?_; clear hst; intro ops; (try refine nY ?_)
          (refine t_qt 0 rfl (by kernel_rfl) rfl rfl (by exact qt_move evX) ?_) <;> (try refine nY ?_)
          (refine t_qt 1 rfl (by kernel_rfl) rfl rfl (by exact qt_len evX asX inX) ?_) <;> (try refine nY ?_)
          (refine t_qt 2 rfl (by kernel_rfl) rfl rfl (by exact qt_move evX) ?_) <;> (try refine nY ?_)
          (refine t_qt 3 rfl (by kernel_rfl) rfl rfl (by exact qt_sub' rfl rfl omX) ?_) <;> (try refine nY ?_)
          (refine t_qt 4 rfl (by kernel_rfl) rfl rfl (by exact qt_move evX) ?_) <;> (try refine nY ?_)
          (refine t_qt 5 rfl (by kernel_rfl) rfl rfl (by exact qt_move evX) ?_) <;> (try refine nY ?_)
          (refine t_qt 6 rfl (by kernel_rfl) rfl rfl (by exact qt_sub' rfl rfl omX) ?_) <;> (try refine nY ?_)
          (refine t_qt 7 rfl (by kernel_rfl) rfl rfl (by exact qt_loadD evX BoxIn.h inX inX) ?_) <;> (try refine nY ?_)
          (refine t_qt 8 rfl (by kernel_rfl) rfl rfl (by exact qt_move evX) ?_) <;> (try refine nY ?_)
          (refine t_qt 9 rfl (by kernel_rfl) rfl rfl (by exact qt_move evX) ?_) <;> (try refine nY ?_)
          ((refine t_ex0 10 rfl (by kernel_rfl) rfl rfl (qt_slice (a := 0) (b := q) evX hp inX inX (.inl ⟨rfl, rfl⟩) (.inr ⟨.i64, by simp [evF, nth]; omega⟩) (.inl rfl) (by omega) (by omega) ) ?_; rintro  v10 hw10)) <;> (try refine nY ?_)
          (refine t_call 11 rfl (by kernel_rfl) rfl (fun S' M' w hS hM hst => cC w hst (hG.mono hS) v10 (show RSl _ v10 (initD proof) by rw [← hqi.out]; exact hw10.mono hS)) inX rfl ?_) <;> (try refine nY ?_)
          (refine t_qt 12 rfl (by kernel_rfl) rfl rfl (by exact qt_move evX) ?_) <;> (try refine nY ?_)
          (refine t_qt 13 rfl (by kernel_rfl) rfl rfl (by exact qt_extract rfl rfl) ?_) <;> (try refine nY ?_)
          (refine t_pure 14 rfl (by kernel_rfl) rfl rfl (fun _ _ => by exact qt_extract rfl rfl) ?_) <;> (try refine nY ?_)
          refine v_one 15 rfl (by kernel_rfl) ?_; intro w hst K hK; refine s_alloc hst inX ?_; clear hst; intro b15 w hst; (try refine nY ?_); (try replace hst := nH hst); refine v_next hK hst (Snap.Le.refl _) (Suf.cons (Suf.refl _)) ?_; clear hst hK K; (try clear w); (try refine nY ?_)
          refine v_one 16 rfl (by kernel_rfl) ?_; intro w hst K hK; (refine s_stD hst rfl BoxIn.h inX evX inX lenX ?_); clear hst; intro w hst; (try refine nY ?_); (try replace hst := nH hst); refine v_last hK hst ?_; clear hst hK K; (try clear w); (try refine nY ?_)
          (refine t_qt 17 rfl (by kernel_rfl) rfl rfl (by exact qt_assign evX) ?_) <;> (try refine nY ?_)
          refine v_done (by kernel_rfl) ?_; clear ops; intro w hst
          repeat' (((fail_if_success (go_big_may)); (go_step)))
          cases c1
          cases c3
          rotate_left 2
          cases c2
          cases c3
          all_goals
            refine v_begin hst (by kernel_rfl) ?_; clear hst; intro ops; (try refine nY ?_)
            (refine t_qt 0 rfl (by kernel_rfl) rfl rfl (by exact qt_move evX) ?_) <;> (try refine nY ?_)
            (refine t_qt 1 rfl (by kernel_rfl) rfl rfl (by exact qt_move evX) ?_) <;> (try refine nY ?_)
            ((refine t_ex0 2 rfl (by kernel_rfl) rfl rfl (qt_index evX hp rfl inX inX omX omX ) ?_; rintro  v6 hw6; rw [hql] at hw6)) <;> (try refine nY ?_)
            (refine t_qt 3 rfl (by kernel_rfl) rfl rfl (by exact qt_ldp_flat evX asX inX inX rfl) ?_) <;> (try refine nY ?_)
            (refine t_qt 4 rfl (by kernel_rfl) rfl rfl (by exact qt_loadD evX BoxIn.h inX inX) ?_) <;> (try refine nY ?_)
            (refine t_qt 5 rfl (by kernel_rfl) rfl rfl (qt_neqK_b rfl rfl (r_dg lP) (r_dg lL) inX inX inferInstance g1) ?_) <;> (try refine nY ?_)
            (refine t_qt 6 rfl (by kernel_rfl) rfl rfl (by exact qt_move evX) ?_) <;> (try refine nY ?_)
            (first | refine t_qt 7 rfl (by kernel_rfl) rfl rfl (by exact qt_loadD evX BoxIn.h inX inX) ?_ | refine t_no 7 rfl (by kernel_rfl) rfl rfl ?_) <;> (try refine nY ?_)
            (first | refine t_qt 8 rfl (by kernel_rfl) rfl rfl (by exact qt_loadD evX BoxIn.h inX inX) ?_ | refine t_no 8 rfl (by kernel_rfl) rfl rfl ?_) <;> (try refine nY ?_)
            ((first | refine t_qt 9 rfl (by kernel_rfl) rfl rfl (qt_neqK_b rfl rfl (r_dg lD) (r_dg lR) inX inX inferInstance g2) ?_ | refine t_no 9 rfl (by kernel_rfl) rfl rfl ?_)) <;> (try refine nY ?_)
            (refine t_qt 10 rfl (by kernel_rfl) rfl rfl (by first | exact qt_pick_t rfl evX | exact qt_pick_f rfl evX) ?_) <;> (try refine nY ?_)
            (refine t_qt 11 rfl (by kernel_rfl) rfl rfl (by exact qt_move evX) ?_) <;> (try refine nY ?_)
            (first | refine t_qt 12 rfl (by kernel_rfl) rfl rfl (by exact qt_move evX) ?_ | refine t_no 12 rfl (by kernel_rfl) rfl rfl ?_) <;> (try refine nY ?_)
            (first | refine t_qt 13 rfl (by kernel_rfl) rfl rfl (by exact qt_move evX) ?_ | refine t_no 13 rfl (by kernel_rfl) rfl rfl ?_) <;> (try refine nY ?_)
            ((first | (refine t_ex0 14 rfl (by kernel_rfl) rfl rfl (qt_index evX hp rfl inX inX omX omX ) ?_; rintro  v15 hw15; rw [hql] at hw15) | refine t_no 14 rfl (by kernel_rfl) rfl rfl ?_)) <;> (try refine nY ?_)
            (first | refine t_qt 15 rfl (by kernel_rfl) rfl rfl (by exact qt_ldp_flat evX asX inX inX rfl) ?_ | refine t_no 15 rfl (by kernel_rfl) rfl rfl ?_) <;> (try refine nY ?_)
            (first | refine t_qt 16 rfl (by kernel_rfl) rfl rfl (by exact qt_loadD evX BoxIn.h inX inX) ?_ | refine t_no 16 rfl (by kernel_rfl) rfl rfl ?_) <;> (try refine nY ?_)
            ((first | refine t_call 17 rfl (by kernel_rfl) rfl (fun S' M' w hS hM hst => refNode_c w hst (hG.mono hS) P CM.1 lP lD) inX rfl ?_ | refine t_no 17 rfl (by kernel_rfl) rfl rfl ?_)) <;> (try refine nY ?_)
            (first | refine t_qt 18 rfl (by kernel_rfl) rfl rfl (by exact qt_loadD evX BoxIn.h inX inX) ?_ | refine t_no 18 rfl (by kernel_rfl) rfl rfl ?_) <;> (try refine nY ?_)
            (first | refine t_qt 19 rfl (by kernel_rfl) rfl rfl (by exact qt_loadD evX BoxIn.h inX inX) ?_ | refine t_no 19 rfl (by kernel_rfl) rfl rfl ?_) <;> (try refine nY ?_)
            ((first | refine t_call 20 rfl (by kernel_rfl) rfl (fun S' M' w hS hM hst => refNode_c w hst (hG.mono hS) L R lL lR) inX rfl ?_ | refine t_no 20 rfl (by kernel_rfl) rfl rfl ?_)) <;> (try refine nY ?_)
            ((first | refine t_qt 21 rfl (by kernel_rfl) rfl rfl (qt_eqlK_b rfl rfl (r_dg (nodeM_len _ _)) (r_dg (nodeM_len _ _)) inX inX inferInstance g3) ?_ | refine t_no 21 rfl (by kernel_rfl) rfl rfl ?_)) <;> (try refine nY ?_)
            (refine t_qt 22 rfl (by kernel_rfl) rfl rfl (by first | exact qt_pick_t rfl evX | exact qt_pick_f rfl evX) ?_) <;> (try refine nY ?_)
            refine v_done (by kernel_rfl) ?_; clear ops; intro w hst
            repeat' (((fail_if_success (go_big_may)); (go_step)))
          rotate_left
          go_ret
          exact ⟨_, rfl, by rw [hE.out, coll_fin G1.out G2.out G3.out]; simp, hst.drop.drop.drop.drop⟩
          rotate_left 2
          go_ret
          exact ⟨_, rfl, by rw [hE.out, coll_fin G1.out G2.out G3.out]; simp, hst.drop.drop.drop.drop⟩
          all_goals
            refine v_begin hst (by kernel_rfl) ?_; clear hst; intro ops; (try refine nY ?_)
            (refine t_qt 0 rfl (by kernel_rfl) rfl rfl (by exact qt_move evX) ?_) <;> (try refine nY ?_)
            (refine t_qt 1 rfl (by kernel_rfl) rfl rfl (by exact qt_move evX) ?_) <;> (try refine nY ?_)
            ((refine t_ex0 2 rfl (by kernel_rfl) rfl rfl (qt_slice (a := k) (b := l.length) evX hl inX inX (.inr ⟨.i64, by simp [evF, nth]⟩) (.inl ⟨rfl, rfl⟩) (.inl rfl) (by omega) (by omega) ) ?_; rintro  v2 hw2)) <;> (try refine nY ?_)
            (refine t_qt 3 rfl (by kernel_rfl) rfl rfl (by exact qt_move evX) ?_) <;> (try refine nY ?_)
            (refine t_qt 4 rfl (by kernel_rfl) rfl rfl (by exact qt_move evX) ?_) <;> (try refine nY ?_)
            (refine t_qt 5 rfl (by kernel_rfl) rfl rfl (by exact qt_sub' rfl rfl omX) ?_) <;> (try refine nY ?_)
            (refine t_qt 6 rfl (by kernel_rfl) rfl rfl (by exact qt_loadD evX BoxIn.h inX inX) ?_) <;> (try refine nY ?_)
            (refine t_qt 7 rfl (by kernel_rfl) rfl rfl (by exact qt_move evX) ?_) <;> (try refine nY ?_)
            (refine t_qt 8 rfl (by kernel_rfl) rfl rfl (by exact qt_move evX) ?_) <;> (try refine nY ?_)
            ((refine t_ex0 9 rfl (by kernel_rfl) rfl rfl (qt_slice (a := 0) (b := q) evX hp inX inX (.inl ⟨rfl, rfl⟩) (.inr ⟨.i64, by simp [evF, nth]; omega⟩) (.inl rfl) (by omega) (by omega) ) ?_; rintro  v7 hw7)) <;> (try refine nY ?_)
            (refine t_call 10 rfl (by kernel_rfl) rfl (fun S' M' w hS hM hst => cX w hst (hG.mono hS) v2 (by rw [← E9.out]; exact hw2.mono hS) v7 (show RSl _ v7 (initD proof) by rw [← hqi.out]; exact hw7.mono hS)) inX rfl ?_) <;> (try refine nY ?_)
            (refine t_qt 11 rfl (by kernel_rfl) rfl rfl (by exact qt_assign evX) ?_) <;> (try refine nY ?_)
            refine v_done (by kernel_rfl) ?_; clear ops; intro w hst
            repeat' (((fail_if_success (go_big_may)); (go_step)))
            go_ret
            exact ⟨_, rfl, by rw [hE.out, coll_fin G1.out G2.out G3.out]; simp, hst.drop.drop.drop.drop⟩
end Go.Proofs.YtcobalpbencboaaDoor

/- The statement MerkleSound, walked. -/
--@u32
--@hgp
--@flat
--@dg
--@ex0
namespace Go.Proofs.YtcobalpbencboaaDoor
set_option linter.unusedSimpArgs false
set_option linter.unusedVariables false
open Go.RowKit Go.Sl

set_option maxRecDepth 8000 in
set_option maxHeartbeats 1000000 in
theorem sound_c {S M} (w : World) (hst : St S M w) (hG : Glob S) (vl : Value) (l : List Dg) (hl : RSl S vl l) (hm : l.length ≤ 1048576) (i : Nat) (hi : i ≤ 255) (leaf : Dg) (hf : leaf.l.length = 16) (vp : Value) (proof : List Dg) (hp : RSl S vp proof) (hpm : proof.length ≤ 1048576) :
    Rets Tryd.prog 6 [vl, .int .u8 (i : Int), dgV leaf, vp] w fun v w' => v = .bool true ∧ St S M w' := by
  unfold Rets
  haveI : LenIs leaf.l 16 := ⟨hf⟩
  have hl1 := hl.oneCell
  have hp1 := hp.oneCell
  have hpf := hp
  by_cases h40 : 40 < l.length
  · go_enter Tryd.func6, Tryd.ntmps6
    repeat' (first | go_skip | (((with_reducible refine Sl.k_guard ?_; ((refine Sl.guard_cases rfl ?_ ?_ <;> intro hg <;> first | (exfalso; simp only [decide_eq_true_eq, decide_eq_false_iff_not, Bool.not_false, Bool.not_true, beq_iff_eq, beq_eq_false_iff_ne, ne_eq] at hg; omega) | (simp only [hg, Bool.not_true, Bool.not_false])) <;> (try simp only [decide_eq_true_eq, decide_eq_false_iff_not, Bool.not_false, Bool.not_true, beq_iff_eq, beq_eq_false_iff_ne, bne_iff_ne, bne_eq_false_iff_eq, ne_eq] at hg)))) <;> (try refine nY ?_)) | (((with_reducible refine Sl.k_call ?_; ((refine s_call (sanity_c _ hst hG) inX rfl ?_; clear hst; rintro v w ⟨rfl, hst⟩)))) <;> (try refine nY ?_) <;> (try replace hst := nH hst)) | ((fail_if_success (go_big_may)); (go_step)) | (((with_reducible refine Sl.k_call ?_; (refine s_qt hst (by exact qt_len evX asX inX) ?_))) <;> (try refine nY ?_)) | (with_reducible refine Sl.gate rfl ?_; (go_step)) | (((((refine s_box hst evX rfl ?_; clear hst; intro bx w hst)))) <;> (try refine nY ?_) <;> (try replace hst := nH hst)))
    go_ret
    exact ⟨_, rfl, rfl, hst.drop⟩
  · by_cases h0 : l.length = 0
    · have h00 : ((l.length : Int) == 0) = true := beq_iff_eq.2 (by omega)
      clear h0
      go_enter Tryd.func6, Tryd.ntmps6
      repeat' (first | go_skip | (((with_reducible refine Sl.k_guard ?_; (first | (refine Sl.guard_yes rfl ?_) | (refine Sl.guard_cases rfl ?_ ?_ <;> intro hg <;> first | (exfalso; simp only [decide_eq_true_eq, decide_eq_false_iff_not, Bool.not_false, Bool.not_true, beq_iff_eq, beq_eq_false_iff_ne, ne_eq] at hg; omega) | (simp only [hg, Bool.not_true, Bool.not_false])) <;> (try simp only [decide_eq_true_eq, decide_eq_false_iff_not, Bool.not_false, Bool.not_true, beq_iff_eq, beq_eq_false_iff_ne, bne_iff_ne, bne_eq_false_iff_eq, ne_eq] at hg)))) <;> (try refine nY ?_)) | (((with_reducible refine Sl.k_call ?_; ((refine s_call (sanity_c _ hst hG) inX rfl ?_; clear hst; rintro v w ⟨rfl, hst⟩)))) <;> (try refine nY ?_) <;> (try replace hst := nH hst)) | ((fail_if_success (go_big_may)); (go_step)) | (((with_reducible refine Sl.k_call ?_; (refine s_qt hst (by exact qt_len evX asX inX) ?_))) <;> (try refine nY ?_)) | (with_reducible refine Sl.gate rfl ?_; (go_step)) | (((((refine s_box hst evX rfl ?_; clear hst; intro bx w hst)))) <;> (try refine nY ?_) <;> (try replace hst := nH hst)))
      go_ret
      exact ⟨_, rfl, rfl, hst.drop⟩
    · have h00 : ((l.length : Int) == 0) = false := beq_eq_false_iff_ne.2 (by omega)
      by_cases h10 : 10 < proof.length
      · clear h0
        go_enter Tryd.func6, Tryd.ntmps6
        repeat' (first | (((with_reducible refine Sl.k_guard ?_; (first | (refine Sl.guard_yes rfl ?_) | (refine Sl.guard_cases rfl ?_ ?_ <;> intro hg <;> first | (exfalso; simp only [decide_eq_true_eq, decide_eq_false_iff_not, Bool.not_false, Bool.not_true, beq_iff_eq, beq_eq_false_iff_ne, ne_eq] at hg; omega) | (simp only [hg, Bool.not_true, Bool.not_false])) <;> (try simp only [decide_eq_true_eq, decide_eq_false_iff_not, Bool.not_false, Bool.not_true, beq_iff_eq, beq_eq_false_iff_ne, bne_iff_ne, bne_eq_false_iff_eq, ne_eq] at hg)))) <;> (try refine nY ?_)) | (((with_reducible refine Sl.k_call ?_; ((refine s_call (sanity_c _ hst hG) inX rfl ?_; clear hst; rintro v w ⟨rfl, hst⟩)))) <;> (try refine nY ?_) <;> (try replace hst := nH hst)) | ((fail_if_success (go_big_may)); (go_step)) | (((with_reducible refine Sl.k_call ?_; (refine s_qt hst (by exact qt_len evX asX inX) ?_))) <;> (try refine nY ?_)) | (with_reducible refine Sl.gate rfl ?_; (go_step)) | (((((refine s_box hst evX rfl ?_; clear hst; intro bx w hst)))) <;> (try refine nY ?_) <;> (try replace hst := nH hst)))
        go_ret
        exact ⟨_, rfl, rfl, hst.drop⟩
      · have h1 : 1 ≤ l.length := by omega
        have hkl : i % l.length < l.length := Nat.mod_lt _ (by omega)
        have hke : ((i : Int) % (l.length : Int)) = ((i % l.length : Nat) : Int) := by omega
        clear h0
        generalize i % l.length = k at *
        have hd := hl.dgs l[k] (List.getElem_mem hkl)
        have cR := fun {S M} (w : World) (hst : St S M w) (hG : Glob S) (hl : RSl S vl l) => root_c l.length w hst hG vl l hl (Nat.le_refl _) (by omega)
        have lR := rootM_len l
        have cX := fun {S M} (w : World) (hst : St S M w) (hG : Glob S) (hl : RSl S vl l) (hp : RSl S vp proof) => collides_c l.length w hst hG vl l hl k hkl (Nat.le_refl _) (by omega) leaf hf vp proof hp hpm
        obtain ⟨vv, hvv⟩ : ∃ b, verifyM (rootM l) l.length k leaf proof = b := ⟨_, rfl⟩
        have cV := fun {S M} (w : World) (hst : St S M w) (hG : Glob S) (hp : RSl S vp proof) => (verify_c w hst hG (rootM l) leaf lR hf l.length k (by omega) (by omega) vp proof hp hpm).eq hvv
        cases vv with
        | false =>
          clear hvv
          generalize rootM l = R at *
          go_enter Tryd.func6, Tryd.ntmps6
          repeat' (first | (((with_reducible refine Sl.k_guard ?_; (first | (refine Sl.guard_yes rfl ?_) | (refine Sl.guard_cases rfl ?_ ?_ <;> intro hg <;> first | (exfalso; simp only [decide_eq_true_eq, decide_eq_false_iff_not, Bool.not_false, Bool.not_true, beq_iff_eq, beq_eq_false_iff_ne, ne_eq] at hg; omega) | (simp only [hg, Bool.not_true, Bool.not_false])) <;> (try simp only [decide_eq_true_eq, decide_eq_false_iff_not, Bool.not_false, Bool.not_true, beq_iff_eq, beq_eq_false_iff_ne, bne_iff_ne, bne_eq_false_iff_eq, ne_eq] at hg)))) <;> (try refine nY ?_)) | (((with_reducible refine Sl.k_call ?_; ((refine s_call (sanity_c _ hst hG) inX rfl ?_; clear hst; rintro v w ⟨rfl, hst⟩)))) <;> (try refine nY ?_) <;> (try replace hst := nH hst)) | ((fail_if_success (go_big_may)); (go_step)) | (((with_reducible refine Sl.k_call ?_; (refine s_qt hst (by exact qt_len evX asX inX) ?_))) <;> (try refine nY ?_)) | (with_reducible refine Sl.gate rfl ?_; (go_step)) | (((((refine s_box hst evX rfl ?_; clear hst; intro bx w hst)))) <;> (try refine nY ?_) <;> (try replace hst := nH hst)))
          simp only [hke]
          clear hke
          refine v_begin hst (by kernel_rfl) ?_; clear hst; intro ops; (try refine nY ?_)
          (refine t_qt 0 rfl (by kernel_rfl) rfl rfl (by exact qt_move evX) ?_) <;> (try refine nY ?_)
          (refine t_call 1 rfl (by kernel_rfl) rfl (fun S' M' w hS hM hst => cR w hst (hG.mono hS) (hl.mono hS)) inX rfl ?_) <;> (try refine nY ?_)
          (refine t_qt 2 rfl (by kernel_rfl) rfl rfl (by exact qt_move evX) ?_) <;> (try refine nY ?_)
          (refine t_qt 3 rfl (by kernel_rfl) rfl rfl (by exact qt_len evX asX inX) ?_) <;> (try refine nY ?_)
          (refine t_qt 4 rfl (by kernel_rfl) rfl rfl (by exact qt_move evX) ?_) <;> (try refine nY ?_)
          (refine t_qt 5 rfl (by kernel_rfl) rfl rfl (by exact qt_loadD evX BoxIn.h inX inX) ?_) <;> (try refine nY ?_)
          (refine t_qt 6 rfl (by kernel_rfl) rfl rfl (by exact qt_move evX) ?_) <;> (try refine nY ?_)
          (refine t_call 7 rfl (by kernel_rfl) rfl (fun S' M' w hS hM hst => cV w hst (hG.mono hS) (hp.mono hS)) inX rfl ?_) <;> (try refine nY ?_)
          (refine t_qt 8 rfl (by kernel_rfl) rfl rfl (by exact qt_not rfl) ?_) <;> (try refine nY ?_)
          refine v_done (by kernel_rfl) ?_; clear ops; intro w hst
          repeat' (((fail_if_success (go_big_may)); (go_step)))
          go_ret
          exact ⟨_, rfl, rfl, hst.drop⟩
        | true =>
          have hlaw := sound_law hkl hvv
          clear hvv
          generalize rootM l = R at *
          by_cases he : leaf = l[k]
          · clear hlaw
            go_enter Tryd.func6, Tryd.ntmps6
            repeat' (first | (((with_reducible refine Sl.k_guard ?_; (first | (refine Sl.guard_yes rfl ?_) | (refine Sl.guard_cases rfl ?_ ?_ <;> intro hg <;> first | (exfalso; simp only [decide_eq_true_eq, decide_eq_false_iff_not, Bool.not_false, Bool.not_true, beq_iff_eq, beq_eq_false_iff_ne, ne_eq] at hg; omega) | (simp only [hg, Bool.not_true, Bool.not_false])) <;> (try simp only [decide_eq_true_eq, decide_eq_false_iff_not, Bool.not_false, Bool.not_true, beq_iff_eq, beq_eq_false_iff_ne, bne_iff_ne, bne_eq_false_iff_eq, ne_eq] at hg)))) <;> (try refine nY ?_)) | (((with_reducible refine Sl.k_call ?_; ((refine s_call (sanity_c _ hst hG) inX rfl ?_; clear hst; rintro v w ⟨rfl, hst⟩)))) <;> (try refine nY ?_) <;> (try replace hst := nH hst)) | ((fail_if_success (go_big_may)); (go_step)) | (((with_reducible refine Sl.k_call ?_; (refine s_qt hst (by exact qt_len evX asX inX) ?_))) <;> (try refine nY ?_)) | (with_reducible refine Sl.gate rfl ?_; (go_step)) | (((((refine s_box hst evX rfl ?_; clear hst; intro bx w hst)))) <;> (try refine nY ?_) <;> (try replace hst := nH hst)))
            simp only [hke]
            clear hke
            refine v_begin hst (by kernel_rfl) ?_; clear hst; intro ops; (try refine nY ?_)
            (refine t_qt 0 rfl (by kernel_rfl) rfl rfl (by exact qt_move evX) ?_) <;> (try refine nY ?_)
            (refine t_call 1 rfl (by kernel_rfl) rfl (fun S' M' w hS hM hst => cR w hst (hG.mono hS) (hl.mono hS)) inX rfl ?_) <;> (try refine nY ?_)
            (refine t_qt 2 rfl (by kernel_rfl) rfl rfl (by exact qt_move evX) ?_) <;> (try refine nY ?_)
            (refine t_qt 3 rfl (by kernel_rfl) rfl rfl (by exact qt_len evX asX inX) ?_) <;> (try refine nY ?_)
            (refine t_qt 4 rfl (by kernel_rfl) rfl rfl (by exact qt_move evX) ?_) <;> (try refine nY ?_)
            (refine t_qt 5 rfl (by kernel_rfl) rfl rfl (by exact qt_loadD evX BoxIn.h inX inX) ?_) <;> (try refine nY ?_)
            (refine t_qt 6 rfl (by kernel_rfl) rfl rfl (by exact qt_move evX) ?_) <;> (try refine nY ?_)
            (refine t_call 7 rfl (by kernel_rfl) rfl (fun S' M' w hS hM hst => cV w hst (hG.mono hS) (hp.mono hS)) inX rfl ?_) <;> (try refine nY ?_)
            (refine t_qt 8 rfl (by kernel_rfl) rfl rfl (by exact qt_not rfl) ?_) <;> (try refine nY ?_)
            refine v_done (by kernel_rfl) ?_; clear ops; intro w hst
            repeat' (((fail_if_success (go_big_may)); (go_step)))
            refine v_begin hst (by kernel_rfl) ?_; clear hst; intro ops; (try refine nY ?_)
            (refine t_qt 0 rfl (by kernel_rfl) rfl rfl (by exact qt_move evX) ?_) <;> (try refine nY ?_)
            (refine t_qt 1 rfl (by kernel_rfl) rfl rfl (by exact qt_move evX) ?_) <;> (try refine nY ?_)
            (refine t_qt 2 rfl (by kernel_rfl) rfl rfl (by exact qt_loadD evX BoxIn.h inX inX) ?_) <;> (try refine nY ?_)
            (refine t_qt 3 rfl (by kernel_rfl) rfl rfl (by exact qt_move evX) ?_) <;> (try refine nY ?_)
            (refine t_qt 4 rfl (by kernel_rfl) rfl rfl (by exact qt_move evX) ?_) <;> (try refine nY ?_)
            ((refine t_ex0 5 rfl (by kernel_rfl) rfl rfl (qt_index evX asX rfl inX inX omX omX) ?_; rintro v hp; (try simp only [Int.toNat_natCast, Int.toNat_natCast_add_one, Int.reduceToNat] at hp))) <;> (try refine nY ?_)
            (refine t_qt 6 rfl (by kernel_rfl) rfl rfl (by exact qt_ldp_flat evX asX inX inX rfl) ?_) <;> (try refine nY ?_)
            ((refine t_qt 7 rfl (by kernel_rfl) rfl rfl (qt_eqlK_b rfl rfl (r_dg hf) (r_dg hd) inX inX inferInstance (decide_eq_true he)) ?_)) <;> (try refine nY ?_)
            (refine t_qt 8 rfl (by kernel_rfl) rfl rfl (by exact qt_move evX) ?_) <;> (try refine nY ?_)
            (refine t_no 9 rfl (by kernel_rfl) rfl rfl ?_) <;> (try refine nY ?_)
            (refine t_no 10 rfl (by kernel_rfl) rfl rfl ?_) <;> (try refine nY ?_)
            (refine t_no 11 rfl (by kernel_rfl) rfl rfl ?_) <;> (try refine nY ?_)
            (refine t_no 12 rfl (by kernel_rfl) rfl rfl ?_) <;> (try refine nY ?_)
            (refine t_no 13 rfl (by kernel_rfl) rfl rfl ?_) <;> (try refine nY ?_)
            (refine t_qt 14 rfl (by kernel_rfl) rfl rfl (by exact qt_pick_t rfl evX) ?_) <;> (try refine nY ?_)
            (refine t_qt 15 rfl (by kernel_rfl) rfl rfl (by exact qt_pick_t rfl evX) ?_) <;> (try refine nY ?_)
            (refine t_qt 16 rfl (by kernel_rfl) rfl rfl (by exact qt_assign evX) ?_) <;> (try refine nY ?_)
            refine v_done (by kernel_rfl) ?_; clear ops; intro w hst
            repeat' (((fail_if_success (go_big_may)); (go_step)))
            go_ret
            exact ⟨_, rfl, rfl, hst.drop⟩
          · have hx : collM l k leaf proof = true := by simpa [he] using hlaw
            have cX' := fun {S M} (w : World) (hst : St S M w) (hG : Glob S) (hl : RSl S vl l) (hp : RSl S vp proof) => (cX w hst hG hl hp).eq hx
            clear hlaw hx cX
            go_enter Tryd.func6, Tryd.ntmps6
            repeat' (first | (((with_reducible refine Sl.k_guard ?_; (first | (refine Sl.guard_yes rfl ?_) | (refine Sl.guard_cases rfl ?_ ?_ <;> intro hg <;> first | (exfalso; simp only [decide_eq_true_eq, decide_eq_false_iff_not, Bool.not_false, Bool.not_true, beq_iff_eq, beq_eq_false_iff_ne, ne_eq] at hg; omega) | (simp only [hg, Bool.not_true, Bool.not_false])) <;> (try simp only [decide_eq_true_eq, decide_eq_false_iff_not, Bool.not_false, Bool.not_true, beq_iff_eq, beq_eq_false_iff_ne, bne_iff_ne, bne_eq_false_iff_eq, ne_eq] at hg)))) <;> (try refine nY ?_)) | (((with_reducible refine Sl.k_call ?_; ((refine s_call (sanity_c _ hst hG) inX rfl ?_; clear hst; rintro v w ⟨rfl, hst⟩)))) <;> (try refine nY ?_) <;> (try replace hst := nH hst)) | ((fail_if_success (go_big_may)); (go_step)) | (((with_reducible refine Sl.k_call ?_; (refine s_qt hst (by exact qt_len evX asX inX) ?_))) <;> (try refine nY ?_)) | (with_reducible refine Sl.gate rfl ?_; (go_step)) | (((((refine s_box hst evX rfl ?_; clear hst; intro bx w hst)))) <;> (try refine nY ?_) <;> (try replace hst := nH hst)))
            simp only [hke]
            clear hke
            refine v_begin hst (by kernel_rfl) ?_; clear hst; intro ops; (try refine nY ?_)
            (refine t_qt 0 rfl (by kernel_rfl) rfl rfl (by exact qt_move evX) ?_) <;> (try refine nY ?_)
            (refine t_call 1 rfl (by kernel_rfl) rfl (fun S' M' w hS hM hst => cR w hst (hG.mono hS) (hl.mono hS)) inX rfl ?_) <;> (try refine nY ?_)
            (refine t_qt 2 rfl (by kernel_rfl) rfl rfl (by exact qt_move evX) ?_) <;> (try refine nY ?_)
            (refine t_qt 3 rfl (by kernel_rfl) rfl rfl (by exact qt_len evX asX inX) ?_) <;> (try refine nY ?_)
            (refine t_qt 4 rfl (by kernel_rfl) rfl rfl (by exact qt_move evX) ?_) <;> (try refine nY ?_)
            (refine t_qt 5 rfl (by kernel_rfl) rfl rfl (by exact qt_loadD evX BoxIn.h inX inX) ?_) <;> (try refine nY ?_)
            (refine t_qt 6 rfl (by kernel_rfl) rfl rfl (by exact qt_move evX) ?_) <;> (try refine nY ?_)
            (refine t_call 7 rfl (by kernel_rfl) rfl (fun S' M' w hS hM hst => cV w hst (hG.mono hS) (hp.mono hS)) inX rfl ?_) <;> (try refine nY ?_)
            (refine t_qt 8 rfl (by kernel_rfl) rfl rfl (by exact qt_not rfl) ?_) <;> (try refine nY ?_)
            refine v_done (by kernel_rfl) ?_; clear ops; intro w hst
            repeat' (((fail_if_success (go_big_may)); (go_step)))
            refine v_begin hst (by kernel_rfl) ?_; clear hst; intro ops; (try refine nY ?_)
            (refine t_qt 0 rfl (by kernel_rfl) rfl rfl (by exact qt_move evX) ?_) <;> (try refine nY ?_)
            (refine t_qt 1 rfl (by kernel_rfl) rfl rfl (by exact qt_move evX) ?_) <;> (try refine nY ?_)
            (refine t_qt 2 rfl (by kernel_rfl) rfl rfl (by exact qt_loadD evX BoxIn.h inX inX) ?_) <;> (try refine nY ?_)
            (refine t_qt 3 rfl (by kernel_rfl) rfl rfl (by exact qt_move evX) ?_) <;> (try refine nY ?_)
            (refine t_qt 4 rfl (by kernel_rfl) rfl rfl (by exact qt_move evX) ?_) <;> (try refine nY ?_)
            ((refine t_ex0 5 rfl (by kernel_rfl) rfl rfl (qt_index evX asX rfl inX inX omX omX) ?_; rintro v hp; (try simp only [Int.toNat_natCast, Int.toNat_natCast_add_one, Int.reduceToNat] at hp))) <;> (try refine nY ?_)
            (refine t_qt 6 rfl (by kernel_rfl) rfl rfl (by exact qt_ldp_flat evX asX inX inX rfl) ?_) <;> (try refine nY ?_)
            ((refine t_qt 7 rfl (by kernel_rfl) rfl rfl (qt_eqlK_b rfl rfl (r_dg hf) (r_dg hd) inX inX inferInstance (decide_eq_false he)) ?_)) <;> (try refine nY ?_)
            (refine t_qt 8 rfl (by kernel_rfl) rfl rfl (by exact qt_move evX) ?_) <;> (try refine nY ?_)
            (refine t_qt 9 rfl (by kernel_rfl) rfl rfl (by exact qt_move evX) ?_) <;> (try refine nY ?_)
            (refine t_qt 10 rfl (by kernel_rfl) rfl rfl (by exact qt_move evX) ?_) <;> (try refine nY ?_)
            (refine t_qt 11 rfl (by kernel_rfl) rfl rfl (by exact qt_loadD evX BoxIn.h inX inX) ?_) <;> (try refine nY ?_)
            (refine t_qt 12 rfl (by kernel_rfl) rfl rfl (by exact qt_move evX) ?_) <;> (try refine nY ?_)
            ((refine t_call 13 rfl (by kernel_rfl) rfl (fun S' M' w hS hM hst => cX' w hst (hG.mono hS) (hl.mono hS) (hpf.mono hS)) inX rfl ?_)) <;> (try refine nY ?_)
            (refine t_qt 14 rfl (by kernel_rfl) rfl rfl (by exact qt_pick_f rfl evX) ?_) <;> (try refine nY ?_)
            (refine t_qt 15 rfl (by kernel_rfl) rfl rfl (by exact qt_pick_t rfl evX) ?_) <;> (try refine nY ?_)
            (refine t_qt 16 rfl (by kernel_rfl) rfl rfl (by exact qt_assign evX) ?_) <;> (try refine nY ?_)
            refine v_done (by kernel_rfl) ?_; clear ops; intro w hst
            repeat' (((fail_if_success (go_big_may)); (go_step)))
            go_ret
            exact ⟨_, rfl, rfl, hst.drop⟩
end Go.Proofs.YtcobalpbencboaaDoor

/- The statement MerkleSound. -/
namespace Go.Proofs.YtcobalpbencboaaDoor
set_option linter.unusedSimpArgs false
set_option linter.unusedVariables false
open Go.RowKit Go.Sl Go.ChangeShapes Go.WideShapes Go.ChangeAt

set_option maxRecDepth 20000 in
theorem msound_post (H : Type) (enc : TypeId × Value → H) (W : World) (base : Nat) (args : Array Value) (ds gs : List (DataW H)) (before : List MemPlace)
    (hval : ∀ (j : Nat) t v, Tryd.f6.params[j]? = some t → args[j]? = some v → Value.okWide Tryd.prog W .any base t v)
    (hW : DataW.Whole enc Tryd.prog Tryd.f6.params.toList Rows.merkleSoundSpec.vars false W args.toList ds gs before) (hk : Rows.uptoSmall H (ds ++ gs) = true) (hL : laidMetH Tryd.prog Rows.merkleSoundUptoRow.laid W) :
    Calls Tryd.prog 6 args W fun e W' => ∃ v, e = .returned v ∧ Rows.merkleSoundSpec.post enc Tryd.prog Tryd.f6 false true false false W args v W' := by
  have hW' := hW
  obtain ⟨p, q, hA0, hV, rfl, hfz, hnd⟩ := hW
  have hA : DataW.TrodAll enc Tryd.prog W 0 (fun _ => true) true Tryd.f6.params.toList args.toList ds p := hA0
  have hk := small_all hk
  rw [Tryd.params6] at hA hval
  obtain ⟨v0, vs0, d0, ds0, p0, q0, hargs, rfl, rfl, h0, r0⟩ := trodAll_cons hA
  obtain ⟨v1, vs1, d1, ds1, p1, q1, rfl, rfl, rfl, h1, r1⟩ := trodAll_cons r0
  obtain ⟨v2, vs2, d2, ds2, p2, q2, rfl, rfl, rfl, h2, r2⟩ := trodAll_cons r1
  obtain ⟨v3, vs3, d3, ds3, p3, q3, rfl, rfl, rfl, h3, r3⟩ := trodAll_cons r2
  obtain ⟨rfl, rfl, rfl⟩ := trodAll_nil r3
  obtain rfl : args = #[v0, v1, v2, v3] := by cases args; simp_all
  obtain ⟨rfl, rfl⟩ := trodVars_none hV
  simp only [List.append_nil, Rows.uptoBulkAll] at hk
  obtain ⟨l0, hl0, hm0⟩ := open_ds (hval 0 22 v0 rfl rfl) h0 (by omega)
  obtain ⟨n1, rfl, hn1⟩ := open_u8 (hval 1 5 v1 rfl rfl) h1
  obtain ⟨d2, rfl, hd2⟩ := open_dg (hval 2 28 v2 rfl rfl) h2
  obtain ⟨l3, hl3, hm3⟩ := open_ds (hval 3 22 v3 rfl rfl) h3 (by omega)
  refine Calls.mono (sound_c W (St.start W) (glob_of hL) v0 l0 hl0 hm0 n1 hn1 d2 hd2 v3 l3 hl3 hm3) fun e W' ⟨v, he, hv, hst⟩ => ?_
  subst hv
  exact ⟨_, he, law_post (tb := 4) rfl hW' (by kernel_rfl) (by rw [Tryd.params6]; intro t ht'; have e : t = 22 ∨ t = 5 ∨ t = 28 ∨ t = 22 := (by simpa using ht'); rcases e with rfl | rfl | rfl | rfl <;> exact ⟨by kernel_rfl, of_decide_eq_true (by kernel_rfl)⟩) (by kernel_rfl) (by kernel_rfl) rfl rfl rfl hst.below⟩

abbrev msound_args : Array Value := #[.slice none 0 0, .int .u8 0, .agg #[.int .u8 0, .int .u8 0, .int .u8 0, .int .u8 0, .int .u8 0, .int .u8 0, .int .u8 0, .int .u8 0, .int .u8 0, .int .u8 0, .int .u8 0, .int .u8 0, .int .u8 0, .int .u8 0, .int .u8 0, .int .u8 0], .slice none 0 0]
theorem msound_met (os : Os) : laidMet Tryd.prog Rows.merkleSoundUptoRow.laid ((laidWorld os #[]).forCall (fun _ _ => 0) ⟨#[], msound_args, []⟩).memory :=
  laidMet_of_run' 8 (by kernel_rfl) (by kernel_rfl)
theorem msound_reads (os : Os) {H : Type} (enc : TypeId × Value → H) : ∃ places, DataW.whole enc Tryd.prog ((laidWorld os #[]).forCall (fun _ _ => 0) ⟨#[], msound_args, []⟩).memory Tryd.f6.params.toList Rows.merkleSoundSpec.vars false msound_args.toList 8 = some ([.nil, .lit (.int .u8 0), .agg [.lit (.int .u8 0), .lit (.int .u8 0), .lit (.int .u8 0), .lit (.int .u8 0), .lit (.int .u8 0), .lit (.int .u8 0), .lit (.int .u8 0), .lit (.int .u8 0), .lit (.int .u8 0), .lit (.int .u8 0), .lit (.int .u8 0), .lit (.int .u8 0), .lit (.int .u8 0), .lit (.int .u8 0), .lit (.int .u8 0), .lit (.int .u8 0)], .nil], [], places) :=
  ⟨[], by kernel_rfl⟩

set_option maxRecDepth 100000 in
theorem msound_lifted (os : Os) (started : os.Started) (H : Type) (enc : TypeId × Value → H) (F : Stop.Interp) :
    ReturnsInHanded {} Tryd.checked os 6 .any ((Rows.OpenSpec.upto Rows.merkleSoundSpec).preRow enc Tryd.prog Tryd.f6 Rows.merkleSoundUptoRow.domain false Rows.merkleSoundUptoRow.laid) (((Rows.OpenSpec.upto Rows.merkleSoundSpec).at F).post enc Tryd.prog Tryd.f6 false true false false) := by
  obtain ⟨places, hx⟩ := msound_reads os enc
  refine returnsInHanded_of_row (C := Tryd.checked) (s := Rows.OpenSpec.upto Rows.merkleSoundSpec) own started (by kernel_rfl) Tryd.func6
    (witness_row_at (enc := enc) (C := Tryd.checked) false (laidWorld os #[]) msound_args rfl (by kernel_rfl) (by kernel_rfl) (by kernel_rfl)
      (OpenSpec.preRow_of_cond 8 hx (by kernel_rfl) (fun k hk => by cases hk; kernel_rfl) (by kernel_rfl) (msound_met os))) ?_
  intro W base args ds gs before hval hW _ hc _ hL _ _
  exact msound_post H enc W base args ds gs before hval hW (hc _ rfl) hL

theorem msound_said : Rows.MerkleSoundUptoSaid :=
  OpenClaim.holds_of_cond 6 Tryd.f6 rfl rfl rfl rfl rfl rfl rfl ⟨rfl, rfl, rfl, rfl, rfl⟩ rfl rfl rfl rfl rfl (by kernel_rfl) Tryd.func6 (by kernel_rfl)
    (of_decide_eq_true (by kernel_rfl)) (by unfold Func.isWrapper; first | (rw [if_pos (by decide +kernel)]; kernel_rfl) | (rw [if_neg (by decide +kernel)]; exact ⟨rfl, rfl⟩))
    (fun os started H enc _ F => by rw [OpenClaim.pre_eq_preRow]; exact msound_lifted os started H enc F)

theorem msound_plain (f : FuncId) (fn : Func) (hf : Tryd.pinned.checked.prog.funcNamed "bootchain/bootchainlaw03.MerkleSound" = some f) (hfn : Tryd.pinned.checked.prog.funcs[f]? = some fn) :
    false = Tryd.pinned.checked.prog.looks [] ∧ ∀ (j : Nat) t, fn.params[j]? = some t → Tryd.pinned.checked.prog.wantsStandIn t = false := by
  obtain rfl : f = 6 := Option.some.inj ((show Tryd.prog.funcNamed "bootchain/bootchainlaw03.MerkleSound" = some 6 by kernel_rfl).symm.trans hf) |>.symm
  obtain rfl : fn = Tryd.f6 := (Option.some.inj (Tryd.func6.symm.trans hfn)).symm
  refine ⟨by kernel_rfl, fun j t ht => ?_⟩
  rw [Tryd.params6] at ht
  have e : t = 22 ∨ t = 5 ∨ t = 28 ∨ t = 22 := by simpa using Array.mem_of_getElem? ht
  rcases e with rfl | rfl | rfl | rfl
  · exact (show Tryd.prog.wantsStandIn 22 = false by kernel_rfl)
  · exact (show Tryd.prog.wantsStandIn 5 = false by kernel_rfl)
  · exact (show Tryd.prog.wantsStandIn 28 = false by kernel_rfl)
  · exact (show Tryd.prog.wantsStandIn 22 = false by kernel_rfl)

theorem msound_proved : Rows.MerkleSoundUptoCardSaid :=
  Claim7.holds_tied_plain_at .later [] _ _ _ _ msound_said (fun _ h => by cases h) (by kernel_rfl) (fun _ h => by cases h) merkleSoundUpto_row_tie rfl ⟨rfl, rfl⟩ (by kernel_rfl) rfl msound_plain (by kernel_rfl)
end Go.Proofs.YtcobalpbencboaaDoor
