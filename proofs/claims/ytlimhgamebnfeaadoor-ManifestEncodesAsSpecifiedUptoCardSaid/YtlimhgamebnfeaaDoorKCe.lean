/- The statement ManifestEncodesAsSpecified: the encoders of package manifest and the three digests answer as the references do. Conditions: none beyond those of the statement itself. -/
import Derived.Test.YtlimhgamebnfeaaDoorBb
import Derived.Test.YtlimhgamebnfeaaDoorBi
import Derived.Test.YtlimhgamebnfeaaDoorBj
import Derived.Test.YtlimhgamebnfeaaDoorBh

/- The statement ManifestEncodesAsSpecified, walked. -/
--@u32
--@hgp
--@flat
--@dg
--@ex0
namespace Go.Proofs.YtlimhgamebnfeaaDoor
set_option linter.unusedSimpArgs false
set_option linter.unusedVariables false
open Go.RowKit Go.Sl

theorem self_str (b : List UInt8) : decide (b = b) = true := decide_eq_true rfl
set_option maxRecDepth 20000 in
set_option maxHeartbeats 4000000 in
theorem mspec_c {S M} (w : World) (hst : St S M w) (hG : Glob S) (cu : List Value) (u : BU) (hu : Rep.R S cu u) (cr : List Value) (r : RO) (hr : Rep.R S cr r) (text : List UInt8) (htm : text.length ≤ 1048576) : Rets Tryd.prog 3 [.agg cu.toArray, .agg cr.toArray, StrV text] w fun v w' => v = .bool true ∧ St S M w' := by
  unfold Rets
  have pu := bu_parts hu
  have pr := ro_parts hr
  obtain ⟨z1, hz1⟩ : ∃ z, fewM u = z := ⟨_, rfl⟩
  obtain ⟨z2, hz2⟩ : ∃ z, fewM (buS r.2.1) = z := ⟨_, rfl⟩
  have cF := fun {S : Snap} {M : List Chunk} (w : World) (hst : St S M w) (cs : List Value) (hR : Rep.R S cs u) => (few_c w hst cs u hR).eq hz1
  have cH := fun {S : Snap} {M : List Chunk} (w : World) (hst : St S M w) (cs : List Value) (hR : Rep.R S cs (buS r.2.1)) => (few_c w hst cs _ hR).eq hz2
  cases z1 with
  | false =>
    go_enter Tryd.func3, Tryd.ntmps3
    repeat' ((fail_if_success (with_reducible show Code.wp _ (Code.region 1 _ _) _ _ _)); first | ((fail_if_success (go_big_may)); (go_step)) | (((((refine s_box hst evX rfl ?_; clear hst; intro bx w hst)))) <;> (try refine nY ?_) <;> (try replace hst := nH hst)))
    obtain ⟨S1, hS1, hstA, hpr⟩ := pt_box (α := RO) hst hr (Rep.len hr)
    clear hst
    obtain ⟨S2, hS2, hst, hpu⟩ := pt_box (α := BU) hstA (Rep.mono hS1 hu) (Rep.len hu)
    clear hstA
    replace hpr := hpr.mono hS2
    replace hG := (hG.mono hS1).mono hS2
    have hle : S.Le S2 := hS1.trans hS2
    clear hS1 hS2
    repeat' ((fail_if_success (with_reducible show Code.wp _ (Code.region 2 _ _) _ _ _)); first | (((with_reducible refine Sl.k_call ?_; ((refine s_call (msanity_c _ hst hG) inX rfl ?_; clear hst; rintro v w ⟨rfl, hst⟩)))) <;> (try refine nY ?_) <;> (try replace hst := nH hst)) | ((fail_if_success (go_big_may)); (go_step)))
    repeat' (first | go_skip | (((with_reducible refine Sl.k_call ?_; ((refine s_call (cF _ hst _ hcl) inX rfl ?_; clear hst; rintro v w ⟨rfl, hst⟩)))) <;> (try refine nY ?_) <;> (try replace hst := nH hst)) | ((fail_if_success (go_big_may)); (go_step)) | (((with_reducible refine Sl.k_load ?_; ((refine s_ex hst (qt_ldp evX asX inX) ?_; rintro v ⟨cl, rfl, hcl⟩)))) <;> (try refine nY ?_)) | (with_reducible refine Sl.gate rfl ?_; (go_step)))
    go_ret
    exact ⟨_, rfl, rfl, St.weaken hle hst⟩
  | true =>
    by_cases hl : r.1.2.2.2.1.length ≤ 20
    · cases z2 with
      | false =>
        go_enter Tryd.func3, Tryd.ntmps3
        repeat' ((fail_if_success (with_reducible show Code.wp _ (Code.region 1 _ _) _ _ _)); first | ((fail_if_success (go_big_may)); (go_step)) | (((((refine s_box hst evX rfl ?_; clear hst; intro bx w hst)))) <;> (try refine nY ?_) <;> (try replace hst := nH hst)))
        obtain ⟨S1, hS1, hstA, hpr⟩ := pt_box (α := RO) hst hr (Rep.len hr)
        clear hst
        obtain ⟨S2, hS2, hst, hpu⟩ := pt_box (α := BU) hstA (Rep.mono hS1 hu) (Rep.len hu)
        clear hstA
        replace hpr := hpr.mono hS2
        replace hG := (hG.mono hS1).mono hS2
        have hle : S.Le S2 := hS1.trans hS2
        clear hS1 hS2
        repeat' ((fail_if_success (with_reducible show Code.wp _ (Code.region 2 _ _) _ _ _)); first | (((with_reducible refine Sl.k_call ?_; ((refine s_call (msanity_c _ hst hG) inX rfl ?_; clear hst; rintro v w ⟨rfl, hst⟩)))) <;> (try refine nY ?_) <;> (try replace hst := nH hst)) | ((fail_if_success (go_big_may)); (go_step)))
        repeat' (first | go_skip | ((first | (with_reducible (refine Sl.k_field ?_; (refine s_ex hst (qt_fieldp evX hpr inX inX rfl) ?_); rintro vf hpf)) | (with_reducible (refine Sl.k_build ?_; with_unfolding_all refine s_ex hst (qt_buildP (x' := buS r.2.1) inX inX r_zBU (.cons (k := 1) (y := r.2.1) (r_listc hvl) rfl .nil)) ?_; rintro vz ⟨cz, rfl, hcz⟩)) | (with_reducible refine Sl.k_guard ?_; (first | (refine Sl.guard_yes rfl ?_) | (refine Sl.guard_cases rfl ?_ ?_ <;> intro hg <;> first | (exfalso; simp only [decide_eq_true_eq, decide_eq_false_iff_not, Bool.not_false, Bool.not_true, beq_iff_eq, beq_eq_false_iff_ne, ne_eq] at hg; omega) | (simp only [hg, Bool.not_true, Bool.not_false])) <;> (try simp only [decide_eq_true_eq, decide_eq_false_iff_not, Bool.not_false, Bool.not_true, beq_iff_eq, beq_eq_false_iff_ne, bne_iff_ne, bne_eq_false_iff_eq, ne_eq] at hg)))) <;> (try refine nY ?_)) | (((with_reducible refine Sl.k_call ?_; (first | (refine s_call (cF _ hst _ hcl) inX rfl ?_; clear hst; rintro v w ⟨rfl, hst⟩) | (refine s_call (cH _ hst _ hcz) inX rfl ?_; clear hst; rintro v w ⟨rfl, hst⟩)))) <;> (try refine nY ?_) <;> (try replace hst := nH hst)) | ((fail_if_success (go_big_may)); (go_step)) | ((first | (with_reducible refine Sl.k_load ?_; (first | (refine s_ex hst (qt_ldp_list evX asX inX) ?_; rintro v ⟨hvl, hv1⟩) | (refine s_ex hst (qt_ldp evX asX inX) ?_; rintro v ⟨cl, rfl, hcl⟩))) | (with_reducible refine Sl.k_field ?_; (((refine s_ex hst (qt_fieldp evX asX inX inX rfl) ?_); rintro v hp; (try simp only [Int.toNat_natCast, Int.toNat_natCast_add_one, Int.reduceToNat] at hp)))) | (with_reducible refine Sl.k_call ?_; (refine s_qt hst (by exact qt_len evX asX inX) ?_))) <;> (try refine nY ?_)) | (with_reducible refine Sl.gate rfl ?_; (go_step)))
        go_ret
        exact ⟨_, rfl, rfl, St.weaken hle hst⟩
      | true =>
        by_cases hl2 : text.length ≤ 600
        · skip
          have ku : BuOk u := bu_ok pu hz1
          have kr : RoOk r := ro_ok pr hl hz2
          clear pu pr hz1 hz2
          have b1 := ku.bm
          have b2 := kr.bm
          have b3 := ku.bb
          have b4 := kr.bb
          have f1 := ku.few.a
          have f2 := ku.few.b
          have f3 := ku.few.c
          have g2 := kr.b
          have cV1 := fun {S S' : Snap} {M : List Chunk} (w : World) (hS : S.Le S') (hst : St S' M w) (cs : List Value) (hR : Rep.R S cs u.1) => mvalid_c w hst cs u.1 (Rep.mono hS hR) (by omega)
          have cV2 := fun {S S' : Snap} {M : List Chunk} (w : World) (hS : S.Le S') (hst : St S' M w) (cs : List Value) (hR : Rep.R S cs u.1) => rvalid_c w hst cs u.1 (Rep.mono hS hR) (by omega)
          have cE1 := fun {S S' : Snap} {M : List Chunk} (w : World) (hS : S.Le S') (hst : St S' M w) (cs : List Value) (hR : Rep.R S cs u.1) => encode_c w hst cs u.1 (Rep.mono hS hR) (by omega)
          have cE2 := fun {S S' : Snap} {M : List Chunk} (w : World) (hS : S.Le S') (hst : St S' M w) (cs : List Value) (hR : Rep.R S cs u.1) => renc_c w hst cs u.1 (Rep.mono hS hR) (by omega)
          have cD1 := fun {S S' : Snap} {M : List Chunk} (w : World) (hS : S.Le S') (hG : Glob S) (hst : St S' M w) (cs : List Value) (hR : Rep.R S cs u.1) => mdig_c w hst (hG.mono hS) cs u.1 (Rep.mono hS hR) b1
          have cD2 := fun {S S' : Snap} {M : List Chunk} (w : World) (hS : S.Le S') (hst : St S' M w) (cs : List Value) (hR : Rep.R S cs u.1) => rmdig_c w hst cs u.1 (Rep.mono hS hR) b1
          have cK1 := fun {S S' : Snap} {M : List Chunk} (w : World) (hS : S.Le S') (hst : St S' M w) (cs : List Value) (hR : Rep.R S cs r.1) => encodeK_c w hst cs r.1 (Rep.mono hS hR) (by omega)
          have cK2 := fun {S S' : Snap} {M : List Chunk} (w : World) (hS : S.Le S') (hst : St S' M w) (cs : List Value) (hR : Rep.R S cs r.1) => rencK_c w hst cs r.1 (Rep.mono hS hR) (by omega)
          have cL1 := fun {S S' : Snap} {M : List Chunk} (w : World) (hS : S.Le S') (hG : Glob S) (hst : St S' M w) (cs : List Value) (hR : Rep.R S cs r.1) => kdig_c w hst (hG.mono hS) cs r.1 (Rep.mono hS hR) b2
          have cL2 := fun {S S' : Snap} {M : List Chunk} (w : World) (hS : S.Le S') (hst : St S' M w) (cs : List Value) (hR : Rep.R S cs r.1) => rkdig_c w hst cs r.1 (Rep.mono hS hR) b2
          have cT1 := fun {S S' : Snap} {M : List Chunk} (w : World) (hS : S.Le S') (hG : Glob S) (hst : St S' M w) => sdig_c w hst (hG.mono hS) text (by omega)
          have cT2 := fun {S S' : Snap} {M : List Chunk} (w : World) (hS : S.Le S') (hst : St S' M w) => rsdig_c w hst text (by omega)
          have cB1 := fun {S S' : Snap} {M : List Chunk} (w : World) (hS : S.Le S') (hst : St S' M w) (cs : List Value) (hR : Rep.R S cs u) => encBU_c w hst cs u (Rep.mono hS hR) (by omega) (by omega) (by omega)
          have cB2 := fun {S S' : Snap} {M : List Chunk} (w : World) (hS : S.Le S') (hst : St S' M w) (cs : List Value) (hR : Rep.R S cs u) => rencBU_c w hst cs u (Rep.mono hS hR) (by omega) (by omega) (by omega)
          have cR1 := fun {S S' : Snap} {M : List Chunk} (w : World) (hS : S.Le S') (hst : St S' M w) (cs : List Value) (hR : Rep.R S cs r) => encRO_c w hst cs r (Rep.mono hS hR) (by omega) (by omega)
          have cR2 := fun {S S' : Snap} {M : List Chunk} (w : World) (hS : S.Le S') (hst : St S' M w) (cs : List Value) (hR : Rep.R S cs r) => rencRO_c w hst cs r (Rep.mono hS hR) (by omega) (by omega)
          have l1 := mdP_len u.1
          have l2 := kdP_len r.1
          have l3 := sdgP_len text
          generalize mdP u.1 = D1 at *
          generalize kdP r.1 = D2 at *
          generalize sdgP text = D3 at *
          generalize encMF u.1 = x1 at *
          generalize encMF r.1 = x2 at *
          generalize encBU u = x3 at *
          generalize encRO r = x4 at *
          clear ku kr b1 b2 b3 b4 f1 f2 f3 g2
          generalize validM u.1 = z at *
          cases z
          all_goals
            go_enter Tryd.func3, Tryd.ntmps3
            repeat' ((fail_if_success (with_reducible show Code.wp _ (Code.region 1 _ _) _ _ _)); first | ((fail_if_success (go_big_may)); (go_step)) | (((((refine s_box hst evX rfl ?_; clear hst; intro bx w hst)))) <;> (try refine nY ?_) <;> (try replace hst := nH hst)))
            obtain ⟨S1, hS1, hstA, hpr⟩ := pt_box (α := RO) hst hr (Rep.len hr)
            clear hst
            obtain ⟨S2, hS2, hst, hpu⟩ := pt_box (α := BU) hstA (Rep.mono hS1 hu) (Rep.len hu)
            clear hstA
            replace hpr := hpr.mono hS2
            replace hG := (hG.mono hS1).mono hS2
            have hle : S.Le S2 := hS1.trans hS2
            clear hS1 hS2
            repeat' ((fail_if_success (with_reducible show Code.wp _ (Code.region 2 _ _) _ _ _)); first | (((with_reducible refine Sl.k_call ?_; ((refine s_call (msanity_c _ hst hG) inX rfl ?_; clear hst; rintro v w ⟨rfl, hst⟩)))) <;> (try refine nY ?_) <;> (try replace hst := nH hst)) | ((fail_if_success (go_big_may)); (go_step)))
            repeat' ((fail_if_success (with_reducible show Code.wp _ (Code.region 5 _ _) _ _ _)); first | ((first | (with_reducible (refine Sl.k_field ?_; (first | refine s_ex hst (qt_fieldp evX hpu inX inX rfl) ?_ | refine s_ex hst (qt_fieldp evX hpr inX inX rfl) ?_); rintro vf hpf)) | (with_reducible (refine Sl.k_build ?_; with_unfolding_all refine s_ex hst (qt_buildP (x' := buS r.2.1) inX inX r_zBU (.cons (k := 1) (y := r.2.1) (r_listc hvl) rfl .nil)) ?_; rintro vz ⟨cz, rfl, hcz⟩)) | (with_reducible refine Sl.k_guard ?_; (first | (refine Sl.guard_yes rfl ?_) | (refine Sl.guard_cases rfl ?_ ?_ <;> intro hg <;> first | (exfalso; simp only [decide_eq_true_eq, decide_eq_false_iff_not, Bool.not_false, Bool.not_true, beq_iff_eq, beq_eq_false_iff_ne, ne_eq] at hg; omega) | (simp only [hg, Bool.not_true, Bool.not_false])) <;> (try simp only [decide_eq_true_eq, decide_eq_false_iff_not, Bool.not_false, Bool.not_true, beq_iff_eq, beq_eq_false_iff_ne, bne_iff_ne, bne_eq_false_iff_eq, ne_eq] at hg)))) <;> (try refine nY ?_)) | (((with_reducible refine Sl.k_call ?_; (first | (refine s_call (cF _ hst _ hcl) inX rfl ?_; clear hst; rintro v w ⟨rfl, hst⟩) | (refine s_call (cH _ hst _ hcz) inX rfl ?_; clear hst; rintro v w ⟨rfl, hst⟩)))) <;> (try refine nY ?_) <;> (try replace hst := nH hst)) | ((fail_if_success (go_big_may)); (go_step)) | ((first | (with_reducible refine Sl.k_load ?_; (first | (refine s_ex hst (qt_ldp_list evX asX inX) ?_; rintro v ⟨hvl, hv1⟩) | (refine s_ex hst (qt_ldp evX asX inX) ?_; rintro v ⟨cl, rfl, hcl⟩))) | (with_reducible refine Sl.k_field ?_; (((refine s_ex hst (qt_fieldp evX asX inX inX rfl) ?_); rintro v hp; (try simp only [Int.toNat_natCast, Int.toNat_natCast_add_one, Int.reduceToNat] at hp)))) | (with_reducible refine Sl.k_call ?_; (refine s_qt hst (by first | exact qt_len evX asX inX | exact qt_len_str evX inX) ?_))) <;> (try refine nY ?_)) | (with_reducible refine Sl.gate rfl ?_; (go_step)) | ((((first | (with_reducible refine Sl.k_store ?_; (refine s_stR hst rfl BoxIn.h evX asX inX rfl rfl ?_); clear hst; intro w hst) | (refine s_alloc hst inX ?_; clear hst; intro bk w hst)))) <;> (try refine nY ?_) <;> (try replace hst := nH hst)))
            obtain ⟨S3, hS3, hstA, hpm⟩ := pt_box (α := MF) hst hcl (Rep.len hcl)
            clear hst
            have hst := hstA
            clear hstA
            replace hpu := hpu.mono hS3
            replace hpr := hpr.mono hS3
            replace hG := hG.mono hS3
            refine v_begin hst (by kernel_rfl) ?_; clear hst; intro ops; (try refine nY ?_)
            ((refine t_ex0 0 rfl (by kernel_rfl) rfl rfl (qt_ldp evX hpm inX ) ?_; rintro  v0 ⟨c0, rfl, hc0⟩)) <;> (try refine nY ?_)
            (refine t_call 1 rfl (by kernel_rfl) rfl (fun S' M' w hS hM hst => cV1 w hS hst c0 hc0) inX rfl ?_) <;> (try refine nY ?_)
            ((refine t_ex0 2 rfl (by kernel_rfl) rfl rfl (qt_ldp evX hpm inX ) ?_; rintro  v2 ⟨c2, rfl, hc2⟩)) <;> (try refine nY ?_)
            (refine t_call 3 rfl (by kernel_rfl) rfl (fun S' M' w hS hM hst => cV2 w hS hst c2 hc2) inX rfl ?_) <;> (try refine nY ?_)
            (refine t_qt 4 rfl (by kernel_rfl) rfl rfl (qt_neq_bool rfl rfl inX) ?_) <;> (try refine nY ?_)
            (refine t_qt 5 rfl (by kernel_rfl) rfl rfl (by exact qt_move evX) ?_) <;> (try refine nY ?_)
            (((refine t_ex0 6 rfl (by kernel_rfl) rfl rfl (qt_ldp evX hpm inX ) ?_; rintro  v6 ⟨c6, rfl, hc6⟩))) <;> (try refine nY ?_)
            ((refine t_call 7 rfl (by kernel_rfl) rfl (fun S' M' w hS hM hst => cE1 w hS hst c6 hc6) inX rfl ?_)) <;> (try refine nY ?_)
            (((refine t_ex0 8 rfl (by kernel_rfl) rfl rfl (qt_ldp evX hpm inX ) ?_; rintro  v8 ⟨c8, rfl, hc8⟩))) <;> (try refine nY ?_)
            ((refine t_call 9 rfl (by kernel_rfl) rfl (fun S' M' w hS hM hst => cE2 w hS hst c8 hc8) inX rfl ?_)) <;> (try refine nY ?_)
            ((refine t_qt 10 rfl (by kernel_rfl) rfl rfl (qt_neq_str (c := true) rfl rfl inX (self_str _)) ?_)) <;> (try refine nY ?_)
            (refine t_qt 11 rfl (by kernel_rfl) rfl rfl (by exact qt_pick_f rfl evX) ?_) <;> (try refine nY ?_)
            (refine t_qt 12 rfl (by kernel_rfl) rfl rfl (by exact qt_move evX) ?_) <;> (try refine nY ?_)
            (((refine t_ex0 13 rfl (by kernel_rfl) rfl rfl (qt_ldp evX hpm inX ) ?_; rintro  v13 ⟨c13, rfl, hc13⟩))) <;> (try refine nY ?_)
            ((refine t_call 14 rfl (by kernel_rfl) rfl (fun S' M' w hS hM hst => cD1 w hS hG hst c13 hc13) inX rfl ?_)) <;> (try refine nY ?_)
            (((refine t_ex0 15 rfl (by kernel_rfl) rfl rfl (qt_ldp evX hpm inX ) ?_; rintro  v15 ⟨c15, rfl, hc15⟩))) <;> (try refine nY ?_)
            ((refine t_call 16 rfl (by kernel_rfl) rfl (fun S' M' w hS hM hst => cD2 w hS hst c15 hc15) inX rfl ?_)) <;> (try refine nY ?_)
            ((refine t_qt 17 rfl (by kernel_rfl) rfl rfl (qt_neqK_b (c := true) rfl rfl (r_dgm l1) (r_dgm l1) inX inX inferInstance (decide_eq_true rfl)) ?_)) <;> (try refine nY ?_)
            (refine t_qt 18 rfl (by kernel_rfl) rfl rfl (by exact qt_pick_f rfl evX) ?_) <;> (try refine nY ?_)
            refine v_done (by kernel_rfl) ?_; clear ops; intro w hst
            repeat' ((fail_if_success (with_reducible show Code.wp _ (Code.region 7 _ _) _ _ _)); ((fail_if_success (go_big_may)); (go_step)))
            refine v_begin hst (by kernel_rfl) ?_; clear hst; intro ops; (try refine nY ?_)
            ((refine t_ex0 0 rfl (by kernel_rfl) rfl rfl (qt_fieldp evX hpr inX inX rfl ) ?_; rintro  v0 hp0)) <;> (try refine nY ?_)
            ((refine t_ex0 1 rfl (by kernel_rfl) rfl rfl (qt_ldp evX hp0 inX ) ?_; rintro  v1 ⟨c1, rfl, hc1⟩)) <;> (try refine nY ?_)
            (refine t_call 2 rfl (by kernel_rfl) rfl (fun S' M' w hS hM hst => cK1 w hS hst c1 hc1) inX rfl ?_) <;> (try refine nY ?_)
            ((refine t_ex0 3 rfl (by kernel_rfl) rfl rfl (qt_fieldp evX hpr inX inX rfl ) ?_; rintro  v3 hp3)) <;> (try refine nY ?_)
            ((refine t_ex0 4 rfl (by kernel_rfl) rfl rfl (qt_ldp evX hp3 inX ) ?_; rintro  v4 ⟨c4, rfl, hc4⟩)) <;> (try refine nY ?_)
            (refine t_call 5 rfl (by kernel_rfl) rfl (fun S' M' w hS hM hst => cK2 w hS hst c4 hc4) inX rfl ?_) <;> (try refine nY ?_)
            (refine t_qt 6 rfl (by kernel_rfl) rfl rfl (qt_neq_str (c := true) rfl rfl inX (self_str _)) ?_) <;> (try refine nY ?_)
            (refine t_qt 7 rfl (by kernel_rfl) rfl rfl (by exact qt_move evX) ?_) <;> (try refine nY ?_)
            (((refine t_ex0 8 rfl (by kernel_rfl) rfl rfl (qt_fieldp evX hpr inX inX rfl ) ?_; rintro  v8 hp8))) <;> (try refine nY ?_)
            (((refine t_ex0 9 rfl (by kernel_rfl) rfl rfl (qt_ldp evX hp8 inX ) ?_; rintro  v9 ⟨c9, rfl, hc9⟩))) <;> (try refine nY ?_)
            ((refine t_call 10 rfl (by kernel_rfl) rfl (fun S' M' w hS hM hst => cL1 w hS hG hst c9 hc9) inX rfl ?_)) <;> (try refine nY ?_)
            (((refine t_ex0 11 rfl (by kernel_rfl) rfl rfl (qt_fieldp evX hpr inX inX rfl ) ?_; rintro  v11 hp11))) <;> (try refine nY ?_)
            (((refine t_ex0 12 rfl (by kernel_rfl) rfl rfl (qt_ldp evX hp11 inX ) ?_; rintro  v12 ⟨c12, rfl, hc12⟩))) <;> (try refine nY ?_)
            ((refine t_call 13 rfl (by kernel_rfl) rfl (fun S' M' w hS hM hst => cL2 w hS hst c12 hc12) inX rfl ?_)) <;> (try refine nY ?_)
            ((refine t_qt 14 rfl (by kernel_rfl) rfl rfl (qt_neqK_b (c := true) rfl rfl (r_dgm l2) (r_dgm l2) inX inX inferInstance (decide_eq_true rfl)) ?_)) <;> (try refine nY ?_)
            (refine t_qt 15 rfl (by kernel_rfl) rfl rfl (by exact qt_pick_f rfl evX) ?_) <;> (try refine nY ?_)
            (refine t_qt 16 rfl (by kernel_rfl) rfl rfl (by exact qt_move evX) ?_) <;> (try refine nY ?_)
            (refine t_qt 17 rfl (by kernel_rfl) rfl rfl (by exact qt_move evX) ?_) <;> (try refine nY ?_)
            ((refine t_call 18 rfl (by kernel_rfl) rfl (fun S' M' w hS hM hst => cT1 w hS hG hst) inX rfl ?_)) <;> (try refine nY ?_)
            (refine t_qt 19 rfl (by kernel_rfl) rfl rfl (by exact qt_move evX) ?_) <;> (try refine nY ?_)
            ((refine t_call 20 rfl (by kernel_rfl) rfl (fun S' M' w hS hM hst => cT2 w hS hst) inX rfl ?_)) <;> (try refine nY ?_)
            ((refine t_qt 21 rfl (by kernel_rfl) rfl rfl (qt_neqK_b (c := true) rfl rfl (r_dgm l3) (r_dgm l3) inX inX inferInstance (decide_eq_true rfl)) ?_)) <;> (try refine nY ?_)
            (refine t_qt 22 rfl (by kernel_rfl) rfl rfl (by exact qt_pick_f rfl evX) ?_) <;> (try refine nY ?_)
            refine v_done (by kernel_rfl) ?_; clear ops; intro w hst
            repeat' ((fail_if_success (with_reducible show Code.wp _ (Code.region 9 _ _) _ _ _)); ((fail_if_success (go_big_may)); (go_step)))
            refine v_begin hst (by kernel_rfl) ?_; clear hst; intro ops; (try refine nY ?_)
            (refine t_qt 0 rfl (by kernel_rfl) rfl rfl (by exact qt_move evX) ?_) <;> (try refine nY ?_)
            (refine t_qt 1 rfl (by kernel_rfl) rfl rfl (by exact qt_move evX) ?_) <;> (try refine nY ?_)
            (((refine t_ex0 2 rfl (by kernel_rfl) rfl rfl (qt_ldp evX hpu inX ) ?_; rintro  v2 ⟨c2, rfl, hc2⟩))) <;> (try refine nY ?_)
            ((refine t_call 3 rfl (by kernel_rfl) rfl (fun S' M' w hS hM hst => cB1 w hS hst c2 hc2) inX rfl ?_)) <;> (try refine nY ?_)
            (((refine t_ex0 4 rfl (by kernel_rfl) rfl rfl (qt_ldp evX hpu inX ) ?_; rintro  v4 ⟨c4, rfl, hc4⟩))) <;> (try refine nY ?_)
            ((refine t_call 5 rfl (by kernel_rfl) rfl (fun S' M' w hS hM hst => cB2 w hS hst c4 hc4) inX rfl ?_)) <;> (try refine nY ?_)
            ((refine t_qt 6 rfl (by kernel_rfl) rfl rfl (qt_eql_str (c := true) rfl rfl inX (self_str _)) ?_)) <;> (try refine nY ?_)
            (refine t_qt 7 rfl (by kernel_rfl) rfl rfl (by exact qt_pick_t rfl evX) ?_) <;> (try refine nY ?_)
            (refine t_qt 8 rfl (by kernel_rfl) rfl rfl (by exact qt_move evX) ?_) <;> (try refine nY ?_)
            (((refine t_ex0 9 rfl (by kernel_rfl) rfl rfl (qt_ldp evX hpr inX ) ?_; rintro  v9 ⟨c9, rfl, hc9⟩))) <;> (try refine nY ?_)
            ((refine t_call 10 rfl (by kernel_rfl) rfl (fun S' M' w hS hM hst => cR1 w hS hst c9 hc9) inX rfl ?_)) <;> (try refine nY ?_)
            (((refine t_ex0 11 rfl (by kernel_rfl) rfl rfl (qt_ldp evX hpr inX ) ?_; rintro  v11 ⟨c11, rfl, hc11⟩))) <;> (try refine nY ?_)
            ((refine t_call 12 rfl (by kernel_rfl) rfl (fun S' M' w hS hM hst => cR2 w hS hst c11 hc11) inX rfl ?_)) <;> (try refine nY ?_)
            ((refine t_qt 13 rfl (by kernel_rfl) rfl rfl (qt_eql_str (c := true) rfl rfl inX (self_str _)) ?_)) <;> (try refine nY ?_)
            (refine t_qt 14 rfl (by kernel_rfl) rfl rfl (by exact qt_pick_t rfl evX) ?_) <;> (try refine nY ?_)
            (refine t_qt 15 rfl (by kernel_rfl) rfl rfl (by exact qt_assign evX) ?_) <;> (try refine nY ?_)
            refine v_done (by kernel_rfl) ?_; clear ops; intro w hst
            repeat' (((fail_if_success (go_big_may)); (go_step)))
            go_ret
            exact ⟨_, rfl, rfl, St.weaken (hle.trans hS3) hst⟩
        · skip
          go_enter Tryd.func3, Tryd.ntmps3
          repeat' ((fail_if_success (with_reducible show Code.wp _ (Code.region 1 _ _) _ _ _)); first | ((fail_if_success (go_big_may)); (go_step)) | (((((refine s_box hst evX rfl ?_; clear hst; intro bx w hst)))) <;> (try refine nY ?_) <;> (try replace hst := nH hst)))
          obtain ⟨S1, hS1, hstA, hpr⟩ := pt_box (α := RO) hst hr (Rep.len hr)
          clear hst
          obtain ⟨S2, hS2, hst, hpu⟩ := pt_box (α := BU) hstA (Rep.mono hS1 hu) (Rep.len hu)
          clear hstA
          replace hpr := hpr.mono hS2
          replace hG := (hG.mono hS1).mono hS2
          have hle : S.Le S2 := hS1.trans hS2
          clear hS1 hS2
          repeat' ((fail_if_success (with_reducible show Code.wp _ (Code.region 2 _ _) _ _ _)); first | (((with_reducible refine Sl.k_call ?_; ((refine s_call (msanity_c _ hst hG) inX rfl ?_; clear hst; rintro v w ⟨rfl, hst⟩)))) <;> (try refine nY ?_) <;> (try replace hst := nH hst)) | ((fail_if_success (go_big_may)); (go_step)))
          repeat' (first | ((first | (with_reducible (refine Sl.k_field ?_; (refine s_ex hst (qt_fieldp evX hpr inX inX rfl) ?_); rintro vf hpf)) | (with_reducible (refine Sl.k_build ?_; with_unfolding_all refine s_ex hst (qt_buildP (x' := buS r.2.1) inX inX r_zBU (.cons (k := 1) (y := r.2.1) (r_listc hvl) rfl .nil)) ?_; rintro vz ⟨cz, rfl, hcz⟩)) | (with_reducible refine Sl.k_guard ?_; (first | (refine Sl.guard_yes rfl ?_) | (refine Sl.guard_cases rfl ?_ ?_ <;> intro hg <;> first | (exfalso; simp only [decide_eq_true_eq, decide_eq_false_iff_not, Bool.not_false, Bool.not_true, beq_iff_eq, beq_eq_false_iff_ne, ne_eq] at hg; omega) | (simp only [hg, Bool.not_true, Bool.not_false])) <;> (try simp only [decide_eq_true_eq, decide_eq_false_iff_not, Bool.not_false, Bool.not_true, beq_iff_eq, beq_eq_false_iff_ne, bne_iff_ne, bne_eq_false_iff_eq, ne_eq] at hg)))) <;> (try refine nY ?_)) | (((with_reducible refine Sl.k_call ?_; (first | (refine s_call (cF _ hst _ hcl) inX rfl ?_; clear hst; rintro v w ⟨rfl, hst⟩) | (refine s_call (cH _ hst _ hcz) inX rfl ?_; clear hst; rintro v w ⟨rfl, hst⟩)))) <;> (try refine nY ?_) <;> (try replace hst := nH hst)) | ((fail_if_success (go_big_may)); (go_step)) | ((first | (with_reducible refine Sl.k_load ?_; (first | (refine s_ex hst (qt_ldp_list evX asX inX) ?_; rintro v ⟨hvl, hv1⟩) | (refine s_ex hst (qt_ldp evX asX inX) ?_; rintro v ⟨cl, rfl, hcl⟩))) | (with_reducible refine Sl.k_field ?_; (((refine s_ex hst (qt_fieldp evX asX inX inX rfl) ?_); rintro v hp; (try simp only [Int.toNat_natCast, Int.toNat_natCast_add_one, Int.reduceToNat] at hp)))) | (with_reducible refine Sl.k_call ?_; (refine s_qt hst (by first | exact qt_len evX asX inX | exact qt_len_str evX inX) ?_))) <;> (try refine nY ?_)) | (with_reducible refine Sl.gate rfl ?_; (go_step)))
          go_ret
          exact ⟨_, rfl, rfl, St.weaken hle hst⟩
    · skip
      go_enter Tryd.func3, Tryd.ntmps3
      repeat' ((fail_if_success (with_reducible show Code.wp _ (Code.region 1 _ _) _ _ _)); first | ((fail_if_success (go_big_may)); (go_step)) | (((((refine s_box hst evX rfl ?_; clear hst; intro bx w hst)))) <;> (try refine nY ?_) <;> (try replace hst := nH hst)))
      obtain ⟨S1, hS1, hstA, hpr⟩ := pt_box (α := RO) hst hr (Rep.len hr)
      clear hst
      obtain ⟨S2, hS2, hst, hpu⟩ := pt_box (α := BU) hstA (Rep.mono hS1 hu) (Rep.len hu)
      clear hstA
      replace hpr := hpr.mono hS2
      replace hG := (hG.mono hS1).mono hS2
      have hle : S.Le S2 := hS1.trans hS2
      clear hS1 hS2
      repeat' ((fail_if_success (with_reducible show Code.wp _ (Code.region 2 _ _) _ _ _)); first | (((with_reducible refine Sl.k_call ?_; ((refine s_call (msanity_c _ hst hG) inX rfl ?_; clear hst; rintro v w ⟨rfl, hst⟩)))) <;> (try refine nY ?_) <;> (try replace hst := nH hst)) | ((fail_if_success (go_big_may)); (go_step)))
      repeat' (first | go_skip | ((first | (with_reducible (refine Sl.k_field ?_; (refine s_ex hst (qt_fieldp evX hpr inX inX rfl) ?_); rintro vf hpf)) | (with_reducible refine Sl.k_guard ?_; (first | (refine Sl.guard_yes rfl ?_) | (refine Sl.guard_cases rfl ?_ ?_ <;> intro hg <;> first | (exfalso; simp only [decide_eq_true_eq, decide_eq_false_iff_not, Bool.not_false, Bool.not_true, beq_iff_eq, beq_eq_false_iff_ne, ne_eq] at hg; omega) | (simp only [hg, Bool.not_true, Bool.not_false])) <;> (try simp only [decide_eq_true_eq, decide_eq_false_iff_not, Bool.not_false, Bool.not_true, beq_iff_eq, beq_eq_false_iff_ne, bne_iff_ne, bne_eq_false_iff_eq, ne_eq] at hg)))) <;> (try refine nY ?_)) | (((with_reducible refine Sl.k_call ?_; ((refine s_call (cF _ hst _ hcl) inX rfl ?_; clear hst; rintro v w ⟨rfl, hst⟩)))) <;> (try refine nY ?_) <;> (try replace hst := nH hst)) | ((fail_if_success (go_big_may)); (go_step)) | ((first | (with_reducible refine Sl.k_load ?_; (first | (refine s_ex hst (qt_ldp_list evX asX inX) ?_; rintro v ⟨hvl, hv1⟩) | (refine s_ex hst (qt_ldp evX asX inX) ?_; rintro v ⟨cl, rfl, hcl⟩))) | (with_reducible refine Sl.k_field ?_; (((refine s_ex hst (qt_fieldp evX asX inX inX rfl) ?_); rintro v hp; (try simp only [Int.toNat_natCast, Int.toNat_natCast_add_one, Int.reduceToNat] at hp)))) | (with_reducible refine Sl.k_call ?_; (refine s_qt hst (by exact qt_len evX asX inX) ?_))) <;> (try refine nY ?_)) | (with_reducible refine Sl.gate rfl ?_; (go_step)))
      go_ret
      exact ⟨_, rfl, rfl, St.weaken hle hst⟩
end Go.Proofs.YtlimhgamebnfeaaDoor

/- The statement ManifestEncodesAsSpecified. -/
namespace Go.Proofs.YtlimhgamebnfeaaDoor
set_option linter.unusedSimpArgs false
set_option linter.unusedVariables false
open Go.RowKit Go.Sl Go.ChangeShapes Go.WideShapes Go.ChangeAt

set_option maxRecDepth 20000 in
theorem mspec_post (H : Type) (enc : TypeId × Value → H) (W : World) (base : Nat) (args : Array Value) (ds gs : List (DataW H)) (before : List MemPlace)
    (hval : ∀ (j : Nat) t v, Tryd.f3.params[j]? = some t → args[j]? = some v → Value.okWide Tryd.prog W .any base t v)
    (hW : DataW.Whole enc Tryd.prog Tryd.f3.params.toList Rows.manifestEncodesAsSpecifiedSpec.vars false W args.toList ds gs before) (hk : Rows.uptoSmall H (ds ++ gs) = true) (hL : laidMetH Tryd.prog Rows.manifestEncodesAsSpecifiedUptoRow.laid W) :
    Calls Tryd.prog 3 args W fun e W' => ∃ v, e = .returned v ∧ Rows.manifestEncodesAsSpecifiedSpec.post enc Tryd.prog Tryd.f3 false true false false W args v W' := by
  have hW' := hW
  obtain ⟨p, q, hA0, hV, rfl, hfz, hnd⟩ := hW
  have hA : DataW.TrodAll enc Tryd.prog W 0 (fun _ => true) true Tryd.f3.params.toList args.toList ds p := hA0
  have hk := small_all hk
  rw [Tryd.params3] at hA hval
  obtain ⟨v0, vs0, d0, ds0, p0, q0, hargs, rfl, rfl, h0, r0⟩ := trodAll_cons hA
  obtain ⟨v1, vs1, d1, ds1, p1, q1, rfl, rfl, rfl, h1, r1⟩ := trodAll_cons r0
  obtain ⟨v2, vs2, d2, ds2, p2, q2, rfl, rfl, rfl, h2, r2⟩ := trodAll_cons r1
  obtain ⟨rfl, rfl, rfl⟩ := trodAll_nil r2
  obtain rfl : args = #[v0, v1, v2] := by cases args; simp_all
  obtain ⟨rfl, rfl⟩ := trodVars_none hV
  simp only [List.append_nil, Rows.uptoBulkAll] at hk
  obtain ⟨c0, u0, rfl, hR0⟩ := open_bu (hval 0 28 v0 rfl rfl) h0
  obtain ⟨c1, u1, rfl, hR1⟩ := open_ro (hval 1 32 v1 rfl rfl) h1
  obtain ⟨s2, rfl, hs2⟩ := open_s (hval 2 9 v2 rfl rfl) h2 (by omega)
  refine Calls.mono (mspec_c W (St.start W) (glob_of hL) c0 u0 hR0 c1 u1 hR1 s2 hs2) fun e W' ⟨v, he, hv, hst⟩ => ?_
  subst hv
  exact ⟨_, he, law_post (tb := 4) rfl hW' (by kernel_rfl) (by rw [Tryd.params3]; intro t ht'; have e : t = 28 ∨ t = 32 ∨ t = 9 := (by simpa using ht'); rcases e with rfl | rfl | rfl <;> exact ⟨by kernel_rfl, of_decide_eq_true (by kernel_rfl)⟩) (by kernel_rfl) (by kernel_rfl) rfl rfl rfl hst.below⟩

abbrev mspec_args : Array Value := #[.agg #[.int .i64 0, .int .i64 0, .int .i64 0, .slice none 0 0, .slice none 0 0, .slice none 0 0], .agg #[.int .i64 0, .int .i64 0, .int .i64 0, .slice none 0 0, .slice none 0 0], .string ⟨#[]⟩]
theorem mspec_met (os : Os) : laidMet Tryd.prog Rows.manifestEncodesAsSpecifiedUptoRow.laid ((laidWorld os #[]).forCall (fun _ _ => 0) ⟨#[], mspec_args, []⟩).memory :=
  laidMet_of_run' 8 (by kernel_rfl) (by kernel_rfl)
theorem mspec_reads (os : Os) {H : Type} (enc : TypeId × Value → H) : ∃ places, DataW.whole enc Tryd.prog ((laidWorld os #[]).forCall (fun _ _ => 0) ⟨#[], mspec_args, []⟩).memory Tryd.f3.params.toList Rows.manifestEncodesAsSpecifiedSpec.vars false mspec_args.toList 8 = some ([.agg [.agg [.lit (.int .i64 0), .lit (.int .i64 0), .lit (.int .i64 0), .nil], .nil, .nil], .agg [.agg [.lit (.int .i64 0), .lit (.int .i64 0), .lit (.int .i64 0), .nil], .nil], .lit (.string [])], [], places) :=
  ⟨[], by kernel_rfl⟩

set_option maxRecDepth 100000 in
theorem mspec_lifted (os : Os) (started : os.Started) (H : Type) (enc : TypeId × Value → H) (F : Stop.Interp) :
    ReturnsInHanded {} Tryd.checked os 3 .any ((Rows.OpenSpec.upto Rows.manifestEncodesAsSpecifiedSpec).preRow enc Tryd.prog Tryd.f3 Rows.manifestEncodesAsSpecifiedUptoRow.domain false Rows.manifestEncodesAsSpecifiedUptoRow.laid) (((Rows.OpenSpec.upto Rows.manifestEncodesAsSpecifiedSpec).at F).post enc Tryd.prog Tryd.f3 false true false false) := by
  obtain ⟨places, hx⟩ := mspec_reads os enc
  refine returnsInHanded_of_row (C := Tryd.checked) (s := Rows.OpenSpec.upto Rows.manifestEncodesAsSpecifiedSpec) own started (by kernel_rfl) Tryd.func3
    (witness_row_at (enc := enc) (C := Tryd.checked) false (laidWorld os #[]) mspec_args rfl (by kernel_rfl) (by kernel_rfl) (by kernel_rfl)
      (OpenSpec.preRow_of_cond 8 hx (by kernel_rfl) (fun k hk => by cases hk; kernel_rfl) (by kernel_rfl) (mspec_met os))) ?_
  intro W base args ds gs before hval hW _ hc _ hL _ _
  exact mspec_post H enc W base args ds gs before hval hW (hc _ rfl) hL

theorem mspec_said : Rows.ManifestEncodesAsSpecifiedUptoSaid :=
  OpenClaim.holds_of_cond 3 Tryd.f3 rfl rfl rfl rfl rfl rfl rfl ⟨rfl, rfl, rfl, rfl, rfl⟩ rfl rfl rfl rfl rfl (by kernel_rfl) Tryd.func3 (by kernel_rfl)
    (of_decide_eq_true (by kernel_rfl)) (by unfold Func.isWrapper; first | (rw [if_pos (by decide +kernel)]; kernel_rfl) | (rw [if_neg (by decide +kernel)]; exact ⟨rfl, rfl⟩))
    (fun os started H enc _ F => by rw [OpenClaim.pre_eq_preRow]; exact mspec_lifted os started H enc F)

theorem mspec_plain (f : FuncId) (fn : Func) (hf : Tryd.pinned.checked.prog.funcNamed "bootchain/bootchainlaw23.ManifestEncodesAsSpecified" = some f) (hfn : Tryd.pinned.checked.prog.funcs[f]? = some fn) :
    false = Tryd.pinned.checked.prog.looks [] ∧ ∀ (j : Nat) t, fn.params[j]? = some t → Tryd.pinned.checked.prog.wantsStandIn t = false := by
  obtain rfl : f = 3 := Option.some.inj ((show Tryd.prog.funcNamed "bootchain/bootchainlaw23.ManifestEncodesAsSpecified" = some 3 by kernel_rfl).symm.trans hf) |>.symm
  obtain rfl : fn = Tryd.f3 := (Option.some.inj (Tryd.func3.symm.trans hfn)).symm
  refine ⟨by kernel_rfl, fun j t ht => ?_⟩
  rw [Tryd.params3] at ht
  have e : t = 28 ∨ t = 32 ∨ t = 9 := by simpa using Array.mem_of_getElem? ht
  rcases e with rfl | rfl | rfl
  · exact (show Tryd.prog.wantsStandIn 28 = false by kernel_rfl)
  · exact (show Tryd.prog.wantsStandIn 32 = false by kernel_rfl)
  · exact (show Tryd.prog.wantsStandIn 9 = false by kernel_rfl)

theorem mspec_proved : Rows.ManifestEncodesAsSpecifiedUptoCardSaid :=
  Claim7.holds_tied_plain_at .later [] _ _ _ _ mspec_said (fun _ h => by cases h) (by kernel_rfl) (fun _ h => by cases h) manifestEncodesAsSpecifiedUpto_row_tie rfl ⟨rfl, rfl⟩ (by kernel_rfl) rfl mspec_plain (by kernel_rfl)
end Go.Proofs.YtlimhgamebnfeaaDoor
