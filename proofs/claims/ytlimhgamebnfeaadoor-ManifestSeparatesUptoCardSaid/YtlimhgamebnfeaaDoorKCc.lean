/- The statement ManifestSeparates: different manifests have different encodings, and so have different keysets, bundles and rotations. Conditions: none beyond those of the statement itself. -/
import Derived.Test.YtlimhgamebnfeaaDoorBb
import Derived.Test.YtlimhgamebnfeaaDoorBi
import Derived.Test.YtlimhgamebnfeaaDoorBh

/- The statement ManifestSeparates, walked. -/
--@u32
--@hgp
--@flat
--@dg
--@ex0
namespace Go.Proofs.YtlimhgamebnfeaaDoor
set_option linter.unusedSimpArgs false
set_option linter.unusedVariables false
open Go.RowKit Go.Sl

instance repBU : Rep BU := inferInstance
instance repRO : Rep RO := inferInstance
abbrev SIn := BU × BU × RO × RO × Unit
set_option maxRecDepth 20000 in
set_option maxHeartbeats 4000000 in
theorem mseps_c {S M} (w : World) (hst : St S M w) (hG : Glob S) (cs : List Value) (u v : BU) (r s : RO) (hR : Rep.R S cs ((u, v, r, s, ()) : SIn)) : Rets Tryd.prog 4 [.agg cs.toArray] w fun v w' => v = .bool true ∧ St S M w' := by
  unfold Rets
  have pu := bu_parts hR.2.1
  have pv := bu_parts hR.2.2.2.1
  have pr := ro_parts hR.2.2.2.2.2.1
  have ps := ro_parts hR.2.2.2.2.2.2.2.1
  obtain ⟨z1, hz1⟩ : ∃ z, fewM u = z := ⟨_, rfl⟩
  obtain ⟨z2, hz2⟩ : ∃ z, fewM v = z := ⟨_, rfl⟩
  obtain ⟨z3, hz3⟩ : ∃ z, fewM (buS r.2.1) = z := ⟨_, rfl⟩
  obtain ⟨z4, hz4⟩ : ∃ z, fewM (buS s.2.1) = z := ⟨_, rfl⟩
  have cF1 := fun {S : Snap} {M : List Chunk} (w : World) (hst : St S M w) (cs : List Value) (hR : Rep.R S cs u) => (few_c w hst cs u hR).eq hz1
  have cF2 := fun {S : Snap} {M : List Chunk} (w : World) (hst : St S M w) (cs : List Value) (hR : Rep.R S cs v) => (few_c w hst cs v hR).eq hz2
  have cF3 := fun {S : Snap} {M : List Chunk} (w : World) (hst : St S M w) (cs : List Value) (hR : Rep.R S cs (buS r.2.1)) => (few_c w hst cs _ hR).eq hz3
  have cF4 := fun {S : Snap} {M : List Chunk} (w : World) (hst : St S M w) (cs : List Value) (hR : Rep.R S cs (buS s.2.1)) => (few_c w hst cs _ hR).eq hz4
  cases z1 with
  | false =>
    go_enter Tryd.func4, Tryd.ntmps4
    repeat' ((fail_if_success (with_reducible show Code.wp _ (Code.region 1 _ _) _ _ _)); first | ((fail_if_success (go_big_may)); (go_step)) | (((((refine s_box hst evX rfl ?_; clear hst; intro bx w hst)))) <;> (try refine nY ?_) <;> (try replace hst := nH hst)))
    obtain ⟨S1, hS1, hstA, hp⟩ := pt_box (α := SIn) hst hR (Rep.len hR)
    clear hst
    have hst := hstA
    clear hstA
    replace hG := hG.mono hS1
    repeat' ((fail_if_success (with_reducible show Code.wp _ (Code.region 2 _ _) _ _ _)); first | (((with_reducible (refine Sl.k_field ?_; (refine s_ex hst (qt_fieldp evX hp inX inX rfl) ?_); rintro vf hpf))) <;> (try refine nY ?_)) | ((fail_if_success (go_big_may)); (go_step)) | (((with_reducible refine Sl.k_load ?_; ((refine s_ex hst (qt_ldp evX asX inX) ?_; rintro v ⟨cl, rfl, hcl⟩)))) <;> (try refine nY ?_)) | ((((first | (with_reducible refine Sl.k_store ?_; (refine s_stR hst rfl BoxIn.h evX asX inX rfl rfl ?_); clear hst; intro w hst) | (refine s_alloc hst inX ?_; clear hst; intro bk w hst)))) <;> (try refine nY ?_) <;> (try replace hst := nH hst)))
    obtain ⟨S2, hS2, hstA, hpu⟩ := pt_box (α := BU) hst hcl (Rep.len hcl)
    clear hst hcl
    have hst := hstA
    clear hstA
    replace hp := hp.mono hS2
    replace hG := hG.mono hS2
    repeat' ((fail_if_success (with_reducible show Code.wp _ (Code.region 3 _ _) _ _ _)); first | (((with_reducible (refine Sl.k_field ?_; (refine s_ex hst (qt_fieldp evX hp inX inX rfl) ?_); rintro vf hpf))) <;> (try refine nY ?_)) | ((fail_if_success (go_big_may)); (go_step)) | (((with_reducible refine Sl.k_load ?_; ((refine s_ex hst (qt_ldp evX asX inX) ?_; rintro v ⟨cl, rfl, hcl⟩)))) <;> (try refine nY ?_)) | ((((first | (with_reducible refine Sl.k_store ?_; (refine s_stR hst rfl BoxIn.h evX asX inX rfl rfl ?_); clear hst; intro w hst) | (refine s_alloc hst inX ?_; clear hst; intro bk w hst)))) <;> (try refine nY ?_) <;> (try replace hst := nH hst)))
    obtain ⟨S3, hS3, hstA, hpv⟩ := pt_box (α := BU) hst hcl (Rep.len hcl)
    clear hst hcl
    have hst := hstA
    clear hstA
    replace hp := hp.mono hS3
    replace hG := hG.mono hS3
    replace hpu := hpu.mono hS3
    repeat' ((fail_if_success (with_reducible show Code.wp _ (Code.region 4 _ _) _ _ _)); first | (((with_reducible (refine Sl.k_field ?_; (refine s_ex hst (qt_fieldp evX hp inX inX rfl) ?_); rintro vf hpf))) <;> (try refine nY ?_)) | ((fail_if_success (go_big_may)); (go_step)) | (((with_reducible refine Sl.k_load ?_; ((refine s_ex hst (qt_ldp evX asX inX) ?_; rintro v ⟨cl, rfl, hcl⟩)))) <;> (try refine nY ?_)) | ((((first | (with_reducible refine Sl.k_store ?_; (refine s_stR hst rfl BoxIn.h evX asX inX rfl rfl ?_); clear hst; intro w hst) | (refine s_alloc hst inX ?_; clear hst; intro bk w hst)))) <;> (try refine nY ?_) <;> (try replace hst := nH hst)))
    obtain ⟨S4, hS4, hstA, hpr⟩ := pt_box (α := RO) hst hcl (Rep.len hcl)
    clear hst hcl
    have hst := hstA
    clear hstA
    replace hp := hp.mono hS4
    replace hG := hG.mono hS4
    replace hpu := hpu.mono hS4
    replace hpv := hpv.mono hS4
    repeat' ((fail_if_success (with_reducible show Code.wp _ (Code.region 5 _ _) _ _ _)); first | (((with_reducible (refine Sl.k_field ?_; (refine s_ex hst (qt_fieldp evX hp inX inX rfl) ?_); rintro vf hpf))) <;> (try refine nY ?_)) | ((fail_if_success (go_big_may)); (go_step)) | (((with_reducible refine Sl.k_load ?_; ((refine s_ex hst (qt_ldp evX asX inX) ?_; rintro v ⟨cl, rfl, hcl⟩)))) <;> (try refine nY ?_)) | ((((first | (with_reducible refine Sl.k_store ?_; (refine s_stR hst rfl BoxIn.h evX asX inX rfl rfl ?_); clear hst; intro w hst) | (refine s_alloc hst inX ?_; clear hst; intro bk w hst)))) <;> (try refine nY ?_) <;> (try replace hst := nH hst)))
    obtain ⟨S5, hS5, hstA, hps⟩ := pt_box (α := RO) hst hcl (Rep.len hcl)
    clear hst hcl
    have hst := hstA
    clear hstA
    replace hp := hp.mono hS5
    replace hG := hG.mono hS5
    replace hpu := hpu.mono hS5
    replace hpv := hpv.mono hS5
    replace hpr := hpr.mono hS5
    have hle : S.Le S5 := hS1.trans (hS2.trans (hS3.trans (hS4.trans hS5)))
    clear hp hS1 hS2 hS3 hS4 hS5
    repeat' ((fail_if_success (with_reducible show Code.wp _ (Code.region 6 _ _) _ _ _)); first | (((with_reducible refine Sl.k_call ?_; ((refine s_call (msanity_c _ hst hG) inX rfl ?_; clear hst; rintro v w ⟨rfl, hst⟩)))) <;> (try refine nY ?_) <;> (try replace hst := nH hst)) | ((fail_if_success (go_big_may)); (go_step)))
    repeat' (first | go_skip | (((with_reducible refine Sl.k_call ?_; ((refine s_call (cF1 _ hst _ hcl) inX rfl ?_; clear hst; rintro v w ⟨rfl, hst⟩)))) <;> (try refine nY ?_) <;> (try replace hst := nH hst)) | ((fail_if_success (go_big_may)); (go_step)) | (((with_reducible refine Sl.k_load ?_; ((refine s_ex hst (qt_ldp evX asX inX) ?_; rintro v ⟨cl, rfl, hcl⟩)))) <;> (try refine nY ?_)) | (with_reducible refine Sl.gate rfl ?_; (go_step)))
    go_ret
    exact ⟨_, rfl, rfl, St.weaken hle hst⟩
  | true =>
    cases z2 with
    | false =>
      go_enter Tryd.func4, Tryd.ntmps4
      repeat' ((fail_if_success (with_reducible show Code.wp _ (Code.region 1 _ _) _ _ _)); first | ((fail_if_success (go_big_may)); (go_step)) | (((((refine s_box hst evX rfl ?_; clear hst; intro bx w hst)))) <;> (try refine nY ?_) <;> (try replace hst := nH hst)))
      obtain ⟨S1, hS1, hstA, hp⟩ := pt_box (α := SIn) hst hR (Rep.len hR)
      clear hst
      have hst := hstA
      clear hstA
      replace hG := hG.mono hS1
      repeat' ((fail_if_success (with_reducible show Code.wp _ (Code.region 2 _ _) _ _ _)); first | (((with_reducible (refine Sl.k_field ?_; (refine s_ex hst (qt_fieldp evX hp inX inX rfl) ?_); rintro vf hpf))) <;> (try refine nY ?_)) | ((fail_if_success (go_big_may)); (go_step)) | (((with_reducible refine Sl.k_load ?_; ((refine s_ex hst (qt_ldp evX asX inX) ?_; rintro v ⟨cl, rfl, hcl⟩)))) <;> (try refine nY ?_)) | ((((first | (with_reducible refine Sl.k_store ?_; (refine s_stR hst rfl BoxIn.h evX asX inX rfl rfl ?_); clear hst; intro w hst) | (refine s_alloc hst inX ?_; clear hst; intro bk w hst)))) <;> (try refine nY ?_) <;> (try replace hst := nH hst)))
      obtain ⟨S2, hS2, hstA, hpu⟩ := pt_box (α := BU) hst hcl (Rep.len hcl)
      clear hst hcl
      have hst := hstA
      clear hstA
      replace hp := hp.mono hS2
      replace hG := hG.mono hS2
      repeat' ((fail_if_success (with_reducible show Code.wp _ (Code.region 3 _ _) _ _ _)); first | (((with_reducible (refine Sl.k_field ?_; (refine s_ex hst (qt_fieldp evX hp inX inX rfl) ?_); rintro vf hpf))) <;> (try refine nY ?_)) | ((fail_if_success (go_big_may)); (go_step)) | (((with_reducible refine Sl.k_load ?_; ((refine s_ex hst (qt_ldp evX asX inX) ?_; rintro v ⟨cl, rfl, hcl⟩)))) <;> (try refine nY ?_)) | ((((first | (with_reducible refine Sl.k_store ?_; (refine s_stR hst rfl BoxIn.h evX asX inX rfl rfl ?_); clear hst; intro w hst) | (refine s_alloc hst inX ?_; clear hst; intro bk w hst)))) <;> (try refine nY ?_) <;> (try replace hst := nH hst)))
      obtain ⟨S3, hS3, hstA, hpv⟩ := pt_box (α := BU) hst hcl (Rep.len hcl)
      clear hst hcl
      have hst := hstA
      clear hstA
      replace hp := hp.mono hS3
      replace hG := hG.mono hS3
      replace hpu := hpu.mono hS3
      repeat' ((fail_if_success (with_reducible show Code.wp _ (Code.region 4 _ _) _ _ _)); first | (((with_reducible (refine Sl.k_field ?_; (refine s_ex hst (qt_fieldp evX hp inX inX rfl) ?_); rintro vf hpf))) <;> (try refine nY ?_)) | ((fail_if_success (go_big_may)); (go_step)) | (((with_reducible refine Sl.k_load ?_; ((refine s_ex hst (qt_ldp evX asX inX) ?_; rintro v ⟨cl, rfl, hcl⟩)))) <;> (try refine nY ?_)) | ((((first | (with_reducible refine Sl.k_store ?_; (refine s_stR hst rfl BoxIn.h evX asX inX rfl rfl ?_); clear hst; intro w hst) | (refine s_alloc hst inX ?_; clear hst; intro bk w hst)))) <;> (try refine nY ?_) <;> (try replace hst := nH hst)))
      obtain ⟨S4, hS4, hstA, hpr⟩ := pt_box (α := RO) hst hcl (Rep.len hcl)
      clear hst hcl
      have hst := hstA
      clear hstA
      replace hp := hp.mono hS4
      replace hG := hG.mono hS4
      replace hpu := hpu.mono hS4
      replace hpv := hpv.mono hS4
      repeat' ((fail_if_success (with_reducible show Code.wp _ (Code.region 5 _ _) _ _ _)); first | (((with_reducible (refine Sl.k_field ?_; (refine s_ex hst (qt_fieldp evX hp inX inX rfl) ?_); rintro vf hpf))) <;> (try refine nY ?_)) | ((fail_if_success (go_big_may)); (go_step)) | (((with_reducible refine Sl.k_load ?_; ((refine s_ex hst (qt_ldp evX asX inX) ?_; rintro v ⟨cl, rfl, hcl⟩)))) <;> (try refine nY ?_)) | ((((first | (with_reducible refine Sl.k_store ?_; (refine s_stR hst rfl BoxIn.h evX asX inX rfl rfl ?_); clear hst; intro w hst) | (refine s_alloc hst inX ?_; clear hst; intro bk w hst)))) <;> (try refine nY ?_) <;> (try replace hst := nH hst)))
      obtain ⟨S5, hS5, hstA, hps⟩ := pt_box (α := RO) hst hcl (Rep.len hcl)
      clear hst hcl
      have hst := hstA
      clear hstA
      replace hp := hp.mono hS5
      replace hG := hG.mono hS5
      replace hpu := hpu.mono hS5
      replace hpv := hpv.mono hS5
      replace hpr := hpr.mono hS5
      have hle : S.Le S5 := hS1.trans (hS2.trans (hS3.trans (hS4.trans hS5)))
      clear hp hS1 hS2 hS3 hS4 hS5
      repeat' ((fail_if_success (with_reducible show Code.wp _ (Code.region 6 _ _) _ _ _)); first | (((with_reducible refine Sl.k_call ?_; ((refine s_call (msanity_c _ hst hG) inX rfl ?_; clear hst; rintro v w ⟨rfl, hst⟩)))) <;> (try refine nY ?_) <;> (try replace hst := nH hst)) | ((fail_if_success (go_big_may)); (go_step)))
      repeat' (first | go_skip | (((with_reducible refine Sl.k_guard ?_; ((refine Sl.guard_yes rfl ?_)))) <;> (try refine nY ?_)) | (((with_reducible refine Sl.k_call ?_; (first | (refine s_call (cF1 _ hst _ hcl) inX rfl ?_; clear hst; rintro v w ⟨rfl, hst⟩) | (refine s_call (cF2 _ hst _ hcl) inX rfl ?_; clear hst; rintro v w ⟨rfl, hst⟩)))) <;> (try refine nY ?_) <;> (try replace hst := nH hst)) | ((fail_if_success (go_big_may)); (go_step)) | (((with_reducible refine Sl.k_load ?_; ((refine s_ex hst (qt_ldp evX asX inX) ?_; rintro v ⟨cl, rfl, hcl⟩)))) <;> (try refine nY ?_)) | (with_reducible refine Sl.gate rfl ?_; (go_step)))
      go_ret
      exact ⟨_, rfl, rfl, St.weaken hle hst⟩
    | true =>
      by_cases hl1 : r.1.2.2.2.1.length ≤ 20
      · by_cases hl2 : s.1.2.2.2.1.length ≤ 20
        · cases z3 with
          | false =>
            go_enter Tryd.func4, Tryd.ntmps4
            repeat' ((fail_if_success (with_reducible show Code.wp _ (Code.region 1 _ _) _ _ _)); first | ((fail_if_success (go_big_may)); (go_step)) | (((((refine s_box hst evX rfl ?_; clear hst; intro bx w hst)))) <;> (try refine nY ?_) <;> (try replace hst := nH hst)))
            obtain ⟨S1, hS1, hstA, hp⟩ := pt_box (α := SIn) hst hR (Rep.len hR)
            clear hst
            have hst := hstA
            clear hstA
            replace hG := hG.mono hS1
            repeat' ((fail_if_success (with_reducible show Code.wp _ (Code.region 2 _ _) _ _ _)); first | (((with_reducible (refine Sl.k_field ?_; (refine s_ex hst (qt_fieldp evX hp inX inX rfl) ?_); rintro vf hpf))) <;> (try refine nY ?_)) | ((fail_if_success (go_big_may)); (go_step)) | (((with_reducible refine Sl.k_load ?_; ((refine s_ex hst (qt_ldp evX asX inX) ?_; rintro v ⟨cl, rfl, hcl⟩)))) <;> (try refine nY ?_)) | ((((first | (with_reducible refine Sl.k_store ?_; (refine s_stR hst rfl BoxIn.h evX asX inX rfl rfl ?_); clear hst; intro w hst) | (refine s_alloc hst inX ?_; clear hst; intro bk w hst)))) <;> (try refine nY ?_) <;> (try replace hst := nH hst)))
            obtain ⟨S2, hS2, hstA, hpu⟩ := pt_box (α := BU) hst hcl (Rep.len hcl)
            clear hst hcl
            have hst := hstA
            clear hstA
            replace hp := hp.mono hS2
            replace hG := hG.mono hS2
            repeat' ((fail_if_success (with_reducible show Code.wp _ (Code.region 3 _ _) _ _ _)); first | (((with_reducible (refine Sl.k_field ?_; (refine s_ex hst (qt_fieldp evX hp inX inX rfl) ?_); rintro vf hpf))) <;> (try refine nY ?_)) | ((fail_if_success (go_big_may)); (go_step)) | (((with_reducible refine Sl.k_load ?_; ((refine s_ex hst (qt_ldp evX asX inX) ?_; rintro v ⟨cl, rfl, hcl⟩)))) <;> (try refine nY ?_)) | ((((first | (with_reducible refine Sl.k_store ?_; (refine s_stR hst rfl BoxIn.h evX asX inX rfl rfl ?_); clear hst; intro w hst) | (refine s_alloc hst inX ?_; clear hst; intro bk w hst)))) <;> (try refine nY ?_) <;> (try replace hst := nH hst)))
            obtain ⟨S3, hS3, hstA, hpv⟩ := pt_box (α := BU) hst hcl (Rep.len hcl)
            clear hst hcl
            have hst := hstA
            clear hstA
            replace hp := hp.mono hS3
            replace hG := hG.mono hS3
            replace hpu := hpu.mono hS3
            repeat' ((fail_if_success (with_reducible show Code.wp _ (Code.region 4 _ _) _ _ _)); first | (((with_reducible (refine Sl.k_field ?_; (refine s_ex hst (qt_fieldp evX hp inX inX rfl) ?_); rintro vf hpf))) <;> (try refine nY ?_)) | ((fail_if_success (go_big_may)); (go_step)) | (((with_reducible refine Sl.k_load ?_; ((refine s_ex hst (qt_ldp evX asX inX) ?_; rintro v ⟨cl, rfl, hcl⟩)))) <;> (try refine nY ?_)) | ((((first | (with_reducible refine Sl.k_store ?_; (refine s_stR hst rfl BoxIn.h evX asX inX rfl rfl ?_); clear hst; intro w hst) | (refine s_alloc hst inX ?_; clear hst; intro bk w hst)))) <;> (try refine nY ?_) <;> (try replace hst := nH hst)))
            obtain ⟨S4, hS4, hstA, hpr⟩ := pt_box (α := RO) hst hcl (Rep.len hcl)
            clear hst hcl
            have hst := hstA
            clear hstA
            replace hp := hp.mono hS4
            replace hG := hG.mono hS4
            replace hpu := hpu.mono hS4
            replace hpv := hpv.mono hS4
            repeat' ((fail_if_success (with_reducible show Code.wp _ (Code.region 5 _ _) _ _ _)); first | (((with_reducible (refine Sl.k_field ?_; (refine s_ex hst (qt_fieldp evX hp inX inX rfl) ?_); rintro vf hpf))) <;> (try refine nY ?_)) | ((fail_if_success (go_big_may)); (go_step)) | (((with_reducible refine Sl.k_load ?_; ((refine s_ex hst (qt_ldp evX asX inX) ?_; rintro v ⟨cl, rfl, hcl⟩)))) <;> (try refine nY ?_)) | ((((first | (with_reducible refine Sl.k_store ?_; (refine s_stR hst rfl BoxIn.h evX asX inX rfl rfl ?_); clear hst; intro w hst) | (refine s_alloc hst inX ?_; clear hst; intro bk w hst)))) <;> (try refine nY ?_) <;> (try replace hst := nH hst)))
            obtain ⟨S5, hS5, hstA, hps⟩ := pt_box (α := RO) hst hcl (Rep.len hcl)
            clear hst hcl
            have hst := hstA
            clear hstA
            replace hp := hp.mono hS5
            replace hG := hG.mono hS5
            replace hpu := hpu.mono hS5
            replace hpv := hpv.mono hS5
            replace hpr := hpr.mono hS5
            have hle : S.Le S5 := hS1.trans (hS2.trans (hS3.trans (hS4.trans hS5)))
            clear hp hS1 hS2 hS3 hS4 hS5
            repeat' ((fail_if_success (with_reducible show Code.wp _ (Code.region 6 _ _) _ _ _)); first | (((with_reducible refine Sl.k_call ?_; ((refine s_call (msanity_c _ hst hG) inX rfl ?_; clear hst; rintro v w ⟨rfl, hst⟩)))) <;> (try refine nY ?_) <;> (try replace hst := nH hst)) | ((fail_if_success (go_big_may)); (go_step)))
            repeat' (first | go_skip | ((first | (with_reducible (refine Sl.k_field ?_; (first | refine s_ex hst (qt_fieldp evX hpr inX inX rfl) ?_ | refine s_ex hst (qt_fieldp evX hps inX inX rfl) ?_); rintro vf hpf)) | (with_reducible (refine Sl.k_build ?_; with_unfolding_all refine s_ex hst (qt_buildP (x' := buS r.2.1) inX inX r_zBU (.cons (k := 1) (y := r.2.1) (r_listc hvl) rfl .nil)) ?_; rintro vz ⟨cz, rfl, hcz⟩)) | (with_reducible refine Sl.k_guard ?_; (first | (refine Sl.guard_yes rfl ?_) | (refine Sl.guard_cases rfl ?_ ?_ <;> intro hg <;> first | (exfalso; simp only [decide_eq_true_eq, decide_eq_false_iff_not, Bool.not_false, Bool.not_true, beq_iff_eq, beq_eq_false_iff_ne, ne_eq] at hg; omega) | (simp only [hg, Bool.not_true, Bool.not_false])) <;> (try simp only [decide_eq_true_eq, decide_eq_false_iff_not, Bool.not_false, Bool.not_true, beq_iff_eq, beq_eq_false_iff_ne, bne_iff_ne, bne_eq_false_iff_eq, ne_eq] at hg)))) <;> (try refine nY ?_)) | (((with_reducible refine Sl.k_call ?_; (first | (refine s_call (cF1 _ hst _ hcl) inX rfl ?_; clear hst; rintro v w ⟨rfl, hst⟩) | (refine s_call (cF2 _ hst _ hcl) inX rfl ?_; clear hst; rintro v w ⟨rfl, hst⟩) | (refine s_call (cF3 _ hst _ hcz) inX rfl ?_; clear hst; rintro v w ⟨rfl, hst⟩)))) <;> (try refine nY ?_) <;> (try replace hst := nH hst)) | ((fail_if_success (go_big_may)); (go_step)) | ((first | (with_reducible refine Sl.k_load ?_; (first | (refine s_ex hst (qt_ldp_list evX asX inX) ?_; rintro v ⟨hvl, hv1⟩) | (refine s_ex hst (qt_ldp evX asX inX) ?_; rintro v ⟨cl, rfl, hcl⟩))) | (with_reducible refine Sl.k_field ?_; (((refine s_ex hst (qt_fieldp evX asX inX inX rfl) ?_); rintro v hp; (try simp only [Int.toNat_natCast, Int.toNat_natCast_add_one, Int.reduceToNat] at hp)))) | (with_reducible refine Sl.k_call ?_; (refine s_qt hst (by exact qt_len evX asX inX) ?_))) <;> (try refine nY ?_)) | (with_reducible refine Sl.gate rfl ?_; (go_step)))
            go_ret
            exact ⟨_, rfl, rfl, St.weaken hle hst⟩
          | true =>
            cases z4 with
            | false =>
              go_enter Tryd.func4, Tryd.ntmps4
              repeat' ((fail_if_success (with_reducible show Code.wp _ (Code.region 1 _ _) _ _ _)); first | ((fail_if_success (go_big_may)); (go_step)) | (((((refine s_box hst evX rfl ?_; clear hst; intro bx w hst)))) <;> (try refine nY ?_) <;> (try replace hst := nH hst)))
              obtain ⟨S1, hS1, hstA, hp⟩ := pt_box (α := SIn) hst hR (Rep.len hR)
              clear hst
              have hst := hstA
              clear hstA
              replace hG := hG.mono hS1
              repeat' ((fail_if_success (with_reducible show Code.wp _ (Code.region 2 _ _) _ _ _)); first | (((with_reducible (refine Sl.k_field ?_; (refine s_ex hst (qt_fieldp evX hp inX inX rfl) ?_); rintro vf hpf))) <;> (try refine nY ?_)) | ((fail_if_success (go_big_may)); (go_step)) | (((with_reducible refine Sl.k_load ?_; ((refine s_ex hst (qt_ldp evX asX inX) ?_; rintro v ⟨cl, rfl, hcl⟩)))) <;> (try refine nY ?_)) | ((((first | (with_reducible refine Sl.k_store ?_; (refine s_stR hst rfl BoxIn.h evX asX inX rfl rfl ?_); clear hst; intro w hst) | (refine s_alloc hst inX ?_; clear hst; intro bk w hst)))) <;> (try refine nY ?_) <;> (try replace hst := nH hst)))
              obtain ⟨S2, hS2, hstA, hpu⟩ := pt_box (α := BU) hst hcl (Rep.len hcl)
              clear hst hcl
              have hst := hstA
              clear hstA
              replace hp := hp.mono hS2
              replace hG := hG.mono hS2
              repeat' ((fail_if_success (with_reducible show Code.wp _ (Code.region 3 _ _) _ _ _)); first | (((with_reducible (refine Sl.k_field ?_; (refine s_ex hst (qt_fieldp evX hp inX inX rfl) ?_); rintro vf hpf))) <;> (try refine nY ?_)) | ((fail_if_success (go_big_may)); (go_step)) | (((with_reducible refine Sl.k_load ?_; ((refine s_ex hst (qt_ldp evX asX inX) ?_; rintro v ⟨cl, rfl, hcl⟩)))) <;> (try refine nY ?_)) | ((((first | (with_reducible refine Sl.k_store ?_; (refine s_stR hst rfl BoxIn.h evX asX inX rfl rfl ?_); clear hst; intro w hst) | (refine s_alloc hst inX ?_; clear hst; intro bk w hst)))) <;> (try refine nY ?_) <;> (try replace hst := nH hst)))
              obtain ⟨S3, hS3, hstA, hpv⟩ := pt_box (α := BU) hst hcl (Rep.len hcl)
              clear hst hcl
              have hst := hstA
              clear hstA
              replace hp := hp.mono hS3
              replace hG := hG.mono hS3
              replace hpu := hpu.mono hS3
              repeat' ((fail_if_success (with_reducible show Code.wp _ (Code.region 4 _ _) _ _ _)); first | (((with_reducible (refine Sl.k_field ?_; (refine s_ex hst (qt_fieldp evX hp inX inX rfl) ?_); rintro vf hpf))) <;> (try refine nY ?_)) | ((fail_if_success (go_big_may)); (go_step)) | (((with_reducible refine Sl.k_load ?_; ((refine s_ex hst (qt_ldp evX asX inX) ?_; rintro v ⟨cl, rfl, hcl⟩)))) <;> (try refine nY ?_)) | ((((first | (with_reducible refine Sl.k_store ?_; (refine s_stR hst rfl BoxIn.h evX asX inX rfl rfl ?_); clear hst; intro w hst) | (refine s_alloc hst inX ?_; clear hst; intro bk w hst)))) <;> (try refine nY ?_) <;> (try replace hst := nH hst)))
              obtain ⟨S4, hS4, hstA, hpr⟩ := pt_box (α := RO) hst hcl (Rep.len hcl)
              clear hst hcl
              have hst := hstA
              clear hstA
              replace hp := hp.mono hS4
              replace hG := hG.mono hS4
              replace hpu := hpu.mono hS4
              replace hpv := hpv.mono hS4
              repeat' ((fail_if_success (with_reducible show Code.wp _ (Code.region 5 _ _) _ _ _)); first | (((with_reducible (refine Sl.k_field ?_; (refine s_ex hst (qt_fieldp evX hp inX inX rfl) ?_); rintro vf hpf))) <;> (try refine nY ?_)) | ((fail_if_success (go_big_may)); (go_step)) | (((with_reducible refine Sl.k_load ?_; ((refine s_ex hst (qt_ldp evX asX inX) ?_; rintro v ⟨cl, rfl, hcl⟩)))) <;> (try refine nY ?_)) | ((((first | (with_reducible refine Sl.k_store ?_; (refine s_stR hst rfl BoxIn.h evX asX inX rfl rfl ?_); clear hst; intro w hst) | (refine s_alloc hst inX ?_; clear hst; intro bk w hst)))) <;> (try refine nY ?_) <;> (try replace hst := nH hst)))
              obtain ⟨S5, hS5, hstA, hps⟩ := pt_box (α := RO) hst hcl (Rep.len hcl)
              clear hst hcl
              have hst := hstA
              clear hstA
              replace hp := hp.mono hS5
              replace hG := hG.mono hS5
              replace hpu := hpu.mono hS5
              replace hpv := hpv.mono hS5
              replace hpr := hpr.mono hS5
              have hle : S.Le S5 := hS1.trans (hS2.trans (hS3.trans (hS4.trans hS5)))
              clear hp hS1 hS2 hS3 hS4 hS5
              repeat' ((fail_if_success (with_reducible show Code.wp _ (Code.region 6 _ _) _ _ _)); first | (((with_reducible refine Sl.k_call ?_; ((refine s_call (msanity_c _ hst hG) inX rfl ?_; clear hst; rintro v w ⟨rfl, hst⟩)))) <;> (try refine nY ?_) <;> (try replace hst := nH hst)) | ((fail_if_success (go_big_may)); (go_step)))
              repeat' (first | ((first | (with_reducible (refine Sl.k_field ?_; (first | refine s_ex hst (qt_fieldp evX hpr inX inX rfl) ?_ | refine s_ex hst (qt_fieldp evX hps inX inX rfl) ?_); rintro vf hpf)) | (with_reducible (refine Sl.k_build ?_; with_unfolding_all refine s_ex hst (qt_buildP (x' := buS r.2.1) inX inX r_zBU (.cons (k := 1) (y := r.2.1) (r_listc hvl) rfl .nil)) ?_; rintro vz ⟨cz, rfl, hcz⟩)) | (with_reducible (refine Sl.k_build ?_; with_unfolding_all refine s_ex hst (qt_buildP (x' := buS s.2.1) inX inX r_zBU (.cons (k := 1) (y := s.2.1) (r_listc hvl) rfl .nil)) ?_; rintro vz ⟨cz, rfl, hcz⟩)) | (with_reducible refine Sl.k_guard ?_; (first | (refine Sl.guard_yes rfl ?_) | (refine Sl.guard_cases rfl ?_ ?_ <;> intro hg <;> first | (exfalso; simp only [decide_eq_true_eq, decide_eq_false_iff_not, Bool.not_false, Bool.not_true, beq_iff_eq, beq_eq_false_iff_ne, ne_eq] at hg; omega) | (simp only [hg, Bool.not_true, Bool.not_false])) <;> (try simp only [decide_eq_true_eq, decide_eq_false_iff_not, Bool.not_false, Bool.not_true, beq_iff_eq, beq_eq_false_iff_ne, bne_iff_ne, bne_eq_false_iff_eq, ne_eq] at hg)))) <;> (try refine nY ?_)) | (((with_reducible refine Sl.k_call ?_; (first | (refine s_call (cF1 _ hst _ hcl) inX rfl ?_; clear hst; rintro v w ⟨rfl, hst⟩) | (refine s_call (cF2 _ hst _ hcl) inX rfl ?_; clear hst; rintro v w ⟨rfl, hst⟩) | (refine s_call (cF3 _ hst _ hcz) inX rfl ?_; clear hst; rintro v w ⟨rfl, hst⟩) | (refine s_call (cF4 _ hst _ hcz) inX rfl ?_; clear hst; rintro v w ⟨rfl, hst⟩)))) <;> (try refine nY ?_) <;> (try replace hst := nH hst)) | ((fail_if_success (go_big_may)); (go_step)) | ((first | (with_reducible refine Sl.k_load ?_; (first | (refine s_ex hst (qt_ldp_list evX asX inX) ?_; rintro v ⟨hvl, hv1⟩) | (refine s_ex hst (qt_ldp evX asX inX) ?_; rintro v ⟨cl, rfl, hcl⟩))) | (with_reducible refine Sl.k_field ?_; (((refine s_ex hst (qt_fieldp evX asX inX inX rfl) ?_); rintro v hp; (try simp only [Int.toNat_natCast, Int.toNat_natCast_add_one, Int.reduceToNat] at hp)))) | (with_reducible refine Sl.k_call ?_; (refine s_qt hst (by exact qt_len evX asX inX) ?_))) <;> (try refine nY ?_)) | (with_reducible refine Sl.gate rfl ?_; (go_step)))
              go_ret
              exact ⟨_, rfl, rfl, St.weaken hle hst⟩
            | true =>
              have ku : BuOk u := bu_ok pu hz1
              have kv : BuOk v := bu_ok pv hz2
              have kr : RoOk r := ro_ok pr hl1 hz3
              have ks : RoOk s := ro_ok ps hl2 hz4
              clear pu pv pr ps hz1 hz2 hz3 hz4
              have q1 : decide (encMF u.1 = encMF v.1) = decide (u.1 = v.1) := decide_eq_decide.2 (enc_inj mf_codec ku.okm kv.okm)
              have q2 : decide (encBU u = encBU v) = decide (u = v) := decide_eq_decide.2 (enc_inj bu_codec ku.okb kv.okb)
              have q3 : decide (encMF r.1 = encMF s.1) = decide (r.1 = s.1) := decide_eq_decide.2 (enc_inj mf_codec kr.okm ks.okm)
              have q4 : decide (encRO r = encRO s) = decide (r = s) := decide_eq_decide.2 (enc_inj ro_codec kr.okr ks.okr)
              have cMu := fun {S S' : Snap} {M : List Chunk} (w : World) (hS : S.Le S') (hst : St S' M w) (cs : List Value) (hR : Rep.R S cs u.1) => encode_c w hst cs u.1 (Rep.mono hS hR) (by have := ku.bm; omega)
              have cBu := fun {S S' : Snap} {M : List Chunk} (w : World) (hS : S.Le S') (hst : St S' M w) (cs : List Value) (hR : Rep.R S cs u) => encBU_c w hst cs u (Rep.mono hS hR) (by have := ku.few.b; omega) (by have := ku.few.c; omega) (by have := ku.bb; omega)
              have cMv := fun {S S' : Snap} {M : List Chunk} (w : World) (hS : S.Le S') (hst : St S' M w) (cs : List Value) (hR : Rep.R S cs v.1) => encode_c w hst cs v.1 (Rep.mono hS hR) (by have := kv.bm; omega)
              have cBv := fun {S S' : Snap} {M : List Chunk} (w : World) (hS : S.Le S') (hst : St S' M w) (cs : List Value) (hR : Rep.R S cs v) => encBU_c w hst cs v (Rep.mono hS hR) (by have := kv.few.b; omega) (by have := kv.few.c; omega) (by have := kv.bb; omega)
              have cKr := fun {S S' : Snap} {M : List Chunk} (w : World) (hS : S.Le S') (hst : St S' M w) (cs : List Value) (hR : Rep.R S cs r.1) => encodeK_c w hst cs r.1 (Rep.mono hS hR) (by have := kr.bm; omega)
              have cRr := fun {S S' : Snap} {M : List Chunk} (w : World) (hS : S.Le S') (hst : St S' M w) (cs : List Value) (hR : Rep.R S cs r) => encRO_c w hst cs r (Rep.mono hS hR) (by have := kr.b; omega) (by have := kr.bb; omega)
              have cKs := fun {S S' : Snap} {M : List Chunk} (w : World) (hS : S.Le S') (hst : St S' M w) (cs : List Value) (hR : Rep.R S cs s.1) => encodeK_c w hst cs s.1 (Rep.mono hS hR) (by have := ks.bm; omega)
              have cRs := fun {S S' : Snap} {M : List Chunk} (w : World) (hS : S.Le S') (hst : St S' M w) (cs : List Value) (hR : Rep.R S cs s) => encRO_c w hst cs s (Rep.mono hS hR) (by have := ks.b; omega) (by have := ks.bb; omega)
              have cS1 := fun {S : Snap} {M : List Chunk} (w : World) (hst : St S M w) (ca cb : List Value) (h1 : Rep.R S ca u.1) (h2 : Rep.R S cb v.1) => sameM_c w hst ca cb _ _ h1 h2 (by have := ku.few.a; omega)
              have cS2 := fun {S : Snap} {M : List Chunk} (w : World) (hst : St S M w) (ca cb : List Value) (h1 : Rep.R S ca u) (h2 : Rep.R S cb v) => sameB_c w hst ca cb _ _ h1 h2 (by have := ku.few.a; omega) ku.len (by have := ku.few.b; omega) (by have := ku.few.c; omega)
              have cS3 := fun {S : Snap} {M : List Chunk} (w : World) (hst : St S M w) (ca cb : List Value) (h1 : Rep.R S ca r.1) (h2 : Rep.R S cb s.1) => sameK_c w hst ca cb _ _ h1 h2 (by omega)
              have cS4 := fun {S : Snap} {M : List Chunk} (w : World) (hst : St S M w) (ca cb : List Value) (h1 : Rep.R S ca r) (h2 : Rep.R S cb s) => sameR_c w hst ca cb _ _ h1 h2 (by omega) kr.len (by have := kr.b; omega)
              generalize decide (u.1 = v.1) = d1 at *
              generalize decide (u = v) = d2 at *
              generalize decide (r.1 = s.1) = d3 at *
              generalize decide (r = s) = d4 at *
              generalize encMF u.1 = x1 at *
              generalize encMF v.1 = x2 at *
              generalize encBU u = x3 at *
              generalize encBU v = x4 at *
              generalize encMF r.1 = x5 at *
              generalize encMF s.1 = x6 at *
              generalize encRO r = x7 at *
              generalize encRO s = x8 at *
              clear ku kv kr ks
              go_enter Tryd.func4, Tryd.ntmps4
              repeat' ((fail_if_success (with_reducible show Code.wp _ (Code.region 1 _ _) _ _ _)); first | ((fail_if_success (go_big_may)); (go_step)) | (((((refine s_box hst evX rfl ?_; clear hst; intro bx w hst)))) <;> (try refine nY ?_) <;> (try replace hst := nH hst)))
              obtain ⟨S1, hS1, hstA, hp⟩ := pt_box (α := SIn) hst hR (Rep.len hR)
              clear hst
              have hst := hstA
              clear hstA
              replace hG := hG.mono hS1
              repeat' ((fail_if_success (with_reducible show Code.wp _ (Code.region 2 _ _) _ _ _)); first | (((with_reducible (refine Sl.k_field ?_; (refine s_ex hst (qt_fieldp evX hp inX inX rfl) ?_); rintro vf hpf))) <;> (try refine nY ?_)) | ((fail_if_success (go_big_may)); (go_step)) | (((with_reducible refine Sl.k_load ?_; ((refine s_ex hst (qt_ldp evX asX inX) ?_; rintro v ⟨cl, rfl, hcl⟩)))) <;> (try refine nY ?_)) | ((((first | (with_reducible refine Sl.k_store ?_; (refine s_stR hst rfl BoxIn.h evX asX inX rfl rfl ?_); clear hst; intro w hst) | (refine s_alloc hst inX ?_; clear hst; intro bk w hst)))) <;> (try refine nY ?_) <;> (try replace hst := nH hst)))
              obtain ⟨S2, hS2, hstA, hpu⟩ := pt_box (α := BU) hst hcl (Rep.len hcl)
              clear hst hcl
              have hst := hstA
              clear hstA
              replace hp := hp.mono hS2
              replace hG := hG.mono hS2
              repeat' ((fail_if_success (with_reducible show Code.wp _ (Code.region 3 _ _) _ _ _)); first | (((with_reducible (refine Sl.k_field ?_; (refine s_ex hst (qt_fieldp evX hp inX inX rfl) ?_); rintro vf hpf))) <;> (try refine nY ?_)) | ((fail_if_success (go_big_may)); (go_step)) | (((with_reducible refine Sl.k_load ?_; ((refine s_ex hst (qt_ldp evX asX inX) ?_; rintro v ⟨cl, rfl, hcl⟩)))) <;> (try refine nY ?_)) | ((((first | (with_reducible refine Sl.k_store ?_; (refine s_stR hst rfl BoxIn.h evX asX inX rfl rfl ?_); clear hst; intro w hst) | (refine s_alloc hst inX ?_; clear hst; intro bk w hst)))) <;> (try refine nY ?_) <;> (try replace hst := nH hst)))
              obtain ⟨S3, hS3, hstA, hpv⟩ := pt_box (α := BU) hst hcl (Rep.len hcl)
              clear hst hcl
              have hst := hstA
              clear hstA
              replace hp := hp.mono hS3
              replace hG := hG.mono hS3
              replace hpu := hpu.mono hS3
              repeat' ((fail_if_success (with_reducible show Code.wp _ (Code.region 4 _ _) _ _ _)); first | (((with_reducible (refine Sl.k_field ?_; (refine s_ex hst (qt_fieldp evX hp inX inX rfl) ?_); rintro vf hpf))) <;> (try refine nY ?_)) | ((fail_if_success (go_big_may)); (go_step)) | (((with_reducible refine Sl.k_load ?_; ((refine s_ex hst (qt_ldp evX asX inX) ?_; rintro v ⟨cl, rfl, hcl⟩)))) <;> (try refine nY ?_)) | ((((first | (with_reducible refine Sl.k_store ?_; (refine s_stR hst rfl BoxIn.h evX asX inX rfl rfl ?_); clear hst; intro w hst) | (refine s_alloc hst inX ?_; clear hst; intro bk w hst)))) <;> (try refine nY ?_) <;> (try replace hst := nH hst)))
              obtain ⟨S4, hS4, hstA, hpr⟩ := pt_box (α := RO) hst hcl (Rep.len hcl)
              clear hst hcl
              have hst := hstA
              clear hstA
              replace hp := hp.mono hS4
              replace hG := hG.mono hS4
              replace hpu := hpu.mono hS4
              replace hpv := hpv.mono hS4
              repeat' ((fail_if_success (with_reducible show Code.wp _ (Code.region 5 _ _) _ _ _)); first | (((with_reducible (refine Sl.k_field ?_; (refine s_ex hst (qt_fieldp evX hp inX inX rfl) ?_); rintro vf hpf))) <;> (try refine nY ?_)) | ((fail_if_success (go_big_may)); (go_step)) | (((with_reducible refine Sl.k_load ?_; ((refine s_ex hst (qt_ldp evX asX inX) ?_; rintro v ⟨cl, rfl, hcl⟩)))) <;> (try refine nY ?_)) | ((((first | (with_reducible refine Sl.k_store ?_; (refine s_stR hst rfl BoxIn.h evX asX inX rfl rfl ?_); clear hst; intro w hst) | (refine s_alloc hst inX ?_; clear hst; intro bk w hst)))) <;> (try refine nY ?_) <;> (try replace hst := nH hst)))
              obtain ⟨S5, hS5, hstA, hps⟩ := pt_box (α := RO) hst hcl (Rep.len hcl)
              clear hst hcl
              have hst := hstA
              clear hstA
              replace hp := hp.mono hS5
              replace hG := hG.mono hS5
              replace hpu := hpu.mono hS5
              replace hpv := hpv.mono hS5
              replace hpr := hpr.mono hS5
              have hle : S.Le S5 := hS1.trans (hS2.trans (hS3.trans (hS4.trans hS5)))
              clear hp hS1 hS2 hS3 hS4 hS5
              repeat' ((fail_if_success (with_reducible show Code.wp _ (Code.region 6 _ _) _ _ _)); first | (((with_reducible refine Sl.k_call ?_; ((refine s_call (msanity_c _ hst hG) inX rfl ?_; clear hst; rintro v w ⟨rfl, hst⟩)))) <;> (try refine nY ?_) <;> (try replace hst := nH hst)) | ((fail_if_success (go_big_may)); (go_step)))
              repeat' ((fail_if_success (with_reducible show Code.wp _ (Code.region 8 _ _) _ _ _)); first | ((first | (with_reducible (refine Sl.k_field ?_; (first | refine s_ex hst (qt_fieldp evX hpr inX inX rfl) ?_ | refine s_ex hst (qt_fieldp evX hps inX inX rfl) ?_); rintro vf hpf)) | (with_reducible (refine Sl.k_build ?_; with_unfolding_all refine s_ex hst (qt_buildP (x' := buS r.2.1) inX inX r_zBU (.cons (k := 1) (y := r.2.1) (r_listc hvl) rfl .nil)) ?_; rintro vz ⟨cz, rfl, hcz⟩)) | (with_reducible (refine Sl.k_build ?_; with_unfolding_all refine s_ex hst (qt_buildP (x' := buS s.2.1) inX inX r_zBU (.cons (k := 1) (y := s.2.1) (r_listc hvl) rfl .nil)) ?_; rintro vz ⟨cz, rfl, hcz⟩)) | (with_reducible refine Sl.k_guard ?_; (first | (refine Sl.guard_yes rfl ?_) | (refine Sl.guard_cases rfl ?_ ?_ <;> intro hg <;> first | (exfalso; simp only [decide_eq_true_eq, decide_eq_false_iff_not, Bool.not_false, Bool.not_true, beq_iff_eq, beq_eq_false_iff_ne, ne_eq] at hg; omega) | (simp only [hg, Bool.not_true, Bool.not_false])) <;> (try simp only [decide_eq_true_eq, decide_eq_false_iff_not, Bool.not_false, Bool.not_true, beq_iff_eq, beq_eq_false_iff_ne, bne_iff_ne, bne_eq_false_iff_eq, ne_eq] at hg)))) <;> (try refine nY ?_)) | (((with_reducible refine Sl.k_call ?_; (first | (refine s_call (cF1 _ hst _ hcl) inX rfl ?_; clear hst; rintro v w ⟨rfl, hst⟩) | (refine s_call (cF2 _ hst _ hcl) inX rfl ?_; clear hst; rintro v w ⟨rfl, hst⟩) | (refine s_call (cF3 _ hst _ hcz) inX rfl ?_; clear hst; rintro v w ⟨rfl, hst⟩) | (refine s_call (cF4 _ hst _ hcz) inX rfl ?_; clear hst; rintro v w ⟨rfl, hst⟩)))) <;> (try refine nY ?_) <;> (try replace hst := nH hst)) | ((fail_if_success (go_big_may)); (go_step)) | ((first | (with_reducible refine Sl.k_load ?_; (first | (refine s_ex hst (qt_ldp_list evX asX inX) ?_; rintro v ⟨hvl, hv1⟩) | (refine s_ex hst (qt_ldp evX asX inX) ?_; rintro v ⟨cl, rfl, hcl⟩))) | (with_reducible refine Sl.k_field ?_; (((refine s_ex hst (qt_fieldp evX asX inX inX rfl) ?_); rintro v hp; (try simp only [Int.toNat_natCast, Int.toNat_natCast_add_one, Int.reduceToNat] at hp)))) | (with_reducible refine Sl.k_call ?_; (refine s_qt hst (by exact qt_len evX asX inX) ?_))) <;> (try refine nY ?_)) | (with_reducible refine Sl.gate rfl ?_; (go_step)))
              refine v_begin hst (by kernel_rfl) ?_; clear hst; intro ops; (try refine nY ?_)
              ((refine t_ex0 0 rfl (by kernel_rfl) rfl rfl (qt_fieldp evX hpu inX inX rfl ) ?_; rintro  v0 hp0)) <;> (try refine nY ?_)
              ((refine t_ex0 1 rfl (by kernel_rfl) rfl rfl (qt_ldp evX hp0 inX ) ?_; rintro  v1 ⟨c1, rfl, hc1⟩)) <;> (try refine nY ?_)
              (refine t_call 2 rfl (by kernel_rfl) rfl (fun S' M' w hS hM hst => cMu w hS hst c1 hc1) inX rfl ?_) <;> (try refine nY ?_)
              ((refine t_ex0 3 rfl (by kernel_rfl) rfl rfl (qt_fieldp evX hpv inX inX rfl ) ?_; rintro  v3 hp3)) <;> (try refine nY ?_)
              ((refine t_ex0 4 rfl (by kernel_rfl) rfl rfl (qt_ldp evX hp3 inX ) ?_; rintro  v4 ⟨c4, rfl, hc4⟩)) <;> (try refine nY ?_)
              (refine t_call 5 rfl (by kernel_rfl) rfl (fun S' M' w hS hM hst => cMv w hS hst c4 hc4) inX rfl ?_) <;> (try refine nY ?_)
              (refine t_qt 6 rfl (by kernel_rfl) rfl rfl (qt_eql_str rfl rfl inX q1) ?_) <;> (try refine nY ?_)
              (refine t_qt 7 rfl (by kernel_rfl) rfl rfl (by exact qt_assign evX) ?_) <;> (try refine nY ?_)
              refine v_done (by kernel_rfl) ?_; clear ops; intro w hst
              repeat' ((fail_if_success (with_reducible show Code.wp _ (Code.region 9 _ _) _ _ _)); ((fail_if_success (go_big_may)); (go_step)))
              refine v_begin hst (by kernel_rfl) ?_; clear hst; intro ops; (try refine nY ?_)
              ((refine t_ex0 0 rfl (by kernel_rfl) rfl rfl (qt_ldp evX hpu inX ) ?_; rintro  v0 ⟨c0, rfl, hc0⟩)) <;> (try refine nY ?_)
              (refine t_call 1 rfl (by kernel_rfl) rfl (fun S' M' w hS hM hst => cBu w hS hst c0 hc0) inX rfl ?_) <;> (try refine nY ?_)
              ((refine t_ex0 2 rfl (by kernel_rfl) rfl rfl (qt_ldp evX hpv inX ) ?_; rintro  v2 ⟨c2, rfl, hc2⟩)) <;> (try refine nY ?_)
              (refine t_call 3 rfl (by kernel_rfl) rfl (fun S' M' w hS hM hst => cBv w hS hst c2 hc2) inX rfl ?_) <;> (try refine nY ?_)
              (refine t_qt 4 rfl (by kernel_rfl) rfl rfl (qt_eql_str rfl rfl inX q2) ?_) <;> (try refine nY ?_)
              (refine t_qt 5 rfl (by kernel_rfl) rfl rfl (by exact qt_assign evX) ?_) <;> (try refine nY ?_)
              refine v_done (by kernel_rfl) ?_; clear ops; intro w hst
              repeat' ((fail_if_success (with_reducible show Code.wp _ (Code.region 10 _ _) _ _ _)); ((fail_if_success (go_big_may)); (go_step)))
              refine v_begin hst (by kernel_rfl) ?_; clear hst; intro ops; (try refine nY ?_)
              ((refine t_ex0 0 rfl (by kernel_rfl) rfl rfl (qt_fieldp evX hpr inX inX rfl ) ?_; rintro  v0 hp0)) <;> (try refine nY ?_)
              ((refine t_ex0 1 rfl (by kernel_rfl) rfl rfl (qt_ldp evX hp0 inX ) ?_; rintro  v1 ⟨c1, rfl, hc1⟩)) <;> (try refine nY ?_)
              (refine t_call 2 rfl (by kernel_rfl) rfl (fun S' M' w hS hM hst => cKr w hS hst c1 hc1) inX rfl ?_) <;> (try refine nY ?_)
              ((refine t_ex0 3 rfl (by kernel_rfl) rfl rfl (qt_fieldp evX hps inX inX rfl ) ?_; rintro  v3 hp3)) <;> (try refine nY ?_)
              ((refine t_ex0 4 rfl (by kernel_rfl) rfl rfl (qt_ldp evX hp3 inX ) ?_; rintro  v4 ⟨c4, rfl, hc4⟩)) <;> (try refine nY ?_)
              (refine t_call 5 rfl (by kernel_rfl) rfl (fun S' M' w hS hM hst => cKs w hS hst c4 hc4) inX rfl ?_) <;> (try refine nY ?_)
              (refine t_qt 6 rfl (by kernel_rfl) rfl rfl (qt_eql_str rfl rfl inX q3) ?_) <;> (try refine nY ?_)
              (refine t_qt 7 rfl (by kernel_rfl) rfl rfl (by exact qt_assign evX) ?_) <;> (try refine nY ?_)
              refine v_done (by kernel_rfl) ?_; clear ops; intro w hst
              repeat' ((fail_if_success (with_reducible show Code.wp _ (Code.region 11 _ _) _ _ _)); ((fail_if_success (go_big_may)); (go_step)))
              refine v_begin hst (by kernel_rfl) ?_; clear hst; intro ops; (try refine nY ?_)
              ((refine t_ex0 0 rfl (by kernel_rfl) rfl rfl (qt_ldp evX hpr inX ) ?_; rintro  v0 ⟨c0, rfl, hc0⟩)) <;> (try refine nY ?_)
              (refine t_call 1 rfl (by kernel_rfl) rfl (fun S' M' w hS hM hst => cRr w hS hst c0 hc0) inX rfl ?_) <;> (try refine nY ?_)
              ((refine t_ex0 2 rfl (by kernel_rfl) rfl rfl (qt_ldp evX hps inX ) ?_; rintro  v2 ⟨c2, rfl, hc2⟩)) <;> (try refine nY ?_)
              (refine t_call 3 rfl (by kernel_rfl) rfl (fun S' M' w hS hM hst => cRs w hS hst c2 hc2) inX rfl ?_) <;> (try refine nY ?_)
              (refine t_qt 4 rfl (by kernel_rfl) rfl rfl (qt_eql_str rfl rfl inX q4) ?_) <;> (try refine nY ?_)
              (refine t_qt 5 rfl (by kernel_rfl) rfl rfl (by exact qt_assign evX) ?_) <;> (try refine nY ?_)
              refine v_done (by kernel_rfl) ?_; clear ops; intro w hst
              repeat' ((fail_if_success (with_reducible show Code.wp _ (Code.region 12 _ _) _ _ _)); ((fail_if_success (go_big_may)); (go_step)))
              repeat' (first | ((first | (with_reducible (refine Sl.k_field ?_; (first | refine s_ex hst (qt_fieldp evX hpu inX inX rfl) ?_ | refine s_ex hst (qt_fieldp evX hpv inX inX rfl) ?_ | refine s_ex hst (qt_fieldp evX hpr inX inX rfl) ?_ | refine s_ex hst (qt_fieldp evX hps inX inX rfl) ?_); rintro vf hpf)) | (with_reducible refine Sl.k_bin ?_; ((refine s_qt hst (qt_eql_bself rfl rfl inX) ?_))) | (with_reducible refine Sl.k_guard ?_; ((refine Sl.guard_yes rfl ?_)))) <;> (try refine nY ?_)) | (((with_reducible refine Sl.k_call ?_; (first | (refine s_call (cS1 _ hst _ _ (by with_unfolding_all assumption) (by with_unfolding_all assumption)) inX rfl ?_; clear hst; rintro v w ⟨rfl, hst⟩) | (refine s_call (cS2 _ hst _ _ (by with_unfolding_all assumption) (by with_unfolding_all assumption)) inX rfl ?_; clear hst; rintro v w ⟨rfl, hst⟩) | (refine s_call (cS3 _ hst _ _ (by with_unfolding_all assumption) (by with_unfolding_all assumption)) inX rfl ?_; clear hst; rintro v w ⟨rfl, hst⟩) | (refine s_call (cS4 _ hst _ _ (by with_unfolding_all assumption) (by with_unfolding_all assumption)) inX rfl ?_; clear hst; rintro v w ⟨rfl, hst⟩)))) <;> (try refine nY ?_) <;> (try replace hst := nH hst)) | ((fail_if_success (go_big_may)); (go_step)) | (((with_reducible refine Sl.k_load ?_; ((refine s_ex hst (qt_ldp evX asX inX) ?_; rintro v ⟨cl, rfl, hcl⟩)))) <;> (try refine nY ?_)))
              go_ret
              exact ⟨_, rfl, rfl, St.weaken hle hst⟩
        · skip
          go_enter Tryd.func4, Tryd.ntmps4
          repeat' ((fail_if_success (with_reducible show Code.wp _ (Code.region 1 _ _) _ _ _)); first | ((fail_if_success (go_big_may)); (go_step)) | (((((refine s_box hst evX rfl ?_; clear hst; intro bx w hst)))) <;> (try refine nY ?_) <;> (try replace hst := nH hst)))
          obtain ⟨S1, hS1, hstA, hp⟩ := pt_box (α := SIn) hst hR (Rep.len hR)
          clear hst
          have hst := hstA
          clear hstA
          replace hG := hG.mono hS1
          repeat' ((fail_if_success (with_reducible show Code.wp _ (Code.region 2 _ _) _ _ _)); first | (((with_reducible (refine Sl.k_field ?_; (refine s_ex hst (qt_fieldp evX hp inX inX rfl) ?_); rintro vf hpf))) <;> (try refine nY ?_)) | ((fail_if_success (go_big_may)); (go_step)) | (((with_reducible refine Sl.k_load ?_; ((refine s_ex hst (qt_ldp evX asX inX) ?_; rintro v ⟨cl, rfl, hcl⟩)))) <;> (try refine nY ?_)) | ((((first | (with_reducible refine Sl.k_store ?_; (refine s_stR hst rfl BoxIn.h evX asX inX rfl rfl ?_); clear hst; intro w hst) | (refine s_alloc hst inX ?_; clear hst; intro bk w hst)))) <;> (try refine nY ?_) <;> (try replace hst := nH hst)))
          obtain ⟨S2, hS2, hstA, hpu⟩ := pt_box (α := BU) hst hcl (Rep.len hcl)
          clear hst hcl
          have hst := hstA
          clear hstA
          replace hp := hp.mono hS2
          replace hG := hG.mono hS2
          repeat' ((fail_if_success (with_reducible show Code.wp _ (Code.region 3 _ _) _ _ _)); first | (((with_reducible (refine Sl.k_field ?_; (refine s_ex hst (qt_fieldp evX hp inX inX rfl) ?_); rintro vf hpf))) <;> (try refine nY ?_)) | ((fail_if_success (go_big_may)); (go_step)) | (((with_reducible refine Sl.k_load ?_; ((refine s_ex hst (qt_ldp evX asX inX) ?_; rintro v ⟨cl, rfl, hcl⟩)))) <;> (try refine nY ?_)) | ((((first | (with_reducible refine Sl.k_store ?_; (refine s_stR hst rfl BoxIn.h evX asX inX rfl rfl ?_); clear hst; intro w hst) | (refine s_alloc hst inX ?_; clear hst; intro bk w hst)))) <;> (try refine nY ?_) <;> (try replace hst := nH hst)))
          obtain ⟨S3, hS3, hstA, hpv⟩ := pt_box (α := BU) hst hcl (Rep.len hcl)
          clear hst hcl
          have hst := hstA
          clear hstA
          replace hp := hp.mono hS3
          replace hG := hG.mono hS3
          replace hpu := hpu.mono hS3
          repeat' ((fail_if_success (with_reducible show Code.wp _ (Code.region 4 _ _) _ _ _)); first | (((with_reducible (refine Sl.k_field ?_; (refine s_ex hst (qt_fieldp evX hp inX inX rfl) ?_); rintro vf hpf))) <;> (try refine nY ?_)) | ((fail_if_success (go_big_may)); (go_step)) | (((with_reducible refine Sl.k_load ?_; ((refine s_ex hst (qt_ldp evX asX inX) ?_; rintro v ⟨cl, rfl, hcl⟩)))) <;> (try refine nY ?_)) | ((((first | (with_reducible refine Sl.k_store ?_; (refine s_stR hst rfl BoxIn.h evX asX inX rfl rfl ?_); clear hst; intro w hst) | (refine s_alloc hst inX ?_; clear hst; intro bk w hst)))) <;> (try refine nY ?_) <;> (try replace hst := nH hst)))
          obtain ⟨S4, hS4, hstA, hpr⟩ := pt_box (α := RO) hst hcl (Rep.len hcl)
          clear hst hcl
          have hst := hstA
          clear hstA
          replace hp := hp.mono hS4
          replace hG := hG.mono hS4
          replace hpu := hpu.mono hS4
          replace hpv := hpv.mono hS4
          repeat' ((fail_if_success (with_reducible show Code.wp _ (Code.region 5 _ _) _ _ _)); first | (((with_reducible (refine Sl.k_field ?_; (refine s_ex hst (qt_fieldp evX hp inX inX rfl) ?_); rintro vf hpf))) <;> (try refine nY ?_)) | ((fail_if_success (go_big_may)); (go_step)) | (((with_reducible refine Sl.k_load ?_; ((refine s_ex hst (qt_ldp evX asX inX) ?_; rintro v ⟨cl, rfl, hcl⟩)))) <;> (try refine nY ?_)) | ((((first | (with_reducible refine Sl.k_store ?_; (refine s_stR hst rfl BoxIn.h evX asX inX rfl rfl ?_); clear hst; intro w hst) | (refine s_alloc hst inX ?_; clear hst; intro bk w hst)))) <;> (try refine nY ?_) <;> (try replace hst := nH hst)))
          obtain ⟨S5, hS5, hstA, hps⟩ := pt_box (α := RO) hst hcl (Rep.len hcl)
          clear hst hcl
          have hst := hstA
          clear hstA
          replace hp := hp.mono hS5
          replace hG := hG.mono hS5
          replace hpu := hpu.mono hS5
          replace hpv := hpv.mono hS5
          replace hpr := hpr.mono hS5
          have hle : S.Le S5 := hS1.trans (hS2.trans (hS3.trans (hS4.trans hS5)))
          clear hp hS1 hS2 hS3 hS4 hS5
          repeat' ((fail_if_success (with_reducible show Code.wp _ (Code.region 6 _ _) _ _ _)); first | (((with_reducible refine Sl.k_call ?_; ((refine s_call (msanity_c _ hst hG) inX rfl ?_; clear hst; rintro v w ⟨rfl, hst⟩)))) <;> (try refine nY ?_) <;> (try replace hst := nH hst)) | ((fail_if_success (go_big_may)); (go_step)))
          repeat' (first | go_skip | ((first | (with_reducible (refine Sl.k_field ?_; (first | refine s_ex hst (qt_fieldp evX hpr inX inX rfl) ?_ | refine s_ex hst (qt_fieldp evX hps inX inX rfl) ?_); rintro vf hpf)) | (with_reducible refine Sl.k_guard ?_; (first | (refine Sl.guard_yes rfl ?_) | (refine Sl.guard_cases rfl ?_ ?_ <;> intro hg <;> first | (exfalso; simp only [decide_eq_true_eq, decide_eq_false_iff_not, Bool.not_false, Bool.not_true, beq_iff_eq, beq_eq_false_iff_ne, ne_eq] at hg; omega) | (simp only [hg, Bool.not_true, Bool.not_false])) <;> (try simp only [decide_eq_true_eq, decide_eq_false_iff_not, Bool.not_false, Bool.not_true, beq_iff_eq, beq_eq_false_iff_ne, bne_iff_ne, bne_eq_false_iff_eq, ne_eq] at hg)))) <;> (try refine nY ?_)) | (((with_reducible refine Sl.k_call ?_; (first | (refine s_call (cF1 _ hst _ hcl) inX rfl ?_; clear hst; rintro v w ⟨rfl, hst⟩) | (refine s_call (cF2 _ hst _ hcl) inX rfl ?_; clear hst; rintro v w ⟨rfl, hst⟩)))) <;> (try refine nY ?_) <;> (try replace hst := nH hst)) | ((fail_if_success (go_big_may)); (go_step)) | ((first | (with_reducible refine Sl.k_load ?_; (first | (refine s_ex hst (qt_ldp_list evX asX inX) ?_; rintro v ⟨hvl, hv1⟩) | (refine s_ex hst (qt_ldp evX asX inX) ?_; rintro v ⟨cl, rfl, hcl⟩))) | (with_reducible refine Sl.k_field ?_; (((refine s_ex hst (qt_fieldp evX asX inX inX rfl) ?_); rintro v hp; (try simp only [Int.toNat_natCast, Int.toNat_natCast_add_one, Int.reduceToNat] at hp)))) | (with_reducible refine Sl.k_call ?_; (refine s_qt hst (by exact qt_len evX asX inX) ?_))) <;> (try refine nY ?_)) | (with_reducible refine Sl.gate rfl ?_; (go_step)))
          go_ret
          exact ⟨_, rfl, rfl, St.weaken hle hst⟩
      · skip
        go_enter Tryd.func4, Tryd.ntmps4
        repeat' ((fail_if_success (with_reducible show Code.wp _ (Code.region 1 _ _) _ _ _)); first | ((fail_if_success (go_big_may)); (go_step)) | (((((refine s_box hst evX rfl ?_; clear hst; intro bx w hst)))) <;> (try refine nY ?_) <;> (try replace hst := nH hst)))
        obtain ⟨S1, hS1, hstA, hp⟩ := pt_box (α := SIn) hst hR (Rep.len hR)
        clear hst
        have hst := hstA
        clear hstA
        replace hG := hG.mono hS1
        repeat' ((fail_if_success (with_reducible show Code.wp _ (Code.region 2 _ _) _ _ _)); first | (((with_reducible (refine Sl.k_field ?_; (refine s_ex hst (qt_fieldp evX hp inX inX rfl) ?_); rintro vf hpf))) <;> (try refine nY ?_)) | ((fail_if_success (go_big_may)); (go_step)) | (((with_reducible refine Sl.k_load ?_; ((refine s_ex hst (qt_ldp evX asX inX) ?_; rintro v ⟨cl, rfl, hcl⟩)))) <;> (try refine nY ?_)) | ((((first | (with_reducible refine Sl.k_store ?_; (refine s_stR hst rfl BoxIn.h evX asX inX rfl rfl ?_); clear hst; intro w hst) | (refine s_alloc hst inX ?_; clear hst; intro bk w hst)))) <;> (try refine nY ?_) <;> (try replace hst := nH hst)))
        obtain ⟨S2, hS2, hstA, hpu⟩ := pt_box (α := BU) hst hcl (Rep.len hcl)
        clear hst hcl
        have hst := hstA
        clear hstA
        replace hp := hp.mono hS2
        replace hG := hG.mono hS2
        repeat' ((fail_if_success (with_reducible show Code.wp _ (Code.region 3 _ _) _ _ _)); first | (((with_reducible (refine Sl.k_field ?_; (refine s_ex hst (qt_fieldp evX hp inX inX rfl) ?_); rintro vf hpf))) <;> (try refine nY ?_)) | ((fail_if_success (go_big_may)); (go_step)) | (((with_reducible refine Sl.k_load ?_; ((refine s_ex hst (qt_ldp evX asX inX) ?_; rintro v ⟨cl, rfl, hcl⟩)))) <;> (try refine nY ?_)) | ((((first | (with_reducible refine Sl.k_store ?_; (refine s_stR hst rfl BoxIn.h evX asX inX rfl rfl ?_); clear hst; intro w hst) | (refine s_alloc hst inX ?_; clear hst; intro bk w hst)))) <;> (try refine nY ?_) <;> (try replace hst := nH hst)))
        obtain ⟨S3, hS3, hstA, hpv⟩ := pt_box (α := BU) hst hcl (Rep.len hcl)
        clear hst hcl
        have hst := hstA
        clear hstA
        replace hp := hp.mono hS3
        replace hG := hG.mono hS3
        replace hpu := hpu.mono hS3
        repeat' ((fail_if_success (with_reducible show Code.wp _ (Code.region 4 _ _) _ _ _)); first | (((with_reducible (refine Sl.k_field ?_; (refine s_ex hst (qt_fieldp evX hp inX inX rfl) ?_); rintro vf hpf))) <;> (try refine nY ?_)) | ((fail_if_success (go_big_may)); (go_step)) | (((with_reducible refine Sl.k_load ?_; ((refine s_ex hst (qt_ldp evX asX inX) ?_; rintro v ⟨cl, rfl, hcl⟩)))) <;> (try refine nY ?_)) | ((((first | (with_reducible refine Sl.k_store ?_; (refine s_stR hst rfl BoxIn.h evX asX inX rfl rfl ?_); clear hst; intro w hst) | (refine s_alloc hst inX ?_; clear hst; intro bk w hst)))) <;> (try refine nY ?_) <;> (try replace hst := nH hst)))
        obtain ⟨S4, hS4, hstA, hpr⟩ := pt_box (α := RO) hst hcl (Rep.len hcl)
        clear hst hcl
        have hst := hstA
        clear hstA
        replace hp := hp.mono hS4
        replace hG := hG.mono hS4
        replace hpu := hpu.mono hS4
        replace hpv := hpv.mono hS4
        repeat' ((fail_if_success (with_reducible show Code.wp _ (Code.region 5 _ _) _ _ _)); first | (((with_reducible (refine Sl.k_field ?_; (refine s_ex hst (qt_fieldp evX hp inX inX rfl) ?_); rintro vf hpf))) <;> (try refine nY ?_)) | ((fail_if_success (go_big_may)); (go_step)) | (((with_reducible refine Sl.k_load ?_; ((refine s_ex hst (qt_ldp evX asX inX) ?_; rintro v ⟨cl, rfl, hcl⟩)))) <;> (try refine nY ?_)) | ((((first | (with_reducible refine Sl.k_store ?_; (refine s_stR hst rfl BoxIn.h evX asX inX rfl rfl ?_); clear hst; intro w hst) | (refine s_alloc hst inX ?_; clear hst; intro bk w hst)))) <;> (try refine nY ?_) <;> (try replace hst := nH hst)))
        obtain ⟨S5, hS5, hstA, hps⟩ := pt_box (α := RO) hst hcl (Rep.len hcl)
        clear hst hcl
        have hst := hstA
        clear hstA
        replace hp := hp.mono hS5
        replace hG := hG.mono hS5
        replace hpu := hpu.mono hS5
        replace hpv := hpv.mono hS5
        replace hpr := hpr.mono hS5
        have hle : S.Le S5 := hS1.trans (hS2.trans (hS3.trans (hS4.trans hS5)))
        clear hp hS1 hS2 hS3 hS4 hS5
        repeat' ((fail_if_success (with_reducible show Code.wp _ (Code.region 6 _ _) _ _ _)); first | (((with_reducible refine Sl.k_call ?_; ((refine s_call (msanity_c _ hst hG) inX rfl ?_; clear hst; rintro v w ⟨rfl, hst⟩)))) <;> (try refine nY ?_) <;> (try replace hst := nH hst)) | ((fail_if_success (go_big_may)); (go_step)))
        repeat' (first | go_skip | ((first | (with_reducible (refine Sl.k_field ?_; (refine s_ex hst (qt_fieldp evX hpr inX inX rfl) ?_); rintro vf hpf)) | (with_reducible refine Sl.k_guard ?_; (first | (refine Sl.guard_yes rfl ?_) | (refine Sl.guard_cases rfl ?_ ?_ <;> intro hg <;> first | (exfalso; simp only [decide_eq_true_eq, decide_eq_false_iff_not, Bool.not_false, Bool.not_true, beq_iff_eq, beq_eq_false_iff_ne, ne_eq] at hg; omega) | (simp only [hg, Bool.not_true, Bool.not_false])) <;> (try simp only [decide_eq_true_eq, decide_eq_false_iff_not, Bool.not_false, Bool.not_true, beq_iff_eq, beq_eq_false_iff_ne, bne_iff_ne, bne_eq_false_iff_eq, ne_eq] at hg)))) <;> (try refine nY ?_)) | (((with_reducible refine Sl.k_call ?_; (first | (refine s_call (cF1 _ hst _ hcl) inX rfl ?_; clear hst; rintro v w ⟨rfl, hst⟩) | (refine s_call (cF2 _ hst _ hcl) inX rfl ?_; clear hst; rintro v w ⟨rfl, hst⟩)))) <;> (try refine nY ?_) <;> (try replace hst := nH hst)) | ((fail_if_success (go_big_may)); (go_step)) | ((first | (with_reducible refine Sl.k_load ?_; (first | (refine s_ex hst (qt_ldp_list evX asX inX) ?_; rintro v ⟨hvl, hv1⟩) | (refine s_ex hst (qt_ldp evX asX inX) ?_; rintro v ⟨cl, rfl, hcl⟩))) | (with_reducible refine Sl.k_field ?_; (((refine s_ex hst (qt_fieldp evX asX inX inX rfl) ?_); rintro v hp; (try simp only [Int.toNat_natCast, Int.toNat_natCast_add_one, Int.reduceToNat] at hp)))) | (with_reducible refine Sl.k_call ?_; (refine s_qt hst (by exact qt_len evX asX inX) ?_))) <;> (try refine nY ?_)) | (with_reducible refine Sl.gate rfl ?_; (go_step)))
        go_ret
        exact ⟨_, rfl, rfl, St.weaken hle hst⟩
theorem mseps_k {S M} (w : World) (hst : St S M w) (hG : Glob S) (cs : List Value) (x : SIn) (hR : Rep.R S cs x) : Rets Tryd.prog 4 [.agg cs.toArray] w fun v w' => v = .bool true ∧ St S M w' := by
  obtain ⟨u, v, r, s, ⟨⟩⟩ := x
  exact mseps_c w hst hG cs u v r s hR
end Go.Proofs.YtlimhgamebnfeaaDoor

/- Package manifest: how the arguments of ManifestSeparates are read. -/
namespace Go.Proofs.YtlimhgamebnfeaaDoor
set_option linter.unusedSimpArgs false
set_option linter.unusedVariables false
open Go.RowKit Go.Sl Go.ChangeShapes Go.WideShapes Go.ChangeAt

instance sizBU : Siz BU := inferInstance
instance sizRO : Siz RO := inferInstance
instance opSIn : Opens Tryd.prog 47 SIn := opens_struct Tryd.underlying47 (by kernel_rfl)
  (openFs_cons rfl (by kernel_rfl) (ob := openFs_cons rfl (by kernel_rfl) (ob := openFs_cons rfl (by kernel_rfl) (ob := openFs_cons rfl (by kernel_rfl) (ob := openFs_nil)))))
set_option maxRecDepth 20000 in
theorem open_sin {H : Type} {enc : TypeId × Value → H} {W : World} {base : Nat} {v : Value} {d : DataW H} {p : List MemPlace} (hv : Value.okWide Tryd.prog W .any base 47 v) (h : DataW.Trod enc Tryd.prog W 0 (fun _ => true) true 47 v d p) :
    ∃ (cs : List Value) (x : SIn), v = .agg cs.toArray ∧ Rep.R (snapOf W) cs x := by
  obtain ⟨cs, rfl, _⟩ := okWide_struct Tryd.underlying47 hv
  obtain ⟨y, hy, _⟩ := open_arg (α := SIn) h
  exact ⟨cs.toList, y, by simp, hy⟩
end Go.Proofs.YtlimhgamebnfeaaDoor

/- The statement ManifestSeparates. -/
namespace Go.Proofs.YtlimhgamebnfeaaDoor
set_option linter.unusedSimpArgs false
set_option linter.unusedVariables false
open Go.RowKit Go.Sl Go.ChangeShapes Go.WideShapes Go.ChangeAt

set_option maxRecDepth 20000 in
theorem mseps_post (H : Type) (enc : TypeId × Value → H) (W : World) (base : Nat) (args : Array Value) (ds gs : List (DataW H)) (before : List MemPlace)
    (hval : ∀ (j : Nat) t v, Tryd.f4.params[j]? = some t → args[j]? = some v → Value.okWide Tryd.prog W .any base t v)
    (hW : DataW.Whole enc Tryd.prog Tryd.f4.params.toList Rows.manifestSeparatesSpec.vars false W args.toList ds gs before) (hk : Rows.uptoSmall H (ds ++ gs) = true) (hL : laidMetH Tryd.prog Rows.manifestSeparatesUptoRow.laid W) :
    Calls Tryd.prog 4 args W fun e W' => ∃ v, e = .returned v ∧ Rows.manifestSeparatesSpec.post enc Tryd.prog Tryd.f4 false true false false W args v W' := by
  have hW' := hW
  obtain ⟨p, q, hA0, hV, rfl, hfz, hnd⟩ := hW
  have hA : DataW.TrodAll enc Tryd.prog W 0 (fun _ => true) true Tryd.f4.params.toList args.toList ds p := hA0
  have hk := small_all hk
  rw [Tryd.params4] at hA hval
  obtain ⟨v0, vs0, d0, ds0, p0, q0, hargs, rfl, rfl, h0, r0⟩ := trodAll_cons hA
  obtain ⟨rfl, rfl, rfl⟩ := trodAll_nil r0
  obtain rfl : args = #[v0] := by cases args; simp_all
  obtain ⟨rfl, rfl⟩ := trodVars_none hV
  simp only [List.append_nil, Rows.uptoBulkAll] at hk
  obtain ⟨c0, u0, rfl, hR0⟩ := open_sin (hval 0 47 v0 rfl rfl) h0
  refine Calls.mono (mseps_k W (St.start W) (glob_of hL) c0 u0 hR0) fun e W' ⟨v, he, hv, hst⟩ => ?_
  subst hv
  exact ⟨_, he, law_post (tb := 4) rfl hW' (by kernel_rfl) (by rw [Tryd.params4]; intro t ht'; have e : t = 47 := (by simpa using ht'); subst e; exact ⟨by kernel_rfl, of_decide_eq_true (by kernel_rfl)⟩) (by kernel_rfl) (by kernel_rfl) rfl rfl rfl hst.below⟩

abbrev mseps_args : Array Value := #[.agg #[.int .i64 0, .int .i64 0, .int .i64 0, .slice none 0 0, .slice none 0 0, .slice none 0 0, .int .i64 0, .int .i64 0, .int .i64 0, .slice none 0 0, .slice none 0 0, .slice none 0 0, .int .i64 0, .int .i64 0, .int .i64 0, .slice none 0 0, .slice none 0 0, .int .i64 0, .int .i64 0, .int .i64 0, .slice none 0 0, .slice none 0 0]]
theorem mseps_met (os : Os) : laidMet Tryd.prog Rows.manifestSeparatesUptoRow.laid ((laidWorld os #[]).forCall (fun _ _ => 0) ⟨#[], mseps_args, []⟩).memory :=
  laidMet_of_run' 8 (by kernel_rfl) (by kernel_rfl)
theorem mseps_reads (os : Os) {H : Type} (enc : TypeId × Value → H) : ∃ places, DataW.whole enc Tryd.prog ((laidWorld os #[]).forCall (fun _ _ => 0) ⟨#[], mseps_args, []⟩).memory Tryd.f4.params.toList Rows.manifestSeparatesSpec.vars false mseps_args.toList 8 = some ([.agg [.agg [.agg [.lit (.int .i64 0), .lit (.int .i64 0), .lit (.int .i64 0), .nil], .nil, .nil], .agg [.agg [.lit (.int .i64 0), .lit (.int .i64 0), .lit (.int .i64 0), .nil], .nil, .nil], .agg [.agg [.lit (.int .i64 0), .lit (.int .i64 0), .lit (.int .i64 0), .nil], .nil], .agg [.agg [.lit (.int .i64 0), .lit (.int .i64 0), .lit (.int .i64 0), .nil], .nil]]], [], places) :=
  ⟨[], by kernel_rfl⟩

set_option maxRecDepth 100000 in
theorem mseps_lifted (os : Os) (started : os.Started) (H : Type) (enc : TypeId × Value → H) (F : Stop.Interp) :
    ReturnsInHanded {} Tryd.checked os 4 .any ((Rows.OpenSpec.upto Rows.manifestSeparatesSpec).preRow enc Tryd.prog Tryd.f4 Rows.manifestSeparatesUptoRow.domain false Rows.manifestSeparatesUptoRow.laid) (((Rows.OpenSpec.upto Rows.manifestSeparatesSpec).at F).post enc Tryd.prog Tryd.f4 false true false false) := by
  obtain ⟨places, hx⟩ := mseps_reads os enc
  refine returnsInHanded_of_row (C := Tryd.checked) (s := Rows.OpenSpec.upto Rows.manifestSeparatesSpec) own started (by kernel_rfl) Tryd.func4
    (witness_row_at (enc := enc) (C := Tryd.checked) false (laidWorld os #[]) mseps_args rfl (by kernel_rfl) (by kernel_rfl) (by kernel_rfl)
      (OpenSpec.preRow_of_cond 8 hx (by kernel_rfl) (fun k hk => by cases hk; kernel_rfl) (by kernel_rfl) (mseps_met os))) ?_
  intro W base args ds gs before hval hW _ hc _ hL _ _
  exact mseps_post H enc W base args ds gs before hval hW (hc _ rfl) hL

theorem mseps_said : Rows.ManifestSeparatesUptoSaid :=
  OpenClaim.holds_of_cond 4 Tryd.f4 rfl rfl rfl rfl rfl rfl rfl ⟨rfl, rfl, rfl, rfl, rfl⟩ rfl rfl rfl rfl rfl (by kernel_rfl) Tryd.func4 (by kernel_rfl)
    (of_decide_eq_true (by kernel_rfl)) (by unfold Func.isWrapper; first | (rw [if_pos (by decide +kernel)]; kernel_rfl) | (rw [if_neg (by decide +kernel)]; exact ⟨rfl, rfl⟩))
    (fun os started H enc _ F => by rw [OpenClaim.pre_eq_preRow]; exact mseps_lifted os started H enc F)

theorem mseps_plain (f : FuncId) (fn : Func) (hf : Tryd.pinned.checked.prog.funcNamed "bootchain/bootchainlaw23.ManifestSeparates" = some f) (hfn : Tryd.pinned.checked.prog.funcs[f]? = some fn) :
    false = Tryd.pinned.checked.prog.looks [] ∧ ∀ (j : Nat) t, fn.params[j]? = some t → Tryd.pinned.checked.prog.wantsStandIn t = false := by
  obtain rfl : f = 4 := Option.some.inj ((show Tryd.prog.funcNamed "bootchain/bootchainlaw23.ManifestSeparates" = some 4 by kernel_rfl).symm.trans hf) |>.symm
  obtain rfl : fn = Tryd.f4 := (Option.some.inj (Tryd.func4.symm.trans hfn)).symm
  refine ⟨by kernel_rfl, fun j t ht => ?_⟩
  rw [Tryd.params4] at ht
  have e : t = 47 := by simpa using Array.mem_of_getElem? ht
  subst e
  · exact (show Tryd.prog.wantsStandIn 47 = false by kernel_rfl)

theorem mseps_proved : Rows.ManifestSeparatesUptoCardSaid :=
  Claim7.holds_tied_plain_at .later [] _ _ _ _ mseps_said (fun _ h => by cases h) (by kernel_rfl) (fun _ h => by cases h) manifestSeparatesUpto_row_tie rfl ⟨rfl, rfl⟩ (by kernel_rfl) rfl mseps_plain (by kernel_rfl)
end Go.Proofs.YtlimhgamebnfeaaDoor
