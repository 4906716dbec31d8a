/- Package directory walked. -/
import Derived.Test.YtjapdhaimbalkaaDoorBb
import Derived.Test.YtjapdhaimbalkaaDoorBf
import Derived.Test.YtjapdhaimbalkaaDoorBe

/- Package directory: facts that are valid, walked. -/
--@hgp
--@flat
--@dg
--@ex0
namespace Go.Proofs.YtjapdhaimbalkaaDoor
set_option linter.unusedSimpArgs false
set_option linter.unusedVariables false
open Go.RowKit Go.Sl Go.Srt

theorem r_dgd {S : Snap} {d : Dg} (h : d.l.length = 16) : Rep.R S (u8s d.l) d := by exact ⟨h, rl_u8 d.l⟩

/-- What is asked of a fact, as Booleans. -/
structure FB (f : Fa) (b1 b2 b3 b4 k1 k2 k3 k4 bt y : Bool) : Prop where
  e1 : (f.2.2.1.1 == 0) = b1
  e2 : (f.2.2.1.2.1 == 0) = b2
  e3 : (f.2.2.1.2.2.1 == 0) = b3
  e4 : ((f.2.2.1.2.2.2.1.length : Int) == 0) = b4
  g1 : (f.1 == 1) = k1
  g2 : (f.1 == 2) = k2
  g3 : (f.1 == 3) = k3
  g4 : (f.1 == 4) = k4
  gt : decide (f.2.1.b = []) = bt
  gy : decide (f.2.2.2.1 = zeroDg) = y
theorem FB.val {f : Fa} {b1 b2 b3 b4 k1 k2 k3 k4 bt y : Bool} (h : FB f b1 b2 b3 b4 k1 k2 k3 k4 bt y) (ok : FaOk f) : validF f = bif k1 then (b1 && b2 && b3 && b4) && y else bif k2 then y && bt && validM f.2.2.1 else bif k3 || k4 then (b1 && b2 && b3 && b4) && bt else false := by
  obtain ⟨e1, e2, e3, e4, g1, g2, g3, g4, gt, gy⟩ := h
  have hp : plainM f.2.2.1 = (b1 && b2 && b3 && b4) := by
    have q4 : decide (f.2.2.1.2.2.2.1.length = 0) = b4 := by rw [← e4, Bool.eq_iff_iff]; simp
    rw [plainM, q4, ← e1, ← e2, ← e3]; rfl
  have ht : decide (f.2.1.b.length = 0) = bt := by rw [← gt, Bool.eq_iff_iff]; simp
  have h5 : decide (f.2.1.b.length ≤ 1500) = true := decide_eq_true (by have := ok.t; omega)
  rw [validF, hp, ht, h5, gy, ← g1, ← g2, ← g3, ← g4]
  by_cases c1 : f.1 = 1
  · simp [c1]
  · by_cases c2 : f.1 = 2
    · simp [c2]
    · by_cases c3 : f.1 = 3
      · simp [c3]
      · by_cases c4 : f.1 = 4
        · simp [c4]
        · simp [c1, c2, c3, c4]
abbrev FVal (f : Fa) (b1 b2 b3 b4 k1 k2 k3 k4 bt y : Bool) : Prop := ∀ {S M} (w : World) (_ : St S M w) (cs : List Value) (_ : Rep.R S cs f) (_ : FaOk f), FB f b1 b2 b3 b4 k1 k2 k3 k4 bt y →
    Rets Tryd.prog 15 [.agg cs.toArray] w fun v w' => v = .bool (validF f) ∧ St S M w'
set_option maxRecDepth 8000 in
set_option maxHeartbeats 2000000 in
theorem fv_10 {f : Fa} {b2 b3 b4 k2 k3 k4 bt y : Bool} : FVal f false b2 b3 b4 true k2 k3 k4 bt y := by
  intro S M w hst cs hR ok H
  unfold Rets
  have hv := H.val ok
  obtain ⟨e1, e2, e3, e4, g1, g2, g3, g4, gt, gy⟩ := H
  have hd := ok.d
  have hml : f.2.2.1.2.2.2.1.length ≤ 1048576 := by have := ok.s; omega
  have g5 : decide ((f.2.1.b.length : Int) ≤ 1500) = true := decide_eq_true (by have := ok.t; omega)
  go_enter Tryd.func15, Tryd.ntmps15
  repeat' ((fail_if_success (with_reducible show Code.wp _ (Code.region 1 _ _) _ _ _)); first | ((fail_if_success (go_big_may)); (go_step)) | (((((refine s_box hst evX rfl ?_; clear hst; intro bx w hst)))) <;> (try refine nX ?_) <;> (try replace hst := nH hst)))
  obtain ⟨S1, hS1, hst, hpe⟩ := pt_box (α := Fa) hst hR (Rep.len hR)
  repeat' ((fail_if_success (with_reducible show Code.wp _ (Code.region 2 _ _) _ _ _)); first | ((first | (with_reducible (refine Sl.k_field ?_; refine s_ex hst (qt_fieldp evX hpe inX inX rfl) ?_; rintro vf hpf)) | (with_reducible (refine Sl.k_load ?_; refine s_ex hst (qt_ldp (y := f.2.2.1) evX hpf inX) ?_; rintro v7 ⟨cm, rfl, hcm⟩))) <;> (try refine nX ?_)) | ((fail_if_success (go_big_may)); (go_step)) | ((((first | (with_reducible refine Sl.k_store ?_; (refine s_stR hst rfl BoxIn.h evX asX inX rfl rfl ?_); clear hst; intro w hst) | (refine s_alloc hst inX ?_; clear hst; intro bk w hst)))) <;> (try refine nX ?_) <;> (try replace hst := nH hst)))
  obtain ⟨S2, hS2, hst, hpm⟩ := pt_box (α := MF) hst hcm (Rep.len hcm)
  replace hpe := hpe.mono hS2
  repeat' (first | go_skip | ((first | (with_reducible (refine Sl.k_field ?_; refine s_ex hst (qt_fieldp evX hpe inX inX rfl) ?_; rintro vf hpf)) | (with_reducible (refine Sl.k_field ?_; refine s_ex hst (qt_fieldp evX hpm inX inX rfl) ?_; rintro vf hpf)) | (with_reducible (refine Sl.k_load ?_; refine s_qt hst (qt_ldp_flat (y := f.2.2.2.1) evX hpf inX inX rfl) ?_)) | (with_reducible refine Sl.k_bin ?_; (first | refine s_qt hst (qt_eql_b rfl rfl e1) ?_ | refine s_qt hst (qt_eql_b rfl rfl g1) ?_ | refine s_qt hst (qt_eqlK_b rfl rfl (r_dgd hd) (r_dgd rfl) inX inX inferInstance gy) ?_))) <;> (try refine nX ?_)) | ((fail_if_success (go_big_may)); (go_step)) | (((with_reducible refine Sl.k_load ?_; ((refine s_ex hst (qt_ldp_int evX asX inX) ?_; rintro v ⟨rfl, hI⟩)))) <;> (try refine nX ?_)) | (with_reducible refine Sl.gate rfl ?_; (go_step)))
  refine bodyPost_ret (results_tmp rfl _ _ _) rfl ?_
  exact ⟨_, rfl, by rw [hv]; rfl, St.weaken (hS1.trans hS2) hst⟩

set_option maxRecDepth 8000 in
set_option maxHeartbeats 2000000 in
theorem fv_200 {f : Fa} {b2 b3 b4 k3 k4 bt : Bool} : FVal f false b2 b3 b4 false true k3 k4 bt false := by
  intro S M w hst cs hR ok H
  unfold Rets
  have hv := H.val ok
  obtain ⟨e1, e2, e3, e4, g1, g2, g3, g4, gt, gy⟩ := H
  have hd := ok.d
  have hml : f.2.2.1.2.2.2.1.length ≤ 1048576 := by have := ok.s; omega
  have g5 : decide ((f.2.1.b.length : Int) ≤ 1500) = true := decide_eq_true (by have := ok.t; omega)
  go_enter Tryd.func15, Tryd.ntmps15
  repeat' ((fail_if_success (with_reducible show Code.wp _ (Code.region 1 _ _) _ _ _)); first | ((fail_if_success (go_big_may)); (go_step)) | (((((refine s_box hst evX rfl ?_; clear hst; intro bx w hst)))) <;> (try refine nX ?_) <;> (try replace hst := nH hst)))
  obtain ⟨S1, hS1, hst, hpe⟩ := pt_box (α := Fa) hst hR (Rep.len hR)
  repeat' ((fail_if_success (with_reducible show Code.wp _ (Code.region 2 _ _) _ _ _)); first | ((first | (with_reducible (refine Sl.k_field ?_; refine s_ex hst (qt_fieldp evX hpe inX inX rfl) ?_; rintro vf hpf)) | (with_reducible (refine Sl.k_load ?_; refine s_ex hst (qt_ldp (y := f.2.2.1) evX hpf inX) ?_; rintro v7 ⟨cm, rfl, hcm⟩))) <;> (try refine nX ?_)) | ((fail_if_success (go_big_may)); (go_step)) | ((((first | (with_reducible refine Sl.k_store ?_; (refine s_stR hst rfl BoxIn.h evX asX inX rfl rfl ?_); clear hst; intro w hst) | (refine s_alloc hst inX ?_; clear hst; intro bk w hst)))) <;> (try refine nX ?_) <;> (try replace hst := nH hst)))
  obtain ⟨S2, hS2, hst, hpm⟩ := pt_box (α := MF) hst hcm (Rep.len hcm)
  replace hpe := hpe.mono hS2
  repeat' (first | go_skip | ((first | (with_reducible (refine Sl.k_field ?_; refine s_ex hst (qt_fieldp evX hpe inX inX rfl) ?_; rintro vf hpf)) | (with_reducible (refine Sl.k_field ?_; refine s_ex hst (qt_fieldp evX hpm inX inX rfl) ?_; rintro vf hpf)) | (with_reducible (refine Sl.k_load ?_; refine s_qt hst (qt_ldp_flat (y := f.2.2.2.1) evX hpf inX inX rfl) ?_)) | (with_reducible refine Sl.k_bin ?_; (first | refine s_qt hst (qt_eql_b rfl rfl e1) ?_ | refine s_qt hst (qt_eql_b rfl rfl g1) ?_ | refine s_qt hst (qt_eql_b rfl rfl g2) ?_ | refine s_qt hst (qt_eqlK_b rfl rfl (r_dgd hd) (r_dgd rfl) inX inX inferInstance gy) ?_))) <;> (try refine nX ?_)) | ((fail_if_success (go_big_may)); (go_step)) | (((with_reducible refine Sl.k_load ?_; ((refine s_ex hst (qt_ldp_int evX asX inX) ?_; rintro v ⟨rfl, hI⟩)))) <;> (try refine nX ?_)) | (with_reducible refine Sl.gate rfl ?_; (go_step)))
  refine bodyPost_ret (results_tmp rfl _ _ _) rfl ?_
  exact ⟨_, rfl, by rw [hv]; rfl, St.weaken (hS1.trans hS2) hst⟩

set_option maxRecDepth 8000 in
set_option maxHeartbeats 2000000 in
theorem fv_201 {f : Fa} {b2 b3 b4 k3 k4 : Bool} : FVal f false b2 b3 b4 false true k3 k4 false true := by
  intro S M w hst cs hR ok H
  unfold Rets
  have hv := H.val ok
  obtain ⟨e1, e2, e3, e4, g1, g2, g3, g4, gt, gy⟩ := H
  have hd := ok.d
  have hml : f.2.2.1.2.2.2.1.length ≤ 1048576 := by have := ok.s; omega
  have g5 : decide ((f.2.1.b.length : Int) ≤ 1500) = true := decide_eq_true (by have := ok.t; omega)
  go_enter Tryd.func15, Tryd.ntmps15
  repeat' ((fail_if_success (with_reducible show Code.wp _ (Code.region 1 _ _) _ _ _)); first | ((fail_if_success (go_big_may)); (go_step)) | (((((refine s_box hst evX rfl ?_; clear hst; intro bx w hst)))) <;> (try refine nX ?_) <;> (try replace hst := nH hst)))
  obtain ⟨S1, hS1, hst, hpe⟩ := pt_box (α := Fa) hst hR (Rep.len hR)
  repeat' ((fail_if_success (with_reducible show Code.wp _ (Code.region 2 _ _) _ _ _)); first | ((first | (with_reducible (refine Sl.k_field ?_; refine s_ex hst (qt_fieldp evX hpe inX inX rfl) ?_; rintro vf hpf)) | (with_reducible (refine Sl.k_load ?_; refine s_ex hst (qt_ldp (y := f.2.2.1) evX hpf inX) ?_; rintro v7 ⟨cm, rfl, hcm⟩))) <;> (try refine nX ?_)) | ((fail_if_success (go_big_may)); (go_step)) | ((((first | (with_reducible refine Sl.k_store ?_; (refine s_stR hst rfl BoxIn.h evX asX inX rfl rfl ?_); clear hst; intro w hst) | (refine s_alloc hst inX ?_; clear hst; intro bk w hst)))) <;> (try refine nX ?_) <;> (try replace hst := nH hst)))
  obtain ⟨S2, hS2, hst, hpm⟩ := pt_box (α := MF) hst hcm (Rep.len hcm)
  replace hpe := hpe.mono hS2
  repeat' (first | go_skip | ((first | (with_reducible (refine Sl.k_field ?_; refine s_ex hst (qt_fieldp evX hpe inX inX rfl) ?_; rintro vf hpf)) | (with_reducible (refine Sl.k_field ?_; refine s_ex hst (qt_fieldp evX hpm inX inX rfl) ?_; rintro vf hpf)) | (with_reducible (refine Sl.k_load ?_; refine s_qt hst (qt_ldp_flat (y := f.2.2.2.1) evX hpf inX inX rfl) ?_)) | (with_reducible refine Sl.k_bin ?_; (first | refine s_qt hst (qt_eql_b rfl rfl e1) ?_ | refine s_qt hst (qt_eql_b rfl rfl g1) ?_ | refine s_qt hst (qt_eql_b rfl rfl g2) ?_ | refine s_qt hst (qt_eql_str rfl rfl inX gt) ?_ | refine s_qt hst (qt_eqlK_b rfl rfl (r_dgd hd) (r_dgd rfl) inX inX inferInstance gy) ?_)) | (with_reducible refine Sl.k_guard ?_; ((refine Sl.guard_yes rfl ?_)))) <;> (try refine nX ?_)) | ((fail_if_success (go_big_may)); (go_step)) | (((with_reducible refine Sl.k_load ?_; (first | (refine s_ex hst (qt_ldp_int evX asX inX) ?_; rintro v ⟨rfl, hI⟩) | (refine s_ex hst (qt_ldp_str evX asX inX) ?_; rintro v ⟨rfl, hs⟩)))) <;> (try refine nX ?_)) | (with_reducible refine Sl.gate rfl ?_; (go_step)))
  refine bodyPost_ret (results_tmp rfl _ _ _) rfl ?_
  exact ⟨_, rfl, by rw [hv]; rfl, St.weaken (hS1.trans hS2) hst⟩

set_option maxRecDepth 8000 in
set_option maxHeartbeats 2000000 in
theorem fv_202 {f : Fa} {b2 b3 b4 k3 k4 : Bool} : FVal f false b2 b3 b4 false true k3 k4 true true := by
  intro S M w hst cs hR ok H
  unfold Rets
  have hv := H.val ok
  obtain ⟨e1, e2, e3, e4, g1, g2, g3, g4, gt, gy⟩ := H
  have hd := ok.d
  have hml : f.2.2.1.2.2.2.1.length ≤ 1048576 := by have := ok.s; omega
  have g5 : decide ((f.2.1.b.length : Int) ≤ 1500) = true := decide_eq_true (by have := ok.t; omega)
  go_enter Tryd.func15, Tryd.ntmps15
  repeat' ((fail_if_success (with_reducible show Code.wp _ (Code.region 1 _ _) _ _ _)); first | ((fail_if_success (go_big_may)); (go_step)) | (((((refine s_box hst evX rfl ?_; clear hst; intro bx w hst)))) <;> (try refine nX ?_) <;> (try replace hst := nH hst)))
  obtain ⟨S1, hS1, hst, hpe⟩ := pt_box (α := Fa) hst hR (Rep.len hR)
  repeat' ((fail_if_success (with_reducible show Code.wp _ (Code.region 2 _ _) _ _ _)); first | ((first | (with_reducible (refine Sl.k_field ?_; refine s_ex hst (qt_fieldp evX hpe inX inX rfl) ?_; rintro vf hpf)) | (with_reducible (refine Sl.k_load ?_; refine s_ex hst (qt_ldp (y := f.2.2.1) evX hpf inX) ?_; rintro v7 ⟨cm, rfl, hcm⟩))) <;> (try refine nX ?_)) | ((fail_if_success (go_big_may)); (go_step)) | ((((first | (with_reducible refine Sl.k_store ?_; (refine s_stR hst rfl BoxIn.h evX asX inX rfl rfl ?_); clear hst; intro w hst) | (refine s_alloc hst inX ?_; clear hst; intro bk w hst)))) <;> (try refine nX ?_) <;> (try replace hst := nH hst)))
  obtain ⟨S2, hS2, hst, hpm⟩ := pt_box (α := MF) hst hcm (Rep.len hcm)
  replace hpe := hpe.mono hS2
  repeat' (first | go_skip | ((first | (with_reducible (refine Sl.k_field ?_; refine s_ex hst (qt_fieldp evX hpe inX inX rfl) ?_; rintro vf hpf)) | (with_reducible (refine Sl.k_field ?_; refine s_ex hst (qt_fieldp evX hpm inX inX rfl) ?_; rintro vf hpf)) | (with_reducible (refine Sl.k_load ?_; refine s_qt hst (qt_ldp_flat (y := f.2.2.2.1) evX hpf inX inX rfl) ?_)) | (with_reducible (refine Sl.k_load ?_; refine s_ex hst (qt_ldp (y := f.2.2.1) evX hpm inX) ?_; rintro v54 ⟨cm2, rfl, hcm2⟩)) | (with_reducible refine Sl.k_bin ?_; (first | refine s_qt hst (qt_eql_b rfl rfl e1) ?_ | refine s_qt hst (qt_eql_b rfl rfl g1) ?_ | refine s_qt hst (qt_eql_b rfl rfl g2) ?_ | refine s_qt hst (qt_eql_str rfl rfl inX gt) ?_ | refine s_qt hst (qt_eqlK_b rfl rfl (r_dgd hd) (r_dgd rfl) inX inX inferInstance gy) ?_)) | (with_reducible refine Sl.k_guard ?_; ((refine Sl.guard_yes rfl ?_)))) <;> (try refine nX ?_)) | (((with_reducible refine Sl.k_call ?_; ((refine s_call (mvalid_c _ hst cm2 f.2.2.1 hcm2 hml) inX rfl ?_; clear hst; rintro v w ⟨rfl, hst⟩)))) <;> (try refine nX ?_) <;> (try replace hst := nH hst)) | ((fail_if_success (go_big_may)); (go_step)) | (((with_reducible refine Sl.k_load ?_; (first | (refine s_ex hst (qt_ldp_int evX asX inX) ?_; rintro v ⟨rfl, hI⟩) | (refine s_ex hst (qt_ldp_str evX asX inX) ?_; rintro v ⟨rfl, hs⟩)))) <;> (try refine nX ?_)) | (with_reducible refine Sl.gate rfl ?_; (go_step)))
  refine bodyPost_ret (results_tmp rfl _ _ _) rfl ?_
  exact ⟨_, rfl, by rw [hv]; rfl, St.weaken (hS1.trans hS2) hst⟩

set_option maxRecDepth 8000 in
set_option maxHeartbeats 2000000 in
theorem fv_30 {f : Fa} {b2 b3 b4 k4 bt y : Bool} : FVal f false b2 b3 b4 false false true k4 bt y := by
  intro S M w hst cs hR ok H
  unfold Rets
  have hv := H.val ok
  obtain ⟨e1, e2, e3, e4, g1, g2, g3, g4, gt, gy⟩ := H
  have hd := ok.d
  have hml : f.2.2.1.2.2.2.1.length ≤ 1048576 := by have := ok.s; omega
  have g5 : decide ((f.2.1.b.length : Int) ≤ 1500) = true := decide_eq_true (by have := ok.t; omega)
  go_enter Tryd.func15, Tryd.ntmps15
  repeat' ((fail_if_success (with_reducible show Code.wp _ (Code.region 1 _ _) _ _ _)); first | ((fail_if_success (go_big_may)); (go_step)) | (((((refine s_box hst evX rfl ?_; clear hst; intro bx w hst)))) <;> (try refine nX ?_) <;> (try replace hst := nH hst)))
  obtain ⟨S1, hS1, hst, hpe⟩ := pt_box (α := Fa) hst hR (Rep.len hR)
  repeat' ((fail_if_success (with_reducible show Code.wp _ (Code.region 2 _ _) _ _ _)); first | ((first | (with_reducible (refine Sl.k_field ?_; refine s_ex hst (qt_fieldp evX hpe inX inX rfl) ?_; rintro vf hpf)) | (with_reducible (refine Sl.k_load ?_; refine s_ex hst (qt_ldp (y := f.2.2.1) evX hpf inX) ?_; rintro v7 ⟨cm, rfl, hcm⟩))) <;> (try refine nX ?_)) | ((fail_if_success (go_big_may)); (go_step)) | ((((first | (with_reducible refine Sl.k_store ?_; (refine s_stR hst rfl BoxIn.h evX asX inX rfl rfl ?_); clear hst; intro w hst) | (refine s_alloc hst inX ?_; clear hst; intro bk w hst)))) <;> (try refine nX ?_) <;> (try replace hst := nH hst)))
  obtain ⟨S2, hS2, hst, hpm⟩ := pt_box (α := MF) hst hcm (Rep.len hcm)
  replace hpe := hpe.mono hS2
  repeat' (first | go_skip | ((first | (with_reducible (refine Sl.k_field ?_; refine s_ex hst (qt_fieldp evX hpe inX inX rfl) ?_; rintro vf hpf)) | (with_reducible (refine Sl.k_field ?_; refine s_ex hst (qt_fieldp evX hpm inX inX rfl) ?_; rintro vf hpf)) | (with_reducible (refine Sl.k_load ?_; refine s_qt hst (qt_ldp_flat (y := f.2.2.2.1) evX hpf inX inX rfl) ?_)) | (with_reducible refine Sl.k_bin ?_; (first | refine s_qt hst (qt_eql_b rfl rfl e1) ?_ | refine s_qt hst (qt_eql_b rfl rfl g1) ?_ | refine s_qt hst (qt_eql_b rfl rfl g2) ?_ | refine s_qt hst (qt_eql_b rfl rfl g3) ?_ | refine s_qt hst (qt_eqlK_b rfl rfl (r_dgd hd) (r_dgd rfl) inX inX inferInstance gy) ?_))) <;> (try refine nX ?_)) | ((fail_if_success (go_big_may)); (go_step)) | (((with_reducible refine Sl.k_load ?_; ((refine s_ex hst (qt_ldp_int evX asX inX) ?_; rintro v ⟨rfl, hI⟩)))) <;> (try refine nX ?_)) | (with_reducible refine Sl.gate rfl ?_; (go_step)))
  refine bodyPost_ret (results_tmp rfl _ _ _) rfl ?_
  exact ⟨_, rfl, by rw [hv]; rfl, St.weaken (hS1.trans hS2) hst⟩

set_option maxRecDepth 8000 in
set_option maxHeartbeats 2000000 in
theorem fv_40 {f : Fa} {b2 b3 b4 bt y : Bool} : FVal f false b2 b3 b4 false false false true bt y := by
  intro S M w hst cs hR ok H
  unfold Rets
  have hv := H.val ok
  obtain ⟨e1, e2, e3, e4, g1, g2, g3, g4, gt, gy⟩ := H
  have hd := ok.d
  have hml : f.2.2.1.2.2.2.1.length ≤ 1048576 := by have := ok.s; omega
  have g5 : decide ((f.2.1.b.length : Int) ≤ 1500) = true := decide_eq_true (by have := ok.t; omega)
  go_enter Tryd.func15, Tryd.ntmps15
  repeat' ((fail_if_success (with_reducible show Code.wp _ (Code.region 1 _ _) _ _ _)); first | ((fail_if_success (go_big_may)); (go_step)) | (((((refine s_box hst evX rfl ?_; clear hst; intro bx w hst)))) <;> (try refine nX ?_) <;> (try replace hst := nH hst)))
  obtain ⟨S1, hS1, hst, hpe⟩ := pt_box (α := Fa) hst hR (Rep.len hR)
  repeat' ((fail_if_success (with_reducible show Code.wp _ (Code.region 2 _ _) _ _ _)); first | ((first | (with_reducible (refine Sl.k_field ?_; refine s_ex hst (qt_fieldp evX hpe inX inX rfl) ?_; rintro vf hpf)) | (with_reducible (refine Sl.k_load ?_; refine s_ex hst (qt_ldp (y := f.2.2.1) evX hpf inX) ?_; rintro v7 ⟨cm, rfl, hcm⟩))) <;> (try refine nX ?_)) | ((fail_if_success (go_big_may)); (go_step)) | ((((first | (with_reducible refine Sl.k_store ?_; (refine s_stR hst rfl BoxIn.h evX asX inX rfl rfl ?_); clear hst; intro w hst) | (refine s_alloc hst inX ?_; clear hst; intro bk w hst)))) <;> (try refine nX ?_) <;> (try replace hst := nH hst)))
  obtain ⟨S2, hS2, hst, hpm⟩ := pt_box (α := MF) hst hcm (Rep.len hcm)
  replace hpe := hpe.mono hS2
  repeat' (first | go_skip | ((first | (with_reducible (refine Sl.k_field ?_; refine s_ex hst (qt_fieldp evX hpe inX inX rfl) ?_; rintro vf hpf)) | (with_reducible (refine Sl.k_field ?_; refine s_ex hst (qt_fieldp evX hpm inX inX rfl) ?_; rintro vf hpf)) | (with_reducible (refine Sl.k_load ?_; refine s_qt hst (qt_ldp_flat (y := f.2.2.2.1) evX hpf inX inX rfl) ?_)) | (with_reducible refine Sl.k_bin ?_; (first | refine s_qt hst (qt_eql_b rfl rfl e1) ?_ | refine s_qt hst (qt_eql_b rfl rfl g1) ?_ | refine s_qt hst (qt_eql_b rfl rfl g2) ?_ | refine s_qt hst (qt_eql_b rfl rfl g3) ?_ | refine s_qt hst (qt_eql_b rfl rfl g4) ?_ | refine s_qt hst (qt_eqlK_b rfl rfl (r_dgd hd) (r_dgd rfl) inX inX inferInstance gy) ?_))) <;> (try refine nX ?_)) | ((fail_if_success (go_big_may)); (go_step)) | (((with_reducible refine Sl.k_load ?_; ((refine s_ex hst (qt_ldp_int evX asX inX) ?_; rintro v ⟨rfl, hI⟩)))) <;> (try refine nX ?_)) | (with_reducible refine Sl.gate rfl ?_; (go_step)))
  refine bodyPost_ret (results_tmp rfl _ _ _) rfl ?_
  exact ⟨_, rfl, by rw [hv]; rfl, St.weaken (hS1.trans hS2) hst⟩

set_option maxRecDepth 8000 in
set_option maxHeartbeats 2000000 in
theorem fv_50 {f : Fa} {b2 b3 b4 bt y : Bool} : FVal f false b2 b3 b4 false false false false bt y := by
  intro S M w hst cs hR ok H
  unfold Rets
  have hv := H.val ok
  obtain ⟨e1, e2, e3, e4, g1, g2, g3, g4, gt, gy⟩ := H
  have hd := ok.d
  have hml : f.2.2.1.2.2.2.1.length ≤ 1048576 := by have := ok.s; omega
  have g5 : decide ((f.2.1.b.length : Int) ≤ 1500) = true := decide_eq_true (by have := ok.t; omega)
  go_enter Tryd.func15, Tryd.ntmps15
  repeat' ((fail_if_success (with_reducible show Code.wp _ (Code.region 1 _ _) _ _ _)); first | ((fail_if_success (go_big_may)); (go_step)) | (((((refine s_box hst evX rfl ?_; clear hst; intro bx w hst)))) <;> (try refine nX ?_) <;> (try replace hst := nH hst)))
  obtain ⟨S1, hS1, hst, hpe⟩ := pt_box (α := Fa) hst hR (Rep.len hR)
  repeat' ((fail_if_success (with_reducible show Code.wp _ (Code.region 2 _ _) _ _ _)); first | ((first | (with_reducible (refine Sl.k_field ?_; refine s_ex hst (qt_fieldp evX hpe inX inX rfl) ?_; rintro vf hpf)) | (with_reducible (refine Sl.k_load ?_; refine s_ex hst (qt_ldp (y := f.2.2.1) evX hpf inX) ?_; rintro v7 ⟨cm, rfl, hcm⟩))) <;> (try refine nX ?_)) | ((fail_if_success (go_big_may)); (go_step)) | ((((first | (with_reducible refine Sl.k_store ?_; (refine s_stR hst rfl BoxIn.h evX asX inX rfl rfl ?_); clear hst; intro w hst) | (refine s_alloc hst inX ?_; clear hst; intro bk w hst)))) <;> (try refine nX ?_) <;> (try replace hst := nH hst)))
  obtain ⟨S2, hS2, hst, hpm⟩ := pt_box (α := MF) hst hcm (Rep.len hcm)
  replace hpe := hpe.mono hS2
  repeat' (first | go_skip | ((first | (with_reducible (refine Sl.k_field ?_; refine s_ex hst (qt_fieldp evX hpe inX inX rfl) ?_; rintro vf hpf)) | (with_reducible (refine Sl.k_field ?_; refine s_ex hst (qt_fieldp evX hpm inX inX rfl) ?_; rintro vf hpf)) | (with_reducible (refine Sl.k_load ?_; refine s_qt hst (qt_ldp_flat (y := f.2.2.2.1) evX hpf inX inX rfl) ?_)) | (with_reducible refine Sl.k_bin ?_; (first | refine s_qt hst (qt_eql_b rfl rfl e1) ?_ | refine s_qt hst (qt_eql_b rfl rfl g1) ?_ | refine s_qt hst (qt_eql_b rfl rfl g2) ?_ | refine s_qt hst (qt_eql_b rfl rfl g3) ?_ | refine s_qt hst (qt_eql_b rfl rfl g4) ?_ | refine s_qt hst (qt_eqlK_b rfl rfl (r_dgd hd) (r_dgd rfl) inX inX inferInstance gy) ?_))) <;> (try refine nX ?_)) | ((fail_if_success (go_big_may)); (go_step)) | (((with_reducible refine Sl.k_load ?_; ((refine s_ex hst (qt_ldp_int evX asX inX) ?_; rintro v ⟨rfl, hI⟩)))) <;> (try refine nX ?_)) | (with_reducible refine Sl.gate rfl ?_; (go_step)))
  refine bodyPost_ret (results_tmp rfl _ _ _) rfl ?_
  exact ⟨_, rfl, by rw [hv]; rfl, St.weaken (hS1.trans hS2) hst⟩

set_option maxRecDepth 8000 in
set_option maxHeartbeats 2000000 in
theorem fv_11 {f : Fa} {b3 b4 k2 k3 k4 bt y : Bool} : FVal f true false b3 b4 true k2 k3 k4 bt y := by
  intro S M w hst cs hR ok H
  unfold Rets
  have hv := H.val ok
  obtain ⟨e1, e2, e3, e4, g1, g2, g3, g4, gt, gy⟩ := H
  have hd := ok.d
  have hml : f.2.2.1.2.2.2.1.length ≤ 1048576 := by have := ok.s; omega
  have g5 : decide ((f.2.1.b.length : Int) ≤ 1500) = true := decide_eq_true (by have := ok.t; omega)
  go_enter Tryd.func15, Tryd.ntmps15
  repeat' ((fail_if_success (with_reducible show Code.wp _ (Code.region 1 _ _) _ _ _)); first | ((fail_if_success (go_big_may)); (go_step)) | (((((refine s_box hst evX rfl ?_; clear hst; intro bx w hst)))) <;> (try refine nX ?_) <;> (try replace hst := nH hst)))
  obtain ⟨S1, hS1, hst, hpe⟩ := pt_box (α := Fa) hst hR (Rep.len hR)
  repeat' ((fail_if_success (with_reducible show Code.wp _ (Code.region 2 _ _) _ _ _)); first | ((first | (with_reducible (refine Sl.k_field ?_; refine s_ex hst (qt_fieldp evX hpe inX inX rfl) ?_; rintro vf hpf)) | (with_reducible (refine Sl.k_load ?_; refine s_ex hst (qt_ldp (y := f.2.2.1) evX hpf inX) ?_; rintro v7 ⟨cm, rfl, hcm⟩))) <;> (try refine nX ?_)) | ((fail_if_success (go_big_may)); (go_step)) | ((((first | (with_reducible refine Sl.k_store ?_; (refine s_stR hst rfl BoxIn.h evX asX inX rfl rfl ?_); clear hst; intro w hst) | (refine s_alloc hst inX ?_; clear hst; intro bk w hst)))) <;> (try refine nX ?_) <;> (try replace hst := nH hst)))
  obtain ⟨S2, hS2, hst, hpm⟩ := pt_box (α := MF) hst hcm (Rep.len hcm)
  replace hpe := hpe.mono hS2
  repeat' (first | go_skip | ((first | (with_reducible (refine Sl.k_field ?_; refine s_ex hst (qt_fieldp evX hpe inX inX rfl) ?_; rintro vf hpf)) | (with_reducible (refine Sl.k_field ?_; refine s_ex hst (qt_fieldp evX hpm inX inX rfl) ?_; rintro vf hpf)) | (with_reducible (refine Sl.k_load ?_; refine s_qt hst (qt_ldp_flat (y := f.2.2.2.1) evX hpf inX inX rfl) ?_)) | (with_reducible refine Sl.k_bin ?_; (first | refine s_qt hst (qt_eql_b rfl rfl e1) ?_ | refine s_qt hst (qt_eql_b rfl rfl e2) ?_ | refine s_qt hst (qt_eql_b rfl rfl g1) ?_ | refine s_qt hst (qt_eqlK_b rfl rfl (r_dgd hd) (r_dgd rfl) inX inX inferInstance gy) ?_)) | (with_reducible refine Sl.k_guard ?_; ((refine Sl.guard_yes rfl ?_)))) <;> (try refine nX ?_)) | ((fail_if_success (go_big_may)); (go_step)) | (((with_reducible refine Sl.k_load ?_; ((refine s_ex hst (qt_ldp_int evX asX inX) ?_; rintro v ⟨rfl, hI⟩)))) <;> (try refine nX ?_)) | (with_reducible refine Sl.gate rfl ?_; (go_step)))
  refine bodyPost_ret (results_tmp rfl _ _ _) rfl ?_
  exact ⟨_, rfl, by rw [hv]; rfl, St.weaken (hS1.trans hS2) hst⟩

set_option maxRecDepth 8000 in
set_option maxHeartbeats 2000000 in
theorem fv_210 {f : Fa} {b3 b4 k3 k4 bt : Bool} : FVal f true false b3 b4 false true k3 k4 bt false := by
  intro S M w hst cs hR ok H
  unfold Rets
  have hv := H.val ok
  obtain ⟨e1, e2, e3, e4, g1, g2, g3, g4, gt, gy⟩ := H
  have hd := ok.d
  have hml : f.2.2.1.2.2.2.1.length ≤ 1048576 := by have := ok.s; omega
  have g5 : decide ((f.2.1.b.length : Int) ≤ 1500) = true := decide_eq_true (by have := ok.t; omega)
  go_enter Tryd.func15, Tryd.ntmps15
  repeat' ((fail_if_success (with_reducible show Code.wp _ (Code.region 1 _ _) _ _ _)); first | ((fail_if_success (go_big_may)); (go_step)) | (((((refine s_box hst evX rfl ?_; clear hst; intro bx w hst)))) <;> (try refine nX ?_) <;> (try replace hst := nH hst)))
  obtain ⟨S1, hS1, hst, hpe⟩ := pt_box (α := Fa) hst hR (Rep.len hR)
  repeat' ((fail_if_success (with_reducible show Code.wp _ (Code.region 2 _ _) _ _ _)); first | ((first | (with_reducible (refine Sl.k_field ?_; refine s_ex hst (qt_fieldp evX hpe inX inX rfl) ?_; rintro vf hpf)) | (with_reducible (refine Sl.k_load ?_; refine s_ex hst (qt_ldp (y := f.2.2.1) evX hpf inX) ?_; rintro v7 ⟨cm, rfl, hcm⟩))) <;> (try refine nX ?_)) | ((fail_if_success (go_big_may)); (go_step)) | ((((first | (with_reducible refine Sl.k_store ?_; (refine s_stR hst rfl BoxIn.h evX asX inX rfl rfl ?_); clear hst; intro w hst) | (refine s_alloc hst inX ?_; clear hst; intro bk w hst)))) <;> (try refine nX ?_) <;> (try replace hst := nH hst)))
  obtain ⟨S2, hS2, hst, hpm⟩ := pt_box (α := MF) hst hcm (Rep.len hcm)
  replace hpe := hpe.mono hS2
  repeat' (first | go_skip | ((first | (with_reducible (refine Sl.k_field ?_; refine s_ex hst (qt_fieldp evX hpe inX inX rfl) ?_; rintro vf hpf)) | (with_reducible (refine Sl.k_field ?_; refine s_ex hst (qt_fieldp evX hpm inX inX rfl) ?_; rintro vf hpf)) | (with_reducible (refine Sl.k_load ?_; refine s_qt hst (qt_ldp_flat (y := f.2.2.2.1) evX hpf inX inX rfl) ?_)) | (with_reducible refine Sl.k_bin ?_; (first | refine s_qt hst (qt_eql_b rfl rfl e1) ?_ | refine s_qt hst (qt_eql_b rfl rfl e2) ?_ | refine s_qt hst (qt_eql_b rfl rfl g1) ?_ | refine s_qt hst (qt_eql_b rfl rfl g2) ?_ | refine s_qt hst (qt_eqlK_b rfl rfl (r_dgd hd) (r_dgd rfl) inX inX inferInstance gy) ?_)) | (with_reducible refine Sl.k_guard ?_; ((refine Sl.guard_yes rfl ?_)))) <;> (try refine nX ?_)) | ((fail_if_success (go_big_may)); (go_step)) | (((with_reducible refine Sl.k_load ?_; ((refine s_ex hst (qt_ldp_int evX asX inX) ?_; rintro v ⟨rfl, hI⟩)))) <;> (try refine nX ?_)) | (with_reducible refine Sl.gate rfl ?_; (go_step)))
  refine bodyPost_ret (results_tmp rfl _ _ _) rfl ?_
  exact ⟨_, rfl, by rw [hv]; rfl, St.weaken (hS1.trans hS2) hst⟩

set_option maxRecDepth 8000 in
set_option maxHeartbeats 2000000 in
theorem fv_211 {f : Fa} {b3 b4 k3 k4 : Bool} : FVal f true false b3 b4 false true k3 k4 false true := by
  intro S M w hst cs hR ok H
  unfold Rets
  have hv := H.val ok
  obtain ⟨e1, e2, e3, e4, g1, g2, g3, g4, gt, gy⟩ := H
  have hd := ok.d
  have hml : f.2.2.1.2.2.2.1.length ≤ 1048576 := by have := ok.s; omega
  have g5 : decide ((f.2.1.b.length : Int) ≤ 1500) = true := decide_eq_true (by have := ok.t; omega)
  go_enter Tryd.func15, Tryd.ntmps15
  repeat' ((fail_if_success (with_reducible show Code.wp _ (Code.region 1 _ _) _ _ _)); first | ((fail_if_success (go_big_may)); (go_step)) | (((((refine s_box hst evX rfl ?_; clear hst; intro bx w hst)))) <;> (try refine nX ?_) <;> (try replace hst := nH hst)))
  obtain ⟨S1, hS1, hst, hpe⟩ := pt_box (α := Fa) hst hR (Rep.len hR)
  repeat' ((fail_if_success (with_reducible show Code.wp _ (Code.region 2 _ _) _ _ _)); first | ((first | (with_reducible (refine Sl.k_field ?_; refine s_ex hst (qt_fieldp evX hpe inX inX rfl) ?_; rintro vf hpf)) | (with_reducible (refine Sl.k_load ?_; refine s_ex hst (qt_ldp (y := f.2.2.1) evX hpf inX) ?_; rintro v7 ⟨cm, rfl, hcm⟩))) <;> (try refine nX ?_)) | ((fail_if_success (go_big_may)); (go_step)) | ((((first | (with_reducible refine Sl.k_store ?_; (refine s_stR hst rfl BoxIn.h evX asX inX rfl rfl ?_); clear hst; intro w hst) | (refine s_alloc hst inX ?_; clear hst; intro bk w hst)))) <;> (try refine nX ?_) <;> (try replace hst := nH hst)))
  obtain ⟨S2, hS2, hst, hpm⟩ := pt_box (α := MF) hst hcm (Rep.len hcm)
  replace hpe := hpe.mono hS2
  repeat' (first | go_skip | ((first | (with_reducible (refine Sl.k_field ?_; refine s_ex hst (qt_fieldp evX hpe inX inX rfl) ?_; rintro vf hpf)) | (with_reducible (refine Sl.k_field ?_; refine s_ex hst (qt_fieldp evX hpm inX inX rfl) ?_; rintro vf hpf)) | (with_reducible (refine Sl.k_load ?_; refine s_qt hst (qt_ldp_flat (y := f.2.2.2.1) evX hpf inX inX rfl) ?_)) | (with_reducible refine Sl.k_bin ?_; (first | refine s_qt hst (qt_eql_b rfl rfl e1) ?_ | refine s_qt hst (qt_eql_b rfl rfl e2) ?_ | refine s_qt hst (qt_eql_b rfl rfl g1) ?_ | refine s_qt hst (qt_eql_b rfl rfl g2) ?_ | refine s_qt hst (qt_eql_str rfl rfl inX gt) ?_ | refine s_qt hst (qt_eqlK_b rfl rfl (r_dgd hd) (r_dgd rfl) inX inX inferInstance gy) ?_)) | (with_reducible refine Sl.k_guard ?_; ((refine Sl.guard_yes rfl ?_)))) <;> (try refine nX ?_)) | ((fail_if_success (go_big_may)); (go_step)) | (((with_reducible refine Sl.k_load ?_; (first | (refine s_ex hst (qt_ldp_int evX asX inX) ?_; rintro v ⟨rfl, hI⟩) | (refine s_ex hst (qt_ldp_str evX asX inX) ?_; rintro v ⟨rfl, hs⟩)))) <;> (try refine nX ?_)) | (with_reducible refine Sl.gate rfl ?_; (go_step)))
  refine bodyPost_ret (results_tmp rfl _ _ _) rfl ?_
  exact ⟨_, rfl, by rw [hv]; rfl, St.weaken (hS1.trans hS2) hst⟩

set_option maxRecDepth 8000 in
set_option maxHeartbeats 2000000 in
theorem fv_212 {f : Fa} {b3 b4 k3 k4 : Bool} : FVal f true false b3 b4 false true k3 k4 true true := by
  intro S M w hst cs hR ok H
  unfold Rets
  have hv := H.val ok
  obtain ⟨e1, e2, e3, e4, g1, g2, g3, g4, gt, gy⟩ := H
  have hd := ok.d
  have hml : f.2.2.1.2.2.2.1.length ≤ 1048576 := by have := ok.s; omega
  have g5 : decide ((f.2.1.b.length : Int) ≤ 1500) = true := decide_eq_true (by have := ok.t; omega)
  go_enter Tryd.func15, Tryd.ntmps15
  repeat' ((fail_if_success (with_reducible show Code.wp _ (Code.region 1 _ _) _ _ _)); first | ((fail_if_success (go_big_may)); (go_step)) | (((((refine s_box hst evX rfl ?_; clear hst; intro bx w hst)))) <;> (try refine nX ?_) <;> (try replace hst := nH hst)))
  obtain ⟨S1, hS1, hst, hpe⟩ := pt_box (α := Fa) hst hR (Rep.len hR)
  repeat' ((fail_if_success (with_reducible show Code.wp _ (Code.region 2 _ _) _ _ _)); first | ((first | (with_reducible (refine Sl.k_field ?_; refine s_ex hst (qt_fieldp evX hpe inX inX rfl) ?_; rintro vf hpf)) | (with_reducible (refine Sl.k_load ?_; refine s_ex hst (qt_ldp (y := f.2.2.1) evX hpf inX) ?_; rintro v7 ⟨cm, rfl, hcm⟩))) <;> (try refine nX ?_)) | ((fail_if_success (go_big_may)); (go_step)) | ((((first | (with_reducible refine Sl.k_store ?_; (refine s_stR hst rfl BoxIn.h evX asX inX rfl rfl ?_); clear hst; intro w hst) | (refine s_alloc hst inX ?_; clear hst; intro bk w hst)))) <;> (try refine nX ?_) <;> (try replace hst := nH hst)))
  obtain ⟨S2, hS2, hst, hpm⟩ := pt_box (α := MF) hst hcm (Rep.len hcm)
  replace hpe := hpe.mono hS2
  repeat' (first | go_skip | ((first | (with_reducible (refine Sl.k_field ?_; refine s_ex hst (qt_fieldp evX hpe inX inX rfl) ?_; rintro vf hpf)) | (with_reducible (refine Sl.k_field ?_; refine s_ex hst (qt_fieldp evX hpm inX inX rfl) ?_; rintro vf hpf)) | (with_reducible (refine Sl.k_load ?_; refine s_qt hst (qt_ldp_flat (y := f.2.2.2.1) evX hpf inX inX rfl) ?_)) | (with_reducible (refine Sl.k_load ?_; refine s_ex hst (qt_ldp (y := f.2.2.1) evX hpm inX) ?_; rintro v54 ⟨cm2, rfl, hcm2⟩)) | (with_reducible refine Sl.k_bin ?_; (first | refine s_qt hst (qt_eql_b rfl rfl e1) ?_ | refine s_qt hst (qt_eql_b rfl rfl e2) ?_ | refine s_qt hst (qt_eql_b rfl rfl g1) ?_ | refine s_qt hst (qt_eql_b rfl rfl g2) ?_ | refine s_qt hst (qt_eql_str rfl rfl inX gt) ?_ | refine s_qt hst (qt_eqlK_b rfl rfl (r_dgd hd) (r_dgd rfl) inX inX inferInstance gy) ?_)) | (with_reducible refine Sl.k_guard ?_; ((refine Sl.guard_yes rfl ?_)))) <;> (try refine nX ?_)) | (((with_reducible refine Sl.k_call ?_; ((refine s_call (mvalid_c _ hst cm2 f.2.2.1 hcm2 hml) inX rfl ?_; clear hst; rintro v w ⟨rfl, hst⟩)))) <;> (try refine nX ?_) <;> (try replace hst := nH hst)) | ((fail_if_success (go_big_may)); (go_step)) | (((with_reducible refine Sl.k_load ?_; (first | (refine s_ex hst (qt_ldp_int evX asX inX) ?_; rintro v ⟨rfl, hI⟩) | (refine s_ex hst (qt_ldp_str evX asX inX) ?_; rintro v ⟨rfl, hs⟩)))) <;> (try refine nX ?_)) | (with_reducible refine Sl.gate rfl ?_; (go_step)))
  refine bodyPost_ret (results_tmp rfl _ _ _) rfl ?_
  exact ⟨_, rfl, by rw [hv]; rfl, St.weaken (hS1.trans hS2) hst⟩

set_option maxRecDepth 8000 in
set_option maxHeartbeats 2000000 in
theorem fv_31 {f : Fa} {b3 b4 k4 bt y : Bool} : FVal f true false b3 b4 false false true k4 bt y := by
  intro S M w hst cs hR ok H
  unfold Rets
  have hv := H.val ok
  obtain ⟨e1, e2, e3, e4, g1, g2, g3, g4, gt, gy⟩ := H
  have hd := ok.d
  have hml : f.2.2.1.2.2.2.1.length ≤ 1048576 := by have := ok.s; omega
  have g5 : decide ((f.2.1.b.length : Int) ≤ 1500) = true := decide_eq_true (by have := ok.t; omega)
  go_enter Tryd.func15, Tryd.ntmps15
  repeat' ((fail_if_success (with_reducible show Code.wp _ (Code.region 1 _ _) _ _ _)); first | ((fail_if_success (go_big_may)); (go_step)) | (((((refine s_box hst evX rfl ?_; clear hst; intro bx w hst)))) <;> (try refine nX ?_) <;> (try replace hst := nH hst)))
  obtain ⟨S1, hS1, hst, hpe⟩ := pt_box (α := Fa) hst hR (Rep.len hR)
  repeat' ((fail_if_success (with_reducible show Code.wp _ (Code.region 2 _ _) _ _ _)); first | ((first | (with_reducible (refine Sl.k_field ?_; refine s_ex hst (qt_fieldp evX hpe inX inX rfl) ?_; rintro vf hpf)) | (with_reducible (refine Sl.k_load ?_; refine s_ex hst (qt_ldp (y := f.2.2.1) evX hpf inX) ?_; rintro v7 ⟨cm, rfl, hcm⟩))) <;> (try refine nX ?_)) | ((fail_if_success (go_big_may)); (go_step)) | ((((first | (with_reducible refine Sl.k_store ?_; (refine s_stR hst rfl BoxIn.h evX asX inX rfl rfl ?_); clear hst; intro w hst) | (refine s_alloc hst inX ?_; clear hst; intro bk w hst)))) <;> (try refine nX ?_) <;> (try replace hst := nH hst)))
  obtain ⟨S2, hS2, hst, hpm⟩ := pt_box (α := MF) hst hcm (Rep.len hcm)
  replace hpe := hpe.mono hS2
  repeat' (first | go_skip | ((first | (with_reducible (refine Sl.k_field ?_; refine s_ex hst (qt_fieldp evX hpe inX inX rfl) ?_; rintro vf hpf)) | (with_reducible (refine Sl.k_field ?_; refine s_ex hst (qt_fieldp evX hpm inX inX rfl) ?_; rintro vf hpf)) | (with_reducible (refine Sl.k_load ?_; refine s_qt hst (qt_ldp_flat (y := f.2.2.2.1) evX hpf inX inX rfl) ?_)) | (with_reducible refine Sl.k_bin ?_; (first | refine s_qt hst (qt_eql_b rfl rfl e1) ?_ | refine s_qt hst (qt_eql_b rfl rfl e2) ?_ | refine s_qt hst (qt_eql_b rfl rfl g1) ?_ | refine s_qt hst (qt_eql_b rfl rfl g2) ?_ | refine s_qt hst (qt_eql_b rfl rfl g3) ?_ | refine s_qt hst (qt_eqlK_b rfl rfl (r_dgd hd) (r_dgd rfl) inX inX inferInstance gy) ?_)) | (with_reducible refine Sl.k_guard ?_; ((refine Sl.guard_yes rfl ?_)))) <;> (try refine nX ?_)) | ((fail_if_success (go_big_may)); (go_step)) | (((with_reducible refine Sl.k_load ?_; ((refine s_ex hst (qt_ldp_int evX asX inX) ?_; rintro v ⟨rfl, hI⟩)))) <;> (try refine nX ?_)) | (with_reducible refine Sl.gate rfl ?_; (go_step)))
  refine bodyPost_ret (results_tmp rfl _ _ _) rfl ?_
  exact ⟨_, rfl, by rw [hv]; rfl, St.weaken (hS1.trans hS2) hst⟩

set_option maxRecDepth 8000 in
set_option maxHeartbeats 2000000 in
theorem fv_41 {f : Fa} {b3 b4 bt y : Bool} : FVal f true false b3 b4 false false false true bt y := by
  intro S M w hst cs hR ok H
  unfold Rets
  have hv := H.val ok
  obtain ⟨e1, e2, e3, e4, g1, g2, g3, g4, gt, gy⟩ := H
  have hd := ok.d
  have hml : f.2.2.1.2.2.2.1.length ≤ 1048576 := by have := ok.s; omega
  have g5 : decide ((f.2.1.b.length : Int) ≤ 1500) = true := decide_eq_true (by have := ok.t; omega)
  go_enter Tryd.func15, Tryd.ntmps15
  repeat' ((fail_if_success (with_reducible show Code.wp _ (Code.region 1 _ _) _ _ _)); first | ((fail_if_success (go_big_may)); (go_step)) | (((((refine s_box hst evX rfl ?_; clear hst; intro bx w hst)))) <;> (try refine nX ?_) <;> (try replace hst := nH hst)))
  obtain ⟨S1, hS1, hst, hpe⟩ := pt_box (α := Fa) hst hR (Rep.len hR)
  repeat' ((fail_if_success (with_reducible show Code.wp _ (Code.region 2 _ _) _ _ _)); first | ((first | (with_reducible (refine Sl.k_field ?_; refine s_ex hst (qt_fieldp evX hpe inX inX rfl) ?_; rintro vf hpf)) | (with_reducible (refine Sl.k_load ?_; refine s_ex hst (qt_ldp (y := f.2.2.1) evX hpf inX) ?_; rintro v7 ⟨cm, rfl, hcm⟩))) <;> (try refine nX ?_)) | ((fail_if_success (go_big_may)); (go_step)) | ((((first | (with_reducible refine Sl.k_store ?_; (refine s_stR hst rfl BoxIn.h evX asX inX rfl rfl ?_); clear hst; intro w hst) | (refine s_alloc hst inX ?_; clear hst; intro bk w hst)))) <;> (try refine nX ?_) <;> (try replace hst := nH hst)))
  obtain ⟨S2, hS2, hst, hpm⟩ := pt_box (α := MF) hst hcm (Rep.len hcm)
  replace hpe := hpe.mono hS2
  repeat' (first | go_skip | ((first | (with_reducible (refine Sl.k_field ?_; refine s_ex hst (qt_fieldp evX hpe inX inX rfl) ?_; rintro vf hpf)) | (with_reducible (refine Sl.k_field ?_; refine s_ex hst (qt_fieldp evX hpm inX inX rfl) ?_; rintro vf hpf)) | (with_reducible (refine Sl.k_load ?_; refine s_qt hst (qt_ldp_flat (y := f.2.2.2.1) evX hpf inX inX rfl) ?_)) | (with_reducible refine Sl.k_bin ?_; (first | refine s_qt hst (qt_eql_b rfl rfl e1) ?_ | refine s_qt hst (qt_eql_b rfl rfl e2) ?_ | refine s_qt hst (qt_eql_b rfl rfl g1) ?_ | refine s_qt hst (qt_eql_b rfl rfl g2) ?_ | refine s_qt hst (qt_eql_b rfl rfl g3) ?_ | refine s_qt hst (qt_eql_b rfl rfl g4) ?_ | refine s_qt hst (qt_eqlK_b rfl rfl (r_dgd hd) (r_dgd rfl) inX inX inferInstance gy) ?_)) | (with_reducible refine Sl.k_guard ?_; ((refine Sl.guard_yes rfl ?_)))) <;> (try refine nX ?_)) | ((fail_if_success (go_big_may)); (go_step)) | (((with_reducible refine Sl.k_load ?_; ((refine s_ex hst (qt_ldp_int evX asX inX) ?_; rintro v ⟨rfl, hI⟩)))) <;> (try refine nX ?_)) | (with_reducible refine Sl.gate rfl ?_; (go_step)))
  refine bodyPost_ret (results_tmp rfl _ _ _) rfl ?_
  exact ⟨_, rfl, by rw [hv]; rfl, St.weaken (hS1.trans hS2) hst⟩

set_option maxRecDepth 8000 in
set_option maxHeartbeats 2000000 in
theorem fv_51 {f : Fa} {b3 b4 bt y : Bool} : FVal f true false b3 b4 false false false false bt y := by
  intro S M w hst cs hR ok H
  unfold Rets
  have hv := H.val ok
  obtain ⟨e1, e2, e3, e4, g1, g2, g3, g4, gt, gy⟩ := H
  have hd := ok.d
  have hml : f.2.2.1.2.2.2.1.length ≤ 1048576 := by have := ok.s; omega
  have g5 : decide ((f.2.1.b.length : Int) ≤ 1500) = true := decide_eq_true (by have := ok.t; omega)
  go_enter Tryd.func15, Tryd.ntmps15
  repeat' ((fail_if_success (with_reducible show Code.wp _ (Code.region 1 _ _) _ _ _)); first | ((fail_if_success (go_big_may)); (go_step)) | (((((refine s_box hst evX rfl ?_; clear hst; intro bx w hst)))) <;> (try refine nX ?_) <;> (try replace hst := nH hst)))
  obtain ⟨S1, hS1, hst, hpe⟩ := pt_box (α := Fa) hst hR (Rep.len hR)
  repeat' ((fail_if_success (with_reducible show Code.wp _ (Code.region 2 _ _) _ _ _)); first | ((first | (with_reducible (refine Sl.k_field ?_; refine s_ex hst (qt_fieldp evX hpe inX inX rfl) ?_; rintro vf hpf)) | (with_reducible (refine Sl.k_load ?_; refine s_ex hst (qt_ldp (y := f.2.2.1) evX hpf inX) ?_; rintro v7 ⟨cm, rfl, hcm⟩))) <;> (try refine nX ?_)) | ((fail_if_success (go_big_may)); (go_step)) | ((((first | (with_reducible refine Sl.k_store ?_; (refine s_stR hst rfl BoxIn.h evX asX inX rfl rfl ?_); clear hst; intro w hst) | (refine s_alloc hst inX ?_; clear hst; intro bk w hst)))) <;> (try refine nX ?_) <;> (try replace hst := nH hst)))
  obtain ⟨S2, hS2, hst, hpm⟩ := pt_box (α := MF) hst hcm (Rep.len hcm)
  replace hpe := hpe.mono hS2
  repeat' (first | go_skip | ((first | (with_reducible (refine Sl.k_field ?_; refine s_ex hst (qt_fieldp evX hpe inX inX rfl) ?_; rintro vf hpf)) | (with_reducible (refine Sl.k_field ?_; refine s_ex hst (qt_fieldp evX hpm inX inX rfl) ?_; rintro vf hpf)) | (with_reducible (refine Sl.k_load ?_; refine s_qt hst (qt_ldp_flat (y := f.2.2.2.1) evX hpf inX inX rfl) ?_)) | (with_reducible refine Sl.k_bin ?_; (first | refine s_qt hst (qt_eql_b rfl rfl e1) ?_ | refine s_qt hst (qt_eql_b rfl rfl e2) ?_ | refine s_qt hst (qt_eql_b rfl rfl g1) ?_ | refine s_qt hst (qt_eql_b rfl rfl g2) ?_ | refine s_qt hst (qt_eql_b rfl rfl g3) ?_ | refine s_qt hst (qt_eql_b rfl rfl g4) ?_ | refine s_qt hst (qt_eqlK_b rfl rfl (r_dgd hd) (r_dgd rfl) inX inX inferInstance gy) ?_)) | (with_reducible refine Sl.k_guard ?_; ((refine Sl.guard_yes rfl ?_)))) <;> (try refine nX ?_)) | ((fail_if_success (go_big_may)); (go_step)) | (((with_reducible refine Sl.k_load ?_; ((refine s_ex hst (qt_ldp_int evX asX inX) ?_; rintro v ⟨rfl, hI⟩)))) <;> (try refine nX ?_)) | (with_reducible refine Sl.gate rfl ?_; (go_step)))
  refine bodyPost_ret (results_tmp rfl _ _ _) rfl ?_
  exact ⟨_, rfl, by rw [hv]; rfl, St.weaken (hS1.trans hS2) hst⟩

set_option maxRecDepth 8000 in
set_option maxHeartbeats 2000000 in
theorem fv_12 {f : Fa} {b4 k2 k3 k4 bt y : Bool} : FVal f true true false b4 true k2 k3 k4 bt y := by
  intro S M w hst cs hR ok H
  unfold Rets
  have hv := H.val ok
  obtain ⟨e1, e2, e3, e4, g1, g2, g3, g4, gt, gy⟩ := H
  have hd := ok.d
  have hml : f.2.2.1.2.2.2.1.length ≤ 1048576 := by have := ok.s; omega
  have g5 : decide ((f.2.1.b.length : Int) ≤ 1500) = true := decide_eq_true (by have := ok.t; omega)
  go_enter Tryd.func15, Tryd.ntmps15
  repeat' ((fail_if_success (with_reducible show Code.wp _ (Code.region 1 _ _) _ _ _)); first | ((fail_if_success (go_big_may)); (go_step)) | (((((refine s_box hst evX rfl ?_; clear hst; intro bx w hst)))) <;> (try refine nX ?_) <;> (try replace hst := nH hst)))
  obtain ⟨S1, hS1, hst, hpe⟩ := pt_box (α := Fa) hst hR (Rep.len hR)
  repeat' ((fail_if_success (with_reducible show Code.wp _ (Code.region 2 _ _) _ _ _)); first | ((first | (with_reducible (refine Sl.k_field ?_; refine s_ex hst (qt_fieldp evX hpe inX inX rfl) ?_; rintro vf hpf)) | (with_reducible (refine Sl.k_load ?_; refine s_ex hst (qt_ldp (y := f.2.2.1) evX hpf inX) ?_; rintro v7 ⟨cm, rfl, hcm⟩))) <;> (try refine nX ?_)) | ((fail_if_success (go_big_may)); (go_step)) | ((((first | (with_reducible refine Sl.k_store ?_; (refine s_stR hst rfl BoxIn.h evX asX inX rfl rfl ?_); clear hst; intro w hst) | (refine s_alloc hst inX ?_; clear hst; intro bk w hst)))) <;> (try refine nX ?_) <;> (try replace hst := nH hst)))
  obtain ⟨S2, hS2, hst, hpm⟩ := pt_box (α := MF) hst hcm (Rep.len hcm)
  replace hpe := hpe.mono hS2
  repeat' (first | go_skip | ((first | (with_reducible (refine Sl.k_field ?_; refine s_ex hst (qt_fieldp evX hpe inX inX rfl) ?_; rintro vf hpf)) | (with_reducible (refine Sl.k_field ?_; refine s_ex hst (qt_fieldp evX hpm inX inX rfl) ?_; rintro vf hpf)) | (with_reducible (refine Sl.k_load ?_; refine s_qt hst (qt_ldp_flat (y := f.2.2.2.1) evX hpf inX inX rfl) ?_)) | (with_reducible refine Sl.k_bin ?_; (first | refine s_qt hst (qt_eql_b rfl rfl e1) ?_ | refine s_qt hst (qt_eql_b rfl rfl e2) ?_ | refine s_qt hst (qt_eql_b rfl rfl e3) ?_ | refine s_qt hst (qt_eql_b rfl rfl g1) ?_ | refine s_qt hst (qt_eqlK_b rfl rfl (r_dgd hd) (r_dgd rfl) inX inX inferInstance gy) ?_)) | (with_reducible refine Sl.k_guard ?_; ((refine Sl.guard_yes rfl ?_)))) <;> (try refine nX ?_)) | ((fail_if_success (go_big_may)); (go_step)) | (((with_reducible refine Sl.k_load ?_; ((refine s_ex hst (qt_ldp_int evX asX inX) ?_; rintro v ⟨rfl, hI⟩)))) <;> (try refine nX ?_)) | (with_reducible refine Sl.gate rfl ?_; (go_step)))
  refine bodyPost_ret (results_tmp rfl _ _ _) rfl ?_
  exact ⟨_, rfl, by rw [hv]; rfl, St.weaken (hS1.trans hS2) hst⟩

set_option maxRecDepth 8000 in
set_option maxHeartbeats 2000000 in
theorem fv_220 {f : Fa} {b4 k3 k4 bt : Bool} : FVal f true true false b4 false true k3 k4 bt false := by
  intro S M w hst cs hR ok H
  unfold Rets
  have hv := H.val ok
  obtain ⟨e1, e2, e3, e4, g1, g2, g3, g4, gt, gy⟩ := H
  have hd := ok.d
  have hml : f.2.2.1.2.2.2.1.length ≤ 1048576 := by have := ok.s; omega
  have g5 : decide ((f.2.1.b.length : Int) ≤ 1500) = true := decide_eq_true (by have := ok.t; omega)
  go_enter Tryd.func15, Tryd.ntmps15
  repeat' ((fail_if_success (with_reducible show Code.wp _ (Code.region 1 _ _) _ _ _)); first | ((fail_if_success (go_big_may)); (go_step)) | (((((refine s_box hst evX rfl ?_; clear hst; intro bx w hst)))) <;> (try refine nX ?_) <;> (try replace hst := nH hst)))
  obtain ⟨S1, hS1, hst, hpe⟩ := pt_box (α := Fa) hst hR (Rep.len hR)
  repeat' ((fail_if_success (with_reducible show Code.wp _ (Code.region 2 _ _) _ _ _)); first | ((first | (with_reducible (refine Sl.k_field ?_; refine s_ex hst (qt_fieldp evX hpe inX inX rfl) ?_; rintro vf hpf)) | (with_reducible (refine Sl.k_load ?_; refine s_ex hst (qt_ldp (y := f.2.2.1) evX hpf inX) ?_; rintro v7 ⟨cm, rfl, hcm⟩))) <;> (try refine nX ?_)) | ((fail_if_success (go_big_may)); (go_step)) | ((((first | (with_reducible refine Sl.k_store ?_; (refine s_stR hst rfl BoxIn.h evX asX inX rfl rfl ?_); clear hst; intro w hst) | (refine s_alloc hst inX ?_; clear hst; intro bk w hst)))) <;> (try refine nX ?_) <;> (try replace hst := nH hst)))
  obtain ⟨S2, hS2, hst, hpm⟩ := pt_box (α := MF) hst hcm (Rep.len hcm)
  replace hpe := hpe.mono hS2
  repeat' (first | go_skip | ((first | (with_reducible (refine Sl.k_field ?_; refine s_ex hst (qt_fieldp evX hpe inX inX rfl) ?_; rintro vf hpf)) | (with_reducible (refine Sl.k_field ?_; refine s_ex hst (qt_fieldp evX hpm inX inX rfl) ?_; rintro vf hpf)) | (with_reducible (refine Sl.k_load ?_; refine s_qt hst (qt_ldp_flat (y := f.2.2.2.1) evX hpf inX inX rfl) ?_)) | (with_reducible refine Sl.k_bin ?_; (first | refine s_qt hst (qt_eql_b rfl rfl e1) ?_ | refine s_qt hst (qt_eql_b rfl rfl e2) ?_ | refine s_qt hst (qt_eql_b rfl rfl e3) ?_ | refine s_qt hst (qt_eql_b rfl rfl g1) ?_ | refine s_qt hst (qt_eql_b rfl rfl g2) ?_ | refine s_qt hst (qt_eqlK_b rfl rfl (r_dgd hd) (r_dgd rfl) inX inX inferInstance gy) ?_)) | (with_reducible refine Sl.k_guard ?_; ((refine Sl.guard_yes rfl ?_)))) <;> (try refine nX ?_)) | ((fail_if_success (go_big_may)); (go_step)) | (((with_reducible refine Sl.k_load ?_; ((refine s_ex hst (qt_ldp_int evX asX inX) ?_; rintro v ⟨rfl, hI⟩)))) <;> (try refine nX ?_)) | (with_reducible refine Sl.gate rfl ?_; (go_step)))
  refine bodyPost_ret (results_tmp rfl _ _ _) rfl ?_
  exact ⟨_, rfl, by rw [hv]; rfl, St.weaken (hS1.trans hS2) hst⟩

set_option maxRecDepth 8000 in
set_option maxHeartbeats 2000000 in
theorem fv_221 {f : Fa} {b4 k3 k4 : Bool} : FVal f true true false b4 false true k3 k4 false true := by
  intro S M w hst cs hR ok H
  unfold Rets
  have hv := H.val ok
  obtain ⟨e1, e2, e3, e4, g1, g2, g3, g4, gt, gy⟩ := H
  have hd := ok.d
  have hml : f.2.2.1.2.2.2.1.length ≤ 1048576 := by have := ok.s; omega
  have g5 : decide ((f.2.1.b.length : Int) ≤ 1500) = true := decide_eq_true (by have := ok.t; omega)
  go_enter Tryd.func15, Tryd.ntmps15
  repeat' ((fail_if_success (with_reducible show Code.wp _ (Code.region 1 _ _) _ _ _)); first | ((fail_if_success (go_big_may)); (go_step)) | (((((refine s_box hst evX rfl ?_; clear hst; intro bx w hst)))) <;> (try refine nX ?_) <;> (try replace hst := nH hst)))
  obtain ⟨S1, hS1, hst, hpe⟩ := pt_box (α := Fa) hst hR (Rep.len hR)
  repeat' ((fail_if_success (with_reducible show Code.wp _ (Code.region 2 _ _) _ _ _)); first | ((first | (with_reducible (refine Sl.k_field ?_; refine s_ex hst (qt_fieldp evX hpe inX inX rfl) ?_; rintro vf hpf)) | (with_reducible (refine Sl.k_load ?_; refine s_ex hst (qt_ldp (y := f.2.2.1) evX hpf inX) ?_; rintro v7 ⟨cm, rfl, hcm⟩))) <;> (try refine nX ?_)) | ((fail_if_success (go_big_may)); (go_step)) | ((((first | (with_reducible refine Sl.k_store ?_; (refine s_stR hst rfl BoxIn.h evX asX inX rfl rfl ?_); clear hst; intro w hst) | (refine s_alloc hst inX ?_; clear hst; intro bk w hst)))) <;> (try refine nX ?_) <;> (try replace hst := nH hst)))
  obtain ⟨S2, hS2, hst, hpm⟩ := pt_box (α := MF) hst hcm (Rep.len hcm)
  replace hpe := hpe.mono hS2
  repeat' (first | go_skip | ((first | (with_reducible (refine Sl.k_field ?_; refine s_ex hst (qt_fieldp evX hpe inX inX rfl) ?_; rintro vf hpf)) | (with_reducible (refine Sl.k_field ?_; refine s_ex hst (qt_fieldp evX hpm inX inX rfl) ?_; rintro vf hpf)) | (with_reducible (refine Sl.k_load ?_; refine s_qt hst (qt_ldp_flat (y := f.2.2.2.1) evX hpf inX inX rfl) ?_)) | (with_reducible refine Sl.k_bin ?_; (first | refine s_qt hst (qt_eql_b rfl rfl e1) ?_ | refine s_qt hst (qt_eql_b rfl rfl e2) ?_ | refine s_qt hst (qt_eql_b rfl rfl e3) ?_ | refine s_qt hst (qt_eql_b rfl rfl g1) ?_ | refine s_qt hst (qt_eql_b rfl rfl g2) ?_ | refine s_qt hst (qt_eql_str rfl rfl inX gt) ?_ | refine s_qt hst (qt_eqlK_b rfl rfl (r_dgd hd) (r_dgd rfl) inX inX inferInstance gy) ?_)) | (with_reducible refine Sl.k_guard ?_; ((refine Sl.guard_yes rfl ?_)))) <;> (try refine nX ?_)) | ((fail_if_success (go_big_may)); (go_step)) | (((with_reducible refine Sl.k_load ?_; (first | (refine s_ex hst (qt_ldp_int evX asX inX) ?_; rintro v ⟨rfl, hI⟩) | (refine s_ex hst (qt_ldp_str evX asX inX) ?_; rintro v ⟨rfl, hs⟩)))) <;> (try refine nX ?_)) | (with_reducible refine Sl.gate rfl ?_; (go_step)))
  refine bodyPost_ret (results_tmp rfl _ _ _) rfl ?_
  exact ⟨_, rfl, by rw [hv]; rfl, St.weaken (hS1.trans hS2) hst⟩

set_option maxRecDepth 8000 in
set_option maxHeartbeats 2000000 in
theorem fv_222 {f : Fa} {b4 k3 k4 : Bool} : FVal f true true false b4 false true k3 k4 true true := by
  intro S M w hst cs hR ok H
  unfold Rets
  have hv := H.val ok
  obtain ⟨e1, e2, e3, e4, g1, g2, g3, g4, gt, gy⟩ := H
  have hd := ok.d
  have hml : f.2.2.1.2.2.2.1.length ≤ 1048576 := by have := ok.s; omega
  have g5 : decide ((f.2.1.b.length : Int) ≤ 1500) = true := decide_eq_true (by have := ok.t; omega)
  go_enter Tryd.func15, Tryd.ntmps15
  repeat' ((fail_if_success (with_reducible show Code.wp _ (Code.region 1 _ _) _ _ _)); first | ((fail_if_success (go_big_may)); (go_step)) | (((((refine s_box hst evX rfl ?_; clear hst; intro bx w hst)))) <;> (try refine nX ?_) <;> (try replace hst := nH hst)))
  obtain ⟨S1, hS1, hst, hpe⟩ := pt_box (α := Fa) hst hR (Rep.len hR)
  repeat' ((fail_if_success (with_reducible show Code.wp _ (Code.region 2 _ _) _ _ _)); first | ((first | (with_reducible (refine Sl.k_field ?_; refine s_ex hst (qt_fieldp evX hpe inX inX rfl) ?_; rintro vf hpf)) | (with_reducible (refine Sl.k_load ?_; refine s_ex hst (qt_ldp (y := f.2.2.1) evX hpf inX) ?_; rintro v7 ⟨cm, rfl, hcm⟩))) <;> (try refine nX ?_)) | ((fail_if_success (go_big_may)); (go_step)) | ((((first | (with_reducible refine Sl.k_store ?_; (refine s_stR hst rfl BoxIn.h evX asX inX rfl rfl ?_); clear hst; intro w hst) | (refine s_alloc hst inX ?_; clear hst; intro bk w hst)))) <;> (try refine nX ?_) <;> (try replace hst := nH hst)))
  obtain ⟨S2, hS2, hst, hpm⟩ := pt_box (α := MF) hst hcm (Rep.len hcm)
  replace hpe := hpe.mono hS2
  repeat' (first | go_skip | ((first | (with_reducible (refine Sl.k_field ?_; refine s_ex hst (qt_fieldp evX hpe inX inX rfl) ?_; rintro vf hpf)) | (with_reducible (refine Sl.k_field ?_; refine s_ex hst (qt_fieldp evX hpm inX inX rfl) ?_; rintro vf hpf)) | (with_reducible (refine Sl.k_load ?_; refine s_qt hst (qt_ldp_flat (y := f.2.2.2.1) evX hpf inX inX rfl) ?_)) | (with_reducible (refine Sl.k_load ?_; refine s_ex hst (qt_ldp (y := f.2.2.1) evX hpm inX) ?_; rintro v54 ⟨cm2, rfl, hcm2⟩)) | (with_reducible refine Sl.k_bin ?_; (first | refine s_qt hst (qt_eql_b rfl rfl e1) ?_ | refine s_qt hst (qt_eql_b rfl rfl e2) ?_ | refine s_qt hst (qt_eql_b rfl rfl e3) ?_ | refine s_qt hst (qt_eql_b rfl rfl g1) ?_ | refine s_qt hst (qt_eql_b rfl rfl g2) ?_ | refine s_qt hst (qt_eql_str rfl rfl inX gt) ?_ | refine s_qt hst (qt_eqlK_b rfl rfl (r_dgd hd) (r_dgd rfl) inX inX inferInstance gy) ?_)) | (with_reducible refine Sl.k_guard ?_; ((refine Sl.guard_yes rfl ?_)))) <;> (try refine nX ?_)) | (((with_reducible refine Sl.k_call ?_; ((refine s_call (mvalid_c _ hst cm2 f.2.2.1 hcm2 hml) inX rfl ?_; clear hst; rintro v w ⟨rfl, hst⟩)))) <;> (try refine nX ?_) <;> (try replace hst := nH hst)) | ((fail_if_success (go_big_may)); (go_step)) | (((with_reducible refine Sl.k_load ?_; (first | (refine s_ex hst (qt_ldp_int evX asX inX) ?_; rintro v ⟨rfl, hI⟩) | (refine s_ex hst (qt_ldp_str evX asX inX) ?_; rintro v ⟨rfl, hs⟩)))) <;> (try refine nX ?_)) | (with_reducible refine Sl.gate rfl ?_; (go_step)))
  refine bodyPost_ret (results_tmp rfl _ _ _) rfl ?_
  exact ⟨_, rfl, by rw [hv]; rfl, St.weaken (hS1.trans hS2) hst⟩

set_option maxRecDepth 8000 in
set_option maxHeartbeats 2000000 in
theorem fv_32 {f : Fa} {b4 k4 bt y : Bool} : FVal f true true false b4 false false true k4 bt y := by
  intro S M w hst cs hR ok H
  unfold Rets
  have hv := H.val ok
  obtain ⟨e1, e2, e3, e4, g1, g2, g3, g4, gt, gy⟩ := H
  have hd := ok.d
  have hml : f.2.2.1.2.2.2.1.length ≤ 1048576 := by have := ok.s; omega
  have g5 : decide ((f.2.1.b.length : Int) ≤ 1500) = true := decide_eq_true (by have := ok.t; omega)
  go_enter Tryd.func15, Tryd.ntmps15
  repeat' ((fail_if_success (with_reducible show Code.wp _ (Code.region 1 _ _) _ _ _)); first | ((fail_if_success (go_big_may)); (go_step)) | (((((refine s_box hst evX rfl ?_; clear hst; intro bx w hst)))) <;> (try refine nX ?_) <;> (try replace hst := nH hst)))
  obtain ⟨S1, hS1, hst, hpe⟩ := pt_box (α := Fa) hst hR (Rep.len hR)
  repeat' ((fail_if_success (with_reducible show Code.wp _ (Code.region 2 _ _) _ _ _)); first | ((first | (with_reducible (refine Sl.k_field ?_; refine s_ex hst (qt_fieldp evX hpe inX inX rfl) ?_; rintro vf hpf)) | (with_reducible (refine Sl.k_load ?_; refine s_ex hst (qt_ldp (y := f.2.2.1) evX hpf inX) ?_; rintro v7 ⟨cm, rfl, hcm⟩))) <;> (try refine nX ?_)) | ((fail_if_success (go_big_may)); (go_step)) | ((((first | (with_reducible refine Sl.k_store ?_; (refine s_stR hst rfl BoxIn.h evX asX inX rfl rfl ?_); clear hst; intro w hst) | (refine s_alloc hst inX ?_; clear hst; intro bk w hst)))) <;> (try refine nX ?_) <;> (try replace hst := nH hst)))
  obtain ⟨S2, hS2, hst, hpm⟩ := pt_box (α := MF) hst hcm (Rep.len hcm)
  replace hpe := hpe.mono hS2
  repeat' (first | go_skip | ((first | (with_reducible (refine Sl.k_field ?_; refine s_ex hst (qt_fieldp evX hpe inX inX rfl) ?_; rintro vf hpf)) | (with_reducible (refine Sl.k_field ?_; refine s_ex hst (qt_fieldp evX hpm inX inX rfl) ?_; rintro vf hpf)) | (with_reducible (refine Sl.k_load ?_; refine s_qt hst (qt_ldp_flat (y := f.2.2.2.1) evX hpf inX inX rfl) ?_)) | (with_reducible refine Sl.k_bin ?_; (first | refine s_qt hst (qt_eql_b rfl rfl e1) ?_ | refine s_qt hst (qt_eql_b rfl rfl e2) ?_ | refine s_qt hst (qt_eql_b rfl rfl e3) ?_ | refine s_qt hst (qt_eql_b rfl rfl g1) ?_ | refine s_qt hst (qt_eql_b rfl rfl g2) ?_ | refine s_qt hst (qt_eql_b rfl rfl g3) ?_ | refine s_qt hst (qt_eqlK_b rfl rfl (r_dgd hd) (r_dgd rfl) inX inX inferInstance gy) ?_)) | (with_reducible refine Sl.k_guard ?_; ((refine Sl.guard_yes rfl ?_)))) <;> (try refine nX ?_)) | ((fail_if_success (go_big_may)); (go_step)) | (((with_reducible refine Sl.k_load ?_; ((refine s_ex hst (qt_ldp_int evX asX inX) ?_; rintro v ⟨rfl, hI⟩)))) <;> (try refine nX ?_)) | (with_reducible refine Sl.gate rfl ?_; (go_step)))
  refine bodyPost_ret (results_tmp rfl _ _ _) rfl ?_
  exact ⟨_, rfl, by rw [hv]; rfl, St.weaken (hS1.trans hS2) hst⟩

set_option maxRecDepth 8000 in
set_option maxHeartbeats 2000000 in
theorem fv_42 {f : Fa} {b4 bt y : Bool} : FVal f true true false b4 false false false true bt y := by
  intro S M w hst cs hR ok H
  unfold Rets
  have hv := H.val ok
  obtain ⟨e1, e2, e3, e4, g1, g2, g3, g4, gt, gy⟩ := H
  have hd := ok.d
  have hml : f.2.2.1.2.2.2.1.length ≤ 1048576 := by have := ok.s; omega
  have g5 : decide ((f.2.1.b.length : Int) ≤ 1500) = true := decide_eq_true (by have := ok.t; omega)
  go_enter Tryd.func15, Tryd.ntmps15
  repeat' ((fail_if_success (with_reducible show Code.wp _ (Code.region 1 _ _) _ _ _)); first | ((fail_if_success (go_big_may)); (go_step)) | (((((refine s_box hst evX rfl ?_; clear hst; intro bx w hst)))) <;> (try refine nX ?_) <;> (try replace hst := nH hst)))
  obtain ⟨S1, hS1, hst, hpe⟩ := pt_box (α := Fa) hst hR (Rep.len hR)
  repeat' ((fail_if_success (with_reducible show Code.wp _ (Code.region 2 _ _) _ _ _)); first | ((first | (with_reducible (refine Sl.k_field ?_; refine s_ex hst (qt_fieldp evX hpe inX inX rfl) ?_; rintro vf hpf)) | (with_reducible (refine Sl.k_load ?_; refine s_ex hst (qt_ldp (y := f.2.2.1) evX hpf inX) ?_; rintro v7 ⟨cm, rfl, hcm⟩))) <;> (try refine nX ?_)) | ((fail_if_success (go_big_may)); (go_step)) | ((((first | (with_reducible refine Sl.k_store ?_; (refine s_stR hst rfl BoxIn.h evX asX inX rfl rfl ?_); clear hst; intro w hst) | (refine s_alloc hst inX ?_; clear hst; intro bk w hst)))) <;> (try refine nX ?_) <;> (try replace hst := nH hst)))
  obtain ⟨S2, hS2, hst, hpm⟩ := pt_box (α := MF) hst hcm (Rep.len hcm)
  replace hpe := hpe.mono hS2
  repeat' (first | go_skip | ((first | (with_reducible (refine Sl.k_field ?_; refine s_ex hst (qt_fieldp evX hpe inX inX rfl) ?_; rintro vf hpf)) | (with_reducible (refine Sl.k_field ?_; refine s_ex hst (qt_fieldp evX hpm inX inX rfl) ?_; rintro vf hpf)) | (with_reducible (refine Sl.k_load ?_; refine s_qt hst (qt_ldp_flat (y := f.2.2.2.1) evX hpf inX inX rfl) ?_)) | (with_reducible refine Sl.k_bin ?_; (first | refine s_qt hst (qt_eql_b rfl rfl e1) ?_ | refine s_qt hst (qt_eql_b rfl rfl e2) ?_ | refine s_qt hst (qt_eql_b rfl rfl e3) ?_ | refine s_qt hst (qt_eql_b rfl rfl g1) ?_ | refine s_qt hst (qt_eql_b rfl rfl g2) ?_ | refine s_qt hst (qt_eql_b rfl rfl g3) ?_ | refine s_qt hst (qt_eql_b rfl rfl g4) ?_ | refine s_qt hst (qt_eqlK_b rfl rfl (r_dgd hd) (r_dgd rfl) inX inX inferInstance gy) ?_)) | (with_reducible refine Sl.k_guard ?_; ((refine Sl.guard_yes rfl ?_)))) <;> (try refine nX ?_)) | ((fail_if_success (go_big_may)); (go_step)) | (((with_reducible refine Sl.k_load ?_; ((refine s_ex hst (qt_ldp_int evX asX inX) ?_; rintro v ⟨rfl, hI⟩)))) <;> (try refine nX ?_)) | (with_reducible refine Sl.gate rfl ?_; (go_step)))
  refine bodyPost_ret (results_tmp rfl _ _ _) rfl ?_
  exact ⟨_, rfl, by rw [hv]; rfl, St.weaken (hS1.trans hS2) hst⟩

set_option maxRecDepth 8000 in
set_option maxHeartbeats 2000000 in
theorem fv_52 {f : Fa} {b4 bt y : Bool} : FVal f true true false b4 false false false false bt y := by
  intro S M w hst cs hR ok H
  unfold Rets
  have hv := H.val ok
  obtain ⟨e1, e2, e3, e4, g1, g2, g3, g4, gt, gy⟩ := H
  have hd := ok.d
  have hml : f.2.2.1.2.2.2.1.length ≤ 1048576 := by have := ok.s; omega
  have g5 : decide ((f.2.1.b.length : Int) ≤ 1500) = true := decide_eq_true (by have := ok.t; omega)
  go_enter Tryd.func15, Tryd.ntmps15
  repeat' ((fail_if_success (with_reducible show Code.wp _ (Code.region 1 _ _) _ _ _)); first | ((fail_if_success (go_big_may)); (go_step)) | (((((refine s_box hst evX rfl ?_; clear hst; intro bx w hst)))) <;> (try refine nX ?_) <;> (try replace hst := nH hst)))
  obtain ⟨S1, hS1, hst, hpe⟩ := pt_box (α := Fa) hst hR (Rep.len hR)
  repeat' ((fail_if_success (with_reducible show Code.wp _ (Code.region 2 _ _) _ _ _)); first | ((first | (with_reducible (refine Sl.k_field ?_; refine s_ex hst (qt_fieldp evX hpe inX inX rfl) ?_; rintro vf hpf)) | (with_reducible (refine Sl.k_load ?_; refine s_ex hst (qt_ldp (y := f.2.2.1) evX hpf inX) ?_; rintro v7 ⟨cm, rfl, hcm⟩))) <;> (try refine nX ?_)) | ((fail_if_success (go_big_may)); (go_step)) | ((((first | (with_reducible refine Sl.k_store ?_; (refine s_stR hst rfl BoxIn.h evX asX inX rfl rfl ?_); clear hst; intro w hst) | (refine s_alloc hst inX ?_; clear hst; intro bk w hst)))) <;> (try refine nX ?_) <;> (try replace hst := nH hst)))
  obtain ⟨S2, hS2, hst, hpm⟩ := pt_box (α := MF) hst hcm (Rep.len hcm)
  replace hpe := hpe.mono hS2
  repeat' (first | go_skip | ((first | (with_reducible (refine Sl.k_field ?_; refine s_ex hst (qt_fieldp evX hpe inX inX rfl) ?_; rintro vf hpf)) | (with_reducible (refine Sl.k_field ?_; refine s_ex hst (qt_fieldp evX hpm inX inX rfl) ?_; rintro vf hpf)) | (with_reducible (refine Sl.k_load ?_; refine s_qt hst (qt_ldp_flat (y := f.2.2.2.1) evX hpf inX inX rfl) ?_)) | (with_reducible refine Sl.k_bin ?_; (first | refine s_qt hst (qt_eql_b rfl rfl e1) ?_ | refine s_qt hst (qt_eql_b rfl rfl e2) ?_ | refine s_qt hst (qt_eql_b rfl rfl e3) ?_ | refine s_qt hst (qt_eql_b rfl rfl g1) ?_ | refine s_qt hst (qt_eql_b rfl rfl g2) ?_ | refine s_qt hst (qt_eql_b rfl rfl g3) ?_ | refine s_qt hst (qt_eql_b rfl rfl g4) ?_ | refine s_qt hst (qt_eqlK_b rfl rfl (r_dgd hd) (r_dgd rfl) inX inX inferInstance gy) ?_)) | (with_reducible refine Sl.k_guard ?_; ((refine Sl.guard_yes rfl ?_)))) <;> (try refine nX ?_)) | ((fail_if_success (go_big_may)); (go_step)) | (((with_reducible refine Sl.k_load ?_; ((refine s_ex hst (qt_ldp_int evX asX inX) ?_; rintro v ⟨rfl, hI⟩)))) <;> (try refine nX ?_)) | (with_reducible refine Sl.gate rfl ?_; (go_step)))
  refine bodyPost_ret (results_tmp rfl _ _ _) rfl ?_
  exact ⟨_, rfl, by rw [hv]; rfl, St.weaken (hS1.trans hS2) hst⟩

set_option maxRecDepth 8000 in
set_option maxHeartbeats 2000000 in
theorem fv_13 {f : Fa} {k2 k3 k4 bt y : Bool} : FVal f true true true false true k2 k3 k4 bt y := by
  intro S M w hst cs hR ok H
  unfold Rets
  have hv := H.val ok
  obtain ⟨e1, e2, e3, e4, g1, g2, g3, g4, gt, gy⟩ := H
  have hd := ok.d
  have hml : f.2.2.1.2.2.2.1.length ≤ 1048576 := by have := ok.s; omega
  have g5 : decide ((f.2.1.b.length : Int) ≤ 1500) = true := decide_eq_true (by have := ok.t; omega)
  go_enter Tryd.func15, Tryd.ntmps15
  repeat' ((fail_if_success (with_reducible show Code.wp _ (Code.region 1 _ _) _ _ _)); first | ((fail_if_success (go_big_may)); (go_step)) | (((((refine s_box hst evX rfl ?_; clear hst; intro bx w hst)))) <;> (try refine nX ?_) <;> (try replace hst := nH hst)))
  obtain ⟨S1, hS1, hst, hpe⟩ := pt_box (α := Fa) hst hR (Rep.len hR)
  repeat' ((fail_if_success (with_reducible show Code.wp _ (Code.region 2 _ _) _ _ _)); first | ((first | (with_reducible (refine Sl.k_field ?_; refine s_ex hst (qt_fieldp evX hpe inX inX rfl) ?_; rintro vf hpf)) | (with_reducible (refine Sl.k_load ?_; refine s_ex hst (qt_ldp (y := f.2.2.1) evX hpf inX) ?_; rintro v7 ⟨cm, rfl, hcm⟩))) <;> (try refine nX ?_)) | ((fail_if_success (go_big_may)); (go_step)) | ((((first | (with_reducible refine Sl.k_store ?_; (refine s_stR hst rfl BoxIn.h evX asX inX rfl rfl ?_); clear hst; intro w hst) | (refine s_alloc hst inX ?_; clear hst; intro bk w hst)))) <;> (try refine nX ?_) <;> (try replace hst := nH hst)))
  obtain ⟨S2, hS2, hst, hpm⟩ := pt_box (α := MF) hst hcm (Rep.len hcm)
  replace hpe := hpe.mono hS2
  repeat' (first | go_skip | ((first | (with_reducible (refine Sl.k_field ?_; refine s_ex hst (qt_fieldp evX hpe inX inX rfl) ?_; rintro vf hpf)) | (with_reducible (refine Sl.k_field ?_; refine s_ex hst (qt_fieldp evX hpm inX inX rfl) ?_; rintro vf hpf)) | (with_reducible (refine Sl.k_load ?_; refine s_qt hst (qt_ldp_flat (y := f.2.2.2.1) evX hpf inX inX rfl) ?_)) | (with_reducible refine Sl.k_bin ?_; (first | refine s_qt hst (qt_eql_b rfl rfl e1) ?_ | refine s_qt hst (qt_eql_b rfl rfl e2) ?_ | refine s_qt hst (qt_eql_b rfl rfl e3) ?_ | refine s_qt hst (qt_eql_b rfl rfl e4) ?_ | refine s_qt hst (qt_eql_b rfl rfl g1) ?_ | refine s_qt hst (qt_eqlK_b rfl rfl (r_dgd hd) (r_dgd rfl) inX inX inferInstance gy) ?_)) | (with_reducible refine Sl.k_guard ?_; ((refine Sl.guard_yes rfl ?_)))) <;> (try refine nX ?_)) | ((fail_if_success (go_big_may)); (go_step)) | ((first | (with_reducible refine Sl.k_load ?_; (first | (refine s_ex hst (qt_ldp_int evX asX inX) ?_; rintro v ⟨rfl, hI⟩) | (refine s_ex hst (qt_ldp_list evX asX inX) ?_; rintro v ⟨hvl, hv1⟩))) | (with_reducible refine Sl.k_call ?_; (refine s_qt hst (by exact qt_len evX asX inX) ?_))) <;> (try refine nX ?_)) | (with_reducible refine Sl.gate rfl ?_; (go_step)))
  refine bodyPost_ret (results_tmp rfl _ _ _) rfl ?_
  exact ⟨_, rfl, by rw [hv]; rfl, St.weaken (hS1.trans hS2) hst⟩

set_option maxRecDepth 8000 in
set_option maxHeartbeats 2000000 in
theorem fv_230 {f : Fa} {k3 k4 bt : Bool} : FVal f true true true false false true k3 k4 bt false := by
  intro S M w hst cs hR ok H
  unfold Rets
  have hv := H.val ok
  obtain ⟨e1, e2, e3, e4, g1, g2, g3, g4, gt, gy⟩ := H
  have hd := ok.d
  have hml : f.2.2.1.2.2.2.1.length ≤ 1048576 := by have := ok.s; omega
  have g5 : decide ((f.2.1.b.length : Int) ≤ 1500) = true := decide_eq_true (by have := ok.t; omega)
  go_enter Tryd.func15, Tryd.ntmps15
  repeat' ((fail_if_success (with_reducible show Code.wp _ (Code.region 1 _ _) _ _ _)); first | ((fail_if_success (go_big_may)); (go_step)) | (((((refine s_box hst evX rfl ?_; clear hst; intro bx w hst)))) <;> (try refine nX ?_) <;> (try replace hst := nH hst)))
  obtain ⟨S1, hS1, hst, hpe⟩ := pt_box (α := Fa) hst hR (Rep.len hR)
  repeat' ((fail_if_success (with_reducible show Code.wp _ (Code.region 2 _ _) _ _ _)); first | ((first | (with_reducible (refine Sl.k_field ?_; refine s_ex hst (qt_fieldp evX hpe inX inX rfl) ?_; rintro vf hpf)) | (with_reducible (refine Sl.k_load ?_; refine s_ex hst (qt_ldp (y := f.2.2.1) evX hpf inX) ?_; rintro v7 ⟨cm, rfl, hcm⟩))) <;> (try refine nX ?_)) | ((fail_if_success (go_big_may)); (go_step)) | ((((first | (with_reducible refine Sl.k_store ?_; (refine s_stR hst rfl BoxIn.h evX asX inX rfl rfl ?_); clear hst; intro w hst) | (refine s_alloc hst inX ?_; clear hst; intro bk w hst)))) <;> (try refine nX ?_) <;> (try replace hst := nH hst)))
  obtain ⟨S2, hS2, hst, hpm⟩ := pt_box (α := MF) hst hcm (Rep.len hcm)
  replace hpe := hpe.mono hS2
  repeat' (first | go_skip | ((first | (with_reducible (refine Sl.k_field ?_; refine s_ex hst (qt_fieldp evX hpe inX inX rfl) ?_; rintro vf hpf)) | (with_reducible (refine Sl.k_field ?_; refine s_ex hst (qt_fieldp evX hpm inX inX rfl) ?_; rintro vf hpf)) | (with_reducible (refine Sl.k_load ?_; refine s_qt hst (qt_ldp_flat (y := f.2.2.2.1) evX hpf inX inX rfl) ?_)) | (with_reducible refine Sl.k_bin ?_; (first | refine s_qt hst (qt_eql_b rfl rfl e1) ?_ | refine s_qt hst (qt_eql_b rfl rfl e2) ?_ | refine s_qt hst (qt_eql_b rfl rfl e3) ?_ | refine s_qt hst (qt_eql_b rfl rfl e4) ?_ | refine s_qt hst (qt_eql_b rfl rfl g1) ?_ | refine s_qt hst (qt_eql_b rfl rfl g2) ?_ | refine s_qt hst (qt_eqlK_b rfl rfl (r_dgd hd) (r_dgd rfl) inX inX inferInstance gy) ?_)) | (with_reducible refine Sl.k_guard ?_; ((refine Sl.guard_yes rfl ?_)))) <;> (try refine nX ?_)) | ((fail_if_success (go_big_may)); (go_step)) | ((first | (with_reducible refine Sl.k_load ?_; (first | (refine s_ex hst (qt_ldp_int evX asX inX) ?_; rintro v ⟨rfl, hI⟩) | (refine s_ex hst (qt_ldp_list evX asX inX) ?_; rintro v ⟨hvl, hv1⟩))) | (with_reducible refine Sl.k_call ?_; (refine s_qt hst (by exact qt_len evX asX inX) ?_))) <;> (try refine nX ?_)) | (with_reducible refine Sl.gate rfl ?_; (go_step)))
  refine bodyPost_ret (results_tmp rfl _ _ _) rfl ?_
  exact ⟨_, rfl, by rw [hv]; rfl, St.weaken (hS1.trans hS2) hst⟩

set_option maxRecDepth 8000 in
set_option maxHeartbeats 2000000 in
theorem fv_231 {f : Fa} {k3 k4 : Bool} : FVal f true true true false false true k3 k4 false true := by
  intro S M w hst cs hR ok H
  unfold Rets
  have hv := H.val ok
  obtain ⟨e1, e2, e3, e4, g1, g2, g3, g4, gt, gy⟩ := H
  have hd := ok.d
  have hml : f.2.2.1.2.2.2.1.length ≤ 1048576 := by have := ok.s; omega
  have g5 : decide ((f.2.1.b.length : Int) ≤ 1500) = true := decide_eq_true (by have := ok.t; omega)
  go_enter Tryd.func15, Tryd.ntmps15
  repeat' ((fail_if_success (with_reducible show Code.wp _ (Code.region 1 _ _) _ _ _)); first | ((fail_if_success (go_big_may)); (go_step)) | (((((refine s_box hst evX rfl ?_; clear hst; intro bx w hst)))) <;> (try refine nX ?_) <;> (try replace hst := nH hst)))
  obtain ⟨S1, hS1, hst, hpe⟩ := pt_box (α := Fa) hst hR (Rep.len hR)
  repeat' ((fail_if_success (with_reducible show Code.wp _ (Code.region 2 _ _) _ _ _)); first | ((first | (with_reducible (refine Sl.k_field ?_; refine s_ex hst (qt_fieldp evX hpe inX inX rfl) ?_; rintro vf hpf)) | (with_reducible (refine Sl.k_load ?_; refine s_ex hst (qt_ldp (y := f.2.2.1) evX hpf inX) ?_; rintro v7 ⟨cm, rfl, hcm⟩))) <;> (try refine nX ?_)) | ((fail_if_success (go_big_may)); (go_step)) | ((((first | (with_reducible refine Sl.k_store ?_; (refine s_stR hst rfl BoxIn.h evX asX inX rfl rfl ?_); clear hst; intro w hst) | (refine s_alloc hst inX ?_; clear hst; intro bk w hst)))) <;> (try refine nX ?_) <;> (try replace hst := nH hst)))
  obtain ⟨S2, hS2, hst, hpm⟩ := pt_box (α := MF) hst hcm (Rep.len hcm)
  replace hpe := hpe.mono hS2
  repeat' (first | go_skip | ((first | (with_reducible (refine Sl.k_field ?_; refine s_ex hst (qt_fieldp evX hpe inX inX rfl) ?_; rintro vf hpf)) | (with_reducible (refine Sl.k_field ?_; refine s_ex hst (qt_fieldp evX hpm inX inX rfl) ?_; rintro vf hpf)) | (with_reducible (refine Sl.k_load ?_; refine s_qt hst (qt_ldp_flat (y := f.2.2.2.1) evX hpf inX inX rfl) ?_)) | (with_reducible refine Sl.k_bin ?_; (first | refine s_qt hst (qt_eql_b rfl rfl e1) ?_ | refine s_qt hst (qt_eql_b rfl rfl e2) ?_ | refine s_qt hst (qt_eql_b rfl rfl e3) ?_ | refine s_qt hst (qt_eql_b rfl rfl e4) ?_ | refine s_qt hst (qt_eql_b rfl rfl g1) ?_ | refine s_qt hst (qt_eql_b rfl rfl g2) ?_ | refine s_qt hst (qt_eql_str rfl rfl inX gt) ?_ | refine s_qt hst (qt_eqlK_b rfl rfl (r_dgd hd) (r_dgd rfl) inX inX inferInstance gy) ?_)) | (with_reducible refine Sl.k_guard ?_; ((refine Sl.guard_yes rfl ?_)))) <;> (try refine nX ?_)) | ((fail_if_success (go_big_may)); (go_step)) | ((first | (with_reducible refine Sl.k_load ?_; (first | (refine s_ex hst (qt_ldp_int evX asX inX) ?_; rintro v ⟨rfl, hI⟩) | (refine s_ex hst (qt_ldp_str evX asX inX) ?_; rintro v ⟨rfl, hs⟩) | (refine s_ex hst (qt_ldp_list evX asX inX) ?_; rintro v ⟨hvl, hv1⟩))) | (with_reducible refine Sl.k_call ?_; (refine s_qt hst (by exact qt_len evX asX inX) ?_))) <;> (try refine nX ?_)) | (with_reducible refine Sl.gate rfl ?_; (go_step)))
  refine bodyPost_ret (results_tmp rfl _ _ _) rfl ?_
  exact ⟨_, rfl, by rw [hv]; rfl, St.weaken (hS1.trans hS2) hst⟩

set_option maxRecDepth 8000 in
set_option maxHeartbeats 2000000 in
theorem fv_232 {f : Fa} {k3 k4 : Bool} : FVal f true true true false false true k3 k4 true true := by
  intro S M w hst cs hR ok H
  unfold Rets
  have hv := H.val ok
  obtain ⟨e1, e2, e3, e4, g1, g2, g3, g4, gt, gy⟩ := H
  have hd := ok.d
  have hml : f.2.2.1.2.2.2.1.length ≤ 1048576 := by have := ok.s; omega
  have g5 : decide ((f.2.1.b.length : Int) ≤ 1500) = true := decide_eq_true (by have := ok.t; omega)
  go_enter Tryd.func15, Tryd.ntmps15
  repeat' ((fail_if_success (with_reducible show Code.wp _ (Code.region 1 _ _) _ _ _)); first | ((fail_if_success (go_big_may)); (go_step)) | (((((refine s_box hst evX rfl ?_; clear hst; intro bx w hst)))) <;> (try refine nX ?_) <;> (try replace hst := nH hst)))
  obtain ⟨S1, hS1, hst, hpe⟩ := pt_box (α := Fa) hst hR (Rep.len hR)
  repeat' ((fail_if_success (with_reducible show Code.wp _ (Code.region 2 _ _) _ _ _)); first | ((first | (with_reducible (refine Sl.k_field ?_; refine s_ex hst (qt_fieldp evX hpe inX inX rfl) ?_; rintro vf hpf)) | (with_reducible (refine Sl.k_load ?_; refine s_ex hst (qt_ldp (y := f.2.2.1) evX hpf inX) ?_; rintro v7 ⟨cm, rfl, hcm⟩))) <;> (try refine nX ?_)) | ((fail_if_success (go_big_may)); (go_step)) | ((((first | (with_reducible refine Sl.k_store ?_; (refine s_stR hst rfl BoxIn.h evX asX inX rfl rfl ?_); clear hst; intro w hst) | (refine s_alloc hst inX ?_; clear hst; intro bk w hst)))) <;> (try refine nX ?_) <;> (try replace hst := nH hst)))
  obtain ⟨S2, hS2, hst, hpm⟩ := pt_box (α := MF) hst hcm (Rep.len hcm)
  replace hpe := hpe.mono hS2
  repeat' (first | ((first | (with_reducible (refine Sl.k_field ?_; refine s_ex hst (qt_fieldp evX hpe inX inX rfl) ?_; rintro vf hpf)) | (with_reducible (refine Sl.k_field ?_; refine s_ex hst (qt_fieldp evX hpm inX inX rfl) ?_; rintro vf hpf)) | (with_reducible (refine Sl.k_load ?_; refine s_qt hst (qt_ldp_flat (y := f.2.2.2.1) evX hpf inX inX rfl) ?_)) | (with_reducible (refine Sl.k_load ?_; refine s_ex hst (qt_ldp (y := f.2.2.1) evX hpm inX) ?_; rintro v54 ⟨cm2, rfl, hcm2⟩)) | (with_reducible refine Sl.k_bin ?_; (first | refine s_qt hst (qt_eql_b rfl rfl e1) ?_ | refine s_qt hst (qt_eql_b rfl rfl e2) ?_ | refine s_qt hst (qt_eql_b rfl rfl e3) ?_ | refine s_qt hst (qt_eql_b rfl rfl e4) ?_ | refine s_qt hst (qt_eql_b rfl rfl g1) ?_ | refine s_qt hst (qt_eql_b rfl rfl g2) ?_ | refine s_qt hst (qt_eql_str rfl rfl inX gt) ?_ | refine s_qt hst (qt_eqlK_b rfl rfl (r_dgd hd) (r_dgd rfl) inX inX inferInstance gy) ?_)) | (with_reducible refine Sl.k_guard ?_; ((refine Sl.guard_yes rfl ?_)))) <;> (try refine nX ?_)) | (((with_reducible refine Sl.k_call ?_; ((refine s_call (mvalid_c _ hst cm2 f.2.2.1 hcm2 hml) inX rfl ?_; clear hst; rintro v w ⟨rfl, hst⟩)))) <;> (try refine nX ?_) <;> (try replace hst := nH hst)) | ((fail_if_success (go_big_may)); (go_step)) | ((first | (with_reducible refine Sl.k_load ?_; (first | (refine s_ex hst (qt_ldp_int evX asX inX) ?_; rintro v ⟨rfl, hI⟩) | (refine s_ex hst (qt_ldp_str evX asX inX) ?_; rintro v ⟨rfl, hs⟩) | (refine s_ex hst (qt_ldp_list evX asX inX) ?_; rintro v ⟨hvl, hv1⟩))) | (with_reducible refine Sl.k_call ?_; (refine s_qt hst (by exact qt_len evX asX inX) ?_))) <;> (try refine nX ?_)) | (with_reducible refine Sl.gate rfl ?_; (go_step)))
  refine bodyPost_ret (results_tmp rfl _ _ _) rfl ?_
  exact ⟨_, rfl, by rw [hv]; rfl, St.weaken (hS1.trans hS2) hst⟩

set_option maxRecDepth 8000 in
set_option maxHeartbeats 2000000 in
theorem fv_33 {f : Fa} {k4 bt y : Bool} : FVal f true true true false false false true k4 bt y := by
  intro S M w hst cs hR ok H
  unfold Rets
  have hv := H.val ok
  obtain ⟨e1, e2, e3, e4, g1, g2, g3, g4, gt, gy⟩ := H
  have hd := ok.d
  have hml : f.2.2.1.2.2.2.1.length ≤ 1048576 := by have := ok.s; omega
  have g5 : decide ((f.2.1.b.length : Int) ≤ 1500) = true := decide_eq_true (by have := ok.t; omega)
  go_enter Tryd.func15, Tryd.ntmps15
  repeat' ((fail_if_success (with_reducible show Code.wp _ (Code.region 1 _ _) _ _ _)); first | ((fail_if_success (go_big_may)); (go_step)) | (((((refine s_box hst evX rfl ?_; clear hst; intro bx w hst)))) <;> (try refine nX ?_) <;> (try replace hst := nH hst)))
  obtain ⟨S1, hS1, hst, hpe⟩ := pt_box (α := Fa) hst hR (Rep.len hR)
  repeat' ((fail_if_success (with_reducible show Code.wp _ (Code.region 2 _ _) _ _ _)); first | ((first | (with_reducible (refine Sl.k_field ?_; refine s_ex hst (qt_fieldp evX hpe inX inX rfl) ?_; rintro vf hpf)) | (with_reducible (refine Sl.k_load ?_; refine s_ex hst (qt_ldp (y := f.2.2.1) evX hpf inX) ?_; rintro v7 ⟨cm, rfl, hcm⟩))) <;> (try refine nX ?_)) | ((fail_if_success (go_big_may)); (go_step)) | ((((first | (with_reducible refine Sl.k_store ?_; (refine s_stR hst rfl BoxIn.h evX asX inX rfl rfl ?_); clear hst; intro w hst) | (refine s_alloc hst inX ?_; clear hst; intro bk w hst)))) <;> (try refine nX ?_) <;> (try replace hst := nH hst)))
  obtain ⟨S2, hS2, hst, hpm⟩ := pt_box (α := MF) hst hcm (Rep.len hcm)
  replace hpe := hpe.mono hS2
  repeat' (first | go_skip | ((first | (with_reducible (refine Sl.k_field ?_; refine s_ex hst (qt_fieldp evX hpe inX inX rfl) ?_; rintro vf hpf)) | (with_reducible (refine Sl.k_field ?_; refine s_ex hst (qt_fieldp evX hpm inX inX rfl) ?_; rintro vf hpf)) | (with_reducible (refine Sl.k_load ?_; refine s_qt hst (qt_ldp_flat (y := f.2.2.2.1) evX hpf inX inX rfl) ?_)) | (with_reducible refine Sl.k_bin ?_; (first | refine s_qt hst (qt_eql_b rfl rfl e1) ?_ | refine s_qt hst (qt_eql_b rfl rfl e2) ?_ | refine s_qt hst (qt_eql_b rfl rfl e3) ?_ | refine s_qt hst (qt_eql_b rfl rfl e4) ?_ | refine s_qt hst (qt_eql_b rfl rfl g1) ?_ | refine s_qt hst (qt_eql_b rfl rfl g2) ?_ | refine s_qt hst (qt_eql_b rfl rfl g3) ?_ | refine s_qt hst (qt_eqlK_b rfl rfl (r_dgd hd) (r_dgd rfl) inX inX inferInstance gy) ?_)) | (with_reducible refine Sl.k_guard ?_; ((refine Sl.guard_yes rfl ?_)))) <;> (try refine nX ?_)) | ((fail_if_success (go_big_may)); (go_step)) | ((first | (with_reducible refine Sl.k_load ?_; (first | (refine s_ex hst (qt_ldp_int evX asX inX) ?_; rintro v ⟨rfl, hI⟩) | (refine s_ex hst (qt_ldp_list evX asX inX) ?_; rintro v ⟨hvl, hv1⟩))) | (with_reducible refine Sl.k_call ?_; (refine s_qt hst (by exact qt_len evX asX inX) ?_))) <;> (try refine nX ?_)) | (with_reducible refine Sl.gate rfl ?_; (go_step)))
  refine bodyPost_ret (results_tmp rfl _ _ _) rfl ?_
  exact ⟨_, rfl, by rw [hv]; rfl, St.weaken (hS1.trans hS2) hst⟩

set_option maxRecDepth 8000 in
set_option maxHeartbeats 2000000 in
theorem fv_43 {f : Fa} {bt y : Bool} : FVal f true true true false false false false true bt y := by
  intro S M w hst cs hR ok H
  unfold Rets
  have hv := H.val ok
  obtain ⟨e1, e2, e3, e4, g1, g2, g3, g4, gt, gy⟩ := H
  have hd := ok.d
  have hml : f.2.2.1.2.2.2.1.length ≤ 1048576 := by have := ok.s; omega
  have g5 : decide ((f.2.1.b.length : Int) ≤ 1500) = true := decide_eq_true (by have := ok.t; omega)
  go_enter Tryd.func15, Tryd.ntmps15
  repeat' ((fail_if_success (with_reducible show Code.wp _ (Code.region 1 _ _) _ _ _)); first | ((fail_if_success (go_big_may)); (go_step)) | (((((refine s_box hst evX rfl ?_; clear hst; intro bx w hst)))) <;> (try refine nX ?_) <;> (try replace hst := nH hst)))
  obtain ⟨S1, hS1, hst, hpe⟩ := pt_box (α := Fa) hst hR (Rep.len hR)
  repeat' ((fail_if_success (with_reducible show Code.wp _ (Code.region 2 _ _) _ _ _)); first | ((first | (with_reducible (refine Sl.k_field ?_; refine s_ex hst (qt_fieldp evX hpe inX inX rfl) ?_; rintro vf hpf)) | (with_reducible (refine Sl.k_load ?_; refine s_ex hst (qt_ldp (y := f.2.2.1) evX hpf inX) ?_; rintro v7 ⟨cm, rfl, hcm⟩))) <;> (try refine nX ?_)) | ((fail_if_success (go_big_may)); (go_step)) | ((((first | (with_reducible refine Sl.k_store ?_; (refine s_stR hst rfl BoxIn.h evX asX inX rfl rfl ?_); clear hst; intro w hst) | (refine s_alloc hst inX ?_; clear hst; intro bk w hst)))) <;> (try refine nX ?_) <;> (try replace hst := nH hst)))
  obtain ⟨S2, hS2, hst, hpm⟩ := pt_box (α := MF) hst hcm (Rep.len hcm)
  replace hpe := hpe.mono hS2
  repeat' (first | go_skip | ((first | (with_reducible (refine Sl.k_field ?_; refine s_ex hst (qt_fieldp evX hpe inX inX rfl) ?_; rintro vf hpf)) | (with_reducible (refine Sl.k_field ?_; refine s_ex hst (qt_fieldp evX hpm inX inX rfl) ?_; rintro vf hpf)) | (with_reducible (refine Sl.k_load ?_; refine s_qt hst (qt_ldp_flat (y := f.2.2.2.1) evX hpf inX inX rfl) ?_)) | (with_reducible refine Sl.k_bin ?_; (first | refine s_qt hst (qt_eql_b rfl rfl e1) ?_ | refine s_qt hst (qt_eql_b rfl rfl e2) ?_ | refine s_qt hst (qt_eql_b rfl rfl e3) ?_ | refine s_qt hst (qt_eql_b rfl rfl e4) ?_ | refine s_qt hst (qt_eql_b rfl rfl g1) ?_ | refine s_qt hst (qt_eql_b rfl rfl g2) ?_ | refine s_qt hst (qt_eql_b rfl rfl g3) ?_ | refine s_qt hst (qt_eql_b rfl rfl g4) ?_ | refine s_qt hst (qt_eqlK_b rfl rfl (r_dgd hd) (r_dgd rfl) inX inX inferInstance gy) ?_)) | (with_reducible refine Sl.k_guard ?_; ((refine Sl.guard_yes rfl ?_)))) <;> (try refine nX ?_)) | ((fail_if_success (go_big_may)); (go_step)) | ((first | (with_reducible refine Sl.k_load ?_; (first | (refine s_ex hst (qt_ldp_int evX asX inX) ?_; rintro v ⟨rfl, hI⟩) | (refine s_ex hst (qt_ldp_list evX asX inX) ?_; rintro v ⟨hvl, hv1⟩))) | (with_reducible refine Sl.k_call ?_; (refine s_qt hst (by exact qt_len evX asX inX) ?_))) <;> (try refine nX ?_)) | (with_reducible refine Sl.gate rfl ?_; (go_step)))
  refine bodyPost_ret (results_tmp rfl _ _ _) rfl ?_
  exact ⟨_, rfl, by rw [hv]; rfl, St.weaken (hS1.trans hS2) hst⟩

set_option maxRecDepth 8000 in
set_option maxHeartbeats 2000000 in
theorem fv_53 {f : Fa} {bt y : Bool} : FVal f true true true false false false false false bt y := by
  intro S M w hst cs hR ok H
  unfold Rets
  have hv := H.val ok
  obtain ⟨e1, e2, e3, e4, g1, g2, g3, g4, gt, gy⟩ := H
  have hd := ok.d
  have hml : f.2.2.1.2.2.2.1.length ≤ 1048576 := by have := ok.s; omega
  have g5 : decide ((f.2.1.b.length : Int) ≤ 1500) = true := decide_eq_true (by have := ok.t; omega)
  go_enter Tryd.func15, Tryd.ntmps15
  repeat' ((fail_if_success (with_reducible show Code.wp _ (Code.region 1 _ _) _ _ _)); first | ((fail_if_success (go_big_may)); (go_step)) | (((((refine s_box hst evX rfl ?_; clear hst; intro bx w hst)))) <;> (try refine nX ?_) <;> (try replace hst := nH hst)))
  obtain ⟨S1, hS1, hst, hpe⟩ := pt_box (α := Fa) hst hR (Rep.len hR)
  repeat' ((fail_if_success (with_reducible show Code.wp _ (Code.region 2 _ _) _ _ _)); first | ((first | (with_reducible (refine Sl.k_field ?_; refine s_ex hst (qt_fieldp evX hpe inX inX rfl) ?_; rintro vf hpf)) | (with_reducible (refine Sl.k_load ?_; refine s_ex hst (qt_ldp (y := f.2.2.1) evX hpf inX) ?_; rintro v7 ⟨cm, rfl, hcm⟩))) <;> (try refine nX ?_)) | ((fail_if_success (go_big_may)); (go_step)) | ((((first | (with_reducible refine Sl.k_store ?_; (refine s_stR hst rfl BoxIn.h evX asX inX rfl rfl ?_); clear hst; intro w hst) | (refine s_alloc hst inX ?_; clear hst; intro bk w hst)))) <;> (try refine nX ?_) <;> (try replace hst := nH hst)))
  obtain ⟨S2, hS2, hst, hpm⟩ := pt_box (α := MF) hst hcm (Rep.len hcm)
  replace hpe := hpe.mono hS2
  repeat' (first | ((first | (with_reducible (refine Sl.k_field ?_; refine s_ex hst (qt_fieldp evX hpe inX inX rfl) ?_; rintro vf hpf)) | (with_reducible (refine Sl.k_field ?_; refine s_ex hst (qt_fieldp evX hpm inX inX rfl) ?_; rintro vf hpf)) | (with_reducible (refine Sl.k_load ?_; refine s_qt hst (qt_ldp_flat (y := f.2.2.2.1) evX hpf inX inX rfl) ?_)) | (with_reducible refine Sl.k_bin ?_; (first | refine s_qt hst (qt_eql_b rfl rfl e1) ?_ | refine s_qt hst (qt_eql_b rfl rfl e2) ?_ | refine s_qt hst (qt_eql_b rfl rfl e3) ?_ | refine s_qt hst (qt_eql_b rfl rfl e4) ?_ | refine s_qt hst (qt_eql_b rfl rfl g1) ?_ | refine s_qt hst (qt_eql_b rfl rfl g2) ?_ | refine s_qt hst (qt_eql_b rfl rfl g3) ?_ | refine s_qt hst (qt_eql_b rfl rfl g4) ?_ | refine s_qt hst (qt_eqlK_b rfl rfl (r_dgd hd) (r_dgd rfl) inX inX inferInstance gy) ?_)) | (with_reducible refine Sl.k_guard ?_; ((refine Sl.guard_yes rfl ?_)))) <;> (try refine nX ?_)) | ((fail_if_success (go_big_may)); (go_step)) | ((first | (with_reducible refine Sl.k_load ?_; (first | (refine s_ex hst (qt_ldp_int evX asX inX) ?_; rintro v ⟨rfl, hI⟩) | (refine s_ex hst (qt_ldp_list evX asX inX) ?_; rintro v ⟨hvl, hv1⟩))) | (with_reducible refine Sl.k_call ?_; (refine s_qt hst (by exact qt_len evX asX inX) ?_))) <;> (try refine nX ?_)) | (with_reducible refine Sl.gate rfl ?_; (go_step)))
  refine bodyPost_ret (results_tmp rfl _ _ _) rfl ?_
  exact ⟨_, rfl, by rw [hv]; rfl, St.weaken (hS1.trans hS2) hst⟩

set_option maxRecDepth 8000 in
set_option maxHeartbeats 2000000 in
theorem fv_140 {f : Fa} {k2 k3 k4 bt : Bool} : FVal f true true true true true k2 k3 k4 bt false := by
  intro S M w hst cs hR ok H
  unfold Rets
  have hv := H.val ok
  obtain ⟨e1, e2, e3, e4, g1, g2, g3, g4, gt, gy⟩ := H
  have hd := ok.d
  have hml : f.2.2.1.2.2.2.1.length ≤ 1048576 := by have := ok.s; omega
  have g5 : decide ((f.2.1.b.length : Int) ≤ 1500) = true := decide_eq_true (by have := ok.t; omega)
  go_enter Tryd.func15, Tryd.ntmps15
  repeat' ((fail_if_success (with_reducible show Code.wp _ (Code.region 1 _ _) _ _ _)); first | ((fail_if_success (go_big_may)); (go_step)) | (((((refine s_box hst evX rfl ?_; clear hst; intro bx w hst)))) <;> (try refine nX ?_) <;> (try replace hst := nH hst)))
  obtain ⟨S1, hS1, hst, hpe⟩ := pt_box (α := Fa) hst hR (Rep.len hR)
  repeat' ((fail_if_success (with_reducible show Code.wp _ (Code.region 2 _ _) _ _ _)); first | ((first | (with_reducible (refine Sl.k_field ?_; refine s_ex hst (qt_fieldp evX hpe inX inX rfl) ?_; rintro vf hpf)) | (with_reducible (refine Sl.k_load ?_; refine s_ex hst (qt_ldp (y := f.2.2.1) evX hpf inX) ?_; rintro v7 ⟨cm, rfl, hcm⟩))) <;> (try refine nX ?_)) | ((fail_if_success (go_big_may)); (go_step)) | ((((first | (with_reducible refine Sl.k_store ?_; (refine s_stR hst rfl BoxIn.h evX asX inX rfl rfl ?_); clear hst; intro w hst) | (refine s_alloc hst inX ?_; clear hst; intro bk w hst)))) <;> (try refine nX ?_) <;> (try replace hst := nH hst)))
  obtain ⟨S2, hS2, hst, hpm⟩ := pt_box (α := MF) hst hcm (Rep.len hcm)
  replace hpe := hpe.mono hS2
  repeat' (first | go_skip | ((first | (with_reducible (refine Sl.k_field ?_; refine s_ex hst (qt_fieldp evX hpe inX inX rfl) ?_; rintro vf hpf)) | (with_reducible (refine Sl.k_field ?_; refine s_ex hst (qt_fieldp evX hpm inX inX rfl) ?_; rintro vf hpf)) | (with_reducible (refine Sl.k_load ?_; refine s_qt hst (qt_ldp_flat (y := f.2.2.2.1) evX hpf inX inX rfl) ?_)) | (with_reducible refine Sl.k_bin ?_; (first | refine s_qt hst (qt_eql_b rfl rfl e1) ?_ | refine s_qt hst (qt_eql_b rfl rfl e2) ?_ | refine s_qt hst (qt_eql_b rfl rfl e3) ?_ | refine s_qt hst (qt_eql_b rfl rfl e4) ?_ | refine s_qt hst (qt_eql_b rfl rfl g1) ?_ | refine s_qt hst (qt_eqlK_b rfl rfl (r_dgd hd) (r_dgd rfl) inX inX inferInstance gy) ?_)) | (with_reducible refine Sl.k_guard ?_; ((refine Sl.guard_yes rfl ?_)))) <;> (try refine nX ?_)) | ((fail_if_success (go_big_may)); (go_step)) | ((first | (with_reducible refine Sl.k_load ?_; (first | (refine s_ex hst (qt_ldp_int evX asX inX) ?_; rintro v ⟨rfl, hI⟩) | (refine s_ex hst (qt_ldp_list evX asX inX) ?_; rintro v ⟨hvl, hv1⟩))) | (with_reducible refine Sl.k_call ?_; (refine s_qt hst (by exact qt_len evX asX inX) ?_))) <;> (try refine nX ?_)) | (with_reducible refine Sl.gate rfl ?_; (go_step)))
  refine bodyPost_ret (results_tmp rfl _ _ _) rfl ?_
  exact ⟨_, rfl, by rw [hv]; rfl, St.weaken (hS1.trans hS2) hst⟩

set_option maxRecDepth 8000 in
set_option maxHeartbeats 2000000 in
theorem fv_141 {f : Fa} {k2 k3 k4 bt : Bool} : FVal f true true true true true k2 k3 k4 bt true := by
  intro S M w hst cs hR ok H
  unfold Rets
  have hv := H.val ok
  obtain ⟨e1, e2, e3, e4, g1, g2, g3, g4, gt, gy⟩ := H
  have hd := ok.d
  have hml : f.2.2.1.2.2.2.1.length ≤ 1048576 := by have := ok.s; omega
  have g5 : decide ((f.2.1.b.length : Int) ≤ 1500) = true := decide_eq_true (by have := ok.t; omega)
  go_enter Tryd.func15, Tryd.ntmps15
  repeat' ((fail_if_success (with_reducible show Code.wp _ (Code.region 1 _ _) _ _ _)); first | ((fail_if_success (go_big_may)); (go_step)) | (((((refine s_box hst evX rfl ?_; clear hst; intro bx w hst)))) <;> (try refine nX ?_) <;> (try replace hst := nH hst)))
  obtain ⟨S1, hS1, hst, hpe⟩ := pt_box (α := Fa) hst hR (Rep.len hR)
  repeat' ((fail_if_success (with_reducible show Code.wp _ (Code.region 2 _ _) _ _ _)); first | ((first | (with_reducible (refine Sl.k_field ?_; refine s_ex hst (qt_fieldp evX hpe inX inX rfl) ?_; rintro vf hpf)) | (with_reducible (refine Sl.k_load ?_; refine s_ex hst (qt_ldp (y := f.2.2.1) evX hpf inX) ?_; rintro v7 ⟨cm, rfl, hcm⟩))) <;> (try refine nX ?_)) | ((fail_if_success (go_big_may)); (go_step)) | ((((first | (with_reducible refine Sl.k_store ?_; (refine s_stR hst rfl BoxIn.h evX asX inX rfl rfl ?_); clear hst; intro w hst) | (refine s_alloc hst inX ?_; clear hst; intro bk w hst)))) <;> (try refine nX ?_) <;> (try replace hst := nH hst)))
  obtain ⟨S2, hS2, hst, hpm⟩ := pt_box (α := MF) hst hcm (Rep.len hcm)
  replace hpe := hpe.mono hS2
  repeat' (first | ((first | (with_reducible (refine Sl.k_field ?_; refine s_ex hst (qt_fieldp evX hpe inX inX rfl) ?_; rintro vf hpf)) | (with_reducible (refine Sl.k_field ?_; refine s_ex hst (qt_fieldp evX hpm inX inX rfl) ?_; rintro vf hpf)) | (with_reducible (refine Sl.k_load ?_; refine s_qt hst (qt_ldp_flat (y := f.2.2.2.1) evX hpf inX inX rfl) ?_)) | (with_reducible refine Sl.k_bin ?_; (first | refine s_qt hst (qt_eql_b rfl rfl e1) ?_ | refine s_qt hst (qt_eql_b rfl rfl e2) ?_ | refine s_qt hst (qt_eql_b rfl rfl e3) ?_ | refine s_qt hst (qt_eql_b rfl rfl e4) ?_ | refine s_qt hst (qt_eql_b rfl rfl g1) ?_ | refine s_qt hst (qt_leq_b rfl rfl g5) ?_ | refine s_qt hst (qt_eqlK_b rfl rfl (r_dgd hd) (r_dgd rfl) inX inX inferInstance gy) ?_)) | (with_reducible refine Sl.k_guard ?_; ((refine Sl.guard_yes rfl ?_)))) <;> (try refine nX ?_)) | ((fail_if_success (go_big_may)); (go_step)) | ((first | (with_reducible refine Sl.k_load ?_; (first | (refine s_ex hst (qt_ldp_int evX asX inX) ?_; rintro v ⟨rfl, hI⟩) | (refine s_ex hst (qt_ldp_str evX asX inX) ?_; rintro v ⟨rfl, hs⟩) | (refine s_ex hst (qt_ldp_list evX asX inX) ?_; rintro v ⟨hvl, hv1⟩))) | (with_reducible refine Sl.k_call ?_; (refine s_qt hst (by first | exact qt_len evX asX inX | exact qt_len_str evX inX) ?_))) <;> (try refine nX ?_)) | (with_reducible refine Sl.gate rfl ?_; (go_step)))
  refine bodyPost_ret (results_tmp rfl _ _ _) rfl ?_
  exact ⟨_, rfl, by rw [hv]; rfl, St.weaken (hS1.trans hS2) hst⟩

set_option maxRecDepth 8000 in
set_option maxHeartbeats 2000000 in
theorem fv_240 {f : Fa} {k3 k4 bt : Bool} : FVal f true true true true false true k3 k4 bt false := by
  intro S M w hst cs hR ok H
  unfold Rets
  have hv := H.val ok
  obtain ⟨e1, e2, e3, e4, g1, g2, g3, g4, gt, gy⟩ := H
  have hd := ok.d
  have hml : f.2.2.1.2.2.2.1.length ≤ 1048576 := by have := ok.s; omega
  have g5 : decide ((f.2.1.b.length : Int) ≤ 1500) = true := decide_eq_true (by have := ok.t; omega)
  go_enter Tryd.func15, Tryd.ntmps15
  repeat' ((fail_if_success (with_reducible show Code.wp _ (Code.region 1 _ _) _ _ _)); first | ((fail_if_success (go_big_may)); (go_step)) | (((((refine s_box hst evX rfl ?_; clear hst; intro bx w hst)))) <;> (try refine nX ?_) <;> (try replace hst := nH hst)))
  obtain ⟨S1, hS1, hst, hpe⟩ := pt_box (α := Fa) hst hR (Rep.len hR)
  repeat' ((fail_if_success (with_reducible show Code.wp _ (Code.region 2 _ _) _ _ _)); first | ((first | (with_reducible (refine Sl.k_field ?_; refine s_ex hst (qt_fieldp evX hpe inX inX rfl) ?_; rintro vf hpf)) | (with_reducible (refine Sl.k_load ?_; refine s_ex hst (qt_ldp (y := f.2.2.1) evX hpf inX) ?_; rintro v7 ⟨cm, rfl, hcm⟩))) <;> (try refine nX ?_)) | ((fail_if_success (go_big_may)); (go_step)) | ((((first | (with_reducible refine Sl.k_store ?_; (refine s_stR hst rfl BoxIn.h evX asX inX rfl rfl ?_); clear hst; intro w hst) | (refine s_alloc hst inX ?_; clear hst; intro bk w hst)))) <;> (try refine nX ?_) <;> (try replace hst := nH hst)))
  obtain ⟨S2, hS2, hst, hpm⟩ := pt_box (α := MF) hst hcm (Rep.len hcm)
  replace hpe := hpe.mono hS2
  repeat' (first | go_skip | ((first | (with_reducible (refine Sl.k_field ?_; refine s_ex hst (qt_fieldp evX hpe inX inX rfl) ?_; rintro vf hpf)) | (with_reducible (refine Sl.k_field ?_; refine s_ex hst (qt_fieldp evX hpm inX inX rfl) ?_; rintro vf hpf)) | (with_reducible (refine Sl.k_load ?_; refine s_qt hst (qt_ldp_flat (y := f.2.2.2.1) evX hpf inX inX rfl) ?_)) | (with_reducible refine Sl.k_bin ?_; (first | refine s_qt hst (qt_eql_b rfl rfl e1) ?_ | refine s_qt hst (qt_eql_b rfl rfl e2) ?_ | refine s_qt hst (qt_eql_b rfl rfl e3) ?_ | refine s_qt hst (qt_eql_b rfl rfl e4) ?_ | refine s_qt hst (qt_eql_b rfl rfl g1) ?_ | refine s_qt hst (qt_eql_b rfl rfl g2) ?_ | refine s_qt hst (qt_eqlK_b rfl rfl (r_dgd hd) (r_dgd rfl) inX inX inferInstance gy) ?_)) | (with_reducible refine Sl.k_guard ?_; ((refine Sl.guard_yes rfl ?_)))) <;> (try refine nX ?_)) | ((fail_if_success (go_big_may)); (go_step)) | ((first | (with_reducible refine Sl.k_load ?_; (first | (refine s_ex hst (qt_ldp_int evX asX inX) ?_; rintro v ⟨rfl, hI⟩) | (refine s_ex hst (qt_ldp_list evX asX inX) ?_; rintro v ⟨hvl, hv1⟩))) | (with_reducible refine Sl.k_call ?_; (refine s_qt hst (by exact qt_len evX asX inX) ?_))) <;> (try refine nX ?_)) | (with_reducible refine Sl.gate rfl ?_; (go_step)))
  refine bodyPost_ret (results_tmp rfl _ _ _) rfl ?_
  exact ⟨_, rfl, by rw [hv]; rfl, St.weaken (hS1.trans hS2) hst⟩

set_option maxRecDepth 8000 in
set_option maxHeartbeats 2000000 in
theorem fv_241 {f : Fa} {k3 k4 : Bool} : FVal f true true true true false true k3 k4 false true := by
  intro S M w hst cs hR ok H
  unfold Rets
  have hv := H.val ok
  obtain ⟨e1, e2, e3, e4, g1, g2, g3, g4, gt, gy⟩ := H
  have hd := ok.d
  have hml : f.2.2.1.2.2.2.1.length ≤ 1048576 := by have := ok.s; omega
  have g5 : decide ((f.2.1.b.length : Int) ≤ 1500) = true := decide_eq_true (by have := ok.t; omega)
  go_enter Tryd.func15, Tryd.ntmps15
  repeat' ((fail_if_success (with_reducible show Code.wp _ (Code.region 1 _ _) _ _ _)); first | ((fail_if_success (go_big_may)); (go_step)) | (((((refine s_box hst evX rfl ?_; clear hst; intro bx w hst)))) <;> (try refine nX ?_) <;> (try replace hst := nH hst)))
  obtain ⟨S1, hS1, hst, hpe⟩ := pt_box (α := Fa) hst hR (Rep.len hR)
  repeat' ((fail_if_success (with_reducible show Code.wp _ (Code.region 2 _ _) _ _ _)); first | ((first | (with_reducible (refine Sl.k_field ?_; refine s_ex hst (qt_fieldp evX hpe inX inX rfl) ?_; rintro vf hpf)) | (with_reducible (refine Sl.k_load ?_; refine s_ex hst (qt_ldp (y := f.2.2.1) evX hpf inX) ?_; rintro v7 ⟨cm, rfl, hcm⟩))) <;> (try refine nX ?_)) | ((fail_if_success (go_big_may)); (go_step)) | ((((first | (with_reducible refine Sl.k_store ?_; (refine s_stR hst rfl BoxIn.h evX asX inX rfl rfl ?_); clear hst; intro w hst) | (refine s_alloc hst inX ?_; clear hst; intro bk w hst)))) <;> (try refine nX ?_) <;> (try replace hst := nH hst)))
  obtain ⟨S2, hS2, hst, hpm⟩ := pt_box (α := MF) hst hcm (Rep.len hcm)
  replace hpe := hpe.mono hS2
  repeat' (first | go_skip | ((first | (with_reducible (refine Sl.k_field ?_; refine s_ex hst (qt_fieldp evX hpe inX inX rfl) ?_; rintro vf hpf)) | (with_reducible (refine Sl.k_field ?_; refine s_ex hst (qt_fieldp evX hpm inX inX rfl) ?_; rintro vf hpf)) | (with_reducible (refine Sl.k_load ?_; refine s_qt hst (qt_ldp_flat (y := f.2.2.2.1) evX hpf inX inX rfl) ?_)) | (with_reducible refine Sl.k_bin ?_; (first | refine s_qt hst (qt_eql_b rfl rfl e1) ?_ | refine s_qt hst (qt_eql_b rfl rfl e2) ?_ | refine s_qt hst (qt_eql_b rfl rfl e3) ?_ | refine s_qt hst (qt_eql_b rfl rfl e4) ?_ | refine s_qt hst (qt_eql_b rfl rfl g1) ?_ | refine s_qt hst (qt_eql_b rfl rfl g2) ?_ | refine s_qt hst (qt_eql_str rfl rfl inX gt) ?_ | refine s_qt hst (qt_eqlK_b rfl rfl (r_dgd hd) (r_dgd rfl) inX inX inferInstance gy) ?_)) | (with_reducible refine Sl.k_guard ?_; ((refine Sl.guard_yes rfl ?_)))) <;> (try refine nX ?_)) | ((fail_if_success (go_big_may)); (go_step)) | ((first | (with_reducible refine Sl.k_load ?_; (first | (refine s_ex hst (qt_ldp_int evX asX inX) ?_; rintro v ⟨rfl, hI⟩) | (refine s_ex hst (qt_ldp_str evX asX inX) ?_; rintro v ⟨rfl, hs⟩) | (refine s_ex hst (qt_ldp_list evX asX inX) ?_; rintro v ⟨hvl, hv1⟩))) | (with_reducible refine Sl.k_call ?_; (refine s_qt hst (by exact qt_len evX asX inX) ?_))) <;> (try refine nX ?_)) | (with_reducible refine Sl.gate rfl ?_; (go_step)))
  refine bodyPost_ret (results_tmp rfl _ _ _) rfl ?_
  exact ⟨_, rfl, by rw [hv]; rfl, St.weaken (hS1.trans hS2) hst⟩

set_option maxRecDepth 8000 in
set_option maxHeartbeats 2000000 in
theorem fv_242 {f : Fa} {k3 k4 : Bool} : FVal f true true true true false true k3 k4 true true := by
  intro S M w hst cs hR ok H
  unfold Rets
  have hv := H.val ok
  obtain ⟨e1, e2, e3, e4, g1, g2, g3, g4, gt, gy⟩ := H
  have hd := ok.d
  have hml : f.2.2.1.2.2.2.1.length ≤ 1048576 := by have := ok.s; omega
  have g5 : decide ((f.2.1.b.length : Int) ≤ 1500) = true := decide_eq_true (by have := ok.t; omega)
  go_enter Tryd.func15, Tryd.ntmps15
  repeat' ((fail_if_success (with_reducible show Code.wp _ (Code.region 1 _ _) _ _ _)); first | ((fail_if_success (go_big_may)); (go_step)) | (((((refine s_box hst evX rfl ?_; clear hst; intro bx w hst)))) <;> (try refine nX ?_) <;> (try replace hst := nH hst)))
  obtain ⟨S1, hS1, hst, hpe⟩ := pt_box (α := Fa) hst hR (Rep.len hR)
  repeat' ((fail_if_success (with_reducible show Code.wp _ (Code.region 2 _ _) _ _ _)); first | ((first | (with_reducible (refine Sl.k_field ?_; refine s_ex hst (qt_fieldp evX hpe inX inX rfl) ?_; rintro vf hpf)) | (with_reducible (refine Sl.k_load ?_; refine s_ex hst (qt_ldp (y := f.2.2.1) evX hpf inX) ?_; rintro v7 ⟨cm, rfl, hcm⟩))) <;> (try refine nX ?_)) | ((fail_if_success (go_big_may)); (go_step)) | ((((first | (with_reducible refine Sl.k_store ?_; (refine s_stR hst rfl BoxIn.h evX asX inX rfl rfl ?_); clear hst; intro w hst) | (refine s_alloc hst inX ?_; clear hst; intro bk w hst)))) <;> (try refine nX ?_) <;> (try replace hst := nH hst)))
  obtain ⟨S2, hS2, hst, hpm⟩ := pt_box (α := MF) hst hcm (Rep.len hcm)
  replace hpe := hpe.mono hS2
  repeat' (first | ((first | (with_reducible (refine Sl.k_field ?_; refine s_ex hst (qt_fieldp evX hpe inX inX rfl) ?_; rintro vf hpf)) | (with_reducible (refine Sl.k_field ?_; refine s_ex hst (qt_fieldp evX hpm inX inX rfl) ?_; rintro vf hpf)) | (with_reducible (refine Sl.k_load ?_; refine s_qt hst (qt_ldp_flat (y := f.2.2.2.1) evX hpf inX inX rfl) ?_)) | (with_reducible (refine Sl.k_load ?_; refine s_ex hst (qt_ldp (y := f.2.2.1) evX hpm inX) ?_; rintro v54 ⟨cm2, rfl, hcm2⟩)) | (with_reducible refine Sl.k_bin ?_; (first | refine s_qt hst (qt_eql_b rfl rfl e1) ?_ | refine s_qt hst (qt_eql_b rfl rfl e2) ?_ | refine s_qt hst (qt_eql_b rfl rfl e3) ?_ | refine s_qt hst (qt_eql_b rfl rfl e4) ?_ | refine s_qt hst (qt_eql_b rfl rfl g1) ?_ | refine s_qt hst (qt_eql_b rfl rfl g2) ?_ | refine s_qt hst (qt_eql_str rfl rfl inX gt) ?_ | refine s_qt hst (qt_eqlK_b rfl rfl (r_dgd hd) (r_dgd rfl) inX inX inferInstance gy) ?_)) | (with_reducible refine Sl.k_guard ?_; ((refine Sl.guard_yes rfl ?_)))) <;> (try refine nX ?_)) | (((with_reducible refine Sl.k_call ?_; ((refine s_call (mvalid_c _ hst cm2 f.2.2.1 hcm2 hml) inX rfl ?_; clear hst; rintro v w ⟨rfl, hst⟩)))) <;> (try refine nX ?_) <;> (try replace hst := nH hst)) | ((fail_if_success (go_big_may)); (go_step)) | ((first | (with_reducible refine Sl.k_load ?_; (first | (refine s_ex hst (qt_ldp_int evX asX inX) ?_; rintro v ⟨rfl, hI⟩) | (refine s_ex hst (qt_ldp_str evX asX inX) ?_; rintro v ⟨rfl, hs⟩) | (refine s_ex hst (qt_ldp_list evX asX inX) ?_; rintro v ⟨hvl, hv1⟩))) | (with_reducible refine Sl.k_call ?_; (refine s_qt hst (by exact qt_len evX asX inX) ?_))) <;> (try refine nX ?_)) | (with_reducible refine Sl.gate rfl ?_; (go_step)))
  refine bodyPost_ret (results_tmp rfl _ _ _) rfl ?_
  exact ⟨_, rfl, by rw [hv]; rfl, St.weaken (hS1.trans hS2) hst⟩

set_option maxRecDepth 8000 in
set_option maxHeartbeats 2000000 in
theorem fv_340 {f : Fa} {k4 y : Bool} : FVal f true true true true false false true k4 false y := by
  intro S M w hst cs hR ok H
  unfold Rets
  have hv := H.val ok
  obtain ⟨e1, e2, e3, e4, g1, g2, g3, g4, gt, gy⟩ := H
  have hd := ok.d
  have hml : f.2.2.1.2.2.2.1.length ≤ 1048576 := by have := ok.s; omega
  have g5 : decide ((f.2.1.b.length : Int) ≤ 1500) = true := decide_eq_true (by have := ok.t; omega)
  go_enter Tryd.func15, Tryd.ntmps15
  repeat' ((fail_if_success (with_reducible show Code.wp _ (Code.region 1 _ _) _ _ _)); first | ((fail_if_success (go_big_may)); (go_step)) | (((((refine s_box hst evX rfl ?_; clear hst; intro bx w hst)))) <;> (try refine nX ?_) <;> (try replace hst := nH hst)))
  obtain ⟨S1, hS1, hst, hpe⟩ := pt_box (α := Fa) hst hR (Rep.len hR)
  repeat' ((fail_if_success (with_reducible show Code.wp _ (Code.region 2 _ _) _ _ _)); first | ((first | (with_reducible (refine Sl.k_field ?_; refine s_ex hst (qt_fieldp evX hpe inX inX rfl) ?_; rintro vf hpf)) | (with_reducible (refine Sl.k_load ?_; refine s_ex hst (qt_ldp (y := f.2.2.1) evX hpf inX) ?_; rintro v7 ⟨cm, rfl, hcm⟩))) <;> (try refine nX ?_)) | ((fail_if_success (go_big_may)); (go_step)) | ((((first | (with_reducible refine Sl.k_store ?_; (refine s_stR hst rfl BoxIn.h evX asX inX rfl rfl ?_); clear hst; intro w hst) | (refine s_alloc hst inX ?_; clear hst; intro bk w hst)))) <;> (try refine nX ?_) <;> (try replace hst := nH hst)))
  obtain ⟨S2, hS2, hst, hpm⟩ := pt_box (α := MF) hst hcm (Rep.len hcm)
  replace hpe := hpe.mono hS2
  repeat' (first | ((first | (with_reducible (refine Sl.k_field ?_; refine s_ex hst (qt_fieldp evX hpe inX inX rfl) ?_; rintro vf hpf)) | (with_reducible (refine Sl.k_field ?_; refine s_ex hst (qt_fieldp evX hpm inX inX rfl) ?_; rintro vf hpf)) | (with_reducible (refine Sl.k_load ?_; refine s_qt hst (qt_ldp_flat (y := f.2.2.2.1) evX hpf inX inX rfl) ?_)) | (with_reducible refine Sl.k_bin ?_; (first | refine s_qt hst (qt_eql_b rfl rfl e1) ?_ | refine s_qt hst (qt_eql_b rfl rfl e2) ?_ | refine s_qt hst (qt_eql_b rfl rfl e3) ?_ | refine s_qt hst (qt_eql_b rfl rfl e4) ?_ | refine s_qt hst (qt_eql_b rfl rfl g1) ?_ | refine s_qt hst (qt_eql_b rfl rfl g2) ?_ | refine s_qt hst (qt_eql_b rfl rfl g3) ?_ | refine s_qt hst (qt_eql_str rfl rfl inX gt) ?_ | refine s_qt hst (qt_eqlK_b rfl rfl (r_dgd hd) (r_dgd rfl) inX inX inferInstance gy) ?_)) | (with_reducible refine Sl.k_guard ?_; ((refine Sl.guard_yes rfl ?_)))) <;> (try refine nX ?_)) | ((fail_if_success (go_big_may)); (go_step)) | ((first | (with_reducible refine Sl.k_load ?_; (first | (refine s_ex hst (qt_ldp_int evX asX inX) ?_; rintro v ⟨rfl, hI⟩) | (refine s_ex hst (qt_ldp_str evX asX inX) ?_; rintro v ⟨rfl, hs⟩) | (refine s_ex hst (qt_ldp_list evX asX inX) ?_; rintro v ⟨hvl, hv1⟩))) | (with_reducible refine Sl.k_call ?_; (refine s_qt hst (by exact qt_len evX asX inX) ?_))) <;> (try refine nX ?_)) | (with_reducible refine Sl.gate rfl ?_; (go_step)))
  refine bodyPost_ret (results_tmp rfl _ _ _) rfl ?_
  exact ⟨_, rfl, by rw [hv]; rfl, St.weaken (hS1.trans hS2) hst⟩

set_option maxRecDepth 8000 in
set_option maxHeartbeats 2000000 in
theorem fv_341 {f : Fa} {k4 y : Bool} : FVal f true true true true false false true k4 true y := by
  intro S M w hst cs hR ok H
  unfold Rets
  have hv := H.val ok
  obtain ⟨e1, e2, e3, e4, g1, g2, g3, g4, gt, gy⟩ := H
  have hd := ok.d
  have hml : f.2.2.1.2.2.2.1.length ≤ 1048576 := by have := ok.s; omega
  have g5 : decide ((f.2.1.b.length : Int) ≤ 1500) = true := decide_eq_true (by have := ok.t; omega)
  go_enter Tryd.func15, Tryd.ntmps15
  repeat' ((fail_if_success (with_reducible show Code.wp _ (Code.region 1 _ _) _ _ _)); first | ((fail_if_success (go_big_may)); (go_step)) | (((((refine s_box hst evX rfl ?_; clear hst; intro bx w hst)))) <;> (try refine nX ?_) <;> (try replace hst := nH hst)))
  obtain ⟨S1, hS1, hst, hpe⟩ := pt_box (α := Fa) hst hR (Rep.len hR)
  repeat' ((fail_if_success (with_reducible show Code.wp _ (Code.region 2 _ _) _ _ _)); first | ((first | (with_reducible (refine Sl.k_field ?_; refine s_ex hst (qt_fieldp evX hpe inX inX rfl) ?_; rintro vf hpf)) | (with_reducible (refine Sl.k_load ?_; refine s_ex hst (qt_ldp (y := f.2.2.1) evX hpf inX) ?_; rintro v7 ⟨cm, rfl, hcm⟩))) <;> (try refine nX ?_)) | ((fail_if_success (go_big_may)); (go_step)) | ((((first | (with_reducible refine Sl.k_store ?_; (refine s_stR hst rfl BoxIn.h evX asX inX rfl rfl ?_); clear hst; intro w hst) | (refine s_alloc hst inX ?_; clear hst; intro bk w hst)))) <;> (try refine nX ?_) <;> (try replace hst := nH hst)))
  obtain ⟨S2, hS2, hst, hpm⟩ := pt_box (α := MF) hst hcm (Rep.len hcm)
  replace hpe := hpe.mono hS2
  repeat' (first | ((first | (with_reducible (refine Sl.k_field ?_; refine s_ex hst (qt_fieldp evX hpe inX inX rfl) ?_; rintro vf hpf)) | (with_reducible (refine Sl.k_field ?_; refine s_ex hst (qt_fieldp evX hpm inX inX rfl) ?_; rintro vf hpf)) | (with_reducible (refine Sl.k_load ?_; refine s_qt hst (qt_ldp_flat (y := f.2.2.2.1) evX hpf inX inX rfl) ?_)) | (with_reducible refine Sl.k_bin ?_; (first | refine s_qt hst (qt_eql_b rfl rfl e1) ?_ | refine s_qt hst (qt_eql_b rfl rfl e2) ?_ | refine s_qt hst (qt_eql_b rfl rfl e3) ?_ | refine s_qt hst (qt_eql_b rfl rfl e4) ?_ | refine s_qt hst (qt_eql_b rfl rfl g1) ?_ | refine s_qt hst (qt_eql_b rfl rfl g2) ?_ | refine s_qt hst (qt_eql_b rfl rfl g3) ?_ | refine s_qt hst (qt_eql_str rfl rfl inX gt) ?_ | refine s_qt hst (qt_eqlK_b rfl rfl (r_dgd hd) (r_dgd rfl) inX inX inferInstance gy) ?_)) | (with_reducible refine Sl.k_guard ?_; ((refine Sl.guard_yes rfl ?_)))) <;> (try refine nX ?_)) | ((fail_if_success (go_big_may)); (go_step)) | ((first | (with_reducible refine Sl.k_load ?_; (first | (refine s_ex hst (qt_ldp_int evX asX inX) ?_; rintro v ⟨rfl, hI⟩) | (refine s_ex hst (qt_ldp_str evX asX inX) ?_; rintro v ⟨rfl, hs⟩) | (refine s_ex hst (qt_ldp_list evX asX inX) ?_; rintro v ⟨hvl, hv1⟩))) | (with_reducible refine Sl.k_call ?_; (refine s_qt hst (by exact qt_len evX asX inX) ?_))) <;> (try refine nX ?_)) | (with_reducible refine Sl.gate rfl ?_; (go_step)))
  refine bodyPost_ret (results_tmp rfl _ _ _) rfl ?_
  exact ⟨_, rfl, by rw [hv]; rfl, St.weaken (hS1.trans hS2) hst⟩

set_option maxRecDepth 8000 in
set_option maxHeartbeats 2000000 in
theorem fv_440 {f : Fa} {y : Bool} : FVal f true true true true false false false true false y := by
  intro S M w hst cs hR ok H
  unfold Rets
  have hv := H.val ok
  obtain ⟨e1, e2, e3, e4, g1, g2, g3, g4, gt, gy⟩ := H
  have hd := ok.d
  have hml : f.2.2.1.2.2.2.1.length ≤ 1048576 := by have := ok.s; omega
  have g5 : decide ((f.2.1.b.length : Int) ≤ 1500) = true := decide_eq_true (by have := ok.t; omega)
  go_enter Tryd.func15, Tryd.ntmps15
  repeat' ((fail_if_success (with_reducible show Code.wp _ (Code.region 1 _ _) _ _ _)); first | ((fail_if_success (go_big_may)); (go_step)) | (((((refine s_box hst evX rfl ?_; clear hst; intro bx w hst)))) <;> (try refine nX ?_) <;> (try replace hst := nH hst)))
  obtain ⟨S1, hS1, hst, hpe⟩ := pt_box (α := Fa) hst hR (Rep.len hR)
  repeat' ((fail_if_success (with_reducible show Code.wp _ (Code.region 2 _ _) _ _ _)); first | ((first | (with_reducible (refine Sl.k_field ?_; refine s_ex hst (qt_fieldp evX hpe inX inX rfl) ?_; rintro vf hpf)) | (with_reducible (refine Sl.k_load ?_; refine s_ex hst (qt_ldp (y := f.2.2.1) evX hpf inX) ?_; rintro v7 ⟨cm, rfl, hcm⟩))) <;> (try refine nX ?_)) | ((fail_if_success (go_big_may)); (go_step)) | ((((first | (with_reducible refine Sl.k_store ?_; (refine s_stR hst rfl BoxIn.h evX asX inX rfl rfl ?_); clear hst; intro w hst) | (refine s_alloc hst inX ?_; clear hst; intro bk w hst)))) <;> (try refine nX ?_) <;> (try replace hst := nH hst)))
  obtain ⟨S2, hS2, hst, hpm⟩ := pt_box (α := MF) hst hcm (Rep.len hcm)
  replace hpe := hpe.mono hS2
  repeat' (first | ((first | (with_reducible (refine Sl.k_field ?_; refine s_ex hst (qt_fieldp evX hpe inX inX rfl) ?_; rintro vf hpf)) | (with_reducible (refine Sl.k_field ?_; refine s_ex hst (qt_fieldp evX hpm inX inX rfl) ?_; rintro vf hpf)) | (with_reducible (refine Sl.k_load ?_; refine s_qt hst (qt_ldp_flat (y := f.2.2.2.1) evX hpf inX inX rfl) ?_)) | (with_reducible refine Sl.k_bin ?_; (first | refine s_qt hst (qt_eql_b rfl rfl e1) ?_ | refine s_qt hst (qt_eql_b rfl rfl e2) ?_ | refine s_qt hst (qt_eql_b rfl rfl e3) ?_ | refine s_qt hst (qt_eql_b rfl rfl e4) ?_ | refine s_qt hst (qt_eql_b rfl rfl g1) ?_ | refine s_qt hst (qt_eql_b rfl rfl g2) ?_ | refine s_qt hst (qt_eql_b rfl rfl g3) ?_ | refine s_qt hst (qt_eql_b rfl rfl g4) ?_ | refine s_qt hst (qt_eql_str rfl rfl inX gt) ?_ | refine s_qt hst (qt_eqlK_b rfl rfl (r_dgd hd) (r_dgd rfl) inX inX inferInstance gy) ?_)) | (with_reducible refine Sl.k_guard ?_; ((refine Sl.guard_yes rfl ?_)))) <;> (try refine nX ?_)) | ((fail_if_success (go_big_may)); (go_step)) | ((first | (with_reducible refine Sl.k_load ?_; (first | (refine s_ex hst (qt_ldp_int evX asX inX) ?_; rintro v ⟨rfl, hI⟩) | (refine s_ex hst (qt_ldp_str evX asX inX) ?_; rintro v ⟨rfl, hs⟩) | (refine s_ex hst (qt_ldp_list evX asX inX) ?_; rintro v ⟨hvl, hv1⟩))) | (with_reducible refine Sl.k_call ?_; (refine s_qt hst (by exact qt_len evX asX inX) ?_))) <;> (try refine nX ?_)) | (with_reducible refine Sl.gate rfl ?_; (go_step)))
  refine bodyPost_ret (results_tmp rfl _ _ _) rfl ?_
  exact ⟨_, rfl, by rw [hv]; rfl, St.weaken (hS1.trans hS2) hst⟩

set_option maxRecDepth 8000 in
set_option maxHeartbeats 2000000 in
theorem fv_441 {f : Fa} {y : Bool} : FVal f true true true true false false false true true y := by
  intro S M w hst cs hR ok H
  unfold Rets
  have hv := H.val ok
  obtain ⟨e1, e2, e3, e4, g1, g2, g3, g4, gt, gy⟩ := H
  have hd := ok.d
  have hml : f.2.2.1.2.2.2.1.length ≤ 1048576 := by have := ok.s; omega
  have g5 : decide ((f.2.1.b.length : Int) ≤ 1500) = true := decide_eq_true (by have := ok.t; omega)
  go_enter Tryd.func15, Tryd.ntmps15
  repeat' ((fail_if_success (with_reducible show Code.wp _ (Code.region 1 _ _) _ _ _)); first | ((fail_if_success (go_big_may)); (go_step)) | (((((refine s_box hst evX rfl ?_; clear hst; intro bx w hst)))) <;> (try refine nX ?_) <;> (try replace hst := nH hst)))
  obtain ⟨S1, hS1, hst, hpe⟩ := pt_box (α := Fa) hst hR (Rep.len hR)
  repeat' ((fail_if_success (with_reducible show Code.wp _ (Code.region 2 _ _) _ _ _)); first | ((first | (with_reducible (refine Sl.k_field ?_; refine s_ex hst (qt_fieldp evX hpe inX inX rfl) ?_; rintro vf hpf)) | (with_reducible (refine Sl.k_load ?_; refine s_ex hst (qt_ldp (y := f.2.2.1) evX hpf inX) ?_; rintro v7 ⟨cm, rfl, hcm⟩))) <;> (try refine nX ?_)) | ((fail_if_success (go_big_may)); (go_step)) | ((((first | (with_reducible refine Sl.k_store ?_; (refine s_stR hst rfl BoxIn.h evX asX inX rfl rfl ?_); clear hst; intro w hst) | (refine s_alloc hst inX ?_; clear hst; intro bk w hst)))) <;> (try refine nX ?_) <;> (try replace hst := nH hst)))
  obtain ⟨S2, hS2, hst, hpm⟩ := pt_box (α := MF) hst hcm (Rep.len hcm)
  replace hpe := hpe.mono hS2
  repeat' (first | ((first | (with_reducible (refine Sl.k_field ?_; refine s_ex hst (qt_fieldp evX hpe inX inX rfl) ?_; rintro vf hpf)) | (with_reducible (refine Sl.k_field ?_; refine s_ex hst (qt_fieldp evX hpm inX inX rfl) ?_; rintro vf hpf)) | (with_reducible (refine Sl.k_load ?_; refine s_qt hst (qt_ldp_flat (y := f.2.2.2.1) evX hpf inX inX rfl) ?_)) | (with_reducible refine Sl.k_bin ?_; (first | refine s_qt hst (qt_eql_b rfl rfl e1) ?_ | refine s_qt hst (qt_eql_b rfl rfl e2) ?_ | refine s_qt hst (qt_eql_b rfl rfl e3) ?_ | refine s_qt hst (qt_eql_b rfl rfl e4) ?_ | refine s_qt hst (qt_eql_b rfl rfl g1) ?_ | refine s_qt hst (qt_eql_b rfl rfl g2) ?_ | refine s_qt hst (qt_eql_b rfl rfl g3) ?_ | refine s_qt hst (qt_eql_b rfl rfl g4) ?_ | refine s_qt hst (qt_eql_str rfl rfl inX gt) ?_ | refine s_qt hst (qt_eqlK_b rfl rfl (r_dgd hd) (r_dgd rfl) inX inX inferInstance gy) ?_)) | (with_reducible refine Sl.k_guard ?_; ((refine Sl.guard_yes rfl ?_)))) <;> (try refine nX ?_)) | ((fail_if_success (go_big_may)); (go_step)) | ((first | (with_reducible refine Sl.k_load ?_; (first | (refine s_ex hst (qt_ldp_int evX asX inX) ?_; rintro v ⟨rfl, hI⟩) | (refine s_ex hst (qt_ldp_str evX asX inX) ?_; rintro v ⟨rfl, hs⟩) | (refine s_ex hst (qt_ldp_list evX asX inX) ?_; rintro v ⟨hvl, hv1⟩))) | (with_reducible refine Sl.k_call ?_; (refine s_qt hst (by exact qt_len evX asX inX) ?_))) <;> (try refine nX ?_)) | (with_reducible refine Sl.gate rfl ?_; (go_step)))
  refine bodyPost_ret (results_tmp rfl _ _ _) rfl ?_
  exact ⟨_, rfl, by rw [hv]; rfl, St.weaken (hS1.trans hS2) hst⟩

set_option maxRecDepth 8000 in
set_option maxHeartbeats 2000000 in
theorem fv_54 {f : Fa} {bt y : Bool} : FVal f true true true true false false false false bt y := by
  intro S M w hst cs hR ok H
  unfold Rets
  have hv := H.val ok
  obtain ⟨e1, e2, e3, e4, g1, g2, g3, g4, gt, gy⟩ := H
  have hd := ok.d
  have hml : f.2.2.1.2.2.2.1.length ≤ 1048576 := by have := ok.s; omega
  have g5 : decide ((f.2.1.b.length : Int) ≤ 1500) = true := decide_eq_true (by have := ok.t; omega)
  go_enter Tryd.func15, Tryd.ntmps15
  repeat' ((fail_if_success (with_reducible show Code.wp _ (Code.region 1 _ _) _ _ _)); first | ((fail_if_success (go_big_may)); (go_step)) | (((((refine s_box hst evX rfl ?_; clear hst; intro bx w hst)))) <;> (try refine nX ?_) <;> (try replace hst := nH hst)))
  obtain ⟨S1, hS1, hst, hpe⟩ := pt_box (α := Fa) hst hR (Rep.len hR)
  repeat' ((fail_if_success (with_reducible show Code.wp _ (Code.region 2 _ _) _ _ _)); first | ((first | (with_reducible (refine Sl.k_field ?_; refine s_ex hst (qt_fieldp evX hpe inX inX rfl) ?_; rintro vf hpf)) | (with_reducible (refine Sl.k_load ?_; refine s_ex hst (qt_ldp (y := f.2.2.1) evX hpf inX) ?_; rintro v7 ⟨cm, rfl, hcm⟩))) <;> (try refine nX ?_)) | ((fail_if_success (go_big_may)); (go_step)) | ((((first | (with_reducible refine Sl.k_store ?_; (refine s_stR hst rfl BoxIn.h evX asX inX rfl rfl ?_); clear hst; intro w hst) | (refine s_alloc hst inX ?_; clear hst; intro bk w hst)))) <;> (try refine nX ?_) <;> (try replace hst := nH hst)))
  obtain ⟨S2, hS2, hst, hpm⟩ := pt_box (α := MF) hst hcm (Rep.len hcm)
  replace hpe := hpe.mono hS2
  repeat' (first | ((first | (with_reducible (refine Sl.k_field ?_; refine s_ex hst (qt_fieldp evX hpe inX inX rfl) ?_; rintro vf hpf)) | (with_reducible (refine Sl.k_field ?_; refine s_ex hst (qt_fieldp evX hpm inX inX rfl) ?_; rintro vf hpf)) | (with_reducible (refine Sl.k_load ?_; refine s_qt hst (qt_ldp_flat (y := f.2.2.2.1) evX hpf inX inX rfl) ?_)) | (with_reducible refine Sl.k_bin ?_; (first | refine s_qt hst (qt_eql_b rfl rfl e1) ?_ | refine s_qt hst (qt_eql_b rfl rfl e2) ?_ | refine s_qt hst (qt_eql_b rfl rfl e3) ?_ | refine s_qt hst (qt_eql_b rfl rfl e4) ?_ | refine s_qt hst (qt_eql_b rfl rfl g1) ?_ | refine s_qt hst (qt_eql_b rfl rfl g2) ?_ | refine s_qt hst (qt_eql_b rfl rfl g3) ?_ | refine s_qt hst (qt_eql_b rfl rfl g4) ?_ | refine s_qt hst (qt_eqlK_b rfl rfl (r_dgd hd) (r_dgd rfl) inX inX inferInstance gy) ?_)) | (with_reducible refine Sl.k_guard ?_; ((refine Sl.guard_yes rfl ?_)))) <;> (try refine nX ?_)) | ((fail_if_success (go_big_may)); (go_step)) | ((first | (with_reducible refine Sl.k_load ?_; (first | (refine s_ex hst (qt_ldp_int evX asX inX) ?_; rintro v ⟨rfl, hI⟩) | (refine s_ex hst (qt_ldp_list evX asX inX) ?_; rintro v ⟨hvl, hv1⟩))) | (with_reducible refine Sl.k_call ?_; (refine s_qt hst (by exact qt_len evX asX inX) ?_))) <;> (try refine nX ?_)) | (with_reducible refine Sl.gate rfl ?_; (go_step)))
  refine bodyPost_ret (results_tmp rfl _ _ _) rfl ?_
  exact ⟨_, rfl, by rw [hv]; rfl, St.weaken (hS1.trans hS2) hst⟩

theorem fvalid_c {S M} (w : World) (hst : St S M w) (cs : List Value) (f : Fa) (hR : Rep.R S cs f) (ok : FaOk f) :
    Rets Tryd.prog 15 [.agg cs.toArray] w fun v w' => v = .bool (validF f) ∧ St S M w' := by
  obtain ⟨b1, e1⟩ : ∃ b, (f.2.2.1.1 == 0) = b := ⟨_, rfl⟩
  obtain ⟨b2, e2⟩ : ∃ b, (f.2.2.1.2.1 == 0) = b := ⟨_, rfl⟩
  obtain ⟨b3, e3⟩ : ∃ b, (f.2.2.1.2.2.1 == 0) = b := ⟨_, rfl⟩
  obtain ⟨b4, e4⟩ : ∃ b, ((f.2.2.1.2.2.2.1.length : Int) == 0) = b := ⟨_, rfl⟩
  obtain ⟨k1, g1⟩ : ∃ b, (f.1 == 1) = b := ⟨_, rfl⟩
  obtain ⟨k2, g2⟩ : ∃ b, (f.1 == 2) = b := ⟨_, rfl⟩
  obtain ⟨k3, g3⟩ : ∃ b, (f.1 == 3) = b := ⟨_, rfl⟩
  obtain ⟨k4, g4⟩ : ∃ b, (f.1 == 4) = b := ⟨_, rfl⟩
  obtain ⟨bt, gt⟩ : ∃ b, decide (f.2.1.b = []) = b := ⟨_, rfl⟩
  obtain ⟨y, gy⟩ : ∃ b, decide (f.2.2.2.1 = zeroDg) = b := ⟨_, rfl⟩
  have H : FB f b1 b2 b3 b4 k1 k2 k3 k4 bt y := ⟨e1, e2, e3, e4, g1, g2, g3, g4, gt, gy⟩
  clear e1 e2 e3 e4 g1 g2 g3 g4 gt gy
  have P : b1 = false ∨ (b1 = true ∧ b2 = false) ∨ (b1 = true ∧ b2 = true ∧ b3 = false) ∨ (b1 = true ∧ b2 = true ∧ b3 = true ∧ b4 = false) ∨ (b1 = true ∧ b2 = true ∧ b3 = true ∧ b4 = true) := by
    cases b1 <;> cases b2 <;> cases b3 <;> cases b4 <;> simp
  have K : (k1 = true) ∨ (k1 = false ∧ k2 = true) ∨ (k1 = false ∧ k2 = false ∧ k3 = true) ∨ (k1 = false ∧ k2 = false ∧ k3 = false ∧ k4 = true) ∨ (k1 = false ∧ k2 = false ∧ k3 = false ∧ k4 = false) := by
    cases k1 <;> cases k2 <;> cases k3 <;> cases k4 <;> simp
  rcases K with rfl | ⟨rfl, rfl⟩ | ⟨rfl, rfl, rfl⟩ | ⟨rfl, rfl, rfl, rfl⟩ | ⟨rfl, rfl, rfl, rfl⟩ <;> cases y <;> cases bt <;> rcases P with rfl | ⟨rfl, rfl⟩ | ⟨rfl, rfl, rfl⟩ | ⟨rfl, rfl, rfl, rfl⟩ | ⟨rfl, rfl, rfl, rfl⟩
  all_goals first | exact fv_10 w hst cs hR ok H | exact fv_200 w hst cs hR ok H | exact fv_201 w hst cs hR ok H | exact fv_202 w hst cs hR ok H | exact fv_30 w hst cs hR ok H | exact fv_40 w hst cs hR ok H | exact fv_50 w hst cs hR ok H | exact fv_11 w hst cs hR ok H | exact fv_210 w hst cs hR ok H | exact fv_211 w hst cs hR ok H | exact fv_212 w hst cs hR ok H | exact fv_31 w hst cs hR ok H | exact fv_41 w hst cs hR ok H | exact fv_51 w hst cs hR ok H | exact fv_12 w hst cs hR ok H | exact fv_220 w hst cs hR ok H | exact fv_221 w hst cs hR ok H | exact fv_222 w hst cs hR ok H | exact fv_32 w hst cs hR ok H | exact fv_42 w hst cs hR ok H | exact fv_52 w hst cs hR ok H | exact fv_13 w hst cs hR ok H | exact fv_230 w hst cs hR ok H | exact fv_231 w hst cs hR ok H | exact fv_232 w hst cs hR ok H | exact fv_33 w hst cs hR ok H | exact fv_43 w hst cs hR ok H | exact fv_53 w hst cs hR ok H | exact fv_140 w hst cs hR ok H | exact fv_141 w hst cs hR ok H | exact fv_240 w hst cs hR ok H | exact fv_241 w hst cs hR ok H | exact fv_242 w hst cs hR ok H | exact fv_340 w hst cs hR ok H | exact fv_341 w hst cs hR ok H | exact fv_440 w hst cs hR ok H | exact fv_441 w hst cs hR ok H | exact fv_54 w hst cs hR ok H
end Go.Proofs.YtjapdhaimbalkaaDoor

/- Package directory: facts encoded, walked. -/
--@hgp
--@flat
--@dg
--@ex0
namespace Go.Proofs.YtjapdhaimbalkaaDoor
set_option linter.unusedSimpArgs false
set_option linter.unusedVariables false
open Go.RowKit Go.Sl Go.Srt

theorem encFa_1 {f : Fa} (h : (f.1 == 1) = true) : encFa f = encI f.1 ++ encB f.2.1.b := by rw [encFa, if_pos (by simpa using h)]
theorem encFa_2 {f : Fa} (h1 : (f.1 == 1) = false) (h : (f.1 == 2) = true) : encFa f = encI f.1 ++ encB (encMF f.2.2.1) := by rw [encFa, if_neg (by simpa using h1), if_pos (by simpa using h)]
theorem encFa_3 {f : Fa} (h1 : (f.1 == 1) = false) (h2 : (f.1 == 2) = false) (h : f.1 = 3 ∨ f.1 = 4) : encFa f = encI f.1 ++ f.2.2.2.1.l := by rw [encFa, if_neg (by simpa using h1), if_neg (by simpa using h2), if_pos h]
theorem encFa_5 {f : Fa} (h1 : (f.1 == 1) = false) (h2 : (f.1 == 2) = false) (h3 : (f.1 == 3) = false) (h4 : (f.1 == 4) = false) : encFa f = encI f.1 := by
  rw [encFa, if_neg (by simpa using h1), if_neg (by simpa using h2), if_neg (by simp at h3 h4; omega), List.append_nil]

set_option maxRecDepth 8000 in
set_option maxHeartbeats 4000000 in
theorem fencode_c {S M} (w : World) (hst : St S M w) (cs : List Value) (f : Fa) (hR : Rep.R S cs f) (ok : FaOk f) :
    Rets Tryd.prog 17 [.agg cs.toArray] w fun v w' => v = StrV (encFa f) ∧ St S M w' := by
  unfold Rets
  have hd := ok.d
  have hml := ok.ml
  have hk := ok.k
  have ht := ok.t
  have hl1 := encI_len f.1
  have hl2 : (encB f.2.1.b).length ≤ 1000 := by
    have := encI_len (f.2.1.b.length : Int)
    unfold encB
    rw [List.length_append]
    omega
  have hl3 : (encB (encMF f.2.2.1)).length ≤ 1000 := by
    have := encI_len ((encMF f.2.2.1).length : Int)
    unfold encB
    rw [List.length_append]
    omega
  obtain ⟨k1, g1⟩ : ∃ b, (f.1 == 1) = b := ⟨_, rfl⟩
  obtain ⟨k2, g2⟩ : ∃ b, (f.1 == 2) = b := ⟨_, rfl⟩
  obtain ⟨k3, g3⟩ : ∃ b, (f.1 == 3) = b := ⟨_, rfl⟩
  obtain ⟨k4, g4⟩ : ∃ b, (f.1 == 4) = b := ⟨_, rfl⟩
  have K : (k1 = true) ∨ (k1 = false ∧ k2 = true) ∨ (k1 = false ∧ k2 = false ∧ k3 = true) ∨ (k1 = false ∧ k2 = false ∧ k3 = false ∧ k4 = true) ∨ (k1 = false ∧ k2 = false ∧ k3 = false ∧ k4 = false) := by
    cases k1 <;> cases k2 <;> cases k3 <;> cases k4 <;> simp
  rcases K with rfl | ⟨rfl, rfl⟩ | ⟨rfl, rfl, rfl⟩ | ⟨rfl, rfl, rfl, rfl⟩ | ⟨rfl, rfl, rfl, rfl⟩
  · rw [encFa_1 g1]
    go_enter Tryd.func17, Tryd.ntmps17
    repeat' ((fail_if_success (with_reducible show Code.wp _ (Code.region 1 _ _) _ _ _)); first | ((fail_if_success (go_big_may)); (go_step)) | (((((refine s_box hst evX rfl ?_; clear hst; intro bx w hst)))) <;> (try refine nX ?_) <;> (try replace hst := nH hst)))
    obtain ⟨S1, hS1, hst, hpe⟩ := pt_box (α := Fa) hst hR (Rep.len hR)
    repeat' (first | ((first | (with_reducible (refine Sl.k_field ?_; refine s_ex hst (qt_fieldp evX hpe inX inX rfl) ?_; rintro vf hpf)) | (with_reducible refine Sl.k_bin ?_; (refine s_qt hst (qt_eql_b rfl rfl g1) ?_))) <;> (try refine nX ?_)) | (((with_reducible refine Sl.k_call ?_; (first | (refine s_call (int_c _ hst f.1 hk) inX rfl ?_; clear hst; rintro v w hst) | (refine s_call (bytes_c _ hst f.2.1.b (by omega)) inX rfl ?_; clear hst; rintro v w hst)))) <;> (try refine nX ?_) <;> (try replace hst := nH hst)) | ((fail_if_success (go_big_may)); (go_step)) | (((with_reducible refine Sl.k_load ?_; (first | (refine s_ex hst (qt_ldp_int evX asX inX) ?_; rintro v ⟨rfl, hI⟩) | (refine s_ex hst (qt_ldp_str evX asX inX) ?_; rintro v ⟨rfl, hs⟩)))) <;> (try refine nX ?_)))
    refine s_append (j := 0) hst evX evX SlIn.h rfl inX inX inX (u8s_one _) (by omega) (by omega) (by decide) ?_
    clear hst; intro v' w hst
    (try refine nX ?_)
    (try replace hst := nH hst)
    replace hst := hst.drop
    rw [← u8s_append, ← List.length_append] at hst
    repeat' (first | (((with_reducible (refine Sl.k_conv ?_; with_unfolding_all refine s_string_own (k := 0) (b := encI f.1 ++ encB f.2.1.b) hst rfl rfl inX IntT.u StrT.u ?_))) <;> (try refine nX ?_)) | ((fail_if_success (go_big_may)); (go_step)))
    refine bodyPost_ret (results_tmp rfl _ _ _) rfl ?_
    exact ⟨_, rfl, rfl, St.weaken hS1 hst.drop⟩
  · rw [encFa_2 g1 g2]
    go_enter Tryd.func17, Tryd.ntmps17
    repeat' ((fail_if_success (with_reducible show Code.wp _ (Code.region 1 _ _) _ _ _)); first | ((fail_if_success (go_big_may)); (go_step)) | (((((refine s_box hst evX rfl ?_; clear hst; intro bx w hst)))) <;> (try refine nX ?_) <;> (try replace hst := nH hst)))
    obtain ⟨S1, hS1, hst, hpe⟩ := pt_box (α := Fa) hst hR (Rep.len hR)
    repeat' (first | ((first | (with_reducible (refine Sl.k_field ?_; refine s_ex hst (qt_fieldp evX hpe inX inX rfl) ?_; rintro vf hpf)) | (with_reducible (refine Sl.k_load ?_; refine s_ex hst (qt_ldp (y := f.2.2.1) evX hpf inX) ?_; rintro v54 ⟨cm2, rfl, hcm2⟩)) | (with_reducible refine Sl.k_bin ?_; (first | refine s_qt hst (qt_eql_b rfl rfl g1) ?_ | refine s_qt hst (qt_eql_b rfl rfl g2) ?_))) <;> (try refine nX ?_)) | (((with_reducible refine Sl.k_call ?_; (first | (refine s_call (int_c _ hst f.1 hk) inX rfl ?_; clear hst; rintro v w hst) | (refine s_call (encode_c _ hst cm2 f.2.2.1 hcm2 (by omega)) inX rfl ?_; clear hst; rintro v w ⟨rfl, hst⟩) | (refine s_call (bytes_c _ hst (encMF f.2.2.1) (by omega)) inX rfl ?_; clear hst; rintro v w hst)))) <;> (try refine nX ?_) <;> (try replace hst := nH hst)) | ((fail_if_success (go_big_may)); (go_step)) | (((with_reducible refine Sl.k_load ?_; ((refine s_ex hst (qt_ldp_int evX asX inX) ?_; rintro v ⟨rfl, hI⟩)))) <;> (try refine nX ?_)))
    refine s_append (j := 0) hst evX evX SlIn.h rfl inX inX inX (u8s_one _) (by omega) (by omega) (by decide) ?_
    clear hst; intro v' w hst
    (try refine nX ?_)
    (try replace hst := nH hst)
    replace hst := hst.drop
    rw [← u8s_append, ← List.length_append] at hst
    repeat' (first | (((with_reducible (refine Sl.k_conv ?_; with_unfolding_all refine s_string_own (k := 0) (b := encI f.1 ++ encB (encMF f.2.2.1)) hst rfl rfl inX IntT.u StrT.u ?_))) <;> (try refine nX ?_)) | ((fail_if_success (go_big_may)); (go_step)))
    refine bodyPost_ret (results_tmp rfl _ _ _) rfl ?_
    exact ⟨_, rfl, rfl, St.weaken hS1 hst.drop⟩
  · rw [encFa_3 g1 g2 (by simp at g3; omega)]
    go_enter Tryd.func17, Tryd.ntmps17
    repeat' ((fail_if_success (with_reducible show Code.wp _ (Code.region 1 _ _) _ _ _)); first | ((fail_if_success (go_big_may)); (go_step)) | (((((refine s_box hst evX rfl ?_; clear hst; intro bx w hst)))) <;> (try refine nX ?_) <;> (try replace hst := nH hst)))
    obtain ⟨S1, hS1, hst, hpe⟩ := pt_box (α := Fa) hst hR (Rep.len hR)
    repeat' (first | ((first | (with_reducible (refine Sl.k_field ?_; refine s_ex hst (qt_fieldp evX hpe inX inX rfl) ?_; rintro vf hpf)) | (with_reducible refine Sl.k_bin ?_; (first | refine s_qt hst (qt_eql_b rfl rfl g1) ?_ | refine s_qt hst (qt_eql_b rfl rfl g2) ?_ | refine s_qt hst (qt_eql_b rfl rfl g3) ?_))) <;> (try refine nX ?_)) | (((with_reducible refine Sl.k_call ?_; ((refine s_call (int_c _ hst f.1 hk) inX rfl ?_; clear hst; rintro v w hst)))) <;> (try refine nX ?_) <;> (try replace hst := nH hst)) | ((fail_if_success (go_big_may)); (go_step)) | (((with_reducible refine Sl.k_load ?_; ((refine s_ex hst (qt_ldp_int evX asX inX) ?_; rintro v ⟨rfl, hI⟩)))) <;> (try refine nX ?_)))
    refine s_ex hst (qt_arrSliceP (a := 0) (b := 16) evX hpf inX inX (.inl ⟨rfl, rfl⟩) (.inl ⟨rfl, rfl⟩) (by omega) (by omega) (by unfold maxLen; omega)) ?_
    rintro v29 hv29
    rw [List.drop_zero, List.take_of_length_le (by omega)] at hv29
    repeat' (fail)
    refine s_append_data (α := UInt8) (k := 0) hst evX evX rfl (by assumption) inX inX inX (by omega) (by omega) (by decide) ?_
    clear hst; intro x w c' hc' hst
    (try refine nX ?_)
    obtain rfl := hc'.eq_u8s
    rw [← u8s_append, ← List.length_append] at hst
    repeat' (first | (((with_reducible (refine Sl.k_conv ?_; with_unfolding_all refine s_string_own (k := 0) (b := encI f.1 ++ f.2.2.2.1.l) hst rfl rfl inX IntT.u StrT.u ?_))) <;> (try refine nX ?_)) | ((fail_if_success (go_big_may)); (go_step)))
    refine bodyPost_ret (results_tmp rfl _ _ _) rfl ?_
    exact ⟨_, rfl, rfl, St.weaken hS1 hst.drop⟩
  · rw [encFa_3 g1 g2 (by simp at g4; omega)]
    go_enter Tryd.func17, Tryd.ntmps17
    repeat' ((fail_if_success (with_reducible show Code.wp _ (Code.region 1 _ _) _ _ _)); first | ((fail_if_success (go_big_may)); (go_step)) | (((((refine s_box hst evX rfl ?_; clear hst; intro bx w hst)))) <;> (try refine nX ?_) <;> (try replace hst := nH hst)))
    obtain ⟨S1, hS1, hst, hpe⟩ := pt_box (α := Fa) hst hR (Rep.len hR)
    repeat' (first | ((first | (with_reducible (refine Sl.k_field ?_; refine s_ex hst (qt_fieldp evX hpe inX inX rfl) ?_; rintro vf hpf)) | (with_reducible refine Sl.k_bin ?_; (first | refine s_qt hst (qt_eql_b rfl rfl g1) ?_ | refine s_qt hst (qt_eql_b rfl rfl g2) ?_ | refine s_qt hst (qt_eql_b rfl rfl g3) ?_ | refine s_qt hst (qt_eql_b rfl rfl g4) ?_))) <;> (try refine nX ?_)) | (((with_reducible refine Sl.k_call ?_; ((refine s_call (int_c _ hst f.1 hk) inX rfl ?_; clear hst; rintro v w hst)))) <;> (try refine nX ?_) <;> (try replace hst := nH hst)) | ((fail_if_success (go_big_may)); (go_step)) | (((with_reducible refine Sl.k_load ?_; ((refine s_ex hst (qt_ldp_int evX asX inX) ?_; rintro v ⟨rfl, hI⟩)))) <;> (try refine nX ?_)))
    refine s_ex hst (qt_arrSliceP (a := 0) (b := 16) evX hpf inX inX (.inl ⟨rfl, rfl⟩) (.inl ⟨rfl, rfl⟩) (by omega) (by omega) (by unfold maxLen; omega)) ?_
    rintro v29 hv29
    rw [List.drop_zero, List.take_of_length_le (by omega)] at hv29
    repeat' (fail)
    refine s_append_data (α := UInt8) (k := 0) hst evX evX rfl (by assumption) inX inX inX (by omega) (by omega) (by decide) ?_
    clear hst; intro x w c' hc' hst
    (try refine nX ?_)
    obtain rfl := hc'.eq_u8s
    rw [← u8s_append, ← List.length_append] at hst
    repeat' (first | (((with_reducible (refine Sl.k_conv ?_; with_unfolding_all refine s_string_own (k := 0) (b := encI f.1 ++ f.2.2.2.1.l) hst rfl rfl inX IntT.u StrT.u ?_))) <;> (try refine nX ?_)) | ((fail_if_success (go_big_may)); (go_step)))
    refine bodyPost_ret (results_tmp rfl _ _ _) rfl ?_
    exact ⟨_, rfl, rfl, St.weaken hS1 hst.drop⟩
  · rw [encFa_5 g1 g2 g3 g4]
    go_enter Tryd.func17, Tryd.ntmps17
    repeat' ((fail_if_success (with_reducible show Code.wp _ (Code.region 1 _ _) _ _ _)); first | ((fail_if_success (go_big_may)); (go_step)) | (((((refine s_box hst evX rfl ?_; clear hst; intro bx w hst)))) <;> (try refine nX ?_) <;> (try replace hst := nH hst)))
    obtain ⟨S1, hS1, hst, hpe⟩ := pt_box (α := Fa) hst hR (Rep.len hR)
    repeat' (first | ((first | (with_reducible (refine Sl.k_field ?_; refine s_ex hst (qt_fieldp evX hpe inX inX rfl) ?_; rintro vf hpf)) | (with_reducible (refine Sl.k_conv ?_; with_unfolding_all refine s_string_own (k := 0) (b := encI f.1) hst rfl rfl inX IntT.u StrT.u ?_)) | (with_reducible refine Sl.k_bin ?_; (first | refine s_qt hst (qt_eql_b rfl rfl g1) ?_ | refine s_qt hst (qt_eql_b rfl rfl g2) ?_ | refine s_qt hst (qt_eql_b rfl rfl g3) ?_ | refine s_qt hst (qt_eql_b rfl rfl g4) ?_))) <;> (try refine nX ?_)) | (((with_reducible refine Sl.k_call ?_; ((refine s_call (int_c _ hst f.1 hk) inX rfl ?_; clear hst; rintro v w hst)))) <;> (try refine nX ?_) <;> (try replace hst := nH hst)) | ((fail_if_success (go_big_may)); (go_step)) | (((with_reducible refine Sl.k_load ?_; ((refine s_ex hst (qt_ldp_int evX asX inX) ?_; rintro v ⟨rfl, hI⟩)))) <;> (try refine nX ?_)))
    refine bodyPost_ret (results_tmp rfl _ _ _) rfl ?_
    exact ⟨_, rfl, rfl, St.weaken hS1 hst.drop⟩
end Go.Proofs.YtjapdhaimbalkaaDoor

/- Package directory: the normal form, walked. -/
--@hgp
--@flat
--@dg
--@ex0
namespace Go.Proofs.YtjapdhaimbalkaaDoor
set_option linter.unusedSimpArgs false
set_option linter.unusedVariables false
open Go.RowKit Go.Sl Go.Srt

/-! ### Plain -/
theorem flatF_take {xs : List (List Fa)} {i : Nat} (h : i < xs.length) : (xs.take (i + 1)).flatten = (xs.take i).flatten ++ xs[i] := by
  rw [List.take_succ_eq_append_getElem h, List.flatten_append]; simp
theorem flatF_le {xs : List (List Fa)} (i : Nat) : (xs.take i).flatten.length ≤ xs.flatten.length := by
  have : xs.flatten = (xs.take i).flatten ++ (xs.drop i).flatten := by rw [← List.flatten_append, List.take_append_drop]
  rw [this, List.length_append]; omega
def ent (f : Fa) : En := (f, ⟨encFa f⟩, ())
def esF (fs : List Fa) : List En := (fs.filter validF).map ent
theorem esF_no {fs : List Fa} {f : Fa} (h : validF f = false) : esF (fs ++ [f]) = esF fs := by simp [esF, h]
theorem esF_yes {fs : List Fa} {f : Fa} (h : validF f = true) : esF (fs ++ [f]) = esF fs ++ [ent f] := by simp [esF, h]
theorem ddF_map {zs : List En} (h : ∀ z ∈ zs, z = ent z.1) : ∀ n, n ≤ zs.length → (ddF cfE dEn zs n).map (·.1) = ddF cfF dFa (zs.map (·.1)) n
  | 0, _ => rfl
  | n + 1, hn => by
    have ih := ddF_map h n (by omega)
    have e : ∀ t, t < zs.length → (zs.map (·.1)).getD t dFa = (zs.getD t dEn).1 := fun t ht => by
      rw [getD_lt (by simpa using ht), getD_lt ht, List.getElem_map]
    have k : ∀ t, t < zs.length → (zs.getD t dEn).2.1.b = encFa (zs.getD t dEn).1 := fun t ht => by
      rw [getD_lt ht]
      exact congrArg (fun z : En => z.2.1.b) (h _ (List.getElem_mem ht))
    have c : ∀ s t, s < zs.length → t < zs.length → cfE (zs.getD s dEn) (zs.getD t dEn) = cfF ((zs.map (·.1)).getD s dFa) ((zs.map (·.1)).getD t dFa) := fun s t hs ht => by
      rw [e s hs, e t ht]
      show Lib.compareBytes _ _ = Lib.compareBytes _ _
      rw [k s hs, k t ht]
    rw [ddF, ddF, c n (n - 1) (by omega) (by omega)]
    split
    · exact ih
    · rw [List.map_append, ih, List.map_singleton, e n (by omega)]
theorem norm_eq {fs : List Fa} {zs : List En} (ok : ∀ f ∈ fs, FaOk f) (hp : zs.Perm (esF fs)) (hs : Srtd cfE dEn zs 0 zs.length) : (ddF cfE dEn zs zs.length).map (·.1) = nrm fs := by
  have h : ∀ z ∈ zs, z = ent z.1 := fun z hz => by
    obtain ⟨f, _, rfl⟩ := List.mem_map.1 (hp.mem_iff.1 hz)
    rfl
  rw [ddF_map h _ (Nat.le_refl _)]
  have hl : (zs.map (·.1)).length = zs.length := by simp
  rw [← hl]
  refine nrm_dd ok ?_ ?_
  · have := hp.map (·.1)
    rw [esF, List.map_map] at this
    simpa [Function.comp_def, ent] using this
  · rw [hl]
    intro i j h1 h2 h3
    have e : ∀ t, t < zs.length → (zs.map (·.1)).getD t dFa = (zs.getD t dEn).1 := fun t ht => by
      rw [getD_lt (by simpa using ht), getD_lt ht, List.getElem_map]
    have k : ∀ t, t < zs.length → (zs.getD t dEn).2.1.b = encFa (zs.getD t dEn).1 := fun t ht => by
      rw [getD_lt ht]
      exact congrArg (fun z : En => z.2.1.b) (h _ (List.getElem_mem ht))
    have := hs i j h1 h2 h3
    rw [e i (by omega), e j h3]
    show ¬ Lib.compareBytes _ _ < 0
    rw [← k i (by omega), ← k j h3]
    exact this
theorem list22 {l : List Value} (h : l.length = 22) : ∃ a0 a1 a2 a3 a4 a5 a6 a7 a8 a9 a10 a11 a12 a13 a14 a15 a16 a17 a18 a19 a20 a21, l = [a0, a1, a2, a3, a4, a5, a6, a7, a8, a9, a10, a11, a12, a13, a14, a15, a16, a17, a18, a19, a20, a21] := by
  obtain ⟨a0, l0, rfl⟩ : ∃ a t, l = a :: t := by (cases l with | nil => simp at h | cons a t => exact ⟨a, t, rfl⟩)
  obtain ⟨a1, l1, rfl⟩ : ∃ a t, l0 = a :: t := by (cases l0 with | nil => simp at h | cons a t => exact ⟨a, t, rfl⟩)
  obtain ⟨a2, l2, rfl⟩ : ∃ a t, l1 = a :: t := by (cases l1 with | nil => simp at h | cons a t => exact ⟨a, t, rfl⟩)
  obtain ⟨a3, l3, rfl⟩ : ∃ a t, l2 = a :: t := by (cases l2 with | nil => simp at h | cons a t => exact ⟨a, t, rfl⟩)
  obtain ⟨a4, l4, rfl⟩ : ∃ a t, l3 = a :: t := by (cases l3 with | nil => simp at h | cons a t => exact ⟨a, t, rfl⟩)
  obtain ⟨a5, l5, rfl⟩ : ∃ a t, l4 = a :: t := by (cases l4 with | nil => simp at h | cons a t => exact ⟨a, t, rfl⟩)
  obtain ⟨a6, l6, rfl⟩ : ∃ a t, l5 = a :: t := by (cases l5 with | nil => simp at h | cons a t => exact ⟨a, t, rfl⟩)
  obtain ⟨a7, l7, rfl⟩ : ∃ a t, l6 = a :: t := by (cases l6 with | nil => simp at h | cons a t => exact ⟨a, t, rfl⟩)
  obtain ⟨a8, l8, rfl⟩ : ∃ a t, l7 = a :: t := by (cases l7 with | nil => simp at h | cons a t => exact ⟨a, t, rfl⟩)
  obtain ⟨a9, l9, rfl⟩ : ∃ a t, l8 = a :: t := by (cases l8 with | nil => simp at h | cons a t => exact ⟨a, t, rfl⟩)
  obtain ⟨a10, l10, rfl⟩ : ∃ a t, l9 = a :: t := by (cases l9 with | nil => simp at h | cons a t => exact ⟨a, t, rfl⟩)
  obtain ⟨a11, l11, rfl⟩ : ∃ a t, l10 = a :: t := by (cases l10 with | nil => simp at h | cons a t => exact ⟨a, t, rfl⟩)
  obtain ⟨a12, l12, rfl⟩ : ∃ a t, l11 = a :: t := by (cases l11 with | nil => simp at h | cons a t => exact ⟨a, t, rfl⟩)
  obtain ⟨a13, l13, rfl⟩ : ∃ a t, l12 = a :: t := by (cases l12 with | nil => simp at h | cons a t => exact ⟨a, t, rfl⟩)
  obtain ⟨a14, l14, rfl⟩ : ∃ a t, l13 = a :: t := by (cases l13 with | nil => simp at h | cons a t => exact ⟨a, t, rfl⟩)
  obtain ⟨a15, l15, rfl⟩ : ∃ a t, l14 = a :: t := by (cases l14 with | nil => simp at h | cons a t => exact ⟨a, t, rfl⟩)
  obtain ⟨a16, l16, rfl⟩ : ∃ a t, l15 = a :: t := by (cases l15 with | nil => simp at h | cons a t => exact ⟨a, t, rfl⟩)
  obtain ⟨a17, l17, rfl⟩ : ∃ a t, l16 = a :: t := by (cases l16 with | nil => simp at h | cons a t => exact ⟨a, t, rfl⟩)
  obtain ⟨a18, l18, rfl⟩ : ∃ a t, l17 = a :: t := by (cases l17 with | nil => simp at h | cons a t => exact ⟨a, t, rfl⟩)
  obtain ⟨a19, l19, rfl⟩ : ∃ a t, l18 = a :: t := by (cases l18 with | nil => simp at h | cons a t => exact ⟨a, t, rfl⟩)
  obtain ⟨a20, l20, rfl⟩ : ∃ a t, l19 = a :: t := by (cases l19 with | nil => simp at h | cons a t => exact ⟨a, t, rfl⟩)
  obtain ⟨a21, l21, rfl⟩ : ∃ a t, l20 = a :: t := by (cases l20 with | nil => simp at h | cons a t => exact ⟨a, t, rfl⟩)
  obtain rfl : l21 = [] := by simpa using h
  exact ⟨a0, a1, a2, a3, a4, a5, a6, a7, a8, a9, a10, a11, a12, a13, a14, a15, a16, a17, a18, a19, a20, a21, rfl⟩
theorem list23 {l : List Value} (h : l.length = 23) : ∃ a0 a1 a2 a3 a4 a5 a6 a7 a8 a9 a10 a11 a12 a13 a14 a15 a16 a17 a18 a19 a20 a21 a22, l = [a0, a1, a2, a3, a4, a5, a6, a7, a8, a9, a10, a11, a12, a13, a14, a15, a16, a17, a18, a19, a20, a21, a22] := by
  obtain ⟨b, t, rfl⟩ : ∃ a t, l = a :: t := by cases l with | nil => simp at h | cons a t => exact ⟨a, t, rfl⟩
  obtain ⟨a0, a1, a2, a3, a4, a5, a6, a7, a8, a9, a10, a11, a12, a13, a14, a15, a16, a17, a18, a19, a20, a21, rfl⟩ := list22 (l := t) (by simpa using h)
  exact ⟨b, a0, a1, a2, a3, a4, a5, a6, a7, a8, a9, a10, a11, a12, a13, a14, a15, a16, a17, a18, a19, a20, a21, rfl⟩
theorem rep_ent {S : Snap} {cs : List Value} {f : Fa} (h : Rep.R S cs f) (hl : (encFa f).length ≤ 2000) : Rep.R S (cs ++ [.string ⟨(encFa f).toArray⟩]) (ent f) :=
  prod_mk (cs := cs) h (prod_mk (cs := [_]) ⟨rfl, by show (encFa f).length ≤ maxLen; unfold maxLen; omega⟩ unit_mk)
theorem encFa_len {f : Fa} (ok : FaOk f) : (encFa f).length ≤ 2000 := by
  have hd := ok.d
  have hml := ok.ml
  have ht := ok.t
  have hl1 := encI_len f.1
  have hl2 := encI_len (f.2.1.b.length : Int)
  have hl3 := encI_len ((encMF f.2.2.1).length : Int)
  unfold encFa
  rw [List.length_append]
  split
  · unfold encB; rw [List.length_append]; omega
  · split
    · unfold encB; rw [List.length_append]; omega
    · split
      · omega
      · simp; omega

set_option maxRecDepth 8000 in
set_option maxHeartbeats 4000000 in
theorem normal_c {S M} (w : World) (hst : St S M w) (vl : Value) (ll : List (List Fa)) (hl : RSl S vl ll) (ok : ∀ f ∈ ll.flatten, FaOk f) (hN : ll.flatten.length ≤ 100000) (hn2 : ll.length ≤ 100000) :
    Rets Tryd.prog 37 [vl] w fun v w' => ∃ S' u, S.Le S' ∧ v = .agg [u].toArray ∧ RSl S' u (nrm ll.flatten) ∧ St S' M w' := by
  unfold Rets
  go_enter Tryd.func37, Tryd.ntmps37
  repeat' (first | ((fail_if_success (go_big_may)); (go_step)) | (((with_reducible refine Sl.k_call ?_; (refine s_qt hst (by exact qt_len evX asX inX) ?_))) <;> (try refine nX ?_)) | (((((refine s_alloc hst inX ?_; clear hst; intro bk w hst)))) <;> (try refine nX ?_) <;> (try replace hst := nH hst)))
  rename Nat => b0
  have hst := hst.nil 83 23
  go_loopw [3, 13] (fun u v wr => ∃ (i n : Nat) (c : List Value) (es : List En), (i ≤ ll.length ∧ n ≤ (ll.take i).flatten.length) ∧ v = .int .i64 i ∧ u.oneCell' = true ∧ RL S c es ∧ Hid (es.length = n ∧ es = esF (ll.take i).flatten) ∧ St S (.sl u 83 23 n c :: .box b0 [.slice none 0 0] 27 :: M) wr) (fun _ v _ => ll.length - (intOf v).toNat)
  case atStart => exact ⟨0, 0, [], [], by simp, rfl, rfl, RL.nil, Lib.hid ⟨rfl, by simp [esF]⟩, hst⟩
  case round =>
    clear hst
    obtain ⟨i, n, c, es, hi, rfl, hu1, hR, hE, hst⟩ := hrel
    by_cases hlt : i < ll.length
    · have e1 := flatF_take hlt
      have e2 := flatF_le (xs := ll) (i + 1)
      have e3 := congrArg List.length e1
      rw [List.length_append] at e3
      have hokl : ∀ f ∈ ll[i], FaOk f := fun f hf => ok f (List.mem_flatten.2 ⟨_, List.getElem_mem hlt, hf⟩)
      have E1 := Lib.hid e1
      have HL := Lib.hid hlt
      have H3 := Lib.hid (show n + ll[i].length ≤ (ll.take (i + 1)).flatten.length ∧ (ll.take i).flatten.length + ll[i].length ≤ (ll.take (i + 1)).flatten.length by omega)
      clear e1
      repeat' ((fail_if_success (with_reducible show Code.wp _ (Code.region 5 _ _) _ _ _)); first | ((first | (with_reducible (refine Sl.k_index ?_; refine s_ex hst (qt_index evX hl rfl inX inX omX omX) ?_; rintro v15 hp15; simp only [Int.toNat_natCast] at hp15)) | (with_reducible (refine Sl.k_load ?_; refine s_ex hst (qt_ldp_list (y := ll[i]) evX hp15 inX) ?_; rintro v16 ⟨hli, hli1⟩))) <;> (try refine nX ?_)) | ((fail_if_success (go_big_may)); (go_step)) | (with_reducible refine Sl.gate rfl ?_; (go_step)))
      generalize hlie : ll[i] = li at *
      generalize hpre : (ll.take i).flatten = pre at *
      have E2 := Lib.hid hlie
      have E3 := Lib.hid hpre
      clear hlie hpre
      have hsum : pre.length + li.length ≤ 100000 := by omega
      repeat' (first | ((fail_if_success (go_big_may)); (go_step)) | (((with_reducible refine Sl.k_call ?_; (refine s_qt hst (by exact qt_len evX asX inX) ?_))) <;> (try refine nX ?_)))
      go_loopw [3, 19] (fun u v wr => ∃ (j n : Nat) (c : List Value) (es : List En), (j ≤ li.length ∧ n ≤ pre.length + j) ∧ v = .int .i64 j ∧ u.oneCell' = true ∧ RL S c es ∧ Hid (es.length = n ∧ es = esF (pre ++ li.take j)) ∧ St S (.sl u 83 23 n c :: .box b0 [.slice none 0 0] 27 :: M) wr) (fun _ v _ => li.length - (intOf v).toNat)
      case atStart => exact ⟨0, n, c, es, by omega, rfl, hu1, hR, Lib.hid ⟨hE.out.1, by simpa using hE.out.2⟩, hst⟩
      case round =>
        clear hst hR hE hi hu1
        obtain ⟨j, n, c, es, hi2, rfl, hu1, hR, hE, hst⟩ := hrel
        by_cases hlt2 : j < li.length
        · have okf : FaOk li[j] := hokl _ (List.getElem_mem hlt2)
          have hlen2 := encFa_len okf
          repeat' ((fail_if_success (with_reducible show Code.wp _ (Code.region 8 _ _) _ _ _)); first | ((first | (with_reducible (refine Sl.k_index ?_; refine s_ex hst (qt_index evX hli rfl inX inX omX omX) ?_; rintro v21 hp21; simp only [Int.toNat_natCast] at hp21)) | (with_reducible (refine Sl.k_load ?_; refine s_ex hst (qt_ldp (y := li[j]) evX hp21 inX) ?_; rintro v22 ⟨cf, rfl, hcf⟩))) <;> (try refine nX ?_)) | ((fail_if_success (go_big_may)); (go_step)) | (with_reducible refine Sl.gate rfl ?_; (go_step)) | ((((first | (with_reducible refine Sl.k_store ?_; (refine s_stR hst rfl BoxIn.h evX asX inX rfl rfl ?_); clear hst; intro w hst) | (refine s_alloc hst inX ?_; clear hst; intro bk w hst)))) <;> (try refine nX ?_) <;> (try replace hst := nH hst)))
          obtain ⟨a0, a1, a2, a3, a4, a5, a6, a7, a8, a9, a10, a11, a12, a13, a14, a15, a16, a17, a18, a19, a20, a21, rfl⟩ := list22 (Rep.len hcf)
          have hsn : Hid (pre ++ li.take (j + 1) = (pre ++ li.take j) ++ [li[j]]) := Lib.hid (by rw [List.take_succ_eq_append_getElem hlt2, List.append_assoc])
          obtain ⟨y, gy⟩ : ∃ y, validF li[j] = y := ⟨_, rfl⟩
          have Gy := Lib.hid gy
          have cV := fun {M : List Chunk} (w : World) (hst : St S M w) => (fvalid_c w hst [a0, a1, a2, a3, a4, a5, a6, a7, a8, a9, a10, a11, a12, a13, a14, a15, a16, a17, a18, a19, a20, a21] li[j] hcf okf).eq gy
          have cE := fun {S' : Snap} {M : List Chunk} (w : World) (hS : S.Le S') (hst : St S' M w) => fencode_c w hst [a0, a1, a2, a3, a4, a5, a6, a7, a8, a9, a10, a11, a12, a13, a14, a15, a16, a17, a18, a19, a20, a21] li[j] (Rep.mono hS hcf) okf
          generalize li[j] = f at *
          cases y with
          | false =>
            repeat' (first | (((with_reducible (refine Sl.k_load ?_; with_unfolding_all refine s_qt hst (qt_loadF (x0 := f) rfl BoxIn.h hcf inX) ?_))) <;> (try refine nX ?_)) | (((with_reducible refine Sl.k_call ?_; ((refine s_call (cV _ hst) inX rfl ?_; clear hst; rintro v w ⟨rfl, hst⟩)))) <;> (try refine nX ?_) <;> (try replace hst := nH hst)) | ((fail_if_success (go_big_may)); (go_step)) | (with_reducible refine Sl.gate rfl ?_; (go_step)))
            go_roundw
            case rel => exact ⟨j + 1, n, c, es, by omega, by go_num, hu1, hR, by rw [hsn.out, esF_no Gy.out]; exact hE, hst.drop⟩
            case measure => simp [intOf]; omega
          | true =>
            have hE9 := Lib.hid (show (es ++ [ent f]).length = n + 1 ∧ es ++ [ent f] = esF (pre ++ li.take (j + 1)) from ⟨by rw [List.length_append, hE.out.1]; rfl, by rw [hsn.out, esF_yes Gy.out, hE.out.2]⟩)
            have hcE := rep_ent hcf hlen2
            repeat' ((fail_if_success (with_reducible show Code.wp _ (Code.region 9 _ _) _ _ _)); first | (((with_reducible (refine Sl.k_load ?_; with_unfolding_all refine s_qt hst (qt_loadF (x0 := f) rfl BoxIn.h hcf inX) ?_))) <;> (try refine nX ?_)) | (((with_reducible refine Sl.k_call ?_; ((refine s_call (cV _ hst) inX rfl ?_; clear hst; rintro v w ⟨rfl, hst⟩)))) <;> (try refine nX ?_) <;> (try replace hst := nH hst)) | ((fail_if_success (go_big_may)); (go_step)))
            have hst := hst.swap
            refine v_begin hst (by kernel_rfl) ?_; clear hst; intro ops; (try refine nX ?_)
            (refine t_qt 0 rfl (by kernel_rfl) rfl rfl (by exact qt_move evX) ?_) <;> (try refine nX ?_)
            (refine t_qt 1 rfl (by kernel_rfl) rfl rfl (qt_loadF (x0 := f) evX BoxIn.h hcf inX) ?_) <;> (try refine nX ?_)
            (refine t_qt 2 rfl (by kernel_rfl) rfl rfl (qt_loadF (x0 := f) evX BoxIn.h hcf inX) ?_) <;> (try refine nX ?_)
            (refine t_call 3 rfl (by kernel_rfl) rfl (fun S' M' w hS hM hst => cE w hS hst) inX rfl ?_) <;> (try refine nX ?_)
            (refine t_qt 4 rfl (by kernel_rfl) rfl rfl (qt_buildS (cs := [a0, a1, a2, a3, a4, a5, a6, a7, a8, a9, a10, a11, a12, a13, a14, a15, a16, a17, a18, a19, a20, a21, .string ⟨(encFa f).toArray⟩]) inX inX (by kernel_rfl)) ?_) <;> (try refine nX ?_)
            refine v_one 5 rfl (by kernel_rfl) ?_; intro w hst K hK; refine s_lit (vs := [.agg [a0, a1, a2, a3, a4, a5, a6, a7, a8, a9, a10, a11, a12, a13, a14, a15, a16, a17, a18, a19, a20, a21, .string ⟨(encFa f).toArray⟩].toArray]) hst inX inX rfl rfl (by simp [Value.cells]) rfl (by omega) (by omega) ?_; clear hst; intro x5 w hst; (try refine nX ?_); (try replace hst := nH hst); refine v_next hK hst (Snap.Le.refl _) (Suf.cons (Suf.refl _)) ?_; clear hst hK K; (try clear w); (try refine nX ?_)
            refine v_one 6 rfl (by kernel_rfl) ?_; intro w hst K hK; refine s_append (j := 0) hst evX evX SlIn.h rfl inX inX inX (Rep.one (S := S) hcE) (by omega) (by omega) (by decide) ?_; clear hst; intro x6 w hst; (try refine nX ?_); (try replace hst := nH hst); replace hst := hst.drop; have hone6 := sl_one hst; refine v_last hK hst ?_; clear hst hK K; (try clear w); (try refine nX ?_)
            (refine t_qt 7 rfl (by kernel_rfl) rfl rfl (by exact qt_assign evX) ?_) <;> (try refine nX ?_)
            refine v_done (by kernel_rfl) ?_; clear ops; intro w hst
            all_goals
              repeat' (first | ((fail_if_success (go_big_may)); (go_step)) | (with_reducible refine Sl.gate rfl ?_; (go_step)))
              go_roundw
              case rel => exact ⟨j + 1, n + 1, _, es ++ [ent f], by omega, by go_num, by assumption, hR.append (RL.one_mk hcE), hE9, hst.swap.drop⟩
              case measure => simp [intOf]; omega
        · obtain rfl : j = li.length := by omega
          rw [List.take_length] at hE
          repeat' (first | ((fail_if_success (go_big_may)); (go_step)) | (with_reducible refine Sl.gate rfl ?_; (go_step)))
          go_roundw
          case rel => exact ⟨i + 1, n, c, es, by have := HL.out; have := H3.out; omega, by go_num, hu1, hR, by rw [E1.out]; exact hE, hst⟩
          case measure => have := HL.out; simp [intOf]; omega
    · obtain rfl : i = ll.length := by omega
      rw [List.take_length] at hE hi
      have hn9 : n ≤ 1000000 := by omega
      repeat' ((fail_if_success (with_reducible show Code.wp _ (Code.region 14 _ _) _ _ _)); first | (((with_reducible refine Sl.k_call ?_; ((refine s_call (sort_c _ u3 n es hE.out.1 c hst hR hn9) inX rfl ?_; clear hst; rintro v w ⟨c2, zs, hR2, hperm, hsrt, hst⟩)))) <;> (try refine nX ?_) <;> (try replace hst := nH hst)) | ((fail_if_success (go_big_may)); (go_step)) | (with_reducible refine Sl.gate rfl ?_; (go_step)) | (((((refine s_alloc hst inX ?_; clear hst; intro bk w hst)))) <;> (try refine nX ?_) <;> (try replace hst := nH hst)))
      have hst := hst.swap
      have hzl : zs.length = n := hperm.length_eq.trans hE.out.1
      repeat' (first | (((with_reducible refine Sl.k_call ?_; ((refine s_call (compact_c _ u3 n zs hzl c2 hst hR2 hn9) inX rfl ?_; clear hst; rintro v w ⟨S1, hS1, hds, hst⟩)))) <;> (try refine nX ?_) <;> (try replace hst := nH hst)) | ((fail_if_success (go_big_may)); (go_step)) | (((with_reducible refine Sl.k_call ?_; (refine s_qt hst (by exact qt_len evX asX inX) ?_))) <;> (try refine nX ?_)))
      have hnorm := norm_eq (zs := zs) ok (by rw [← hE.out.2]; exact hperm) (by rw [hzl]; exact hsrt)
      rw [hzl] at hnorm
      have hdl : (ddF cfE dEn zs n).length ≤ n := ddF_len zs n
      generalize ddF cfE dEn zs n = ds at *
      have HM := Lib.hid hnorm
      clear hnorm hperm hsrt hzl hR2 hR hE hi hl
      have hst := (hst.nil 34 22).swap
      go_loopw [39] (fun v wr => ∃ (k : Nat) (u2 : Value) (c : List Value), k ≤ ds.length ∧ v = .int .i64 k ∧ RL S1 c ((ds.take k).map (·.1)) ∧ St S1 (.box bk [u2] 27 :: .sl u2 34 22 k c :: .box b0 [.slice none 0 0] 27 :: M) wr) (fun v _ => ds.length - (intOf v).toNat)
      case atStart => exact ⟨0, _, [], Nat.zero_le _, rfl, RL.nil, hst⟩
      case round =>
        clear hst
        obtain ⟨k, u2, c, hk, rfl, hR, hst⟩ := hrel
        have hone2 : u2.oneCell' = true := sl_onek hst (k := 1) rfl
        by_cases hlt3 : k < ds.length
        · have hsn : Hid ((ds.take (k + 1)).map (·.1) = (ds.take k).map (·.1) ++ [ds[k].1]) := Lib.hid (by rw [List.take_succ_eq_append_getElem hlt3, List.map_append]; rfl)
          repeat' ((fail_if_success (with_reducible show Code.wp _ (Code.region 17 _ _) _ _ _)); first | ((first | (with_reducible (refine Sl.k_index ?_; refine s_ex hst (qt_index evX hds rfl inX inX omX omX) ?_; rintro v41 hp41; simp only [Int.toNat_natCast] at hp41)) | (with_reducible (refine Sl.k_load ?_; refine s_ex hst (qt_ldp (y := ds[k]) evX hp41 inX) ?_; rintro v42 ⟨cz, rfl, hcz⟩))) <;> (try refine nX ?_)) | ((fail_if_success (go_big_may)); (go_step)) | (with_reducible refine Sl.gate rfl ?_; (go_step)) | ((((first | (with_reducible refine Sl.k_store ?_; (refine s_stR hst rfl BoxIn.h evX asX inX rfl rfl ?_); clear hst; intro w hst) | (refine s_alloc hst inX ?_; clear hst; intro bk w hst)))) <;> (try refine nX ?_) <;> (try replace hst := nH hst)))
          obtain ⟨a0, a1, a2, a3, a4, a5, a6, a7, a8, a9, a10, a11, a12, a13, a14, a15, a16, a17, a18, a19, a20, a21, a22, rfl⟩ := list23 (Rep.len hcz)
          have hcf : Rep.R S1 [a0, a1, a2, a3, a4, a5, a6, a7, a8, a9, a10, a11, a12, a13, a14, a15, a16, a17, a18, a19, a20, a21] ds[k].1 := hcz.2.1
          generalize ds[k] = z at *
          repeat' (first | ((fail_if_success (go_big_may)); (go_step)) | ((first | (with_reducible refine Sl.k_load ?_; (refine s_qt hst (by exact qt_load rfl _ BoxIn.h inX rfl rfl) ?_)) | (with_reducible refine Sl.k_field ?_; (refine s_qt hst (qt_field rfl inX) ?_))) <;> (try refine nX ?_)))
          refine s_lit (vs := [.agg [a0, a1, a2, a3, a4, a5, a6, a7, a8, a9, a10, a11, a12, a13, a14, a15, a16, a17, a18, a19, a20, a21].toArray]) (cs := [a0, a1, a2, a3, a4, a5, a6, a7, a8, a9, a10, a11, a12, a13, a14, a15, a16, a17, a18, a19, a20, a21]) hst inX inX rfl rfl (by simp [Value.cells]) rfl (by omega) (by omega) ?_
          clear hst; intro x w hst
          (try refine nX ?_)
          (try replace hst := nH hst)
          repeat' (fail)
          refine s_append (j := 0) hst evX evX SlIn.h rfl inX inX inX (Rep.one (S := S1) hcf) (by omega) (by omega) (by decide) ?_
          clear hst; intro v' w hst
          (try refine nX ?_)
          (try replace hst := nH hst)
          replace hst := hst.drop
          have hone' : v'.oneCell' = true := sl_onek hst (k := 2) rfl
          repeat' (first | ((fail_if_success (go_big_may)); (go_step)) | (((with_reducible refine Sl.k_field ?_; (refine s_qt hst (qt_field rfl inX) ?_))) <;> (try refine nX ?_)) | (with_reducible refine Sl.gate rfl ?_; (go_step)) | (((((with_reducible refine Sl.k_store ?_; (refine s_st1 hst rfl BoxIn.h evX asX inX (by simp) ?_); clear hst; intro w hst)))) <;> (try refine nX ?_) <;> (try replace hst := nH hst)))
          go_roundw
          case rel => exact ⟨k + 1, v', _, by omega, by go_num, by rw [hsn.out]; exact hR.append (RL.one_mk hcf), hst.drop⟩
          case measure => simp [intOf]; omega
        · obtain rfl : k = ds.length := by omega
          rw [List.take_length] at hR
          obtain ⟨S2, hS2, hst, hv⟩ := St.freeze (α := Fa) hst.swap hR (by simp)
          repeat' (first | ((fail_if_success (go_big_may)); (go_step)) | (((with_reducible refine Sl.k_load ?_; (refine s_qt hst (by exact qt_load rfl _ BoxIn.h inX rfl rfl) ?_))) <;> (try refine nX ?_)) | (with_reducible refine Sl.gate rfl ?_; (go_step)))
          refine s_store hst rfl 1 rfl inX rfl (cs := [u2]) rfl rfl (by simp [hone2]) (by simp) ?_
          clear hst; intro w hst
          (try refine nX ?_)
          (try replace hst := nH hst)
          repeat' (((fail_if_success (go_big_may)); (go_step)))
          exact ret_cell rfl hst rfl 1 rfl inX (cs := [u2]) rfl rfl ⟨_, rfl, S2, u2, hS1.trans hS2, rfl, by rw [← HM.out]; exact hv, hst.drop.drop⟩
end Go.Proofs.YtjapdhaimbalkaaDoor

/- Package directory: facts added, directories merged, walked. -/
--@hgp
--@flat
--@dg
--@ex0
namespace Go.Proofs.YtjapdhaimbalkaaDoor
set_option linter.unusedSimpArgs false
set_option linter.unusedVariables false
open Go.RowKit Go.Sl Go.Srt

abbrev Dir := List Fa × Unit
def DirOk (d : Dir) : Prop := ∀ f ∈ d.1, FaOk f
def mergeD (a b : Dir) : Dir := (nrm (a.1 ++ b.1), ())
/-- Two slices that are data, in a slice literal: data. -/
theorem lit_two {S : Snap} {M : List Chunk} {w : World} {v u1 u2 : Value} {T : TypeId} {a b : List Fa} (h1 : RSl S u1 a) (h2 : RSl S u2 b) (hst : St S (.sl v T 1 2 [u1, u2] :: M) w) : ∃ S', S.Le S' ∧ St S' M w ∧ RSl S' v [a, b] :=
  St.freeze (α := List Fa) (c := [u1] ++ [u2]) hst ((RL.one_mk (show Rep.R S [u1] a from ⟨u1, rfl, h1⟩)).append (RL.one_mk (show Rep.R S [u2] b from ⟨u2, rfl, h2⟩))) rfl
theorem lit_one {S : Snap} {M : List Chunk} {w : World} {v u1 : Value} {T : TypeId} {a : List Fa} (h1 : RSl S u1 a) (hst : St S (.sl v T 1 1 [u1] :: M) w) : ∃ S', S.Le S' ∧ St S' M w ∧ RSl S' v [a] :=
  St.freeze (α := List Fa) (c := [u1]) hst (RL.one_mk (show Rep.R S [u1] a from ⟨u1, rfl, h1⟩)) rfl

set_option maxRecDepth 8000 in
set_option maxHeartbeats 1000000 in
theorem merge_c {S M} (w : World) (hst : St S M w) (u1 u2 : Value) (a b : List Fa) (h1 : RSl S u1 a) (h2 : RSl S u2 b) (oa : ∀ f ∈ a, FaOk f) (ob : ∀ f ∈ b, FaOk f) (hn : a.length + b.length ≤ 100000) :
    Rets Tryd.prog 19 [.agg [u1].toArray, .agg [u2].toArray] w fun v w' => ∃ S' u, S.Le S' ∧ v = .agg [u].toArray ∧ RSl S' u (nrm (a ++ b)) ∧ St S' M w' := by
  unfold Rets
  have k1 := h1.oneCell
  have k2 := h2.oneCell
  have ok2 : ∀ f ∈ [a, b].flatten, FaOk f := fun f hf => by
    rcases List.mem_append.1 (by simpa using hf) with h | h
    · exact oa f h
    · exact ob f h
  have hl2 : [a, b].flatten.length ≤ 100000 := by simpa using hn
  go_enter Tryd.func19, Tryd.ntmps19
  repeat' (first | ((fail_if_success (go_big_may)); (go_step)) | ((first | (with_reducible refine Sl.k_load ?_; (refine s_qt hst (by exact qt_load rfl _ BoxIn.h inX rfl rfl) ?_)) | (with_reducible refine Sl.k_field ?_; (refine s_qt hst (qt_field rfl inX) ?_))) <;> (try refine nX ?_)) | ((((first | (refine s_box hst evX rfl ?_; clear hst; intro bx w hst) | (refine s_alloc hst inX ?_; clear hst; intro bk w hst)))) <;> (try refine nX ?_) <;> (try replace hst := nH hst)))
  refine s_lit (vs := [u1, u2]) (cs := [u1, u2]) hst inX inX rfl rfl (by simp [cells_size1 k1, cells_size1 k2]) (by simp [cells_one k1, cells_one k2]) (by omega) (by omega) ?_
  clear hst; intro x w hst
  (try refine nX ?_)
  (try replace hst := nH hst)
  obtain ⟨S1, hS1, hst, hx⟩ := lit_two h1 h2 hst
  repeat' ((((with_reducible refine Sl.k_call ?_; ((refine s_call (normal_c _ hst x [a, b] hx ok2 hl2 (by simp)) inX rfl ?_; clear hst; rintro v w ⟨S2, u, hS2, rfl, hu, hst⟩)))) <;> (try refine nX ?_) <;> (try replace hst := nH hst)))
  have ku := hu.oneCell
  have hflat : [a, b].flatten = a ++ b := by simp
  rw [hflat] at hu
  refine s_store hst rfl 0 rfl inX rfl (cs := [u]) rfl rfl (by simp [ku]) (by simp) ?_
  clear hst; intro w hst
  (try refine nX ?_)
  (try replace hst := nH hst)
  repeat' (((fail_if_success (go_big_may)); (go_step)))
  exact ret_cell rfl hst rfl 0 rfl inX (cs := [u]) rfl rfl ⟨_, rfl, S2, u, hS1.trans hS2, rfl, hu, hst.drop.drop.drop⟩

set_option maxRecDepth 8000 in
set_option maxHeartbeats 1000000 in
theorem add_c {S M} (w : World) (hst : St S M w) (u1 : Value) (a : List Fa) (h1 : RSl S u1 a) (oa : ∀ f ∈ a, FaOk f) (cs : List Value) (f : Fa) (hR : Rep.R S cs f) (ok : FaOk f) (hn : a.length ≤ 90000) :
    Rets Tryd.prog 11 [.agg [u1].toArray, .agg cs.toArray] w fun v w' => ∃ S' u, S.Le S' ∧ v = .tuple #[.agg [u].toArray, .int .i64 (if validF f = true then 0 else 1)] ∧ RSl S' u (if validF f = true then nrm (a ++ [f]) else []) ∧ St S' M w' := by
  unfold Rets
  have k1 := h1.oneCell
  have hflat : [a, [f]].flatten = a ++ [f] := by simp
  have ok2 : ∀ g ∈ [a, [f]].flatten, FaOk g := fun g hg => by
    rw [hflat] at hg
    rcases List.mem_append.1 hg with h | h
    · exact oa g h
    · obtain rfl := List.mem_singleton.1 h
      exact ok
  have hl2 : [a, [f]].flatten.length ≤ 100000 := by simp; omega
  obtain ⟨a0, a1, a2, a3, a4, a5, a6, a7, a8, a9, a10, a11, a12, a13, a14, a15, a16, a17, a18, a19, a20, a21, rfl⟩ := list22 (Rep.len hR)
  obtain ⟨y, gy⟩ : ∃ y, validF f = y := ⟨_, rfl⟩
  have cV := fun {M : List Chunk} (w : World) (hst : St S M w) => (fvalid_c w hst [a0, a1, a2, a3, a4, a5, a6, a7, a8, a9, a10, a11, a12, a13, a14, a15, a16, a17, a18, a19, a20, a21] f hR ok).eq gy
  cases y with
  | false =>
    simp only [gy, Bool.false_eq_true, if_false]
    go_enter Tryd.func11, Tryd.ntmps11
    repeat' (first | (((with_reducible (refine Sl.k_load ?_; with_unfolding_all refine s_qt hst (qt_loadF (x0 := f) rfl BoxIn.h hR inX) ?_))) <;> (try refine nX ?_)) | (((with_reducible refine Sl.k_call ?_; ((refine s_call (cV _ hst) inX rfl ?_; clear hst; rintro v w ⟨rfl, hst⟩)))) <;> (try refine nX ?_) <;> (try replace hst := nH hst)) | ((fail_if_success (go_big_may)); (go_step)) | (with_reducible refine Sl.gate rfl ?_; (go_step)) | ((((first | (with_reducible refine Sl.k_store ?_; (refine s_store hst rfl _ BoxIn.h inX evX rfl lenOk oneOk (by simp) ?_); clear hst; intro w hst) | (refine s_box hst evX rfl ?_; clear hst; intro bx w hst) | (refine s_alloc hst inX ?_; clear hst; intro bk w hst)))) <;> (try refine nX ?_) <;> (try replace hst := nH hst)))
    exact ret_two rfl (rv_cell hst rfl 0 rfl inX (cs := [.slice none 0 0]) rfl rfl) (rv_tmp rfl) ⟨_, rfl, S, .slice none 0 0, Snap.Le.refl S, rfl, .inl ⟨none, 0, rfl, rfl, by simp [maxLen]⟩, hst.drop.drop.drop⟩
  | true =>
    simp only [gy, if_true]
    go_enter Tryd.func11, Tryd.ntmps11
    repeat' (first | (((with_reducible (refine Sl.k_load ?_; with_unfolding_all refine s_qt hst (qt_loadF (x0 := f) rfl BoxIn.h hR inX) ?_))) <;> (try refine nX ?_)) | (((with_reducible refine Sl.k_call ?_; ((refine s_call (cV _ hst) inX rfl ?_; clear hst; rintro v w ⟨rfl, hst⟩)))) <;> (try refine nX ?_) <;> (try replace hst := nH hst)) | ((fail_if_success (go_big_may)); (go_step)) | ((first | (with_reducible refine Sl.k_load ?_; (refine s_qt hst (by exact qt_load rfl _ BoxIn.h inX rfl rfl) ?_)) | (with_reducible refine Sl.k_field ?_; (refine s_qt hst (qt_field rfl inX) ?_))) <;> (try refine nX ?_)) | (with_reducible refine Sl.gate rfl ?_; (go_step)) | ((((first | (refine s_box hst evX rfl ?_; clear hst; intro bx w hst) | (refine s_alloc hst inX ?_; clear hst; intro bk w hst)))) <;> (try refine nX ?_) <;> (try replace hst := nH hst)))
    refine s_lit (vs := [.agg [a0, a1, a2, a3, a4, a5, a6, a7, a8, a9, a10, a11, a12, a13, a14, a15, a16, a17, a18, a19, a20, a21].toArray]) (cs := [a0, a1, a2, a3, a4, a5, a6, a7, a8, a9, a10, a11, a12, a13, a14, a15, a16, a17, a18, a19, a20, a21]) hst inX inX rfl rfl (by simp [Value.cells]) rfl (by omega) (by omega) ?_
    clear hst; intro x w hst
    (try refine nX ?_)
    (try replace hst := nH hst)
    obtain ⟨S0, hS0, hst, hx0⟩ := St.freeze (α := Fa) hst (RL.one_mk hR) rfl
    have kx := hx0.oneCell
    replace h1 := h1.mono hS0
    repeat' (fail)
    refine s_lit (vs := [u1, x]) (cs := [u1, x]) hst inX inX rfl rfl (by simp [cells_size1 k1, cells_size1 kx]) (by simp [cells_one k1, cells_one kx]) (by omega) (by omega) ?_
    clear hst; intro x2 w hst
    (try refine nX ?_)
    (try replace hst := nH hst)
    obtain ⟨S1, hS1, hst, hx⟩ := lit_two h1 hx0 hst
    repeat' ((((with_reducible refine Sl.k_call ?_; ((refine s_call (normal_c _ hst x2 [a, [f]] hx ok2 hl2 (by simp)) inX rfl ?_; clear hst; rintro v w ⟨S2, u, hS2, rfl, hu, hst⟩)))) <;> (try refine nX ?_) <;> (try replace hst := nH hst)))
    have ku := hu.oneCell
    rw [hflat] at hu
    refine s_store hst rfl 0 rfl inX rfl (cs := [u]) rfl rfl (by simp [ku]) (by simp) ?_
    clear hst; intro w hst
    (try refine nX ?_)
    (try replace hst := nH hst)
    repeat' (((fail_if_success (go_big_may)); (go_step)))
    exact ret_two rfl (rv_cell hst rfl 0 rfl inX (cs := [u]) rfl rfl) (rv_tmp rfl) ⟨_, rfl, S2, u, (hS0.trans hS1).trans hS2, rfl, hu, hst.drop.drop.drop⟩
end Go.Proofs.YtjapdhaimbalkaaDoor

/- Package directory: the digest of a directory, walked. -/
--@hgp
--@flat
--@dg
--@ex0
namespace Go.Proofs.YtjapdhaimbalkaaDoor
set_option linter.unusedSimpArgs false
set_option linter.unusedVariables false
open Go.RowKit Go.Sl Go.Srt

theorem qt_dir {S : Snap} {M : List Chunk} {l : List Value} {x : Operand} {u : Value} (hx : evF l x = .agg [u].toArray) : Qt Tryd.prog l (.field 27 x 0) S M u :=
  qt_fieldV (cs := [u]) (z := 1) (agg := false) (es := [u]) hx Tryd.underlying27 rfl ty22 rfl rfl
def fdg (f : Fa) : Dg := ⟨dig 17 [encFa f]⟩
theorem fdg_len (f : Fa) : (fdg f).l.length = 16 := dig_len _ _
def digD (a : List Fa) : Dg := rootM ((nrm a).map fdg)
theorem fdg_snoc {l : List Fa} {k : Nat} (h : k < l.length) : (l.take (k + 1)).map fdg = (l.take k).map fdg ++ [fdg l[k]] := by
  rw [List.take_succ_eq_append_getElem h, List.map_append]; rfl
theorem nrm_len {fs : List Fa} : (nrm fs).length ≤ fs.length := by
  have ins : ∀ (f : Fa) (l : List Fa), (insF f l).length ≤ l.length + 1 := fun f l => by
    induction l with
    | nil => simp [insF]
    | cons x l ih =>
      rw [insF]
      split
      · simp
      · split
        · simp
        · simp only [List.length_cons]; omega
  have key : ∀ (gs out : List Fa), (gs.foldl (fun out f => insF f out) out).length ≤ gs.length + out.length := fun gs => by
    induction gs with
    | nil => intro out; simp
    | cons g gs ih =>
      intro out
      have h1 := ih (insF g out)
      have h2 := ins g out
      rw [List.foldl_cons, List.length_cons]
      omega
  have h1 := key (fs.filter validF) []
  have h2 := List.length_filter_le validF fs
  simp only [List.length_nil] at h1
  exact Nat.le_trans h1 (by omega)

theorem normal1_c {S M} (w : World) (hst : St S M w) (x : Value) (a F : List Fa) (hx : RSl S x [a]) (oa : ∀ f ∈ a, FaOk f) (hn : a.length ≤ 90000) (hF : nrm a = F) :
    Rets Tryd.prog 37 [x] w fun v w' => ∃ S' u, S.Le S' ∧ v = .agg [u].toArray ∧ RSl S' u F ∧ St S' M w' := by
  subst hF
  have h : [a].flatten = a := by simp
  have := normal_c w hst x [a] hx (by rw [h]; exact oa) (by rw [h]; omega) (by simp)
  rwa [h] at this
set_option maxRecDepth 8000 in
set_option maxHeartbeats 2000000 in
theorem ddigest_c {S M} (w : World) (hst : St S M w) (hG : Glob S) (u1 : Value) (a : List Fa) (h1 : RSl S u1 a) (oa : ∀ f ∈ a, FaOk f) (hn : a.length ≤ 90000) :
    Rets Tryd.prog 21 [.agg [u1].toArray] w fun v w' => v = dgVm (digD a) ∧ St S M w' := by
  unfold Rets
  have k1 := h1.oneCell
  have hnl := nrm_len (fs := a)
  have hnk := nrm_ok oa
  obtain ⟨F, hF⟩ : ∃ F, nrm a = F := ⟨_, rfl⟩
  have hD : digD a = rootM (F.map fdg) := by rw [← hF]; rfl
  rw [hF] at hnl hnk
  have HD := Lib.hid hD
  have HF := Lib.hid hF
  clear hD hF
  haveI : LenIs (digD a).l 16 := ⟨rootM_len _⟩
  generalize digD a = G at *
  go_enter Tryd.func21, Tryd.ntmps21
  repeat' (first | ((fail_if_success (go_big_may)); (go_step)) | ((first | (with_reducible refine Sl.k_load ?_; (refine s_qt hst (by exact qt_load rfl _ BoxIn.h inX rfl rfl) ?_)) | (with_reducible refine Sl.k_field ?_; (refine s_qt hst (qt_field rfl inX) ?_))) <;> (try refine nX ?_)) | ((((first | (refine s_box hst evX rfl ?_; clear hst; intro bx w hst) | (refine s_alloc hst inX ?_; clear hst; intro bk w hst)))) <;> (try refine nX ?_) <;> (try replace hst := nH hst)))
  refine s_lit (vs := [u1]) (cs := [u1]) hst inX inX rfl rfl (by simp [cells_size1 k1]) (by simp [cells_one k1]) (by omega) (by omega) ?_
  clear hst; intro x w hst
  (try refine nX ?_)
  (try replace hst := nH hst)
  obtain ⟨S1, hS1, hst, hx⟩ := lit_one h1 hst
  replace hG := hG.mono hS1
  repeat' (first | (((with_reducible (refine s_qt hst (qt_dir rfl) ?_))) <;> (try refine nX ?_)) | (((with_reducible refine Sl.k_call ?_; ((refine s_call (normal1_c _ hst x a F hx oa hn HF.out) inX rfl ?_; clear hst; rintro v w ⟨S2, u, hS2, rfl, hu, hst⟩)))) <;> (try refine nX ?_) <;> (try replace hst := nH hst)) | ((fail_if_success (go_big_may)); (go_step)) | (((with_reducible refine Sl.k_call ?_; (refine s_qt hst (by exact qt_len evX asX inX) ?_))) <;> (try refine nX ?_)))
  replace hG := hG.mono hS2
  have ku := hu.oneCell
  have hst := hst.nil 32 16
  go_loopw [3, 12] (fun q v wr => ∃ k : Nat, k ≤ F.length ∧ v = .int .i64 k ∧ q.oneCell' = true ∧ St S2 (.sl q 32 16 k (cF dgC ((F.take k).map fdg)) :: .box bk [.int .u8 0, .int .u8 0, .int .u8 0, .int .u8 0, .int .u8 0, .int .u8 0, .int .u8 0, .int .u8 0, .int .u8 0, .int .u8 0, .int .u8 0, .int .u8 0, .int .u8 0, .int .u8 0, .int .u8 0, .int .u8 0] 32 :: .box bx [u1] 27 :: M) wr) (fun _ v _ => F.length - (intOf v).toNat)
  case atStart => exact ⟨0, Nat.zero_le _, rfl, rfl, hst⟩
  case round =>
    clear hst
    obtain ⟨k, hk, rfl, hone, hst⟩ := hrel
    by_cases hlt : k < F.length
    · have okf : FaOk F[k] := hnk _ (List.getElem_mem hlt)
      have hlen2 := encFa_len okf
      have hsn := Lib.hid (fdg_snoc hlt)
      repeat' ((fail_if_success (with_reducible show Code.wp _ (Code.region 5 _ _) _ _ _)); first | ((first | (with_reducible (refine Sl.k_index ?_; refine s_ex hst (qt_index evX hu rfl inX inX omX omX) ?_; rintro v21 hp21; simp only [Int.toNat_natCast] at hp21)) | (with_reducible (refine Sl.k_load ?_; refine s_ex hst (qt_ldp (y := F[k]) evX hp21 inX) ?_; rintro v22 ⟨cf, rfl, hcf⟩))) <;> (try refine nX ?_)) | ((fail_if_success (go_big_may)); (go_step)) | (with_reducible refine Sl.gate rfl ?_; (go_step)) | ((((first | (with_reducible refine Sl.k_store ?_; (refine s_stR hst rfl BoxIn.h evX asX inX rfl rfl ?_); clear hst; intro w hst) | (refine s_alloc hst inX ?_; clear hst; intro bk w hst)))) <;> (try refine nX ?_) <;> (try replace hst := nH hst)))
      have cE := fun {M : List Chunk} (w : World) (hst : St S2 M w) => fencode_c w hst cf F[k] hcf okf
      generalize F[k] = f at *
      generalize (F.take k).map fdg = L at *
      repeat' (first | ((first | (with_reducible (refine Sl.k_load ?_; with_unfolding_all refine s_qt hst (qt_loadF (x0 := f) rfl BoxIn.h hcf inX) ?_)) | (with_reducible (refine Sl.k_conv ?_; (with_unfolding_all refine s_bytes (b := encFa f) hst rfl StrT.u inX IntT.u (by omega) ?_); clear hst; intro v4 w hst; have fz := fz_u8 hst; clear hst; obtain ⟨S3, hS3, hv, ho, hst⟩ := fz))) <;> (try refine nX ?_)) | (((with_reducible refine Sl.k_call ?_; ((refine s_call (cE _ hst) inX rfl ?_; clear hst; rintro v w ⟨rfl, hst⟩)))) <;> (try refine nX ?_) <;> (try replace hst := nH hst)) | ((fail_if_success (go_big_may)); (go_step)))
      refine s_parts hst (Sls.cons hv Sls.nil) inX inX rfl rfl (by simp) ?_
      clear hst; intro S4 u6 w hS4 hu6 hou hst
      (try refine nX ?_)
      repeat' ((((with_reducible refine Sl.k_call ?_; ((refine s_call (digest_c _ hst ((hG.mono hS3).mono hS4) 17 (by omega) _ _ hu6 (by simp [sizeB]; omega)) inX rfl ?_; clear hst; rintro v w ⟨rfl, hst⟩)))) <;> (try refine nX ?_) <;> (try replace hst := nH hst)))
      refine s_lit (vs := [dgV (fdg f)]) hst inX inX rfl rfl (by simp [Value.cells, u8s_length, fdg_len]) rfl (by omega) (by omega) ?_
      clear hst; intro u w hst
      (try refine nX ?_)
      (try replace hst := nH hst)
      repeat' (fail)
      refine s_append (j := 0) hst evX evX SlIn.h rfl inX inX inX (by simpa [Value.cells] using u8s_one (fdg f).l) (by omega) (by omega) (by decide) ?_
      clear hst; intro v' w hst
      (try refine nX ?_)
      (try replace hst := nH hst)
      replace hst := hst.drop
      repeat' (first | ((fail_if_success (go_big_may)); (go_step)) | (with_reducible refine Sl.gate rfl ?_; (go_step)))
      have hone' := sl_one hst.drop
      go_roundw
      case rel => exact ⟨k + 1, by omega, by go_num, by assumption, by rw [hsn.out, cF_snoc]; exact St.weaken (hS3.trans hS4) hst.drop⟩
      case measure => simp [intOf]; omega
    · obtain rfl : k = F.length := by omega
      rw [List.take_length] at hst
      obtain ⟨S3, hS3, hst, hv⟩ := St.freeze (α := Dg) hst (rl_dgs _ fun d hd => by
        obtain ⟨f, _, rfl⟩ := List.mem_map.1 hd
        exact fdg_len f) (by simp)
      have hfl : (F.map fdg).length ≤ 90000 := by rw [List.length_map]; omega
      repeat' (first | (((with_reducible refine Sl.k_call ?_; ((refine s_call (root_c 90000 _ hst (hG.mono hS3) _ _ hv hfl (by omega)) inX rfl ?_; clear hst; rintro v w ⟨rfl, hst⟩)))) <;> (try refine nX ?_) <;> (try replace hst := nH hst)) | ((fail_if_success (go_big_may)); (go_step)) | (with_reducible refine Sl.gate rfl ?_; (go_step)) | (((((with_reducible refine Sl.k_store ?_; (refine s_stD hst rfl BoxIn.h inX evX inX lenX ?_); clear hst; intro w hst)))) <;> (try refine nX ?_) <;> (try replace hst := nH hst)))
      rw [← HD.out] at hst
      exact ret_D rfl hst rfl BoxIn.h inX inX ⟨_, rfl, rfl, St.weaken ((hS1.trans hS2).trans hS3) hst.drop.drop⟩
end Go.Proofs.YtjapdhaimbalkaaDoor

/- Package directory: the first fact of a kind that answers, walked. -/
--@hgp
--@flat
--@dg
--@ex0
namespace Go.Proofs.YtjapdhaimbalkaaDoor
set_option linter.unusedSimpArgs false
set_option linter.unusedVariables false
open Go.RowKit Go.Sl Go.Srt

def findV {β : Type} (F : List Fa) (kind : Int) (p : Fa → Bool) (r : Fa → β) (z : β) : β × Bool := match F.find? (fun f => f.1 == kind && p f) with | some f => (r f, true) | none => (z, false)
theorem findV_some {β : Type} {F : List Fa} {kind : Int} {p : Fa → Bool} {r : Fa → β} {z : β} {k : Nat} (hk : k < F.length) (hn : ∀ f ∈ F.take k, (f.1 == kind && p f) = false) (h : (F[k].1 == kind && p F[k]) = true) : findV F kind p r z = (r F[k], true) := by
  have e : F = F.take k ++ F[k] :: F.drop (k + 1) := by rw [← List.drop_eq_getElem_cons hk, List.take_append_drop]
  have : F.find? (fun f => f.1 == kind && p f) = some F[k] := by
    conv => lhs; rw [e]
    rw [List.find?_append, List.find?_eq_none.2 (fun f hf => by rw [hn f hf]; simp), List.find?_cons_of_pos (by exact h)]
    rfl
  rw [findV, this]
theorem findV_none {β : Type} {F : List Fa} {kind : Int} {p : Fa → Bool} {r : Fa → β} {z : β} (hn : ∀ f ∈ F, (f.1 == kind && p f) = false) : findV F kind p r z = (z, false) := by
  rw [findV, List.find?_eq_none.2 (fun f hf => by rw [hn f hf]; simp)]
theorem find_next {F : List Fa} {kind : Int} {p : Fa → Bool} {k : Nat} (hk : k < F.length) (hn : ∀ f ∈ F.take k, (f.1 == kind && p f) = false) (h : (F[k].1 == kind && p F[k]) = false) : ∀ f ∈ F.take (k + 1), (f.1 == kind && p f) = false := by
  rw [List.take_succ_eq_append_getElem hk]
  intro f hf
  rcases List.mem_append.1 hf with hf | hf
  · exact hn f hf
  · obtain rfl := List.mem_singleton.1 hf
    exact h
theorem tk_fa {S : Snap} {cs : List Value} {f : Fa} (h : Rep.R S cs f) : (cs.drop 0).take 1 = [.int .i64 f.1] := h.2.1.1

set_option maxRecDepth 8000 in
set_option maxHeartbeats 2000000 in
theorem finds_c {S M} (w : World) (hst : St S M w) (u1 : Value) (a : List Fa) (h1 : RSl S u1 a) (oa : ∀ f ∈ a, FaOk f) (hn : a.length ≤ 90000) (kind : Int)
    (g : FuncId) (hg : Body Tryd.prog g) (ca : List Value) (p : Fa → Bool) (hp : ∀ (S' : Snap) (M' : List Chunk) (w : World) (cs : List Value) (f : Fa), S.Le S' → FaOk f → Rep.R S' cs f → St S' M' w → Rets Tryd.prog g (.agg cs.toArray :: ca) w fun v w' => v = .bool (p f) ∧ St S' M' w')
    (g2 : FuncId) (hg2 : Body Tryd.prog g2) (r : Fa → Str) (hr : ∀ (S' : Snap) (M' : List Chunk) (w : World) (cs : List Value) (f : Fa), S.Le S' → FaOk f → Rep.R S' cs f → St S' M' w → Rets Tryd.prog g2 [.agg cs.toArray] w fun v w' => v = .string ⟨(r f).b.toArray⟩ ∧ St S' M' w') :
    Rets Tryd.prog 60 [.agg [u1].toArray, .int .i64 kind, .func (.func g) #[] ca.toArray, .func (.func g2) #[] #[]] w fun v w' => v = .tuple #[.string ⟨(findV (nrm a) kind p r (⟨[]⟩ : Str)).1.b.toArray⟩, .bool (findV (nrm a) kind p r (⟨[]⟩ : Str)).2] ∧ St S M w' := by
  unfold Rets
  have k1 := h1.oneCell
  have hnl := nrm_len (fs := a)
  have hnk := nrm_ok oa
  obtain ⟨F, hF⟩ : ∃ F, nrm a = F := ⟨_, rfl⟩
  rw [hF] at hnl hnk ⊢
  have HF := Lib.hid hF
  have Hp := Lib.hid hp
  have Hr := Lib.hid hr
  clear hF hp hr
  go_enter Tryd.func60, Tryd.ntmps60
  repeat' (first | ((fail_if_success (go_big_may)); (go_step)) | ((first | (with_reducible refine Sl.k_load ?_; (refine s_qt hst (by exact qt_load rfl _ BoxIn.h inX rfl rfl) ?_)) | (with_reducible refine Sl.k_field ?_; (refine s_qt hst (qt_field rfl inX) ?_))) <;> (try refine nX ?_)) | (((((refine s_box hst evX rfl ?_; clear hst; intro bx w hst)))) <;> (try refine nX ?_) <;> (try replace hst := nH hst)))
  refine s_lit (vs := [u1]) (cs := [u1]) hst inX inX rfl rfl (by simp [cells_size1 k1]) (by simp [cells_one k1]) (by omega) (by omega) ?_
  clear hst; intro x w hst
  (try refine nX ?_)
  (try replace hst := nH hst)
  obtain ⟨S1, hS1, hst, hx⟩ := lit_one h1 hst
  repeat' (first | (((with_reducible (refine s_qt hst (qt_dir rfl) ?_))) <;> (try refine nX ?_)) | (((with_reducible refine Sl.k_call ?_; ((refine s_call (normal1_c _ hst x a F hx oa hn HF.out) inX rfl ?_; clear hst; rintro v w ⟨S2, u, hS2, rfl, hu, hst⟩)))) <;> (try refine nX ?_) <;> (try replace hst := nH hst)) | ((fail_if_success (go_big_may)); (go_step)) | (((with_reducible refine Sl.k_call ?_; (refine s_qt hst (by exact qt_len evX asX inX) ?_))) <;> (try refine nX ?_)))
  have hle := hS1.trans hS2
  go_loopw [19] (fun v wr => ∃ k : Nat, k ≤ F.length ∧ v = .int .i64 k ∧ Hid (∀ f ∈ F.take k, (f.1 == kind && p f) = false) ∧ St S2 (.box bx [u1] 27 :: M) wr) (fun v _ => F.length - (intOf v).toNat)
  case atStart => exact ⟨0, Nat.zero_le _, rfl, Lib.hid (by simp), hst⟩
  case round =>
    clear hst
    obtain ⟨k, hk, rfl, hno, hst⟩ := hrel
    by_cases hlt : k < F.length
    · have okf : FaOk F[k] := hnk _ (List.getElem_mem hlt)
      have hfi := fun h => findV_some (r := r) (z := (⟨[]⟩ : Str)) hlt hno.out h
      have hnx := fun h => find_next (F := F) (k := k) (kind := kind) (p := p) hlt hno.out h
      have HFi := Lib.hid hfi
      have HNx := Lib.hid hnx
      clear hfi hnx
      repeat' ((fail_if_success (with_reducible show Code.wp _ (Code.region 4 _ _) _ _ _)); first | ((first | (with_reducible (refine Sl.k_index ?_; refine s_ex hst (qt_index evX hu rfl inX inX omX omX) ?_; rintro v21 hp21; simp only [Int.toNat_natCast] at hp21)) | (with_reducible (refine Sl.k_load ?_; refine s_ex hst (qt_ldp (y := F[k]) evX hp21 inX) ?_; rintro v22 ⟨cf, rfl, hcf⟩))) <;> (try refine nX ?_)) | ((fail_if_success (go_big_may)); (go_step)) | (with_reducible refine Sl.gate rfl ?_; (go_step)) | ((((first | (with_reducible refine Sl.k_store ?_; (refine s_stR hst rfl BoxIn.h evX asX inX rfl rfl ?_); clear hst; intro w hst) | (refine s_alloc hst inX ?_; clear hst; intro bk w hst)))) <;> (try refine nX ?_) <;> (try replace hst := nH hst)))
      have cP := fun {M : List Chunk} (w : World) (hst : St S2 M w) => Hp.out S2 _ w cf F[k] hle okf hcf hst
      have cR := fun {M : List Chunk} (w : World) (hst : St S2 M w) => Hr.out S2 _ w cf F[k] hle okf hcf hst
      generalize F[k] = f at *
      obtain ⟨b1, e1⟩ : ∃ b, (f.1 == kind) = b := ⟨_, rfl⟩
      obtain ⟨b2, e2⟩ : ∃ b, p f = b := ⟨_, rfl⟩
      have E1 := Lib.hid e1
      have E2 := Lib.hid e2
      rw [e2] at cP
      cases b1 with
      | false =>
        have hq := Lib.hid (HNx.out (by rw [E1.out]; rfl))
        repeat' (first | ((first | (with_reducible (refine Sl.k_load ?_; with_unfolding_all refine s_qt hst (qt_load (cs := [.int .i64 f.1]) rfl _ BoxIn.h inX (tk_fa hcf) rfl) ?_)) | (with_reducible refine Sl.k_bin ?_; (refine s_qt hst (qt_eql_b rfl rfl e1) ?_)) | (with_reducible refine Sl.k_guard ?_; ((refine Sl.guard_no rfl ?_)))) <;> (try refine nX ?_)) | ((fail_if_success (go_big_may)); (go_step)) | (((with_reducible refine Sl.k_field ?_; (refine s_qt hst (qt_field rfl inX) ?_))) <;> (try refine nX ?_)) | (with_reducible refine Sl.gate rfl ?_; (go_step)))
        go_roundw
        case rel => exact ⟨k + 1, by omega, by go_num, hq, hst.drop⟩
        case measure => simp [intOf]; omega
      | true =>
        cases b2 with
        | false =>
          have hq := Lib.hid (HNx.out (by rw [E1.out, E2.out]; rfl))
          repeat' (first | ((first | (with_reducible (refine Sl.k_load ?_; with_unfolding_all refine s_qt hst (qt_loadF (x0 := f) rfl BoxIn.h hcf inX) ?_)) | (with_reducible (refine Sl.k_load ?_; with_unfolding_all refine s_qt hst (qt_load (cs := [.int .i64 f.1]) rfl _ BoxIn.h inX (tk_fa hcf) rfl) ?_)) | (with_reducible refine Sl.k_bin ?_; (refine s_qt hst (qt_eql_b rfl rfl e1) ?_)) | (with_reducible refine Sl.k_guard ?_; ((refine Sl.guard_yes rfl ?_)))) <;> (try refine nX ?_)) | (((with_reducible refine Sl.k_call ?_; ((refine s_callv (cP _ hst) rfl inX rfl rfl ?_; clear hst; rintro v w ⟨rfl, hst⟩)))) <;> (try refine nX ?_) <;> (try replace hst := nH hst)) | ((fail_if_success (go_big_may)); (go_step)) | (((with_reducible refine Sl.k_field ?_; (refine s_qt hst (qt_field rfl inX) ?_))) <;> (try refine nX ?_)) | (with_reducible refine Sl.gate rfl ?_; (go_step)))
          go_roundw
          case rel => exact ⟨k + 1, by omega, by go_num, hq, hst.drop⟩
          case measure => simp [intOf]; omega
        | true =>
          have hq := HFi.out (by rw [E1.out, E2.out]; rfl)
          repeat' (first | ((first | (with_reducible (refine Sl.k_load ?_; with_unfolding_all refine s_qt hst (qt_loadF (x0 := f) rfl BoxIn.h hcf inX) ?_)) | (with_reducible (refine Sl.k_load ?_; with_unfolding_all refine s_qt hst (qt_load (cs := [.int .i64 f.1]) rfl _ BoxIn.h inX (tk_fa hcf) rfl) ?_)) | (with_reducible refine Sl.k_bin ?_; (refine s_qt hst (qt_eql_b rfl rfl e1) ?_)) | (with_reducible refine Sl.k_guard ?_; ((refine Sl.guard_yes rfl ?_)))) <;> (try refine nX ?_)) | (((with_reducible refine Sl.k_call ?_; (first | (refine s_callv (cP _ hst) rfl inX rfl rfl ?_; clear hst; rintro v w ⟨rfl, hst⟩) | (refine s_callv (cR _ hst) rfl inX rfl rfl ?_; clear hst; rintro v w ⟨rfl, hst⟩)))) <;> (try refine nX ?_) <;> (try replace hst := nH hst)) | ((fail_if_success (go_big_may)); (go_step)) | (((with_reducible refine Sl.k_field ?_; (refine s_qt hst (qt_field rfl inX) ?_))) <;> (try refine nX ?_)))
          exact ret_two rfl (rv_tmp rfl) (rv_tmp rfl) ⟨_, rfl, by rw [hq]; rfl, St.weaken hle hst.drop.drop⟩
    · obtain rfl : k = F.length := by omega
      have hq := findV_none (r := r) (z := (⟨[]⟩ : Str)) (F := F) (kind := kind) (p := p) (by have := hno.out; rwa [List.take_length] at this)
      repeat' (first | ((fail_if_success (go_big_may)); (go_step)) | (with_reducible refine Sl.gate rfl ?_; (go_step)))
      exact ret_two rfl (rv_tmp rfl) (rv_tmp rfl) ⟨_, rfl, by rw [hq]; rfl, St.weaken hle hst.drop⟩

set_option maxRecDepth 8000 in
set_option maxHeartbeats 2000000 in
theorem findb_c {S M} (w : World) (hst : St S M w) (u1 : Value) (a : List Fa) (h1 : RSl S u1 a) (oa : ∀ f ∈ a, FaOk f) (hn : a.length ≤ 90000) (kind : Int)
    (g : FuncId) (hg : Body Tryd.prog g) (ca : List Value) (p : Fa → Bool) (hp : ∀ (S' : Snap) (M' : List Chunk) (w : World) (cs : List Value) (f : Fa), S.Le S' → FaOk f → Rep.R S' cs f → St S' M' w → Rets Tryd.prog g (.agg cs.toArray :: ca) w fun v w' => v = .bool (p f) ∧ St S' M' w')
    (g2 : FuncId) (hg2 : Body Tryd.prog g2) (r : Fa → Bool) (hr : ∀ (S' : Snap) (M' : List Chunk) (w : World) (cs : List Value) (f : Fa), S.Le S' → FaOk f → Rep.R S' cs f → St S' M' w → Rets Tryd.prog g2 [.agg cs.toArray] w fun v w' => v = .bool (r f) ∧ St S' M' w') :
    Rets Tryd.prog 88 [.agg [u1].toArray, .int .i64 kind, .func (.func g) #[] ca.toArray, .func (.func g2) #[] #[]] w fun v w' => v = .tuple #[.bool (findV (nrm a) kind p r false).1, .bool (findV (nrm a) kind p r false).2] ∧ St S M w' := by
  unfold Rets
  have k1 := h1.oneCell
  have hnl := nrm_len (fs := a)
  have hnk := nrm_ok oa
  obtain ⟨F, hF⟩ : ∃ F, nrm a = F := ⟨_, rfl⟩
  rw [hF] at hnl hnk ⊢
  have HF := Lib.hid hF
  have Hp := Lib.hid hp
  have Hr := Lib.hid hr
  clear hF hp hr
  go_enter Tryd.func88, Tryd.ntmps88
  repeat' (first | ((fail_if_success (go_big_may)); (go_step)) | ((first | (with_reducible refine Sl.k_load ?_; (refine s_qt hst (by exact qt_load rfl _ BoxIn.h inX rfl rfl) ?_)) | (with_reducible refine Sl.k_field ?_; (refine s_qt hst (qt_field rfl inX) ?_))) <;> (try refine nX ?_)) | (((((refine s_box hst evX rfl ?_; clear hst; intro bx w hst)))) <;> (try refine nX ?_) <;> (try replace hst := nH hst)))
  refine s_lit (vs := [u1]) (cs := [u1]) hst inX inX rfl rfl (by simp [cells_size1 k1]) (by simp [cells_one k1]) (by omega) (by omega) ?_
  clear hst; intro x w hst
  (try refine nX ?_)
  (try replace hst := nH hst)
  obtain ⟨S1, hS1, hst, hx⟩ := lit_one h1 hst
  repeat' (first | (((with_reducible (refine s_qt hst (qt_dir rfl) ?_))) <;> (try refine nX ?_)) | (((with_reducible refine Sl.k_call ?_; ((refine s_call (normal1_c _ hst x a F hx oa hn HF.out) inX rfl ?_; clear hst; rintro v w ⟨S2, u, hS2, rfl, hu, hst⟩)))) <;> (try refine nX ?_) <;> (try replace hst := nH hst)) | ((fail_if_success (go_big_may)); (go_step)) | (((with_reducible refine Sl.k_call ?_; (refine s_qt hst (by exact qt_len evX asX inX) ?_))) <;> (try refine nX ?_)))
  have hle := hS1.trans hS2
  go_loopw [19] (fun v wr => ∃ k : Nat, k ≤ F.length ∧ v = .int .i64 k ∧ Hid (∀ f ∈ F.take k, (f.1 == kind && p f) = false) ∧ St S2 (.box bx [u1] 27 :: M) wr) (fun v _ => F.length - (intOf v).toNat)
  case atStart => exact ⟨0, Nat.zero_le _, rfl, Lib.hid (by simp), hst⟩
  case round =>
    clear hst
    obtain ⟨k, hk, rfl, hno, hst⟩ := hrel
    by_cases hlt : k < F.length
    · have okf : FaOk F[k] := hnk _ (List.getElem_mem hlt)
      have hfi := fun h => findV_some (r := r) (z := false) hlt hno.out h
      have hnx := fun h => find_next (F := F) (k := k) (kind := kind) (p := p) hlt hno.out h
      have HFi := Lib.hid hfi
      have HNx := Lib.hid hnx
      clear hfi hnx
      repeat' ((fail_if_success (with_reducible show Code.wp _ (Code.region 4 _ _) _ _ _)); first | ((first | (with_reducible (refine Sl.k_index ?_; refine s_ex hst (qt_index evX hu rfl inX inX omX omX) ?_; rintro v21 hp21; simp only [Int.toNat_natCast] at hp21)) | (with_reducible (refine Sl.k_load ?_; refine s_ex hst (qt_ldp (y := F[k]) evX hp21 inX) ?_; rintro v22 ⟨cf, rfl, hcf⟩))) <;> (try refine nX ?_)) | ((fail_if_success (go_big_may)); (go_step)) | (with_reducible refine Sl.gate rfl ?_; (go_step)) | ((((first | (with_reducible refine Sl.k_store ?_; (refine s_stR hst rfl BoxIn.h evX asX inX rfl rfl ?_); clear hst; intro w hst) | (refine s_alloc hst inX ?_; clear hst; intro bk w hst)))) <;> (try refine nX ?_) <;> (try replace hst := nH hst)))
      have cP := fun {M : List Chunk} (w : World) (hst : St S2 M w) => Hp.out S2 _ w cf F[k] hle okf hcf hst
      have cR := fun {M : List Chunk} (w : World) (hst : St S2 M w) => Hr.out S2 _ w cf F[k] hle okf hcf hst
      generalize F[k] = f at *
      obtain ⟨b1, e1⟩ : ∃ b, (f.1 == kind) = b := ⟨_, rfl⟩
      obtain ⟨b2, e2⟩ : ∃ b, p f = b := ⟨_, rfl⟩
      have E1 := Lib.hid e1
      have E2 := Lib.hid e2
      rw [e2] at cP
      cases b1 with
      | false =>
        have hq := Lib.hid (HNx.out (by rw [E1.out]; rfl))
        repeat' (first | ((first | (with_reducible (refine Sl.k_load ?_; with_unfolding_all refine s_qt hst (qt_load (cs := [.int .i64 f.1]) rfl _ BoxIn.h inX (tk_fa hcf) rfl) ?_)) | (with_reducible refine Sl.k_bin ?_; (refine s_qt hst (qt_eql_b rfl rfl e1) ?_)) | (with_reducible refine Sl.k_guard ?_; ((refine Sl.guard_no rfl ?_)))) <;> (try refine nX ?_)) | ((fail_if_success (go_big_may)); (go_step)) | (((with_reducible refine Sl.k_field ?_; (refine s_qt hst (qt_field rfl inX) ?_))) <;> (try refine nX ?_)) | (with_reducible refine Sl.gate rfl ?_; (go_step)))
        go_roundw
        case rel => exact ⟨k + 1, by omega, by go_num, hq, hst.drop⟩
        case measure => simp [intOf]; omega
      | true =>
        cases b2 with
        | false =>
          have hq := Lib.hid (HNx.out (by rw [E1.out, E2.out]; rfl))
          repeat' (first | ((first | (with_reducible (refine Sl.k_load ?_; with_unfolding_all refine s_qt hst (qt_loadF (x0 := f) rfl BoxIn.h hcf inX) ?_)) | (with_reducible (refine Sl.k_load ?_; with_unfolding_all refine s_qt hst (qt_load (cs := [.int .i64 f.1]) rfl _ BoxIn.h inX (tk_fa hcf) rfl) ?_)) | (with_reducible refine Sl.k_bin ?_; (refine s_qt hst (qt_eql_b rfl rfl e1) ?_)) | (with_reducible refine Sl.k_guard ?_; ((refine Sl.guard_yes rfl ?_)))) <;> (try refine nX ?_)) | (((with_reducible refine Sl.k_call ?_; ((refine s_callv (cP _ hst) rfl inX rfl rfl ?_; clear hst; rintro v w ⟨rfl, hst⟩)))) <;> (try refine nX ?_) <;> (try replace hst := nH hst)) | ((fail_if_success (go_big_may)); (go_step)) | (((with_reducible refine Sl.k_field ?_; (refine s_qt hst (qt_field rfl inX) ?_))) <;> (try refine nX ?_)) | (with_reducible refine Sl.gate rfl ?_; (go_step)))
          go_roundw
          case rel => exact ⟨k + 1, by omega, by go_num, hq, hst.drop⟩
          case measure => simp [intOf]; omega
        | true =>
          have hq := HFi.out (by rw [E1.out, E2.out]; rfl)
          repeat' (first | ((first | (with_reducible (refine Sl.k_load ?_; with_unfolding_all refine s_qt hst (qt_loadF (x0 := f) rfl BoxIn.h hcf inX) ?_)) | (with_reducible (refine Sl.k_load ?_; with_unfolding_all refine s_qt hst (qt_load (cs := [.int .i64 f.1]) rfl _ BoxIn.h inX (tk_fa hcf) rfl) ?_)) | (with_reducible refine Sl.k_bin ?_; (refine s_qt hst (qt_eql_b rfl rfl e1) ?_)) | (with_reducible refine Sl.k_guard ?_; ((refine Sl.guard_yes rfl ?_)))) <;> (try refine nX ?_)) | (((with_reducible refine Sl.k_call ?_; (first | (refine s_callv (cP _ hst) rfl inX rfl rfl ?_; clear hst; rintro v w ⟨rfl, hst⟩) | (refine s_callv (cR _ hst) rfl inX rfl rfl ?_; clear hst; rintro v w ⟨rfl, hst⟩)))) <;> (try refine nX ?_) <;> (try replace hst := nH hst)) | ((fail_if_success (go_big_may)); (go_step)) | (((with_reducible refine Sl.k_field ?_; (refine s_qt hst (qt_field rfl inX) ?_))) <;> (try refine nX ?_)))
          exact ret_two rfl (rv_tmp rfl) (rv_tmp rfl) ⟨_, rfl, by rw [hq]; rfl, St.weaken hle hst.drop.drop⟩
    · obtain rfl : k = F.length := by omega
      have hq := findV_none (r := r) (z := false) (F := F) (kind := kind) (p := p) (by have := hno.out; rwa [List.take_length] at this)
      repeat' (first | ((fail_if_success (go_big_may)); (go_step)) | (with_reducible refine Sl.gate rfl ?_; (go_step)))
      exact ret_two rfl (rv_tmp rfl) (rv_tmp rfl) ⟨_, rfl, by rw [hq]; rfl, St.weaken hle hst.drop⟩
end Go.Proofs.YtjapdhaimbalkaaDoor

/- Package directory: the closures that find is given, walked. -/
--@hgp
--@flat
--@dg
--@ex0
namespace Go.Proofs.YtjapdhaimbalkaaDoor
set_option linter.unusedSimpArgs false
set_option linter.unusedVariables false
open Go.RowKit Go.Sl Go.Srt

set_option maxRecDepth 8000 in
set_option maxHeartbeats 1000000 in
theorem src1_c {S M} (w : World) (hst : St S M w) (hG : Glob S) (cs : List Value) (f : Fa) (hR : Rep.R S cs f) (ok : FaOk f) (pd : Value) (d : Dg) (hpd : Pt S pd d) (hd : d.l.length = 16) :
    Rets Tryd.prog 61 [.agg cs.toArray, pd] w fun v w' => v = .bool (decide (sdgP f.2.1.b = d)) ∧ St S M w' := by
  unfold Rets
  have ht := ok.t
  obtain ⟨y, gy⟩ : ∃ y, decide (sdgP f.2.1.b = d) = y := ⟨_, rfl⟩
  rw [gy]
  go_enter Tryd.func61, Tryd.ntmps61
  repeat' ((fail_if_success (with_reducible show Code.wp _ (Code.region 1 _ _) _ _ _)); first | ((fail_if_success (go_big_may)); (go_step)) | (((((refine s_box hst evX rfl ?_; clear hst; intro bx w hst)))) <;> (try refine nX ?_) <;> (try replace hst := nH hst)))
  obtain ⟨S1, hS1, hst, hpe⟩ := pt_box (α := Fa) hst hR (Rep.len hR)
  replace hpd := hpd.mono hS1
  have cS := fun {S' : Snap} {M : List Chunk} (w : World) (hS : S1.Le S') (hst : St S' M w) => sdig_c w hst ((hG.mono hS1).mono hS) f.2.1.b (by omega)
  refine v_begin hst (by kernel_rfl) ?_; clear hst; intro ops; (try refine nX ?_)
  ((refine t_ex0 0 rfl (by kernel_rfl) rfl rfl (qt_fieldp evX hpe inX inX rfl ) ?_; rintro  v0 hp0)) <;> (try refine nX ?_)
  ((refine t_ex0 1 rfl (by kernel_rfl) rfl rfl (qt_ldp_str evX hp0 inX ) ?_; rintro  v1 ⟨rfl, hm1⟩)) <;> (try refine nX ?_)
  (refine t_call 2 rfl (by kernel_rfl) rfl (fun S' M' w hS hM hst => cS w hS hst) inX rfl ?_) <;> (try refine nX ?_)
  (refine t_qt 3 rfl (by kernel_rfl) rfl rfl (qt_ldp_flat (y := d) evX hpd inX inX rfl) ?_) <;> (try refine nX ?_)
  (refine t_qt 4 rfl (by kernel_rfl) rfl rfl (qt_eqlK_b rfl rfl (r_dgd (sdgP_len f.2.1.b)) (r_dgd hd) inX inX inferInstance gy) ?_) <;> (try refine nX ?_)
  (refine t_qt 5 rfl (by kernel_rfl) rfl rfl (by exact qt_assign evX) ?_) <;> (try refine nX ?_)
  refine v_done (by kernel_rfl) ?_; clear ops; intro w hst
  all_goals
    repeat' (((fail_if_success (go_big_may)); (go_step)))
    refine bodyPost_ret (results_tmp rfl _ _ _) rfl ?_
    exact ⟨_, rfl, rfl, St.weaken hS1 hst⟩

set_option maxRecDepth 8000 in
theorem src2_c {S M} (w : World) (hst : St S M w) (cs : List Value) (f : Fa) (hR : Rep.R S cs f) :
    Rets Tryd.prog 62 [.agg cs.toArray] w fun v w' => v = .string ⟨f.2.1.b.toArray⟩ ∧ St S M w' := by
  unfold Rets
  go_enter Tryd.func62, Tryd.ntmps62
  repeat' ((fail_if_success (with_reducible show Code.wp _ (Code.region 1 _ _) _ _ _)); first | ((fail_if_success (go_big_may)); (go_step)) | (((((refine s_box hst evX rfl ?_; clear hst; intro bx w hst)))) <;> (try refine nX ?_) <;> (try replace hst := nH hst)))
  obtain ⟨S1, hS1, hst, hpe⟩ := pt_box (α := Fa) hst hR (Rep.len hR)
  repeat' (first | (((with_reducible (refine Sl.k_field ?_; refine s_ex hst (qt_fieldp evX hpe inX inX rfl) ?_; rintro vf hpf))) <;> (try refine nX ?_)) | ((fail_if_success (go_big_may)); (go_step)) | (((with_reducible refine Sl.k_load ?_; ((refine s_ex hst (qt_ldp_str evX asX inX) ?_; rintro v ⟨rfl, hs⟩)))) <;> (try refine nX ?_)))
  refine bodyPost_ret (results_tmp rfl _ _ _) rfl ?_
  exact ⟨_, rfl, rfl, St.weaken hS1 hst⟩

set_option maxRecDepth 8000 in
theorem lst1_c {S M} (w : World) (hst : St S M w) (cs : List Value) (f : Fa) (hR : Rep.R S cs f) (ok : FaOk f) (pd : Value) (d : Dg) (hpd : Pt S pd d) (hd : d.l.length = 16) :
    Rets Tryd.prog 89 [.agg cs.toArray, pd] w fun v w' => v = .bool (decide (f.2.2.2.1 = d)) ∧ St S M w' := by
  unfold Rets
  obtain ⟨y, gy⟩ : ∃ y, decide (f.2.2.2.1 = d) = y := ⟨_, rfl⟩
  rw [gy]
  go_enter Tryd.func89, Tryd.ntmps89
  repeat' ((fail_if_success (with_reducible show Code.wp _ (Code.region 1 _ _) _ _ _)); first | ((fail_if_success (go_big_may)); (go_step)) | (((((refine s_box hst evX rfl ?_; clear hst; intro bx w hst)))) <;> (try refine nX ?_) <;> (try replace hst := nH hst)))
  obtain ⟨S1, hS1, hst, hpe⟩ := pt_box (α := Fa) hst hR (Rep.len hR)
  replace hpd := hpd.mono hS1
  repeat' (first | ((first | (with_reducible (refine Sl.k_field ?_; refine s_ex hst (qt_fieldp evX hpe inX inX rfl) ?_; rintro vf hpf)) | (with_reducible (refine Sl.k_load ?_; first | refine s_qt hst (qt_ldp_flat (y := f.2.2.2.1) evX hpf inX inX rfl) ?_ | refine s_qt hst (qt_ldp_flat (y := d) evX hpd inX inX rfl) ?_)) | (with_reducible refine Sl.k_bin ?_; (refine s_qt hst (qt_eqlK_b rfl rfl (r_dgd ok.d) (r_dgd hd) inX inX inferInstance gy) ?_))) <;> (try refine nX ?_)) | ((fail_if_success (go_big_may)); (go_step)))
  refine bodyPost_ret (results_tmp rfl _ _ _) rfl ?_
  exact ⟨_, rfl, rfl, St.weaken hS1 hst⟩

set_option maxRecDepth 8000 in
theorem lst2_c {S M} (w : World) (hst : St S M w) (cs : List Value) (f : Fa) (_hR : Rep.R S cs f) :
    Rets Tryd.prog 90 [.agg cs.toArray] w fun v w' => v = .bool true ∧ St S M w' := by
  unfold Rets
  go_enter Tryd.func90, Tryd.ntmps90
  repeat' (first | ((fail_if_success (go_big_may)); (go_step)) | (((((refine s_box hst evX rfl ?_; clear hst; intro bx w hst)))) <;> (try refine nX ?_) <;> (try replace hst := nH hst)))
  refine bodyPost_ret (results_tmp rfl _ _ _) rfl ?_
  exact ⟨_, rfl, rfl, hst.drop⟩
end Go.Proofs.YtjapdhaimbalkaaDoor

/- Package directory: Source, listed, Revoked, Bad, walked. -/
--@hgp
--@flat
--@dg
--@ex0
namespace Go.Proofs.YtjapdhaimbalkaaDoor
set_option linter.unusedSimpArgs false
set_option linter.unusedVariables false
open Go.RowKit Go.Sl Go.Srt

def srcD (a : List Fa) (d : Dg) : Str × Bool := findV (nrm a) 1 (fun f => decide (sdgP f.2.1.b = d)) (fun f => f.2.1) ⟨[]⟩
def lstD (a : List Fa) (kind : Int) (d : Dg) : Bool × Bool := findV (nrm a) kind (fun f => decide (f.2.2.2.1 = d)) (fun _ => true) false

set_option maxRecDepth 8000 in
set_option maxHeartbeats 1000000 in
theorem source_c {S M} (w : World) (hst : St S M w) (hG : Glob S) (u1 : Value) (a : List Fa) (h1 : RSl S u1 a) (oa : ∀ f ∈ a, FaOk f) (hn : a.length ≤ 90000) (d : Dg) (hd : d.l.length = 16) :
    Rets Tryd.prog 28 [.agg [u1].toArray, dgVm d] w fun v w' => v = .tuple #[.string ⟨(srcD a d).1.b.toArray⟩, .bool (srcD a d).2] ∧ St S M w' := by
  unfold Rets
  have k1 := h1.oneCell
  obtain ⟨R, HR0⟩ : ∃ R, srcD a d = R := ⟨_, rfl⟩
  rw [HR0]
  have HR := Lib.hid HR0
  clear HR0
  go_enter Tryd.func28, Tryd.ntmps28
  repeat' ((fail_if_success (with_reducible show Code.wp _ (Code.region 1 _ _) _ _ _)); first | ((fail_if_success (go_big_may)); (go_step)) | (((((refine s_box hst evX rfl ?_; clear hst; intro bx w hst)))) <;> (try refine nX ?_) <;> (try replace hst := nH hst)))
  obtain ⟨S1, hS1, hst, hpd⟩ := dg_box hst hd
  have cF1 := fun {M : List Chunk} (w : World) (hst : St S1 M w) => finds_c w hst u1 a (h1.mono hS1) oa hn 1 61 inferInstance [_] (fun f => decide (sdgP f.2.1.b = d)) (fun S' M' w cs f hle ok hR hst => src1_c w hst ((hG.mono hS1).mono hle) cs f hR ok _ d (hpd.mono hle) hd) 62 inferInstance (fun f => f.2.1) (fun S' M' w cs f hle ok hR hst => src2_c w hst cs f hR)
  have hq : findV (nrm a) 1 (fun f => decide (sdgP f.2.1.b = d)) (fun f => f.2.1) ⟨[]⟩ = R := HR.out
  rw [hq] at cF1
  clear hq
  repeat' (first | (((with_reducible refine Sl.k_call ?_; ((refine s_call (cF1 _ hst) inX rfl ?_; clear hst; rintro v w ⟨rfl, hst⟩)))) <;> (try refine nX ?_) <;> (try replace hst := nH hst)) | ((fail_if_success (go_big_may)); (go_step)) | (((with_reducible refine Sl.k_load ?_; (refine s_qt hst (by exact qt_load rfl _ BoxIn.h inX rfl rfl) ?_))) <;> (try refine nX ?_)) | (with_reducible refine Sl.gate rfl ?_; (go_step)))
  exact ret_two rfl (rv_tmp rfl) (rv_tmp rfl) ⟨_, rfl, rfl, St.weaken hS1 hst.drop⟩

set_option maxRecDepth 8000 in
set_option maxHeartbeats 1000000 in
theorem listed_c {S M} (w : World) (hst : St S M w) (u1 : Value) (a : List Fa) (h1 : RSl S u1 a) (oa : ∀ f ∈ a, FaOk f) (hn : a.length ≤ 90000) (kind : Int) (d : Dg) (hd : d.l.length = 16) :
    Rets Tryd.prog 69 [.agg [u1].toArray, .int .i64 kind, dgVm d] w fun v w' => v = .bool (lstD a kind d).2 ∧ St S M w' := by
  unfold Rets
  have k1 := h1.oneCell
  obtain ⟨R, HR0⟩ : ∃ R, lstD a kind d = R := ⟨_, rfl⟩
  rw [HR0]
  have HR := Lib.hid HR0
  clear HR0
  go_enter Tryd.func69, Tryd.ntmps69
  repeat' ((fail_if_success (with_reducible show Code.wp _ (Code.region 1 _ _) _ _ _)); first | ((fail_if_success (go_big_may)); (go_step)) | (((((refine s_box hst evX rfl ?_; clear hst; intro bx w hst)))) <;> (try refine nX ?_) <;> (try replace hst := nH hst)))
  obtain ⟨S1, hS1, hst, hpd⟩ := dg_box hst hd
  have cF1 := fun {M : List Chunk} (w : World) (hst : St S1 M w) => findb_c w hst u1 a (h1.mono hS1) oa hn kind 89 inferInstance [_] (fun f => decide (f.2.2.2.1 = d)) (fun S' M' w cs f hle ok hR hst => lst1_c w hst cs f hR ok _ d (hpd.mono hle) hd) 90 inferInstance (fun _ => true) (fun S' M' w cs f hle ok hR hst => lst2_c w hst cs f hR)
  have hq : findV (nrm a) kind (fun f => decide (f.2.2.2.1 = d)) (fun _ => true) false = R := HR.out
  rw [hq] at cF1
  clear hq
  repeat' (first | (((with_reducible refine Sl.k_call ?_; ((refine s_call (cF1 _ hst) inX rfl ?_; clear hst; rintro v w ⟨rfl, hst⟩)))) <;> (try refine nX ?_) <;> (try replace hst := nH hst)) | ((fail_if_success (go_big_may)); (go_step)) | (((with_reducible refine Sl.k_load ?_; (refine s_qt hst (by exact qt_load rfl _ BoxIn.h inX rfl rfl) ?_))) <;> (try refine nX ?_)) | (with_reducible refine Sl.gate rfl ?_; (go_step)))
  refine bodyPost_ret (results_tmp rfl _ _ _) rfl ?_
  exact ⟨_, rfl, rfl, St.weaken hS1 hst.drop⟩

set_option maxRecDepth 8000 in
theorem revoked_c {S M} (w : World) (hst : St S M w) (u1 : Value) (a : List Fa) (h1 : RSl S u1 a) (oa : ∀ f ∈ a, FaOk f) (hn : a.length ≤ 90000) (d : Dg) (hd : d.l.length = 16) :
    Rets Tryd.prog 33 [.agg [u1].toArray, dgVm d] w fun v w' => v = .bool (lstD a 3 d).2 ∧ St S M w' := by
  unfold Rets
  have k1 := h1.oneCell
  haveI : LenIs d.l 16 := ⟨hd⟩
  go_enter Tryd.func33, Tryd.ntmps33
  repeat' (first | (((with_reducible refine Sl.k_call ?_; ((refine s_call (listed_c _ hst u1 a h1 oa hn 3 d hd) inX rfl ?_; clear hst; rintro v w ⟨rfl, hst⟩)))) <;> (try refine nX ?_) <;> (try replace hst := nH hst)) | ((fail_if_success (go_big_may)); (go_step)) | (((with_reducible refine Sl.k_load ?_; (refine s_qt hst (by first | exact qt_loadD evX BoxIn.h inX inX | exact qt_load rfl _ BoxIn.h inX rfl rfl) ?_))) <;> (try refine nX ?_)) | (((((refine s_box hst evX rfl ?_; clear hst; intro bx w hst)))) <;> (try refine nX ?_) <;> (try replace hst := nH hst)))
  refine bodyPost_ret (results_tmp rfl _ _ _) rfl ?_
  exact ⟨_, rfl, rfl, hst.drop.drop⟩
set_option maxRecDepth 8000 in
theorem bad_c {S M} (w : World) (hst : St S M w) (u1 : Value) (a : List Fa) (h1 : RSl S u1 a) (oa : ∀ f ∈ a, FaOk f) (hn : a.length ≤ 90000) (d : Dg) (hd : d.l.length = 16) :
    Rets Tryd.prog 35 [.agg [u1].toArray, dgVm d] w fun v w' => v = .bool (lstD a 4 d).2 ∧ St S M w' := by
  unfold Rets
  have k1 := h1.oneCell
  haveI : LenIs d.l 16 := ⟨hd⟩
  go_enter Tryd.func35, Tryd.ntmps35
  repeat' (first | (((with_reducible refine Sl.k_call ?_; ((refine s_call (listed_c _ hst u1 a h1 oa hn 4 d hd) inX rfl ?_; clear hst; rintro v w ⟨rfl, hst⟩)))) <;> (try refine nX ?_) <;> (try replace hst := nH hst)) | ((fail_if_success (go_big_may)); (go_step)) | (((with_reducible refine Sl.k_load ?_; (refine s_qt hst (by first | exact qt_loadD evX BoxIn.h inX inX | exact qt_load rfl _ BoxIn.h inX rfl rfl) ?_))) <;> (try refine nX ?_)) | (((((refine s_box hst evX rfl ?_; clear hst; intro bx w hst)))) <;> (try refine nX ?_) <;> (try replace hst := nH hst)))
  refine bodyPost_ret (results_tmp rfl _ _ _) rfl ?_
  exact ⟨_, rfl, rfl, hst.drop.drop⟩
end Go.Proofs.YtjapdhaimbalkaaDoor
