/- The statement ManifestRoundTrip, walked; what is known of what is small. -/
import Derived.Test.YtlimhgamebnfeaaDoorBb
import Derived.Test.YtlimhgamebnfeaaDoorBg
import Derived.Test.YtlimhgamebnfeaaDoorBh

/- The statement ManifestRoundTrip, walked. -/
--@u32
--@hgp
--@flat
--@dg
--@ex0
namespace Go.Proofs.YtlimhgamebnfeaaDoor
set_option linter.unusedSimpArgs false
set_option linter.unusedVariables false
open Go.RowKit Go.Sl

theorem r_listc {α : Type} [Rep α] {S : Snap} {u : Value} {xs : List α} (h : RSl S u xs) : Rep.R S u.cells.toList xs := ⟨u, cells_one h.oneCell, h⟩
abbrev buS (l : List SD) : BU := (zMF, l, [], ())
theorem sds_in {S : Snap} {v : Value} {l : List SD} (h : RSl S v l) : ∀ x ∈ l, SdIn x := by
  intro x hx
  obtain ⟨i, hi, rfl⟩ := List.mem_iff_getElem.1 hx
  rcases h with ⟨ad, cap, _, h, _⟩ | ⟨b, o, cap, c, T, fz, _, _, _, _, h⟩
  · subst h; simp at hi
  · exact sd_in (h.at_ i hi)
theorem bu_parts {S : Snap} {cs : List Value} {u : BU} (h : Rep.R S cs u) : MfOk u.1 ∧ (∀ x ∈ u.2.1, SdIn x) := by
  refine ⟨mf_ok h.2.1, ?_⟩
  obtain ⟨v, _, hv⟩ := h.2.2.2.1
  exact sds_in hv
theorem ro_parts {S : Snap} {cs : List Value} {r : RO} (h : Rep.R S cs r) : MfOk r.1 ∧ (∀ x ∈ r.2.1, SdIn x) := by
  refine ⟨mf_ok h.2.1, ?_⟩
  obtain ⟨v, _, hv⟩ := h.2.2.2.1
  exact sds_in hv
theorem sdlen_of {l : List SD} (h : fewS l = true) : ∀ x ∈ l, SdLen x := fun x hx => by
  have := List.all_eq_true.1 h x hx
  simp only [smallM, Bool.and_eq_true, decide_eq_true_eq] at this
  exact ⟨by omega, by omega⟩
/-- What is known of a bundle that is small. -/
structure BuOk (u : BU) : Prop where
  few : FewP u
  okm : okMF u.1
  okb : okBU u
  bm : (encMF u.1).length ≤ 1000000
  bb : (encBU u).length ≤ 20000
  len : ∀ x ∈ u.2.1, SdLen x
theorem bu_ok {u : BU} (p : MfOk u.1 ∧ (∀ x ∈ u.2.1, SdIn x)) (f : fewM u = true) : BuOk u := by
  have fp := fewM_of f
  have ha := fp.a
  exact ⟨fp, okMF_of p.1 (by omega), okBU_of fp p.1 p.2, Nat.le_trans (encMF_bound p.1 ha) (by decide), encBU_bound fp p.1 p.2, sdlen_of fp.e⟩
structure RoOk (r : RO) : Prop where
  a : r.1.2.2.2.1.length ≤ 20
  b : r.2.1.length ≤ 6
  okm : okMF r.1
  okr : okRO r
  bm : (encMF r.1).length ≤ 1000000
  bb : (encRO r).length ≤ 20000
  len : ∀ x ∈ r.2.1, SdLen x
theorem ro_ok {r : RO} (p : MfOk r.1 ∧ (∀ x ∈ r.2.1, SdIn x)) (h : r.1.2.2.2.1.length ≤ 20) (f : fewM (buS r.2.1) = true) : RoOk r := by
  have fp := fewM_of f
  have hb : r.2.1.length ≤ 6 := fp.b
  have he : fewS r.2.1 = true := fp.e
  exact ⟨h, hb, okMF_of p.1 (by omega), okRO_of h hb he p.1 p.2, Nat.le_trans (encMF_bound p.1 h) (by decide), encRO_bound h hb he p.1 p.2, sdlen_of he⟩

set_option maxRecDepth 20000 in
set_option maxHeartbeats 4000000 in
theorem mround_c {S M} (w : World) (hst : St S M w) (hG : Glob S) (cu cr : List Value) (u : BU) (r : RO) (hu : Rep.R S cu u) (hr : Rep.R S cr r) : Rets Tryd.prog 7 [.agg cu.toArray, .agg cr.toArray] w fun v w' => v = .bool true ∧ St S M w' := by
  unfold Rets
  have pu := bu_parts hu
  have pr := ro_parts hr
  obtain ⟨z1, hz1⟩ : ∃ z, fewM u = z := ⟨_, rfl⟩
  obtain ⟨z2, hz2⟩ : ∃ z, fewM (buS r.2.1) = z := ⟨_, rfl⟩
  have cF := fun {S : Snap} {M : List Chunk} (w : World) (hst : St S M w) (cs : List Value) (hR : Rep.R S cs u) => (few_c w hst cs u hR).eq hz1
  have cH := fun {S : Snap} {M : List Chunk} (w : World) (hst : St S M w) (cs : List Value) (hR : Rep.R S cs (buS r.2.1)) => (few_c w hst cs _ hR).eq hz2
  by_cases hl : r.1.2.2.2.1.length ≤ 20
  · cases z1 <;> cases z2
    rotate_left 3
    · have ku := bu_ok pu hz1
      have kr := ro_ok pr hl hz2
      clear pu pr hz1 hz2
      have e1 := dec_rt (z := zMF) mf_codec ku.okm
      have e2 := dec_rt (z := zMF) mf_codec kr.okm
      have e3 := dec_rt (z := zBU) bu_codec ku.okb
      have e4 := dec_rt (z := zRO) ro_codec kr.okr
      have bm1 := ku.bm
      have bm2 := kr.bm
      have bb1 := ku.bb
      have bb2 := kr.bb
      have cE1 := fun {S : Snap} {M : List Chunk} (w : World) (hst : St S M w) (cs : List Value) (hR : Rep.R S cs u.1) => encode_c w hst cs u.1 hR (by omega)
      have cE2 := fun {S : Snap} {M : List Chunk} (w : World) (hst : St S M w) (cs : List Value) (hR : Rep.R S cs r.1) => encodeK_c w hst cs r.1 hR (by omega)
      have cE3 := fun {S : Snap} {M : List Chunk} (w : World) (hst : St S M w) (cs : List Value) (hR : Rep.R S cs u) => encBU_c w hst cs u hR (by have := ku.few.b; omega) (by have := ku.few.c; omega) (by omega)
      have cE4 := fun {S : Snap} {M : List Chunk} (w : World) (hst : St S M w) (cs : List Value) (hR : Rep.R S cs r) => encRO_c w hst cs r hR (by have := kr.b; omega) (by omega)
      have cD1 := fun {S : Snap} {M : List Chunk} (w : World) (hst : St S M w) => DecodeM_c w hst (encMF u.1) (by omega)
      have cD2 := fun {S : Snap} {M : List Chunk} (w : World) (hst : St S M w) => DecodeK_c w hst (encMF r.1) (by omega)
      have cD3 := fun {S : Snap} {M : List Chunk} (w : World) (hst : St S M w) => DecodeB_c w hst (encBU u) (by omega)
      have cD4 := fun {S : Snap} {M : List Chunk} (w : World) (hst : St S M w) => DecodeR_c w hst (encRO r) (by omega)
      rw [e1] at cD1
      rw [e2] at cD2
      rw [e3] at cD3
      rw [e4] at cD4
      clear e1 e2 e3 e4 bm1 bm2 bb1 bb2
      generalize encMF u.1 = b1 at *
      generalize encMF r.1 = b2 at *
      generalize encBU u = b3 at *
      generalize encRO r = b4 at *
      have cS1 := fun {S : Snap} {M : List Chunk} (w : World) (hst : St S M w) (ca cb : List Value) (h1 : Rep.R S ca u.1) (h2 : Rep.R S cb u.1) => (sameM_c w hst ca cb _ _ h1 h2 (by have := ku.few.a; omega)).eq (decide_eq_true rfl)
      have cS2 := fun {S : Snap} {M : List Chunk} (w : World) (hst : St S M w) (ca cb : List Value) (h1 : Rep.R S ca r.1) (h2 : Rep.R S cb r.1) => (sameK_c w hst ca cb _ _ h1 h2 (by omega)).eq (decide_eq_true rfl)
      have cS3 := fun {S : Snap} {M : List Chunk} (w : World) (hst : St S M w) (ca cb : List Value) (h1 : Rep.R S ca u) (h2 : Rep.R S cb u) => (sameB_c w hst ca cb _ _ h1 h2 (by have := ku.few.a; omega) ku.len (by have := ku.few.b; omega) (by have := ku.few.c; omega)).eq (decide_eq_true rfl)
      have cS4 := fun {S : Snap} {M : List Chunk} (w : World) (hst : St S M w) (ca cb : List Value) (h1 : Rep.R S ca r) (h2 : Rep.R S cb r) => (sameR_c w hst ca cb _ _ h1 h2 (by omega) kr.len (by have := kr.b; omega)).eq (decide_eq_true rfl)
      clear ku kr
      go_enter Tryd.func7, Tryd.ntmps7
      repeat' ((fail_if_success (with_reducible show Code.wp _ (Code.region 1 _ _) _ _ _)); first | ((fail_if_success (go_big_may)); (go_step)) | (((((refine s_box hst evX rfl ?_; clear hst; intro bx w hst)))) <;> (try refine nY ?_) <;> (try replace hst := nH hst)))
      obtain ⟨S1, hS1, hstA, hpr⟩ := pt_box (α := RO) hst hr (Rep.len hr)
      clear hst
      obtain ⟨S2, hS2, hst, hpu⟩ := pt_box (α := BU) hstA (Rep.mono hS1 hu) (Rep.len hu)
      clear hstA
      replace hpr := hpr.mono hS2
      replace hG := (hG.mono hS1).mono hS2
      repeat' ((fail_if_success (with_reducible show Code.wp _ (Code.region 2 _ _) _ _ _)); first | (((with_reducible refine Sl.k_call ?_; ((refine s_call (msanity_c _ hst hG) inX rfl ?_; clear hst; rintro v w ⟨rfl, hst⟩)))) <;> (try refine nY ?_) <;> (try replace hst := nH hst)) | ((fail_if_success (go_big_may)); (go_step)))
      repeat' ((fail_if_success (with_reducible show Code.wp _ (Code.region 4 _ _) _ _ _)); first | ((first | (with_reducible (refine Sl.k_field ?_; (refine s_ex hst (qt_fieldp evX hpr inX inX rfl) ?_); rintro vf hpf)) | (with_reducible (refine Sl.k_build ?_; with_unfolding_all refine s_ex hst (qt_buildP (x' := buS r.2.1) inX inX r_zBU (.cons (k := 1) (y := r.2.1) (r_listc hvl) rfl .nil)) ?_; rintro vz ⟨cz, rfl, hcz⟩)) | (with_reducible refine Sl.k_guard ?_; (first | (refine Sl.guard_yes rfl ?_) | (refine Sl.guard_cases rfl ?_ ?_ <;> intro hg <;> first | (exfalso; simp only [decide_eq_true_eq, decide_eq_false_iff_not, Bool.not_false, Bool.not_true, beq_iff_eq, beq_eq_false_iff_ne, ne_eq] at hg; omega) | (simp only [hg, Bool.not_true, Bool.not_false])) <;> (try simp only [decide_eq_true_eq, decide_eq_false_iff_not, Bool.not_false, Bool.not_true, beq_iff_eq, beq_eq_false_iff_ne, bne_iff_ne, bne_eq_false_iff_eq, ne_eq] at hg)))) <;> (try refine nY ?_)) | (((with_reducible refine Sl.k_call ?_; (first | (refine s_call (cF _ hst _ hcl) inX rfl ?_; clear hst; rintro v w ⟨rfl, hst⟩) | (refine s_call (cH _ hst _ hcz) inX rfl ?_; clear hst; rintro v w ⟨rfl, hst⟩)))) <;> (try refine nY ?_) <;> (try replace hst := nH hst)) | ((fail_if_success (go_big_may)); (go_step)) | ((first | (with_reducible refine Sl.k_load ?_; (first | (refine s_ex hst (qt_ldp_list evX asX inX) ?_; rintro v ⟨hvl, hv1⟩) | (refine s_ex hst (qt_ldp evX asX inX) ?_; rintro v ⟨cl, rfl, hcl⟩))) | (with_reducible refine Sl.k_field ?_; (((refine s_ex hst (qt_fieldp evX asX inX inX rfl) ?_); rintro v hp; (try simp only [Int.toNat_natCast, Int.toNat_natCast_add_one, Int.reduceToNat] at hp)))) | (with_reducible refine Sl.k_call ?_; (refine s_qt hst (by exact qt_len evX asX inX) ?_))) <;> (try refine nY ?_)) | (with_reducible refine Sl.gate rfl ?_; (go_step)))
      repeat' ((fail_if_success (with_reducible show Code.wp _ (Code.region 5 _ _) _ _ _)); first | (((with_reducible (refine Sl.k_field ?_; (refine s_ex hst (qt_fieldp evX hpu inX inX rfl) ?_); rintro vf hpf))) <;> (try refine nY ?_)) | (((with_reducible refine Sl.k_call ?_; (first | (refine s_call (cE1 _ hst _ hcl) inX rfl ?_; clear hst; rintro v w ⟨rfl, hst⟩) | (refine s_call (cD1 _ hst) inX rfl ?_; clear hst; rintro v w ⟨S3, x1, x2, x3, a0, n0, c0, hS3, rfl, hR3, hst⟩)))) <;> (try refine nY ?_) <;> (try replace hst := nH hst)) | ((fail_if_success (go_big_may)); (go_step)) | (((with_reducible refine Sl.k_load ?_; ((refine s_ex hst (qt_ldp evX asX inX) ?_; rintro v ⟨cl, rfl, hcl⟩)))) <;> (try refine nY ?_)) | (with_reducible refine Sl.gate rfl ?_; (go_step)) | ((((first | (with_reducible refine Sl.k_store ?_; (refine s_store hst rfl _ BoxIn.h inX evX rfl lenOk oneOk (by simp) ?_); clear hst; intro w hst) | (refine s_alloc hst inX ?_; clear hst; intro bk w hst)))) <;> (try refine nY ?_) <;> (try replace hst := nH hst)))
      replace hpu := hpu.mono hS3
      replace hpr := hpr.mono hS3
      repeat' ((fail_if_success (with_reducible show Code.wp _ (Code.region 6 _ _) _ _ _)); first | (((with_reducible (refine Sl.k_field ?_; (refine s_ex hst (qt_fieldp evX hpr inX inX rfl) ?_); rintro vf hpf))) <;> (try refine nY ?_)) | (((with_reducible refine Sl.k_call ?_; (first | (refine s_call (cE2 _ hst _ hcl) inX rfl ?_; clear hst; rintro v w ⟨rfl, hst⟩) | (refine s_call (cD2 _ hst) inX rfl ?_; clear hst; rintro v w ⟨S4, y1, y2, y3, a1, n1, c1, hS4, rfl, hR4, hst⟩)))) <;> (try refine nY ?_) <;> (try replace hst := nH hst)) | ((fail_if_success (go_big_may)); (go_step)) | (((with_reducible refine Sl.k_load ?_; ((refine s_ex hst (qt_ldp evX asX inX) ?_; rintro v ⟨cl, rfl, hcl⟩)))) <;> (try refine nY ?_)) | (with_reducible refine Sl.gate rfl ?_; (go_step)) | ((((first | (with_reducible refine Sl.k_store ?_; (refine s_store hst rfl _ BoxIn.h inX evX rfl lenOk oneOk (by simp) ?_); clear hst; intro w hst) | (refine s_alloc hst inX ?_; clear hst; intro bk w hst)))) <;> (try refine nY ?_) <;> (try replace hst := nH hst)))
      replace hpu := hpu.mono hS4
      replace hpr := hpr.mono hS4
      repeat' ((fail_if_success (with_reducible show Code.wp _ (Code.region 7 _ _) _ _ _)); first | (((with_reducible refine Sl.k_call ?_; (first | (refine s_call (cE3 _ hst _ hcl) inX rfl ?_; clear hst; rintro v w ⟨rfl, hst⟩) | (refine s_call (cD3 _ hst) inX rfl ?_; clear hst; rintro v w ⟨S5, t1, t2, t3, a2, n2, c2, a3, n3, c3, a4, n4, c4, hS5, rfl, hR5, hst⟩)))) <;> (try refine nY ?_) <;> (try replace hst := nH hst)) | ((fail_if_success (go_big_may)); (go_step)) | (((with_reducible refine Sl.k_load ?_; ((refine s_ex hst (qt_ldp evX asX inX) ?_; rintro v ⟨cl, rfl, hcl⟩)))) <;> (try refine nY ?_)) | (with_reducible refine Sl.gate rfl ?_; (go_step)) | ((((first | (with_reducible refine Sl.k_store ?_; (refine s_store hst rfl _ BoxIn.h inX evX rfl lenOk oneOk (by simp) ?_); clear hst; intro w hst) | (refine s_alloc hst inX ?_; clear hst; intro bk w hst)))) <;> (try refine nY ?_) <;> (try replace hst := nH hst)))
      replace hpu := hpu.mono hS5
      replace hpr := hpr.mono hS5
      repeat' ((fail_if_success (with_reducible show Code.wp _ (Code.region 8 _ _) _ _ _)); first | (((with_reducible refine Sl.k_call ?_; (first | (refine s_call (cE4 _ hst _ hcl) inX rfl ?_; clear hst; rintro v w ⟨rfl, hst⟩) | (refine s_call (cD4 _ hst) inX rfl ?_; clear hst; rintro v w ⟨S6, w1, w2, w3, a5, n5, c5, a6, n6, c6, hS6, rfl, hR6, hst⟩)))) <;> (try refine nY ?_) <;> (try replace hst := nH hst)) | ((fail_if_success (go_big_may)); (go_step)) | (((with_reducible refine Sl.k_load ?_; ((refine s_ex hst (qt_ldp evX asX inX) ?_; rintro v ⟨cl, rfl, hcl⟩)))) <;> (try refine nY ?_)) | (with_reducible refine Sl.gate rfl ?_; (go_step)) | ((((first | (with_reducible refine Sl.k_store ?_; (refine s_store hst rfl _ BoxIn.h inX evX rfl lenOk oneOk (by simp) ?_); clear hst; intro w hst) | (refine s_alloc hst inX ?_; clear hst; intro bk w hst)))) <;> (try refine nY ?_) <;> (try replace hst := nH hst)))
      replace hpu := hpu.mono hS6
      replace hpr := hpr.mono hS6
      replace hR3 := Rep.mono (hS4.trans (hS5.trans hS6)) hR3
      replace hR4 := Rep.mono (hS5.trans hS6) hR4
      replace hR5 := Rep.mono hS6 hR5
      repeat' (first | ((first | (with_reducible (refine Sl.k_field ?_; (first | refine s_ex hst (qt_fieldp evX hpu inX inX rfl) ?_ | refine s_ex hst (qt_fieldp evX hpr inX inX rfl) ?_); rintro vf hpf)) | (with_reducible refine Sl.k_guard ?_; ((refine Sl.guard_yes rfl ?_)))) <;> (try refine nY ?_)) | (((with_reducible refine Sl.k_call ?_; (first | (refine s_call (cS1 _ hst _ _ hR3 hcl) inX rfl ?_; clear hst; rintro v w ⟨rfl, hst⟩) | (refine s_call (cS2 _ hst _ _ hR4 hcl) inX rfl ?_; clear hst; rintro v w ⟨rfl, hst⟩) | (refine s_call (cS3 _ hst _ _ hR5 hcl) inX rfl ?_; clear hst; rintro v w ⟨rfl, hst⟩) | (refine s_call (cS4 _ hst _ _ hR6 hcl) inX rfl ?_; clear hst; rintro v w ⟨rfl, hst⟩)))) <;> (try refine nY ?_) <;> (try replace hst := nH hst)) | ((fail_if_success (go_big_may)); (go_step)) | (((with_reducible refine Sl.k_load ?_; (first | refine s_qt hst (by exact qt_loadA evX BoxIn.h inX rfX) ?_ | (refine s_ex hst (qt_ldp evX asX inX) ?_; rintro v ⟨cl, rfl, hcl⟩)))) <;> (try refine nY ?_)) | (with_reducible refine Sl.gate rfl ?_; (go_step)))
      go_ret
      exact ⟨_, rfl, rfl, (St.weaken (hS1.trans (hS2.trans (hS3.trans (hS4.trans (hS5.trans hS6))))) hst).drop.drop.drop.drop⟩
    all_goals
      go_enter Tryd.func7, Tryd.ntmps7
      repeat' ((fail_if_success (with_reducible show Code.wp _ (Code.region 1 _ _) _ _ _)); first | ((fail_if_success (go_big_may)); (go_step)) | (((((refine s_box hst evX rfl ?_; clear hst; intro bx w hst)))) <;> (try refine nY ?_) <;> (try replace hst := nH hst)))
      obtain ⟨S1, hS1, hstA, hpr⟩ := pt_box (α := RO) hst hr (Rep.len hr)
      clear hst
      obtain ⟨S2, hS2, hst, hpu⟩ := pt_box (α := BU) hstA (Rep.mono hS1 hu) (Rep.len hu)
      clear hstA
      replace hpr := hpr.mono hS2
      replace hG := (hG.mono hS1).mono hS2
      repeat' ((fail_if_success (with_reducible show Code.wp _ (Code.region 2 _ _) _ _ _)); first | (((with_reducible refine Sl.k_call ?_; ((refine s_call (msanity_c _ hst hG) inX rfl ?_; clear hst; rintro v w ⟨rfl, hst⟩)))) <;> (try refine nY ?_) <;> (try replace hst := nH hst)) | ((fail_if_success (go_big_may)); (go_step)))
      repeat' (first | go_skip | ((first | (with_reducible (refine Sl.k_field ?_; (refine s_ex hst (qt_fieldp evX hpr inX inX rfl) ?_); rintro vf hpf)) | (with_reducible (refine Sl.k_build ?_; with_unfolding_all refine s_ex hst (qt_buildP (x' := buS r.2.1) inX inX r_zBU (.cons (k := 1) (y := r.2.1) (r_listc hvl) rfl .nil)) ?_; rintro vz ⟨cz, rfl, hcz⟩)) | (with_reducible refine Sl.k_guard ?_; (first | (refine Sl.guard_yes rfl ?_) | (refine Sl.guard_cases rfl ?_ ?_ <;> intro hg <;> first | (exfalso; simp only [decide_eq_true_eq, decide_eq_false_iff_not, Bool.not_false, Bool.not_true, beq_iff_eq, beq_eq_false_iff_ne, ne_eq] at hg; omega) | (simp only [hg, Bool.not_true, Bool.not_false])) <;> (try simp only [decide_eq_true_eq, decide_eq_false_iff_not, Bool.not_false, Bool.not_true, beq_iff_eq, beq_eq_false_iff_ne, bne_iff_ne, bne_eq_false_iff_eq, ne_eq] at hg)))) <;> (try refine nY ?_)) | (((with_reducible refine Sl.k_call ?_; (first | (refine s_call (cF _ hst _ hcl) inX rfl ?_; clear hst; rintro v w ⟨rfl, hst⟩) | (refine s_call (cH _ hst _ hcz) inX rfl ?_; clear hst; rintro v w ⟨rfl, hst⟩)))) <;> (try refine nY ?_) <;> (try replace hst := nH hst)) | ((fail_if_success (go_big_may)); (go_step)) | ((first | (with_reducible refine Sl.k_load ?_; (first | (refine s_ex hst (qt_ldp_list evX asX inX) ?_; rintro v ⟨hvl, hv1⟩) | (refine s_ex hst (qt_ldp evX asX inX) ?_; rintro v ⟨cl, rfl, hcl⟩))) | (with_reducible refine Sl.k_field ?_; (((refine s_ex hst (qt_fieldp evX asX inX inX rfl) ?_); rintro v hp; (try simp only [Int.toNat_natCast, Int.toNat_natCast_add_one, Int.reduceToNat] at hp)))) | (with_reducible refine Sl.k_call ?_; (refine s_qt hst (by exact qt_len evX asX inX) ?_))) <;> (try refine nY ?_)) | (with_reducible refine Sl.gate rfl ?_; (go_step)))
      go_ret
      exact ⟨_, rfl, rfl, St.weaken (hS1.trans hS2) hst⟩
  · cases z1
    all_goals
      go_enter Tryd.func7, Tryd.ntmps7
      repeat' ((fail_if_success (with_reducible show Code.wp _ (Code.region 1 _ _) _ _ _)); first | ((fail_if_success (go_big_may)); (go_step)) | (((((refine s_box hst evX rfl ?_; clear hst; intro bx w hst)))) <;> (try refine nY ?_) <;> (try replace hst := nH hst)))
      obtain ⟨S1, hS1, hstA, hpr⟩ := pt_box (α := RO) hst hr (Rep.len hr)
      clear hst
      obtain ⟨S2, hS2, hst, hpu⟩ := pt_box (α := BU) hstA (Rep.mono hS1 hu) (Rep.len hu)
      clear hstA
      replace hpr := hpr.mono hS2
      replace hG := (hG.mono hS1).mono hS2
      repeat' ((fail_if_success (with_reducible show Code.wp _ (Code.region 2 _ _) _ _ _)); first | (((with_reducible refine Sl.k_call ?_; ((refine s_call (msanity_c _ hst hG) inX rfl ?_; clear hst; rintro v w ⟨rfl, hst⟩)))) <;> (try refine nY ?_) <;> (try replace hst := nH hst)) | ((fail_if_success (go_big_may)); (go_step)))
      repeat' (first | go_skip | ((first | (with_reducible (refine Sl.k_field ?_; (refine s_ex hst (qt_fieldp evX hpr inX inX rfl) ?_); rintro vf hpf)) | (with_reducible refine Sl.k_guard ?_; (first | (refine Sl.guard_yes rfl ?_) | (refine Sl.guard_cases rfl ?_ ?_ <;> intro hg <;> first | (exfalso; simp only [decide_eq_true_eq, decide_eq_false_iff_not, Bool.not_false, Bool.not_true, beq_iff_eq, beq_eq_false_iff_ne, ne_eq] at hg; omega) | (simp only [hg, Bool.not_true, Bool.not_false])) <;> (try simp only [decide_eq_true_eq, decide_eq_false_iff_not, Bool.not_false, Bool.not_true, beq_iff_eq, beq_eq_false_iff_ne, bne_iff_ne, bne_eq_false_iff_eq, ne_eq] at hg)))) <;> (try refine nY ?_)) | (((with_reducible refine Sl.k_call ?_; ((refine s_call (cF _ hst _ hcl) inX rfl ?_; clear hst; rintro v w ⟨rfl, hst⟩)))) <;> (try refine nY ?_) <;> (try replace hst := nH hst)) | ((fail_if_success (go_big_may)); (go_step)) | ((first | (with_reducible refine Sl.k_load ?_; (first | (refine s_ex hst (qt_ldp_list evX asX inX) ?_; rintro v ⟨hvl, hv1⟩) | (refine s_ex hst (qt_ldp evX asX inX) ?_; rintro v ⟨cl, rfl, hcl⟩))) | (with_reducible refine Sl.k_field ?_; (((refine s_ex hst (qt_fieldp evX asX inX inX rfl) ?_); rintro v hp; (try simp only [Int.toNat_natCast, Int.toNat_natCast_add_one, Int.reduceToNat] at hp)))) | (with_reducible refine Sl.k_call ?_; (refine s_qt hst (by exact qt_len evX asX inX) ?_))) <;> (try refine nY ?_)) | (with_reducible refine Sl.gate rfl ?_; (go_step)))
      go_ret
      exact ⟨_, rfl, rfl, St.weaken (hS1.trans hS2) hst⟩
theorem mround_k {S M} (w : World) (hst : St S M w) (hG : Glob S) (cu : List Value) (u : BU) (hu : Rep.R S cu u) (cr : List Value) (r : RO) (hr : Rep.R S cr r) : Rets Tryd.prog 7 [.agg cu.toArray, .agg cr.toArray] w fun v w' => v = .bool true ∧ St S M w' := mround_c w hst hG cu cr u r hu hr
end Go.Proofs.YtlimhgamebnfeaaDoor
