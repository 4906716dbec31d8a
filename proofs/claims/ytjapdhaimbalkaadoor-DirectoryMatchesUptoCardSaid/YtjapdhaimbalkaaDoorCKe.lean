/- The statement DirectoryMatches. -/
import Derived.Test.YtjapdhaimbalkaaDoorBb
import Derived.Test.YtjapdhaimbalkaaDoorBh
import Derived.Test.YtjapdhaimbalkaaDoorBi

/- The statement DirectoryMatches, walked. -/
--@hgp
--@flat
--@dg
--@ex0
namespace Go.Proofs.YtjapdhaimbalkaaDoor
set_option linter.unusedSimpArgs false
set_option linter.unusedVariables false
open Go.RowKit Go.Sl Go.Srt

theorem wradd_c {S M} (w : World) (hst : St S M w) (c1 : List Value) (a F : List Fa) (h1 : Rep.R S c1 ((a, ()) : Dir)) (oa : ∀ f ∈ a, FaOk f) (cs : List Value) (f : Fa) (hR : Rep.R S cs f) (ok : FaOk f) (hn : a.length ≤ 80000) (e : Int) (he : (if validF f = true then (0 : Int) else 1) = e) (hF : (if validF f = true then nrm (a ++ [f]) else []) = F) :
    Rets Tryd.prog 14 [.agg c1.toArray, .agg cs.toArray] w fun v w' => ∃ S' cs, S.Le S' ∧ v = .tuple #[.agg cs.toArray, .int .i64 e] ∧ Rep.R S' cs ((F, ()) : Dir) ∧ St S' M w' := by
  obtain ⟨u1, rfl, k1⟩ := dir_of h1
  subst he
  subst hF
  exact (radd_c w hst u1 a k1 oa cs f hR ok hn).mono fun v w' ⟨S', u, hS, e, hu, h⟩ => ⟨S', [u], hS, e, dir_mk hu, h⟩
theorem wrmerge_c {S M} (w : World) (hst : St S M w) (c1 c2 : List Value) (a b F : List Fa) (h1 : Rep.R S c1 ((a, ()) : Dir)) (h2 : Rep.R S c2 ((b, ()) : Dir)) (oa : ∀ f ∈ a, FaOk f) (ob : ∀ f ∈ b, FaOk f) (hn : a.length + b.length ≤ 80000) (hF : nrm (a ++ b) = F) :
    Rets Tryd.prog 20 [.agg c1.toArray, .agg c2.toArray] w fun v w' => ∃ S' cs, S.Le S' ∧ v = .agg cs.toArray ∧ Rep.R S' cs ((F, ()) : Dir) ∧ St S' M w' := by
  obtain ⟨u1, rfl, k1⟩ := dir_of h1
  obtain ⟨u2, rfl, k2⟩ := dir_of h2
  subst hF
  exact (rmerge_c w hst u1 u2 a b k1 k2 oa ob hn).mono fun v w' ⟨S', u, hS, e, hu, h⟩ => ⟨S', [u], hS, e, dir_mk hu, h⟩
theorem wrdig_c {S M} (w : World) (hst : St S M w) (hG : Glob S) (c1 : List Value) (a : List Fa) (h1 : Rep.R S c1 ((a, ()) : Dir)) (oa : ∀ f ∈ a, FaOk f) (hn : a.length ≤ 80000) :
    Rets Tryd.prog 22 [.agg c1.toArray] w fun v w' => v = dgVm (digD a) ∧ St S M w' := by
  obtain ⟨u1, rfl, k1⟩ := dir_of h1
  exact rddig_c w hst hG u1 a k1 oa hn

set_option maxRecDepth 60000 in
set_option maxHeartbeats 4000000 in
theorem dmatch_c {S M} (w : World) (hst : St S M w) (hG : Glob S) (c1 c2 c3 : List Value) (a b : List Fa) (f : Fa) (h1 : Rep.R S c1 ((a, ()) : Dir)) (h2 : Rep.R S c2 ((b, ()) : Dir)) (h3 : Rep.R S c3 f) :
    Rets Tryd.prog 4 [.agg c1.toArray, .agg c2.toArray, .agg c3.toArray] w fun v w' => v = .bool true ∧ St S M w' := by
  unfold Rets
  obtain ⟨z1, hz1⟩ : ∃ z, fewD a = z := ⟨_, rfl⟩
  obtain ⟨z2, hz2⟩ : ∃ z, fewD b = z := ⟨_, rfl⟩
  obtain ⟨z3, hz3⟩ : ∃ z, fewD [f] = z := ⟨_, rfl⟩
  have cW1 := fun {S : Snap} {M : List Chunk} (w : World) (hst : St S M w) (cs : List Value) (h : Rep.R S cs ((a, ()) : Dir)) => (wfew_c w hst cs a h).eq hz1
  have cW2 := fun {S : Snap} {M : List Chunk} (w : World) (hst : St S M w) (cs : List Value) (h : Rep.R S cs ((b, ()) : Dir)) => (wfew_c w hst cs b h).eq hz2
  have cW3 := fun {S : Snap} {M : List Chunk} (w : World) (hst : St S M w) (cs : List Value) (h : Rep.R S cs f) => (few1_c w hst cs f h).eq hz3
  by_cases hz : z1 = true ∧ z2 = true ∧ z3 = true
  · obtain ⟨rfl, rfl, rfl⟩ := hz
    obtain ⟨oa, la⟩ := dir_in h1 hz1
    obtain ⟨ob, lb⟩ := dir_in h2 hz2
    have of := fa_in h3 ((fewD_of hz3).2 f (List.mem_singleton.2 rfl))
    clear hz1 hz2 hz3
    have of1 : ∀ g ∈ [f], FaOk g := fun g hg => by obtain rfl := List.mem_singleton.1 hg; exact of
    have lf1 : [f].length = 1 := rfl
    have oAB := nrm_ok (ok_app oa ob)
    have lAB := nrm_len (fs := a ++ b)
    rw [List.length_append] at lAB
    obtain ⟨AB, gAB⟩ : ∃ F, nrm (a ++ b) = F := ⟨_, rfl⟩
    rw [gAB] at oAB lAB
    have HAB := Lib.hid gAB
    clear gAB
    obtain ⟨e, ge⟩ : ∃ e, (if validF f = true then (0 : Int) else 1) = e := ⟨_, rfl⟩
    obtain ⟨F, gF⟩ : ∃ F, (if validF f = true then nrm (a ++ [f]) else []) = F := ⟨_, rfl⟩
    have oF : ∀ g ∈ F, FaOk g := by
      rw [← gF]
      split
      · exact nrm_ok (ok_app oa of1)
      · simp
    have lF : F.length ≤ 31 := by
      rw [← gF]
      split
      · have := nrm_len (fs := a ++ [f])
        rw [List.length_append] at this
        omega
      · simp
    have Hge := Lib.hid ge
    have HgF := Lib.hid gF
    clear ge gF
    have mAB : AB.length ≤ 1000000 := by omega
    have mF : F.length ≤ 1000000 := by omega
    obtain ⟨y, gy⟩ : ∃ y, validF f = y := ⟨_, rfl⟩
    have cV := fun {S : Snap} {M : List Chunk} (w : World) (hst : St S M w) (cs : List Value) (hR : Rep.R S cs f) => (fvalid_c w hst cs f hR of).eq gy
    have cRV := fun {S : Snap} {M : List Chunk} (w : World) (hst : St S M w) (cs : List Value) (hR : Rep.R S cs f) => (rfvalid_c w hst cs f hR of).eq gy
    clear gy
    obtain ⟨bF, gbF⟩ : ∃ b, encFa f = b := ⟨_, rfl⟩
    have cE := fun {S : Snap} {M : List Chunk} (w : World) (hst : St S M w) (cs : List Value) (hR : Rep.R S cs f) => fencode_c w hst cs f hR of
    have cRE := fun {S : Snap} {M : List Chunk} (w : World) (hst : St S M w) (cs : List Value) (hR : Rep.R S cs f) => rfencode_c w hst cs f hR of
    rw [gbF] at cE cRE
    clear gbF
    have cD := fun {S : Snap} {M : List Chunk} (w : World) (hst : St S M w) (hG : Glob S) (c : List Value) (h : Rep.R S c ((a, ()) : Dir)) => wdig_c w hst hG c a h oa (by omega)
    have cRD := fun {S : Snap} {M : List Chunk} (w : World) (hst : St S M w) (hG : Glob S) (c : List Value) (h : Rep.R S c ((a, ()) : Dir)) => wrdig_c w hst hG c a h oa (by omega)
    have hlD : (digD a).l.length = 16 := rootM_len _
    generalize digD a = D at *
    haveI : LenIs D.l 16 := ⟨hlD⟩
    go_enter Tryd.func4, Tryd.ntmps4
    repeat' ((fail_if_success (with_reducible show Code.wp _ (Code.region 1 _ _) _ _ _)); first | ((fail_if_success (go_big_may)); (go_step)) | (((((refine s_box hst evX rfl ?_; clear hst; intro bx w hst)))) <;> (try refine nX ?_) <;> (try replace hst := nH hst)))
    obtain ⟨S1, hS1, hst1, hpf⟩ := pt_box (α := Fa) (x := f) hst h3 (Rep.len h3)
    clear hst
    obtain ⟨S2, hS2, hst2, hpb⟩ := pt_box (α := Dir) (x := (b, ())) hst1 (Rep.mono hS1 h2) (Rep.len h2)
    clear hst1
    obtain ⟨S3, hS3, hst, hpa⟩ := pt_box (α := Dir) (x := (a, ())) hst2 (Rep.mono (hS1.trans hS2) h1) (Rep.len h1)
    clear hst2
    replace hpf := hpf.mono (hS2.trans hS3)
    replace hpb := hpb.mono hS3
    have hle : S.Le S3 := (hS1.trans hS2).trans hS3
    have hG3 := hG.mono hle
    clear hS1 hS2 hS3 h1 h2 h3
    repeat' ((fail_if_success (with_reducible show Code.wp _ (Code.region 2 _ _) _ _ _)); first | (((with_reducible refine Sl.k_call ?_; ((refine s_call (dsanity_c _ hst hG3) inX rfl ?_; clear hst; rintro v w ⟨rfl, hst⟩)))) <;> (try refine nX ?_) <;> (try replace hst := nH hst)) | ((fail_if_success (go_big_may)); (go_step)))
    repeat' ((fail_if_success (with_reducible show Code.wp _ (Code.region 4 _ _) _ _ _)); first | ((first | (with_reducible (refine Sl.k_load ?_; (first | (refine s_ex hst (qt_ldp (α := Dir) (y := (a, ())) evX hpa inX) ?_; rintro v55 ⟨ca, rfl, hca⟩) | (refine s_ex hst (qt_ldp (α := Dir) (y := (b, ())) evX hpb inX) ?_; rintro v56 ⟨cb, rfl, hcb⟩) | (refine s_ex hst (qt_ldp (y := f) evX hpf inX) ?_; rintro v57 ⟨cf, rfl, hcf⟩)))) | (with_reducible refine Sl.k_guard ?_; ((refine Sl.guard_yes rfl ?_)))) <;> (try refine nX ?_)) | (((with_reducible refine Sl.k_call ?_; (first | (refine s_call (cW1 _ hst ca hca) inX rfl ?_; clear hst; rintro v w ⟨rfl, hst⟩) | (refine s_call (cW2 _ hst cb hcb) inX rfl ?_; clear hst; rintro v w ⟨rfl, hst⟩) | (refine s_call (cW3 _ hst cf hcf) inX rfl ?_; clear hst; rintro v w ⟨rfl, hst⟩)))) <;> (try refine nX ?_) <;> (try replace hst := nH hst)) | ((fail_if_success (go_big_may)); (go_step)) | (with_reducible refine Sl.gate rfl ?_; (go_step)))
    repeat' (first | (((with_reducible (refine Sl.k_load ?_; (first | (refine s_ex hst (qt_ldp (α := Dir) (y := (a, ())) evX hpa inX) ?_; rintro v55 ⟨ca, rfl, hca⟩) | (refine s_ex hst (qt_ldp (y := f) evX hpf inX) ?_; rintro v57 ⟨cf, rfl, hcf⟩))))) <;> (try refine nX ?_)) | (((with_reducible refine Sl.k_call ?_; ((refine s_call (wadd_c _ hst ca a F hca oa cf f hcf of (by omega) e Hge.out HgF.out) inX rfl ?_; clear hst; rintro v w ⟨S4, c4, hS4, rfl, hR4, hst⟩)))) <;> (try refine nX ?_) <;> (try replace hst := nH hst)) | ((fail_if_success (go_big_may)); (go_step)) | (with_reducible refine Sl.gate rfl ?_; (go_step)) | (((((refine s_alloc hst inX ?_; clear hst; intro bk w hst)))) <;> (try refine nX ?_) <;> (try replace hst := nH hst)))
    refine s_stW0 hst rfl BoxIn.h inX rfl hR4 rfl ?_
    clear hst; intro w hst
    (try refine nX ?_)
    (try replace hst := nH hst)
    repeat' ((fail_if_success (with_reducible show Code.wp _ (Code.region 5 _ _) _ _ _)); ((fail_if_success (go_big_may)); (go_step)))
    obtain ⟨T4, hT4, hst0, hpx⟩ := pt_box (α := Dir) (x := (F, ())) hst hR4 (Rep.len hR4)
    clear hst
    have hst := hst0
    clear hst0
    replace hle := (hle.trans hS4).trans hT4
    replace hpa := hpa.mono (hS4.trans hT4)
    replace hpb := hpb.mono (hS4.trans hT4)
    replace hpf := hpf.mono (hS4.trans hT4)
    repeat' (first | (((with_reducible (refine Sl.k_load ?_; (first | (refine s_ex hst (qt_ldp (α := Dir) (y := (a, ())) evX hpa inX) ?_; rintro v55 ⟨ca, rfl, hca⟩) | (refine s_ex hst (qt_ldp (y := f) evX hpf inX) ?_; rintro v57 ⟨cf, rfl, hcf⟩))))) <;> (try refine nX ?_)) | (((with_reducible refine Sl.k_call ?_; ((refine s_call (wradd_c _ hst ca a F hca oa cf f hcf of (by omega) e Hge.out HgF.out) inX rfl ?_; clear hst; rintro v w ⟨S5, c5, hS5, rfl, hR5, hst⟩)))) <;> (try refine nX ?_) <;> (try replace hst := nH hst)) | ((fail_if_success (go_big_may)); (go_step)) | (with_reducible refine Sl.gate rfl ?_; (go_step)) | (((((refine s_alloc hst inX ?_; clear hst; intro bk w hst)))) <;> (try refine nX ?_) <;> (try replace hst := nH hst)))
    refine s_stW0 hst rfl BoxIn.h inX rfl hR5 rfl ?_
    clear hst; intro w hst
    (try refine nX ?_)
    (try replace hst := nH hst)
    repeat' ((fail_if_success (with_reducible show Code.wp _ (Code.region 6 _ _) _ _ _)); ((fail_if_success (go_big_may)); (go_step)))
    obtain ⟨T5, hT5, hst0, hpy⟩ := pt_box (α := Dir) (x := (F, ())) hst hR5 (Rep.len hR5)
    clear hst
    have hst := hst0
    clear hst0
    replace hle := (hle.trans hS5).trans hT5
    replace hpa := hpa.mono (hS5.trans hT5)
    replace hpb := hpb.mono (hS5.trans hT5)
    replace hpf := hpf.mono (hS5.trans hT5)
    replace hpx := hpx.mono (hS5.trans hT5)
    have hG6 := hG.mono hle
    clear hS4 hS5 hT4 hT5 hR4 hR5 hca hcb hcf
    refine ps_begin hst (by kernel_rfl) ?_; clear hst; intro w hst; have hSS := le_of hst; (try refine nX ?_)
    (refine ps_take 0 (by repeat (first | with_reducible refine panicQ_then ?_ | exact panicQ_body)) rfl (by kernel_rfl) (by kernel_rfl) (by kernel_rfl) rfl (St.cls hSS hst) (by exact qt_move evX) ?_) <;> (try refine nX ?_)
    (refine ps_take 1 (by repeat (first | with_reducible refine panicQ_then ?_ | exact panicQ_body)) rfl (by kernel_rfl) (by kernel_rfl) (by kernel_rfl) rfl (St.cls hSS hst) (by exact qt_move evX) ?_) <;> (try refine nX ?_)
    (((refine ps_takex 2 (by repeat (first | with_reducible refine panicQ_then ?_ | exact panicQ_body)) rfl (by kernel_rfl) (by kernel_rfl) (by kernel_rfl) rfl (St.cls hSS hst) (qt_ldp (y := f) evX hpf inX ) ?_; rintro  v2 ⟨c2, rfl, hc2⟩))) <;> (try refine nX ?_)
    (((refine ps_takex 4 (by repeat (first | with_reducible refine panicQ_then ?_ | exact panicQ_body)) rfl (by kernel_rfl) (by kernel_rfl) (by kernel_rfl) rfl (St.cls hSS hst) (qt_ldp (y := f) evX hpf inX ) ?_; rintro  v4 ⟨c4, rfl, hc4⟩))) <;> (try refine nX ?_)
    refine ps_one 3 rfl (by kernel_rfl) ?_; intro K hK; refine Sl.guard_yes rfl ?_; refine s_call (cV w hst c2 (Rep.mono hSS hc2)) inX rfl ?_; clear hst; rintro v3 w ⟨rfl, hst⟩; (try refine nX ?_); (try replace hst := nH hst); refine ps_next hK (St.cls hSS hst) ?_; clear hK K; (try refine nX ?_)
    refine ps_one 5 rfl (by kernel_rfl) ?_; intro K hK; refine Sl.guard_yes rfl ?_; refine s_call (cRV w hst c4 (Rep.mono hSS hc4)) inX rfl ?_; clear hst; rintro v5 w ⟨rfl, hst⟩; (try refine nX ?_); (try replace hst := nH hst); refine ps_next hK (St.cls hSS hst) ?_; clear hK K; (try refine nX ?_)
    ((refine ps_take 6 (by repeat (first | with_reducible refine panicQ_then ?_ | exact panicQ_body)) rfl (by kernel_rfl) (by kernel_rfl) (by kernel_rfl) rfl (St.cls hSS hst) (qt_eql_bself rfl rfl inX) ?_)) <;> (try refine nX ?_)
    (refine ps_take 7 (by repeat (first | with_reducible refine panicQ_then ?_ | exact panicQ_body)) rfl (by kernel_rfl) (by kernel_rfl) (by kernel_rfl) rfl (St.cls hSS hst) (by exact qt_pick_t rfl evX) ?_) <;> (try refine nX ?_)
    (refine ps_take 8 (by repeat (first | with_reducible refine panicQ_then ?_ | exact panicQ_body)) rfl (by kernel_rfl) (by kernel_rfl) (by kernel_rfl) rfl (St.cls hSS hst) (by exact qt_move evX) ?_) <;> (try refine nX ?_)
    (((refine ps_takex 9 (by repeat (first | with_reducible refine panicQ_then ?_ | exact panicQ_body)) rfl (by kernel_rfl) (by kernel_rfl) (by kernel_rfl) rfl (St.cls hSS hst) (qt_ldp (y := f) evX hpf inX ) ?_; rintro  v9 ⟨c9, rfl, hc9⟩))) <;> (try refine nX ?_)
    (((refine ps_takex 11 (by repeat (first | with_reducible refine panicQ_then ?_ | exact panicQ_body)) rfl (by kernel_rfl) (by kernel_rfl) (by kernel_rfl) rfl (St.cls hSS hst) (qt_ldp (y := f) evX hpf inX ) ?_; rintro  v11 ⟨c11, rfl, hc11⟩))) <;> (try refine nX ?_)
    refine ps_one 10 rfl (by kernel_rfl) ?_; intro K hK; refine Sl.guard_yes rfl ?_; refine s_call (cE w hst c9 (Rep.mono hSS hc9)) inX rfl ?_; clear hst; rintro v10 w ⟨rfl, hst⟩; (try refine nX ?_); (try replace hst := nH hst); refine ps_next hK (St.cls hSS hst) ?_; clear hK K; (try refine nX ?_)
    refine ps_one 12 rfl (by kernel_rfl) ?_; intro K hK; refine Sl.guard_yes rfl ?_; refine s_call (cRE w hst c11 (Rep.mono hSS hc11)) inX rfl ?_; clear hst; rintro v12 w ⟨rfl, hst⟩; (try refine nX ?_); (try replace hst := nH hst); refine ps_next hK (St.cls hSS hst) ?_; clear hK K; (try refine nX ?_)
    ((refine ps_take 13 (by repeat (first | with_reducible refine panicQ_then ?_ | exact panicQ_body)) rfl (by kernel_rfl) (by kernel_rfl) (by kernel_rfl) rfl (St.cls hSS hst) (qt_eql_str (a := bF) (b := bF) rfl rfl inX (decide_eq_true rfl)) ?_)) <;> (try refine nX ?_)
    (refine ps_take 14 (by repeat (first | with_reducible refine panicQ_then ?_ | exact panicQ_body)) rfl (by kernel_rfl) (by kernel_rfl) (by kernel_rfl) rfl (St.cls hSS hst) (by exact qt_pick_t rfl evX) ?_) <;> (try refine nX ?_)
    (refine ps_take 15 (by repeat (first | with_reducible refine panicQ_then ?_ | exact panicQ_body)) rfl (by kernel_rfl) (by kernel_rfl) (by kernel_rfl) rfl (St.cls hSS hst) (by exact qt_move evX) ?_) <;> (try refine nX ?_)
    (((refine ps_takex 16 (by repeat (first | with_reducible refine panicQ_then ?_ | exact panicQ_body)) rfl (by kernel_rfl) (by kernel_rfl) (by kernel_rfl) rfl (St.cls hSS hst) (qt_ldp (α := Dir) (y := (F, ())) evX hpx inX ) ?_; rintro  v16 ⟨c16, rfl, hc16⟩))) <;> (try refine nX ?_)
    (((refine ps_takex 17 (by repeat (first | with_reducible refine panicQ_then ?_ | exact panicQ_body)) rfl (by kernel_rfl) (by kernel_rfl) (by kernel_rfl) rfl (St.cls hSS hst) (qt_ldp (α := Dir) (y := (F, ())) evX hpy inX ) ?_; rintro  v17 ⟨c17, rfl, hc17⟩))) <;> (try refine nX ?_)
    refine ps_one 18 rfl (by kernel_rfl) ?_; intro K hK; refine Sl.guard_yes rfl ?_; refine s_call (wsame_yes w hst c16 c17 F (Rep.mono hSS hc16) (Rep.mono hSS hc17) oF mF) inX rfl ?_; clear hst; rintro v18 w ⟨rfl, hst⟩; (try refine nX ?_); (try replace hst := nH hst); refine ps_next hK (St.cls hSS hst) ?_; clear hK K; (try refine nX ?_)
    (refine ps_take 19 (by repeat (first | with_reducible refine panicQ_then ?_ | exact panicQ_body)) rfl (by kernel_rfl) (by kernel_rfl) (by kernel_rfl) rfl (St.cls hSS hst) (by exact qt_pick_t rfl evX) ?_) <;> (try refine nX ?_)
    (refine ps_take 20 (by repeat (first | with_reducible refine panicQ_then ?_ | exact panicQ_body)) rfl (by kernel_rfl) (by kernel_rfl) (by kernel_rfl) rfl (St.cls hSS hst) (by exact qt_move evX) ?_) <;> (try refine nX ?_)
    (refine ps_take 21 (by repeat (first | with_reducible refine panicQ_then ?_ | exact panicQ_body)) rfl (by kernel_rfl) (by kernel_rfl) (by kernel_rfl) rfl (St.cls hSS hst) (by exact qt_move evX) ?_) <;> (try refine nX ?_)
    (refine ps_take 22 (by repeat (first | with_reducible refine panicQ_then ?_ | exact panicQ_body)) rfl (by kernel_rfl) (by kernel_rfl) (by kernel_rfl) rfl (St.cls hSS hst) (by exact qt_move evX) ?_) <;> (try refine nX ?_)
    ((refine ps_take 23 (by repeat (first | with_reducible refine panicQ_then ?_ | exact panicQ_body)) rfl (by kernel_rfl) (by kernel_rfl) (by kernel_rfl) rfl (St.cls hSS hst) (qt_eql_self rfl rfl) ?_)) <;> (try refine nX ?_)
    (refine ps_take 24 (by repeat (first | with_reducible refine panicQ_then ?_ | exact panicQ_body)) rfl (by kernel_rfl) (by kernel_rfl) (by kernel_rfl) rfl (St.cls hSS hst) (by exact qt_pick_t rfl evX) ?_) <;> (try refine nX ?_)
    (refine ps_take 25 (by repeat (first | with_reducible refine panicQ_then ?_ | exact panicQ_body)) rfl (by kernel_rfl) (by kernel_rfl) (by kernel_rfl) rfl (St.cls hSS hst) (by exact qt_move evX) ?_) <;> (try refine nX ?_)
    (((refine ps_takex 26 (by repeat (first | with_reducible refine panicQ_then ?_ | exact panicQ_body)) rfl (by kernel_rfl) (by kernel_rfl) (by kernel_rfl) rfl (St.cls hSS hst) (qt_ldp (α := Dir) (y := (a, ())) evX hpa inX ) ?_; rintro  v26 ⟨c26, rfl, hc26⟩))) <;> (try refine nX ?_)
    (((refine ps_takex 27 (by repeat (first | with_reducible refine panicQ_then ?_ | exact panicQ_body)) rfl (by kernel_rfl) (by kernel_rfl) (by kernel_rfl) rfl (St.cls hSS hst) (qt_ldp (α := Dir) (y := (b, ())) evX hpb inX ) ?_; rintro  v27 ⟨c27, rfl, hc27⟩))) <;> (try refine nX ?_)
    (((refine ps_takex 29 (by repeat (first | with_reducible refine panicQ_then ?_ | exact panicQ_body)) rfl (by kernel_rfl) (by kernel_rfl) (by kernel_rfl) rfl (St.cls hSS hst) (qt_ldp (α := Dir) (y := (a, ())) evX hpa inX ) ?_; rintro  v29 ⟨c29, rfl, hc29⟩))) <;> (try refine nX ?_)
    (((refine ps_takex 30 (by repeat (first | with_reducible refine panicQ_then ?_ | exact panicQ_body)) rfl (by kernel_rfl) (by kernel_rfl) (by kernel_rfl) rfl (St.cls hSS hst) (qt_ldp (α := Dir) (y := (b, ())) evX hpb inX ) ?_; rintro  v30 ⟨c30, rfl, hc30⟩))) <;> (try refine nX ?_)
    refine ps_one 28 rfl (by kernel_rfl) ?_; intro K hK; refine Sl.guard_yes rfl ?_; refine s_call (wmerge_c w hst c26 c27 a b AB (Rep.mono hSS hc26) (Rep.mono hSS hc27) oa ob (by omega) HAB.out) inX rfl ?_; clear hst; rintro v28 w ⟨S28, k28, hS28, rfl, hR28, hst⟩; (try refine nX ?_); (try replace hst := nH hst); replace hSS := hSS.trans hS28; refine ps_next hK (St.cls hSS hst) ?_; clear hK K; (try refine nX ?_)
    refine ps_one 31 rfl (by kernel_rfl) ?_; intro K hK; refine Sl.guard_yes rfl ?_; refine s_call (wrmerge_c w hst c29 c30 a b AB (Rep.mono hSS hc29) (Rep.mono hSS hc30) oa ob (by omega) HAB.out) inX rfl ?_; clear hst; rintro v31 w ⟨S31, k31, hS31, rfl, hR31, hst⟩; (try refine nX ?_); (try replace hst := nH hst); replace hSS := hSS.trans hS31; refine ps_next hK (St.cls hSS hst) ?_; clear hK K; (try refine nX ?_)
    refine ps_one 32 rfl (by kernel_rfl) ?_; intro K hK; refine Sl.guard_yes rfl ?_; refine s_call (wsame_yes w hst k28 k31 AB (Rep.mono hS31 hR28) hR31 oAB mAB) inX rfl ?_; clear hst; rintro v32 w ⟨rfl, hst⟩; (try refine nX ?_); (try replace hst := nH hst); refine ps_next hK (St.cls hSS hst) ?_; clear hK K; (try refine nX ?_)
    (refine ps_take 33 (by repeat (first | with_reducible refine panicQ_then ?_ | exact panicQ_body)) rfl (by kernel_rfl) (by kernel_rfl) (by kernel_rfl) rfl (St.cls hSS hst) (by exact qt_pick_t rfl evX) ?_) <;> (try refine nX ?_)
    (refine ps_take 34 (by repeat (first | with_reducible refine panicQ_then ?_ | exact panicQ_body)) rfl (by kernel_rfl) (by kernel_rfl) (by kernel_rfl) rfl (St.cls hSS hst) (by exact qt_move evX) ?_) <;> (try refine nX ?_)
    (((refine ps_takex 35 (by repeat (first | with_reducible refine panicQ_then ?_ | exact panicQ_body)) rfl (by kernel_rfl) (by kernel_rfl) (by kernel_rfl) rfl (St.cls hSS hst) (qt_ldp (α := Dir) (y := (a, ())) evX hpa inX ) ?_; rintro  v35 ⟨c35, rfl, hc35⟩))) <;> (try refine nX ?_)
    (((refine ps_takex 37 (by repeat (first | with_reducible refine panicQ_then ?_ | exact panicQ_body)) rfl (by kernel_rfl) (by kernel_rfl) (by kernel_rfl) rfl (St.cls hSS hst) (qt_ldp (α := Dir) (y := (a, ())) evX hpa inX ) ?_; rintro  v37 ⟨c37, rfl, hc37⟩))) <;> (try refine nX ?_)
    refine ps_one 36 rfl (by kernel_rfl) ?_; intro K hK; refine Sl.guard_yes rfl ?_; refine s_call (cD w hst (hG6.mono hSS) c35 (Rep.mono hSS hc35)) inX rfl ?_; clear hst; rintro v36 w ⟨rfl, hst⟩; (try refine nX ?_); (try replace hst := nH hst); refine ps_next hK (St.cls hSS hst) ?_; clear hK K; (try refine nX ?_)
    refine ps_one 38 rfl (by kernel_rfl) ?_; intro K hK; refine Sl.guard_yes rfl ?_; refine s_call (cRD w hst (hG6.mono hSS) c37 (Rep.mono hSS hc37)) inX rfl ?_; clear hst; rintro v38 w ⟨rfl, hst⟩; (try refine nX ?_); (try replace hst := nH hst); refine ps_next hK (St.cls hSS hst) ?_; clear hK K; (try refine nX ?_)
    ((refine ps_take 39 (by repeat (first | with_reducible refine panicQ_then ?_ | exact panicQ_body)) rfl (by kernel_rfl) (by kernel_rfl) (by kernel_rfl) rfl (St.cls hSS hst) (qt_eqlK_b rfl rfl (r_dgd hlD) (r_dgd hlD) inX inX inferInstance (decide_eq_true rfl)) ?_)) <;> (try refine nX ?_)
    (refine ps_take 40 (by repeat (first | with_reducible refine panicQ_then ?_ | exact panicQ_body)) rfl (by kernel_rfl) (by kernel_rfl) (by kernel_rfl) rfl (St.cls hSS hst) (by exact qt_pick_t rfl evX) ?_) <;> (try refine nX ?_)
    (refine ps_take 41 (by repeat (first | with_reducible refine panicQ_then ?_ | exact panicQ_body)) rfl (by kernel_rfl) (by kernel_rfl) (by kernel_rfl) rfl (St.cls hSS hst) (by exact qt_assign evX) ?_) <;> (try refine nX ?_)
    refine ps_done (by kernel_rfl) ?_
    repeat' (((fail_if_success (go_big_may)); (go_step)))
    go_ret
    exact ⟨_, rfl, rfl, St.weaken (hle.trans hSS) hst⟩
  · have hz : z1 = false ∨ (z1 = true ∧ z2 = false) ∨ (z1 = true ∧ z2 = true ∧ z3 = false) := by
      revert hz; cases z1 <;> cases z2 <;> cases z3 <;> simp
    clear hz1 hz2 hz3
    rcases hz with rfl | ⟨rfl, rfl⟩ | ⟨rfl, rfl, rfl⟩
    all_goals
      go_enter Tryd.func4, Tryd.ntmps4
      repeat' ((fail_if_success (with_reducible show Code.wp _ (Code.region 1 _ _) _ _ _)); first | ((fail_if_success (go_big_may)); (go_step)) | (((((refine s_box hst evX rfl ?_; clear hst; intro bx w hst)))) <;> (try refine nX ?_) <;> (try replace hst := nH hst)))
      obtain ⟨S1, hS1, hst1, hpf⟩ := pt_box (α := Fa) (x := f) hst h3 (Rep.len h3)
      clear hst
      obtain ⟨S2, hS2, hst2, hpb⟩ := pt_box (α := Dir) (x := (b, ())) hst1 (Rep.mono hS1 h2) (Rep.len h2)
      clear hst1
      obtain ⟨S3, hS3, hst, hpa⟩ := pt_box (α := Dir) (x := (a, ())) hst2 (Rep.mono (hS1.trans hS2) h1) (Rep.len h1)
      clear hst2
      replace hpf := hpf.mono (hS2.trans hS3)
      replace hpb := hpb.mono hS3
      have hle : S.Le S3 := (hS1.trans hS2).trans hS3
      have hG3 := hG.mono hle
      clear hS1 hS2 hS3 h1 h2 h3
      repeat' ((fail_if_success (with_reducible show Code.wp _ (Code.region 2 _ _) _ _ _)); first | (((with_reducible refine Sl.k_call ?_; ((refine s_call (dsanity_c _ hst hG3) inX rfl ?_; clear hst; rintro v w ⟨rfl, hst⟩)))) <;> (try refine nX ?_) <;> (try replace hst := nH hst)) | ((fail_if_success (go_big_may)); (go_step)))
      repeat' (first | go_skip | ((first | (with_reducible (refine Sl.k_load ?_; (first | (refine s_ex hst (qt_ldp (α := Dir) (y := (a, ())) evX hpa inX) ?_; rintro v55 ⟨ca, rfl, hca⟩) | (refine s_ex hst (qt_ldp (α := Dir) (y := (b, ())) evX hpb inX) ?_; rintro v56 ⟨cb, rfl, hcb⟩) | (refine s_ex hst (qt_ldp (y := f) evX hpf inX) ?_; rintro v57 ⟨cf, rfl, hcf⟩)))) | (with_reducible refine Sl.k_guard ?_; ((refine Sl.guard_yes rfl ?_)))) <;> (try refine nX ?_)) | (((with_reducible refine Sl.k_call ?_; (first | (refine s_call (cW1 _ hst ca hca) inX rfl ?_; clear hst; rintro v w ⟨rfl, hst⟩) | (refine s_call (cW2 _ hst cb hcb) inX rfl ?_; clear hst; rintro v w ⟨rfl, hst⟩) | (refine s_call (cW3 _ hst cf hcf) inX rfl ?_; clear hst; rintro v w ⟨rfl, hst⟩)))) <;> (try refine nX ?_) <;> (try replace hst := nH hst)) | ((fail_if_success (go_big_may)); (go_step)) | (with_reducible refine Sl.gate rfl ?_; (go_step)))
      go_ret
      exact ⟨_, rfl, rfl, St.weaken hle hst⟩
theorem dmatchK_c {S M} (w : World) (hst : St S M w) (hG : Glob S) (c1 : List Value) (a : Dir) (h1 : Rep.R S c1 a) (c2 : List Value) (b : Dir) (h2 : Rep.R S c2 b) (c3 : List Value) (f : Fa) (h3 : Rep.R S c3 f) :
    Rets Tryd.prog 4 [.agg c1.toArray, .agg c2.toArray, .agg c3.toArray] w fun v w' => v = .bool true ∧ St S M w' := by
  obtain ⟨a, ⟨⟩⟩ := a
  obtain ⟨b, ⟨⟩⟩ := b
  exact dmatch_c w hst hG c1 c2 c3 a b f h1 h2 h3
end Go.Proofs.YtjapdhaimbalkaaDoor

/- The statement DirectoryMatches. -/
namespace Go.Proofs.YtjapdhaimbalkaaDoor
set_option linter.unusedSimpArgs false
set_option linter.unusedVariables false
open Go.RowKit Go.Sl Go.ChangeShapes Go.WideShapes Go.ChangeAt

set_option maxRecDepth 20000 in
theorem dmatch_post (H : Type) (enc : TypeId × Value → H) (W : World) (base : Nat) (args : Array Value) (ds gs : List (DataW H)) (before : List MemPlace)
    (hval : ∀ (j : Nat) t v, Tryd.f4.params[j]? = some t → args[j]? = some v → Value.okWide Tryd.prog W .any base t v)
    (hW : DataW.Whole enc Tryd.prog Tryd.f4.params.toList Rows.directoryMatchesSpec.vars false W args.toList ds gs before) (hk : Rows.uptoSmall H (ds ++ gs) = true) (hL : laidMetH Tryd.prog Rows.directoryMatchesUptoRow.laid W) :
    Calls Tryd.prog 4 args W fun e W' => ∃ v, e = .returned v ∧ Rows.directoryMatchesSpec.post enc Tryd.prog Tryd.f4 false true false false W args v W' := by
  have hW' := hW
  obtain ⟨p, q, hA0, hV, rfl, hfz, hnd⟩ := hW
  have hA : DataW.TrodAll enc Tryd.prog W 0 (fun _ => true) true Tryd.f4.params.toList args.toList ds p := hA0
  have hk := small_all hk
  rw [Tryd.params4] at hA hval
  obtain ⟨v0, vs0, d0, ds0, p0, q0, hargs, rfl, rfl, h0, r0⟩ := trodAll_cons hA
  obtain ⟨v1, vs1, d1, ds1, p1, q1, rfl, rfl, rfl, h1, r1⟩ := trodAll_cons r0
  obtain ⟨v2, vs2, d2, ds2, p2, q2, rfl, rfl, rfl, h2, r2⟩ := trodAll_cons r1
  obtain ⟨rfl, rfl, rfl⟩ := trodAll_nil r2
  obtain rfl : args = #[v0, v1, v2] := by cases args; simp_all
  obtain ⟨rfl, rfl⟩ := trodVars_none hV
  simp only [List.append_nil, Rows.uptoBulkAll] at hk
  obtain ⟨c0, u0, rfl, hR0⟩ := open_dir (hval 0 27 v0 rfl rfl) h0
  obtain ⟨c1, u1, rfl, hR1⟩ := open_dir (hval 1 27 v1 rfl rfl) h1
  obtain ⟨c2, u2, rfl, hR2⟩ := open_fa (hval 2 34 v2 rfl rfl) h2
  refine Calls.mono (dmatchK_c W (St.start W) (glob_of hL) c0 u0 hR0 c1 u1 hR1 c2 u2 hR2) fun e W' ⟨v, he, hv, hst⟩ => ?_
  subst hv
  exact ⟨_, he, law_post (tb := 4) rfl hW' (by kernel_rfl) (by rw [Tryd.params4]; intro t ht'; have e : t = 27 ∨ t = 34 := (by simpa using ht'); rcases e with rfl | rfl <;> exact ⟨by kernel_rfl, of_decide_eq_true (by kernel_rfl)⟩) (by kernel_rfl) (by kernel_rfl) rfl rfl rfl hst.below⟩

abbrev dmatch_args : Array Value := #[.agg #[.slice none 0 0], .agg #[.slice none 0 0], .agg #[.int .i64 0, .string ⟨#[]⟩, .int .i64 0, .int .i64 0, .int .i64 0, .slice none 0 0, .int .u8 0, .int .u8 0, .int .u8 0, .int .u8 0, .int .u8 0, .int .u8 0, .int .u8 0, .int .u8 0, .int .u8 0, .int .u8 0, .int .u8 0, .int .u8 0, .int .u8 0, .int .u8 0, .int .u8 0, .int .u8 0]]
theorem dmatch_met (os : Os) : laidMet Tryd.prog Rows.directoryMatchesUptoRow.laid ((laidWorld os #[]).forCall (fun _ _ => 0) ⟨#[], dmatch_args, []⟩).memory :=
  laidMet_of_run' 8 (by kernel_rfl) (by kernel_rfl)
theorem dmatch_reads (os : Os) {H : Type} (enc : TypeId × Value → H) : ∃ places, DataW.whole enc Tryd.prog ((laidWorld os #[]).forCall (fun _ _ => 0) ⟨#[], dmatch_args, []⟩).memory Tryd.f4.params.toList Rows.directoryMatchesSpec.vars false dmatch_args.toList 8 = some ([.agg [.nil], .agg [.nil], .agg [.lit (.int .i64 0), .lit (.string []), .agg [.lit (.int .i64 0), .lit (.int .i64 0), .lit (.int .i64 0), .nil], .agg [.lit (.int .u8 0), .lit (.int .u8 0), .lit (.int .u8 0), .lit (.int .u8 0), .lit (.int .u8 0), .lit (.int .u8 0), .lit (.int .u8 0), .lit (.int .u8 0), .lit (.int .u8 0), .lit (.int .u8 0), .lit (.int .u8 0), .lit (.int .u8 0), .lit (.int .u8 0), .lit (.int .u8 0), .lit (.int .u8 0), .lit (.int .u8 0)]]], [], places) :=
  ⟨[], by kernel_rfl⟩

set_option maxRecDepth 100000 in
theorem dmatch_lifted (os : Os) (started : os.Started) (H : Type) (enc : TypeId × Value → H) (F : Stop.Interp) :
    ReturnsInHanded {} Tryd.checked os 4 .any ((Rows.OpenSpec.upto Rows.directoryMatchesSpec).preRow enc Tryd.prog Tryd.f4 Rows.directoryMatchesUptoRow.domain false Rows.directoryMatchesUptoRow.laid) (((Rows.OpenSpec.upto Rows.directoryMatchesSpec).at F).post enc Tryd.prog Tryd.f4 false true false false) := by
  obtain ⟨places, hx⟩ := dmatch_reads os enc
  refine returnsInHanded_of_row (C := Tryd.checked) (s := Rows.OpenSpec.upto Rows.directoryMatchesSpec) own started (by kernel_rfl) Tryd.func4
    (witness_row_at (enc := enc) (C := Tryd.checked) false (laidWorld os #[]) dmatch_args rfl (by kernel_rfl) (by kernel_rfl) (by kernel_rfl)
      (OpenSpec.preRow_of_cond 8 hx (by kernel_rfl) (fun k hk => by cases hk; kernel_rfl) (by kernel_rfl) (dmatch_met os))) ?_
  intro W base args ds gs before hval hW _ hc _ hL _ _
  exact dmatch_post H enc W base args ds gs before hval hW (hc _ rfl) hL

theorem dmatch_said : Rows.DirectoryMatchesUptoSaid :=
  OpenClaim.holds_of_cond 4 Tryd.f4 rfl rfl rfl rfl rfl rfl rfl ⟨rfl, rfl, rfl, rfl, rfl⟩ rfl rfl rfl rfl rfl (by kernel_rfl) Tryd.func4 (by kernel_rfl)
    (of_decide_eq_true (by kernel_rfl)) (by unfold Func.isWrapper; first | (rw [if_pos (by decide +kernel)]; kernel_rfl) | (rw [if_neg (by decide +kernel)]; exact ⟨rfl, rfl⟩))
    (fun os started H enc _ F => by rw [OpenClaim.pre_eq_preRow]; exact dmatch_lifted os started H enc F)

theorem dmatch_plain (f : FuncId) (fn : Func) (hf : Tryd.pinned.checked.prog.funcNamed "bootchain/bootchainlaw36.DirectoryMatches" = some f) (hfn : Tryd.pinned.checked.prog.funcs[f]? = some fn) :
    false = Tryd.pinned.checked.prog.looks [] ∧ ∀ (j : Nat) t, fn.params[j]? = some t → Tryd.pinned.checked.prog.wantsStandIn t = false := by
  obtain rfl : f = 4 := Option.some.inj ((show Tryd.prog.funcNamed "bootchain/bootchainlaw36.DirectoryMatches" = some 4 by kernel_rfl).symm.trans hf) |>.symm
  obtain rfl : fn = Tryd.f4 := (Option.some.inj (Tryd.func4.symm.trans hfn)).symm
  refine ⟨by kernel_rfl, fun j t ht => ?_⟩
  rw [Tryd.params4] at ht
  have e : t = 27 ∨ t = 34 := by simpa using Array.mem_of_getElem? ht
  rcases e with rfl | rfl
  · exact (show Tryd.prog.wantsStandIn 27 = false by kernel_rfl)
  · exact (show Tryd.prog.wantsStandIn 34 = false by kernel_rfl)

theorem dmatch_proved : Rows.DirectoryMatchesUptoCardSaid :=
  Claim7.holds_tied_plain_at .later [] _ _ _ _ dmatch_said (fun _ h => by cases h) (by kernel_rfl) (fun _ h => by cases h) directoryMatchesUpto_row_tie rfl ⟨rfl, rfl⟩ (by kernel_rfl) rfl dmatch_plain (by kernel_rfl)
end Go.Proofs.YtjapdhaimbalkaaDoor
