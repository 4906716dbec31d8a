/- The statement EvidenceComplete. -/
import Derived.Test.YtgihhhdeoaplhaaDoorBb
import Derived.Test.YtgihhhdeoaplhaaDoorBg
import Derived.Test.YtgihhhdeoaplhaaDoorBj

/- The statement EvidenceComplete, walked. -/
--@u32
--@hgp
--@flat
--@dg
--@ex0
namespace Go.Proofs.YtgihhhdeoaplhaaDoor
set_option linter.unusedSimpArgs false
set_option linter.unusedVariables false
open Go.RowKit Go.Sl

theorem rsl_nilE {α : Type} [Rep α] {S : Snap} : RSl S (.slice none 0 0) ([] : List α) := .inl ⟨none, 0, rfl, rfl, by unfold maxLen; omega⟩

set_option maxRecDepth 8000 in
set_option maxHeartbeats 4000000 in
theorem ecomp_c {S M} (w : World) (hst : St S M w) (hG : Glob S) (m : Dg) (hm : m.l.length = 16) (vl : Value) (log : List Ev) (hl : RSl S vl log) (hlm : log.length ≤ 1048576) (vr : Value) (rv : List (Int × Int)) (hr : RSl S vr rv) (hrm : rv.length ≤ 1048576) :
    Rets Tryd.prog 5 [dgV m, vl, vr] w fun v w' => v = .bool true ∧ St S M w' := by
  unfold Rets
  haveI : LenIs m.l 16 := ⟨hm⟩
  have hl1 := hl.oneCell
  have hr1 := hr.oneCell
  obtain ⟨z, hz⟩ : ∃ z, fewN log = z := ⟨_, rfl⟩
  have cF := fun {S : Snap} {M : List Chunk} (w : World) (hst : St S M w) (hl : RSl S vl log) => (fewN_c w hst vl log hl hlm).eq hz
  cases z with
  | false =>
    go_enter Tryd.func5, Tryd.ntmps5
    repeat' (first | go_skip | (((with_reducible refine Sl.k_call ?_; (first | (refine s_call (esanity_c _ hst hG) inX rfl ?_; clear hst; rintro v w ⟨rfl, hst⟩) | (refine s_call (cF _ hst hl) inX rfl ?_; clear hst; rintro v w ⟨rfl, hst⟩)))) <;> (try refine nY ?_) <;> (try replace hst := nH hst)) | ((fail_if_success (go_big_may)); (go_step)) | (with_reducible refine Sl.gate rfl ?_; (go_step)) | (((((refine s_box hst evX rfl ?_; clear hst; intro bx w hst)))) <;> (try refine nY ?_) <;> (try replace hst := nH hst)))
    go_ret
    exact ⟨_, rfl, rfl, hst.drop⟩
  | true =>
    by_cases h20 : 20 < rv.length
    · go_enter Tryd.func5, Tryd.ntmps5
      repeat' (first | go_skip | (((with_reducible refine Sl.k_guard ?_; (first | (refine Sl.guard_yes rfl ?_) | (refine Sl.guard_cases rfl ?_ ?_ <;> intro hg <;> first | (exfalso; simp only [decide_eq_true_eq, decide_eq_false_iff_not, Bool.not_false, Bool.not_true, beq_iff_eq, beq_eq_false_iff_ne, ne_eq] at hg; omega) | (simp only [hg, Bool.not_true, Bool.not_false])) <;> (try simp only [decide_eq_true_eq, decide_eq_false_iff_not, Bool.not_false, Bool.not_true, beq_iff_eq, beq_eq_false_iff_ne, bne_iff_ne, bne_eq_false_iff_eq, ne_eq] at hg)))) <;> (try refine nY ?_)) | (((with_reducible refine Sl.k_call ?_; (first | (refine s_call (esanity_c _ hst hG) inX rfl ?_; clear hst; rintro v w ⟨rfl, hst⟩) | (refine s_call (cF _ hst hl) inX rfl ?_; clear hst; rintro v w ⟨rfl, hst⟩)))) <;> (try refine nY ?_) <;> (try replace hst := nH hst)) | ((fail_if_success (go_big_may)); (go_step)) | (((with_reducible refine Sl.k_call ?_; (refine s_qt hst (by exact qt_len evX asX inX) ?_))) <;> (try refine nY ?_)) | (with_reducible refine Sl.gate rfl ?_; (go_step)) | (((((refine s_box hst evX rfl ?_; clear hst; intro bx w hst)))) <;> (try refine nY ?_) <;> (try replace hst := nH hst)))
      go_ret
      exact ⟨_, rfl, rfl, hst.drop⟩
    · have hlt : rv.length ≤ 20 := by omega
      obtain ⟨h6, hX⟩ := fewN_of hz
      have hok : ∀ e ∈ log, evOk e := fun e he => (hX e he).ok
      have h6' : log.length ≤ 1000 := by omega
      obtain ⟨y, hy⟩ : ∃ z, validB log = z := ⟨_, rfl⟩
      have cV := fun {S : Snap} {M : List Chunk} (w : World) (hst : St S M w) (hl : RSl S vl log) => (valid_c w hst vl log hl hlm hok).eq hy
      clear hz hX
      cases y with
      | false =>
        go_enter Tryd.func5, Tryd.ntmps5
        repeat' (first | (((with_reducible refine Sl.k_guard ?_; (first | (refine Sl.guard_yes rfl ?_) | (refine Sl.guard_cases rfl ?_ ?_ <;> intro hg <;> first | (exfalso; simp only [decide_eq_true_eq, decide_eq_false_iff_not, Bool.not_false, Bool.not_true, beq_iff_eq, beq_eq_false_iff_ne, ne_eq] at hg; omega) | (simp only [hg, Bool.not_true, Bool.not_false])) <;> (try simp only [decide_eq_true_eq, decide_eq_false_iff_not, Bool.not_false, Bool.not_true, beq_iff_eq, beq_eq_false_iff_ne, bne_iff_ne, bne_eq_false_iff_eq, ne_eq] at hg)))) <;> (try refine nY ?_)) | (((with_reducible refine Sl.k_call ?_; (first | (refine s_call (esanity_c _ hst hG) inX rfl ?_; clear hst; rintro v w ⟨rfl, hst⟩) | (refine s_call (cF _ hst hl) inX rfl ?_; clear hst; rintro v w ⟨rfl, hst⟩) | (refine s_call (cV _ hst hl) inX rfl ?_; clear hst; rintro v w ⟨rfl, hst⟩)))) <;> (try refine nY ?_) <;> (try replace hst := nH hst)) | ((fail_if_success (go_big_may)); (go_step)) | (((with_reducible refine Sl.k_call ?_; (refine s_qt hst (by exact qt_len evX asX inX) ?_))) <;> (try refine nY ?_)) | (with_reducible refine Sl.gate rfl ?_; (go_step)) | (((((refine s_box hst evX rfl ?_; clear hst; intro bx w hst)))) <;> (try refine nY ?_) <;> (try replace hst := nH hst)))
        go_ret
        exact ⟨_, rfl, rfl, hst.drop⟩
      | true =>
        have hval : validP log := of_decide_eq_true hy
        cases hmk : mkF log [] rv with
        | none =>
          have cA := fun {S' : Snap} {M : List Chunk} (w : World) (hS : S.Le S') (hst : St S' M w) => (make_c w hst (hG.mono hS) m hm vl log (hl.mono hS) h6' hok vr rv (hr.mono hS) hrm).mono fun v w' h => make_none h hmk
          clear hmk
          have hnil : RSl S (.slice none 0 0) ([] : List Hd) := rsl_nilE
          go_enter Tryd.func5, Tryd.ntmps5
          repeat' (first | ((first | (with_reducible refine Sl.k_bin ?_; (refine s_qt hst (qt_eql_b rfl rfl (show ((([] : List Hd).length : Int) == 0) = true from rfl)) ?_)) | (with_reducible refine Sl.k_guard ?_; (first | (refine Sl.guard_yes rfl ?_) | (refine Sl.guard_cases rfl ?_ ?_ <;> intro hg <;> first | (exfalso; simp only [decide_eq_true_eq, decide_eq_false_iff_not, Bool.not_false, Bool.not_true, beq_iff_eq, beq_eq_false_iff_ne, ne_eq] at hg; omega) | (simp only [hg, Bool.not_true, Bool.not_false])) <;> (try simp only [decide_eq_true_eq, decide_eq_false_iff_not, Bool.not_false, Bool.not_true, beq_iff_eq, beq_eq_false_iff_ne, bne_iff_ne, bne_eq_false_iff_eq, ne_eq] at hg)))) <;> (try refine nY ?_)) | (((with_reducible refine Sl.k_call ?_; (first | (refine s_call (esanity_c _ hst hG) inX rfl ?_; clear hst; rintro v w ⟨rfl, hst⟩) | (refine s_call (cF _ hst hl) inX rfl ?_; clear hst; rintro v w ⟨rfl, hst⟩) | (refine s_call (cV _ hst hl) inX rfl ?_; clear hst; rintro v w ⟨rfl, hst⟩) | (refine s_call (cA _ (Snap.Le.refl _) hst) inX rfl ?_; clear hst; rintro v w ⟨rfl, hst⟩)))) <;> (try refine nY ?_) <;> (try replace hst := nH hst)) | ((fail_if_success (go_big_may)); (go_step)) | ((first | (with_reducible refine Sl.k_load ?_; (refine s_qt hst (by first | exact qt_loadD evX BoxIn.h inX inX | exact qt_load rfl _ BoxIn.h inX rfl rfl) ?_)) | (with_reducible refine Sl.k_field ?_; (refine s_qt hst (qt_field rfl inX) ?_)) | (with_reducible refine Sl.k_call ?_; (refine s_qt hst (by exact qt_len evX asX inX) ?_))) <;> (try refine nY ?_)) | (with_reducible refine Sl.gate rfl ?_; (go_step)) | ((((first | (with_reducible refine Sl.k_store ?_; (refine s_store hst rfl _ BoxIn.h inX evX rfl lenOk oneOk (by simp) ?_); clear hst; intro w hst) | (refine s_box hst evX rfl ?_; clear hst; intro bx w hst) | (refine s_alloc hst inX ?_; clear hst; intro bk w hst)))) <;> (try refine nY ?_) <;> (try replace hst := nH hst)))
          go_ret
          exact ⟨_, rfl, rfl, hst.drop.drop⟩
        | some ps =>
          have hck : ckF (log.map headM) [] ps = 0 := mk_ck hval rv [] ps hmk
          have cA := fun {S' : Snap} {M : List Chunk} (w : World) (hS : S.Le S') (hst : St S' M w) => (make_c w hst (hG.mono hS) m hm vl log (hl.mono hS) h6' hok vr rv (hr.mono hS) hrm).mono fun v w' h => make_some h hmk
          have cN := fun {S' : Snap} {M : List Chunk} (w : World) (hS : S.Le S') (hst : St S' M w) => (make_c w hst (hG.mono hS) m hm vl log (hl.mono hS) h6' hok (.slice none 0 0) [] rsl_nilE (by simp)).mono fun v w' h => make_some h (ps := []) rfl
          have okA := fun {S : Snap} {cs : List Value} (hR : Rep.R S cs ((m, log.map headM, ps, ()) : Evd)) => mkR_ok (m := m) (rv := rv) h6' hok hrm (S := S) (cs := cs) (by unfold mkR; rw [hmk]; exact hR)
          have okN := fun {S : Snap} {cs : List Value} (hR : Rep.R S cs ((m, log.map headM, [], ()) : Evd)) => mkR_ok (m := m) (rv := []) h6' hok (by simp) (S := S) (cs := cs) (by unfold mkR; exact hR)
          have eA : mkR m log rv = (m, log.map headM, ps, ()) := by unfold mkR; rw [hmk]
          have eN : mkR m log [] = (m, log.map headM, [], ()) := rfl
          rw [eA] at okA
          rw [eN] at okN
          clear hmk eA eN
          go_enter Tryd.func5, Tryd.ntmps5
          repeat' ((fail_if_success (with_reducible show Code.wp _ (Code.region 5 _ _) _ _ _)); first | (((with_reducible refine Sl.k_guard ?_; (first | (refine Sl.guard_yes rfl ?_) | (refine Sl.guard_cases rfl ?_ ?_ <;> intro hg <;> first | (exfalso; simp only [decide_eq_true_eq, decide_eq_false_iff_not, Bool.not_false, Bool.not_true, beq_iff_eq, beq_eq_false_iff_ne, ne_eq] at hg; omega) | (simp only [hg, Bool.not_true, Bool.not_false])) <;> (try simp only [decide_eq_true_eq, decide_eq_false_iff_not, Bool.not_false, Bool.not_true, beq_iff_eq, beq_eq_false_iff_ne, bne_iff_ne, bne_eq_false_iff_eq, ne_eq] at hg)))) <;> (try refine nY ?_)) | (((with_reducible refine Sl.k_call ?_; (first | (refine s_call (esanity_c _ hst hG) inX rfl ?_; clear hst; rintro v w ⟨rfl, hst⟩) | (refine s_call (cF _ hst hl) inX rfl ?_; clear hst; rintro v w ⟨rfl, hst⟩) | (refine s_call (cV _ hst hl) inX rfl ?_; clear hst; rintro v w ⟨rfl, hst⟩) | (refine s_call (cA _ (Snap.Le.refl _) hst) inX rfl ?_; clear hst; rintro v w ⟨S1, c1, hS1, rfl, hR1, hst⟩)))) <;> (try refine nY ?_) <;> (try replace hst := nH hst)) | ((fail_if_success (go_big_may)); (go_step)) | ((first | (with_reducible refine Sl.k_load ?_; (refine s_qt hst (by exact qt_loadD evX BoxIn.h inX inX) ?_)) | (with_reducible refine Sl.k_call ?_; (refine s_qt hst (by exact qt_len evX asX inX) ?_))) <;> (try refine nY ?_)) | (with_reducible refine Sl.gate rfl ?_; (go_step)) | ((((first | (refine s_box hst evX rfl ?_; clear hst; intro bx w hst) | (refine s_alloc hst inX ?_; clear hst; intro bk w hst)))) <;> (try refine nY ?_) <;> (try replace hst := nH hst)))
          refine s_stW0 hst rfl BoxIn.h inX (x0 := ((m, log.map headM, ps, ()) : Evd)) (cs := c1) evX hR1 rfl ?_
          clear hst; intro w hst
          (try refine nY ?_)
          (try replace hst := nH hst)
          repeat' ((fail_if_success (with_reducible show Code.wp _ (Code.region 8 _ _) _ _ _)); first | (((with_reducible refine Sl.k_call ?_; ((refine s_call (cN _ hS1 hst) inX rfl ?_; clear hst; rintro v w ⟨S2, c2, hS2, rfl, hR2, hst⟩)))) <;> (try refine nY ?_) <;> (try replace hst := nH hst)) | ((fail_if_success (go_big_may)); (go_step)) | (((with_reducible refine Sl.k_load ?_; (refine s_qt hst (by exact qt_loadD evX BoxIn.h inX inX) ?_))) <;> (try refine nY ?_)) | (with_reducible refine Sl.gate rfl ?_; (go_step)) | (((((refine s_alloc hst inX ?_; clear hst; intro bk w hst)))) <;> (try refine nY ?_) <;> (try replace hst := nH hst)))
          refine s_stW0 hst rfl BoxIn.h inX (x0 := ((m, log.map headM, [], ()) : Evd)) (cs := c2) evX hR2 rfl ?_
          clear hst; intro w hst
          (try refine nY ?_)
          (try replace hst := nH hst)
          repeat' ((fail_if_success (with_reducible show Code.wp _ (Code.region 8 _ _) _ _ _)); ((fail_if_success (go_big_may)); (go_step)))
          have hst0 := hst
          clear hst
          obtain ⟨S3, hS3, hst, hpn⟩ := pt_box (α := Evd) hst0 hR2 (Rep.len hR2)
          clear hst0
          have hst0 := hst
          clear hst
          obtain ⟨S4, hS4, hst, hpe⟩ := pt_box (α := Evd) hst0 (Rep.mono (hS2.trans hS3) hR1) (Rep.len hR1)
          clear hst0
          replace hpn := hpn.mono hS4
          have hle := ((hS1.trans hS2).trans hS3).trans hS4
          have okA := okA hR1
          have okN := okN hR2
          replace hG := hG.mono hle
          replace hl := hl.mono hle
          have okG := regE_ok m (log.map headM)
          have cC := fun {S' : Snap} {M : List Chunk} (w : World) (hS : S4.Le S') (hst : St S' M w) (cs : List Value) (hR : Rep.R S4 cs ((m, log.map headM, ps, ()) : Evd)) => (check_c w hst (hG.mono hS) cs _ (Rep.mono hS hR) okA).mono fun v w' h => (show v = .int .i64 0 ∧ St S' M w' by rw [hck] at h; exact h)
          have cA' := fun {S' : Snap} {M : List Chunk} (w : World) (hS : S4.Le S') (hst : St S' M w) (cs : List Value) (hR : Rep.R S4 cs ((m, log.map headM, ps, ()) : Evd)) => registers_c w hst (hG.mono hS) cs _ (Rep.mono hS hR) hm (fun h hh => (okA.hd h hh).1) okA.nh
          have cN' := fun {S' : Snap} {M : List Chunk} (w : World) (hS : S4.Le S') (hst : St S' M w) (cs : List Value) (hR : Rep.R S4 cs ((m, log.map headM, [], ()) : Evd)) => registers_c w hst (hG.mono hS) cs _ (Rep.mono hS hR) hm (fun h hh => (okN.hd h hh).1) okN.nh
          have cL := fun {S' : Snap} {M : List Chunk} (w : World) (hS : S4.Le S') (hst : St S' M w) => fold_c w hst (hG.mono hS) m hm vl log (hl.mono hS) h6' hok
          rw [← regE_log] at cL
          dsimp only at cA' cN'
          generalize regE m (log.map headM) = G at *
          refine v_begin hst (by kernel_rfl) ?_; clear hst; intro ops; (try refine nY ?_)
          (refine t_qt 0 rfl (by kernel_rfl) rfl rfl (by exact qt_move evX) ?_) <;> (try refine nY ?_)
          (refine t_qt 1 rfl (by kernel_rfl) rfl rfl (by exact qt_move evX) ?_) <;> (try refine nY ?_)
          (refine t_qt 2 rfl (by kernel_rfl) rfl rfl (by exact qt_move evX) ?_) <;> (try refine nY ?_)
          ((refine t_qt 3 rfl (by kernel_rfl) rfl rfl (qt_eql_b rfl rfl (show ((0 : Int) == 0) = true from rfl)) ?_)) <;> (try refine nY ?_)
          (refine t_qt 4 rfl (by kernel_rfl) rfl rfl (by exact qt_pick_t rfl evX) ?_) <;> (try refine nY ?_)
          (refine t_qt 5 rfl (by kernel_rfl) rfl rfl (by exact qt_move evX) ?_) <;> (try refine nY ?_)
          (((refine t_ex0 6 rfl (by kernel_rfl) rfl rfl (qt_ldp evX hpe inX ) ?_; rintro  v6 ⟨cl6, rfl, hcl6⟩))) <;> (try refine nY ?_)
          ((refine t_call 7 rfl (by kernel_rfl) rfl (fun S' M' w hS hM hst => cC w hS hst cl6 hcl6) inX rfl ?_)) <;> (try refine nY ?_)
          ((refine t_qt 8 rfl (by kernel_rfl) rfl rfl (qt_eql_b rfl rfl (show ((0 : Int) == 0) = true from rfl)) ?_)) <;> (try refine nY ?_)
          (refine t_qt 9 rfl (by kernel_rfl) rfl rfl (by exact qt_pick_t rfl evX) ?_) <;> (try refine nY ?_)
          (refine t_qt 10 rfl (by kernel_rfl) rfl rfl (by exact qt_move evX) ?_) <;> (try refine nY ?_)
          (((refine t_ex0 11 rfl (by kernel_rfl) rfl rfl (qt_ldp evX hpe inX ) ?_; rintro  v11 ⟨cl11, rfl, hcl11⟩))) <;> (try refine nY ?_)
          ((refine t_call 12 rfl (by kernel_rfl) rfl (fun S' M' w hS hM hst => cA' w hS hst cl11 hcl11) inX rfl ?_)) <;> (try refine nY ?_)
          (refine t_qt 13 rfl (by kernel_rfl) rfl rfl (by exact qt_loadD evX BoxIn.h inX inX) ?_) <;> (try refine nY ?_)
          (refine t_qt 14 rfl (by kernel_rfl) rfl rfl (by exact qt_move evX) ?_) <;> (try refine nY ?_)
          ((refine t_call 15 rfl (by kernel_rfl) rfl (fun S' M' w hS hM hst => cL w hS hst) inX rfl ?_)) <;> (try refine nY ?_)
          ((refine t_qt 16 rfl (by kernel_rfl) rfl rfl (qt_eqlK_b rfl rfl (r_rg okG) (r_rg okG) inX inX inferInstance (decide_eq_true rfl)) ?_)) <;> (try refine nY ?_)
          (refine t_qt 17 rfl (by kernel_rfl) rfl rfl (by exact qt_pick_t rfl evX) ?_) <;> (try refine nY ?_)
          (refine t_qt 18 rfl (by kernel_rfl) rfl rfl (by exact qt_move evX) ?_) <;> (try refine nY ?_)
          (((refine t_ex0 19 rfl (by kernel_rfl) rfl rfl (qt_ldp evX hpn inX ) ?_; rintro  v19 ⟨cl19, rfl, hcl19⟩))) <;> (try refine nY ?_)
          ((refine t_call 20 rfl (by kernel_rfl) rfl (fun S' M' w hS hM hst => cN' w hS hst cl19 hcl19) inX rfl ?_)) <;> (try refine nY ?_)
          (((refine t_ex0 21 rfl (by kernel_rfl) rfl rfl (qt_ldp evX hpe inX ) ?_; rintro  v21 ⟨cl21, rfl, hcl21⟩))) <;> (try refine nY ?_)
          ((refine t_call 22 rfl (by kernel_rfl) rfl (fun S' M' w hS hM hst => cA' w hS hst cl21 hcl21) inX rfl ?_)) <;> (try refine nY ?_)
          ((refine t_qt 23 rfl (by kernel_rfl) rfl rfl (qt_eqlK_b rfl rfl (r_rg okG) (r_rg okG) inX inX inferInstance (decide_eq_true rfl)) ?_)) <;> (try refine nY ?_)
          (refine t_qt 24 rfl (by kernel_rfl) rfl rfl (by exact qt_pick_t rfl evX) ?_) <;> (try refine nY ?_)
          (refine t_qt 25 rfl (by kernel_rfl) rfl rfl (by exact qt_assign evX) ?_) <;> (try refine nY ?_)
          refine v_done (by kernel_rfl) ?_; clear ops; intro w hst
          repeat' (((fail_if_success (go_big_may)); (go_step)))
          go_ret
          exact ⟨_, rfl, rfl, St.weaken hle hst.drop⟩
end Go.Proofs.YtgihhhdeoaplhaaDoor

/- The statement EvidenceComplete. -/
namespace Go.Proofs.YtgihhhdeoaplhaaDoor
set_option linter.unusedSimpArgs false
set_option linter.unusedVariables false
open Go.RowKit Go.Sl Go.ChangeShapes Go.WideShapes Go.ChangeAt

set_option maxRecDepth 20000 in
theorem ecomp_post (H : Type) (enc : TypeId × Value → H) (W : World) (base : Nat) (args : Array Value) (ds gs : List (DataW H)) (before : List MemPlace)
    (hval : ∀ (j : Nat) t v, Tryd.f5.params[j]? = some t → args[j]? = some v → Value.okWide Tryd.prog W .any base t v)
    (hW : DataW.Whole enc Tryd.prog Tryd.f5.params.toList Rows.evidenceCompleteSpec.vars false W args.toList ds gs before) (hk : Rows.uptoSmall H (ds ++ gs) = true) (hL : laidMetH Tryd.prog Rows.evidenceCompleteUptoRow.laid W) :
    Calls Tryd.prog 5 args W fun e W' => ∃ v, e = .returned v ∧ Rows.evidenceCompleteSpec.post enc Tryd.prog Tryd.f5 false true false false W args v W' := by
  have hW' := hW
  obtain ⟨p, q, hA0, hV, rfl, hfz, hnd⟩ := hW
  have hA : DataW.TrodAll enc Tryd.prog W 0 (fun _ => true) true Tryd.f5.params.toList args.toList ds p := hA0
  have hk := small_all hk
  rw [Tryd.params5] at hA hval
  obtain ⟨v0, vs0, d0, ds0, p0, q0, hargs, rfl, rfl, h0, r0⟩ := trodAll_cons hA
  obtain ⟨v1, vs1, d1, ds1, p1, q1, rfl, rfl, rfl, h1, r1⟩ := trodAll_cons r0
  obtain ⟨v2, vs2, d2, ds2, p2, q2, rfl, rfl, rfl, h2, r2⟩ := trodAll_cons r1
  obtain ⟨rfl, rfl, rfl⟩ := trodAll_nil r2
  obtain rfl : args = #[v0, v1, v2] := by cases args; simp_all
  obtain ⟨rfl, rfl⟩ := trodVars_none hV
  simp only [List.append_nil, Rows.uptoBulkAll] at hk
  obtain ⟨d0, rfl, hd0⟩ := open_dg (hval 0 23 v0 rfl rfl) h0
  obtain ⟨l1, hl1, hm1⟩ := open_evs (hval 1 24 v1 rfl rfl) h1 (by omega)
  obtain ⟨l2, hl2, hm2⟩ := open_prs (hval 2 25 v2 rfl rfl) h2 (by omega)
  refine Calls.mono (ecomp_c W (St.start W) (glob_of hL) d0 hd0 v1 l1 hl1 hm1 v2 l2 hl2 hm2) fun e W' ⟨v, he, hv, hst⟩ => ?_
  subst hv
  exact ⟨_, he, law_post (tb := 4) rfl hW' (by kernel_rfl) (by rw [Tryd.params5]; intro t ht'; have e : t = 23 ∨ t = 24 ∨ t = 25 := (by simpa using ht'); rcases e with rfl | rfl | rfl <;> exact ⟨by kernel_rfl, of_decide_eq_true (by kernel_rfl)⟩) (by kernel_rfl) (by kernel_rfl) rfl rfl rfl hst.below⟩

abbrev ecomp_args : Array Value := #[.agg #[.int .u8 0, .int .u8 0, .int .u8 0, .int .u8 0, .int .u8 0, .int .u8 0, .int .u8 0, .int .u8 0, .int .u8 0, .int .u8 0, .int .u8 0, .int .u8 0, .int .u8 0, .int .u8 0, .int .u8 0, .int .u8 0], .slice none 0 0, .slice none 0 0]
theorem ecomp_met (os : Os) : laidMet Tryd.prog Rows.evidenceCompleteUptoRow.laid ((laidWorld os #[]).forCall (fun _ _ => 0) ⟨#[], ecomp_args, []⟩).memory :=
  laidMet_of_run' 8 (by kernel_rfl) (by kernel_rfl)
theorem ecomp_reads (os : Os) {H : Type} (enc : TypeId × Value → H) : ∃ places, DataW.whole enc Tryd.prog ((laidWorld os #[]).forCall (fun _ _ => 0) ⟨#[], ecomp_args, []⟩).memory Tryd.f5.params.toList Rows.evidenceCompleteSpec.vars false ecomp_args.toList 8 = some ([.agg [.lit (.int .u8 0), .lit (.int .u8 0), .lit (.int .u8 0), .lit (.int .u8 0), .lit (.int .u8 0), .lit (.int .u8 0), .lit (.int .u8 0), .lit (.int .u8 0), .lit (.int .u8 0), .lit (.int .u8 0), .lit (.int .u8 0), .lit (.int .u8 0), .lit (.int .u8 0), .lit (.int .u8 0), .lit (.int .u8 0), .lit (.int .u8 0)], .nil, .nil], [], places) :=
  ⟨[], by kernel_rfl⟩

set_option maxRecDepth 100000 in
theorem ecomp_lifted (os : Os) (started : os.Started) (H : Type) (enc : TypeId × Value → H) (F : Stop.Interp) :
    ReturnsInHanded {} Tryd.checked os 5 .any ((Rows.OpenSpec.upto Rows.evidenceCompleteSpec).preRow enc Tryd.prog Tryd.f5 Rows.evidenceCompleteUptoRow.domain false Rows.evidenceCompleteUptoRow.laid) (((Rows.OpenSpec.upto Rows.evidenceCompleteSpec).at F).post enc Tryd.prog Tryd.f5 false true false false) := by
  obtain ⟨places, hx⟩ := ecomp_reads os enc
  refine returnsInHanded_of_row (C := Tryd.checked) (s := Rows.OpenSpec.upto Rows.evidenceCompleteSpec) own started (by kernel_rfl) Tryd.func5
    (witness_row_at (enc := enc) (C := Tryd.checked) false (laidWorld os #[]) ecomp_args rfl (by kernel_rfl) (by kernel_rfl) (by kernel_rfl)
      (OpenSpec.preRow_of_cond 8 hx (by kernel_rfl) (fun k hk => by cases hk; kernel_rfl) (by kernel_rfl) (ecomp_met os))) ?_
  intro W base args ds gs before hval hW _ hc _ hL _ _
  exact ecomp_post H enc W base args ds gs before hval hW (hc _ rfl) hL

theorem ecomp_said : Rows.EvidenceCompleteUptoSaid :=
  OpenClaim.holds_of_cond 5 Tryd.f5 rfl rfl rfl rfl rfl rfl rfl ⟨rfl, rfl, rfl, rfl, rfl⟩ rfl rfl rfl rfl rfl (by kernel_rfl) Tryd.func5 (by kernel_rfl)
    (of_decide_eq_true (by kernel_rfl)) (by unfold Func.isWrapper; first | (rw [if_pos (by decide +kernel)]; kernel_rfl) | (rw [if_neg (by decide +kernel)]; exact ⟨rfl, rfl⟩))
    (fun os started H enc _ F => by rw [OpenClaim.pre_eq_preRow]; exact ecomp_lifted os started H enc F)

theorem ecomp_plain (f : FuncId) (fn : Func) (hf : Tryd.pinned.checked.prog.funcNamed "bootchain/bootchainlaw21.EvidenceComplete" = some f) (hfn : Tryd.pinned.checked.prog.funcs[f]? = some fn) :
    false = Tryd.pinned.checked.prog.looks [] ∧ ∀ (j : Nat) t, fn.params[j]? = some t → Tryd.pinned.checked.prog.wantsStandIn t = false := by
  obtain rfl : f = 5 := Option.some.inj ((show Tryd.prog.funcNamed "bootchain/bootchainlaw21.EvidenceComplete" = some 5 by kernel_rfl).symm.trans hf) |>.symm
  obtain rfl : fn = Tryd.f5 := (Option.some.inj (Tryd.func5.symm.trans hfn)).symm
  refine ⟨by kernel_rfl, fun j t ht => ?_⟩
  rw [Tryd.params5] at ht
  have e : t = 23 ∨ t = 24 ∨ t = 25 := by simpa using Array.mem_of_getElem? ht
  rcases e with rfl | rfl | rfl
  · exact (show Tryd.prog.wantsStandIn 23 = false by kernel_rfl)
  · exact (show Tryd.prog.wantsStandIn 24 = false by kernel_rfl)
  · exact (show Tryd.prog.wantsStandIn 25 = false by kernel_rfl)

theorem ecomp_proved : Rows.EvidenceCompleteUptoCardSaid :=
  Claim7.holds_tied_plain_at .later [] _ _ _ _ ecomp_said (fun _ h => by cases h) (by kernel_rfl) (fun _ h => by cases h) evidenceCompleteUpto_row_tie rfl ⟨rfl, rfl⟩ (by kernel_rfl) rfl ecomp_plain (by kernel_rfl)
end Go.Proofs.YtgihhhdeoaplhaaDoor
