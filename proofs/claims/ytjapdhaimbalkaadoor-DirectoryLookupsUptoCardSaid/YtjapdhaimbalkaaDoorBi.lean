/- The reference's SHA-256, Merkle roots, manifests and facts, walked. -/
import Derived.Test.YtjapdhaimbalkaaDoorBb
import Derived.Test.YtjapdhaimbalkaaDoorBg
import Derived.Test.YtjapdhaimbalkaaDoorBc
import Derived.Test.YtjapdhaimbalkaaDoorBd
import Derived.Test.YtjapdhaimbalkaaDoorBe
import Derived.Test.YtjapdhaimbalkaaDoorBh

/- Package directory: the image listed, walked. -/
--@hgp
--@flat
--@dg
--@ex0
namespace Go.Proofs.YtjapdhaimbalkaaDoor
set_option linter.unusedSimpArgs false
set_option linter.unusedVariables false
open Go.RowKit Go.Sl Go.Srt

def zeroMF : MF := (0, 0, 0, [], ())
theorem zero_mf {S : Snap} : Rep.R S [.int .i64 0, .int .i64 0, .int .i64 0, .slice none 0 0] zeroMF :=
  prod_mk (cs := [_]) ⟨rfl, by unfold I64; omega⟩ (prod_mk (cs := [_]) ⟨rfl, by unfold I64; omega⟩ (prod_mk (cs := [_]) ⟨rfl, by unfold I64; omega⟩ (prod_mk (cs := [_]) ⟨_, rfl, .inl ⟨none, 0, rfl, rfl, by simp [maxLen]⟩⟩ unit_mk)))
theorem list4 {l : List Value} (h : l.length = 4) : ∃ a b c d, l = [a, b, c, d] := by
  match l, h with
  | [a, b, c, d], _ => exact ⟨a, b, c, d, rfl⟩

set_option maxRecDepth 8000 in
set_option maxHeartbeats 1000000 in
theorem img1_c {S M} (w : World) (hst : St S M w) (hG : Glob S) (cs : List Value) (f : Fa) (hR : Rep.R S cs f) (ok : FaOk f) (pd : Value) (d : Dg) (hpd : Pt S pd d) (hd : d.l.length = 16) :
    Rets Tryd.prog 65 [.agg cs.toArray, pd] w fun v w' => v = .bool (decide (mdP f.2.2.1 = d)) ∧ St S M w' := by
  unfold Rets
  have ht := ok.ml
  obtain ⟨y, gy⟩ : ∃ y, decide (mdP f.2.2.1 = d) = y := ⟨_, rfl⟩
  rw [gy]
  go_enter Tryd.func65, Tryd.ntmps65
  repeat' ((fail_if_success (with_reducible show Code.wp _ (Code.region 1 _ _) _ _ _)); first | ((fail_if_success (go_big_may)); (go_step)) | (((((refine s_box hst evX rfl ?_; clear hst; intro bx w hst)))) <;> (try refine nX ?_) <;> (try replace hst := nH hst)))
  obtain ⟨S1, hS1, hst, hpe⟩ := pt_box (α := Fa) hst hR (Rep.len hR)
  replace hpd := hpd.mono hS1
  have cS := fun {S' : Snap} {M : List Chunk} (w : World) (hS : S1.Le S') (hst : St S' M w) (cm : List Value) (hcm : Rep.R S1 cm f.2.2.1) => mdig_c w hst ((hG.mono hS1).mono hS) cm f.2.2.1 (Rep.mono hS hcm) (by omega)
  refine v_begin hst (by kernel_rfl) ?_; clear hst; intro ops; (try refine nX ?_)
  ((refine t_ex0 0 rfl (by kernel_rfl) rfl rfl (qt_fieldp evX hpe inX inX rfl ) ?_; rintro  v0 hp0)) <;> (try refine nX ?_)
  ((refine t_ex0 1 rfl (by kernel_rfl) rfl rfl (qt_ldp (y := f.2.2.1) evX hp0 inX ) ?_; rintro  v1 ⟨cm, rfl, hcm⟩)) <;> (try refine nX ?_)
  (refine t_call 2 rfl (by kernel_rfl) rfl (fun S' M' w hS hM hst => cS w hS hst cm hcm) inX rfl ?_) <;> (try refine nX ?_)
  (refine t_qt 3 rfl (by kernel_rfl) rfl rfl (qt_ldp_flat (y := d) evX hpd inX inX rfl) ?_) <;> (try refine nX ?_)
  (refine t_qt 4 rfl (by kernel_rfl) rfl rfl (qt_eqlK_b rfl rfl (r_dgd (mdP_len f.2.2.1)) (r_dgd hd) inX inX inferInstance gy) ?_) <;> (try refine nX ?_)
  (refine t_qt 5 rfl (by kernel_rfl) rfl rfl (by exact qt_assign evX) ?_) <;> (try refine nX ?_)
  refine v_done (by kernel_rfl) ?_; clear ops; intro w hst
  all_goals
    repeat' (((fail_if_success (go_big_may)); (go_step)))
    refine bodyPost_ret (results_tmp rfl _ _ _) rfl ?_
    exact ⟨_, rfl, rfl, St.weaken hS1 hst⟩

set_option maxRecDepth 8000 in
theorem img2_c {S M} (w : World) (hst : St S M w) (cs : List Value) (f : Fa) (hR : Rep.R S cs f) :
    Rets Tryd.prog 66 [.agg cs.toArray] w fun v w' => ∃ c2, v = .agg c2.toArray ∧ Rep.R S c2 f.2.2.1 ∧ St S M w' := by
  unfold Rets
  obtain ⟨a0, a1, a2, a3, a4, a5, a6, a7, a8, a9, a10, a11, a12, a13, a14, a15, a16, a17, a18, a19, a20, a21, rfl⟩ := list22 (Rep.len hR)
  have hm : Rep.R S [a2, a3, a4, a5] f.2.2.1 := hR.2.2.2.2.2.1
  go_enter Tryd.func66, Tryd.ntmps66
  repeat' (first | ((fail_if_success (go_big_may)); (go_step)) | ((first | (with_reducible refine Sl.k_load ?_; (refine s_qt hst (by exact qt_load rfl _ BoxIn.h inX rfl rfl) ?_)) | (with_reducible refine Sl.k_field ?_; (refine s_qt hst (qt_field rfl inX) ?_))) <;> (try refine nX ?_)) | ((((first | (refine s_box hst evX rfl ?_; clear hst; intro bx w hst) | (refine s_alloc hst inX ?_; clear hst; intro bk w hst)))) <;> (try refine nX ?_) <;> (try replace hst := nH hst)))
  refine s_stW0 hst rfl BoxIn.h inX rfl hm rfl ?_
  clear hst; intro w hst
  (try refine nX ?_)
  (try replace hst := nH hst)
  repeat' (((fail_if_success (go_big_may)); (go_step)))
  exact ret_cell rfl hst rfl _ BoxIn.h inX (cs := [a2, a3, a4, a5]) rfl rfl ⟨_, rfl, _, rfl, hm, hst.drop.drop⟩

set_option maxRecDepth 8000 in
set_option maxHeartbeats 2000000 in
theorem findm_c {S M} (w : World) (hst : St S M w) (u1 : Value) (a : List Fa) (h1 : RSl S u1 a) (oa : ∀ f ∈ a, FaOk f) (hn : a.length ≤ 90000) (kind : Int)
    (g : FuncId) (hg : Body Tryd.prog g) (ca : List Value) (p : Fa → Bool) (hp : ∀ (S' : Snap) (M' : List Chunk) (w : World) (cs : List Value) (f : Fa), S.Le S' → FaOk f → Rep.R S' cs f → St S' M' w → Rets Tryd.prog g (.agg cs.toArray :: ca) w fun v w' => v = .bool (p f) ∧ St S' M' w')
    (g2 : FuncId) (hg2 : Body Tryd.prog g2) (r : Fa → MF) (hr : ∀ (S' : Snap) (M' : List Chunk) (w : World) (cs : List Value) (f : Fa), S.Le S' → FaOk f → Rep.R S' cs f → St S' M' w → Rets Tryd.prog g2 [.agg cs.toArray] w fun v w' => ∃ c2, v = .agg c2.toArray ∧ Rep.R S' c2 (r f) ∧ St S' M' w') :
    Rets Tryd.prog 64 [.agg [u1].toArray, .int .i64 kind, .func (.func g) #[] ca.toArray, .func (.func g2) #[] #[]] w fun v w' => ∃ S' cs, S.Le S' ∧ v = .tuple #[.agg cs.toArray, .bool (findV (nrm a) kind p r zeroMF).2] ∧ Rep.R S' cs (findV (nrm a) kind p r zeroMF).1 ∧ St S' M w' := by
  unfold Rets
  have k1 := h1.oneCell
  have hnl := nrm_len (fs := a)
  have hnk := nrm_ok oa
  obtain ⟨F, hF⟩ : ∃ F, nrm a = F := ⟨_, rfl⟩
  rw [hF] at hnl hnk ⊢
  have HF := Lib.hid hF
  have Hp := Lib.hid hp
  have Hr := Lib.hid hr
  clear hF hp hr
  go_enter Tryd.func64, Tryd.ntmps64
  repeat' (first | ((fail_if_success (go_big_may)); (go_step)) | ((first | (with_reducible refine Sl.k_load ?_; (refine s_qt hst (by exact qt_load rfl _ BoxIn.h inX rfl rfl) ?_)) | (with_reducible refine Sl.k_field ?_; (refine s_qt hst (qt_field rfl inX) ?_))) <;> (try refine nX ?_)) | ((((first | (refine s_box hst evX rfl ?_; clear hst; intro bx w hst) | (refine s_alloc hst inX ?_; clear hst; intro bk w hst)))) <;> (try refine nX ?_) <;> (try replace hst := nH hst)))
  rename Nat => b0
  refine s_lit (vs := [u1]) (cs := [u1]) hst inX inX rfl rfl (by simp [cells_size1 k1]) (by simp [cells_one k1]) (by omega) (by omega) ?_
  clear hst; intro x w hst
  (try refine nX ?_)
  (try replace hst := nH hst)
  obtain ⟨S1, hS1, hst, hx⟩ := lit_one h1 hst
  repeat' (first | (((with_reducible (refine s_qt hst (qt_dir rfl) ?_))) <;> (try refine nX ?_)) | (((with_reducible refine Sl.k_call ?_; ((refine s_call (normal1_c _ hst x a F hx oa hn HF.out) inX rfl ?_; clear hst; rintro v w ⟨S2, u, hS2, rfl, hu, hst⟩)))) <;> (try refine nX ?_) <;> (try replace hst := nH hst)) | ((fail_if_success (go_big_may)); (go_step)) | (((with_reducible refine Sl.k_call ?_; (refine s_qt hst (by exact qt_len evX asX inX) ?_))) <;> (try refine nX ?_)))
  have hle := hS1.trans hS2
  go_loopw [19] (fun v wr => ∃ k : Nat, k ≤ F.length ∧ v = .int .i64 k ∧ Hid (∀ f ∈ F.take k, (f.1 == kind && p f) = false) ∧ St S2 (.box b0 [.int .i64 0, .int .i64 0, .int .i64 0, .slice none 0 0] 30 :: .box bx [u1] 27 :: M) wr) (fun v _ => F.length - (intOf v).toNat)
  case atStart => exact ⟨0, Nat.zero_le _, rfl, Lib.hid (by simp), hst⟩
  case round =>
    clear hst
    obtain ⟨k, hk, rfl, hno, hst⟩ := hrel
    by_cases hlt : k < F.length
    · have okf : FaOk F[k] := hnk _ (List.getElem_mem hlt)
      have hfi := fun h => findV_some (r := r) (z := zeroMF) hlt hno.out h
      have hnx := fun h => find_next (F := F) (k := k) (kind := kind) (p := p) hlt hno.out h
      have HFi := Lib.hid hfi
      have HNx := Lib.hid hnx
      clear hfi hnx
      repeat' ((fail_if_success (with_reducible show Code.wp _ (Code.region 4 _ _) _ _ _)); first | ((first | (with_reducible (refine Sl.k_index ?_; refine s_ex hst (qt_index evX hu rfl inX inX omX omX) ?_; rintro v21 hp21; simp only [Int.toNat_natCast] at hp21)) | (with_reducible (refine Sl.k_load ?_; refine s_ex hst (qt_ldp (y := F[k]) evX hp21 inX) ?_; rintro v22 ⟨cf, rfl, hcf⟩))) <;> (try refine nX ?_)) | ((fail_if_success (go_big_may)); (go_step)) | (with_reducible refine Sl.gate rfl ?_; (go_step)) | ((((first | (with_reducible refine Sl.k_store ?_; (refine s_stR hst rfl BoxIn.h evX asX inX rfl rfl ?_); clear hst; intro w hst) | (refine s_alloc hst inX ?_; clear hst; intro bk w hst)))) <;> (try refine nX ?_) <;> (try replace hst := nH hst)))
      have cP := fun {M : List Chunk} (w : World) (hst : St S2 M w) => Hp.out S2 _ w cf F[k] hle okf hcf hst
      have cR := fun {M : List Chunk} (w : World) (hst : St S2 M w) => Hr.out S2 _ w cf F[k] hle okf hcf hst
      generalize F[k] = f at *
      obtain ⟨b1, e1⟩ : ∃ b, (f.1 == kind) = b := ⟨_, rfl⟩
      obtain ⟨b2, e2⟩ : ∃ b, p f = b := ⟨_, rfl⟩
      have E1 := Lib.hid e1
      have E2 := Lib.hid e2
      rw [e2] at cP
      cases b1 with
      | false =>
        have hq := Lib.hid (HNx.out (by rw [E1.out]; rfl))
        repeat' (first | ((first | (with_reducible (refine Sl.k_load ?_; with_unfolding_all refine s_qt hst (qt_load (cs := [.int .i64 f.1]) rfl _ BoxIn.h inX (tk_fa hcf) rfl) ?_)) | (with_reducible refine Sl.k_bin ?_; (refine s_qt hst (qt_eql_b rfl rfl e1) ?_)) | (with_reducible refine Sl.k_guard ?_; ((refine Sl.guard_no rfl ?_)))) <;> (try refine nX ?_)) | ((fail_if_success (go_big_may)); (go_step)) | (((with_reducible refine Sl.k_field ?_; (refine s_qt hst (qt_field rfl inX) ?_))) <;> (try refine nX ?_)) | (with_reducible refine Sl.gate rfl ?_; (go_step)))
        go_roundw
        case rel => exact ⟨k + 1, by omega, by go_num, hq, hst.drop⟩
        case measure => simp [intOf]; omega
      | true =>
        cases b2 with
        | false =>
          have hq := Lib.hid (HNx.out (by rw [E1.out, E2.out]; rfl))
          repeat' (first | ((first | (with_reducible (refine Sl.k_load ?_; with_unfolding_all refine s_qt hst (qt_loadF (x0 := f) rfl BoxIn.h hcf inX) ?_)) | (with_reducible (refine Sl.k_load ?_; with_unfolding_all refine s_qt hst (qt_load (cs := [.int .i64 f.1]) rfl _ BoxIn.h inX (tk_fa hcf) rfl) ?_)) | (with_reducible refine Sl.k_bin ?_; (refine s_qt hst (qt_eql_b rfl rfl e1) ?_)) | (with_reducible refine Sl.k_guard ?_; ((refine Sl.guard_yes rfl ?_)))) <;> (try refine nX ?_)) | (((with_reducible refine Sl.k_call ?_; ((refine s_callv (cP _ hst) rfl inX rfl rfl ?_; clear hst; rintro v w ⟨rfl, hst⟩)))) <;> (try refine nX ?_) <;> (try replace hst := nH hst)) | ((fail_if_success (go_big_may)); (go_step)) | (((with_reducible refine Sl.k_field ?_; (refine s_qt hst (qt_field rfl inX) ?_))) <;> (try refine nX ?_)) | (with_reducible refine Sl.gate rfl ?_; (go_step)))
          go_roundw
          case rel => exact ⟨k + 1, by omega, by go_num, hq, hst.drop⟩
          case measure => simp [intOf]; omega
        | true =>
          have hq := HFi.out (by rw [E1.out, E2.out]; rfl)
          repeat' (first | ((first | (with_reducible (refine Sl.k_load ?_; with_unfolding_all refine s_qt hst (qt_loadF (x0 := f) rfl BoxIn.h hcf inX) ?_)) | (with_reducible (refine Sl.k_load ?_; with_unfolding_all refine s_qt hst (qt_load (cs := [.int .i64 f.1]) rfl _ BoxIn.h inX (tk_fa hcf) rfl) ?_)) | (with_reducible (refine s_callv (cR _ hst) rfl inX rfl rfl ?_; clear hst; rintro v w ⟨c2, rfl, hc2, hst⟩)) | (with_reducible refine Sl.k_bin ?_; (refine s_qt hst (qt_eql_b rfl rfl e1) ?_)) | (with_reducible refine Sl.k_guard ?_; ((refine Sl.guard_yes rfl ?_)))) <;> (try refine nX ?_)) | (((with_reducible refine Sl.k_call ?_; ((refine s_callv (cP _ hst) rfl inX rfl rfl ?_; clear hst; rintro v w ⟨rfl, hst⟩)))) <;> (try refine nX ?_) <;> (try replace hst := nH hst)) | ((fail_if_success (go_big_may)); (go_step)) | (((with_reducible refine Sl.k_field ?_; (refine s_qt hst (qt_field rfl inX) ?_))) <;> (try refine nX ?_)))
          obtain ⟨m0, m1, m2, m3, rfl⟩ := list4 (Rep.len hc2)
          refine s_stW0 hst rfl BoxIn.h inX rfl hc2 rfl ?_
          clear hst; intro w hst
          (try refine nX ?_)
          (try replace hst := nH hst)
          repeat' (((fail_if_success (go_big_may)); (go_step)))
          exact ret_two rfl (rv_cell hst rfl _ BoxIn.h inX rfl rfl) (rv_tmp rfl) ⟨_, rfl, S2, _, hle, by rw [hq]; rfl, by rw [hq]; exact hc2, hst.drop.drop.drop⟩
    · obtain rfl : k = F.length := by omega
      have hq := findV_none (r := r) (z := zeroMF) (F := F) (kind := kind) (p := p) (by have := hno.out; rwa [List.take_length] at this)
      repeat' (first | ((fail_if_success (go_big_may)); (go_step)) | (((with_reducible refine Sl.k_load ?_; (refine s_qt hst (by exact qt_load rfl _ BoxIn.h inX rfl rfl) ?_))) <;> (try refine nX ?_)) | (with_reducible refine Sl.gate rfl ?_; (go_step)) | ((((first | (with_reducible refine Sl.k_store ?_; (refine s_store hst rfl _ BoxIn.h inX evX rfl lenOk oneOk (by simp) ?_); clear hst; intro w hst) | (refine s_alloc hst inX ?_; clear hst; intro bk w hst)))) <;> (try refine nX ?_) <;> (try replace hst := nH hst)))
      exact ret_two rfl (rv_cell hst rfl _ BoxIn.h inX rfl rfl) (rv_tmp rfl) ⟨_, rfl, S2, _, hle, by rw [hq]; rfl, by rw [hq]; exact zero_mf, hst.drop.drop.drop⟩

def imgD (a : List Fa) (d : Dg) : MF × Bool := findV (nrm a) 2 (fun f => decide (mdP f.2.2.1 = d)) (fun f => f.2.2.1) zeroMF
set_option maxRecDepth 8000 in
set_option maxHeartbeats 1000000 in
theorem image_c {S M} (w : World) (hst : St S M w) (hG : Glob S) (u1 : Value) (a : List Fa) (h1 : RSl S u1 a) (oa : ∀ f ∈ a, FaOk f) (hn : a.length ≤ 90000) (d : Dg) (hd : d.l.length = 16) :
    Rets Tryd.prog 30 [.agg [u1].toArray, dgVm d] w fun v w' => ∃ S' cs, S.Le S' ∧ v = .tuple #[.agg cs.toArray, .bool (imgD a d).2] ∧ Rep.R S' cs (imgD a d).1 ∧ St S' M w' := by
  unfold Rets
  have k1 := h1.oneCell
  obtain ⟨R, HR0⟩ : ∃ R, imgD a d = R := ⟨_, rfl⟩
  rw [HR0]
  have HR := Lib.hid HR0
  clear HR0
  go_enter Tryd.func30, Tryd.ntmps30
  repeat' ((fail_if_success (with_reducible show Code.wp _ (Code.region 1 _ _) _ _ _)); first | ((fail_if_success (go_big_may)); (go_step)) | ((((first | (refine s_box hst evX rfl ?_; clear hst; intro bx w hst) | (refine s_alloc hst inX ?_; clear hst; intro bk w hst)))) <;> (try refine nX ?_) <;> (try replace hst := nH hst)))
  obtain ⟨S1, hS1, hst, hpd⟩ := dg_box hst.swap hd
  have cF1 := fun {M : List Chunk} (w : World) (hst : St S1 M w) => findm_c w hst u1 a (h1.mono hS1) oa hn 2 65 inferInstance [_] (fun f => decide (mdP f.2.2.1 = d)) (fun S' M' w cs f hle ok hR hst => img1_c w hst ((hG.mono hS1).mono hle) cs f hR ok _ d (hpd.mono hle) hd) 66 inferInstance (fun f => f.2.2.1) (fun S' M' w cs f hle ok hR hst => img2_c w hst cs f hR)
  have hq : findV (nrm a) 2 (fun f => decide (mdP f.2.2.1 = d)) (fun f => f.2.2.1) zeroMF = R := HR.out
  rw [hq] at cF1
  clear hq
  repeat' (first | (((with_reducible refine Sl.k_call ?_; ((refine s_call (cF1 _ hst) inX rfl ?_; clear hst; rintro v w ⟨S2, c2, hS2, rfl, hc2, hst⟩)))) <;> (try refine nX ?_) <;> (try replace hst := nH hst)) | ((fail_if_success (go_big_may)); (go_step)) | (((with_reducible refine Sl.k_load ?_; (refine s_qt hst (by exact qt_load rfl _ BoxIn.h inX rfl rfl) ?_))) <;> (try refine nX ?_)) | (with_reducible refine Sl.gate rfl ?_; (go_step)))
  obtain ⟨m0, m1, m2, m3, rfl⟩ := list4 (Rep.len hc2)
  refine s_stW0 hst rfl BoxIn.h inX rfl hc2 rfl ?_
  clear hst; intro w hst
  (try refine nX ?_)
  (try replace hst := nH hst)
  repeat' (((fail_if_success (go_big_may)); (go_step)))
  exact ret_two rfl (rv_cell hst rfl _ BoxIn.h inX rfl rfl) (rv_tmp rfl) ⟨_, rfl, S2, _, hS1.trans hS2, rfl, hc2, hst.drop.drop⟩
end Go.Proofs.YtjapdhaimbalkaaDoor

/- The orders of a region that draws its order meet again. General over the program. -/
namespace Go.Sl
set_option linter.unusedSimpArgs false
set_option linter.unusedVariables false
open Go.RowKit
def setMany : List Value → List Tmp → List Value → List Value
  | l, t :: ts, v :: vs => setMany (l.set t v) ts vs
  | l, _, _ => l
theorem setMany_cons (l : List Value) (t : Tmp) (ts : List Tmp) (v : Value) (vs : List Value) : setMany l (t :: ts) (v :: vs) = setMany (l.set t v) ts vs := rfl
theorem setMany_nil (l : List Value) (vs : List Value) : setMany l [] vs = l := by cases vs <;> rfl
theorem v_join {P : Program} {c : Code} {Q : Exit → Act → World → Prop} {l : List Value} {D : List Deferred} {w : World} (upd : List Tmp) (R : List Value → World → Prop)
    (h1 : ∀ Q' : Exit → Act → World → Prop, (∀ vs w, R vs w → Q' .normal ⟨(setMany l upd vs).toArray, D⟩ w) → c.wp P Q' ⟨l.toArray, D⟩ w)
    (h2 : ∀ vs w, R vs w → Q .normal ⟨(setMany l upd vs).toArray, D⟩ w) : c.wp P Q ⟨l.toArray, D⟩ w := h1 Q h2
end Go.Sl

/- Package wire: the references' encoding of byte strings, walked. -/
--@opt
namespace Go.Proofs.YtjapdhaimbalkaaDoor
set_option linter.unusedSimpArgs false
set_option linter.unusedVariables false
open Go.RowKit Go.Sl

set_option maxRecDepth 8000 in
set_option maxHeartbeats 400000 in
theorem refBytes_c {S M} (w : World) (hst : St S M w) (b : List UInt8) (hm : b.length ≤ 1048576) :
    Rets Tryd.prog 48 [.string ⟨b.toArray⟩] w fun v w' => St S (.sl v 5 1 (encB b).length (u8s (encB b)) :: M) w' := by
  unfold Rets
  have hel := encI_len b.length
  go_enter Tryd.func48, Tryd.ntmps48
  repeat' (first | (((with_reducible refine s_bytes hst evX Tryd.underlying9 inX Tryd.underlying5 (by omega) ?_; clear hst; intro u w hst)) <;> (try refine nX ?_)) | (((with_reducible refine Sl.k_call ?_; ((refine s_call (refInt_c w hst (b.length : Nat) (nat_i64 hm)) inX rfl ?_; clear hst; rintro v w hst)))) <;> (try refine nX ?_) <;> (try replace hst := nH hst)) | ((fail_if_success (go_big_may)); (go_step)) | (((with_reducible refine Sl.k_call ?_; (refine s_qt hst (by exact qt_len_str evX inX) ?_))) <;> (try refine nX ?_)))
  refine s_append (j := 0) hst evX evX SlIn.h rfl inX inX inX (u8s_one _) (by omega) (by omega) (by decide) ?_
  clear hst; intro v' w hst
  (try refine nX ?_)
  (try replace hst := nH hst)
  replace hst := hst.drop
  repeat' (((fail_if_success (go_big_may)); (go_step)))
  go_ret
  refine ⟨_, rfl, ?_⟩
  rw [encB, u8s_append, List.length_append]
  exact hst
end Go.Proofs.YtjapdhaimbalkaaDoor

/- Package wire: the references' encoding of lists of digests, walked. -/
--@opt
namespace Go.Proofs.YtjapdhaimbalkaaDoor
set_option linter.unusedSimpArgs false
set_option linter.unusedVariables false
open Go.RowKit Go.Sl

set_option maxRecDepth 8000 in
set_option maxHeartbeats 1000000 in
theorem refDigs_c {S M} (w : World) (hst : St S M w) (vl : Value) (xs : List Dg) (hl : RSl S vl xs) (hm : xs.length ≤ 1048576) :
    Rets Tryd.prog 93 [vl] w fun v w' => St S (.sl v 5 1 (encD xs).length (u8s (encD xs)) :: M) w' := by
  unfold Rets
  have hds := Lib.hid hl.dgs
  have hel := encI_len xs.length
  go_enter Tryd.func93, Tryd.ntmps93
  repeat' (first | (((with_reducible refine Sl.k_call ?_; ((refine s_call (refInt_c w hst (xs.length : Nat) (nat_i64 hm)) inX rfl ?_; clear hst; rintro v w hst)))) <;> (try refine nX ?_) <;> (try replace hst := nH hst)) | ((fail_if_success (go_big_may)); (go_step)) | (((with_reducible refine Sl.k_call ?_; (refine s_qt hst (by exact qt_len evX asX inX) ?_))) <;> (try refine nX ?_)))
  go_loopw [3, 4] (fun u v wr => ∃ i : Nat, i ≤ xs.length ∧ v = .int .i64 i ∧ St S (.sl u 5 1 (encI xs.length ++ (xs.take i).flatMap (·.l)).length (u8s (encI xs.length ++ (xs.take i).flatMap (·.l))) :: M) wr) (fun _ v _ => xs.length - (intOf v).toNat)
  case atStart => exact ⟨0, Nat.zero_le _, rfl, by simpa using hst⟩
  case round =>
    clear hst
    obtain ⟨i, hi, rfl, hst⟩ := hrel
    have hu := sl_one hst
    by_cases hlt : i < xs.length
    · have hcl : (encI xs.length ++ (xs.take i).flatMap (·.l)).length = (encI xs.length).length + ((xs.take i).flatMap (·.l)).length := List.length_append
      have htk : (xs.take (i + 1)).flatMap (·.l) = (xs.take i).flatMap (·.l) ++ xs[i].l := by rw [List.take_add_one, List.getElem?_eq_getElem hlt, Option.toList_some, List.flatMap_append, List.flatMap_cons, List.flatMap_nil, List.append_nil]
      have hle := dgs_len hds.out i
      have hdl : xs[i].l.length = 16 := hds.out _ (List.getElem_mem hlt)
      have Htk := Lib.hid htk
      clear htk
      generalize hc : encI xs.length ++ (xs.take i).flatMap (·.l) = c at *
      have Hc := Lib.hid hc
      clear hc
      repeat' (first | ((fail_if_success (go_big_may)); (go_step)) | (((with_reducible refine Sl.k_call ?_; (refine s_qt hst (by exact qt_len evX asX inX) ?_))) <;> (try refine nX ?_)) | (with_reducible refine Sl.gate rfl ?_; (go_step)))
      go_loopw [3, 5] (fun u v wr => ∃ j : Nat, j ≤ 16 ∧ v = .int .i64 j ∧ St S (.sl u 5 1 (c ++ xs[i].l.take j).length (u8s (c ++ xs[i].l.take j)) :: M) wr) (fun _ v _ => 16 - (intOf v).toNat)
      case atStart => exact ⟨0, Nat.zero_le _, rfl, by simpa using hst⟩
      case round =>
        clear hst
        obtain ⟨j, hj, rfl, hst⟩ := hrel
        have hu := sl_one hst
        by_cases hlj : j < 16
        · have hlj2 : j < xs[i].l.length := by omega
          have hcl2 : (c ++ xs[i].l.take j).length = c.length + j := by rw [List.length_append, List.length_take]; omega
          have htk2 : c ++ xs[i].l.take (j + 1) = (c ++ xs[i].l.take j) ++ [xs[i].l[j]] := by rw [List.take_add_one, List.getElem?_eq_getElem hlj2, Option.toList_some, List.append_assoc]
          have Htk2 := Lib.hid htk2
          clear htk2
          repeat' (first | ((fail_if_success (go_big_may)); (go_step)) | ((first | (with_reducible refine Sl.k_load ?_; (refine s_qt hst (by exact qt_ldp_u8 evX asX inX) ?_)) | (with_reducible refine Sl.k_index ?_; (((first | refine s_ex hst (qt_index evX asX rfl inX inX omX omX) ?_ | refine s_ex hst (qt_indexAp evX asX rfl inX inX rfl omX omX) ?_); rintro v hp; (try simp only [Int.toNat_natCast, Int.toNat_natCast_add_one, Int.reduceToNat] at hp))))) <;> (try refine nX ?_)) | (with_reducible refine Sl.gate rfl ?_; (go_step)))
          refine s_lit (vs := [.int .u8 ((xs[i].l[j].toNat : Nat) : Int)]) hst inX inX rfl rfl (by simp [Value.cells]) rfl (by omega) (by omega) ?_
          clear hst; intro u w hst
          refine nX ?_
          repeat' (fail)
          refine s_append (j := 0) hst evX evX SlIn.h rfl inX inX inX (by simp [Value.cells, Value.oneCell']) (by omega) (by omega) (by decide) ?_
          clear hst; intro v' w hst
          refine nX ?_
          (try replace hst := nH hst)
          replace hst := hst.drop
          repeat' (first | ((fail_if_success (go_big_may)); (go_step)) | (with_reducible refine Sl.gate rfl ?_; (go_step)))
          go_roundw
          case rel =>
            refine ⟨j + 1, by omega, by go_num, ?_⟩
            rw [Htk2.out, u8s_snoc, List.length_append]
            exact hst
          case measure => simp [intOf]; omega
        · repeat' (first | ((fail_if_success (go_big_may)); (go_step)) | (with_reducible refine Sl.gate rfl ?_; (go_step)))
          go_roundw
          case rel =>
            refine ⟨i + 1, by omega, by go_num, ?_⟩
            rw [Htk.out, ← List.append_assoc, Hc.out]
            rw [List.take_of_length_le (by omega)] at hst
            exact hst
          case measure => simp [intOf]; omega
    · repeat' (first | ((fail_if_success (go_big_may)); (go_step)) | (((with_reducible refine Sl.k_call ?_; (refine s_qt hst (by exact qt_len evX asX inX) ?_))) <;> (try refine nX ?_)) | (with_reducible refine Sl.gate rfl ?_; (go_step)))
      go_ret
      refine ⟨_, rfl, ?_⟩
      rw [encD]
      rw [List.take_of_length_le (by omega)] at hst
      exact hst

end Go.Proofs.YtjapdhaimbalkaaDoor

/- The reference's SHA-256: words. -/
--@u32
--@hgp
--@idxv
namespace Go.Proofs.YtjapdhaimbalkaaDoor
set_option linter.unusedSimpArgs false
set_option linter.unusedVariables false
open Go.RowKit Go.Sl

set_option maxRecDepth 8000 in
set_option maxHeartbeats 400000 in
theorem rot_c {S M} (w : World) (hst : St S M w) (x : UInt32) (n : Nat) (h1 : n ≤ 32) :
    Rets Tryd.prog 103 [.int .u32 (x.toNat : Int), .int .i64 (n : Int)] w fun v w' => v = .int .u32 ((rotN x n).toNat : Int) ∧ St S M w' := by
  unfold Rets
  go_enter Tryd.func103, Tryd.ntmps103
  repeat' (((fail_if_success (go_big_may)); (go_step)))
  refine v_begin hst (by kernel_rfl) ?_; clear hst; intro ops; (try refine nY ?_)
  (refine t_qt 0 rfl (by kernel_rfl) rfl rfl (by exact qt_move evX) ?_) <;> (try refine nY ?_)
  (refine t_qt 1 rfl (by kernel_rfl) rfl rfl (by exact qt_move evX) ?_) <;> (try refine nY ?_)
  (refine t_qt 2 rfl (by kernel_rfl) rfl rfl (by exact qt_shr32 rfl rfl omX) ?_) <;> (try refine nY ?_)
  (refine t_qt 3 rfl (by kernel_rfl) rfl rfl (by exact qt_move evX) ?_) <;> (try refine nY ?_)
  (refine t_qt 4 rfl (by kernel_rfl) rfl rfl (by exact qt_move evX) ?_) <;> (try refine nY ?_)
  (refine t_qt 5 rfl (by kernel_rfl) rfl rfl (by exact qt_sub' rfl rfl omX) ?_) <;> (try refine nY ?_)
  (refine t_qt 6 rfl (by kernel_rfl) rfl rfl (by exact qt_shl32 rfl rfl omX) ?_) <;> (try refine nY ?_)
  (refine t_qt 7 rfl (by kernel_rfl) rfl rfl (by exact qt_or32 rfl rfl) ?_) <;> (try refine nY ?_)
  (refine t_qt 8 rfl (by kernel_rfl) rfl rfl (by exact qt_assign evX) ?_) <;> (try refine nY ?_)
  refine v_done (by kernel_rfl) ?_; clear ops; intro w hst
  repeat' (((fail_if_success (go_big_may)); (go_step)))
  go_ret
  exact ⟨_, rfl, by rw [rotN, UInt32.or_comm, show ((32 : Int) - (n : Int)).toNat = 32 - n by omega]; rfl, hst⟩

def hexd (x : UInt8) : Nat := if 97 ≤ x.toNat then x.toNat - 87 else x.toNat - 48
def isHex (x : UInt8) : Prop := (48 ≤ x.toNat ∧ x.toNat ≤ 57) ∨ (97 ≤ x.toNat ∧ x.toNat ≤ 102)
instance (x : UInt8) : Decidable (isHex x) := inferInstanceAs (Decidable (_ ∨ _))
theorem hexd_lt {x : UInt8} (h : isHex x) : hexd x < 16 := by unfold hexd; unfold isHex at h; split <;> omega
def wordN (s : List UInt8) : Nat := s.foldl (fun w x => 16 * w + hexd x) 0
theorem wordN_snoc (s : List UInt8) (x : UInt8) : wordN (s ++ [x]) = 16 * wordN s + hexd x := by rw [wordN, List.foldl_append]; rfl
theorem wordN_lt : ∀ (n : Nat) (s : List UInt8), s.length = n → (∀ x ∈ s, isHex x) → wordN s < 16 ^ n
  | 0, s, h, _ => by rw [List.eq_nil_of_length_eq_zero h]; decide
  | n + 1, s, h, hs => by
    have hne : s ≠ [] := fun e => by rw [e] at h; cases h
    obtain ⟨x, hx⟩ : ∃ x, s.getLast hne = x := ⟨_, rfl⟩
    have e := List.dropLast_concat_getLast hne
    rw [hx] at e
    have hl : s.dropLast.length = n := by rw [List.length_dropLast, h]; rfl
    have ih := wordN_lt n s.dropLast hl fun y hy => hs y (by rw [← e]; exact List.mem_append_left _ hy)
    have hd := hexd_lt (hs x (by rw [← e]; simp))
    rw [← e, wordN_snoc, Nat.pow_succ]
    omega
def wordAt (s : List UInt8) (i : Nat) : Nat := wordN ((s.drop (8 * i)).take 8)

set_option maxRecDepth 8000 in
set_option maxHeartbeats 400000 in
theorem word_c {S M} (w : World) (hst : St S M w) (s : List UInt8) (i : Nat) (hs : 8 * i + 8 ≤ s.length) (hh : ∀ x ∈ s, isHex x) (hm : s.length ≤ 1000) :
    Rets Tryd.prog 102 [.string ⟨s.toArray⟩, .int .i64 (i : Int)] w fun v w' => v = .int .u32 (wordAt s i : Int) ∧ St S M w' := by
  unfold Rets
  go_enter Tryd.func102, Tryd.ntmps102
  repeat' (first | ((fail_if_success (go_big_may)); (go_step)) | (with_reducible refine Sl.gate rfl ?_; (go_step)))
  go_loopw [5, 6] (fun u v wr => ∃ (k : Int) (j W : Nat), k = 8 * i + j ∧ j ≤ 8 ∧ v = .int .i64 k ∧ u = .int .u32 (W : Int) ∧ Hid (W = wordN ((s.drop (8 * i)).take j)) ∧ St S M wr) (fun _ v _ => 8 * i + 8 - (intOf v).toNat)
  case atStart => exact ⟨_, 0, 0, by omega, by omega, rfl, rfl, Lib.hid rfl, hst⟩
  case round =>
    clear hst
    obtain ⟨k, j, W, hk, hj, rfl, rfl, hW, hst⟩ := hrel
    by_cases hlt : j < 8
    · have hkl : k.toNat < s.length := by omega
      have hx := hh s[k.toNat] (List.getElem_mem hkl)
      have hjl : j < (s.drop (8 * i)).length := by rw [List.length_drop]; omega
      have hg : (s.drop (8 * i))[j] = s[k.toNat] := by rw [List.getElem_drop]; congr 1; omega
      have hW1 : W < 16 ^ j := by
        rw [hW.out]
        exact wordN_lt j _ (by rw [List.length_take]; omega) fun x hx => hh x (List.mem_of_mem_drop (List.mem_of_mem_take hx))
      have hW2 : W < 268435456 := Nat.lt_of_lt_of_le hW1 (Nat.le_trans (Nat.pow_le_pow_right (by decide) (show j ≤ 7 by omega)) (by decide))
      have hd := hexd_lt hx
      have hnext : Hid (16 * W + hexd s[k.toNat] = wordN ((s.drop (8 * i)).take (j + 1))) := Lib.hid (by rw [List.take_succ_eq_append_getElem hjl, wordN_snoc, ← hW.out, hg])
      have hk2 : ¬ 8 * (i : Int) + 8 ≤ k := by omega
      clear hW1 hg hjl
      have Hk := Lib.hid hk
      have hk3 : 0 ≤ k ∧ k ≤ 1000 := by omega
      clear hk
      by_cases h97 : 97 ≤ s[k.toNat].toNat
      · have hx2 : s[k.toNat].toNat ≤ 102 := by unfold isHex at hx; omega
        have hde : Hid (hexd s[k.toNat] = s[k.toNat].toNat - 87) := Lib.hid (if_pos h97)
        clear hx
        repeat' (first | (((with_reducible (refine Sl.k_conv ?_; refine s_qt hst (qt_convI832 rfl inX inX omX) ?_))) <;> (try refine nY ?_)) | (with_reducible refine Sl.k_bin ?_; (refine s_qt hst (by first | exact qt_sub8 rfl rfl omX | exact qt_add8 rfl rfl omX | exact qt_mulI32 rfl rfl omX | exact qt_addI32 rfl rfl omX) ?_)) | (((with_reducible refine Sl.k_indexV ?_; (refine s_qt hst (by exact qt_indexS evX evX StrT.u omX omX) ?_))) <;> (try refine nY ?_)) | ((fail_if_success (go_big_may)); (go_step)) | (with_reducible refine Sl.gate rfl ?_; (go_step)))
        go_roundw
        case rel => exact ⟨k + 1, j + 1, 16 * W + hexd s[k.toNat], by have := Hk.out; omega, by omega, by go_num, by rw [hde.out]; congr 1; omega, hnext, hst⟩
        case measure => simp [intOf]; omega
      · have hx2 : 48 ≤ s[k.toNat].toNat ∧ s[k.toNat].toNat ≤ 57 := by unfold isHex at hx; omega
        have hde : Hid (hexd s[k.toNat] = s[k.toNat].toNat - 48) := Lib.hid (if_neg h97)
        clear hx
        repeat' (first | (((with_reducible (refine Sl.k_conv ?_; refine s_qt hst (qt_convI832 rfl inX inX omX) ?_))) <;> (try refine nY ?_)) | (with_reducible refine Sl.k_bin ?_; (refine s_qt hst (by first | exact qt_sub8 rfl rfl omX | exact qt_mulI32 rfl rfl omX | exact qt_addI32 rfl rfl omX) ?_)) | (((with_reducible refine Sl.k_indexV ?_; (refine s_qt hst (by exact qt_indexS evX evX StrT.u omX omX) ?_))) <;> (try refine nY ?_)) | ((fail_if_success (go_big_may)); (go_step)) | (with_reducible refine Sl.gate rfl ?_; (go_step)))
        go_roundw
        case rel => exact ⟨k + 1, j + 1, 16 * W + hexd s[k.toNat], by have := Hk.out; omega, by omega, by go_num, by rw [hde.out]; congr 1; omega, hnext, hst⟩
        case measure => simp [intOf]; omega
    · obtain rfl : j = 8 := by omega
      have hk2 : 8 * (i : Int) + 8 ≤ k := by omega
      clear hk
      repeat' (first | ((fail_if_success (go_big_may)); (go_step)) | (with_reducible refine Sl.gate rfl ?_; (go_step)))
      go_ret
      exact ⟨_, rfl, by rw [hW.out]; rfl, hst⟩

def wordsL (s : List UInt8) (n : Nat) : List UInt32 := (List.range n).map fun i => UInt32.ofNat (wordAt s i)
theorem wordsL_snoc (s : List UInt8) (n : Nat) : wordsL s (n + 1) = wordsL s n ++ [UInt32.ofNat (wordAt s n)] := by rw [wordsL, List.range_succ, List.map_append]; rfl

set_option maxRecDepth 8000 in
set_option maxHeartbeats 400000 in
theorem words_c {S M} (w : World) (hst : St S M w) (s : List UInt8) (n : Nat) (hs : 8 * n ≤ s.length) (hh : ∀ x ∈ s, isHex x) (hm : s.length ≤ 1000) :
    Rets Tryd.prog 94 [.string ⟨s.toArray⟩, .int .i64 (n : Int)] w fun v w' => St S (.sl v 96 1 (wordsL s n).length (cF u32C (wordsL s n)) :: M) w' := by
  unfold Rets
  go_enter Tryd.func94, Tryd.ntmps94
  repeat' (((fail_if_success (go_big_may)); (go_step)))
  go_loopw [5, 6] (fun u v wr => ∃ (i : Nat) (c : List UInt32), i ≤ n ∧ v = .int .i64 i ∧ Hid (c = wordsL s i) ∧ c.length ≤ i ∧ u.oneCell' = true ∧ St S (.sl u 96 1 c.length (cF u32C c) :: M) wr) (fun _ v _ => n - (intOf v).toNat)
  case atStart => exact ⟨0, [], Nat.zero_le _, rfl, Lib.hid rfl, Nat.le_refl _, rfl, hst.nil _ 1⟩
  case round =>
    clear hst
    obtain ⟨i, c, hi, rfl, hc, hcl, hone, hst⟩ := hrel
    by_cases hlt : i < n
    · have h8 : 8 * i + 8 ≤ s.length := by omega
      have hW : wordAt s i < 4294967296 := wordN_lt 8 _ (by rw [List.length_take, List.length_drop]; omega) fun x hx => hh x (List.mem_of_mem_drop (List.mem_of_mem_take hx))
      have hE : ((wordAt s i : Nat) : Int) = ((UInt32.ofNat (wordAt s i)).toNat : Int) := by rw [UInt32.toNat_ofNat_of_lt' (by have : UInt32.size = 4294967296 := rfl; omega)]
      have hsn := Lib.hid (wordsL_snoc s i)
      have cw := fun {S M} (w : World) (hst : St S M w) => word_c w hst s i h8 hh hm
      rw [hE] at cw
      generalize UInt32.ofNat (wordAt s i) = x at *
      clear hE hW
      repeat' (first | (((with_reducible refine Sl.k_call ?_; ((refine s_call (cw _ hst) inX rfl ?_; clear hst; rintro v w ⟨rfl, hst⟩)))) <;> (try refine nY ?_) <;> (try replace hst := nH hst)) | ((fail_if_success (go_big_may)); (go_step)) | (with_reducible refine Sl.gate rfl ?_; (go_step)))
      refine s_lit (vs := [.int .u32 (x.toNat : Int)]) hst inX inX rfl rfl (by simp [Value.cells]) rfl (by omega) (by omega) ?_
      clear hst; intro u w hst
      refine nY ?_
      repeat' (fail)
      refine s_append (j := 0) hst evX evX SlIn.h rfl inX inX inX (by simp [Value.cells, Value.oneCell']) (by omega) (by omega) (by decide) ?_
      clear hst; intro v' w hst
      refine nY ?_
      (try replace hst := nH hst)
      replace hst := hst.drop
      repeat' (first | ((fail_if_success (go_big_may)); (go_step)) | (with_reducible refine Sl.gate rfl ?_; (go_step)))
      have hone' := sl_one hst
      go_roundw
      case rel => exact ⟨i + 1, c ++ [x], by omega, by go_num, Lib.hid (by rw [hsn.out, hc.out]), by simp; omega, hone', by rw [List.length_append, cF_snoc]; exact hst⟩
      case measure => simp [intOf]; omega
    · obtain rfl : i = n := by omega
      repeat' (first | ((fail_if_success (go_big_may)); (go_step)) | (with_reducible refine Sl.gate rfl ?_; (go_step)))
      go_ret
      exact ⟨_, rfl, by rw [← hc.out]; exact hst⟩
end Go.Proofs.YtjapdhaimbalkaaDoor

/- The reference's SHA-256: one block. -/
--@u32
--@hgp
--@ex0
namespace Go.Proofs.YtjapdhaimbalkaaDoor
set_option linter.unusedSimpArgs false
set_option linter.unusedVariables false
open Go.RowKit Go.Sl

theorem rotI_c {S M} (w : World) (hst : St S M w) (x : UInt32) (n : Int) (h1 : 0 ≤ n ∧ n ≤ 32) :
    Rets Tryd.prog 103 [.int .u32 (x.toNat : Int), .int .i64 n] w fun v w' => v = .int .u32 ((rotN x n.toNat).toNat : Int) ∧ St S M w' := by
  obtain ⟨m, rfl⟩ : ∃ m : Nat, n = m := ⟨n.toNat, by omega⟩
  exact rot_c w hst x m (by omega)
theorem rots2 (x : UInt32) (a b : Nat) : rots x [a, b] = rotN x a ^^^ rotN x b := by simp [rots]
theorem rots3 (x : UInt32) (a b c : Nat) : rots x [a, b, c] = rotN x a ^^^ rotN x b ^^^ rotN x c := by simp [rots]
theorem sched1_hi (blk : List UInt8) (ws : List UInt32) {i : Nat} (h : ¬ i < 16) : sched1 blk ws i = ws.getD (i - 16) 0 + (rotN (ws.getD (i - 15) 0) 7 ^^^ rotN (ws.getD (i - 15) 0) 18 ^^^ shr (ws.getD (i - 15) 0) 3) + ws.getD (i - 7) 0 + (rotN (ws.getD (i - 2) 0) 17 ^^^ rotN (ws.getD (i - 2) 0) 19 ^^^ shr (ws.getD (i - 2) 0) 10) := by
  rw [sched1, if_neg h, rots2, rots2]
theorem loadW4 (a b c d : UInt8) : loadW [a, b, c, d] = shl (UInt32.ofNat a.toNat) 24 ||| shl (UInt32.ofNat b.toNat) 16 ||| shl (UInt32.ofNat c.toNat) 8 ||| UInt32.ofNat d.toNat := by
  have hs : ∀ (x y : UInt32) (n : Nat), shl (x ||| y) n = shl x n ||| shl y n := fun x y n => by
    apply UInt32.toBitVec_inj.1
    show (x.toBitVec ||| y.toBitVec) <<< n = _
    rw [BitVec.shiftLeft_or_distrib]
    rfl
  have ha : ∀ (x : UInt32) (n m : Nat), shl (shl x n) m = shl x (n + m) := fun x n m => by
    apply UInt32.toBitVec_inj.1
    show (x.toBitVec <<< n) <<< m = _
    rw [← BitVec.shiftLeft_add]
    rfl
  have h0 : ∀ n : Nat, shl 0 n = 0 := fun n => by
    apply UInt32.toBitVec_inj.1
    show (0 : BitVec 32) <<< n = 0
    simp
  simp only [loadW, List.foldl_cons, List.foldl_nil, hs, ha, h0, UInt32.zero_or]
theorem sched1_lo {blk : List UInt8} (ws : List UInt32) {i : Nat} (h : i < 16) (hl : 4 * i + 3 < blk.length) :
    sched1 blk ws i = shl (UInt32.ofNat blk[4 * i].toNat) 24 ||| shl (UInt32.ofNat blk[4 * i + 1].toNat) 16 ||| shl (UInt32.ofNat blk[4 * i + 2].toNat) 8 ||| UInt32.ofNat blk[4 * i + 3].toNat := by
  rw [sched1, if_pos h, ← loadW4]
  congr 1
  rw [List.drop_eq_getElem_cons (by omega), List.drop_eq_getElem_cons (show 4 * i + 1 < blk.length by omega), List.drop_eq_getElem_cons (show 4 * i + 1 + 1 < blk.length by omega), List.drop_eq_getElem_cons (show 4 * i + 1 + 1 + 1 < blk.length by omega)]
  rfl
theorem getD_get {α : Type} {l : List α} {i : Nat} (h : i < l.length) (d : α) : l.getD i d = l[i] := by rw [List.getD_eq_getElem?_getD, List.getElem?_eq_getElem h]; rfl

set_option maxRecDepth 100000 in
set_option maxHeartbeats 4000000 in
theorem refComp_c {S M} (w : World) (hst : St S M w) (vv vb vk : Value) (h : S8) (blk : List UInt8) (hv : RSl S vv h.l) (hb : RSl S vb blk) (hk : RSl S vk kList) (hl : blk.length = 64) :
    Rets Tryd.prog 95 [vv, vb, vk] w fun v w' => St S (.sl v 96 1 8 (s8C (comp h blk)) :: M) w' := by
  unfold Rets
  have h64 : 64 ≤ blk.length ∧ blk.length ≤ 64 := by omega
  have hvl : 8 ≤ h.l.length := Nat.le_refl 8
  clear hl
  go_enter Tryd.func95, Tryd.ntmps95
  repeat' (((fail_if_success (go_big_may)); (go_step)))
  refine s_make (n := 64) hst (by infer_instance) (by infer_instance) evX evX (by omega) (by omega) ?_
  clear hst; intro vw w hst
  have hst : St S (.sl vw 96 1 64 (cF u32C (sched blk 0)) :: M) w := by rw [zero64]; exact hst
  have hvw := sl_one hst
  refine nY ?_
  repeat' (((fail_if_success (go_big_may)); (go_step)))
  go_loopw [8] (fun v wr => ∃ (i : Nat) (ws : List UInt32), i ≤ 16 ∧ v = .int .i64 i ∧ Hid (ws = sched blk i) ∧ (64 ≤ ws.length ∧ ws.length ≤ 64) ∧ St S (.sl vw 96 1 64 (cF u32C ws) :: M) wr) (fun v _ => 16 - (intOf v).toNat)
  case atStart => exact ⟨0, _, by omega, rfl, Lib.hid rfl, by rw [sched_len]; omega, hst⟩
  case round =>
    clear hst
    obtain ⟨i, ws, hi, rfl, hws, hwl, hst⟩ := hrel
    by_cases hlt : i < 16
    · have hE := Lib.hid (sched1_lo (blk := blk) ws hlt (by omega))
      repeat' (first | ((fail_if_success (go_big_may)); (go_step)) | (with_reducible refine Sl.gate rfl ?_; (go_step)))
      refine v_begin hst (by kernel_rfl) ?_; clear hst; intro ops; (try refine nY ?_)
      (refine t_qt 0 rfl (by kernel_rfl) rfl rfl (by exact qt_move evX) ?_) <;> (try refine nY ?_)
      (refine t_qt 1 rfl (by kernel_rfl) rfl rfl (by exact qt_move evX) ?_) <;> (try refine nY ?_)
      (refine t_qt 2 rfl (by kernel_rfl) rfl rfl (by exact qt_move evX) ?_) <;> (try refine nY ?_)
      (refine t_qt 3 rfl (by kernel_rfl) rfl rfl (by exact qt_move evX) ?_) <;> (try refine nY ?_)
      (refine t_qt 4 rfl (by kernel_rfl) rfl rfl (by exact qt_mul' rfl rfl omX) ?_) <;> (try refine nY ?_)
      ((refine t_ex0 5 rfl (by kernel_rfl) rfl rfl (qt_index evX asX rfl inX inX omX omX) ?_; rintro v hp; (try simp only [Int.toNat_natCast, Int.toNat_natCast_add_one, Int.reduceToNat] at hp))) <;> (try refine nY ?_)
      (refine t_qt 6 rfl (by kernel_rfl) rfl rfl (by exact qt_ldp_u8 evX asX inX) ?_) <;> (try refine nY ?_)
      (refine t_qt 7 rfl (by kernel_rfl) rfl rfl (by exact qt_conv832 rfl inX inX) ?_) <;> (try refine nY ?_)
      (refine t_qt 8 rfl (by kernel_rfl) rfl rfl (by exact qt_shl32 rfl rfl omX) ?_) <;> (try refine nY ?_)
      (refine t_qt 9 rfl (by kernel_rfl) rfl rfl (by exact qt_move evX) ?_) <;> (try refine nY ?_)
      (refine t_qt 10 rfl (by kernel_rfl) rfl rfl (by exact qt_move evX) ?_) <;> (try refine nY ?_)
      (refine t_qt 11 rfl (by kernel_rfl) rfl rfl (by exact qt_mul' rfl rfl omX) ?_) <;> (try refine nY ?_)
      (refine t_qt 12 rfl (by kernel_rfl) rfl rfl (by exact qt_add' rfl rfl omX) ?_) <;> (try refine nY ?_)
      ((refine t_ex0 13 rfl (by kernel_rfl) rfl rfl (qt_index evX asX rfl inX inX omX omX) ?_; rintro v hp; (try simp only [Int.toNat_natCast, Int.toNat_natCast_add_one, Int.reduceToNat] at hp))) <;> (try refine nY ?_)
      (refine t_qt 14 rfl (by kernel_rfl) rfl rfl (by exact qt_ldp_u8 evX asX inX) ?_) <;> (try refine nY ?_)
      (refine t_qt 15 rfl (by kernel_rfl) rfl rfl (by exact qt_conv832 rfl inX inX) ?_) <;> (try refine nY ?_)
      (refine t_qt 16 rfl (by kernel_rfl) rfl rfl (by exact qt_shl32 rfl rfl omX) ?_) <;> (try refine nY ?_)
      (refine t_qt 17 rfl (by kernel_rfl) rfl rfl (by exact qt_or32 rfl rfl) ?_) <;> (try refine nY ?_)
      (refine t_qt 18 rfl (by kernel_rfl) rfl rfl (by exact qt_move evX) ?_) <;> (try refine nY ?_)
      (refine t_qt 19 rfl (by kernel_rfl) rfl rfl (by exact qt_move evX) ?_) <;> (try refine nY ?_)
      (refine t_qt 20 rfl (by kernel_rfl) rfl rfl (by exact qt_mul' rfl rfl omX) ?_) <;> (try refine nY ?_)
      (refine t_qt 21 rfl (by kernel_rfl) rfl rfl (by exact qt_add' rfl rfl omX) ?_) <;> (try refine nY ?_)
      ((refine t_ex0 22 rfl (by kernel_rfl) rfl rfl (qt_index evX asX rfl inX inX omX omX) ?_; rintro v hp; (try simp only [Int.toNat_natCast, Int.toNat_natCast_add_one, Int.reduceToNat] at hp))) <;> (try refine nY ?_)
      (refine t_qt 23 rfl (by kernel_rfl) rfl rfl (by exact qt_ldp_u8 evX asX inX) ?_) <;> (try refine nY ?_)
      (refine t_qt 24 rfl (by kernel_rfl) rfl rfl (by exact qt_conv832 rfl inX inX) ?_) <;> (try refine nY ?_)
      (refine t_qt 25 rfl (by kernel_rfl) rfl rfl (by exact qt_shl32 rfl rfl omX) ?_) <;> (try refine nY ?_)
      (refine t_qt 26 rfl (by kernel_rfl) rfl rfl (by exact qt_or32 rfl rfl) ?_) <;> (try refine nY ?_)
      (refine t_qt 27 rfl (by kernel_rfl) rfl rfl (by exact qt_move evX) ?_) <;> (try refine nY ?_)
      (refine t_qt 28 rfl (by kernel_rfl) rfl rfl (by exact qt_move evX) ?_) <;> (try refine nY ?_)
      (refine t_qt 29 rfl (by kernel_rfl) rfl rfl (by exact qt_mul' rfl rfl omX) ?_) <;> (try refine nY ?_)
      (refine t_qt 30 rfl (by kernel_rfl) rfl rfl (by exact qt_add' rfl rfl omX) ?_) <;> (try refine nY ?_)
      ((refine t_ex0 31 rfl (by kernel_rfl) rfl rfl (qt_index evX asX rfl inX inX omX omX) ?_; rintro v hp; (try simp only [Int.toNat_natCast, Int.toNat_natCast_add_one, Int.reduceToNat] at hp))) <;> (try refine nY ?_)
      (refine t_qt 32 rfl (by kernel_rfl) rfl rfl (by exact qt_ldp_u8 evX asX inX) ?_) <;> (try refine nY ?_)
      (refine t_qt 33 rfl (by kernel_rfl) rfl rfl (by exact qt_conv832 rfl inX inX) ?_) <;> (try refine nY ?_)
      (refine t_qt 34 rfl (by kernel_rfl) rfl rfl (by exact qt_or32 rfl rfl) ?_) <;> (try refine nY ?_)
      ((refine t_ex 35 rfl (by kernel_rfl) rfl rfl (fun w hst => qt_index_own hst evX SlIn.h rfl inX inX omX omX) ?_; rintro v hp; (try simp only [Int.toNat_natCast, Int.toNat_natCast_add_one, Int.reduceToNat] at hp))) <;> (try refine nY ?_)
      refine v_one 36 rfl (by kernel_rfl) ?_; intro w hst K hK; (refine s_stU hst evX asX SlIn.h inX evX omX ?_); clear hst; intro w hst; (try refine nY ?_); (try replace hst := nH hst); refine v_last hK hst ?_; clear hst hK K; (try clear w); (try refine nY ?_)
      refine v_done (by kernel_rfl) ?_; clear ops; intro w hst
      repeat' (first | ((fail_if_success (go_big_may)); (go_step)) | (with_reducible refine Sl.gate rfl ?_; (go_step)))
      have e0 : (4 * (i : Int)).toNat = 4 * i := by omega
      have e1 : (4 * (i : Int) + 1).toNat = 4 * i + 1 := by omega
      have e2 : (4 * (i : Int) + 2).toNat = 4 * i + 2 := by omega
      have e3 : (4 * (i : Int) + 3).toNat = 4 * i + 3 := by omega
      simp only [e0, e1, e2, e3] at hst

      go_roundw
      case rel => exact ⟨i + 1, _, by omega, by go_num, Lib.hid (by rw [sched, ← hws.out, hE.out]), by rw [List.length_set]; omega, hst⟩
      case measure => simp [intOf]; omega
    · obtain rfl : i = 16 := by omega
      repeat' (first | ((fail_if_success (go_big_may)); (go_step)) | (with_reducible refine Sl.gate rfl ?_; (go_step)))
      clear hi hlt
      go_loopw [9] (fun v wr => ∃ (i : Nat) (ws : List UInt32), (16 ≤ i ∧ i ≤ 64) ∧ v = .int .i64 i ∧ Hid (ws = sched blk i) ∧ (64 ≤ ws.length ∧ ws.length ≤ 64) ∧ St S (.sl vw 96 1 64 (cF u32C ws) :: M) wr) (fun v _ => 64 - (intOf v).toNat)
      case atStart => exact ⟨16, _, by omega, rfl, hws, hwl, hst⟩
      case round =>
        clear hst hws hwl ws
        obtain ⟨i, ws, hi, rfl, hws, hwl, hst⟩ := hrel
        by_cases hlt : i < 64
        · have hE := Lib.hid (sched1_hi blk ws (show ¬ i < 16 by omega))
          repeat' (first | ((fail_if_success (go_big_may)); (go_step)) | (with_reducible refine Sl.gate rfl ?_; (go_step)))
          refine v_begin hst (by kernel_rfl) ?_; clear hst; intro ops; (try refine nY ?_)
          (refine t_qt 0 rfl (by kernel_rfl) rfl rfl (by exact qt_move evX) ?_) <;> (try refine nY ?_)
          (refine t_qt 1 rfl (by kernel_rfl) rfl rfl (by exact qt_move evX) ?_) <;> (try refine nY ?_)
          (refine t_qt 2 rfl (by kernel_rfl) rfl rfl (by exact qt_sub' rfl rfl omX) ?_) <;> (try refine nY ?_)
          ((refine t_ex 3 rfl (by kernel_rfl) rfl rfl (fun w hst => qt_index_own hst evX SlIn.h rfl inX inX omX omX) ?_; rintro v hp; (try simp only [Int.toNat_natCast, Int.toNat_natCast_add_one, Int.reduceToNat] at hp))) <;> (try refine nY ?_)
          (refine t_qt 4 rfl (by kernel_rfl) rfl rfl (by exact qt_ldU evX asX SlIn.h inX omX) ?_) <;> (try refine nY ?_)
          (refine t_call 5 rfl (by kernel_rfl) rfl (fun S' M' w hS hM hst => rotI_c w hst _ _ (by decide)) inX rfl ?_) <;> (try refine nY ?_)
          (refine t_qt 6 rfl (by kernel_rfl) rfl rfl (by exact qt_move evX) ?_) <;> (try refine nY ?_)
          (refine t_qt 7 rfl (by kernel_rfl) rfl rfl (by exact qt_move evX) ?_) <;> (try refine nY ?_)
          (refine t_qt 8 rfl (by kernel_rfl) rfl rfl (by exact qt_sub' rfl rfl omX) ?_) <;> (try refine nY ?_)
          ((refine t_ex 9 rfl (by kernel_rfl) rfl rfl (fun w hst => qt_index_own hst evX SlIn.h rfl inX inX omX omX) ?_; rintro v hp; (try simp only [Int.toNat_natCast, Int.toNat_natCast_add_one, Int.reduceToNat] at hp))) <;> (try refine nY ?_)
          (refine t_qt 10 rfl (by kernel_rfl) rfl rfl (by exact qt_ldU evX asX SlIn.h inX omX) ?_) <;> (try refine nY ?_)
          (refine t_call 11 rfl (by kernel_rfl) rfl (fun S' M' w hS hM hst => rotI_c w hst _ _ (by decide)) inX rfl ?_) <;> (try refine nY ?_)
          (refine t_qt 12 rfl (by kernel_rfl) rfl rfl (by exact qt_xor32 rfl rfl) ?_) <;> (try refine nY ?_)
          (refine t_qt 13 rfl (by kernel_rfl) rfl rfl (by exact qt_move evX) ?_) <;> (try refine nY ?_)
          (refine t_qt 14 rfl (by kernel_rfl) rfl rfl (by exact qt_move evX) ?_) <;> (try refine nY ?_)
          (refine t_qt 15 rfl (by kernel_rfl) rfl rfl (by exact qt_sub' rfl rfl omX) ?_) <;> (try refine nY ?_)
          ((refine t_ex 16 rfl (by kernel_rfl) rfl rfl (fun w hst => qt_index_own hst evX SlIn.h rfl inX inX omX omX) ?_; rintro v hp; (try simp only [Int.toNat_natCast, Int.toNat_natCast_add_one, Int.reduceToNat] at hp))) <;> (try refine nY ?_)
          (refine t_qt 17 rfl (by kernel_rfl) rfl rfl (by exact qt_ldU evX asX SlIn.h inX omX) ?_) <;> (try refine nY ?_)
          (refine t_qt 18 rfl (by kernel_rfl) rfl rfl (by exact qt_shr32 rfl rfl omX) ?_) <;> (try refine nY ?_)
          (refine t_qt 19 rfl (by kernel_rfl) rfl rfl (by exact qt_xor32 rfl rfl) ?_) <;> (try refine nY ?_)
          (refine t_qt 20 rfl (by kernel_rfl) rfl rfl (by exact qt_assign evX) ?_) <;> (try refine nY ?_)
          refine v_done (by kernel_rfl) ?_; clear ops; intro w hst
          repeat' (((fail_if_success (go_big_may)); (go_step)))
          refine v_begin hst (by kernel_rfl) ?_; clear hst; intro ops; (try refine nY ?_)
          (refine t_qt 0 rfl (by kernel_rfl) rfl rfl (by exact qt_move evX) ?_) <;> (try refine nY ?_)
          (refine t_qt 1 rfl (by kernel_rfl) rfl rfl (by exact qt_move evX) ?_) <;> (try refine nY ?_)
          (refine t_qt 2 rfl (by kernel_rfl) rfl rfl (by exact qt_sub' rfl rfl omX) ?_) <;> (try refine nY ?_)
          ((refine t_ex 3 rfl (by kernel_rfl) rfl rfl (fun w hst => qt_index_own hst evX SlIn.h rfl inX inX omX omX) ?_; rintro v hp; (try simp only [Int.toNat_natCast, Int.toNat_natCast_add_one, Int.reduceToNat] at hp))) <;> (try refine nY ?_)
          (refine t_qt 4 rfl (by kernel_rfl) rfl rfl (by exact qt_ldU evX asX SlIn.h inX omX) ?_) <;> (try refine nY ?_)
          (refine t_call 5 rfl (by kernel_rfl) rfl (fun S' M' w hS hM hst => rotI_c w hst _ _ (by decide)) inX rfl ?_) <;> (try refine nY ?_)
          (refine t_qt 6 rfl (by kernel_rfl) rfl rfl (by exact qt_move evX) ?_) <;> (try refine nY ?_)
          (refine t_qt 7 rfl (by kernel_rfl) rfl rfl (by exact qt_move evX) ?_) <;> (try refine nY ?_)
          (refine t_qt 8 rfl (by kernel_rfl) rfl rfl (by exact qt_sub' rfl rfl omX) ?_) <;> (try refine nY ?_)
          ((refine t_ex 9 rfl (by kernel_rfl) rfl rfl (fun w hst => qt_index_own hst evX SlIn.h rfl inX inX omX omX) ?_; rintro v hp; (try simp only [Int.toNat_natCast, Int.toNat_natCast_add_one, Int.reduceToNat] at hp))) <;> (try refine nY ?_)
          (refine t_qt 10 rfl (by kernel_rfl) rfl rfl (by exact qt_ldU evX asX SlIn.h inX omX) ?_) <;> (try refine nY ?_)
          (refine t_call 11 rfl (by kernel_rfl) rfl (fun S' M' w hS hM hst => rotI_c w hst _ _ (by decide)) inX rfl ?_) <;> (try refine nY ?_)
          (refine t_qt 12 rfl (by kernel_rfl) rfl rfl (by exact qt_xor32 rfl rfl) ?_) <;> (try refine nY ?_)
          (refine t_qt 13 rfl (by kernel_rfl) rfl rfl (by exact qt_move evX) ?_) <;> (try refine nY ?_)
          (refine t_qt 14 rfl (by kernel_rfl) rfl rfl (by exact qt_move evX) ?_) <;> (try refine nY ?_)
          (refine t_qt 15 rfl (by kernel_rfl) rfl rfl (by exact qt_sub' rfl rfl omX) ?_) <;> (try refine nY ?_)
          ((refine t_ex 16 rfl (by kernel_rfl) rfl rfl (fun w hst => qt_index_own hst evX SlIn.h rfl inX inX omX omX) ?_; rintro v hp; (try simp only [Int.toNat_natCast, Int.toNat_natCast_add_one, Int.reduceToNat] at hp))) <;> (try refine nY ?_)
          (refine t_qt 17 rfl (by kernel_rfl) rfl rfl (by exact qt_ldU evX asX SlIn.h inX omX) ?_) <;> (try refine nY ?_)
          (refine t_qt 18 rfl (by kernel_rfl) rfl rfl (by exact qt_shr32 rfl rfl omX) ?_) <;> (try refine nY ?_)
          (refine t_qt 19 rfl (by kernel_rfl) rfl rfl (by exact qt_xor32 rfl rfl) ?_) <;> (try refine nY ?_)
          (refine t_qt 20 rfl (by kernel_rfl) rfl rfl (by exact qt_assign evX) ?_) <;> (try refine nY ?_)
          refine v_done (by kernel_rfl) ?_; clear ops; intro w hst
          repeat' (((fail_if_success (go_big_may)); (go_step)))
          refine v_begin hst (by kernel_rfl) ?_; clear hst; intro ops; (try refine nY ?_)
          (refine t_qt 0 rfl (by kernel_rfl) rfl rfl (by exact qt_move evX) ?_) <;> (try refine nY ?_)
          (refine t_qt 1 rfl (by kernel_rfl) rfl rfl (by exact qt_move evX) ?_) <;> (try refine nY ?_)
          (refine t_qt 2 rfl (by kernel_rfl) rfl rfl (by exact qt_move evX) ?_) <;> (try refine nY ?_)
          (refine t_qt 3 rfl (by kernel_rfl) rfl rfl (by exact qt_move evX) ?_) <;> (try refine nY ?_)
          (refine t_qt 4 rfl (by kernel_rfl) rfl rfl (by exact qt_sub' rfl rfl omX) ?_) <;> (try refine nY ?_)
          ((refine t_ex 5 rfl (by kernel_rfl) rfl rfl (fun w hst => qt_index_own hst evX SlIn.h rfl inX inX omX omX) ?_; rintro v hp; (try simp only [Int.toNat_natCast, Int.toNat_natCast_add_one, Int.reduceToNat] at hp))) <;> (try refine nY ?_)
          (refine t_qt 6 rfl (by kernel_rfl) rfl rfl (by exact qt_ldU evX asX SlIn.h inX omX) ?_) <;> (try refine nY ?_)
          (refine t_qt 7 rfl (by kernel_rfl) rfl rfl (by exact qt_move evX) ?_) <;> (try refine nY ?_)
          (refine t_qt 8 rfl (by kernel_rfl) rfl rfl (by exact qt_add32 rfl rfl) ?_) <;> (try refine nY ?_)
          (refine t_qt 9 rfl (by kernel_rfl) rfl rfl (by exact qt_move evX) ?_) <;> (try refine nY ?_)
          (refine t_qt 10 rfl (by kernel_rfl) rfl rfl (by exact qt_move evX) ?_) <;> (try refine nY ?_)
          (refine t_qt 11 rfl (by kernel_rfl) rfl rfl (by exact qt_sub' rfl rfl omX) ?_) <;> (try refine nY ?_)
          ((refine t_ex 12 rfl (by kernel_rfl) rfl rfl (fun w hst => qt_index_own hst evX SlIn.h rfl inX inX omX omX) ?_; rintro v hp; (try simp only [Int.toNat_natCast, Int.toNat_natCast_add_one, Int.reduceToNat] at hp))) <;> (try refine nY ?_)
          (refine t_qt 13 rfl (by kernel_rfl) rfl rfl (by exact qt_ldU evX asX SlIn.h inX omX) ?_) <;> (try refine nY ?_)
          (refine t_qt 14 rfl (by kernel_rfl) rfl rfl (by exact qt_add32 rfl rfl) ?_) <;> (try refine nY ?_)
          (refine t_qt 15 rfl (by kernel_rfl) rfl rfl (by exact qt_move evX) ?_) <;> (try refine nY ?_)
          (refine t_qt 16 rfl (by kernel_rfl) rfl rfl (by exact qt_add32 rfl rfl) ?_) <;> (try refine nY ?_)
          ((refine t_ex 17 rfl (by kernel_rfl) rfl rfl (fun w hst => qt_index_own hst evX SlIn.h rfl inX inX omX omX) ?_; rintro v hp; (try simp only [Int.toNat_natCast, Int.toNat_natCast_add_one, Int.reduceToNat] at hp))) <;> (try refine nY ?_)
          refine v_one 18 rfl (by kernel_rfl) ?_; intro w hst K hK; (refine s_stU hst evX asX SlIn.h inX evX omX ?_); clear hst; intro w hst; (try refine nY ?_); (try replace hst := nH hst); refine v_last hK hst ?_; clear hst hK K; (try clear w); (try refine nY ?_)
          refine v_done (by kernel_rfl) ?_; clear ops; intro w hst
          repeat' (first | ((fail_if_success (go_big_may)); (go_step)) | (with_reducible refine Sl.gate rfl ?_; (go_step)))
          have e15 : ((i : Int) - 15).toNat = i - 15 := by omega
          have e2 : ((i : Int) - 2).toNat = i - 2 := by omega
          have e16 : ((i : Int) - 16).toNat = i - 16 := by omega
          have e7 : ((i : Int) - 7).toNat = i - 7 := by omega
          rw [e15, e2, e16, e7] at hst
          clear e15 e2 e16 e7
          go_roundw
          case rel => exact ⟨i + 1, _, by omega, by go_num, Lib.hid (by rw [sched, ← hws.out, hE.out]), by rw [List.length_set]; omega, hst⟩
          case measure => simp [intOf]; omega
        · obtain rfl : i = 64 := by omega
          clear hi hlt
          have hwl2 : 64 ≤ ws.length := hwl.1
          repeat' (first | ((fail_if_success (go_big_may)); (go_step)) | ((first | (with_reducible refine Sl.k_load ?_; (refine s_qt hst (by exact qt_ldp_u32 evX asX inX) ?_)) | (with_reducible refine Sl.k_index ?_; (((refine s_ex hst (qt_index evX asX rfl inX inX omX omX) ?_); rintro v hp; (try simp only [Int.toNat_natCast, Int.toNat_natCast_add_one, Int.reduceToNat] at hp))))) <;> (try refine nY ?_)) | (with_reducible refine Sl.gate rfl ?_; (go_step)))
          go_loopw [12, 13, 14, 15, 16, 17, 18, 19, 20] (fun va vb vc vd ve vf vg vh v wr => ∃ (i : Nat) (s : S8), i ≤ 64 ∧ va = .int .u32 (s.a.toNat : Int) ∧ vb = .int .u32 (s.b.toNat : Int) ∧ vc = .int .u32 (s.c.toNat : Int) ∧ vd = .int .u32 (s.d.toNat : Int) ∧ ve = .int .u32 (s.e.toNat : Int) ∧ vf = .int .u32 (s.f.toNat : Int) ∧ vg = .int .u32 (s.g.toNat : Int) ∧ vh = .int .u32 (s.h.toNat : Int) ∧ v = .int .i64 i ∧ Hid (s = rounds ws h i) ∧ St S (.sl vw 96 1 64 (cF u32C ws) :: M) wr) (fun _ _ _ _ _ _ _ _ v _ => 64 - (intOf v).toNat)
          case atStart => exact ⟨0, h, by omega, rfl, rfl, rfl, rfl, rfl, rfl, rfl, rfl, rfl, Lib.hid rfl, hst⟩
          case round =>
            clear hst
            obtain ⟨i, s, hi, rfl, rfl, rfl, rfl, rfl, rfl, rfl, rfl, rfl, hs, hst⟩ := hrel
            by_cases hlt : i < 64
            · have hkl : i < kList.length := hlt
              have hkE := Lib.hid (getD_get hkl 0)
              repeat' (first | ((fail_if_success (go_big_may)); (go_step)) | (with_reducible refine Sl.gate rfl ?_; (go_step)))
              refine v_begin hst (by kernel_rfl) ?_; clear hst; intro ops; (try refine nY ?_)
              (refine t_qt 0 rfl (by kernel_rfl) rfl rfl (by exact qt_move evX) ?_) <;> (try refine nY ?_)
              (refine t_qt 1 rfl (by kernel_rfl) rfl rfl (by exact qt_move evX) ?_) <;> (try refine nY ?_)
              (refine t_call 2 rfl (by kernel_rfl) rfl (fun S' M' w hS hM hst => rotI_c w hst _ _ (by decide)) inX rfl ?_) <;> (try refine nY ?_)
              (refine t_qt 3 rfl (by kernel_rfl) rfl rfl (by exact qt_move evX) ?_) <;> (try refine nY ?_)
              (refine t_call 4 rfl (by kernel_rfl) rfl (fun S' M' w hS hM hst => rotI_c w hst _ _ (by decide)) inX rfl ?_) <;> (try refine nY ?_)
              (refine t_qt 5 rfl (by kernel_rfl) rfl rfl (by exact qt_xor32 rfl rfl) ?_) <;> (try refine nY ?_)
              (refine t_qt 6 rfl (by kernel_rfl) rfl rfl (by exact qt_move evX) ?_) <;> (try refine nY ?_)
              (refine t_call 7 rfl (by kernel_rfl) rfl (fun S' M' w hS hM hst => rotI_c w hst _ _ (by decide)) inX rfl ?_) <;> (try refine nY ?_)
              (refine t_qt 8 rfl (by kernel_rfl) rfl rfl (by exact qt_xor32 rfl rfl) ?_) <;> (try refine nY ?_)
              (refine t_qt 9 rfl (by kernel_rfl) rfl rfl (by exact qt_add32 rfl rfl) ?_) <;> (try refine nY ?_)
              (refine t_qt 10 rfl (by kernel_rfl) rfl rfl (by exact qt_move evX) ?_) <;> (try refine nY ?_)
              (refine t_qt 11 rfl (by kernel_rfl) rfl rfl (by exact qt_move evX) ?_) <;> (try refine nY ?_)
              (refine t_qt 12 rfl (by kernel_rfl) rfl rfl (by exact qt_and32 rfl rfl) ?_) <;> (try refine nY ?_)
              (refine t_qt 13 rfl (by kernel_rfl) rfl rfl (by exact qt_move evX) ?_) <;> (try refine nY ?_)
              (refine t_qt 14 rfl (by kernel_rfl) rfl rfl (qt_xorl32 rfl rfl) ?_) <;> (try refine nY ?_)
              (refine t_qt 15 rfl (by kernel_rfl) rfl rfl (by exact qt_move evX) ?_) <;> (try refine nY ?_)
              (refine t_qt 16 rfl (by kernel_rfl) rfl rfl (by exact qt_and32 rfl rfl) ?_) <;> (try refine nY ?_)
              (refine t_qt 17 rfl (by kernel_rfl) rfl rfl (by exact qt_xor32 rfl rfl) ?_) <;> (try refine nY ?_)
              (refine t_qt 18 rfl (by kernel_rfl) rfl rfl (by exact qt_add32 rfl rfl) ?_) <;> (try refine nY ?_)
              (refine t_qt 19 rfl (by kernel_rfl) rfl rfl (by exact qt_move evX) ?_) <;> (try refine nY ?_)
              (refine t_qt 20 rfl (by kernel_rfl) rfl rfl (by exact qt_move evX) ?_) <;> (try refine nY ?_)
              ((refine t_ex0 21 rfl (by kernel_rfl) rfl rfl (qt_index evX asX rfl inX inX omX omX) ?_; rintro v hp; (try simp only [Int.toNat_natCast, Int.toNat_natCast_add_one, Int.reduceToNat] at hp))) <;> (try refine nY ?_)
              (refine t_qt 22 rfl (by kernel_rfl) rfl rfl (by exact qt_ldp_u32 evX asX inX) ?_) <;> (try refine nY ?_)
              (refine t_qt 23 rfl (by kernel_rfl) rfl rfl (by exact qt_add32 rfl rfl) ?_) <;> (try refine nY ?_)
              (refine t_qt 24 rfl (by kernel_rfl) rfl rfl (by exact qt_move evX) ?_) <;> (try refine nY ?_)
              (refine t_qt 25 rfl (by kernel_rfl) rfl rfl (by exact qt_move evX) ?_) <;> (try refine nY ?_)
              ((refine t_ex 26 rfl (by kernel_rfl) rfl rfl (fun w hst => qt_index_own hst evX SlIn.h rfl inX inX omX omX) ?_; rintro v hp; (try simp only [Int.toNat_natCast, Int.toNat_natCast_add_one, Int.reduceToNat] at hp))) <;> (try refine nY ?_)
              (refine t_qt 27 rfl (by kernel_rfl) rfl rfl (by exact qt_ldU evX asX SlIn.h inX omX) ?_) <;> (try refine nY ?_)
              (refine t_qt 28 rfl (by kernel_rfl) rfl rfl (by exact qt_add32 rfl rfl) ?_) <;> (try refine nY ?_)
              (refine t_qt 29 rfl (by kernel_rfl) rfl rfl (by exact qt_assign evX) ?_) <;> (try refine nY ?_)
              refine v_done (by kernel_rfl) ?_; clear ops; intro w hst
              repeat' (first | (((with_reducible refine Sl.k_bin ?_; refine s_qt hst (by first | exact qt_xor32 rfl rfl | exact qt_and32 rfl rfl | exact qt_add32 rfl rfl) ?_)) <;> (try refine nY ?_)) | (((with_reducible refine Sl.k_call ?_; ((refine s_call (rotI_c _ hst _ _ (by decide)) inX rfl ?_; clear hst; rintro v w ⟨rfl, hst⟩)))) <;> (try refine nY ?_) <;> (try replace hst := nH hst)) | ((fail_if_success (go_big_may)); (go_step)) | (with_reducible refine Sl.gate rfl ?_; (go_step)))
              go_roundw
              case rel => exact ⟨i + 1, round1 s (kList.getD i 0) (ws.getD i 0), by omega, by rw [hkE.out, round1, ksT, ksU, rots3, rots3], rfl, rfl, rfl, by rw [hkE.out, round1, ksT, rots3], rfl, rfl, rfl, by go_num, Lib.hid (by rw [rounds, ← hs.out]), hst⟩
              case measure => simp [intOf]; omega
            · obtain rfl : i = 64 := by omega
              clear hi hlt
              repeat' (first | ((fail_if_success (go_big_may)); (go_step)) | (with_reducible refine Sl.gate rfl ?_; (go_step)))
              refine v_begin hst (by kernel_rfl) ?_; clear hst; intro ops; (try refine nY ?_)
              (refine t_qt 0 rfl (by kernel_rfl) rfl rfl (by exact qt_move evX) ?_) <;> (try refine nY ?_)
              ((refine t_ex0 1 rfl (by kernel_rfl) rfl rfl (qt_index evX asX rfl inX inX omX omX) ?_; rintro v hp; (try simp only [Int.toNat_natCast, Int.toNat_natCast_add_one, Int.reduceToNat] at hp))) <;> (try refine nY ?_)
              (refine t_qt 2 rfl (by kernel_rfl) rfl rfl (by exact qt_ldp_u32 evX asX inX) ?_) <;> (try refine nY ?_)
              (refine t_qt 3 rfl (by kernel_rfl) rfl rfl (by exact qt_move evX) ?_) <;> (try refine nY ?_)
              (refine t_qt 4 rfl (by kernel_rfl) rfl rfl (by exact qt_add32 rfl rfl) ?_) <;> (try refine nY ?_)
              (refine t_qt 5 rfl (by kernel_rfl) rfl rfl (by exact qt_move evX) ?_) <;> (try refine nY ?_)
              ((refine t_ex0 6 rfl (by kernel_rfl) rfl rfl (qt_index evX asX rfl inX inX omX omX) ?_; rintro v hp; (try simp only [Int.toNat_natCast, Int.toNat_natCast_add_one, Int.reduceToNat] at hp))) <;> (try refine nY ?_)
              (refine t_qt 7 rfl (by kernel_rfl) rfl rfl (by exact qt_ldp_u32 evX asX inX) ?_) <;> (try refine nY ?_)
              (refine t_qt 8 rfl (by kernel_rfl) rfl rfl (by exact qt_move evX) ?_) <;> (try refine nY ?_)
              (refine t_qt 9 rfl (by kernel_rfl) rfl rfl (by exact qt_add32 rfl rfl) ?_) <;> (try refine nY ?_)
              (refine t_qt 10 rfl (by kernel_rfl) rfl rfl (by exact qt_move evX) ?_) <;> (try refine nY ?_)
              ((refine t_ex0 11 rfl (by kernel_rfl) rfl rfl (qt_index evX asX rfl inX inX omX omX) ?_; rintro v hp; (try simp only [Int.toNat_natCast, Int.toNat_natCast_add_one, Int.reduceToNat] at hp))) <;> (try refine nY ?_)
              (refine t_qt 12 rfl (by kernel_rfl) rfl rfl (by exact qt_ldp_u32 evX asX inX) ?_) <;> (try refine nY ?_)
              (refine t_qt 13 rfl (by kernel_rfl) rfl rfl (by exact qt_move evX) ?_) <;> (try refine nY ?_)
              (refine t_qt 14 rfl (by kernel_rfl) rfl rfl (by exact qt_add32 rfl rfl) ?_) <;> (try refine nY ?_)
              (refine t_qt 15 rfl (by kernel_rfl) rfl rfl (by exact qt_move evX) ?_) <;> (try refine nY ?_)
              ((refine t_ex0 16 rfl (by kernel_rfl) rfl rfl (qt_index evX asX rfl inX inX omX omX) ?_; rintro v hp; (try simp only [Int.toNat_natCast, Int.toNat_natCast_add_one, Int.reduceToNat] at hp))) <;> (try refine nY ?_)
              (refine t_qt 17 rfl (by kernel_rfl) rfl rfl (by exact qt_ldp_u32 evX asX inX) ?_) <;> (try refine nY ?_)
              (refine t_qt 18 rfl (by kernel_rfl) rfl rfl (by exact qt_move evX) ?_) <;> (try refine nY ?_)
              (refine t_qt 19 rfl (by kernel_rfl) rfl rfl (by exact qt_add32 rfl rfl) ?_) <;> (try refine nY ?_)
              (refine t_qt 20 rfl (by kernel_rfl) rfl rfl (by exact qt_move evX) ?_) <;> (try refine nY ?_)
              ((refine t_ex0 21 rfl (by kernel_rfl) rfl rfl (qt_index evX asX rfl inX inX omX omX) ?_; rintro v hp; (try simp only [Int.toNat_natCast, Int.toNat_natCast_add_one, Int.reduceToNat] at hp))) <;> (try refine nY ?_)
              (refine t_qt 22 rfl (by kernel_rfl) rfl rfl (by exact qt_ldp_u32 evX asX inX) ?_) <;> (try refine nY ?_)
              (refine t_qt 23 rfl (by kernel_rfl) rfl rfl (by exact qt_move evX) ?_) <;> (try refine nY ?_)
              (refine t_qt 24 rfl (by kernel_rfl) rfl rfl (by exact qt_add32 rfl rfl) ?_) <;> (try refine nY ?_)
              (refine t_qt 25 rfl (by kernel_rfl) rfl rfl (by exact qt_move evX) ?_) <;> (try refine nY ?_)
              ((refine t_ex0 26 rfl (by kernel_rfl) rfl rfl (qt_index evX asX rfl inX inX omX omX) ?_; rintro v hp; (try simp only [Int.toNat_natCast, Int.toNat_natCast_add_one, Int.reduceToNat] at hp))) <;> (try refine nY ?_)
              (refine t_qt 27 rfl (by kernel_rfl) rfl rfl (by exact qt_ldp_u32 evX asX inX) ?_) <;> (try refine nY ?_)
              (refine t_qt 28 rfl (by kernel_rfl) rfl rfl (by exact qt_move evX) ?_) <;> (try refine nY ?_)
              (refine t_qt 29 rfl (by kernel_rfl) rfl rfl (by exact qt_add32 rfl rfl) ?_) <;> (try refine nY ?_)
              (refine t_qt 30 rfl (by kernel_rfl) rfl rfl (by exact qt_move evX) ?_) <;> (try refine nY ?_)
              ((refine t_ex0 31 rfl (by kernel_rfl) rfl rfl (qt_index evX asX rfl inX inX omX omX) ?_; rintro v hp; (try simp only [Int.toNat_natCast, Int.toNat_natCast_add_one, Int.reduceToNat] at hp))) <;> (try refine nY ?_)
              (refine t_qt 32 rfl (by kernel_rfl) rfl rfl (by exact qt_ldp_u32 evX asX inX) ?_) <;> (try refine nY ?_)
              (refine t_qt 33 rfl (by kernel_rfl) rfl rfl (by exact qt_move evX) ?_) <;> (try refine nY ?_)
              (refine t_qt 34 rfl (by kernel_rfl) rfl rfl (by exact qt_add32 rfl rfl) ?_) <;> (try refine nY ?_)
              (refine t_qt 35 rfl (by kernel_rfl) rfl rfl (by exact qt_move evX) ?_) <;> (try refine nY ?_)
              ((refine t_ex0 36 rfl (by kernel_rfl) rfl rfl (qt_index evX asX rfl inX inX omX omX) ?_; rintro v hp; (try simp only [Int.toNat_natCast, Int.toNat_natCast_add_one, Int.reduceToNat] at hp))) <;> (try refine nY ?_)
              (refine t_qt 37 rfl (by kernel_rfl) rfl rfl (by exact qt_ldp_u32 evX asX inX) ?_) <;> (try refine nY ?_)
              (refine t_qt 38 rfl (by kernel_rfl) rfl rfl (by exact qt_move evX) ?_) <;> (try refine nY ?_)
              (refine t_qt 39 rfl (by kernel_rfl) rfl rfl (by exact qt_add32 rfl rfl) ?_) <;> (try refine nY ?_)
              refine v_one 40 rfl (by kernel_rfl) ?_; intro w hst K hK; refine s_lit (vs := [.int .u32 ((h.a + s.a).toNat : Int), .int .u32 ((h.b + s.b).toNat : Int), .int .u32 ((h.c + s.c).toNat : Int), .int .u32 ((h.d + s.d).toNat : Int), .int .u32 ((h.e + s.e).toNat : Int), .int .u32 ((h.f + s.f).toNat : Int), .int .u32 ((h.g + s.g).toNat : Int), .int .u32 ((h.h + s.h).toNat : Int)]) hst inX inX rfl rfl (by simp [Value.cells]) rfl (by omega) (by omega) ?_; clear hst; intro x40 w hst; (try refine nY ?_); (try replace hst := nH hst); refine v_next hK hst (Snap.Le.refl _) (Suf.cons (Suf.refl _)) ?_; clear hst hK K; (try clear w); (try refine nY ?_)
              (refine t_qt 41 rfl (by kernel_rfl) rfl rfl (by exact qt_assign evX) ?_) <;> (try refine nY ?_)
              refine v_done (by kernel_rfl) ?_; clear ops; intro w hst
              repeat' (((fail_if_success (go_big_may)); (go_step)))
              go_ret
              refine ⟨_, rfl, ?_⟩
              have e : comp h blk = ⟨h.a + s.a, h.b + s.b, h.c + s.c, h.d + s.d, h.e + s.e, h.f + s.f, h.g + s.g, h.h + s.h⟩ := by
                rw [comp, ← hws.out, ← hs.out, add8]
                simp only [UInt32.add_comm]
              rw [e]
              exact hst.swap.drop
end Go.Proofs.YtjapdhaimbalkaaDoor

/- The reference's SHA-256: the hash of a byte sequence. -/
--@u32
--@hgp
--@flat
--@ex0
--@b8
namespace Go.Proofs.YtjapdhaimbalkaaDoor
set_option linter.unusedSimpArgs false
set_option linter.unusedVariables false
open Go.RowKit Go.Sl

def firstS : List UInt8 := [54, 97, 48, 57, 101, 54, 54, 55, 98, 98, 54, 55, 97, 101, 56, 53, 51, 99, 54, 101, 102, 51, 55, 50, 97, 53, 52, 102, 102, 53, 51, 97, 53, 49, 48, 101, 53, 50, 55, 102, 57, 98, 48, 53, 54, 56, 56, 99, 49, 102, 56, 51, 100, 57, 97, 98, 53, 98, 101, 48, 99, 100, 49, 57]
def cS0 : List UInt8 := [52, 50, 56, 97, 50, 102, 57, 56, 55, 49, 51, 55, 52, 52, 57, 49, 98, 53, 99, 48, 102, 98, 99, 102, 101, 57, 98, 53, 100, 98, 97, 53, 51, 57, 53, 54, 99, 50, 53, 98, 53, 57, 102, 49, 49, 49, 102, 49, 57, 50, 51, 102, 56, 50, 97, 52, 97, 98, 49, 99, 53, 101, 100, 53]
def cS1 : List UInt8 := [100, 56, 48, 55, 97, 97, 57, 56, 49, 50, 56, 51, 53, 98, 48, 49, 50, 52, 51, 49, 56, 53, 98, 101, 53, 53, 48, 99, 55, 100, 99, 51, 55, 50, 98, 101, 53, 100, 55, 52, 56, 48, 100, 101, 98, 49, 102, 101, 57, 98, 100, 99, 48, 54, 97, 55, 99, 49, 57, 98, 102, 49, 55, 52]
def cS2 : List UInt8 := [101, 52, 57, 98, 54, 57, 99, 49, 101, 102, 98, 101, 52, 55, 56, 54, 48, 102, 99, 49, 57, 100, 99, 54, 50, 52, 48, 99, 97, 49, 99, 99, 50, 100, 101, 57, 50, 99, 54, 102, 52, 97, 55, 52, 56, 52, 97, 97, 53, 99, 98, 48, 97, 57, 100, 99, 55, 54, 102, 57, 56, 56, 100, 97]
def cS3 : List UInt8 := [57, 56, 51, 101, 53, 49, 53, 50, 97, 56, 51, 49, 99, 54, 54, 100, 98, 48, 48, 51, 50, 55, 99, 56, 98, 102, 53, 57, 55, 102, 99, 55, 99, 54, 101, 48, 48, 98, 102, 51, 100, 53, 97, 55, 57, 49, 52, 55, 48, 54, 99, 97, 54, 51, 53, 49, 49, 52, 50, 57, 50, 57, 54, 55]
def cS4 : List UInt8 := [50, 55, 98, 55, 48, 97, 56, 53, 50, 101, 49, 98, 50, 49, 51, 56, 52, 100, 50, 99, 54, 100, 102, 99, 53, 51, 51, 56, 48, 100, 49, 51, 54, 53, 48, 97, 55, 51, 53, 52, 55, 54, 54, 97, 48, 97, 98, 98, 56, 49, 99, 50, 99, 57, 50, 101, 57, 50, 55, 50, 50, 99, 56, 53]
def cS5 : List UInt8 := [97, 50, 98, 102, 101, 56, 97, 49, 97, 56, 49, 97, 54, 54, 52, 98, 99, 50, 52, 98, 56, 98, 55, 48, 99, 55, 54, 99, 53, 49, 97, 51, 100, 49, 57, 50, 101, 56, 49, 57, 100, 54, 57, 57, 48, 54, 50, 52, 102, 52, 48, 101, 51, 53, 56, 53, 49, 48, 54, 97, 97, 48, 55, 48]
def cS6 : List UInt8 := [49, 57, 97, 52, 99, 49, 49, 54, 49, 101, 51, 55, 54, 99, 48, 56, 50, 55, 52, 56, 55, 55, 52, 99, 51, 52, 98, 48, 98, 99, 98, 53, 51, 57, 49, 99, 48, 99, 98, 51, 52, 101, 100, 56, 97, 97, 52, 97, 53, 98, 57, 99, 99, 97, 52, 102, 54, 56, 50, 101, 54, 102, 102, 51]
def cS7 : List UInt8 := [55, 52, 56, 102, 56, 50, 101, 101, 55, 56, 97, 53, 54, 51, 54, 102, 56, 52, 99, 56, 55, 56, 49, 52, 56, 99, 99, 55, 48, 50, 48, 56, 57, 48, 98, 101, 102, 102, 102, 97, 97, 52, 53, 48, 54, 99, 101, 98, 98, 101, 102, 57, 97, 51, 102, 55, 99, 54, 55, 49, 55, 56, 102, 50]
def constS : List UInt8 := (((cS0.append cS1).append (cS2.append cS3)).append ((cS4.append cS5).append (cS6.append cS7)))
theorem firstW : wordsL firstS 8 = s8Start.l := by decide +kernel
theorem constW : wordsL constS 64 = kList := by decide +kernel
theorem firstH : (∀ x ∈ firstS, isHex x) ∧ firstS.length = 64 := by decide +kernel
theorem constH : (∀ x ∈ constS, isHex x) ∧ constS.length = 512 := by decide +kernel

theorem out8_get (s : S8) {i : Nat} (h : i < 32) : (out8 s).getD i 0 = UInt8.ofNat (shr (s.l.getD (i / 4) 0) (24 - 8 * (i % 4))).toNat := by
  have key : ∀ (x : UInt32) (j : Nat), j < 4 → (be x.toNat 4).getD j 0 = UInt8.ofNat (shr x (24 - 8 * j)).toNat := by
    intro x j hj
    have e : ∀ k, (shr x (8 * k)).toNat = x.toNat / 256 ^ k := fun k => by
      show (x.toBitVec >>> (8 * k)).toNat = _
      rw [BitVec.toNat_ushiftRight, Nat.shiftRight_eq_div_pow, Nat.pow_mul]
      rfl
    match j, hj with
    | 0, _ => show UInt8.ofNat _ = _; rw [show 24 - 8 * 0 = 8 * 3 from rfl, e]
    | 1, _ => show UInt8.ofNat _ = _; rw [show 24 - 8 * 1 = 8 * 2 from rfl, e]
    | 2, _ => show UInt8.ofNat _ = _; rw [show 24 - 8 * 2 = 8 * 1 from rfl, e]
    | 3, _ => show UInt8.ofNat _ = _; rw [show 24 - 8 * 3 = 8 * 0 from rfl, e]
  have cat : ∀ (l : List UInt32) (i : Nat), i < 4 * l.length → (l.flatMap fun x => be x.toNat 4).getD i 0 = (be (l.getD (i / 4) 0).toNat 4).getD (i % 4) 0 := by
    intro l
    induction l with
    | nil => intro i h; simp at h
    | cons x r ih =>
      intro i h
      rw [List.flatMap_cons, List.getD_eq_getElem?_getD]
      by_cases h4 : i < 4
      · rw [List.getElem?_append_left (by rw [be_len]; exact h4), show i / 4 = 0 by omega, show i % 4 = i by omega]
        rfl
      · rw [List.getElem?_append_right (by rw [be_len]; omega), be_len, ← List.getD_eq_getElem?_getD, ih (i - 4) (by rw [List.length_cons] at h; omega), show i / 4 = (i - 4) / 4 + 1 by omega, show (i - 4) % 4 = i % 4 by omega]
        rfl
  rw [out8, cat _ _ (by show i < 4 * 8; omega)]
  exact key _ _ (Nat.mod_lt _ (by decide))

def outB (s : S8) (n : Nat) : List UInt8 := (out8 s).take n ++ List.replicate (32 - n) 0
theorem outB_len (s : S8) {n : Nat} (h : n ≤ 32) : (outB s n).length = 32 := by rw [outB, List.length_append, List.length_take, out8_len, List.length_replicate]; omega
theorem outB_succ (s : S8) {i : Nat} (h : i < 32) : (outB s i).set i ((out8 s).getD i 0) = outB s (i + 1) := by
  have hl : i < (out8 s).length := by rw [out8_len]; exact h
  have e : 32 - i = (32 - (i + 1)) + 1 := by omega
  have e2 : ((out8 s).take i).length = i := by rw [List.length_take]; omega
  rw [outB, outB, List.take_succ_eq_append_getElem hl, List.set_append, if_neg (by omega), e2, Nat.sub_self, e, List.replicate_succ, List.set_cons_zero, List.append_assoc, getD_get hl]
  rfl
theorem outB_all (s : S8) : outB s 32 = out8 s := by rw [outB, List.take_of_length_le (by rw [out8_len]; exact Nat.le_refl _)]; simp

set_option maxRecDepth 100000 in
set_option maxHeartbeats 4000000 in
theorem refSum_c {S M} (w : World) (hst : St S M w) (vb : Value) (b : List UInt8) (hb : RSl S vb b) (hm : b.length ≤ 8000000) :
    Rets Tryd.prog 81 [vb] w fun v w' => v = .agg (u8s (hash b)).toArray ∧ St S M w' := by
  unfold Rets
  have hpz : padZ b.length < 64 := Nat.mod_lt _ (by decide)
  have hb1 := hb.oneCell
  go_enter Tryd.func81, Tryd.ntmps81
  repeat' ((fail_if_success (with_reducible show Code.wp _ (Code.region 1 _ _) _ _ _)); first | ((fail_if_success (go_big_may)); (go_step)) | (((((refine s_alloc hst inX ?_; clear hst; intro bk w hst)))) <;> (try refine nY ?_) <;> (try replace hst := nH hst)))
  rename Nat => b2
  refine wp_region_lit ?_
  refine s_lit (vs := []) (cs := []) hst (by infer_instance) (by infer_instance) rfl rfl (by simp) rfl (by omega) (by omega) ?_
  clear hst; intro u w hst
  refine nY ?_
  repeat' (((fail_if_success (go_big_may)); (go_step)))
  refine s_append_data (k := 0) hst evX evX rfl hb (by infer_instance) (by infer_instance) (by infer_instance) (by first | (simp; done) | (simp at hm ⊢; omega)) (by first | (simp; done) | (simp at hm ⊢; omega)) (by decide) ?_
  clear hst; intro v' w c' hc hst
  rw [hc.eq_u8s] at hst
  simp only [List.set_cons_zero, List.nil_append, Nat.zero_add] at hst
  have hone0 := sl_one hst
  refine nY ?_
  repeat' (fail)
  refine s_lit (vs := [.int .u8 128]) hst inX inX rfl rfl (by simp [Value.cells]) rfl (by omega) (by omega) ?_
  clear hst; intro u w hst
  refine nY ?_
  repeat' (fail)
  refine s_append (j := 0) hst evX evX SlIn.h rfl inX inX inX (by simp [Value.cells, Value.oneCell']) (by omega) (by omega) (by decide) ?_
  clear hst; intro v' w hst
  refine nY ?_
  (try replace hst := nH hst)
  replace hst := hst.drop
  repeat' (((fail_if_success (go_big_may)); (go_step)))
  have hone := sl_one hst
  have hst : St S (.sl v' 5 1 (b ++ [128]).length (u8s (b ++ [128])) :: .box b2 (u8s (List.replicate 32 0)) 69 :: M) w := by
    rw [List.length_append, u8s_snoc]
    exact hst
  go_loopw [3] (fun v wr => ∃ (j : Nat) (c : List UInt8), j ≤ padZ b.length ∧ Hid (c = b ++ [128] ++ List.replicate j 0) ∧ (b.length + 1 + j ≤ c.length ∧ c.length ≤ b.length + 1 + j) ∧ v.oneCell' = true ∧ lenOf v = c.length ∧ St S (.sl v 5 1 c.length (u8s c) :: .box b2 (u8s (List.replicate 32 0)) 69 :: M) wr) (fun v _ => b.length + 65 - lenOf v)
  case atStart => exact ⟨0, _, by omega, Lib.hid (by simp), by simp, hone, sl_lenOf hst, hst⟩
  case round =>
    clear hst
    obtain ⟨j, c, hj, hc, hcl, hone, hlo, hst⟩ := hrel
    have Hlo := Lib.hid hlo
    clear hlo
    have hmod : ((c.length : Int) % 64 = 56 → padZ b.length ≤ j) ∧ (padZ b.length ≤ j → (c.length : Int) % 64 = 56) := by
      unfold padZ at hj ⊢
      omega
    by_cases hlt : j < padZ b.length
    · have h56 : ((c.length : Int) % 64 == 56) = false := beq_eq_false_iff_ne.2 (by omega)
      have h56' : ((c.length : Int) % 64 != 56) = true := bne_iff_ne.2 (by omega)
      clear hmod
      repeat' (first | ((fail_if_success (go_big_may)); (go_step)) | (((with_reducible refine Sl.k_call ?_; (refine s_qt hst (by exact qt_len_own evX SlIn.h inX) ?_))) <;> (try refine nY ?_)) | (with_reducible refine Sl.gate rfl ?_; (go_step)))
      refine s_lit (vs := [.int .u8 0]) hst inX inX rfl rfl (by simp [Value.cells]) rfl (by omega) (by omega) ?_
      clear hst; intro u w hst
      refine nY ?_
      repeat' (fail)
      refine s_append (j := 0) hst evX evX SlIn.h rfl inX inX inX (by simp [Value.cells, Value.oneCell']) (by omega) (by omega) (by decide) ?_
      clear hst; intro v' w hst
      refine nY ?_
      (try replace hst := nH hst)
      replace hst := hst.drop
      repeat' (((fail_if_success (go_big_may)); (go_step)))
      have hone' := sl_one hst
      have hlo' := sl_lenOf hst
      go_roundw
      case rel => exact ⟨j + 1, c ++ [0], by omega, Lib.hid (by rw [hc.out, List.append_assoc, List.append_assoc, List.append_assoc, ← List.replicate_succ']), by simp; omega, hone', by simpa using hlo', by rw [List.length_append, u8s_snoc]; exact hst⟩
      case measure =>
        have h1 := Hlo.out
        have h2 : lenOf v' = c.length + 1 := by simpa using hlo'
        show b.length + 65 - lenOf v' < b.length + 65 - lenOf _
        rw [h2]
        omega
    · have h56' : ((c.length : Int) % 64 != 56) = false := bne_eq_false_iff_eq.2 (by omega)
      clear hmod
      obtain rfl : j = padZ b.length := by omega
      repeat' (first | ((fail_if_success (go_big_may)); (go_step)) | (((with_reducible refine Sl.k_call ?_; (refine s_qt hst (by first | exact qt_len evX asX inX | exact qt_len_own evX SlIn.h inX) ?_))) <;> (try refine nY ?_)) | (with_reducible refine Sl.gate rfl ?_; (go_step)))
      obtain ⟨c0, hc0⟩ : ∃ c0 : List UInt8, c = c0 := ⟨c, rfl⟩
      have hpad : Hid (c ++ be (8 * b.length) 8 = pad b) := Lib.hid (by rw [hc.out]; rfl)
      have hlen0 : c.length ≤ 8000100 := by omega
      clear hlt hj hc hcl Hlo h56'
      go_loopw [3, 5] (fun va v wr => ∃ (j : Nat) (k : Int) (c2 : List UInt8), j ≤ 8 ∧ v = .int .i64 k ∧ k = (j : Int) - 1 ∧ Hid (c2 ++ be (8 * b.length) j = c ++ be (8 * b.length) 8) ∧ c2.length + j ≤ c.length + 8 ∧ va.oneCell' = true ∧ St S (.sl va 5 1 c2.length (u8s c2) :: .box b2 (u8s (List.replicate 32 0)) 69 :: M) wr) (fun _ v _ => (intOf v + 1).toNat)
      case atStart => exact ⟨8, _, c, by omega, rfl, by omega, Lib.hid rfl, by omega, hone, hst⟩
      case round =>
        clear hst hone
        obtain ⟨j, k, c2, hj, rfl, hk', hc2, hcl, hone, hst⟩ := hrel
        rcases Nat.eq_zero_or_pos j with rfl | hj0
        · obtain rfl : k = -1 := by omega
          clear hk'
          have e : c2 = pad b := by rw [← hpad.out, ← hc2.out]; simp [be]
          clear hpad hc2 hcl
          subst e
          have hpl : (pad b).length ≤ 16777216 := by rw [pad_len]; omega
          have hlen : Hid ((pad b).length = 64 * ((pad b).length / 64)) := Lib.hid (by have := pad_mod b; omega)
          repeat' (first | ((fail_if_success (go_big_may)); (go_step)) | (with_reducible refine Sl.gate rfl ?_; (go_step)))
          obtain ⟨S1, hS1, hst, hpv⟩ := lit_u8 (pad b) hst rfl rfl
          have hone1 := hpv.oneCell
          repeat' (first | (((with_reducible refine Sl.k_call ?_; ((refine s_call (words_c _ hst firstS 8 (by rw [firstH.2]; decide) firstH.1 (by rw [firstH.2]; decide)) inX rfl ?_; clear hst; rintro v w hst)))) <;> (try refine nY ?_) <;> (try replace hst := nH hst)) | ((fail_if_success (go_big_may)); (go_step)))
          rw [firstW] at hst
          obtain ⟨S2, hS2, hst, hvv⟩ := lit_u32 s8Start.l hst rfl rfl
          have hvv1 := hvv.oneCell
          repeat' (first | (((with_reducible refine Sl.k_call ?_; ((refine s_call (words_c _ hst constS 64 (by rw [constH.2]; decide) constH.1 (by rw [constH.2]; decide)) inX rfl ?_; clear hst; rintro v w hst)))) <;> (try refine nY ?_) <;> (try replace hst := nH hst)) | ((fail_if_success (go_big_may)); (go_step)))
          rw [constW] at hst
          obtain ⟨S3, hS3, hst, hvk⟩ := lit_u32 kList hst rfl rfl
          have hvk1 := hvk.oneCell
          have hpv3 := (hpv.mono hS2).mono hS3
          replace hvv := hvv.mono hS3
          have hSS := (hS1.trans hS2).trans hS3
          clear hpv hS1 hS2 hS3
          rename_i v6 _ _ v7 _
          repeat' (fail)
          go_loopw [6, 8] (fun v vi wr => ∃ (S' : Snap) (k m : Nat), Hid (m = 64 * k) ∧ m ≤ (pad b).length ∧ vi = .int .i64 (m : Int) ∧ S3.Le S' ∧ RSl S' v (blocks (pad b) k).l ∧ St S' (.box b2 (u8s (List.replicate 32 0)) 69 :: M) wr) (fun _ v _ => (pad b).length - (intOf v).toNat)
          case atStart => exact ⟨S3, 0, 0, Lib.hid rfl, by omega, rfl, Snap.Le.refl _, hvv, hst⟩
          case round =>
            clear hst hvv
            obtain ⟨S4, k, m, hmk, hk, rfl, hS4, hvv, hst⟩ := hrel
            have hpv4 := hpv3.mono hS4
            have hvk4 := hvk.mono hS4
            have hvv1 := hvv.oneCell
            by_cases hlt : m < (pad b).length
            · have hk1 : m + 64 ≤ (pad b).length := by have := hlen.out; have := hmk.out; omega
              repeat' (first | ((fail_if_success (go_big_may)); (go_step)) | (((with_reducible refine Sl.k_call ?_; (refine s_qt hst (by exact qt_len evX asX inX) ?_))) <;> (try refine nY ?_)) | (with_reducible refine Sl.gate rfl ?_; (go_step)))
              refine s_slice (a := m) (b := m + 64) evX hpv4 inX inX (.inr ⟨.i64, by simp [evF, nth]⟩) (.inr ⟨.i64, by simp [evF, nth]⟩) (.inl rfl) (by omega) (by omega) ?_
              intro vs hvs
              have hvs1 := hvs.oneCell
              refine nY ?_
              repeat' (first | (((with_reducible refine Sl.k_call ?_; ((refine s_call (refComp_c _ hst _ vs _ (blocks (pad b) k) _ hvv hvs hvk4 (by rw [List.length_take, List.length_drop]; omega)) inX rfl ?_; clear hst; rintro v w hst)))) <;> (try refine nY ?_) <;> (try replace hst := nH hst)) | ((fail_if_success (go_big_may)); (go_step)) | (with_reducible refine Sl.gate rfl ?_; (go_step)))
              obtain ⟨S5, hS5, hst, hnv⟩ := lit_u32 (comp (blocks (pad b) k) (((pad b).drop m).take (m + 64 - m))).l hst rfl rfl
              have hnv1 := hnv.oneCell
              repeat' (fail)
              go_roundw
              case rel => exact ⟨S5, k + 1, m + 64, Lib.hid (by rw [hmk.out]; omega), hk1, by go_num, hS4.trans hS5, by rw [blocks, ← hmk.out]; rw [Nat.add_sub_cancel_left] at hnv; exact hnv, hst⟩
              case measure => simp [intOf]; omega
            · have hkN : k = (pad b).length / 64 := by have := hlen.out; have := hmk.out; omega
              obtain ⟨s8, hs8⟩ : ∃ s8, blocks (pad b) ((pad b).length / 64) = s8 := ⟨_, rfl⟩
              rw [hkN, hs8] at hvv
              have H8 : Hid (hash b = out8 s8) := Lib.hid (by rw [hash, hs8])
              have hwl : 8 ≤ s8.l.length := Nat.le_refl 8
              clear hs8 hkN
              repeat' (first | ((fail_if_success (go_big_may)); (go_step)) | (((with_reducible refine Sl.k_call ?_; (refine s_qt hst (by exact qt_len evX asX inX) ?_))) <;> (try refine nY ?_)) | (with_reducible refine Sl.gate rfl ?_; (go_step)) | ((((first | (with_reducible refine Sl.k_store ?_; (refine s_store hst rfl _ BoxIn.h inX evX rfl lenOk oneOk (by simp) ?_); clear hst; intro w hst) | (refine s_alloc hst inX ?_; clear hst; intro bk w hst)))) <;> (try refine nY ?_) <;> (try replace hst := nH hst)))
              have hst : St S4 (.box bk (u8s (outB s8 0)) 69 :: .box b2 (u8s (List.replicate 32 0)) 69 :: M) w := hst
              rename Nat => b9
              go_loopw [10] (fun v wr => ∃ (i : Nat) (c : List UInt8), i ≤ 32 ∧ v = .int .i64 i ∧ Hid (c = outB s8 i) ∧ (32 ≤ c.length ∧ c.length ≤ 32) ∧ St S4 (.box b9 (u8s c) 69 :: .box b2 (u8s (List.replicate 32 0)) 69 :: M) wr) (fun v _ => 32 - (intOf v).toNat)
              case atStart => exact ⟨0, _, by omega, rfl, Lib.hid rfl, by rw [outB_len _ (by omega)]; omega, hst⟩
              case round =>
                clear hst
                obtain ⟨i, c, hi, rfl, hc, hcl, hst⟩ := hrel
                by_cases hlt : i < 32
                · have hE := Lib.hid (outB_succ s8 hlt)
                  have hF := Lib.hid (out8_get s8 hlt)
                  have hG := Lib.hid (getD_get (l := s8.l) (i := i / 4) (by omega) 0)
                  repeat' (first | ((first | (with_reducible (refine Sl.k_conv ?_; refine s_qt hst (qt_conv328 rfl inX inX) ?_)) | (with_reducible refine Sl.k_bin ?_; refine s_qt hst (by exact qt_shr32 rfl rfl omX) ?_)) <;> (try refine nY ?_)) | ((fail_if_success (go_big_may)); (go_step)) | ((first | (with_reducible refine Sl.k_load ?_; (refine s_qt hst (by exact qt_ldp_u32 evX asX inX) ?_)) | (with_reducible refine Sl.k_index ?_; (first | refine s_qt hst (qt_indexA rfl rfl inX inX omX omX) ?_ | ((refine s_ex hst (qt_index evX asX rfl inX inX omX omX) ?_); rintro v hp; (try simp only [Int.toNat_natCast, Int.toNat_natCast_add_one, Int.reduceToNat] at hp))))) <;> (try refine nY ?_)) | (with_reducible refine Sl.gate rfl ?_; (go_step)) | (((((with_reducible refine Sl.k_store ?_; (refine s_stB8 hst rfl BoxIn.h inX evX omX ?_); clear hst; intro w hst)))) <;> (try refine nY ?_) <;> (try replace hst := nH hst)))
                  have e1 : ((i : Int) / 4).toNat = i / 4 := by omega
                  have e2 : (24 - 8 * ((i : Int) % 4)).toNat = 24 - 8 * (i % 4) := by omega
                  simp only [e1, e2] at hst
                  go_roundw
                  case rel => exact ⟨i + 1, _, by omega, by go_num, Lib.hid (by rw [hc.out, ← hE.out, hF.out, hG.out]), by rw [List.length_set]; exact hcl, hst⟩
                  case measure => simp [intOf]; omega
                · obtain rfl : i = 32 := by omega
                  obtain rfl : c = hash b := by rw [hc.out, H8.out, outB_all]
                  haveI : LenIs (hash b) 32 := ⟨hash_len b⟩
                  repeat' (first | ((fail_if_success (go_big_may)); (go_step)) | (((with_reducible refine Sl.k_load ?_; (refine s_qt hst (by exact qt_loadA evX BoxIn.h inX rfX) ?_))) <;> (try refine nY ?_)) | (with_reducible refine Sl.gate rfl ?_; (go_step)))
                  refine s_stD hst rfl BoxIn.h inX evX inX lenX ?_
                  clear hst; intro w hst
                  (try refine nY ?_)
                  (try replace hst := nH hst)
                  repeat' (((fail_if_success (go_big_may)); (go_step)))
                  exact ret_D rfl hst rfl BoxIn.h inX inX ⟨_, rfl, rfl, St.weaken (hSS.trans hS4) hst.drop.drop⟩
        · obtain ⟨i, rfl⟩ : ∃ i, j = i + 1 := ⟨j - 1, by omega⟩
          obtain rfl : k = (i : Int) := by omega
          clear hk'
          repeat' (first | ((fail_if_success (go_big_may)); (go_step)) | (with_reducible refine Sl.gate rfl ?_; (go_step)))
          refine s_lit (vs := [.int .u8 ((8 * (b.length : Int)) / 2 ^ (8 * i) % 256)]) hst inX inX rfl rfl (by simp [Value.cells]) rfl (by omega) (by omega) ?_
          clear hst; intro u w hst
          refine nY ?_
          repeat' (fail)
          refine s_append (j := 0) hst evX evX SlIn.h rfl inX inX inX (by simp [Value.cells, Value.oneCell']) (by omega) (by omega) (by decide) ?_
          clear hst; intro v' w hst
          refine nY ?_
          (try replace hst := nH hst)
          replace hst := hst.drop
          repeat' (first | ((fail_if_success (go_big_may)); (go_step)) | (with_reducible refine Sl.gate rfl ?_; (go_step)))
          have h3 := sl_one hst
          go_roundw
          case rel => exact ⟨i, _, c2 ++ [UInt8.ofNat (8 * b.length / 256 ^ i)], by omega, rfl, by omega, Lib.hid (by rw [← hc2.out, be_succ]; simp), by simp; omega, h3, by rw [List.length_append, u8s_snoc, ← shr_byte]; exact hst⟩
          case measure => simp [intOf]
end Go.Proofs.YtjapdhaimbalkaaDoor

/- The reference's digests. -/
--@u32
--@hgp
--@flat
--@ex0
--@b8
--@dg
namespace Go.Proofs.YtjapdhaimbalkaaDoor
set_option linter.unusedSimpArgs false
set_option linter.unusedVariables false
open Go.RowKit Go.Sl

def takeB (h : List UInt8) (n : Nat) : List UInt8 := h.take n ++ List.replicate (16 - n) 0
theorem takeB_len {h : List UInt8} (hl : h.length = 32) {n : Nat} (hn : n ≤ 16) : (takeB h n).length = 16 := by rw [takeB, List.length_append, List.length_take, List.length_replicate]; omega
theorem takeB_succ {h : List UInt8} (hl : h.length = 32) {i : Nat} (hi : i < 16) : (takeB h i).set i (h.getD i 0) = takeB h (i + 1) := by
  have hl2 : i < h.length := by omega
  have e : 16 - i = (16 - (i + 1)) + 1 := by omega
  have e2 : (h.take i).length = i := by rw [List.length_take]; omega
  rw [takeB, takeB, List.take_succ_eq_append_getElem hl2, List.set_append, if_neg (by omega), e2, Nat.sub_self, e, List.replicate_succ, List.set_cons_zero, List.append_assoc, getD_get hl2]
  rfl
theorem takeB_all (h : List UInt8) : takeB h 16 = h.take 16 := by rw [takeB]; simp

set_option maxRecDepth 8000 in
set_option maxHeartbeats 400000 in
theorem refShort_c {S M} (w : World) (hst : St S M w) (h : List UInt8) (hl : h.length = 32) :
    Rets Tryd.prog 80 [.agg (u8s h).toArray] w fun v w' => v = .agg (u8s (h.take 16)).toArray ∧ St S M w' := by
  unfold Rets
  have hll : 32 ≤ h.length := by omega
  go_enter Tryd.func80, Tryd.ntmps80
  repeat' (first | ((fail_if_success (go_big_may)); (go_step)) | (with_reducible refine Sl.gate rfl ?_; (go_step)) | ((((first | (with_reducible refine Sl.k_store ?_; (refine s_store hst rfl _ BoxIn.h inX evX rfl lenOk oneOk (by simp) ?_); clear hst; intro w hst) | (refine s_box hst evX rfl ?_; clear hst; intro bx w hst) | (refine s_alloc hst inX ?_; clear hst; intro bk w hst)))) <;> (try refine nY ?_) <;> (try replace hst := nH hst)))
  rename_i b3 _ _ _ _
  have hst : St S (.box bk (u8s (takeB h 0)) 32 :: .box b3 (u8s (List.replicate 16 0)) 32 :: .box bx (u8s h) 69 :: M) w := hst
  go_loopw [4] (fun v wr => ∃ (i : Nat) (c : List UInt8), i ≤ 16 ∧ v = .int .i64 i ∧ Hid (c = takeB h i) ∧ (16 ≤ c.length ∧ c.length ≤ 16) ∧ St S (.box bk (u8s c) 32 :: .box b3 (u8s (List.replicate 16 0)) 32 :: .box bx (u8s h) 69 :: M) wr) (fun v _ => 16 - (intOf v).toNat)
  case atStart => exact ⟨0, _, by omega, rfl, Lib.hid rfl, by rw [takeB_len hl (by omega)]; omega, hst⟩
  case round =>
    clear hst
    obtain ⟨i, c, hi, rfl, hc, hcl, hst⟩ := hrel
    by_cases hlt : i < 16
    · have hE := Lib.hid (takeB_succ hl hlt)
      clear hl
      repeat' (first | ((fail_if_success (go_big_may)); (go_step)) | ((first | (with_reducible refine Sl.k_load ?_; (refine s_qt hst (by exact qt_ldB8 evX BoxIn.h inX omX) ?_)) | (with_reducible refine Sl.k_index ?_; (refine s_qt hst (qt_indexA rfl rfl inX inX omX omX) ?_))) <;> (try refine nY ?_)) | (with_reducible refine Sl.gate rfl ?_; (go_step)) | (((((with_reducible refine Sl.k_store ?_; (refine s_stB8 hst rfl BoxIn.h inX evX omX ?_); clear hst; intro w hst)))) <;> (try refine nY ?_) <;> (try replace hst := nH hst)))
      go_roundw
      case rel => exact ⟨i + 1, _, by omega, by go_num, Lib.hid (by rw [hc.out, ← hE.out]), by rw [List.length_set]; exact hcl, hst⟩
      case measure => simp [intOf]; omega
    · obtain rfl : i = 16 := by omega
      obtain rfl : c = h.take 16 := by rw [hc.out, takeB_all]
      haveI : LenIs (h.take 16) 16 := ⟨by rw [List.length_take]; omega⟩
      repeat' (first | ((fail_if_success (go_big_may)); (go_step)) | (((with_reducible refine Sl.k_load ?_; (refine s_qt hst (by exact qt_loadD evX BoxIn.h inX inX) ?_))) <;> (try refine nY ?_)) | (with_reducible refine Sl.gate rfl ?_; (go_step)) | (((((with_reducible refine Sl.k_store ?_; (refine s_stD hst rfl BoxIn.h inX evX inX lenX ?_); clear hst; intro w hst)))) <;> (try refine nY ?_) <;> (try replace hst := nH hst)))
      exact ret_D rfl hst rfl BoxIn.h inX inX ⟨_, rfl, rfl, hst.drop.drop.drop⟩

set_option maxRecDepth 8000 in
set_option maxHeartbeats 400000 in
theorem refDigest_c {S M} (w : World) (hst : St S M w) (tag : Int) (h0 : 0 ≤ tag ∧ tag ≤ 255) (vp : Value) (parts : List (List UInt8)) (hp : RSl S vp parts) (hs : sizeB parts ≤ 1048576) :
    Rets Tryd.prog 51 [.int .i64 tag, vp] w fun v w' => v = .agg (u8s (dig tag parts)).toArray ∧ St S M w' := by
  unfold Rets
  obtain ⟨t, rfl⟩ : ∃ t : Nat, tag = t := ⟨tag.toNat, by omega⟩
  have ht : [Value.int .u8 (t : Int)] = u8s [UInt8.ofNat t] := by
    simp only [u8s, List.map_cons, List.map_nil, UInt8.toNat_ofNat']
    congr 2
    omega
  have hpn : parts.length ≤ 1048576 := by unfold sizeB at hs; omega
  go_enter Tryd.func51, Tryd.ntmps51
  repeat' (first | ((fail_if_success (go_big_may)); (go_step)) | (with_reducible refine Sl.gate rfl ?_; (go_step)) | (((((refine s_alloc hst inX ?_; clear hst; intro bk w hst)))) <;> (try refine nY ?_) <;> (try replace hst := nH hst)))
  refine s_lit (vs := [.int .u8 (t : Int)]) hst inX inX rfl rfl (by simp [Value.cells]) rfl (by omega) (by omega) ?_
  clear hst; intro x w hst
  have hst : St S (.sl x 5 1 [UInt8.ofNat t].length (u8s [UInt8.ofNat t]) :: .box bk (u8s (List.replicate 16 0)) 32 :: M) w := by rw [← ht]; exact hst
  have hx1 := sl_one hst
  refine nY ?_
  repeat' (((fail_if_success (go_big_may)); (go_step)))
  go_loopw [5, 6] (fun u v wr => ∃ (i : Nat) (c : List UInt8), i ≤ parts.length ∧ v = .int .i64 i ∧ Hid (c = [UInt8.ofNat t] ++ joinB (parts.take i)) ∧ c.length ≤ 1 + sizeB parts ∧ u.oneCell' = true ∧ St S (.sl u 5 1 c.length (u8s c) :: .box bk (u8s (List.replicate 16 0)) 32 :: M) wr) (fun _ v _ => parts.length - (intOf v).toNat)
  case atStart => exact ⟨0, _, Nat.zero_le _, rfl, Lib.hid (by simp [joinB]), Nat.le_add_right 1 _, hx1, hst⟩
  case round =>
    clear hst
    obtain ⟨i, c, hi, rfl, hc, hcl, hone, hst⟩ := hrel
    by_cases hlt : i < parts.length
    · have hpl := sizeB_mem (List.getElem_mem hlt)
      have hcn : (c ++ encB parts[i]).length ≤ 1 + sizeB parts := by
        have h1 := joinB_len (parts.take (i + 1))
        have h2 := sizeB_take parts (i + 1)
        have e : c ++ encB parts[i] = [UInt8.ofNat t] ++ joinB (parts.take (i + 1)) := by
          rw [hc.out, List.take_succ_eq_append_getElem hlt, joinB, joinB, List.flatMap_append, List.append_assoc]
          simp
        rw [e, List.length_append]
        simp only [List.length_cons, List.length_nil]
        omega
      rw [List.length_append] at hcn
      repeat' (first | (((with_reducible refine Sl.k_conv ?_; refine s_stringI hst evX asX inX inX inX ?_)) <;> (try refine nY ?_)) | (((with_reducible refine Sl.k_call ?_; ((refine s_call (refBytes_c _ hst parts[i] (by omega)) inX rfl ?_; clear hst; rintro v w hst)))) <;> (try refine nY ?_) <;> (try replace hst := nH hst)) | ((fail_if_success (go_big_may)); (go_step)) | ((first | (with_reducible refine Sl.k_load ?_; ((refine s_ex hst (qt_ldp_list evX asX inX) ?_; rintro v ⟨hvl, hv1⟩))) | (with_reducible refine Sl.k_index ?_; (((refine s_ex hst (qt_index evX asX rfl inX inX omX omX) ?_); rintro v hp; (try simp only [Int.toNat_natCast, Int.toNat_natCast_add_one, Int.reduceToNat] at hp)))) | (with_reducible refine Sl.k_call ?_; (refine s_qt hst (by exact qt_len evX asX inX) ?_))) <;> (try refine nY ?_)) | (with_reducible refine Sl.gate rfl ?_; (go_step)))
      refine s_append (j := 0) hst evX evX SlIn.h rfl inX inX inX (u8s_one _) (by omega) (by omega) (by decide) ?_
      clear hst; intro v' w hst
      (try refine nY ?_)
      (try replace hst := nH hst)
      replace hst := hst.drop
      repeat' (first | ((fail_if_success (go_big_may)); (go_step)) | (with_reducible refine Sl.gate rfl ?_; (go_step)))
      have hone' := sl_one hst
      go_roundw
      case rel =>
        refine ⟨i + 1, c ++ encB parts[i], by omega, by go_num, Lib.hid ?_, by rw [List.length_append]; exact hcn, hone', ?_⟩
        · rw [hc.out, List.take_succ_eq_append_getElem hlt, joinB, joinB, List.flatMap_append, List.append_assoc]
          simp
        · rw [u8s_append, List.length_append]
          exact hst
      case measure => simp [intOf]; omega
    · rw [List.take_of_length_le (l := parts) (i := i) (by omega)] at hc
      obtain ⟨S1, hS1, hst, hv⟩ := lit_u8 c hst rfl rfl
      have hv1 := hv.oneCell
      replace hp := hp.mono hS1
      have hdg : Hid ((hash c).take 16 = dig (t : Int) parts) := Lib.hid (by rw [hc.out, dig]; rfl)
      haveI : LenIs ((hash c).take 16) 16 := ⟨by rw [List.length_take, hash_len]; rfl⟩
      repeat' (first | (((with_reducible refine Sl.k_call ?_; (first | (refine s_call (refSum_c _ hst _ c hv (by omega)) inX rfl ?_; clear hst; rintro v w ⟨rfl, hst⟩) | (refine s_call (refShort_c _ hst _ (hash_len _)) inX rfl ?_; clear hst; rintro v w ⟨rfl, hst⟩)))) <;> (try refine nY ?_) <;> (try replace hst := nH hst)) | ((fail_if_success (go_big_may)); (go_step)) | (((with_reducible refine Sl.k_call ?_; (refine s_qt hst (by exact qt_len evX asX inX) ?_))) <;> (try refine nY ?_)) | (with_reducible refine Sl.gate rfl ?_; (go_step)) | (((((with_reducible refine Sl.k_store ?_; (refine s_stD hst rfl BoxIn.h inX evX inX lenX ?_); clear hst; intro w hst)))) <;> (try refine nY ?_) <;> (try replace hst := nH hst)))
      exact ret_D rfl hst rfl BoxIn.h inX inX ⟨_, rfl, by rw [hdg.out], St.weaken hS1 hst.drop⟩
end Go.Proofs.YtjapdhaimbalkaaDoor

/- Package manifest: the reference's encoders, walked. -/
--@opt
--@u32
--@hgp
--@flat
--@dg
--@ex0
namespace Go.Proofs.YtjapdhaimbalkaaDoor
set_option linter.unusedSimpArgs false
set_option linter.unusedVariables false
open Go.RowKit Go.Sl

theorem encMF_eq4 (m : MF) : encMF m = encI m.1 ++ (encI m.2.1 ++ (encI m.2.2.1 ++ encD m.2.2.2.1)) := by simp [encMF]

set_option maxRecDepth 8000 in
set_option maxHeartbeats 1000000 in
theorem rmf_c {S M} (w : World) (hst : St S M w) (cs : List Value) (m : MF) (hR : Rep.R S cs m) (hB : (encMF m).length ≤ 1048576) :
    Rets Tryd.prog 76 [.agg cs.toArray] w fun v w' => OwnB S M (encMF m) v w' := by
  unfold Rets
  obtain ⟨i1, i2, i3, i4⟩ := mf_ok hR
  have hl4 := encD_ge _ i4
  rw [encMF_eq4] at hB ⊢
  simp only [List.length_append] at hB
  go_enter Tryd.func76, Tryd.ntmps76
  repeat' ((fail_if_success (with_reducible show Code.wp _ (Code.region 1 _ _) _ _ _)); first | ((fail_if_success (go_big_may)); (go_step)) | (((((refine s_box hst evX rfl ?_; clear hst; intro bx w hst)))) <;> (try refine nY ?_) <;> (try replace hst := nH hst)))
  obtain ⟨S1, hS1, hst, hpe⟩ := pt_box (α := MF) hst hR (Rep.len hR)
  repeat' (((fail_if_success (go_big_may)); (go_step)))
  refine s_lit (vs := []) (cs := []) hst inX inX rfl rfl (by simp) rfl (by omega) (by omega) ?_
  clear hst; intro x0 w hst
  (try refine nY ?_)
  repeat' (first | (((with_reducible (refine Sl.k_field ?_; refine s_ex hst (qt_fieldp evX hpe inX inX rfl) ?_; rintro vf hpf))) <;> (try refine nY ?_)) | (((with_reducible refine Sl.k_call ?_; ((refine s_call (refInt_c _ hst m.1 i1) inX rfl ?_; clear hst; rintro v w hst)))) <;> (try refine nY ?_) <;> (try replace hst := nH hst)) | (((with_reducible refine Sl.k_load ?_; ((refine s_ex hst (qt_ldp_int evX asX inX) ?_; rintro v ⟨rfl, hI⟩)))) <;> (try refine nY ?_)))
  refine s_append (j := 0) hst evX evX SlIn.h rfl inX inX inX (u8s_one _) (by omega) (by omega) (by decide) ?_
  clear hst; intro v' w hst
  (try refine nY ?_)
  (try replace hst := nH hst)
  replace hst := hst.drop
  repeat' (first | (((with_reducible (refine Sl.k_field ?_; refine s_ex hst (qt_fieldp evX hpe inX inX rfl) ?_; rintro vf hpf))) <;> (try refine nY ?_)) | (((with_reducible refine Sl.k_call ?_; ((refine s_call (refInt_c _ hst m.2.1 i2) inX rfl ?_; clear hst; rintro v w hst)))) <;> (try refine nY ?_) <;> (try replace hst := nH hst)) | ((fail_if_success (go_big_may)); (go_step)) | (((with_reducible refine Sl.k_load ?_; ((refine s_ex hst (qt_ldp_int evX asX inX) ?_; rintro v ⟨rfl, hI⟩)))) <;> (try refine nY ?_)))
  refine s_append (j := 0) hst evX evX SlIn.h rfl inX inX inX (u8s_one _) (by omega) (by omega) (by decide) ?_
  clear hst; intro v' w hst
  (try refine nY ?_)
  (try replace hst := nH hst)
  replace hst := hst.drop
  repeat' (first | (((with_reducible (refine Sl.k_field ?_; refine s_ex hst (qt_fieldp evX hpe inX inX rfl) ?_; rintro vf hpf))) <;> (try refine nY ?_)) | (((with_reducible refine Sl.k_call ?_; ((refine s_call (refInt_c _ hst m.2.2.1 i3) inX rfl ?_; clear hst; rintro v w hst)))) <;> (try refine nY ?_) <;> (try replace hst := nH hst)) | ((fail_if_success (go_big_may)); (go_step)) | (((with_reducible refine Sl.k_load ?_; ((refine s_ex hst (qt_ldp_int evX asX inX) ?_; rintro v ⟨rfl, hI⟩)))) <;> (try refine nY ?_)))
  refine s_append (j := 0) hst evX evX SlIn.h rfl inX inX inX (u8s_one _) (by omega) (by omega) (by decide) ?_
  clear hst; intro v' w hst
  (try refine nY ?_)
  (try replace hst := nH hst)
  replace hst := hst.drop
  repeat' (first | (((with_reducible (refine Sl.k_field ?_; refine s_ex hst (qt_fieldp evX hpe inX inX rfl) ?_; rintro vf hpf))) <;> (try refine nY ?_)) | (((with_reducible refine Sl.k_call ?_; ((refine s_call (refDigs_c _ hst _ m.2.2.2.1 hvl (by omega)) inX rfl ?_; clear hst; rintro v w hst)))) <;> (try refine nY ?_) <;> (try replace hst := nH hst)) | ((fail_if_success (go_big_may)); (go_step)) | (((with_reducible refine Sl.k_load ?_; ((refine s_ex hst (qt_ldp_list evX asX inX) ?_; rintro v ⟨hvl, hv1⟩)))) <;> (try refine nY ?_)))
  refine s_append (j := 0) hst evX evX SlIn.h rfl inX inX inX (u8s_one _) (by omega) (by omega) (by decide) ?_
  clear hst; intro v' w hst
  (try refine nY ?_)
  (try replace hst := nH hst)
  replace hst := hst.drop
  repeat' (((fail_if_success (go_big_may)); (go_step)))
  go_ret
  refine ⟨_, rfl, St.weaken hS1 ?_⟩
  simp only [OwnB, u8s_append, List.length_append]
  simp only [List.nil_append, List.append_assoc, Nat.zero_add, Nat.add_assoc] at hst
  exact hst

set_option maxRecDepth 8000 in
set_option maxHeartbeats 1000000 in
theorem renc_c {S M} (w : World) (hst : St S M w) (cs : List Value) (m : MF) (hR : Rep.R S cs m) (hB : (encMF m).length ≤ 1048576) :
    Rets Tryd.prog 49 [.agg cs.toArray] w fun v w' => v = StrV (encMF m) ∧ St S M w' := by
  unfold Rets
  go_enter Tryd.func49, Tryd.ntmps49
  repeat' (first | ((first | (with_reducible (refine Sl.k_load ?_; with_unfolding_all refine s_qt hst (qt_loadF (x0 := m) rfl BoxIn.h hR inX) ?_)) | (with_reducible (refine Sl.k_conv ?_; with_unfolding_all refine s_string_own (k := 0) (b := encMF m) hst rfl rfl inX IntT.u StrT.u ?_))) <;> (try refine nY ?_)) | (((with_reducible refine Sl.k_call ?_; ((refine s_call (rmf_c _ hst cs m hR hB) inX rfl ?_; clear hst; rintro v w hst)))) <;> (try refine nY ?_) <;> (try replace hst := nH hst)) | ((fail_if_success (go_big_may)); (go_step)) | (((((refine s_box hst evX rfl ?_; clear hst; intro bx w hst)))) <;> (try refine nY ?_) <;> (try replace hst := nH hst)))
  go_ret
  exact ⟨_, rfl, rfl, hst.drop.drop⟩

end Go.Proofs.YtjapdhaimbalkaaDoor

/- Package manifest: the reference's encoders of bundles and rotations; its digests and validity, walked. -/
--@opt
--@u32
--@hgp
--@flat
--@dg
--@ex0
namespace Go.Proofs.YtjapdhaimbalkaaDoor
set_option linter.unusedSimpArgs false
set_option linter.unusedVariables false
open Go.RowKit Go.Sl

set_option maxRecDepth 8000 in
set_option maxHeartbeats 1000000 in
theorem rmdig_c {S M} (w : World) (hst : St S M w) (cs : List Value) (m : MF) (hR : Rep.R S cs m) (hB : (encMF m).length ≤ 1000000) :
    Rets Tryd.prog 67 [.agg cs.toArray] w fun v w' => v = dgVm (mdP m) ∧ St S M w' := by
  unfold Rets
  haveI : LenIs (mdP m).l 16 := ⟨mdP_len m⟩
  go_enter Tryd.func67, Tryd.ntmps67
  repeat' (first | (((with_reducible (refine Sl.k_load ?_; with_unfolding_all refine s_qt hst (qt_loadF (x0 := m) rfl BoxIn.h hR inX) ?_))) <;> (try refine nY ?_)) | (((with_reducible refine Sl.k_call ?_; ((refine s_call (rmf_c _ hst cs m hR (by omega)) inX rfl ?_; clear hst; rintro v w hst)))) <;> (try refine nY ?_) <;> (try replace hst := nH hst)) | ((fail_if_success (go_big_may)); (go_step)) | ((((first | (refine s_box hst evX rfl ?_; clear hst; intro bx w hst) | (refine s_alloc hst inX ?_; clear hst; intro bk w hst)))) <;> (try refine nY ?_) <;> (try replace hst := nH hst)))
  obtain ⟨S1, hS1, hstA, hv, ho⟩ : ∃ S', S.Le S' ∧ St S' _ w ∧ RSl S' v (encMF m) ∧ v.oneCell' = true := by
    obtain ⟨S', a, b, c, d⟩ := fz_u8 hst
    exact ⟨S', a, d, b, c⟩
  clear hst
  have hst := hstA
  clear hstA
  refine s_parts hst (Sls.cons hv Sls.nil) inX inX rfl rfl (by simp) ?_
  clear hst; intro S2 u w hS2 hu hou hst
  (try refine nY ?_)
  repeat' (first | (((with_reducible refine Sl.k_call ?_; ((refine s_call (refDigest_c _ hst 12 (by omega) _ _ hu (by simp [sizeB]; omega)) inX rfl ?_; clear hst; rintro v w ⟨rfl, hst⟩)))) <;> (try refine nY ?_) <;> (try replace hst := nH hst)) | ((fail_if_success (go_big_may)); (go_step)) | (((((with_reducible refine Sl.k_store ?_; (refine s_stD hst rfl BoxIn.h inX evX inX lenX ?_); clear hst; intro w hst)))) <;> (try refine nY ?_) <;> (try replace hst := nH hst)))
  exact ret_D rfl hst rfl BoxIn.h inX inX ⟨_, rfl, rfl, (St.weaken (hS1.trans hS2) hst).drop.drop⟩

set_option maxRecDepth 8000 in
set_option maxHeartbeats 1000000 in
theorem rsdig_c {S M} (w : World) (hst : St S M w) (b : List UInt8) (hB : b.length ≤ 1000000) :
    Rets Tryd.prog 63 [StrV b] w fun v w' => v = dgVm (sdgP b) ∧ St S M w' := by
  unfold Rets
  haveI : LenIs (sdgP b).l 16 := ⟨sdgP_len b⟩
  go_enter Tryd.func63, Tryd.ntmps63
  repeat' (first | (((with_reducible (refine Sl.k_conv ?_; (with_unfolding_all refine s_bytes (b := b) hst rfl StrT.u inX IntT.u (by omega) ?_); clear hst; intro v4 w hst; have fz := fz_u8 hst; clear hst; obtain ⟨S1, hS1, hv, ho, hst⟩ := fz))) <;> (try refine nY ?_)) | ((fail_if_success (go_big_may)); (go_step)) | (((((refine s_alloc hst inX ?_; clear hst; intro bk w hst)))) <;> (try refine nY ?_) <;> (try replace hst := nH hst)))
  refine s_parts hst (Sls.cons hv Sls.nil) inX inX rfl rfl (by simp) ?_
  clear hst; intro S2 u w hS2 hu hou hst
  (try refine nY ?_)
  repeat' (first | (((with_reducible refine Sl.k_call ?_; ((refine s_call (refDigest_c _ hst 6 (by omega) _ _ hu (by simp [sizeB]; omega)) inX rfl ?_; clear hst; rintro v w ⟨rfl, hst⟩)))) <;> (try refine nY ?_) <;> (try replace hst := nH hst)) | ((fail_if_success (go_big_may)); (go_step)) | (((((with_reducible refine Sl.k_store ?_; (refine s_stD hst rfl BoxIn.h inX evX inX lenX ?_); clear hst; intro w hst)))) <;> (try refine nY ?_) <;> (try replace hst := nH hst)))
  exact ret_D rfl hst rfl BoxIn.h inX inX ⟨_, rfl, rfl, (St.weaken (hS1.trans hS2) hst).drop⟩

set_option maxRecDepth 8000 in
set_option maxHeartbeats 2000000 in
theorem rvalid_c {S M} (w : World) (hst : St S M w) (cs : List Value) (m : MF) (hR : Rep.R S cs m) (hl : m.2.2.2.1.length ≤ 1048576) :
    Rets Tryd.prog 43 [.agg cs.toArray] w fun v w' => v = .bool (validM m) ∧ St S M w' := by
  unfold Rets validM
  by_cases h1 : m.2.1 < 1
  · go_enter Tryd.func43, Tryd.ntmps43
    repeat' ((fail_if_success (with_reducible show Code.wp _ (Code.region 1 _ _) _ _ _)); first | ((fail_if_success (go_big_may)); (go_step)) | (((((refine s_box hst evX rfl ?_; clear hst; intro bx w hst)))) <;> (try refine nY ?_) <;> (try replace hst := nH hst)))
    obtain ⟨S1, hS1, hst, hpe⟩ := pt_box (α := MF) hst hR (Rep.len hR)
    repeat' (first | go_skip | (((with_reducible (refine Sl.k_field ?_; refine s_ex hst (qt_fieldp evX hpe inX inX rfl) ?_; rintro vf hpf))) <;> (try refine nY ?_)) | ((fail_if_success (go_big_may)); (go_step)) | (((with_reducible refine Sl.k_load ?_; ((refine s_ex hst (qt_ldp_int evX asX inX) ?_; rintro v ⟨rfl, hI⟩)))) <;> (try refine nY ?_)) | (with_reducible refine Sl.gate rfl ?_; (go_step)))
    go_ret
    exact ⟨_, rfl, by rw [decide_eq_false (p := 1 ≤ m.2.1 ∧ m.2.1 ≤ m.1) (by omega)]; rfl, St.weaken hS1 hst⟩
  · by_cases h2 : m.1 < m.2.1
    · go_enter Tryd.func43, Tryd.ntmps43
      repeat' ((fail_if_success (with_reducible show Code.wp _ (Code.region 1 _ _) _ _ _)); first | ((fail_if_success (go_big_may)); (go_step)) | (((((refine s_box hst evX rfl ?_; clear hst; intro bx w hst)))) <;> (try refine nY ?_) <;> (try replace hst := nH hst)))
      obtain ⟨S1, hS1, hst, hpe⟩ := pt_box (α := MF) hst hR (Rep.len hR)
      repeat' (first | go_skip | ((first | (with_reducible (refine Sl.k_field ?_; refine s_ex hst (qt_fieldp evX hpe inX inX rfl) ?_; rintro vf hpf)) | (with_reducible refine Sl.k_guard ?_; ((refine Sl.guard_yes rfl ?_)))) <;> (try refine nY ?_)) | ((fail_if_success (go_big_may)); (go_step)) | (((with_reducible refine Sl.k_load ?_; ((refine s_ex hst (qt_ldp_int evX asX inX) ?_; rintro v ⟨rfl, hI⟩)))) <;> (try refine nY ?_)) | (with_reducible refine Sl.gate rfl ?_; (go_step)))
      go_ret
      exact ⟨_, rfl, by rw [decide_eq_false (p := 1 ≤ m.2.1 ∧ m.2.1 ≤ m.1) (by omega)]; rfl, St.weaken hS1 hst⟩
    · rw [decide_eq_true (p := 1 ≤ m.2.1 ∧ m.2.1 ≤ m.1) (by omega)]
      by_cases h3 : m.1 > 16
      · go_enter Tryd.func43, Tryd.ntmps43
        repeat' ((fail_if_success (with_reducible show Code.wp _ (Code.region 1 _ _) _ _ _)); first | ((fail_if_success (go_big_may)); (go_step)) | (((((refine s_box hst evX rfl ?_; clear hst; intro bx w hst)))) <;> (try refine nY ?_) <;> (try replace hst := nH hst)))
        obtain ⟨S1, hS1, hst, hpe⟩ := pt_box (α := MF) hst hR (Rep.len hR)
        repeat' (first | go_skip | ((first | (with_reducible (refine Sl.k_field ?_; refine s_ex hst (qt_fieldp evX hpe inX inX rfl) ?_; rintro vf hpf)) | (with_reducible refine Sl.k_guard ?_; ((refine Sl.guard_yes rfl ?_)))) <;> (try refine nY ?_)) | ((fail_if_success (go_big_may)); (go_step)) | (((with_reducible refine Sl.k_load ?_; ((refine s_ex hst (qt_ldp_int evX asX inX) ?_; rintro v ⟨rfl, hI⟩)))) <;> (try refine nY ?_)) | (with_reducible refine Sl.gate rfl ?_; (go_step)))
        go_ret
        exact ⟨_, rfl, by rw [decide_eq_false (p := m.1 ≤ 16) (by omega)]; rfl, St.weaken hS1 hst⟩
      · rw [decide_eq_true (p := m.1 ≤ 16) (by omega)]
        by_cases h4 : m.2.2.1 < 0
        · go_enter Tryd.func43, Tryd.ntmps43
          repeat' ((fail_if_success (with_reducible show Code.wp _ (Code.region 1 _ _) _ _ _)); first | ((fail_if_success (go_big_may)); (go_step)) | (((((refine s_box hst evX rfl ?_; clear hst; intro bx w hst)))) <;> (try refine nY ?_) <;> (try replace hst := nH hst)))
          obtain ⟨S1, hS1, hst, hpe⟩ := pt_box (α := MF) hst hR (Rep.len hR)
          repeat' (first | go_skip | ((first | (with_reducible (refine Sl.k_field ?_; refine s_ex hst (qt_fieldp evX hpe inX inX rfl) ?_; rintro vf hpf)) | (with_reducible refine Sl.k_guard ?_; ((refine Sl.guard_yes rfl ?_)))) <;> (try refine nY ?_)) | ((fail_if_success (go_big_may)); (go_step)) | (((with_reducible refine Sl.k_load ?_; ((refine s_ex hst (qt_ldp_int evX asX inX) ?_; rintro v ⟨rfl, hI⟩)))) <;> (try refine nY ?_)) | (with_reducible refine Sl.gate rfl ?_; (go_step)))
          go_ret
          exact ⟨_, rfl, by rw [decide_eq_false (p := 0 ≤ m.2.2.1 ∧ m.2.2.1 ≤ 16) (by omega)]; rfl, St.weaken hS1 hst⟩
        · by_cases h5 : m.2.2.1 > 16
          · go_enter Tryd.func43, Tryd.ntmps43
            repeat' ((fail_if_success (with_reducible show Code.wp _ (Code.region 1 _ _) _ _ _)); first | ((fail_if_success (go_big_may)); (go_step)) | (((((refine s_box hst evX rfl ?_; clear hst; intro bx w hst)))) <;> (try refine nY ?_) <;> (try replace hst := nH hst)))
            obtain ⟨S1, hS1, hst, hpe⟩ := pt_box (α := MF) hst hR (Rep.len hR)
            repeat' (first | ((first | (with_reducible (refine Sl.k_field ?_; refine s_ex hst (qt_fieldp evX hpe inX inX rfl) ?_; rintro vf hpf)) | (with_reducible refine Sl.k_guard ?_; ((refine Sl.guard_yes rfl ?_)))) <;> (try refine nY ?_)) | ((fail_if_success (go_big_may)); (go_step)) | (((with_reducible refine Sl.k_load ?_; ((refine s_ex hst (qt_ldp_int evX asX inX) ?_; rintro v ⟨rfl, hI⟩)))) <;> (try refine nY ?_)) | (with_reducible refine Sl.gate rfl ?_; (go_step)))
            go_ret
            exact ⟨_, rfl, by rw [decide_eq_false (p := 0 ≤ m.2.2.1 ∧ m.2.2.1 ≤ 16) (by omega)]; rfl, St.weaken hS1 hst⟩
          · rw [decide_eq_true (p := 0 ≤ m.2.2.1 ∧ m.2.2.1 ≤ 16) (by omega)]
            by_cases h6 : 1 ≤ m.2.2.2.1.length <;> by_cases h7 : m.2.2.2.1.length ≤ 4
            all_goals (try (exfalso; omega))
            all_goals
              go_enter Tryd.func43, Tryd.ntmps43
              repeat' ((fail_if_success (with_reducible show Code.wp _ (Code.region 1 _ _) _ _ _)); first | ((fail_if_success (go_big_may)); (go_step)) | (((((refine s_box hst evX rfl ?_; clear hst; intro bx w hst)))) <;> (try refine nY ?_) <;> (try replace hst := nH hst)))
              obtain ⟨S1, hS1, hst, hpe⟩ := pt_box (α := MF) hst hR (Rep.len hR)
              repeat' (first | go_skip | ((first | (with_reducible (refine Sl.k_field ?_; refine s_ex hst (qt_fieldp evX hpe inX inX rfl) ?_; rintro vf hpf)) | (with_reducible refine Sl.k_guard ?_; (first | (refine Sl.guard_yes rfl ?_) | (refine Sl.guard_cases rfl ?_ ?_ <;> intro hg <;> first | (exfalso; simp only [decide_eq_true_eq, decide_eq_false_iff_not, Bool.not_false, Bool.not_true, beq_iff_eq, beq_eq_false_iff_ne, ne_eq] at hg; omega) | (simp only [hg, Bool.not_true, Bool.not_false])) <;> (try simp only [decide_eq_true_eq, decide_eq_false_iff_not, Bool.not_false, Bool.not_true, beq_iff_eq, beq_eq_false_iff_ne, bne_iff_ne, bne_eq_false_iff_eq, ne_eq] at hg)))) <;> (try refine nY ?_)) | ((fail_if_success (go_big_may)); (go_step)) | ((first | (with_reducible refine Sl.k_load ?_; (first | (refine s_ex hst (qt_ldp_int evX asX inX) ?_; rintro v ⟨rfl, hI⟩) | (refine s_ex hst (qt_ldp_list evX asX inX) ?_; rintro v ⟨hvl, hv1⟩))) | (with_reducible refine Sl.k_call ?_; (refine s_qt hst (by exact qt_len evX asX inX) ?_))) <;> (try refine nY ?_)) | (with_reducible refine Sl.gate rfl ?_; (go_step)))
              go_ret
              exact ⟨_, rfl, by first | (rw [decide_eq_true (p := (1 : Int) ≤ (m.2.2.2.1.length : Int) ∧ (m.2.2.2.1.length : Int) ≤ 4) (by omega)]; simp; omega) | (rw [decide_eq_false (p := (1 : Int) ≤ (m.2.2.2.1.length : Int) ∧ (m.2.2.2.1.length : Int) ≤ 4) (by omega)]; simp; omega) | (rw [decide_eq_true (p := (1 : Int) ≤ (m.2.2.2.1.length : Int) ∧ (m.2.2.2.1.length : Int) ≤ 4) (by omega)]; rfl) | (rw [decide_eq_false (p := (1 : Int) ≤ (m.2.2.2.1.length : Int) ∧ (m.2.2.2.1.length : Int) ≤ 4) (by omega)]; rfl), St.weaken hS1 hst⟩

end Go.Proofs.YtjapdhaimbalkaaDoor

/- The reference's Merkle trees: roots. -/
--@opt
--@u32
--@hgp
--@flat
--@dg
namespace Go.Proofs.YtjapdhaimbalkaaDoor
set_option linter.unusedSimpArgs false
set_option linter.unusedVariables false
open Go.RowKit Go.Sl

theorem refDigestG {S M} (w : World) (hst : St S M w) (_hG : Glob S) (tag : Int) (h0 : 0 ≤ tag ∧ tag ≤ 255) (vp : Value) (parts : List (List UInt8)) (hp : RSl S vp parts) (hs : sizeB parts ≤ 1048576) :
    Rets Tryd.prog 51 [.int .i64 tag, vp] w fun v w' => v = .agg (u8s (dig tag parts)).toArray ∧ St S M w' := refDigest_c w hst tag h0 vp parts hp hs

set_option maxRecDepth 8000 in
set_option maxHeartbeats 400000 in
theorem refSplit_c {S M} (w : World) (hst : St S M w) (n : Nat) (h2 : 2 ≤ n) (hm : n ≤ 1048576) :
    Rets Tryd.prog 57 [.int .i64 (n : Int)] w fun v w' => v = .int .i64 (splitM n : Nat) ∧ St S M w' := by
  unfold Rets
  go_enter Tryd.func57, Tryd.ntmps57
  repeat' (((fail_if_success (go_big_may)); (go_step)))
  go_loopw [3] (fun v wr => ∃ (k : Nat), 1 ≤ k ∧ k < n ∧ v = .int .i64 k ∧ Hid (splitF n n k = splitM n) ∧ St S M wr) (fun v _ => n - (intOf v).toNat)
  case atStart => exact ⟨1, by omega, by omega, rfl, Lib.hid rfl, hst⟩
  case round =>
    clear hst
    obtain ⟨k, h1, hk, rfl, hs, hst⟩ := hrel
    by_cases hlt : 2 * k < n
    · repeat' (first | ((fail_if_success (go_big_may)); (go_step)) | (with_reducible refine Sl.gate rfl ?_; (go_step)))
      go_roundw
      case rel => exact ⟨2 * k, by omega, hlt, by go_num, Lib.hid (by rw [← hs.out, splitF_go n n k hlt (by omega)]; exact splitF_more _ _ _ _ (by omega) (by omega) (by omega)), hst⟩
      case measure => simp [intOf]; omega
    · repeat' (first | ((fail_if_success (go_big_may)); (go_step)) | (with_reducible refine Sl.gate rfl ?_; (go_step)))
      go_ret
      refine ⟨_, rfl, ?_, hst⟩
      rw [← hs.out, splitF_stop hlt]
      rfl

set_option maxRecDepth 8000 in
set_option maxHeartbeats 400000 in
theorem refLeaf_c {S M} (w : World) (hst : St S M w) (hG : Glob S) (d : Dg) (hd : d.l.length = 16) :
    Rets Tryd.prog 56 [dgV d] w fun v w' => v = dgV (leafM d) ∧ St S M w' := by
  unfold Rets
  go_enter Tryd.func56, Tryd.ntmps56
  repeat' ((fail_if_success (with_reducible show Code.wp _ (Code.region 1 _ _) _ _ _)); first | ((fail_if_success (go_big_may)); (go_step)) | ((((first | (refine s_box hst evX rfl ?_; clear hst; intro bx w hst) | (refine s_alloc hst inX ?_; clear hst; intro bk w hst)))) <;> (try refine nY ?_) <;> (try replace hst := nH hst)))
  obtain ⟨S1, hS1, hst, hpd⟩ := dg_box hst.swap hd
  refine wp_region_lit ?_
  refine s_ex hst (qt_arrSliceP (a := 0) (b := 16) evX hpd inX inX (.inl ⟨rfl, rfl⟩) (.inl ⟨rfl, rfl⟩) (by omega) (by omega) (by unfold maxLen; omega)) ?_
  rintro v hv
  rw [List.drop_zero, List.take_of_length_le (by omega)] at hv
  have hv1 := hv.oneCell
  refine nY ?_
  refine s_lit (vs := [v]) hst inX inX rfl rfl (by simp [cells_size1 hv1]) rfl (by omega) (by omega) ?_
  clear hst; intro x w hst
  simp only [List.map_cons, List.map_nil, cells_one hv1, List.flatten_cons, List.flatten_nil, List.append_nil] at hst
  obtain ⟨S2, hS2, hst, hx⟩ := lit_p1 hst hv
  refine nY ?_
  repeat' (first | (((with_reducible refine Sl.k_call ?_; ((refine s_call (refDigestG _ hst ((hG.mono hS1).mono hS2) 1 (by omega) _ _ hx (by simp [sizeB]; omega)) inX rfl ?_; clear hst; rintro v w ⟨rfl, hst⟩)))) <;> (try refine nY ?_) <;> (try replace hst := nH hst)) | ((fail_if_success (go_big_may)); (go_step)) | (((((with_reducible refine Sl.k_store ?_; (refine s_stD hst rfl BoxIn.h inX evX inX lenX ?_); clear hst; intro w hst)))) <;> (try refine nY ?_) <;> (try replace hst := nH hst)))
  exact ret_D rfl hst rfl BoxIn.h inX inX ⟨_, rfl, rfl, St.weaken (hS1.trans hS2) hst.drop⟩

set_option maxRecDepth 8000 in
set_option maxHeartbeats 400000 in
theorem refNode_c {S M} (w : World) (hst : St S M w) (hG : Glob S) (a b : Dg) (ha : a.l.length = 16) (hb : b.l.length = 16) :
    Rets Tryd.prog 58 [dgV a, dgV b] w fun v w' => v = dgV (nodeM a b) ∧ St S M w' := by
  unfold Rets
  go_enter Tryd.func58, Tryd.ntmps58
  repeat' ((fail_if_success (with_reducible show Code.wp _ (Code.region 1 _ _) _ _ _)); first | ((fail_if_success (go_big_may)); (go_step)) | ((((first | (refine s_box hst evX rfl ?_; clear hst; intro bx w hst) | (refine s_alloc hst inX ?_; clear hst; intro bk w hst)))) <;> (try refine nY ?_) <;> (try replace hst := nH hst)))
  obtain ⟨S1, hS1, hst, hpb⟩ := dg_box (hst.perm (List.Perm.swap _ _ _)) hb
  obtain ⟨S2, hS2, hst, hpa⟩ := dg_box hst.swap ha
  replace hpb := hpb.mono hS2
  have hG2 := (hG.mono hS1).mono hS2
  refine v_begin hst (by kernel_rfl) ?_; clear hst; intro ops; (try refine nY ?_)
  ((refine t_ex 0 rfl (by kernel_rfl) rfl rfl (fun w hst => qt_arrSliceP (a := 0) (b := 16) evX hpa inX inX (.inl ⟨rfl, rfl⟩) (.inl ⟨rfl, rfl⟩) (by omega) (by omega) (by unfold maxLen; omega) ) ?_; rintro  v5 hv5)) <;> (try refine nY ?_)
  ((refine t_ex 1 rfl (by kernel_rfl) rfl rfl (fun w hst => qt_arrSliceP (a := 0) (b := 16) evX hpb inX inX (.inl ⟨rfl, rfl⟩) (.inl ⟨rfl, rfl⟩) (by omega) (by omega) (by unfold maxLen; omega) ) ?_; rintro  v6 hv6)) <;> (try refine nY ?_)
  refine v_one 2 rfl (by kernel_rfl) ?_; intro w hst K hK; (rw [List.drop_zero, List.take_of_length_le (by omega)] at hv5 hv6; refine s_lit (vs := [v5, v6]) hst inX inX rfl rfl (by simp [cells_size1 hv5.oneCell, cells_size1 hv6.oneCell]) rfl (by omega) (by omega) ?_; clear hst; intro x2 w hst; simp only [List.map_cons, List.map_nil, cells_one hv5.oneCell, cells_one hv6.oneCell, List.flatten_cons, List.flatten_nil, List.append_nil, List.cons_append, List.nil_append] at hst; obtain ⟨S3, hS3, hst, hx⟩ := lit_p2 hst hv5 hv6); (try refine nY ?_); (try replace hst := nH hst); refine v_next hK hst hS3 (Suf.refl _) ?_; clear hst hK K; (try clear w); (try refine nY ?_)
  (refine t_call 3 rfl (by kernel_rfl) rfl (fun S' M' w hS hM hst => refDigestG w hst ((hG2.mono hS3).mono hS) 2 (by omega) _ _ (hx.mono hS) (by simp [sizeB]; omega)) inX rfl ?_) <;> (try refine nY ?_)
  refine v_one 4 rfl (by kernel_rfl) ?_; intro w hst K hK; (refine s_stD hst rfl BoxIn.h inX evX inX lenX ?_); clear hst; intro w hst; (try refine nY ?_); (try replace hst := nH hst); refine v_last hK hst ?_; clear hst hK K; (try clear w); (try refine nY ?_)
  refine v_done (by kernel_rfl) ?_; clear ops; intro w hst
  repeat' (((fail_if_success (go_big_may)); (go_step)))
  exact ret_D rfl hst rfl BoxIn.h inX inX ⟨_, rfl, rfl, St.weaken ((hS1.trans hS2).trans hS3) hst.drop⟩

set_option maxRecDepth 8000 in
set_option maxHeartbeats 400000 in
theorem refRoot0_c {S M} (w : World) (hst : St S M w) (hG : Glob S) (vl : Value) (l : List Dg) (hl : RSl S vl l) (h0 : l.length = 0) :
    Rets Tryd.prog 52 [vl] w fun v w' => v = dgV (rootM l) ∧ St S M w' := by
  unfold Rets
  obtain rfl := List.eq_nil_of_length_eq_zero h0
  have hnil : RSl S (.slice none 0 0) ([] : List (List UInt8)) := .inl ⟨none, 0, rfl, rfl, by unfold maxLen; omega⟩
  go_enter Tryd.func52, Tryd.ntmps52
  repeat' (first | (((with_reducible refine Sl.k_call ?_; ((refine s_call (refDigestG _ hst hG 1 (by omega) _ _ hnil (by simp [sizeB])) inX rfl ?_; clear hst; rintro v w ⟨rfl, hst⟩)))) <;> (try refine nY ?_) <;> (try replace hst := nH hst)) | ((fail_if_success (go_big_may)); (go_step)) | (((with_reducible refine Sl.k_call ?_; (refine s_qt hst (by exact qt_len evX asX inX) ?_))) <;> (try refine nY ?_)) | (with_reducible refine Sl.gate rfl ?_; (go_step)) | ((((first | (with_reducible refine Sl.k_store ?_; (refine s_stD hst rfl BoxIn.h inX evX inX lenX ?_); clear hst; intro w hst) | (refine s_alloc hst inX ?_; clear hst; intro bk w hst)))) <;> (try refine nY ?_) <;> (try replace hst := nH hst)))
  exact ret_D rfl hst rfl BoxIn.h inX inX ⟨_, rfl, rfl, hst.drop⟩

set_option maxRecDepth 8000 in
set_option maxHeartbeats 400000 in
theorem refRoot1_c {S M} (w : World) (hst : St S M w) (hG : Glob S) (vl : Value) (l : List Dg) (hl : RSl S vl l) (h1 : l.length = 1) :
    Rets Tryd.prog 52 [vl] w fun v w' => v = dgV (rootM l) ∧ St S M w' := by
  unfold Rets
  have h11 : 1 ≤ l.length ∧ l.length ≤ 1 := by omega
  have h0l : 0 < l.length := by omega
  clear h1
  have hd := hl.dgs (l[0]'h0l) (List.getElem_mem h0l)
  have hE : Hid (rootM l = leafM (l[0]'h0l)) := Lib.hid (by
    obtain ⟨d, rfl⟩ := List.length_eq_one_iff.1 (show l.length = 1 by omega)
    rfl)
  go_enter Tryd.func52, Tryd.ntmps52
  repeat' (first | (((with_reducible refine Sl.k_call ?_; ((refine s_call (refLeaf_c _ hst hG l[0] hd) inX rfl ?_; clear hst; rintro v w ⟨rfl, hst⟩)))) <;> (try refine nY ?_) <;> (try replace hst := nH hst)) | ((fail_if_success (go_big_may)); (go_step)) | ((first | (with_reducible refine Sl.k_load ?_; (refine s_qt hst (by exact qt_ldp_flat evX asX inX inX rfl) ?_)) | (with_reducible refine Sl.k_index ?_; (((refine s_ex hst (qt_index evX asX rfl inX inX omX omX) ?_); rintro v hp; (try simp only [Int.toNat_natCast, Int.toNat_natCast_add_one, Int.reduceToNat] at hp)))) | (with_reducible refine Sl.k_call ?_; (refine s_qt hst (by exact qt_len evX asX inX) ?_))) <;> (try refine nY ?_)) | (with_reducible refine Sl.gate rfl ?_; (go_step)) | ((((first | (with_reducible refine Sl.k_store ?_; (refine s_stD hst rfl BoxIn.h inX evX inX lenX ?_); clear hst; intro w hst) | (refine s_alloc hst inX ?_; clear hst; intro bk w hst)))) <;> (try refine nY ?_) <;> (try replace hst := nH hst)))
  exact ret_D rfl hst rfl BoxIn.h inX inX ⟨_, rfl, by rw [hE.out], hst.drop⟩

set_option maxRecDepth 8000 in
set_option maxHeartbeats 1000000 in
theorem refRoot_c : ∀ (m : Nat) {S M} (w : World) (_hst : St S M w) (_hG : Glob S) (vl : Value) (l : List Dg) (_hl : RSl S vl l) (_hm : l.length ≤ m) (_hm2 : m ≤ 1048576),
    Rets Tryd.prog 52 [vl] w fun v w' => v = dgV (rootM l) ∧ St S M w' := by
  intro m
  induction m with
  | zero => exact fun w hst hG vl l hl h0 h1 => refRoot0_c w hst hG vl l hl (by omega)
  | succ m ih =>
    intro S M w hst hG vl l hl hm hm2
    by_cases h0 : l.length = 0
    · exact refRoot0_c w hst hG vl l hl h0
    · by_cases h1 : l.length = 1
      · exact refRoot1_c w hst hG vl l hl h1
      · have h2 : 2 ≤ l.length := by omega
        obtain ⟨hs1, hs2⟩ := splitM_spec h2
        have hE := Lib.hid (rootM_two h2)
        have hlen1 : (l.take (splitM l.length)).length ≤ m := by rw [List.length_take]; omega
        have hlen2 : (l.drop (splitM l.length)).length ≤ m := by rw [List.length_drop]; omega
        have hsp := fun {S M} (w : World) (hst : St S M w) => refSplit_c w hst l.length h2 (by omega)
        have hl20 : l.length ≤ 1048576 := by omega
        have e9 : (l.drop (splitM l.length)).take (l.length - splitM l.length) = l.drop (splitM l.length) := List.take_of_length_le (by rw [List.length_drop]; exact Nat.le_refl _)
        have E9 := Lib.hid e9
        clear h0 h1 e9
        generalize hk : splitM l.length = k at *
        have Hk := Lib.hid hk
        clear hk
        unfold Rets
        go_enter Tryd.func52, Tryd.ntmps52
        repeat' (first | (((with_reducible refine Sl.k_call ?_; ((refine s_call (hsp _ hst) inX rfl ?_; clear hst; rintro v w ⟨rfl, hst⟩)))) <;> (try refine nY ?_) <;> (try replace hst := nH hst)) | ((fail_if_success (go_big_may)); (go_step)) | (((with_reducible refine Sl.k_call ?_; (refine s_qt hst (by exact qt_len evX asX inX) ?_))) <;> (try refine nY ?_)) | (with_reducible refine Sl.gate rfl ?_; (go_step)) | (((((refine s_alloc hst inX ?_; clear hst; intro bk w hst)))) <;> (try refine nY ?_) <;> (try replace hst := nH hst)))
        refine v_begin hst (by kernel_rfl) ?_; clear hst; intro ops; (try refine nY ?_)
        (refine t_qt 0 rfl (by kernel_rfl) rfl rfl (by exact qt_move evX) ?_) <;> (try refine nY ?_)
        (refine t_qt 1 rfl (by kernel_rfl) rfl rfl (by exact qt_move evX) ?_) <;> (try refine nY ?_)
        ((refine t_ex 2 rfl (by kernel_rfl) rfl rfl (fun w hst => qt_slice (a := 0) (b := k) evX hl inX inX (.inl ⟨rfl, rfl⟩) (.inr ⟨.i64, by simp [evF, nth]⟩) (.inl rfl) (by omega) (by omega) ) ?_; rintro  v2 hv2)) <;> (try refine nY ?_)
        (refine t_call 3 rfl (by kernel_rfl) rfl (fun S' M' w hS hM hst => ih w hst (hG.mono hS) v2 (l.take k) (hv2.mono hS) hlen1 (by omega)) inX rfl ?_) <;> (try refine nY ?_)
        (refine t_qt 4 rfl (by kernel_rfl) rfl rfl (by exact qt_move evX) ?_) <;> (try refine nY ?_)
        (refine t_qt 5 rfl (by kernel_rfl) rfl rfl (by exact qt_move evX) ?_) <;> (try refine nY ?_)
        ((refine t_ex 6 rfl (by kernel_rfl) rfl rfl (fun w hst => qt_slice (a := k) (b := l.length) evX hl inX inX (.inr ⟨.i64, by simp [evF, nth]⟩) (.inl ⟨rfl, rfl⟩) (.inl rfl) (by omega) (by omega) ) ?_; rintro  v6 hv6)) <;> (try refine nY ?_)
        (refine t_call 7 rfl (by kernel_rfl) rfl (fun S' M' w hS hM hst => ih w hst (hG.mono hS) v6 (l.drop k) (by have := hv6.mono hS; rwa [E9.out] at this) hlen2 (by omega)) inX rfl ?_) <;> (try refine nY ?_)
        (refine t_call 8 rfl (by kernel_rfl) rfl (fun S' M' w hS hM hst => refNode_c w hst (hG.mono hS) _ _ (rootM_len _) (rootM_len _)) inX rfl ?_) <;> (try refine nY ?_)
        refine v_one 9 rfl (by kernel_rfl) ?_; intro w hst K hK; (refine s_stD hst rfl BoxIn.h inX evX inX lenX ?_); clear hst; intro w hst; (try refine nY ?_); (try replace hst := nH hst); refine v_last hK hst ?_; clear hst hK K; (try clear w); (try refine nY ?_)
        refine v_done (by kernel_rfl) ?_; clear ops; intro w hst
        repeat' (((fail_if_success (go_big_may)); (go_step)))
        exact ret_D rfl hst rfl BoxIn.h inX inX ⟨_, rfl, by rw [hE.out], hst.drop⟩
end Go.Proofs.YtjapdhaimbalkaaDoor

/- Package directory, the reference: what is blank, walked. -/
--@hgp
--@flat
--@dg
--@ex0
namespace Go.Proofs.YtjapdhaimbalkaaDoor
set_option linter.unusedSimpArgs false
set_option linter.unusedVariables false
open Go.RowKit Go.Sl Go.Srt

set_option maxRecDepth 8000 in
set_option maxHeartbeats 1000000 in
theorem rzero_c {S M} (w : World) (hst : St S M w) (cs : List Value) (m : MF) (hR : Rep.R S cs m) (hl : m.2.2.2.1.length ≤ 1048576) :
    Rets Tryd.prog 42 [.agg cs.toArray] w fun v w' => v = .bool (plainM m) ∧ St S M w' := by
  unfold Rets
  obtain ⟨b1, e1⟩ : ∃ b, (m.1 == 0) = b := ⟨_, rfl⟩
  obtain ⟨b2, e2⟩ : ∃ b, (m.2.1 == 0) = b := ⟨_, rfl⟩
  obtain ⟨b3, e3⟩ : ∃ b, (m.2.2.1 == 0) = b := ⟨_, rfl⟩
  obtain ⟨b4, e4⟩ : ∃ b, ((m.2.2.2.1.length : Int) == 0) = b := ⟨_, rfl⟩
  have hp : plainM m = (b1 && b2 && b3 && b4) := by
    have q4 : decide (m.2.2.2.1.length = 0) = b4 := by rw [← e4, Bool.eq_iff_iff]; simp
    rw [plainM, q4, ← e1, ← e2, ← e3]; rfl
  have P : b1 = false ∨ (b1 = true ∧ b2 = false) ∨ (b1 = true ∧ b2 = true ∧ b3 = false) ∨ (b1 = true ∧ b2 = true ∧ b3 = true ∧ b4 = false) ∨ (b1 = true ∧ b2 = true ∧ b3 = true ∧ b4 = true) := by
    cases b1 <;> cases b2 <;> cases b3 <;> cases b4 <;> simp
  rw [hp]
  rcases P with rfl | ⟨rfl, rfl⟩ | ⟨rfl, rfl, rfl⟩ | ⟨rfl, rfl, rfl, rfl⟩ | ⟨rfl, rfl, rfl, rfl⟩
  all_goals
    go_enter Tryd.func42, Tryd.ntmps42
    repeat' ((fail_if_success (with_reducible show Code.wp _ (Code.region 1 _ _) _ _ _)); first | ((fail_if_success (go_big_may)); (go_step)) | (((((refine s_box hst evX rfl ?_; clear hst; intro bx w hst)))) <;> (try refine nX ?_) <;> (try replace hst := nH hst)))
    obtain ⟨S1, hS1, hst, hpm⟩ := pt_box (α := MF) hst hR (Rep.len hR)
    repeat' (first | go_skip | ((first | (with_reducible (refine Sl.k_field ?_; refine s_ex hst (qt_fieldp evX hpm inX inX rfl) ?_; rintro vf hpf)) | (with_reducible refine Sl.k_bin ?_; (first | refine s_qt hst (qt_eql_b rfl rfl e1) ?_ | refine s_qt hst (qt_eql_b rfl rfl e2) ?_ | refine s_qt hst (qt_eql_b rfl rfl e3) ?_ | refine s_qt hst (qt_eql_b rfl rfl e4) ?_)) | (with_reducible refine Sl.k_guard ?_; ((refine Sl.guard_yes rfl ?_)))) <;> (try refine nX ?_)) | ((fail_if_success (go_big_may)); (go_step)) | ((first | (with_reducible refine Sl.k_load ?_; (first | (refine s_ex hst (qt_ldp_int evX asX inX) ?_; rintro v ⟨rfl, hI⟩) | (refine s_ex hst (qt_ldp_list evX asX inX) ?_; rintro v ⟨hvl, hv1⟩))) | (with_reducible refine Sl.k_call ?_; (refine s_qt hst (by exact qt_len evX asX inX) ?_))) <;> (try refine nX ?_)))
    refine bodyPost_ret (results_tmp rfl _ _ _) rfl ?_
    exact ⟨_, rfl, rfl, St.weaken hS1 hst⟩
end Go.Proofs.YtjapdhaimbalkaaDoor

/- Package directory, the reference: facts encoded, walked. -/
--@hgp
--@flat
--@dg
--@ex0
namespace Go.Proofs.YtjapdhaimbalkaaDoor
set_option linter.unusedSimpArgs false
set_option linter.unusedVariables false
open Go.RowKit Go.Sl Go.Srt

set_option maxRecDepth 8000 in
set_option maxHeartbeats 4000000 in
theorem rfencode_c {S M} (w : World) (hst : St S M w) (cs : List Value) (f : Fa) (hR : Rep.R S cs f) (ok : FaOk f) :
    Rets Tryd.prog 18 [.agg cs.toArray] w fun v w' => v = StrV (encFa f) ∧ St S M w' := by
  unfold Rets
  have hd := ok.d
  have hml := ok.ml
  have hk := ok.k
  have ht := ok.t
  have hl1 := encI_len f.1
  have hl2 : (encB f.2.1.b).length ≤ 1000 := by
    have := encI_len (f.2.1.b.length : Int)
    unfold encB
    rw [List.length_append]
    omega
  have hl3 : (encB (encMF f.2.2.1)).length ≤ 1000 := by
    have := encI_len ((encMF f.2.2.1).length : Int)
    unfold encB
    rw [List.length_append]
    omega
  obtain ⟨k1, g1⟩ : ∃ b, (f.1 == 1) = b := ⟨_, rfl⟩
  obtain ⟨k2, g2⟩ : ∃ b, (f.1 == 2) = b := ⟨_, rfl⟩
  obtain ⟨k3, g3⟩ : ∃ b, (f.1 == 3) = b := ⟨_, rfl⟩
  obtain ⟨k4, g4⟩ : ∃ b, (f.1 == 4) = b := ⟨_, rfl⟩
  have K : (k1 = true) ∨ (k1 = false ∧ k2 = true) ∨ (k1 = false ∧ k2 = false ∧ k3 = true) ∨ (k1 = false ∧ k2 = false ∧ k3 = false ∧ k4 = true) ∨ (k1 = false ∧ k2 = false ∧ k3 = false ∧ k4 = false) := by
    cases k1 <;> cases k2 <;> cases k3 <;> cases k4 <;> simp
  rcases K with rfl | ⟨rfl, rfl⟩ | ⟨rfl, rfl, rfl⟩ | ⟨rfl, rfl, rfl, rfl⟩ | ⟨rfl, rfl, rfl, rfl⟩
  · rw [encFa_1 g1]
    go_enter Tryd.func18, Tryd.ntmps18
    repeat' ((fail_if_success (with_reducible show Code.wp _ (Code.region 1 _ _) _ _ _)); first | ((fail_if_success (go_big_may)); (go_step)) | (((((refine s_box hst evX rfl ?_; clear hst; intro bx w hst)))) <;> (try refine nX ?_) <;> (try replace hst := nH hst)))
    obtain ⟨S1, hS1, hst, hpe⟩ := pt_box (α := Fa) hst hR (Rep.len hR)
    repeat' (((fail_if_success (go_big_may)); (go_step)))
    refine s_lit (vs := []) (cs := []) hst inX inX rfl rfl (by simp) rfl (by omega) (by omega) ?_
    clear hst; intro x0 w hst
    (try refine nX ?_)
    repeat' (first | (((with_reducible (refine Sl.k_field ?_; refine s_ex hst (qt_fieldp evX hpe inX inX rfl) ?_; rintro vf hpf))) <;> (try refine nX ?_)) | (((with_reducible refine Sl.k_call ?_; ((refine s_call (refInt_c _ hst f.1 hk) inX rfl ?_; clear hst; rintro v w hst)))) <;> (try refine nX ?_) <;> (try replace hst := nH hst)) | (((with_reducible refine Sl.k_load ?_; ((refine s_ex hst (qt_ldp_int evX asX inX) ?_; rintro v ⟨rfl, hI⟩)))) <;> (try refine nX ?_)))
    refine s_append (j := 0) hst evX evX SlIn.h rfl inX inX inX (u8s_one _) (by omega) (by omega) (by decide) ?_
    clear hst; intro v' w hst
    (try refine nX ?_)
    (try replace hst := nH hst)
    replace hst := hst.drop
    repeat' (first | ((first | (with_reducible (refine Sl.k_field ?_; refine s_ex hst (qt_fieldp evX hpe inX inX rfl) ?_; rintro vf hpf)) | (with_reducible refine Sl.k_bin ?_; (refine s_qt hst (qt_eql_b rfl rfl g1) ?_))) <;> (try refine nX ?_)) | (((with_reducible refine Sl.k_call ?_; ((refine s_call (refBytes_c _ hst f.2.1.b (by omega)) inX rfl ?_; clear hst; rintro v w hst)))) <;> (try refine nX ?_) <;> (try replace hst := nH hst)) | ((fail_if_success (go_big_may)); (go_step)) | (((with_reducible refine Sl.k_load ?_; (first | (refine s_ex hst (qt_ldp_int evX asX inX) ?_; rintro v ⟨rfl, hI⟩) | (refine s_ex hst (qt_ldp_str evX asX inX) ?_; rintro v ⟨rfl, hs⟩)))) <;> (try refine nX ?_)))
    refine s_append (j := 0) hst evX evX SlIn.h rfl inX inX inX (u8s_one _) (by omega) (by omega) (by decide) ?_
    clear hst; intro v' w hst
    (try refine nX ?_)
    (try replace hst := nH hst)
    replace hst := hst.drop
    rw [← u8s_append, ← List.length_append] at hst
    repeat' (first | (((with_reducible (refine Sl.k_conv ?_; with_unfolding_all refine s_string_own (k := 0) (b := encI f.1 ++ encB f.2.1.b) hst rfl rfl inX IntT.u StrT.u ?_))) <;> (try refine nX ?_)) | ((fail_if_success (go_big_may)); (go_step)))
    refine bodyPost_ret (results_tmp rfl _ _ _) rfl ?_
    exact ⟨_, rfl, rfl, St.weaken hS1 hst.drop⟩
  · rw [encFa_2 g1 g2]
    go_enter Tryd.func18, Tryd.ntmps18
    repeat' ((fail_if_success (with_reducible show Code.wp _ (Code.region 1 _ _) _ _ _)); first | ((fail_if_success (go_big_may)); (go_step)) | (((((refine s_box hst evX rfl ?_; clear hst; intro bx w hst)))) <;> (try refine nX ?_) <;> (try replace hst := nH hst)))
    obtain ⟨S1, hS1, hst, hpe⟩ := pt_box (α := Fa) hst hR (Rep.len hR)
    repeat' (((fail_if_success (go_big_may)); (go_step)))
    refine s_lit (vs := []) (cs := []) hst inX inX rfl rfl (by simp) rfl (by omega) (by omega) ?_
    clear hst; intro x0 w hst
    (try refine nX ?_)
    repeat' (first | (((with_reducible (refine Sl.k_field ?_; refine s_ex hst (qt_fieldp evX hpe inX inX rfl) ?_; rintro vf hpf))) <;> (try refine nX ?_)) | (((with_reducible refine Sl.k_call ?_; ((refine s_call (refInt_c _ hst f.1 hk) inX rfl ?_; clear hst; rintro v w hst)))) <;> (try refine nX ?_) <;> (try replace hst := nH hst)) | (((with_reducible refine Sl.k_load ?_; ((refine s_ex hst (qt_ldp_int evX asX inX) ?_; rintro v ⟨rfl, hI⟩)))) <;> (try refine nX ?_)))
    refine s_append (j := 0) hst evX evX SlIn.h rfl inX inX inX (u8s_one _) (by omega) (by omega) (by decide) ?_
    clear hst; intro v' w hst
    (try refine nX ?_)
    (try replace hst := nH hst)
    replace hst := hst.drop
    repeat' (first | ((first | (with_reducible (refine Sl.k_field ?_; refine s_ex hst (qt_fieldp evX hpe inX inX rfl) ?_; rintro vf hpf)) | (with_reducible (refine Sl.k_load ?_; refine s_ex hst (qt_ldp (y := f.2.2.1) evX hpf inX) ?_; rintro v54 ⟨cm2, rfl, hcm2⟩)) | (with_reducible refine Sl.k_bin ?_; (first | refine s_qt hst (qt_eql_b rfl rfl g1) ?_ | refine s_qt hst (qt_eql_b rfl rfl g2) ?_))) <;> (try refine nX ?_)) | (((with_reducible refine Sl.k_call ?_; (first | (refine s_call (renc_c _ hst cm2 f.2.2.1 hcm2 (by omega)) inX rfl ?_; clear hst; rintro v w ⟨rfl, hst⟩) | (refine s_call (refBytes_c _ hst (encMF f.2.2.1) (by omega)) inX rfl ?_; clear hst; rintro v w hst)))) <;> (try refine nX ?_) <;> (try replace hst := nH hst)) | ((fail_if_success (go_big_may)); (go_step)) | (((with_reducible refine Sl.k_load ?_; ((refine s_ex hst (qt_ldp_int evX asX inX) ?_; rintro v ⟨rfl, hI⟩)))) <;> (try refine nX ?_)))
    refine s_append (j := 0) hst evX evX SlIn.h rfl inX inX inX (u8s_one _) (by omega) (by omega) (by decide) ?_
    clear hst; intro v' w hst
    (try refine nX ?_)
    (try replace hst := nH hst)
    replace hst := hst.drop
    rw [← u8s_append, ← List.length_append] at hst
    repeat' (first | (((with_reducible (refine Sl.k_conv ?_; with_unfolding_all refine s_string_own (k := 0) (b := encI f.1 ++ encB (encMF f.2.2.1)) hst rfl rfl inX IntT.u StrT.u ?_))) <;> (try refine nX ?_)) | ((fail_if_success (go_big_may)); (go_step)))
    refine bodyPost_ret (results_tmp rfl _ _ _) rfl ?_
    exact ⟨_, rfl, rfl, St.weaken hS1 hst.drop⟩
  · rw [encFa_3 g1 g2 (by simp at g3; omega)]
    go_enter Tryd.func18, Tryd.ntmps18
    repeat' ((fail_if_success (with_reducible show Code.wp _ (Code.region 1 _ _) _ _ _)); first | ((fail_if_success (go_big_may)); (go_step)) | (((((refine s_box hst evX rfl ?_; clear hst; intro bx w hst)))) <;> (try refine nX ?_) <;> (try replace hst := nH hst)))
    obtain ⟨S1, hS1, hst, hpe⟩ := pt_box (α := Fa) hst hR (Rep.len hR)
    repeat' (((fail_if_success (go_big_may)); (go_step)))
    refine s_lit (vs := []) (cs := []) hst inX inX rfl rfl (by simp) rfl (by omega) (by omega) ?_
    clear hst; intro x0 w hst
    (try refine nX ?_)
    repeat' (first | (((with_reducible (refine Sl.k_field ?_; refine s_ex hst (qt_fieldp evX hpe inX inX rfl) ?_; rintro vf hpf))) <;> (try refine nX ?_)) | (((with_reducible refine Sl.k_call ?_; ((refine s_call (refInt_c _ hst f.1 hk) inX rfl ?_; clear hst; rintro v w hst)))) <;> (try refine nX ?_) <;> (try replace hst := nH hst)) | (((with_reducible refine Sl.k_load ?_; ((refine s_ex hst (qt_ldp_int evX asX inX) ?_; rintro v ⟨rfl, hI⟩)))) <;> (try refine nX ?_)))
    refine s_append (j := 0) hst evX evX SlIn.h rfl inX inX inX (u8s_one _) (by omega) (by omega) (by decide) ?_
    clear hst; intro v' w hst
    (try refine nX ?_)
    (try replace hst := nH hst)
    replace hst := hst.drop
    repeat' (first | ((first | (with_reducible (refine Sl.k_field ?_; refine s_ex hst (qt_fieldp evX hpe inX inX rfl) ?_; rintro vf hpf)) | (with_reducible refine Sl.k_bin ?_; (first | refine s_qt hst (qt_eql_b rfl rfl g1) ?_ | refine s_qt hst (qt_eql_b rfl rfl g2) ?_ | refine s_qt hst (qt_eql_b rfl rfl g3) ?_))) <;> (try refine nX ?_)) | ((fail_if_success (go_big_may)); (go_step)) | (((with_reducible refine Sl.k_load ?_; ((refine s_ex hst (qt_ldp_int evX asX inX) ?_; rintro v ⟨rfl, hI⟩)))) <;> (try refine nX ?_)))
    refine s_ex hst (qt_arrSliceP (a := 0) (b := 16) evX hpf inX inX (.inl ⟨rfl, rfl⟩) (.inl ⟨rfl, rfl⟩) (by omega) (by omega) (by unfold maxLen; omega)) ?_
    rintro v29 hv29
    rw [List.drop_zero, List.take_of_length_le (by omega)] at hv29
    repeat' (fail)
    refine s_append_data (α := UInt8) (k := 0) hst evX evX rfl (by assumption) inX inX inX (by omega) (by omega) (by decide) ?_
    clear hst; intro x w c' hc' hst
    (try refine nX ?_)
    obtain rfl := hc'.eq_u8s
    rw [← u8s_append, ← List.length_append] at hst
    repeat' (first | (((with_reducible (refine Sl.k_conv ?_; with_unfolding_all refine s_string_own (k := 0) (b := encI f.1 ++ f.2.2.2.1.l) hst rfl rfl inX IntT.u StrT.u ?_))) <;> (try refine nX ?_)) | ((fail_if_success (go_big_may)); (go_step)))
    refine bodyPost_ret (results_tmp rfl _ _ _) rfl ?_
    exact ⟨_, rfl, rfl, St.weaken hS1 hst.drop⟩
  · rw [encFa_3 g1 g2 (by simp at g4; omega)]
    go_enter Tryd.func18, Tryd.ntmps18
    repeat' ((fail_if_success (with_reducible show Code.wp _ (Code.region 1 _ _) _ _ _)); first | ((fail_if_success (go_big_may)); (go_step)) | (((((refine s_box hst evX rfl ?_; clear hst; intro bx w hst)))) <;> (try refine nX ?_) <;> (try replace hst := nH hst)))
    obtain ⟨S1, hS1, hst, hpe⟩ := pt_box (α := Fa) hst hR (Rep.len hR)
    repeat' (((fail_if_success (go_big_may)); (go_step)))
    refine s_lit (vs := []) (cs := []) hst inX inX rfl rfl (by simp) rfl (by omega) (by omega) ?_
    clear hst; intro x0 w hst
    (try refine nX ?_)
    repeat' (first | (((with_reducible (refine Sl.k_field ?_; refine s_ex hst (qt_fieldp evX hpe inX inX rfl) ?_; rintro vf hpf))) <;> (try refine nX ?_)) | (((with_reducible refine Sl.k_call ?_; ((refine s_call (refInt_c _ hst f.1 hk) inX rfl ?_; clear hst; rintro v w hst)))) <;> (try refine nX ?_) <;> (try replace hst := nH hst)) | (((with_reducible refine Sl.k_load ?_; ((refine s_ex hst (qt_ldp_int evX asX inX) ?_; rintro v ⟨rfl, hI⟩)))) <;> (try refine nX ?_)))
    refine s_append (j := 0) hst evX evX SlIn.h rfl inX inX inX (u8s_one _) (by omega) (by omega) (by decide) ?_
    clear hst; intro v' w hst
    (try refine nX ?_)
    (try replace hst := nH hst)
    replace hst := hst.drop
    repeat' (first | ((first | (with_reducible (refine Sl.k_field ?_; refine s_ex hst (qt_fieldp evX hpe inX inX rfl) ?_; rintro vf hpf)) | (with_reducible refine Sl.k_bin ?_; (first | refine s_qt hst (qt_eql_b rfl rfl g1) ?_ | refine s_qt hst (qt_eql_b rfl rfl g2) ?_ | refine s_qt hst (qt_eql_b rfl rfl g3) ?_ | refine s_qt hst (qt_eql_b rfl rfl g4) ?_))) <;> (try refine nX ?_)) | ((fail_if_success (go_big_may)); (go_step)) | (((with_reducible refine Sl.k_load ?_; ((refine s_ex hst (qt_ldp_int evX asX inX) ?_; rintro v ⟨rfl, hI⟩)))) <;> (try refine nX ?_)))
    refine s_ex hst (qt_arrSliceP (a := 0) (b := 16) evX hpf inX inX (.inl ⟨rfl, rfl⟩) (.inl ⟨rfl, rfl⟩) (by omega) (by omega) (by unfold maxLen; omega)) ?_
    rintro v29 hv29
    rw [List.drop_zero, List.take_of_length_le (by omega)] at hv29
    repeat' (fail)
    refine s_append_data (α := UInt8) (k := 0) hst evX evX rfl (by assumption) inX inX inX (by omega) (by omega) (by decide) ?_
    clear hst; intro x w c' hc' hst
    (try refine nX ?_)
    obtain rfl := hc'.eq_u8s
    rw [← u8s_append, ← List.length_append] at hst
    repeat' (first | (((with_reducible (refine Sl.k_conv ?_; with_unfolding_all refine s_string_own (k := 0) (b := encI f.1 ++ f.2.2.2.1.l) hst rfl rfl inX IntT.u StrT.u ?_))) <;> (try refine nX ?_)) | ((fail_if_success (go_big_may)); (go_step)))
    refine bodyPost_ret (results_tmp rfl _ _ _) rfl ?_
    exact ⟨_, rfl, rfl, St.weaken hS1 hst.drop⟩
  · rw [encFa_5 g1 g2 g3 g4]
    go_enter Tryd.func18, Tryd.ntmps18
    repeat' ((fail_if_success (with_reducible show Code.wp _ (Code.region 1 _ _) _ _ _)); first | ((fail_if_success (go_big_may)); (go_step)) | (((((refine s_box hst evX rfl ?_; clear hst; intro bx w hst)))) <;> (try refine nX ?_) <;> (try replace hst := nH hst)))
    obtain ⟨S1, hS1, hst, hpe⟩ := pt_box (α := Fa) hst hR (Rep.len hR)
    repeat' (((fail_if_success (go_big_may)); (go_step)))
    refine s_lit (vs := []) (cs := []) hst inX inX rfl rfl (by simp) rfl (by omega) (by omega) ?_
    clear hst; intro x0 w hst
    (try refine nX ?_)
    repeat' (first | (((with_reducible (refine Sl.k_field ?_; refine s_ex hst (qt_fieldp evX hpe inX inX rfl) ?_; rintro vf hpf))) <;> (try refine nX ?_)) | (((with_reducible refine Sl.k_call ?_; ((refine s_call (refInt_c _ hst f.1 hk) inX rfl ?_; clear hst; rintro v w hst)))) <;> (try refine nX ?_) <;> (try replace hst := nH hst)) | (((with_reducible refine Sl.k_load ?_; ((refine s_ex hst (qt_ldp_int evX asX inX) ?_; rintro v ⟨rfl, hI⟩)))) <;> (try refine nX ?_)))
    refine s_append (j := 0) hst evX evX SlIn.h rfl inX inX inX (u8s_one _) (by omega) (by omega) (by decide) ?_
    clear hst; intro v' w hst
    (try refine nX ?_)
    (try replace hst := nH hst)
    replace hst := hst.drop
    repeat' (first | ((first | (with_reducible (refine Sl.k_field ?_; refine s_ex hst (qt_fieldp evX hpe inX inX rfl) ?_; rintro vf hpf)) | (with_reducible (refine Sl.k_conv ?_; with_unfolding_all refine s_string_own (k := 0) (b := encI f.1) hst rfl rfl inX IntT.u StrT.u ?_)) | (with_reducible refine Sl.k_bin ?_; (first | refine s_qt hst (qt_eql_b rfl rfl g1) ?_ | refine s_qt hst (qt_eql_b rfl rfl g2) ?_ | refine s_qt hst (qt_eql_b rfl rfl g3) ?_ | refine s_qt hst (qt_eql_b rfl rfl g4) ?_))) <;> (try refine nX ?_)) | ((fail_if_success (go_big_may)); (go_step)) | (((with_reducible refine Sl.k_load ?_; ((refine s_ex hst (qt_ldp_int evX asX inX) ?_; rintro v ⟨rfl, hI⟩)))) <;> (try refine nX ?_)))
    refine bodyPost_ret (results_tmp rfl _ _ _) rfl ?_
    exact ⟨_, rfl, rfl, St.weaken hS1 hst.drop⟩
end Go.Proofs.YtjapdhaimbalkaaDoor

/- Package directory, the reference: facts that are valid, walked. -/
--@hgp
--@flat
--@dg
--@ex0
namespace Go.Proofs.YtjapdhaimbalkaaDoor
set_option linter.unusedSimpArgs false
set_option linter.unusedVariables false
open Go.RowKit Go.Sl Go.Srt

/-- What is asked of a fact, as Booleans. -/
structure RB (f : Fa) (z v y k1 k2 k3 k4 bt : Bool) : Prop where
  ez : plainM f.2.2.1 = z
  ev : validM f.2.2.1 = v
  gy : decide (f.2.2.2.1 = zeroDg) = y
  g1 : (f.1 == 1) = k1
  g2 : (f.1 == 2) = k2
  g3 : (f.1 == 3) = k3
  g4 : (f.1 == 4) = k4
  gt : decide (f.2.1.b = []) = bt
theorem RB.val {f : Fa} {z v y k1 k2 k3 k4 bt : Bool} (h : RB f z v y k1 k2 k3 k4 bt) (ok : FaOk f) : validF f = bif k1 then z && y else bif k2 then y && bt && v else bif k3 || k4 then z && bt else false := by
  obtain ⟨ez, ev, gy, g1, g2, g3, g4, gt⟩ := h
  have ht : decide (f.2.1.b.length = 0) = bt := by rw [← gt, Bool.eq_iff_iff]; simp
  have h5 : decide (f.2.1.b.length ≤ 1500) = true := decide_eq_true (by have := ok.t; omega)
  rw [validF, ez, ev, ht, h5, gy, ← g1, ← g2, ← g3, ← g4]
  by_cases c1 : f.1 = 1
  · simp [c1]
  · by_cases c2 : f.1 = 2
    · simp [c2]
    · by_cases c3 : f.1 = 3
      · simp [c3]
      · by_cases c4 : f.1 = 4
        · simp [c4]
        · simp [c1, c2, c3, c4]
abbrev RVal (f : Fa) (z v y k1 k2 k3 k4 bt : Bool) : Prop := ∀ {S M} (w : World) (_ : St S M w) (cs : List Value) (_ : Rep.R S cs f) (_ : FaOk f), RB f z v y k1 k2 k3 k4 bt →
    Rets Tryd.prog 16 [.agg cs.toArray] w fun v w' => v = .bool (validF f) ∧ St S M w'
set_option maxRecDepth 8000 in
set_option maxHeartbeats 2000000 in
theorem rv_1a {f : Fa} {v y k2 k3 k4 bt : Bool} : RVal f false v y true k2 k3 k4 bt := by
  intro S M w hst cs hR ok H
  unfold Rets
  have hv := H.val ok
  obtain ⟨ez, ev, gy, g1, g2, g3, g4, gt⟩ := H
  have hd := ok.d
  have cz := fun {S : Snap} {M : List Chunk} (w : World) (hst : St S M w) (cs : List Value) (hR : Rep.R S cs f.2.2.1) => (rzero_c w hst cs f.2.2.1 hR (by have := ok.s; omega)).eq ez
  have cv := fun {S : Snap} {M : List Chunk} (w : World) (hst : St S M w) (cs : List Value) (hR : Rep.R S cs f.2.2.1) => (rvalid_c w hst cs f.2.2.1 hR (by have := ok.s; omega)).eq ev
  have g5 : decide ((f.2.1.b.length : Int) ≤ 1500) = true := decide_eq_true (by have := ok.t; omega)
  go_enter Tryd.func16, Tryd.ntmps16
  repeat' ((fail_if_success (with_reducible show Code.wp _ (Code.region 1 _ _) _ _ _)); first | ((fail_if_success (go_big_may)); (go_step)) | (((((refine s_box hst evX rfl ?_; clear hst; intro bx w hst)))) <;> (try refine nX ?_) <;> (try replace hst := nH hst)))
  obtain ⟨S1, hS1, hst, hpe⟩ := pt_box (α := Fa) hst hR (Rep.len hR)
  repeat' (first | go_skip | ((first | (with_reducible (refine Sl.k_field ?_; refine s_ex hst (qt_fieldp evX hpe inX inX rfl) ?_; rintro vf hpf)) | (with_reducible (refine Sl.k_load ?_; refine s_qt hst (qt_ldp_flat (y := f.2.2.2.1) evX hpf inX inX rfl) ?_)) | (with_reducible (refine Sl.k_load ?_; refine s_ex hst (qt_ldp (y := f.2.2.1) evX hpf inX) ?_; rintro v54 ⟨cm2, rfl, hcm2⟩)) | (with_reducible refine Sl.k_bin ?_; (first | refine s_qt hst (qt_eql_b rfl rfl g1) ?_ | refine s_qt hst (qt_eqlK_b rfl rfl (r_dgd hd) (r_dgd rfl) inX inX inferInstance gy) ?_))) <;> (try refine nX ?_)) | (((with_reducible refine Sl.k_call ?_; (first | (refine s_call (cz _ hst cm2 hcm2) inX rfl ?_; clear hst; rintro v w ⟨rfl, hst⟩) | (refine s_call (cv _ hst cm2 hcm2) inX rfl ?_; clear hst; rintro v w ⟨rfl, hst⟩)))) <;> (try refine nX ?_) <;> (try replace hst := nH hst)) | ((fail_if_success (go_big_may)); (go_step)) | (((with_reducible refine Sl.k_load ?_; ((refine s_ex hst (qt_ldp_int evX asX inX) ?_; rintro v ⟨rfl, hI⟩)))) <;> (try refine nX ?_)) | (with_reducible refine Sl.gate rfl ?_; (go_step)))
  refine bodyPost_ret (results_tmp rfl _ _ _) rfl ?_
  exact ⟨_, rfl, by rw [hv]; first | rfl | (cases y <;> cases bt <;> rfl), St.weaken hS1 hst⟩

set_option maxRecDepth 8000 in
set_option maxHeartbeats 2000000 in
theorem rv_1b {f : Fa} {v k2 k3 k4 bt : Bool} : RVal f true v false true k2 k3 k4 bt := by
  intro S M w hst cs hR ok H
  unfold Rets
  have hv := H.val ok
  obtain ⟨ez, ev, gy, g1, g2, g3, g4, gt⟩ := H
  have hd := ok.d
  have cz := fun {S : Snap} {M : List Chunk} (w : World) (hst : St S M w) (cs : List Value) (hR : Rep.R S cs f.2.2.1) => (rzero_c w hst cs f.2.2.1 hR (by have := ok.s; omega)).eq ez
  have cv := fun {S : Snap} {M : List Chunk} (w : World) (hst : St S M w) (cs : List Value) (hR : Rep.R S cs f.2.2.1) => (rvalid_c w hst cs f.2.2.1 hR (by have := ok.s; omega)).eq ev
  have g5 : decide ((f.2.1.b.length : Int) ≤ 1500) = true := decide_eq_true (by have := ok.t; omega)
  go_enter Tryd.func16, Tryd.ntmps16
  repeat' ((fail_if_success (with_reducible show Code.wp _ (Code.region 1 _ _) _ _ _)); first | ((fail_if_success (go_big_may)); (go_step)) | (((((refine s_box hst evX rfl ?_; clear hst; intro bx w hst)))) <;> (try refine nX ?_) <;> (try replace hst := nH hst)))
  obtain ⟨S1, hS1, hst, hpe⟩ := pt_box (α := Fa) hst hR (Rep.len hR)
  repeat' (first | go_skip | ((first | (with_reducible (refine Sl.k_field ?_; refine s_ex hst (qt_fieldp evX hpe inX inX rfl) ?_; rintro vf hpf)) | (with_reducible (refine Sl.k_load ?_; refine s_qt hst (qt_ldp_flat (y := f.2.2.2.1) evX hpf inX inX rfl) ?_)) | (with_reducible (refine Sl.k_load ?_; refine s_ex hst (qt_ldp (y := f.2.2.1) evX hpf inX) ?_; rintro v54 ⟨cm2, rfl, hcm2⟩)) | (with_reducible refine Sl.k_bin ?_; (first | refine s_qt hst (qt_eql_b rfl rfl g1) ?_ | refine s_qt hst (qt_eqlK_b rfl rfl (r_dgd hd) (r_dgd rfl) inX inX inferInstance gy) ?_)) | (with_reducible refine Sl.k_guard ?_; ((refine Sl.guard_yes rfl ?_)))) <;> (try refine nX ?_)) | (((with_reducible refine Sl.k_call ?_; (first | (refine s_call (cz _ hst cm2 hcm2) inX rfl ?_; clear hst; rintro v w ⟨rfl, hst⟩) | (refine s_call (cv _ hst cm2 hcm2) inX rfl ?_; clear hst; rintro v w ⟨rfl, hst⟩)))) <;> (try refine nX ?_) <;> (try replace hst := nH hst)) | ((fail_if_success (go_big_may)); (go_step)) | (((with_reducible refine Sl.k_load ?_; ((refine s_ex hst (qt_ldp_int evX asX inX) ?_; rintro v ⟨rfl, hI⟩)))) <;> (try refine nX ?_)) | (with_reducible refine Sl.gate rfl ?_; (go_step)))
  refine bodyPost_ret (results_tmp rfl _ _ _) rfl ?_
  exact ⟨_, rfl, by rw [hv]; first | rfl | (cases y <;> cases bt <;> rfl), St.weaken hS1 hst⟩

set_option maxRecDepth 8000 in
set_option maxHeartbeats 2000000 in
theorem rv_1c {f : Fa} {v k2 k3 k4 bt : Bool} : RVal f true v true true k2 k3 k4 bt := by
  intro S M w hst cs hR ok H
  unfold Rets
  have hv := H.val ok
  obtain ⟨ez, ev, gy, g1, g2, g3, g4, gt⟩ := H
  have hd := ok.d
  have cz := fun {S : Snap} {M : List Chunk} (w : World) (hst : St S M w) (cs : List Value) (hR : Rep.R S cs f.2.2.1) => (rzero_c w hst cs f.2.2.1 hR (by have := ok.s; omega)).eq ez
  have cv := fun {S : Snap} {M : List Chunk} (w : World) (hst : St S M w) (cs : List Value) (hR : Rep.R S cs f.2.2.1) => (rvalid_c w hst cs f.2.2.1 hR (by have := ok.s; omega)).eq ev
  have g5 : decide ((f.2.1.b.length : Int) ≤ 1500) = true := decide_eq_true (by have := ok.t; omega)
  go_enter Tryd.func16, Tryd.ntmps16
  repeat' ((fail_if_success (with_reducible show Code.wp _ (Code.region 1 _ _) _ _ _)); first | ((fail_if_success (go_big_may)); (go_step)) | (((((refine s_box hst evX rfl ?_; clear hst; intro bx w hst)))) <;> (try refine nX ?_) <;> (try replace hst := nH hst)))
  obtain ⟨S1, hS1, hst, hpe⟩ := pt_box (α := Fa) hst hR (Rep.len hR)
  repeat' (first | ((first | (with_reducible (refine Sl.k_field ?_; refine s_ex hst (qt_fieldp evX hpe inX inX rfl) ?_; rintro vf hpf)) | (with_reducible (refine Sl.k_load ?_; refine s_qt hst (qt_ldp_flat (y := f.2.2.2.1) evX hpf inX inX rfl) ?_)) | (with_reducible (refine Sl.k_load ?_; refine s_ex hst (qt_ldp (y := f.2.2.1) evX hpf inX) ?_; rintro v54 ⟨cm2, rfl, hcm2⟩)) | (with_reducible refine Sl.k_bin ?_; (first | refine s_qt hst (qt_eql_b rfl rfl g1) ?_ | refine s_qt hst (qt_leq_b rfl rfl g5) ?_ | refine s_qt hst (qt_eqlK_b rfl rfl (r_dgd hd) (r_dgd rfl) inX inX inferInstance gy) ?_)) | (with_reducible refine Sl.k_guard ?_; ((refine Sl.guard_yes rfl ?_)))) <;> (try refine nX ?_)) | (((with_reducible refine Sl.k_call ?_; (first | (refine s_call (cz _ hst cm2 hcm2) inX rfl ?_; clear hst; rintro v w ⟨rfl, hst⟩) | (refine s_call (cv _ hst cm2 hcm2) inX rfl ?_; clear hst; rintro v w ⟨rfl, hst⟩)))) <;> (try refine nX ?_) <;> (try replace hst := nH hst)) | ((fail_if_success (go_big_may)); (go_step)) | ((first | (with_reducible refine Sl.k_load ?_; (first | (refine s_ex hst (qt_ldp_int evX asX inX) ?_; rintro v ⟨rfl, hI⟩) | (refine s_ex hst (qt_ldp_str evX asX inX) ?_; rintro v ⟨rfl, hs⟩))) | (with_reducible refine Sl.k_call ?_; (refine s_qt hst (by exact qt_len_str evX inX) ?_))) <;> (try refine nX ?_)) | (with_reducible refine Sl.gate rfl ?_; (go_step)))
  refine bodyPost_ret (results_tmp rfl _ _ _) rfl ?_
  exact ⟨_, rfl, by rw [hv]; first | rfl | (cases y <;> cases bt <;> rfl), St.weaken hS1 hst⟩

set_option maxRecDepth 8000 in
set_option maxHeartbeats 2000000 in
theorem rv_2a {f : Fa} {z y k3 k4 bt : Bool} : RVal f z false y false true k3 k4 bt := by
  intro S M w hst cs hR ok H
  unfold Rets
  have hv := H.val ok
  obtain ⟨ez, ev, gy, g1, g2, g3, g4, gt⟩ := H
  have hd := ok.d
  have cz := fun {S : Snap} {M : List Chunk} (w : World) (hst : St S M w) (cs : List Value) (hR : Rep.R S cs f.2.2.1) => (rzero_c w hst cs f.2.2.1 hR (by have := ok.s; omega)).eq ez
  have cv := fun {S : Snap} {M : List Chunk} (w : World) (hst : St S M w) (cs : List Value) (hR : Rep.R S cs f.2.2.1) => (rvalid_c w hst cs f.2.2.1 hR (by have := ok.s; omega)).eq ev
  have g5 : decide ((f.2.1.b.length : Int) ≤ 1500) = true := decide_eq_true (by have := ok.t; omega)
  go_enter Tryd.func16, Tryd.ntmps16
  repeat' ((fail_if_success (with_reducible show Code.wp _ (Code.region 1 _ _) _ _ _)); first | ((fail_if_success (go_big_may)); (go_step)) | (((((refine s_box hst evX rfl ?_; clear hst; intro bx w hst)))) <;> (try refine nX ?_) <;> (try replace hst := nH hst)))
  obtain ⟨S1, hS1, hst, hpe⟩ := pt_box (α := Fa) hst hR (Rep.len hR)
  repeat' (first | go_skip | ((first | (with_reducible (refine Sl.k_field ?_; refine s_ex hst (qt_fieldp evX hpe inX inX rfl) ?_; rintro vf hpf)) | (with_reducible (refine Sl.k_load ?_; refine s_qt hst (qt_ldp_flat (y := f.2.2.2.1) evX hpf inX inX rfl) ?_)) | (with_reducible (refine Sl.k_load ?_; refine s_ex hst (qt_ldp (y := f.2.2.1) evX hpf inX) ?_; rintro v54 ⟨cm2, rfl, hcm2⟩)) | (with_reducible refine Sl.k_bin ?_; (first | refine s_qt hst (qt_eql_b rfl rfl g1) ?_ | refine s_qt hst (qt_eql_b rfl rfl g2) ?_ | refine s_qt hst (qt_eqlK_b rfl rfl (r_dgd hd) (r_dgd rfl) inX inX inferInstance gy) ?_))) <;> (try refine nX ?_)) | (((with_reducible refine Sl.k_call ?_; (first | (refine s_call (cz _ hst cm2 hcm2) inX rfl ?_; clear hst; rintro v w ⟨rfl, hst⟩) | (refine s_call (cv _ hst cm2 hcm2) inX rfl ?_; clear hst; rintro v w ⟨rfl, hst⟩)))) <;> (try refine nX ?_) <;> (try replace hst := nH hst)) | ((fail_if_success (go_big_may)); (go_step)) | (((with_reducible refine Sl.k_load ?_; ((refine s_ex hst (qt_ldp_int evX asX inX) ?_; rintro v ⟨rfl, hI⟩)))) <;> (try refine nX ?_)) | (with_reducible refine Sl.gate rfl ?_; (go_step)))
  refine bodyPost_ret (results_tmp rfl _ _ _) rfl ?_
  exact ⟨_, rfl, by rw [hv]; first | rfl | (cases y <;> cases bt <;> rfl), St.weaken hS1 hst⟩

set_option maxRecDepth 8000 in
set_option maxHeartbeats 2000000 in
theorem rv_2b {f : Fa} {z k3 k4 bt : Bool} : RVal f z true false false true k3 k4 bt := by
  intro S M w hst cs hR ok H
  unfold Rets
  have hv := H.val ok
  obtain ⟨ez, ev, gy, g1, g2, g3, g4, gt⟩ := H
  have hd := ok.d
  have cz := fun {S : Snap} {M : List Chunk} (w : World) (hst : St S M w) (cs : List Value) (hR : Rep.R S cs f.2.2.1) => (rzero_c w hst cs f.2.2.1 hR (by have := ok.s; omega)).eq ez
  have cv := fun {S : Snap} {M : List Chunk} (w : World) (hst : St S M w) (cs : List Value) (hR : Rep.R S cs f.2.2.1) => (rvalid_c w hst cs f.2.2.1 hR (by have := ok.s; omega)).eq ev
  have g5 : decide ((f.2.1.b.length : Int) ≤ 1500) = true := decide_eq_true (by have := ok.t; omega)
  go_enter Tryd.func16, Tryd.ntmps16
  repeat' ((fail_if_success (with_reducible show Code.wp _ (Code.region 1 _ _) _ _ _)); first | ((fail_if_success (go_big_may)); (go_step)) | (((((refine s_box hst evX rfl ?_; clear hst; intro bx w hst)))) <;> (try refine nX ?_) <;> (try replace hst := nH hst)))
  obtain ⟨S1, hS1, hst, hpe⟩ := pt_box (α := Fa) hst hR (Rep.len hR)
  repeat' (first | go_skip | ((first | (with_reducible (refine Sl.k_field ?_; refine s_ex hst (qt_fieldp evX hpe inX inX rfl) ?_; rintro vf hpf)) | (with_reducible (refine Sl.k_load ?_; refine s_qt hst (qt_ldp_flat (y := f.2.2.2.1) evX hpf inX inX rfl) ?_)) | (with_reducible (refine Sl.k_load ?_; refine s_ex hst (qt_ldp (y := f.2.2.1) evX hpf inX) ?_; rintro v54 ⟨cm2, rfl, hcm2⟩)) | (with_reducible refine Sl.k_bin ?_; (first | refine s_qt hst (qt_eql_b rfl rfl g1) ?_ | refine s_qt hst (qt_eql_b rfl rfl g2) ?_ | refine s_qt hst (qt_eqlK_b rfl rfl (r_dgd hd) (r_dgd rfl) inX inX inferInstance gy) ?_)) | (with_reducible refine Sl.k_guard ?_; ((refine Sl.guard_yes rfl ?_)))) <;> (try refine nX ?_)) | (((with_reducible refine Sl.k_call ?_; (first | (refine s_call (cz _ hst cm2 hcm2) inX rfl ?_; clear hst; rintro v w ⟨rfl, hst⟩) | (refine s_call (cv _ hst cm2 hcm2) inX rfl ?_; clear hst; rintro v w ⟨rfl, hst⟩)))) <;> (try refine nX ?_) <;> (try replace hst := nH hst)) | ((fail_if_success (go_big_may)); (go_step)) | (((with_reducible refine Sl.k_load ?_; ((refine s_ex hst (qt_ldp_int evX asX inX) ?_; rintro v ⟨rfl, hI⟩)))) <;> (try refine nX ?_)) | (with_reducible refine Sl.gate rfl ?_; (go_step)))
  refine bodyPost_ret (results_tmp rfl _ _ _) rfl ?_
  exact ⟨_, rfl, by rw [hv]; first | rfl | (cases y <;> cases bt <;> rfl), St.weaken hS1 hst⟩

set_option maxRecDepth 8000 in
set_option maxHeartbeats 2000000 in
theorem rv_2c {f : Fa} {z k3 k4 : Bool} : RVal f z true true false true k3 k4 false := by
  intro S M w hst cs hR ok H
  unfold Rets
  have hv := H.val ok
  obtain ⟨ez, ev, gy, g1, g2, g3, g4, gt⟩ := H
  have hd := ok.d
  have cz := fun {S : Snap} {M : List Chunk} (w : World) (hst : St S M w) (cs : List Value) (hR : Rep.R S cs f.2.2.1) => (rzero_c w hst cs f.2.2.1 hR (by have := ok.s; omega)).eq ez
  have cv := fun {S : Snap} {M : List Chunk} (w : World) (hst : St S M w) (cs : List Value) (hR : Rep.R S cs f.2.2.1) => (rvalid_c w hst cs f.2.2.1 hR (by have := ok.s; omega)).eq ev
  have g5 : decide ((f.2.1.b.length : Int) ≤ 1500) = true := decide_eq_true (by have := ok.t; omega)
  go_enter Tryd.func16, Tryd.ntmps16
  repeat' ((fail_if_success (with_reducible show Code.wp _ (Code.region 1 _ _) _ _ _)); first | ((fail_if_success (go_big_may)); (go_step)) | (((((refine s_box hst evX rfl ?_; clear hst; intro bx w hst)))) <;> (try refine nX ?_) <;> (try replace hst := nH hst)))
  obtain ⟨S1, hS1, hst, hpe⟩ := pt_box (α := Fa) hst hR (Rep.len hR)
  repeat' (first | ((first | (with_reducible (refine Sl.k_field ?_; refine s_ex hst (qt_fieldp evX hpe inX inX rfl) ?_; rintro vf hpf)) | (with_reducible (refine Sl.k_load ?_; refine s_qt hst (qt_ldp_flat (y := f.2.2.2.1) evX hpf inX inX rfl) ?_)) | (with_reducible (refine Sl.k_load ?_; refine s_ex hst (qt_ldp (y := f.2.2.1) evX hpf inX) ?_; rintro v54 ⟨cm2, rfl, hcm2⟩)) | (with_reducible refine Sl.k_bin ?_; (first | refine s_qt hst (qt_eql_b rfl rfl g1) ?_ | refine s_qt hst (qt_eql_b rfl rfl g2) ?_ | refine s_qt hst (qt_eql_str rfl rfl inX gt) ?_ | refine s_qt hst (qt_eqlK_b rfl rfl (r_dgd hd) (r_dgd rfl) inX inX inferInstance gy) ?_)) | (with_reducible refine Sl.k_guard ?_; ((refine Sl.guard_yes rfl ?_)))) <;> (try refine nX ?_)) | (((with_reducible refine Sl.k_call ?_; (first | (refine s_call (cz _ hst cm2 hcm2) inX rfl ?_; clear hst; rintro v w ⟨rfl, hst⟩) | (refine s_call (cv _ hst cm2 hcm2) inX rfl ?_; clear hst; rintro v w ⟨rfl, hst⟩)))) <;> (try refine nX ?_) <;> (try replace hst := nH hst)) | ((fail_if_success (go_big_may)); (go_step)) | (((with_reducible refine Sl.k_load ?_; (first | (refine s_ex hst (qt_ldp_int evX asX inX) ?_; rintro v ⟨rfl, hI⟩) | (refine s_ex hst (qt_ldp_str evX asX inX) ?_; rintro v ⟨rfl, hs⟩)))) <;> (try refine nX ?_)) | (with_reducible refine Sl.gate rfl ?_; (go_step)))
  refine bodyPost_ret (results_tmp rfl _ _ _) rfl ?_
  exact ⟨_, rfl, by rw [hv]; first | rfl | (cases y <;> cases bt <;> rfl), St.weaken hS1 hst⟩

set_option maxRecDepth 8000 in
set_option maxHeartbeats 2000000 in
theorem rv_2d {f : Fa} {z k3 k4 : Bool} : RVal f z true true false true k3 k4 true := by
  intro S M w hst cs hR ok H
  unfold Rets
  have hv := H.val ok
  obtain ⟨ez, ev, gy, g1, g2, g3, g4, gt⟩ := H
  have hd := ok.d
  have cz := fun {S : Snap} {M : List Chunk} (w : World) (hst : St S M w) (cs : List Value) (hR : Rep.R S cs f.2.2.1) => (rzero_c w hst cs f.2.2.1 hR (by have := ok.s; omega)).eq ez
  have cv := fun {S : Snap} {M : List Chunk} (w : World) (hst : St S M w) (cs : List Value) (hR : Rep.R S cs f.2.2.1) => (rvalid_c w hst cs f.2.2.1 hR (by have := ok.s; omega)).eq ev
  have g5 : decide ((f.2.1.b.length : Int) ≤ 1500) = true := decide_eq_true (by have := ok.t; omega)
  go_enter Tryd.func16, Tryd.ntmps16
  repeat' ((fail_if_success (with_reducible show Code.wp _ (Code.region 1 _ _) _ _ _)); first | ((fail_if_success (go_big_may)); (go_step)) | (((((refine s_box hst evX rfl ?_; clear hst; intro bx w hst)))) <;> (try refine nX ?_) <;> (try replace hst := nH hst)))
  obtain ⟨S1, hS1, hst, hpe⟩ := pt_box (α := Fa) hst hR (Rep.len hR)
  repeat' (first | ((first | (with_reducible (refine Sl.k_field ?_; refine s_ex hst (qt_fieldp evX hpe inX inX rfl) ?_; rintro vf hpf)) | (with_reducible (refine Sl.k_load ?_; refine s_qt hst (qt_ldp_flat (y := f.2.2.2.1) evX hpf inX inX rfl) ?_)) | (with_reducible (refine Sl.k_load ?_; refine s_ex hst (qt_ldp (y := f.2.2.1) evX hpf inX) ?_; rintro v54 ⟨cm2, rfl, hcm2⟩)) | (with_reducible refine Sl.k_bin ?_; (first | refine s_qt hst (qt_eql_b rfl rfl g1) ?_ | refine s_qt hst (qt_eql_b rfl rfl g2) ?_ | refine s_qt hst (qt_eql_str rfl rfl inX gt) ?_ | refine s_qt hst (qt_eqlK_b rfl rfl (r_dgd hd) (r_dgd rfl) inX inX inferInstance gy) ?_)) | (with_reducible refine Sl.k_guard ?_; ((refine Sl.guard_yes rfl ?_)))) <;> (try refine nX ?_)) | (((with_reducible refine Sl.k_call ?_; (first | (refine s_call (cz _ hst cm2 hcm2) inX rfl ?_; clear hst; rintro v w ⟨rfl, hst⟩) | (refine s_call (cv _ hst cm2 hcm2) inX rfl ?_; clear hst; rintro v w ⟨rfl, hst⟩)))) <;> (try refine nX ?_) <;> (try replace hst := nH hst)) | ((fail_if_success (go_big_may)); (go_step)) | (((with_reducible refine Sl.k_load ?_; (first | (refine s_ex hst (qt_ldp_int evX asX inX) ?_; rintro v ⟨rfl, hI⟩) | (refine s_ex hst (qt_ldp_str evX asX inX) ?_; rintro v ⟨rfl, hs⟩)))) <;> (try refine nX ?_)) | (with_reducible refine Sl.gate rfl ?_; (go_step)))
  refine bodyPost_ret (results_tmp rfl _ _ _) rfl ?_
  exact ⟨_, rfl, by rw [hv]; first | rfl | (cases y <;> cases bt <;> rfl), St.weaken hS1 hst⟩

set_option maxRecDepth 8000 in
set_option maxHeartbeats 2000000 in
theorem rv_3a {f : Fa} {v y k4 bt : Bool} : RVal f false v y false false true k4 bt := by
  intro S M w hst cs hR ok H
  unfold Rets
  have hv := H.val ok
  obtain ⟨ez, ev, gy, g1, g2, g3, g4, gt⟩ := H
  have hd := ok.d
  have cz := fun {S : Snap} {M : List Chunk} (w : World) (hst : St S M w) (cs : List Value) (hR : Rep.R S cs f.2.2.1) => (rzero_c w hst cs f.2.2.1 hR (by have := ok.s; omega)).eq ez
  have cv := fun {S : Snap} {M : List Chunk} (w : World) (hst : St S M w) (cs : List Value) (hR : Rep.R S cs f.2.2.1) => (rvalid_c w hst cs f.2.2.1 hR (by have := ok.s; omega)).eq ev
  have g5 : decide ((f.2.1.b.length : Int) ≤ 1500) = true := decide_eq_true (by have := ok.t; omega)
  go_enter Tryd.func16, Tryd.ntmps16
  repeat' ((fail_if_success (with_reducible show Code.wp _ (Code.region 1 _ _) _ _ _)); first | ((fail_if_success (go_big_may)); (go_step)) | (((((refine s_box hst evX rfl ?_; clear hst; intro bx w hst)))) <;> (try refine nX ?_) <;> (try replace hst := nH hst)))
  obtain ⟨S1, hS1, hst, hpe⟩ := pt_box (α := Fa) hst hR (Rep.len hR)
  repeat' (first | go_skip | ((first | (with_reducible (refine Sl.k_field ?_; refine s_ex hst (qt_fieldp evX hpe inX inX rfl) ?_; rintro vf hpf)) | (with_reducible (refine Sl.k_load ?_; refine s_qt hst (qt_ldp_flat (y := f.2.2.2.1) evX hpf inX inX rfl) ?_)) | (with_reducible (refine Sl.k_load ?_; refine s_ex hst (qt_ldp (y := f.2.2.1) evX hpf inX) ?_; rintro v54 ⟨cm2, rfl, hcm2⟩)) | (with_reducible refine Sl.k_bin ?_; (first | refine s_qt hst (qt_eql_b rfl rfl g1) ?_ | refine s_qt hst (qt_eql_b rfl rfl g2) ?_ | refine s_qt hst (qt_eql_b rfl rfl g3) ?_ | refine s_qt hst (qt_eqlK_b rfl rfl (r_dgd hd) (r_dgd rfl) inX inX inferInstance gy) ?_))) <;> (try refine nX ?_)) | (((with_reducible refine Sl.k_call ?_; (first | (refine s_call (cz _ hst cm2 hcm2) inX rfl ?_; clear hst; rintro v w ⟨rfl, hst⟩) | (refine s_call (cv _ hst cm2 hcm2) inX rfl ?_; clear hst; rintro v w ⟨rfl, hst⟩)))) <;> (try refine nX ?_) <;> (try replace hst := nH hst)) | ((fail_if_success (go_big_may)); (go_step)) | (((with_reducible refine Sl.k_load ?_; ((refine s_ex hst (qt_ldp_int evX asX inX) ?_; rintro v ⟨rfl, hI⟩)))) <;> (try refine nX ?_)) | (with_reducible refine Sl.gate rfl ?_; (go_step)))
  refine bodyPost_ret (results_tmp rfl _ _ _) rfl ?_
  exact ⟨_, rfl, by rw [hv]; first | rfl | (cases y <;> cases bt <;> rfl), St.weaken hS1 hst⟩

set_option maxRecDepth 8000 in
set_option maxHeartbeats 2000000 in
theorem rv_3b {f : Fa} {v y k4 : Bool} : RVal f true v y false false true k4 false := by
  intro S M w hst cs hR ok H
  unfold Rets
  have hv := H.val ok
  obtain ⟨ez, ev, gy, g1, g2, g3, g4, gt⟩ := H
  have hd := ok.d
  have cz := fun {S : Snap} {M : List Chunk} (w : World) (hst : St S M w) (cs : List Value) (hR : Rep.R S cs f.2.2.1) => (rzero_c w hst cs f.2.2.1 hR (by have := ok.s; omega)).eq ez
  have cv := fun {S : Snap} {M : List Chunk} (w : World) (hst : St S M w) (cs : List Value) (hR : Rep.R S cs f.2.2.1) => (rvalid_c w hst cs f.2.2.1 hR (by have := ok.s; omega)).eq ev
  have g5 : decide ((f.2.1.b.length : Int) ≤ 1500) = true := decide_eq_true (by have := ok.t; omega)
  go_enter Tryd.func16, Tryd.ntmps16
  repeat' ((fail_if_success (with_reducible show Code.wp _ (Code.region 1 _ _) _ _ _)); first | ((fail_if_success (go_big_may)); (go_step)) | (((((refine s_box hst evX rfl ?_; clear hst; intro bx w hst)))) <;> (try refine nX ?_) <;> (try replace hst := nH hst)))
  obtain ⟨S1, hS1, hst, hpe⟩ := pt_box (α := Fa) hst hR (Rep.len hR)
  repeat' (first | ((first | (with_reducible (refine Sl.k_field ?_; refine s_ex hst (qt_fieldp evX hpe inX inX rfl) ?_; rintro vf hpf)) | (with_reducible (refine Sl.k_load ?_; refine s_qt hst (qt_ldp_flat (y := f.2.2.2.1) evX hpf inX inX rfl) ?_)) | (with_reducible (refine Sl.k_load ?_; refine s_ex hst (qt_ldp (y := f.2.2.1) evX hpf inX) ?_; rintro v54 ⟨cm2, rfl, hcm2⟩)) | (with_reducible refine Sl.k_bin ?_; (first | refine s_qt hst (qt_eql_b rfl rfl g1) ?_ | refine s_qt hst (qt_eql_b rfl rfl g2) ?_ | refine s_qt hst (qt_eql_b rfl rfl g3) ?_ | refine s_qt hst (qt_eql_str rfl rfl inX gt) ?_ | refine s_qt hst (qt_eqlK_b rfl rfl (r_dgd hd) (r_dgd rfl) inX inX inferInstance gy) ?_)) | (with_reducible refine Sl.k_guard ?_; ((refine Sl.guard_yes rfl ?_)))) <;> (try refine nX ?_)) | (((with_reducible refine Sl.k_call ?_; (first | (refine s_call (cz _ hst cm2 hcm2) inX rfl ?_; clear hst; rintro v w ⟨rfl, hst⟩) | (refine s_call (cv _ hst cm2 hcm2) inX rfl ?_; clear hst; rintro v w ⟨rfl, hst⟩)))) <;> (try refine nX ?_) <;> (try replace hst := nH hst)) | ((fail_if_success (go_big_may)); (go_step)) | (((with_reducible refine Sl.k_load ?_; (first | (refine s_ex hst (qt_ldp_int evX asX inX) ?_; rintro v ⟨rfl, hI⟩) | (refine s_ex hst (qt_ldp_str evX asX inX) ?_; rintro v ⟨rfl, hs⟩)))) <;> (try refine nX ?_)) | (with_reducible refine Sl.gate rfl ?_; (go_step)))
  refine bodyPost_ret (results_tmp rfl _ _ _) rfl ?_
  exact ⟨_, rfl, by rw [hv]; first | rfl | (cases y <;> cases bt <;> rfl), St.weaken hS1 hst⟩

set_option maxRecDepth 8000 in
set_option maxHeartbeats 2000000 in
theorem rv_3c {f : Fa} {v y k4 : Bool} : RVal f true v y false false true k4 true := by
  intro S M w hst cs hR ok H
  unfold Rets
  have hv := H.val ok
  obtain ⟨ez, ev, gy, g1, g2, g3, g4, gt⟩ := H
  have hd := ok.d
  have cz := fun {S : Snap} {M : List Chunk} (w : World) (hst : St S M w) (cs : List Value) (hR : Rep.R S cs f.2.2.1) => (rzero_c w hst cs f.2.2.1 hR (by have := ok.s; omega)).eq ez
  have cv := fun {S : Snap} {M : List Chunk} (w : World) (hst : St S M w) (cs : List Value) (hR : Rep.R S cs f.2.2.1) => (rvalid_c w hst cs f.2.2.1 hR (by have := ok.s; omega)).eq ev
  have g5 : decide ((f.2.1.b.length : Int) ≤ 1500) = true := decide_eq_true (by have := ok.t; omega)
  go_enter Tryd.func16, Tryd.ntmps16
  repeat' ((fail_if_success (with_reducible show Code.wp _ (Code.region 1 _ _) _ _ _)); first | ((fail_if_success (go_big_may)); (go_step)) | (((((refine s_box hst evX rfl ?_; clear hst; intro bx w hst)))) <;> (try refine nX ?_) <;> (try replace hst := nH hst)))
  obtain ⟨S1, hS1, hst, hpe⟩ := pt_box (α := Fa) hst hR (Rep.len hR)
  repeat' (first | ((first | (with_reducible (refine Sl.k_field ?_; refine s_ex hst (qt_fieldp evX hpe inX inX rfl) ?_; rintro vf hpf)) | (with_reducible (refine Sl.k_load ?_; refine s_qt hst (qt_ldp_flat (y := f.2.2.2.1) evX hpf inX inX rfl) ?_)) | (with_reducible (refine Sl.k_load ?_; refine s_ex hst (qt_ldp (y := f.2.2.1) evX hpf inX) ?_; rintro v54 ⟨cm2, rfl, hcm2⟩)) | (with_reducible refine Sl.k_bin ?_; (first | refine s_qt hst (qt_eql_b rfl rfl g1) ?_ | refine s_qt hst (qt_eql_b rfl rfl g2) ?_ | refine s_qt hst (qt_eql_b rfl rfl g3) ?_ | refine s_qt hst (qt_eql_str rfl rfl inX gt) ?_ | refine s_qt hst (qt_eqlK_b rfl rfl (r_dgd hd) (r_dgd rfl) inX inX inferInstance gy) ?_)) | (with_reducible refine Sl.k_guard ?_; ((refine Sl.guard_yes rfl ?_)))) <;> (try refine nX ?_)) | (((with_reducible refine Sl.k_call ?_; (first | (refine s_call (cz _ hst cm2 hcm2) inX rfl ?_; clear hst; rintro v w ⟨rfl, hst⟩) | (refine s_call (cv _ hst cm2 hcm2) inX rfl ?_; clear hst; rintro v w ⟨rfl, hst⟩)))) <;> (try refine nX ?_) <;> (try replace hst := nH hst)) | ((fail_if_success (go_big_may)); (go_step)) | (((with_reducible refine Sl.k_load ?_; (first | (refine s_ex hst (qt_ldp_int evX asX inX) ?_; rintro v ⟨rfl, hI⟩) | (refine s_ex hst (qt_ldp_str evX asX inX) ?_; rintro v ⟨rfl, hs⟩)))) <;> (try refine nX ?_)) | (with_reducible refine Sl.gate rfl ?_; (go_step)))
  refine bodyPost_ret (results_tmp rfl _ _ _) rfl ?_
  exact ⟨_, rfl, by rw [hv]; first | rfl | (cases y <;> cases bt <;> rfl), St.weaken hS1 hst⟩

set_option maxRecDepth 8000 in
set_option maxHeartbeats 2000000 in
theorem rv_4a {f : Fa} {v y bt : Bool} : RVal f false v y false false false true bt := by
  intro S M w hst cs hR ok H
  unfold Rets
  have hv := H.val ok
  obtain ⟨ez, ev, gy, g1, g2, g3, g4, gt⟩ := H
  have hd := ok.d
  have cz := fun {S : Snap} {M : List Chunk} (w : World) (hst : St S M w) (cs : List Value) (hR : Rep.R S cs f.2.2.1) => (rzero_c w hst cs f.2.2.1 hR (by have := ok.s; omega)).eq ez
  have cv := fun {S : Snap} {M : List Chunk} (w : World) (hst : St S M w) (cs : List Value) (hR : Rep.R S cs f.2.2.1) => (rvalid_c w hst cs f.2.2.1 hR (by have := ok.s; omega)).eq ev
  have g5 : decide ((f.2.1.b.length : Int) ≤ 1500) = true := decide_eq_true (by have := ok.t; omega)
  go_enter Tryd.func16, Tryd.ntmps16
  repeat' ((fail_if_success (with_reducible show Code.wp _ (Code.region 1 _ _) _ _ _)); first | ((fail_if_success (go_big_may)); (go_step)) | (((((refine s_box hst evX rfl ?_; clear hst; intro bx w hst)))) <;> (try refine nX ?_) <;> (try replace hst := nH hst)))
  obtain ⟨S1, hS1, hst, hpe⟩ := pt_box (α := Fa) hst hR (Rep.len hR)
  repeat' (first | go_skip | ((first | (with_reducible (refine Sl.k_field ?_; refine s_ex hst (qt_fieldp evX hpe inX inX rfl) ?_; rintro vf hpf)) | (with_reducible (refine Sl.k_load ?_; refine s_qt hst (qt_ldp_flat (y := f.2.2.2.1) evX hpf inX inX rfl) ?_)) | (with_reducible (refine Sl.k_load ?_; refine s_ex hst (qt_ldp (y := f.2.2.1) evX hpf inX) ?_; rintro v54 ⟨cm2, rfl, hcm2⟩)) | (with_reducible refine Sl.k_bin ?_; (first | refine s_qt hst (qt_eql_b rfl rfl g1) ?_ | refine s_qt hst (qt_eql_b rfl rfl g2) ?_ | refine s_qt hst (qt_eql_b rfl rfl g3) ?_ | refine s_qt hst (qt_eql_b rfl rfl g4) ?_ | refine s_qt hst (qt_eqlK_b rfl rfl (r_dgd hd) (r_dgd rfl) inX inX inferInstance gy) ?_))) <;> (try refine nX ?_)) | (((with_reducible refine Sl.k_call ?_; (first | (refine s_call (cz _ hst cm2 hcm2) inX rfl ?_; clear hst; rintro v w ⟨rfl, hst⟩) | (refine s_call (cv _ hst cm2 hcm2) inX rfl ?_; clear hst; rintro v w ⟨rfl, hst⟩)))) <;> (try refine nX ?_) <;> (try replace hst := nH hst)) | ((fail_if_success (go_big_may)); (go_step)) | (((with_reducible refine Sl.k_load ?_; ((refine s_ex hst (qt_ldp_int evX asX inX) ?_; rintro v ⟨rfl, hI⟩)))) <;> (try refine nX ?_)) | (with_reducible refine Sl.gate rfl ?_; (go_step)))
  refine bodyPost_ret (results_tmp rfl _ _ _) rfl ?_
  exact ⟨_, rfl, by rw [hv]; first | rfl | (cases y <;> cases bt <;> rfl), St.weaken hS1 hst⟩

set_option maxRecDepth 8000 in
set_option maxHeartbeats 2000000 in
theorem rv_4b {f : Fa} {v y : Bool} : RVal f true v y false false false true false := by
  intro S M w hst cs hR ok H
  unfold Rets
  have hv := H.val ok
  obtain ⟨ez, ev, gy, g1, g2, g3, g4, gt⟩ := H
  have hd := ok.d
  have cz := fun {S : Snap} {M : List Chunk} (w : World) (hst : St S M w) (cs : List Value) (hR : Rep.R S cs f.2.2.1) => (rzero_c w hst cs f.2.2.1 hR (by have := ok.s; omega)).eq ez
  have cv := fun {S : Snap} {M : List Chunk} (w : World) (hst : St S M w) (cs : List Value) (hR : Rep.R S cs f.2.2.1) => (rvalid_c w hst cs f.2.2.1 hR (by have := ok.s; omega)).eq ev
  have g5 : decide ((f.2.1.b.length : Int) ≤ 1500) = true := decide_eq_true (by have := ok.t; omega)
  go_enter Tryd.func16, Tryd.ntmps16
  repeat' ((fail_if_success (with_reducible show Code.wp _ (Code.region 1 _ _) _ _ _)); first | ((fail_if_success (go_big_may)); (go_step)) | (((((refine s_box hst evX rfl ?_; clear hst; intro bx w hst)))) <;> (try refine nX ?_) <;> (try replace hst := nH hst)))
  obtain ⟨S1, hS1, hst, hpe⟩ := pt_box (α := Fa) hst hR (Rep.len hR)
  repeat' (first | ((first | (with_reducible (refine Sl.k_field ?_; refine s_ex hst (qt_fieldp evX hpe inX inX rfl) ?_; rintro vf hpf)) | (with_reducible (refine Sl.k_load ?_; refine s_qt hst (qt_ldp_flat (y := f.2.2.2.1) evX hpf inX inX rfl) ?_)) | (with_reducible (refine Sl.k_load ?_; refine s_ex hst (qt_ldp (y := f.2.2.1) evX hpf inX) ?_; rintro v54 ⟨cm2, rfl, hcm2⟩)) | (with_reducible refine Sl.k_bin ?_; (first | refine s_qt hst (qt_eql_b rfl rfl g1) ?_ | refine s_qt hst (qt_eql_b rfl rfl g2) ?_ | refine s_qt hst (qt_eql_b rfl rfl g3) ?_ | refine s_qt hst (qt_eql_b rfl rfl g4) ?_ | refine s_qt hst (qt_eql_str rfl rfl inX gt) ?_ | refine s_qt hst (qt_eqlK_b rfl rfl (r_dgd hd) (r_dgd rfl) inX inX inferInstance gy) ?_)) | (with_reducible refine Sl.k_guard ?_; ((refine Sl.guard_yes rfl ?_)))) <;> (try refine nX ?_)) | (((with_reducible refine Sl.k_call ?_; (first | (refine s_call (cz _ hst cm2 hcm2) inX rfl ?_; clear hst; rintro v w ⟨rfl, hst⟩) | (refine s_call (cv _ hst cm2 hcm2) inX rfl ?_; clear hst; rintro v w ⟨rfl, hst⟩)))) <;> (try refine nX ?_) <;> (try replace hst := nH hst)) | ((fail_if_success (go_big_may)); (go_step)) | (((with_reducible refine Sl.k_load ?_; (first | (refine s_ex hst (qt_ldp_int evX asX inX) ?_; rintro v ⟨rfl, hI⟩) | (refine s_ex hst (qt_ldp_str evX asX inX) ?_; rintro v ⟨rfl, hs⟩)))) <;> (try refine nX ?_)) | (with_reducible refine Sl.gate rfl ?_; (go_step)))
  refine bodyPost_ret (results_tmp rfl _ _ _) rfl ?_
  exact ⟨_, rfl, by rw [hv]; first | rfl | (cases y <;> cases bt <;> rfl), St.weaken hS1 hst⟩

set_option maxRecDepth 8000 in
set_option maxHeartbeats 2000000 in
theorem rv_4c {f : Fa} {v y : Bool} : RVal f true v y false false false true true := by
  intro S M w hst cs hR ok H
  unfold Rets
  have hv := H.val ok
  obtain ⟨ez, ev, gy, g1, g2, g3, g4, gt⟩ := H
  have hd := ok.d
  have cz := fun {S : Snap} {M : List Chunk} (w : World) (hst : St S M w) (cs : List Value) (hR : Rep.R S cs f.2.2.1) => (rzero_c w hst cs f.2.2.1 hR (by have := ok.s; omega)).eq ez
  have cv := fun {S : Snap} {M : List Chunk} (w : World) (hst : St S M w) (cs : List Value) (hR : Rep.R S cs f.2.2.1) => (rvalid_c w hst cs f.2.2.1 hR (by have := ok.s; omega)).eq ev
  have g5 : decide ((f.2.1.b.length : Int) ≤ 1500) = true := decide_eq_true (by have := ok.t; omega)
  go_enter Tryd.func16, Tryd.ntmps16
  repeat' ((fail_if_success (with_reducible show Code.wp _ (Code.region 1 _ _) _ _ _)); first | ((fail_if_success (go_big_may)); (go_step)) | (((((refine s_box hst evX rfl ?_; clear hst; intro bx w hst)))) <;> (try refine nX ?_) <;> (try replace hst := nH hst)))
  obtain ⟨S1, hS1, hst, hpe⟩ := pt_box (α := Fa) hst hR (Rep.len hR)
  repeat' (first | ((first | (with_reducible (refine Sl.k_field ?_; refine s_ex hst (qt_fieldp evX hpe inX inX rfl) ?_; rintro vf hpf)) | (with_reducible (refine Sl.k_load ?_; refine s_qt hst (qt_ldp_flat (y := f.2.2.2.1) evX hpf inX inX rfl) ?_)) | (with_reducible (refine Sl.k_load ?_; refine s_ex hst (qt_ldp (y := f.2.2.1) evX hpf inX) ?_; rintro v54 ⟨cm2, rfl, hcm2⟩)) | (with_reducible refine Sl.k_bin ?_; (first | refine s_qt hst (qt_eql_b rfl rfl g1) ?_ | refine s_qt hst (qt_eql_b rfl rfl g2) ?_ | refine s_qt hst (qt_eql_b rfl rfl g3) ?_ | refine s_qt hst (qt_eql_b rfl rfl g4) ?_ | refine s_qt hst (qt_eql_str rfl rfl inX gt) ?_ | refine s_qt hst (qt_eqlK_b rfl rfl (r_dgd hd) (r_dgd rfl) inX inX inferInstance gy) ?_)) | (with_reducible refine Sl.k_guard ?_; ((refine Sl.guard_yes rfl ?_)))) <;> (try refine nX ?_)) | (((with_reducible refine Sl.k_call ?_; (first | (refine s_call (cz _ hst cm2 hcm2) inX rfl ?_; clear hst; rintro v w ⟨rfl, hst⟩) | (refine s_call (cv _ hst cm2 hcm2) inX rfl ?_; clear hst; rintro v w ⟨rfl, hst⟩)))) <;> (try refine nX ?_) <;> (try replace hst := nH hst)) | ((fail_if_success (go_big_may)); (go_step)) | (((with_reducible refine Sl.k_load ?_; (first | (refine s_ex hst (qt_ldp_int evX asX inX) ?_; rintro v ⟨rfl, hI⟩) | (refine s_ex hst (qt_ldp_str evX asX inX) ?_; rintro v ⟨rfl, hs⟩)))) <;> (try refine nX ?_)) | (with_reducible refine Sl.gate rfl ?_; (go_step)))
  refine bodyPost_ret (results_tmp rfl _ _ _) rfl ?_
  exact ⟨_, rfl, by rw [hv]; first | rfl | (cases y <;> cases bt <;> rfl), St.weaken hS1 hst⟩

set_option maxRecDepth 8000 in
set_option maxHeartbeats 2000000 in
theorem rv_5 {f : Fa} {z v y bt : Bool} : RVal f z v y false false false false bt := by
  intro S M w hst cs hR ok H
  unfold Rets
  have hv := H.val ok
  obtain ⟨ez, ev, gy, g1, g2, g3, g4, gt⟩ := H
  have hd := ok.d
  have cz := fun {S : Snap} {M : List Chunk} (w : World) (hst : St S M w) (cs : List Value) (hR : Rep.R S cs f.2.2.1) => (rzero_c w hst cs f.2.2.1 hR (by have := ok.s; omega)).eq ez
  have cv := fun {S : Snap} {M : List Chunk} (w : World) (hst : St S M w) (cs : List Value) (hR : Rep.R S cs f.2.2.1) => (rvalid_c w hst cs f.2.2.1 hR (by have := ok.s; omega)).eq ev
  have g5 : decide ((f.2.1.b.length : Int) ≤ 1500) = true := decide_eq_true (by have := ok.t; omega)
  go_enter Tryd.func16, Tryd.ntmps16
  repeat' ((fail_if_success (with_reducible show Code.wp _ (Code.region 1 _ _) _ _ _)); first | ((fail_if_success (go_big_may)); (go_step)) | (((((refine s_box hst evX rfl ?_; clear hst; intro bx w hst)))) <;> (try refine nX ?_) <;> (try replace hst := nH hst)))
  obtain ⟨S1, hS1, hst, hpe⟩ := pt_box (α := Fa) hst hR (Rep.len hR)
  repeat' (first | ((first | (with_reducible (refine Sl.k_field ?_; refine s_ex hst (qt_fieldp evX hpe inX inX rfl) ?_; rintro vf hpf)) | (with_reducible (refine Sl.k_load ?_; refine s_qt hst (qt_ldp_flat (y := f.2.2.2.1) evX hpf inX inX rfl) ?_)) | (with_reducible (refine Sl.k_load ?_; refine s_ex hst (qt_ldp (y := f.2.2.1) evX hpf inX) ?_; rintro v54 ⟨cm2, rfl, hcm2⟩)) | (with_reducible refine Sl.k_bin ?_; (first | refine s_qt hst (qt_eql_b rfl rfl g1) ?_ | refine s_qt hst (qt_eql_b rfl rfl g2) ?_ | refine s_qt hst (qt_eql_b rfl rfl g3) ?_ | refine s_qt hst (qt_eql_b rfl rfl g4) ?_ | refine s_qt hst (qt_eqlK_b rfl rfl (r_dgd hd) (r_dgd rfl) inX inX inferInstance gy) ?_))) <;> (try refine nX ?_)) | (((with_reducible refine Sl.k_call ?_; (first | (refine s_call (cz _ hst cm2 hcm2) inX rfl ?_; clear hst; rintro v w ⟨rfl, hst⟩) | (refine s_call (cv _ hst cm2 hcm2) inX rfl ?_; clear hst; rintro v w ⟨rfl, hst⟩)))) <;> (try refine nX ?_) <;> (try replace hst := nH hst)) | ((fail_if_success (go_big_may)); (go_step)) | (((with_reducible refine Sl.k_load ?_; ((refine s_ex hst (qt_ldp_int evX asX inX) ?_; rintro v ⟨rfl, hI⟩)))) <;> (try refine nX ?_)) | (with_reducible refine Sl.gate rfl ?_; (go_step)))
  refine bodyPost_ret (results_tmp rfl _ _ _) rfl ?_
  exact ⟨_, rfl, by rw [hv]; first | rfl | (cases y <;> cases bt <;> rfl), St.weaken hS1 hst⟩

theorem rfvalid_c {S M} (w : World) (hst : St S M w) (cs : List Value) (f : Fa) (hR : Rep.R S cs f) (ok : FaOk f) :
    Rets Tryd.prog 16 [.agg cs.toArray] w fun v w' => v = .bool (validF f) ∧ St S M w' := by
  obtain ⟨z, ez⟩ : ∃ b, plainM f.2.2.1 = b := ⟨_, rfl⟩
  obtain ⟨v, ev⟩ : ∃ b, validM f.2.2.1 = b := ⟨_, rfl⟩
  obtain ⟨y, gy⟩ : ∃ b, decide (f.2.2.2.1 = zeroDg) = b := ⟨_, rfl⟩
  obtain ⟨k1, g1⟩ : ∃ b, (f.1 == 1) = b := ⟨_, rfl⟩
  obtain ⟨k2, g2⟩ : ∃ b, (f.1 == 2) = b := ⟨_, rfl⟩
  obtain ⟨k3, g3⟩ : ∃ b, (f.1 == 3) = b := ⟨_, rfl⟩
  obtain ⟨k4, g4⟩ : ∃ b, (f.1 == 4) = b := ⟨_, rfl⟩
  obtain ⟨bt, gt⟩ : ∃ b, decide (f.2.1.b = []) = b := ⟨_, rfl⟩
  have H : RB f z v y k1 k2 k3 k4 bt := ⟨ez, ev, gy, g1, g2, g3, g4, gt⟩
  clear ez ev gy g1 g2 g3 g4 gt
  have K : (k1 = true) ∨ (k1 = false ∧ k2 = true) ∨ (k1 = false ∧ k2 = false ∧ k3 = true) ∨ (k1 = false ∧ k2 = false ∧ k3 = false ∧ k4 = true) ∨ (k1 = false ∧ k2 = false ∧ k3 = false ∧ k4 = false) := by
    cases k1 <;> cases k2 <;> cases k3 <;> cases k4 <;> simp
  rcases K with rfl | ⟨rfl, rfl⟩ | ⟨rfl, rfl, rfl⟩ | ⟨rfl, rfl, rfl, rfl⟩ | ⟨rfl, rfl, rfl, rfl⟩ <;> cases z <;> cases v <;> cases y <;> cases bt
  all_goals first | exact rv_1a w hst cs hR ok H | exact rv_1b w hst cs hR ok H | exact rv_1c w hst cs hR ok H | exact rv_2a w hst cs hR ok H | exact rv_2b w hst cs hR ok H | exact rv_2c w hst cs hR ok H | exact rv_2d w hst cs hR ok H | exact rv_3a w hst cs hR ok H | exact rv_3b w hst cs hR ok H | exact rv_3c w hst cs hR ok H | exact rv_4a w hst cs hR ok H | exact rv_4b w hst cs hR ok H | exact rv_4c w hst cs hR ok H | exact rv_5 w hst cs hR ok H
end Go.Proofs.YtjapdhaimbalkaaDoor

/- Package directory, the reference: a fact inserted into a normal form, walked. -/
--@hgp
--@flat
--@dg
--@ex0
namespace Go.Proofs.YtjapdhaimbalkaaDoor
set_option linter.unusedSimpArgs false
set_option linter.unusedVariables false
open Go.RowKit Go.Sl Go.Srt

theorem qt_lss_str {P : Program} {S : Snap} {M : List Chunk} {l : List Value} {T U : TypeId} {x y : Operand} {a b : List UInt8} {c : Bool} (hx : evF l x = .string ⟨a.toArray⟩) (hy : evF l y = .string ⟨b.toArray⟩) (e : decide (Lib.compareBytes a b < 0) = c) : Qt P l (.binOp .lss T x y U) S M (.bool c) := fun dst ty pos af w _ => by
  have h : Op.bytesLess (⟨a.toArray⟩ : ByteArray).toList (⟨b.toArray⟩ : ByteArray).toList = c := by rw [ByteArray.toList_eq, ByteArray.toList_eq, less_cmp]; exact e
  simp only [execOp, hx, hy, eqGuard_at_string, binOp_string_lss, h]
  rfl
theorem ins_eq {f : Fa} {l : List Fa} {i : Nat} (h : insF f l = l.take i ++ insF f (l.drop i)) (hi : i < l.length) (e : encFa l[i] = encFa f) : insF f l = l := by
  rw [h, List.drop_eq_getElem_cons hi, insF, if_pos e, ← List.drop_eq_getElem_cons hi, List.take_append_drop]
theorem ins_lt {f : Fa} {l : List Fa} {i : Nat} (h : insF f l = l.take i ++ insF f (l.drop i)) (hi : i < l.length) (e : encFa l[i] ≠ encFa f) (lt : Lib.compareBytes (encFa f) (encFa l[i]) < 0) : insF f l = l.take i ++ [f] ++ l.drop i := by
  rw [h, List.drop_eq_getElem_cons hi, insF, if_neg e, if_pos lt, List.append_assoc]; rfl
theorem ins_go {f : Fa} {l : List Fa} {i : Nat} (h : insF f l = l.take i ++ insF f (l.drop i)) (hi : i < l.length) (e : encFa l[i] ≠ encFa f) (lt : ¬ Lib.compareBytes (encFa f) (encFa l[i]) < 0) : insF f l = l.take (i + 1) ++ insF f (l.drop (i + 1)) := by
  rw [h, List.drop_eq_getElem_cons hi, insF, if_neg e, if_neg lt, List.take_succ_eq_append_getElem hi, List.append_assoc]; rfl
theorem ins_end {f : Fa} {l : List Fa} {i : Nat} (h : insF f l = l.take i ++ insF f (l.drop i)) (hi : ¬ i < l.length) : insF f l = l ++ [f] := by
  rw [h, List.drop_of_length_le (by omega), List.take_of_length_le (by omega)]; rfl

set_option maxRecDepth 8000 in
set_option maxHeartbeats 4000000 in
theorem rins_c {S M} (w : World) (hst : St S M w) (vl : Value) (l : List Fa) (hl : RSl S vl l) (ol : ∀ f ∈ l, FaOk f) (hn : l.length ≤ 90000) (cs : List Value) (f : Fa) (hR : Rep.R S cs f) (ok : FaOk f) :
    Rets Tryd.prog 39 [vl, .agg cs.toArray] w fun v w' => ∃ S', S.Le S' ∧ RSl S' v (insF f l) ∧ St S' M w' := by
  unfold Rets
  have kl := hl.oneCell
  obtain ⟨R, hR0⟩ : ∃ R, insF f l = R := ⟨_, rfl⟩
  rw [hR0]
  have gE := fun i h1 h2 h3 => Lib.hid (hR0.symm.trans (ins_eq (f := f) (l := l) (i := i) h1 h2 h3))
  have gL := fun i h1 h2 h3 h4 => Lib.hid (hR0.symm.trans (ins_lt (f := f) (l := l) (i := i) h1 h2 h3 h4))
  have gN := fun i h1 h2 => Lib.hid (hR0.symm.trans (ins_end (f := f) (l := l) (i := i) h1 h2))
  clear hR0
  obtain ⟨cf, hcf⟩ : ∃ b, encFa f = b := ⟨_, rfl⟩
  have cE := fun {S : Snap} {M : List Chunk} (w : World) (hst : St S M w) (cs : List Value) (hR : Rep.R S cs f) => (rfencode_c w hst cs f hR ok)
  rw [hcf] at cE
  go_enter Tryd.func39, Tryd.ntmps39
  repeat' ((fail_if_success (with_reducible show Code.wp _ (Code.region 1 _ _) _ _ _)); first | ((fail_if_success (go_big_may)); (go_step)) | (((((refine s_box hst evX rfl ?_; clear hst; intro bx w hst)))) <;> (try refine nX ?_) <;> (try replace hst := nH hst)))
  obtain ⟨S1, hS1, hst0, hpf⟩ := pt_box (α := Fa) hst hR (Rep.len hR)
  clear hst
  have hst := hst0
  clear hst0
  replace hl := hl.mono hS1
  repeat' (first | (((with_reducible (refine Sl.k_load ?_; refine s_ex hst (qt_ldp (y := f) evX hpf inX) ?_; rintro v5 ⟨c5, rfl, hc5⟩))) <;> (try refine nX ?_)) | (((with_reducible refine Sl.k_call ?_; ((refine s_call (cE _ hst c5 hc5) inX rfl ?_; clear hst; rintro v w ⟨rfl, hst⟩)))) <;> (try refine nX ?_) <;> (try replace hst := nH hst)) | ((fail_if_success (go_big_may)); (go_step)))
  go_loopw [6] (fun v wr => ∃ i : Nat, i ≤ l.length ∧ v = .int .i64 i ∧ Hid (insF f l = l.take i ++ insF f (l.drop i)) ∧ St S1 M wr) (fun v _ => l.length - (intOf v).toNat)
  case atStart => exact ⟨0, Nat.zero_le _, rfl, Lib.hid rfl, hst⟩
  case round =>
    clear hst
    obtain ⟨i, hi, rfl, hI, hst⟩ := hrel
    by_cases hlt : i < l.length
    · have okk := ol _ (List.getElem_mem hlt)
      obtain ⟨co, hco⟩ : ∃ b, encFa l[i] = b := ⟨_, rfl⟩
      have cO := fun {S : Snap} {M : List Chunk} (w : World) (hst : St S M w) (cs : List Value) (hR : Rep.R S cs l[i]) => (rfencode_c w hst cs l[i] hR okk)
      rw [hco] at cO
      obtain ⟨z1, hz1⟩ : ∃ z, decide (co = cf) = z := ⟨_, rfl⟩
      obtain ⟨z2, hz2⟩ : ∃ z, decide (Lib.compareBytes cf co < 0) = z := ⟨_, rfl⟩
      have kE := fun h => gE i hI.out hlt (by rw [hco, hcf]; exact h)
      have kL := fun h1 h2 => gL i hI.out hlt (by rw [hco, hcf]; exact h1) (by rw [hco, hcf]; exact h2)
      have kG := fun h1 h2 => Lib.hid (ins_go hI.out hlt (by rw [hco, hcf]; exact h1) (by rw [hco, hcf]; exact h2))
      have Hco := Lib.hid hco
      clear gE gL hco
      cases z1 with
      | true =>
        have hE := kE (of_decide_eq_true hz1)
        clear kE kL kG gN
        repeat' (first | (((with_reducible refine Sl.k_bin ?_; (refine s_qt hst (qt_eql_str rfl rfl inX hz1) ?_))) <;> (try refine nX ?_)) | (((with_reducible refine Sl.k_call ?_; ((refine s_call (cO _ hst _ hcl) inX rfl ?_; clear hst; rintro v w ⟨rfl, hst⟩)))) <;> (try refine nX ?_) <;> (try replace hst := nH hst)) | ((fail_if_success (go_big_may)); (go_step)) | ((first | (with_reducible refine Sl.k_load ?_; ((refine s_ex hst (qt_ldp evX asX inX) ?_; rintro v ⟨cl, rfl, hcl⟩))) | (with_reducible refine Sl.k_index ?_; (((refine s_ex hst (qt_index evX asX rfl inX inX omX omX) ?_); rintro v hp; (try simp only [Int.toNat_natCast, Int.toNat_natCast_add_one, Int.reduceToNat] at hp)))) | (with_reducible refine Sl.k_call ?_; (refine s_qt hst (by exact qt_len evX asX inX) ?_))) <;> (try refine nX ?_)) | (with_reducible refine Sl.gate rfl ?_; (go_step)))
        go_ret
        exact ⟨_, rfl, S1, hS1, by rw [hE.out]; exact hl, hst⟩
      | false =>
        have hne := of_decide_eq_false hz1
        cases z2 with
        | true =>
          have hE := kL hne (of_decide_eq_true hz2)
          clear kE kL kG gN hne
          have e1 : (l.drop 0).take (i - 0) = l.take i := by simp
          have e2 : (l.drop i).take (l.length - i) = l.drop i := List.take_of_length_le (by rw [List.length_drop]; exact Nat.le_refl _)
          have l1 : (l.take i).length ≤ 90000 := by rw [List.length_take]; omega
          have l2 : (l.drop i).length ≤ 90000 := by rw [List.length_drop]; omega
          repeat' (first | (((with_reducible refine Sl.k_bin ?_; (first | refine s_qt hst (qt_eql_str rfl rfl inX hz1) ?_ | refine s_qt hst (qt_lss_str rfl rfl hz2) ?_))) <;> (try refine nX ?_)) | (((with_reducible refine Sl.k_call ?_; ((refine s_call (cO _ hst _ hcl) inX rfl ?_; clear hst; rintro v w ⟨rfl, hst⟩)))) <;> (try refine nX ?_) <;> (try replace hst := nH hst)) | ((fail_if_success (go_big_may)); (go_step)) | ((first | (with_reducible refine Sl.k_load ?_; ((refine s_ex hst (qt_ldp evX asX inX) ?_; rintro v ⟨cl, rfl, hcl⟩))) | (with_reducible refine Sl.k_index ?_; (((refine s_ex hst (qt_index evX asX rfl inX inX omX omX) ?_); rintro v hp; (try simp only [Int.toNat_natCast, Int.toNat_natCast_add_one, Int.reduceToNat] at hp)))) | (with_reducible refine Sl.k_call ?_; (refine s_qt hst (by exact qt_len evX asX inX) ?_))) <;> (try refine nX ?_)) | (with_reducible refine Sl.gate rfl ?_; (go_step)))
          refine ps_begin hst (by kernel_rfl) ?_; clear hst; intro w hst; have hSS := le_of hst; (try refine nX ?_)
          (refine ps_take 1 (by repeat (first | exact panicQ_body | refine panicQ_then ?_ | refine panicQ_block ?_)) rfl (by kernel_rfl) (by kernel_rfl) (by kernel_rfl) rfl (St.cls hSS hst) (by exact qt_move evX) ?_) <;> (try refine nX ?_)
          (refine ps_take 2 (by repeat (first | exact panicQ_body | refine panicQ_then ?_ | refine panicQ_block ?_)) rfl (by kernel_rfl) (by kernel_rfl) (by kernel_rfl) rfl (St.cls hSS hst) (by exact qt_move evX) ?_) <;> (try refine nX ?_)
          ((refine ps_takex 3 (by repeat (first | exact panicQ_body | refine panicQ_then ?_ | refine panicQ_block ?_)) rfl (by kernel_rfl) (by kernel_rfl) (by kernel_rfl) rfl (St.cls hSS hst) (qt_slice (a := 0) (b := i) evX hl inX inX (.inl ⟨rfl, rfl⟩) (.inr ⟨.i64, by simp [evF, nth]⟩) (.inl rfl) (by omega) (by omega) ) ?_; rintro  v3 hv3; rw [e1] at hv3)) <;> (try refine nX ?_)
          ((refine ps_takex 5 (by repeat (first | exact panicQ_body | refine panicQ_then ?_ | refine panicQ_block ?_)) rfl (by kernel_rfl) (by kernel_rfl) (by kernel_rfl) rfl (St.cls hSS hst) (qt_ldp (y := f) evX hpf inX ) ?_; rintro  v5 ⟨c5, rfl, hc5⟩)) <;> (try refine nX ?_)
          (refine ps_take 8 (by repeat (first | exact panicQ_body | refine panicQ_then ?_ | refine panicQ_block ?_)) rfl (by kernel_rfl) (by kernel_rfl) (by kernel_rfl) rfl (St.cls hSS hst) (by exact qt_move evX) ?_) <;> (try refine nX ?_)
          (refine ps_take 9 (by repeat (first | exact panicQ_body | refine panicQ_then ?_ | refine panicQ_block ?_)) rfl (by kernel_rfl) (by kernel_rfl) (by kernel_rfl) rfl (St.cls hSS hst) (by exact qt_move evX) ?_) <;> (try refine nX ?_)
          ((refine ps_takex 10 (by repeat (first | exact panicQ_body | refine panicQ_then ?_ | refine panicQ_block ?_)) rfl (by kernel_rfl) (by kernel_rfl) (by kernel_rfl) rfl (St.cls hSS hst) (qt_slice (a := i) (b := l.length) evX hl inX inX (.inr ⟨.i64, by simp [evF, nth]⟩) (.inl ⟨rfl, rfl⟩) (.inl rfl) (by omega) (by omega) ) ?_; rintro  v10 hv10; rw [e2] at hv10)) <;> (try refine nX ?_)
          refine ps_two 0 6 rfl rfl (by kernel_rfl) ?_ ?_
          intro K hK; refine s_lit (vs := []) hst inX inX rfl rfl (by simp [Value.cells]) rfl (by omega) (by omega) ?_; clear hst; intro x0 w hst; (try refine nX ?_); (try replace hst := nH hst); refine ps_next hK (St.cls hSS hst) ?_; clear hK K; (try refine nX ?_)
          refine ps_two 4 6 rfl rfl (by kernel_rfl) ?_ ?_
          intro K hK; refine s_append_data hst evX evX SlIn.h hv3 inX inX inX (by omega) (by omega) (by decide) ?_; clear hst; intro x4 w d4 hd4 hst; have hone4 := sl_onek (k := 0) hst rfl; (try refine nX ?_); (try replace hst := nH hst); refine ps_next hK (St.cls hSS hst) ?_; clear hK K; (try refine nX ?_)
          refine ps_one 6 rfl (by kernel_rfl) ?_; intro K hK; refine s_lit (vs := [.agg c5.toArray]) (cs := c5) hst inX inX rfl rfl (by simp [Value.cells]; exact Rep.len hc5) (by simp [Value.cells]) (by omega) (by omega) ?_; clear hst; intro x6 w hst; (try refine nX ?_); (try replace hst := nH hst); refine ps_next hK (St.cls hSS hst) ?_; clear hK K; (try refine nX ?_)
          refine ps_one 7 rfl (by kernel_rfl) ?_; intro K hK; ((refine s_append (j := 0) hst evX evX SlIn.h rfl inX inX inX (Rep.one hc5) (by omega) (by omega) (by decide) ?_; clear hst; intro x7 w hst; (try refine nX ?_); (try simp only [List.set_cons_succ, List.set_cons_zero, List.drop_succ_cons, List.drop_zero, List.take_succ_cons, List.take_zero, List.nil_append, List.cons_append, List.append_nil, Value.cells, List.eraseIdx_cons_zero, List.eraseIdx_cons_succ, Nat.zero_add, Nat.add_zero, List.flatten_cons, List.flatten_nil, List.map_cons, List.map_nil] at hst); replace hst := hst.drop)); have hone7 := sl_one hst; (try refine nX ?_); (try replace hst := nH hst); refine ps_next hK (St.cls hSS hst) ?_; clear hK K; (try refine nX ?_)
          refine ps_one 11 rfl (by kernel_rfl) ?_; intro K hK; refine s_append_data hst evX evX SlIn.h hv10 inX inX inX (by omega) (by omega) (by decide) ?_; clear hst; intro x11 w d11 hd11 hst; have hone11 := sl_onek (k := 0) hst rfl; (try refine nX ?_); (try replace hst := nH hst); refine ps_next hK (St.cls hSS hst) ?_; clear hK K; (try refine nX ?_)
          (refine ps_take 12 (by repeat (first | exact panicQ_body | refine panicQ_then ?_ | refine panicQ_block ?_)) rfl (by kernel_rfl) (by kernel_rfl) (by kernel_rfl) rfl (St.cls hSS hst) (by exact qt_assign evX) ?_) <;> (try refine nX ?_)
          refine ps_done (by kernel_rfl) ?_; rotate_left
          intro K hK; refine s_lit (vs := [.agg c5.toArray]) (cs := c5) hst inX inX rfl rfl (by simp [Value.cells]; exact Rep.len hc5) (by simp [Value.cells]) (by omega) (by omega) ?_; clear hst; intro x6 w hst; (try refine nX ?_); (try replace hst := nH hst); refine ps_next hK (St.cls hSS hst) ?_; clear hK K; (try refine nX ?_)
          refine ps_one 4 rfl (by kernel_rfl) ?_; intro K hK; refine s_append_data hst evX evX SlIn.h hv3 inX inX inX (by omega) (by omega) (by decide) ?_; clear hst; intro x4 w d4 hd4 hst; have hone4 := sl_onek (k := 0) hst rfl; (try refine nX ?_); (try replace hst := nH hst); refine ps_next hK (St.cls hSS hst) ?_; clear hK K; (try refine nX ?_)
          refine ps_one 7 rfl (by kernel_rfl) ?_; intro K hK; ((refine s_append (j := 0) hst evX evX SlIn.h rfl inX inX inX (Rep.one hc5) (by omega) (by omega) (by decide) ?_; clear hst; intro x7 w hst; (try refine nX ?_); (try simp only [List.set_cons_succ, List.set_cons_zero, List.drop_succ_cons, List.drop_zero, List.take_succ_cons, List.take_zero, List.nil_append, List.cons_append, List.append_nil, Value.cells, List.eraseIdx_cons_zero, List.eraseIdx_cons_succ, Nat.zero_add, Nat.add_zero, List.flatten_cons, List.flatten_nil, List.map_cons, List.map_nil] at hst); replace hst := hst.drop)); have hone7 := sl_one hst; (try refine nX ?_); (try replace hst := nH hst); refine ps_next hK (St.cls hSS hst) ?_; clear hK K; (try refine nX ?_)
          refine ps_one 11 rfl (by kernel_rfl) ?_; intro K hK; refine s_append_data hst evX evX SlIn.h hv10 inX inX inX (by omega) (by omega) (by decide) ?_; clear hst; intro x11 w d11 hd11 hst; have hone11 := sl_onek (k := 0) hst rfl; (try refine nX ?_); (try replace hst := nH hst); refine ps_next hK (St.cls hSS hst) ?_; clear hK K; (try refine nX ?_)
          (refine ps_take 12 (by repeat (first | exact panicQ_body | refine panicQ_then ?_ | refine panicQ_block ?_)) rfl (by kernel_rfl) (by kernel_rfl) (by kernel_rfl) rfl (St.cls hSS hst) (by exact qt_assign evX) ?_) <;> (try refine nX ?_)
          refine ps_done (by kernel_rfl) ?_; rotate_left
          intro K hK; refine s_lit (vs := [.agg c5.toArray]) (cs := c5) hst inX inX rfl rfl (by simp [Value.cells]; exact Rep.len hc5) (by simp [Value.cells]) (by omega) (by omega) ?_; clear hst; intro x6 w hst; (try refine nX ?_); (try replace hst := nH hst); refine ps_next hK (St.cls hSS hst) ?_; clear hK K; (try refine nX ?_)
          refine ps_one 0 rfl (by kernel_rfl) ?_; intro K hK; refine s_lit (vs := []) hst inX inX rfl rfl (by simp [Value.cells]) rfl (by omega) (by omega) ?_; clear hst; intro x0 w hst; (try refine nX ?_); (try replace hst := nH hst); refine ps_next hK (St.cls hSS hst) ?_; clear hK K; (try refine nX ?_)
          refine ps_one 4 rfl (by kernel_rfl) ?_; intro K hK; refine s_append_data hst evX evX SlIn.h hv3 inX inX inX (by omega) (by omega) (by decide) ?_; clear hst; intro x4 w d4 hd4 hst; have hone4 := sl_onek (k := 0) hst rfl; (try refine nX ?_); (try replace hst := nH hst); refine ps_next hK (St.cls hSS hst) ?_; clear hK K; (try refine nX ?_)
          refine ps_one 7 rfl (by kernel_rfl) ?_; intro K hK; ((refine s_append (j := 1) hst evX evX SlIn.h rfl inX inX inX (Rep.one hc5) (by omega) (by omega) (by decide) ?_; clear hst; intro x7 w hst; (try refine nX ?_); (try simp only [List.set_cons_succ, List.set_cons_zero, List.drop_succ_cons, List.drop_zero, List.take_succ_cons, List.take_zero, List.nil_append, List.cons_append, List.append_nil, Value.cells, List.eraseIdx_cons_zero, List.eraseIdx_cons_succ, Nat.zero_add, Nat.add_zero, List.flatten_cons, List.flatten_nil, List.map_cons, List.map_nil] at hst); replace hst := (hst.perm (List.Perm.swap _ _ _)).drop)); have hone7 := sl_one hst; (try refine nX ?_); (try replace hst := nH hst); refine ps_next hK (St.cls hSS hst) ?_; clear hK K; (try refine nX ?_)
          refine ps_one 11 rfl (by kernel_rfl) ?_; intro K hK; refine s_append_data hst evX evX SlIn.h hv10 inX inX inX (by omega) (by omega) (by decide) ?_; clear hst; intro x11 w d11 hd11 hst; have hone11 := sl_onek (k := 0) hst rfl; (try refine nX ?_); (try replace hst := nH hst); refine ps_next hK (St.cls hSS hst) ?_; clear hK K; (try refine nX ?_)
          (refine ps_take 12 (by repeat (first | exact panicQ_body | refine panicQ_then ?_ | refine panicQ_block ?_)) rfl (by kernel_rfl) (by kernel_rfl) (by kernel_rfl) rfl (St.cls hSS hst) (by exact qt_assign evX) ?_) <;> (try refine nX ?_)
          refine ps_done (by kernel_rfl) ?_; rotate_left
          clear e1 e2
          all_goals
            obtain ⟨S3, hS3, hst, hxs⟩ := St.freeze (α := Fa) (xs := l.take i ++ [f] ++ l.drop i) hst ((hd4.append (RL.one_mk hc5)).append hd11) (by rw [List.length_append, List.length_append]; rfl)
            repeat' (((fail_if_success (go_big_may)); (go_step)))
            go_ret
            exact ⟨_, rfl, S3, hS1.trans hS3, by rw [hE.out]; exact hxs, hst⟩
        | false =>
          have hG := kG hne (of_decide_eq_false hz2)
          clear kE kL kG gN hne
          repeat' (first | (((with_reducible refine Sl.k_bin ?_; (first | refine s_qt hst (qt_eql_str rfl rfl inX hz1) ?_ | refine s_qt hst (qt_lss_str rfl rfl hz2) ?_))) <;> (try refine nX ?_)) | (((with_reducible refine Sl.k_call ?_; ((refine s_call (cO _ hst _ hcl) inX rfl ?_; clear hst; rintro v w ⟨rfl, hst⟩)))) <;> (try refine nX ?_) <;> (try replace hst := nH hst)) | ((fail_if_success (go_big_may)); (go_step)) | ((first | (with_reducible refine Sl.k_load ?_; ((refine s_ex hst (qt_ldp evX asX inX) ?_; rintro v ⟨cl, rfl, hcl⟩))) | (with_reducible refine Sl.k_index ?_; (((refine s_ex hst (qt_index evX asX rfl inX inX omX omX) ?_); rintro v hp; (try simp only [Int.toNat_natCast, Int.toNat_natCast_add_one, Int.reduceToNat] at hp)))) | (with_reducible refine Sl.k_call ?_; (refine s_qt hst (by exact qt_len evX asX inX) ?_))) <;> (try refine nX ?_)) | (with_reducible refine Sl.gate rfl ?_; (go_step)))
          go_roundw
          case rel => exact ⟨i + 1, by omega, by go_num, hG, hst⟩
          case measure => simp [intOf]; omega
    · have hE := gN i hI.out hlt
      clear gE gL gN
      repeat' (first | ((fail_if_success (go_big_may)); (go_step)) | (((with_reducible refine Sl.k_call ?_; (refine s_qt hst (by exact qt_len evX asX inX) ?_))) <;> (try refine nX ?_)) | (with_reducible refine Sl.gate rfl ?_; (go_step)))
      refine ps_begin hst (by kernel_rfl) ?_; clear hst; intro w hst; have hSS := le_of hst; (try refine nX ?_)
      (refine ps_take 1 (by repeat (first | exact panicQ_body | refine panicQ_then ?_)) rfl (by kernel_rfl) (by kernel_rfl) (by kernel_rfl) rfl (St.cls hSS hst) (by exact qt_move evX) ?_) <;> (try refine nX ?_)
      ((refine ps_takex 3 (by repeat (first | exact panicQ_body | refine panicQ_then ?_)) rfl (by kernel_rfl) (by kernel_rfl) (by kernel_rfl) rfl (St.cls hSS hst) (qt_ldp (y := f) evX hpf inX ) ?_; rintro  v3 ⟨c3, rfl, hc3⟩)) <;> (try refine nX ?_)
      refine ps_two 0 4 rfl rfl (by kernel_rfl) ?_ ?_
      intro K hK; refine s_lit (vs := []) hst inX inX rfl rfl (by simp [Value.cells]) rfl (by omega) (by omega) ?_; clear hst; intro x0 w hst; (try refine nX ?_); (try replace hst := nH hst); refine ps_next hK (St.cls hSS hst) ?_; clear hK K; (try refine nX ?_)
      refine ps_two 2 4 rfl rfl (by kernel_rfl) ?_ ?_
      intro K hK; refine s_append_data hst evX evX SlIn.h hl inX inX inX (by omega) (by omega) (by decide) ?_; clear hst; intro x2 w d2 hd2 hst; have hone2 := sl_onek (k := 0) hst rfl; (try refine nX ?_); (try replace hst := nH hst); refine ps_next hK (St.cls hSS hst) ?_; clear hK K; (try refine nX ?_)
      refine ps_one 4 rfl (by kernel_rfl) ?_; intro K hK; refine s_lit (vs := [.agg c3.toArray]) (cs := c3) hst inX inX rfl rfl (by simp [Value.cells]; exact Rep.len hc3) (by simp [Value.cells]) (by omega) (by omega) ?_; clear hst; intro x4 w hst; (try refine nX ?_); (try replace hst := nH hst); refine ps_next hK (St.cls hSS hst) ?_; clear hK K; (try refine nX ?_)
      refine ps_one 5 rfl (by kernel_rfl) ?_; intro K hK; ((refine s_append (j := 0) hst evX evX SlIn.h rfl inX inX inX (Rep.one hc3) (by omega) (by omega) (by decide) ?_; clear hst; intro x5 w hst; (try refine nX ?_); (try simp only [List.set_cons_succ, List.set_cons_zero, List.drop_succ_cons, List.drop_zero, List.take_succ_cons, List.take_zero, List.nil_append, List.cons_append, List.append_nil, Value.cells, List.eraseIdx_cons_zero, List.eraseIdx_cons_succ, Nat.zero_add, Nat.add_zero, List.flatten_cons, List.flatten_nil, List.map_cons, List.map_nil] at hst); replace hst := hst.drop)); have hone5 := sl_one hst; (try refine nX ?_); (try replace hst := nH hst); refine ps_next hK (St.cls hSS hst) ?_; clear hK K; (try refine nX ?_)
      (refine ps_take 6 (by repeat (first | exact panicQ_body | refine panicQ_then ?_)) rfl (by kernel_rfl) (by kernel_rfl) (by kernel_rfl) rfl (St.cls hSS hst) (by exact qt_assign evX) ?_) <;> (try refine nX ?_)
      refine ps_done (by kernel_rfl) ?_; rotate_left
      intro K hK; refine s_lit (vs := [.agg c3.toArray]) (cs := c3) hst inX inX rfl rfl (by simp [Value.cells]; exact Rep.len hc3) (by simp [Value.cells]) (by omega) (by omega) ?_; clear hst; intro x4 w hst; (try refine nX ?_); (try replace hst := nH hst); refine ps_next hK (St.cls hSS hst) ?_; clear hK K; (try refine nX ?_)
      refine ps_one 2 rfl (by kernel_rfl) ?_; intro K hK; refine s_append_data hst evX evX SlIn.h hl inX inX inX (by omega) (by omega) (by decide) ?_; clear hst; intro x2 w d2 hd2 hst; have hone2 := sl_onek (k := 0) hst rfl; (try refine nX ?_); (try replace hst := nH hst); refine ps_next hK (St.cls hSS hst) ?_; clear hK K; (try refine nX ?_)
      refine ps_one 5 rfl (by kernel_rfl) ?_; intro K hK; ((refine s_append (j := 0) hst evX evX SlIn.h rfl inX inX inX (Rep.one hc3) (by omega) (by omega) (by decide) ?_; clear hst; intro x5 w hst; (try refine nX ?_); (try simp only [List.set_cons_succ, List.set_cons_zero, List.drop_succ_cons, List.drop_zero, List.take_succ_cons, List.take_zero, List.nil_append, List.cons_append, List.append_nil, Value.cells, List.eraseIdx_cons_zero, List.eraseIdx_cons_succ, Nat.zero_add, Nat.add_zero, List.flatten_cons, List.flatten_nil, List.map_cons, List.map_nil] at hst); replace hst := hst.drop)); have hone5 := sl_one hst; (try refine nX ?_); (try replace hst := nH hst); refine ps_next hK (St.cls hSS hst) ?_; clear hK K; (try refine nX ?_)
      (refine ps_take 6 (by repeat (first | exact panicQ_body | refine panicQ_then ?_)) rfl (by kernel_rfl) (by kernel_rfl) (by kernel_rfl) rfl (St.cls hSS hst) (by exact qt_assign evX) ?_) <;> (try refine nX ?_)
      refine ps_done (by kernel_rfl) ?_; rotate_left
      intro K hK; refine s_lit (vs := [.agg c3.toArray]) (cs := c3) hst inX inX rfl rfl (by simp [Value.cells]; exact Rep.len hc3) (by simp [Value.cells]) (by omega) (by omega) ?_; clear hst; intro x4 w hst; (try refine nX ?_); (try replace hst := nH hst); refine ps_next hK (St.cls hSS hst) ?_; clear hK K; (try refine nX ?_)
      refine ps_one 0 rfl (by kernel_rfl) ?_; intro K hK; refine s_lit (vs := []) hst inX inX rfl rfl (by simp [Value.cells]) rfl (by omega) (by omega) ?_; clear hst; intro x0 w hst; (try refine nX ?_); (try replace hst := nH hst); refine ps_next hK (St.cls hSS hst) ?_; clear hK K; (try refine nX ?_)
      refine ps_one 2 rfl (by kernel_rfl) ?_; intro K hK; refine s_append_data hst evX evX SlIn.h hl inX inX inX (by omega) (by omega) (by decide) ?_; clear hst; intro x2 w d2 hd2 hst; have hone2 := sl_onek (k := 0) hst rfl; (try refine nX ?_); (try replace hst := nH hst); refine ps_next hK (St.cls hSS hst) ?_; clear hK K; (try refine nX ?_)
      refine ps_one 5 rfl (by kernel_rfl) ?_; intro K hK; ((refine s_append (j := 1) hst evX evX SlIn.h rfl inX inX inX (Rep.one hc3) (by omega) (by omega) (by decide) ?_; clear hst; intro x5 w hst; (try refine nX ?_); (try simp only [List.set_cons_succ, List.set_cons_zero, List.drop_succ_cons, List.drop_zero, List.take_succ_cons, List.take_zero, List.nil_append, List.cons_append, List.append_nil, Value.cells, List.eraseIdx_cons_zero, List.eraseIdx_cons_succ, Nat.zero_add, Nat.add_zero, List.flatten_cons, List.flatten_nil, List.map_cons, List.map_nil] at hst); replace hst := (hst.perm (List.Perm.swap _ _ _)).drop)); have hone5 := sl_one hst; (try refine nX ?_); (try replace hst := nH hst); refine ps_next hK (St.cls hSS hst) ?_; clear hK K; (try refine nX ?_)
      (refine ps_take 6 (by repeat (first | exact panicQ_body | refine panicQ_then ?_)) rfl (by kernel_rfl) (by kernel_rfl) (by kernel_rfl) rfl (St.cls hSS hst) (by exact qt_assign evX) ?_) <;> (try refine nX ?_)
      refine ps_done (by kernel_rfl) ?_; rotate_left
      all_goals
        obtain ⟨S3, hS3, hst, hxs⟩ := St.freeze (α := Fa) (xs := l ++ [f]) hst (hd2.append (RL.one_mk hc3)) (by rw [List.length_append]; rfl)
        repeat' (((fail_if_success (go_big_may)); (go_step)))
        go_ret
        exact ⟨_, rfl, S3, hS1.trans hS3, by rw [hE.out]; exact hxs, hst⟩
end Go.Proofs.YtjapdhaimbalkaaDoor

/- Package directory, the reference: normal forms, walked. -/
--@hgp
--@flat
--@dg
--@ex0
namespace Go.Proofs.YtjapdhaimbalkaaDoor
set_option linter.unusedSimpArgs false
set_option linter.unusedVariables false
open Go.RowKit Go.Sl Go.Srt

set_option maxRecDepth 8000 in
set_option maxHeartbeats 2000000 in
theorem rnorm_c {S M} (w : World) (hst : St S M w) (vl : Value) (l : List Fa) (hl : RSl S vl l) (ol : ∀ f ∈ l, FaOk f) (hn : l.length ≤ 90000) :
    Rets Tryd.prog 40 [vl] w fun v w' => ∃ S', S.Le S' ∧ RSl S' v (nrm l) ∧ St S' M w' := by
  unfold Rets
  have kl := hl.oneCell
  obtain ⟨R, hR0⟩ : ∃ R, nrm l = R := ⟨_, rfl⟩
  rw [hR0]
  have HR := Lib.hid hR0
  clear hR0
  go_enter Tryd.func40, Tryd.ntmps40
  repeat' (((fail_if_success (go_big_may)); (go_step)))
  go_loopw [3, 4] (fun q v wr => ∃ (k : Nat) (S' : Snap), k ≤ l.length ∧ v = .int .i64 k ∧ S.Le S' ∧ RSl S' q (nrm (l.take k)) ∧ St S' M wr) (fun _ v _ => l.length - (intOf v).toNat)
  case atStart => exact ⟨0, S, Nat.zero_le _, rfl, Snap.Le.refl _, .inl ⟨none, 0, rfl, rfl, by unfold maxLen; omega⟩, hst⟩
  case round =>
    clear hst
    obtain ⟨k, S1, hk, rfl, hS1, hu, hst⟩ := hrel
    replace hl := hl.mono hS1
    have ku := hu.oneCell
    by_cases hlt : k < l.length
    · have okk := ol _ (List.getElem_mem hlt)
      have okt : ∀ f ∈ nrm (l.take k), FaOk f := nrm_ok fun f hf => ol f (List.mem_of_mem_take hf)
      have lt := nrm_len (fs := l.take k)
      have lt2 : (l.take k).length ≤ k := by rw [List.length_take]; omega
      obtain ⟨y, gy⟩ : ∃ y, validF l[k] = y := ⟨_, rfl⟩
      have hnx : nrm (l.take (k + 1)) = if y = true then insF l[k] (nrm (l.take k)) else nrm (l.take k) := by rw [List.take_succ_eq_append_getElem hlt, nrm_snoc, gy]
      have cV := fun {S : Snap} {M : List Chunk} (w : World) (hst : St S M w) (cs : List Value) (hR : Rep.R S cs l[k]) => (rfvalid_c w hst cs l[k] hR okk).eq gy
      obtain ⟨N, hN⟩ : ∃ N, nrm (l.take k) = N := ⟨_, rfl⟩
      rw [hN] at hu okt lt hnx
      have HN := Lib.hid hnx
      clear hN hnx gy
      cases y with
      | true =>
        repeat' (first | (((with_reducible refine Sl.k_call ?_; (first | (refine s_call (cV _ hst _ hcl) inX rfl ?_; clear hst; rintro v w ⟨rfl, hst⟩) | (refine s_call (rins_c _ hst u3 N hu okt (by omega) _ _ hcl okk) inX rfl ?_; clear hst; rintro v w ⟨S2, hS2, hu2, hst⟩)))) <;> (try refine nX ?_) <;> (try replace hst := nH hst)) | ((fail_if_success (go_big_may)); (go_step)) | ((first | (with_reducible refine Sl.k_load ?_; ((refine s_ex hst (qt_ldp evX asX inX) ?_; rintro v ⟨cl, rfl, hcl⟩))) | (with_reducible refine Sl.k_index ?_; (((refine s_ex hst (qt_index evX asX rfl inX inX omX omX) ?_); rintro v hp; (try simp only [Int.toNat_natCast, Int.toNat_natCast_add_one, Int.reduceToNat] at hp)))) | (with_reducible refine Sl.k_call ?_; (refine s_qt hst (by exact qt_len evX asX inX) ?_))) <;> (try refine nX ?_)) | (with_reducible refine Sl.gate rfl ?_; (go_step)))
        go_roundw
        case rel => exact ⟨k + 1, S2, by omega, by go_num, hS1.trans hS2, by rw [HN.out]; exact hu2, hst⟩
        case measure => simp [intOf]; omega
      | false =>
        repeat' (first | (((with_reducible refine Sl.k_call ?_; ((refine s_call (cV _ hst _ hcl) inX rfl ?_; clear hst; rintro v w ⟨rfl, hst⟩)))) <;> (try refine nX ?_) <;> (try replace hst := nH hst)) | ((fail_if_success (go_big_may)); (go_step)) | ((first | (with_reducible refine Sl.k_load ?_; ((refine s_ex hst (qt_ldp evX asX inX) ?_; rintro v ⟨cl, rfl, hcl⟩))) | (with_reducible refine Sl.k_index ?_; (((refine s_ex hst (qt_index evX asX rfl inX inX omX omX) ?_); rintro v hp; (try simp only [Int.toNat_natCast, Int.toNat_natCast_add_one, Int.reduceToNat] at hp)))) | (with_reducible refine Sl.k_call ?_; (refine s_qt hst (by exact qt_len evX asX inX) ?_))) <;> (try refine nX ?_)) | (with_reducible refine Sl.gate rfl ?_; (go_step)))
        go_roundw
        case rel => exact ⟨k + 1, S1, by omega, by go_num, hS1, by rw [HN.out]; exact hu, hst⟩
        case measure => simp [intOf]; omega
    · obtain rfl : k = l.length := by omega
      rw [List.take_length, HR.out] at hu
      repeat' (first | ((fail_if_success (go_big_may)); (go_step)) | (((with_reducible refine Sl.k_call ?_; (refine s_qt hst (by exact qt_len evX asX inX) ?_))) <;> (try refine nX ?_)) | (with_reducible refine Sl.gate rfl ?_; (go_step)))
      go_ret
      exact ⟨_, rfl, S1, hS1, hu, hst⟩
end Go.Proofs.YtjapdhaimbalkaaDoor

/- Package directory, the reference: Add and Merge, walked. -/
--@hgp
--@flat
--@dg
--@ex0
namespace Go.Proofs.YtjapdhaimbalkaaDoor
set_option linter.unusedSimpArgs false
set_option linter.unusedVariables false
open Go.RowKit Go.Sl Go.Srt

set_option maxRecDepth 8000 in
set_option maxHeartbeats 2000000 in
theorem radd_c {S M} (w : World) (hst : St S M w) (u1 : Value) (a : List Fa) (h1 : RSl S u1 a) (oa : ∀ f ∈ a, FaOk f) (cs : List Value) (f : Fa) (hR : Rep.R S cs f) (ok : FaOk f) (hn : a.length ≤ 80000) :
    Rets Tryd.prog 14 [.agg [u1].toArray, .agg cs.toArray] w fun v w' => ∃ S' u, S.Le S' ∧ v = .tuple #[.agg [u].toArray, .int .i64 (if validF f = true then 0 else 1)] ∧ RSl S' u (if validF f = true then nrm (a ++ [f]) else []) ∧ St S' M w' := by
  unfold Rets
  have k1 := h1.oneCell
  obtain ⟨y, gy⟩ : ∃ y, validF f = y := ⟨_, rfl⟩
  have hF0 := nrm_snoc a f
  have oN := nrm_ok oa
  have lN := nrm_len (fs := a)
  have cV := fun {S : Snap} {M : List Chunk} (w : World) (hst : St S M w) (cs : List Value) (hR : Rep.R S cs f) => (rfvalid_c w hst cs f hR ok).eq gy
  cases y with
  | false =>
    simp only [gy, Bool.false_eq_true, if_false]
    go_enter Tryd.func14, Tryd.ntmps14
    repeat' ((fail_if_success (with_reducible show Code.wp _ (Code.region 1 _ _) _ _ _)); first | ((fail_if_success (go_big_may)); (go_step)) | ((((first | (refine s_box hst evX rfl ?_; clear hst; intro bx w hst) | (refine s_alloc hst inX ?_; clear hst; intro bk w hst)))) <;> (try refine nX ?_) <;> (try replace hst := nH hst)))
    have hst0 := hst.perm ((List.Perm.swap _ _ _).trans (List.Perm.cons _ (List.Perm.swap _ _ _)))
    clear hst
    obtain ⟨S1, hS1, hst1, hpf⟩ := pt_box (α := Fa) (x := f) hst0 hR (Rep.len hR)
    clear hst0
    obtain ⟨S2, hS2, hst, hpd⟩ := pt_box (α := Dir) (x := (a, ())) hst1 (dir_mk (h1.mono hS1)) rfl
    clear hst1
    replace hpf := hpf.mono hS2
    repeat' (first | (((with_reducible (refine Sl.k_load ?_; refine s_ex hst (qt_ldp (y := f) evX hpf inX) ?_; rintro v57 ⟨cf, rfl, hcf⟩))) <;> (try refine nX ?_)) | (((with_reducible refine Sl.k_call ?_; ((refine s_call (cV _ hst cf hcf) inX rfl ?_; clear hst; rintro v w ⟨rfl, hst⟩)))) <;> (try refine nX ?_) <;> (try replace hst := nH hst)) | ((fail_if_success (go_big_may)); (go_step)) | (with_reducible refine Sl.gate rfl ?_; (go_step)) | (((((with_reducible refine Sl.k_store ?_; (refine s_store hst rfl _ BoxIn.h inX evX rfl lenOk oneOk (by simp) ?_); clear hst; intro w hst)))) <;> (try refine nX ?_) <;> (try replace hst := nH hst)))
    exact ret_two rfl (rv_cell hst rfl 0 rfl inX (cs := [.slice none 0 0]) rfl rfl) (rv_tmp rfl) ⟨_, rfl, S2, .slice none 0 0, hS1.trans hS2, rfl, .inl ⟨none, 0, rfl, rfl, by simp [maxLen]⟩, hst.drop⟩
  | true =>
    rw [gy, if_pos rfl] at hF0
    simp only [gy, if_true]
    obtain ⟨N, hN⟩ : ∃ N, nrm a = N := ⟨_, rfl⟩
    obtain ⟨F, hF⟩ : ∃ F, nrm (a ++ [f]) = F := ⟨_, rfl⟩
    rw [hN, hF] at hF0
    rw [hN] at oN lN
    rw [hF]
    have cN := fun {S : Snap} {M : List Chunk} (w : World) (hst : St S M w) (vl : Value) (hl : RSl S vl a) => rnorm_c w hst vl a hl oa (by omega)
    have cI := fun {S : Snap} {M : List Chunk} (w : World) (hst : St S M w) (vl : Value) (hl : RSl S vl N) (cs : List Value) (hR : Rep.R S cs f) => rins_c w hst vl N hl oN (by omega) cs f hR ok
    rw [hN] at cN
    rw [← hF0] at cI
    clear hN hF hF0
    go_enter Tryd.func14, Tryd.ntmps14
    repeat' ((fail_if_success (with_reducible show Code.wp _ (Code.region 1 _ _) _ _ _)); first | ((fail_if_success (go_big_may)); (go_step)) | ((((first | (refine s_box hst evX rfl ?_; clear hst; intro bx w hst) | (refine s_alloc hst inX ?_; clear hst; intro bk w hst)))) <;> (try refine nX ?_) <;> (try replace hst := nH hst)))
    have hst0 := hst.perm ((List.Perm.swap _ _ _).trans (List.Perm.cons _ (List.Perm.swap _ _ _)))
    clear hst
    obtain ⟨S1, hS1, hst1, hpf⟩ := pt_box (α := Fa) (x := f) hst0 hR (Rep.len hR)
    clear hst0
    obtain ⟨S2, hS2, hst, hpd⟩ := pt_box (α := Dir) (x := (a, ())) hst1 (dir_mk (h1.mono hS1)) rfl
    clear hst1
    replace hpf := hpf.mono hS2
    repeat' (first | (((with_reducible (refine Sl.k_load ?_; refine s_ex hst (qt_ldp (y := f) evX hpf inX) ?_; rintro v57 ⟨cf, rfl, hcf⟩))) <;> (try refine nX ?_)) | (((with_reducible refine Sl.k_call ?_; ((refine s_call (cV _ hst cf hcf) inX rfl ?_; clear hst; rintro v w ⟨rfl, hst⟩)))) <;> (try refine nX ?_) <;> (try replace hst := nH hst)) | ((fail_if_success (go_big_may)); (go_step)) | (with_reducible refine Sl.gate rfl ?_; (go_step)))
    refine ps_begin hst (by kernel_rfl) ?_; clear hst; intro w hst; have hSS := le_of hst; (try refine nX ?_)
    ((refine ps_takex 0 (by repeat (first | with_reducible refine panicQ_then ?_ | exact panicQ_body)) rfl (by kernel_rfl) (by kernel_rfl) (by kernel_rfl) rfl (St.cls hSS hst) (qt_fieldp evX hpd inX inX rfl ) ?_; rintro  v0 hp0)) <;> (try refine nX ?_)
    ((refine ps_takex 1 (by repeat (first | with_reducible refine panicQ_then ?_ | exact panicQ_body)) rfl (by kernel_rfl) (by kernel_rfl) (by kernel_rfl) rfl (St.cls hSS hst) (qt_ldp_list evX hp0 inX ) ?_; rintro  v1 ⟨hv1, hv11⟩; replace hv1 : RSl S2 v1 a := hv1)) <;> (try refine nX ?_)
    ((refine ps_takex 3 (by repeat (first | with_reducible refine panicQ_then ?_ | exact panicQ_body)) rfl (by kernel_rfl) (by kernel_rfl) (by kernel_rfl) rfl (St.cls hSS hst) (qt_ldp (y := f) evX hpf inX ) ?_; rintro  v3 ⟨c3, rfl, hc3⟩)) <;> (try refine nX ?_)
    refine ps_one 2 rfl (by kernel_rfl) ?_; intro K hK; refine s_call (cN w hst v1 (hv1.mono hSS)) inX rfl ?_; clear hst; rintro v2 w ⟨S3, hS3, hN3, hst⟩; (try refine nX ?_); (try replace hst := nH hst); replace hSS := hSS.trans hS3; refine ps_next hK (St.cls hSS hst) ?_; clear hK K; (try refine nX ?_)
    refine ps_one 4 rfl (by kernel_rfl) ?_; intro K hK; refine s_call (cI w hst v2 hN3 c3 (Rep.mono hSS hc3)) inX rfl ?_; clear hst; rintro v4 w ⟨S4, hS4, hI4, hst⟩; (try refine nX ?_); (try replace hst := nH hst); replace hSS := hSS.trans hS4; refine ps_next hK (St.cls hSS hst) ?_; clear hK K; (try refine nX ?_)
    refine ps_one 5 rfl (by kernel_rfl) ?_; intro K hK; refine s_ex hst (qt_buildP (x' := ((F, ()) : Dir)) inX inX nil_dir (.cons (k := 0) (y := F) (r_listD hI4) rfl .nil)) ?_; rintro v5 ⟨c5, rfl, hc5⟩; (try refine nX ?_); (try replace hst := nH hst); refine ps_next hK (St.cls hSS hst) ?_; clear hK K; (try refine nX ?_)
    refine ps_one 6 rfl (by kernel_rfl) ?_; intro K hK; refine s_stW0 hst rfl BoxIn.h inX rfl hc5 rfl ?_; clear hst; intro w hst; (try refine nX ?_); (try replace hst := nH hst); refine ps_next hK (St.cls hSS hst) ?_; clear hK K; (try refine nX ?_)
    (refine ps_take 7 (by repeat (first | with_reducible refine panicQ_then ?_ | exact panicQ_body)) rfl (by kernel_rfl) (by kernel_rfl) (by kernel_rfl) rfl (St.cls hSS hst) (by exact qt_assign evX) ?_) <;> (try refine nX ?_)
    refine ps_done (by kernel_rfl) ?_
    obtain ⟨u5, rfl, hu5⟩ := dir_of hc5
    repeat' (((fail_if_success (go_big_may)); (go_step)))
    exact ret_two rfl (rv_cell hst rfl 0 rfl inX (cs := [u5]) rfl rfl) (rv_tmp rfl) ⟨_, rfl, S4, u5, (hS1.trans hS2).trans hSS, rfl, hu5, hst.drop⟩

set_option maxRecDepth 8000 in
set_option maxHeartbeats 2000000 in
theorem rmerge_c {S M} (w : World) (hst : St S M w) (u1 u2 : Value) (a b : List Fa) (h1 : RSl S u1 a) (h2 : RSl S u2 b) (oa : ∀ f ∈ a, FaOk f) (ob : ∀ f ∈ b, FaOk f) (hn : a.length + b.length ≤ 80000) :
    Rets Tryd.prog 20 [.agg [u1].toArray, .agg [u2].toArray] w fun v w' => ∃ S' u, S.Le S' ∧ v = .agg [u].toArray ∧ RSl S' u (nrm (a ++ b)) ∧ St S' M w' := by
  unfold Rets
  have k1 := h1.oneCell
  have k2 := h2.oneCell
  have oL : ∀ f ∈ a ++ b, FaOk f := fun f hf => (List.mem_append.1 hf).elim (oa f) (ob f)
  obtain ⟨F, hF⟩ : ∃ F, nrm (a ++ b) = F := ⟨_, rfl⟩
  have cN := fun {S : Snap} {M : List Chunk} (w : World) (hst : St S M w) (vl : Value) (hl : RSl S vl (a ++ b)) => rnorm_c w hst vl (a ++ b) hl oL (by rw [List.length_append]; omega)
  rw [hF] at cN
  rw [hF]
  clear hF
  go_enter Tryd.func20, Tryd.ntmps20
  repeat' ((fail_if_success (with_reducible show Code.wp _ (Code.region 1 _ _) _ _ _)); first | ((fail_if_success (go_big_may)); (go_step)) | ((((first | (refine s_box hst evX rfl ?_; clear hst; intro bx w hst) | (refine s_alloc hst inX ?_; clear hst; intro bk w hst)))) <;> (try refine nX ?_) <;> (try replace hst := nH hst)))
  have hst0 := hst.perm ((List.Perm.swap _ _ _).trans (List.Perm.cons _ (List.Perm.swap _ _ _)))
  clear hst
  obtain ⟨S1, hS1, hst1, hpb⟩ := pt_box (α := Dir) (x := (b, ())) hst0 (dir_mk h2) rfl
  clear hst0
  obtain ⟨S2, hS2, hst, hpa⟩ := pt_box (α := Dir) (x := (a, ())) hst1 (dir_mk (h1.mono hS1)) rfl
  clear hst1
  replace hpb := hpb.mono hS2
  refine ps_begin hst (by kernel_rfl) ?_; clear hst; intro w hst; have hSS := le_of hst; (try refine nX ?_)
  ((refine ps_takex 1 (by repeat (first | with_reducible refine panicQ_then ?_ | exact panicQ_body)) rfl (by kernel_rfl) (by kernel_rfl) (by kernel_rfl) rfl (St.cls hSS hst) (qt_fieldp evX hpa inX inX rfl ) ?_; rintro  v1 hp1)) <;> (try refine nX ?_)
  ((refine ps_takex 2 (by repeat (first | with_reducible refine panicQ_then ?_ | exact panicQ_body)) rfl (by kernel_rfl) (by kernel_rfl) (by kernel_rfl) rfl (St.cls hSS hst) (qt_ldp_list evX hp1 inX ) ?_; rintro  v2 ⟨hv2, hv21⟩; replace hv2 : RSl S2 v2 a := hv2)) <;> (try refine nX ?_)
  ((refine ps_takex 4 (by repeat (first | with_reducible refine panicQ_then ?_ | exact panicQ_body)) rfl (by kernel_rfl) (by kernel_rfl) (by kernel_rfl) rfl (St.cls hSS hst) (qt_fieldp evX hpb inX inX rfl ) ?_; rintro  v4 hp4)) <;> (try refine nX ?_)
  ((refine ps_takex 5 (by repeat (first | with_reducible refine panicQ_then ?_ | exact panicQ_body)) rfl (by kernel_rfl) (by kernel_rfl) (by kernel_rfl) rfl (St.cls hSS hst) (qt_ldp_list evX hp4 inX ) ?_; rintro  v5 ⟨hv5, hv51⟩; replace hv5 : RSl S2 v5 b := hv5)) <;> (try refine nX ?_)
  refine ps_one 0 rfl (by kernel_rfl) ?_; intro K hK; refine s_lit (vs := []) hst inX inX rfl rfl (by simp [Value.cells]) rfl (by omega) (by omega) ?_; clear hst; intro x0 w hst; (try refine nX ?_); (try replace hst := nH hst); refine ps_next hK (St.cls hSS hst) ?_; clear hK K; (try refine nX ?_)
  refine ps_one 3 rfl (by kernel_rfl) ?_; intro K hK; refine s_append_data hst evX evX SlIn.h hv2 inX inX inX (by omega) (by omega) (by decide) ?_; clear hst; intro x3 w d3 hd3 hst; have hone3 := sl_onek (k := 0) hst rfl; (try refine nX ?_); (try replace hst := nH hst); refine ps_next hK (St.cls hSS hst) ?_; clear hK K; (try refine nX ?_)
  refine ps_one 6 rfl (by kernel_rfl) ?_; intro K hK; refine s_append_data hst evX evX SlIn.h hv5 inX inX inX (by omega) (by omega) (by decide) ?_; clear hst; intro x6 w d6 hd6 hst; have hone6 := sl_onek (k := 0) hst rfl; (try refine nX ?_); (try replace hst := nH hst); refine ps_next hK (St.cls hSS hst) ?_; clear hK K; (try refine nX ?_)
  refine ps_one 7 rfl (by kernel_rfl) ?_; intro K hK; obtain ⟨S6, hS6, hst, hxs⟩ := St.freeze (α := Fa) (xs := a ++ b) hst (hd3.append hd6) (by rw [List.length_append]); refine s_call (cN w hst _ hxs) inX rfl ?_; clear hst; rintro v7 w ⟨S7, hS7, hN7, hst⟩; (try refine nX ?_); (try replace hst := nH hst); replace hSS := hSS.trans hS6; replace hSS := hSS.trans hS7; refine ps_next hK (St.cls hSS hst) ?_; clear hK K; (try refine nX ?_)
  refine ps_one 8 rfl (by kernel_rfl) ?_; intro K hK; refine s_ex hst (qt_buildP (x' := ((F, ()) : Dir)) inX inX nil_dir (.cons (k := 0) (y := F) (r_listD hN7) rfl .nil)) ?_; rintro v8 ⟨c8, rfl, hc8⟩; (try refine nX ?_); (try replace hst := nH hst); refine ps_next hK (St.cls hSS hst) ?_; clear hK K; (try refine nX ?_)
  refine ps_one 9 rfl (by kernel_rfl) ?_; intro K hK; refine s_stW0 hst rfl BoxIn.h inX rfl hc8 rfl ?_; clear hst; intro w hst; (try refine nX ?_); (try replace hst := nH hst); refine ps_next hK (St.cls hSS hst) ?_; clear hK K; (try refine nX ?_)
  refine ps_done (by kernel_rfl) ?_
  obtain ⟨u8, rfl, hu8⟩ := dir_of hc8
  repeat' (((fail_if_success (go_big_may)); (go_step)))
  exact ret_cell rfl hst rfl 0 rfl inX (cs := [u8]) rfl rfl ⟨_, rfl, S7, u8, (hS1.trans hS2).trans hSS, rfl, hu8, hst.drop⟩
end Go.Proofs.YtjapdhaimbalkaaDoor

/- Package directory, the reference: Digest, walked. -/
--@hgp
--@flat
--@dg
--@ex0
namespace Go.Proofs.YtjapdhaimbalkaaDoor
set_option linter.unusedSimpArgs false
set_option linter.unusedVariables false
open Go.RowKit Go.Sl Go.Srt

set_option maxRecDepth 8000 in
set_option maxHeartbeats 2000000 in
theorem rddig_c {S M} (w : World) (hst : St S M w) (hG : Glob S) (u1 : Value) (a : List Fa) (h1 : RSl S u1 a) (oa : ∀ f ∈ a, FaOk f) (hn : a.length ≤ 80000) :
    Rets Tryd.prog 22 [.agg [u1].toArray] w fun v w' => v = dgVm (digD a) ∧ St S M w' := by
  unfold Rets
  have k1 := h1.oneCell
  have hnl := nrm_len (fs := a)
  have hnk := nrm_ok oa
  have cN := fun {S : Snap} {M : List Chunk} (w : World) (hst : St S M w) (vl : Value) (hl : RSl S vl a) => rnorm_c w hst vl a hl oa (by omega)
  obtain ⟨F, hF⟩ : ∃ F, nrm a = F := ⟨_, rfl⟩
  have hD : digD a = rootM (F.map fdg) := by rw [← hF]; rfl
  rw [hF] at hnl hnk cN
  have HD := Lib.hid hD
  clear hD hF
  haveI : LenIs (digD a).l 16 := ⟨rootM_len _⟩
  generalize digD a = G at *
  go_enter Tryd.func22, Tryd.ntmps22
  repeat' (first | (((with_reducible refine Sl.k_call ?_; ((refine s_call (cN _ hst _ h1) inX rfl ?_; clear hst; rintro v w ⟨S2, hS2, hu, hst⟩)))) <;> (try refine nX ?_) <;> (try replace hst := nH hst)) | ((fail_if_success (go_big_may)); (go_step)) | ((first | (with_reducible refine Sl.k_load ?_; (refine s_qt hst (by exact qt_load rfl _ BoxIn.h inX rfl rfl) ?_)) | (with_reducible refine Sl.k_field ?_; (refine s_qt hst (qt_field rfl inX) ?_))) <;> (try refine nX ?_)) | ((((first | (refine s_box hst evX rfl ?_; clear hst; intro bx w hst) | (refine s_alloc hst inX ?_; clear hst; intro bk w hst)))) <;> (try refine nX ?_) <;> (try replace hst := nH hst)))
  replace hG := hG.mono hS2
  have ku := hu.oneCell
  have hst0 := hst.nil 32 16
  clear hst
  have hst := hst0
  clear hst0
  go_loopw [4, 5] (fun q v wr => ∃ k : Nat, k ≤ F.length ∧ v = .int .i64 k ∧ q.oneCell' = true ∧ St S2 (.sl q 32 16 k (cF dgC ((F.take k).map fdg)) :: .box bk [.int .u8 0, .int .u8 0, .int .u8 0, .int .u8 0, .int .u8 0, .int .u8 0, .int .u8 0, .int .u8 0, .int .u8 0, .int .u8 0, .int .u8 0, .int .u8 0, .int .u8 0, .int .u8 0, .int .u8 0, .int .u8 0] 32 :: .box bx [u1] 27 :: M) wr) (fun _ v _ => F.length - (intOf v).toNat)
  case atStart => exact ⟨0, Nat.zero_le _, rfl, rfl, hst⟩
  case round =>
    clear hst
    obtain ⟨k, hk, rfl, hone, hst⟩ := hrel
    by_cases hlt : k < F.length
    · have okf : FaOk F[k] := hnk _ (List.getElem_mem hlt)
      have hlen2 := encFa_len okf
      have hsn := Lib.hid (fdg_snoc hlt)
      have cE := fun {S : Snap} {M : List Chunk} (w : World) (hst : St S M w) (cs : List Value) (hR : Rep.R S cs F[k]) => rfencode_c w hst cs F[k] hR okf
      repeat' (first | ((first | (with_reducible (refine Sl.k_index ?_; refine s_ex hst (qt_index evX hu rfl inX inX omX omX) ?_; rintro v21 hp21; simp only [Int.toNat_natCast] at hp21)) | (with_reducible (refine Sl.k_load ?_; refine s_ex hst (qt_ldp (y := F[k]) evX hp21 inX) ?_; rintro v22 ⟨cf, rfl, hcf⟩)) | (with_reducible (refine Sl.k_conv ?_; (with_unfolding_all refine s_bytes (b := encFa F[k]) hst rfl StrT.u inX IntT.u (by omega) ?_); clear hst; intro v4 w hst; have fz := fz_u8 hst; clear hst; obtain ⟨S3, hS3, hv, ho, hst⟩ := fz))) <;> (try refine nX ?_)) | (((with_reducible refine Sl.k_call ?_; ((refine s_call (cE _ hst cf hcf) inX rfl ?_; clear hst; rintro v w ⟨rfl, hst⟩)))) <;> (try refine nX ?_) <;> (try replace hst := nH hst)) | ((fail_if_success (go_big_may)); (go_step)) | (((with_reducible refine Sl.k_call ?_; (refine s_qt hst (by exact qt_len evX asX inX) ?_))) <;> (try refine nX ?_)) | (with_reducible refine Sl.gate rfl ?_; (go_step)))
      generalize F[k] = f at *
      generalize (F.take k).map fdg = L at *
      refine s_parts hst (Sls.cons hv Sls.nil) inX inX rfl rfl (by simp) ?_
      clear hst; intro S4 u6 w hS4 hu6 hou hst
      (try refine nX ?_)
      repeat' ((((with_reducible refine Sl.k_call ?_; ((refine s_call (refDigest_c _ hst 17 (by omega) _ _ hu6 (by simp [sizeB]; omega)) inX rfl ?_; clear hst; rintro v w ⟨rfl, hst⟩)))) <;> (try refine nX ?_) <;> (try replace hst := nH hst)))
      refine s_lit (vs := [dgV (fdg f)]) hst inX inX rfl rfl (by simp [Value.cells, u8s_length, fdg_len]) rfl (by omega) (by omega) ?_
      clear hst; intro u w hst
      (try refine nX ?_)
      (try replace hst := nH hst)
      repeat' (fail)
      refine s_append (j := 0) hst evX evX SlIn.h rfl inX inX inX (by simpa [Value.cells] using u8s_one (fdg f).l) (by omega) (by omega) (by decide) ?_
      clear hst; intro v' w hst
      (try refine nX ?_)
      (try replace hst := nH hst)
      replace hst := hst.drop
      repeat' (first | ((fail_if_success (go_big_may)); (go_step)) | (with_reducible refine Sl.gate rfl ?_; (go_step)))
      have hone' := sl_onek (k := 0) hst rfl
      go_roundw
      case rel => exact ⟨k + 1, by omega, by go_num, hone', by rw [hsn.out, cF_snoc]; exact St.weaken (hS3.trans hS4) hst⟩
      case measure => simp [intOf]; omega
    · obtain rfl : k = F.length := by omega
      rw [List.take_length] at hst
      obtain ⟨S3, hS3, hst, hv⟩ := St.freeze (α := Dg) hst (rl_dgs _ fun d hd => by
        obtain ⟨f, _, rfl⟩ := List.mem_map.1 hd
        exact fdg_len f) (by simp)
      have hfl : (F.map fdg).length ≤ 90000 := by rw [List.length_map]; omega
      replace hu := hu.mono hS3
      repeat' (first | (((with_reducible refine Sl.k_call ?_; ((refine s_call (refRoot_c 90000 _ hst (hG.mono hS3) _ _ hv hfl (by omega)) inX rfl ?_; clear hst; rintro v w ⟨rfl, hst⟩)))) <;> (try refine nX ?_) <;> (try replace hst := nH hst)) | ((fail_if_success (go_big_may)); (go_step)) | (((with_reducible refine Sl.k_call ?_; (refine s_qt hst (by exact qt_len evX asX inX) ?_))) <;> (try refine nX ?_)) | (with_reducible refine Sl.gate rfl ?_; (go_step)) | (((((with_reducible refine Sl.k_store ?_; (refine s_stD hst rfl BoxIn.h inX evX inX lenX ?_); clear hst; intro w hst)))) <;> (try refine nX ?_) <;> (try replace hst := nH hst)))
      rw [← HD.out] at hst
      exact ret_D rfl hst rfl BoxIn.h inX inX ⟨_, rfl, rfl, (St.weaken (hS2.trans hS3) hst).drop.drop⟩
end Go.Proofs.YtjapdhaimbalkaaDoor
