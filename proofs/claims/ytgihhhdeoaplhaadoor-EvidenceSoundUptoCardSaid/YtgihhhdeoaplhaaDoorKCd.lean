/- The statement EvidenceSound. -/
import Derived.Test.YtgihhhdeoaplhaaDoorBb
import Derived.Test.YtgihhhdeoaplhaaDoorBg
import Derived.Test.YtgihhhdeoaplhaaDoorBj
import Derived.Test.YtgihhhdeoaplhaaDoorBi

/- The statement EvidenceSound, walked. -/
--@u32
--@hgp
--@flat
--@dg
--@ex0
namespace Go.Proofs.YtgihhhdeoaplhaaDoor
set_option linter.unusedSimpArgs false
set_option linter.unusedVariables false
open Go.RowKit Go.Sl

set_option maxRecDepth 8000 in
set_option maxHeartbeats 4000000 in
theorem esound_c {S M} (w : World) (hst : St S M w) (hG : Glob S) (m : Dg) (hm : m.l.length = 16) (vl : Value) (log : List Ev) (hl : RSl S vl log) (hlm : log.length ≤ 1048576) (cs : List Value) (ev : Evd) (hR : Rep.R S cs ev) :
    Rets Tryd.prog 6 [dgV m, vl, .agg cs.toArray] w fun v w' => v = .bool true ∧ St S M w' := by
  unfold Rets
  haveI : LenIs m.l 16 := ⟨hm⟩
  have hl1 := hl.oneCell
  have e16 := evd_16 hR
  have ehd := evd_hd hR
  obtain ⟨z, hz⟩ : ∃ z, fewN log = z := ⟨_, rfl⟩
  have cFw := fun {S : Snap} {M : List Chunk} (w : World) (hst : St S M w) (hl : RSl S vl log) => (fewN_c w hst vl log hl hlm).eq hz
  obtain ⟨y, hy⟩ : ∃ z, smallM ev = z := ⟨_, rfl⟩
  have cM := fun {S : Snap} {M : List Chunk} (w : World) (hst : St S M w) (cs : List Value) (hR : Rep.R S cs ev) => (small_c w hst cs ev hR).eq hy
  go_enter Tryd.func6, Tryd.ntmps6
  repeat' ((fail_if_success (with_reducible show Code.wp _ (Code.region 1 _ _) _ _ _)); first | ((fail_if_success (go_big_may)); (go_step)) | (((((refine s_box hst evX rfl ?_; clear hst; intro bx w hst)))) <;> (try refine nY ?_) <;> (try replace hst := nH hst)))
  have hst0 := hst
  clear hst
  obtain ⟨S1, hS1, hst, hpe⟩ := pt_box (α := Evd) hst0 hR (Rep.len hR)
  clear hst0
  generalize Value.pointer (some ⟨bx, 0, none⟩) = pE at *
  rename Nat => bz
  replace hG := hG.mono hS1
  replace hl := hl.mono hS1
  cases z with
  | false =>
    repeat' (first | go_skip | (((with_reducible refine Sl.k_call ?_; (first | (refine s_call (esanity_c _ hst hG) inX rfl ?_; clear hst; rintro v w ⟨rfl, hst⟩) | (refine s_call (cFw _ hst hl) inX rfl ?_; clear hst; rintro v w ⟨rfl, hst⟩)))) <;> (try refine nY ?_) <;> (try replace hst := nH hst)) | ((fail_if_success (go_big_may)); (go_step)) | (with_reducible refine Sl.gate rfl ?_; (go_step)))
    go_ret
    exact ⟨_, rfl, rfl, St.weaken hS1 hst.drop⟩
  | true =>
    cases y with
    | false =>
      repeat' (first | go_skip | (((with_reducible refine Sl.k_guard ?_; ((refine Sl.guard_yes rfl ?_)))) <;> (try refine nY ?_)) | (((with_reducible refine Sl.k_call ?_; (first | (refine s_call (esanity_c _ hst hG) inX rfl ?_; clear hst; rintro v w ⟨rfl, hst⟩) | (refine s_call (cFw _ hst hl) inX rfl ?_; clear hst; rintro v w ⟨rfl, hst⟩) | (refine s_call (cM _ hst _ hcl) inX rfl ?_; clear hst; rintro v w ⟨rfl, hst⟩)))) <;> (try refine nY ?_) <;> (try replace hst := nH hst)) | ((fail_if_success (go_big_may)); (go_step)) | (((with_reducible refine Sl.k_load ?_; ((refine s_ex hst (qt_ldp evX asX inX) ?_; rintro v ⟨cl, rfl, hcl⟩)))) <;> (try refine nY ?_)) | (with_reducible refine Sl.gate rfl ?_; (go_step)))
      go_ret
      exact ⟨_, rfl, rfl, St.weaken hS1 hst.drop⟩
    | true =>
      obtain ⟨h6, hX⟩ := fewN_of hz
      have hok : ∀ e ∈ log, evOk e := fun e he => (hX e he).ok
      have hX10 : ∀ e ∈ log, e.2.2.1.length ≤ 10 := fun e he => (hX e he).2.1
      have h6' : log.length ≤ 1000 := by omega
      have ok := small_okR hR hy
      have h10 : ev.2.1.length ≤ 10 := (of_decide_eq_true hy : smallP ev).1
      have hnp := ok.np
      obtain ⟨ck, hck⟩ : ∃ n, ckF ev.2.1 [] ev.2.2.1 = n := ⟨_, rfl⟩
      have cC := fun {S : Snap} {M : List Chunk} (w : World) (hst : St S M w) (hG : Glob S) (cs : List Value) (hR : Rep.R S cs ev) => (check_c w hst hG cs ev hR ok).mono fun v w' h => (show v = .int .i64 (ck : Int) ∧ St S M w' by rw [hck] at h; exact h)
      obtain ⟨y1, g1⟩ : ∃ y, ((ck : Int) != 0) = y := ⟨_, rfl⟩
      clear hz hX hy
      cases y1 with
      | true =>
        repeat' (first | ((first | (with_reducible refine Sl.k_bin ?_; (refine s_qt hst (qt_neq_b rfl rfl g1) ?_)) | (with_reducible refine Sl.k_guard ?_; ((refine Sl.guard_yes rfl ?_)))) <;> (try refine nY ?_)) | (((with_reducible refine Sl.k_call ?_; (first | (refine s_call (esanity_c _ hst hG) inX rfl ?_; clear hst; rintro v w ⟨rfl, hst⟩) | (refine s_call (cFw _ hst hl) inX rfl ?_; clear hst; rintro v w ⟨rfl, hst⟩) | (refine s_call (cM _ hst _ hcl) inX rfl ?_; clear hst; rintro v w ⟨rfl, hst⟩) | (refine s_call (cC _ hst hG _ hcl) inX rfl ?_; clear hst; rintro v w ⟨rfl, hst⟩)))) <;> (try refine nY ?_) <;> (try replace hst := nH hst)) | ((fail_if_success (go_big_may)); (go_step)) | (((with_reducible refine Sl.k_load ?_; ((refine s_ex hst (qt_ldp evX asX inX) ?_; rintro v ⟨cl, rfl, hcl⟩)))) <;> (try refine nY ?_)) | (with_reducible refine Sl.gate rfl ?_; (go_step)))
        go_ret
        exact ⟨_, rfl, rfl, St.weaken hS1 hst.drop⟩
      | false =>
        obtain rfl : ck = 0 := by simp at g1; omega
        have hsnd := sound_ev (m := m) (n := ev.1) (log := log) hck
        have okG := regE_ok ev.1 ev.2.1
        have okF := regE_ok m (log.map headM)
        have cA := fun {S' : Snap} {M : List Chunk} (w : World) (hS : S1.Le S') (hst : St S' M w) (cs : List Value) (hR : Rep.R S1 cs ev) => registers_c w hst (hG.mono hS) cs ev (Rep.mono hS hR) e16 ehd ok.nh
        have cL := fun {S' : Snap} {M : List Chunk} (w : World) (hS : S1.Le S') (hst : St S' M w) => fold_c w hst (hG.mono hS) m hm vl log (hl.mono hS) h6' hok
        rw [← regE_log] at cL
        rw [← regE_log] at hsnd
        generalize regE ev.1 ev.2.1 = G at *
        generalize regE m (log.map headM) = F at *
        obtain ⟨y2, g2⟩ : ∃ y, decide (G.1 = F.1) = y := ⟨_, rfl⟩
        repeat' ((fail_if_success (with_reducible show Code.wp _ (Code.region 4 _ _) _ _ _)); first | ((first | (with_reducible refine Sl.k_bin ?_; (refine s_qt hst (qt_neq_b rfl rfl g1) ?_)) | (with_reducible refine Sl.k_guard ?_; ((refine Sl.guard_yes rfl ?_)))) <;> (try refine nY ?_)) | (((with_reducible refine Sl.k_call ?_; (first | (refine s_call (esanity_c _ hst hG) inX rfl ?_; clear hst; rintro v w ⟨rfl, hst⟩) | (refine s_call (cFw _ hst hl) inX rfl ?_; clear hst; rintro v w ⟨rfl, hst⟩) | (refine s_call (cM _ hst _ hcl) inX rfl ?_; clear hst; rintro v w ⟨rfl, hst⟩) | (refine s_call (cC _ hst hG _ hcl) inX rfl ?_; clear hst; rintro v w ⟨rfl, hst⟩)))) <;> (try refine nY ?_) <;> (try replace hst := nH hst)) | ((fail_if_success (go_big_may)); (go_step)) | (((with_reducible refine Sl.k_load ?_; ((refine s_ex hst (qt_ldp evX asX inX) ?_; rintro v ⟨cl, rfl, hcl⟩)))) <;> (try refine nY ?_)) | (with_reducible refine Sl.gate rfl ?_; (go_step)))
        refine v_begin hst (by kernel_rfl) ?_; clear hst; intro ops; (try refine nY ?_)
        ((refine t_ex0 0 rfl (by kernel_rfl) rfl rfl (qt_ldp evX hpe inX ) ?_; rintro  v0 ⟨cl0, rfl, hcl0⟩)) <;> (try refine nY ?_)
        (refine t_call 1 rfl (by kernel_rfl) rfl (fun S' M' w hS hM hst => cA w hS hst cl0 hcl0) inX rfl ?_) <;> (try refine nY ?_)
        (refine t_qt 2 rfl (by kernel_rfl) rfl rfl (qt_regC rfl okG) ?_) <;> (try refine nY ?_)
        (refine t_qt 3 rfl (by kernel_rfl) rfl rfl (by exact qt_loadD evX BoxIn.h inX inX) ?_) <;> (try refine nY ?_)
        (refine t_qt 4 rfl (by kernel_rfl) rfl rfl (by exact qt_move evX) ?_) <;> (try refine nY ?_)
        (refine t_call 5 rfl (by kernel_rfl) rfl (fun S' M' w hS hM hst => cL w hS hst) inX rfl ?_) <;> (try refine nY ?_)
        (refine t_qt 6 rfl (by kernel_rfl) rfl rfl (qt_regC rfl okF) ?_) <;> (try refine nY ?_)
        (refine t_qt 7 rfl (by kernel_rfl) rfl rfl (qt_neqK_b rfl rfl (r_dg okG.a) (r_dg okF.a) inX inX inferInstance g2) ?_) <;> (try refine nY ?_)
        refine v_done (by kernel_rfl) ?_; clear ops; intro w hst
        cases y2 with
        | false =>
          repeat' (((fail_if_success (go_big_may)); (go_step)))
          go_ret
          exact ⟨_, rfl, rfl, St.weaken hS1 hst.drop⟩
        | true =>
          have hsnd := hsnd (of_decide_eq_true g2)
          clear g1 g2
          simp only [Bool.not_true]
          repeat' (((fail_if_success (go_big_may)); (go_step)))
          have hst := hst.nil 44 66
          go_loopw [8, 9] (fun u v wr => ∃ k : Nat, k ≤ log.length ∧ v = .int .i64 k ∧ u.oneCell' = true ∧ St S1 (.sl u 44 66 k (cF hdC ((log.take k).map headM)) :: .box bx (u8s m.l) 23 :: M) wr) (fun _ v _ => log.length - (intOf v).toNat)
          case atStart => exact ⟨0, Nat.zero_le _, rfl, rfl, hst⟩
          case round =>
            clear hst
            obtain ⟨k, hk, rfl, hu1, hst⟩ := hrel
            by_cases hlt : k < log.length
            · obtain ⟨e1, e2, e3⟩ := hok _ (List.getElem_mem hlt)
              have hsn := Lib.hid (heads_snoc hlt)
              have okH : HdOk (headM log[k]) := by
                obtain ⟨cs, hR⟩ := rsl_rep hl _ (List.getElem_mem hlt)
                exact headM_ok hR ⟨e1, e2, e3⟩
              have cH := fun {S : Snap} {M : List Chunk} (w : World) (hst : St S M w) (hG : Glob S) (cs : List Value) (hR : Rep.R S cs log[k]) => head_c w hst hG cs log[k] hR e1 e2 e3
              have hl66 := hdC_len okH
              obtain ⟨cs0, hcs0⟩ : ∃ c, cF hdC ((log.take k).map headM) = c := ⟨_, rfl⟩
              rw [hcs0] at hst
              have Hcs0 := Lib.hid hcs0
              clear hcs0
              generalize headM log[k] = E at *
              repeat' (first | (((with_reducible refine Sl.k_call ?_; ((refine s_call (cH _ hst hG _ hcl) inX rfl ?_; clear hst; rintro v w ⟨rfl, hst⟩)))) <;> (try refine nY ?_) <;> (try replace hst := nH hst)) | ((fail_if_success (go_big_may)); (go_step)) | ((first | (with_reducible refine Sl.k_load ?_; ((refine s_ex hst (qt_ldp evX asX inX) ?_; rintro v ⟨cl, rfl, hcl⟩))) | (with_reducible refine Sl.k_index ?_; (((refine s_ex hst (qt_index evX asX rfl inX inX omX omX) ?_); rintro v hp; (try simp only [Int.toNat_natCast, Int.toNat_natCast_add_one, Int.reduceToNat] at hp)))) | (with_reducible refine Sl.k_call ?_; (refine s_qt hst (by exact qt_len evX asX inX) ?_))) <;> (try refine nY ?_)) | (with_reducible refine Sl.gate rfl ?_; (go_step)))
              refine s_lit (vs := [hdV E]) (cs := hdC E) hst inX inX rfl rfl (by simp [Value.cells, hl66]) (by simp [Value.cells]) (by omega) (by omega) ?_
              clear hst; intro x w hst
              (try refine nY ?_)
              (try replace hst := nH hst)
              repeat' (fail)
              refine s_append (j := 0) hst evX evX SlIn.h rfl inX inX inX (Rep.one (S := S1) (r_hd okH)) (by omega) (by omega) (by decide) ?_
              clear hst; intro v' w hst
              (try refine nY ?_)
              (try replace hst := nH hst)
              replace hst := hst.drop
              have hone' := sl_one hst
              repeat' (first | ((fail_if_success (go_big_may)); (go_step)) | (with_reducible refine Sl.gate rfl ?_; (go_step)))
              go_roundw
              case rel => exact ⟨k + 1, by omega, by go_num, hone', by rw [hsn.out, cF_snoc, Hcs0.out]; exact hst⟩
              case measure => simp [intOf]; omega
            · obtain rfl : k = log.length := by omega
              rw [List.take_length] at hst
              have hok2 : ∀ h ∈ log.map headM, HdOk h := fun h hh => by
                obtain ⟨e, he, rfl⟩ := List.mem_map.1 hh
                obtain ⟨cs, hR⟩ := rsl_rep hl e he
                exact headM_ok hR (hok e he)
              have hn2 : (log.map headM).length ≤ 1000 := by rw [List.length_map]; exact h6'
              obtain ⟨S2, hS2, hst, hH⟩ := St.freeze (α := Hd) hst (rl_hds hok2) (by simp)
              replace hl := hl.mono hS2
              replace hpe := hpe.mono hS2
              replace hG := hG.mono hS2
              have hle := hS1.trans hS2
              obtain ⟨y3, g3⟩ : ∃ y, collE m (log.map headM) ev.1 ev.2.1 = y := ⟨_, rfl⟩
              have cX := fun {M : List Chunk} (w : World) (hst : St S2 M w) (v : Value) (hv : RSl S2 v ev.2.1) => (collides21_c w hst m hm _ (log.map headM) hH hok2 hn2 ev.1 e16 v ev.2.1 hv ehd (by omega)).eq g3
              clear hn2 hok2 hH
              cases y3 with
              | true =>
                repeat' (first | (((with_reducible refine Sl.k_call ?_; ((refine s_call (cX _ hst _ (by with_unfolding_all assumption)) inX rfl ?_; clear hst; rintro v w ⟨rfl, hst⟩)))) <;> (try refine nY ?_) <;> (try replace hst := nH hst)) | ((fail_if_success (go_big_may)); (go_step)) | ((first | (with_reducible refine Sl.k_load ?_; (first | refine s_qt hst (by first | exact qt_ldp_flat evX asX inX inX rfl | exact qt_loadD evX BoxIn.h inX inX) ?_ | (refine s_ex hst (qt_ldp_list evX asX inX) ?_; rintro v ⟨hvl, hv1⟩))) | (with_reducible refine Sl.k_field ?_; (((refine s_ex hst (qt_fieldp evX asX inX inX rfl) ?_); rintro v hp; (try simp only [Int.toNat_natCast, Int.toNat_natCast_add_one, Int.reduceToNat] at hp)))) | (with_reducible refine Sl.k_call ?_; (refine s_qt hst (by exact qt_len evX asX inX) ?_))) <;> (try refine nY ?_)) | (with_reducible refine Sl.gate rfl ?_; (go_step)))
                go_ret
                exact ⟨_, rfl, rfl, St.weaken hle hst.drop⟩
              | false =>
                obtain ⟨hlen, hmm, hpts⟩ := hsnd g3
                have g4 : ((ev.2.1.length : Int) != (log.length : Int)) = false := bne_eq_false_iff_eq.2 (by omega)
                have gm : decide (ev.1 = m) = true := decide_eq_true hmm
                clear hlen hmm hsnd g3 cA cL cM cC
                repeat' (first | ((first | (with_reducible refine Sl.k_bin ?_; (first | refine s_qt hst (qt_neq_b rfl rfl g4) ?_ | refine s_qt hst (qt_neqK_b rfl rfl (r_dgx e16) (r_dgx hm) inX inX inferInstance gm) ?_)) | (with_reducible refine Sl.k_guard ?_; ((refine Sl.guard_yes rfl ?_)))) <;> (try refine nY ?_)) | (((with_reducible refine Sl.k_call ?_; ((refine s_call (cX _ hst _ (by with_unfolding_all assumption)) inX rfl ?_; clear hst; rintro v w ⟨rfl, hst⟩)))) <;> (try refine nY ?_) <;> (try replace hst := nH hst)) | ((fail_if_success (go_big_may)); (go_step)) | ((first | (with_reducible refine Sl.k_load ?_; (first | refine s_qt hst (by first | exact qt_ldp_flat evX asX inX inX rfl | exact qt_loadD evX BoxIn.h inX inX) ?_ | (refine s_ex hst (qt_ldp_list evX asX inX) ?_; rintro v ⟨hvl, hv1⟩))) | (with_reducible refine Sl.k_field ?_; (((refine s_ex hst (qt_fieldp evX asX inX inX rfl) ?_); rintro v hp; (try simp only [Int.toNat_natCast, Int.toNat_natCast_add_one, Int.reduceToNat] at hp)))) | (with_reducible refine Sl.k_call ?_; (refine s_qt hst (by exact qt_len evX asX inX) ?_))) <;> (try refine nY ?_)) | (with_reducible refine Sl.gate rfl ?_; (go_step)))
                clear g4 gm cX
                go_loopw [10] (fun v wr => ∃ i : Nat, i ≤ ev.2.2.1.length ∧ v = .int .i64 i ∧ St S2 (.box bx (u8s m.l) 23 :: M) wr) (fun v _ => ev.2.2.1.length - (intOf v).toNat)
                case atStart => exact ⟨0, Nat.zero_le _, rfl, hst⟩
                case round =>
                  clear hst
                  obtain ⟨i, hi, rfl, hst⟩ := hrel
                  by_cases hlt : i < ev.2.2.1.length
                  · obtain ⟨p0, e, he, i0, i1, hor⟩ := hpts _ (List.getElem_mem hlt)
                    obtain ⟨q1, q2, q3, q4⟩ := ok.pt _ (List.getElem_mem hlt)
                    have hjl : ev.2.2.1[i].1.toNat < log.length := (List.getElem?_eq_some_iff.1 he).1
                    obtain rfl : e = log[ev.2.2.1[i].1.toNat] := by rw [List.getElem?_eq_getElem hjl] at he; exact (Option.some.inj he).symm
                    clear he
                    obtain ⟨e1, e2, e3⟩ := hok _ (List.getElem_mem hjl)
                    have p10 := hX10 _ (List.getElem_mem hjl)
                    have hil : ev.2.2.1[i].2.1.toNat < log[ev.2.2.1[i].1.toNat].2.2.1.length := by omega
                    rw [List.getD_eq_getElem?_getD, List.getElem?_eq_getElem hil, Option.getD_some] at hor
                    repeat' ((fail_if_success (with_reducible show Code.wp _ (Code.region 19 _ _) _ _ _)); first | ((fail_if_success (go_big_may)); (go_step)) | ((first | (with_reducible refine Sl.k_load ?_; (first | (refine s_ex hst (qt_ldp_list evX asX inX) ?_; rintro v ⟨hvl, hv1⟩) | (refine s_ex hst (qt_ldp evX asX inX) ?_; rintro v ⟨cl, rfl, hcl⟩))) | (with_reducible refine Sl.k_field ?_; (((refine s_ex hst (qt_fieldp evX asX inX inX rfl) ?_); rintro v hp; (try simp only [Int.toNat_natCast, Int.toNat_natCast_add_one, Int.reduceToNat] at hp)))) | (with_reducible refine Sl.k_index ?_; (((refine s_ex hst (qt_index evX asX rfl inX inX omX omX) ?_); rintro v hp; (try simp only [Int.toNat_natCast, Int.toNat_natCast_add_one, Int.reduceToNat] at hp)))) | (with_reducible refine Sl.k_call ?_; (refine s_qt hst (by exact qt_len evX asX inX) ?_))) <;> (try refine nY ?_)) | (with_reducible refine Sl.gate rfl ?_; (go_step)) | ((((first | (with_reducible refine Sl.k_store ?_; (refine s_stR hst rfl BoxIn.h evX asX inX rfl rfl ?_); clear hst; intro w hst) | (refine s_alloc hst inX ?_; clear hst; intro bk w hst)))) <;> (try refine nY ?_) <;> (try replace hst := nH hst)))
                    have hst0 := hst
                    clear hst
                    obtain ⟨S3, hS3, hst, hpp⟩ := pt_box (α := Pn) hst0 hcl (Rep.len hcl)
                    clear hst0
                    generalize Value.pointer (some ⟨bk, 0, none⟩) = pP at *
                    replace hl := hl.mono hS3
                    replace hG := hG.mono hS3
                    obtain ⟨y5, g5⟩ : ∃ y, (log[ev.2.2.1[i].1.toNat].2.2.1[ev.2.2.1[i].2.1.toNat] == ev.2.2.1[i].2.2.1) = y := ⟨_, rfl⟩
                    repeat' ((fail_if_success (with_reducible show Code.wp _ (Code.region 20 _ _) _ _ _)); first | ((fail_if_success (go_big_may)); (go_step)) | ((first | (with_reducible refine Sl.k_load ?_; (first | (refine s_ex hst (qt_ldp_int evX asX inX) ?_; rintro v ⟨rfl, hI⟩) | (refine s_ex hst (qt_ldp_list evX asX inX) ?_; rintro v ⟨hvl, hv1⟩))) | (with_reducible refine Sl.k_field ?_; (((refine s_ex hst (qt_fieldp evX asX inX inX rfl) ?_); rintro v hp; (try simp only [Int.toNat_natCast, Int.toNat_natCast_add_one, Int.reduceToNat] at hp)))) | (with_reducible refine Sl.k_index ?_; (((refine s_ex hst (qt_index evX asX rfl inX inX omX omX) ?_); rintro v hp; (try simp only [Int.toNat_natCast, Int.toNat_natCast_add_one, Int.reduceToNat] at hp))))) <;> (try refine nY ?_)))
                    repeat' ((fail_if_success (with_reducible show Code.wp _ (Code.region 22 _ _) _ _ _)); first | ((fail_if_success (go_big_may)); (go_step)) | ((first | (with_reducible refine Sl.k_load ?_; ((refine s_ex hst (qt_ldp_int evX asX inX) ?_; rintro v ⟨rfl, hI⟩))) | (with_reducible refine Sl.k_field ?_; (((refine s_ex hst (qt_fieldp evX asX inX inX rfl) ?_); rintro v hp; (try simp only [Int.toNat_natCast, Int.toNat_natCast_add_one, Int.reduceToNat] at hp)))) | (with_reducible refine Sl.k_call ?_; (refine s_qt hst (by exact qt_len evX asX inX) ?_))) <;> (try refine nY ?_)) | (with_reducible refine Sl.gate rfl ?_; (go_step)))
                    cases y5 with
                    | true =>
                      refine v_begin hst (by kernel_rfl) ?_; clear hst; intro ops; (try refine nY ?_)
                      (refine t_qt 0 rfl (by kernel_rfl) rfl rfl (by exact qt_move evX) ?_) <;> (try refine nY ?_)
                      ((refine t_ex0 1 rfl (by kernel_rfl) rfl rfl (qt_fieldp evX hpp inX inX rfl ) ?_; rintro  v1 hp1)) <;> (try refine nY ?_)
                      ((refine t_ex0 2 rfl (by kernel_rfl) rfl rfl (qt_ldp_int evX hp1 inX ) ?_; rintro  v2 ⟨rfl, hI2⟩)) <;> (try refine nY ?_)
                      ((refine t_ex0 3 rfl (by kernel_rfl) rfl rfl (qt_index evX hvl rfl inX inX omX omX ) ?_; rintro  v3 hp3)) <;> (try refine nY ?_)
                      ((refine t_ex0 4 rfl (by kernel_rfl) rfl rfl (qt_ldp_int evX hp3 inX ) ?_; rintro  v4 ⟨rfl, hI4⟩)) <;> (try refine nY ?_)
                      ((refine t_ex0 5 rfl (by kernel_rfl) rfl rfl (qt_fieldp evX hpp inX inX rfl ) ?_; rintro  v5 hp5)) <;> (try refine nY ?_)
                      ((refine t_ex0 6 rfl (by kernel_rfl) rfl rfl (qt_ldp_int evX hp5 inX ) ?_; rintro  v6 ⟨rfl, hI6⟩)) <;> (try refine nY ?_)
                      (refine t_qt 7 rfl (by kernel_rfl) rfl rfl (qt_eql_b rfl rfl g5) ?_) <;> (try refine nY ?_)
                      refine v_done (by kernel_rfl) ?_; clear ops; intro w hst
                      repeat' (first | ((fail_if_success (go_big_may)); (go_step)) | (with_reducible refine Sl.gate rfl ?_; (go_step)))
                      go_roundw
                      case rel => exact ⟨i + 1, by omega, by go_num, St.weaken hS3 hst⟩
                      case measure => simp [intOf]; omega
                    | false =>
                      refine v_begin hst (by kernel_rfl) ?_; clear hst; intro ops; (try refine nY ?_)
                      (refine t_qt 0 rfl (by kernel_rfl) rfl rfl (by exact qt_move evX) ?_) <;> (try refine nY ?_)
                      ((refine t_ex0 1 rfl (by kernel_rfl) rfl rfl (qt_fieldp evX hpp inX inX rfl ) ?_; rintro  v1 hp1)) <;> (try refine nY ?_)
                      ((refine t_ex0 2 rfl (by kernel_rfl) rfl rfl (qt_ldp_int evX hp1 inX ) ?_; rintro  v2 ⟨rfl, hI2⟩)) <;> (try refine nY ?_)
                      ((refine t_ex0 3 rfl (by kernel_rfl) rfl rfl (qt_index evX hvl rfl inX inX omX omX ) ?_; rintro  v3 hp3)) <;> (try refine nY ?_)
                      ((refine t_ex0 4 rfl (by kernel_rfl) rfl rfl (qt_ldp_int evX hp3 inX ) ?_; rintro  v4 ⟨rfl, hI4⟩)) <;> (try refine nY ?_)
                      ((refine t_ex0 5 rfl (by kernel_rfl) rfl rfl (qt_fieldp evX hpp inX inX rfl ) ?_; rintro  v5 hp5)) <;> (try refine nY ?_)
                      ((refine t_ex0 6 rfl (by kernel_rfl) rfl rfl (qt_ldp_int evX hp5 inX ) ?_; rintro  v6 ⟨rfl, hI6⟩)) <;> (try refine nY ?_)
                      (refine t_qt 7 rfl (by kernel_rfl) rfl rfl (qt_eql_b rfl rfl g5) ?_) <;> (try refine nY ?_)
                      refine v_done (by kernel_rfl) ?_; clear ops; intro w hst
                      have lvl : (lvM log[ev.2.2.1[i].1.toNat]).length = log[ev.2.2.1[i].1.toNat].2.2.1.length := leavesP_len _ _
                      have hI2 := rsl_i64 hvl _ (List.getElem_mem hil)
                      have cP := fun {S' : Snap} {M : List Chunk} (w : World) (hS : S3.Le S') (hst : St S' M w) => pleaf_c w hst (hG.mono hS) ev.2.2.1[i].2.1 log[ev.2.2.1[i].1.toNat].2.2.1[ev.2.2.1[i].2.1.toNat] q2 hI2
                      have hix : ev.2.2.1[i].2.1 = ((ev.2.2.1[i].2.1.toNat : Nat) : Int) := (Int.toNat_of_nonneg i0).symm
                      have cX := fun {S' : Snap} {M : List Chunk} (w : World) (hS : S3.Le S') (hst : St S' M w) (v : Value) (hv : RSl S' v (lvM log[ev.2.2.1[i].1.toNat])) (u : Value) (hu : RSl S' u ev.2.2.1[i].2.2.2.1) => (show Rets Tryd.prog 24 [v, .int .i64 ev.2.2.1[i].2.1, dgV (leafP ev.2.2.1[i].2.1 ev.2.2.1[i].2.2.1), u] w fun v w' => v = .bool (collM (lvM log[ev.2.2.1[i].1.toNat]) ev.2.2.1[i].2.1.toNat (leafP ev.2.2.1[i].2.1 ev.2.2.1[i].2.2.1) ev.2.2.1[i].2.2.2.1) ∧ St S' M w' from by
                        have := collides_c (lvM log[ev.2.2.1[i].1.toNat]).length w hst (hG.mono hS) v _ hv ev.2.2.1[i].2.1.toNat (by omega) (Nat.le_refl _) (by omega) (leafP ev.2.2.1[i].2.1 ev.2.2.1[i].2.2.1) (leafP_len _ _) u _ hu q4
                        rw [← hix] at this
                        exact this)
                      clear lvl hix
                      have lL := leafP_len ev.2.2.1[i].2.1 ev.2.2.1[i].2.2.1
                      have lR := leafP_len ev.2.2.1[i].2.1 log[ev.2.2.1[i].1.toNat].2.2.1[ev.2.2.1[i].2.1.toNat]
                      haveI hLL : LenIs (leafP ev.2.2.1[i].2.1 ev.2.2.1[i].2.2.1).l 16 := ⟨lL⟩
                      repeat' ((fail_if_success (with_reducible show Code.wp _ (Code.region 24 _ _) _ _ _)); first | (((with_reducible refine Sl.k_call ?_; ((refine s_call (pleaf_c _ hst hG ev.2.2.1[i].2.1 ev.2.2.1[i].2.2.1 q2 q3) inX rfl ?_; clear hst; rintro v w ⟨rfl, hst⟩)))) <;> (try refine nY ?_) <;> (try replace hst := nH hst)) | ((fail_if_success (go_big_may)); (go_step)) | ((first | (with_reducible refine Sl.k_load ?_; ((refine s_ex hst (qt_ldp_int evX asX inX) ?_; rintro v ⟨rfl, hI⟩))) | (with_reducible refine Sl.k_field ?_; (((refine s_ex hst (qt_fieldp evX asX inX inX rfl) ?_); rintro v hp; (try simp only [Int.toNat_natCast, Int.toNat_natCast_add_one, Int.reduceToNat] at hp))))) <;> (try refine nY ?_)) | ((((first | (with_reducible refine Sl.k_store ?_; (refine s_stD hst rfl BoxIn.h inX evX inX lenX ?_); clear hst; intro w hst) | (refine s_alloc hst inX ?_; clear hst; intro bk w hst)))) <;> (try refine nY ?_) <;> (try replace hst := nH hst)))
                      generalize leafP ev.2.2.1[i].2.1 ev.2.2.1[i].2.2.1 = L at *
                      generalize leafP ev.2.2.1[i].2.1 log[ev.2.2.1[i].1.toNat].2.2.1[ev.2.2.1[i].2.1.toNat] = R at *
                      obtain ⟨y6, g6⟩ : ∃ y, decide (L = R) = y := ⟨_, rfl⟩
                      cases y6 with
                      | true =>
                        refine v_begin hst (by kernel_rfl) ?_; clear hst; intro ops; (try refine nY ?_)
                        (refine t_qt 0 rfl (by kernel_rfl) rfl rfl (qt_loadD evX BoxIn.h inX inX) ?_) <;> (try refine nY ?_)
                        ((refine t_ex0 1 rfl (by kernel_rfl) rfl rfl (qt_fieldp evX hpp inX inX rfl ) ?_; rintro  v1 hp1)) <;> (try refine nY ?_)
                        ((refine t_ex0 2 rfl (by kernel_rfl) rfl rfl (qt_ldp_int evX hp1 inX ) ?_; rintro  v2 ⟨rfl, hI2⟩)) <;> (try refine nY ?_)
                        (refine t_qt 3 rfl (by kernel_rfl) rfl rfl (by exact qt_move evX) ?_) <;> (try refine nY ?_)
                        ((refine t_ex0 4 rfl (by kernel_rfl) rfl rfl (qt_fieldp evX hpp inX inX rfl ) ?_; rintro  v4 hp4)) <;> (try refine nY ?_)
                        ((refine t_ex0 5 rfl (by kernel_rfl) rfl rfl (qt_ldp_int evX hp4 inX ) ?_; rintro  v5 ⟨rfl, hI5⟩)) <;> (try refine nY ?_)
                        ((refine t_ex0 6 rfl (by kernel_rfl) rfl rfl (qt_index evX hvl rfl inX inX omX omX ) ?_; rintro  v6 hp6)) <;> (try refine nY ?_)
                        ((refine t_ex0 7 rfl (by kernel_rfl) rfl rfl (qt_ldp_int evX hp6 inX ) ?_; rintro  v7 ⟨rfl, hI7⟩)) <;> (try refine nY ?_)
                        (refine t_call 8 rfl (by kernel_rfl) rfl (fun S' M' w hS hM hst => cP w hS hst) inX rfl ?_) <;> (try refine nY ?_)
                        (refine t_qt 9 rfl (by kernel_rfl) rfl rfl (qt_neqK_b rfl rfl (r_dg lL) (r_dg lR) inX inX inferInstance g6) ?_) <;> (try refine nY ?_)
                        (refine t_qt 10 rfl (by kernel_rfl) rfl rfl (by exact qt_move evX) ?_) <;> (try refine nY ?_)
                        (refine t_no 11 rfl (by kernel_rfl) rfl rfl ?_) <;> (try refine nY ?_)
                        (refine t_no 12 rfl (by kernel_rfl) rfl rfl ?_) <;> (try refine nY ?_)
                        (refine t_no 13 rfl (by kernel_rfl) rfl rfl ?_) <;> (try refine nY ?_)
                        (refine t_no 14 rfl (by kernel_rfl) rfl rfl ?_) <;> (try refine nY ?_)
                        (refine t_no 15 rfl (by kernel_rfl) rfl rfl ?_) <;> (try refine nY ?_)
                        (refine t_no 16 rfl (by kernel_rfl) rfl rfl ?_) <;> (try refine nY ?_)
                        (refine t_no 17 rfl (by kernel_rfl) rfl rfl ?_) <;> (try refine nY ?_)
                        (refine t_no 18 rfl (by kernel_rfl) rfl rfl ?_) <;> (try refine nY ?_)
                        (refine t_no 19 rfl (by kernel_rfl) rfl rfl ?_) <;> (try refine nY ?_)
                        (refine t_qt 20 rfl (by kernel_rfl) rfl rfl (by exact qt_pick_f rfl evX) ?_) <;> (try refine nY ?_)
                        refine v_done (by kernel_rfl) ?_; clear ops; intro w hst
                        repeat' (first | ((fail_if_success (go_big_may)); (go_step)) | (with_reducible refine Sl.gate rfl ?_; (go_step)))
                        go_roundw
                        case rel => exact ⟨i + 1, by omega, by go_num, St.weaken hS3 hst.drop⟩
                        case measure => simp [intOf]; omega
                      | false =>
                        have hcl := hor.resolve_left (of_decide_eq_false g6)
                        rw [hcl] at cX
                        refine v_begin hst (by kernel_rfl) ?_; clear hst; intro ops; (try refine nY ?_)
                        (refine t_qt 0 rfl (by kernel_rfl) rfl rfl (qt_loadD evX BoxIn.h inX inX) ?_) <;> (try refine nY ?_)
                        ((refine t_ex0 1 rfl (by kernel_rfl) rfl rfl (qt_fieldp evX hpp inX inX rfl ) ?_; rintro  v1 hp1)) <;> (try refine nY ?_)
                        ((refine t_ex0 2 rfl (by kernel_rfl) rfl rfl (qt_ldp_int evX hp1 inX ) ?_; rintro  v2 ⟨rfl, hI2⟩)) <;> (try refine nY ?_)
                        (refine t_qt 3 rfl (by kernel_rfl) rfl rfl (by exact qt_move evX) ?_) <;> (try refine nY ?_)
                        ((refine t_ex0 4 rfl (by kernel_rfl) rfl rfl (qt_fieldp evX hpp inX inX rfl ) ?_; rintro  v4 hp4)) <;> (try refine nY ?_)
                        ((refine t_ex0 5 rfl (by kernel_rfl) rfl rfl (qt_ldp_int evX hp4 inX ) ?_; rintro  v5 ⟨rfl, hI5⟩)) <;> (try refine nY ?_)
                        ((refine t_ex0 6 rfl (by kernel_rfl) rfl rfl (qt_index evX hvl rfl inX inX omX omX ) ?_; rintro  v6 hp6)) <;> (try refine nY ?_)
                        ((refine t_ex0 7 rfl (by kernel_rfl) rfl rfl (qt_ldp_int evX hp6 inX ) ?_; rintro  v7 ⟨rfl, hI7⟩)) <;> (try refine nY ?_)
                        (refine t_call 8 rfl (by kernel_rfl) rfl (fun S' M' w hS hM hst => cP w hS hst) inX rfl ?_) <;> (try refine nY ?_)
                        (refine t_qt 9 rfl (by kernel_rfl) rfl rfl (qt_neqK_b rfl rfl (r_dg lL) (r_dg lR) inX inX inferInstance g6) ?_) <;> (try refine nY ?_)
                        (refine t_qt 10 rfl (by kernel_rfl) rfl rfl (by exact qt_move evX) ?_) <;> (try refine nY ?_)
                        (refine t_qt 11 rfl (by kernel_rfl) rfl rfl (by exact qt_move evX) ?_) <;> (try refine nY ?_)
                        (((refine t_ex0 13 rfl (by kernel_rfl) rfl rfl (qt_fieldp evX hpp inX inX rfl ) ?_; rintro  v13 hp13))) <;> (try refine nY ?_)
                        (((refine t_ex0 14 rfl (by kernel_rfl) rfl rfl (qt_ldp_int evX hp13 inX ) ?_; rintro  v14 ⟨rfl, hI14⟩))) <;> (try refine nY ?_)
                        ((refine t_qt 15 rfl (by kernel_rfl) rfl rfl (qt_loadD evX BoxIn.h inX inX) ?_)) <;> (try refine nY ?_)
                        (((refine t_ex0 16 rfl (by kernel_rfl) rfl rfl (qt_fieldp evX hpp inX inX rfl ) ?_; rintro  v16 hp16))) <;> (try refine nY ?_)
                        (((refine t_ex0 17 rfl (by kernel_rfl) rfl rfl (qt_ldp_list evX hp16 inX ) ?_; rintro  v17 ⟨hv17, hv171⟩))) <;> (try refine nY ?_)
                        refine v_one 12 rfl (by kernel_rfl) ?_; intro w hst K hK; refine Sl.guard_yes rfl ?_; refine s_call (refLeaves_f w hst _ _ hvl e2) inX rfl ?_; clear hst; rintro v12 w ⟨T12, hT12, hv12, hv121, hst⟩; (try refine nY ?_); (try replace hst := nH hst); refine v_next hK hst hT12 (Suf.refl _) ?_; clear hst hK K; (try clear w); (try refine nY ?_)
                        ((refine t_call 18 rfl (by kernel_rfl) rfl (fun S' M' w hS hM hst => cX w (hT12.trans hS) hst v12 (hv12.mono hS) v17 (hv17.mono (hT12.trans hS))) inX rfl ?_)) <;> (try refine nY ?_)
                        (refine t_qt 19 rfl (by kernel_rfl) rfl rfl (by exact qt_not rfl) ?_) <;> (try refine nY ?_)
                        (refine t_qt 20 rfl (by kernel_rfl) rfl rfl (by exact qt_pick_t rfl evX) ?_) <;> (try refine nY ?_)
                        refine v_done (by kernel_rfl) ?_; clear ops; intro w hst
                        repeat' (first | ((fail_if_success (go_big_may)); (go_step)) | (with_reducible refine Sl.gate rfl ?_; (go_step)))
                        go_roundw
                        case rel => exact ⟨i + 1, by omega, by go_num, St.weaken (hS3.trans hT12) hst.drop⟩
                        case measure => simp [intOf]; omega
                  · repeat' (first | ((fail_if_success (go_big_may)); (go_step)) | ((first | (with_reducible refine Sl.k_load ?_; ((refine s_ex hst (qt_ldp_list evX asX inX) ?_; rintro v ⟨hvl, hv1⟩))) | (with_reducible refine Sl.k_field ?_; (((refine s_ex hst (qt_fieldp evX asX inX inX rfl) ?_); rintro v hp; (try simp only [Int.toNat_natCast, Int.toNat_natCast_add_one, Int.reduceToNat] at hp)))) | (with_reducible refine Sl.k_call ?_; (refine s_qt hst (by exact qt_len evX asX inX) ?_))) <;> (try refine nY ?_)) | (with_reducible refine Sl.gate rfl ?_; (go_step)))
                    go_ret
                    exact ⟨_, rfl, rfl, St.weaken hle hst.drop⟩
end Go.Proofs.YtgihhhdeoaplhaaDoor

/- The statement EvidenceSound. -/
namespace Go.Proofs.YtgihhhdeoaplhaaDoor
set_option linter.unusedSimpArgs false
set_option linter.unusedVariables false
open Go.RowKit Go.Sl Go.ChangeShapes Go.WideShapes Go.ChangeAt

set_option maxRecDepth 20000 in
theorem esound_post (H : Type) (enc : TypeId × Value → H) (W : World) (base : Nat) (args : Array Value) (ds gs : List (DataW H)) (before : List MemPlace)
    (hval : ∀ (j : Nat) t v, Tryd.f6.params[j]? = some t → args[j]? = some v → Value.okWide Tryd.prog W .any base t v)
    (hW : DataW.Whole enc Tryd.prog Tryd.f6.params.toList Rows.evidenceSoundSpec.vars false W args.toList ds gs before) (hk : Rows.uptoSmall H (ds ++ gs) = true) (hL : laidMetH Tryd.prog Rows.evidenceSoundUptoRow.laid W) :
    Calls Tryd.prog 6 args W fun e W' => ∃ v, e = .returned v ∧ Rows.evidenceSoundSpec.post enc Tryd.prog Tryd.f6 false true false false W args v W' := by
  have hW' := hW
  obtain ⟨p, q, hA0, hV, rfl, hfz, hnd⟩ := hW
  have hA : DataW.TrodAll enc Tryd.prog W 0 (fun _ => true) true Tryd.f6.params.toList args.toList ds p := hA0
  have hk := small_all hk
  rw [Tryd.params6] at hA hval
  obtain ⟨v0, vs0, d0, ds0, p0, q0, hargs, rfl, rfl, h0, r0⟩ := trodAll_cons hA
  obtain ⟨v1, vs1, d1, ds1, p1, q1, rfl, rfl, rfl, h1, r1⟩ := trodAll_cons r0
  obtain ⟨v2, vs2, d2, ds2, p2, q2, rfl, rfl, rfl, h2, r2⟩ := trodAll_cons r1
  obtain ⟨rfl, rfl, rfl⟩ := trodAll_nil r2
  obtain rfl : args = #[v0, v1, v2] := by cases args; simp_all
  obtain ⟨rfl, rfl⟩ := trodVars_none hV
  simp only [List.append_nil, Rows.uptoBulkAll] at hk
  obtain ⟨d0, rfl, hd0⟩ := open_dg (hval 0 23 v0 rfl rfl) h0
  obtain ⟨l1, hl1, hm1⟩ := open_evs (hval 1 24 v1 rfl rfl) h1 (by omega)
  obtain ⟨c2, e2, rfl, hR2⟩ := open_evd (hval 2 31 v2 rfl rfl) h2
  refine Calls.mono (esound_c W (St.start W) (glob_of hL) d0 hd0 v1 l1 hl1 hm1 c2 e2 hR2) fun e W' ⟨v, he, hv, hst⟩ => ?_
  subst hv
  exact ⟨_, he, law_post (tb := 4) rfl hW' (by kernel_rfl) (by rw [Tryd.params6]; intro t ht'; have e : t = 23 ∨ t = 24 ∨ t = 31 := (by simpa using ht'); rcases e with rfl | rfl | rfl <;> exact ⟨by kernel_rfl, of_decide_eq_true (by kernel_rfl)⟩) (by kernel_rfl) (by kernel_rfl) rfl rfl rfl hst.below⟩

abbrev esound_args : Array Value := #[.agg #[.int .u8 0, .int .u8 0, .int .u8 0, .int .u8 0, .int .u8 0, .int .u8 0, .int .u8 0, .int .u8 0, .int .u8 0, .int .u8 0, .int .u8 0, .int .u8 0, .int .u8 0, .int .u8 0, .int .u8 0, .int .u8 0], .slice none 0 0, .agg #[.int .u8 0, .int .u8 0, .int .u8 0, .int .u8 0, .int .u8 0, .int .u8 0, .int .u8 0, .int .u8 0, .int .u8 0, .int .u8 0, .int .u8 0, .int .u8 0, .int .u8 0, .int .u8 0, .int .u8 0, .int .u8 0, .slice none 0 0, .slice none 0 0]]
theorem esound_met (os : Os) : laidMet Tryd.prog Rows.evidenceSoundUptoRow.laid ((laidWorld os #[]).forCall (fun _ _ => 0) ⟨#[], esound_args, []⟩).memory :=
  laidMet_of_run' 8 (by kernel_rfl) (by kernel_rfl)
theorem esound_reads (os : Os) {H : Type} (enc : TypeId × Value → H) : ∃ places, DataW.whole enc Tryd.prog ((laidWorld os #[]).forCall (fun _ _ => 0) ⟨#[], esound_args, []⟩).memory Tryd.f6.params.toList Rows.evidenceSoundSpec.vars false esound_args.toList 8 = some ([.agg [.lit (.int .u8 0), .lit (.int .u8 0), .lit (.int .u8 0), .lit (.int .u8 0), .lit (.int .u8 0), .lit (.int .u8 0), .lit (.int .u8 0), .lit (.int .u8 0), .lit (.int .u8 0), .lit (.int .u8 0), .lit (.int .u8 0), .lit (.int .u8 0), .lit (.int .u8 0), .lit (.int .u8 0), .lit (.int .u8 0), .lit (.int .u8 0)], .nil, .agg [.agg [.lit (.int .u8 0), .lit (.int .u8 0), .lit (.int .u8 0), .lit (.int .u8 0), .lit (.int .u8 0), .lit (.int .u8 0), .lit (.int .u8 0), .lit (.int .u8 0), .lit (.int .u8 0), .lit (.int .u8 0), .lit (.int .u8 0), .lit (.int .u8 0), .lit (.int .u8 0), .lit (.int .u8 0), .lit (.int .u8 0), .lit (.int .u8 0)], .nil, .nil]], [], places) :=
  ⟨[], by kernel_rfl⟩

set_option maxRecDepth 100000 in
theorem esound_lifted (os : Os) (started : os.Started) (H : Type) (enc : TypeId × Value → H) (F : Stop.Interp) :
    ReturnsInHanded {} Tryd.checked os 6 .any ((Rows.OpenSpec.upto Rows.evidenceSoundSpec).preRow enc Tryd.prog Tryd.f6 Rows.evidenceSoundUptoRow.domain false Rows.evidenceSoundUptoRow.laid) (((Rows.OpenSpec.upto Rows.evidenceSoundSpec).at F).post enc Tryd.prog Tryd.f6 false true false false) := by
  obtain ⟨places, hx⟩ := esound_reads os enc
  refine returnsInHanded_of_row (C := Tryd.checked) (s := Rows.OpenSpec.upto Rows.evidenceSoundSpec) own started (by kernel_rfl) Tryd.func6
    (witness_row_at (enc := enc) (C := Tryd.checked) false (laidWorld os #[]) esound_args rfl (by kernel_rfl) (by kernel_rfl) (by kernel_rfl)
      (OpenSpec.preRow_of_cond 8 hx (by kernel_rfl) (fun k hk => by cases hk; kernel_rfl) (by kernel_rfl) (esound_met os))) ?_
  intro W base args ds gs before hval hW _ hc _ hL _ _
  exact esound_post H enc W base args ds gs before hval hW (hc _ rfl) hL

theorem esound_said : Rows.EvidenceSoundUptoSaid :=
  OpenClaim.holds_of_cond 6 Tryd.f6 rfl rfl rfl rfl rfl rfl rfl ⟨rfl, rfl, rfl, rfl, rfl⟩ rfl rfl rfl rfl rfl (by kernel_rfl) Tryd.func6 (by kernel_rfl)
    (of_decide_eq_true (by kernel_rfl)) (by unfold Func.isWrapper; first | (rw [if_pos (by decide +kernel)]; kernel_rfl) | (rw [if_neg (by decide +kernel)]; exact ⟨rfl, rfl⟩))
    (fun os started H enc _ F => by rw [OpenClaim.pre_eq_preRow]; exact esound_lifted os started H enc F)

theorem esound_plain (f : FuncId) (fn : Func) (hf : Tryd.pinned.checked.prog.funcNamed "bootchain/bootchainlaw21.EvidenceSound" = some f) (hfn : Tryd.pinned.checked.prog.funcs[f]? = some fn) :
    false = Tryd.pinned.checked.prog.looks [] ∧ ∀ (j : Nat) t, fn.params[j]? = some t → Tryd.pinned.checked.prog.wantsStandIn t = false := by
  obtain rfl : f = 6 := Option.some.inj ((show Tryd.prog.funcNamed "bootchain/bootchainlaw21.EvidenceSound" = some 6 by kernel_rfl).symm.trans hf) |>.symm
  obtain rfl : fn = Tryd.f6 := (Option.some.inj (Tryd.func6.symm.trans hfn)).symm
  refine ⟨by kernel_rfl, fun j t ht => ?_⟩
  rw [Tryd.params6] at ht
  have e : t = 23 ∨ t = 24 ∨ t = 31 := by simpa using Array.mem_of_getElem? ht
  rcases e with rfl | rfl | rfl
  · exact (show Tryd.prog.wantsStandIn 23 = false by kernel_rfl)
  · exact (show Tryd.prog.wantsStandIn 24 = false by kernel_rfl)
  · exact (show Tryd.prog.wantsStandIn 31 = false by kernel_rfl)

theorem esound_proved : Rows.EvidenceSoundUptoCardSaid :=
  Claim7.holds_tied_plain_at .later [] _ _ _ _ esound_said (fun _ h => by cases h) (by kernel_rfl) (fun _ h => by cases h) evidenceSoundUpto_row_tie rfl ⟨rfl, rfl⟩ (by kernel_rfl) rfl esound_plain (by kernel_rfl)
end Go.Proofs.YtgihhhdeoaplhaaDoor
