/- The statement EvidenceMake. -/
import Derived.Test.YtgihhhdeoaplhaaDoorBb
import Derived.Test.YtgihhhdeoaplhaaDoorBg
import Derived.Test.YtgihhhdeoaplhaaDoorBj
import Derived.Test.YtgihhhdeoaplhaaDoorBi
import Derived.Test.YtgihhhdeoaplhaaDoorBf

/- Package evidence: the reference's Make, walked. -/
--@u32
--@hgp
--@flat
--@dg
--@ex0
namespace Go.Proofs.YtgihhhdeoaplhaaDoor
set_option linter.unusedSimpArgs false
set_option linter.unusedVariables false
open Go.RowKit Go.Sl

instance key_prE : Key Tryd.prog 58 (Int × Int) 2 := key_pair inferInstance (by kernel_rfl) (by kernel_rfl) (by decide)
instance eqt_prE : EqTy Tryd.prog 58 := ⟨by kernel_rfl, by kernel_rfl, by kernel_rfl⟩
theorem refProve_f {S M} (w : World) (hst : St S M w) (hG : Glob S) (vl : Value) (l : List Dg) (hl : RSl S vl l) (i : Int) (h0 : 0 ≤ i) (hi : i < l.length) (hm : l.length ≤ 1000) :
    Rets Tryd.prog 32 [vl, .int .i64 i] w fun v w' => ∃ u, v = .tuple #[u, .int .i64 0] ∧ Fz Dg S M (proofM l i.toNat) u w' := by
  obtain ⟨i, rfl⟩ := Int.eq_ofNat_of_zero_le h0
  refine (refProve_c l.length w hst hG vl l hl i (by omega) (Nat.le_refl _) hm).mono fun v w' ⟨u, hv, h⟩ => ⟨u, hv, ?_⟩
  have h1 := sl_one h
  obtain ⟨S2, hS2, hst, hu⟩ := St.freeze (α := Dg) h (rl_digs (proofM_len _ _)) rfl
  exact ⟨S2, hS2, hu, h1, hst⟩
theorem bfR_mem {rv : List (Int × Int)} {j k : Nat} (hj : j < k) (hk : k < rv.length) (h : rv[j]'(by omega) = rv[k]) : rv[k] ∈ bfR rv k := by
  unfold bfR
  rw [List.mem_reverse, ← h]
  exact List.mem_take_iff_getElem.2 ⟨j, by omega, rfl⟩
theorem tk_snoc {rv : List (Int × Int)} {j : Nat} {q : Int × Int} (hj : j < rv.length) (h : q ∉ rv.take j) (hn : rv[j] ≠ q) : q ∉ rv.take (j + 1) := by
  rw [List.take_succ_eq_append_getElem hj, List.mem_append]
  rintro (h1 | h1)
  · exact h h1
  · exact hn (List.mem_singleton.1 h1).symm

set_option maxRecDepth 20000 in
set_option maxHeartbeats 4000000 in
theorem refMake_c {S M} (w : World) (hst : St S M w) (hG : Glob S) (m : Dg) (hm : m.l.length = 16) (vl : Value) (log : List Ev) (hl : RSl S vl log) (hlen : log.length ≤ 1000) (hok : ∀ e ∈ log, evOk e) (vr : Value) (rv : List (Int × Int)) (hr : RSl S vr rv) (hrl : rv.length ≤ 1048576) :
    Rets Tryd.prog 12 [dgV m, vl, vr] w fun v w' => makeP S M m log rv v w' := by
  unfold Rets
  have hl1 := hl.oneCell
  have hr1 := hr.oneCell
  obtain ⟨a0, a1, a2, a3, a4, a5, a6, a7, a8, a9, c0, c1, c2, c3, c4, c5, rfl⟩ := dg16 hm
  go_enter Tryd.func12, Tryd.ntmps12
  repeat' (first | (((with_reducible (refine Sl.k_build ?_; with_unfolding_all refine s_qt hst (qt_buildS (cs := [.int .u8 a0.toNat, .int .u8 a1.toNat, .int .u8 a2.toNat, .int .u8 a3.toNat, .int .u8 a4.toNat, .int .u8 a5.toNat, .int .u8 a6.toNat, .int .u8 a7.toNat, .int .u8 a8.toNat, .int .u8 a9.toNat, .int .u8 c0.toNat, .int .u8 c1.toNat, .int .u8 c2.toNat, .int .u8 c3.toNat, .int .u8 c4.toNat, .int .u8 c5.toNat, .slice none 0 0, .slice none 0 0]) inX inX (by kernel_rfl)) ?_))) <;> (try refine nY ?_)) | ((fail_if_success (go_big_may)); (go_step)) | (((with_reducible refine Sl.k_load ?_; (refine s_qt hst (by exact qt_loadA evX BoxIn.h inX rfX) ?_))) <;> (try refine nY ?_)) | ((((first | (with_reducible refine Sl.k_store ?_; (refine s_store hst rfl _ BoxIn.h inX evX rfl lenOk oneOk (by simp) ?_); clear hst; intro w hst) | (refine s_box hst evX rfl ?_; clear hst; intro bx w hst) | (refine s_alloc hst inX ?_; clear hst; intro bk w hst)))) <;> (try refine nY ?_) <;> (try replace hst := nH hst)))
  rename Nat => n8
  have hst := hst.nil 44 66
  go_loopw [9] (fun v wr => ∃ (k : Nat) (u : Value), k ≤ log.length ∧ v = .int .i64 k ∧ u.oneCell' = true ∧ St S (.sl u 44 66 k (cF hdC ((log.take k).map headM)) :: .box n8 (evB a0 a1 a2 a3 a4 a5 a6 a7 a8 a9 c0 c1 c2 c3 c4 c5 u (.slice none 0 0)) 31 :: .box bk evZ 31 :: .box bx (u8s [a0, a1, a2, a3, a4, a5, a6, a7, a8, a9, c0, c1, c2, c3, c4, c5]) 23 :: M) wr) (fun v _ => log.length - (intOf v).toNat)
  case atStart => exact ⟨0, _, Nat.zero_le _, rfl, rfl, hst⟩
  case round =>
    clear hst
    obtain ⟨k, u, hk, rfl, hu1, hst⟩ := hrel
    by_cases hlt : k < log.length
    · obtain ⟨e1, e2, e3⟩ := hok _ (List.getElem_mem hlt)
      have hsn := Lib.hid (heads_snoc hlt)
      repeat' ((fail_if_success (with_reducible show Code.wp _ (Code.region 5 _ _) _ _ _)); first | ((fail_if_success (go_big_may)); (go_step)) | (((with_reducible refine Sl.k_call ?_; (refine s_qt hst (by exact qt_len evX asX inX) ?_))) <;> (try refine nY ?_)) | (with_reducible refine Sl.gate rfl ?_; (go_step)))
      have okH : HdOk (headM log[k]) := by
        obtain ⟨cs, hR⟩ := rsl_rep hl _ (List.getElem_mem hlt)
        exact headM_ok hR ⟨e1, e2, e3⟩
      have cH := fun {S : Snap} {M : List Chunk} (w : World) (hst : St S M w) (hG : Glob S) (cs : List Value) (hR : Rep.R S cs log[k]) => rhead_c w hst hG cs log[k] hR e1 e2 e3
      generalize headM log[k] = E at *
      have hl66 := hdC_len okH
      generalize hcs0 : cF hdC ((log.take k).map headM) = cs0 at *
      refine v_begin hst (by kernel_rfl) ?_; clear hst; intro ops; (try refine nY ?_)
      (refine t_qt 0 rfl (by kernel_rfl) rfl rfl (by exact qt_field rfl inX) ?_) <;> (try refine nY ?_)
      (refine t_qt 1 rfl (by kernel_rfl) rfl rfl (by exact qt_load rfl _ BoxIn.h inX rfl rfl) ?_) <;> (try refine nY ?_)
      (refine t_qt 2 rfl (by kernel_rfl) rfl rfl (by exact qt_move evX) ?_) <;> (try refine nY ?_)
      (refine t_qt 3 rfl (by kernel_rfl) rfl rfl (by exact qt_move evX) ?_) <;> (try refine nY ?_)
      ((refine t_ex0 4 rfl (by kernel_rfl) rfl rfl (qt_index evX hl rfl inX inX omX omX ) ?_; rintro  v4 hp4; simp only [Int.toNat_natCast] at hp4)) <;> (try refine nY ?_)
      ((refine t_ex0 5 rfl (by kernel_rfl) rfl rfl (qt_ldp evX hp4 inX ) ?_; rintro  v5 ⟨cl5, rfl, hcl5⟩)) <;> (try refine nY ?_)
      (refine t_call 6 rfl (by kernel_rfl) rfl (fun S' M' w hS hM hst => cH w hst (hG.mono hS) cl5 (Rep.mono hS hcl5)) inX rfl ?_) <;> (try refine nY ?_)
      refine v_one 7 rfl (by kernel_rfl) ?_; intro w hst K hK; refine s_lit (vs := [hdV E]) (cs := hdC E) hst inX inX rfl rfl (by simp [Value.cells, hl66]) (by simp [Value.cells]) (by omega) (by omega) ?_; clear hst; intro x7 w hst; (try refine nY ?_); (try replace hst := nH hst); refine v_next hK hst (Snap.Le.refl _) (Suf.cons (Suf.refl _)) ?_; clear hst hK K; (try clear w); (try refine nY ?_)
      refine v_one 8 rfl (by kernel_rfl) ?_; intro w hst K hK; refine s_append (j := 0) hst evX evX SlIn.h rfl inX inX inX (Rep.one (S := S) (r_hd okH)) (by omega) (by omega) (by decide) ?_; clear hst; intro x8 w hst; (try refine nY ?_); (try replace hst := nH hst); replace hst := hst.drop; have hone8 := sl_one hst; refine v_last hK hst ?_; clear hst hK K; (try clear w); (try refine nY ?_)
      (refine t_qt 9 rfl (by kernel_rfl) rfl rfl (by exact qt_field rfl inX) ?_) <;> (try refine nY ?_)
      refine v_one 10 rfl (by kernel_rfl) ?_; intro w hst K hK; (refine s_st1 hst rfl BoxIn.h evX asX inX (by simp <;> omega) ?_); clear hst; intro w hst; (try refine nY ?_); (try replace hst := nH hst); refine v_last hK hst ?_; clear hst hK K; (try clear w); (try refine nY ?_)
      refine v_done (by kernel_rfl) ?_; clear ops; intro w hst
      repeat' (first | ((fail_if_success (go_big_may)); (go_step)) | (with_reducible refine Sl.gate rfl ?_; (go_step)))
      go_roundw
      case rel => exact ⟨k + 1, x8, by omega, by go_num, hone8, by rw [hsn.out, cF_snoc, hcs0]; exact hst⟩
      case measure => simp [intOf]; omega
    · obtain rfl : k = log.length := by omega
      rw [List.take_length] at hst
      repeat' (first | ((fail_if_success (go_big_may)); (go_step)) | (((with_reducible refine Sl.k_call ?_; (refine s_qt hst (by exact qt_len evX asX inX) ?_))) <;> (try refine nY ?_)) | (with_reducible refine Sl.gate rfl ?_; (go_step)))
      have hok2 : ∀ h ∈ log.map headM, HdOk h := fun h hh => by
        obtain ⟨e, he, rfl⟩ := List.mem_map.1 hh
        obtain ⟨cs, hR⟩ := rsl_rep hl e he
        exact headM_ok hR (hok e he)
      obtain ⟨HC, hHC⟩ : ∃ HC, cF hdC (log.map headM) = HC := ⟨_, rfl⟩
      rw [hHC] at hst
      have HHC := Lib.hid hHC
      clear hHC
      have hst := hst.nil 52 4
      go_loopw [10] (fun v wr => ∃ (k : Nat) (T : Snap) (up : Value) (cp : List Value) (ps : List Pn), k ≤ rv.length ∧ v = .int .i64 k ∧ S.Le T ∧ up.oneCell' = true ∧ RL (α := Pn) T cp ps ∧ Hid (ps.length = k) ∧ Hid (mkF log [] rv = (mkF log (bfR rv k) (rv.drop k)).map (ps ++ ·)) ∧ St T (.sl up 52 4 k cp :: .sl u 44 66 log.length HC :: .box n8 (evB a0 a1 a2 a3 a4 a5 a6 a7 a8 a9 c0 c1 c2 c3 c4 c5 u up) 31 :: .box bk evZ 31 :: .box bx (u8s [a0, a1, a2, a3, a4, a5, a6, a7, a8, a9, c0, c1, c2, c3, c4, c5]) 23 :: M) wr) (fun v _ => rv.length - (intOf v).toNat)
      case atStart => exact ⟨0, S, _, [], [], Nat.zero_le _, rfl, Snap.Le.refl _, rfl, RL.nil, Lib.hid rfl, Lib.hid (by simp [bfR]), hst⟩
      case round =>
        clear hst
        obtain ⟨k, T, up, cp, ps, hk, rfl, hST, hup, hRp, hpl3, hmk, hst⟩ := hrel
        replace hl := hl.mono hST
        replace hr := hr.mono hST
        replace hG := hG.mono hST
        by_cases hkl : k < rv.length
        · obtain ⟨hp1, hp2⟩ := pair_ok hr rv[k] (List.getElem_mem hkl)
          have hbad := fun h => Lib.hid (hmk.out.trans (mk_bad hkl (f := (ps ++ ·)) h))
          by_cases hrg : rv[k].1 < 0 ∨ (log.length : Int) ≤ rv[k].1
          · have hE := hbad (.inr hrg)
            repeat' (first | ((first | (with_reducible (refine Sl.k_build ?_; with_unfolding_all refine s_qt hst (qt_buildS (cs := evZ) inX inX (by kernel_rfl)) ?_)) | (with_reducible refine Sl.k_guard ?_; (first | (refine Sl.guard_yes rfl ?_) | (refine Sl.guard_no rfl ?_) | (refine Sl.guard_cases rfl ?_ ?_ <;> intro hg <;> (simp only [hg, Bool.not_true, Bool.not_false])) <;> (try simp only [decide_eq_true_eq, decide_eq_false_iff_not, Bool.not_false, Bool.not_true, beq_iff_eq, beq_eq_false_iff_ne, bne_iff_ne, bne_eq_false_iff_eq, ne_eq] at hg)))) <;> (try refine nY ?_)) | ((fail_if_success (go_big_may)); (go_step)) | ((first | (with_reducible refine Sl.k_load ?_; ((refine s_ex hst (qt_ldp_int evX asX inX) ?_; rintro v ⟨rfl, hI⟩))) | (with_reducible refine Sl.k_index ?_; (((first | refine s_ex hst (qt_indexP0 evX asX rfl inX inX) ?_ | refine s_ex hst (qt_indexP1 evX asX rfl inX inX) ?_ | refine s_ex hst (qt_index evX asX rfl inX inX omX omX) ?_); rintro v hp; (try simp only [Int.toNat_natCast, Int.toNat_natCast_add_one, Int.reduceToNat] at hp)))) | (with_reducible refine Sl.k_call ?_; (refine s_qt hst (by exact qt_len evX asX inX) ?_))) <;> (try refine nY ?_)) | (with_reducible refine Sl.gate rfl ?_; (go_step)) | (((((with_reducible refine Sl.k_store ?_; (refine s_store hst rfl _ BoxIn.h inX evX rfl lenOk oneOk (by simp) ?_); clear hst; intro w hst)))) <;> (try refine nY ?_) <;> (try replace hst := nH hst)))
            all_goals first
              | (refine ret_two rfl (rv_cell hst rfl _ BoxIn.h inX rfl rfl) (rv_tmp rfl) ?_
                 exact ⟨_, rfl, S, Snap.Le.refl _, St.weaken hST hst.drop.drop.drop.drop.drop, by rw [hE.out]; rfl⟩)
              | (exfalso; omega)
          · have hr1 : 0 ≤ rv[k].1 ∧ rv[k].1 < log.length := by omega
            have hjl : rv[k].1.toNat < log.length := by omega
            have hee := List.getElem?_eq_getElem hjl
            obtain ⟨e1, e2, e3⟩ := hok _ (List.getElem_mem hjl)
            have hix := fun h => Lib.hid (hmk.out.trans (mk_ix hkl (f := (ps ++ ·)) hee h))
            by_cases hrk : rv[k].2 < 0 ∨ (log[rv[k].1.toNat].2.2.1.length : Int) ≤ rv[k].2
            · have hE := hix hrk
              repeat' (first | ((first | (with_reducible (refine Sl.k_build ?_; with_unfolding_all refine s_qt hst (qt_buildS (cs := evZ) inX inX (by kernel_rfl)) ?_)) | (with_reducible refine Sl.k_guard ?_; (first | (refine Sl.guard_yes rfl ?_) | (refine Sl.guard_no rfl ?_) | (refine Sl.guard_cases rfl ?_ ?_ <;> intro hg <;> first | (exfalso; simp only [decide_eq_true_eq, decide_eq_false_iff_not, Bool.not_false, Bool.not_true, beq_iff_eq, beq_eq_false_iff_ne, ne_eq] at hg; omega) | (simp only [hg, Bool.not_true, Bool.not_false])) <;> (try simp only [decide_eq_true_eq, decide_eq_false_iff_not, Bool.not_false, Bool.not_true, beq_iff_eq, beq_eq_false_iff_ne, bne_iff_ne, bne_eq_false_iff_eq, ne_eq] at hg)))) <;> (try refine nY ?_)) | ((fail_if_success (go_big_may)); (go_step)) | ((first | (with_reducible refine Sl.k_load ?_; (first | (refine s_ex hst (qt_ldp_int evX asX inX) ?_; rintro v ⟨rfl, hI⟩) | (refine s_ex hst (qt_ldp_list evX asX inX) ?_; rintro v ⟨hvl, hv1⟩))) | (with_reducible refine Sl.k_field ?_; (((refine s_ex hst (qt_fieldp evX asX inX inX rfl) ?_); rintro v hp; (try simp only [Int.toNat_natCast, Int.toNat_natCast_add_one, Int.reduceToNat] at hp)))) | (with_reducible refine Sl.k_index ?_; (((first | refine s_ex hst (qt_indexP0 evX asX rfl inX inX) ?_ | refine s_ex hst (qt_indexP1 evX asX rfl inX inX) ?_ | refine s_ex hst (qt_index evX asX rfl inX inX omX omX) ?_); rintro v hp; (try simp only [Int.toNat_natCast, Int.toNat_natCast_add_one, Int.reduceToNat] at hp)))) | (with_reducible refine Sl.k_call ?_; (refine s_qt hst (by exact qt_len evX asX inX) ?_))) <;> (try refine nY ?_)) | (with_reducible refine Sl.gate rfl ?_; (go_step)) | (((((with_reducible refine Sl.k_store ?_; (refine s_store hst rfl _ BoxIn.h inX evX rfl lenOk oneOk (by simp) ?_); clear hst; intro w hst)))) <;> (try refine nY ?_) <;> (try replace hst := nH hst)))
              all_goals first
                | (refine ret_two rfl (rv_cell hst rfl _ BoxIn.h inX rfl rfl) (rv_tmp rfl) ?_
                   exact ⟨_, rfl, S, Snap.Le.refl _, St.weaken hST hst.drop.drop.drop.drop.drop, by rw [hE.out]; rfl⟩)
                | (exfalso; omega)
            · have hr2 : 0 ≤ rv[k].2 ∧ rv[k].2 < log[rv[k].1.toNat].2.2.1.length := by omega
              repeat' (first | (((with_reducible refine Sl.k_guard ?_; (first | (refine Sl.guard_yes rfl ?_) | (refine Sl.guard_cases rfl ?_ ?_ <;> intro hg <;> first | (exfalso; simp only [decide_eq_true_eq, decide_eq_false_iff_not, Bool.not_false, Bool.not_true, beq_iff_eq, beq_eq_false_iff_ne, ne_eq] at hg; omega) | (simp only [hg, Bool.not_true, Bool.not_false])) <;> (try simp only [decide_eq_true_eq, decide_eq_false_iff_not, Bool.not_false, Bool.not_true, beq_iff_eq, beq_eq_false_iff_ne, bne_iff_ne, bne_eq_false_iff_eq, ne_eq] at hg)))) <;> (try refine nY ?_)) | ((fail_if_success (go_big_may)); (go_step)) | ((first | (with_reducible refine Sl.k_load ?_; (first | (refine s_ex hst (qt_ldp_int evX asX inX) ?_; rintro v ⟨rfl, hI⟩) | (refine s_ex hst (qt_ldp_list evX asX inX) ?_; rintro v ⟨hvl, hv1⟩))) | (with_reducible refine Sl.k_field ?_; (((refine s_ex hst (qt_fieldp evX asX inX inX rfl) ?_); rintro v hp; (try simp only [Int.toNat_natCast, Int.toNat_natCast_add_one, Int.reduceToNat] at hp)))) | (with_reducible refine Sl.k_index ?_; (((first | refine s_ex hst (qt_indexP0 evX asX rfl inX inX) ?_ | refine s_ex hst (qt_indexP1 evX asX rfl inX inX) ?_ | refine s_ex hst (qt_index evX asX rfl inX inX omX omX) ?_); rintro v hp; (try simp only [Int.toNat_natCast, Int.toNat_natCast_add_one, Int.reduceToNat] at hp)))) | (with_reducible refine Sl.k_call ?_; (refine s_qt hst (by exact qt_len evX asX inX) ?_))) <;> (try refine nY ?_)) | (with_reducible refine Sl.gate rfl ?_; (go_step)))
              go_loopw [13] (fun v wr => ∃ j : Nat, j ≤ k ∧ v = .int .i64 j ∧ Hid (rv[k] ∉ rv.take j) ∧ St T (.sl up 52 4 k cp :: .sl u 44 66 log.length HC :: .box n8 (evB a0 a1 a2 a3 a4 a5 a6 a7 a8 a9 c0 c1 c2 c3 c4 c5 u up) 31 :: .box bk evZ 31 :: .box bx (u8s [a0, a1, a2, a3, a4, a5, a6, a7, a8, a9, c0, c1, c2, c3, c4, c5]) 23 :: M) wr) (fun v _ => k - (intOf v).toNat)
              case atStart => exact ⟨0, Nat.zero_le _, rfl, Lib.hid (by simp), hst⟩
              case round =>
                clear hst
                obtain ⟨j, hj, rfl, hnj, hst⟩ := hrel
                by_cases hjk : j < k
                · have hjn : j < rv.length := by omega
                  obtain ⟨y, hy⟩ : ∃ y, decide (rv[j] = rv[k]) = y := ⟨_, rfl⟩
                  cases y with
                  | false =>
                    repeat' ((fail_if_success (with_reducible show Code.wp _ (Code.region 18 _ _) _ _ _)); first | ((fail_if_success (go_big_may)); (go_step)) | (with_reducible refine Sl.gate rfl ?_; (go_step)))
                    refine v_begin hst (by kernel_rfl) ?_; clear hst; intro ops; (try refine nY ?_)
                    (refine t_qt 0 rfl (by kernel_rfl) rfl rfl (by exact qt_move evX) ?_) <;> (try refine nY ?_)
                    (refine t_qt 1 rfl (by kernel_rfl) rfl rfl (by exact qt_move evX) ?_) <;> (try refine nY ?_)
                    ((refine t_ex0 2 rfl (by kernel_rfl) rfl rfl (qt_index evX hr rfl inX inX omX omX ) ?_; rintro  v2 hp2; simp only [Int.toNat_natCast] at hp2)) <;> (try refine nY ?_)
                    ((refine t_ex0 3 rfl (by kernel_rfl) rfl rfl (qt_ldp evX hp2 inX ) ?_; rintro  v3 ⟨cl3, rfl, hcl3⟩)) <;> (try refine nY ?_)
                    (refine t_qt 4 rfl (by kernel_rfl) rfl rfl (by exact qt_move evX) ?_) <;> (try refine nY ?_)
                    (refine t_qt 5 rfl (by kernel_rfl) rfl rfl (by exact qt_move evX) ?_) <;> (try refine nY ?_)
                    ((refine t_ex0 6 rfl (by kernel_rfl) rfl rfl (qt_index evX hr rfl inX inX omX omX ) ?_; rintro  v6 hp6; simp only [Int.toNat_natCast] at hp6)) <;> (try refine nY ?_)
                    ((refine t_ex0 7 rfl (by kernel_rfl) rfl rfl (qt_ldp evX hp6 inX ) ?_; rintro  v7 ⟨cl7, rfl, hcl7⟩)) <;> (try refine nY ?_)
                    (refine t_qt 8 rfl (by kernel_rfl) rfl rfl (qt_eqlK_b rfl rfl hcl3 hcl7 inX inX inferInstance hy) ?_) <;> (try refine nY ?_)
                    refine v_done (by kernel_rfl) ?_; clear ops; intro w hst
                    repeat' (first | ((fail_if_success (go_big_may)); (go_step)) | (with_reducible refine Sl.gate rfl ?_; (go_step)))
                    go_roundw
                    case rel => exact ⟨j + 1, by omega, by go_num, Lib.hid (tk_snoc hjn hnj.out (of_decide_eq_false hy)), hst⟩
                    case measure => simp [intOf]; omega
                  | true =>
                    have hE := hbad (.inl (bfR_mem hjk hkl (of_decide_eq_true hy)))
                    repeat' ((fail_if_success (with_reducible show Code.wp _ (Code.region 18 _ _) _ _ _)); first | ((fail_if_success (go_big_may)); (go_step)) | (with_reducible refine Sl.gate rfl ?_; (go_step)))
                    refine v_begin hst (by kernel_rfl) ?_; clear hst; intro ops; (try refine nY ?_)
                    (refine t_qt 0 rfl (by kernel_rfl) rfl rfl (by exact qt_move evX) ?_) <;> (try refine nY ?_)
                    (refine t_qt 1 rfl (by kernel_rfl) rfl rfl (by exact qt_move evX) ?_) <;> (try refine nY ?_)
                    ((refine t_ex0 2 rfl (by kernel_rfl) rfl rfl (qt_index evX hr rfl inX inX omX omX ) ?_; rintro  v2 hp2; simp only [Int.toNat_natCast] at hp2)) <;> (try refine nY ?_)
                    ((refine t_ex0 3 rfl (by kernel_rfl) rfl rfl (qt_ldp evX hp2 inX ) ?_; rintro  v3 ⟨cl3, rfl, hcl3⟩)) <;> (try refine nY ?_)
                    (refine t_qt 4 rfl (by kernel_rfl) rfl rfl (by exact qt_move evX) ?_) <;> (try refine nY ?_)
                    (refine t_qt 5 rfl (by kernel_rfl) rfl rfl (by exact qt_move evX) ?_) <;> (try refine nY ?_)
                    ((refine t_ex0 6 rfl (by kernel_rfl) rfl rfl (qt_index evX hr rfl inX inX omX omX ) ?_; rintro  v6 hp6; simp only [Int.toNat_natCast] at hp6)) <;> (try refine nY ?_)
                    ((refine t_ex0 7 rfl (by kernel_rfl) rfl rfl (qt_ldp evX hp6 inX ) ?_; rintro  v7 ⟨cl7, rfl, hcl7⟩)) <;> (try refine nY ?_)
                    (refine t_qt 8 rfl (by kernel_rfl) rfl rfl (qt_eqlK_b rfl rfl hcl3 hcl7 inX inX inferInstance hy) ?_) <;> (try refine nY ?_)
                    refine v_done (by kernel_rfl) ?_; clear ops; intro w hst
                    repeat' (first | (((with_reducible (refine Sl.k_build ?_; with_unfolding_all refine s_qt hst (qt_buildS (cs := evZ) inX inX (by kernel_rfl)) ?_))) <;> (try refine nY ?_)) | ((fail_if_success (go_big_may)); (go_step)) | (((((with_reducible refine Sl.k_store ?_; (refine s_store hst rfl _ BoxIn.h inX evX rfl lenOk oneOk (by simp) ?_); clear hst; intro w hst)))) <;> (try refine nY ?_) <;> (try replace hst := nH hst)))
                    refine ret_two rfl (rv_cell hst rfl _ BoxIn.h inX rfl rfl) (rv_tmp rfl) ?_
                    exact ⟨_, rfl, S, Snap.Le.refl _, St.weaken hST hst.drop.drop.drop.drop.drop, by rw [hE.out]; rfl⟩
                · obtain rfl : k = j := by omega
                  have hnew : rv[k] ∉ bfR rv k := fun h => hnj.out (List.mem_reverse.1 h)
                  have hgo := Lib.hid (hmk.out.trans (mk_go hkl hee hnew (by omega) (by omega) hr2.1 hr2.2))
                  have hlv : (leavesP leafP log[rv[k].1.toNat].2.2.1).length = log[rv[k].1.toNat].2.2.1.length := leavesP_len _ _
                  have hlv1 : rv[k].2 < (leavesP leafP log[rv[k].1.toNat].2.2.1).length := by rw [hlv]; exact hr2.2
                  have hlv2 : (leavesP leafP log[rv[k].1.toNat].2.2.1).length ≤ 1000 := by rw [hlv]; exact e2
                  clear hlv
                  repeat' ((fail_if_success (with_reducible show Code.wp _ (Code.region 21 _ _) _ _ _)); first | (((with_reducible refine Sl.k_call ?_; (first | (refine s_call (refLeaves_f _ hst _ log[rv[k].1.toNat].2.2.1 (by with_unfolding_all assumption) e2) inX rfl ?_; clear hst; rintro v w ⟨T5, hT5, hv5, hv51, hst⟩) | (refine s_call (refProve_f _ hst (hG.mono hT5) _ _ hv5 rv[k].2 hr2.1 hlv1 hlv2) inX rfl ?_; clear hst; rintro v w ⟨uq, rfl, T8, hT8, hv8, hv81, hst⟩)))) <;> (try refine nY ?_) <;> (try replace hst := nH hst)) | ((fail_if_success (go_big_may)); (go_step)) | ((first | (with_reducible refine Sl.k_load ?_; ((refine s_ex hst (qt_ldp_list evX asX inX) ?_; rintro v ⟨hvl, hv1⟩))) | (with_reducible refine Sl.k_field ?_; (((refine s_ex hst (qt_fieldp evX asX inX inX rfl) ?_); rintro v hp; (try simp only [Int.toNat_natCast, Int.toNat_natCast_add_one, Int.reduceToNat] at hp)))) | (with_reducible refine Sl.k_index ?_; (((refine s_ex hst (qt_index evX asX rfl inX inX omX omX) ?_); rintro v hp; (try simp only [Int.toNat_natCast, Int.toNat_natCast_add_one, Int.reduceToNat] at hp))))) <;> (try refine nY ?_)) | (with_reducible refine Sl.gate rfl ?_; (go_step)))
                  obtain ⟨qa, qn, qc, rfl⟩ := rsl_formE hv8
                  have htl : rv[k].2.toNat < log[rv[k].1.toNat].2.2.1.length := by omega
                  have hT := hT5.trans hT8
                  replace hl := hl.mono hT
                  refine v_begin hst (by kernel_rfl) ?_; clear hst; intro ops; (try refine nY ?_)
                  (refine t_qt 0 rfl (by kernel_rfl) rfl rfl (by exact qt_field rfl inX) ?_) <;> (try refine nY ?_)
                  (refine t_qt 1 rfl (by kernel_rfl) rfl rfl (by exact qt_load rfl _ BoxIn.h inX rfl rfl) ?_) <;> (try refine nY ?_)
                  (refine t_qt 2 rfl (by kernel_rfl) rfl rfl (by exact qt_move evX) ?_) <;> (try refine nY ?_)
                  (refine t_qt 3 rfl (by kernel_rfl) rfl rfl (by exact qt_move evX) ?_) <;> (try refine nY ?_)
                  (refine t_qt 4 rfl (by kernel_rfl) rfl rfl (by exact qt_move evX) ?_) <;> (try refine nY ?_)
                  (refine t_qt 5 rfl (by kernel_rfl) rfl rfl (by exact qt_move evX) ?_) <;> (try refine nY ?_)
                  ((refine t_ex0 6 rfl (by kernel_rfl) rfl rfl (qt_index evX hl rfl inX inX omX omX ) ?_; rintro  v6 hp6)) <;> (try refine nY ?_)
                  ((refine t_ex0 7 rfl (by kernel_rfl) rfl rfl (qt_fieldp evX hp6 inX inX rfl ) ?_; rintro  v7 hp7)) <;> (try refine nY ?_)
                  ((refine t_ex0 8 rfl (by kernel_rfl) rfl rfl (qt_ldp_list evX hp7 inX ) ?_; rintro  v8 ⟨hv8', hv81'⟩)) <;> (try refine nY ?_)
                  (refine t_qt 9 rfl (by kernel_rfl) rfl rfl (by exact qt_move evX) ?_) <;> (try refine nY ?_)
                  ((refine t_ex0 10 rfl (by kernel_rfl) rfl rfl (qt_index evX hv8' rfl inX inX omX omX ) ?_; rintro  v10 hp10)) <;> (try refine nY ?_)
                  ((refine t_ex0 11 rfl (by kernel_rfl) rfl rfl (qt_ldp_int evX hp10 inX ) ?_; rintro  v11 ⟨rfl, hI11⟩)) <;> (try refine nY ?_)
                  (refine t_qt 12 rfl (by kernel_rfl) rfl rfl (by exact qt_move evX) ?_) <;> (try refine nY ?_)
                  (refine t_qt 13 rfl (by kernel_rfl) rfl rfl (qt_buildS (cs := [.int .i64 rv[k].1, .int .i64 rv[k].2, .int .i64 log[rv[k].1.toNat].2.2.1[rv[k].2.toNat], .slice qa qn qc]) inX inX (by kernel_rfl)) ?_) <;> (try refine nY ?_)
                  refine v_one 14 rfl (by kernel_rfl) ?_; intro w hst K hK; refine s_lit (vs := [.agg #[.int .i64 rv[k].1, .int .i64 rv[k].2, .int .i64 log[rv[k].1.toNat].2.2.1[rv[k].2.toNat], .slice qa qn qc]]) (cs := [.int .i64 rv[k].1, .int .i64 rv[k].2, .int .i64 log[rv[k].1.toNat].2.2.1[rv[k].2.toNat], .slice qa qn qc]) hst inX inX rfl rfl (by simp [Value.cells]) (by simp [Value.cells]) (by omega) (by omega) ?_; clear hst; intro x14 w hst; (try refine nY ?_); (try replace hst := nH hst); refine v_next hK hst (Snap.Le.refl _) (Suf.cons (Suf.refl _)) ?_; clear hst hK K; (try clear w); (try refine nY ?_)
                  refine v_one 15 rfl (by kernel_rfl) ?_; intro w hst K hK; refine s_append (j := 0) hst evX evX SlIn.h rfl inX inX inX ((by intro q hq; simp only [List.mem_cons, List.not_mem_nil, or_false] at hq; rcases hq with rfl | rfl | rfl | rfl <;> rfl)) (by omega) (by omega) (by decide) ?_; clear hst; intro x15 w hst; (try refine nY ?_); (try replace hst := nH hst); replace hst := hst.drop; have hone15 := sl_one hst; refine v_last hK hst ?_; clear hst hK K; (try clear w); (try refine nY ?_)
                  (refine t_qt 16 rfl (by kernel_rfl) rfl rfl (by exact qt_field rfl inX) ?_) <;> (try refine nY ?_)
                  refine v_one 17 rfl (by kernel_rfl) ?_; intro w hst K hK; (refine s_st1 hst rfl BoxIn.h evX asX inX (by simp <;> omega) ?_); clear hst; intro w hst; (try refine nY ?_); (try replace hst := nH hst); refine v_last hK hst ?_; clear hst hK K; (try clear w); (try refine nY ?_)
                  refine v_done (by kernel_rfl) ?_; clear ops; intro w hst
                  repeat' (first | ((fail_if_success (go_big_may)); (go_step)) | (with_reducible refine Sl.gate rfl ?_; (go_step)))
                  have hRpt : Rep.R T8 [.int .i64 rv[k].1, .int .i64 rv[k].2, .int .i64 log[rv[k].1.toNat].2.2.1[rv[k].2.toNat], .slice qa qn qc] ((rv[k].1, rv[k].2, log[rv[k].1.toNat].2.2.1.getD rv[k].2.toNat 0, proofM (lvM log[rv[k].1.toNat]) rv[k].2.toNat, ()) : Pn) := by
                    refine prod_mk (cs := [_]) ⟨rfl, hp1⟩ (prod_mk (cs := [_]) ⟨rfl, hp2⟩ (prod_mk (cs := [_]) ⟨?_, ?_⟩ (prod_mk (cs := [_]) ⟨_, rfl, hv8⟩ unit_mk)))
                    · rw [List.getD_eq_getElem?_getD, List.getElem?_eq_getElem htl]
                      rfl
                    · rw [List.getD_eq_getElem?_getD, List.getElem?_eq_getElem htl]
                      exact hI11
                  go_roundw
                  case rel => exact ⟨k + 1, T8, x15, _, ps ++ [_], by omega, by go_num, hST.trans hT, hone15, (hRp.mono hT).append (RL.one_mk hRpt), Lib.hid (by rw [List.length_append, hpl3.out]; rfl), hgo, hst⟩
                  case measure => simp [intOf]; omega
        · obtain rfl : k = rv.length := by omega
          have hmk := hmk.out
          rw [List.drop_length, mkF] at hmk
          simp only [Option.map_some, List.append_nil] at hmk
          have HMK := Lib.hid hmk
          clear hmk
          obtain ⟨p1, p2, p3, rfl⟩ := sl_formk (k := 0) hst rfl
          obtain ⟨q1, q2, q3, rfl⟩ := sl_formk (k := 1) hst rfl
          repeat' (first | ((fail_if_success (go_big_may)); (go_step)) | ((first | (with_reducible refine Sl.k_load ?_; (refine s_qt hst (by exact qt_loadA evX BoxIn.h inX rfX) ?_)) | (with_reducible refine Sl.k_call ?_; (refine s_qt hst (by exact qt_len evX asX inX) ?_))) <;> (try refine nY ?_)) | (with_reducible refine Sl.gate rfl ?_; (go_step)) | (((((with_reducible refine Sl.k_store ?_; (refine s_store hst rfl _ BoxIn.h inX evX rfl lenOk oneOk (by simp) ?_); clear hst; intro w hst)))) <;> (try refine nY ?_) <;> (try replace hst := nH hst)))
          refine ret_two rfl (rv_cell hst rfl _ BoxIn.h inX rfl rfl) (rv_tmp rfl) ?_
          refine ⟨_, rfl, ?_⟩
          unfold makeP
          rw [HMK.out]
          rw [← HHC.out] at hst
          obtain ⟨T1, hT1, hst3, hv1⟩ := St.freeze (α := Pn) hst hRp hpl3.out.symm
          obtain ⟨T2, hT2, hst4, hv2⟩ := St.freeze (α := Hd) hst3 (rl_hds hok2) (by simp)
          refine ⟨T2, (hST.trans hT1).trans hT2, hst4.drop.drop.drop, _, rfl, ?_⟩
          exact prod_mk (r_dgx hm) (prod_mk (cs := [_]) ⟨_, rfl, hv2⟩ (prod_mk (cs := [_]) ⟨_, rfl, hv1.mono hT2⟩ unit_mk))
end Go.Proofs.YtgihhhdeoaplhaaDoor

/- Package evidence: the reference's comparison of evidence, walked. -/
--@u32
--@hgp
--@flat
--@dg
--@ex0
namespace Go.Proofs.YtgihhhdeoaplhaaDoor
set_option linter.unusedSimpArgs false
set_option linter.unusedVariables false
open Go.RowKit Go.Sl

instance decPn : DecidableEq Pn := decDg0
theorem evd_no1 {a b : Evd} (h : a.1 ≠ b.1) : decide (a = b) = false := decide_eq_false fun e => h (by rw [e])
theorem evd_no2 {a b : Evd} (h : a.2.1 ≠ b.2.1) : decide (a = b) = false := decide_eq_false fun e => h (by rw [e])
theorem evd_no3 {a b : Evd} (h : a.2.2.1 ≠ b.2.2.1) : decide (a = b) = false := decide_eq_false fun e => h (by rw [e])
theorem evd_yes {a b : Evd} (h1 : a.1 = b.1) (h2 : a.2.1 = b.2.1) (h3 : a.2.2.1 = b.2.2.1) : decide (a = b) = true := decide_eq_true (Prod.ext h1 (Prod.ext h2 (Prod.ext h3 rfl)))

set_option maxRecDepth 8000 in
set_option maxHeartbeats 4000000 in
theorem sameE_c {S M} (w : World) (hst : St S M w) (ca : List Value) (a : Evd) (hA : Rep.R S ca a) (cb : List Value) (b : Evd) (hB : Rep.R S cb b) (ma : a.1.l.length = 16) (mb : b.1.l.length = 16) (oa : EvOk a) (ob : EvOk b) :
    Rets Tryd.prog 13 [.agg ca.toArray, .agg cb.toArray] w fun v w' => v = .bool (decide (a = b)) ∧ St S M w' := by
  unfold Rets
  have nha := oa.nh
  have npa := oa.np
  have nhb := ob.nh
  have npb := ob.np
  have n1 := fun h => Lib.hid (evd_no1 (a := a) (b := b) h)
  have n2 := fun h => Lib.hid (evd_no2 (a := a) (b := b) h)
  have n3 := fun h => Lib.hid (evd_no3 (a := a) (b := b) h)
  have hyes := fun h1 h2 h3 => Lib.hid (evd_yes (a := a) (b := b) h1 h2 h3)
  obtain ⟨z1, hz1⟩ : ∃ z, decide (a.1 = b.1) = z := ⟨_, rfl⟩
  obtain ⟨z2, hz2⟩ : ∃ z, ((a.2.1.length : Int) != (b.2.1.length : Int)) = z := ⟨_, rfl⟩
  obtain ⟨z3, hz3⟩ : ∃ z, ((a.2.2.1.length : Int) != (b.2.2.1.length : Int)) = z := ⟨_, rfl⟩
  go_enter Tryd.func13, Tryd.ntmps13
  repeat' ((fail_if_success (with_reducible show Code.wp _ (Code.region 1 _ _) _ _ _)); first | ((fail_if_success (go_big_may)); (go_step)) | (((((refine s_box hst evX rfl ?_; clear hst; intro bx w hst)))) <;> (try refine nY ?_) <;> (try replace hst := nH hst)))
  have hst0 := hst
  clear hst
  obtain ⟨S1, hS1, hst, hpb⟩ := pt_box (α := Evd) hst0 hB (Rep.len hB)
  clear hst0
  generalize Value.pointer (some ⟨bx, 0, none⟩) = pB at *
  rename Nat => ba
  have hst0 := hst
  clear hst
  obtain ⟨S2, hS2, hst, hpa⟩ := pt_box (α := Evd) hst0 (Rep.mono hS1 hA) (Rep.len hA)
  clear hst0
  generalize Value.pointer (some ⟨bx, 0, none⟩) = pA at *
  replace hpb := hpb.mono hS2
  have hle := hS1.trans hS2
  cases z1 with
  | false =>
    repeat' (first | go_skip | (((with_reducible refine Sl.k_bin ?_; (refine s_qt hst (qt_neqK_b rfl rfl (r_dgx ma) (r_dgx mb) inX inX inferInstance hz1) ?_))) <;> (try refine nY ?_)) | ((fail_if_success (go_big_may)); (go_step)) | ((first | (with_reducible refine Sl.k_load ?_; (refine s_qt hst (by exact qt_ldp_flat evX asX inX inX rfl) ?_)) | (with_reducible refine Sl.k_field ?_; (((refine s_ex hst (qt_fieldp evX asX inX inX rfl) ?_); rintro v hp; (try simp only [Int.toNat_natCast, Int.toNat_natCast_add_one, Int.reduceToNat] at hp))))) <;> (try refine nY ?_)))
    go_ret
    exact ⟨_, rfl, by rw [(n1 (of_decide_eq_false hz1)).out]; rfl, St.weaken hle hst⟩
  | true =>
    cases z2 with
    | true =>
      repeat' (first | go_skip | ((first | (with_reducible refine Sl.k_bin ?_; (first | refine s_qt hst (qt_neqK_b rfl rfl (r_dgx ma) (r_dgx mb) inX inX inferInstance hz1) ?_ | refine s_qt hst (qt_neq_b rfl rfl hz2) ?_)) | (with_reducible refine Sl.k_guard ?_; ((refine Sl.guard_yes rfl ?_)))) <;> (try refine nY ?_)) | ((fail_if_success (go_big_may)); (go_step)) | ((first | (with_reducible refine Sl.k_load ?_; (first | refine s_qt hst (by exact qt_ldp_flat evX asX inX inX rfl) ?_ | (refine s_ex hst (qt_ldp_list evX asX inX) ?_; rintro v ⟨hvl, hv1⟩))) | (with_reducible refine Sl.k_field ?_; (((refine s_ex hst (qt_fieldp evX asX inX inX rfl) ?_); rintro v hp; (try simp only [Int.toNat_natCast, Int.toNat_natCast_add_one, Int.reduceToNat] at hp)))) | (with_reducible refine Sl.k_call ?_; (refine s_qt hst (by exact qt_len evX asX inX) ?_))) <;> (try refine nY ?_)))
      go_ret
      exact ⟨_, rfl, by rw [(n2 (fun e => by rw [e] at hz2; simp at hz2)).out]; rfl, St.weaken hle hst⟩
    | false =>
      cases z3 with
      | true =>
        repeat' (first | ((first | (with_reducible refine Sl.k_bin ?_; (first | refine s_qt hst (qt_neqK_b rfl rfl (r_dgx ma) (r_dgx mb) inX inX inferInstance hz1) ?_ | refine s_qt hst (qt_neq_b rfl rfl hz2) ?_ | refine s_qt hst (qt_neq_b rfl rfl hz3) ?_)) | (with_reducible refine Sl.k_guard ?_; ((refine Sl.guard_yes rfl ?_)))) <;> (try refine nY ?_)) | ((fail_if_success (go_big_may)); (go_step)) | ((first | (with_reducible refine Sl.k_load ?_; (first | refine s_qt hst (by exact qt_ldp_flat evX asX inX inX rfl) ?_ | (refine s_ex hst (qt_ldp_list evX asX inX) ?_; rintro v ⟨hvl, hv1⟩))) | (with_reducible refine Sl.k_field ?_; (((refine s_ex hst (qt_fieldp evX asX inX inX rfl) ?_); rintro v hp; (try simp only [Int.toNat_natCast, Int.toNat_natCast_add_one, Int.reduceToNat] at hp)))) | (with_reducible refine Sl.k_call ?_; (refine s_qt hst (by exact qt_len evX asX inX) ?_))) <;> (try refine nY ?_)))
        go_ret
        exact ⟨_, rfl, by rw [(n3 (fun e => by rw [e] at hz3; simp at hz3)).out]; rfl, St.weaken hle hst⟩
      | false =>
        repeat' (first | ((first | (with_reducible refine Sl.k_bin ?_; (first | refine s_qt hst (qt_neqK_b rfl rfl (r_dgx ma) (r_dgx mb) inX inX inferInstance hz1) ?_ | refine s_qt hst (qt_neq_b rfl rfl hz2) ?_ | refine s_qt hst (qt_neq_b rfl rfl hz3) ?_)) | (with_reducible refine Sl.k_guard ?_; ((refine Sl.guard_yes rfl ?_)))) <;> (try refine nY ?_)) | ((fail_if_success (go_big_may)); (go_step)) | ((first | (with_reducible refine Sl.k_load ?_; (first | refine s_qt hst (by exact qt_ldp_flat evX asX inX inX rfl) ?_ | (refine s_ex hst (qt_ldp_list evX asX inX) ?_; rintro v ⟨hvl, hv1⟩))) | (with_reducible refine Sl.k_field ?_; (((refine s_ex hst (qt_fieldp evX asX inX inX rfl) ?_); rintro v hp; (try simp only [Int.toNat_natCast, Int.toNat_natCast_add_one, Int.reduceToNat] at hp)))) | (with_reducible refine Sl.k_call ?_; (refine s_qt hst (by exact qt_len evX asX inX) ?_))) <;> (try refine nY ?_)))
        have hL2 : a.2.1.length ≤ b.2.1.length ∧ b.2.1.length ≤ a.2.1.length := by simp at hz2; omega
        have hL3 : a.2.2.1.length ≤ b.2.2.1.length ∧ b.2.2.1.length ≤ a.2.2.1.length := by simp at hz3; omega
        have hE1 : Hid (a.1 = b.1) := Lib.hid (of_decide_eq_true hz1)
        clear hz1 hz2 hz3
        go_loopw [5] (fun v wr => ∃ k : Nat, k ≤ a.2.1.length ∧ v = .int .i64 k ∧ Hid (a.2.1.take k = b.2.1.take k) ∧ St S2 M wr) (fun v _ => a.2.1.length - (intOf v).toNat)
        case atStart => exact ⟨0, Nat.zero_le _, rfl, Lib.hid rfl, hst⟩
        case round =>
          clear hst
          obtain ⟨k, hk, rfl, ht, hst⟩ := hrel
          by_cases hlt : k < a.2.1.length
          · have hlb : k < b.2.1.length := by omega
            obtain ⟨oka, _⟩ := oa.hd _ (List.getElem_mem hlt)
            obtain ⟨okb, _⟩ := ob.hd _ (List.getElem_mem hlb)
            obtain ⟨y, hy⟩ : ∃ y, decide (a.2.1[k] = b.2.1[k]) = y := ⟨_, rfl⟩
            have Hy := Lib.hid hy
            have hstep := fun e => Lib.hid ((take_succ_eq ht.out hlt hlb).2 e)
            cases y with
            | false =>
              repeat' ((fail_if_success (with_reducible show Code.wp _ (Code.region 6 _ _) _ _ _)); first | ((fail_if_success (go_big_may)); (go_step)) | ((first | (with_reducible refine Sl.k_load ?_; ((refine s_ex hst (qt_ldp_list evX asX inX) ?_; rintro v ⟨hvl, hv1⟩))) | (with_reducible refine Sl.k_field ?_; (((refine s_ex hst (qt_fieldp evX asX inX inX rfl) ?_); rintro v hp; (try simp only [Int.toNat_natCast, Int.toNat_natCast_add_one, Int.reduceToNat] at hp)))) | (with_reducible refine Sl.k_call ?_; (refine s_qt hst (by exact qt_len evX asX inX) ?_))) <;> (try refine nY ?_)) | (with_reducible refine Sl.gate rfl ?_; (go_step)))
              refine v_begin hst (by kernel_rfl) ?_; clear hst; intro ops; (try refine nY ?_)
              ((refine t_ex0 0 rfl (by kernel_rfl) rfl rfl (qt_fieldp evX hpa inX inX rfl ) ?_; rintro  v0 hp0)) <;> (try refine nY ?_)
              ((refine t_ex0 1 rfl (by kernel_rfl) rfl rfl (qt_ldp_list evX hp0 inX ) ?_; rintro  v1 ⟨hv1, hv11⟩)) <;> (try refine nY ?_)
              (refine t_qt 2 rfl (by kernel_rfl) rfl rfl (by exact qt_move evX) ?_) <;> (try refine nY ?_)
              ((refine t_ex0 3 rfl (by kernel_rfl) rfl rfl (qt_index evX hv1 rfl inX inX omX omX ) ?_; rintro  v3 hp3; simp only [Int.toNat_natCast] at hp3)) <;> (try refine nY ?_)
              (refine t_qt 4 rfl (by kernel_rfl) rfl rfl (qt_ldp_flat evX hp3 inX inX rfl) ?_) <;> (try refine nY ?_)
              ((refine t_ex0 5 rfl (by kernel_rfl) rfl rfl (qt_fieldp evX hpb inX inX rfl ) ?_; rintro  v5 hp5)) <;> (try refine nY ?_)
              ((refine t_ex0 6 rfl (by kernel_rfl) rfl rfl (qt_ldp_list evX hp5 inX ) ?_; rintro  v6 ⟨hv6, hv61⟩)) <;> (try refine nY ?_)
              (refine t_qt 7 rfl (by kernel_rfl) rfl rfl (by exact qt_move evX) ?_) <;> (try refine nY ?_)
              ((refine t_ex0 8 rfl (by kernel_rfl) rfl rfl (qt_index evX hv6 rfl inX inX omX omX ) ?_; rintro  v8 hp8; simp only [Int.toNat_natCast] at hp8)) <;> (try refine nY ?_)
              (refine t_qt 9 rfl (by kernel_rfl) rfl rfl (qt_ldp_flat evX hp8 inX inX rfl) ?_) <;> (try refine nY ?_)
              (refine t_qt 10 rfl (by kernel_rfl) rfl rfl (qt_neqK_b rfl rfl (r_hd oka) (r_hd okb) inX inX inferInstance hy) ?_) <;> (try refine nY ?_)
              refine v_done (by kernel_rfl) ?_; clear ops; intro w hst
              repeat' (((fail_if_success (go_big_may)); (go_step)))
              go_ret
              exact ⟨_, rfl, by rw [(n2 (fun e => of_decide_eq_false Hy.out (by simp only [e]))).out]; rfl, St.weaken hle hst⟩
            | true =>
              repeat' ((fail_if_success (with_reducible show Code.wp _ (Code.region 6 _ _) _ _ _)); first | ((fail_if_success (go_big_may)); (go_step)) | ((first | (with_reducible refine Sl.k_load ?_; ((refine s_ex hst (qt_ldp_list evX asX inX) ?_; rintro v ⟨hvl, hv1⟩))) | (with_reducible refine Sl.k_field ?_; (((refine s_ex hst (qt_fieldp evX asX inX inX rfl) ?_); rintro v hp; (try simp only [Int.toNat_natCast, Int.toNat_natCast_add_one, Int.reduceToNat] at hp)))) | (with_reducible refine Sl.k_call ?_; (refine s_qt hst (by exact qt_len evX asX inX) ?_))) <;> (try refine nY ?_)) | (with_reducible refine Sl.gate rfl ?_; (go_step)))
              refine v_begin hst (by kernel_rfl) ?_; clear hst; intro ops; (try refine nY ?_)
              ((refine t_ex0 0 rfl (by kernel_rfl) rfl rfl (qt_fieldp evX hpa inX inX rfl ) ?_; rintro  v0 hp0)) <;> (try refine nY ?_)
              ((refine t_ex0 1 rfl (by kernel_rfl) rfl rfl (qt_ldp_list evX hp0 inX ) ?_; rintro  v1 ⟨hv1, hv11⟩)) <;> (try refine nY ?_)
              (refine t_qt 2 rfl (by kernel_rfl) rfl rfl (by exact qt_move evX) ?_) <;> (try refine nY ?_)
              ((refine t_ex0 3 rfl (by kernel_rfl) rfl rfl (qt_index evX hv1 rfl inX inX omX omX ) ?_; rintro  v3 hp3; simp only [Int.toNat_natCast] at hp3)) <;> (try refine nY ?_)
              (refine t_qt 4 rfl (by kernel_rfl) rfl rfl (qt_ldp_flat evX hp3 inX inX rfl) ?_) <;> (try refine nY ?_)
              ((refine t_ex0 5 rfl (by kernel_rfl) rfl rfl (qt_fieldp evX hpb inX inX rfl ) ?_; rintro  v5 hp5)) <;> (try refine nY ?_)
              ((refine t_ex0 6 rfl (by kernel_rfl) rfl rfl (qt_ldp_list evX hp5 inX ) ?_; rintro  v6 ⟨hv6, hv61⟩)) <;> (try refine nY ?_)
              (refine t_qt 7 rfl (by kernel_rfl) rfl rfl (by exact qt_move evX) ?_) <;> (try refine nY ?_)
              ((refine t_ex0 8 rfl (by kernel_rfl) rfl rfl (qt_index evX hv6 rfl inX inX omX omX ) ?_; rintro  v8 hp8; simp only [Int.toNat_natCast] at hp8)) <;> (try refine nY ?_)
              (refine t_qt 9 rfl (by kernel_rfl) rfl rfl (qt_ldp_flat evX hp8 inX inX rfl) ?_) <;> (try refine nY ?_)
              (refine t_qt 10 rfl (by kernel_rfl) rfl rfl (qt_neqK_b rfl rfl (r_hd oka) (r_hd okb) inX inX inferInstance hy) ?_) <;> (try refine nY ?_)
              refine v_done (by kernel_rfl) ?_; clear ops; intro w hst
              repeat' (first | ((fail_if_success (go_big_may)); (go_step)) | (with_reducible refine Sl.gate rfl ?_; (go_step)))
              go_roundw
              case rel => exact ⟨k + 1, by omega, by go_num, hstep (of_decide_eq_true Hy.out), hst⟩
              case measure => simp [intOf]; omega
          · have hE2 : Hid (a.2.1 = b.2.1) := Lib.hid (by have h1 := ht.out; rwa [List.take_of_length_le (by omega), List.take_of_length_le (by omega)] at h1)
            clear ht
            repeat' (first | ((fail_if_success (go_big_may)); (go_step)) | ((first | (with_reducible refine Sl.k_load ?_; ((refine s_ex hst (qt_ldp_list evX asX inX) ?_; rintro v ⟨hvl, hv1⟩))) | (with_reducible refine Sl.k_field ?_; (((refine s_ex hst (qt_fieldp evX asX inX inX rfl) ?_); rintro v hp; (try simp only [Int.toNat_natCast, Int.toNat_natCast_add_one, Int.reduceToNat] at hp)))) | (with_reducible refine Sl.k_call ?_; (refine s_qt hst (by exact qt_len evX asX inX) ?_))) <;> (try refine nY ?_)) | (with_reducible refine Sl.gate rfl ?_; (go_step)))
            go_loopw [6] (fun v wr => ∃ k : Nat, k ≤ a.2.2.1.length ∧ v = .int .i64 k ∧ Hid (a.2.2.1.take k = b.2.2.1.take k) ∧ St S2 M wr) (fun v _ => a.2.2.1.length - (intOf v).toNat)
            case atStart => exact ⟨0, Nat.zero_le _, rfl, Lib.hid rfl, hst⟩
            case round =>
              clear hst
              obtain ⟨j, hj, rfl, ht, hst⟩ := hrel
              by_cases hlt : j < a.2.2.1.length
              · have hlb : j < b.2.2.1.length := by omega
                obtain ⟨a1, a2, a3, a4⟩ := oa.pt _ (List.getElem_mem hlt)
                obtain ⟨b1, b2, b3, b4⟩ := ob.pt _ (List.getElem_mem hlb)
                have hstep := fun e => Lib.hid ((take_succ_eq ht.out hlt hlb).2 e)
                have hne := fun (h : ¬ a.2.2.1[j] = b.2.2.1[j]) => n3 (fun e => h (List.getElem_of_eq e _))
                repeat' ((fail_if_success (with_reducible show Code.wp _ (Code.region 12 _ _) _ _ _)); first | ((fail_if_success (go_big_may)); (go_step)) | ((first | (with_reducible refine Sl.k_load ?_; (first | (refine s_ex hst (qt_ldp_list evX asX inX) ?_; rintro v ⟨hvl, hv1⟩) | (refine s_ex hst (qt_ldp evX asX inX) ?_; rintro v ⟨cl, rfl, hcl⟩))) | (with_reducible refine Sl.k_field ?_; (((refine s_ex hst (qt_fieldp evX asX inX inX rfl) ?_); rintro v hp; (try simp only [Int.toNat_natCast, Int.toNat_natCast_add_one, Int.reduceToNat] at hp)))) | (with_reducible refine Sl.k_index ?_; (((refine s_ex hst (qt_index evX asX rfl inX inX omX omX) ?_); rintro v hp; (try simp only [Int.toNat_natCast, Int.toNat_natCast_add_one, Int.reduceToNat] at hp)))) | (with_reducible refine Sl.k_call ?_; (refine s_qt hst (by exact qt_len evX asX inX) ?_))) <;> (try refine nY ?_)) | (with_reducible refine Sl.gate rfl ?_; (go_step)) | ((((first | (with_reducible refine Sl.k_store ?_; (refine s_stR hst rfl BoxIn.h evX asX inX rfl rfl ?_); clear hst; intro w hst) | (refine s_alloc hst inX ?_; clear hst; intro bk w hst)))) <;> (try refine nY ?_) <;> (try replace hst := nH hst)))
                have hst0 := hst
                clear hst
                obtain ⟨S3, hS3, hst, hpp⟩ := pt_box (α := Pn) hst0 hcl (Rep.len hcl)
                clear hst0
                generalize Value.pointer (some ⟨bk, 0, none⟩) = pP at *
                replace hpb := hpb.mono hS3
                repeat' ((fail_if_success (with_reducible show Code.wp _ (Code.region 13 _ _) _ _ _)); first | ((fail_if_success (go_big_may)); (go_step)) | ((first | (with_reducible refine Sl.k_load ?_; (first | (refine s_ex hst (qt_ldp_list evX asX inX) ?_; rintro v ⟨hvl, hv1⟩) | (refine s_ex hst (qt_ldp evX asX inX) ?_; rintro v ⟨cl, rfl, hcl⟩))) | (with_reducible refine Sl.k_field ?_; (((refine s_ex hst (qt_fieldp evX asX inX inX rfl) ?_); rintro v hp; (try simp only [Int.toNat_natCast, Int.toNat_natCast_add_one, Int.reduceToNat] at hp)))) | (with_reducible refine Sl.k_index ?_; (((refine s_ex hst (qt_index evX asX rfl inX inX omX omX) ?_); rintro v hp; (try simp only [Int.toNat_natCast, Int.toNat_natCast_add_one, Int.reduceToNat] at hp))))) <;> (try refine nY ?_)) | ((((first | (with_reducible refine Sl.k_store ?_; (refine s_stR hst rfl BoxIn.h evX asX inX rfl rfl ?_); clear hst; intro w hst) | (refine s_alloc hst inX ?_; clear hst; intro bk w hst)))) <;> (try refine nY ?_) <;> (try replace hst := nH hst)))
                have hst0 := hst
                clear hst
                obtain ⟨S4, hS4, hst, hpq⟩ := pt_box (α := Pn) hst0 hcl (Rep.len hcl)
                clear hst0
                generalize Value.pointer (some ⟨bk, 0, none⟩) = pQ at *
                replace hpp := hpp.mono hS4
                generalize a.2.2.1[j] = P at *
                generalize b.2.2.1[j] = Q at *
                have cS := fun {M : List Chunk} (w : World) (hst : St S4 M w) (va vb : Value) (h1 : RSl S4 va P.2.2.2.1) (h2 : RSl S4 vb Q.2.2.2.1) => same_c w hst va vb _ _ h1 h2 a4 b4
                obtain ⟨y, hy⟩ : ∃ y, decide (P.2.2.2.1 = Q.2.2.2.1) = y := ⟨_, rfl⟩
                rw [hy] at cS
                repeat' ((fail_if_success (with_reducible show Code.wp _ (Code.region 14 _ _) _ _ _)); first | (((with_reducible refine Sl.k_call ?_; ((refine s_call (cS _ hst _ _ (by with_unfolding_all assumption) (by with_unfolding_all assumption)) inX rfl ?_; clear hst; rintro v w ⟨rfl, hst⟩)))) <;> (try refine nY ?_) <;> (try replace hst := nH hst)) | ((fail_if_success (go_big_may)); (go_step)) | ((first | (with_reducible refine Sl.k_load ?_; ((refine s_ex hst (qt_ldp_list evX asX inX) ?_; rintro v ⟨hvl, hv1⟩))) | (with_reducible refine Sl.k_field ?_; (((refine s_ex hst (qt_fieldp evX asX inX inX rfl) ?_); rintro v hp; (try simp only [Int.toNat_natCast, Int.toNat_natCast_add_one, Int.reduceToNat] at hp))))) <;> (try refine nY ?_)))
                cases y with
                | false =>
                  have hE := (hne (fun e => of_decide_eq_false hy (by rw [e]))).out
                  repeat' (first | (((with_reducible refine Sl.k_guard ?_; (first | (refine Sl.guard_yes rfl ?_) | (refine Sl.guard_no rfl ?_) | (refine Sl.guard_cases rfl ?_ ?_ <;> intro hg <;> (simp only [hg, Bool.not_true, Bool.not_false])) <;> (try simp only [decide_eq_true_eq, decide_eq_false_iff_not, Bool.not_false, Bool.not_true, beq_iff_eq, beq_eq_false_iff_ne, bne_iff_ne, bne_eq_false_iff_eq, ne_eq] at hg)))) <;> (try refine nY ?_)) | ((fail_if_success (go_big_may)); (go_step)) | ((first | (with_reducible refine Sl.k_load ?_; ((refine s_ex hst (qt_ldp_int evX asX inX) ?_; rintro v ⟨rfl, hI⟩))) | (with_reducible refine Sl.k_field ?_; (((refine s_ex hst (qt_fieldp evX asX inX inX rfl) ?_); rintro v hp; (try simp only [Int.toNat_natCast, Int.toNat_natCast_add_one, Int.reduceToNat] at hp))))) <;> (try refine nY ?_)) | (with_reducible refine Sl.gate rfl ?_; (go_step)))
                  all_goals (go_ret; exact ⟨_, rfl, by rw [hE]; rfl, St.weaken (hle.trans (hS3.trans hS4)) hst⟩)
                | true =>
                  by_cases hPQ : P = Q
                  · subst hPQ
                    repeat' (first | ((first | (with_reducible refine Sl.k_bin ?_; ((refine s_qt hst (qt_neq_self rfl rfl) ?_))) | (with_reducible refine Sl.k_guard ?_; ((refine Sl.guard_yes rfl ?_)))) <;> (try refine nY ?_)) | ((fail_if_success (go_big_may)); (go_step)) | ((first | (with_reducible refine Sl.k_load ?_; ((refine s_ex hst (qt_ldp_int evX asX inX) ?_; rintro v ⟨rfl, hI⟩))) | (with_reducible refine Sl.k_field ?_; (((refine s_ex hst (qt_fieldp evX asX inX inX rfl) ?_); rintro v hp; (try simp only [Int.toNat_natCast, Int.toNat_natCast_add_one, Int.reduceToNat] at hp))))) <;> (try refine nY ?_)) | (with_reducible refine Sl.gate rfl ?_; (go_step)))
                    go_roundw
                    case rel => exact ⟨j + 1, by omega, by go_num, hstep rfl, St.weaken (hS3.trans hS4) hst⟩
                    case measure => simp [intOf]; omega
                  · have hE := (hne hPQ).out
                    have hy' := of_decide_eq_true hy
                    repeat' (first | (((with_reducible refine Sl.k_guard ?_; (first | (refine Sl.guard_yes rfl ?_) | (refine Sl.guard_no rfl ?_) | (refine Sl.guard_cases rfl ?_ ?_ <;> intro hg <;> (simp only [hg, Bool.not_true, Bool.not_false])) <;> (try simp only [decide_eq_true_eq, decide_eq_false_iff_not, Bool.not_false, Bool.not_true, beq_iff_eq, beq_eq_false_iff_ne, bne_iff_ne, bne_eq_false_iff_eq, ne_eq] at hg)))) <;> (try refine nY ?_)) | ((fail_if_success (go_big_may)); (go_step)) | ((first | (with_reducible refine Sl.k_load ?_; ((refine s_ex hst (qt_ldp_int evX asX inX) ?_; rintro v ⟨rfl, hI⟩))) | (with_reducible refine Sl.k_field ?_; (((refine s_ex hst (qt_fieldp evX asX inX inX rfl) ?_); rintro v hp; (try simp only [Int.toNat_natCast, Int.toNat_natCast_add_one, Int.reduceToNat] at hp))))) <;> (try refine nY ?_)) | (with_reducible refine Sl.gate rfl ?_; (go_step)))
                    all_goals first
                      | (go_ret; exact ⟨_, rfl, by rw [hE]; rfl, St.weaken (hle.trans (hS3.trans hS4)) hst⟩)
                      | (exfalso; exact hPQ (Prod.ext (by assumption) (Prod.ext (by assumption) (Prod.ext (by assumption) (Prod.ext (by assumption) rfl)))))
              · have hE3 : a.2.2.1 = b.2.2.1 := by have h1 := ht.out; rwa [List.take_of_length_le (by omega), List.take_of_length_le (by omega)] at h1
                have hE := (hyes hE1.out hE2.out hE3).out
                clear hE3
                repeat' (first | ((fail_if_success (go_big_may)); (go_step)) | ((first | (with_reducible refine Sl.k_load ?_; ((refine s_ex hst (qt_ldp_list evX asX inX) ?_; rintro v ⟨hvl, hv1⟩))) | (with_reducible refine Sl.k_field ?_; (((refine s_ex hst (qt_fieldp evX asX inX inX rfl) ?_); rintro v hp; (try simp only [Int.toNat_natCast, Int.toNat_natCast_add_one, Int.reduceToNat] at hp)))) | (with_reducible refine Sl.k_call ?_; (refine s_qt hst (by exact qt_len evX asX inX) ?_))) <;> (try refine nY ?_)) | (with_reducible refine Sl.gate rfl ?_; (go_step)))
                go_ret
                exact ⟨_, rfl, by rw [hE]; rfl, St.weaken hle hst⟩
end Go.Proofs.YtgihhhdeoaplhaaDoor

/- The statement EvidenceMake, walked. -/
--@u32
--@hgp
--@flat
--@dg
--@ex0
namespace Go.Proofs.YtgihhhdeoaplhaaDoor
set_option linter.unusedSimpArgs false
set_option linter.unusedVariables false
open Go.RowKit Go.Sl

theorem refMakeU_c {S M} (w : World) (hst : St S M w) (hG : Glob S) (m : Dg) (hm : m.l.length = 16) (vl : Value) (log : List Ev) (hl : RSl S vl log) (hlen : log.length ≤ 1000) (hok : ∀ e ∈ log, evOk e) (vr : Value) (rv : List (Int × Int)) (hr : RSl S vr rv) (hrl : rv.length ≤ 1048576) :
    Rets Tryd.prog 12 [dgV m, vl, vr] w fun v w' => MkU S M m log rv v w' :=
  (refMake_c w hst hG m hm vl log hl hlen hok vr rv hr hrl).mono fun _ _ h => makeP_U h

set_option maxRecDepth 8000 in
set_option maxHeartbeats 2000000 in
theorem emake_c {S M} (w : World) (hst : St S M w) (hG : Glob S) (m : Dg) (hm : m.l.length = 16) (vl : Value) (log : List Ev) (hl : RSl S vl log) (hlm : log.length ≤ 1048576) (vr : Value) (rv : List (Int × Int)) (hr : RSl S vr rv) (hrm : rv.length ≤ 1048576) :
    Rets Tryd.prog 3 [dgV m, vl, vr] w fun v w' => v = .bool true ∧ St S M w' := by
  unfold Rets
  haveI : LenIs m.l 16 := ⟨hm⟩
  have hl1 := hl.oneCell
  have hr1 := hr.oneCell
  obtain ⟨z, hz⟩ : ∃ z, fewN log = z := ⟨_, rfl⟩
  have cF := fun {S : Snap} {M : List Chunk} (w : World) (hst : St S M w) (hl : RSl S vl log) => (fewN_c w hst vl log hl hlm).eq hz
  cases z with
  | false =>
    go_enter Tryd.func3, Tryd.ntmps3
    repeat' (first | go_skip | (((with_reducible refine Sl.k_call ?_; (first | (refine s_call (esanity_c _ hst hG) inX rfl ?_; clear hst; rintro v w ⟨rfl, hst⟩) | (refine s_call (cF _ hst hl) inX rfl ?_; clear hst; rintro v w ⟨rfl, hst⟩)))) <;> (try refine nY ?_) <;> (try replace hst := nH hst)) | ((fail_if_success (go_big_may)); (go_step)) | (with_reducible refine Sl.gate rfl ?_; (go_step)) | (((((refine s_box hst evX rfl ?_; clear hst; intro bx w hst)))) <;> (try refine nY ?_) <;> (try replace hst := nH hst)))
    go_ret
    exact ⟨_, rfl, rfl, hst.drop⟩
  | true =>
    by_cases h20 : 20 < rv.length
    · go_enter Tryd.func3, Tryd.ntmps3
      repeat' (first | (((with_reducible refine Sl.k_guard ?_; ((refine Sl.guard_yes rfl ?_)))) <;> (try refine nY ?_)) | (((with_reducible refine Sl.k_call ?_; (first | (refine s_call (esanity_c _ hst hG) inX rfl ?_; clear hst; rintro v w ⟨rfl, hst⟩) | (refine s_call (cF _ hst hl) inX rfl ?_; clear hst; rintro v w ⟨rfl, hst⟩)))) <;> (try refine nY ?_) <;> (try replace hst := nH hst)) | ((fail_if_success (go_big_may)); (go_step)) | (((with_reducible refine Sl.k_call ?_; (refine s_qt hst (by exact qt_len evX asX inX) ?_))) <;> (try refine nY ?_)) | (with_reducible refine Sl.gate rfl ?_; (go_step)) | (((((refine s_box hst evX rfl ?_; clear hst; intro bx w hst)))) <;> (try refine nY ?_) <;> (try replace hst := nH hst)))
      go_ret
      exact ⟨_, rfl, rfl, hst.drop⟩
    · have hlt : rv.length ≤ 20 := by omega
      obtain ⟨h6, hX⟩ := fewN_of hz
      have hok : ∀ e ∈ log, evOk e := fun e he => (hX e he).ok
      have h6' : log.length ≤ 1000 := by omega
      have m16 := mkR_16 hm log rv
      have okR := fun {S : Snap} {cs : List Value} (hR : Rep.R S cs (mkR m log rv)) => mkR_ok h6' hok hrm hR
      have cA := fun {S' : Snap} {M : List Chunk} (w : World) (hS : S.Le S') (hst : St S' M w) => makeU_c w hst (hG.mono hS) m hm vl log (hl.mono hS) h6' hok vr rv (hr.mono hS) hrm
      have cB := fun {S' : Snap} {M : List Chunk} (w : World) (hS : S.Le S') (hst : St S' M w) => refMakeU_c w hst (hG.mono hS) m hm vl log (hl.mono hS) h6' hok vr rv (hr.mono hS) hrm
      unfold MkU at cA cB
      generalize mkR m log rv = E at *
      generalize mkE log rv = en at *
      clear hz hX
      go_enter Tryd.func3, Tryd.ntmps3
      repeat' ((fail_if_success (with_reducible show Code.wp _ (Code.region 5 _ _) _ _ _)); first | (((with_reducible refine Sl.k_guard ?_; ((refine Sl.guard_yes rfl ?_)))) <;> (try refine nY ?_)) | (((with_reducible refine Sl.k_call ?_; (first | (refine s_call (esanity_c _ hst hG) inX rfl ?_; clear hst; rintro v w ⟨rfl, hst⟩) | (refine s_call (cF _ hst hl) inX rfl ?_; clear hst; rintro v w ⟨rfl, hst⟩) | (refine s_call (cA _ (Snap.Le.refl _) hst) inX rfl ?_; clear hst; rintro v w ⟨S1, c1, hS1, rfl, hR1, hst⟩)))) <;> (try refine nY ?_) <;> (try replace hst := nH hst)) | ((fail_if_success (go_big_may)); (go_step)) | ((first | (with_reducible refine Sl.k_load ?_; (refine s_qt hst (by exact qt_loadD evX BoxIn.h inX inX) ?_)) | (with_reducible refine Sl.k_call ?_; (refine s_qt hst (by exact qt_len evX asX inX) ?_))) <;> (try refine nY ?_)) | (with_reducible refine Sl.gate rfl ?_; (go_step)) | ((((first | (refine s_box hst evX rfl ?_; clear hst; intro bx w hst) | (refine s_alloc hst inX ?_; clear hst; intro bk w hst)))) <;> (try refine nY ?_) <;> (try replace hst := nH hst)))
      refine s_stW0 hst rfl BoxIn.h inX (x0 := E) (cs := c1) evX hR1 rfl ?_
      clear hst; intro w hst
      (try refine nY ?_)
      (try replace hst := nH hst)
      repeat' ((fail_if_success (with_reducible show Code.wp _ (Code.region 6 _ _) _ _ _)); first | (((with_reducible refine Sl.k_call ?_; ((refine s_call (cB _ hS1 hst) inX rfl ?_; clear hst; rintro v w ⟨S2, c2, hS2, rfl, hR2, hst⟩)))) <;> (try refine nY ?_) <;> (try replace hst := nH hst)) | ((fail_if_success (go_big_may)); (go_step)) | (((with_reducible refine Sl.k_load ?_; (refine s_qt hst (by exact qt_loadD evX BoxIn.h inX inX) ?_))) <;> (try refine nY ?_)) | (with_reducible refine Sl.gate rfl ?_; (go_step)) | (((((refine s_alloc hst inX ?_; clear hst; intro bk w hst)))) <;> (try refine nY ?_) <;> (try replace hst := nH hst)))
      refine s_stW0 hst rfl BoxIn.h inX (x0 := E) (cs := c2) evX hR2 rfl ?_
      clear hst; intro w hst
      (try refine nY ?_)
      (try replace hst := nH hst)
      replace hR1 := Rep.mono hS2 hR1
      have hl1 : c1.length = 18 := Rep.len hR1
      have hl2 : c2.length = 18 := Rep.len hR2
      have cS := fun {M : List Chunk} (w : World) (hst : St S2 M w) => (sameE_c w hst c1 E hR1 c2 E hR2 m16 m16 (okR hR1) (okR hR2)).eq (decide_eq_true rfl)
      repeat' (first | ((first | (with_reducible (refine Sl.k_load ?_; with_unfolding_all refine s_qt hst (by first | exact qt_loadF (x0 := E) rfl BoxIn.h hR1 inX | exact qt_loadF (x0 := E) rfl BoxIn.h hR2 inX) ?_)) | (with_reducible refine Sl.k_bin ?_; ((refine s_qt hst (qt_eql_self rfl rfl) ?_))) | (with_reducible refine Sl.k_guard ?_; ((refine Sl.guard_yes rfl ?_)))) <;> (try refine nY ?_)) | (((with_reducible refine Sl.k_call ?_; ((refine s_call (cS _ hst) inX rfl ?_; clear hst; rintro v w ⟨rfl, hst⟩)))) <;> (try refine nY ?_) <;> (try replace hst := nH hst)) | ((fail_if_success (go_big_may)); (go_step)))
      go_ret
      exact ⟨_, rfl, rfl, St.weaken (hS1.trans hS2) hst.drop.drop.drop⟩
end Go.Proofs.YtgihhhdeoaplhaaDoor

/- The statement EvidenceMake. -/
namespace Go.Proofs.YtgihhhdeoaplhaaDoor
set_option linter.unusedSimpArgs false
set_option linter.unusedVariables false
open Go.RowKit Go.Sl Go.ChangeShapes Go.WideShapes Go.ChangeAt

set_option maxRecDepth 20000 in
theorem emake_post (H : Type) (enc : TypeId × Value → H) (W : World) (base : Nat) (args : Array Value) (ds gs : List (DataW H)) (before : List MemPlace)
    (hval : ∀ (j : Nat) t v, Tryd.f3.params[j]? = some t → args[j]? = some v → Value.okWide Tryd.prog W .any base t v)
    (hW : DataW.Whole enc Tryd.prog Tryd.f3.params.toList Rows.evidenceMakeSpec.vars false W args.toList ds gs before) (hk : Rows.uptoSmall H (ds ++ gs) = true) (hL : laidMetH Tryd.prog Rows.evidenceMakeUptoRow.laid W) :
    Calls Tryd.prog 3 args W fun e W' => ∃ v, e = .returned v ∧ Rows.evidenceMakeSpec.post enc Tryd.prog Tryd.f3 false true false false W args v W' := by
  have hW' := hW
  obtain ⟨p, q, hA0, hV, rfl, hfz, hnd⟩ := hW
  have hA : DataW.TrodAll enc Tryd.prog W 0 (fun _ => true) true Tryd.f3.params.toList args.toList ds p := hA0
  have hk := small_all hk
  rw [Tryd.params3] at hA hval
  obtain ⟨v0, vs0, d0, ds0, p0, q0, hargs, rfl, rfl, h0, r0⟩ := trodAll_cons hA
  obtain ⟨v1, vs1, d1, ds1, p1, q1, rfl, rfl, rfl, h1, r1⟩ := trodAll_cons r0
  obtain ⟨v2, vs2, d2, ds2, p2, q2, rfl, rfl, rfl, h2, r2⟩ := trodAll_cons r1
  obtain ⟨rfl, rfl, rfl⟩ := trodAll_nil r2
  obtain rfl : args = #[v0, v1, v2] := by cases args; simp_all
  obtain ⟨rfl, rfl⟩ := trodVars_none hV
  simp only [List.append_nil, Rows.uptoBulkAll] at hk
  obtain ⟨d0, rfl, hd0⟩ := open_dg (hval 0 23 v0 rfl rfl) h0
  obtain ⟨l1, hl1, hm1⟩ := open_evs (hval 1 24 v1 rfl rfl) h1 (by omega)
  obtain ⟨l2, hl2, hm2⟩ := open_prs (hval 2 25 v2 rfl rfl) h2 (by omega)
  refine Calls.mono (emake_c W (St.start W) (glob_of hL) d0 hd0 v1 l1 hl1 hm1 v2 l2 hl2 hm2) fun e W' ⟨v, he, hv, hst⟩ => ?_
  subst hv
  exact ⟨_, he, law_post (tb := 4) rfl hW' (by kernel_rfl) (by rw [Tryd.params3]; intro t ht'; have e : t = 23 ∨ t = 24 ∨ t = 25 := (by simpa using ht'); rcases e with rfl | rfl | rfl <;> exact ⟨by kernel_rfl, of_decide_eq_true (by kernel_rfl)⟩) (by kernel_rfl) (by kernel_rfl) rfl rfl rfl hst.below⟩

abbrev emake_args : Array Value := #[.agg #[.int .u8 0, .int .u8 0, .int .u8 0, .int .u8 0, .int .u8 0, .int .u8 0, .int .u8 0, .int .u8 0, .int .u8 0, .int .u8 0, .int .u8 0, .int .u8 0, .int .u8 0, .int .u8 0, .int .u8 0, .int .u8 0], .slice none 0 0, .slice none 0 0]
theorem emake_met (os : Os) : laidMet Tryd.prog Rows.evidenceMakeUptoRow.laid ((laidWorld os #[]).forCall (fun _ _ => 0) ⟨#[], emake_args, []⟩).memory :=
  laidMet_of_run' 8 (by kernel_rfl) (by kernel_rfl)
theorem emake_reads (os : Os) {H : Type} (enc : TypeId × Value → H) : ∃ places, DataW.whole enc Tryd.prog ((laidWorld os #[]).forCall (fun _ _ => 0) ⟨#[], emake_args, []⟩).memory Tryd.f3.params.toList Rows.evidenceMakeSpec.vars false emake_args.toList 8 = some ([.agg [.lit (.int .u8 0), .lit (.int .u8 0), .lit (.int .u8 0), .lit (.int .u8 0), .lit (.int .u8 0), .lit (.int .u8 0), .lit (.int .u8 0), .lit (.int .u8 0), .lit (.int .u8 0), .lit (.int .u8 0), .lit (.int .u8 0), .lit (.int .u8 0), .lit (.int .u8 0), .lit (.int .u8 0), .lit (.int .u8 0), .lit (.int .u8 0)], .nil, .nil], [], places) :=
  ⟨[], by kernel_rfl⟩

set_option maxRecDepth 100000 in
theorem emake_lifted (os : Os) (started : os.Started) (H : Type) (enc : TypeId × Value → H) (F : Stop.Interp) :
    ReturnsInHanded {} Tryd.checked os 3 .any ((Rows.OpenSpec.upto Rows.evidenceMakeSpec).preRow enc Tryd.prog Tryd.f3 Rows.evidenceMakeUptoRow.domain false Rows.evidenceMakeUptoRow.laid) (((Rows.OpenSpec.upto Rows.evidenceMakeSpec).at F).post enc Tryd.prog Tryd.f3 false true false false) := by
  obtain ⟨places, hx⟩ := emake_reads os enc
  refine returnsInHanded_of_row (C := Tryd.checked) (s := Rows.OpenSpec.upto Rows.evidenceMakeSpec) own started (by kernel_rfl) Tryd.func3
    (witness_row_at (enc := enc) (C := Tryd.checked) false (laidWorld os #[]) emake_args rfl (by kernel_rfl) (by kernel_rfl) (by kernel_rfl)
      (OpenSpec.preRow_of_cond 8 hx (by kernel_rfl) (fun k hk => by cases hk; kernel_rfl) (by kernel_rfl) (emake_met os))) ?_
  intro W base args ds gs before hval hW _ hc _ hL _ _
  exact emake_post H enc W base args ds gs before hval hW (hc _ rfl) hL

theorem emake_said : Rows.EvidenceMakeUptoSaid :=
  OpenClaim.holds_of_cond 3 Tryd.f3 rfl rfl rfl rfl rfl rfl rfl ⟨rfl, rfl, rfl, rfl, rfl⟩ rfl rfl rfl rfl rfl (by kernel_rfl) Tryd.func3 (by kernel_rfl)
    (of_decide_eq_true (by kernel_rfl)) (by unfold Func.isWrapper; first | (rw [if_pos (by decide +kernel)]; kernel_rfl) | (rw [if_neg (by decide +kernel)]; exact ⟨rfl, rfl⟩))
    (fun os started H enc _ F => by rw [OpenClaim.pre_eq_preRow]; exact emake_lifted os started H enc F)

theorem emake_plain (f : FuncId) (fn : Func) (hf : Tryd.pinned.checked.prog.funcNamed "bootchain/bootchainlaw21.EvidenceMake" = some f) (hfn : Tryd.pinned.checked.prog.funcs[f]? = some fn) :
    false = Tryd.pinned.checked.prog.looks [] ∧ ∀ (j : Nat) t, fn.params[j]? = some t → Tryd.pinned.checked.prog.wantsStandIn t = false := by
  obtain rfl : f = 3 := Option.some.inj ((show Tryd.prog.funcNamed "bootchain/bootchainlaw21.EvidenceMake" = some 3 by kernel_rfl).symm.trans hf) |>.symm
  obtain rfl : fn = Tryd.f3 := (Option.some.inj (Tryd.func3.symm.trans hfn)).symm
  refine ⟨by kernel_rfl, fun j t ht => ?_⟩
  rw [Tryd.params3] at ht
  have e : t = 23 ∨ t = 24 ∨ t = 25 := by simpa using Array.mem_of_getElem? ht
  rcases e with rfl | rfl | rfl
  · exact (show Tryd.prog.wantsStandIn 23 = false by kernel_rfl)
  · exact (show Tryd.prog.wantsStandIn 24 = false by kernel_rfl)
  · exact (show Tryd.prog.wantsStandIn 25 = false by kernel_rfl)

theorem emake_proved : Rows.EvidenceMakeUptoCardSaid :=
  Claim7.holds_tied_plain_at .later [] _ _ _ _ emake_said (fun _ h => by cases h) (by kernel_rfl) (fun _ h => by cases h) evidenceMakeUpto_row_tie rfl ⟨rfl, rfl⟩ (by kernel_rfl) rfl emake_plain (by kernel_rfl)
end Go.Proofs.YtgihhhdeoaplhaaDoor
