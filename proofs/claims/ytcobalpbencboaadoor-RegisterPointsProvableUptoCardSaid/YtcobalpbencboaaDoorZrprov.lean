/- The statement RegisterPointsProvable is proved: the leaf of every outcome has a Merkle proof against the root in the head, for at most 30 points. -/
import Derived.Test.YtcobalpbencboaaDoorBb
import Derived.Test.YtcobalpbencboaaDoorBi
import Derived.Test.YtcobalpbencboaaDoorBe

/- The statement RegisterPointsProvable, walked. -/
--@u32
--@hgp
--@flat
--@dg
--@ex0
namespace Go.Proofs.YtcobalpbencboaaDoor
set_option linter.unusedSimpArgs false
set_option linter.unusedVariables false
open Go.RowKit Go.Sl

theorem leavesP_get (lf : Int → Int → Dg) {xs : List Int} {k : Nat} (h : k < xs.length) (h2 : k < (leavesP lf xs).length) : (leavesP lf xs)[k] = lf (k : Int) xs[k] := by
  simp only [leavesP, List.getElem_map, List.getElem_range]
  rw [List.getD_eq_getElem?_getD, List.getElem?_eq_getElem h]
  rfl
theorem leaves_succ (lf : Int → Int → Dg) {xs : List Int} {i : Nat} (h : i < xs.length) : ((List.range (i + 1)).map fun (j : Nat) => lf (j : Int) (xs.getD j 0)) = ((List.range i).map fun (j : Nat) => lf (j : Int) (xs.getD j 0)) ++ [lf (i : Int) xs[i]] := by
  rw [List.range_succ, List.map_append]
  simp only [List.map_cons, List.map_nil]
  rw [List.getD_eq_getElem?_getD, List.getElem?_eq_getElem h]
  rfl

set_option maxRecDepth 8000 in
set_option maxHeartbeats 2000000 in
theorem provable_c {S M} (w : World) (hst : St S M w) (hG : Glob S) (cs : List Value) (ev : Ev) (hR : Rep.R S cs ev) (i : Nat) (hi : i ≤ 255) :
    Rets Tryd.prog 14 [.agg cs.toArray, .int .u8 (i : Int)] w fun v w' => v = .bool true ∧ St S M w' := by
  unfold Rets
  obtain ⟨fw, hfw⟩ : ∃ b, fewM [ev] = b := ⟨_, rfl⟩
  have cW := fun {S : Snap} {M : List Chunk} (w : World) (hst : St S M w) (vl : Value) (hl : RSl S vl [ev]) => (few_c w hst vl [ev] hl (by simp)).eq hfw
  cases fw with
  | false =>
    go_enter Tryd.func14, Tryd.ntmps14
    repeat' ((fail_if_success (with_reducible show Code.wp _ (Code.region 1 _ _) _ _ _)); first | ((fail_if_success (go_big_may)); (go_step)) | (((((refine s_box hst evX rfl ?_; clear hst; intro bx w hst)))) <;> (try refine nY ?_) <;> (try replace hst := nH hst)))
    obtain ⟨S1, hS1, hst, hpe⟩ := pt_box (α := Ev) hst hR (Rep.len hR)
    replace hG := hG.mono hS1
    repeat' (first | (((with_reducible refine Sl.k_call ?_; ((refine s_call (rsanity_c _ hst hG) inX rfl ?_; clear hst; rintro v w ⟨rfl, hst⟩)))) <;> (try refine nY ?_) <;> (try replace hst := nH hst)) | ((fail_if_success (go_big_may)); (go_step)) | (((with_reducible refine Sl.k_load ?_; ((refine s_ex hst (qt_ldp evX asX inX) ?_; rintro v ⟨cl, rfl, hcl⟩)))) <;> (try refine nY ?_)))
    have hcl20 : cl.length = 20 := Rep.len hcl
    refine s_lit (vs := [.agg cl.toArray]) (cs := cl) hst inX inX rfl rfl (by simp [Value.cells, hcl20]) (by simp [Value.cells]) (by omega) (by omega) ?_
    clear hst; intro x w hst
    obtain ⟨S2, hS2, hst, hx⟩ := St.freeze (α := Ev) (xs := [ev]) hst (RL.one_mk hcl) rfl
    have hx1 := hx.oneCell
    replace hG := hG.mono hS2
    replace hpe := hpe.mono hS2
    (try refine nY ?_)
    repeat' (first | go_skip | (((with_reducible refine Sl.k_call ?_; ((refine s_call (cW _ hst _ hx) inX rfl ?_; clear hst; rintro v w ⟨rfl, hst⟩)))) <;> (try refine nY ?_) <;> (try replace hst := nH hst)) | ((fail_if_success (go_big_may)); (go_step)) | (with_reducible refine Sl.gate rfl ?_; (go_step)))
    go_ret
    exact ⟨_, rfl, rfl, St.weaken (hS1.trans hS2) hst⟩
  | true =>
    obtain ⟨b1, b2, b3⟩ : fewE ev := (fewM_of hfw).2 _ (.head _)
    by_cases h0 : ev.2.2.1.length = 0
    · have hz : ((ev.2.2.1.length : Int) == 0) = true := beq_iff_eq.2 (by omega)
      clear h0
      go_enter Tryd.func14, Tryd.ntmps14
      repeat' ((fail_if_success (with_reducible show Code.wp _ (Code.region 1 _ _) _ _ _)); first | ((fail_if_success (go_big_may)); (go_step)) | (((((refine s_box hst evX rfl ?_; clear hst; intro bx w hst)))) <;> (try refine nY ?_) <;> (try replace hst := nH hst)))
      obtain ⟨S1, hS1, hst, hpe⟩ := pt_box (α := Ev) hst hR (Rep.len hR)
      replace hG := hG.mono hS1
      repeat' (first | (((with_reducible refine Sl.k_call ?_; ((refine s_call (rsanity_c _ hst hG) inX rfl ?_; clear hst; rintro v w ⟨rfl, hst⟩)))) <;> (try refine nY ?_) <;> (try replace hst := nH hst)) | ((fail_if_success (go_big_may)); (go_step)) | (((with_reducible refine Sl.k_load ?_; ((refine s_ex hst (qt_ldp evX asX inX) ?_; rintro v ⟨cl, rfl, hcl⟩)))) <;> (try refine nY ?_)))
      have hcl20 : cl.length = 20 := Rep.len hcl
      refine s_lit (vs := [.agg cl.toArray]) (cs := cl) hst inX inX rfl rfl (by simp [Value.cells, hcl20]) (by simp [Value.cells]) (by omega) (by omega) ?_
      clear hst; intro x w hst
      obtain ⟨S2, hS2, hst, hx⟩ := St.freeze (α := Ev) (xs := [ev]) hst (RL.one_mk hcl) rfl
      have hx1 := hx.oneCell
      replace hG := hG.mono hS2
      replace hpe := hpe.mono hS2
      (try refine nY ?_)
      repeat' (first | ((first | (with_reducible (refine Sl.k_field ?_; refine s_ex hst (qt_fieldp evX hpe inX inX rfl) ?_; rintro vf hpf)) | (with_reducible refine Sl.k_guard ?_; ((refine Sl.guard_yes rfl ?_)))) <;> (try refine nY ?_)) | (((with_reducible refine Sl.k_call ?_; ((refine s_call (cW _ hst _ hx) inX rfl ?_; clear hst; rintro v w ⟨rfl, hst⟩)))) <;> (try refine nY ?_) <;> (try replace hst := nH hst)) | ((fail_if_success (go_big_may)); (go_step)) | ((first | (with_reducible refine Sl.k_load ?_; ((refine s_ex hst (qt_ldp_list evX asX inX) ?_; rintro v ⟨hvl, hv1⟩))) | (with_reducible refine Sl.k_call ?_; (refine s_qt hst (by exact qt_len evX asX inX) ?_))) <;> (try refine nY ?_)) | (with_reducible refine Sl.gate rfl ?_; (go_step)))
      go_ret
      exact ⟨_, rfl, rfl, St.weaken (hS1.trans hS2) hst⟩
    · have hz : ((ev.2.2.1.length : Int) == 0) = false := beq_eq_false_iff_ne.2 (by omega)
      have hkl : i % ev.2.2.1.length < ev.2.2.1.length := Nat.mod_lt _ (by omega)
      have hke : ((i : Int) % (ev.2.2.1.length : Int)) = ((i % ev.2.2.1.length : Nat) : Int) := by omega
      have h1l : 1 ≤ ev.2.2.1.length := by omega
      clear h0
      generalize i % ev.2.2.1.length = k at *
      go_enter Tryd.func14, Tryd.ntmps14
      repeat' ((fail_if_success (with_reducible show Code.wp _ (Code.region 1 _ _) _ _ _)); first | ((fail_if_success (go_big_may)); (go_step)) | (((((refine s_box hst evX rfl ?_; clear hst; intro bx w hst)))) <;> (try refine nY ?_) <;> (try replace hst := nH hst)))
      obtain ⟨S1, hS1, hst, hpe⟩ := pt_box (α := Ev) hst hR (Rep.len hR)
      replace hG := hG.mono hS1
      repeat' (first | (((with_reducible refine Sl.k_call ?_; ((refine s_call (rsanity_c _ hst hG) inX rfl ?_; clear hst; rintro v w ⟨rfl, hst⟩)))) <;> (try refine nY ?_) <;> (try replace hst := nH hst)) | ((fail_if_success (go_big_may)); (go_step)) | (((with_reducible refine Sl.k_load ?_; ((refine s_ex hst (qt_ldp evX asX inX) ?_; rintro v ⟨cl, rfl, hcl⟩)))) <;> (try refine nY ?_)))
      have hcl20 : cl.length = 20 := Rep.len hcl
      refine s_lit (vs := [.agg cl.toArray]) (cs := cl) hst inX inX rfl rfl (by simp [Value.cells, hcl20]) (by simp [Value.cells]) (by omega) (by omega) ?_
      clear hst; intro x w hst
      obtain ⟨S2, hS2, hst, hx⟩ := St.freeze (α := Ev) (xs := [ev]) hst (RL.one_mk hcl) rfl
      have hx1 := hx.oneCell
      replace hG := hG.mono hS2
      replace hpe := hpe.mono hS2
      (try refine nY ?_)
      repeat' (first | ((first | (with_reducible (refine Sl.k_field ?_; refine s_ex hst (qt_fieldp evX hpe inX inX rfl) ?_; rintro vf hpf)) | (with_reducible refine Sl.k_guard ?_; ((refine Sl.guard_yes rfl ?_)))) <;> (try refine nY ?_)) | (((with_reducible refine Sl.k_call ?_; ((refine s_call (cW _ hst _ hx) inX rfl ?_; clear hst; rintro v w ⟨rfl, hst⟩)))) <;> (try refine nY ?_) <;> (try replace hst := nH hst)) | ((fail_if_success (go_big_may)); (go_step)) | ((first | (with_reducible refine Sl.k_load ?_; ((refine s_ex hst (qt_ldp_list evX asX inX) ?_; rintro v ⟨hvl, hv1⟩))) | (with_reducible refine Sl.k_call ?_; (refine s_qt hst (by exact qt_len evX asX inX) ?_))) <;> (try refine nY ?_)) | (with_reducible refine Sl.gate rfl ?_; (go_step)))
      simp only [hke]
      clear hke
      repeat' (fail)
      have hst := hst.nil 28 16
      go_loopw [7, 8] (fun u v wr => ∃ (n : Nat) (c : List Dg), n ≤ ev.2.2.1.length ∧ v = .int .i64 n ∧ Hid (c = (List.range n).map fun (j : Nat) => leafP (j : Int) (ev.2.2.1.getD j 0)) ∧ (n ≤ c.length ∧ c.length ≤ n) ∧ u.oneCell' = true ∧ St S2 (.sl u 28 16 c.length (cF dgC c) :: M) wr) (fun _ v _ => ev.2.2.1.length - (intOf v).toNat)
      case atStart => exact ⟨0, [], Nat.zero_le _, rfl, Lib.hid rfl, ⟨Nat.le_refl _, Nat.le_refl _⟩, rfl, hst⟩
      case round =>
        clear hst
        obtain ⟨n, c, hn, rfl, hc, hcl2, hone, hst⟩ := hrel
        by_cases hlt : n < ev.2.2.1.length
        · have hi64 := rsl_i64 hvl ev.2.2.1[n] (List.getElem_mem hlt)
          have hn64 : I64 (n : Int) := by unfold I64; omega
          have hsu := Lib.hid (leaves_succ leafP hlt)
          repeat' (first | (((with_reducible (refine Sl.k_field ?_; refine s_ex hst (qt_fieldp evX hpe inX inX rfl) ?_; rintro vf hpf))) <;> (try refine nY ?_)) | (((with_reducible refine Sl.k_call ?_; ((refine s_call (pleaf_c _ hst hG (n : Int) ev.2.2.1[n] hn64 hi64) inX rfl ?_; clear hst; rintro v w ⟨rfl, hst⟩)))) <;> (try refine nY ?_) <;> (try replace hst := nH hst)) | ((fail_if_success (go_big_may)); (go_step)) | ((first | (with_reducible refine Sl.k_load ?_; (first | (refine s_ex hst (qt_ldp_int evX asX inX) ?_; rintro v ⟨rfl, hI⟩) | (refine s_ex hst (qt_ldp_list evX asX inX) ?_; rintro v ⟨hvl, hv1⟩))) | (with_reducible refine Sl.k_index ?_; (((refine s_ex hst (qt_index evX asX rfl inX inX omX omX) ?_); rintro v hp; (try simp only [Int.toNat_natCast, Int.toNat_natCast_add_one, Int.reduceToNat] at hp)))) | (with_reducible refine Sl.k_call ?_; (refine s_qt hst (by exact qt_len evX asX inX) ?_))) <;> (try refine nY ?_)) | (with_reducible refine Sl.gate rfl ?_; (go_step)))
          refine s_lit (vs := [dgV (leafP (n : Int) ev.2.2.1[n])]) hst inX inX rfl rfl (by simp [Value.cells, u8s_length, leafP_len]) rfl (by omega) (by omega) ?_
          clear hst; intro u w hst
          (try refine nY ?_)
          (try replace hst := nH hst)
          repeat' (fail)
          refine s_append (j := 0) hst evX evX SlIn.h rfl inX inX inX (by simpa [Value.cells] using u8s_one (leafP (n : Int) ev.2.2.1[n]).l) (by omega) (by omega) (by decide) ?_
          clear hst; intro v' w hst
          (try refine nY ?_)
          (try replace hst := nH hst)
          replace hst := hst.drop
          repeat' (first | ((fail_if_success (go_big_may)); (go_step)) | (with_reducible refine Sl.gate rfl ?_; (go_step)))
          have hone' := sl_one hst
          go_roundw
          case rel => exact ⟨n + 1, c ++ [leafP (n : Int) ev.2.2.1[n]], by omega, by go_num, Lib.hid (by rw [hsu.out, hc.out]), by simp; omega, hone', by rw [List.length_append, cF_snoc]; exact hst⟩
          case measure => simp [intOf]; omega
        · obtain rfl : n = ev.2.2.1.length := by omega
          have hcE : c = leavesP leafP ev.2.2.1 := hc.out
          have hc16 : ∀ d ∈ c, d.l.length = 16 := by rw [hcE]; exact leavesP_16 leafP_len _
          have hkc : k < c.length := by omega
          have hck : c[k] = leafP (k : Int) ev.2.2.1[k] := by
            have := leavesP_get leafP hkl (by rw [leavesP_len]; exact hkl)
            rw [← this]
            congr 1
          obtain ⟨S3, hS3, hst, hvc⟩ := St.freeze (α := Dg) hst (rl_digs hc16) rfl
          have hvc1 := hvc.oneCell
          replace hG := hG.mono hS3
          replace hpe := hpe.mono hS3
          have hpts := hvl.mono hS3
          have hk64 := rsl_i64 hvl ev.2.2.1[k] (List.getElem_mem hkl)
          have hki : I64 (k : Int) := by unfold I64; omega
          have okE : HdOk (headM ev) := headM_ok hR ⟨by omega, by omega, by omega⟩
          have hEc : (headM ev).2.2.1 = (c.length : Int) := by show (ev.2.2.1.length : Int) = _; omega
          have hEp : (headM ev).2.2.2.1 = rootM c := by rw [hcE]; rfl
          have cV := fun {S : Snap} {M : List Chunk} (w : World) (hst : St S M w) (hG : Glob S) (u : Value) (hu : RSl S u (proofM c k)) => (verify_c w hst hG (rootM c) c[k] (rootM_len c) (hc16 _ (List.getElem_mem hkc)) c.length k (by omega) (by omega) u (proofM c k) hu (by have := proofM_cnt c k; omega)).eq (verify_complete hkc)
          rw [hck, ← hEp, ← hEc] at cV
          have cP := fun {S : Snap} {M : List Chunk} (w : World) (hst : St S M w) (hG : Glob S) (v : Value) (hv : RSl S v c) => prove_c w hst hG v c hv k hkc (by omega)
          have cH := fun {S : Snap} {M : List Chunk} (w : World) (hst : St S M w) (hG : Glob S) (cs : List Value) (hR : Rep.R S cs ev) => head_c w hst hG cs ev hR (by omega) (by omega) (by omega)
          have hp16 := proofM_len c k
          generalize headM ev = E at *
          generalize proofM c k = pf at *
          have tE : (E.2.2.1 == (c.length : Int)) = true := by rw [hEc]; simp
          clear hEc hEp hcE hck
          repeat' (first | (((with_reducible (refine Sl.k_field ?_; refine s_ex hst (qt_fieldp evX hpe inX inX rfl) ?_; rintro vf hpf))) <;> (try refine nY ?_)) | (((with_reducible refine Sl.k_call ?_; ((refine s_call (cH _ hst hG _ asX) inX rfl ?_; clear hst; rintro v w ⟨rfl, hst⟩)))) <;> (try refine nY ?_) <;> (try replace hst := nH hst)) | ((fail_if_success (go_big_may)); (go_step)) | ((first | (with_reducible refine Sl.k_load ?_; (first | (refine s_ex hst (qt_ldp_list evX asX inX) ?_; rintro v ⟨hvl, hv1⟩) | (refine s_ex hst (qt_ldp evX asX inX) ?_; rintro v ⟨cl, rfl, hcl⟩))) | (with_reducible refine Sl.k_call ?_; (refine s_qt hst (by exact qt_len evX asX inX) ?_))) <;> (try refine nY ?_)) | (with_reducible refine Sl.gate rfl ?_; (go_step)) | (((((refine s_alloc hst inX ?_; clear hst; intro bk w hst)))) <;> (try refine nY ?_) <;> (try replace hst := nH hst)))
          refine s_stW0 hst rfl BoxIn.h inX (x0 := E) (cs := hdC E) evX (r_hd okE) rfl ?_
          clear hst; intro w hst
          (try refine nY ?_)
          (try replace hst := nH hst)
          obtain ⟨S4, hS4, hst, hpE⟩ := pt_box (α := Hd) hst (r_hd okE) (Rep.len (S := S3) (r_hd okE))
          replace hG := hG.mono hS4
          replace hpe := hpe.mono hS4
          replace hvc := hvc.mono hS4
          replace hpts := hpts.mono hS4
          repeat' (first | (((with_reducible refine Sl.k_call ?_; ((refine s_call (cP _ hst hG _ hvc) inX rfl ?_; clear hst; rintro v w ⟨u, rfl, hst⟩)))) <;> (try refine nY ?_) <;> (try replace hst := nH hst)) | ((fail_if_success (go_big_may)); (go_step)) | (with_reducible refine Sl.gate rfl ?_; (go_step)))
          obtain ⟨S5, hS5, hst, hu⟩ := St.freeze (α := Dg) hst (rl_digs hp16) rfl
          have hu1 := hu.oneCell
          replace hG := hG.mono hS5
          replace hpe := hpe.mono hS5
          replace hvc := hvc.mono hS5
          replace hpts := hpts.mono hS5
          replace hpE := hpE.mono hS5
          repeat' (fail)
          refine v_begin hst (by kernel_rfl) ?_; clear hst; intro ops; (try refine nY ?_)
          (refine t_qt 0 rfl (by kernel_rfl) rfl rfl (by exact qt_move evX) ?_) <;> (try refine nY ?_)
          (refine t_qt 1 rfl (by kernel_rfl) rfl rfl (by exact qt_move evX) ?_) <;> (try refine nY ?_)
          (refine t_qt 2 rfl (by kernel_rfl) rfl rfl (by exact qt_move evX) ?_) <;> (try refine nY ?_)
          ((refine t_qt 3 rfl (by kernel_rfl) rfl rfl (qt_eql_self rfl rfl) ?_)) <;> (try refine nY ?_)
          (refine t_qt 4 rfl (by kernel_rfl) rfl rfl (by exact qt_pick_t rfl evX) ?_) <;> (try refine nY ?_)
          (refine t_qt 5 rfl (by kernel_rfl) rfl rfl (by exact qt_move evX) ?_) <;> (try refine nY ?_)
          (((refine t_ex0 6 rfl (by kernel_rfl) rfl rfl (qt_fieldp evX hpE inX inX rfl ) ?_; rintro  vg hpg))) <;> (try refine nY ?_)
          ((refine t_ex0 7 rfl (by kernel_rfl) rfl rfl (qt_ldp_int evX asX inX) ?_; rintro v ⟨rfl, hI⟩)) <;> (try refine nY ?_)
          (refine t_qt 8 rfl (by kernel_rfl) rfl rfl (by exact qt_move evX) ?_) <;> (try refine nY ?_)
          (refine t_qt 9 rfl (by kernel_rfl) rfl rfl (by exact qt_len evX asX inX) ?_) <;> (try refine nY ?_)
          ((refine t_qt 10 rfl (by kernel_rfl) rfl rfl (qt_eql_b rfl rfl tE) ?_)) <;> (try refine nY ?_)
          (refine t_qt 11 rfl (by kernel_rfl) rfl rfl (by exact qt_pick_t rfl evX) ?_) <;> (try refine nY ?_)
          (refine t_qt 12 rfl (by kernel_rfl) rfl rfl (by exact qt_move evX) ?_) <;> (try refine nY ?_)
          (((refine t_ex0 13 rfl (by kernel_rfl) rfl rfl (qt_fieldp evX hpE inX inX rfl ) ?_; rintro  vg hpg))) <;> (try refine nY ?_)
          (refine t_qt 14 rfl (by kernel_rfl) rfl rfl (by exact qt_ldp_flat evX asX inX inX rfl) ?_) <;> (try refine nY ?_)
          (((refine t_ex0 15 rfl (by kernel_rfl) rfl rfl (qt_fieldp evX hpE inX inX rfl ) ?_; rintro  vg hpg))) <;> (try refine nY ?_)
          ((refine t_ex0 16 rfl (by kernel_rfl) rfl rfl (qt_ldp_int evX asX inX) ?_; rintro v ⟨rfl, hI⟩)) <;> (try refine nY ?_)
          (refine t_qt 17 rfl (by kernel_rfl) rfl rfl (by exact qt_move evX) ?_) <;> (try refine nY ?_)
          (refine t_qt 18 rfl (by kernel_rfl) rfl rfl (by exact qt_move evX) ?_) <;> (try refine nY ?_)
          (((refine t_ex0 19 rfl (by kernel_rfl) rfl rfl (qt_fieldp evX hpe inX inX rfl ) ?_; rintro  vg hpg))) <;> (try refine nY ?_)
          ((refine t_ex0 20 rfl (by kernel_rfl) rfl rfl (qt_ldp_list evX asX inX) ?_; rintro v ⟨hvl, hv1⟩)) <;> (try refine nY ?_)
          (refine t_qt 21 rfl (by kernel_rfl) rfl rfl (by exact qt_move evX) ?_) <;> (try refine nY ?_)
          ((refine t_ex0 22 rfl (by kernel_rfl) rfl rfl (qt_index evX asX rfl inX inX omX omX) ?_; rintro v hp; (try simp only [Int.toNat_natCast, Int.toNat_natCast_add_one, Int.reduceToNat] at hp))) <;> (try refine nY ?_)
          ((refine t_ex0 23 rfl (by kernel_rfl) rfl rfl (qt_ldp_int evX asX inX) ?_; rintro v ⟨rfl, hI⟩)) <;> (try refine nY ?_)
          ((refine t_call 24 rfl (by kernel_rfl) rfl (fun S' M' w hS hM hst => pleaf_c w hst (hG.mono hS) (k : Int) ev.2.2.1[k] hki hk64) inX rfl ?_)) <;> (try refine nY ?_)
          (refine t_qt 25 rfl (by kernel_rfl) rfl rfl (by exact qt_move evX) ?_) <;> (try refine nY ?_)
          ((refine t_call 26 rfl (by kernel_rfl) rfl (fun S' M' w hS hM hst => cV w hst (hG.mono hS) u (hu.mono hS)) inX rfl ?_)) <;> (try refine nY ?_)
          (refine t_qt 27 rfl (by kernel_rfl) rfl rfl (by exact qt_pick_t rfl evX) ?_) <;> (try refine nY ?_)
          (refine t_qt 28 rfl (by kernel_rfl) rfl rfl (by exact qt_assign evX) ?_) <;> (try refine nY ?_)
          refine v_done (by kernel_rfl) ?_; clear ops; intro w hst
          repeat' (((fail_if_success (go_big_may)); (go_step)))
          go_ret
          exact ⟨_, rfl, rfl, St.weaken ((((hS1.trans hS2).trans hS3).trans hS4).trans hS5) hst⟩
end Go.Proofs.YtcobalpbencboaaDoor

/- The statement RegisterPointsProvable. -/
namespace Go.Proofs.YtcobalpbencboaaDoor
set_option linter.unusedSimpArgs false
set_option linter.unusedVariables false
open Go.RowKit Go.Sl Go.ChangeShapes Go.WideShapes Go.ChangeAt

set_option maxRecDepth 20000 in
theorem rprov_post (H : Type) (enc : TypeId × Value → H) (W : World) (base : Nat) (args : Array Value) (ds gs : List (DataW H)) (before : List MemPlace)
    (hval : ∀ (j : Nat) t v, Tryd.f14.params[j]? = some t → args[j]? = some v → Value.okWide Tryd.prog W .any base t v)
    (hW : DataW.Whole enc Tryd.prog Tryd.f14.params.toList Rows.registerPointsProvableSpec.vars false W args.toList ds gs before) (hk : Rows.uptoSmall H (ds ++ gs) = true) (hL : laidMetH Tryd.prog Rows.registerPointsProvableUptoRow.laid W) :
    Calls Tryd.prog 14 args W fun e W' => ∃ v, e = .returned v ∧ Rows.registerPointsProvableSpec.post enc Tryd.prog Tryd.f14 false true false false W args v W' := by
  have hW' := hW
  obtain ⟨p, q, hA0, hV, rfl, hfz, hnd⟩ := hW
  have hA : DataW.TrodAll enc Tryd.prog W 0 (fun _ => true) true Tryd.f14.params.toList args.toList ds p := hA0
  have hk := small_all hk
  rw [Tryd.params14] at hA hval
  obtain ⟨v0, vs0, d0, ds0, p0, q0, hargs, rfl, rfl, h0, r0⟩ := trodAll_cons hA
  obtain ⟨v1, vs1, d1, ds1, p1, q1, rfl, rfl, rfl, h1, r1⟩ := trodAll_cons r0
  obtain ⟨rfl, rfl, rfl⟩ := trodAll_nil r1
  obtain rfl : args = #[v0, v1] := by cases args; simp_all
  obtain ⟨rfl, rfl⟩ := trodVars_none hV
  simp only [List.append_nil, Rows.uptoBulkAll] at hk
  obtain ⟨c0, e0, rfl, hR0⟩ := open_ev (hval 0 40 v0 rfl rfl) h0
  obtain ⟨n1, rfl, hn1⟩ := open_u8 (hval 1 5 v1 rfl rfl) h1
  refine Calls.mono (provable_c W (St.start W) (glob_of hL) c0 e0 hR0 n1 hn1) fun e W' ⟨v, he, hv, hst⟩ => ?_
  subst hv
  exact ⟨_, he, law_post (tb := 4) rfl hW' (by kernel_rfl) (by rw [Tryd.params14]; intro t ht'; have e : t = 40 ∨ t = 5 := (by simpa using ht'); rcases e with rfl | rfl <;> exact ⟨by kernel_rfl, of_decide_eq_true (by kernel_rfl)⟩) (by kernel_rfl) (by kernel_rfl) rfl rfl rfl hst.below⟩

abbrev rprov_args : Array Value := #[.agg #[.int .u8 0, .int .u8 0, .int .u8 0, .int .u8 0, .int .u8 0, .int .u8 0, .int .u8 0, .int .u8 0, .int .u8 0, .int .u8 0, .int .u8 0, .int .u8 0, .int .u8 0, .int .u8 0, .int .u8 0, .int .u8 0, .slice none 0 0, .slice none 0 0, .slice none 0 0, .int .i64 0], .int .u8 0]
theorem rprov_met (os : Os) : laidMet Tryd.prog Rows.registerPointsProvableUptoRow.laid ((laidWorld os #[]).forCall (fun _ _ => 0) ⟨#[], rprov_args, []⟩).memory :=
  laidMet_of_run' 8 (by kernel_rfl) (by kernel_rfl)
theorem rprov_reads (os : Os) {H : Type} (enc : TypeId × Value → H) : ∃ places, DataW.whole enc Tryd.prog ((laidWorld os #[]).forCall (fun _ _ => 0) ⟨#[], rprov_args, []⟩).memory Tryd.f14.params.toList Rows.registerPointsProvableSpec.vars false rprov_args.toList 8 = some ([.agg [.agg [.lit (.int .u8 0), .lit (.int .u8 0), .lit (.int .u8 0), .lit (.int .u8 0), .lit (.int .u8 0), .lit (.int .u8 0), .lit (.int .u8 0), .lit (.int .u8 0), .lit (.int .u8 0), .lit (.int .u8 0), .lit (.int .u8 0), .lit (.int .u8 0), .lit (.int .u8 0), .lit (.int .u8 0), .lit (.int .u8 0), .lit (.int .u8 0)], .nil, .nil, .nil, .lit (.int .i64 0)], .lit (.int .u8 0)], [], places) :=
  ⟨[], by kernel_rfl⟩

set_option maxRecDepth 100000 in
theorem rprov_lifted (os : Os) (started : os.Started) (H : Type) (enc : TypeId × Value → H) (F : Stop.Interp) :
    ReturnsInHanded {} Tryd.checked os 14 .any ((Rows.OpenSpec.upto Rows.registerPointsProvableSpec).preRow enc Tryd.prog Tryd.f14 Rows.registerPointsProvableUptoRow.domain false Rows.registerPointsProvableUptoRow.laid) (((Rows.OpenSpec.upto Rows.registerPointsProvableSpec).at F).post enc Tryd.prog Tryd.f14 false true false false) := by
  obtain ⟨places, hx⟩ := rprov_reads os enc
  refine returnsInHanded_of_row (C := Tryd.checked) (s := Rows.OpenSpec.upto Rows.registerPointsProvableSpec) own started (by kernel_rfl) Tryd.func14
    (witness_row_at (enc := enc) (C := Tryd.checked) false (laidWorld os #[]) rprov_args rfl (by kernel_rfl) (by kernel_rfl) (by kernel_rfl)
      (OpenSpec.preRow_of_cond 8 hx (by kernel_rfl) (fun k hk => by cases hk; kernel_rfl) (by kernel_rfl) (rprov_met os))) ?_
  intro W base args ds gs before hval hW _ hc _ hL _ _
  exact rprov_post H enc W base args ds gs before hval hW (hc _ rfl) hL

theorem rprov_said : Rows.RegisterPointsProvableUptoSaid :=
  OpenClaim.holds_of_cond 14 Tryd.f14 rfl rfl rfl rfl rfl rfl rfl ⟨rfl, rfl, rfl, rfl, rfl⟩ rfl rfl rfl rfl rfl (by kernel_rfl) Tryd.func14 (by kernel_rfl)
    (of_decide_eq_true (by kernel_rfl)) (by unfold Func.isWrapper; first | (rw [if_pos (by decide +kernel)]; kernel_rfl) | (rw [if_neg (by decide +kernel)]; exact ⟨rfl, rfl⟩))
    (fun os started H enc _ F => by rw [OpenClaim.pre_eq_preRow]; exact rprov_lifted os started H enc F)

theorem rprov_plain (f : FuncId) (fn : Func) (hf : Tryd.pinned.checked.prog.funcNamed "bootchain/bootchainlaw20.RegisterPointsProvable" = some f) (hfn : Tryd.pinned.checked.prog.funcs[f]? = some fn) :
    false = Tryd.pinned.checked.prog.looks [] ∧ ∀ (j : Nat) t, fn.params[j]? = some t → Tryd.pinned.checked.prog.wantsStandIn t = false := by
  obtain rfl : f = 14 := Option.some.inj ((show Tryd.prog.funcNamed "bootchain/bootchainlaw20.RegisterPointsProvable" = some 14 by kernel_rfl).symm.trans hf) |>.symm
  obtain rfl : fn = Tryd.f14 := (Option.some.inj (Tryd.func14.symm.trans hfn)).symm
  refine ⟨by kernel_rfl, fun j t ht => ?_⟩
  rw [Tryd.params14] at ht
  have e : t = 40 ∨ t = 5 := by simpa using Array.mem_of_getElem? ht
  rcases e with rfl | rfl
  · exact (show Tryd.prog.wantsStandIn 40 = false by kernel_rfl)
  · exact (show Tryd.prog.wantsStandIn 5 = false by kernel_rfl)

theorem rprov_proved : Rows.RegisterPointsProvableUptoCardSaid :=
  Claim7.holds_tied_plain_at .later [] _ _ _ _ rprov_said (fun _ h => by cases h) (by kernel_rfl) (fun _ h => by cases h) registerPointsProvableUpto_row_tie rfl ⟨rfl, rfl⟩ (by kernel_rfl) rfl rprov_plain (by kernel_rfl)
end Go.Proofs.YtcobalpbencboaaDoor
