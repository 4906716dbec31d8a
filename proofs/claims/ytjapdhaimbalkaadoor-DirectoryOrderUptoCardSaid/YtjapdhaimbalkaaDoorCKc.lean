/- The statement DirectoryOrder. -/
import Derived.Test.YtjapdhaimbalkaaDoorBb
import Derived.Test.YtjapdhaimbalkaaDoorBh

/- The statement DirectoryOrder, walked. -/
--@hgp
--@flat
--@dg
--@ex0
namespace Go.Proofs.YtjapdhaimbalkaaDoor
set_option linter.unusedSimpArgs false
set_option linter.unusedVariables false
open Go.RowKit Go.Sl Go.Srt

theorem nrm_perm2 {l p : List Fa} (ol : ∀ f ∈ l, FaOk f) (h : p.Perm l) : nrm (p ++ p) = nrm l := by
  have op : ∀ f ∈ p, FaOk f := fun f hf => ol f (h.mem_iff.1 hf)
  exact nrm_congr (ok_app op op) ol fun y _ => by rw [List.mem_append, or_self, h.mem_iff]

set_option maxRecDepth 60000 in
set_option maxHeartbeats 4000000 in
theorem dorder_c {S M} (w : World) (hst : St S M w) (hG : Glob S) (vl : Value) (l : List Fa) (hl : RSl S vl l) (hm : l.length ≤ 1048576) (vs : Value) (sw : List UInt8) (hs : RSl S vs sw) (hm2 : sw.length ≤ 1048576) :
    Rets Tryd.prog 3 [vl, vs] w fun v w' => v = .bool true ∧ St S M w' := by
  unfold Rets
  have kl := hl.oneCell
  have ks := hs.oneCell
  obtain ⟨z1, hz1⟩ : ∃ z, fewD l = z := ⟨_, rfl⟩
  have cW1 := fun {S : Snap} {M : List Chunk} (w : World) (hst : St S M w) (cs : List Value) (h : Rep.R S cs ((l, ()) : Dir)) => (wfew_c w hst cs l h).eq hz1
  by_cases h12 : 12 < l.length
  · clear hz1
    go_enter Tryd.func3, Tryd.ntmps3
    repeat' ((fail_if_success (with_reducible show Code.wp _ (Code.region 2 _ _) _ _ _)); first | (((with_reducible refine Sl.k_call ?_; ((refine s_call (dsanity_c _ hst hG) inX rfl ?_; clear hst; rintro v w ⟨rfl, hst⟩)))) <;> (try refine nX ?_) <;> (try replace hst := nH hst)) | ((fail_if_success (go_big_may)); (go_step)))
    repeat' (first | go_skip | (((with_reducible refine Sl.k_guard ?_; ((refine Sl.guard_cases rfl ?_ ?_ <;> intro hg <;> first | (exfalso; simp only [decide_eq_true_eq, decide_eq_false_iff_not, Bool.not_false, Bool.not_true, beq_iff_eq, beq_eq_false_iff_ne, ne_eq] at hg; omega) | (simp only [hg, Bool.not_true, Bool.not_false])) <;> (try simp only [decide_eq_true_eq, decide_eq_false_iff_not, Bool.not_false, Bool.not_true, beq_iff_eq, beq_eq_false_iff_ne, bne_iff_ne, bne_eq_false_iff_eq, ne_eq] at hg)))) <;> (try refine nX ?_)) | ((fail_if_success (go_big_may)); (go_step)) | (((with_reducible refine Sl.k_call ?_; (refine s_qt hst (by exact qt_len evX asX inX) ?_))) <;> (try refine nX ?_)) | (with_reducible refine Sl.gate rfl ?_; (go_step)))
    go_ret
    exact ⟨_, rfl, rfl, hst⟩
  · by_cases h40 : 40 < sw.length
    · clear hz1
      go_enter Tryd.func3, Tryd.ntmps3
      repeat' ((fail_if_success (with_reducible show Code.wp _ (Code.region 2 _ _) _ _ _)); first | (((with_reducible refine Sl.k_call ?_; ((refine s_call (dsanity_c _ hst hG) inX rfl ?_; clear hst; rintro v w ⟨rfl, hst⟩)))) <;> (try refine nX ?_) <;> (try replace hst := nH hst)) | ((fail_if_success (go_big_may)); (go_step)))
      repeat' (first | go_skip | (((with_reducible refine Sl.k_guard ?_; (first | (refine Sl.guard_yes rfl ?_) | (refine Sl.guard_cases rfl ?_ ?_ <;> intro hg <;> first | (exfalso; simp only [decide_eq_true_eq, decide_eq_false_iff_not, Bool.not_false, Bool.not_true, beq_iff_eq, beq_eq_false_iff_ne, ne_eq] at hg; omega) | (simp only [hg, Bool.not_true, Bool.not_false])) <;> (try simp only [decide_eq_true_eq, decide_eq_false_iff_not, Bool.not_false, Bool.not_true, beq_iff_eq, beq_eq_false_iff_ne, bne_iff_ne, bne_eq_false_iff_eq, ne_eq] at hg)))) <;> (try refine nX ?_)) | ((fail_if_success (go_big_may)); (go_step)) | (((with_reducible refine Sl.k_call ?_; (refine s_qt hst (by exact qt_len evX asX inX) ?_))) <;> (try refine nX ?_)) | (with_reducible refine Sl.gate rfl ?_; (go_step)))
      go_ret
      exact ⟨_, rfl, rfl, hst⟩
    · cases z1 with
      | false =>
        clear hz1
        go_enter Tryd.func3, Tryd.ntmps3
        repeat' ((fail_if_success (with_reducible show Code.wp _ (Code.region 2 _ _) _ _ _)); first | (((with_reducible refine Sl.k_call ?_; ((refine s_call (dsanity_c _ hst hG) inX rfl ?_; clear hst; rintro v w ⟨rfl, hst⟩)))) <;> (try refine nX ?_) <;> (try replace hst := nH hst)) | ((fail_if_success (go_big_may)); (go_step)))
        repeat' (first | ((first | (with_reducible (refine Sl.k_build ?_; with_unfolding_all refine s_ex hst (qt_buildP (x' := ((l, ()) : Dir)) inX inX nil_dir (.cons (k := 0) (y := l) (r_listD hl) rfl .nil)) ?_; rintro vz ⟨cz, rfl, hcz⟩)) | (with_reducible refine Sl.k_guard ?_; (first | (refine Sl.guard_yes rfl ?_) | (refine Sl.guard_cases rfl ?_ ?_ <;> intro hg <;> first | (exfalso; simp only [decide_eq_true_eq, decide_eq_false_iff_not, Bool.not_false, Bool.not_true, beq_iff_eq, beq_eq_false_iff_ne, ne_eq] at hg; omega) | (simp only [hg, Bool.not_true, Bool.not_false])) <;> (try simp only [decide_eq_true_eq, decide_eq_false_iff_not, Bool.not_false, Bool.not_true, beq_iff_eq, beq_eq_false_iff_ne, bne_iff_ne, bne_eq_false_iff_eq, ne_eq] at hg)))) <;> (try refine nX ?_)) | (((with_reducible refine Sl.k_call ?_; ((refine s_call (cW1 _ hst cz hcz) inX rfl ?_; clear hst; rintro v w ⟨rfl, hst⟩)))) <;> (try refine nX ?_) <;> (try replace hst := nH hst)) | ((fail_if_success (go_big_may)); (go_step)) | (((with_reducible refine Sl.k_call ?_; (refine s_qt hst (by exact qt_len evX asX inX) ?_))) <;> (try refine nX ?_)) | (with_reducible refine Sl.gate rfl ?_; (go_step)))
        go_ret
        exact ⟨_, rfl, rfl, hst⟩
      | true =>
        have ol := fas_in hl (fewD_of hz1).2
        clear hz1
        by_cases h0 : 0 < l.length
        rotate_left
        · clear ol
          have hl0 : l.length = 0 := by omega
          have h00 : ¬ ((0 : Int) < (l.length : Int)) := by omega
          have hsw : 0 < sw.length ∨ sw.length = 0 := by omega
          rcases hsw with hsw | hsw
          all_goals
            go_enter Tryd.func3, Tryd.ntmps3
            repeat' ((fail_if_success (with_reducible show Code.wp _ (Code.region 2 _ _) _ _ _)); first | (((with_reducible refine Sl.k_call ?_; ((refine s_call (dsanity_c _ hst hG) inX rfl ?_; clear hst; rintro v w ⟨rfl, hst⟩)))) <;> (try refine nX ?_) <;> (try replace hst := nH hst)) | ((fail_if_success (go_big_may)); (go_step)))
            repeat' (first | ((first | (with_reducible (refine Sl.k_build ?_; with_unfolding_all refine s_ex hst (qt_buildP (x' := ((l, ()) : Dir)) inX inX nil_dir (.cons (k := 0) (y := l) (r_listD hl) rfl .nil)) ?_; rintro vz ⟨cz, rfl, hcz⟩)) | (with_reducible refine Sl.k_guard ?_; (first | (refine Sl.guard_yes rfl ?_) | (refine Sl.guard_cases rfl ?_ ?_ <;> intro hg <;> first | (exfalso; simp only [decide_eq_true_eq, decide_eq_false_iff_not, Bool.not_false, Bool.not_true, beq_iff_eq, beq_eq_false_iff_ne, ne_eq] at hg; omega) | (simp only [hg, Bool.not_true, Bool.not_false])) <;> (try simp only [decide_eq_true_eq, decide_eq_false_iff_not, Bool.not_false, Bool.not_true, beq_iff_eq, beq_eq_false_iff_ne, bne_iff_ne, bne_eq_false_iff_eq, ne_eq] at hg)))) <;> (try refine nX ?_)) | (((with_reducible refine Sl.k_call ?_; ((refine s_call (cW1 _ hst cz hcz) inX rfl ?_; clear hst; rintro v w ⟨rfl, hst⟩)))) <;> (try refine nX ?_) <;> (try replace hst := nH hst)) | ((fail_if_success (go_big_may)); (go_step)) | (((with_reducible refine Sl.k_call ?_; (refine s_qt hst (by exact qt_len evX asX inX) ?_))) <;> (try refine nX ?_)) | (with_reducible refine Sl.gate rfl ?_; (go_step)))
            refine s_lit (vs := []) hst inX inX rfl rfl (by simp) rfl (by omega) (by omega) ?_
            clear hst; intro x0 w hst
            (try refine nX ?_)
            (try replace hst := nH hst)
            repeat' (((fail_if_success (go_big_may)); (go_step)))
            refine s_append_data (α := Fa) (k := 0) hst rfl rfl rfl hl inX inX inX (by omega) (by omega) (by decide) ?_
            clear hst; intro v0 w c0 hc0 hst
            (try refine nX ?_)
            (try replace hst := nH hst)
            repeat' ((fail_if_success (with_reducible show Code.wp _ (Code.region 5 _ _) _ _ _)); ((fail_if_success (go_big_may)); (go_step)))
            have hone0 := sl_onek (k := 0) hst rfl
            have hone := hc0.one
            clear hcz
            repeat' (((fail_if_success (go_big_may)); (go_step)))
            go_loopw [7] (fun v wr => v = .int .i64 0 ∧ St S (.sl v0 34 (Rep.z Fa) l.length c0 :: M) wr) (fun v _ => 0)
            case atStart => exact ⟨rfl, hst⟩
            case round =>
              clear hst
              obtain ⟨rfl, hst⟩ := hrel
              repeat' (first | (((with_reducible refine Sl.k_guard ?_; (first | (refine Sl.guard_yes rfl ?_) | (refine Sl.guard_no rfl ?_)))) <;> (try refine nX ?_)) | ((fail_if_success (go_big_may)); (go_step)) | (((with_reducible refine Sl.k_call ?_; (refine s_qt hst (by first | exact qt_len evX asX inX | exact qt_len_own evX SlIn.h inX) ?_))) <;> (try refine nX ?_)) | (with_reducible refine Sl.gate rfl ?_; (go_step)))
              refine s_append (k := 0) (j := 0) hst rfl rfl rfl rfl inX inX inX hone (by omega) (by omega) (by decide) ?_
              clear hst; intro v1 w hst
              (try refine nX ?_)
              (try replace hst := nH hst)
              repeat' ((fail_if_success (with_reducible show Code.wp _ (Code.region 14 _ _) _ _ _)); ((fail_if_success (go_big_may)); (go_step)))
              obtain ⟨S6, hS6, hst, hL2⟩ := St.freeze (α := Fa) (xs := l ++ l) hst (hc0.append hc0) (by rw [List.length_append])
              have hLL : (l ++ l).length = 0 := by rw [List.length_append]; omega
              obtain ⟨L2, hL2e⟩ : ∃ L2, l ++ l = L2 := ⟨_, rfl⟩
              rw [hL2e] at hL2 hLL
              have kL2 := hL2.oneCell
              clear hL2e hone hc0
              have hl6 := hl.mono hS6
              repeat' ((fail_if_success (with_reducible show Code.wp _ (Code.region 15 _ _) _ _ _)); first | ((fail_if_success (go_big_may)); (go_step)) | (with_reducible refine Sl.gate rfl ?_; (go_step)) | ((((first | (with_reducible refine Sl.k_store ?_; (refine s_store hst rfl _ BoxIn.h inX evX rfl lenOk oneOk (by simp) ?_); clear hst; intro w hst) | (refine s_alloc hst inX ?_; clear hst; intro bk w hst)))) <;> (try refine nX ?_) <;> (try replace hst := nH hst)))
              rename Nat => b11
              repeat' (((fail_if_success (go_big_may)); (go_step)))
              go_loopw [12] (fun v wr => v = .int .i64 0 ∧ St S6 (.box b11 [.slice none 0 0] 27 :: M) wr) (fun v _ => 0)
              case atStart => exact ⟨rfl, hst⟩
              case round =>
                clear hst
                obtain ⟨rfl, hst⟩ := hrel
                repeat' ((fail_if_success (with_reducible show Code.wp _ (Code.region 21 _ _) _ _ _)); first | ((fail_if_success (go_big_may)); (go_step)) | (((with_reducible refine Sl.k_call ?_; (refine s_qt hst (by exact qt_len evX asX inX) ?_))) <;> (try refine nX ?_)) | (with_reducible refine Sl.gate rfl ?_; (go_step)))
                obtain ⟨S8, hS8, hst0, hpx⟩ := pt_box (α := Dir) (x := ([], ())) hst nil_dir rfl
                clear hst
                have hst := hst0
                clear hst0
                have hL8 := hL2.mono hS8
                repeat' ((fail_if_success (with_reducible show Code.wp _ (Code.region 22 _ _) _ _ _)); first | ((fail_if_success (go_big_may)); (go_step)) | (with_reducible refine Sl.gate rfl ?_; (go_step)) | ((((first | (with_reducible refine Sl.k_store ?_; (refine s_store hst rfl _ BoxIn.h inX evX rfl lenOk oneOk (by simp) ?_); clear hst; intro w hst) | (refine s_alloc hst inX ?_; clear hst; intro bk w hst)))) <;> (try refine nX ?_) <;> (try replace hst := nH hst)))
                rename Nat => b15
                repeat' (((fail_if_success (go_big_may)); (go_step)))
                go_loopw [16] (fun v wr => v = .int .i64 0 ∧ St S8 (.box b15 [.slice none 0 0] 27 :: M) wr) (fun v _ => 0)
                case atStart => exact ⟨rfl, hst⟩
                case round =>
                  clear hst
                  obtain ⟨rfl, hst⟩ := hrel
                  repeat' ((fail_if_success (with_reducible show Code.wp _ (Code.region 28 _ _) _ _ _)); first | ((fail_if_success (go_big_may)); (go_step)) | (((with_reducible refine Sl.k_call ?_; (refine s_qt hst (by exact qt_len evX asX inX) ?_))) <;> (try refine nX ?_)) | (with_reducible refine Sl.gate rfl ?_; (go_step)))
                  obtain ⟨S9, hS9, hst0, hpz⟩ := pt_box (α := Dir) (x := ([], ())) hst nil_dir rfl
                  clear hst
                  have hst := hst0
                  clear hst0
                  replace hpx := hpx.mono hS9
                  repeat' (first | ((first | (with_reducible (refine Sl.k_load ?_; (first | (refine s_ex hst (qt_ldp (α := Dir) (y := ([], ())) evX hpx inX) ?_; rintro v55 ⟨ca, rfl, hca⟩) | (refine s_ex hst (qt_ldp (α := Dir) (y := ([], ())) evX hpz inX) ?_; rintro v56 ⟨cb, rfl, hcb⟩)))) | (with_reducible refine Sl.k_guard ?_; ((refine Sl.guard_yes rfl ?_)))) <;> (try refine nX ?_)) | (((with_reducible refine Sl.k_call ?_; ((refine s_call (wsame_yes _ hst ca cb [] hca hcb (by simp) (by simp)) inX rfl ?_; clear hst; rintro v w ⟨rfl, hst⟩)))) <;> (try refine nX ?_) <;> (try replace hst := nH hst)) | ((fail_if_success (go_big_may)); (go_step)))
                  go_ret
                  exact ⟨_, rfl, rfl, St.weaken ((hS6.trans hS8).trans hS9) hst⟩
        go_enter Tryd.func3, Tryd.ntmps3
        repeat' ((fail_if_success (with_reducible show Code.wp _ (Code.region 2 _ _) _ _ _)); first | (((with_reducible refine Sl.k_call ?_; ((refine s_call (dsanity_c _ hst hG) inX rfl ?_; clear hst; rintro v w ⟨rfl, hst⟩)))) <;> (try refine nX ?_) <;> (try replace hst := nH hst)) | ((fail_if_success (go_big_may)); (go_step)))
        repeat' (first | ((first | (with_reducible (refine Sl.k_build ?_; with_unfolding_all refine s_ex hst (qt_buildP (x' := ((l, ()) : Dir)) inX inX nil_dir (.cons (k := 0) (y := l) (r_listD hl) rfl .nil)) ?_; rintro vz ⟨cz, rfl, hcz⟩)) | (with_reducible refine Sl.k_guard ?_; (first | (refine Sl.guard_yes rfl ?_) | (refine Sl.guard_cases rfl ?_ ?_ <;> intro hg <;> first | (exfalso; simp only [decide_eq_true_eq, decide_eq_false_iff_not, Bool.not_false, Bool.not_true, beq_iff_eq, beq_eq_false_iff_ne, ne_eq] at hg; omega) | (simp only [hg, Bool.not_true, Bool.not_false])) <;> (try simp only [decide_eq_true_eq, decide_eq_false_iff_not, Bool.not_false, Bool.not_true, beq_iff_eq, beq_eq_false_iff_ne, bne_iff_ne, bne_eq_false_iff_eq, ne_eq] at hg)))) <;> (try refine nX ?_)) | (((with_reducible refine Sl.k_call ?_; ((refine s_call (cW1 _ hst cz hcz) inX rfl ?_; clear hst; rintro v w ⟨rfl, hst⟩)))) <;> (try refine nX ?_) <;> (try replace hst := nH hst)) | ((fail_if_success (go_big_may)); (go_step)) | (((with_reducible refine Sl.k_call ?_; (refine s_qt hst (by exact qt_len evX asX inX) ?_))) <;> (try refine nX ?_)) | (with_reducible refine Sl.gate rfl ?_; (go_step)))
        refine s_lit (vs := []) hst inX inX rfl rfl (by simp) rfl (by omega) (by omega) ?_
        clear hst; intro x0 w hst
        (try refine nX ?_)
        (try replace hst := nH hst)
        repeat' (((fail_if_success (go_big_may)); (go_step)))
        refine s_append_data (α := Fa) (k := 0) hst rfl rfl rfl hl inX inX inX (by omega) (by omega) (by decide) ?_
        clear hst; intro v0 w c0 hc0 hst
        (try refine nX ?_)
        (try replace hst := nH hst)
        repeat' ((fail_if_success (with_reducible show Code.wp _ (Code.region 5 _ _) _ _ _)); ((fail_if_success (go_big_may)); (go_step)))
        have hone0 := sl_onek (k := 0) hst rfl
        clear hcz
        repeat' (((fail_if_success (go_big_may)); (go_step)))
        go_loopw [7] (fun v wr => ∃ (i : Nat) (c : List Value) (p : List Fa), i ≤ sw.length ∧ v = .int .i64 i ∧ RL S c p ∧ Hid (p.Perm l) ∧ St S (.sl v0 34 (Rep.z Fa) l.length c :: M) wr) (fun v _ => sw.length - (intOf v).toNat)
        case atStart => exact ⟨0, c0, l, Nat.zero_le _, rfl, hc0, Lib.hid (List.Perm.refl _), hst⟩
        case round =>
          clear hst hc0
          obtain ⟨i, c, p, hi, rfl, hR, hP, hst⟩ := hrel
          have hpl : p.length = l.length := hP.out.length_eq
          by_cases hlt : i < sw.length
          · have hby := (sw[i]).toNat_lt
            obtain ⟨A, hA⟩ : ∃ A : Nat, sw[i].toNat % l.length = A := ⟨_, rfl⟩
            obtain ⟨B, hB⟩ : ∃ B : Nat, sw[i].toNat / 16 % l.length = B := ⟨_, rfl⟩
            have hAl : A < l.length := by rw [← hA]; exact Nat.mod_lt _ h0
            have hBl : B < l.length := by rw [← hB]; exact Nat.mod_lt _ h0
            have hn0 : (l.length : Int) ≠ 0 := by omega
            have tA : ((sw[i].toNat : Int)).tmod (l.length : Int) = (A : Int) := by rw [Int.tmod_eq_emod_of_nonneg (by omega), ← hA]; push_cast; rfl
            have tB : ((sw[i].toNat : Int) / 16).tmod (l.length : Int) = (B : Int) := by rw [Int.tmod_eq_emod_of_nonneg (by omega), ← hB]; push_cast; rfl
            clear hA hB
            have gA := getD_some (d := fR) (show A < p.length by omega)
            have gB := getD_some (d := fR) (show B < p.length by omega)
            have hqq := Lib.hid ((swap_perm (d := fR) (show A < p.length by omega) (show B < p.length by omega)).trans hP.out)
            have hpA : A < p.length := by omega
            have hpB : B < p.length := by omega
            have hpl := Lib.hid hpl
            repeat' ((fail_if_success (with_reducible show Code.wp _ (Code.region 10 _ _) _ _ _)); first | ((first | (with_reducible (refine Sl.k_conv ?_; with_unfolding_all refine s_qt hst (qt_conv_b (m := (sw[i].toNat : Int)) rfl inX inX (wrap_sm ⟨by omega, by omega⟩)) ?_)) | (with_reducible refine Sl.k_bin ?_; (first | refine s_qt hst (qt_rem_b rfl rfl hn0 tA) ?_ | refine s_qt hst (qt_rem_b rfl rfl hn0 tB) ?_ | refine s_qt hst (qt_quo' rfl rfl ⟨by omega, by omega, by omega⟩) ?_)) | (with_reducible refine Sl.k_guard ?_; ((refine Sl.guard_yes rfl ?_)))) <;> (try refine nX ?_)) | ((fail_if_success (go_big_may)); (go_step)) | ((first | (with_reducible refine Sl.k_load ?_; (refine s_qt hst (by exact qt_ldp_u8 evX asX inX) ?_)) | (with_reducible refine Sl.k_index ?_; (((refine s_ex hst (qt_index evX asX rfl inX inX omX omX) ?_); rintro v hp; (try simp only [Int.toNat_natCast, Int.toNat_natCast_add_one, Int.reduceToNat] at hp)))) | (with_reducible refine Sl.k_call ?_; (refine s_qt hst (by first | exact qt_len evX asX inX | exact qt_len_own evX SlIn.h inX) ?_))) <;> (try refine nX ?_)) | (with_reducible refine Sl.gate rfl ?_; (go_step)))
            repeat' (first | ((first | (with_reducible (refine Sl.k_index ?_; refine s_ex hst (qt_index_own hst evX SlIn.h rfl inX inX omX omX) ?_; rintro vq hq; (try simp only [Int.toNat_natCast] at hq))) | (with_reducible (refine Sl.k_load ?_; refine s_ex hst (qt_ldR (j := A) evX hq SlIn.h hR inX gA) ?_; rintro v7 ⟨ca, rfl, hca⟩))) <;> (try refine nX ?_)) | ((fail_if_success (go_big_may)); (go_step)) | (((((refine s_alloc hst inX ?_; clear hst; intro bk w hst)))) <;> (try refine nX ?_) <;> (try replace hst := nH hst)))
            refine s_stW0 hst rfl BoxIn.h inX rfl hca rfl ?_
            clear hst; intro w hst
            (try refine nX ?_)
            (try replace hst := nH hst)
            repeat' ((fail_if_success (with_reducible show Code.wp _ (Code.region 11 _ _) _ _ _)); ((fail_if_success (go_big_may)); (go_step)))
            repeat' (first | ((first | (with_reducible (refine Sl.k_index ?_; refine s_ex hst (qt_index_own hst evX SlIn.h rfl inX inX omX omX) ?_; rintro vq hq; (try simp only [Int.toNat_natCast] at hq))) | (with_reducible (refine Sl.k_load ?_; refine s_ex hst (qt_ldR (j := B) evX hq SlIn.h hR inX gB) ?_; rintro v7 ⟨cb, rfl, hcb⟩))) <;> (try refine nX ?_)) | ((fail_if_success (go_big_may)); (go_step)))
            refine s_store_own (u := .agg cb.toArray) (cs := cb) hst rfl hq SlIn.h inX rfl rfl (Rep.len hcb) (List.all_eq_true.2 (Rep.one hcb)) (RL.at_len hR hpA) ?_
            clear hst; intro w hst
            (try refine nX ?_)
            (try replace hst := nH hst)
            repeat' ((fail_if_success (with_reducible show Code.wp _ (Code.region 12 _ _) _ _ _)); ((fail_if_success (go_big_may)); (go_step)))
            repeat' (first | ((first | (with_reducible (refine Sl.k_index ?_; refine s_ex hst (qt_index_own hst evX SlIn.h rfl inX inX omX omX) ?_; rintro vq hq; (try simp only [Int.toNat_natCast] at hq))) | (with_reducible (refine Sl.k_load ?_; with_unfolding_all refine s_qt hst (qt_loadF (x0 := p.getD A fR) rfl BoxIn.h hca inX) ?_))) <;> (try refine nX ?_)) | ((fail_if_success (go_big_may)); (go_step)))
            refine s_store_own (u := .agg ca.toArray) (cs := ca) hst rfl hq SlIn.h inX rfl rfl (Rep.len hca) (List.all_eq_true.2 (Rep.one hca)) (RL.at_len (RL.set hR hcb hpA) (by simpa using hpB)) ?_
            clear hst; intro w hst
            (try refine nX ?_)
            (try replace hst := nH hst)
            have hRn := RL.set (RL.set hR hcb hpA) hca (show B < (p.set A (p.getD B fR)).length by simpa using hpB)
            repeat' (first | ((fail_if_success (go_big_may)); (go_step)) | (with_reducible refine Sl.gate rfl ?_; (go_step)))
            go_roundw
            case rel => exact ⟨i + 1, _, _, by omega, by go_num, hRn, hqq, hst.drop⟩
            case measure => simp [intOf]; omega
          · have hone := hR.one
            clear hm hm2
            repeat' (first | (((with_reducible refine Sl.k_guard ?_; ((refine Sl.guard_no rfl ?_)))) <;> (try refine nX ?_)) | ((fail_if_success (go_big_may)); (go_step)) | (((with_reducible refine Sl.k_call ?_; (refine s_qt hst (by exact qt_len evX asX inX) ?_))) <;> (try refine nX ?_)) | (with_reducible refine Sl.gate rfl ?_; (go_step)))
            refine s_append (k := 0) (j := 0) hst rfl rfl rfl rfl inX inX inX hone (by omega) (by omega) (by decide) ?_
            clear hst; intro v1 w hst
            (try refine nX ?_)
            (try replace hst := nH hst)
            repeat' ((fail_if_success (with_reducible show Code.wp _ (Code.region 14 _ _) _ _ _)); ((fail_if_success (go_big_may)); (go_step)))
            obtain ⟨S6, hS6, hst, hL20⟩ := St.freeze (α := Fa) (xs := p ++ p) hst (hR.append hR) (by rw [List.length_append, hpl])
            have hN2 := Lib.hid (nrm_perm2 ol hP.out)
            have oL2 : ∀ f ∈ p ++ p, FaOk f := fun f hf => ol f (hP.out.mem_iff.1 ((List.mem_append.1 hf).elim id id))
            have lL2 : (p ++ p).length ≤ 24 := by rw [List.length_append]; omega
            obtain ⟨L2, hL2e⟩ : ∃ L2, p ++ p = L2 := ⟨_, rfl⟩
            rw [hL2e] at hL20 hN2 oL2 lL2
            have kL2 := hL20.oneCell
            clear hL2e hR hone hP hlt
            have hl6 := hl.mono hS6
            repeat' ((fail_if_success (with_reducible show Code.wp _ (Code.region 15 _ _) _ _ _)); first | ((fail_if_success (go_big_may)); (go_step)) | (with_reducible refine Sl.gate rfl ?_; (go_step)) | ((((first | (with_reducible refine Sl.k_store ?_; (refine s_store hst rfl _ BoxIn.h inX evX rfl lenOk oneOk (by simp) ?_); clear hst; intro w hst) | (refine s_alloc hst inX ?_; clear hst; intro bk w hst)))) <;> (try refine nX ?_) <;> (try replace hst := nH hst)))
            rename Nat => b11
            repeat' (((fail_if_success (go_big_may)); (go_step)))
            go_loopw [12] (fun v wr => ∃ (k : Nat) (S' : Snap) (u : Value), k ≤ l.length ∧ v = .int .i64 k ∧ S6.Le S' ∧ RSl S' u (nrm (l.take k)) ∧ St S' (.box b11 [u] 27 :: M) wr) (fun v _ => l.length - (intOf v).toNat)
            case atStart => exact ⟨0, S6, .slice none 0 0, Nat.zero_le _, rfl, Snap.Le.refl _, .inl ⟨none, 0, rfl, rfl, by unfold maxLen; omega⟩, hst⟩
            case round =>
              clear hst
              obtain ⟨k, S7, u, hk, rfl, hS7, hu, hst⟩ := hrel
              have ku := hu.oneCell
              have hL7 := hl6.mono hS7
              by_cases hlt : k < l.length
              · have okk := ol _ (List.getElem_mem hlt)
                have okt : ∀ f ∈ nrm (l.take k), FaOk f := nrm_ok fun f hf => ol f (List.mem_of_mem_take hf)
                have okt0 : ∀ f ∈ l.take k, FaOk f := fun f hf => ol f (List.mem_of_mem_take hf)
                have lt := nrm_len (fs := l.take k)
                have lt2 : (l.take k).length ≤ k := by rw [List.length_take]; omega
                have hyes : validF l[k] = true → nrm (nrm (l.take k) ++ [l[k]]) = nrm (l.take (k + 1)) := fun _ => by
                  rw [List.take_succ_eq_append_getElem hlt]
                  exact nrm_nrm okt0 fun f hf => by obtain rfl := List.mem_singleton.1 hf; exact okk
                have hnot : validF l[k] = false → nrm (l.take (k + 1)) = nrm (l.take k) := fun h => by
                  rw [List.take_succ_eq_append_getElem hlt, nrm_snoc, h]; rfl
                obtain ⟨y, gy⟩ : ∃ y, validF l[k] = y := ⟨_, rfl⟩
                obtain ⟨N1, gN1⟩ : ∃ N, nrm (l.take (k + 1)) = N := ⟨_, rfl⟩
                obtain ⟨N0, gN0⟩ : ∃ N, nrm (l.take k) = N := ⟨_, rfl⟩
                obtain ⟨F5, gF⟩ : ∃ F, (if validF l[k] = true then nrm (nrm (l.take k) ++ [l[k]]) else []) = F := ⟨_, rfl⟩
                have ge : (if validF l[k] = true then (0 : Int) else 1) = (if y = true then (0 : Int) else 1) := by rw [gy]
                have eqy : ((if y = true then (0 : Int) else 1) == 0) = y := by cases y <;> rfl
                have hyT : y = true → Hid (F5 = N1) := fun h => Lib.hid (by rw [← gF, gy, if_pos h, hyes (gy.trans h), gN1])
                have hyF : y = false → Hid (N1 = N0) := fun h => Lib.hid (by rw [← gN1, hnot (gy.trans h), gN0])
                rw [gN0] at hu okt lt gF
                have HN1 := Lib.hid gN1
                have cA := fun {S : Snap} {M : List Chunk} (w : World) (hst : St S M w) (c1 : List Value) (h1 : Rep.R S c1 ((N0, ()) : Dir)) (cs : List Value) (hR : Rep.R S cs l[k]) => wadd_c w hst c1 N0 F5 h1 okt cs l[k] hR okk (by omega) _ ge gF
                generalize (if y = true then (0 : Int) else 1) = e at *
                clear gN0 gN1 hyes hnot ge gF gy okt okt0 lt lt2 okk
                repeat' (first | ((fail_if_success (go_big_may)); (go_step)) | (((with_reducible refine Sl.k_call ?_; (refine s_qt hst (by exact qt_len evX asX inX) ?_))) <;> (try refine nX ?_)) | (with_reducible refine Sl.gate rfl ?_; (go_step)))
                refine ps_begin hst (by kernel_rfl) ?_; clear hst; intro w hst; have hSS := le_of hst; (try refine nX ?_)
                (refine ps_take 1 (by repeat (first | with_reducible refine panicQ_then ?_ | with_reducible refine panicQ_block ?_ | exact panicQ_body)) rfl (by kernel_rfl) (by kernel_rfl) (by kernel_rfl) rfl (St.cls hSS hst) (by exact qt_move evX) ?_) <;> (try refine nX ?_)
                (refine ps_take 2 (by repeat (first | with_reducible refine panicQ_then ?_ | with_reducible refine panicQ_block ?_ | exact panicQ_body)) rfl (by kernel_rfl) (by kernel_rfl) (by kernel_rfl) rfl (St.cls hSS hst) (by exact qt_move evX) ?_) <;> (try refine nX ?_)
                ((refine ps_takex 3 (by repeat (first | with_reducible refine panicQ_then ?_ | with_reducible refine panicQ_block ?_ | exact panicQ_body)) rfl (by kernel_rfl) (by kernel_rfl) (by kernel_rfl) rfl (St.cls hSS hst) (qt_index evX hL7 rfl inX inX omX omX ) ?_; rintro  v3 hp3; simp only [Int.toNat_natCast] at hp3)) <;> (try refine nX ?_)
                ((refine ps_takex 4 (by repeat (first | with_reducible refine panicQ_then ?_ | with_reducible refine panicQ_block ?_ | exact panicQ_body)) rfl (by kernel_rfl) (by kernel_rfl) (by kernel_rfl) rfl (St.cls hSS hst) (qt_ldp evX hp3 inX ) ?_; rintro  v4 ⟨c4, rfl, hc4⟩)) <;> (try refine nX ?_)
                refine ps_two 0 9 rfl rfl (by kernel_rfl) ?_ ?_
                intro K hK; refine s_qt hst (qt_load rfl _ BoxIn.h inX rfl rfl) ?_; (try refine nX ?_); (try replace hst := nH hst); refine ps_next hK (St.cls hSS hst) ?_; clear hK K; (try refine nX ?_)
                refine ps_two 5 9 rfl rfl (by kernel_rfl) ?_ ?_
                intro K hK; refine s_call (cA w hst [u] (dir_mk (hu.mono hSS)) c4 (Rep.mono hSS hc4)) inX rfl ?_; clear hst; rintro v5 w ⟨S5, c5, hS5, rfl, hR5, hst⟩; (try refine nX ?_); (try replace hst := nH hst); replace hSS := hSS.trans hS5; refine ps_next hK (St.cls hSS hst) ?_; clear hK K; (try refine nX ?_)
                (refine ps_take 6 (by repeat (first | with_reducible refine panicQ_then ?_ | with_reducible refine panicQ_block ?_ | exact panicQ_body)) rfl (by kernel_rfl) (by kernel_rfl) (by kernel_rfl) rfl (St.cls hSS hst) (by exact qt_move evX) ?_) <;> (try refine nX ?_)
                (refine ps_take 7 (by repeat (first | with_reducible refine panicQ_then ?_ | with_reducible refine panicQ_block ?_ | exact panicQ_body)) rfl (by kernel_rfl) (by kernel_rfl) (by kernel_rfl) rfl (St.cls hSS hst) (qt_extract (vs := [.agg c5.toArray, .int .i64 e]) rfl rfl) ?_) <;> (try refine nX ?_)
                (refine ps_take 8 (by repeat (first | with_reducible refine panicQ_then ?_ | with_reducible refine panicQ_block ?_ | exact panicQ_body)) rfl (by kernel_rfl) (by kernel_rfl) (by kernel_rfl) rfl (St.cls hSS hst) (qt_extract (vs := [.agg c5.toArray, .int .i64 e]) rfl rfl) ?_) <;> (try refine nX ?_)
                refine ps_one 9 rfl (by kernel_rfl) ?_; intro K hK; refine s_alloc hst inX ?_; clear hst; intro b9 w hst; (try refine nX ?_); (try replace hst := nH hst); refine ps_next hK (St.cls hSS hst) ?_; clear hK K; (try refine nX ?_)
                refine ps_one 10 rfl (by kernel_rfl) ?_; intro K hK; refine s_stW0 hst rfl BoxIn.h inX rfl hR5 rfl ?_; clear hst; intro w hst; (try refine nX ?_); (try replace hst := nH hst); refine ps_next hK (St.cls hSS hst) ?_; clear hK K; (try refine nX ?_)
                (refine ps_take 11 (by repeat (first | with_reducible refine panicQ_then ?_ | with_reducible refine panicQ_block ?_ | exact panicQ_body)) rfl (by kernel_rfl) (by kernel_rfl) (by kernel_rfl) rfl (St.cls hSS hst) (by exact qt_assign evX) ?_) <;> (try refine nX ?_)
                refine ps_done (by kernel_rfl) ?_; rotate_left
                intro K hK; refine s_alloc hst inX ?_; clear hst; intro b9 w hst; (try refine nX ?_); (try replace hst := nH hst); refine ps_next hK (St.cls hSS hst) ?_; clear hK K; (try refine nX ?_)
                refine ps_one 5 rfl (by kernel_rfl) ?_; intro K hK; refine s_call (cA w hst [u] (dir_mk (hu.mono hSS)) c4 (Rep.mono hSS hc4)) inX rfl ?_; clear hst; rintro v5 w ⟨S5, c5, hS5, rfl, hR5, hst⟩; (try refine nX ?_); (try replace hst := nH hst); replace hSS := hSS.trans hS5; refine ps_next hK (St.cls hSS hst) ?_; clear hK K; (try refine nX ?_)
                (refine ps_take 6 (by repeat (first | with_reducible refine panicQ_then ?_ | with_reducible refine panicQ_block ?_ | exact panicQ_body)) rfl (by kernel_rfl) (by kernel_rfl) (by kernel_rfl) rfl (St.cls hSS hst) (by exact qt_move evX) ?_) <;> (try refine nX ?_)
                (refine ps_take 7 (by repeat (first | with_reducible refine panicQ_then ?_ | with_reducible refine panicQ_block ?_ | exact panicQ_body)) rfl (by kernel_rfl) (by kernel_rfl) (by kernel_rfl) rfl (St.cls hSS hst) (qt_extract (vs := [.agg c5.toArray, .int .i64 e]) rfl rfl) ?_) <;> (try refine nX ?_)
                (refine ps_take 8 (by repeat (first | with_reducible refine panicQ_then ?_ | with_reducible refine panicQ_block ?_ | exact panicQ_body)) rfl (by kernel_rfl) (by kernel_rfl) (by kernel_rfl) rfl (St.cls hSS hst) (qt_extract (vs := [.agg c5.toArray, .int .i64 e]) rfl rfl) ?_) <;> (try refine nX ?_)
                refine ps_one 10 rfl (by kernel_rfl) ?_; intro K hK; refine s_stW0 hst rfl BoxIn.h inX rfl hR5 rfl ?_; clear hst; intro w hst; (try refine nX ?_); (try replace hst := nH hst); refine ps_next hK (St.cls hSS hst) ?_; clear hK K; (try refine nX ?_)
                (refine ps_take 11 (by repeat (first | with_reducible refine panicQ_then ?_ | with_reducible refine panicQ_block ?_ | exact panicQ_body)) rfl (by kernel_rfl) (by kernel_rfl) (by kernel_rfl) rfl (St.cls hSS hst) (by exact qt_assign evX) ?_) <;> (try refine nX ?_)
                refine ps_done (by kernel_rfl) ?_; rotate_left
                intro K hK; refine s_alloc hst inX ?_; clear hst; intro b9 w hst; (try refine nX ?_); (try replace hst := nH hst); refine ps_next hK (St.cls hSS hst) ?_; clear hK K; (try refine nX ?_)
                refine ps_one 0 rfl (by kernel_rfl) ?_; intro K hK; refine s_qt hst (qt_load rfl _ BoxIn.h inX rfl rfl) ?_; (try refine nX ?_); (try replace hst := nH hst); refine ps_next hK (St.cls hSS hst) ?_; clear hK K; (try refine nX ?_)
                refine ps_one 5 rfl (by kernel_rfl) ?_; intro K hK; refine s_call (cA w hst [u] (dir_mk (hu.mono hSS)) c4 (Rep.mono hSS hc4)) inX rfl ?_; clear hst; rintro v5 w ⟨S5, c5, hS5, rfl, hR5, hst⟩; (try refine nX ?_); (try replace hst := nH hst); replace hSS := hSS.trans hS5; refine ps_next hK (St.cls hSS hst) ?_; clear hK K; (try refine nX ?_)
                (refine ps_take 6 (by repeat (first | with_reducible refine panicQ_then ?_ | with_reducible refine panicQ_block ?_ | exact panicQ_body)) rfl (by kernel_rfl) (by kernel_rfl) (by kernel_rfl) rfl (St.cls hSS hst) (by exact qt_move evX) ?_) <;> (try refine nX ?_)
                (refine ps_take 7 (by repeat (first | with_reducible refine panicQ_then ?_ | with_reducible refine panicQ_block ?_ | exact panicQ_body)) rfl (by kernel_rfl) (by kernel_rfl) (by kernel_rfl) rfl (St.cls hSS hst) (qt_extract (vs := [.agg c5.toArray, .int .i64 e]) rfl rfl) ?_) <;> (try refine nX ?_)
                (refine ps_take 8 (by repeat (first | with_reducible refine panicQ_then ?_ | with_reducible refine panicQ_block ?_ | exact panicQ_body)) rfl (by kernel_rfl) (by kernel_rfl) (by kernel_rfl) rfl (St.cls hSS hst) (qt_extract (vs := [.agg c5.toArray, .int .i64 e]) rfl rfl) ?_) <;> (try refine nX ?_)
                refine ps_one 10 rfl (by kernel_rfl) ?_; intro K hK; refine s_stW0 hst rfl BoxIn.h inX rfl hR5 rfl ?_; clear hst; intro w hst; (try refine nX ?_); (try replace hst := nH hst); refine ps_next hK (St.cls hSS hst) ?_; clear hK K; (try refine nX ?_)
                (refine ps_take 11 (by repeat (first | with_reducible refine panicQ_then ?_ | with_reducible refine panicQ_block ?_ | exact panicQ_body)) rfl (by kernel_rfl) (by kernel_rfl) (by kernel_rfl) rfl (St.cls hSS hst) (by exact qt_assign evX) ?_) <;> (try refine nX ?_)
                refine ps_done (by kernel_rfl) ?_; rotate_left
                all_goals
                  obtain ⟨u5, rfl, hu5⟩ := dir_of hR5
                  have ku5 := hu5.oneCell
                  clear cA hp3 hc4
                  cases y with
                  | true =>
                    have h1 := hyT rfl
                    clear hyT hyF
                    repeat' (first | ((first | (with_reducible (refine Sl.k_load ?_; with_unfolding_all refine s_qt hst (qt_loadF (x0 := ((F5, ()) : Dir)) rfl BoxIn.h hR5 inX) ?_)) | (with_reducible refine Sl.k_bin ?_; (refine s_qt hst (qt_eql_b rfl rfl eqy) ?_))) <;> (try refine nX ?_)) | ((fail_if_success (go_big_may)); (go_step)))
                    refine s_stW0 hst rfl BoxIn.h inX rfl hR5 rfl ?_
                    clear hst; intro w hst
                    (try refine nX ?_)
                    (try replace hst := nH hst)
                    repeat' (first | ((fail_if_success (go_big_may)); (go_step)) | (with_reducible refine Sl.gate rfl ?_; (go_step)))
                    go_roundw
                    case rel => exact ⟨k + 1, _, u5, by omega, by go_num, hS7.trans hSS, by rw [HN1.out, ← h1.out]; exact hu5, hst.drop⟩
                    case measure => simp [intOf]; omega
                  | false =>
                    have h1 := hyF rfl
                    clear hyT hyF
                    repeat' (first | (((with_reducible refine Sl.k_bin ?_; (refine s_qt hst (qt_eql_b rfl rfl eqy) ?_))) <;> (try refine nX ?_)) | ((fail_if_success (go_big_may)); (go_step)) | (with_reducible refine Sl.gate rfl ?_; (go_step)))
                    go_roundw
                    case rel => exact ⟨k + 1, _, u, by omega, by go_num, hS7.trans hSS, by rw [HN1.out, h1.out]; exact hu.mono hSS, hst.drop⟩
                    case measure => simp [intOf]; omega
              · obtain rfl : k = l.length := by omega
                rw [List.take_length] at hu
                repeat' ((fail_if_success (with_reducible show Code.wp _ (Code.region 21 _ _) _ _ _)); first | ((fail_if_success (go_big_may)); (go_step)) | (((with_reducible refine Sl.k_call ?_; (refine s_qt hst (by exact qt_len evX asX inX) ?_))) <;> (try refine nX ?_)) | (with_reducible refine Sl.gate rfl ?_; (go_step)))
                obtain ⟨S8, hS8, hst0, hpx⟩ := pt_box (α := Dir) (x := (nrm l, ())) hst (dir_mk hu) rfl
                clear hst
                have hst := hst0
                clear hst0
                have hL28 := hL20.mono (hS7.trans hS8)
                have hle8 := hS6.trans (hS7.trans hS8)
                clear hS7 hS8 hu hL7 ku hlt hk hl6 hl
                repeat' ((fail_if_success (with_reducible show Code.wp _ (Code.region 22 _ _) _ _ _)); first | ((fail_if_success (go_big_may)); (go_step)) | (with_reducible refine Sl.gate rfl ?_; (go_step)) | ((((first | (with_reducible refine Sl.k_store ?_; (refine s_store hst rfl _ BoxIn.h inX evX rfl lenOk oneOk (by simp) ?_); clear hst; intro w hst) | (refine s_alloc hst inX ?_; clear hst; intro bk w hst)))) <;> (try refine nX ?_) <;> (try replace hst := nH hst)))
                rename Nat => b15
                repeat' (((fail_if_success (go_big_may)); (go_step)))
                go_loopw [16] (fun v wr => ∃ (k : Nat) (S' : Snap) (u : Value), k ≤ L2.length ∧ v = .int .i64 k ∧ S8.Le S' ∧ RSl S' u (nrm (L2.take k)) ∧ St S' (.box b15 [u] 27 :: M) wr) (fun v _ => L2.length - (intOf v).toNat)
                case atStart => exact ⟨0, S8, .slice none 0 0, Nat.zero_le _, rfl, Snap.Le.refl _, .inl ⟨none, 0, rfl, rfl, by unfold maxLen; omega⟩, hst⟩
                case round =>
                  clear hst
                  obtain ⟨k, S7, u, hk, rfl, hS7, hu, hst⟩ := hrel
                  have ku := hu.oneCell
                  have hL7 := hL28.mono hS7
                  by_cases hlt : k < L2.length
                  · have okk := oL2 _ (List.getElem_mem hlt)
                    have okt : ∀ f ∈ nrm (L2.take k), FaOk f := nrm_ok fun f hf => oL2 f (List.mem_of_mem_take hf)
                    have okt0 : ∀ f ∈ L2.take k, FaOk f := fun f hf => oL2 f (List.mem_of_mem_take hf)
                    have lt := nrm_len (fs := L2.take k)
                    have lt2 : (L2.take k).length ≤ k := by rw [List.length_take]; omega
                    have hyes : validF L2[k] = true → nrm (nrm (L2.take k) ++ [L2[k]]) = nrm (L2.take (k + 1)) := fun _ => by
                      rw [List.take_succ_eq_append_getElem hlt]
                      exact nrm_nrm okt0 fun f hf => by obtain rfl := List.mem_singleton.1 hf; exact okk
                    have hnot : validF L2[k] = false → nrm (L2.take (k + 1)) = nrm (L2.take k) := fun h => by
                      rw [List.take_succ_eq_append_getElem hlt, nrm_snoc, h]; rfl
                    obtain ⟨y, gy⟩ : ∃ y, validF L2[k] = y := ⟨_, rfl⟩
                    obtain ⟨N1, gN1⟩ : ∃ N, nrm (L2.take (k + 1)) = N := ⟨_, rfl⟩
                    obtain ⟨N0, gN0⟩ : ∃ N, nrm (L2.take k) = N := ⟨_, rfl⟩
                    obtain ⟨F5, gF⟩ : ∃ F, (if validF L2[k] = true then nrm (nrm (L2.take k) ++ [L2[k]]) else []) = F := ⟨_, rfl⟩
                    have ge : (if validF L2[k] = true then (0 : Int) else 1) = (if y = true then (0 : Int) else 1) := by rw [gy]
                    have eqy : ((if y = true then (0 : Int) else 1) == 0) = y := by cases y <;> rfl
                    have hyT : y = true → Hid (F5 = N1) := fun h => Lib.hid (by rw [← gF, gy, if_pos h, hyes (gy.trans h), gN1])
                    have hyF : y = false → Hid (N1 = N0) := fun h => Lib.hid (by rw [← gN1, hnot (gy.trans h), gN0])
                    rw [gN0] at hu okt lt gF
                    have HN1 := Lib.hid gN1
                    have cA := fun {S : Snap} {M : List Chunk} (w : World) (hst : St S M w) (c1 : List Value) (h1 : Rep.R S c1 ((N0, ()) : Dir)) (cs : List Value) (hR : Rep.R S cs L2[k]) => wadd_c w hst c1 N0 F5 h1 okt cs L2[k] hR okk (by omega) _ ge gF
                    generalize (if y = true then (0 : Int) else 1) = e at *
                    clear gN0 gN1 hyes hnot ge gF gy okt okt0 lt lt2 okk
                    repeat' (first | ((fail_if_success (go_big_may)); (go_step)) | (((with_reducible refine Sl.k_call ?_; (refine s_qt hst (by exact qt_len evX asX inX) ?_))) <;> (try refine nX ?_)) | (with_reducible refine Sl.gate rfl ?_; (go_step)))
                    refine ps_begin hst (by kernel_rfl) ?_; clear hst; intro w hst; have hSS := le_of hst; (try refine nX ?_)
                    (refine ps_take 1 (by repeat (first | with_reducible refine panicQ_then ?_ | with_reducible refine panicQ_block ?_ | exact panicQ_body)) rfl (by kernel_rfl) (by kernel_rfl) (by kernel_rfl) rfl (St.cls hSS hst) (by exact qt_move evX) ?_) <;> (try refine nX ?_)
                    (refine ps_take 2 (by repeat (first | with_reducible refine panicQ_then ?_ | with_reducible refine panicQ_block ?_ | exact panicQ_body)) rfl (by kernel_rfl) (by kernel_rfl) (by kernel_rfl) rfl (St.cls hSS hst) (by exact qt_move evX) ?_) <;> (try refine nX ?_)
                    ((refine ps_takex 3 (by repeat (first | with_reducible refine panicQ_then ?_ | with_reducible refine panicQ_block ?_ | exact panicQ_body)) rfl (by kernel_rfl) (by kernel_rfl) (by kernel_rfl) rfl (St.cls hSS hst) (qt_index evX hL7 rfl inX inX omX omX ) ?_; rintro  v3 hp3; simp only [Int.toNat_natCast] at hp3)) <;> (try refine nX ?_)
                    ((refine ps_takex 4 (by repeat (first | with_reducible refine panicQ_then ?_ | with_reducible refine panicQ_block ?_ | exact panicQ_body)) rfl (by kernel_rfl) (by kernel_rfl) (by kernel_rfl) rfl (St.cls hSS hst) (qt_ldp evX hp3 inX ) ?_; rintro  v4 ⟨c4, rfl, hc4⟩)) <;> (try refine nX ?_)
                    refine ps_two 0 9 rfl rfl (by kernel_rfl) ?_ ?_
                    intro K hK; refine s_qt hst (qt_load rfl _ BoxIn.h inX rfl rfl) ?_; (try refine nX ?_); (try replace hst := nH hst); refine ps_next hK (St.cls hSS hst) ?_; clear hK K; (try refine nX ?_)
                    refine ps_two 5 9 rfl rfl (by kernel_rfl) ?_ ?_
                    intro K hK; refine s_call (cA w hst [u] (dir_mk (hu.mono hSS)) c4 (Rep.mono hSS hc4)) inX rfl ?_; clear hst; rintro v5 w ⟨S5, c5, hS5, rfl, hR5, hst⟩; (try refine nX ?_); (try replace hst := nH hst); replace hSS := hSS.trans hS5; refine ps_next hK (St.cls hSS hst) ?_; clear hK K; (try refine nX ?_)
                    (refine ps_take 6 (by repeat (first | with_reducible refine panicQ_then ?_ | with_reducible refine panicQ_block ?_ | exact panicQ_body)) rfl (by kernel_rfl) (by kernel_rfl) (by kernel_rfl) rfl (St.cls hSS hst) (by exact qt_move evX) ?_) <;> (try refine nX ?_)
                    (refine ps_take 7 (by repeat (first | with_reducible refine panicQ_then ?_ | with_reducible refine panicQ_block ?_ | exact panicQ_body)) rfl (by kernel_rfl) (by kernel_rfl) (by kernel_rfl) rfl (St.cls hSS hst) (qt_extract (vs := [.agg c5.toArray, .int .i64 e]) rfl rfl) ?_) <;> (try refine nX ?_)
                    (refine ps_take 8 (by repeat (first | with_reducible refine panicQ_then ?_ | with_reducible refine panicQ_block ?_ | exact panicQ_body)) rfl (by kernel_rfl) (by kernel_rfl) (by kernel_rfl) rfl (St.cls hSS hst) (qt_extract (vs := [.agg c5.toArray, .int .i64 e]) rfl rfl) ?_) <;> (try refine nX ?_)
                    refine ps_one 9 rfl (by kernel_rfl) ?_; intro K hK; refine s_alloc hst inX ?_; clear hst; intro b9 w hst; (try refine nX ?_); (try replace hst := nH hst); refine ps_next hK (St.cls hSS hst) ?_; clear hK K; (try refine nX ?_)
                    refine ps_one 10 rfl (by kernel_rfl) ?_; intro K hK; refine s_stW0 hst rfl BoxIn.h inX rfl hR5 rfl ?_; clear hst; intro w hst; (try refine nX ?_); (try replace hst := nH hst); refine ps_next hK (St.cls hSS hst) ?_; clear hK K; (try refine nX ?_)
                    (refine ps_take 11 (by repeat (first | with_reducible refine panicQ_then ?_ | with_reducible refine panicQ_block ?_ | exact panicQ_body)) rfl (by kernel_rfl) (by kernel_rfl) (by kernel_rfl) rfl (St.cls hSS hst) (by exact qt_assign evX) ?_) <;> (try refine nX ?_)
                    refine ps_done (by kernel_rfl) ?_; rotate_left
                    intro K hK; refine s_alloc hst inX ?_; clear hst; intro b9 w hst; (try refine nX ?_); (try replace hst := nH hst); refine ps_next hK (St.cls hSS hst) ?_; clear hK K; (try refine nX ?_)
                    refine ps_one 5 rfl (by kernel_rfl) ?_; intro K hK; refine s_call (cA w hst [u] (dir_mk (hu.mono hSS)) c4 (Rep.mono hSS hc4)) inX rfl ?_; clear hst; rintro v5 w ⟨S5, c5, hS5, rfl, hR5, hst⟩; (try refine nX ?_); (try replace hst := nH hst); replace hSS := hSS.trans hS5; refine ps_next hK (St.cls hSS hst) ?_; clear hK K; (try refine nX ?_)
                    (refine ps_take 6 (by repeat (first | with_reducible refine panicQ_then ?_ | with_reducible refine panicQ_block ?_ | exact panicQ_body)) rfl (by kernel_rfl) (by kernel_rfl) (by kernel_rfl) rfl (St.cls hSS hst) (by exact qt_move evX) ?_) <;> (try refine nX ?_)
                    (refine ps_take 7 (by repeat (first | with_reducible refine panicQ_then ?_ | with_reducible refine panicQ_block ?_ | exact panicQ_body)) rfl (by kernel_rfl) (by kernel_rfl) (by kernel_rfl) rfl (St.cls hSS hst) (qt_extract (vs := [.agg c5.toArray, .int .i64 e]) rfl rfl) ?_) <;> (try refine nX ?_)
                    (refine ps_take 8 (by repeat (first | with_reducible refine panicQ_then ?_ | with_reducible refine panicQ_block ?_ | exact panicQ_body)) rfl (by kernel_rfl) (by kernel_rfl) (by kernel_rfl) rfl (St.cls hSS hst) (qt_extract (vs := [.agg c5.toArray, .int .i64 e]) rfl rfl) ?_) <;> (try refine nX ?_)
                    refine ps_one 10 rfl (by kernel_rfl) ?_; intro K hK; refine s_stW0 hst rfl BoxIn.h inX rfl hR5 rfl ?_; clear hst; intro w hst; (try refine nX ?_); (try replace hst := nH hst); refine ps_next hK (St.cls hSS hst) ?_; clear hK K; (try refine nX ?_)
                    (refine ps_take 11 (by repeat (first | with_reducible refine panicQ_then ?_ | with_reducible refine panicQ_block ?_ | exact panicQ_body)) rfl (by kernel_rfl) (by kernel_rfl) (by kernel_rfl) rfl (St.cls hSS hst) (by exact qt_assign evX) ?_) <;> (try refine nX ?_)
                    refine ps_done (by kernel_rfl) ?_; rotate_left
                    intro K hK; refine s_alloc hst inX ?_; clear hst; intro b9 w hst; (try refine nX ?_); (try replace hst := nH hst); refine ps_next hK (St.cls hSS hst) ?_; clear hK K; (try refine nX ?_)
                    refine ps_one 0 rfl (by kernel_rfl) ?_; intro K hK; refine s_qt hst (qt_load rfl _ BoxIn.h inX rfl rfl) ?_; (try refine nX ?_); (try replace hst := nH hst); refine ps_next hK (St.cls hSS hst) ?_; clear hK K; (try refine nX ?_)
                    refine ps_one 5 rfl (by kernel_rfl) ?_; intro K hK; refine s_call (cA w hst [u] (dir_mk (hu.mono hSS)) c4 (Rep.mono hSS hc4)) inX rfl ?_; clear hst; rintro v5 w ⟨S5, c5, hS5, rfl, hR5, hst⟩; (try refine nX ?_); (try replace hst := nH hst); replace hSS := hSS.trans hS5; refine ps_next hK (St.cls hSS hst) ?_; clear hK K; (try refine nX ?_)
                    (refine ps_take 6 (by repeat (first | with_reducible refine panicQ_then ?_ | with_reducible refine panicQ_block ?_ | exact panicQ_body)) rfl (by kernel_rfl) (by kernel_rfl) (by kernel_rfl) rfl (St.cls hSS hst) (by exact qt_move evX) ?_) <;> (try refine nX ?_)
                    (refine ps_take 7 (by repeat (first | with_reducible refine panicQ_then ?_ | with_reducible refine panicQ_block ?_ | exact panicQ_body)) rfl (by kernel_rfl) (by kernel_rfl) (by kernel_rfl) rfl (St.cls hSS hst) (qt_extract (vs := [.agg c5.toArray, .int .i64 e]) rfl rfl) ?_) <;> (try refine nX ?_)
                    (refine ps_take 8 (by repeat (first | with_reducible refine panicQ_then ?_ | with_reducible refine panicQ_block ?_ | exact panicQ_body)) rfl (by kernel_rfl) (by kernel_rfl) (by kernel_rfl) rfl (St.cls hSS hst) (qt_extract (vs := [.agg c5.toArray, .int .i64 e]) rfl rfl) ?_) <;> (try refine nX ?_)
                    refine ps_one 10 rfl (by kernel_rfl) ?_; intro K hK; refine s_stW0 hst rfl BoxIn.h inX rfl hR5 rfl ?_; clear hst; intro w hst; (try refine nX ?_); (try replace hst := nH hst); refine ps_next hK (St.cls hSS hst) ?_; clear hK K; (try refine nX ?_)
                    (refine ps_take 11 (by repeat (first | with_reducible refine panicQ_then ?_ | with_reducible refine panicQ_block ?_ | exact panicQ_body)) rfl (by kernel_rfl) (by kernel_rfl) (by kernel_rfl) rfl (St.cls hSS hst) (by exact qt_assign evX) ?_) <;> (try refine nX ?_)
                    refine ps_done (by kernel_rfl) ?_; rotate_left
                    all_goals
                      obtain ⟨u5, rfl, hu5⟩ := dir_of hR5
                      have ku5 := hu5.oneCell
                      clear cA hp3 hc4
                      cases y with
                      | true =>
                        have h1 := hyT rfl
                        clear hyT hyF
                        repeat' (first | ((first | (with_reducible (refine Sl.k_load ?_; with_unfolding_all refine s_qt hst (qt_loadF (x0 := ((F5, ()) : Dir)) rfl BoxIn.h hR5 inX) ?_)) | (with_reducible refine Sl.k_bin ?_; (refine s_qt hst (qt_eql_b rfl rfl eqy) ?_))) <;> (try refine nX ?_)) | ((fail_if_success (go_big_may)); (go_step)))
                        refine s_stW0 hst rfl BoxIn.h inX rfl hR5 rfl ?_
                        clear hst; intro w hst
                        (try refine nX ?_)
                        (try replace hst := nH hst)
                        repeat' (first | ((fail_if_success (go_big_may)); (go_step)) | (with_reducible refine Sl.gate rfl ?_; (go_step)))
                        go_roundw
                        case rel => exact ⟨k + 1, _, u5, by omega, by go_num, hS7.trans hSS, by rw [HN1.out, ← h1.out]; exact hu5, hst.drop⟩
                        case measure => simp [intOf]; omega
                      | false =>
                        have h1 := hyF rfl
                        clear hyT hyF
                        repeat' (first | (((with_reducible refine Sl.k_bin ?_; (refine s_qt hst (qt_eql_b rfl rfl eqy) ?_))) <;> (try refine nX ?_)) | ((fail_if_success (go_big_may)); (go_step)) | (with_reducible refine Sl.gate rfl ?_; (go_step)))
                        go_roundw
                        case rel => exact ⟨k + 1, _, u, by omega, by go_num, hS7.trans hSS, by rw [HN1.out, h1.out]; exact hu.mono hSS, hst.drop⟩
                        case measure => simp [intOf]; omega
                  · obtain rfl : k = L2.length := by omega
                    rw [List.take_length] at hu
                    rw [hN2.out] at hu
                    have onl := nrm_ok ol
                    have lnl := nrm_len (fs := l)
                    have hmx : (nrm l).length ≤ 1000000 := by omega
                    repeat' ((fail_if_success (with_reducible show Code.wp _ (Code.region 28 _ _) _ _ _)); first | ((fail_if_success (go_big_may)); (go_step)) | (((with_reducible refine Sl.k_call ?_; (refine s_qt hst (by exact qt_len evX asX inX) ?_))) <;> (try refine nX ?_)) | (with_reducible refine Sl.gate rfl ?_; (go_step)))
                    obtain ⟨S9, hS9, hst0, hpz⟩ := pt_box (α := Dir) (x := (nrm l, ())) hst (dir_mk hu) rfl
                    clear hst
                    have hst := hst0
                    clear hst0
                    replace hpx := hpx.mono (hS7.trans hS9)
                    repeat' (first | ((first | (with_reducible (refine Sl.k_load ?_; (first | (refine s_ex hst (qt_ldp (α := Dir) (y := (nrm l, ())) evX hpx inX) ?_; rintro v55 ⟨ca, rfl, hca⟩) | (refine s_ex hst (qt_ldp (α := Dir) (y := (nrm l, ())) evX hpz inX) ?_; rintro v56 ⟨cb, rfl, hcb⟩)))) | (with_reducible refine Sl.k_guard ?_; ((refine Sl.guard_yes rfl ?_)))) <;> (try refine nX ?_)) | (((with_reducible refine Sl.k_call ?_; ((refine s_call (wsame_yes _ hst ca cb (nrm l) hca hcb onl hmx) inX rfl ?_; clear hst; rintro v w ⟨rfl, hst⟩)))) <;> (try refine nX ?_) <;> (try replace hst := nH hst)) | ((fail_if_success (go_big_may)); (go_step)))
                    go_ret
                    exact ⟨_, rfl, rfl, St.weaken ((hle8.trans hS7).trans hS9) hst⟩
end Go.Proofs.YtjapdhaimbalkaaDoor

/- The statement DirectoryOrder. -/
namespace Go.Proofs.YtjapdhaimbalkaaDoor
set_option linter.unusedSimpArgs false
set_option linter.unusedVariables false
open Go.RowKit Go.Sl Go.ChangeShapes Go.WideShapes Go.ChangeAt

set_option maxRecDepth 20000 in
theorem dorder_post (H : Type) (enc : TypeId × Value → H) (W : World) (base : Nat) (args : Array Value) (ds gs : List (DataW H)) (before : List MemPlace)
    (hval : ∀ (j : Nat) t v, Tryd.f3.params[j]? = some t → args[j]? = some v → Value.okWide Tryd.prog W .any base t v)
    (hW : DataW.Whole enc Tryd.prog Tryd.f3.params.toList Rows.directoryOrderSpec.vars false W args.toList ds gs before) (hk : Rows.uptoSmall H (ds ++ gs) = true) (hL : laidMetH Tryd.prog Rows.directoryOrderUptoRow.laid W) :
    Calls Tryd.prog 3 args W fun e W' => ∃ v, e = .returned v ∧ Rows.directoryOrderSpec.post enc Tryd.prog Tryd.f3 false true false false W args v W' := by
  have hW' := hW
  obtain ⟨p, q, hA0, hV, rfl, hfz, hnd⟩ := hW
  have hA : DataW.TrodAll enc Tryd.prog W 0 (fun _ => true) true Tryd.f3.params.toList args.toList ds p := hA0
  have hk := small_all hk
  rw [Tryd.params3] at hA hval
  obtain ⟨v0, vs0, d0, ds0, p0, q0, hargs, rfl, rfl, h0, r0⟩ := trodAll_cons hA
  obtain ⟨v1, vs1, d1, ds1, p1, q1, rfl, rfl, rfl, h1, r1⟩ := trodAll_cons r0
  obtain ⟨rfl, rfl, rfl⟩ := trodAll_nil r1
  obtain rfl : args = #[v0, v1] := by cases args; simp_all
  obtain ⟨rfl, rfl⟩ := trodVars_none hV
  simp only [List.append_nil, Rows.uptoBulkAll] at hk
  obtain ⟨l0, hl0, hm0⟩ := open_fas (hval 0 22 v0 rfl rfl) h0 (by omega)
  obtain ⟨l1, hl1, hm1⟩ := open_bs (hval 1 23 v1 rfl rfl) h1 (by omega)
  refine Calls.mono (dorder_c W (St.start W) (glob_of hL) v0 l0 hl0 hm0 v1 l1 hl1 hm1) fun e W' ⟨v, he, hv, hst⟩ => ?_
  subst hv
  exact ⟨_, he, law_post (tb := 4) rfl hW' (by kernel_rfl) (by rw [Tryd.params3]; intro t ht'; have e : t = 22 ∨ t = 23 := (by simpa using ht'); rcases e with rfl | rfl <;> exact ⟨by kernel_rfl, of_decide_eq_true (by kernel_rfl)⟩) (by kernel_rfl) (by kernel_rfl) rfl rfl rfl hst.below⟩

abbrev dorder_args : Array Value := #[.slice none 0 0, .slice none 0 0]
theorem dorder_met (os : Os) : laidMet Tryd.prog Rows.directoryOrderUptoRow.laid ((laidWorld os #[]).forCall (fun _ _ => 0) ⟨#[], dorder_args, []⟩).memory :=
  laidMet_of_run' 8 (by kernel_rfl) (by kernel_rfl)
theorem dorder_reads (os : Os) {H : Type} (enc : TypeId × Value → H) : ∃ places, DataW.whole enc Tryd.prog ((laidWorld os #[]).forCall (fun _ _ => 0) ⟨#[], dorder_args, []⟩).memory Tryd.f3.params.toList Rows.directoryOrderSpec.vars false dorder_args.toList 8 = some ([.nil, .nil], [], places) :=
  ⟨[], by kernel_rfl⟩

set_option maxRecDepth 100000 in
theorem dorder_lifted (os : Os) (started : os.Started) (H : Type) (enc : TypeId × Value → H) (F : Stop.Interp) :
    ReturnsInHanded {} Tryd.checked os 3 .any ((Rows.OpenSpec.upto Rows.directoryOrderSpec).preRow enc Tryd.prog Tryd.f3 Rows.directoryOrderUptoRow.domain false Rows.directoryOrderUptoRow.laid) (((Rows.OpenSpec.upto Rows.directoryOrderSpec).at F).post enc Tryd.prog Tryd.f3 false true false false) := by
  obtain ⟨places, hx⟩ := dorder_reads os enc
  refine returnsInHanded_of_row (C := Tryd.checked) (s := Rows.OpenSpec.upto Rows.directoryOrderSpec) own started (by kernel_rfl) Tryd.func3
    (witness_row_at (enc := enc) (C := Tryd.checked) false (laidWorld os #[]) dorder_args rfl (by kernel_rfl) (by kernel_rfl) (by kernel_rfl)
      (OpenSpec.preRow_of_cond 8 hx (by kernel_rfl) (fun k hk => by cases hk; kernel_rfl) (by kernel_rfl) (dorder_met os))) ?_
  intro W base args ds gs before hval hW _ hc _ hL _ _
  exact dorder_post H enc W base args ds gs before hval hW (hc _ rfl) hL

theorem dorder_said : Rows.DirectoryOrderUptoSaid :=
  OpenClaim.holds_of_cond 3 Tryd.f3 rfl rfl rfl rfl rfl rfl rfl ⟨rfl, rfl, rfl, rfl, rfl⟩ rfl rfl rfl rfl rfl (by kernel_rfl) Tryd.func3 (by kernel_rfl)
    (of_decide_eq_true (by kernel_rfl)) (by unfold Func.isWrapper; first | (rw [if_pos (by decide +kernel)]; kernel_rfl) | (rw [if_neg (by decide +kernel)]; exact ⟨rfl, rfl⟩))
    (fun os started H enc _ F => by rw [OpenClaim.pre_eq_preRow]; exact dorder_lifted os started H enc F)

theorem dorder_plain (f : FuncId) (fn : Func) (hf : Tryd.pinned.checked.prog.funcNamed "bootchain/bootchainlaw36.DirectoryOrder" = some f) (hfn : Tryd.pinned.checked.prog.funcs[f]? = some fn) :
    false = Tryd.pinned.checked.prog.looks [] ∧ ∀ (j : Nat) t, fn.params[j]? = some t → Tryd.pinned.checked.prog.wantsStandIn t = false := by
  obtain rfl : f = 3 := Option.some.inj ((show Tryd.prog.funcNamed "bootchain/bootchainlaw36.DirectoryOrder" = some 3 by kernel_rfl).symm.trans hf) |>.symm
  obtain rfl : fn = Tryd.f3 := (Option.some.inj (Tryd.func3.symm.trans hfn)).symm
  refine ⟨by kernel_rfl, fun j t ht => ?_⟩
  rw [Tryd.params3] at ht
  have e : t = 22 ∨ t = 23 := by simpa using Array.mem_of_getElem? ht
  rcases e with rfl | rfl
  · exact (show Tryd.prog.wantsStandIn 22 = false by kernel_rfl)
  · exact (show Tryd.prog.wantsStandIn 23 = false by kernel_rfl)

theorem dorder_proved : Rows.DirectoryOrderUptoCardSaid :=
  Claim7.holds_tied_plain_at .later [] _ _ _ _ dorder_said (fun _ h => by cases h) (by kernel_rfl) (fun _ h => by cases h) directoryOrderUpto_row_tie rfl ⟨rfl, rfl⟩ (by kernel_rfl) rfl dorder_plain (by kernel_rfl)
end Go.Proofs.YtjapdhaimbalkaaDoor
