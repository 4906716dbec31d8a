/- The statement DirectoryLookups. -/
import Derived.Deep.Cut
import Derived.Test.YtjapdhaimbalkaaDoorBb
import Derived.Test.YtjapdhaimbalkaaDoorBi
import Derived.Test.YtjapdhaimbalkaaDoorBg
import Derived.Test.YtjapdhaimbalkaaDoorBh
import Derived.Test.YtjapdhaimbalkaaDoorBe

/- Package directory, the reference: Source, Revoked, Bad, walked. -/
--@hgp
--@flat
--@dg
--@ex0
namespace Go.Proofs.YtjapdhaimbalkaaDoor
set_option linter.unusedSimpArgs false
set_option linter.unusedVariables false
open Go.RowKit Go.Sl Go.Srt

set_option maxRecDepth 8000 in
set_option maxHeartbeats 4000000 in
theorem rsrc_c {S M} (w : World) (hst : St S M w) (u1 : Value) (a : List Fa) (h1 : RSl S u1 a) (oa : ∀ f ∈ a, FaOk f) (hn : a.length ≤ 80000) (d : Dg) (hd : d.l.length = 16) :
    Rets Tryd.prog 29 [.agg [u1].toArray, dgVm d] w fun v w' => ∃ S', S.Le S' ∧ v = .tuple #[.string ⟨(srcD a d).1.b.toArray⟩, .bool (srcD a d).2] ∧ St S' M w' := by
  unfold Rets
  have k1 := h1.oneCell
  have hnl := nrm_len (fs := a)
  have hnk := nrm_ok oa
  have cN := fun {S : Snap} {M : List Chunk} (w : World) (hst : St S M w) (vl : Value) (hl : RSl S vl a) => rnorm_c w hst vl a hl oa (by omega)
  obtain ⟨R, hR0⟩ : ∃ R, srcD a d = R := ⟨_, rfl⟩
  rw [hR0]
  have HR0 := hR0
  clear hR0
  unfold srcD at HR0
  obtain ⟨F, hF⟩ : ∃ F, nrm a = F := ⟨_, rfl⟩
  rw [hF] at hnl hnk cN HR0
  have HR := Lib.hid HR0
  clear hF HR0
  go_enter Tryd.func29, Tryd.ntmps29
  repeat' ((fail_if_success (with_reducible show Code.wp _ (Code.region 1 _ _) _ _ _)); first | ((fail_if_success (go_big_may)); (go_step)) | (((((refine s_box hst evX rfl ?_; clear hst; intro bx w hst)))) <;> (try refine nX ?_) <;> (try replace hst := nH hst)))
  have hst0 := hst
  clear hst
  obtain ⟨S1, hS1, hst1, hpd⟩ := dg_box hst0 hd
  clear hst0
  obtain ⟨S2, hS2, hst, hpa⟩ := pt_box (α := Dir) (x := (a, ())) hst1 (dir_mk (h1.mono hS1)) rfl
  clear hst1
  replace hpd := hpd.mono hS2
  repeat' (first | ((first | (with_reducible (refine Sl.k_field ?_; refine s_ex hst (qt_fieldp evX hpa inX inX rfl) ?_; rintro vf hpf)) | (with_reducible (refine Sl.k_load ?_; refine s_ex hst (qt_ldp_list evX hpf inX) ?_; rintro vl ⟨hvl, hvl1⟩; replace hvl : RSl S2 vl a := hvl))) <;> (try refine nX ?_)) | (((with_reducible refine Sl.k_call ?_; ((refine s_call (cN _ hst vl hvl) inX rfl ?_; clear hst; rintro v w ⟨S3, hS3, hu, hst⟩)))) <;> (try refine nX ?_) <;> (try replace hst := nH hst)) | ((fail_if_success (go_big_may)); (go_step)))
  replace hpd := hpd.mono hS3
  have hle := (hS1.trans hS2).trans hS3
  have ku := hu.oneCell
  clear hS1 hS2 hS3 hvl hvl1 hpf hpa cN
  go_loopw [7] (fun v wr => ∃ k : Nat, k ≤ F.length ∧ v = .int .i64 k ∧ Hid (∀ f ∈ F.take k, (f.1 == 1 && decide (sdgP f.2.1.b = d)) = false) ∧ St S3 M wr) (fun v _ => F.length - (intOf v).toNat)
  case atStart => exact ⟨0, Nat.zero_le _, rfl, Lib.hid (by simp), hst⟩
  case round =>
    clear hst
    obtain ⟨k, hk, rfl, hno, hst⟩ := hrel
    by_cases hlt : k < F.length
    · have okf := hnk _ (List.getElem_mem hlt)
      obtain ⟨y1, hy1⟩ : ∃ y, (F[k].1 == 1) = y := ⟨_, rfl⟩
      obtain ⟨y2, hy2⟩ : ∃ y, decide (sdgP F[k].2.1.b = d) = y := ⟨_, rfl⟩
      have hgo0 : (y1 && y2) = false → ∀ f ∈ F.take (k + 1), (f.1 == 1 && decide (sdgP f.2.1.b = d)) = false := fun h f hf => by
        rw [List.take_succ_eq_append_getElem hlt] at hf
        rcases List.mem_append.1 hf with hf | hf
        · exact hno.out f hf
        · obtain rfl := List.mem_singleton.1 hf; rw [hy1, hy2]; exact h
      have hgo := fun h => Lib.hid (hgo0 h)
      have hfi0 := fun h => HR.out.symm.trans (findV_some (z := (⟨[]⟩ : Str)) hlt hno.out h)
      rw [hy1, hy2] at hfi0
      have hfi := fun h => Lib.hid (hfi0 h)
      have hlE : (sdgP F[k].2.1.b).l.length = 16 := sdgP_len _
      have cSd0 := fun {S : Snap} {M : List Chunk} (w : World) (hst : St S M w) => rsdig_c w hst F[k].2.1.b (by have := okf.t; omega)
      obtain ⟨E, hE⟩ : ∃ E, sdgP F[k].2.1.b = E := ⟨_, rfl⟩
      have cSd : ∀ {S : Snap} {M : List Chunk} (w : World) (hst : St S M w), Rets Tryd.prog 63 [StrV F[k].2.1.b] w fun v w' => v = dgVm E ∧ St S M w' := by rw [← hE]; exact cSd0
      rw [hE] at hlE hy2
      clear hE cSd0
      clear hgo0 hfi0
      cases y1 with
      | false =>
        have hnx := hgo rfl
        clear hgo hfi
        repeat' (first | ((fail_if_success (go_big_may)); (go_step)) | (((with_reducible refine Sl.k_call ?_; (refine s_qt hst (by exact qt_len evX asX inX) ?_))) <;> (try refine nX ?_)) | (with_reducible refine Sl.gate rfl ?_; (go_step)))
        refine v_begin hst (by kernel_rfl) ?_; clear hst; intro ops; (try refine nX ?_)
        (refine t_qt 0 rfl (by kernel_rfl) rfl rfl (by exact qt_move evX) ?_) <;> (try refine nX ?_)
        (refine t_qt 1 rfl (by kernel_rfl) rfl rfl (by exact qt_move evX) ?_) <;> (try refine nX ?_)
        ((refine t_ex0 2 rfl (by kernel_rfl) rfl rfl (qt_index evX hu rfl inX inX omX omX ) ?_; rintro  v2 hp2; simp only [Int.toNat_natCast] at hp2)) <;> (try refine nX ?_)
        ((refine t_ex0 3 rfl (by kernel_rfl) rfl rfl (qt_fieldp evX hp2 inX inX rfl ) ?_; rintro  v3 hp3)) <;> (try refine nX ?_)
        ((refine t_ex0 4 rfl (by kernel_rfl) rfl rfl (qt_ldp_int evX hp3 inX ) ?_; rintro  v4 ⟨rfl, hI4⟩)) <;> (try refine nX ?_)
        (refine t_qt 5 rfl (by kernel_rfl) rfl rfl (qt_eql_b rfl rfl hy1) ?_) <;> (try refine nX ?_)
        (refine t_qt 6 rfl (by kernel_rfl) rfl rfl (by exact qt_move evX) ?_) <;> (try refine nX ?_)
        (refine t_no 7 rfl (by kernel_rfl) rfl rfl ?_) <;> (try refine nX ?_)
        (refine t_no 8 rfl (by kernel_rfl) rfl rfl ?_) <;> (try refine nX ?_)
        ((refine t_no 9 rfl (by kernel_rfl) rfl rfl ?_)) <;> (try refine nX ?_)
        ((refine t_no 10 rfl (by kernel_rfl) rfl rfl ?_)) <;> (try refine nX ?_)
        ((refine t_no 11 rfl (by kernel_rfl) rfl rfl ?_)) <;> (try refine nX ?_)
        ((refine t_no 12 rfl (by kernel_rfl) rfl rfl ?_)) <;> (try refine nX ?_)
        ((refine t_no 13 rfl (by kernel_rfl) rfl rfl ?_)) <;> (try refine nX ?_)
        ((refine t_no 14 rfl (by kernel_rfl) rfl rfl ?_)) <;> (try refine nX ?_)
        (refine t_qt 15 rfl (by kernel_rfl) rfl rfl (by exact qt_pick_f rfl evX) ?_) <;> (try refine nX ?_)
        refine v_done (by kernel_rfl) ?_; clear ops; intro w hst
        repeat' (first | ((fail_if_success (go_big_may)); (go_step)) | (with_reducible refine Sl.gate rfl ?_; (go_step)))
        go_roundw
        case rel => exact ⟨k + 1, by omega, by go_num, hnx, hst⟩
        case measure => simp [intOf]; omega
      | true =>
        cases y2 with
        | false =>
          have hnx := hgo rfl
          clear hgo hfi
          repeat' (first | ((fail_if_success (go_big_may)); (go_step)) | (((with_reducible refine Sl.k_call ?_; (refine s_qt hst (by exact qt_len evX asX inX) ?_))) <;> (try refine nX ?_)) | (with_reducible refine Sl.gate rfl ?_; (go_step)))
          refine v_begin hst (by kernel_rfl) ?_; clear hst; intro ops; (try refine nX ?_)
          (refine t_qt 0 rfl (by kernel_rfl) rfl rfl (by exact qt_move evX) ?_) <;> (try refine nX ?_)
          (refine t_qt 1 rfl (by kernel_rfl) rfl rfl (by exact qt_move evX) ?_) <;> (try refine nX ?_)
          ((refine t_ex0 2 rfl (by kernel_rfl) rfl rfl (qt_index evX hu rfl inX inX omX omX ) ?_; rintro  v2 hp2; simp only [Int.toNat_natCast] at hp2)) <;> (try refine nX ?_)
          ((refine t_ex0 3 rfl (by kernel_rfl) rfl rfl (qt_fieldp evX hp2 inX inX rfl ) ?_; rintro  v3 hp3)) <;> (try refine nX ?_)
          ((refine t_ex0 4 rfl (by kernel_rfl) rfl rfl (qt_ldp_int evX hp3 inX ) ?_; rintro  v4 ⟨rfl, hI4⟩)) <;> (try refine nX ?_)
          (refine t_qt 5 rfl (by kernel_rfl) rfl rfl (qt_eql_b rfl rfl hy1) ?_) <;> (try refine nX ?_)
          (refine t_qt 6 rfl (by kernel_rfl) rfl rfl (by exact qt_move evX) ?_) <;> (try refine nX ?_)
          (refine t_qt 7 rfl (by kernel_rfl) rfl rfl (by exact qt_move evX) ?_) <;> (try refine nX ?_)
          (refine t_qt 8 rfl (by kernel_rfl) rfl rfl (by exact qt_move evX) ?_) <;> (try refine nX ?_)
          (((refine t_ex0 9 rfl (by kernel_rfl) rfl rfl (qt_index evX hu rfl inX inX omX omX ) ?_; rintro  v9 hp9; simp only [Int.toNat_natCast] at hp9))) <;> (try refine nX ?_)
          (((refine t_ex0 10 rfl (by kernel_rfl) rfl rfl (qt_fieldp evX hp9 inX inX rfl ) ?_; rintro  v10 hp10))) <;> (try refine nX ?_)
          (((refine t_ex0 11 rfl (by kernel_rfl) rfl rfl (qt_ldp_str evX hp10 inX ) ?_; rintro  v11 ⟨rfl, hs11⟩))) <;> (try refine nX ?_)
          ((refine t_call 12 rfl (by kernel_rfl) rfl (fun S' M' w hS hM hst => cSd w hst) inX rfl ?_)) <;> (try refine nX ?_)
          ((refine t_qt 13 rfl (by kernel_rfl) rfl rfl (qt_ldp_flat (y := d) evX hpd inX inX rfl) ?_)) <;> (try refine nX ?_)
          ((refine t_qt 14 rfl (by kernel_rfl) rfl rfl (qt_eqlK_b rfl rfl (r_dgd hlE) (r_dgd hd) inX inX inferInstance hy2) ?_)) <;> (try refine nX ?_)
          (refine t_qt 15 rfl (by kernel_rfl) rfl rfl (by exact qt_pick_t rfl evX) ?_) <;> (try refine nX ?_)
          refine v_done (by kernel_rfl) ?_; clear ops; intro w hst
          repeat' (first | ((fail_if_success (go_big_may)); (go_step)) | (with_reducible refine Sl.gate rfl ?_; (go_step)))
          go_roundw
          case rel => exact ⟨k + 1, by omega, by go_num, hnx, hst⟩
          case measure => simp [intOf]; omega
        | true =>
          have hfi := hfi rfl
          clear hgo
          repeat' (first | ((fail_if_success (go_big_may)); (go_step)) | (((with_reducible refine Sl.k_call ?_; (refine s_qt hst (by exact qt_len evX asX inX) ?_))) <;> (try refine nX ?_)) | (with_reducible refine Sl.gate rfl ?_; (go_step)))
          refine v_begin hst (by kernel_rfl) ?_; clear hst; intro ops; (try refine nX ?_)
          (refine t_qt 0 rfl (by kernel_rfl) rfl rfl (by exact qt_move evX) ?_) <;> (try refine nX ?_)
          (refine t_qt 1 rfl (by kernel_rfl) rfl rfl (by exact qt_move evX) ?_) <;> (try refine nX ?_)
          ((refine t_ex0 2 rfl (by kernel_rfl) rfl rfl (qt_index evX hu rfl inX inX omX omX ) ?_; rintro  v2 hp2; simp only [Int.toNat_natCast] at hp2)) <;> (try refine nX ?_)
          ((refine t_ex0 3 rfl (by kernel_rfl) rfl rfl (qt_fieldp evX hp2 inX inX rfl ) ?_; rintro  v3 hp3)) <;> (try refine nX ?_)
          ((refine t_ex0 4 rfl (by kernel_rfl) rfl rfl (qt_ldp_int evX hp3 inX ) ?_; rintro  v4 ⟨rfl, hI4⟩)) <;> (try refine nX ?_)
          (refine t_qt 5 rfl (by kernel_rfl) rfl rfl (qt_eql_b rfl rfl hy1) ?_) <;> (try refine nX ?_)
          (refine t_qt 6 rfl (by kernel_rfl) rfl rfl (by exact qt_move evX) ?_) <;> (try refine nX ?_)
          (refine t_qt 7 rfl (by kernel_rfl) rfl rfl (by exact qt_move evX) ?_) <;> (try refine nX ?_)
          (refine t_qt 8 rfl (by kernel_rfl) rfl rfl (by exact qt_move evX) ?_) <;> (try refine nX ?_)
          (((refine t_ex0 9 rfl (by kernel_rfl) rfl rfl (qt_index evX hu rfl inX inX omX omX ) ?_; rintro  v9 hp9; simp only [Int.toNat_natCast] at hp9))) <;> (try refine nX ?_)
          (((refine t_ex0 10 rfl (by kernel_rfl) rfl rfl (qt_fieldp evX hp9 inX inX rfl ) ?_; rintro  v10 hp10))) <;> (try refine nX ?_)
          (((refine t_ex0 11 rfl (by kernel_rfl) rfl rfl (qt_ldp_str evX hp10 inX ) ?_; rintro  v11 ⟨rfl, hs11⟩))) <;> (try refine nX ?_)
          ((refine t_call 12 rfl (by kernel_rfl) rfl (fun S' M' w hS hM hst => cSd w hst) inX rfl ?_)) <;> (try refine nX ?_)
          ((refine t_qt 13 rfl (by kernel_rfl) rfl rfl (qt_ldp_flat (y := d) evX hpd inX inX rfl) ?_)) <;> (try refine nX ?_)
          ((refine t_qt 14 rfl (by kernel_rfl) rfl rfl (qt_eqlK_b rfl rfl (r_dgd hlE) (r_dgd hd) inX inX inferInstance hy2) ?_)) <;> (try refine nX ?_)
          (refine t_qt 15 rfl (by kernel_rfl) rfl rfl (by exact qt_pick_t rfl evX) ?_) <;> (try refine nX ?_)
          refine v_done (by kernel_rfl) ?_; clear ops; intro w hst
          repeat' (first | ((first | (with_reducible (refine Sl.k_index ?_; refine s_ex hst (qt_index evX hu rfl inX inX omX omX) ?_; rintro v21 hp21; simp only [Int.toNat_natCast] at hp21)) | (with_reducible (refine Sl.k_field ?_; refine s_ex hst (qt_fieldp evX hp21 inX inX rfl) ?_; rintro v22 hp22))) <;> (try refine nX ?_)) | ((fail_if_success (go_big_may)); (go_step)) | (((with_reducible refine Sl.k_load ?_; ((refine s_ex hst (qt_ldp_str evX asX inX) ?_; rintro v ⟨rfl, hs⟩)))) <;> (try refine nX ?_)))
          exact ret_two rfl (rv_tmp rfl) (rv_tmp rfl) ⟨_, rfl, S3, hle, by rw [hfi.out]; rfl, hst⟩
    · have hq0 := HR.out.symm.trans (findV_none (z := (⟨[]⟩ : Str)) (F := F) (kind := 1) (p := fun f => decide (sdgP f.2.1.b = d)) (by have := hno.out; rwa [List.take_of_length_le (by omega)] at this))
      have hq := Lib.hid hq0
      clear hq0
      repeat' (first | ((fail_if_success (go_big_may)); (go_step)) | (((with_reducible refine Sl.k_call ?_; (refine s_qt hst (by exact qt_len evX asX inX) ?_))) <;> (try refine nX ?_)) | (with_reducible refine Sl.gate rfl ?_; (go_step)))
      exact ret_two rfl (rv_tmp rfl) (rv_tmp rfl) ⟨_, rfl, S3, hle, by rw [hq.out]; rfl, hst⟩

set_option maxRecDepth 8000 in
set_option maxHeartbeats 4000000 in
theorem rrev_c {S M} (w : World) (hst : St S M w) (u1 : Value) (a : List Fa) (h1 : RSl S u1 a) (oa : ∀ f ∈ a, FaOk f) (hn : a.length ≤ 80000) (d : Dg) (hd : d.l.length = 16) :
    Rets Tryd.prog 34 [.agg [u1].toArray, dgVm d] w fun v w' => ∃ S', S.Le S' ∧ v = .bool (lstD a 3 d).2 ∧ St S' M w' := by
  unfold Rets
  have k1 := h1.oneCell
  have hnl := nrm_len (fs := a)
  have hnk := nrm_ok oa
  have cN := fun {S : Snap} {M : List Chunk} (w : World) (hst : St S M w) (vl : Value) (hl : RSl S vl a) => rnorm_c w hst vl a hl oa (by omega)
  obtain ⟨R, hR0⟩ : ∃ R, lstD a 3 d = R := ⟨_, rfl⟩
  rw [hR0]
  have HR0 := hR0
  clear hR0
  unfold lstD at HR0
  obtain ⟨F, hF⟩ : ∃ F, nrm a = F := ⟨_, rfl⟩
  rw [hF] at hnl hnk cN HR0
  have HR := Lib.hid HR0
  clear hF HR0
  go_enter Tryd.func34, Tryd.ntmps34
  repeat' ((fail_if_success (with_reducible show Code.wp _ (Code.region 1 _ _) _ _ _)); first | ((fail_if_success (go_big_may)); (go_step)) | (((((refine s_box hst evX rfl ?_; clear hst; intro bx w hst)))) <;> (try refine nX ?_) <;> (try replace hst := nH hst)))
  have hst0 := hst
  clear hst
  obtain ⟨S1, hS1, hst1, hpd⟩ := dg_box hst0 hd
  clear hst0
  obtain ⟨S2, hS2, hst, hpa⟩ := pt_box (α := Dir) (x := (a, ())) hst1 (dir_mk (h1.mono hS1)) rfl
  clear hst1
  replace hpd := hpd.mono hS2
  repeat' (first | ((first | (with_reducible (refine Sl.k_field ?_; refine s_ex hst (qt_fieldp evX hpa inX inX rfl) ?_; rintro vf hpf)) | (with_reducible (refine Sl.k_load ?_; refine s_ex hst (qt_ldp_list evX hpf inX) ?_; rintro vl ⟨hvl, hvl1⟩; replace hvl : RSl S2 vl a := hvl))) <;> (try refine nX ?_)) | (((with_reducible refine Sl.k_call ?_; ((refine s_call (cN _ hst vl hvl) inX rfl ?_; clear hst; rintro v w ⟨S3, hS3, hu, hst⟩)))) <;> (try refine nX ?_) <;> (try replace hst := nH hst)) | ((fail_if_success (go_big_may)); (go_step)))
  replace hpd := hpd.mono hS3
  have hle := (hS1.trans hS2).trans hS3
  have ku := hu.oneCell
  clear hS1 hS2 hS3 hvl hvl1 hpf hpa cN
  go_loopw [6] (fun v wr => ∃ k : Nat, k ≤ F.length ∧ v = .int .i64 k ∧ Hid (∀ f ∈ F.take k, (f.1 == 3 && decide (f.2.2.2.1 = d)) = false) ∧ St S3 M wr) (fun v _ => F.length - (intOf v).toNat)
  case atStart => exact ⟨0, Nat.zero_le _, rfl, Lib.hid (by simp), hst⟩
  case round =>
    clear hst
    obtain ⟨k, hk, rfl, hno, hst⟩ := hrel
    by_cases hlt : k < F.length
    · have okf := hnk _ (List.getElem_mem hlt)
      obtain ⟨y1, hy1⟩ : ∃ y, (F[k].1 == 3) = y := ⟨_, rfl⟩
      obtain ⟨y2, hy2⟩ : ∃ y, decide (F[k].2.2.2.1 = d) = y := ⟨_, rfl⟩
      have hgo0 : (y1 && y2) = false → ∀ f ∈ F.take (k + 1), (f.1 == 3 && decide (f.2.2.2.1 = d)) = false := fun h f hf => by
        rw [List.take_succ_eq_append_getElem hlt] at hf
        rcases List.mem_append.1 hf with hf | hf
        · exact hno.out f hf
        · obtain rfl := List.mem_singleton.1 hf; rw [hy1, hy2]; exact h
      have hgo := fun h => Lib.hid (hgo0 h)
      have hfi0 := fun h => HR.out.symm.trans (findV_some (z := false) hlt hno.out h)
      rw [hy1, hy2] at hfi0
      have hfi := fun h => Lib.hid (hfi0 h)
      have hlE := okf.d
      clear hgo0 hfi0
      cases y1 with
      | false =>
        have hnx := hgo rfl
        clear hgo hfi
        repeat' (first | ((fail_if_success (go_big_may)); (go_step)) | (((with_reducible refine Sl.k_call ?_; (refine s_qt hst (by exact qt_len evX asX inX) ?_))) <;> (try refine nX ?_)) | (with_reducible refine Sl.gate rfl ?_; (go_step)))
        refine v_begin hst (by kernel_rfl) ?_; clear hst; intro ops; (try refine nX ?_)
        (refine t_qt 0 rfl (by kernel_rfl) rfl rfl (by exact qt_move evX) ?_) <;> (try refine nX ?_)
        (refine t_qt 1 rfl (by kernel_rfl) rfl rfl (by exact qt_move evX) ?_) <;> (try refine nX ?_)
        ((refine t_ex0 2 rfl (by kernel_rfl) rfl rfl (qt_index evX hu rfl inX inX omX omX ) ?_; rintro  v2 hp2; simp only [Int.toNat_natCast] at hp2)) <;> (try refine nX ?_)
        ((refine t_ex0 3 rfl (by kernel_rfl) rfl rfl (qt_fieldp evX hp2 inX inX rfl ) ?_; rintro  v3 hp3)) <;> (try refine nX ?_)
        ((refine t_ex0 4 rfl (by kernel_rfl) rfl rfl (qt_ldp_int evX hp3 inX ) ?_; rintro  v4 ⟨rfl, hI4⟩)) <;> (try refine nX ?_)
        (refine t_qt 5 rfl (by kernel_rfl) rfl rfl (qt_eql_b rfl rfl hy1) ?_) <;> (try refine nX ?_)
        (refine t_qt 6 rfl (by kernel_rfl) rfl rfl (by exact qt_move evX) ?_) <;> (try refine nX ?_)
        (refine t_no 7 rfl (by kernel_rfl) rfl rfl ?_) <;> (try refine nX ?_)
        (refine t_no 8 rfl (by kernel_rfl) rfl rfl ?_) <;> (try refine nX ?_)
        ((refine t_no 9 rfl (by kernel_rfl) rfl rfl ?_)) <;> (try refine nX ?_)
        ((refine t_no 10 rfl (by kernel_rfl) rfl rfl ?_)) <;> (try refine nX ?_)
        ((refine t_no 11 rfl (by kernel_rfl) rfl rfl ?_)) <;> (try refine nX ?_)
        ((refine t_no 12 rfl (by kernel_rfl) rfl rfl ?_)) <;> (try refine nX ?_)
        ((refine t_no 13 rfl (by kernel_rfl) rfl rfl ?_)) <;> (try refine nX ?_)
        (refine t_qt 14 rfl (by kernel_rfl) rfl rfl (by exact qt_pick_f rfl evX) ?_) <;> (try refine nX ?_)
        refine v_done (by kernel_rfl) ?_; clear ops; intro w hst
        repeat' (first | ((fail_if_success (go_big_may)); (go_step)) | (with_reducible refine Sl.gate rfl ?_; (go_step)))
        go_roundw
        case rel => exact ⟨k + 1, by omega, by go_num, hnx, hst⟩
        case measure => simp [intOf]; omega
      | true =>
        cases y2 with
        | false =>
          have hnx := hgo rfl
          clear hgo hfi
          repeat' (first | ((fail_if_success (go_big_may)); (go_step)) | (((with_reducible refine Sl.k_call ?_; (refine s_qt hst (by exact qt_len evX asX inX) ?_))) <;> (try refine nX ?_)) | (with_reducible refine Sl.gate rfl ?_; (go_step)))
          refine v_begin hst (by kernel_rfl) ?_; clear hst; intro ops; (try refine nX ?_)
          (refine t_qt 0 rfl (by kernel_rfl) rfl rfl (by exact qt_move evX) ?_) <;> (try refine nX ?_)
          (refine t_qt 1 rfl (by kernel_rfl) rfl rfl (by exact qt_move evX) ?_) <;> (try refine nX ?_)
          ((refine t_ex0 2 rfl (by kernel_rfl) rfl rfl (qt_index evX hu rfl inX inX omX omX ) ?_; rintro  v2 hp2; simp only [Int.toNat_natCast] at hp2)) <;> (try refine nX ?_)
          ((refine t_ex0 3 rfl (by kernel_rfl) rfl rfl (qt_fieldp evX hp2 inX inX rfl ) ?_; rintro  v3 hp3)) <;> (try refine nX ?_)
          ((refine t_ex0 4 rfl (by kernel_rfl) rfl rfl (qt_ldp_int evX hp3 inX ) ?_; rintro  v4 ⟨rfl, hI4⟩)) <;> (try refine nX ?_)
          (refine t_qt 5 rfl (by kernel_rfl) rfl rfl (qt_eql_b rfl rfl hy1) ?_) <;> (try refine nX ?_)
          (refine t_qt 6 rfl (by kernel_rfl) rfl rfl (by exact qt_move evX) ?_) <;> (try refine nX ?_)
          (refine t_qt 7 rfl (by kernel_rfl) rfl rfl (by exact qt_move evX) ?_) <;> (try refine nX ?_)
          (refine t_qt 8 rfl (by kernel_rfl) rfl rfl (by exact qt_move evX) ?_) <;> (try refine nX ?_)
          (((refine t_ex0 9 rfl (by kernel_rfl) rfl rfl (qt_index evX hu rfl inX inX omX omX ) ?_; rintro  v9 hp9; simp only [Int.toNat_natCast] at hp9))) <;> (try refine nX ?_)
          (((refine t_ex0 10 rfl (by kernel_rfl) rfl rfl (qt_fieldp evX hp9 inX inX rfl ) ?_; rintro  v10 hp10))) <;> (try refine nX ?_)
          ((refine t_qt 11 rfl (by kernel_rfl) rfl rfl (qt_ldp_flat (y := F[k].2.2.2.1) evX hp10 inX inX rfl) ?_)) <;> (try refine nX ?_)
          ((refine t_qt 12 rfl (by kernel_rfl) rfl rfl (qt_ldp_flat (y := d) evX hpd inX inX rfl) ?_)) <;> (try refine nX ?_)
          ((refine t_qt 13 rfl (by kernel_rfl) rfl rfl (qt_eqlK_b rfl rfl (r_dgd hlE) (r_dgd hd) inX inX inferInstance hy2) ?_)) <;> (try refine nX ?_)
          (refine t_qt 14 rfl (by kernel_rfl) rfl rfl (by exact qt_pick_t rfl evX) ?_) <;> (try refine nX ?_)
          refine v_done (by kernel_rfl) ?_; clear ops; intro w hst
          repeat' (first | ((fail_if_success (go_big_may)); (go_step)) | (with_reducible refine Sl.gate rfl ?_; (go_step)))
          go_roundw
          case rel => exact ⟨k + 1, by omega, by go_num, hnx, hst⟩
          case measure => simp [intOf]; omega
        | true =>
          have hfi := hfi rfl
          clear hgo
          repeat' (first | ((fail_if_success (go_big_may)); (go_step)) | (((with_reducible refine Sl.k_call ?_; (refine s_qt hst (by exact qt_len evX asX inX) ?_))) <;> (try refine nX ?_)) | (with_reducible refine Sl.gate rfl ?_; (go_step)))
          refine v_begin hst (by kernel_rfl) ?_; clear hst; intro ops; (try refine nX ?_)
          (refine t_qt 0 rfl (by kernel_rfl) rfl rfl (by exact qt_move evX) ?_) <;> (try refine nX ?_)
          (refine t_qt 1 rfl (by kernel_rfl) rfl rfl (by exact qt_move evX) ?_) <;> (try refine nX ?_)
          ((refine t_ex0 2 rfl (by kernel_rfl) rfl rfl (qt_index evX hu rfl inX inX omX omX ) ?_; rintro  v2 hp2; simp only [Int.toNat_natCast] at hp2)) <;> (try refine nX ?_)
          ((refine t_ex0 3 rfl (by kernel_rfl) rfl rfl (qt_fieldp evX hp2 inX inX rfl ) ?_; rintro  v3 hp3)) <;> (try refine nX ?_)
          ((refine t_ex0 4 rfl (by kernel_rfl) rfl rfl (qt_ldp_int evX hp3 inX ) ?_; rintro  v4 ⟨rfl, hI4⟩)) <;> (try refine nX ?_)
          (refine t_qt 5 rfl (by kernel_rfl) rfl rfl (qt_eql_b rfl rfl hy1) ?_) <;> (try refine nX ?_)
          (refine t_qt 6 rfl (by kernel_rfl) rfl rfl (by exact qt_move evX) ?_) <;> (try refine nX ?_)
          (refine t_qt 7 rfl (by kernel_rfl) rfl rfl (by exact qt_move evX) ?_) <;> (try refine nX ?_)
          (refine t_qt 8 rfl (by kernel_rfl) rfl rfl (by exact qt_move evX) ?_) <;> (try refine nX ?_)
          (((refine t_ex0 9 rfl (by kernel_rfl) rfl rfl (qt_index evX hu rfl inX inX omX omX ) ?_; rintro  v9 hp9; simp only [Int.toNat_natCast] at hp9))) <;> (try refine nX ?_)
          (((refine t_ex0 10 rfl (by kernel_rfl) rfl rfl (qt_fieldp evX hp9 inX inX rfl ) ?_; rintro  v10 hp10))) <;> (try refine nX ?_)
          ((refine t_qt 11 rfl (by kernel_rfl) rfl rfl (qt_ldp_flat (y := F[k].2.2.2.1) evX hp10 inX inX rfl) ?_)) <;> (try refine nX ?_)
          ((refine t_qt 12 rfl (by kernel_rfl) rfl rfl (qt_ldp_flat (y := d) evX hpd inX inX rfl) ?_)) <;> (try refine nX ?_)
          ((refine t_qt 13 rfl (by kernel_rfl) rfl rfl (qt_eqlK_b rfl rfl (r_dgd hlE) (r_dgd hd) inX inX inferInstance hy2) ?_)) <;> (try refine nX ?_)
          (refine t_qt 14 rfl (by kernel_rfl) rfl rfl (by exact qt_pick_t rfl evX) ?_) <;> (try refine nX ?_)
          refine v_done (by kernel_rfl) ?_; clear ops; intro w hst
          repeat' (((fail_if_success (go_big_may)); (go_step)))
          go_ret
          exact ⟨_, rfl, S3, hle, by rw [hfi.out]; rfl, hst⟩
    · have hq0 := HR.out.symm.trans (findV_none (z := false) (F := F) (kind := 3) (p := fun f => decide (f.2.2.2.1 = d)) (by have := hno.out; rwa [List.take_of_length_le (by omega)] at this))
      have hq := Lib.hid hq0
      clear hq0
      repeat' (first | ((fail_if_success (go_big_may)); (go_step)) | (((with_reducible refine Sl.k_call ?_; (refine s_qt hst (by exact qt_len evX asX inX) ?_))) <;> (try refine nX ?_)) | (with_reducible refine Sl.gate rfl ?_; (go_step)))
      go_ret
      exact ⟨_, rfl, S3, hle, by rw [hq.out]; rfl, hst⟩

set_option maxRecDepth 8000 in
set_option maxHeartbeats 4000000 in
theorem rbad_c {S M} (w : World) (hst : St S M w) (u1 : Value) (a : List Fa) (h1 : RSl S u1 a) (oa : ∀ f ∈ a, FaOk f) (hn : a.length ≤ 80000) (d : Dg) (hd : d.l.length = 16) :
    Rets Tryd.prog 36 [.agg [u1].toArray, dgVm d] w fun v w' => ∃ S', S.Le S' ∧ v = .bool (lstD a 4 d).2 ∧ St S' M w' := by
  unfold Rets
  have k1 := h1.oneCell
  have hnl := nrm_len (fs := a)
  have hnk := nrm_ok oa
  have cN := fun {S : Snap} {M : List Chunk} (w : World) (hst : St S M w) (vl : Value) (hl : RSl S vl a) => rnorm_c w hst vl a hl oa (by omega)
  obtain ⟨R, hR0⟩ : ∃ R, lstD a 4 d = R := ⟨_, rfl⟩
  rw [hR0]
  have HR0 := hR0
  clear hR0
  unfold lstD at HR0
  obtain ⟨F, hF⟩ : ∃ F, nrm a = F := ⟨_, rfl⟩
  rw [hF] at hnl hnk cN HR0
  have HR := Lib.hid HR0
  clear hF HR0
  go_enter Tryd.func36, Tryd.ntmps36
  repeat' ((fail_if_success (with_reducible show Code.wp _ (Code.region 1 _ _) _ _ _)); first | ((fail_if_success (go_big_may)); (go_step)) | (((((refine s_box hst evX rfl ?_; clear hst; intro bx w hst)))) <;> (try refine nX ?_) <;> (try replace hst := nH hst)))
  have hst0 := hst
  clear hst
  obtain ⟨S1, hS1, hst1, hpd⟩ := dg_box hst0 hd
  clear hst0
  obtain ⟨S2, hS2, hst, hpa⟩ := pt_box (α := Dir) (x := (a, ())) hst1 (dir_mk (h1.mono hS1)) rfl
  clear hst1
  replace hpd := hpd.mono hS2
  repeat' (first | ((first | (with_reducible (refine Sl.k_field ?_; refine s_ex hst (qt_fieldp evX hpa inX inX rfl) ?_; rintro vf hpf)) | (with_reducible (refine Sl.k_load ?_; refine s_ex hst (qt_ldp_list evX hpf inX) ?_; rintro vl ⟨hvl, hvl1⟩; replace hvl : RSl S2 vl a := hvl))) <;> (try refine nX ?_)) | (((with_reducible refine Sl.k_call ?_; ((refine s_call (cN _ hst vl hvl) inX rfl ?_; clear hst; rintro v w ⟨S3, hS3, hu, hst⟩)))) <;> (try refine nX ?_) <;> (try replace hst := nH hst)) | ((fail_if_success (go_big_may)); (go_step)))
  replace hpd := hpd.mono hS3
  have hle := (hS1.trans hS2).trans hS3
  have ku := hu.oneCell
  clear hS1 hS2 hS3 hvl hvl1 hpf hpa cN
  go_loopw [6] (fun v wr => ∃ k : Nat, k ≤ F.length ∧ v = .int .i64 k ∧ Hid (∀ f ∈ F.take k, (f.1 == 4 && decide (f.2.2.2.1 = d)) = false) ∧ St S3 M wr) (fun v _ => F.length - (intOf v).toNat)
  case atStart => exact ⟨0, Nat.zero_le _, rfl, Lib.hid (by simp), hst⟩
  case round =>
    clear hst
    obtain ⟨k, hk, rfl, hno, hst⟩ := hrel
    by_cases hlt : k < F.length
    · have okf := hnk _ (List.getElem_mem hlt)
      obtain ⟨y1, hy1⟩ : ∃ y, (F[k].1 == 4) = y := ⟨_, rfl⟩
      obtain ⟨y2, hy2⟩ : ∃ y, decide (F[k].2.2.2.1 = d) = y := ⟨_, rfl⟩
      have hgo0 : (y1 && y2) = false → ∀ f ∈ F.take (k + 1), (f.1 == 4 && decide (f.2.2.2.1 = d)) = false := fun h f hf => by
        rw [List.take_succ_eq_append_getElem hlt] at hf
        rcases List.mem_append.1 hf with hf | hf
        · exact hno.out f hf
        · obtain rfl := List.mem_singleton.1 hf; rw [hy1, hy2]; exact h
      have hgo := fun h => Lib.hid (hgo0 h)
      have hfi0 := fun h => HR.out.symm.trans (findV_some (z := false) hlt hno.out h)
      rw [hy1, hy2] at hfi0
      have hfi := fun h => Lib.hid (hfi0 h)
      have hlE := okf.d
      clear hgo0 hfi0
      cases y1 with
      | false =>
        have hnx := hgo rfl
        clear hgo hfi
        repeat' (first | ((fail_if_success (go_big_may)); (go_step)) | (((with_reducible refine Sl.k_call ?_; (refine s_qt hst (by exact qt_len evX asX inX) ?_))) <;> (try refine nX ?_)) | (with_reducible refine Sl.gate rfl ?_; (go_step)))
        refine v_begin hst (by kernel_rfl) ?_; clear hst; intro ops; (try refine nX ?_)
        (refine t_qt 0 rfl (by kernel_rfl) rfl rfl (by exact qt_move evX) ?_) <;> (try refine nX ?_)
        (refine t_qt 1 rfl (by kernel_rfl) rfl rfl (by exact qt_move evX) ?_) <;> (try refine nX ?_)
        ((refine t_ex0 2 rfl (by kernel_rfl) rfl rfl (qt_index evX hu rfl inX inX omX omX ) ?_; rintro  v2 hp2; simp only [Int.toNat_natCast] at hp2)) <;> (try refine nX ?_)
        ((refine t_ex0 3 rfl (by kernel_rfl) rfl rfl (qt_fieldp evX hp2 inX inX rfl ) ?_; rintro  v3 hp3)) <;> (try refine nX ?_)
        ((refine t_ex0 4 rfl (by kernel_rfl) rfl rfl (qt_ldp_int evX hp3 inX ) ?_; rintro  v4 ⟨rfl, hI4⟩)) <;> (try refine nX ?_)
        (refine t_qt 5 rfl (by kernel_rfl) rfl rfl (qt_eql_b rfl rfl hy1) ?_) <;> (try refine nX ?_)
        (refine t_qt 6 rfl (by kernel_rfl) rfl rfl (by exact qt_move evX) ?_) <;> (try refine nX ?_)
        (refine t_no 7 rfl (by kernel_rfl) rfl rfl ?_) <;> (try refine nX ?_)
        (refine t_no 8 rfl (by kernel_rfl) rfl rfl ?_) <;> (try refine nX ?_)
        ((refine t_no 9 rfl (by kernel_rfl) rfl rfl ?_)) <;> (try refine nX ?_)
        ((refine t_no 10 rfl (by kernel_rfl) rfl rfl ?_)) <;> (try refine nX ?_)
        ((refine t_no 11 rfl (by kernel_rfl) rfl rfl ?_)) <;> (try refine nX ?_)
        ((refine t_no 12 rfl (by kernel_rfl) rfl rfl ?_)) <;> (try refine nX ?_)
        ((refine t_no 13 rfl (by kernel_rfl) rfl rfl ?_)) <;> (try refine nX ?_)
        (refine t_qt 14 rfl (by kernel_rfl) rfl rfl (by exact qt_pick_f rfl evX) ?_) <;> (try refine nX ?_)
        refine v_done (by kernel_rfl) ?_; clear ops; intro w hst
        repeat' (first | ((fail_if_success (go_big_may)); (go_step)) | (with_reducible refine Sl.gate rfl ?_; (go_step)))
        go_roundw
        case rel => exact ⟨k + 1, by omega, by go_num, hnx, hst⟩
        case measure => simp [intOf]; omega
      | true =>
        cases y2 with
        | false =>
          have hnx := hgo rfl
          clear hgo hfi
          repeat' (first | ((fail_if_success (go_big_may)); (go_step)) | (((with_reducible refine Sl.k_call ?_; (refine s_qt hst (by exact qt_len evX asX inX) ?_))) <;> (try refine nX ?_)) | (with_reducible refine Sl.gate rfl ?_; (go_step)))
          refine v_begin hst (by kernel_rfl) ?_; clear hst; intro ops; (try refine nX ?_)
          (refine t_qt 0 rfl (by kernel_rfl) rfl rfl (by exact qt_move evX) ?_) <;> (try refine nX ?_)
          (refine t_qt 1 rfl (by kernel_rfl) rfl rfl (by exact qt_move evX) ?_) <;> (try refine nX ?_)
          ((refine t_ex0 2 rfl (by kernel_rfl) rfl rfl (qt_index evX hu rfl inX inX omX omX ) ?_; rintro  v2 hp2; simp only [Int.toNat_natCast] at hp2)) <;> (try refine nX ?_)
          ((refine t_ex0 3 rfl (by kernel_rfl) rfl rfl (qt_fieldp evX hp2 inX inX rfl ) ?_; rintro  v3 hp3)) <;> (try refine nX ?_)
          ((refine t_ex0 4 rfl (by kernel_rfl) rfl rfl (qt_ldp_int evX hp3 inX ) ?_; rintro  v4 ⟨rfl, hI4⟩)) <;> (try refine nX ?_)
          (refine t_qt 5 rfl (by kernel_rfl) rfl rfl (qt_eql_b rfl rfl hy1) ?_) <;> (try refine nX ?_)
          (refine t_qt 6 rfl (by kernel_rfl) rfl rfl (by exact qt_move evX) ?_) <;> (try refine nX ?_)
          (refine t_qt 7 rfl (by kernel_rfl) rfl rfl (by exact qt_move evX) ?_) <;> (try refine nX ?_)
          (refine t_qt 8 rfl (by kernel_rfl) rfl rfl (by exact qt_move evX) ?_) <;> (try refine nX ?_)
          (((refine t_ex0 9 rfl (by kernel_rfl) rfl rfl (qt_index evX hu rfl inX inX omX omX ) ?_; rintro  v9 hp9; simp only [Int.toNat_natCast] at hp9))) <;> (try refine nX ?_)
          (((refine t_ex0 10 rfl (by kernel_rfl) rfl rfl (qt_fieldp evX hp9 inX inX rfl ) ?_; rintro  v10 hp10))) <;> (try refine nX ?_)
          ((refine t_qt 11 rfl (by kernel_rfl) rfl rfl (qt_ldp_flat (y := F[k].2.2.2.1) evX hp10 inX inX rfl) ?_)) <;> (try refine nX ?_)
          ((refine t_qt 12 rfl (by kernel_rfl) rfl rfl (qt_ldp_flat (y := d) evX hpd inX inX rfl) ?_)) <;> (try refine nX ?_)
          ((refine t_qt 13 rfl (by kernel_rfl) rfl rfl (qt_eqlK_b rfl rfl (r_dgd hlE) (r_dgd hd) inX inX inferInstance hy2) ?_)) <;> (try refine nX ?_)
          (refine t_qt 14 rfl (by kernel_rfl) rfl rfl (by exact qt_pick_t rfl evX) ?_) <;> (try refine nX ?_)
          refine v_done (by kernel_rfl) ?_; clear ops; intro w hst
          repeat' (first | ((fail_if_success (go_big_may)); (go_step)) | (with_reducible refine Sl.gate rfl ?_; (go_step)))
          go_roundw
          case rel => exact ⟨k + 1, by omega, by go_num, hnx, hst⟩
          case measure => simp [intOf]; omega
        | true =>
          have hfi := hfi rfl
          clear hgo
          repeat' (first | ((fail_if_success (go_big_may)); (go_step)) | (((with_reducible refine Sl.k_call ?_; (refine s_qt hst (by exact qt_len evX asX inX) ?_))) <;> (try refine nX ?_)) | (with_reducible refine Sl.gate rfl ?_; (go_step)))
          refine v_begin hst (by kernel_rfl) ?_; clear hst; intro ops; (try refine nX ?_)
          (refine t_qt 0 rfl (by kernel_rfl) rfl rfl (by exact qt_move evX) ?_) <;> (try refine nX ?_)
          (refine t_qt 1 rfl (by kernel_rfl) rfl rfl (by exact qt_move evX) ?_) <;> (try refine nX ?_)
          ((refine t_ex0 2 rfl (by kernel_rfl) rfl rfl (qt_index evX hu rfl inX inX omX omX ) ?_; rintro  v2 hp2; simp only [Int.toNat_natCast] at hp2)) <;> (try refine nX ?_)
          ((refine t_ex0 3 rfl (by kernel_rfl) rfl rfl (qt_fieldp evX hp2 inX inX rfl ) ?_; rintro  v3 hp3)) <;> (try refine nX ?_)
          ((refine t_ex0 4 rfl (by kernel_rfl) rfl rfl (qt_ldp_int evX hp3 inX ) ?_; rintro  v4 ⟨rfl, hI4⟩)) <;> (try refine nX ?_)
          (refine t_qt 5 rfl (by kernel_rfl) rfl rfl (qt_eql_b rfl rfl hy1) ?_) <;> (try refine nX ?_)
          (refine t_qt 6 rfl (by kernel_rfl) rfl rfl (by exact qt_move evX) ?_) <;> (try refine nX ?_)
          (refine t_qt 7 rfl (by kernel_rfl) rfl rfl (by exact qt_move evX) ?_) <;> (try refine nX ?_)
          (refine t_qt 8 rfl (by kernel_rfl) rfl rfl (by exact qt_move evX) ?_) <;> (try refine nX ?_)
          (((refine t_ex0 9 rfl (by kernel_rfl) rfl rfl (qt_index evX hu rfl inX inX omX omX ) ?_; rintro  v9 hp9; simp only [Int.toNat_natCast] at hp9))) <;> (try refine nX ?_)
          (((refine t_ex0 10 rfl (by kernel_rfl) rfl rfl (qt_fieldp evX hp9 inX inX rfl ) ?_; rintro  v10 hp10))) <;> (try refine nX ?_)
          ((refine t_qt 11 rfl (by kernel_rfl) rfl rfl (qt_ldp_flat (y := F[k].2.2.2.1) evX hp10 inX inX rfl) ?_)) <;> (try refine nX ?_)
          ((refine t_qt 12 rfl (by kernel_rfl) rfl rfl (qt_ldp_flat (y := d) evX hpd inX inX rfl) ?_)) <;> (try refine nX ?_)
          ((refine t_qt 13 rfl (by kernel_rfl) rfl rfl (qt_eqlK_b rfl rfl (r_dgd hlE) (r_dgd hd) inX inX inferInstance hy2) ?_)) <;> (try refine nX ?_)
          (refine t_qt 14 rfl (by kernel_rfl) rfl rfl (by exact qt_pick_t rfl evX) ?_) <;> (try refine nX ?_)
          refine v_done (by kernel_rfl) ?_; clear ops; intro w hst
          repeat' (((fail_if_success (go_big_may)); (go_step)))
          go_ret
          exact ⟨_, rfl, S3, hle, by rw [hfi.out]; rfl, hst⟩
    · have hq0 := HR.out.symm.trans (findV_none (z := false) (F := F) (kind := 4) (p := fun f => decide (f.2.2.2.1 = d)) (by have := hno.out; rwa [List.take_of_length_le (by omega)] at this))
      have hq := Lib.hid hq0
      clear hq0
      repeat' (first | ((fail_if_success (go_big_may)); (go_step)) | (((with_reducible refine Sl.k_call ?_; (refine s_qt hst (by exact qt_len evX asX inX) ?_))) <;> (try refine nX ?_)) | (with_reducible refine Sl.gate rfl ?_; (go_step)))
      go_ret
      exact ⟨_, rfl, S3, hle, by rw [hq.out]; rfl, hst⟩
end Go.Proofs.YtjapdhaimbalkaaDoor

/- Package directory, the reference: Image, walked. -/
--@hgp
--@flat
--@dg
--@ex0
namespace Go.Proofs.YtjapdhaimbalkaaDoor
set_option linter.unusedSimpArgs false
set_option linter.unusedVariables false
open Go.RowKit Go.Sl Go.Srt

set_option maxRecDepth 8000 in
set_option maxHeartbeats 4000000 in
theorem rimg_c {S M} (w : World) (hst : St S M w) (u1 : Value) (a : List Fa) (h1 : RSl S u1 a) (oa : ∀ f ∈ a, FaOk f) (hn : a.length ≤ 80000) (d : Dg) (hd : d.l.length = 16) :
    Rets Tryd.prog 31 [.agg [u1].toArray, dgVm d] w fun v w' => ∃ S' cs, S.Le S' ∧ v = .tuple #[.agg cs.toArray, .bool (imgD a d).2] ∧ Rep.R S' cs (imgD a d).1 ∧ St S' M w' := by
  unfold Rets
  have k1 := h1.oneCell
  have hnl := nrm_len (fs := a)
  have hnk := nrm_ok oa
  have cN := fun {S : Snap} {M : List Chunk} (w : World) (hst : St S M w) (vl : Value) (hl : RSl S vl a) => rnorm_c w hst vl a hl oa (by omega)
  obtain ⟨R, hR0⟩ : ∃ R, imgD a d = R := ⟨_, rfl⟩
  rw [hR0]
  have HR0 := hR0
  clear hR0
  unfold imgD at HR0
  obtain ⟨F, hF⟩ : ∃ F, nrm a = F := ⟨_, rfl⟩
  rw [hF] at hnl hnk cN HR0
  have HR := Lib.hid HR0
  clear hF HR0
  go_enter Tryd.func31, Tryd.ntmps31
  repeat' ((fail_if_success (with_reducible show Code.wp _ (Code.region 1 _ _) _ _ _)); first | ((fail_if_success (go_big_may)); (go_step)) | ((((first | (refine s_box hst evX rfl ?_; clear hst; intro bx w hst) | (refine s_alloc hst inX ?_; clear hst; intro bk w hst)))) <;> (try refine nX ?_) <;> (try replace hst := nH hst)))
  rename Nat => b4
  have hst0 := hst.perm ((List.Perm.swap _ _ _).trans (List.Perm.cons _ (List.Perm.swap _ _ _)))
  clear hst
  obtain ⟨S1, hS1, hst1, hpd⟩ := dg_box hst0 hd
  clear hst0
  obtain ⟨S2, hS2, hst, hpa⟩ := pt_box (α := Dir) (x := (a, ())) hst1 (dir_mk (h1.mono hS1)) rfl
  clear hst1
  replace hpd := hpd.mono hS2
  repeat' (first | ((first | (with_reducible (refine Sl.k_field ?_; refine s_ex hst (qt_fieldp evX hpa inX inX rfl) ?_; rintro vf hpf)) | (with_reducible (refine Sl.k_load ?_; refine s_ex hst (qt_ldp_list evX hpf inX) ?_; rintro vl ⟨hvl, hvl1⟩; replace hvl : RSl S2 vl a := hvl))) <;> (try refine nX ?_)) | (((with_reducible refine Sl.k_call ?_; ((refine s_call (cN _ hst vl hvl) inX rfl ?_; clear hst; rintro v w ⟨S3, hS3, hu, hst⟩)))) <;> (try refine nX ?_) <;> (try replace hst := nH hst)) | ((fail_if_success (go_big_may)); (go_step)))
  replace hpd := hpd.mono hS3
  have hle := (hS1.trans hS2).trans hS3
  have ku := hu.oneCell
  clear hS1 hS2 hS3 hvl hvl1 hpf hpa cN
  go_loopw [7] (fun v wr => ∃ k : Nat, k ≤ F.length ∧ v = .int .i64 k ∧ Hid (∀ f ∈ F.take k, (f.1 == 2 && decide (mdP f.2.2.1 = d)) = false) ∧ St S3 (.box b4 [.int .i64 0, .int .i64 0, .int .i64 0, .slice none 0 0] 30 :: M) wr) (fun v _ => F.length - (intOf v).toNat)
  case atStart => exact ⟨0, Nat.zero_le _, rfl, Lib.hid (by simp), hst⟩
  case round =>
    clear hst
    obtain ⟨k, hk, rfl, hno, hst⟩ := hrel
    by_cases hlt : k < F.length
    · have okf := hnk _ (List.getElem_mem hlt)
      obtain ⟨y1, hy1⟩ : ∃ y, (F[k].1 == 2) = y := ⟨_, rfl⟩
      obtain ⟨y2, hy2⟩ : ∃ y, decide (mdP F[k].2.2.1 = d) = y := ⟨_, rfl⟩
      have hgo0 : (y1 && y2) = false → ∀ f ∈ F.take (k + 1), (f.1 == 2 && decide (mdP f.2.2.1 = d)) = false := fun h f hf => by
        rw [List.take_succ_eq_append_getElem hlt] at hf
        rcases List.mem_append.1 hf with hf | hf
        · exact hno.out f hf
        · obtain rfl := List.mem_singleton.1 hf; rw [hy1, hy2]; exact h
      have hgo := fun h => Lib.hid (hgo0 h)
      have hfi0 := fun h => HR.out.symm.trans (findV_some (z := zeroMF) hlt hno.out h)
      rw [hy1, hy2] at hfi0
      have hfi := fun h => Lib.hid (hfi0 h)
      have hlE : (mdP F[k].2.2.1).l.length = 16 := mdP_len _
      have cMd0 := fun {S : Snap} {M : List Chunk} (w : World) (hst : St S M w) (cs : List Value) (h : Rep.R S cs F[k].2.2.1) => rmdig_c w hst cs F[k].2.2.1 h (by have := okf.ml; omega)
      obtain ⟨E, hE⟩ : ∃ E, mdP F[k].2.2.1 = E := ⟨_, rfl⟩
      have cMd : ∀ {S : Snap} {M : List Chunk} (w : World) (hst : St S M w) (cs : List Value) (h : Rep.R S cs F[k].2.2.1), Rets Tryd.prog 67 [.agg cs.toArray] w fun v w' => v = dgVm E ∧ St S M w' := by rw [← hE]; exact cMd0
      rw [hE] at hlE hy2
      clear hE cMd0
      clear hgo0 hfi0
      cases y1 with
      | false =>
        have hnx := hgo rfl
        clear hgo hfi
        repeat' (first | ((fail_if_success (go_big_may)); (go_step)) | (((with_reducible refine Sl.k_call ?_; (refine s_qt hst (by exact qt_len evX asX inX) ?_))) <;> (try refine nX ?_)) | (with_reducible refine Sl.gate rfl ?_; (go_step)))
        refine v_begin hst (by kernel_rfl) ?_; clear hst; intro ops; (try refine nX ?_)
        (refine t_qt 0 rfl (by kernel_rfl) rfl rfl (by exact qt_move evX) ?_) <;> (try refine nX ?_)
        (refine t_qt 1 rfl (by kernel_rfl) rfl rfl (by exact qt_move evX) ?_) <;> (try refine nX ?_)
        ((refine t_ex0 2 rfl (by kernel_rfl) rfl rfl (qt_index evX hu rfl inX inX omX omX ) ?_; rintro  v2 hp2; simp only [Int.toNat_natCast] at hp2)) <;> (try refine nX ?_)
        ((refine t_ex0 3 rfl (by kernel_rfl) rfl rfl (qt_fieldp evX hp2 inX inX rfl ) ?_; rintro  v3 hp3)) <;> (try refine nX ?_)
        ((refine t_ex0 4 rfl (by kernel_rfl) rfl rfl (qt_ldp_int evX hp3 inX ) ?_; rintro  v4 ⟨rfl, hI4⟩)) <;> (try refine nX ?_)
        (refine t_qt 5 rfl (by kernel_rfl) rfl rfl (qt_eql_b rfl rfl hy1) ?_) <;> (try refine nX ?_)
        (refine t_qt 6 rfl (by kernel_rfl) rfl rfl (by exact qt_move evX) ?_) <;> (try refine nX ?_)
        (refine t_no 7 rfl (by kernel_rfl) rfl rfl ?_) <;> (try refine nX ?_)
        (refine t_no 8 rfl (by kernel_rfl) rfl rfl ?_) <;> (try refine nX ?_)
        ((refine t_no 9 rfl (by kernel_rfl) rfl rfl ?_)) <;> (try refine nX ?_)
        ((refine t_no 10 rfl (by kernel_rfl) rfl rfl ?_)) <;> (try refine nX ?_)
        ((refine t_no 11 rfl (by kernel_rfl) rfl rfl ?_)) <;> (try refine nX ?_)
        ((refine t_no 12 rfl (by kernel_rfl) rfl rfl ?_)) <;> (try refine nX ?_)
        ((refine t_no 13 rfl (by kernel_rfl) rfl rfl ?_)) <;> (try refine nX ?_)
        ((refine t_no 14 rfl (by kernel_rfl) rfl rfl ?_)) <;> (try refine nX ?_)
        (refine t_qt 15 rfl (by kernel_rfl) rfl rfl (by exact qt_pick_f rfl evX) ?_) <;> (try refine nX ?_)
        refine v_done (by kernel_rfl) ?_; clear ops; intro w hst
        repeat' (first | ((fail_if_success (go_big_may)); (go_step)) | (with_reducible refine Sl.gate rfl ?_; (go_step)))
        go_roundw
        case rel => exact ⟨k + 1, by omega, by go_num, hnx, hst⟩
        case measure => simp [intOf]; omega
      | true =>
        cases y2 with
        | false =>
          have hnx := hgo rfl
          clear hgo hfi
          repeat' (first | ((fail_if_success (go_big_may)); (go_step)) | (((with_reducible refine Sl.k_call ?_; (refine s_qt hst (by exact qt_len evX asX inX) ?_))) <;> (try refine nX ?_)) | (with_reducible refine Sl.gate rfl ?_; (go_step)))
          refine v_begin hst (by kernel_rfl) ?_; clear hst; intro ops; (try refine nX ?_)
          (refine t_qt 0 rfl (by kernel_rfl) rfl rfl (by exact qt_move evX) ?_) <;> (try refine nX ?_)
          (refine t_qt 1 rfl (by kernel_rfl) rfl rfl (by exact qt_move evX) ?_) <;> (try refine nX ?_)
          ((refine t_ex0 2 rfl (by kernel_rfl) rfl rfl (qt_index evX hu rfl inX inX omX omX ) ?_; rintro  v2 hp2; simp only [Int.toNat_natCast] at hp2)) <;> (try refine nX ?_)
          ((refine t_ex0 3 rfl (by kernel_rfl) rfl rfl (qt_fieldp evX hp2 inX inX rfl ) ?_; rintro  v3 hp3)) <;> (try refine nX ?_)
          ((refine t_ex0 4 rfl (by kernel_rfl) rfl rfl (qt_ldp_int evX hp3 inX ) ?_; rintro  v4 ⟨rfl, hI4⟩)) <;> (try refine nX ?_)
          (refine t_qt 5 rfl (by kernel_rfl) rfl rfl (qt_eql_b rfl rfl hy1) ?_) <;> (try refine nX ?_)
          (refine t_qt 6 rfl (by kernel_rfl) rfl rfl (by exact qt_move evX) ?_) <;> (try refine nX ?_)
          (refine t_qt 7 rfl (by kernel_rfl) rfl rfl (by exact qt_move evX) ?_) <;> (try refine nX ?_)
          (refine t_qt 8 rfl (by kernel_rfl) rfl rfl (by exact qt_move evX) ?_) <;> (try refine nX ?_)
          (((refine t_ex0 9 rfl (by kernel_rfl) rfl rfl (qt_index evX hu rfl inX inX omX omX ) ?_; rintro  v9 hp9; simp only [Int.toNat_natCast] at hp9))) <;> (try refine nX ?_)
          (((refine t_ex0 10 rfl (by kernel_rfl) rfl rfl (qt_fieldp evX hp9 inX inX rfl ) ?_; rintro  v10 hp10))) <;> (try refine nX ?_)
          (((refine t_ex0 11 rfl (by kernel_rfl) rfl rfl (qt_ldp (y := F[k].2.2.1) evX hp10 inX ) ?_; rintro  v11 ⟨c11, rfl, hc11⟩))) <;> (try refine nX ?_)
          ((refine t_call 12 rfl (by kernel_rfl) rfl (fun S' M' w hS hM hst => cMd w hst c11 (Rep.mono hS hc11)) inX rfl ?_)) <;> (try refine nX ?_)
          ((refine t_qt 13 rfl (by kernel_rfl) rfl rfl (qt_ldp_flat (y := d) evX hpd inX inX rfl) ?_)) <;> (try refine nX ?_)
          ((refine t_qt 14 rfl (by kernel_rfl) rfl rfl (qt_eqlK_b rfl rfl (r_dgd hlE) (r_dgd hd) inX inX inferInstance hy2) ?_)) <;> (try refine nX ?_)
          (refine t_qt 15 rfl (by kernel_rfl) rfl rfl (by exact qt_pick_t rfl evX) ?_) <;> (try refine nX ?_)
          refine v_done (by kernel_rfl) ?_; clear ops; intro w hst
          repeat' (first | ((fail_if_success (go_big_may)); (go_step)) | (with_reducible refine Sl.gate rfl ?_; (go_step)))
          go_roundw
          case rel => exact ⟨k + 1, by omega, by go_num, hnx, hst⟩
          case measure => simp [intOf]; omega
        | true =>
          have hfi := hfi rfl
          clear hgo
          repeat' (first | ((fail_if_success (go_big_may)); (go_step)) | (((with_reducible refine Sl.k_call ?_; (refine s_qt hst (by exact qt_len evX asX inX) ?_))) <;> (try refine nX ?_)) | (with_reducible refine Sl.gate rfl ?_; (go_step)))
          refine v_begin hst (by kernel_rfl) ?_; clear hst; intro ops; (try refine nX ?_)
          (refine t_qt 0 rfl (by kernel_rfl) rfl rfl (by exact qt_move evX) ?_) <;> (try refine nX ?_)
          (refine t_qt 1 rfl (by kernel_rfl) rfl rfl (by exact qt_move evX) ?_) <;> (try refine nX ?_)
          ((refine t_ex0 2 rfl (by kernel_rfl) rfl rfl (qt_index evX hu rfl inX inX omX omX ) ?_; rintro  v2 hp2; simp only [Int.toNat_natCast] at hp2)) <;> (try refine nX ?_)
          ((refine t_ex0 3 rfl (by kernel_rfl) rfl rfl (qt_fieldp evX hp2 inX inX rfl ) ?_; rintro  v3 hp3)) <;> (try refine nX ?_)
          ((refine t_ex0 4 rfl (by kernel_rfl) rfl rfl (qt_ldp_int evX hp3 inX ) ?_; rintro  v4 ⟨rfl, hI4⟩)) <;> (try refine nX ?_)
          (refine t_qt 5 rfl (by kernel_rfl) rfl rfl (qt_eql_b rfl rfl hy1) ?_) <;> (try refine nX ?_)
          (refine t_qt 6 rfl (by kernel_rfl) rfl rfl (by exact qt_move evX) ?_) <;> (try refine nX ?_)
          (refine t_qt 7 rfl (by kernel_rfl) rfl rfl (by exact qt_move evX) ?_) <;> (try refine nX ?_)
          (refine t_qt 8 rfl (by kernel_rfl) rfl rfl (by exact qt_move evX) ?_) <;> (try refine nX ?_)
          (((refine t_ex0 9 rfl (by kernel_rfl) rfl rfl (qt_index evX hu rfl inX inX omX omX ) ?_; rintro  v9 hp9; simp only [Int.toNat_natCast] at hp9))) <;> (try refine nX ?_)
          (((refine t_ex0 10 rfl (by kernel_rfl) rfl rfl (qt_fieldp evX hp9 inX inX rfl ) ?_; rintro  v10 hp10))) <;> (try refine nX ?_)
          (((refine t_ex0 11 rfl (by kernel_rfl) rfl rfl (qt_ldp (y := F[k].2.2.1) evX hp10 inX ) ?_; rintro  v11 ⟨c11, rfl, hc11⟩))) <;> (try refine nX ?_)
          ((refine t_call 12 rfl (by kernel_rfl) rfl (fun S' M' w hS hM hst => cMd w hst c11 (Rep.mono hS hc11)) inX rfl ?_)) <;> (try refine nX ?_)
          ((refine t_qt 13 rfl (by kernel_rfl) rfl rfl (qt_ldp_flat (y := d) evX hpd inX inX rfl) ?_)) <;> (try refine nX ?_)
          ((refine t_qt 14 rfl (by kernel_rfl) rfl rfl (qt_eqlK_b rfl rfl (r_dgd hlE) (r_dgd hd) inX inX inferInstance hy2) ?_)) <;> (try refine nX ?_)
          (refine t_qt 15 rfl (by kernel_rfl) rfl rfl (by exact qt_pick_t rfl evX) ?_) <;> (try refine nX ?_)
          refine v_done (by kernel_rfl) ?_; clear ops; intro w hst
          repeat' (first | ((first | (with_reducible (refine Sl.k_index ?_; refine s_ex hst (qt_index evX hu rfl inX inX omX omX) ?_; rintro v21 hp21; simp only [Int.toNat_natCast] at hp21)) | (with_reducible (refine Sl.k_field ?_; refine s_ex hst (qt_fieldp evX hp21 inX inX rfl) ?_; rintro v22 hp22)) | (with_reducible (refine Sl.k_load ?_; refine s_ex hst (qt_ldp (y := F[k].2.2.1) evX hp22 inX) ?_; rintro v23 ⟨c23, rfl, hc23⟩))) <;> (try refine nX ?_)) | ((fail_if_success (go_big_may)); (go_step)) | (((((with_reducible refine Sl.k_store ?_; (refine s_stR hst rfl BoxIn.h evX asX inX rfl rfl ?_); clear hst; intro w hst)))) <;> (try refine nX ?_) <;> (try replace hst := nH hst)))
          obtain ⟨m0, m1, m2, m3, rfl⟩ := list4 (Rep.len hc23)
          exact ret_two rfl (rv_cell hst rfl _ BoxIn.h inX rfl rfl) (rv_tmp rfl) ⟨_, rfl, S3, _, hle, by rw [hfi.out]; rfl, by rw [hfi.out]; exact hc23, hst.drop⟩
    · have hq0 := HR.out.symm.trans (findV_none (z := zeroMF) (F := F) (kind := 2) (p := fun f => decide (mdP f.2.2.1 = d)) (by have := hno.out; rwa [List.take_of_length_le (by omega)] at this))
      have hq := Lib.hid hq0
      clear hq0
      repeat' (first | ((fail_if_success (go_big_may)); (go_step)) | (((with_reducible refine Sl.k_call ?_; (refine s_qt hst (by exact qt_len evX asX inX) ?_))) <;> (try refine nX ?_)) | (with_reducible refine Sl.gate rfl ?_; (go_step)) | (((((with_reducible refine Sl.k_store ?_; (refine s_store hst rfl _ BoxIn.h inX evX rfl lenOk oneOk (by simp) ?_); clear hst; intro w hst)))) <;> (try refine nX ?_) <;> (try replace hst := nH hst)))
      exact ret_two rfl (rv_cell hst rfl _ BoxIn.h inX rfl rfl) (rv_tmp rfl) ⟨_, rfl, S3, [.int .i64 0, .int .i64 0, .int .i64 0, .slice none 0 0], hle, by rw [hq.out]; rfl, by rw [hq.out]; exact zero_mf, hst.drop⟩
end Go.Proofs.YtjapdhaimbalkaaDoor

/- The statement DirectoryLookups, walked. -/
--@hgp
--@flat
--@dg
--@ex0
namespace Go.Proofs.YtjapdhaimbalkaaDoor
set_option linter.unusedSimpArgs false
set_option linter.unusedVariables false
open Go.RowKit Go.Sl Go.Srt

theorem wimg_c {S M} (w : World) (hst : St S M w) (hG : Glob S) (c1 : List Value) (a : List Fa) (h1 : Rep.R S c1 ((a, ()) : Dir)) (oa : ∀ f ∈ a, FaOk f) (hn : a.length ≤ 80000) (d : Dg) (hd : d.l.length = 16) :
    Rets Tryd.prog 30 [.agg c1.toArray, dgVm d] w fun v w' => ∃ S' cs, S.Le S' ∧ v = .tuple #[.agg cs.toArray, .bool (imgD a d).2] ∧ Rep.R S' cs (imgD a d).1 ∧ St S' M w' := by
  obtain ⟨u1, rfl, k1⟩ := dir_of h1
  exact image_c w hst hG u1 a k1 oa (by omega) d hd
theorem wrimg_c {S M} (w : World) (hst : St S M w) (c1 : List Value) (a : List Fa) (h1 : Rep.R S c1 ((a, ()) : Dir)) (oa : ∀ f ∈ a, FaOk f) (hn : a.length ≤ 80000) (d : Dg) (hd : d.l.length = 16) :
    Rets Tryd.prog 31 [.agg c1.toArray, dgVm d] w fun v w' => ∃ S' cs, S.Le S' ∧ v = .tuple #[.agg cs.toArray, .bool (imgD a d).2] ∧ Rep.R S' cs (imgD a d).1 ∧ St S' M w' := by
  obtain ⟨u1, rfl, k1⟩ := dir_of h1
  exact rimg_c w hst u1 a k1 oa hn d hd
theorem wrsrc_c {S M} (w : World) (hst : St S M w) (c1 : List Value) (a : List Fa) (h1 : Rep.R S c1 ((a, ()) : Dir)) (oa : ∀ f ∈ a, FaOk f) (hn : a.length ≤ 80000) (d : Dg) (hd : d.l.length = 16) :
    Rets Tryd.prog 29 [.agg c1.toArray, dgVm d] w fun v w' => ∃ S', S.Le S' ∧ v = .tuple #[.string ⟨(srcD a d).1.b.toArray⟩, .bool (srcD a d).2] ∧ St S' M w' := by
  obtain ⟨u1, rfl, k1⟩ := dir_of h1
  exact rsrc_c w hst u1 a k1 oa hn d hd
theorem wrrev_c {S M} (w : World) (hst : St S M w) (c1 : List Value) (a : List Fa) (h1 : Rep.R S c1 ((a, ()) : Dir)) (oa : ∀ f ∈ a, FaOk f) (hn : a.length ≤ 80000) (d : Dg) (hd : d.l.length = 16) :
    Rets Tryd.prog 34 [.agg c1.toArray, dgVm d] w fun v w' => ∃ S', S.Le S' ∧ v = .bool (lstD a 3 d).2 ∧ St S' M w' := by
  obtain ⟨u1, rfl, k1⟩ := dir_of h1
  exact rrev_c w hst u1 a k1 oa hn d hd
theorem wrbad_c {S M} (w : World) (hst : St S M w) (c1 : List Value) (a : List Fa) (h1 : Rep.R S c1 ((a, ()) : Dir)) (oa : ∀ f ∈ a, FaOk f) (hn : a.length ≤ 80000) (d : Dg) (hd : d.l.length = 16) :
    Rets Tryd.prog 36 [.agg c1.toArray, dgVm d] w fun v w' => ∃ S', S.Le S' ∧ v = .bool (lstD a 4 d).2 ∧ St S' M w' := by
  obtain ⟨u1, rfl, k1⟩ := dir_of h1
  exact rbad_c w hst u1 a k1 oa hn d hd
theorem imgD_len {a : List Fa} (oa : ∀ f ∈ a, FaOk f) (d : Dg) : (imgD a d).1.2.2.2.1.length ≤ 10 := by
  unfold imgD findV
  split
  · rename_i f hf
    exact (nrm_ok oa f (List.mem_of_find?_eq_some hf)).s
  · exact Nat.zero_le _
theorem qt_quo8 {P : Program} {l : List Value} {S : Snap} {M : List Chunk} {T U : TypeId} {x y : Operand} {a b : Int} (hx : evF l x = .int .u8 a) (hy : evF l y = .int .u8 b) (hw : 0 ≤ a ∧ a ≤ 255 ∧ 0 < b) : Qt P l (.binOp .quo T x y U) S M (.int .u8 (a / b)) := fun dst ty pos af w _ => by
  have h0 : b ≠ 0 := by omega
  have h1 : a.tdiv b = a / b := Int.tdiv_eq_ediv_of_nonneg hw.1
  have h2 : 0 ≤ a / b := Int.ediv_nonneg hw.1 (by omega)
  have h3 : a / b ≤ a := Int.ediv_le_self _ hw.1
  have h4 : IntKind.u8.wrap (a / b) = a / b := wrap_u8 (by omega)
  simp [execOp, hx, hy, binOp_quo, eqGuard_at_int, Op.intDiv, h0, h1, h4]

set_option maxRecDepth 60000 in
set_option maxHeartbeats 4000000 in
theorem dlook_c {S M} (w : World) (hst : St S M w) (hG : Glob S) (c1 : List Value) (a : List Fa) (h1 : Rep.R S c1 ((a, ()) : Dir)) (d : Dg) (hd : d.l.length = 16) (n : Nat) (hn : n ≤ 255) :
    Rets Tryd.prog 8 [.agg c1.toArray, dgVm d, .int .u8 (n : Int)] w fun v w' => v = .bool true ∧ St S M w' := by
  unfold Rets
  haveI : LenIs d.l 16 := ⟨hd⟩
  obtain ⟨z1, hz1⟩ : ∃ z, fewD a = z := ⟨_, rfl⟩
  have cW1 := fun {S : Snap} {M : List Chunk} (w : World) (hst : St S M w) (cs : List Value) (h : Rep.R S cs ((a, ()) : Dir)) => (wfew_c w hst cs a h).eq hz1
  cases z1 with
  | false =>
    clear hz1
    go_enter Tryd.func8, Tryd.ntmps8
    repeat' ((fail_if_success (with_reducible show Code.wp _ (Code.region 1 _ _) _ _ _)); first | ((fail_if_success (go_big_may)); (go_step)) | (((((refine s_box hst evX rfl ?_; clear hst; intro bx w hst)))) <;> (try refine nX ?_) <;> (try replace hst := nH hst)))
    rename Nat => b4
    have hst0 := hst.perm (List.Perm.swap _ _ _)
    clear hst
    obtain ⟨S3, hS3, hst, hpa⟩ := pt_box (α := Dir) (x := (a, ())) hst0 h1 (Rep.len h1)
    clear hst0
    have hG3 := hG.mono hS3
    clear h1
    repeat' ((fail_if_success (with_reducible show Code.wp _ (Code.region 2 _ _) _ _ _)); first | (((with_reducible refine Sl.k_call ?_; ((refine s_call (dsanity_c _ hst hG3) inX rfl ?_; clear hst; rintro v w ⟨rfl, hst⟩)))) <;> (try refine nX ?_) <;> (try replace hst := nH hst)) | ((fail_if_success (go_big_may)); (go_step)))
    repeat' (first | (((with_reducible (refine Sl.k_load ?_; refine s_ex hst (qt_ldp (α := Dir) (y := (a, ())) evX hpa inX) ?_; rintro v55 ⟨ca, rfl, hca⟩))) <;> (try refine nX ?_)) | (((with_reducible refine Sl.k_call ?_; ((refine s_call (cW1 _ hst ca hca) inX rfl ?_; clear hst; rintro v w ⟨rfl, hst⟩)))) <;> (try refine nX ?_) <;> (try replace hst := nH hst)) | ((fail_if_success (go_big_may)); (go_step)) | (with_reducible refine Sl.gate rfl ?_; (go_step)))
    go_ret
    exact ⟨_, rfl, rfl, St.weaken hS3 hst.drop⟩
  | true =>
    obtain ⟨oa, la⟩ := dir_in h1 hz1
    clear hz1
    go_enter Tryd.func8, Tryd.ntmps8
    repeat' ((fail_if_success (with_reducible show Code.wp _ (Code.region 1 _ _) _ _ _)); first | ((fail_if_success (go_big_may)); (go_step)) | (((((refine s_box hst evX rfl ?_; clear hst; intro bx w hst)))) <;> (try refine nX ?_) <;> (try replace hst := nH hst)))
    rename Nat => b4
    have hst0 := hst.perm (List.Perm.swap _ _ _)
    clear hst
    obtain ⟨S3, hS3, hst, hpa⟩ := pt_box (α := Dir) (x := (a, ())) hst0 h1 (Rep.len h1)
    clear hst0
    have hG3 := hG.mono hS3
    clear h1
    repeat' ((fail_if_success (with_reducible show Code.wp _ (Code.region 2 _ _) _ _ _)); first | (((with_reducible refine Sl.k_call ?_; ((refine s_call (dsanity_c _ hst hG3) inX rfl ?_; clear hst; rintro v w ⟨rfl, hst⟩)))) <;> (try refine nX ?_) <;> (try replace hst := nH hst)) | ((fail_if_success (go_big_may)); (go_step)))
    repeat' ((fail_if_success (with_reducible show Code.wp _ (Code.region 4 _ _) _ _ _)); first | (((with_reducible (refine Sl.k_load ?_; refine s_ex hst (qt_ldp (α := Dir) (y := (a, ())) evX hpa inX) ?_; rintro v55 ⟨ca, rfl, hca⟩))) <;> (try refine nX ?_)) | (((with_reducible refine Sl.k_call ?_; ((refine s_call (cW1 _ hst ca hca) inX rfl ?_; clear hst; rintro v w ⟨rfl, hst⟩)))) <;> (try refine nX ?_) <;> (try replace hst := nH hst)) | ((fail_if_success (go_big_may)); (go_step)) | (with_reducible refine Sl.gate rfl ?_; (go_step)))
    clear hca
    obtain ⟨r, hr⟩ : ∃ r, (n : Int).tmod 2 = r := ⟨_, rfl⟩
    obtain ⟨zb, hrb⟩ : ∃ z, (r == 1) = z := ⟨_, rfl⟩
    obtain ⟨B, hB⟩ : ∃ B, (decide (0 < a.length) && zb) = B := ⟨_, rfl⟩
    clear cW1
    go_cut [7, 30] from 17 (fun p q wr => p = .bool true ∧ q = .bool B ∧ St S3 (.box b4 (u8s d.l) 32 :: M) wr)
    case first =>
      by_cases h0 : 0 < a.length
      rotate_left
      · obtain rfl : B = false := by rw [← hB, decide_eq_false h0]; rfl
        repeat' (first | go_skip | ((first | (with_reducible (refine Sl.k_field ?_; refine s_ex hst (qt_fieldp evX hpa inX inX rfl) ?_; rintro vf hpf)) | (with_reducible (refine Sl.k_load ?_; refine s_ex hst (qt_ldp_list evX hpf inX) ?_; rintro vl ⟨hvl, hvl1⟩; replace hvl : RSl S3 vl a := hvl))) <;> (try refine nX ?_)) | ((fail_if_success (go_big_may)); (go_step)) | (((with_reducible refine Sl.k_call ?_; (refine s_qt hst (by exact qt_len evX asX inX) ?_))) <;> (try refine nX ?_)) | (with_reducible refine Sl.gate rfl ?_; (go_step)))
        go_meet
        case rel => exact ⟨rfl, rfl, hst⟩
      · rw [decide_eq_true h0, Bool.true_and] at hB
        subst hB
        cases zb with
        | false =>
          repeat' (first | ((first | (with_reducible (refine Sl.k_field ?_; refine s_ex hst (qt_fieldp evX hpa inX inX rfl) ?_; rintro vf hpf)) | (with_reducible (refine Sl.k_load ?_; refine s_ex hst (qt_ldp_list evX hpf inX) ?_; rintro vl ⟨hvl, hvl1⟩; replace hvl : RSl S3 vl a := hvl)) | (with_reducible refine Sl.k_bin ?_; (first | refine s_qt hst (qt_rem_b rfl rfl (by decide) hr) ?_ | refine s_qt hst (qt_eql_b rfl rfl hrb) ?_)) | (with_reducible refine Sl.k_guard ?_; ((refine Sl.guard_yes rfl ?_)))) <;> (try refine nX ?_)) | ((fail_if_success (go_big_may)); (go_step)) | (((with_reducible refine Sl.k_call ?_; (refine s_qt hst (by exact qt_len evX asX inX) ?_))) <;> (try refine nX ?_)) | (with_reducible refine Sl.gate rfl ?_; (go_step)))
          go_meet
          case rel => exact ⟨rfl, rfl, hst⟩
        | true =>
          repeat' (first | ((first | (with_reducible (refine Sl.k_field ?_; refine s_ex hst (qt_fieldp evX hpa inX inX rfl) ?_; rintro vf hpf)) | (with_reducible (refine Sl.k_load ?_; refine s_ex hst (qt_ldp_list evX hpf inX) ?_; rintro vl ⟨hvl, hvl1⟩; replace hvl : RSl S3 vl a := hvl)) | (with_reducible refine Sl.k_bin ?_; (first | refine s_qt hst (qt_rem_b rfl rfl (by decide) hr) ?_ | refine s_qt hst (qt_eql_b rfl rfl hrb) ?_)) | (with_reducible refine Sl.k_guard ?_; ((refine Sl.guard_yes rfl ?_)))) <;> (try refine nX ?_)) | ((fail_if_success (go_big_may)); (go_step)) | (((with_reducible refine Sl.k_call ?_; (refine s_qt hst (by exact qt_len evX asX inX) ?_))) <;> (try refine nX ?_)) | (with_reducible refine Sl.gate rfl ?_; (go_step)))
          go_meet
          case rel => exact ⟨rfl, rfl, hst⟩
    case rest =>
    clear hst
    obtain ⟨rfl, rfl, hst⟩ := hcut
    go_step
    go_cut [7] from 17 (fun p wr => p = .bool true ∧ ∃ (S' : Snap) (D : Dg), S3.Le S' ∧ D.l.length = 16 ∧ St S' (.box b4 (u8s D.l) 32 :: M) wr)
    case first =>
      cases B with
      | false =>
        repeat' (((fail_if_success (go_big_may)); (go_step)))
        go_meet
        case rel => exact ⟨rfl, S3, d, Snap.Le.refl _, hd, hst⟩
      | true =>
          have h0 : 0 < a.length := by
            rw [Bool.and_eq_true, decide_eq_true_eq] at hB
            exact hB.1
          repeat' ((fail_if_success (with_reducible show Code.wp _ (Code.region 5 _ _) _ _ _)); ((fail_if_success (go_big_may)); (go_step)))
          obtain ⟨k, hk⟩ : ∃ k : Nat, n / 2 % a.length = k := ⟨_, rfl⟩
          have hkl : k < a.length := by rw [← hk]; exact Nat.mod_lt _ h0
          have tk : ((n : Int) / 2).tmod (a.length : Int) = (k : Int) := by rw [Int.tmod_eq_emod_of_nonneg (by omega), ← hk]; push_cast; rfl
          have hn0 : (a.length : Int) ≠ 0 := by omega
          clear hk hr hrb hB
          have okg := oa _ (List.getElem_mem hkl)
          refine ps_begin hst (by kernel_rfl) ?_; clear hst; intro w hst; have hSS := le_of hst; (try refine nX ?_)
          ((refine ps_takex 0 (by repeat (first | with_reducible refine panicQ_then ?_ | exact panicQ_body)) rfl (by kernel_rfl) (by kernel_rfl) (by kernel_rfl) rfl (St.cls hSS hst) (qt_fieldp evX hpa inX inX rfl ) ?_; rintro  v0 hp0)) <;> (try refine nX ?_)
          ((refine ps_takex 1 (by repeat (first | with_reducible refine panicQ_then ?_ | exact panicQ_body)) rfl (by kernel_rfl) (by kernel_rfl) (by kernel_rfl) rfl (St.cls hSS hst) (qt_ldp_list evX hp0 inX ) ?_; rintro  v1 ⟨hv1, hv11⟩; replace hv1 : RSl S3 v1 a := hv1)) <;> (try refine nX ?_)
          (refine ps_take 2 (by repeat (first | with_reducible refine panicQ_then ?_ | exact panicQ_body)) rfl (by kernel_rfl) (by kernel_rfl) (by kernel_rfl) rfl (St.cls hSS hst) (by exact qt_move evX) ?_) <;> (try refine nX ?_)
          (refine ps_take 3 (by repeat (first | with_reducible refine panicQ_then ?_ | exact panicQ_body)) rfl (by kernel_rfl) (by kernel_rfl) (by kernel_rfl) rfl (St.cls hSS hst) (qt_quo8 rfl rfl ⟨by omega, by omega, by omega⟩) ?_) <;> (try refine nX ?_)
          (refine ps_take 4 (by repeat (first | with_reducible refine panicQ_then ?_ | exact panicQ_body)) rfl (by kernel_rfl) (by kernel_rfl) (by kernel_rfl) rfl (St.cls hSS hst) (qt_conv_b (m := (n : Int) / 2) rfl inX inX (wrap_sm ⟨by omega, by omega⟩)) ?_) <;> (try refine nX ?_)
          ((refine ps_takex 5 (by repeat (first | with_reducible refine panicQ_then ?_ | exact panicQ_body)) rfl (by kernel_rfl) (by kernel_rfl) (by kernel_rfl) rfl (St.cls hSS hst) (qt_fieldp evX hpa inX inX rfl ) ?_; rintro  v5 hp5)) <;> (try refine nX ?_)
          ((refine ps_takex 6 (by repeat (first | with_reducible refine panicQ_then ?_ | exact panicQ_body)) rfl (by kernel_rfl) (by kernel_rfl) (by kernel_rfl) rfl (St.cls hSS hst) (qt_ldp_list evX hp5 inX ) ?_; rintro  v6 ⟨hv6, hv61⟩; replace hv6 : RSl S3 v6 a := hv6)) <;> (try refine nX ?_)
          (refine ps_take 7 (by repeat (first | with_reducible refine panicQ_then ?_ | exact panicQ_body)) rfl (by kernel_rfl) (by kernel_rfl) (by kernel_rfl) rfl (St.cls hSS hst) (by exact qt_len evX asX inX) ?_) <;> (try refine nX ?_)
          (refine ps_take 8 (by repeat (first | with_reducible refine panicQ_then ?_ | exact panicQ_body)) rfl (by kernel_rfl) (by kernel_rfl) (by kernel_rfl) rfl (St.cls hSS hst) (qt_rem_b rfl rfl hn0 tk) ?_) <;> (try refine nX ?_)
          ((refine ps_takex 9 (by repeat (first | with_reducible refine panicQ_then ?_ | exact panicQ_body)) rfl (by kernel_rfl) (by kernel_rfl) (by kernel_rfl) rfl (St.cls hSS hst) (qt_index evX hv1 rfl inX inX omX omX ) ?_; rintro  v9 hp9; simp only [Int.toNat_natCast] at hp9)) <;> (try refine nX ?_)
          ((refine ps_takex 10 (by repeat (first | with_reducible refine panicQ_then ?_ | exact panicQ_body)) rfl (by kernel_rfl) (by kernel_rfl) (by kernel_rfl) rfl (St.cls hSS hst) (qt_ldp evX hp9 inX ) ?_; rintro  v10 ⟨c10, rfl, hc10⟩)) <;> (try refine nX ?_)
          refine ps_one 11 rfl (by kernel_rfl) ?_; intro K hK; refine s_alloc hst inX ?_; clear hst; intro b11 w hst; (try refine nX ?_); (try replace hst := nH hst); refine ps_next hK (St.cls hSS hst) ?_; clear hK K; (try refine nX ?_)
          refine ps_one 12 rfl (by kernel_rfl) ?_; intro K hK; refine s_stW0 hst rfl BoxIn.h inX rfl (Rep.mono hSS hc10) rfl ?_; clear hst; intro w hst; (try refine nX ?_); (try replace hst := nH hst); refine ps_next hK (St.cls hSS hst) ?_; clear hK K; (try refine nX ?_)
          refine ps_done (by kernel_rfl) ?_
          repeat' ((fail_if_success (with_reducible show Code.wp _ (Code.region 6 _ _) _ _ _)); ((fail_if_success (go_big_may)); (go_step)))
          obtain ⟨S4, hS4, hst0, hpg⟩ := pt_box (α := Fa) (x := a[k]) hst hc10 (Rep.len hc10)
          clear hst
          have hst := hst0
          clear hst0
          have hG4 := hG3.mono hS4
          clear hc10 hp9 hv1 hv6 hp0 hp5 tk hn0 hSS
          generalize a[k] = g at *
          have hdg := okg.d
          have cSd := fun {M : List Chunk} (w : World) (hst : St S4 M w) => sdig_c w hst hG4 g.2.1.b (by have := okg.t; omega)
          have cMd := fun {M : List Chunk} (w : World) (hst : St S4 M w) (cs : List Value) (hR : Rep.R S4 cs g.2.2.1) => mdig_c w hst hG4 cs g.2.2.1 hR (by have := okg.ml; omega)
          have hlS := sdgP_len g.2.1.b
          have hlM := mdP_len g.2.2.1
          generalize sdgP g.2.1.b = DS at *
          generalize mdP g.2.2.1 = DM at *
          haveI : LenIs g.2.2.2.1.l 16 := ⟨hdg⟩
          haveI : LenIs DS.l 16 := ⟨hlS⟩
          haveI : LenIs DM.l 16 := ⟨hlM⟩
          obtain ⟨y1, hg1⟩ : ∃ y, (g.1 == 1) = y := ⟨_, rfl⟩
          obtain ⟨y2, hg2⟩ : ∃ y, (g.1 == 2) = y := ⟨_, rfl⟩
          have hy : (y1 = true ∧ y2 = false) ∨ (y1 = false ∧ y2 = true) ∨ (y1 = false ∧ y2 = false) := by
            cases y1 <;> cases y2 <;> simp
            simp only [beq_iff_eq] at hg1 hg2
            omega
          clear okg
          rcases hy with ⟨rfl, rfl⟩ | ⟨rfl, rfl⟩ | ⟨rfl, rfl⟩
          · repeat' (first | ((first | (with_reducible (refine Sl.k_field ?_; refine s_ex hst (qt_fieldp evX hpg inX inX rfl) ?_; rintro vf hpf)) | (with_reducible (refine Sl.k_load ?_; (refine s_qt hst (qt_ldp_flat (y := g.2.2.2.1) evX hpf inX inX rfl) ?_))) | (with_reducible refine Sl.k_bin ?_; (first | refine s_qt hst (qt_eql_b rfl rfl hg1) ?_ | refine s_qt hst (qt_eql_b rfl rfl hg2) ?_))) <;> (try refine nX ?_)) | (((with_reducible refine Sl.k_call ?_; ((refine s_call (cSd _ hst) inX rfl ?_; clear hst; rintro v w ⟨rfl, hst⟩)))) <;> (try refine nX ?_) <;> (try replace hst := nH hst)) | ((fail_if_success (go_big_may)); (go_step)) | (((with_reducible refine Sl.k_load ?_; (first | (refine s_ex hst (qt_ldp_int evX asX inX) ?_; rintro v ⟨rfl, hI⟩) | (refine s_ex hst (qt_ldp_str evX asX inX) ?_; rintro v ⟨rfl, hs⟩)))) <;> (try refine nX ?_)) | (((((with_reducible refine Sl.k_store ?_; (refine s_stD hst rfl BoxIn.h inX evX inX lenX ?_); clear hst; intro w hst)))) <;> (try refine nX ?_) <;> (try replace hst := nH hst)))
            go_meet
            case rel => exact ⟨rfl, S4, DS, hS4, hlS, hst⟩
          · repeat' (first | ((first | (with_reducible (refine Sl.k_field ?_; refine s_ex hst (qt_fieldp evX hpg inX inX rfl) ?_; rintro vf hpf)) | (with_reducible (refine Sl.k_load ?_; (first | refine s_qt hst (qt_ldp_flat (y := g.2.2.2.1) evX hpf inX inX rfl) ?_ | (refine s_ex hst (qt_ldp (y := g.2.2.1) evX hpf inX) ?_; rintro v56 ⟨cm, rfl, hcm⟩)))) | (with_reducible refine Sl.k_bin ?_; (first | refine s_qt hst (qt_eql_b rfl rfl hg1) ?_ | refine s_qt hst (qt_eql_b rfl rfl hg2) ?_))) <;> (try refine nX ?_)) | (((with_reducible refine Sl.k_call ?_; ((refine s_call (cMd _ hst cm hcm) inX rfl ?_; clear hst; rintro v w ⟨rfl, hst⟩)))) <;> (try refine nX ?_) <;> (try replace hst := nH hst)) | ((fail_if_success (go_big_may)); (go_step)) | (((with_reducible refine Sl.k_load ?_; ((refine s_ex hst (qt_ldp_int evX asX inX) ?_; rintro v ⟨rfl, hI⟩)))) <;> (try refine nX ?_)) | (((((with_reducible refine Sl.k_store ?_; (refine s_stD hst rfl BoxIn.h inX evX inX lenX ?_); clear hst; intro w hst)))) <;> (try refine nX ?_) <;> (try replace hst := nH hst)))
            go_meet
            case rel => exact ⟨rfl, S4, DM, hS4, hlM, hst⟩
          · repeat' (first | ((first | (with_reducible (refine Sl.k_field ?_; refine s_ex hst (qt_fieldp evX hpg inX inX rfl) ?_; rintro vf hpf)) | (with_reducible (refine Sl.k_load ?_; (refine s_qt hst (qt_ldp_flat (y := g.2.2.2.1) evX hpf inX inX rfl) ?_))) | (with_reducible refine Sl.k_bin ?_; (first | refine s_qt hst (qt_eql_b rfl rfl hg1) ?_ | refine s_qt hst (qt_eql_b rfl rfl hg2) ?_))) <;> (try refine nX ?_)) | ((fail_if_success (go_big_may)); (go_step)) | (((with_reducible refine Sl.k_load ?_; ((refine s_ex hst (qt_ldp_int evX asX inX) ?_; rintro v ⟨rfl, hI⟩)))) <;> (try refine nX ?_)) | (((((with_reducible refine Sl.k_store ?_; (refine s_stD hst rfl BoxIn.h inX evX inX lenX ?_); clear hst; intro w hst)))) <;> (try refine nX ?_) <;> (try replace hst := nH hst)))
            go_meet
            case rel => exact ⟨rfl, S4, g.2.2.2.1, hS4, hdg, hst⟩
    case rest =>
    clear hst
    obtain ⟨rfl, S4, D, hS4, hD, hst⟩ := hcut
    obtain ⟨S5, hS5, hst0, hpd⟩ := dg_box hst hD
    clear hst
    have hst := hst0
    clear hst0
    haveI : LenIs D.l 16 := ⟨hD⟩
    replace hpa := hpa.mono (hS4.trans hS5)
    have hle := hS3.trans (hS4.trans hS5)
    have cS1 := fun {S : Snap} {M : List Chunk} (w : World) (hst : St S M w) (hG : Glob S) (c : List Value) (h : Rep.R S c ((a, ()) : Dir)) => wsrc_c w hst hG c a h oa (by omega) D hD
    have cS2 := fun {S : Snap} {M : List Chunk} (w : World) (hst : St S M w) (c : List Value) (h : Rep.R S c ((a, ()) : Dir)) => wrsrc_c w hst c a h oa (by omega) D hD
    have cI1 := fun {S : Snap} {M : List Chunk} (w : World) (hst : St S M w) (hG : Glob S) (c : List Value) (h : Rep.R S c ((a, ()) : Dir)) => wimg_c w hst hG c a h oa (by omega) D hD
    have cI2 := fun {S : Snap} {M : List Chunk} (w : World) (hst : St S M w) (c : List Value) (h : Rep.R S c ((a, ()) : Dir)) => wrimg_c w hst c a h oa (by omega) D hD
    have cRv := fun {S : Snap} {M : List Chunk} (w : World) (hst : St S M w) (c : List Value) (h : Rep.R S c ((a, ()) : Dir)) => wrev_c w hst c a h oa (by omega) D hD
    have cRRv := fun {S : Snap} {M : List Chunk} (w : World) (hst : St S M w) (c : List Value) (h : Rep.R S c ((a, ()) : Dir)) => wrrev_c w hst c a h oa (by omega) D hD
    have cBd := fun {S : Snap} {M : List Chunk} (w : World) (hst : St S M w) (c : List Value) (h : Rep.R S c ((a, ()) : Dir)) => wbad_c w hst c a h oa (by omega) D hD
    have cRBd := fun {S : Snap} {M : List Chunk} (w : World) (hst : St S M w) (c : List Value) (h : Rep.R S c ((a, ()) : Dir)) => wrbad_c w hst c a h oa (by omega) D hD
    have hil := imgD_len oa D
    have cMs := fun {S : Snap} {M : List Chunk} (w : World) (hst : St S M w) (ca cb : List Value) (ha : Rep.R S ca (imgD a D).1) (hb : Rep.R S cb (imgD a D).1) => (rmans_c w hst ca cb _ _ ha hb (by omega) (by omega)).eq (decide_eq_true rfl)
    generalize (srcD a D).1 = sx at *
    generalize (srcD a D).2 = sb at *
    generalize (imgD a D).1 = im at *
    generalize (imgD a D).2 = ib at *
    generalize (lstD a 3 D).2 = rb at *
    generalize (lstD a 4 D).2 = bb at *
    clear hS3 hS4 hS5
    repeat' ((fail_if_success (with_reducible show Code.wp _ (Code.region 12 _ _) _ _ _)); first | ((first | (with_reducible (refine Sl.k_load ?_; refine s_ex hst (qt_ldp (α := Dir) (y := (a, ())) evX hpa inX) ?_; rintro v55 ⟨ca, rfl, hca⟩)) | (with_reducible (refine Sl.k_load ?_; refine s_qt hst (qt_ldp_flat (y := D) evX hpd inX inX rfl) ?_))) <;> (try refine nX ?_)) | (((with_reducible refine Sl.k_call ?_; ((refine s_call (cS1 _ hst (hG.mono hle) ca hca) inX rfl ?_; clear hst; rintro v w ⟨rfl, hst⟩)))) <;> (try refine nX ?_) <;> (try replace hst := nH hst)) | ((fail_if_success (go_big_may)); (go_step)) | (with_reducible refine Sl.gate rfl ?_; (go_step)))
    repeat' ((fail_if_success (with_reducible show Code.wp _ (Code.region 13 _ _) _ _ _)); first | ((first | (with_reducible (refine Sl.k_load ?_; refine s_ex hst (qt_ldp (α := Dir) (y := (a, ())) evX hpa inX) ?_; rintro v55 ⟨ca, rfl, hca⟩)) | (with_reducible (refine Sl.k_load ?_; refine s_qt hst (qt_ldp_flat (y := D) evX hpd inX inX rfl) ?_))) <;> (try refine nX ?_)) | (((with_reducible refine Sl.k_call ?_; ((refine s_call (cS2 _ hst ca hca) inX rfl ?_; clear hst; rintro v w ⟨S6, hS6, rfl, hst⟩)))) <;> (try refine nX ?_) <;> (try replace hst := nH hst)) | ((fail_if_success (go_big_may)); (go_step)) | (with_reducible refine Sl.gate rfl ?_; (go_step)))
    replace hle := hle.trans hS6
    replace hpa := hpa.mono hS6
    replace hpd := hpd.mono hS6
    repeat' (first | ((first | (with_reducible (refine Sl.k_load ?_; refine s_ex hst (qt_ldp (α := Dir) (y := (a, ())) evX hpa inX) ?_; rintro v55 ⟨ca, rfl, hca⟩)) | (with_reducible (refine Sl.k_load ?_; refine s_qt hst (qt_ldp_flat (y := D) evX hpd inX inX rfl) ?_))) <;> (try refine nX ?_)) | (((with_reducible refine Sl.k_call ?_; ((refine s_call (cI1 _ hst (hG.mono hle) ca hca) inX rfl ?_; clear hst; rintro v w ⟨S7, c7, hS7, rfl, hR7, hst⟩)))) <;> (try refine nX ?_) <;> (try replace hst := nH hst)) | ((fail_if_success (go_big_may)); (go_step)) | (with_reducible refine Sl.gate rfl ?_; (go_step)) | (((((refine s_alloc hst inX ?_; clear hst; intro bk w hst)))) <;> (try refine nX ?_) <;> (try replace hst := nH hst)))
    refine s_stW0 hst rfl BoxIn.h inX rfl hR7 rfl ?_
    clear hst; intro w hst
    (try refine nX ?_)
    (try replace hst := nH hst)
    repeat' ((fail_if_success (with_reducible show Code.wp _ (Code.region 14 _ _) _ _ _)); ((fail_if_success (go_big_may)); (go_step)))
    obtain ⟨T7, hT7, hst0, hpm⟩ := pt_box (α := MF) (x := im) hst hR7 (Rep.len hR7)
    clear hst
    have hst := hst0
    clear hst0
    replace hle := (hle.trans hS7).trans hT7
    replace hpa := hpa.mono (hS7.trans hT7)
    replace hpd := hpd.mono (hS7.trans hT7)
    repeat' (first | ((first | (with_reducible (refine Sl.k_load ?_; refine s_ex hst (qt_ldp (α := Dir) (y := (a, ())) evX hpa inX) ?_; rintro v55 ⟨ca, rfl, hca⟩)) | (with_reducible (refine Sl.k_load ?_; refine s_qt hst (qt_ldp_flat (y := D) evX hpd inX inX rfl) ?_))) <;> (try refine nX ?_)) | (((with_reducible refine Sl.k_call ?_; ((refine s_call (cI2 _ hst ca hca) inX rfl ?_; clear hst; rintro v w ⟨S8, c8, hS8, rfl, hR8, hst⟩)))) <;> (try refine nX ?_) <;> (try replace hst := nH hst)) | ((fail_if_success (go_big_may)); (go_step)) | (with_reducible refine Sl.gate rfl ?_; (go_step)) | (((((refine s_alloc hst inX ?_; clear hst; intro bk w hst)))) <;> (try refine nX ?_) <;> (try replace hst := nH hst)))
    refine s_stW0 hst rfl BoxIn.h inX rfl hR8 rfl ?_
    clear hst; intro w hst
    (try refine nX ?_)
    (try replace hst := nH hst)
    repeat' ((fail_if_success (with_reducible show Code.wp _ (Code.region 15 _ _) _ _ _)); ((fail_if_success (go_big_may)); (go_step)))
    obtain ⟨T8, hT8, hst0, hpn⟩ := pt_box (α := MF) (x := im) hst hR8 (Rep.len hR8)
    clear hst
    have hst := hst0
    clear hst0
    replace hle := (hle.trans hS8).trans hT8
    replace hpa := hpa.mono (hS8.trans hT8)
    replace hpd := hpd.mono (hS8.trans hT8)
    replace hpm := hpm.mono (hS8.trans hT8)
    clear hS6 hS7 hT7 hS8 hT8 hR7 hR8 hca cI1 cI2 cS1 cS2
    refine ps_begin hst (by kernel_rfl) ?_; clear hst; intro w hst; have hSS := le_of hst; (try refine nX ?_)
    (refine ps_take 0 (by repeat (first | with_reducible refine panicQ_then ?_ | exact panicQ_body)) rfl (by kernel_rfl) (by kernel_rfl) (by kernel_rfl) rfl (St.cls hSS hst) (by exact qt_move evX) ?_) <;> (try refine nX ?_)
    (refine ps_take 1 (by repeat (first | with_reducible refine panicQ_then ?_ | exact panicQ_body)) rfl (by kernel_rfl) (by kernel_rfl) (by kernel_rfl) rfl (St.cls hSS hst) (by exact qt_move evX) ?_) <;> (try refine nX ?_)
    (refine ps_take 2 (by repeat (first | with_reducible refine panicQ_then ?_ | exact panicQ_body)) rfl (by kernel_rfl) (by kernel_rfl) (by kernel_rfl) rfl (St.cls hSS hst) (by exact qt_move evX) ?_) <;> (try refine nX ?_)
    (refine ps_take 3 (by repeat (first | with_reducible refine panicQ_then ?_ | exact panicQ_body)) rfl (by kernel_rfl) (by kernel_rfl) (by kernel_rfl) rfl (St.cls hSS hst) (by exact qt_move evX) ?_) <;> (try refine nX ?_)
    ((refine ps_take 4 (by repeat (first | with_reducible refine panicQ_then ?_ | exact panicQ_body)) rfl (by kernel_rfl) (by kernel_rfl) (by kernel_rfl) rfl (St.cls hSS hst) (qt_eql_str (a := sx.b) (b := sx.b) rfl rfl inX (decide_eq_true rfl)) ?_)) <;> (try refine nX ?_)
    (refine ps_take 5 (by repeat (first | with_reducible refine panicQ_then ?_ | exact panicQ_body)) rfl (by kernel_rfl) (by kernel_rfl) (by kernel_rfl) rfl (St.cls hSS hst) (by exact qt_pick_t rfl evX) ?_) <;> (try refine nX ?_)
    (refine ps_take 6 (by repeat (first | with_reducible refine panicQ_then ?_ | exact panicQ_body)) rfl (by kernel_rfl) (by kernel_rfl) (by kernel_rfl) rfl (St.cls hSS hst) (by exact qt_move evX) ?_) <;> (try refine nX ?_)
    (refine ps_take 7 (by repeat (first | with_reducible refine panicQ_then ?_ | exact panicQ_body)) rfl (by kernel_rfl) (by kernel_rfl) (by kernel_rfl) rfl (St.cls hSS hst) (by exact qt_move evX) ?_) <;> (try refine nX ?_)
    (refine ps_take 8 (by repeat (first | with_reducible refine panicQ_then ?_ | exact panicQ_body)) rfl (by kernel_rfl) (by kernel_rfl) (by kernel_rfl) rfl (St.cls hSS hst) (by exact qt_move evX) ?_) <;> (try refine nX ?_)
    ((refine ps_take 9 (by repeat (first | with_reducible refine panicQ_then ?_ | exact panicQ_body)) rfl (by kernel_rfl) (by kernel_rfl) (by kernel_rfl) rfl (St.cls hSS hst) (qt_eql_bself rfl rfl inX) ?_)) <;> (try refine nX ?_)
    (refine ps_take 10 (by repeat (first | with_reducible refine panicQ_then ?_ | exact panicQ_body)) rfl (by kernel_rfl) (by kernel_rfl) (by kernel_rfl) rfl (St.cls hSS hst) (by exact qt_pick_t rfl evX) ?_) <;> (try refine nX ?_)
    (refine ps_take 11 (by repeat (first | with_reducible refine panicQ_then ?_ | exact panicQ_body)) rfl (by kernel_rfl) (by kernel_rfl) (by kernel_rfl) rfl (St.cls hSS hst) (by exact qt_move evX) ?_) <;> (try refine nX ?_)
    (((refine ps_takex 12 (by repeat (first | with_reducible refine panicQ_then ?_ | exact panicQ_body)) rfl (by kernel_rfl) (by kernel_rfl) (by kernel_rfl) rfl (St.cls hSS hst) (qt_ldp (y := im) evX hpm inX ) ?_; rintro  v12 ⟨c12, rfl, hc12⟩))) <;> (try refine nX ?_)
    (((refine ps_takex 13 (by repeat (first | with_reducible refine panicQ_then ?_ | exact panicQ_body)) rfl (by kernel_rfl) (by kernel_rfl) (by kernel_rfl) rfl (St.cls hSS hst) (qt_ldp (y := im) evX hpn inX ) ?_; rintro  v13 ⟨c13, rfl, hc13⟩))) <;> (try refine nX ?_)
    refine ps_one 14 rfl (by kernel_rfl) ?_; intro K hK; refine Sl.guard_yes rfl ?_; refine s_call (cMs w hst c12 c13 (Rep.mono hSS hc12) (Rep.mono hSS hc13)) inX rfl ?_; clear hst; rintro v14 w ⟨rfl, hst⟩; (try refine nX ?_); (try replace hst := nH hst); refine ps_next hK (St.cls hSS hst) ?_; clear hK K; (try refine nX ?_)
    (refine ps_take 15 (by repeat (first | with_reducible refine panicQ_then ?_ | exact panicQ_body)) rfl (by kernel_rfl) (by kernel_rfl) (by kernel_rfl) rfl (St.cls hSS hst) (by exact qt_pick_t rfl evX) ?_) <;> (try refine nX ?_)
    (refine ps_take 16 (by repeat (first | with_reducible refine panicQ_then ?_ | exact panicQ_body)) rfl (by kernel_rfl) (by kernel_rfl) (by kernel_rfl) rfl (St.cls hSS hst) (by exact qt_move evX) ?_) <;> (try refine nX ?_)
    (refine ps_take 17 (by repeat (first | with_reducible refine panicQ_then ?_ | exact panicQ_body)) rfl (by kernel_rfl) (by kernel_rfl) (by kernel_rfl) rfl (St.cls hSS hst) (by exact qt_move evX) ?_) <;> (try refine nX ?_)
    (refine ps_take 18 (by repeat (first | with_reducible refine panicQ_then ?_ | exact panicQ_body)) rfl (by kernel_rfl) (by kernel_rfl) (by kernel_rfl) rfl (St.cls hSS hst) (by exact qt_move evX) ?_) <;> (try refine nX ?_)
    ((refine ps_take 19 (by repeat (first | with_reducible refine panicQ_then ?_ | exact panicQ_body)) rfl (by kernel_rfl) (by kernel_rfl) (by kernel_rfl) rfl (St.cls hSS hst) (qt_eql_bself rfl rfl inX) ?_)) <;> (try refine nX ?_)
    (refine ps_take 20 (by repeat (first | with_reducible refine panicQ_then ?_ | exact panicQ_body)) rfl (by kernel_rfl) (by kernel_rfl) (by kernel_rfl) rfl (St.cls hSS hst) (by exact qt_pick_t rfl evX) ?_) <;> (try refine nX ?_)
    (refine ps_take 21 (by repeat (first | with_reducible refine panicQ_then ?_ | exact panicQ_body)) rfl (by kernel_rfl) (by kernel_rfl) (by kernel_rfl) rfl (St.cls hSS hst) (by exact qt_move evX) ?_) <;> (try refine nX ?_)
    (((refine ps_takex 22 (by repeat (first | with_reducible refine panicQ_then ?_ | exact panicQ_body)) rfl (by kernel_rfl) (by kernel_rfl) (by kernel_rfl) rfl (St.cls hSS hst) (qt_ldp (α := Dir) (y := (a, ())) evX hpa inX ) ?_; rintro  v22 ⟨c22, rfl, hc22⟩))) <;> (try refine nX ?_)
    ((refine ps_take 23 (by repeat (first | with_reducible refine panicQ_then ?_ | exact panicQ_body)) rfl (by kernel_rfl) (by kernel_rfl) (by kernel_rfl) rfl (St.cls hSS hst) (qt_ldp_flat (y := D) evX hpd inX inX rfl) ?_)) <;> (try refine nX ?_)
    (((refine ps_takex 25 (by repeat (first | with_reducible refine panicQ_then ?_ | exact panicQ_body)) rfl (by kernel_rfl) (by kernel_rfl) (by kernel_rfl) rfl (St.cls hSS hst) (qt_ldp (α := Dir) (y := (a, ())) evX hpa inX ) ?_; rintro  v25 ⟨c25, rfl, hc25⟩))) <;> (try refine nX ?_)
    ((refine ps_take 26 (by repeat (first | with_reducible refine panicQ_then ?_ | exact panicQ_body)) rfl (by kernel_rfl) (by kernel_rfl) (by kernel_rfl) rfl (St.cls hSS hst) (qt_ldp_flat (y := D) evX hpd inX inX rfl) ?_)) <;> (try refine nX ?_)
    refine ps_one 24 rfl (by kernel_rfl) ?_; intro K hK; refine Sl.guard_yes rfl ?_; refine s_call (cRv w hst c22 (Rep.mono hSS hc22)) inX rfl ?_; clear hst; rintro v24 w ⟨rfl, hst⟩; (try refine nX ?_); (try replace hst := nH hst); refine ps_next hK (St.cls hSS hst) ?_; clear hK K; (try refine nX ?_)
    refine ps_one 27 rfl (by kernel_rfl) ?_; intro K hK; refine Sl.guard_yes rfl ?_; refine s_call (cRRv w hst c25 (Rep.mono hSS hc25)) inX rfl ?_; clear hst; rintro v27 w ⟨S27, hS27, rfl, hst⟩; (try refine nX ?_); (try replace hst := nH hst); replace hSS := hSS.trans hS27; refine ps_next hK (St.cls hSS hst) ?_; clear hK K; (try refine nX ?_)
    ((refine ps_take 28 (by repeat (first | with_reducible refine panicQ_then ?_ | exact panicQ_body)) rfl (by kernel_rfl) (by kernel_rfl) (by kernel_rfl) rfl (St.cls hSS hst) (qt_eql_bself rfl rfl inX) ?_)) <;> (try refine nX ?_)
    (refine ps_take 29 (by repeat (first | with_reducible refine panicQ_then ?_ | exact panicQ_body)) rfl (by kernel_rfl) (by kernel_rfl) (by kernel_rfl) rfl (St.cls hSS hst) (by exact qt_pick_t rfl evX) ?_) <;> (try refine nX ?_)
    (refine ps_take 30 (by repeat (first | with_reducible refine panicQ_then ?_ | exact panicQ_body)) rfl (by kernel_rfl) (by kernel_rfl) (by kernel_rfl) rfl (St.cls hSS hst) (by exact qt_move evX) ?_) <;> (try refine nX ?_)
    (((refine ps_takex 31 (by repeat (first | with_reducible refine panicQ_then ?_ | exact panicQ_body)) rfl (by kernel_rfl) (by kernel_rfl) (by kernel_rfl) rfl (St.cls hSS hst) (qt_ldp (α := Dir) (y := (a, ())) evX hpa inX ) ?_; rintro  v31 ⟨c31, rfl, hc31⟩))) <;> (try refine nX ?_)
    ((refine ps_take 32 (by repeat (first | with_reducible refine panicQ_then ?_ | exact panicQ_body)) rfl (by kernel_rfl) (by kernel_rfl) (by kernel_rfl) rfl (St.cls hSS hst) (qt_ldp_flat (y := D) evX hpd inX inX rfl) ?_)) <;> (try refine nX ?_)
    (((refine ps_takex 34 (by repeat (first | with_reducible refine panicQ_then ?_ | exact panicQ_body)) rfl (by kernel_rfl) (by kernel_rfl) (by kernel_rfl) rfl (St.cls hSS hst) (qt_ldp (α := Dir) (y := (a, ())) evX hpa inX ) ?_; rintro  v34 ⟨c34, rfl, hc34⟩))) <;> (try refine nX ?_)
    ((refine ps_take 35 (by repeat (first | with_reducible refine panicQ_then ?_ | exact panicQ_body)) rfl (by kernel_rfl) (by kernel_rfl) (by kernel_rfl) rfl (St.cls hSS hst) (qt_ldp_flat (y := D) evX hpd inX inX rfl) ?_)) <;> (try refine nX ?_)
    refine ps_one 33 rfl (by kernel_rfl) ?_; intro K hK; refine Sl.guard_yes rfl ?_; refine s_call (cBd w hst c31 (Rep.mono hSS hc31)) inX rfl ?_; clear hst; rintro v33 w ⟨rfl, hst⟩; (try refine nX ?_); (try replace hst := nH hst); refine ps_next hK (St.cls hSS hst) ?_; clear hK K; (try refine nX ?_)
    refine ps_one 36 rfl (by kernel_rfl) ?_; intro K hK; refine Sl.guard_yes rfl ?_; refine s_call (cRBd w hst c34 (Rep.mono hSS hc34)) inX rfl ?_; clear hst; rintro v36 w ⟨S36, hS36, rfl, hst⟩; (try refine nX ?_); (try replace hst := nH hst); replace hSS := hSS.trans hS36; refine ps_next hK (St.cls hSS hst) ?_; clear hK K; (try refine nX ?_)
    ((refine ps_take 37 (by repeat (first | with_reducible refine panicQ_then ?_ | exact panicQ_body)) rfl (by kernel_rfl) (by kernel_rfl) (by kernel_rfl) rfl (St.cls hSS hst) (qt_eql_bself rfl rfl inX) ?_)) <;> (try refine nX ?_)
    (refine ps_take 38 (by repeat (first | with_reducible refine panicQ_then ?_ | exact panicQ_body)) rfl (by kernel_rfl) (by kernel_rfl) (by kernel_rfl) rfl (St.cls hSS hst) (by exact qt_pick_t rfl evX) ?_) <;> (try refine nX ?_)
    (refine ps_take 39 (by repeat (first | with_reducible refine panicQ_then ?_ | exact panicQ_body)) rfl (by kernel_rfl) (by kernel_rfl) (by kernel_rfl) rfl (St.cls hSS hst) (by exact qt_assign evX) ?_) <;> (try refine nX ?_)
    refine ps_done (by kernel_rfl) ?_
    repeat' (((fail_if_success (go_big_may)); (go_step)))
    go_ret
    exact ⟨_, rfl, rfl, St.weaken (hle.trans hSS) hst⟩
theorem dlookK_c {S M} (w : World) (hst : St S M w) (hG : Glob S) (c1 : List Value) (a : Dir) (h1 : Rep.R S c1 a) (d : Dg) (hd : d.l.length = 16) (n : Nat) (hn : n ≤ 255) :
    Rets Tryd.prog 8 [.agg c1.toArray, dgVm d, .int .u8 (n : Int)] w fun v w' => v = .bool true ∧ St S M w' := by
  obtain ⟨a, ⟨⟩⟩ := a
  exact dlook_c w hst hG c1 a h1 d hd n hn
end Go.Proofs.YtjapdhaimbalkaaDoor

/- Package directory: how digests and bytes that come in are read. -/
namespace Go.Proofs.YtjapdhaimbalkaaDoor
set_option linter.unusedSimpArgs false
set_option linter.unusedVariables false
open Go.RowKit Go.Sl Go.ChangeShapes Go.WideShapes Go.ChangeAt

set_option maxRecDepth 20000 in
theorem open_u8 {H : Type} {enc : TypeId × Value → H} {W : World} {base : Nat} {v : Value} {d : DataW H} {p : List MemPlace} (hv : Value.okWide Tryd.prog W .any base 5 v) (h : DataW.Trod enc Tryd.prog W 0 (fun _ => true) true 5 v d p) :
    ∃ n : Nat, v = .int .u8 (n : Int) ∧ n ≤ 255 := by
  obtain ⟨n, rfl, _, _, wf⟩ := open_int Tryd.underlying5 hv h
  have hn : 0 ≤ n ∧ n ≤ 255 := by simpa [Lit.wf, IntKind.min, IntKind.max, IntKind.signed, IntKind.bits, I64] using wf
  exact ⟨n.toNat, by rw [Int.toNat_of_nonneg hn.1], by omega⟩

theorem okWide_array {P : Program} {w : World} {r : Reach} {base : Nat} {t : TypeId} {v : Value} {n : Nat} {e : TypeId} (ht : P.underlying t = some (.array n e)) (h : Value.okWide P w r base t v) : ∃ cs, v = .agg cs := by
  simp only [Value.okWide, ht] at h
  obtain ⟨cs, h1, _⟩ := h
  exact ⟨cs, h1⟩
set_option maxRecDepth 20000 in
theorem open_dg {H : Type} {enc : TypeId × Value → H} {W : World} {base : Nat} {v : Value} {d : DataW H} {p : List MemPlace} (hv : Value.okWide Tryd.prog W .any base 32 v) (h : DataW.Trod enc Tryd.prog W 0 (fun _ => true) true 32 v d p) :
    ∃ y : Dg, v = dgV y ∧ y.l.length = 16 := by
  obtain ⟨cs, rfl⟩ := okWide_array Tryd.underlying32 hv
  obtain ⟨y, hy, _⟩ := open_arg (α := Dg) h
  obtain ⟨h1, e⟩ := dg_cells hy
  have e' : cs = (u8s y.l).toArray := by
    apply Array.ext'
    exact e
  subst e'
  exact ⟨y, rfl, h1⟩

end Go.Proofs.YtjapdhaimbalkaaDoor

/- The statement DirectoryLookups. -/
namespace Go.Proofs.YtjapdhaimbalkaaDoor
set_option linter.unusedSimpArgs false
set_option linter.unusedVariables false
open Go.RowKit Go.Sl Go.ChangeShapes Go.WideShapes Go.ChangeAt

set_option maxRecDepth 20000 in
theorem dlook_post (H : Type) (enc : TypeId × Value → H) (W : World) (base : Nat) (args : Array Value) (ds gs : List (DataW H)) (before : List MemPlace)
    (hval : ∀ (j : Nat) t v, Tryd.f8.params[j]? = some t → args[j]? = some v → Value.okWide Tryd.prog W .any base t v)
    (hW : DataW.Whole enc Tryd.prog Tryd.f8.params.toList Rows.directoryLookupsSpec.vars false W args.toList ds gs before) (hk : Rows.uptoSmall H (ds ++ gs) = true) (hL : laidMetH Tryd.prog Rows.directoryLookupsUptoRow.laid W) :
    Calls Tryd.prog 8 args W fun e W' => ∃ v, e = .returned v ∧ Rows.directoryLookupsSpec.post enc Tryd.prog Tryd.f8 false true false false W args v W' := by
  have hW' := hW
  obtain ⟨p, q, hA0, hV, rfl, hfz, hnd⟩ := hW
  have hA : DataW.TrodAll enc Tryd.prog W 0 (fun _ => true) true Tryd.f8.params.toList args.toList ds p := hA0
  have hk := small_all hk
  rw [Tryd.params8] at hA hval
  obtain ⟨v0, vs0, d0, ds0, p0, q0, hargs, rfl, rfl, h0, r0⟩ := trodAll_cons hA
  obtain ⟨v1, vs1, d1, ds1, p1, q1, rfl, rfl, rfl, h1, r1⟩ := trodAll_cons r0
  obtain ⟨v2, vs2, d2, ds2, p2, q2, rfl, rfl, rfl, h2, r2⟩ := trodAll_cons r1
  obtain ⟨rfl, rfl, rfl⟩ := trodAll_nil r2
  obtain rfl : args = #[v0, v1, v2] := by cases args; simp_all
  obtain ⟨rfl, rfl⟩ := trodVars_none hV
  simp only [List.append_nil, Rows.uptoBulkAll] at hk
  obtain ⟨c0, u0, rfl, hR0⟩ := open_dir (hval 0 27 v0 rfl rfl) h0
  obtain ⟨d1, rfl, hd1⟩ := open_dg (hval 1 32 v1 rfl rfl) h1
  obtain ⟨n2, rfl, hn2⟩ := open_u8 (hval 2 5 v2 rfl rfl) h2
  refine Calls.mono (dlookK_c W (St.start W) (glob_of hL) c0 u0 hR0 d1 hd1 n2 hn2) fun e W' ⟨v, he, hv, hst⟩ => ?_
  subst hv
  exact ⟨_, he, law_post (tb := 4) rfl hW' (by kernel_rfl) (by rw [Tryd.params8]; intro t ht'; have e : t = 27 ∨ t = 32 ∨ t = 5 := (by simpa using ht'); rcases e with rfl | rfl | rfl <;> exact ⟨by kernel_rfl, of_decide_eq_true (by kernel_rfl)⟩) (by kernel_rfl) (by kernel_rfl) rfl rfl rfl hst.below⟩

abbrev dlook_args : Array Value := #[.agg #[.slice none 0 0], .agg #[.int .u8 0, .int .u8 0, .int .u8 0, .int .u8 0, .int .u8 0, .int .u8 0, .int .u8 0, .int .u8 0, .int .u8 0, .int .u8 0, .int .u8 0, .int .u8 0, .int .u8 0, .int .u8 0, .int .u8 0, .int .u8 0], .int .u8 0]
theorem dlook_met (os : Os) : laidMet Tryd.prog Rows.directoryLookupsUptoRow.laid ((laidWorld os #[]).forCall (fun _ _ => 0) ⟨#[], dlook_args, []⟩).memory :=
  laidMet_of_run' 8 (by kernel_rfl) (by kernel_rfl)
theorem dlook_reads (os : Os) {H : Type} (enc : TypeId × Value → H) : ∃ places, DataW.whole enc Tryd.prog ((laidWorld os #[]).forCall (fun _ _ => 0) ⟨#[], dlook_args, []⟩).memory Tryd.f8.params.toList Rows.directoryLookupsSpec.vars false dlook_args.toList 8 = some ([.agg [.nil], .agg [.lit (.int .u8 0), .lit (.int .u8 0), .lit (.int .u8 0), .lit (.int .u8 0), .lit (.int .u8 0), .lit (.int .u8 0), .lit (.int .u8 0), .lit (.int .u8 0), .lit (.int .u8 0), .lit (.int .u8 0), .lit (.int .u8 0), .lit (.int .u8 0), .lit (.int .u8 0), .lit (.int .u8 0), .lit (.int .u8 0), .lit (.int .u8 0)], .lit (.int .u8 0)], [], places) :=
  ⟨[], by kernel_rfl⟩

set_option maxRecDepth 100000 in
theorem dlook_lifted (os : Os) (started : os.Started) (H : Type) (enc : TypeId × Value → H) (F : Stop.Interp) :
    ReturnsInHanded {} Tryd.checked os 8 .any ((Rows.OpenSpec.upto Rows.directoryLookupsSpec).preRow enc Tryd.prog Tryd.f8 Rows.directoryLookupsUptoRow.domain false Rows.directoryLookupsUptoRow.laid) (((Rows.OpenSpec.upto Rows.directoryLookupsSpec).at F).post enc Tryd.prog Tryd.f8 false true false false) := by
  obtain ⟨places, hx⟩ := dlook_reads os enc
  refine returnsInHanded_of_row (C := Tryd.checked) (s := Rows.OpenSpec.upto Rows.directoryLookupsSpec) own started (by kernel_rfl) Tryd.func8
    (witness_row_at (enc := enc) (C := Tryd.checked) false (laidWorld os #[]) dlook_args rfl (by kernel_rfl) (by kernel_rfl) (by kernel_rfl)
      (OpenSpec.preRow_of_cond 8 hx (by kernel_rfl) (fun k hk => by cases hk; kernel_rfl) (by kernel_rfl) (dlook_met os))) ?_
  intro W base args ds gs before hval hW _ hc _ hL _ _
  exact dlook_post H enc W base args ds gs before hval hW (hc _ rfl) hL

theorem dlook_said : Rows.DirectoryLookupsUptoSaid :=
  OpenClaim.holds_of_cond 8 Tryd.f8 rfl rfl rfl rfl rfl rfl rfl ⟨rfl, rfl, rfl, rfl, rfl⟩ rfl rfl rfl rfl rfl (by kernel_rfl) Tryd.func8 (by kernel_rfl)
    (of_decide_eq_true (by kernel_rfl)) (by unfold Func.isWrapper; first | (rw [if_pos (by decide +kernel)]; kernel_rfl) | (rw [if_neg (by decide +kernel)]; exact ⟨rfl, rfl⟩))
    (fun os started H enc _ F => by rw [OpenClaim.pre_eq_preRow]; exact dlook_lifted os started H enc F)

theorem dlook_plain (f : FuncId) (fn : Func) (hf : Tryd.pinned.checked.prog.funcNamed "bootchain/bootchainlaw36.DirectoryLookups" = some f) (hfn : Tryd.pinned.checked.prog.funcs[f]? = some fn) :
    false = Tryd.pinned.checked.prog.looks [] ∧ ∀ (j : Nat) t, fn.params[j]? = some t → Tryd.pinned.checked.prog.wantsStandIn t = false := by
  obtain rfl : f = 8 := Option.some.inj ((show Tryd.prog.funcNamed "bootchain/bootchainlaw36.DirectoryLookups" = some 8 by kernel_rfl).symm.trans hf) |>.symm
  obtain rfl : fn = Tryd.f8 := (Option.some.inj (Tryd.func8.symm.trans hfn)).symm
  refine ⟨by kernel_rfl, fun j t ht => ?_⟩
  rw [Tryd.params8] at ht
  have e : t = 27 ∨ t = 32 ∨ t = 5 := by simpa using Array.mem_of_getElem? ht
  rcases e with rfl | rfl | rfl
  · exact (show Tryd.prog.wantsStandIn 27 = false by kernel_rfl)
  · exact (show Tryd.prog.wantsStandIn 32 = false by kernel_rfl)
  · exact (show Tryd.prog.wantsStandIn 5 = false by kernel_rfl)

theorem dlook_proved : Rows.DirectoryLookupsUptoCardSaid :=
  Claim7.holds_tied_plain_at .later [] _ _ _ _ dlook_said (fun _ h => by cases h) (by kernel_rfl) (fun _ h => by cases h) directoryLookupsUpto_row_tie rfl ⟨rfl, rfl⟩ (by kernel_rfl) rfl dlook_plain (by kernel_rfl)
end Go.Proofs.YtjapdhaimbalkaaDoor
