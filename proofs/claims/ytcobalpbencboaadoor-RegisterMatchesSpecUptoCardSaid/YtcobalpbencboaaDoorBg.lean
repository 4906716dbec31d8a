/- The reference's Merkle trees walked. -/
import Derived.Test.YtcobalpbencboaaDoorBb
import Derived.Test.YtcobalpbencboaaDoorBf
import Derived.Test.YtcobalpbencboaaDoorBe

/- The reference's Merkle trees: roots. -/
--@u32
--@hgp
--@flat
--@dg
namespace Go.Proofs.YtcobalpbencboaaDoor
set_option linter.unusedSimpArgs false
set_option linter.unusedVariables false
open Go.RowKit Go.Sl

theorem refDigestG {S M} (w : World) (hst : St S M w) (_hG : Glob S) (tag : Int) (h0 : 0 ≤ tag ∧ tag ≤ 255) (vp : Value) (parts : List (List UInt8)) (hp : RSl S vp parts) (hs : sizeB parts ≤ 1048576) :
    Rets Tryd.prog 45 [.int .i64 tag, vp] w fun v w' => v = .agg (u8s (dig tag parts)).toArray ∧ St S M w' := refDigest_c w hst tag h0 vp parts hp hs

set_option maxRecDepth 8000 in
set_option maxHeartbeats 400000 in
theorem refSplit_c {S M} (w : World) (hst : St S M w) (n : Nat) (h2 : 2 ≤ n) (hm : n ≤ 1048576) :
    Rets Tryd.prog 42 [.int .i64 (n : Int)] w fun v w' => v = .int .i64 (splitM n : Nat) ∧ St S M w' := by
  unfold Rets
  go_enter Tryd.func42, Tryd.ntmps42
  repeat' (((fail_if_success (go_big_may)); (go_step)))
  go_loopw [3] (fun v wr => ∃ (k : Nat), 1 ≤ k ∧ k < n ∧ v = .int .i64 k ∧ Hid (splitF n n k = splitM n) ∧ St S M wr) (fun v _ => n - (intOf v).toNat)
  case atStart => exact ⟨1, by omega, by omega, rfl, Lib.hid rfl, hst⟩
  case round =>
    clear hst
    obtain ⟨k, h1, hk, rfl, hs, hst⟩ := hrel
    by_cases hlt : 2 * k < n
    · repeat' (first | ((fail_if_success (go_big_may)); (go_step)) | (with_reducible refine Sl.gate rfl ?_; (go_step)))
      go_roundw
      case rel => exact ⟨2 * k, by omega, hlt, by go_num, Lib.hid (by rw [← hs.out, splitF_go n n k hlt (by omega)]; exact splitF_more _ _ _ _ (by omega) (by omega) (by omega)), hst⟩
      case measure => simp [intOf]; omega
    · repeat' (first | ((fail_if_success (go_big_may)); (go_step)) | (with_reducible refine Sl.gate rfl ?_; (go_step)))
      go_ret
      refine ⟨_, rfl, ?_, hst⟩
      rw [← hs.out, splitF_stop hlt]
      rfl

set_option maxRecDepth 8000 in
set_option maxHeartbeats 400000 in
theorem refLeaf_c {S M} (w : World) (hst : St S M w) (hG : Glob S) (d : Dg) (hd : d.l.length = 16) :
    Rets Tryd.prog 46 [dgV d] w fun v w' => v = dgV (leafM d) ∧ St S M w' := by
  unfold Rets
  go_enter Tryd.func46, Tryd.ntmps46
  repeat' ((fail_if_success (with_reducible show Code.wp _ (Code.region 1 _ _) _ _ _)); first | ((fail_if_success (go_big_may)); (go_step)) | ((((first | (refine s_box hst evX rfl ?_; clear hst; intro bx w hst) | (refine s_alloc hst inX ?_; clear hst; intro bk w hst)))) <;> (try refine nY ?_) <;> (try replace hst := nH hst)))
  obtain ⟨S1, hS1, hst, hpd⟩ := dg_box hst.swap hd
  refine wp_region_lit ?_
  refine s_ex hst (qt_arrSliceP (a := 0) (b := 16) evX hpd inX inX (.inl ⟨rfl, rfl⟩) (.inl ⟨rfl, rfl⟩) (by omega) (by omega) (by unfold maxLen; omega)) ?_
  rintro v hv
  rw [List.drop_zero, List.take_of_length_le (by omega)] at hv
  have hv1 := hv.oneCell
  refine nY ?_
  refine s_lit (vs := [v]) hst inX inX rfl rfl (by simp [cells_size1 hv1]) rfl (by omega) (by omega) ?_
  clear hst; intro x w hst
  simp only [List.map_cons, List.map_nil, cells_one hv1, List.flatten_cons, List.flatten_nil, List.append_nil] at hst
  obtain ⟨S2, hS2, hst, hx⟩ := lit_p1 hst hv
  refine nY ?_
  repeat' (first | (((with_reducible refine Sl.k_call ?_; ((refine s_call (refDigestG _ hst ((hG.mono hS1).mono hS2) 1 (by omega) _ _ hx (by simp [sizeB]; omega)) inX rfl ?_; clear hst; rintro v w ⟨rfl, hst⟩)))) <;> (try refine nY ?_) <;> (try replace hst := nH hst)) | ((fail_if_success (go_big_may)); (go_step)) | (((((with_reducible refine Sl.k_store ?_; (refine s_stD hst rfl BoxIn.h inX evX inX lenX ?_); clear hst; intro w hst)))) <;> (try refine nY ?_) <;> (try replace hst := nH hst)))
  exact ret_D rfl hst rfl BoxIn.h inX inX ⟨_, rfl, rfl, St.weaken (hS1.trans hS2) hst.drop⟩

set_option maxRecDepth 8000 in
set_option maxHeartbeats 400000 in
theorem refNode_c {S M} (w : World) (hst : St S M w) (hG : Glob S) (a b : Dg) (ha : a.l.length = 16) (hb : b.l.length = 16) :
    Rets Tryd.prog 47 [dgV a, dgV b] w fun v w' => v = dgV (nodeM a b) ∧ St S M w' := by
  unfold Rets
  go_enter Tryd.func47, Tryd.ntmps47
  repeat' ((fail_if_success (with_reducible show Code.wp _ (Code.region 1 _ _) _ _ _)); first | ((fail_if_success (go_big_may)); (go_step)) | ((((first | (refine s_box hst evX rfl ?_; clear hst; intro bx w hst) | (refine s_alloc hst inX ?_; clear hst; intro bk w hst)))) <;> (try refine nY ?_) <;> (try replace hst := nH hst)))
  obtain ⟨S1, hS1, hst, hpb⟩ := dg_box (hst.perm (List.Perm.swap _ _ _)) hb
  obtain ⟨S2, hS2, hst, hpa⟩ := dg_box hst.swap ha
  replace hpb := hpb.mono hS2
  have hG2 := (hG.mono hS1).mono hS2
  refine v_begin hst (by kernel_rfl) ?_; clear hst; intro ops; (try refine nY ?_)
  ((refine t_ex 0 rfl (by kernel_rfl) rfl rfl (fun w hst => qt_arrSliceP (a := 0) (b := 16) evX hpa inX inX (.inl ⟨rfl, rfl⟩) (.inl ⟨rfl, rfl⟩) (by omega) (by omega) (by unfold maxLen; omega) ) ?_; rintro  v5 hv5)) <;> (try refine nY ?_)
  ((refine t_ex 1 rfl (by kernel_rfl) rfl rfl (fun w hst => qt_arrSliceP (a := 0) (b := 16) evX hpb inX inX (.inl ⟨rfl, rfl⟩) (.inl ⟨rfl, rfl⟩) (by omega) (by omega) (by unfold maxLen; omega) ) ?_; rintro  v6 hv6)) <;> (try refine nY ?_)
  refine v_one 2 rfl (by kernel_rfl) ?_; intro w hst K hK; (rw [List.drop_zero, List.take_of_length_le (by omega)] at hv5 hv6; refine s_lit (vs := [v5, v6]) hst inX inX rfl rfl (by simp [cells_size1 hv5.oneCell, cells_size1 hv6.oneCell]) rfl (by omega) (by omega) ?_; clear hst; intro x2 w hst; simp only [List.map_cons, List.map_nil, cells_one hv5.oneCell, cells_one hv6.oneCell, List.flatten_cons, List.flatten_nil, List.append_nil, List.cons_append, List.nil_append] at hst; obtain ⟨S3, hS3, hst, hx⟩ := lit_p2 hst hv5 hv6); (try refine nY ?_); (try replace hst := nH hst); refine v_next hK hst hS3 (Suf.refl _) ?_; clear hst hK K; (try clear w); (try refine nY ?_)
  (refine t_call 3 rfl (by kernel_rfl) rfl (fun S' M' w hS hM hst => refDigestG w hst ((hG2.mono hS3).mono hS) 2 (by omega) _ _ (hx.mono hS) (by simp [sizeB]; omega)) inX rfl ?_) <;> (try refine nY ?_)
  refine v_one 4 rfl (by kernel_rfl) ?_; intro w hst K hK; (refine s_stD hst rfl BoxIn.h inX evX inX lenX ?_); clear hst; intro w hst; (try refine nY ?_); (try replace hst := nH hst); refine v_last hK hst ?_; clear hst hK K; (try clear w); (try refine nY ?_)
  refine v_done (by kernel_rfl) ?_; clear ops; intro w hst
  repeat' (((fail_if_success (go_big_may)); (go_step)))
  exact ret_D rfl hst rfl BoxIn.h inX inX ⟨_, rfl, rfl, St.weaken ((hS1.trans hS2).trans hS3) hst.drop⟩

set_option maxRecDepth 8000 in
set_option maxHeartbeats 400000 in
theorem refRoot0_c {S M} (w : World) (hst : St S M w) (hG : Glob S) (vl : Value) (l : List Dg) (hl : RSl S vl l) (h0 : l.length = 0) :
    Rets Tryd.prog 19 [vl] w fun v w' => v = dgV (rootM l) ∧ St S M w' := by
  unfold Rets
  obtain rfl := List.eq_nil_of_length_eq_zero h0
  have hnil : RSl S (.slice none 0 0) ([] : List (List UInt8)) := .inl ⟨none, 0, rfl, rfl, by unfold maxLen; omega⟩
  go_enter Tryd.func19, Tryd.ntmps19
  repeat' (first | (((with_reducible refine Sl.k_call ?_; ((refine s_call (refDigestG _ hst hG 1 (by omega) _ _ hnil (by simp [sizeB])) inX rfl ?_; clear hst; rintro v w ⟨rfl, hst⟩)))) <;> (try refine nY ?_) <;> (try replace hst := nH hst)) | ((fail_if_success (go_big_may)); (go_step)) | (((with_reducible refine Sl.k_call ?_; (refine s_qt hst (by exact qt_len evX asX inX) ?_))) <;> (try refine nY ?_)) | (with_reducible refine Sl.gate rfl ?_; (go_step)) | ((((first | (with_reducible refine Sl.k_store ?_; (refine s_stD hst rfl BoxIn.h inX evX inX lenX ?_); clear hst; intro w hst) | (refine s_alloc hst inX ?_; clear hst; intro bk w hst)))) <;> (try refine nY ?_) <;> (try replace hst := nH hst)))
  exact ret_D rfl hst rfl BoxIn.h inX inX ⟨_, rfl, rfl, hst.drop⟩

set_option maxRecDepth 8000 in
set_option maxHeartbeats 400000 in
theorem refRoot1_c {S M} (w : World) (hst : St S M w) (hG : Glob S) (vl : Value) (l : List Dg) (hl : RSl S vl l) (h1 : l.length = 1) :
    Rets Tryd.prog 19 [vl] w fun v w' => v = dgV (rootM l) ∧ St S M w' := by
  unfold Rets
  have h11 : 1 ≤ l.length ∧ l.length ≤ 1 := by omega
  have h0l : 0 < l.length := by omega
  clear h1
  have hd := hl.dgs (l[0]'h0l) (List.getElem_mem h0l)
  have hE : Hid (rootM l = leafM (l[0]'h0l)) := Lib.hid (by
    obtain ⟨d, rfl⟩ := List.length_eq_one_iff.1 (show l.length = 1 by omega)
    rfl)
  go_enter Tryd.func19, Tryd.ntmps19
  repeat' (first | (((with_reducible refine Sl.k_call ?_; ((refine s_call (refLeaf_c _ hst hG l[0] hd) inX rfl ?_; clear hst; rintro v w ⟨rfl, hst⟩)))) <;> (try refine nY ?_) <;> (try replace hst := nH hst)) | ((fail_if_success (go_big_may)); (go_step)) | ((first | (with_reducible refine Sl.k_load ?_; (refine s_qt hst (by exact qt_ldp_flat evX asX inX inX rfl) ?_)) | (with_reducible refine Sl.k_index ?_; (((refine s_ex hst (qt_index evX asX rfl inX inX omX omX) ?_); rintro v hp; (try simp only [Int.toNat_natCast, Int.toNat_natCast_add_one, Int.reduceToNat] at hp)))) | (with_reducible refine Sl.k_call ?_; (refine s_qt hst (by exact qt_len evX asX inX) ?_))) <;> (try refine nY ?_)) | (with_reducible refine Sl.gate rfl ?_; (go_step)) | ((((first | (with_reducible refine Sl.k_store ?_; (refine s_stD hst rfl BoxIn.h inX evX inX lenX ?_); clear hst; intro w hst) | (refine s_alloc hst inX ?_; clear hst; intro bk w hst)))) <;> (try refine nY ?_) <;> (try replace hst := nH hst)))
  exact ret_D rfl hst rfl BoxIn.h inX inX ⟨_, rfl, by rw [hE.out], hst.drop⟩

set_option maxRecDepth 8000 in
set_option maxHeartbeats 1000000 in
theorem refRoot_c : ∀ (m : Nat) {S M} (w : World) (_hst : St S M w) (_hG : Glob S) (vl : Value) (l : List Dg) (_hl : RSl S vl l) (_hm : l.length ≤ m) (_hm2 : m ≤ 1048576),
    Rets Tryd.prog 19 [vl] w fun v w' => v = dgV (rootM l) ∧ St S M w' := by
  intro m
  induction m with
  | zero => exact fun w hst hG vl l hl h0 h1 => refRoot0_c w hst hG vl l hl (by omega)
  | succ m ih =>
    intro S M w hst hG vl l hl hm hm2
    by_cases h0 : l.length = 0
    · exact refRoot0_c w hst hG vl l hl h0
    · by_cases h1 : l.length = 1
      · exact refRoot1_c w hst hG vl l hl h1
      · have h2 : 2 ≤ l.length := by omega
        obtain ⟨hs1, hs2⟩ := splitM_spec h2
        have hE := Lib.hid (rootM_two h2)
        have hlen1 : (l.take (splitM l.length)).length ≤ m := by rw [List.length_take]; omega
        have hlen2 : (l.drop (splitM l.length)).length ≤ m := by rw [List.length_drop]; omega
        have hsp := fun {S M} (w : World) (hst : St S M w) => refSplit_c w hst l.length h2 (by omega)
        have hl20 : l.length ≤ 1048576 := by omega
        have e9 : (l.drop (splitM l.length)).take (l.length - splitM l.length) = l.drop (splitM l.length) := List.take_of_length_le (by rw [List.length_drop]; exact Nat.le_refl _)
        have E9 := Lib.hid e9
        clear h0 h1 e9
        generalize hk : splitM l.length = k at *
        have Hk := Lib.hid hk
        clear hk
        unfold Rets
        go_enter Tryd.func19, Tryd.ntmps19
        repeat' (first | (((with_reducible refine Sl.k_call ?_; ((refine s_call (hsp _ hst) inX rfl ?_; clear hst; rintro v w ⟨rfl, hst⟩)))) <;> (try refine nY ?_) <;> (try replace hst := nH hst)) | ((fail_if_success (go_big_may)); (go_step)) | (((with_reducible refine Sl.k_call ?_; (refine s_qt hst (by exact qt_len evX asX inX) ?_))) <;> (try refine nY ?_)) | (with_reducible refine Sl.gate rfl ?_; (go_step)) | (((((refine s_alloc hst inX ?_; clear hst; intro bk w hst)))) <;> (try refine nY ?_) <;> (try replace hst := nH hst)))
        refine v_begin hst (by kernel_rfl) ?_; clear hst; intro ops; (try refine nY ?_)
        (refine t_qt 0 rfl (by kernel_rfl) rfl rfl (by exact qt_move evX) ?_) <;> (try refine nY ?_)
        (refine t_qt 1 rfl (by kernel_rfl) rfl rfl (by exact qt_move evX) ?_) <;> (try refine nY ?_)
        ((refine t_ex 2 rfl (by kernel_rfl) rfl rfl (fun w hst => qt_slice (a := 0) (b := k) evX hl inX inX (.inl ⟨rfl, rfl⟩) (.inr ⟨.i64, by simp [evF, nth]⟩) (.inl rfl) (by omega) (by omega) ) ?_; rintro  v2 hv2)) <;> (try refine nY ?_)
        (refine t_call 3 rfl (by kernel_rfl) rfl (fun S' M' w hS hM hst => ih w hst (hG.mono hS) v2 (l.take k) (hv2.mono hS) hlen1 (by omega)) inX rfl ?_) <;> (try refine nY ?_)
        (refine t_qt 4 rfl (by kernel_rfl) rfl rfl (by exact qt_move evX) ?_) <;> (try refine nY ?_)
        (refine t_qt 5 rfl (by kernel_rfl) rfl rfl (by exact qt_move evX) ?_) <;> (try refine nY ?_)
        ((refine t_ex 6 rfl (by kernel_rfl) rfl rfl (fun w hst => qt_slice (a := k) (b := l.length) evX hl inX inX (.inr ⟨.i64, by simp [evF, nth]⟩) (.inl ⟨rfl, rfl⟩) (.inl rfl) (by omega) (by omega) ) ?_; rintro  v6 hv6)) <;> (try refine nY ?_)
        (refine t_call 7 rfl (by kernel_rfl) rfl (fun S' M' w hS hM hst => ih w hst (hG.mono hS) v6 (l.drop k) (by have := hv6.mono hS; rwa [E9.out] at this) hlen2 (by omega)) inX rfl ?_) <;> (try refine nY ?_)
        (refine t_call 8 rfl (by kernel_rfl) rfl (fun S' M' w hS hM hst => refNode_c w hst (hG.mono hS) _ _ (rootM_len _) (rootM_len _)) inX rfl ?_) <;> (try refine nY ?_)
        refine v_one 9 rfl (by kernel_rfl) ?_; intro w hst K hK; (refine s_stD hst rfl BoxIn.h inX evX inX lenX ?_); clear hst; intro w hst; (try refine nY ?_); (try replace hst := nH hst); refine v_last hK hst ?_; clear hst hK K; (try clear w); (try refine nY ?_)
        refine v_done (by kernel_rfl) ?_; clear ops; intro w hst
        repeat' (((fail_if_success (go_big_may)); (go_step)))
        exact ret_D rfl hst rfl BoxIn.h inX inX ⟨_, rfl, by rw [hE.out], hst.drop⟩
end Go.Proofs.YtcobalpbencboaaDoor

/- The reference's Merkle trees: proofs and their verification. -/
--@u32
--@hgp
--@flat
--@dg
--@ex0
namespace Go.Proofs.YtcobalpbencboaaDoor
set_option linter.unusedSimpArgs false
set_option linter.unusedVariables false
open Go.RowKit Go.Sl

set_option maxRecDepth 8000 in
set_option maxHeartbeats 1000000 in
theorem refProve_c : ∀ (m : Nat) {S M} (w : World) (_hst : St S M w) (_hG : Glob S) (vl : Value) (l : List Dg) (_hl : RSl S vl l) (i : Nat) (_hi : i < l.length) (_hm : l.length ≤ m) (_hm2 : m ≤ 1000),
    Rets Tryd.prog 17 [vl, .int .i64 (i : Int)] w fun v w' => ∃ u, v = .tuple #[u, .int .i64 0] ∧ St S (.sl u 28 16 (proofM l i).length (cF dgC (proofM l i)) :: M) w' := by
  intro m
  induction m with
  | zero => intro S M w hst hG vl l hl i hi hm; omega
  | succ m ih =>
    intro S M w hst hG vl l hl i hi hm hm2
    by_cases h1 : l.length = 1
    · have hp := proofM_one (l := l) (by omega) i
      have Hp := Lib.hid hp
      clear hp
      have h11 : 1 ≤ l.length ∧ l.length ≤ 1 := by omega
      clear h1
      unfold Rets
      go_enter Tryd.func17, Tryd.ntmps17
      repeat' (first | (((with_reducible refine Sl.k_guard ?_; ((refine Sl.guard_yes rfl ?_)))) <;> (try refine nY ?_)) | ((fail_if_success (go_big_may)); (go_step)) | (((with_reducible refine Sl.k_call ?_; (refine s_qt hst (by exact qt_len evX asX inX) ?_))) <;> (try refine nY ?_)) | (with_reducible refine Sl.gate rfl ?_; (go_step)))
      go_ret2
      exact ⟨_, rfl, _, rfl, by rw [Hp.out]; exact hst.nil _ 16⟩
    · have h2 : 2 ≤ l.length := by omega
      obtain ⟨hs1, hs2⟩ := splitM_spec h2
      have hsp := fun {S M} (w : World) (hst : St S M w) => refSplit_c w hst l.length h2 (by omega)
      have hL := Lib.hid (fun h => proofM_left (i := i) h2 h)
      have hR := Lib.hid (fun h => proofM_right (i := i) h2 h)
      have hlen1 : (l.take (splitM l.length)).length ≤ m ∧ (l.take (splitM l.length)).length = splitM l.length := by rw [List.length_take]; omega
      have hlen2 : (l.drop (splitM l.length)).length ≤ m ∧ (l.drop (splitM l.length)).length = l.length - splitM l.length := by rw [List.length_drop]; omega
      have E9 : Hid ((l.drop (splitM l.length)).take (l.length - splitM l.length) = l.drop (splitM l.length)) := Lib.hid (List.take_of_length_le (by rw [List.length_drop]; exact Nat.le_refl _))
      obtain ⟨l1, e1⟩ := hlen1
      obtain ⟨l2, e2⟩ := hlen2
      have l1' : i < splitM l.length → i < (l.take (splitM l.length)).length := fun h => by omega
      have l2' : ¬ i < splitM l.length → i - splitM l.length < (l.drop (splitM l.length)).length := fun h => by omega
      have cn1 := proofM_cnt (l.take (splitM l.length)) i
      have cn2 := proofM_cnt (l.drop (splitM l.length)) (i - splitM l.length)
      have c1 : (proofM (l.take (splitM l.length)) i).length ≤ 1000 := by omega
      have c2 : (proofM (l.drop (splitM l.length)) (i - splitM l.length)).length ≤ 1000 := by omega
      clear e1 e2 h1 cn1 cn2
      generalize hk : splitM l.length = k at *
      have Hk := Lib.hid hk
      clear hk
      unfold Rets
      by_cases hik : i < k
      · go_enter Tryd.func17, Tryd.ntmps17
        repeat' (first | (((with_reducible refine Sl.k_guard ?_; ((refine Sl.guard_yes rfl ?_)))) <;> (try refine nY ?_)) | (((with_reducible refine Sl.k_call ?_; ((refine s_call (hsp _ hst) inX rfl ?_; clear hst; rintro v w ⟨rfl, hst⟩)))) <;> (try refine nY ?_) <;> (try replace hst := nH hst)) | ((fail_if_success (go_big_may)); (go_step)) | (((with_reducible refine Sl.k_call ?_; (refine s_qt hst (by exact qt_len evX asX inX) ?_))) <;> (try refine nY ?_)) | (with_reducible refine Sl.gate rfl ?_; (go_step)))
        refine s_slice (a := 0) (b := k) evX hl inX inX (.inl ⟨rfl, rfl⟩) (.inr ⟨.i64, by simp [evF, nth]⟩) (.inl rfl) (by omega) (by omega) ?_
        intro v3 hv3
        replace hv3 : RSl S v3 (l.take k) := hv3
        have hv31 := hv3.oneCell
        refine nY ?_
        repeat' (first | (((with_reducible refine Sl.k_call ?_; ((refine s_call (ih _ hst hG v3 (l.take k) hv3 i (l1' hik) l1 (by omega)) inX rfl ?_; clear hst; rintro v w ⟨u, rfl, hst⟩)))) <;> (try refine nY ?_) <;> (try replace hst := nH hst)) | ((fail_if_success (go_big_may)); (go_step)) | (with_reducible refine Sl.gate rfl ?_; (go_step)))
        have hu := sl_one hst
        refine s_slice (a := k) (b := l.length) evX hl inX inX (.inr ⟨.i64, by simp [evF, nth]⟩) (.inl ⟨rfl, rfl⟩) (.inl rfl) (by omega) (by omega) ?_
        intro v4 hv4
        rw [E9.out] at hv4
        have hv41 := hv4.oneCell
        refine nY ?_
        repeat' ((((with_reducible refine Sl.k_call ?_; ((refine s_call (refRoot_c (l.drop k).length _ hst hG v4 (l.drop k) hv4 (Nat.le_refl _) (by omega)) inX rfl ?_; clear hst; rintro v w ⟨rfl, hst⟩)))) <;> (try refine nY ?_) <;> (try replace hst := nH hst)))
        refine s_lit (vs := [dgV (rootM (l.drop k))]) hst inX inX rfl rfl (by simp [Value.cells, u8s_length, rootM_len]) rfl (by omega) (by omega) ?_
        clear hst; intro u w hst
        (try refine nY ?_)
        (try replace hst := nH hst)
        repeat' (fail)
        refine s_append (j := 0) hst evX evX SlIn.h rfl inX inX inX (by simpa [Value.cells] using u8s_one (rootM (l.drop k)).l) (by omega) (by omega) (by decide) ?_
        clear hst; intro v' w hst
        (try refine nY ?_)
        (try replace hst := nH hst)
        replace hst := hst.drop
        repeat' (((fail_if_success (go_big_may)); (go_step)))
        go_ret2
        refine ⟨_, rfl, _, rfl, ?_⟩
        rw [hL.out hik, List.length_append, cF_snoc]
        exact hst
      · have hik' : ((i : Int) - (k : Int)) = ((i - k : Nat) : Int) := by omega
        go_enter Tryd.func17, Tryd.ntmps17
        repeat' (first | (((with_reducible refine Sl.k_guard ?_; ((refine Sl.guard_yes rfl ?_)))) <;> (try refine nY ?_)) | (((with_reducible refine Sl.k_call ?_; ((refine s_call (hsp _ hst) inX rfl ?_; clear hst; rintro v w ⟨rfl, hst⟩)))) <;> (try refine nY ?_) <;> (try replace hst := nH hst)) | ((fail_if_success (go_big_may)); (go_step)) | (((with_reducible refine Sl.k_call ?_; (refine s_qt hst (by exact qt_len evX asX inX) ?_))) <;> (try refine nY ?_)) | (with_reducible refine Sl.gate rfl ?_; (go_step)))
        refine s_slice (a := k) (b := l.length) evX hl inX inX (.inr ⟨.i64, by simp [evF, nth]⟩) (.inl ⟨rfl, rfl⟩) (.inl rfl) (by omega) (by omega) ?_
        intro v3 hv3
        rw [E9.out] at hv3
        have hv31 := hv3.oneCell
        refine nY ?_
        repeat' (first | (((with_reducible refine Sl.k_call ?_; ((refine s_call (ih _ hst hG v3 (l.drop k) hv3 (i - k) (l2' hik) l2 (by omega)) inX rfl ?_; clear hst; rintro v w ⟨u, rfl, hst⟩)))) <;> (try refine nY ?_) <;> (try replace hst := nH hst)) | ((fail_if_success (go_big_may)); (go_step)) | (with_reducible refine Sl.gate rfl ?_; (go_step)))
        have HI := Lib.hid hik'
        clear hik'
        have hu := sl_one hst
        refine s_slice (a := 0) (b := k) evX hl inX inX (.inl ⟨rfl, rfl⟩) (.inr ⟨.i64, by simp [evF, nth]⟩) (.inl rfl) (by omega) (by omega) ?_
        intro v4 hv4
        replace hv4 : RSl S v4 (l.take k) := hv4
        have hv41 := hv4.oneCell
        refine nY ?_
        repeat' ((((with_reducible refine Sl.k_call ?_; ((refine s_call (refRoot_c (l.take k).length _ hst hG v4 (l.take k) hv4 (Nat.le_refl _) (by omega)) inX rfl ?_; clear hst; rintro v w ⟨rfl, hst⟩)))) <;> (try refine nY ?_) <;> (try replace hst := nH hst)))
        refine s_lit (vs := [dgV (rootM (l.take k))]) hst inX inX rfl rfl (by simp [Value.cells, u8s_length, rootM_len]) rfl (by omega) (by omega) ?_
        clear hst; intro u w hst
        (try refine nY ?_)
        (try replace hst := nH hst)
        repeat' (fail)
        refine s_append (j := 0) hst evX evX SlIn.h rfl inX inX inX (by simpa [Value.cells] using u8s_one (rootM (l.take k)).l) (by omega) (by omega) (by decide) ?_
        clear hst; intro v' w hst
        (try refine nY ?_)
        (try replace hst := nH hst)
        replace hst := hst.drop
        repeat' (((fail_if_success (go_big_may)); (go_step)))
        go_ret2
        refine ⟨_, rfl, _, rfl, ?_⟩
        rw [hR.out hik, List.length_append, cF_snoc]
        exact hst

theorem refProve0_c {S M} (w : World) (hst : St S M w) (vl : Value) (l : List Dg) (hl : RSl S vl l) (i : Int) (hi : i < 0 ∨ l.length ≤ i) (hm : l.length ≤ 1000) :
    Rets Tryd.prog 17 [vl, .int .i64 i] w fun v w' => v = .tuple #[.slice none 0 0, .int .i64 1] ∧ St S M w' := by
  unfold Rets
  by_cases h0 : i < 0
  · go_enter Tryd.func17, Tryd.ntmps17
    repeat' (first | go_skip | ((fail_if_success (go_big_may)); (go_step)) | (with_reducible refine Sl.gate rfl ?_; (go_step)))
    go_ret2
    exact ⟨_, rfl, rfl, hst⟩
  · have h1 : (l.length : Int) ≤ i := by omega
    go_enter Tryd.func17, Tryd.ntmps17
    repeat' (first | (((with_reducible refine Sl.k_guard ?_; ((refine Sl.guard_yes rfl ?_)))) <;> (try refine nY ?_)) | ((fail_if_success (go_big_may)); (go_step)) | (((with_reducible refine Sl.k_call ?_; (refine s_qt hst (by exact qt_len evX asX inX) ?_))) <;> (try refine nY ?_)) | (with_reducible refine Sl.gate rfl ?_; (go_step)))
    go_ret2
    exact ⟨_, rfl, rfl, hst⟩

theorem zeroD_len : zeroD.l.length = 16 := rfl
theorem combF_len : ∀ (f n i : Nat) (leaf : Dg) (proof : List Dg), (combF f n i leaf proof).1.l.length = 16
  | 0, _, _, _, _ => leafM_len _
  | f + 1, n, i, leaf, proof => by
    rw [combF]
    split
    · exact leafM_len _
    · split
      · exact zeroD_len
      · split
        · exact nodeM_len _ _
        · exact nodeM_len _ _
theorem combM_len (n i : Nat) (leaf : Dg) (proof : List Dg) : (combM n i leaf proof).1.l.length = 16 := combF_len _ _ _ _ _
theorem lastD_get {p : List Dg} {j : Nat} (h : j < p.length) (hj : j = p.length - 1) : p[j] = lastD p := by
  subst hj
  rw [lastD, List.getD_eq_getElem?_getD, List.getElem?_eq_getElem h]
  rfl

instance {n i : Nat} {leaf : Dg} {proof : List Dg} : LenIs (combM n i leaf proof).1.l 16 := ⟨combM_len _ _ _ _⟩
instance {a b : Dg} : LenIs (nodeM a b).l 16 := ⟨nodeM_len _ _⟩
instance {a : Dg} : LenIs (leafM a).l 16 := ⟨leafM_len _⟩
instance {l : List Dg} : LenIs (rootM l).l 16 := ⟨rootM_len _⟩
instance : LenIs zeroD.l 16 := ⟨rfl⟩

set_option maxRecDepth 8000 in
set_option maxHeartbeats 1000000 in
theorem combine_c : ∀ (m : Nat) {S M} (w : World) (_hst : St S M w) (_hG : Glob S) (n i : Nat) (_hi : i < n) (_hm : n ≤ m) (_hm2 : m ≤ 1000) (leaf : Dg) (_hf : leaf.l.length = 16) (vp : Value) (proof : List Dg) (_hp : RSl S vp proof) (_hpm : proof.length ≤ 1048576),
    Rets Tryd.prog 48 [.int .i64 (n : Int), .int .i64 (i : Int), dgV leaf, vp] w fun v w' => v = .tuple #[dgV (combM n i leaf proof).1, .bool (combM n i leaf proof).2] ∧ St S M w' := by
  intro m
  induction m with
  | zero => intro S M w hst hG n i hi hm; omega
  | succ m ih =>
    intro S M w hst hG n i hi hm hm2 leaf hf vp proof hp hpm
    haveI : LenIs leaf.l 16 := ⟨hf⟩
    have hpd := hp.dgs
    unfold Rets
    by_cases h1 : n = 1
    · subst h1
      have hE := Lib.hid (combM_one i leaf proof)
      go_enter Tryd.func48, Tryd.ntmps48
      have hb : Hid (((proof.length : Int) == 0) = decide (proof.length = 0)) := Lib.hid (by rw [Bool.eq_iff_iff]; simp)
      repeat' (first | (((with_reducible refine Sl.k_call ?_; ((refine s_call (refLeaf_c _ hst hG leaf hf) inX rfl ?_; clear hst; rintro v w ⟨rfl, hst⟩)))) <;> (try refine nY ?_) <;> (try replace hst := nH hst)) | ((fail_if_success (go_big_may)); (go_step)) | ((first | (with_reducible refine Sl.k_load ?_; (refine s_qt hst (by exact qt_loadD evX BoxIn.h inX inX) ?_)) | (with_reducible refine Sl.k_call ?_; (refine s_qt hst (by exact qt_len evX asX inX) ?_))) <;> (try refine nY ?_)) | (with_reducible refine Sl.gate rfl ?_; (go_step)) | ((((first | (with_reducible refine Sl.k_store ?_; (refine s_stD hst rfl BoxIn.h inX evX inX lenX ?_); clear hst; intro w hst) | (refine s_box hst evX rfl ?_; clear hst; intro bx w hst) | (refine s_alloc hst inX ?_; clear hst; intro bk w hst)))) <;> (try refine nY ?_) <;> (try replace hst := nH hst)))
      refine ret_two rfl (rv_D hst rfl BoxIn.h inX inX) (rv_tmp rfl) ⟨_, rfl, ?_, hst.drop.drop⟩
      rw [hE.out, ← hb.out]
      rfl
    · have h2 : 2 ≤ n := by omega
      obtain ⟨hs1, hs2⟩ := splitM_spec h2
      have hsp := fun {S M} (w : World) (hst : St S M w) => refSplit_c w hst n h2 (by omega)
      by_cases h0 : proof.length = 0
      · have hE := Lib.hid (combM_nil (i := i) h2 leaf h0)
        have h00 : ((proof.length : Int) == 0) = true := beq_iff_eq.2 (by omega)
        clear h0
        go_enter Tryd.func48, Tryd.ntmps48
        repeat' (first | ((fail_if_success (go_big_may)); (go_step)) | (((with_reducible refine Sl.k_call ?_; (refine s_qt hst (by exact qt_len evX asX inX) ?_))) <;> (try refine nY ?_)) | (with_reducible refine Sl.gate rfl ?_; (go_step)) | ((((first | (with_reducible refine Sl.k_store ?_; (refine s_store hst rfl _ BoxIn.h inX evX rfl lenOk oneOk (by simp) ?_); clear hst; intro w hst) | (refine s_box hst evX rfl ?_; clear hst; intro bx w hst) | (refine s_alloc hst inX ?_; clear hst; intro bk w hst)))) <;> (try refine nY ?_) <;> (try replace hst := nH hst)))
        have hst : St S (.box bk (u8s zeroD.l) 28 :: .box bx (u8s leaf.l) 28 :: M) w := hst
        refine ret_two rfl (rv_D hst rfl BoxIn.h inX inX) (rv_tmp rfl) ⟨_, rfl, ?_, hst.drop.drop⟩
        rw [hE.out]
        rfl
      · have h00 : ((proof.length : Int) == 0) = false := beq_eq_false_iff_ne.2 (by omega)
        have hL := Lib.hid (fun h => combM_left (i := i) h2 leaf h0 h)
        have hR := Lib.hid (fun h => combM_right (i := i) h2 leaf h0 h)
        obtain ⟨q, hq⟩ : ∃ q, proof.length = q + 1 := ⟨proof.length - 1, by omega⟩
        have hqb : q + 1 ≤ proof.length ∧ proof.length ≤ q + 1 := by omega
        have hqi : Hid (proof.take q = initD proof) := Lib.hid (by rw [initD, hq]; rfl)
        have hql := Lib.hid (fun (j : Nat) (h : j < proof.length) (e : j = q) => lastD_get h (by omega))
        have hilen : (initD proof).length ≤ 1048576 := by rw [init_len]; omega
        clear h0 hq h1
        generalize hk : splitM n = k at *
        have Hk := Lib.hid hk
        clear hk
        by_cases hik : i < k
        · go_enter Tryd.func48, Tryd.ntmps48
          repeat' (first | (((with_reducible refine Sl.k_call ?_; ((refine s_call (hsp _ hst) inX rfl ?_; clear hst; rintro v w ⟨rfl, hst⟩)))) <;> (try refine nY ?_) <;> (try replace hst := nH hst)) | ((fail_if_success (go_big_may)); (go_step)) | (((with_reducible refine Sl.k_call ?_; (refine s_qt hst (by exact qt_len evX asX inX) ?_))) <;> (try refine nY ?_)) | (with_reducible refine Sl.gate rfl ?_; (go_step)) | ((((first | (refine s_box hst evX rfl ?_; clear hst; intro bx w hst) | (refine s_alloc hst inX ?_; clear hst; intro bk w hst)))) <;> (try refine nY ?_) <;> (try replace hst := nH hst)))
          refine v_begin hst (by kernel_rfl) ?_; clear hst; intro ops; (try refine nY ?_)
          (refine t_qt 0 rfl (by kernel_rfl) rfl rfl (by exact qt_move evX) ?_) <;> (try refine nY ?_)
          (refine t_qt 1 rfl (by kernel_rfl) rfl rfl (by exact qt_move evX) ?_) <;> (try refine nY ?_)
          (refine t_qt 2 rfl (by kernel_rfl) rfl rfl (by exact qt_loadD evX BoxIn.h inX inX) ?_) <;> (try refine nY ?_)
          (refine t_qt 3 rfl (by kernel_rfl) rfl rfl (by exact qt_move evX) ?_) <;> (try refine nY ?_)
          (refine t_qt 4 rfl (by kernel_rfl) rfl rfl (by exact qt_move evX) ?_) <;> (try refine nY ?_)
          ((refine t_ex0 5 rfl (by kernel_rfl) rfl rfl (qt_slice (a := 0) (b := q) evX hp inX inX (.inl ⟨rfl, rfl⟩) (.inr ⟨.i64, by simp [evF, nth]; omega⟩) (.inl rfl) (by omega) (by omega) ) ?_; rintro  v5 hv5)) <;> (try refine nY ?_)
          (refine t_call 6 rfl (by kernel_rfl) rfl (fun S' M' w hS hM hst => ih w hst (hG.mono hS) k i hik (by omega) (by omega) leaf hf v5 (initD proof) (show RSl _ v5 (initD proof) by rw [← hqi.out]; exact hv5.mono hS) hilen) inX rfl ?_) <;> (try refine nY ?_)
          (refine t_qt 7 rfl (by kernel_rfl) rfl rfl (by exact qt_move evX) ?_) <;> (try refine nY ?_)
          (refine t_qt 8 rfl (by kernel_rfl) rfl rfl (by exact qt_extract rfl rfl) ?_) <;> (try refine nY ?_)
          (refine t_pure 9 rfl (by kernel_rfl) rfl rfl (fun _ _ => by exact qt_extract rfl rfl) ?_) <;> (try refine nY ?_)
          refine v_one 10 rfl (by kernel_rfl) ?_; intro w hst K hK; refine s_alloc hst inX ?_; clear hst; intro b10 w hst; (try refine nY ?_); (try replace hst := nH hst); refine v_next hK hst (Snap.Le.refl _) (Suf.cons (Suf.refl _)) ?_; clear hst hK K; (try clear w); (try refine nY ?_)
          refine v_one 11 rfl (by kernel_rfl) ?_; intro w hst K hK; (refine s_stD hst rfl BoxIn.h inX evX inX lenX ?_); clear hst; intro w hst; (try refine nY ?_); (try replace hst := nH hst); refine v_last hK hst ?_; clear hst hK K; (try clear w); (try refine nY ?_)
          (refine t_qt 12 rfl (by kernel_rfl) rfl rfl (by exact qt_assign evX) ?_) <;> (try refine nY ?_)
          refine v_done (by kernel_rfl) ?_; clear ops; intro w hst
          repeat' (((fail_if_success (go_big_may)); (go_step)))
          refine v_begin hst (by kernel_rfl) ?_; clear hst; intro ops; (try refine nY ?_)
          (refine t_qt 0 rfl (by kernel_rfl) rfl rfl (by exact qt_loadD evX BoxIn.h inX inX) ?_) <;> (try refine nY ?_)
          (refine t_qt 1 rfl (by kernel_rfl) rfl rfl (by exact qt_move evX) ?_) <;> (try refine nY ?_)
          (refine t_qt 2 rfl (by kernel_rfl) rfl rfl (by exact qt_move evX) ?_) <;> (try refine nY ?_)
          ((refine t_ex0 3 rfl (by kernel_rfl) rfl rfl (qt_index evX asX rfl inX inX omX omX) ?_; rintro v hp; (try simp only [Int.toNat_natCast, Int.toNat_natCast_add_one, Int.reduceToNat] at hp))) <;> (try refine nY ?_)
          (refine t_qt 4 rfl (by kernel_rfl) rfl rfl (by exact qt_ldp_flat evX asX inX inX rfl) ?_) <;> (try refine nY ?_)
          (refine t_call 5 rfl (by kernel_rfl) rfl (fun S' M' w hS hM hst => refNode_c w hst (hG.mono hS) _ _ (combM_len _ _ _ _) (hpd _ (List.getElem_mem _))) inX rfl ?_) <;> (try refine nY ?_)
          (refine t_pure 6 rfl (by kernel_rfl) rfl rfl (fun _ _ => by exact qt_move evX) ?_) <;> (try refine nY ?_)
          refine v_one 7 rfl (by kernel_rfl) ?_; intro w hst K hK; (refine s_stD hst rfl BoxIn.h inX evX inX lenX ?_); clear hst; intro w hst; (try refine nY ?_); (try replace hst := nH hst); refine v_last hK hst ?_; clear hst hK K; (try clear w); (try refine nY ?_)
          (refine t_qt 8 rfl (by kernel_rfl) rfl rfl (by exact qt_assign evX) ?_) <;> (try refine nY ?_)
          refine v_done (by kernel_rfl) ?_; clear ops; intro w hst
          repeat' (((fail_if_success (go_big_may)); (go_step)))
          refine ret_two rfl (rv_D hst rfl BoxIn.h inX inX) (rv_tmp rfl) ⟨_, rfl, ?_, hst.drop.drop.drop⟩
          rw [hL.out hik, ← hql.out _ _ (show ((proof.length : Int) - 1).toNat = q by omega)]
          rfl
        · have ihR := fun {S M} (w : World) (hst : St S M w) (hG : Glob S) (v : Value) (hv : RSl S v (initD proof)) => ih w hst hG (n - k) (i - k) (by omega) (by omega) (by omega) leaf hf v (initD proof) hv hilen
          rw [show ((n - k : Nat) : Int) = (n : Int) - (k : Int) by omega, show ((i - k : Nat) : Int) = (i : Int) - (k : Int) by omega] at ihR
          go_enter Tryd.func48, Tryd.ntmps48
          repeat' (first | (((with_reducible refine Sl.k_call ?_; ((refine s_call (hsp _ hst) inX rfl ?_; clear hst; rintro v w ⟨rfl, hst⟩)))) <;> (try refine nY ?_) <;> (try replace hst := nH hst)) | ((fail_if_success (go_big_may)); (go_step)) | (((with_reducible refine Sl.k_call ?_; (refine s_qt hst (by exact qt_len evX asX inX) ?_))) <;> (try refine nY ?_)) | (with_reducible refine Sl.gate rfl ?_; (go_step)) | ((((first | (refine s_box hst evX rfl ?_; clear hst; intro bx w hst) | (refine s_alloc hst inX ?_; clear hst; intro bk w hst)))) <;> (try refine nY ?_) <;> (try replace hst := nH hst)))
          refine v_begin hst (by kernel_rfl) ?_; clear hst; intro ops; (try refine nY ?_)
          (refine t_qt 0 rfl (by kernel_rfl) rfl rfl (by exact qt_move evX) ?_) <;> (try refine nY ?_)
          (refine t_qt 1 rfl (by kernel_rfl) rfl rfl (by exact qt_move evX) ?_) <;> (try refine nY ?_)
          (refine t_qt 2 rfl (by kernel_rfl) rfl rfl (by exact qt_sub' rfl rfl omX) ?_) <;> (try refine nY ?_)
          (refine t_qt 3 rfl (by kernel_rfl) rfl rfl (by exact qt_move evX) ?_) <;> (try refine nY ?_)
          (refine t_qt 4 rfl (by kernel_rfl) rfl rfl (by exact qt_move evX) ?_) <;> (try refine nY ?_)
          (refine t_qt 5 rfl (by kernel_rfl) rfl rfl (by exact qt_sub' rfl rfl omX) ?_) <;> (try refine nY ?_)
          (refine t_qt 6 rfl (by kernel_rfl) rfl rfl (by exact qt_loadD evX BoxIn.h inX inX) ?_) <;> (try refine nY ?_)
          (refine t_qt 7 rfl (by kernel_rfl) rfl rfl (by exact qt_move evX) ?_) <;> (try refine nY ?_)
          (refine t_qt 8 rfl (by kernel_rfl) rfl rfl (by exact qt_move evX) ?_) <;> (try refine nY ?_)
          ((refine t_ex0 9 rfl (by kernel_rfl) rfl rfl (qt_slice (a := 0) (b := q) evX hp inX inX (.inl ⟨rfl, rfl⟩) (.inr ⟨.i64, by simp [evF, nth]; omega⟩) (.inl rfl) (by omega) (by omega) ) ?_; rintro  v9 hv9)) <;> (try refine nY ?_)
          (refine t_call 10 rfl (by kernel_rfl) rfl (fun S' M' w hS hM hst => ihR w hst (hG.mono hS) v9 (show RSl _ v9 (initD proof) by rw [← hqi.out]; exact hv9.mono hS)) inX rfl ?_) <;> (try refine nY ?_)
          (refine t_qt 11 rfl (by kernel_rfl) rfl rfl (by exact qt_move evX) ?_) <;> (try refine nY ?_)
          (refine t_qt 12 rfl (by kernel_rfl) rfl rfl (by exact qt_extract rfl rfl) ?_) <;> (try refine nY ?_)
          (refine t_pure 13 rfl (by kernel_rfl) rfl rfl (fun _ _ => by exact qt_extract rfl rfl) ?_) <;> (try refine nY ?_)
          refine v_one 14 rfl (by kernel_rfl) ?_; intro w hst K hK; refine s_alloc hst inX ?_; clear hst; intro b14 w hst; (try refine nY ?_); (try replace hst := nH hst); refine v_next hK hst (Snap.Le.refl _) (Suf.cons (Suf.refl _)) ?_; clear hst hK K; (try clear w); (try refine nY ?_)
          refine v_one 15 rfl (by kernel_rfl) ?_; intro w hst K hK; (refine s_stD hst rfl BoxIn.h inX evX inX lenX ?_); clear hst; intro w hst; (try refine nY ?_); (try replace hst := nH hst); refine v_last hK hst ?_; clear hst hK K; (try clear w); (try refine nY ?_)
          (refine t_qt 16 rfl (by kernel_rfl) rfl rfl (by exact qt_assign evX) ?_) <;> (try refine nY ?_)
          refine v_done (by kernel_rfl) ?_; clear ops; intro w hst
          repeat' (((fail_if_success (go_big_may)); (go_step)))
          refine v_begin hst (by kernel_rfl) ?_; clear hst; intro ops; (try refine nY ?_)
          (refine t_qt 0 rfl (by kernel_rfl) rfl rfl (by exact qt_move evX) ?_) <;> (try refine nY ?_)
          (refine t_qt 1 rfl (by kernel_rfl) rfl rfl (by exact qt_move evX) ?_) <;> (try refine nY ?_)
          ((refine t_ex0 2 rfl (by kernel_rfl) rfl rfl (qt_index evX asX rfl inX inX omX omX) ?_; rintro v hp; (try simp only [Int.toNat_natCast, Int.toNat_natCast_add_one, Int.reduceToNat] at hp))) <;> (try refine nY ?_)
          (refine t_qt 3 rfl (by kernel_rfl) rfl rfl (by exact qt_ldp_flat evX asX inX inX rfl) ?_) <;> (try refine nY ?_)
          (refine t_qt 4 rfl (by kernel_rfl) rfl rfl (by exact qt_loadD evX BoxIn.h inX inX) ?_) <;> (try refine nY ?_)
          (refine t_call 5 rfl (by kernel_rfl) rfl (fun S' M' w hS hM hst => refNode_c w hst (hG.mono hS) _ _ (hpd _ (List.getElem_mem _)) (combM_len _ _ _ _)) inX rfl ?_) <;> (try refine nY ?_)
          (refine t_pure 6 rfl (by kernel_rfl) rfl rfl (fun _ _ => by exact qt_move evX) ?_) <;> (try refine nY ?_)
          refine v_one 7 rfl (by kernel_rfl) ?_; intro w hst K hK; (refine s_stD hst rfl BoxIn.h inX evX inX lenX ?_); clear hst; intro w hst; (try refine nY ?_); (try replace hst := nH hst); refine v_last hK hst ?_; clear hst hK K; (try clear w); (try refine nY ?_)
          (refine t_qt 8 rfl (by kernel_rfl) rfl rfl (by exact qt_assign evX) ?_) <;> (try refine nY ?_)
          refine v_done (by kernel_rfl) ?_; clear ops; intro w hst
          repeat' (((fail_if_success (go_big_may)); (go_step)))
          refine ret_two rfl (rv_D hst rfl BoxIn.h inX inX) (rv_tmp rfl) ⟨_, rfl, ?_, hst.drop.drop.drop⟩
          rw [hR.out hik, ← hql.out _ _ (show ((proof.length : Int) - 1).toNat = q by omega)]
          rfl
end Go.Proofs.YtcobalpbencboaaDoor
