/- The reference's Merkle trees and registers walked. -/
import Derived.Test.YtgihhhdeoaplhaaDoorBb
import Derived.Test.YtgihhhdeoaplhaaDoorBh
import Derived.Test.YtgihhhdeoaplhaaDoorBe
import Derived.Test.YtgihhhdeoaplhaaDoorBf
import Derived.Test.YtgihhhdeoaplhaaDoorBd

/- The reference's Merkle trees: roots. -/
--@u32
--@hgp
--@flat
--@dg
namespace Go.Proofs.YtgihhhdeoaplhaaDoor
set_option linter.unusedSimpArgs false
set_option linter.unusedVariables false
open Go.RowKit Go.Sl

theorem refDigestG {S M} (w : World) (hst : St S M w) (_hG : Glob S) (tag : Int) (h0 : 0 ≤ tag ∧ tag ≤ 255) (vp : Value) (parts : List (List UInt8)) (hp : RSl S vp parts) (hs : sizeB parts ≤ 1048576) :
    Rets Tryd.prog 59 [.int .i64 tag, vp] w fun v w' => v = .agg (u8s (dig tag parts)).toArray ∧ St S M w' := refDigest_c w hst tag h0 vp parts hp hs

set_option maxRecDepth 8000 in
set_option maxHeartbeats 400000 in
theorem refSplit_c {S M} (w : World) (hst : St S M w) (n : Nat) (h2 : 2 ≤ n) (hm : n ≤ 1048576) :
    Rets Tryd.prog 51 [.int .i64 (n : Int)] w fun v w' => v = .int .i64 (splitM n : Nat) ∧ St S M w' := by
  unfold Rets
  go_enter Tryd.func51, Tryd.ntmps51
  repeat' (((fail_if_success (go_big_may)); (go_step)))
  go_loopw [3] (fun v wr => ∃ (k : Nat), 1 ≤ k ∧ k < n ∧ v = .int .i64 k ∧ Hid (splitF n n k = splitM n) ∧ St S M wr) (fun v _ => n - (intOf v).toNat)
  case atStart => exact ⟨1, by omega, by omega, rfl, Lib.hid rfl, hst⟩
  case round =>
    clear hst
    obtain ⟨k, h1, hk, rfl, hs, hst⟩ := hrel
    by_cases hlt : 2 * k < n
    · repeat' (first | ((fail_if_success (go_big_may)); (go_step)) | (with_reducible refine Sl.gate rfl ?_; (go_step)))
      go_roundw
      case rel => exact ⟨2 * k, by omega, hlt, by go_num, Lib.hid (by rw [← hs.out, splitF_go n n k hlt (by omega)]; exact splitF_more _ _ _ _ (by omega) (by omega) (by omega)), hst⟩
      case measure => simp [intOf]; omega
    · repeat' (first | ((fail_if_success (go_big_may)); (go_step)) | (with_reducible refine Sl.gate rfl ?_; (go_step)))
      go_ret
      refine ⟨_, rfl, ?_, hst⟩
      rw [← hs.out, splitF_stop hlt]
      rfl

set_option maxRecDepth 8000 in
set_option maxHeartbeats 400000 in
theorem refLeaf_c {S M} (w : World) (hst : St S M w) (hG : Glob S) (d : Dg) (hd : d.l.length = 16) :
    Rets Tryd.prog 50 [dgV d] w fun v w' => v = dgV (leafM d) ∧ St S M w' := by
  unfold Rets
  go_enter Tryd.func50, Tryd.ntmps50
  repeat' ((fail_if_success (with_reducible show Code.wp _ (Code.region 1 _ _) _ _ _)); first | ((fail_if_success (go_big_may)); (go_step)) | ((((first | (refine s_box hst evX rfl ?_; clear hst; intro bx w hst) | (refine s_alloc hst inX ?_; clear hst; intro bk w hst)))) <;> (try refine nY ?_) <;> (try replace hst := nH hst)))
  obtain ⟨S1, hS1, hst, hpd⟩ := dg_box hst.swap hd
  refine wp_region_lit ?_
  refine s_ex hst (qt_arrSliceP (a := 0) (b := 16) evX hpd inX inX (.inl ⟨rfl, rfl⟩) (.inl ⟨rfl, rfl⟩) (by omega) (by omega) (by unfold maxLen; omega)) ?_
  rintro v hv
  rw [List.drop_zero, List.take_of_length_le (by omega)] at hv
  have hv1 := hv.oneCell
  refine nY ?_
  refine s_lit (vs := [v]) hst inX inX rfl rfl (by simp [cells_size1 hv1]) rfl (by omega) (by omega) ?_
  clear hst; intro x w hst
  simp only [List.map_cons, List.map_nil, cells_one hv1, List.flatten_cons, List.flatten_nil, List.append_nil] at hst
  obtain ⟨S2, hS2, hst, hx⟩ := lit_p1 hst hv
  refine nY ?_
  repeat' (first | (((with_reducible refine Sl.k_call ?_; ((refine s_call (refDigestG _ hst ((hG.mono hS1).mono hS2) 1 (by omega) _ _ hx (by simp [sizeB]; omega)) inX rfl ?_; clear hst; rintro v w ⟨rfl, hst⟩)))) <;> (try refine nY ?_) <;> (try replace hst := nH hst)) | ((fail_if_success (go_big_may)); (go_step)) | (((((with_reducible refine Sl.k_store ?_; (refine s_stD hst rfl BoxIn.h inX evX inX lenX ?_); clear hst; intro w hst)))) <;> (try refine nY ?_) <;> (try replace hst := nH hst)))
  exact ret_D rfl hst rfl BoxIn.h inX inX ⟨_, rfl, rfl, St.weaken (hS1.trans hS2) hst.drop⟩

set_option maxRecDepth 8000 in
set_option maxHeartbeats 400000 in
theorem refNode_c {S M} (w : World) (hst : St S M w) (hG : Glob S) (a b : Dg) (ha : a.l.length = 16) (hb : b.l.length = 16) :
    Rets Tryd.prog 54 [dgV a, dgV b] w fun v w' => v = dgV (nodeM a b) ∧ St S M w' := by
  unfold Rets
  go_enter Tryd.func54, Tryd.ntmps54
  repeat' ((fail_if_success (with_reducible show Code.wp _ (Code.region 1 _ _) _ _ _)); first | ((fail_if_success (go_big_may)); (go_step)) | ((((first | (refine s_box hst evX rfl ?_; clear hst; intro bx w hst) | (refine s_alloc hst inX ?_; clear hst; intro bk w hst)))) <;> (try refine nY ?_) <;> (try replace hst := nH hst)))
  obtain ⟨S1, hS1, hst, hpb⟩ := dg_box (hst.perm (List.Perm.swap _ _ _)) hb
  obtain ⟨S2, hS2, hst, hpa⟩ := dg_box hst.swap ha
  replace hpb := hpb.mono hS2
  have hG2 := (hG.mono hS1).mono hS2
  refine v_begin hst (by kernel_rfl) ?_; clear hst; intro ops; (try refine nY ?_)
  ((refine t_ex 0 rfl (by kernel_rfl) rfl rfl (fun w hst => qt_arrSliceP (a := 0) (b := 16) evX hpa inX inX (.inl ⟨rfl, rfl⟩) (.inl ⟨rfl, rfl⟩) (by omega) (by omega) (by unfold maxLen; omega) ) ?_; rintro  v5 hv5)) <;> (try refine nY ?_)
  ((refine t_ex 1 rfl (by kernel_rfl) rfl rfl (fun w hst => qt_arrSliceP (a := 0) (b := 16) evX hpb inX inX (.inl ⟨rfl, rfl⟩) (.inl ⟨rfl, rfl⟩) (by omega) (by omega) (by unfold maxLen; omega) ) ?_; rintro  v6 hv6)) <;> (try refine nY ?_)
  refine v_one 2 rfl (by kernel_rfl) ?_; intro w hst K hK; (rw [List.drop_zero, List.take_of_length_le (by omega)] at hv5 hv6; refine s_lit (vs := [v5, v6]) hst inX inX rfl rfl (by simp [cells_size1 hv5.oneCell, cells_size1 hv6.oneCell]) rfl (by omega) (by omega) ?_; clear hst; intro x2 w hst; simp only [List.map_cons, List.map_nil, cells_one hv5.oneCell, cells_one hv6.oneCell, List.flatten_cons, List.flatten_nil, List.append_nil, List.cons_append, List.nil_append] at hst; obtain ⟨S3, hS3, hst, hx⟩ := lit_p2 hst hv5 hv6); (try refine nY ?_); (try replace hst := nH hst); refine v_next hK hst hS3 (Suf.refl _) ?_; clear hst hK K; (try clear w); (try refine nY ?_)
  (refine t_call 3 rfl (by kernel_rfl) rfl (fun S' M' w hS hM hst => refDigestG w hst ((hG2.mono hS3).mono hS) 2 (by omega) _ _ (hx.mono hS) (by simp [sizeB]; omega)) inX rfl ?_) <;> (try refine nY ?_)
  refine v_one 4 rfl (by kernel_rfl) ?_; intro w hst K hK; (refine s_stD hst rfl BoxIn.h inX evX inX lenX ?_); clear hst; intro w hst; (try refine nY ?_); (try replace hst := nH hst); refine v_last hK hst ?_; clear hst hK K; (try clear w); (try refine nY ?_)
  refine v_done (by kernel_rfl) ?_; clear ops; intro w hst
  repeat' (((fail_if_success (go_big_may)); (go_step)))
  exact ret_D rfl hst rfl BoxIn.h inX inX ⟨_, rfl, rfl, St.weaken ((hS1.trans hS2).trans hS3) hst.drop⟩

set_option maxRecDepth 8000 in
set_option maxHeartbeats 400000 in
theorem refRoot0_c {S M} (w : World) (hst : St S M w) (hG : Glob S) (vl : Value) (l : List Dg) (hl : RSl S vl l) (h0 : l.length = 0) :
    Rets Tryd.prog 52 [vl] w fun v w' => v = dgV (rootM l) ∧ St S M w' := by
  unfold Rets
  obtain rfl := List.eq_nil_of_length_eq_zero h0
  have hnil : RSl S (.slice none 0 0) ([] : List (List UInt8)) := .inl ⟨none, 0, rfl, rfl, by unfold maxLen; omega⟩
  go_enter Tryd.func52, Tryd.ntmps52
  repeat' (first | (((with_reducible refine Sl.k_call ?_; ((refine s_call (refDigestG _ hst hG 1 (by omega) _ _ hnil (by simp [sizeB])) inX rfl ?_; clear hst; rintro v w ⟨rfl, hst⟩)))) <;> (try refine nY ?_) <;> (try replace hst := nH hst)) | ((fail_if_success (go_big_may)); (go_step)) | (((with_reducible refine Sl.k_call ?_; (refine s_qt hst (by exact qt_len evX asX inX) ?_))) <;> (try refine nY ?_)) | (with_reducible refine Sl.gate rfl ?_; (go_step)) | ((((first | (with_reducible refine Sl.k_store ?_; (refine s_stD hst rfl BoxIn.h inX evX inX lenX ?_); clear hst; intro w hst) | (refine s_alloc hst inX ?_; clear hst; intro bk w hst)))) <;> (try refine nY ?_) <;> (try replace hst := nH hst)))
  exact ret_D rfl hst rfl BoxIn.h inX inX ⟨_, rfl, rfl, hst.drop⟩

set_option maxRecDepth 8000 in
set_option maxHeartbeats 400000 in
theorem refRoot1_c {S M} (w : World) (hst : St S M w) (hG : Glob S) (vl : Value) (l : List Dg) (hl : RSl S vl l) (h1 : l.length = 1) :
    Rets Tryd.prog 52 [vl] w fun v w' => v = dgV (rootM l) ∧ St S M w' := by
  unfold Rets
  have h11 : 1 ≤ l.length ∧ l.length ≤ 1 := by omega
  have h0l : 0 < l.length := by omega
  clear h1
  have hd := hl.dgs (l[0]'h0l) (List.getElem_mem h0l)
  have hE : Hid (rootM l = leafM (l[0]'h0l)) := Lib.hid (by
    obtain ⟨d, rfl⟩ := List.length_eq_one_iff.1 (show l.length = 1 by omega)
    rfl)
  go_enter Tryd.func52, Tryd.ntmps52
  repeat' (first | (((with_reducible refine Sl.k_call ?_; ((refine s_call (refLeaf_c _ hst hG l[0] hd) inX rfl ?_; clear hst; rintro v w ⟨rfl, hst⟩)))) <;> (try refine nY ?_) <;> (try replace hst := nH hst)) | ((fail_if_success (go_big_may)); (go_step)) | ((first | (with_reducible refine Sl.k_load ?_; (refine s_qt hst (by exact qt_ldp_flat evX asX inX inX rfl) ?_)) | (with_reducible refine Sl.k_index ?_; (((refine s_ex hst (qt_index evX asX rfl inX inX omX omX) ?_); rintro v hp; (try simp only [Int.toNat_natCast, Int.toNat_natCast_add_one, Int.reduceToNat] at hp)))) | (with_reducible refine Sl.k_call ?_; (refine s_qt hst (by exact qt_len evX asX inX) ?_))) <;> (try refine nY ?_)) | (with_reducible refine Sl.gate rfl ?_; (go_step)) | ((((first | (with_reducible refine Sl.k_store ?_; (refine s_stD hst rfl BoxIn.h inX evX inX lenX ?_); clear hst; intro w hst) | (refine s_alloc hst inX ?_; clear hst; intro bk w hst)))) <;> (try refine nY ?_) <;> (try replace hst := nH hst)))
  exact ret_D rfl hst rfl BoxIn.h inX inX ⟨_, rfl, by rw [hE.out], hst.drop⟩

set_option maxRecDepth 8000 in
set_option maxHeartbeats 1000000 in
theorem refRoot_c : ∀ (m : Nat) {S M} (w : World) (_hst : St S M w) (_hG : Glob S) (vl : Value) (l : List Dg) (_hl : RSl S vl l) (_hm : l.length ≤ m) (_hm2 : m ≤ 1048576),
    Rets Tryd.prog 52 [vl] w fun v w' => v = dgV (rootM l) ∧ St S M w' := by
  intro m
  induction m with
  | zero => exact fun w hst hG vl l hl h0 h1 => refRoot0_c w hst hG vl l hl (by omega)
  | succ m ih =>
    intro S M w hst hG vl l hl hm hm2
    by_cases h0 : l.length = 0
    · exact refRoot0_c w hst hG vl l hl h0
    · by_cases h1 : l.length = 1
      · exact refRoot1_c w hst hG vl l hl h1
      · have h2 : 2 ≤ l.length := by omega
        obtain ⟨hs1, hs2⟩ := splitM_spec h2
        have hE := Lib.hid (rootM_two h2)
        have hlen1 : (l.take (splitM l.length)).length ≤ m := by rw [List.length_take]; omega
        have hlen2 : (l.drop (splitM l.length)).length ≤ m := by rw [List.length_drop]; omega
        have hsp := fun {S M} (w : World) (hst : St S M w) => refSplit_c w hst l.length h2 (by omega)
        have hl20 : l.length ≤ 1048576 := by omega
        have e9 : (l.drop (splitM l.length)).take (l.length - splitM l.length) = l.drop (splitM l.length) := List.take_of_length_le (by rw [List.length_drop]; exact Nat.le_refl _)
        have E9 := Lib.hid e9
        clear h0 h1 e9
        generalize hk : splitM l.length = k at *
        have Hk := Lib.hid hk
        clear hk
        unfold Rets
        go_enter Tryd.func52, Tryd.ntmps52
        repeat' (first | (((with_reducible refine Sl.k_call ?_; ((refine s_call (hsp _ hst) inX rfl ?_; clear hst; rintro v w ⟨rfl, hst⟩)))) <;> (try refine nY ?_) <;> (try replace hst := nH hst)) | ((fail_if_success (go_big_may)); (go_step)) | (((with_reducible refine Sl.k_call ?_; (refine s_qt hst (by exact qt_len evX asX inX) ?_))) <;> (try refine nY ?_)) | (with_reducible refine Sl.gate rfl ?_; (go_step)) | (((((refine s_alloc hst inX ?_; clear hst; intro bk w hst)))) <;> (try refine nY ?_) <;> (try replace hst := nH hst)))
        refine v_begin hst (by kernel_rfl) ?_; clear hst; intro ops; (try refine nY ?_)
        (refine t_qt 0 rfl (by kernel_rfl) rfl rfl (by exact qt_move evX) ?_) <;> (try refine nY ?_)
        (refine t_qt 1 rfl (by kernel_rfl) rfl rfl (by exact qt_move evX) ?_) <;> (try refine nY ?_)
        ((refine t_ex 2 rfl (by kernel_rfl) rfl rfl (fun w hst => qt_slice (a := 0) (b := k) evX hl inX inX (.inl ⟨rfl, rfl⟩) (.inr ⟨.i64, by simp [evF, nth]⟩) (.inl rfl) (by omega) (by omega) ) ?_; rintro  v2 hv2)) <;> (try refine nY ?_)
        (refine t_call 3 rfl (by kernel_rfl) rfl (fun S' M' w hS hM hst => ih w hst (hG.mono hS) v2 (l.take k) (hv2.mono hS) hlen1 (by omega)) inX rfl ?_) <;> (try refine nY ?_)
        (refine t_qt 4 rfl (by kernel_rfl) rfl rfl (by exact qt_move evX) ?_) <;> (try refine nY ?_)
        (refine t_qt 5 rfl (by kernel_rfl) rfl rfl (by exact qt_move evX) ?_) <;> (try refine nY ?_)
        ((refine t_ex 6 rfl (by kernel_rfl) rfl rfl (fun w hst => qt_slice (a := k) (b := l.length) evX hl inX inX (.inr ⟨.i64, by simp [evF, nth]⟩) (.inl ⟨rfl, rfl⟩) (.inl rfl) (by omega) (by omega) ) ?_; rintro  v6 hv6)) <;> (try refine nY ?_)
        (refine t_call 7 rfl (by kernel_rfl) rfl (fun S' M' w hS hM hst => ih w hst (hG.mono hS) v6 (l.drop k) (by have := hv6.mono hS; rwa [E9.out] at this) hlen2 (by omega)) inX rfl ?_) <;> (try refine nY ?_)
        (refine t_call 8 rfl (by kernel_rfl) rfl (fun S' M' w hS hM hst => refNode_c w hst (hG.mono hS) _ _ (rootM_len _) (rootM_len _)) inX rfl ?_) <;> (try refine nY ?_)
        refine v_one 9 rfl (by kernel_rfl) ?_; intro w hst K hK; (refine s_stD hst rfl BoxIn.h inX evX inX lenX ?_); clear hst; intro w hst; (try refine nY ?_); (try replace hst := nH hst); refine v_last hK hst ?_; clear hst hK K; (try clear w); (try refine nY ?_)
        refine v_done (by kernel_rfl) ?_; clear ops; intro w hst
        repeat' (((fail_if_success (go_big_may)); (go_step)))
        exact ret_D rfl hst rfl BoxIn.h inX inX ⟨_, rfl, by rw [hE.out], hst.drop⟩
end Go.Proofs.YtgihhhdeoaplhaaDoor

/- The reference's Merkle trees: proofs and their verification. -/
--@u32
--@hgp
--@flat
--@dg
--@ex0
namespace Go.Proofs.YtgihhhdeoaplhaaDoor
set_option linter.unusedSimpArgs false
set_option linter.unusedVariables false
open Go.RowKit Go.Sl

set_option maxRecDepth 8000 in
set_option maxHeartbeats 1000000 in
theorem refProve_c : ∀ (m : Nat) {S M} (w : World) (_hst : St S M w) (_hG : Glob S) (vl : Value) (l : List Dg) (_hl : RSl S vl l) (i : Nat) (_hi : i < l.length) (_hm : l.length ≤ m) (_hm2 : m ≤ 1000),
    Rets Tryd.prog 32 [vl, .int .i64 (i : Int)] w fun v w' => ∃ u, v = .tuple #[u, .int .i64 0] ∧ St S (.sl u 23 16 (proofM l i).length (cF dgC (proofM l i)) :: M) w' := by
  intro m
  induction m with
  | zero => intro S M w hst hG vl l hl i hi hm; omega
  | succ m ih =>
    intro S M w hst hG vl l hl i hi hm hm2
    by_cases h1 : l.length = 1
    · have hp := proofM_one (l := l) (by omega) i
      have Hp := Lib.hid hp
      clear hp
      have h11 : 1 ≤ l.length ∧ l.length ≤ 1 := by omega
      clear h1
      unfold Rets
      go_enter Tryd.func32, Tryd.ntmps32
      repeat' (first | (((with_reducible refine Sl.k_guard ?_; ((refine Sl.guard_yes rfl ?_)))) <;> (try refine nY ?_)) | ((fail_if_success (go_big_may)); (go_step)) | (((with_reducible refine Sl.k_call ?_; (refine s_qt hst (by exact qt_len evX asX inX) ?_))) <;> (try refine nY ?_)) | (with_reducible refine Sl.gate rfl ?_; (go_step)))
      go_ret2
      exact ⟨_, rfl, _, rfl, by rw [Hp.out]; exact hst.nil _ 16⟩
    · have h2 : 2 ≤ l.length := by omega
      obtain ⟨hs1, hs2⟩ := splitM_spec h2
      have hsp := fun {S M} (w : World) (hst : St S M w) => refSplit_c w hst l.length h2 (by omega)
      have hL := Lib.hid (fun h => proofM_left (i := i) h2 h)
      have hR := Lib.hid (fun h => proofM_right (i := i) h2 h)
      have hlen1 : (l.take (splitM l.length)).length ≤ m ∧ (l.take (splitM l.length)).length = splitM l.length := by rw [List.length_take]; omega
      have hlen2 : (l.drop (splitM l.length)).length ≤ m ∧ (l.drop (splitM l.length)).length = l.length - splitM l.length := by rw [List.length_drop]; omega
      have E9 : Hid ((l.drop (splitM l.length)).take (l.length - splitM l.length) = l.drop (splitM l.length)) := Lib.hid (List.take_of_length_le (by rw [List.length_drop]; exact Nat.le_refl _))
      obtain ⟨l1, e1⟩ := hlen1
      obtain ⟨l2, e2⟩ := hlen2
      have l1' : i < splitM l.length → i < (l.take (splitM l.length)).length := fun h => by omega
      have l2' : ¬ i < splitM l.length → i - splitM l.length < (l.drop (splitM l.length)).length := fun h => by omega
      have cn1 := proofM_cnt (l.take (splitM l.length)) i
      have cn2 := proofM_cnt (l.drop (splitM l.length)) (i - splitM l.length)
      have c1 : (proofM (l.take (splitM l.length)) i).length ≤ 1000 := by omega
      have c2 : (proofM (l.drop (splitM l.length)) (i - splitM l.length)).length ≤ 1000 := by omega
      clear e1 e2 h1 cn1 cn2
      generalize hk : splitM l.length = k at *
      have Hk := Lib.hid hk
      clear hk
      unfold Rets
      by_cases hik : i < k
      · go_enter Tryd.func32, Tryd.ntmps32
        repeat' (first | (((with_reducible refine Sl.k_guard ?_; ((refine Sl.guard_yes rfl ?_)))) <;> (try refine nY ?_)) | (((with_reducible refine Sl.k_call ?_; ((refine s_call (hsp _ hst) inX rfl ?_; clear hst; rintro v w ⟨rfl, hst⟩)))) <;> (try refine nY ?_) <;> (try replace hst := nH hst)) | ((fail_if_success (go_big_may)); (go_step)) | (((with_reducible refine Sl.k_call ?_; (refine s_qt hst (by exact qt_len evX asX inX) ?_))) <;> (try refine nY ?_)) | (with_reducible refine Sl.gate rfl ?_; (go_step)))
        refine s_slice (a := 0) (b := k) evX hl inX inX (.inl ⟨rfl, rfl⟩) (.inr ⟨.i64, by simp [evF, nth]⟩) (.inl rfl) (by omega) (by omega) ?_
        intro v3 hv3
        replace hv3 : RSl S v3 (l.take k) := hv3
        have hv31 := hv3.oneCell
        refine nY ?_
        repeat' (first | (((with_reducible refine Sl.k_call ?_; ((refine s_call (ih _ hst hG v3 (l.take k) hv3 i (l1' hik) l1 (by omega)) inX rfl ?_; clear hst; rintro v w ⟨u, rfl, hst⟩)))) <;> (try refine nY ?_) <;> (try replace hst := nH hst)) | ((fail_if_success (go_big_may)); (go_step)) | (with_reducible refine Sl.gate rfl ?_; (go_step)))
        have hu := sl_one hst
        refine s_slice (a := k) (b := l.length) evX hl inX inX (.inr ⟨.i64, by simp [evF, nth]⟩) (.inl ⟨rfl, rfl⟩) (.inl rfl) (by omega) (by omega) ?_
        intro v4 hv4
        rw [E9.out] at hv4
        have hv41 := hv4.oneCell
        refine nY ?_
        repeat' ((((with_reducible refine Sl.k_call ?_; ((refine s_call (refRoot_c (l.drop k).length _ hst hG v4 (l.drop k) hv4 (Nat.le_refl _) (by omega)) inX rfl ?_; clear hst; rintro v w ⟨rfl, hst⟩)))) <;> (try refine nY ?_) <;> (try replace hst := nH hst)))
        refine s_lit (vs := [dgV (rootM (l.drop k))]) hst inX inX rfl rfl (by simp [Value.cells, u8s_length, rootM_len]) rfl (by omega) (by omega) ?_
        clear hst; intro u w hst
        (try refine nY ?_)
        (try replace hst := nH hst)
        repeat' (fail)
        refine s_append (j := 0) hst evX evX SlIn.h rfl inX inX inX (by simpa [Value.cells] using u8s_one (rootM (l.drop k)).l) (by omega) (by omega) (by decide) ?_
        clear hst; intro v' w hst
        (try refine nY ?_)
        (try replace hst := nH hst)
        replace hst := hst.drop
        repeat' (((fail_if_success (go_big_may)); (go_step)))
        go_ret2
        refine ⟨_, rfl, _, rfl, ?_⟩
        rw [hL.out hik, List.length_append, cF_snoc]
        exact hst
      · have hik' : ((i : Int) - (k : Int)) = ((i - k : Nat) : Int) := by omega
        go_enter Tryd.func32, Tryd.ntmps32
        repeat' (first | (((with_reducible refine Sl.k_guard ?_; ((refine Sl.guard_yes rfl ?_)))) <;> (try refine nY ?_)) | (((with_reducible refine Sl.k_call ?_; ((refine s_call (hsp _ hst) inX rfl ?_; clear hst; rintro v w ⟨rfl, hst⟩)))) <;> (try refine nY ?_) <;> (try replace hst := nH hst)) | ((fail_if_success (go_big_may)); (go_step)) | (((with_reducible refine Sl.k_call ?_; (refine s_qt hst (by exact qt_len evX asX inX) ?_))) <;> (try refine nY ?_)) | (with_reducible refine Sl.gate rfl ?_; (go_step)))
        refine s_slice (a := k) (b := l.length) evX hl inX inX (.inr ⟨.i64, by simp [evF, nth]⟩) (.inl ⟨rfl, rfl⟩) (.inl rfl) (by omega) (by omega) ?_
        intro v3 hv3
        rw [E9.out] at hv3
        have hv31 := hv3.oneCell
        refine nY ?_
        repeat' (first | (((with_reducible refine Sl.k_call ?_; ((refine s_call (ih _ hst hG v3 (l.drop k) hv3 (i - k) (l2' hik) l2 (by omega)) inX rfl ?_; clear hst; rintro v w ⟨u, rfl, hst⟩)))) <;> (try refine nY ?_) <;> (try replace hst := nH hst)) | ((fail_if_success (go_big_may)); (go_step)) | (with_reducible refine Sl.gate rfl ?_; (go_step)))
        have HI := Lib.hid hik'
        clear hik'
        have hu := sl_one hst
        refine s_slice (a := 0) (b := k) evX hl inX inX (.inl ⟨rfl, rfl⟩) (.inr ⟨.i64, by simp [evF, nth]⟩) (.inl rfl) (by omega) (by omega) ?_
        intro v4 hv4
        replace hv4 : RSl S v4 (l.take k) := hv4
        have hv41 := hv4.oneCell
        refine nY ?_
        repeat' ((((with_reducible refine Sl.k_call ?_; ((refine s_call (refRoot_c (l.take k).length _ hst hG v4 (l.take k) hv4 (Nat.le_refl _) (by omega)) inX rfl ?_; clear hst; rintro v w ⟨rfl, hst⟩)))) <;> (try refine nY ?_) <;> (try replace hst := nH hst)))
        refine s_lit (vs := [dgV (rootM (l.take k))]) hst inX inX rfl rfl (by simp [Value.cells, u8s_length, rootM_len]) rfl (by omega) (by omega) ?_
        clear hst; intro u w hst
        (try refine nY ?_)
        (try replace hst := nH hst)
        repeat' (fail)
        refine s_append (j := 0) hst evX evX SlIn.h rfl inX inX inX (by simpa [Value.cells] using u8s_one (rootM (l.take k)).l) (by omega) (by omega) (by decide) ?_
        clear hst; intro v' w hst
        (try refine nY ?_)
        (try replace hst := nH hst)
        replace hst := hst.drop
        repeat' (((fail_if_success (go_big_may)); (go_step)))
        go_ret2
        refine ⟨_, rfl, _, rfl, ?_⟩
        rw [hR.out hik, List.length_append, cF_snoc]
        exact hst

theorem refProve0_c {S M} (w : World) (hst : St S M w) (vl : Value) (l : List Dg) (hl : RSl S vl l) (i : Int) (hi : i < 0 ∨ l.length ≤ i) (hm : l.length ≤ 1000) :
    Rets Tryd.prog 32 [vl, .int .i64 i] w fun v w' => v = .tuple #[.slice none 0 0, .int .i64 1] ∧ St S M w' := by
  unfold Rets
  by_cases h0 : i < 0
  · go_enter Tryd.func32, Tryd.ntmps32
    repeat' (first | go_skip | ((fail_if_success (go_big_may)); (go_step)) | (with_reducible refine Sl.gate rfl ?_; (go_step)))
    go_ret2
    exact ⟨_, rfl, rfl, hst⟩
  · have h1 : (l.length : Int) ≤ i := by omega
    go_enter Tryd.func32, Tryd.ntmps32
    repeat' (first | (((with_reducible refine Sl.k_guard ?_; ((refine Sl.guard_yes rfl ?_)))) <;> (try refine nY ?_)) | ((fail_if_success (go_big_may)); (go_step)) | (((with_reducible refine Sl.k_call ?_; (refine s_qt hst (by exact qt_len evX asX inX) ?_))) <;> (try refine nY ?_)) | (with_reducible refine Sl.gate rfl ?_; (go_step)))
    go_ret2
    exact ⟨_, rfl, rfl, hst⟩

theorem zeroD_len : zeroD.l.length = 16 := rfl
theorem combF_len : ∀ (f n i : Nat) (leaf : Dg) (proof : List Dg), (combF f n i leaf proof).1.l.length = 16
  | 0, _, _, _, _ => leafM_len _
  | f + 1, n, i, leaf, proof => by
    rw [combF]
    split
    · exact leafM_len _
    · split
      · exact zeroD_len
      · split
        · exact nodeM_len _ _
        · exact nodeM_len _ _
theorem combM_len (n i : Nat) (leaf : Dg) (proof : List Dg) : (combM n i leaf proof).1.l.length = 16 := combF_len _ _ _ _ _
theorem lastD_get {p : List Dg} {j : Nat} (h : j < p.length) (hj : j = p.length - 1) : p[j] = lastD p := by
  subst hj
  rw [lastD, List.getD_eq_getElem?_getD, List.getElem?_eq_getElem h]
  rfl

instance {n i : Nat} {leaf : Dg} {proof : List Dg} : LenIs (combM n i leaf proof).1.l 16 := ⟨combM_len _ _ _ _⟩
instance {a b : Dg} : LenIs (nodeM a b).l 16 := ⟨nodeM_len _ _⟩
instance {a : Dg} : LenIs (leafM a).l 16 := ⟨leafM_len _⟩
instance {l : List Dg} : LenIs (rootM l).l 16 := ⟨rootM_len _⟩
instance : LenIs zeroD.l 16 := ⟨rfl⟩

set_option maxRecDepth 8000 in
set_option maxHeartbeats 1000000 in
theorem combine_c : ∀ (m : Nat) {S M} (w : World) (_hst : St S M w) (_hG : Glob S) (n i : Nat) (_hi : i < n) (_hm : n ≤ m) (_hm2 : m ≤ 1000) (leaf : Dg) (_hf : leaf.l.length = 16) (vp : Value) (proof : List Dg) (_hp : RSl S vp proof) (_hpm : proof.length ≤ 1048576),
    Rets Tryd.prog 53 [.int .i64 (n : Int), .int .i64 (i : Int), dgV leaf, vp] w fun v w' => v = .tuple #[dgV (combM n i leaf proof).1, .bool (combM n i leaf proof).2] ∧ St S M w' := by
  intro m
  induction m with
  | zero => intro S M w hst hG n i hi hm; omega
  | succ m ih =>
    intro S M w hst hG n i hi hm hm2 leaf hf vp proof hp hpm
    haveI : LenIs leaf.l 16 := ⟨hf⟩
    have hpd := hp.dgs
    unfold Rets
    by_cases h1 : n = 1
    · subst h1
      have hE := Lib.hid (combM_one i leaf proof)
      go_enter Tryd.func53, Tryd.ntmps53
      have hb : Hid (((proof.length : Int) == 0) = decide (proof.length = 0)) := Lib.hid (by rw [Bool.eq_iff_iff]; simp)
      repeat' (first | (((with_reducible refine Sl.k_call ?_; ((refine s_call (refLeaf_c _ hst hG leaf hf) inX rfl ?_; clear hst; rintro v w ⟨rfl, hst⟩)))) <;> (try refine nY ?_) <;> (try replace hst := nH hst)) | ((fail_if_success (go_big_may)); (go_step)) | ((first | (with_reducible refine Sl.k_load ?_; (refine s_qt hst (by exact qt_loadD evX BoxIn.h inX inX) ?_)) | (with_reducible refine Sl.k_call ?_; (refine s_qt hst (by exact qt_len evX asX inX) ?_))) <;> (try refine nY ?_)) | (with_reducible refine Sl.gate rfl ?_; (go_step)) | ((((first | (with_reducible refine Sl.k_store ?_; (refine s_stD hst rfl BoxIn.h inX evX inX lenX ?_); clear hst; intro w hst) | (refine s_box hst evX rfl ?_; clear hst; intro bx w hst) | (refine s_alloc hst inX ?_; clear hst; intro bk w hst)))) <;> (try refine nY ?_) <;> (try replace hst := nH hst)))
      refine ret_two rfl (rv_D hst rfl BoxIn.h inX inX) (rv_tmp rfl) ⟨_, rfl, ?_, hst.drop.drop⟩
      rw [hE.out, ← hb.out]
      rfl
    · have h2 : 2 ≤ n := by omega
      obtain ⟨hs1, hs2⟩ := splitM_spec h2
      have hsp := fun {S M} (w : World) (hst : St S M w) => refSplit_c w hst n h2 (by omega)
      by_cases h0 : proof.length = 0
      · have hE := Lib.hid (combM_nil (i := i) h2 leaf h0)
        have h00 : ((proof.length : Int) == 0) = true := beq_iff_eq.2 (by omega)
        clear h0
        go_enter Tryd.func53, Tryd.ntmps53
        repeat' (first | ((fail_if_success (go_big_may)); (go_step)) | (((with_reducible refine Sl.k_call ?_; (refine s_qt hst (by exact qt_len evX asX inX) ?_))) <;> (try refine nY ?_)) | (with_reducible refine Sl.gate rfl ?_; (go_step)) | ((((first | (with_reducible refine Sl.k_store ?_; (refine s_store hst rfl _ BoxIn.h inX evX rfl lenOk oneOk (by simp) ?_); clear hst; intro w hst) | (refine s_box hst evX rfl ?_; clear hst; intro bx w hst) | (refine s_alloc hst inX ?_; clear hst; intro bk w hst)))) <;> (try refine nY ?_) <;> (try replace hst := nH hst)))
        have hst : St S (.box bk (u8s zeroD.l) 23 :: .box bx (u8s leaf.l) 23 :: M) w := hst
        refine ret_two rfl (rv_D hst rfl BoxIn.h inX inX) (rv_tmp rfl) ⟨_, rfl, ?_, hst.drop.drop⟩
        rw [hE.out]
        rfl
      · have h00 : ((proof.length : Int) == 0) = false := beq_eq_false_iff_ne.2 (by omega)
        have hL := Lib.hid (fun h => combM_left (i := i) h2 leaf h0 h)
        have hR := Lib.hid (fun h => combM_right (i := i) h2 leaf h0 h)
        obtain ⟨q, hq⟩ : ∃ q, proof.length = q + 1 := ⟨proof.length - 1, by omega⟩
        have hqb : q + 1 ≤ proof.length ∧ proof.length ≤ q + 1 := by omega
        have hqi : Hid (proof.take q = initD proof) := Lib.hid (by rw [initD, hq]; rfl)
        have hql := Lib.hid (fun (j : Nat) (h : j < proof.length) (e : j = q) => lastD_get h (by omega))
        have hilen : (initD proof).length ≤ 1048576 := by rw [init_len]; omega
        clear h0 hq h1
        generalize hk : splitM n = k at *
        have Hk := Lib.hid hk
        clear hk
        by_cases hik : i < k
        · go_enter Tryd.func53, Tryd.ntmps53
          repeat' (first | (((with_reducible refine Sl.k_call ?_; ((refine s_call (hsp _ hst) inX rfl ?_; clear hst; rintro v w ⟨rfl, hst⟩)))) <;> (try refine nY ?_) <;> (try replace hst := nH hst)) | ((fail_if_success (go_big_may)); (go_step)) | (((with_reducible refine Sl.k_call ?_; (refine s_qt hst (by exact qt_len evX asX inX) ?_))) <;> (try refine nY ?_)) | (with_reducible refine Sl.gate rfl ?_; (go_step)) | ((((first | (refine s_box hst evX rfl ?_; clear hst; intro bx w hst) | (refine s_alloc hst inX ?_; clear hst; intro bk w hst)))) <;> (try refine nY ?_) <;> (try replace hst := nH hst)))
          refine v_begin hst (by kernel_rfl) ?_; clear hst; intro ops; (try refine nY ?_)
          (refine t_qt 0 rfl (by kernel_rfl) rfl rfl (by exact qt_move evX) ?_) <;> (try refine nY ?_)
          (refine t_qt 1 rfl (by kernel_rfl) rfl rfl (by exact qt_move evX) ?_) <;> (try refine nY ?_)
          (refine t_qt 2 rfl (by kernel_rfl) rfl rfl (by exact qt_loadD evX BoxIn.h inX inX) ?_) <;> (try refine nY ?_)
          (refine t_qt 3 rfl (by kernel_rfl) rfl rfl (by exact qt_move evX) ?_) <;> (try refine nY ?_)
          (refine t_qt 4 rfl (by kernel_rfl) rfl rfl (by exact qt_move evX) ?_) <;> (try refine nY ?_)
          ((refine t_ex0 5 rfl (by kernel_rfl) rfl rfl (qt_slice (a := 0) (b := q) evX hp inX inX (.inl ⟨rfl, rfl⟩) (.inr ⟨.i64, by simp [evF, nth]; omega⟩) (.inl rfl) (by omega) (by omega) ) ?_; rintro  v5 hv5)) <;> (try refine nY ?_)
          (refine t_call 6 rfl (by kernel_rfl) rfl (fun S' M' w hS hM hst => ih w hst (hG.mono hS) k i hik (by omega) (by omega) leaf hf v5 (initD proof) (show RSl _ v5 (initD proof) by rw [← hqi.out]; exact hv5.mono hS) hilen) inX rfl ?_) <;> (try refine nY ?_)
          (refine t_qt 7 rfl (by kernel_rfl) rfl rfl (by exact qt_move evX) ?_) <;> (try refine nY ?_)
          (refine t_qt 8 rfl (by kernel_rfl) rfl rfl (by exact qt_extract rfl rfl) ?_) <;> (try refine nY ?_)
          (refine t_pure 9 rfl (by kernel_rfl) rfl rfl (fun _ _ => by exact qt_extract rfl rfl) ?_) <;> (try refine nY ?_)
          refine v_one 10 rfl (by kernel_rfl) ?_; intro w hst K hK; refine s_alloc hst inX ?_; clear hst; intro b10 w hst; (try refine nY ?_); (try replace hst := nH hst); refine v_next hK hst (Snap.Le.refl _) (Suf.cons (Suf.refl _)) ?_; clear hst hK K; (try clear w); (try refine nY ?_)
          refine v_one 11 rfl (by kernel_rfl) ?_; intro w hst K hK; (refine s_stD hst rfl BoxIn.h inX evX inX lenX ?_); clear hst; intro w hst; (try refine nY ?_); (try replace hst := nH hst); refine v_last hK hst ?_; clear hst hK K; (try clear w); (try refine nY ?_)
          (refine t_qt 12 rfl (by kernel_rfl) rfl rfl (by exact qt_assign evX) ?_) <;> (try refine nY ?_)
          refine v_done (by kernel_rfl) ?_; clear ops; intro w hst
          repeat' (((fail_if_success (go_big_may)); (go_step)))
          refine v_begin hst (by kernel_rfl) ?_; clear hst; intro ops; (try refine nY ?_)
          (refine t_qt 0 rfl (by kernel_rfl) rfl rfl (by exact qt_loadD evX BoxIn.h inX inX) ?_) <;> (try refine nY ?_)
          (refine t_qt 1 rfl (by kernel_rfl) rfl rfl (by exact qt_move evX) ?_) <;> (try refine nY ?_)
          (refine t_qt 2 rfl (by kernel_rfl) rfl rfl (by exact qt_move evX) ?_) <;> (try refine nY ?_)
          ((refine t_ex0 3 rfl (by kernel_rfl) rfl rfl (qt_index evX asX rfl inX inX omX omX) ?_; rintro v hp; (try simp only [Int.toNat_natCast, Int.toNat_natCast_add_one, Int.reduceToNat] at hp))) <;> (try refine nY ?_)
          (refine t_qt 4 rfl (by kernel_rfl) rfl rfl (by exact qt_ldp_flat evX asX inX inX rfl) ?_) <;> (try refine nY ?_)
          (refine t_call 5 rfl (by kernel_rfl) rfl (fun S' M' w hS hM hst => refNode_c w hst (hG.mono hS) _ _ (combM_len _ _ _ _) (hpd _ (List.getElem_mem _))) inX rfl ?_) <;> (try refine nY ?_)
          (refine t_pure 6 rfl (by kernel_rfl) rfl rfl (fun _ _ => by exact qt_move evX) ?_) <;> (try refine nY ?_)
          refine v_one 7 rfl (by kernel_rfl) ?_; intro w hst K hK; (refine s_stD hst rfl BoxIn.h inX evX inX lenX ?_); clear hst; intro w hst; (try refine nY ?_); (try replace hst := nH hst); refine v_last hK hst ?_; clear hst hK K; (try clear w); (try refine nY ?_)
          (refine t_qt 8 rfl (by kernel_rfl) rfl rfl (by exact qt_assign evX) ?_) <;> (try refine nY ?_)
          refine v_done (by kernel_rfl) ?_; clear ops; intro w hst
          repeat' (((fail_if_success (go_big_may)); (go_step)))
          refine ret_two rfl (rv_D hst rfl BoxIn.h inX inX) (rv_tmp rfl) ⟨_, rfl, ?_, hst.drop.drop.drop⟩
          rw [hL.out hik, ← hql.out _ _ (show ((proof.length : Int) - 1).toNat = q by omega)]
          rfl
        · have ihR := fun {S M} (w : World) (hst : St S M w) (hG : Glob S) (v : Value) (hv : RSl S v (initD proof)) => ih w hst hG (n - k) (i - k) (by omega) (by omega) (by omega) leaf hf v (initD proof) hv hilen
          rw [show ((n - k : Nat) : Int) = (n : Int) - (k : Int) by omega, show ((i - k : Nat) : Int) = (i : Int) - (k : Int) by omega] at ihR
          go_enter Tryd.func53, Tryd.ntmps53
          repeat' (first | (((with_reducible refine Sl.k_call ?_; ((refine s_call (hsp _ hst) inX rfl ?_; clear hst; rintro v w ⟨rfl, hst⟩)))) <;> (try refine nY ?_) <;> (try replace hst := nH hst)) | ((fail_if_success (go_big_may)); (go_step)) | (((with_reducible refine Sl.k_call ?_; (refine s_qt hst (by exact qt_len evX asX inX) ?_))) <;> (try refine nY ?_)) | (with_reducible refine Sl.gate rfl ?_; (go_step)) | ((((first | (refine s_box hst evX rfl ?_; clear hst; intro bx w hst) | (refine s_alloc hst inX ?_; clear hst; intro bk w hst)))) <;> (try refine nY ?_) <;> (try replace hst := nH hst)))
          refine v_begin hst (by kernel_rfl) ?_; clear hst; intro ops; (try refine nY ?_)
          (refine t_qt 0 rfl (by kernel_rfl) rfl rfl (by exact qt_move evX) ?_) <;> (try refine nY ?_)
          (refine t_qt 1 rfl (by kernel_rfl) rfl rfl (by exact qt_move evX) ?_) <;> (try refine nY ?_)
          (refine t_qt 2 rfl (by kernel_rfl) rfl rfl (by exact qt_sub' rfl rfl omX) ?_) <;> (try refine nY ?_)
          (refine t_qt 3 rfl (by kernel_rfl) rfl rfl (by exact qt_move evX) ?_) <;> (try refine nY ?_)
          (refine t_qt 4 rfl (by kernel_rfl) rfl rfl (by exact qt_move evX) ?_) <;> (try refine nY ?_)
          (refine t_qt 5 rfl (by kernel_rfl) rfl rfl (by exact qt_sub' rfl rfl omX) ?_) <;> (try refine nY ?_)
          (refine t_qt 6 rfl (by kernel_rfl) rfl rfl (by exact qt_loadD evX BoxIn.h inX inX) ?_) <;> (try refine nY ?_)
          (refine t_qt 7 rfl (by kernel_rfl) rfl rfl (by exact qt_move evX) ?_) <;> (try refine nY ?_)
          (refine t_qt 8 rfl (by kernel_rfl) rfl rfl (by exact qt_move evX) ?_) <;> (try refine nY ?_)
          ((refine t_ex0 9 rfl (by kernel_rfl) rfl rfl (qt_slice (a := 0) (b := q) evX hp inX inX (.inl ⟨rfl, rfl⟩) (.inr ⟨.i64, by simp [evF, nth]; omega⟩) (.inl rfl) (by omega) (by omega) ) ?_; rintro  v9 hv9)) <;> (try refine nY ?_)
          (refine t_call 10 rfl (by kernel_rfl) rfl (fun S' M' w hS hM hst => ihR w hst (hG.mono hS) v9 (show RSl _ v9 (initD proof) by rw [← hqi.out]; exact hv9.mono hS)) inX rfl ?_) <;> (try refine nY ?_)
          (refine t_qt 11 rfl (by kernel_rfl) rfl rfl (by exact qt_move evX) ?_) <;> (try refine nY ?_)
          (refine t_qt 12 rfl (by kernel_rfl) rfl rfl (by exact qt_extract rfl rfl) ?_) <;> (try refine nY ?_)
          (refine t_pure 13 rfl (by kernel_rfl) rfl rfl (fun _ _ => by exact qt_extract rfl rfl) ?_) <;> (try refine nY ?_)
          refine v_one 14 rfl (by kernel_rfl) ?_; intro w hst K hK; refine s_alloc hst inX ?_; clear hst; intro b14 w hst; (try refine nY ?_); (try replace hst := nH hst); refine v_next hK hst (Snap.Le.refl _) (Suf.cons (Suf.refl _)) ?_; clear hst hK K; (try clear w); (try refine nY ?_)
          refine v_one 15 rfl (by kernel_rfl) ?_; intro w hst K hK; (refine s_stD hst rfl BoxIn.h inX evX inX lenX ?_); clear hst; intro w hst; (try refine nY ?_); (try replace hst := nH hst); refine v_last hK hst ?_; clear hst hK K; (try clear w); (try refine nY ?_)
          (refine t_qt 16 rfl (by kernel_rfl) rfl rfl (by exact qt_assign evX) ?_) <;> (try refine nY ?_)
          refine v_done (by kernel_rfl) ?_; clear ops; intro w hst
          repeat' (((fail_if_success (go_big_may)); (go_step)))
          refine v_begin hst (by kernel_rfl) ?_; clear hst; intro ops; (try refine nY ?_)
          (refine t_qt 0 rfl (by kernel_rfl) rfl rfl (by exact qt_move evX) ?_) <;> (try refine nY ?_)
          (refine t_qt 1 rfl (by kernel_rfl) rfl rfl (by exact qt_move evX) ?_) <;> (try refine nY ?_)
          ((refine t_ex0 2 rfl (by kernel_rfl) rfl rfl (qt_index evX asX rfl inX inX omX omX) ?_; rintro v hp; (try simp only [Int.toNat_natCast, Int.toNat_natCast_add_one, Int.reduceToNat] at hp))) <;> (try refine nY ?_)
          (refine t_qt 3 rfl (by kernel_rfl) rfl rfl (by exact qt_ldp_flat evX asX inX inX rfl) ?_) <;> (try refine nY ?_)
          (refine t_qt 4 rfl (by kernel_rfl) rfl rfl (by exact qt_loadD evX BoxIn.h inX inX) ?_) <;> (try refine nY ?_)
          (refine t_call 5 rfl (by kernel_rfl) rfl (fun S' M' w hS hM hst => refNode_c w hst (hG.mono hS) _ _ (hpd _ (List.getElem_mem _)) (combM_len _ _ _ _)) inX rfl ?_) <;> (try refine nY ?_)
          (refine t_pure 6 rfl (by kernel_rfl) rfl rfl (fun _ _ => by exact qt_move evX) ?_) <;> (try refine nY ?_)
          refine v_one 7 rfl (by kernel_rfl) ?_; intro w hst K hK; (refine s_stD hst rfl BoxIn.h inX evX inX lenX ?_); clear hst; intro w hst; (try refine nY ?_); (try replace hst := nH hst); refine v_last hK hst ?_; clear hst hK K; (try clear w); (try refine nY ?_)
          (refine t_qt 8 rfl (by kernel_rfl) rfl rfl (by exact qt_assign evX) ?_) <;> (try refine nY ?_)
          refine v_done (by kernel_rfl) ?_; clear ops; intro w hst
          repeat' (((fail_if_success (go_big_may)); (go_step)))
          refine ret_two rfl (rv_D hst rfl BoxIn.h inX inX) (rv_tmp rfl) ⟨_, rfl, ?_, hst.drop.drop.drop⟩
          rw [hR.out hik, ← hql.out _ _ (show ((proof.length : Int) - 1).toNat = q by omega)]
          rfl
end Go.Proofs.YtgihhhdeoaplhaaDoor

/- Package register's reference: raw digests, leaves, starts, extensions, walked. -/
--@u32
--@hgp
--@flat
--@dg
--@ex0
--@b8
namespace Go.Proofs.YtgihhhdeoaplhaaDoor
set_option linter.unusedSimpArgs false
set_option linter.unusedVariables false
open Go.RowKit Go.Sl

theorem u8s_take_succ {b : List UInt8} {n : Nat} (h : n < b.length) : u8s (b.take (n + 1)) = u8s (b.take n) ++ [.int .u8 ((b.getD n 0).toNat : Int)] := by
  rw [List.take_succ_eq_append_getElem h, u8s_append, List.getD_eq_getElem?_getD, List.getElem?_eq_getElem h]
  rfl

set_option maxRecDepth 8000 in
set_option maxHeartbeats 1000000 in
theorem refRaw_f {S M} (w : World) (hst : St S M w) (d : Dg) (hd : d.l.length = 16) :
    Rets Tryd.prog 65 [dgV d] w fun v w' => Fz UInt8 S M d.l v w' := by
  unfold Rets
  haveI : LenIs d.l 16 := ⟨hd⟩
  go_enter Tryd.func65, Tryd.ntmps65
  repeat' (first | ((fail_if_success (go_big_may)); (go_step)) | (((((refine s_box hst evX rfl ?_; clear hst; intro bx w hst)))) <;> (try refine nY ?_) <;> (try replace hst := nH hst)))
  have hst := hst.nil 5 1
  go_loopw [3, 4] (fun u v wr => ∃ n : Nat, n ≤ 16 ∧ v = .int .i64 n ∧ u.oneCell' = true ∧ St S (.sl u 5 1 n (u8s (d.l.take n)) :: .box bx (u8s d.l) 23 :: M) wr) (fun _ v _ => 16 - (intOf v).toNat)
  case atStart => exact ⟨0, by omega, rfl, rfl, hst⟩
  case round =>
    clear hst
    obtain ⟨n, hn, rfl, hone, hst⟩ := hrel
    by_cases hlt : n < 16
    · have hsu := Lib.hid (u8s_take_succ (b := d.l) (n := n) (by omega))
      repeat' (first | ((fail_if_success (go_big_may)); (go_step)) | ((first | (with_reducible refine Sl.k_load ?_; (refine s_qt hst (by exact qt_ldB8 evX BoxIn.h inX omX) ?_)) | (with_reducible refine Sl.k_index ?_; (refine s_qt hst (qt_indexA rfl rfl inX inX omX omX) ?_))) <;> (try refine nY ?_)) | (with_reducible refine Sl.gate rfl ?_; (go_step)))
      refine s_lit (vs := [.int .u8 ((d.l.getD n 0).toNat : Int)]) hst inX inX rfl rfl (by simp [Value.cells]) rfl (by omega) (by omega) ?_
      clear hst; intro u w hst
      refine nY ?_
      repeat' (fail)
      refine s_append (j := 0) hst evX evX SlIn.h rfl inX inX inX (by simp [Value.cells, Value.oneCell']) (by omega) (by omega) (by decide) ?_
      clear hst; intro v' w hst
      refine nY ?_
      (try replace hst := nH hst)
      replace hst := hst.drop
      repeat' (first | ((fail_if_success (go_big_may)); (go_step)) | (with_reducible refine Sl.gate rfl ?_; (go_step)))
      have hone' := sl_one hst
      go_roundw
      case rel => exact ⟨n + 1, by omega, by go_num, hone', by rw [hsu.out]; exact hst⟩
      case measure => simp [intOf]; omega
    · obtain rfl : n = 16 := by omega
      rw [List.take_of_length_le (by omega)] at hst
      repeat' (first | ((fail_if_success (go_big_may)); (go_step)) | (with_reducible refine Sl.gate rfl ?_; (go_step)))
      go_ret
      obtain ⟨S2, hS2, hst, hv⟩ := St.freeze (α := UInt8) hst (rl_u8 d.l) (by omega)
      exact ⟨_, rfl, S2, hS2, hv, hone, hst.drop⟩

set_option maxRecDepth 8000 in
set_option maxHeartbeats 400000 in
theorem rleaf_c {S M} (w : World) (hst : St S M w) (i t : Int) (hi : I64 i) (ht : I64 t) :
    Rets Tryd.prog 37 [.int .i64 i, .int .i64 t] w fun v w' => v = dgV (leafP i t) ∧ St S M w' := by
  unfold Rets
  haveI : LenIs (leafP i t).l 16 := ⟨leafP_len i t⟩
  go_enter Tryd.func37, Tryd.ntmps37
  repeat' (first | (((with_reducible refine Sl.k_call ?_; ((refine s_call (refInt_f _ hst i hi) inX rfl ?_; clear hst; rintro v w ⟨S1, hS1, h1, h11, hst⟩)))) <;> (try refine nY ?_) <;> (try replace hst := nH hst)) | ((fail_if_success (go_big_may)); (go_step)) | (((((refine s_alloc hst inX ?_; clear hst; intro bk w hst)))) <;> (try refine nY ?_) <;> (try replace hst := nH hst)))
  repeat' ((((with_reducible refine Sl.k_call ?_; ((refine s_call (refInt_f _ hst t ht) inX rfl ?_; clear hst; rintro v w ⟨S2, hS2, h2, h21, hst⟩)))) <;> (try refine nY ?_) <;> (try replace hst := nH hst)))
  refine s_parts hst (.cons (h1.mono hS2) (.cons h2 .nil)) inX inX rfl rfl (by omega) ?_
  clear hst; intro S3 u w hS3 hu hu1 hst
  (try refine nY ?_)
  repeat' (first | (((with_reducible refine Sl.k_call ?_; ((refine s_call (refDigest_c _ hst 10 (by omega) _ _ hu (Nat.le_trans (size2 (encI_len i) (encI_len t)) (by omega))) inX rfl ?_; clear hst; rintro v w ⟨rfl, hst⟩)))) <;> (try refine nY ?_) <;> (try replace hst := nH hst)) | ((fail_if_success (go_big_may)); (go_step)) | (((((with_reducible refine Sl.k_store ?_; (refine s_stD hst rfl BoxIn.h inX evX inX lenX ?_); clear hst; intro w hst)))) <;> (try refine nY ?_) <;> (try replace hst := nH hst)))
  exact ret_D rfl hst rfl BoxIn.h inX inX ⟨_, rfl, rfl, St.weaken ((hS1.trans hS2).trans hS3) hst.drop⟩

set_option maxRecDepth 8000 in
set_option maxHeartbeats 1000000 in
theorem rstart_c {S M} (w : World) (hst : St S M w) (m : Dg) (hm : m.l.length = 16) :
    Rets Tryd.prog 40 [dgV m] w fun v w' => v = rgV (startM m) ∧ St S M w' := by
  unfold Rets
  haveI : LenIs m.l 16 := ⟨hm⟩
  have hX : Hid (startM m = (⟨dig 7 [encI 0, m.l]⟩, ⟨dig 7 [encI 1, m.l]⟩, ())) := Lib.hid rfl
  have c0 := fun {S : Snap} {M : List Chunk} (w : World) (hst : St S M w) (vp : Value) (hp : RSl S vp [encI 0, m.l]) => refDigest_c w hst 7 (by omega) vp _ hp (Nat.le_trans (size2 (encI_len 0) (Nat.le_of_eq hm)) (by omega))
  have c1 := fun {S : Snap} {M : List Chunk} (w : World) (hst : St S M w) (vp : Value) (hp : RSl S vp [encI 1, m.l]) => refDigest_c w hst 7 (by omega) vp _ hp (Nat.le_trans (size2 (encI_len 1) (Nat.le_of_eq hm)) (by omega))
  have l0 : (dig 7 [encI 0, m.l]).length = 16 := dig_len _ _
  have l1 : (dig 7 [encI 1, m.l]).length = 16 := dig_len _ _
  generalize dig 7 [encI 0, m.l] = D0 at *
  generalize dig 7 [encI 1, m.l] = D1 at *
  have hok : RgOk (⟨D0⟩, ⟨D1⟩, ()) := ⟨l0, l1⟩
  go_enter Tryd.func40, Tryd.ntmps40
  repeat' ((fail_if_success (with_reducible show Code.wp _ (Code.region 2 _ _) _ _ _)); first | (((with_reducible refine Sl.k_call ?_; ((refine s_call (refRaw_f _ hst m hm) inX rfl ?_; clear hst; rintro v w ⟨S1, hS1, hv1, hv11, hst⟩)))) <;> (try refine nY ?_) <;> (try replace hst := nH hst)) | ((fail_if_success (go_big_may)); (go_step)) | (((with_reducible refine Sl.k_load ?_; (refine s_qt hst (by exact qt_loadD evX BoxIn.h inX inX) ?_))) <;> (try refine nY ?_)) | ((((first | (refine s_box hst evX rfl ?_; clear hst; intro bx w hst) | (refine s_alloc hst inX ?_; clear hst; intro bk w hst)))) <;> (try refine nY ?_) <;> (try replace hst := nH hst)))
  refine wp_region_lit ?_
  refine s_qt hst (qt_buildF flatRg inX inX (r_rg rg0_ok) .nil) ?_
  (try refine nY ?_)
  repeat' ((((((refine s_alloc hst inX ?_; clear hst; intro bk w hst)))) <;> (try refine nY ?_) <;> (try replace hst := nH hst)))
  refine s_stW0 hst rfl BoxIn.h inX (x0 := rg0) (cs := rgC rg0) evX (r_rg rg0_ok) rfl ?_
  clear hst; intro w hst
  (try refine nY ?_)
  (try replace hst := nH hst)
  repeat' (first | (((with_reducible refine Sl.k_call ?_; ((refine s_call (refInt_f _ hst 0 (by unfold I64; omega)) inX rfl ?_; clear hst; rintro v w ⟨S2, hS2, hv2, hv21, hst⟩)))) <;> (try refine nY ?_) <;> (try replace hst := nH hst)) | ((fail_if_success (go_big_may)); (go_step)))
  refine s_parts hst (.cons hv2 (.cons (hv1.mono hS2) .nil)) inX inX rfl rfl (by omega) ?_
  clear hst; intro S3 u3 w hS3 hu3 hu31 hst
  (try refine nY ?_)
  repeat' (first | (((with_reducible refine Sl.k_call ?_; ((refine s_call (c0 _ hst _ hu3) inX rfl ?_; clear hst; rintro v w ⟨rfl, hst⟩)))) <;> (try refine nY ?_) <;> (try replace hst := nH hst)) | (((with_reducible refine Sl.k_field ?_; (refine s_qt hst (qt_field rfl inX) ?_))) <;> (try refine nY ?_)))
  refine s_stFo 0 hst flatRg rfl BoxIn.h inX rfl (r_rg rg0_ok) inX evX (r_dgx (d := ⟨D0⟩) l0) (fun h => by cases h) ?_
  clear hst; intro w hR hst
  (try refine nY ?_)
  (try replace hst := nH hst)
  repeat' (first | (((with_reducible refine Sl.k_call ?_; ((refine s_call (refInt_f _ hst 1 (by unfold I64; omega)) inX rfl ?_; clear hst; rintro v w ⟨S4, hS4, hv4, hv41, hst⟩)))) <;> (try refine nY ?_) <;> (try replace hst := nH hst)) | ((fail_if_success (go_big_may)); (go_step)))
  refine s_parts hst (.cons hv4 (.cons (((hv1.mono hS2).mono hS3).mono hS4) .nil)) inX inX rfl rfl (by omega) ?_
  clear hst; intro S5 u5 w hS5 hu5 hu51 hst
  (try refine nY ?_)
  repeat' (first | (((with_reducible refine Sl.k_call ?_; ((refine s_call (c1 _ hst _ hu5) inX rfl ?_; clear hst; rintro v w ⟨rfl, hst⟩)))) <;> (try refine nY ?_) <;> (try replace hst := nH hst)) | (((with_reducible refine Sl.k_field ?_; (refine s_qt hst (qt_field rfl inX) ?_))) <;> (try refine nY ?_)))
  refine s_stFo 1 hst flatRg rfl BoxIn.h inX rfl (Rep.mono (hS4.trans hS5) hR) inX evX (r_dgx (d := ⟨D1⟩) l1) (fun h => by cases h) ?_
  clear hst hR; intro w hR hst
  (try refine nY ?_)
  (try replace hst := nH hst)
  repeat' (first | (((with_reducible (refine Sl.k_load ?_; with_unfolding_all refine s_qt hst (qt_loadF rfl BoxIn.h hR inX) ?_))) <;> (try refine nY ?_)) | ((fail_if_success (go_big_may)); (go_step)))
  refine s_stW0 hst rfl BoxIn.h inX evX hR rfl ?_
  clear hst; intro w hst
  (try refine nY ?_)
  (try replace hst := nH hst)
  repeat' (((fail_if_success (go_big_may)); (go_step)))
  exact ret_F rfl hst rfl BoxIn.h inX hR ⟨_, rfl, by rw [hX.out], St.weaken ((((hS1.trans hS2).trans hS3).trans hS4).trans hS5) hst.drop.drop.drop⟩

set_option maxRecDepth 8000 in
set_option maxHeartbeats 2000000 in
theorem rext_c {S M} (w : World) (hst : St S M w) (r : Rg) (hr : RgOk r) (h : Hd) (hh : HdOk h) :
    Rets Tryd.prog 41 [rgV r, hdV h] w fun v w' => v = rgV (extM r h) ∧ St S M w' := by
  unfold Rets
  have hX : Hid (extM r h = (⟨dig 9 [r.1.l, h.1.l, encI h.2.2.1, h.2.2.2.1.l, h.2.2.2.2.1.l, encI h.2.2.2.2.2.1]⟩, ⟨dig 9 [r.2.1.l, h.2.1.l]⟩, ())) := Lib.hid rfl
  have hl1 := hr.a
  have hl2 := hr.b
  have hl3 := hh.a
  have hl4 := hh.b
  have hl5 := hh.d
  have hl6 := hh.e
  have hi1 := hh.c
  have hi2 := hh.f
  have he1 := encI_len h.2.2.1
  have he2 := encI_len h.2.2.2.2.2.1
  have cA := fun {S : Snap} {M : List Chunk} (w : World) (hst : St S M w) (vp : Value) (hp : RSl S vp [r.1.l, h.1.l, encI h.2.2.1, h.2.2.2.1.l, h.2.2.2.2.1.l, encI h.2.2.2.2.2.1]) => refDigest_c w hst 9 (by omega) vp _ hp (by simp [sizeB]; omega)
  have cB := fun {S : Snap} {M : List Chunk} (w : World) (hst : St S M w) (vp : Value) (hp : RSl S vp [r.2.1.l, h.2.1.l]) => refDigest_c w hst 9 (by omega) vp _ hp (by simp [sizeB]; omega)
  have l0 : (dig 9 [r.1.l, h.1.l, encI h.2.2.1, h.2.2.2.1.l, h.2.2.2.2.1.l, encI h.2.2.2.2.2.1]).length = 16 := dig_len _ _
  have l1 : (dig 9 [r.2.1.l, h.2.1.l]).length = 16 := dig_len _ _
  generalize dig 9 [r.1.l, h.1.l, encI h.2.2.1, h.2.2.2.1.l, h.2.2.2.2.1.l, encI h.2.2.2.2.2.1] = D0 at *
  generalize dig 9 [r.2.1.l, h.2.1.l] = D1 at *
  go_enter Tryd.func41, Tryd.ntmps41
  repeat' ((fail_if_success (with_reducible show Code.wp _ (Code.region 1 _ _) _ _ _)); first | ((fail_if_success (go_big_may)); (go_step)) | ((((first | (refine s_box hst evX rfl ?_; clear hst; intro bx w hst) | (refine s_alloc hst inX ?_; clear hst; intro bk w hst)))) <;> (try refine nY ?_) <;> (try replace hst := nH hst)))
  obtain ⟨S1, hS1, hst, hph⟩ := pt_box (α := Hd) (hst.perm (List.Perm.swap _ _ _)) (r_hd hh) (Rep.len (S := S) (r_hd hh))
  obtain ⟨S2, hS2, hst, hpr⟩ := pt_box (α := Rg) hst.swap (r_rg hr) (Rep.len (S := S) (r_rg hr))
  replace hph := hph.mono hS2
  have hle := hS1.trans hS2
  refine wp_region_lit ?_
  refine s_qt hst (qt_buildF flatRg inX inX (r_rg rg0_ok) .nil) ?_
  (try refine nY ?_)
  repeat' ((((((refine s_alloc hst inX ?_; clear hst; intro bk w hst)))) <;> (try refine nY ?_) <;> (try replace hst := nH hst)))
  refine s_stW0 hst rfl BoxIn.h inX (x0 := rg0) (cs := rgC rg0) evX (r_rg rg0_ok) rfl ?_
  clear hst; intro w hst
  (try refine nY ?_)
  (try replace hst := nH hst)
  repeat' (((fail_if_success (go_big_may)); (go_step)))
  refine v_begin hst (by kernel_rfl) ?_; clear hst; intro ops; (try refine nY ?_)
  ((refine t_ex0 0 rfl (by kernel_rfl) rfl rfl (qt_fieldp evX hpr inX inX rfl ) ?_; rintro  vf hpf)) <;> (try refine nY ?_)
  (refine t_qt 1 rfl (by kernel_rfl) rfl rfl (by exact qt_ldp_flat evX asX inX inX rfl) ?_) <;> (try refine nY ?_)
  ((refine t_ex0 3 rfl (by kernel_rfl) rfl rfl (qt_fieldp evX hph inX inX rfl ) ?_; rintro  vf hpf)) <;> (try refine nY ?_)
  (refine t_qt 4 rfl (by kernel_rfl) rfl rfl (by exact qt_ldp_flat evX asX inX inX rfl) ?_) <;> (try refine nY ?_)
  ((refine t_ex0 6 rfl (by kernel_rfl) rfl rfl (qt_fieldp evX hph inX inX rfl ) ?_; rintro  vf hpf)) <;> (try refine nY ?_)
  ((refine t_ex0 7 rfl (by kernel_rfl) rfl rfl (qt_ldp_int evX asX inX) ?_; rintro v ⟨rfl, hI⟩)) <;> (try refine nY ?_)
  ((refine t_ex0 9 rfl (by kernel_rfl) rfl rfl (qt_fieldp evX hph inX inX rfl ) ?_; rintro  vf hpf)) <;> (try refine nY ?_)
  (refine t_qt 10 rfl (by kernel_rfl) rfl rfl (by exact qt_ldp_flat evX asX inX inX rfl) ?_) <;> (try refine nY ?_)
  ((refine t_ex0 12 rfl (by kernel_rfl) rfl rfl (qt_fieldp evX hph inX inX rfl ) ?_; rintro  vf hpf)) <;> (try refine nY ?_)
  (refine t_qt 13 rfl (by kernel_rfl) rfl rfl (by exact qt_ldp_flat evX asX inX inX rfl) ?_) <;> (try refine nY ?_)
  ((refine t_ex0 15 rfl (by kernel_rfl) rfl rfl (qt_fieldp evX hph inX inX rfl ) ?_; rintro  vf hpf)) <;> (try refine nY ?_)
  ((refine t_ex0 16 rfl (by kernel_rfl) rfl rfl (qt_ldp_int evX asX inX) ?_; rintro v ⟨rfl, hI⟩)) <;> (try refine nY ?_)
  refine v_one 2 rfl (by kernel_rfl) ?_; intro w hst K hK; refine s_call (refRaw_f w hst r.1 hl1) inX rfl ?_; clear hst; rintro v2 w ⟨T2, hT2, hv2, hv21, hst⟩; (try refine nY ?_); (try replace hst := nH hst); refine v_next hK hst hT2 (Suf.refl _) ?_; clear hst hK K; (try clear w); (try refine nY ?_)
  refine v_one 5 rfl (by kernel_rfl) ?_; intro w hst K hK; refine s_call (refRaw_f w hst h.1 hl3) inX rfl ?_; clear hst; rintro v5 w ⟨T5, hT5, hv5, hv51, hst⟩; (try refine nY ?_); (try replace hst := nH hst); refine v_next hK hst hT5 (Suf.refl _) ?_; clear hst hK K; (try clear w); (try refine nY ?_)
  refine v_one 8 rfl (by kernel_rfl) ?_; intro w hst K hK; refine s_call (refInt_f w hst _ hi1) inX rfl ?_; clear hst; rintro v8 w ⟨T8, hT8, hv8, hv81, hst⟩; (try refine nY ?_); (try replace hst := nH hst); refine v_next hK hst hT8 (Suf.refl _) ?_; clear hst hK K; (try clear w); (try refine nY ?_)
  refine v_one 11 rfl (by kernel_rfl) ?_; intro w hst K hK; refine s_call (refRaw_f w hst h.2.2.2.1 hl5) inX rfl ?_; clear hst; rintro v11 w ⟨T11, hT11, hv11, hv111, hst⟩; (try refine nY ?_); (try replace hst := nH hst); refine v_next hK hst hT11 (Suf.refl _) ?_; clear hst hK K; (try clear w); (try refine nY ?_)
  refine v_one 14 rfl (by kernel_rfl) ?_; intro w hst K hK; refine s_call (refRaw_f w hst h.2.2.2.2.1 hl6) inX rfl ?_; clear hst; rintro v14 w ⟨T14, hT14, hv14, hv141, hst⟩; (try refine nY ?_); (try replace hst := nH hst); refine v_next hK hst hT14 (Suf.refl _) ?_; clear hst hK K; (try clear w); (try refine nY ?_)
  refine v_one 17 rfl (by kernel_rfl) ?_; intro w hst K hK; refine s_call (refInt_f w hst _ hi2) inX rfl ?_; clear hst; rintro v17 w ⟨T17, hT17, hv17, hv171, hst⟩; (try refine nY ?_); (try replace hst := nH hst); refine v_next hK hst hT17 (Suf.refl _) ?_; clear hst hK K; (try clear w); (try refine nY ?_)
  refine v_one 18 rfl (by kernel_rfl) ?_; intro w hst K hK; refine s_parts hst (.cons ((((((hv2.mono hT5).mono hT8).mono hT11).mono hT14).mono hT17)) (.cons (((((hv5.mono hT8).mono hT11).mono hT14).mono hT17)) (.cons ((((hv8.mono hT11).mono hT14).mono hT17)) (.cons ((hv11.mono hT14).mono hT17) (.cons (hv14.mono hT17) (.cons hv17 .nil)))))) inX inX rfl rfl (by omega) ?_; clear hst; intro T18 v18 w hT18 hv18 hv181 hst; (try refine nY ?_); (try replace hst := nH hst); refine v_next hK hst hT18 (Suf.refl _) ?_; clear hst hK K; (try clear w); (try refine nY ?_)
  (refine t_call 19 rfl (by kernel_rfl) rfl (fun S' M' w hS hM hst => cA w hst _ (hv18.mono hS)) inX rfl ?_) <;> (try refine nY ?_)
  (refine t_qt 20 rfl (by kernel_rfl) rfl rfl (qt_field rfl inX) ?_) <;> (try refine nY ?_)
  refine v_one 21 rfl (by kernel_rfl) ?_; intro w hst K hK; refine s_stFo 0 hst flatRg rfl BoxIn.h inX rfl (r_rg rg0_ok) inX evX (r_dgx (d := ⟨D0⟩) l0) (fun h => by cases h) ?_; clear hst; intro w hR hst; (try refine nY ?_); (try replace hst := nH hst); refine v_last hK hst ?_; clear hst hK K; (try clear w); (try refine nY ?_)
  refine v_done (by kernel_rfl) ?_; clear ops; intro w hst
  have hT := (((((hT2.trans hT5).trans hT8).trans hT11).trans hT14).trans hT17).trans hT18
  replace hph := hph.mono hT
  replace hpr := hpr.mono hT
  replace hle := hle.trans hT
  clear hT hT2 hT5 hT8 hT11 hT14 hT17 hT18 hv2 hv5 hv8 hv11 hv14 hv17
  repeat' (((fail_if_success (go_big_may)); (go_step)))
  refine v_begin hst (by kernel_rfl) ?_; clear hst; intro ops; (try refine nY ?_)
  ((refine t_ex0 0 rfl (by kernel_rfl) rfl rfl (qt_fieldp evX hpr inX inX rfl ) ?_; rintro  vf hpf)) <;> (try refine nY ?_)
  (refine t_qt 1 rfl (by kernel_rfl) rfl rfl (by exact qt_ldp_flat evX asX inX inX rfl) ?_) <;> (try refine nY ?_)
  ((refine t_ex0 3 rfl (by kernel_rfl) rfl rfl (qt_fieldp evX hph inX inX rfl ) ?_; rintro  vf hpf)) <;> (try refine nY ?_)
  (refine t_qt 4 rfl (by kernel_rfl) rfl rfl (by exact qt_ldp_flat evX asX inX inX rfl) ?_) <;> (try refine nY ?_)
  refine v_one 2 rfl (by kernel_rfl) ?_; intro w hst K hK; refine s_call (refRaw_f w hst r.2.1 hl2) inX rfl ?_; clear hst; rintro v2 w ⟨T2, hT2, hv2, hv21, hst⟩; (try refine nY ?_); (try replace hst := nH hst); refine v_next hK hst hT2 (Suf.refl _) ?_; clear hst hK K; (try clear w); (try refine nY ?_)
  refine v_one 5 rfl (by kernel_rfl) ?_; intro w hst K hK; refine s_call (refRaw_f w hst h.2.1 hl4) inX rfl ?_; clear hst; rintro v5 w ⟨T5, hT5, hv5, hv51, hst⟩; (try refine nY ?_); (try replace hst := nH hst); refine v_next hK hst hT5 (Suf.refl _) ?_; clear hst hK K; (try clear w); (try refine nY ?_)
  refine v_one 6 rfl (by kernel_rfl) ?_; intro w hst K hK; refine s_parts hst (.cons (hv2.mono hT5) (.cons hv5 .nil)) inX inX rfl rfl (by omega) ?_; clear hst; intro T18 v18 w hT18 hv18 hv181 hst; (try refine nY ?_); (try replace hst := nH hst); refine v_next hK hst hT18 (Suf.refl _) ?_; clear hst hK K; (try clear w); (try refine nY ?_)
  (refine t_call 7 rfl (by kernel_rfl) rfl (fun S' M' w hS hM hst => cB w hst _ (hv18.mono hS)) inX rfl ?_) <;> (try refine nY ?_)
  (refine t_qt 8 rfl (by kernel_rfl) rfl rfl (qt_field rfl inX) ?_) <;> (try refine nY ?_)
  refine v_one 9 rfl (by kernel_rfl) ?_; intro w hst K hK; refine s_stFo 1 hst flatRg rfl BoxIn.h inX rfl (Rep.mono ((hT2.trans hT5).trans hT18) hR) inX evX (r_dgx (d := ⟨D1⟩) l1) (fun h => by cases h) ?_; clear hst hR; intro w hR hst; (try refine nY ?_); (try replace hst := nH hst); refine v_last hK hst ?_; clear hst hK K; (try clear w); (try refine nY ?_)
  refine v_done (by kernel_rfl) ?_; clear ops; intro w hst
  replace hle := hle.trans ((hT2.trans hT5).trans hT18)
  repeat' (first | (((with_reducible (refine Sl.k_load ?_; with_unfolding_all refine s_qt hst (qt_loadF rfl BoxIn.h hR inX) ?_))) <;> (try refine nY ?_)) | ((fail_if_success (go_big_may)); (go_step)))
  refine s_stW0 hst rfl BoxIn.h inX evX hR rfl ?_
  clear hst; intro w hst
  (try refine nY ?_)
  (try replace hst := nH hst)
  repeat' (((fail_if_success (go_big_may)); (go_step)))
  exact ret_F rfl hst rfl BoxIn.h inX hR ⟨_, rfl, by rw [hX.out], St.weaken hle hst.drop.drop⟩
end Go.Proofs.YtgihhhdeoaplhaaDoor

/- Package register's reference: heads of events, walked. -/
--@u32
--@hgp
--@flat
--@dg
--@ex0
namespace Go.Proofs.YtgihhhdeoaplhaaDoor
set_option linter.unusedSimpArgs false
set_option linter.unusedVariables false
open Go.RowKit Go.Sl

theorem refInts_f {S M} (w : World) (hst : St S M w) (vl : Value) (xs : List Int) (hl : RSl S vl xs) (hm : xs.length ≤ 1048576) : Rets Tryd.prog 61 [vl] w fun v w' => Fz UInt8 S M (encL xs) v w' :=
  Rets.mono (refInts_c w hst vl xs hl hm) fun _ _ h => fz_u8 h

set_option maxRecDepth 8000 in
set_option maxHeartbeats 2000000 in
theorem rhead_c {S M} (w : World) (hst : St S M w) (hG : Glob S) (cs : List Value) (ev : Ev) (hR : Rep.R S cs ev) (h1 : ev.2.1.length ≤ 1000) (h2 : ev.2.2.1.length ≤ 1000) (h3 : ev.2.2.2.1.length ≤ 1000) :
    Rets Tryd.prog 31 [.agg cs.toArray] w fun v w' => v = hdV (headM ev) ∧ St S M w' := by
  unfold Rets
  obtain ⟨hs16, hf64⟩ := ev_facts hR
  obtain ⟨up, _, hup⟩ := hR.2.2.2.2.2.1
  obtain ⟨un, _, hun⟩ := hR.2.2.2.2.2.2.2.1
  have hpi := rsl_i64 hup
  have hni := rsl_i64 hun
  have hc64 : I64 (ev.2.2.1.length : Int) := by unfold I64; omega
  have hzl : (encL ev.2.1).length ≤ 10 + 10 * ev.2.1.length := encL_len _
  clear hup hun
  go_enter Tryd.func31, Tryd.ntmps31
  repeat' ((fail_if_success (with_reducible show Code.wp _ (Code.region 1 _ _) _ _ _)); first | ((fail_if_success (go_big_may)); (go_step)) | ((((first | (refine s_box hst evX rfl ?_; clear hst; intro bx w hst) | (refine s_alloc hst inX ?_; clear hst; intro bk w hst)))) <;> (try refine nY ?_) <;> (try replace hst := nH hst)))
  obtain ⟨S1, hS1, hst1, hpe⟩ := pt_box (α := Ev) hst.swap hR (Rep.len hR)
  clear hst
  have hst : St S1 (.box bk (hdC hd0) 44 :: M) w := hst1
  clear hst1
  replace hG := hG.mono hS1
  repeat' (((fail_if_success (go_big_may)); (go_step)))
  have hst := hst.nil 23 16
  go_loopw [3, 4] (fun u v wr => ∃ (n : Nat) (c : List Dg), n ≤ ev.2.2.1.length ∧ v = .int .i64 n ∧ Hid (c = (List.range n).map fun (j : Nat) => leafP (j : Int) (ev.2.2.1.getD j 0)) ∧ (n ≤ c.length ∧ c.length ≤ n) ∧ u.oneCell' = true ∧ St S1 (.sl u 23 16 c.length (cF dgC c) :: .box bk (hdC hd0) 44 :: M) wr) (fun _ v _ => ev.2.2.1.length - (intOf v).toNat)
  case atStart => exact ⟨0, [], Nat.zero_le _, rfl, Lib.hid rfl, ⟨Nat.le_refl _, Nat.le_refl _⟩, rfl, hst⟩
  case round =>
    clear hst
    obtain ⟨n, c, hn, rfl, hc, hcl2, hone, hst⟩ := hrel
    by_cases hlt : n < ev.2.2.1.length
    · have hx64 := hpi ev.2.2.1[n] (List.getElem_mem hlt)
      have hn64 : I64 (n : Int) := by unfold I64; omega
      have hsu := Lib.hid (leaves_succ leafP hlt)
      repeat' (first | (((with_reducible (refine Sl.k_field ?_; refine s_ex hst (qt_fieldp evX hpe inX inX rfl) ?_; rintro vf hpf))) <;> (try refine nY ?_)) | (((with_reducible refine Sl.k_call ?_; ((refine s_call (rleaf_c _ hst (n : Int) ev.2.2.1[n] hn64 hx64) inX rfl ?_; clear hst; rintro v w ⟨rfl, hst⟩)))) <;> (try refine nY ?_) <;> (try replace hst := nH hst)) | ((fail_if_success (go_big_may)); (go_step)) | ((first | (with_reducible refine Sl.k_load ?_; (first | (refine s_ex hst (qt_ldp_int evX asX inX) ?_; rintro v ⟨rfl, hI⟩) | (refine s_ex hst (qt_ldp_list evX asX inX) ?_; rintro v ⟨hvl, hv1⟩))) | (with_reducible refine Sl.k_index ?_; (((refine s_ex hst (qt_index evX asX rfl inX inX omX omX) ?_); rintro v hp; (try simp only [Int.toNat_natCast, Int.toNat_natCast_add_one, Int.reduceToNat] at hp)))) | (with_reducible refine Sl.k_call ?_; (refine s_qt hst (by exact qt_len evX asX inX) ?_))) <;> (try refine nY ?_)) | (with_reducible refine Sl.gate rfl ?_; (go_step)))
      refine s_lit (vs := [dgV (leafP (n : Int) ev.2.2.1[n])]) hst inX inX rfl rfl (by simp [Value.cells, u8s_length, leafP_len]) rfl (by omega) (by omega) ?_
      clear hst; intro u w hst
      (try refine nY ?_)
      (try replace hst := nH hst)
      repeat' (fail)
      refine s_append (j := 0) hst evX evX SlIn.h rfl inX inX inX (by simpa [Value.cells] using u8s_one (leafP (n : Int) ev.2.2.1[n]).l) (by omega) (by omega) (by decide) ?_
      clear hst; intro v' w hst
      (try refine nY ?_)
      (try replace hst := nH hst)
      replace hst := hst.drop
      repeat' (first | ((fail_if_success (go_big_may)); (go_step)) | (with_reducible refine Sl.gate rfl ?_; (go_step)))
      have hone' := sl_one hst
      go_roundw
      case rel => exact ⟨n + 1, c ++ [leafP (n : Int) ev.2.2.1[n]], by omega, by go_num, Lib.hid (by rw [hsu.out, hc.out]), by simp; omega, hone', by rw [List.length_append, cF_snoc]; exact hst⟩
      case measure => simp [intOf]; omega
    · obtain rfl : n = ev.2.2.1.length := by omega
      have hcE : c = leavesP leafP ev.2.2.1 := hc.out
      have hc16 : ∀ d ∈ c, d.l.length = 16 := by rw [hcE]; exact leavesP_16 leafP_len _
      obtain ⟨S2, hS2, hst2, hvc⟩ := St.freeze (α := Dg) hst (rl_digs hc16) rfl
      clear hst
      have hst := hst2
      clear hst2
      have hvc1 := hvc.oneCell
      replace hG := hG.mono hS2
      replace hpe := hpe.mono hS2
      rename_i hpold
      repeat' (first | (((with_reducible (refine Sl.k_field ?_; refine s_ex hst (qt_fieldp evX hpe inX inX rfl) ?_; rintro vf hpf))) <;> (try refine nY ?_)) | ((fail_if_success (go_big_may)); (go_step)) | ((first | (with_reducible refine Sl.k_load ?_; ((refine s_ex hst (qt_ldp_list evX asX inX) ?_; rintro v ⟨hvl, hv1⟩))) | (with_reducible refine Sl.k_call ?_; (refine s_qt hst (by exact qt_len evX asX inX) ?_))) <;> (try refine nY ?_)) | (with_reducible refine Sl.gate rfl ?_; (go_step)))
      have hst := hst.nil 23 16
      go_loopw [5, 6] (fun u v wr => ∃ (n : Nat) (c : List Dg), n ≤ ev.2.2.2.1.length ∧ v = .int .i64 n ∧ Hid (c = (List.range n).map fun (j : Nat) => noteP (j : Int) (ev.2.2.2.1.getD j 0)) ∧ (n ≤ c.length ∧ c.length ≤ n) ∧ u.oneCell' = true ∧ St S2 (.sl u 23 16 c.length (cF dgC c) :: .box bk (hdC hd0) 44 :: M) wr) (fun _ v _ => ev.2.2.2.1.length - (intOf v).toNat)
      case atStart => exact ⟨0, [], Nat.zero_le _, rfl, Lib.hid rfl, ⟨Nat.le_refl _, Nat.le_refl _⟩, rfl, hst⟩
      case round =>
        clear hst
        obtain ⟨n, c2, hn, rfl, hc2, hcl3, hone2, hst⟩ := hrel
        by_cases hlt : n < ev.2.2.2.1.length
        · have hx64 := hni ev.2.2.2.1[n] (List.getElem_mem hlt)
          have hn64 : I64 (n : Int) := by unfold I64; omega
          have hsu := Lib.hid (leaves_succ noteP hlt)
          have hl16 := noteP_len (n : Int) ev.2.2.2.1[n]
          repeat' (first | (((with_reducible (refine Sl.k_field ?_; refine s_ex hst (qt_fieldp evX hpe inX inX rfl) ?_; rintro vf hpf))) <;> (try refine nY ?_)) | ((fail_if_success (go_big_may)); (go_step)) | ((first | (with_reducible refine Sl.k_load ?_; ((refine s_ex hst (qt_ldp_list evX asX inX) ?_; rintro v ⟨hvl, hv1⟩))) | (with_reducible refine Sl.k_call ?_; (refine s_qt hst (by exact qt_len evX asX inX) ?_))) <;> (try refine nY ?_)) | (with_reducible refine Sl.gate rfl ?_; (go_step)))
          refine v_begin hst (by kernel_rfl) ?_; clear hst; intro ops; (try refine nY ?_)
          (refine t_qt 0 rfl (by kernel_rfl) rfl rfl (by exact qt_move evX) ?_) <;> (try refine nY ?_)
          (refine t_qt 1 rfl (by kernel_rfl) rfl rfl (by exact qt_move evX) ?_) <;> (try refine nY ?_)
          ((refine t_ex0 3 rfl (by kernel_rfl) rfl rfl (qt_fieldp evX hpe inX inX rfl ) ?_; rintro  vf hpf)) <;> (try refine nY ?_)
          ((refine t_ex0 4 rfl (by kernel_rfl) rfl rfl (qt_ldp_list evX asX inX ) ?_; rintro  v4 ⟨hv4, hv41⟩)) <;> (try refine nY ?_)
          (refine t_qt 5 rfl (by kernel_rfl) rfl rfl (by exact qt_move evX) ?_) <;> (try refine nY ?_)
          ((refine t_ex0 6 rfl (by kernel_rfl) rfl rfl (qt_index evX asX rfl inX inX omX omX) ?_; rintro v hp; (try simp only [Int.toNat_natCast, Int.toNat_natCast_add_one, Int.reduceToNat] at hp))) <;> (try refine nY ?_)
          ((refine t_ex0 7 rfl (by kernel_rfl) rfl rfl (qt_ldp_int evX asX inX) ?_; rintro v ⟨rfl, hI⟩)) <;> (try refine nY ?_)
          refine v_one 2 rfl (by kernel_rfl) ?_; intro w hst K hK; refine s_call (refInt_f w hst (n : Int) hn64) inX rfl ?_; clear hst; rintro v2 w ⟨T2, hT2, hv2, hv21, hst⟩; (try refine nY ?_); (try replace hst := nH hst); refine v_next hK hst hT2 (Suf.refl _) ?_; clear hst hK K; (try clear w); (try refine nY ?_)
          refine v_one 8 rfl (by kernel_rfl) ?_; intro w hst K hK; refine s_call (refInt_f w hst _ hx64) inX rfl ?_; clear hst; rintro v8 w ⟨T8, hT8, hv8, hv81, hst⟩; (try refine nY ?_); (try replace hst := nH hst); refine v_next hK hst hT8 (Suf.refl _) ?_; clear hst hK K; (try clear w); (try refine nY ?_)
          refine v_one 9 rfl (by kernel_rfl) ?_; intro w hst K hK; refine s_parts hst (.cons (hv2.mono hT8) (.cons hv8 .nil)) inX inX rfl rfl (by omega) ?_; clear hst; intro T9 u9 w hT9 hu9 hu91 hst; (try refine nY ?_); (try replace hst := nH hst); refine v_next hK hst hT9 (Suf.refl _) ?_; clear hst hK K; (try clear w); (try refine nY ?_)
          (refine t_call 10 rfl (by kernel_rfl) rfl (fun S' M' w hS hM hst => refDigest_c w hst 8 (by omega) _ _ (hu9.mono hS) (Nat.le_trans (size2 (encI_len _) (encI_len _)) (by omega))) inX rfl ?_) <;> (try refine nY ?_)
          refine v_one 11 rfl (by kernel_rfl) ?_; intro w hst K hK; refine s_lit (vs := [dgV (noteP (n : Int) ev.2.2.2.1[n])]) (cs := u8s (noteP (n : Int) ev.2.2.2.1[n]).l) hst inX inX rfl rfl (by simp [Value.cells, u8s_length, hl16]) (by simp [Value.cells]) (by omega) (by omega) ?_; clear hst; intro x11 w hst; (try refine nY ?_); (try replace hst := nH hst); refine v_next hK hst (Snap.Le.refl _) (Suf.cons (Suf.refl _)) ?_; clear hst hK K; (try clear w); (try refine nY ?_)
          refine v_one 12 rfl (by kernel_rfl) ?_; intro w hst K hK; refine s_append (j := 0) hst evX evX SlIn.h rfl inX inX inX (u8s_one (noteP (n : Int) ev.2.2.2.1[n]).l) (by omega) (by omega) (by decide) ?_; clear hst; intro x12 w hst; (try refine nY ?_); (try replace hst := nH hst); replace hst := hst.drop; have hone12 := sl_one hst; refine v_last hK hst ?_; clear hst hK K; (try clear w); (try refine nY ?_)
          (refine t_qt 13 rfl (by kernel_rfl) rfl rfl (by exact qt_assign evX) ?_) <;> (try refine nY ?_)
          refine v_done (by kernel_rfl) ?_; clear ops; intro w hst
          repeat' (first | ((fail_if_success (go_big_may)); (go_step)) | (with_reducible refine Sl.gate rfl ?_; (go_step)))
          have hone' := sl_one hst
          go_roundw
          case rel => exact ⟨n + 1, c2 ++ [noteP (n : Int) ev.2.2.2.1[n]], by omega, by go_num, Lib.hid (by rw [hsu.out, hc2.out]), by simp; omega, hone', by rw [List.length_append, cF_snoc]; exact St.weaken ((hT2.trans hT8).trans hT9) hst⟩
          case measure => simp [intOf]; omega
        · obtain rfl : n = ev.2.2.2.1.length := by omega
          have hcE2 : c2 = leavesP noteP ev.2.2.2.1 := hc2.out
          have hc216 : ∀ d ∈ c2, d.l.length = 16 := by rw [hcE2]; exact leavesP_16 noteP_len _
          obtain ⟨S3, hS3, hst2, hvd⟩ := St.freeze (α := Dg) hst (rl_digs hc216) rfl
          clear hst
          have hst := hst2
          clear hst2
          have hvd1 := hvd.oneCell
          replace hG := hG.mono hS3
          replace hpe := hpe.mono hS3
          replace hvc := hvc.mono hS3
          have hle := (hS1.trans hS2).trans hS3
          have hE : Hid (headM ev = (ev.1, ⟨dig 11 [encL ev.2.1]⟩, (ev.2.2.1.length : Int), rootM c, rootM c2, ev.2.2.2.2.1, ())) := Lib.hid (by rw [hcE, hcE2]; rfl)
          have cD := fun {S : Snap} {M : List Chunk} (w : World) (hst : St S M w) (vp : Value) (hp : RSl S vp [encL ev.2.1]) => refDigest_c w hst 11 (by omega) vp _ hp (Nat.le_trans (size1 hzl) (by omega))
          have hD16 : (dig 11 [encL ev.2.1]).length = 16 := dig_len _ _
          have cR1 := fun {S : Snap} {M : List Chunk} (w : World) (hst : St S M w) (hG : Glob S) (v : Value) (hl : RSl S v c) => refRoot_c c.length w hst hG v c hl (Nat.le_refl _) (by omega)
          have cR2 := fun {S : Snap} {M : List Chunk} (w : World) (hst : St S M w) (hG : Glob S) (v : Value) (hl : RSl S v c2) => refRoot_c c2.length w hst hG v c2 hl (Nat.le_refl _) (by omega)
          have hR1 := rootM_len c
          have hR2 := rootM_len c2
          generalize dig 11 [encL ev.2.1] = DI at *
          generalize rootM c = RP at *
          generalize rootM c2 = RN at *
          clear hcE hcE2 hc hc2
          have ok1 : HdOk (ev.1, dg0, (ev.2.2.1.length : Int), dg0, dg0, ev.2.2.2.2.1, ()) := ⟨hs16, rfl, hc64, rfl, rfl, hf64⟩
          repeat' (first | ((first | (with_reducible (refine Sl.k_field ?_; refine s_ex hst (qt_fieldp evX hpe inX inX rfl) ?_; rintro vf hpf)) | (with_reducible (refine Sl.k_build ?_; with_unfolding_all refine s_qt hst (qt_buildF (x' := ((ev.1, dg0, (ev.2.2.1.length : Int), dg0, dg0, ev.2.2.2.2.1, ()) : Hd)) flatHd inX inX (r_hd hd0_ok) (.cons (k := 0) (v := dgV ev.1) (y := ev.1) (r_dgx hs16) rfl (.cons (k := 2) (v := .int .i64 (ev.2.2.1.length : Int)) (y := (ev.2.2.1.length : Int)) ⟨rfl, hc64⟩ rfl (.cons (k := 5) (v := .int .i64 ev.2.2.2.2.1) (y := ev.2.2.2.2.1) ⟨rfl, hf64⟩ rfl .nil)))) ?_))) <;> (try refine nY ?_)) | ((fail_if_success (go_big_may)); (go_step)) | ((first | (with_reducible refine Sl.k_load ?_; (first | refine s_qt hst (by exact qt_ldp_flat evX asX inX inX rfl) ?_ | (refine s_ex hst (qt_ldp_int evX asX inX) ?_; rintro v ⟨rfl, hI⟩) | (refine s_ex hst (qt_ldp_list evX asX inX) ?_; rintro v ⟨hvl, hv1⟩))) | (with_reducible refine Sl.k_call ?_; (refine s_qt hst (by exact qt_len evX asX inX) ?_))) <;> (try refine nY ?_)) | (with_reducible refine Sl.gate rfl ?_; (go_step)) | (((((refine s_alloc hst inX ?_; clear hst; intro bk w hst)))) <;> (try refine nY ?_) <;> (try replace hst := nH hst)))
          refine s_stW0 hst rfl BoxIn.h inX (x0 := ((ev.1, dg0, (ev.2.2.1.length : Int), dg0, dg0, ev.2.2.2.2.1, ()) : Hd)) (cs := hdC (ev.1, dg0, (ev.2.2.1.length : Int), dg0, dg0, ev.2.2.2.2.1, ())) evX (r_hd ok1) rfl ?_
          clear hst; intro w hst
          (try refine nY ?_)
          (try replace hst := nH hst)
          repeat' (first | (((with_reducible (refine Sl.k_field ?_; refine s_ex hst (qt_fieldp evX hpe inX inX rfl) ?_; rintro vf hpf))) <;> (try refine nY ?_)) | (((with_reducible refine Sl.k_call ?_; ((refine s_call (refInts_f _ hst _ ev.2.1 hvl (by omega)) inX rfl ?_; clear hst; rintro v w ⟨S4, hS4, hv4, hv41, hst⟩)))) <;> (try refine nY ?_) <;> (try replace hst := nH hst)) | ((fail_if_success (go_big_may)); (go_step)) | (((with_reducible refine Sl.k_load ?_; ((refine s_ex hst (qt_ldp_list evX asX inX) ?_; rintro v ⟨hvl, hv1⟩)))) <;> (try refine nY ?_)))
          refine s_parts hst (.cons hv4 .nil) inX inX rfl rfl (by omega) ?_
          clear hst; intro S5 u5 w hS5 hu5 hu51 hst
          (try refine nY ?_)
          repeat' (first | (((with_reducible refine Sl.k_call ?_; ((refine s_call (cD _ hst _ hu5) inX rfl ?_; clear hst; rintro v w ⟨rfl, hst⟩)))) <;> (try refine nY ?_) <;> (try replace hst := nH hst)) | (((with_reducible refine Sl.k_field ?_; (refine s_qt hst (qt_field rfl inX) ?_))) <;> (try refine nY ?_)))
          refine s_stFo 1 hst flatHd rfl BoxIn.h inX rfl (r_hd ok1) inX evX (r_dgx (d := ⟨DI⟩) hD16) (fun h => by cases h) ?_
          clear hst; intro w hRH hst
          (try refine nY ?_)
          (try replace hst := nH hst)
          replace hvc := (hvc.mono hS4).mono hS5
          replace hvd := (hvd.mono hS4).mono hS5
          replace hG := (hG.mono hS4).mono hS5
          repeat' (first | (((with_reducible refine Sl.k_call ?_; ((refine s_call (cR1 _ hst hG _ hvc) inX rfl ?_; clear hst; rintro v w ⟨rfl, hst⟩)))) <;> (try refine nY ?_) <;> (try replace hst := nH hst)) | ((fail_if_success (go_big_may)); (go_step)) | (((with_reducible refine Sl.k_field ?_; (refine s_qt hst (qt_field rfl inX) ?_))) <;> (try refine nY ?_)))
          refine s_stFo 3 hst flatHd rfl BoxIn.h inX rfl hRH inX evX (r_dgx (d := RP) hR1) (fun h => by cases h) ?_
          clear hst hRH; intro w hRH hst
          (try refine nY ?_)
          (try replace hst := nH hst)
          repeat' (first | (((with_reducible refine Sl.k_call ?_; ((refine s_call (cR2 _ hst hG _ hvd) inX rfl ?_; clear hst; rintro v w ⟨rfl, hst⟩)))) <;> (try refine nY ?_) <;> (try replace hst := nH hst)) | ((fail_if_success (go_big_may)); (go_step)) | (((with_reducible refine Sl.k_field ?_; (refine s_qt hst (qt_field rfl inX) ?_))) <;> (try refine nY ?_)))
          refine s_stFo 4 hst flatHd rfl BoxIn.h inX rfl hRH inX evX (r_dgx (d := RN) hR2) (fun h => by cases h) ?_
          clear hst hRH; intro w hRH hst
          (try refine nY ?_)
          (try replace hst := nH hst)
          repeat' (first | (((with_reducible (refine Sl.k_load ?_; with_unfolding_all refine s_qt hst (qt_loadF rfl BoxIn.h hRH inX) ?_))) <;> (try refine nY ?_)) | ((fail_if_success (go_big_may)); (go_step)))
          refine s_stW0 hst rfl BoxIn.h inX evX hRH rfl ?_
          clear hst; intro w hst
          (try refine nY ?_)
          (try replace hst := nH hst)
          repeat' (((fail_if_success (go_big_may)); (go_step)))
          exact ret_F rfl hst rfl BoxIn.h inX hRH ⟨_, rfl, by rw [hE.out], St.weaken (hle.trans (hS4.trans hS5)) hst.drop.drop⟩
end Go.Proofs.YtgihhhdeoaplhaaDoor

/- Package merkle: the examples of the law's sanity function: plain facts; comparing lists of digests; leaves as bytes. -/
--@opt
--@u32
--@hgp
--@flat
--@dg
--@ex0
namespace Go.Proofs.YtgihhhdeoaplhaaDoor
set_option linter.unusedSimpArgs false
set_option linter.unusedVariables false
open Go.RowKit Go.Sl

def digK {α : Type} (tag : Int) (parts : List (List UInt8)) (k : List UInt8 → α) : α := hashK (UInt8.ofNat tag.toNat :: joinB parts) fun h => fzBs (h.take 16) k
theorem digK_eq {α : Type} (tag : Int) (parts : List (List UInt8)) (k : List UInt8 → α) : digK tag parts k = k (dig tag parts) := by
  rw [digK, hashK_eq, fzBs_eq]; rfl
def dA : Dg := ⟨[1, 0, 0, 0, 0, 0, 0, 0, 0, 0, 0, 0, 0, 0, 0, 0]⟩
def dB : Dg := ⟨[2, 0, 0, 0, 0, 0, 0, 0, 0, 0, 0, 0, 0, 0, 0, 0]⟩
def dC : Dg := ⟨[3, 0, 0, 0, 0, 0, 0, 0, 0, 0, 0, 0, 0, 0, 0, 0]⟩
def dLeft : Dg := nodeM (leafM dA) (leafM dB)
def dRoot : Dg := nodeM dLeft (leafM dC)
set_option maxRecDepth 1000000 in
theorem differ : nodeM dLeft (leafM dA) ≠ dRoot := by
  have h : (digK 1 [dA.l] fun la => digK 1 [dB.l] fun lb => digK 1 [dC.l] fun lc => digK 2 [la, lb] fun left => digK 2 [left, la] fun x => digK 2 [left, lc] fun y => decide (x ≠ y)) = true := by decide +kernel
  simp only [digK_eq] at h
  intro e
  exact of_decide_eq_true h (congrArg Arr.l e)
theorem root3 : rootM [dA, dB, dC] = dRoot := rfl
theorem proof3 : proofM [dA, dB, dC] 2 = [dLeft] := rfl
theorem ver1 : verifyM dRoot 3 2 dC [dLeft] = true := by
  have h : verifyM (rootM [dA, dB, dC]) 3 2 dC (proofM [dA, dB, dC] 2) = true := verify_complete (l := [dA, dB, dC]) (i := 2) (by decide)
  exact h
theorem ver2 : verifyM dRoot 3 2 dA [dLeft] = false := by
  have h : foldV (sidesM 3 2) dA [dLeft] = nodeM dLeft (leafM dA) := rfl
  rw [verifyM, h, decide_eq_false differ]
  rfl
theorem ver3 : verifyM dRoot 3 1 dC [dLeft] = false := by
  have h : (sidesM 3 1).length = 2 := rfl
  rw [verifyM, h]
  rfl

theorem rl_dgs {S : Snap} (xs : List Dg) (h : ∀ d ∈ xs, d.l.length = 16) : RL S (cF dgC xs) xs := by
  refine ⟨dgc_len xs h, fun i x hx => ?_⟩
  obtain ⟨hi, rfl⟩ := List.getElem?_eq_some_iff.1 hx
  have : ((cF dgC xs).drop (i * 16)).take 16 = u8s xs[i].l := by
    clear hx
    induction xs generalizing i with
    | nil => simp at hi
    | cons y r ih =>
      have h1 := h y (.head _)
      have e : cF dgC (y :: r) = u8s y.l ++ cF dgC r := rfl
      cases i with
      | zero => rw [e, Nat.zero_mul, List.drop_zero, List.take_append_of_le_length (by rw [u8s_length, h1]; exact Nat.le_refl _), List.take_of_length_le (by rw [u8s_length, h1]; exact Nat.le_refl _)]; rfl
      | succ i =>
        rw [e, List.drop_append, List.drop_of_length_le (by rw [u8s_length, h1]; omega), List.nil_append, u8s_length, h1, show (i + 1) * 16 - 16 = i * 16 by omega]
        exact ih (fun d hd => h d (.tail _ hd)) i (by simpa using hi)
  show Rep.R S (((cF dgC xs).drop (i * 16)).take 16) xs[i]
  rw [this]
  exact r_dg (h _ (List.getElem_mem hi))
theorem lit_dgs {S : Snap} {M : List Chunk} {w : World} {v : Value} {n : Nat} {c : List Value} {T : TypeId} (xs : List Dg) (hx : ∀ d ∈ xs, d.l.length = 16) (h : St S (.sl v T 16 n c :: M) w) (hc : c = cF dgC xs) (hn : n = xs.length) : ∃ S', S.Le S' ∧ St S' M w ∧ RSl S' v xs := by
  subst hc
  exact St.freeze (α := Dg) h (rl_dgs xs hx) hn

set_option maxRecDepth 8000 in
set_option maxHeartbeats 400000 in
theorem same_c {S M} (w : World) (hst : St S M w) (va vb : Value) (a b : List Dg) (ha : RSl S va a) (hb : RSl S vb b) (hma : a.length ≤ 1048576) (hmb : b.length ≤ 1048576) :
    Rets Tryd.prog 33 [va, vb] w fun v w' => v = .bool (decide (a = b)) ∧ St S M w' := by
  unfold Rets
  by_cases hl : a.length = b.length
  · have h1 : ((a.length : Int) != (b.length : Int)) = false := bne_eq_false_iff_eq.2 (by omega)
    have hll : a.length ≤ b.length ∧ b.length ≤ a.length := by omega
    clear hl
    go_enter Tryd.func33, Tryd.ntmps33
    repeat' (first | ((fail_if_success (go_big_may)); (go_step)) | (((with_reducible refine Sl.k_call ?_; (refine s_qt hst (by exact qt_len evX asX inX) ?_))) <;> (try refine nY ?_)) | (with_reducible refine Sl.gate rfl ?_; (go_step)))
    clear h1
    go_loopw [5] (fun v wr => ∃ i : Nat, i ≤ a.length ∧ v = .int .i64 i ∧ Hid (a.take i = b.take i) ∧ St S M wr) (fun v _ => a.length - (intOf v).toNat)
    case atStart => exact ⟨0, Nat.zero_le _, rfl, Lib.hid rfl, hst⟩
    case round =>
      clear hst
      obtain ⟨i, hi, rfl, ht, hst⟩ := hrel
      by_cases hlt : i < a.length
      · have hlb : i < b.length := by omega
        have hda := ha.dgs a[i] (List.getElem_mem hlt)
        have hdb := hb.dgs b[i] (List.getElem_mem hlb)
        repeat' (first | ((fail_if_success (go_big_may)); (go_step)) | (((with_reducible refine Sl.k_call ?_; (refine s_qt hst (by exact qt_len evX asX inX) ?_))) <;> (try refine nY ?_)) | (with_reducible refine Sl.gate rfl ?_; (go_step)))
        refine v_begin hst (by kernel_rfl) ?_; clear hst; intro ops; (try refine nY ?_)
        (refine t_qt 0 rfl (by kernel_rfl) rfl rfl (by exact qt_move evX) ?_) <;> (try refine nY ?_)
        (refine t_qt 1 rfl (by kernel_rfl) rfl rfl (by exact qt_move evX) ?_) <;> (try refine nY ?_)
        ((refine t_ex0 2 rfl (by kernel_rfl) rfl rfl (qt_index evX asX rfl inX inX omX omX) ?_; rintro v hp; (try simp only [Int.toNat_natCast, Int.toNat_natCast_add_one, Int.reduceToNat] at hp))) <;> (try refine nY ?_)
        (refine t_qt 3 rfl (by kernel_rfl) rfl rfl (by exact qt_ldp_flat evX asX inX inX rfl) ?_) <;> (try refine nY ?_)
        (refine t_qt 4 rfl (by kernel_rfl) rfl rfl (by exact qt_move evX) ?_) <;> (try refine nY ?_)
        (refine t_qt 5 rfl (by kernel_rfl) rfl rfl (by exact qt_move evX) ?_) <;> (try refine nY ?_)
        ((refine t_ex0 6 rfl (by kernel_rfl) rfl rfl (qt_index evX asX rfl inX inX omX omX) ?_; rintro v hp; (try simp only [Int.toNat_natCast, Int.toNat_natCast_add_one, Int.reduceToNat] at hp))) <;> (try refine nY ?_)
        (refine t_qt 7 rfl (by kernel_rfl) rfl rfl (by exact qt_ldp_flat evX asX inX inX rfl) ?_) <;> (try refine nY ?_)
        (refine t_qt 8 rfl (by kernel_rfl) rfl rfl (qt_neqK rfl rfl (r_dg hda) (r_dg hdb) inX inX inferInstance) ?_) <;> (try refine nY ?_)
        refine v_done (by kernel_rfl) ?_; clear ops; intro w hst
        repeat' (first | ((fail_if_success (go_big_may)); (go_step)) | (with_reducible refine Sl.gate rfl ?_; (go_step)))
        · have hne : a[i] ≠ b[i] := by simpa using (by assumption : (!decide (a[i] = b[i])) = true)
          have hE : Hid (decide (a = b) = false) := Lib.hid (decide_eq_false fun e => hne (by subst e; rfl))
          clear hne
          go_ret
          exact ⟨_, rfl, by rw [hE.out]; rfl, hst⟩
        · have he : a[i] = b[i] := by simpa using (by assumption : (!decide (a[i] = b[i])) = false)
          have hE := Lib.hid ((take_succ_eq ht.out hlt hlb).2 he)
          clear he
          go_roundw
          case rel => exact ⟨i + 1, by omega, by go_num, hE, hst⟩
          case measure => simp [intOf]; omega
      · have hab : a = b := by
          have := ht.out
          rwa [List.take_of_length_le (by omega), List.take_of_length_le (by omega)] at this
        subst hab
        repeat' (first | ((fail_if_success (go_big_may)); (go_step)) | (((with_reducible refine Sl.k_call ?_; (refine s_qt hst (by exact qt_len evX asX inX) ?_))) <;> (try refine nY ?_)) | (with_reducible refine Sl.gate rfl ?_; (go_step)))
        go_ret
        exact ⟨_, rfl, by simp, hst⟩
  · have h1 : ((a.length : Int) != (b.length : Int)) = true := bne_iff_ne.2 (by omega)
    have hab : Hid (decide (a = b) = false) := Lib.hid (decide_eq_false fun e => hl (by rw [e]))
    clear hl
    go_enter Tryd.func33, Tryd.ntmps33
    repeat' (first | ((fail_if_success (go_big_may)); (go_step)) | (((with_reducible refine Sl.k_call ?_; (refine s_qt hst (by exact qt_len evX asX inX) ?_))) <;> (try refine nY ?_)) | (with_reducible refine Sl.gate rfl ?_; (go_step)))
    go_ret
    exact ⟨_, rfl, by rw [hab.out]; rfl, hst⟩

end Go.Proofs.YtgihhhdeoaplhaaDoor

/- Package merkle: the sanity function of the law, walked. -/
--@opt
--@u32
--@hgp
--@flat
--@dg
--@ex0
namespace Go.Proofs.YtgihhhdeoaplhaaDoor
set_option linter.unusedSimpArgs false
set_option linter.unusedVariables false
open Go.RowKit Go.Sl

theorem dA_len : dA.l.length = 16 := rfl
theorem dB_len : dB.l.length = 16 := rfl
theorem dC_len : dC.l.length = 16 := rfl
theorem dLeft_len : dLeft.l.length = 16 := nodeM_len _ _
theorem dRoot_len : dRoot.l.length = 16 := nodeM_len _ _
instance lenA : LenIs dA.l 16 := ⟨rfl⟩
instance lenB : LenIs dB.l 16 := ⟨rfl⟩
instance lenC : LenIs dC.l 16 := ⟨rfl⟩

end Go.Proofs.YtgihhhdeoaplhaaDoor

/- The reference's search for collisions, walked. -/
--@u32
--@hgp
--@flat
--@dg
--@ex0
namespace Go.Proofs.YtgihhhdeoaplhaaDoor
set_option linter.unusedSimpArgs false
set_option linter.unusedVariables false
open Go.RowKit Go.Sl

theorem coll_fin {L L' R R' : Dg} {N : Prop} [Decidable N] {c1 c2 c3 b : Bool} (g1 : decide (L = L') = c1) (g2 : decide (R = R') = c2) (g3 : decide N = c3) : (if (L ≠ L' ∨ R ≠ R') ∧ N then true else b) = ((!c1 || !c2) && c3 || b) := by
  subst g1; subst g2; subst g3
  by_cases h1 : L = L' <;> by_cases h2 : R = R' <;> by_cases h3 : N <;> simp [h1, h2, h3]
theorem getD0' {l : List Dg} (h : 0 < l.length) : l[0] = l.getD 0 zeroD := by rw [List.getD_eq_getElem?_getD, List.getElem?_eq_getElem h]; rfl
theorem lastD_len {p : List Dg} (h : ∀ d ∈ p, d.l.length = 16) : (lastD p).l.length = 16 := by
  rw [lastD, List.getD_eq_getElem?_getD]
  cases e : p[p.length - 1]? with
  | none => rfl
  | some d => exact h d (List.mem_of_getElem? e)

set_option maxRecDepth 8000 in
set_option maxHeartbeats 2000000 in
theorem collides_c : ∀ (m : Nat) {S M} (w : World) (_hst : St S M w) (_hG : Glob S) (vl : Value) (l : List Dg) (_hl : RSl S vl l) (i : Nat) (_hi : i < l.length) (_hm : l.length ≤ m) (_hm2 : m ≤ 1000) (leaf : Dg) (_hf : leaf.l.length = 16) (vp : Value) (proof : List Dg) (_hp : RSl S vp proof) (_hpm : proof.length ≤ 1048576),
    Rets Tryd.prog 24 [vl, .int .i64 (i : Int), dgV leaf, vp] w fun v w' => v = .bool (collM l i leaf proof) ∧ St S M w' := by
  intro m
  induction m with
  | zero => intro S M w hst hG vl l hl i hi hm; omega
  | succ m ih =>
    intro S M w hst hG vl l hl i hi hm hm2 leaf hf vp proof hp hpm
    haveI : LenIs leaf.l 16 := ⟨hf⟩
    have hl1 := hl.oneCell
    have hp1 := hp.oneCell
    have hpd := hp.dgs
    by_cases h1 : l.length = 1
    · have hE := Lib.hid (collM_one (i := i) (leaf := leaf) (proof := proof) h1)
      have h3 : ((l.length : Int) == 1) = true := beq_iff_eq.2 (by omega)
      have hla : 0 < l.length := by omega
      have hga := Lib.hid (getD0' hla)
      have hda := hl.dgs l[0] (List.getElem_mem hla)
      clear h1
      unfold Rets
      by_cases hab : l[0] = leaf
      · have hv : Hid (collM l i leaf proof = false) := Lib.hid (by rw [hE.out, ← hga.out, hab]; simp)
        go_enter Tryd.func24, Tryd.ntmps24
        repeat' (first | (((with_reducible refine Sl.k_guard ?_; ((refine Sl.guard_yes rfl ?_)))) <;> (try refine nY ?_)) | ((fail_if_success (go_big_may)); (go_step)) | (((with_reducible refine Sl.k_call ?_; (refine s_qt hst (by exact qt_len evX asX inX) ?_))) <;> (try refine nY ?_)) | (with_reducible refine Sl.gate rfl ?_; (go_step)) | (((((refine s_box hst evX rfl ?_; clear hst; intro bx w hst)))) <;> (try refine nY ?_) <;> (try replace hst := nH hst)))
        refine v_begin hst (by kernel_rfl) ?_; clear hst; intro ops; (try refine nY ?_)
        (refine t_qt 0 rfl (by kernel_rfl) rfl rfl (by exact qt_move evX) ?_) <;> (try refine nY ?_)
        ((refine t_ex0 1 rfl (by kernel_rfl) rfl rfl (qt_index evX asX rfl inX inX omX omX) ?_; rintro v hp; (try simp only [Int.toNat_natCast, Int.toNat_natCast_add_one, Int.reduceToNat] at hp))) <;> (try refine nY ?_)
        (refine t_qt 2 rfl (by kernel_rfl) rfl rfl (by exact qt_ldp_flat evX asX inX inX rfl) ?_) <;> (try refine nY ?_)
        (refine t_qt 3 rfl (by kernel_rfl) rfl rfl (by exact qt_loadD evX BoxIn.h inX inX) ?_) <;> (try refine nY ?_)
        (refine t_qt 4 rfl (by kernel_rfl) rfl rfl (qt_neqK_b rfl rfl (r_dg hda) (r_dg hf) inX inX inferInstance (decide_eq_true hab)) ?_) <;> (try refine nY ?_)
        (refine t_qt 5 rfl (by kernel_rfl) rfl rfl (by exact qt_move evX) ?_) <;> (try refine nY ?_)
        (refine t_no 6 rfl (by kernel_rfl) rfl rfl ?_) <;> (try refine nY ?_)
        (refine t_no 7 rfl (by kernel_rfl) rfl rfl ?_) <;> (try refine nY ?_)
        (refine t_no 8 rfl (by kernel_rfl) rfl rfl ?_) <;> (try refine nY ?_)
        (refine t_no 9 rfl (by kernel_rfl) rfl rfl ?_) <;> (try refine nY ?_)
        (refine t_no 10 rfl (by kernel_rfl) rfl rfl ?_) <;> (try refine nY ?_)
        (refine t_no 11 rfl (by kernel_rfl) rfl rfl ?_) <;> (try refine nY ?_)
        (refine t_no 12 rfl (by kernel_rfl) rfl rfl ?_) <;> (try refine nY ?_)
        (refine t_qt 13 rfl (by kernel_rfl) rfl rfl (by exact qt_pick_f rfl evX) ?_) <;> (try refine nY ?_)
        (refine t_qt 14 rfl (by kernel_rfl) rfl rfl (by exact qt_assign evX) ?_) <;> (try refine nY ?_)
        refine v_done (by kernel_rfl) ?_; clear ops; intro w hst
        repeat' (((fail_if_success (go_big_may)); (go_step)))
        go_ret
        exact ⟨_, rfl, by rw [hv.out]; rfl, hst.drop⟩
      · have hv : Hid (collM l i leaf proof = decide (leafM l[0] = leafM leaf)) := Lib.hid (by rw [hE.out, ← hga.out]; simp [hab])
        go_enter Tryd.func24, Tryd.ntmps24
        repeat' (first | (((with_reducible refine Sl.k_guard ?_; ((refine Sl.guard_yes rfl ?_)))) <;> (try refine nY ?_)) | ((fail_if_success (go_big_may)); (go_step)) | (((with_reducible refine Sl.k_call ?_; (refine s_qt hst (by exact qt_len evX asX inX) ?_))) <;> (try refine nY ?_)) | (with_reducible refine Sl.gate rfl ?_; (go_step)) | (((((refine s_box hst evX rfl ?_; clear hst; intro bx w hst)))) <;> (try refine nY ?_) <;> (try replace hst := nH hst)))
        refine v_begin hst (by kernel_rfl) ?_; clear hst; intro ops; (try refine nY ?_)
        (refine t_qt 0 rfl (by kernel_rfl) rfl rfl (by exact qt_move evX) ?_) <;> (try refine nY ?_)
        ((refine t_ex0 1 rfl (by kernel_rfl) rfl rfl (qt_index evX asX rfl inX inX omX omX) ?_; rintro v hp; (try simp only [Int.toNat_natCast, Int.toNat_natCast_add_one, Int.reduceToNat] at hp))) <;> (try refine nY ?_)
        (refine t_qt 2 rfl (by kernel_rfl) rfl rfl (by exact qt_ldp_flat evX asX inX inX rfl) ?_) <;> (try refine nY ?_)
        (refine t_qt 3 rfl (by kernel_rfl) rfl rfl (by exact qt_loadD evX BoxIn.h inX inX) ?_) <;> (try refine nY ?_)
        (refine t_qt 4 rfl (by kernel_rfl) rfl rfl (qt_neqK_b rfl rfl (r_dg hda) (r_dg hf) inX inX inferInstance (decide_eq_false hab)) ?_) <;> (try refine nY ?_)
        (refine t_qt 5 rfl (by kernel_rfl) rfl rfl (by exact qt_move evX) ?_) <;> (try refine nY ?_)
        (refine t_qt 6 rfl (by kernel_rfl) rfl rfl (by exact qt_move evX) ?_) <;> (try refine nY ?_)
        ((refine t_ex0 7 rfl (by kernel_rfl) rfl rfl (qt_index evX asX rfl inX inX omX omX) ?_; rintro v hp; (try simp only [Int.toNat_natCast, Int.toNat_natCast_add_one, Int.reduceToNat] at hp))) <;> (try refine nY ?_)
        (refine t_qt 8 rfl (by kernel_rfl) rfl rfl (by exact qt_ldp_flat evX asX inX inX rfl) ?_) <;> (try refine nY ?_)
        ((refine t_call 9 rfl (by kernel_rfl) rfl (fun S' M' w hS hM hst => refLeaf_c w hst (hG.mono hS) l[0] hda) inX rfl ?_)) <;> (try refine nY ?_)
        (refine t_qt 10 rfl (by kernel_rfl) rfl rfl (by exact qt_loadD evX BoxIn.h inX inX) ?_) <;> (try refine nY ?_)
        ((refine t_call 11 rfl (by kernel_rfl) rfl (fun S' M' w hS hM hst => refLeaf_c w hst (hG.mono hS) leaf hf) inX rfl ?_)) <;> (try refine nY ?_)
        ((refine t_qt 12 rfl (by kernel_rfl) rfl rfl (qt_eqlK rfl rfl (r_dg (leafM_len _)) (r_dg (leafM_len _)) inX inX inferInstance) ?_)) <;> (try refine nY ?_)
        (refine t_qt 13 rfl (by kernel_rfl) rfl rfl (by exact qt_pick_t rfl evX) ?_) <;> (try refine nY ?_)
        (refine t_qt 14 rfl (by kernel_rfl) rfl rfl (by exact qt_assign evX) ?_) <;> (try refine nY ?_)
        refine v_done (by kernel_rfl) ?_; clear ops; intro w hst
        repeat' (((fail_if_success (go_big_may)); (go_step)))
        go_ret
        exact ⟨_, rfl, by rw [hv.out]; rfl, hst.drop⟩
    · have h3 : ((l.length : Int) == 1) = false := beq_eq_false_iff_ne.2 (by omega)
      have hl2 : 2 ≤ l.length := by omega
      by_cases h0 : proof.length = 0
      · have hE := Lib.hid (collM_nil (i := i) (leaf := leaf) hl2 h0)
        have h00 : ((proof.length : Int) == 0) = true := beq_iff_eq.2 (by omega)
        clear h0 h1
        unfold Rets
        go_enter Tryd.func24, Tryd.ntmps24
        repeat' (first | (((with_reducible refine Sl.k_guard ?_; ((refine Sl.guard_yes rfl ?_)))) <;> (try refine nY ?_)) | ((fail_if_success (go_big_may)); (go_step)) | (((with_reducible refine Sl.k_call ?_; (refine s_qt hst (by exact qt_len evX asX inX) ?_))) <;> (try refine nY ?_)) | (with_reducible refine Sl.gate rfl ?_; (go_step)) | (((((refine s_box hst evX rfl ?_; clear hst; intro bx w hst)))) <;> (try refine nY ?_) <;> (try replace hst := nH hst)))
        go_ret
        exact ⟨_, rfl, by rw [hE.out]; rfl, hst.drop⟩
      · have h00 : ((proof.length : Int) == 0) = false := beq_eq_false_iff_ne.2 (by omega)
        obtain ⟨hs1, hs2⟩ := splitM_spec hl2
        have hEL := Lib.hid (fun h => collM_left (i := i) (leaf := leaf) hl2 h0 h)
        have hER := Lib.hid (fun h => collM_right (i := i) (leaf := leaf) hl2 h0 h)
        have hsp := fun {S M} (w : World) (hst : St S M w) => refSplit_c w hst l.length hl2 (by omega)
        have hal : (l.take (splitM l.length)).length ≤ m ∧ (l.take (splitM l.length)).length = splitM l.length := by rw [List.length_take]; omega
        have har : (l.drop (splitM l.length)).length ≤ m ∧ (l.drop (splitM l.length)).length = l.length - splitM l.length := by rw [List.length_drop]; omega
        have E9 : Hid ((l.drop (splitM l.length)).take (l.length - splitM l.length) = l.drop (splitM l.length)) := Lib.hid (List.take_of_length_le (by rw [List.length_drop]; exact Nat.le_refl _))
        obtain ⟨q, hq⟩ : ∃ q, proof.length = q + 1 := ⟨proof.length - 1, by omega⟩
        have hqb : q + 1 ≤ proof.length ∧ proof.length ≤ q + 1 := by omega
        have hqi : Hid (proof.take q = initD proof) := Lib.hid (by rw [initD, hq]; rfl)
        have hlt1 : ((proof.length : Int) - 1).toNat < proof.length := by omega
        have hql : proof[((proof.length : Int) - 1).toNat]'hlt1 = lastD proof := lastD_get _ (by omega)
        have hilen : (initD proof).length ≤ 1048576 := by rw [init_len]; omega
        have lP := lastD_len hpd
        have cL := fun {S M} (w : World) (hst : St S M w) (hG : Glob S) (v : Value) (hv : RSl S v (l.take (splitM l.length))) => refRoot_c m w hst hG v _ hv hal.1 (by omega)
        have cR := fun {S M} (w : World) (hst : St S M w) (hG : Glob S) (v : Value) (hv : RSl S v (l.drop (splitM l.length))) => refRoot_c m w hst hG v _ hv har.1 (by omega)
        have lL := rootM_len (l.take (splitM l.length))
        have lR := rootM_len (l.drop (splitM l.length))
        have HA1 := Lib.hid hal.2
        have HA2 := Lib.hid har.2
        have hal1 := hal.1
        have har1 := har.1
        clear h0 h1 hq hal har
        generalize rootM (l.take (splitM l.length)) = L at *
        generalize rootM (l.drop (splitM l.length)) = R at *
        generalize lastD proof = P at *
        generalize hk : splitM l.length = k at *
        have Hk := Lib.hid hk
        clear hk
        haveI : LenIs L.l 16 := ⟨lL⟩
        haveI : LenIs R.l 16 := ⟨lR⟩
        haveI : LenIs P.l 16 := ⟨lP⟩
        unfold Rets
        by_cases hik : i < k
        · have hE := Lib.hid (hEL.out hik)
          clear hEL hER
          have cC := fun {S M} (w : World) (hst : St S M w) (hG : Glob S) (v : Value) (hv : RSl S v (initD proof)) => combine_c k w hst hG k i hik (Nat.le_refl _) (by omega) leaf hf v (initD proof) hv hilen
          have cX := fun {S M} (w : World) (hst : St S M w) (hG : Glob S) (v : Value) (hv : RSl S v (l.take k)) (u : Value) (hu : RSl S u (initD proof)) => ih w hst hG v (l.take k) hv i (by rw [HA1.out]; exact hik) hal1 (by omega) leaf hf u (initD proof) hu hilen
          have lD := combM_len k i leaf (initD proof)
          generalize combM k i leaf (initD proof) = CM at *
          generalize collM (l.take k) i leaf (initD proof) = X at *
          haveI : LenIs CM.1.l 16 := ⟨lD⟩
          obtain ⟨c1, g1⟩ : ∃ c, decide (CM.1 = L) = c := ⟨_, rfl⟩
          obtain ⟨c2, g2⟩ : ∃ c, decide (P = R) = c := ⟨_, rfl⟩
          obtain ⟨c3, g3⟩ : ∃ c, decide (nodeM CM.1 P = nodeM L R) = c := ⟨_, rfl⟩
          have G1 := Lib.hid g1
          have G2 := Lib.hid g2
          have G3 := Lib.hid g3
          go_enter Tryd.func24, Tryd.ntmps24
          repeat' (first | (((with_reducible refine Sl.k_guard ?_; ((refine Sl.guard_yes rfl ?_)))) <;> (try refine nY ?_)) | (((with_reducible refine Sl.k_call ?_; ((refine s_call (hsp _ hst) inX rfl ?_; clear hst; rintro v w ⟨rfl, hst⟩)))) <;> (try refine nY ?_) <;> (try replace hst := nH hst)) | ((fail_if_success (go_big_may)); (go_step)) | (((with_reducible refine Sl.k_call ?_; (refine s_qt hst (by exact qt_len evX asX inX) ?_))) <;> (try refine nY ?_)) | (with_reducible refine Sl.gate rfl ?_; (go_step)) | (((((refine s_box hst evX rfl ?_; clear hst; intro bx w hst)))) <;> (try refine nY ?_) <;> (try replace hst := nH hst)))
          refine s_slice (a := 0) (b := k) evX hl inX inX (.inl ⟨rfl, rfl⟩) (.inr ⟨.i64, by simp [evF, nth]⟩) (.inl rfl) (by omega) (by omega) ?_
          intro v1 hv1
          replace hv1 : RSl S v1 (l.take k) := hv1
          have hv11 := hv1.oneCell
          (try refine nY ?_)
          repeat' (first | (((with_reducible refine Sl.k_call ?_; ((refine s_call (cL _ hst hG _ hv1) inX rfl ?_; clear hst; rintro v w ⟨rfl, hst⟩)))) <;> (try refine nY ?_) <;> (try replace hst := nH hst)) | ((fail_if_success (go_big_may)); (go_step)) | ((((first | (with_reducible refine Sl.k_store ?_; (refine s_stD hst rfl BoxIn.h inX evX inX lenX ?_); clear hst; intro w hst) | (refine s_alloc hst inX ?_; clear hst; intro bk w hst)))) <;> (try refine nY ?_) <;> (try replace hst := nH hst)))
          refine s_slice (a := k) (b := l.length) evX hl inX inX (.inr ⟨.i64, by simp [evF, nth]⟩) (.inl ⟨rfl, rfl⟩) (.inl rfl) (by omega) (by omega) ?_
          intro v2 hv2
          rw [E9.out] at hv2
          have hv21 := hv2.oneCell
          (try refine nY ?_)
          repeat' (first | (((with_reducible refine Sl.k_call ?_; ((refine s_call (cR _ hst hG _ hv2) inX rfl ?_; clear hst; rintro v w ⟨rfl, hst⟩)))) <;> (try refine nY ?_) <;> (try replace hst := nH hst)) | ((fail_if_success (go_big_may)); (go_step)) | (with_reducible refine Sl.gate rfl ?_; (go_step)) | ((((first | (with_reducible refine Sl.k_store ?_; (refine s_stD hst rfl BoxIn.h inX evX inX lenX ?_); clear hst; intro w hst) | (refine s_alloc hst inX ?_; clear hst; intro bk w hst)))) <;> (try refine nY ?_) <;> (try replace hst := nH hst)))
          refine v_begin hst (by kernel_rfl) ?_; clear hst; intro ops; (try refine nY ?_)
          (refine t_qt 0 rfl (by kernel_rfl) rfl rfl (by exact qt_move evX) ?_) <;> (try refine nY ?_)
          (refine t_qt 1 rfl (by kernel_rfl) rfl rfl (by exact qt_move evX) ?_) <;> (try refine nY ?_)
          (refine t_qt 2 rfl (by kernel_rfl) rfl rfl (by exact qt_loadD evX BoxIn.h inX inX) ?_) <;> (try refine nY ?_)
          (refine t_qt 3 rfl (by kernel_rfl) rfl rfl (by exact qt_move evX) ?_) <;> (try refine nY ?_)
          (refine t_qt 4 rfl (by kernel_rfl) rfl rfl (by exact qt_move evX) ?_) <;> (try refine nY ?_)
          ((refine t_ex0 5 rfl (by kernel_rfl) rfl rfl (qt_slice (a := 0) (b := q) evX hp inX inX (.inl ⟨rfl, rfl⟩) (.inr ⟨.i64, by simp [evF, nth]; omega⟩) (.inl rfl) (by omega) (by omega) ) ?_; rintro  v5 hw5)) <;> (try refine nY ?_)
          (refine t_call 6 rfl (by kernel_rfl) rfl (fun S' M' w hS hM hst => cC w hst (hG.mono hS) v5 (show RSl _ v5 (initD proof) by rw [← hqi.out]; exact hw5.mono hS)) inX rfl ?_) <;> (try refine nY ?_)
          (refine t_qt 7 rfl (by kernel_rfl) rfl rfl (by exact qt_move evX) ?_) <;> (try refine nY ?_)
          (refine t_qt 8 rfl (by kernel_rfl) rfl rfl (by exact qt_extract rfl rfl) ?_) <;> (try refine nY ?_)
          (refine t_pure 9 rfl (by kernel_rfl) rfl rfl (fun _ _ => by exact qt_extract rfl rfl) ?_) <;> (try refine nY ?_)
          refine v_one 10 rfl (by kernel_rfl) ?_; intro w hst K hK; refine s_alloc hst inX ?_; clear hst; intro b10 w hst; (try refine nY ?_); (try replace hst := nH hst); refine v_next hK hst (Snap.Le.refl _) (Suf.cons (Suf.refl _)) ?_; clear hst hK K; (try clear w); (try refine nY ?_)
          refine v_one 11 rfl (by kernel_rfl) ?_; intro w hst K hK; (refine s_stD hst rfl BoxIn.h inX evX inX lenX ?_); clear hst; intro w hst; (try refine nY ?_); (try replace hst := nH hst); refine v_last hK hst ?_; clear hst hK K; (try clear w); (try refine nY ?_)
          (refine t_qt 12 rfl (by kernel_rfl) rfl rfl (by exact qt_assign evX) ?_) <;> (try refine nY ?_)
          refine v_done (by kernel_rfl) ?_; clear ops; intro w hst
          repeat' (((fail_if_success (go_big_may)); (go_step)))
          cases c1
          cases c3
          rotate_left 2
          cases c2
          cases c3
          all_goals
            refine v_begin hst (by kernel_rfl) ?_; clear hst; intro ops; (try refine nY ?_)
            (refine t_qt 0 rfl (by kernel_rfl) rfl rfl (by exact qt_loadD evX BoxIn.h inX inX) ?_) <;> (try refine nY ?_)
            (refine t_qt 1 rfl (by kernel_rfl) rfl rfl (by exact qt_loadD evX BoxIn.h inX inX) ?_) <;> (try refine nY ?_)
            (refine t_qt 2 rfl (by kernel_rfl) rfl rfl (qt_neqK_b rfl rfl (r_dg lD) (r_dg lL) inX inX inferInstance g1) ?_) <;> (try refine nY ?_)
            (refine t_qt 3 rfl (by kernel_rfl) rfl rfl (by exact qt_move evX) ?_) <;> (try refine nY ?_)
            (first | refine t_qt 4 rfl (by kernel_rfl) rfl rfl (by exact qt_move evX) ?_ | refine t_no 4 rfl (by kernel_rfl) rfl rfl ?_) <;> (try refine nY ?_)
            (first | refine t_qt 5 rfl (by kernel_rfl) rfl rfl (by exact qt_move evX) ?_ | refine t_no 5 rfl (by kernel_rfl) rfl rfl ?_) <;> (try refine nY ?_)
            ((first | (refine t_ex0 6 rfl (by kernel_rfl) rfl rfl (qt_index evX hp rfl inX inX omX omX ) ?_; rintro  v6 hw6; rw [hql] at hw6) | refine t_no 6 rfl (by kernel_rfl) rfl rfl ?_)) <;> (try refine nY ?_)
            (first | refine t_qt 7 rfl (by kernel_rfl) rfl rfl (by exact qt_ldp_flat evX asX inX inX rfl) ?_ | refine t_no 7 rfl (by kernel_rfl) rfl rfl ?_) <;> (try refine nY ?_)
            (first | refine t_qt 8 rfl (by kernel_rfl) rfl rfl (by exact qt_loadD evX BoxIn.h inX inX) ?_ | refine t_no 8 rfl (by kernel_rfl) rfl rfl ?_) <;> (try refine nY ?_)
            ((first | refine t_qt 9 rfl (by kernel_rfl) rfl rfl (qt_neqK_b rfl rfl (r_dg lP) (r_dg lR) inX inX inferInstance g2) ?_ | refine t_no 9 rfl (by kernel_rfl) rfl rfl ?_)) <;> (try refine nY ?_)
            (refine t_qt 10 rfl (by kernel_rfl) rfl rfl (by first | exact qt_pick_t rfl evX | exact qt_pick_f rfl evX) ?_) <;> (try refine nY ?_)
            (refine t_qt 11 rfl (by kernel_rfl) rfl rfl (by exact qt_move evX) ?_) <;> (try refine nY ?_)
            (first | refine t_qt 12 rfl (by kernel_rfl) rfl rfl (by exact qt_loadD evX BoxIn.h inX inX) ?_ | refine t_no 12 rfl (by kernel_rfl) rfl rfl ?_) <;> (try refine nY ?_)
            (first | refine t_qt 13 rfl (by kernel_rfl) rfl rfl (by exact qt_move evX) ?_ | refine t_no 13 rfl (by kernel_rfl) rfl rfl ?_) <;> (try refine nY ?_)
            (first | refine t_qt 14 rfl (by kernel_rfl) rfl rfl (by exact qt_move evX) ?_ | refine t_no 14 rfl (by kernel_rfl) rfl rfl ?_) <;> (try refine nY ?_)
            ((first | (refine t_ex0 15 rfl (by kernel_rfl) rfl rfl (qt_index evX hp rfl inX inX omX omX ) ?_; rintro  v15 hw15; rw [hql] at hw15) | refine t_no 15 rfl (by kernel_rfl) rfl rfl ?_)) <;> (try refine nY ?_)
            (first | refine t_qt 16 rfl (by kernel_rfl) rfl rfl (by exact qt_ldp_flat evX asX inX inX rfl) ?_ | refine t_no 16 rfl (by kernel_rfl) rfl rfl ?_) <;> (try refine nY ?_)
            ((first | refine t_call 17 rfl (by kernel_rfl) rfl (fun S' M' w hS hM hst => refNode_c w hst (hG.mono hS) CM.1 P lD lP) inX rfl ?_ | refine t_no 17 rfl (by kernel_rfl) rfl rfl ?_)) <;> (try refine nY ?_)
            (first | refine t_qt 18 rfl (by kernel_rfl) rfl rfl (by exact qt_loadD evX BoxIn.h inX inX) ?_ | refine t_no 18 rfl (by kernel_rfl) rfl rfl ?_) <;> (try refine nY ?_)
            (first | refine t_qt 19 rfl (by kernel_rfl) rfl rfl (by exact qt_loadD evX BoxIn.h inX inX) ?_ | refine t_no 19 rfl (by kernel_rfl) rfl rfl ?_) <;> (try refine nY ?_)
            ((first | refine t_call 20 rfl (by kernel_rfl) rfl (fun S' M' w hS hM hst => refNode_c w hst (hG.mono hS) L R lL lR) inX rfl ?_ | refine t_no 20 rfl (by kernel_rfl) rfl rfl ?_)) <;> (try refine nY ?_)
            ((first | refine t_qt 21 rfl (by kernel_rfl) rfl rfl (qt_eqlK_b rfl rfl (r_dg (nodeM_len _ _)) (r_dg (nodeM_len _ _)) inX inX inferInstance g3) ?_ | refine t_no 21 rfl (by kernel_rfl) rfl rfl ?_)) <;> (try refine nY ?_)
            (refine t_qt 22 rfl (by kernel_rfl) rfl rfl (by first | exact qt_pick_t rfl evX | exact qt_pick_f rfl evX) ?_) <;> (try refine nY ?_)
            refine v_done (by kernel_rfl) ?_; clear ops; intro w hst
            repeat' (((fail_if_success (go_big_may)); (go_step)))
          rotate_left
          go_ret
          exact ⟨_, rfl, by rw [hE.out, coll_fin G1.out G2.out G3.out]; simp, hst.drop.drop.drop.drop⟩
          rotate_left 2
          go_ret
          exact ⟨_, rfl, by rw [hE.out, coll_fin G1.out G2.out G3.out]; simp, hst.drop.drop.drop.drop⟩
          all_goals
            refine v_begin hst (by kernel_rfl) ?_; clear hst; intro ops; (try refine nY ?_)
            (refine t_qt 0 rfl (by kernel_rfl) rfl rfl (by exact qt_move evX) ?_) <;> (try refine nY ?_)
            (refine t_qt 1 rfl (by kernel_rfl) rfl rfl (by exact qt_move evX) ?_) <;> (try refine nY ?_)
            ((refine t_ex0 2 rfl (by kernel_rfl) rfl rfl (qt_slice (a := 0) (b := k) evX hl inX inX (.inl ⟨rfl, rfl⟩) (.inr ⟨.i64, by simp [evF, nth]⟩) (.inl rfl) (by omega) (by omega) ) ?_; rintro  v2 hw2)) <;> (try refine nY ?_)
            (refine t_qt 3 rfl (by kernel_rfl) rfl rfl (by exact qt_move evX) ?_) <;> (try refine nY ?_)
            (refine t_qt 4 rfl (by kernel_rfl) rfl rfl (by exact qt_loadD evX BoxIn.h inX inX) ?_) <;> (try refine nY ?_)
            (refine t_qt 5 rfl (by kernel_rfl) rfl rfl (by exact qt_move evX) ?_) <;> (try refine nY ?_)
            (refine t_qt 6 rfl (by kernel_rfl) rfl rfl (by exact qt_move evX) ?_) <;> (try refine nY ?_)
            ((refine t_ex0 7 rfl (by kernel_rfl) rfl rfl (qt_slice (a := 0) (b := q) evX hp inX inX (.inl ⟨rfl, rfl⟩) (.inr ⟨.i64, by simp [evF, nth]; omega⟩) (.inl rfl) (by omega) (by omega) ) ?_; rintro  v7 hw7)) <;> (try refine nY ?_)
            (refine t_call 8 rfl (by kernel_rfl) rfl (fun S' M' w hS hM hst => cX w hst (hG.mono hS) v2 (hw2.mono hS) v7 (show RSl _ v7 (initD proof) by rw [← hqi.out]; exact hw7.mono hS)) inX rfl ?_) <;> (try refine nY ?_)
            (refine t_qt 9 rfl (by kernel_rfl) rfl rfl (by exact qt_assign evX) ?_) <;> (try refine nY ?_)
            refine v_done (by kernel_rfl) ?_; clear ops; intro w hst
            repeat' (((fail_if_success (go_big_may)); (go_step)))
            go_ret
            exact ⟨_, rfl, by rw [hE.out, coll_fin G1.out G2.out G3.out]; simp, hst.drop.drop.drop.drop⟩
        · have hE := Lib.hid (hER.out hik)
          clear hEL hER
          have cC := fun {S M} (w : World) (hst : St S M w) (hG : Glob S) (v : Value) (hv : RSl S v (initD proof)) => combine_c (l.length - k) w hst hG (l.length - k) (i - k) (by omega) (Nat.le_refl _) (by omega) leaf hf v (initD proof) hv hilen
          have cX := fun {S M} (w : World) (hst : St S M w) (hG : Glob S) (v : Value) (hv : RSl S v (l.drop k)) (u : Value) (hu : RSl S u (initD proof)) => ih w hst hG v (l.drop k) hv (i - k) (by rw [HA2.out]; omega) har1 (by omega) leaf hf u (initD proof) hu hilen
          rw [show ((l.length - k : Nat) : Int) = (l.length : Int) - (k : Int) by omega, show ((i - k : Nat) : Int) = (i : Int) - (k : Int) by omega] at cC
          rw [show ((i - k : Nat) : Int) = (i : Int) - (k : Int) by omega] at cX
          have lD := combM_len (l.length - k) (i - k) leaf (initD proof)
          generalize combM (l.length - k) (i - k) leaf (initD proof) = CM at *
          generalize collM (l.drop k) (i - k) leaf (initD proof) = X at *
          haveI : LenIs CM.1.l 16 := ⟨lD⟩
          obtain ⟨c1, g1⟩ : ∃ c, decide (P = L) = c := ⟨_, rfl⟩
          obtain ⟨c2, g2⟩ : ∃ c, decide (CM.1 = R) = c := ⟨_, rfl⟩
          obtain ⟨c3, g3⟩ : ∃ c, decide (nodeM P CM.1 = nodeM L R) = c := ⟨_, rfl⟩
          have G1 := Lib.hid g1
          have G2 := Lib.hid g2
          have G3 := Lib.hid g3
          go_enter Tryd.func24, Tryd.ntmps24
          repeat' (first | (((with_reducible refine Sl.k_guard ?_; ((refine Sl.guard_yes rfl ?_)))) <;> (try refine nY ?_)) | (((with_reducible refine Sl.k_call ?_; ((refine s_call (hsp _ hst) inX rfl ?_; clear hst; rintro v w ⟨rfl, hst⟩)))) <;> (try refine nY ?_) <;> (try replace hst := nH hst)) | ((fail_if_success (go_big_may)); (go_step)) | (((with_reducible refine Sl.k_call ?_; (refine s_qt hst (by exact qt_len evX asX inX) ?_))) <;> (try refine nY ?_)) | (with_reducible refine Sl.gate rfl ?_; (go_step)) | (((((refine s_box hst evX rfl ?_; clear hst; intro bx w hst)))) <;> (try refine nY ?_) <;> (try replace hst := nH hst)))
          refine s_slice (a := 0) (b := k) evX hl inX inX (.inl ⟨rfl, rfl⟩) (.inr ⟨.i64, by simp [evF, nth]⟩) (.inl rfl) (by omega) (by omega) ?_
          intro v1 hv1
          replace hv1 : RSl S v1 (l.take k) := hv1
          have hv11 := hv1.oneCell
          (try refine nY ?_)
          repeat' (first | (((with_reducible refine Sl.k_call ?_; ((refine s_call (cL _ hst hG _ hv1) inX rfl ?_; clear hst; rintro v w ⟨rfl, hst⟩)))) <;> (try refine nY ?_) <;> (try replace hst := nH hst)) | ((fail_if_success (go_big_may)); (go_step)) | ((((first | (with_reducible refine Sl.k_store ?_; (refine s_stD hst rfl BoxIn.h inX evX inX lenX ?_); clear hst; intro w hst) | (refine s_alloc hst inX ?_; clear hst; intro bk w hst)))) <;> (try refine nY ?_) <;> (try replace hst := nH hst)))
          refine s_slice (a := k) (b := l.length) evX hl inX inX (.inr ⟨.i64, by simp [evF, nth]⟩) (.inl ⟨rfl, rfl⟩) (.inl rfl) (by omega) (by omega) ?_
          intro v2 hv2
          rw [E9.out] at hv2
          have hv21 := hv2.oneCell
          (try refine nY ?_)
          repeat' (first | (((with_reducible refine Sl.k_call ?_; ((refine s_call (cR _ hst hG _ hv2) inX rfl ?_; clear hst; rintro v w ⟨rfl, hst⟩)))) <;> (try refine nY ?_) <;> (try replace hst := nH hst)) | ((fail_if_success (go_big_may)); (go_step)) | (with_reducible refine Sl.gate rfl ?_; (go_step)) | ((((first | (with_reducible refine Sl.k_store ?_; (refine s_stD hst rfl BoxIn.h inX evX inX lenX ?_); clear hst; intro w hst) | (refine s_alloc hst inX ?_; clear hst; intro bk w hst)))) <;> (try refine nY ?_) <;> (try replace hst := nH hst)))
          refine v_begin hst (by kernel_rfl) ?_; clear hst; intro ops; (try refine nY ?_)
          (refine t_qt 0 rfl (by kernel_rfl) rfl rfl (by exact qt_move evX) ?_) <;> (try refine nY ?_)
          (refine t_qt 1 rfl (by kernel_rfl) rfl rfl (by exact qt_len evX asX inX) ?_) <;> (try refine nY ?_)
          (refine t_qt 2 rfl (by kernel_rfl) rfl rfl (by exact qt_move evX) ?_) <;> (try refine nY ?_)
          (refine t_qt 3 rfl (by kernel_rfl) rfl rfl (by exact qt_sub' rfl rfl omX) ?_) <;> (try refine nY ?_)
          (refine t_qt 4 rfl (by kernel_rfl) rfl rfl (by exact qt_move evX) ?_) <;> (try refine nY ?_)
          (refine t_qt 5 rfl (by kernel_rfl) rfl rfl (by exact qt_move evX) ?_) <;> (try refine nY ?_)
          (refine t_qt 6 rfl (by kernel_rfl) rfl rfl (by exact qt_sub' rfl rfl omX) ?_) <;> (try refine nY ?_)
          (refine t_qt 7 rfl (by kernel_rfl) rfl rfl (by exact qt_loadD evX BoxIn.h inX inX) ?_) <;> (try refine nY ?_)
          (refine t_qt 8 rfl (by kernel_rfl) rfl rfl (by exact qt_move evX) ?_) <;> (try refine nY ?_)
          (refine t_qt 9 rfl (by kernel_rfl) rfl rfl (by exact qt_move evX) ?_) <;> (try refine nY ?_)
          ((refine t_ex0 10 rfl (by kernel_rfl) rfl rfl (qt_slice (a := 0) (b := q) evX hp inX inX (.inl ⟨rfl, rfl⟩) (.inr ⟨.i64, by simp [evF, nth]; omega⟩) (.inl rfl) (by omega) (by omega) ) ?_; rintro  v10 hw10)) <;> (try refine nY ?_)
          (refine t_call 11 rfl (by kernel_rfl) rfl (fun S' M' w hS hM hst => cC w hst (hG.mono hS) v10 (show RSl _ v10 (initD proof) by rw [← hqi.out]; exact hw10.mono hS)) inX rfl ?_) <;> (try refine nY ?_)
          (refine t_qt 12 rfl (by kernel_rfl) rfl rfl (by exact qt_move evX) ?_) <;> (try refine nY ?_)
          (refine t_qt 13 rfl (by kernel_rfl) rfl rfl (by exact qt_extract rfl rfl) ?_) <;> (try refine nY ?_)
          (refine t_pure 14 rfl (by kernel_rfl) rfl rfl (fun _ _ => by exact qt_extract rfl rfl) ?_) <;> (try refine nY ?_)
          refine v_one 15 rfl (by kernel_rfl) ?_; intro w hst K hK; refine s_alloc hst inX ?_; clear hst; intro b15 w hst; (try refine nY ?_); (try replace hst := nH hst); refine v_next hK hst (Snap.Le.refl _) (Suf.cons (Suf.refl _)) ?_; clear hst hK K; (try clear w); (try refine nY ?_)
          refine v_one 16 rfl (by kernel_rfl) ?_; intro w hst K hK; (refine s_stD hst rfl BoxIn.h inX evX inX lenX ?_); clear hst; intro w hst; (try refine nY ?_); (try replace hst := nH hst); refine v_last hK hst ?_; clear hst hK K; (try clear w); (try refine nY ?_)
          (refine t_qt 17 rfl (by kernel_rfl) rfl rfl (by exact qt_assign evX) ?_) <;> (try refine nY ?_)
          refine v_done (by kernel_rfl) ?_; clear ops; intro w hst
          repeat' (((fail_if_success (go_big_may)); (go_step)))
          cases c1
          cases c3
          rotate_left 2
          cases c2
          cases c3
          all_goals
            refine v_begin hst (by kernel_rfl) ?_; clear hst; intro ops; (try refine nY ?_)
            (refine t_qt 0 rfl (by kernel_rfl) rfl rfl (by exact qt_move evX) ?_) <;> (try refine nY ?_)
            (refine t_qt 1 rfl (by kernel_rfl) rfl rfl (by exact qt_move evX) ?_) <;> (try refine nY ?_)
            ((refine t_ex0 2 rfl (by kernel_rfl) rfl rfl (qt_index evX hp rfl inX inX omX omX ) ?_; rintro  v6 hw6; rw [hql] at hw6)) <;> (try refine nY ?_)
            (refine t_qt 3 rfl (by kernel_rfl) rfl rfl (by exact qt_ldp_flat evX asX inX inX rfl) ?_) <;> (try refine nY ?_)
            (refine t_qt 4 rfl (by kernel_rfl) rfl rfl (by exact qt_loadD evX BoxIn.h inX inX) ?_) <;> (try refine nY ?_)
            (refine t_qt 5 rfl (by kernel_rfl) rfl rfl (qt_neqK_b rfl rfl (r_dg lP) (r_dg lL) inX inX inferInstance g1) ?_) <;> (try refine nY ?_)
            (refine t_qt 6 rfl (by kernel_rfl) rfl rfl (by exact qt_move evX) ?_) <;> (try refine nY ?_)
            (first | refine t_qt 7 rfl (by kernel_rfl) rfl rfl (by exact qt_loadD evX BoxIn.h inX inX) ?_ | refine t_no 7 rfl (by kernel_rfl) rfl rfl ?_) <;> (try refine nY ?_)
            (first | refine t_qt 8 rfl (by kernel_rfl) rfl rfl (by exact qt_loadD evX BoxIn.h inX inX) ?_ | refine t_no 8 rfl (by kernel_rfl) rfl rfl ?_) <;> (try refine nY ?_)
            ((first | refine t_qt 9 rfl (by kernel_rfl) rfl rfl (qt_neqK_b rfl rfl (r_dg lD) (r_dg lR) inX inX inferInstance g2) ?_ | refine t_no 9 rfl (by kernel_rfl) rfl rfl ?_)) <;> (try refine nY ?_)
            (refine t_qt 10 rfl (by kernel_rfl) rfl rfl (by first | exact qt_pick_t rfl evX | exact qt_pick_f rfl evX) ?_) <;> (try refine nY ?_)
            (refine t_qt 11 rfl (by kernel_rfl) rfl rfl (by exact qt_move evX) ?_) <;> (try refine nY ?_)
            (first | refine t_qt 12 rfl (by kernel_rfl) rfl rfl (by exact qt_move evX) ?_ | refine t_no 12 rfl (by kernel_rfl) rfl rfl ?_) <;> (try refine nY ?_)
            (first | refine t_qt 13 rfl (by kernel_rfl) rfl rfl (by exact qt_move evX) ?_ | refine t_no 13 rfl (by kernel_rfl) rfl rfl ?_) <;> (try refine nY ?_)
            ((first | (refine t_ex0 14 rfl (by kernel_rfl) rfl rfl (qt_index evX hp rfl inX inX omX omX ) ?_; rintro  v15 hw15; rw [hql] at hw15) | refine t_no 14 rfl (by kernel_rfl) rfl rfl ?_)) <;> (try refine nY ?_)
            (first | refine t_qt 15 rfl (by kernel_rfl) rfl rfl (by exact qt_ldp_flat evX asX inX inX rfl) ?_ | refine t_no 15 rfl (by kernel_rfl) rfl rfl ?_) <;> (try refine nY ?_)
            (first | refine t_qt 16 rfl (by kernel_rfl) rfl rfl (by exact qt_loadD evX BoxIn.h inX inX) ?_ | refine t_no 16 rfl (by kernel_rfl) rfl rfl ?_) <;> (try refine nY ?_)
            ((first | refine t_call 17 rfl (by kernel_rfl) rfl (fun S' M' w hS hM hst => refNode_c w hst (hG.mono hS) P CM.1 lP lD) inX rfl ?_ | refine t_no 17 rfl (by kernel_rfl) rfl rfl ?_)) <;> (try refine nY ?_)
            (first | refine t_qt 18 rfl (by kernel_rfl) rfl rfl (by exact qt_loadD evX BoxIn.h inX inX) ?_ | refine t_no 18 rfl (by kernel_rfl) rfl rfl ?_) <;> (try refine nY ?_)
            (first | refine t_qt 19 rfl (by kernel_rfl) rfl rfl (by exact qt_loadD evX BoxIn.h inX inX) ?_ | refine t_no 19 rfl (by kernel_rfl) rfl rfl ?_) <;> (try refine nY ?_)
            ((first | refine t_call 20 rfl (by kernel_rfl) rfl (fun S' M' w hS hM hst => refNode_c w hst (hG.mono hS) L R lL lR) inX rfl ?_ | refine t_no 20 rfl (by kernel_rfl) rfl rfl ?_)) <;> (try refine nY ?_)
            ((first | refine t_qt 21 rfl (by kernel_rfl) rfl rfl (qt_eqlK_b rfl rfl (r_dg (nodeM_len _ _)) (r_dg (nodeM_len _ _)) inX inX inferInstance g3) ?_ | refine t_no 21 rfl (by kernel_rfl) rfl rfl ?_)) <;> (try refine nY ?_)
            (refine t_qt 22 rfl (by kernel_rfl) rfl rfl (by first | exact qt_pick_t rfl evX | exact qt_pick_f rfl evX) ?_) <;> (try refine nY ?_)
            refine v_done (by kernel_rfl) ?_; clear ops; intro w hst
            repeat' (((fail_if_success (go_big_may)); (go_step)))
          rotate_left
          go_ret
          exact ⟨_, rfl, by rw [hE.out, coll_fin G1.out G2.out G3.out]; simp, hst.drop.drop.drop.drop⟩
          rotate_left 2
          go_ret
          exact ⟨_, rfl, by rw [hE.out, coll_fin G1.out G2.out G3.out]; simp, hst.drop.drop.drop.drop⟩
          all_goals
            refine v_begin hst (by kernel_rfl) ?_; clear hst; intro ops; (try refine nY ?_)
            (refine t_qt 0 rfl (by kernel_rfl) rfl rfl (by exact qt_move evX) ?_) <;> (try refine nY ?_)
            (refine t_qt 1 rfl (by kernel_rfl) rfl rfl (by exact qt_move evX) ?_) <;> (try refine nY ?_)
            ((refine t_ex0 2 rfl (by kernel_rfl) rfl rfl (qt_slice (a := k) (b := l.length) evX hl inX inX (.inr ⟨.i64, by simp [evF, nth]⟩) (.inl ⟨rfl, rfl⟩) (.inl rfl) (by omega) (by omega) ) ?_; rintro  v2 hw2)) <;> (try refine nY ?_)
            (refine t_qt 3 rfl (by kernel_rfl) rfl rfl (by exact qt_move evX) ?_) <;> (try refine nY ?_)
            (refine t_qt 4 rfl (by kernel_rfl) rfl rfl (by exact qt_move evX) ?_) <;> (try refine nY ?_)
            (refine t_qt 5 rfl (by kernel_rfl) rfl rfl (by exact qt_sub' rfl rfl omX) ?_) <;> (try refine nY ?_)
            (refine t_qt 6 rfl (by kernel_rfl) rfl rfl (by exact qt_loadD evX BoxIn.h inX inX) ?_) <;> (try refine nY ?_)
            (refine t_qt 7 rfl (by kernel_rfl) rfl rfl (by exact qt_move evX) ?_) <;> (try refine nY ?_)
            (refine t_qt 8 rfl (by kernel_rfl) rfl rfl (by exact qt_move evX) ?_) <;> (try refine nY ?_)
            ((refine t_ex0 9 rfl (by kernel_rfl) rfl rfl (qt_slice (a := 0) (b := q) evX hp inX inX (.inl ⟨rfl, rfl⟩) (.inr ⟨.i64, by simp [evF, nth]; omega⟩) (.inl rfl) (by omega) (by omega) ) ?_; rintro  v7 hw7)) <;> (try refine nY ?_)
            (refine t_call 10 rfl (by kernel_rfl) rfl (fun S' M' w hS hM hst => cX w hst (hG.mono hS) v2 (by rw [← E9.out]; exact hw2.mono hS) v7 (show RSl _ v7 (initD proof) by rw [← hqi.out]; exact hw7.mono hS)) inX rfl ?_) <;> (try refine nY ?_)
            (refine t_qt 11 rfl (by kernel_rfl) rfl rfl (by exact qt_assign evX) ?_) <;> (try refine nY ?_)
            refine v_done (by kernel_rfl) ?_; clear ops; intro w hst
            repeat' (((fail_if_success (go_big_may)); (go_step)))
            go_ret
            exact ⟨_, rfl, by rw [hE.out, coll_fin G1.out G2.out G3.out]; simp, hst.drop.drop.drop.drop⟩
end Go.Proofs.YtgihhhdeoaplhaaDoor

/- The statements MerkleRoot and MerkleVerify, walked. -/
--@opt
--@u32
--@hgp
--@flat
--@dg
--@ex0
namespace Go.Proofs.YtgihhhdeoaplhaaDoor
set_option linter.unusedSimpArgs false
set_option linter.unusedVariables false
open Go.RowKit Go.Sl

set_option maxRecDepth 8000 in
set_option maxHeartbeats 1000000 in
theorem refVerify_c {S M} (w : World) (hst : St S M w) (hG : Glob S) (root leaf : Dg) (hr : root.l.length = 16) (hf : leaf.l.length = 16) (n i : Nat) (hn : n ≤ 1000) (hi : i ≤ 9223372036854775807) (vp : Value) (proof : List Dg) (hp : RSl S vp proof) (hpm : proof.length ≤ 1048576) :
    Rets Tryd.prog 36 [dgV root, .int .i64 (n : Int), .int .i64 (i : Int), dgV leaf, vp] w fun v w' => v = .bool (verifyM root n i leaf proof) ∧ St S M w' := by
  unfold Rets
  haveI : LenIs leaf.l 16 := ⟨hf⟩
  haveI : LenIs root.l 16 := ⟨hr⟩
  by_cases hin : i < n
  · have hV := Lib.hid (verify_comb (root := root) (leaf := leaf) (proof := proof) hin)
    go_enter Tryd.func36, Tryd.ntmps36
    repeat' (first | go_skip | ((first | (with_reducible refine Sl.k_bin ?_; ((refine s_qt hst (qt_eqlK rfl rfl (r_dg (combM_len _ _ _ _)) (r_dg hr) inX inX inX) ?_))) | (with_reducible refine Sl.k_guard ?_; (first | (refine Sl.guard_yes rfl ?_) | (refine Sl.guard_cases rfl ?_ ?_ <;> intro hg <;> (simp only [hg, Bool.not_true, Bool.not_false])) <;> (try simp only [decide_eq_true_eq, decide_eq_false_iff_not, Bool.not_false, Bool.not_true, beq_iff_eq, beq_eq_false_iff_ne, bne_iff_ne, bne_eq_false_iff_eq, ne_eq] at hg)))) <;> (try refine nY ?_)) | (((with_reducible refine Sl.k_call ?_; ((refine s_call (combine_c n _ hst hG n i hin (Nat.le_refl _) hn leaf hf vp proof hp hpm) inX rfl ?_; clear hst; rintro v w ⟨rfl, hst⟩)))) <;> (try refine nY ?_) <;> (try replace hst := nH hst)) | ((fail_if_success (go_big_may)); (go_step)) | (((with_reducible refine Sl.k_load ?_; (refine s_qt hst (by exact qt_loadD evX BoxIn.h inX inX) ?_))) <;> (try refine nY ?_)) | (with_reducible refine Sl.gate rfl ?_; (go_step)) | ((((first | (with_reducible refine Sl.k_store ?_; (refine s_stD hst rfl BoxIn.h inX evX inX lenX ?_); clear hst; intro w hst) | (refine s_box hst evX rfl ?_; clear hst; intro bx w hst) | (refine s_alloc hst inX ?_; clear hst; intro bk w hst)))) <;> (try refine nY ?_) <;> (try replace hst := nH hst)))
    all_goals go_ret
    all_goals exact ⟨_, rfl, by rw [hV.out]; simp [*], hst.drop.drop.drop⟩
  · have hV : Hid (verifyM root n i leaf proof = false) := Lib.hid (by simp [verifyM, hin])
    go_enter Tryd.func36, Tryd.ntmps36
    repeat' (first | (((with_reducible refine Sl.k_guard ?_; ((refine Sl.guard_yes rfl ?_)))) <;> (try refine nY ?_)) | ((fail_if_success (go_big_may)); (go_step)) | (with_reducible refine Sl.gate rfl ?_; (go_step)) | (((((refine s_box hst evX rfl ?_; clear hst; intro bx w hst)))) <;> (try refine nY ?_) <;> (try replace hst := nH hst)))
    go_ret
    exact ⟨_, rfl, by rw [hV.out]; rfl, hst.drop.drop⟩
set_option maxRecDepth 8000 in
set_option maxHeartbeats 1000000 in
theorem refVerify0_c {S M} (w : World) (hst : St S M w) (root leaf : Dg) (hr : root.l.length = 16) (hf : leaf.l.length = 16) (n i : Int) (hi : i < 0) (vp : Value) :
    Rets Tryd.prog 36 [dgV root, .int .i64 n, .int .i64 i, dgV leaf, vp] w fun v w' => v = .bool false ∧ St S M w' := by
  unfold Rets
  go_enter Tryd.func36, Tryd.ntmps36
  repeat' (first | go_skip | ((fail_if_success (go_big_may)); (go_step)) | (with_reducible refine Sl.gate rfl ?_; (go_step)) | (((((refine s_box hst evX rfl ?_; clear hst; intro bx w hst)))) <;> (try refine nY ?_) <;> (try replace hst := nH hst)))
  go_ret
  exact ⟨_, rfl, rfl, hst.drop.drop⟩
set_option maxRecDepth 8000 in
set_option maxHeartbeats 1000000 in
theorem verify0_c {S M} (w : World) (hst : St S M w) (root leaf : Dg) (hr : root.l.length = 16) (hf : leaf.l.length = 16) (n i : Int) (hi : i < 0) (vp : Value) :
    Rets Tryd.prog 35 [dgV root, .int .i64 n, .int .i64 i, dgV leaf, vp] w fun v w' => v = .bool false ∧ St S M w' := by
  unfold Rets
  go_enter Tryd.func35, Tryd.ntmps35
  repeat' (first | go_skip | ((fail_if_success (go_big_may)); (go_step)) | (with_reducible refine Sl.gate rfl ?_; (go_step)) | (((((refine s_box hst evX rfl ?_; clear hst; intro bx w hst)))) <;> (try refine nY ?_) <;> (try replace hst := nH hst)))
  go_ret
  exact ⟨_, rfl, rfl, hst.drop.drop⟩

end Go.Proofs.YtgihhhdeoaplhaaDoor
