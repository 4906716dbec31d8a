/- The statement MerkleVerify is proved: Verify agrees with the reference for sizes up to 40 and proofs of at most 10 elements. -/
import Derived.Test.YtcobalpbencboaaDoorBb
import Derived.Test.YtcobalpbencboaaDoorBg
import Derived.Test.YtcobalpbencboaaDoorBe

/- The statements MerkleRoot and MerkleVerify, walked. -/
--@u32
--@hgp
--@flat
--@dg
--@ex0
namespace Go.Proofs.YtcobalpbencboaaDoor
set_option linter.unusedSimpArgs false
set_option linter.unusedVariables false
open Go.RowKit Go.Sl

set_option maxRecDepth 8000 in
set_option maxHeartbeats 1000000 in
theorem refVerify_c {S M} (w : World) (hst : St S M w) (hG : Glob S) (root leaf : Dg) (hr : root.l.length = 16) (hf : leaf.l.length = 16) (n i : Nat) (hn : n ≤ 1000) (hi : i ≤ 9223372036854775807) (vp : Value) (proof : List Dg) (hp : RSl S vp proof) (hpm : proof.length ≤ 1048576) :
    Rets Tryd.prog 22 [dgV root, .int .i64 (n : Int), .int .i64 (i : Int), dgV leaf, vp] w fun v w' => v = .bool (verifyM root n i leaf proof) ∧ St S M w' := by
  unfold Rets
  haveI : LenIs leaf.l 16 := ⟨hf⟩
  haveI : LenIs root.l 16 := ⟨hr⟩
  by_cases hin : i < n
  · have hV := Lib.hid (verify_comb (root := root) (leaf := leaf) (proof := proof) hin)
    go_enter Tryd.func22, Tryd.ntmps22
    repeat' (first | go_skip | ((first | (with_reducible refine Sl.k_bin ?_; ((refine s_qt hst (qt_eqlK rfl rfl (r_dg (combM_len _ _ _ _)) (r_dg hr) inX inX inX) ?_))) | (with_reducible refine Sl.k_guard ?_; (first | (refine Sl.guard_yes rfl ?_) | (refine Sl.guard_cases rfl ?_ ?_ <;> intro hg <;> (simp only [hg, Bool.not_true, Bool.not_false])) <;> (try simp only [decide_eq_true_eq, decide_eq_false_iff_not, Bool.not_false, Bool.not_true, beq_iff_eq, beq_eq_false_iff_ne, bne_iff_ne, bne_eq_false_iff_eq, ne_eq] at hg)))) <;> (try refine nY ?_)) | (((with_reducible refine Sl.k_call ?_; ((refine s_call (combine_c n _ hst hG n i hin (Nat.le_refl _) hn leaf hf vp proof hp hpm) inX rfl ?_; clear hst; rintro v w ⟨rfl, hst⟩)))) <;> (try refine nY ?_) <;> (try replace hst := nH hst)) | ((fail_if_success (go_big_may)); (go_step)) | (((with_reducible refine Sl.k_load ?_; (refine s_qt hst (by exact qt_loadD evX BoxIn.h inX inX) ?_))) <;> (try refine nY ?_)) | (with_reducible refine Sl.gate rfl ?_; (go_step)) | ((((first | (with_reducible refine Sl.k_store ?_; (refine s_stD hst rfl BoxIn.h inX evX inX lenX ?_); clear hst; intro w hst) | (refine s_box hst evX rfl ?_; clear hst; intro bx w hst) | (refine s_alloc hst inX ?_; clear hst; intro bk w hst)))) <;> (try refine nY ?_) <;> (try replace hst := nH hst)))
    all_goals go_ret
    all_goals exact ⟨_, rfl, by rw [hV.out]; simp [*], hst.drop.drop.drop⟩
  · have hV : Hid (verifyM root n i leaf proof = false) := Lib.hid (by simp [verifyM, hin])
    go_enter Tryd.func22, Tryd.ntmps22
    repeat' (first | (((with_reducible refine Sl.k_guard ?_; ((refine Sl.guard_yes rfl ?_)))) <;> (try refine nY ?_)) | ((fail_if_success (go_big_may)); (go_step)) | (with_reducible refine Sl.gate rfl ?_; (go_step)) | (((((refine s_box hst evX rfl ?_; clear hst; intro bx w hst)))) <;> (try refine nY ?_) <;> (try replace hst := nH hst)))
    go_ret
    exact ⟨_, rfl, by rw [hV.out]; rfl, hst.drop.drop⟩
set_option maxRecDepth 8000 in
set_option maxHeartbeats 1000000 in
theorem refVerify0_c {S M} (w : World) (hst : St S M w) (root leaf : Dg) (hr : root.l.length = 16) (hf : leaf.l.length = 16) (n i : Int) (hi : i < 0) (vp : Value) :
    Rets Tryd.prog 22 [dgV root, .int .i64 n, .int .i64 i, dgV leaf, vp] w fun v w' => v = .bool false ∧ St S M w' := by
  unfold Rets
  go_enter Tryd.func22, Tryd.ntmps22
  repeat' (first | go_skip | ((fail_if_success (go_big_may)); (go_step)) | (with_reducible refine Sl.gate rfl ?_; (go_step)) | (((((refine s_box hst evX rfl ?_; clear hst; intro bx w hst)))) <;> (try refine nY ?_) <;> (try replace hst := nH hst)))
  go_ret
  exact ⟨_, rfl, rfl, hst.drop.drop⟩
set_option maxRecDepth 8000 in
set_option maxHeartbeats 1000000 in
theorem verify0_c {S M} (w : World) (hst : St S M w) (root leaf : Dg) (hr : root.l.length = 16) (hf : leaf.l.length = 16) (n i : Int) (hi : i < 0) (vp : Value) :
    Rets Tryd.prog 21 [dgV root, .int .i64 n, .int .i64 i, dgV leaf, vp] w fun v w' => v = .bool false ∧ St S M w' := by
  unfold Rets
  go_enter Tryd.func21, Tryd.ntmps21
  repeat' (first | go_skip | ((fail_if_success (go_big_may)); (go_step)) | (with_reducible refine Sl.gate rfl ?_; (go_step)) | (((((refine s_box hst evX rfl ?_; clear hst; intro bx w hst)))) <;> (try refine nY ?_) <;> (try replace hst := nH hst)))
  go_ret
  exact ⟨_, rfl, rfl, hst.drop.drop⟩

set_option maxRecDepth 8000 in
set_option maxHeartbeats 1000000 in
theorem mroot_c {S M} (w : World) (hst : St S M w) (hG : Glob S) (vl : Value) (l : List Dg) (hl : RSl S vl l) (hm : l.length ≤ 1048576) (i : Int) (hi : I64 i) :
    Rets Tryd.prog 3 [vl, .int .i64 i] w fun v w' => v = .bool true ∧ St S M w' := by
  unfold Rets
  have hl1 := hl.oneCell
  by_cases h40 : 40 < l.length
  · go_enter Tryd.func3, Tryd.ntmps3
    repeat' (first | (((with_reducible refine Sl.k_call ?_; ((refine s_call (sanity_c _ hst hG) inX rfl ?_; clear hst; rintro v w ⟨rfl, hst⟩)))) <;> (try refine nY ?_) <;> (try replace hst := nH hst)) | ((fail_if_success (go_big_may)); (go_step)) | (((with_reducible refine Sl.k_call ?_; (refine s_qt hst (by exact qt_len evX asX inX) ?_))) <;> (try refine nY ?_)) | (with_reducible refine Sl.gate rfl ?_; (go_step)))
    go_ret
    exact ⟨_, rfl, rfl, hst⟩
  · have cR := fun {S M} (w : World) (hst : St S M w) (hG : Glob S) (hl : RSl S vl l) => root_c l.length w hst hG vl l hl (Nat.le_refl _) (by omega)
    have cR' := fun {S M} (w : World) (hst : St S M w) (hG : Glob S) (hl : RSl S vl l) => refRoot_c l.length w hst hG vl l hl (Nat.le_refl _) (by omega)
    have hR16 := rootM_len l
    by_cases hin : 0 ≤ i ∧ i < l.length
    · obtain ⟨k, rfl⟩ : ∃ k : Nat, i = k := ⟨i.toNat, by omega⟩
      have hk : k < l.length := by omega
      have cP := fun {S M} (w : World) (hst : St S M w) (hG : Glob S) (hl : RSl S vl l) => prove_c w hst hG vl l hl k hk (by omega)
      have cP' := fun {S M} (w : World) (hst : St S M w) (hG : Glob S) (hl : RSl S vl l) => refProve_c l.length w hst hG vl l hl k hk (Nat.le_refl _) (by omega)
      have hp16 := proofM_len l k
      have hcnt := proofM_cnt l k
      generalize rootM l = R at *
      generalize proofM l k = pf at *
      go_enter Tryd.func3, Tryd.ntmps3
      repeat' (first | (((with_reducible refine Sl.k_call ?_; (first | (refine s_call (sanity_c _ hst hG) inX rfl ?_; clear hst; rintro v w ⟨rfl, hst⟩) | (refine s_call (cP _ hst hG hl) inX rfl ?_; clear hst; rintro v w ⟨u, rfl, hst⟩)))) <;> (try refine nY ?_) <;> (try replace hst := nH hst)) | ((fail_if_success (go_big_may)); (go_step)) | (((with_reducible refine Sl.k_call ?_; (refine s_qt hst (by exact qt_len evX asX inX) ?_))) <;> (try refine nY ?_)) | (with_reducible refine Sl.gate rfl ?_; (go_step)))
      obtain ⟨S1, hS1, hst, hu⟩ := lit_dgs _ hp16 hst rfl rfl
      have hu1 := hu.oneCell
      replace hG := hG.mono hS1
      replace hl := hl.mono hS1
      repeat' (first | (((with_reducible refine Sl.k_guard ?_; ((refine Sl.guard_yes rfl ?_)))) <;> (try refine nY ?_)) | (((with_reducible refine Sl.k_call ?_; ((refine s_call (cP' _ hst hG hl) inX rfl ?_; clear hst; rintro v w ⟨u2, rfl, hst⟩)))) <;> (try refine nY ?_) <;> (try replace hst := nH hst)) | ((fail_if_success (go_big_may)); (go_step)) | (with_reducible refine Sl.gate rfl ?_; (go_step)))
      obtain ⟨S2, hS2, hst, hu2⟩ := lit_dgs _ hp16 hst rfl rfl
      have hu21 := hu2.oneCell
      replace hG := hG.mono hS2
      replace hl := hl.mono hS2
      replace hu := hu.mono hS2
      repeat' (first | ((first | (with_reducible refine Sl.k_bin ?_; (first | (refine s_qt hst (qt_eqlK_b rfl rfl (r_dg hR16) (r_dg hR16) inX inX inX (by exact decide_eq_true (by rfl))) ?_) | (refine s_qt hst (qt_eql_self rfl rfl) ?_))) | (with_reducible refine Sl.k_guard ?_; ((refine Sl.guard_yes rfl ?_)))) <;> (try refine nY ?_)) | (((with_reducible refine Sl.k_call ?_; (first | (refine s_call (cR _ hst hG hl) inX rfl ?_; clear hst; rintro v w ⟨rfl, hst⟩) | (refine s_call (cR' _ hst hG hl) inX rfl ?_; clear hst; rintro v w ⟨rfl, hst⟩) | (refine s_call ((same_c _ hst _ _ pf pf hu hu2 (by omega) (by omega)).eq (decide_eq_true rfl)) inX rfl ?_; clear hst; rintro v w ⟨rfl, hst⟩)))) <;> (try refine nY ?_) <;> (try replace hst := nH hst)) | ((fail_if_success (go_big_may)); (go_step)))
      go_ret
      exact ⟨_, rfl, rfl, St.weaken (hS1.trans hS2) hst⟩
    · have hio : i < 0 ∨ (l.length : Int) ≤ i := by omega
      have hnil : RSl S (.slice none 0 0) ([] : List Dg) := .inl ⟨none, 0, rfl, rfl, by unfold maxLen; omega⟩
      have cS := fun {S : Snap} {M : List Chunk} (w : World) (hst : St S M w) (h : RSl S (.slice none 0 0) ([] : List Dg)) => (same_c w hst (.slice none 0 0) (.slice none 0 0) [] [] h h (Nat.zero_le _) (Nat.zero_le _)).eq (decide_eq_true rfl)
      generalize rootM l = R at *
      go_enter Tryd.func3, Tryd.ntmps3
      repeat' (first | ((first | (with_reducible refine Sl.k_bin ?_; (first | (refine s_qt hst (qt_eqlK_b rfl rfl (r_dg hR16) (r_dg hR16) inX inX inX (by exact decide_eq_true (by rfl))) ?_) | (refine s_qt hst (qt_eql_self rfl rfl) ?_))) | (with_reducible refine Sl.k_guard ?_; ((refine Sl.guard_yes rfl ?_)))) <;> (try refine nY ?_)) | (((with_reducible refine Sl.k_call ?_; (first | (refine s_call (sanity_c _ hst hG) inX rfl ?_; clear hst; rintro v w ⟨rfl, hst⟩) | (refine s_call (prove0_c _ hst vl l hl i hio (by omega)) inX rfl ?_; clear hst; rintro v w ⟨rfl, hst⟩) | (refine s_call (refProve0_c _ hst vl l hl i hio (by omega)) inX rfl ?_; clear hst; rintro v w ⟨rfl, hst⟩) | (refine s_call (cR _ hst hG hl) inX rfl ?_; clear hst; rintro v w ⟨rfl, hst⟩) | (refine s_call (cR' _ hst hG hl) inX rfl ?_; clear hst; rintro v w ⟨rfl, hst⟩) | (refine s_call (cS _ hst hnil) inX rfl ?_; clear hst; rintro v w ⟨rfl, hst⟩)))) <;> (try refine nY ?_) <;> (try replace hst := nH hst)) | ((fail_if_success (go_big_may)); (go_step)) | (((with_reducible refine Sl.k_call ?_; (refine s_qt hst (by exact qt_len evX asX inX) ?_))) <;> (try refine nY ?_)) | (with_reducible refine Sl.gate rfl ?_; (go_step)))
      go_ret
      exact ⟨_, rfl, rfl, hst⟩

set_option maxRecDepth 8000 in
set_option maxHeartbeats 1000000 in
theorem mverify_c {S M} (w : World) (hst : St S M w) (hG : Glob S) (root : Dg) (hr : root.l.length = 16) (n : Nat) (hn : n ≤ 255) (i : Int) (hi : I64 i) (leaf : Dg) (hf : leaf.l.length = 16) (vp : Value) (proof : List Dg) (hp : RSl S vp proof) (hpm : proof.length ≤ 1048576) :
    Rets Tryd.prog 4 [dgV root, .int .u8 (n : Int), .int .i64 i, dgV leaf, vp] w fun v w' => v = .bool true ∧ St S M w' := by
  unfold Rets
  haveI : LenIs leaf.l 16 := ⟨hf⟩
  haveI : LenIs root.l 16 := ⟨hr⟩
  have hp1 := hp.oneCell
  by_cases h10 : 10 < proof.length
  · go_enter Tryd.func4, Tryd.ntmps4
    repeat' (first | (((with_reducible refine Sl.k_call ?_; ((refine s_call (sanity_c _ hst hG) inX rfl ?_; clear hst; rintro v w ⟨rfl, hst⟩)))) <;> (try refine nY ?_) <;> (try replace hst := nH hst)) | ((fail_if_success (go_big_may)); (go_step)) | (((with_reducible refine Sl.k_call ?_; (refine s_qt hst (by exact qt_len evX asX inX) ?_))) <;> (try refine nY ?_)) | (with_reducible refine Sl.gate rfl ?_; (go_step)) | (((((refine s_box hst evX rfl ?_; clear hst; intro bx w hst)))) <;> (try refine nY ?_) <;> (try replace hst := nH hst)))
    go_ret
    exact ⟨_, rfl, rfl, hst.drop.drop⟩
  · have hke : ((n : Int) % 41) = ((n % 41 : Nat) : Int) := by omega
    have hkl : n % 41 ≤ 40 := by omega
    by_cases h0 : i < 0
    · go_enter Tryd.func4, Tryd.ntmps4
      repeat' (first | (((with_reducible refine Sl.k_call ?_; ((refine s_call (sanity_c _ hst hG) inX rfl ?_; clear hst; rintro v w ⟨rfl, hst⟩)))) <;> (try refine nY ?_) <;> (try replace hst := nH hst)) | ((fail_if_success (go_big_may)); (go_step)) | (((with_reducible refine Sl.k_call ?_; (refine s_qt hst (by exact qt_len evX asX inX) ?_))) <;> (try refine nY ?_)) | (with_reducible refine Sl.gate rfl ?_; (go_step)) | (((((refine s_box hst evX rfl ?_; clear hst; intro bx w hst)))) <;> (try refine nY ?_) <;> (try replace hst := nH hst)))
      refine v_begin hst (by kernel_rfl) ?_; clear hst; intro ops; (try refine nY ?_)
      (refine t_qt 0 rfl (by kernel_rfl) rfl rfl (by exact qt_move evX) ?_) <;> (try refine nY ?_)
      (refine t_qt 1 rfl (by kernel_rfl) rfl rfl (by exact qt_move evX) ?_) <;> (try refine nY ?_)
      (refine t_qt 2 rfl (by kernel_rfl) rfl rfl (by exact qt_loadD evX BoxIn.h inX inX) ?_) <;> (try refine nY ?_)
      (refine t_qt 3 rfl (by kernel_rfl) rfl rfl (by exact qt_move evX) ?_) <;> (try refine nY ?_)
      (refine t_qt 4 rfl (by kernel_rfl) rfl rfl (by exact qt_move evX) ?_) <;> (try refine nY ?_)
      (refine t_qt 5 rfl (by kernel_rfl) rfl rfl (by exact qt_loadD evX BoxIn.h inX inX) ?_) <;> (try refine nY ?_)
      (refine t_qt 6 rfl (by kernel_rfl) rfl rfl (by exact qt_move evX) ?_) <;> (try refine nY ?_)
      ((refine t_call 7 rfl (by kernel_rfl) rfl (fun S' M' w hS hM hst => verify0_c w hst _ _ hr hf _ _ h0 _) inX rfl ?_)) <;> (try refine nY ?_)
      (refine t_qt 8 rfl (by kernel_rfl) rfl rfl (by exact qt_loadD evX BoxIn.h inX inX) ?_) <;> (try refine nY ?_)
      (refine t_qt 9 rfl (by kernel_rfl) rfl rfl (by exact qt_move evX) ?_) <;> (try refine nY ?_)
      (refine t_qt 10 rfl (by kernel_rfl) rfl rfl (by exact qt_move evX) ?_) <;> (try refine nY ?_)
      (refine t_qt 11 rfl (by kernel_rfl) rfl rfl (by exact qt_loadD evX BoxIn.h inX inX) ?_) <;> (try refine nY ?_)
      (refine t_qt 12 rfl (by kernel_rfl) rfl rfl (by exact qt_move evX) ?_) <;> (try refine nY ?_)
      ((refine t_call 13 rfl (by kernel_rfl) rfl (fun S' M' w hS hM hst => refVerify0_c w hst _ _ hr hf _ _ h0 _) inX rfl ?_)) <;> (try refine nY ?_)
      ((refine t_qt 14 rfl (by kernel_rfl) rfl rfl (qt_eql_bself rfl rfl inX) ?_)) <;> (try refine nY ?_)
      (refine t_qt 15 rfl (by kernel_rfl) rfl rfl (by exact qt_pick_t rfl evX) ?_) <;> (try refine nY ?_)
      (refine t_qt 16 rfl (by kernel_rfl) rfl rfl (by exact qt_assign evX) ?_) <;> (try refine nY ?_)
      refine v_done (by kernel_rfl) ?_; clear ops; intro w hst
      repeat' (((fail_if_success (go_big_may)); (go_step)))
      go_ret
      exact ⟨_, rfl, rfl, hst.drop.drop⟩
    · obtain ⟨j, rfl⟩ : ∃ j : Nat, i = j := ⟨i.toNat, by omega⟩
      unfold I64 at hi
      have cV := fun {S M} (w : World) (hst : St S M w) (hG : Glob S) (hp : RSl S vp proof) => verify_c w hst hG root leaf hr hf (n % 41) j (by omega) (by omega) vp proof hp hpm
      have cV' := fun {S M} (w : World) (hst : St S M w) (hG : Glob S) (hp : RSl S vp proof) => refVerify_c w hst hG root leaf hr hf (n % 41) j (by omega) (by omega) vp proof hp hpm
      generalize verifyM root (n % 41) j leaf proof = V at *
      go_enter Tryd.func4, Tryd.ntmps4
      repeat' (first | (((with_reducible refine Sl.k_call ?_; ((refine s_call (sanity_c _ hst hG) inX rfl ?_; clear hst; rintro v w ⟨rfl, hst⟩)))) <;> (try refine nY ?_) <;> (try replace hst := nH hst)) | ((fail_if_success (go_big_may)); (go_step)) | (((with_reducible refine Sl.k_call ?_; (refine s_qt hst (by exact qt_len evX asX inX) ?_))) <;> (try refine nY ?_)) | (with_reducible refine Sl.gate rfl ?_; (go_step)) | (((((refine s_box hst evX rfl ?_; clear hst; intro bx w hst)))) <;> (try refine nY ?_) <;> (try replace hst := nH hst)))
      simp only [hke]
      clear hke
      refine v_begin hst (by kernel_rfl) ?_; clear hst; intro ops; (try refine nY ?_)
      (refine t_qt 0 rfl (by kernel_rfl) rfl rfl (by exact qt_move evX) ?_) <;> (try refine nY ?_)
      (refine t_qt 1 rfl (by kernel_rfl) rfl rfl (by exact qt_move evX) ?_) <;> (try refine nY ?_)
      (refine t_qt 2 rfl (by kernel_rfl) rfl rfl (by exact qt_loadD evX BoxIn.h inX inX) ?_) <;> (try refine nY ?_)
      (refine t_qt 3 rfl (by kernel_rfl) rfl rfl (by exact qt_move evX) ?_) <;> (try refine nY ?_)
      (refine t_qt 4 rfl (by kernel_rfl) rfl rfl (by exact qt_move evX) ?_) <;> (try refine nY ?_)
      (refine t_qt 5 rfl (by kernel_rfl) rfl rfl (by exact qt_loadD evX BoxIn.h inX inX) ?_) <;> (try refine nY ?_)
      (refine t_qt 6 rfl (by kernel_rfl) rfl rfl (by exact qt_move evX) ?_) <;> (try refine nY ?_)
      ((refine t_call 7 rfl (by kernel_rfl) rfl (fun S' M' w hS hM hst => cV w hst (hG.mono hS) (hp.mono hS)) inX rfl ?_)) <;> (try refine nY ?_)
      (refine t_qt 8 rfl (by kernel_rfl) rfl rfl (by exact qt_loadD evX BoxIn.h inX inX) ?_) <;> (try refine nY ?_)
      (refine t_qt 9 rfl (by kernel_rfl) rfl rfl (by exact qt_move evX) ?_) <;> (try refine nY ?_)
      (refine t_qt 10 rfl (by kernel_rfl) rfl rfl (by exact qt_move evX) ?_) <;> (try refine nY ?_)
      (refine t_qt 11 rfl (by kernel_rfl) rfl rfl (by exact qt_loadD evX BoxIn.h inX inX) ?_) <;> (try refine nY ?_)
      (refine t_qt 12 rfl (by kernel_rfl) rfl rfl (by exact qt_move evX) ?_) <;> (try refine nY ?_)
      ((refine t_call 13 rfl (by kernel_rfl) rfl (fun S' M' w hS hM hst => cV' w hst (hG.mono hS) (hp.mono hS)) inX rfl ?_)) <;> (try refine nY ?_)
      ((refine t_qt 14 rfl (by kernel_rfl) rfl rfl (qt_eql_bself rfl rfl inX) ?_)) <;> (try refine nY ?_)
      (refine t_qt 15 rfl (by kernel_rfl) rfl rfl (by exact qt_pick_t rfl evX) ?_) <;> (try refine nY ?_)
      (refine t_qt 16 rfl (by kernel_rfl) rfl rfl (by exact qt_assign evX) ?_) <;> (try refine nY ?_)
      refine v_done (by kernel_rfl) ?_; clear ops; intro w hst
      repeat' (((fail_if_success (go_big_may)); (go_step)))
      go_ret
      exact ⟨_, rfl, rfl, hst.drop.drop⟩
end Go.Proofs.YtcobalpbencboaaDoor

/- The statement MerkleVerify. -/
namespace Go.Proofs.YtcobalpbencboaaDoor
set_option linter.unusedSimpArgs false
set_option linter.unusedVariables false
open Go.RowKit Go.Sl Go.ChangeShapes Go.WideShapes Go.ChangeAt

set_option maxRecDepth 20000 in
theorem mver_post (H : Type) (enc : TypeId × Value → H) (W : World) (base : Nat) (args : Array Value) (ds gs : List (DataW H)) (before : List MemPlace)
    (hval : ∀ (j : Nat) t v, Tryd.f4.params[j]? = some t → args[j]? = some v → Value.okWide Tryd.prog W .any base t v)
    (hW : DataW.Whole enc Tryd.prog Tryd.f4.params.toList Rows.merkleVerifySpec.vars false W args.toList ds gs before) (hk : Rows.uptoSmall H (ds ++ gs) = true) (hL : laidMetH Tryd.prog Rows.merkleVerifyUptoRow.laid W) :
    Calls Tryd.prog 4 args W fun e W' => ∃ v, e = .returned v ∧ Rows.merkleVerifySpec.post enc Tryd.prog Tryd.f4 false true false false W args v W' := by
  have hW' := hW
  obtain ⟨p, q, hA0, hV, rfl, hfz, hnd⟩ := hW
  have hA : DataW.TrodAll enc Tryd.prog W 0 (fun _ => true) true Tryd.f4.params.toList args.toList ds p := hA0
  have hk := small_all hk
  rw [Tryd.params4] at hA hval
  obtain ⟨v0, vs0, d0, ds0, p0, q0, hargs, rfl, rfl, h0, r0⟩ := trodAll_cons hA
  obtain ⟨v1, vs1, d1, ds1, p1, q1, rfl, rfl, rfl, h1, r1⟩ := trodAll_cons r0
  obtain ⟨v2, vs2, d2, ds2, p2, q2, rfl, rfl, rfl, h2, r2⟩ := trodAll_cons r1
  obtain ⟨v3, vs3, d3, ds3, p3, q3, rfl, rfl, rfl, h3, r3⟩ := trodAll_cons r2
  obtain ⟨v4, vs4, d4, ds4, p4, q4, rfl, rfl, rfl, h4, r4⟩ := trodAll_cons r3
  obtain ⟨rfl, rfl, rfl⟩ := trodAll_nil r4
  obtain rfl : args = #[v0, v1, v2, v3, v4] := by cases args; simp_all
  obtain ⟨rfl, rfl⟩ := trodVars_none hV
  simp only [List.append_nil, Rows.uptoBulkAll] at hk
  obtain ⟨d0, rfl, hd0⟩ := open_dg (hval 0 28 v0 rfl rfl) h0
  obtain ⟨n1, rfl, hn1⟩ := open_u8 (hval 1 5 v1 rfl rfl) h1
  obtain ⟨n2, rfl, _, _, wf2⟩ := open_int Tryd.underlying3 (hval 2 3 v2 rfl rfl) h2
  have hn2 : I64 n2 := by simpa [Lit.wf, IntKind.min, IntKind.max, IntKind.signed, IntKind.bits, I64] using wf2
  obtain ⟨d3, rfl, hd3⟩ := open_dg (hval 3 28 v3 rfl rfl) h3
  obtain ⟨l4, hl4, hm4⟩ := open_ds (hval 4 22 v4 rfl rfl) h4 (by omega)
  refine Calls.mono (mverify_c W (St.start W) (glob_of hL) d0 hd0 n1 hn1 n2 hn2 d3 hd3 v4 l4 hl4 hm4) fun e W' ⟨v, he, hv, hst⟩ => ?_
  subst hv
  exact ⟨_, he, law_post (tb := 4) rfl hW' (by kernel_rfl) (by rw [Tryd.params4]; intro t ht'; have e : t = 28 ∨ t = 5 ∨ t = 3 ∨ t = 28 ∨ t = 22 := (by simpa using ht'); rcases e with rfl | rfl | rfl | rfl | rfl <;> exact ⟨by kernel_rfl, of_decide_eq_true (by kernel_rfl)⟩) (by kernel_rfl) (by kernel_rfl) rfl rfl rfl hst.below⟩

abbrev mver_args : Array Value := #[.agg #[.int .u8 0, .int .u8 0, .int .u8 0, .int .u8 0, .int .u8 0, .int .u8 0, .int .u8 0, .int .u8 0, .int .u8 0, .int .u8 0, .int .u8 0, .int .u8 0, .int .u8 0, .int .u8 0, .int .u8 0, .int .u8 0], .int .u8 0, .int .i64 0, .agg #[.int .u8 0, .int .u8 0, .int .u8 0, .int .u8 0, .int .u8 0, .int .u8 0, .int .u8 0, .int .u8 0, .int .u8 0, .int .u8 0, .int .u8 0, .int .u8 0, .int .u8 0, .int .u8 0, .int .u8 0, .int .u8 0], .slice none 0 0]
theorem mver_met (os : Os) : laidMet Tryd.prog Rows.merkleVerifyUptoRow.laid ((laidWorld os #[]).forCall (fun _ _ => 0) ⟨#[], mver_args, []⟩).memory :=
  laidMet_of_run' 8 (by kernel_rfl) (by kernel_rfl)
theorem mver_reads (os : Os) {H : Type} (enc : TypeId × Value → H) : ∃ places, DataW.whole enc Tryd.prog ((laidWorld os #[]).forCall (fun _ _ => 0) ⟨#[], mver_args, []⟩).memory Tryd.f4.params.toList Rows.merkleVerifySpec.vars false mver_args.toList 8 = some ([.agg [.lit (.int .u8 0), .lit (.int .u8 0), .lit (.int .u8 0), .lit (.int .u8 0), .lit (.int .u8 0), .lit (.int .u8 0), .lit (.int .u8 0), .lit (.int .u8 0), .lit (.int .u8 0), .lit (.int .u8 0), .lit (.int .u8 0), .lit (.int .u8 0), .lit (.int .u8 0), .lit (.int .u8 0), .lit (.int .u8 0), .lit (.int .u8 0)], .lit (.int .u8 0), .lit (.int .i64 0), .agg [.lit (.int .u8 0), .lit (.int .u8 0), .lit (.int .u8 0), .lit (.int .u8 0), .lit (.int .u8 0), .lit (.int .u8 0), .lit (.int .u8 0), .lit (.int .u8 0), .lit (.int .u8 0), .lit (.int .u8 0), .lit (.int .u8 0), .lit (.int .u8 0), .lit (.int .u8 0), .lit (.int .u8 0), .lit (.int .u8 0), .lit (.int .u8 0)], .nil], [], places) :=
  ⟨[], by kernel_rfl⟩

set_option maxRecDepth 100000 in
theorem mver_lifted (os : Os) (started : os.Started) (H : Type) (enc : TypeId × Value → H) (F : Stop.Interp) :
    ReturnsInHanded {} Tryd.checked os 4 .any ((Rows.OpenSpec.upto Rows.merkleVerifySpec).preRow enc Tryd.prog Tryd.f4 Rows.merkleVerifyUptoRow.domain false Rows.merkleVerifyUptoRow.laid) (((Rows.OpenSpec.upto Rows.merkleVerifySpec).at F).post enc Tryd.prog Tryd.f4 false true false false) := by
  obtain ⟨places, hx⟩ := mver_reads os enc
  refine returnsInHanded_of_row (C := Tryd.checked) (s := Rows.OpenSpec.upto Rows.merkleVerifySpec) own started (by kernel_rfl) Tryd.func4
    (witness_row_at (enc := enc) (C := Tryd.checked) false (laidWorld os #[]) mver_args rfl (by kernel_rfl) (by kernel_rfl) (by kernel_rfl)
      (OpenSpec.preRow_of_cond 8 hx (by kernel_rfl) (fun k hk => by cases hk; kernel_rfl) (by kernel_rfl) (mver_met os))) ?_
  intro W base args ds gs before hval hW _ hc _ hL _ _
  exact mver_post H enc W base args ds gs before hval hW (hc _ rfl) hL

theorem mver_said : Rows.MerkleVerifyUptoSaid :=
  OpenClaim.holds_of_cond 4 Tryd.f4 rfl rfl rfl rfl rfl rfl rfl ⟨rfl, rfl, rfl, rfl, rfl⟩ rfl rfl rfl rfl rfl (by kernel_rfl) Tryd.func4 (by kernel_rfl)
    (of_decide_eq_true (by kernel_rfl)) (by unfold Func.isWrapper; first | (rw [if_pos (by decide +kernel)]; kernel_rfl) | (rw [if_neg (by decide +kernel)]; exact ⟨rfl, rfl⟩))
    (fun os started H enc _ F => by rw [OpenClaim.pre_eq_preRow]; exact mver_lifted os started H enc F)

theorem mver_plain (f : FuncId) (fn : Func) (hf : Tryd.pinned.checked.prog.funcNamed "bootchain/bootchainlaw03.MerkleVerify" = some f) (hfn : Tryd.pinned.checked.prog.funcs[f]? = some fn) :
    false = Tryd.pinned.checked.prog.looks [] ∧ ∀ (j : Nat) t, fn.params[j]? = some t → Tryd.pinned.checked.prog.wantsStandIn t = false := by
  obtain rfl : f = 4 := Option.some.inj ((show Tryd.prog.funcNamed "bootchain/bootchainlaw03.MerkleVerify" = some 4 by kernel_rfl).symm.trans hf) |>.symm
  obtain rfl : fn = Tryd.f4 := (Option.some.inj (Tryd.func4.symm.trans hfn)).symm
  refine ⟨by kernel_rfl, fun j t ht => ?_⟩
  rw [Tryd.params4] at ht
  have e : t = 28 ∨ t = 5 ∨ t = 3 ∨ t = 28 ∨ t = 22 := by simpa using Array.mem_of_getElem? ht
  rcases e with rfl | rfl | rfl | rfl | rfl
  · exact (show Tryd.prog.wantsStandIn 28 = false by kernel_rfl)
  · exact (show Tryd.prog.wantsStandIn 5 = false by kernel_rfl)
  · exact (show Tryd.prog.wantsStandIn 3 = false by kernel_rfl)
  · exact (show Tryd.prog.wantsStandIn 28 = false by kernel_rfl)
  · exact (show Tryd.prog.wantsStandIn 22 = false by kernel_rfl)

theorem mver_proved : Rows.MerkleVerifyUptoCardSaid :=
  Claim7.holds_tied_plain_at .later [] _ _ _ _ mver_said (fun _ h => by cases h) (by kernel_rfl) (fun _ h => by cases h) merkleVerifyUpto_row_tie rfl ⟨rfl, rfl⟩ (by kernel_rfl) rfl mver_plain (by kernel_rfl)
end Go.Proofs.YtcobalpbencboaaDoor
