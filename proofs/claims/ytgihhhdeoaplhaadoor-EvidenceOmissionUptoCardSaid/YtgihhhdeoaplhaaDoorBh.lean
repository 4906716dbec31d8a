/- The reference's SHA-256 walked; package wire in plain form. -/
import Derived.Test.YtgihhhdeoaplhaaDoorBb
import Derived.Test.YtgihhhdeoaplhaaDoorBd
import Derived.Test.YtgihhhdeoaplhaaDoorBc

/- The reference's SHA-256: words. -/
--@u32
--@hgp
--@idxv
namespace Go.Proofs.YtgihhhdeoaplhaaDoor
set_option linter.unusedSimpArgs false
set_option linter.unusedVariables false
open Go.RowKit Go.Sl

set_option maxRecDepth 8000 in
set_option maxHeartbeats 400000 in
theorem rot_c {S M} (w : World) (hst : St S M w) (x : UInt32) (n : Nat) (h1 : n ≤ 32) :
    Rets Tryd.prog 85 [.int .u32 (x.toNat : Int), .int .i64 (n : Int)] w fun v w' => v = .int .u32 ((rotN x n).toNat : Int) ∧ St S M w' := by
  unfold Rets
  go_enter Tryd.func85, Tryd.ntmps85
  repeat' (((fail_if_success (go_big_may)); (go_step)))
  refine v_begin hst (by kernel_rfl) ?_; clear hst; intro ops; (try refine nY ?_)
  (refine t_qt 0 rfl (by kernel_rfl) rfl rfl (by exact qt_move evX) ?_) <;> (try refine nY ?_)
  (refine t_qt 1 rfl (by kernel_rfl) rfl rfl (by exact qt_move evX) ?_) <;> (try refine nY ?_)
  (refine t_qt 2 rfl (by kernel_rfl) rfl rfl (by exact qt_shr32 rfl rfl omX) ?_) <;> (try refine nY ?_)
  (refine t_qt 3 rfl (by kernel_rfl) rfl rfl (by exact qt_move evX) ?_) <;> (try refine nY ?_)
  (refine t_qt 4 rfl (by kernel_rfl) rfl rfl (by exact qt_move evX) ?_) <;> (try refine nY ?_)
  (refine t_qt 5 rfl (by kernel_rfl) rfl rfl (by exact qt_sub' rfl rfl omX) ?_) <;> (try refine nY ?_)
  (refine t_qt 6 rfl (by kernel_rfl) rfl rfl (by exact qt_shl32 rfl rfl omX) ?_) <;> (try refine nY ?_)
  (refine t_qt 7 rfl (by kernel_rfl) rfl rfl (by exact qt_or32 rfl rfl) ?_) <;> (try refine nY ?_)
  (refine t_qt 8 rfl (by kernel_rfl) rfl rfl (by exact qt_assign evX) ?_) <;> (try refine nY ?_)
  refine v_done (by kernel_rfl) ?_; clear ops; intro w hst
  repeat' (((fail_if_success (go_big_may)); (go_step)))
  go_ret
  exact ⟨_, rfl, by rw [rotN, UInt32.or_comm, show ((32 : Int) - (n : Int)).toNat = 32 - n by omega]; rfl, hst⟩

def hexd (x : UInt8) : Nat := if 97 ≤ x.toNat then x.toNat - 87 else x.toNat - 48
def isHex (x : UInt8) : Prop := (48 ≤ x.toNat ∧ x.toNat ≤ 57) ∨ (97 ≤ x.toNat ∧ x.toNat ≤ 102)
instance (x : UInt8) : Decidable (isHex x) := inferInstanceAs (Decidable (_ ∨ _))
theorem hexd_lt {x : UInt8} (h : isHex x) : hexd x < 16 := by unfold hexd; unfold isHex at h; split <;> omega
def wordN (s : List UInt8) : Nat := s.foldl (fun w x => 16 * w + hexd x) 0
theorem wordN_snoc (s : List UInt8) (x : UInt8) : wordN (s ++ [x]) = 16 * wordN s + hexd x := by rw [wordN, List.foldl_append]; rfl
theorem wordN_lt : ∀ (n : Nat) (s : List UInt8), s.length = n → (∀ x ∈ s, isHex x) → wordN s < 16 ^ n
  | 0, s, h, _ => by rw [List.eq_nil_of_length_eq_zero h]; decide
  | n + 1, s, h, hs => by
    have hne : s ≠ [] := fun e => by rw [e] at h; cases h
    obtain ⟨x, hx⟩ : ∃ x, s.getLast hne = x := ⟨_, rfl⟩
    have e := List.dropLast_concat_getLast hne
    rw [hx] at e
    have hl : s.dropLast.length = n := by rw [List.length_dropLast, h]; rfl
    have ih := wordN_lt n s.dropLast hl fun y hy => hs y (by rw [← e]; exact List.mem_append_left _ hy)
    have hd := hexd_lt (hs x (by rw [← e]; simp))
    rw [← e, wordN_snoc, Nat.pow_succ]
    omega
def wordAt (s : List UInt8) (i : Nat) : Nat := wordN ((s.drop (8 * i)).take 8)

set_option maxRecDepth 8000 in
set_option maxHeartbeats 400000 in
theorem word_c {S M} (w : World) (hst : St S M w) (s : List UInt8) (i : Nat) (hs : 8 * i + 8 ≤ s.length) (hh : ∀ x ∈ s, isHex x) (hm : s.length ≤ 1000) :
    Rets Tryd.prog 84 [.string ⟨s.toArray⟩, .int .i64 (i : Int)] w fun v w' => v = .int .u32 (wordAt s i : Int) ∧ St S M w' := by
  unfold Rets
  go_enter Tryd.func84, Tryd.ntmps84
  repeat' (first | ((fail_if_success (go_big_may)); (go_step)) | (with_reducible refine Sl.gate rfl ?_; (go_step)))
  go_loopw [5, 6] (fun u v wr => ∃ (k : Int) (j W : Nat), k = 8 * i + j ∧ j ≤ 8 ∧ v = .int .i64 k ∧ u = .int .u32 (W : Int) ∧ Hid (W = wordN ((s.drop (8 * i)).take j)) ∧ St S M wr) (fun _ v _ => 8 * i + 8 - (intOf v).toNat)
  case atStart => exact ⟨_, 0, 0, by omega, by omega, rfl, rfl, Lib.hid rfl, hst⟩
  case round =>
    clear hst
    obtain ⟨k, j, W, hk, hj, rfl, rfl, hW, hst⟩ := hrel
    by_cases hlt : j < 8
    · have hkl : k.toNat < s.length := by omega
      have hx := hh s[k.toNat] (List.getElem_mem hkl)
      have hjl : j < (s.drop (8 * i)).length := by rw [List.length_drop]; omega
      have hg : (s.drop (8 * i))[j] = s[k.toNat] := by rw [List.getElem_drop]; congr 1; omega
      have hW1 : W < 16 ^ j := by
        rw [hW.out]
        exact wordN_lt j _ (by rw [List.length_take]; omega) fun x hx => hh x (List.mem_of_mem_drop (List.mem_of_mem_take hx))
      have hW2 : W < 268435456 := Nat.lt_of_lt_of_le hW1 (Nat.le_trans (Nat.pow_le_pow_right (by decide) (show j ≤ 7 by omega)) (by decide))
      have hd := hexd_lt hx
      have hnext : Hid (16 * W + hexd s[k.toNat] = wordN ((s.drop (8 * i)).take (j + 1))) := Lib.hid (by rw [List.take_succ_eq_append_getElem hjl, wordN_snoc, ← hW.out, hg])
      have hk2 : ¬ 8 * (i : Int) + 8 ≤ k := by omega
      clear hW1 hg hjl
      have Hk := Lib.hid hk
      have hk3 : 0 ≤ k ∧ k ≤ 1000 := by omega
      clear hk
      by_cases h97 : 97 ≤ s[k.toNat].toNat
      · have hx2 : s[k.toNat].toNat ≤ 102 := by unfold isHex at hx; omega
        have hde : Hid (hexd s[k.toNat] = s[k.toNat].toNat - 87) := Lib.hid (if_pos h97)
        clear hx
        repeat' (first | (((with_reducible (refine Sl.k_conv ?_; refine s_qt hst (qt_convI832 rfl inX inX omX) ?_))) <;> (try refine nY ?_)) | (with_reducible refine Sl.k_bin ?_; (refine s_qt hst (by first | exact qt_sub8 rfl rfl omX | exact qt_add8 rfl rfl omX | exact qt_mulI32 rfl rfl omX | exact qt_addI32 rfl rfl omX) ?_)) | (((with_reducible refine Sl.k_indexV ?_; (refine s_qt hst (by exact qt_indexS evX evX StrT.u omX omX) ?_))) <;> (try refine nY ?_)) | ((fail_if_success (go_big_may)); (go_step)) | (with_reducible refine Sl.gate rfl ?_; (go_step)))
        go_roundw
        case rel => exact ⟨k + 1, j + 1, 16 * W + hexd s[k.toNat], by have := Hk.out; omega, by omega, by go_num, by rw [hde.out]; congr 1; omega, hnext, hst⟩
        case measure => simp [intOf]; omega
      · have hx2 : 48 ≤ s[k.toNat].toNat ∧ s[k.toNat].toNat ≤ 57 := by unfold isHex at hx; omega
        have hde : Hid (hexd s[k.toNat] = s[k.toNat].toNat - 48) := Lib.hid (if_neg h97)
        clear hx
        repeat' (first | (((with_reducible (refine Sl.k_conv ?_; refine s_qt hst (qt_convI832 rfl inX inX omX) ?_))) <;> (try refine nY ?_)) | (with_reducible refine Sl.k_bin ?_; (refine s_qt hst (by first | exact qt_sub8 rfl rfl omX | exact qt_mulI32 rfl rfl omX | exact qt_addI32 rfl rfl omX) ?_)) | (((with_reducible refine Sl.k_indexV ?_; (refine s_qt hst (by exact qt_indexS evX evX StrT.u omX omX) ?_))) <;> (try refine nY ?_)) | ((fail_if_success (go_big_may)); (go_step)) | (with_reducible refine Sl.gate rfl ?_; (go_step)))
        go_roundw
        case rel => exact ⟨k + 1, j + 1, 16 * W + hexd s[k.toNat], by have := Hk.out; omega, by omega, by go_num, by rw [hde.out]; congr 1; omega, hnext, hst⟩
        case measure => simp [intOf]; omega
    · obtain rfl : j = 8 := by omega
      have hk2 : 8 * (i : Int) + 8 ≤ k := by omega
      clear hk
      repeat' (first | ((fail_if_success (go_big_may)); (go_step)) | (with_reducible refine Sl.gate rfl ?_; (go_step)))
      go_ret
      exact ⟨_, rfl, by rw [hW.out]; rfl, hst⟩

def wordsL (s : List UInt8) (n : Nat) : List UInt32 := (List.range n).map fun i => UInt32.ofNat (wordAt s i)
theorem wordsL_snoc (s : List UInt8) (n : Nat) : wordsL s (n + 1) = wordsL s n ++ [UInt32.ofNat (wordAt s n)] := by rw [wordsL, List.range_succ, List.map_append]; rfl

set_option maxRecDepth 8000 in
set_option maxHeartbeats 400000 in
theorem words_c {S M} (w : World) (hst : St S M w) (s : List UInt8) (n : Nat) (hs : 8 * n ≤ s.length) (hh : ∀ x ∈ s, isHex x) (hm : s.length ≤ 1000) :
    Rets Tryd.prog 79 [.string ⟨s.toArray⟩, .int .i64 (n : Int)] w fun v w' => St S (.sl v 109 1 (wordsL s n).length (cF u32C (wordsL s n)) :: M) w' := by
  unfold Rets
  go_enter Tryd.func79, Tryd.ntmps79
  repeat' (((fail_if_success (go_big_may)); (go_step)))
  go_loopw [5, 6] (fun u v wr => ∃ (i : Nat) (c : List UInt32), i ≤ n ∧ v = .int .i64 i ∧ Hid (c = wordsL s i) ∧ c.length ≤ i ∧ u.oneCell' = true ∧ St S (.sl u 109 1 c.length (cF u32C c) :: M) wr) (fun _ v _ => n - (intOf v).toNat)
  case atStart => exact ⟨0, [], Nat.zero_le _, rfl, Lib.hid rfl, Nat.le_refl _, rfl, hst.nil _ 1⟩
  case round =>
    clear hst
    obtain ⟨i, c, hi, rfl, hc, hcl, hone, hst⟩ := hrel
    by_cases hlt : i < n
    · have h8 : 8 * i + 8 ≤ s.length := by omega
      have hW : wordAt s i < 4294967296 := wordN_lt 8 _ (by rw [List.length_take, List.length_drop]; omega) fun x hx => hh x (List.mem_of_mem_drop (List.mem_of_mem_take hx))
      have hE : ((wordAt s i : Nat) : Int) = ((UInt32.ofNat (wordAt s i)).toNat : Int) := by rw [UInt32.toNat_ofNat_of_lt' (by have : UInt32.size = 4294967296 := rfl; omega)]
      have hsn := Lib.hid (wordsL_snoc s i)
      have cw := fun {S M} (w : World) (hst : St S M w) => word_c w hst s i h8 hh hm
      rw [hE] at cw
      generalize UInt32.ofNat (wordAt s i) = x at *
      clear hE hW
      repeat' (first | (((with_reducible refine Sl.k_call ?_; ((refine s_call (cw _ hst) inX rfl ?_; clear hst; rintro v w ⟨rfl, hst⟩)))) <;> (try refine nY ?_) <;> (try replace hst := nH hst)) | ((fail_if_success (go_big_may)); (go_step)) | (with_reducible refine Sl.gate rfl ?_; (go_step)))
      refine s_lit (vs := [.int .u32 (x.toNat : Int)]) hst inX inX rfl rfl (by simp [Value.cells]) rfl (by omega) (by omega) ?_
      clear hst; intro u w hst
      refine nY ?_
      repeat' (fail)
      refine s_append (j := 0) hst evX evX SlIn.h rfl inX inX inX (by simp [Value.cells, Value.oneCell']) (by omega) (by omega) (by decide) ?_
      clear hst; intro v' w hst
      refine nY ?_
      (try replace hst := nH hst)
      replace hst := hst.drop
      repeat' (first | ((fail_if_success (go_big_may)); (go_step)) | (with_reducible refine Sl.gate rfl ?_; (go_step)))
      have hone' := sl_one hst
      go_roundw
      case rel => exact ⟨i + 1, c ++ [x], by omega, by go_num, Lib.hid (by rw [hsn.out, hc.out]), by simp; omega, hone', by rw [List.length_append, cF_snoc]; exact hst⟩
      case measure => simp [intOf]; omega
    · obtain rfl : i = n := by omega
      repeat' (first | ((fail_if_success (go_big_may)); (go_step)) | (with_reducible refine Sl.gate rfl ?_; (go_step)))
      go_ret
      exact ⟨_, rfl, by rw [← hc.out]; exact hst⟩
end Go.Proofs.YtgihhhdeoaplhaaDoor

/- The reference's SHA-256: one block. -/
--@u32
--@hgp
--@ex0
namespace Go.Proofs.YtgihhhdeoaplhaaDoor
set_option linter.unusedSimpArgs false
set_option linter.unusedVariables false
open Go.RowKit Go.Sl

theorem rotI_c {S M} (w : World) (hst : St S M w) (x : UInt32) (n : Int) (h1 : 0 ≤ n ∧ n ≤ 32) :
    Rets Tryd.prog 85 [.int .u32 (x.toNat : Int), .int .i64 n] w fun v w' => v = .int .u32 ((rotN x n.toNat).toNat : Int) ∧ St S M w' := by
  obtain ⟨m, rfl⟩ : ∃ m : Nat, n = m := ⟨n.toNat, by omega⟩
  exact rot_c w hst x m (by omega)
theorem rots2 (x : UInt32) (a b : Nat) : rots x [a, b] = rotN x a ^^^ rotN x b := by simp [rots]
theorem rots3 (x : UInt32) (a b c : Nat) : rots x [a, b, c] = rotN x a ^^^ rotN x b ^^^ rotN x c := by simp [rots]
theorem sched1_hi (blk : List UInt8) (ws : List UInt32) {i : Nat} (h : ¬ i < 16) : sched1 blk ws i = ws.getD (i - 16) 0 + (rotN (ws.getD (i - 15) 0) 7 ^^^ rotN (ws.getD (i - 15) 0) 18 ^^^ shr (ws.getD (i - 15) 0) 3) + ws.getD (i - 7) 0 + (rotN (ws.getD (i - 2) 0) 17 ^^^ rotN (ws.getD (i - 2) 0) 19 ^^^ shr (ws.getD (i - 2) 0) 10) := by
  rw [sched1, if_neg h, rots2, rots2]
theorem loadW4 (a b c d : UInt8) : loadW [a, b, c, d] = shl (UInt32.ofNat a.toNat) 24 ||| shl (UInt32.ofNat b.toNat) 16 ||| shl (UInt32.ofNat c.toNat) 8 ||| UInt32.ofNat d.toNat := by
  have hs : ∀ (x y : UInt32) (n : Nat), shl (x ||| y) n = shl x n ||| shl y n := fun x y n => by
    apply UInt32.toBitVec_inj.1
    show (x.toBitVec ||| y.toBitVec) <<< n = _
    rw [BitVec.shiftLeft_or_distrib]
    rfl
  have ha : ∀ (x : UInt32) (n m : Nat), shl (shl x n) m = shl x (n + m) := fun x n m => by
    apply UInt32.toBitVec_inj.1
    show (x.toBitVec <<< n) <<< m = _
    rw [← BitVec.shiftLeft_add]
    rfl
  have h0 : ∀ n : Nat, shl 0 n = 0 := fun n => by
    apply UInt32.toBitVec_inj.1
    show (0 : BitVec 32) <<< n = 0
    simp
  simp only [loadW, List.foldl_cons, List.foldl_nil, hs, ha, h0, UInt32.zero_or]
theorem sched1_lo {blk : List UInt8} (ws : List UInt32) {i : Nat} (h : i < 16) (hl : 4 * i + 3 < blk.length) :
    sched1 blk ws i = shl (UInt32.ofNat blk[4 * i].toNat) 24 ||| shl (UInt32.ofNat blk[4 * i + 1].toNat) 16 ||| shl (UInt32.ofNat blk[4 * i + 2].toNat) 8 ||| UInt32.ofNat blk[4 * i + 3].toNat := by
  rw [sched1, if_pos h, ← loadW4]
  congr 1
  rw [List.drop_eq_getElem_cons (by omega), List.drop_eq_getElem_cons (show 4 * i + 1 < blk.length by omega), List.drop_eq_getElem_cons (show 4 * i + 1 + 1 < blk.length by omega), List.drop_eq_getElem_cons (show 4 * i + 1 + 1 + 1 < blk.length by omega)]
  rfl
theorem getD_get {α : Type} {l : List α} {i : Nat} (h : i < l.length) (d : α) : l.getD i d = l[i] := by rw [List.getD_eq_getElem?_getD, List.getElem?_eq_getElem h]; rfl

set_option maxRecDepth 100000 in
set_option maxHeartbeats 4000000 in
theorem refComp_c {S M} (w : World) (hst : St S M w) (vv vb vk : Value) (h : S8) (blk : List UInt8) (hv : RSl S vv h.l) (hb : RSl S vb blk) (hk : RSl S vk kList) (hl : blk.length = 64) :
    Rets Tryd.prog 80 [vv, vb, vk] w fun v w' => St S (.sl v 109 1 8 (s8C (comp h blk)) :: M) w' := by
  unfold Rets
  have h64 : 64 ≤ blk.length ∧ blk.length ≤ 64 := by omega
  have hvl : 8 ≤ h.l.length := Nat.le_refl 8
  clear hl
  go_enter Tryd.func80, Tryd.ntmps80
  repeat' (((fail_if_success (go_big_may)); (go_step)))
  refine s_make (n := 64) hst (by infer_instance) (by infer_instance) evX evX (by omega) (by omega) ?_
  clear hst; intro vw w hst
  have hst : St S (.sl vw 109 1 64 (cF u32C (sched blk 0)) :: M) w := by rw [zero64]; exact hst
  have hvw := sl_one hst
  refine nY ?_
  repeat' (((fail_if_success (go_big_may)); (go_step)))
  go_loopw [8] (fun v wr => ∃ (i : Nat) (ws : List UInt32), i ≤ 16 ∧ v = .int .i64 i ∧ Hid (ws = sched blk i) ∧ (64 ≤ ws.length ∧ ws.length ≤ 64) ∧ St S (.sl vw 109 1 64 (cF u32C ws) :: M) wr) (fun v _ => 16 - (intOf v).toNat)
  case atStart => exact ⟨0, _, by omega, rfl, Lib.hid rfl, by rw [sched_len]; omega, hst⟩
  case round =>
    clear hst
    obtain ⟨i, ws, hi, rfl, hws, hwl, hst⟩ := hrel
    by_cases hlt : i < 16
    · have hE := Lib.hid (sched1_lo (blk := blk) ws hlt (by omega))
      repeat' (first | ((fail_if_success (go_big_may)); (go_step)) | (with_reducible refine Sl.gate rfl ?_; (go_step)))
      refine v_begin hst (by kernel_rfl) ?_; clear hst; intro ops; (try refine nY ?_)
      (refine t_qt 0 rfl (by kernel_rfl) rfl rfl (by exact qt_move evX) ?_) <;> (try refine nY ?_)
      (refine t_qt 1 rfl (by kernel_rfl) rfl rfl (by exact qt_move evX) ?_) <;> (try refine nY ?_)
      (refine t_qt 2 rfl (by kernel_rfl) rfl rfl (by exact qt_move evX) ?_) <;> (try refine nY ?_)
      (refine t_qt 3 rfl (by kernel_rfl) rfl rfl (by exact qt_move evX) ?_) <;> (try refine nY ?_)
      (refine t_qt 4 rfl (by kernel_rfl) rfl rfl (by exact qt_mul' rfl rfl omX) ?_) <;> (try refine nY ?_)
      ((refine t_ex0 5 rfl (by kernel_rfl) rfl rfl (qt_index evX asX rfl inX inX omX omX) ?_; rintro v hp; (try simp only [Int.toNat_natCast, Int.toNat_natCast_add_one, Int.reduceToNat] at hp))) <;> (try refine nY ?_)
      (refine t_qt 6 rfl (by kernel_rfl) rfl rfl (by exact qt_ldp_u8 evX asX inX) ?_) <;> (try refine nY ?_)
      (refine t_qt 7 rfl (by kernel_rfl) rfl rfl (by exact qt_conv832 rfl inX inX) ?_) <;> (try refine nY ?_)
      (refine t_qt 8 rfl (by kernel_rfl) rfl rfl (by exact qt_shl32 rfl rfl omX) ?_) <;> (try refine nY ?_)
      (refine t_qt 9 rfl (by kernel_rfl) rfl rfl (by exact qt_move evX) ?_) <;> (try refine nY ?_)
      (refine t_qt 10 rfl (by kernel_rfl) rfl rfl (by exact qt_move evX) ?_) <;> (try refine nY ?_)
      (refine t_qt 11 rfl (by kernel_rfl) rfl rfl (by exact qt_mul' rfl rfl omX) ?_) <;> (try refine nY ?_)
      (refine t_qt 12 rfl (by kernel_rfl) rfl rfl (by exact qt_add' rfl rfl omX) ?_) <;> (try refine nY ?_)
      ((refine t_ex0 13 rfl (by kernel_rfl) rfl rfl (qt_index evX asX rfl inX inX omX omX) ?_; rintro v hp; (try simp only [Int.toNat_natCast, Int.toNat_natCast_add_one, Int.reduceToNat] at hp))) <;> (try refine nY ?_)
      (refine t_qt 14 rfl (by kernel_rfl) rfl rfl (by exact qt_ldp_u8 evX asX inX) ?_) <;> (try refine nY ?_)
      (refine t_qt 15 rfl (by kernel_rfl) rfl rfl (by exact qt_conv832 rfl inX inX) ?_) <;> (try refine nY ?_)
      (refine t_qt 16 rfl (by kernel_rfl) rfl rfl (by exact qt_shl32 rfl rfl omX) ?_) <;> (try refine nY ?_)
      (refine t_qt 17 rfl (by kernel_rfl) rfl rfl (by exact qt_or32 rfl rfl) ?_) <;> (try refine nY ?_)
      (refine t_qt 18 rfl (by kernel_rfl) rfl rfl (by exact qt_move evX) ?_) <;> (try refine nY ?_)
      (refine t_qt 19 rfl (by kernel_rfl) rfl rfl (by exact qt_move evX) ?_) <;> (try refine nY ?_)
      (refine t_qt 20 rfl (by kernel_rfl) rfl rfl (by exact qt_mul' rfl rfl omX) ?_) <;> (try refine nY ?_)
      (refine t_qt 21 rfl (by kernel_rfl) rfl rfl (by exact qt_add' rfl rfl omX) ?_) <;> (try refine nY ?_)
      ((refine t_ex0 22 rfl (by kernel_rfl) rfl rfl (qt_index evX asX rfl inX inX omX omX) ?_; rintro v hp; (try simp only [Int.toNat_natCast, Int.toNat_natCast_add_one, Int.reduceToNat] at hp))) <;> (try refine nY ?_)
      (refine t_qt 23 rfl (by kernel_rfl) rfl rfl (by exact qt_ldp_u8 evX asX inX) ?_) <;> (try refine nY ?_)
      (refine t_qt 24 rfl (by kernel_rfl) rfl rfl (by exact qt_conv832 rfl inX inX) ?_) <;> (try refine nY ?_)
      (refine t_qt 25 rfl (by kernel_rfl) rfl rfl (by exact qt_shl32 rfl rfl omX) ?_) <;> (try refine nY ?_)
      (refine t_qt 26 rfl (by kernel_rfl) rfl rfl (by exact qt_or32 rfl rfl) ?_) <;> (try refine nY ?_)
      (refine t_qt 27 rfl (by kernel_rfl) rfl rfl (by exact qt_move evX) ?_) <;> (try refine nY ?_)
      (refine t_qt 28 rfl (by kernel_rfl) rfl rfl (by exact qt_move evX) ?_) <;> (try refine nY ?_)
      (refine t_qt 29 rfl (by kernel_rfl) rfl rfl (by exact qt_mul' rfl rfl omX) ?_) <;> (try refine nY ?_)
      (refine t_qt 30 rfl (by kernel_rfl) rfl rfl (by exact qt_add' rfl rfl omX) ?_) <;> (try refine nY ?_)
      ((refine t_ex0 31 rfl (by kernel_rfl) rfl rfl (qt_index evX asX rfl inX inX omX omX) ?_; rintro v hp; (try simp only [Int.toNat_natCast, Int.toNat_natCast_add_one, Int.reduceToNat] at hp))) <;> (try refine nY ?_)
      (refine t_qt 32 rfl (by kernel_rfl) rfl rfl (by exact qt_ldp_u8 evX asX inX) ?_) <;> (try refine nY ?_)
      (refine t_qt 33 rfl (by kernel_rfl) rfl rfl (by exact qt_conv832 rfl inX inX) ?_) <;> (try refine nY ?_)
      (refine t_qt 34 rfl (by kernel_rfl) rfl rfl (by exact qt_or32 rfl rfl) ?_) <;> (try refine nY ?_)
      ((refine t_ex 35 rfl (by kernel_rfl) rfl rfl (fun w hst => qt_index_own hst evX SlIn.h rfl inX inX omX omX) ?_; rintro v hp; (try simp only [Int.toNat_natCast, Int.toNat_natCast_add_one, Int.reduceToNat] at hp))) <;> (try refine nY ?_)
      refine v_one 36 rfl (by kernel_rfl) ?_; intro w hst K hK; (refine s_stU hst evX asX SlIn.h inX evX omX ?_); clear hst; intro w hst; (try refine nY ?_); (try replace hst := nH hst); refine v_last hK hst ?_; clear hst hK K; (try clear w); (try refine nY ?_)
      refine v_done (by kernel_rfl) ?_; clear ops; intro w hst
      repeat' (first | ((fail_if_success (go_big_may)); (go_step)) | (with_reducible refine Sl.gate rfl ?_; (go_step)))
      have e0 : (4 * (i : Int)).toNat = 4 * i := by omega
      have e1 : (4 * (i : Int) + 1).toNat = 4 * i + 1 := by omega
      have e2 : (4 * (i : Int) + 2).toNat = 4 * i + 2 := by omega
      have e3 : (4 * (i : Int) + 3).toNat = 4 * i + 3 := by omega
      simp only [e0, e1, e2, e3] at hst

      go_roundw
      case rel => exact ⟨i + 1, _, by omega, by go_num, Lib.hid (by rw [sched, ← hws.out, hE.out]), by rw [List.length_set]; omega, hst⟩
      case measure => simp [intOf]; omega
    · obtain rfl : i = 16 := by omega
      repeat' (first | ((fail_if_success (go_big_may)); (go_step)) | (with_reducible refine Sl.gate rfl ?_; (go_step)))
      clear hi hlt
      go_loopw [9] (fun v wr => ∃ (i : Nat) (ws : List UInt32), (16 ≤ i ∧ i ≤ 64) ∧ v = .int .i64 i ∧ Hid (ws = sched blk i) ∧ (64 ≤ ws.length ∧ ws.length ≤ 64) ∧ St S (.sl vw 109 1 64 (cF u32C ws) :: M) wr) (fun v _ => 64 - (intOf v).toNat)
      case atStart => exact ⟨16, _, by omega, rfl, hws, hwl, hst⟩
      case round =>
        clear hst hws hwl ws
        obtain ⟨i, ws, hi, rfl, hws, hwl, hst⟩ := hrel
        by_cases hlt : i < 64
        · have hE := Lib.hid (sched1_hi blk ws (show ¬ i < 16 by omega))
          repeat' (first | ((fail_if_success (go_big_may)); (go_step)) | (with_reducible refine Sl.gate rfl ?_; (go_step)))
          refine v_begin hst (by kernel_rfl) ?_; clear hst; intro ops; (try refine nY ?_)
          (refine t_qt 0 rfl (by kernel_rfl) rfl rfl (by exact qt_move evX) ?_) <;> (try refine nY ?_)
          (refine t_qt 1 rfl (by kernel_rfl) rfl rfl (by exact qt_move evX) ?_) <;> (try refine nY ?_)
          (refine t_qt 2 rfl (by kernel_rfl) rfl rfl (by exact qt_sub' rfl rfl omX) ?_) <;> (try refine nY ?_)
          ((refine t_ex 3 rfl (by kernel_rfl) rfl rfl (fun w hst => qt_index_own hst evX SlIn.h rfl inX inX omX omX) ?_; rintro v hp; (try simp only [Int.toNat_natCast, Int.toNat_natCast_add_one, Int.reduceToNat] at hp))) <;> (try refine nY ?_)
          (refine t_qt 4 rfl (by kernel_rfl) rfl rfl (by exact qt_ldU evX asX SlIn.h inX omX) ?_) <;> (try refine nY ?_)
          (refine t_call 5 rfl (by kernel_rfl) rfl (fun S' M' w hS hM hst => rotI_c w hst _ _ (by decide)) inX rfl ?_) <;> (try refine nY ?_)
          (refine t_qt 6 rfl (by kernel_rfl) rfl rfl (by exact qt_move evX) ?_) <;> (try refine nY ?_)
          (refine t_qt 7 rfl (by kernel_rfl) rfl rfl (by exact qt_move evX) ?_) <;> (try refine nY ?_)
          (refine t_qt 8 rfl (by kernel_rfl) rfl rfl (by exact qt_sub' rfl rfl omX) ?_) <;> (try refine nY ?_)
          ((refine t_ex 9 rfl (by kernel_rfl) rfl rfl (fun w hst => qt_index_own hst evX SlIn.h rfl inX inX omX omX) ?_; rintro v hp; (try simp only [Int.toNat_natCast, Int.toNat_natCast_add_one, Int.reduceToNat] at hp))) <;> (try refine nY ?_)
          (refine t_qt 10 rfl (by kernel_rfl) rfl rfl (by exact qt_ldU evX asX SlIn.h inX omX) ?_) <;> (try refine nY ?_)
          (refine t_call 11 rfl (by kernel_rfl) rfl (fun S' M' w hS hM hst => rotI_c w hst _ _ (by decide)) inX rfl ?_) <;> (try refine nY ?_)
          (refine t_qt 12 rfl (by kernel_rfl) rfl rfl (by exact qt_xor32 rfl rfl) ?_) <;> (try refine nY ?_)
          (refine t_qt 13 rfl (by kernel_rfl) rfl rfl (by exact qt_move evX) ?_) <;> (try refine nY ?_)
          (refine t_qt 14 rfl (by kernel_rfl) rfl rfl (by exact qt_move evX) ?_) <;> (try refine nY ?_)
          (refine t_qt 15 rfl (by kernel_rfl) rfl rfl (by exact qt_sub' rfl rfl omX) ?_) <;> (try refine nY ?_)
          ((refine t_ex 16 rfl (by kernel_rfl) rfl rfl (fun w hst => qt_index_own hst evX SlIn.h rfl inX inX omX omX) ?_; rintro v hp; (try simp only [Int.toNat_natCast, Int.toNat_natCast_add_one, Int.reduceToNat] at hp))) <;> (try refine nY ?_)
          (refine t_qt 17 rfl (by kernel_rfl) rfl rfl (by exact qt_ldU evX asX SlIn.h inX omX) ?_) <;> (try refine nY ?_)
          (refine t_qt 18 rfl (by kernel_rfl) rfl rfl (by exact qt_shr32 rfl rfl omX) ?_) <;> (try refine nY ?_)
          (refine t_qt 19 rfl (by kernel_rfl) rfl rfl (by exact qt_xor32 rfl rfl) ?_) <;> (try refine nY ?_)
          (refine t_qt 20 rfl (by kernel_rfl) rfl rfl (by exact qt_assign evX) ?_) <;> (try refine nY ?_)
          refine v_done (by kernel_rfl) ?_; clear ops; intro w hst
          repeat' (((fail_if_success (go_big_may)); (go_step)))
          refine v_begin hst (by kernel_rfl) ?_; clear hst; intro ops; (try refine nY ?_)
          (refine t_qt 0 rfl (by kernel_rfl) rfl rfl (by exact qt_move evX) ?_) <;> (try refine nY ?_)
          (refine t_qt 1 rfl (by kernel_rfl) rfl rfl (by exact qt_move evX) ?_) <;> (try refine nY ?_)
          (refine t_qt 2 rfl (by kernel_rfl) rfl rfl (by exact qt_sub' rfl rfl omX) ?_) <;> (try refine nY ?_)
          ((refine t_ex 3 rfl (by kernel_rfl) rfl rfl (fun w hst => qt_index_own hst evX SlIn.h rfl inX inX omX omX) ?_; rintro v hp; (try simp only [Int.toNat_natCast, Int.toNat_natCast_add_one, Int.reduceToNat] at hp))) <;> (try refine nY ?_)
          (refine t_qt 4 rfl (by kernel_rfl) rfl rfl (by exact qt_ldU evX asX SlIn.h inX omX) ?_) <;> (try refine nY ?_)
          (refine t_call 5 rfl (by kernel_rfl) rfl (fun S' M' w hS hM hst => rotI_c w hst _ _ (by decide)) inX rfl ?_) <;> (try refine nY ?_)
          (refine t_qt 6 rfl (by kernel_rfl) rfl rfl (by exact qt_move evX) ?_) <;> (try refine nY ?_)
          (refine t_qt 7 rfl (by kernel_rfl) rfl rfl (by exact qt_move evX) ?_) <;> (try refine nY ?_)
          (refine t_qt 8 rfl (by kernel_rfl) rfl rfl (by exact qt_sub' rfl rfl omX) ?_) <;> (try refine nY ?_)
          ((refine t_ex 9 rfl (by kernel_rfl) rfl rfl (fun w hst => qt_index_own hst evX SlIn.h rfl inX inX omX omX) ?_; rintro v hp; (try simp only [Int.toNat_natCast, Int.toNat_natCast_add_one, Int.reduceToNat] at hp))) <;> (try refine nY ?_)
          (refine t_qt 10 rfl (by kernel_rfl) rfl rfl (by exact qt_ldU evX asX SlIn.h inX omX) ?_) <;> (try refine nY ?_)
          (refine t_call 11 rfl (by kernel_rfl) rfl (fun S' M' w hS hM hst => rotI_c w hst _ _ (by decide)) inX rfl ?_) <;> (try refine nY ?_)
          (refine t_qt 12 rfl (by kernel_rfl) rfl rfl (by exact qt_xor32 rfl rfl) ?_) <;> (try refine nY ?_)
          (refine t_qt 13 rfl (by kernel_rfl) rfl rfl (by exact qt_move evX) ?_) <;> (try refine nY ?_)
          (refine t_qt 14 rfl (by kernel_rfl) rfl rfl (by exact qt_move evX) ?_) <;> (try refine nY ?_)
          (refine t_qt 15 rfl (by kernel_rfl) rfl rfl (by exact qt_sub' rfl rfl omX) ?_) <;> (try refine nY ?_)
          ((refine t_ex 16 rfl (by kernel_rfl) rfl rfl (fun w hst => qt_index_own hst evX SlIn.h rfl inX inX omX omX) ?_; rintro v hp; (try simp only [Int.toNat_natCast, Int.toNat_natCast_add_one, Int.reduceToNat] at hp))) <;> (try refine nY ?_)
          (refine t_qt 17 rfl (by kernel_rfl) rfl rfl (by exact qt_ldU evX asX SlIn.h inX omX) ?_) <;> (try refine nY ?_)
          (refine t_qt 18 rfl (by kernel_rfl) rfl rfl (by exact qt_shr32 rfl rfl omX) ?_) <;> (try refine nY ?_)
          (refine t_qt 19 rfl (by kernel_rfl) rfl rfl (by exact qt_xor32 rfl rfl) ?_) <;> (try refine nY ?_)
          (refine t_qt 20 rfl (by kernel_rfl) rfl rfl (by exact qt_assign evX) ?_) <;> (try refine nY ?_)
          refine v_done (by kernel_rfl) ?_; clear ops; intro w hst
          repeat' (((fail_if_success (go_big_may)); (go_step)))
          refine v_begin hst (by kernel_rfl) ?_; clear hst; intro ops; (try refine nY ?_)
          (refine t_qt 0 rfl (by kernel_rfl) rfl rfl (by exact qt_move evX) ?_) <;> (try refine nY ?_)
          (refine t_qt 1 rfl (by kernel_rfl) rfl rfl (by exact qt_move evX) ?_) <;> (try refine nY ?_)
          (refine t_qt 2 rfl (by kernel_rfl) rfl rfl (by exact qt_move evX) ?_) <;> (try refine nY ?_)
          (refine t_qt 3 rfl (by kernel_rfl) rfl rfl (by exact qt_move evX) ?_) <;> (try refine nY ?_)
          (refine t_qt 4 rfl (by kernel_rfl) rfl rfl (by exact qt_sub' rfl rfl omX) ?_) <;> (try refine nY ?_)
          ((refine t_ex 5 rfl (by kernel_rfl) rfl rfl (fun w hst => qt_index_own hst evX SlIn.h rfl inX inX omX omX) ?_; rintro v hp; (try simp only [Int.toNat_natCast, Int.toNat_natCast_add_one, Int.reduceToNat] at hp))) <;> (try refine nY ?_)
          (refine t_qt 6 rfl (by kernel_rfl) rfl rfl (by exact qt_ldU evX asX SlIn.h inX omX) ?_) <;> (try refine nY ?_)
          (refine t_qt 7 rfl (by kernel_rfl) rfl rfl (by exact qt_move evX) ?_) <;> (try refine nY ?_)
          (refine t_qt 8 rfl (by kernel_rfl) rfl rfl (by exact qt_add32 rfl rfl) ?_) <;> (try refine nY ?_)
          (refine t_qt 9 rfl (by kernel_rfl) rfl rfl (by exact qt_move evX) ?_) <;> (try refine nY ?_)
          (refine t_qt 10 rfl (by kernel_rfl) rfl rfl (by exact qt_move evX) ?_) <;> (try refine nY ?_)
          (refine t_qt 11 rfl (by kernel_rfl) rfl rfl (by exact qt_sub' rfl rfl omX) ?_) <;> (try refine nY ?_)
          ((refine t_ex 12 rfl (by kernel_rfl) rfl rfl (fun w hst => qt_index_own hst evX SlIn.h rfl inX inX omX omX) ?_; rintro v hp; (try simp only [Int.toNat_natCast, Int.toNat_natCast_add_one, Int.reduceToNat] at hp))) <;> (try refine nY ?_)
          (refine t_qt 13 rfl (by kernel_rfl) rfl rfl (by exact qt_ldU evX asX SlIn.h inX omX) ?_) <;> (try refine nY ?_)
          (refine t_qt 14 rfl (by kernel_rfl) rfl rfl (by exact qt_add32 rfl rfl) ?_) <;> (try refine nY ?_)
          (refine t_qt 15 rfl (by kernel_rfl) rfl rfl (by exact qt_move evX) ?_) <;> (try refine nY ?_)
          (refine t_qt 16 rfl (by kernel_rfl) rfl rfl (by exact qt_add32 rfl rfl) ?_) <;> (try refine nY ?_)
          ((refine t_ex 17 rfl (by kernel_rfl) rfl rfl (fun w hst => qt_index_own hst evX SlIn.h rfl inX inX omX omX) ?_; rintro v hp; (try simp only [Int.toNat_natCast, Int.toNat_natCast_add_one, Int.reduceToNat] at hp))) <;> (try refine nY ?_)
          refine v_one 18 rfl (by kernel_rfl) ?_; intro w hst K hK; (refine s_stU hst evX asX SlIn.h inX evX omX ?_); clear hst; intro w hst; (try refine nY ?_); (try replace hst := nH hst); refine v_last hK hst ?_; clear hst hK K; (try clear w); (try refine nY ?_)
          refine v_done (by kernel_rfl) ?_; clear ops; intro w hst
          repeat' (first | ((fail_if_success (go_big_may)); (go_step)) | (with_reducible refine Sl.gate rfl ?_; (go_step)))
          have e15 : ((i : Int) - 15).toNat = i - 15 := by omega
          have e2 : ((i : Int) - 2).toNat = i - 2 := by omega
          have e16 : ((i : Int) - 16).toNat = i - 16 := by omega
          have e7 : ((i : Int) - 7).toNat = i - 7 := by omega
          rw [e15, e2, e16, e7] at hst
          clear e15 e2 e16 e7
          go_roundw
          case rel => exact ⟨i + 1, _, by omega, by go_num, Lib.hid (by rw [sched, ← hws.out, hE.out]), by rw [List.length_set]; omega, hst⟩
          case measure => simp [intOf]; omega
        · obtain rfl : i = 64 := by omega
          clear hi hlt
          have hwl2 : 64 ≤ ws.length := hwl.1
          repeat' (first | ((fail_if_success (go_big_may)); (go_step)) | ((first | (with_reducible refine Sl.k_load ?_; (refine s_qt hst (by exact qt_ldp_u32 evX asX inX) ?_)) | (with_reducible refine Sl.k_index ?_; (((refine s_ex hst (qt_index evX asX rfl inX inX omX omX) ?_); rintro v hp; (try simp only [Int.toNat_natCast, Int.toNat_natCast_add_one, Int.reduceToNat] at hp))))) <;> (try refine nY ?_)) | (with_reducible refine Sl.gate rfl ?_; (go_step)))
          go_loopw [12, 13, 14, 15, 16, 17, 18, 19, 20] (fun va vb vc vd ve vf vg vh v wr => ∃ (i : Nat) (s : S8), i ≤ 64 ∧ va = .int .u32 (s.a.toNat : Int) ∧ vb = .int .u32 (s.b.toNat : Int) ∧ vc = .int .u32 (s.c.toNat : Int) ∧ vd = .int .u32 (s.d.toNat : Int) ∧ ve = .int .u32 (s.e.toNat : Int) ∧ vf = .int .u32 (s.f.toNat : Int) ∧ vg = .int .u32 (s.g.toNat : Int) ∧ vh = .int .u32 (s.h.toNat : Int) ∧ v = .int .i64 i ∧ Hid (s = rounds ws h i) ∧ St S (.sl vw 109 1 64 (cF u32C ws) :: M) wr) (fun _ _ _ _ _ _ _ _ v _ => 64 - (intOf v).toNat)
          case atStart => exact ⟨0, h, by omega, rfl, rfl, rfl, rfl, rfl, rfl, rfl, rfl, rfl, Lib.hid rfl, hst⟩
          case round =>
            clear hst
            obtain ⟨i, s, hi, rfl, rfl, rfl, rfl, rfl, rfl, rfl, rfl, rfl, hs, hst⟩ := hrel
            by_cases hlt : i < 64
            · have hkl : i < kList.length := hlt
              have hkE := Lib.hid (getD_get hkl 0)
              repeat' (first | ((fail_if_success (go_big_may)); (go_step)) | (with_reducible refine Sl.gate rfl ?_; (go_step)))
              refine v_begin hst (by kernel_rfl) ?_; clear hst; intro ops; (try refine nY ?_)
              (refine t_qt 0 rfl (by kernel_rfl) rfl rfl (by exact qt_move evX) ?_) <;> (try refine nY ?_)
              (refine t_qt 1 rfl (by kernel_rfl) rfl rfl (by exact qt_move evX) ?_) <;> (try refine nY ?_)
              (refine t_call 2 rfl (by kernel_rfl) rfl (fun S' M' w hS hM hst => rotI_c w hst _ _ (by decide)) inX rfl ?_) <;> (try refine nY ?_)
              (refine t_qt 3 rfl (by kernel_rfl) rfl rfl (by exact qt_move evX) ?_) <;> (try refine nY ?_)
              (refine t_call 4 rfl (by kernel_rfl) rfl (fun S' M' w hS hM hst => rotI_c w hst _ _ (by decide)) inX rfl ?_) <;> (try refine nY ?_)
              (refine t_qt 5 rfl (by kernel_rfl) rfl rfl (by exact qt_xor32 rfl rfl) ?_) <;> (try refine nY ?_)
              (refine t_qt 6 rfl (by kernel_rfl) rfl rfl (by exact qt_move evX) ?_) <;> (try refine nY ?_)
              (refine t_call 7 rfl (by kernel_rfl) rfl (fun S' M' w hS hM hst => rotI_c w hst _ _ (by decide)) inX rfl ?_) <;> (try refine nY ?_)
              (refine t_qt 8 rfl (by kernel_rfl) rfl rfl (by exact qt_xor32 rfl rfl) ?_) <;> (try refine nY ?_)
              (refine t_qt 9 rfl (by kernel_rfl) rfl rfl (by exact qt_add32 rfl rfl) ?_) <;> (try refine nY ?_)
              (refine t_qt 10 rfl (by kernel_rfl) rfl rfl (by exact qt_move evX) ?_) <;> (try refine nY ?_)
              (refine t_qt 11 rfl (by kernel_rfl) rfl rfl (by exact qt_move evX) ?_) <;> (try refine nY ?_)
              (refine t_qt 12 rfl (by kernel_rfl) rfl rfl (by exact qt_and32 rfl rfl) ?_) <;> (try refine nY ?_)
              (refine t_qt 13 rfl (by kernel_rfl) rfl rfl (by exact qt_move evX) ?_) <;> (try refine nY ?_)
              (refine t_qt 14 rfl (by kernel_rfl) rfl rfl (qt_xorl32 rfl rfl) ?_) <;> (try refine nY ?_)
              (refine t_qt 15 rfl (by kernel_rfl) rfl rfl (by exact qt_move evX) ?_) <;> (try refine nY ?_)
              (refine t_qt 16 rfl (by kernel_rfl) rfl rfl (by exact qt_and32 rfl rfl) ?_) <;> (try refine nY ?_)
              (refine t_qt 17 rfl (by kernel_rfl) rfl rfl (by exact qt_xor32 rfl rfl) ?_) <;> (try refine nY ?_)
              (refine t_qt 18 rfl (by kernel_rfl) rfl rfl (by exact qt_add32 rfl rfl) ?_) <;> (try refine nY ?_)
              (refine t_qt 19 rfl (by kernel_rfl) rfl rfl (by exact qt_move evX) ?_) <;> (try refine nY ?_)
              (refine t_qt 20 rfl (by kernel_rfl) rfl rfl (by exact qt_move evX) ?_) <;> (try refine nY ?_)
              ((refine t_ex0 21 rfl (by kernel_rfl) rfl rfl (qt_index evX asX rfl inX inX omX omX) ?_; rintro v hp; (try simp only [Int.toNat_natCast, Int.toNat_natCast_add_one, Int.reduceToNat] at hp))) <;> (try refine nY ?_)
              (refine t_qt 22 rfl (by kernel_rfl) rfl rfl (by exact qt_ldp_u32 evX asX inX) ?_) <;> (try refine nY ?_)
              (refine t_qt 23 rfl (by kernel_rfl) rfl rfl (by exact qt_add32 rfl rfl) ?_) <;> (try refine nY ?_)
              (refine t_qt 24 rfl (by kernel_rfl) rfl rfl (by exact qt_move evX) ?_) <;> (try refine nY ?_)
              (refine t_qt 25 rfl (by kernel_rfl) rfl rfl (by exact qt_move evX) ?_) <;> (try refine nY ?_)
              ((refine t_ex 26 rfl (by kernel_rfl) rfl rfl (fun w hst => qt_index_own hst evX SlIn.h rfl inX inX omX omX) ?_; rintro v hp; (try simp only [Int.toNat_natCast, Int.toNat_natCast_add_one, Int.reduceToNat] at hp))) <;> (try refine nY ?_)
              (refine t_qt 27 rfl (by kernel_rfl) rfl rfl (by exact qt_ldU evX asX SlIn.h inX omX) ?_) <;> (try refine nY ?_)
              (refine t_qt 28 rfl (by kernel_rfl) rfl rfl (by exact qt_add32 rfl rfl) ?_) <;> (try refine nY ?_)
              (refine t_qt 29 rfl (by kernel_rfl) rfl rfl (by exact qt_assign evX) ?_) <;> (try refine nY ?_)
              refine v_done (by kernel_rfl) ?_; clear ops; intro w hst
              repeat' (first | (((with_reducible refine Sl.k_bin ?_; refine s_qt hst (by first | exact qt_xor32 rfl rfl | exact qt_and32 rfl rfl | exact qt_add32 rfl rfl) ?_)) <;> (try refine nY ?_)) | (((with_reducible refine Sl.k_call ?_; ((refine s_call (rotI_c _ hst _ _ (by decide)) inX rfl ?_; clear hst; rintro v w ⟨rfl, hst⟩)))) <;> (try refine nY ?_) <;> (try replace hst := nH hst)) | ((fail_if_success (go_big_may)); (go_step)) | (with_reducible refine Sl.gate rfl ?_; (go_step)))
              go_roundw
              case rel => exact ⟨i + 1, round1 s (kList.getD i 0) (ws.getD i 0), by omega, by rw [hkE.out, round1, ksT, ksU, rots3, rots3], rfl, rfl, rfl, by rw [hkE.out, round1, ksT, rots3], rfl, rfl, rfl, by go_num, Lib.hid (by rw [rounds, ← hs.out]), hst⟩
              case measure => simp [intOf]; omega
            · obtain rfl : i = 64 := by omega
              clear hi hlt
              repeat' (first | ((fail_if_success (go_big_may)); (go_step)) | (with_reducible refine Sl.gate rfl ?_; (go_step)))
              refine v_begin hst (by kernel_rfl) ?_; clear hst; intro ops; (try refine nY ?_)
              (refine t_qt 0 rfl (by kernel_rfl) rfl rfl (by exact qt_move evX) ?_) <;> (try refine nY ?_)
              ((refine t_ex0 1 rfl (by kernel_rfl) rfl rfl (qt_index evX asX rfl inX inX omX omX) ?_; rintro v hp; (try simp only [Int.toNat_natCast, Int.toNat_natCast_add_one, Int.reduceToNat] at hp))) <;> (try refine nY ?_)
              (refine t_qt 2 rfl (by kernel_rfl) rfl rfl (by exact qt_ldp_u32 evX asX inX) ?_) <;> (try refine nY ?_)
              (refine t_qt 3 rfl (by kernel_rfl) rfl rfl (by exact qt_move evX) ?_) <;> (try refine nY ?_)
              (refine t_qt 4 rfl (by kernel_rfl) rfl rfl (by exact qt_add32 rfl rfl) ?_) <;> (try refine nY ?_)
              (refine t_qt 5 rfl (by kernel_rfl) rfl rfl (by exact qt_move evX) ?_) <;> (try refine nY ?_)
              ((refine t_ex0 6 rfl (by kernel_rfl) rfl rfl (qt_index evX asX rfl inX inX omX omX) ?_; rintro v hp; (try simp only [Int.toNat_natCast, Int.toNat_natCast_add_one, Int.reduceToNat] at hp))) <;> (try refine nY ?_)
              (refine t_qt 7 rfl (by kernel_rfl) rfl rfl (by exact qt_ldp_u32 evX asX inX) ?_) <;> (try refine nY ?_)
              (refine t_qt 8 rfl (by kernel_rfl) rfl rfl (by exact qt_move evX) ?_) <;> (try refine nY ?_)
              (refine t_qt 9 rfl (by kernel_rfl) rfl rfl (by exact qt_add32 rfl rfl) ?_) <;> (try refine nY ?_)
              (refine t_qt 10 rfl (by kernel_rfl) rfl rfl (by exact qt_move evX) ?_) <;> (try refine nY ?_)
              ((refine t_ex0 11 rfl (by kernel_rfl) rfl rfl (qt_index evX asX rfl inX inX omX omX) ?_; rintro v hp; (try simp only [Int.toNat_natCast, Int.toNat_natCast_add_one, Int.reduceToNat] at hp))) <;> (try refine nY ?_)
              (refine t_qt 12 rfl (by kernel_rfl) rfl rfl (by exact qt_ldp_u32 evX asX inX) ?_) <;> (try refine nY ?_)
              (refine t_qt 13 rfl (by kernel_rfl) rfl rfl (by exact qt_move evX) ?_) <;> (try refine nY ?_)
              (refine t_qt 14 rfl (by kernel_rfl) rfl rfl (by exact qt_add32 rfl rfl) ?_) <;> (try refine nY ?_)
              (refine t_qt 15 rfl (by kernel_rfl) rfl rfl (by exact qt_move evX) ?_) <;> (try refine nY ?_)
              ((refine t_ex0 16 rfl (by kernel_rfl) rfl rfl (qt_index evX asX rfl inX inX omX omX) ?_; rintro v hp; (try simp only [Int.toNat_natCast, Int.toNat_natCast_add_one, Int.reduceToNat] at hp))) <;> (try refine nY ?_)
              (refine t_qt 17 rfl (by kernel_rfl) rfl rfl (by exact qt_ldp_u32 evX asX inX) ?_) <;> (try refine nY ?_)
              (refine t_qt 18 rfl (by kernel_rfl) rfl rfl (by exact qt_move evX) ?_) <;> (try refine nY ?_)
              (refine t_qt 19 rfl (by kernel_rfl) rfl rfl (by exact qt_add32 rfl rfl) ?_) <;> (try refine nY ?_)
              (refine t_qt 20 rfl (by kernel_rfl) rfl rfl (by exact qt_move evX) ?_) <;> (try refine nY ?_)
              ((refine t_ex0 21 rfl (by kernel_rfl) rfl rfl (qt_index evX asX rfl inX inX omX omX) ?_; rintro v hp; (try simp only [Int.toNat_natCast, Int.toNat_natCast_add_one, Int.reduceToNat] at hp))) <;> (try refine nY ?_)
              (refine t_qt 22 rfl (by kernel_rfl) rfl rfl (by exact qt_ldp_u32 evX asX inX) ?_) <;> (try refine nY ?_)
              (refine t_qt 23 rfl (by kernel_rfl) rfl rfl (by exact qt_move evX) ?_) <;> (try refine nY ?_)
              (refine t_qt 24 rfl (by kernel_rfl) rfl rfl (by exact qt_add32 rfl rfl) ?_) <;> (try refine nY ?_)
              (refine t_qt 25 rfl (by kernel_rfl) rfl rfl (by exact qt_move evX) ?_) <;> (try refine nY ?_)
              ((refine t_ex0 26 rfl (by kernel_rfl) rfl rfl (qt_index evX asX rfl inX inX omX omX) ?_; rintro v hp; (try simp only [Int.toNat_natCast, Int.toNat_natCast_add_one, Int.reduceToNat] at hp))) <;> (try refine nY ?_)
              (refine t_qt 27 rfl (by kernel_rfl) rfl rfl (by exact qt_ldp_u32 evX asX inX) ?_) <;> (try refine nY ?_)
              (refine t_qt 28 rfl (by kernel_rfl) rfl rfl (by exact qt_move evX) ?_) <;> (try refine nY ?_)
              (refine t_qt 29 rfl (by kernel_rfl) rfl rfl (by exact qt_add32 rfl rfl) ?_) <;> (try refine nY ?_)
              (refine t_qt 30 rfl (by kernel_rfl) rfl rfl (by exact qt_move evX) ?_) <;> (try refine nY ?_)
              ((refine t_ex0 31 rfl (by kernel_rfl) rfl rfl (qt_index evX asX rfl inX inX omX omX) ?_; rintro v hp; (try simp only [Int.toNat_natCast, Int.toNat_natCast_add_one, Int.reduceToNat] at hp))) <;> (try refine nY ?_)
              (refine t_qt 32 rfl (by kernel_rfl) rfl rfl (by exact qt_ldp_u32 evX asX inX) ?_) <;> (try refine nY ?_)
              (refine t_qt 33 rfl (by kernel_rfl) rfl rfl (by exact qt_move evX) ?_) <;> (try refine nY ?_)
              (refine t_qt 34 rfl (by kernel_rfl) rfl rfl (by exact qt_add32 rfl rfl) ?_) <;> (try refine nY ?_)
              (refine t_qt 35 rfl (by kernel_rfl) rfl rfl (by exact qt_move evX) ?_) <;> (try refine nY ?_)
              ((refine t_ex0 36 rfl (by kernel_rfl) rfl rfl (qt_index evX asX rfl inX inX omX omX) ?_; rintro v hp; (try simp only [Int.toNat_natCast, Int.toNat_natCast_add_one, Int.reduceToNat] at hp))) <;> (try refine nY ?_)
              (refine t_qt 37 rfl (by kernel_rfl) rfl rfl (by exact qt_ldp_u32 evX asX inX) ?_) <;> (try refine nY ?_)
              (refine t_qt 38 rfl (by kernel_rfl) rfl rfl (by exact qt_move evX) ?_) <;> (try refine nY ?_)
              (refine t_qt 39 rfl (by kernel_rfl) rfl rfl (by exact qt_add32 rfl rfl) ?_) <;> (try refine nY ?_)
              refine v_one 40 rfl (by kernel_rfl) ?_; intro w hst K hK; refine s_lit (vs := [.int .u32 ((h.a + s.a).toNat : Int), .int .u32 ((h.b + s.b).toNat : Int), .int .u32 ((h.c + s.c).toNat : Int), .int .u32 ((h.d + s.d).toNat : Int), .int .u32 ((h.e + s.e).toNat : Int), .int .u32 ((h.f + s.f).toNat : Int), .int .u32 ((h.g + s.g).toNat : Int), .int .u32 ((h.h + s.h).toNat : Int)]) hst inX inX rfl rfl (by simp [Value.cells]) rfl (by omega) (by omega) ?_; clear hst; intro x40 w hst; (try refine nY ?_); (try replace hst := nH hst); refine v_next hK hst (Snap.Le.refl _) (Suf.cons (Suf.refl _)) ?_; clear hst hK K; (try clear w); (try refine nY ?_)
              (refine t_qt 41 rfl (by kernel_rfl) rfl rfl (by exact qt_assign evX) ?_) <;> (try refine nY ?_)
              refine v_done (by kernel_rfl) ?_; clear ops; intro w hst
              repeat' (((fail_if_success (go_big_may)); (go_step)))
              go_ret
              refine ⟨_, rfl, ?_⟩
              have e : comp h blk = ⟨h.a + s.a, h.b + s.b, h.c + s.c, h.d + s.d, h.e + s.e, h.f + s.f, h.g + s.g, h.h + s.h⟩ := by
                rw [comp, ← hws.out, ← hs.out, add8]
                simp only [UInt32.add_comm]
              rw [e]
              exact hst.swap.drop
end Go.Proofs.YtgihhhdeoaplhaaDoor

/- The reference's SHA-256: the hash of a byte sequence. -/
--@u32
--@hgp
--@flat
--@ex0
--@b8
namespace Go.Proofs.YtgihhhdeoaplhaaDoor
set_option linter.unusedSimpArgs false
set_option linter.unusedVariables false
open Go.RowKit Go.Sl

def firstS : List UInt8 := [54, 97, 48, 57, 101, 54, 54, 55, 98, 98, 54, 55, 97, 101, 56, 53, 51, 99, 54, 101, 102, 51, 55, 50, 97, 53, 52, 102, 102, 53, 51, 97, 53, 49, 48, 101, 53, 50, 55, 102, 57, 98, 48, 53, 54, 56, 56, 99, 49, 102, 56, 51, 100, 57, 97, 98, 53, 98, 101, 48, 99, 100, 49, 57]
def cS0 : List UInt8 := [52, 50, 56, 97, 50, 102, 57, 56, 55, 49, 51, 55, 52, 52, 57, 49, 98, 53, 99, 48, 102, 98, 99, 102, 101, 57, 98, 53, 100, 98, 97, 53, 51, 57, 53, 54, 99, 50, 53, 98, 53, 57, 102, 49, 49, 49, 102, 49, 57, 50, 51, 102, 56, 50, 97, 52, 97, 98, 49, 99, 53, 101, 100, 53]
def cS1 : List UInt8 := [100, 56, 48, 55, 97, 97, 57, 56, 49, 50, 56, 51, 53, 98, 48, 49, 50, 52, 51, 49, 56, 53, 98, 101, 53, 53, 48, 99, 55, 100, 99, 51, 55, 50, 98, 101, 53, 100, 55, 52, 56, 48, 100, 101, 98, 49, 102, 101, 57, 98, 100, 99, 48, 54, 97, 55, 99, 49, 57, 98, 102, 49, 55, 52]
def cS2 : List UInt8 := [101, 52, 57, 98, 54, 57, 99, 49, 101, 102, 98, 101, 52, 55, 56, 54, 48, 102, 99, 49, 57, 100, 99, 54, 50, 52, 48, 99, 97, 49, 99, 99, 50, 100, 101, 57, 50, 99, 54, 102, 52, 97, 55, 52, 56, 52, 97, 97, 53, 99, 98, 48, 97, 57, 100, 99, 55, 54, 102, 57, 56, 56, 100, 97]
def cS3 : List UInt8 := [57, 56, 51, 101, 53, 49, 53, 50, 97, 56, 51, 49, 99, 54, 54, 100, 98, 48, 48, 51, 50, 55, 99, 56, 98, 102, 53, 57, 55, 102, 99, 55, 99, 54, 101, 48, 48, 98, 102, 51, 100, 53, 97, 55, 57, 49, 52, 55, 48, 54, 99, 97, 54, 51, 53, 49, 49, 52, 50, 57, 50, 57, 54, 55]
def cS4 : List UInt8 := [50, 55, 98, 55, 48, 97, 56, 53, 50, 101, 49, 98, 50, 49, 51, 56, 52, 100, 50, 99, 54, 100, 102, 99, 53, 51, 51, 56, 48, 100, 49, 51, 54, 53, 48, 97, 55, 51, 53, 52, 55, 54, 54, 97, 48, 97, 98, 98, 56, 49, 99, 50, 99, 57, 50, 101, 57, 50, 55, 50, 50, 99, 56, 53]
def cS5 : List UInt8 := [97, 50, 98, 102, 101, 56, 97, 49, 97, 56, 49, 97, 54, 54, 52, 98, 99, 50, 52, 98, 56, 98, 55, 48, 99, 55, 54, 99, 53, 49, 97, 51, 100, 49, 57, 50, 101, 56, 49, 57, 100, 54, 57, 57, 48, 54, 50, 52, 102, 52, 48, 101, 51, 53, 56, 53, 49, 48, 54, 97, 97, 48, 55, 48]
def cS6 : List UInt8 := [49, 57, 97, 52, 99, 49, 49, 54, 49, 101, 51, 55, 54, 99, 48, 56, 50, 55, 52, 56, 55, 55, 52, 99, 51, 52, 98, 48, 98, 99, 98, 53, 51, 57, 49, 99, 48, 99, 98, 51, 52, 101, 100, 56, 97, 97, 52, 97, 53, 98, 57, 99, 99, 97, 52, 102, 54, 56, 50, 101, 54, 102, 102, 51]
def cS7 : List UInt8 := [55, 52, 56, 102, 56, 50, 101, 101, 55, 56, 97, 53, 54, 51, 54, 102, 56, 52, 99, 56, 55, 56, 49, 52, 56, 99, 99, 55, 48, 50, 48, 56, 57, 48, 98, 101, 102, 102, 102, 97, 97, 52, 53, 48, 54, 99, 101, 98, 98, 101, 102, 57, 97, 51, 102, 55, 99, 54, 55, 49, 55, 56, 102, 50]
def constS : List UInt8 := (((cS0.append cS1).append (cS2.append cS3)).append ((cS4.append cS5).append (cS6.append cS7)))
theorem firstW : wordsL firstS 8 = s8Start.l := by decide +kernel
theorem constW : wordsL constS 64 = kList := by decide +kernel
theorem firstH : (∀ x ∈ firstS, isHex x) ∧ firstS.length = 64 := by decide +kernel
theorem constH : (∀ x ∈ constS, isHex x) ∧ constS.length = 512 := by decide +kernel

theorem out8_get (s : S8) {i : Nat} (h : i < 32) : (out8 s).getD i 0 = UInt8.ofNat (shr (s.l.getD (i / 4) 0) (24 - 8 * (i % 4))).toNat := by
  have key : ∀ (x : UInt32) (j : Nat), j < 4 → (be x.toNat 4).getD j 0 = UInt8.ofNat (shr x (24 - 8 * j)).toNat := by
    intro x j hj
    have e : ∀ k, (shr x (8 * k)).toNat = x.toNat / 256 ^ k := fun k => by
      show (x.toBitVec >>> (8 * k)).toNat = _
      rw [BitVec.toNat_ushiftRight, Nat.shiftRight_eq_div_pow, Nat.pow_mul]
      rfl
    match j, hj with
    | 0, _ => show UInt8.ofNat _ = _; rw [show 24 - 8 * 0 = 8 * 3 from rfl, e]
    | 1, _ => show UInt8.ofNat _ = _; rw [show 24 - 8 * 1 = 8 * 2 from rfl, e]
    | 2, _ => show UInt8.ofNat _ = _; rw [show 24 - 8 * 2 = 8 * 1 from rfl, e]
    | 3, _ => show UInt8.ofNat _ = _; rw [show 24 - 8 * 3 = 8 * 0 from rfl, e]
  have cat : ∀ (l : List UInt32) (i : Nat), i < 4 * l.length → (l.flatMap fun x => be x.toNat 4).getD i 0 = (be (l.getD (i / 4) 0).toNat 4).getD (i % 4) 0 := by
    intro l
    induction l with
    | nil => intro i h; simp at h
    | cons x r ih =>
      intro i h
      rw [List.flatMap_cons, List.getD_eq_getElem?_getD]
      by_cases h4 : i < 4
      · rw [List.getElem?_append_left (by rw [be_len]; exact h4), show i / 4 = 0 by omega, show i % 4 = i by omega]
        rfl
      · rw [List.getElem?_append_right (by rw [be_len]; omega), be_len, ← List.getD_eq_getElem?_getD, ih (i - 4) (by rw [List.length_cons] at h; omega), show i / 4 = (i - 4) / 4 + 1 by omega, show (i - 4) % 4 = i % 4 by omega]
        rfl
  rw [out8, cat _ _ (by show i < 4 * 8; omega)]
  exact key _ _ (Nat.mod_lt _ (by decide))

def outB (s : S8) (n : Nat) : List UInt8 := (out8 s).take n ++ List.replicate (32 - n) 0
theorem outB_len (s : S8) {n : Nat} (h : n ≤ 32) : (outB s n).length = 32 := by rw [outB, List.length_append, List.length_take, out8_len, List.length_replicate]; omega
theorem outB_succ (s : S8) {i : Nat} (h : i < 32) : (outB s i).set i ((out8 s).getD i 0) = outB s (i + 1) := by
  have hl : i < (out8 s).length := by rw [out8_len]; exact h
  have e : 32 - i = (32 - (i + 1)) + 1 := by omega
  have e2 : ((out8 s).take i).length = i := by rw [List.length_take]; omega
  rw [outB, outB, List.take_succ_eq_append_getElem hl, List.set_append, if_neg (by omega), e2, Nat.sub_self, e, List.replicate_succ, List.set_cons_zero, List.append_assoc, getD_get hl]
  rfl
theorem outB_all (s : S8) : outB s 32 = out8 s := by rw [outB, List.take_of_length_le (by rw [out8_len]; exact Nat.le_refl _)]; simp

set_option maxRecDepth 100000 in
set_option maxHeartbeats 4000000 in
theorem refSum_c {S M} (w : World) (hst : St S M w) (vb : Value) (b : List UInt8) (hb : RSl S vb b) (hm : b.length ≤ 8000000) :
    Rets Tryd.prog 72 [vb] w fun v w' => v = .agg (u8s (hash b)).toArray ∧ St S M w' := by
  unfold Rets
  have hpz : padZ b.length < 64 := Nat.mod_lt _ (by decide)
  have hb1 := hb.oneCell
  go_enter Tryd.func72, Tryd.ntmps72
  repeat' ((fail_if_success (with_reducible show Code.wp _ (Code.region 1 _ _) _ _ _)); first | ((fail_if_success (go_big_may)); (go_step)) | (((((refine s_alloc hst inX ?_; clear hst; intro bk w hst)))) <;> (try refine nY ?_) <;> (try replace hst := nH hst)))
  rename Nat => b2
  refine wp_region_lit ?_
  refine s_lit (vs := []) (cs := []) hst (by infer_instance) (by infer_instance) rfl rfl (by simp) rfl (by omega) (by omega) ?_
  clear hst; intro u w hst
  refine nY ?_
  repeat' (((fail_if_success (go_big_may)); (go_step)))
  refine s_append_data (k := 0) hst evX evX rfl hb (by infer_instance) (by infer_instance) (by infer_instance) (by first | (simp; done) | (simp at hm ⊢; omega)) (by first | (simp; done) | (simp at hm ⊢; omega)) (by decide) ?_
  clear hst; intro v' w c' hc hst
  rw [hc.eq_u8s] at hst
  simp only [List.set_cons_zero, List.nil_append, Nat.zero_add] at hst
  have hone0 := sl_one hst
  refine nY ?_
  repeat' (fail)
  refine s_lit (vs := [.int .u8 128]) hst inX inX rfl rfl (by simp [Value.cells]) rfl (by omega) (by omega) ?_
  clear hst; intro u w hst
  refine nY ?_
  repeat' (fail)
  refine s_append (j := 0) hst evX evX SlIn.h rfl inX inX inX (by simp [Value.cells, Value.oneCell']) (by omega) (by omega) (by decide) ?_
  clear hst; intro v' w hst
  refine nY ?_
  (try replace hst := nH hst)
  replace hst := hst.drop
  repeat' (((fail_if_success (go_big_may)); (go_step)))
  have hone := sl_one hst
  have hst : St S (.sl v' 5 1 (b ++ [128]).length (u8s (b ++ [128])) :: .box b2 (u8s (List.replicate 32 0)) 100 :: M) w := by
    rw [List.length_append, u8s_snoc]
    exact hst
  go_loopw [3] (fun v wr => ∃ (j : Nat) (c : List UInt8), j ≤ padZ b.length ∧ Hid (c = b ++ [128] ++ List.replicate j 0) ∧ (b.length + 1 + j ≤ c.length ∧ c.length ≤ b.length + 1 + j) ∧ v.oneCell' = true ∧ lenOf v = c.length ∧ St S (.sl v 5 1 c.length (u8s c) :: .box b2 (u8s (List.replicate 32 0)) 100 :: M) wr) (fun v _ => b.length + 65 - lenOf v)
  case atStart => exact ⟨0, _, by omega, Lib.hid (by simp), by simp, hone, sl_lenOf hst, hst⟩
  case round =>
    clear hst
    obtain ⟨j, c, hj, hc, hcl, hone, hlo, hst⟩ := hrel
    have Hlo := Lib.hid hlo
    clear hlo
    have hmod : ((c.length : Int) % 64 = 56 → padZ b.length ≤ j) ∧ (padZ b.length ≤ j → (c.length : Int) % 64 = 56) := by
      unfold padZ at hj ⊢
      omega
    by_cases hlt : j < padZ b.length
    · have h56 : ((c.length : Int) % 64 == 56) = false := beq_eq_false_iff_ne.2 (by omega)
      have h56' : ((c.length : Int) % 64 != 56) = true := bne_iff_ne.2 (by omega)
      clear hmod
      repeat' (first | ((fail_if_success (go_big_may)); (go_step)) | (((with_reducible refine Sl.k_call ?_; (refine s_qt hst (by exact qt_len_own evX SlIn.h inX) ?_))) <;> (try refine nY ?_)) | (with_reducible refine Sl.gate rfl ?_; (go_step)))
      refine s_lit (vs := [.int .u8 0]) hst inX inX rfl rfl (by simp [Value.cells]) rfl (by omega) (by omega) ?_
      clear hst; intro u w hst
      refine nY ?_
      repeat' (fail)
      refine s_append (j := 0) hst evX evX SlIn.h rfl inX inX inX (by simp [Value.cells, Value.oneCell']) (by omega) (by omega) (by decide) ?_
      clear hst; intro v' w hst
      refine nY ?_
      (try replace hst := nH hst)
      replace hst := hst.drop
      repeat' (((fail_if_success (go_big_may)); (go_step)))
      have hone' := sl_one hst
      have hlo' := sl_lenOf hst
      go_roundw
      case rel => exact ⟨j + 1, c ++ [0], by omega, Lib.hid (by rw [hc.out, List.append_assoc, List.append_assoc, List.append_assoc, ← List.replicate_succ']), by simp; omega, hone', by simpa using hlo', by rw [List.length_append, u8s_snoc]; exact hst⟩
      case measure =>
        have h1 := Hlo.out
        have h2 : lenOf v' = c.length + 1 := by simpa using hlo'
        show b.length + 65 - lenOf v' < b.length + 65 - lenOf _
        rw [h2]
        omega
    · have h56' : ((c.length : Int) % 64 != 56) = false := bne_eq_false_iff_eq.2 (by omega)
      clear hmod
      obtain rfl : j = padZ b.length := by omega
      repeat' (first | ((fail_if_success (go_big_may)); (go_step)) | (((with_reducible refine Sl.k_call ?_; (refine s_qt hst (by first | exact qt_len evX asX inX | exact qt_len_own evX SlIn.h inX) ?_))) <;> (try refine nY ?_)) | (with_reducible refine Sl.gate rfl ?_; (go_step)))
      obtain ⟨c0, hc0⟩ : ∃ c0 : List UInt8, c = c0 := ⟨c, rfl⟩
      have hpad : Hid (c ++ be (8 * b.length) 8 = pad b) := Lib.hid (by rw [hc.out]; rfl)
      have hlen0 : c.length ≤ 8000100 := by omega
      clear hlt hj hc hcl Hlo h56'
      go_loopw [3, 5] (fun va v wr => ∃ (j : Nat) (k : Int) (c2 : List UInt8), j ≤ 8 ∧ v = .int .i64 k ∧ k = (j : Int) - 1 ∧ Hid (c2 ++ be (8 * b.length) j = c ++ be (8 * b.length) 8) ∧ c2.length + j ≤ c.length + 8 ∧ va.oneCell' = true ∧ St S (.sl va 5 1 c2.length (u8s c2) :: .box b2 (u8s (List.replicate 32 0)) 100 :: M) wr) (fun _ v _ => (intOf v + 1).toNat)
      case atStart => exact ⟨8, _, c, by omega, rfl, by omega, Lib.hid rfl, by omega, hone, hst⟩
      case round =>
        clear hst hone
        obtain ⟨j, k, c2, hj, rfl, hk', hc2, hcl, hone, hst⟩ := hrel
        rcases Nat.eq_zero_or_pos j with rfl | hj0
        · obtain rfl : k = -1 := by omega
          clear hk'
          have e : c2 = pad b := by rw [← hpad.out, ← hc2.out]; simp [be]
          clear hpad hc2 hcl
          subst e
          have hpl : (pad b).length ≤ 16777216 := by rw [pad_len]; omega
          have hlen : Hid ((pad b).length = 64 * ((pad b).length / 64)) := Lib.hid (by have := pad_mod b; omega)
          repeat' (first | ((fail_if_success (go_big_may)); (go_step)) | (with_reducible refine Sl.gate rfl ?_; (go_step)))
          obtain ⟨S1, hS1, hst, hpv⟩ := lit_u8 (pad b) hst rfl rfl
          have hone1 := hpv.oneCell
          repeat' (first | (((with_reducible refine Sl.k_call ?_; ((refine s_call (words_c _ hst firstS 8 (by rw [firstH.2]; decide) firstH.1 (by rw [firstH.2]; decide)) inX rfl ?_; clear hst; rintro v w hst)))) <;> (try refine nY ?_) <;> (try replace hst := nH hst)) | ((fail_if_success (go_big_may)); (go_step)))
          rw [firstW] at hst
          obtain ⟨S2, hS2, hst, hvv⟩ := lit_u32 s8Start.l hst rfl rfl
          have hvv1 := hvv.oneCell
          repeat' (first | (((with_reducible refine Sl.k_call ?_; ((refine s_call (words_c _ hst constS 64 (by rw [constH.2]; decide) constH.1 (by rw [constH.2]; decide)) inX rfl ?_; clear hst; rintro v w hst)))) <;> (try refine nY ?_) <;> (try replace hst := nH hst)) | ((fail_if_success (go_big_may)); (go_step)))
          rw [constW] at hst
          obtain ⟨S3, hS3, hst, hvk⟩ := lit_u32 kList hst rfl rfl
          have hvk1 := hvk.oneCell
          have hpv3 := (hpv.mono hS2).mono hS3
          replace hvv := hvv.mono hS3
          have hSS := (hS1.trans hS2).trans hS3
          clear hpv hS1 hS2 hS3
          rename_i v6 _ _ v7 _
          repeat' (fail)
          go_loopw [6, 8] (fun v vi wr => ∃ (S' : Snap) (k m : Nat), Hid (m = 64 * k) ∧ m ≤ (pad b).length ∧ vi = .int .i64 (m : Int) ∧ S3.Le S' ∧ RSl S' v (blocks (pad b) k).l ∧ St S' (.box b2 (u8s (List.replicate 32 0)) 100 :: M) wr) (fun _ v _ => (pad b).length - (intOf v).toNat)
          case atStart => exact ⟨S3, 0, 0, Lib.hid rfl, by omega, rfl, Snap.Le.refl _, hvv, hst⟩
          case round =>
            clear hst hvv
            obtain ⟨S4, k, m, hmk, hk, rfl, hS4, hvv, hst⟩ := hrel
            have hpv4 := hpv3.mono hS4
            have hvk4 := hvk.mono hS4
            have hvv1 := hvv.oneCell
            by_cases hlt : m < (pad b).length
            · have hk1 : m + 64 ≤ (pad b).length := by have := hlen.out; have := hmk.out; omega
              repeat' (first | ((fail_if_success (go_big_may)); (go_step)) | (((with_reducible refine Sl.k_call ?_; (refine s_qt hst (by exact qt_len evX asX inX) ?_))) <;> (try refine nY ?_)) | (with_reducible refine Sl.gate rfl ?_; (go_step)))
              refine s_slice (a := m) (b := m + 64) evX hpv4 inX inX (.inr ⟨.i64, by simp [evF, nth]⟩) (.inr ⟨.i64, by simp [evF, nth]⟩) (.inl rfl) (by omega) (by omega) ?_
              intro vs hvs
              have hvs1 := hvs.oneCell
              refine nY ?_
              repeat' (first | (((with_reducible refine Sl.k_call ?_; ((refine s_call (refComp_c _ hst _ vs _ (blocks (pad b) k) _ hvv hvs hvk4 (by rw [List.length_take, List.length_drop]; omega)) inX rfl ?_; clear hst; rintro v w hst)))) <;> (try refine nY ?_) <;> (try replace hst := nH hst)) | ((fail_if_success (go_big_may)); (go_step)) | (with_reducible refine Sl.gate rfl ?_; (go_step)))
              obtain ⟨S5, hS5, hst, hnv⟩ := lit_u32 (comp (blocks (pad b) k) (((pad b).drop m).take (m + 64 - m))).l hst rfl rfl
              have hnv1 := hnv.oneCell
              repeat' (fail)
              go_roundw
              case rel => exact ⟨S5, k + 1, m + 64, Lib.hid (by rw [hmk.out]; omega), hk1, by go_num, hS4.trans hS5, by rw [blocks, ← hmk.out]; rw [Nat.add_sub_cancel_left] at hnv; exact hnv, hst⟩
              case measure => simp [intOf]; omega
            · have hkN : k = (pad b).length / 64 := by have := hlen.out; have := hmk.out; omega
              obtain ⟨s8, hs8⟩ : ∃ s8, blocks (pad b) ((pad b).length / 64) = s8 := ⟨_, rfl⟩
              rw [hkN, hs8] at hvv
              have H8 : Hid (hash b = out8 s8) := Lib.hid (by rw [hash, hs8])
              have hwl : 8 ≤ s8.l.length := Nat.le_refl 8
              clear hs8 hkN
              repeat' (first | ((fail_if_success (go_big_may)); (go_step)) | (((with_reducible refine Sl.k_call ?_; (refine s_qt hst (by exact qt_len evX asX inX) ?_))) <;> (try refine nY ?_)) | (with_reducible refine Sl.gate rfl ?_; (go_step)) | ((((first | (with_reducible refine Sl.k_store ?_; (refine s_store hst rfl _ BoxIn.h inX evX rfl lenOk oneOk (by simp) ?_); clear hst; intro w hst) | (refine s_alloc hst inX ?_; clear hst; intro bk w hst)))) <;> (try refine nY ?_) <;> (try replace hst := nH hst)))
              have hst : St S4 (.box bk (u8s (outB s8 0)) 100 :: .box b2 (u8s (List.replicate 32 0)) 100 :: M) w := hst
              rename Nat => b9
              go_loopw [10] (fun v wr => ∃ (i : Nat) (c : List UInt8), i ≤ 32 ∧ v = .int .i64 i ∧ Hid (c = outB s8 i) ∧ (32 ≤ c.length ∧ c.length ≤ 32) ∧ St S4 (.box b9 (u8s c) 100 :: .box b2 (u8s (List.replicate 32 0)) 100 :: M) wr) (fun v _ => 32 - (intOf v).toNat)
              case atStart => exact ⟨0, _, by omega, rfl, Lib.hid rfl, by rw [outB_len _ (by omega)]; omega, hst⟩
              case round =>
                clear hst
                obtain ⟨i, c, hi, rfl, hc, hcl, hst⟩ := hrel
                by_cases hlt : i < 32
                · have hE := Lib.hid (outB_succ s8 hlt)
                  have hF := Lib.hid (out8_get s8 hlt)
                  have hG := Lib.hid (getD_get (l := s8.l) (i := i / 4) (by omega) 0)
                  repeat' (first | ((first | (with_reducible (refine Sl.k_conv ?_; refine s_qt hst (qt_conv328 rfl inX inX) ?_)) | (with_reducible refine Sl.k_bin ?_; refine s_qt hst (by exact qt_shr32 rfl rfl omX) ?_)) <;> (try refine nY ?_)) | ((fail_if_success (go_big_may)); (go_step)) | ((first | (with_reducible refine Sl.k_load ?_; (refine s_qt hst (by exact qt_ldp_u32 evX asX inX) ?_)) | (with_reducible refine Sl.k_index ?_; (first | refine s_qt hst (qt_indexA rfl rfl inX inX omX omX) ?_ | ((refine s_ex hst (qt_index evX asX rfl inX inX omX omX) ?_); rintro v hp; (try simp only [Int.toNat_natCast, Int.toNat_natCast_add_one, Int.reduceToNat] at hp))))) <;> (try refine nY ?_)) | (with_reducible refine Sl.gate rfl ?_; (go_step)) | (((((with_reducible refine Sl.k_store ?_; (refine s_stB8 hst rfl BoxIn.h inX evX omX ?_); clear hst; intro w hst)))) <;> (try refine nY ?_) <;> (try replace hst := nH hst)))
                  have e1 : ((i : Int) / 4).toNat = i / 4 := by omega
                  have e2 : (24 - 8 * ((i : Int) % 4)).toNat = 24 - 8 * (i % 4) := by omega
                  simp only [e1, e2] at hst
                  go_roundw
                  case rel => exact ⟨i + 1, _, by omega, by go_num, Lib.hid (by rw [hc.out, ← hE.out, hF.out, hG.out]), by rw [List.length_set]; exact hcl, hst⟩
                  case measure => simp [intOf]; omega
                · obtain rfl : i = 32 := by omega
                  obtain rfl : c = hash b := by rw [hc.out, H8.out, outB_all]
                  haveI : LenIs (hash b) 32 := ⟨hash_len b⟩
                  repeat' (first | ((fail_if_success (go_big_may)); (go_step)) | (((with_reducible refine Sl.k_load ?_; (refine s_qt hst (by exact qt_loadA evX BoxIn.h inX rfX) ?_))) <;> (try refine nY ?_)) | (with_reducible refine Sl.gate rfl ?_; (go_step)))
                  refine s_stD hst rfl BoxIn.h inX evX inX lenX ?_
                  clear hst; intro w hst
                  (try refine nY ?_)
                  (try replace hst := nH hst)
                  repeat' (((fail_if_success (go_big_may)); (go_step)))
                  exact ret_D rfl hst rfl BoxIn.h inX inX ⟨_, rfl, rfl, St.weaken (hSS.trans hS4) hst.drop.drop⟩
        · obtain ⟨i, rfl⟩ : ∃ i, j = i + 1 := ⟨j - 1, by omega⟩
          obtain rfl : k = (i : Int) := by omega
          clear hk'
          repeat' (first | ((fail_if_success (go_big_may)); (go_step)) | (with_reducible refine Sl.gate rfl ?_; (go_step)))
          refine s_lit (vs := [.int .u8 ((8 * (b.length : Int)) / 2 ^ (8 * i) % 256)]) hst inX inX rfl rfl (by simp [Value.cells]) rfl (by omega) (by omega) ?_
          clear hst; intro u w hst
          refine nY ?_
          repeat' (fail)
          refine s_append (j := 0) hst evX evX SlIn.h rfl inX inX inX (by simp [Value.cells, Value.oneCell']) (by omega) (by omega) (by decide) ?_
          clear hst; intro v' w hst
          refine nY ?_
          (try replace hst := nH hst)
          replace hst := hst.drop
          repeat' (first | ((fail_if_success (go_big_may)); (go_step)) | (with_reducible refine Sl.gate rfl ?_; (go_step)))
          have h3 := sl_one hst
          go_roundw
          case rel => exact ⟨i, _, c2 ++ [UInt8.ofNat (8 * b.length / 256 ^ i)], by omega, rfl, by omega, Lib.hid (by rw [← hc2.out, be_succ]; simp), by simp; omega, h3, by rw [List.length_append, u8s_snoc, ← shr_byte]; exact hst⟩
          case measure => simp [intOf]
end Go.Proofs.YtgihhhdeoaplhaaDoor

/- The reference's digests. -/
--@u32
--@hgp
--@flat
--@ex0
--@b8
--@dg
namespace Go.Proofs.YtgihhhdeoaplhaaDoor
set_option linter.unusedSimpArgs false
set_option linter.unusedVariables false
open Go.RowKit Go.Sl

def takeB (h : List UInt8) (n : Nat) : List UInt8 := h.take n ++ List.replicate (16 - n) 0
theorem takeB_len {h : List UInt8} (hl : h.length = 32) {n : Nat} (hn : n ≤ 16) : (takeB h n).length = 16 := by rw [takeB, List.length_append, List.length_take, List.length_replicate]; omega
theorem takeB_succ {h : List UInt8} (hl : h.length = 32) {i : Nat} (hi : i < 16) : (takeB h i).set i (h.getD i 0) = takeB h (i + 1) := by
  have hl2 : i < h.length := by omega
  have e : 16 - i = (16 - (i + 1)) + 1 := by omega
  have e2 : (h.take i).length = i := by rw [List.length_take]; omega
  rw [takeB, takeB, List.take_succ_eq_append_getElem hl2, List.set_append, if_neg (by omega), e2, Nat.sub_self, e, List.replicate_succ, List.set_cons_zero, List.append_assoc, getD_get hl2]
  rfl
theorem takeB_all (h : List UInt8) : takeB h 16 = h.take 16 := by rw [takeB]; simp

set_option maxRecDepth 8000 in
set_option maxHeartbeats 400000 in
theorem refShort_c {S M} (w : World) (hst : St S M w) (h : List UInt8) (hl : h.length = 32) :
    Rets Tryd.prog 71 [.agg (u8s h).toArray] w fun v w' => v = .agg (u8s (h.take 16)).toArray ∧ St S M w' := by
  unfold Rets
  have hll : 32 ≤ h.length := by omega
  go_enter Tryd.func71, Tryd.ntmps71
  repeat' (first | ((fail_if_success (go_big_may)); (go_step)) | (with_reducible refine Sl.gate rfl ?_; (go_step)) | ((((first | (with_reducible refine Sl.k_store ?_; (refine s_store hst rfl _ BoxIn.h inX evX rfl lenOk oneOk (by simp) ?_); clear hst; intro w hst) | (refine s_box hst evX rfl ?_; clear hst; intro bx w hst) | (refine s_alloc hst inX ?_; clear hst; intro bk w hst)))) <;> (try refine nY ?_) <;> (try replace hst := nH hst)))
  rename_i b3 _ _ _ _
  have hst : St S (.box bk (u8s (takeB h 0)) 23 :: .box b3 (u8s (List.replicate 16 0)) 23 :: .box bx (u8s h) 100 :: M) w := hst
  go_loopw [4] (fun v wr => ∃ (i : Nat) (c : List UInt8), i ≤ 16 ∧ v = .int .i64 i ∧ Hid (c = takeB h i) ∧ (16 ≤ c.length ∧ c.length ≤ 16) ∧ St S (.box bk (u8s c) 23 :: .box b3 (u8s (List.replicate 16 0)) 23 :: .box bx (u8s h) 100 :: M) wr) (fun v _ => 16 - (intOf v).toNat)
  case atStart => exact ⟨0, _, by omega, rfl, Lib.hid rfl, by rw [takeB_len hl (by omega)]; omega, hst⟩
  case round =>
    clear hst
    obtain ⟨i, c, hi, rfl, hc, hcl, hst⟩ := hrel
    by_cases hlt : i < 16
    · have hE := Lib.hid (takeB_succ hl hlt)
      clear hl
      repeat' (first | ((fail_if_success (go_big_may)); (go_step)) | ((first | (with_reducible refine Sl.k_load ?_; (refine s_qt hst (by exact qt_ldB8 evX BoxIn.h inX omX) ?_)) | (with_reducible refine Sl.k_index ?_; (refine s_qt hst (qt_indexA rfl rfl inX inX omX omX) ?_))) <;> (try refine nY ?_)) | (with_reducible refine Sl.gate rfl ?_; (go_step)) | (((((with_reducible refine Sl.k_store ?_; (refine s_stB8 hst rfl BoxIn.h inX evX omX ?_); clear hst; intro w hst)))) <;> (try refine nY ?_) <;> (try replace hst := nH hst)))
      go_roundw
      case rel => exact ⟨i + 1, _, by omega, by go_num, Lib.hid (by rw [hc.out, ← hE.out]), by rw [List.length_set]; exact hcl, hst⟩
      case measure => simp [intOf]; omega
    · obtain rfl : i = 16 := by omega
      obtain rfl : c = h.take 16 := by rw [hc.out, takeB_all]
      haveI : LenIs (h.take 16) 16 := ⟨by rw [List.length_take]; omega⟩
      repeat' (first | ((fail_if_success (go_big_may)); (go_step)) | (((with_reducible refine Sl.k_load ?_; (refine s_qt hst (by exact qt_loadD evX BoxIn.h inX inX) ?_))) <;> (try refine nY ?_)) | (with_reducible refine Sl.gate rfl ?_; (go_step)) | (((((with_reducible refine Sl.k_store ?_; (refine s_stD hst rfl BoxIn.h inX evX inX lenX ?_); clear hst; intro w hst)))) <;> (try refine nY ?_) <;> (try replace hst := nH hst)))
      exact ret_D rfl hst rfl BoxIn.h inX inX ⟨_, rfl, rfl, hst.drop.drop.drop⟩

set_option maxRecDepth 8000 in
set_option maxHeartbeats 400000 in
theorem refDigest_c {S M} (w : World) (hst : St S M w) (tag : Int) (h0 : 0 ≤ tag ∧ tag ≤ 255) (vp : Value) (parts : List (List UInt8)) (hp : RSl S vp parts) (hs : sizeB parts ≤ 1048576) :
    Rets Tryd.prog 59 [.int .i64 tag, vp] w fun v w' => v = .agg (u8s (dig tag parts)).toArray ∧ St S M w' := by
  unfold Rets
  obtain ⟨t, rfl⟩ : ∃ t : Nat, tag = t := ⟨tag.toNat, by omega⟩
  have ht : [Value.int .u8 (t : Int)] = u8s [UInt8.ofNat t] := by
    simp only [u8s, List.map_cons, List.map_nil, UInt8.toNat_ofNat']
    congr 2
    omega
  have hpn : parts.length ≤ 1048576 := by unfold sizeB at hs; omega
  go_enter Tryd.func59, Tryd.ntmps59
  repeat' (first | ((fail_if_success (go_big_may)); (go_step)) | (with_reducible refine Sl.gate rfl ?_; (go_step)) | (((((refine s_alloc hst inX ?_; clear hst; intro bk w hst)))) <;> (try refine nY ?_) <;> (try replace hst := nH hst)))
  refine s_lit (vs := [.int .u8 (t : Int)]) hst inX inX rfl rfl (by simp [Value.cells]) rfl (by omega) (by omega) ?_
  clear hst; intro x w hst
  have hst : St S (.sl x 5 1 [UInt8.ofNat t].length (u8s [UInt8.ofNat t]) :: .box bk (u8s (List.replicate 16 0)) 23 :: M) w := by rw [← ht]; exact hst
  have hx1 := sl_one hst
  refine nY ?_
  repeat' (((fail_if_success (go_big_may)); (go_step)))
  go_loopw [5, 6] (fun u v wr => ∃ (i : Nat) (c : List UInt8), i ≤ parts.length ∧ v = .int .i64 i ∧ Hid (c = [UInt8.ofNat t] ++ joinB (parts.take i)) ∧ c.length ≤ 1 + sizeB parts ∧ u.oneCell' = true ∧ St S (.sl u 5 1 c.length (u8s c) :: .box bk (u8s (List.replicate 16 0)) 23 :: M) wr) (fun _ v _ => parts.length - (intOf v).toNat)
  case atStart => exact ⟨0, _, Nat.zero_le _, rfl, Lib.hid (by simp [joinB]), Nat.le_add_right 1 _, hx1, hst⟩
  case round =>
    clear hst
    obtain ⟨i, c, hi, rfl, hc, hcl, hone, hst⟩ := hrel
    by_cases hlt : i < parts.length
    · have hpl := sizeB_mem (List.getElem_mem hlt)
      have hcn : (c ++ encB parts[i]).length ≤ 1 + sizeB parts := by
        have h1 := joinB_len (parts.take (i + 1))
        have h2 := sizeB_take parts (i + 1)
        have e : c ++ encB parts[i] = [UInt8.ofNat t] ++ joinB (parts.take (i + 1)) := by
          rw [hc.out, List.take_succ_eq_append_getElem hlt, joinB, joinB, List.flatMap_append, List.append_assoc]
          simp
        rw [e, List.length_append]
        simp only [List.length_cons, List.length_nil]
        omega
      rw [List.length_append] at hcn
      repeat' (first | (((with_reducible refine Sl.k_conv ?_; refine s_stringI hst evX asX inX inX inX ?_)) <;> (try refine nY ?_)) | (((with_reducible refine Sl.k_call ?_; ((refine s_call (refBytes_c _ hst parts[i] (by omega)) inX rfl ?_; clear hst; rintro v w hst)))) <;> (try refine nY ?_) <;> (try replace hst := nH hst)) | ((fail_if_success (go_big_may)); (go_step)) | ((first | (with_reducible refine Sl.k_load ?_; ((refine s_ex hst (qt_ldp_list evX asX inX) ?_; rintro v ⟨hvl, hv1⟩))) | (with_reducible refine Sl.k_index ?_; (((refine s_ex hst (qt_index evX asX rfl inX inX omX omX) ?_); rintro v hp; (try simp only [Int.toNat_natCast, Int.toNat_natCast_add_one, Int.reduceToNat] at hp)))) | (with_reducible refine Sl.k_call ?_; (refine s_qt hst (by exact qt_len evX asX inX) ?_))) <;> (try refine nY ?_)) | (with_reducible refine Sl.gate rfl ?_; (go_step)))
      refine s_append (j := 0) hst evX evX SlIn.h rfl inX inX inX (u8s_one _) (by omega) (by omega) (by decide) ?_
      clear hst; intro v' w hst
      (try refine nY ?_)
      (try replace hst := nH hst)
      replace hst := hst.drop
      repeat' (first | ((fail_if_success (go_big_may)); (go_step)) | (with_reducible refine Sl.gate rfl ?_; (go_step)))
      have hone' := sl_one hst
      go_roundw
      case rel =>
        refine ⟨i + 1, c ++ encB parts[i], by omega, by go_num, Lib.hid ?_, by rw [List.length_append]; exact hcn, hone', ?_⟩
        · rw [hc.out, List.take_succ_eq_append_getElem hlt, joinB, joinB, List.flatMap_append, List.append_assoc]
          simp
        · rw [u8s_append, List.length_append]
          exact hst
      case measure => simp [intOf]; omega
    · rw [List.take_of_length_le (l := parts) (i := i) (by omega)] at hc
      obtain ⟨S1, hS1, hst, hv⟩ := lit_u8 c hst rfl rfl
      have hv1 := hv.oneCell
      replace hp := hp.mono hS1
      have hdg : Hid ((hash c).take 16 = dig (t : Int) parts) := Lib.hid (by rw [hc.out, dig]; rfl)
      haveI : LenIs ((hash c).take 16) 16 := ⟨by rw [List.length_take, hash_len]; rfl⟩
      repeat' (first | (((with_reducible refine Sl.k_call ?_; (first | (refine s_call (refSum_c _ hst _ c hv (by omega)) inX rfl ?_; clear hst; rintro v w ⟨rfl, hst⟩) | (refine s_call (refShort_c _ hst _ (hash_len _)) inX rfl ?_; clear hst; rintro v w ⟨rfl, hst⟩)))) <;> (try refine nY ?_) <;> (try replace hst := nH hst)) | ((fail_if_success (go_big_may)); (go_step)) | (((with_reducible refine Sl.k_call ?_; (refine s_qt hst (by exact qt_len evX asX inX) ?_))) <;> (try refine nY ?_)) | (with_reducible refine Sl.gate rfl ?_; (go_step)) | (((((with_reducible refine Sl.k_store ?_; (refine s_stD hst rfl BoxIn.h inX evX inX lenX ?_); clear hst; intro w hst)))) <;> (try refine nY ?_) <;> (try replace hst := nH hst)))
      exact ret_D rfl hst rfl BoxIn.h inX inX ⟨_, rfl, by rw [hdg.out], St.weaken hS1 hst.drop⟩
end Go.Proofs.YtgihhhdeoaplhaaDoor

/- Package wire: plain mathematics: what was encoded is decoded. -/
namespace Go.Proofs.YtgihhhdeoaplhaaDoor
set_option linter.unusedSimpArgs false
set_option linter.unusedVariables false
open Go.RowKit Go.Sl

theorem unzig_zig {n : Int} : unzig (zig n) = n := by
  unfold unzig zig
  split <;> split <;> omega

theorem getF_encF : ∀ (f k v U : Nat) (tail : List UInt8), f + k = 10 → 1 ≤ f → v < 128 ^ f → (0 < k → 0 < v) → U + v * 2 ^ (7 * k) < 2 ^ 64 →
    getF f k U (encF f v ++ tail) = (unzig (U + v * 2 ^ (7 * k)), k + (encF f v).length, 0)
  | 0, _, _, _, _, _, h, _, _, _ => by omega
  | f + 1, k, v, U, tail, hk, _, hv, h0, hlt => by
    by_cases hs : v < 128
    · rw [encF_one hs]
      have hc : (UInt8.ofNat v).toNat = v := by rw [UInt8.toNat_ofNat']; omega
      have hk9 : ¬ (k = 9 ∧ 1 < v) := by
        rintro ⟨rfl, h⟩
        have : 2 * 2 ^ (7 * 9) ≤ v * 2 ^ (7 * 9) := Nat.mul_le_mul_right _ h
        omega
      show getF (f + 1) k U (UInt8.ofNat v :: tail) = _
      rw [getF_ok (by rw [hc]; omega) (by rw [hc]; rintro (⟨h1, h2⟩ | h); exact absurd (h0 h2) (by omega); exact hk9 h), hc, Nat.mod_eq_of_lt hs]
      rfl
    · rw [encF_more hs]
      have hc : (UInt8.ofNat (128 + v % 128)).toNat = 128 + v % 128 := by rw [UInt8.toNat_ofNat']; omega
      show getF (f + 1) k U (UInt8.ofNat (128 + v % 128) :: (encF f (v / 128) ++ tail)) = _
      have hf : 1 ≤ f := by
        rcases Nat.eq_zero_or_pos f with rfl | h
        · simp at hv; omega
        · exact h
      have e : U + v % 128 * 2 ^ (7 * k) + v / 128 * 2 ^ (7 * (k + 1)) = U + v * 2 ^ (7 * k) := by
        rw [Nat.mul_succ, Nat.pow_add, Nat.mul_comm (2 ^ (7 * k)), ← Nat.mul_assoc, Nat.add_assoc, ← Nat.add_mul]
        congr 2
        omega
      rw [getF_more (by rw [hc]; omega), hc, show (128 + v % 128) % 128 = v % 128 by omega,
        getF_encF f (k + 1) (v / 128) _ tail (by omega) hf (Nat.div_lt_of_lt_mul (by rw [← Nat.pow_succ']; exact hv)) (fun _ => by omega) (by rw [e]; exact hlt), e]
      simp only [List.length_cons]
      congr 2
      omega

/-- Decoding the encoding of an integer, whatever follows it. -/
theorem getI_encI {n : Int} (hn : I64 n) (tail : List UInt8) : getI (encI n ++ tail) = (n, (encI n).length, 0) := by
  have hz := zig_lt hn
  have := getF_encF 10 0 (zig n) 0 tail rfl (by omega) (Nat.lt_trans hz pow10) (fun h => by omega) (by simpa using hz)
  unfold getI encI
  rw [this]
  simp [unzig_zig]

theorem encI_app {m n : Int} (hm : I64 m) (hn : I64 n) {a b : List UInt8} (h : encI m ++ a = encI n ++ b) : m = n ∧ a = b := by
  have h1 := getI_encI hm a
  rw [h, getI_encI hn b] at h1
  have e : n = m := congrArg Prod.fst h1
  subst e
  exact ⟨rfl, List.append_cancel_left h⟩

theorem encI_inj {m n : Int} (hm : I64 m) (hn : I64 n) : encI m = encI n ↔ m = n :=
  ⟨fun h => (encI_app (a := []) (b := []) hm hn (by rw [h])).1, fun h => by rw [h]⟩

theorem flat_inj : ∀ {a b : List Int}, (∀ x ∈ a, I64 x) → (∀ x ∈ b, I64 x) → a.length = b.length → a.flatMap encI = b.flatMap encI → a = b
  | [], [], _, _, _, _ => rfl
  | x :: a, y :: b, ha, hb, hl, h => by
    rw [List.flatMap_cons, List.flatMap_cons] at h
    obtain ⟨rfl, h'⟩ := encI_app (ha x (.head _)) (hb y (.head _)) h
    rw [flat_inj (fun z hz => ha z (.tail _ hz)) (fun z hz => hb z (.tail _ hz)) (by simpa using hl) h']

theorem encL_inj {a b : List Int} (ha : ∀ x ∈ a, I64 x) (hb : ∀ x ∈ b, I64 x) (hla : a.length ≤ 1048576) (hlb : b.length ≤ 1048576) : encL a = encL b ↔ a = b := by
  constructor
  · intro h
    obtain ⟨h1, h2⟩ := encI_app (nat_i64 hla) (nat_i64 hlb) h
    exact flat_inj ha hb (by omega) h2
  · rintro rfl; rfl
end Go.Proofs.YtgihhhdeoaplhaaDoor

/- Package wire: plain mathematics: byte strings and lists, encoded and decoded. -/
namespace Go.Proofs.YtgihhhdeoaplhaaDoor
set_option linter.unusedSimpArgs false
set_option linter.unusedVariables false
open Go.RowKit Go.Sl

theorem encF_pos : ∀ {f u : Nat}, 1 ≤ f → 1 ≤ (encF f u).length
  | 0, _, h => by omega
  | f + 1, u, _ => by unfold encF; split <;> simp
theorem encI_pos (n : Int) : 1 ≤ (encI n).length := encF_pos (by omega)
theorem flat_ge (l : List Int) : l.length ≤ (l.flatMap encI).length := by
  induction l with
  | nil => simp
  | cons x l ih => have := encI_pos x; simp only [List.flatMap_cons, List.length_append, List.length_cons]; omega

theorem countP_enc {n s : Nat} {r : List UInt8} (hn : n ≤ 1048576) (hs : 1 ≤ s) (hr : n * s ≤ r.length) : countP s (encI n ++ r) = ((n : Int), (encI n).length, 0) := by
  have h := getI_encI (nat_i64 hn) r
  have hd : n ≤ ((encI (n : Int) ++ r).length - (encI (n : Int)).length) / s := by
    rw [List.length_append, Nat.add_sub_cancel_left]
    exact (Nat.le_div_iff_mul_le hs).2 hr
  unfold countP
  rw [h]
  simp only []
  rw [if_neg (by simp), if_neg (by omega), if_neg (by omega)]

theorem getB_encB {s t : List UInt8} (hs : s.length ≤ 1048576) : getB (encB s ++ t) = (s, (encB s).length, 0) := by
  have hc : countP 1 (encB s ++ t) = ((s.length : Int), (encI s.length).length, 0) := by
    unfold encB
    rw [List.append_assoc]
    exact countP_enc hs (Nat.le_refl _) (by simp)
  unfold getB
  rw [hc]
  simp only []
  rw [if_neg (by simp)]
  unfold encB
  rw [List.append_assoc, List.drop_left, Int.toNat_natCast, List.take_left, List.length_append]

theorem getLF_enc : ∀ (l : List Int) (b : List UInt8) (a : Nat) (t : List UInt8) (out : List Int), (∀ x ∈ l, I64 x) → b.drop a = l.flatMap encI ++ t → getLF l.length b a out = (out ++ l, a + (l.flatMap encI).length, 0)
  | [], _, _, _, _, _, _ => by simp [getLF]
  | x :: l, b, a, t, out, hx, hd => by
    have e : b.drop a = encI x ++ (l.flatMap encI ++ t) := by rw [hd, List.flatMap_cons, List.append_assoc]
    have hg := getI_encI (hx x (.head _)) (l.flatMap encI ++ t)
    have hd2 : b.drop (a + (encI x).length) = l.flatMap encI ++ t := by rw [← List.drop_drop, e, List.drop_left]
    show getLF (l.length + 1) b a out = _
    unfold getLF
    rw [e, hg]
    simp only []
    rw [if_neg (by simp), getLF_enc l b _ t _ (fun y hy => hx y (.tail _ hy)) hd2]
    simp only [List.append_assoc, List.singleton_append, List.flatMap_cons, List.length_append, Nat.add_assoc]

theorem getL_encL {l : List Int} {t : List UInt8} (hl : l.length ≤ 1048576) (hx : ∀ x ∈ l, I64 x) : getL (encL l ++ t) = (l, (encL l).length, 0) := by
  have e : encL l ++ t = encI l.length ++ (l.flatMap encI ++ t) := by unfold encL; rw [List.append_assoc]
  have hc : countP 1 (encL l ++ t) = ((l.length : Int), (encI l.length).length, 0) := by
    rw [e]
    exact countP_enc hl (Nat.le_refl _) (by have := flat_ge l; rw [List.length_append]; omega)
  unfold getL
  rw [hc]
  simp only []
  rw [if_neg (by simp), Int.toNat_natCast, getLF_enc l _ _ t [] hx (by rw [e, List.drop_left])]
  simp [encL]
end Go.Proofs.YtgihhhdeoaplhaaDoor

/- Package wire: plain mathematics: what is decoded is the encoding of the result. -/
namespace Go.Proofs.YtgihhhdeoaplhaaDoor
set_option linter.unusedSimpArgs false
set_option linter.unusedVariables false
open Go.RowKit Go.Sl

theorem zig_unzig {u : Nat} : zig (unzig u) = u := by
  unfold unzig zig
  split <;> split <;> omega

theorem getF_canon : ∀ (f k U : Nat) (r : List UInt8) (n : Int) (used : Nat), f + k = 10 → U < 2 ^ (7 * k) → getF f k U r = (n, used, 0) →
    ∃ v, n = unzig (U + v * 2 ^ (7 * k)) ∧ k ≤ used ∧ used - k ≤ r.length ∧ encF f v = r.take (used - k) ∧ (0 < k → 0 < v)
  | 0, _, _, _, _, _, _, _, h => by simp [getF] at h
  | _ + 1, _, _, [], _, _, _, _, h => by simp [getF] at h
  | f + 1, k, U, c :: r, n, used, hk, hU, h => by
    by_cases h1 : 128 ≤ c.toNat
    · rw [getF_more h1] at h
      obtain ⟨v, e1, e2, e3, e4, e5⟩ := getF_canon f (k + 1) _ r n used (by omega) (group_lt hU) h
      have hv := e5 (by omega)
      have hcl := c.toNat_lt
      refine ⟨c.toNat % 128 + 128 * v, ?_, by omega, by simp only [List.length_cons]; omega, ?_, fun _ => by omega⟩
      · rw [e1]
        congr 1
        rw [Nat.mul_succ, Nat.pow_add, Nat.add_mul, Nat.add_assoc, Nat.mul_comm 128 v, Nat.mul_assoc, Nat.mul_comm (2 ^ (7 * k))]
      · rw [encF_more (by omega), show used - k = (used - (k + 1)) + 1 by omega, List.take_succ_cons, ← e4]
        congr 1
        · apply UInt8.toNat_inj.1
          rw [UInt8.toNat_ofNat']; omega
        · congr 1; omega
    · by_cases hb : (c.toNat = 0 ∧ 0 < k) ∨ (k = 9 ∧ 1 < c.toNat)
      · rw [getF_bad h1 hb] at h; simp at h
      · rw [getF_ok h1 hb] at h
        simp only [Prod.mk.injEq, and_true] at h
        obtain ⟨e1, e2⟩ := h
        subst e2
        refine ⟨c.toNat, ?_, by omega, by simp only [List.length_cons]; omega, ?_, fun hk0 => ?_⟩
        · rw [← e1, Nat.mod_eq_of_lt (by omega)]
        · rw [encF_one (by omega), show k + 1 - k = 0 + 1 by omega, List.take_succ_cons, List.take_zero]
          congr 1
          apply UInt8.toNat_inj.1
          rw [UInt8.toNat_ofNat']; omega
        · rcases Nat.eq_zero_or_pos c.toNat with h0 | h0
          · exact absurd (.inl ⟨h0, hk0⟩) hb
          · exact h0

theorem getI_canon {b : List UInt8} {n : Int} {used : Nat} (h : getI b = (n, used, 0)) : used ≤ b.length ∧ encI n = b.take used := by
  obtain ⟨v, e1, _, e3, e4, _⟩ := getF_canon 10 0 0 b n used rfl (by simp) h
  refine ⟨by simpa using e3, ?_⟩
  unfold encI
  rw [e1]
  simp only [Nat.mul_zero, Nat.pow_zero, Nat.mul_one, Nat.zero_add, zig_unzig]
  simpa using e4
end Go.Proofs.YtgihhhdeoaplhaaDoor

/- Package wire: plain mathematics: the references' decoding gives what ours gives. -/
namespace Go.Proofs.YtgihhhdeoaplhaaDoor
set_option linter.unusedSimpArgs false
set_option linter.unusedVariables false
open Go.RowKit Go.Sl

/-- How many bytes the number takes, so many of them read; 0 if it does not end. -/
def lenF : Nat → Nat → List UInt8 → Nat
  | 0, _, _ => 0
  | _ + 1, _, [] => 0
  | f + 1, k, c :: r => if c.toNat < 128 then k + 1 else lenF f (k + 1) r
/-- The number, its groups read from the last one on. -/
def valF : List UInt8 → Nat
  | [] => 0
  | c :: r => c.toNat % 128 + 128 * valF r
def refI (b : List UInt8) : Int × Nat × Nat :=
  if lenF 10 0 b = 0 ∧ b.length < 10 then (0, 0, 6)
  else if lenF 10 0 b = 0 ∨ encI (unzig (valF (b.take (lenF 10 0 b)) % 2 ^ 64)) ≠ b.take (lenF 10 0 b) then (0, 0, 7)
  else (unzig (valF (b.take (lenF 10 0 b)) % 2 ^ 64), lenF 10 0 b, 0)

theorem lenF_le : ∀ (f k : Nat) (r : List UInt8), lenF f k r = 0 ∨ (k < lenF f k r ∧ lenF f k r ≤ k + r.length ∧ lenF f k r ≤ k + f)
  | 0, _, _ => .inl rfl
  | _ + 1, _, [] => .inl rfl
  | f + 1, k, c :: r => by
    unfold lenF
    split
    · right; simp
    · rcases lenF_le f (k + 1) r with h | ⟨h1, h2, h3⟩
      · exact .inl h
      · right; simp only [List.length_cons]; omega
theorem getF_ok_len : ∀ (f k u : Nat) (r : List UInt8), (getF f k u r).2.2 = 0 → lenF f k r = (getF f k u r).2.1
  | 0, _, _, _, h => by simp [getF] at h
  | _ + 1, _, _, [], h => by simp [getF] at h
  | f + 1, k, u, c :: r, h => by
    by_cases h1 : 128 ≤ c.toNat
    · rw [getF_more h1] at h ⊢
      rw [lenF, if_neg (by omega)]
      exact getF_ok_len f _ _ _ h
    · by_cases hb : (c.toNat = 0 ∧ 0 < k) ∨ (k = 9 ∧ 1 < c.toNat)
      · rw [getF_bad h1 hb] at h; simp at h
      · rw [getF_ok h1 hb, lenF, if_pos (by omega)]
theorem getF_none : ∀ (f k u : Nat) (r : List UInt8), lenF f k r = 0 → getF f k u r = if r.length < f then (0, 0, 6) else (0, 0, 7)
  | 0, _, _, _, _ => by simp [getF]
  | f + 1, _, _, [], _ => by simp [getF]
  | f + 1, k, u, c :: r, h => by
    unfold lenF at h
    split at h
    · omega
    · rename_i hc
      rw [getF_more (by omega), getF_none f _ _ _ h]
      simp only [List.length_cons, Nat.add_lt_add_iff_right]
theorem getF_some : ∀ (f k u : Nat) (r : List UInt8), lenF f k r ≠ 0 → (getF f k u r).2.2 ≠ 6
  | 0, _, _, _, h => (h rfl).elim
  | _ + 1, _, _, [], h => (h rfl).elim
  | f + 1, k, u, c :: r, h => by
    by_cases h1 : 128 ≤ c.toNat
    · rw [getF_more h1]
      rw [lenF, if_neg (by omega)] at h
      exact getF_some f _ _ _ h
    · by_cases hb : (c.toNat = 0 ∧ 0 < k) ∨ (k = 9 ∧ 1 < c.toNat)
      · rw [getF_bad h1 hb]; simp
      · rw [getF_ok h1 hb]; simp
theorem valF_encF : ∀ (f u : Nat), u < 128 ^ f → valF (encF f u) = u
  | 0, u, h => by simp at h; subst h; rfl
  | f + 1, u, h => by
    by_cases hlt : u < 128
    · rw [encF_one hlt]
      simp only [valF, UInt8.toNat_ofNat']
      omega
    · rw [encF_more hlt]
      simp only [valF, UInt8.toNat_ofNat']
      rw [valF_encF f (u / 128) (by rw [Nat.pow_succ] at h; exact Nat.div_lt_of_lt_mul (by rw [Nat.mul_comm]; exact h))]
      omega
theorem refI_eq (b : List UInt8) : refI b = getI b := by
  unfold refI
  by_cases h0 : lenF 10 0 b = 0
  · have := getF_none 10 0 0 b h0
    rw [getI, this]
    by_cases hl : b.length < 10
    · rw [if_pos ⟨h0, hl⟩, if_pos hl]
    · rw [if_neg (by omega), if_pos (.inl h0), if_neg hl]
  · rw [if_neg (by omega)]
    obtain ⟨s1, s2, s3⟩ := getI_spec b
    rcases s3 with s3 | s3 | s3
    · obtain ⟨x, used, e, hg⟩ : ∃ x used e, getI b = (x, used, e) := ⟨_, _, _, rfl⟩
      rw [hg] at s3 s2
      obtain rfl : e = 0 := s3
      have s2 : I64 x := s2
      have hl : lenF 10 0 b = used := by
        have := getF_ok_len 10 0 0 b (by show (getI b).2.2 = 0; rw [hg])
        rw [this]
        show (getI b).2.1 = used
        rw [hg]
      obtain ⟨c1, c2⟩ := getI_canon hg
      have hv : valF (b.take used) = zig x := by
        rw [← c2]
        exact valF_encF 10 (zig x) (Nat.lt_trans (zig_lt s2) pow10)
      rw [hl, hv, Nat.mod_eq_of_lt (zig_lt s2), unzig_zig, if_neg, hg]
      intro h
      rcases h with h | h
      · omega
      · exact h c2
    · exact (getF_some 10 0 0 b h0 (by show (getI b).2.2 = 6; rw [s3])).elim
    · rw [s3, if_pos]
      refine .inr fun h => ?_
      have hm : I64 (unzig (valF (b.take (lenF 10 0 b)) % 2 ^ 64)) := unzig_i64 (Nat.mod_lt _ (by decide))
      have := getI_encI hm (b.drop (lenF 10 0 b))
      rw [h, List.take_append_drop, s3] at this
      simp at this

/-- A length, as the references read it. -/
def refP (s : Nat) (b : List UInt8) : Int × Nat × Nat :=
  if (getI b).2.2 ≠ 0 then (0, 0, (getI b).2.2) else if (getI b).1 < 0 then (0, 0, 7) else if (b.length : Int) < (getI b).1 ∨ (b.length : Int) - (getI b).2.1 < (getI b).1 * s then (0, 0, 6) else getI b
theorem refP_eq {s : Nat} (hs : 1 ≤ s) (b : List UInt8) : (refP s b).2.2 = (countP s b).2.2 ∧ ((countP s b).2.2 = 0 → refP s b = countP s b) := by
  obtain ⟨s1, s2, s3⟩ := getI_spec b
  unfold refP countP
  generalize getI b = t at *
  obtain ⟨n, at_, e⟩ := t
  simp only at *
  by_cases he : e = 0
  · subst he
    simp only [ne_eq, not_true_eq_false, if_false]
    by_cases hn : n < 0
    · simp [hn]
    · obtain ⟨m, rfl⟩ : ∃ m : Nat, n = m := ⟨n.toNat, by omega⟩
      have hiff : ((b.length : Int) < (m : Int) ∨ (b.length : Int) - at_ < (m : Int) * s) ↔ (((b.length - at_) / s : Nat) : Int) < (m : Int) := by
        have h1 : (b.length - at_) / s < m ↔ b.length - at_ < m * s := Nat.div_lt_iff_lt_mul hs
        have h2 : m ≤ m * s := Nat.le_mul_of_pos_right m hs
        have h3 : ((m : Int) * s) = ((m * s : Nat) : Int) := by push_cast; rfl
        rw [h3]
        constructor
        · intro h
          have : b.length - at_ < m * s := by omega
          have := h1.2 this
          omega
        · intro h
          have : (b.length - at_) / s < m := by omega
          have := h1.1 this
          right
          omega
      simp only [hn, if_false]
      by_cases hc : (((b.length - at_) / s : Nat) : Int) < (m : Int)
      · rw [if_pos (hiff.2 hc), if_pos hc]; simp
      · rw [if_neg (fun h => hc (hiff.1 h)), if_neg hc]; simp
  · rw [if_pos he, if_pos he]
    simp [he]
end Go.Proofs.YtgihhhdeoaplhaaDoor

/- Package wire: the references' decoding of integers and of lists, walked. -/
--@opt
--@hgp
--@idxv
namespace Go.Proofs.YtgihhhdeoaplhaaDoor
set_option linter.unusedSimpArgs false
set_option linter.unusedVariables false
open Go.RowKit Go.Sl

theorem u8_mod128 (c : UInt8) : ((c.toNat : Int) % 128) = ((c.toNat % 128 : Nat) : Int) := by omega
theorem val_step {b : List UInt8} {n k : Nat} (hn : n ≤ b.length) (hk : k < n) : valF ((b.take n).drop k) = b[k].toNat % 128 + 128 * valF ((b.take n).drop (k + 1)) := by
  have h : k < (b.take n).length := by rw [List.length_take]; omega
  rw [List.drop_eq_getElem_cons h, valF, List.getElem_take]

theorem refInt_f {S M} (w : World) (hst : St S M w) (n : Int) (hn : I64 n) : Rets Tryd.prog 60 [.int .i64 n] w fun v w' => Fz UInt8 S M (encI n) v w' :=
  Rets.mono (refInt_c w hst n hn) fun _ _ h => fz_u8 h
theorem xor_off {x : Nat} (h : x < 2 ^ 64) : wrap64 (IntKind.u64.wrap ((x : Int) / 2)) = ((x / 2 : Nat) : Int) := by
  rw [show ((x : Int) / 2) = ((x / 2 : Nat) : Int) by omega, wrap_u64 (by omega)]
  unfold wrap64; omega
theorem unzig0 {x : Nat} (h : x < 2 ^ 64) (hp : ((x : Int) % 2 == 1) = false) : wrap64 (IntKind.u64.wrap ((x : Int) / 2)) = unzig x := by
  rw [xor_off h, unzig, if_neg (by have := beq_eq_false_iff_ne.1 hp; omega)]
theorem unzig1 {x : Nat} (h : x < 2 ^ 64) (hp : ((x : Int) % 2 == 1) = true) : wrap64 (wrap64 (-wrap64 (IntKind.u64.wrap ((x : Int) / 2))) - 1) = unzig x := by
  rw [xor_off h, unzig, if_pos (by have := eq_of_beq hp; omega)]
  unfold wrap64; omega
theorem val_wrap {x v : Nat} {c : UInt8} (h : x = v % 2 ^ 64) : IntKind.u64.wrap (IntKind.u64.wrap (128 * (x : Int)) + (c.toNat : Int) % 128) = (((c.toNat % 128 + 128 * v) % 2 ^ 64 : Nat) : Int) := by
  subst h
  have e1 : IntKind.u64.wrap (128 * ((v % 2 ^ 64 : Nat) : Int)) = ((128 * v % 2 ^ 64 : Nat) : Int) := by
    have e0 : ∀ m : Nat, (128 * (m : Int)) = ((128 * m : Nat) : Int) := fun m => by push_cast; rfl
    rw [e0, wrap_nat, Nat.mul_mod_mod]
  rw [e1, u8_mod128]
  rw [← Int.natCast_add, wrap_nat, Nat.mod_add_mod, Nat.add_comm]

end Go.Proofs.YtgihhhdeoaplhaaDoor

/- Package wire: the references' encoding of lists of integers, walked. -/
--@opt
namespace Go.Proofs.YtgihhhdeoaplhaaDoor
set_option linter.unusedSimpArgs false
set_option linter.unusedVariables false
open Go.RowKit Go.Sl

set_option maxRecDepth 8000 in
set_option maxHeartbeats 400000 in
theorem refInts_c {S M} (w : World) (hst : St S M w) (vl : Value) (xs : List Int) (hl : RSl S vl xs) (hm : xs.length ≤ 1048576) :
    Rets Tryd.prog 61 [vl] w fun v w' => St S (.sl v 5 1 (encL xs).length (u8s (encL xs)) :: M) w' := by
  unfold Rets
  go_enter Tryd.func61, Tryd.ntmps61
  repeat' (first | (((with_reducible refine Sl.k_call ?_; ((refine s_call (refInt_c w hst (xs.length : Nat) (nat_i64 hm)) inX rfl ?_; clear hst; rintro v w hst)))) <;> (try refine nX ?_) <;> (try replace hst := nH hst)) | ((fail_if_success (go_big_may)); (go_step)) | (((with_reducible refine Sl.k_call ?_; (refine s_qt hst (by exact qt_len evX asX inX) ?_))) <;> (try refine nX ?_)))
  go_loopw [3, 4] (fun u v wr => ∃ i : Nat, i ≤ xs.length ∧ v = .int .i64 i ∧ St S (.sl u 5 1 (encI xs.length ++ (xs.take i).flatMap encI).length (u8s (encI xs.length ++ (xs.take i).flatMap encI)) :: M) wr) (fun _ v _ => xs.length - (intOf v).toNat)
  case atStart => exact ⟨0, Nat.zero_le _, rfl, by simpa using hst⟩
  case round =>
    clear hst
    obtain ⟨i, hi, rfl, hst⟩ := hrel
    have hu := sl_one hst
    by_cases hlt : i < xs.length
    · have hcl : (encI xs.length ++ (xs.take i).flatMap encI).length ≤ 10 + 10 * i := by
        rw [List.length_append]
        have := encI_len xs.length
        have := flat_len (xs.take i)
        have : (xs.take i).length ≤ i := List.length_take_le _ _
        omega
      have htk : (xs.take (i + 1)).flatMap encI = (xs.take i).flatMap encI ++ encI xs[i] := by rw [List.take_add_one, List.getElem?_eq_getElem hlt, Option.toList_some, List.flatMap_append, List.flatMap_cons, List.flatMap_nil, List.append_nil]
      have Htk := Lib.hid htk
      clear htk
      have hxl := encI_len xs[i]
      generalize hc : encI xs.length ++ (xs.take i).flatMap encI = c at *
      have Hc := Lib.hid hc
      clear hc
      repeat' (first | (((with_reducible refine Sl.k_call ?_; ((refine s_call (refInt_c _ hst xs[i] hI) inX rfl ?_; clear hst; rintro v w hst)))) <;> (try refine nX ?_) <;> (try replace hst := nH hst)) | ((fail_if_success (go_big_may)); (go_step)) | ((first | (with_reducible refine Sl.k_load ?_; ((refine s_ex hst (qt_ldp_int evX asX inX) ?_; rintro v ⟨rfl, hI⟩))) | (with_reducible refine Sl.k_index ?_; (((refine s_ex hst (qt_index evX asX rfl inX inX omX omX) ?_); rintro v hp; (try simp only [Int.toNat_natCast, Int.toNat_natCast_add_one, Int.reduceToNat] at hp)))) | (with_reducible refine Sl.k_call ?_; (refine s_qt hst (by exact qt_len evX asX inX) ?_))) <;> (try refine nX ?_)) | (with_reducible refine Sl.gate rfl ?_; (go_step)))
      refine s_append (j := 0) hst evX evX SlIn.h rfl inX inX inX (u8s_one _) (by omega) (by omega) (by decide) ?_
      clear hst; intro v' w hst
      (try refine nX ?_)
      (try replace hst := nH hst)
      replace hst := hst.drop
      repeat' (first | ((fail_if_success (go_big_may)); (go_step)) | (with_reducible refine Sl.gate rfl ?_; (go_step)))
      go_roundw
      case rel =>
        refine ⟨i + 1, by omega, by go_num, ?_⟩
        rw [Htk.out, ← List.append_assoc, Hc.out, u8s_append, List.length_append]
        exact hst
      case measure => simp [intOf]; omega
    · repeat' (first | ((fail_if_success (go_big_may)); (go_step)) | (((with_reducible refine Sl.k_call ?_; (refine s_qt hst (by exact qt_len evX asX inX) ?_))) <;> (try refine nX ?_)) | (with_reducible refine Sl.gate rfl ?_; (go_step)))
      go_ret
      refine ⟨_, rfl, ?_⟩
      rw [encL]
      rw [List.take_of_length_le (by omega)] at hst
      exact hst

end Go.Proofs.YtgihhhdeoaplhaaDoor
