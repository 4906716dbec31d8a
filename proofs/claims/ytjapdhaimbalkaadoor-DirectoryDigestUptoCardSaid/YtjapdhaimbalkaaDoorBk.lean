/- The reference's SHA-256 and Merkle trees, its search for two leaves that differ, walked; Merkle trees in plain form. -/
import Derived.Test.YtjapdhaimbalkaaDoorBb
import Derived.Test.YtjapdhaimbalkaaDoorBc
import Derived.Test.YtjapdhaimbalkaaDoorBd
import Derived.Test.YtjapdhaimbalkaaDoorBe

/- The orders of a region that draws its order meet again. General over the program. -/
namespace Go.Sl
set_option linter.unusedSimpArgs false
set_option linter.unusedVariables false
open Go.RowKit
def setMany : List Value → List Tmp → List Value → List Value
  | l, t :: ts, v :: vs => setMany (l.set t v) ts vs
  | l, _, _ => l
theorem setMany_cons (l : List Value) (t : Tmp) (ts : List Tmp) (v : Value) (vs : List Value) : setMany l (t :: ts) (v :: vs) = setMany (l.set t v) ts vs := rfl
theorem setMany_nil (l : List Value) (vs : List Value) : setMany l [] vs = l := by cases vs <;> rfl
theorem v_join {P : Program} {c : Code} {Q : Exit → Act → World → Prop} {l : List Value} {D : List Deferred} {w : World} (upd : List Tmp) (R : List Value → World → Prop)
    (h1 : ∀ Q' : Exit → Act → World → Prop, (∀ vs w, R vs w → Q' .normal ⟨(setMany l upd vs).toArray, D⟩ w) → c.wp P Q' ⟨l.toArray, D⟩ w)
    (h2 : ∀ vs w, R vs w → Q .normal ⟨(setMany l upd vs).toArray, D⟩ w) : c.wp P Q ⟨l.toArray, D⟩ w := h1 Q h2
end Go.Sl

/- Package wire: the references' encoding of byte strings, walked. -/
--@opt
namespace Go.Proofs.YtjapdhaimbalkaaDoor
set_option linter.unusedSimpArgs false
set_option linter.unusedVariables false
open Go.RowKit Go.Sl

set_option maxRecDepth 8000 in
set_option maxHeartbeats 400000 in
theorem refBytes_c {S M} (w : World) (hst : St S M w) (b : List UInt8) (hm : b.length ≤ 1048576) :
    Rets Tryd.prog 48 [.string ⟨b.toArray⟩] w fun v w' => St S (.sl v 5 1 (encB b).length (u8s (encB b)) :: M) w' := by
  unfold Rets
  have hel := encI_len b.length
  go_enter Tryd.func48, Tryd.ntmps48
  repeat' (first | (((with_reducible refine s_bytes hst evX Tryd.underlying9 inX Tryd.underlying5 (by omega) ?_; clear hst; intro u w hst)) <;> (try refine nX ?_)) | (((with_reducible refine Sl.k_call ?_; ((refine s_call (refInt_c w hst (b.length : Nat) (nat_i64 hm)) inX rfl ?_; clear hst; rintro v w hst)))) <;> (try refine nX ?_) <;> (try replace hst := nH hst)) | ((fail_if_success (go_big_may)); (go_step)) | (((with_reducible refine Sl.k_call ?_; (refine s_qt hst (by exact qt_len_str evX inX) ?_))) <;> (try refine nX ?_)))
  refine s_append (j := 0) hst evX evX SlIn.h rfl inX inX inX (u8s_one _) (by omega) (by omega) (by decide) ?_
  clear hst; intro v' w hst
  (try refine nX ?_)
  (try replace hst := nH hst)
  replace hst := hst.drop
  repeat' (((fail_if_success (go_big_may)); (go_step)))
  go_ret
  refine ⟨_, rfl, ?_⟩
  rw [encB, u8s_append, List.length_append]
  exact hst
end Go.Proofs.YtjapdhaimbalkaaDoor

/- The reference's SHA-256: words. -/
--@u32
--@hgp
--@idxv
namespace Go.Proofs.YtjapdhaimbalkaaDoor
set_option linter.unusedSimpArgs false
set_option linter.unusedVariables false
open Go.RowKit Go.Sl

set_option maxRecDepth 8000 in
set_option maxHeartbeats 400000 in
theorem rot_c {S M} (w : World) (hst : St S M w) (x : UInt32) (n : Nat) (h1 : n ≤ 32) :
    Rets Tryd.prog 103 [.int .u32 (x.toNat : Int), .int .i64 (n : Int)] w fun v w' => v = .int .u32 ((rotN x n).toNat : Int) ∧ St S M w' := by
  unfold Rets
  go_enter Tryd.func103, Tryd.ntmps103
  repeat' (((fail_if_success (go_big_may)); (go_step)))
  refine v_begin hst (by kernel_rfl) ?_; clear hst; intro ops; (try refine nY ?_)
  (refine t_qt 0 rfl (by kernel_rfl) rfl rfl (by exact qt_move evX) ?_) <;> (try refine nY ?_)
  (refine t_qt 1 rfl (by kernel_rfl) rfl rfl (by exact qt_move evX) ?_) <;> (try refine nY ?_)
  (refine t_qt 2 rfl (by kernel_rfl) rfl rfl (by exact qt_shr32 rfl rfl omX) ?_) <;> (try refine nY ?_)
  (refine t_qt 3 rfl (by kernel_rfl) rfl rfl (by exact qt_move evX) ?_) <;> (try refine nY ?_)
  (refine t_qt 4 rfl (by kernel_rfl) rfl rfl (by exact qt_move evX) ?_) <;> (try refine nY ?_)
  (refine t_qt 5 rfl (by kernel_rfl) rfl rfl (by exact qt_sub' rfl rfl omX) ?_) <;> (try refine nY ?_)
  (refine t_qt 6 rfl (by kernel_rfl) rfl rfl (by exact qt_shl32 rfl rfl omX) ?_) <;> (try refine nY ?_)
  (refine t_qt 7 rfl (by kernel_rfl) rfl rfl (by exact qt_or32 rfl rfl) ?_) <;> (try refine nY ?_)
  (refine t_qt 8 rfl (by kernel_rfl) rfl rfl (by exact qt_assign evX) ?_) <;> (try refine nY ?_)
  refine v_done (by kernel_rfl) ?_; clear ops; intro w hst
  repeat' (((fail_if_success (go_big_may)); (go_step)))
  go_ret
  exact ⟨_, rfl, by rw [rotN, UInt32.or_comm, show ((32 : Int) - (n : Int)).toNat = 32 - n by omega]; rfl, hst⟩

def hexd (x : UInt8) : Nat := if 97 ≤ x.toNat then x.toNat - 87 else x.toNat - 48
def isHex (x : UInt8) : Prop := (48 ≤ x.toNat ∧ x.toNat ≤ 57) ∨ (97 ≤ x.toNat ∧ x.toNat ≤ 102)
instance (x : UInt8) : Decidable (isHex x) := inferInstanceAs (Decidable (_ ∨ _))
theorem hexd_lt {x : UInt8} (h : isHex x) : hexd x < 16 := by unfold hexd; unfold isHex at h; split <;> omega
def wordN (s : List UInt8) : Nat := s.foldl (fun w x => 16 * w + hexd x) 0
theorem wordN_snoc (s : List UInt8) (x : UInt8) : wordN (s ++ [x]) = 16 * wordN s + hexd x := by rw [wordN, List.foldl_append]; rfl
theorem wordN_lt : ∀ (n : Nat) (s : List UInt8), s.length = n → (∀ x ∈ s, isHex x) → wordN s < 16 ^ n
  | 0, s, h, _ => by rw [List.eq_nil_of_length_eq_zero h]; decide
  | n + 1, s, h, hs => by
    have hne : s ≠ [] := fun e => by rw [e] at h; cases h
    obtain ⟨x, hx⟩ : ∃ x, s.getLast hne = x := ⟨_, rfl⟩
    have e := List.dropLast_concat_getLast hne
    rw [hx] at e
    have hl : s.dropLast.length = n := by rw [List.length_dropLast, h]; rfl
    have ih := wordN_lt n s.dropLast hl fun y hy => hs y (by rw [← e]; exact List.mem_append_left _ hy)
    have hd := hexd_lt (hs x (by rw [← e]; simp))
    rw [← e, wordN_snoc, Nat.pow_succ]
    omega
def wordAt (s : List UInt8) (i : Nat) : Nat := wordN ((s.drop (8 * i)).take 8)

set_option maxRecDepth 8000 in
set_option maxHeartbeats 400000 in
theorem word_c {S M} (w : World) (hst : St S M w) (s : List UInt8) (i : Nat) (hs : 8 * i + 8 ≤ s.length) (hh : ∀ x ∈ s, isHex x) (hm : s.length ≤ 1000) :
    Rets Tryd.prog 102 [.string ⟨s.toArray⟩, .int .i64 (i : Int)] w fun v w' => v = .int .u32 (wordAt s i : Int) ∧ St S M w' := by
  unfold Rets
  go_enter Tryd.func102, Tryd.ntmps102
  repeat' (first | ((fail_if_success (go_big_may)); (go_step)) | (with_reducible refine Sl.gate rfl ?_; (go_step)))
  go_loopw [5, 6] (fun u v wr => ∃ (k : Int) (j W : Nat), k = 8 * i + j ∧ j ≤ 8 ∧ v = .int .i64 k ∧ u = .int .u32 (W : Int) ∧ Hid (W = wordN ((s.drop (8 * i)).take j)) ∧ St S M wr) (fun _ v _ => 8 * i + 8 - (intOf v).toNat)
  case atStart => exact ⟨_, 0, 0, by omega, by omega, rfl, rfl, Lib.hid rfl, hst⟩
  case round =>
    clear hst
    obtain ⟨k, j, W, hk, hj, rfl, rfl, hW, hst⟩ := hrel
    by_cases hlt : j < 8
    · have hkl : k.toNat < s.length := by omega
      have hx := hh s[k.toNat] (List.getElem_mem hkl)
      have hjl : j < (s.drop (8 * i)).length := by rw [List.length_drop]; omega
      have hg : (s.drop (8 * i))[j] = s[k.toNat] := by rw [List.getElem_drop]; congr 1; omega
      have hW1 : W < 16 ^ j := by
        rw [hW.out]
        exact wordN_lt j _ (by rw [List.length_take]; omega) fun x hx => hh x (List.mem_of_mem_drop (List.mem_of_mem_take hx))
      have hW2 : W < 268435456 := Nat.lt_of_lt_of_le hW1 (Nat.le_trans (Nat.pow_le_pow_right (by decide) (show j ≤ 7 by omega)) (by decide))
      have hd := hexd_lt hx
      have hnext : Hid (16 * W + hexd s[k.toNat] = wordN ((s.drop (8 * i)).take (j + 1))) := Lib.hid (by rw [List.take_succ_eq_append_getElem hjl, wordN_snoc, ← hW.out, hg])
      have hk2 : ¬ 8 * (i : Int) + 8 ≤ k := by omega
      clear hW1 hg hjl
      have Hk := Lib.hid hk
      have hk3 : 0 ≤ k ∧ k ≤ 1000 := by omega
      clear hk
      by_cases h97 : 97 ≤ s[k.toNat].toNat
      · have hx2 : s[k.toNat].toNat ≤ 102 := by unfold isHex at hx; omega
        have hde : Hid (hexd s[k.toNat] = s[k.toNat].toNat - 87) := Lib.hid (if_pos h97)
        clear hx
        repeat' (first | (((with_reducible (refine Sl.k_conv ?_; refine s_qt hst (qt_convI832 rfl inX inX omX) ?_))) <;> (try refine nY ?_)) | (with_reducible refine Sl.k_bin ?_; (refine s_qt hst (by first | exact qt_sub8 rfl rfl omX | exact qt_add8 rfl rfl omX | exact qt_mulI32 rfl rfl omX | exact qt_addI32 rfl rfl omX) ?_)) | (((with_reducible refine Sl.k_indexV ?_; (refine s_qt hst (by exact qt_indexS evX evX StrT.u omX omX) ?_))) <;> (try refine nY ?_)) | ((fail_if_success (go_big_may)); (go_step)) | (with_reducible refine Sl.gate rfl ?_; (go_step)))
        go_roundw
        case rel => exact ⟨k + 1, j + 1, 16 * W + hexd s[k.toNat], by have := Hk.out; omega, by omega, by go_num, by rw [hde.out]; congr 1; omega, hnext, hst⟩
        case measure => simp [intOf]; omega
      · have hx2 : 48 ≤ s[k.toNat].toNat ∧ s[k.toNat].toNat ≤ 57 := by unfold isHex at hx; omega
        have hde : Hid (hexd s[k.toNat] = s[k.toNat].toNat - 48) := Lib.hid (if_neg h97)
        clear hx
        repeat' (first | (((with_reducible (refine Sl.k_conv ?_; refine s_qt hst (qt_convI832 rfl inX inX omX) ?_))) <;> (try refine nY ?_)) | (with_reducible refine Sl.k_bin ?_; (refine s_qt hst (by first | exact qt_sub8 rfl rfl omX | exact qt_mulI32 rfl rfl omX | exact qt_addI32 rfl rfl omX) ?_)) | (((with_reducible refine Sl.k_indexV ?_; (refine s_qt hst (by exact qt_indexS evX evX StrT.u omX omX) ?_))) <;> (try refine nY ?_)) | ((fail_if_success (go_big_may)); (go_step)) | (with_reducible refine Sl.gate rfl ?_; (go_step)))
        go_roundw
        case rel => exact ⟨k + 1, j + 1, 16 * W + hexd s[k.toNat], by have := Hk.out; omega, by omega, by go_num, by rw [hde.out]; congr 1; omega, hnext, hst⟩
        case measure => simp [intOf]; omega
    · obtain rfl : j = 8 := by omega
      have hk2 : 8 * (i : Int) + 8 ≤ k := by omega
      clear hk
      repeat' (first | ((fail_if_success (go_big_may)); (go_step)) | (with_reducible refine Sl.gate rfl ?_; (go_step)))
      go_ret
      exact ⟨_, rfl, by rw [hW.out]; rfl, hst⟩

def wordsL (s : List UInt8) (n : Nat) : List UInt32 := (List.range n).map fun i => UInt32.ofNat (wordAt s i)
theorem wordsL_snoc (s : List UInt8) (n : Nat) : wordsL s (n + 1) = wordsL s n ++ [UInt32.ofNat (wordAt s n)] := by rw [wordsL, List.range_succ, List.map_append]; rfl

set_option maxRecDepth 8000 in
set_option maxHeartbeats 400000 in
theorem words_c {S M} (w : World) (hst : St S M w) (s : List UInt8) (n : Nat) (hs : 8 * n ≤ s.length) (hh : ∀ x ∈ s, isHex x) (hm : s.length ≤ 1000) :
    Rets Tryd.prog 94 [.string ⟨s.toArray⟩, .int .i64 (n : Int)] w fun v w' => St S (.sl v 96 1 (wordsL s n).length (cF u32C (wordsL s n)) :: M) w' := by
  unfold Rets
  go_enter Tryd.func94, Tryd.ntmps94
  repeat' (((fail_if_success (go_big_may)); (go_step)))
  go_loopw [5, 6] (fun u v wr => ∃ (i : Nat) (c : List UInt32), i ≤ n ∧ v = .int .i64 i ∧ Hid (c = wordsL s i) ∧ c.length ≤ i ∧ u.oneCell' = true ∧ St S (.sl u 96 1 c.length (cF u32C c) :: M) wr) (fun _ v _ => n - (intOf v).toNat)
  case atStart => exact ⟨0, [], Nat.zero_le _, rfl, Lib.hid rfl, Nat.le_refl _, rfl, hst.nil _ 1⟩
  case round =>
    clear hst
    obtain ⟨i, c, hi, rfl, hc, hcl, hone, hst⟩ := hrel
    by_cases hlt : i < n
    · have h8 : 8 * i + 8 ≤ s.length := by omega
      have hW : wordAt s i < 4294967296 := wordN_lt 8 _ (by rw [List.length_take, List.length_drop]; omega) fun x hx => hh x (List.mem_of_mem_drop (List.mem_of_mem_take hx))
      have hE : ((wordAt s i : Nat) : Int) = ((UInt32.ofNat (wordAt s i)).toNat : Int) := by rw [UInt32.toNat_ofNat_of_lt' (by have : UInt32.size = 4294967296 := rfl; omega)]
      have hsn := Lib.hid (wordsL_snoc s i)
      have cw := fun {S M} (w : World) (hst : St S M w) => word_c w hst s i h8 hh hm
      rw [hE] at cw
      generalize UInt32.ofNat (wordAt s i) = x at *
      clear hE hW
      repeat' (first | (((with_reducible refine Sl.k_call ?_; ((refine s_call (cw _ hst) inX rfl ?_; clear hst; rintro v w ⟨rfl, hst⟩)))) <;> (try refine nY ?_) <;> (try replace hst := nH hst)) | ((fail_if_success (go_big_may)); (go_step)) | (with_reducible refine Sl.gate rfl ?_; (go_step)))
      refine s_lit (vs := [.int .u32 (x.toNat : Int)]) hst inX inX rfl rfl (by simp [Value.cells]) rfl (by omega) (by omega) ?_
      clear hst; intro u w hst
      refine nY ?_
      repeat' (fail)
      refine s_append (j := 0) hst evX evX SlIn.h rfl inX inX inX (by simp [Value.cells, Value.oneCell']) (by omega) (by omega) (by decide) ?_
      clear hst; intro v' w hst
      refine nY ?_
      (try replace hst := nH hst)
      replace hst := hst.drop
      repeat' (first | ((fail_if_success (go_big_may)); (go_step)) | (with_reducible refine Sl.gate rfl ?_; (go_step)))
      have hone' := sl_one hst
      go_roundw
      case rel => exact ⟨i + 1, c ++ [x], by omega, by go_num, Lib.hid (by rw [hsn.out, hc.out]), by simp; omega, hone', by rw [List.length_append, cF_snoc]; exact hst⟩
      case measure => simp [intOf]; omega
    · obtain rfl : i = n := by omega
      repeat' (first | ((fail_if_success (go_big_may)); (go_step)) | (with_reducible refine Sl.gate rfl ?_; (go_step)))
      go_ret
      exact ⟨_, rfl, by rw [← hc.out]; exact hst⟩
end Go.Proofs.YtjapdhaimbalkaaDoor

/- The reference's SHA-256: one block. -/
--@u32
--@hgp
--@ex0
namespace Go.Proofs.YtjapdhaimbalkaaDoor
set_option linter.unusedSimpArgs false
set_option linter.unusedVariables false
open Go.RowKit Go.Sl

theorem rotI_c {S M} (w : World) (hst : St S M w) (x : UInt32) (n : Int) (h1 : 0 ≤ n ∧ n ≤ 32) :
    Rets Tryd.prog 103 [.int .u32 (x.toNat : Int), .int .i64 n] w fun v w' => v = .int .u32 ((rotN x n.toNat).toNat : Int) ∧ St S M w' := by
  obtain ⟨m, rfl⟩ : ∃ m : Nat, n = m := ⟨n.toNat, by omega⟩
  exact rot_c w hst x m (by omega)
theorem rots2 (x : UInt32) (a b : Nat) : rots x [a, b] = rotN x a ^^^ rotN x b := by simp [rots]
theorem rots3 (x : UInt32) (a b c : Nat) : rots x [a, b, c] = rotN x a ^^^ rotN x b ^^^ rotN x c := by simp [rots]
theorem sched1_hi (blk : List UInt8) (ws : List UInt32) {i : Nat} (h : ¬ i < 16) : sched1 blk ws i = ws.getD (i - 16) 0 + (rotN (ws.getD (i - 15) 0) 7 ^^^ rotN (ws.getD (i - 15) 0) 18 ^^^ shr (ws.getD (i - 15) 0) 3) + ws.getD (i - 7) 0 + (rotN (ws.getD (i - 2) 0) 17 ^^^ rotN (ws.getD (i - 2) 0) 19 ^^^ shr (ws.getD (i - 2) 0) 10) := by
  rw [sched1, if_neg h, rots2, rots2]
theorem loadW4 (a b c d : UInt8) : loadW [a, b, c, d] = shl (UInt32.ofNat a.toNat) 24 ||| shl (UInt32.ofNat b.toNat) 16 ||| shl (UInt32.ofNat c.toNat) 8 ||| UInt32.ofNat d.toNat := by
  have hs : ∀ (x y : UInt32) (n : Nat), shl (x ||| y) n = shl x n ||| shl y n := fun x y n => by
    apply UInt32.toBitVec_inj.1
    show (x.toBitVec ||| y.toBitVec) <<< n = _
    rw [BitVec.shiftLeft_or_distrib]
    rfl
  have ha : ∀ (x : UInt32) (n m : Nat), shl (shl x n) m = shl x (n + m) := fun x n m => by
    apply UInt32.toBitVec_inj.1
    show (x.toBitVec <<< n) <<< m = _
    rw [← BitVec.shiftLeft_add]
    rfl
  have h0 : ∀ n : Nat, shl 0 n = 0 := fun n => by
    apply UInt32.toBitVec_inj.1
    show (0 : BitVec 32) <<< n = 0
    simp
  simp only [loadW, List.foldl_cons, List.foldl_nil, hs, ha, h0, UInt32.zero_or]
theorem sched1_lo {blk : List UInt8} (ws : List UInt32) {i : Nat} (h : i < 16) (hl : 4 * i + 3 < blk.length) :
    sched1 blk ws i = shl (UInt32.ofNat blk[4 * i].toNat) 24 ||| shl (UInt32.ofNat blk[4 * i + 1].toNat) 16 ||| shl (UInt32.ofNat blk[4 * i + 2].toNat) 8 ||| UInt32.ofNat blk[4 * i + 3].toNat := by
  rw [sched1, if_pos h, ← loadW4]
  congr 1
  rw [List.drop_eq_getElem_cons (by omega), List.drop_eq_getElem_cons (show 4 * i + 1 < blk.length by omega), List.drop_eq_getElem_cons (show 4 * i + 1 + 1 < blk.length by omega), List.drop_eq_getElem_cons (show 4 * i + 1 + 1 + 1 < blk.length by omega)]
  rfl
theorem getD_get {α : Type} {l : List α} {i : Nat} (h : i < l.length) (d : α) : l.getD i d = l[i] := by rw [List.getD_eq_getElem?_getD, List.getElem?_eq_getElem h]; rfl

set_option maxRecDepth 100000 in
set_option maxHeartbeats 4000000 in
theorem refComp_c {S M} (w : World) (hst : St S M w) (vv vb vk : Value) (h : S8) (blk : List UInt8) (hv : RSl S vv h.l) (hb : RSl S vb blk) (hk : RSl S vk kList) (hl : blk.length = 64) :
    Rets Tryd.prog 95 [vv, vb, vk] w fun v w' => St S (.sl v 96 1 8 (s8C (comp h blk)) :: M) w' := by
  unfold Rets
  have h64 : 64 ≤ blk.length ∧ blk.length ≤ 64 := by omega
  have hvl : 8 ≤ h.l.length := Nat.le_refl 8
  clear hl
  go_enter Tryd.func95, Tryd.ntmps95
  repeat' (((fail_if_success (go_big_may)); (go_step)))
  refine s_make (n := 64) hst (by infer_instance) (by infer_instance) evX evX (by omega) (by omega) ?_
  clear hst; intro vw w hst
  have hst : St S (.sl vw 96 1 64 (cF u32C (sched blk 0)) :: M) w := by rw [zero64]; exact hst
  have hvw := sl_one hst
  refine nY ?_
  repeat' (((fail_if_success (go_big_may)); (go_step)))
  go_loopw [8] (fun v wr => ∃ (i : Nat) (ws : List UInt32), i ≤ 16 ∧ v = .int .i64 i ∧ Hid (ws = sched blk i) ∧ (64 ≤ ws.length ∧ ws.length ≤ 64) ∧ St S (.sl vw 96 1 64 (cF u32C ws) :: M) wr) (fun v _ => 16 - (intOf v).toNat)
  case atStart => exact ⟨0, _, by omega, rfl, Lib.hid rfl, by rw [sched_len]; omega, hst⟩
  case round =>
    clear hst
    obtain ⟨i, ws, hi, rfl, hws, hwl, hst⟩ := hrel
    by_cases hlt : i < 16
    · have hE := Lib.hid (sched1_lo (blk := blk) ws hlt (by omega))
      repeat' (first | ((fail_if_success (go_big_may)); (go_step)) | (with_reducible refine Sl.gate rfl ?_; (go_step)))
      refine v_begin hst (by kernel_rfl) ?_; clear hst; intro ops; (try refine nY ?_)
      (refine t_qt 0 rfl (by kernel_rfl) rfl rfl (by exact qt_move evX) ?_) <;> (try refine nY ?_)
      (refine t_qt 1 rfl (by kernel_rfl) rfl rfl (by exact qt_move evX) ?_) <;> (try refine nY ?_)
      (refine t_qt 2 rfl (by kernel_rfl) rfl rfl (by exact qt_move evX) ?_) <;> (try refine nY ?_)
      (refine t_qt 3 rfl (by kernel_rfl) rfl rfl (by exact qt_move evX) ?_) <;> (try refine nY ?_)
      (refine t_qt 4 rfl (by kernel_rfl) rfl rfl (by exact qt_mul' rfl rfl omX) ?_) <;> (try refine nY ?_)
      ((refine t_ex0 5 rfl (by kernel_rfl) rfl rfl (qt_index evX asX rfl inX inX omX omX) ?_; rintro v hp; (try simp only [Int.toNat_natCast, Int.toNat_natCast_add_one, Int.reduceToNat] at hp))) <;> (try refine nY ?_)
      (refine t_qt 6 rfl (by kernel_rfl) rfl rfl (by exact qt_ldp_u8 evX asX inX) ?_) <;> (try refine nY ?_)
      (refine t_qt 7 rfl (by kernel_rfl) rfl rfl (by exact qt_conv832 rfl inX inX) ?_) <;> (try refine nY ?_)
      (refine t_qt 8 rfl (by kernel_rfl) rfl rfl (by exact qt_shl32 rfl rfl omX) ?_) <;> (try refine nY ?_)
      (refine t_qt 9 rfl (by kernel_rfl) rfl rfl (by exact qt_move evX) ?_) <;> (try refine nY ?_)
      (refine t_qt 10 rfl (by kernel_rfl) rfl rfl (by exact qt_move evX) ?_) <;> (try refine nY ?_)
      (refine t_qt 11 rfl (by kernel_rfl) rfl rfl (by exact qt_mul' rfl rfl omX) ?_) <;> (try refine nY ?_)
      (refine t_qt 12 rfl (by kernel_rfl) rfl rfl (by exact qt_add' rfl rfl omX) ?_) <;> (try refine nY ?_)
      ((refine t_ex0 13 rfl (by kernel_rfl) rfl rfl (qt_index evX asX rfl inX inX omX omX) ?_; rintro v hp; (try simp only [Int.toNat_natCast, Int.toNat_natCast_add_one, Int.reduceToNat] at hp))) <;> (try refine nY ?_)
      (refine t_qt 14 rfl (by kernel_rfl) rfl rfl (by exact qt_ldp_u8 evX asX inX) ?_) <;> (try refine nY ?_)
      (refine t_qt 15 rfl (by kernel_rfl) rfl rfl (by exact qt_conv832 rfl inX inX) ?_) <;> (try refine nY ?_)
      (refine t_qt 16 rfl (by kernel_rfl) rfl rfl (by exact qt_shl32 rfl rfl omX) ?_) <;> (try refine nY ?_)
      (refine t_qt 17 rfl (by kernel_rfl) rfl rfl (by exact qt_or32 rfl rfl) ?_) <;> (try refine nY ?_)
      (refine t_qt 18 rfl (by kernel_rfl) rfl rfl (by exact qt_move evX) ?_) <;> (try refine nY ?_)
      (refine t_qt 19 rfl (by kernel_rfl) rfl rfl (by exact qt_move evX) ?_) <;> (try refine nY ?_)
      (refine t_qt 20 rfl (by kernel_rfl) rfl rfl (by exact qt_mul' rfl rfl omX) ?_) <;> (try refine nY ?_)
      (refine t_qt 21 rfl (by kernel_rfl) rfl rfl (by exact qt_add' rfl rfl omX) ?_) <;> (try refine nY ?_)
      ((refine t_ex0 22 rfl (by kernel_rfl) rfl rfl (qt_index evX asX rfl inX inX omX omX) ?_; rintro v hp; (try simp only [Int.toNat_natCast, Int.toNat_natCast_add_one, Int.reduceToNat] at hp))) <;> (try refine nY ?_)
      (refine t_qt 23 rfl (by kernel_rfl) rfl rfl (by exact qt_ldp_u8 evX asX inX) ?_) <;> (try refine nY ?_)
      (refine t_qt 24 rfl (by kernel_rfl) rfl rfl (by exact qt_conv832 rfl inX inX) ?_) <;> (try refine nY ?_)
      (refine t_qt 25 rfl (by kernel_rfl) rfl rfl (by exact qt_shl32 rfl rfl omX) ?_) <;> (try refine nY ?_)
      (refine t_qt 26 rfl (by kernel_rfl) rfl rfl (by exact qt_or32 rfl rfl) ?_) <;> (try refine nY ?_)
      (refine t_qt 27 rfl (by kernel_rfl) rfl rfl (by exact qt_move evX) ?_) <;> (try refine nY ?_)
      (refine t_qt 28 rfl (by kernel_rfl) rfl rfl (by exact qt_move evX) ?_) <;> (try refine nY ?_)
      (refine t_qt 29 rfl (by kernel_rfl) rfl rfl (by exact qt_mul' rfl rfl omX) ?_) <;> (try refine nY ?_)
      (refine t_qt 30 rfl (by kernel_rfl) rfl rfl (by exact qt_add' rfl rfl omX) ?_) <;> (try refine nY ?_)
      ((refine t_ex0 31 rfl (by kernel_rfl) rfl rfl (qt_index evX asX rfl inX inX omX omX) ?_; rintro v hp; (try simp only [Int.toNat_natCast, Int.toNat_natCast_add_one, Int.reduceToNat] at hp))) <;> (try refine nY ?_)
      (refine t_qt 32 rfl (by kernel_rfl) rfl rfl (by exact qt_ldp_u8 evX asX inX) ?_) <;> (try refine nY ?_)
      (refine t_qt 33 rfl (by kernel_rfl) rfl rfl (by exact qt_conv832 rfl inX inX) ?_) <;> (try refine nY ?_)
      (refine t_qt 34 rfl (by kernel_rfl) rfl rfl (by exact qt_or32 rfl rfl) ?_) <;> (try refine nY ?_)
      ((refine t_ex 35 rfl (by kernel_rfl) rfl rfl (fun w hst => qt_index_own hst evX SlIn.h rfl inX inX omX omX) ?_; rintro v hp; (try simp only [Int.toNat_natCast, Int.toNat_natCast_add_one, Int.reduceToNat] at hp))) <;> (try refine nY ?_)
      refine v_one 36 rfl (by kernel_rfl) ?_; intro w hst K hK; (refine s_stU hst evX asX SlIn.h inX evX omX ?_); clear hst; intro w hst; (try refine nY ?_); (try replace hst := nH hst); refine v_last hK hst ?_; clear hst hK K; (try clear w); (try refine nY ?_)
      refine v_done (by kernel_rfl) ?_; clear ops; intro w hst
      repeat' (first | ((fail_if_success (go_big_may)); (go_step)) | (with_reducible refine Sl.gate rfl ?_; (go_step)))
      have e0 : (4 * (i : Int)).toNat = 4 * i := by omega
      have e1 : (4 * (i : Int) + 1).toNat = 4 * i + 1 := by omega
      have e2 : (4 * (i : Int) + 2).toNat = 4 * i + 2 := by omega
      have e3 : (4 * (i : Int) + 3).toNat = 4 * i + 3 := by omega
      simp only [e0, e1, e2, e3] at hst

      go_roundw
      case rel => exact ⟨i + 1, _, by omega, by go_num, Lib.hid (by rw [sched, ← hws.out, hE.out]), by rw [List.length_set]; omega, hst⟩
      case measure => simp [intOf]; omega
    · obtain rfl : i = 16 := by omega
      repeat' (first | ((fail_if_success (go_big_may)); (go_step)) | (with_reducible refine Sl.gate rfl ?_; (go_step)))
      clear hi hlt
      go_loopw [9] (fun v wr => ∃ (i : Nat) (ws : List UInt32), (16 ≤ i ∧ i ≤ 64) ∧ v = .int .i64 i ∧ Hid (ws = sched blk i) ∧ (64 ≤ ws.length ∧ ws.length ≤ 64) ∧ St S (.sl vw 96 1 64 (cF u32C ws) :: M) wr) (fun v _ => 64 - (intOf v).toNat)
      case atStart => exact ⟨16, _, by omega, rfl, hws, hwl, hst⟩
      case round =>
        clear hst hws hwl ws
        obtain ⟨i, ws, hi, rfl, hws, hwl, hst⟩ := hrel
        by_cases hlt : i < 64
        · have hE := Lib.hid (sched1_hi blk ws (show ¬ i < 16 by omega))
          repeat' (first | ((fail_if_success (go_big_may)); (go_step)) | (with_reducible refine Sl.gate rfl ?_; (go_step)))
          refine v_begin hst (by kernel_rfl) ?_; clear hst; intro ops; (try refine nY ?_)
          (refine t_qt 0 rfl (by kernel_rfl) rfl rfl (by exact qt_move evX) ?_) <;> (try refine nY ?_)
          (refine t_qt 1 rfl (by kernel_rfl) rfl rfl (by exact qt_move evX) ?_) <;> (try refine nY ?_)
          (refine t_qt 2 rfl (by kernel_rfl) rfl rfl (by exact qt_sub' rfl rfl omX) ?_) <;> (try refine nY ?_)
          ((refine t_ex 3 rfl (by kernel_rfl) rfl rfl (fun w hst => qt_index_own hst evX SlIn.h rfl inX inX omX omX) ?_; rintro v hp; (try simp only [Int.toNat_natCast, Int.toNat_natCast_add_one, Int.reduceToNat] at hp))) <;> (try refine nY ?_)
          (refine t_qt 4 rfl (by kernel_rfl) rfl rfl (by exact qt_ldU evX asX SlIn.h inX omX) ?_) <;> (try refine nY ?_)
          (refine t_call 5 rfl (by kernel_rfl) rfl (fun S' M' w hS hM hst => rotI_c w hst _ _ (by decide)) inX rfl ?_) <;> (try refine nY ?_)
          (refine t_qt 6 rfl (by kernel_rfl) rfl rfl (by exact qt_move evX) ?_) <;> (try refine nY ?_)
          (refine t_qt 7 rfl (by kernel_rfl) rfl rfl (by exact qt_move evX) ?_) <;> (try refine nY ?_)
          (refine t_qt 8 rfl (by kernel_rfl) rfl rfl (by exact qt_sub' rfl rfl omX) ?_) <;> (try refine nY ?_)
          ((refine t_ex 9 rfl (by kernel_rfl) rfl rfl (fun w hst => qt_index_own hst evX SlIn.h rfl inX inX omX omX) ?_; rintro v hp; (try simp only [Int.toNat_natCast, Int.toNat_natCast_add_one, Int.reduceToNat] at hp))) <;> (try refine nY ?_)
          (refine t_qt 10 rfl (by kernel_rfl) rfl rfl (by exact qt_ldU evX asX SlIn.h inX omX) ?_) <;> (try refine nY ?_)
          (refine t_call 11 rfl (by kernel_rfl) rfl (fun S' M' w hS hM hst => rotI_c w hst _ _ (by decide)) inX rfl ?_) <;> (try refine nY ?_)
          (refine t_qt 12 rfl (by kernel_rfl) rfl rfl (by exact qt_xor32 rfl rfl) ?_) <;> (try refine nY ?_)
          (refine t_qt 13 rfl (by kernel_rfl) rfl rfl (by exact qt_move evX) ?_) <;> (try refine nY ?_)
          (refine t_qt 14 rfl (by kernel_rfl) rfl rfl (by exact qt_move evX) ?_) <;> (try refine nY ?_)
          (refine t_qt 15 rfl (by kernel_rfl) rfl rfl (by exact qt_sub' rfl rfl omX) ?_) <;> (try refine nY ?_)
          ((refine t_ex 16 rfl (by kernel_rfl) rfl rfl (fun w hst => qt_index_own hst evX SlIn.h rfl inX inX omX omX) ?_; rintro v hp; (try simp only [Int.toNat_natCast, Int.toNat_natCast_add_one, Int.reduceToNat] at hp))) <;> (try refine nY ?_)
          (refine t_qt 17 rfl (by kernel_rfl) rfl rfl (by exact qt_ldU evX asX SlIn.h inX omX) ?_) <;> (try refine nY ?_)
          (refine t_qt 18 rfl (by kernel_rfl) rfl rfl (by exact qt_shr32 rfl rfl omX) ?_) <;> (try refine nY ?_)
          (refine t_qt 19 rfl (by kernel_rfl) rfl rfl (by exact qt_xor32 rfl rfl) ?_) <;> (try refine nY ?_)
          (refine t_qt 20 rfl (by kernel_rfl) rfl rfl (by exact qt_assign evX) ?_) <;> (try refine nY ?_)
          refine v_done (by kernel_rfl) ?_; clear ops; intro w hst
          repeat' (((fail_if_success (go_big_may)); (go_step)))
          refine v_begin hst (by kernel_rfl) ?_; clear hst; intro ops; (try refine nY ?_)
          (refine t_qt 0 rfl (by kernel_rfl) rfl rfl (by exact qt_move evX) ?_) <;> (try refine nY ?_)
          (refine t_qt 1 rfl (by kernel_rfl) rfl rfl (by exact qt_move evX) ?_) <;> (try refine nY ?_)
          (refine t_qt 2 rfl (by kernel_rfl) rfl rfl (by exact qt_sub' rfl rfl omX) ?_) <;> (try refine nY ?_)
          ((refine t_ex 3 rfl (by kernel_rfl) rfl rfl (fun w hst => qt_index_own hst evX SlIn.h rfl inX inX omX omX) ?_; rintro v hp; (try simp only [Int.toNat_natCast, Int.toNat_natCast_add_one, Int.reduceToNat] at hp))) <;> (try refine nY ?_)
          (refine t_qt 4 rfl (by kernel_rfl) rfl rfl (by exact qt_ldU evX asX SlIn.h inX omX) ?_) <;> (try refine nY ?_)
          (refine t_call 5 rfl (by kernel_rfl) rfl (fun S' M' w hS hM hst => rotI_c w hst _ _ (by decide)) inX rfl ?_) <;> (try refine nY ?_)
          (refine t_qt 6 rfl (by kernel_rfl) rfl rfl (by exact qt_move evX) ?_) <;> (try refine nY ?_)
          (refine t_qt 7 rfl (by kernel_rfl) rfl rfl (by exact qt_move evX) ?_) <;> (try refine nY ?_)
          (refine t_qt 8 rfl (by kernel_rfl) rfl rfl (by exact qt_sub' rfl rfl omX) ?_) <;> (try refine nY ?_)
          ((refine t_ex 9 rfl (by kernel_rfl) rfl rfl (fun w hst => qt_index_own hst evX SlIn.h rfl inX inX omX omX) ?_; rintro v hp; (try simp only [Int.toNat_natCast, Int.toNat_natCast_add_one, Int.reduceToNat] at hp))) <;> (try refine nY ?_)
          (refine t_qt 10 rfl (by kernel_rfl) rfl rfl (by exact qt_ldU evX asX SlIn.h inX omX) ?_) <;> (try refine nY ?_)
          (refine t_call 11 rfl (by kernel_rfl) rfl (fun S' M' w hS hM hst => rotI_c w hst _ _ (by decide)) inX rfl ?_) <;> (try refine nY ?_)
          (refine t_qt 12 rfl (by kernel_rfl) rfl rfl (by exact qt_xor32 rfl rfl) ?_) <;> (try refine nY ?_)
          (refine t_qt 13 rfl (by kernel_rfl) rfl rfl (by exact qt_move evX) ?_) <;> (try refine nY ?_)
          (refine t_qt 14 rfl (by kernel_rfl) rfl rfl (by exact qt_move evX) ?_) <;> (try refine nY ?_)
          (refine t_qt 15 rfl (by kernel_rfl) rfl rfl (by exact qt_sub' rfl rfl omX) ?_) <;> (try refine nY ?_)
          ((refine t_ex 16 rfl (by kernel_rfl) rfl rfl (fun w hst => qt_index_own hst evX SlIn.h rfl inX inX omX omX) ?_; rintro v hp; (try simp only [Int.toNat_natCast, Int.toNat_natCast_add_one, Int.reduceToNat] at hp))) <;> (try refine nY ?_)
          (refine t_qt 17 rfl (by kernel_rfl) rfl rfl (by exact qt_ldU evX asX SlIn.h inX omX) ?_) <;> (try refine nY ?_)
          (refine t_qt 18 rfl (by kernel_rfl) rfl rfl (by exact qt_shr32 rfl rfl omX) ?_) <;> (try refine nY ?_)
          (refine t_qt 19 rfl (by kernel_rfl) rfl rfl (by exact qt_xor32 rfl rfl) ?_) <;> (try refine nY ?_)
          (refine t_qt 20 rfl (by kernel_rfl) rfl rfl (by exact qt_assign evX) ?_) <;> (try refine nY ?_)
          refine v_done (by kernel_rfl) ?_; clear ops; intro w hst
          repeat' (((fail_if_success (go_big_may)); (go_step)))
          refine v_begin hst (by kernel_rfl) ?_; clear hst; intro ops; (try refine nY ?_)
          (refine t_qt 0 rfl (by kernel_rfl) rfl rfl (by exact qt_move evX) ?_) <;> (try refine nY ?_)
          (refine t_qt 1 rfl (by kernel_rfl) rfl rfl (by exact qt_move evX) ?_) <;> (try refine nY ?_)
          (refine t_qt 2 rfl (by kernel_rfl) rfl rfl (by exact qt_move evX) ?_) <;> (try refine nY ?_)
          (refine t_qt 3 rfl (by kernel_rfl) rfl rfl (by exact qt_move evX) ?_) <;> (try refine nY ?_)
          (refine t_qt 4 rfl (by kernel_rfl) rfl rfl (by exact qt_sub' rfl rfl omX) ?_) <;> (try refine nY ?_)
          ((refine t_ex 5 rfl (by kernel_rfl) rfl rfl (fun w hst => qt_index_own hst evX SlIn.h rfl inX inX omX omX) ?_; rintro v hp; (try simp only [Int.toNat_natCast, Int.toNat_natCast_add_one, Int.reduceToNat] at hp))) <;> (try refine nY ?_)
          (refine t_qt 6 rfl (by kernel_rfl) rfl rfl (by exact qt_ldU evX asX SlIn.h inX omX) ?_) <;> (try refine nY ?_)
          (refine t_qt 7 rfl (by kernel_rfl) rfl rfl (by exact qt_move evX) ?_) <;> (try refine nY ?_)
          (refine t_qt 8 rfl (by kernel_rfl) rfl rfl (by exact qt_add32 rfl rfl) ?_) <;> (try refine nY ?_)
          (refine t_qt 9 rfl (by kernel_rfl) rfl rfl (by exact qt_move evX) ?_) <;> (try refine nY ?_)
          (refine t_qt 10 rfl (by kernel_rfl) rfl rfl (by exact qt_move evX) ?_) <;> (try refine nY ?_)
          (refine t_qt 11 rfl (by kernel_rfl) rfl rfl (by exact qt_sub' rfl rfl omX) ?_) <;> (try refine nY ?_)
          ((refine t_ex 12 rfl (by kernel_rfl) rfl rfl (fun w hst => qt_index_own hst evX SlIn.h rfl inX inX omX omX) ?_; rintro v hp; (try simp only [Int.toNat_natCast, Int.toNat_natCast_add_one, Int.reduceToNat] at hp))) <;> (try refine nY ?_)
          (refine t_qt 13 rfl (by kernel_rfl) rfl rfl (by exact qt_ldU evX asX SlIn.h inX omX) ?_) <;> (try refine nY ?_)
          (refine t_qt 14 rfl (by kernel_rfl) rfl rfl (by exact qt_add32 rfl rfl) ?_) <;> (try refine nY ?_)
          (refine t_qt 15 rfl (by kernel_rfl) rfl rfl (by exact qt_move evX) ?_) <;> (try refine nY ?_)
          (refine t_qt 16 rfl (by kernel_rfl) rfl rfl (by exact qt_add32 rfl rfl) ?_) <;> (try refine nY ?_)
          ((refine t_ex 17 rfl (by kernel_rfl) rfl rfl (fun w hst => qt_index_own hst evX SlIn.h rfl inX inX omX omX) ?_; rintro v hp; (try simp only [Int.toNat_natCast, Int.toNat_natCast_add_one, Int.reduceToNat] at hp))) <;> (try refine nY ?_)
          refine v_one 18 rfl (by kernel_rfl) ?_; intro w hst K hK; (refine s_stU hst evX asX SlIn.h inX evX omX ?_); clear hst; intro w hst; (try refine nY ?_); (try replace hst := nH hst); refine v_last hK hst ?_; clear hst hK K; (try clear w); (try refine nY ?_)
          refine v_done (by kernel_rfl) ?_; clear ops; intro w hst
          repeat' (first | ((fail_if_success (go_big_may)); (go_step)) | (with_reducible refine Sl.gate rfl ?_; (go_step)))
          have e15 : ((i : Int) - 15).toNat = i - 15 := by omega
          have e2 : ((i : Int) - 2).toNat = i - 2 := by omega
          have e16 : ((i : Int) - 16).toNat = i - 16 := by omega
          have e7 : ((i : Int) - 7).toNat = i - 7 := by omega
          rw [e15, e2, e16, e7] at hst
          clear e15 e2 e16 e7
          go_roundw
          case rel => exact ⟨i + 1, _, by omega, by go_num, Lib.hid (by rw [sched, ← hws.out, hE.out]), by rw [List.length_set]; omega, hst⟩
          case measure => simp [intOf]; omega
        · obtain rfl : i = 64 := by omega
          clear hi hlt
          have hwl2 : 64 ≤ ws.length := hwl.1
          repeat' (first | ((fail_if_success (go_big_may)); (go_step)) | ((first | (with_reducible refine Sl.k_load ?_; (refine s_qt hst (by exact qt_ldp_u32 evX asX inX) ?_)) | (with_reducible refine Sl.k_index ?_; (((refine s_ex hst (qt_index evX asX rfl inX inX omX omX) ?_); rintro v hp; (try simp only [Int.toNat_natCast, Int.toNat_natCast_add_one, Int.reduceToNat] at hp))))) <;> (try refine nY ?_)) | (with_reducible refine Sl.gate rfl ?_; (go_step)))
          go_loopw [12, 13, 14, 15, 16, 17, 18, 19, 20] (fun va vb vc vd ve vf vg vh v wr => ∃ (i : Nat) (s : S8), i ≤ 64 ∧ va = .int .u32 (s.a.toNat : Int) ∧ vb = .int .u32 (s.b.toNat : Int) ∧ vc = .int .u32 (s.c.toNat : Int) ∧ vd = .int .u32 (s.d.toNat : Int) ∧ ve = .int .u32 (s.e.toNat : Int) ∧ vf = .int .u32 (s.f.toNat : Int) ∧ vg = .int .u32 (s.g.toNat : Int) ∧ vh = .int .u32 (s.h.toNat : Int) ∧ v = .int .i64 i ∧ Hid (s = rounds ws h i) ∧ St S (.sl vw 96 1 64 (cF u32C ws) :: M) wr) (fun _ _ _ _ _ _ _ _ v _ => 64 - (intOf v).toNat)
          case atStart => exact ⟨0, h, by omega, rfl, rfl, rfl, rfl, rfl, rfl, rfl, rfl, rfl, Lib.hid rfl, hst⟩
          case round =>
            clear hst
            obtain ⟨i, s, hi, rfl, rfl, rfl, rfl, rfl, rfl, rfl, rfl, rfl, hs, hst⟩ := hrel
            by_cases hlt : i < 64
            · have hkl : i < kList.length := hlt
              have hkE := Lib.hid (getD_get hkl 0)
              repeat' (first | ((fail_if_success (go_big_may)); (go_step)) | (with_reducible refine Sl.gate rfl ?_; (go_step)))
              refine v_begin hst (by kernel_rfl) ?_; clear hst; intro ops; (try refine nY ?_)
              (refine t_qt 0 rfl (by kernel_rfl) rfl rfl (by exact qt_move evX) ?_) <;> (try refine nY ?_)
              (refine t_qt 1 rfl (by kernel_rfl) rfl rfl (by exact qt_move evX) ?_) <;> (try refine nY ?_)
              (refine t_call 2 rfl (by kernel_rfl) rfl (fun S' M' w hS hM hst => rotI_c w hst _ _ (by decide)) inX rfl ?_) <;> (try refine nY ?_)
              (refine t_qt 3 rfl (by kernel_rfl) rfl rfl (by exact qt_move evX) ?_) <;> (try refine nY ?_)
              (refine t_call 4 rfl (by kernel_rfl) rfl (fun S' M' w hS hM hst => rotI_c w hst _ _ (by decide)) inX rfl ?_) <;> (try refine nY ?_)
              (refine t_qt 5 rfl (by kernel_rfl) rfl rfl (by exact qt_xor32 rfl rfl) ?_) <;> (try refine nY ?_)
              (refine t_qt 6 rfl (by kernel_rfl) rfl rfl (by exact qt_move evX) ?_) <;> (try refine nY ?_)
              (refine t_call 7 rfl (by kernel_rfl) rfl (fun S' M' w hS hM hst => rotI_c w hst _ _ (by decide)) inX rfl ?_) <;> (try refine nY ?_)
              (refine t_qt 8 rfl (by kernel_rfl) rfl rfl (by exact qt_xor32 rfl rfl) ?_) <;> (try refine nY ?_)
              (refine t_qt 9 rfl (by kernel_rfl) rfl rfl (by exact qt_add32 rfl rfl) ?_) <;> (try refine nY ?_)
              (refine t_qt 10 rfl (by kernel_rfl) rfl rfl (by exact qt_move evX) ?_) <;> (try refine nY ?_)
              (refine t_qt 11 rfl (by kernel_rfl) rfl rfl (by exact qt_move evX) ?_) <;> (try refine nY ?_)
              (refine t_qt 12 rfl (by kernel_rfl) rfl rfl (by exact qt_and32 rfl rfl) ?_) <;> (try refine nY ?_)
              (refine t_qt 13 rfl (by kernel_rfl) rfl rfl (by exact qt_move evX) ?_) <;> (try refine nY ?_)
              (refine t_qt 14 rfl (by kernel_rfl) rfl rfl (qt_xorl32 rfl rfl) ?_) <;> (try refine nY ?_)
              (refine t_qt 15 rfl (by kernel_rfl) rfl rfl (by exact qt_move evX) ?_) <;> (try refine nY ?_)
              (refine t_qt 16 rfl (by kernel_rfl) rfl rfl (by exact qt_and32 rfl rfl) ?_) <;> (try refine nY ?_)
              (refine t_qt 17 rfl (by kernel_rfl) rfl rfl (by exact qt_xor32 rfl rfl) ?_) <;> (try refine nY ?_)
              (refine t_qt 18 rfl (by kernel_rfl) rfl rfl (by exact qt_add32 rfl rfl) ?_) <;> (try refine nY ?_)
              (refine t_qt 19 rfl (by kernel_rfl) rfl rfl (by exact qt_move evX) ?_) <;> (try refine nY ?_)
              (refine t_qt 20 rfl (by kernel_rfl) rfl rfl (by exact qt_move evX) ?_) <;> (try refine nY ?_)
              ((refine t_ex0 21 rfl (by kernel_rfl) rfl rfl (qt_index evX asX rfl inX inX omX omX) ?_; rintro v hp; (try simp only [Int.toNat_natCast, Int.toNat_natCast_add_one, Int.reduceToNat] at hp))) <;> (try refine nY ?_)
              (refine t_qt 22 rfl (by kernel_rfl) rfl rfl (by exact qt_ldp_u32 evX asX inX) ?_) <;> (try refine nY ?_)
              (refine t_qt 23 rfl (by kernel_rfl) rfl rfl (by exact qt_add32 rfl rfl) ?_) <;> (try refine nY ?_)
              (refine t_qt 24 rfl (by kernel_rfl) rfl rfl (by exact qt_move evX) ?_) <;> (try refine nY ?_)
              (refine t_qt 25 rfl (by kernel_rfl) rfl rfl (by exact qt_move evX) ?_) <;> (try refine nY ?_)
              ((refine t_ex 26 rfl (by kernel_rfl) rfl rfl (fun w hst => qt_index_own hst evX SlIn.h rfl inX inX omX omX) ?_; rintro v hp; (try simp only [Int.toNat_natCast, Int.toNat_natCast_add_one, Int.reduceToNat] at hp))) <;> (try refine nY ?_)
              (refine t_qt 27 rfl (by kernel_rfl) rfl rfl (by exact qt_ldU evX asX SlIn.h inX omX) ?_) <;> (try refine nY ?_)
              (refine t_qt 28 rfl (by kernel_rfl) rfl rfl (by exact qt_add32 rfl rfl) ?_) <;> (try refine nY ?_)
              (refine t_qt 29 rfl (by kernel_rfl) rfl rfl (by exact qt_assign evX) ?_) <;> (try refine nY ?_)
              refine v_done (by kernel_rfl) ?_; clear ops; intro w hst
              repeat' (first | (((with_reducible refine Sl.k_bin ?_; refine s_qt hst (by first | exact qt_xor32 rfl rfl | exact qt_and32 rfl rfl | exact qt_add32 rfl rfl) ?_)) <;> (try refine nY ?_)) | (((with_reducible refine Sl.k_call ?_; ((refine s_call (rotI_c _ hst _ _ (by decide)) inX rfl ?_; clear hst; rintro v w ⟨rfl, hst⟩)))) <;> (try refine nY ?_) <;> (try replace hst := nH hst)) | ((fail_if_success (go_big_may)); (go_step)) | (with_reducible refine Sl.gate rfl ?_; (go_step)))
              go_roundw
              case rel => exact ⟨i + 1, round1 s (kList.getD i 0) (ws.getD i 0), by omega, by rw [hkE.out, round1, ksT, ksU, rots3, rots3], rfl, rfl, rfl, by rw [hkE.out, round1, ksT, rots3], rfl, rfl, rfl, by go_num, Lib.hid (by rw [rounds, ← hs.out]), hst⟩
              case measure => simp [intOf]; omega
            · obtain rfl : i = 64 := by omega
              clear hi hlt
              repeat' (first | ((fail_if_success (go_big_may)); (go_step)) | (with_reducible refine Sl.gate rfl ?_; (go_step)))
              refine v_begin hst (by kernel_rfl) ?_; clear hst; intro ops; (try refine nY ?_)
              (refine t_qt 0 rfl (by kernel_rfl) rfl rfl (by exact qt_move evX) ?_) <;> (try refine nY ?_)
              ((refine t_ex0 1 rfl (by kernel_rfl) rfl rfl (qt_index evX asX rfl inX inX omX omX) ?_; rintro v hp; (try simp only [Int.toNat_natCast, Int.toNat_natCast_add_one, Int.reduceToNat] at hp))) <;> (try refine nY ?_)
              (refine t_qt 2 rfl (by kernel_rfl) rfl rfl (by exact qt_ldp_u32 evX asX inX) ?_) <;> (try refine nY ?_)
              (refine t_qt 3 rfl (by kernel_rfl) rfl rfl (by exact qt_move evX) ?_) <;> (try refine nY ?_)
              (refine t_qt 4 rfl (by kernel_rfl) rfl rfl (by exact qt_add32 rfl rfl) ?_) <;> (try refine nY ?_)
              (refine t_qt 5 rfl (by kernel_rfl) rfl rfl (by exact qt_move evX) ?_) <;> (try refine nY ?_)
              ((refine t_ex0 6 rfl (by kernel_rfl) rfl rfl (qt_index evX asX rfl inX inX omX omX) ?_; rintro v hp; (try simp only [Int.toNat_natCast, Int.toNat_natCast_add_one, Int.reduceToNat] at hp))) <;> (try refine nY ?_)
              (refine t_qt 7 rfl (by kernel_rfl) rfl rfl (by exact qt_ldp_u32 evX asX inX) ?_) <;> (try refine nY ?_)
              (refine t_qt 8 rfl (by kernel_rfl) rfl rfl (by exact qt_move evX) ?_) <;> (try refine nY ?_)
              (refine t_qt 9 rfl (by kernel_rfl) rfl rfl (by exact qt_add32 rfl rfl) ?_) <;> (try refine nY ?_)
              (refine t_qt 10 rfl (by kernel_rfl) rfl rfl (by exact qt_move evX) ?_) <;> (try refine nY ?_)
              ((refine t_ex0 11 rfl (by kernel_rfl) rfl rfl (qt_index evX asX rfl inX inX omX omX) ?_; rintro v hp; (try simp only [Int.toNat_natCast, Int.toNat_natCast_add_one, Int.reduceToNat] at hp))) <;> (try refine nY ?_)
              (refine t_qt 12 rfl (by kernel_rfl) rfl rfl (by exact qt_ldp_u32 evX asX inX) ?_) <;> (try refine nY ?_)
              (refine t_qt 13 rfl (by kernel_rfl) rfl rfl (by exact qt_move evX) ?_) <;> (try refine nY ?_)
              (refine t_qt 14 rfl (by kernel_rfl) rfl rfl (by exact qt_add32 rfl rfl) ?_) <;> (try refine nY ?_)
              (refine t_qt 15 rfl (by kernel_rfl) rfl rfl (by exact qt_move evX) ?_) <;> (try refine nY ?_)
              ((refine t_ex0 16 rfl (by kernel_rfl) rfl rfl (qt_index evX asX rfl inX inX omX omX) ?_; rintro v hp; (try simp only [Int.toNat_natCast, Int.toNat_natCast_add_one, Int.reduceToNat] at hp))) <;> (try refine nY ?_)
              (refine t_qt 17 rfl (by kernel_rfl) rfl rfl (by exact qt_ldp_u32 evX asX inX) ?_) <;> (try refine nY ?_)
              (refine t_qt 18 rfl (by kernel_rfl) rfl rfl (by exact qt_move evX) ?_) <;> (try refine nY ?_)
              (refine t_qt 19 rfl (by kernel_rfl) rfl rfl (by exact qt_add32 rfl rfl) ?_) <;> (try refine nY ?_)
              (refine t_qt 20 rfl (by kernel_rfl) rfl rfl (by exact qt_move evX) ?_) <;> (try refine nY ?_)
              ((refine t_ex0 21 rfl (by kernel_rfl) rfl rfl (qt_index evX asX rfl inX inX omX omX) ?_; rintro v hp; (try simp only [Int.toNat_natCast, Int.toNat_natCast_add_one, Int.reduceToNat] at hp))) <;> (try refine nY ?_)
              (refine t_qt 22 rfl (by kernel_rfl) rfl rfl (by exact qt_ldp_u32 evX asX inX) ?_) <;> (try refine nY ?_)
              (refine t_qt 23 rfl (by kernel_rfl) rfl rfl (by exact qt_move evX) ?_) <;> (try refine nY ?_)
              (refine t_qt 24 rfl (by kernel_rfl) rfl rfl (by exact qt_add32 rfl rfl) ?_) <;> (try refine nY ?_)
              (refine t_qt 25 rfl (by kernel_rfl) rfl rfl (by exact qt_move evX) ?_) <;> (try refine nY ?_)
              ((refine t_ex0 26 rfl (by kernel_rfl) rfl rfl (qt_index evX asX rfl inX inX omX omX) ?_; rintro v hp; (try simp only [Int.toNat_natCast, Int.toNat_natCast_add_one, Int.reduceToNat] at hp))) <;> (try refine nY ?_)
              (refine t_qt 27 rfl (by kernel_rfl) rfl rfl (by exact qt_ldp_u32 evX asX inX) ?_) <;> (try refine nY ?_)
              (refine t_qt 28 rfl (by kernel_rfl) rfl rfl (by exact qt_move evX) ?_) <;> (try refine nY ?_)
              (refine t_qt 29 rfl (by kernel_rfl) rfl rfl (by exact qt_add32 rfl rfl) ?_) <;> (try refine nY ?_)
              (refine t_qt 30 rfl (by kernel_rfl) rfl rfl (by exact qt_move evX) ?_) <;> (try refine nY ?_)
              ((refine t_ex0 31 rfl (by kernel_rfl) rfl rfl (qt_index evX asX rfl inX inX omX omX) ?_; rintro v hp; (try simp only [Int.toNat_natCast, Int.toNat_natCast_add_one, Int.reduceToNat] at hp))) <;> (try refine nY ?_)
              (refine t_qt 32 rfl (by kernel_rfl) rfl rfl (by exact qt_ldp_u32 evX asX inX) ?_) <;> (try refine nY ?_)
              (refine t_qt 33 rfl (by kernel_rfl) rfl rfl (by exact qt_move evX) ?_) <;> (try refine nY ?_)
              (refine t_qt 34 rfl (by kernel_rfl) rfl rfl (by exact qt_add32 rfl rfl) ?_) <;> (try refine nY ?_)
              (refine t_qt 35 rfl (by kernel_rfl) rfl rfl (by exact qt_move evX) ?_) <;> (try refine nY ?_)
              ((refine t_ex0 36 rfl (by kernel_rfl) rfl rfl (qt_index evX asX rfl inX inX omX omX) ?_; rintro v hp; (try simp only [Int.toNat_natCast, Int.toNat_natCast_add_one, Int.reduceToNat] at hp))) <;> (try refine nY ?_)
              (refine t_qt 37 rfl (by kernel_rfl) rfl rfl (by exact qt_ldp_u32 evX asX inX) ?_) <;> (try refine nY ?_)
              (refine t_qt 38 rfl (by kernel_rfl) rfl rfl (by exact qt_move evX) ?_) <;> (try refine nY ?_)
              (refine t_qt 39 rfl (by kernel_rfl) rfl rfl (by exact qt_add32 rfl rfl) ?_) <;> (try refine nY ?_)
              refine v_one 40 rfl (by kernel_rfl) ?_; intro w hst K hK; refine s_lit (vs := [.int .u32 ((h.a + s.a).toNat : Int), .int .u32 ((h.b + s.b).toNat : Int), .int .u32 ((h.c + s.c).toNat : Int), .int .u32 ((h.d + s.d).toNat : Int), .int .u32 ((h.e + s.e).toNat : Int), .int .u32 ((h.f + s.f).toNat : Int), .int .u32 ((h.g + s.g).toNat : Int), .int .u32 ((h.h + s.h).toNat : Int)]) hst inX inX rfl rfl (by simp [Value.cells]) rfl (by omega) (by omega) ?_; clear hst; intro x40 w hst; (try refine nY ?_); (try replace hst := nH hst); refine v_next hK hst (Snap.Le.refl _) (Suf.cons (Suf.refl _)) ?_; clear hst hK K; (try clear w); (try refine nY ?_)
              (refine t_qt 41 rfl (by kernel_rfl) rfl rfl (by exact qt_assign evX) ?_) <;> (try refine nY ?_)
              refine v_done (by kernel_rfl) ?_; clear ops; intro w hst
              repeat' (((fail_if_success (go_big_may)); (go_step)))
              go_ret
              refine ⟨_, rfl, ?_⟩
              have e : comp h blk = ⟨h.a + s.a, h.b + s.b, h.c + s.c, h.d + s.d, h.e + s.e, h.f + s.f, h.g + s.g, h.h + s.h⟩ := by
                rw [comp, ← hws.out, ← hs.out, add8]
                simp only [UInt32.add_comm]
              rw [e]
              exact hst.swap.drop
end Go.Proofs.YtjapdhaimbalkaaDoor

/- The reference's SHA-256: the hash of a byte sequence. -/
--@u32
--@hgp
--@flat
--@ex0
--@b8
namespace Go.Proofs.YtjapdhaimbalkaaDoor
set_option linter.unusedSimpArgs false
set_option linter.unusedVariables false
open Go.RowKit Go.Sl

def firstS : List UInt8 := [54, 97, 48, 57, 101, 54, 54, 55, 98, 98, 54, 55, 97, 101, 56, 53, 51, 99, 54, 101, 102, 51, 55, 50, 97, 53, 52, 102, 102, 53, 51, 97, 53, 49, 48, 101, 53, 50, 55, 102, 57, 98, 48, 53, 54, 56, 56, 99, 49, 102, 56, 51, 100, 57, 97, 98, 53, 98, 101, 48, 99, 100, 49, 57]
def cS0 : List UInt8 := [52, 50, 56, 97, 50, 102, 57, 56, 55, 49, 51, 55, 52, 52, 57, 49, 98, 53, 99, 48, 102, 98, 99, 102, 101, 57, 98, 53, 100, 98, 97, 53, 51, 57, 53, 54, 99, 50, 53, 98, 53, 57, 102, 49, 49, 49, 102, 49, 57, 50, 51, 102, 56, 50, 97, 52, 97, 98, 49, 99, 53, 101, 100, 53]
def cS1 : List UInt8 := [100, 56, 48, 55, 97, 97, 57, 56, 49, 50, 56, 51, 53, 98, 48, 49, 50, 52, 51, 49, 56, 53, 98, 101, 53, 53, 48, 99, 55, 100, 99, 51, 55, 50, 98, 101, 53, 100, 55, 52, 56, 48, 100, 101, 98, 49, 102, 101, 57, 98, 100, 99, 48, 54, 97, 55, 99, 49, 57, 98, 102, 49, 55, 52]
def cS2 : List UInt8 := [101, 52, 57, 98, 54, 57, 99, 49, 101, 102, 98, 101, 52, 55, 56, 54, 48, 102, 99, 49, 57, 100, 99, 54, 50, 52, 48, 99, 97, 49, 99, 99, 50, 100, 101, 57, 50, 99, 54, 102, 52, 97, 55, 52, 56, 52, 97, 97, 53, 99, 98, 48, 97, 57, 100, 99, 55, 54, 102, 57, 56, 56, 100, 97]
def cS3 : List UInt8 := [57, 56, 51, 101, 53, 49, 53, 50, 97, 56, 51, 49, 99, 54, 54, 100, 98, 48, 48, 51, 50, 55, 99, 56, 98, 102, 53, 57, 55, 102, 99, 55, 99, 54, 101, 48, 48, 98, 102, 51, 100, 53, 97, 55, 57, 49, 52, 55, 48, 54, 99, 97, 54, 51, 53, 49, 49, 52, 50, 57, 50, 57, 54, 55]
def cS4 : List UInt8 := [50, 55, 98, 55, 48, 97, 56, 53, 50, 101, 49, 98, 50, 49, 51, 56, 52, 100, 50, 99, 54, 100, 102, 99, 53, 51, 51, 56, 48, 100, 49, 51, 54, 53, 48, 97, 55, 51, 53, 52, 55, 54, 54, 97, 48, 97, 98, 98, 56, 49, 99, 50, 99, 57, 50, 101, 57, 50, 55, 50, 50, 99, 56, 53]
def cS5 : List UInt8 := [97, 50, 98, 102, 101, 56, 97, 49, 97, 56, 49, 97, 54, 54, 52, 98, 99, 50, 52, 98, 56, 98, 55, 48, 99, 55, 54, 99, 53, 49, 97, 51, 100, 49, 57, 50, 101, 56, 49, 57, 100, 54, 57, 57, 48, 54, 50, 52, 102, 52, 48, 101, 51, 53, 56, 53, 49, 48, 54, 97, 97, 48, 55, 48]
def cS6 : List UInt8 := [49, 57, 97, 52, 99, 49, 49, 54, 49, 101, 51, 55, 54, 99, 48, 56, 50, 55, 52, 56, 55, 55, 52, 99, 51, 52, 98, 48, 98, 99, 98, 53, 51, 57, 49, 99, 48, 99, 98, 51, 52, 101, 100, 56, 97, 97, 52, 97, 53, 98, 57, 99, 99, 97, 52, 102, 54, 56, 50, 101, 54, 102, 102, 51]
def cS7 : List UInt8 := [55, 52, 56, 102, 56, 50, 101, 101, 55, 56, 97, 53, 54, 51, 54, 102, 56, 52, 99, 56, 55, 56, 49, 52, 56, 99, 99, 55, 48, 50, 48, 56, 57, 48, 98, 101, 102, 102, 102, 97, 97, 52, 53, 48, 54, 99, 101, 98, 98, 101, 102, 57, 97, 51, 102, 55, 99, 54, 55, 49, 55, 56, 102, 50]
def constS : List UInt8 := (((cS0.append cS1).append (cS2.append cS3)).append ((cS4.append cS5).append (cS6.append cS7)))
theorem firstW : wordsL firstS 8 = s8Start.l := by decide +kernel
theorem constW : wordsL constS 64 = kList := by decide +kernel
theorem firstH : (∀ x ∈ firstS, isHex x) ∧ firstS.length = 64 := by decide +kernel
theorem constH : (∀ x ∈ constS, isHex x) ∧ constS.length = 512 := by decide +kernel

theorem out8_get (s : S8) {i : Nat} (h : i < 32) : (out8 s).getD i 0 = UInt8.ofNat (shr (s.l.getD (i / 4) 0) (24 - 8 * (i % 4))).toNat := by
  have key : ∀ (x : UInt32) (j : Nat), j < 4 → (be x.toNat 4).getD j 0 = UInt8.ofNat (shr x (24 - 8 * j)).toNat := by
    intro x j hj
    have e : ∀ k, (shr x (8 * k)).toNat = x.toNat / 256 ^ k := fun k => by
      show (x.toBitVec >>> (8 * k)).toNat = _
      rw [BitVec.toNat_ushiftRight, Nat.shiftRight_eq_div_pow, Nat.pow_mul]
      rfl
    match j, hj with
    | 0, _ => show UInt8.ofNat _ = _; rw [show 24 - 8 * 0 = 8 * 3 from rfl, e]
    | 1, _ => show UInt8.ofNat _ = _; rw [show 24 - 8 * 1 = 8 * 2 from rfl, e]
    | 2, _ => show UInt8.ofNat _ = _; rw [show 24 - 8 * 2 = 8 * 1 from rfl, e]
    | 3, _ => show UInt8.ofNat _ = _; rw [show 24 - 8 * 3 = 8 * 0 from rfl, e]
  have cat : ∀ (l : List UInt32) (i : Nat), i < 4 * l.length → (l.flatMap fun x => be x.toNat 4).getD i 0 = (be (l.getD (i / 4) 0).toNat 4).getD (i % 4) 0 := by
    intro l
    induction l with
    | nil => intro i h; simp at h
    | cons x r ih =>
      intro i h
      rw [List.flatMap_cons, List.getD_eq_getElem?_getD]
      by_cases h4 : i < 4
      · rw [List.getElem?_append_left (by rw [be_len]; exact h4), show i / 4 = 0 by omega, show i % 4 = i by omega]
        rfl
      · rw [List.getElem?_append_right (by rw [be_len]; omega), be_len, ← List.getD_eq_getElem?_getD, ih (i - 4) (by rw [List.length_cons] at h; omega), show i / 4 = (i - 4) / 4 + 1 by omega, show (i - 4) % 4 = i % 4 by omega]
        rfl
  rw [out8, cat _ _ (by show i < 4 * 8; omega)]
  exact key _ _ (Nat.mod_lt _ (by decide))

def outB (s : S8) (n : Nat) : List UInt8 := (out8 s).take n ++ List.replicate (32 - n) 0
theorem outB_len (s : S8) {n : Nat} (h : n ≤ 32) : (outB s n).length = 32 := by rw [outB, List.length_append, List.length_take, out8_len, List.length_replicate]; omega
theorem outB_succ (s : S8) {i : Nat} (h : i < 32) : (outB s i).set i ((out8 s).getD i 0) = outB s (i + 1) := by
  have hl : i < (out8 s).length := by rw [out8_len]; exact h
  have e : 32 - i = (32 - (i + 1)) + 1 := by omega
  have e2 : ((out8 s).take i).length = i := by rw [List.length_take]; omega
  rw [outB, outB, List.take_succ_eq_append_getElem hl, List.set_append, if_neg (by omega), e2, Nat.sub_self, e, List.replicate_succ, List.set_cons_zero, List.append_assoc, getD_get hl]
  rfl
theorem outB_all (s : S8) : outB s 32 = out8 s := by rw [outB, List.take_of_length_le (by rw [out8_len]; exact Nat.le_refl _)]; simp

set_option maxRecDepth 100000 in
set_option maxHeartbeats 4000000 in
theorem refSum_c {S M} (w : World) (hst : St S M w) (vb : Value) (b : List UInt8) (hb : RSl S vb b) (hm : b.length ≤ 8000000) :
    Rets Tryd.prog 81 [vb] w fun v w' => v = .agg (u8s (hash b)).toArray ∧ St S M w' := by
  unfold Rets
  have hpz : padZ b.length < 64 := Nat.mod_lt _ (by decide)
  have hb1 := hb.oneCell
  go_enter Tryd.func81, Tryd.ntmps81
  repeat' ((fail_if_success (with_reducible show Code.wp _ (Code.region 1 _ _) _ _ _)); first | ((fail_if_success (go_big_may)); (go_step)) | (((((refine s_alloc hst inX ?_; clear hst; intro bk w hst)))) <;> (try refine nY ?_) <;> (try replace hst := nH hst)))
  rename Nat => b2
  refine wp_region_lit ?_
  refine s_lit (vs := []) (cs := []) hst (by infer_instance) (by infer_instance) rfl rfl (by simp) rfl (by omega) (by omega) ?_
  clear hst; intro u w hst
  refine nY ?_
  repeat' (((fail_if_success (go_big_may)); (go_step)))
  refine s_append_data (k := 0) hst evX evX rfl hb (by infer_instance) (by infer_instance) (by infer_instance) (by first | (simp; done) | (simp at hm ⊢; omega)) (by first | (simp; done) | (simp at hm ⊢; omega)) (by decide) ?_
  clear hst; intro v' w c' hc hst
  rw [hc.eq_u8s] at hst
  simp only [List.set_cons_zero, List.nil_append, Nat.zero_add] at hst
  have hone0 := sl_one hst
  refine nY ?_
  repeat' (fail)
  refine s_lit (vs := [.int .u8 128]) hst inX inX rfl rfl (by simp [Value.cells]) rfl (by omega) (by omega) ?_
  clear hst; intro u w hst
  refine nY ?_
  repeat' (fail)
  refine s_append (j := 0) hst evX evX SlIn.h rfl inX inX inX (by simp [Value.cells, Value.oneCell']) (by omega) (by omega) (by decide) ?_
  clear hst; intro v' w hst
  refine nY ?_
  (try replace hst := nH hst)
  replace hst := hst.drop
  repeat' (((fail_if_success (go_big_may)); (go_step)))
  have hone := sl_one hst
  have hst : St S (.sl v' 5 1 (b ++ [128]).length (u8s (b ++ [128])) :: .box b2 (u8s (List.replicate 32 0)) 69 :: M) w := by
    rw [List.length_append, u8s_snoc]
    exact hst
  go_loopw [3] (fun v wr => ∃ (j : Nat) (c : List UInt8), j ≤ padZ b.length ∧ Hid (c = b ++ [128] ++ List.replicate j 0) ∧ (b.length + 1 + j ≤ c.length ∧ c.length ≤ b.length + 1 + j) ∧ v.oneCell' = true ∧ lenOf v = c.length ∧ St S (.sl v 5 1 c.length (u8s c) :: .box b2 (u8s (List.replicate 32 0)) 69 :: M) wr) (fun v _ => b.length + 65 - lenOf v)
  case atStart => exact ⟨0, _, by omega, Lib.hid (by simp), by simp, hone, sl_lenOf hst, hst⟩
  case round =>
    clear hst
    obtain ⟨j, c, hj, hc, hcl, hone, hlo, hst⟩ := hrel
    have Hlo := Lib.hid hlo
    clear hlo
    have hmod : ((c.length : Int) % 64 = 56 → padZ b.length ≤ j) ∧ (padZ b.length ≤ j → (c.length : Int) % 64 = 56) := by
      unfold padZ at hj ⊢
      omega
    by_cases hlt : j < padZ b.length
    · have h56 : ((c.length : Int) % 64 == 56) = false := beq_eq_false_iff_ne.2 (by omega)
      have h56' : ((c.length : Int) % 64 != 56) = true := bne_iff_ne.2 (by omega)
      clear hmod
      repeat' (first | ((fail_if_success (go_big_may)); (go_step)) | (((with_reducible refine Sl.k_call ?_; (refine s_qt hst (by exact qt_len_own evX SlIn.h inX) ?_))) <;> (try refine nY ?_)) | (with_reducible refine Sl.gate rfl ?_; (go_step)))
      refine s_lit (vs := [.int .u8 0]) hst inX inX rfl rfl (by simp [Value.cells]) rfl (by omega) (by omega) ?_
      clear hst; intro u w hst
      refine nY ?_
      repeat' (fail)
      refine s_append (j := 0) hst evX evX SlIn.h rfl inX inX inX (by simp [Value.cells, Value.oneCell']) (by omega) (by omega) (by decide) ?_
      clear hst; intro v' w hst
      refine nY ?_
      (try replace hst := nH hst)
      replace hst := hst.drop
      repeat' (((fail_if_success (go_big_may)); (go_step)))
      have hone' := sl_one hst
      have hlo' := sl_lenOf hst
      go_roundw
      case rel => exact ⟨j + 1, c ++ [0], by omega, Lib.hid (by rw [hc.out, List.append_assoc, List.append_assoc, List.append_assoc, ← List.replicate_succ']), by simp; omega, hone', by simpa using hlo', by rw [List.length_append, u8s_snoc]; exact hst⟩
      case measure =>
        have h1 := Hlo.out
        have h2 : lenOf v' = c.length + 1 := by simpa using hlo'
        show b.length + 65 - lenOf v' < b.length + 65 - lenOf _
        rw [h2]
        omega
    · have h56' : ((c.length : Int) % 64 != 56) = false := bne_eq_false_iff_eq.2 (by omega)
      clear hmod
      obtain rfl : j = padZ b.length := by omega
      repeat' (first | ((fail_if_success (go_big_may)); (go_step)) | (((with_reducible refine Sl.k_call ?_; (refine s_qt hst (by first | exact qt_len evX asX inX | exact qt_len_own evX SlIn.h inX) ?_))) <;> (try refine nY ?_)) | (with_reducible refine Sl.gate rfl ?_; (go_step)))
      obtain ⟨c0, hc0⟩ : ∃ c0 : List UInt8, c = c0 := ⟨c, rfl⟩
      have hpad : Hid (c ++ be (8 * b.length) 8 = pad b) := Lib.hid (by rw [hc.out]; rfl)
      have hlen0 : c.length ≤ 8000100 := by omega
      clear hlt hj hc hcl Hlo h56'
      go_loopw [3, 5] (fun va v wr => ∃ (j : Nat) (k : Int) (c2 : List UInt8), j ≤ 8 ∧ v = .int .i64 k ∧ k = (j : Int) - 1 ∧ Hid (c2 ++ be (8 * b.length) j = c ++ be (8 * b.length) 8) ∧ c2.length + j ≤ c.length + 8 ∧ va.oneCell' = true ∧ St S (.sl va 5 1 c2.length (u8s c2) :: .box b2 (u8s (List.replicate 32 0)) 69 :: M) wr) (fun _ v _ => (intOf v + 1).toNat)
      case atStart => exact ⟨8, _, c, by omega, rfl, by omega, Lib.hid rfl, by omega, hone, hst⟩
      case round =>
        clear hst hone
        obtain ⟨j, k, c2, hj, rfl, hk', hc2, hcl, hone, hst⟩ := hrel
        rcases Nat.eq_zero_or_pos j with rfl | hj0
        · obtain rfl : k = -1 := by omega
          clear hk'
          have e : c2 = pad b := by rw [← hpad.out, ← hc2.out]; simp [be]
          clear hpad hc2 hcl
          subst e
          have hpl : (pad b).length ≤ 16777216 := by rw [pad_len]; omega
          have hlen : Hid ((pad b).length = 64 * ((pad b).length / 64)) := Lib.hid (by have := pad_mod b; omega)
          repeat' (first | ((fail_if_success (go_big_may)); (go_step)) | (with_reducible refine Sl.gate rfl ?_; (go_step)))
          obtain ⟨S1, hS1, hst, hpv⟩ := lit_u8 (pad b) hst rfl rfl
          have hone1 := hpv.oneCell
          repeat' (first | (((with_reducible refine Sl.k_call ?_; ((refine s_call (words_c _ hst firstS 8 (by rw [firstH.2]; decide) firstH.1 (by rw [firstH.2]; decide)) inX rfl ?_; clear hst; rintro v w hst)))) <;> (try refine nY ?_) <;> (try replace hst := nH hst)) | ((fail_if_success (go_big_may)); (go_step)))
          rw [firstW] at hst
          obtain ⟨S2, hS2, hst, hvv⟩ := lit_u32 s8Start.l hst rfl rfl
          have hvv1 := hvv.oneCell
          repeat' (first | (((with_reducible refine Sl.k_call ?_; ((refine s_call (words_c _ hst constS 64 (by rw [constH.2]; decide) constH.1 (by rw [constH.2]; decide)) inX rfl ?_; clear hst; rintro v w hst)))) <;> (try refine nY ?_) <;> (try replace hst := nH hst)) | ((fail_if_success (go_big_may)); (go_step)))
          rw [constW] at hst
          obtain ⟨S3, hS3, hst, hvk⟩ := lit_u32 kList hst rfl rfl
          have hvk1 := hvk.oneCell
          have hpv3 := (hpv.mono hS2).mono hS3
          replace hvv := hvv.mono hS3
          have hSS := (hS1.trans hS2).trans hS3
          clear hpv hS1 hS2 hS3
          rename_i v6 _ _ v7 _
          repeat' (fail)
          go_loopw [6, 8] (fun v vi wr => ∃ (S' : Snap) (k m : Nat), Hid (m = 64 * k) ∧ m ≤ (pad b).length ∧ vi = .int .i64 (m : Int) ∧ S3.Le S' ∧ RSl S' v (blocks (pad b) k).l ∧ St S' (.box b2 (u8s (List.replicate 32 0)) 69 :: M) wr) (fun _ v _ => (pad b).length - (intOf v).toNat)
          case atStart => exact ⟨S3, 0, 0, Lib.hid rfl, by omega, rfl, Snap.Le.refl _, hvv, hst⟩
          case round =>
            clear hst hvv
            obtain ⟨S4, k, m, hmk, hk, rfl, hS4, hvv, hst⟩ := hrel
            have hpv4 := hpv3.mono hS4
            have hvk4 := hvk.mono hS4
            have hvv1 := hvv.oneCell
            by_cases hlt : m < (pad b).length
            · have hk1 : m + 64 ≤ (pad b).length := by have := hlen.out; have := hmk.out; omega
              repeat' (first | ((fail_if_success (go_big_may)); (go_step)) | (((with_reducible refine Sl.k_call ?_; (refine s_qt hst (by exact qt_len evX asX inX) ?_))) <;> (try refine nY ?_)) | (with_reducible refine Sl.gate rfl ?_; (go_step)))
              refine s_slice (a := m) (b := m + 64) evX hpv4 inX inX (.inr ⟨.i64, by simp [evF, nth]⟩) (.inr ⟨.i64, by simp [evF, nth]⟩) (.inl rfl) (by omega) (by omega) ?_
              intro vs hvs
              have hvs1 := hvs.oneCell
              refine nY ?_
              repeat' (first | (((with_reducible refine Sl.k_call ?_; ((refine s_call (refComp_c _ hst _ vs _ (blocks (pad b) k) _ hvv hvs hvk4 (by rw [List.length_take, List.length_drop]; omega)) inX rfl ?_; clear hst; rintro v w hst)))) <;> (try refine nY ?_) <;> (try replace hst := nH hst)) | ((fail_if_success (go_big_may)); (go_step)) | (with_reducible refine Sl.gate rfl ?_; (go_step)))
              obtain ⟨S5, hS5, hst, hnv⟩ := lit_u32 (comp (blocks (pad b) k) (((pad b).drop m).take (m + 64 - m))).l hst rfl rfl
              have hnv1 := hnv.oneCell
              repeat' (fail)
              go_roundw
              case rel => exact ⟨S5, k + 1, m + 64, Lib.hid (by rw [hmk.out]; omega), hk1, by go_num, hS4.trans hS5, by rw [blocks, ← hmk.out]; rw [Nat.add_sub_cancel_left] at hnv; exact hnv, hst⟩
              case measure => simp [intOf]; omega
            · have hkN : k = (pad b).length / 64 := by have := hlen.out; have := hmk.out; omega
              obtain ⟨s8, hs8⟩ : ∃ s8, blocks (pad b) ((pad b).length / 64) = s8 := ⟨_, rfl⟩
              rw [hkN, hs8] at hvv
              have H8 : Hid (hash b = out8 s8) := Lib.hid (by rw [hash, hs8])
              have hwl : 8 ≤ s8.l.length := Nat.le_refl 8
              clear hs8 hkN
              repeat' (first | ((fail_if_success (go_big_may)); (go_step)) | (((with_reducible refine Sl.k_call ?_; (refine s_qt hst (by exact qt_len evX asX inX) ?_))) <;> (try refine nY ?_)) | (with_reducible refine Sl.gate rfl ?_; (go_step)) | ((((first | (with_reducible refine Sl.k_store ?_; (refine s_store hst rfl _ BoxIn.h inX evX rfl lenOk oneOk (by simp) ?_); clear hst; intro w hst) | (refine s_alloc hst inX ?_; clear hst; intro bk w hst)))) <;> (try refine nY ?_) <;> (try replace hst := nH hst)))
              have hst : St S4 (.box bk (u8s (outB s8 0)) 69 :: .box b2 (u8s (List.replicate 32 0)) 69 :: M) w := hst
              rename Nat => b9
              go_loopw [10] (fun v wr => ∃ (i : Nat) (c : List UInt8), i ≤ 32 ∧ v = .int .i64 i ∧ Hid (c = outB s8 i) ∧ (32 ≤ c.length ∧ c.length ≤ 32) ∧ St S4 (.box b9 (u8s c) 69 :: .box b2 (u8s (List.replicate 32 0)) 69 :: M) wr) (fun v _ => 32 - (intOf v).toNat)
              case atStart => exact ⟨0, _, by omega, rfl, Lib.hid rfl, by rw [outB_len _ (by omega)]; omega, hst⟩
              case round =>
                clear hst
                obtain ⟨i, c, hi, rfl, hc, hcl, hst⟩ := hrel
                by_cases hlt : i < 32
                · have hE := Lib.hid (outB_succ s8 hlt)
                  have hF := Lib.hid (out8_get s8 hlt)
                  have hG := Lib.hid (getD_get (l := s8.l) (i := i / 4) (by omega) 0)
                  repeat' (first | ((first | (with_reducible (refine Sl.k_conv ?_; refine s_qt hst (qt_conv328 rfl inX inX) ?_)) | (with_reducible refine Sl.k_bin ?_; refine s_qt hst (by exact qt_shr32 rfl rfl omX) ?_)) <;> (try refine nY ?_)) | ((fail_if_success (go_big_may)); (go_step)) | ((first | (with_reducible refine Sl.k_load ?_; (refine s_qt hst (by exact qt_ldp_u32 evX asX inX) ?_)) | (with_reducible refine Sl.k_index ?_; (first | refine s_qt hst (qt_indexA rfl rfl inX inX omX omX) ?_ | ((refine s_ex hst (qt_index evX asX rfl inX inX omX omX) ?_); rintro v hp; (try simp only [Int.toNat_natCast, Int.toNat_natCast_add_one, Int.reduceToNat] at hp))))) <;> (try refine nY ?_)) | (with_reducible refine Sl.gate rfl ?_; (go_step)) | (((((with_reducible refine Sl.k_store ?_; (refine s_stB8 hst rfl BoxIn.h inX evX omX ?_); clear hst; intro w hst)))) <;> (try refine nY ?_) <;> (try replace hst := nH hst)))
                  have e1 : ((i : Int) / 4).toNat = i / 4 := by omega
                  have e2 : (24 - 8 * ((i : Int) % 4)).toNat = 24 - 8 * (i % 4) := by omega
                  simp only [e1, e2] at hst
                  go_roundw
                  case rel => exact ⟨i + 1, _, by omega, by go_num, Lib.hid (by rw [hc.out, ← hE.out, hF.out, hG.out]), by rw [List.length_set]; exact hcl, hst⟩
                  case measure => simp [intOf]; omega
                · obtain rfl : i = 32 := by omega
                  obtain rfl : c = hash b := by rw [hc.out, H8.out, outB_all]
                  haveI : LenIs (hash b) 32 := ⟨hash_len b⟩
                  repeat' (first | ((fail_if_success (go_big_may)); (go_step)) | (((with_reducible refine Sl.k_load ?_; (refine s_qt hst (by exact qt_loadA evX BoxIn.h inX rfX) ?_))) <;> (try refine nY ?_)) | (with_reducible refine Sl.gate rfl ?_; (go_step)))
                  refine s_stD hst rfl BoxIn.h inX evX inX lenX ?_
                  clear hst; intro w hst
                  (try refine nY ?_)
                  (try replace hst := nH hst)
                  repeat' (((fail_if_success (go_big_may)); (go_step)))
                  exact ret_D rfl hst rfl BoxIn.h inX inX ⟨_, rfl, rfl, St.weaken (hSS.trans hS4) hst.drop.drop⟩
        · obtain ⟨i, rfl⟩ : ∃ i, j = i + 1 := ⟨j - 1, by omega⟩
          obtain rfl : k = (i : Int) := by omega
          clear hk'
          repeat' (first | ((fail_if_success (go_big_may)); (go_step)) | (with_reducible refine Sl.gate rfl ?_; (go_step)))
          refine s_lit (vs := [.int .u8 ((8 * (b.length : Int)) / 2 ^ (8 * i) % 256)]) hst inX inX rfl rfl (by simp [Value.cells]) rfl (by omega) (by omega) ?_
          clear hst; intro u w hst
          refine nY ?_
          repeat' (fail)
          refine s_append (j := 0) hst evX evX SlIn.h rfl inX inX inX (by simp [Value.cells, Value.oneCell']) (by omega) (by omega) (by decide) ?_
          clear hst; intro v' w hst
          refine nY ?_
          (try replace hst := nH hst)
          replace hst := hst.drop
          repeat' (first | ((fail_if_success (go_big_may)); (go_step)) | (with_reducible refine Sl.gate rfl ?_; (go_step)))
          have h3 := sl_one hst
          go_roundw
          case rel => exact ⟨i, _, c2 ++ [UInt8.ofNat (8 * b.length / 256 ^ i)], by omega, rfl, by omega, Lib.hid (by rw [← hc2.out, be_succ]; simp), by simp; omega, h3, by rw [List.length_append, u8s_snoc, ← shr_byte]; exact hst⟩
          case measure => simp [intOf]
end Go.Proofs.YtjapdhaimbalkaaDoor

/- The reference's digests. -/
--@u32
--@hgp
--@flat
--@ex0
--@b8
--@dg
namespace Go.Proofs.YtjapdhaimbalkaaDoor
set_option linter.unusedSimpArgs false
set_option linter.unusedVariables false
open Go.RowKit Go.Sl

def takeB (h : List UInt8) (n : Nat) : List UInt8 := h.take n ++ List.replicate (16 - n) 0
theorem takeB_len {h : List UInt8} (hl : h.length = 32) {n : Nat} (hn : n ≤ 16) : (takeB h n).length = 16 := by rw [takeB, List.length_append, List.length_take, List.length_replicate]; omega
theorem takeB_succ {h : List UInt8} (hl : h.length = 32) {i : Nat} (hi : i < 16) : (takeB h i).set i (h.getD i 0) = takeB h (i + 1) := by
  have hl2 : i < h.length := by omega
  have e : 16 - i = (16 - (i + 1)) + 1 := by omega
  have e2 : (h.take i).length = i := by rw [List.length_take]; omega
  rw [takeB, takeB, List.take_succ_eq_append_getElem hl2, List.set_append, if_neg (by omega), e2, Nat.sub_self, e, List.replicate_succ, List.set_cons_zero, List.append_assoc, getD_get hl2]
  rfl
theorem takeB_all (h : List UInt8) : takeB h 16 = h.take 16 := by rw [takeB]; simp

set_option maxRecDepth 8000 in
set_option maxHeartbeats 400000 in
theorem refShort_c {S M} (w : World) (hst : St S M w) (h : List UInt8) (hl : h.length = 32) :
    Rets Tryd.prog 80 [.agg (u8s h).toArray] w fun v w' => v = .agg (u8s (h.take 16)).toArray ∧ St S M w' := by
  unfold Rets
  have hll : 32 ≤ h.length := by omega
  go_enter Tryd.func80, Tryd.ntmps80
  repeat' (first | ((fail_if_success (go_big_may)); (go_step)) | (with_reducible refine Sl.gate rfl ?_; (go_step)) | ((((first | (with_reducible refine Sl.k_store ?_; (refine s_store hst rfl _ BoxIn.h inX evX rfl lenOk oneOk (by simp) ?_); clear hst; intro w hst) | (refine s_box hst evX rfl ?_; clear hst; intro bx w hst) | (refine s_alloc hst inX ?_; clear hst; intro bk w hst)))) <;> (try refine nY ?_) <;> (try replace hst := nH hst)))
  rename_i b3 _ _ _ _
  have hst : St S (.box bk (u8s (takeB h 0)) 32 :: .box b3 (u8s (List.replicate 16 0)) 32 :: .box bx (u8s h) 69 :: M) w := hst
  go_loopw [4] (fun v wr => ∃ (i : Nat) (c : List UInt8), i ≤ 16 ∧ v = .int .i64 i ∧ Hid (c = takeB h i) ∧ (16 ≤ c.length ∧ c.length ≤ 16) ∧ St S (.box bk (u8s c) 32 :: .box b3 (u8s (List.replicate 16 0)) 32 :: .box bx (u8s h) 69 :: M) wr) (fun v _ => 16 - (intOf v).toNat)
  case atStart => exact ⟨0, _, by omega, rfl, Lib.hid rfl, by rw [takeB_len hl (by omega)]; omega, hst⟩
  case round =>
    clear hst
    obtain ⟨i, c, hi, rfl, hc, hcl, hst⟩ := hrel
    by_cases hlt : i < 16
    · have hE := Lib.hid (takeB_succ hl hlt)
      clear hl
      repeat' (first | ((fail_if_success (go_big_may)); (go_step)) | ((first | (with_reducible refine Sl.k_load ?_; (refine s_qt hst (by exact qt_ldB8 evX BoxIn.h inX omX) ?_)) | (with_reducible refine Sl.k_index ?_; (refine s_qt hst (qt_indexA rfl rfl inX inX omX omX) ?_))) <;> (try refine nY ?_)) | (with_reducible refine Sl.gate rfl ?_; (go_step)) | (((((with_reducible refine Sl.k_store ?_; (refine s_stB8 hst rfl BoxIn.h inX evX omX ?_); clear hst; intro w hst)))) <;> (try refine nY ?_) <;> (try replace hst := nH hst)))
      go_roundw
      case rel => exact ⟨i + 1, _, by omega, by go_num, Lib.hid (by rw [hc.out, ← hE.out]), by rw [List.length_set]; exact hcl, hst⟩
      case measure => simp [intOf]; omega
    · obtain rfl : i = 16 := by omega
      obtain rfl : c = h.take 16 := by rw [hc.out, takeB_all]
      haveI : LenIs (h.take 16) 16 := ⟨by rw [List.length_take]; omega⟩
      repeat' (first | ((fail_if_success (go_big_may)); (go_step)) | (((with_reducible refine Sl.k_load ?_; (refine s_qt hst (by exact qt_loadD evX BoxIn.h inX inX) ?_))) <;> (try refine nY ?_)) | (with_reducible refine Sl.gate rfl ?_; (go_step)) | (((((with_reducible refine Sl.k_store ?_; (refine s_stD hst rfl BoxIn.h inX evX inX lenX ?_); clear hst; intro w hst)))) <;> (try refine nY ?_) <;> (try replace hst := nH hst)))
      exact ret_D rfl hst rfl BoxIn.h inX inX ⟨_, rfl, rfl, hst.drop.drop.drop⟩

set_option maxRecDepth 8000 in
set_option maxHeartbeats 400000 in
theorem refDigest_c {S M} (w : World) (hst : St S M w) (tag : Int) (h0 : 0 ≤ tag ∧ tag ≤ 255) (vp : Value) (parts : List (List UInt8)) (hp : RSl S vp parts) (hs : sizeB parts ≤ 1048576) :
    Rets Tryd.prog 51 [.int .i64 tag, vp] w fun v w' => v = .agg (u8s (dig tag parts)).toArray ∧ St S M w' := by
  unfold Rets
  obtain ⟨t, rfl⟩ : ∃ t : Nat, tag = t := ⟨tag.toNat, by omega⟩
  have ht : [Value.int .u8 (t : Int)] = u8s [UInt8.ofNat t] := by
    simp only [u8s, List.map_cons, List.map_nil, UInt8.toNat_ofNat']
    congr 2
    omega
  have hpn : parts.length ≤ 1048576 := by unfold sizeB at hs; omega
  go_enter Tryd.func51, Tryd.ntmps51
  repeat' (first | ((fail_if_success (go_big_may)); (go_step)) | (with_reducible refine Sl.gate rfl ?_; (go_step)) | (((((refine s_alloc hst inX ?_; clear hst; intro bk w hst)))) <;> (try refine nY ?_) <;> (try replace hst := nH hst)))
  refine s_lit (vs := [.int .u8 (t : Int)]) hst inX inX rfl rfl (by simp [Value.cells]) rfl (by omega) (by omega) ?_
  clear hst; intro x w hst
  have hst : St S (.sl x 5 1 [UInt8.ofNat t].length (u8s [UInt8.ofNat t]) :: .box bk (u8s (List.replicate 16 0)) 32 :: M) w := by rw [← ht]; exact hst
  have hx1 := sl_one hst
  refine nY ?_
  repeat' (((fail_if_success (go_big_may)); (go_step)))
  go_loopw [5, 6] (fun u v wr => ∃ (i : Nat) (c : List UInt8), i ≤ parts.length ∧ v = .int .i64 i ∧ Hid (c = [UInt8.ofNat t] ++ joinB (parts.take i)) ∧ c.length ≤ 1 + sizeB parts ∧ u.oneCell' = true ∧ St S (.sl u 5 1 c.length (u8s c) :: .box bk (u8s (List.replicate 16 0)) 32 :: M) wr) (fun _ v _ => parts.length - (intOf v).toNat)
  case atStart => exact ⟨0, _, Nat.zero_le _, rfl, Lib.hid (by simp [joinB]), Nat.le_add_right 1 _, hx1, hst⟩
  case round =>
    clear hst
    obtain ⟨i, c, hi, rfl, hc, hcl, hone, hst⟩ := hrel
    by_cases hlt : i < parts.length
    · have hpl := sizeB_mem (List.getElem_mem hlt)
      have hcn : (c ++ encB parts[i]).length ≤ 1 + sizeB parts := by
        have h1 := joinB_len (parts.take (i + 1))
        have h2 := sizeB_take parts (i + 1)
        have e : c ++ encB parts[i] = [UInt8.ofNat t] ++ joinB (parts.take (i + 1)) := by
          rw [hc.out, List.take_succ_eq_append_getElem hlt, joinB, joinB, List.flatMap_append, List.append_assoc]
          simp
        rw [e, List.length_append]
        simp only [List.length_cons, List.length_nil]
        omega
      rw [List.length_append] at hcn
      repeat' (first | (((with_reducible refine Sl.k_conv ?_; refine s_stringI hst evX asX inX inX inX ?_)) <;> (try refine nY ?_)) | (((with_reducible refine Sl.k_call ?_; ((refine s_call (refBytes_c _ hst parts[i] (by omega)) inX rfl ?_; clear hst; rintro v w hst)))) <;> (try refine nY ?_) <;> (try replace hst := nH hst)) | ((fail_if_success (go_big_may)); (go_step)) | ((first | (with_reducible refine Sl.k_load ?_; ((refine s_ex hst (qt_ldp_list evX asX inX) ?_; rintro v ⟨hvl, hv1⟩))) | (with_reducible refine Sl.k_index ?_; (((refine s_ex hst (qt_index evX asX rfl inX inX omX omX) ?_); rintro v hp; (try simp only [Int.toNat_natCast, Int.toNat_natCast_add_one, Int.reduceToNat] at hp)))) | (with_reducible refine Sl.k_call ?_; (refine s_qt hst (by exact qt_len evX asX inX) ?_))) <;> (try refine nY ?_)) | (with_reducible refine Sl.gate rfl ?_; (go_step)))
      refine s_append (j := 0) hst evX evX SlIn.h rfl inX inX inX (u8s_one _) (by omega) (by omega) (by decide) ?_
      clear hst; intro v' w hst
      (try refine nY ?_)
      (try replace hst := nH hst)
      replace hst := hst.drop
      repeat' (first | ((fail_if_success (go_big_may)); (go_step)) | (with_reducible refine Sl.gate rfl ?_; (go_step)))
      have hone' := sl_one hst
      go_roundw
      case rel =>
        refine ⟨i + 1, c ++ encB parts[i], by omega, by go_num, Lib.hid ?_, by rw [List.length_append]; exact hcn, hone', ?_⟩
        · rw [hc.out, List.take_succ_eq_append_getElem hlt, joinB, joinB, List.flatMap_append, List.append_assoc]
          simp
        · rw [u8s_append, List.length_append]
          exact hst
      case measure => simp [intOf]; omega
    · rw [List.take_of_length_le (l := parts) (i := i) (by omega)] at hc
      obtain ⟨S1, hS1, hst, hv⟩ := lit_u8 c hst rfl rfl
      have hv1 := hv.oneCell
      replace hp := hp.mono hS1
      have hdg : Hid ((hash c).take 16 = dig (t : Int) parts) := Lib.hid (by rw [hc.out, dig]; rfl)
      haveI : LenIs ((hash c).take 16) 16 := ⟨by rw [List.length_take, hash_len]; rfl⟩
      repeat' (first | (((with_reducible refine Sl.k_call ?_; (first | (refine s_call (refSum_c _ hst _ c hv (by omega)) inX rfl ?_; clear hst; rintro v w ⟨rfl, hst⟩) | (refine s_call (refShort_c _ hst _ (hash_len _)) inX rfl ?_; clear hst; rintro v w ⟨rfl, hst⟩)))) <;> (try refine nY ?_) <;> (try replace hst := nH hst)) | ((fail_if_success (go_big_may)); (go_step)) | (((with_reducible refine Sl.k_call ?_; (refine s_qt hst (by exact qt_len evX asX inX) ?_))) <;> (try refine nY ?_)) | (with_reducible refine Sl.gate rfl ?_; (go_step)) | (((((with_reducible refine Sl.k_store ?_; (refine s_stD hst rfl BoxIn.h inX evX inX lenX ?_); clear hst; intro w hst)))) <;> (try refine nY ?_) <;> (try replace hst := nH hst)))
      exact ret_D rfl hst rfl BoxIn.h inX inX ⟨_, rfl, by rw [hdg.out], St.weaken hS1 hst.drop⟩
end Go.Proofs.YtjapdhaimbalkaaDoor

/- The reference's Merkle trees: roots. -/
--@opt
--@u32
--@hgp
--@flat
--@dg
namespace Go.Proofs.YtjapdhaimbalkaaDoor
set_option linter.unusedSimpArgs false
set_option linter.unusedVariables false
open Go.RowKit Go.Sl

theorem refDigestG {S M} (w : World) (hst : St S M w) (_hG : Glob S) (tag : Int) (h0 : 0 ≤ tag ∧ tag ≤ 255) (vp : Value) (parts : List (List UInt8)) (hp : RSl S vp parts) (hs : sizeB parts ≤ 1048576) :
    Rets Tryd.prog 51 [.int .i64 tag, vp] w fun v w' => v = .agg (u8s (dig tag parts)).toArray ∧ St S M w' := refDigest_c w hst tag h0 vp parts hp hs

set_option maxRecDepth 8000 in
set_option maxHeartbeats 400000 in
theorem refSplit_c {S M} (w : World) (hst : St S M w) (n : Nat) (h2 : 2 ≤ n) (hm : n ≤ 1048576) :
    Rets Tryd.prog 57 [.int .i64 (n : Int)] w fun v w' => v = .int .i64 (splitM n : Nat) ∧ St S M w' := by
  unfold Rets
  go_enter Tryd.func57, Tryd.ntmps57
  repeat' (((fail_if_success (go_big_may)); (go_step)))
  go_loopw [3] (fun v wr => ∃ (k : Nat), 1 ≤ k ∧ k < n ∧ v = .int .i64 k ∧ Hid (splitF n n k = splitM n) ∧ St S M wr) (fun v _ => n - (intOf v).toNat)
  case atStart => exact ⟨1, by omega, by omega, rfl, Lib.hid rfl, hst⟩
  case round =>
    clear hst
    obtain ⟨k, h1, hk, rfl, hs, hst⟩ := hrel
    by_cases hlt : 2 * k < n
    · repeat' (first | ((fail_if_success (go_big_may)); (go_step)) | (with_reducible refine Sl.gate rfl ?_; (go_step)))
      go_roundw
      case rel => exact ⟨2 * k, by omega, hlt, by go_num, Lib.hid (by rw [← hs.out, splitF_go n n k hlt (by omega)]; exact splitF_more _ _ _ _ (by omega) (by omega) (by omega)), hst⟩
      case measure => simp [intOf]; omega
    · repeat' (first | ((fail_if_success (go_big_may)); (go_step)) | (with_reducible refine Sl.gate rfl ?_; (go_step)))
      go_ret
      refine ⟨_, rfl, ?_, hst⟩
      rw [← hs.out, splitF_stop hlt]
      rfl

set_option maxRecDepth 8000 in
set_option maxHeartbeats 400000 in
theorem refLeaf_c {S M} (w : World) (hst : St S M w) (hG : Glob S) (d : Dg) (hd : d.l.length = 16) :
    Rets Tryd.prog 56 [dgV d] w fun v w' => v = dgV (leafM d) ∧ St S M w' := by
  unfold Rets
  go_enter Tryd.func56, Tryd.ntmps56
  repeat' ((fail_if_success (with_reducible show Code.wp _ (Code.region 1 _ _) _ _ _)); first | ((fail_if_success (go_big_may)); (go_step)) | ((((first | (refine s_box hst evX rfl ?_; clear hst; intro bx w hst) | (refine s_alloc hst inX ?_; clear hst; intro bk w hst)))) <;> (try refine nY ?_) <;> (try replace hst := nH hst)))
  obtain ⟨S1, hS1, hst, hpd⟩ := dg_box hst.swap hd
  refine wp_region_lit ?_
  refine s_ex hst (qt_arrSliceP (a := 0) (b := 16) evX hpd inX inX (.inl ⟨rfl, rfl⟩) (.inl ⟨rfl, rfl⟩) (by omega) (by omega) (by unfold maxLen; omega)) ?_
  rintro v hv
  rw [List.drop_zero, List.take_of_length_le (by omega)] at hv
  have hv1 := hv.oneCell
  refine nY ?_
  refine s_lit (vs := [v]) hst inX inX rfl rfl (by simp [cells_size1 hv1]) rfl (by omega) (by omega) ?_
  clear hst; intro x w hst
  simp only [List.map_cons, List.map_nil, cells_one hv1, List.flatten_cons, List.flatten_nil, List.append_nil] at hst
  obtain ⟨S2, hS2, hst, hx⟩ := lit_p1 hst hv
  refine nY ?_
  repeat' (first | (((with_reducible refine Sl.k_call ?_; ((refine s_call (refDigestG _ hst ((hG.mono hS1).mono hS2) 1 (by omega) _ _ hx (by simp [sizeB]; omega)) inX rfl ?_; clear hst; rintro v w ⟨rfl, hst⟩)))) <;> (try refine nY ?_) <;> (try replace hst := nH hst)) | ((fail_if_success (go_big_may)); (go_step)) | (((((with_reducible refine Sl.k_store ?_; (refine s_stD hst rfl BoxIn.h inX evX inX lenX ?_); clear hst; intro w hst)))) <;> (try refine nY ?_) <;> (try replace hst := nH hst)))
  exact ret_D rfl hst rfl BoxIn.h inX inX ⟨_, rfl, rfl, St.weaken (hS1.trans hS2) hst.drop⟩

set_option maxRecDepth 8000 in
set_option maxHeartbeats 400000 in
theorem refNode_c {S M} (w : World) (hst : St S M w) (hG : Glob S) (a b : Dg) (ha : a.l.length = 16) (hb : b.l.length = 16) :
    Rets Tryd.prog 58 [dgV a, dgV b] w fun v w' => v = dgV (nodeM a b) ∧ St S M w' := by
  unfold Rets
  go_enter Tryd.func58, Tryd.ntmps58
  repeat' ((fail_if_success (with_reducible show Code.wp _ (Code.region 1 _ _) _ _ _)); first | ((fail_if_success (go_big_may)); (go_step)) | ((((first | (refine s_box hst evX rfl ?_; clear hst; intro bx w hst) | (refine s_alloc hst inX ?_; clear hst; intro bk w hst)))) <;> (try refine nY ?_) <;> (try replace hst := nH hst)))
  obtain ⟨S1, hS1, hst, hpb⟩ := dg_box (hst.perm (List.Perm.swap _ _ _)) hb
  obtain ⟨S2, hS2, hst, hpa⟩ := dg_box hst.swap ha
  replace hpb := hpb.mono hS2
  have hG2 := (hG.mono hS1).mono hS2
  refine v_begin hst (by kernel_rfl) ?_; clear hst; intro ops; (try refine nY ?_)
  ((refine t_ex 0 rfl (by kernel_rfl) rfl rfl (fun w hst => qt_arrSliceP (a := 0) (b := 16) evX hpa inX inX (.inl ⟨rfl, rfl⟩) (.inl ⟨rfl, rfl⟩) (by omega) (by omega) (by unfold maxLen; omega) ) ?_; rintro  v5 hv5)) <;> (try refine nY ?_)
  ((refine t_ex 1 rfl (by kernel_rfl) rfl rfl (fun w hst => qt_arrSliceP (a := 0) (b := 16) evX hpb inX inX (.inl ⟨rfl, rfl⟩) (.inl ⟨rfl, rfl⟩) (by omega) (by omega) (by unfold maxLen; omega) ) ?_; rintro  v6 hv6)) <;> (try refine nY ?_)
  refine v_one 2 rfl (by kernel_rfl) ?_; intro w hst K hK; (rw [List.drop_zero, List.take_of_length_le (by omega)] at hv5 hv6; refine s_lit (vs := [v5, v6]) hst inX inX rfl rfl (by simp [cells_size1 hv5.oneCell, cells_size1 hv6.oneCell]) rfl (by omega) (by omega) ?_; clear hst; intro x2 w hst; simp only [List.map_cons, List.map_nil, cells_one hv5.oneCell, cells_one hv6.oneCell, List.flatten_cons, List.flatten_nil, List.append_nil, List.cons_append, List.nil_append] at hst; obtain ⟨S3, hS3, hst, hx⟩ := lit_p2 hst hv5 hv6); (try refine nY ?_); (try replace hst := nH hst); refine v_next hK hst hS3 (Suf.refl _) ?_; clear hst hK K; (try clear w); (try refine nY ?_)
  (refine t_call 3 rfl (by kernel_rfl) rfl (fun S' M' w hS hM hst => refDigestG w hst ((hG2.mono hS3).mono hS) 2 (by omega) _ _ (hx.mono hS) (by simp [sizeB]; omega)) inX rfl ?_) <;> (try refine nY ?_)
  refine v_one 4 rfl (by kernel_rfl) ?_; intro w hst K hK; (refine s_stD hst rfl BoxIn.h inX evX inX lenX ?_); clear hst; intro w hst; (try refine nY ?_); (try replace hst := nH hst); refine v_last hK hst ?_; clear hst hK K; (try clear w); (try refine nY ?_)
  refine v_done (by kernel_rfl) ?_; clear ops; intro w hst
  repeat' (((fail_if_success (go_big_may)); (go_step)))
  exact ret_D rfl hst rfl BoxIn.h inX inX ⟨_, rfl, rfl, St.weaken ((hS1.trans hS2).trans hS3) hst.drop⟩

set_option maxRecDepth 8000 in
set_option maxHeartbeats 400000 in
theorem refRoot0_c {S M} (w : World) (hst : St S M w) (hG : Glob S) (vl : Value) (l : List Dg) (hl : RSl S vl l) (h0 : l.length = 0) :
    Rets Tryd.prog 52 [vl] w fun v w' => v = dgV (rootM l) ∧ St S M w' := by
  unfold Rets
  obtain rfl := List.eq_nil_of_length_eq_zero h0
  have hnil : RSl S (.slice none 0 0) ([] : List (List UInt8)) := .inl ⟨none, 0, rfl, rfl, by unfold maxLen; omega⟩
  go_enter Tryd.func52, Tryd.ntmps52
  repeat' (first | (((with_reducible refine Sl.k_call ?_; ((refine s_call (refDigestG _ hst hG 1 (by omega) _ _ hnil (by simp [sizeB])) inX rfl ?_; clear hst; rintro v w ⟨rfl, hst⟩)))) <;> (try refine nY ?_) <;> (try replace hst := nH hst)) | ((fail_if_success (go_big_may)); (go_step)) | (((with_reducible refine Sl.k_call ?_; (refine s_qt hst (by exact qt_len evX asX inX) ?_))) <;> (try refine nY ?_)) | (with_reducible refine Sl.gate rfl ?_; (go_step)) | ((((first | (with_reducible refine Sl.k_store ?_; (refine s_stD hst rfl BoxIn.h inX evX inX lenX ?_); clear hst; intro w hst) | (refine s_alloc hst inX ?_; clear hst; intro bk w hst)))) <;> (try refine nY ?_) <;> (try replace hst := nH hst)))
  exact ret_D rfl hst rfl BoxIn.h inX inX ⟨_, rfl, rfl, hst.drop⟩

set_option maxRecDepth 8000 in
set_option maxHeartbeats 400000 in
theorem refRoot1_c {S M} (w : World) (hst : St S M w) (hG : Glob S) (vl : Value) (l : List Dg) (hl : RSl S vl l) (h1 : l.length = 1) :
    Rets Tryd.prog 52 [vl] w fun v w' => v = dgV (rootM l) ∧ St S M w' := by
  unfold Rets
  have h11 : 1 ≤ l.length ∧ l.length ≤ 1 := by omega
  have h0l : 0 < l.length := by omega
  clear h1
  have hd := hl.dgs (l[0]'h0l) (List.getElem_mem h0l)
  have hE : Hid (rootM l = leafM (l[0]'h0l)) := Lib.hid (by
    obtain ⟨d, rfl⟩ := List.length_eq_one_iff.1 (show l.length = 1 by omega)
    rfl)
  go_enter Tryd.func52, Tryd.ntmps52
  repeat' (first | (((with_reducible refine Sl.k_call ?_; ((refine s_call (refLeaf_c _ hst hG l[0] hd) inX rfl ?_; clear hst; rintro v w ⟨rfl, hst⟩)))) <;> (try refine nY ?_) <;> (try replace hst := nH hst)) | ((fail_if_success (go_big_may)); (go_step)) | ((first | (with_reducible refine Sl.k_load ?_; (refine s_qt hst (by exact qt_ldp_flat evX asX inX inX rfl) ?_)) | (with_reducible refine Sl.k_index ?_; (((refine s_ex hst (qt_index evX asX rfl inX inX omX omX) ?_); rintro v hp; (try simp only [Int.toNat_natCast, Int.toNat_natCast_add_one, Int.reduceToNat] at hp)))) | (with_reducible refine Sl.k_call ?_; (refine s_qt hst (by exact qt_len evX asX inX) ?_))) <;> (try refine nY ?_)) | (with_reducible refine Sl.gate rfl ?_; (go_step)) | ((((first | (with_reducible refine Sl.k_store ?_; (refine s_stD hst rfl BoxIn.h inX evX inX lenX ?_); clear hst; intro w hst) | (refine s_alloc hst inX ?_; clear hst; intro bk w hst)))) <;> (try refine nY ?_) <;> (try replace hst := nH hst)))
  exact ret_D rfl hst rfl BoxIn.h inX inX ⟨_, rfl, by rw [hE.out], hst.drop⟩

set_option maxRecDepth 8000 in
set_option maxHeartbeats 1000000 in
theorem refRoot_c : ∀ (m : Nat) {S M} (w : World) (_hst : St S M w) (_hG : Glob S) (vl : Value) (l : List Dg) (_hl : RSl S vl l) (_hm : l.length ≤ m) (_hm2 : m ≤ 1048576),
    Rets Tryd.prog 52 [vl] w fun v w' => v = dgV (rootM l) ∧ St S M w' := by
  intro m
  induction m with
  | zero => exact fun w hst hG vl l hl h0 h1 => refRoot0_c w hst hG vl l hl (by omega)
  | succ m ih =>
    intro S M w hst hG vl l hl hm hm2
    by_cases h0 : l.length = 0
    · exact refRoot0_c w hst hG vl l hl h0
    · by_cases h1 : l.length = 1
      · exact refRoot1_c w hst hG vl l hl h1
      · have h2 : 2 ≤ l.length := by omega
        obtain ⟨hs1, hs2⟩ := splitM_spec h2
        have hE := Lib.hid (rootM_two h2)
        have hlen1 : (l.take (splitM l.length)).length ≤ m := by rw [List.length_take]; omega
        have hlen2 : (l.drop (splitM l.length)).length ≤ m := by rw [List.length_drop]; omega
        have hsp := fun {S M} (w : World) (hst : St S M w) => refSplit_c w hst l.length h2 (by omega)
        have hl20 : l.length ≤ 1048576 := by omega
        have e9 : (l.drop (splitM l.length)).take (l.length - splitM l.length) = l.drop (splitM l.length) := List.take_of_length_le (by rw [List.length_drop]; exact Nat.le_refl _)
        have E9 := Lib.hid e9
        clear h0 h1 e9
        generalize hk : splitM l.length = k at *
        have Hk := Lib.hid hk
        clear hk
        unfold Rets
        go_enter Tryd.func52, Tryd.ntmps52
        repeat' (first | (((with_reducible refine Sl.k_call ?_; ((refine s_call (hsp _ hst) inX rfl ?_; clear hst; rintro v w ⟨rfl, hst⟩)))) <;> (try refine nY ?_) <;> (try replace hst := nH hst)) | ((fail_if_success (go_big_may)); (go_step)) | (((with_reducible refine Sl.k_call ?_; (refine s_qt hst (by exact qt_len evX asX inX) ?_))) <;> (try refine nY ?_)) | (with_reducible refine Sl.gate rfl ?_; (go_step)) | (((((refine s_alloc hst inX ?_; clear hst; intro bk w hst)))) <;> (try refine nY ?_) <;> (try replace hst := nH hst)))
        refine v_begin hst (by kernel_rfl) ?_; clear hst; intro ops; (try refine nY ?_)
        (refine t_qt 0 rfl (by kernel_rfl) rfl rfl (by exact qt_move evX) ?_) <;> (try refine nY ?_)
        (refine t_qt 1 rfl (by kernel_rfl) rfl rfl (by exact qt_move evX) ?_) <;> (try refine nY ?_)
        ((refine t_ex 2 rfl (by kernel_rfl) rfl rfl (fun w hst => qt_slice (a := 0) (b := k) evX hl inX inX (.inl ⟨rfl, rfl⟩) (.inr ⟨.i64, by simp [evF, nth]⟩) (.inl rfl) (by omega) (by omega) ) ?_; rintro  v2 hv2)) <;> (try refine nY ?_)
        (refine t_call 3 rfl (by kernel_rfl) rfl (fun S' M' w hS hM hst => ih w hst (hG.mono hS) v2 (l.take k) (hv2.mono hS) hlen1 (by omega)) inX rfl ?_) <;> (try refine nY ?_)
        (refine t_qt 4 rfl (by kernel_rfl) rfl rfl (by exact qt_move evX) ?_) <;> (try refine nY ?_)
        (refine t_qt 5 rfl (by kernel_rfl) rfl rfl (by exact qt_move evX) ?_) <;> (try refine nY ?_)
        ((refine t_ex 6 rfl (by kernel_rfl) rfl rfl (fun w hst => qt_slice (a := k) (b := l.length) evX hl inX inX (.inr ⟨.i64, by simp [evF, nth]⟩) (.inl ⟨rfl, rfl⟩) (.inl rfl) (by omega) (by omega) ) ?_; rintro  v6 hv6)) <;> (try refine nY ?_)
        (refine t_call 7 rfl (by kernel_rfl) rfl (fun S' M' w hS hM hst => ih w hst (hG.mono hS) v6 (l.drop k) (by have := hv6.mono hS; rwa [E9.out] at this) hlen2 (by omega)) inX rfl ?_) <;> (try refine nY ?_)
        (refine t_call 8 rfl (by kernel_rfl) rfl (fun S' M' w hS hM hst => refNode_c w hst (hG.mono hS) _ _ (rootM_len _) (rootM_len _)) inX rfl ?_) <;> (try refine nY ?_)
        refine v_one 9 rfl (by kernel_rfl) ?_; intro w hst K hK; (refine s_stD hst rfl BoxIn.h inX evX inX lenX ?_); clear hst; intro w hst; (try refine nY ?_); (try replace hst := nH hst); refine v_last hK hst ?_; clear hst hK K; (try clear w); (try refine nY ?_)
        refine v_done (by kernel_rfl) ?_; clear ops; intro w hst
        repeat' (((fail_if_success (go_big_may)); (go_step)))
        exact ret_D rfl hst rfl BoxIn.h inX inX ⟨_, rfl, by rw [hE.out], hst.drop⟩
end Go.Proofs.YtjapdhaimbalkaaDoor

/- Package merkle: the sanity function of the law, walked. -/
--@opt
--@u32
--@hgp
--@flat
--@dg
--@ex0
namespace Go.Proofs.YtjapdhaimbalkaaDoor
set_option linter.unusedSimpArgs false
set_option linter.unusedVariables false
open Go.RowKit Go.Sl

theorem dA_len : dA.l.length = 16 := rfl
theorem dB_len : dB.l.length = 16 := rfl
theorem dC_len : dC.l.length = 16 := rfl
theorem dLeft_len : dLeft.l.length = 16 := nodeM_len _ _
theorem dRoot_len : dRoot.l.length = 16 := nodeM_len _ _
instance lenA : LenIs dA.l 16 := ⟨rfl⟩
instance lenB : LenIs dB.l 16 := ⟨rfl⟩
instance lenC : LenIs dC.l 16 := ⟨rfl⟩

end Go.Proofs.YtjapdhaimbalkaaDoor

/- Package merkle: plain mathematics of the statements MerkleSound, MerkleBinding and MerkleTampered; what the reference's functions compute. -/
namespace Go.Proofs.YtjapdhaimbalkaaDoor
set_option linter.unusedSimpArgs false
set_option linter.unusedVariables false
open Go.RowKit Go.Sl

def zeroD : Dg := ⟨List.replicate 16 0⟩
/-- The last element. -/
def lastD (p : List Dg) : Dg := p.getD (p.length - 1) zeroD
def initD (p : List Dg) : List Dg := p.take (p.length - 1)
theorem init_last {p : List Dg} (h : p ≠ []) : initD p ++ [lastD p] = p := by
  have hl : p.length - 1 < p.length := by have := List.length_pos_iff.2 h; omega
  rw [initD, lastD, List.getD_eq_getElem?_getD, List.getElem?_eq_getElem hl]
  have := List.take_succ_eq_append_getElem hl
  rw [show p.length - 1 + 1 = p.length by omega, List.take_length] at this
  exact this.symm
theorem init_len (p : List Dg) : (initD p).length = p.length - 1 := by rw [initD, List.length_take]; omega

def combF : Nat → Nat → Nat → Dg → List Dg → Dg × Bool
  | 0, _, _, leaf, proof => (leafM leaf, decide (proof.length = 0))
  | f + 1, n, i, leaf, proof => if n = 1 then (leafM leaf, decide (proof.length = 0)) else if proof.length = 0 then (zeroD, false) else
    if i < splitM n then (nodeM (combF f (splitM n) i leaf (initD proof)).1 (lastD proof), (combF f (splitM n) i leaf (initD proof)).2)
    else (nodeM (lastD proof) (combF f (n - splitM n) (i - splitM n) leaf (initD proof)).1, (combF f (n - splitM n) (i - splitM n) leaf (initD proof)).2)
def combM (n i : Nat) (leaf : Dg) (proof : List Dg) : Dg × Bool := combF n n i leaf proof
theorem combF_more : ∀ (f g n i : Nat) (leaf : Dg) (proof : List Dg), 1 ≤ n → n ≤ f → n ≤ g → combF f n i leaf proof = combF g n i leaf proof
  | 0, _, n, _, _, _, h, h1, _ => by omega
  | _ + 1, 0, n, _, _, _, h, _, h2 => by omega
  | f + 1, g + 1, n, i, leaf, proof, h, h1, h2 => by
    unfold combF
    by_cases hn : n = 1
    · rw [if_pos hn, if_pos hn]
    · have hs := splitM_spec (n := n) (by omega)
      rw [if_neg hn, if_neg hn, combF_more f g (splitM n) i leaf _ (by omega) (by omega) (by omega), combF_more f g (n - splitM n) (i - splitM n) leaf _ (by omega) (by omega) (by omega)]
theorem combM_one (i : Nat) (leaf : Dg) (proof : List Dg) : combM 1 i leaf proof = (leafM leaf, decide (proof.length = 0)) := rfl
theorem combM_nil {n i : Nat} (h : 2 ≤ n) (leaf : Dg) {proof : List Dg} (h0 : proof.length = 0) : combM n i leaf proof = (zeroD, false) := by
  obtain ⟨m, rfl⟩ : ∃ m, n = m + 1 := ⟨n - 1, by omega⟩
  rw [combM, combF, if_neg (by omega), if_pos h0]
theorem combM_left {n i : Nat} (h : 2 ≤ n) (leaf : Dg) {proof : List Dg} (h0 : proof.length ≠ 0) (hi : i < splitM n) :
    combM n i leaf proof = (nodeM (combM (splitM n) i leaf (initD proof)).1 (lastD proof), (combM (splitM n) i leaf (initD proof)).2) := by
  have hs := splitM_spec h
  obtain ⟨m, hm⟩ : ∃ m, n = m + 1 := ⟨n - 1, by omega⟩
  have e : combF n n i leaf proof = (nodeM (combF m (splitM n) i leaf (initD proof)).1 (lastD proof), (combF m (splitM n) i leaf (initD proof)).2) := by
    subst hm
    rw [combF, if_neg (by omega), if_neg h0, if_pos hi]
  rw [combM, e, combM, combF_more m (splitM n) _ _ _ _ (by omega) (by omega) (Nat.le_refl _)]
theorem combM_right {n i : Nat} (h : 2 ≤ n) (leaf : Dg) {proof : List Dg} (h0 : proof.length ≠ 0) (hi : ¬ i < splitM n) :
    combM n i leaf proof = (nodeM (lastD proof) (combM (n - splitM n) (i - splitM n) leaf (initD proof)).1, (combM (n - splitM n) (i - splitM n) leaf (initD proof)).2) := by
  have hs := splitM_spec h
  obtain ⟨m, hm⟩ : ∃ m, n = m + 1 := ⟨n - 1, by omega⟩
  have e : combF n n i leaf proof = (nodeM (lastD proof) (combF m (n - splitM n) (i - splitM n) leaf (initD proof)).1, (combF m (n - splitM n) (i - splitM n) leaf (initD proof)).2) := by
    subst hm
    rw [combF, if_neg (by omega), if_neg h0, if_neg hi]
  rw [combM, e, combM, combF_more m (n - splitM n) _ _ _ _ (by omega) (by omega) (Nat.le_refl _)]

theorem combM_spec : ∀ (m n i : Nat) (leaf : Dg) (proof : List Dg), 1 ≤ n → i < n → n ≤ m → (combM n i leaf proof).2 = decide ((sidesM n i).length = proof.length) ∧ ((sidesM n i).length = proof.length → (combM n i leaf proof).1 = foldV (sidesM n i) leaf proof)
  | 0, n, _, _, _, h, _, h2 => by omega
  | m + 1, n, i, leaf, proof, h, hi, hm => by
    by_cases h1 : n = 1
    · subst h1
      rw [combM_one, sidesM_one (by omega)]
      refine ⟨by simp [eq_comm], fun e => ?_⟩
      have : proof = [] := List.eq_nil_of_length_eq_zero e.symm
      subst this
      rfl
    · have h2 : 2 ≤ n := by omega
      have hs := splitM_spec h2
      by_cases h0 : proof.length = 0
      · rw [combM_nil h2 leaf h0]
        by_cases hk : i < splitM n
        · rw [sidesM_left h2 hk]; simp [h0]
        · rw [sidesM_right h2 hk]; simp [h0]
      · have hp : proof ≠ [] := fun e => h0 (by rw [e]; rfl)
        have hil := init_len proof
        by_cases hk : i < splitM n
        · obtain ⟨a, b⟩ := combM_spec m (splitM n) i leaf (initD proof) hs.1 hk (by omega)
          rw [combM_left h2 leaf h0 hk, sidesM_left h2 hk]
          simp only [List.length_cons]
          refine ⟨by rw [a]; exact decide_eq_decide.2 (by omega), fun e => ?_⟩
          have e2 : (sidesM (splitM n) i).length = (initD proof).length := by omega
          conv => rhs; rw [← init_last hp]
          rw [foldV_snoc _ _ _ _ _ e2, b e2]
          rfl
        · obtain ⟨a, b⟩ := combM_spec m (n - splitM n) (i - splitM n) leaf (initD proof) (by omega) (by omega) (by omega)
          rw [combM_right h2 leaf h0 hk, sidesM_right h2 hk]
          simp only [List.length_cons]
          refine ⟨by rw [a]; exact decide_eq_decide.2 (by omega), fun e => ?_⟩
          have e2 : (sidesM (n - splitM n) (i - splitM n)).length = (initD proof).length := by omega
          conv => rhs; rw [← init_last hp]
          rw [foldV_snoc _ _ _ _ _ e2, b e2]
          rfl
/-- The reference's answer is ours. -/
theorem verify_comb {root : Dg} {n i : Nat} {leaf : Dg} {proof : List Dg} (hi : i < n) : verifyM root n i leaf proof = ((combM n i leaf proof).2 && decide ((combM n i leaf proof).1 = root)) := by
  obtain ⟨a, b⟩ := combM_spec n n i leaf proof (by omega) hi (Nat.le_refl _)
  rw [verifyM, decide_eq_true hi, Bool.true_and, a]
  by_cases e : (sidesM n i).length = proof.length
  · rw [b e]
  · simp [e]

/-! ### The reference's search for collisions -/
def collF : Nat → List Dg → Nat → Dg → List Dg → Bool
  | 0, _, _, _, _ => false
  | f + 1, l, i, leaf, proof =>
    if l.length = 1 then decide (l.getD 0 zeroD ≠ leaf) && decide (leafM (l.getD 0 zeroD) = leafM leaf)
    else if proof.length = 0 then false
    else if i < splitM l.length then
      (if ((combM (splitM l.length) i leaf (initD proof)).1 ≠ rootM (l.take (splitM l.length)) ∨ lastD proof ≠ rootM (l.drop (splitM l.length))) ∧ nodeM (combM (splitM l.length) i leaf (initD proof)).1 (lastD proof) = nodeM (rootM (l.take (splitM l.length))) (rootM (l.drop (splitM l.length))) then true
      else collF f (l.take (splitM l.length)) i leaf (initD proof))
    else
      (if (lastD proof ≠ rootM (l.take (splitM l.length)) ∨ (combM (l.length - splitM l.length) (i - splitM l.length) leaf (initD proof)).1 ≠ rootM (l.drop (splitM l.length))) ∧ nodeM (lastD proof) (combM (l.length - splitM l.length) (i - splitM l.length) leaf (initD proof)).1 = nodeM (rootM (l.take (splitM l.length))) (rootM (l.drop (splitM l.length))) then true
      else collF f (l.drop (splitM l.length)) (i - splitM l.length) leaf (initD proof))
/-- What is found, or the leaf is the one at the index. -/
theorem coll_sound : ∀ (m : Nat) (l : List Dg) (i : Nat) (leaf : Dg) (proof : List Dg), l.length ≤ m → i < l.length → combM l.length i leaf proof = (rootM l, true) → leaf = l.getD i zeroD ∨ collF m l i leaf proof = true
  | 0, l, _, _, _, h, hi, _ => by omega
  | m + 1, l, i, leaf, proof, h, hi, hc => by
    unfold collF
    by_cases h1 : l.length = 1
    · obtain ⟨d, rfl⟩ := List.length_eq_one_iff.1 h1
      obtain rfl : i = 0 := by simpa using hi
      have e : leafM leaf = leafM d := congrArg Prod.fst hc
      rw [if_pos h1]
      show leaf = d ∨ (decide (d ≠ leaf) && decide (leafM d = leafM leaf)) = true
      by_cases hd : leaf = d
      · exact .inl hd
      · exact .inr (by simp [e, Ne.symm (a := leaf) hd])
    · have h2 : 2 ≤ l.length := by omega
      have hs := splitM_spec h2
      rw [if_neg h1]
      by_cases h0 : proof.length = 0
      · rw [combM_nil h2 leaf h0] at hc
        exact absurd (congrArg Prod.snd hc) (by simp)
      rw [if_neg h0]
      by_cases hk : i < splitM l.length
      · rw [combM_left h2 leaf h0 hk] at hc
        have e1 := congrArg Prod.fst hc
        have e2 := congrArg Prod.snd hc
        simp only at e1 e2
        rw [rootM_two h2] at e1
        rw [if_pos hk]
        split
        · exact .inr rfl
        · rename_i hn
          have hn1 : (combM (splitM l.length) i leaf (initD proof)).1 = rootM (l.take (splitM l.length)) := Classical.byContradiction fun hne => hn ⟨.inl hne, e1⟩
          have hl : (l.take (splitM l.length)).length = splitM l.length := by rw [List.length_take]; omega
          have := coll_sound m (l.take (splitM l.length)) i leaf (initD proof) (by omega) (by omega) (by rw [hl]; exact Prod.ext hn1 e2)
          rwa [List.getD_eq_getElem?_getD, List.getElem?_take_of_lt hk, ← List.getD_eq_getElem?_getD] at this
      · rw [combM_right h2 leaf h0 hk] at hc
        have e1 := congrArg Prod.fst hc
        have e2 := congrArg Prod.snd hc
        simp only at e1 e2
        rw [rootM_two h2] at e1
        rw [if_neg hk]
        split
        · exact .inr rfl
        · rename_i hn
          have hn1 : (combM (l.length - splitM l.length) (i - splitM l.length) leaf (initD proof)).1 = rootM (l.drop (splitM l.length)) := Classical.byContradiction fun hne => hn ⟨.inr hne, e1⟩
          have hl : (l.drop (splitM l.length)).length = l.length - splitM l.length := by rw [List.length_drop]
          have := coll_sound m (l.drop (splitM l.length)) (i - splitM l.length) leaf (initD proof) (by omega) (by omega) (by rw [hl]; exact Prod.ext hn1 e2)
          rwa [List.getD_eq_getElem?_getD, List.getElem?_drop, show splitM l.length + (i - splitM l.length) = i by omega, ← List.getD_eq_getElem?_getD] at this
def collM (l : List Dg) (i : Nat) (leaf : Dg) (proof : List Dg) : Bool := collF l.length l i leaf proof
theorem collF_more : ∀ (f g : Nat) (l : List Dg) (i : Nat) (leaf : Dg) (proof : List Dg), 1 ≤ l.length → l.length ≤ f → l.length ≤ g → collF f l i leaf proof = collF g l i leaf proof
  | 0, _, l, _, _, _, h, h1, _ => by omega
  | _ + 1, 0, l, _, _, _, h, _, h2 => by omega
  | f + 1, g + 1, l, i, leaf, proof, h, h1, h2 => by
    unfold collF
    by_cases hn : l.length = 1
    · rw [if_pos hn, if_pos hn]
    · have hs := splitM_spec (n := l.length) (by omega)
      have e1 : (l.take (splitM l.length)).length = splitM l.length := by rw [List.length_take]; omega
      have e2 : (l.drop (splitM l.length)).length = l.length - splitM l.length := by rw [List.length_drop]
      rw [if_neg hn, if_neg hn, collF_more f g (l.take (splitM l.length)) i leaf _ (by omega) (by omega) (by omega), collF_more f g (l.drop (splitM l.length)) (i - splitM l.length) leaf _ (by omega) (by omega) (by omega)]
theorem collM_left {l : List Dg} {i : Nat} {leaf : Dg} {proof : List Dg} (h : 2 ≤ l.length) (h0 : proof.length ≠ 0) (hi : i < splitM l.length) : collM l i leaf proof =
    (if ((combM (splitM l.length) i leaf (initD proof)).1 ≠ rootM (l.take (splitM l.length)) ∨ lastD proof ≠ rootM (l.drop (splitM l.length))) ∧ nodeM (combM (splitM l.length) i leaf (initD proof)).1 (lastD proof) = nodeM (rootM (l.take (splitM l.length))) (rootM (l.drop (splitM l.length))) then true
      else collM (l.take (splitM l.length)) i leaf (initD proof)) := by
  have hs := splitM_spec h
  have e1 : (l.take (splitM l.length)).length = splitM l.length := by rw [List.length_take]; omega
  obtain ⟨m, hm⟩ : ∃ m, l.length = m + 1 := ⟨l.length - 1, by omega⟩
  rw [collM, collM, collF_more _ m (l.take (splitM l.length)) i leaf _ (by omega) (Nat.le_refl _) (by omega)]
  conv => lhs; rw [hm, collF]
  rw [if_neg (by omega), if_neg h0, if_pos hi]
theorem collM_right {l : List Dg} {i : Nat} {leaf : Dg} {proof : List Dg} (h : 2 ≤ l.length) (h0 : proof.length ≠ 0) (hi : ¬ i < splitM l.length) : collM l i leaf proof =
    (if (lastD proof ≠ rootM (l.take (splitM l.length)) ∨ (combM (l.length - splitM l.length) (i - splitM l.length) leaf (initD proof)).1 ≠ rootM (l.drop (splitM l.length))) ∧ nodeM (lastD proof) (combM (l.length - splitM l.length) (i - splitM l.length) leaf (initD proof)).1 = nodeM (rootM (l.take (splitM l.length))) (rootM (l.drop (splitM l.length))) then true
      else collM (l.drop (splitM l.length)) (i - splitM l.length) leaf (initD proof)) := by
  have hs := splitM_spec h
  have e1 : (l.drop (splitM l.length)).length = l.length - splitM l.length := by rw [List.length_drop]
  obtain ⟨m, hm⟩ : ∃ m, l.length = m + 1 := ⟨l.length - 1, by omega⟩
  rw [collM, collM, collF_more _ m (l.drop (splitM l.length)) _ leaf _ (by omega) (Nat.le_refl _) (by omega)]
  conv => lhs; rw [hm, collF]
  rw [if_neg (by omega), if_neg h0, if_neg hi]
theorem collM_nil {l : List Dg} {i : Nat} {leaf : Dg} {proof : List Dg} (h : 2 ≤ l.length) (h0 : proof.length = 0) : collM l i leaf proof = false := by
  obtain ⟨m, hm⟩ : ∃ m, l.length = m + 1 := ⟨l.length - 1, by omega⟩
  rw [collM, hm, collF, if_neg (by omega), if_pos h0]
theorem collM_one {l : List Dg} {i : Nat} {leaf : Dg} {proof : List Dg} (h : l.length = 1) : collM l i leaf proof = (decide (l.getD 0 zeroD ≠ leaf) && decide (leafM (l.getD 0 zeroD) = leafM leaf)) := by
  rw [collM, h, collF, if_pos h]
theorem sound_law {l : List Dg} {i : Nat} {leaf : Dg} {proof : List Dg} (hi : i < l.length) (h : verifyM (rootM l) l.length i leaf proof = true) : (decide (leaf = l[i]) || collM l i leaf proof) = true := by
  rw [verify_comb hi, Bool.and_eq_true, decide_eq_true_eq] at h
  rcases coll_sound l.length l i leaf proof (Nat.le_refl _) hi (Prod.ext h.2 h.1) with e | e
  · rw [List.getD_eq_getElem?_getD, List.getElem?_eq_getElem hi] at e
    rw [e]
    simp
  · rw [collM, e]; simp

def diffF : Nat → List Dg → List Dg → Bool
  | 0, _, _ => false
  | f + 1, a, b =>
    if a.length = 0 then false
    else if a.length = 1 then decide (a.getD 0 zeroD ≠ b.getD 0 zeroD) && decide (leafM (a.getD 0 zeroD) = leafM (b.getD 0 zeroD))
    else if (rootM (a.take (splitM a.length)) ≠ rootM (b.take (splitM a.length)) ∨ rootM (a.drop (splitM a.length)) ≠ rootM (b.drop (splitM a.length))) ∧ nodeM (rootM (a.take (splitM a.length))) (rootM (a.drop (splitM a.length))) = nodeM (rootM (b.take (splitM a.length))) (rootM (b.drop (splitM a.length))) then true
    else diffF f (a.take (splitM a.length)) (b.take (splitM a.length)) || diffF f (a.drop (splitM a.length)) (b.drop (splitM a.length))
def diffM (a b : List Dg) : Bool := diffF a.length a b
theorem diffF_more : ∀ (f g : Nat) (a b : List Dg), a.length ≤ f → a.length ≤ g → diffF f a b = diffF g a b
  | 0, 0, _, _, _, _ => rfl
  | 0, g + 1, a, b, h, _ => by rw [diffF, diffF, if_pos (by omega)]
  | f + 1, 0, a, b, _, h => by rw [diffF, diffF, if_pos (by omega)]
  | f + 1, g + 1, a, b, h1, h2 => by
    unfold diffF
    by_cases h0 : a.length = 0
    · rw [if_pos h0, if_pos h0]
    by_cases hn : a.length = 1
    · rw [if_neg h0, if_neg h0, if_pos hn, if_pos hn]
    · have hs := splitM_spec (n := a.length) (by omega)
      have e1 : (a.take (splitM a.length)).length = splitM a.length := by rw [List.length_take]; omega
      have e2 : (a.drop (splitM a.length)).length = a.length - splitM a.length := by rw [List.length_drop]
      rw [if_neg h0, if_neg h0, if_neg hn, if_neg hn, diffF_more f g (a.take (splitM a.length)) _ (by omega) (by omega), diffF_more f g (a.drop (splitM a.length)) _ (by omega) (by omega)]
theorem diffM_one {a b : List Dg} (h : a.length = 1) : diffM a b = (decide (a.getD 0 zeroD ≠ b.getD 0 zeroD) && decide (leafM (a.getD 0 zeroD) = leafM (b.getD 0 zeroD))) := by
  rw [diffM, h, diffF, if_neg (by omega), if_pos h]
theorem diffM_nil {a b : List Dg} (h : a.length = 0) : diffM a b = false := by
  rw [diffM, h]; rfl
theorem diffM_two {a b : List Dg} (h : 2 ≤ a.length) : diffM a b =
    (if (rootM (a.take (splitM a.length)) ≠ rootM (b.take (splitM a.length)) ∨ rootM (a.drop (splitM a.length)) ≠ rootM (b.drop (splitM a.length))) ∧ nodeM (rootM (a.take (splitM a.length))) (rootM (a.drop (splitM a.length))) = nodeM (rootM (b.take (splitM a.length))) (rootM (b.drop (splitM a.length))) then true
    else diffM (a.take (splitM a.length)) (b.take (splitM a.length)) || diffM (a.drop (splitM a.length)) (b.drop (splitM a.length))) := by
  have hs := splitM_spec h
  have e1 : (a.take (splitM a.length)).length = splitM a.length := by rw [List.length_take]; omega
  have e2 : (a.drop (splitM a.length)).length = a.length - splitM a.length := by rw [List.length_drop]
  obtain ⟨m, hm⟩ : ∃ m, a.length = m + 1 := ⟨a.length - 1, by omega⟩
  rw [diffM, diffM, diffM, diffF_more _ m (a.take (splitM a.length)) _ (Nat.le_refl _) (by omega), diffF_more _ m (a.drop (splitM a.length)) _ (Nat.le_refl _) (by omega)]
  conv => lhs; rw [hm, diffF]
  rw [if_neg (by omega), if_neg (by omega)]
theorem binding_law : ∀ (m : Nat) (a b : List Dg), a.length ≤ m → a.length = b.length → rootM a = rootM b → a = b ∨ diffM a b = true
  | m, a, b, hm, hl, hr => by
    by_cases h0 : a.length = 0
    · have ha : a = [] := List.eq_nil_of_length_eq_zero h0
      have hb : b = [] := List.eq_nil_of_length_eq_zero (by omega)
      exact .inl (by rw [ha, hb])
    by_cases h1 : a.length = 1
    · obtain ⟨x, rfl⟩ := List.length_eq_one_iff.1 h1
      obtain ⟨y, rfl⟩ := List.length_eq_one_iff.1 (hl ▸ h1)
      have e : leafM x = leafM y := hr
      by_cases hx : x = y
      · exact .inl (by rw [hx])
      · refine .inr ?_
        rw [diffM_one rfl]
        simp [hx, e]
    · have h2 : 2 ≤ a.length := by omega
      have hs := splitM_spec h2
      have e1 : (a.take (splitM a.length)).length = splitM a.length := by rw [List.length_take]; omega
      have e2 : (a.drop (splitM a.length)).length = a.length - splitM a.length := by rw [List.length_drop]
      have e3 : (b.take (splitM a.length)).length = splitM a.length := by rw [List.length_take]; omega
      have e4 : (b.drop (splitM a.length)).length = a.length - splitM a.length := by rw [List.length_drop]; omega
      rw [rootM_two h2, rootM_two (l := b) (by omega), ← hl] at hr
      rw [diffM_two h2]
      split
      · exact .inr rfl
      · rename_i hn
        have n1 := Classical.byContradiction fun hne => hn ⟨.inl hne, hr⟩
        have n2 := Classical.byContradiction fun hne => hn ⟨.inr hne, hr⟩
        match m, hm with
        | 0, hm => omega
        | m + 1, hm =>
          rcases binding_law m _ _ (by omega) (by omega) n1 with a1 | a1
          · rcases binding_law m _ _ (by omega) (by omega) n2 with a2 | a2
            · exact .inl (by rw [← List.take_append_drop (splitM a.length) a, a1, a2, List.take_append_drop])
            · exact .inr (by rw [a2]; simp)
          · exact .inr (by rw [a1]; simp)

/-! ### Tampering -/
theorem tampered_root {l : List Dg} {i : Nat} (hi : i < l.length) {bad : Dg} (hb : bad ≠ rootM l) : verifyM bad l.length i l[i] (proofM l i) = false := by
  have := complete l.length l l.length i rfl (Nat.le_refl _) hi
  simp [verifyM, hi, this.1, this.2, Ne.symm hb]
theorem tampered_len {l : List Dg} {i : Nat} (hi : i < l.length) {root leaf : Dg} {p : List Dg} (hp : p.length ≠ (proofM l i).length) : verifyM root l.length i leaf p = false := by
  have := complete l.length l l.length i rfl (Nat.le_refl _) hi
  simp only [verifyM, this.1, Bool.and_eq_false_iff]
  exact .inr (.inl (decide_eq_false (Ne.symm hp)))
end Go.Proofs.YtjapdhaimbalkaaDoor

/- The reference's Merkle trees: proofs and their verification. -/
--@opt
--@u32
--@hgp
--@flat
--@dg
--@ex0
namespace Go.Proofs.YtjapdhaimbalkaaDoor
set_option linter.unusedSimpArgs false
set_option linter.unusedVariables false
open Go.RowKit Go.Sl

theorem zeroD_len : zeroD.l.length = 16 := rfl
theorem combF_len : ∀ (f n i : Nat) (leaf : Dg) (proof : List Dg), (combF f n i leaf proof).1.l.length = 16
  | 0, _, _, _, _ => leafM_len _
  | f + 1, n, i, leaf, proof => by
    rw [combF]
    split
    · exact leafM_len _
    · split
      · exact zeroD_len
      · split
        · exact nodeM_len _ _
        · exact nodeM_len _ _
theorem combM_len (n i : Nat) (leaf : Dg) (proof : List Dg) : (combM n i leaf proof).1.l.length = 16 := combF_len _ _ _ _ _
theorem lastD_get {p : List Dg} {j : Nat} (h : j < p.length) (hj : j = p.length - 1) : p[j] = lastD p := by
  subst hj
  rw [lastD, List.getD_eq_getElem?_getD, List.getElem?_eq_getElem h]
  rfl

instance {n i : Nat} {leaf : Dg} {proof : List Dg} : LenIs (combM n i leaf proof).1.l 16 := ⟨combM_len _ _ _ _⟩
instance {a b : Dg} : LenIs (nodeM a b).l 16 := ⟨nodeM_len _ _⟩
instance {a : Dg} : LenIs (leafM a).l 16 := ⟨leafM_len _⟩
instance {l : List Dg} : LenIs (rootM l).l 16 := ⟨rootM_len _⟩
instance : LenIs zeroD.l 16 := ⟨rfl⟩

end Go.Proofs.YtjapdhaimbalkaaDoor

/- The statement MerkleBinding, walked. -/
--@opt
--@u32
--@hgp
--@flat
--@dg
--@ex0
namespace Go.Proofs.YtjapdhaimbalkaaDoor
set_option linter.unusedSimpArgs false
set_option linter.unusedVariables false
open Go.RowKit Go.Sl

theorem ifor_bool {p q : Prop} [Decidable p] [Decidable q] {b : Bool} : (if p ∧ q then true else b) = (decide p && decide q || b) := by
  by_cases hp : p <;> by_cases hq : q <;> simp [hp, hq]
theorem diff_fin {L L' R R' : Dg} {N : Prop} [Decidable N] {c1 c2 c3 b : Bool} (g1 : decide (L = L') = c1) (g2 : decide (R = R') = c2) (g3 : decide N = c3) : (if (L ≠ L' ∨ R ≠ R') ∧ N then true else b) = ((!c1 || !c2) && c3 || b) := by
  subst g1; subst g2; subst g3
  by_cases h1 : L = L' <;> by_cases h2 : R = R' <;> by_cases h3 : N <;> simp [h1, h2, h3]
theorem getD0 {l : List Dg} (h : 0 < l.length) : l[0] = l.getD 0 zeroD := by rw [List.getD_eq_getElem?_getD, List.getElem?_eq_getElem h]; rfl

set_option maxRecDepth 8000 in
set_option maxHeartbeats 1000000 in
theorem differs_c : ∀ (m : Nat) {S M} (w : World) (_hst : St S M w) (_hG : Glob S) (va vb : Value) (a b : List Dg) (_ha : RSl S va a) (_hb : RSl S vb b) (_hl : a.length = b.length) (_hm : a.length ≤ m) (_hm2 : m ≤ 1000),
    Rets Tryd.prog 25 [va, vb] w fun v w' => v = .bool (diffM a b) ∧ St S M w' := by
  intro m
  induction m with
  | zero =>
    intro S M w hst hG va vb a b ha hb hl hm hm2
    have h0 : a.length = 0 := by omega
    have hE := Lib.hid (diffM_nil (b := b) h0)
    have h1 : ((a.length : Int) != (b.length : Int)) = false := bne_eq_false_iff_eq.2 (by omega)
    have h2 : ((a.length : Int) == 0) = true := beq_iff_eq.2 (by omega)
    have ha1 := ha.oneCell
    have hb1 := hb.oneCell
    clear h0 hl hm
    unfold Rets
    go_enter Tryd.func25, Tryd.ntmps25
    repeat' (first | (((with_reducible refine Sl.k_guard ?_; ((refine Sl.guard_yes rfl ?_)))) <;> (try refine nY ?_)) | ((fail_if_success (go_big_may)); (go_step)) | (((with_reducible refine Sl.k_call ?_; (refine s_qt hst (by exact qt_len evX asX inX) ?_))) <;> (try refine nY ?_)) | (with_reducible refine Sl.gate rfl ?_; (go_step)))
    go_ret
    exact ⟨_, rfl, by rw [hE.out]; rfl, hst⟩
  | succ m ih =>
    intro S M w hst hG va vb a b ha hb hl hm hm2
    have ha1 := ha.oneCell
    have hb1 := hb.oneCell
    have h1 : ((a.length : Int) != (b.length : Int)) = false := bne_eq_false_iff_eq.2 (by omega)
    by_cases h0 : a.length = 0
    · have hE := Lib.hid (diffM_nil (b := b) h0)
      have h2 : ((a.length : Int) == 0) = true := beq_iff_eq.2 (by omega)
      clear h0 hl
      unfold Rets
      go_enter Tryd.func25, Tryd.ntmps25
      repeat' (first | (((with_reducible refine Sl.k_guard ?_; ((refine Sl.guard_yes rfl ?_)))) <;> (try refine nY ?_)) | ((fail_if_success (go_big_may)); (go_step)) | (((with_reducible refine Sl.k_call ?_; (refine s_qt hst (by exact qt_len evX asX inX) ?_))) <;> (try refine nY ?_)) | (with_reducible refine Sl.gate rfl ?_; (go_step)))
      go_ret
      exact ⟨_, rfl, by rw [hE.out]; rfl, hst⟩
    · have h2 : ((a.length : Int) == 0) = false := beq_eq_false_iff_ne.2 (by omega)
      by_cases h1' : a.length = 1
      · have hE := Lib.hid (diffM_one (b := b) h1')
        have h3 : ((a.length : Int) == 1) = true := beq_iff_eq.2 (by omega)
        have hla : 0 < a.length := by omega
        have hlb : 0 < b.length := by omega
        have hga := Lib.hid (getD0 hla)
        have hgb := Lib.hid (getD0 hlb)
        have hda := ha.dgs a[0] (List.getElem_mem hla)
        have hdb := hb.dgs b[0] (List.getElem_mem hlb)
        clear h0 hl h1'
        unfold Rets
        by_cases hab : a[0] = b[0]
        · have hv : Hid (diffM a b = false) := Lib.hid (by rw [hE.out, ← hga.out, ← hgb.out, hab]; simp)
          go_enter Tryd.func25, Tryd.ntmps25
          repeat' (first | (((with_reducible refine Sl.k_guard ?_; ((refine Sl.guard_yes rfl ?_)))) <;> (try refine nY ?_)) | ((fail_if_success (go_big_may)); (go_step)) | (((with_reducible refine Sl.k_call ?_; (refine s_qt hst (by exact qt_len evX asX inX) ?_))) <;> (try refine nY ?_)) | (with_reducible refine Sl.gate rfl ?_; (go_step)))
          refine v_begin hst (by kernel_rfl) ?_; clear hst; intro ops; (try refine nY ?_)
          (refine t_qt 0 rfl (by kernel_rfl) rfl rfl (by exact qt_move evX) ?_) <;> (try refine nY ?_)
          ((refine t_ex0 1 rfl (by kernel_rfl) rfl rfl (qt_index evX asX rfl inX inX omX omX) ?_; rintro v hp; (try simp only [Int.toNat_natCast, Int.toNat_natCast_add_one, Int.reduceToNat] at hp))) <;> (try refine nY ?_)
          (refine t_qt 2 rfl (by kernel_rfl) rfl rfl (by exact qt_ldp_flat evX asX inX inX rfl) ?_) <;> (try refine nY ?_)
          (refine t_qt 3 rfl (by kernel_rfl) rfl rfl (by exact qt_move evX) ?_) <;> (try refine nY ?_)
          ((refine t_ex0 4 rfl (by kernel_rfl) rfl rfl (qt_index evX asX rfl inX inX omX omX) ?_; rintro v hp; (try simp only [Int.toNat_natCast, Int.toNat_natCast_add_one, Int.reduceToNat] at hp))) <;> (try refine nY ?_)
          (refine t_qt 5 rfl (by kernel_rfl) rfl rfl (by exact qt_ldp_flat evX asX inX inX rfl) ?_) <;> (try refine nY ?_)
          (refine t_qt 6 rfl (by kernel_rfl) rfl rfl (qt_neqK_b rfl rfl (r_dg hda) (r_dg hdb) inX inX inferInstance (decide_eq_true hab)) ?_) <;> (try refine nY ?_)
          (refine t_qt 7 rfl (by kernel_rfl) rfl rfl (by exact qt_move evX) ?_) <;> (try refine nY ?_)
          (refine t_no 8 rfl (by kernel_rfl) rfl rfl ?_) <;> (try refine nY ?_)
          (refine t_no 9 rfl (by kernel_rfl) rfl rfl ?_) <;> (try refine nY ?_)
          (refine t_no 10 rfl (by kernel_rfl) rfl rfl ?_) <;> (try refine nY ?_)
          (refine t_no 11 rfl (by kernel_rfl) rfl rfl ?_) <;> (try refine nY ?_)
          (refine t_no 12 rfl (by kernel_rfl) rfl rfl ?_) <;> (try refine nY ?_)
          (refine t_no 13 rfl (by kernel_rfl) rfl rfl ?_) <;> (try refine nY ?_)
          (refine t_no 14 rfl (by kernel_rfl) rfl rfl ?_) <;> (try refine nY ?_)
          (refine t_no 15 rfl (by kernel_rfl) rfl rfl ?_) <;> (try refine nY ?_)
          (refine t_no 16 rfl (by kernel_rfl) rfl rfl ?_) <;> (try refine nY ?_)
          (refine t_qt 17 rfl (by kernel_rfl) rfl rfl (by exact qt_pick_f rfl evX) ?_) <;> (try refine nY ?_)
          (refine t_qt 18 rfl (by kernel_rfl) rfl rfl (by exact qt_assign evX) ?_) <;> (try refine nY ?_)
          refine v_done (by kernel_rfl) ?_; clear ops; intro w hst
          repeat' (((fail_if_success (go_big_may)); (go_step)))
          go_ret
          exact ⟨_, rfl, by rw [hv.out]; rfl, hst⟩
        · have hv : Hid (diffM a b = decide (leafM a[0] = leafM b[0])) := Lib.hid (by rw [hE.out, ← hga.out, ← hgb.out]; simp [hab])
          go_enter Tryd.func25, Tryd.ntmps25
          repeat' (first | (((with_reducible refine Sl.k_guard ?_; ((refine Sl.guard_yes rfl ?_)))) <;> (try refine nY ?_)) | ((fail_if_success (go_big_may)); (go_step)) | (((with_reducible refine Sl.k_call ?_; (refine s_qt hst (by exact qt_len evX asX inX) ?_))) <;> (try refine nY ?_)) | (with_reducible refine Sl.gate rfl ?_; (go_step)))
          refine v_begin hst (by kernel_rfl) ?_; clear hst; intro ops; (try refine nY ?_)
          (refine t_qt 0 rfl (by kernel_rfl) rfl rfl (by exact qt_move evX) ?_) <;> (try refine nY ?_)
          ((refine t_ex0 1 rfl (by kernel_rfl) rfl rfl (qt_index evX asX rfl inX inX omX omX) ?_; rintro v hp; (try simp only [Int.toNat_natCast, Int.toNat_natCast_add_one, Int.reduceToNat] at hp))) <;> (try refine nY ?_)
          (refine t_qt 2 rfl (by kernel_rfl) rfl rfl (by exact qt_ldp_flat evX asX inX inX rfl) ?_) <;> (try refine nY ?_)
          (refine t_qt 3 rfl (by kernel_rfl) rfl rfl (by exact qt_move evX) ?_) <;> (try refine nY ?_)
          ((refine t_ex0 4 rfl (by kernel_rfl) rfl rfl (qt_index evX asX rfl inX inX omX omX) ?_; rintro v hp; (try simp only [Int.toNat_natCast, Int.toNat_natCast_add_one, Int.reduceToNat] at hp))) <;> (try refine nY ?_)
          (refine t_qt 5 rfl (by kernel_rfl) rfl rfl (by exact qt_ldp_flat evX asX inX inX rfl) ?_) <;> (try refine nY ?_)
          (refine t_qt 6 rfl (by kernel_rfl) rfl rfl (qt_neqK_b rfl rfl (r_dg hda) (r_dg hdb) inX inX inferInstance (decide_eq_false hab)) ?_) <;> (try refine nY ?_)
          (refine t_qt 7 rfl (by kernel_rfl) rfl rfl (by exact qt_move evX) ?_) <;> (try refine nY ?_)
          (refine t_qt 8 rfl (by kernel_rfl) rfl rfl (by exact qt_move evX) ?_) <;> (try refine nY ?_)
          ((refine t_ex0 9 rfl (by kernel_rfl) rfl rfl (qt_index evX asX rfl inX inX omX omX) ?_; rintro v hp; (try simp only [Int.toNat_natCast, Int.toNat_natCast_add_one, Int.reduceToNat] at hp))) <;> (try refine nY ?_)
          (refine t_qt 10 rfl (by kernel_rfl) rfl rfl (by exact qt_ldp_flat evX asX inX inX rfl) ?_) <;> (try refine nY ?_)
          ((refine t_call 11 rfl (by kernel_rfl) rfl (fun S' M' w hS hM hst => refLeaf_c w hst (hG.mono hS) a[0] hda) inX rfl ?_)) <;> (try refine nY ?_)
          (refine t_qt 12 rfl (by kernel_rfl) rfl rfl (by exact qt_move evX) ?_) <;> (try refine nY ?_)
          ((refine t_ex0 13 rfl (by kernel_rfl) rfl rfl (qt_index evX asX rfl inX inX omX omX) ?_; rintro v hp; (try simp only [Int.toNat_natCast, Int.toNat_natCast_add_one, Int.reduceToNat] at hp))) <;> (try refine nY ?_)
          (refine t_qt 14 rfl (by kernel_rfl) rfl rfl (by exact qt_ldp_flat evX asX inX inX rfl) ?_) <;> (try refine nY ?_)
          ((refine t_call 15 rfl (by kernel_rfl) rfl (fun S' M' w hS hM hst => refLeaf_c w hst (hG.mono hS) b[0] hdb) inX rfl ?_)) <;> (try refine nY ?_)
          ((refine t_qt 16 rfl (by kernel_rfl) rfl rfl (qt_eqlK rfl rfl (r_dg (leafM_len _)) (r_dg (leafM_len _)) inX inX inferInstance) ?_)) <;> (try refine nY ?_)
          (refine t_qt 17 rfl (by kernel_rfl) rfl rfl (by exact qt_pick_t rfl evX) ?_) <;> (try refine nY ?_)
          (refine t_qt 18 rfl (by kernel_rfl) rfl rfl (by exact qt_assign evX) ?_) <;> (try refine nY ?_)
          refine v_done (by kernel_rfl) ?_; clear ops; intro w hst
          repeat' (((fail_if_success (go_big_may)); (go_step)))
          go_ret
          exact ⟨_, rfl, by rw [hv.out]; rfl, hst⟩
      · have h3 : ((a.length : Int) == 1) = false := beq_eq_false_iff_ne.2 (by omega)
        have hl2 : 2 ≤ a.length := by omega
        obtain ⟨hs1, hs2⟩ := splitM_spec hl2
        have hE := Lib.hid (diffM_two (b := b) hl2)
        have hsp := fun {S M} (w : World) (hst : St S M w) => refSplit_c w hst a.length hl2 (by omega)
        have hal : (a.take (splitM a.length)).length ≤ m ∧ (a.take (splitM a.length)).length = (b.take (splitM a.length)).length := by rw [List.length_take, List.length_take]; omega
        have har : (a.drop (splitM a.length)).length ≤ m ∧ (a.drop (splitM a.length)).length = (b.drop (splitM a.length)).length := by rw [List.length_drop, List.length_drop]; omega
        have hbl : (b.take (splitM a.length)).length ≤ 1000 ∧ (b.drop (splitM a.length)).length ≤ 1000 := by omega
        have e9 : (a.drop (splitM a.length)).take (a.length - splitM a.length) = a.drop (splitM a.length) := List.take_of_length_le (by rw [List.length_drop]; exact Nat.le_refl _)
        have e8 : (b.drop (splitM a.length)).take (b.length - splitM a.length) = b.drop (splitM a.length) := List.take_of_length_le (by rw [List.length_drop]; exact Nat.le_refl _)
        have E9 := Lib.hid e9
        have E8 := Lib.hid e8
        have hll : a.length ≤ b.length ∧ b.length ≤ a.length := by omega
        clear e8 e9 h0 h1' hl
        generalize hk : splitM a.length = k at *
        have Hk := Lib.hid hk
        clear hk
        have cL := fun {S M} (w : World) (hst : St S M w) (hG : Glob S) (v : Value) (hv : RSl S v (a.take k)) => refRoot_c m w hst hG v (a.take k) hv hal.1 (by omega)
        have cR := fun {S M} (w : World) (hst : St S M w) (hG : Glob S) (v : Value) (hv : RSl S v (a.drop k)) => refRoot_c m w hst hG v (a.drop k) hv har.1 (by omega)
        have cM := fun {S M} (w : World) (hst : St S M w) (hG : Glob S) (v : Value) (hv : RSl S v (b.take k)) => refRoot_c 1000 w hst hG v (b.take k) hv hbl.1 (by omega)
        have cS := fun {S M} (w : World) (hst : St S M w) (hG : Glob S) (v : Value) (hv : RSl S v (b.drop k)) => refRoot_c 1000 w hst hG v (b.drop k) hv hbl.2 (by omega)
        obtain ⟨dl, hdl⟩ : ∃ d, diffM (a.take k) (b.take k) = d := ⟨_, rfl⟩
        have cD := fun {S M} (w : World) (hst : St S M w) (hG : Glob S) (v u : Value) (hv : RSl S v (a.take k)) (hu : RSl S u (b.take k)) => (ih w hst hG v u (a.take k) (b.take k) hv hu hal.2 hal.1 (by omega)).eq hdl
        have cE := fun {S M} (w : World) (hst : St S M w) (hG : Glob S) (v u : Value) (hv : RSl S v (a.drop k)) (hu : RSl S u (b.drop k)) => ih w hst hG v u (a.drop k) (b.drop k) hv hu har.2 har.1 (by omega)
        have lL := rootM_len (a.take k)
        have lR := rootM_len (a.drop k)
        have lM := rootM_len (b.take k)
        have lS := rootM_len (b.drop k)
        rw [hdl] at hE
        generalize diffM (a.drop k) (b.drop k) = dr at *
        generalize rootM (a.take k) = L at *
        generalize rootM (a.drop k) = R at *
        generalize rootM (b.take k) = L' at *
        generalize rootM (b.drop k) = R' at *
        haveI : LenIs L.l 16 := ⟨lL⟩
        haveI : LenIs R.l 16 := ⟨lR⟩
        haveI : LenIs L'.l 16 := ⟨lM⟩
        haveI : LenIs R'.l 16 := ⟨lS⟩
        obtain ⟨c1, g1⟩ : ∃ c, decide (L = L') = c := ⟨_, rfl⟩
        obtain ⟨c2, g2⟩ : ∃ c, decide (R = R') = c := ⟨_, rfl⟩
        obtain ⟨c3, g3⟩ : ∃ c, decide (nodeM L R = nodeM L' R') = c := ⟨_, rfl⟩
        have G1 := Lib.hid g1
        have G2 := Lib.hid g2
        have G3 := Lib.hid g3
        unfold Rets
        go_enter Tryd.func25, Tryd.ntmps25
        repeat' (first | (((with_reducible refine Sl.k_guard ?_; ((refine Sl.guard_yes rfl ?_)))) <;> (try refine nY ?_)) | (((with_reducible refine Sl.k_call ?_; ((refine s_call (hsp _ hst) inX rfl ?_; clear hst; rintro v w ⟨rfl, hst⟩)))) <;> (try refine nY ?_) <;> (try replace hst := nH hst)) | ((fail_if_success (go_big_may)); (go_step)) | (((with_reducible refine Sl.k_call ?_; (refine s_qt hst (by exact qt_len evX asX inX) ?_))) <;> (try refine nY ?_)) | (with_reducible refine Sl.gate rfl ?_; (go_step)))
        refine s_slice (a := 0) (b := k) evX ha inX inX (.inl ⟨rfl, rfl⟩) (.inr ⟨.i64, by simp [evF, nth]⟩) (.inl rfl) (by omega) (by omega) ?_
        intro v1 hv1
        replace hv1 : RSl S v1 (a.take k) := hv1
        have hv11 := hv1.oneCell
        (try refine nY ?_)
        repeat' (first | (((with_reducible refine Sl.k_call ?_; ((refine s_call (cL _ hst hG _ hv1) inX rfl ?_; clear hst; rintro v w ⟨rfl, hst⟩)))) <;> (try refine nY ?_) <;> (try replace hst := nH hst)) | ((fail_if_success (go_big_may)); (go_step)) | ((((first | (with_reducible refine Sl.k_store ?_; (refine s_stD hst rfl BoxIn.h inX evX inX lenX ?_); clear hst; intro w hst) | (refine s_alloc hst inX ?_; clear hst; intro bk w hst)))) <;> (try refine nY ?_) <;> (try replace hst := nH hst)))
        refine s_slice (a := k) (b := a.length) evX ha inX inX (.inr ⟨.i64, by simp [evF, nth]⟩) (.inl ⟨rfl, rfl⟩) (.inl rfl) (by omega) (by omega) ?_
        intro v2 hv2
        rw [E9.out] at hv2
        have hv21 := hv2.oneCell
        (try refine nY ?_)
        repeat' (first | (((with_reducible refine Sl.k_call ?_; ((refine s_call (cR _ hst hG _ hv2) inX rfl ?_; clear hst; rintro v w ⟨rfl, hst⟩)))) <;> (try refine nY ?_) <;> (try replace hst := nH hst)) | ((fail_if_success (go_big_may)); (go_step)) | ((((first | (with_reducible refine Sl.k_store ?_; (refine s_stD hst rfl BoxIn.h inX evX inX lenX ?_); clear hst; intro w hst) | (refine s_alloc hst inX ?_; clear hst; intro bk w hst)))) <;> (try refine nY ?_) <;> (try replace hst := nH hst)))
        refine s_slice (a := 0) (b := k) evX hb inX inX (.inl ⟨rfl, rfl⟩) (.inr ⟨.i64, by simp [evF, nth]⟩) (.inl rfl) (by omega) (by omega) ?_
        intro v3 hv3
        replace hv3 : RSl S v3 (b.take k) := hv3
        have hv31 := hv3.oneCell
        (try refine nY ?_)
        repeat' (first | (((with_reducible refine Sl.k_call ?_; ((refine s_call (cM _ hst hG _ hv3) inX rfl ?_; clear hst; rintro v w ⟨rfl, hst⟩)))) <;> (try refine nY ?_) <;> (try replace hst := nH hst)) | ((fail_if_success (go_big_may)); (go_step)) | ((((first | (with_reducible refine Sl.k_store ?_; (refine s_stD hst rfl BoxIn.h inX evX inX lenX ?_); clear hst; intro w hst) | (refine s_alloc hst inX ?_; clear hst; intro bk w hst)))) <;> (try refine nY ?_) <;> (try replace hst := nH hst)))
        refine s_slice (a := k) (b := b.length) evX hb inX inX (.inr ⟨.i64, by simp [evF, nth]⟩) (.inl ⟨rfl, rfl⟩) (.inl rfl) (by omega) (by omega) ?_
        intro v4 hv4
        rw [E8.out] at hv4
        have hv41 := hv4.oneCell
        (try refine nY ?_)
        repeat' (first | (((with_reducible refine Sl.k_call ?_; ((refine s_call (cS _ hst hG _ hv4) inX rfl ?_; clear hst; rintro v w ⟨rfl, hst⟩)))) <;> (try refine nY ?_) <;> (try replace hst := nH hst)) | ((fail_if_success (go_big_may)); (go_step)) | ((((first | (with_reducible refine Sl.k_store ?_; (refine s_stD hst rfl BoxIn.h inX evX inX lenX ?_); clear hst; intro w hst) | (refine s_alloc hst inX ?_; clear hst; intro bk w hst)))) <;> (try refine nY ?_) <;> (try replace hst := nH hst)))
        cases c1
        cases c3
        rotate_left 2
        cases c2
        cases c3
        all_goals
          refine v_begin hst (by kernel_rfl) ?_; clear hst; intro ops; (try refine nY ?_)
          (refine t_qt 0 rfl (by kernel_rfl) rfl rfl (by exact qt_loadD evX BoxIn.h inX inX) ?_) <;> (try refine nY ?_)
          (refine t_qt 1 rfl (by kernel_rfl) rfl rfl (by exact qt_loadD evX BoxIn.h inX inX) ?_) <;> (try refine nY ?_)
          (refine t_qt 2 rfl (by kernel_rfl) rfl rfl (qt_neqK_b rfl rfl (r_dg lL) (r_dg lM) inX inX inferInstance g1) ?_) <;> (try refine nY ?_)
          (refine t_qt 3 rfl (by kernel_rfl) rfl rfl (by exact qt_move evX) ?_) <;> (try refine nY ?_)
          (first | refine t_qt 4 rfl (by kernel_rfl) rfl rfl (by exact qt_loadD evX BoxIn.h inX inX) ?_ | refine t_no 4 rfl (by kernel_rfl) rfl rfl ?_) <;> (try refine nY ?_)
          (first | refine t_qt 5 rfl (by kernel_rfl) rfl rfl (by exact qt_loadD evX BoxIn.h inX inX) ?_ | refine t_no 5 rfl (by kernel_rfl) rfl rfl ?_) <;> (try refine nY ?_)
          ((first | refine t_qt 6 rfl (by kernel_rfl) rfl rfl (qt_neqK_b rfl rfl (r_dg lR) (r_dg lS) inX inX inferInstance g2) ?_ | refine t_no 6 rfl (by kernel_rfl) rfl rfl ?_)) <;> (try refine nY ?_)
          (refine t_qt 7 rfl (by kernel_rfl) rfl rfl (by first | exact qt_pick_t rfl evX | exact qt_pick_f rfl evX) ?_) <;> (try refine nY ?_)
          (refine t_qt 8 rfl (by kernel_rfl) rfl rfl (by exact qt_move evX) ?_) <;> (try refine nY ?_)
          (first | refine t_qt 9 rfl (by kernel_rfl) rfl rfl (by exact qt_loadD evX BoxIn.h inX inX) ?_ | refine t_no 9 rfl (by kernel_rfl) rfl rfl ?_) <;> (try refine nY ?_)
          (first | refine t_qt 10 rfl (by kernel_rfl) rfl rfl (by exact qt_loadD evX BoxIn.h inX inX) ?_ | refine t_no 10 rfl (by kernel_rfl) rfl rfl ?_) <;> (try refine nY ?_)
          ((first | refine t_call 11 rfl (by kernel_rfl) rfl (fun S' M' w hS hM hst => refNode_c w hst (hG.mono hS) L R lL lR) inX rfl ?_ | refine t_no 11 rfl (by kernel_rfl) rfl rfl ?_)) <;> (try refine nY ?_)
          (first | refine t_qt 12 rfl (by kernel_rfl) rfl rfl (by exact qt_loadD evX BoxIn.h inX inX) ?_ | refine t_no 12 rfl (by kernel_rfl) rfl rfl ?_) <;> (try refine nY ?_)
          (first | refine t_qt 13 rfl (by kernel_rfl) rfl rfl (by exact qt_loadD evX BoxIn.h inX inX) ?_ | refine t_no 13 rfl (by kernel_rfl) rfl rfl ?_) <;> (try refine nY ?_)
          ((first | refine t_call 14 rfl (by kernel_rfl) rfl (fun S' M' w hS hM hst => refNode_c w hst (hG.mono hS) L' R' lM lS) inX rfl ?_ | refine t_no 14 rfl (by kernel_rfl) rfl rfl ?_)) <;> (try refine nY ?_)
          ((first | refine t_qt 15 rfl (by kernel_rfl) rfl rfl (qt_eqlK_b rfl rfl (r_dg (nodeM_len _ _)) (r_dg (nodeM_len _ _)) inX inX inferInstance g3) ?_ | refine t_no 15 rfl (by kernel_rfl) rfl rfl ?_)) <;> (try refine nY ?_)
          (refine t_qt 16 rfl (by kernel_rfl) rfl rfl (by first | exact qt_pick_t rfl evX | exact qt_pick_f rfl evX) ?_) <;> (try refine nY ?_)
          refine v_done (by kernel_rfl) ?_; clear ops; intro w hst
          repeat' (((fail_if_success (go_big_may)); (go_step)))
        rotate_left
        go_ret
        exact ⟨_, rfl, by rw [hE.out, diff_fin G1.out G2.out G3.out]; simp, hst.drop.drop.drop.drop⟩
        rotate_left 2
        go_ret
        exact ⟨_, rfl, by rw [hE.out, diff_fin G1.out G2.out G3.out]; simp, hst.drop.drop.drop.drop⟩
        all_goals cases dl
        all_goals
          refine v_begin hst (by kernel_rfl) ?_; clear hst; intro ops; (try refine nY ?_)
          (refine t_qt 0 rfl (by kernel_rfl) rfl rfl (by exact qt_move evX) ?_) <;> (try refine nY ?_)
          (refine t_qt 1 rfl (by kernel_rfl) rfl rfl (by exact qt_move evX) ?_) <;> (try refine nY ?_)
          ((refine t_ex0 2 rfl (by kernel_rfl) rfl rfl (qt_slice (a := 0) (b := k) evX ha inX inX (.inl ⟨rfl, rfl⟩) (.inr ⟨.i64, by simp [evF, nth]⟩) (.inl rfl) (by omega) (by omega) ) ?_; rintro  v2 hw2)) <;> (try refine nY ?_)
          (refine t_qt 3 rfl (by kernel_rfl) rfl rfl (by exact qt_move evX) ?_) <;> (try refine nY ?_)
          (refine t_qt 4 rfl (by kernel_rfl) rfl rfl (by exact qt_move evX) ?_) <;> (try refine nY ?_)
          ((refine t_ex0 5 rfl (by kernel_rfl) rfl rfl (qt_slice (a := 0) (b := k) evX hb inX inX (.inl ⟨rfl, rfl⟩) (.inr ⟨.i64, by simp [evF, nth]⟩) (.inl rfl) (by omega) (by omega) ) ?_; rintro  v5 hw5)) <;> (try refine nY ?_)
          (refine t_call 6 rfl (by kernel_rfl) rfl (fun S' M' w hS hM hst => cD w hst (hG.mono hS) v2 v5 (hw2.mono hS) (hw5.mono hS)) inX rfl ?_) <;> (try refine nY ?_)
          (refine t_qt 7 rfl (by kernel_rfl) rfl rfl (by exact qt_move evX) ?_) <;> (try refine nY ?_)
          (first | refine t_qt 8 rfl (by kernel_rfl) rfl rfl (by exact qt_move evX) ?_ | refine t_no 8 rfl (by kernel_rfl) rfl rfl ?_) <;> (try refine nY ?_)
          (first | refine t_qt 9 rfl (by kernel_rfl) rfl rfl (by exact qt_move evX) ?_ | refine t_no 9 rfl (by kernel_rfl) rfl rfl ?_) <;> (try refine nY ?_)
          ((first | (refine t_ex0 10 rfl (by kernel_rfl) rfl rfl (qt_slice (a := k) (b := a.length) evX ha inX inX (.inr ⟨.i64, by simp [evF, nth]⟩) (.inl ⟨rfl, rfl⟩) (.inl rfl) (by omega) (by omega) ) ?_; rintro  v10 hw10) | refine t_no 10 rfl (by kernel_rfl) rfl rfl ?_)) <;> (try refine nY ?_)
          (first | refine t_qt 11 rfl (by kernel_rfl) rfl rfl (by exact qt_move evX) ?_ | refine t_no 11 rfl (by kernel_rfl) rfl rfl ?_) <;> (try refine nY ?_)
          (first | refine t_qt 12 rfl (by kernel_rfl) rfl rfl (by exact qt_move evX) ?_ | refine t_no 12 rfl (by kernel_rfl) rfl rfl ?_) <;> (try refine nY ?_)
          ((first | (refine t_ex0 13 rfl (by kernel_rfl) rfl rfl (qt_slice (a := k) (b := b.length) evX hb inX inX (.inr ⟨.i64, by simp [evF, nth]⟩) (.inl ⟨rfl, rfl⟩) (.inl rfl) (by omega) (by omega) ) ?_; rintro  v13 hw13) | refine t_no 13 rfl (by kernel_rfl) rfl rfl ?_)) <;> (try refine nY ?_)
          ((first | refine t_call 14 rfl (by kernel_rfl) rfl (fun S' M' w hS hM hst => cE w hst (hG.mono hS) v10 v13 (by rw [← E9.out]; exact hw10.mono hS) (by rw [← E8.out]; exact hw13.mono hS)) inX rfl ?_ | refine t_no 14 rfl (by kernel_rfl) rfl rfl ?_)) <;> (try refine nY ?_)
          (refine t_qt 15 rfl (by kernel_rfl) rfl rfl (by first | exact qt_pick_t rfl evX | exact qt_pick_f rfl evX) ?_) <;> (try refine nY ?_)
          (refine t_qt 16 rfl (by kernel_rfl) rfl rfl (by exact qt_assign evX) ?_) <;> (try refine nY ?_)
          refine v_done (by kernel_rfl) ?_; clear ops; intro w hst
          repeat' (((fail_if_success (go_big_may)); (go_step)))
          go_ret
          exact ⟨_, rfl, by rw [hE.out, diff_fin G1.out G2.out G3.out]; simp, hst.drop.drop.drop.drop⟩
end Go.Proofs.YtjapdhaimbalkaaDoor
