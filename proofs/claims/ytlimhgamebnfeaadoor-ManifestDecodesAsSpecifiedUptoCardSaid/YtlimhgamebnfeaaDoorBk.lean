/- The reference's decoders, walked; sizes of what is decoded. -/
import Derived.Test.YtlimhgamebnfeaaDoorBb
import Derived.Test.YtlimhgamebnfeaaDoorBc
import Derived.Test.YtlimhgamebnfeaaDoorBf
import Derived.Test.YtlimhgamebnfeaaDoorBh
import Derived.Test.YtlimhgamebnfeaaDoorBg
import Derived.Test.YtlimhgamebnfeaaDoorBi

/- Package wire: the references' decoding of integers and of lists, walked. -/
--@opt
--@hgp
--@idxv
namespace Go.Proofs.YtlimhgamebnfeaaDoor
set_option linter.unusedSimpArgs false
set_option linter.unusedVariables false
open Go.RowKit Go.Sl

set_option maxRecDepth 8000 in
set_option maxHeartbeats 400000 in
theorem length_c {S M} (w : World) (hst : St S M w) (vb : Value) (b : List UInt8) (hb : RSl S vb b) (hm : b.length ≤ 1048576) :
    Rets Tryd.prog 108 [vb] w fun v w' => v = .int .i64 (lenF 10 0 b : Nat) ∧ St S M w' := by
  unfold Rets
  go_enter Tryd.func108, Tryd.ntmps108
  repeat' (((fail_if_success (go_big_may)); (go_step)))
  go_loopw [3] (fun v wr => ∃ k : Nat, k ≤ 10 ∧ k ≤ b.length ∧ v = .int .i64 k ∧ Hid (lenF (10 - k) k (b.drop k) = lenF 10 0 b) ∧ St S M wr) (fun v _ => 10 - (intOf v).toNat)
  case atStart => exact ⟨0, by omega, by omega, rfl, Lib.hid rfl, hst⟩
  case round =>
    clear hst
    obtain ⟨k, hk, hkb, rfl, hx, hst⟩ := hrel
    by_cases hlt : k < b.length
    · by_cases hk10 : k < 10
      · have hcd := hx.out
        rw [List.drop_eq_getElem_cons hlt, show 10 - k = (9 - k) + 1 by omega, lenF] at hcd
        have h256 : b[k].toNat < 256 := b[k].toNat_lt
        clear hx
        by_cases hc : b[k].toNat < 128
        · rw [if_pos hc] at hcd
          have Hx := Lib.hid hcd
          clear hcd
          repeat' (first | (((with_reducible refine Sl.k_guard ?_; ((refine Sl.guard_yes rfl ?_)))) <;> (try refine nX ?_)) | ((fail_if_success (go_big_may)); (go_step)) | ((first | (with_reducible refine Sl.k_load ?_; (refine s_qt hst (by exact qt_ldp_u8 evX asX inX) ?_)) | (with_reducible refine Sl.k_index ?_; (((refine s_ex hst (qt_index evX asX rfl inX inX omX omX) ?_); rintro v hp; (try simp only [Int.toNat_natCast, Int.toNat_natCast_add_one, Int.reduceToNat] at hp)))) | (with_reducible refine Sl.k_call ?_; (refine s_qt hst (by exact qt_len evX asX inX) ?_))) <;> (try refine nX ?_)) | (with_reducible refine Sl.gate rfl ?_; (go_step)))
          go_ret
          exact ⟨_, rfl, by rw [← Hx.out]; rfl, hst⟩
        · rw [if_neg hc, show 9 - k = 10 - (k + 1) by omega] at hcd
          have Hx := Lib.hid hcd
          clear hcd
          repeat' (first | (((with_reducible refine Sl.k_guard ?_; ((refine Sl.guard_yes rfl ?_)))) <;> (try refine nX ?_)) | ((fail_if_success (go_big_may)); (go_step)) | ((first | (with_reducible refine Sl.k_load ?_; (refine s_qt hst (by exact qt_ldp_u8 evX asX inX) ?_)) | (with_reducible refine Sl.k_index ?_; (((refine s_ex hst (qt_index evX asX rfl inX inX omX omX) ?_); rintro v hp; (try simp only [Int.toNat_natCast, Int.toNat_natCast_add_one, Int.reduceToNat] at hp)))) | (with_reducible refine Sl.k_call ?_; (refine s_qt hst (by exact qt_len evX asX inX) ?_))) <;> (try refine nX ?_)) | (with_reducible refine Sl.gate rfl ?_; (go_step)))
          go_roundw
          case rel => exact ⟨k + 1, by omega, by omega, by go_num, Hx, hst⟩
          case measure => simp [intOf]; omega
      · obtain rfl : k = 10 := by omega
        have Hx := Lib.hid (hx.out.symm.trans (show lenF (10 - 10) 10 (b.drop 10) = 0 from rfl))
        clear hx
        repeat' (first | (((with_reducible refine Sl.k_guard ?_; (first | (refine Sl.guard_yes rfl ?_) | (refine Sl.guard_cases rfl ?_ ?_ <;> intro hg <;> first | (exfalso; simp only [decide_eq_true_eq, decide_eq_false_iff_not, Bool.not_false, Bool.not_true, beq_iff_eq, beq_eq_false_iff_ne, ne_eq] at hg; omega) | (simp only [hg, Bool.not_true, Bool.not_false])) <;> (try simp only [decide_eq_true_eq, decide_eq_false_iff_not, Bool.not_false, Bool.not_true, beq_iff_eq, beq_eq_false_iff_ne, bne_iff_ne, bne_eq_false_iff_eq, ne_eq] at hg)))) <;> (try refine nX ?_)) | ((fail_if_success (go_big_may)); (go_step)) | (((with_reducible refine Sl.k_call ?_; (refine s_qt hst (by exact qt_len evX asX inX) ?_))) <;> (try refine nX ?_)) | (with_reducible refine Sl.gate rfl ?_; (go_step)))
        go_ret
        exact ⟨_, rfl, by rw [Hx.out]; rfl, hst⟩
    · have Hx := Lib.hid (hx.out.symm.trans (show lenF (10 - k) k (b.drop k) = 0 by rw [List.drop_eq_nil_of_le (by omega)]; cases 10 - k <;> rfl))
      clear hx
      repeat' (first | (((with_reducible refine Sl.k_guard ?_; ((refine Sl.guard_no rfl ?_)))) <;> (try refine nX ?_)) | ((fail_if_success (go_big_may)); (go_step)) | (((with_reducible refine Sl.k_call ?_; (refine s_qt hst (by exact qt_len evX asX inX) ?_))) <;> (try refine nX ?_)) | (with_reducible refine Sl.gate rfl ?_; (go_step)))
      go_ret
      exact ⟨_, rfl, by rw [Hx.out]; rfl, hst⟩

theorem u8_mod128 (c : UInt8) : ((c.toNat : Int) % 128) = ((c.toNat % 128 : Nat) : Int) := by omega
theorem val_step {b : List UInt8} {n k : Nat} (hn : n ≤ b.length) (hk : k < n) : valF ((b.take n).drop k) = b[k].toNat % 128 + 128 * valF ((b.take n).drop (k + 1)) := by
  have h : k < (b.take n).length := by rw [List.length_take]; omega
  rw [List.drop_eq_getElem_cons h, valF, List.getElem_take]

theorem refInt_f {S M} (w : World) (hst : St S M w) (n : Int) (hn : I64 n) : Rets Tryd.prog 52 [.int .i64 n] w fun v w' => Fz UInt8 S M (encI n) v w' :=
  Rets.mono (refInt_c w hst n hn) fun _ _ h => fz_u8 h
theorem xor_off {x : Nat} (h : x < 2 ^ 64) : wrap64 (IntKind.u64.wrap ((x : Int) / 2)) = ((x / 2 : Nat) : Int) := by
  rw [show ((x : Int) / 2) = ((x / 2 : Nat) : Int) by omega, wrap_u64 (by omega)]
  unfold wrap64; omega
theorem unzig0 {x : Nat} (h : x < 2 ^ 64) (hp : ((x : Int) % 2 == 1) = false) : wrap64 (IntKind.u64.wrap ((x : Int) / 2)) = unzig x := by
  rw [xor_off h, unzig, if_neg (by have := beq_eq_false_iff_ne.1 hp; omega)]
theorem unzig1 {x : Nat} (h : x < 2 ^ 64) (hp : ((x : Int) % 2 == 1) = true) : wrap64 (wrap64 (-wrap64 (IntKind.u64.wrap ((x : Int) / 2))) - 1) = unzig x := by
  rw [xor_off h, unzig, if_pos (by have := eq_of_beq hp; omega)]
  unfold wrap64; omega
theorem val_wrap {x v : Nat} {c : UInt8} (h : x = v % 2 ^ 64) : IntKind.u64.wrap (IntKind.u64.wrap (128 * (x : Int)) + (c.toNat : Int) % 128) = (((c.toNat % 128 + 128 * v) % 2 ^ 64 : Nat) : Int) := by
  subst h
  have e1 : IntKind.u64.wrap (128 * ((v % 2 ^ 64 : Nat) : Int)) = ((128 * v % 2 ^ 64 : Nat) : Int) := by
    have e0 : ∀ m : Nat, (128 * (m : Int)) = ((128 * m : Nat) : Int) := fun m => by push_cast; rfl
    rw [e0, wrap_nat, Nat.mul_mod_mod]
  rw [e1, u8_mod128]
  rw [← Int.natCast_add, wrap_nat, Nat.mod_add_mod, Nat.add_comm]

set_option maxRecDepth 100000 in
set_option maxHeartbeats 4000000 in
theorem refGetInt_c {S M} (w : World) (hst : St S M w) (vb : Value) (b : List UInt8) (hb : RSl S vb b) (hm : b.length ≤ 1048576) :
    Rets Tryd.prog 98 [vb] w fun v w' => v = triple (getI b) ∧ St S M w' := by
  unfold Rets
  rw [← refI_eq]
  have c := length_c w hst vb b hb hm
  have hle := lenF_le 10 0 b
  have hR : refI b = if lenF 10 0 b = 0 ∧ b.length < 10 then (0, 0, 6)
    else if lenF 10 0 b = 0 ∨ encI (unzig (valF (b.take (lenF 10 0 b)) % 2 ^ 64)) ≠ b.take (lenF 10 0 b) then (0, 0, 7)
    else (unzig (valF (b.take (lenF 10 0 b)) % 2 ^ 64), lenF 10 0 b, 0) := rfl
  generalize lenF 10 0 b = n at *
  have HR := Lib.hid hR
  clear hR
  have hnb : n ≤ b.length := by omega
  have hn10 : n ≤ 10 := by omega
  rcases (show (n = 0 ∧ b.length < 10) ∨ (n = 0 ∧ 10 ≤ b.length) ∨ 1 ≤ n by omega) with ⟨rfl, h1⟩ | ⟨h1, h2⟩ | h1
  · clear hle
    go_enter Tryd.func98, Tryd.ntmps98
    repeat' (first | (((with_reducible refine Sl.k_guard ?_; ((refine Sl.guard_yes rfl ?_)))) <;> (try refine nX ?_)) | (((with_reducible refine Sl.k_call ?_; ((refine s_call (c) inX rfl ?_; clear hst; rintro v w ⟨rfl, hst⟩)))) <;> (try refine nX ?_) <;> (try replace hst := nH hst)) | ((fail_if_success (go_big_may)); (go_step)) | (((with_reducible refine Sl.k_call ?_; (refine s_qt hst (by exact qt_len evX asX inX) ?_))) <;> (try refine nX ?_)) | (with_reducible refine Sl.gate rfl ?_; (go_step)))
    go_ret3
    exact ⟨_, rfl, by rw [HR.out, if_pos ⟨rfl, h1⟩]; rfl, hst⟩
  · have HR2 := Lib.hid (HR.out.trans (if_neg (by omega)))
    have hz : ((n : Int) == 0) = true := by simp; omega
    clear hle HR
    go_enter Tryd.func98, Tryd.ntmps98
    repeat' (first | (((with_reducible refine Sl.k_guard ?_; ((refine Sl.guard_yes rfl ?_)))) <;> (try refine nX ?_)) | (((with_reducible refine Sl.k_call ?_; ((refine s_call (c) inX rfl ?_; clear hst; rintro v w ⟨rfl, hst⟩)))) <;> (try refine nX ?_) <;> (try replace hst := nH hst)) | ((fail_if_success (go_big_may)); (go_step)) | (((with_reducible refine Sl.k_call ?_; (refine s_qt hst (by exact qt_len evX asX inX) ?_))) <;> (try refine nX ?_)) | (with_reducible refine Sl.gate rfl ?_; (go_step)))
    clear c
    go_loopw [6, 7] (fun u v wr => ∃ (j : Nat) (k : Int) (x : Nat), j ≤ n ∧ v = .int .i64 k ∧ k = (j : Int) - 1 ∧ u = .int .u64 (x : Nat) ∧ Hid (x = valF ((b.take n).drop j) % 2 ^ 64) ∧ St S M wr) (fun _ v _ => (intOf v + 1).toNat)
    case atStart => exact ⟨n, _, 0, Nat.le_refl _, rfl, by omega, rfl, Lib.hid (by rw [List.drop_eq_nil_of_le (by rw [List.length_take]; omega)]; rfl), hst⟩
    case round =>
      clear hst
      obtain ⟨j, k, x, hj, rfl, hk, rfl, hx, hst⟩ := hrel
      rcases Nat.eq_zero_or_pos j with rfl | hj0
      · obtain rfl : k = -1 := by omega
        clear hk hj
        have hx64 : x < 2 ^ 64 := by rw [hx.out]; exact Nat.mod_lt _ (by decide)
        have HX := Lib.hid (hx.out.trans (congrArg (· % 2 ^ 64) (congrArg valF (List.drop_zero (l := b.take n)))))
        have Hx64 := Lib.hid hx64
        clear hx hx64
        repeat' (first | ((fail_if_success (go_big_may)); (go_step)) | (with_reducible refine Sl.gate rfl ?_; (go_step)))
        all_goals
          refine h_begin hst (by kernel_rfl) ?_; clear hst; intro w hst
          ((refine h_take 0 rfl (by kernel_rfl) (by kernel_rfl) (by kernel_rfl) rfl (by exact qt_move evX) hst ?_) <;> (try refine nX ?_))
          ((refine h_take 1 rfl (by kernel_rfl) (by kernel_rfl) (by kernel_rfl) rfl (qt_eql_b rfl rfl deX) hst ?_) <;> (try refine nX ?_))
          ((refine h_take 2 rfl (by kernel_rfl) (by kernel_rfl) (by kernel_rfl) rfl (by exact qt_move evX) hst ?_) <;> (try refine nX ?_))
          ((refine h_takeno 3 rfl (by kernel_rfl) (by kernel_rfl) (by kernel_rfl) rfl hst ?_) <;> (try refine nX ?_))
          ((refine h_takeno 4 rfl (by kernel_rfl) (by kernel_rfl) (by kernel_rfl) rfl hst ?_) <;> (try refine nX ?_))
          ((refine h_takeno 5 rfl (by kernel_rfl) (by kernel_rfl) (by kernel_rfl) rfl hst ?_) <;> (try refine nX ?_))
          ((refine h_takeno 6 rfl (by kernel_rfl) (by kernel_rfl) (by kernel_rfl) rfl hst ?_) <;> (try refine nX ?_))
          ((refine h_takeno 7 rfl (by kernel_rfl) (by kernel_rfl) (by kernel_rfl) rfl hst ?_) <;> (try refine nX ?_))
          ((refine h_takeno 8 rfl (by kernel_rfl) (by kernel_rfl) (by kernel_rfl) rfl hst ?_) <;> (try refine nX ?_))
          ((refine h_takeno 9 rfl (by kernel_rfl) (by kernel_rfl) (by kernel_rfl) rfl hst ?_) <;> (try refine nX ?_))
          ((refine h_take 10 rfl (by kernel_rfl) (by kernel_rfl) (by kernel_rfl) rfl (by exact qt_pick_t rfl evX) hst ?_) <;> (try refine nX ?_))
          refine h_done (by kernel_rfl) ?_
          repeat' (((fail_if_success (go_big_may)); (go_step)))
          go_ret3
          exact ⟨_, rfl, by rw [HR2.out, if_pos (.inl h1)]; rfl, hst⟩
      · exfalso; omega
  · have HR2 := Lib.hid (HR.out.trans (if_neg (by omega)))
    have hz : ((n : Int) == 0) = false := by simp; omega
    clear hle HR
    go_enter Tryd.func98, Tryd.ntmps98
    repeat' (first | go_skip | (((with_reducible refine Sl.k_call ?_; ((refine s_call (c) inX rfl ?_; clear hst; rintro v w ⟨rfl, hst⟩)))) <;> (try refine nX ?_) <;> (try replace hst := nH hst)) | ((fail_if_success (go_big_may)); (go_step)) | (with_reducible refine Sl.gate rfl ?_; (go_step)))
    clear c
    go_loopw [6, 7] (fun u v wr => ∃ (j : Nat) (k : Int) (x : Nat), j ≤ n ∧ v = .int .i64 k ∧ k = (j : Int) - 1 ∧ u = .int .u64 (x : Nat) ∧ Hid (x = valF ((b.take n).drop j) % 2 ^ 64) ∧ St S M wr) (fun _ v _ => (intOf v + 1).toNat)
    case atStart => exact ⟨n, _, 0, Nat.le_refl _, rfl, by omega, rfl, Lib.hid (by rw [List.drop_eq_nil_of_le (by rw [List.length_take]; omega)]; rfl), hst⟩
    case round =>
      clear hst
      obtain ⟨j, k, x, hj, rfl, hk, rfl, hx, hst⟩ := hrel
      rcases Nat.eq_zero_or_pos j with rfl | hj0
      · obtain rfl : k = -1 := by omega
        clear hk hj
        have hx64 : x < 2 ^ 64 := by rw [hx.out]; exact Nat.mod_lt _ (by decide)
        have HX := Lib.hid (hx.out.trans (congrArg (· % 2 ^ 64) (congrArg valF (List.drop_zero (l := b.take n)))))
        have Hx64 := Lib.hid hx64
        clear hx hx64
        repeat' (first | ((fail_if_success (go_big_may)); (go_step)) | (with_reducible refine Sl.gate rfl ?_; (go_step)))
        · have hm8 := unzig1 Hx64.out (by assumption)
          have hmi : I64 (unzig x) := unzig_i64 Hx64.out
          refine h_begin hst (by kernel_rfl) ?_; clear hst; intro w hst
          ((refine h_take 0 rfl (by kernel_rfl) (by kernel_rfl) (by kernel_rfl) rfl (by exact qt_move evX) hst ?_) <;> (try refine nX ?_))
          ((refine h_take 1 rfl (by kernel_rfl) (by kernel_rfl) (by kernel_rfl) rfl (qt_eql_b rfl rfl deX) hst ?_) <;> (try refine nX ?_))
          ((refine h_take 2 rfl (by kernel_rfl) (by kernel_rfl) (by kernel_rfl) rfl (by exact qt_move evX) hst ?_) <;> (try refine nX ?_))
          ((refine h_take 3 rfl (by kernel_rfl) (by kernel_rfl) (by kernel_rfl) rfl (by exact qt_move evX) hst ?_) <;> (try refine nX ?_))
          ((refine h_take 5 rfl (by kernel_rfl) (by kernel_rfl) (by kernel_rfl) rfl (by exact qt_move evX) hst ?_) <;> (try refine nX ?_))
          ((refine h_take 6 rfl (by kernel_rfl) (by kernel_rfl) (by kernel_rfl) rfl (by exact qt_move evX) hst ?_) <;> (try refine nX ?_))
          refine h_takex 7 rfl (by kernel_rfl) (by kernel_rfl) (by kernel_rfl) rfl (qt_slice (a := 0) (b := n) evX hb inX inX (.inl ⟨rfl, rfl⟩) (.inr ⟨.i64, rfl⟩) (.inl rfl) (Nat.zero_le _) hnb) hst ?_
          intro vs hvs
          rw [List.drop_zero, Nat.sub_zero] at hvs
          refine nX ?_
          refine h_one 4 rfl (by kernel_rfl) ?_
          intro K hK
          refine Sl.guard_yes rfl ?_
          refine s_call (refInt_f _ hst _ (by rw [hm8]; exact hmi)) inX rfl ?_
          rw [hm8]
          rintro u w' ⟨S2, hle2, hu, hu1, hst2⟩
          refine hK _ _ _ (hst2.weaken hle2) ?_
          clear hK hst
          refine nX ?_
          refine h_one 8 rfl (by kernel_rfl) ?_
          intro K hK
          refine Sl.guard_yes rfl ?_
          refine s_call (same_c _ hst2 _ _ _ _ hu (hvs.mono hle2) (by have := encI_len (unzig x); omega)) inX rfl ?_
          clear hst2
          rintro v2 w2 ⟨rfl, hst2⟩
          have hst := hst2.weaken hle2
          refine hK _ _ _ hst ?_
          clear hK
          refine nX ?_
          ((refine h_take 9 rfl (by kernel_rfl) (by kernel_rfl) (by kernel_rfl) rfl (by exact qt_not rfl) hst ?_) <;> (try refine nX ?_))
          ((refine h_take 10 rfl (by kernel_rfl) (by kernel_rfl) (by kernel_rfl) rfl (by exact qt_pick_f rfl evX) hst ?_) <;> (try refine nX ?_))
          refine h_done (by kernel_rfl) ?_
          repeat' (((fail_if_success (go_big_may)); (go_step)))
          · go_ret3
            exact ⟨_, rfl, by rw [HR2.out, ← HX.out, if_pos (.inr (by simpa using ‹(!decide _) = true›))]; rfl, hst⟩
          · go_ret3
            exact ⟨_, rfl, by rw [HR2.out, ← HX.out, if_neg (by rintro (h | h); omega; exact h (by simpa using ‹(!decide _) = false›))]; rfl, hst⟩
        · have hm8 := unzig0 Hx64.out (by assumption)
          have hmi : I64 (unzig x) := unzig_i64 Hx64.out
          refine h_begin hst (by kernel_rfl) ?_; clear hst; intro w hst
          ((refine h_take 0 rfl (by kernel_rfl) (by kernel_rfl) (by kernel_rfl) rfl (by exact qt_move evX) hst ?_) <;> (try refine nX ?_))
          ((refine h_take 1 rfl (by kernel_rfl) (by kernel_rfl) (by kernel_rfl) rfl (qt_eql_b rfl rfl deX) hst ?_) <;> (try refine nX ?_))
          ((refine h_take 2 rfl (by kernel_rfl) (by kernel_rfl) (by kernel_rfl) rfl (by exact qt_move evX) hst ?_) <;> (try refine nX ?_))
          ((refine h_take 3 rfl (by kernel_rfl) (by kernel_rfl) (by kernel_rfl) rfl (by exact qt_move evX) hst ?_) <;> (try refine nX ?_))
          ((refine h_take 5 rfl (by kernel_rfl) (by kernel_rfl) (by kernel_rfl) rfl (by exact qt_move evX) hst ?_) <;> (try refine nX ?_))
          ((refine h_take 6 rfl (by kernel_rfl) (by kernel_rfl) (by kernel_rfl) rfl (by exact qt_move evX) hst ?_) <;> (try refine nX ?_))
          refine h_takex 7 rfl (by kernel_rfl) (by kernel_rfl) (by kernel_rfl) rfl (qt_slice (a := 0) (b := n) evX hb inX inX (.inl ⟨rfl, rfl⟩) (.inr ⟨.i64, rfl⟩) (.inl rfl) (Nat.zero_le _) hnb) hst ?_
          intro vs hvs
          rw [List.drop_zero, Nat.sub_zero] at hvs
          refine nX ?_
          refine h_one 4 rfl (by kernel_rfl) ?_
          intro K hK
          refine Sl.guard_yes rfl ?_
          refine s_call (refInt_f _ hst _ (by rw [hm8]; exact hmi)) inX rfl ?_
          rw [hm8]
          rintro u w' ⟨S2, hle2, hu, hu1, hst2⟩
          refine hK _ _ _ (hst2.weaken hle2) ?_
          clear hK hst
          refine nX ?_
          refine h_one 8 rfl (by kernel_rfl) ?_
          intro K hK
          refine Sl.guard_yes rfl ?_
          refine s_call (same_c _ hst2 _ _ _ _ hu (hvs.mono hle2) (by have := encI_len (unzig x); omega)) inX rfl ?_
          clear hst2
          rintro v2 w2 ⟨rfl, hst2⟩
          have hst := hst2.weaken hle2
          refine hK _ _ _ hst ?_
          clear hK
          refine nX ?_
          ((refine h_take 9 rfl (by kernel_rfl) (by kernel_rfl) (by kernel_rfl) rfl (by exact qt_not rfl) hst ?_) <;> (try refine nX ?_))
          ((refine h_take 10 rfl (by kernel_rfl) (by kernel_rfl) (by kernel_rfl) rfl (by exact qt_pick_f rfl evX) hst ?_) <;> (try refine nX ?_))
          refine h_done (by kernel_rfl) ?_
          repeat' (((fail_if_success (go_big_may)); (go_step)))
          · go_ret3
            exact ⟨_, rfl, by rw [HR2.out, ← HX.out, if_pos (.inr (by simpa using ‹(!decide _) = true›))]; rfl, hst⟩
          · go_ret3
            exact ⟨_, rfl, by rw [HR2.out, ← HX.out, if_neg (by rintro (h | h); omega; exact h (by simpa using ‹(!decide _) = false›))]; rfl, hst⟩
      · obtain ⟨i, rfl⟩ : ∃ i, j = i + 1 := ⟨j - 1, by omega⟩
        obtain rfl : k = (i : Int) := by omega
        clear hk
        have hib : i < b.length := by omega
        have hin : i < n := by omega
        have hvw := val_wrap (c := b[i]) hx.out
        rw [← val_step hnb hin] at hvw
        generalize hX : valF ((b.take n).drop i) % 2 ^ 64 = X at hvw
        have HXX := Lib.hid hX
        have h256 : b[i].toNat < 256 := b[i].toNat_lt
        clear hx hX
        repeat' (first | ((fail_if_success (go_big_may)); (go_step)) | ((first | (with_reducible refine Sl.k_load ?_; (refine s_qt hst (by exact qt_ldp_u8 evX asX inX) ?_)) | (with_reducible refine Sl.k_index ?_; (((refine s_ex hst (qt_index evX asX rfl inX inX omX omX) ?_); rintro v hp; (try simp only [Int.toNat_natCast, Int.toNat_natCast_add_one, Int.reduceToNat] at hp))))) <;> (try refine nX ?_)) | (with_reducible refine Sl.gate rfl ?_; (go_step)))
        go_roundw
        case rel => exact ⟨i, _, X, by omega, rfl, by omega, by first | rfl | exact congrArg (Value.int .u64) hvw, Lib.hid HXX.out.symm, hst⟩
        case measure => simp [intOf] <;> omega
end Go.Proofs.YtlimhgamebnfeaaDoor

/- Package wire: the references' decoding of lengths, byte strings and lists, walked. -/
--@opt
--@hgp
--@idxv
namespace Go.Proofs.YtlimhgamebnfeaaDoor
set_option linter.unusedSimpArgs false
set_option linter.unusedVariables false
open Go.RowKit Go.Sl

set_option maxRecDepth 8000 in
set_option maxHeartbeats 4000000 in
theorem refCount_c {S M} (w : World) (hst : St S M w) (vb : Value) (b : List UInt8) (hb : RSl S vb b) (hm : b.length ≤ 1048576) (s : Nat) (hs : 1 ≤ s ∧ s ≤ 16) :
    Rets Tryd.prog 89 [vb, .int .i64 (s : Nat)] w fun v w' => v = triple (refP s b) ∧ St S M w' := by
  unfold Rets
  obtain ⟨g1, g2, g3⟩ := getI_spec b
  have c := refGetInt_c w hst vb b hb hm
  have hP : refP s b = if (getI b).2.2 ≠ 0 then (0, 0, (getI b).2.2) else if (getI b).1 < 0 then (0, 0, 7) else if (b.length : Int) < (getI b).1 ∨ (b.length : Int) - (getI b).2.1 < (getI b).1 * s then (0, 0, 6) else getI b := rfl
  generalize hg : getI b = t at *
  obtain ⟨n, at_, e⟩ := t
  simp only at g1 g2 g3 hP
  have HP := Lib.hid hP
  clear hP hg
  rcases (show (e = 0) ∨ (e = 6) ∨ (e = 7) by rcases g3 with h | h | h; exact .inl h; simp at h; omega; simp at h; omega) with rfl | rfl | rfl
  · have c : Rets Tryd.prog 98 [vb] w (fun v w' => v = .tuple #[.int .i64 n, .int .i64 (at_ : Nat), .int .i64 0] ∧ St S M w') := c
    clear g3
    rcases (show n < 0 ∨ (0 ≤ n ∧ (b.length : Int) < n) ∨ (0 ≤ n ∧ n ≤ (b.length : Int)) by omega) with h | ⟨h, h2⟩ | ⟨h, h2⟩
    · go_enter Tryd.func89, Tryd.ntmps89
      repeat' (first | (((with_reducible refine Sl.k_call ?_; ((refine s_call (c) inX rfl ?_; clear hst; rintro v w ⟨rfl, hst⟩)))) <;> (try refine nX ?_) <;> (try replace hst := nH hst)) | ((fail_if_success (go_big_may)); (go_step)) | (with_reducible refine Sl.gate rfl ?_; (go_step)))
      go_ret3
      exact ⟨_, rfl, by rw [HP.out, if_neg (by simp), if_pos h]; rfl, hst⟩
    · go_enter Tryd.func89, Tryd.ntmps89
      repeat' (first | go_skip | (((with_reducible refine Sl.k_call ?_; ((refine s_call (c) inX rfl ?_; clear hst; rintro v w ⟨rfl, hst⟩)))) <;> (try refine nX ?_) <;> (try replace hst := nH hst)) | ((fail_if_success (go_big_may)); (go_step)) | (((with_reducible refine Sl.k_call ?_; (refine s_qt hst (by exact qt_len evX asX inX) ?_))) <;> (try refine nX ?_)) | (with_reducible refine Sl.gate rfl ?_; (go_step)))
      go_ret3
      exact ⟨_, rfl, by rw [HP.out, if_neg (by simp), if_neg (by omega), if_pos (.inl h2)]; rfl, hst⟩
    · obtain ⟨m, rfl⟩ : ∃ m : Nat, n = m := ⟨n.toNat, by omega⟩
      obtain ⟨q, hq⟩ : ∃ q : Int, (m : Int) * (s : Int) = q := ⟨_, rfl⟩
      have hq0 : 0 ≤ q ∧ q ≤ 16777216 := by
        subst hq
        have h1 : m * s ≤ 1048576 * 16 := Nat.mul_le_mul (by omega) hs.2
        have h2 : ((m : Int) * (s : Int)) = ((m * s : Nat) : Int) := by push_cast; rfl
        omega
      rw [hq] at HP
      by_cases h3 : (b.length : Int) - at_ < q
      · go_enter Tryd.func89, Tryd.ntmps89
        repeat' (first | (((with_reducible refine Sl.k_guard ?_; (first | (refine Sl.guard_yes rfl ?_) | (refine Sl.guard_cases rfl ?_ ?_ <;> intro hg <;> first | (exfalso; simp only [decide_eq_true_eq, decide_eq_false_iff_not, Bool.not_false, Bool.not_true, beq_iff_eq, beq_eq_false_iff_ne, ne_eq] at hg; omega) | (simp only [hg, Bool.not_true, Bool.not_false])) <;> (try simp only [decide_eq_true_eq, decide_eq_false_iff_not, Bool.not_false, Bool.not_true, beq_iff_eq, beq_eq_false_iff_ne, bne_iff_ne, bne_eq_false_iff_eq, ne_eq] at hg)))) <;> (try refine nX ?_)) | (((with_reducible refine Sl.k_call ?_; ((refine s_call (c) inX rfl ?_; clear hst; rintro v w ⟨rfl, hst⟩)))) <;> (try refine nX ?_) <;> (try replace hst := nH hst)) | ((fail_if_success (go_big_may)); (go_step)) | (((with_reducible refine Sl.k_call ?_; (refine s_qt hst (by exact qt_len evX asX inX) ?_))) <;> (try refine nX ?_)) | (with_reducible refine Sl.gate rfl ?_; (go_step)))
        go_ret3
        exact ⟨_, rfl, by rw [HP.out, if_neg (by simp), if_neg (by omega), if_pos (.inr h3)]; rfl, hst⟩
      · go_enter Tryd.func89, Tryd.ntmps89
        repeat' (first | (((with_reducible refine Sl.k_guard ?_; (first | (refine Sl.guard_yes rfl ?_) | (refine Sl.guard_cases rfl ?_ ?_ <;> intro hg <;> first | (exfalso; simp only [decide_eq_true_eq, decide_eq_false_iff_not, Bool.not_false, Bool.not_true, beq_iff_eq, beq_eq_false_iff_ne, ne_eq] at hg; omega) | (simp only [hg, Bool.not_true, Bool.not_false])) <;> (try simp only [decide_eq_true_eq, decide_eq_false_iff_not, Bool.not_false, Bool.not_true, beq_iff_eq, beq_eq_false_iff_ne, bne_iff_ne, bne_eq_false_iff_eq, ne_eq] at hg)))) <;> (try refine nX ?_)) | (((with_reducible refine Sl.k_call ?_; ((refine s_call (c) inX rfl ?_; clear hst; rintro v w ⟨rfl, hst⟩)))) <;> (try refine nX ?_) <;> (try replace hst := nH hst)) | ((fail_if_success (go_big_may)); (go_step)) | (((with_reducible refine Sl.k_call ?_; (refine s_qt hst (by exact qt_len evX asX inX) ?_))) <;> (try refine nX ?_)) | (with_reducible refine Sl.gate rfl ?_; (go_step)))
        go_ret3
        exact ⟨_, rfl, by rw [HP.out, if_neg (by simp), if_neg (by omega), if_neg (by omega)]; rfl, hst⟩
  · have c : Rets Tryd.prog 98 [vb] w (fun v w' => v = .tuple #[.int .i64 n, .int .i64 (at_ : Nat), .int .i64 6] ∧ St S M w') := c
    go_enter Tryd.func89, Tryd.ntmps89
    repeat' (first | (((with_reducible refine Sl.k_call ?_; ((refine s_call (c) inX rfl ?_; clear hst; rintro v w ⟨rfl, hst⟩)))) <;> (try refine nX ?_) <;> (try replace hst := nH hst)) | ((fail_if_success (go_big_may)); (go_step)) | (with_reducible refine Sl.gate rfl ?_; (go_step)))
    go_ret3
    exact ⟨_, rfl, by rw [HP.out, if_pos (by simp)]; rfl, hst⟩
  · have c : Rets Tryd.prog 98 [vb] w (fun v w' => v = .tuple #[.int .i64 n, .int .i64 (at_ : Nat), .int .i64 7] ∧ St S M w') := c
    go_enter Tryd.func89, Tryd.ntmps89
    repeat' (first | (((with_reducible refine Sl.k_call ?_; ((refine s_call (c) inX rfl ?_; clear hst; rintro v w ⟨rfl, hst⟩)))) <;> (try refine nX ?_) <;> (try replace hst := nH hst)) | ((fail_if_success (go_big_may)); (go_step)) | (with_reducible refine Sl.gate rfl ?_; (go_step)))
    go_ret3
    exact ⟨_, rfl, by rw [HP.out, if_pos (by simp)]; rfl, hst⟩

end Go.Proofs.YtlimhgamebnfeaaDoor

/- Package wire: the references' decoding of byte strings and of lists of digests, walked. -/
--@opt
--@hgp
--@idxv
--@so
namespace Go.Proofs.YtlimhgamebnfeaaDoor
set_option linter.unusedSimpArgs false
set_option linter.unusedVariables false
open Go.RowKit Go.Sl

set_option maxRecDepth 8000 in
set_option maxHeartbeats 4000000 in
theorem refGetBytes_c {S M} (w : World) (hst : St S M w) (vb : Value) (b : List UInt8) (hb : RSl S vb b) (hm : b.length ≤ 1048576) :
    Rets Tryd.prog 66 [vb] w fun v w' => v = .tuple #[.string ⟨(getB b).1.toArray⟩, .int .i64 ((getB b).2.1 : Nat), .int .i64 ((getB b).2.2 : Nat)] ∧ St S M w' := by
  unfold Rets
  have h1 := hb.oneCell
  have c := refCount_c w hst vb b hb hm 1 (by omega)
  have hsp := countP_spec (s := 1) (b := b) (by omega)
  have hP : getB b = if (countP 1 b).2.2 ≠ 0 then ([], 0, (countP 1 b).2.2) else ((b.drop (countP 1 b).2.1).take (countP 1 b).1.toNat, (countP 1 b).2.1 + (countP 1 b).1.toNat, 0) := rfl
  obtain ⟨e1, e2⟩ := refP_eq (s := 1) (by omega) b
  generalize countP 1 b = t at *
  generalize refP 1 b = r at *
  obtain ⟨n, at_, e⟩ := t
  simp only at hsp hP e1 e2
  rcases hsp with ⟨rfl, h1, h2⟩ | rfl | rfl
  · obtain ⟨n, rfl⟩ : ∃ m : Nat, n = m := ⟨n.toNat, by omega⟩
    rw [if_neg (by simp), Int.toNat_natCast] at hP
    obtain rfl := e2 rfl
    have HP := Lib.hid hP
    clear hP e1 e2
    have c : Rets Tryd.prog 89 [vb, .int .i64 1] w (fun v w' => v = .tuple #[.int .i64 (n : Nat), .int .i64 (at_ : Nat), .int .i64 0] ∧ St S M w') := c
    have h2 : at_ + n * 1 ≤ b.length := by simpa using h2
    go_enter Tryd.func66, Tryd.ntmps66
    repeat' (first | (((with_reducible refine Sl.k_call ?_; ((refine s_call (c) inX rfl ?_; clear hst; rintro v w ⟨rfl, hst⟩)))) <;> (try refine nX ?_) <;> (try replace hst := nH hst)) | ((fail_if_success (go_big_may)); (go_step)) | (with_reducible refine Sl.gate rfl ?_; (go_step)))
    have h3 : at_ + n ≤ b.length := by omega
    refine s_slice (a := at_) (b := at_ + n) evX hb inX inX (.inr ⟨.i64, by simp [evF, nth]⟩) (.inr ⟨.i64, by simp [evF, nth]⟩) (.inl rfl) (by omega) h3 ?_
    intro vs hvs
    refine nX ?_
    refine s_qt hst (qt_string evX hvs inX Tryd.underlying5 Tryd.underlying9) ?_
    refine nX ?_
    repeat' (first | ((fail_if_success (go_big_may)); (go_step)) | (with_reducible refine Sl.gate rfl ?_; (go_step)))
    go_ret3
    exact ⟨_, rfl, by rw [HP.out, Nat.add_sub_cancel_left]; rfl, hst⟩
  · obtain ⟨r1, r2, r3⟩ := r
    obtain rfl : r3 = 6 := e1
    have c : Rets Tryd.prog 89 [vb, .int .i64 1] w (fun v w' => v = .tuple #[.int .i64 r1, .int .i64 (r2 : Nat), .int .i64 6] ∧ St S M w') := c
    go_enter Tryd.func66, Tryd.ntmps66
    repeat' (first | (((with_reducible refine Sl.k_call ?_; ((refine s_call (c) inX rfl ?_; clear hst; rintro v w ⟨rfl, hst⟩)))) <;> (try refine nX ?_) <;> (try replace hst := nH hst)) | ((fail_if_success (go_big_may)); (go_step)) | (with_reducible refine Sl.gate rfl ?_; (go_step)))
    go_ret3
    exact ⟨_, rfl, by rw [hP, if_pos (by simp)]; rfl, hst⟩
  · obtain ⟨r1, r2, r3⟩ := r
    obtain rfl : r3 = 7 := e1
    have c : Rets Tryd.prog 89 [vb, .int .i64 1] w (fun v w' => v = .tuple #[.int .i64 r1, .int .i64 (r2 : Nat), .int .i64 7] ∧ St S M w') := c
    go_enter Tryd.func66, Tryd.ntmps66
    repeat' (first | (((with_reducible refine Sl.k_call ?_; ((refine s_call (c) inX rfl ?_; clear hst; rintro v w ⟨rfl, hst⟩)))) <;> (try refine nX ?_) <;> (try replace hst := nH hst)) | ((fail_if_success (go_big_may)); (go_step)) | (with_reducible refine Sl.gate rfl ?_; (go_step)))
    go_ret3
    exact ⟨_, rfl, by rw [hP, if_pos (by simp)]; rfl, hst⟩

theorem zero_set {xs : List UInt8} {x : UInt8} {j m k : Nat} (h : (u8s xs).length = j) (hm : m = k + 1) :
    (u8s xs ++ List.replicate m (Value.int .u8 0)).take j ++ [Value.int .u8 (x.toNat : Nat)] ++ (u8s xs ++ List.replicate m (Value.int .u8 0)).drop (j + 1) = u8s (xs ++ [x]) ++ List.replicate k (Value.int .u8 0) := by
  subst hm; subst h
  rw [List.take_left, List.drop_append, List.drop_of_length_le (by omega), u8s_snoc, Nat.add_sub_cancel_left, List.replicate_succ]
  simp

set_option maxRecDepth 8000 in
set_option maxHeartbeats 4000000 in
theorem refGetDigs_c {S M} (w : World) (hst : St S M w) (vb : Value) (b : List UInt8) (hb : RSl S vb b) (hm : b.length ≤ 1048576) :
    Rets Tryd.prog 99 [vb] w fun v w' => digsPost S M (getDg b) v w' := by
  unfold Rets
  have h1 := hb.oneCell
  have c := refCount_c w hst vb b hb hm 16 (by omega)
  have hsp := countP_spec (s := 16) (b := b) (by omega)
  have hP : getDg b = if (countP 16 b).2.2 ≠ 0 then ([], 0, (countP 16 b).2.2) else (chunks (countP 16 b).1.toNat (b.drop (countP 16 b).2.1), (countP 16 b).2.1 + 16 * (countP 16 b).1.toNat, 0) := rfl
  obtain ⟨e1, e2⟩ := refP_eq (s := 16) (by omega) b
  generalize countP 16 b = t at *
  generalize refP 16 b = r at *
  obtain ⟨n, at_, e⟩ := t
  simp only at hsp hP e1 e2
  rcases hsp with ⟨rfl, h1, h2⟩ | rfl | rfl
  · obtain ⟨n, rfl⟩ : ∃ m : Nat, n = m := ⟨n.toNat, by omega⟩
    rw [if_neg (by simp), Int.toNat_natCast] at hP
    obtain rfl := e2 rfl
    have HP := Lib.hid hP
    clear hP e1 e2
    have c : Rets Tryd.prog 89 [vb, .int .i64 16] w (fun v w' => v = .tuple #[.int .i64 (n : Nat), .int .i64 (at_ : Nat), .int .i64 0] ∧ St S M w') := c
    have h2 : at_ + n * 16 ≤ b.length := by simpa using h2
    go_enter Tryd.func99, Tryd.ntmps99
    repeat' (first | (((with_reducible refine Sl.k_call ?_; ((refine s_call (c) inX rfl ?_; clear hst; rintro v w ⟨rfl, hst⟩)))) <;> (try refine nX ?_) <;> (try replace hst := nH hst)) | ((fail_if_success (go_big_may)); (go_step)) | (with_reducible refine Sl.gate rfl ?_; (go_step)))
    go_loopw [6, 8, 9] (fun va vo v wr => ∃ i a : Nat, i ≤ n ∧ v = .int .i64 i ∧ va = .int .i64 a ∧ Hid (a = at_ + 16 * i) ∧
      St S (.sl vo 38 16 i (cF dgC (chunks i (b.drop at_))) :: M) wr) (fun _ _ v _ => n - (intOf v).toNat)
    case atStart => exact ⟨0, at_, Nat.zero_le _, rfl, rfl, Lib.hid (by omega), hst.nil 38 16⟩
    case round =>
      clear hst c
      obtain ⟨i, a, hi, rfl, rfl, Ha, hst⟩ := hrel
      have hvo := sl_one hst
      have hab : i < n → a + 16 ≤ b.length := by have := Ha.out; omega
      by_cases hlt : i < n
      · have hab := hab hlt
        have hD : ((b.drop a).take 16).length = 16 := by rw [List.length_take, List.length_drop]; omega
        repeat' (first | ((fail_if_success (go_big_may)); (go_step)) | (with_reducible refine Sl.gate rfl ?_; (go_step)) | (((((refine s_alloc hst inX ?_; clear hst; intro bk w hst)))) <;> (try refine nX ?_) <;> (try replace hst := nH hst)))
        go_loopw [11] (fun v wr => ∃ j : Nat, j ≤ 16 ∧ v = .int .i64 j ∧ St S (.box bk (u8s ((b.drop a).take j) ++ List.replicate (16 - j) (.int .u8 0)) 38 :: .sl _ 38 16 i (cF dgC (chunks i (b.drop at_))) :: M) wr) (fun v _ => 16 - (intOf v).toNat)
        case atStart => exact ⟨0, by omega, rfl, hst⟩
        case round =>
          clear hst
          obtain ⟨j, hj, rfl, hst⟩ := hrel
          by_cases hlj : j < 16
          · have haj : a + j < b.length := by omega
            have hul : (u8s ((b.drop a).take j)).length = j := by rw [u8s_length, List.length_take, List.length_drop]; omega
            repeat' (first | ((fail_if_success (go_big_may)); (go_step)) | ((first | (with_reducible refine Sl.k_load ?_; (refine s_qt hst (by exact qt_ldp_u8 evX asX inX) ?_)) | (with_reducible refine Sl.k_index ?_; (first | refine s_qt hst (qt_indexA rfl rfl inX inX omX omX) ?_ | ((refine s_ex hst (qt_index evX asX rfl inX inX omX omX) ?_); rintro v hp; (try simp only [Int.toNat_natCast, Int.toNat_natCast_add_one, Int.reduceToNat] at hp))))) <;> (try refine nX ?_)) | (with_reducible refine Sl.gate rfl ?_; (go_step)) | (((((with_reducible refine Sl.k_store ?_; (refine s_store hst rfl _ BoxIn.h inX evX rfl lenOk oneOk (by simp <;> omega) ?_); clear hst; intro w hst)))) <;> (try refine nX ?_) <;> (try replace hst := nH hst)))
            go_roundw
            case rel => exact ⟨j + 1, by omega, by go_num, by
              have e := zero_set (x := b[a + j]) hul (show 16 - j = (16 - (j + 1)) + 1 by omega)
              have e2 : ((b.drop a).take j) ++ [b[a + j]] = (b.drop a).take (j + 1) := by
                rw [List.take_add_one, List.getElem?_drop, List.getElem?_eq_getElem haj]; rfl
              rw [e2] at e
              first | exact e ▸ hst | (have hst := hst; simp only [Int.toNat_natCast] at hst; exact e ▸ hst)⟩
            case measure => simp [intOf]; omega
          · obtain rfl : j = 16 := by omega
            have hDl : (u8s ((b.drop a).take 16)).length = 16 := by rw [u8s_length, hD]
            rw [show u8s ((b.drop a).take 16) ++ List.replicate (16 - 16) (Value.int .u8 0) = u8s ((b.drop a).take 16) by simp] at hst
            repeat' (first | ((fail_if_success (go_big_may)); (go_step)) | (with_reducible refine Sl.gate rfl ?_; (go_step)))
            refine s_load hst rfl _ BoxIn.h inX rfl (by simp [hDl]) ?_
            rw [List.drop_zero, List.take_of_length_le (by omega)]
            refine nX ?_
            refine s_lit (vs := [.agg (u8s ((b.drop a).take 16)).toArray]) hst inX inX rfl rfl (by simp [Value.cells, hDl]) rfl (by omega) (by omega) ?_
            clear hst; intro u w hst
            refine nX ?_
            repeat' (fail)
            refine s_append (j := 0) hst evX evX SlIn.h rfl inX inX inX (by simpa [Value.cells] using u8s_one ((b.drop a).take 16)) (by omega) (by omega) (by decide) ?_
            clear hst; intro v' w hst
            refine nX ?_
            (try replace hst := nH hst)
            replace hst := hst.drop.drop
            repeat' (first | ((fail_if_success (go_big_may)); (go_step)) | (with_reducible refine Sl.gate rfl ?_; (go_step)))
            go_roundw
            case rel =>
              refine ⟨i + 1, a + 16, by omega, by go_num, by go_num, Lib.hid (by have := Ha.out; omega), ?_⟩
              rw [chunks_snoc, cF_snoc, List.drop_drop, ← Ha.out]
              exact hst
            case measure => simp [intOf]; omega
      · repeat' (first | ((fail_if_success (go_big_may)); (go_step)) | (with_reducible refine Sl.gate rfl ?_; (go_step)))
        go_ret3
        refine ⟨_, rfl, ?_⟩
        unfold digsPost
        obtain rfl : i = n := by omega
        have hal : a = at_ + 16 * i := Ha.out
        rw [HP.out, ← hal]
        simp only [chunks_len]
        exact ⟨_, rfl, hst⟩
  · obtain ⟨r1, r2, r3⟩ := r
    obtain rfl : r3 = 6 := e1
    have c : Rets Tryd.prog 89 [vb, .int .i64 16] w (fun v w' => v = .tuple #[.int .i64 r1, .int .i64 (r2 : Nat), .int .i64 6] ∧ St S M w') := c
    go_enter Tryd.func99, Tryd.ntmps99
    repeat' (first | (((with_reducible refine Sl.k_call ?_; ((refine s_call (c) inX rfl ?_; clear hst; rintro v w ⟨rfl, hst⟩)))) <;> (try refine nX ?_) <;> (try replace hst := nH hst)) | ((fail_if_success (go_big_may)); (go_step)) | (with_reducible refine Sl.gate rfl ?_; (go_step)))
    go_ret3
    exact ⟨_, rfl, .slice none 0 0, by rw [hP, if_pos (by simp)]; rfl, by rw [hP, if_pos (by simp)]; exact hst.nil 38 16⟩
  · obtain ⟨r1, r2, r3⟩ := r
    obtain rfl : r3 = 7 := e1
    have c : Rets Tryd.prog 89 [vb, .int .i64 16] w (fun v w' => v = .tuple #[.int .i64 r1, .int .i64 (r2 : Nat), .int .i64 7] ∧ St S M w') := c
    go_enter Tryd.func99, Tryd.ntmps99
    repeat' (first | (((with_reducible refine Sl.k_call ?_; ((refine s_call (c) inX rfl ?_; clear hst; rintro v w ⟨rfl, hst⟩)))) <;> (try refine nX ?_) <;> (try replace hst := nH hst)) | ((fail_if_success (go_big_may)); (go_step)) | (with_reducible refine Sl.gate rfl ?_; (go_step)))
    go_ret3
    exact ⟨_, rfl, .slice none 0 0, by rw [hP, if_pos (by simp)]; rfl, by rw [hP, if_pos (by simp)]; exact hst.nil 38 16⟩
end Go.Proofs.YtlimhgamebnfeaaDoor

/- Package manifest's references: the decoders: a number, digests, how many. -/
--@hgp
--@flat
--@dg
--@ex0
namespace Go.Proofs.YtlimhgamebnfeaaDoor
set_option linter.unusedSimpArgs false
set_option linter.unusedVariables false
open Go.RowKit Go.Sl

/-- What remains for the reference's decoders: clipped, with the errno; given by value. -/
abbrev RestP (S : Snap) (s : PS) (a : Option Addr) (n c : Nat) : Prop := RSl S (.slice a n c) (clip s).1
abbrev restT : TypeId := 91
theorem rsl_nil {α : Type} [Rep α] {S : Snap} : RSl (α := α) S (.slice none 0 0) [] := by
  first | exact RSl.nil | exact nilSl | (left; exact ⟨_, _, rfl, by simp⟩)

set_option maxRecDepth 8000 in
set_option maxHeartbeats 1000000 in
theorem rnum_c {S M} (w : World) (hst : St S M w) (a : Option Addr) (n c : Nat) (s : PS) (hvb : RestP S s a n c) (hm : s.1.length ≤ 1048576) :
    Rets Tryd.prog 83 [.agg #[.slice a n c, .int .i64 (s.2 : Nat)]] w fun v w' => ∃ a' n' c', v = .tuple #[.int .i64 (nxt 0 getI s).1, .agg #[.slice a' n' c', .int .i64 ((nxt 0 getI s).2.2 : Nat)]] ∧ RestP S (nxt 0 getI s).2 a' n' c' ∧ St S M w' := by
  unfold Rets
  obtain ⟨b, e⟩ := s
  simp only at hm
  by_cases he : e = 0
  · subst he
    have hvb : RSl S (.slice a n c) b := hvb
    have hu := getI_used b
    have cg := fun {M : List Chunk} (w : World) (hst : St S M w) => refGetInt_c w hst (.slice a n c) b hvb hm
    unfold triple at cg
    obtain ⟨⟨x, used, e⟩, hr⟩ : ∃ r, getI b = r := ⟨_, rfl⟩
    rw [hr] at hu cg
    simp only at hu cg
    by_cases h2 : e = 0
    · subst h2
      have hu' := hu rfl
      rw [nxt_yes (s := (b, 0)) rfl hr]
      have hvz0 : RSl S (.slice a n c) b := hvb
      go_enter Tryd.func83, Tryd.ntmps83
      repeat' ((fail_if_success (with_reducible show Code.wp _ (Code.region 6 _ _) _ _ _)); first | (((with_reducible refine Sl.k_call ?_; ((refine s_call (cg _ hst) inX rfl ?_; clear hst; rintro v w ⟨rfl, hst⟩)))) <;> (try refine nX ?_) <;> (try replace hst := nH hst)) | ((fail_if_success (go_big_may)); (go_step)) | ((first | (with_reducible refine Sl.k_load ?_; (refine s_qt hst (by exact qt_load rfl _ BoxIn.h inX rfl rfl) ?_)) | (with_reducible refine Sl.k_field ?_; (refine s_qt hst (qt_field rfl inX) ?_))) <;> (try refine nX ?_)) | (with_reducible refine Sl.gate rfl ?_; (go_step)) | ((((first | (refine s_box hst evX rfl ?_; clear hst; intro bx w hst) | (refine s_alloc hst inX ?_; clear hst; intro bk w hst)))) <;> (try refine nX ?_) <;> (try replace hst := nH hst)))
      refine p_begin hst (by kernel_rfl) ?_; clear hst; intro w hst; (try refine nX ?_)
      refine p_take 0 (by repeat (first | exact panicQ_body | refine panicQ_then ?_ | refine panicQ_block ?_)) rfl (by kernel_rfl) (by kernel_rfl) (by kernel_rfl) rfl (fun _ _ => qt_move evX) ?_; (try refine nX ?_)
      refine p_take 1 (by repeat (first | exact panicQ_body | refine panicQ_then ?_ | refine panicQ_block ?_)) rfl (by kernel_rfl) (by kernel_rfl) (by kernel_rfl) rfl (fun _ _ => qt_field rfl inX) ?_; (try refine nX ?_)
      refine p_take 3 (by repeat (first | exact panicQ_body | refine panicQ_then ?_ | refine panicQ_block ?_)) rfl (by kernel_rfl) (by kernel_rfl) (by kernel_rfl) rfl (fun _ _ => qt_move evX) ?_; (try refine nX ?_)
      refine p_take 6 (by repeat (first | exact panicQ_body | refine panicQ_then ?_ | refine panicQ_block ?_)) rfl (by kernel_rfl) (by kernel_rfl) (by kernel_rfl) rfl (fun _ _ => qt_assign evX) ?_; (try refine nX ?_)
      refine p_one 2 rfl (by kernel_rfl) ?_; intro K hK; refine s_qt hst (qt_load rfl _ BoxIn.h inX rfl rfl) ?_; (try refine nX ?_); (try replace hst := nH hst); refine p_next hK ?_; clear hK K; (try refine nX ?_)
      refine p_one 4 rfl (by kernel_rfl) ?_; intro K hK; refine s_slice (a := used) (b := b.length) evX hvb inX inX (.inr ⟨.i64, by simp [evF, nth]⟩) (.inl ⟨rfl, rfl⟩) (.inl rfl) (by omega) (by omega) ?_; intro vz hvz; rw [drop_all] at hvz; obtain ⟨az, nz, cz, rfl⟩ := rsl_form hvz; (try refine nX ?_); (try replace hst := nH hst); refine p_next hK ?_; clear hK K; (try refine nX ?_)
      refine p_one 5 rfl (by kernel_rfl) ?_; intro K hK; refine s_qt hst (qt_buildS (cs := [.slice az nz cz, .int .i64 0]) inX inX (by kernel_rfl)) ?_; (try refine nX ?_); (try replace hst := nH hst); refine p_next hK ?_; clear hK K; (try refine nX ?_)
      refine p_one 7 rfl (by kernel_rfl) ?_; intro K hK; (first | refine s_stR hst rfl BoxIn.h evX asX inX rfl rfl ?_ | refine s_store hst rfl _ BoxIn.h inX evX rfl lenOk oneOk (by simp <;> omega) ?_); clear hst; intro w hst; (try refine nX ?_); (try replace hst := nH hst); refine p_next hK ?_; clear hK K; (try refine nX ?_)
      refine p_done (by kernel_rfl) ?_
      all_goals
        repeat' (((fail_if_success (go_big_may)); (go_step)))
        refine ret_two rfl (rv_tmp rfl) (rv_cell hst rfl _ BoxIn.h inX rfl rfl) ?_; (try simp only [nth, List.drop_zero, List.drop_succ_cons, List.take_succ_cons, List.take_zero, vOf_true, vOf_false])
        exact ⟨_, rfl, _, _, _, rfl, hvz, hst.drop.drop⟩
    · have h3 : (e : Int) ≠ 0 := by omega
      rw [nxt_no (s := (b, 0)) rfl hr h2]
      go_enter Tryd.func83, Tryd.ntmps83
      repeat' (first | (((with_reducible refine Sl.k_call ?_; ((refine s_call (cg _ hst) inX rfl ?_; clear hst; rintro v w ⟨rfl, hst⟩)))) <;> (try refine nX ?_) <;> (try replace hst := nH hst)) | ((fail_if_success (go_big_may)); (go_step)) | ((first | (with_reducible refine Sl.k_load ?_; (refine s_qt hst (by exact qt_load rfl _ BoxIn.h inX rfl rfl) ?_)) | (with_reducible refine Sl.k_field ?_; (refine s_qt hst (qt_field rfl inX) ?_))) <;> (try refine nX ?_)) | (with_reducible refine Sl.gate rfl ?_; (go_step)) | ((((first | (with_reducible refine Sl.k_store ?_; (refine s_store hst rfl _ BoxIn.h inX evX rfl lenOk oneOk (by simp) ?_); clear hst; intro w hst) | (refine s_box hst evX rfl ?_; clear hst; intro bx w hst) | (refine s_alloc hst inX ?_; clear hst; intro bk w hst)))) <;> (try refine nX ?_) <;> (try replace hst := nH hst)))
      refine ret_two rfl (rv_tmp rfl) (rv_cell hst rfl _ BoxIn.h inX rfl rfl) ?_; (try simp only [nth, List.drop_zero, List.drop_succ_cons, List.take_succ_cons, List.take_zero, vOf_true, vOf_false])
      exact ⟨_, rfl, none, 0, 0, rfl, by show RSl S _ (clip (b, e)).1; rw [clip_err h2]; exact rsl_nil, hst.drop.drop⟩
  · have h3 : (e : Int) ≠ 0 := by omega
    rw [nxt_err (s := (b, e)) he]
    go_enter Tryd.func83, Tryd.ntmps83
    repeat' ((fail_if_success (with_reducible show Code.wp _ (Code.region 2 _ _) _ _ _)); first | ((fail_if_success (go_big_may)); (go_step)) | ((first | (with_reducible refine Sl.k_load ?_; (refine s_qt hst (by exact qt_load rfl _ BoxIn.h inX rfl rfl) ?_)) | (with_reducible refine Sl.k_field ?_; (refine s_qt hst (qt_field rfl inX) ?_))) <;> (try refine nX ?_)) | (with_reducible refine Sl.gate rfl ?_; (go_step)) | ((((first | (refine s_box hst evX rfl ?_; clear hst; intro bx w hst) | (refine s_alloc hst inX ?_; clear hst; intro bk w hst)))) <;> (try refine nX ?_) <;> (try replace hst := nH hst)))
    refine p_begin hst (by kernel_rfl) ?_; clear hst; intro w hst; (try refine nX ?_)
    refine p_take 1 (by repeat (first | exact panicQ_body | refine panicQ_then ?_ | refine panicQ_block ?_)) rfl (by kernel_rfl) (by kernel_rfl) (by kernel_rfl) rfl (fun _ _ => qt_assign evX) ?_; (try refine nX ?_)
    refine p_one 0 rfl (by kernel_rfl) ?_; intro K hK; refine s_qt hst (qt_load rfl _ BoxIn.h inX rfl rfl) ?_; (try refine nX ?_); (try replace hst := nH hst); refine p_next hK ?_; clear hK K; (try refine nX ?_)
    refine p_one 2 rfl (by kernel_rfl) ?_; intro K hK; (first | refine s_stR hst rfl BoxIn.h evX asX inX rfl rfl ?_ | refine s_store hst rfl _ BoxIn.h inX evX rfl lenOk oneOk (by simp <;> omega) ?_); clear hst; intro w hst; (try refine nX ?_); (try replace hst := nH hst); refine p_next hK ?_; clear hK K; (try refine nX ?_)
    refine p_done (by kernel_rfl) ?_
    all_goals
      repeat' (((fail_if_success (go_big_may)); (go_step)))
      refine ret_two rfl (rv_tmp rfl) (rv_cell hst rfl _ BoxIn.h inX rfl rfl) ?_; (try simp only [nth, List.drop_zero, List.drop_succ_cons, List.take_succ_cons, List.take_zero, vOf_true, vOf_false])
      exact ⟨_, rfl, a, n, c, rfl, hvb, hst.drop.drop⟩
end Go.Proofs.YtlimhgamebnfeaaDoor

/- Package manifest's references: the decoders: digests, how many. -/
--@hgp
--@flat
--@dg
--@ex0
namespace Go.Proofs.YtlimhgamebnfeaaDoor
set_option linter.unusedSimpArgs false
set_option linter.unusedVariables false
open Go.RowKit Go.Sl

abbrev RdPost (S : Snap) (M : List Chunk) (r : List Dg × PS) (v : Value) (w : World) : Prop :=
  ∃ S' a0 n0 c0 a' n' c', S.Le S' ∧ v = .tuple #[.slice a0 n0 c0, .agg #[.slice a' n' c', .int .i64 (r.2.2 : Nat)]] ∧ RSl S' (.slice a0 n0 c0) r.1 ∧ RestP S' r.2 a' n' c' ∧ St S' M w
set_option maxRecDepth 8000 in
set_option maxHeartbeats 1000000 in
theorem rdigs_c {S M} (w : World) (hst : St S M w) (a : Option Addr) (n c : Nat) (s : PS) (hvb : RestP S s a n c) (hm : s.1.length ≤ 1048576) :
    Rets Tryd.prog 84 [.agg #[.slice a n c, .int .i64 (s.2 : Nat)]] w fun v w' => RdPost S M (nxt [] getDg s) v w' := by
  unfold Rets
  obtain ⟨b, e⟩ := s
  simp only at hm
  by_cases he : e = 0
  · subst he
    have hvb : RSl S (.slice a n c) b := hvb
    have hu := getDg_used b
    have cg := fun {M : List Chunk} (w : World) (hst : St S M w) => refGetDigs_c w hst (.slice a n c) b hvb hm
    have h16 := getDg_16 b
    unfold digsPost at cg
    obtain ⟨⟨x, used, e⟩, hr⟩ : ∃ r, getDg b = r := ⟨_, rfl⟩
    rw [hr] at hu cg h16
    simp only at hu cg h16
    by_cases h2 : e = 0
    · subst h2
      have hu' := hu rfl
      rw [nxt_yes (s := (b, 0)) rfl hr]
      by_cases hd : x = []
      · subst hd
        go_enter Tryd.func84, Tryd.ntmps84
        repeat' ((fail_if_success (with_reducible show Code.wp _ (Code.region 8 _ _) _ _ _)); first | (with_reducible refine Sl.k_call ?_; ((refine s_call (cg _ hst) inX rfl ?_; clear hst; rintro _ w ⟨u, rfl, hstA⟩; obtain ⟨ua, un, uc, rfl⟩ := sl_form hstA; obtain ⟨S2, hS2, hst, hv⟩ := St.freeze (α := Dg) hstA (rl_digs h16) rfl; clear hstA; (try refine nX ?_)))) | ((fail_if_success (go_big_may)); (go_step)) | ((first | (with_reducible refine Sl.k_load ?_; (refine s_qt hst (by exact qt_load rfl _ BoxIn.h inX rfl rfl) ?_)) | (with_reducible refine Sl.k_field ?_; (refine s_qt hst (qt_field rfl inX) ?_)) | (with_reducible refine Sl.k_call ?_; (refine s_qt hst (by exact qt_len evX asX inX) ?_))) <;> (try refine nX ?_)) | (with_reducible refine Sl.gate rfl ?_; (go_step)) | ((((first | (refine s_box hst evX rfl ?_; clear hst; intro bx w hst) | (refine s_alloc hst inX ?_; clear hst; intro bk w hst)))) <;> (try refine nX ?_) <;> (try replace hst := nH hst)))
        have hvb := hvb.mono hS2
        refine p_begin hst (by kernel_rfl) ?_; clear hst; intro w hst; (try refine nX ?_)
        refine p_take 0 (by repeat (first | exact panicQ_body | refine panicQ_then ?_ | refine panicQ_block ?_)) rfl (by kernel_rfl) (by kernel_rfl) (by kernel_rfl) rfl (fun _ _ => qt_move evX) ?_; (try refine nX ?_)
        refine p_take 1 (by repeat (first | exact panicQ_body | refine panicQ_then ?_ | refine panicQ_block ?_)) rfl (by kernel_rfl) (by kernel_rfl) (by kernel_rfl) rfl (fun _ _ => qt_field rfl inX) ?_; (try refine nX ?_)
        refine p_take 3 (by repeat (first | exact panicQ_body | refine panicQ_then ?_ | refine panicQ_block ?_)) rfl (by kernel_rfl) (by kernel_rfl) (by kernel_rfl) rfl (fun _ _ => qt_move evX) ?_; (try refine nX ?_)
        refine p_take 6 (by repeat (first | exact panicQ_body | refine panicQ_then ?_ | refine panicQ_block ?_)) rfl (by kernel_rfl) (by kernel_rfl) (by kernel_rfl) rfl (fun _ _ => qt_assign evX) ?_; (try refine nX ?_)
        refine p_one 2 rfl (by kernel_rfl) ?_; intro K hK; refine s_qt hst (qt_load rfl _ BoxIn.h inX rfl rfl) ?_; (try refine nX ?_); (try replace hst := nH hst); refine p_next hK ?_; clear hK K; (try refine nX ?_)
        refine p_one 4 rfl (by kernel_rfl) ?_; intro K hK; refine s_slice (a := used) (b := b.length) evX hvb inX inX (.inr ⟨.i64, by simp [evF, nth]⟩) (.inl ⟨rfl, rfl⟩) (.inl rfl) (by omega) (by omega) ?_; intro vz hvz; rw [drop_all] at hvz; obtain ⟨az, nz, cz, rfl⟩ := rsl_form hvz; (try refine nX ?_); (try replace hst := nH hst); refine p_next hK ?_; clear hK K; (try refine nX ?_)
        refine p_one 5 rfl (by kernel_rfl) ?_; intro K hK; refine s_qt hst (qt_buildS (cs := [.slice az nz cz, .int .i64 0]) inX inX (by kernel_rfl)) ?_; (try refine nX ?_); (try replace hst := nH hst); refine p_next hK ?_; clear hK K; (try refine nX ?_)
        refine p_one 7 rfl (by kernel_rfl) ?_; intro K hK; (first | refine s_stR hst rfl BoxIn.h evX asX inX rfl rfl ?_ | refine s_store hst rfl _ BoxIn.h inX evX rfl lenOk oneOk (by simp <;> omega) ?_); clear hst; intro w hst; (try refine nX ?_); (try replace hst := nH hst); refine p_next hK ?_; clear hK K; (try refine nX ?_)
        refine p_done (by kernel_rfl) ?_
        all_goals
          repeat' (((fail_if_success (go_big_may)); (go_step)))
          refine ret_two rfl (rv_tmp rfl) (rv_cell hst rfl _ BoxIn.h inX rfl rfl) ?_; (try simp only [nth, List.drop_zero, List.drop_succ_cons, List.take_succ_cons, List.take_zero, vOf_true, vOf_false])
          exact ⟨_, rfl, S2, _, _, _, _, _, _, hS2, rfl, nilSl, hvz, hst.drop.drop⟩
      · have hl : 0 < x.length := List.length_pos_iff.2 hd
        go_enter Tryd.func84, Tryd.ntmps84
        repeat' ((fail_if_success (with_reducible show Code.wp _ (Code.region 8 _ _) _ _ _)); first | (with_reducible refine Sl.k_call ?_; ((refine s_call (cg _ hst) inX rfl ?_; clear hst; rintro _ w ⟨u, rfl, hstA⟩; obtain ⟨ua, un, uc, rfl⟩ := sl_form hstA; obtain ⟨S2, hS2, hst, hv⟩ := St.freeze (α := Dg) hstA (rl_digs h16) rfl; clear hstA; (try refine nX ?_)))) | ((fail_if_success (go_big_may)); (go_step)) | ((first | (with_reducible refine Sl.k_load ?_; (refine s_qt hst (by exact qt_load rfl _ BoxIn.h inX rfl rfl) ?_)) | (with_reducible refine Sl.k_field ?_; (refine s_qt hst (qt_field rfl inX) ?_)) | (with_reducible refine Sl.k_call ?_; (refine s_qt hst (by exact qt_len evX asX inX) ?_))) <;> (try refine nX ?_)) | (with_reducible refine Sl.gate rfl ?_; (go_step)) | ((((first | (refine s_box hst evX rfl ?_; clear hst; intro bx w hst) | (refine s_alloc hst inX ?_; clear hst; intro bk w hst)))) <;> (try refine nX ?_) <;> (try replace hst := nH hst)))
        have hvb := hvb.mono hS2
        refine p_begin hst (by kernel_rfl) ?_; clear hst; intro w hst; (try refine nX ?_)
        refine p_take 0 (by repeat (first | exact panicQ_body | refine panicQ_then ?_ | refine panicQ_block ?_)) rfl (by kernel_rfl) (by kernel_rfl) (by kernel_rfl) rfl (fun _ _ => qt_move evX) ?_; (try refine nX ?_)
        refine p_take 1 (by repeat (first | exact panicQ_body | refine panicQ_then ?_ | refine panicQ_block ?_)) rfl (by kernel_rfl) (by kernel_rfl) (by kernel_rfl) rfl (fun _ _ => qt_field rfl inX) ?_; (try refine nX ?_)
        refine p_take 3 (by repeat (first | exact panicQ_body | refine panicQ_then ?_ | refine panicQ_block ?_)) rfl (by kernel_rfl) (by kernel_rfl) (by kernel_rfl) rfl (fun _ _ => qt_move evX) ?_; (try refine nX ?_)
        refine p_take 6 (by repeat (first | exact panicQ_body | refine panicQ_then ?_ | refine panicQ_block ?_)) rfl (by kernel_rfl) (by kernel_rfl) (by kernel_rfl) rfl (fun _ _ => qt_assign evX) ?_; (try refine nX ?_)
        refine p_one 2 rfl (by kernel_rfl) ?_; intro K hK; refine s_qt hst (qt_load rfl _ BoxIn.h inX rfl rfl) ?_; (try refine nX ?_); (try replace hst := nH hst); refine p_next hK ?_; clear hK K; (try refine nX ?_)
        refine p_one 4 rfl (by kernel_rfl) ?_; intro K hK; refine s_slice (a := used) (b := b.length) evX hvb inX inX (.inr ⟨.i64, by simp [evF, nth]⟩) (.inl ⟨rfl, rfl⟩) (.inl rfl) (by omega) (by omega) ?_; intro vz hvz; rw [drop_all] at hvz; obtain ⟨az, nz, cz, rfl⟩ := rsl_form hvz; (try refine nX ?_); (try replace hst := nH hst); refine p_next hK ?_; clear hK K; (try refine nX ?_)
        refine p_one 5 rfl (by kernel_rfl) ?_; intro K hK; refine s_qt hst (qt_buildS (cs := [.slice az nz cz, .int .i64 0]) inX inX (by kernel_rfl)) ?_; (try refine nX ?_); (try replace hst := nH hst); refine p_next hK ?_; clear hK K; (try refine nX ?_)
        refine p_one 7 rfl (by kernel_rfl) ?_; intro K hK; (first | refine s_stR hst rfl BoxIn.h evX asX inX rfl rfl ?_ | refine s_store hst rfl _ BoxIn.h inX evX rfl lenOk oneOk (by simp <;> omega) ?_); clear hst; intro w hst; (try refine nX ?_); (try replace hst := nH hst); refine p_next hK ?_; clear hK K; (try refine nX ?_)
        refine p_done (by kernel_rfl) ?_
        all_goals
          repeat' (((fail_if_success (go_big_may)); (go_step)))
          refine ret_two rfl (rv_tmp rfl) (rv_cell hst rfl _ BoxIn.h inX rfl rfl) ?_; (try simp only [nth, List.drop_zero, List.drop_succ_cons, List.take_succ_cons, List.take_zero, vOf_true, vOf_false])
          exact ⟨_, rfl, S2, _, _, _, _, _, _, hS2, rfl, hv, hvz, hst.drop.drop⟩
    · have h3 : (e : Int) ≠ 0 := by omega
      rw [nxt_no (s := (b, 0)) rfl hr h2]
      go_enter Tryd.func84, Tryd.ntmps84
      repeat' (first | (with_reducible refine Sl.k_call ?_; ((refine s_call (cg _ hst) inX rfl ?_; clear hst; rintro _ w ⟨u, rfl, hst⟩; replace hst := hst.drop; (try refine nX ?_)))) | ((fail_if_success (go_big_may)); (go_step)) | ((first | (with_reducible refine Sl.k_load ?_; (refine s_qt hst (by exact qt_load rfl _ BoxIn.h inX rfl rfl) ?_)) | (with_reducible refine Sl.k_field ?_; (refine s_qt hst (qt_field rfl inX) ?_))) <;> (try refine nX ?_)) | (with_reducible refine Sl.gate rfl ?_; (go_step)) | ((((first | (with_reducible refine Sl.k_store ?_; (refine s_store hst rfl _ BoxIn.h inX evX rfl lenOk oneOk (by simp) ?_); clear hst; intro w hst) | (refine s_box hst evX rfl ?_; clear hst; intro bx w hst) | (refine s_alloc hst inX ?_; clear hst; intro bk w hst)))) <;> (try refine nX ?_) <;> (try replace hst := nH hst)))
      refine ret_two rfl (rv_tmp rfl) (rv_cell hst rfl _ BoxIn.h inX rfl rfl) ?_; (try simp only [nth, List.drop_zero, List.drop_succ_cons, List.take_succ_cons, List.take_zero, vOf_true, vOf_false])
      exact ⟨_, rfl, S, none, 0, 0, none, 0, 0, Snap.Le.refl _, rfl, nilSl, by show RSl _ _ (clip (b, e)).1; rw [clip_err h2]; exact rsl_nil, hst.drop.drop⟩
  · have h3 : (e : Int) ≠ 0 := by omega
    rw [nxt_err (s := (b, e)) he]
    go_enter Tryd.func84, Tryd.ntmps84
    repeat' ((fail_if_success (with_reducible show Code.wp _ (Code.region 2 _ _) _ _ _)); first | ((fail_if_success (go_big_may)); (go_step)) | ((first | (with_reducible refine Sl.k_load ?_; (refine s_qt hst (by exact qt_load rfl _ BoxIn.h inX rfl rfl) ?_)) | (with_reducible refine Sl.k_field ?_; (refine s_qt hst (qt_field rfl inX) ?_))) <;> (try refine nX ?_)) | (with_reducible refine Sl.gate rfl ?_; (go_step)) | ((((first | (refine s_box hst evX rfl ?_; clear hst; intro bx w hst) | (refine s_alloc hst inX ?_; clear hst; intro bk w hst)))) <;> (try refine nX ?_) <;> (try replace hst := nH hst)))
    refine p_begin hst (by kernel_rfl) ?_; clear hst; intro w hst; (try refine nX ?_)
    refine p_take 1 (by repeat (first | exact panicQ_body | refine panicQ_then ?_ | refine panicQ_block ?_)) rfl (by kernel_rfl) (by kernel_rfl) (by kernel_rfl) rfl (fun _ _ => qt_assign evX) ?_; (try refine nX ?_)
    refine p_one 0 rfl (by kernel_rfl) ?_; intro K hK; refine s_qt hst (qt_load rfl _ BoxIn.h inX rfl rfl) ?_; (try refine nX ?_); (try replace hst := nH hst); refine p_next hK ?_; clear hK K; (try refine nX ?_)
    refine p_one 2 rfl (by kernel_rfl) ?_; intro K hK; (first | refine s_stR hst rfl BoxIn.h evX asX inX rfl rfl ?_ | refine s_store hst rfl _ BoxIn.h inX evX rfl lenOk oneOk (by simp <;> omega) ?_); clear hst; intro w hst; (try refine nX ?_); (try replace hst := nH hst); refine p_next hK ?_; clear hK K; (try refine nX ?_)
    refine p_done (by kernel_rfl) ?_
    all_goals
      repeat' (((fail_if_success (go_big_may)); (go_step)))
      refine ret_two rfl (rv_tmp rfl) (rv_cell hst rfl _ BoxIn.h inX rfl rfl) ?_; (try simp only [nth, List.drop_zero, List.drop_succ_cons, List.take_succ_cons, List.take_zero, vOf_true, vOf_false])
      exact ⟨_, rfl, S, none, 0, 0, a, n, c, Snap.Le.refl _, rfl, nilSl, hvb, hst.drop.drop⟩
end Go.Proofs.YtlimhgamebnfeaaDoor

/- Package manifest's references: the decoders: how many; the end; the first three numbers. -/
--@hgp
--@flat
--@dg
--@ex0
namespace Go.Proofs.YtlimhgamebnfeaaDoor
set_option linter.unusedSimpArgs false
set_option linter.unusedVariables false
open Go.RowKit Go.Sl

set_option maxRecDepth 8000 in
set_option maxHeartbeats 2000000 in
theorem rmany_c {S M} (w : World) (hst : St S M w) (a : Option Addr) (n c : Nat) (s : PS) (hvb : RestP S s a n c) (hm : s.1.length ≤ 1048576) :
    Rets Tryd.prog 65 [.agg #[.slice a n c, .int .i64 (s.2 : Nat)]] w fun v w' => ∃ a' n' c', v = .tuple #[.int .i64 (nxt 0 getI s).1, .agg #[.slice a' n' c', .int .i64 ((manyE (nxt 0 getI s).1 (nxt 0 getI s).2).2 : Nat)]] ∧ RestP S (manyE (nxt 0 getI s).1 (nxt 0 getI s).2) a' n' c' ∧ St S M w' := by
  unfold Rets
  have d1 := fun {M : List Chunk} (w : World) (hst : St S M w) => rnum_c w hst a n c s hvb hm
  have i1 := nxt_i64 s
  generalize nxt 0 getI s = r at *
  obtain ⟨x1, b1, q1⟩ := r
  simp only at d1 i1
  by_cases he : q1 = 0
  · subst he
    by_cases h2 : x1 < 0
    · rw [manyE_neg h2]
      go_enter Tryd.func65, Tryd.ntmps65
      repeat' ((fail_if_success (with_reducible show Code.wp _ (Code.region 6 _ _) _ _ _)); first | go_skip | (((with_reducible refine Sl.k_guard ?_; ((refine Sl.guard_yes rfl ?_)))) <;> (try refine nX ?_)) | (((with_reducible refine Sl.k_call ?_; ((refine s_call (d1 _ hst) inX rfl ?_; clear hst; rintro v w ⟨a1, n1, c1, rfl, hvb1, hst⟩)))) <;> (try refine nX ?_) <;> (try replace hst := nH hst)) | ((fail_if_success (go_big_may)); (go_step)) | ((first | (with_reducible refine Sl.k_load ?_; (refine s_qt hst (by exact qt_load rfl _ BoxIn.h inX rfl rfl) ?_)) | (with_reducible refine Sl.k_field ?_; (refine s_qt hst (qt_field rfl inX) ?_))) <;> (try refine nX ?_)) | (with_reducible refine Sl.gate rfl ?_; (go_step)) | ((((first | (with_reducible refine Sl.k_store ?_; (refine s_store hst rfl _ BoxIn.h inX evX rfl lenOk oneOk (by simp) ?_); clear hst; intro w hst) | (refine s_box hst evX rfl ?_; clear hst; intro bx w hst) | (refine s_alloc hst inX ?_; clear hst; intro bk w hst)))) <;> (try refine nX ?_) <;> (try replace hst := nH hst)))
      refine p_begin hst (by kernel_rfl) ?_; clear hst; intro w hst; (try refine nX ?_)
      refine p_take 0 (by repeat (first | exact panicQ_body | refine panicQ_then ?_ | refine panicQ_block ?_)) rfl (by kernel_rfl) (by kernel_rfl) (by kernel_rfl) rfl (fun _ _ => qt_move evX) ?_; (try refine nX ?_)
      refine p_take 2 (by repeat (first | exact panicQ_body | refine panicQ_then ?_ | refine panicQ_block ?_)) rfl (by kernel_rfl) (by kernel_rfl) (by kernel_rfl) rfl (fun _ _ => qt_assign evX) ?_; (try refine nX ?_)
      refine p_one 1 rfl (by kernel_rfl) ?_; intro K hK; refine s_qt hst (qt_load rfl _ BoxIn.h inX rfl rfl) ?_; (try refine nX ?_); (try replace hst := nH hst); refine p_next hK ?_; clear hK K; (try refine nX ?_)
      refine p_one 3 rfl (by kernel_rfl) ?_; intro K hK; (first | refine s_stR hst rfl BoxIn.h evX asX inX rfl rfl ?_ | refine s_store hst rfl _ BoxIn.h inX evX rfl lenOk oneOk (by simp <;> omega) ?_); clear hst; intro w hst; (try refine nX ?_); (try replace hst := nH hst); refine p_next hK ?_; clear hK K; (try refine nX ?_)
      refine p_done (by kernel_rfl) ?_
      all_goals
        repeat' (((fail_if_success (go_big_may)); (go_step)))
        refine ret_two rfl (rv_tmp rfl) (rv_cell hst rfl _ BoxIn.h inX rfl rfl) ?_; (try simp only [nth, List.drop_zero, List.drop_succ_cons, List.take_succ_cons, List.take_zero, vOf_true, vOf_false])
        exact ⟨_, rfl, none, 0, 0, rfl, by show RSl S _ (clip (b1, 7)).1; rw [clip_err (by simp)]; exact rsl_nil, hst.drop.drop.drop⟩
    · by_cases h3 : (b1.length : Int) < x1
      · rw [manyE_big h2 h3]
        go_enter Tryd.func65, Tryd.ntmps65
        repeat' ((fail_if_success (with_reducible show Code.wp _ (Code.region 2 _ _) _ _ _)); first | (((with_reducible refine Sl.k_call ?_; ((refine s_call (d1 _ hst) inX rfl ?_; clear hst; rintro v w ⟨a1, n1, c1, rfl, hvb1, hst⟩)))) <;> (try refine nX ?_) <;> (try replace hst := nH hst)) | ((fail_if_success (go_big_may)); (go_step)) | (((with_reducible refine Sl.k_load ?_; (refine s_qt hst (by exact qt_load rfl _ BoxIn.h inX rfl rfl) ?_))) <;> (try refine nX ?_)) | (with_reducible refine Sl.gate rfl ?_; (go_step)) | ((((first | (with_reducible refine Sl.k_store ?_; (refine s_store hst rfl _ BoxIn.h inX evX rfl lenOk oneOk (by simp) ?_); clear hst; intro w hst) | (refine s_box hst evX rfl ?_; clear hst; intro bx w hst) | (refine s_alloc hst inX ?_; clear hst; intro bk w hst)))) <;> (try refine nX ?_) <;> (try replace hst := nH hst)))
        have hvb1 : RSl S (.slice a1 n1 c1) b1 := hvb1
        repeat' ((fail_if_success (with_reducible show Code.wp _ (Code.region 6 _ _) _ _ _)); first | (((with_reducible refine Sl.k_guard ?_; ((refine Sl.guard_yes rfl ?_)))) <;> (try refine nX ?_)) | ((fail_if_success (go_big_may)); (go_step)) | ((first | (with_reducible refine Sl.k_load ?_; (refine s_qt hst (by exact qt_load rfl _ BoxIn.h inX rfl rfl) ?_)) | (with_reducible refine Sl.k_field ?_; (refine s_qt hst (qt_field rfl inX) ?_)) | (with_reducible refine Sl.k_call ?_; (refine s_qt hst (by exact qt_len evX asX inX) ?_))) <;> (try refine nX ?_)) | (with_reducible refine Sl.gate rfl ?_; (go_step)) | (((((with_reducible refine Sl.k_store ?_; (refine s_store hst rfl _ BoxIn.h inX evX rfl lenOk oneOk (by simp) ?_); clear hst; intro w hst)))) <;> (try refine nX ?_) <;> (try replace hst := nH hst)))
        refine p_begin hst (by kernel_rfl) ?_; clear hst; intro w hst; (try refine nX ?_)
        refine p_take 0 (by repeat (first | exact panicQ_body | refine panicQ_then ?_ | refine panicQ_block ?_)) rfl (by kernel_rfl) (by kernel_rfl) (by kernel_rfl) rfl (fun _ _ => qt_move evX) ?_; (try refine nX ?_)
        refine p_take 2 (by repeat (first | exact panicQ_body | refine panicQ_then ?_ | refine panicQ_block ?_)) rfl (by kernel_rfl) (by kernel_rfl) (by kernel_rfl) rfl (fun _ _ => qt_assign evX) ?_; (try refine nX ?_)
        refine p_one 1 rfl (by kernel_rfl) ?_; intro K hK; refine s_qt hst (qt_load rfl _ BoxIn.h inX rfl rfl) ?_; (try refine nX ?_); (try replace hst := nH hst); refine p_next hK ?_; clear hK K; (try refine nX ?_)
        refine p_one 3 rfl (by kernel_rfl) ?_; intro K hK; (first | refine s_stR hst rfl BoxIn.h evX asX inX rfl rfl ?_ | refine s_store hst rfl _ BoxIn.h inX evX rfl lenOk oneOk (by simp <;> omega) ?_); clear hst; intro w hst; (try refine nX ?_); (try replace hst := nH hst); refine p_next hK ?_; clear hK K; (try refine nX ?_)
        refine p_done (by kernel_rfl) ?_
        all_goals
          repeat' (((fail_if_success (go_big_may)); (go_step)))
          refine ret_two rfl (rv_tmp rfl) (rv_cell hst rfl _ BoxIn.h inX rfl rfl) ?_; (try simp only [nth, List.drop_zero, List.drop_succ_cons, List.take_succ_cons, List.take_zero, vOf_true, vOf_false])
          exact ⟨_, rfl, none, 0, 0, rfl, by show RSl S _ (clip (b1, 6)).1; rw [clip_err (by simp)]; exact rsl_nil, hst.drop.drop.drop⟩
      · rw [manyE_fit h2 h3]
        go_enter Tryd.func65, Tryd.ntmps65
        repeat' ((fail_if_success (with_reducible show Code.wp _ (Code.region 2 _ _) _ _ _)); first | (((with_reducible refine Sl.k_call ?_; ((refine s_call (d1 _ hst) inX rfl ?_; clear hst; rintro v w ⟨a1, n1, c1, rfl, hvb1, hst⟩)))) <;> (try refine nX ?_) <;> (try replace hst := nH hst)) | ((fail_if_success (go_big_may)); (go_step)) | (((with_reducible refine Sl.k_load ?_; (refine s_qt hst (by exact qt_load rfl _ BoxIn.h inX rfl rfl) ?_))) <;> (try refine nX ?_)) | (with_reducible refine Sl.gate rfl ?_; (go_step)) | ((((first | (with_reducible refine Sl.k_store ?_; (refine s_store hst rfl _ BoxIn.h inX evX rfl lenOk oneOk (by simp) ?_); clear hst; intro w hst) | (refine s_box hst evX rfl ?_; clear hst; intro bx w hst) | (refine s_alloc hst inX ?_; clear hst; intro bk w hst)))) <;> (try refine nX ?_) <;> (try replace hst := nH hst)))
        have hvb1 : RSl S (.slice a1 n1 c1) b1 := hvb1
        repeat' ((fail_if_success (with_reducible show Code.wp _ (Code.region 6 _ _) _ _ _)); first | (((with_reducible refine Sl.k_guard ?_; ((refine Sl.guard_yes rfl ?_)))) <;> (try refine nX ?_)) | ((fail_if_success (go_big_may)); (go_step)) | ((first | (with_reducible refine Sl.k_load ?_; (refine s_qt hst (by exact qt_load rfl _ BoxIn.h inX rfl rfl) ?_)) | (with_reducible refine Sl.k_field ?_; (refine s_qt hst (qt_field rfl inX) ?_)) | (with_reducible refine Sl.k_call ?_; (refine s_qt hst (by exact qt_len evX asX inX) ?_))) <;> (try refine nX ?_)) | (with_reducible refine Sl.gate rfl ?_; (go_step)))
        refine p_begin hst (by kernel_rfl) ?_; clear hst; intro w hst; (try refine nX ?_)
        refine p_take 0 (by repeat (first | exact panicQ_body | refine panicQ_then ?_ | refine panicQ_block ?_)) rfl (by kernel_rfl) (by kernel_rfl) (by kernel_rfl) rfl (fun _ _ => qt_move evX) ?_; (try refine nX ?_)
        refine p_take 2 (by repeat (first | exact panicQ_body | refine panicQ_then ?_ | refine panicQ_block ?_)) rfl (by kernel_rfl) (by kernel_rfl) (by kernel_rfl) rfl (fun _ _ => qt_assign evX) ?_; (try refine nX ?_)
        refine p_one 1 rfl (by kernel_rfl) ?_; intro K hK; refine s_qt hst (qt_load rfl _ BoxIn.h inX rfl rfl) ?_; (try refine nX ?_); (try replace hst := nH hst); refine p_next hK ?_; clear hK K; (try refine nX ?_)
        refine p_one 3 rfl (by kernel_rfl) ?_; intro K hK; (first | refine s_stR hst rfl BoxIn.h evX asX inX rfl rfl ?_ | refine s_store hst rfl _ BoxIn.h inX evX rfl lenOk oneOk (by simp <;> omega) ?_); clear hst; intro w hst; (try refine nX ?_); (try replace hst := nH hst); refine p_next hK ?_; clear hK K; (try refine nX ?_)
        refine p_done (by kernel_rfl) ?_
        all_goals
          repeat' (((fail_if_success (go_big_may)); (go_step)))
          refine ret_two rfl (rv_tmp rfl) (rv_cell hst rfl _ BoxIn.h inX rfl rfl) ?_; (try simp only [nth, List.drop_zero, List.drop_succ_cons, List.take_succ_cons, List.take_zero, vOf_true, vOf_false])
          exact ⟨_, rfl, a1, n1, c1, rfl, hvb1, hst.drop.drop.drop⟩
  · have h3 : (q1 : Int) ≠ 0 := by omega
    rw [manyE_no he]
    go_enter Tryd.func65, Tryd.ntmps65
    repeat' ((fail_if_success (with_reducible show Code.wp _ (Code.region 6 _ _) _ _ _)); first | go_skip | (((with_reducible refine Sl.k_guard ?_; ((refine Sl.guard_cases rfl ?_ ?_ <;> intro hg <;> first | (exfalso; simp only [decide_eq_true_eq, decide_eq_false_iff_not, Bool.not_false, Bool.not_true, beq_iff_eq, beq_eq_false_iff_ne, ne_eq] at hg; omega) | (simp only [hg, Bool.not_true, Bool.not_false])) <;> (try simp only [decide_eq_true_eq, decide_eq_false_iff_not, Bool.not_false, Bool.not_true, beq_iff_eq, beq_eq_false_iff_ne, bne_iff_ne, bne_eq_false_iff_eq, ne_eq] at hg)))) <;> (try refine nX ?_)) | (((with_reducible refine Sl.k_call ?_; ((refine s_call (d1 _ hst) inX rfl ?_; clear hst; rintro v w ⟨a1, n1, c1, rfl, hvb1, hst⟩)))) <;> (try refine nX ?_) <;> (try replace hst := nH hst)) | ((fail_if_success (go_big_may)); (go_step)) | ((first | (with_reducible refine Sl.k_load ?_; (refine s_qt hst (by exact qt_load rfl _ BoxIn.h inX rfl rfl) ?_)) | (with_reducible refine Sl.k_field ?_; (refine s_qt hst (qt_field rfl inX) ?_))) <;> (try refine nX ?_)) | (with_reducible refine Sl.gate rfl ?_; (go_step)) | ((((first | (with_reducible refine Sl.k_store ?_; (refine s_store hst rfl _ BoxIn.h inX evX rfl lenOk oneOk (by simp) ?_); clear hst; intro w hst) | (refine s_box hst evX rfl ?_; clear hst; intro bx w hst) | (refine s_alloc hst inX ?_; clear hst; intro bk w hst)))) <;> (try refine nX ?_) <;> (try replace hst := nH hst)))
    refine p_begin hst (by kernel_rfl) ?_; clear hst; intro w hst; (try refine nX ?_)
    refine p_take 0 (by repeat (first | exact panicQ_body | refine panicQ_then ?_ | refine panicQ_block ?_)) rfl (by kernel_rfl) (by kernel_rfl) (by kernel_rfl) rfl (fun _ _ => qt_move evX) ?_; (try refine nX ?_)
    refine p_take 2 (by repeat (first | exact panicQ_body | refine panicQ_then ?_ | refine panicQ_block ?_)) rfl (by kernel_rfl) (by kernel_rfl) (by kernel_rfl) rfl (fun _ _ => qt_assign evX) ?_; (try refine nX ?_)
    refine p_one 1 rfl (by kernel_rfl) ?_; intro K hK; refine s_qt hst (qt_load rfl _ BoxIn.h inX rfl rfl) ?_; (try refine nX ?_); (try replace hst := nH hst); refine p_next hK ?_; clear hK K; (try refine nX ?_)
    refine p_one 3 rfl (by kernel_rfl) ?_; intro K hK; (first | refine s_stR hst rfl BoxIn.h evX asX inX rfl rfl ?_ | refine s_store hst rfl _ BoxIn.h inX evX rfl lenOk oneOk (by simp <;> omega) ?_); clear hst; intro w hst; (try refine nX ?_); (try replace hst := nH hst); refine p_next hK ?_; clear hK K; (try refine nX ?_)
    refine p_done (by kernel_rfl) ?_
    all_goals
      repeat' (((fail_if_success (go_big_may)); (go_step)))
      refine ret_two rfl (rv_tmp rfl) (rv_cell hst rfl _ BoxIn.h inX rfl rfl) ?_; (try simp only [nth, List.drop_zero, List.drop_succ_cons, List.take_succ_cons, List.take_zero, vOf_true, vOf_false])
      exact ⟨_, rfl, a1, n1, c1, rfl, hvb1, hst.drop.drop.drop⟩

/-- The end of a decoding: something left counts as an error. -/
def endE (s : PS) : Nat := if s.2 ≠ 0 then s.2 else if s.1 ≠ [] then 7 else 0
set_option maxRecDepth 8000 in
set_option maxHeartbeats 1000000 in
theorem rend_c {S M} (w : World) (hst : St S M w) (a : Option Addr) (n c : Nat) (s : PS) (hvb : RestP S s a n c) (hm : s.1.length ≤ 1048576) :
    Rets Tryd.prog 59 [.agg #[.slice a n c, .int .i64 (s.2 : Nat)]] w fun v w' => v = .int .i64 (endE s : Nat) ∧ St S M w' := by
  unfold Rets
  obtain ⟨b, e⟩ := s
  simp only at hm
  by_cases he : e = 0
  · subst he
    have hvb : RSl S (.slice a n c) b := hvb
    by_cases hb : b = []
    · have e0 : endE (b, 0) = 0 := by simp [endE, hb]
      have hl : b.length = 0 := by rw [hb]; rfl
      rw [e0]
      clear hb e0
      go_enter Tryd.func59, Tryd.ntmps59
      repeat' (first | (((with_reducible refine Sl.k_guard ?_; ((refine Sl.guard_yes rfl ?_)))) <;> (try refine nX ?_)) | ((fail_if_success (go_big_may)); (go_step)) | ((first | (with_reducible refine Sl.k_load ?_; (refine s_qt hst (by exact qt_load rfl _ BoxIn.h inX rfl rfl) ?_)) | (with_reducible refine Sl.k_field ?_; (refine s_qt hst (qt_field rfl inX) ?_)) | (with_reducible refine Sl.k_call ?_; (refine s_qt hst (by exact qt_len evX asX inX) ?_))) <;> (try refine nX ?_)) | (with_reducible refine Sl.gate rfl ?_; (go_step)) | (((((refine s_box hst evX rfl ?_; clear hst; intro bx w hst)))) <;> (try refine nX ?_) <;> (try replace hst := nH hst)))
      go_ret
      exact ⟨_, rfl, rfl, hst.drop⟩
    · have e0 : endE (b, 0) = 7 := by simp [endE, hb]
      have hl : 0 < b.length := List.length_pos_iff.2 hb
      rw [e0]
      clear hb e0
      go_enter Tryd.func59, Tryd.ntmps59
      repeat' (first | (((with_reducible refine Sl.k_guard ?_; ((refine Sl.guard_yes rfl ?_)))) <;> (try refine nX ?_)) | ((fail_if_success (go_big_may)); (go_step)) | ((first | (with_reducible refine Sl.k_load ?_; (refine s_qt hst (by exact qt_load rfl _ BoxIn.h inX rfl rfl) ?_)) | (with_reducible refine Sl.k_field ?_; (refine s_qt hst (qt_field rfl inX) ?_)) | (with_reducible refine Sl.k_call ?_; (refine s_qt hst (by exact qt_len evX asX inX) ?_))) <;> (try refine nX ?_)) | (with_reducible refine Sl.gate rfl ?_; (go_step)) | (((((refine s_box hst evX rfl ?_; clear hst; intro bx w hst)))) <;> (try refine nX ?_) <;> (try replace hst := nH hst)))
      go_ret
      exact ⟨_, rfl, rfl, hst.drop⟩
  · have h3 : (e : Int) ≠ 0 := by omega
    have e0 : endE (b, e) = e := by simp [endE, he]
    rw [e0]
    clear e0
    go_enter Tryd.func59, Tryd.ntmps59
    repeat' (first | go_skip | (((with_reducible refine Sl.k_guard ?_; ((refine Sl.guard_cases rfl ?_ ?_ <;> intro hg <;> first | (exfalso; simp only [decide_eq_true_eq, decide_eq_false_iff_not, Bool.not_false, Bool.not_true, beq_iff_eq, beq_eq_false_iff_ne, ne_eq] at hg; omega) | (simp only [hg, Bool.not_true, Bool.not_false])) <;> (try simp only [decide_eq_true_eq, decide_eq_false_iff_not, Bool.not_false, Bool.not_true, beq_iff_eq, beq_eq_false_iff_ne, bne_iff_ne, bne_eq_false_iff_eq, ne_eq] at hg)))) <;> (try refine nX ?_)) | ((fail_if_success (go_big_may)); (go_step)) | ((first | (with_reducible refine Sl.k_load ?_; (refine s_qt hst (by exact qt_load rfl _ BoxIn.h inX rfl rfl) ?_)) | (with_reducible refine Sl.k_field ?_; (refine s_qt hst (qt_field rfl inX) ?_))) <;> (try refine nX ?_)) | (with_reducible refine Sl.gate rfl ?_; (go_step)) | (((((refine s_box hst evX rfl ?_; clear hst; intro bx w hst)))) <;> (try refine nX ?_) <;> (try replace hst := nH hst)))
    go_ret
    exact ⟨_, rfl, rfl, hst.drop⟩
theorem decP_end {α : Type} (p : PS → α × PS) (z : α) (b : List UInt8) : decP p z b = (if endE (p (b, 0)).2 ≠ 0 then z else (p (b, 0)).1, endE (p (b, 0)).2) := by
  unfold decP endE
  by_cases h : (p (b, 0)).2.2 = 0
  · by_cases k : (p (b, 0)).2.1 = []
    · simp [h, k]
    · simp [h, k]
  · simp [h]
end Go.Proofs.YtlimhgamebnfeaaDoor

/- Package manifest's references: the decoders: three numbers and the digests. -/
--@hgp
--@flat
--@dg
--@ex0
namespace Go.Proofs.YtlimhgamebnfeaaDoor
set_option linter.unusedSimpArgs false
set_option linter.unusedVariables false
open Go.RowKit Go.Sl

abbrev R3Post (S : Snap) (M : List Chunk) (r : MF × PS) (v : Value) (w : World) : Prop :=
  ∃ S' a0 n0 c0 a1 n1 c1 a2 n2 c2, S.Le S' ∧ v = .tuple #[.slice a0 n0 c0, .slice a1 n1 c1, .agg #[.slice a2 n2 c2, .int .i64 (r.2.2 : Nat)]] ∧ RSl S' (.slice a0 n0 c0) [r.1.1, r.1.2.1, r.1.2.2.1] ∧ RSl S' (.slice a1 n1 c1) r.1.2.2.2.1 ∧ RestP S' r.2 a2 n2 c2 ∧ St S' M w
set_option maxRecDepth 8000 in
set_option maxHeartbeats 2000000 in
theorem rthree_c {S M} (w : World) (hst : St S M w) (a : Option Addr) (n c : Nat) (s : PS) (hvb : RestP S s a n c) (hm : s.1.length ≤ 1048576) :
    Rets Tryd.prog 58 [.agg #[.slice a n c, .int .i64 (s.2 : Nat)]] w fun v w' => R3Post S M (mfP s) v w' := by
  unfold Rets
  obtain ⟨⟨x1, s1⟩, e1⟩ : ∃ r, nxt 0 getI s = r := ⟨_, rfl⟩
  obtain ⟨⟨x2, s2⟩, e2⟩ : ∃ r, nxt 0 getI s1 = r := ⟨_, rfl⟩
  obtain ⟨⟨x3, s3⟩, e3⟩ : ∃ r, nxt 0 getI s2 = r := ⟨_, rfl⟩
  obtain ⟨⟨ds, s4⟩, e4⟩ : ∃ r, nxt [] getDg s3 = r := ⟨_, rfl⟩
  have e : mfP s = ((x1, x2, x3, ds, ()), s4) := by unfold mfP pairP unitP; simp only [e1, e2, e3, e4]
  rw [e]
  have i1 := nxt_i64 s
  have i2 := nxt_i64 s1
  have i3 := nxt_i64 s2
  have l1 := nxt_shr 0 getI s
  have l2 := nxt_shr 0 getI s1
  have l3 := nxt_shr 0 getI s2
  have d1 := fun {M : List Chunk} (w : World) (hst : St S M w) => rnum_c w hst a n c s hvb hm
  have d2 := fun {M : List Chunk} (w : World) (a : Option Addr) (n c : Nat) (hvb : RestP S s1 a n c) hm (hst : St S M w) => rnum_c w hst a n c s1 hvb hm
  have d3 := fun {M : List Chunk} (w : World) (a : Option Addr) (n c : Nat) (hvb : RestP S s2 a n c) hm (hst : St S M w) => rnum_c w hst a n c s2 hvb hm
  have d4 := fun {M : List Chunk} (w : World) (a : Option Addr) (n c : Nat) (hvb : RestP S s3 a n c) hm (hst : St S M w) => rdigs_c w hst a n c s3 hvb hm
  rw [e1] at d1 i1 l1
  rw [e2] at d2 i2 l2
  rw [e3] at d3 i3 l3
  rw [e4] at d4
  simp only at d1 d2 d3 d4 i1 i2 i3 l1 l2 l3
  clear e e1 e2 e3 e4
  go_enter Tryd.func58, Tryd.ntmps58
  repeat' ((fail_if_success (with_reducible show Code.wp _ (Code.region 3 _ _) _ _ _)); first | (((with_reducible refine Sl.k_call ?_; (first | (refine s_call (d1 _ hst) inX rfl ?_; clear hst; rintro v w ⟨a1, n1, c1, rfl, hvb1, hst⟩) | (refine s_call (d2 _ _ _ _ hvb1 (by omega) hst) inX rfl ?_; clear hst; rintro v w ⟨a2, n2, c2, rfl, hvb2, hst⟩)))) <;> (try refine nX ?_) <;> (try replace hst := nH hst)) | ((fail_if_success (go_big_may)); (go_step)) | (((with_reducible refine Sl.k_load ?_; (refine s_qt hst (by exact qt_load rfl _ BoxIn.h inX rfl rfl) ?_))) <;> (try refine nX ?_)) | (with_reducible refine Sl.gate rfl ?_; (go_step)) | ((((first | (with_reducible refine Sl.k_store ?_; (refine s_store hst rfl _ BoxIn.h inX evX rfl lenOk oneOk (by simp) ?_); clear hst; intro w hst) | (refine s_box hst evX rfl ?_; clear hst; intro bx w hst) | (refine s_alloc hst inX ?_; clear hst; intro bk w hst)))) <;> (try refine nX ?_) <;> (try replace hst := nH hst)))
  repeat' ((fail_if_success (with_reducible show Code.wp _ (Code.region 5 _ _) _ _ _)); first | (((with_reducible refine Sl.k_call ?_; (first | (refine s_call (d3 _ _ _ _ hvb2 (by omega) hst) inX rfl ?_; clear hst; rintro v w ⟨a3, n3, c3, rfl, hvb3, hst⟩) | (refine s_call (d4 _ _ _ _ hvb3 (by omega) hst) inX rfl ?_; clear hst; rintro v w ⟨S2, a0, n0, c0, a4, n4, c4, hS2, rfl, hv, hvb4, hst⟩)))) <;> (try refine nX ?_) <;> (try replace hst := nH hst)) | ((fail_if_success (go_big_may)); (go_step)) | (((with_reducible refine Sl.k_load ?_; (refine s_qt hst (by exact qt_load rfl _ BoxIn.h inX rfl rfl) ?_))) <;> (try refine nX ?_)) | (with_reducible refine Sl.gate rfl ?_; (go_step)) | ((((first | (with_reducible refine Sl.k_store ?_; (refine s_store hst rfl _ BoxIn.h inX evX rfl lenOk oneOk (by simp) ?_); clear hst; intro w hst) | (refine s_alloc hst inX ?_; clear hst; intro bk w hst)))) <;> (try refine nX ?_) <;> (try replace hst := nH hst)))
  refine p_begin hst (by kernel_rfl) ?_; clear hst; intro w hst; (try refine nX ?_)
  refine p_take 0 (by repeat (first | exact panicQ_body | refine panicQ_then ?_ | refine panicQ_block ?_)) rfl (by kernel_rfl) (by kernel_rfl) (by kernel_rfl) rfl (fun _ _ => qt_move evX) ?_; (try refine nX ?_)
  refine p_take 1 (by repeat (first | exact panicQ_body | refine panicQ_then ?_ | refine panicQ_block ?_)) rfl (by kernel_rfl) (by kernel_rfl) (by kernel_rfl) rfl (fun _ _ => qt_move evX) ?_; (try refine nX ?_)
  refine p_take 2 (by repeat (first | exact panicQ_body | refine panicQ_then ?_ | refine panicQ_block ?_)) rfl (by kernel_rfl) (by kernel_rfl) (by kernel_rfl) rfl (fun _ _ => qt_move evX) ?_; (try refine nX ?_)
  refine p_take 4 (by repeat (first | exact panicQ_body | refine panicQ_then ?_ | refine panicQ_block ?_)) rfl (by kernel_rfl) (by kernel_rfl) (by kernel_rfl) rfl (fun _ _ => qt_move evX) ?_; (try refine nX ?_)
  refine p_two 3 5 rfl rfl (by kernel_rfl) ?_ ?_
  intro K hK; refine s_lit (vs := [.int .i64 x1, .int .i64 x2, .int .i64 x3]) (cs := cF intC [x1, x2, x3]) hst inX inX rfl rfl (by simp [Value.cells]) rfl (by omega) (by omega) ?_; clear hst; intro x6 w hst; have fz := lit_ints [x1, x2, x3] hst rfl (by simp only [List.forall_mem_cons, List.not_mem_nil, false_implies, implies_true, and_true]; exact ⟨i1, i2, i3⟩) rfl; clear hst; obtain ⟨S5, hS5, hst, hx6⟩ := fz; obtain ⟨ua, un, uc, rfl⟩ := rsl_form hx6; (try refine nX ?_); (try replace hst := nH hst); refine p_next hK ?_; clear hK K; (try refine nX ?_)
  refine p_take 6 (by repeat (first | exact panicQ_body | refine panicQ_then ?_ | refine panicQ_block ?_)) rfl (by kernel_rfl) (by kernel_rfl) (by kernel_rfl) rfl (fun _ _ => qt_assign evX) ?_; (try refine nX ?_)
  refine p_take 7 (by repeat (first | exact panicQ_body | refine panicQ_then ?_ | refine panicQ_block ?_)) rfl (by kernel_rfl) (by kernel_rfl) (by kernel_rfl) rfl (fun _ _ => qt_assign evX) ?_; (try refine nX ?_)
  refine p_one 5 rfl (by kernel_rfl) ?_; intro K hK; refine s_qt hst (qt_load rfl _ BoxIn.h inX rfl rfl) ?_; (try refine nX ?_); (try replace hst := nH hst); refine p_next hK ?_; clear hK K; (try refine nX ?_)
  refine p_one 8 rfl (by kernel_rfl) ?_; intro K hK; (first | refine s_stR hst rfl BoxIn.h evX asX inX rfl rfl ?_ | refine s_store hst rfl _ BoxIn.h inX evX rfl lenOk oneOk (by simp <;> omega) ?_); clear hst; intro w hst; (try refine nX ?_); (try replace hst := nH hst); refine p_next hK ?_; clear hK K; (try refine nX ?_)
  refine p_done (by kernel_rfl) ?_; rotate_left
  intro K hK; refine s_qt hst (qt_load rfl _ BoxIn.h inX rfl rfl) ?_; (try refine nX ?_); (try replace hst := nH hst); refine p_next hK ?_; clear hK K; (try refine nX ?_)
  refine p_one 3 rfl (by kernel_rfl) ?_; intro K hK; refine s_lit (vs := [.int .i64 x1, .int .i64 x2, .int .i64 x3]) (cs := cF intC [x1, x2, x3]) hst inX inX rfl rfl (by simp [Value.cells]) rfl (by omega) (by omega) ?_; clear hst; intro x6 w hst; have fz := lit_ints [x1, x2, x3] hst rfl (by simp only [List.forall_mem_cons, List.not_mem_nil, false_implies, implies_true, and_true]; exact ⟨i1, i2, i3⟩) rfl; clear hst; obtain ⟨S5, hS5, hst, hx6⟩ := fz; obtain ⟨ua, un, uc, rfl⟩ := rsl_form hx6; (try refine nX ?_); (try replace hst := nH hst); refine p_next hK ?_; clear hK K; (try refine nX ?_)
  refine p_take 6 (by repeat (first | exact panicQ_body | refine panicQ_then ?_ | refine panicQ_block ?_)) rfl (by kernel_rfl) (by kernel_rfl) (by kernel_rfl) rfl (fun _ _ => qt_assign evX) ?_; (try refine nX ?_)
  refine p_take 7 (by repeat (first | exact panicQ_body | refine panicQ_then ?_ | refine panicQ_block ?_)) rfl (by kernel_rfl) (by kernel_rfl) (by kernel_rfl) rfl (fun _ _ => qt_assign evX) ?_; (try refine nX ?_)
  refine p_one 8 rfl (by kernel_rfl) ?_; intro K hK; (first | refine s_stR hst rfl BoxIn.h evX asX inX rfl rfl ?_ | refine s_store hst rfl _ BoxIn.h inX evX rfl lenOk oneOk (by simp <;> omega) ?_); clear hst; intro w hst; (try refine nX ?_); (try replace hst := nH hst); refine p_next hK ?_; clear hK K; (try refine nX ?_)
  refine p_done (by kernel_rfl) ?_; rotate_left
  all_goals
    repeat' (((fail_if_success (go_big_may)); (go_step)))
    refine ret_three rfl (rv_tmp rfl) (rv_tmp rfl) (rv_cell hst rfl _ BoxIn.h inX rfl rfl) ?_; (try simp only [nth, List.drop_zero, List.drop_succ_cons, List.take_succ_cons, List.take_zero, vOf_true, vOf_false])
    exact ⟨_, rfl, S5, _, _, _, _, _, _, _, _, _, hS2.trans hS5, rfl, hx6, hv.mono hS5, hvb4.mono hS5, hst.drop.drop.drop.drop.drop.drop⟩
end Go.Proofs.YtlimhgamebnfeaaDoor

/- Package manifest's references: the decoders: the list of signatures. -/
--@hgp
--@flat
--@dg
--@ex0
namespace Go.Proofs.YtlimhgamebnfeaaDoor
set_option linter.unusedSimpArgs false
set_option linter.unusedVariables false
open Go.RowKit Go.Sl

abbrev RsPost (S : Snap) (M : List Chunk) (r : List SD × PS) (v : Value) (w : World) : Prop :=
  ∃ S' a0 n0 c0 a' n' c', S.Le S' ∧ v = .tuple #[.slice a0 n0 c0, .agg #[.slice a' n' c', .int .i64 (r.2.2 : Nat)]] ∧ RSl S' (.slice a0 n0 c0) r.1 ∧ RestP S' r.2 a' n' c' ∧ St S' M w
set_option maxRecDepth 8000 in
set_option maxHeartbeats 4000000 in
theorem rsigned_c {S M} (w : World) (hst : St S M w) (a : Option Addr) (n c : Nat) (s : PS) (hvb : RestP S s a n c) (hm : s.1.length ≤ 1048576) :
    Rets Tryd.prog 64 [.agg #[.slice a n c, .int .i64 (s.2 : Nat)]] w fun v w' => RsPost S M (listP sdP s) v w' := by
  unfold Rets
  obtain ⟨⟨x1, s1⟩, e1⟩ : ∃ r, nxt 0 getI s = r := ⟨_, rfl⟩
  obtain ⟨sm, em⟩ : ∃ r, manyE x1 s1 = r := ⟨_, rfl⟩
  obtain ⟨R, eR⟩ : ∃ r, listF sdP x1.toNat sm [] = r := ⟨_, rfl⟩
  have e : listP sdP s = R := by unfold listP; simp only [e1, em, eR]
  rw [e]
  have i1 := nxt_i64 s
  have l1 := nxt_shr 0 getI s
  have l2 := manyE_shr x1 s1
  have d1 := fun {M : List Chunk} (w : World) (hst : St S M w) => rmany_c w hst a n c s hvb hm
  have hsm : sm.2 = 0 → 0 ≤ x1 ∧ x1 ≤ 1048576 := fun h => by
    rw [← em] at h
    have := manyE_ok h
    rw [e1] at l1
    simp only at l1
    omega
  rw [e1] at d1 i1 l1
  simp only at d1 i1 l1
  rw [em] at l2 d1
  have hms : sm.1.length ≤ 1048576 := by omega
  clear e e1 em
  have eR' := Lib.hid eR
  clear eR
  go_enter Tryd.func64, Tryd.ntmps64
  repeat' ((fail_if_success (with_reducible show Code.wp _ (Code.region 1 _ _) _ _ _)); first | ((fail_if_success (go_big_may)); (go_step)) | ((((first | (refine s_box hst evX rfl ?_; clear hst; intro bx w hst) | (refine s_alloc hst inX ?_; clear hst; intro bk w hst)))) <;> (try refine nX ?_) <;> (try replace hst := nH hst)))
  obtain ⟨b3, rfl⟩ : ∃ b, b = bk := ⟨_, rfl⟩
  repeat' ((fail_if_success (with_reducible show Code.wp _ (Code.region 4 _ _) _ _ _)); first | (((with_reducible refine Sl.k_call ?_; ((refine s_call (d1 _ hst) inX rfl ?_; clear hst; rintro v w ⟨a1, n1, c1, rfl, hvb1, hst⟩)))) <;> (try refine nX ?_) <;> (try replace hst := nH hst)) | ((fail_if_success (go_big_may)); (go_step)) | (((with_reducible refine Sl.k_load ?_; (refine s_qt hst (by exact qt_load rfl _ BoxIn.h inX rfl rfl) ?_))) <;> (try refine nX ?_)) | (with_reducible refine Sl.gate rfl ?_; (go_step)) | ((((first | (with_reducible refine Sl.k_store ?_; (refine s_store hst rfl _ BoxIn.h inX evX rfl lenOk oneOk (by simp) ?_); clear hst; intro w hst) | (refine s_alloc hst inX ?_; clear hst; intro bk w hst)))) <;> (try refine nX ?_) <;> (try replace hst := nH hst)))
  have hst := hst.nil sdT 4
  go_loopw [6, 7] (fun u b wr => ∃ (S' : Snap) (k : Nat) (out : List SD) (cells : List Value) (s' : PS) (a2 : Option Addr) (n2 c2 : Nat), S.Le S' ∧ b = .int .i64 (k : Nat) ∧ out.length = k ∧ (s'.2 = 0 → 0 ≤ x1 ∧ x1 ≤ 1048576) ∧ (k : Int) ≤ max x1 0 ∧ listF sdP (x1.toNat - k) s' out = R ∧ RL S' cells out ∧ s'.1.length ≤ 1048576 ∧ RestP S' s' a2 n2 c2 ∧ St S' (.sl u sdT 4 k cells :: .box bk [.slice a2 n2 c2, .int .i64 (s'.2 : Nat)] restT :: .box b3 [.slice none 0 0, .int .i64 0] restT :: .box bx [.slice a n c, .int .i64 (s.2 : Nat)] restT :: M) wr) (fun _ b _ => x1.toNat - (intOf b).toNat)
  case atStart => exact ⟨S, 0, [], [], sm, a1, n1, c1, Snap.Le.refl _, rfl, rfl, hsm, by omega, eR'.out, RL.nil, hms, hvb1, hst⟩
  case round =>
    clear hst hvb1 hms hsm eR' d1
    obtain ⟨S', k, out, cells, ⟨b', q'⟩, a2, n2, c2, hS, rfl, hol, hx, hk, hR, hRL, hms, hvb2, hst⟩ := hrel
    simp only at hx hms hst
    have hol9 := Lib.hid hol
    clear hol
    by_cases hlt : (k : Int) < x1
    · by_cases hq : q' = 0
      · subst hq
        obtain ⟨hx0, hx1⟩ := hx rfl
        have ek : x1.toNat - k = (x1.toNat - (k + 1)) + 1 := by omega
        rw [ek, listF_go rfl] at hR
        obtain ⟨⟨y1, s1⟩, e1⟩ : ∃ r, nxt 0 getI (b', 0) = r := ⟨_, rfl⟩
        obtain ⟨⟨y2, s2⟩, e2⟩ : ∃ r, nxt 0 getI s1 = r := ⟨_, rfl⟩
        obtain ⟨⟨ds, s3⟩, e3⟩ : ∃ r, nxt [] getDg s2 = r := ⟨_, rfl⟩
        obtain ⟨⟨es, s4⟩, e4⟩ : ∃ r, nxt [] getDg s3 = r := ⟨_, rfl⟩
        have e : sdP (b', 0) = ((y1, (y2, ds, es, ()), ()), s4) := by unfold sdP pairP unitP; simp only [e1, e2, e3, e4]
        rw [e] at hR
        have i1 := nxt_i64 (b', 0)
        have i2 := nxt_i64 s1
        have l1 := nxt_shr 0 getI (b', 0)
        have l2 := nxt_shr 0 getI s1
        have l3 := nxt_shr [] getDg s2
        have l4 := nxt_shr [] getDg s3
        have d1 := fun {M : List Chunk} (w : World) (hst : St S' M w) => rnum_c w hst a2 n2 c2 (b', 0) hvb2 hms
        have d2 := fun {M : List Chunk} (w : World) (a : Option Addr) (n c : Nat) (hvb : RestP S' s1 a n c) hm (hst : St S' M w) => rnum_c w hst a n c s1 hvb hm
        have d3 := fun {M : List Chunk} (w : World) (a : Option Addr) (n c : Nat) (hvb : RestP S' s2 a n c) hm (hst : St S' M w) => rdigs_c w hst a n c s2 hvb hm
        have d4 := fun {S : Snap} {M : List Chunk} (w : World) (a : Option Addr) (n c : Nat) (hvb : RestP S s3 a n c) hm (hst : St S M w) => rdigs_c w hst a n c s3 hvb hm
        rw [e1] at d1 i1 l1
        rw [e2] at d2 i2 l2
        rw [e3] at d3 l3
        rw [e4] at d4 l4
        simp only at d1 d2 d3 d4 i1 i2 l1 l2 l3 l4
        have hR9 := Lib.hid hR
        clear hR e e1 e2 e3 e4
        repeat' ((fail_if_success (with_reducible show Code.wp _ (Code.region 7 _ _) _ _ _)); first | (((with_reducible refine Sl.k_guard ?_; ((refine Sl.guard_yes rfl ?_)))) <;> (try refine nX ?_)) | ((fail_if_success (go_big_may)); (go_step)) | ((first | (with_reducible refine Sl.k_load ?_; (refine s_qt hst (by exact qt_load rfl _ BoxIn.h inX rfl rfl) ?_)) | (with_reducible refine Sl.k_field ?_; (refine s_qt hst (qt_field rfl inX) ?_))) <;> (try refine nX ?_)) | (with_reducible refine Sl.gate rfl ?_; (go_step)) | ((((first | (with_reducible refine Sl.k_store ?_; (refine s_store hst rfl _ BoxIn.h inX evX rfl lenOk oneOk (by simp) ?_); clear hst; intro w hst) | (refine s_alloc hst inX ?_; clear hst; intro bk w hst)))) <;> (try refine nX ?_) <;> (try replace hst := nH hst)))
        obtain ⟨b5, rfl⟩ : ∃ b, b = bk := ⟨_, rfl⟩
        repeat' ((fail_if_success (with_reducible show Code.wp _ (Code.region 9 _ _) _ _ _)); first | (((with_reducible refine Sl.k_call ?_; (first | (refine s_call (d1 _ hst) inX rfl ?_; clear hst; rintro v w ⟨a3, n3, c3, rfl, hvb3, hst⟩) | (refine s_call (d2 _ _ _ _ hvb3 (by omega) hst) inX rfl ?_; clear hst; rintro v w ⟨a4, n4, c4, rfl, hvb4, hst⟩)))) <;> (try refine nX ?_) <;> (try replace hst := nH hst)) | ((fail_if_success (go_big_may)); (go_step)) | (((with_reducible refine Sl.k_load ?_; (refine s_qt hst (by exact qt_load rfl _ BoxIn.h inX rfl rfl) ?_))) <;> (try refine nX ?_)) | (with_reducible refine Sl.gate rfl ?_; (go_step)) | ((((first | (with_reducible refine Sl.k_store ?_; (refine s_store hst rfl _ BoxIn.h inX evX rfl lenOk oneOk (by simp) ?_); clear hst; intro w hst) | (refine s_alloc hst inX ?_; clear hst; intro bk w hst)))) <;> (try refine nX ?_) <;> (try replace hst := nH hst)))
        repeat' ((fail_if_success (with_reducible show Code.wp _ (Code.region 10 _ _) _ _ _)); first | (((with_reducible refine Sl.k_call ?_; ((refine s_call (d3 _ _ _ _ hvb4 (by omega) hst) inX rfl ?_; clear hst; rintro v w ⟨S2, u0, un, uc, a5, n5, c5, hS2, rfl, hu, hvb5, hst⟩)))) <;> (try refine nX ?_) <;> (try replace hst := nH hst)) | ((fail_if_success (go_big_may)); (go_step)) | (((with_reducible refine Sl.k_load ?_; (refine s_qt hst (by exact qt_load rfl _ BoxIn.h inX rfl rfl) ?_))) <;> (try refine nX ?_)) | (with_reducible refine Sl.gate rfl ?_; (go_step)) | ((((first | (with_reducible refine Sl.k_store ?_; (refine s_store hst rfl _ BoxIn.h inX evX rfl lenOk oneOk (by simp) ?_); clear hst; intro w hst) | (refine s_alloc hst inX ?_; clear hst; intro bk w hst)))) <;> (try refine nX ?_) <;> (try replace hst := nH hst)))
        repeat' ((fail_if_success (with_reducible show Code.wp _ (Code.region 13 _ _) _ _ _)); first | (((with_reducible refine Sl.k_call ?_; ((refine s_call (d4 _ _ _ _ hvb5 (by omega) hst) inX rfl ?_; clear hst; rintro v w ⟨S3, z0, zn, zc, a6, n6, c6, hS3, rfl, hz, hvb6, hst⟩)))) <;> (try refine nX ?_) <;> (try replace hst := nH hst)) | ((fail_if_success (go_big_may)); (go_step)) | ((first | (with_reducible refine Sl.k_load ?_; (refine s_qt hst (by exact qt_load rfl _ BoxIn.h inX rfl rfl) ?_)) | (with_reducible refine Sl.k_field ?_; (refine s_qt hst (qt_field rfl inX) ?_))) <;> (try refine nX ?_)) | (with_reducible refine Sl.gate rfl ?_; (go_step)) | ((((first | (with_reducible refine Sl.k_store ?_; (refine s_store hst rfl _ BoxIn.h inX evX rfl lenOk oneOk (by simp) ?_); clear hst; intro w hst) | (refine s_alloc hst inX ?_; clear hst; intro bk w hst)))) <;> (try refine nX ?_) <;> (try replace hst := nH hst)))
        repeat' (first | ((fail_if_success (go_big_may)); (go_step)) | (((with_reducible refine Sl.k_load ?_; (refine s_qt hst (by exact qt_load rfl _ BoxIn.h inX rfl rfl) ?_))) <;> (try refine nX ?_)))
        refine s_lit (vs := [.agg #[.int .i64 y1, .int .i64 y2, .slice u0 un uc, .slice z0 zn zc]]) (cs := [.int .i64 y1, .int .i64 y2, .slice u0 un uc, .slice z0 zn zc]) hst inX inX rfl rfl (by simp [Value.cells]) rfl (by omega) (by omega) ?_
        clear hst; intro u3 w hst
        (try refine nX ?_)
        repeat' (fail)
        refine s_append (k := 6) (j := 0) hst evX evX rfl rfl inX inX inX (by simp [Value.oneCell']) (by omega) (by omega) (by decide) ?_
        clear hst; intro u4 w hst
        (try refine nX ?_)
        simp only [List.set_cons_zero, List.set_cons_succ] at hst
        repeat' (first | ((fail_if_success (go_big_may)); (go_step)) | (((with_reducible refine Sl.k_load ?_; (refine s_qt hst (by exact qt_load rfl _ BoxIn.h inX rfl rfl) ?_))) <;> (try refine nX ?_)) | (with_reducible refine Sl.gate rfl ?_; (go_step)) | (((((with_reducible refine Sl.k_store ?_; (refine s_store hst rfl _ BoxIn.h inX evX rfl lenOk oneOk (by simp) ?_); clear hst; intro w hst)))) <;> (try refine nX ?_) <;> (try replace hst := nH hst)))
        have hst := hst.drop.drop.drop.drop.drop.drop
        go_roundw
        case rel => exact ⟨_, k + 1, out ++ [_], _, s4, a6, n6, c6, (hS.trans hS2).trans hS3, by go_num, by rw [List.length_append, hol9.out]; rfl, fun _ => ⟨hx0, hx1⟩, by omega, hR9.out, RL.append (hRL.mono (hS2.trans hS3)) (RL.one_mk (r_sd i1 i2 (hu.mono hS3) hz)), by omega, hvb6, hst⟩
        case measure => simp [intOf]; omega
      · have h3 : (q' : Int) ≠ 0 := by omega
        rw [listF_err (by exact hq)] at hR
        subst hR
        repeat' ((fail_if_success (with_reducible show Code.wp _ (Code.region 15 _ _) _ _ _)); first | (((with_reducible refine Sl.k_guard ?_; ((refine Sl.guard_yes rfl ?_)))) <;> (try refine nX ?_)) | ((fail_if_success (go_big_may)); (go_step)) | ((first | (with_reducible refine Sl.k_load ?_; (refine s_qt hst (by exact qt_load rfl _ BoxIn.h inX rfl rfl) ?_)) | (with_reducible refine Sl.k_field ?_; (refine s_qt hst (qt_field rfl inX) ?_))) <;> (try refine nX ?_)) | (with_reducible refine Sl.gate rfl ?_; (go_step)))
        refine p_begin hst (by kernel_rfl) ?_; clear hst; intro w hst; (try refine nX ?_)
        refine p_take 0 (by repeat (first | exact panicQ_body | refine panicQ_then ?_ | refine panicQ_block ?_)) rfl (by kernel_rfl) (by kernel_rfl) (by kernel_rfl) rfl (fun _ _ => qt_move evX) ?_; (try refine nX ?_)
        refine p_take 2 (by repeat (first | exact panicQ_body | refine panicQ_then ?_ | refine panicQ_block ?_)) rfl (by kernel_rfl) (by kernel_rfl) (by kernel_rfl) rfl (fun _ _ => qt_assign evX) ?_; (try refine nX ?_)
        refine p_one 1 rfl (by kernel_rfl) ?_; intro K hK; refine s_qt hst (qt_load rfl _ BoxIn.h inX rfl rfl) ?_; (try refine nX ?_); (try replace hst := nH hst); refine p_next hK ?_; clear hK K; (try refine nX ?_)
        refine p_one 3 rfl (by kernel_rfl) ?_; intro K hK; (first | refine s_stR hst rfl BoxIn.h evX asX inX rfl rfl ?_ | refine s_store hst rfl _ BoxIn.h inX evX rfl lenOk oneOk (by simp <;> omega) ?_); clear hst; intro w hst; (try refine nX ?_); (try replace hst := nH hst); refine p_next hK ?_; clear hK K; (try refine nX ?_)
        refine p_done (by kernel_rfl) ?_
        all_goals
          repeat' (((fail_if_success (go_big_may)); (go_step)))
          obtain ⟨u0, un, uc, rfl⟩ := sl_form hst
          refine ret_two rfl (rv_tmp rfl) (rv_cell hst rfl _ BoxIn.h inX rfl rfl) ?_; (try simp only [nth, List.drop_zero, List.drop_succ_cons, List.take_succ_cons, List.take_zero, vOf_true, vOf_false])
          obtain ⟨S2, hS2, hst, hv⟩ := St.freeze (α := SD) hst hRL hol9.out.symm
          exact ⟨_, rfl, S2, _, _, _, _, _, _, hS.trans hS2, rfl, hv, hvb2.mono hS2, hst.drop.drop.drop⟩
    · have ek : x1.toNat - k = 0 := by omega
      rw [ek, listF] at hR
      subst hR
      repeat' ((fail_if_success (with_reducible show Code.wp _ (Code.region 15 _ _) _ _ _)); first | (((with_reducible refine Sl.k_guard ?_; ((refine Sl.guard_no rfl ?_)))) <;> (try refine nX ?_)) | ((fail_if_success (go_big_may)); (go_step)) | (with_reducible refine Sl.gate rfl ?_; (go_step)))
      refine p_begin hst (by kernel_rfl) ?_; clear hst; intro w hst; (try refine nX ?_)
      refine p_take 0 (by repeat (first | exact panicQ_body | refine panicQ_then ?_ | refine panicQ_block ?_)) rfl (by kernel_rfl) (by kernel_rfl) (by kernel_rfl) rfl (fun _ _ => qt_move evX) ?_; (try refine nX ?_)
      refine p_take 2 (by repeat (first | exact panicQ_body | refine panicQ_then ?_ | refine panicQ_block ?_)) rfl (by kernel_rfl) (by kernel_rfl) (by kernel_rfl) rfl (fun _ _ => qt_assign evX) ?_; (try refine nX ?_)
      refine p_one 1 rfl (by kernel_rfl) ?_; intro K hK; refine s_qt hst (qt_load rfl _ BoxIn.h inX rfl rfl) ?_; (try refine nX ?_); (try replace hst := nH hst); refine p_next hK ?_; clear hK K; (try refine nX ?_)
      refine p_one 3 rfl (by kernel_rfl) ?_; intro K hK; (first | refine s_stR hst rfl BoxIn.h evX asX inX rfl rfl ?_ | refine s_store hst rfl _ BoxIn.h inX evX rfl lenOk oneOk (by simp <;> omega) ?_); clear hst; intro w hst; (try refine nX ?_); (try replace hst := nH hst); refine p_next hK ?_; clear hK K; (try refine nX ?_)
      refine p_done (by kernel_rfl) ?_
      all_goals
        repeat' (((fail_if_success (go_big_may)); (go_step)))
        obtain ⟨u0, un, uc, rfl⟩ := sl_form hst
        refine ret_two rfl (rv_tmp rfl) (rv_cell hst rfl _ BoxIn.h inX rfl rfl) ?_; (try simp only [nth, List.drop_zero, List.drop_succ_cons, List.take_succ_cons, List.take_zero, vOf_true, vOf_false])
        obtain ⟨S2, hS2, hst, hv⟩ := St.freeze (α := SD) hst hRL hol9.out.symm
        exact ⟨_, rfl, S2, _, _, _, _, _, _, hS.trans hS2, rfl, hv, hvb2.mono hS2, hst.drop.drop.drop⟩
end Go.Proofs.YtlimhgamebnfeaaDoor

/- Package manifest's references: the decoders of manifests, keysets, rotations. -/
--@hgp
--@flat
--@dg
--@ex0
namespace Go.Proofs.YtlimhgamebnfeaaDoor
set_option linter.unusedSimpArgs false
set_option linter.unusedVariables false
open Go.RowKit Go.Sl

set_option maxRecDepth 8000 in
set_option maxHeartbeats 2000000 in
theorem rdecM_c {S M} (w : World) (hst : St S M w) (b : List UInt8) (hm : b.length ≤ 1048576) :
    Rets Tryd.prog 32 [StrV b] w fun v w' => DecMPost S M (decP mfP zMF b) v w' := by
  unfold Rets
  rw [decP_end]
  have l1 := mf_shr (b, 0)
  have d1 := fun {S : Snap} {M : List Chunk} (w : World) (a : Option Addr) (n c : Nat) (hvb : RSl S (.slice a n c) b) (hst : St S M w) => rthree_c w hst a n c (b, 0) hvb hm
  obtain ⟨⟨m, s1⟩, e1⟩ : ∃ r, mfP (b, 0) = r := ⟨_, rfl⟩
  have d2 := fun {S : Snap} {M : List Chunk} (w : World) (a : Option Addr) (n c : Nat) (hvb : RestP S s1 a n c) hm (hst : St S M w) => rend_c w hst a n c s1 hvb hm
  rw [e1] at d1 l1 ⊢
  obtain ⟨x1, x2, x3, ds, ⟨⟩⟩ := m
  simp only at d1 l1 ⊢
  clear e1
  generalize endE s1 = z at *
  by_cases hz : z = 0
  · subst hz
    rw [if_neg (by simp)]
    go_enter Tryd.func32, Tryd.ntmps32
    repeat' ((fail_if_success (with_reducible show Code.wp _ (Code.region 2 _ _) _ _ _)); first | (((with_reducible (refine Sl.k_conv ?_; (with_unfolding_all refine s_bytes (b := b) hst rfl StrT.u inX IntT.u (by omega) ?_); clear hst; intro v10 w hst; obtain ⟨ua, un, uc, rfl⟩ := sl_form hst; have fz := lit_u8 b hst rfl rfl; clear hst; obtain ⟨S1, hS1, hst, hvb⟩ := fz))) <;> (try refine nX ?_)) | (((with_reducible refine Sl.k_call ?_; ((refine s_call (d1 _ _ _ _ hvb hst) inX rfl ?_; clear hst; rintro v w ⟨S2, a0, n0, c0, a1, n1, c1, a2, n2, c2, hS2, rfl, h3, hds, hvb2, hst⟩)))) <;> (try refine nX ?_) <;> (try replace hst := nH hst)) | ((fail_if_success (go_big_may)); (go_step)) | (with_reducible refine Sl.gate rfl ?_; (go_step)) | ((((first | (with_reducible refine Sl.k_store ?_; (refine s_store hst rfl _ BoxIn.h inX evX rfl lenOk oneOk (by simp) ?_); clear hst; intro w hst) | (refine s_alloc hst inX ?_; clear hst; intro bk w hst)))) <;> (try refine nX ?_) <;> (try replace hst := nH hst)))
    repeat' ((fail_if_success (with_reducible show Code.wp _ (Code.region 5 _ _) _ _ _)); first | (((with_reducible refine Sl.k_call ?_; ((refine s_call (d2 _ _ _ _ hvb2 (by omega) hst) inX rfl ?_; clear hst; rintro v w ⟨rfl, hst⟩)))) <;> (try refine nX ?_) <;> (try replace hst := nH hst)) | ((fail_if_success (go_big_may)); (go_step)) | (((with_reducible refine Sl.k_load ?_; (refine s_qt hst (by exact qt_load rfl _ BoxIn.h inX rfl rfl) ?_))) <;> (try refine nX ?_)) | (with_reducible refine Sl.gate rfl ?_; (go_step)))
    refine v_begin hst (by kernel_rfl) ?_; clear hst; intro ops; (try refine nX ?_)
    (refine t_qt 0 rfl (by kernel_rfl) rfl rfl (by exact qt_move evX) ?_) <;> (try refine nX ?_)
    ((refine t_ex0 1 rfl (by kernel_rfl) rfl rfl (qt_index evX h3 rfl inX inX omX (by simp) ) ?_; rintro  v1 hp1; simp only [Int.toNat_zero, Int.toNat_one, Int.reduceToNat, List.getElem_cons_zero, List.getElem_cons_succ] at hp1)) <;> (try refine nX ?_)
    ((refine t_ex0 2 rfl (by kernel_rfl) rfl rfl (qt_ldp_int evX hp1 inX ) ?_; rintro  v2 ⟨rfl, j1⟩)) <;> (try refine nX ?_)
    (refine t_qt 3 rfl (by kernel_rfl) rfl rfl (by exact qt_move evX) ?_) <;> (try refine nX ?_)
    ((refine t_ex0 4 rfl (by kernel_rfl) rfl rfl (qt_index evX h3 rfl inX inX omX (by simp) ) ?_; rintro  v4 hp4; simp only [Int.toNat_zero, Int.toNat_one, Int.reduceToNat, List.getElem_cons_zero, List.getElem_cons_succ] at hp4)) <;> (try refine nX ?_)
    ((refine t_ex0 5 rfl (by kernel_rfl) rfl rfl (qt_ldp_int evX hp4 inX ) ?_; rintro  v5 ⟨rfl, j2⟩)) <;> (try refine nX ?_)
    (refine t_qt 6 rfl (by kernel_rfl) rfl rfl (by exact qt_move evX) ?_) <;> (try refine nX ?_)
    ((refine t_ex0 7 rfl (by kernel_rfl) rfl rfl (qt_index evX h3 rfl inX inX omX (by simp) ) ?_; rintro  v7 hp7; simp only [Int.toNat_zero, Int.toNat_one, Int.reduceToNat, List.getElem_cons_zero, List.getElem_cons_succ] at hp7)) <;> (try refine nX ?_)
    ((refine t_ex0 8 rfl (by kernel_rfl) rfl rfl (qt_ldp_int evX hp7 inX ) ?_; rintro  v8 ⟨rfl, j3⟩)) <;> (try refine nX ?_)
    (refine t_qt 9 rfl (by kernel_rfl) rfl rfl (by exact qt_move evX) ?_) <;> (try refine nX ?_)
    (refine t_qt 10 rfl (by kernel_rfl) rfl rfl (by exact qt_buildS inX inX rfl) ?_) <;> (try refine nX ?_)
    refine v_one 11 rfl (by kernel_rfl) ?_; intro w hst K hK; (refine s_store hst rfl _ BoxIn.h inX evX rfl lenOk oneOk (by simp <;> omega) ?_); clear hst; intro w hst; (try refine nX ?_); (try replace hst := nH hst); refine v_last hK hst ?_; clear hst hK K; (try clear w); (try refine nX ?_)
    (refine t_qt 12 rfl (by kernel_rfl) rfl rfl (by exact qt_assign evX) ?_) <;> (try refine nX ?_)
    refine v_done (by kernel_rfl) ?_; clear ops; intro w hst
    repeat' (((fail_if_success (go_big_may)); (go_step)))
    refine ret_two rfl (rv_cell hst rfl _ BoxIn.h inX rfl rfl) (rv_tmp rfl) ?_; (try simp only [nth, List.drop_zero, List.drop_succ_cons, List.take_succ_cons, List.take_zero, vOf_true, vOf_false])
    exact ⟨_, rfl, S2, _, _, _, _, _, _, hS1.trans hS2, rfl, r_mf j1 j2 j3 hds, hst.drop.drop⟩
  · have h9 : (z : Int) ≠ 0 := by omega
    rw [if_pos hz]
    go_enter Tryd.func32, Tryd.ntmps32
    repeat' ((fail_if_success (with_reducible show Code.wp _ (Code.region 2 _ _) _ _ _)); first | (((with_reducible (refine Sl.k_conv ?_; (with_unfolding_all refine s_bytes (b := b) hst rfl StrT.u inX IntT.u (by omega) ?_); clear hst; intro v10 w hst; obtain ⟨ua, un, uc, rfl⟩ := sl_form hst; have fz := lit_u8 b hst rfl rfl; clear hst; obtain ⟨S1, hS1, hst, hvb⟩ := fz))) <;> (try refine nX ?_)) | (((with_reducible refine Sl.k_call ?_; ((refine s_call (d1 _ _ _ _ hvb hst) inX rfl ?_; clear hst; rintro v w ⟨S2, a0, n0, c0, a1, n1, c1, a2, n2, c2, hS2, rfl, h3, hds, hvb2, hst⟩)))) <;> (try refine nX ?_) <;> (try replace hst := nH hst)) | ((fail_if_success (go_big_may)); (go_step)) | (with_reducible refine Sl.gate rfl ?_; (go_step)) | ((((first | (with_reducible refine Sl.k_store ?_; (refine s_store hst rfl _ BoxIn.h inX evX rfl lenOk oneOk (by simp) ?_); clear hst; intro w hst) | (refine s_alloc hst inX ?_; clear hst; intro bk w hst)))) <;> (try refine nX ?_) <;> (try replace hst := nH hst)))
    repeat' (first | (((with_reducible refine Sl.k_call ?_; ((refine s_call (d2 _ _ _ _ hvb2 (by omega) hst) inX rfl ?_; clear hst; rintro v w ⟨rfl, hst⟩)))) <;> (try refine nX ?_) <;> (try replace hst := nH hst)) | ((fail_if_success (go_big_may)); (go_step)) | (((with_reducible refine Sl.k_load ?_; (refine s_qt hst (by exact qt_load rfl _ BoxIn.h inX rfl rfl) ?_))) <;> (try refine nX ?_)) | (with_reducible refine Sl.gate rfl ?_; (go_step)) | (((((with_reducible refine Sl.k_store ?_; (refine s_store hst rfl _ BoxIn.h inX evX rfl lenOk oneOk (by simp) ?_); clear hst; intro w hst)))) <;> (try refine nX ?_) <;> (try replace hst := nH hst)))
    refine ret_two rfl (rv_cell hst rfl _ BoxIn.h inX rfl rfl) (rv_tmp rfl) ?_; (try simp only [nth, List.drop_zero, List.drop_succ_cons, List.take_succ_cons, List.take_zero, vOf_true, vOf_false])
    exact ⟨_, rfl, S2, 0, 0, 0, none, 0, 0, hS1.trans hS2, rfl, r_zMF, hst.drop.drop⟩

set_option maxRecDepth 8000 in
set_option maxHeartbeats 2000000 in
theorem rdecK_c {S M} (w : World) (hst : St S M w) (b : List UInt8) (hm : b.length ≤ 1048576) :
    Rets Tryd.prog 34 [StrV b] w fun v w' => DecKPost S M (decP mfP zMF b) v w' := by
  unfold Rets
  rw [decP_end]
  have l1 := mf_shr (b, 0)
  have d1 := fun {S : Snap} {M : List Chunk} (w : World) (a : Option Addr) (n c : Nat) (hvb : RSl S (.slice a n c) b) (hst : St S M w) => rthree_c w hst a n c (b, 0) hvb hm
  obtain ⟨⟨m, s1⟩, e1⟩ : ∃ r, mfP (b, 0) = r := ⟨_, rfl⟩
  have d2 := fun {S : Snap} {M : List Chunk} (w : World) (a : Option Addr) (n c : Nat) (hvb : RestP S s1 a n c) hm (hst : St S M w) => rend_c w hst a n c s1 hvb hm
  rw [e1] at d1 l1 ⊢
  obtain ⟨x1, x2, x3, ds, ⟨⟩⟩ := m
  simp only at d1 l1 ⊢
  clear e1
  generalize endE s1 = z at *
  by_cases hz : z = 0
  · subst hz
    rw [if_neg (by simp)]
    go_enter Tryd.func34, Tryd.ntmps34
    repeat' ((fail_if_success (with_reducible show Code.wp _ (Code.region 2 _ _) _ _ _)); first | (((with_reducible (refine Sl.k_conv ?_; (with_unfolding_all refine s_bytes (b := b) hst rfl StrT.u inX IntT.u (by omega) ?_); clear hst; intro v10 w hst; obtain ⟨ua, un, uc, rfl⟩ := sl_form hst; have fz := lit_u8 b hst rfl rfl; clear hst; obtain ⟨S1, hS1, hst, hvb⟩ := fz))) <;> (try refine nX ?_)) | (((with_reducible refine Sl.k_call ?_; ((refine s_call (d1 _ _ _ _ hvb hst) inX rfl ?_; clear hst; rintro v w ⟨S2, a0, n0, c0, a1, n1, c1, a2, n2, c2, hS2, rfl, h3, hds, hvb2, hst⟩)))) <;> (try refine nX ?_) <;> (try replace hst := nH hst)) | ((fail_if_success (go_big_may)); (go_step)) | (with_reducible refine Sl.gate rfl ?_; (go_step)) | ((((first | (with_reducible refine Sl.k_store ?_; (refine s_store hst rfl _ BoxIn.h inX evX rfl lenOk oneOk (by simp) ?_); clear hst; intro w hst) | (refine s_alloc hst inX ?_; clear hst; intro bk w hst)))) <;> (try refine nX ?_) <;> (try replace hst := nH hst)))
    repeat' ((fail_if_success (with_reducible show Code.wp _ (Code.region 5 _ _) _ _ _)); first | (((with_reducible refine Sl.k_call ?_; ((refine s_call (d2 _ _ _ _ hvb2 (by omega) hst) inX rfl ?_; clear hst; rintro v w ⟨rfl, hst⟩)))) <;> (try refine nX ?_) <;> (try replace hst := nH hst)) | ((fail_if_success (go_big_may)); (go_step)) | (((with_reducible refine Sl.k_load ?_; (refine s_qt hst (by exact qt_load rfl _ BoxIn.h inX rfl rfl) ?_))) <;> (try refine nX ?_)) | (with_reducible refine Sl.gate rfl ?_; (go_step)))
    refine v_begin hst (by kernel_rfl) ?_; clear hst; intro ops; (try refine nX ?_)
    (refine t_qt 0 rfl (by kernel_rfl) rfl rfl (by exact qt_move evX) ?_) <;> (try refine nX ?_)
    ((refine t_ex0 1 rfl (by kernel_rfl) rfl rfl (qt_index evX h3 rfl inX inX omX (by simp) ) ?_; rintro  v1 hp1; simp only [Int.toNat_zero, Int.toNat_one, Int.reduceToNat, List.getElem_cons_zero, List.getElem_cons_succ] at hp1)) <;> (try refine nX ?_)
    ((refine t_ex0 2 rfl (by kernel_rfl) rfl rfl (qt_ldp_int evX hp1 inX ) ?_; rintro  v2 ⟨rfl, j1⟩)) <;> (try refine nX ?_)
    (refine t_qt 3 rfl (by kernel_rfl) rfl rfl (by exact qt_move evX) ?_) <;> (try refine nX ?_)
    ((refine t_ex0 4 rfl (by kernel_rfl) rfl rfl (qt_index evX h3 rfl inX inX omX (by simp) ) ?_; rintro  v4 hp4; simp only [Int.toNat_zero, Int.toNat_one, Int.reduceToNat, List.getElem_cons_zero, List.getElem_cons_succ] at hp4)) <;> (try refine nX ?_)
    ((refine t_ex0 5 rfl (by kernel_rfl) rfl rfl (qt_ldp_int evX hp4 inX ) ?_; rintro  v5 ⟨rfl, j2⟩)) <;> (try refine nX ?_)
    (refine t_qt 6 rfl (by kernel_rfl) rfl rfl (by exact qt_move evX) ?_) <;> (try refine nX ?_)
    ((refine t_ex0 7 rfl (by kernel_rfl) rfl rfl (qt_index evX h3 rfl inX inX omX (by simp) ) ?_; rintro  v7 hp7; simp only [Int.toNat_zero, Int.toNat_one, Int.reduceToNat, List.getElem_cons_zero, List.getElem_cons_succ] at hp7)) <;> (try refine nX ?_)
    ((refine t_ex0 8 rfl (by kernel_rfl) rfl rfl (qt_ldp_int evX hp7 inX ) ?_; rintro  v8 ⟨rfl, j3⟩)) <;> (try refine nX ?_)
    (refine t_qt 9 rfl (by kernel_rfl) rfl rfl (by exact qt_move evX) ?_) <;> (try refine nX ?_)
    (refine t_qt 10 rfl (by kernel_rfl) rfl rfl (by exact qt_buildS inX inX rfl) ?_) <;> (try refine nX ?_)
    refine v_one 11 rfl (by kernel_rfl) ?_; intro w hst K hK; (refine s_store hst rfl _ BoxIn.h inX evX rfl lenOk oneOk (by simp <;> omega) ?_); clear hst; intro w hst; (try refine nX ?_); (try replace hst := nH hst); refine v_last hK hst ?_; clear hst hK K; (try clear w); (try refine nX ?_)
    (refine t_qt 12 rfl (by kernel_rfl) rfl rfl (by exact qt_assign evX) ?_) <;> (try refine nX ?_)
    refine v_done (by kernel_rfl) ?_; clear ops; intro w hst
    repeat' (((fail_if_success (go_big_may)); (go_step)))
    refine ret_two rfl (rv_cell hst rfl _ BoxIn.h inX rfl rfl) (rv_tmp rfl) ?_; (try simp only [nth, List.drop_zero, List.drop_succ_cons, List.take_succ_cons, List.take_zero, vOf_true, vOf_false])
    exact ⟨_, rfl, S2, _, _, _, _, _, _, hS1.trans hS2, rfl, r_mf j1 j2 j3 hds, hst.drop.drop⟩
  · have h9 : (z : Int) ≠ 0 := by omega
    rw [if_pos hz]
    go_enter Tryd.func34, Tryd.ntmps34
    repeat' ((fail_if_success (with_reducible show Code.wp _ (Code.region 2 _ _) _ _ _)); first | (((with_reducible (refine Sl.k_conv ?_; (with_unfolding_all refine s_bytes (b := b) hst rfl StrT.u inX IntT.u (by omega) ?_); clear hst; intro v10 w hst; obtain ⟨ua, un, uc, rfl⟩ := sl_form hst; have fz := lit_u8 b hst rfl rfl; clear hst; obtain ⟨S1, hS1, hst, hvb⟩ := fz))) <;> (try refine nX ?_)) | (((with_reducible refine Sl.k_call ?_; ((refine s_call (d1 _ _ _ _ hvb hst) inX rfl ?_; clear hst; rintro v w ⟨S2, a0, n0, c0, a1, n1, c1, a2, n2, c2, hS2, rfl, h3, hds, hvb2, hst⟩)))) <;> (try refine nX ?_) <;> (try replace hst := nH hst)) | ((fail_if_success (go_big_may)); (go_step)) | (with_reducible refine Sl.gate rfl ?_; (go_step)) | ((((first | (with_reducible refine Sl.k_store ?_; (refine s_store hst rfl _ BoxIn.h inX evX rfl lenOk oneOk (by simp) ?_); clear hst; intro w hst) | (refine s_alloc hst inX ?_; clear hst; intro bk w hst)))) <;> (try refine nX ?_) <;> (try replace hst := nH hst)))
    repeat' (first | (((with_reducible refine Sl.k_call ?_; ((refine s_call (d2 _ _ _ _ hvb2 (by omega) hst) inX rfl ?_; clear hst; rintro v w ⟨rfl, hst⟩)))) <;> (try refine nX ?_) <;> (try replace hst := nH hst)) | ((fail_if_success (go_big_may)); (go_step)) | (((with_reducible refine Sl.k_load ?_; (refine s_qt hst (by exact qt_load rfl _ BoxIn.h inX rfl rfl) ?_))) <;> (try refine nX ?_)) | (with_reducible refine Sl.gate rfl ?_; (go_step)) | (((((with_reducible refine Sl.k_store ?_; (refine s_store hst rfl _ BoxIn.h inX evX rfl lenOk oneOk (by simp) ?_); clear hst; intro w hst)))) <;> (try refine nX ?_) <;> (try replace hst := nH hst)))
    refine ret_two rfl (rv_cell hst rfl _ BoxIn.h inX rfl rfl) (rv_tmp rfl) ?_; (try simp only [nth, List.drop_zero, List.drop_succ_cons, List.take_succ_cons, List.take_zero, vOf_true, vOf_false])
    exact ⟨_, rfl, S2, 0, 0, 0, none, 0, 0, hS1.trans hS2, rfl, r_zMF, hst.drop.drop⟩

end Go.Proofs.YtlimhgamebnfeaaDoor

/- Package manifest's references: the decoder of rotations. -/
--@hgp
--@flat
--@dg
--@ex0
namespace Go.Proofs.YtlimhgamebnfeaaDoor
set_option linter.unusedSimpArgs false
set_option linter.unusedVariables false
open Go.RowKit Go.Sl

set_option maxRecDepth 8000 in
set_option maxHeartbeats 12000000 in
theorem rdecR_c {S M} (w : World) (hst : St S M w) (b : List UInt8) (hm : b.length ≤ 1048576) :
    Rets Tryd.prog 38 [StrV b] w fun v w' => DecRPost S M (decP roP zRO b) v w' := by
  unfold Rets
  rw [decP_end]
  have l1 := mf_shr (b, 0)
  have d1 := fun {S : Snap} {M : List Chunk} (w : World) (a : Option Addr) (n c : Nat) (hvb : RSl S (.slice a n c) b) (hst : St S M w) => rthree_c w hst a n c (b, 0) hvb hm
  obtain ⟨⟨m, s1⟩, e1⟩ : ∃ r, mfP (b, 0) = r := ⟨_, rfl⟩
  have d3 := fun {S : Snap} {M : List Chunk} (w : World) (a : Option Addr) (n c : Nat) (hvb : RestP S s1 a n c) hm (hst : St S M w) => rsigned_c w hst a n c s1 hvb hm
  have l2 := listP_shr sd_shr s1
  obtain ⟨⟨l, s2⟩, e2⟩ : ∃ r, listP sdP s1 = r := ⟨_, rfl⟩
  have d2 := fun {S : Snap} {M : List Chunk} (w : World) (a : Option Addr) (n c : Nat) (hvb : RestP S s2 a n c) hm (hst : St S M w) => rend_c w hst a n c s2 hvb hm
  have e : roP (b, 0) = ((m, l, ()), s2) := by unfold roP pairP unitP; simp only [e1, e2]
  rw [e]
  rw [e1] at d1 l1
  rw [e2] at d3 l2
  obtain ⟨x1, x2, x3, ds, ⟨⟩⟩ := m
  simp only at d1 d3 l1 l2 ⊢
  clear e e1 e2
  generalize endE s2 = z at *
  by_cases hz : z = 0
  · subst hz
    rw [if_neg (by simp)]
    go_enter Tryd.func38, Tryd.ntmps38
    repeat' ((fail_if_success (with_reducible show Code.wp _ (Code.region 2 _ _) _ _ _)); first | (((with_reducible (refine Sl.k_conv ?_; (with_unfolding_all refine s_bytes (b := b) hst rfl StrT.u inX IntT.u (by omega) ?_); clear hst; intro v10 w hst; obtain ⟨ua, un, uc, rfl⟩ := sl_form hst; have fz := lit_u8 b hst rfl rfl; clear hst; obtain ⟨S1, hS1, hst, hvb⟩ := fz))) <;> (try refine nX ?_)) | (((with_reducible refine Sl.k_call ?_; ((refine s_call (d1 _ _ _ _ hvb hst) inX rfl ?_; clear hst; rintro v w ⟨S2, a0, n0, c0, a1, n1, c1, a2, n2, c2, hS2, rfl, h3, hds, hvb2, hst⟩)))) <;> (try refine nX ?_) <;> (try replace hst := nH hst)) | ((fail_if_success (go_big_may)); (go_step)) | (with_reducible refine Sl.gate rfl ?_; (go_step)) | ((((first | (with_reducible refine Sl.k_store ?_; (refine s_store hst rfl _ BoxIn.h inX evX rfl lenOk oneOk (by simp) ?_); clear hst; intro w hst) | (refine s_alloc hst inX ?_; clear hst; intro bk w hst)))) <;> (try refine nX ?_) <;> (try replace hst := nH hst)))
    repeat' ((fail_if_success (with_reducible show Code.wp _ (Code.region 3 _ _) _ _ _)); first | (((with_reducible refine Sl.k_call ?_; ((refine s_call (d3 _ _ _ _ hvb2 (by omega) hst) inX rfl ?_; clear hst; rintro v w ⟨S3, a4, n4, c4, a5, n5, c5, hS3, rfl, hl, hvb3, hst⟩)))) <;> (try refine nX ?_) <;> (try replace hst := nH hst)) | ((fail_if_success (go_big_may)); (go_step)) | (((with_reducible refine Sl.k_load ?_; (refine s_qt hst (by exact qt_load rfl _ BoxIn.h inX rfl rfl) ?_))) <;> (try refine nX ?_)) | (with_reducible refine Sl.gate rfl ?_; (go_step)) | ((((first | (with_reducible refine Sl.k_store ?_; (refine s_store hst rfl _ BoxIn.h inX evX rfl lenOk oneOk (by simp) ?_); clear hst; intro w hst) | (refine s_alloc hst inX ?_; clear hst; intro bk w hst)))) <;> (try refine nX ?_) <;> (try replace hst := nH hst)))
    repeat' ((fail_if_success (with_reducible show Code.wp _ (Code.region 6 _ _) _ _ _)); first | (((with_reducible refine Sl.k_call ?_; ((refine s_call (d2 _ _ _ _ hvb3 (by omega) hst) inX rfl ?_; clear hst; rintro v w ⟨rfl, hst⟩)))) <;> (try refine nX ?_) <;> (try replace hst := nH hst)) | ((fail_if_success (go_big_may)); (go_step)) | (((with_reducible refine Sl.k_load ?_; (refine s_qt hst (by exact qt_load rfl _ BoxIn.h inX rfl rfl) ?_))) <;> (try refine nX ?_)) | (with_reducible refine Sl.gate rfl ?_; (go_step)))
    replace h3 := h3.mono hS3
    refine v_begin hst (by kernel_rfl) ?_; clear hst; intro ops; (try refine nX ?_)
    (refine t_qt 0 rfl (by kernel_rfl) rfl rfl (by exact qt_move evX) ?_) <;> (try refine nX ?_)
    ((refine t_ex0 1 rfl (by kernel_rfl) rfl rfl (qt_index evX h3 rfl inX inX omX (by simp) ) ?_; rintro  v1 hp1; simp only [Int.toNat_zero, Int.toNat_one, Int.reduceToNat, List.getElem_cons_zero, List.getElem_cons_succ] at hp1)) <;> (try refine nX ?_)
    ((refine t_ex0 2 rfl (by kernel_rfl) rfl rfl (qt_ldp_int evX hp1 inX ) ?_; rintro  v2 ⟨rfl, j1⟩)) <;> (try refine nX ?_)
    (refine t_qt 3 rfl (by kernel_rfl) rfl rfl (by exact qt_move evX) ?_) <;> (try refine nX ?_)
    ((refine t_ex0 4 rfl (by kernel_rfl) rfl rfl (qt_index evX h3 rfl inX inX omX (by simp) ) ?_; rintro  v4 hp4; simp only [Int.toNat_zero, Int.toNat_one, Int.reduceToNat, List.getElem_cons_zero, List.getElem_cons_succ] at hp4)) <;> (try refine nX ?_)
    ((refine t_ex0 5 rfl (by kernel_rfl) rfl rfl (qt_ldp_int evX hp4 inX ) ?_; rintro  v5 ⟨rfl, j2⟩)) <;> (try refine nX ?_)
    (refine t_qt 6 rfl (by kernel_rfl) rfl rfl (by exact qt_move evX) ?_) <;> (try refine nX ?_)
    ((refine t_ex0 7 rfl (by kernel_rfl) rfl rfl (qt_index evX h3 rfl inX inX omX (by simp) ) ?_; rintro  v7 hp7; simp only [Int.toNat_zero, Int.toNat_one, Int.reduceToNat, List.getElem_cons_zero, List.getElem_cons_succ] at hp7)) <;> (try refine nX ?_)
    ((refine t_ex0 8 rfl (by kernel_rfl) rfl rfl (qt_ldp_int evX hp7 inX ) ?_; rintro  v8 ⟨rfl, j3⟩)) <;> (try refine nX ?_)
    (refine t_qt 9 rfl (by kernel_rfl) rfl rfl (by exact qt_move evX) ?_) <;> (try refine nX ?_)
    (refine t_qt 10 rfl (by kernel_rfl) rfl rfl (qt_buildS (cs := [.int .i64 x1, .int .i64 x2, .int .i64 x3, .slice a1 n1 c1]) inX inX (by kernel_rfl)) ?_) <;> (try refine nX ?_)
    (refine t_qt 11 rfl (by kernel_rfl) rfl rfl (by exact qt_move evX) ?_) <;> (try refine nX ?_)
    (refine t_qt 12 rfl (by kernel_rfl) rfl rfl (qt_buildS (cs := [.int .i64 x1, .int .i64 x2, .int .i64 x3, .slice a1 n1 c1, .slice a4 n4 c4]) inX inX (by kernel_rfl)) ?_) <;> (try refine nX ?_)
    refine v_one 13 rfl (by kernel_rfl) ?_; intro w hst K hK; (refine s_store hst rfl _ BoxIn.h inX evX rfl lenOk oneOk (by simp <;> omega) ?_); clear hst; intro w hst; (try refine nX ?_); (try replace hst := nH hst); refine v_last hK hst ?_; clear hst hK K; (try clear w); (try refine nX ?_)
    (refine t_qt 14 rfl (by kernel_rfl) rfl rfl (by exact qt_assign evX) ?_) <;> (try refine nX ?_)
    refine v_done (by kernel_rfl) ?_; clear ops; intro w hst
    repeat' (((fail_if_success (go_big_may)); (go_step)))
    refine ret_two rfl (rv_cell hst rfl _ BoxIn.h inX rfl rfl) (rv_tmp rfl) ?_; (try simp only [nth, List.drop_zero, List.drop_succ_cons, List.take_succ_cons, List.take_zero, vOf_true, vOf_false])
    exact ⟨_, rfl, S3, _, _, _, _, _, _, _, _, _, (hS1.trans hS2).trans hS3, rfl, r_ro (r_mf j1 j2 j3 (hds.mono hS3)) hl, hst.drop.drop.drop⟩
  · have h9 : (z : Int) ≠ 0 := by omega
    rw [if_pos hz]
    go_enter Tryd.func38, Tryd.ntmps38
    repeat' ((fail_if_success (with_reducible show Code.wp _ (Code.region 2 _ _) _ _ _)); first | (((with_reducible (refine Sl.k_conv ?_; (with_unfolding_all refine s_bytes (b := b) hst rfl StrT.u inX IntT.u (by omega) ?_); clear hst; intro v10 w hst; obtain ⟨ua, un, uc, rfl⟩ := sl_form hst; have fz := lit_u8 b hst rfl rfl; clear hst; obtain ⟨S1, hS1, hst, hvb⟩ := fz))) <;> (try refine nX ?_)) | (((with_reducible refine Sl.k_call ?_; ((refine s_call (d1 _ _ _ _ hvb hst) inX rfl ?_; clear hst; rintro v w ⟨S2, a0, n0, c0, a1, n1, c1, a2, n2, c2, hS2, rfl, h3, hds, hvb2, hst⟩)))) <;> (try refine nX ?_) <;> (try replace hst := nH hst)) | ((fail_if_success (go_big_may)); (go_step)) | (with_reducible refine Sl.gate rfl ?_; (go_step)) | ((((first | (with_reducible refine Sl.k_store ?_; (refine s_store hst rfl _ BoxIn.h inX evX rfl lenOk oneOk (by simp) ?_); clear hst; intro w hst) | (refine s_alloc hst inX ?_; clear hst; intro bk w hst)))) <;> (try refine nX ?_) <;> (try replace hst := nH hst)))
    repeat' ((fail_if_success (with_reducible show Code.wp _ (Code.region 3 _ _) _ _ _)); first | (((with_reducible refine Sl.k_call ?_; ((refine s_call (d3 _ _ _ _ hvb2 (by omega) hst) inX rfl ?_; clear hst; rintro v w ⟨S3, a4, n4, c4, a5, n5, c5, hS3, rfl, hl, hvb3, hst⟩)))) <;> (try refine nX ?_) <;> (try replace hst := nH hst)) | ((fail_if_success (go_big_may)); (go_step)) | (((with_reducible refine Sl.k_load ?_; (refine s_qt hst (by exact qt_load rfl _ BoxIn.h inX rfl rfl) ?_))) <;> (try refine nX ?_)) | (with_reducible refine Sl.gate rfl ?_; (go_step)) | ((((first | (with_reducible refine Sl.k_store ?_; (refine s_store hst rfl _ BoxIn.h inX evX rfl lenOk oneOk (by simp) ?_); clear hst; intro w hst) | (refine s_alloc hst inX ?_; clear hst; intro bk w hst)))) <;> (try refine nX ?_) <;> (try replace hst := nH hst)))
    repeat' (first | (((with_reducible refine Sl.k_call ?_; ((refine s_call (d2 _ _ _ _ hvb3 (by omega) hst) inX rfl ?_; clear hst; rintro v w ⟨rfl, hst⟩)))) <;> (try refine nX ?_) <;> (try replace hst := nH hst)) | ((fail_if_success (go_big_may)); (go_step)) | (((with_reducible refine Sl.k_load ?_; (refine s_qt hst (by exact qt_load rfl _ BoxIn.h inX rfl rfl) ?_))) <;> (try refine nX ?_)) | (with_reducible refine Sl.gate rfl ?_; (go_step)) | (((((with_reducible refine Sl.k_store ?_; (refine s_store hst rfl _ BoxIn.h inX evX rfl lenOk oneOk (by simp) ?_); clear hst; intro w hst)))) <;> (try refine nX ?_) <;> (try replace hst := nH hst)))
    refine ret_two rfl (rv_cell hst rfl _ BoxIn.h inX rfl rfl) (rv_tmp rfl) ?_; (try simp only [nth, List.drop_zero, List.drop_succ_cons, List.take_succ_cons, List.take_zero, vOf_true, vOf_false])
    exact ⟨_, rfl, S3, 0, 0, 0, none, 0, 0, none, 0, 0, (hS1.trans hS2).trans hS3, rfl, r_zRO, hst.drop.drop.drop⟩
end Go.Proofs.YtlimhgamebnfeaaDoor

/- Package manifest's references: the decoder of bundles. -/
--@hgp
--@flat
--@dg
--@ex0
namespace Go.Proofs.YtlimhgamebnfeaaDoor
set_option linter.unusedSimpArgs false
set_option linter.unusedVariables false
open Go.RowKit Go.Sl

set_option maxRecDepth 8000 in
set_option maxHeartbeats 4000000 in
theorem rdecB_c {S M} (w : World) (hst : St S M w) (b : List UInt8) (hm : b.length ≤ 1048576) :
    Rets Tryd.prog 36 [StrV b] w fun v w' => DecBPost S M (decP buP zBU b) v w' := by
  unfold Rets
  rw [decP_end]
  have l1 := mf_shr (b, 0)
  have d1 := fun {S : Snap} {M : List Chunk} (w : World) (a : Option Addr) (n c : Nat) (hvb : RSl S (.slice a n c) b) (hst : St S M w) => rthree_c w hst a n c (b, 0) hvb hm
  obtain ⟨⟨m, s1⟩, e1⟩ : ∃ r, mfP (b, 0) = r := ⟨_, rfl⟩
  have d3 := fun {S : Snap} {M : List Chunk} (w : World) (a : Option Addr) (n c : Nat) (hvb : RestP S s1 a n c) hm (hst : St S M w) => rsigned_c w hst a n c s1 hvb hm
  have l2 := listP_shr sd_shr s1
  obtain ⟨⟨l, s2⟩, e2⟩ : ∃ r, listP sdP s1 = r := ⟨_, rfl⟩
  have d4 := fun {S : Snap} {M : List Chunk} (w : World) (a : Option Addr) (n c : Nat) (hvb : RestP S s2 a n c) hm (hst : St S M w) => rmany_c w hst a n c s2 hvb hm
  have i4 := nxt_i64 s2
  have l3 := nxt_shr 0 getI s2
  obtain ⟨⟨y1, s3⟩, e3⟩ : ∃ r, nxt 0 getI s2 = r := ⟨_, rfl⟩
  obtain ⟨sm, em⟩ : ∃ r, manyE y1 s3 = r := ⟨_, rfl⟩
  have l4 := manyE_shr y1 s3
  have hsm : sm.2 = 0 → 0 ≤ y1 ∧ y1 ≤ 1048576 := fun h => by
    rw [← em] at h
    have := manyE_ok h
    rw [e1] at l1
    rw [e2] at l2
    rw [e3] at l3
    simp only at l1 l2 l3
    omega
  obtain ⟨⟨R, s4⟩, eR⟩ : ∃ r, listF (nxt ⟨[]⟩ getS) y1.toNat sm [] = r := ⟨_, rfl⟩
  have e : buP (b, 0) = ((m, l, R, ()), s4) := by unfold buP pairP unitP listP; simp only [e1, e3, em, eR]; rw [show listF sdP (nxt 0 getI s1).1.toNat (manyE (nxt 0 getI s1).1 (nxt 0 getI s1).2) [] = (l, s2) from e2]; simp only [e3, em, eR]
  rw [e]
  rw [e1] at d1 l1
  rw [e2] at d3 l2
  rw [e3] at d4 l3 i4
  simp only at d1 d3 d4 l1 l2 l3 i4 ⊢
  rw [em] at d4 l4
  obtain ⟨x1, x2, x3, ds, ⟨⟩⟩ := m
  (try simp only at d1)
  have hms : sm.1.length ≤ 1048576 := by omega
  have eR' := Lib.hid eR
  clear e e1 e2 e3 em eR
  go_enter Tryd.func36, Tryd.ntmps36
  repeat' ((fail_if_success (with_reducible show Code.wp _ (Code.region 1 _ _) _ _ _)); first | ((fail_if_success (go_big_may)); (go_step)) | (((((refine s_alloc hst inX ?_; clear hst; intro bk w hst)))) <;> (try refine nX ?_) <;> (try replace hst := nH hst)))
  obtain ⟨b2, rfl⟩ : ∃ b, b = bk := ⟨_, rfl⟩
  repeat' ((fail_if_success (with_reducible show Code.wp _ (Code.region 2 _ _) _ _ _)); first | (((with_reducible (refine Sl.k_conv ?_; (with_unfolding_all refine s_bytes (b := b) hst rfl StrT.u inX IntT.u (by omega) ?_); clear hst; intro v10 w hst; obtain ⟨ua, un, uc, rfl⟩ := sl_form hst; have fz := lit_u8 b hst rfl rfl; clear hst; obtain ⟨S1, hS1, hst, hvb⟩ := fz))) <;> (try refine nX ?_)) | (((with_reducible refine Sl.k_call ?_; ((refine s_call (d1 _ _ _ _ hvb hst) inX rfl ?_; clear hst; rintro v w ⟨S2, a0, n0, c0, a1, n1, c1, a2, n2, c2, hS2, rfl, h3, hds, hvb2, hst⟩)))) <;> (try refine nX ?_) <;> (try replace hst := nH hst)) | ((fail_if_success (go_big_may)); (go_step)) | (with_reducible refine Sl.gate rfl ?_; (go_step)) | ((((first | (with_reducible refine Sl.k_store ?_; (refine s_store hst rfl _ BoxIn.h inX evX rfl lenOk oneOk (by simp) ?_); clear hst; intro w hst) | (refine s_alloc hst inX ?_; clear hst; intro bk w hst)))) <;> (try refine nX ?_) <;> (try replace hst := nH hst)))
  obtain ⟨b6, rfl⟩ : ∃ b, b = bk := ⟨_, rfl⟩
  refine v_begin hst (by kernel_rfl) ?_; clear hst; intro ops; (try refine nX ?_)
  (refine t_qt 0 rfl (by kernel_rfl) rfl rfl (by exact qt_move evX) ?_) <;> (try refine nX ?_)
  ((refine t_ex0 1 rfl (by kernel_rfl) rfl rfl (qt_index evX h3 rfl inX inX omX (by simp) ) ?_; rintro  v1 hp1; simp only [Int.toNat_zero, Int.toNat_one, Int.reduceToNat, List.getElem_cons_zero, List.getElem_cons_succ] at hp1)) <;> (try refine nX ?_)
  ((refine t_ex0 2 rfl (by kernel_rfl) rfl rfl (qt_ldp_int evX hp1 inX ) ?_; rintro  v2 ⟨rfl, j1⟩)) <;> (try refine nX ?_)
  (refine t_qt 3 rfl (by kernel_rfl) rfl rfl (by exact qt_move evX) ?_) <;> (try refine nX ?_)
  ((refine t_ex0 4 rfl (by kernel_rfl) rfl rfl (qt_index evX h3 rfl inX inX omX (by simp) ) ?_; rintro  v4 hp4; simp only [Int.toNat_zero, Int.toNat_one, Int.reduceToNat, List.getElem_cons_zero, List.getElem_cons_succ] at hp4)) <;> (try refine nX ?_)
  ((refine t_ex0 5 rfl (by kernel_rfl) rfl rfl (qt_ldp_int evX hp4 inX ) ?_; rintro  v5 ⟨rfl, j2⟩)) <;> (try refine nX ?_)
  (refine t_qt 6 rfl (by kernel_rfl) rfl rfl (by exact qt_move evX) ?_) <;> (try refine nX ?_)
  ((refine t_ex0 7 rfl (by kernel_rfl) rfl rfl (qt_index evX h3 rfl inX inX omX (by simp) ) ?_; rintro  v7 hp7; simp only [Int.toNat_zero, Int.toNat_one, Int.reduceToNat, List.getElem_cons_zero, List.getElem_cons_succ] at hp7)) <;> (try refine nX ?_)
  ((refine t_ex0 8 rfl (by kernel_rfl) rfl rfl (qt_ldp_int evX hp7 inX ) ?_; rintro  v8 ⟨rfl, j3⟩)) <;> (try refine nX ?_)
  (refine t_qt 9 rfl (by kernel_rfl) rfl rfl (by exact qt_move evX) ?_) <;> (try refine nX ?_)
  (refine t_qt 10 rfl (by kernel_rfl) rfl rfl (qt_buildS (cs := [.int .i64 x1, .int .i64 x2, .int .i64 x3, .slice a1 n1 c1]) inX inX (by kernel_rfl)) ?_) <;> (try refine nX ?_)
  (refine t_qt 11 rfl (by kernel_rfl) rfl rfl (qt_buildS (cs := [.int .i64 x1, .int .i64 x2, .int .i64 x3, .slice a1 n1 c1, .slice none 0 0, .slice none 0 0]) inX inX (by kernel_rfl)) ?_) <;> (try refine nX ?_)
  refine v_one 12 rfl (by kernel_rfl) ?_; intro w hst K hK; refine s_alloc hst inX ?_; clear hst; intro b12 w hst; (try refine nX ?_); (try replace hst := nH hst); refine v_next hK hst (Snap.Le.refl _) (Suf.cons (Suf.refl _)) ?_; clear hst hK K; (try clear w); (try refine nX ?_)
  refine v_one 13 rfl (by kernel_rfl) ?_; intro w hst K hK; (refine s_store hst rfl _ BoxIn.h inX evX rfl lenOk oneOk (by simp <;> omega) ?_); clear hst; intro w hst; (try refine nX ?_); (try replace hst := nH hst); refine v_last hK hst ?_; clear hst hK K; (try clear w); (try refine nX ?_)
  refine v_done (by kernel_rfl) ?_; clear ops; intro w hst
  repeat' ((fail_if_success (with_reducible show Code.wp _ (Code.region 4 _ _) _ _ _)); first | (((with_reducible refine Sl.k_call ?_; ((refine s_call (d3 _ _ _ _ hvb2 (by omega) hst) inX rfl ?_; clear hst; rintro v w ⟨S3, a4, n4, c4, a5, n5, c5, hS3, rfl, hl, hvb3, hst⟩)))) <;> (try refine nX ?_) <;> (try replace hst := nH hst)) | ((fail_if_success (go_big_may)); (go_step)) | (((with_reducible refine Sl.k_load ?_; (refine s_qt hst (by exact qt_load rfl _ BoxIn.h inX rfl rfl) ?_))) <;> (try refine nX ?_)) | (with_reducible refine Sl.gate rfl ?_; (go_step)) | ((((first | (with_reducible refine Sl.k_store ?_; (refine s_store hst rfl _ BoxIn.h inX evX rfl lenOk oneOk (by simp) ?_); clear hst; intro w hst) | (refine s_alloc hst inX ?_; clear hst; intro bk w hst)))) <;> (try refine nX ?_) <;> (try replace hst := nH hst)))
  obtain ⟨b9, rfl⟩ : ∃ b, b = bk := ⟨_, rfl⟩
  repeat' ((fail_if_success (with_reducible show Code.wp _ (Code.region 6 _ _) _ _ _)); first | (((with_reducible refine Sl.k_call ?_; ((refine s_call (d4 _ _ _ _ hvb3 (by omega) hst) inX rfl ?_; clear hst; rintro v w ⟨a6, n6, c6, rfl, hvb4, hst⟩)))) <;> (try refine nX ?_) <;> (try replace hst := nH hst)) | ((fail_if_success (go_big_may)); (go_step)) | ((first | (with_reducible refine Sl.k_load ?_; (refine s_qt hst (by exact qt_load rfl _ BoxIn.h inX rfl rfl) ?_)) | (with_reducible refine Sl.k_field ?_; (refine s_qt hst (qt_field rfl inX) ?_))) <;> (try refine nX ?_)) | (with_reducible refine Sl.gate rfl ?_; (go_step)) | ((((first | (with_reducible refine Sl.k_store ?_; (refine s_store hst rfl _ BoxIn.h inX evX rfl lenOk oneOk (by simp) ?_); clear hst; intro w hst) | (refine s_alloc hst inX ?_; clear hst; intro bk w hst)))) <;> (try refine nX ?_) <;> (try replace hst := nH hst)))
  obtain ⟨b11, rfl⟩ : ∃ b, b = bk := ⟨_, rfl⟩
  repeat' (((fail_if_success (go_big_may)); (go_step)))
  have hst := hst.nil strT 1
  have l1' := l1; clear l1 l2 l3 l4
  go_loopw [12] (fun b wr => ∃ (S' : Snap) (k : Nat) (out out' : List Str) (cells : List Value) (s' : PS) (au : Option Addr) (nu cu : Nat) (a7 : Option Addr) (n7 c7 : Nat), S3.Le S' ∧ b = .int .i64 (k : Nat) ∧ (s'.2 = 0 → out.length = k) ∧ (s'.2 = 0 → 0 ≤ y1 ∧ y1 ≤ 1048576) ∧ (k : Int) ≤ max y1 0 ∧ listF (nxt ⟨[]⟩ getS) (y1.toNat - k) s' out' = (R, s4) ∧ (s'.2 = 0 → out' = out) ∧ RL S' cells out ∧ s'.1.length ≤ 1048576 ∧ RestP S' s' a7 n7 c7 ∧ St S' (.sl (.slice au nu cu) strT 1 out.length cells :: .box b11 [.slice a7 n7 c7, .int .i64 (s'.2 : Nat)] restT :: .box b9 [.slice a5 n5 c5, .int .i64 (s2.2 : Nat)] restT :: .box b12 [.int .i64 x1, .int .i64 x2, .int .i64 x3, .slice a1 n1 c1, .slice a4 n4 c4, .slice au nu cu] 28 :: .box b6 [.slice a2 n2 c2, .int .i64 (s1.2 : Nat)] restT :: .box b2 [.int .i64 0, .int .i64 0, .int .i64 0, .slice none 0 0, .slice none 0 0, .slice none 0 0] 28 :: M) wr) (fun b _ => y1.toNat - (intOf b).toNat)
  case atStart => exact ⟨S3, 0, [], [], [], sm, _, _, _, a6, n6, c6, Snap.Le.refl _, rfl, fun _ => rfl, hsm, by omega, eR'.out, fun _ => rfl, RL.nil, hms, hvb4, hst⟩
  case round =>
    clear hst hvb4 hms hsm eR' d1 d3 d4
    obtain ⟨S', k, out, out', cells, ⟨b', q'⟩, au, nu, cu, a7, n7, c7, hS, rfl, hol, hx, hk, hR, hoo, hRL, hms, hvb4, hst⟩ := hrel
    simp only at hx hms hst hoo hol
    by_cases hlt : (k : Int) < y1
    · by_cases hq : q' = 0
      · subst hq
        obtain ⟨hx0, hx1⟩ := hx rfl
        obtain rfl := hoo rfl
        have hol := hol rfl
        rw [hol] at hst
        have hol9 := Lib.hid hol
        clear hol
        have ek : y1.toNat - k = (y1.toNat - (k + 1)) + 1 := by omega
        rw [ek, listF_go rfl] at hR
        have hvb4 : RSl S' (.slice a7 n7 c7) b' := hvb4
        have hu := getS_used b'
        have hlb := getB_len b'
        have cg := fun {M : List Chunk} (w : World) (hst : St S' M w) => refGetBytes_c w hst (.slice a7 n7 c7) b' hvb4 hms
        obtain ⟨⟨x, used, e⟩, hr⟩ : ∃ r, getB b' = r := ⟨_, rfl⟩
        have hr' : getS b' = (⟨x⟩, used, e) := by unfold getS; rw [hr]
        rw [hr] at hu cg hlb
        simp only at hu cg hlb
        by_cases h2 : e = 0
        · subst h2
          have hu' := hu rfl
          rw [nxt_yes (s := (b', 0)) rfl hr'] at hR
          have hR9 := Lib.hid hR
          clear hR hr hr' hu
          have hy : Rep.R S' [StrV x] (⟨x⟩ : Str) := ⟨rfl, by simp only [maxLen]; omega⟩
          repeat' ((fail_if_success (with_reducible show Code.wp _ (Code.region 12 _ _) _ _ _)); first | (((with_reducible refine Sl.k_guard ?_; ((refine Sl.guard_yes rfl ?_)))) <;> (try refine nX ?_)) | (((with_reducible refine Sl.k_call ?_; ((refine s_call (cg _ hst) inX rfl ?_; clear hst; rintro v w ⟨rfl, hst⟩)))) <;> (try refine nX ?_) <;> (try replace hst := nH hst)) | ((fail_if_success (go_big_may)); (go_step)) | ((first | (with_reducible refine Sl.k_load ?_; (refine s_qt hst (by exact qt_load rfl _ BoxIn.h inX rfl rfl) ?_)) | (with_reducible refine Sl.k_field ?_; (refine s_qt hst (qt_field rfl inX) ?_))) <;> (try refine nX ?_)) | (with_reducible refine Sl.gate rfl ?_; (go_step)))
          repeat' (first | ((fail_if_success (go_big_may)); (go_step)) | ((first | (with_reducible refine Sl.k_load ?_; (refine s_qt hst (by exact qt_load rfl _ BoxIn.h inX rfl rfl) ?_)) | (with_reducible refine Sl.k_field ?_; (refine s_qt hst (qt_field rfl inX) ?_))) <;> (try refine nX ?_)))
          refine s_lit (vs := [StrV x]) (cs := [StrV x]) hst inX inX rfl rfl (by simp [Value.cells]) rfl (by omega) (by omega) ?_
          clear hst; intro u3 w hst
          (try refine nX ?_)
          repeat' (fail)
          refine s_append (k := 1) (j := 0) hst evX evX rfl rfl inX inX inX (by simp [Value.oneCell']) (by omega) (by omega) (by decide) ?_
          clear hst; intro u4 w hst
          (try refine nX ?_)
          simp only [List.set_cons_zero, List.set_cons_succ] at hst
          have hst := hst.drop
          obtain ⟨u0, un', uc', rfl⟩ := sl_form hst
          repeat' (first | ((fail_if_success (go_big_may)); (go_step)) | ((first | (with_reducible refine Sl.k_load ?_; (refine s_qt hst (by exact qt_load rfl _ BoxIn.h inX rfl rfl) ?_)) | (with_reducible refine Sl.k_field ?_; (refine s_qt hst (qt_field rfl inX) ?_))) <;> (try refine nX ?_)) | (((((with_reducible refine Sl.k_store ?_; (refine s_store hst rfl _ BoxIn.h inX evX rfl lenOk oneOk (by simp) ?_); clear hst; intro w hst)))) <;> (try refine nX ?_) <;> (try replace hst := nH hst)))
          refine s_slice (a := used) (b := b'.length) evX hvb4 inX inX (.inr ⟨.i64, by simp [evF, nth]⟩) (.inl ⟨rfl, rfl⟩) (.inl rfl) (by omega) (by omega) ?_
          intro vz hvz
          rw [drop_all] at hvz
          obtain ⟨az, nz, cz, rfl⟩ := rsl_form hvz
          (try refine nX ?_)
          repeat' (first | ((fail_if_success (go_big_may)); (go_step)) | (with_reducible refine Sl.gate rfl ?_; (go_step)) | (((((with_reducible refine Sl.k_store ?_; (refine s_store hst rfl _ BoxIn.h inX evX rfl lenOk oneOk (by simp) ?_); clear hst; intro w hst)))) <;> (try refine nX ?_) <;> (try replace hst := nH hst)))
          go_roundw
          case rel => exact ⟨S', k + 1, out' ++ [⟨x⟩], out' ++ [⟨x⟩], _, (b'.drop used, 0), _, _, _, _, _, _, hS, by go_num, fun _ => by rw [List.length_append, hol9.out]; rfl, fun _ => ⟨hx0, hx1⟩, by omega, hR9.out, fun _ => rfl, RL.append hRL (RL.one_mk hy), by rw [List.length_drop]; omega, hvz, by rw [List.length_append, hol9.out]; exact hst⟩
          case measure => simp [intOf]; omega
        · have h3 : (e : Int) ≠ 0 := by omega
          rw [nxt_no (s := (b', 0)) rfl hr' h2] at hR
          have hR9 := Lib.hid hR
          clear hR hr hr' hu
          repeat' (first | (((with_reducible refine Sl.k_guard ?_; ((refine Sl.guard_yes rfl ?_)))) <;> (try refine nX ?_)) | (((with_reducible refine Sl.k_call ?_; ((refine s_call (cg _ hst) inX rfl ?_; clear hst; rintro v w ⟨rfl, hst⟩)))) <;> (try refine nX ?_) <;> (try replace hst := nH hst)) | ((fail_if_success (go_big_may)); (go_step)) | ((first | (with_reducible refine Sl.k_load ?_; (refine s_qt hst (by exact qt_load rfl _ BoxIn.h inX rfl rfl) ?_)) | (with_reducible refine Sl.k_field ?_; (refine s_qt hst (qt_field rfl inX) ?_))) <;> (try refine nX ?_)) | (with_reducible refine Sl.gate rfl ?_; (go_step)) | (((((with_reducible refine Sl.k_store ?_; (refine s_store hst rfl _ BoxIn.h inX evX rfl lenOk oneOk (by simp) ?_); clear hst; intro w hst)))) <;> (try refine nX ?_) <;> (try replace hst := nH hst)))
          go_roundw
          case rel => exact ⟨S', k + 1, out', out' ++ [⟨[]⟩], cells, (b', e), au, nu, cu, none, 0, 0, hS, by go_num, fun h => absurd h h2, fun h => absurd h h2, by omega, hR9.out, fun h => absurd h h2, hRL, hms, by show RSl _ _ (clip (b', e)).1; rw [clip_err h2]; exact rsl_nil, by rw [hol9.out]; exact hst⟩
          case measure => simp [intOf]; omega
      · have h3 : (q' : Int) ≠ 0 := by omega
        rw [listF_err (by exact hq)] at hR
        obtain ⟨rfl, rfl⟩ := Prod.mk.inj hR
        have ez : endE (b', q') = q' := by simp [endE, hq]
        have d2 := fun {S : Snap} {M : List Chunk} (w : World) (a : Option Addr) (n c : Nat) (hvb : RestP S (b', q') a n c) hm (hst : St S M w) => rend_c w hst a n c (b', q') hvb hm
        simp only [ez] at d2
        repeat' (first | (((with_reducible refine Sl.k_guard ?_; ((refine Sl.guard_yes rfl ?_)))) <;> (try refine nX ?_)) | (((with_reducible refine Sl.k_call ?_; ((refine s_call (d2 _ _ _ _ hvb4 hms hst) inX rfl ?_; clear hst; rintro v w ⟨rfl, hst⟩)))) <;> (try refine nX ?_) <;> (try replace hst := nH hst)) | ((fail_if_success (go_big_may)); (go_step)) | ((first | (with_reducible refine Sl.k_load ?_; (refine s_qt hst (by exact qt_load rfl _ BoxIn.h inX rfl rfl) ?_)) | (with_reducible refine Sl.k_field ?_; (refine s_qt hst (qt_field rfl inX) ?_))) <;> (try refine nX ?_)) | (with_reducible refine Sl.gate rfl ?_; (go_step)) | (((((with_reducible refine Sl.k_store ?_; (refine s_store hst rfl _ BoxIn.h inX evX rfl lenOk oneOk (by simp) ?_); clear hst; intro w hst)))) <;> (try refine nX ?_) <;> (try replace hst := nH hst)))
        refine ret_two rfl (rv_cell hst rfl _ BoxIn.h inX rfl rfl) (rv_tmp rfl) ?_; (try simp only [nth, List.drop_zero, List.drop_succ_cons, List.take_succ_cons, List.take_zero, vOf_true, vOf_false])
        rw [ez, if_pos hq]
        exact ⟨_, rfl, S', 0, 0, 0, none, 0, 0, none, 0, 0, none, 0, 0, ((hS1.trans hS2).trans hS3).trans hS, rfl, r_zBU, hst.drop.drop.drop.drop.drop.drop⟩
    · have ek : y1.toNat - k = 0 := by omega
      rw [ek, listF] at hR
      obtain ⟨rfl, rfl⟩ := Prod.mk.inj hR
      have d2 := fun {S : Snap} {M : List Chunk} (w : World) (a : Option Addr) (n c : Nat) (hvb : RestP S (b', q') a n c) hm (hst : St S M w) => rend_c w hst a n c (b', q') hvb hm
      have hqz : endE (b', q') = 0 → q' = 0 := fun h => by
        by_cases hq : q' = 0
        · exact hq
        · simp [endE, hq] at h
      obtain ⟨z, ez⟩ : ∃ z, endE (b', q') = z := ⟨_, rfl⟩
      simp only [ez] at d2
      rw [ez] at hqz
      by_cases hz : z = 0
      · subst hz
        obtain rfl := hqz rfl
        obtain rfl := hoo rfl
        obtain ⟨S4, hS4, hst, hv⟩ := St.freeze (α := Str) hst hRL rfl
        have hvb4 := hvb4.mono hS4
        repeat' (first | (((with_reducible refine Sl.k_guard ?_; ((refine Sl.guard_no rfl ?_)))) <;> (try refine nX ?_)) | (((with_reducible refine Sl.k_call ?_; ((refine s_call (d2 _ _ _ _ hvb4 hms hst) inX rfl ?_; clear hst; rintro v w ⟨rfl, hst⟩)))) <;> (try refine nX ?_) <;> (try replace hst := nH hst)) | ((fail_if_success (go_big_may)); (go_step)) | (((with_reducible refine Sl.k_load ?_; (refine s_qt hst (by exact qt_load rfl _ BoxIn.h inX rfl rfl) ?_))) <;> (try refine nX ?_)) | (with_reducible refine Sl.gate rfl ?_; (go_step)) | (((((with_reducible refine Sl.k_store ?_; (refine s_store hst rfl _ BoxIn.h inX evX rfl lenOk oneOk (by simp) ?_); clear hst; intro w hst)))) <;> (try refine nX ?_) <;> (try replace hst := nH hst)))
        refine ret_two rfl (rv_cell hst rfl _ BoxIn.h inX rfl rfl) (rv_tmp rfl) ?_; (try simp only [nth, List.drop_zero, List.drop_succ_cons, List.take_succ_cons, List.take_zero, vOf_true, vOf_false])
        rw [ez, if_neg (by simp)]
        exact ⟨_, rfl, S4, x1, x2, x3, _, _, _, _, _, _, _, _, _, (((hS1.trans hS2).trans hS3).trans hS).trans hS4, rfl, r_bu (r_mf j1 j2 j3 (hds.mono ((hS3.trans hS).trans hS4))) (hl.mono (hS.trans hS4)) hv, hst.drop.drop.drop.drop.drop⟩
      · have h9 : (z : Int) ≠ 0 := by omega
        repeat' (first | (((with_reducible refine Sl.k_guard ?_; ((refine Sl.guard_no rfl ?_)))) <;> (try refine nX ?_)) | (((with_reducible refine Sl.k_call ?_; ((refine s_call (d2 _ _ _ _ hvb4 hms hst) inX rfl ?_; clear hst; rintro v w ⟨rfl, hst⟩)))) <;> (try refine nX ?_) <;> (try replace hst := nH hst)) | ((fail_if_success (go_big_may)); (go_step)) | (((with_reducible refine Sl.k_load ?_; (refine s_qt hst (by exact qt_load rfl _ BoxIn.h inX rfl rfl) ?_))) <;> (try refine nX ?_)) | (with_reducible refine Sl.gate rfl ?_; (go_step)) | (((((with_reducible refine Sl.k_store ?_; (refine s_store hst rfl _ BoxIn.h inX evX rfl lenOk oneOk (by simp) ?_); clear hst; intro w hst)))) <;> (try refine nX ?_) <;> (try replace hst := nH hst)))
        refine ret_two rfl (rv_cell hst rfl _ BoxIn.h inX rfl rfl) (rv_tmp rfl) ?_; (try simp only [nth, List.drop_zero, List.drop_succ_cons, List.take_succ_cons, List.take_zero, vOf_true, vOf_false])
        rw [ez, if_pos hz]
        exact ⟨_, rfl, S', 0, 0, 0, none, 0, 0, none, 0, 0, none, 0, 0, ((hS1.trans hS2).trans hS3).trans hS, rfl, r_zBU, hst.drop.drop.drop.drop.drop.drop⟩
end Go.Proofs.YtlimhgamebnfeaaDoor

/- Package manifest: what is decoded is no longer than the text. -/
namespace Go.Proofs.YtlimhgamebnfeaaDoor
set_option linter.unusedSimpArgs false
set_option linter.unusedVariables false
open Go.RowKit Go.Sl

theorem mf_len (s : PS) : (mfP s).1.2.2.2.1.length ≤ s.1.length := by
  have h1 := nxt_shr 0 getI s
  have h2 := nxt_shr 0 getI (nxt 0 getI s).2
  have h3 := nxt_shr 0 getI (nxt 0 getI (nxt 0 getI s).2).2
  have h4 := (nxt_dg (nxt 0 getI (nxt 0 getI (nxt 0 getI s).2).2).2).1
  show (nxt [] getDg (nxt 0 getI (nxt 0 getI (nxt 0 getI s).2).2).2).1.length ≤ _
  omega
theorem listF_len {α : Type} {p : PS → α × PS} : ∀ (n : Nat) (s : PS) (out : List α), (listF p n s out).1.length ≤ out.length + n
  | 0, _, _ => Nat.le_refl _
  | n + 1, s, out => by
    rw [listF]
    split
    · simp
    · have := listF_len (p := p) n (p s).2 (out ++ [(p s).1])
      simp only [List.length_append, List.length_cons, List.length_nil] at this
      omega
theorem listP_len {α : Type} {p : PS → α × PS} (s : PS) : (listP p s).1.length ≤ s.1.length := by
  unfold listP
  have h1 := nxt_shr 0 getI s
  by_cases h : (manyE (nxt 0 getI s).1 (nxt 0 getI s).2).2 = 0
  · have h2 := manyE_ok h
    have h3 := listF_len (p := p) (nxt 0 getI s).1.toNat (manyE (nxt 0 getI s).1 (nxt 0 getI s).2) []
    simp only [List.length_nil] at h3
    omega
  · rw [listF_err h]; simp
theorem listF_all {α : Type} {p : PS → α × PS} (hs : Shr p) {P : α → Prop} {m : Nat} (hp : ∀ s : PS, s.1.length ≤ m → P (p s).1) : ∀ (n : Nat) (s : PS) (out : List α), s.1.length ≤ m → (∀ x ∈ out, P x) → ∀ x ∈ (listF p n s out).1, P x
  | 0, _, _, _, ho => ho
  | n + 1, s, out, hm, ho => by
    rw [listF]
    split
    · exact ho
    · exact listF_all hs hp n _ _ (Nat.le_trans (hs s) hm) (by
        intro x hx
        rcases List.mem_append.1 hx with h | h
        · exact ho x h
        · rw [List.mem_singleton.1 h]; exact hp s hm)
theorem listP_all {α : Type} {p : PS → α × PS} (hs : Shr p) {P : α → Prop} {m : Nat} (hp : ∀ s : PS, s.1.length ≤ m → P (p s).1) (s : PS) (hm : s.1.length ≤ m) : ∀ x ∈ (listP p s).1, P x :=
  listF_all hs hp _ _ _ (Nat.le_trans (manyE_shr _ _) (Nat.le_trans (nxt_shr _ _ s) hm)) (by simp)
theorem sd_lens (s : PS) (hm : s.1.length ≤ 1048576) : SdLen (sdP s).1 := by
  have h1 := nxt_shr 0 getI s
  have h2 := nxt_shr 0 getI (nxt 0 getI s).2
  have h3 := nxt_shr [] getDg (nxt 0 getI (nxt 0 getI s).2).2
  have h4 := (nxt_dg (nxt 0 getI (nxt 0 getI s).2).2).1
  have h5 := (nxt_dg (nxt [] getDg (nxt 0 getI (nxt 0 getI s).2).2).2).1
  refine ⟨?_, ?_⟩
  · show (nxt [] getDg (nxt 0 getI (nxt 0 getI s).2).2).1.length ≤ _
    omega
  · show (nxt [] getDg (nxt [] getDg (nxt 0 getI (nxt 0 getI s).2).2).2).1.length ≤ _
    omega
end Go.Proofs.YtlimhgamebnfeaaDoor

/- The statement ManifestDecodesAsSpecified, walked. -/
--@u32
--@hgp
--@flat
--@dg
--@ex0
namespace Go.Proofs.YtlimhgamebnfeaaDoor
set_option linter.unusedSimpArgs false
set_option linter.unusedVariables false
open Go.RowKit Go.Sl

theorem decP_cases {α : Type} (p : PS → α × PS) (z : α) (b : List UInt8) : (decP p z b).1 = z ∨ (decP p z b).1 = (p (b, 0)).1 := by
  rw [decP_end]; simp only; split
  · exact .inl rfl
  · exact .inr rfl
theorem dM_len (b : List UInt8) : (decP mfP zMF b).1.2.2.2.1.length ≤ b.length := by
  rcases decP_cases mfP zMF b with h | h <;> rw [h]
  · exact Nat.zero_le _
  · exact mf_len (b, 0)
structure SzB (u : BU) : Prop where
  a : u.1.2.2.2.1.length ≤ 1048576
  b : ∀ x ∈ u.2.1, SdLen x
  c : u.2.1.length ≤ 1048576
  d : u.2.2.1.length ≤ 1048576
theorem dB_sz {b : List UInt8} (hm : b.length ≤ 1048576) : SzB (decP buP zBU b).1 := by
  rcases decP_cases buP zBU b with h | h <;> rw [h]
  · exact ⟨by decide, (by intro x hx; cases hx), by decide, by decide⟩
  · have h1 := mf_len (b, 0)
    have l1 := mf_shr (b, 0)
    obtain ⟨⟨m, s1⟩, e1⟩ : ∃ r, mfP (b, 0) = r := ⟨_, rfl⟩
    have l2 := listP_shr sd_shr s1
    have h2 := listP_len (p := sdP) s1
    have ha := fun h => listP_all sd_shr sd_lens s1 h
    obtain ⟨⟨l, s2⟩, e2⟩ : ∃ r, listP sdP s1 = r := ⟨_, rfl⟩
    have h3 := listP_len (p := nxt ⟨[]⟩ getS) s2
    obtain ⟨⟨t, s3⟩, e3⟩ : ∃ r, listP (nxt ⟨[]⟩ getS) s2 = r := ⟨_, rfl⟩
    have e : buP (b, 0) = ((m, l, t, ()), s3) := by unfold buP pairP unitP; simp only [e1, e2, e3]
    rw [e]
    rw [e1] at h1 l1
    rw [e2] at h2 l2 ha
    rw [e3] at h3
    simp only at h1 h2 h3 l1 l2 ha
    exact ⟨Nat.le_trans h1 hm, ha (Nat.le_trans l1 hm), Nat.le_trans h2 (Nat.le_trans l1 hm), Nat.le_trans h3 (Nat.le_trans l2 (Nat.le_trans l1 hm))⟩
structure SzR (u : RO) : Prop where
  a : u.1.2.2.2.1.length ≤ 1048576
  b : ∀ x ∈ u.2.1, SdLen x
  c : u.2.1.length ≤ 1048576
theorem dR_sz {b : List UInt8} (hm : b.length ≤ 1048576) : SzR (decP roP zRO b).1 := by
  rcases decP_cases roP zRO b with h | h <;> rw [h]
  · exact ⟨by decide, (by intro x hx; cases hx), by decide⟩
  · have h1 := mf_len (b, 0)
    have l1 := mf_shr (b, 0)
    obtain ⟨⟨m, s1⟩, e1⟩ : ∃ r, mfP (b, 0) = r := ⟨_, rfl⟩
    have h2 := listP_len (p := sdP) s1
    have ha := fun h => listP_all sd_shr sd_lens s1 h
    obtain ⟨⟨l, s2⟩, e2⟩ : ∃ r, listP sdP s1 = r := ⟨_, rfl⟩
    have e : roP (b, 0) = ((m, l, ()), s2) := by unfold roP pairP unitP; simp only [e1, e2]
    rw [e]
    rw [e1] at h1 l1
    rw [e2] at h2 ha
    simp only at h1 h2 l1 ha
    exact ⟨Nat.le_trans h1 hm, ha (Nat.le_trans l1 hm), Nat.le_trans h2 (Nat.le_trans l1 hm)⟩
end Go.Proofs.YtlimhgamebnfeaaDoor
