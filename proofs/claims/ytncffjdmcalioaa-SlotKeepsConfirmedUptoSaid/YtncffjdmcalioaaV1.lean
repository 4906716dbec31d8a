/- Package wire: integers, encoded. -/
import Derived.Test.YtncffjdmcalioaaTy
import Derived.Test.YtncffjdmcalioaaSlX
import Derived.Deep.LoopGhost
import Derived.WalkMore
--@opt
namespace Go.Proofs.Ytncffjdmcalioaa
set_option linter.unusedSimpArgs false
set_option linter.unusedVariables false
open Go.RowKit Go.Sl

def zig (n : Int) : Nat := if 0 ≤ n then (2 * n).toNat else (-2 * n - 1).toNat
def encF : Nat → Nat → List UInt8
  | 0, _ => []
  | f + 1, u => if u < 128 then [UInt8.ofNat u] else UInt8.ofNat (128 + u % 128) :: encF f (u / 128)
/-- The encoding of an integer. -/
def encI (n : Int) : List UInt8 := encF 10 (zig n)

theorem zig_pos {n : Int} (h : 0 ≤ n) (hn : I64 n) : IntKind.u64.wrap (2 * IntKind.u64.wrap n) = (zig n : Nat) := by
  unfold I64 at hn
  simp only [zig, if_pos h, IntKind.wrap, IntKind.bits, IntKind.signed]
  simp
  omega

set_option maxRecDepth 8000 in
set_option maxHeartbeats 400000 in
theorem zigzag_c {S M} (w : World) (hst : St S M w) (n : Int) (hn : I64 n) :
    Rets Try.prog 62 [.int .i64 n] w fun v w' => v = .int .u64 (zig n : Nat) ∧ St S M w' := by
  unfold Rets
  by_cases h : 0 ≤ n
  · go_enter Try.func62, Try.ntmps62
    repeat' (first
       | go_skip
       | (with_reducible refine Sl.k_guard ?_; (first | (refine Sl.guard_yes rfl ?_) | (refine Sl.guard_no rfl ?_) | (refine Sl.guard_cases rfl ?_ ?_ <;> intro hg <;> first | (exfalso; simp only [decide_eq_true_eq, decide_eq_false_iff_not, Bool.not_false, Bool.not_true, beq_iff_eq, beq_eq_false_iff_ne, ne_eq] at hg; omega) | (simp only [hg, Bool.not_true, Bool.not_false]))) <;> (try simp only [List.set_cons_succ, List.set_cons_zero, vOf_true, vOf_false, List.drop_succ_cons, List.drop_zero, List.take_succ_cons, List.take_zero, putD, Int.toNat_zero, Int.reduceToNat, Nat.mul_one, Nat.zero_add, Nat.add_zero, Nat.reduceMul, Nat.reduceAdd, Nat.zero_mul, Int.reduceSub, Int.reduceAdd, Int.reduceMul, Int.reduceNeg, Bool.not_true, Bool.not_false]))
       | ((fail_if_success (go_big_may)); (first | go_skip | go_guarded | go_step))
       | ((first
            | (with_reducible refine Sl.k_load ?_; (first
              | refine s_qt hst (qt_load rfl _ BoxIn.h inX rfl rfl) ?_
              | (refine s_ex hst (qt_ldp_int evX asX inX) ?_; rintro v ⟨rfl, hI⟩)
              | refine s_qt hst (by first | exact qt_ldp_u8 evX asX inX | exact qt_ldp_bool evX asX inX) ?_
              | (refine s_ex hst (qt_ldp_str evX asX inX) ?_; rintro v ⟨rfl, hs⟩)
              | (refine s_ex hst (qt_ldp_list evX asX inX) ?_; rintro v ⟨hvl, hv1⟩)
              | (refine s_ex hst (qt_ldp evX asX inX) ?_; rintro v ⟨cl, rfl, hcl⟩)
              | refine s_qt hst (by first | exact qt_ldB evX asX SlIn.h inX omX | exact qt_ldI evX asX SlIn.h inX omX | exact qt_ld2 evX asX SlIn.h inX omX | exact qt_load_own evX asX SlIn.h inX rfl (by simp <;> omega) | exact qt_load rfl _ asX inX rfl rfl) ?_))
            | (with_reducible refine Sl.k_field ?_; (first
              | refine s_qt hst (qt_field rfl inX) ?_
              | (refine s_ex hst (qt_fieldp evX asX inX inX rfl) ?_; rintro v hp; (try simp only [Int.toNat_natCast, Int.toNat_natCast_add_one, Int.reduceToNat] at hp))
              | (refine s_ex hst (qt_field_own evX asX inX) ?_; rintro v hp; (try simp only [Int.toNat_natCast, Int.toNat_natCast_add_one, Int.reduceToNat] at hp))))
            | (with_reducible refine Sl.k_index ?_; (first
              | refine s_qt hst (qt_indexA rfl rfl inX inX omX omX) ?_
              | (refine s_ex hst (qt_indexP0 evX asX rfl inX inX) ?_; rintro v hp; (try simp only [Int.toNat_natCast, Int.toNat_natCast_add_one, Int.reduceToNat] at hp))
              | (refine s_ex hst (qt_indexP1 evX asX rfl inX inX) ?_; rintro v hp; (try simp only [Int.toNat_natCast, Int.toNat_natCast_add_one, Int.reduceToNat] at hp))
              | (refine s_ex hst (qt_index evX asX rfl inX inX omX omX) ?_; rintro v hp; (try simp only [Int.toNat_natCast, Int.toNat_natCast_add_one, Int.reduceToNat] at hp))
              | (refine s_ex hst (qt_indexAp evX asX rfl inX inX rfl omX omX) ?_; rintro v hp; (try simp only [Int.toNat_natCast, Int.toNat_natCast_add_one, Int.reduceToNat] at hp))
              | (refine s_ex hst (qt_index_own hst evX SlIn.h rfl inX inX omX omX) ?_; rintro v hp; (try simp only [Int.toNat_natCast, Int.toNat_natCast_add_one, Int.reduceToNat] at hp))))
            | (with_reducible refine Sl.k_call ?_; (first
              | refine s_qt hst (by first | exact qt_len evX asX inX | exact qt_len_str evX inX | exact qt_len_own evX SlIn.h inX | exact qt_max rfl rfl | exact qt_min rfl rfl) ?_))); simp only [List.set_cons_succ, List.set_cons_zero, vOf_true, vOf_false, List.drop_succ_cons, List.drop_zero, List.take_succ_cons, List.take_zero, putD, Int.toNat_zero, Int.reduceToNat, Nat.mul_one, Nat.zero_add, Nat.add_zero, Nat.reduceMul, Nat.reduceAdd, Nat.zero_mul, Int.reduceSub, Int.reduceAdd, Int.reduceMul, Int.reduceNeg, Bool.not_true, Bool.not_false])
       | (with_reducible refine Sl.gate rfl ?_; (first | go_skip | go_guarded | go_step))
       | ((first | (with_reducible refine Sl.k_store ?_; (first
              | refine s_stR hst rfl BoxIn.h evX asX inX rfl rfl ?_
              | refine s_store hst rfl _ BoxIn.h inX evX rfl lenOk oneOk (by simp) ?_
              | refine s_st1 hst rfl BoxIn.h evX asX inX (by simp) ?_
              | refine s_stB hst evX asX SlIn.h inX evX omX ?_
              | refine s_stI hst evX asX SlIn.h inX evX omX ?_
              | refine s_st2 hst evX asX SlIn.h inX evX omX ?_); clear hst; intro w hst) | (refine s_box hst evX rfl ?_; clear hst; intro bx w hst) | (refine s_alloc hst inX ?_; clear hst; intro bk w hst)); (try simp only [List.set_cons_succ, List.set_cons_zero, vOf_true, vOf_false, List.drop_succ_cons, List.drop_zero, List.take_succ_cons, List.take_zero, putD, Int.toNat_zero, Int.reduceToNat, Nat.mul_one, Nat.zero_add, Nat.add_zero, Nat.reduceMul, Nat.reduceAdd, Nat.zero_mul, Int.reduceSub, Int.reduceAdd, Int.reduceMul, Int.reduceNeg, Bool.not_true, Bool.not_false]); (try simp only [List.set_cons_succ, List.set_cons_zero, List.drop_succ_cons, List.drop_zero, List.take_succ_cons, List.take_zero, List.nil_append, List.cons_append, List.append_nil, Value.cells, List.eraseIdx_cons_zero, List.eraseIdx_cons_succ, Nat.zero_add, Nat.add_zero, List.flatten_cons, List.flatten_nil, List.map_cons, List.map_nil] at hst)))
    go_ret
    exact ⟨_, rfl, congrArg _ (zig_pos h hn), hst⟩
  · go_enter Try.func62, Try.ntmps62
    repeat' (first
       | go_skip
       | (with_reducible refine Sl.k_guard ?_; (first | (refine Sl.guard_yes rfl ?_) | (refine Sl.guard_no rfl ?_) | (refine Sl.guard_cases rfl ?_ ?_ <;> intro hg <;> first | (exfalso; simp only [decide_eq_true_eq, decide_eq_false_iff_not, Bool.not_false, Bool.not_true, beq_iff_eq, beq_eq_false_iff_ne, ne_eq] at hg; omega) | (simp only [hg, Bool.not_true, Bool.not_false]))) <;> (try simp only [List.set_cons_succ, List.set_cons_zero, vOf_true, vOf_false, List.drop_succ_cons, List.drop_zero, List.take_succ_cons, List.take_zero, putD, Int.toNat_zero, Int.reduceToNat, Nat.mul_one, Nat.zero_add, Nat.add_zero, Nat.reduceMul, Nat.reduceAdd, Nat.zero_mul, Int.reduceSub, Int.reduceAdd, Int.reduceMul, Int.reduceNeg, Bool.not_true, Bool.not_false]))
       | ((fail_if_success (go_big_may)); (first | go_skip | go_guarded | go_step))
       | ((first
            | (with_reducible refine Sl.k_load ?_; (first
              | refine s_qt hst (qt_load rfl _ BoxIn.h inX rfl rfl) ?_
              | (refine s_ex hst (qt_ldp_int evX asX inX) ?_; rintro v ⟨rfl, hI⟩)
              | refine s_qt hst (by first | exact qt_ldp_u8 evX asX inX | exact qt_ldp_bool evX asX inX) ?_
              | (refine s_ex hst (qt_ldp_str evX asX inX) ?_; rintro v ⟨rfl, hs⟩)
              | (refine s_ex hst (qt_ldp_list evX asX inX) ?_; rintro v ⟨hvl, hv1⟩)
              | (refine s_ex hst (qt_ldp evX asX inX) ?_; rintro v ⟨cl, rfl, hcl⟩)
              | refine s_qt hst (by first | exact qt_ldB evX asX SlIn.h inX omX | exact qt_ldI evX asX SlIn.h inX omX | exact qt_ld2 evX asX SlIn.h inX omX | exact qt_load_own evX asX SlIn.h inX rfl (by simp <;> omega) | exact qt_load rfl _ asX inX rfl rfl) ?_))
            | (with_reducible refine Sl.k_field ?_; (first
              | refine s_qt hst (qt_field rfl inX) ?_
              | (refine s_ex hst (qt_fieldp evX asX inX inX rfl) ?_; rintro v hp; (try simp only [Int.toNat_natCast, Int.toNat_natCast_add_one, Int.reduceToNat] at hp))
              | (refine s_ex hst (qt_field_own evX asX inX) ?_; rintro v hp; (try simp only [Int.toNat_natCast, Int.toNat_natCast_add_one, Int.reduceToNat] at hp))))
            | (with_reducible refine Sl.k_index ?_; (first
              | refine s_qt hst (qt_indexA rfl rfl inX inX omX omX) ?_
              | (refine s_ex hst (qt_indexP0 evX asX rfl inX inX) ?_; rintro v hp; (try simp only [Int.toNat_natCast, Int.toNat_natCast_add_one, Int.reduceToNat] at hp))
              | (refine s_ex hst (qt_indexP1 evX asX rfl inX inX) ?_; rintro v hp; (try simp only [Int.toNat_natCast, Int.toNat_natCast_add_one, Int.reduceToNat] at hp))
              | (refine s_ex hst (qt_index evX asX rfl inX inX omX omX) ?_; rintro v hp; (try simp only [Int.toNat_natCast, Int.toNat_natCast_add_one, Int.reduceToNat] at hp))
              | (refine s_ex hst (qt_indexAp evX asX rfl inX inX rfl omX omX) ?_; rintro v hp; (try simp only [Int.toNat_natCast, Int.toNat_natCast_add_one, Int.reduceToNat] at hp))
              | (refine s_ex hst (qt_index_own hst evX SlIn.h rfl inX inX omX omX) ?_; rintro v hp; (try simp only [Int.toNat_natCast, Int.toNat_natCast_add_one, Int.reduceToNat] at hp))))
            | (with_reducible refine Sl.k_call ?_; (first
              | refine s_qt hst (by first | exact qt_len evX asX inX | exact qt_len_str evX inX | exact qt_len_own evX SlIn.h inX | exact qt_max rfl rfl | exact qt_min rfl rfl) ?_))); simp only [List.set_cons_succ, List.set_cons_zero, vOf_true, vOf_false, List.drop_succ_cons, List.drop_zero, List.take_succ_cons, List.take_zero, putD, Int.toNat_zero, Int.reduceToNat, Nat.mul_one, Nat.zero_add, Nat.add_zero, Nat.reduceMul, Nat.reduceAdd, Nat.zero_mul, Int.reduceSub, Int.reduceAdd, Int.reduceMul, Int.reduceNeg, Bool.not_true, Bool.not_false])
       | (with_reducible refine Sl.gate rfl ?_; (first | go_skip | go_guarded | go_step))
       | ((first | (with_reducible refine Sl.k_store ?_; (first
              | refine s_stR hst rfl BoxIn.h evX asX inX rfl rfl ?_
              | refine s_store hst rfl _ BoxIn.h inX evX rfl lenOk oneOk (by simp) ?_
              | refine s_st1 hst rfl BoxIn.h evX asX inX (by simp) ?_
              | refine s_stB hst evX asX SlIn.h inX evX omX ?_
              | refine s_stI hst evX asX SlIn.h inX evX omX ?_
              | refine s_st2 hst evX asX SlIn.h inX evX omX ?_); clear hst; intro w hst) | (refine s_box hst evX rfl ?_; clear hst; intro bx w hst) | (refine s_alloc hst inX ?_; clear hst; intro bk w hst)); (try simp only [List.set_cons_succ, List.set_cons_zero, vOf_true, vOf_false, List.drop_succ_cons, List.drop_zero, List.take_succ_cons, List.take_zero, putD, Int.toNat_zero, Int.reduceToNat, Nat.mul_one, Nat.zero_add, Nat.add_zero, Nat.reduceMul, Nat.reduceAdd, Nat.zero_mul, Int.reduceSub, Int.reduceAdd, Int.reduceMul, Int.reduceNeg, Bool.not_true, Bool.not_false]); (try simp only [List.set_cons_succ, List.set_cons_zero, List.drop_succ_cons, List.drop_zero, List.take_succ_cons, List.take_zero, List.nil_append, List.cons_append, List.append_nil, Value.cells, List.eraseIdx_cons_zero, List.eraseIdx_cons_succ, Nat.zero_add, Nat.add_zero, List.flatten_cons, List.flatten_nil, List.map_cons, List.map_nil] at hst)))
    go_ret
    refine ⟨_, rfl, ?_, hst⟩
    congr 1
    have hw : wrap64 (-wrap64 (n + 1)) = -(n + 1) := by unfold I64 at hn; unfold wrap64; omega
    rw [hw]
    unfold I64 at hn
    simp only [zig, if_neg h, IntKind.wrap, IntKind.bits, IntKind.signed]
    simp
    omega

theorem bits_not64 {x : Int} (h0 : 0 ≤ x) (h1 : x < 18446744073709551616) : bits .xor .u64 (if IntKind.u64.signed = true then -1 else IntKind.u64.max) x = 18446744073709551615 - x := by
  have e : BitVec.ofInt 64 18446744073709551615 = BitVec.allOnes 64 := by decide
  show IntKind.u64.wrap ((BitVec.ofInt 64 18446744073709551615 ^^^ BitVec.ofInt 64 x).toNat : Int) = _
  rw [e, BitVec.allOnes_xor, BitVec.toNat_not, BitVec.toNat_ofInt]
  simp only [IntKind.wrap, IntKind.bits, IntKind.signed]
  simp
  omega

theorem zig_pos' {n : Int} (h : 0 ≤ n) (hn : I64 n) : IntKind.u64.wrap (IntKind.u64.wrap n * 2) = (zig n : Nat) := by
  rw [Int.mul_comm]; exact zig_pos h hn

theorem zig_neg {n : Int} (h : n < 0) (hn : I64 n) : bits .xor .u64 (if IntKind.u64.signed = true then -1 else IntKind.u64.max) (IntKind.u64.wrap (IntKind.u64.wrap n * 2)) = (zig n : Nat) := by
  have hx : IntKind.u64.wrap (IntKind.u64.wrap n * 2) = 2 * n + 18446744073709551616 := by
    unfold I64 at hn
    simp only [IntKind.wrap, IntKind.bits, IntKind.signed]
    simp
    omega
  unfold I64 at hn
  rw [hx, bits_not64 (by omega) (by omega), zig, if_neg (by omega)]
  omega

theorem zig_lt {n : Int} (hn : I64 n) : zig n < 18446744073709551616 := by
  unfold I64 at hn
  unfold zig
  split <;> omega

theorem pow10 : 18446744073709551616 < 128 ^ 10 := by simp

theorem or128 : ∀ x < 256, bits .or .u8 ((x : Nat) : Int) 128 = ((128 + x % 128 : Nat) : Int) := by decide +kernel

theorem u8_small {x : Nat} (h : x < 128) : ((UInt8.ofNat x).toNat : Int) = x := by
  rw [UInt8.toNat_ofNat']; omega
theorem or_byte (x : Nat) : bits .or .u8 ((x : Int) % 256) 128 = ((UInt8.ofNat (128 + x % 128)).toNat : Int) := by
  have h := or128 (x % 256) (Nat.mod_lt _ (by decide))
  rw [UInt8.toNat_ofNat']
  rw [show ((x : Int) % 256) = ((x % 256 : Nat) : Int) from by omega, h]
  omega

theorem encF_one {f u : Nat} (h : u < 128) : encF (f + 1) u = [UInt8.ofNat u] := by rw [encF, if_pos h]
theorem encF_more {f u : Nat} (h : ¬ u < 128) : encF (f + 1) u = UInt8.ofNat (128 + u % 128) :: encF f (u / 128) := by rw [encF, if_neg h]

set_option maxRecDepth 8000 in
set_option maxHeartbeats 400000 in
theorem int_c {S M} (w : World) (hst : St S M w) (n : Int) (hn : I64 n) :
    Rets Try.prog 56 [.int .i64 n] w fun v w' => St S (.sl v 5 1 (encI n).length (u8s (encI n)) :: M) w' := by
  unfold Rets

  by_cases h : 0 ≤ n
  · have hz' := Lib.hid (zig_pos' h hn)
    go_enter Try.func56, Try.ntmps56
    repeat' (first
       | go_skip
       | (with_reducible refine Sl.k_guard ?_; (first | (refine Sl.guard_yes rfl ?_) | (refine Sl.guard_no rfl ?_) | (refine Sl.guard_cases rfl ?_ ?_ <;> intro hg <;> first | (exfalso; simp only [decide_eq_true_eq, decide_eq_false_iff_not, Bool.not_false, Bool.not_true, beq_iff_eq, beq_eq_false_iff_ne, ne_eq] at hg; omega) | (simp only [hg, Bool.not_true, Bool.not_false]))) <;> (try simp only [List.set_cons_succ, List.set_cons_zero, vOf_true, vOf_false, List.drop_succ_cons, List.drop_zero, List.take_succ_cons, List.take_zero, putD, Int.toNat_zero, Int.reduceToNat, Nat.mul_one, Nat.zero_add, Nat.add_zero, Nat.reduceMul, Nat.reduceAdd, Nat.zero_mul, Int.reduceSub, Int.reduceAdd, Int.reduceMul, Int.reduceNeg, Bool.not_true, Bool.not_false]))
       | ((fail_if_success (go_big_may)); (first | go_skip | go_guarded | go_step))
       | ((first
            | (with_reducible refine Sl.k_load ?_; (first
              | refine s_qt hst (qt_load rfl _ BoxIn.h inX rfl rfl) ?_
              | (refine s_ex hst (qt_ldp_int evX asX inX) ?_; rintro v ⟨rfl, hI⟩)
              | refine s_qt hst (by first | exact qt_ldp_u8 evX asX inX | exact qt_ldp_bool evX asX inX) ?_
              | (refine s_ex hst (qt_ldp_str evX asX inX) ?_; rintro v ⟨rfl, hs⟩)
              | (refine s_ex hst (qt_ldp_list evX asX inX) ?_; rintro v ⟨hvl, hv1⟩)
              | (refine s_ex hst (qt_ldp evX asX inX) ?_; rintro v ⟨cl, rfl, hcl⟩)
              | refine s_qt hst (by first | exact qt_ldB evX asX SlIn.h inX omX | exact qt_ldI evX asX SlIn.h inX omX | exact qt_ld2 evX asX SlIn.h inX omX | exact qt_load_own evX asX SlIn.h inX rfl (by simp <;> omega) | exact qt_load rfl _ asX inX rfl rfl) ?_))
            | (with_reducible refine Sl.k_field ?_; (first
              | refine s_qt hst (qt_field rfl inX) ?_
              | (refine s_ex hst (qt_fieldp evX asX inX inX rfl) ?_; rintro v hp; (try simp only [Int.toNat_natCast, Int.toNat_natCast_add_one, Int.reduceToNat] at hp))
              | (refine s_ex hst (qt_field_own evX asX inX) ?_; rintro v hp; (try simp only [Int.toNat_natCast, Int.toNat_natCast_add_one, Int.reduceToNat] at hp))))
            | (with_reducible refine Sl.k_index ?_; (first
              | refine s_qt hst (qt_indexA rfl rfl inX inX omX omX) ?_
              | (refine s_ex hst (qt_indexP0 evX asX rfl inX inX) ?_; rintro v hp; (try simp only [Int.toNat_natCast, Int.toNat_natCast_add_one, Int.reduceToNat] at hp))
              | (refine s_ex hst (qt_indexP1 evX asX rfl inX inX) ?_; rintro v hp; (try simp only [Int.toNat_natCast, Int.toNat_natCast_add_one, Int.reduceToNat] at hp))
              | (refine s_ex hst (qt_index evX asX rfl inX inX omX omX) ?_; rintro v hp; (try simp only [Int.toNat_natCast, Int.toNat_natCast_add_one, Int.reduceToNat] at hp))
              | (refine s_ex hst (qt_indexAp evX asX rfl inX inX rfl omX omX) ?_; rintro v hp; (try simp only [Int.toNat_natCast, Int.toNat_natCast_add_one, Int.reduceToNat] at hp))
              | (refine s_ex hst (qt_index_own hst evX SlIn.h rfl inX inX omX omX) ?_; rintro v hp; (try simp only [Int.toNat_natCast, Int.toNat_natCast_add_one, Int.reduceToNat] at hp))))
            | (with_reducible refine Sl.k_call ?_; (first
              | refine s_qt hst (by first | exact qt_len evX asX inX | exact qt_len_str evX inX | exact qt_len_own evX SlIn.h inX | exact qt_max rfl rfl | exact qt_min rfl rfl) ?_))); simp only [List.set_cons_succ, List.set_cons_zero, vOf_true, vOf_false, List.drop_succ_cons, List.drop_zero, List.take_succ_cons, List.take_zero, putD, Int.toNat_zero, Int.reduceToNat, Nat.mul_one, Nat.zero_add, Nat.add_zero, Nat.reduceMul, Nat.reduceAdd, Nat.zero_mul, Int.reduceSub, Int.reduceAdd, Int.reduceMul, Int.reduceNeg, Bool.not_true, Bool.not_false])
       | (with_reducible refine Sl.gate rfl ?_; (first | go_skip | go_guarded | go_step))
       | ((first | (with_reducible refine Sl.k_store ?_; (first
              | refine s_stR hst rfl BoxIn.h evX asX inX rfl rfl ?_
              | refine s_store hst rfl _ BoxIn.h inX evX rfl lenOk oneOk (by simp) ?_
              | refine s_st1 hst rfl BoxIn.h evX asX inX (by simp) ?_
              | refine s_stB hst evX asX SlIn.h inX evX omX ?_
              | refine s_stI hst evX asX SlIn.h inX evX omX ?_
              | refine s_st2 hst evX asX SlIn.h inX evX omX ?_); clear hst; intro w hst) | (refine s_box hst evX rfl ?_; clear hst; intro bx w hst) | (refine s_alloc hst inX ?_; clear hst; intro bk w hst)); (try simp only [List.set_cons_succ, List.set_cons_zero, vOf_true, vOf_false, List.drop_succ_cons, List.drop_zero, List.take_succ_cons, List.take_zero, putD, Int.toNat_zero, Int.reduceToNat, Nat.mul_one, Nat.zero_add, Nat.add_zero, Nat.reduceMul, Nat.reduceAdd, Nat.zero_mul, Int.reduceSub, Int.reduceAdd, Int.reduceMul, Int.reduceNeg, Bool.not_true, Bool.not_false]); (try simp only [List.set_cons_succ, List.set_cons_zero, List.drop_succ_cons, List.drop_zero, List.take_succ_cons, List.take_zero, List.nil_append, List.cons_append, List.append_nil, Value.cells, List.eraseIdx_cons_zero, List.eraseIdx_cons_succ, Nat.zero_add, Nat.add_zero, List.flatten_cons, List.flatten_nil, List.map_cons, List.map_nil] at hst)))
    go_step3
    repeat' (first
       | go_skip
       | (with_reducible refine Sl.k_guard ?_; (first | (refine Sl.guard_yes rfl ?_) | (refine Sl.guard_no rfl ?_) | (refine Sl.guard_cases rfl ?_ ?_ <;> intro hg <;> first | (exfalso; simp only [decide_eq_true_eq, decide_eq_false_iff_not, Bool.not_false, Bool.not_true, beq_iff_eq, beq_eq_false_iff_ne, ne_eq] at hg; omega) | (simp only [hg, Bool.not_true, Bool.not_false]))) <;> (try simp only [List.set_cons_succ, List.set_cons_zero, vOf_true, vOf_false, List.drop_succ_cons, List.drop_zero, List.take_succ_cons, List.take_zero, putD, Int.toNat_zero, Int.reduceToNat, Nat.mul_one, Nat.zero_add, Nat.add_zero, Nat.reduceMul, Nat.reduceAdd, Nat.zero_mul, Int.reduceSub, Int.reduceAdd, Int.reduceMul, Int.reduceNeg, Bool.not_true, Bool.not_false]))
       | ((fail_if_success (go_big_may)); (first | go_skip | go_guarded | go_step))
       | ((first
            | (with_reducible refine Sl.k_load ?_; (first
              | refine s_qt hst (qt_load rfl _ BoxIn.h inX rfl rfl) ?_
              | (refine s_ex hst (qt_ldp_int evX asX inX) ?_; rintro v ⟨rfl, hI⟩)
              | refine s_qt hst (by first | exact qt_ldp_u8 evX asX inX | exact qt_ldp_bool evX asX inX) ?_
              | (refine s_ex hst (qt_ldp_str evX asX inX) ?_; rintro v ⟨rfl, hs⟩)
              | (refine s_ex hst (qt_ldp_list evX asX inX) ?_; rintro v ⟨hvl, hv1⟩)
              | (refine s_ex hst (qt_ldp evX asX inX) ?_; rintro v ⟨cl, rfl, hcl⟩)
              | refine s_qt hst (by first | exact qt_ldB evX asX SlIn.h inX omX | exact qt_ldI evX asX SlIn.h inX omX | exact qt_ld2 evX asX SlIn.h inX omX | exact qt_load_own evX asX SlIn.h inX rfl (by simp <;> omega) | exact qt_load rfl _ asX inX rfl rfl) ?_))
            | (with_reducible refine Sl.k_field ?_; (first
              | refine s_qt hst (qt_field rfl inX) ?_
              | (refine s_ex hst (qt_fieldp evX asX inX inX rfl) ?_; rintro v hp; (try simp only [Int.toNat_natCast, Int.toNat_natCast_add_one, Int.reduceToNat] at hp))
              | (refine s_ex hst (qt_field_own evX asX inX) ?_; rintro v hp; (try simp only [Int.toNat_natCast, Int.toNat_natCast_add_one, Int.reduceToNat] at hp))))
            | (with_reducible refine Sl.k_index ?_; (first
              | refine s_qt hst (qt_indexA rfl rfl inX inX omX omX) ?_
              | (refine s_ex hst (qt_indexP0 evX asX rfl inX inX) ?_; rintro v hp; (try simp only [Int.toNat_natCast, Int.toNat_natCast_add_one, Int.reduceToNat] at hp))
              | (refine s_ex hst (qt_indexP1 evX asX rfl inX inX) ?_; rintro v hp; (try simp only [Int.toNat_natCast, Int.toNat_natCast_add_one, Int.reduceToNat] at hp))
              | (refine s_ex hst (qt_index evX asX rfl inX inX omX omX) ?_; rintro v hp; (try simp only [Int.toNat_natCast, Int.toNat_natCast_add_one, Int.reduceToNat] at hp))
              | (refine s_ex hst (qt_indexAp evX asX rfl inX inX rfl omX omX) ?_; rintro v hp; (try simp only [Int.toNat_natCast, Int.toNat_natCast_add_one, Int.reduceToNat] at hp))
              | (refine s_ex hst (qt_index_own hst evX SlIn.h rfl inX inX omX omX) ?_; rintro v hp; (try simp only [Int.toNat_natCast, Int.toNat_natCast_add_one, Int.reduceToNat] at hp))))
            | (with_reducible refine Sl.k_call ?_; (first
              | refine s_qt hst (by first | exact qt_len evX asX inX | exact qt_len_str evX inX | exact qt_len_own evX SlIn.h inX | exact qt_max rfl rfl | exact qt_min rfl rfl) ?_))); simp only [List.set_cons_succ, List.set_cons_zero, vOf_true, vOf_false, List.drop_succ_cons, List.drop_zero, List.take_succ_cons, List.take_zero, putD, Int.toNat_zero, Int.reduceToNat, Nat.mul_one, Nat.zero_add, Nat.add_zero, Nat.reduceMul, Nat.reduceAdd, Nat.zero_mul, Int.reduceSub, Int.reduceAdd, Int.reduceMul, Int.reduceNeg, Bool.not_true, Bool.not_false])
       | (with_reducible refine Sl.gate rfl ?_; (first | go_skip | go_guarded | go_step))
       | ((first | (with_reducible refine Sl.k_store ?_; (first
              | refine s_stR hst rfl BoxIn.h evX asX inX rfl rfl ?_
              | refine s_store hst rfl _ BoxIn.h inX evX rfl lenOk oneOk (by simp) ?_
              | refine s_st1 hst rfl BoxIn.h evX asX inX (by simp) ?_
              | refine s_stB hst evX asX SlIn.h inX evX omX ?_
              | refine s_stI hst evX asX SlIn.h inX evX omX ?_
              | refine s_st2 hst evX asX SlIn.h inX evX omX ?_); clear hst; intro w hst) | (refine s_box hst evX rfl ?_; clear hst; intro bx w hst) | (refine s_alloc hst inX ?_; clear hst; intro bk w hst)); (try simp only [List.set_cons_succ, List.set_cons_zero, vOf_true, vOf_false, List.drop_succ_cons, List.drop_zero, List.take_succ_cons, List.take_zero, putD, Int.toNat_zero, Int.reduceToNat, Nat.mul_one, Nat.zero_add, Nat.add_zero, Nat.reduceMul, Nat.reduceAdd, Nat.zero_mul, Int.reduceSub, Int.reduceAdd, Int.reduceMul, Int.reduceNeg, Bool.not_true, Bool.not_false]); (try simp only [List.set_cons_succ, List.set_cons_zero, List.drop_succ_cons, List.drop_zero, List.take_succ_cons, List.take_zero, List.nil_append, List.cons_append, List.append_nil, Value.cells, List.eraseIdx_cons_zero, List.eraseIdx_cons_succ, Nat.zero_add, Nat.add_zero, List.flatten_cons, List.flatten_nil, List.map_cons, List.map_nil] at hst)))
    go_step3
    repeat' (first
       | go_skip
       | (with_reducible refine Sl.k_guard ?_; (first | (refine Sl.guard_yes rfl ?_) | (refine Sl.guard_no rfl ?_) | (refine Sl.guard_cases rfl ?_ ?_ <;> intro hg <;> first | (exfalso; simp only [decide_eq_true_eq, decide_eq_false_iff_not, Bool.not_false, Bool.not_true, beq_iff_eq, beq_eq_false_iff_ne, ne_eq] at hg; omega) | (simp only [hg, Bool.not_true, Bool.not_false]))) <;> (try simp only [List.set_cons_succ, List.set_cons_zero, vOf_true, vOf_false, List.drop_succ_cons, List.drop_zero, List.take_succ_cons, List.take_zero, putD, Int.toNat_zero, Int.reduceToNat, Nat.mul_one, Nat.zero_add, Nat.add_zero, Nat.reduceMul, Nat.reduceAdd, Nat.zero_mul, Int.reduceSub, Int.reduceAdd, Int.reduceMul, Int.reduceNeg, Bool.not_true, Bool.not_false]))
       | ((fail_if_success (go_big_may)); (first | go_skip | go_guarded | go_step))
       | ((first
            | (with_reducible refine Sl.k_load ?_; (first
              | refine s_qt hst (qt_load rfl _ BoxIn.h inX rfl rfl) ?_
              | (refine s_ex hst (qt_ldp_int evX asX inX) ?_; rintro v ⟨rfl, hI⟩)
              | refine s_qt hst (by first | exact qt_ldp_u8 evX asX inX | exact qt_ldp_bool evX asX inX) ?_
              | (refine s_ex hst (qt_ldp_str evX asX inX) ?_; rintro v ⟨rfl, hs⟩)
              | (refine s_ex hst (qt_ldp_list evX asX inX) ?_; rintro v ⟨hvl, hv1⟩)
              | (refine s_ex hst (qt_ldp evX asX inX) ?_; rintro v ⟨cl, rfl, hcl⟩)
              | refine s_qt hst (by first | exact qt_ldB evX asX SlIn.h inX omX | exact qt_ldI evX asX SlIn.h inX omX | exact qt_ld2 evX asX SlIn.h inX omX | exact qt_load_own evX asX SlIn.h inX rfl (by simp <;> omega) | exact qt_load rfl _ asX inX rfl rfl) ?_))
            | (with_reducible refine Sl.k_field ?_; (first
              | refine s_qt hst (qt_field rfl inX) ?_
              | (refine s_ex hst (qt_fieldp evX asX inX inX rfl) ?_; rintro v hp; (try simp only [Int.toNat_natCast, Int.toNat_natCast_add_one, Int.reduceToNat] at hp))
              | (refine s_ex hst (qt_field_own evX asX inX) ?_; rintro v hp; (try simp only [Int.toNat_natCast, Int.toNat_natCast_add_one, Int.reduceToNat] at hp))))
            | (with_reducible refine Sl.k_index ?_; (first
              | refine s_qt hst (qt_indexA rfl rfl inX inX omX omX) ?_
              | (refine s_ex hst (qt_indexP0 evX asX rfl inX inX) ?_; rintro v hp; (try simp only [Int.toNat_natCast, Int.toNat_natCast_add_one, Int.reduceToNat] at hp))
              | (refine s_ex hst (qt_indexP1 evX asX rfl inX inX) ?_; rintro v hp; (try simp only [Int.toNat_natCast, Int.toNat_natCast_add_one, Int.reduceToNat] at hp))
              | (refine s_ex hst (qt_index evX asX rfl inX inX omX omX) ?_; rintro v hp; (try simp only [Int.toNat_natCast, Int.toNat_natCast_add_one, Int.reduceToNat] at hp))
              | (refine s_ex hst (qt_indexAp evX asX rfl inX inX rfl omX omX) ?_; rintro v hp; (try simp only [Int.toNat_natCast, Int.toNat_natCast_add_one, Int.reduceToNat] at hp))
              | (refine s_ex hst (qt_index_own hst evX SlIn.h rfl inX inX omX omX) ?_; rintro v hp; (try simp only [Int.toNat_natCast, Int.toNat_natCast_add_one, Int.reduceToNat] at hp))))
            | (with_reducible refine Sl.k_call ?_; (first
              | refine s_qt hst (by first | exact qt_len evX asX inX | exact qt_len_str evX inX | exact qt_len_own evX SlIn.h inX | exact qt_max rfl rfl | exact qt_min rfl rfl) ?_))); simp only [List.set_cons_succ, List.set_cons_zero, vOf_true, vOf_false, List.drop_succ_cons, List.drop_zero, List.take_succ_cons, List.take_zero, putD, Int.toNat_zero, Int.reduceToNat, Nat.mul_one, Nat.zero_add, Nat.add_zero, Nat.reduceMul, Nat.reduceAdd, Nat.zero_mul, Int.reduceSub, Int.reduceAdd, Int.reduceMul, Int.reduceNeg, Bool.not_true, Bool.not_false])
       | (with_reducible refine Sl.gate rfl ?_; (first | go_skip | go_guarded | go_step))
       | ((first | (with_reducible refine Sl.k_store ?_; (first
              | refine s_stR hst rfl BoxIn.h evX asX inX rfl rfl ?_
              | refine s_store hst rfl _ BoxIn.h inX evX rfl lenOk oneOk (by simp) ?_
              | refine s_st1 hst rfl BoxIn.h evX asX inX (by simp) ?_
              | refine s_stB hst evX asX SlIn.h inX evX omX ?_
              | refine s_stI hst evX asX SlIn.h inX evX omX ?_
              | refine s_st2 hst evX asX SlIn.h inX evX omX ?_); clear hst; intro w hst) | (refine s_box hst evX rfl ?_; clear hst; intro bx w hst) | (refine s_alloc hst inX ?_; clear hst; intro bk w hst)); (try simp only [List.set_cons_succ, List.set_cons_zero, vOf_true, vOf_false, List.drop_succ_cons, List.drop_zero, List.take_succ_cons, List.take_zero, putD, Int.toNat_zero, Int.reduceToNat, Nat.mul_one, Nat.zero_add, Nat.add_zero, Nat.reduceMul, Nat.reduceAdd, Nat.zero_mul, Int.reduceSub, Int.reduceAdd, Int.reduceMul, Int.reduceNeg, Bool.not_true, Bool.not_false]); (try simp only [List.set_cons_succ, List.set_cons_zero, List.drop_succ_cons, List.drop_zero, List.take_succ_cons, List.take_zero, List.nil_append, List.cons_append, List.append_nil, Value.cells, List.eraseIdx_cons_zero, List.eraseIdx_cons_succ, Nat.zero_add, Nat.add_zero, List.flatten_cons, List.flatten_nil, List.map_cons, List.map_nil] at hst)))
    go_loopg [3, 4] 10 (fun k v u wr => ∃ (x : Nat) (xs : List UInt8), v = .int .u64 x ∧ 1 ≤ k ∧ Hid (x < 128 ^ k ∧ xs ++ encF k x = encI n ∧ xs.length + k = 10) ∧ St S (.sl u 5 1 xs.length (u8s xs) :: M) wr)
    case atStart => exact ⟨zig n, [], congrArg _ hz'.out, by omega, ⟨Nat.lt_trans (zig_lt hn) pow10, by simp [encI], by simp⟩, hst.nil 5 1⟩
    case round =>
      clear hst
      obtain ⟨x, xs, rfl, hk, hx, hst⟩ := hrel
      have hu := sl_one hst
      have hxl : xs.length ≤ 10 := by have := hx.out.2.2; omega
      by_cases hlt : x < 128
      · repeat' (first
           | go_skip
           | (with_reducible refine Sl.k_guard ?_; (first | (refine Sl.guard_yes rfl ?_) | (refine Sl.guard_no rfl ?_) | (refine Sl.guard_cases rfl ?_ ?_ <;> intro hg <;> first | (exfalso; simp only [decide_eq_true_eq, decide_eq_false_iff_not, Bool.not_false, Bool.not_true, beq_iff_eq, beq_eq_false_iff_ne, ne_eq] at hg; omega) | (simp only [hg, Bool.not_true, Bool.not_false]))) <;> (try simp only [List.set_cons_succ, List.set_cons_zero, vOf_true, vOf_false, List.drop_succ_cons, List.drop_zero, List.take_succ_cons, List.take_zero, putD, Int.toNat_zero, Int.reduceToNat, Nat.mul_one, Nat.zero_add, Nat.add_zero, Nat.reduceMul, Nat.reduceAdd, Nat.zero_mul, Int.reduceSub, Int.reduceAdd, Int.reduceMul, Int.reduceNeg, Bool.not_true, Bool.not_false]))
           | ((fail_if_success (go_big_may)); (first | go_skip | go_guarded | go_step))
           | ((first
                | (with_reducible refine Sl.k_load ?_; (first
                  | refine s_qt hst (qt_load rfl _ BoxIn.h inX rfl rfl) ?_
                  | (refine s_ex hst (qt_ldp_int evX asX inX) ?_; rintro v ⟨rfl, hI⟩)
                  | refine s_qt hst (by first | exact qt_ldp_u8 evX asX inX | exact qt_ldp_bool evX asX inX) ?_
                  | (refine s_ex hst (qt_ldp_str evX asX inX) ?_; rintro v ⟨rfl, hs⟩)
                  | (refine s_ex hst (qt_ldp_list evX asX inX) ?_; rintro v ⟨hvl, hv1⟩)
                  | (refine s_ex hst (qt_ldp evX asX inX) ?_; rintro v ⟨cl, rfl, hcl⟩)
                  | refine s_qt hst (by first | exact qt_ldB evX asX SlIn.h inX omX | exact qt_ldI evX asX SlIn.h inX omX | exact qt_ld2 evX asX SlIn.h inX omX | exact qt_load_own evX asX SlIn.h inX rfl (by simp <;> omega) | exact qt_load rfl _ asX inX rfl rfl) ?_))
                | (with_reducible refine Sl.k_field ?_; (first
                  | refine s_qt hst (qt_field rfl inX) ?_
                  | (refine s_ex hst (qt_fieldp evX asX inX inX rfl) ?_; rintro v hp; (try simp only [Int.toNat_natCast, Int.toNat_natCast_add_one, Int.reduceToNat] at hp))
                  | (refine s_ex hst (qt_field_own evX asX inX) ?_; rintro v hp; (try simp only [Int.toNat_natCast, Int.toNat_natCast_add_one, Int.reduceToNat] at hp))))
                | (with_reducible refine Sl.k_index ?_; (first
                  | refine s_qt hst (qt_indexA rfl rfl inX inX omX omX) ?_
                  | (refine s_ex hst (qt_indexP0 evX asX rfl inX inX) ?_; rintro v hp; (try simp only [Int.toNat_natCast, Int.toNat_natCast_add_one, Int.reduceToNat] at hp))
                  | (refine s_ex hst (qt_indexP1 evX asX rfl inX inX) ?_; rintro v hp; (try simp only [Int.toNat_natCast, Int.toNat_natCast_add_one, Int.reduceToNat] at hp))
                  | (refine s_ex hst (qt_index evX asX rfl inX inX omX omX) ?_; rintro v hp; (try simp only [Int.toNat_natCast, Int.toNat_natCast_add_one, Int.reduceToNat] at hp))
                  | (refine s_ex hst (qt_indexAp evX asX rfl inX inX rfl omX omX) ?_; rintro v hp; (try simp only [Int.toNat_natCast, Int.toNat_natCast_add_one, Int.reduceToNat] at hp))
                  | (refine s_ex hst (qt_index_own hst evX SlIn.h rfl inX inX omX omX) ?_; rintro v hp; (try simp only [Int.toNat_natCast, Int.toNat_natCast_add_one, Int.reduceToNat] at hp))))
                | (with_reducible refine Sl.k_call ?_; (first
                  | refine s_qt hst (by first | exact qt_len evX asX inX | exact qt_len_str evX inX | exact qt_len_own evX SlIn.h inX | exact qt_max rfl rfl | exact qt_min rfl rfl) ?_))); simp only [List.set_cons_succ, List.set_cons_zero, vOf_true, vOf_false, List.drop_succ_cons, List.drop_zero, List.take_succ_cons, List.take_zero, putD, Int.toNat_zero, Int.reduceToNat, Nat.mul_one, Nat.zero_add, Nat.add_zero, Nat.reduceMul, Nat.reduceAdd, Nat.zero_mul, Int.reduceSub, Int.reduceAdd, Int.reduceMul, Int.reduceNeg, Bool.not_true, Bool.not_false])
           | (with_reducible refine Sl.gate rfl ?_; (first | go_skip | go_guarded | go_step))
           | ((first | (with_reducible refine Sl.k_store ?_; (first
                  | refine s_stR hst rfl BoxIn.h evX asX inX rfl rfl ?_
                  | refine s_store hst rfl _ BoxIn.h inX evX rfl lenOk oneOk (by simp) ?_
                  | refine s_st1 hst rfl BoxIn.h evX asX inX (by simp) ?_
                  | refine s_stB hst evX asX SlIn.h inX evX omX ?_
                  | refine s_stI hst evX asX SlIn.h inX evX omX ?_
                  | refine s_st2 hst evX asX SlIn.h inX evX omX ?_); clear hst; intro w hst) | (refine s_box hst evX rfl ?_; clear hst; intro bx w hst) | (refine s_alloc hst inX ?_; clear hst; intro bk w hst)); (try simp only [List.set_cons_succ, List.set_cons_zero, vOf_true, vOf_false, List.drop_succ_cons, List.drop_zero, List.take_succ_cons, List.take_zero, putD, Int.toNat_zero, Int.reduceToNat, Nat.mul_one, Nat.zero_add, Nat.add_zero, Nat.reduceMul, Nat.reduceAdd, Nat.zero_mul, Int.reduceSub, Int.reduceAdd, Int.reduceMul, Int.reduceNeg, Bool.not_true, Bool.not_false]); (try simp only [List.set_cons_succ, List.set_cons_zero, List.drop_succ_cons, List.drop_zero, List.take_succ_cons, List.take_zero, List.nil_append, List.cons_append, List.append_nil, Value.cells, List.eraseIdx_cons_zero, List.eraseIdx_cons_succ, Nat.zero_add, Nat.add_zero, List.flatten_cons, List.flatten_nil, List.map_cons, List.map_nil] at hst)))
        refine s_lit (vs := [.int .u8 (x : Int)]) hst inX inX rfl rfl (by simp [Value.cells]) rfl (by omega) (by omega) ?_
        clear hst; intro u w hst
        simp only [List.set_cons_succ, List.set_cons_zero, vOf_true, vOf_false, List.drop_succ_cons, List.drop_zero, List.take_succ_cons, List.take_zero, putD, Int.toNat_zero, Int.reduceToNat, Nat.mul_one, Nat.zero_add, Nat.add_zero, Nat.reduceMul, Nat.reduceAdd, Nat.zero_mul, Int.reduceSub, Int.reduceAdd, Int.reduceMul, Int.reduceNeg, Bool.not_true, Bool.not_false]
        repeat' (first
           | go_skip
           | (with_reducible refine Sl.k_guard ?_; (first | (refine Sl.guard_yes rfl ?_) | (refine Sl.guard_no rfl ?_) | (refine Sl.guard_cases rfl ?_ ?_ <;> intro hg <;> first | (exfalso; simp only [decide_eq_true_eq, decide_eq_false_iff_not, Bool.not_false, Bool.not_true, beq_iff_eq, beq_eq_false_iff_ne, ne_eq] at hg; omega) | (simp only [hg, Bool.not_true, Bool.not_false]))) <;> (try simp only [List.set_cons_succ, List.set_cons_zero, vOf_true, vOf_false, List.drop_succ_cons, List.drop_zero, List.take_succ_cons, List.take_zero, putD, Int.toNat_zero, Int.reduceToNat, Nat.mul_one, Nat.zero_add, Nat.add_zero, Nat.reduceMul, Nat.reduceAdd, Nat.zero_mul, Int.reduceSub, Int.reduceAdd, Int.reduceMul, Int.reduceNeg, Bool.not_true, Bool.not_false]))
           | ((fail_if_success (go_big_may)); (first | go_skip | go_guarded | go_step))
           | ((first
                | (with_reducible refine Sl.k_load ?_; (first
                  | refine s_qt hst (qt_load rfl _ BoxIn.h inX rfl rfl) ?_
                  | (refine s_ex hst (qt_ldp_int evX asX inX) ?_; rintro v ⟨rfl, hI⟩)
                  | refine s_qt hst (by first | exact qt_ldp_u8 evX asX inX | exact qt_ldp_bool evX asX inX) ?_
                  | (refine s_ex hst (qt_ldp_str evX asX inX) ?_; rintro v ⟨rfl, hs⟩)
                  | (refine s_ex hst (qt_ldp_list evX asX inX) ?_; rintro v ⟨hvl, hv1⟩)
                  | (refine s_ex hst (qt_ldp evX asX inX) ?_; rintro v ⟨cl, rfl, hcl⟩)
                  | refine s_qt hst (by first | exact qt_ldB evX asX SlIn.h inX omX | exact qt_ldI evX asX SlIn.h inX omX | exact qt_ld2 evX asX SlIn.h inX omX | exact qt_load_own evX asX SlIn.h inX rfl (by simp <;> omega) | exact qt_load rfl _ asX inX rfl rfl) ?_))
                | (with_reducible refine Sl.k_field ?_; (first
                  | refine s_qt hst (qt_field rfl inX) ?_
                  | (refine s_ex hst (qt_fieldp evX asX inX inX rfl) ?_; rintro v hp; (try simp only [Int.toNat_natCast, Int.toNat_natCast_add_one, Int.reduceToNat] at hp))
                  | (refine s_ex hst (qt_field_own evX asX inX) ?_; rintro v hp; (try simp only [Int.toNat_natCast, Int.toNat_natCast_add_one, Int.reduceToNat] at hp))))
                | (with_reducible refine Sl.k_index ?_; (first
                  | refine s_qt hst (qt_indexA rfl rfl inX inX omX omX) ?_
                  | (refine s_ex hst (qt_indexP0 evX asX rfl inX inX) ?_; rintro v hp; (try simp only [Int.toNat_natCast, Int.toNat_natCast_add_one, Int.reduceToNat] at hp))
                  | (refine s_ex hst (qt_indexP1 evX asX rfl inX inX) ?_; rintro v hp; (try simp only [Int.toNat_natCast, Int.toNat_natCast_add_one, Int.reduceToNat] at hp))
                  | (refine s_ex hst (qt_index evX asX rfl inX inX omX omX) ?_; rintro v hp; (try simp only [Int.toNat_natCast, Int.toNat_natCast_add_one, Int.reduceToNat] at hp))
                  | (refine s_ex hst (qt_indexAp evX asX rfl inX inX rfl omX omX) ?_; rintro v hp; (try simp only [Int.toNat_natCast, Int.toNat_natCast_add_one, Int.reduceToNat] at hp))
                  | (refine s_ex hst (qt_index_own hst evX SlIn.h rfl inX inX omX omX) ?_; rintro v hp; (try simp only [Int.toNat_natCast, Int.toNat_natCast_add_one, Int.reduceToNat] at hp))))
                | (with_reducible refine Sl.k_call ?_; (first
                  | refine s_qt hst (by first | exact qt_len evX asX inX | exact qt_len_str evX inX | exact qt_len_own evX SlIn.h inX | exact qt_max rfl rfl | exact qt_min rfl rfl) ?_))); simp only [List.set_cons_succ, List.set_cons_zero, vOf_true, vOf_false, List.drop_succ_cons, List.drop_zero, List.take_succ_cons, List.take_zero, putD, Int.toNat_zero, Int.reduceToNat, Nat.mul_one, Nat.zero_add, Nat.add_zero, Nat.reduceMul, Nat.reduceAdd, Nat.zero_mul, Int.reduceSub, Int.reduceAdd, Int.reduceMul, Int.reduceNeg, Bool.not_true, Bool.not_false])
           | (with_reducible refine Sl.gate rfl ?_; (first | go_skip | go_guarded | go_step))
           | ((first | (with_reducible refine Sl.k_store ?_; (first
                  | refine s_stR hst rfl BoxIn.h evX asX inX rfl rfl ?_
                  | refine s_store hst rfl _ BoxIn.h inX evX rfl lenOk oneOk (by simp) ?_
                  | refine s_st1 hst rfl BoxIn.h evX asX inX (by simp) ?_
                  | refine s_stB hst evX asX SlIn.h inX evX omX ?_
                  | refine s_stI hst evX asX SlIn.h inX evX omX ?_
                  | refine s_st2 hst evX asX SlIn.h inX evX omX ?_); clear hst; intro w hst) | (refine s_box hst evX rfl ?_; clear hst; intro bx w hst) | (refine s_alloc hst inX ?_; clear hst; intro bk w hst)); (try simp only [List.set_cons_succ, List.set_cons_zero, vOf_true, vOf_false, List.drop_succ_cons, List.drop_zero, List.take_succ_cons, List.take_zero, putD, Int.toNat_zero, Int.reduceToNat, Nat.mul_one, Nat.zero_add, Nat.add_zero, Nat.reduceMul, Nat.reduceAdd, Nat.zero_mul, Int.reduceSub, Int.reduceAdd, Int.reduceMul, Int.reduceNeg, Bool.not_true, Bool.not_false]); (try simp only [List.set_cons_succ, List.set_cons_zero, List.drop_succ_cons, List.drop_zero, List.take_succ_cons, List.take_zero, List.nil_append, List.cons_append, List.append_nil, Value.cells, List.eraseIdx_cons_zero, List.eraseIdx_cons_succ, Nat.zero_add, Nat.add_zero, List.flatten_cons, List.flatten_nil, List.map_cons, List.map_nil] at hst)))
        refine s_append (j := 0) hst evX evX SlIn.h rfl inX inX inX (by simp [Value.cells, Value.oneCell']) (by omega) (by omega) (by decide) ?_
        clear hst; intro v' w hst
        simp only [List.set_cons_succ, List.set_cons_zero, vOf_true, vOf_false, List.drop_succ_cons, List.drop_zero, List.take_succ_cons, List.take_zero, putD, Int.toNat_zero, Int.reduceToNat, Nat.mul_one, Nat.zero_add, Nat.add_zero, Nat.reduceMul, Nat.reduceAdd, Nat.zero_mul, Int.reduceSub, Int.reduceAdd, Int.reduceMul, Int.reduceNeg, Bool.not_true, Bool.not_false]
        (try simp only [List.set_cons_succ, List.set_cons_zero, List.drop_succ_cons, List.drop_zero, List.take_succ_cons, List.take_zero, List.nil_append, List.cons_append, List.append_nil, Value.cells, List.eraseIdx_cons_zero, List.eraseIdx_cons_succ, Nat.zero_add, Nat.add_zero, List.flatten_cons, List.flatten_nil, List.map_cons, List.map_nil] at hst)
        replace hst := hst.drop
        repeat' (first
           | go_skip
           | (with_reducible refine Sl.k_guard ?_; (first | (refine Sl.guard_yes rfl ?_) | (refine Sl.guard_no rfl ?_) | (refine Sl.guard_cases rfl ?_ ?_ <;> intro hg <;> first | (exfalso; simp only [decide_eq_true_eq, decide_eq_false_iff_not, Bool.not_false, Bool.not_true, beq_iff_eq, beq_eq_false_iff_ne, ne_eq] at hg; omega) | (simp only [hg, Bool.not_true, Bool.not_false]))) <;> (try simp only [List.set_cons_succ, List.set_cons_zero, vOf_true, vOf_false, List.drop_succ_cons, List.drop_zero, List.take_succ_cons, List.take_zero, putD, Int.toNat_zero, Int.reduceToNat, Nat.mul_one, Nat.zero_add, Nat.add_zero, Nat.reduceMul, Nat.reduceAdd, Nat.zero_mul, Int.reduceSub, Int.reduceAdd, Int.reduceMul, Int.reduceNeg, Bool.not_true, Bool.not_false]))
           | ((fail_if_success (go_big_may)); (first | go_skip | go_guarded | go_step))
           | ((first
                | (with_reducible refine Sl.k_load ?_; (first
                  | refine s_qt hst (qt_load rfl _ BoxIn.h inX rfl rfl) ?_
                  | (refine s_ex hst (qt_ldp_int evX asX inX) ?_; rintro v ⟨rfl, hI⟩)
                  | refine s_qt hst (by first | exact qt_ldp_u8 evX asX inX | exact qt_ldp_bool evX asX inX) ?_
                  | (refine s_ex hst (qt_ldp_str evX asX inX) ?_; rintro v ⟨rfl, hs⟩)
                  | (refine s_ex hst (qt_ldp_list evX asX inX) ?_; rintro v ⟨hvl, hv1⟩)
                  | (refine s_ex hst (qt_ldp evX asX inX) ?_; rintro v ⟨cl, rfl, hcl⟩)
                  | refine s_qt hst (by first | exact qt_ldB evX asX SlIn.h inX omX | exact qt_ldI evX asX SlIn.h inX omX | exact qt_ld2 evX asX SlIn.h inX omX | exact qt_load_own evX asX SlIn.h inX rfl (by simp <;> omega) | exact qt_load rfl _ asX inX rfl rfl) ?_))
                | (with_reducible refine Sl.k_field ?_; (first
                  | refine s_qt hst (qt_field rfl inX) ?_
                  | (refine s_ex hst (qt_fieldp evX asX inX inX rfl) ?_; rintro v hp; (try simp only [Int.toNat_natCast, Int.toNat_natCast_add_one, Int.reduceToNat] at hp))
                  | (refine s_ex hst (qt_field_own evX asX inX) ?_; rintro v hp; (try simp only [Int.toNat_natCast, Int.toNat_natCast_add_one, Int.reduceToNat] at hp))))
                | (with_reducible refine Sl.k_index ?_; (first
                  | refine s_qt hst (qt_indexA rfl rfl inX inX omX omX) ?_
                  | (refine s_ex hst (qt_indexP0 evX asX rfl inX inX) ?_; rintro v hp; (try simp only [Int.toNat_natCast, Int.toNat_natCast_add_one, Int.reduceToNat] at hp))
                  | (refine s_ex hst (qt_indexP1 evX asX rfl inX inX) ?_; rintro v hp; (try simp only [Int.toNat_natCast, Int.toNat_natCast_add_one, Int.reduceToNat] at hp))
                  | (refine s_ex hst (qt_index evX asX rfl inX inX omX omX) ?_; rintro v hp; (try simp only [Int.toNat_natCast, Int.toNat_natCast_add_one, Int.reduceToNat] at hp))
                  | (refine s_ex hst (qt_indexAp evX asX rfl inX inX rfl omX omX) ?_; rintro v hp; (try simp only [Int.toNat_natCast, Int.toNat_natCast_add_one, Int.reduceToNat] at hp))
                  | (refine s_ex hst (qt_index_own hst evX SlIn.h rfl inX inX omX omX) ?_; rintro v hp; (try simp only [Int.toNat_natCast, Int.toNat_natCast_add_one, Int.reduceToNat] at hp))))
                | (with_reducible refine Sl.k_call ?_; (first
                  | refine s_qt hst (by first | exact qt_len evX asX inX | exact qt_len_str evX inX | exact qt_len_own evX SlIn.h inX | exact qt_max rfl rfl | exact qt_min rfl rfl) ?_))); simp only [List.set_cons_succ, List.set_cons_zero, vOf_true, vOf_false, List.drop_succ_cons, List.drop_zero, List.take_succ_cons, List.take_zero, putD, Int.toNat_zero, Int.reduceToNat, Nat.mul_one, Nat.zero_add, Nat.add_zero, Nat.reduceMul, Nat.reduceAdd, Nat.zero_mul, Int.reduceSub, Int.reduceAdd, Int.reduceMul, Int.reduceNeg, Bool.not_true, Bool.not_false])
           | (with_reducible refine Sl.gate rfl ?_; (first | go_skip | go_guarded | go_step))
           | ((first | (with_reducible refine Sl.k_store ?_; (first
                  | refine s_stR hst rfl BoxIn.h evX asX inX rfl rfl ?_
                  | refine s_store hst rfl _ BoxIn.h inX evX rfl lenOk oneOk (by simp) ?_
                  | refine s_st1 hst rfl BoxIn.h evX asX inX (by simp) ?_
                  | refine s_stB hst evX asX SlIn.h inX evX omX ?_
                  | refine s_stI hst evX asX SlIn.h inX evX omX ?_
                  | refine s_st2 hst evX asX SlIn.h inX evX omX ?_); clear hst; intro w hst) | (refine s_box hst evX rfl ?_; clear hst; intro bx w hst) | (refine s_alloc hst inX ?_; clear hst; intro bk w hst)); (try simp only [List.set_cons_succ, List.set_cons_zero, vOf_true, vOf_false, List.drop_succ_cons, List.drop_zero, List.take_succ_cons, List.take_zero, putD, Int.toNat_zero, Int.reduceToNat, Nat.mul_one, Nat.zero_add, Nat.add_zero, Nat.reduceMul, Nat.reduceAdd, Nat.zero_mul, Int.reduceSub, Int.reduceAdd, Int.reduceMul, Int.reduceNeg, Bool.not_true, Bool.not_false]); (try simp only [List.set_cons_succ, List.set_cons_zero, List.drop_succ_cons, List.drop_zero, List.take_succ_cons, List.take_zero, List.nil_append, List.cons_append, List.append_nil, Value.cells, List.eraseIdx_cons_zero, List.eraseIdx_cons_succ, Nat.zero_add, Nat.add_zero, List.flatten_cons, List.flatten_nil, List.map_cons, List.map_nil] at hst)))
        rw [Exit.noGoto_ret]
        go_ret
        refine ⟨_, rfl, ?_⟩
        obtain ⟨_, hx2, _⟩ := hx.out
        obtain ⟨k', rfl⟩ : ∃ k', gk = k' + 1 := ⟨gk - 1, by omega⟩
        rw [encF_one hlt] at hx2
        rw [← hx2, u8s_snoc, List.length_append, u8_small hlt]
        exact hst
      · repeat' (first
           | go_skip
           | (with_reducible refine Sl.k_guard ?_; (first | (refine Sl.guard_yes rfl ?_) | (refine Sl.guard_no rfl ?_) | (refine Sl.guard_cases rfl ?_ ?_ <;> intro hg <;> first | (exfalso; simp only [decide_eq_true_eq, decide_eq_false_iff_not, Bool.not_false, Bool.not_true, beq_iff_eq, beq_eq_false_iff_ne, ne_eq] at hg; omega) | (simp only [hg, Bool.not_true, Bool.not_false]))) <;> (try simp only [List.set_cons_succ, List.set_cons_zero, vOf_true, vOf_false, List.drop_succ_cons, List.drop_zero, List.take_succ_cons, List.take_zero, putD, Int.toNat_zero, Int.reduceToNat, Nat.mul_one, Nat.zero_add, Nat.add_zero, Nat.reduceMul, Nat.reduceAdd, Nat.zero_mul, Int.reduceSub, Int.reduceAdd, Int.reduceMul, Int.reduceNeg, Bool.not_true, Bool.not_false]))
           | ((fail_if_success (go_big_may)); (first | go_skip | go_guarded | go_step))
           | ((first
                | (with_reducible refine Sl.k_load ?_; (first
                  | refine s_qt hst (qt_load rfl _ BoxIn.h inX rfl rfl) ?_
                  | (refine s_ex hst (qt_ldp_int evX asX inX) ?_; rintro v ⟨rfl, hI⟩)
                  | refine s_qt hst (by first | exact qt_ldp_u8 evX asX inX | exact qt_ldp_bool evX asX inX) ?_
                  | (refine s_ex hst (qt_ldp_str evX asX inX) ?_; rintro v ⟨rfl, hs⟩)
                  | (refine s_ex hst (qt_ldp_list evX asX inX) ?_; rintro v ⟨hvl, hv1⟩)
                  | (refine s_ex hst (qt_ldp evX asX inX) ?_; rintro v ⟨cl, rfl, hcl⟩)
                  | refine s_qt hst (by first | exact qt_ldB evX asX SlIn.h inX omX | exact qt_ldI evX asX SlIn.h inX omX | exact qt_ld2 evX asX SlIn.h inX omX | exact qt_load_own evX asX SlIn.h inX rfl (by simp <;> omega) | exact qt_load rfl _ asX inX rfl rfl) ?_))
                | (with_reducible refine Sl.k_field ?_; (first
                  | refine s_qt hst (qt_field rfl inX) ?_
                  | (refine s_ex hst (qt_fieldp evX asX inX inX rfl) ?_; rintro v hp; (try simp only [Int.toNat_natCast, Int.toNat_natCast_add_one, Int.reduceToNat] at hp))
                  | (refine s_ex hst (qt_field_own evX asX inX) ?_; rintro v hp; (try simp only [Int.toNat_natCast, Int.toNat_natCast_add_one, Int.reduceToNat] at hp))))
                | (with_reducible refine Sl.k_index ?_; (first
                  | refine s_qt hst (qt_indexA rfl rfl inX inX omX omX) ?_
                  | (refine s_ex hst (qt_indexP0 evX asX rfl inX inX) ?_; rintro v hp; (try simp only [Int.toNat_natCast, Int.toNat_natCast_add_one, Int.reduceToNat] at hp))
                  | (refine s_ex hst (qt_indexP1 evX asX rfl inX inX) ?_; rintro v hp; (try simp only [Int.toNat_natCast, Int.toNat_natCast_add_one, Int.reduceToNat] at hp))
                  | (refine s_ex hst (qt_index evX asX rfl inX inX omX omX) ?_; rintro v hp; (try simp only [Int.toNat_natCast, Int.toNat_natCast_add_one, Int.reduceToNat] at hp))
                  | (refine s_ex hst (qt_indexAp evX asX rfl inX inX rfl omX omX) ?_; rintro v hp; (try simp only [Int.toNat_natCast, Int.toNat_natCast_add_one, Int.reduceToNat] at hp))
                  | (refine s_ex hst (qt_index_own hst evX SlIn.h rfl inX inX omX omX) ?_; rintro v hp; (try simp only [Int.toNat_natCast, Int.toNat_natCast_add_one, Int.reduceToNat] at hp))))
                | (with_reducible refine Sl.k_call ?_; (first
                  | refine s_qt hst (by first | exact qt_len evX asX inX | exact qt_len_str evX inX | exact qt_len_own evX SlIn.h inX | exact qt_max rfl rfl | exact qt_min rfl rfl) ?_))); simp only [List.set_cons_succ, List.set_cons_zero, vOf_true, vOf_false, List.drop_succ_cons, List.drop_zero, List.take_succ_cons, List.take_zero, putD, Int.toNat_zero, Int.reduceToNat, Nat.mul_one, Nat.zero_add, Nat.add_zero, Nat.reduceMul, Nat.reduceAdd, Nat.zero_mul, Int.reduceSub, Int.reduceAdd, Int.reduceMul, Int.reduceNeg, Bool.not_true, Bool.not_false])
           | (with_reducible refine Sl.gate rfl ?_; (first | go_skip | go_guarded | go_step))
           | ((first | (with_reducible refine Sl.k_store ?_; (first
                  | refine s_stR hst rfl BoxIn.h evX asX inX rfl rfl ?_
                  | refine s_store hst rfl _ BoxIn.h inX evX rfl lenOk oneOk (by simp) ?_
                  | refine s_st1 hst rfl BoxIn.h evX asX inX (by simp) ?_
                  | refine s_stB hst evX asX SlIn.h inX evX omX ?_
                  | refine s_stI hst evX asX SlIn.h inX evX omX ?_
                  | refine s_st2 hst evX asX SlIn.h inX evX omX ?_); clear hst; intro w hst) | (refine s_box hst evX rfl ?_; clear hst; intro bx w hst) | (refine s_alloc hst inX ?_; clear hst; intro bk w hst)); (try simp only [List.set_cons_succ, List.set_cons_zero, vOf_true, vOf_false, List.drop_succ_cons, List.drop_zero, List.take_succ_cons, List.take_zero, putD, Int.toNat_zero, Int.reduceToNat, Nat.mul_one, Nat.zero_add, Nat.add_zero, Nat.reduceMul, Nat.reduceAdd, Nat.zero_mul, Int.reduceSub, Int.reduceAdd, Int.reduceMul, Int.reduceNeg, Bool.not_true, Bool.not_false]); (try simp only [List.set_cons_succ, List.set_cons_zero, List.drop_succ_cons, List.drop_zero, List.take_succ_cons, List.take_zero, List.nil_append, List.cons_append, List.append_nil, Value.cells, List.eraseIdx_cons_zero, List.eraseIdx_cons_succ, Nat.zero_add, Nat.add_zero, List.flatten_cons, List.flatten_nil, List.map_cons, List.map_nil] at hst)))
        refine s_lit (vs := [.int .u8 (bits .or .u8 ((x : Int) % 256) 128)]) hst inX inX rfl rfl (by simp [Value.cells]) rfl (by omega) (by omega) ?_
        clear hst; intro u w hst
        simp only [List.set_cons_succ, List.set_cons_zero, vOf_true, vOf_false, List.drop_succ_cons, List.drop_zero, List.take_succ_cons, List.take_zero, putD, Int.toNat_zero, Int.reduceToNat, Nat.mul_one, Nat.zero_add, Nat.add_zero, Nat.reduceMul, Nat.reduceAdd, Nat.zero_mul, Int.reduceSub, Int.reduceAdd, Int.reduceMul, Int.reduceNeg, Bool.not_true, Bool.not_false]
        repeat' (first
           | go_skip
           | (with_reducible refine Sl.k_guard ?_; (first | (refine Sl.guard_yes rfl ?_) | (refine Sl.guard_no rfl ?_) | (refine Sl.guard_cases rfl ?_ ?_ <;> intro hg <;> first | (exfalso; simp only [decide_eq_true_eq, decide_eq_false_iff_not, Bool.not_false, Bool.not_true, beq_iff_eq, beq_eq_false_iff_ne, ne_eq] at hg; omega) | (simp only [hg, Bool.not_true, Bool.not_false]))) <;> (try simp only [List.set_cons_succ, List.set_cons_zero, vOf_true, vOf_false, List.drop_succ_cons, List.drop_zero, List.take_succ_cons, List.take_zero, putD, Int.toNat_zero, Int.reduceToNat, Nat.mul_one, Nat.zero_add, Nat.add_zero, Nat.reduceMul, Nat.reduceAdd, Nat.zero_mul, Int.reduceSub, Int.reduceAdd, Int.reduceMul, Int.reduceNeg, Bool.not_true, Bool.not_false]))
           | ((fail_if_success (go_big_may)); (first | go_skip | go_guarded | go_step))
           | ((first
                | (with_reducible refine Sl.k_load ?_; (first
                  | refine s_qt hst (qt_load rfl _ BoxIn.h inX rfl rfl) ?_
                  | (refine s_ex hst (qt_ldp_int evX asX inX) ?_; rintro v ⟨rfl, hI⟩)
                  | refine s_qt hst (by first | exact qt_ldp_u8 evX asX inX | exact qt_ldp_bool evX asX inX) ?_
                  | (refine s_ex hst (qt_ldp_str evX asX inX) ?_; rintro v ⟨rfl, hs⟩)
                  | (refine s_ex hst (qt_ldp_list evX asX inX) ?_; rintro v ⟨hvl, hv1⟩)
                  | (refine s_ex hst (qt_ldp evX asX inX) ?_; rintro v ⟨cl, rfl, hcl⟩)
                  | refine s_qt hst (by first | exact qt_ldB evX asX SlIn.h inX omX | exact qt_ldI evX asX SlIn.h inX omX | exact qt_ld2 evX asX SlIn.h inX omX | exact qt_load_own evX asX SlIn.h inX rfl (by simp <;> omega) | exact qt_load rfl _ asX inX rfl rfl) ?_))
                | (with_reducible refine Sl.k_field ?_; (first
                  | refine s_qt hst (qt_field rfl inX) ?_
                  | (refine s_ex hst (qt_fieldp evX asX inX inX rfl) ?_; rintro v hp; (try simp only [Int.toNat_natCast, Int.toNat_natCast_add_one, Int.reduceToNat] at hp))
                  | (refine s_ex hst (qt_field_own evX asX inX) ?_; rintro v hp; (try simp only [Int.toNat_natCast, Int.toNat_natCast_add_one, Int.reduceToNat] at hp))))
                | (with_reducible refine Sl.k_index ?_; (first
                  | refine s_qt hst (qt_indexA rfl rfl inX inX omX omX) ?_
                  | (refine s_ex hst (qt_indexP0 evX asX rfl inX inX) ?_; rintro v hp; (try simp only [Int.toNat_natCast, Int.toNat_natCast_add_one, Int.reduceToNat] at hp))
                  | (refine s_ex hst (qt_indexP1 evX asX rfl inX inX) ?_; rintro v hp; (try simp only [Int.toNat_natCast, Int.toNat_natCast_add_one, Int.reduceToNat] at hp))
                  | (refine s_ex hst (qt_index evX asX rfl inX inX omX omX) ?_; rintro v hp; (try simp only [Int.toNat_natCast, Int.toNat_natCast_add_one, Int.reduceToNat] at hp))
                  | (refine s_ex hst (qt_indexAp evX asX rfl inX inX rfl omX omX) ?_; rintro v hp; (try simp only [Int.toNat_natCast, Int.toNat_natCast_add_one, Int.reduceToNat] at hp))
                  | (refine s_ex hst (qt_index_own hst evX SlIn.h rfl inX inX omX omX) ?_; rintro v hp; (try simp only [Int.toNat_natCast, Int.toNat_natCast_add_one, Int.reduceToNat] at hp))))
                | (with_reducible refine Sl.k_call ?_; (first
                  | refine s_qt hst (by first | exact qt_len evX asX inX | exact qt_len_str evX inX | exact qt_len_own evX SlIn.h inX | exact qt_max rfl rfl | exact qt_min rfl rfl) ?_))); simp only [List.set_cons_succ, List.set_cons_zero, vOf_true, vOf_false, List.drop_succ_cons, List.drop_zero, List.take_succ_cons, List.take_zero, putD, Int.toNat_zero, Int.reduceToNat, Nat.mul_one, Nat.zero_add, Nat.add_zero, Nat.reduceMul, Nat.reduceAdd, Nat.zero_mul, Int.reduceSub, Int.reduceAdd, Int.reduceMul, Int.reduceNeg, Bool.not_true, Bool.not_false])
           | (with_reducible refine Sl.gate rfl ?_; (first | go_skip | go_guarded | go_step))
           | ((first | (with_reducible refine Sl.k_store ?_; (first
                  | refine s_stR hst rfl BoxIn.h evX asX inX rfl rfl ?_
                  | refine s_store hst rfl _ BoxIn.h inX evX rfl lenOk oneOk (by simp) ?_
                  | refine s_st1 hst rfl BoxIn.h evX asX inX (by simp) ?_
                  | refine s_stB hst evX asX SlIn.h inX evX omX ?_
                  | refine s_stI hst evX asX SlIn.h inX evX omX ?_
                  | refine s_st2 hst evX asX SlIn.h inX evX omX ?_); clear hst; intro w hst) | (refine s_box hst evX rfl ?_; clear hst; intro bx w hst) | (refine s_alloc hst inX ?_; clear hst; intro bk w hst)); (try simp only [List.set_cons_succ, List.set_cons_zero, vOf_true, vOf_false, List.drop_succ_cons, List.drop_zero, List.take_succ_cons, List.take_zero, putD, Int.toNat_zero, Int.reduceToNat, Nat.mul_one, Nat.zero_add, Nat.add_zero, Nat.reduceMul, Nat.reduceAdd, Nat.zero_mul, Int.reduceSub, Int.reduceAdd, Int.reduceMul, Int.reduceNeg, Bool.not_true, Bool.not_false]); (try simp only [List.set_cons_succ, List.set_cons_zero, List.drop_succ_cons, List.drop_zero, List.take_succ_cons, List.take_zero, List.nil_append, List.cons_append, List.append_nil, Value.cells, List.eraseIdx_cons_zero, List.eraseIdx_cons_succ, Nat.zero_add, Nat.add_zero, List.flatten_cons, List.flatten_nil, List.map_cons, List.map_nil] at hst)))
        refine s_append (j := 0) hst evX evX SlIn.h rfl inX inX inX (by simp [Value.cells, Value.oneCell']) (by omega) (by omega) (by decide) ?_
        clear hst; intro v' w hst
        simp only [List.set_cons_succ, List.set_cons_zero, vOf_true, vOf_false, List.drop_succ_cons, List.drop_zero, List.take_succ_cons, List.take_zero, putD, Int.toNat_zero, Int.reduceToNat, Nat.mul_one, Nat.zero_add, Nat.add_zero, Nat.reduceMul, Nat.reduceAdd, Nat.zero_mul, Int.reduceSub, Int.reduceAdd, Int.reduceMul, Int.reduceNeg, Bool.not_true, Bool.not_false]
        (try simp only [List.set_cons_succ, List.set_cons_zero, List.drop_succ_cons, List.drop_zero, List.take_succ_cons, List.take_zero, List.nil_append, List.cons_append, List.append_nil, Value.cells, List.eraseIdx_cons_zero, List.eraseIdx_cons_succ, Nat.zero_add, Nat.add_zero, List.flatten_cons, List.flatten_nil, List.map_cons, List.map_nil] at hst)
        replace hst := hst.drop
        repeat' (first
           | go_skip
           | (with_reducible refine Sl.k_guard ?_; (first | (refine Sl.guard_yes rfl ?_) | (refine Sl.guard_no rfl ?_) | (refine Sl.guard_cases rfl ?_ ?_ <;> intro hg <;> first | (exfalso; simp only [decide_eq_true_eq, decide_eq_false_iff_not, Bool.not_false, Bool.not_true, beq_iff_eq, beq_eq_false_iff_ne, ne_eq] at hg; omega) | (simp only [hg, Bool.not_true, Bool.not_false]))) <;> (try simp only [List.set_cons_succ, List.set_cons_zero, vOf_true, vOf_false, List.drop_succ_cons, List.drop_zero, List.take_succ_cons, List.take_zero, putD, Int.toNat_zero, Int.reduceToNat, Nat.mul_one, Nat.zero_add, Nat.add_zero, Nat.reduceMul, Nat.reduceAdd, Nat.zero_mul, Int.reduceSub, Int.reduceAdd, Int.reduceMul, Int.reduceNeg, Bool.not_true, Bool.not_false]))
           | ((fail_if_success (go_big_may)); (first | go_skip | go_guarded | go_step))
           | ((first
                | (with_reducible refine Sl.k_load ?_; (first
                  | refine s_qt hst (qt_load rfl _ BoxIn.h inX rfl rfl) ?_
                  | (refine s_ex hst (qt_ldp_int evX asX inX) ?_; rintro v ⟨rfl, hI⟩)
                  | refine s_qt hst (by first | exact qt_ldp_u8 evX asX inX | exact qt_ldp_bool evX asX inX) ?_
                  | (refine s_ex hst (qt_ldp_str evX asX inX) ?_; rintro v ⟨rfl, hs⟩)
                  | (refine s_ex hst (qt_ldp_list evX asX inX) ?_; rintro v ⟨hvl, hv1⟩)
                  | (refine s_ex hst (qt_ldp evX asX inX) ?_; rintro v ⟨cl, rfl, hcl⟩)
                  | refine s_qt hst (by first | exact qt_ldB evX asX SlIn.h inX omX | exact qt_ldI evX asX SlIn.h inX omX | exact qt_ld2 evX asX SlIn.h inX omX | exact qt_load_own evX asX SlIn.h inX rfl (by simp <;> omega) | exact qt_load rfl _ asX inX rfl rfl) ?_))
                | (with_reducible refine Sl.k_field ?_; (first
                  | refine s_qt hst (qt_field rfl inX) ?_
                  | (refine s_ex hst (qt_fieldp evX asX inX inX rfl) ?_; rintro v hp; (try simp only [Int.toNat_natCast, Int.toNat_natCast_add_one, Int.reduceToNat] at hp))
                  | (refine s_ex hst (qt_field_own evX asX inX) ?_; rintro v hp; (try simp only [Int.toNat_natCast, Int.toNat_natCast_add_one, Int.reduceToNat] at hp))))
                | (with_reducible refine Sl.k_index ?_; (first
                  | refine s_qt hst (qt_indexA rfl rfl inX inX omX omX) ?_
                  | (refine s_ex hst (qt_indexP0 evX asX rfl inX inX) ?_; rintro v hp; (try simp only [Int.toNat_natCast, Int.toNat_natCast_add_one, Int.reduceToNat] at hp))
                  | (refine s_ex hst (qt_indexP1 evX asX rfl inX inX) ?_; rintro v hp; (try simp only [Int.toNat_natCast, Int.toNat_natCast_add_one, Int.reduceToNat] at hp))
                  | (refine s_ex hst (qt_index evX asX rfl inX inX omX omX) ?_; rintro v hp; (try simp only [Int.toNat_natCast, Int.toNat_natCast_add_one, Int.reduceToNat] at hp))
                  | (refine s_ex hst (qt_indexAp evX asX rfl inX inX rfl omX omX) ?_; rintro v hp; (try simp only [Int.toNat_natCast, Int.toNat_natCast_add_one, Int.reduceToNat] at hp))
                  | (refine s_ex hst (qt_index_own hst evX SlIn.h rfl inX inX omX omX) ?_; rintro v hp; (try simp only [Int.toNat_natCast, Int.toNat_natCast_add_one, Int.reduceToNat] at hp))))
                | (with_reducible refine Sl.k_call ?_; (first
                  | refine s_qt hst (by first | exact qt_len evX asX inX | exact qt_len_str evX inX | exact qt_len_own evX SlIn.h inX | exact qt_max rfl rfl | exact qt_min rfl rfl) ?_))); simp only [List.set_cons_succ, List.set_cons_zero, vOf_true, vOf_false, List.drop_succ_cons, List.drop_zero, List.take_succ_cons, List.take_zero, putD, Int.toNat_zero, Int.reduceToNat, Nat.mul_one, Nat.zero_add, Nat.add_zero, Nat.reduceMul, Nat.reduceAdd, Nat.zero_mul, Int.reduceSub, Int.reduceAdd, Int.reduceMul, Int.reduceNeg, Bool.not_true, Bool.not_false])
           | (with_reducible refine Sl.gate rfl ?_; (first | go_skip | go_guarded | go_step))
           | ((first | (with_reducible refine Sl.k_store ?_; (first
                  | refine s_stR hst rfl BoxIn.h evX asX inX rfl rfl ?_
                  | refine s_store hst rfl _ BoxIn.h inX evX rfl lenOk oneOk (by simp) ?_
                  | refine s_st1 hst rfl BoxIn.h evX asX inX (by simp) ?_
                  | refine s_stB hst evX asX SlIn.h inX evX omX ?_
                  | refine s_stI hst evX asX SlIn.h inX evX omX ?_
                  | refine s_st2 hst evX asX SlIn.h inX evX omX ?_); clear hst; intro w hst) | (refine s_box hst evX rfl ?_; clear hst; intro bx w hst) | (refine s_alloc hst inX ?_; clear hst; intro bk w hst)); (try simp only [List.set_cons_succ, List.set_cons_zero, vOf_true, vOf_false, List.drop_succ_cons, List.drop_zero, List.take_succ_cons, List.take_zero, putD, Int.toNat_zero, Int.reduceToNat, Nat.mul_one, Nat.zero_add, Nat.add_zero, Nat.reduceMul, Nat.reduceAdd, Nat.zero_mul, Int.reduceSub, Int.reduceAdd, Int.reduceMul, Int.reduceNeg, Bool.not_true, Bool.not_false]); (try simp only [List.set_cons_succ, List.set_cons_zero, List.drop_succ_cons, List.drop_zero, List.take_succ_cons, List.take_zero, List.nil_append, List.cons_append, List.append_nil, Value.cells, List.eraseIdx_cons_zero, List.eraseIdx_cons_succ, Nat.zero_add, Nat.add_zero, List.flatten_cons, List.flatten_nil, List.map_cons, List.map_nil] at hst)))
        obtain ⟨hx1, hx2, hx3⟩ := hx.out
        obtain ⟨k', rfl⟩ : ∃ k', gk = k' + 1 := ⟨gk - 1, by omega⟩
        rw [encF_more hlt] at hx2
        go_roundg k'
        case measure => omega
        case rel =>
          refine ⟨x / 128, xs ++ [UInt8.ofNat (128 + x % 128)], by rw [Int.natCast_ediv]; rfl, ?_, ⟨Nat.div_lt_of_lt_mul (by rw [← Nat.pow_succ']; exact hx1), by rw [← hx2]; simp, by simp; omega⟩, ?_⟩
          · rcases Nat.eq_zero_or_pos k' with e | e
            · subst e; simp at hx1; omega
            · exact e
          · rw [u8s_snoc, List.length_append, ← or_byte]
            exact hst
  · have hz' := Lib.hid (zig_neg (by omega) hn)
    go_enter Try.func56, Try.ntmps56
    repeat' (first
       | go_skip
       | (with_reducible refine Sl.k_guard ?_; (first | (refine Sl.guard_yes rfl ?_) | (refine Sl.guard_no rfl ?_) | (refine Sl.guard_cases rfl ?_ ?_ <;> intro hg <;> first | (exfalso; simp only [decide_eq_true_eq, decide_eq_false_iff_not, Bool.not_false, Bool.not_true, beq_iff_eq, beq_eq_false_iff_ne, ne_eq] at hg; omega) | (simp only [hg, Bool.not_true, Bool.not_false]))) <;> (try simp only [List.set_cons_succ, List.set_cons_zero, vOf_true, vOf_false, List.drop_succ_cons, List.drop_zero, List.take_succ_cons, List.take_zero, putD, Int.toNat_zero, Int.reduceToNat, Nat.mul_one, Nat.zero_add, Nat.add_zero, Nat.reduceMul, Nat.reduceAdd, Nat.zero_mul, Int.reduceSub, Int.reduceAdd, Int.reduceMul, Int.reduceNeg, Bool.not_true, Bool.not_false]))
       | ((fail_if_success (go_big_may)); (first | go_skip | go_guarded | go_step))
       | ((first
            | (with_reducible refine Sl.k_load ?_; (first
              | refine s_qt hst (qt_load rfl _ BoxIn.h inX rfl rfl) ?_
              | (refine s_ex hst (qt_ldp_int evX asX inX) ?_; rintro v ⟨rfl, hI⟩)
              | refine s_qt hst (by first | exact qt_ldp_u8 evX asX inX | exact qt_ldp_bool evX asX inX) ?_
              | (refine s_ex hst (qt_ldp_str evX asX inX) ?_; rintro v ⟨rfl, hs⟩)
              | (refine s_ex hst (qt_ldp_list evX asX inX) ?_; rintro v ⟨hvl, hv1⟩)
              | (refine s_ex hst (qt_ldp evX asX inX) ?_; rintro v ⟨cl, rfl, hcl⟩)
              | refine s_qt hst (by first | exact qt_ldB evX asX SlIn.h inX omX | exact qt_ldI evX asX SlIn.h inX omX | exact qt_ld2 evX asX SlIn.h inX omX | exact qt_load_own evX asX SlIn.h inX rfl (by simp <;> omega) | exact qt_load rfl _ asX inX rfl rfl) ?_))
            | (with_reducible refine Sl.k_field ?_; (first
              | refine s_qt hst (qt_field rfl inX) ?_
              | (refine s_ex hst (qt_fieldp evX asX inX inX rfl) ?_; rintro v hp; (try simp only [Int.toNat_natCast, Int.toNat_natCast_add_one, Int.reduceToNat] at hp))
              | (refine s_ex hst (qt_field_own evX asX inX) ?_; rintro v hp; (try simp only [Int.toNat_natCast, Int.toNat_natCast_add_one, Int.reduceToNat] at hp))))
            | (with_reducible refine Sl.k_index ?_; (first
              | refine s_qt hst (qt_indexA rfl rfl inX inX omX omX) ?_
              | (refine s_ex hst (qt_indexP0 evX asX rfl inX inX) ?_; rintro v hp; (try simp only [Int.toNat_natCast, Int.toNat_natCast_add_one, Int.reduceToNat] at hp))
              | (refine s_ex hst (qt_indexP1 evX asX rfl inX inX) ?_; rintro v hp; (try simp only [Int.toNat_natCast, Int.toNat_natCast_add_one, Int.reduceToNat] at hp))
              | (refine s_ex hst (qt_index evX asX rfl inX inX omX omX) ?_; rintro v hp; (try simp only [Int.toNat_natCast, Int.toNat_natCast_add_one, Int.reduceToNat] at hp))
              | (refine s_ex hst (qt_indexAp evX asX rfl inX inX rfl omX omX) ?_; rintro v hp; (try simp only [Int.toNat_natCast, Int.toNat_natCast_add_one, Int.reduceToNat] at hp))
              | (refine s_ex hst (qt_index_own hst evX SlIn.h rfl inX inX omX omX) ?_; rintro v hp; (try simp only [Int.toNat_natCast, Int.toNat_natCast_add_one, Int.reduceToNat] at hp))))
            | (with_reducible refine Sl.k_call ?_; (first
              | refine s_qt hst (by first | exact qt_len evX asX inX | exact qt_len_str evX inX | exact qt_len_own evX SlIn.h inX | exact qt_max rfl rfl | exact qt_min rfl rfl) ?_))); simp only [List.set_cons_succ, List.set_cons_zero, vOf_true, vOf_false, List.drop_succ_cons, List.drop_zero, List.take_succ_cons, List.take_zero, putD, Int.toNat_zero, Int.reduceToNat, Nat.mul_one, Nat.zero_add, Nat.add_zero, Nat.reduceMul, Nat.reduceAdd, Nat.zero_mul, Int.reduceSub, Int.reduceAdd, Int.reduceMul, Int.reduceNeg, Bool.not_true, Bool.not_false])
       | (with_reducible refine Sl.gate rfl ?_; (first | go_skip | go_guarded | go_step))
       | ((first | (with_reducible refine Sl.k_store ?_; (first
              | refine s_stR hst rfl BoxIn.h evX asX inX rfl rfl ?_
              | refine s_store hst rfl _ BoxIn.h inX evX rfl lenOk oneOk (by simp) ?_
              | refine s_st1 hst rfl BoxIn.h evX asX inX (by simp) ?_
              | refine s_stB hst evX asX SlIn.h inX evX omX ?_
              | refine s_stI hst evX asX SlIn.h inX evX omX ?_
              | refine s_st2 hst evX asX SlIn.h inX evX omX ?_); clear hst; intro w hst) | (refine s_box hst evX rfl ?_; clear hst; intro bx w hst) | (refine s_alloc hst inX ?_; clear hst; intro bk w hst)); (try simp only [List.set_cons_succ, List.set_cons_zero, vOf_true, vOf_false, List.drop_succ_cons, List.drop_zero, List.take_succ_cons, List.take_zero, putD, Int.toNat_zero, Int.reduceToNat, Nat.mul_one, Nat.zero_add, Nat.add_zero, Nat.reduceMul, Nat.reduceAdd, Nat.zero_mul, Int.reduceSub, Int.reduceAdd, Int.reduceMul, Int.reduceNeg, Bool.not_true, Bool.not_false]); (try simp only [List.set_cons_succ, List.set_cons_zero, List.drop_succ_cons, List.drop_zero, List.take_succ_cons, List.take_zero, List.nil_append, List.cons_append, List.append_nil, Value.cells, List.eraseIdx_cons_zero, List.eraseIdx_cons_succ, Nat.zero_add, Nat.add_zero, List.flatten_cons, List.flatten_nil, List.map_cons, List.map_nil] at hst)))
    go_step3
    repeat' (first
       | go_skip
       | (with_reducible refine Sl.k_guard ?_; (first | (refine Sl.guard_yes rfl ?_) | (refine Sl.guard_no rfl ?_) | (refine Sl.guard_cases rfl ?_ ?_ <;> intro hg <;> first | (exfalso; simp only [decide_eq_true_eq, decide_eq_false_iff_not, Bool.not_false, Bool.not_true, beq_iff_eq, beq_eq_false_iff_ne, ne_eq] at hg; omega) | (simp only [hg, Bool.not_true, Bool.not_false]))) <;> (try simp only [List.set_cons_succ, List.set_cons_zero, vOf_true, vOf_false, List.drop_succ_cons, List.drop_zero, List.take_succ_cons, List.take_zero, putD, Int.toNat_zero, Int.reduceToNat, Nat.mul_one, Nat.zero_add, Nat.add_zero, Nat.reduceMul, Nat.reduceAdd, Nat.zero_mul, Int.reduceSub, Int.reduceAdd, Int.reduceMul, Int.reduceNeg, Bool.not_true, Bool.not_false]))
       | ((fail_if_success (go_big_may)); (first | go_skip | go_guarded | go_step))
       | ((first
            | (with_reducible refine Sl.k_load ?_; (first
              | refine s_qt hst (qt_load rfl _ BoxIn.h inX rfl rfl) ?_
              | (refine s_ex hst (qt_ldp_int evX asX inX) ?_; rintro v ⟨rfl, hI⟩)
              | refine s_qt hst (by first | exact qt_ldp_u8 evX asX inX | exact qt_ldp_bool evX asX inX) ?_
              | (refine s_ex hst (qt_ldp_str evX asX inX) ?_; rintro v ⟨rfl, hs⟩)
              | (refine s_ex hst (qt_ldp_list evX asX inX) ?_; rintro v ⟨hvl, hv1⟩)
              | (refine s_ex hst (qt_ldp evX asX inX) ?_; rintro v ⟨cl, rfl, hcl⟩)
              | refine s_qt hst (by first | exact qt_ldB evX asX SlIn.h inX omX | exact qt_ldI evX asX SlIn.h inX omX | exact qt_ld2 evX asX SlIn.h inX omX | exact qt_load_own evX asX SlIn.h inX rfl (by simp <;> omega) | exact qt_load rfl _ asX inX rfl rfl) ?_))
            | (with_reducible refine Sl.k_field ?_; (first
              | refine s_qt hst (qt_field rfl inX) ?_
              | (refine s_ex hst (qt_fieldp evX asX inX inX rfl) ?_; rintro v hp; (try simp only [Int.toNat_natCast, Int.toNat_natCast_add_one, Int.reduceToNat] at hp))
              | (refine s_ex hst (qt_field_own evX asX inX) ?_; rintro v hp; (try simp only [Int.toNat_natCast, Int.toNat_natCast_add_one, Int.reduceToNat] at hp))))
            | (with_reducible refine Sl.k_index ?_; (first
              | refine s_qt hst (qt_indexA rfl rfl inX inX omX omX) ?_
              | (refine s_ex hst (qt_indexP0 evX asX rfl inX inX) ?_; rintro v hp; (try simp only [Int.toNat_natCast, Int.toNat_natCast_add_one, Int.reduceToNat] at hp))
              | (refine s_ex hst (qt_indexP1 evX asX rfl inX inX) ?_; rintro v hp; (try simp only [Int.toNat_natCast, Int.toNat_natCast_add_one, Int.reduceToNat] at hp))
              | (refine s_ex hst (qt_index evX asX rfl inX inX omX omX) ?_; rintro v hp; (try simp only [Int.toNat_natCast, Int.toNat_natCast_add_one, Int.reduceToNat] at hp))
              | (refine s_ex hst (qt_indexAp evX asX rfl inX inX rfl omX omX) ?_; rintro v hp; (try simp only [Int.toNat_natCast, Int.toNat_natCast_add_one, Int.reduceToNat] at hp))
              | (refine s_ex hst (qt_index_own hst evX SlIn.h rfl inX inX omX omX) ?_; rintro v hp; (try simp only [Int.toNat_natCast, Int.toNat_natCast_add_one, Int.reduceToNat] at hp))))
            | (with_reducible refine Sl.k_call ?_; (first
              | refine s_qt hst (by first | exact qt_len evX asX inX | exact qt_len_str evX inX | exact qt_len_own evX SlIn.h inX | exact qt_max rfl rfl | exact qt_min rfl rfl) ?_))); simp only [List.set_cons_succ, List.set_cons_zero, vOf_true, vOf_false, List.drop_succ_cons, List.drop_zero, List.take_succ_cons, List.take_zero, putD, Int.toNat_zero, Int.reduceToNat, Nat.mul_one, Nat.zero_add, Nat.add_zero, Nat.reduceMul, Nat.reduceAdd, Nat.zero_mul, Int.reduceSub, Int.reduceAdd, Int.reduceMul, Int.reduceNeg, Bool.not_true, Bool.not_false])
       | (with_reducible refine Sl.gate rfl ?_; (first | go_skip | go_guarded | go_step))
       | ((first | (with_reducible refine Sl.k_store ?_; (first
              | refine s_stR hst rfl BoxIn.h evX asX inX rfl rfl ?_
              | refine s_store hst rfl _ BoxIn.h inX evX rfl lenOk oneOk (by simp) ?_
              | refine s_st1 hst rfl BoxIn.h evX asX inX (by simp) ?_
              | refine s_stB hst evX asX SlIn.h inX evX omX ?_
              | refine s_stI hst evX asX SlIn.h inX evX omX ?_
              | refine s_st2 hst evX asX SlIn.h inX evX omX ?_); clear hst; intro w hst) | (refine s_box hst evX rfl ?_; clear hst; intro bx w hst) | (refine s_alloc hst inX ?_; clear hst; intro bk w hst)); (try simp only [List.set_cons_succ, List.set_cons_zero, vOf_true, vOf_false, List.drop_succ_cons, List.drop_zero, List.take_succ_cons, List.take_zero, putD, Int.toNat_zero, Int.reduceToNat, Nat.mul_one, Nat.zero_add, Nat.add_zero, Nat.reduceMul, Nat.reduceAdd, Nat.zero_mul, Int.reduceSub, Int.reduceAdd, Int.reduceMul, Int.reduceNeg, Bool.not_true, Bool.not_false]); (try simp only [List.set_cons_succ, List.set_cons_zero, List.drop_succ_cons, List.drop_zero, List.take_succ_cons, List.take_zero, List.nil_append, List.cons_append, List.append_nil, Value.cells, List.eraseIdx_cons_zero, List.eraseIdx_cons_succ, Nat.zero_add, Nat.add_zero, List.flatten_cons, List.flatten_nil, List.map_cons, List.map_nil] at hst)))
    go_step3
    repeat' (first
       | go_skip
       | (with_reducible refine Sl.k_guard ?_; (first | (refine Sl.guard_yes rfl ?_) | (refine Sl.guard_no rfl ?_) | (refine Sl.guard_cases rfl ?_ ?_ <;> intro hg <;> first | (exfalso; simp only [decide_eq_true_eq, decide_eq_false_iff_not, Bool.not_false, Bool.not_true, beq_iff_eq, beq_eq_false_iff_ne, ne_eq] at hg; omega) | (simp only [hg, Bool.not_true, Bool.not_false]))) <;> (try simp only [List.set_cons_succ, List.set_cons_zero, vOf_true, vOf_false, List.drop_succ_cons, List.drop_zero, List.take_succ_cons, List.take_zero, putD, Int.toNat_zero, Int.reduceToNat, Nat.mul_one, Nat.zero_add, Nat.add_zero, Nat.reduceMul, Nat.reduceAdd, Nat.zero_mul, Int.reduceSub, Int.reduceAdd, Int.reduceMul, Int.reduceNeg, Bool.not_true, Bool.not_false]))
       | ((fail_if_success (go_big_may)); (first | go_skip | go_guarded | go_step))
       | ((first
            | (with_reducible refine Sl.k_load ?_; (first
              | refine s_qt hst (qt_load rfl _ BoxIn.h inX rfl rfl) ?_
              | (refine s_ex hst (qt_ldp_int evX asX inX) ?_; rintro v ⟨rfl, hI⟩)
              | refine s_qt hst (by first | exact qt_ldp_u8 evX asX inX | exact qt_ldp_bool evX asX inX) ?_
              | (refine s_ex hst (qt_ldp_str evX asX inX) ?_; rintro v ⟨rfl, hs⟩)
              | (refine s_ex hst (qt_ldp_list evX asX inX) ?_; rintro v ⟨hvl, hv1⟩)
              | (refine s_ex hst (qt_ldp evX asX inX) ?_; rintro v ⟨cl, rfl, hcl⟩)
              | refine s_qt hst (by first | exact qt_ldB evX asX SlIn.h inX omX | exact qt_ldI evX asX SlIn.h inX omX | exact qt_ld2 evX asX SlIn.h inX omX | exact qt_load_own evX asX SlIn.h inX rfl (by simp <;> omega) | exact qt_load rfl _ asX inX rfl rfl) ?_))
            | (with_reducible refine Sl.k_field ?_; (first
              | refine s_qt hst (qt_field rfl inX) ?_
              | (refine s_ex hst (qt_fieldp evX asX inX inX rfl) ?_; rintro v hp; (try simp only [Int.toNat_natCast, Int.toNat_natCast_add_one, Int.reduceToNat] at hp))
              | (refine s_ex hst (qt_field_own evX asX inX) ?_; rintro v hp; (try simp only [Int.toNat_natCast, Int.toNat_natCast_add_one, Int.reduceToNat] at hp))))
            | (with_reducible refine Sl.k_index ?_; (first
              | refine s_qt hst (qt_indexA rfl rfl inX inX omX omX) ?_
              | (refine s_ex hst (qt_indexP0 evX asX rfl inX inX) ?_; rintro v hp; (try simp only [Int.toNat_natCast, Int.toNat_natCast_add_one, Int.reduceToNat] at hp))
              | (refine s_ex hst (qt_indexP1 evX asX rfl inX inX) ?_; rintro v hp; (try simp only [Int.toNat_natCast, Int.toNat_natCast_add_one, Int.reduceToNat] at hp))
              | (refine s_ex hst (qt_index evX asX rfl inX inX omX omX) ?_; rintro v hp; (try simp only [Int.toNat_natCast, Int.toNat_natCast_add_one, Int.reduceToNat] at hp))
              | (refine s_ex hst (qt_indexAp evX asX rfl inX inX rfl omX omX) ?_; rintro v hp; (try simp only [Int.toNat_natCast, Int.toNat_natCast_add_one, Int.reduceToNat] at hp))
              | (refine s_ex hst (qt_index_own hst evX SlIn.h rfl inX inX omX omX) ?_; rintro v hp; (try simp only [Int.toNat_natCast, Int.toNat_natCast_add_one, Int.reduceToNat] at hp))))
            | (with_reducible refine Sl.k_call ?_; (first
              | refine s_qt hst (by first | exact qt_len evX asX inX | exact qt_len_str evX inX | exact qt_len_own evX SlIn.h inX | exact qt_max rfl rfl | exact qt_min rfl rfl) ?_))); simp only [List.set_cons_succ, List.set_cons_zero, vOf_true, vOf_false, List.drop_succ_cons, List.drop_zero, List.take_succ_cons, List.take_zero, putD, Int.toNat_zero, Int.reduceToNat, Nat.mul_one, Nat.zero_add, Nat.add_zero, Nat.reduceMul, Nat.reduceAdd, Nat.zero_mul, Int.reduceSub, Int.reduceAdd, Int.reduceMul, Int.reduceNeg, Bool.not_true, Bool.not_false])
       | (with_reducible refine Sl.gate rfl ?_; (first | go_skip | go_guarded | go_step))
       | ((first | (with_reducible refine Sl.k_store ?_; (first
              | refine s_stR hst rfl BoxIn.h evX asX inX rfl rfl ?_
              | refine s_store hst rfl _ BoxIn.h inX evX rfl lenOk oneOk (by simp) ?_
              | refine s_st1 hst rfl BoxIn.h evX asX inX (by simp) ?_
              | refine s_stB hst evX asX SlIn.h inX evX omX ?_
              | refine s_stI hst evX asX SlIn.h inX evX omX ?_
              | refine s_st2 hst evX asX SlIn.h inX evX omX ?_); clear hst; intro w hst) | (refine s_box hst evX rfl ?_; clear hst; intro bx w hst) | (refine s_alloc hst inX ?_; clear hst; intro bk w hst)); (try simp only [List.set_cons_succ, List.set_cons_zero, vOf_true, vOf_false, List.drop_succ_cons, List.drop_zero, List.take_succ_cons, List.take_zero, putD, Int.toNat_zero, Int.reduceToNat, Nat.mul_one, Nat.zero_add, Nat.add_zero, Nat.reduceMul, Nat.reduceAdd, Nat.zero_mul, Int.reduceSub, Int.reduceAdd, Int.reduceMul, Int.reduceNeg, Bool.not_true, Bool.not_false]); (try simp only [List.set_cons_succ, List.set_cons_zero, List.drop_succ_cons, List.drop_zero, List.take_succ_cons, List.take_zero, List.nil_append, List.cons_append, List.append_nil, Value.cells, List.eraseIdx_cons_zero, List.eraseIdx_cons_succ, Nat.zero_add, Nat.add_zero, List.flatten_cons, List.flatten_nil, List.map_cons, List.map_nil] at hst)))
    go_loopg [3, 4] 10 (fun k v u wr => ∃ (x : Nat) (xs : List UInt8), v = .int .u64 x ∧ 1 ≤ k ∧ Hid (x < 128 ^ k ∧ xs ++ encF k x = encI n ∧ xs.length + k = 10) ∧ St S (.sl u 5 1 xs.length (u8s xs) :: M) wr)
    case atStart => exact ⟨zig n, [], congrArg _ hz'.out, by omega, ⟨Nat.lt_trans (zig_lt hn) pow10, by simp [encI], by simp⟩, hst.nil 5 1⟩
    case round =>
      clear hst
      obtain ⟨x, xs, rfl, hk, hx, hst⟩ := hrel
      have hu := sl_one hst
      have hxl : xs.length ≤ 10 := by have := hx.out.2.2; omega
      by_cases hlt : x < 128
      · repeat' (first
           | go_skip
           | (with_reducible refine Sl.k_guard ?_; (first | (refine Sl.guard_yes rfl ?_) | (refine Sl.guard_no rfl ?_) | (refine Sl.guard_cases rfl ?_ ?_ <;> intro hg <;> first | (exfalso; simp only [decide_eq_true_eq, decide_eq_false_iff_not, Bool.not_false, Bool.not_true, beq_iff_eq, beq_eq_false_iff_ne, ne_eq] at hg; omega) | (simp only [hg, Bool.not_true, Bool.not_false]))) <;> (try simp only [List.set_cons_succ, List.set_cons_zero, vOf_true, vOf_false, List.drop_succ_cons, List.drop_zero, List.take_succ_cons, List.take_zero, putD, Int.toNat_zero, Int.reduceToNat, Nat.mul_one, Nat.zero_add, Nat.add_zero, Nat.reduceMul, Nat.reduceAdd, Nat.zero_mul, Int.reduceSub, Int.reduceAdd, Int.reduceMul, Int.reduceNeg, Bool.not_true, Bool.not_false]))
           | ((fail_if_success (go_big_may)); (first | go_skip | go_guarded | go_step))
           | ((first
                | (with_reducible refine Sl.k_load ?_; (first
                  | refine s_qt hst (qt_load rfl _ BoxIn.h inX rfl rfl) ?_
                  | (refine s_ex hst (qt_ldp_int evX asX inX) ?_; rintro v ⟨rfl, hI⟩)
                  | refine s_qt hst (by first | exact qt_ldp_u8 evX asX inX | exact qt_ldp_bool evX asX inX) ?_
                  | (refine s_ex hst (qt_ldp_str evX asX inX) ?_; rintro v ⟨rfl, hs⟩)
                  | (refine s_ex hst (qt_ldp_list evX asX inX) ?_; rintro v ⟨hvl, hv1⟩)
                  | (refine s_ex hst (qt_ldp evX asX inX) ?_; rintro v ⟨cl, rfl, hcl⟩)
                  | refine s_qt hst (by first | exact qt_ldB evX asX SlIn.h inX omX | exact qt_ldI evX asX SlIn.h inX omX | exact qt_ld2 evX asX SlIn.h inX omX | exact qt_load_own evX asX SlIn.h inX rfl (by simp <;> omega) | exact qt_load rfl _ asX inX rfl rfl) ?_))
                | (with_reducible refine Sl.k_field ?_; (first
                  | refine s_qt hst (qt_field rfl inX) ?_
                  | (refine s_ex hst (qt_fieldp evX asX inX inX rfl) ?_; rintro v hp; (try simp only [Int.toNat_natCast, Int.toNat_natCast_add_one, Int.reduceToNat] at hp))
                  | (refine s_ex hst (qt_field_own evX asX inX) ?_; rintro v hp; (try simp only [Int.toNat_natCast, Int.toNat_natCast_add_one, Int.reduceToNat] at hp))))
                | (with_reducible refine Sl.k_index ?_; (first
                  | refine s_qt hst (qt_indexA rfl rfl inX inX omX omX) ?_
                  | (refine s_ex hst (qt_indexP0 evX asX rfl inX inX) ?_; rintro v hp; (try simp only [Int.toNat_natCast, Int.toNat_natCast_add_one, Int.reduceToNat] at hp))
                  | (refine s_ex hst (qt_indexP1 evX asX rfl inX inX) ?_; rintro v hp; (try simp only [Int.toNat_natCast, Int.toNat_natCast_add_one, Int.reduceToNat] at hp))
                  | (refine s_ex hst (qt_index evX asX rfl inX inX omX omX) ?_; rintro v hp; (try simp only [Int.toNat_natCast, Int.toNat_natCast_add_one, Int.reduceToNat] at hp))
                  | (refine s_ex hst (qt_indexAp evX asX rfl inX inX rfl omX omX) ?_; rintro v hp; (try simp only [Int.toNat_natCast, Int.toNat_natCast_add_one, Int.reduceToNat] at hp))
                  | (refine s_ex hst (qt_index_own hst evX SlIn.h rfl inX inX omX omX) ?_; rintro v hp; (try simp only [Int.toNat_natCast, Int.toNat_natCast_add_one, Int.reduceToNat] at hp))))
                | (with_reducible refine Sl.k_call ?_; (first
                  | refine s_qt hst (by first | exact qt_len evX asX inX | exact qt_len_str evX inX | exact qt_len_own evX SlIn.h inX | exact qt_max rfl rfl | exact qt_min rfl rfl) ?_))); simp only [List.set_cons_succ, List.set_cons_zero, vOf_true, vOf_false, List.drop_succ_cons, List.drop_zero, List.take_succ_cons, List.take_zero, putD, Int.toNat_zero, Int.reduceToNat, Nat.mul_one, Nat.zero_add, Nat.add_zero, Nat.reduceMul, Nat.reduceAdd, Nat.zero_mul, Int.reduceSub, Int.reduceAdd, Int.reduceMul, Int.reduceNeg, Bool.not_true, Bool.not_false])
           | (with_reducible refine Sl.gate rfl ?_; (first | go_skip | go_guarded | go_step))
           | ((first | (with_reducible refine Sl.k_store ?_; (first
                  | refine s_stR hst rfl BoxIn.h evX asX inX rfl rfl ?_
                  | refine s_store hst rfl _ BoxIn.h inX evX rfl lenOk oneOk (by simp) ?_
                  | refine s_st1 hst rfl BoxIn.h evX asX inX (by simp) ?_
                  | refine s_stB hst evX asX SlIn.h inX evX omX ?_
                  | refine s_stI hst evX asX SlIn.h inX evX omX ?_
                  | refine s_st2 hst evX asX SlIn.h inX evX omX ?_); clear hst; intro w hst) | (refine s_box hst evX rfl ?_; clear hst; intro bx w hst) | (refine s_alloc hst inX ?_; clear hst; intro bk w hst)); (try simp only [List.set_cons_succ, List.set_cons_zero, vOf_true, vOf_false, List.drop_succ_cons, List.drop_zero, List.take_succ_cons, List.take_zero, putD, Int.toNat_zero, Int.reduceToNat, Nat.mul_one, Nat.zero_add, Nat.add_zero, Nat.reduceMul, Nat.reduceAdd, Nat.zero_mul, Int.reduceSub, Int.reduceAdd, Int.reduceMul, Int.reduceNeg, Bool.not_true, Bool.not_false]); (try simp only [List.set_cons_succ, List.set_cons_zero, List.drop_succ_cons, List.drop_zero, List.take_succ_cons, List.take_zero, List.nil_append, List.cons_append, List.append_nil, Value.cells, List.eraseIdx_cons_zero, List.eraseIdx_cons_succ, Nat.zero_add, Nat.add_zero, List.flatten_cons, List.flatten_nil, List.map_cons, List.map_nil] at hst)))
        refine s_lit (vs := [.int .u8 (x : Int)]) hst inX inX rfl rfl (by simp [Value.cells]) rfl (by omega) (by omega) ?_
        clear hst; intro u w hst
        simp only [List.set_cons_succ, List.set_cons_zero, vOf_true, vOf_false, List.drop_succ_cons, List.drop_zero, List.take_succ_cons, List.take_zero, putD, Int.toNat_zero, Int.reduceToNat, Nat.mul_one, Nat.zero_add, Nat.add_zero, Nat.reduceMul, Nat.reduceAdd, Nat.zero_mul, Int.reduceSub, Int.reduceAdd, Int.reduceMul, Int.reduceNeg, Bool.not_true, Bool.not_false]
        repeat' (first
           | go_skip
           | (with_reducible refine Sl.k_guard ?_; (first | (refine Sl.guard_yes rfl ?_) | (refine Sl.guard_no rfl ?_) | (refine Sl.guard_cases rfl ?_ ?_ <;> intro hg <;> first | (exfalso; simp only [decide_eq_true_eq, decide_eq_false_iff_not, Bool.not_false, Bool.not_true, beq_iff_eq, beq_eq_false_iff_ne, ne_eq] at hg; omega) | (simp only [hg, Bool.not_true, Bool.not_false]))) <;> (try simp only [List.set_cons_succ, List.set_cons_zero, vOf_true, vOf_false, List.drop_succ_cons, List.drop_zero, List.take_succ_cons, List.take_zero, putD, Int.toNat_zero, Int.reduceToNat, Nat.mul_one, Nat.zero_add, Nat.add_zero, Nat.reduceMul, Nat.reduceAdd, Nat.zero_mul, Int.reduceSub, Int.reduceAdd, Int.reduceMul, Int.reduceNeg, Bool.not_true, Bool.not_false]))
           | ((fail_if_success (go_big_may)); (first | go_skip | go_guarded | go_step))
           | ((first
                | (with_reducible refine Sl.k_load ?_; (first
                  | refine s_qt hst (qt_load rfl _ BoxIn.h inX rfl rfl) ?_
                  | (refine s_ex hst (qt_ldp_int evX asX inX) ?_; rintro v ⟨rfl, hI⟩)
                  | refine s_qt hst (by first | exact qt_ldp_u8 evX asX inX | exact qt_ldp_bool evX asX inX) ?_
                  | (refine s_ex hst (qt_ldp_str evX asX inX) ?_; rintro v ⟨rfl, hs⟩)
                  | (refine s_ex hst (qt_ldp_list evX asX inX) ?_; rintro v ⟨hvl, hv1⟩)
                  | (refine s_ex hst (qt_ldp evX asX inX) ?_; rintro v ⟨cl, rfl, hcl⟩)
                  | refine s_qt hst (by first | exact qt_ldB evX asX SlIn.h inX omX | exact qt_ldI evX asX SlIn.h inX omX | exact qt_ld2 evX asX SlIn.h inX omX | exact qt_load_own evX asX SlIn.h inX rfl (by simp <;> omega) | exact qt_load rfl _ asX inX rfl rfl) ?_))
                | (with_reducible refine Sl.k_field ?_; (first
                  | refine s_qt hst (qt_field rfl inX) ?_
                  | (refine s_ex hst (qt_fieldp evX asX inX inX rfl) ?_; rintro v hp; (try simp only [Int.toNat_natCast, Int.toNat_natCast_add_one, Int.reduceToNat] at hp))
                  | (refine s_ex hst (qt_field_own evX asX inX) ?_; rintro v hp; (try simp only [Int.toNat_natCast, Int.toNat_natCast_add_one, Int.reduceToNat] at hp))))
                | (with_reducible refine Sl.k_index ?_; (first
                  | refine s_qt hst (qt_indexA rfl rfl inX inX omX omX) ?_
                  | (refine s_ex hst (qt_indexP0 evX asX rfl inX inX) ?_; rintro v hp; (try simp only [Int.toNat_natCast, Int.toNat_natCast_add_one, Int.reduceToNat] at hp))
                  | (refine s_ex hst (qt_indexP1 evX asX rfl inX inX) ?_; rintro v hp; (try simp only [Int.toNat_natCast, Int.toNat_natCast_add_one, Int.reduceToNat] at hp))
                  | (refine s_ex hst (qt_index evX asX rfl inX inX omX omX) ?_; rintro v hp; (try simp only [Int.toNat_natCast, Int.toNat_natCast_add_one, Int.reduceToNat] at hp))
                  | (refine s_ex hst (qt_indexAp evX asX rfl inX inX rfl omX omX) ?_; rintro v hp; (try simp only [Int.toNat_natCast, Int.toNat_natCast_add_one, Int.reduceToNat] at hp))
                  | (refine s_ex hst (qt_index_own hst evX SlIn.h rfl inX inX omX omX) ?_; rintro v hp; (try simp only [Int.toNat_natCast, Int.toNat_natCast_add_one, Int.reduceToNat] at hp))))
                | (with_reducible refine Sl.k_call ?_; (first
                  | refine s_qt hst (by first | exact qt_len evX asX inX | exact qt_len_str evX inX | exact qt_len_own evX SlIn.h inX | exact qt_max rfl rfl | exact qt_min rfl rfl) ?_))); simp only [List.set_cons_succ, List.set_cons_zero, vOf_true, vOf_false, List.drop_succ_cons, List.drop_zero, List.take_succ_cons, List.take_zero, putD, Int.toNat_zero, Int.reduceToNat, Nat.mul_one, Nat.zero_add, Nat.add_zero, Nat.reduceMul, Nat.reduceAdd, Nat.zero_mul, Int.reduceSub, Int.reduceAdd, Int.reduceMul, Int.reduceNeg, Bool.not_true, Bool.not_false])
           | (with_reducible refine Sl.gate rfl ?_; (first | go_skip | go_guarded | go_step))
           | ((first | (with_reducible refine Sl.k_store ?_; (first
                  | refine s_stR hst rfl BoxIn.h evX asX inX rfl rfl ?_
                  | refine s_store hst rfl _ BoxIn.h inX evX rfl lenOk oneOk (by simp) ?_
                  | refine s_st1 hst rfl BoxIn.h evX asX inX (by simp) ?_
                  | refine s_stB hst evX asX SlIn.h inX evX omX ?_
                  | refine s_stI hst evX asX SlIn.h inX evX omX ?_
                  | refine s_st2 hst evX asX SlIn.h inX evX omX ?_); clear hst; intro w hst) | (refine s_box hst evX rfl ?_; clear hst; intro bx w hst) | (refine s_alloc hst inX ?_; clear hst; intro bk w hst)); (try simp only [List.set_cons_succ, List.set_cons_zero, vOf_true, vOf_false, List.drop_succ_cons, List.drop_zero, List.take_succ_cons, List.take_zero, putD, Int.toNat_zero, Int.reduceToNat, Nat.mul_one, Nat.zero_add, Nat.add_zero, Nat.reduceMul, Nat.reduceAdd, Nat.zero_mul, Int.reduceSub, Int.reduceAdd, Int.reduceMul, Int.reduceNeg, Bool.not_true, Bool.not_false]); (try simp only [List.set_cons_succ, List.set_cons_zero, List.drop_succ_cons, List.drop_zero, List.take_succ_cons, List.take_zero, List.nil_append, List.cons_append, List.append_nil, Value.cells, List.eraseIdx_cons_zero, List.eraseIdx_cons_succ, Nat.zero_add, Nat.add_zero, List.flatten_cons, List.flatten_nil, List.map_cons, List.map_nil] at hst)))
        refine s_append (j := 0) hst evX evX SlIn.h rfl inX inX inX (by simp [Value.cells, Value.oneCell']) (by omega) (by omega) (by decide) ?_
        clear hst; intro v' w hst
        simp only [List.set_cons_succ, List.set_cons_zero, vOf_true, vOf_false, List.drop_succ_cons, List.drop_zero, List.take_succ_cons, List.take_zero, putD, Int.toNat_zero, Int.reduceToNat, Nat.mul_one, Nat.zero_add, Nat.add_zero, Nat.reduceMul, Nat.reduceAdd, Nat.zero_mul, Int.reduceSub, Int.reduceAdd, Int.reduceMul, Int.reduceNeg, Bool.not_true, Bool.not_false]
        (try simp only [List.set_cons_succ, List.set_cons_zero, List.drop_succ_cons, List.drop_zero, List.take_succ_cons, List.take_zero, List.nil_append, List.cons_append, List.append_nil, Value.cells, List.eraseIdx_cons_zero, List.eraseIdx_cons_succ, Nat.zero_add, Nat.add_zero, List.flatten_cons, List.flatten_nil, List.map_cons, List.map_nil] at hst)
        replace hst := hst.drop
        repeat' (first
           | go_skip
           | (with_reducible refine Sl.k_guard ?_; (first | (refine Sl.guard_yes rfl ?_) | (refine Sl.guard_no rfl ?_) | (refine Sl.guard_cases rfl ?_ ?_ <;> intro hg <;> first | (exfalso; simp only [decide_eq_true_eq, decide_eq_false_iff_not, Bool.not_false, Bool.not_true, beq_iff_eq, beq_eq_false_iff_ne, ne_eq] at hg; omega) | (simp only [hg, Bool.not_true, Bool.not_false]))) <;> (try simp only [List.set_cons_succ, List.set_cons_zero, vOf_true, vOf_false, List.drop_succ_cons, List.drop_zero, List.take_succ_cons, List.take_zero, putD, Int.toNat_zero, Int.reduceToNat, Nat.mul_one, Nat.zero_add, Nat.add_zero, Nat.reduceMul, Nat.reduceAdd, Nat.zero_mul, Int.reduceSub, Int.reduceAdd, Int.reduceMul, Int.reduceNeg, Bool.not_true, Bool.not_false]))
           | ((fail_if_success (go_big_may)); (first | go_skip | go_guarded | go_step))
           | ((first
                | (with_reducible refine Sl.k_load ?_; (first
                  | refine s_qt hst (qt_load rfl _ BoxIn.h inX rfl rfl) ?_
                  | (refine s_ex hst (qt_ldp_int evX asX inX) ?_; rintro v ⟨rfl, hI⟩)
                  | refine s_qt hst (by first | exact qt_ldp_u8 evX asX inX | exact qt_ldp_bool evX asX inX) ?_
                  | (refine s_ex hst (qt_ldp_str evX asX inX) ?_; rintro v ⟨rfl, hs⟩)
                  | (refine s_ex hst (qt_ldp_list evX asX inX) ?_; rintro v ⟨hvl, hv1⟩)
                  | (refine s_ex hst (qt_ldp evX asX inX) ?_; rintro v ⟨cl, rfl, hcl⟩)
                  | refine s_qt hst (by first | exact qt_ldB evX asX SlIn.h inX omX | exact qt_ldI evX asX SlIn.h inX omX | exact qt_ld2 evX asX SlIn.h inX omX | exact qt_load_own evX asX SlIn.h inX rfl (by simp <;> omega) | exact qt_load rfl _ asX inX rfl rfl) ?_))
                | (with_reducible refine Sl.k_field ?_; (first
                  | refine s_qt hst (qt_field rfl inX) ?_
                  | (refine s_ex hst (qt_fieldp evX asX inX inX rfl) ?_; rintro v hp; (try simp only [Int.toNat_natCast, Int.toNat_natCast_add_one, Int.reduceToNat] at hp))
                  | (refine s_ex hst (qt_field_own evX asX inX) ?_; rintro v hp; (try simp only [Int.toNat_natCast, Int.toNat_natCast_add_one, Int.reduceToNat] at hp))))
                | (with_reducible refine Sl.k_index ?_; (first
                  | refine s_qt hst (qt_indexA rfl rfl inX inX omX omX) ?_
                  | (refine s_ex hst (qt_indexP0 evX asX rfl inX inX) ?_; rintro v hp; (try simp only [Int.toNat_natCast, Int.toNat_natCast_add_one, Int.reduceToNat] at hp))
                  | (refine s_ex hst (qt_indexP1 evX asX rfl inX inX) ?_; rintro v hp; (try simp only [Int.toNat_natCast, Int.toNat_natCast_add_one, Int.reduceToNat] at hp))
                  | (refine s_ex hst (qt_index evX asX rfl inX inX omX omX) ?_; rintro v hp; (try simp only [Int.toNat_natCast, Int.toNat_natCast_add_one, Int.reduceToNat] at hp))
                  | (refine s_ex hst (qt_indexAp evX asX rfl inX inX rfl omX omX) ?_; rintro v hp; (try simp only [Int.toNat_natCast, Int.toNat_natCast_add_one, Int.reduceToNat] at hp))
                  | (refine s_ex hst (qt_index_own hst evX SlIn.h rfl inX inX omX omX) ?_; rintro v hp; (try simp only [Int.toNat_natCast, Int.toNat_natCast_add_one, Int.reduceToNat] at hp))))
                | (with_reducible refine Sl.k_call ?_; (first
                  | refine s_qt hst (by first | exact qt_len evX asX inX | exact qt_len_str evX inX | exact qt_len_own evX SlIn.h inX | exact qt_max rfl rfl | exact qt_min rfl rfl) ?_))); simp only [List.set_cons_succ, List.set_cons_zero, vOf_true, vOf_false, List.drop_succ_cons, List.drop_zero, List.take_succ_cons, List.take_zero, putD, Int.toNat_zero, Int.reduceToNat, Nat.mul_one, Nat.zero_add, Nat.add_zero, Nat.reduceMul, Nat.reduceAdd, Nat.zero_mul, Int.reduceSub, Int.reduceAdd, Int.reduceMul, Int.reduceNeg, Bool.not_true, Bool.not_false])
           | (with_reducible refine Sl.gate rfl ?_; (first | go_skip | go_guarded | go_step))
           | ((first | (with_reducible refine Sl.k_store ?_; (first
                  | refine s_stR hst rfl BoxIn.h evX asX inX rfl rfl ?_
                  | refine s_store hst rfl _ BoxIn.h inX evX rfl lenOk oneOk (by simp) ?_
                  | refine s_st1 hst rfl BoxIn.h evX asX inX (by simp) ?_
                  | refine s_stB hst evX asX SlIn.h inX evX omX ?_
                  | refine s_stI hst evX asX SlIn.h inX evX omX ?_
                  | refine s_st2 hst evX asX SlIn.h inX evX omX ?_); clear hst; intro w hst) | (refine s_box hst evX rfl ?_; clear hst; intro bx w hst) | (refine s_alloc hst inX ?_; clear hst; intro bk w hst)); (try simp only [List.set_cons_succ, List.set_cons_zero, vOf_true, vOf_false, List.drop_succ_cons, List.drop_zero, List.take_succ_cons, List.take_zero, putD, Int.toNat_zero, Int.reduceToNat, Nat.mul_one, Nat.zero_add, Nat.add_zero, Nat.reduceMul, Nat.reduceAdd, Nat.zero_mul, Int.reduceSub, Int.reduceAdd, Int.reduceMul, Int.reduceNeg, Bool.not_true, Bool.not_false]); (try simp only [List.set_cons_succ, List.set_cons_zero, List.drop_succ_cons, List.drop_zero, List.take_succ_cons, List.take_zero, List.nil_append, List.cons_append, List.append_nil, Value.cells, List.eraseIdx_cons_zero, List.eraseIdx_cons_succ, Nat.zero_add, Nat.add_zero, List.flatten_cons, List.flatten_nil, List.map_cons, List.map_nil] at hst)))
        rw [Exit.noGoto_ret]
        go_ret
        refine ⟨_, rfl, ?_⟩
        obtain ⟨_, hx2, _⟩ := hx.out
        obtain ⟨k', rfl⟩ : ∃ k', gk = k' + 1 := ⟨gk - 1, by omega⟩
        rw [encF_one hlt] at hx2
        rw [← hx2, u8s_snoc, List.length_append, u8_small hlt]
        exact hst
      · repeat' (first
           | go_skip
           | (with_reducible refine Sl.k_guard ?_; (first | (refine Sl.guard_yes rfl ?_) | (refine Sl.guard_no rfl ?_) | (refine Sl.guard_cases rfl ?_ ?_ <;> intro hg <;> first | (exfalso; simp only [decide_eq_true_eq, decide_eq_false_iff_not, Bool.not_false, Bool.not_true, beq_iff_eq, beq_eq_false_iff_ne, ne_eq] at hg; omega) | (simp only [hg, Bool.not_true, Bool.not_false]))) <;> (try simp only [List.set_cons_succ, List.set_cons_zero, vOf_true, vOf_false, List.drop_succ_cons, List.drop_zero, List.take_succ_cons, List.take_zero, putD, Int.toNat_zero, Int.reduceToNat, Nat.mul_one, Nat.zero_add, Nat.add_zero, Nat.reduceMul, Nat.reduceAdd, Nat.zero_mul, Int.reduceSub, Int.reduceAdd, Int.reduceMul, Int.reduceNeg, Bool.not_true, Bool.not_false]))
           | ((fail_if_success (go_big_may)); (first | go_skip | go_guarded | go_step))
           | ((first
                | (with_reducible refine Sl.k_load ?_; (first
                  | refine s_qt hst (qt_load rfl _ BoxIn.h inX rfl rfl) ?_
                  | (refine s_ex hst (qt_ldp_int evX asX inX) ?_; rintro v ⟨rfl, hI⟩)
                  | refine s_qt hst (by first | exact qt_ldp_u8 evX asX inX | exact qt_ldp_bool evX asX inX) ?_
                  | (refine s_ex hst (qt_ldp_str evX asX inX) ?_; rintro v ⟨rfl, hs⟩)
                  | (refine s_ex hst (qt_ldp_list evX asX inX) ?_; rintro v ⟨hvl, hv1⟩)
                  | (refine s_ex hst (qt_ldp evX asX inX) ?_; rintro v ⟨cl, rfl, hcl⟩)
                  | refine s_qt hst (by first | exact qt_ldB evX asX SlIn.h inX omX | exact qt_ldI evX asX SlIn.h inX omX | exact qt_ld2 evX asX SlIn.h inX omX | exact qt_load_own evX asX SlIn.h inX rfl (by simp <;> omega) | exact qt_load rfl _ asX inX rfl rfl) ?_))
                | (with_reducible refine Sl.k_field ?_; (first
                  | refine s_qt hst (qt_field rfl inX) ?_
                  | (refine s_ex hst (qt_fieldp evX asX inX inX rfl) ?_; rintro v hp; (try simp only [Int.toNat_natCast, Int.toNat_natCast_add_one, Int.reduceToNat] at hp))
                  | (refine s_ex hst (qt_field_own evX asX inX) ?_; rintro v hp; (try simp only [Int.toNat_natCast, Int.toNat_natCast_add_one, Int.reduceToNat] at hp))))
                | (with_reducible refine Sl.k_index ?_; (first
                  | refine s_qt hst (qt_indexA rfl rfl inX inX omX omX) ?_
                  | (refine s_ex hst (qt_indexP0 evX asX rfl inX inX) ?_; rintro v hp; (try simp only [Int.toNat_natCast, Int.toNat_natCast_add_one, Int.reduceToNat] at hp))
                  | (refine s_ex hst (qt_indexP1 evX asX rfl inX inX) ?_; rintro v hp; (try simp only [Int.toNat_natCast, Int.toNat_natCast_add_one, Int.reduceToNat] at hp))
                  | (refine s_ex hst (qt_index evX asX rfl inX inX omX omX) ?_; rintro v hp; (try simp only [Int.toNat_natCast, Int.toNat_natCast_add_one, Int.reduceToNat] at hp))
                  | (refine s_ex hst (qt_indexAp evX asX rfl inX inX rfl omX omX) ?_; rintro v hp; (try simp only [Int.toNat_natCast, Int.toNat_natCast_add_one, Int.reduceToNat] at hp))
                  | (refine s_ex hst (qt_index_own hst evX SlIn.h rfl inX inX omX omX) ?_; rintro v hp; (try simp only [Int.toNat_natCast, Int.toNat_natCast_add_one, Int.reduceToNat] at hp))))
                | (with_reducible refine Sl.k_call ?_; (first
                  | refine s_qt hst (by first | exact qt_len evX asX inX | exact qt_len_str evX inX | exact qt_len_own evX SlIn.h inX | exact qt_max rfl rfl | exact qt_min rfl rfl) ?_))); simp only [List.set_cons_succ, List.set_cons_zero, vOf_true, vOf_false, List.drop_succ_cons, List.drop_zero, List.take_succ_cons, List.take_zero, putD, Int.toNat_zero, Int.reduceToNat, Nat.mul_one, Nat.zero_add, Nat.add_zero, Nat.reduceMul, Nat.reduceAdd, Nat.zero_mul, Int.reduceSub, Int.reduceAdd, Int.reduceMul, Int.reduceNeg, Bool.not_true, Bool.not_false])
           | (with_reducible refine Sl.gate rfl ?_; (first | go_skip | go_guarded | go_step))
           | ((first | (with_reducible refine Sl.k_store ?_; (first
                  | refine s_stR hst rfl BoxIn.h evX asX inX rfl rfl ?_
                  | refine s_store hst rfl _ BoxIn.h inX evX rfl lenOk oneOk (by simp) ?_
                  | refine s_st1 hst rfl BoxIn.h evX asX inX (by simp) ?_
                  | refine s_stB hst evX asX SlIn.h inX evX omX ?_
                  | refine s_stI hst evX asX SlIn.h inX evX omX ?_
                  | refine s_st2 hst evX asX SlIn.h inX evX omX ?_); clear hst; intro w hst) | (refine s_box hst evX rfl ?_; clear hst; intro bx w hst) | (refine s_alloc hst inX ?_; clear hst; intro bk w hst)); (try simp only [List.set_cons_succ, List.set_cons_zero, vOf_true, vOf_false, List.drop_succ_cons, List.drop_zero, List.take_succ_cons, List.take_zero, putD, Int.toNat_zero, Int.reduceToNat, Nat.mul_one, Nat.zero_add, Nat.add_zero, Nat.reduceMul, Nat.reduceAdd, Nat.zero_mul, Int.reduceSub, Int.reduceAdd, Int.reduceMul, Int.reduceNeg, Bool.not_true, Bool.not_false]); (try simp only [List.set_cons_succ, List.set_cons_zero, List.drop_succ_cons, List.drop_zero, List.take_succ_cons, List.take_zero, List.nil_append, List.cons_append, List.append_nil, Value.cells, List.eraseIdx_cons_zero, List.eraseIdx_cons_succ, Nat.zero_add, Nat.add_zero, List.flatten_cons, List.flatten_nil, List.map_cons, List.map_nil] at hst)))
        refine s_lit (vs := [.int .u8 (bits .or .u8 ((x : Int) % 256) 128)]) hst inX inX rfl rfl (by simp [Value.cells]) rfl (by omega) (by omega) ?_
        clear hst; intro u w hst
        simp only [List.set_cons_succ, List.set_cons_zero, vOf_true, vOf_false, List.drop_succ_cons, List.drop_zero, List.take_succ_cons, List.take_zero, putD, Int.toNat_zero, Int.reduceToNat, Nat.mul_one, Nat.zero_add, Nat.add_zero, Nat.reduceMul, Nat.reduceAdd, Nat.zero_mul, Int.reduceSub, Int.reduceAdd, Int.reduceMul, Int.reduceNeg, Bool.not_true, Bool.not_false]
        repeat' (first
           | go_skip
           | (with_reducible refine Sl.k_guard ?_; (first | (refine Sl.guard_yes rfl ?_) | (refine Sl.guard_no rfl ?_) | (refine Sl.guard_cases rfl ?_ ?_ <;> intro hg <;> first | (exfalso; simp only [decide_eq_true_eq, decide_eq_false_iff_not, Bool.not_false, Bool.not_true, beq_iff_eq, beq_eq_false_iff_ne, ne_eq] at hg; omega) | (simp only [hg, Bool.not_true, Bool.not_false]))) <;> (try simp only [List.set_cons_succ, List.set_cons_zero, vOf_true, vOf_false, List.drop_succ_cons, List.drop_zero, List.take_succ_cons, List.take_zero, putD, Int.toNat_zero, Int.reduceToNat, Nat.mul_one, Nat.zero_add, Nat.add_zero, Nat.reduceMul, Nat.reduceAdd, Nat.zero_mul, Int.reduceSub, Int.reduceAdd, Int.reduceMul, Int.reduceNeg, Bool.not_true, Bool.not_false]))
           | ((fail_if_success (go_big_may)); (first | go_skip | go_guarded | go_step))
           | ((first
                | (with_reducible refine Sl.k_load ?_; (first
                  | refine s_qt hst (qt_load rfl _ BoxIn.h inX rfl rfl) ?_
                  | (refine s_ex hst (qt_ldp_int evX asX inX) ?_; rintro v ⟨rfl, hI⟩)
                  | refine s_qt hst (by first | exact qt_ldp_u8 evX asX inX | exact qt_ldp_bool evX asX inX) ?_
                  | (refine s_ex hst (qt_ldp_str evX asX inX) ?_; rintro v ⟨rfl, hs⟩)
                  | (refine s_ex hst (qt_ldp_list evX asX inX) ?_; rintro v ⟨hvl, hv1⟩)
                  | (refine s_ex hst (qt_ldp evX asX inX) ?_; rintro v ⟨cl, rfl, hcl⟩)
                  | refine s_qt hst (by first | exact qt_ldB evX asX SlIn.h inX omX | exact qt_ldI evX asX SlIn.h inX omX | exact qt_ld2 evX asX SlIn.h inX omX | exact qt_load_own evX asX SlIn.h inX rfl (by simp <;> omega) | exact qt_load rfl _ asX inX rfl rfl) ?_))
                | (with_reducible refine Sl.k_field ?_; (first
                  | refine s_qt hst (qt_field rfl inX) ?_
                  | (refine s_ex hst (qt_fieldp evX asX inX inX rfl) ?_; rintro v hp; (try simp only [Int.toNat_natCast, Int.toNat_natCast_add_one, Int.reduceToNat] at hp))
                  | (refine s_ex hst (qt_field_own evX asX inX) ?_; rintro v hp; (try simp only [Int.toNat_natCast, Int.toNat_natCast_add_one, Int.reduceToNat] at hp))))
                | (with_reducible refine Sl.k_index ?_; (first
                  | refine s_qt hst (qt_indexA rfl rfl inX inX omX omX) ?_
                  | (refine s_ex hst (qt_indexP0 evX asX rfl inX inX) ?_; rintro v hp; (try simp only [Int.toNat_natCast, Int.toNat_natCast_add_one, Int.reduceToNat] at hp))
                  | (refine s_ex hst (qt_indexP1 evX asX rfl inX inX) ?_; rintro v hp; (try simp only [Int.toNat_natCast, Int.toNat_natCast_add_one, Int.reduceToNat] at hp))
                  | (refine s_ex hst (qt_index evX asX rfl inX inX omX omX) ?_; rintro v hp; (try simp only [Int.toNat_natCast, Int.toNat_natCast_add_one, Int.reduceToNat] at hp))
                  | (refine s_ex hst (qt_indexAp evX asX rfl inX inX rfl omX omX) ?_; rintro v hp; (try simp only [Int.toNat_natCast, Int.toNat_natCast_add_one, Int.reduceToNat] at hp))
                  | (refine s_ex hst (qt_index_own hst evX SlIn.h rfl inX inX omX omX) ?_; rintro v hp; (try simp only [Int.toNat_natCast, Int.toNat_natCast_add_one, Int.reduceToNat] at hp))))
                | (with_reducible refine Sl.k_call ?_; (first
                  | refine s_qt hst (by first | exact qt_len evX asX inX | exact qt_len_str evX inX | exact qt_len_own evX SlIn.h inX | exact qt_max rfl rfl | exact qt_min rfl rfl) ?_))); simp only [List.set_cons_succ, List.set_cons_zero, vOf_true, vOf_false, List.drop_succ_cons, List.drop_zero, List.take_succ_cons, List.take_zero, putD, Int.toNat_zero, Int.reduceToNat, Nat.mul_one, Nat.zero_add, Nat.add_zero, Nat.reduceMul, Nat.reduceAdd, Nat.zero_mul, Int.reduceSub, Int.reduceAdd, Int.reduceMul, Int.reduceNeg, Bool.not_true, Bool.not_false])
           | (with_reducible refine Sl.gate rfl ?_; (first | go_skip | go_guarded | go_step))
           | ((first | (with_reducible refine Sl.k_store ?_; (first
                  | refine s_stR hst rfl BoxIn.h evX asX inX rfl rfl ?_
                  | refine s_store hst rfl _ BoxIn.h inX evX rfl lenOk oneOk (by simp) ?_
                  | refine s_st1 hst rfl BoxIn.h evX asX inX (by simp) ?_
                  | refine s_stB hst evX asX SlIn.h inX evX omX ?_
                  | refine s_stI hst evX asX SlIn.h inX evX omX ?_
                  | refine s_st2 hst evX asX SlIn.h inX evX omX ?_); clear hst; intro w hst) | (refine s_box hst evX rfl ?_; clear hst; intro bx w hst) | (refine s_alloc hst inX ?_; clear hst; intro bk w hst)); (try simp only [List.set_cons_succ, List.set_cons_zero, vOf_true, vOf_false, List.drop_succ_cons, List.drop_zero, List.take_succ_cons, List.take_zero, putD, Int.toNat_zero, Int.reduceToNat, Nat.mul_one, Nat.zero_add, Nat.add_zero, Nat.reduceMul, Nat.reduceAdd, Nat.zero_mul, Int.reduceSub, Int.reduceAdd, Int.reduceMul, Int.reduceNeg, Bool.not_true, Bool.not_false]); (try simp only [List.set_cons_succ, List.set_cons_zero, List.drop_succ_cons, List.drop_zero, List.take_succ_cons, List.take_zero, List.nil_append, List.cons_append, List.append_nil, Value.cells, List.eraseIdx_cons_zero, List.eraseIdx_cons_succ, Nat.zero_add, Nat.add_zero, List.flatten_cons, List.flatten_nil, List.map_cons, List.map_nil] at hst)))
        refine s_append (j := 0) hst evX evX SlIn.h rfl inX inX inX (by simp [Value.cells, Value.oneCell']) (by omega) (by omega) (by decide) ?_
        clear hst; intro v' w hst
        simp only [List.set_cons_succ, List.set_cons_zero, vOf_true, vOf_false, List.drop_succ_cons, List.drop_zero, List.take_succ_cons, List.take_zero, putD, Int.toNat_zero, Int.reduceToNat, Nat.mul_one, Nat.zero_add, Nat.add_zero, Nat.reduceMul, Nat.reduceAdd, Nat.zero_mul, Int.reduceSub, Int.reduceAdd, Int.reduceMul, Int.reduceNeg, Bool.not_true, Bool.not_false]
        (try simp only [List.set_cons_succ, List.set_cons_zero, List.drop_succ_cons, List.drop_zero, List.take_succ_cons, List.take_zero, List.nil_append, List.cons_append, List.append_nil, Value.cells, List.eraseIdx_cons_zero, List.eraseIdx_cons_succ, Nat.zero_add, Nat.add_zero, List.flatten_cons, List.flatten_nil, List.map_cons, List.map_nil] at hst)
        replace hst := hst.drop
        repeat' (first
           | go_skip
           | (with_reducible refine Sl.k_guard ?_; (first | (refine Sl.guard_yes rfl ?_) | (refine Sl.guard_no rfl ?_) | (refine Sl.guard_cases rfl ?_ ?_ <;> intro hg <;> first | (exfalso; simp only [decide_eq_true_eq, decide_eq_false_iff_not, Bool.not_false, Bool.not_true, beq_iff_eq, beq_eq_false_iff_ne, ne_eq] at hg; omega) | (simp only [hg, Bool.not_true, Bool.not_false]))) <;> (try simp only [List.set_cons_succ, List.set_cons_zero, vOf_true, vOf_false, List.drop_succ_cons, List.drop_zero, List.take_succ_cons, List.take_zero, putD, Int.toNat_zero, Int.reduceToNat, Nat.mul_one, Nat.zero_add, Nat.add_zero, Nat.reduceMul, Nat.reduceAdd, Nat.zero_mul, Int.reduceSub, Int.reduceAdd, Int.reduceMul, Int.reduceNeg, Bool.not_true, Bool.not_false]))
           | ((fail_if_success (go_big_may)); (first | go_skip | go_guarded | go_step))
           | ((first
                | (with_reducible refine Sl.k_load ?_; (first
                  | refine s_qt hst (qt_load rfl _ BoxIn.h inX rfl rfl) ?_
                  | (refine s_ex hst (qt_ldp_int evX asX inX) ?_; rintro v ⟨rfl, hI⟩)
                  | refine s_qt hst (by first | exact qt_ldp_u8 evX asX inX | exact qt_ldp_bool evX asX inX) ?_
                  | (refine s_ex hst (qt_ldp_str evX asX inX) ?_; rintro v ⟨rfl, hs⟩)
                  | (refine s_ex hst (qt_ldp_list evX asX inX) ?_; rintro v ⟨hvl, hv1⟩)
                  | (refine s_ex hst (qt_ldp evX asX inX) ?_; rintro v ⟨cl, rfl, hcl⟩)
                  | refine s_qt hst (by first | exact qt_ldB evX asX SlIn.h inX omX | exact qt_ldI evX asX SlIn.h inX omX | exact qt_ld2 evX asX SlIn.h inX omX | exact qt_load_own evX asX SlIn.h inX rfl (by simp <;> omega) | exact qt_load rfl _ asX inX rfl rfl) ?_))
                | (with_reducible refine Sl.k_field ?_; (first
                  | refine s_qt hst (qt_field rfl inX) ?_
                  | (refine s_ex hst (qt_fieldp evX asX inX inX rfl) ?_; rintro v hp; (try simp only [Int.toNat_natCast, Int.toNat_natCast_add_one, Int.reduceToNat] at hp))
                  | (refine s_ex hst (qt_field_own evX asX inX) ?_; rintro v hp; (try simp only [Int.toNat_natCast, Int.toNat_natCast_add_one, Int.reduceToNat] at hp))))
                | (with_reducible refine Sl.k_index ?_; (first
                  | refine s_qt hst (qt_indexA rfl rfl inX inX omX omX) ?_
                  | (refine s_ex hst (qt_indexP0 evX asX rfl inX inX) ?_; rintro v hp; (try simp only [Int.toNat_natCast, Int.toNat_natCast_add_one, Int.reduceToNat] at hp))
                  | (refine s_ex hst (qt_indexP1 evX asX rfl inX inX) ?_; rintro v hp; (try simp only [Int.toNat_natCast, Int.toNat_natCast_add_one, Int.reduceToNat] at hp))
                  | (refine s_ex hst (qt_index evX asX rfl inX inX omX omX) ?_; rintro v hp; (try simp only [Int.toNat_natCast, Int.toNat_natCast_add_one, Int.reduceToNat] at hp))
                  | (refine s_ex hst (qt_indexAp evX asX rfl inX inX rfl omX omX) ?_; rintro v hp; (try simp only [Int.toNat_natCast, Int.toNat_natCast_add_one, Int.reduceToNat] at hp))
                  | (refine s_ex hst (qt_index_own hst evX SlIn.h rfl inX inX omX omX) ?_; rintro v hp; (try simp only [Int.toNat_natCast, Int.toNat_natCast_add_one, Int.reduceToNat] at hp))))
                | (with_reducible refine Sl.k_call ?_; (first
                  | refine s_qt hst (by first | exact qt_len evX asX inX | exact qt_len_str evX inX | exact qt_len_own evX SlIn.h inX | exact qt_max rfl rfl | exact qt_min rfl rfl) ?_))); simp only [List.set_cons_succ, List.set_cons_zero, vOf_true, vOf_false, List.drop_succ_cons, List.drop_zero, List.take_succ_cons, List.take_zero, putD, Int.toNat_zero, Int.reduceToNat, Nat.mul_one, Nat.zero_add, Nat.add_zero, Nat.reduceMul, Nat.reduceAdd, Nat.zero_mul, Int.reduceSub, Int.reduceAdd, Int.reduceMul, Int.reduceNeg, Bool.not_true, Bool.not_false])
           | (with_reducible refine Sl.gate rfl ?_; (first | go_skip | go_guarded | go_step))
           | ((first | (with_reducible refine Sl.k_store ?_; (first
                  | refine s_stR hst rfl BoxIn.h evX asX inX rfl rfl ?_
                  | refine s_store hst rfl _ BoxIn.h inX evX rfl lenOk oneOk (by simp) ?_
                  | refine s_st1 hst rfl BoxIn.h evX asX inX (by simp) ?_
                  | refine s_stB hst evX asX SlIn.h inX evX omX ?_
                  | refine s_stI hst evX asX SlIn.h inX evX omX ?_
                  | refine s_st2 hst evX asX SlIn.h inX evX omX ?_); clear hst; intro w hst) | (refine s_box hst evX rfl ?_; clear hst; intro bx w hst) | (refine s_alloc hst inX ?_; clear hst; intro bk w hst)); (try simp only [List.set_cons_succ, List.set_cons_zero, vOf_true, vOf_false, List.drop_succ_cons, List.drop_zero, List.take_succ_cons, List.take_zero, putD, Int.toNat_zero, Int.reduceToNat, Nat.mul_one, Nat.zero_add, Nat.add_zero, Nat.reduceMul, Nat.reduceAdd, Nat.zero_mul, Int.reduceSub, Int.reduceAdd, Int.reduceMul, Int.reduceNeg, Bool.not_true, Bool.not_false]); (try simp only [List.set_cons_succ, List.set_cons_zero, List.drop_succ_cons, List.drop_zero, List.take_succ_cons, List.take_zero, List.nil_append, List.cons_append, List.append_nil, Value.cells, List.eraseIdx_cons_zero, List.eraseIdx_cons_succ, Nat.zero_add, Nat.add_zero, List.flatten_cons, List.flatten_nil, List.map_cons, List.map_nil] at hst)))
        obtain ⟨hx1, hx2, hx3⟩ := hx.out
        obtain ⟨k', rfl⟩ : ∃ k', gk = k' + 1 := ⟨gk - 1, by omega⟩
        rw [encF_more hlt] at hx2
        go_roundg k'
        case measure => omega
        case rel =>
          refine ⟨x / 128, xs ++ [UInt8.ofNat (128 + x % 128)], by rw [Int.natCast_ediv]; rfl, ?_, ⟨Nat.div_lt_of_lt_mul (by rw [← Nat.pow_succ']; exact hx1), by rw [← hx2]; simp, by simp; omega⟩, ?_⟩
          · rcases Nat.eq_zero_or_pos k' with e | e
            · subst e; simp at hx1; omega
            · exact e
          · rw [u8s_snoc, List.length_append, ← or_byte]
            exact hst
end Go.Proofs.Ytncffjdmcalioaa
