/- Package slot: the transitions. -/
import Derived.Test.YtncffjdmcalioaaSc
--@idxv
--@hgp
namespace Go.Proofs.Ytncffjdmcalioaa
set_option linter.unusedSimpArgs false
set_option linter.unusedVariables false
open Go.RowKit Go.Sl

def clearM (x y : Sx) (i : Int) : Sx × Sx × Int := ap x y i repl (fun _ => ⟨0, 0, 0⟩)
def stageM (x y : Sx) (i n : Int) : Sx × Sx × Int := if n < 1 ∨ 16 < n then (x, y, 1) else ap x y i repl (fun _ => ⟨1, n, 0⟩)
def beginM (x y : Sx) (i : Int) : Sx × Sx × Int := ap x y i (fun p _ => pend p) (fun p => ⟨2, p.v, p.t + 1⟩)
def confM (x y : Sx) (i : Int) : Sx × Sx × Int := ap x y i (fun p _ => p.s == 2 || conf p) (fun p => ⟨3, p.v, 0⟩)
def failM (x y : Sx) (i : Int) : Sx × Sx × Int := ap x y i (fun p _ => p.s != 0 && p.s != 4) (fun p => ⟨4, p.v, p.t⟩)

set_option maxRecDepth 8000 in
set_option maxHeartbeats 400000 in
theorem clear1_c {S M} (w : World) (hst : St S M w) (p : Sx) :
    Rets Try.prog 35 [slV p] w fun v w' => v = slV ⟨0, 0, 0⟩ ∧ St S M w' := by
  unfold Rets
  go_enter Try.func35, Try.ntmps35
  repeat' (first
     | go_skip
     | (with_reducible refine Sl.k_guard ?_; (first | (refine Sl.guard_yes rfl ?_) | (refine Sl.guard_no rfl ?_) | (refine Sl.guard_cases rfl ?_ ?_ <;> intro hg <;> first | (exfalso; simp only [decide_eq_true_eq, decide_eq_false_iff_not, Bool.not_false, Bool.not_true, beq_iff_eq, beq_eq_false_iff_ne, ne_eq] at hg; omega) | (simp only [hg, Bool.not_true, Bool.not_false])) <;> (try simp only [decide_eq_true_eq, decide_eq_false_iff_not, Bool.not_false, Bool.not_true, beq_iff_eq, beq_eq_false_iff_ne, bne_iff_ne, bne_eq_false_iff_eq, ne_eq] at hg)) <;> (try simp only [List.set_cons_succ, List.set_cons_zero, vOf_true, vOf_false, List.drop_succ_cons, List.drop_zero, List.take_succ_cons, List.take_zero, putD, Int.toNat_zero, Int.reduceToNat, Nat.mul_one, Nat.zero_add, Nat.add_zero, Nat.reduceMul, Nat.reduceAdd, Nat.zero_mul, Int.reduceSub, Int.reduceAdd, Int.reduceMul, Int.reduceNeg, Bool.not_true, Bool.not_false]))
     | (with_reducible refine Sl.k_indexV ?_; (first | refine s_qt hst (by first | exact qt_indexV evX evX inX inX omX omX rfl rfl | exact qt_indexS evX evX StrT.u omX omX) ?_); (try simp only [List.set_cons_succ, List.set_cons_zero, vOf_true, vOf_false, List.drop_succ_cons, List.drop_zero, List.take_succ_cons, List.take_zero, putD, Int.toNat_zero, Int.reduceToNat, Nat.mul_one, Nat.zero_add, Nat.add_zero, Nat.reduceMul, Nat.reduceAdd, Nat.zero_mul, Int.reduceSub, Int.reduceAdd, Int.reduceMul, Int.reduceNeg, Bool.not_true, Bool.not_false]))
     | ((fail_if_success (go_big_may)); (first | go_skip | go_guarded | go_step))
     | ((first
          | (with_reducible refine Sl.k_load ?_; (first
            | refine s_qt hst (qt_load rfl _ BoxIn.h inX rfl rfl) ?_
            | (refine s_ex hst (qt_ldp_int evX asX inX) ?_; rintro v ⟨rfl, hI⟩)
            | refine s_qt hst (by first | exact qt_ldp_u8 evX asX inX | exact qt_ldp_bool evX asX inX) ?_
            | (refine s_ex hst (qt_ldp_str evX asX inX) ?_; rintro v ⟨rfl, hs⟩)
            | (refine s_ex hst (qt_ldp_list evX asX inX) ?_; rintro v ⟨hvl, hv1⟩)
            | (refine s_ex hst (qt_ldp evX asX inX) ?_; rintro v ⟨cl, rfl, hcl⟩)
            | refine s_qt hst (by first | exact qt_ldB evX asX SlIn.h inX omX | exact qt_ldI evX asX SlIn.h inX omX | exact qt_ld2 evX asX SlIn.h inX omX | exact qt_load_own evX asX SlIn.h inX rfl (by simp <;> omega) | exact qt_load rfl _ asX inX rfl rfl) ?_))
          | (with_reducible refine Sl.k_field ?_; (first
            | refine s_qt hst (qt_field rfl inX) ?_
            | (refine s_ex hst (qt_fieldp evX asX inX inX rfl) ?_; rintro v hp; (try simp only [Int.toNat_natCast, Int.toNat_natCast_add_one, Int.reduceToNat] at hp))
            | (refine s_ex hst (qt_field_own evX asX inX) ?_; rintro v hp; (try simp only [Int.toNat_natCast, Int.toNat_natCast_add_one, Int.reduceToNat] at hp))))
          | (with_reducible refine Sl.k_index ?_; (first
            | refine s_qt hst (qt_indexA rfl rfl inX inX omX omX) ?_
            | (refine s_ex hst (qt_indexP0 evX asX rfl inX inX) ?_; rintro v hp; (try simp only [Int.toNat_natCast, Int.toNat_natCast_add_one, Int.reduceToNat] at hp))
            | (refine s_ex hst (qt_indexP1 evX asX rfl inX inX) ?_; rintro v hp; (try simp only [Int.toNat_natCast, Int.toNat_natCast_add_one, Int.reduceToNat] at hp))
            | (refine s_ex hst (qt_index evX asX rfl inX inX omX omX) ?_; rintro v hp; (try simp only [Int.toNat_natCast, Int.toNat_natCast_add_one, Int.reduceToNat] at hp))
            | (refine s_ex hst (qt_indexAp evX asX rfl inX inX rfl omX omX) ?_; rintro v hp; (try simp only [Int.toNat_natCast, Int.toNat_natCast_add_one, Int.reduceToNat] at hp))
            | (refine s_ex hst (qt_index_own hst evX SlIn.h rfl inX inX omX omX) ?_; rintro v hp; (try simp only [Int.toNat_natCast, Int.toNat_natCast_add_one, Int.reduceToNat] at hp))))
          | (with_reducible refine Sl.k_call ?_; (first
            | refine s_qt hst (by first | exact qt_len evX asX inX | exact qt_len_str evX inX | exact qt_len_own evX SlIn.h inX | exact qt_max rfl rfl | exact qt_min rfl rfl) ?_))); simp only [List.set_cons_succ, List.set_cons_zero, vOf_true, vOf_false, List.drop_succ_cons, List.drop_zero, List.take_succ_cons, List.take_zero, putD, Int.toNat_zero, Int.reduceToNat, Nat.mul_one, Nat.zero_add, Nat.add_zero, Nat.reduceMul, Nat.reduceAdd, Nat.zero_mul, Int.reduceSub, Int.reduceAdd, Int.reduceMul, Int.reduceNeg, Bool.not_true, Bool.not_false])
     | (with_reducible refine Sl.gate rfl ?_; (first | go_skip | go_guarded | go_step))
     | ((first | (with_reducible refine Sl.k_store ?_; (first
            | refine s_stR hst rfl BoxIn.h evX asX inX rfl rfl ?_
            | refine s_store hst rfl _ BoxIn.h inX evX rfl lenOk oneOk (by simp) ?_
            | refine s_st1 hst rfl BoxIn.h evX asX inX (by simp) ?_
            | refine s_stB hst evX asX SlIn.h inX evX omX ?_
            | refine s_stI hst evX asX SlIn.h inX evX omX ?_
            | refine s_st2 hst evX asX SlIn.h inX evX omX ?_); clear hst; intro w hst) | (refine s_box hst evX rfl ?_; clear hst; intro bx w hst) | (refine s_alloc hst inX ?_; clear hst; intro bk w hst)); (try simp only [List.set_cons_succ, List.set_cons_zero, vOf_true, vOf_false, List.drop_succ_cons, List.drop_zero, List.take_succ_cons, List.take_zero, putD, Int.toNat_zero, Int.reduceToNat, Nat.mul_one, Nat.zero_add, Nat.add_zero, Nat.reduceMul, Nat.reduceAdd, Nat.zero_mul, Int.reduceSub, Int.reduceAdd, Int.reduceMul, Int.reduceNeg, Bool.not_true, Bool.not_false]); (try simp only [List.set_cons_succ, List.set_cons_zero, List.drop_succ_cons, List.drop_zero, List.take_succ_cons, List.take_zero, List.nil_append, List.cons_append, List.append_nil, Value.cells, List.eraseIdx_cons_zero, List.eraseIdx_cons_succ, Nat.zero_add, Nat.add_zero, List.flatten_cons, List.flatten_nil, List.map_cons, List.map_nil] at hst)))
  refine ret_one rfl (rv_cell hst rfl _ BoxIn.h inX rfl rfl) ?_; (try simp only [nth, List.drop_zero, List.drop_succ_cons, List.take_succ_cons, List.take_zero, vOf_true, vOf_false])
  exact ⟨_, rfl, rfl, (by first | exact hst | exact hst.drop | exact hst.drop.drop | exact hst.drop.drop.drop | exact hst.drop.drop.drop.drop | exact hst.drop.drop.drop.drop.drop | exact hst.drop.drop.drop.drop.drop.drop | exact hst.drop.drop.drop.drop.drop.drop.drop | exact hst.drop.drop.drop.drop.drop.drop.drop.drop | exact hst.drop.drop.drop.drop.drop.drop.drop.drop.drop | exact hst.drop.drop.drop.drop.drop.drop.drop.drop.drop.drop | exact hst.drop.drop.drop.drop.drop.drop.drop.drop.drop.drop.drop | exact hst.drop.drop.drop.drop.drop.drop.drop.drop.drop.drop.drop.drop | exact hst.drop.drop.drop.drop.drop.drop.drop.drop.drop.drop.drop.drop.drop)⟩

set_option maxRecDepth 8000 in
set_option maxHeartbeats 400000 in
theorem stage1_c {S M} (w : World) (p : Sx) (b k : Nat) (n : Int) (M' : List Chunk) (hb : BoxIn M b k [.int .i64 n] 3) (hs : Suf M M') (hst : St S M' w) :
    Rets Try.prog 38 [slV p, .pointer (some ⟨b, 0, none⟩)] w fun v w' => v = slV ⟨1, n, 0⟩ ∧ St S M' w' := by
  obtain ⟨k, hk⟩ := hs.boxIn hb
  unfold Rets
  go_enter Try.func38, Try.ntmps38
  repeat' (first
     | go_skip
     | (with_reducible refine Sl.k_guard ?_; (first | (refine Sl.guard_yes rfl ?_) | (refine Sl.guard_no rfl ?_) | (refine Sl.guard_cases rfl ?_ ?_ <;> intro hg <;> first | (exfalso; simp only [decide_eq_true_eq, decide_eq_false_iff_not, Bool.not_false, Bool.not_true, beq_iff_eq, beq_eq_false_iff_ne, ne_eq] at hg; omega) | (simp only [hg, Bool.not_true, Bool.not_false])) <;> (try simp only [decide_eq_true_eq, decide_eq_false_iff_not, Bool.not_false, Bool.not_true, beq_iff_eq, beq_eq_false_iff_ne, bne_iff_ne, bne_eq_false_iff_eq, ne_eq] at hg)) <;> (try simp only [List.set_cons_succ, List.set_cons_zero, vOf_true, vOf_false, List.drop_succ_cons, List.drop_zero, List.take_succ_cons, List.take_zero, putD, Int.toNat_zero, Int.reduceToNat, Nat.mul_one, Nat.zero_add, Nat.add_zero, Nat.reduceMul, Nat.reduceAdd, Nat.zero_mul, Int.reduceSub, Int.reduceAdd, Int.reduceMul, Int.reduceNeg, Bool.not_true, Bool.not_false]))
     | (with_reducible refine Sl.k_indexV ?_; (first | refine s_qt hst (by first | exact qt_indexV evX evX inX inX omX omX rfl rfl | exact qt_indexS evX evX StrT.u omX omX) ?_); (try simp only [List.set_cons_succ, List.set_cons_zero, vOf_true, vOf_false, List.drop_succ_cons, List.drop_zero, List.take_succ_cons, List.take_zero, putD, Int.toNat_zero, Int.reduceToNat, Nat.mul_one, Nat.zero_add, Nat.add_zero, Nat.reduceMul, Nat.reduceAdd, Nat.zero_mul, Int.reduceSub, Int.reduceAdd, Int.reduceMul, Int.reduceNeg, Bool.not_true, Bool.not_false]))
     | ((fail_if_success (go_big_may)); (first | go_skip | go_guarded | go_step))
     | ((first
          | (with_reducible refine Sl.k_load ?_; (first
            | refine s_qt hst (qt_load rfl _ BoxIn.h inX rfl rfl) ?_
            | (refine s_ex hst (qt_ldp_int evX asX inX) ?_; rintro v ⟨rfl, hI⟩)
            | refine s_qt hst (by first | exact qt_ldp_u8 evX asX inX | exact qt_ldp_bool evX asX inX) ?_
            | (refine s_ex hst (qt_ldp_str evX asX inX) ?_; rintro v ⟨rfl, hs⟩)
            | (refine s_ex hst (qt_ldp_list evX asX inX) ?_; rintro v ⟨hvl, hv1⟩)
            | (refine s_ex hst (qt_ldp evX asX inX) ?_; rintro v ⟨cl, rfl, hcl⟩)
            | refine s_qt hst (by first | exact qt_ldB evX asX SlIn.h inX omX | exact qt_ldI evX asX SlIn.h inX omX | exact qt_ld2 evX asX SlIn.h inX omX | exact qt_load_own evX asX SlIn.h inX rfl (by simp <;> omega) | exact qt_load rfl _ asX inX rfl rfl) ?_))
          | (with_reducible refine Sl.k_field ?_; (first
            | refine s_qt hst (qt_field rfl inX) ?_
            | (refine s_ex hst (qt_fieldp evX asX inX inX rfl) ?_; rintro v hp; (try simp only [Int.toNat_natCast, Int.toNat_natCast_add_one, Int.reduceToNat] at hp))
            | (refine s_ex hst (qt_field_own evX asX inX) ?_; rintro v hp; (try simp only [Int.toNat_natCast, Int.toNat_natCast_add_one, Int.reduceToNat] at hp))))
          | (with_reducible refine Sl.k_index ?_; (first
            | refine s_qt hst (qt_indexA rfl rfl inX inX omX omX) ?_
            | (refine s_ex hst (qt_indexP0 evX asX rfl inX inX) ?_; rintro v hp; (try simp only [Int.toNat_natCast, Int.toNat_natCast_add_one, Int.reduceToNat] at hp))
            | (refine s_ex hst (qt_indexP1 evX asX rfl inX inX) ?_; rintro v hp; (try simp only [Int.toNat_natCast, Int.toNat_natCast_add_one, Int.reduceToNat] at hp))
            | (refine s_ex hst (qt_index evX asX rfl inX inX omX omX) ?_; rintro v hp; (try simp only [Int.toNat_natCast, Int.toNat_natCast_add_one, Int.reduceToNat] at hp))
            | (refine s_ex hst (qt_indexAp evX asX rfl inX inX rfl omX omX) ?_; rintro v hp; (try simp only [Int.toNat_natCast, Int.toNat_natCast_add_one, Int.reduceToNat] at hp))
            | (refine s_ex hst (qt_index_own hst evX SlIn.h rfl inX inX omX omX) ?_; rintro v hp; (try simp only [Int.toNat_natCast, Int.toNat_natCast_add_one, Int.reduceToNat] at hp))))
          | (with_reducible refine Sl.k_call ?_; (first
            | refine s_qt hst (by first | exact qt_len evX asX inX | exact qt_len_str evX inX | exact qt_len_own evX SlIn.h inX | exact qt_max rfl rfl | exact qt_min rfl rfl) ?_))); simp only [List.set_cons_succ, List.set_cons_zero, vOf_true, vOf_false, List.drop_succ_cons, List.drop_zero, List.take_succ_cons, List.take_zero, putD, Int.toNat_zero, Int.reduceToNat, Nat.mul_one, Nat.zero_add, Nat.add_zero, Nat.reduceMul, Nat.reduceAdd, Nat.zero_mul, Int.reduceSub, Int.reduceAdd, Int.reduceMul, Int.reduceNeg, Bool.not_true, Bool.not_false])
     | (with_reducible refine Sl.gate rfl ?_; (first | go_skip | go_guarded | go_step))
     | ((first | (with_reducible refine Sl.k_store ?_; (first
            | refine s_stR hst rfl BoxIn.h evX asX inX rfl rfl ?_
            | refine s_store hst rfl _ BoxIn.h inX evX rfl lenOk oneOk (by simp) ?_
            | refine s_st1 hst rfl BoxIn.h evX asX inX (by simp) ?_
            | refine s_stB hst evX asX SlIn.h inX evX omX ?_
            | refine s_stI hst evX asX SlIn.h inX evX omX ?_
            | refine s_st2 hst evX asX SlIn.h inX evX omX ?_); clear hst; intro w hst) | (refine s_box hst evX rfl ?_; clear hst; intro bx w hst) | (refine s_alloc hst inX ?_; clear hst; intro bk w hst)); (try simp only [List.set_cons_succ, List.set_cons_zero, vOf_true, vOf_false, List.drop_succ_cons, List.drop_zero, List.take_succ_cons, List.take_zero, putD, Int.toNat_zero, Int.reduceToNat, Nat.mul_one, Nat.zero_add, Nat.add_zero, Nat.reduceMul, Nat.reduceAdd, Nat.zero_mul, Int.reduceSub, Int.reduceAdd, Int.reduceMul, Int.reduceNeg, Bool.not_true, Bool.not_false]); (try simp only [List.set_cons_succ, List.set_cons_zero, List.drop_succ_cons, List.drop_zero, List.take_succ_cons, List.take_zero, List.nil_append, List.cons_append, List.append_nil, Value.cells, List.eraseIdx_cons_zero, List.eraseIdx_cons_succ, Nat.zero_add, Nat.add_zero, List.flatten_cons, List.flatten_nil, List.map_cons, List.map_nil] at hst)))
  refine ret_one rfl (rv_cell hst rfl _ BoxIn.h inX rfl rfl) ?_; (try simp only [nth, List.drop_zero, List.drop_succ_cons, List.take_succ_cons, List.take_zero, vOf_true, vOf_false])
  exact ⟨_, rfl, rfl, (by first | exact hst | exact hst.drop | exact hst.drop.drop | exact hst.drop.drop.drop | exact hst.drop.drop.drop.drop | exact hst.drop.drop.drop.drop.drop | exact hst.drop.drop.drop.drop.drop.drop | exact hst.drop.drop.drop.drop.drop.drop.drop | exact hst.drop.drop.drop.drop.drop.drop.drop.drop | exact hst.drop.drop.drop.drop.drop.drop.drop.drop.drop | exact hst.drop.drop.drop.drop.drop.drop.drop.drop.drop.drop | exact hst.drop.drop.drop.drop.drop.drop.drop.drop.drop.drop.drop | exact hst.drop.drop.drop.drop.drop.drop.drop.drop.drop.drop.drop.drop | exact hst.drop.drop.drop.drop.drop.drop.drop.drop.drop.drop.drop.drop.drop)⟩

set_option maxRecDepth 8000 in
set_option maxHeartbeats 400000 in
theorem begin1_c {S M} (w : World) (hst : St S M w) (p q : Sx) :
    Rets Try.prog 39 [slV p, slV q] w fun v w' => v = .bool (pend p) ∧ St S M w' := by
  unfold Rets
  go_enter Try.func39, Try.ntmps39
  repeat' (first
     | go_skip
     | (with_reducible refine Sl.k_guard ?_; (first | (refine Sl.guard_yes rfl ?_) | (refine Sl.guard_no rfl ?_) | (refine Sl.guard_cases rfl ?_ ?_ <;> intro hg <;> first | (exfalso; simp only [decide_eq_true_eq, decide_eq_false_iff_not, Bool.not_false, Bool.not_true, beq_iff_eq, beq_eq_false_iff_ne, ne_eq] at hg; omega) | (simp only [hg, Bool.not_true, Bool.not_false])) <;> (try simp only [decide_eq_true_eq, decide_eq_false_iff_not, Bool.not_false, Bool.not_true, beq_iff_eq, beq_eq_false_iff_ne, bne_iff_ne, bne_eq_false_iff_eq, ne_eq] at hg)) <;> (try simp only [List.set_cons_succ, List.set_cons_zero, vOf_true, vOf_false, List.drop_succ_cons, List.drop_zero, List.take_succ_cons, List.take_zero, putD, Int.toNat_zero, Int.reduceToNat, Nat.mul_one, Nat.zero_add, Nat.add_zero, Nat.reduceMul, Nat.reduceAdd, Nat.zero_mul, Int.reduceSub, Int.reduceAdd, Int.reduceMul, Int.reduceNeg, Bool.not_true, Bool.not_false]))
     | (with_reducible refine Sl.k_call ?_; (first
          | (refine s_call (pending_c _ hst p) inX rfl ?_; clear hst; rintro v w ⟨rfl, hst⟩)) <;> (try simp only [List.set_cons_succ, List.set_cons_zero, vOf_true, vOf_false, List.drop_succ_cons, List.drop_zero, List.take_succ_cons, List.take_zero, putD, Int.toNat_zero, Int.reduceToNat, Nat.mul_one, Nat.zero_add, Nat.add_zero, Nat.reduceMul, Nat.reduceAdd, Nat.zero_mul, Int.reduceSub, Int.reduceAdd, Int.reduceMul, Int.reduceNeg, Bool.not_true, Bool.not_false]) <;> (try simp only [List.set_cons_succ, List.set_cons_zero, List.drop_succ_cons, List.drop_zero, List.take_succ_cons, List.take_zero, List.nil_append, List.cons_append, List.append_nil, Value.cells, List.eraseIdx_cons_zero, List.eraseIdx_cons_succ, Nat.zero_add, Nat.add_zero, List.flatten_cons, List.flatten_nil, List.map_cons, List.map_nil] at hst))
     | (with_reducible refine Sl.k_indexV ?_; (first | refine s_qt hst (by first | exact qt_indexV evX evX inX inX omX omX rfl rfl | exact qt_indexS evX evX StrT.u omX omX) ?_); (try simp only [List.set_cons_succ, List.set_cons_zero, vOf_true, vOf_false, List.drop_succ_cons, List.drop_zero, List.take_succ_cons, List.take_zero, putD, Int.toNat_zero, Int.reduceToNat, Nat.mul_one, Nat.zero_add, Nat.add_zero, Nat.reduceMul, Nat.reduceAdd, Nat.zero_mul, Int.reduceSub, Int.reduceAdd, Int.reduceMul, Int.reduceNeg, Bool.not_true, Bool.not_false]))
     | ((fail_if_success (go_big_may)); (first | go_skip | go_guarded | go_step))
     | ((first
          | (with_reducible refine Sl.k_load ?_; (first
            | refine s_qt hst (qt_load rfl _ BoxIn.h inX rfl rfl) ?_
            | (refine s_ex hst (qt_ldp_int evX asX inX) ?_; rintro v ⟨rfl, hI⟩)
            | refine s_qt hst (by first | exact qt_ldp_u8 evX asX inX | exact qt_ldp_bool evX asX inX) ?_
            | (refine s_ex hst (qt_ldp_str evX asX inX) ?_; rintro v ⟨rfl, hs⟩)
            | (refine s_ex hst (qt_ldp_list evX asX inX) ?_; rintro v ⟨hvl, hv1⟩)
            | (refine s_ex hst (qt_ldp evX asX inX) ?_; rintro v ⟨cl, rfl, hcl⟩)
            | refine s_qt hst (by first | exact qt_ldB evX asX SlIn.h inX omX | exact qt_ldI evX asX SlIn.h inX omX | exact qt_ld2 evX asX SlIn.h inX omX | exact qt_load_own evX asX SlIn.h inX rfl (by simp <;> omega) | exact qt_load rfl _ asX inX rfl rfl) ?_))
          | (with_reducible refine Sl.k_field ?_; (first
            | refine s_qt hst (qt_field rfl inX) ?_
            | (refine s_ex hst (qt_fieldp evX asX inX inX rfl) ?_; rintro v hp; (try simp only [Int.toNat_natCast, Int.toNat_natCast_add_one, Int.reduceToNat] at hp))
            | (refine s_ex hst (qt_field_own evX asX inX) ?_; rintro v hp; (try simp only [Int.toNat_natCast, Int.toNat_natCast_add_one, Int.reduceToNat] at hp))))
          | (with_reducible refine Sl.k_index ?_; (first
            | refine s_qt hst (qt_indexA rfl rfl inX inX omX omX) ?_
            | (refine s_ex hst (qt_indexP0 evX asX rfl inX inX) ?_; rintro v hp; (try simp only [Int.toNat_natCast, Int.toNat_natCast_add_one, Int.reduceToNat] at hp))
            | (refine s_ex hst (qt_indexP1 evX asX rfl inX inX) ?_; rintro v hp; (try simp only [Int.toNat_natCast, Int.toNat_natCast_add_one, Int.reduceToNat] at hp))
            | (refine s_ex hst (qt_index evX asX rfl inX inX omX omX) ?_; rintro v hp; (try simp only [Int.toNat_natCast, Int.toNat_natCast_add_one, Int.reduceToNat] at hp))
            | (refine s_ex hst (qt_indexAp evX asX rfl inX inX rfl omX omX) ?_; rintro v hp; (try simp only [Int.toNat_natCast, Int.toNat_natCast_add_one, Int.reduceToNat] at hp))
            | (refine s_ex hst (qt_index_own hst evX SlIn.h rfl inX inX omX omX) ?_; rintro v hp; (try simp only [Int.toNat_natCast, Int.toNat_natCast_add_one, Int.reduceToNat] at hp))))
          | (with_reducible refine Sl.k_call ?_; (first
            | refine s_qt hst (by first | exact qt_len evX asX inX | exact qt_len_str evX inX | exact qt_len_own evX SlIn.h inX | exact qt_max rfl rfl | exact qt_min rfl rfl) ?_))); simp only [List.set_cons_succ, List.set_cons_zero, vOf_true, vOf_false, List.drop_succ_cons, List.drop_zero, List.take_succ_cons, List.take_zero, putD, Int.toNat_zero, Int.reduceToNat, Nat.mul_one, Nat.zero_add, Nat.add_zero, Nat.reduceMul, Nat.reduceAdd, Nat.zero_mul, Int.reduceSub, Int.reduceAdd, Int.reduceMul, Int.reduceNeg, Bool.not_true, Bool.not_false])
     | (with_reducible refine Sl.gate rfl ?_; (first | go_skip | go_guarded | go_step))
     | ((first | (with_reducible refine Sl.k_store ?_; (first
            | refine s_stR hst rfl BoxIn.h evX asX inX rfl rfl ?_
            | refine s_store hst rfl _ BoxIn.h inX evX rfl lenOk oneOk (by simp) ?_
            | refine s_st1 hst rfl BoxIn.h evX asX inX (by simp) ?_
            | refine s_stB hst evX asX SlIn.h inX evX omX ?_
            | refine s_stI hst evX asX SlIn.h inX evX omX ?_
            | refine s_st2 hst evX asX SlIn.h inX evX omX ?_); clear hst; intro w hst) | (refine s_box hst evX rfl ?_; clear hst; intro bx w hst) | (refine s_alloc hst inX ?_; clear hst; intro bk w hst)); (try simp only [List.set_cons_succ, List.set_cons_zero, vOf_true, vOf_false, List.drop_succ_cons, List.drop_zero, List.take_succ_cons, List.take_zero, putD, Int.toNat_zero, Int.reduceToNat, Nat.mul_one, Nat.zero_add, Nat.add_zero, Nat.reduceMul, Nat.reduceAdd, Nat.zero_mul, Int.reduceSub, Int.reduceAdd, Int.reduceMul, Int.reduceNeg, Bool.not_true, Bool.not_false]); (try simp only [List.set_cons_succ, List.set_cons_zero, List.drop_succ_cons, List.drop_zero, List.take_succ_cons, List.take_zero, List.nil_append, List.cons_append, List.append_nil, Value.cells, List.eraseIdx_cons_zero, List.eraseIdx_cons_succ, Nat.zero_add, Nat.add_zero, List.flatten_cons, List.flatten_nil, List.map_cons, List.map_nil] at hst)))
  go_ret
  exact ⟨_, rfl, rfl, (by first | exact hst | exact hst.drop | exact hst.drop.drop | exact hst.drop.drop.drop | exact hst.drop.drop.drop.drop | exact hst.drop.drop.drop.drop.drop | exact hst.drop.drop.drop.drop.drop.drop | exact hst.drop.drop.drop.drop.drop.drop.drop | exact hst.drop.drop.drop.drop.drop.drop.drop.drop | exact hst.drop.drop.drop.drop.drop.drop.drop.drop.drop | exact hst.drop.drop.drop.drop.drop.drop.drop.drop.drop.drop | exact hst.drop.drop.drop.drop.drop.drop.drop.drop.drop.drop.drop | exact hst.drop.drop.drop.drop.drop.drop.drop.drop.drop.drop.drop.drop | exact hst.drop.drop.drop.drop.drop.drop.drop.drop.drop.drop.drop.drop.drop)⟩

set_option maxRecDepth 8000 in
set_option maxHeartbeats 400000 in
theorem begin2_c {S M} (w : World) (hst : St S M w) (p : Sx) (hp : p.ok) :
    Rets Try.prog 41 [slV p] w fun v w' => v = slV ⟨2, p.v, p.t + 1⟩ ∧ St S M w' := by
  unfold Rets
  go_enter Try.func41, Try.ntmps41
  repeat' (first
     | go_skip
     | (with_reducible refine Sl.k_guard ?_; (first | (refine Sl.guard_yes rfl ?_) | (refine Sl.guard_no rfl ?_) | (refine Sl.guard_cases rfl ?_ ?_ <;> intro hg <;> first | (exfalso; simp only [decide_eq_true_eq, decide_eq_false_iff_not, Bool.not_false, Bool.not_true, beq_iff_eq, beq_eq_false_iff_ne, ne_eq] at hg; omega) | (simp only [hg, Bool.not_true, Bool.not_false])) <;> (try simp only [decide_eq_true_eq, decide_eq_false_iff_not, Bool.not_false, Bool.not_true, beq_iff_eq, beq_eq_false_iff_ne, bne_iff_ne, bne_eq_false_iff_eq, ne_eq] at hg)) <;> (try simp only [List.set_cons_succ, List.set_cons_zero, vOf_true, vOf_false, List.drop_succ_cons, List.drop_zero, List.take_succ_cons, List.take_zero, putD, Int.toNat_zero, Int.reduceToNat, Nat.mul_one, Nat.zero_add, Nat.add_zero, Nat.reduceMul, Nat.reduceAdd, Nat.zero_mul, Int.reduceSub, Int.reduceAdd, Int.reduceMul, Int.reduceNeg, Bool.not_true, Bool.not_false]))
     | (with_reducible refine Sl.k_indexV ?_; (first | refine s_qt hst (by first | exact qt_indexV evX evX inX inX omX omX rfl rfl | exact qt_indexS evX evX StrT.u omX omX) ?_); (try simp only [List.set_cons_succ, List.set_cons_zero, vOf_true, vOf_false, List.drop_succ_cons, List.drop_zero, List.take_succ_cons, List.take_zero, putD, Int.toNat_zero, Int.reduceToNat, Nat.mul_one, Nat.zero_add, Nat.add_zero, Nat.reduceMul, Nat.reduceAdd, Nat.zero_mul, Int.reduceSub, Int.reduceAdd, Int.reduceMul, Int.reduceNeg, Bool.not_true, Bool.not_false]))
     | ((fail_if_success (go_big_may)); (first | go_skip | go_guarded | go_step))
     | ((first
          | (with_reducible refine Sl.k_load ?_; (first
            | refine s_qt hst (qt_load rfl _ BoxIn.h inX rfl rfl) ?_
            | (refine s_ex hst (qt_ldp_int evX asX inX) ?_; rintro v ⟨rfl, hI⟩)
            | refine s_qt hst (by first | exact qt_ldp_u8 evX asX inX | exact qt_ldp_bool evX asX inX) ?_
            | (refine s_ex hst (qt_ldp_str evX asX inX) ?_; rintro v ⟨rfl, hs⟩)
            | (refine s_ex hst (qt_ldp_list evX asX inX) ?_; rintro v ⟨hvl, hv1⟩)
            | (refine s_ex hst (qt_ldp evX asX inX) ?_; rintro v ⟨cl, rfl, hcl⟩)
            | refine s_qt hst (by first | exact qt_ldB evX asX SlIn.h inX omX | exact qt_ldI evX asX SlIn.h inX omX | exact qt_ld2 evX asX SlIn.h inX omX | exact qt_load_own evX asX SlIn.h inX rfl (by simp <;> omega) | exact qt_load rfl _ asX inX rfl rfl) ?_))
          | (with_reducible refine Sl.k_field ?_; (first
            | refine s_qt hst (qt_field rfl inX) ?_
            | (refine s_ex hst (qt_fieldp evX asX inX inX rfl) ?_; rintro v hp; (try simp only [Int.toNat_natCast, Int.toNat_natCast_add_one, Int.reduceToNat] at hp))
            | (refine s_ex hst (qt_field_own evX asX inX) ?_; rintro v hp; (try simp only [Int.toNat_natCast, Int.toNat_natCast_add_one, Int.reduceToNat] at hp))))
          | (with_reducible refine Sl.k_index ?_; (first
            | refine s_qt hst (qt_indexA rfl rfl inX inX omX omX) ?_
            | (refine s_ex hst (qt_indexP0 evX asX rfl inX inX) ?_; rintro v hp; (try simp only [Int.toNat_natCast, Int.toNat_natCast_add_one, Int.reduceToNat] at hp))
            | (refine s_ex hst (qt_indexP1 evX asX rfl inX inX) ?_; rintro v hp; (try simp only [Int.toNat_natCast, Int.toNat_natCast_add_one, Int.reduceToNat] at hp))
            | (refine s_ex hst (qt_index evX asX rfl inX inX omX omX) ?_; rintro v hp; (try simp only [Int.toNat_natCast, Int.toNat_natCast_add_one, Int.reduceToNat] at hp))
            | (refine s_ex hst (qt_indexAp evX asX rfl inX inX rfl omX omX) ?_; rintro v hp; (try simp only [Int.toNat_natCast, Int.toNat_natCast_add_one, Int.reduceToNat] at hp))
            | (refine s_ex hst (qt_index_own hst evX SlIn.h rfl inX inX omX omX) ?_; rintro v hp; (try simp only [Int.toNat_natCast, Int.toNat_natCast_add_one, Int.reduceToNat] at hp))))
          | (with_reducible refine Sl.k_call ?_; (first
            | refine s_qt hst (by first | exact qt_len evX asX inX | exact qt_len_str evX inX | exact qt_len_own evX SlIn.h inX | exact qt_max rfl rfl | exact qt_min rfl rfl) ?_))); simp only [List.set_cons_succ, List.set_cons_zero, vOf_true, vOf_false, List.drop_succ_cons, List.drop_zero, List.take_succ_cons, List.take_zero, putD, Int.toNat_zero, Int.reduceToNat, Nat.mul_one, Nat.zero_add, Nat.add_zero, Nat.reduceMul, Nat.reduceAdd, Nat.zero_mul, Int.reduceSub, Int.reduceAdd, Int.reduceMul, Int.reduceNeg, Bool.not_true, Bool.not_false])
     | (with_reducible refine Sl.gate rfl ?_; (first | go_skip | go_guarded | go_step))
     | ((first | (with_reducible refine Sl.k_store ?_; (first
            | refine s_stR hst rfl BoxIn.h evX asX inX rfl rfl ?_
            | refine s_store hst rfl _ BoxIn.h inX evX rfl lenOk oneOk (by simp) ?_
            | refine s_st1 hst rfl BoxIn.h evX asX inX (by simp) ?_
            | refine s_stB hst evX asX SlIn.h inX evX omX ?_
            | refine s_stI hst evX asX SlIn.h inX evX omX ?_
            | refine s_st2 hst evX asX SlIn.h inX evX omX ?_); clear hst; intro w hst) | (refine s_box hst evX rfl ?_; clear hst; intro bx w hst) | (refine s_alloc hst inX ?_; clear hst; intro bk w hst)); (try simp only [List.set_cons_succ, List.set_cons_zero, vOf_true, vOf_false, List.drop_succ_cons, List.drop_zero, List.take_succ_cons, List.take_zero, putD, Int.toNat_zero, Int.reduceToNat, Nat.mul_one, Nat.zero_add, Nat.add_zero, Nat.reduceMul, Nat.reduceAdd, Nat.zero_mul, Int.reduceSub, Int.reduceAdd, Int.reduceMul, Int.reduceNeg, Bool.not_true, Bool.not_false]); (try simp only [List.set_cons_succ, List.set_cons_zero, List.drop_succ_cons, List.drop_zero, List.take_succ_cons, List.take_zero, List.nil_append, List.cons_append, List.append_nil, Value.cells, List.eraseIdx_cons_zero, List.eraseIdx_cons_succ, Nat.zero_add, Nat.add_zero, List.flatten_cons, List.flatten_nil, List.map_cons, List.map_nil] at hst)))
  refine ret_one rfl (rv_cell hst rfl _ BoxIn.h inX rfl rfl) ?_; (try simp only [nth, List.drop_zero, List.drop_succ_cons, List.take_succ_cons, List.take_zero, vOf_true, vOf_false])
  have ht : 0 ≤ p.t ∧ p.t ≤ 3 := hp.2.2
  have e : wrap64 (p.t + 1) = p.t + 1 := by unfold wrap64; omega
  exact ⟨_, rfl, by rw [e], (by first | exact hst | exact hst.drop | exact hst.drop.drop | exact hst.drop.drop.drop | exact hst.drop.drop.drop.drop | exact hst.drop.drop.drop.drop.drop | exact hst.drop.drop.drop.drop.drop.drop | exact hst.drop.drop.drop.drop.drop.drop.drop | exact hst.drop.drop.drop.drop.drop.drop.drop.drop | exact hst.drop.drop.drop.drop.drop.drop.drop.drop.drop | exact hst.drop.drop.drop.drop.drop.drop.drop.drop.drop.drop | exact hst.drop.drop.drop.drop.drop.drop.drop.drop.drop.drop.drop | exact hst.drop.drop.drop.drop.drop.drop.drop.drop.drop.drop.drop.drop | exact hst.drop.drop.drop.drop.drop.drop.drop.drop.drop.drop.drop.drop.drop)⟩

set_option maxRecDepth 8000 in
set_option maxHeartbeats 400000 in
theorem confirm1_c {S M} (w : World) (hst : St S M w) (p q : Sx) :
    Rets Try.prog 42 [slV p, slV q] w fun v w' => v = .bool (p.s == 2 || conf p) ∧ St S M w' := by
  unfold Rets
  go_enter Try.func42, Try.ntmps42
  repeat' (first
     | go_skip
     | (with_reducible refine Sl.k_guard ?_; (first | (refine Sl.guard_yes rfl ?_) | (refine Sl.guard_no rfl ?_) | (refine Sl.guard_cases rfl ?_ ?_ <;> intro hg <;> first | (exfalso; simp only [decide_eq_true_eq, decide_eq_false_iff_not, Bool.not_false, Bool.not_true, beq_iff_eq, beq_eq_false_iff_ne, ne_eq] at hg; omega) | (simp only [hg, Bool.not_true, Bool.not_false])) <;> (try simp only [decide_eq_true_eq, decide_eq_false_iff_not, Bool.not_false, Bool.not_true, beq_iff_eq, beq_eq_false_iff_ne, bne_iff_ne, bne_eq_false_iff_eq, ne_eq] at hg)) <;> (try simp only [List.set_cons_succ, List.set_cons_zero, vOf_true, vOf_false, List.drop_succ_cons, List.drop_zero, List.take_succ_cons, List.take_zero, putD, Int.toNat_zero, Int.reduceToNat, Nat.mul_one, Nat.zero_add, Nat.add_zero, Nat.reduceMul, Nat.reduceAdd, Nat.zero_mul, Int.reduceSub, Int.reduceAdd, Int.reduceMul, Int.reduceNeg, Bool.not_true, Bool.not_false]))
     | (with_reducible refine Sl.k_call ?_; (first
          | (refine s_call (confirmed_c _ hst p) inX rfl ?_; clear hst; rintro v w ⟨rfl, hst⟩)) <;> (try simp only [List.set_cons_succ, List.set_cons_zero, vOf_true, vOf_false, List.drop_succ_cons, List.drop_zero, List.take_succ_cons, List.take_zero, putD, Int.toNat_zero, Int.reduceToNat, Nat.mul_one, Nat.zero_add, Nat.add_zero, Nat.reduceMul, Nat.reduceAdd, Nat.zero_mul, Int.reduceSub, Int.reduceAdd, Int.reduceMul, Int.reduceNeg, Bool.not_true, Bool.not_false]) <;> (try simp only [List.set_cons_succ, List.set_cons_zero, List.drop_succ_cons, List.drop_zero, List.take_succ_cons, List.take_zero, List.nil_append, List.cons_append, List.append_nil, Value.cells, List.eraseIdx_cons_zero, List.eraseIdx_cons_succ, Nat.zero_add, Nat.add_zero, List.flatten_cons, List.flatten_nil, List.map_cons, List.map_nil] at hst))
     | (with_reducible refine Sl.k_indexV ?_; (first | refine s_qt hst (by first | exact qt_indexV evX evX inX inX omX omX rfl rfl | exact qt_indexS evX evX StrT.u omX omX) ?_); (try simp only [List.set_cons_succ, List.set_cons_zero, vOf_true, vOf_false, List.drop_succ_cons, List.drop_zero, List.take_succ_cons, List.take_zero, putD, Int.toNat_zero, Int.reduceToNat, Nat.mul_one, Nat.zero_add, Nat.add_zero, Nat.reduceMul, Nat.reduceAdd, Nat.zero_mul, Int.reduceSub, Int.reduceAdd, Int.reduceMul, Int.reduceNeg, Bool.not_true, Bool.not_false]))
     | ((fail_if_success (go_big_may)); (first | go_skip | go_guarded | go_step))
     | ((first
          | (with_reducible refine Sl.k_load ?_; (first
            | refine s_qt hst (qt_load rfl _ BoxIn.h inX rfl rfl) ?_
            | (refine s_ex hst (qt_ldp_int evX asX inX) ?_; rintro v ⟨rfl, hI⟩)
            | refine s_qt hst (by first | exact qt_ldp_u8 evX asX inX | exact qt_ldp_bool evX asX inX) ?_
            | (refine s_ex hst (qt_ldp_str evX asX inX) ?_; rintro v ⟨rfl, hs⟩)
            | (refine s_ex hst (qt_ldp_list evX asX inX) ?_; rintro v ⟨hvl, hv1⟩)
            | (refine s_ex hst (qt_ldp evX asX inX) ?_; rintro v ⟨cl, rfl, hcl⟩)
            | refine s_qt hst (by first | exact qt_ldB evX asX SlIn.h inX omX | exact qt_ldI evX asX SlIn.h inX omX | exact qt_ld2 evX asX SlIn.h inX omX | exact qt_load_own evX asX SlIn.h inX rfl (by simp <;> omega) | exact qt_load rfl _ asX inX rfl rfl) ?_))
          | (with_reducible refine Sl.k_field ?_; (first
            | refine s_qt hst (qt_field rfl inX) ?_
            | (refine s_ex hst (qt_fieldp evX asX inX inX rfl) ?_; rintro v hp; (try simp only [Int.toNat_natCast, Int.toNat_natCast_add_one, Int.reduceToNat] at hp))
            | (refine s_ex hst (qt_field_own evX asX inX) ?_; rintro v hp; (try simp only [Int.toNat_natCast, Int.toNat_natCast_add_one, Int.reduceToNat] at hp))))
          | (with_reducible refine Sl.k_index ?_; (first
            | refine s_qt hst (qt_indexA rfl rfl inX inX omX omX) ?_
            | (refine s_ex hst (qt_indexP0 evX asX rfl inX inX) ?_; rintro v hp; (try simp only [Int.toNat_natCast, Int.toNat_natCast_add_one, Int.reduceToNat] at hp))
            | (refine s_ex hst (qt_indexP1 evX asX rfl inX inX) ?_; rintro v hp; (try simp only [Int.toNat_natCast, Int.toNat_natCast_add_one, Int.reduceToNat] at hp))
            | (refine s_ex hst (qt_index evX asX rfl inX inX omX omX) ?_; rintro v hp; (try simp only [Int.toNat_natCast, Int.toNat_natCast_add_one, Int.reduceToNat] at hp))
            | (refine s_ex hst (qt_indexAp evX asX rfl inX inX rfl omX omX) ?_; rintro v hp; (try simp only [Int.toNat_natCast, Int.toNat_natCast_add_one, Int.reduceToNat] at hp))
            | (refine s_ex hst (qt_index_own hst evX SlIn.h rfl inX inX omX omX) ?_; rintro v hp; (try simp only [Int.toNat_natCast, Int.toNat_natCast_add_one, Int.reduceToNat] at hp))))
          | (with_reducible refine Sl.k_call ?_; (first
            | refine s_qt hst (by first | exact qt_len evX asX inX | exact qt_len_str evX inX | exact qt_len_own evX SlIn.h inX | exact qt_max rfl rfl | exact qt_min rfl rfl) ?_))); simp only [List.set_cons_succ, List.set_cons_zero, vOf_true, vOf_false, List.drop_succ_cons, List.drop_zero, List.take_succ_cons, List.take_zero, putD, Int.toNat_zero, Int.reduceToNat, Nat.mul_one, Nat.zero_add, Nat.add_zero, Nat.reduceMul, Nat.reduceAdd, Nat.zero_mul, Int.reduceSub, Int.reduceAdd, Int.reduceMul, Int.reduceNeg, Bool.not_true, Bool.not_false])
     | (with_reducible refine Sl.gate rfl ?_; (first | go_skip | go_guarded | go_step))
     | ((first | (with_reducible refine Sl.k_store ?_; (first
            | refine s_stR hst rfl BoxIn.h evX asX inX rfl rfl ?_
            | refine s_store hst rfl _ BoxIn.h inX evX rfl lenOk oneOk (by simp) ?_
            | refine s_st1 hst rfl BoxIn.h evX asX inX (by simp) ?_
            | refine s_stB hst evX asX SlIn.h inX evX omX ?_
            | refine s_stI hst evX asX SlIn.h inX evX omX ?_
            | refine s_st2 hst evX asX SlIn.h inX evX omX ?_); clear hst; intro w hst) | (refine s_box hst evX rfl ?_; clear hst; intro bx w hst) | (refine s_alloc hst inX ?_; clear hst; intro bk w hst)); (try simp only [List.set_cons_succ, List.set_cons_zero, vOf_true, vOf_false, List.drop_succ_cons, List.drop_zero, List.take_succ_cons, List.take_zero, putD, Int.toNat_zero, Int.reduceToNat, Nat.mul_one, Nat.zero_add, Nat.add_zero, Nat.reduceMul, Nat.reduceAdd, Nat.zero_mul, Int.reduceSub, Int.reduceAdd, Int.reduceMul, Int.reduceNeg, Bool.not_true, Bool.not_false]); (try simp only [List.set_cons_succ, List.set_cons_zero, List.drop_succ_cons, List.drop_zero, List.take_succ_cons, List.take_zero, List.nil_append, List.cons_append, List.append_nil, Value.cells, List.eraseIdx_cons_zero, List.eraseIdx_cons_succ, Nat.zero_add, Nat.add_zero, List.flatten_cons, List.flatten_nil, List.map_cons, List.map_nil] at hst)))
  all_goals go_ret
  all_goals exact ⟨_, rfl, by simp_all, (by first | exact hst | exact hst.drop | exact hst.drop.drop | exact hst.drop.drop.drop | exact hst.drop.drop.drop.drop | exact hst.drop.drop.drop.drop.drop | exact hst.drop.drop.drop.drop.drop.drop | exact hst.drop.drop.drop.drop.drop.drop.drop | exact hst.drop.drop.drop.drop.drop.drop.drop.drop | exact hst.drop.drop.drop.drop.drop.drop.drop.drop.drop | exact hst.drop.drop.drop.drop.drop.drop.drop.drop.drop.drop | exact hst.drop.drop.drop.drop.drop.drop.drop.drop.drop.drop.drop | exact hst.drop.drop.drop.drop.drop.drop.drop.drop.drop.drop.drop.drop | exact hst.drop.drop.drop.drop.drop.drop.drop.drop.drop.drop.drop.drop.drop)⟩

set_option maxRecDepth 8000 in
set_option maxHeartbeats 400000 in
theorem confirm2_c {S M} (w : World) (hst : St S M w) (p : Sx) :
    Rets Try.prog 44 [slV p] w fun v w' => v = slV ⟨3, p.v, 0⟩ ∧ St S M w' := by
  unfold Rets
  go_enter Try.func44, Try.ntmps44
  repeat' (first
     | go_skip
     | (with_reducible refine Sl.k_guard ?_; (first | (refine Sl.guard_yes rfl ?_) | (refine Sl.guard_no rfl ?_) | (refine Sl.guard_cases rfl ?_ ?_ <;> intro hg <;> first | (exfalso; simp only [decide_eq_true_eq, decide_eq_false_iff_not, Bool.not_false, Bool.not_true, beq_iff_eq, beq_eq_false_iff_ne, ne_eq] at hg; omega) | (simp only [hg, Bool.not_true, Bool.not_false])) <;> (try simp only [decide_eq_true_eq, decide_eq_false_iff_not, Bool.not_false, Bool.not_true, beq_iff_eq, beq_eq_false_iff_ne, bne_iff_ne, bne_eq_false_iff_eq, ne_eq] at hg)) <;> (try simp only [List.set_cons_succ, List.set_cons_zero, vOf_true, vOf_false, List.drop_succ_cons, List.drop_zero, List.take_succ_cons, List.take_zero, putD, Int.toNat_zero, Int.reduceToNat, Nat.mul_one, Nat.zero_add, Nat.add_zero, Nat.reduceMul, Nat.reduceAdd, Nat.zero_mul, Int.reduceSub, Int.reduceAdd, Int.reduceMul, Int.reduceNeg, Bool.not_true, Bool.not_false]))
     | (with_reducible refine Sl.k_indexV ?_; (first | refine s_qt hst (by first | exact qt_indexV evX evX inX inX omX omX rfl rfl | exact qt_indexS evX evX StrT.u omX omX) ?_); (try simp only [List.set_cons_succ, List.set_cons_zero, vOf_true, vOf_false, List.drop_succ_cons, List.drop_zero, List.take_succ_cons, List.take_zero, putD, Int.toNat_zero, Int.reduceToNat, Nat.mul_one, Nat.zero_add, Nat.add_zero, Nat.reduceMul, Nat.reduceAdd, Nat.zero_mul, Int.reduceSub, Int.reduceAdd, Int.reduceMul, Int.reduceNeg, Bool.not_true, Bool.not_false]))
     | ((fail_if_success (go_big_may)); (first | go_skip | go_guarded | go_step))
     | ((first
          | (with_reducible refine Sl.k_load ?_; (first
            | refine s_qt hst (qt_load rfl _ BoxIn.h inX rfl rfl) ?_
            | (refine s_ex hst (qt_ldp_int evX asX inX) ?_; rintro v ⟨rfl, hI⟩)
            | refine s_qt hst (by first | exact qt_ldp_u8 evX asX inX | exact qt_ldp_bool evX asX inX) ?_
            | (refine s_ex hst (qt_ldp_str evX asX inX) ?_; rintro v ⟨rfl, hs⟩)
            | (refine s_ex hst (qt_ldp_list evX asX inX) ?_; rintro v ⟨hvl, hv1⟩)
            | (refine s_ex hst (qt_ldp evX asX inX) ?_; rintro v ⟨cl, rfl, hcl⟩)
            | refine s_qt hst (by first | exact qt_ldB evX asX SlIn.h inX omX | exact qt_ldI evX asX SlIn.h inX omX | exact qt_ld2 evX asX SlIn.h inX omX | exact qt_load_own evX asX SlIn.h inX rfl (by simp <;> omega) | exact qt_load rfl _ asX inX rfl rfl) ?_))
          | (with_reducible refine Sl.k_field ?_; (first
            | refine s_qt hst (qt_field rfl inX) ?_
            | (refine s_ex hst (qt_fieldp evX asX inX inX rfl) ?_; rintro v hp; (try simp only [Int.toNat_natCast, Int.toNat_natCast_add_one, Int.reduceToNat] at hp))
            | (refine s_ex hst (qt_field_own evX asX inX) ?_; rintro v hp; (try simp only [Int.toNat_natCast, Int.toNat_natCast_add_one, Int.reduceToNat] at hp))))
          | (with_reducible refine Sl.k_index ?_; (first
            | refine s_qt hst (qt_indexA rfl rfl inX inX omX omX) ?_
            | (refine s_ex hst (qt_indexP0 evX asX rfl inX inX) ?_; rintro v hp; (try simp only [Int.toNat_natCast, Int.toNat_natCast_add_one, Int.reduceToNat] at hp))
            | (refine s_ex hst (qt_indexP1 evX asX rfl inX inX) ?_; rintro v hp; (try simp only [Int.toNat_natCast, Int.toNat_natCast_add_one, Int.reduceToNat] at hp))
            | (refine s_ex hst (qt_index evX asX rfl inX inX omX omX) ?_; rintro v hp; (try simp only [Int.toNat_natCast, Int.toNat_natCast_add_one, Int.reduceToNat] at hp))
            | (refine s_ex hst (qt_indexAp evX asX rfl inX inX rfl omX omX) ?_; rintro v hp; (try simp only [Int.toNat_natCast, Int.toNat_natCast_add_one, Int.reduceToNat] at hp))
            | (refine s_ex hst (qt_index_own hst evX SlIn.h rfl inX inX omX omX) ?_; rintro v hp; (try simp only [Int.toNat_natCast, Int.toNat_natCast_add_one, Int.reduceToNat] at hp))))
          | (with_reducible refine Sl.k_call ?_; (first
            | refine s_qt hst (by first | exact qt_len evX asX inX | exact qt_len_str evX inX | exact qt_len_own evX SlIn.h inX | exact qt_max rfl rfl | exact qt_min rfl rfl) ?_))); simp only [List.set_cons_succ, List.set_cons_zero, vOf_true, vOf_false, List.drop_succ_cons, List.drop_zero, List.take_succ_cons, List.take_zero, putD, Int.toNat_zero, Int.reduceToNat, Nat.mul_one, Nat.zero_add, Nat.add_zero, Nat.reduceMul, Nat.reduceAdd, Nat.zero_mul, Int.reduceSub, Int.reduceAdd, Int.reduceMul, Int.reduceNeg, Bool.not_true, Bool.not_false])
     | (with_reducible refine Sl.gate rfl ?_; (first | go_skip | go_guarded | go_step))
     | ((first | (with_reducible refine Sl.k_store ?_; (first
            | refine s_stR hst rfl BoxIn.h evX asX inX rfl rfl ?_
            | refine s_store hst rfl _ BoxIn.h inX evX rfl lenOk oneOk (by simp) ?_
            | refine s_st1 hst rfl BoxIn.h evX asX inX (by simp) ?_
            | refine s_stB hst evX asX SlIn.h inX evX omX ?_
            | refine s_stI hst evX asX SlIn.h inX evX omX ?_
            | refine s_st2 hst evX asX SlIn.h inX evX omX ?_); clear hst; intro w hst) | (refine s_box hst evX rfl ?_; clear hst; intro bx w hst) | (refine s_alloc hst inX ?_; clear hst; intro bk w hst)); (try simp only [List.set_cons_succ, List.set_cons_zero, vOf_true, vOf_false, List.drop_succ_cons, List.drop_zero, List.take_succ_cons, List.take_zero, putD, Int.toNat_zero, Int.reduceToNat, Nat.mul_one, Nat.zero_add, Nat.add_zero, Nat.reduceMul, Nat.reduceAdd, Nat.zero_mul, Int.reduceSub, Int.reduceAdd, Int.reduceMul, Int.reduceNeg, Bool.not_true, Bool.not_false]); (try simp only [List.set_cons_succ, List.set_cons_zero, List.drop_succ_cons, List.drop_zero, List.take_succ_cons, List.take_zero, List.nil_append, List.cons_append, List.append_nil, Value.cells, List.eraseIdx_cons_zero, List.eraseIdx_cons_succ, Nat.zero_add, Nat.add_zero, List.flatten_cons, List.flatten_nil, List.map_cons, List.map_nil] at hst)))
  refine ret_one rfl (rv_cell hst rfl _ BoxIn.h inX rfl rfl) ?_; (try simp only [nth, List.drop_zero, List.drop_succ_cons, List.take_succ_cons, List.take_zero, vOf_true, vOf_false])
  exact ⟨_, rfl, rfl, (by first | exact hst | exact hst.drop | exact hst.drop.drop | exact hst.drop.drop.drop | exact hst.drop.drop.drop.drop | exact hst.drop.drop.drop.drop.drop | exact hst.drop.drop.drop.drop.drop.drop | exact hst.drop.drop.drop.drop.drop.drop.drop | exact hst.drop.drop.drop.drop.drop.drop.drop.drop | exact hst.drop.drop.drop.drop.drop.drop.drop.drop.drop | exact hst.drop.drop.drop.drop.drop.drop.drop.drop.drop.drop | exact hst.drop.drop.drop.drop.drop.drop.drop.drop.drop.drop.drop | exact hst.drop.drop.drop.drop.drop.drop.drop.drop.drop.drop.drop.drop | exact hst.drop.drop.drop.drop.drop.drop.drop.drop.drop.drop.drop.drop.drop)⟩

set_option maxRecDepth 8000 in
set_option maxHeartbeats 400000 in
theorem fail1_c {S M} (w : World) (hst : St S M w) (p q : Sx) (hp : p.big) :
    Rets Try.prog 45 [slV p, slV q] w fun v w' => v = .bool (p.s != 0 && p.s != 4) ∧ St S M w' := by
  unfold Rets
  go_enter Try.func45, Try.ntmps45
  repeat' (first
     | go_skip
     | (with_reducible refine Sl.k_bin ?_; (first
          | (refine s_qt hst (qt_neqK rfl rfl (r_sl hp) (r_sl (x := ⟨0, 0, 0⟩) (by simp [Sx.big, I64])) inX inX inX) ?_)); (try simp only [List.set_cons_succ, List.set_cons_zero, vOf_true, vOf_false, List.drop_succ_cons, List.drop_zero, List.take_succ_cons, List.take_zero, putD, Int.toNat_zero, Int.reduceToNat, Nat.mul_one, Nat.zero_add, Nat.add_zero, Nat.reduceMul, Nat.reduceAdd, Nat.zero_mul, Int.reduceSub, Int.reduceAdd, Int.reduceMul, Int.reduceNeg, Bool.not_true, Bool.not_false]))
     | (with_reducible refine Sl.k_guard ?_; (first | (refine Sl.guard_yes rfl ?_) | (refine Sl.guard_no rfl ?_) | (refine Sl.guard_cases rfl ?_ ?_ <;> intro hg <;> first | (exfalso; simp only [decide_eq_true_eq, decide_eq_false_iff_not, Bool.not_false, Bool.not_true, beq_iff_eq, beq_eq_false_iff_ne, ne_eq] at hg; omega) | (simp only [hg, Bool.not_true, Bool.not_false])) <;> (try simp only [decide_eq_true_eq, decide_eq_false_iff_not, Bool.not_false, Bool.not_true, beq_iff_eq, beq_eq_false_iff_ne, bne_iff_ne, bne_eq_false_iff_eq, ne_eq] at hg)) <;> (try simp only [List.set_cons_succ, List.set_cons_zero, vOf_true, vOf_false, List.drop_succ_cons, List.drop_zero, List.take_succ_cons, List.take_zero, putD, Int.toNat_zero, Int.reduceToNat, Nat.mul_one, Nat.zero_add, Nat.add_zero, Nat.reduceMul, Nat.reduceAdd, Nat.zero_mul, Int.reduceSub, Int.reduceAdd, Int.reduceMul, Int.reduceNeg, Bool.not_true, Bool.not_false]))
     | (with_reducible refine Sl.k_indexV ?_; (first | refine s_qt hst (by first | exact qt_indexV evX evX inX inX omX omX rfl rfl | exact qt_indexS evX evX StrT.u omX omX) ?_); (try simp only [List.set_cons_succ, List.set_cons_zero, vOf_true, vOf_false, List.drop_succ_cons, List.drop_zero, List.take_succ_cons, List.take_zero, putD, Int.toNat_zero, Int.reduceToNat, Nat.mul_one, Nat.zero_add, Nat.add_zero, Nat.reduceMul, Nat.reduceAdd, Nat.zero_mul, Int.reduceSub, Int.reduceAdd, Int.reduceMul, Int.reduceNeg, Bool.not_true, Bool.not_false]))
     | ((fail_if_success (go_big_may)); (first | go_skip | go_guarded | go_step))
     | ((first
          | (with_reducible refine Sl.k_load ?_; (first
            | refine s_qt hst (qt_load rfl _ BoxIn.h inX rfl rfl) ?_
            | (refine s_ex hst (qt_ldp_int evX asX inX) ?_; rintro v ⟨rfl, hI⟩)
            | refine s_qt hst (by first | exact qt_ldp_u8 evX asX inX | exact qt_ldp_bool evX asX inX) ?_
            | (refine s_ex hst (qt_ldp_str evX asX inX) ?_; rintro v ⟨rfl, hs⟩)
            | (refine s_ex hst (qt_ldp_list evX asX inX) ?_; rintro v ⟨hvl, hv1⟩)
            | (refine s_ex hst (qt_ldp evX asX inX) ?_; rintro v ⟨cl, rfl, hcl⟩)
            | refine s_qt hst (by first | exact qt_ldB evX asX SlIn.h inX omX | exact qt_ldI evX asX SlIn.h inX omX | exact qt_ld2 evX asX SlIn.h inX omX | exact qt_load_own evX asX SlIn.h inX rfl (by simp <;> omega) | exact qt_load rfl _ asX inX rfl rfl) ?_))
          | (with_reducible refine Sl.k_field ?_; (first
            | refine s_qt hst (qt_field rfl inX) ?_
            | (refine s_ex hst (qt_fieldp evX asX inX inX rfl) ?_; rintro v hp; (try simp only [Int.toNat_natCast, Int.toNat_natCast_add_one, Int.reduceToNat] at hp))
            | (refine s_ex hst (qt_field_own evX asX inX) ?_; rintro v hp; (try simp only [Int.toNat_natCast, Int.toNat_natCast_add_one, Int.reduceToNat] at hp))))
          | (with_reducible refine Sl.k_index ?_; (first
            | refine s_qt hst (qt_indexA rfl rfl inX inX omX omX) ?_
            | (refine s_ex hst (qt_indexP0 evX asX rfl inX inX) ?_; rintro v hp; (try simp only [Int.toNat_natCast, Int.toNat_natCast_add_one, Int.reduceToNat] at hp))
            | (refine s_ex hst (qt_indexP1 evX asX rfl inX inX) ?_; rintro v hp; (try simp only [Int.toNat_natCast, Int.toNat_natCast_add_one, Int.reduceToNat] at hp))
            | (refine s_ex hst (qt_index evX asX rfl inX inX omX omX) ?_; rintro v hp; (try simp only [Int.toNat_natCast, Int.toNat_natCast_add_one, Int.reduceToNat] at hp))
            | (refine s_ex hst (qt_indexAp evX asX rfl inX inX rfl omX omX) ?_; rintro v hp; (try simp only [Int.toNat_natCast, Int.toNat_natCast_add_one, Int.reduceToNat] at hp))
            | (refine s_ex hst (qt_index_own hst evX SlIn.h rfl inX inX omX omX) ?_; rintro v hp; (try simp only [Int.toNat_natCast, Int.toNat_natCast_add_one, Int.reduceToNat] at hp))))
          | (with_reducible refine Sl.k_call ?_; (first
            | refine s_qt hst (by first | exact qt_len evX asX inX | exact qt_len_str evX inX | exact qt_len_own evX SlIn.h inX | exact qt_max rfl rfl | exact qt_min rfl rfl) ?_))); simp only [List.set_cons_succ, List.set_cons_zero, vOf_true, vOf_false, List.drop_succ_cons, List.drop_zero, List.take_succ_cons, List.take_zero, putD, Int.toNat_zero, Int.reduceToNat, Nat.mul_one, Nat.zero_add, Nat.add_zero, Nat.reduceMul, Nat.reduceAdd, Nat.zero_mul, Int.reduceSub, Int.reduceAdd, Int.reduceMul, Int.reduceNeg, Bool.not_true, Bool.not_false])
     | (with_reducible refine Sl.gate rfl ?_; (first | go_skip | go_guarded | go_step))
     | ((first | (with_reducible refine Sl.k_store ?_; (first
            | refine s_stR hst rfl BoxIn.h evX asX inX rfl rfl ?_
            | refine s_store hst rfl _ BoxIn.h inX evX rfl lenOk oneOk (by simp) ?_
            | refine s_st1 hst rfl BoxIn.h evX asX inX (by simp) ?_
            | refine s_stB hst evX asX SlIn.h inX evX omX ?_
            | refine s_stI hst evX asX SlIn.h inX evX omX ?_
            | refine s_st2 hst evX asX SlIn.h inX evX omX ?_); clear hst; intro w hst) | (refine s_box hst evX rfl ?_; clear hst; intro bx w hst) | (refine s_alloc hst inX ?_; clear hst; intro bk w hst)); (try simp only [List.set_cons_succ, List.set_cons_zero, vOf_true, vOf_false, List.drop_succ_cons, List.drop_zero, List.take_succ_cons, List.take_zero, putD, Int.toNat_zero, Int.reduceToNat, Nat.mul_one, Nat.zero_add, Nat.add_zero, Nat.reduceMul, Nat.reduceAdd, Nat.zero_mul, Int.reduceSub, Int.reduceAdd, Int.reduceMul, Int.reduceNeg, Bool.not_true, Bool.not_false]); (try simp only [List.set_cons_succ, List.set_cons_zero, List.drop_succ_cons, List.drop_zero, List.take_succ_cons, List.take_zero, List.nil_append, List.cons_append, List.append_nil, Value.cells, List.eraseIdx_cons_zero, List.eraseIdx_cons_succ, Nat.zero_add, Nat.add_zero, List.flatten_cons, List.flatten_nil, List.map_cons, List.map_nil] at hst)))
  · go_ret
    exact ⟨_, rfl, by simp_all, (by first | exact hst | exact hst.drop | exact hst.drop.drop | exact hst.drop.drop.drop | exact hst.drop.drop.drop.drop | exact hst.drop.drop.drop.drop.drop | exact hst.drop.drop.drop.drop.drop.drop | exact hst.drop.drop.drop.drop.drop.drop.drop | exact hst.drop.drop.drop.drop.drop.drop.drop.drop | exact hst.drop.drop.drop.drop.drop.drop.drop.drop.drop | exact hst.drop.drop.drop.drop.drop.drop.drop.drop.drop.drop | exact hst.drop.drop.drop.drop.drop.drop.drop.drop.drop.drop.drop | exact hst.drop.drop.drop.drop.drop.drop.drop.drop.drop.drop.drop.drop | exact hst.drop.drop.drop.drop.drop.drop.drop.drop.drop.drop.drop.drop.drop)⟩
  · go_ret
    exact ⟨_, rfl, by simp_all, (by first | exact hst | exact hst.drop | exact hst.drop.drop | exact hst.drop.drop.drop | exact hst.drop.drop.drop.drop | exact hst.drop.drop.drop.drop.drop | exact hst.drop.drop.drop.drop.drop.drop | exact hst.drop.drop.drop.drop.drop.drop.drop | exact hst.drop.drop.drop.drop.drop.drop.drop.drop | exact hst.drop.drop.drop.drop.drop.drop.drop.drop.drop | exact hst.drop.drop.drop.drop.drop.drop.drop.drop.drop.drop | exact hst.drop.drop.drop.drop.drop.drop.drop.drop.drop.drop.drop | exact hst.drop.drop.drop.drop.drop.drop.drop.drop.drop.drop.drop.drop | exact hst.drop.drop.drop.drop.drop.drop.drop.drop.drop.drop.drop.drop.drop)⟩
  · go_ret
    have e : p = ⟨0, 0, 0⟩ := by rw [← d_inj]; simpa using hg
    exact ⟨_, rfl, by simp [e], (by first | exact hst | exact hst.drop | exact hst.drop.drop | exact hst.drop.drop.drop | exact hst.drop.drop.drop.drop | exact hst.drop.drop.drop.drop.drop | exact hst.drop.drop.drop.drop.drop.drop | exact hst.drop.drop.drop.drop.drop.drop.drop | exact hst.drop.drop.drop.drop.drop.drop.drop.drop | exact hst.drop.drop.drop.drop.drop.drop.drop.drop.drop | exact hst.drop.drop.drop.drop.drop.drop.drop.drop.drop.drop | exact hst.drop.drop.drop.drop.drop.drop.drop.drop.drop.drop.drop | exact hst.drop.drop.drop.drop.drop.drop.drop.drop.drop.drop.drop.drop | exact hst.drop.drop.drop.drop.drop.drop.drop.drop.drop.drop.drop.drop.drop)⟩

set_option maxRecDepth 8000 in
set_option maxHeartbeats 400000 in
theorem fail2_c {S M} (w : World) (hst : St S M w) (p : Sx) :
    Rets Try.prog 46 [slV p] w fun v w' => v = slV ⟨4, p.v, p.t⟩ ∧ St S M w' := by
  unfold Rets
  go_enter Try.func46, Try.ntmps46
  repeat' (first
     | go_skip
     | (with_reducible refine Sl.k_guard ?_; (first | (refine Sl.guard_yes rfl ?_) | (refine Sl.guard_no rfl ?_) | (refine Sl.guard_cases rfl ?_ ?_ <;> intro hg <;> first | (exfalso; simp only [decide_eq_true_eq, decide_eq_false_iff_not, Bool.not_false, Bool.not_true, beq_iff_eq, beq_eq_false_iff_ne, ne_eq] at hg; omega) | (simp only [hg, Bool.not_true, Bool.not_false])) <;> (try simp only [decide_eq_true_eq, decide_eq_false_iff_not, Bool.not_false, Bool.not_true, beq_iff_eq, beq_eq_false_iff_ne, bne_iff_ne, bne_eq_false_iff_eq, ne_eq] at hg)) <;> (try simp only [List.set_cons_succ, List.set_cons_zero, vOf_true, vOf_false, List.drop_succ_cons, List.drop_zero, List.take_succ_cons, List.take_zero, putD, Int.toNat_zero, Int.reduceToNat, Nat.mul_one, Nat.zero_add, Nat.add_zero, Nat.reduceMul, Nat.reduceAdd, Nat.zero_mul, Int.reduceSub, Int.reduceAdd, Int.reduceMul, Int.reduceNeg, Bool.not_true, Bool.not_false]))
     | (with_reducible refine Sl.k_indexV ?_; (first | refine s_qt hst (by first | exact qt_indexV evX evX inX inX omX omX rfl rfl | exact qt_indexS evX evX StrT.u omX omX) ?_); (try simp only [List.set_cons_succ, List.set_cons_zero, vOf_true, vOf_false, List.drop_succ_cons, List.drop_zero, List.take_succ_cons, List.take_zero, putD, Int.toNat_zero, Int.reduceToNat, Nat.mul_one, Nat.zero_add, Nat.add_zero, Nat.reduceMul, Nat.reduceAdd, Nat.zero_mul, Int.reduceSub, Int.reduceAdd, Int.reduceMul, Int.reduceNeg, Bool.not_true, Bool.not_false]))
     | ((fail_if_success (go_big_may)); (first | go_skip | go_guarded | go_step))
     | ((first
          | (with_reducible refine Sl.k_load ?_; (first
            | refine s_qt hst (qt_load rfl _ BoxIn.h inX rfl rfl) ?_
            | (refine s_ex hst (qt_ldp_int evX asX inX) ?_; rintro v ⟨rfl, hI⟩)
            | refine s_qt hst (by first | exact qt_ldp_u8 evX asX inX | exact qt_ldp_bool evX asX inX) ?_
            | (refine s_ex hst (qt_ldp_str evX asX inX) ?_; rintro v ⟨rfl, hs⟩)
            | (refine s_ex hst (qt_ldp_list evX asX inX) ?_; rintro v ⟨hvl, hv1⟩)
            | (refine s_ex hst (qt_ldp evX asX inX) ?_; rintro v ⟨cl, rfl, hcl⟩)
            | refine s_qt hst (by first | exact qt_ldB evX asX SlIn.h inX omX | exact qt_ldI evX asX SlIn.h inX omX | exact qt_ld2 evX asX SlIn.h inX omX | exact qt_load_own evX asX SlIn.h inX rfl (by simp <;> omega) | exact qt_load rfl _ asX inX rfl rfl) ?_))
          | (with_reducible refine Sl.k_field ?_; (first
            | refine s_qt hst (qt_field rfl inX) ?_
            | (refine s_ex hst (qt_fieldp evX asX inX inX rfl) ?_; rintro v hp; (try simp only [Int.toNat_natCast, Int.toNat_natCast_add_one, Int.reduceToNat] at hp))
            | (refine s_ex hst (qt_field_own evX asX inX) ?_; rintro v hp; (try simp only [Int.toNat_natCast, Int.toNat_natCast_add_one, Int.reduceToNat] at hp))))
          | (with_reducible refine Sl.k_index ?_; (first
            | refine s_qt hst (qt_indexA rfl rfl inX inX omX omX) ?_
            | (refine s_ex hst (qt_indexP0 evX asX rfl inX inX) ?_; rintro v hp; (try simp only [Int.toNat_natCast, Int.toNat_natCast_add_one, Int.reduceToNat] at hp))
            | (refine s_ex hst (qt_indexP1 evX asX rfl inX inX) ?_; rintro v hp; (try simp only [Int.toNat_natCast, Int.toNat_natCast_add_one, Int.reduceToNat] at hp))
            | (refine s_ex hst (qt_index evX asX rfl inX inX omX omX) ?_; rintro v hp; (try simp only [Int.toNat_natCast, Int.toNat_natCast_add_one, Int.reduceToNat] at hp))
            | (refine s_ex hst (qt_indexAp evX asX rfl inX inX rfl omX omX) ?_; rintro v hp; (try simp only [Int.toNat_natCast, Int.toNat_natCast_add_one, Int.reduceToNat] at hp))
            | (refine s_ex hst (qt_index_own hst evX SlIn.h rfl inX inX omX omX) ?_; rintro v hp; (try simp only [Int.toNat_natCast, Int.toNat_natCast_add_one, Int.reduceToNat] at hp))))
          | (with_reducible refine Sl.k_call ?_; (first
            | refine s_qt hst (by first | exact qt_len evX asX inX | exact qt_len_str evX inX | exact qt_len_own evX SlIn.h inX | exact qt_max rfl rfl | exact qt_min rfl rfl) ?_))); simp only [List.set_cons_succ, List.set_cons_zero, vOf_true, vOf_false, List.drop_succ_cons, List.drop_zero, List.take_succ_cons, List.take_zero, putD, Int.toNat_zero, Int.reduceToNat, Nat.mul_one, Nat.zero_add, Nat.add_zero, Nat.reduceMul, Nat.reduceAdd, Nat.zero_mul, Int.reduceSub, Int.reduceAdd, Int.reduceMul, Int.reduceNeg, Bool.not_true, Bool.not_false])
     | (with_reducible refine Sl.gate rfl ?_; (first | go_skip | go_guarded | go_step))
     | ((first | (with_reducible refine Sl.k_store ?_; (first
            | refine s_stR hst rfl BoxIn.h evX asX inX rfl rfl ?_
            | refine s_store hst rfl _ BoxIn.h inX evX rfl lenOk oneOk (by simp) ?_
            | refine s_st1 hst rfl BoxIn.h evX asX inX (by simp) ?_
            | refine s_stB hst evX asX SlIn.h inX evX omX ?_
            | refine s_stI hst evX asX SlIn.h inX evX omX ?_
            | refine s_st2 hst evX asX SlIn.h inX evX omX ?_); clear hst; intro w hst) | (refine s_box hst evX rfl ?_; clear hst; intro bx w hst) | (refine s_alloc hst inX ?_; clear hst; intro bk w hst)); (try simp only [List.set_cons_succ, List.set_cons_zero, vOf_true, vOf_false, List.drop_succ_cons, List.drop_zero, List.take_succ_cons, List.take_zero, putD, Int.toNat_zero, Int.reduceToNat, Nat.mul_one, Nat.zero_add, Nat.add_zero, Nat.reduceMul, Nat.reduceAdd, Nat.zero_mul, Int.reduceSub, Int.reduceAdd, Int.reduceMul, Int.reduceNeg, Bool.not_true, Bool.not_false]); (try simp only [List.set_cons_succ, List.set_cons_zero, List.drop_succ_cons, List.drop_zero, List.take_succ_cons, List.take_zero, List.nil_append, List.cons_append, List.append_nil, Value.cells, List.eraseIdx_cons_zero, List.eraseIdx_cons_succ, Nat.zero_add, Nat.add_zero, List.flatten_cons, List.flatten_nil, List.map_cons, List.map_nil] at hst)))
  refine ret_one rfl (rv_cell hst rfl _ BoxIn.h inX rfl rfl) ?_; (try simp only [nth, List.drop_zero, List.drop_succ_cons, List.take_succ_cons, List.take_zero, vOf_true, vOf_false])
  exact ⟨_, rfl, rfl, (by first | exact hst | exact hst.drop | exact hst.drop.drop | exact hst.drop.drop.drop | exact hst.drop.drop.drop.drop | exact hst.drop.drop.drop.drop.drop | exact hst.drop.drop.drop.drop.drop.drop | exact hst.drop.drop.drop.drop.drop.drop.drop | exact hst.drop.drop.drop.drop.drop.drop.drop.drop | exact hst.drop.drop.drop.drop.drop.drop.drop.drop.drop | exact hst.drop.drop.drop.drop.drop.drop.drop.drop.drop.drop | exact hst.drop.drop.drop.drop.drop.drop.drop.drop.drop.drop.drop | exact hst.drop.drop.drop.drop.drop.drop.drop.drop.drop.drop.drop.drop | exact hst.drop.drop.drop.drop.drop.drop.drop.drop.drop.drop.drop.drop.drop)⟩

end Go.Proofs.Ytncffjdmcalioaa
