/- Package slot: the examples that every statement asks. -/
import Derived.Test.YtncffjdmcalioaaSe
import Derived.Test.YtncffjdmcalioaaSg
import Derived.Test.YtncffjdmcalioaaSi
--@idxv
--@hgp
namespace Go.Proofs.Ytncffjdmcalioaa
set_option linter.unusedSimpArgs false
set_option linter.unusedVariables false
open Go.RowKit Go.Sl

theorem eqR {S M} {f : FuncId} {args : List Value} {w : World} {a b : Sx × Sx × Int} (h : Rets Try.prog f args w fun v w' => v = resV a ∧ St S M w') (e : a = b) :
    Rets Try.prog f args w fun v w' => v = resV b ∧ St S M w' := e ▸ h
theorem eqI {S M} {f : FuncId} {args : List Value} {w : World} {a b : Int} (h : Rets Try.prog f args w fun v w' => v = .int .i64 a ∧ St S M w') (e : a = b) :
    Rets Try.prog f args w fun v w' => v = .int .i64 b ∧ St S M w' := e ▸ h
theorem san1 : decS (encS ⟨3, 3, 0⟩ ⟨2, 4, 1⟩) = (⟨3, 3, 0⟩, ⟨2, 4, 1⟩, 0) := by decide +kernel
theorem san2 : (encS ⟨3, 3, 0⟩ ⟨2, 4, 1⟩).length ≤ 1048576 := by decide +kernel
theorem big1 : Sx.big ⟨3, 3, 0⟩ := by simp [Sx.big, I64]
theorem big2 : Sx.big ⟨2, 4, 1⟩ := by simp [Sx.big, I64]

set_option maxRecDepth 8000 in
set_option maxHeartbeats 4000000 in
theorem sanity_c {S M} (w : World) (hst : St S M w) :
    Rets Try.prog 20 [] w fun v w' => v = .bool true ∧ St S M w' := by
  unfold Rets
  go_enter Try.func20, Try.ntmps20
  repeat' ((fail_if_success (with_reducible show Code.wp _ (Code.region 9 _ _) _ _ _)); first
     | go_skip
     | (with_reducible refine Sl.k_guard ?_; (first | (refine Sl.guard_yes rfl ?_) | (refine Sl.guard_no rfl ?_) | (refine Sl.guard_cases rfl ?_ ?_ <;> intro hg <;> first | (exfalso; simp only [decide_eq_true_eq, decide_eq_false_iff_not, Bool.not_false, Bool.not_true, beq_iff_eq, beq_eq_false_iff_ne, ne_eq] at hg; omega) | (simp only [hg, Bool.not_true, Bool.not_false])) <;> (try simp only [decide_eq_true_eq, decide_eq_false_iff_not, Bool.not_false, Bool.not_true, beq_iff_eq, beq_eq_false_iff_ne, bne_iff_ne, bne_eq_false_iff_eq, ne_eq] at hg)) <;> (try simp only [List.set_cons_succ, List.set_cons_zero, vOf_true, vOf_false, List.drop_succ_cons, List.drop_zero, List.take_succ_cons, List.take_zero, putD, Int.toNat_zero, Int.reduceToNat, Nat.mul_one, Nat.zero_add, Nat.add_zero, Nat.reduceMul, Nat.reduceAdd, Nat.zero_mul, Int.reduceSub, Int.reduceAdd, Int.reduceMul, Int.reduceNeg, Bool.not_true, Bool.not_false]))
     | (with_reducible refine Sl.k_call ?_; (first
          | (refine s_call (eqR (b := (⟨3, 3, 0⟩, ⟨0, 0, 0⟩, 21)) (clear_c _ hst ⟨3, 3, 0⟩ ⟨0, 0, 0⟩ 0) (by decide)) inX rfl ?_; clear hst; rintro v w ⟨rfl, hst⟩)
          | (refine s_call (eqR (b := (⟨3, 3, 0⟩, ⟨1, 4, 0⟩, 0)) (stage_c _ hst ⟨3, 3, 0⟩ ⟨0, 0, 0⟩ 1 4) (by decide)) inX rfl ?_; clear hst; rintro v w ⟨rfl, hst⟩)
          | (refine s_call (eqR (b := (⟨3, 3, 0⟩, ⟨0, 0, 0⟩, 1)) (stage_c _ hst ⟨3, 3, 0⟩ ⟨0, 0, 0⟩ 2 4) (by decide)) inX rfl ?_; clear hst; rintro v w ⟨rfl, hst⟩)
          | (refine s_call (eqR (b := (⟨3, 3, 0⟩, ⟨2, 4, 1⟩, 0)) (begin_c _ hst ⟨3, 3, 0⟩ ⟨1, 4, 0⟩ 1) (by decide)) inX rfl ?_; clear hst; rintro v w ⟨rfl, hst⟩)
          | (refine s_call (eqR (b := (⟨3, 3, 0⟩, ⟨3, 4, 0⟩, 0)) (confirm_c _ hst ⟨3, 3, 0⟩ ⟨2, 4, 1⟩ 1) (by decide)) inX rfl ?_; clear hst; rintro v w ⟨rfl, hst⟩)
          | (refine s_call (eqR (b := (⟨3, 3, 0⟩, ⟨4, 4, 1⟩, 0)) (fail_c _ hst ⟨3, 3, 0⟩ ⟨2, 4, 1⟩ 1) (by decide)) inX rfl ?_; clear hst; rintro v w ⟨rfl, hst⟩)
          | (refine s_call (encode_c _ hst ⟨3, 3, 0⟩ ⟨2, 4, 1⟩ big1 big2) inX rfl ?_; clear hst; rintro v w ⟨rfl, hst⟩)
          | (refine s_call (eqR (decode_c _ hst (encS ⟨3, 3, 0⟩ ⟨2, 4, 1⟩) san2) san1) inX rfl ?_; clear hst; rintro v w ⟨rfl, hst⟩)) <;> (try simp only [List.set_cons_succ, List.set_cons_zero, vOf_true, vOf_false, List.drop_succ_cons, List.drop_zero, List.take_succ_cons, List.take_zero, putD, Int.toNat_zero, Int.reduceToNat, Nat.mul_one, Nat.zero_add, Nat.add_zero, Nat.reduceMul, Nat.reduceAdd, Nat.zero_mul, Int.reduceSub, Int.reduceAdd, Int.reduceMul, Int.reduceNeg, Bool.not_true, Bool.not_false]) <;> (try simp only [List.set_cons_succ, List.set_cons_zero, List.drop_succ_cons, List.drop_zero, List.take_succ_cons, List.take_zero, List.nil_append, List.cons_append, List.append_nil, Value.cells, List.eraseIdx_cons_zero, List.eraseIdx_cons_succ, Nat.zero_add, Nat.add_zero, List.flatten_cons, List.flatten_nil, List.map_cons, List.map_nil] at hst))
     | (with_reducible refine Sl.k_indexV ?_; (first | refine s_qt hst (by first | exact qt_indexV evX evX inX inX omX omX rfl rfl | exact qt_indexS evX evX StrT.u omX omX) ?_); (try simp only [List.set_cons_succ, List.set_cons_zero, vOf_true, vOf_false, List.drop_succ_cons, List.drop_zero, List.take_succ_cons, List.take_zero, putD, Int.toNat_zero, Int.reduceToNat, Nat.mul_one, Nat.zero_add, Nat.add_zero, Nat.reduceMul, Nat.reduceAdd, Nat.zero_mul, Int.reduceSub, Int.reduceAdd, Int.reduceMul, Int.reduceNeg, Bool.not_true, Bool.not_false]))
     | ((fail_if_success (go_big_may)); (first | go_skip | go_guarded | go_step))
     | ((first
          | (with_reducible refine Sl.k_load ?_; (first
            | refine s_qt hst (qt_load rfl _ BoxIn.h inX rfl rfl) ?_
            | (refine s_ex hst (qt_ldp_int evX asX inX) ?_; rintro v ⟨rfl, hI⟩)
            | refine s_qt hst (by first | exact qt_ldp_u8 evX asX inX | exact qt_ldp_bool evX asX inX) ?_
            | (refine s_ex hst (qt_ldp_str evX asX inX) ?_; rintro v ⟨rfl, hs⟩)
            | (refine s_ex hst (qt_ldp_list evX asX inX) ?_; rintro v ⟨hvl, hv1⟩)
            | (refine s_ex hst (qt_ldp evX asX inX) ?_; rintro v ⟨cl, rfl, hcl⟩)
            | refine s_qt hst (by first | exact qt_ldB evX asX SlIn.h inX omX | exact qt_ldI evX asX SlIn.h inX omX | exact qt_ld2 evX asX SlIn.h inX omX | exact qt_load_own evX asX SlIn.h inX rfl (by simp <;> omega) | exact qt_load rfl _ asX inX rfl rfl) ?_))
          | (with_reducible refine Sl.k_field ?_; (first
            | refine s_qt hst (qt_field rfl inX) ?_
            | (refine s_ex hst (qt_fieldp evX asX inX inX rfl) ?_; rintro v hp; (try simp only [Int.toNat_natCast, Int.toNat_natCast_add_one, Int.reduceToNat] at hp))
            | (refine s_ex hst (qt_field_own evX asX inX) ?_; rintro v hp; (try simp only [Int.toNat_natCast, Int.toNat_natCast_add_one, Int.reduceToNat] at hp))))
          | (with_reducible refine Sl.k_index ?_; (first
            | refine s_qt hst (qt_indexA rfl rfl inX inX omX omX) ?_
            | (refine s_ex hst (qt_indexP0 evX asX rfl inX inX) ?_; rintro v hp; (try simp only [Int.toNat_natCast, Int.toNat_natCast_add_one, Int.reduceToNat] at hp))
            | (refine s_ex hst (qt_indexP1 evX asX rfl inX inX) ?_; rintro v hp; (try simp only [Int.toNat_natCast, Int.toNat_natCast_add_one, Int.reduceToNat] at hp))
            | (refine s_ex hst (qt_index evX asX rfl inX inX omX omX) ?_; rintro v hp; (try simp only [Int.toNat_natCast, Int.toNat_natCast_add_one, Int.reduceToNat] at hp))
            | (refine s_ex hst (qt_indexAp evX asX rfl inX inX rfl omX omX) ?_; rintro v hp; (try simp only [Int.toNat_natCast, Int.toNat_natCast_add_one, Int.reduceToNat] at hp))
            | (refine s_ex hst (qt_index_own hst evX SlIn.h rfl inX inX omX omX) ?_; rintro v hp; (try simp only [Int.toNat_natCast, Int.toNat_natCast_add_one, Int.reduceToNat] at hp))))
          | (with_reducible refine Sl.k_call ?_; (first
            | refine s_qt hst (by first | exact qt_len evX asX inX | exact qt_len_str evX inX | exact qt_len_own evX SlIn.h inX | exact qt_max rfl rfl | exact qt_min rfl rfl) ?_))); simp only [List.set_cons_succ, List.set_cons_zero, vOf_true, vOf_false, List.drop_succ_cons, List.drop_zero, List.take_succ_cons, List.take_zero, putD, Int.toNat_zero, Int.reduceToNat, Nat.mul_one, Nat.zero_add, Nat.add_zero, Nat.reduceMul, Nat.reduceAdd, Nat.zero_mul, Int.reduceSub, Int.reduceAdd, Int.reduceMul, Int.reduceNeg, Bool.not_true, Bool.not_false])
     | (with_reducible refine Sl.gate rfl ?_; (first | go_skip | go_guarded | go_step))
     | ((first | (with_reducible refine Sl.k_store ?_; (first
            | refine s_stR hst rfl BoxIn.h evX asX inX rfl rfl ?_
            | refine s_store hst rfl _ BoxIn.h inX evX rfl lenOk oneOk (by simp) ?_
            | refine s_st1 hst rfl BoxIn.h evX asX inX (by simp) ?_
            | refine s_stB hst evX asX SlIn.h inX evX omX ?_
            | refine s_stI hst evX asX SlIn.h inX evX omX ?_
            | refine s_st2 hst evX asX SlIn.h inX evX omX ?_); clear hst; intro w hst) | (refine s_box hst evX rfl ?_; clear hst; intro bx w hst) | (refine s_alloc hst inX ?_; clear hst; intro bk w hst)); (try simp only [List.set_cons_succ, List.set_cons_zero, vOf_true, vOf_false, List.drop_succ_cons, List.drop_zero, List.take_succ_cons, List.take_zero, putD, Int.toNat_zero, Int.reduceToNat, Nat.mul_one, Nat.zero_add, Nat.add_zero, Nat.reduceMul, Nat.reduceAdd, Nat.zero_mul, Int.reduceSub, Int.reduceAdd, Int.reduceMul, Int.reduceNeg, Bool.not_true, Bool.not_false]); (try simp only [List.set_cons_succ, List.set_cons_zero, List.drop_succ_cons, List.drop_zero, List.take_succ_cons, List.take_zero, List.nil_append, List.cons_append, List.append_nil, Value.cells, List.eraseIdx_cons_zero, List.eraseIdx_cons_succ, Nat.zero_add, Nat.add_zero, List.flatten_cons, List.flatten_nil, List.map_cons, List.map_nil] at hst)))
  refine wp_region_lit ?_
  simp only [List.append_eq, List.cons_append, List.nil_append]
  repeat' (first
     | go_skip
     | (with_reducible refine Sl.k_bin ?_; (first
          | (refine s_qt hst (qt_eqlK_b rfl rfl (r_st big1 big2) (r_st big1 big2) inX inX inX (by first | assumption | exact decide_eq_true (by first | rfl | assumption) | exact decide_eq_false (by first | assumption | decide))) ?_)
          | (refine s_qt hst (qt_eqlK_b rfl rfl (r_sl big2) (r_sl big2) inX inX inX (by first | assumption | exact decide_eq_true (by first | rfl | assumption) | exact decide_eq_false (by first | assumption | decide))) ?_)); (try simp only [List.set_cons_succ, List.set_cons_zero, vOf_true, vOf_false, List.drop_succ_cons, List.drop_zero, List.take_succ_cons, List.take_zero, putD, Int.toNat_zero, Int.reduceToNat, Nat.mul_one, Nat.zero_add, Nat.add_zero, Nat.reduceMul, Nat.reduceAdd, Nat.zero_mul, Int.reduceSub, Int.reduceAdd, Int.reduceMul, Int.reduceNeg, Bool.not_true, Bool.not_false]))
     | (with_reducible refine Sl.k_guard ?_; (first | (refine Sl.guard_yes rfl ?_) | (refine Sl.guard_no rfl ?_) | (refine Sl.guard_cases rfl ?_ ?_ <;> intro hg <;> first | (exfalso; simp only [decide_eq_true_eq, decide_eq_false_iff_not, Bool.not_false, Bool.not_true, beq_iff_eq, beq_eq_false_iff_ne, ne_eq] at hg; omega) | (simp only [hg, Bool.not_true, Bool.not_false])) <;> (try simp only [decide_eq_true_eq, decide_eq_false_iff_not, Bool.not_false, Bool.not_true, beq_iff_eq, beq_eq_false_iff_ne, bne_iff_ne, bne_eq_false_iff_eq, ne_eq] at hg)) <;> (try simp only [List.set_cons_succ, List.set_cons_zero, vOf_true, vOf_false, List.drop_succ_cons, List.drop_zero, List.take_succ_cons, List.take_zero, putD, Int.toNat_zero, Int.reduceToNat, Nat.mul_one, Nat.zero_add, Nat.add_zero, Nat.reduceMul, Nat.reduceAdd, Nat.zero_mul, Int.reduceSub, Int.reduceAdd, Int.reduceMul, Int.reduceNeg, Bool.not_true, Bool.not_false]))
     | (with_reducible refine Sl.k_call ?_; (first
          | (refine s_call (Rets.eq (valid_c _ hst ⟨3, 3, 0⟩ ⟨0, 0, 0⟩) (c := true) (by decide)) inX rfl ?_; clear hst; rintro v w ⟨rfl, hst⟩)
          | (refine s_call (eqI (choose_c _ hst ⟨3, 3, 0⟩ ⟨0, 0, 0⟩ 1) (b := 0) (by decide)) inX rfl ?_; clear hst; rintro v w ⟨rfl, hst⟩)
          | (refine s_call (eqI (choose_c _ hst ⟨3, 3, 0⟩ ⟨0, 0, 0⟩ 4) (b := -1) (by decide)) inX rfl ?_; clear hst; rintro v w ⟨rfl, hst⟩)
          | (refine s_call (eqI (choose_c _ hst ⟨3, 3, 0⟩ ⟨1, 4, 0⟩ 1) (b := 1) (by decide)) inX rfl ?_; clear hst; rintro v w ⟨rfl, hst⟩)
          | (refine s_call (eqI (choose_c _ hst ⟨3, 3, 0⟩ ⟨3, 4, 0⟩ 1) (b := 1) (by decide)) inX rfl ?_; clear hst; rintro v w ⟨rfl, hst⟩)
          | (refine s_call (eqI (choose_c _ hst ⟨3, 3, 0⟩ ⟨4, 4, 1⟩ 1) (b := 0) (by decide)) inX rfl ?_; clear hst; rintro v w ⟨rfl, hst⟩)) <;> (try simp only [List.set_cons_succ, List.set_cons_zero, vOf_true, vOf_false, List.drop_succ_cons, List.drop_zero, List.take_succ_cons, List.take_zero, putD, Int.toNat_zero, Int.reduceToNat, Nat.mul_one, Nat.zero_add, Nat.add_zero, Nat.reduceMul, Nat.reduceAdd, Nat.zero_mul, Int.reduceSub, Int.reduceAdd, Int.reduceMul, Int.reduceNeg, Bool.not_true, Bool.not_false]) <;> (try simp only [List.set_cons_succ, List.set_cons_zero, List.drop_succ_cons, List.drop_zero, List.take_succ_cons, List.take_zero, List.nil_append, List.cons_append, List.append_nil, Value.cells, List.eraseIdx_cons_zero, List.eraseIdx_cons_succ, Nat.zero_add, Nat.add_zero, List.flatten_cons, List.flatten_nil, List.map_cons, List.map_nil] at hst))
     | (with_reducible refine wp_region_lit ?_)
     | (with_reducible refine Sl.gate rfl ?_; refine s_qt hst (by first | exact qt_move evX | exact qt_assign evX) ?_; (try simp only [List.set_cons_succ, List.set_cons_zero, vOf_true, vOf_false, List.drop_succ_cons, List.drop_zero, List.take_succ_cons, List.take_zero, putD, Int.toNat_zero, Int.reduceToNat, Nat.mul_one, Nat.zero_add, Nat.add_zero, Nat.reduceMul, Nat.reduceAdd, Nat.zero_mul, Int.reduceSub, Int.reduceAdd, Int.reduceMul, Int.reduceNeg, Bool.not_true, Bool.not_false]))
     | (with_reducible refine Sl.k_indexV ?_; (first | refine s_qt hst (by first | exact qt_indexV evX evX inX inX omX omX rfl rfl | exact qt_indexS evX evX StrT.u omX omX) ?_); (try simp only [List.set_cons_succ, List.set_cons_zero, vOf_true, vOf_false, List.drop_succ_cons, List.drop_zero, List.take_succ_cons, List.take_zero, putD, Int.toNat_zero, Int.reduceToNat, Nat.mul_one, Nat.zero_add, Nat.add_zero, Nat.reduceMul, Nat.reduceAdd, Nat.zero_mul, Int.reduceSub, Int.reduceAdd, Int.reduceMul, Int.reduceNeg, Bool.not_true, Bool.not_false]))
     | ((fail_if_success (go_big_may)); (first | go_skip | go_guarded | go_step))
     | ((first
          | (with_reducible refine Sl.k_load ?_; (first
            | refine s_qt hst (qt_load rfl _ BoxIn.h inX rfl rfl) ?_
            | (refine s_ex hst (qt_ldp_int evX asX inX) ?_; rintro v ⟨rfl, hI⟩)
            | refine s_qt hst (by first | exact qt_ldp_u8 evX asX inX | exact qt_ldp_bool evX asX inX) ?_
            | (refine s_ex hst (qt_ldp_str evX asX inX) ?_; rintro v ⟨rfl, hs⟩)
            | (refine s_ex hst (qt_ldp_list evX asX inX) ?_; rintro v ⟨hvl, hv1⟩)
            | (refine s_ex hst (qt_ldp evX asX inX) ?_; rintro v ⟨cl, rfl, hcl⟩)
            | refine s_qt hst (by first | exact qt_ldB evX asX SlIn.h inX omX | exact qt_ldI evX asX SlIn.h inX omX | exact qt_ld2 evX asX SlIn.h inX omX | exact qt_load_own evX asX SlIn.h inX rfl (by simp <;> omega) | exact qt_load rfl _ asX inX rfl rfl) ?_))
          | (with_reducible refine Sl.k_field ?_; (first
            | refine s_qt hst (qt_field rfl inX) ?_
            | (refine s_ex hst (qt_fieldp evX asX inX inX rfl) ?_; rintro v hp; (try simp only [Int.toNat_natCast, Int.toNat_natCast_add_one, Int.reduceToNat] at hp))
            | (refine s_ex hst (qt_field_own evX asX inX) ?_; rintro v hp; (try simp only [Int.toNat_natCast, Int.toNat_natCast_add_one, Int.reduceToNat] at hp))))
          | (with_reducible refine Sl.k_index ?_; (first
            | refine s_qt hst (qt_indexA rfl rfl inX inX omX omX) ?_
            | (refine s_ex hst (qt_indexP0 evX asX rfl inX inX) ?_; rintro v hp; (try simp only [Int.toNat_natCast, Int.toNat_natCast_add_one, Int.reduceToNat] at hp))
            | (refine s_ex hst (qt_indexP1 evX asX rfl inX inX) ?_; rintro v hp; (try simp only [Int.toNat_natCast, Int.toNat_natCast_add_one, Int.reduceToNat] at hp))
            | (refine s_ex hst (qt_index evX asX rfl inX inX omX omX) ?_; rintro v hp; (try simp only [Int.toNat_natCast, Int.toNat_natCast_add_one, Int.reduceToNat] at hp))
            | (refine s_ex hst (qt_indexAp evX asX rfl inX inX rfl omX omX) ?_; rintro v hp; (try simp only [Int.toNat_natCast, Int.toNat_natCast_add_one, Int.reduceToNat] at hp))
            | (refine s_ex hst (qt_index_own hst evX SlIn.h rfl inX inX omX omX) ?_; rintro v hp; (try simp only [Int.toNat_natCast, Int.toNat_natCast_add_one, Int.reduceToNat] at hp))))
          | (with_reducible refine Sl.k_call ?_; (first
            | refine s_qt hst (by first | exact qt_len evX asX inX | exact qt_len_str evX inX | exact qt_len_own evX SlIn.h inX | exact qt_max rfl rfl | exact qt_min rfl rfl) ?_))); simp only [List.set_cons_succ, List.set_cons_zero, vOf_true, vOf_false, List.drop_succ_cons, List.drop_zero, List.take_succ_cons, List.take_zero, putD, Int.toNat_zero, Int.reduceToNat, Nat.mul_one, Nat.zero_add, Nat.add_zero, Nat.reduceMul, Nat.reduceAdd, Nat.zero_mul, Int.reduceSub, Int.reduceAdd, Int.reduceMul, Int.reduceNeg, Bool.not_true, Bool.not_false])
     | (with_reducible refine Sl.gate rfl ?_; (first | go_skip | go_guarded | go_step))
     | ((first | (with_reducible refine Sl.k_store ?_; (first
            | refine s_stR hst rfl BoxIn.h evX asX inX rfl rfl ?_
            | refine s_store hst rfl _ BoxIn.h inX evX rfl lenOk oneOk (by simp) ?_
            | refine s_st1 hst rfl BoxIn.h evX asX inX (by simp) ?_
            | refine s_stB hst evX asX SlIn.h inX evX omX ?_
            | refine s_stI hst evX asX SlIn.h inX evX omX ?_
            | refine s_st2 hst evX asX SlIn.h inX evX omX ?_); clear hst; intro w hst) | (refine s_box hst evX rfl ?_; clear hst; intro bx w hst) | (refine s_alloc hst inX ?_; clear hst; intro bk w hst)); (try simp only [List.set_cons_succ, List.set_cons_zero, vOf_true, vOf_false, List.drop_succ_cons, List.drop_zero, List.take_succ_cons, List.take_zero, putD, Int.toNat_zero, Int.reduceToNat, Nat.mul_one, Nat.zero_add, Nat.add_zero, Nat.reduceMul, Nat.reduceAdd, Nat.zero_mul, Int.reduceSub, Int.reduceAdd, Int.reduceMul, Int.reduceNeg, Bool.not_true, Bool.not_false]); (try simp only [List.set_cons_succ, List.set_cons_zero, List.drop_succ_cons, List.drop_zero, List.take_succ_cons, List.take_zero, List.nil_append, List.cons_append, List.append_nil, Value.cells, List.eraseIdx_cons_zero, List.eraseIdx_cons_succ, Nat.zero_add, Nat.add_zero, List.flatten_cons, List.flatten_nil, List.map_cons, List.map_nil] at hst)))
  go_ret
  exact ⟨_, rfl, rfl, (by first | exact hst | exact hst.drop | exact hst.drop.drop | exact hst.drop.drop.drop | exact hst.drop.drop.drop.drop | exact hst.drop.drop.drop.drop.drop | exact hst.drop.drop.drop.drop.drop.drop | exact hst.drop.drop.drop.drop.drop.drop.drop | exact hst.drop.drop.drop.drop.drop.drop.drop.drop | exact hst.drop.drop.drop.drop.drop.drop.drop.drop.drop | exact hst.drop.drop.drop.drop.drop.drop.drop.drop.drop.drop | exact hst.drop.drop.drop.drop.drop.drop.drop.drop.drop.drop.drop | exact hst.drop.drop.drop.drop.drop.drop.drop.drop.drop.drop.drop.drop | exact hst.drop.drop.drop.drop.drop.drop.drop.drop.drop.drop.drop.drop.drop)⟩
end Go.Proofs.Ytncffjdmcalioaa
