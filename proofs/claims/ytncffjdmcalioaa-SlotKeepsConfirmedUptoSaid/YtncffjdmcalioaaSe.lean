/- Package slot: the transitions, as they are called. -/
import Derived.Test.YtncffjdmcalioaaSd
--@idxv
--@hgp
namespace Go.Proofs.Ytncffjdmcalioaa
set_option linter.unusedSimpArgs false
set_option linter.unusedVariables false
open Go.RowKit Go.Sl

theorem apply0_c {S M} (w : World) (hst : St S M w) (x y : Sx) (i : Int) (fm fn : FuncId) (may : Sx → Sx → Bool) (next : Sx → Sx) (bm : Body Try.prog fm) (bn : Body Try.prog fn)
    (hm : ∀ M' w' p q, Suf M M' → St S M' w' → Sx.ok p → Sx.ok q → Rets Try.prog fm [slV p, slV q] w' fun v w'' => v = .bool (may p q) ∧ St S M' w'')
    (hn : ∀ M' w' p, Suf M M' → St S M' w' → Sx.ok p → Rets Try.prog fn [slV p] w' fun v w'' => v = slV (next p) ∧ St S M' w'') :
    Rets Try.prog 33 [stV x y, .int .i64 i, .agg #[.func (.func fm) #[] #[], .func (.func fn) #[] #[]]] w fun v w' => v = resV (ap x y i may next) ∧ St S M w' :=
  apply_c w hst x y i fm fn [] [] may next hm hn
theorem apply1_c {S M} (w : World) (hst : St S M w) (x y : Sx) (i : Int) (fm fn : FuncId) (c : Value) (may : Sx → Sx → Bool) (next : Sx → Sx) (bm : Body Try.prog fm) (bn : Body Try.prog fn)
    (hm : ∀ M' w' p q, Suf M M' → St S M' w' → Sx.ok p → Sx.ok q → Rets Try.prog fm [slV p, slV q] w' fun v w'' => v = .bool (may p q) ∧ St S M' w'')
    (hn : ∀ M' w' p, Suf M M' → St S M' w' → Sx.ok p → Rets Try.prog fn [slV p, c] w' fun v w'' => v = slV (next p) ∧ St S M' w'') :
    Rets Try.prog 33 [stV x y, .int .i64 i, .agg #[.func (.func fm) #[] #[], .func (.func fn) #[] #[c]]] w fun v w' => v = resV (ap x y i may next) ∧ St S M w' :=
  apply_c w hst x y i fm fn [] [c] may next hm hn

set_option maxRecDepth 8000 in
set_option maxHeartbeats 400000 in
theorem clear_c {S M} (w : World) (hst : St S M w) (x y : Sx) (i : Int) :
    Rets Try.prog 10 [stV x y, .int .i64 i] w fun v w' => v = resV (clearM x y i) ∧ St S M w' := by
  unfold Rets
  go_enter Try.func10, Try.ntmps10
  repeat' (first
     | go_skip
     | (with_reducible refine Sl.k_guard ?_; (first | (refine Sl.guard_yes rfl ?_) | (refine Sl.guard_no rfl ?_) | (refine Sl.guard_cases rfl ?_ ?_ <;> intro hg <;> first | (exfalso; simp only [decide_eq_true_eq, decide_eq_false_iff_not, Bool.not_false, Bool.not_true, beq_iff_eq, beq_eq_false_iff_ne, ne_eq] at hg; omega) | (simp only [hg, Bool.not_true, Bool.not_false])) <;> (try simp only [decide_eq_true_eq, decide_eq_false_iff_not, Bool.not_false, Bool.not_true, beq_iff_eq, beq_eq_false_iff_ne, bne_iff_ne, bne_eq_false_iff_eq, ne_eq] at hg)) <;> (try simp only [List.set_cons_succ, List.set_cons_zero, vOf_true, vOf_false, List.drop_succ_cons, List.drop_zero, List.take_succ_cons, List.take_zero, putD, Int.toNat_zero, Int.reduceToNat, Nat.mul_one, Nat.zero_add, Nat.add_zero, Nat.reduceMul, Nat.reduceAdd, Nat.zero_mul, Int.reduceSub, Int.reduceAdd, Int.reduceMul, Int.reduceNeg, Bool.not_true, Bool.not_false]))
     | (with_reducible refine Sl.k_call ?_; (first
          | (refine s_call (apply0_c _ hst x y i 34 35 repl (fun _ => ⟨0, 0, 0⟩) inX inX (fun _ w p q _ h _ _ => repl_c w h p q) (fun _ w p _ h _ => clear1_c w h p)) inX rfl ?_; clear hst; rintro v w ⟨rfl, hst⟩)) <;> (try simp only [List.set_cons_succ, List.set_cons_zero, vOf_true, vOf_false, List.drop_succ_cons, List.drop_zero, List.take_succ_cons, List.take_zero, putD, Int.toNat_zero, Int.reduceToNat, Nat.mul_one, Nat.zero_add, Nat.add_zero, Nat.reduceMul, Nat.reduceAdd, Nat.zero_mul, Int.reduceSub, Int.reduceAdd, Int.reduceMul, Int.reduceNeg, Bool.not_true, Bool.not_false]) <;> (try simp only [List.set_cons_succ, List.set_cons_zero, List.drop_succ_cons, List.drop_zero, List.take_succ_cons, List.take_zero, List.nil_append, List.cons_append, List.append_nil, Value.cells, List.eraseIdx_cons_zero, List.eraseIdx_cons_succ, Nat.zero_add, Nat.add_zero, List.flatten_cons, List.flatten_nil, List.map_cons, List.map_nil] at hst))
     | (with_reducible refine Sl.k_indexV ?_; (first | refine s_qt hst (by first | exact qt_indexV evX evX inX inX omX omX rfl rfl | exact qt_indexS evX evX StrT.u omX omX) ?_); (try simp only [List.set_cons_succ, List.set_cons_zero, vOf_true, vOf_false, List.drop_succ_cons, List.drop_zero, List.take_succ_cons, List.take_zero, putD, Int.toNat_zero, Int.reduceToNat, Nat.mul_one, Nat.zero_add, Nat.add_zero, Nat.reduceMul, Nat.reduceAdd, Nat.zero_mul, Int.reduceSub, Int.reduceAdd, Int.reduceMul, Int.reduceNeg, Bool.not_true, Bool.not_false]))
     | ((fail_if_success (go_big_may)); (first | go_skip | go_guarded | go_step))
     | ((first
          | (with_reducible refine Sl.k_load ?_; (first
            | refine s_qt hst (qt_load rfl _ BoxIn.h inX rfl rfl) ?_
            | (refine s_ex hst (qt_ldp_int evX asX inX) ?_; rintro v ⟨rfl, hI⟩)
            | refine s_qt hst (by first | exact qt_ldp_u8 evX asX inX | exact qt_ldp_bool evX asX inX) ?_
            | (refine s_ex hst (qt_ldp_str evX asX inX) ?_; rintro v ⟨rfl, hs⟩)
            | (refine s_ex hst (qt_ldp_list evX asX inX) ?_; rintro v ⟨hvl, hv1⟩)
            | (refine s_ex hst (qt_ldp evX asX inX) ?_; rintro v ⟨cl, rfl, hcl⟩)
            | refine s_qt hst (by first | exact qt_ldB evX asX SlIn.h inX omX | exact qt_ldI evX asX SlIn.h inX omX | exact qt_ld2 evX asX SlIn.h inX omX | exact qt_load_own evX asX SlIn.h inX rfl (by simp <;> omega) | exact qt_load rfl _ asX inX rfl rfl) ?_))
          | (with_reducible refine Sl.k_field ?_; (first
            | refine s_qt hst (qt_field rfl inX) ?_
            | (refine s_ex hst (qt_fieldp evX asX inX inX rfl) ?_; rintro v hp; (try simp only [Int.toNat_natCast, Int.toNat_natCast_add_one, Int.reduceToNat] at hp))
            | (refine s_ex hst (qt_field_own evX asX inX) ?_; rintro v hp; (try simp only [Int.toNat_natCast, Int.toNat_natCast_add_one, Int.reduceToNat] at hp))))
          | (with_reducible refine Sl.k_index ?_; (first
            | refine s_qt hst (qt_indexA rfl rfl inX inX omX omX) ?_
            | (refine s_ex hst (qt_indexP0 evX asX rfl inX inX) ?_; rintro v hp; (try simp only [Int.toNat_natCast, Int.toNat_natCast_add_one, Int.reduceToNat] at hp))
            | (refine s_ex hst (qt_indexP1 evX asX rfl inX inX) ?_; rintro v hp; (try simp only [Int.toNat_natCast, Int.toNat_natCast_add_one, Int.reduceToNat] at hp))
            | (refine s_ex hst (qt_index evX asX rfl inX inX omX omX) ?_; rintro v hp; (try simp only [Int.toNat_natCast, Int.toNat_natCast_add_one, Int.reduceToNat] at hp))
            | (refine s_ex hst (qt_indexAp evX asX rfl inX inX rfl omX omX) ?_; rintro v hp; (try simp only [Int.toNat_natCast, Int.toNat_natCast_add_one, Int.reduceToNat] at hp))
            | (refine s_ex hst (qt_index_own hst evX SlIn.h rfl inX inX omX omX) ?_; rintro v hp; (try simp only [Int.toNat_natCast, Int.toNat_natCast_add_one, Int.reduceToNat] at hp))))
          | (with_reducible refine Sl.k_call ?_; (first
            | refine s_qt hst (by first | exact qt_len evX asX inX | exact qt_len_str evX inX | exact qt_len_own evX SlIn.h inX | exact qt_max rfl rfl | exact qt_min rfl rfl) ?_))); simp only [List.set_cons_succ, List.set_cons_zero, vOf_true, vOf_false, List.drop_succ_cons, List.drop_zero, List.take_succ_cons, List.take_zero, putD, Int.toNat_zero, Int.reduceToNat, Nat.mul_one, Nat.zero_add, Nat.add_zero, Nat.reduceMul, Nat.reduceAdd, Nat.zero_mul, Int.reduceSub, Int.reduceAdd, Int.reduceMul, Int.reduceNeg, Bool.not_true, Bool.not_false])
     | (with_reducible refine Sl.gate rfl ?_; (first | go_skip | go_guarded | go_step))
     | ((first | (with_reducible refine Sl.k_store ?_; (first
            | refine s_stR hst rfl BoxIn.h evX asX inX rfl rfl ?_
            | refine s_store hst rfl _ BoxIn.h inX evX rfl lenOk oneOk (by simp) ?_
            | refine s_st1 hst rfl BoxIn.h evX asX inX (by simp) ?_
            | refine s_stB hst evX asX SlIn.h inX evX omX ?_
            | refine s_stI hst evX asX SlIn.h inX evX omX ?_
            | refine s_st2 hst evX asX SlIn.h inX evX omX ?_); clear hst; intro w hst) | (refine s_box hst evX rfl ?_; clear hst; intro bx w hst) | (refine s_alloc hst inX ?_; clear hst; intro bk w hst)); (try simp only [List.set_cons_succ, List.set_cons_zero, vOf_true, vOf_false, List.drop_succ_cons, List.drop_zero, List.take_succ_cons, List.take_zero, putD, Int.toNat_zero, Int.reduceToNat, Nat.mul_one, Nat.zero_add, Nat.add_zero, Nat.reduceMul, Nat.reduceAdd, Nat.zero_mul, Int.reduceSub, Int.reduceAdd, Int.reduceMul, Int.reduceNeg, Bool.not_true, Bool.not_false]); (try simp only [List.set_cons_succ, List.set_cons_zero, List.drop_succ_cons, List.drop_zero, List.take_succ_cons, List.take_zero, List.nil_append, List.cons_append, List.append_nil, Value.cells, List.eraseIdx_cons_zero, List.eraseIdx_cons_succ, Nat.zero_add, Nat.add_zero, List.flatten_cons, List.flatten_nil, List.map_cons, List.map_nil] at hst)))
  refine ret_two rfl (rv_cell hst rfl _ BoxIn.h inX rfl rfl) (rv_tmp rfl) ?_; (try simp only [nth, List.drop_zero, List.drop_succ_cons, List.take_succ_cons, List.take_zero, vOf_true, vOf_false])
  exact ⟨_, rfl, rfl, (by first | exact hst | exact hst.drop | exact hst.drop.drop | exact hst.drop.drop.drop | exact hst.drop.drop.drop.drop | exact hst.drop.drop.drop.drop.drop | exact hst.drop.drop.drop.drop.drop.drop | exact hst.drop.drop.drop.drop.drop.drop.drop | exact hst.drop.drop.drop.drop.drop.drop.drop.drop | exact hst.drop.drop.drop.drop.drop.drop.drop.drop.drop | exact hst.drop.drop.drop.drop.drop.drop.drop.drop.drop.drop | exact hst.drop.drop.drop.drop.drop.drop.drop.drop.drop.drop.drop | exact hst.drop.drop.drop.drop.drop.drop.drop.drop.drop.drop.drop.drop | exact hst.drop.drop.drop.drop.drop.drop.drop.drop.drop.drop.drop.drop.drop)⟩

set_option maxRecDepth 8000 in
set_option maxHeartbeats 400000 in
theorem begin_c {S M} (w : World) (hst : St S M w) (x y : Sx) (i : Int) :
    Rets Try.prog 14 [stV x y, .int .i64 i] w fun v w' => v = resV (beginM x y i) ∧ St S M w' := by
  unfold Rets
  go_enter Try.func14, Try.ntmps14
  repeat' (first
     | go_skip
     | (with_reducible refine Sl.k_guard ?_; (first | (refine Sl.guard_yes rfl ?_) | (refine Sl.guard_no rfl ?_) | (refine Sl.guard_cases rfl ?_ ?_ <;> intro hg <;> first | (exfalso; simp only [decide_eq_true_eq, decide_eq_false_iff_not, Bool.not_false, Bool.not_true, beq_iff_eq, beq_eq_false_iff_ne, ne_eq] at hg; omega) | (simp only [hg, Bool.not_true, Bool.not_false])) <;> (try simp only [decide_eq_true_eq, decide_eq_false_iff_not, Bool.not_false, Bool.not_true, beq_iff_eq, beq_eq_false_iff_ne, bne_iff_ne, bne_eq_false_iff_eq, ne_eq] at hg)) <;> (try simp only [List.set_cons_succ, List.set_cons_zero, vOf_true, vOf_false, List.drop_succ_cons, List.drop_zero, List.take_succ_cons, List.take_zero, putD, Int.toNat_zero, Int.reduceToNat, Nat.mul_one, Nat.zero_add, Nat.add_zero, Nat.reduceMul, Nat.reduceAdd, Nat.zero_mul, Int.reduceSub, Int.reduceAdd, Int.reduceMul, Int.reduceNeg, Bool.not_true, Bool.not_false]))
     | (with_reducible refine Sl.k_call ?_; (first
          | (refine s_call (apply0_c _ hst x y i 39 41 (fun p _ => pend p) (fun p => ⟨2, p.v, p.t + 1⟩) inX inX (fun _ w p q _ h _ _ => begin1_c w h p q) (fun _ w p _ h hp => begin2_c w h p hp)) inX rfl ?_; clear hst; rintro v w ⟨rfl, hst⟩)) <;> (try simp only [List.set_cons_succ, List.set_cons_zero, vOf_true, vOf_false, List.drop_succ_cons, List.drop_zero, List.take_succ_cons, List.take_zero, putD, Int.toNat_zero, Int.reduceToNat, Nat.mul_one, Nat.zero_add, Nat.add_zero, Nat.reduceMul, Nat.reduceAdd, Nat.zero_mul, Int.reduceSub, Int.reduceAdd, Int.reduceMul, Int.reduceNeg, Bool.not_true, Bool.not_false]) <;> (try simp only [List.set_cons_succ, List.set_cons_zero, List.drop_succ_cons, List.drop_zero, List.take_succ_cons, List.take_zero, List.nil_append, List.cons_append, List.append_nil, Value.cells, List.eraseIdx_cons_zero, List.eraseIdx_cons_succ, Nat.zero_add, Nat.add_zero, List.flatten_cons, List.flatten_nil, List.map_cons, List.map_nil] at hst))
     | (with_reducible refine Sl.k_indexV ?_; (first | refine s_qt hst (by first | exact qt_indexV evX evX inX inX omX omX rfl rfl | exact qt_indexS evX evX StrT.u omX omX) ?_); (try simp only [List.set_cons_succ, List.set_cons_zero, vOf_true, vOf_false, List.drop_succ_cons, List.drop_zero, List.take_succ_cons, List.take_zero, putD, Int.toNat_zero, Int.reduceToNat, Nat.mul_one, Nat.zero_add, Nat.add_zero, Nat.reduceMul, Nat.reduceAdd, Nat.zero_mul, Int.reduceSub, Int.reduceAdd, Int.reduceMul, Int.reduceNeg, Bool.not_true, Bool.not_false]))
     | ((fail_if_success (go_big_may)); (first | go_skip | go_guarded | go_step))
     | ((first
          | (with_reducible refine Sl.k_load ?_; (first
            | refine s_qt hst (qt_load rfl _ BoxIn.h inX rfl rfl) ?_
            | (refine s_ex hst (qt_ldp_int evX asX inX) ?_; rintro v ⟨rfl, hI⟩)
            | refine s_qt hst (by first | exact qt_ldp_u8 evX asX inX | exact qt_ldp_bool evX asX inX) ?_
            | (refine s_ex hst (qt_ldp_str evX asX inX) ?_; rintro v ⟨rfl, hs⟩)
            | (refine s_ex hst (qt_ldp_list evX asX inX) ?_; rintro v ⟨hvl, hv1⟩)
            | (refine s_ex hst (qt_ldp evX asX inX) ?_; rintro v ⟨cl, rfl, hcl⟩)
            | refine s_qt hst (by first | exact qt_ldB evX asX SlIn.h inX omX | exact qt_ldI evX asX SlIn.h inX omX | exact qt_ld2 evX asX SlIn.h inX omX | exact qt_load_own evX asX SlIn.h inX rfl (by simp <;> omega) | exact qt_load rfl _ asX inX rfl rfl) ?_))
          | (with_reducible refine Sl.k_field ?_; (first
            | refine s_qt hst (qt_field rfl inX) ?_
            | (refine s_ex hst (qt_fieldp evX asX inX inX rfl) ?_; rintro v hp; (try simp only [Int.toNat_natCast, Int.toNat_natCast_add_one, Int.reduceToNat] at hp))
            | (refine s_ex hst (qt_field_own evX asX inX) ?_; rintro v hp; (try simp only [Int.toNat_natCast, Int.toNat_natCast_add_one, Int.reduceToNat] at hp))))
          | (with_reducible refine Sl.k_index ?_; (first
            | refine s_qt hst (qt_indexA rfl rfl inX inX omX omX) ?_
            | (refine s_ex hst (qt_indexP0 evX asX rfl inX inX) ?_; rintro v hp; (try simp only [Int.toNat_natCast, Int.toNat_natCast_add_one, Int.reduceToNat] at hp))
            | (refine s_ex hst (qt_indexP1 evX asX rfl inX inX) ?_; rintro v hp; (try simp only [Int.toNat_natCast, Int.toNat_natCast_add_one, Int.reduceToNat] at hp))
            | (refine s_ex hst (qt_index evX asX rfl inX inX omX omX) ?_; rintro v hp; (try simp only [Int.toNat_natCast, Int.toNat_natCast_add_one, Int.reduceToNat] at hp))
            | (refine s_ex hst (qt_indexAp evX asX rfl inX inX rfl omX omX) ?_; rintro v hp; (try simp only [Int.toNat_natCast, Int.toNat_natCast_add_one, Int.reduceToNat] at hp))
            | (refine s_ex hst (qt_index_own hst evX SlIn.h rfl inX inX omX omX) ?_; rintro v hp; (try simp only [Int.toNat_natCast, Int.toNat_natCast_add_one, Int.reduceToNat] at hp))))
          | (with_reducible refine Sl.k_call ?_; (first
            | refine s_qt hst (by first | exact qt_len evX asX inX | exact qt_len_str evX inX | exact qt_len_own evX SlIn.h inX | exact qt_max rfl rfl | exact qt_min rfl rfl) ?_))); simp only [List.set_cons_succ, List.set_cons_zero, vOf_true, vOf_false, List.drop_succ_cons, List.drop_zero, List.take_succ_cons, List.take_zero, putD, Int.toNat_zero, Int.reduceToNat, Nat.mul_one, Nat.zero_add, Nat.add_zero, Nat.reduceMul, Nat.reduceAdd, Nat.zero_mul, Int.reduceSub, Int.reduceAdd, Int.reduceMul, Int.reduceNeg, Bool.not_true, Bool.not_false])
     | (with_reducible refine Sl.gate rfl ?_; (first | go_skip | go_guarded | go_step))
     | ((first | (with_reducible refine Sl.k_store ?_; (first
            | refine s_stR hst rfl BoxIn.h evX asX inX rfl rfl ?_
            | refine s_store hst rfl _ BoxIn.h inX evX rfl lenOk oneOk (by simp) ?_
            | refine s_st1 hst rfl BoxIn.h evX asX inX (by simp) ?_
            | refine s_stB hst evX asX SlIn.h inX evX omX ?_
            | refine s_stI hst evX asX SlIn.h inX evX omX ?_
            | refine s_st2 hst evX asX SlIn.h inX evX omX ?_); clear hst; intro w hst) | (refine s_box hst evX rfl ?_; clear hst; intro bx w hst) | (refine s_alloc hst inX ?_; clear hst; intro bk w hst)); (try simp only [List.set_cons_succ, List.set_cons_zero, vOf_true, vOf_false, List.drop_succ_cons, List.drop_zero, List.take_succ_cons, List.take_zero, putD, Int.toNat_zero, Int.reduceToNat, Nat.mul_one, Nat.zero_add, Nat.add_zero, Nat.reduceMul, Nat.reduceAdd, Nat.zero_mul, Int.reduceSub, Int.reduceAdd, Int.reduceMul, Int.reduceNeg, Bool.not_true, Bool.not_false]); (try simp only [List.set_cons_succ, List.set_cons_zero, List.drop_succ_cons, List.drop_zero, List.take_succ_cons, List.take_zero, List.nil_append, List.cons_append, List.append_nil, Value.cells, List.eraseIdx_cons_zero, List.eraseIdx_cons_succ, Nat.zero_add, Nat.add_zero, List.flatten_cons, List.flatten_nil, List.map_cons, List.map_nil] at hst)))
  refine ret_two rfl (rv_cell hst rfl _ BoxIn.h inX rfl rfl) (rv_tmp rfl) ?_; (try simp only [nth, List.drop_zero, List.drop_succ_cons, List.take_succ_cons, List.take_zero, vOf_true, vOf_false])
  exact ⟨_, rfl, rfl, (by first | exact hst | exact hst.drop | exact hst.drop.drop | exact hst.drop.drop.drop | exact hst.drop.drop.drop.drop | exact hst.drop.drop.drop.drop.drop | exact hst.drop.drop.drop.drop.drop.drop | exact hst.drop.drop.drop.drop.drop.drop.drop | exact hst.drop.drop.drop.drop.drop.drop.drop.drop | exact hst.drop.drop.drop.drop.drop.drop.drop.drop.drop | exact hst.drop.drop.drop.drop.drop.drop.drop.drop.drop.drop | exact hst.drop.drop.drop.drop.drop.drop.drop.drop.drop.drop.drop | exact hst.drop.drop.drop.drop.drop.drop.drop.drop.drop.drop.drop.drop | exact hst.drop.drop.drop.drop.drop.drop.drop.drop.drop.drop.drop.drop.drop)⟩

set_option maxRecDepth 8000 in
set_option maxHeartbeats 400000 in
theorem confirm_c {S M} (w : World) (hst : St S M w) (x y : Sx) (i : Int) :
    Rets Try.prog 16 [stV x y, .int .i64 i] w fun v w' => v = resV (confM x y i) ∧ St S M w' := by
  unfold Rets
  go_enter Try.func16, Try.ntmps16
  repeat' (first
     | go_skip
     | (with_reducible refine Sl.k_guard ?_; (first | (refine Sl.guard_yes rfl ?_) | (refine Sl.guard_no rfl ?_) | (refine Sl.guard_cases rfl ?_ ?_ <;> intro hg <;> first | (exfalso; simp only [decide_eq_true_eq, decide_eq_false_iff_not, Bool.not_false, Bool.not_true, beq_iff_eq, beq_eq_false_iff_ne, ne_eq] at hg; omega) | (simp only [hg, Bool.not_true, Bool.not_false])) <;> (try simp only [decide_eq_true_eq, decide_eq_false_iff_not, Bool.not_false, Bool.not_true, beq_iff_eq, beq_eq_false_iff_ne, bne_iff_ne, bne_eq_false_iff_eq, ne_eq] at hg)) <;> (try simp only [List.set_cons_succ, List.set_cons_zero, vOf_true, vOf_false, List.drop_succ_cons, List.drop_zero, List.take_succ_cons, List.take_zero, putD, Int.toNat_zero, Int.reduceToNat, Nat.mul_one, Nat.zero_add, Nat.add_zero, Nat.reduceMul, Nat.reduceAdd, Nat.zero_mul, Int.reduceSub, Int.reduceAdd, Int.reduceMul, Int.reduceNeg, Bool.not_true, Bool.not_false]))
     | (with_reducible refine Sl.k_call ?_; (first
          | (refine s_call (apply0_c _ hst x y i 42 44 (fun p _ => p.s == 2 || conf p) (fun p => ⟨3, p.v, 0⟩) inX inX (fun _ w p q _ h _ _ => confirm1_c w h p q) (fun _ w p _ h _ => confirm2_c w h p)) inX rfl ?_; clear hst; rintro v w ⟨rfl, hst⟩)) <;> (try simp only [List.set_cons_succ, List.set_cons_zero, vOf_true, vOf_false, List.drop_succ_cons, List.drop_zero, List.take_succ_cons, List.take_zero, putD, Int.toNat_zero, Int.reduceToNat, Nat.mul_one, Nat.zero_add, Nat.add_zero, Nat.reduceMul, Nat.reduceAdd, Nat.zero_mul, Int.reduceSub, Int.reduceAdd, Int.reduceMul, Int.reduceNeg, Bool.not_true, Bool.not_false]) <;> (try simp only [List.set_cons_succ, List.set_cons_zero, List.drop_succ_cons, List.drop_zero, List.take_succ_cons, List.take_zero, List.nil_append, List.cons_append, List.append_nil, Value.cells, List.eraseIdx_cons_zero, List.eraseIdx_cons_succ, Nat.zero_add, Nat.add_zero, List.flatten_cons, List.flatten_nil, List.map_cons, List.map_nil] at hst))
     | (with_reducible refine Sl.k_indexV ?_; (first | refine s_qt hst (by first | exact qt_indexV evX evX inX inX omX omX rfl rfl | exact qt_indexS evX evX StrT.u omX omX) ?_); (try simp only [List.set_cons_succ, List.set_cons_zero, vOf_true, vOf_false, List.drop_succ_cons, List.drop_zero, List.take_succ_cons, List.take_zero, putD, Int.toNat_zero, Int.reduceToNat, Nat.mul_one, Nat.zero_add, Nat.add_zero, Nat.reduceMul, Nat.reduceAdd, Nat.zero_mul, Int.reduceSub, Int.reduceAdd, Int.reduceMul, Int.reduceNeg, Bool.not_true, Bool.not_false]))
     | ((fail_if_success (go_big_may)); (first | go_skip | go_guarded | go_step))
     | ((first
          | (with_reducible refine Sl.k_load ?_; (first
            | refine s_qt hst (qt_load rfl _ BoxIn.h inX rfl rfl) ?_
            | (refine s_ex hst (qt_ldp_int evX asX inX) ?_; rintro v ⟨rfl, hI⟩)
            | refine s_qt hst (by first | exact qt_ldp_u8 evX asX inX | exact qt_ldp_bool evX asX inX) ?_
            | (refine s_ex hst (qt_ldp_str evX asX inX) ?_; rintro v ⟨rfl, hs⟩)
            | (refine s_ex hst (qt_ldp_list evX asX inX) ?_; rintro v ⟨hvl, hv1⟩)
            | (refine s_ex hst (qt_ldp evX asX inX) ?_; rintro v ⟨cl, rfl, hcl⟩)
            | refine s_qt hst (by first | exact qt_ldB evX asX SlIn.h inX omX | exact qt_ldI evX asX SlIn.h inX omX | exact qt_ld2 evX asX SlIn.h inX omX | exact qt_load_own evX asX SlIn.h inX rfl (by simp <;> omega) | exact qt_load rfl _ asX inX rfl rfl) ?_))
          | (with_reducible refine Sl.k_field ?_; (first
            | refine s_qt hst (qt_field rfl inX) ?_
            | (refine s_ex hst (qt_fieldp evX asX inX inX rfl) ?_; rintro v hp; (try simp only [Int.toNat_natCast, Int.toNat_natCast_add_one, Int.reduceToNat] at hp))
            | (refine s_ex hst (qt_field_own evX asX inX) ?_; rintro v hp; (try simp only [Int.toNat_natCast, Int.toNat_natCast_add_one, Int.reduceToNat] at hp))))
          | (with_reducible refine Sl.k_index ?_; (first
            | refine s_qt hst (qt_indexA rfl rfl inX inX omX omX) ?_
            | (refine s_ex hst (qt_indexP0 evX asX rfl inX inX) ?_; rintro v hp; (try simp only [Int.toNat_natCast, Int.toNat_natCast_add_one, Int.reduceToNat] at hp))
            | (refine s_ex hst (qt_indexP1 evX asX rfl inX inX) ?_; rintro v hp; (try simp only [Int.toNat_natCast, Int.toNat_natCast_add_one, Int.reduceToNat] at hp))
            | (refine s_ex hst (qt_index evX asX rfl inX inX omX omX) ?_; rintro v hp; (try simp only [Int.toNat_natCast, Int.toNat_natCast_add_one, Int.reduceToNat] at hp))
            | (refine s_ex hst (qt_indexAp evX asX rfl inX inX rfl omX omX) ?_; rintro v hp; (try simp only [Int.toNat_natCast, Int.toNat_natCast_add_one, Int.reduceToNat] at hp))
            | (refine s_ex hst (qt_index_own hst evX SlIn.h rfl inX inX omX omX) ?_; rintro v hp; (try simp only [Int.toNat_natCast, Int.toNat_natCast_add_one, Int.reduceToNat] at hp))))
          | (with_reducible refine Sl.k_call ?_; (first
            | refine s_qt hst (by first | exact qt_len evX asX inX | exact qt_len_str evX inX | exact qt_len_own evX SlIn.h inX | exact qt_max rfl rfl | exact qt_min rfl rfl) ?_))); simp only [List.set_cons_succ, List.set_cons_zero, vOf_true, vOf_false, List.drop_succ_cons, List.drop_zero, List.take_succ_cons, List.take_zero, putD, Int.toNat_zero, Int.reduceToNat, Nat.mul_one, Nat.zero_add, Nat.add_zero, Nat.reduceMul, Nat.reduceAdd, Nat.zero_mul, Int.reduceSub, Int.reduceAdd, Int.reduceMul, Int.reduceNeg, Bool.not_true, Bool.not_false])
     | (with_reducible refine Sl.gate rfl ?_; (first | go_skip | go_guarded | go_step))
     | ((first | (with_reducible refine Sl.k_store ?_; (first
            | refine s_stR hst rfl BoxIn.h evX asX inX rfl rfl ?_
            | refine s_store hst rfl _ BoxIn.h inX evX rfl lenOk oneOk (by simp) ?_
            | refine s_st1 hst rfl BoxIn.h evX asX inX (by simp) ?_
            | refine s_stB hst evX asX SlIn.h inX evX omX ?_
            | refine s_stI hst evX asX SlIn.h inX evX omX ?_
            | refine s_st2 hst evX asX SlIn.h inX evX omX ?_); clear hst; intro w hst) | (refine s_box hst evX rfl ?_; clear hst; intro bx w hst) | (refine s_alloc hst inX ?_; clear hst; intro bk w hst)); (try simp only [List.set_cons_succ, List.set_cons_zero, vOf_true, vOf_false, List.drop_succ_cons, List.drop_zero, List.take_succ_cons, List.take_zero, putD, Int.toNat_zero, Int.reduceToNat, Nat.mul_one, Nat.zero_add, Nat.add_zero, Nat.reduceMul, Nat.reduceAdd, Nat.zero_mul, Int.reduceSub, Int.reduceAdd, Int.reduceMul, Int.reduceNeg, Bool.not_true, Bool.not_false]); (try simp only [List.set_cons_succ, List.set_cons_zero, List.drop_succ_cons, List.drop_zero, List.take_succ_cons, List.take_zero, List.nil_append, List.cons_append, List.append_nil, Value.cells, List.eraseIdx_cons_zero, List.eraseIdx_cons_succ, Nat.zero_add, Nat.add_zero, List.flatten_cons, List.flatten_nil, List.map_cons, List.map_nil] at hst)))
  refine ret_two rfl (rv_cell hst rfl _ BoxIn.h inX rfl rfl) (rv_tmp rfl) ?_; (try simp only [nth, List.drop_zero, List.drop_succ_cons, List.take_succ_cons, List.take_zero, vOf_true, vOf_false])
  exact ⟨_, rfl, rfl, (by first | exact hst | exact hst.drop | exact hst.drop.drop | exact hst.drop.drop.drop | exact hst.drop.drop.drop.drop | exact hst.drop.drop.drop.drop.drop | exact hst.drop.drop.drop.drop.drop.drop | exact hst.drop.drop.drop.drop.drop.drop.drop | exact hst.drop.drop.drop.drop.drop.drop.drop.drop | exact hst.drop.drop.drop.drop.drop.drop.drop.drop.drop | exact hst.drop.drop.drop.drop.drop.drop.drop.drop.drop.drop | exact hst.drop.drop.drop.drop.drop.drop.drop.drop.drop.drop.drop | exact hst.drop.drop.drop.drop.drop.drop.drop.drop.drop.drop.drop.drop | exact hst.drop.drop.drop.drop.drop.drop.drop.drop.drop.drop.drop.drop.drop)⟩

set_option maxRecDepth 8000 in
set_option maxHeartbeats 400000 in
theorem fail_c {S M} (w : World) (hst : St S M w) (x y : Sx) (i : Int) :
    Rets Try.prog 18 [stV x y, .int .i64 i] w fun v w' => v = resV (failM x y i) ∧ St S M w' := by
  unfold Rets
  go_enter Try.func18, Try.ntmps18
  repeat' (first
     | go_skip
     | (with_reducible refine Sl.k_guard ?_; (first | (refine Sl.guard_yes rfl ?_) | (refine Sl.guard_no rfl ?_) | (refine Sl.guard_cases rfl ?_ ?_ <;> intro hg <;> first | (exfalso; simp only [decide_eq_true_eq, decide_eq_false_iff_not, Bool.not_false, Bool.not_true, beq_iff_eq, beq_eq_false_iff_ne, ne_eq] at hg; omega) | (simp only [hg, Bool.not_true, Bool.not_false])) <;> (try simp only [decide_eq_true_eq, decide_eq_false_iff_not, Bool.not_false, Bool.not_true, beq_iff_eq, beq_eq_false_iff_ne, bne_iff_ne, bne_eq_false_iff_eq, ne_eq] at hg)) <;> (try simp only [List.set_cons_succ, List.set_cons_zero, vOf_true, vOf_false, List.drop_succ_cons, List.drop_zero, List.take_succ_cons, List.take_zero, putD, Int.toNat_zero, Int.reduceToNat, Nat.mul_one, Nat.zero_add, Nat.add_zero, Nat.reduceMul, Nat.reduceAdd, Nat.zero_mul, Int.reduceSub, Int.reduceAdd, Int.reduceMul, Int.reduceNeg, Bool.not_true, Bool.not_false]))
     | (with_reducible refine Sl.k_call ?_; (first
          | (refine s_call (apply0_c _ hst x y i 45 46 (fun p _ => p.s != 0 && p.s != 4) (fun p => ⟨4, p.v, p.t⟩) inX inX (fun _ w p q _ h hp _ => fail1_c w h p q hp.big) (fun _ w p _ h _ => fail2_c w h p)) inX rfl ?_; clear hst; rintro v w ⟨rfl, hst⟩)) <;> (try simp only [List.set_cons_succ, List.set_cons_zero, vOf_true, vOf_false, List.drop_succ_cons, List.drop_zero, List.take_succ_cons, List.take_zero, putD, Int.toNat_zero, Int.reduceToNat, Nat.mul_one, Nat.zero_add, Nat.add_zero, Nat.reduceMul, Nat.reduceAdd, Nat.zero_mul, Int.reduceSub, Int.reduceAdd, Int.reduceMul, Int.reduceNeg, Bool.not_true, Bool.not_false]) <;> (try simp only [List.set_cons_succ, List.set_cons_zero, List.drop_succ_cons, List.drop_zero, List.take_succ_cons, List.take_zero, List.nil_append, List.cons_append, List.append_nil, Value.cells, List.eraseIdx_cons_zero, List.eraseIdx_cons_succ, Nat.zero_add, Nat.add_zero, List.flatten_cons, List.flatten_nil, List.map_cons, List.map_nil] at hst))
     | (with_reducible refine Sl.k_indexV ?_; (first | refine s_qt hst (by first | exact qt_indexV evX evX inX inX omX omX rfl rfl | exact qt_indexS evX evX StrT.u omX omX) ?_); (try simp only [List.set_cons_succ, List.set_cons_zero, vOf_true, vOf_false, List.drop_succ_cons, List.drop_zero, List.take_succ_cons, List.take_zero, putD, Int.toNat_zero, Int.reduceToNat, Nat.mul_one, Nat.zero_add, Nat.add_zero, Nat.reduceMul, Nat.reduceAdd, Nat.zero_mul, Int.reduceSub, Int.reduceAdd, Int.reduceMul, Int.reduceNeg, Bool.not_true, Bool.not_false]))
     | ((fail_if_success (go_big_may)); (first | go_skip | go_guarded | go_step))
     | ((first
          | (with_reducible refine Sl.k_load ?_; (first
            | refine s_qt hst (qt_load rfl _ BoxIn.h inX rfl rfl) ?_
            | (refine s_ex hst (qt_ldp_int evX asX inX) ?_; rintro v ⟨rfl, hI⟩)
            | refine s_qt hst (by first | exact qt_ldp_u8 evX asX inX | exact qt_ldp_bool evX asX inX) ?_
            | (refine s_ex hst (qt_ldp_str evX asX inX) ?_; rintro v ⟨rfl, hs⟩)
            | (refine s_ex hst (qt_ldp_list evX asX inX) ?_; rintro v ⟨hvl, hv1⟩)
            | (refine s_ex hst (qt_ldp evX asX inX) ?_; rintro v ⟨cl, rfl, hcl⟩)
            | refine s_qt hst (by first | exact qt_ldB evX asX SlIn.h inX omX | exact qt_ldI evX asX SlIn.h inX omX | exact qt_ld2 evX asX SlIn.h inX omX | exact qt_load_own evX asX SlIn.h inX rfl (by simp <;> omega) | exact qt_load rfl _ asX inX rfl rfl) ?_))
          | (with_reducible refine Sl.k_field ?_; (first
            | refine s_qt hst (qt_field rfl inX) ?_
            | (refine s_ex hst (qt_fieldp evX asX inX inX rfl) ?_; rintro v hp; (try simp only [Int.toNat_natCast, Int.toNat_natCast_add_one, Int.reduceToNat] at hp))
            | (refine s_ex hst (qt_field_own evX asX inX) ?_; rintro v hp; (try simp only [Int.toNat_natCast, Int.toNat_natCast_add_one, Int.reduceToNat] at hp))))
          | (with_reducible refine Sl.k_index ?_; (first
            | refine s_qt hst (qt_indexA rfl rfl inX inX omX omX) ?_
            | (refine s_ex hst (qt_indexP0 evX asX rfl inX inX) ?_; rintro v hp; (try simp only [Int.toNat_natCast, Int.toNat_natCast_add_one, Int.reduceToNat] at hp))
            | (refine s_ex hst (qt_indexP1 evX asX rfl inX inX) ?_; rintro v hp; (try simp only [Int.toNat_natCast, Int.toNat_natCast_add_one, Int.reduceToNat] at hp))
            | (refine s_ex hst (qt_index evX asX rfl inX inX omX omX) ?_; rintro v hp; (try simp only [Int.toNat_natCast, Int.toNat_natCast_add_one, Int.reduceToNat] at hp))
            | (refine s_ex hst (qt_indexAp evX asX rfl inX inX rfl omX omX) ?_; rintro v hp; (try simp only [Int.toNat_natCast, Int.toNat_natCast_add_one, Int.reduceToNat] at hp))
            | (refine s_ex hst (qt_index_own hst evX SlIn.h rfl inX inX omX omX) ?_; rintro v hp; (try simp only [Int.toNat_natCast, Int.toNat_natCast_add_one, Int.reduceToNat] at hp))))
          | (with_reducible refine Sl.k_call ?_; (first
            | refine s_qt hst (by first | exact qt_len evX asX inX | exact qt_len_str evX inX | exact qt_len_own evX SlIn.h inX | exact qt_max rfl rfl | exact qt_min rfl rfl) ?_))); simp only [List.set_cons_succ, List.set_cons_zero, vOf_true, vOf_false, List.drop_succ_cons, List.drop_zero, List.take_succ_cons, List.take_zero, putD, Int.toNat_zero, Int.reduceToNat, Nat.mul_one, Nat.zero_add, Nat.add_zero, Nat.reduceMul, Nat.reduceAdd, Nat.zero_mul, Int.reduceSub, Int.reduceAdd, Int.reduceMul, Int.reduceNeg, Bool.not_true, Bool.not_false])
     | (with_reducible refine Sl.gate rfl ?_; (first | go_skip | go_guarded | go_step))
     | ((first | (with_reducible refine Sl.k_store ?_; (first
            | refine s_stR hst rfl BoxIn.h evX asX inX rfl rfl ?_
            | refine s_store hst rfl _ BoxIn.h inX evX rfl lenOk oneOk (by simp) ?_
            | refine s_st1 hst rfl BoxIn.h evX asX inX (by simp) ?_
            | refine s_stB hst evX asX SlIn.h inX evX omX ?_
            | refine s_stI hst evX asX SlIn.h inX evX omX ?_
            | refine s_st2 hst evX asX SlIn.h inX evX omX ?_); clear hst; intro w hst) | (refine s_box hst evX rfl ?_; clear hst; intro bx w hst) | (refine s_alloc hst inX ?_; clear hst; intro bk w hst)); (try simp only [List.set_cons_succ, List.set_cons_zero, vOf_true, vOf_false, List.drop_succ_cons, List.drop_zero, List.take_succ_cons, List.take_zero, putD, Int.toNat_zero, Int.reduceToNat, Nat.mul_one, Nat.zero_add, Nat.add_zero, Nat.reduceMul, Nat.reduceAdd, Nat.zero_mul, Int.reduceSub, Int.reduceAdd, Int.reduceMul, Int.reduceNeg, Bool.not_true, Bool.not_false]); (try simp only [List.set_cons_succ, List.set_cons_zero, List.drop_succ_cons, List.drop_zero, List.take_succ_cons, List.take_zero, List.nil_append, List.cons_append, List.append_nil, Value.cells, List.eraseIdx_cons_zero, List.eraseIdx_cons_succ, Nat.zero_add, Nat.add_zero, List.flatten_cons, List.flatten_nil, List.map_cons, List.map_nil] at hst)))
  refine ret_two rfl (rv_cell hst rfl _ BoxIn.h inX rfl rfl) (rv_tmp rfl) ?_; (try simp only [nth, List.drop_zero, List.drop_succ_cons, List.take_succ_cons, List.take_zero, vOf_true, vOf_false])
  exact ⟨_, rfl, rfl, (by first | exact hst | exact hst.drop | exact hst.drop.drop | exact hst.drop.drop.drop | exact hst.drop.drop.drop.drop | exact hst.drop.drop.drop.drop.drop | exact hst.drop.drop.drop.drop.drop.drop | exact hst.drop.drop.drop.drop.drop.drop.drop | exact hst.drop.drop.drop.drop.drop.drop.drop.drop | exact hst.drop.drop.drop.drop.drop.drop.drop.drop.drop | exact hst.drop.drop.drop.drop.drop.drop.drop.drop.drop.drop | exact hst.drop.drop.drop.drop.drop.drop.drop.drop.drop.drop.drop | exact hst.drop.drop.drop.drop.drop.drop.drop.drop.drop.drop.drop.drop | exact hst.drop.drop.drop.drop.drop.drop.drop.drop.drop.drop.drop.drop.drop)⟩

set_option maxRecDepth 8000 in
set_option maxHeartbeats 400000 in
theorem stage_c {S M} (w : World) (hst : St S M w) (x y : Sx) (i n : Int) :
    Rets Try.prog 12 [stV x y, .int .i64 i, .int .i64 n] w fun v w' => v = resV (stageM x y i n) ∧ St S M w' := by
  unfold Rets
  by_cases hn : n < 1 ∨ 16 < n
  · have e : stageM x y i n = (x, y, 1) := if_pos hn
    rcases hn with hn | hn <;>
    · go_enter Try.func12, Try.ntmps12
      repeat' (first
         | go_skip
         | (with_reducible refine Sl.k_guard ?_; (first | (refine Sl.guard_yes rfl ?_) | (refine Sl.guard_no rfl ?_) | (refine Sl.guard_cases rfl ?_ ?_ <;> intro hg <;> first | (exfalso; simp only [decide_eq_true_eq, decide_eq_false_iff_not, Bool.not_false, Bool.not_true, beq_iff_eq, beq_eq_false_iff_ne, ne_eq] at hg; omega) | (simp only [hg, Bool.not_true, Bool.not_false])) <;> (try simp only [decide_eq_true_eq, decide_eq_false_iff_not, Bool.not_false, Bool.not_true, beq_iff_eq, beq_eq_false_iff_ne, bne_iff_ne, bne_eq_false_iff_eq, ne_eq] at hg)) <;> (try simp only [List.set_cons_succ, List.set_cons_zero, vOf_true, vOf_false, List.drop_succ_cons, List.drop_zero, List.take_succ_cons, List.take_zero, putD, Int.toNat_zero, Int.reduceToNat, Nat.mul_one, Nat.zero_add, Nat.add_zero, Nat.reduceMul, Nat.reduceAdd, Nat.zero_mul, Int.reduceSub, Int.reduceAdd, Int.reduceMul, Int.reduceNeg, Bool.not_true, Bool.not_false]))
         | (with_reducible refine Sl.k_indexV ?_; (first | refine s_qt hst (by first | exact qt_indexV evX evX inX inX omX omX rfl rfl | exact qt_indexS evX evX StrT.u omX omX) ?_); (try simp only [List.set_cons_succ, List.set_cons_zero, vOf_true, vOf_false, List.drop_succ_cons, List.drop_zero, List.take_succ_cons, List.take_zero, putD, Int.toNat_zero, Int.reduceToNat, Nat.mul_one, Nat.zero_add, Nat.add_zero, Nat.reduceMul, Nat.reduceAdd, Nat.zero_mul, Int.reduceSub, Int.reduceAdd, Int.reduceMul, Int.reduceNeg, Bool.not_true, Bool.not_false]))
         | ((fail_if_success (go_big_may)); (first | go_skip | go_guarded | go_step))
         | ((first
              | (with_reducible refine Sl.k_load ?_; (first
                | refine s_qt hst (qt_load rfl _ BoxIn.h inX rfl rfl) ?_
                | (refine s_ex hst (qt_ldp_int evX asX inX) ?_; rintro v ⟨rfl, hI⟩)
                | refine s_qt hst (by first | exact qt_ldp_u8 evX asX inX | exact qt_ldp_bool evX asX inX) ?_
                | (refine s_ex hst (qt_ldp_str evX asX inX) ?_; rintro v ⟨rfl, hs⟩)
                | (refine s_ex hst (qt_ldp_list evX asX inX) ?_; rintro v ⟨hvl, hv1⟩)
                | (refine s_ex hst (qt_ldp evX asX inX) ?_; rintro v ⟨cl, rfl, hcl⟩)
                | refine s_qt hst (by first | exact qt_ldB evX asX SlIn.h inX omX | exact qt_ldI evX asX SlIn.h inX omX | exact qt_ld2 evX asX SlIn.h inX omX | exact qt_load_own evX asX SlIn.h inX rfl (by simp <;> omega) | exact qt_load rfl _ asX inX rfl rfl) ?_))
              | (with_reducible refine Sl.k_field ?_; (first
                | refine s_qt hst (qt_field rfl inX) ?_
                | (refine s_ex hst (qt_fieldp evX asX inX inX rfl) ?_; rintro v hp; (try simp only [Int.toNat_natCast, Int.toNat_natCast_add_one, Int.reduceToNat] at hp))
                | (refine s_ex hst (qt_field_own evX asX inX) ?_; rintro v hp; (try simp only [Int.toNat_natCast, Int.toNat_natCast_add_one, Int.reduceToNat] at hp))))
              | (with_reducible refine Sl.k_index ?_; (first
                | refine s_qt hst (qt_indexA rfl rfl inX inX omX omX) ?_
                | (refine s_ex hst (qt_indexP0 evX asX rfl inX inX) ?_; rintro v hp; (try simp only [Int.toNat_natCast, Int.toNat_natCast_add_one, Int.reduceToNat] at hp))
                | (refine s_ex hst (qt_indexP1 evX asX rfl inX inX) ?_; rintro v hp; (try simp only [Int.toNat_natCast, Int.toNat_natCast_add_one, Int.reduceToNat] at hp))
                | (refine s_ex hst (qt_index evX asX rfl inX inX omX omX) ?_; rintro v hp; (try simp only [Int.toNat_natCast, Int.toNat_natCast_add_one, Int.reduceToNat] at hp))
                | (refine s_ex hst (qt_indexAp evX asX rfl inX inX rfl omX omX) ?_; rintro v hp; (try simp only [Int.toNat_natCast, Int.toNat_natCast_add_one, Int.reduceToNat] at hp))
                | (refine s_ex hst (qt_index_own hst evX SlIn.h rfl inX inX omX omX) ?_; rintro v hp; (try simp only [Int.toNat_natCast, Int.toNat_natCast_add_one, Int.reduceToNat] at hp))))
              | (with_reducible refine Sl.k_call ?_; (first
                | refine s_qt hst (by first | exact qt_len evX asX inX | exact qt_len_str evX inX | exact qt_len_own evX SlIn.h inX | exact qt_max rfl rfl | exact qt_min rfl rfl) ?_))); simp only [List.set_cons_succ, List.set_cons_zero, vOf_true, vOf_false, List.drop_succ_cons, List.drop_zero, List.take_succ_cons, List.take_zero, putD, Int.toNat_zero, Int.reduceToNat, Nat.mul_one, Nat.zero_add, Nat.add_zero, Nat.reduceMul, Nat.reduceAdd, Nat.zero_mul, Int.reduceSub, Int.reduceAdd, Int.reduceMul, Int.reduceNeg, Bool.not_true, Bool.not_false])
         | (with_reducible refine Sl.gate rfl ?_; (first | go_skip | go_guarded | go_step))
         | ((first | (with_reducible refine Sl.k_store ?_; (first
                | refine s_stR hst rfl BoxIn.h evX asX inX rfl rfl ?_
                | refine s_store hst rfl _ BoxIn.h inX evX rfl lenOk oneOk (by simp) ?_
                | refine s_st1 hst rfl BoxIn.h evX asX inX (by simp) ?_
                | refine s_stB hst evX asX SlIn.h inX evX omX ?_
                | refine s_stI hst evX asX SlIn.h inX evX omX ?_
                | refine s_st2 hst evX asX SlIn.h inX evX omX ?_); clear hst; intro w hst) | (refine s_box hst evX rfl ?_; clear hst; intro bx w hst) | (refine s_alloc hst inX ?_; clear hst; intro bk w hst)); (try simp only [List.set_cons_succ, List.set_cons_zero, vOf_true, vOf_false, List.drop_succ_cons, List.drop_zero, List.take_succ_cons, List.take_zero, putD, Int.toNat_zero, Int.reduceToNat, Nat.mul_one, Nat.zero_add, Nat.add_zero, Nat.reduceMul, Nat.reduceAdd, Nat.zero_mul, Int.reduceSub, Int.reduceAdd, Int.reduceMul, Int.reduceNeg, Bool.not_true, Bool.not_false]); (try simp only [List.set_cons_succ, List.set_cons_zero, List.drop_succ_cons, List.drop_zero, List.take_succ_cons, List.take_zero, List.nil_append, List.cons_append, List.append_nil, Value.cells, List.eraseIdx_cons_zero, List.eraseIdx_cons_succ, Nat.zero_add, Nat.add_zero, List.flatten_cons, List.flatten_nil, List.map_cons, List.map_nil] at hst)))
      refine ret_two rfl (rv_cell hst rfl _ BoxIn.h inX rfl rfl) (rv_tmp rfl) ?_; (try simp only [nth, List.drop_zero, List.drop_succ_cons, List.take_succ_cons, List.take_zero, vOf_true, vOf_false])
      exact ⟨_, rfl, by rw [e], (by first | exact hst | exact hst.drop | exact hst.drop.drop | exact hst.drop.drop.drop | exact hst.drop.drop.drop.drop | exact hst.drop.drop.drop.drop.drop | exact hst.drop.drop.drop.drop.drop.drop | exact hst.drop.drop.drop.drop.drop.drop.drop | exact hst.drop.drop.drop.drop.drop.drop.drop.drop | exact hst.drop.drop.drop.drop.drop.drop.drop.drop.drop | exact hst.drop.drop.drop.drop.drop.drop.drop.drop.drop.drop | exact hst.drop.drop.drop.drop.drop.drop.drop.drop.drop.drop.drop | exact hst.drop.drop.drop.drop.drop.drop.drop.drop.drop.drop.drop.drop | exact hst.drop.drop.drop.drop.drop.drop.drop.drop.drop.drop.drop.drop.drop)⟩
  · have e : stageM x y i n = ap x y i repl (fun _ => ⟨1, n, 0⟩) := if_neg hn
    have h1 : 1 ≤ n := by omega
    have h2 : n ≤ 16 := by omega
    have He := Lib.hid e
    clear e hn
    go_enter Try.func12, Try.ntmps12
    repeat' (first
       | go_skip
       | (with_reducible refine Sl.k_guard ?_; (first | (refine Sl.guard_yes rfl ?_) | (refine Sl.guard_no rfl ?_) | (refine Sl.guard_cases rfl ?_ ?_ <;> intro hg <;> first | (exfalso; simp only [decide_eq_true_eq, decide_eq_false_iff_not, Bool.not_false, Bool.not_true, beq_iff_eq, beq_eq_false_iff_ne, ne_eq] at hg; omega) | (simp only [hg, Bool.not_true, Bool.not_false])) <;> (try simp only [decide_eq_true_eq, decide_eq_false_iff_not, Bool.not_false, Bool.not_true, beq_iff_eq, beq_eq_false_iff_ne, bne_iff_ne, bne_eq_false_iff_eq, ne_eq] at hg)) <;> (try simp only [List.set_cons_succ, List.set_cons_zero, vOf_true, vOf_false, List.drop_succ_cons, List.drop_zero, List.take_succ_cons, List.take_zero, putD, Int.toNat_zero, Int.reduceToNat, Nat.mul_one, Nat.zero_add, Nat.add_zero, Nat.reduceMul, Nat.reduceAdd, Nat.zero_mul, Int.reduceSub, Int.reduceAdd, Int.reduceMul, Int.reduceNeg, Bool.not_true, Bool.not_false]))
       | (with_reducible refine Sl.k_call ?_; (first
            | (refine s_call (apply1_c _ hst x y i 34 38 _ repl (fun _ => ⟨1, n, 0⟩) inX inX (fun _ w p q _ h _ _ => repl_c w h p q) ?hn) inX rfl ?_; (case hn => exact fun M' w p hs h _ => stage1_c w p _ _ n M' inX hs h); clear hst; rintro v w ⟨rfl, hst⟩; simp only [List.set_cons_succ, List.set_cons_zero, vOf_true, vOf_false, List.drop_succ_cons, List.drop_zero, List.take_succ_cons, List.take_zero, putD, Int.toNat_zero, Int.reduceToNat, Nat.mul_one, Nat.zero_add, Nat.add_zero, Nat.reduceMul, Nat.reduceAdd, Nat.zero_mul, Int.reduceSub, Int.reduceAdd, Int.reduceMul, Int.reduceNeg, Bool.not_true, Bool.not_false]; (try simp only [List.set_cons_succ, List.set_cons_zero, List.drop_succ_cons, List.drop_zero, List.take_succ_cons, List.take_zero, List.nil_append, List.cons_append, List.append_nil, Value.cells, List.eraseIdx_cons_zero, List.eraseIdx_cons_succ, Nat.zero_add, Nat.add_zero, List.flatten_cons, List.flatten_nil, List.map_cons, List.map_nil] at hst))))
       | (with_reducible refine Sl.k_indexV ?_; (first | refine s_qt hst (by first | exact qt_indexV evX evX inX inX omX omX rfl rfl | exact qt_indexS evX evX StrT.u omX omX) ?_); (try simp only [List.set_cons_succ, List.set_cons_zero, vOf_true, vOf_false, List.drop_succ_cons, List.drop_zero, List.take_succ_cons, List.take_zero, putD, Int.toNat_zero, Int.reduceToNat, Nat.mul_one, Nat.zero_add, Nat.add_zero, Nat.reduceMul, Nat.reduceAdd, Nat.zero_mul, Int.reduceSub, Int.reduceAdd, Int.reduceMul, Int.reduceNeg, Bool.not_true, Bool.not_false]))
       | ((fail_if_success (go_big_may)); (first | go_skip | go_guarded | go_step))
       | ((first
            | (with_reducible refine Sl.k_load ?_; (first
              | refine s_qt hst (qt_load rfl _ BoxIn.h inX rfl rfl) ?_
              | (refine s_ex hst (qt_ldp_int evX asX inX) ?_; rintro v ⟨rfl, hI⟩)
              | refine s_qt hst (by first | exact qt_ldp_u8 evX asX inX | exact qt_ldp_bool evX asX inX) ?_
              | (refine s_ex hst (qt_ldp_str evX asX inX) ?_; rintro v ⟨rfl, hs⟩)
              | (refine s_ex hst (qt_ldp_list evX asX inX) ?_; rintro v ⟨hvl, hv1⟩)
              | (refine s_ex hst (qt_ldp evX asX inX) ?_; rintro v ⟨cl, rfl, hcl⟩)
              | refine s_qt hst (by first | exact qt_ldB evX asX SlIn.h inX omX | exact qt_ldI evX asX SlIn.h inX omX | exact qt_ld2 evX asX SlIn.h inX omX | exact qt_load_own evX asX SlIn.h inX rfl (by simp <;> omega) | exact qt_load rfl _ asX inX rfl rfl) ?_))
            | (with_reducible refine Sl.k_field ?_; (first
              | refine s_qt hst (qt_field rfl inX) ?_
              | (refine s_ex hst (qt_fieldp evX asX inX inX rfl) ?_; rintro v hp; (try simp only [Int.toNat_natCast, Int.toNat_natCast_add_one, Int.reduceToNat] at hp))
              | (refine s_ex hst (qt_field_own evX asX inX) ?_; rintro v hp; (try simp only [Int.toNat_natCast, Int.toNat_natCast_add_one, Int.reduceToNat] at hp))))
            | (with_reducible refine Sl.k_index ?_; (first
              | refine s_qt hst (qt_indexA rfl rfl inX inX omX omX) ?_
              | (refine s_ex hst (qt_indexP0 evX asX rfl inX inX) ?_; rintro v hp; (try simp only [Int.toNat_natCast, Int.toNat_natCast_add_one, Int.reduceToNat] at hp))
              | (refine s_ex hst (qt_indexP1 evX asX rfl inX inX) ?_; rintro v hp; (try simp only [Int.toNat_natCast, Int.toNat_natCast_add_one, Int.reduceToNat] at hp))
              | (refine s_ex hst (qt_index evX asX rfl inX inX omX omX) ?_; rintro v hp; (try simp only [Int.toNat_natCast, Int.toNat_natCast_add_one, Int.reduceToNat] at hp))
              | (refine s_ex hst (qt_indexAp evX asX rfl inX inX rfl omX omX) ?_; rintro v hp; (try simp only [Int.toNat_natCast, Int.toNat_natCast_add_one, Int.reduceToNat] at hp))
              | (refine s_ex hst (qt_index_own hst evX SlIn.h rfl inX inX omX omX) ?_; rintro v hp; (try simp only [Int.toNat_natCast, Int.toNat_natCast_add_one, Int.reduceToNat] at hp))))
            | (with_reducible refine Sl.k_call ?_; (first
              | refine s_qt hst (by first | exact qt_len evX asX inX | exact qt_len_str evX inX | exact qt_len_own evX SlIn.h inX | exact qt_max rfl rfl | exact qt_min rfl rfl) ?_))); simp only [List.set_cons_succ, List.set_cons_zero, vOf_true, vOf_false, List.drop_succ_cons, List.drop_zero, List.take_succ_cons, List.take_zero, putD, Int.toNat_zero, Int.reduceToNat, Nat.mul_one, Nat.zero_add, Nat.add_zero, Nat.reduceMul, Nat.reduceAdd, Nat.zero_mul, Int.reduceSub, Int.reduceAdd, Int.reduceMul, Int.reduceNeg, Bool.not_true, Bool.not_false])
       | (with_reducible refine Sl.gate rfl ?_; (first | go_skip | go_guarded | go_step))
       | ((first | (with_reducible refine Sl.k_store ?_; (first
              | refine s_stR hst rfl BoxIn.h evX asX inX rfl rfl ?_
              | refine s_store hst rfl _ BoxIn.h inX evX rfl lenOk oneOk (by simp) ?_
              | refine s_st1 hst rfl BoxIn.h evX asX inX (by simp) ?_
              | refine s_stB hst evX asX SlIn.h inX evX omX ?_
              | refine s_stI hst evX asX SlIn.h inX evX omX ?_
              | refine s_st2 hst evX asX SlIn.h inX evX omX ?_); clear hst; intro w hst) | (refine s_box hst evX rfl ?_; clear hst; intro bx w hst) | (refine s_alloc hst inX ?_; clear hst; intro bk w hst)); (try simp only [List.set_cons_succ, List.set_cons_zero, vOf_true, vOf_false, List.drop_succ_cons, List.drop_zero, List.take_succ_cons, List.take_zero, putD, Int.toNat_zero, Int.reduceToNat, Nat.mul_one, Nat.zero_add, Nat.add_zero, Nat.reduceMul, Nat.reduceAdd, Nat.zero_mul, Int.reduceSub, Int.reduceAdd, Int.reduceMul, Int.reduceNeg, Bool.not_true, Bool.not_false]); (try simp only [List.set_cons_succ, List.set_cons_zero, List.drop_succ_cons, List.drop_zero, List.take_succ_cons, List.take_zero, List.nil_append, List.cons_append, List.append_nil, Value.cells, List.eraseIdx_cons_zero, List.eraseIdx_cons_succ, Nat.zero_add, Nat.add_zero, List.flatten_cons, List.flatten_nil, List.map_cons, List.map_nil] at hst)))
    refine ret_two rfl (rv_cell hst rfl _ BoxIn.h inX rfl rfl) (rv_tmp rfl) ?_; (try simp only [nth, List.drop_zero, List.drop_succ_cons, List.take_succ_cons, List.take_zero, vOf_true, vOf_false])
    exact ⟨_, rfl, by rw [He.out], (by first | exact hst | exact hst.drop | exact hst.drop.drop | exact hst.drop.drop.drop | exact hst.drop.drop.drop.drop | exact hst.drop.drop.drop.drop.drop | exact hst.drop.drop.drop.drop.drop.drop | exact hst.drop.drop.drop.drop.drop.drop.drop | exact hst.drop.drop.drop.drop.drop.drop.drop.drop | exact hst.drop.drop.drop.drop.drop.drop.drop.drop.drop | exact hst.drop.drop.drop.drop.drop.drop.drop.drop.drop.drop | exact hst.drop.drop.drop.drop.drop.drop.drop.drop.drop.drop.drop | exact hst.drop.drop.drop.drop.drop.drop.drop.drop.drop.drop.drop.drop | exact hst.drop.drop.drop.drop.drop.drop.drop.drop.drop.drop.drop.drop.drop)⟩

end Go.Proofs.Ytncffjdmcalioaa
