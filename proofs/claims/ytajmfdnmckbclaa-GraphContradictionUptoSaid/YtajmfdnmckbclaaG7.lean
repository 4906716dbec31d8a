/- Package graph: 'Possible'. -/
import Derived.Test.YtajmfdnmckbclaaG6
namespace Go.Proofs.Ytajmfdnmckbclaa
set_option linter.unusedSimpArgs false
set_option linter.unusedVariables false
open Go.RowKit Go.Sl

/-- Outcome i is at peace with its enclosing point. -/
def okAt (en : List (Int × Int)) (took : List Int) (i : Nat) : Bool := !(took.getD i 0 != 0 && shutB (en.getD i (-1, 0)).1 (en.getD i (-1, 0)).2 took)
def possB (en : List (Int × Int)) (took : List Int) : Bool := validB took en.length 0 && (List.range took.length).all (okAt en took)

theorem Rets.eq {P : Program} {f : FuncId} {args : List Value} {w : World} {S : Snap} {M : List Chunk} {b c : Bool} (h : Rets P f args w fun v w' => v = .bool b ∧ St S M w') (e : b = c) :
    Rets P f args w fun v w' => v = .bool c ∧ St S M w' := e ▸ h

set_option maxRecDepth 4000 in
set_option maxHeartbeats 1000000 in
theorem possible_c {S M} (w : World) (hst : St S M w) (vi vn : Value) (root pts : Int) (ins : List (Str × Int × Int × Int × Unit)) (nodes : List Nd) (hi : RSl S vi ins) (hn : RSl S vn nodes) (hnn : nodes.length ≤ 140737488355328) (hr : I64 root) (hp : I64 pts)
    (vt : Value) (took : List Int) (ht : RSl S vt took) (hm : took.length ≤ 9223372036854775807) :
    Rets Try.prog 10 [.agg #[vi, vn, .int .i64 root, .int .i64 pts], vt] w fun v w' => v = .bool (possB (encl nodes root pts) took) ∧ St S M w' := by
  unfold Rets
  have h1 := hi.oneCell
  have h2 := hn.oneCell
  obtain ⟨hel, hes⟩ := encl_shape nodes root pts
  have hnp : npOf pts ≤ 8 := by unfold npOf; omega
  cases hv : validB took (encl nodes root pts).length 0 with
  | false =>
    go_enter Try.func10, Try.ntmps10
    repeat' (first
       | go_skip
       | (with_reducible refine Sl.k_guard ?_; (first | (refine Sl.guard_yes rfl ?_) | (refine Sl.guard_no rfl ?_) | (refine Sl.guard_cases rfl ?_ ?_ <;> intro hg <;> first | (exfalso; simp only [decide_eq_true_eq, decide_eq_false_iff_not, Bool.not_false, Bool.not_true, beq_iff_eq, beq_eq_false_iff_ne, ne_eq] at hg; omega) | (simp only [hg, Bool.not_true, Bool.not_false]))) <;> (try simp only [List.set_cons_succ, List.set_cons_zero, vOf_true, vOf_false, List.drop_succ_cons, List.drop_zero, List.take_succ_cons, List.take_zero, putD, Int.toNat_zero, Int.reduceToNat, Nat.mul_one, Nat.zero_add, Nat.add_zero, Nat.reduceMul, Nat.reduceAdd, Nat.zero_mul]))
       | ((fail_if_success (go_big_may)); (first | go_skip | go_guarded | go_step))
       | (with_reducible refine Sl.k_call ?_; (first
            | (refine s_call (enclosing_c w hst vi vn root pts ins nodes hi hn hnn hr hp) inX rfl ?_; clear hst; rintro v w ⟨S', hle, hen, hst⟩)) <;> (try simp only [List.set_cons_succ, List.set_cons_zero, vOf_true, vOf_false, List.drop_succ_cons, List.drop_zero, List.take_succ_cons, List.take_zero, putD, Int.toNat_zero, Int.reduceToNat, Nat.mul_one, Nat.zero_add, Nat.add_zero, Nat.reduceMul, Nat.reduceAdd, Nat.zero_mul]) <;> (try simp only [List.set_cons_succ, List.set_cons_zero, List.drop_succ_cons, List.drop_zero, List.take_succ_cons, List.take_zero, List.nil_append, List.cons_append, List.append_nil, Value.cells, List.eraseIdx_cons_zero, List.eraseIdx_cons_succ, Nat.zero_add, Nat.add_zero, List.flatten_cons, List.flatten_nil, List.map_cons, List.map_nil] at hst))
       | ((first
            | (with_reducible refine Sl.k_load ?_; (first
              | refine s_qt hst (qt_load rfl _ BoxIn.h inX rfl rfl) ?_
              | (refine s_ex hst (qt_ldp_int evX asX inX) ?_; rintro v ⟨rfl, hI⟩)
              | refine s_qt hst (by first | exact qt_ldp_u8 evX asX inX | exact qt_ldp_bool evX asX inX) ?_
              | (refine s_ex hst (qt_ldp_str evX asX inX) ?_; rintro v ⟨rfl, hs⟩)
              | (refine s_ex hst (qt_ldp_list evX asX inX) ?_; rintro v ⟨hvl, hv1⟩)
              | (refine s_ex hst (qt_ldp evX asX inX) ?_; rintro v ⟨cl, rfl, hcl⟩)
              | refine s_qt hst (by first | exact qt_ldB evX asX SlIn.h inX omX | exact qt_ldI evX asX SlIn.h inX omX | exact qt_ld2 evX asX SlIn.h inX omX | exact qt_load_own evX asX SlIn.h inX rfl (by simp; omega) | exact qt_load rfl _ asX inX rfl rfl) ?_))
            | (with_reducible refine Sl.k_field ?_; (first
              | refine s_qt hst (qt_field rfl inX) ?_
              | (refine s_ex hst (qt_fieldp evX asX inX inX rfl) ?_; rintro v hp; (try simp only [Int.toNat_natCast, Int.toNat_natCast_add_one, Int.reduceToNat] at hp))
              | (refine s_ex hst (qt_field_own evX asX inX) ?_; rintro v hp; (try simp only [Int.toNat_natCast, Int.toNat_natCast_add_one, Int.reduceToNat] at hp))))
            | (with_reducible refine Sl.k_index ?_; (first
              | refine s_qt hst (qt_indexA rfl rfl inX inX omX omX) ?_
              | (refine s_ex hst (qt_indexP0 evX asX rfl inX inX) ?_; rintro v hp; (try simp only [Int.toNat_natCast, Int.toNat_natCast_add_one, Int.reduceToNat] at hp))
              | (refine s_ex hst (qt_indexP1 evX asX rfl inX inX) ?_; rintro v hp; (try simp only [Int.toNat_natCast, Int.toNat_natCast_add_one, Int.reduceToNat] at hp))
              | (refine s_ex hst (qt_index evX asX rfl inX inX omX omX) ?_; rintro v hp; (try simp only [Int.toNat_natCast, Int.toNat_natCast_add_one, Int.reduceToNat] at hp))
              | (refine s_ex hst (qt_indexAp evX asX rfl inX inX rfl omX omX) ?_; rintro v hp; (try simp only [Int.toNat_natCast, Int.toNat_natCast_add_one, Int.reduceToNat] at hp))
              | (refine s_ex hst (qt_index_own hst evX SlIn.h rfl inX inX omX omX) ?_; rintro v hp; (try simp only [Int.toNat_natCast, Int.toNat_natCast_add_one, Int.reduceToNat] at hp))))
            | (with_reducible refine Sl.k_call ?_; (first
              | refine s_qt hst (by first | exact qt_len evX asX inX | exact qt_len_own evX SlIn.h inX | exact qt_max rfl rfl | exact qt_min rfl rfl) ?_))); simp only [List.set_cons_succ, List.set_cons_zero, vOf_true, vOf_false, List.drop_succ_cons, List.drop_zero, List.take_succ_cons, List.take_zero, putD, Int.toNat_zero, Int.reduceToNat, Nat.mul_one, Nat.zero_add, Nat.add_zero, Nat.reduceMul, Nat.reduceAdd, Nat.zero_mul])
       | (with_reducible refine Sl.gate rfl ?_; (first | go_skip | go_guarded | go_step))
       | ((first | (with_reducible refine Sl.k_store ?_; (first
              | refine s_stR hst rfl BoxIn.h evX asX inX rfl rfl ?_
              | refine s_store hst rfl _ BoxIn.h inX evX rfl lenOk oneOk (by simp) ?_
              | refine s_st1 hst rfl BoxIn.h evX asX inX (by simp) ?_
              | refine s_stB hst evX asX SlIn.h inX evX omX ?_
              | refine s_stI hst evX asX SlIn.h inX evX omX ?_
              | refine s_st2 hst evX asX SlIn.h inX evX omX ?_); clear hst; intro w hst) | (refine s_box hst evX rfl ?_; clear hst; intro bx w hst) | (refine s_alloc hst inX ?_; clear hst; intro bk w hst)); (try simp only [List.set_cons_succ, List.set_cons_zero, vOf_true, vOf_false, List.drop_succ_cons, List.drop_zero, List.take_succ_cons, List.take_zero, putD, Int.toNat_zero, Int.reduceToNat, Nat.mul_one, Nat.zero_add, Nat.add_zero, Nat.reduceMul, Nat.reduceAdd, Nat.zero_mul]); (try simp only [List.set_cons_succ, List.set_cons_zero, List.drop_succ_cons, List.drop_zero, List.take_succ_cons, List.take_zero, List.nil_append, List.cons_append, List.append_nil, Value.cells, List.eraseIdx_cons_zero, List.eraseIdx_cons_succ, Nat.zero_add, Nat.add_zero, List.flatten_cons, List.flatten_nil, List.map_cons, List.map_nil] at hst)))
    have ht' := ht.mono hle
    repeat' (first
       | go_skip
       | (with_reducible refine Sl.k_guard ?_; (first | (refine Sl.guard_yes rfl ?_) | (refine Sl.guard_no rfl ?_) | (refine Sl.guard_cases rfl ?_ ?_ <;> intro hg <;> first | (exfalso; simp only [decide_eq_true_eq, decide_eq_false_iff_not, Bool.not_false, Bool.not_true, beq_iff_eq, beq_eq_false_iff_ne, ne_eq] at hg; omega) | (simp only [hg, Bool.not_true, Bool.not_false]))) <;> (try simp only [List.set_cons_succ, List.set_cons_zero, vOf_true, vOf_false, List.drop_succ_cons, List.drop_zero, List.take_succ_cons, List.take_zero, putD, Int.toNat_zero, Int.reduceToNat, Nat.mul_one, Nat.zero_add, Nat.add_zero, Nat.reduceMul, Nat.reduceAdd, Nat.zero_mul]))
       | ((fail_if_success (go_big_may)); (first | go_skip | go_guarded | go_step))
       | (with_reducible refine Sl.k_call ?_; (first
            | (refine s_call (Rets.eq (valid_c w hst _ took ht' hm _ 0) hv) inX rfl ?_; clear hst; rintro v w ⟨rfl, hst⟩)) <;> (try simp only [List.set_cons_succ, List.set_cons_zero, vOf_true, vOf_false, List.drop_succ_cons, List.drop_zero, List.take_succ_cons, List.take_zero, putD, Int.toNat_zero, Int.reduceToNat, Nat.mul_one, Nat.zero_add, Nat.add_zero, Nat.reduceMul, Nat.reduceAdd, Nat.zero_mul]) <;> (try simp only [List.set_cons_succ, List.set_cons_zero, List.drop_succ_cons, List.drop_zero, List.take_succ_cons, List.take_zero, List.nil_append, List.cons_append, List.append_nil, Value.cells, List.eraseIdx_cons_zero, List.eraseIdx_cons_succ, Nat.zero_add, Nat.add_zero, List.flatten_cons, List.flatten_nil, List.map_cons, List.map_nil] at hst))
       | ((first
            | (with_reducible refine Sl.k_load ?_; (first
              | refine s_qt hst (qt_load rfl _ BoxIn.h inX rfl rfl) ?_
              | (refine s_ex hst (qt_ldp_int evX asX inX) ?_; rintro v ⟨rfl, hI⟩)
              | refine s_qt hst (by first | exact qt_ldp_u8 evX asX inX | exact qt_ldp_bool evX asX inX) ?_
              | (refine s_ex hst (qt_ldp_str evX asX inX) ?_; rintro v ⟨rfl, hs⟩)
              | (refine s_ex hst (qt_ldp_list evX asX inX) ?_; rintro v ⟨hvl, hv1⟩)
              | (refine s_ex hst (qt_ldp evX asX inX) ?_; rintro v ⟨cl, rfl, hcl⟩)
              | refine s_qt hst (by first | exact qt_ldB evX asX SlIn.h inX omX | exact qt_ldI evX asX SlIn.h inX omX | exact qt_ld2 evX asX SlIn.h inX omX | exact qt_load_own evX asX SlIn.h inX rfl (by simp; omega) | exact qt_load rfl _ asX inX rfl rfl) ?_))
            | (with_reducible refine Sl.k_field ?_; (first
              | refine s_qt hst (qt_field rfl inX) ?_
              | (refine s_ex hst (qt_fieldp evX asX inX inX rfl) ?_; rintro v hp; (try simp only [Int.toNat_natCast, Int.toNat_natCast_add_one, Int.reduceToNat] at hp))
              | (refine s_ex hst (qt_field_own evX asX inX) ?_; rintro v hp; (try simp only [Int.toNat_natCast, Int.toNat_natCast_add_one, Int.reduceToNat] at hp))))
            | (with_reducible refine Sl.k_index ?_; (first
              | refine s_qt hst (qt_indexA rfl rfl inX inX omX omX) ?_
              | (refine s_ex hst (qt_indexP0 evX asX rfl inX inX) ?_; rintro v hp; (try simp only [Int.toNat_natCast, Int.toNat_natCast_add_one, Int.reduceToNat] at hp))
              | (refine s_ex hst (qt_indexP1 evX asX rfl inX inX) ?_; rintro v hp; (try simp only [Int.toNat_natCast, Int.toNat_natCast_add_one, Int.reduceToNat] at hp))
              | (refine s_ex hst (qt_index evX asX rfl inX inX omX omX) ?_; rintro v hp; (try simp only [Int.toNat_natCast, Int.toNat_natCast_add_one, Int.reduceToNat] at hp))
              | (refine s_ex hst (qt_indexAp evX asX rfl inX inX rfl omX omX) ?_; rintro v hp; (try simp only [Int.toNat_natCast, Int.toNat_natCast_add_one, Int.reduceToNat] at hp))
              | (refine s_ex hst (qt_index_own hst evX SlIn.h rfl inX inX omX omX) ?_; rintro v hp; (try simp only [Int.toNat_natCast, Int.toNat_natCast_add_one, Int.reduceToNat] at hp))))
            | (with_reducible refine Sl.k_call ?_; (first
              | refine s_qt hst (by first | exact qt_len evX asX inX | exact qt_len_own evX SlIn.h inX | exact qt_max rfl rfl | exact qt_min rfl rfl) ?_))); simp only [List.set_cons_succ, List.set_cons_zero, vOf_true, vOf_false, List.drop_succ_cons, List.drop_zero, List.take_succ_cons, List.take_zero, putD, Int.toNat_zero, Int.reduceToNat, Nat.mul_one, Nat.zero_add, Nat.add_zero, Nat.reduceMul, Nat.reduceAdd, Nat.zero_mul])
       | (with_reducible refine Sl.gate rfl ?_; (first | go_skip | go_guarded | go_step))
       | ((first | (with_reducible refine Sl.k_store ?_; (first
              | refine s_stR hst rfl BoxIn.h evX asX inX rfl rfl ?_
              | refine s_store hst rfl _ BoxIn.h inX evX rfl lenOk oneOk (by simp) ?_
              | refine s_st1 hst rfl BoxIn.h evX asX inX (by simp) ?_
              | refine s_stB hst evX asX SlIn.h inX evX omX ?_
              | refine s_stI hst evX asX SlIn.h inX evX omX ?_
              | refine s_st2 hst evX asX SlIn.h inX evX omX ?_); clear hst; intro w hst) | (refine s_box hst evX rfl ?_; clear hst; intro bx w hst) | (refine s_alloc hst inX ?_; clear hst; intro bk w hst)); (try simp only [List.set_cons_succ, List.set_cons_zero, vOf_true, vOf_false, List.drop_succ_cons, List.drop_zero, List.take_succ_cons, List.take_zero, putD, Int.toNat_zero, Int.reduceToNat, Nat.mul_one, Nat.zero_add, Nat.add_zero, Nat.reduceMul, Nat.reduceAdd, Nat.zero_mul]); (try simp only [List.set_cons_succ, List.set_cons_zero, List.drop_succ_cons, List.drop_zero, List.take_succ_cons, List.take_zero, List.nil_append, List.cons_append, List.append_nil, Value.cells, List.eraseIdx_cons_zero, List.eraseIdx_cons_succ, Nat.zero_add, Nat.add_zero, List.flatten_cons, List.flatten_nil, List.map_cons, List.map_nil] at hst)))
    go_ret
    exact ⟨_, rfl, by rw [possB, hv]; rfl, (hst.weaken hle).drop⟩
  | true =>
    have hlen : took.length = (encl nodes root pts).length := by
      simp only [validB, Bool.and_eq_true, decide_eq_true_eq] at hv; omega
    go_enter Try.func10, Try.ntmps10
    repeat' (first
       | go_skip
       | (with_reducible refine Sl.k_guard ?_; (first | (refine Sl.guard_yes rfl ?_) | (refine Sl.guard_no rfl ?_) | (refine Sl.guard_cases rfl ?_ ?_ <;> intro hg <;> first | (exfalso; simp only [decide_eq_true_eq, decide_eq_false_iff_not, Bool.not_false, Bool.not_true, beq_iff_eq, beq_eq_false_iff_ne, ne_eq] at hg; omega) | (simp only [hg, Bool.not_true, Bool.not_false]))) <;> (try simp only [List.set_cons_succ, List.set_cons_zero, vOf_true, vOf_false, List.drop_succ_cons, List.drop_zero, List.take_succ_cons, List.take_zero, putD, Int.toNat_zero, Int.reduceToNat, Nat.mul_one, Nat.zero_add, Nat.add_zero, Nat.reduceMul, Nat.reduceAdd, Nat.zero_mul]))
       | ((fail_if_success (go_big_may)); (first | go_skip | go_guarded | go_step))
       | (with_reducible refine Sl.k_call ?_; (first
            | (refine s_call (enclosing_c w hst vi vn root pts ins nodes hi hn hnn hr hp) inX rfl ?_; clear hst; rintro v w ⟨S', hle, hen, hst⟩)) <;> (try simp only [List.set_cons_succ, List.set_cons_zero, vOf_true, vOf_false, List.drop_succ_cons, List.drop_zero, List.take_succ_cons, List.take_zero, putD, Int.toNat_zero, Int.reduceToNat, Nat.mul_one, Nat.zero_add, Nat.add_zero, Nat.reduceMul, Nat.reduceAdd, Nat.zero_mul]) <;> (try simp only [List.set_cons_succ, List.set_cons_zero, List.drop_succ_cons, List.drop_zero, List.take_succ_cons, List.take_zero, List.nil_append, List.cons_append, List.append_nil, Value.cells, List.eraseIdx_cons_zero, List.eraseIdx_cons_succ, Nat.zero_add, Nat.add_zero, List.flatten_cons, List.flatten_nil, List.map_cons, List.map_nil] at hst))
       | ((first
            | (with_reducible refine Sl.k_load ?_; (first
              | refine s_qt hst (qt_load rfl _ BoxIn.h inX rfl rfl) ?_
              | (refine s_ex hst (qt_ldp_int evX asX inX) ?_; rintro v ⟨rfl, hI⟩)
              | refine s_qt hst (by first | exact qt_ldp_u8 evX asX inX | exact qt_ldp_bool evX asX inX) ?_
              | (refine s_ex hst (qt_ldp_str evX asX inX) ?_; rintro v ⟨rfl, hs⟩)
              | (refine s_ex hst (qt_ldp_list evX asX inX) ?_; rintro v ⟨hvl, hv1⟩)
              | (refine s_ex hst (qt_ldp evX asX inX) ?_; rintro v ⟨cl, rfl, hcl⟩)
              | refine s_qt hst (by first | exact qt_ldB evX asX SlIn.h inX omX | exact qt_ldI evX asX SlIn.h inX omX | exact qt_ld2 evX asX SlIn.h inX omX | exact qt_load_own evX asX SlIn.h inX rfl (by simp; omega) | exact qt_load rfl _ asX inX rfl rfl) ?_))
            | (with_reducible refine Sl.k_field ?_; (first
              | refine s_qt hst (qt_field rfl inX) ?_
              | (refine s_ex hst (qt_fieldp evX asX inX inX rfl) ?_; rintro v hp; (try simp only [Int.toNat_natCast, Int.toNat_natCast_add_one, Int.reduceToNat] at hp))
              | (refine s_ex hst (qt_field_own evX asX inX) ?_; rintro v hp; (try simp only [Int.toNat_natCast, Int.toNat_natCast_add_one, Int.reduceToNat] at hp))))
            | (with_reducible refine Sl.k_index ?_; (first
              | refine s_qt hst (qt_indexA rfl rfl inX inX omX omX) ?_
              | (refine s_ex hst (qt_indexP0 evX asX rfl inX inX) ?_; rintro v hp; (try simp only [Int.toNat_natCast, Int.toNat_natCast_add_one, Int.reduceToNat] at hp))
              | (refine s_ex hst (qt_indexP1 evX asX rfl inX inX) ?_; rintro v hp; (try simp only [Int.toNat_natCast, Int.toNat_natCast_add_one, Int.reduceToNat] at hp))
              | (refine s_ex hst (qt_index evX asX rfl inX inX omX omX) ?_; rintro v hp; (try simp only [Int.toNat_natCast, Int.toNat_natCast_add_one, Int.reduceToNat] at hp))
              | (refine s_ex hst (qt_indexAp evX asX rfl inX inX rfl omX omX) ?_; rintro v hp; (try simp only [Int.toNat_natCast, Int.toNat_natCast_add_one, Int.reduceToNat] at hp))
              | (refine s_ex hst (qt_index_own hst evX SlIn.h rfl inX inX omX omX) ?_; rintro v hp; (try simp only [Int.toNat_natCast, Int.toNat_natCast_add_one, Int.reduceToNat] at hp))))
            | (with_reducible refine Sl.k_call ?_; (first
              | refine s_qt hst (by first | exact qt_len evX asX inX | exact qt_len_own evX SlIn.h inX | exact qt_max rfl rfl | exact qt_min rfl rfl) ?_))); simp only [List.set_cons_succ, List.set_cons_zero, vOf_true, vOf_false, List.drop_succ_cons, List.drop_zero, List.take_succ_cons, List.take_zero, putD, Int.toNat_zero, Int.reduceToNat, Nat.mul_one, Nat.zero_add, Nat.add_zero, Nat.reduceMul, Nat.reduceAdd, Nat.zero_mul])
       | (with_reducible refine Sl.gate rfl ?_; (first | go_skip | go_guarded | go_step))
       | ((first | (with_reducible refine Sl.k_store ?_; (first
              | refine s_stR hst rfl BoxIn.h evX asX inX rfl rfl ?_
              | refine s_store hst rfl _ BoxIn.h inX evX rfl lenOk oneOk (by simp) ?_
              | refine s_st1 hst rfl BoxIn.h evX asX inX (by simp) ?_
              | refine s_stB hst evX asX SlIn.h inX evX omX ?_
              | refine s_stI hst evX asX SlIn.h inX evX omX ?_
              | refine s_st2 hst evX asX SlIn.h inX evX omX ?_); clear hst; intro w hst) | (refine s_box hst evX rfl ?_; clear hst; intro bx w hst) | (refine s_alloc hst inX ?_; clear hst; intro bk w hst)); (try simp only [List.set_cons_succ, List.set_cons_zero, vOf_true, vOf_false, List.drop_succ_cons, List.drop_zero, List.take_succ_cons, List.take_zero, putD, Int.toNat_zero, Int.reduceToNat, Nat.mul_one, Nat.zero_add, Nat.add_zero, Nat.reduceMul, Nat.reduceAdd, Nat.zero_mul]); (try simp only [List.set_cons_succ, List.set_cons_zero, List.drop_succ_cons, List.drop_zero, List.take_succ_cons, List.take_zero, List.nil_append, List.cons_append, List.append_nil, Value.cells, List.eraseIdx_cons_zero, List.eraseIdx_cons_succ, Nat.zero_add, Nat.add_zero, List.flatten_cons, List.flatten_nil, List.map_cons, List.map_nil] at hst)))
    have ht' := ht.mono hle
    repeat' (first
       | go_skip
       | (with_reducible refine Sl.k_guard ?_; (first | (refine Sl.guard_yes rfl ?_) | (refine Sl.guard_no rfl ?_) | (refine Sl.guard_cases rfl ?_ ?_ <;> intro hg <;> first | (exfalso; simp only [decide_eq_true_eq, decide_eq_false_iff_not, Bool.not_false, Bool.not_true, beq_iff_eq, beq_eq_false_iff_ne, ne_eq] at hg; omega) | (simp only [hg, Bool.not_true, Bool.not_false]))) <;> (try simp only [List.set_cons_succ, List.set_cons_zero, vOf_true, vOf_false, List.drop_succ_cons, List.drop_zero, List.take_succ_cons, List.take_zero, putD, Int.toNat_zero, Int.reduceToNat, Nat.mul_one, Nat.zero_add, Nat.add_zero, Nat.reduceMul, Nat.reduceAdd, Nat.zero_mul]))
       | ((fail_if_success (go_big_may)); (first | go_skip | go_guarded | go_step))
       | (with_reducible refine Sl.k_call ?_; (first
            | (refine s_call (Rets.eq (valid_c w hst _ took ht' hm _ 0) hv) inX rfl ?_; clear hst; rintro v w ⟨rfl, hst⟩)) <;> (try simp only [List.set_cons_succ, List.set_cons_zero, vOf_true, vOf_false, List.drop_succ_cons, List.drop_zero, List.take_succ_cons, List.take_zero, putD, Int.toNat_zero, Int.reduceToNat, Nat.mul_one, Nat.zero_add, Nat.add_zero, Nat.reduceMul, Nat.reduceAdd, Nat.zero_mul]) <;> (try simp only [List.set_cons_succ, List.set_cons_zero, List.drop_succ_cons, List.drop_zero, List.take_succ_cons, List.take_zero, List.nil_append, List.cons_append, List.append_nil, Value.cells, List.eraseIdx_cons_zero, List.eraseIdx_cons_succ, Nat.zero_add, Nat.add_zero, List.flatten_cons, List.flatten_nil, List.map_cons, List.map_nil] at hst))
       | ((first
            | (with_reducible refine Sl.k_load ?_; (first
              | refine s_qt hst (qt_load rfl _ BoxIn.h inX rfl rfl) ?_
              | (refine s_ex hst (qt_ldp_int evX asX inX) ?_; rintro v ⟨rfl, hI⟩)
              | refine s_qt hst (by first | exact qt_ldp_u8 evX asX inX | exact qt_ldp_bool evX asX inX) ?_
              | (refine s_ex hst (qt_ldp_str evX asX inX) ?_; rintro v ⟨rfl, hs⟩)
              | (refine s_ex hst (qt_ldp_list evX asX inX) ?_; rintro v ⟨hvl, hv1⟩)
              | (refine s_ex hst (qt_ldp evX asX inX) ?_; rintro v ⟨cl, rfl, hcl⟩)
              | refine s_qt hst (by first | exact qt_ldB evX asX SlIn.h inX omX | exact qt_ldI evX asX SlIn.h inX omX | exact qt_ld2 evX asX SlIn.h inX omX | exact qt_load_own evX asX SlIn.h inX rfl (by simp; omega) | exact qt_load rfl _ asX inX rfl rfl) ?_))
            | (with_reducible refine Sl.k_field ?_; (first
              | refine s_qt hst (qt_field rfl inX) ?_
              | (refine s_ex hst (qt_fieldp evX asX inX inX rfl) ?_; rintro v hp; (try simp only [Int.toNat_natCast, Int.toNat_natCast_add_one, Int.reduceToNat] at hp))
              | (refine s_ex hst (qt_field_own evX asX inX) ?_; rintro v hp; (try simp only [Int.toNat_natCast, Int.toNat_natCast_add_one, Int.reduceToNat] at hp))))
            | (with_reducible refine Sl.k_index ?_; (first
              | refine s_qt hst (qt_indexA rfl rfl inX inX omX omX) ?_
              | (refine s_ex hst (qt_indexP0 evX asX rfl inX inX) ?_; rintro v hp; (try simp only [Int.toNat_natCast, Int.toNat_natCast_add_one, Int.reduceToNat] at hp))
              | (refine s_ex hst (qt_indexP1 evX asX rfl inX inX) ?_; rintro v hp; (try simp only [Int.toNat_natCast, Int.toNat_natCast_add_one, Int.reduceToNat] at hp))
              | (refine s_ex hst (qt_index evX asX rfl inX inX omX omX) ?_; rintro v hp; (try simp only [Int.toNat_natCast, Int.toNat_natCast_add_one, Int.reduceToNat] at hp))
              | (refine s_ex hst (qt_indexAp evX asX rfl inX inX rfl omX omX) ?_; rintro v hp; (try simp only [Int.toNat_natCast, Int.toNat_natCast_add_one, Int.reduceToNat] at hp))
              | (refine s_ex hst (qt_index_own hst evX SlIn.h rfl inX inX omX omX) ?_; rintro v hp; (try simp only [Int.toNat_natCast, Int.toNat_natCast_add_one, Int.reduceToNat] at hp))))
            | (with_reducible refine Sl.k_call ?_; (first
              | refine s_qt hst (by first | exact qt_len evX asX inX | exact qt_len_own evX SlIn.h inX | exact qt_max rfl rfl | exact qt_min rfl rfl) ?_))); simp only [List.set_cons_succ, List.set_cons_zero, vOf_true, vOf_false, List.drop_succ_cons, List.drop_zero, List.take_succ_cons, List.take_zero, putD, Int.toNat_zero, Int.reduceToNat, Nat.mul_one, Nat.zero_add, Nat.add_zero, Nat.reduceMul, Nat.reduceAdd, Nat.zero_mul])
       | (with_reducible refine Sl.gate rfl ?_; (first | go_skip | go_guarded | go_step))
       | ((first | (with_reducible refine Sl.k_store ?_; (first
              | refine s_stR hst rfl BoxIn.h evX asX inX rfl rfl ?_
              | refine s_store hst rfl _ BoxIn.h inX evX rfl lenOk oneOk (by simp) ?_
              | refine s_st1 hst rfl BoxIn.h evX asX inX (by simp) ?_
              | refine s_stB hst evX asX SlIn.h inX evX omX ?_
              | refine s_stI hst evX asX SlIn.h inX evX omX ?_
              | refine s_st2 hst evX asX SlIn.h inX evX omX ?_); clear hst; intro w hst) | (refine s_box hst evX rfl ?_; clear hst; intro bx w hst) | (refine s_alloc hst inX ?_; clear hst; intro bk w hst)); (try simp only [List.set_cons_succ, List.set_cons_zero, vOf_true, vOf_false, List.drop_succ_cons, List.drop_zero, List.take_succ_cons, List.take_zero, putD, Int.toNat_zero, Int.reduceToNat, Nat.mul_one, Nat.zero_add, Nat.add_zero, Nat.reduceMul, Nat.reduceAdd, Nat.zero_mul]); (try simp only [List.set_cons_succ, List.set_cons_zero, List.drop_succ_cons, List.drop_zero, List.take_succ_cons, List.take_zero, List.nil_append, List.cons_append, List.append_nil, Value.cells, List.eraseIdx_cons_zero, List.eraseIdx_cons_succ, Nat.zero_add, Nat.add_zero, List.flatten_cons, List.flatten_nil, List.map_cons, List.map_nil] at hst)))
    go_loopw [17] (fun v wr => ∃ i : Nat, i ≤ took.length ∧ v = .int .i64 i ∧ (∀ j, j < i → okAt (encl nodes root pts) took j = true) ∧ St S' (.box bx [vi, vn, .int .i64 root, .int .i64 pts] 25 :: M) wr) (fun v _ => took.length - (intOf v).toNat)
    case atStart => exact ⟨0, Nat.zero_le _, rfl, fun j h => by omega, hst⟩
    case round =>
      clear hst
      obtain ⟨i, hi', rfl, hok, hst⟩ := hrel
      have Hok := Lib.hid hok; clear hok
      by_cases hlt : i < took.length
      · have hlt2 : i < (encl nodes root pts).length := by omega
        have hE := hes _ (List.getElem_mem hlt2)
        have hq : I64 (encl nodes root pts)[i].1 := by rcases hE with e | ⟨e1, e2, e3⟩; rw [e]; unfold I64; omega; unfold I64; omega
        have hs : I64 (encl nodes root pts)[i].2 := by rcases hE with e | ⟨e1, e2, e3⟩; rw [e]; unfold I64; omega; unfold I64; omega
        have hsh : ((encl nodes root pts)[i].1 = -1 ∧ (encl nodes root pts)[i].2 = 0) ∨ (0 ≤ (encl nodes root pts)[i].1 ∧ (encl nodes root pts)[i].1.toNat < took.length) := by
          rcases hE with e | ⟨e1, e2, e3⟩
          · left; rw [e]; exact ⟨rfl, rfl⟩
          · right; omega
        have hg1 : took.getD i 0 = took[i] := getD_at hlt
        have hg2 : (encl nodes root pts).getD i (-1, 0) = (encl nodes root pts)[i] := by simp [List.getD, List.getElem?_eq_getElem hlt2]
        have Hg1 := Lib.hid hg1
        have Hg2 := Lib.hid hg2
        clear hg1 hg2
        repeat' (first
           | go_skip
           | (with_reducible refine Sl.k_guard ?_; (first | (refine Sl.guard_yes rfl ?_) | (refine Sl.guard_no rfl ?_) | (refine Sl.guard_cases rfl ?_ ?_ <;> intro hg <;> first | (exfalso; simp only [decide_eq_true_eq, decide_eq_false_iff_not, Bool.not_false, Bool.not_true, beq_iff_eq, beq_eq_false_iff_ne, ne_eq] at hg; omega) | (simp only [hg, Bool.not_true, Bool.not_false]))) <;> (try simp only [List.set_cons_succ, List.set_cons_zero, vOf_true, vOf_false, List.drop_succ_cons, List.drop_zero, List.take_succ_cons, List.take_zero, putD, Int.toNat_zero, Int.reduceToNat, Nat.mul_one, Nat.zero_add, Nat.add_zero, Nat.reduceMul, Nat.reduceAdd, Nat.zero_mul]))
           | ((fail_if_success (go_big_may)); (first | go_skip | go_guarded | go_step))
           | ((first
                | (with_reducible refine Sl.k_load ?_; (first
                  | refine s_qt hst (qt_load rfl _ BoxIn.h inX rfl rfl) ?_
                  | (refine s_ex hst (qt_ldp_int evX asX inX) ?_; rintro v ⟨rfl, hI⟩)
                  | refine s_qt hst (by first | exact qt_ldp_u8 evX asX inX | exact qt_ldp_bool evX asX inX) ?_
                  | (refine s_ex hst (qt_ldp_str evX asX inX) ?_; rintro v ⟨rfl, hs⟩)
                  | (refine s_ex hst (qt_ldp_list evX asX inX) ?_; rintro v ⟨hvl, hv1⟩)
                  | (refine s_ex hst (qt_ldp evX asX inX) ?_; rintro v ⟨cl, rfl, hcl⟩)
                  | refine s_qt hst (by first | exact qt_ldB evX asX SlIn.h inX omX | exact qt_ldI evX asX SlIn.h inX omX | exact qt_ld2 evX asX SlIn.h inX omX | exact qt_load_own evX asX SlIn.h inX rfl (by simp; omega) | exact qt_load rfl _ asX inX rfl rfl) ?_))
                | (with_reducible refine Sl.k_field ?_; (first
                  | refine s_qt hst (qt_field rfl inX) ?_
                  | (refine s_ex hst (qt_fieldp evX asX inX inX rfl) ?_; rintro v hp; (try simp only [Int.toNat_natCast, Int.toNat_natCast_add_one, Int.reduceToNat] at hp))
                  | (refine s_ex hst (qt_field_own evX asX inX) ?_; rintro v hp; (try simp only [Int.toNat_natCast, Int.toNat_natCast_add_one, Int.reduceToNat] at hp))))
                | (with_reducible refine Sl.k_index ?_; (first
                  | refine s_qt hst (qt_indexA rfl rfl inX inX omX omX) ?_
                  | (refine s_ex hst (qt_indexP0 evX asX rfl inX inX) ?_; rintro v hp; (try simp only [Int.toNat_natCast, Int.toNat_natCast_add_one, Int.reduceToNat] at hp))
                  | (refine s_ex hst (qt_indexP1 evX asX rfl inX inX) ?_; rintro v hp; (try simp only [Int.toNat_natCast, Int.toNat_natCast_add_one, Int.reduceToNat] at hp))
                  | (refine s_ex hst (qt_index evX asX rfl inX inX omX omX) ?_; rintro v hp; (try simp only [Int.toNat_natCast, Int.toNat_natCast_add_one, Int.reduceToNat] at hp))
                  | (refine s_ex hst (qt_indexAp evX asX rfl inX inX rfl omX omX) ?_; rintro v hp; (try simp only [Int.toNat_natCast, Int.toNat_natCast_add_one, Int.reduceToNat] at hp))
                  | (refine s_ex hst (qt_index_own hst evX SlIn.h rfl inX inX omX omX) ?_; rintro v hp; (try simp only [Int.toNat_natCast, Int.toNat_natCast_add_one, Int.reduceToNat] at hp))))
                | (with_reducible refine Sl.k_call ?_; (first
                  | refine s_qt hst (by first | exact qt_len evX asX inX | exact qt_len_own evX SlIn.h inX | exact qt_max rfl rfl | exact qt_min rfl rfl) ?_))); simp only [List.set_cons_succ, List.set_cons_zero, vOf_true, vOf_false, List.drop_succ_cons, List.drop_zero, List.take_succ_cons, List.take_zero, putD, Int.toNat_zero, Int.reduceToNat, Nat.mul_one, Nat.zero_add, Nat.add_zero, Nat.reduceMul, Nat.reduceAdd, Nat.zero_mul])
           | (with_reducible refine Sl.gate rfl ?_; (first | go_skip | go_guarded | go_step))
           | ((first | (with_reducible refine Sl.k_store ?_; (first
                  | refine s_stR hst rfl BoxIn.h evX asX inX rfl rfl ?_
                  | refine s_store hst rfl _ BoxIn.h inX evX rfl lenOk oneOk (by simp) ?_
                  | refine s_st1 hst rfl BoxIn.h evX asX inX (by simp) ?_
                  | refine s_stB hst evX asX SlIn.h inX evX omX ?_
                  | refine s_stI hst evX asX SlIn.h inX evX omX ?_
                  | refine s_st2 hst evX asX SlIn.h inX evX omX ?_); clear hst; intro w hst) | (refine s_box hst evX rfl ?_; clear hst; intro bx w hst) | (refine s_alloc hst inX ?_; clear hst; intro bk w hst)); (try simp only [List.set_cons_succ, List.set_cons_zero, vOf_true, vOf_false, List.drop_succ_cons, List.drop_zero, List.take_succ_cons, List.take_zero, putD, Int.toNat_zero, Int.reduceToNat, Nat.mul_one, Nat.zero_add, Nat.add_zero, Nat.reduceMul, Nat.reduceAdd, Nat.zero_mul]); (try simp only [List.set_cons_succ, List.set_cons_zero, List.drop_succ_cons, List.drop_zero, List.take_succ_cons, List.take_zero, List.nil_append, List.cons_append, List.append_nil, Value.cells, List.eraseIdx_cons_zero, List.eraseIdx_cons_succ, Nat.zero_add, Nat.add_zero, List.flatten_cons, List.flatten_nil, List.map_cons, List.map_nil] at hst)))
        · obtain ⟨c1, c2, e, ⟨rfl, _⟩, ⟨rfl, _⟩⟩ := prod_cells (x := (encl nodes root pts)[i].1) (y := (encl nodes root pts)[i].2) hcl
          subst e
          cases hsb : shutB (encl nodes root pts)[i].1 (encl nodes root pts)[i].2 took with
          | true =>
            have Hsb := Lib.hid hsb
            have c := Rets.eq (shut_c _ hst _ _ hq hs vt took ht' hsh) hsb
            refine s_call c (by infer_instance) rfl ?_
            clear hst c; rintro v w ⟨rfl, hst⟩
            simp only [List.set_cons_succ, List.set_cons_zero, vOf_true, vOf_false, List.drop_succ_cons, List.drop_zero, List.take_succ_cons, List.take_zero, putD, Int.toNat_zero, Int.reduceToNat, Nat.mul_one, Nat.zero_add, Nat.add_zero, Nat.reduceMul, Nat.reduceAdd, Nat.zero_mul]
            repeat' (first
               | go_skip
               | (with_reducible refine Sl.k_guard ?_; (first | (refine Sl.guard_yes rfl ?_) | (refine Sl.guard_no rfl ?_) | (refine Sl.guard_cases rfl ?_ ?_ <;> intro hg <;> first | (exfalso; simp only [decide_eq_true_eq, decide_eq_false_iff_not, Bool.not_false, Bool.not_true, beq_iff_eq, beq_eq_false_iff_ne, ne_eq] at hg; omega) | (simp only [hg, Bool.not_true, Bool.not_false]))) <;> (try simp only [List.set_cons_succ, List.set_cons_zero, vOf_true, vOf_false, List.drop_succ_cons, List.drop_zero, List.take_succ_cons, List.take_zero, putD, Int.toNat_zero, Int.reduceToNat, Nat.mul_one, Nat.zero_add, Nat.add_zero, Nat.reduceMul, Nat.reduceAdd, Nat.zero_mul]))
               | ((fail_if_success (go_big_may)); (first | go_skip | go_guarded | go_step))
               | ((first
                    | (with_reducible refine Sl.k_load ?_; (first
                      | refine s_qt hst (qt_load rfl _ BoxIn.h inX rfl rfl) ?_
                      | (refine s_ex hst (qt_ldp_int evX asX inX) ?_; rintro v ⟨rfl, hI⟩)
                      | refine s_qt hst (by first | exact qt_ldp_u8 evX asX inX | exact qt_ldp_bool evX asX inX) ?_
                      | (refine s_ex hst (qt_ldp_str evX asX inX) ?_; rintro v ⟨rfl, hs⟩)
                      | (refine s_ex hst (qt_ldp_list evX asX inX) ?_; rintro v ⟨hvl, hv1⟩)
                      | (refine s_ex hst (qt_ldp evX asX inX) ?_; rintro v ⟨cl, rfl, hcl⟩)
                      | refine s_qt hst (by first | exact qt_ldB evX asX SlIn.h inX omX | exact qt_ldI evX asX SlIn.h inX omX | exact qt_ld2 evX asX SlIn.h inX omX | exact qt_load_own evX asX SlIn.h inX rfl (by simp; omega) | exact qt_load rfl _ asX inX rfl rfl) ?_))
                    | (with_reducible refine Sl.k_field ?_; (first
                      | refine s_qt hst (qt_field rfl inX) ?_
                      | (refine s_ex hst (qt_fieldp evX asX inX inX rfl) ?_; rintro v hp; (try simp only [Int.toNat_natCast, Int.toNat_natCast_add_one, Int.reduceToNat] at hp))
                      | (refine s_ex hst (qt_field_own evX asX inX) ?_; rintro v hp; (try simp only [Int.toNat_natCast, Int.toNat_natCast_add_one, Int.reduceToNat] at hp))))
                    | (with_reducible refine Sl.k_index ?_; (first
                      | refine s_qt hst (qt_indexA rfl rfl inX inX omX omX) ?_
                      | (refine s_ex hst (qt_indexP0 evX asX rfl inX inX) ?_; rintro v hp; (try simp only [Int.toNat_natCast, Int.toNat_natCast_add_one, Int.reduceToNat] at hp))
                      | (refine s_ex hst (qt_indexP1 evX asX rfl inX inX) ?_; rintro v hp; (try simp only [Int.toNat_natCast, Int.toNat_natCast_add_one, Int.reduceToNat] at hp))
                      | (refine s_ex hst (qt_index evX asX rfl inX inX omX omX) ?_; rintro v hp; (try simp only [Int.toNat_natCast, Int.toNat_natCast_add_one, Int.reduceToNat] at hp))
                      | (refine s_ex hst (qt_indexAp evX asX rfl inX inX rfl omX omX) ?_; rintro v hp; (try simp only [Int.toNat_natCast, Int.toNat_natCast_add_one, Int.reduceToNat] at hp))
                      | (refine s_ex hst (qt_index_own hst evX SlIn.h rfl inX inX omX omX) ?_; rintro v hp; (try simp only [Int.toNat_natCast, Int.toNat_natCast_add_one, Int.reduceToNat] at hp))))
                    | (with_reducible refine Sl.k_call ?_; (first
                      | refine s_qt hst (by first | exact qt_len evX asX inX | exact qt_len_own evX SlIn.h inX | exact qt_max rfl rfl | exact qt_min rfl rfl) ?_))); simp only [List.set_cons_succ, List.set_cons_zero, vOf_true, vOf_false, List.drop_succ_cons, List.drop_zero, List.take_succ_cons, List.take_zero, putD, Int.toNat_zero, Int.reduceToNat, Nat.mul_one, Nat.zero_add, Nat.add_zero, Nat.reduceMul, Nat.reduceAdd, Nat.zero_mul])
               | (with_reducible refine Sl.gate rfl ?_; (first | go_skip | go_guarded | go_step))
               | ((first | (with_reducible refine Sl.k_store ?_; (first
                      | refine s_stR hst rfl BoxIn.h evX asX inX rfl rfl ?_
                      | refine s_store hst rfl _ BoxIn.h inX evX rfl lenOk oneOk (by simp) ?_
                      | refine s_st1 hst rfl BoxIn.h evX asX inX (by simp) ?_
                      | refine s_stB hst evX asX SlIn.h inX evX omX ?_
                      | refine s_stI hst evX asX SlIn.h inX evX omX ?_
                      | refine s_st2 hst evX asX SlIn.h inX evX omX ?_); clear hst; intro w hst) | (refine s_box hst evX rfl ?_; clear hst; intro bx w hst) | (refine s_alloc hst inX ?_; clear hst; intro bk w hst)); (try simp only [List.set_cons_succ, List.set_cons_zero, vOf_true, vOf_false, List.drop_succ_cons, List.drop_zero, List.take_succ_cons, List.take_zero, putD, Int.toNat_zero, Int.reduceToNat, Nat.mul_one, Nat.zero_add, Nat.add_zero, Nat.reduceMul, Nat.reduceAdd, Nat.zero_mul]); (try simp only [List.set_cons_succ, List.set_cons_zero, List.drop_succ_cons, List.drop_zero, List.take_succ_cons, List.take_zero, List.nil_append, List.cons_append, List.append_nil, Value.cells, List.eraseIdx_cons_zero, List.eraseIdx_cons_succ, Nat.zero_add, Nat.add_zero, List.flatten_cons, List.flatten_nil, List.map_cons, List.map_nil] at hst)))
            go_ret
            refine ⟨_, rfl, ?_, (hst.weaken hle).drop⟩
            have hx : (List.range took.length).all (okAt (encl nodes root pts) took) = false := by
              rw [List.all_eq_false]
              exact ⟨i, List.mem_range.2 hlt, by rw [okAt, Hg1.out, Hg2.out, Hsb.out, hg]; simp⟩
            rw [possB, hx, Bool.and_false]; rfl
          | false =>
            have Hsb := Lib.hid hsb
            have c := Rets.eq (shut_c _ hst _ _ hq hs vt took ht' hsh) hsb
            refine s_call c (by infer_instance) rfl ?_
            clear hst c; rintro v w ⟨rfl, hst⟩
            simp only [List.set_cons_succ, List.set_cons_zero, vOf_true, vOf_false, List.drop_succ_cons, List.drop_zero, List.take_succ_cons, List.take_zero, putD, Int.toNat_zero, Int.reduceToNat, Nat.mul_one, Nat.zero_add, Nat.add_zero, Nat.reduceMul, Nat.reduceAdd, Nat.zero_mul]
            repeat' (first
               | go_skip
               | (with_reducible refine Sl.k_guard ?_; (first | (refine Sl.guard_yes rfl ?_) | (refine Sl.guard_no rfl ?_) | (refine Sl.guard_cases rfl ?_ ?_ <;> intro hg <;> first | (exfalso; simp only [decide_eq_true_eq, decide_eq_false_iff_not, Bool.not_false, Bool.not_true, beq_iff_eq, beq_eq_false_iff_ne, ne_eq] at hg; omega) | (simp only [hg, Bool.not_true, Bool.not_false]))) <;> (try simp only [List.set_cons_succ, List.set_cons_zero, vOf_true, vOf_false, List.drop_succ_cons, List.drop_zero, List.take_succ_cons, List.take_zero, putD, Int.toNat_zero, Int.reduceToNat, Nat.mul_one, Nat.zero_add, Nat.add_zero, Nat.reduceMul, Nat.reduceAdd, Nat.zero_mul]))
               | ((fail_if_success (go_big_may)); (first | go_skip | go_guarded | go_step))
               | ((first
                    | (with_reducible refine Sl.k_load ?_; (first
                      | refine s_qt hst (qt_load rfl _ BoxIn.h inX rfl rfl) ?_
                      | (refine s_ex hst (qt_ldp_int evX asX inX) ?_; rintro v ⟨rfl, hI⟩)
                      | refine s_qt hst (by first | exact qt_ldp_u8 evX asX inX | exact qt_ldp_bool evX asX inX) ?_
                      | (refine s_ex hst (qt_ldp_str evX asX inX) ?_; rintro v ⟨rfl, hs⟩)
                      | (refine s_ex hst (qt_ldp_list evX asX inX) ?_; rintro v ⟨hvl, hv1⟩)
                      | (refine s_ex hst (qt_ldp evX asX inX) ?_; rintro v ⟨cl, rfl, hcl⟩)
                      | refine s_qt hst (by first | exact qt_ldB evX asX SlIn.h inX omX | exact qt_ldI evX asX SlIn.h inX omX | exact qt_ld2 evX asX SlIn.h inX omX | exact qt_load_own evX asX SlIn.h inX rfl (by simp; omega) | exact qt_load rfl _ asX inX rfl rfl) ?_))
                    | (with_reducible refine Sl.k_field ?_; (first
                      | refine s_qt hst (qt_field rfl inX) ?_
                      | (refine s_ex hst (qt_fieldp evX asX inX inX rfl) ?_; rintro v hp; (try simp only [Int.toNat_natCast, Int.toNat_natCast_add_one, Int.reduceToNat] at hp))
                      | (refine s_ex hst (qt_field_own evX asX inX) ?_; rintro v hp; (try simp only [Int.toNat_natCast, Int.toNat_natCast_add_one, Int.reduceToNat] at hp))))
                    | (with_reducible refine Sl.k_index ?_; (first
                      | refine s_qt hst (qt_indexA rfl rfl inX inX omX omX) ?_
                      | (refine s_ex hst (qt_indexP0 evX asX rfl inX inX) ?_; rintro v hp; (try simp only [Int.toNat_natCast, Int.toNat_natCast_add_one, Int.reduceToNat] at hp))
                      | (refine s_ex hst (qt_indexP1 evX asX rfl inX inX) ?_; rintro v hp; (try simp only [Int.toNat_natCast, Int.toNat_natCast_add_one, Int.reduceToNat] at hp))
                      | (refine s_ex hst (qt_index evX asX rfl inX inX omX omX) ?_; rintro v hp; (try simp only [Int.toNat_natCast, Int.toNat_natCast_add_one, Int.reduceToNat] at hp))
                      | (refine s_ex hst (qt_indexAp evX asX rfl inX inX rfl omX omX) ?_; rintro v hp; (try simp only [Int.toNat_natCast, Int.toNat_natCast_add_one, Int.reduceToNat] at hp))
                      | (refine s_ex hst (qt_index_own hst evX SlIn.h rfl inX inX omX omX) ?_; rintro v hp; (try simp only [Int.toNat_natCast, Int.toNat_natCast_add_one, Int.reduceToNat] at hp))))
                    | (with_reducible refine Sl.k_call ?_; (first
                      | refine s_qt hst (by first | exact qt_len evX asX inX | exact qt_len_own evX SlIn.h inX | exact qt_max rfl rfl | exact qt_min rfl rfl) ?_))); simp only [List.set_cons_succ, List.set_cons_zero, vOf_true, vOf_false, List.drop_succ_cons, List.drop_zero, List.take_succ_cons, List.take_zero, putD, Int.toNat_zero, Int.reduceToNat, Nat.mul_one, Nat.zero_add, Nat.add_zero, Nat.reduceMul, Nat.reduceAdd, Nat.zero_mul])
               | (with_reducible refine Sl.gate rfl ?_; (first | go_skip | go_guarded | go_step))
               | ((first | (with_reducible refine Sl.k_store ?_; (first
                      | refine s_stR hst rfl BoxIn.h evX asX inX rfl rfl ?_
                      | refine s_store hst rfl _ BoxIn.h inX evX rfl lenOk oneOk (by simp) ?_
                      | refine s_st1 hst rfl BoxIn.h evX asX inX (by simp) ?_
                      | refine s_stB hst evX asX SlIn.h inX evX omX ?_
                      | refine s_stI hst evX asX SlIn.h inX evX omX ?_
                      | refine s_st2 hst evX asX SlIn.h inX evX omX ?_); clear hst; intro w hst) | (refine s_box hst evX rfl ?_; clear hst; intro bx w hst) | (refine s_alloc hst inX ?_; clear hst; intro bk w hst)); (try simp only [List.set_cons_succ, List.set_cons_zero, vOf_true, vOf_false, List.drop_succ_cons, List.drop_zero, List.take_succ_cons, List.take_zero, putD, Int.toNat_zero, Int.reduceToNat, Nat.mul_one, Nat.zero_add, Nat.add_zero, Nat.reduceMul, Nat.reduceAdd, Nat.zero_mul]); (try simp only [List.set_cons_succ, List.set_cons_zero, List.drop_succ_cons, List.drop_zero, List.take_succ_cons, List.take_zero, List.nil_append, List.cons_append, List.append_nil, Value.cells, List.eraseIdx_cons_zero, List.eraseIdx_cons_succ, Nat.zero_add, Nat.add_zero, List.flatten_cons, List.flatten_nil, List.map_cons, List.map_nil] at hst)))
            go_roundw
            case rel =>
              refine ⟨i + 1, by omega, by go_num, fun j hj => ?_, hst⟩
              rcases Nat.lt_succ_iff_lt_or_eq.1 hj with h | rfl
              · exact Hok.out j h
              · rw [okAt, Hg1.out, Hg2.out, Hsb.out]; simp
            case measure => simp [intOf]; omega
        · go_roundw
          case rel =>
            refine ⟨i + 1, by omega, by go_num, fun j hj => ?_, hst⟩
            rcases Nat.lt_succ_iff_lt_or_eq.1 hj with h | rfl
            · exact Hok.out j h
            · rw [okAt, Hg1.out, hg]; rfl
          case measure => simp [intOf]; omega
      · repeat' (first
           | go_skip
           | (with_reducible refine Sl.k_guard ?_; (first | (refine Sl.guard_yes rfl ?_) | (refine Sl.guard_no rfl ?_) | (refine Sl.guard_cases rfl ?_ ?_ <;> intro hg <;> first | (exfalso; simp only [decide_eq_true_eq, decide_eq_false_iff_not, Bool.not_false, Bool.not_true, beq_iff_eq, beq_eq_false_iff_ne, ne_eq] at hg; omega) | (simp only [hg, Bool.not_true, Bool.not_false]))) <;> (try simp only [List.set_cons_succ, List.set_cons_zero, vOf_true, vOf_false, List.drop_succ_cons, List.drop_zero, List.take_succ_cons, List.take_zero, putD, Int.toNat_zero, Int.reduceToNat, Nat.mul_one, Nat.zero_add, Nat.add_zero, Nat.reduceMul, Nat.reduceAdd, Nat.zero_mul]))
           | ((fail_if_success (go_big_may)); (first | go_skip | go_guarded | go_step))
           | ((first
                | (with_reducible refine Sl.k_load ?_; (first
                  | refine s_qt hst (qt_load rfl _ BoxIn.h inX rfl rfl) ?_
                  | (refine s_ex hst (qt_ldp_int evX asX inX) ?_; rintro v ⟨rfl, hI⟩)
                  | refine s_qt hst (by first | exact qt_ldp_u8 evX asX inX | exact qt_ldp_bool evX asX inX) ?_
                  | (refine s_ex hst (qt_ldp_str evX asX inX) ?_; rintro v ⟨rfl, hs⟩)
                  | (refine s_ex hst (qt_ldp_list evX asX inX) ?_; rintro v ⟨hvl, hv1⟩)
                  | (refine s_ex hst (qt_ldp evX asX inX) ?_; rintro v ⟨cl, rfl, hcl⟩)
                  | refine s_qt hst (by first | exact qt_ldB evX asX SlIn.h inX omX | exact qt_ldI evX asX SlIn.h inX omX | exact qt_ld2 evX asX SlIn.h inX omX | exact qt_load_own evX asX SlIn.h inX rfl (by simp; omega) | exact qt_load rfl _ asX inX rfl rfl) ?_))
                | (with_reducible refine Sl.k_field ?_; (first
                  | refine s_qt hst (qt_field rfl inX) ?_
                  | (refine s_ex hst (qt_fieldp evX asX inX inX rfl) ?_; rintro v hp; (try simp only [Int.toNat_natCast, Int.toNat_natCast_add_one, Int.reduceToNat] at hp))
                  | (refine s_ex hst (qt_field_own evX asX inX) ?_; rintro v hp; (try simp only [Int.toNat_natCast, Int.toNat_natCast_add_one, Int.reduceToNat] at hp))))
                | (with_reducible refine Sl.k_index ?_; (first
                  | refine s_qt hst (qt_indexA rfl rfl inX inX omX omX) ?_
                  | (refine s_ex hst (qt_indexP0 evX asX rfl inX inX) ?_; rintro v hp; (try simp only [Int.toNat_natCast, Int.toNat_natCast_add_one, Int.reduceToNat] at hp))
                  | (refine s_ex hst (qt_indexP1 evX asX rfl inX inX) ?_; rintro v hp; (try simp only [Int.toNat_natCast, Int.toNat_natCast_add_one, Int.reduceToNat] at hp))
                  | (refine s_ex hst (qt_index evX asX rfl inX inX omX omX) ?_; rintro v hp; (try simp only [Int.toNat_natCast, Int.toNat_natCast_add_one, Int.reduceToNat] at hp))
                  | (refine s_ex hst (qt_indexAp evX asX rfl inX inX rfl omX omX) ?_; rintro v hp; (try simp only [Int.toNat_natCast, Int.toNat_natCast_add_one, Int.reduceToNat] at hp))
                  | (refine s_ex hst (qt_index_own hst evX SlIn.h rfl inX inX omX omX) ?_; rintro v hp; (try simp only [Int.toNat_natCast, Int.toNat_natCast_add_one, Int.reduceToNat] at hp))))
                | (with_reducible refine Sl.k_call ?_; (first
                  | refine s_qt hst (by first | exact qt_len evX asX inX | exact qt_len_own evX SlIn.h inX | exact qt_max rfl rfl | exact qt_min rfl rfl) ?_))); simp only [List.set_cons_succ, List.set_cons_zero, vOf_true, vOf_false, List.drop_succ_cons, List.drop_zero, List.take_succ_cons, List.take_zero, putD, Int.toNat_zero, Int.reduceToNat, Nat.mul_one, Nat.zero_add, Nat.add_zero, Nat.reduceMul, Nat.reduceAdd, Nat.zero_mul])
           | (with_reducible refine Sl.gate rfl ?_; (first | go_skip | go_guarded | go_step))
           | ((first | (with_reducible refine Sl.k_store ?_; (first
                  | refine s_stR hst rfl BoxIn.h evX asX inX rfl rfl ?_
                  | refine s_store hst rfl _ BoxIn.h inX evX rfl lenOk oneOk (by simp) ?_
                  | refine s_st1 hst rfl BoxIn.h evX asX inX (by simp) ?_
                  | refine s_stB hst evX asX SlIn.h inX evX omX ?_
                  | refine s_stI hst evX asX SlIn.h inX evX omX ?_
                  | refine s_st2 hst evX asX SlIn.h inX evX omX ?_); clear hst; intro w hst) | (refine s_box hst evX rfl ?_; clear hst; intro bx w hst) | (refine s_alloc hst inX ?_; clear hst; intro bk w hst)); (try simp only [List.set_cons_succ, List.set_cons_zero, vOf_true, vOf_false, List.drop_succ_cons, List.drop_zero, List.take_succ_cons, List.take_zero, putD, Int.toNat_zero, Int.reduceToNat, Nat.mul_one, Nat.zero_add, Nat.add_zero, Nat.reduceMul, Nat.reduceAdd, Nat.zero_mul]); (try simp only [List.set_cons_succ, List.set_cons_zero, List.drop_succ_cons, List.drop_zero, List.take_succ_cons, List.take_zero, List.nil_append, List.cons_append, List.append_nil, Value.cells, List.eraseIdx_cons_zero, List.eraseIdx_cons_succ, Nat.zero_add, Nat.add_zero, List.flatten_cons, List.flatten_nil, List.map_cons, List.map_nil] at hst)))
        go_ret
        refine ⟨_, rfl, ?_, (hst.weaken hle).drop⟩
        rw [possB, hv, Bool.true_and]
        exact (congrArg Value.bool (List.all_eq_true.2 (fun j hj => Hok.out j (by have := List.mem_range.1 hj; omega)))).symm
end Go.Proofs.Ytajmfdnmckbclaa
