/- Package graph: the references' Pairs and Small, and the laws' own sample. -/
import Derived.Test.YtajmfdnmckbclaaG11
namespace Go.Proofs.Ytajmfdnmckbclaa
set_option linter.unusedSimpArgs false
set_option linter.unusedVariables false
open Go.RowKit Go.Sl

instance eqt30 : EqTy Try.prog 30 := ⟨by kernel_rfl, by kernel_rfl, by kernel_rfl⟩

theorem rl_ints_mk {S : Snap} {xs : List Int} (h : ∀ x ∈ xs, I64 x) : RL S (cF intC xs) xs := by
  refine ⟨cF_len (f := intC) (z := 1) (fun _ => rfl) xs, fun i x hx => ?_⟩
  obtain ⟨hi, rfl⟩ := List.getElem?_eq_some_iff.1 hx
  have := cF_get (f := intC) (z := 1) (fun _ => rfl) xs i hi
  show Rep.R S (((cF intC xs).drop (i * 1)).take 1) _
  rw [this]
  exact ⟨rfl, h _ (List.getElem_mem hi)⟩

theorem lit_ints {S : Snap} {M : List Chunk} {w : World} {v : Value} {n : Nat} {c : List Value} (xs : List Int) (h : St S (.sl v 3 1 n c :: M) w) (hc : c = cF intC xs) (hx : ∀ x ∈ xs, I64 x) (hn : n = xs.length) : ∃ S', S.Le S' ∧ St S' M w ∧ RSl S' v xs := by
  subst hc
  exact St.freeze (α := Int) h (rl_ints_mk hx) hn

set_option maxHeartbeats 400000 in
theorem pairs_c {S M} (w : World) (hst : St S M w) (va vb : Value) (a b : List (Int × Int)) (ha : RSl S va a) (hb : RSl S vb b) (hm : a.length ≤ 9223372036854775807) :
    Rets Try.prog 15 [va, vb] w fun v w' => v = .bool (decide (a = b)) ∧ St S M w' := by
  unfold Rets
  by_cases hl : a.length = b.length
  · have hd : (((a.length : Int)) != (b.length : Int)) = false := by simp [hl]
    have Hl := Lib.hid hl; clear hl
    go_enter Try.func15, Try.ntmps15
    repeat' (first
       | go_skip
       | (with_reducible refine Sl.k_guard ?_; (first | (refine Sl.guard_yes rfl ?_) | (refine Sl.guard_no rfl ?_) | (refine Sl.guard_cases rfl ?_ ?_ <;> intro hg <;> first | (exfalso; simp only [decide_eq_true_eq, decide_eq_false_iff_not, Bool.not_false, Bool.not_true, beq_iff_eq, beq_eq_false_iff_ne, ne_eq] at hg; omega) | (simp only [hg, Bool.not_true, Bool.not_false]))) <;> (try simp only [List.set_cons_succ, List.set_cons_zero, vOf_true, vOf_false, List.drop_succ_cons, List.drop_zero, List.take_succ_cons, List.take_zero, putD, Int.toNat_zero, Int.reduceToNat, Nat.mul_one, Nat.zero_add, Nat.add_zero, Nat.reduceMul, Nat.reduceAdd, Nat.zero_mul]))
       | ((fail_if_success (go_big_may)); (first | go_skip | go_guarded | go_step))
       | ((first
            | (with_reducible refine Sl.k_load ?_; (first
              | refine s_qt hst (qt_load rfl _ BoxIn.h inX rfl rfl) ?_
              | (refine s_ex hst (qt_ldp_int evX asX inX) ?_; rintro v ⟨rfl, hI⟩)
              | refine s_qt hst (by first | exact qt_ldp_u8 evX asX inX | exact qt_ldp_bool evX asX inX) ?_
              | (refine s_ex hst (qt_ldp_str evX asX inX) ?_; rintro v ⟨rfl, hs⟩)
              | (refine s_ex hst (qt_ldp_list evX asX inX) ?_; rintro v ⟨hvl, hv1⟩)
              | (refine s_ex hst (qt_ldp evX asX inX) ?_; rintro v ⟨cl, rfl, hcl⟩)
              | refine s_qt hst (by first | exact qt_ldB evX asX SlIn.h inX omX | exact qt_ldI evX asX SlIn.h inX omX | exact qt_ld2 evX asX SlIn.h inX omX | exact qt_load_own evX asX SlIn.h inX rfl (by simp; omega) | exact qt_load rfl _ asX inX rfl rfl) ?_))
            | (with_reducible refine Sl.k_field ?_; (first
              | refine s_qt hst (qt_field rfl inX) ?_
              | (refine s_ex hst (qt_fieldp evX asX inX inX rfl) ?_; rintro v hp; (try simp only [Int.toNat_natCast, Int.toNat_natCast_add_one, Int.reduceToNat] at hp))
              | (refine s_ex hst (qt_field_own evX asX inX) ?_; rintro v hp; (try simp only [Int.toNat_natCast, Int.toNat_natCast_add_one, Int.reduceToNat] at hp))))
            | (with_reducible refine Sl.k_index ?_; (first
              | refine s_qt hst (qt_indexA rfl rfl inX inX omX omX) ?_
              | (refine s_ex hst (qt_indexP0 evX asX rfl inX inX) ?_; rintro v hp; (try simp only [Int.toNat_natCast, Int.toNat_natCast_add_one, Int.reduceToNat] at hp))
              | (refine s_ex hst (qt_indexP1 evX asX rfl inX inX) ?_; rintro v hp; (try simp only [Int.toNat_natCast, Int.toNat_natCast_add_one, Int.reduceToNat] at hp))
              | (refine s_ex hst (qt_index evX asX rfl inX inX omX omX) ?_; rintro v hp; (try simp only [Int.toNat_natCast, Int.toNat_natCast_add_one, Int.reduceToNat] at hp))
              | (refine s_ex hst (qt_indexAp evX asX rfl inX inX rfl omX omX) ?_; rintro v hp; (try simp only [Int.toNat_natCast, Int.toNat_natCast_add_one, Int.reduceToNat] at hp))
              | (refine s_ex hst (qt_index_own hst evX SlIn.h rfl inX inX omX omX) ?_; rintro v hp; (try simp only [Int.toNat_natCast, Int.toNat_natCast_add_one, Int.reduceToNat] at hp))))
            | (with_reducible refine Sl.k_call ?_; (first
              | refine s_qt hst (by first | exact qt_len evX asX inX | exact qt_len_own evX SlIn.h inX | exact qt_max rfl rfl | exact qt_min rfl rfl) ?_))); simp only [List.set_cons_succ, List.set_cons_zero, vOf_true, vOf_false, List.drop_succ_cons, List.drop_zero, List.take_succ_cons, List.take_zero, putD, Int.toNat_zero, Int.reduceToNat, Nat.mul_one, Nat.zero_add, Nat.add_zero, Nat.reduceMul, Nat.reduceAdd, Nat.zero_mul])
       | (with_reducible refine Sl.gate rfl ?_; (first | go_skip | go_guarded | go_step))
       | ((first | (with_reducible refine Sl.k_store ?_; (first
              | refine s_stR hst rfl BoxIn.h evX asX inX rfl rfl ?_
              | refine s_store hst rfl _ BoxIn.h inX evX rfl lenOk oneOk (by simp) ?_
              | refine s_st1 hst rfl BoxIn.h evX asX inX (by simp) ?_
              | refine s_stB hst evX asX SlIn.h inX evX omX ?_
              | refine s_stI hst evX asX SlIn.h inX evX omX ?_
              | refine s_st2 hst evX asX SlIn.h inX evX omX ?_); clear hst; intro w hst) | (refine s_box hst evX rfl ?_; clear hst; intro bx w hst) | (refine s_alloc hst inX ?_; clear hst; intro bk w hst)); (try simp only [List.set_cons_succ, List.set_cons_zero, vOf_true, vOf_false, List.drop_succ_cons, List.drop_zero, List.take_succ_cons, List.take_zero, putD, Int.toNat_zero, Int.reduceToNat, Nat.mul_one, Nat.zero_add, Nat.add_zero, Nat.reduceMul, Nat.reduceAdd, Nat.zero_mul]); (try simp only [List.set_cons_succ, List.set_cons_zero, List.drop_succ_cons, List.drop_zero, List.take_succ_cons, List.take_zero, List.nil_append, List.cons_append, List.append_nil, Value.cells, List.eraseIdx_cons_zero, List.eraseIdx_cons_succ, Nat.zero_add, Nat.add_zero, List.flatten_cons, List.flatten_nil, List.map_cons, List.map_nil] at hst)))
    go_loopw [5] (fun v wr => ∃ k : Nat, k ≤ a.length ∧ v = .int .i64 k ∧ a.take k = b.take k ∧ St S M wr) (fun v _ => a.length - (intOf v).toNat)
    case atStart => exact ⟨0, Nat.zero_le _, rfl, rfl, hst⟩
    case round =>
      clear hst
      obtain ⟨k, hk, rfl, ht, hst⟩ := hrel
      have Ht := Lib.hid ht; clear ht
      by_cases hlt : k < a.length
      · have hlb : k < b.length := Hl.out ▸ hlt
        repeat' (first
           | go_skip
           | (with_reducible refine Sl.k_guard ?_; (first | (refine Sl.guard_yes rfl ?_) | (refine Sl.guard_no rfl ?_) | (refine Sl.guard_cases rfl ?_ ?_ <;> intro hg <;> first | (exfalso; simp only [decide_eq_true_eq, decide_eq_false_iff_not, Bool.not_false, Bool.not_true, beq_iff_eq, beq_eq_false_iff_ne, ne_eq] at hg; omega) | (simp only [hg, Bool.not_true, Bool.not_false]))) <;> (try simp only [List.set_cons_succ, List.set_cons_zero, vOf_true, vOf_false, List.drop_succ_cons, List.drop_zero, List.take_succ_cons, List.take_zero, putD, Int.toNat_zero, Int.reduceToNat, Nat.mul_one, Nat.zero_add, Nat.add_zero, Nat.reduceMul, Nat.reduceAdd, Nat.zero_mul]))
           | ((fail_if_success (go_big_may)); (first | go_skip | go_guarded | go_step))
           | ((first
                | (with_reducible refine Sl.k_load ?_; (first
                  | refine s_qt hst (qt_load rfl _ BoxIn.h inX rfl rfl) ?_
                  | (refine s_ex hst (qt_ldp_int evX asX inX) ?_; rintro v ⟨rfl, hI⟩)
                  | refine s_qt hst (by first | exact qt_ldp_u8 evX asX inX | exact qt_ldp_bool evX asX inX) ?_
                  | (refine s_ex hst (qt_ldp_str evX asX inX) ?_; rintro v ⟨rfl, hs⟩)
                  | (refine s_ex hst (qt_ldp_list evX asX inX) ?_; rintro v ⟨hvl, hv1⟩)
                  | (refine s_ex hst (qt_ldp evX asX inX) ?_; rintro v ⟨cl, rfl, hcl⟩)
                  | refine s_qt hst (by first | exact qt_ldB evX asX SlIn.h inX omX | exact qt_ldI evX asX SlIn.h inX omX | exact qt_ld2 evX asX SlIn.h inX omX | exact qt_load_own evX asX SlIn.h inX rfl (by simp; omega) | exact qt_load rfl _ asX inX rfl rfl) ?_))
                | (with_reducible refine Sl.k_field ?_; (first
                  | refine s_qt hst (qt_field rfl inX) ?_
                  | (refine s_ex hst (qt_fieldp evX asX inX inX rfl) ?_; rintro v hp; (try simp only [Int.toNat_natCast, Int.toNat_natCast_add_one, Int.reduceToNat] at hp))
                  | (refine s_ex hst (qt_field_own evX asX inX) ?_; rintro v hp; (try simp only [Int.toNat_natCast, Int.toNat_natCast_add_one, Int.reduceToNat] at hp))))
                | (with_reducible refine Sl.k_index ?_; (first
                  | refine s_qt hst (qt_indexA rfl rfl inX inX omX omX) ?_
                  | (refine s_ex hst (qt_indexP0 evX asX rfl inX inX) ?_; rintro v hp; (try simp only [Int.toNat_natCast, Int.toNat_natCast_add_one, Int.reduceToNat] at hp))
                  | (refine s_ex hst (qt_indexP1 evX asX rfl inX inX) ?_; rintro v hp; (try simp only [Int.toNat_natCast, Int.toNat_natCast_add_one, Int.reduceToNat] at hp))
                  | (refine s_ex hst (qt_index evX asX rfl inX inX omX omX) ?_; rintro v hp; (try simp only [Int.toNat_natCast, Int.toNat_natCast_add_one, Int.reduceToNat] at hp))
                  | (refine s_ex hst (qt_indexAp evX asX rfl inX inX rfl omX omX) ?_; rintro v hp; (try simp only [Int.toNat_natCast, Int.toNat_natCast_add_one, Int.reduceToNat] at hp))
                  | (refine s_ex hst (qt_index_own hst evX SlIn.h rfl inX inX omX omX) ?_; rintro v hp; (try simp only [Int.toNat_natCast, Int.toNat_natCast_add_one, Int.reduceToNat] at hp))))
                | (with_reducible refine Sl.k_call ?_; (first
                  | refine s_qt hst (by first | exact qt_len evX asX inX | exact qt_len_own evX SlIn.h inX | exact qt_max rfl rfl | exact qt_min rfl rfl) ?_))); simp only [List.set_cons_succ, List.set_cons_zero, vOf_true, vOf_false, List.drop_succ_cons, List.drop_zero, List.take_succ_cons, List.take_zero, putD, Int.toNat_zero, Int.reduceToNat, Nat.mul_one, Nat.zero_add, Nat.add_zero, Nat.reduceMul, Nat.reduceAdd, Nat.zero_mul])
           | (with_reducible refine Sl.gate rfl ?_; (first | go_skip | go_guarded | go_step))
           | ((first | (with_reducible refine Sl.k_store ?_; (first
                  | refine s_stR hst rfl BoxIn.h evX asX inX rfl rfl ?_
                  | refine s_store hst rfl _ BoxIn.h inX evX rfl lenOk oneOk (by simp) ?_
                  | refine s_st1 hst rfl BoxIn.h evX asX inX (by simp) ?_
                  | refine s_stB hst evX asX SlIn.h inX evX omX ?_
                  | refine s_stI hst evX asX SlIn.h inX evX omX ?_
                  | refine s_st2 hst evX asX SlIn.h inX evX omX ?_); clear hst; intro w hst) | (refine s_box hst evX rfl ?_; clear hst; intro bx w hst) | (refine s_alloc hst inX ?_; clear hst; intro bk w hst)); (try simp only [List.set_cons_succ, List.set_cons_zero, vOf_true, vOf_false, List.drop_succ_cons, List.drop_zero, List.take_succ_cons, List.take_zero, putD, Int.toNat_zero, Int.reduceToNat, Nat.mul_one, Nat.zero_add, Nat.add_zero, Nat.reduceMul, Nat.reduceAdd, Nat.zero_mul]); (try simp only [List.set_cons_succ, List.set_cons_zero, List.drop_succ_cons, List.drop_zero, List.take_succ_cons, List.take_zero, List.nil_append, List.cons_append, List.append_nil, Value.cells, List.eraseIdx_cons_zero, List.eraseIdx_cons_succ, Nat.zero_add, Nat.add_zero, List.flatten_cons, List.flatten_nil, List.map_cons, List.map_nil] at hst)))
        refine region_quiet hst (by kernel_rfl) (by kernel_rfl) ?_
        repeat (first
             | (with_reducible refine Sl.kq_guard ?_; first | (refine Sl.q_guard_yes rfl ?_) | (refine Sl.q_guard_no rfl ?_; simp only [List.set_cons_succ, List.set_cons_zero, vOf_true, vOf_false, List.drop_succ_cons, List.drop_zero, List.take_succ_cons, List.take_zero, putD, Int.toNat_zero, Int.reduceToNat, Nat.mul_one, Nat.zero_add, Nat.add_zero, Nat.reduceMul, Nat.reduceAdd, Nat.zero_mul]))
             | ((first
                | (with_reducible refine Sl.kq_load ?_; (first
                  | refine q_qt (qt_load rfl _ BoxIn.h inX rfl rfl) ?_
                  | (refine q_ex (qt_ldp_int evX asX inX) ?_; rintro v ⟨rfl, hI⟩)
                  | refine q_qt (by first | exact qt_ldp_u8 evX asX inX | exact qt_ldp_bool evX asX inX) ?_
                  | (refine q_ex (qt_ldp_str evX asX inX) ?_; rintro v ⟨rfl, hs⟩)
                  | (refine q_ex (qt_ldp_list evX asX inX) ?_; rintro v ⟨hvl, hv1⟩)
                  | (refine q_ex (qt_ldp evX asX inX) ?_; rintro v ⟨cl, rfl, hcl⟩)
                  | refine q_qt (by first | exact qt_ldB evX asX SlIn.h inX omX | exact qt_ldI evX asX SlIn.h inX omX | exact qt_ld2 evX asX SlIn.h inX omX | exact qt_load_own evX asX SlIn.h inX rfl (by simp; omega) | exact qt_load rfl _ asX inX rfl rfl) ?_))
                | (with_reducible refine Sl.kq_field ?_; (first
                  | refine q_qt (qt_field rfl inX) ?_
                  | (refine q_ex (qt_fieldp evX asX inX inX rfl) ?_; rintro v hp; (try simp only [Int.toNat_natCast, Int.toNat_natCast_add_one, Int.reduceToNat] at hp))
                  | (refine q_ex (qt_field_own evX asX inX) ?_; rintro v hp; (try simp only [Int.toNat_natCast, Int.toNat_natCast_add_one, Int.reduceToNat] at hp))))
                | (with_reducible refine Sl.kq_index ?_; (first
                  | refine q_qt (qt_indexA rfl rfl inX inX omX omX) ?_
                  | (refine q_ex (qt_indexP0 evX asX rfl inX inX) ?_; rintro v hp; (try simp only [Int.toNat_natCast, Int.toNat_natCast_add_one, Int.reduceToNat] at hp))
                  | (refine q_ex (qt_indexP1 evX asX rfl inX inX) ?_; rintro v hp; (try simp only [Int.toNat_natCast, Int.toNat_natCast_add_one, Int.reduceToNat] at hp))
                  | (refine q_ex (qt_index evX asX rfl inX inX omX omX) ?_; rintro v hp; (try simp only [Int.toNat_natCast, Int.toNat_natCast_add_one, Int.reduceToNat] at hp))
                  | (refine q_ex (qt_indexAp evX asX rfl inX inX rfl omX omX) ?_; rintro v hp; (try simp only [Int.toNat_natCast, Int.toNat_natCast_add_one, Int.reduceToNat] at hp))
                  | (refine q_ex (qt_index_own hst evX SlIn.h rfl inX inX omX omX) ?_; rintro v hp; (try simp only [Int.toNat_natCast, Int.toNat_natCast_add_one, Int.reduceToNat] at hp))))
                | (with_reducible refine Sl.kq_call ?_; (first
                  | refine q_qt (by first | exact qt_len evX asX inX | exact qt_len_own evX SlIn.h inX | exact qt_max rfl rfl | exact qt_min rfl rfl) ?_))
                | (refine Sl.kq_plain rfl ?_; (first
                  | (refine q_qt (qt_neqK rfl rfl (by assumption) (by assumption) inX inX inX) ?_)
                  | refine q_qt (by first | exact qt_move evX | exact qt_assign evX | exact qt_pick_t rfl evX | exact qt_pick_f rfl evX | exact qt_not rfl | exact qt_lss rfl rfl | exact qt_leq rfl rfl | exact qt_gtr rfl rfl | exact qt_geq rfl rfl | exact qt_eql rfl rfl | exact qt_neq rfl rfl | exact qt_add' rfl rfl omX | exact qt_sub' rfl rfl omX | exact qt_mul' rfl rfl omX) ?_))); (try simp only [List.set_cons_succ, List.set_cons_zero, vOf_true, vOf_false, List.drop_succ_cons, List.drop_zero, List.take_succ_cons, List.take_zero, putD, Int.toNat_zero, Int.reduceToNat, Nat.mul_one, Nat.zero_add, Nat.add_zero, Nat.reduceMul, Nat.reduceAdd, Nat.zero_mul]))
             | (refine Sl.kq_plain rfl ?_; first
                | (go_big_quiet_want; go_big_quiet_op; go_big_quiet_on)))
        refine q_nil ?_; clear hst; intro w hst
        by_cases he : a[k] = b[k]
        · have he' : (!decide (a[k] = b[k])) = false := by simp [he]
          have He := Lib.hid he; clear he
          simp only [he']
          repeat' (first
             | go_skip
             | (with_reducible refine Sl.k_guard ?_; (first | (refine Sl.guard_yes rfl ?_) | (refine Sl.guard_no rfl ?_) | (refine Sl.guard_cases rfl ?_ ?_ <;> intro hg <;> first | (exfalso; simp only [decide_eq_true_eq, decide_eq_false_iff_not, Bool.not_false, Bool.not_true, beq_iff_eq, beq_eq_false_iff_ne, ne_eq] at hg; omega) | (simp only [hg, Bool.not_true, Bool.not_false]))) <;> (try simp only [List.set_cons_succ, List.set_cons_zero, vOf_true, vOf_false, List.drop_succ_cons, List.drop_zero, List.take_succ_cons, List.take_zero, putD, Int.toNat_zero, Int.reduceToNat, Nat.mul_one, Nat.zero_add, Nat.add_zero, Nat.reduceMul, Nat.reduceAdd, Nat.zero_mul]))
             | ((fail_if_success (go_big_may)); (first | go_skip | go_guarded | go_step))
             | ((first
                  | (with_reducible refine Sl.k_load ?_; (first
                    | refine s_qt hst (qt_load rfl _ BoxIn.h inX rfl rfl) ?_
                    | (refine s_ex hst (qt_ldp_int evX asX inX) ?_; rintro v ⟨rfl, hI⟩)
                    | refine s_qt hst (by first | exact qt_ldp_u8 evX asX inX | exact qt_ldp_bool evX asX inX) ?_
                    | (refine s_ex hst (qt_ldp_str evX asX inX) ?_; rintro v ⟨rfl, hs⟩)
                    | (refine s_ex hst (qt_ldp_list evX asX inX) ?_; rintro v ⟨hvl, hv1⟩)
                    | (refine s_ex hst (qt_ldp evX asX inX) ?_; rintro v ⟨cl, rfl, hcl⟩)
                    | refine s_qt hst (by first | exact qt_ldB evX asX SlIn.h inX omX | exact qt_ldI evX asX SlIn.h inX omX | exact qt_ld2 evX asX SlIn.h inX omX | exact qt_load_own evX asX SlIn.h inX rfl (by simp; omega) | exact qt_load rfl _ asX inX rfl rfl) ?_))
                  | (with_reducible refine Sl.k_field ?_; (first
                    | refine s_qt hst (qt_field rfl inX) ?_
                    | (refine s_ex hst (qt_fieldp evX asX inX inX rfl) ?_; rintro v hp; (try simp only [Int.toNat_natCast, Int.toNat_natCast_add_one, Int.reduceToNat] at hp))
                    | (refine s_ex hst (qt_field_own evX asX inX) ?_; rintro v hp; (try simp only [Int.toNat_natCast, Int.toNat_natCast_add_one, Int.reduceToNat] at hp))))
                  | (with_reducible refine Sl.k_index ?_; (first
                    | refine s_qt hst (qt_indexA rfl rfl inX inX omX omX) ?_
                    | (refine s_ex hst (qt_indexP0 evX asX rfl inX inX) ?_; rintro v hp; (try simp only [Int.toNat_natCast, Int.toNat_natCast_add_one, Int.reduceToNat] at hp))
                    | (refine s_ex hst (qt_indexP1 evX asX rfl inX inX) ?_; rintro v hp; (try simp only [Int.toNat_natCast, Int.toNat_natCast_add_one, Int.reduceToNat] at hp))
                    | (refine s_ex hst (qt_index evX asX rfl inX inX omX omX) ?_; rintro v hp; (try simp only [Int.toNat_natCast, Int.toNat_natCast_add_one, Int.reduceToNat] at hp))
                    | (refine s_ex hst (qt_indexAp evX asX rfl inX inX rfl omX omX) ?_; rintro v hp; (try simp only [Int.toNat_natCast, Int.toNat_natCast_add_one, Int.reduceToNat] at hp))
                    | (refine s_ex hst (qt_index_own hst evX SlIn.h rfl inX inX omX omX) ?_; rintro v hp; (try simp only [Int.toNat_natCast, Int.toNat_natCast_add_one, Int.reduceToNat] at hp))))
                  | (with_reducible refine Sl.k_call ?_; (first
                    | refine s_qt hst (by first | exact qt_len evX asX inX | exact qt_len_own evX SlIn.h inX | exact qt_max rfl rfl | exact qt_min rfl rfl) ?_))); simp only [List.set_cons_succ, List.set_cons_zero, vOf_true, vOf_false, List.drop_succ_cons, List.drop_zero, List.take_succ_cons, List.take_zero, putD, Int.toNat_zero, Int.reduceToNat, Nat.mul_one, Nat.zero_add, Nat.add_zero, Nat.reduceMul, Nat.reduceAdd, Nat.zero_mul])
             | (with_reducible refine Sl.gate rfl ?_; (first | go_skip | go_guarded | go_step))
             | ((first | (with_reducible refine Sl.k_store ?_; (first
                    | refine s_stR hst rfl BoxIn.h evX asX inX rfl rfl ?_
                    | refine s_store hst rfl _ BoxIn.h inX evX rfl lenOk oneOk (by simp) ?_
                    | refine s_st1 hst rfl BoxIn.h evX asX inX (by simp) ?_
                    | refine s_stB hst evX asX SlIn.h inX evX omX ?_
                    | refine s_stI hst evX asX SlIn.h inX evX omX ?_
                    | refine s_st2 hst evX asX SlIn.h inX evX omX ?_); clear hst; intro w hst) | (refine s_box hst evX rfl ?_; clear hst; intro bx w hst) | (refine s_alloc hst inX ?_; clear hst; intro bk w hst)); (try simp only [List.set_cons_succ, List.set_cons_zero, vOf_true, vOf_false, List.drop_succ_cons, List.drop_zero, List.take_succ_cons, List.take_zero, putD, Int.toNat_zero, Int.reduceToNat, Nat.mul_one, Nat.zero_add, Nat.add_zero, Nat.reduceMul, Nat.reduceAdd, Nat.zero_mul]); (try simp only [List.set_cons_succ, List.set_cons_zero, List.drop_succ_cons, List.drop_zero, List.take_succ_cons, List.take_zero, List.nil_append, List.cons_append, List.append_nil, Value.cells, List.eraseIdx_cons_zero, List.eraseIdx_cons_succ, Nat.zero_add, Nat.add_zero, List.flatten_cons, List.flatten_nil, List.map_cons, List.map_nil] at hst)))
          go_roundw
          case rel => exact ⟨k + 1, by omega, by go_num, (take_succ_eq Ht.out hlt hlb).2 He.out, hst⟩
          case measure => simp [intOf]; omega
        · have he' : (!decide (a[k] = b[k])) = true := by simp [he]
          simp only [he']
          repeat' (first
             | go_skip
             | (with_reducible refine Sl.k_guard ?_; (first | (refine Sl.guard_yes rfl ?_) | (refine Sl.guard_no rfl ?_) | (refine Sl.guard_cases rfl ?_ ?_ <;> intro hg <;> first | (exfalso; simp only [decide_eq_true_eq, decide_eq_false_iff_not, Bool.not_false, Bool.not_true, beq_iff_eq, beq_eq_false_iff_ne, ne_eq] at hg; omega) | (simp only [hg, Bool.not_true, Bool.not_false]))) <;> (try simp only [List.set_cons_succ, List.set_cons_zero, vOf_true, vOf_false, List.drop_succ_cons, List.drop_zero, List.take_succ_cons, List.take_zero, putD, Int.toNat_zero, Int.reduceToNat, Nat.mul_one, Nat.zero_add, Nat.add_zero, Nat.reduceMul, Nat.reduceAdd, Nat.zero_mul]))
             | ((fail_if_success (go_big_may)); (first | go_skip | go_guarded | go_step))
             | ((first
                  | (with_reducible refine Sl.k_load ?_; (first
                    | refine s_qt hst (qt_load rfl _ BoxIn.h inX rfl rfl) ?_
                    | (refine s_ex hst (qt_ldp_int evX asX inX) ?_; rintro v ⟨rfl, hI⟩)
                    | refine s_qt hst (by first | exact qt_ldp_u8 evX asX inX | exact qt_ldp_bool evX asX inX) ?_
                    | (refine s_ex hst (qt_ldp_str evX asX inX) ?_; rintro v ⟨rfl, hs⟩)
                    | (refine s_ex hst (qt_ldp_list evX asX inX) ?_; rintro v ⟨hvl, hv1⟩)
                    | (refine s_ex hst (qt_ldp evX asX inX) ?_; rintro v ⟨cl, rfl, hcl⟩)
                    | refine s_qt hst (by first | exact qt_ldB evX asX SlIn.h inX omX | exact qt_ldI evX asX SlIn.h inX omX | exact qt_ld2 evX asX SlIn.h inX omX | exact qt_load_own evX asX SlIn.h inX rfl (by simp; omega) | exact qt_load rfl _ asX inX rfl rfl) ?_))
                  | (with_reducible refine Sl.k_field ?_; (first
                    | refine s_qt hst (qt_field rfl inX) ?_
                    | (refine s_ex hst (qt_fieldp evX asX inX inX rfl) ?_; rintro v hp; (try simp only [Int.toNat_natCast, Int.toNat_natCast_add_one, Int.reduceToNat] at hp))
                    | (refine s_ex hst (qt_field_own evX asX inX) ?_; rintro v hp; (try simp only [Int.toNat_natCast, Int.toNat_natCast_add_one, Int.reduceToNat] at hp))))
                  | (with_reducible refine Sl.k_index ?_; (first
                    | refine s_qt hst (qt_indexA rfl rfl inX inX omX omX) ?_
                    | (refine s_ex hst (qt_indexP0 evX asX rfl inX inX) ?_; rintro v hp; (try simp only [Int.toNat_natCast, Int.toNat_natCast_add_one, Int.reduceToNat] at hp))
                    | (refine s_ex hst (qt_indexP1 evX asX rfl inX inX) ?_; rintro v hp; (try simp only [Int.toNat_natCast, Int.toNat_natCast_add_one, Int.reduceToNat] at hp))
                    | (refine s_ex hst (qt_index evX asX rfl inX inX omX omX) ?_; rintro v hp; (try simp only [Int.toNat_natCast, Int.toNat_natCast_add_one, Int.reduceToNat] at hp))
                    | (refine s_ex hst (qt_indexAp evX asX rfl inX inX rfl omX omX) ?_; rintro v hp; (try simp only [Int.toNat_natCast, Int.toNat_natCast_add_one, Int.reduceToNat] at hp))
                    | (refine s_ex hst (qt_index_own hst evX SlIn.h rfl inX inX omX omX) ?_; rintro v hp; (try simp only [Int.toNat_natCast, Int.toNat_natCast_add_one, Int.reduceToNat] at hp))))
                  | (with_reducible refine Sl.k_call ?_; (first
                    | refine s_qt hst (by first | exact qt_len evX asX inX | exact qt_len_own evX SlIn.h inX | exact qt_max rfl rfl | exact qt_min rfl rfl) ?_))); simp only [List.set_cons_succ, List.set_cons_zero, vOf_true, vOf_false, List.drop_succ_cons, List.drop_zero, List.take_succ_cons, List.take_zero, putD, Int.toNat_zero, Int.reduceToNat, Nat.mul_one, Nat.zero_add, Nat.add_zero, Nat.reduceMul, Nat.reduceAdd, Nat.zero_mul])
             | (with_reducible refine Sl.gate rfl ?_; (first | go_skip | go_guarded | go_step))
             | ((first | (with_reducible refine Sl.k_store ?_; (first
                    | refine s_stR hst rfl BoxIn.h evX asX inX rfl rfl ?_
                    | refine s_store hst rfl _ BoxIn.h inX evX rfl lenOk oneOk (by simp) ?_
                    | refine s_st1 hst rfl BoxIn.h evX asX inX (by simp) ?_
                    | refine s_stB hst evX asX SlIn.h inX evX omX ?_
                    | refine s_stI hst evX asX SlIn.h inX evX omX ?_
                    | refine s_st2 hst evX asX SlIn.h inX evX omX ?_); clear hst; intro w hst) | (refine s_box hst evX rfl ?_; clear hst; intro bx w hst) | (refine s_alloc hst inX ?_; clear hst; intro bk w hst)); (try simp only [List.set_cons_succ, List.set_cons_zero, vOf_true, vOf_false, List.drop_succ_cons, List.drop_zero, List.take_succ_cons, List.take_zero, putD, Int.toNat_zero, Int.reduceToNat, Nat.mul_one, Nat.zero_add, Nat.add_zero, Nat.reduceMul, Nat.reduceAdd, Nat.zero_mul]); (try simp only [List.set_cons_succ, List.set_cons_zero, List.drop_succ_cons, List.drop_zero, List.take_succ_cons, List.take_zero, List.nil_append, List.cons_append, List.append_nil, Value.cells, List.eraseIdx_cons_zero, List.eraseIdx_cons_succ, Nat.zero_add, Nat.add_zero, List.flatten_cons, List.flatten_nil, List.map_cons, List.map_nil] at hst)))
          go_ret
          exact ⟨_, rfl, bool_no (by rintro rfl; exact he rfl), hst⟩
      · repeat' (first
           | go_skip
           | (with_reducible refine Sl.k_guard ?_; (first | (refine Sl.guard_yes rfl ?_) | (refine Sl.guard_no rfl ?_) | (refine Sl.guard_cases rfl ?_ ?_ <;> intro hg <;> first | (exfalso; simp only [decide_eq_true_eq, decide_eq_false_iff_not, Bool.not_false, Bool.not_true, beq_iff_eq, beq_eq_false_iff_ne, ne_eq] at hg; omega) | (simp only [hg, Bool.not_true, Bool.not_false]))) <;> (try simp only [List.set_cons_succ, List.set_cons_zero, vOf_true, vOf_false, List.drop_succ_cons, List.drop_zero, List.take_succ_cons, List.take_zero, putD, Int.toNat_zero, Int.reduceToNat, Nat.mul_one, Nat.zero_add, Nat.add_zero, Nat.reduceMul, Nat.reduceAdd, Nat.zero_mul]))
           | ((fail_if_success (go_big_may)); (first | go_skip | go_guarded | go_step))
           | ((first
                | (with_reducible refine Sl.k_load ?_; (first
                  | refine s_qt hst (qt_load rfl _ BoxIn.h inX rfl rfl) ?_
                  | (refine s_ex hst (qt_ldp_int evX asX inX) ?_; rintro v ⟨rfl, hI⟩)
                  | refine s_qt hst (by first | exact qt_ldp_u8 evX asX inX | exact qt_ldp_bool evX asX inX) ?_
                  | (refine s_ex hst (qt_ldp_str evX asX inX) ?_; rintro v ⟨rfl, hs⟩)
                  | (refine s_ex hst (qt_ldp_list evX asX inX) ?_; rintro v ⟨hvl, hv1⟩)
                  | (refine s_ex hst (qt_ldp evX asX inX) ?_; rintro v ⟨cl, rfl, hcl⟩)
                  | refine s_qt hst (by first | exact qt_ldB evX asX SlIn.h inX omX | exact qt_ldI evX asX SlIn.h inX omX | exact qt_ld2 evX asX SlIn.h inX omX | exact qt_load_own evX asX SlIn.h inX rfl (by simp; omega) | exact qt_load rfl _ asX inX rfl rfl) ?_))
                | (with_reducible refine Sl.k_field ?_; (first
                  | refine s_qt hst (qt_field rfl inX) ?_
                  | (refine s_ex hst (qt_fieldp evX asX inX inX rfl) ?_; rintro v hp; (try simp only [Int.toNat_natCast, Int.toNat_natCast_add_one, Int.reduceToNat] at hp))
                  | (refine s_ex hst (qt_field_own evX asX inX) ?_; rintro v hp; (try simp only [Int.toNat_natCast, Int.toNat_natCast_add_one, Int.reduceToNat] at hp))))
                | (with_reducible refine Sl.k_index ?_; (first
                  | refine s_qt hst (qt_indexA rfl rfl inX inX omX omX) ?_
                  | (refine s_ex hst (qt_indexP0 evX asX rfl inX inX) ?_; rintro v hp; (try simp only [Int.toNat_natCast, Int.toNat_natCast_add_one, Int.reduceToNat] at hp))
                  | (refine s_ex hst (qt_indexP1 evX asX rfl inX inX) ?_; rintro v hp; (try simp only [Int.toNat_natCast, Int.toNat_natCast_add_one, Int.reduceToNat] at hp))
                  | (refine s_ex hst (qt_index evX asX rfl inX inX omX omX) ?_; rintro v hp; (try simp only [Int.toNat_natCast, Int.toNat_natCast_add_one, Int.reduceToNat] at hp))
                  | (refine s_ex hst (qt_indexAp evX asX rfl inX inX rfl omX omX) ?_; rintro v hp; (try simp only [Int.toNat_natCast, Int.toNat_natCast_add_one, Int.reduceToNat] at hp))
                  | (refine s_ex hst (qt_index_own hst evX SlIn.h rfl inX inX omX omX) ?_; rintro v hp; (try simp only [Int.toNat_natCast, Int.toNat_natCast_add_one, Int.reduceToNat] at hp))))
                | (with_reducible refine Sl.k_call ?_; (first
                  | refine s_qt hst (by first | exact qt_len evX asX inX | exact qt_len_own evX SlIn.h inX | exact qt_max rfl rfl | exact qt_min rfl rfl) ?_))); simp only [List.set_cons_succ, List.set_cons_zero, vOf_true, vOf_false, List.drop_succ_cons, List.drop_zero, List.take_succ_cons, List.take_zero, putD, Int.toNat_zero, Int.reduceToNat, Nat.mul_one, Nat.zero_add, Nat.add_zero, Nat.reduceMul, Nat.reduceAdd, Nat.zero_mul])
           | (with_reducible refine Sl.gate rfl ?_; (first | go_skip | go_guarded | go_step))
           | ((first | (with_reducible refine Sl.k_store ?_; (first
                  | refine s_stR hst rfl BoxIn.h evX asX inX rfl rfl ?_
                  | refine s_store hst rfl _ BoxIn.h inX evX rfl lenOk oneOk (by simp) ?_
                  | refine s_st1 hst rfl BoxIn.h evX asX inX (by simp) ?_
                  | refine s_stB hst evX asX SlIn.h inX evX omX ?_
                  | refine s_stI hst evX asX SlIn.h inX evX omX ?_
                  | refine s_st2 hst evX asX SlIn.h inX evX omX ?_); clear hst; intro w hst) | (refine s_box hst evX rfl ?_; clear hst; intro bx w hst) | (refine s_alloc hst inX ?_; clear hst; intro bk w hst)); (try simp only [List.set_cons_succ, List.set_cons_zero, vOf_true, vOf_false, List.drop_succ_cons, List.drop_zero, List.take_succ_cons, List.take_zero, putD, Int.toNat_zero, Int.reduceToNat, Nat.mul_one, Nat.zero_add, Nat.add_zero, Nat.reduceMul, Nat.reduceAdd, Nat.zero_mul]); (try simp only [List.set_cons_succ, List.set_cons_zero, List.drop_succ_cons, List.drop_zero, List.take_succ_cons, List.take_zero, List.nil_append, List.cons_append, List.append_nil, Value.cells, List.eraseIdx_cons_zero, List.eraseIdx_cons_succ, Nat.zero_add, Nat.add_zero, List.flatten_cons, List.flatten_nil, List.map_cons, List.map_nil] at hst)))
        go_ret
        exact ⟨_, rfl, bool_yes (by have h1 := Ht.out; have h2 := Hl.out; rwa [List.take_of_length_le (by omega), List.take_of_length_le (by omega)] at h1), hst⟩
  · have hd : (((a.length : Int)) != (b.length : Int)) = true := by simp; omega
    go_enter Try.func15, Try.ntmps15
    repeat' (first
       | go_skip
       | (with_reducible refine Sl.k_guard ?_; (first | (refine Sl.guard_yes rfl ?_) | (refine Sl.guard_no rfl ?_) | (refine Sl.guard_cases rfl ?_ ?_ <;> intro hg <;> first | (exfalso; simp only [decide_eq_true_eq, decide_eq_false_iff_not, Bool.not_false, Bool.not_true, beq_iff_eq, beq_eq_false_iff_ne, ne_eq] at hg; omega) | (simp only [hg, Bool.not_true, Bool.not_false]))) <;> (try simp only [List.set_cons_succ, List.set_cons_zero, vOf_true, vOf_false, List.drop_succ_cons, List.drop_zero, List.take_succ_cons, List.take_zero, putD, Int.toNat_zero, Int.reduceToNat, Nat.mul_one, Nat.zero_add, Nat.add_zero, Nat.reduceMul, Nat.reduceAdd, Nat.zero_mul]))
       | ((fail_if_success (go_big_may)); (first | go_skip | go_guarded | go_step))
       | ((first
            | (with_reducible refine Sl.k_load ?_; (first
              | refine s_qt hst (qt_load rfl _ BoxIn.h inX rfl rfl) ?_
              | (refine s_ex hst (qt_ldp_int evX asX inX) ?_; rintro v ⟨rfl, hI⟩)
              | refine s_qt hst (by first | exact qt_ldp_u8 evX asX inX | exact qt_ldp_bool evX asX inX) ?_
              | (refine s_ex hst (qt_ldp_str evX asX inX) ?_; rintro v ⟨rfl, hs⟩)
              | (refine s_ex hst (qt_ldp_list evX asX inX) ?_; rintro v ⟨hvl, hv1⟩)
              | (refine s_ex hst (qt_ldp evX asX inX) ?_; rintro v ⟨cl, rfl, hcl⟩)
              | refine s_qt hst (by first | exact qt_ldB evX asX SlIn.h inX omX | exact qt_ldI evX asX SlIn.h inX omX | exact qt_ld2 evX asX SlIn.h inX omX | exact qt_load_own evX asX SlIn.h inX rfl (by simp; omega) | exact qt_load rfl _ asX inX rfl rfl) ?_))
            | (with_reducible refine Sl.k_field ?_; (first
              | refine s_qt hst (qt_field rfl inX) ?_
              | (refine s_ex hst (qt_fieldp evX asX inX inX rfl) ?_; rintro v hp; (try simp only [Int.toNat_natCast, Int.toNat_natCast_add_one, Int.reduceToNat] at hp))
              | (refine s_ex hst (qt_field_own evX asX inX) ?_; rintro v hp; (try simp only [Int.toNat_natCast, Int.toNat_natCast_add_one, Int.reduceToNat] at hp))))
            | (with_reducible refine Sl.k_index ?_; (first
              | refine s_qt hst (qt_indexA rfl rfl inX inX omX omX) ?_
              | (refine s_ex hst (qt_indexP0 evX asX rfl inX inX) ?_; rintro v hp; (try simp only [Int.toNat_natCast, Int.toNat_natCast_add_one, Int.reduceToNat] at hp))
              | (refine s_ex hst (qt_indexP1 evX asX rfl inX inX) ?_; rintro v hp; (try simp only [Int.toNat_natCast, Int.toNat_natCast_add_one, Int.reduceToNat] at hp))
              | (refine s_ex hst (qt_index evX asX rfl inX inX omX omX) ?_; rintro v hp; (try simp only [Int.toNat_natCast, Int.toNat_natCast_add_one, Int.reduceToNat] at hp))
              | (refine s_ex hst (qt_indexAp evX asX rfl inX inX rfl omX omX) ?_; rintro v hp; (try simp only [Int.toNat_natCast, Int.toNat_natCast_add_one, Int.reduceToNat] at hp))
              | (refine s_ex hst (qt_index_own hst evX SlIn.h rfl inX inX omX omX) ?_; rintro v hp; (try simp only [Int.toNat_natCast, Int.toNat_natCast_add_one, Int.reduceToNat] at hp))))
            | (with_reducible refine Sl.k_call ?_; (first
              | refine s_qt hst (by first | exact qt_len evX asX inX | exact qt_len_own evX SlIn.h inX | exact qt_max rfl rfl | exact qt_min rfl rfl) ?_))); simp only [List.set_cons_succ, List.set_cons_zero, vOf_true, vOf_false, List.drop_succ_cons, List.drop_zero, List.take_succ_cons, List.take_zero, putD, Int.toNat_zero, Int.reduceToNat, Nat.mul_one, Nat.zero_add, Nat.add_zero, Nat.reduceMul, Nat.reduceAdd, Nat.zero_mul])
       | (with_reducible refine Sl.gate rfl ?_; (first | go_skip | go_guarded | go_step))
       | ((first | (with_reducible refine Sl.k_store ?_; (first
              | refine s_stR hst rfl BoxIn.h evX asX inX rfl rfl ?_
              | refine s_store hst rfl _ BoxIn.h inX evX rfl lenOk oneOk (by simp) ?_
              | refine s_st1 hst rfl BoxIn.h evX asX inX (by simp) ?_
              | refine s_stB hst evX asX SlIn.h inX evX omX ?_
              | refine s_stI hst evX asX SlIn.h inX evX omX ?_
              | refine s_st2 hst evX asX SlIn.h inX evX omX ?_); clear hst; intro w hst) | (refine s_box hst evX rfl ?_; clear hst; intro bx w hst) | (refine s_alloc hst inX ?_; clear hst; intro bk w hst)); (try simp only [List.set_cons_succ, List.set_cons_zero, vOf_true, vOf_false, List.drop_succ_cons, List.drop_zero, List.take_succ_cons, List.take_zero, putD, Int.toNat_zero, Int.reduceToNat, Nat.mul_one, Nat.zero_add, Nat.add_zero, Nat.reduceMul, Nat.reduceAdd, Nat.zero_mul]); (try simp only [List.set_cons_succ, List.set_cons_zero, List.drop_succ_cons, List.drop_zero, List.take_succ_cons, List.take_zero, List.nil_append, List.cons_append, List.append_nil, Value.cells, List.eraseIdx_cons_zero, List.eraseIdx_cons_succ, Nat.zero_add, Nat.add_zero, List.flatten_cons, List.flatten_nil, List.map_cons, List.map_nil] at hst)))
    go_ret
    exact ⟨_, rfl, bool_no (by rintro rfl; exact hl rfl), hst⟩

theorem sl_form {S : Snap} {M : List Chunk} {w : World} {v : Value} {T : TypeId} {z n : Nat} {c : List Value} (h : St S (.sl v T z n c :: M) w) : ∃ a k c', v = .slice a k c' := by
  rcases (h.get (k := 0) rfl).2 with ⟨rfl, _⟩ | ⟨g, cap, cur, fz, rfl, _⟩ <;> exact ⟨_, _, _, rfl⟩

def sampleNodes : List Nd := [(1, 0, ⟨[]⟩, [], ()), (17, 0, ⟨[]⟩, [], ()), (12, 1, ⟨[]⟩, [0, 1], ()), (17, 0, ⟨[]⟩, [], ()), (12, 0, ⟨[]⟩, [0, 2, 3], ())]

theorem node_mk {S : Snap} {kd n : Int} {vs : Value} {ofs : List Int} (h1 : I64 kd) (h2 : I64 n) (h : RSl S vs ofs) : Rep.R S [.int .i64 kd, .int .i64 n, .string ⟨#[]⟩, vs] ((kd, n, ⟨[]⟩, ofs, ()) : Nd) :=
  prod_mk (x := kd) (y := (n, (⟨[]⟩ : Str), ofs, ())) (cs := [.int .i64 kd]) ⟨rfl, h1⟩ (prod_mk (x := n) (y := ((⟨[]⟩ : Str), ofs, ())) (cs := [.int .i64 n]) ⟨rfl, h2⟩
    (prod_mk (x := (⟨[]⟩ : Str)) (y := (ofs, ())) (cs := [.string ⟨#[]⟩]) ⟨rfl, by simp⟩ (prod_mk (x := ofs) (y := ()) (cs := [vs]) ⟨vs, rfl, h⟩ rfl)))

theorem rl_sample {S : Snap} {v1 v2 : Value} (h1 : RSl S v1 ([0, 1] : List Int)) (h2 : RSl S v2 ([0, 2, 3] : List Int)) :
    RL S [.int .i64 1, .int .i64 0, .string ⟨#[]⟩, .slice none 0 0, .int .i64 17, .int .i64 0, .string ⟨#[]⟩, .slice none 0 0, .int .i64 12, .int .i64 1, .string ⟨#[]⟩, v1, .int .i64 17, .int .i64 0, .string ⟨#[]⟩, .slice none 0 0, .int .i64 12, .int .i64 0, .string ⟨#[]⟩, v2] sampleNodes := by
  have hk : ∀ k : Int, 0 ≤ k → k ≤ 20 → I64 k := fun k a b => by unfold I64; omega
  have h0 : RSl S (.slice none 0 0) ([] : List Int) := .inl ⟨none, 0, rfl, rfl, by simp [maxLen]⟩
  refine ⟨rfl, fun i x hx => ?_⟩
  rcases i with _ | _ | _ | _ | _ | i
  · obtain rfl := Option.some.inj hx; exact node_mk (hk _ (by omega) (by omega)) (hk _ (by omega) (by omega)) h0
  · obtain rfl := Option.some.inj hx; exact node_mk (hk _ (by omega) (by omega)) (hk _ (by omega) (by omega)) h0
  · obtain rfl := Option.some.inj hx; exact node_mk (hk _ (by omega) (by omega)) (hk _ (by omega) (by omega)) h1
  · obtain rfl := Option.some.inj hx; exact node_mk (hk _ (by omega) (by omega)) (hk _ (by omega) (by omega)) h0
  · obtain rfl := Option.some.inj hx; exact node_mk (hk _ (by omega) (by omega)) (hk _ (by omega) (by omega)) h2
  · simp [sampleNodes] at hx

set_option maxHeartbeats 400000 in
theorem sample_c {S M} (w : World) (hst : St S M w) :
    Rets Try.prog 14 [] w fun v w' => ∃ S' vi vn, S.Le S' ∧ v = .agg #[vi, vn, .int .i64 4, .int .i64 2] ∧ RSl S' vi ([] : List (Str × Int × Int × Int × Unit)) ∧ RSl S' vn sampleNodes ∧ St S' M w' := by
  unfold Rets
  go_enter Try.func14, Try.ntmps14
  repeat' (first
     | go_skip
     | (with_reducible refine Sl.k_guard ?_; (first | (refine Sl.guard_yes rfl ?_) | (refine Sl.guard_no rfl ?_) | (refine Sl.guard_cases rfl ?_ ?_ <;> intro hg <;> first | (exfalso; simp only [decide_eq_true_eq, decide_eq_false_iff_not, Bool.not_false, Bool.not_true, beq_iff_eq, beq_eq_false_iff_ne, ne_eq] at hg; omega) | (simp only [hg, Bool.not_true, Bool.not_false]))) <;> (try simp only [List.set_cons_succ, List.set_cons_zero, vOf_true, vOf_false, List.drop_succ_cons, List.drop_zero, List.take_succ_cons, List.take_zero, putD, Int.toNat_zero, Int.reduceToNat, Nat.mul_one, Nat.zero_add, Nat.add_zero, Nat.reduceMul, Nat.reduceAdd, Nat.zero_mul]))
     | ((fail_if_success (go_big_may)); (first | go_skip | go_guarded | go_step))
     | ((first
          | (with_reducible refine Sl.k_load ?_; (first
            | refine s_qt hst (qt_load rfl _ BoxIn.h inX rfl rfl) ?_
            | (refine s_ex hst (qt_ldp_int evX asX inX) ?_; rintro v ⟨rfl, hI⟩)
            | refine s_qt hst (by first | exact qt_ldp_u8 evX asX inX | exact qt_ldp_bool evX asX inX) ?_
            | (refine s_ex hst (qt_ldp_str evX asX inX) ?_; rintro v ⟨rfl, hs⟩)
            | (refine s_ex hst (qt_ldp_list evX asX inX) ?_; rintro v ⟨hvl, hv1⟩)
            | (refine s_ex hst (qt_ldp evX asX inX) ?_; rintro v ⟨cl, rfl, hcl⟩)
            | refine s_qt hst (by first | exact qt_ldB evX asX SlIn.h inX omX | exact qt_ldI evX asX SlIn.h inX omX | exact qt_ld2 evX asX SlIn.h inX omX | exact qt_load_own evX asX SlIn.h inX rfl (by simp; omega) | exact qt_load rfl _ asX inX rfl rfl) ?_))
          | (with_reducible refine Sl.k_field ?_; (first
            | refine s_qt hst (qt_field rfl inX) ?_
            | (refine s_ex hst (qt_fieldp evX asX inX inX rfl) ?_; rintro v hp; (try simp only [Int.toNat_natCast, Int.toNat_natCast_add_one, Int.reduceToNat] at hp))
            | (refine s_ex hst (qt_field_own evX asX inX) ?_; rintro v hp; (try simp only [Int.toNat_natCast, Int.toNat_natCast_add_one, Int.reduceToNat] at hp))))
          | (with_reducible refine Sl.k_index ?_; (first
            | refine s_qt hst (qt_indexA rfl rfl inX inX omX omX) ?_
            | (refine s_ex hst (qt_indexP0 evX asX rfl inX inX) ?_; rintro v hp; (try simp only [Int.toNat_natCast, Int.toNat_natCast_add_one, Int.reduceToNat] at hp))
            | (refine s_ex hst (qt_indexP1 evX asX rfl inX inX) ?_; rintro v hp; (try simp only [Int.toNat_natCast, Int.toNat_natCast_add_one, Int.reduceToNat] at hp))
            | (refine s_ex hst (qt_index evX asX rfl inX inX omX omX) ?_; rintro v hp; (try simp only [Int.toNat_natCast, Int.toNat_natCast_add_one, Int.reduceToNat] at hp))
            | (refine s_ex hst (qt_indexAp evX asX rfl inX inX rfl omX omX) ?_; rintro v hp; (try simp only [Int.toNat_natCast, Int.toNat_natCast_add_one, Int.reduceToNat] at hp))
            | (refine s_ex hst (qt_index_own hst evX SlIn.h rfl inX inX omX omX) ?_; rintro v hp; (try simp only [Int.toNat_natCast, Int.toNat_natCast_add_one, Int.reduceToNat] at hp))))
          | (with_reducible refine Sl.k_call ?_; (first
            | refine s_qt hst (by first | exact qt_len evX asX inX | exact qt_len_own evX SlIn.h inX | exact qt_max rfl rfl | exact qt_min rfl rfl) ?_))); simp only [List.set_cons_succ, List.set_cons_zero, vOf_true, vOf_false, List.drop_succ_cons, List.drop_zero, List.take_succ_cons, List.take_zero, putD, Int.toNat_zero, Int.reduceToNat, Nat.mul_one, Nat.zero_add, Nat.add_zero, Nat.reduceMul, Nat.reduceAdd, Nat.zero_mul])
     | (with_reducible refine Sl.gate rfl ?_; (first | go_skip | go_guarded | go_step))
     | ((first | (with_reducible refine Sl.k_store ?_; (first
            | refine s_stR hst rfl BoxIn.h evX asX inX rfl rfl ?_
            | refine s_store hst rfl _ BoxIn.h inX evX rfl lenOk oneOk (by simp) ?_
            | refine s_st1 hst rfl BoxIn.h evX asX inX (by simp) ?_
            | refine s_stB hst evX asX SlIn.h inX evX omX ?_
            | refine s_stI hst evX asX SlIn.h inX evX omX ?_
            | refine s_st2 hst evX asX SlIn.h inX evX omX ?_); clear hst; intro w hst) | (refine s_box hst evX rfl ?_; clear hst; intro bx w hst) | (refine s_alloc hst inX ?_; clear hst; intro bk w hst)); (try simp only [List.set_cons_succ, List.set_cons_zero, vOf_true, vOf_false, List.drop_succ_cons, List.drop_zero, List.take_succ_cons, List.take_zero, putD, Int.toNat_zero, Int.reduceToNat, Nat.mul_one, Nat.zero_add, Nat.add_zero, Nat.reduceMul, Nat.reduceAdd, Nat.zero_mul]); (try simp only [List.set_cons_succ, List.set_cons_zero, List.drop_succ_cons, List.drop_zero, List.take_succ_cons, List.take_zero, List.nil_append, List.cons_append, List.append_nil, Value.cells, List.eraseIdx_cons_zero, List.eraseIdx_cons_succ, Nat.zero_add, Nat.add_zero, List.flatten_cons, List.flatten_nil, List.map_cons, List.map_nil] at hst)))
  refine s_lit (vs := [.int .i64 0, .int .i64 1]) hst (by infer_instance) (by infer_instance) rfl rfl (by simp [Value.cells]) rfl (by omega) (by omega) ?_
  clear hst; intro u1 w hst
  obtain ⟨a1, n1, c1, rfl⟩ := sl_form hst
  obtain ⟨S1, hle1, hst, hr1⟩ := lit_ints [0, 1] hst rfl (by intro x hx; simp at hx; unfold I64; omega) rfl
  simp only [List.set_cons_succ, List.set_cons_zero, vOf_true, vOf_false, List.drop_succ_cons, List.drop_zero, List.take_succ_cons, List.take_zero, putD, Int.toNat_zero, Int.reduceToNat, Nat.mul_one, Nat.zero_add, Nat.add_zero, Nat.reduceMul, Nat.reduceAdd, Nat.zero_mul]
  repeat' (first
     | go_skip
     | (with_reducible refine Sl.k_guard ?_; (first | (refine Sl.guard_yes rfl ?_) | (refine Sl.guard_no rfl ?_) | (refine Sl.guard_cases rfl ?_ ?_ <;> intro hg <;> first | (exfalso; simp only [decide_eq_true_eq, decide_eq_false_iff_not, Bool.not_false, Bool.not_true, beq_iff_eq, beq_eq_false_iff_ne, ne_eq] at hg; omega) | (simp only [hg, Bool.not_true, Bool.not_false]))) <;> (try simp only [List.set_cons_succ, List.set_cons_zero, vOf_true, vOf_false, List.drop_succ_cons, List.drop_zero, List.take_succ_cons, List.take_zero, putD, Int.toNat_zero, Int.reduceToNat, Nat.mul_one, Nat.zero_add, Nat.add_zero, Nat.reduceMul, Nat.reduceAdd, Nat.zero_mul]))
     | ((fail_if_success (go_big_may)); (first | go_skip | go_guarded | go_step))
     | ((first
          | (with_reducible refine Sl.k_load ?_; (first
            | refine s_qt hst (qt_load rfl _ BoxIn.h inX rfl rfl) ?_
            | (refine s_ex hst (qt_ldp_int evX asX inX) ?_; rintro v ⟨rfl, hI⟩)
            | refine s_qt hst (by first | exact qt_ldp_u8 evX asX inX | exact qt_ldp_bool evX asX inX) ?_
            | (refine s_ex hst (qt_ldp_str evX asX inX) ?_; rintro v ⟨rfl, hs⟩)
            | (refine s_ex hst (qt_ldp_list evX asX inX) ?_; rintro v ⟨hvl, hv1⟩)
            | (refine s_ex hst (qt_ldp evX asX inX) ?_; rintro v ⟨cl, rfl, hcl⟩)
            | refine s_qt hst (by first | exact qt_ldB evX asX SlIn.h inX omX | exact qt_ldI evX asX SlIn.h inX omX | exact qt_ld2 evX asX SlIn.h inX omX | exact qt_load_own evX asX SlIn.h inX rfl (by simp; omega) | exact qt_load rfl _ asX inX rfl rfl) ?_))
          | (with_reducible refine Sl.k_field ?_; (first
            | refine s_qt hst (qt_field rfl inX) ?_
            | (refine s_ex hst (qt_fieldp evX asX inX inX rfl) ?_; rintro v hp; (try simp only [Int.toNat_natCast, Int.toNat_natCast_add_one, Int.reduceToNat] at hp))
            | (refine s_ex hst (qt_field_own evX asX inX) ?_; rintro v hp; (try simp only [Int.toNat_natCast, Int.toNat_natCast_add_one, Int.reduceToNat] at hp))))
          | (with_reducible refine Sl.k_index ?_; (first
            | refine s_qt hst (qt_indexA rfl rfl inX inX omX omX) ?_
            | (refine s_ex hst (qt_indexP0 evX asX rfl inX inX) ?_; rintro v hp; (try simp only [Int.toNat_natCast, Int.toNat_natCast_add_one, Int.reduceToNat] at hp))
            | (refine s_ex hst (qt_indexP1 evX asX rfl inX inX) ?_; rintro v hp; (try simp only [Int.toNat_natCast, Int.toNat_natCast_add_one, Int.reduceToNat] at hp))
            | (refine s_ex hst (qt_index evX asX rfl inX inX omX omX) ?_; rintro v hp; (try simp only [Int.toNat_natCast, Int.toNat_natCast_add_one, Int.reduceToNat] at hp))
            | (refine s_ex hst (qt_indexAp evX asX rfl inX inX rfl omX omX) ?_; rintro v hp; (try simp only [Int.toNat_natCast, Int.toNat_natCast_add_one, Int.reduceToNat] at hp))
            | (refine s_ex hst (qt_index_own hst evX SlIn.h rfl inX inX omX omX) ?_; rintro v hp; (try simp only [Int.toNat_natCast, Int.toNat_natCast_add_one, Int.reduceToNat] at hp))))
          | (with_reducible refine Sl.k_call ?_; (first
            | refine s_qt hst (by first | exact qt_len evX asX inX | exact qt_len_own evX SlIn.h inX | exact qt_max rfl rfl | exact qt_min rfl rfl) ?_))); simp only [List.set_cons_succ, List.set_cons_zero, vOf_true, vOf_false, List.drop_succ_cons, List.drop_zero, List.take_succ_cons, List.take_zero, putD, Int.toNat_zero, Int.reduceToNat, Nat.mul_one, Nat.zero_add, Nat.add_zero, Nat.reduceMul, Nat.reduceAdd, Nat.zero_mul])
     | (with_reducible refine Sl.gate rfl ?_; (first | go_skip | go_guarded | go_step))
     | ((first | (with_reducible refine Sl.k_store ?_; (first
            | refine s_stR hst rfl BoxIn.h evX asX inX rfl rfl ?_
            | refine s_store hst rfl _ BoxIn.h inX evX rfl lenOk oneOk (by simp) ?_
            | refine s_st1 hst rfl BoxIn.h evX asX inX (by simp) ?_
            | refine s_stB hst evX asX SlIn.h inX evX omX ?_
            | refine s_stI hst evX asX SlIn.h inX evX omX ?_
            | refine s_st2 hst evX asX SlIn.h inX evX omX ?_); clear hst; intro w hst) | (refine s_box hst evX rfl ?_; clear hst; intro bx w hst) | (refine s_alloc hst inX ?_; clear hst; intro bk w hst)); (try simp only [List.set_cons_succ, List.set_cons_zero, vOf_true, vOf_false, List.drop_succ_cons, List.drop_zero, List.take_succ_cons, List.take_zero, putD, Int.toNat_zero, Int.reduceToNat, Nat.mul_one, Nat.zero_add, Nat.add_zero, Nat.reduceMul, Nat.reduceAdd, Nat.zero_mul]); (try simp only [List.set_cons_succ, List.set_cons_zero, List.drop_succ_cons, List.drop_zero, List.take_succ_cons, List.take_zero, List.nil_append, List.cons_append, List.append_nil, Value.cells, List.eraseIdx_cons_zero, List.eraseIdx_cons_succ, Nat.zero_add, Nat.add_zero, List.flatten_cons, List.flatten_nil, List.map_cons, List.map_nil] at hst)))
  refine s_lit (vs := [.int .i64 0, .int .i64 2, .int .i64 3]) hst (by infer_instance) (by infer_instance) rfl rfl (by simp [Value.cells]) rfl (by omega) (by omega) ?_
  clear hst; intro u2 w hst
  obtain ⟨a2, n2, c2, rfl⟩ := sl_form hst
  obtain ⟨S2, hle2, hst, hr2⟩ := lit_ints [0, 2, 3] hst rfl (by intro x hx; simp at hx; unfold I64; omega) rfl
  simp only [List.set_cons_succ, List.set_cons_zero, vOf_true, vOf_false, List.drop_succ_cons, List.drop_zero, List.take_succ_cons, List.take_zero, putD, Int.toNat_zero, Int.reduceToNat, Nat.mul_one, Nat.zero_add, Nat.add_zero, Nat.reduceMul, Nat.reduceAdd, Nat.zero_mul]
  repeat' (first
     | go_skip
     | (with_reducible refine Sl.k_guard ?_; (first | (refine Sl.guard_yes rfl ?_) | (refine Sl.guard_no rfl ?_) | (refine Sl.guard_cases rfl ?_ ?_ <;> intro hg <;> first | (exfalso; simp only [decide_eq_true_eq, decide_eq_false_iff_not, Bool.not_false, Bool.not_true, beq_iff_eq, beq_eq_false_iff_ne, ne_eq] at hg; omega) | (simp only [hg, Bool.not_true, Bool.not_false]))) <;> (try simp only [List.set_cons_succ, List.set_cons_zero, vOf_true, vOf_false, List.drop_succ_cons, List.drop_zero, List.take_succ_cons, List.take_zero, putD, Int.toNat_zero, Int.reduceToNat, Nat.mul_one, Nat.zero_add, Nat.add_zero, Nat.reduceMul, Nat.reduceAdd, Nat.zero_mul]))
     | ((fail_if_success (go_big_may)); (first | go_skip | go_guarded | go_step))
     | ((first
          | (with_reducible refine Sl.k_load ?_; (first
            | refine s_qt hst (qt_load rfl _ BoxIn.h inX rfl rfl) ?_
            | (refine s_ex hst (qt_ldp_int evX asX inX) ?_; rintro v ⟨rfl, hI⟩)
            | refine s_qt hst (by first | exact qt_ldp_u8 evX asX inX | exact qt_ldp_bool evX asX inX) ?_
            | (refine s_ex hst (qt_ldp_str evX asX inX) ?_; rintro v ⟨rfl, hs⟩)
            | (refine s_ex hst (qt_ldp_list evX asX inX) ?_; rintro v ⟨hvl, hv1⟩)
            | (refine s_ex hst (qt_ldp evX asX inX) ?_; rintro v ⟨cl, rfl, hcl⟩)
            | refine s_qt hst (by first | exact qt_ldB evX asX SlIn.h inX omX | exact qt_ldI evX asX SlIn.h inX omX | exact qt_ld2 evX asX SlIn.h inX omX | exact qt_load_own evX asX SlIn.h inX rfl (by simp; omega) | exact qt_load rfl _ asX inX rfl rfl) ?_))
          | (with_reducible refine Sl.k_field ?_; (first
            | refine s_qt hst (qt_field rfl inX) ?_
            | (refine s_ex hst (qt_fieldp evX asX inX inX rfl) ?_; rintro v hp; (try simp only [Int.toNat_natCast, Int.toNat_natCast_add_one, Int.reduceToNat] at hp))
            | (refine s_ex hst (qt_field_own evX asX inX) ?_; rintro v hp; (try simp only [Int.toNat_natCast, Int.toNat_natCast_add_one, Int.reduceToNat] at hp))))
          | (with_reducible refine Sl.k_index ?_; (first
            | refine s_qt hst (qt_indexA rfl rfl inX inX omX omX) ?_
            | (refine s_ex hst (qt_indexP0 evX asX rfl inX inX) ?_; rintro v hp; (try simp only [Int.toNat_natCast, Int.toNat_natCast_add_one, Int.reduceToNat] at hp))
            | (refine s_ex hst (qt_indexP1 evX asX rfl inX inX) ?_; rintro v hp; (try simp only [Int.toNat_natCast, Int.toNat_natCast_add_one, Int.reduceToNat] at hp))
            | (refine s_ex hst (qt_index evX asX rfl inX inX omX omX) ?_; rintro v hp; (try simp only [Int.toNat_natCast, Int.toNat_natCast_add_one, Int.reduceToNat] at hp))
            | (refine s_ex hst (qt_indexAp evX asX rfl inX inX rfl omX omX) ?_; rintro v hp; (try simp only [Int.toNat_natCast, Int.toNat_natCast_add_one, Int.reduceToNat] at hp))
            | (refine s_ex hst (qt_index_own hst evX SlIn.h rfl inX inX omX omX) ?_; rintro v hp; (try simp only [Int.toNat_natCast, Int.toNat_natCast_add_one, Int.reduceToNat] at hp))))
          | (with_reducible refine Sl.k_call ?_; (first
            | refine s_qt hst (by first | exact qt_len evX asX inX | exact qt_len_own evX SlIn.h inX | exact qt_max rfl rfl | exact qt_min rfl rfl) ?_))); simp only [List.set_cons_succ, List.set_cons_zero, vOf_true, vOf_false, List.drop_succ_cons, List.drop_zero, List.take_succ_cons, List.take_zero, putD, Int.toNat_zero, Int.reduceToNat, Nat.mul_one, Nat.zero_add, Nat.add_zero, Nat.reduceMul, Nat.reduceAdd, Nat.zero_mul])
     | (with_reducible refine Sl.gate rfl ?_; (first | go_skip | go_guarded | go_step))
     | ((first | (with_reducible refine Sl.k_store ?_; (first
            | refine s_stR hst rfl BoxIn.h evX asX inX rfl rfl ?_
            | refine s_store hst rfl _ BoxIn.h inX evX rfl lenOk oneOk (by simp) ?_
            | refine s_st1 hst rfl BoxIn.h evX asX inX (by simp) ?_
            | refine s_stB hst evX asX SlIn.h inX evX omX ?_
            | refine s_stI hst evX asX SlIn.h inX evX omX ?_
            | refine s_st2 hst evX asX SlIn.h inX evX omX ?_); clear hst; intro w hst) | (refine s_box hst evX rfl ?_; clear hst; intro bx w hst) | (refine s_alloc hst inX ?_; clear hst; intro bk w hst)); (try simp only [List.set_cons_succ, List.set_cons_zero, vOf_true, vOf_false, List.drop_succ_cons, List.drop_zero, List.take_succ_cons, List.take_zero, putD, Int.toNat_zero, Int.reduceToNat, Nat.mul_one, Nat.zero_add, Nat.add_zero, Nat.reduceMul, Nat.reduceAdd, Nat.zero_mul]); (try simp only [List.set_cons_succ, List.set_cons_zero, List.drop_succ_cons, List.drop_zero, List.take_succ_cons, List.take_zero, List.nil_append, List.cons_append, List.append_nil, Value.cells, List.eraseIdx_cons_zero, List.eraseIdx_cons_succ, Nat.zero_add, Nat.add_zero, List.flatten_cons, List.flatten_nil, List.map_cons, List.map_nil] at hst)))
  refine s_lit (vs := [.agg #[.int .i64 1, .int .i64 0, .string ⟨#[]⟩, .slice none 0 0], .agg #[.int .i64 17, .int .i64 0, .string ⟨#[]⟩, .slice none 0 0], .agg #[.int .i64 12, .int .i64 1, .string ⟨#[]⟩, .slice a1 n1 c1], .agg #[.int .i64 17, .int .i64 0, .string ⟨#[]⟩, .slice none 0 0], .agg #[.int .i64 12, .int .i64 0, .string ⟨#[]⟩, .slice a2 n2 c2]]) hst (by infer_instance) (by infer_instance) rfl rfl (by simp [Value.cells]) rfl (by omega) (by omega) ?_
  clear hst; intro u3 w hst
  obtain ⟨a3, n3, c3, rfl⟩ := sl_form hst
  obtain ⟨S3, hle3, hst, hr3⟩ := St.freeze (α := Nd) (xs := sampleNodes) hst (rl_sample (hr1.mono hle2) hr2) rfl
  simp only [List.set_cons_succ, List.set_cons_zero, vOf_true, vOf_false, List.drop_succ_cons, List.drop_zero, List.take_succ_cons, List.take_zero, putD, Int.toNat_zero, Int.reduceToNat, Nat.mul_one, Nat.zero_add, Nat.add_zero, Nat.reduceMul, Nat.reduceAdd, Nat.zero_mul]
  repeat' (first
     | go_skip
     | (with_reducible refine Sl.k_guard ?_; (first | (refine Sl.guard_yes rfl ?_) | (refine Sl.guard_no rfl ?_) | (refine Sl.guard_cases rfl ?_ ?_ <;> intro hg <;> first | (exfalso; simp only [decide_eq_true_eq, decide_eq_false_iff_not, Bool.not_false, Bool.not_true, beq_iff_eq, beq_eq_false_iff_ne, ne_eq] at hg; omega) | (simp only [hg, Bool.not_true, Bool.not_false]))) <;> (try simp only [List.set_cons_succ, List.set_cons_zero, vOf_true, vOf_false, List.drop_succ_cons, List.drop_zero, List.take_succ_cons, List.take_zero, putD, Int.toNat_zero, Int.reduceToNat, Nat.mul_one, Nat.zero_add, Nat.add_zero, Nat.reduceMul, Nat.reduceAdd, Nat.zero_mul]))
     | ((fail_if_success (go_big_may)); (first | go_skip | go_guarded | go_step))
     | ((first
          | (with_reducible refine Sl.k_load ?_; (first
            | refine s_qt hst (qt_load rfl _ BoxIn.h inX rfl rfl) ?_
            | (refine s_ex hst (qt_ldp_int evX asX inX) ?_; rintro v ⟨rfl, hI⟩)
            | refine s_qt hst (by first | exact qt_ldp_u8 evX asX inX | exact qt_ldp_bool evX asX inX) ?_
            | (refine s_ex hst (qt_ldp_str evX asX inX) ?_; rintro v ⟨rfl, hs⟩)
            | (refine s_ex hst (qt_ldp_list evX asX inX) ?_; rintro v ⟨hvl, hv1⟩)
            | (refine s_ex hst (qt_ldp evX asX inX) ?_; rintro v ⟨cl, rfl, hcl⟩)
            | refine s_qt hst (by first | exact qt_ldB evX asX SlIn.h inX omX | exact qt_ldI evX asX SlIn.h inX omX | exact qt_ld2 evX asX SlIn.h inX omX | exact qt_load_own evX asX SlIn.h inX rfl (by simp; omega) | exact qt_load rfl _ asX inX rfl rfl) ?_))
          | (with_reducible refine Sl.k_field ?_; (first
            | refine s_qt hst (qt_field rfl inX) ?_
            | (refine s_ex hst (qt_fieldp evX asX inX inX rfl) ?_; rintro v hp; (try simp only [Int.toNat_natCast, Int.toNat_natCast_add_one, Int.reduceToNat] at hp))
            | (refine s_ex hst (qt_field_own evX asX inX) ?_; rintro v hp; (try simp only [Int.toNat_natCast, Int.toNat_natCast_add_one, Int.reduceToNat] at hp))))
          | (with_reducible refine Sl.k_index ?_; (first
            | refine s_qt hst (qt_indexA rfl rfl inX inX omX omX) ?_
            | (refine s_ex hst (qt_indexP0 evX asX rfl inX inX) ?_; rintro v hp; (try simp only [Int.toNat_natCast, Int.toNat_natCast_add_one, Int.reduceToNat] at hp))
            | (refine s_ex hst (qt_indexP1 evX asX rfl inX inX) ?_; rintro v hp; (try simp only [Int.toNat_natCast, Int.toNat_natCast_add_one, Int.reduceToNat] at hp))
            | (refine s_ex hst (qt_index evX asX rfl inX inX omX omX) ?_; rintro v hp; (try simp only [Int.toNat_natCast, Int.toNat_natCast_add_one, Int.reduceToNat] at hp))
            | (refine s_ex hst (qt_indexAp evX asX rfl inX inX rfl omX omX) ?_; rintro v hp; (try simp only [Int.toNat_natCast, Int.toNat_natCast_add_one, Int.reduceToNat] at hp))
            | (refine s_ex hst (qt_index_own hst evX SlIn.h rfl inX inX omX omX) ?_; rintro v hp; (try simp only [Int.toNat_natCast, Int.toNat_natCast_add_one, Int.reduceToNat] at hp))))
          | (with_reducible refine Sl.k_call ?_; (first
            | refine s_qt hst (by first | exact qt_len evX asX inX | exact qt_len_own evX SlIn.h inX | exact qt_max rfl rfl | exact qt_min rfl rfl) ?_))); simp only [List.set_cons_succ, List.set_cons_zero, vOf_true, vOf_false, List.drop_succ_cons, List.drop_zero, List.take_succ_cons, List.take_zero, putD, Int.toNat_zero, Int.reduceToNat, Nat.mul_one, Nat.zero_add, Nat.add_zero, Nat.reduceMul, Nat.reduceAdd, Nat.zero_mul])
     | (with_reducible refine Sl.gate rfl ?_; (first | go_skip | go_guarded | go_step))
     | ((first | (with_reducible refine Sl.k_store ?_; (first
            | refine s_stR hst rfl BoxIn.h evX asX inX rfl rfl ?_
            | refine s_store hst rfl _ BoxIn.h inX evX rfl lenOk oneOk (by simp) ?_
            | refine s_st1 hst rfl BoxIn.h evX asX inX (by simp) ?_
            | refine s_stB hst evX asX SlIn.h inX evX omX ?_
            | refine s_stI hst evX asX SlIn.h inX evX omX ?_
            | refine s_st2 hst evX asX SlIn.h inX evX omX ?_); clear hst; intro w hst) | (refine s_box hst evX rfl ?_; clear hst; intro bx w hst) | (refine s_alloc hst inX ?_; clear hst; intro bk w hst)); (try simp only [List.set_cons_succ, List.set_cons_zero, vOf_true, vOf_false, List.drop_succ_cons, List.drop_zero, List.take_succ_cons, List.take_zero, putD, Int.toNat_zero, Int.reduceToNat, Nat.mul_one, Nat.zero_add, Nat.add_zero, Nat.reduceMul, Nat.reduceAdd, Nat.zero_mul]); (try simp only [List.set_cons_succ, List.set_cons_zero, List.drop_succ_cons, List.drop_zero, List.take_succ_cons, List.take_zero, List.nil_append, List.cons_append, List.append_nil, Value.cells, List.eraseIdx_cons_zero, List.eraseIdx_cons_succ, Nat.zero_add, Nat.add_zero, List.flatten_cons, List.flatten_nil, List.map_cons, List.map_nil] at hst)))
  refine ret_cell (fn := Try.f14) rfl hst rfl 0 rfl (by infer_instance) rfl (by rfl) ?_
  exact ⟨_, rfl, S3, _, _, (hle1.trans hle2).trans hle3, rfl, .inl ⟨none, 0, rfl, rfl, by simp [maxLen]⟩, hr3, hst.drop⟩
end Go.Proofs.Ytajmfdnmckbclaa
