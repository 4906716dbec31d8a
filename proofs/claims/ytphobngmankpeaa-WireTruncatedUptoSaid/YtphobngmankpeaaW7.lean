/- Package wire: lists of digests, decoded. -/
import Derived.Test.YtphobngmankpeaaW6
namespace Go.Proofs.Ytphobngmankpeaa
set_option linter.unusedSimpArgs false
set_option linter.unusedVariables false
open Go.RowKit Go.Sl

def dgC (d : Dg) : List Value := u8s d.l
def chunks : Nat → List UInt8 → List Dg
  | 0, _ => []
  | m + 1, r => ⟨r.take 16⟩ :: chunks m (r.drop 16)
theorem chunks_snoc : ∀ (i : Nat) (r : List UInt8), chunks (i + 1) r = chunks i r ++ [⟨(r.drop (16 * i)).take 16⟩]
  | 0, r => by simp [chunks]
  | i + 1, r => by
    rw [chunks, chunks_snoc i, chunks]
    simp only [List.cons_append, List.drop_drop]
    rw [show 16 + 16 * i = 16 * (i + 1) by omega]
theorem chunks_len : ∀ (i : Nat) (r : List UInt8), (chunks i r).length = i
  | 0, _ => rfl
  | i + 1, r => by simp [chunks, chunks_len i]
def getDg (b : List UInt8) : List Dg × Nat × Nat :=
  if (countP 16 b).2.2 ≠ 0 then ([], 0, (countP 16 b).2.2) else (chunks (countP 16 b).1.toNat (b.drop (countP 16 b).2.1), (countP 16 b).2.1 + 16 * (countP 16 b).1.toNat, 0)
def digsPost (S : Snap) (M : List Chunk) (r : List Dg × Nat × Nat) (v : Value) (w : World) : Prop :=
  ∃ u, v = .tuple #[u, .int .i64 (r.2.1 : Nat), .int .i64 (r.2.2 : Nat)] ∧ St S (.sl u 51 16 r.1.length (cF dgC r.1) :: M) w

set_option maxRecDepth 8000 in
set_option maxHeartbeats 400000 in
theorem getDigs_c {S M} (w : World) (hst : St S M w) (vb : Value) (b : List UInt8) (hb : RSl S vb b) (hm : b.length ≤ 1048576) :
    Rets Try.prog 28 [vb] w fun v w' => digsPost S M (getDg b) v w' := by
  unfold Rets
  have h1 := hb.oneCell
  have c := count_c w hst vb b hb hm 16 (by omega)
  have hsp := countP_spec (s := 16) (b := b) (by omega)
  have hP : getDg b = if (countP 16 b).2.2 ≠ 0 then ([], 0, (countP 16 b).2.2) else (chunks (countP 16 b).1.toNat (b.drop (countP 16 b).2.1), (countP 16 b).2.1 + 16 * (countP 16 b).1.toNat, 0) := rfl
  generalize countP 16 b = t at *
  obtain ⟨n, at_, e⟩ := t
  simp only at hsp hP
  rcases hsp with ⟨rfl, h1, h2⟩ | rfl | rfl
  · obtain ⟨n, rfl⟩ : ∃ m : Nat, n = m := ⟨n.toNat, by omega⟩
    rw [if_neg (by simp), Int.toNat_natCast] at hP
    have HP := Lib.hid hP
    clear hP
    have c : Rets Try.prog 34 [vb, .int .i64 16] w (fun v w' => v = .tuple #[.int .i64 (n : Nat), .int .i64 (at_ : Nat), .int .i64 0] ∧ St S M w') := c
    have h2 : at_ + n * 16 ≤ b.length := by simpa using h2
    go_enter Try.func28, Try.ntmps28
    repeat' (first
       | go_skip
       | (with_reducible refine Sl.k_guard ?_; (first | (refine Sl.guard_yes rfl ?_) | (refine Sl.guard_no rfl ?_) | (refine Sl.guard_cases rfl ?_ ?_ <;> intro hg <;> first | (exfalso; simp only [decide_eq_true_eq, decide_eq_false_iff_not, Bool.not_false, Bool.not_true, beq_iff_eq, beq_eq_false_iff_ne, ne_eq] at hg; omega) | (simp only [hg, Bool.not_true, Bool.not_false]))) <;> (try simp only [List.set_cons_succ, List.set_cons_zero, vOf_true, vOf_false, List.drop_succ_cons, List.drop_zero, List.take_succ_cons, List.take_zero, putD, Int.toNat_zero, Int.reduceToNat, Nat.mul_one, Nat.zero_add, Nat.add_zero, Nat.reduceMul, Nat.reduceAdd, Nat.zero_mul]))
       | (with_reducible refine Sl.k_call ?_; (first
            | (refine s_call (c) inX rfl ?_; clear hst; rintro v w ⟨rfl, hst⟩)) <;> (try simp only [List.set_cons_succ, List.set_cons_zero, vOf_true, vOf_false, List.drop_succ_cons, List.drop_zero, List.take_succ_cons, List.take_zero, putD, Int.toNat_zero, Int.reduceToNat, Nat.mul_one, Nat.zero_add, Nat.add_zero, Nat.reduceMul, Nat.reduceAdd, Nat.zero_mul]) <;> (try simp only [List.set_cons_succ, List.set_cons_zero, List.drop_succ_cons, List.drop_zero, List.take_succ_cons, List.take_zero, List.nil_append, List.cons_append, List.append_nil, Value.cells, List.eraseIdx_cons_zero, List.eraseIdx_cons_succ, Nat.zero_add, Nat.add_zero, List.flatten_cons, List.flatten_nil, List.map_cons, List.map_nil] at hst))
       | ((fail_if_success (go_big_may)); (first | go_skip | go_guarded | go_step))
       | ((first
            | (with_reducible refine Sl.k_load ?_; (first
              | refine s_qt hst (qt_load rfl _ BoxIn.h inX rfl rfl) ?_
              | (refine s_ex hst (qt_ldp_int evX asX inX) ?_; rintro v ⟨rfl, hI⟩)
              | refine s_qt hst (by first | exact qt_ldp_u8 evX asX inX | exact qt_ldp_bool evX asX inX) ?_
              | (refine s_ex hst (qt_ldp_str evX asX inX) ?_; rintro v ⟨rfl, hs⟩)
              | (refine s_ex hst (qt_ldp_list evX asX inX) ?_; rintro v ⟨hvl, hv1⟩)
              | (refine s_ex hst (qt_ldp evX asX inX) ?_; rintro v ⟨cl, rfl, hcl⟩)
              | refine s_qt hst (by first | exact qt_ldB evX asX SlIn.h inX omX | exact qt_ldI evX asX SlIn.h inX omX | exact qt_ld2 evX asX SlIn.h inX omX | exact qt_load_own evX asX SlIn.h inX rfl (by simp; omega) | exact qt_load rfl _ asX inX rfl rfl) ?_))
            | (with_reducible refine Sl.k_field ?_; (first
              | refine s_qt hst (qt_field rfl inX) ?_
              | (refine s_ex hst (qt_fieldp evX asX inX inX rfl) ?_; rintro v hp; (try simp only [Int.toNat_natCast, Int.toNat_natCast_add_one, Int.reduceToNat] at hp))
              | (refine s_ex hst (qt_field_own evX asX inX) ?_; rintro v hp; (try simp only [Int.toNat_natCast, Int.toNat_natCast_add_one, Int.reduceToNat] at hp))))
            | (with_reducible refine Sl.k_index ?_; (first
              | refine s_qt hst (qt_indexA rfl rfl inX inX omX omX) ?_
              | (refine s_ex hst (qt_indexP0 evX asX rfl inX inX) ?_; rintro v hp; (try simp only [Int.toNat_natCast, Int.toNat_natCast_add_one, Int.reduceToNat] at hp))
              | (refine s_ex hst (qt_indexP1 evX asX rfl inX inX) ?_; rintro v hp; (try simp only [Int.toNat_natCast, Int.toNat_natCast_add_one, Int.reduceToNat] at hp))
              | (refine s_ex hst (qt_index evX asX rfl inX inX omX omX) ?_; rintro v hp; (try simp only [Int.toNat_natCast, Int.toNat_natCast_add_one, Int.reduceToNat] at hp))
              | (refine s_ex hst (qt_indexAp evX asX rfl inX inX rfl omX omX) ?_; rintro v hp; (try simp only [Int.toNat_natCast, Int.toNat_natCast_add_one, Int.reduceToNat] at hp))
              | (refine s_ex hst (qt_index_own hst evX SlIn.h rfl inX inX omX omX) ?_; rintro v hp; (try simp only [Int.toNat_natCast, Int.toNat_natCast_add_one, Int.reduceToNat] at hp))))
            | (with_reducible refine Sl.k_call ?_; (first
              | refine s_qt hst (by first | exact qt_len evX asX inX | exact qt_len_str evX inX | exact qt_len_own evX SlIn.h inX | exact qt_max rfl rfl | exact qt_min rfl rfl) ?_))); simp only [List.set_cons_succ, List.set_cons_zero, vOf_true, vOf_false, List.drop_succ_cons, List.drop_zero, List.take_succ_cons, List.take_zero, putD, Int.toNat_zero, Int.reduceToNat, Nat.mul_one, Nat.zero_add, Nat.add_zero, Nat.reduceMul, Nat.reduceAdd, Nat.zero_mul])
       | (with_reducible refine Sl.gate rfl ?_; (first | go_skip | go_guarded | go_step))
       | ((first | (with_reducible refine Sl.k_store ?_; (first
              | refine s_stR hst rfl BoxIn.h evX asX inX rfl rfl ?_
              | refine s_store hst rfl _ BoxIn.h inX evX rfl lenOk oneOk (by simp) ?_
              | refine s_st1 hst rfl BoxIn.h evX asX inX (by simp) ?_
              | refine s_stB hst evX asX SlIn.h inX evX omX ?_
              | refine s_stI hst evX asX SlIn.h inX evX omX ?_
              | refine s_st2 hst evX asX SlIn.h inX evX omX ?_); clear hst; intro w hst) | (refine s_box hst evX rfl ?_; clear hst; intro bx w hst) | (refine s_alloc hst inX ?_; clear hst; intro bk w hst)); (try simp only [List.set_cons_succ, List.set_cons_zero, vOf_true, vOf_false, List.drop_succ_cons, List.drop_zero, List.take_succ_cons, List.take_zero, putD, Int.toNat_zero, Int.reduceToNat, Nat.mul_one, Nat.zero_add, Nat.add_zero, Nat.reduceMul, Nat.reduceAdd, Nat.zero_mul]); (try simp only [List.set_cons_succ, List.set_cons_zero, List.drop_succ_cons, List.drop_zero, List.take_succ_cons, List.take_zero, List.nil_append, List.cons_append, List.append_nil, Value.cells, List.eraseIdx_cons_zero, List.eraseIdx_cons_succ, Nat.zero_add, Nat.add_zero, List.flatten_cons, List.flatten_nil, List.map_cons, List.map_nil] at hst)))
    go_loopw [6, 8, 19] (fun va vo v wr => ∃ i a : Nat, i ≤ n ∧ v = .int .i64 i ∧ va = .int .i64 a ∧ a = at_ + 16 * i ∧
      St S (.sl vo 51 16 i (cF dgC (chunks i (b.drop at_))) :: M) wr) (fun _ _ v _ => n - (intOf v).toNat)
    case atStart => exact ⟨0, at_, Nat.zero_le _, rfl, rfl, by omega, hst.nil 51 16⟩
    case round =>
      clear hst
      obtain ⟨i, a, hi, rfl, rfl, ha, hst⟩ := hrel
      have hvo := sl_one hst
      have Ha := Lib.hid ha
      by_cases hlt : i < n
      · have hab : a + 16 ≤ b.length := by omega
        clear ha
        repeat' (first
           | go_skip
           | (with_reducible refine Sl.k_guard ?_; (first | (refine Sl.guard_yes rfl ?_) | (refine Sl.guard_no rfl ?_) | (refine Sl.guard_cases rfl ?_ ?_ <;> intro hg <;> first | (exfalso; simp only [decide_eq_true_eq, decide_eq_false_iff_not, Bool.not_false, Bool.not_true, beq_iff_eq, beq_eq_false_iff_ne, ne_eq] at hg; omega) | (simp only [hg, Bool.not_true, Bool.not_false]))) <;> (try simp only [List.set_cons_succ, List.set_cons_zero, vOf_true, vOf_false, List.drop_succ_cons, List.drop_zero, List.take_succ_cons, List.take_zero, putD, Int.toNat_zero, Int.reduceToNat, Nat.mul_one, Nat.zero_add, Nat.add_zero, Nat.reduceMul, Nat.reduceAdd, Nat.zero_mul]))
           | ((fail_if_success (go_big_may)); (first | go_skip | go_guarded | go_step))
           | ((first
                | (with_reducible refine Sl.k_load ?_; (first
                  | refine s_qt hst (qt_load rfl _ BoxIn.h inX rfl rfl) ?_
                  | (refine s_ex hst (qt_ldp_int evX asX inX) ?_; rintro v ⟨rfl, hI⟩)
                  | refine s_qt hst (by first | exact qt_ldp_u8 evX asX inX | exact qt_ldp_bool evX asX inX) ?_
                  | (refine s_ex hst (qt_ldp_str evX asX inX) ?_; rintro v ⟨rfl, hs⟩)
                  | (refine s_ex hst (qt_ldp_list evX asX inX) ?_; rintro v ⟨hvl, hv1⟩)
                  | (refine s_ex hst (qt_ldp evX asX inX) ?_; rintro v ⟨cl, rfl, hcl⟩)
                  | refine s_qt hst (by first | exact qt_ldB evX asX SlIn.h inX omX | exact qt_ldI evX asX SlIn.h inX omX | exact qt_ld2 evX asX SlIn.h inX omX | exact qt_load_own evX asX SlIn.h inX rfl (by simp; omega) | exact qt_load rfl _ asX inX rfl rfl) ?_))
                | (with_reducible refine Sl.k_field ?_; (first
                  | refine s_qt hst (qt_field rfl inX) ?_
                  | (refine s_ex hst (qt_fieldp evX asX inX inX rfl) ?_; rintro v hp; (try simp only [Int.toNat_natCast, Int.toNat_natCast_add_one, Int.reduceToNat] at hp))
                  | (refine s_ex hst (qt_field_own evX asX inX) ?_; rintro v hp; (try simp only [Int.toNat_natCast, Int.toNat_natCast_add_one, Int.reduceToNat] at hp))))
                | (with_reducible refine Sl.k_index ?_; (first
                  | refine s_qt hst (qt_indexA rfl rfl inX inX omX omX) ?_
                  | (refine s_ex hst (qt_indexP0 evX asX rfl inX inX) ?_; rintro v hp; (try simp only [Int.toNat_natCast, Int.toNat_natCast_add_one, Int.reduceToNat] at hp))
                  | (refine s_ex hst (qt_indexP1 evX asX rfl inX inX) ?_; rintro v hp; (try simp only [Int.toNat_natCast, Int.toNat_natCast_add_one, Int.reduceToNat] at hp))
                  | (refine s_ex hst (qt_index evX asX rfl inX inX omX omX) ?_; rintro v hp; (try simp only [Int.toNat_natCast, Int.toNat_natCast_add_one, Int.reduceToNat] at hp))
                  | (refine s_ex hst (qt_indexAp evX asX rfl inX inX rfl omX omX) ?_; rintro v hp; (try simp only [Int.toNat_natCast, Int.toNat_natCast_add_one, Int.reduceToNat] at hp))
                  | (refine s_ex hst (qt_index_own hst evX SlIn.h rfl inX inX omX omX) ?_; rintro v hp; (try simp only [Int.toNat_natCast, Int.toNat_natCast_add_one, Int.reduceToNat] at hp))))
                | (with_reducible refine Sl.k_call ?_; (first
                  | refine s_qt hst (by first | exact qt_len evX asX inX | exact qt_len_str evX inX | exact qt_len_own evX SlIn.h inX | exact qt_max rfl rfl | exact qt_min rfl rfl) ?_))); simp only [List.set_cons_succ, List.set_cons_zero, vOf_true, vOf_false, List.drop_succ_cons, List.drop_zero, List.take_succ_cons, List.take_zero, putD, Int.toNat_zero, Int.reduceToNat, Nat.mul_one, Nat.zero_add, Nat.add_zero, Nat.reduceMul, Nat.reduceAdd, Nat.zero_mul])
           | (with_reducible refine Sl.gate rfl ?_; (first | go_skip | go_guarded | go_step))
           | ((first | (with_reducible refine Sl.k_store ?_; (first
                  | refine s_stR hst rfl BoxIn.h evX asX inX rfl rfl ?_
                  | refine s_store hst rfl _ BoxIn.h inX evX rfl lenOk oneOk (by simp) ?_
                  | refine s_st1 hst rfl BoxIn.h evX asX inX (by simp) ?_
                  | refine s_stB hst evX asX SlIn.h inX evX omX ?_
                  | refine s_stI hst evX asX SlIn.h inX evX omX ?_
                  | refine s_st2 hst evX asX SlIn.h inX evX omX ?_); clear hst; intro w hst) | (refine s_box hst evX rfl ?_; clear hst; intro bx w hst) | (refine s_alloc hst inX ?_; clear hst; intro bk w hst)); (try simp only [List.set_cons_succ, List.set_cons_zero, vOf_true, vOf_false, List.drop_succ_cons, List.drop_zero, List.take_succ_cons, List.take_zero, putD, Int.toNat_zero, Int.reduceToNat, Nat.mul_one, Nat.zero_add, Nat.add_zero, Nat.reduceMul, Nat.reduceAdd, Nat.zero_mul]); (try simp only [List.set_cons_succ, List.set_cons_zero, List.drop_succ_cons, List.drop_zero, List.take_succ_cons, List.take_zero, List.nil_append, List.cons_append, List.append_nil, Value.cells, List.eraseIdx_cons_zero, List.eraseIdx_cons_succ, Nat.zero_add, Nat.add_zero, List.flatten_cons, List.flatten_nil, List.map_cons, List.map_nil] at hst)))
        refine s_slice (a := a) (b := a + 16) evX hb inX inX (.inr ⟨.i64, by simp [evF, nth]⟩) (.inr ⟨.i64, by simp [evF, nth]⟩) (.inl rfl) (by omega) hab ?_
        intro vs hvs
        rw [Nat.add_sub_cancel_left] at hvs
        have hD : ((b.drop a).take 16).length = 16 := by rw [List.length_take, List.length_drop]; omega
        simp only [List.set_cons_succ, List.set_cons_zero, vOf_true, vOf_false, List.drop_succ_cons, List.drop_zero, List.take_succ_cons, List.take_zero, putD, Int.toNat_zero, Int.reduceToNat, Nat.mul_one, Nat.zero_add, Nat.add_zero, Nat.reduceMul, Nat.reduceAdd, Nat.zero_mul]
        refine s_ex hst (qt_arrayAt evX hvs inX hD (by decide)) ?_
        rintro p hp
        simp only [List.set_cons_succ, List.set_cons_zero, vOf_true, vOf_false, List.drop_succ_cons, List.drop_zero, List.take_succ_cons, List.take_zero, putD, Int.toNat_zero, Int.reduceToNat, Nat.mul_one, Nat.zero_add, Nat.add_zero, Nat.reduceMul, Nat.reduceAdd, Nat.zero_mul]
        repeat' (first
           | go_skip
           | (with_reducible refine Sl.k_guard ?_; (first | (refine Sl.guard_yes rfl ?_) | (refine Sl.guard_no rfl ?_) | (refine Sl.guard_cases rfl ?_ ?_ <;> intro hg <;> first | (exfalso; simp only [decide_eq_true_eq, decide_eq_false_iff_not, Bool.not_false, Bool.not_true, beq_iff_eq, beq_eq_false_iff_ne, ne_eq] at hg; omega) | (simp only [hg, Bool.not_true, Bool.not_false]))) <;> (try simp only [List.set_cons_succ, List.set_cons_zero, vOf_true, vOf_false, List.drop_succ_cons, List.drop_zero, List.take_succ_cons, List.take_zero, putD, Int.toNat_zero, Int.reduceToNat, Nat.mul_one, Nat.zero_add, Nat.add_zero, Nat.reduceMul, Nat.reduceAdd, Nat.zero_mul]))
           | ((fail_if_success (go_big_may)); (first | go_skip | go_guarded | go_step))
           | ((first
                | (with_reducible refine Sl.k_load ?_; (first
                  | refine s_qt hst (qt_load rfl _ BoxIn.h inX rfl rfl) ?_
                  | (refine s_ex hst (qt_ldp_int evX asX inX) ?_; rintro v ⟨rfl, hI⟩)
                  | refine s_qt hst (by first | exact qt_ldp_u8 evX asX inX | exact qt_ldp_bool evX asX inX) ?_
                  | (refine s_ex hst (qt_ldp_str evX asX inX) ?_; rintro v ⟨rfl, hs⟩)
                  | (refine s_ex hst (qt_ldp_list evX asX inX) ?_; rintro v ⟨hvl, hv1⟩)
                  | (refine s_ex hst (qt_ldp evX asX inX) ?_; rintro v ⟨cl, rfl, hcl⟩)
                  | refine s_qt hst (by first | exact qt_ldB evX asX SlIn.h inX omX | exact qt_ldI evX asX SlIn.h inX omX | exact qt_ld2 evX asX SlIn.h inX omX | exact qt_load_own evX asX SlIn.h inX rfl (by simp; omega) | exact qt_load rfl _ asX inX rfl rfl) ?_))
                | (with_reducible refine Sl.k_field ?_; (first
                  | refine s_qt hst (qt_field rfl inX) ?_
                  | (refine s_ex hst (qt_fieldp evX asX inX inX rfl) ?_; rintro v hp; (try simp only [Int.toNat_natCast, Int.toNat_natCast_add_one, Int.reduceToNat] at hp))
                  | (refine s_ex hst (qt_field_own evX asX inX) ?_; rintro v hp; (try simp only [Int.toNat_natCast, Int.toNat_natCast_add_one, Int.reduceToNat] at hp))))
                | (with_reducible refine Sl.k_index ?_; (first
                  | refine s_qt hst (qt_indexA rfl rfl inX inX omX omX) ?_
                  | (refine s_ex hst (qt_indexP0 evX asX rfl inX inX) ?_; rintro v hp; (try simp only [Int.toNat_natCast, Int.toNat_natCast_add_one, Int.reduceToNat] at hp))
                  | (refine s_ex hst (qt_indexP1 evX asX rfl inX inX) ?_; rintro v hp; (try simp only [Int.toNat_natCast, Int.toNat_natCast_add_one, Int.reduceToNat] at hp))
                  | (refine s_ex hst (qt_index evX asX rfl inX inX omX omX) ?_; rintro v hp; (try simp only [Int.toNat_natCast, Int.toNat_natCast_add_one, Int.reduceToNat] at hp))
                  | (refine s_ex hst (qt_indexAp evX asX rfl inX inX rfl omX omX) ?_; rintro v hp; (try simp only [Int.toNat_natCast, Int.toNat_natCast_add_one, Int.reduceToNat] at hp))
                  | (refine s_ex hst (qt_index_own hst evX SlIn.h rfl inX inX omX omX) ?_; rintro v hp; (try simp only [Int.toNat_natCast, Int.toNat_natCast_add_one, Int.reduceToNat] at hp))))
                | (with_reducible refine Sl.k_call ?_; (first
                  | refine s_qt hst (by first | exact qt_len evX asX inX | exact qt_len_str evX inX | exact qt_len_own evX SlIn.h inX | exact qt_max rfl rfl | exact qt_min rfl rfl) ?_))); simp only [List.set_cons_succ, List.set_cons_zero, vOf_true, vOf_false, List.drop_succ_cons, List.drop_zero, List.take_succ_cons, List.take_zero, putD, Int.toNat_zero, Int.reduceToNat, Nat.mul_one, Nat.zero_add, Nat.add_zero, Nat.reduceMul, Nat.reduceAdd, Nat.zero_mul])
           | (with_reducible refine Sl.gate rfl ?_; (first | go_skip | go_guarded | go_step))
           | ((first | (with_reducible refine Sl.k_store ?_; (first
                  | refine s_stR hst rfl BoxIn.h evX asX inX rfl rfl ?_
                  | refine s_store hst rfl _ BoxIn.h inX evX rfl lenOk oneOk (by simp) ?_
                  | refine s_st1 hst rfl BoxIn.h evX asX inX (by simp) ?_
                  | refine s_stB hst evX asX SlIn.h inX evX omX ?_
                  | refine s_stI hst evX asX SlIn.h inX evX omX ?_
                  | refine s_st2 hst evX asX SlIn.h inX evX omX ?_); clear hst; intro w hst) | (refine s_box hst evX rfl ?_; clear hst; intro bx w hst) | (refine s_alloc hst inX ?_; clear hst; intro bk w hst)); (try simp only [List.set_cons_succ, List.set_cons_zero, vOf_true, vOf_false, List.drop_succ_cons, List.drop_zero, List.take_succ_cons, List.take_zero, putD, Int.toNat_zero, Int.reduceToNat, Nat.mul_one, Nat.zero_add, Nat.add_zero, Nat.reduceMul, Nat.reduceAdd, Nat.zero_mul]); (try simp only [List.set_cons_succ, List.set_cons_zero, List.drop_succ_cons, List.drop_zero, List.take_succ_cons, List.take_zero, List.nil_append, List.cons_append, List.append_nil, Value.cells, List.eraseIdx_cons_zero, List.eraseIdx_cons_succ, Nat.zero_add, Nat.add_zero, List.flatten_cons, List.flatten_nil, List.map_cons, List.map_nil] at hst)))
        obtain ⟨_, rfl⟩ := dg_cells hcl
        have hDl : (u8s ((b.drop a).take 16)).length = 16 := by rw [u8s_length, hD]
        refine s_lit (vs := [.agg (u8s ((b.drop a).take 16)).toArray]) hst inX inX rfl rfl (by simp [Value.cells, hDl]) rfl (by omega) (by omega) ?_
        clear hst; intro u w hst
        simp only [List.set_cons_succ, List.set_cons_zero, vOf_true, vOf_false, List.drop_succ_cons, List.drop_zero, List.take_succ_cons, List.take_zero, putD, Int.toNat_zero, Int.reduceToNat, Nat.mul_one, Nat.zero_add, Nat.add_zero, Nat.reduceMul, Nat.reduceAdd, Nat.zero_mul]
        repeat' (first
           | go_skip
           | (with_reducible refine Sl.k_guard ?_; (first | (refine Sl.guard_yes rfl ?_) | (refine Sl.guard_no rfl ?_) | (refine Sl.guard_cases rfl ?_ ?_ <;> intro hg <;> first | (exfalso; simp only [decide_eq_true_eq, decide_eq_false_iff_not, Bool.not_false, Bool.not_true, beq_iff_eq, beq_eq_false_iff_ne, ne_eq] at hg; omega) | (simp only [hg, Bool.not_true, Bool.not_false]))) <;> (try simp only [List.set_cons_succ, List.set_cons_zero, vOf_true, vOf_false, List.drop_succ_cons, List.drop_zero, List.take_succ_cons, List.take_zero, putD, Int.toNat_zero, Int.reduceToNat, Nat.mul_one, Nat.zero_add, Nat.add_zero, Nat.reduceMul, Nat.reduceAdd, Nat.zero_mul]))
           | ((fail_if_success (go_big_may)); (first | go_skip | go_guarded | go_step))
           | ((first
                | (with_reducible refine Sl.k_load ?_; (first
                  | refine s_qt hst (qt_load rfl _ BoxIn.h inX rfl rfl) ?_
                  | (refine s_ex hst (qt_ldp_int evX asX inX) ?_; rintro v ⟨rfl, hI⟩)
                  | refine s_qt hst (by first | exact qt_ldp_u8 evX asX inX | exact qt_ldp_bool evX asX inX) ?_
                  | (refine s_ex hst (qt_ldp_str evX asX inX) ?_; rintro v ⟨rfl, hs⟩)
                  | (refine s_ex hst (qt_ldp_list evX asX inX) ?_; rintro v ⟨hvl, hv1⟩)
                  | (refine s_ex hst (qt_ldp evX asX inX) ?_; rintro v ⟨cl, rfl, hcl⟩)
                  | refine s_qt hst (by first | exact qt_ldB evX asX SlIn.h inX omX | exact qt_ldI evX asX SlIn.h inX omX | exact qt_ld2 evX asX SlIn.h inX omX | exact qt_load_own evX asX SlIn.h inX rfl (by simp; omega) | exact qt_load rfl _ asX inX rfl rfl) ?_))
                | (with_reducible refine Sl.k_field ?_; (first
                  | refine s_qt hst (qt_field rfl inX) ?_
                  | (refine s_ex hst (qt_fieldp evX asX inX inX rfl) ?_; rintro v hp; (try simp only [Int.toNat_natCast, Int.toNat_natCast_add_one, Int.reduceToNat] at hp))
                  | (refine s_ex hst (qt_field_own evX asX inX) ?_; rintro v hp; (try simp only [Int.toNat_natCast, Int.toNat_natCast_add_one, Int.reduceToNat] at hp))))
                | (with_reducible refine Sl.k_index ?_; (first
                  | refine s_qt hst (qt_indexA rfl rfl inX inX omX omX) ?_
                  | (refine s_ex hst (qt_indexP0 evX asX rfl inX inX) ?_; rintro v hp; (try simp only [Int.toNat_natCast, Int.toNat_natCast_add_one, Int.reduceToNat] at hp))
                  | (refine s_ex hst (qt_indexP1 evX asX rfl inX inX) ?_; rintro v hp; (try simp only [Int.toNat_natCast, Int.toNat_natCast_add_one, Int.reduceToNat] at hp))
                  | (refine s_ex hst (qt_index evX asX rfl inX inX omX omX) ?_; rintro v hp; (try simp only [Int.toNat_natCast, Int.toNat_natCast_add_one, Int.reduceToNat] at hp))
                  | (refine s_ex hst (qt_indexAp evX asX rfl inX inX rfl omX omX) ?_; rintro v hp; (try simp only [Int.toNat_natCast, Int.toNat_natCast_add_one, Int.reduceToNat] at hp))
                  | (refine s_ex hst (qt_index_own hst evX SlIn.h rfl inX inX omX omX) ?_; rintro v hp; (try simp only [Int.toNat_natCast, Int.toNat_natCast_add_one, Int.reduceToNat] at hp))))
                | (with_reducible refine Sl.k_call ?_; (first
                  | refine s_qt hst (by first | exact qt_len evX asX inX | exact qt_len_str evX inX | exact qt_len_own evX SlIn.h inX | exact qt_max rfl rfl | exact qt_min rfl rfl) ?_))); simp only [List.set_cons_succ, List.set_cons_zero, vOf_true, vOf_false, List.drop_succ_cons, List.drop_zero, List.take_succ_cons, List.take_zero, putD, Int.toNat_zero, Int.reduceToNat, Nat.mul_one, Nat.zero_add, Nat.add_zero, Nat.reduceMul, Nat.reduceAdd, Nat.zero_mul])
           | (with_reducible refine Sl.gate rfl ?_; (first | go_skip | go_guarded | go_step))
           | ((first | (with_reducible refine Sl.k_store ?_; (first
                  | refine s_stR hst rfl BoxIn.h evX asX inX rfl rfl ?_
                  | refine s_store hst rfl _ BoxIn.h inX evX rfl lenOk oneOk (by simp) ?_
                  | refine s_st1 hst rfl BoxIn.h evX asX inX (by simp) ?_
                  | refine s_stB hst evX asX SlIn.h inX evX omX ?_
                  | refine s_stI hst evX asX SlIn.h inX evX omX ?_
                  | refine s_st2 hst evX asX SlIn.h inX evX omX ?_); clear hst; intro w hst) | (refine s_box hst evX rfl ?_; clear hst; intro bx w hst) | (refine s_alloc hst inX ?_; clear hst; intro bk w hst)); (try simp only [List.set_cons_succ, List.set_cons_zero, vOf_true, vOf_false, List.drop_succ_cons, List.drop_zero, List.take_succ_cons, List.take_zero, putD, Int.toNat_zero, Int.reduceToNat, Nat.mul_one, Nat.zero_add, Nat.add_zero, Nat.reduceMul, Nat.reduceAdd, Nat.zero_mul]); (try simp only [List.set_cons_succ, List.set_cons_zero, List.drop_succ_cons, List.drop_zero, List.take_succ_cons, List.take_zero, List.nil_append, List.cons_append, List.append_nil, Value.cells, List.eraseIdx_cons_zero, List.eraseIdx_cons_succ, Nat.zero_add, Nat.add_zero, List.flatten_cons, List.flatten_nil, List.map_cons, List.map_nil] at hst)))
        refine s_append (j := 0) hst evX evX SlIn.h rfl inX inX inX (by simpa [Value.cells] using u8s_one ((b.drop a).take 16)) (by omega) (by omega) (by decide) ?_
        clear hst; intro v' w hst
        simp only [List.set_cons_succ, List.set_cons_zero, vOf_true, vOf_false, List.drop_succ_cons, List.drop_zero, List.take_succ_cons, List.take_zero, putD, Int.toNat_zero, Int.reduceToNat, Nat.mul_one, Nat.zero_add, Nat.add_zero, Nat.reduceMul, Nat.reduceAdd, Nat.zero_mul]
        (try simp only [List.set_cons_succ, List.set_cons_zero, List.drop_succ_cons, List.drop_zero, List.take_succ_cons, List.take_zero, List.nil_append, List.cons_append, List.append_nil, Value.cells, List.eraseIdx_cons_zero, List.eraseIdx_cons_succ, Nat.zero_add, Nat.add_zero, List.flatten_cons, List.flatten_nil, List.map_cons, List.map_nil] at hst)
        replace hst := hst.drop
        repeat' (first
           | go_skip
           | (with_reducible refine Sl.k_guard ?_; (first | (refine Sl.guard_yes rfl ?_) | (refine Sl.guard_no rfl ?_) | (refine Sl.guard_cases rfl ?_ ?_ <;> intro hg <;> first | (exfalso; simp only [decide_eq_true_eq, decide_eq_false_iff_not, Bool.not_false, Bool.not_true, beq_iff_eq, beq_eq_false_iff_ne, ne_eq] at hg; omega) | (simp only [hg, Bool.not_true, Bool.not_false]))) <;> (try simp only [List.set_cons_succ, List.set_cons_zero, vOf_true, vOf_false, List.drop_succ_cons, List.drop_zero, List.take_succ_cons, List.take_zero, putD, Int.toNat_zero, Int.reduceToNat, Nat.mul_one, Nat.zero_add, Nat.add_zero, Nat.reduceMul, Nat.reduceAdd, Nat.zero_mul]))
           | ((fail_if_success (go_big_may)); (first | go_skip | go_guarded | go_step))
           | ((first
                | (with_reducible refine Sl.k_load ?_; (first
                  | refine s_qt hst (qt_load rfl _ BoxIn.h inX rfl rfl) ?_
                  | (refine s_ex hst (qt_ldp_int evX asX inX) ?_; rintro v ⟨rfl, hI⟩)
                  | refine s_qt hst (by first | exact qt_ldp_u8 evX asX inX | exact qt_ldp_bool evX asX inX) ?_
                  | (refine s_ex hst (qt_ldp_str evX asX inX) ?_; rintro v ⟨rfl, hs⟩)
                  | (refine s_ex hst (qt_ldp_list evX asX inX) ?_; rintro v ⟨hvl, hv1⟩)
                  | (refine s_ex hst (qt_ldp evX asX inX) ?_; rintro v ⟨cl, rfl, hcl⟩)
                  | refine s_qt hst (by first | exact qt_ldB evX asX SlIn.h inX omX | exact qt_ldI evX asX SlIn.h inX omX | exact qt_ld2 evX asX SlIn.h inX omX | exact qt_load_own evX asX SlIn.h inX rfl (by simp; omega) | exact qt_load rfl _ asX inX rfl rfl) ?_))
                | (with_reducible refine Sl.k_field ?_; (first
                  | refine s_qt hst (qt_field rfl inX) ?_
                  | (refine s_ex hst (qt_fieldp evX asX inX inX rfl) ?_; rintro v hp; (try simp only [Int.toNat_natCast, Int.toNat_natCast_add_one, Int.reduceToNat] at hp))
                  | (refine s_ex hst (qt_field_own evX asX inX) ?_; rintro v hp; (try simp only [Int.toNat_natCast, Int.toNat_natCast_add_one, Int.reduceToNat] at hp))))
                | (with_reducible refine Sl.k_index ?_; (first
                  | refine s_qt hst (qt_indexA rfl rfl inX inX omX omX) ?_
                  | (refine s_ex hst (qt_indexP0 evX asX rfl inX inX) ?_; rintro v hp; (try simp only [Int.toNat_natCast, Int.toNat_natCast_add_one, Int.reduceToNat] at hp))
                  | (refine s_ex hst (qt_indexP1 evX asX rfl inX inX) ?_; rintro v hp; (try simp only [Int.toNat_natCast, Int.toNat_natCast_add_one, Int.reduceToNat] at hp))
                  | (refine s_ex hst (qt_index evX asX rfl inX inX omX omX) ?_; rintro v hp; (try simp only [Int.toNat_natCast, Int.toNat_natCast_add_one, Int.reduceToNat] at hp))
                  | (refine s_ex hst (qt_indexAp evX asX rfl inX inX rfl omX omX) ?_; rintro v hp; (try simp only [Int.toNat_natCast, Int.toNat_natCast_add_one, Int.reduceToNat] at hp))
                  | (refine s_ex hst (qt_index_own hst evX SlIn.h rfl inX inX omX omX) ?_; rintro v hp; (try simp only [Int.toNat_natCast, Int.toNat_natCast_add_one, Int.reduceToNat] at hp))))
                | (with_reducible refine Sl.k_call ?_; (first
                  | refine s_qt hst (by first | exact qt_len evX asX inX | exact qt_len_str evX inX | exact qt_len_own evX SlIn.h inX | exact qt_max rfl rfl | exact qt_min rfl rfl) ?_))); simp only [List.set_cons_succ, List.set_cons_zero, vOf_true, vOf_false, List.drop_succ_cons, List.drop_zero, List.take_succ_cons, List.take_zero, putD, Int.toNat_zero, Int.reduceToNat, Nat.mul_one, Nat.zero_add, Nat.add_zero, Nat.reduceMul, Nat.reduceAdd, Nat.zero_mul])
           | (with_reducible refine Sl.gate rfl ?_; (first | go_skip | go_guarded | go_step))
           | ((first | (with_reducible refine Sl.k_store ?_; (first
                  | refine s_stR hst rfl BoxIn.h evX asX inX rfl rfl ?_
                  | refine s_store hst rfl _ BoxIn.h inX evX rfl lenOk oneOk (by simp) ?_
                  | refine s_st1 hst rfl BoxIn.h evX asX inX (by simp) ?_
                  | refine s_stB hst evX asX SlIn.h inX evX omX ?_
                  | refine s_stI hst evX asX SlIn.h inX evX omX ?_
                  | refine s_st2 hst evX asX SlIn.h inX evX omX ?_); clear hst; intro w hst) | (refine s_box hst evX rfl ?_; clear hst; intro bx w hst) | (refine s_alloc hst inX ?_; clear hst; intro bk w hst)); (try simp only [List.set_cons_succ, List.set_cons_zero, vOf_true, vOf_false, List.drop_succ_cons, List.drop_zero, List.take_succ_cons, List.take_zero, putD, Int.toNat_zero, Int.reduceToNat, Nat.mul_one, Nat.zero_add, Nat.add_zero, Nat.reduceMul, Nat.reduceAdd, Nat.zero_mul]); (try simp only [List.set_cons_succ, List.set_cons_zero, List.drop_succ_cons, List.drop_zero, List.take_succ_cons, List.take_zero, List.nil_append, List.cons_append, List.append_nil, Value.cells, List.eraseIdx_cons_zero, List.eraseIdx_cons_succ, Nat.zero_add, Nat.add_zero, List.flatten_cons, List.flatten_nil, List.map_cons, List.map_nil] at hst)))
        go_roundw
        case rel =>
          refine ⟨i + 1, a + 16, by omega, by go_num, by go_num, by have := Ha.out; omega, ?_⟩
          rw [chunks_snoc, cF_snoc, List.drop_drop, ← Ha.out]
          exact hst
        case measure => simp [intOf]; omega
      · repeat' (first
           | go_skip
           | (with_reducible refine Sl.k_guard ?_; (first | (refine Sl.guard_yes rfl ?_) | (refine Sl.guard_no rfl ?_) | (refine Sl.guard_cases rfl ?_ ?_ <;> intro hg <;> first | (exfalso; simp only [decide_eq_true_eq, decide_eq_false_iff_not, Bool.not_false, Bool.not_true, beq_iff_eq, beq_eq_false_iff_ne, ne_eq] at hg; omega) | (simp only [hg, Bool.not_true, Bool.not_false]))) <;> (try simp only [List.set_cons_succ, List.set_cons_zero, vOf_true, vOf_false, List.drop_succ_cons, List.drop_zero, List.take_succ_cons, List.take_zero, putD, Int.toNat_zero, Int.reduceToNat, Nat.mul_one, Nat.zero_add, Nat.add_zero, Nat.reduceMul, Nat.reduceAdd, Nat.zero_mul]))
           | ((fail_if_success (go_big_may)); (first | go_skip | go_guarded | go_step))
           | ((first
                | (with_reducible refine Sl.k_load ?_; (first
                  | refine s_qt hst (qt_load rfl _ BoxIn.h inX rfl rfl) ?_
                  | (refine s_ex hst (qt_ldp_int evX asX inX) ?_; rintro v ⟨rfl, hI⟩)
                  | refine s_qt hst (by first | exact qt_ldp_u8 evX asX inX | exact qt_ldp_bool evX asX inX) ?_
                  | (refine s_ex hst (qt_ldp_str evX asX inX) ?_; rintro v ⟨rfl, hs⟩)
                  | (refine s_ex hst (qt_ldp_list evX asX inX) ?_; rintro v ⟨hvl, hv1⟩)
                  | (refine s_ex hst (qt_ldp evX asX inX) ?_; rintro v ⟨cl, rfl, hcl⟩)
                  | refine s_qt hst (by first | exact qt_ldB evX asX SlIn.h inX omX | exact qt_ldI evX asX SlIn.h inX omX | exact qt_ld2 evX asX SlIn.h inX omX | exact qt_load_own evX asX SlIn.h inX rfl (by simp; omega) | exact qt_load rfl _ asX inX rfl rfl) ?_))
                | (with_reducible refine Sl.k_field ?_; (first
                  | refine s_qt hst (qt_field rfl inX) ?_
                  | (refine s_ex hst (qt_fieldp evX asX inX inX rfl) ?_; rintro v hp; (try simp only [Int.toNat_natCast, Int.toNat_natCast_add_one, Int.reduceToNat] at hp))
                  | (refine s_ex hst (qt_field_own evX asX inX) ?_; rintro v hp; (try simp only [Int.toNat_natCast, Int.toNat_natCast_add_one, Int.reduceToNat] at hp))))
                | (with_reducible refine Sl.k_index ?_; (first
                  | refine s_qt hst (qt_indexA rfl rfl inX inX omX omX) ?_
                  | (refine s_ex hst (qt_indexP0 evX asX rfl inX inX) ?_; rintro v hp; (try simp only [Int.toNat_natCast, Int.toNat_natCast_add_one, Int.reduceToNat] at hp))
                  | (refine s_ex hst (qt_indexP1 evX asX rfl inX inX) ?_; rintro v hp; (try simp only [Int.toNat_natCast, Int.toNat_natCast_add_one, Int.reduceToNat] at hp))
                  | (refine s_ex hst (qt_index evX asX rfl inX inX omX omX) ?_; rintro v hp; (try simp only [Int.toNat_natCast, Int.toNat_natCast_add_one, Int.reduceToNat] at hp))
                  | (refine s_ex hst (qt_indexAp evX asX rfl inX inX rfl omX omX) ?_; rintro v hp; (try simp only [Int.toNat_natCast, Int.toNat_natCast_add_one, Int.reduceToNat] at hp))
                  | (refine s_ex hst (qt_index_own hst evX SlIn.h rfl inX inX omX omX) ?_; rintro v hp; (try simp only [Int.toNat_natCast, Int.toNat_natCast_add_one, Int.reduceToNat] at hp))))
                | (with_reducible refine Sl.k_call ?_; (first
                  | refine s_qt hst (by first | exact qt_len evX asX inX | exact qt_len_str evX inX | exact qt_len_own evX SlIn.h inX | exact qt_max rfl rfl | exact qt_min rfl rfl) ?_))); simp only [List.set_cons_succ, List.set_cons_zero, vOf_true, vOf_false, List.drop_succ_cons, List.drop_zero, List.take_succ_cons, List.take_zero, putD, Int.toNat_zero, Int.reduceToNat, Nat.mul_one, Nat.zero_add, Nat.add_zero, Nat.reduceMul, Nat.reduceAdd, Nat.zero_mul])
           | (with_reducible refine Sl.gate rfl ?_; (first | go_skip | go_guarded | go_step))
           | ((first | (with_reducible refine Sl.k_store ?_; (first
                  | refine s_stR hst rfl BoxIn.h evX asX inX rfl rfl ?_
                  | refine s_store hst rfl _ BoxIn.h inX evX rfl lenOk oneOk (by simp) ?_
                  | refine s_st1 hst rfl BoxIn.h evX asX inX (by simp) ?_
                  | refine s_stB hst evX asX SlIn.h inX evX omX ?_
                  | refine s_stI hst evX asX SlIn.h inX evX omX ?_
                  | refine s_st2 hst evX asX SlIn.h inX evX omX ?_); clear hst; intro w hst) | (refine s_box hst evX rfl ?_; clear hst; intro bx w hst) | (refine s_alloc hst inX ?_; clear hst; intro bk w hst)); (try simp only [List.set_cons_succ, List.set_cons_zero, vOf_true, vOf_false, List.drop_succ_cons, List.drop_zero, List.take_succ_cons, List.take_zero, putD, Int.toNat_zero, Int.reduceToNat, Nat.mul_one, Nat.zero_add, Nat.add_zero, Nat.reduceMul, Nat.reduceAdd, Nat.zero_mul]); (try simp only [List.set_cons_succ, List.set_cons_zero, List.drop_succ_cons, List.drop_zero, List.take_succ_cons, List.take_zero, List.nil_append, List.cons_append, List.append_nil, Value.cells, List.eraseIdx_cons_zero, List.eraseIdx_cons_succ, Nat.zero_add, Nat.add_zero, List.flatten_cons, List.flatten_nil, List.map_cons, List.map_nil] at hst)))
        go_ret3
        refine ⟨_, rfl, ?_⟩
        unfold digsPost
        obtain rfl : i = n := by omega
        have hal : a = at_ + 16 * i := Ha.out
        rw [HP.out, ← hal]
        simp only [chunks_len]
        exact ⟨_, rfl, hst⟩
  · have c : Rets Try.prog 34 [vb, .int .i64 16] w (fun v w' => v = .tuple #[.int .i64 n, .int .i64 (at_ : Nat), .int .i64 6] ∧ St S M w') := c
    go_enter Try.func28, Try.ntmps28
    repeat' (first
       | go_skip
       | (with_reducible refine Sl.k_guard ?_; (first | (refine Sl.guard_yes rfl ?_) | (refine Sl.guard_no rfl ?_) | (refine Sl.guard_cases rfl ?_ ?_ <;> intro hg <;> first | (exfalso; simp only [decide_eq_true_eq, decide_eq_false_iff_not, Bool.not_false, Bool.not_true, beq_iff_eq, beq_eq_false_iff_ne, ne_eq] at hg; omega) | (simp only [hg, Bool.not_true, Bool.not_false]))) <;> (try simp only [List.set_cons_succ, List.set_cons_zero, vOf_true, vOf_false, List.drop_succ_cons, List.drop_zero, List.take_succ_cons, List.take_zero, putD, Int.toNat_zero, Int.reduceToNat, Nat.mul_one, Nat.zero_add, Nat.add_zero, Nat.reduceMul, Nat.reduceAdd, Nat.zero_mul]))
       | (with_reducible refine Sl.k_call ?_; (first
            | (refine s_call (c) inX rfl ?_; clear hst; rintro v w ⟨rfl, hst⟩)) <;> (try simp only [List.set_cons_succ, List.set_cons_zero, vOf_true, vOf_false, List.drop_succ_cons, List.drop_zero, List.take_succ_cons, List.take_zero, putD, Int.toNat_zero, Int.reduceToNat, Nat.mul_one, Nat.zero_add, Nat.add_zero, Nat.reduceMul, Nat.reduceAdd, Nat.zero_mul]) <;> (try simp only [List.set_cons_succ, List.set_cons_zero, List.drop_succ_cons, List.drop_zero, List.take_succ_cons, List.take_zero, List.nil_append, List.cons_append, List.append_nil, Value.cells, List.eraseIdx_cons_zero, List.eraseIdx_cons_succ, Nat.zero_add, Nat.add_zero, List.flatten_cons, List.flatten_nil, List.map_cons, List.map_nil] at hst))
       | ((fail_if_success (go_big_may)); (first | go_skip | go_guarded | go_step))
       | ((first
            | (with_reducible refine Sl.k_load ?_; (first
              | refine s_qt hst (qt_load rfl _ BoxIn.h inX rfl rfl) ?_
              | (refine s_ex hst (qt_ldp_int evX asX inX) ?_; rintro v ⟨rfl, hI⟩)
              | refine s_qt hst (by first | exact qt_ldp_u8 evX asX inX | exact qt_ldp_bool evX asX inX) ?_
              | (refine s_ex hst (qt_ldp_str evX asX inX) ?_; rintro v ⟨rfl, hs⟩)
              | (refine s_ex hst (qt_ldp_list evX asX inX) ?_; rintro v ⟨hvl, hv1⟩)
              | (refine s_ex hst (qt_ldp evX asX inX) ?_; rintro v ⟨cl, rfl, hcl⟩)
              | refine s_qt hst (by first | exact qt_ldB evX asX SlIn.h inX omX | exact qt_ldI evX asX SlIn.h inX omX | exact qt_ld2 evX asX SlIn.h inX omX | exact qt_load_own evX asX SlIn.h inX rfl (by simp; omega) | exact qt_load rfl _ asX inX rfl rfl) ?_))
            | (with_reducible refine Sl.k_field ?_; (first
              | refine s_qt hst (qt_field rfl inX) ?_
              | (refine s_ex hst (qt_fieldp evX asX inX inX rfl) ?_; rintro v hp; (try simp only [Int.toNat_natCast, Int.toNat_natCast_add_one, Int.reduceToNat] at hp))
              | (refine s_ex hst (qt_field_own evX asX inX) ?_; rintro v hp; (try simp only [Int.toNat_natCast, Int.toNat_natCast_add_one, Int.reduceToNat] at hp))))
            | (with_reducible refine Sl.k_index ?_; (first
              | refine s_qt hst (qt_indexA rfl rfl inX inX omX omX) ?_
              | (refine s_ex hst (qt_indexP0 evX asX rfl inX inX) ?_; rintro v hp; (try simp only [Int.toNat_natCast, Int.toNat_natCast_add_one, Int.reduceToNat] at hp))
              | (refine s_ex hst (qt_indexP1 evX asX rfl inX inX) ?_; rintro v hp; (try simp only [Int.toNat_natCast, Int.toNat_natCast_add_one, Int.reduceToNat] at hp))
              | (refine s_ex hst (qt_index evX asX rfl inX inX omX omX) ?_; rintro v hp; (try simp only [Int.toNat_natCast, Int.toNat_natCast_add_one, Int.reduceToNat] at hp))
              | (refine s_ex hst (qt_indexAp evX asX rfl inX inX rfl omX omX) ?_; rintro v hp; (try simp only [Int.toNat_natCast, Int.toNat_natCast_add_one, Int.reduceToNat] at hp))
              | (refine s_ex hst (qt_index_own hst evX SlIn.h rfl inX inX omX omX) ?_; rintro v hp; (try simp only [Int.toNat_natCast, Int.toNat_natCast_add_one, Int.reduceToNat] at hp))))
            | (with_reducible refine Sl.k_call ?_; (first
              | refine s_qt hst (by first | exact qt_len evX asX inX | exact qt_len_str evX inX | exact qt_len_own evX SlIn.h inX | exact qt_max rfl rfl | exact qt_min rfl rfl) ?_))); simp only [List.set_cons_succ, List.set_cons_zero, vOf_true, vOf_false, List.drop_succ_cons, List.drop_zero, List.take_succ_cons, List.take_zero, putD, Int.toNat_zero, Int.reduceToNat, Nat.mul_one, Nat.zero_add, Nat.add_zero, Nat.reduceMul, Nat.reduceAdd, Nat.zero_mul])
       | (with_reducible refine Sl.gate rfl ?_; (first | go_skip | go_guarded | go_step))
       | ((first | (with_reducible refine Sl.k_store ?_; (first
              | refine s_stR hst rfl BoxIn.h evX asX inX rfl rfl ?_
              | refine s_store hst rfl _ BoxIn.h inX evX rfl lenOk oneOk (by simp) ?_
              | refine s_st1 hst rfl BoxIn.h evX asX inX (by simp) ?_
              | refine s_stB hst evX asX SlIn.h inX evX omX ?_
              | refine s_stI hst evX asX SlIn.h inX evX omX ?_
              | refine s_st2 hst evX asX SlIn.h inX evX omX ?_); clear hst; intro w hst) | (refine s_box hst evX rfl ?_; clear hst; intro bx w hst) | (refine s_alloc hst inX ?_; clear hst; intro bk w hst)); (try simp only [List.set_cons_succ, List.set_cons_zero, vOf_true, vOf_false, List.drop_succ_cons, List.drop_zero, List.take_succ_cons, List.take_zero, putD, Int.toNat_zero, Int.reduceToNat, Nat.mul_one, Nat.zero_add, Nat.add_zero, Nat.reduceMul, Nat.reduceAdd, Nat.zero_mul]); (try simp only [List.set_cons_succ, List.set_cons_zero, List.drop_succ_cons, List.drop_zero, List.take_succ_cons, List.take_zero, List.nil_append, List.cons_append, List.append_nil, Value.cells, List.eraseIdx_cons_zero, List.eraseIdx_cons_succ, Nat.zero_add, Nat.add_zero, List.flatten_cons, List.flatten_nil, List.map_cons, List.map_nil] at hst)))
    go_ret3
    exact ⟨_, rfl, .slice none 0 0, by rw [hP, if_pos (by simp)]; rfl, by rw [hP, if_pos (by simp)]; exact hst.nil 51 16⟩
  · have c : Rets Try.prog 34 [vb, .int .i64 16] w (fun v w' => v = .tuple #[.int .i64 n, .int .i64 (at_ : Nat), .int .i64 7] ∧ St S M w') := c
    go_enter Try.func28, Try.ntmps28
    repeat' (first
       | go_skip
       | (with_reducible refine Sl.k_guard ?_; (first | (refine Sl.guard_yes rfl ?_) | (refine Sl.guard_no rfl ?_) | (refine Sl.guard_cases rfl ?_ ?_ <;> intro hg <;> first | (exfalso; simp only [decide_eq_true_eq, decide_eq_false_iff_not, Bool.not_false, Bool.not_true, beq_iff_eq, beq_eq_false_iff_ne, ne_eq] at hg; omega) | (simp only [hg, Bool.not_true, Bool.not_false]))) <;> (try simp only [List.set_cons_succ, List.set_cons_zero, vOf_true, vOf_false, List.drop_succ_cons, List.drop_zero, List.take_succ_cons, List.take_zero, putD, Int.toNat_zero, Int.reduceToNat, Nat.mul_one, Nat.zero_add, Nat.add_zero, Nat.reduceMul, Nat.reduceAdd, Nat.zero_mul]))
       | (with_reducible refine Sl.k_call ?_; (first
            | (refine s_call (c) inX rfl ?_; clear hst; rintro v w ⟨rfl, hst⟩)) <;> (try simp only [List.set_cons_succ, List.set_cons_zero, vOf_true, vOf_false, List.drop_succ_cons, List.drop_zero, List.take_succ_cons, List.take_zero, putD, Int.toNat_zero, Int.reduceToNat, Nat.mul_one, Nat.zero_add, Nat.add_zero, Nat.reduceMul, Nat.reduceAdd, Nat.zero_mul]) <;> (try simp only [List.set_cons_succ, List.set_cons_zero, List.drop_succ_cons, List.drop_zero, List.take_succ_cons, List.take_zero, List.nil_append, List.cons_append, List.append_nil, Value.cells, List.eraseIdx_cons_zero, List.eraseIdx_cons_succ, Nat.zero_add, Nat.add_zero, List.flatten_cons, List.flatten_nil, List.map_cons, List.map_nil] at hst))
       | ((fail_if_success (go_big_may)); (first | go_skip | go_guarded | go_step))
       | ((first
            | (with_reducible refine Sl.k_load ?_; (first
              | refine s_qt hst (qt_load rfl _ BoxIn.h inX rfl rfl) ?_
              | (refine s_ex hst (qt_ldp_int evX asX inX) ?_; rintro v ⟨rfl, hI⟩)
              | refine s_qt hst (by first | exact qt_ldp_u8 evX asX inX | exact qt_ldp_bool evX asX inX) ?_
              | (refine s_ex hst (qt_ldp_str evX asX inX) ?_; rintro v ⟨rfl, hs⟩)
              | (refine s_ex hst (qt_ldp_list evX asX inX) ?_; rintro v ⟨hvl, hv1⟩)
              | (refine s_ex hst (qt_ldp evX asX inX) ?_; rintro v ⟨cl, rfl, hcl⟩)
              | refine s_qt hst (by first | exact qt_ldB evX asX SlIn.h inX omX | exact qt_ldI evX asX SlIn.h inX omX | exact qt_ld2 evX asX SlIn.h inX omX | exact qt_load_own evX asX SlIn.h inX rfl (by simp; omega) | exact qt_load rfl _ asX inX rfl rfl) ?_))
            | (with_reducible refine Sl.k_field ?_; (first
              | refine s_qt hst (qt_field rfl inX) ?_
              | (refine s_ex hst (qt_fieldp evX asX inX inX rfl) ?_; rintro v hp; (try simp only [Int.toNat_natCast, Int.toNat_natCast_add_one, Int.reduceToNat] at hp))
              | (refine s_ex hst (qt_field_own evX asX inX) ?_; rintro v hp; (try simp only [Int.toNat_natCast, Int.toNat_natCast_add_one, Int.reduceToNat] at hp))))
            | (with_reducible refine Sl.k_index ?_; (first
              | refine s_qt hst (qt_indexA rfl rfl inX inX omX omX) ?_
              | (refine s_ex hst (qt_indexP0 evX asX rfl inX inX) ?_; rintro v hp; (try simp only [Int.toNat_natCast, Int.toNat_natCast_add_one, Int.reduceToNat] at hp))
              | (refine s_ex hst (qt_indexP1 evX asX rfl inX inX) ?_; rintro v hp; (try simp only [Int.toNat_natCast, Int.toNat_natCast_add_one, Int.reduceToNat] at hp))
              | (refine s_ex hst (qt_index evX asX rfl inX inX omX omX) ?_; rintro v hp; (try simp only [Int.toNat_natCast, Int.toNat_natCast_add_one, Int.reduceToNat] at hp))
              | (refine s_ex hst (qt_indexAp evX asX rfl inX inX rfl omX omX) ?_; rintro v hp; (try simp only [Int.toNat_natCast, Int.toNat_natCast_add_one, Int.reduceToNat] at hp))
              | (refine s_ex hst (qt_index_own hst evX SlIn.h rfl inX inX omX omX) ?_; rintro v hp; (try simp only [Int.toNat_natCast, Int.toNat_natCast_add_one, Int.reduceToNat] at hp))))
            | (with_reducible refine Sl.k_call ?_; (first
              | refine s_qt hst (by first | exact qt_len evX asX inX | exact qt_len_str evX inX | exact qt_len_own evX SlIn.h inX | exact qt_max rfl rfl | exact qt_min rfl rfl) ?_))); simp only [List.set_cons_succ, List.set_cons_zero, vOf_true, vOf_false, List.drop_succ_cons, List.drop_zero, List.take_succ_cons, List.take_zero, putD, Int.toNat_zero, Int.reduceToNat, Nat.mul_one, Nat.zero_add, Nat.add_zero, Nat.reduceMul, Nat.reduceAdd, Nat.zero_mul])
       | (with_reducible refine Sl.gate rfl ?_; (first | go_skip | go_guarded | go_step))
       | ((first | (with_reducible refine Sl.k_store ?_; (first
              | refine s_stR hst rfl BoxIn.h evX asX inX rfl rfl ?_
              | refine s_store hst rfl _ BoxIn.h inX evX rfl lenOk oneOk (by simp) ?_
              | refine s_st1 hst rfl BoxIn.h evX asX inX (by simp) ?_
              | refine s_stB hst evX asX SlIn.h inX evX omX ?_
              | refine s_stI hst evX asX SlIn.h inX evX omX ?_
              | refine s_st2 hst evX asX SlIn.h inX evX omX ?_); clear hst; intro w hst) | (refine s_box hst evX rfl ?_; clear hst; intro bx w hst) | (refine s_alloc hst inX ?_; clear hst; intro bk w hst)); (try simp only [List.set_cons_succ, List.set_cons_zero, vOf_true, vOf_false, List.drop_succ_cons, List.drop_zero, List.take_succ_cons, List.take_zero, putD, Int.toNat_zero, Int.reduceToNat, Nat.mul_one, Nat.zero_add, Nat.add_zero, Nat.reduceMul, Nat.reduceAdd, Nat.zero_mul]); (try simp only [List.set_cons_succ, List.set_cons_zero, List.drop_succ_cons, List.drop_zero, List.take_succ_cons, List.take_zero, List.nil_append, List.cons_append, List.append_nil, Value.cells, List.eraseIdx_cons_zero, List.eraseIdx_cons_succ, Nat.zero_add, Nat.add_zero, List.flatten_cons, List.flatten_nil, List.map_cons, List.map_nil] at hst)))
    go_ret3
    exact ⟨_, rfl, .slice none 0 0, by rw [hP, if_pos (by simp)]; rfl, by rw [hP, if_pos (by simp)]; exact hst.nil 51 16⟩

instance eqt51 : EqTy Try.prog 51 := ⟨by kernel_rfl, by kernel_rfl, by kernel_rfl⟩
instance key5 : Key Try.prog 5 UInt8 1 := key_u8 (by kernel_rfl)
instance key51 : Key Try.prog 51 Dg 2 := key_arr inferInstance (by kernel_rfl) (by kernel_rfl) (by decide)

set_option maxHeartbeats 400000 in
theorem sameDigs_c {S M} (w : World) (hst : St S M w) (va vb : Value) (a b : List Dg) (ha : RSl S va a) (hb : RSl S vb b) (hm : a.length ≤ 9223372036854775807) :
    Rets Try.prog 30 [va, vb] w fun v w' => v = .bool (decide (a = b)) ∧ St S M w' := by
  unfold Rets
  by_cases hl : a.length = b.length
  · have hd : (((a.length : Int)) != (b.length : Int)) = false := by simp [hl]
    have Hl := Lib.hid hl; clear hl
    go_enter Try.func30, Try.ntmps30
    repeat' (first
       | go_skip
       | (with_reducible refine Sl.k_guard ?_; (first | (refine Sl.guard_yes rfl ?_) | (refine Sl.guard_no rfl ?_) | (refine Sl.guard_cases rfl ?_ ?_ <;> intro hg <;> first | (exfalso; simp only [decide_eq_true_eq, decide_eq_false_iff_not, Bool.not_false, Bool.not_true, beq_iff_eq, beq_eq_false_iff_ne, ne_eq] at hg; omega) | (simp only [hg, Bool.not_true, Bool.not_false]))) <;> (try simp only [List.set_cons_succ, List.set_cons_zero, vOf_true, vOf_false, List.drop_succ_cons, List.drop_zero, List.take_succ_cons, List.take_zero, putD, Int.toNat_zero, Int.reduceToNat, Nat.mul_one, Nat.zero_add, Nat.add_zero, Nat.reduceMul, Nat.reduceAdd, Nat.zero_mul]))
       | ((fail_if_success (go_big_may)); (first | go_skip | go_guarded | go_step))
       | ((first
            | (with_reducible refine Sl.k_load ?_; (first
              | refine s_qt hst (qt_load rfl _ BoxIn.h inX rfl rfl) ?_
              | (refine s_ex hst (qt_ldp_int evX asX inX) ?_; rintro v ⟨rfl, hI⟩)
              | refine s_qt hst (by first | exact qt_ldp_u8 evX asX inX | exact qt_ldp_bool evX asX inX) ?_
              | (refine s_ex hst (qt_ldp_str evX asX inX) ?_; rintro v ⟨rfl, hs⟩)
              | (refine s_ex hst (qt_ldp_list evX asX inX) ?_; rintro v ⟨hvl, hv1⟩)
              | (refine s_ex hst (qt_ldp evX asX inX) ?_; rintro v ⟨cl, rfl, hcl⟩)
              | refine s_qt hst (by first | exact qt_ldB evX asX SlIn.h inX omX | exact qt_ldI evX asX SlIn.h inX omX | exact qt_ld2 evX asX SlIn.h inX omX | exact qt_load_own evX asX SlIn.h inX rfl (by simp; omega) | exact qt_load rfl _ asX inX rfl rfl) ?_))
            | (with_reducible refine Sl.k_field ?_; (first
              | refine s_qt hst (qt_field rfl inX) ?_
              | (refine s_ex hst (qt_fieldp evX asX inX inX rfl) ?_; rintro v hp; (try simp only [Int.toNat_natCast, Int.toNat_natCast_add_one, Int.reduceToNat] at hp))
              | (refine s_ex hst (qt_field_own evX asX inX) ?_; rintro v hp; (try simp only [Int.toNat_natCast, Int.toNat_natCast_add_one, Int.reduceToNat] at hp))))
            | (with_reducible refine Sl.k_index ?_; (first
              | refine s_qt hst (qt_indexA rfl rfl inX inX omX omX) ?_
              | (refine s_ex hst (qt_indexP0 evX asX rfl inX inX) ?_; rintro v hp; (try simp only [Int.toNat_natCast, Int.toNat_natCast_add_one, Int.reduceToNat] at hp))
              | (refine s_ex hst (qt_indexP1 evX asX rfl inX inX) ?_; rintro v hp; (try simp only [Int.toNat_natCast, Int.toNat_natCast_add_one, Int.reduceToNat] at hp))
              | (refine s_ex hst (qt_index evX asX rfl inX inX omX omX) ?_; rintro v hp; (try simp only [Int.toNat_natCast, Int.toNat_natCast_add_one, Int.reduceToNat] at hp))
              | (refine s_ex hst (qt_indexAp evX asX rfl inX inX rfl omX omX) ?_; rintro v hp; (try simp only [Int.toNat_natCast, Int.toNat_natCast_add_one, Int.reduceToNat] at hp))
              | (refine s_ex hst (qt_index_own hst evX SlIn.h rfl inX inX omX omX) ?_; rintro v hp; (try simp only [Int.toNat_natCast, Int.toNat_natCast_add_one, Int.reduceToNat] at hp))))
            | (with_reducible refine Sl.k_call ?_; (first
              | refine s_qt hst (by first | exact qt_len evX asX inX | exact qt_len_str evX inX | exact qt_len_own evX SlIn.h inX | exact qt_max rfl rfl | exact qt_min rfl rfl) ?_))); simp only [List.set_cons_succ, List.set_cons_zero, vOf_true, vOf_false, List.drop_succ_cons, List.drop_zero, List.take_succ_cons, List.take_zero, putD, Int.toNat_zero, Int.reduceToNat, Nat.mul_one, Nat.zero_add, Nat.add_zero, Nat.reduceMul, Nat.reduceAdd, Nat.zero_mul])
       | (with_reducible refine Sl.gate rfl ?_; (first | go_skip | go_guarded | go_step))
       | ((first | (with_reducible refine Sl.k_store ?_; (first
              | refine s_stR hst rfl BoxIn.h evX asX inX rfl rfl ?_
              | refine s_store hst rfl _ BoxIn.h inX evX rfl lenOk oneOk (by simp) ?_
              | refine s_st1 hst rfl BoxIn.h evX asX inX (by simp) ?_
              | refine s_stB hst evX asX SlIn.h inX evX omX ?_
              | refine s_stI hst evX asX SlIn.h inX evX omX ?_
              | refine s_st2 hst evX asX SlIn.h inX evX omX ?_); clear hst; intro w hst) | (refine s_box hst evX rfl ?_; clear hst; intro bx w hst) | (refine s_alloc hst inX ?_; clear hst; intro bk w hst)); (try simp only [List.set_cons_succ, List.set_cons_zero, vOf_true, vOf_false, List.drop_succ_cons, List.drop_zero, List.take_succ_cons, List.take_zero, putD, Int.toNat_zero, Int.reduceToNat, Nat.mul_one, Nat.zero_add, Nat.add_zero, Nat.reduceMul, Nat.reduceAdd, Nat.zero_mul]); (try simp only [List.set_cons_succ, List.set_cons_zero, List.drop_succ_cons, List.drop_zero, List.take_succ_cons, List.take_zero, List.nil_append, List.cons_append, List.append_nil, Value.cells, List.eraseIdx_cons_zero, List.eraseIdx_cons_succ, Nat.zero_add, Nat.add_zero, List.flatten_cons, List.flatten_nil, List.map_cons, List.map_nil] at hst)))
    go_loopw [5] (fun v wr => ∃ k : Nat, k ≤ a.length ∧ v = .int .i64 k ∧ a.take k = b.take k ∧ St S M wr) (fun v _ => a.length - (intOf v).toNat)
    case atStart => exact ⟨0, Nat.zero_le _, rfl, rfl, hst⟩
    case round =>
      clear hst
      obtain ⟨k, hk, rfl, ht, hst⟩ := hrel
      have Ht := Lib.hid ht; clear ht
      by_cases hlt : k < a.length
      · have hlb : k < b.length := Hl.out ▸ hlt
        repeat' (first
           | go_skip
           | (with_reducible refine Sl.k_guard ?_; (first | (refine Sl.guard_yes rfl ?_) | (refine Sl.guard_no rfl ?_) | (refine Sl.guard_cases rfl ?_ ?_ <;> intro hg <;> first | (exfalso; simp only [decide_eq_true_eq, decide_eq_false_iff_not, Bool.not_false, Bool.not_true, beq_iff_eq, beq_eq_false_iff_ne, ne_eq] at hg; omega) | (simp only [hg, Bool.not_true, Bool.not_false]))) <;> (try simp only [List.set_cons_succ, List.set_cons_zero, vOf_true, vOf_false, List.drop_succ_cons, List.drop_zero, List.take_succ_cons, List.take_zero, putD, Int.toNat_zero, Int.reduceToNat, Nat.mul_one, Nat.zero_add, Nat.add_zero, Nat.reduceMul, Nat.reduceAdd, Nat.zero_mul]))
           | ((fail_if_success (go_big_may)); (first | go_skip | go_guarded | go_step))
           | ((first
                | (with_reducible refine Sl.k_load ?_; (first
                  | refine s_qt hst (qt_load rfl _ BoxIn.h inX rfl rfl) ?_
                  | (refine s_ex hst (qt_ldp_int evX asX inX) ?_; rintro v ⟨rfl, hI⟩)
                  | refine s_qt hst (by first | exact qt_ldp_u8 evX asX inX | exact qt_ldp_bool evX asX inX) ?_
                  | (refine s_ex hst (qt_ldp_str evX asX inX) ?_; rintro v ⟨rfl, hs⟩)
                  | (refine s_ex hst (qt_ldp_list evX asX inX) ?_; rintro v ⟨hvl, hv1⟩)
                  | (refine s_ex hst (qt_ldp evX asX inX) ?_; rintro v ⟨cl, rfl, hcl⟩)
                  | refine s_qt hst (by first | exact qt_ldB evX asX SlIn.h inX omX | exact qt_ldI evX asX SlIn.h inX omX | exact qt_ld2 evX asX SlIn.h inX omX | exact qt_load_own evX asX SlIn.h inX rfl (by simp; omega) | exact qt_load rfl _ asX inX rfl rfl) ?_))
                | (with_reducible refine Sl.k_field ?_; (first
                  | refine s_qt hst (qt_field rfl inX) ?_
                  | (refine s_ex hst (qt_fieldp evX asX inX inX rfl) ?_; rintro v hp; (try simp only [Int.toNat_natCast, Int.toNat_natCast_add_one, Int.reduceToNat] at hp))
                  | (refine s_ex hst (qt_field_own evX asX inX) ?_; rintro v hp; (try simp only [Int.toNat_natCast, Int.toNat_natCast_add_one, Int.reduceToNat] at hp))))
                | (with_reducible refine Sl.k_index ?_; (first
                  | refine s_qt hst (qt_indexA rfl rfl inX inX omX omX) ?_
                  | (refine s_ex hst (qt_indexP0 evX asX rfl inX inX) ?_; rintro v hp; (try simp only [Int.toNat_natCast, Int.toNat_natCast_add_one, Int.reduceToNat] at hp))
                  | (refine s_ex hst (qt_indexP1 evX asX rfl inX inX) ?_; rintro v hp; (try simp only [Int.toNat_natCast, Int.toNat_natCast_add_one, Int.reduceToNat] at hp))
                  | (refine s_ex hst (qt_index evX asX rfl inX inX omX omX) ?_; rintro v hp; (try simp only [Int.toNat_natCast, Int.toNat_natCast_add_one, Int.reduceToNat] at hp))
                  | (refine s_ex hst (qt_indexAp evX asX rfl inX inX rfl omX omX) ?_; rintro v hp; (try simp only [Int.toNat_natCast, Int.toNat_natCast_add_one, Int.reduceToNat] at hp))
                  | (refine s_ex hst (qt_index_own hst evX SlIn.h rfl inX inX omX omX) ?_; rintro v hp; (try simp only [Int.toNat_natCast, Int.toNat_natCast_add_one, Int.reduceToNat] at hp))))
                | (with_reducible refine Sl.k_call ?_; (first
                  | refine s_qt hst (by first | exact qt_len evX asX inX | exact qt_len_str evX inX | exact qt_len_own evX SlIn.h inX | exact qt_max rfl rfl | exact qt_min rfl rfl) ?_))); simp only [List.set_cons_succ, List.set_cons_zero, vOf_true, vOf_false, List.drop_succ_cons, List.drop_zero, List.take_succ_cons, List.take_zero, putD, Int.toNat_zero, Int.reduceToNat, Nat.mul_one, Nat.zero_add, Nat.add_zero, Nat.reduceMul, Nat.reduceAdd, Nat.zero_mul])
           | (with_reducible refine Sl.gate rfl ?_; (first | go_skip | go_guarded | go_step))
           | ((first | (with_reducible refine Sl.k_store ?_; (first
                  | refine s_stR hst rfl BoxIn.h evX asX inX rfl rfl ?_
                  | refine s_store hst rfl _ BoxIn.h inX evX rfl lenOk oneOk (by simp) ?_
                  | refine s_st1 hst rfl BoxIn.h evX asX inX (by simp) ?_
                  | refine s_stB hst evX asX SlIn.h inX evX omX ?_
                  | refine s_stI hst evX asX SlIn.h inX evX omX ?_
                  | refine s_st2 hst evX asX SlIn.h inX evX omX ?_); clear hst; intro w hst) | (refine s_box hst evX rfl ?_; clear hst; intro bx w hst) | (refine s_alloc hst inX ?_; clear hst; intro bk w hst)); (try simp only [List.set_cons_succ, List.set_cons_zero, vOf_true, vOf_false, List.drop_succ_cons, List.drop_zero, List.take_succ_cons, List.take_zero, putD, Int.toNat_zero, Int.reduceToNat, Nat.mul_one, Nat.zero_add, Nat.add_zero, Nat.reduceMul, Nat.reduceAdd, Nat.zero_mul]); (try simp only [List.set_cons_succ, List.set_cons_zero, List.drop_succ_cons, List.drop_zero, List.take_succ_cons, List.take_zero, List.nil_append, List.cons_append, List.append_nil, Value.cells, List.eraseIdx_cons_zero, List.eraseIdx_cons_succ, Nat.zero_add, Nat.add_zero, List.flatten_cons, List.flatten_nil, List.map_cons, List.map_nil] at hst)))
        refine region_quiet hst (by kernel_rfl) (by kernel_rfl) ?_
        repeat (first
             | (with_reducible refine Sl.kq_guard ?_; first | (refine Sl.q_guard_yes rfl ?_) | (refine Sl.q_guard_no rfl ?_; simp only [List.set_cons_succ, List.set_cons_zero, vOf_true, vOf_false, List.drop_succ_cons, List.drop_zero, List.take_succ_cons, List.take_zero, putD, Int.toNat_zero, Int.reduceToNat, Nat.mul_one, Nat.zero_add, Nat.add_zero, Nat.reduceMul, Nat.reduceAdd, Nat.zero_mul]))
             | ((first
                | (with_reducible refine Sl.kq_load ?_; (first
                  | refine q_qt (qt_load rfl _ BoxIn.h inX rfl rfl) ?_
                  | (refine q_ex (qt_ldp_int evX asX inX) ?_; rintro v ⟨rfl, hI⟩)
                  | refine q_qt (by first | exact qt_ldp_u8 evX asX inX | exact qt_ldp_bool evX asX inX) ?_
                  | (refine q_ex (qt_ldp_str evX asX inX) ?_; rintro v ⟨rfl, hs⟩)
                  | (refine q_ex (qt_ldp_list evX asX inX) ?_; rintro v ⟨hvl, hv1⟩)
                  | (refine q_ex (qt_ldp evX asX inX) ?_; rintro v ⟨cl, rfl, hcl⟩)
                  | refine q_qt (by first | exact qt_ldB evX asX SlIn.h inX omX | exact qt_ldI evX asX SlIn.h inX omX | exact qt_ld2 evX asX SlIn.h inX omX | exact qt_load_own evX asX SlIn.h inX rfl (by simp; omega) | exact qt_load rfl _ asX inX rfl rfl) ?_))
                | (with_reducible refine Sl.kq_field ?_; (first
                  | refine q_qt (qt_field rfl inX) ?_
                  | (refine q_ex (qt_fieldp evX asX inX inX rfl) ?_; rintro v hp; (try simp only [Int.toNat_natCast, Int.toNat_natCast_add_one, Int.reduceToNat] at hp))
                  | (refine q_ex (qt_field_own evX asX inX) ?_; rintro v hp; (try simp only [Int.toNat_natCast, Int.toNat_natCast_add_one, Int.reduceToNat] at hp))))
                | (with_reducible refine Sl.kq_index ?_; (first
                  | refine q_qt (qt_indexA rfl rfl inX inX omX omX) ?_
                  | (refine q_ex (qt_indexP0 evX asX rfl inX inX) ?_; rintro v hp; (try simp only [Int.toNat_natCast, Int.toNat_natCast_add_one, Int.reduceToNat] at hp))
                  | (refine q_ex (qt_indexP1 evX asX rfl inX inX) ?_; rintro v hp; (try simp only [Int.toNat_natCast, Int.toNat_natCast_add_one, Int.reduceToNat] at hp))
                  | (refine q_ex (qt_index evX asX rfl inX inX omX omX) ?_; rintro v hp; (try simp only [Int.toNat_natCast, Int.toNat_natCast_add_one, Int.reduceToNat] at hp))
                  | (refine q_ex (qt_indexAp evX asX rfl inX inX rfl omX omX) ?_; rintro v hp; (try simp only [Int.toNat_natCast, Int.toNat_natCast_add_one, Int.reduceToNat] at hp))
                  | (refine q_ex (qt_index_own hst evX SlIn.h rfl inX inX omX omX) ?_; rintro v hp; (try simp only [Int.toNat_natCast, Int.toNat_natCast_add_one, Int.reduceToNat] at hp))))
                | (with_reducible refine Sl.kq_call ?_; (first
                  | refine q_qt (by first | exact qt_len evX asX inX | exact qt_len_str evX inX | exact qt_len_own evX SlIn.h inX | exact qt_max rfl rfl | exact qt_min rfl rfl) ?_))
                | (refine Sl.kq_plain rfl ?_; (first
                  | (refine q_qt (qt_neqK rfl rfl (by assumption) (by assumption) inX inX inX) ?_)
                  | refine q_qt (by first | exact qt_move evX | exact qt_assign evX | exact qt_pick_t rfl evX | exact qt_pick_f rfl evX | exact qt_not rfl | exact qt_lss rfl rfl | exact qt_leq rfl rfl | exact qt_gtr rfl rfl | exact qt_geq rfl rfl | exact qt_eql rfl rfl | exact qt_neq rfl rfl | exact qt_add' rfl rfl omX | exact qt_sub' rfl rfl omX | exact qt_mul' rfl rfl omX) ?_))); (try simp only [List.set_cons_succ, List.set_cons_zero, vOf_true, vOf_false, List.drop_succ_cons, List.drop_zero, List.take_succ_cons, List.take_zero, putD, Int.toNat_zero, Int.reduceToNat, Nat.mul_one, Nat.zero_add, Nat.add_zero, Nat.reduceMul, Nat.reduceAdd, Nat.zero_mul]))
             | (refine Sl.kq_plain rfl ?_; first
                | (go_big_quiet_want; go_big_quiet_op; go_big_quiet_on)))
        refine q_nil ?_; clear hst; intro w hst
        by_cases he : a[k] = b[k]
        · have he' : (!decide (a[k] = b[k])) = false := by simp [he]
          have He := Lib.hid he; clear he
          simp only [he']
          repeat' (first
             | go_skip
             | (with_reducible refine Sl.k_guard ?_; (first | (refine Sl.guard_yes rfl ?_) | (refine Sl.guard_no rfl ?_) | (refine Sl.guard_cases rfl ?_ ?_ <;> intro hg <;> first | (exfalso; simp only [decide_eq_true_eq, decide_eq_false_iff_not, Bool.not_false, Bool.not_true, beq_iff_eq, beq_eq_false_iff_ne, ne_eq] at hg; omega) | (simp only [hg, Bool.not_true, Bool.not_false]))) <;> (try simp only [List.set_cons_succ, List.set_cons_zero, vOf_true, vOf_false, List.drop_succ_cons, List.drop_zero, List.take_succ_cons, List.take_zero, putD, Int.toNat_zero, Int.reduceToNat, Nat.mul_one, Nat.zero_add, Nat.add_zero, Nat.reduceMul, Nat.reduceAdd, Nat.zero_mul]))
             | ((fail_if_success (go_big_may)); (first | go_skip | go_guarded | go_step))
             | ((first
                  | (with_reducible refine Sl.k_load ?_; (first
                    | refine s_qt hst (qt_load rfl _ BoxIn.h inX rfl rfl) ?_
                    | (refine s_ex hst (qt_ldp_int evX asX inX) ?_; rintro v ⟨rfl, hI⟩)
                    | refine s_qt hst (by first | exact qt_ldp_u8 evX asX inX | exact qt_ldp_bool evX asX inX) ?_
                    | (refine s_ex hst (qt_ldp_str evX asX inX) ?_; rintro v ⟨rfl, hs⟩)
                    | (refine s_ex hst (qt_ldp_list evX asX inX) ?_; rintro v ⟨hvl, hv1⟩)
                    | (refine s_ex hst (qt_ldp evX asX inX) ?_; rintro v ⟨cl, rfl, hcl⟩)
                    | refine s_qt hst (by first | exact qt_ldB evX asX SlIn.h inX omX | exact qt_ldI evX asX SlIn.h inX omX | exact qt_ld2 evX asX SlIn.h inX omX | exact qt_load_own evX asX SlIn.h inX rfl (by simp; omega) | exact qt_load rfl _ asX inX rfl rfl) ?_))
                  | (with_reducible refine Sl.k_field ?_; (first
                    | refine s_qt hst (qt_field rfl inX) ?_
                    | (refine s_ex hst (qt_fieldp evX asX inX inX rfl) ?_; rintro v hp; (try simp only [Int.toNat_natCast, Int.toNat_natCast_add_one, Int.reduceToNat] at hp))
                    | (refine s_ex hst (qt_field_own evX asX inX) ?_; rintro v hp; (try simp only [Int.toNat_natCast, Int.toNat_natCast_add_one, Int.reduceToNat] at hp))))
                  | (with_reducible refine Sl.k_index ?_; (first
                    | refine s_qt hst (qt_indexA rfl rfl inX inX omX omX) ?_
                    | (refine s_ex hst (qt_indexP0 evX asX rfl inX inX) ?_; rintro v hp; (try simp only [Int.toNat_natCast, Int.toNat_natCast_add_one, Int.reduceToNat] at hp))
                    | (refine s_ex hst (qt_indexP1 evX asX rfl inX inX) ?_; rintro v hp; (try simp only [Int.toNat_natCast, Int.toNat_natCast_add_one, Int.reduceToNat] at hp))
                    | (refine s_ex hst (qt_index evX asX rfl inX inX omX omX) ?_; rintro v hp; (try simp only [Int.toNat_natCast, Int.toNat_natCast_add_one, Int.reduceToNat] at hp))
                    | (refine s_ex hst (qt_indexAp evX asX rfl inX inX rfl omX omX) ?_; rintro v hp; (try simp only [Int.toNat_natCast, Int.toNat_natCast_add_one, Int.reduceToNat] at hp))
                    | (refine s_ex hst (qt_index_own hst evX SlIn.h rfl inX inX omX omX) ?_; rintro v hp; (try simp only [Int.toNat_natCast, Int.toNat_natCast_add_one, Int.reduceToNat] at hp))))
                  | (with_reducible refine Sl.k_call ?_; (first
                    | refine s_qt hst (by first | exact qt_len evX asX inX | exact qt_len_str evX inX | exact qt_len_own evX SlIn.h inX | exact qt_max rfl rfl | exact qt_min rfl rfl) ?_))); simp only [List.set_cons_succ, List.set_cons_zero, vOf_true, vOf_false, List.drop_succ_cons, List.drop_zero, List.take_succ_cons, List.take_zero, putD, Int.toNat_zero, Int.reduceToNat, Nat.mul_one, Nat.zero_add, Nat.add_zero, Nat.reduceMul, Nat.reduceAdd, Nat.zero_mul])
             | (with_reducible refine Sl.gate rfl ?_; (first | go_skip | go_guarded | go_step))
             | ((first | (with_reducible refine Sl.k_store ?_; (first
                    | refine s_stR hst rfl BoxIn.h evX asX inX rfl rfl ?_
                    | refine s_store hst rfl _ BoxIn.h inX evX rfl lenOk oneOk (by simp) ?_
                    | refine s_st1 hst rfl BoxIn.h evX asX inX (by simp) ?_
                    | refine s_stB hst evX asX SlIn.h inX evX omX ?_
                    | refine s_stI hst evX asX SlIn.h inX evX omX ?_
                    | refine s_st2 hst evX asX SlIn.h inX evX omX ?_); clear hst; intro w hst) | (refine s_box hst evX rfl ?_; clear hst; intro bx w hst) | (refine s_alloc hst inX ?_; clear hst; intro bk w hst)); (try simp only [List.set_cons_succ, List.set_cons_zero, vOf_true, vOf_false, List.drop_succ_cons, List.drop_zero, List.take_succ_cons, List.take_zero, putD, Int.toNat_zero, Int.reduceToNat, Nat.mul_one, Nat.zero_add, Nat.add_zero, Nat.reduceMul, Nat.reduceAdd, Nat.zero_mul]); (try simp only [List.set_cons_succ, List.set_cons_zero, List.drop_succ_cons, List.drop_zero, List.take_succ_cons, List.take_zero, List.nil_append, List.cons_append, List.append_nil, Value.cells, List.eraseIdx_cons_zero, List.eraseIdx_cons_succ, Nat.zero_add, Nat.add_zero, List.flatten_cons, List.flatten_nil, List.map_cons, List.map_nil] at hst)))
          go_roundw
          case rel => exact ⟨k + 1, by omega, by go_num, (take_succ_eq Ht.out hlt hlb).2 He.out, hst⟩
          case measure => simp [intOf]; omega
        · have he' : (!decide (a[k] = b[k])) = true := by simp [he]
          simp only [he']
          repeat' (first
             | go_skip
             | (with_reducible refine Sl.k_guard ?_; (first | (refine Sl.guard_yes rfl ?_) | (refine Sl.guard_no rfl ?_) | (refine Sl.guard_cases rfl ?_ ?_ <;> intro hg <;> first | (exfalso; simp only [decide_eq_true_eq, decide_eq_false_iff_not, Bool.not_false, Bool.not_true, beq_iff_eq, beq_eq_false_iff_ne, ne_eq] at hg; omega) | (simp only [hg, Bool.not_true, Bool.not_false]))) <;> (try simp only [List.set_cons_succ, List.set_cons_zero, vOf_true, vOf_false, List.drop_succ_cons, List.drop_zero, List.take_succ_cons, List.take_zero, putD, Int.toNat_zero, Int.reduceToNat, Nat.mul_one, Nat.zero_add, Nat.add_zero, Nat.reduceMul, Nat.reduceAdd, Nat.zero_mul]))
             | ((fail_if_success (go_big_may)); (first | go_skip | go_guarded | go_step))
             | ((first
                  | (with_reducible refine Sl.k_load ?_; (first
                    | refine s_qt hst (qt_load rfl _ BoxIn.h inX rfl rfl) ?_
                    | (refine s_ex hst (qt_ldp_int evX asX inX) ?_; rintro v ⟨rfl, hI⟩)
                    | refine s_qt hst (by first | exact qt_ldp_u8 evX asX inX | exact qt_ldp_bool evX asX inX) ?_
                    | (refine s_ex hst (qt_ldp_str evX asX inX) ?_; rintro v ⟨rfl, hs⟩)
                    | (refine s_ex hst (qt_ldp_list evX asX inX) ?_; rintro v ⟨hvl, hv1⟩)
                    | (refine s_ex hst (qt_ldp evX asX inX) ?_; rintro v ⟨cl, rfl, hcl⟩)
                    | refine s_qt hst (by first | exact qt_ldB evX asX SlIn.h inX omX | exact qt_ldI evX asX SlIn.h inX omX | exact qt_ld2 evX asX SlIn.h inX omX | exact qt_load_own evX asX SlIn.h inX rfl (by simp; omega) | exact qt_load rfl _ asX inX rfl rfl) ?_))
                  | (with_reducible refine Sl.k_field ?_; (first
                    | refine s_qt hst (qt_field rfl inX) ?_
                    | (refine s_ex hst (qt_fieldp evX asX inX inX rfl) ?_; rintro v hp; (try simp only [Int.toNat_natCast, Int.toNat_natCast_add_one, Int.reduceToNat] at hp))
                    | (refine s_ex hst (qt_field_own evX asX inX) ?_; rintro v hp; (try simp only [Int.toNat_natCast, Int.toNat_natCast_add_one, Int.reduceToNat] at hp))))
                  | (with_reducible refine Sl.k_index ?_; (first
                    | refine s_qt hst (qt_indexA rfl rfl inX inX omX omX) ?_
                    | (refine s_ex hst (qt_indexP0 evX asX rfl inX inX) ?_; rintro v hp; (try simp only [Int.toNat_natCast, Int.toNat_natCast_add_one, Int.reduceToNat] at hp))
                    | (refine s_ex hst (qt_indexP1 evX asX rfl inX inX) ?_; rintro v hp; (try simp only [Int.toNat_natCast, Int.toNat_natCast_add_one, Int.reduceToNat] at hp))
                    | (refine s_ex hst (qt_index evX asX rfl inX inX omX omX) ?_; rintro v hp; (try simp only [Int.toNat_natCast, Int.toNat_natCast_add_one, Int.reduceToNat] at hp))
                    | (refine s_ex hst (qt_indexAp evX asX rfl inX inX rfl omX omX) ?_; rintro v hp; (try simp only [Int.toNat_natCast, Int.toNat_natCast_add_one, Int.reduceToNat] at hp))
                    | (refine s_ex hst (qt_index_own hst evX SlIn.h rfl inX inX omX omX) ?_; rintro v hp; (try simp only [Int.toNat_natCast, Int.toNat_natCast_add_one, Int.reduceToNat] at hp))))
                  | (with_reducible refine Sl.k_call ?_; (first
                    | refine s_qt hst (by first | exact qt_len evX asX inX | exact qt_len_str evX inX | exact qt_len_own evX SlIn.h inX | exact qt_max rfl rfl | exact qt_min rfl rfl) ?_))); simp only [List.set_cons_succ, List.set_cons_zero, vOf_true, vOf_false, List.drop_succ_cons, List.drop_zero, List.take_succ_cons, List.take_zero, putD, Int.toNat_zero, Int.reduceToNat, Nat.mul_one, Nat.zero_add, Nat.add_zero, Nat.reduceMul, Nat.reduceAdd, Nat.zero_mul])
             | (with_reducible refine Sl.gate rfl ?_; (first | go_skip | go_guarded | go_step))
             | ((first | (with_reducible refine Sl.k_store ?_; (first
                    | refine s_stR hst rfl BoxIn.h evX asX inX rfl rfl ?_
                    | refine s_store hst rfl _ BoxIn.h inX evX rfl lenOk oneOk (by simp) ?_
                    | refine s_st1 hst rfl BoxIn.h evX asX inX (by simp) ?_
                    | refine s_stB hst evX asX SlIn.h inX evX omX ?_
                    | refine s_stI hst evX asX SlIn.h inX evX omX ?_
                    | refine s_st2 hst evX asX SlIn.h inX evX omX ?_); clear hst; intro w hst) | (refine s_box hst evX rfl ?_; clear hst; intro bx w hst) | (refine s_alloc hst inX ?_; clear hst; intro bk w hst)); (try simp only [List.set_cons_succ, List.set_cons_zero, vOf_true, vOf_false, List.drop_succ_cons, List.drop_zero, List.take_succ_cons, List.take_zero, putD, Int.toNat_zero, Int.reduceToNat, Nat.mul_one, Nat.zero_add, Nat.add_zero, Nat.reduceMul, Nat.reduceAdd, Nat.zero_mul]); (try simp only [List.set_cons_succ, List.set_cons_zero, List.drop_succ_cons, List.drop_zero, List.take_succ_cons, List.take_zero, List.nil_append, List.cons_append, List.append_nil, Value.cells, List.eraseIdx_cons_zero, List.eraseIdx_cons_succ, Nat.zero_add, Nat.add_zero, List.flatten_cons, List.flatten_nil, List.map_cons, List.map_nil] at hst)))
          go_ret
          exact ⟨_, rfl, bool_no (by rintro rfl; exact he rfl), hst⟩
      · repeat' (first
           | go_skip
           | (with_reducible refine Sl.k_guard ?_; (first | (refine Sl.guard_yes rfl ?_) | (refine Sl.guard_no rfl ?_) | (refine Sl.guard_cases rfl ?_ ?_ <;> intro hg <;> first | (exfalso; simp only [decide_eq_true_eq, decide_eq_false_iff_not, Bool.not_false, Bool.not_true, beq_iff_eq, beq_eq_false_iff_ne, ne_eq] at hg; omega) | (simp only [hg, Bool.not_true, Bool.not_false]))) <;> (try simp only [List.set_cons_succ, List.set_cons_zero, vOf_true, vOf_false, List.drop_succ_cons, List.drop_zero, List.take_succ_cons, List.take_zero, putD, Int.toNat_zero, Int.reduceToNat, Nat.mul_one, Nat.zero_add, Nat.add_zero, Nat.reduceMul, Nat.reduceAdd, Nat.zero_mul]))
           | ((fail_if_success (go_big_may)); (first | go_skip | go_guarded | go_step))
           | ((first
                | (with_reducible refine Sl.k_load ?_; (first
                  | refine s_qt hst (qt_load rfl _ BoxIn.h inX rfl rfl) ?_
                  | (refine s_ex hst (qt_ldp_int evX asX inX) ?_; rintro v ⟨rfl, hI⟩)
                  | refine s_qt hst (by first | exact qt_ldp_u8 evX asX inX | exact qt_ldp_bool evX asX inX) ?_
                  | (refine s_ex hst (qt_ldp_str evX asX inX) ?_; rintro v ⟨rfl, hs⟩)
                  | (refine s_ex hst (qt_ldp_list evX asX inX) ?_; rintro v ⟨hvl, hv1⟩)
                  | (refine s_ex hst (qt_ldp evX asX inX) ?_; rintro v ⟨cl, rfl, hcl⟩)
                  | refine s_qt hst (by first | exact qt_ldB evX asX SlIn.h inX omX | exact qt_ldI evX asX SlIn.h inX omX | exact qt_ld2 evX asX SlIn.h inX omX | exact qt_load_own evX asX SlIn.h inX rfl (by simp; omega) | exact qt_load rfl _ asX inX rfl rfl) ?_))
                | (with_reducible refine Sl.k_field ?_; (first
                  | refine s_qt hst (qt_field rfl inX) ?_
                  | (refine s_ex hst (qt_fieldp evX asX inX inX rfl) ?_; rintro v hp; (try simp only [Int.toNat_natCast, Int.toNat_natCast_add_one, Int.reduceToNat] at hp))
                  | (refine s_ex hst (qt_field_own evX asX inX) ?_; rintro v hp; (try simp only [Int.toNat_natCast, Int.toNat_natCast_add_one, Int.reduceToNat] at hp))))
                | (with_reducible refine Sl.k_index ?_; (first
                  | refine s_qt hst (qt_indexA rfl rfl inX inX omX omX) ?_
                  | (refine s_ex hst (qt_indexP0 evX asX rfl inX inX) ?_; rintro v hp; (try simp only [Int.toNat_natCast, Int.toNat_natCast_add_one, Int.reduceToNat] at hp))
                  | (refine s_ex hst (qt_indexP1 evX asX rfl inX inX) ?_; rintro v hp; (try simp only [Int.toNat_natCast, Int.toNat_natCast_add_one, Int.reduceToNat] at hp))
                  | (refine s_ex hst (qt_index evX asX rfl inX inX omX omX) ?_; rintro v hp; (try simp only [Int.toNat_natCast, Int.toNat_natCast_add_one, Int.reduceToNat] at hp))
                  | (refine s_ex hst (qt_indexAp evX asX rfl inX inX rfl omX omX) ?_; rintro v hp; (try simp only [Int.toNat_natCast, Int.toNat_natCast_add_one, Int.reduceToNat] at hp))
                  | (refine s_ex hst (qt_index_own hst evX SlIn.h rfl inX inX omX omX) ?_; rintro v hp; (try simp only [Int.toNat_natCast, Int.toNat_natCast_add_one, Int.reduceToNat] at hp))))
                | (with_reducible refine Sl.k_call ?_; (first
                  | refine s_qt hst (by first | exact qt_len evX asX inX | exact qt_len_str evX inX | exact qt_len_own evX SlIn.h inX | exact qt_max rfl rfl | exact qt_min rfl rfl) ?_))); simp only [List.set_cons_succ, List.set_cons_zero, vOf_true, vOf_false, List.drop_succ_cons, List.drop_zero, List.take_succ_cons, List.take_zero, putD, Int.toNat_zero, Int.reduceToNat, Nat.mul_one, Nat.zero_add, Nat.add_zero, Nat.reduceMul, Nat.reduceAdd, Nat.zero_mul])
           | (with_reducible refine Sl.gate rfl ?_; (first | go_skip | go_guarded | go_step))
           | ((first | (with_reducible refine Sl.k_store ?_; (first
                  | refine s_stR hst rfl BoxIn.h evX asX inX rfl rfl ?_
                  | refine s_store hst rfl _ BoxIn.h inX evX rfl lenOk oneOk (by simp) ?_
                  | refine s_st1 hst rfl BoxIn.h evX asX inX (by simp) ?_
                  | refine s_stB hst evX asX SlIn.h inX evX omX ?_
                  | refine s_stI hst evX asX SlIn.h inX evX omX ?_
                  | refine s_st2 hst evX asX SlIn.h inX evX omX ?_); clear hst; intro w hst) | (refine s_box hst evX rfl ?_; clear hst; intro bx w hst) | (refine s_alloc hst inX ?_; clear hst; intro bk w hst)); (try simp only [List.set_cons_succ, List.set_cons_zero, vOf_true, vOf_false, List.drop_succ_cons, List.drop_zero, List.take_succ_cons, List.take_zero, putD, Int.toNat_zero, Int.reduceToNat, Nat.mul_one, Nat.zero_add, Nat.add_zero, Nat.reduceMul, Nat.reduceAdd, Nat.zero_mul]); (try simp only [List.set_cons_succ, List.set_cons_zero, List.drop_succ_cons, List.drop_zero, List.take_succ_cons, List.take_zero, List.nil_append, List.cons_append, List.append_nil, Value.cells, List.eraseIdx_cons_zero, List.eraseIdx_cons_succ, Nat.zero_add, Nat.add_zero, List.flatten_cons, List.flatten_nil, List.map_cons, List.map_nil] at hst)))
        go_ret
        exact ⟨_, rfl, bool_yes (by have h1 := Ht.out; have h2 := Hl.out; rwa [List.take_of_length_le (by omega), List.take_of_length_le (by omega)] at h1), hst⟩
  · have hd : (((a.length : Int)) != (b.length : Int)) = true := by simp; omega
    go_enter Try.func30, Try.ntmps30
    repeat' (first
       | go_skip
       | (with_reducible refine Sl.k_guard ?_; (first | (refine Sl.guard_yes rfl ?_) | (refine Sl.guard_no rfl ?_) | (refine Sl.guard_cases rfl ?_ ?_ <;> intro hg <;> first | (exfalso; simp only [decide_eq_true_eq, decide_eq_false_iff_not, Bool.not_false, Bool.not_true, beq_iff_eq, beq_eq_false_iff_ne, ne_eq] at hg; omega) | (simp only [hg, Bool.not_true, Bool.not_false]))) <;> (try simp only [List.set_cons_succ, List.set_cons_zero, vOf_true, vOf_false, List.drop_succ_cons, List.drop_zero, List.take_succ_cons, List.take_zero, putD, Int.toNat_zero, Int.reduceToNat, Nat.mul_one, Nat.zero_add, Nat.add_zero, Nat.reduceMul, Nat.reduceAdd, Nat.zero_mul]))
       | ((fail_if_success (go_big_may)); (first | go_skip | go_guarded | go_step))
       | ((first
            | (with_reducible refine Sl.k_load ?_; (first
              | refine s_qt hst (qt_load rfl _ BoxIn.h inX rfl rfl) ?_
              | (refine s_ex hst (qt_ldp_int evX asX inX) ?_; rintro v ⟨rfl, hI⟩)
              | refine s_qt hst (by first | exact qt_ldp_u8 evX asX inX | exact qt_ldp_bool evX asX inX) ?_
              | (refine s_ex hst (qt_ldp_str evX asX inX) ?_; rintro v ⟨rfl, hs⟩)
              | (refine s_ex hst (qt_ldp_list evX asX inX) ?_; rintro v ⟨hvl, hv1⟩)
              | (refine s_ex hst (qt_ldp evX asX inX) ?_; rintro v ⟨cl, rfl, hcl⟩)
              | refine s_qt hst (by first | exact qt_ldB evX asX SlIn.h inX omX | exact qt_ldI evX asX SlIn.h inX omX | exact qt_ld2 evX asX SlIn.h inX omX | exact qt_load_own evX asX SlIn.h inX rfl (by simp; omega) | exact qt_load rfl _ asX inX rfl rfl) ?_))
            | (with_reducible refine Sl.k_field ?_; (first
              | refine s_qt hst (qt_field rfl inX) ?_
              | (refine s_ex hst (qt_fieldp evX asX inX inX rfl) ?_; rintro v hp; (try simp only [Int.toNat_natCast, Int.toNat_natCast_add_one, Int.reduceToNat] at hp))
              | (refine s_ex hst (qt_field_own evX asX inX) ?_; rintro v hp; (try simp only [Int.toNat_natCast, Int.toNat_natCast_add_one, Int.reduceToNat] at hp))))
            | (with_reducible refine Sl.k_index ?_; (first
              | refine s_qt hst (qt_indexA rfl rfl inX inX omX omX) ?_
              | (refine s_ex hst (qt_indexP0 evX asX rfl inX inX) ?_; rintro v hp; (try simp only [Int.toNat_natCast, Int.toNat_natCast_add_one, Int.reduceToNat] at hp))
              | (refine s_ex hst (qt_indexP1 evX asX rfl inX inX) ?_; rintro v hp; (try simp only [Int.toNat_natCast, Int.toNat_natCast_add_one, Int.reduceToNat] at hp))
              | (refine s_ex hst (qt_index evX asX rfl inX inX omX omX) ?_; rintro v hp; (try simp only [Int.toNat_natCast, Int.toNat_natCast_add_one, Int.reduceToNat] at hp))
              | (refine s_ex hst (qt_indexAp evX asX rfl inX inX rfl omX omX) ?_; rintro v hp; (try simp only [Int.toNat_natCast, Int.toNat_natCast_add_one, Int.reduceToNat] at hp))
              | (refine s_ex hst (qt_index_own hst evX SlIn.h rfl inX inX omX omX) ?_; rintro v hp; (try simp only [Int.toNat_natCast, Int.toNat_natCast_add_one, Int.reduceToNat] at hp))))
            | (with_reducible refine Sl.k_call ?_; (first
              | refine s_qt hst (by first | exact qt_len evX asX inX | exact qt_len_str evX inX | exact qt_len_own evX SlIn.h inX | exact qt_max rfl rfl | exact qt_min rfl rfl) ?_))); simp only [List.set_cons_succ, List.set_cons_zero, vOf_true, vOf_false, List.drop_succ_cons, List.drop_zero, List.take_succ_cons, List.take_zero, putD, Int.toNat_zero, Int.reduceToNat, Nat.mul_one, Nat.zero_add, Nat.add_zero, Nat.reduceMul, Nat.reduceAdd, Nat.zero_mul])
       | (with_reducible refine Sl.gate rfl ?_; (first | go_skip | go_guarded | go_step))
       | ((first | (with_reducible refine Sl.k_store ?_; (first
              | refine s_stR hst rfl BoxIn.h evX asX inX rfl rfl ?_
              | refine s_store hst rfl _ BoxIn.h inX evX rfl lenOk oneOk (by simp) ?_
              | refine s_st1 hst rfl BoxIn.h evX asX inX (by simp) ?_
              | refine s_stB hst evX asX SlIn.h inX evX omX ?_
              | refine s_stI hst evX asX SlIn.h inX evX omX ?_
              | refine s_st2 hst evX asX SlIn.h inX evX omX ?_); clear hst; intro w hst) | (refine s_box hst evX rfl ?_; clear hst; intro bx w hst) | (refine s_alloc hst inX ?_; clear hst; intro bk w hst)); (try simp only [List.set_cons_succ, List.set_cons_zero, vOf_true, vOf_false, List.drop_succ_cons, List.drop_zero, List.take_succ_cons, List.take_zero, putD, Int.toNat_zero, Int.reduceToNat, Nat.mul_one, Nat.zero_add, Nat.add_zero, Nat.reduceMul, Nat.reduceAdd, Nat.zero_mul]); (try simp only [List.set_cons_succ, List.set_cons_zero, List.drop_succ_cons, List.drop_zero, List.take_succ_cons, List.take_zero, List.nil_append, List.cons_append, List.append_nil, Value.cells, List.eraseIdx_cons_zero, List.eraseIdx_cons_succ, Nat.zero_add, Nat.add_zero, List.flatten_cons, List.flatten_nil, List.map_cons, List.map_nil] at hst)))
    go_ret
    exact ⟨_, rfl, bool_no (by rintro rfl; exact hl rfl), hst⟩
end Go.Proofs.Ytphobngmankpeaa
