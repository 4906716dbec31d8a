/- Package slot: a law's transition; SlotValid and SlotKeepsConfirmed, walked. -/
import Derived.Test.YtncffjdmcalioaaSj
import Derived.Test.YtncffjdmcalioaaSf
import Derived.Test.YtncffjdmcalioaaSn
import Derived.Test.YtncffjdmcalioaaSlO
--@idxv
--@hgp
--@flat
namespace Go.Proofs.Ytncffjdmcalioaa
set_option linter.unusedSimpArgs false
set_option linter.unusedVariables false
open Go.RowKit Go.Sl

/-- One move: which, at which slot, with which version. -/
def mvM (x y : Sx) (k s v : Int) : Sx × Sx × Int :=
  if k = 0 then clearM x y s else if k = 1 then stageM x y s v else if k = 2 then beginM x y s else if k = 3 then confM x y s else failM x y s
def moveM (x y : Sx) (k s v : UInt8) : Sx × Sx × Int := mvM x y ((k.toNat : Int) % 5) ((s.toNat : Int) % 2) (1 + (v.toNat : Int) % 16)

abbrev mvV (k s v : UInt8) : Value := .agg #[.int .u8 k.toNat, .int .u8 s.toNat, .int .u8 v.toNat]

set_option maxRecDepth 8000 in
set_option maxHeartbeats 4000000 in
theorem lapply_c {S M} (w : World) (hst : St S M w) (x y : Sx) (k s v : UInt8) :
    Rets Try.prog 31 [stV x y, mvV k s v] w fun r w' => r = resV (moveM x y k s v) ∧ St S M w' := by
  unfold Rets
  have hk := k.toNat_lt
  have hs := s.toNat_lt
  have hv := v.toNat_lt
  go_enter Try.func31, Try.ntmps31
  repeat' (first | go_skip | ((first | (with_reducible refine Sl.k_guard ?_; (first | (refine Sl.guard_yes rfl ?_) | (refine Sl.guard_no rfl ?_) | (refine Sl.guard_cases rfl ?_ ?_ <;> intro hg <;> first | (exfalso; simp only [decide_eq_true_eq, decide_eq_false_iff_not, Bool.not_false, Bool.not_true, beq_iff_eq, beq_eq_false_iff_ne, ne_eq] at hg; omega) | (simp only [hg, Bool.not_true, Bool.not_false])) <;> (try simp only [decide_eq_true_eq, decide_eq_false_iff_not, Bool.not_false, Bool.not_true, beq_iff_eq, beq_eq_false_iff_ne, bne_iff_ne, bne_eq_false_iff_eq, ne_eq] at hg))) | (with_reducible refine Sl.k_indexV ?_; (first | refine s_qt hst (by first | exact qt_indexV evX evX inX inX omX omX rfl rfl | exact qt_indexS evX evX StrT.u omX omX) ?_))) <;> (try simp only [List.set_cons_succ, List.set_cons_zero, vOf_true, vOf_false, List.drop_succ_cons, List.drop_zero, List.take_succ_cons, List.take_zero, putD, Int.toNat_zero, Int.reduceToNat, Nat.mul_one, Nat.zero_add, Nat.add_zero, Nat.reduceMul, Nat.reduceAdd, Nat.zero_mul, Int.reduceSub, Int.reduceAdd, Int.reduceMul, Int.reduceNeg, Bool.not_true, Bool.not_false])) | ((first | (with_reducible refine Sl.k_call ?_; (first | (refine s_call (clear_c _ hst x y ((s.toNat : Int) % 2)) inX rfl ?_; clear hst; rintro v w ⟨rfl, hst⟩) | (refine s_call (stage_c _ hst x y ((s.toNat : Int) % 2) (1 + (v.toNat : Int) % 16)) inX rfl ?_; clear hst; rintro v w ⟨rfl, hst⟩) | (refine s_call (begin_c _ hst x y ((s.toNat : Int) % 2)) inX rfl ?_; clear hst; rintro v w ⟨rfl, hst⟩) | (refine s_call (confirm_c _ hst x y ((s.toNat : Int) % 2)) inX rfl ?_; clear hst; rintro v w ⟨rfl, hst⟩) | (refine s_call (fail_c _ hst x y ((s.toNat : Int) % 2)) inX rfl ?_; clear hst; rintro v w ⟨rfl, hst⟩)))) <;> (try simp only [List.set_cons_succ, List.set_cons_zero, vOf_true, vOf_false, List.drop_succ_cons, List.drop_zero, List.take_succ_cons, List.take_zero, putD, Int.toNat_zero, Int.reduceToNat, Nat.mul_one, Nat.zero_add, Nat.add_zero, Nat.reduceMul, Nat.reduceAdd, Nat.zero_mul, Int.reduceSub, Int.reduceAdd, Int.reduceMul, Int.reduceNeg, Bool.not_true, Bool.not_false]) <;> (try simp only [List.set_cons_succ, List.set_cons_zero, List.drop_succ_cons, List.drop_zero, List.take_succ_cons, List.take_zero, List.nil_append, List.cons_append, List.append_nil, Value.cells, List.eraseIdx_cons_zero, List.eraseIdx_cons_succ, Nat.zero_add, Nat.add_zero, List.flatten_cons, List.flatten_nil, List.map_cons, List.map_nil] at hst)) | ((fail_if_success (go_big_may)); (first | go_skip | go_guarded | go_step)) | ((first | (with_reducible refine Sl.k_load ?_; (first | refine s_qt hst (by first | exact qt_load rfl _ BoxIn.h inX rfl rfl | exact qt_ldp_flat evX asX inX inX rfl) ?_ | (refine s_ex hst (qt_ldp_int evX asX inX) ?_; rintro v ⟨rfl, hI⟩) | refine s_qt hst (by first | exact qt_ldp_u8 evX asX inX | exact qt_ldp_bool evX asX inX) ?_ | (refine s_ex hst (qt_ldp_str evX asX inX) ?_; rintro v ⟨rfl, hs⟩) | (refine s_ex hst (qt_ldp_list evX asX inX) ?_; rintro v ⟨hvl, hv1⟩) | (refine s_ex hst (qt_ldp evX asX inX) ?_; rintro v ⟨cl, rfl, hcl⟩) | refine s_qt hst (by first | exact qt_ldB evX asX SlIn.h inX omX | exact qt_ldI evX asX SlIn.h inX omX | exact qt_ld2 evX asX SlIn.h inX omX | exact qt_load_own evX asX SlIn.h inX rfl (by simp <;> omega) | exact qt_load rfl _ asX inX rfl rfl) ?_)) | (with_reducible refine Sl.k_field ?_; (first | refine s_qt hst (qt_field rfl inX) ?_ | ((first | refine s_ex hst (qt_fieldp evX asX inX inX rfl) ?_ | refine s_ex hst (qt_field_own evX asX inX) ?_); rintro v hp; (try simp only [Int.toNat_natCast, Int.toNat_natCast_add_one, Int.reduceToNat] at hp)))) | (with_reducible refine Sl.k_index ?_; (first | refine s_qt hst (qt_indexA rfl rfl inX inX omX omX) ?_ | ((first | refine s_ex hst (qt_indexP0 evX asX rfl inX inX) ?_ | refine s_ex hst (qt_indexP1 evX asX rfl inX inX) ?_ | refine s_ex hst (qt_index evX asX rfl inX inX omX omX) ?_ | refine s_ex hst (qt_indexAp evX asX rfl inX inX rfl omX omX) ?_ | refine s_ex hst (qt_index_own hst evX SlIn.h rfl inX inX omX omX) ?_); rintro v hp; (try simp only [Int.toNat_natCast, Int.toNat_natCast_add_one, Int.reduceToNat] at hp)))) | (with_reducible refine Sl.k_call ?_; (first | refine s_qt hst (by first | exact qt_len evX asX inX | exact qt_len_str evX inX | exact qt_len_own evX SlIn.h inX | exact qt_max rfl rfl | exact qt_min rfl rfl) ?_))) <;> (try simp only [List.set_cons_succ, List.set_cons_zero, vOf_true, vOf_false, List.drop_succ_cons, List.drop_zero, List.take_succ_cons, List.take_zero, putD, Int.toNat_zero, Int.reduceToNat, Nat.mul_one, Nat.zero_add, Nat.add_zero, Nat.reduceMul, Nat.reduceAdd, Nat.zero_mul, Int.reduceSub, Int.reduceAdd, Int.reduceMul, Int.reduceNeg, Bool.not_true, Bool.not_false])) | (with_reducible refine Sl.gate rfl ?_; (first | go_skip | go_guarded | go_step)) | ((first | ((first | (with_reducible refine Sl.k_store ?_; (first | refine s_stR hst rfl BoxIn.h evX asX inX rfl rfl ?_ | refine s_store hst rfl _ BoxIn.h inX evX rfl lenOk oneOk (by simp) ?_ | refine s_st1 hst rfl BoxIn.h evX asX inX (by simp) ?_ | refine s_stB hst evX asX SlIn.h inX evX omX ?_ | refine s_stI hst evX asX SlIn.h inX evX omX ?_ | refine s_st2 hst evX asX SlIn.h inX evX omX ?_); clear hst; intro w hst) | (refine s_box hst evX rfl ?_; clear hst; intro bx w hst) | (refine s_alloc hst inX ?_; clear hst; intro bk w hst)))) <;> (try simp only [List.set_cons_succ, List.set_cons_zero, vOf_true, vOf_false, List.drop_succ_cons, List.drop_zero, List.take_succ_cons, List.take_zero, putD, Int.toNat_zero, Int.reduceToNat, Nat.mul_one, Nat.zero_add, Nat.add_zero, Nat.reduceMul, Nat.reduceAdd, Nat.zero_mul, Int.reduceSub, Int.reduceAdd, Int.reduceMul, Int.reduceNeg, Bool.not_true, Bool.not_false]) <;> (try simp only [List.set_cons_succ, List.set_cons_zero, List.drop_succ_cons, List.drop_zero, List.take_succ_cons, List.take_zero, List.nil_append, List.cons_append, List.append_nil, Value.cells, List.eraseIdx_cons_zero, List.eraseIdx_cons_succ, Nat.zero_add, Nat.add_zero, List.flatten_cons, List.flatten_nil, List.map_cons, List.map_nil] at hst)))
  · refine ret_two rfl (rv_cell hst rfl _ BoxIn.h inX rfl rfl) (rv_tmp rfl) ?_; (try simp only [nth, List.drop_zero, List.drop_succ_cons, List.take_succ_cons, List.take_zero, vOf_true, vOf_false])
    exact ⟨_, rfl, by rw [moveM, mvM, if_pos (by simp_all)], (by first | exact hst | exact hst.drop | exact hst.drop.drop | exact hst.drop.drop.drop | exact hst.drop.drop.drop.drop | exact hst.drop.drop.drop.drop.drop | exact hst.drop.drop.drop.drop.drop.drop | exact hst.drop.drop.drop.drop.drop.drop.drop | exact hst.drop.drop.drop.drop.drop.drop.drop.drop | exact hst.drop.drop.drop.drop.drop.drop.drop.drop.drop | exact hst.drop.drop.drop.drop.drop.drop.drop.drop.drop.drop | exact hst.drop.drop.drop.drop.drop.drop.drop.drop.drop.drop.drop | exact hst.drop.drop.drop.drop.drop.drop.drop.drop.drop.drop.drop.drop | exact hst.drop.drop.drop.drop.drop.drop.drop.drop.drop.drop.drop.drop.drop)⟩
  · refine ret_two rfl (rv_cell hst rfl _ BoxIn.h inX rfl rfl) (rv_tmp rfl) ?_; (try simp only [nth, List.drop_zero, List.drop_succ_cons, List.take_succ_cons, List.take_zero, vOf_true, vOf_false])
    exact ⟨_, rfl, by rw [moveM, mvM, if_neg (by simp_all), if_pos (by simp_all)], (by first | exact hst | exact hst.drop | exact hst.drop.drop | exact hst.drop.drop.drop | exact hst.drop.drop.drop.drop | exact hst.drop.drop.drop.drop.drop | exact hst.drop.drop.drop.drop.drop.drop | exact hst.drop.drop.drop.drop.drop.drop.drop | exact hst.drop.drop.drop.drop.drop.drop.drop.drop | exact hst.drop.drop.drop.drop.drop.drop.drop.drop.drop | exact hst.drop.drop.drop.drop.drop.drop.drop.drop.drop.drop | exact hst.drop.drop.drop.drop.drop.drop.drop.drop.drop.drop.drop | exact hst.drop.drop.drop.drop.drop.drop.drop.drop.drop.drop.drop.drop | exact hst.drop.drop.drop.drop.drop.drop.drop.drop.drop.drop.drop.drop.drop)⟩
  · refine ret_two rfl (rv_cell hst rfl _ BoxIn.h inX rfl rfl) (rv_tmp rfl) ?_; (try simp only [nth, List.drop_zero, List.drop_succ_cons, List.take_succ_cons, List.take_zero, vOf_true, vOf_false])
    exact ⟨_, rfl, by rw [moveM, mvM, if_neg (by simp_all), if_neg (by simp_all), if_pos (by simp_all)], (by first | exact hst | exact hst.drop | exact hst.drop.drop | exact hst.drop.drop.drop | exact hst.drop.drop.drop.drop | exact hst.drop.drop.drop.drop.drop | exact hst.drop.drop.drop.drop.drop.drop | exact hst.drop.drop.drop.drop.drop.drop.drop | exact hst.drop.drop.drop.drop.drop.drop.drop.drop | exact hst.drop.drop.drop.drop.drop.drop.drop.drop.drop | exact hst.drop.drop.drop.drop.drop.drop.drop.drop.drop.drop | exact hst.drop.drop.drop.drop.drop.drop.drop.drop.drop.drop.drop | exact hst.drop.drop.drop.drop.drop.drop.drop.drop.drop.drop.drop.drop | exact hst.drop.drop.drop.drop.drop.drop.drop.drop.drop.drop.drop.drop.drop)⟩
  · refine ret_two rfl (rv_cell hst rfl _ BoxIn.h inX rfl rfl) (rv_tmp rfl) ?_; (try simp only [nth, List.drop_zero, List.drop_succ_cons, List.take_succ_cons, List.take_zero, vOf_true, vOf_false])
    exact ⟨_, rfl, by rw [moveM, mvM, if_neg (by simp_all), if_neg (by simp_all), if_neg (by simp_all), if_pos (by simp_all)], (by first | exact hst | exact hst.drop | exact hst.drop.drop | exact hst.drop.drop.drop | exact hst.drop.drop.drop.drop | exact hst.drop.drop.drop.drop.drop | exact hst.drop.drop.drop.drop.drop.drop | exact hst.drop.drop.drop.drop.drop.drop.drop | exact hst.drop.drop.drop.drop.drop.drop.drop.drop | exact hst.drop.drop.drop.drop.drop.drop.drop.drop.drop | exact hst.drop.drop.drop.drop.drop.drop.drop.drop.drop.drop | exact hst.drop.drop.drop.drop.drop.drop.drop.drop.drop.drop.drop | exact hst.drop.drop.drop.drop.drop.drop.drop.drop.drop.drop.drop.drop | exact hst.drop.drop.drop.drop.drop.drop.drop.drop.drop.drop.drop.drop.drop)⟩
  · refine ret_two rfl (rv_cell hst rfl _ BoxIn.h inX rfl rfl) (rv_tmp rfl) ?_; (try simp only [nth, List.drop_zero, List.drop_succ_cons, List.take_succ_cons, List.take_zero, vOf_true, vOf_false])
    exact ⟨_, rfl, by rw [moveM, mvM, if_neg (by simp_all), if_neg (by simp_all), if_neg (by simp_all), if_neg (by simp_all)], (by first | exact hst | exact hst.drop | exact hst.drop.drop | exact hst.drop.drop.drop | exact hst.drop.drop.drop.drop | exact hst.drop.drop.drop.drop.drop | exact hst.drop.drop.drop.drop.drop.drop | exact hst.drop.drop.drop.drop.drop.drop.drop | exact hst.drop.drop.drop.drop.drop.drop.drop.drop | exact hst.drop.drop.drop.drop.drop.drop.drop.drop.drop | exact hst.drop.drop.drop.drop.drop.drop.drop.drop.drop.drop | exact hst.drop.drop.drop.drop.drop.drop.drop.drop.drop.drop.drop | exact hst.drop.drop.drop.drop.drop.drop.drop.drop.drop.drop.drop.drop | exact hst.drop.drop.drop.drop.drop.drop.drop.drop.drop.drop.drop.drop.drop)⟩

theorem ok2i {x y : Sx} : ok2 x y = true ↔ x.ok ∧ y.ok := by unfold ok2; exact decide_eq_true_iff

/-- What every transition keeps. -/
structure Fine (x y : Sx) (s : Int) (r : Sx × Sx × Int) : Prop where
  ok : ok2 r.1 r.2.1 = true
  other0 : s = 0 → r.2.1 = y
  other1 : s = 1 → r.1 = x
  same : r.2.2 ≠ 0 → r.1 = x ∧ r.2.1 = y

theorem ap_fine {x y : Sx} {s : Int} {may : Sx → Sx → Bool} {next : Sx → Sx} (h : ok2 x y = true) (hn : ∀ p q, p.ok → may p q = true → (next p).ok) : Fine x y s (ap x y s may next) := by
  obtain ⟨hx, hy⟩ := ok2i.1 h
  unfold ap
  split
  · exact ⟨h, fun _ => rfl, fun _ => rfl, fun _ => ⟨rfl, rfl⟩⟩
  · split
    · split
      · rename_i hm; exact ⟨ok2i.2 ⟨hn _ _ hx hm, hy⟩, fun _ => rfl, fun e => by omega, fun e => (e rfl).elim⟩
      · exact ⟨h, fun _ => rfl, fun _ => rfl, fun _ => ⟨rfl, rfl⟩⟩
    · split
      · rename_i hm; exact ⟨ok2i.2 ⟨hx, hn _ _ hy hm⟩, fun e => by omega, fun _ => rfl, fun e => (e rfl).elim⟩
      · exact ⟨h, fun _ => rfl, fun _ => rfl, fun _ => ⟨rfl, rfl⟩⟩
theorem mv_fine {x y : Sx} {k s v : Int} (h : ok2 x y = true) (hv : 1 ≤ v ∧ v ≤ 16) : Fine x y s (mvM x y k s v) := by
  unfold mvM
  split
  · exact ap_fine h fun _ _ _ _ => by simp [Sx.ok]
  split
  · rw [stageM, if_neg (by omega)]
    exact ap_fine h fun _ _ _ _ => by simp only [Sx.ok]; omega
  split
  · exact ap_fine h fun p q hp hm => by simp only [pend, Bool.and_eq_true, decide_eq_true_eq] at hm; simp only [Sx.ok] at hp ⊢; omega
  split
  · exact ap_fine h fun p q hp hm => by simp only [Sx.ok] at hp ⊢; omega
  · exact ap_fine h fun p q hp hm => by simp only [Sx.ok] at hp ⊢; omega

/-- Some slot is confirmed, and stays so. -/
theorem ap_keeps {x y : Sx} {s : Int} {may : Sx → Sx → Bool} {next : Sx → Sx} (hc : (conf x || conf y) = true)
    (hn : ∀ p q, (conf p || conf q) = true → ((s = 0 ∧ p = x) ∨ (s = 1 ∧ p = y)) → may p q = true → (conf (next p) || conf q) = true) : (conf (ap x y s may next).1 || conf (ap x y s may next).2.1) = true := by
  unfold ap
  split
  · exact hc
  · split
    · split
      · rename_i h0 hm; exact hn _ _ hc (.inl ⟨h0, rfl⟩) hm
      · exact hc
    · split
      · rename_i h0 hm
        have := hn y x (by rw [Bool.or_comm]; exact hc) (.inr ⟨by omega, rfl⟩) hm
        rwa [Bool.or_comm] at this
      · exact hc
theorem mv_keeps {x y : Sx} {k s v : Int} (hc : (conf x || conf y) = true) (hk : 0 ≤ k ∧ k < 5) (hv : 1 ≤ v ∧ v ≤ 16) (hnf : k = 4 → (s = 0 → conf x = false) ∧ (s = 1 → conf y = false)) :
    (conf (mvM x y k s v).1 || conf (mvM x y k s v).2.1) = true := by
  unfold mvM
  split
  · refine ap_keeps hc fun p q h _ hm => ?_
    simp only [repl] at hm
    revert h hm
    cases conf p <;> cases conf q <;> simp
  split
  · rw [stageM, if_neg (by omega)]
    refine ap_keeps hc fun p q h _ hm => ?_
    simp only [repl] at hm
    revert h hm
    cases conf p <;> cases conf q <;> simp
  split
  · refine ap_keeps hc fun p q h _ hm => ?_
    have hp : conf p = false := by
      simp only [pend, Bool.and_eq_true, Bool.or_eq_true, beq_iff_eq, decide_eq_true_eq] at hm
      simp only [conf, beq_eq_false_iff_ne]
      omega
    rw [hp] at h
    simp only [Bool.false_or] at h
    simp [h]
  split
  · exact ap_keeps hc fun p q h _ hm => by simp [conf]
  · refine ap_keeps hc fun p q h hw hm => ?_
    have hp : conf p = false := by
      obtain ⟨h0, h1⟩ := hnf (by omega)
      rcases hw with ⟨e, rfl⟩ | ⟨e, rfl⟩
      · exact h0 e
      · exact h1 e
    rw [hp] at h
    simp only [Bool.false_or] at h
    simp [h]

instance iT3 : IntT Try.prog 3 .i64 := ⟨by kernel_rfl⟩
instance iT5 : IntT Try.prog 5 .u8 := ⟨by kernel_rfl⟩
instance flat_mv : FlatC TMv (fun p => [.int .u8 (p.1.toNat : Nat), .int .u8 (p.2.1.toNat : Nat), .int .u8 (p.2.2.1.toNat : Nat)]) := ⟨fun {S cs p} h => by
  obtain ⟨a, b, c, u⟩ := p
  obtain ⟨c1, r1, e1, h1, g1⟩ := prod_cells h
  obtain ⟨c2, r2, e2, h2, g2⟩ := prod_cells g1
  obtain ⟨c3, r3, e3, h3, g3⟩ := prod_cells g2
  obtain rfl : r3 = [] := g3
  obtain rfl : c1 = [.int .u8 (a.toNat : Nat)] := h1
  obtain rfl : c2 = [.int .u8 (b.toNat : Nat)] := h2
  obtain rfl : c3 = [.int .u8 (c.toNat : Nat)] := h3
  subst e3; subst e2; subst e1
  rfl⟩

end Go.Proofs.Ytncffjdmcalioaa
