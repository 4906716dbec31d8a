/- The reference machine: a step walked. -/
import Derived.Test.YtmbdbfdlbbkclaaDoorBb
import Derived.Test.YtmbdbfdlbbkclaaDoorBf

/- The reference machine: a step, constants and ends. -/
--@hgp
--@flat
--@ex0
namespace Go.Proofs.YtmbdbfdlbbkclaaDoor
set_option linter.unusedSimpArgs false
set_option linter.unusedVariables false
open Go.RowKit Go.Sl
section
variable {S : Snap} {M : List Chunk} {vi vg : Value} {c : CodeD} {s : VS} {vv vs vp vn : Value}
set_option maxRecDepth 60000 in
set_option maxHeartbeats 8000000 in
theorem step_1 (w : World) (hst : St S M w) (hvi : RSl S vi c.1) (hvm : c.1.length ≤ 1048576) (hvv : RSl S vv s.vars) (hvs : RSl S vs s.stack) (hvp : RSl S vp s.pts) (hvn : RSl S vn s.notes) (h3 : s.steps < 3000) (hp0 : 0 ≤ s.pc) (hp1 : s.pc < c.1.length) (gd : GoodV c s) {a b : Int} {u : Unit}
    (hi : c.1[s.pc.toNat]'(by omega) = (1, a, b, u)) (hlen : s.stack.length < 400) :
    Rets Tryd.prog 19 [codeVal vi c, stVal s vv vs vp vn 0, vg] w fun v w' => OkPost S M { nextV s with stack := s.stack ++ [wrapV a] } v w' := by
  unfold Rets
  obtain ⟨ai, ni, ci, rfl⟩ := rsl_form hvi
  obtain ⟨av, nv, cv, rfl⟩ := rsl_form hvv
  obtain ⟨az, nz, cz, rfl⟩ := rsl_form hvs
  obtain ⟨ap, np, cp, rfl⟩ := rsl_form hvp
  obtain ⟨an, nn, cn, rfl⟩ := rsl_form hvn
  have hsl := gd.slen
  have rp : ∀ (M : List Chunk) (w : World), St S M w → Rets Tryd.prog 23 [.int .i64 1] w fun v w' => v = .int .i64 0 ∧ St S M w' := fun M w hst => rpops_ok w hst 1 (by decide)
  go_enter Tryd.func19, Tryd.ntmps19
  repeat' ((fail_if_success (with_reducible show Code.wp _ (Code.region 8 _ _) _ _ _)); first | (((with_reducible refine Sl.k_guard ?_; (first | (refine Sl.guard_yes rfl ?_) | (refine Sl.guard_cases rfl ?_ ?_ <;> intro hg <;> first | (exfalso; simp only [decide_eq_true_eq, decide_eq_false_iff_not, Bool.not_false, Bool.not_true, beq_iff_eq, beq_eq_false_iff_ne, ne_eq] at hg; omega) | (simp only [hg, Bool.not_true, Bool.not_false])) <;> (try simp only [decide_eq_true_eq, decide_eq_false_iff_not, Bool.not_false, Bool.not_true, beq_iff_eq, beq_eq_false_iff_ne, bne_iff_ne, bne_eq_false_iff_eq, ne_eq] at hg)))) <;> (try refine nX ?_)) | ((fail_if_success (go_big_may)); (go_step)) | ((first | (with_reducible refine Sl.k_load ?_; (refine s_qt hst (by first | exact qt_load rfl _ BoxIn.h inX rfl rfl | exact qt_ldp_flat evX asX inX inX rfl) ?_)) | (with_reducible refine Sl.k_field ?_; (refine s_qt hst (qt_field rfl inX) ?_)) | (with_reducible refine Sl.k_index ?_; (((refine s_ex hst (qt_index evX asX rfl inX inX omX omX) ?_); rintro v hp; (try simp only [Int.toNat_natCast, Int.toNat_natCast_add_one, Int.reduceToNat] at hp)))) | (with_reducible refine Sl.k_call ?_; (refine s_qt hst (by exact qt_len evX asX inX) ?_))) <;> (try refine nX ?_)) | (with_reducible refine Sl.gate rfl ?_; (go_step)) | ((((first | (with_reducible refine Sl.k_store ?_; (refine s_store hst rfl _ BoxIn.h inX evX rfl lenOk oneOk (by simp) ?_); clear hst; intro w hst) | (refine s_box hst evX rfl ?_; clear hst; intro bx w hst) | (refine s_alloc hst inX ?_; clear hst; intro bk w hst)))) <;> (try refine nX ?_) <;> (try replace hst := nH hst)))
  rw [hi] at hst hp ⊢
  simp only [insC] at hst ⊢
  repeat' (first | (((with_reducible refine Sl.k_guard ?_; ((refine Sl.guard_yes rfl ?_)))) <;> (try refine nX ?_)) | (((with_reducible refine Sl.k_call ?_; ((refine s_call (rp _ _ hst) inX rfl ?_; clear hst; rintro v w ⟨rfl, hst⟩)))) <;> (try refine nX ?_) <;> (try replace hst := nH hst)) | ((fail_if_success (go_big_may)); (go_step)) | ((first | (with_reducible refine Sl.k_load ?_; (refine s_qt hst (by exact qt_load rfl _ BoxIn.h inX rfl rfl) ?_)) | (with_reducible refine Sl.k_field ?_; (refine s_qt hst (qt_field rfl inX) ?_)) | (with_reducible refine Sl.k_call ?_; (refine s_qt hst (by exact qt_len evX asX inX) ?_))) <;> (try refine nX ?_)) | (with_reducible refine Sl.gate rfl ?_; (go_step)))
  refine s_slice (a := 0) (b := s.stack.length) evX hvs inX inX (.inl ⟨rfl, rfl⟩) (.inr ⟨.i64, by simp [evF, nth]⟩) (.inl rfl) (by omega) (by omega) ?_
  intro vz hvz
  rw [List.drop_zero, Nat.sub_zero, List.take_length] at hvz
  obtain ⟨ay, ny, cy, rfl⟩ := rsl_form hvz
  (try refine nX ?_)
  have hzin := gd.stack
  have hw := wrapV_in a
  have hw0 := hw.1
  have rw1 := fun (M : List Chunk) (w : World) (hst : St S M w) => rwrap_c w hst a
  repeat' (first | (((with_reducible refine Sl.k_call ?_; ((refine s_call (rw1 _ _ hst) inX rfl ?_; clear hst; rintro v w ⟨rfl, hst⟩)))) <;> (try refine nX ?_) <;> (try replace hst := nH hst)) | ((fail_if_success (go_big_may)); (go_step)) | ((first | (with_reducible refine Sl.k_load ?_; (refine s_qt hst (by exact qt_load rfl _ BoxIn.h inX rfl rfl) ?_)) | (with_reducible refine Sl.k_field ?_; (refine s_qt hst (qt_field rfl inX) ?_)) | (with_reducible refine Sl.k_call ?_; (refine s_qt hst (by exact qt_len evX asX inX) ?_))) <;> (try refine nX ?_)) | (with_reducible refine Sl.gate rfl ?_; (go_step)) | (((((with_reducible refine Sl.k_store ?_; (refine s_store hst rfl _ BoxIn.h inX evX rfl lenOk oneOk (by simp) ?_); clear hst; intro w hst)))) <;> (try refine nX ?_) <;> (try replace hst := nH hst)))
  refine s_lit (vs := []) (cs := []) hst inX inX rfl rfl (by simp) rfl (by omega) (by omega) ?_
  clear hst; intro x0 w hst
  (try refine nX ?_)
  repeat' (((first | (with_reducible refine Sl.k_load ?_; (refine s_qt hst (by exact qt_load rfl _ BoxIn.h inX rfl rfl) ?_)) | (with_reducible refine Sl.k_field ?_; (refine s_qt hst (qt_field rfl inX) ?_))) <;> (try refine nX ?_)))
  refine s_append_data (α := Int) (k := 0) hst evX evX rfl hvz inX inX inX (by omega) (by omega) (by decide) ?_
  clear hst; intro x2 w c2 hc2 hst
  (try refine nX ?_)
  obtain rfl := rl_ints_eq hc2
  clear hc2
  repeat' (((fail_if_success (go_big_may)); (go_step)))
  refine s_lit (vs := [.int .i64 (wrapV a)]) (cs := cF intC [(wrapV a)]) hst inX inX rfl rfl (by simp [Value.cells]) rfl (by omega) (by omega) ?_
  clear hst; intro x11 w hst
  (try refine nX ?_)
  repeat' (fail)
  refine s_append (k := 1) (j := 0) hst evX evX rfl rfl inX inX inX (by simp [cF, intC, Value.oneCell']) (by omega) (by omega) (by decide) ?_
  clear hst; intro x12 w hst
  (try refine nX ?_)
  simp only [List.set_cons_succ, List.set_cons_zero] at hst
  replace hst := hst.drop
  have fz := lit_int (s.stack ++ [(wrapV a)]) (fun y hy => in_i64 (app_all hzin hw y hy)) hst (by simp only [cF_app, List.nil_append]) (by simp only [List.length_append, List.length_cons, List.length_nil]; omega)
  clear hst; obtain ⟨S2, hS2, hst, hsz⟩ := fz
  obtain ⟨ax, nx, cx, rfl⟩ := rsl_form hsz
  repeat' (first | ((fail_if_success (go_big_may)); (go_step)) | ((first | (with_reducible refine Sl.k_load ?_; (refine s_qt hst (by exact qt_load rfl _ BoxIn.h inX rfl rfl) ?_)) | (with_reducible refine Sl.k_field ?_; (refine s_qt hst (qt_field rfl inX) ?_))) <;> (try refine nX ?_)) | (((((with_reducible refine Sl.k_store ?_; (refine s_store hst rfl _ BoxIn.h inX evX rfl lenOk oneOk (by simp) ?_); clear hst; intro w hst)))) <;> (try refine nX ?_) <;> (try replace hst := nH hst)))
  refine ret_cell rfl hst rfl 1 rfl inferInstance rfl rfl ?_
  exact ⟨_, rfl, S2, _, _, _, _, hS2, rfl, hvv.mono hS2, hsz, hvp.mono hS2, hvn.mono hS2, hst.drop.drop.drop.drop⟩
set_option maxRecDepth 60000 in
set_option maxHeartbeats 8000000 in
theorem step_15 (w : World) (hst : St S M w) (hvi : RSl S vi c.1) (hvm : c.1.length ≤ 1048576) (hvv : RSl S vv s.vars) (hvs : RSl S vs s.stack) (hvp : RSl S vp s.pts) (hvn : RSl S vn s.notes) (h3 : s.steps < 3000) (hp0 : 0 ≤ s.pc) (hp1 : s.pc < c.1.length) (gd : GoodV c s) {a b : Int} {u : Unit}
    (hi : c.1[s.pc.toNat]'(by omega) = (15, a, b, u))  :
    Rets Tryd.prog 19 [codeVal vi c, stVal s vv vs vp vn 0, vg] w fun v w' => OkPost S M { nextV s with fin := a, done := true } v w' := by
  unfold Rets
  obtain ⟨ai, ni, ci, rfl⟩ := rsl_form hvi
  obtain ⟨av, nv, cv, rfl⟩ := rsl_form hvv
  obtain ⟨az, nz, cz, rfl⟩ := rsl_form hvs
  obtain ⟨ap, np, cp, rfl⟩ := rsl_form hvp
  obtain ⟨an, nn, cn, rfl⟩ := rsl_form hvn
  have hsl := gd.slen
  have rp : ∀ (M : List Chunk) (w : World), St S M w → Rets Tryd.prog 23 [.int .i64 15] w fun v w' => v = .int .i64 0 ∧ St S M w' := fun M w hst => rpops_ok w hst 15 (by decide)
  go_enter Tryd.func19, Tryd.ntmps19
  repeat' ((fail_if_success (with_reducible show Code.wp _ (Code.region 8 _ _) _ _ _)); first | (((with_reducible refine Sl.k_guard ?_; (first | (refine Sl.guard_yes rfl ?_) | (refine Sl.guard_cases rfl ?_ ?_ <;> intro hg <;> first | (exfalso; simp only [decide_eq_true_eq, decide_eq_false_iff_not, Bool.not_false, Bool.not_true, beq_iff_eq, beq_eq_false_iff_ne, ne_eq] at hg; omega) | (simp only [hg, Bool.not_true, Bool.not_false])) <;> (try simp only [decide_eq_true_eq, decide_eq_false_iff_not, Bool.not_false, Bool.not_true, beq_iff_eq, beq_eq_false_iff_ne, bne_iff_ne, bne_eq_false_iff_eq, ne_eq] at hg)))) <;> (try refine nX ?_)) | ((fail_if_success (go_big_may)); (go_step)) | ((first | (with_reducible refine Sl.k_load ?_; (refine s_qt hst (by first | exact qt_load rfl _ BoxIn.h inX rfl rfl | exact qt_ldp_flat evX asX inX inX rfl) ?_)) | (with_reducible refine Sl.k_field ?_; (refine s_qt hst (qt_field rfl inX) ?_)) | (with_reducible refine Sl.k_index ?_; (((refine s_ex hst (qt_index evX asX rfl inX inX omX omX) ?_); rintro v hp; (try simp only [Int.toNat_natCast, Int.toNat_natCast_add_one, Int.reduceToNat] at hp)))) | (with_reducible refine Sl.k_call ?_; (refine s_qt hst (by exact qt_len evX asX inX) ?_))) <;> (try refine nX ?_)) | (with_reducible refine Sl.gate rfl ?_; (go_step)) | ((((first | (with_reducible refine Sl.k_store ?_; (refine s_store hst rfl _ BoxIn.h inX evX rfl lenOk oneOk (by simp) ?_); clear hst; intro w hst) | (refine s_box hst evX rfl ?_; clear hst; intro bx w hst) | (refine s_alloc hst inX ?_; clear hst; intro bk w hst)))) <;> (try refine nX ?_) <;> (try replace hst := nH hst)))
  rw [hi] at hst hp ⊢
  simp only [insC] at hst ⊢
  repeat' (first | (((with_reducible refine Sl.k_guard ?_; ((refine Sl.guard_yes rfl ?_)))) <;> (try refine nX ?_)) | (((with_reducible refine Sl.k_call ?_; ((refine s_call (rp _ _ hst) inX rfl ?_; clear hst; rintro v w ⟨rfl, hst⟩)))) <;> (try refine nX ?_) <;> (try replace hst := nH hst)) | ((fail_if_success (go_big_may)); (go_step)) | ((first | (with_reducible refine Sl.k_load ?_; (refine s_qt hst (by exact qt_load rfl _ BoxIn.h inX rfl rfl) ?_)) | (with_reducible refine Sl.k_field ?_; (refine s_qt hst (qt_field rfl inX) ?_)) | (with_reducible refine Sl.k_call ?_; (refine s_qt hst (by exact qt_len evX asX inX) ?_))) <;> (try refine nX ?_)) | (with_reducible refine Sl.gate rfl ?_; (go_step)))
  refine s_slice (a := 0) (b := s.stack.length) evX hvs inX inX (.inl ⟨rfl, rfl⟩) (.inr ⟨.i64, by simp [evF, nth]⟩) (.inl rfl) (by omega) (by omega) ?_
  intro vz hvz
  rw [List.drop_zero, Nat.sub_zero, List.take_length] at hvz
  obtain ⟨ay, ny, cy, rfl⟩ := rsl_form hvz
  (try refine nX ?_)
  have hzin := gd.stack
  repeat' (first | ((fail_if_success (go_big_may)); (go_step)) | ((first | (with_reducible refine Sl.k_load ?_; (refine s_qt hst (by exact qt_load rfl _ BoxIn.h inX rfl rfl) ?_)) | (with_reducible refine Sl.k_field ?_; (refine s_qt hst (qt_field rfl inX) ?_))) <;> (try refine nX ?_)) | (with_reducible refine Sl.gate rfl ?_; (go_step)) | (((((with_reducible refine Sl.k_store ?_; (refine s_store hst rfl _ BoxIn.h inX evX rfl lenOk oneOk (by simp) ?_); clear hst; intro w hst)))) <;> (try refine nX ?_) <;> (try replace hst := nH hst)))
  refine ret_cell rfl hst rfl 1 rfl inferInstance rfl rfl ?_
  exact ⟨_, rfl, S, _, _, _, _, Snap.Le.refl _, rfl, hvv, hvz, hvp, hvn, hst.drop.drop.drop.drop⟩
set_option maxRecDepth 60000 in
set_option maxHeartbeats 8000000 in
theorem step_16 (w : World) (hst : St S M w) (hvi : RSl S vi c.1) (hvm : c.1.length ≤ 1048576) (hvv : RSl S vv s.vars) (hvs : RSl S vs s.stack) (hvp : RSl S vp s.pts) (hvn : RSl S vn s.notes) (h3 : s.steps < 3000) (hp0 : 0 ≤ s.pc) (hp1 : s.pc < c.1.length) (gd : GoodV c s) {a b : Int} {u : Unit}
    (hi : c.1[s.pc.toNat]'(by omega) = (16, a, b, u))  :
    Rets Tryd.prog 19 [codeVal vi c, stVal s vv vs vp vn 0, vg] w fun v w' => OkPost S M { nextV s with done := true } v w' := by
  unfold Rets
  obtain ⟨ai, ni, ci, rfl⟩ := rsl_form hvi
  obtain ⟨av, nv, cv, rfl⟩ := rsl_form hvv
  obtain ⟨az, nz, cz, rfl⟩ := rsl_form hvs
  obtain ⟨ap, np, cp, rfl⟩ := rsl_form hvp
  obtain ⟨an, nn, cn, rfl⟩ := rsl_form hvn
  have hsl := gd.slen
  have rp : ∀ (M : List Chunk) (w : World), St S M w → Rets Tryd.prog 23 [.int .i64 16] w fun v w' => v = .int .i64 0 ∧ St S M w' := fun M w hst => rpops_ok w hst 16 (by decide)
  go_enter Tryd.func19, Tryd.ntmps19
  repeat' ((fail_if_success (with_reducible show Code.wp _ (Code.region 8 _ _) _ _ _)); first | (((with_reducible refine Sl.k_guard ?_; (first | (refine Sl.guard_yes rfl ?_) | (refine Sl.guard_cases rfl ?_ ?_ <;> intro hg <;> first | (exfalso; simp only [decide_eq_true_eq, decide_eq_false_iff_not, Bool.not_false, Bool.not_true, beq_iff_eq, beq_eq_false_iff_ne, ne_eq] at hg; omega) | (simp only [hg, Bool.not_true, Bool.not_false])) <;> (try simp only [decide_eq_true_eq, decide_eq_false_iff_not, Bool.not_false, Bool.not_true, beq_iff_eq, beq_eq_false_iff_ne, bne_iff_ne, bne_eq_false_iff_eq, ne_eq] at hg)))) <;> (try refine nX ?_)) | ((fail_if_success (go_big_may)); (go_step)) | ((first | (with_reducible refine Sl.k_load ?_; (refine s_qt hst (by first | exact qt_load rfl _ BoxIn.h inX rfl rfl | exact qt_ldp_flat evX asX inX inX rfl) ?_)) | (with_reducible refine Sl.k_field ?_; (refine s_qt hst (qt_field rfl inX) ?_)) | (with_reducible refine Sl.k_index ?_; (((refine s_ex hst (qt_index evX asX rfl inX inX omX omX) ?_); rintro v hp; (try simp only [Int.toNat_natCast, Int.toNat_natCast_add_one, Int.reduceToNat] at hp)))) | (with_reducible refine Sl.k_call ?_; (refine s_qt hst (by exact qt_len evX asX inX) ?_))) <;> (try refine nX ?_)) | (with_reducible refine Sl.gate rfl ?_; (go_step)) | ((((first | (with_reducible refine Sl.k_store ?_; (refine s_store hst rfl _ BoxIn.h inX evX rfl lenOk oneOk (by simp) ?_); clear hst; intro w hst) | (refine s_box hst evX rfl ?_; clear hst; intro bx w hst) | (refine s_alloc hst inX ?_; clear hst; intro bk w hst)))) <;> (try refine nX ?_) <;> (try replace hst := nH hst)))
  rw [hi] at hst hp ⊢
  simp only [insC] at hst ⊢
  repeat' (first | (((with_reducible refine Sl.k_guard ?_; ((refine Sl.guard_yes rfl ?_)))) <;> (try refine nX ?_)) | (((with_reducible refine Sl.k_call ?_; ((refine s_call (rp _ _ hst) inX rfl ?_; clear hst; rintro v w ⟨rfl, hst⟩)))) <;> (try refine nX ?_) <;> (try replace hst := nH hst)) | ((fail_if_success (go_big_may)); (go_step)) | ((first | (with_reducible refine Sl.k_load ?_; (refine s_qt hst (by exact qt_load rfl _ BoxIn.h inX rfl rfl) ?_)) | (with_reducible refine Sl.k_field ?_; (refine s_qt hst (qt_field rfl inX) ?_)) | (with_reducible refine Sl.k_call ?_; (refine s_qt hst (by exact qt_len evX asX inX) ?_))) <;> (try refine nX ?_)) | (with_reducible refine Sl.gate rfl ?_; (go_step)))
  refine s_slice (a := 0) (b := s.stack.length) evX hvs inX inX (.inl ⟨rfl, rfl⟩) (.inr ⟨.i64, by simp [evF, nth]⟩) (.inl rfl) (by omega) (by omega) ?_
  intro vz hvz
  rw [List.drop_zero, Nat.sub_zero, List.take_length] at hvz
  obtain ⟨ay, ny, cy, rfl⟩ := rsl_form hvz
  (try refine nX ?_)
  have hzin := gd.stack
  repeat' (first | ((fail_if_success (go_big_may)); (go_step)) | ((first | (with_reducible refine Sl.k_load ?_; (refine s_qt hst (by exact qt_load rfl _ BoxIn.h inX rfl rfl) ?_)) | (with_reducible refine Sl.k_field ?_; (refine s_qt hst (qt_field rfl inX) ?_))) <;> (try refine nX ?_)) | (with_reducible refine Sl.gate rfl ?_; (go_step)) | (((((with_reducible refine Sl.k_store ?_; (refine s_store hst rfl _ BoxIn.h inX evX rfl lenOk oneOk (by simp) ?_); clear hst; intro w hst)))) <;> (try refine nX ?_) <;> (try replace hst := nH hst)))
  refine ret_cell rfl hst rfl 1 rfl inferInstance rfl rfl ?_
  exact ⟨_, rfl, S, _, _, _, _, Snap.Le.refl _, rfl, hvv, hvz, hvp, hvn, hst.drop.drop.drop.drop⟩
end
end Go.Proofs.YtmbdbfdlbbkclaaDoor

/- The reference machine: a step, variables. -/
--@hgp
--@flat
--@ex0
namespace Go.Proofs.YtmbdbfdlbbkclaaDoor
set_option linter.unusedSimpArgs false
set_option linter.unusedVariables false
open Go.RowKit Go.Sl
section
variable {S : Snap} {M : List Chunk} {vi vg : Value} {c : CodeD} {s : VS} {vv vs vp vn : Value}
theorem top_ate {s : VS} (h : 1 ≤ s.stack.length) : s.stack[((s.stack.length : Int) - 1).toNat]'(by omega) = topV s := by
  have e : ((s.stack.length : Int) - 1).toNat = s.stack.length - 1 := by omega
  simp only [e]
  exact (getD_at (by omega)).symm
theorem top2_ate {s : VS} (h : 2 ≤ s.stack.length) : s.stack[((s.stack.length : Int) - 2).toNat]'(by omega) = topV (popV s) := by
  have e : ((s.stack.length : Int) - 2).toNat = s.stack.length - 2 := by omega
  simp only [e]
  unfold topV popV
  simp only [List.length_take]
  have e2 : min (s.stack.length - 1) s.stack.length - 1 = s.stack.length - 2 := by omega
  rw [e2, List.getD_eq_getElem?_getD, List.getElem?_take_of_lt (by omega), List.getElem?_eq_getElem (by omega)]
  rfl
theorem rwith_de {S M} (w : World) (hst : St S M w) (vs : Value) (xs : List Int) (hxs : RSl S vs xs) (hm : xs.length ≤ 1048576) (k : Nat) (hk : k < xs.length) (x : Int) (hx : I64 x) :
    Rets Tryd.prog 25 [vs, .int .i64 (k : Int), .int .i64 x] w fun v w' => ∃ S' a n c, S.Le S' ∧ v = .slice a n c ∧ RSl S' (.slice a n c) (setV xs k x) ∧ St S' M w' :=
  (rwith_c w hst vs xs hxs hm k hk x hx).mono fun v w' ⟨S', h1, h2, h3⟩ => by
    obtain ⟨a, n, c, rfl⟩ := rsl_form h2
    exact ⟨S', a, n, c, h1, rfl, h2, h3⟩
set_option maxRecDepth 60000 in
set_option maxHeartbeats 8000000 in
theorem step_2 (w : World) (hst : St S M w) (hvi : RSl S vi c.1) (hvm : c.1.length ≤ 1048576) (hvv : RSl S vv s.vars) (hvs : RSl S vs s.stack) (hvp : RSl S vp s.pts) (hvn : RSl S vn s.notes) (h3 : s.steps < 3000) (hp0 : 0 ≤ s.pc) (hp1 : s.pc < c.1.length) (gd : GoodV c s) {a b : Int} {u : Unit}
    (hi : c.1[s.pc.toNat]'(by omega) = (2, a, b, u)) (ha0 : 0 ≤ a) (ha1 : a < s.vars.length) (hlen : s.stack.length < 400) :
    Rets Tryd.prog 19 [codeVal vi c, stVal s vv vs vp vn 0, vg] w fun v w' => OkPost S M { nextV s with stack := s.stack ++ [s.vars[a.toNat]'(by omega)] } v w' := by
  unfold Rets
  obtain ⟨ai, ni, ci, rfl⟩ := rsl_form hvi
  obtain ⟨av, nv, cv, rfl⟩ := rsl_form hvv
  obtain ⟨az, nz, cz, rfl⟩ := rsl_form hvs
  obtain ⟨ap, np, cp, rfl⟩ := rsl_form hvp
  obtain ⟨an, nn, cn, rfl⟩ := rsl_form hvn
  have hsl := gd.slen
  have rp : ∀ (M : List Chunk) (w : World), St S M w → Rets Tryd.prog 23 [.int .i64 2] w fun v w' => v = .int .i64 0 ∧ St S M w' := fun M w hst => rpops_ok w hst 2 (by decide)
  go_enter Tryd.func19, Tryd.ntmps19
  repeat' ((fail_if_success (with_reducible show Code.wp _ (Code.region 8 _ _) _ _ _)); first | (((with_reducible refine Sl.k_guard ?_; (first | (refine Sl.guard_yes rfl ?_) | (refine Sl.guard_cases rfl ?_ ?_ <;> intro hg <;> first | (exfalso; simp only [decide_eq_true_eq, decide_eq_false_iff_not, Bool.not_false, Bool.not_true, beq_iff_eq, beq_eq_false_iff_ne, ne_eq] at hg; omega) | (simp only [hg, Bool.not_true, Bool.not_false])) <;> (try simp only [decide_eq_true_eq, decide_eq_false_iff_not, Bool.not_false, Bool.not_true, beq_iff_eq, beq_eq_false_iff_ne, bne_iff_ne, bne_eq_false_iff_eq, ne_eq] at hg)))) <;> (try refine nX ?_)) | ((fail_if_success (go_big_may)); (go_step)) | ((first | (with_reducible refine Sl.k_load ?_; (refine s_qt hst (by first | exact qt_load rfl _ BoxIn.h inX rfl rfl | exact qt_ldp_flat evX asX inX inX rfl) ?_)) | (with_reducible refine Sl.k_field ?_; (refine s_qt hst (qt_field rfl inX) ?_)) | (with_reducible refine Sl.k_index ?_; (((refine s_ex hst (qt_index evX asX rfl inX inX omX omX) ?_); rintro v hp; (try simp only [Int.toNat_natCast, Int.toNat_natCast_add_one, Int.reduceToNat] at hp)))) | (with_reducible refine Sl.k_call ?_; (refine s_qt hst (by exact qt_len evX asX inX) ?_))) <;> (try refine nX ?_)) | (with_reducible refine Sl.gate rfl ?_; (go_step)) | ((((first | (with_reducible refine Sl.k_store ?_; (refine s_store hst rfl _ BoxIn.h inX evX rfl lenOk oneOk (by simp) ?_); clear hst; intro w hst) | (refine s_box hst evX rfl ?_; clear hst; intro bx w hst) | (refine s_alloc hst inX ?_; clear hst; intro bk w hst)))) <;> (try refine nX ?_) <;> (try replace hst := nH hst)))
  rw [hi] at hst hp ⊢
  simp only [insC] at hst ⊢
  obtain ⟨k, rfl⟩ : ∃ k : Nat, a = (k : Int) := ⟨a.toNat, by omega⟩
  (try simp only [Int.toNat_natCast])
  repeat' (first | go_skip | (((with_reducible refine Sl.k_guard ?_; ((refine Sl.guard_yes rfl ?_)))) <;> (try refine nX ?_)) | (((with_reducible refine Sl.k_call ?_; ((refine s_call (rp _ _ hst) inX rfl ?_; clear hst; rintro v w ⟨rfl, hst⟩)))) <;> (try refine nX ?_) <;> (try replace hst := nH hst)) | ((fail_if_success (go_big_may)); (go_step)) | ((first | (with_reducible refine Sl.k_load ?_; (refine s_qt hst (by exact qt_load rfl _ BoxIn.h inX rfl rfl) ?_)) | (with_reducible refine Sl.k_field ?_; (refine s_qt hst (qt_field rfl inX) ?_)) | (with_reducible refine Sl.k_call ?_; (refine s_qt hst (by exact qt_len evX asX inX) ?_))) <;> (try refine nX ?_)) | (with_reducible refine Sl.gate rfl ?_; (go_step)))
  refine s_slice (a := 0) (b := s.stack.length) evX hvs inX inX (.inl ⟨rfl, rfl⟩) (.inr ⟨.i64, by simp [evF, nth]⟩) (.inl rfl) (by omega) (by omega) ?_
  intro vz hvz
  rw [List.drop_zero, Nat.sub_zero, List.take_length] at hvz
  obtain ⟨ay, ny, cy, rfl⟩ := rsl_form hvz
  (try refine nX ?_)
  have hzin := gd.stack
  have hw := gd.vars _ (List.getElem_mem (show k < s.vars.length by omega))
  have hw0 := hw.1
  repeat' (first | ((fail_if_success (go_big_may)); (go_step)) | ((first | (with_reducible refine Sl.k_load ?_; (first | refine s_qt hst (by exact qt_load rfl _ BoxIn.h inX rfl rfl) ?_ | (refine s_ex hst (qt_ldp_int evX asX inX) ?_; rintro v ⟨rfl, hI⟩))) | (with_reducible refine Sl.k_field ?_; (refine s_qt hst (qt_field rfl inX) ?_)) | (with_reducible refine Sl.k_index ?_; (((refine s_ex hst (qt_index evX asX rfl inX inX omX omX) ?_); rintro v hp; (try simp only [Int.toNat_natCast, Int.toNat_natCast_add_one, Int.reduceToNat] at hp)))) | (with_reducible refine Sl.k_call ?_; (refine s_qt hst (by exact qt_len evX asX inX) ?_))) <;> (try refine nX ?_)) | (with_reducible refine Sl.gate rfl ?_; (go_step)) | (((((with_reducible refine Sl.k_store ?_; (refine s_store hst rfl _ BoxIn.h inX evX rfl lenOk oneOk (by simp) ?_); clear hst; intro w hst)))) <;> (try refine nX ?_) <;> (try replace hst := nH hst)))
  refine s_lit (vs := []) (cs := []) hst inX inX rfl rfl (by simp) rfl (by omega) (by omega) ?_
  clear hst; intro x0 w hst
  (try refine nX ?_)
  repeat' (((first | (with_reducible refine Sl.k_load ?_; (refine s_qt hst (by exact qt_load rfl _ BoxIn.h inX rfl rfl) ?_)) | (with_reducible refine Sl.k_field ?_; (refine s_qt hst (qt_field rfl inX) ?_))) <;> (try refine nX ?_)))
  refine s_append_data (α := Int) (k := 0) hst evX evX rfl hvz inX inX inX (by omega) (by omega) (by decide) ?_
  clear hst; intro x2 w c2 hc2 hst
  (try refine nX ?_)
  obtain rfl := rl_ints_eq hc2
  clear hc2
  repeat' (((fail_if_success (go_big_may)); (go_step)))
  refine s_lit (vs := [.int .i64 (s.vars[k]'(by omega))]) (cs := cF intC [(s.vars[k]'(by omega))]) hst inX inX rfl rfl (by simp [Value.cells]) rfl (by omega) (by omega) ?_
  clear hst; intro x11 w hst
  (try refine nX ?_)
  repeat' (fail)
  refine s_append (k := 1) (j := 0) hst evX evX rfl rfl inX inX inX (by simp [cF, intC, Value.oneCell']) (by omega) (by omega) (by decide) ?_
  clear hst; intro x12 w hst
  (try refine nX ?_)
  simp only [List.set_cons_succ, List.set_cons_zero] at hst
  replace hst := hst.drop
  have fz := lit_int (s.stack ++ [(s.vars[k]'(by omega))]) (fun y hy => in_i64 (app_all hzin hw y hy)) hst (by simp only [cF_app, List.nil_append]) (by simp only [List.length_append, List.length_cons, List.length_nil]; omega)
  clear hst; obtain ⟨S2, hS2, hst, hsz⟩ := fz
  obtain ⟨ax, nx, cx, rfl⟩ := rsl_form hsz
  repeat' (first | ((fail_if_success (go_big_may)); (go_step)) | ((first | (with_reducible refine Sl.k_load ?_; (refine s_qt hst (by exact qt_load rfl _ BoxIn.h inX rfl rfl) ?_)) | (with_reducible refine Sl.k_field ?_; (refine s_qt hst (qt_field rfl inX) ?_))) <;> (try refine nX ?_)) | (((((with_reducible refine Sl.k_store ?_; (refine s_store hst rfl _ BoxIn.h inX evX rfl lenOk oneOk (by simp) ?_); clear hst; intro w hst)))) <;> (try refine nX ?_) <;> (try replace hst := nH hst)))
  refine ret_cell rfl hst rfl 1 rfl inferInstance rfl rfl ?_
  exact ⟨_, rfl, S2, _, _, _, _, hS2, rfl, hvv.mono hS2, hsz, hvp.mono hS2, hvn.mono hS2, hst.drop.drop.drop.drop⟩
set_option maxRecDepth 60000 in
set_option maxHeartbeats 8000000 in
theorem step_3 (w : World) (hst : St S M w) (hvi : RSl S vi c.1) (hvm : c.1.length ≤ 1048576) (hvv : RSl S vv s.vars) (hvs : RSl S vs s.stack) (hvp : RSl S vp s.pts) (hvn : RSl S vn s.notes) (h3 : s.steps < 3000) (hp0 : 0 ≤ s.pc) (hp1 : s.pc < c.1.length) (gd : GoodV c s) {a b : Int} {u : Unit}
    (hi : c.1[s.pc.toNat]'(by omega) = (3, a, b, u)) (ha0 : 0 ≤ a) (ha1 : a < s.vars.length) (hn : 1 ≤ s.stack.length) (hvl : s.vars.length ≤ 400) :
    Rets Tryd.prog 19 [codeVal vi c, stVal s vv vs vp vn 0, vg] w fun v w' => OkPost S M { nextV s with stack := s.stack.take (s.stack.length - 1), vars := setV s.vars a (topV s) } v w' := by
  unfold Rets
  obtain ⟨ai, ni, ci, rfl⟩ := rsl_form hvi
  obtain ⟨av, nv, cv, rfl⟩ := rsl_form hvv
  obtain ⟨az, nz, cz, rfl⟩ := rsl_form hvs
  obtain ⟨ap, np, cp, rfl⟩ := rsl_form hvp
  obtain ⟨an, nn, cn, rfl⟩ := rsl_form hvn
  have hsl := gd.slen
  have rp : ∀ (M : List Chunk) (w : World), St S M w → Rets Tryd.prog 23 [.int .i64 3] w fun v w' => v = .int .i64 1 ∧ St S M w' := fun M w hst => rpops_ok w hst 3 (by decide)
  go_enter Tryd.func19, Tryd.ntmps19
  repeat' ((fail_if_success (with_reducible show Code.wp _ (Code.region 8 _ _) _ _ _)); first | (((with_reducible refine Sl.k_guard ?_; (first | (refine Sl.guard_yes rfl ?_) | (refine Sl.guard_cases rfl ?_ ?_ <;> intro hg <;> first | (exfalso; simp only [decide_eq_true_eq, decide_eq_false_iff_not, Bool.not_false, Bool.not_true, beq_iff_eq, beq_eq_false_iff_ne, ne_eq] at hg; omega) | (simp only [hg, Bool.not_true, Bool.not_false])) <;> (try simp only [decide_eq_true_eq, decide_eq_false_iff_not, Bool.not_false, Bool.not_true, beq_iff_eq, beq_eq_false_iff_ne, bne_iff_ne, bne_eq_false_iff_eq, ne_eq] at hg)))) <;> (try refine nX ?_)) | ((fail_if_success (go_big_may)); (go_step)) | ((first | (with_reducible refine Sl.k_load ?_; (refine s_qt hst (by first | exact qt_load rfl _ BoxIn.h inX rfl rfl | exact qt_ldp_flat evX asX inX inX rfl) ?_)) | (with_reducible refine Sl.k_field ?_; (refine s_qt hst (qt_field rfl inX) ?_)) | (with_reducible refine Sl.k_index ?_; (((refine s_ex hst (qt_index evX asX rfl inX inX omX omX) ?_); rintro v hp; (try simp only [Int.toNat_natCast, Int.toNat_natCast_add_one, Int.reduceToNat] at hp)))) | (with_reducible refine Sl.k_call ?_; (refine s_qt hst (by exact qt_len evX asX inX) ?_))) <;> (try refine nX ?_)) | (with_reducible refine Sl.gate rfl ?_; (go_step)) | ((((first | (with_reducible refine Sl.k_store ?_; (refine s_store hst rfl _ BoxIn.h inX evX rfl lenOk oneOk (by simp) ?_); clear hst; intro w hst) | (refine s_box hst evX rfl ?_; clear hst; intro bx w hst) | (refine s_alloc hst inX ?_; clear hst; intro bk w hst)))) <;> (try refine nX ?_) <;> (try replace hst := nH hst)))
  rw [hi] at hst hp ⊢
  simp only [insC] at hst ⊢
  obtain ⟨k, rfl⟩ : ∃ k : Nat, a = (k : Int) := ⟨a.toNat, by omega⟩
  repeat' (first | go_skip | (((with_reducible refine Sl.k_guard ?_; (first | (refine Sl.guard_yes rfl ?_) | (refine Sl.guard_cases rfl ?_ ?_ <;> intro hg <;> first | (exfalso; simp only [decide_eq_true_eq, decide_eq_false_iff_not, Bool.not_false, Bool.not_true, beq_iff_eq, beq_eq_false_iff_ne, ne_eq] at hg; omega) | (simp only [hg, Bool.not_true, Bool.not_false])) <;> (try simp only [decide_eq_true_eq, decide_eq_false_iff_not, Bool.not_false, Bool.not_true, beq_iff_eq, beq_eq_false_iff_ne, bne_iff_ne, bne_eq_false_iff_eq, ne_eq] at hg)))) <;> (try refine nX ?_)) | (((with_reducible refine Sl.k_call ?_; ((refine s_call (rp _ _ hst) inX rfl ?_; clear hst; rintro v w ⟨rfl, hst⟩)))) <;> (try refine nX ?_) <;> (try replace hst := nH hst)) | ((fail_if_success (go_big_may)); (go_step)) | ((first | (with_reducible refine Sl.k_load ?_; (first | refine s_qt hst (by exact qt_load rfl _ BoxIn.h inX rfl rfl) ?_ | (refine s_ex hst (qt_ldp_int evX asX inX) ?_; rintro v ⟨rfl, hI⟩))) | (with_reducible refine Sl.k_field ?_; (refine s_qt hst (qt_field rfl inX) ?_)) | (with_reducible refine Sl.k_index ?_; (((refine s_ex hst (qt_index evX asX rfl inX inX omX omX) ?_); rintro v hp; (try simp only [Int.toNat_natCast, Int.toNat_natCast_add_one, Int.reduceToNat] at hp)))) | (with_reducible refine Sl.k_call ?_; (refine s_qt hst (by exact qt_len evX asX inX) ?_))) <;> (try refine nX ?_)) | (with_reducible refine Sl.gate rfl ?_; (go_step)))
  obtain ⟨zs, hzs⟩ : ∃ zs, s.stack.take (s.stack.length - 1) = zs := ⟨_, rfl⟩
  have hzl : zs.length = s.stack.length - 1 := by rw [← hzs, List.length_take]; omega
  have hzin : ∀ y ∈ zs, inR y := hzs ▸ take_all gd.stack
  refine s_slice (a := 0) (b := s.stack.length - 1) evX hvs inX inX (.inl ⟨rfl, rfl⟩) (.inr ⟨.i64, by simp [evF, nth]; omega⟩) (.inl rfl) (by omega) (by omega) ?_
  intro vz hvz
  rw [List.drop_zero, Nat.sub_zero, hzs] at hvz
  obtain ⟨ay, ny, cy, rfl⟩ := rsl_form hvz
  (try refine nX ?_)
  have hw := top_in gd
  simp only [top_ate hn]
  have rb := fun (M : List Chunk) (w : World) (hst : St S M w) => rwith_de w hst _ s.vars hvv (by omega) k (by omega) (topV s) (in_i64 hw)
  repeat' (first | (((with_reducible refine Sl.k_call ?_; ((refine s_call (rb _ _ hst) inX rfl ?_; clear hst; rintro v w ⟨S2, a2, n2, c2, hS2, rfl, hsv, hst⟩)))) <;> (try refine nX ?_) <;> (try replace hst := nH hst)) | ((fail_if_success (go_big_may)); (go_step)) | ((first | (with_reducible refine Sl.k_load ?_; (refine s_qt hst (by exact qt_load rfl _ BoxIn.h inX rfl rfl) ?_)) | (with_reducible refine Sl.k_field ?_; (refine s_qt hst (qt_field rfl inX) ?_))) <;> (try refine nX ?_)) | (with_reducible refine Sl.gate rfl ?_; (go_step)) | (((((with_reducible refine Sl.k_store ?_; (refine s_store hst rfl _ BoxIn.h inX evX rfl lenOk oneOk (by simp) ?_); clear hst; intro w hst)))) <;> (try refine nX ?_) <;> (try replace hst := nH hst)))
  refine ret_cell rfl hst rfl 1 rfl inferInstance rfl rfl ?_
  exact ⟨_, rfl, S2, _, _, _, _, hS2, rfl, hsv, hzs ▸ hvz.mono hS2, hvp.mono hS2, hvn.mono hS2, hst.drop.drop.drop.drop⟩
end
end Go.Proofs.YtmbdbfdlbbkclaaDoor

/- The reference machine: a step, arithmetic. -/
--@hgp
--@flat
--@ex0
namespace Go.Proofs.YtmbdbfdlbbkclaaDoor
set_option linter.unusedSimpArgs false
set_option linter.unusedVariables false
open Go.RowKit Go.Sl
section
variable {S : Snap} {M : List Chunk} {vi vg : Value} {c : CodeD} {s : VS} {vv vs vp vn : Value}
theorem top_ata {s : VS} (h : 1 ≤ s.stack.length) : s.stack[((s.stack.length : Int) - 1).toNat]'(by omega) = topV s := by
  have e : ((s.stack.length : Int) - 1).toNat = s.stack.length - 1 := by omega
  simp only [e]
  exact (getD_at (by omega)).symm
theorem top2_ata {s : VS} (h : 2 ≤ s.stack.length) : s.stack[((s.stack.length : Int) - 2).toNat]'(by omega) = topV (popV s) := by
  have e : ((s.stack.length : Int) - 2).toNat = s.stack.length - 2 := by omega
  simp only [e]
  unfold topV popV
  simp only [List.length_take]
  have e2 : min (s.stack.length - 1) s.stack.length - 1 = s.stack.length - 2 := by omega
  rw [e2, List.getD_eq_getElem?_getD, List.getElem?_take_of_lt (by omega), List.getElem?_eq_getElem (by omega)]
  rfl
theorem rwith_da {S M} (w : World) (hst : St S M w) (vs : Value) (xs : List Int) (hxs : RSl S vs xs) (hm : xs.length ≤ 1048576) (k : Nat) (hk : k < xs.length) (x : Int) (hx : I64 x) :
    Rets Tryd.prog 25 [vs, .int .i64 (k : Int), .int .i64 x] w fun v w' => ∃ S' a n c, S.Le S' ∧ v = .slice a n c ∧ RSl S' (.slice a n c) (setV xs k x) ∧ St S' M w' :=
  (rwith_c w hst vs xs hxs hm k hk x hx).mono fun v w' ⟨S', h1, h2, h3⟩ => by
    obtain ⟨a, n, c, rfl⟩ := rsl_form h2
    exact ⟨S', a, n, c, h1, rfl, h2, h3⟩
set_option maxRecDepth 60000 in
set_option maxHeartbeats 8000000 in
theorem step_4 (w : World) (hst : St S M w) (hvi : RSl S vi c.1) (hvm : c.1.length ≤ 1048576) (hvv : RSl S vv s.vars) (hvs : RSl S vs s.stack) (hvp : RSl S vp s.pts) (hvn : RSl S vn s.notes) (h3 : s.steps < 3000) (hp0 : 0 ≤ s.pc) (hp1 : s.pc < c.1.length) (gd : GoodV c s) {a b : Int} {u : Unit}
    (hi : c.1[s.pc.toNat]'(by omega) = (4, a, b, u)) (hn : 2 ≤ s.stack.length) :
    Rets Tryd.prog 19 [codeVal vi c, stVal s vv vs vp vn 0, vg] w fun v w' => OkPost S M { nextV s with stack := s.stack.take (s.stack.length - 2) ++ [binV 4 (topV (popV s)) (topV s)] } v w' := by
  unfold Rets
  obtain ⟨ai, ni, ci, rfl⟩ := rsl_form hvi
  obtain ⟨av, nv, cv, rfl⟩ := rsl_form hvv
  obtain ⟨az, nz, cz, rfl⟩ := rsl_form hvs
  obtain ⟨ap, np, cp, rfl⟩ := rsl_form hvp
  obtain ⟨an, nn, cn, rfl⟩ := rsl_form hvn
  have hsl := gd.slen
  have rp : ∀ (M : List Chunk) (w : World), St S M w → Rets Tryd.prog 23 [.int .i64 4] w fun v w' => v = .int .i64 2 ∧ St S M w' := fun M w hst => rpops_ok w hst 4 (by decide)
  go_enter Tryd.func19, Tryd.ntmps19
  repeat' ((fail_if_success (with_reducible show Code.wp _ (Code.region 8 _ _) _ _ _)); first | (((with_reducible refine Sl.k_guard ?_; (first | (refine Sl.guard_yes rfl ?_) | (refine Sl.guard_cases rfl ?_ ?_ <;> intro hg <;> first | (exfalso; simp only [decide_eq_true_eq, decide_eq_false_iff_not, Bool.not_false, Bool.not_true, beq_iff_eq, beq_eq_false_iff_ne, ne_eq] at hg; omega) | (simp only [hg, Bool.not_true, Bool.not_false])) <;> (try simp only [decide_eq_true_eq, decide_eq_false_iff_not, Bool.not_false, Bool.not_true, beq_iff_eq, beq_eq_false_iff_ne, bne_iff_ne, bne_eq_false_iff_eq, ne_eq] at hg)))) <;> (try refine nX ?_)) | ((fail_if_success (go_big_may)); (go_step)) | ((first | (with_reducible refine Sl.k_load ?_; (refine s_qt hst (by first | exact qt_load rfl _ BoxIn.h inX rfl rfl | exact qt_ldp_flat evX asX inX inX rfl) ?_)) | (with_reducible refine Sl.k_field ?_; (refine s_qt hst (qt_field rfl inX) ?_)) | (with_reducible refine Sl.k_index ?_; (((refine s_ex hst (qt_index evX asX rfl inX inX omX omX) ?_); rintro v hp; (try simp only [Int.toNat_natCast, Int.toNat_natCast_add_one, Int.reduceToNat] at hp)))) | (with_reducible refine Sl.k_call ?_; (refine s_qt hst (by exact qt_len evX asX inX) ?_))) <;> (try refine nX ?_)) | (with_reducible refine Sl.gate rfl ?_; (go_step)) | ((((first | (with_reducible refine Sl.k_store ?_; (refine s_store hst rfl _ BoxIn.h inX evX rfl lenOk oneOk (by simp) ?_); clear hst; intro w hst) | (refine s_box hst evX rfl ?_; clear hst; intro bx w hst) | (refine s_alloc hst inX ?_; clear hst; intro bk w hst)))) <;> (try refine nX ?_) <;> (try replace hst := nH hst)))
  rw [hi] at hst hp ⊢
  simp only [insC] at hst ⊢
  repeat' (first | (((with_reducible refine Sl.k_guard ?_; ((refine Sl.guard_yes rfl ?_)))) <;> (try refine nX ?_)) | (((with_reducible refine Sl.k_call ?_; ((refine s_call (rp _ _ hst) inX rfl ?_; clear hst; rintro v w ⟨rfl, hst⟩)))) <;> (try refine nX ?_) <;> (try replace hst := nH hst)) | ((fail_if_success (go_big_may)); (go_step)) | ((first | (with_reducible refine Sl.k_load ?_; (first | refine s_qt hst (by exact qt_load rfl _ BoxIn.h inX rfl rfl) ?_ | (refine s_ex hst (qt_ldp_int evX asX inX) ?_; rintro v ⟨rfl, hI⟩))) | (with_reducible refine Sl.k_field ?_; (refine s_qt hst (qt_field rfl inX) ?_)) | (with_reducible refine Sl.k_index ?_; (((refine s_ex hst (qt_index evX asX rfl inX inX omX omX) ?_); rintro v hp; (try simp only [Int.toNat_natCast, Int.toNat_natCast_add_one, Int.reduceToNat] at hp)))) | (with_reducible refine Sl.k_call ?_; (refine s_qt hst (by exact qt_len evX asX inX) ?_))) <;> (try refine nX ?_)) | (with_reducible refine Sl.gate rfl ?_; (go_step)))
  obtain ⟨zs, hzs⟩ : ∃ zs, s.stack.take (s.stack.length - 2) = zs := ⟨_, rfl⟩
  have hzl : zs.length = s.stack.length - 2 := by rw [← hzs, List.length_take]; omega
  have hzin : ∀ y ∈ zs, inR y := hzs ▸ take_all gd.stack
  refine s_slice (a := 0) (b := s.stack.length - 2) evX hvs inX inX (.inl ⟨rfl, rfl⟩) (.inr ⟨.i64, by simp [evF, nth]; omega⟩) (.inl rfl) (by omega) (by omega) ?_
  intro vz hvz
  rw [List.drop_zero, Nat.sub_zero, hzs] at hvz
  obtain ⟨ay, ny, cy, rfl⟩ := rsl_form hvz
  (try refine nX ?_)
  have ht1 := top_in gd
  have ht2 := top_in (pop_good gd)
  have hw := binV_in 4 (topV (popV s)) (topV s)
  have hw0 := hw.1
  have hw1 := hw.2
  simp only [top_ata (show 1 ≤ s.stack.length by omega), top2_ata hn]
  have rb := fun (M : List Chunk) (w : World) (hst : St S M w) => rbinary_c w hst 4 (topV (popV s)) (topV s) (by decide) ht2 ht1
  repeat' (first | (((with_reducible refine Sl.k_call ?_; ((refine s_call (rb _ _ hst) inX rfl ?_; clear hst; rintro v w ⟨rfl, hst⟩)))) <;> (try refine nX ?_) <;> (try replace hst := nH hst)) | ((fail_if_success (go_big_may)); (go_step)) | ((first | (with_reducible refine Sl.k_load ?_; (refine s_qt hst (by exact qt_load rfl _ BoxIn.h inX rfl rfl) ?_)) | (with_reducible refine Sl.k_field ?_; (refine s_qt hst (qt_field rfl inX) ?_)) | (with_reducible refine Sl.k_call ?_; (refine s_qt hst (by exact qt_len evX asX inX) ?_))) <;> (try refine nX ?_)) | (with_reducible refine Sl.gate rfl ?_; (go_step)) | (((((with_reducible refine Sl.k_store ?_; (refine s_store hst rfl _ BoxIn.h inX evX rfl lenOk oneOk (by simp) ?_); clear hst; intro w hst)))) <;> (try refine nX ?_) <;> (try replace hst := nH hst)))
  refine s_lit (vs := []) (cs := []) hst inX inX rfl rfl (by simp) rfl (by omega) (by omega) ?_
  clear hst; intro x0 w hst
  (try refine nX ?_)
  repeat' (((first | (with_reducible refine Sl.k_load ?_; (refine s_qt hst (by exact qt_load rfl _ BoxIn.h inX rfl rfl) ?_)) | (with_reducible refine Sl.k_field ?_; (refine s_qt hst (qt_field rfl inX) ?_))) <;> (try refine nX ?_)))
  refine s_append_data (α := Int) (k := 0) hst evX evX rfl hvz inX inX inX (by omega) (by omega) (by decide) ?_
  clear hst; intro x2 w c2 hc2 hst
  (try refine nX ?_)
  obtain rfl := rl_ints_eq hc2
  clear hc2
  repeat' (((fail_if_success (go_big_may)); (go_step)))
  refine s_lit (vs := [.int .i64 (binV 4 (topV (popV s)) (topV s))]) (cs := cF intC [(binV 4 (topV (popV s)) (topV s))]) hst inX inX rfl rfl (by simp [Value.cells]) rfl (by omega) (by omega) ?_
  clear hst; intro x11 w hst
  (try refine nX ?_)
  repeat' (fail)
  refine s_append (k := 1) (j := 0) hst evX evX rfl rfl inX inX inX (by simp [cF, intC, Value.oneCell']) (by omega) (by omega) (by decide) ?_
  clear hst; intro x12 w hst
  (try refine nX ?_)
  simp only [List.set_cons_succ, List.set_cons_zero] at hst
  replace hst := hst.drop
  have fz := lit_int (zs ++ [(binV 4 (topV (popV s)) (topV s))]) (fun y hy => in_i64 (app_all hzin hw y hy)) hst (by simp only [cF_app, List.nil_append]) (by simp only [List.length_append, List.length_cons, List.length_nil]; omega)
  clear hst; obtain ⟨S2, hS2, hst, hsz⟩ := fz
  obtain ⟨ax, nx, cx, rfl⟩ := rsl_form hsz
  subst hzs
  repeat' (first | ((fail_if_success (go_big_may)); (go_step)) | ((first | (with_reducible refine Sl.k_load ?_; (refine s_qt hst (by exact qt_load rfl _ BoxIn.h inX rfl rfl) ?_)) | (with_reducible refine Sl.k_field ?_; (refine s_qt hst (qt_field rfl inX) ?_))) <;> (try refine nX ?_)) | (((((with_reducible refine Sl.k_store ?_; (refine s_store hst rfl _ BoxIn.h inX evX rfl lenOk oneOk (by simp) ?_); clear hst; intro w hst)))) <;> (try refine nX ?_) <;> (try replace hst := nH hst)))
  refine ret_cell rfl hst rfl 1 rfl inferInstance rfl rfl ?_
  exact ⟨_, rfl, S2, _, _, _, _, hS2, rfl, hvv.mono hS2, hsz, hvp.mono hS2, hvn.mono hS2, hst.drop.drop.drop.drop⟩
set_option maxRecDepth 60000 in
set_option maxHeartbeats 8000000 in
theorem step_5 (w : World) (hst : St S M w) (hvi : RSl S vi c.1) (hvm : c.1.length ≤ 1048576) (hvv : RSl S vv s.vars) (hvs : RSl S vs s.stack) (hvp : RSl S vp s.pts) (hvn : RSl S vn s.notes) (h3 : s.steps < 3000) (hp0 : 0 ≤ s.pc) (hp1 : s.pc < c.1.length) (gd : GoodV c s) {a b : Int} {u : Unit}
    (hi : c.1[s.pc.toNat]'(by omega) = (5, a, b, u)) (hn : 2 ≤ s.stack.length) :
    Rets Tryd.prog 19 [codeVal vi c, stVal s vv vs vp vn 0, vg] w fun v w' => OkPost S M { nextV s with stack := s.stack.take (s.stack.length - 2) ++ [binV 5 (topV (popV s)) (topV s)] } v w' := by
  unfold Rets
  obtain ⟨ai, ni, ci, rfl⟩ := rsl_form hvi
  obtain ⟨av, nv, cv, rfl⟩ := rsl_form hvv
  obtain ⟨az, nz, cz, rfl⟩ := rsl_form hvs
  obtain ⟨ap, np, cp, rfl⟩ := rsl_form hvp
  obtain ⟨an, nn, cn, rfl⟩ := rsl_form hvn
  have hsl := gd.slen
  have rp : ∀ (M : List Chunk) (w : World), St S M w → Rets Tryd.prog 23 [.int .i64 5] w fun v w' => v = .int .i64 2 ∧ St S M w' := fun M w hst => rpops_ok w hst 5 (by decide)
  go_enter Tryd.func19, Tryd.ntmps19
  repeat' ((fail_if_success (with_reducible show Code.wp _ (Code.region 8 _ _) _ _ _)); first | (((with_reducible refine Sl.k_guard ?_; (first | (refine Sl.guard_yes rfl ?_) | (refine Sl.guard_cases rfl ?_ ?_ <;> intro hg <;> first | (exfalso; simp only [decide_eq_true_eq, decide_eq_false_iff_not, Bool.not_false, Bool.not_true, beq_iff_eq, beq_eq_false_iff_ne, ne_eq] at hg; omega) | (simp only [hg, Bool.not_true, Bool.not_false])) <;> (try simp only [decide_eq_true_eq, decide_eq_false_iff_not, Bool.not_false, Bool.not_true, beq_iff_eq, beq_eq_false_iff_ne, bne_iff_ne, bne_eq_false_iff_eq, ne_eq] at hg)))) <;> (try refine nX ?_)) | ((fail_if_success (go_big_may)); (go_step)) | ((first | (with_reducible refine Sl.k_load ?_; (refine s_qt hst (by first | exact qt_load rfl _ BoxIn.h inX rfl rfl | exact qt_ldp_flat evX asX inX inX rfl) ?_)) | (with_reducible refine Sl.k_field ?_; (refine s_qt hst (qt_field rfl inX) ?_)) | (with_reducible refine Sl.k_index ?_; (((refine s_ex hst (qt_index evX asX rfl inX inX omX omX) ?_); rintro v hp; (try simp only [Int.toNat_natCast, Int.toNat_natCast_add_one, Int.reduceToNat] at hp)))) | (with_reducible refine Sl.k_call ?_; (refine s_qt hst (by exact qt_len evX asX inX) ?_))) <;> (try refine nX ?_)) | (with_reducible refine Sl.gate rfl ?_; (go_step)) | ((((first | (with_reducible refine Sl.k_store ?_; (refine s_store hst rfl _ BoxIn.h inX evX rfl lenOk oneOk (by simp) ?_); clear hst; intro w hst) | (refine s_box hst evX rfl ?_; clear hst; intro bx w hst) | (refine s_alloc hst inX ?_; clear hst; intro bk w hst)))) <;> (try refine nX ?_) <;> (try replace hst := nH hst)))
  rw [hi] at hst hp ⊢
  simp only [insC] at hst ⊢
  repeat' (first | (((with_reducible refine Sl.k_guard ?_; ((refine Sl.guard_yes rfl ?_)))) <;> (try refine nX ?_)) | (((with_reducible refine Sl.k_call ?_; ((refine s_call (rp _ _ hst) inX rfl ?_; clear hst; rintro v w ⟨rfl, hst⟩)))) <;> (try refine nX ?_) <;> (try replace hst := nH hst)) | ((fail_if_success (go_big_may)); (go_step)) | ((first | (with_reducible refine Sl.k_load ?_; (first | refine s_qt hst (by exact qt_load rfl _ BoxIn.h inX rfl rfl) ?_ | (refine s_ex hst (qt_ldp_int evX asX inX) ?_; rintro v ⟨rfl, hI⟩))) | (with_reducible refine Sl.k_field ?_; (refine s_qt hst (qt_field rfl inX) ?_)) | (with_reducible refine Sl.k_index ?_; (((refine s_ex hst (qt_index evX asX rfl inX inX omX omX) ?_); rintro v hp; (try simp only [Int.toNat_natCast, Int.toNat_natCast_add_one, Int.reduceToNat] at hp)))) | (with_reducible refine Sl.k_call ?_; (refine s_qt hst (by exact qt_len evX asX inX) ?_))) <;> (try refine nX ?_)) | (with_reducible refine Sl.gate rfl ?_; (go_step)))
  obtain ⟨zs, hzs⟩ : ∃ zs, s.stack.take (s.stack.length - 2) = zs := ⟨_, rfl⟩
  have hzl : zs.length = s.stack.length - 2 := by rw [← hzs, List.length_take]; omega
  have hzin : ∀ y ∈ zs, inR y := hzs ▸ take_all gd.stack
  refine s_slice (a := 0) (b := s.stack.length - 2) evX hvs inX inX (.inl ⟨rfl, rfl⟩) (.inr ⟨.i64, by simp [evF, nth]; omega⟩) (.inl rfl) (by omega) (by omega) ?_
  intro vz hvz
  rw [List.drop_zero, Nat.sub_zero, hzs] at hvz
  obtain ⟨ay, ny, cy, rfl⟩ := rsl_form hvz
  (try refine nX ?_)
  have ht1 := top_in gd
  have ht2 := top_in (pop_good gd)
  have hw := binV_in 5 (topV (popV s)) (topV s)
  have hw0 := hw.1
  have hw1 := hw.2
  simp only [top_ata (show 1 ≤ s.stack.length by omega), top2_ata hn]
  have rb := fun (M : List Chunk) (w : World) (hst : St S M w) => rbinary_c w hst 5 (topV (popV s)) (topV s) (by decide) ht2 ht1
  repeat' (first | (((with_reducible refine Sl.k_call ?_; ((refine s_call (rb _ _ hst) inX rfl ?_; clear hst; rintro v w ⟨rfl, hst⟩)))) <;> (try refine nX ?_) <;> (try replace hst := nH hst)) | ((fail_if_success (go_big_may)); (go_step)) | ((first | (with_reducible refine Sl.k_load ?_; (refine s_qt hst (by exact qt_load rfl _ BoxIn.h inX rfl rfl) ?_)) | (with_reducible refine Sl.k_field ?_; (refine s_qt hst (qt_field rfl inX) ?_)) | (with_reducible refine Sl.k_call ?_; (refine s_qt hst (by exact qt_len evX asX inX) ?_))) <;> (try refine nX ?_)) | (with_reducible refine Sl.gate rfl ?_; (go_step)) | (((((with_reducible refine Sl.k_store ?_; (refine s_store hst rfl _ BoxIn.h inX evX rfl lenOk oneOk (by simp) ?_); clear hst; intro w hst)))) <;> (try refine nX ?_) <;> (try replace hst := nH hst)))
  refine s_lit (vs := []) (cs := []) hst inX inX rfl rfl (by simp) rfl (by omega) (by omega) ?_
  clear hst; intro x0 w hst
  (try refine nX ?_)
  repeat' (((first | (with_reducible refine Sl.k_load ?_; (refine s_qt hst (by exact qt_load rfl _ BoxIn.h inX rfl rfl) ?_)) | (with_reducible refine Sl.k_field ?_; (refine s_qt hst (qt_field rfl inX) ?_))) <;> (try refine nX ?_)))
  refine s_append_data (α := Int) (k := 0) hst evX evX rfl hvz inX inX inX (by omega) (by omega) (by decide) ?_
  clear hst; intro x2 w c2 hc2 hst
  (try refine nX ?_)
  obtain rfl := rl_ints_eq hc2
  clear hc2
  repeat' (((fail_if_success (go_big_may)); (go_step)))
  refine s_lit (vs := [.int .i64 (binV 5 (topV (popV s)) (topV s))]) (cs := cF intC [(binV 5 (topV (popV s)) (topV s))]) hst inX inX rfl rfl (by simp [Value.cells]) rfl (by omega) (by omega) ?_
  clear hst; intro x11 w hst
  (try refine nX ?_)
  repeat' (fail)
  refine s_append (k := 1) (j := 0) hst evX evX rfl rfl inX inX inX (by simp [cF, intC, Value.oneCell']) (by omega) (by omega) (by decide) ?_
  clear hst; intro x12 w hst
  (try refine nX ?_)
  simp only [List.set_cons_succ, List.set_cons_zero] at hst
  replace hst := hst.drop
  have fz := lit_int (zs ++ [(binV 5 (topV (popV s)) (topV s))]) (fun y hy => in_i64 (app_all hzin hw y hy)) hst (by simp only [cF_app, List.nil_append]) (by simp only [List.length_append, List.length_cons, List.length_nil]; omega)
  clear hst; obtain ⟨S2, hS2, hst, hsz⟩ := fz
  obtain ⟨ax, nx, cx, rfl⟩ := rsl_form hsz
  subst hzs
  repeat' (first | ((fail_if_success (go_big_may)); (go_step)) | ((first | (with_reducible refine Sl.k_load ?_; (refine s_qt hst (by exact qt_load rfl _ BoxIn.h inX rfl rfl) ?_)) | (with_reducible refine Sl.k_field ?_; (refine s_qt hst (qt_field rfl inX) ?_))) <;> (try refine nX ?_)) | (((((with_reducible refine Sl.k_store ?_; (refine s_store hst rfl _ BoxIn.h inX evX rfl lenOk oneOk (by simp) ?_); clear hst; intro w hst)))) <;> (try refine nX ?_) <;> (try replace hst := nH hst)))
  refine ret_cell rfl hst rfl 1 rfl inferInstance rfl rfl ?_
  exact ⟨_, rfl, S2, _, _, _, _, hS2, rfl, hvv.mono hS2, hsz, hvp.mono hS2, hvn.mono hS2, hst.drop.drop.drop.drop⟩
end
end Go.Proofs.YtmbdbfdlbbkclaaDoor

/- The reference machine: a step, negation and notes. -/
--@hgp
--@flat
--@ex0
namespace Go.Proofs.YtmbdbfdlbbkclaaDoor
set_option linter.unusedSimpArgs false
set_option linter.unusedVariables false
open Go.RowKit Go.Sl
section
variable {S : Snap} {M : List Chunk} {vi vg : Value} {c : CodeD} {s : VS} {vv vs vp vn : Value}
theorem top_atd {s : VS} (h : 1 ≤ s.stack.length) : s.stack[((s.stack.length : Int) - 1).toNat]'(by omega) = topV s := by
  have e : ((s.stack.length : Int) - 1).toNat = s.stack.length - 1 := by omega
  simp only [e]
  exact (getD_at (by omega)).symm
theorem top2_atd {s : VS} (h : 2 ≤ s.stack.length) : s.stack[((s.stack.length : Int) - 2).toNat]'(by omega) = topV (popV s) := by
  have e : ((s.stack.length : Int) - 2).toNat = s.stack.length - 2 := by omega
  simp only [e]
  unfold topV popV
  simp only [List.length_take]
  have e2 : min (s.stack.length - 1) s.stack.length - 1 = s.stack.length - 2 := by omega
  rw [e2, List.getD_eq_getElem?_getD, List.getElem?_take_of_lt (by omega), List.getElem?_eq_getElem (by omega)]
  rfl
theorem rwith_dd {S M} (w : World) (hst : St S M w) (vs : Value) (xs : List Int) (hxs : RSl S vs xs) (hm : xs.length ≤ 1048576) (k : Nat) (hk : k < xs.length) (x : Int) (hx : I64 x) :
    Rets Tryd.prog 25 [vs, .int .i64 (k : Int), .int .i64 x] w fun v w' => ∃ S' a n c, S.Le S' ∧ v = .slice a n c ∧ RSl S' (.slice a n c) (setV xs k x) ∧ St S' M w' :=
  (rwith_c w hst vs xs hxs hm k hk x hx).mono fun v w' ⟨S', h1, h2, h3⟩ => by
    obtain ⟨a, n, c, rfl⟩ := rsl_form h2
    exact ⟨S', a, n, c, h1, rfl, h2, h3⟩
set_option maxRecDepth 60000 in
set_option maxHeartbeats 8000000 in
theorem step_11 (w : World) (hst : St S M w) (hvi : RSl S vi c.1) (hvm : c.1.length ≤ 1048576) (hvv : RSl S vv s.vars) (hvs : RSl S vs s.stack) (hvp : RSl S vp s.pts) (hvn : RSl S vn s.notes) (h3 : s.steps < 3000) (hp0 : 0 ≤ s.pc) (hp1 : s.pc < c.1.length) (gd : GoodV c s) {a b : Int} {u : Unit}
    (hi : c.1[s.pc.toNat]'(by omega) = (11, a, b, u)) (hn : 1 ≤ s.stack.length) :
    Rets Tryd.prog 19 [codeVal vi c, stVal s vv vs vp vn 0, vg] w fun v w' => OkPost S M { nextV s with stack := s.stack.take (s.stack.length - 1) ++ [truthV (topV s == 0)] } v w' := by
  unfold Rets
  obtain ⟨ai, ni, ci, rfl⟩ := rsl_form hvi
  obtain ⟨av, nv, cv, rfl⟩ := rsl_form hvv
  obtain ⟨az, nz, cz, rfl⟩ := rsl_form hvs
  obtain ⟨ap, np, cp, rfl⟩ := rsl_form hvp
  obtain ⟨an, nn, cn, rfl⟩ := rsl_form hvn
  have hsl := gd.slen
  have rp : ∀ (M : List Chunk) (w : World), St S M w → Rets Tryd.prog 23 [.int .i64 11] w fun v w' => v = .int .i64 1 ∧ St S M w' := fun M w hst => rpops_ok w hst 11 (by decide)
  go_enter Tryd.func19, Tryd.ntmps19
  repeat' ((fail_if_success (with_reducible show Code.wp _ (Code.region 8 _ _) _ _ _)); first | (((with_reducible refine Sl.k_guard ?_; (first | (refine Sl.guard_yes rfl ?_) | (refine Sl.guard_cases rfl ?_ ?_ <;> intro hg <;> first | (exfalso; simp only [decide_eq_true_eq, decide_eq_false_iff_not, Bool.not_false, Bool.not_true, beq_iff_eq, beq_eq_false_iff_ne, ne_eq] at hg; omega) | (simp only [hg, Bool.not_true, Bool.not_false])) <;> (try simp only [decide_eq_true_eq, decide_eq_false_iff_not, Bool.not_false, Bool.not_true, beq_iff_eq, beq_eq_false_iff_ne, bne_iff_ne, bne_eq_false_iff_eq, ne_eq] at hg)))) <;> (try refine nX ?_)) | ((fail_if_success (go_big_may)); (go_step)) | ((first | (with_reducible refine Sl.k_load ?_; (refine s_qt hst (by first | exact qt_load rfl _ BoxIn.h inX rfl rfl | exact qt_ldp_flat evX asX inX inX rfl) ?_)) | (with_reducible refine Sl.k_field ?_; (refine s_qt hst (qt_field rfl inX) ?_)) | (with_reducible refine Sl.k_index ?_; (((refine s_ex hst (qt_index evX asX rfl inX inX omX omX) ?_); rintro v hp; (try simp only [Int.toNat_natCast, Int.toNat_natCast_add_one, Int.reduceToNat] at hp)))) | (with_reducible refine Sl.k_call ?_; (refine s_qt hst (by exact qt_len evX asX inX) ?_))) <;> (try refine nX ?_)) | (with_reducible refine Sl.gate rfl ?_; (go_step)) | ((((first | (with_reducible refine Sl.k_store ?_; (refine s_store hst rfl _ BoxIn.h inX evX rfl lenOk oneOk (by simp) ?_); clear hst; intro w hst) | (refine s_box hst evX rfl ?_; clear hst; intro bx w hst) | (refine s_alloc hst inX ?_; clear hst; intro bk w hst)))) <;> (try refine nX ?_) <;> (try replace hst := nH hst)))
  rw [hi] at hst hp ⊢
  simp only [insC] at hst ⊢
  repeat' (first | (((with_reducible refine Sl.k_guard ?_; ((refine Sl.guard_yes rfl ?_)))) <;> (try refine nX ?_)) | (((with_reducible refine Sl.k_call ?_; ((refine s_call (rp _ _ hst) inX rfl ?_; clear hst; rintro v w ⟨rfl, hst⟩)))) <;> (try refine nX ?_) <;> (try replace hst := nH hst)) | ((fail_if_success (go_big_may)); (go_step)) | ((first | (with_reducible refine Sl.k_load ?_; (first | refine s_qt hst (by exact qt_load rfl _ BoxIn.h inX rfl rfl) ?_ | (refine s_ex hst (qt_ldp_int evX asX inX) ?_; rintro v ⟨rfl, hI⟩))) | (with_reducible refine Sl.k_field ?_; (refine s_qt hst (qt_field rfl inX) ?_)) | (with_reducible refine Sl.k_index ?_; (((refine s_ex hst (qt_index evX asX rfl inX inX omX omX) ?_); rintro v hp; (try simp only [Int.toNat_natCast, Int.toNat_natCast_add_one, Int.reduceToNat] at hp)))) | (with_reducible refine Sl.k_call ?_; (refine s_qt hst (by exact qt_len evX asX inX) ?_))) <;> (try refine nX ?_)) | (with_reducible refine Sl.gate rfl ?_; (go_step)))
  obtain ⟨zs, hzs⟩ : ∃ zs, s.stack.take (s.stack.length - 1) = zs := ⟨_, rfl⟩
  have hzl : zs.length = s.stack.length - 1 := by rw [← hzs, List.length_take]; omega
  have hzin : ∀ y ∈ zs, inR y := hzs ▸ take_all gd.stack
  refine s_slice (a := 0) (b := s.stack.length - 1) evX hvs inX inX (.inl ⟨rfl, rfl⟩) (.inr ⟨.i64, by simp [evF, nth]; omega⟩) (.inl rfl) (by omega) (by omega) ?_
  intro vz hvz
  rw [List.drop_zero, Nat.sub_zero, hzs] at hvz
  obtain ⟨ay, ny, cy, rfl⟩ := rsl_form hvz
  (try refine nX ?_)
  have hw := truthV_in (topV s == 0)
  have hw0 := hw.1
  simp only [top_atd hn]
  have rb := fun (M : List Chunk) (w : World) (hst : St S M w) => rtruth_c w hst (topV s == 0)
  repeat' (first | (((with_reducible refine Sl.k_call ?_; ((refine s_call (rb _ _ hst) inX rfl ?_; clear hst; rintro v w ⟨rfl, hst⟩)))) <;> (try refine nX ?_) <;> (try replace hst := nH hst)) | ((fail_if_success (go_big_may)); (go_step)) | ((first | (with_reducible refine Sl.k_load ?_; (refine s_qt hst (by exact qt_load rfl _ BoxIn.h inX rfl rfl) ?_)) | (with_reducible refine Sl.k_field ?_; (refine s_qt hst (qt_field rfl inX) ?_)) | (with_reducible refine Sl.k_call ?_; (refine s_qt hst (by exact qt_len evX asX inX) ?_))) <;> (try refine nX ?_)) | (with_reducible refine Sl.gate rfl ?_; (go_step)) | (((((with_reducible refine Sl.k_store ?_; (refine s_store hst rfl _ BoxIn.h inX evX rfl lenOk oneOk (by simp) ?_); clear hst; intro w hst)))) <;> (try refine nX ?_) <;> (try replace hst := nH hst)))
  refine s_lit (vs := []) (cs := []) hst inX inX rfl rfl (by simp) rfl (by omega) (by omega) ?_
  clear hst; intro x0 w hst
  (try refine nX ?_)
  repeat' (((first | (with_reducible refine Sl.k_load ?_; (refine s_qt hst (by exact qt_load rfl _ BoxIn.h inX rfl rfl) ?_)) | (with_reducible refine Sl.k_field ?_; (refine s_qt hst (qt_field rfl inX) ?_))) <;> (try refine nX ?_)))
  refine s_append_data (α := Int) (k := 0) hst evX evX rfl hvz inX inX inX (by omega) (by omega) (by decide) ?_
  clear hst; intro x2 w c2 hc2 hst
  (try refine nX ?_)
  obtain rfl := rl_ints_eq hc2
  clear hc2
  repeat' (((fail_if_success (go_big_may)); (go_step)))
  refine s_lit (vs := [.int .i64 (truthV (topV s == 0))]) (cs := cF intC [(truthV (topV s == 0))]) hst inX inX rfl rfl (by simp [Value.cells]) rfl (by omega) (by omega) ?_
  clear hst; intro x11 w hst
  (try refine nX ?_)
  repeat' (fail)
  refine s_append (k := 1) (j := 0) hst evX evX rfl rfl inX inX inX (by simp [cF, intC, Value.oneCell']) (by omega) (by omega) (by decide) ?_
  clear hst; intro x12 w hst
  (try refine nX ?_)
  simp only [List.set_cons_succ, List.set_cons_zero] at hst
  replace hst := hst.drop
  have fz := lit_int (zs ++ [(truthV (topV s == 0))]) (fun y hy => in_i64 (app_all hzin hw y hy)) hst (by simp only [cF_app, List.nil_append]) (by simp only [List.length_append, List.length_cons, List.length_nil]; omega)
  clear hst; obtain ⟨S2, hS2, hst, hsz⟩ := fz
  obtain ⟨ax, nx, cx, rfl⟩ := rsl_form hsz
  subst hzs
  repeat' (first | ((fail_if_success (go_big_may)); (go_step)) | ((first | (with_reducible refine Sl.k_load ?_; (refine s_qt hst (by exact qt_load rfl _ BoxIn.h inX rfl rfl) ?_)) | (with_reducible refine Sl.k_field ?_; (refine s_qt hst (qt_field rfl inX) ?_))) <;> (try refine nX ?_)) | (((((with_reducible refine Sl.k_store ?_; (refine s_store hst rfl _ BoxIn.h inX evX rfl lenOk oneOk (by simp) ?_); clear hst; intro w hst)))) <;> (try refine nX ?_) <;> (try replace hst := nH hst)))
  refine ret_cell rfl hst rfl 1 rfl inferInstance rfl rfl ?_
  exact ⟨_, rfl, S2, _, _, _, _, hS2, rfl, hvv.mono hS2, hsz, hvp.mono hS2, hvn.mono hS2, hst.drop.drop.drop.drop⟩
set_option maxRecDepth 60000 in
set_option maxHeartbeats 8000000 in
theorem step_14 (w : World) (hst : St S M w) (hvi : RSl S vi c.1) (hvm : c.1.length ≤ 1048576) (hvv : RSl S vv s.vars) (hvs : RSl S vs s.stack) (hvp : RSl S vp s.pts) (hvn : RSl S vn s.notes) (h3 : s.steps < 3000) (hp0 : 0 ≤ s.pc) (hp1 : s.pc < c.1.length) (gd : GoodV c s) {a b : Int} {u : Unit}
    (hi : c.1[s.pc.toNat]'(by omega) = (14, a, b, u)) (hn : 1 ≤ s.stack.length) (hnl : s.notes.length ≤ 3000) :
    Rets Tryd.prog 19 [codeVal vi c, stVal s vv vs vp vn 0, vg] w fun v w' => OkPost S M { nextV s with stack := s.stack.take (s.stack.length - 1), notes := s.notes ++ [topV s] } v w' := by
  unfold Rets
  obtain ⟨ai, ni, ci, rfl⟩ := rsl_form hvi
  obtain ⟨av, nv, cv, rfl⟩ := rsl_form hvv
  obtain ⟨az, nz, cz, rfl⟩ := rsl_form hvs
  obtain ⟨ap, np, cp, rfl⟩ := rsl_form hvp
  obtain ⟨an, nn, cn, rfl⟩ := rsl_form hvn
  have hsl := gd.slen
  have rp : ∀ (M : List Chunk) (w : World), St S M w → Rets Tryd.prog 23 [.int .i64 14] w fun v w' => v = .int .i64 1 ∧ St S M w' := fun M w hst => rpops_ok w hst 14 (by decide)
  go_enter Tryd.func19, Tryd.ntmps19
  repeat' ((fail_if_success (with_reducible show Code.wp _ (Code.region 8 _ _) _ _ _)); first | (((with_reducible refine Sl.k_guard ?_; (first | (refine Sl.guard_yes rfl ?_) | (refine Sl.guard_cases rfl ?_ ?_ <;> intro hg <;> first | (exfalso; simp only [decide_eq_true_eq, decide_eq_false_iff_not, Bool.not_false, Bool.not_true, beq_iff_eq, beq_eq_false_iff_ne, ne_eq] at hg; omega) | (simp only [hg, Bool.not_true, Bool.not_false])) <;> (try simp only [decide_eq_true_eq, decide_eq_false_iff_not, Bool.not_false, Bool.not_true, beq_iff_eq, beq_eq_false_iff_ne, bne_iff_ne, bne_eq_false_iff_eq, ne_eq] at hg)))) <;> (try refine nX ?_)) | ((fail_if_success (go_big_may)); (go_step)) | ((first | (with_reducible refine Sl.k_load ?_; (refine s_qt hst (by first | exact qt_load rfl _ BoxIn.h inX rfl rfl | exact qt_ldp_flat evX asX inX inX rfl) ?_)) | (with_reducible refine Sl.k_field ?_; (refine s_qt hst (qt_field rfl inX) ?_)) | (with_reducible refine Sl.k_index ?_; (((refine s_ex hst (qt_index evX asX rfl inX inX omX omX) ?_); rintro v hp; (try simp only [Int.toNat_natCast, Int.toNat_natCast_add_one, Int.reduceToNat] at hp)))) | (with_reducible refine Sl.k_call ?_; (refine s_qt hst (by exact qt_len evX asX inX) ?_))) <;> (try refine nX ?_)) | (with_reducible refine Sl.gate rfl ?_; (go_step)) | ((((first | (with_reducible refine Sl.k_store ?_; (refine s_store hst rfl _ BoxIn.h inX evX rfl lenOk oneOk (by simp) ?_); clear hst; intro w hst) | (refine s_box hst evX rfl ?_; clear hst; intro bx w hst) | (refine s_alloc hst inX ?_; clear hst; intro bk w hst)))) <;> (try refine nX ?_) <;> (try replace hst := nH hst)))
  rw [hi] at hst hp ⊢
  simp only [insC] at hst ⊢
  repeat' (first | (((with_reducible refine Sl.k_guard ?_; ((refine Sl.guard_yes rfl ?_)))) <;> (try refine nX ?_)) | (((with_reducible refine Sl.k_call ?_; ((refine s_call (rp _ _ hst) inX rfl ?_; clear hst; rintro v w ⟨rfl, hst⟩)))) <;> (try refine nX ?_) <;> (try replace hst := nH hst)) | ((fail_if_success (go_big_may)); (go_step)) | ((first | (with_reducible refine Sl.k_load ?_; (first | refine s_qt hst (by exact qt_load rfl _ BoxIn.h inX rfl rfl) ?_ | (refine s_ex hst (qt_ldp_int evX asX inX) ?_; rintro v ⟨rfl, hI⟩))) | (with_reducible refine Sl.k_field ?_; (refine s_qt hst (qt_field rfl inX) ?_)) | (with_reducible refine Sl.k_index ?_; (((refine s_ex hst (qt_index evX asX rfl inX inX omX omX) ?_); rintro v hp; (try simp only [Int.toNat_natCast, Int.toNat_natCast_add_one, Int.reduceToNat] at hp)))) | (with_reducible refine Sl.k_call ?_; (refine s_qt hst (by exact qt_len evX asX inX) ?_))) <;> (try refine nX ?_)) | (with_reducible refine Sl.gate rfl ?_; (go_step)))
  obtain ⟨zs, hzs⟩ : ∃ zs, s.stack.take (s.stack.length - 1) = zs := ⟨_, rfl⟩
  have hzl : zs.length = s.stack.length - 1 := by rw [← hzs, List.length_take]; omega
  have hzin : ∀ y ∈ zs, inR y := hzs ▸ take_all gd.stack
  refine s_slice (a := 0) (b := s.stack.length - 1) evX hvs inX inX (.inl ⟨rfl, rfl⟩) (.inr ⟨.i64, by simp [evF, nth]; omega⟩) (.inl rfl) (by omega) (by omega) ?_
  intro vz hvz
  rw [List.drop_zero, Nat.sub_zero, hzs] at hvz
  obtain ⟨ay, ny, cy, rfl⟩ := rsl_form hvz
  (try refine nX ?_)
  have hw := top_in gd
  simp only [top_atd hn]
  repeat' (first | ((fail_if_success (go_big_may)); (go_step)) | ((first | (with_reducible refine Sl.k_load ?_; (refine s_qt hst (by exact qt_load rfl _ BoxIn.h inX rfl rfl) ?_)) | (with_reducible refine Sl.k_field ?_; (refine s_qt hst (qt_field rfl inX) ?_))) <;> (try refine nX ?_)) | (with_reducible refine Sl.gate rfl ?_; (go_step)) | (((((with_reducible refine Sl.k_store ?_; (refine s_store hst rfl _ BoxIn.h inX evX rfl lenOk oneOk (by simp) ?_); clear hst; intro w hst)))) <;> (try refine nX ?_) <;> (try replace hst := nH hst)))
  refine s_lit (vs := []) (cs := []) hst inX inX rfl rfl (by simp) rfl (by omega) (by omega) ?_
  clear hst; intro x0 w hst
  (try refine nX ?_)
  repeat' (((first | (with_reducible refine Sl.k_load ?_; (refine s_qt hst (by exact qt_load rfl _ BoxIn.h inX rfl rfl) ?_)) | (with_reducible refine Sl.k_field ?_; (refine s_qt hst (qt_field rfl inX) ?_))) <;> (try refine nX ?_)))
  refine s_append_data (α := Int) (k := 0) hst evX evX rfl hvn inX inX inX (by omega) (by omega) (by decide) ?_
  clear hst; intro x2 w c2 hc2 hst
  (try refine nX ?_)
  obtain rfl := rl_ints_eq hc2
  clear hc2
  repeat' (((fail_if_success (go_big_may)); (go_step)))
  refine s_lit (vs := [.int .i64 (topV s)]) (cs := cF intC [(topV s)]) hst inX inX rfl rfl (by simp [Value.cells]) rfl (by omega) (by omega) ?_
  clear hst; intro x11 w hst
  (try refine nX ?_)
  repeat' (fail)
  refine s_append (k := 1) (j := 0) hst evX evX rfl rfl inX inX inX (by simp [cF, intC, Value.oneCell']) (by omega) (by omega) (by decide) ?_
  clear hst; intro x12 w hst
  (try refine nX ?_)
  simp only [List.set_cons_succ, List.set_cons_zero] at hst
  replace hst := hst.drop
  have fz := lit_int (s.notes ++ [(topV s)]) (fun y hy => in_i64 (app_all gd.notes hw y hy)) hst (by simp only [cF_app, List.nil_append]) (by simp only [List.length_append, List.length_cons, List.length_nil]; omega)
  clear hst; obtain ⟨S2, hS2, hst, hsz⟩ := fz
  obtain ⟨ax, nx, cx, rfl⟩ := rsl_form hsz
  subst hzs
  repeat' (first | ((fail_if_success (go_big_may)); (go_step)) | ((first | (with_reducible refine Sl.k_load ?_; (refine s_qt hst (by exact qt_load rfl _ BoxIn.h inX rfl rfl) ?_)) | (with_reducible refine Sl.k_field ?_; (refine s_qt hst (qt_field rfl inX) ?_))) <;> (try refine nX ?_)) | (with_reducible refine Sl.gate rfl ?_; (go_step)) | (((((with_reducible refine Sl.k_store ?_; (refine s_store hst rfl _ BoxIn.h inX evX rfl lenOk oneOk (by simp) ?_); clear hst; intro w hst)))) <;> (try refine nX ?_) <;> (try replace hst := nH hst)))
  refine ret_cell rfl hst rfl 1 rfl inferInstance rfl rfl ?_
  exact ⟨_, rfl, S2, _, _, _, _, hS2, rfl, hvv.mono hS2, hvz.mono hS2, hvp.mono hS2, hsz, hst.drop.drop.drop.drop⟩
end
end Go.Proofs.YtmbdbfdlbbkclaaDoor

/- The reference machine: a step, arithmetic and comparisons. -/
--@hgp
--@flat
--@ex0
namespace Go.Proofs.YtmbdbfdlbbkclaaDoor
set_option linter.unusedSimpArgs false
set_option linter.unusedVariables false
open Go.RowKit Go.Sl
section
variable {S : Snap} {M : List Chunk} {vi vg : Value} {c : CodeD} {s : VS} {vv vs vp vn : Value}
theorem top_atb {s : VS} (h : 1 ≤ s.stack.length) : s.stack[((s.stack.length : Int) - 1).toNat]'(by omega) = topV s := by
  have e : ((s.stack.length : Int) - 1).toNat = s.stack.length - 1 := by omega
  simp only [e]
  exact (getD_at (by omega)).symm
theorem top2_atb {s : VS} (h : 2 ≤ s.stack.length) : s.stack[((s.stack.length : Int) - 2).toNat]'(by omega) = topV (popV s) := by
  have e : ((s.stack.length : Int) - 2).toNat = s.stack.length - 2 := by omega
  simp only [e]
  unfold topV popV
  simp only [List.length_take]
  have e2 : min (s.stack.length - 1) s.stack.length - 1 = s.stack.length - 2 := by omega
  rw [e2, List.getD_eq_getElem?_getD, List.getElem?_take_of_lt (by omega), List.getElem?_eq_getElem (by omega)]
  rfl
theorem rwith_db {S M} (w : World) (hst : St S M w) (vs : Value) (xs : List Int) (hxs : RSl S vs xs) (hm : xs.length ≤ 1048576) (k : Nat) (hk : k < xs.length) (x : Int) (hx : I64 x) :
    Rets Tryd.prog 25 [vs, .int .i64 (k : Int), .int .i64 x] w fun v w' => ∃ S' a n c, S.Le S' ∧ v = .slice a n c ∧ RSl S' (.slice a n c) (setV xs k x) ∧ St S' M w' :=
  (rwith_c w hst vs xs hxs hm k hk x hx).mono fun v w' ⟨S', h1, h2, h3⟩ => by
    obtain ⟨a, n, c, rfl⟩ := rsl_form h2
    exact ⟨S', a, n, c, h1, rfl, h2, h3⟩
set_option maxRecDepth 60000 in
set_option maxHeartbeats 8000000 in
theorem step_6 (w : World) (hst : St S M w) (hvi : RSl S vi c.1) (hvm : c.1.length ≤ 1048576) (hvv : RSl S vv s.vars) (hvs : RSl S vs s.stack) (hvp : RSl S vp s.pts) (hvn : RSl S vn s.notes) (h3 : s.steps < 3000) (hp0 : 0 ≤ s.pc) (hp1 : s.pc < c.1.length) (gd : GoodV c s) {a b : Int} {u : Unit}
    (hi : c.1[s.pc.toNat]'(by omega) = (6, a, b, u)) (hn : 2 ≤ s.stack.length) :
    Rets Tryd.prog 19 [codeVal vi c, stVal s vv vs vp vn 0, vg] w fun v w' => OkPost S M { nextV s with stack := s.stack.take (s.stack.length - 2) ++ [binV 6 (topV (popV s)) (topV s)] } v w' := by
  unfold Rets
  obtain ⟨ai, ni, ci, rfl⟩ := rsl_form hvi
  obtain ⟨av, nv, cv, rfl⟩ := rsl_form hvv
  obtain ⟨az, nz, cz, rfl⟩ := rsl_form hvs
  obtain ⟨ap, np, cp, rfl⟩ := rsl_form hvp
  obtain ⟨an, nn, cn, rfl⟩ := rsl_form hvn
  have hsl := gd.slen
  have rp : ∀ (M : List Chunk) (w : World), St S M w → Rets Tryd.prog 23 [.int .i64 6] w fun v w' => v = .int .i64 2 ∧ St S M w' := fun M w hst => rpops_ok w hst 6 (by decide)
  go_enter Tryd.func19, Tryd.ntmps19
  repeat' ((fail_if_success (with_reducible show Code.wp _ (Code.region 8 _ _) _ _ _)); first | (((with_reducible refine Sl.k_guard ?_; (first | (refine Sl.guard_yes rfl ?_) | (refine Sl.guard_cases rfl ?_ ?_ <;> intro hg <;> first | (exfalso; simp only [decide_eq_true_eq, decide_eq_false_iff_not, Bool.not_false, Bool.not_true, beq_iff_eq, beq_eq_false_iff_ne, ne_eq] at hg; omega) | (simp only [hg, Bool.not_true, Bool.not_false])) <;> (try simp only [decide_eq_true_eq, decide_eq_false_iff_not, Bool.not_false, Bool.not_true, beq_iff_eq, beq_eq_false_iff_ne, bne_iff_ne, bne_eq_false_iff_eq, ne_eq] at hg)))) <;> (try refine nX ?_)) | ((fail_if_success (go_big_may)); (go_step)) | ((first | (with_reducible refine Sl.k_load ?_; (refine s_qt hst (by first | exact qt_load rfl _ BoxIn.h inX rfl rfl | exact qt_ldp_flat evX asX inX inX rfl) ?_)) | (with_reducible refine Sl.k_field ?_; (refine s_qt hst (qt_field rfl inX) ?_)) | (with_reducible refine Sl.k_index ?_; (((refine s_ex hst (qt_index evX asX rfl inX inX omX omX) ?_); rintro v hp; (try simp only [Int.toNat_natCast, Int.toNat_natCast_add_one, Int.reduceToNat] at hp)))) | (with_reducible refine Sl.k_call ?_; (refine s_qt hst (by exact qt_len evX asX inX) ?_))) <;> (try refine nX ?_)) | (with_reducible refine Sl.gate rfl ?_; (go_step)) | ((((first | (with_reducible refine Sl.k_store ?_; (refine s_store hst rfl _ BoxIn.h inX evX rfl lenOk oneOk (by simp) ?_); clear hst; intro w hst) | (refine s_box hst evX rfl ?_; clear hst; intro bx w hst) | (refine s_alloc hst inX ?_; clear hst; intro bk w hst)))) <;> (try refine nX ?_) <;> (try replace hst := nH hst)))
  rw [hi] at hst hp ⊢
  simp only [insC] at hst ⊢
  repeat' (first | (((with_reducible refine Sl.k_guard ?_; ((refine Sl.guard_yes rfl ?_)))) <;> (try refine nX ?_)) | (((with_reducible refine Sl.k_call ?_; ((refine s_call (rp _ _ hst) inX rfl ?_; clear hst; rintro v w ⟨rfl, hst⟩)))) <;> (try refine nX ?_) <;> (try replace hst := nH hst)) | ((fail_if_success (go_big_may)); (go_step)) | ((first | (with_reducible refine Sl.k_load ?_; (first | refine s_qt hst (by exact qt_load rfl _ BoxIn.h inX rfl rfl) ?_ | (refine s_ex hst (qt_ldp_int evX asX inX) ?_; rintro v ⟨rfl, hI⟩))) | (with_reducible refine Sl.k_field ?_; (refine s_qt hst (qt_field rfl inX) ?_)) | (with_reducible refine Sl.k_index ?_; (((refine s_ex hst (qt_index evX asX rfl inX inX omX omX) ?_); rintro v hp; (try simp only [Int.toNat_natCast, Int.toNat_natCast_add_one, Int.reduceToNat] at hp)))) | (with_reducible refine Sl.k_call ?_; (refine s_qt hst (by exact qt_len evX asX inX) ?_))) <;> (try refine nX ?_)) | (with_reducible refine Sl.gate rfl ?_; (go_step)))
  obtain ⟨zs, hzs⟩ : ∃ zs, s.stack.take (s.stack.length - 2) = zs := ⟨_, rfl⟩
  have hzl : zs.length = s.stack.length - 2 := by rw [← hzs, List.length_take]; omega
  have hzin : ∀ y ∈ zs, inR y := hzs ▸ take_all gd.stack
  refine s_slice (a := 0) (b := s.stack.length - 2) evX hvs inX inX (.inl ⟨rfl, rfl⟩) (.inr ⟨.i64, by simp [evF, nth]; omega⟩) (.inl rfl) (by omega) (by omega) ?_
  intro vz hvz
  rw [List.drop_zero, Nat.sub_zero, hzs] at hvz
  obtain ⟨ay, ny, cy, rfl⟩ := rsl_form hvz
  (try refine nX ?_)
  have ht1 := top_in gd
  have ht2 := top_in (pop_good gd)
  have hw := binV_in 6 (topV (popV s)) (topV s)
  have hw0 := hw.1
  have hw1 := hw.2
  simp only [top_atb (show 1 ≤ s.stack.length by omega), top2_atb hn]
  have rb := fun (M : List Chunk) (w : World) (hst : St S M w) => rbinary_c w hst 6 (topV (popV s)) (topV s) (by decide) ht2 ht1
  repeat' (first | (((with_reducible refine Sl.k_call ?_; ((refine s_call (rb _ _ hst) inX rfl ?_; clear hst; rintro v w ⟨rfl, hst⟩)))) <;> (try refine nX ?_) <;> (try replace hst := nH hst)) | ((fail_if_success (go_big_may)); (go_step)) | ((first | (with_reducible refine Sl.k_load ?_; (refine s_qt hst (by exact qt_load rfl _ BoxIn.h inX rfl rfl) ?_)) | (with_reducible refine Sl.k_field ?_; (refine s_qt hst (qt_field rfl inX) ?_)) | (with_reducible refine Sl.k_call ?_; (refine s_qt hst (by exact qt_len evX asX inX) ?_))) <;> (try refine nX ?_)) | (with_reducible refine Sl.gate rfl ?_; (go_step)) | (((((with_reducible refine Sl.k_store ?_; (refine s_store hst rfl _ BoxIn.h inX evX rfl lenOk oneOk (by simp) ?_); clear hst; intro w hst)))) <;> (try refine nX ?_) <;> (try replace hst := nH hst)))
  refine s_lit (vs := []) (cs := []) hst inX inX rfl rfl (by simp) rfl (by omega) (by omega) ?_
  clear hst; intro x0 w hst
  (try refine nX ?_)
  repeat' (((first | (with_reducible refine Sl.k_load ?_; (refine s_qt hst (by exact qt_load rfl _ BoxIn.h inX rfl rfl) ?_)) | (with_reducible refine Sl.k_field ?_; (refine s_qt hst (qt_field rfl inX) ?_))) <;> (try refine nX ?_)))
  refine s_append_data (α := Int) (k := 0) hst evX evX rfl hvz inX inX inX (by omega) (by omega) (by decide) ?_
  clear hst; intro x2 w c2 hc2 hst
  (try refine nX ?_)
  obtain rfl := rl_ints_eq hc2
  clear hc2
  repeat' (((fail_if_success (go_big_may)); (go_step)))
  refine s_lit (vs := [.int .i64 (binV 6 (topV (popV s)) (topV s))]) (cs := cF intC [(binV 6 (topV (popV s)) (topV s))]) hst inX inX rfl rfl (by simp [Value.cells]) rfl (by omega) (by omega) ?_
  clear hst; intro x11 w hst
  (try refine nX ?_)
  repeat' (fail)
  refine s_append (k := 1) (j := 0) hst evX evX rfl rfl inX inX inX (by simp [cF, intC, Value.oneCell']) (by omega) (by omega) (by decide) ?_
  clear hst; intro x12 w hst
  (try refine nX ?_)
  simp only [List.set_cons_succ, List.set_cons_zero] at hst
  replace hst := hst.drop
  have fz := lit_int (zs ++ [(binV 6 (topV (popV s)) (topV s))]) (fun y hy => in_i64 (app_all hzin hw y hy)) hst (by simp only [cF_app, List.nil_append]) (by simp only [List.length_append, List.length_cons, List.length_nil]; omega)
  clear hst; obtain ⟨S2, hS2, hst, hsz⟩ := fz
  obtain ⟨ax, nx, cx, rfl⟩ := rsl_form hsz
  subst hzs
  repeat' (first | ((fail_if_success (go_big_may)); (go_step)) | ((first | (with_reducible refine Sl.k_load ?_; (refine s_qt hst (by exact qt_load rfl _ BoxIn.h inX rfl rfl) ?_)) | (with_reducible refine Sl.k_field ?_; (refine s_qt hst (qt_field rfl inX) ?_))) <;> (try refine nX ?_)) | (((((with_reducible refine Sl.k_store ?_; (refine s_store hst rfl _ BoxIn.h inX evX rfl lenOk oneOk (by simp) ?_); clear hst; intro w hst)))) <;> (try refine nX ?_) <;> (try replace hst := nH hst)))
  refine ret_cell rfl hst rfl 1 rfl inferInstance rfl rfl ?_
  exact ⟨_, rfl, S2, _, _, _, _, hS2, rfl, hvv.mono hS2, hsz, hvp.mono hS2, hvn.mono hS2, hst.drop.drop.drop.drop⟩
set_option maxRecDepth 60000 in
set_option maxHeartbeats 8000000 in
theorem step_7 (w : World) (hst : St S M w) (hvi : RSl S vi c.1) (hvm : c.1.length ≤ 1048576) (hvv : RSl S vv s.vars) (hvs : RSl S vs s.stack) (hvp : RSl S vp s.pts) (hvn : RSl S vn s.notes) (h3 : s.steps < 3000) (hp0 : 0 ≤ s.pc) (hp1 : s.pc < c.1.length) (gd : GoodV c s) {a b : Int} {u : Unit}
    (hi : c.1[s.pc.toNat]'(by omega) = (7, a, b, u)) (hn : 2 ≤ s.stack.length) :
    Rets Tryd.prog 19 [codeVal vi c, stVal s vv vs vp vn 0, vg] w fun v w' => OkPost S M { nextV s with stack := s.stack.take (s.stack.length - 2) ++ [binV 7 (topV (popV s)) (topV s)] } v w' := by
  unfold Rets
  obtain ⟨ai, ni, ci, rfl⟩ := rsl_form hvi
  obtain ⟨av, nv, cv, rfl⟩ := rsl_form hvv
  obtain ⟨az, nz, cz, rfl⟩ := rsl_form hvs
  obtain ⟨ap, np, cp, rfl⟩ := rsl_form hvp
  obtain ⟨an, nn, cn, rfl⟩ := rsl_form hvn
  have hsl := gd.slen
  have rp : ∀ (M : List Chunk) (w : World), St S M w → Rets Tryd.prog 23 [.int .i64 7] w fun v w' => v = .int .i64 2 ∧ St S M w' := fun M w hst => rpops_ok w hst 7 (by decide)
  go_enter Tryd.func19, Tryd.ntmps19
  repeat' ((fail_if_success (with_reducible show Code.wp _ (Code.region 8 _ _) _ _ _)); first | (((with_reducible refine Sl.k_guard ?_; (first | (refine Sl.guard_yes rfl ?_) | (refine Sl.guard_cases rfl ?_ ?_ <;> intro hg <;> first | (exfalso; simp only [decide_eq_true_eq, decide_eq_false_iff_not, Bool.not_false, Bool.not_true, beq_iff_eq, beq_eq_false_iff_ne, ne_eq] at hg; omega) | (simp only [hg, Bool.not_true, Bool.not_false])) <;> (try simp only [decide_eq_true_eq, decide_eq_false_iff_not, Bool.not_false, Bool.not_true, beq_iff_eq, beq_eq_false_iff_ne, bne_iff_ne, bne_eq_false_iff_eq, ne_eq] at hg)))) <;> (try refine nX ?_)) | ((fail_if_success (go_big_may)); (go_step)) | ((first | (with_reducible refine Sl.k_load ?_; (refine s_qt hst (by first | exact qt_load rfl _ BoxIn.h inX rfl rfl | exact qt_ldp_flat evX asX inX inX rfl) ?_)) | (with_reducible refine Sl.k_field ?_; (refine s_qt hst (qt_field rfl inX) ?_)) | (with_reducible refine Sl.k_index ?_; (((refine s_ex hst (qt_index evX asX rfl inX inX omX omX) ?_); rintro v hp; (try simp only [Int.toNat_natCast, Int.toNat_natCast_add_one, Int.reduceToNat] at hp)))) | (with_reducible refine Sl.k_call ?_; (refine s_qt hst (by exact qt_len evX asX inX) ?_))) <;> (try refine nX ?_)) | (with_reducible refine Sl.gate rfl ?_; (go_step)) | ((((first | (with_reducible refine Sl.k_store ?_; (refine s_store hst rfl _ BoxIn.h inX evX rfl lenOk oneOk (by simp) ?_); clear hst; intro w hst) | (refine s_box hst evX rfl ?_; clear hst; intro bx w hst) | (refine s_alloc hst inX ?_; clear hst; intro bk w hst)))) <;> (try refine nX ?_) <;> (try replace hst := nH hst)))
  rw [hi] at hst hp ⊢
  simp only [insC] at hst ⊢
  repeat' (first | (((with_reducible refine Sl.k_guard ?_; ((refine Sl.guard_yes rfl ?_)))) <;> (try refine nX ?_)) | (((with_reducible refine Sl.k_call ?_; ((refine s_call (rp _ _ hst) inX rfl ?_; clear hst; rintro v w ⟨rfl, hst⟩)))) <;> (try refine nX ?_) <;> (try replace hst := nH hst)) | ((fail_if_success (go_big_may)); (go_step)) | ((first | (with_reducible refine Sl.k_load ?_; (first | refine s_qt hst (by exact qt_load rfl _ BoxIn.h inX rfl rfl) ?_ | (refine s_ex hst (qt_ldp_int evX asX inX) ?_; rintro v ⟨rfl, hI⟩))) | (with_reducible refine Sl.k_field ?_; (refine s_qt hst (qt_field rfl inX) ?_)) | (with_reducible refine Sl.k_index ?_; (((refine s_ex hst (qt_index evX asX rfl inX inX omX omX) ?_); rintro v hp; (try simp only [Int.toNat_natCast, Int.toNat_natCast_add_one, Int.reduceToNat] at hp)))) | (with_reducible refine Sl.k_call ?_; (refine s_qt hst (by exact qt_len evX asX inX) ?_))) <;> (try refine nX ?_)) | (with_reducible refine Sl.gate rfl ?_; (go_step)))
  obtain ⟨zs, hzs⟩ : ∃ zs, s.stack.take (s.stack.length - 2) = zs := ⟨_, rfl⟩
  have hzl : zs.length = s.stack.length - 2 := by rw [← hzs, List.length_take]; omega
  have hzin : ∀ y ∈ zs, inR y := hzs ▸ take_all gd.stack
  refine s_slice (a := 0) (b := s.stack.length - 2) evX hvs inX inX (.inl ⟨rfl, rfl⟩) (.inr ⟨.i64, by simp [evF, nth]; omega⟩) (.inl rfl) (by omega) (by omega) ?_
  intro vz hvz
  rw [List.drop_zero, Nat.sub_zero, hzs] at hvz
  obtain ⟨ay, ny, cy, rfl⟩ := rsl_form hvz
  (try refine nX ?_)
  have ht1 := top_in gd
  have ht2 := top_in (pop_good gd)
  have hw := binV_in 7 (topV (popV s)) (topV s)
  have hw0 := hw.1
  have hw1 := hw.2
  simp only [top_atb (show 1 ≤ s.stack.length by omega), top2_atb hn]
  have rb := fun (M : List Chunk) (w : World) (hst : St S M w) => rbinary_c w hst 7 (topV (popV s)) (topV s) (by decide) ht2 ht1
  repeat' (first | (((with_reducible refine Sl.k_call ?_; ((refine s_call (rb _ _ hst) inX rfl ?_; clear hst; rintro v w ⟨rfl, hst⟩)))) <;> (try refine nX ?_) <;> (try replace hst := nH hst)) | ((fail_if_success (go_big_may)); (go_step)) | ((first | (with_reducible refine Sl.k_load ?_; (refine s_qt hst (by exact qt_load rfl _ BoxIn.h inX rfl rfl) ?_)) | (with_reducible refine Sl.k_field ?_; (refine s_qt hst (qt_field rfl inX) ?_)) | (with_reducible refine Sl.k_call ?_; (refine s_qt hst (by exact qt_len evX asX inX) ?_))) <;> (try refine nX ?_)) | (with_reducible refine Sl.gate rfl ?_; (go_step)) | (((((with_reducible refine Sl.k_store ?_; (refine s_store hst rfl _ BoxIn.h inX evX rfl lenOk oneOk (by simp) ?_); clear hst; intro w hst)))) <;> (try refine nX ?_) <;> (try replace hst := nH hst)))
  refine s_lit (vs := []) (cs := []) hst inX inX rfl rfl (by simp) rfl (by omega) (by omega) ?_
  clear hst; intro x0 w hst
  (try refine nX ?_)
  repeat' (((first | (with_reducible refine Sl.k_load ?_; (refine s_qt hst (by exact qt_load rfl _ BoxIn.h inX rfl rfl) ?_)) | (with_reducible refine Sl.k_field ?_; (refine s_qt hst (qt_field rfl inX) ?_))) <;> (try refine nX ?_)))
  refine s_append_data (α := Int) (k := 0) hst evX evX rfl hvz inX inX inX (by omega) (by omega) (by decide) ?_
  clear hst; intro x2 w c2 hc2 hst
  (try refine nX ?_)
  obtain rfl := rl_ints_eq hc2
  clear hc2
  repeat' (((fail_if_success (go_big_may)); (go_step)))
  refine s_lit (vs := [.int .i64 (binV 7 (topV (popV s)) (topV s))]) (cs := cF intC [(binV 7 (topV (popV s)) (topV s))]) hst inX inX rfl rfl (by simp [Value.cells]) rfl (by omega) (by omega) ?_
  clear hst; intro x11 w hst
  (try refine nX ?_)
  repeat' (fail)
  refine s_append (k := 1) (j := 0) hst evX evX rfl rfl inX inX inX (by simp [cF, intC, Value.oneCell']) (by omega) (by omega) (by decide) ?_
  clear hst; intro x12 w hst
  (try refine nX ?_)
  simp only [List.set_cons_succ, List.set_cons_zero] at hst
  replace hst := hst.drop
  have fz := lit_int (zs ++ [(binV 7 (topV (popV s)) (topV s))]) (fun y hy => in_i64 (app_all hzin hw y hy)) hst (by simp only [cF_app, List.nil_append]) (by simp only [List.length_append, List.length_cons, List.length_nil]; omega)
  clear hst; obtain ⟨S2, hS2, hst, hsz⟩ := fz
  obtain ⟨ax, nx, cx, rfl⟩ := rsl_form hsz
  subst hzs
  repeat' (first | ((fail_if_success (go_big_may)); (go_step)) | ((first | (with_reducible refine Sl.k_load ?_; (refine s_qt hst (by exact qt_load rfl _ BoxIn.h inX rfl rfl) ?_)) | (with_reducible refine Sl.k_field ?_; (refine s_qt hst (qt_field rfl inX) ?_))) <;> (try refine nX ?_)) | (((((with_reducible refine Sl.k_store ?_; (refine s_store hst rfl _ BoxIn.h inX evX rfl lenOk oneOk (by simp) ?_); clear hst; intro w hst)))) <;> (try refine nX ?_) <;> (try replace hst := nH hst)))
  refine ret_cell rfl hst rfl 1 rfl inferInstance rfl rfl ?_
  exact ⟨_, rfl, S2, _, _, _, _, hS2, rfl, hvv.mono hS2, hsz, hvp.mono hS2, hvn.mono hS2, hst.drop.drop.drop.drop⟩
end
end Go.Proofs.YtmbdbfdlbbkclaaDoor

/- The reference machine: a step, comparisons and logic. -/
--@hgp
--@flat
--@ex0
namespace Go.Proofs.YtmbdbfdlbbkclaaDoor
set_option linter.unusedSimpArgs false
set_option linter.unusedVariables false
open Go.RowKit Go.Sl
section
variable {S : Snap} {M : List Chunk} {vi vg : Value} {c : CodeD} {s : VS} {vv vs vp vn : Value}
theorem top_atc {s : VS} (h : 1 ≤ s.stack.length) : s.stack[((s.stack.length : Int) - 1).toNat]'(by omega) = topV s := by
  have e : ((s.stack.length : Int) - 1).toNat = s.stack.length - 1 := by omega
  simp only [e]
  exact (getD_at (by omega)).symm
theorem top2_atc {s : VS} (h : 2 ≤ s.stack.length) : s.stack[((s.stack.length : Int) - 2).toNat]'(by omega) = topV (popV s) := by
  have e : ((s.stack.length : Int) - 2).toNat = s.stack.length - 2 := by omega
  simp only [e]
  unfold topV popV
  simp only [List.length_take]
  have e2 : min (s.stack.length - 1) s.stack.length - 1 = s.stack.length - 2 := by omega
  rw [e2, List.getD_eq_getElem?_getD, List.getElem?_take_of_lt (by omega), List.getElem?_eq_getElem (by omega)]
  rfl
theorem rwith_dc {S M} (w : World) (hst : St S M w) (vs : Value) (xs : List Int) (hxs : RSl S vs xs) (hm : xs.length ≤ 1048576) (k : Nat) (hk : k < xs.length) (x : Int) (hx : I64 x) :
    Rets Tryd.prog 25 [vs, .int .i64 (k : Int), .int .i64 x] w fun v w' => ∃ S' a n c, S.Le S' ∧ v = .slice a n c ∧ RSl S' (.slice a n c) (setV xs k x) ∧ St S' M w' :=
  (rwith_c w hst vs xs hxs hm k hk x hx).mono fun v w' ⟨S', h1, h2, h3⟩ => by
    obtain ⟨a, n, c, rfl⟩ := rsl_form h2
    exact ⟨S', a, n, c, h1, rfl, h2, h3⟩
set_option maxRecDepth 60000 in
set_option maxHeartbeats 8000000 in
theorem step_8 (w : World) (hst : St S M w) (hvi : RSl S vi c.1) (hvm : c.1.length ≤ 1048576) (hvv : RSl S vv s.vars) (hvs : RSl S vs s.stack) (hvp : RSl S vp s.pts) (hvn : RSl S vn s.notes) (h3 : s.steps < 3000) (hp0 : 0 ≤ s.pc) (hp1 : s.pc < c.1.length) (gd : GoodV c s) {a b : Int} {u : Unit}
    (hi : c.1[s.pc.toNat]'(by omega) = (8, a, b, u)) (hn : 2 ≤ s.stack.length) :
    Rets Tryd.prog 19 [codeVal vi c, stVal s vv vs vp vn 0, vg] w fun v w' => OkPost S M { nextV s with stack := s.stack.take (s.stack.length - 2) ++ [binV 8 (topV (popV s)) (topV s)] } v w' := by
  unfold Rets
  obtain ⟨ai, ni, ci, rfl⟩ := rsl_form hvi
  obtain ⟨av, nv, cv, rfl⟩ := rsl_form hvv
  obtain ⟨az, nz, cz, rfl⟩ := rsl_form hvs
  obtain ⟨ap, np, cp, rfl⟩ := rsl_form hvp
  obtain ⟨an, nn, cn, rfl⟩ := rsl_form hvn
  have hsl := gd.slen
  have rp : ∀ (M : List Chunk) (w : World), St S M w → Rets Tryd.prog 23 [.int .i64 8] w fun v w' => v = .int .i64 2 ∧ St S M w' := fun M w hst => rpops_ok w hst 8 (by decide)
  go_enter Tryd.func19, Tryd.ntmps19
  repeat' ((fail_if_success (with_reducible show Code.wp _ (Code.region 8 _ _) _ _ _)); first | (((with_reducible refine Sl.k_guard ?_; (first | (refine Sl.guard_yes rfl ?_) | (refine Sl.guard_cases rfl ?_ ?_ <;> intro hg <;> first | (exfalso; simp only [decide_eq_true_eq, decide_eq_false_iff_not, Bool.not_false, Bool.not_true, beq_iff_eq, beq_eq_false_iff_ne, ne_eq] at hg; omega) | (simp only [hg, Bool.not_true, Bool.not_false])) <;> (try simp only [decide_eq_true_eq, decide_eq_false_iff_not, Bool.not_false, Bool.not_true, beq_iff_eq, beq_eq_false_iff_ne, bne_iff_ne, bne_eq_false_iff_eq, ne_eq] at hg)))) <;> (try refine nX ?_)) | ((fail_if_success (go_big_may)); (go_step)) | ((first | (with_reducible refine Sl.k_load ?_; (refine s_qt hst (by first | exact qt_load rfl _ BoxIn.h inX rfl rfl | exact qt_ldp_flat evX asX inX inX rfl) ?_)) | (with_reducible refine Sl.k_field ?_; (refine s_qt hst (qt_field rfl inX) ?_)) | (with_reducible refine Sl.k_index ?_; (((refine s_ex hst (qt_index evX asX rfl inX inX omX omX) ?_); rintro v hp; (try simp only [Int.toNat_natCast, Int.toNat_natCast_add_one, Int.reduceToNat] at hp)))) | (with_reducible refine Sl.k_call ?_; (refine s_qt hst (by exact qt_len evX asX inX) ?_))) <;> (try refine nX ?_)) | (with_reducible refine Sl.gate rfl ?_; (go_step)) | ((((first | (with_reducible refine Sl.k_store ?_; (refine s_store hst rfl _ BoxIn.h inX evX rfl lenOk oneOk (by simp) ?_); clear hst; intro w hst) | (refine s_box hst evX rfl ?_; clear hst; intro bx w hst) | (refine s_alloc hst inX ?_; clear hst; intro bk w hst)))) <;> (try refine nX ?_) <;> (try replace hst := nH hst)))
  rw [hi] at hst hp ⊢
  simp only [insC] at hst ⊢
  repeat' (first | (((with_reducible refine Sl.k_guard ?_; ((refine Sl.guard_yes rfl ?_)))) <;> (try refine nX ?_)) | (((with_reducible refine Sl.k_call ?_; ((refine s_call (rp _ _ hst) inX rfl ?_; clear hst; rintro v w ⟨rfl, hst⟩)))) <;> (try refine nX ?_) <;> (try replace hst := nH hst)) | ((fail_if_success (go_big_may)); (go_step)) | ((first | (with_reducible refine Sl.k_load ?_; (first | refine s_qt hst (by exact qt_load rfl _ BoxIn.h inX rfl rfl) ?_ | (refine s_ex hst (qt_ldp_int evX asX inX) ?_; rintro v ⟨rfl, hI⟩))) | (with_reducible refine Sl.k_field ?_; (refine s_qt hst (qt_field rfl inX) ?_)) | (with_reducible refine Sl.k_index ?_; (((refine s_ex hst (qt_index evX asX rfl inX inX omX omX) ?_); rintro v hp; (try simp only [Int.toNat_natCast, Int.toNat_natCast_add_one, Int.reduceToNat] at hp)))) | (with_reducible refine Sl.k_call ?_; (refine s_qt hst (by exact qt_len evX asX inX) ?_))) <;> (try refine nX ?_)) | (with_reducible refine Sl.gate rfl ?_; (go_step)))
  obtain ⟨zs, hzs⟩ : ∃ zs, s.stack.take (s.stack.length - 2) = zs := ⟨_, rfl⟩
  have hzl : zs.length = s.stack.length - 2 := by rw [← hzs, List.length_take]; omega
  have hzin : ∀ y ∈ zs, inR y := hzs ▸ take_all gd.stack
  refine s_slice (a := 0) (b := s.stack.length - 2) evX hvs inX inX (.inl ⟨rfl, rfl⟩) (.inr ⟨.i64, by simp [evF, nth]; omega⟩) (.inl rfl) (by omega) (by omega) ?_
  intro vz hvz
  rw [List.drop_zero, Nat.sub_zero, hzs] at hvz
  obtain ⟨ay, ny, cy, rfl⟩ := rsl_form hvz
  (try refine nX ?_)
  have ht1 := top_in gd
  have ht2 := top_in (pop_good gd)
  have hw := binV_in 8 (topV (popV s)) (topV s)
  have hw0 := hw.1
  have hw1 := hw.2
  simp only [top_atc (show 1 ≤ s.stack.length by omega), top2_atc hn]
  have rb := fun (M : List Chunk) (w : World) (hst : St S M w) => rbinary_c w hst 8 (topV (popV s)) (topV s) (by decide) ht2 ht1
  repeat' (first | (((with_reducible refine Sl.k_call ?_; ((refine s_call (rb _ _ hst) inX rfl ?_; clear hst; rintro v w ⟨rfl, hst⟩)))) <;> (try refine nX ?_) <;> (try replace hst := nH hst)) | ((fail_if_success (go_big_may)); (go_step)) | ((first | (with_reducible refine Sl.k_load ?_; (refine s_qt hst (by exact qt_load rfl _ BoxIn.h inX rfl rfl) ?_)) | (with_reducible refine Sl.k_field ?_; (refine s_qt hst (qt_field rfl inX) ?_)) | (with_reducible refine Sl.k_call ?_; (refine s_qt hst (by exact qt_len evX asX inX) ?_))) <;> (try refine nX ?_)) | (with_reducible refine Sl.gate rfl ?_; (go_step)) | (((((with_reducible refine Sl.k_store ?_; (refine s_store hst rfl _ BoxIn.h inX evX rfl lenOk oneOk (by simp) ?_); clear hst; intro w hst)))) <;> (try refine nX ?_) <;> (try replace hst := nH hst)))
  refine s_lit (vs := []) (cs := []) hst inX inX rfl rfl (by simp) rfl (by omega) (by omega) ?_
  clear hst; intro x0 w hst
  (try refine nX ?_)
  repeat' (((first | (with_reducible refine Sl.k_load ?_; (refine s_qt hst (by exact qt_load rfl _ BoxIn.h inX rfl rfl) ?_)) | (with_reducible refine Sl.k_field ?_; (refine s_qt hst (qt_field rfl inX) ?_))) <;> (try refine nX ?_)))
  refine s_append_data (α := Int) (k := 0) hst evX evX rfl hvz inX inX inX (by omega) (by omega) (by decide) ?_
  clear hst; intro x2 w c2 hc2 hst
  (try refine nX ?_)
  obtain rfl := rl_ints_eq hc2
  clear hc2
  repeat' (((fail_if_success (go_big_may)); (go_step)))
  refine s_lit (vs := [.int .i64 (binV 8 (topV (popV s)) (topV s))]) (cs := cF intC [(binV 8 (topV (popV s)) (topV s))]) hst inX inX rfl rfl (by simp [Value.cells]) rfl (by omega) (by omega) ?_
  clear hst; intro x11 w hst
  (try refine nX ?_)
  repeat' (fail)
  refine s_append (k := 1) (j := 0) hst evX evX rfl rfl inX inX inX (by simp [cF, intC, Value.oneCell']) (by omega) (by omega) (by decide) ?_
  clear hst; intro x12 w hst
  (try refine nX ?_)
  simp only [List.set_cons_succ, List.set_cons_zero] at hst
  replace hst := hst.drop
  have fz := lit_int (zs ++ [(binV 8 (topV (popV s)) (topV s))]) (fun y hy => in_i64 (app_all hzin hw y hy)) hst (by simp only [cF_app, List.nil_append]) (by simp only [List.length_append, List.length_cons, List.length_nil]; omega)
  clear hst; obtain ⟨S2, hS2, hst, hsz⟩ := fz
  obtain ⟨ax, nx, cx, rfl⟩ := rsl_form hsz
  subst hzs
  repeat' (first | ((fail_if_success (go_big_may)); (go_step)) | ((first | (with_reducible refine Sl.k_load ?_; (refine s_qt hst (by exact qt_load rfl _ BoxIn.h inX rfl rfl) ?_)) | (with_reducible refine Sl.k_field ?_; (refine s_qt hst (qt_field rfl inX) ?_))) <;> (try refine nX ?_)) | (((((with_reducible refine Sl.k_store ?_; (refine s_store hst rfl _ BoxIn.h inX evX rfl lenOk oneOk (by simp) ?_); clear hst; intro w hst)))) <;> (try refine nX ?_) <;> (try replace hst := nH hst)))
  refine ret_cell rfl hst rfl 1 rfl inferInstance rfl rfl ?_
  exact ⟨_, rfl, S2, _, _, _, _, hS2, rfl, hvv.mono hS2, hsz, hvp.mono hS2, hvn.mono hS2, hst.drop.drop.drop.drop⟩
set_option maxRecDepth 60000 in
set_option maxHeartbeats 8000000 in
theorem step_9 (w : World) (hst : St S M w) (hvi : RSl S vi c.1) (hvm : c.1.length ≤ 1048576) (hvv : RSl S vv s.vars) (hvs : RSl S vs s.stack) (hvp : RSl S vp s.pts) (hvn : RSl S vn s.notes) (h3 : s.steps < 3000) (hp0 : 0 ≤ s.pc) (hp1 : s.pc < c.1.length) (gd : GoodV c s) {a b : Int} {u : Unit}
    (hi : c.1[s.pc.toNat]'(by omega) = (9, a, b, u)) (hn : 2 ≤ s.stack.length) :
    Rets Tryd.prog 19 [codeVal vi c, stVal s vv vs vp vn 0, vg] w fun v w' => OkPost S M { nextV s with stack := s.stack.take (s.stack.length - 2) ++ [binV 9 (topV (popV s)) (topV s)] } v w' := by
  unfold Rets
  obtain ⟨ai, ni, ci, rfl⟩ := rsl_form hvi
  obtain ⟨av, nv, cv, rfl⟩ := rsl_form hvv
  obtain ⟨az, nz, cz, rfl⟩ := rsl_form hvs
  obtain ⟨ap, np, cp, rfl⟩ := rsl_form hvp
  obtain ⟨an, nn, cn, rfl⟩ := rsl_form hvn
  have hsl := gd.slen
  have rp : ∀ (M : List Chunk) (w : World), St S M w → Rets Tryd.prog 23 [.int .i64 9] w fun v w' => v = .int .i64 2 ∧ St S M w' := fun M w hst => rpops_ok w hst 9 (by decide)
  go_enter Tryd.func19, Tryd.ntmps19
  repeat' ((fail_if_success (with_reducible show Code.wp _ (Code.region 8 _ _) _ _ _)); first | (((with_reducible refine Sl.k_guard ?_; (first | (refine Sl.guard_yes rfl ?_) | (refine Sl.guard_cases rfl ?_ ?_ <;> intro hg <;> first | (exfalso; simp only [decide_eq_true_eq, decide_eq_false_iff_not, Bool.not_false, Bool.not_true, beq_iff_eq, beq_eq_false_iff_ne, ne_eq] at hg; omega) | (simp only [hg, Bool.not_true, Bool.not_false])) <;> (try simp only [decide_eq_true_eq, decide_eq_false_iff_not, Bool.not_false, Bool.not_true, beq_iff_eq, beq_eq_false_iff_ne, bne_iff_ne, bne_eq_false_iff_eq, ne_eq] at hg)))) <;> (try refine nX ?_)) | ((fail_if_success (go_big_may)); (go_step)) | ((first | (with_reducible refine Sl.k_load ?_; (refine s_qt hst (by first | exact qt_load rfl _ BoxIn.h inX rfl rfl | exact qt_ldp_flat evX asX inX inX rfl) ?_)) | (with_reducible refine Sl.k_field ?_; (refine s_qt hst (qt_field rfl inX) ?_)) | (with_reducible refine Sl.k_index ?_; (((refine s_ex hst (qt_index evX asX rfl inX inX omX omX) ?_); rintro v hp; (try simp only [Int.toNat_natCast, Int.toNat_natCast_add_one, Int.reduceToNat] at hp)))) | (with_reducible refine Sl.k_call ?_; (refine s_qt hst (by exact qt_len evX asX inX) ?_))) <;> (try refine nX ?_)) | (with_reducible refine Sl.gate rfl ?_; (go_step)) | ((((first | (with_reducible refine Sl.k_store ?_; (refine s_store hst rfl _ BoxIn.h inX evX rfl lenOk oneOk (by simp) ?_); clear hst; intro w hst) | (refine s_box hst evX rfl ?_; clear hst; intro bx w hst) | (refine s_alloc hst inX ?_; clear hst; intro bk w hst)))) <;> (try refine nX ?_) <;> (try replace hst := nH hst)))
  rw [hi] at hst hp ⊢
  simp only [insC] at hst ⊢
  repeat' (first | (((with_reducible refine Sl.k_guard ?_; ((refine Sl.guard_yes rfl ?_)))) <;> (try refine nX ?_)) | (((with_reducible refine Sl.k_call ?_; ((refine s_call (rp _ _ hst) inX rfl ?_; clear hst; rintro v w ⟨rfl, hst⟩)))) <;> (try refine nX ?_) <;> (try replace hst := nH hst)) | ((fail_if_success (go_big_may)); (go_step)) | ((first | (with_reducible refine Sl.k_load ?_; (first | refine s_qt hst (by exact qt_load rfl _ BoxIn.h inX rfl rfl) ?_ | (refine s_ex hst (qt_ldp_int evX asX inX) ?_; rintro v ⟨rfl, hI⟩))) | (with_reducible refine Sl.k_field ?_; (refine s_qt hst (qt_field rfl inX) ?_)) | (with_reducible refine Sl.k_index ?_; (((refine s_ex hst (qt_index evX asX rfl inX inX omX omX) ?_); rintro v hp; (try simp only [Int.toNat_natCast, Int.toNat_natCast_add_one, Int.reduceToNat] at hp)))) | (with_reducible refine Sl.k_call ?_; (refine s_qt hst (by exact qt_len evX asX inX) ?_))) <;> (try refine nX ?_)) | (with_reducible refine Sl.gate rfl ?_; (go_step)))
  obtain ⟨zs, hzs⟩ : ∃ zs, s.stack.take (s.stack.length - 2) = zs := ⟨_, rfl⟩
  have hzl : zs.length = s.stack.length - 2 := by rw [← hzs, List.length_take]; omega
  have hzin : ∀ y ∈ zs, inR y := hzs ▸ take_all gd.stack
  refine s_slice (a := 0) (b := s.stack.length - 2) evX hvs inX inX (.inl ⟨rfl, rfl⟩) (.inr ⟨.i64, by simp [evF, nth]; omega⟩) (.inl rfl) (by omega) (by omega) ?_
  intro vz hvz
  rw [List.drop_zero, Nat.sub_zero, hzs] at hvz
  obtain ⟨ay, ny, cy, rfl⟩ := rsl_form hvz
  (try refine nX ?_)
  have ht1 := top_in gd
  have ht2 := top_in (pop_good gd)
  have hw := binV_in 9 (topV (popV s)) (topV s)
  have hw0 := hw.1
  have hw1 := hw.2
  simp only [top_atc (show 1 ≤ s.stack.length by omega), top2_atc hn]
  have rb := fun (M : List Chunk) (w : World) (hst : St S M w) => rbinary_c w hst 9 (topV (popV s)) (topV s) (by decide) ht2 ht1
  repeat' (first | (((with_reducible refine Sl.k_call ?_; ((refine s_call (rb _ _ hst) inX rfl ?_; clear hst; rintro v w ⟨rfl, hst⟩)))) <;> (try refine nX ?_) <;> (try replace hst := nH hst)) | ((fail_if_success (go_big_may)); (go_step)) | ((first | (with_reducible refine Sl.k_load ?_; (refine s_qt hst (by exact qt_load rfl _ BoxIn.h inX rfl rfl) ?_)) | (with_reducible refine Sl.k_field ?_; (refine s_qt hst (qt_field rfl inX) ?_)) | (with_reducible refine Sl.k_call ?_; (refine s_qt hst (by exact qt_len evX asX inX) ?_))) <;> (try refine nX ?_)) | (with_reducible refine Sl.gate rfl ?_; (go_step)) | (((((with_reducible refine Sl.k_store ?_; (refine s_store hst rfl _ BoxIn.h inX evX rfl lenOk oneOk (by simp) ?_); clear hst; intro w hst)))) <;> (try refine nX ?_) <;> (try replace hst := nH hst)))
  refine s_lit (vs := []) (cs := []) hst inX inX rfl rfl (by simp) rfl (by omega) (by omega) ?_
  clear hst; intro x0 w hst
  (try refine nX ?_)
  repeat' (((first | (with_reducible refine Sl.k_load ?_; (refine s_qt hst (by exact qt_load rfl _ BoxIn.h inX rfl rfl) ?_)) | (with_reducible refine Sl.k_field ?_; (refine s_qt hst (qt_field rfl inX) ?_))) <;> (try refine nX ?_)))
  refine s_append_data (α := Int) (k := 0) hst evX evX rfl hvz inX inX inX (by omega) (by omega) (by decide) ?_
  clear hst; intro x2 w c2 hc2 hst
  (try refine nX ?_)
  obtain rfl := rl_ints_eq hc2
  clear hc2
  repeat' (((fail_if_success (go_big_may)); (go_step)))
  refine s_lit (vs := [.int .i64 (binV 9 (topV (popV s)) (topV s))]) (cs := cF intC [(binV 9 (topV (popV s)) (topV s))]) hst inX inX rfl rfl (by simp [Value.cells]) rfl (by omega) (by omega) ?_
  clear hst; intro x11 w hst
  (try refine nX ?_)
  repeat' (fail)
  refine s_append (k := 1) (j := 0) hst evX evX rfl rfl inX inX inX (by simp [cF, intC, Value.oneCell']) (by omega) (by omega) (by decide) ?_
  clear hst; intro x12 w hst
  (try refine nX ?_)
  simp only [List.set_cons_succ, List.set_cons_zero] at hst
  replace hst := hst.drop
  have fz := lit_int (zs ++ [(binV 9 (topV (popV s)) (topV s))]) (fun y hy => in_i64 (app_all hzin hw y hy)) hst (by simp only [cF_app, List.nil_append]) (by simp only [List.length_append, List.length_cons, List.length_nil]; omega)
  clear hst; obtain ⟨S2, hS2, hst, hsz⟩ := fz
  obtain ⟨ax, nx, cx, rfl⟩ := rsl_form hsz
  subst hzs
  repeat' (first | ((fail_if_success (go_big_may)); (go_step)) | ((first | (with_reducible refine Sl.k_load ?_; (refine s_qt hst (by exact qt_load rfl _ BoxIn.h inX rfl rfl) ?_)) | (with_reducible refine Sl.k_field ?_; (refine s_qt hst (qt_field rfl inX) ?_))) <;> (try refine nX ?_)) | (((((with_reducible refine Sl.k_store ?_; (refine s_store hst rfl _ BoxIn.h inX evX rfl lenOk oneOk (by simp) ?_); clear hst; intro w hst)))) <;> (try refine nX ?_) <;> (try replace hst := nH hst)))
  refine ret_cell rfl hst rfl 1 rfl inferInstance rfl rfl ?_
  exact ⟨_, rfl, S2, _, _, _, _, hS2, rfl, hvv.mono hS2, hsz, hvp.mono hS2, hvn.mono hS2, hst.drop.drop.drop.drop⟩
set_option maxRecDepth 60000 in
set_option maxHeartbeats 8000000 in
theorem step_10 (w : World) (hst : St S M w) (hvi : RSl S vi c.1) (hvm : c.1.length ≤ 1048576) (hvv : RSl S vv s.vars) (hvs : RSl S vs s.stack) (hvp : RSl S vp s.pts) (hvn : RSl S vn s.notes) (h3 : s.steps < 3000) (hp0 : 0 ≤ s.pc) (hp1 : s.pc < c.1.length) (gd : GoodV c s) {a b : Int} {u : Unit}
    (hi : c.1[s.pc.toNat]'(by omega) = (10, a, b, u)) (hn : 2 ≤ s.stack.length) :
    Rets Tryd.prog 19 [codeVal vi c, stVal s vv vs vp vn 0, vg] w fun v w' => OkPost S M { nextV s with stack := s.stack.take (s.stack.length - 2) ++ [binV 10 (topV (popV s)) (topV s)] } v w' := by
  unfold Rets
  obtain ⟨ai, ni, ci, rfl⟩ := rsl_form hvi
  obtain ⟨av, nv, cv, rfl⟩ := rsl_form hvv
  obtain ⟨az, nz, cz, rfl⟩ := rsl_form hvs
  obtain ⟨ap, np, cp, rfl⟩ := rsl_form hvp
  obtain ⟨an, nn, cn, rfl⟩ := rsl_form hvn
  have hsl := gd.slen
  have rp : ∀ (M : List Chunk) (w : World), St S M w → Rets Tryd.prog 23 [.int .i64 10] w fun v w' => v = .int .i64 2 ∧ St S M w' := fun M w hst => rpops_ok w hst 10 (by decide)
  go_enter Tryd.func19, Tryd.ntmps19
  repeat' ((fail_if_success (with_reducible show Code.wp _ (Code.region 8 _ _) _ _ _)); first | (((with_reducible refine Sl.k_guard ?_; (first | (refine Sl.guard_yes rfl ?_) | (refine Sl.guard_cases rfl ?_ ?_ <;> intro hg <;> first | (exfalso; simp only [decide_eq_true_eq, decide_eq_false_iff_not, Bool.not_false, Bool.not_true, beq_iff_eq, beq_eq_false_iff_ne, ne_eq] at hg; omega) | (simp only [hg, Bool.not_true, Bool.not_false])) <;> (try simp only [decide_eq_true_eq, decide_eq_false_iff_not, Bool.not_false, Bool.not_true, beq_iff_eq, beq_eq_false_iff_ne, bne_iff_ne, bne_eq_false_iff_eq, ne_eq] at hg)))) <;> (try refine nX ?_)) | ((fail_if_success (go_big_may)); (go_step)) | ((first | (with_reducible refine Sl.k_load ?_; (refine s_qt hst (by first | exact qt_load rfl _ BoxIn.h inX rfl rfl | exact qt_ldp_flat evX asX inX inX rfl) ?_)) | (with_reducible refine Sl.k_field ?_; (refine s_qt hst (qt_field rfl inX) ?_)) | (with_reducible refine Sl.k_index ?_; (((refine s_ex hst (qt_index evX asX rfl inX inX omX omX) ?_); rintro v hp; (try simp only [Int.toNat_natCast, Int.toNat_natCast_add_one, Int.reduceToNat] at hp)))) | (with_reducible refine Sl.k_call ?_; (refine s_qt hst (by exact qt_len evX asX inX) ?_))) <;> (try refine nX ?_)) | (with_reducible refine Sl.gate rfl ?_; (go_step)) | ((((first | (with_reducible refine Sl.k_store ?_; (refine s_store hst rfl _ BoxIn.h inX evX rfl lenOk oneOk (by simp) ?_); clear hst; intro w hst) | (refine s_box hst evX rfl ?_; clear hst; intro bx w hst) | (refine s_alloc hst inX ?_; clear hst; intro bk w hst)))) <;> (try refine nX ?_) <;> (try replace hst := nH hst)))
  rw [hi] at hst hp ⊢
  simp only [insC] at hst ⊢
  repeat' (first | (((with_reducible refine Sl.k_guard ?_; ((refine Sl.guard_yes rfl ?_)))) <;> (try refine nX ?_)) | (((with_reducible refine Sl.k_call ?_; ((refine s_call (rp _ _ hst) inX rfl ?_; clear hst; rintro v w ⟨rfl, hst⟩)))) <;> (try refine nX ?_) <;> (try replace hst := nH hst)) | ((fail_if_success (go_big_may)); (go_step)) | ((first | (with_reducible refine Sl.k_load ?_; (first | refine s_qt hst (by exact qt_load rfl _ BoxIn.h inX rfl rfl) ?_ | (refine s_ex hst (qt_ldp_int evX asX inX) ?_; rintro v ⟨rfl, hI⟩))) | (with_reducible refine Sl.k_field ?_; (refine s_qt hst (qt_field rfl inX) ?_)) | (with_reducible refine Sl.k_index ?_; (((refine s_ex hst (qt_index evX asX rfl inX inX omX omX) ?_); rintro v hp; (try simp only [Int.toNat_natCast, Int.toNat_natCast_add_one, Int.reduceToNat] at hp)))) | (with_reducible refine Sl.k_call ?_; (refine s_qt hst (by exact qt_len evX asX inX) ?_))) <;> (try refine nX ?_)) | (with_reducible refine Sl.gate rfl ?_; (go_step)))
  obtain ⟨zs, hzs⟩ : ∃ zs, s.stack.take (s.stack.length - 2) = zs := ⟨_, rfl⟩
  have hzl : zs.length = s.stack.length - 2 := by rw [← hzs, List.length_take]; omega
  have hzin : ∀ y ∈ zs, inR y := hzs ▸ take_all gd.stack
  refine s_slice (a := 0) (b := s.stack.length - 2) evX hvs inX inX (.inl ⟨rfl, rfl⟩) (.inr ⟨.i64, by simp [evF, nth]; omega⟩) (.inl rfl) (by omega) (by omega) ?_
  intro vz hvz
  rw [List.drop_zero, Nat.sub_zero, hzs] at hvz
  obtain ⟨ay, ny, cy, rfl⟩ := rsl_form hvz
  (try refine nX ?_)
  have ht1 := top_in gd
  have ht2 := top_in (pop_good gd)
  have hw := binV_in 10 (topV (popV s)) (topV s)
  have hw0 := hw.1
  have hw1 := hw.2
  simp only [top_atc (show 1 ≤ s.stack.length by omega), top2_atc hn]
  have rb := fun (M : List Chunk) (w : World) (hst : St S M w) => rbinary_c w hst 10 (topV (popV s)) (topV s) (by decide) ht2 ht1
  repeat' (first | (((with_reducible refine Sl.k_call ?_; ((refine s_call (rb _ _ hst) inX rfl ?_; clear hst; rintro v w ⟨rfl, hst⟩)))) <;> (try refine nX ?_) <;> (try replace hst := nH hst)) | ((fail_if_success (go_big_may)); (go_step)) | ((first | (with_reducible refine Sl.k_load ?_; (refine s_qt hst (by exact qt_load rfl _ BoxIn.h inX rfl rfl) ?_)) | (with_reducible refine Sl.k_field ?_; (refine s_qt hst (qt_field rfl inX) ?_)) | (with_reducible refine Sl.k_call ?_; (refine s_qt hst (by exact qt_len evX asX inX) ?_))) <;> (try refine nX ?_)) | (with_reducible refine Sl.gate rfl ?_; (go_step)) | (((((with_reducible refine Sl.k_store ?_; (refine s_store hst rfl _ BoxIn.h inX evX rfl lenOk oneOk (by simp) ?_); clear hst; intro w hst)))) <;> (try refine nX ?_) <;> (try replace hst := nH hst)))
  refine s_lit (vs := []) (cs := []) hst inX inX rfl rfl (by simp) rfl (by omega) (by omega) ?_
  clear hst; intro x0 w hst
  (try refine nX ?_)
  repeat' (((first | (with_reducible refine Sl.k_load ?_; (refine s_qt hst (by exact qt_load rfl _ BoxIn.h inX rfl rfl) ?_)) | (with_reducible refine Sl.k_field ?_; (refine s_qt hst (qt_field rfl inX) ?_))) <;> (try refine nX ?_)))
  refine s_append_data (α := Int) (k := 0) hst evX evX rfl hvz inX inX inX (by omega) (by omega) (by decide) ?_
  clear hst; intro x2 w c2 hc2 hst
  (try refine nX ?_)
  obtain rfl := rl_ints_eq hc2
  clear hc2
  repeat' (((fail_if_success (go_big_may)); (go_step)))
  refine s_lit (vs := [.int .i64 (binV 10 (topV (popV s)) (topV s))]) (cs := cF intC [(binV 10 (topV (popV s)) (topV s))]) hst inX inX rfl rfl (by simp [Value.cells]) rfl (by omega) (by omega) ?_
  clear hst; intro x11 w hst
  (try refine nX ?_)
  repeat' (fail)
  refine s_append (k := 1) (j := 0) hst evX evX rfl rfl inX inX inX (by simp [cF, intC, Value.oneCell']) (by omega) (by omega) (by decide) ?_
  clear hst; intro x12 w hst
  (try refine nX ?_)
  simp only [List.set_cons_succ, List.set_cons_zero] at hst
  replace hst := hst.drop
  have fz := lit_int (zs ++ [(binV 10 (topV (popV s)) (topV s))]) (fun y hy => in_i64 (app_all hzin hw y hy)) hst (by simp only [cF_app, List.nil_append]) (by simp only [List.length_append, List.length_cons, List.length_nil]; omega)
  clear hst; obtain ⟨S2, hS2, hst, hsz⟩ := fz
  obtain ⟨ax, nx, cx, rfl⟩ := rsl_form hsz
  subst hzs
  repeat' (first | ((fail_if_success (go_big_may)); (go_step)) | ((first | (with_reducible refine Sl.k_load ?_; (refine s_qt hst (by exact qt_load rfl _ BoxIn.h inX rfl rfl) ?_)) | (with_reducible refine Sl.k_field ?_; (refine s_qt hst (qt_field rfl inX) ?_))) <;> (try refine nX ?_)) | (((((with_reducible refine Sl.k_store ?_; (refine s_store hst rfl _ BoxIn.h inX evX rfl lenOk oneOk (by simp) ?_); clear hst; intro w hst)))) <;> (try refine nX ?_) <;> (try replace hst := nH hst)))
  refine ret_cell rfl hst rfl 1 rfl inferInstance rfl rfl ?_
  exact ⟨_, rfl, S2, _, _, _, _, hS2, rfl, hvv.mono hS2, hsz, hvp.mono hS2, hvn.mono hS2, hst.drop.drop.drop.drop⟩
end
end Go.Proofs.YtmbdbfdlbbkclaaDoor

/- The reference machine: a step, the loop. -/
--@hgp
--@flat
--@ex0
namespace Go.Proofs.YtmbdbfdlbbkclaaDoor
set_option linter.unusedSimpArgs false
set_option linter.unusedVariables false
open Go.RowKit Go.Sl
section
variable {S : Snap} {M : List Chunk} {vi vg : Value} {c : CodeD} {s : VS} {vv vs vp vn : Value}
theorem top_atf {s : VS} (h : 1 ≤ s.stack.length) : s.stack[((s.stack.length : Int) - 1).toNat]'(by omega) = topV s := by
  have e : ((s.stack.length : Int) - 1).toNat = s.stack.length - 1 := by omega
  simp only [e]
  exact (getD_at (by omega)).symm
theorem top2_atf {s : VS} (h : 2 ≤ s.stack.length) : s.stack[((s.stack.length : Int) - 2).toNat]'(by omega) = topV (popV s) := by
  have e : ((s.stack.length : Int) - 2).toNat = s.stack.length - 2 := by omega
  simp only [e]
  unfold topV popV
  simp only [List.length_take]
  have e2 : min (s.stack.length - 1) s.stack.length - 1 = s.stack.length - 2 := by omega
  rw [e2, List.getD_eq_getElem?_getD, List.getElem?_take_of_lt (by omega), List.getElem?_eq_getElem (by omega)]
  rfl
theorem rwith_df {S M} (w : World) (hst : St S M w) (vs : Value) (xs : List Int) (hxs : RSl S vs xs) (hm : xs.length ≤ 1048576) (k : Nat) (hk : k < xs.length) (x : Int) (hx : I64 x) :
    Rets Tryd.prog 25 [vs, .int .i64 (k : Int), .int .i64 x] w fun v w' => ∃ S' a n c, S.Le S' ∧ v = .slice a n c ∧ RSl S' (.slice a n c) (setV xs k x) ∧ St S' M w' :=
  (rwith_c w hst vs xs hxs hm k hk x hx).mono fun v w' ⟨S', h1, h2, h3⟩ => by
    obtain ⟨a, n, c, rfl⟩ := rsl_form h2
    exact ⟨S', a, n, c, h1, rfl, h2, h3⟩
set_option maxRecDepth 60000 in
set_option maxHeartbeats 8000000 in
theorem step_17a (w : World) (hst : St S M w) (hvi : RSl S vi c.1) (hvm : c.1.length ≤ 1048576) (hvv : RSl S vv s.vars) (hvs : RSl S vs s.stack) (hvp : RSl S vp s.pts) (hvn : RSl S vn s.notes) (h3 : s.steps < 3000) (hp0 : 0 ≤ s.pc) (hp1 : s.pc < c.1.length) (gd : GoodV c s) {a b : Int} {u : Unit}
    (hi : c.1[s.pc.toNat]'(by omega) = (17, a, b, u)) (ha0 : 0 ≤ a) (ha1 : a < s.vars.length) (hvl : s.vars.length ≤ 400) (hx : 1 < s.vars[a.toNat]'(by omega)) :
    Rets Tryd.prog 19 [codeVal vi c, stVal s vv vs vp vn 0, vg] w fun v w' => OkPost S M { nextV s with vars := setV s.vars a (s.vars[a.toNat]'(by omega) - 1), pc := b } v w' := by
  unfold Rets
  obtain ⟨ai, ni, ci, rfl⟩ := rsl_form hvi
  obtain ⟨av, nv, cv, rfl⟩ := rsl_form hvv
  obtain ⟨az, nz, cz, rfl⟩ := rsl_form hvs
  obtain ⟨ap, np, cp, rfl⟩ := rsl_form hvp
  obtain ⟨an, nn, cn, rfl⟩ := rsl_form hvn
  have hsl := gd.slen
  have rp : ∀ (M : List Chunk) (w : World), St S M w → Rets Tryd.prog 23 [.int .i64 17] w fun v w' => v = .int .i64 0 ∧ St S M w' := fun M w hst => rpops_ok w hst 17 (by decide)
  go_enter Tryd.func19, Tryd.ntmps19
  repeat' ((fail_if_success (with_reducible show Code.wp _ (Code.region 8 _ _) _ _ _)); first | (((with_reducible refine Sl.k_guard ?_; (first | (refine Sl.guard_yes rfl ?_) | (refine Sl.guard_cases rfl ?_ ?_ <;> intro hg <;> first | (exfalso; simp only [decide_eq_true_eq, decide_eq_false_iff_not, Bool.not_false, Bool.not_true, beq_iff_eq, beq_eq_false_iff_ne, ne_eq] at hg; omega) | (simp only [hg, Bool.not_true, Bool.not_false])) <;> (try simp only [decide_eq_true_eq, decide_eq_false_iff_not, Bool.not_false, Bool.not_true, beq_iff_eq, beq_eq_false_iff_ne, bne_iff_ne, bne_eq_false_iff_eq, ne_eq] at hg)))) <;> (try refine nX ?_)) | ((fail_if_success (go_big_may)); (go_step)) | ((first | (with_reducible refine Sl.k_load ?_; (refine s_qt hst (by first | exact qt_load rfl _ BoxIn.h inX rfl rfl | exact qt_ldp_flat evX asX inX inX rfl) ?_)) | (with_reducible refine Sl.k_field ?_; (refine s_qt hst (qt_field rfl inX) ?_)) | (with_reducible refine Sl.k_index ?_; (((refine s_ex hst (qt_index evX asX rfl inX inX omX omX) ?_); rintro v hp; (try simp only [Int.toNat_natCast, Int.toNat_natCast_add_one, Int.reduceToNat] at hp)))) | (with_reducible refine Sl.k_call ?_; (refine s_qt hst (by exact qt_len evX asX inX) ?_))) <;> (try refine nX ?_)) | (with_reducible refine Sl.gate rfl ?_; (go_step)) | ((((first | (with_reducible refine Sl.k_store ?_; (refine s_store hst rfl _ BoxIn.h inX evX rfl lenOk oneOk (by simp) ?_); clear hst; intro w hst) | (refine s_box hst evX rfl ?_; clear hst; intro bx w hst) | (refine s_alloc hst inX ?_; clear hst; intro bk w hst)))) <;> (try refine nX ?_) <;> (try replace hst := nH hst)))
  rw [hi] at hst hp ⊢
  simp only [insC] at hst ⊢
  obtain ⟨k, rfl⟩ : ∃ k : Nat, a = (k : Int) := ⟨a.toNat, by omega⟩
  simp only [Int.toNat_natCast] at hx ⊢
  repeat' (first | (((with_reducible refine Sl.k_guard ?_; ((refine Sl.guard_yes rfl ?_)))) <;> (try refine nX ?_)) | (((with_reducible refine Sl.k_call ?_; ((refine s_call (rp _ _ hst) inX rfl ?_; clear hst; rintro v w ⟨rfl, hst⟩)))) <;> (try refine nX ?_) <;> (try replace hst := nH hst)) | ((fail_if_success (go_big_may)); (go_step)) | ((first | (with_reducible refine Sl.k_load ?_; (refine s_qt hst (by exact qt_load rfl _ BoxIn.h inX rfl rfl) ?_)) | (with_reducible refine Sl.k_field ?_; (refine s_qt hst (qt_field rfl inX) ?_)) | (with_reducible refine Sl.k_call ?_; (refine s_qt hst (by exact qt_len evX asX inX) ?_))) <;> (try refine nX ?_)) | (with_reducible refine Sl.gate rfl ?_; (go_step)))
  refine s_slice (a := 0) (b := s.stack.length) evX hvs inX inX (.inl ⟨rfl, rfl⟩) (.inr ⟨.i64, by simp [evF, nth]⟩) (.inl rfl) (by omega) (by omega) ?_
  intro vz hvz
  rw [List.drop_zero, Nat.sub_zero, List.take_length] at hvz
  obtain ⟨ay, ny, cy, rfl⟩ := rsl_form hvz
  (try refine nX ?_)
  have hzin := gd.stack
  have hw := gd.vars _ (List.getElem_mem (show k < s.vars.length by omega))
  have hw0 := hw.1
  have hw1 := hw.2
  have rb := fun (M : List Chunk) (w : World) (hst : St S M w) => rwith_df w hst _ s.vars hvv (by omega) k (by omega) (s.vars[k]'(by omega) - 1) (by unfold I64; omega)
  repeat' (first | (((with_reducible refine Sl.k_call ?_; ((refine s_call (rb _ _ hst) inX rfl ?_; clear hst; rintro v w ⟨S2, a2, n2, c2, hS2, rfl, hsv, hst⟩)))) <;> (try refine nX ?_) <;> (try replace hst := nH hst)) | ((fail_if_success (go_big_may)); (go_step)) | ((first | (with_reducible refine Sl.k_load ?_; (first | refine s_qt hst (by exact qt_load rfl _ BoxIn.h inX rfl rfl) ?_ | (refine s_ex hst (qt_ldp_int evX asX inX) ?_; rintro v ⟨rfl, hI⟩))) | (with_reducible refine Sl.k_field ?_; (refine s_qt hst (qt_field rfl inX) ?_)) | (with_reducible refine Sl.k_index ?_; (((refine s_ex hst (qt_index evX asX rfl inX inX omX omX) ?_); rintro v hp; (try simp only [Int.toNat_natCast, Int.toNat_natCast_add_one, Int.reduceToNat] at hp))))) <;> (try refine nX ?_)) | (with_reducible refine Sl.gate rfl ?_; (go_step)) | (((((with_reducible refine Sl.k_store ?_; (refine s_store hst rfl _ BoxIn.h inX evX rfl lenOk oneOk (by simp) ?_); clear hst; intro w hst)))) <;> (try refine nX ?_) <;> (try replace hst := nH hst)))
  refine ret_cell rfl hst rfl 1 rfl inferInstance rfl rfl ?_
  exact ⟨_, rfl, S2, _, _, _, _, hS2, rfl, hsv, hvz.mono hS2, hvp.mono hS2, hvn.mono hS2, hst.drop.drop.drop.drop⟩
set_option maxRecDepth 60000 in
set_option maxHeartbeats 8000000 in
theorem step_17b (w : World) (hst : St S M w) (hvi : RSl S vi c.1) (hvm : c.1.length ≤ 1048576) (hvv : RSl S vv s.vars) (hvs : RSl S vs s.stack) (hvp : RSl S vp s.pts) (hvn : RSl S vn s.notes) (h3 : s.steps < 3000) (hp0 : 0 ≤ s.pc) (hp1 : s.pc < c.1.length) (gd : GoodV c s) {a b : Int} {u : Unit}
    (hi : c.1[s.pc.toNat]'(by omega) = (17, a, b, u)) (ha0 : 0 ≤ a) (ha1 : a < s.vars.length) (hvl : s.vars.length ≤ 400) (hx : s.vars[a.toNat]'(by omega) = 1) :
    Rets Tryd.prog 19 [codeVal vi c, stVal s vv vs vp vn 0, vg] w fun v w' => OkPost S M { nextV s with vars := setV s.vars a (0) } v w' := by
  unfold Rets
  obtain ⟨ai, ni, ci, rfl⟩ := rsl_form hvi
  obtain ⟨av, nv, cv, rfl⟩ := rsl_form hvv
  obtain ⟨az, nz, cz, rfl⟩ := rsl_form hvs
  obtain ⟨ap, np, cp, rfl⟩ := rsl_form hvp
  obtain ⟨an, nn, cn, rfl⟩ := rsl_form hvn
  have hsl := gd.slen
  have rp : ∀ (M : List Chunk) (w : World), St S M w → Rets Tryd.prog 23 [.int .i64 17] w fun v w' => v = .int .i64 0 ∧ St S M w' := fun M w hst => rpops_ok w hst 17 (by decide)
  go_enter Tryd.func19, Tryd.ntmps19
  repeat' ((fail_if_success (with_reducible show Code.wp _ (Code.region 8 _ _) _ _ _)); first | (((with_reducible refine Sl.k_guard ?_; (first | (refine Sl.guard_yes rfl ?_) | (refine Sl.guard_cases rfl ?_ ?_ <;> intro hg <;> first | (exfalso; simp only [decide_eq_true_eq, decide_eq_false_iff_not, Bool.not_false, Bool.not_true, beq_iff_eq, beq_eq_false_iff_ne, ne_eq] at hg; omega) | (simp only [hg, Bool.not_true, Bool.not_false])) <;> (try simp only [decide_eq_true_eq, decide_eq_false_iff_not, Bool.not_false, Bool.not_true, beq_iff_eq, beq_eq_false_iff_ne, bne_iff_ne, bne_eq_false_iff_eq, ne_eq] at hg)))) <;> (try refine nX ?_)) | ((fail_if_success (go_big_may)); (go_step)) | ((first | (with_reducible refine Sl.k_load ?_; (refine s_qt hst (by first | exact qt_load rfl _ BoxIn.h inX rfl rfl | exact qt_ldp_flat evX asX inX inX rfl) ?_)) | (with_reducible refine Sl.k_field ?_; (refine s_qt hst (qt_field rfl inX) ?_)) | (with_reducible refine Sl.k_index ?_; (((refine s_ex hst (qt_index evX asX rfl inX inX omX omX) ?_); rintro v hp; (try simp only [Int.toNat_natCast, Int.toNat_natCast_add_one, Int.reduceToNat] at hp)))) | (with_reducible refine Sl.k_call ?_; (refine s_qt hst (by exact qt_len evX asX inX) ?_))) <;> (try refine nX ?_)) | (with_reducible refine Sl.gate rfl ?_; (go_step)) | ((((first | (with_reducible refine Sl.k_store ?_; (refine s_store hst rfl _ BoxIn.h inX evX rfl lenOk oneOk (by simp) ?_); clear hst; intro w hst) | (refine s_box hst evX rfl ?_; clear hst; intro bx w hst) | (refine s_alloc hst inX ?_; clear hst; intro bk w hst)))) <;> (try refine nX ?_) <;> (try replace hst := nH hst)))
  rw [hi] at hst hp ⊢
  simp only [insC] at hst ⊢
  obtain ⟨k, rfl⟩ : ∃ k : Nat, a = (k : Int) := ⟨a.toNat, by omega⟩
  simp only [Int.toNat_natCast] at hx ⊢
  repeat' (first | (((with_reducible refine Sl.k_guard ?_; ((refine Sl.guard_yes rfl ?_)))) <;> (try refine nX ?_)) | (((with_reducible refine Sl.k_call ?_; ((refine s_call (rp _ _ hst) inX rfl ?_; clear hst; rintro v w ⟨rfl, hst⟩)))) <;> (try refine nX ?_) <;> (try replace hst := nH hst)) | ((fail_if_success (go_big_may)); (go_step)) | ((first | (with_reducible refine Sl.k_load ?_; (refine s_qt hst (by exact qt_load rfl _ BoxIn.h inX rfl rfl) ?_)) | (with_reducible refine Sl.k_field ?_; (refine s_qt hst (qt_field rfl inX) ?_)) | (with_reducible refine Sl.k_call ?_; (refine s_qt hst (by exact qt_len evX asX inX) ?_))) <;> (try refine nX ?_)) | (with_reducible refine Sl.gate rfl ?_; (go_step)))
  refine s_slice (a := 0) (b := s.stack.length) evX hvs inX inX (.inl ⟨rfl, rfl⟩) (.inr ⟨.i64, by simp [evF, nth]⟩) (.inl rfl) (by omega) (by omega) ?_
  intro vz hvz
  rw [List.drop_zero, Nat.sub_zero, List.take_length] at hvz
  obtain ⟨ay, ny, cy, rfl⟩ := rsl_form hvz
  (try refine nX ?_)
  have hzin := gd.stack
  have hw := gd.vars _ (List.getElem_mem (show k < s.vars.length by omega))
  have hw0 := hw.1
  have hw1 := hw.2
  have rb := fun (M : List Chunk) (w : World) (hst : St S M w) => rwith_df w hst _ s.vars hvv (by omega) k (by omega) (0) (by unfold I64; omega)
  repeat' (first | (((with_reducible refine Sl.k_call ?_; ((refine s_call (rb _ _ hst) inX rfl ?_; clear hst; rintro v w ⟨S2, a2, n2, c2, hS2, rfl, hsv, hst⟩)))) <;> (try refine nX ?_) <;> (try replace hst := nH hst)) | ((fail_if_success (go_big_may)); (go_step)) | ((first | (with_reducible refine Sl.k_load ?_; (first | refine s_qt hst (by exact qt_load rfl _ BoxIn.h inX rfl rfl) ?_ | (refine s_ex hst (qt_ldp_int evX asX inX) ?_; rintro v ⟨rfl, hI⟩))) | (with_reducible refine Sl.k_field ?_; (refine s_qt hst (qt_field rfl inX) ?_)) | (with_reducible refine Sl.k_index ?_; (((refine s_ex hst (qt_index evX asX rfl inX inX omX omX) ?_); rintro v hp; (try simp only [Int.toNat_natCast, Int.toNat_natCast_add_one, Int.reduceToNat] at hp))))) <;> (try refine nX ?_)) | (with_reducible refine Sl.gate rfl ?_; (go_step)) | (((((with_reducible refine Sl.k_store ?_; (refine s_store hst rfl _ BoxIn.h inX evX rfl lenOk oneOk (by simp) ?_); clear hst; intro w hst)))) <;> (try refine nX ?_) <;> (try replace hst := nH hst)))
  refine ret_cell rfl hst rfl 1 rfl inferInstance rfl rfl ?_
  exact ⟨_, rfl, S2, _, _, _, _, hS2, rfl, hsv, hvz.mono hS2, hvp.mono hS2, hvn.mono hS2, hst.drop.drop.drop.drop⟩
set_option maxRecDepth 60000 in
set_option maxHeartbeats 8000000 in
theorem step_17c (w : World) (hst : St S M w) (hvi : RSl S vi c.1) (hvm : c.1.length ≤ 1048576) (hvv : RSl S vv s.vars) (hvs : RSl S vs s.stack) (hvp : RSl S vp s.pts) (hvn : RSl S vn s.notes) (h3 : s.steps < 3000) (hp0 : 0 ≤ s.pc) (hp1 : s.pc < c.1.length) (gd : GoodV c s) {a b : Int} {u : Unit}
    (hi : c.1[s.pc.toNat]'(by omega) = (17, a, b, u)) (ha0 : 0 ≤ a) (ha1 : a < s.vars.length) (hvl : s.vars.length ≤ 400) (hx : s.vars[a.toNat]'(by omega) = 0) :
    Rets Tryd.prog 19 [codeVal vi c, stVal s vv vs vp vn 0, vg] w fun v w' => OkPost S M { nextV s with vars := setV s.vars a (0) } v w' := by
  unfold Rets
  obtain ⟨ai, ni, ci, rfl⟩ := rsl_form hvi
  obtain ⟨av, nv, cv, rfl⟩ := rsl_form hvv
  obtain ⟨az, nz, cz, rfl⟩ := rsl_form hvs
  obtain ⟨ap, np, cp, rfl⟩ := rsl_form hvp
  obtain ⟨an, nn, cn, rfl⟩ := rsl_form hvn
  have hsl := gd.slen
  have rp : ∀ (M : List Chunk) (w : World), St S M w → Rets Tryd.prog 23 [.int .i64 17] w fun v w' => v = .int .i64 0 ∧ St S M w' := fun M w hst => rpops_ok w hst 17 (by decide)
  go_enter Tryd.func19, Tryd.ntmps19
  repeat' ((fail_if_success (with_reducible show Code.wp _ (Code.region 8 _ _) _ _ _)); first | (((with_reducible refine Sl.k_guard ?_; (first | (refine Sl.guard_yes rfl ?_) | (refine Sl.guard_cases rfl ?_ ?_ <;> intro hg <;> first | (exfalso; simp only [decide_eq_true_eq, decide_eq_false_iff_not, Bool.not_false, Bool.not_true, beq_iff_eq, beq_eq_false_iff_ne, ne_eq] at hg; omega) | (simp only [hg, Bool.not_true, Bool.not_false])) <;> (try simp only [decide_eq_true_eq, decide_eq_false_iff_not, Bool.not_false, Bool.not_true, beq_iff_eq, beq_eq_false_iff_ne, bne_iff_ne, bne_eq_false_iff_eq, ne_eq] at hg)))) <;> (try refine nX ?_)) | ((fail_if_success (go_big_may)); (go_step)) | ((first | (with_reducible refine Sl.k_load ?_; (refine s_qt hst (by first | exact qt_load rfl _ BoxIn.h inX rfl rfl | exact qt_ldp_flat evX asX inX inX rfl) ?_)) | (with_reducible refine Sl.k_field ?_; (refine s_qt hst (qt_field rfl inX) ?_)) | (with_reducible refine Sl.k_index ?_; (((refine s_ex hst (qt_index evX asX rfl inX inX omX omX) ?_); rintro v hp; (try simp only [Int.toNat_natCast, Int.toNat_natCast_add_one, Int.reduceToNat] at hp)))) | (with_reducible refine Sl.k_call ?_; (refine s_qt hst (by exact qt_len evX asX inX) ?_))) <;> (try refine nX ?_)) | (with_reducible refine Sl.gate rfl ?_; (go_step)) | ((((first | (with_reducible refine Sl.k_store ?_; (refine s_store hst rfl _ BoxIn.h inX evX rfl lenOk oneOk (by simp) ?_); clear hst; intro w hst) | (refine s_box hst evX rfl ?_; clear hst; intro bx w hst) | (refine s_alloc hst inX ?_; clear hst; intro bk w hst)))) <;> (try refine nX ?_) <;> (try replace hst := nH hst)))
  rw [hi] at hst hp ⊢
  simp only [insC] at hst ⊢
  obtain ⟨k, rfl⟩ : ∃ k : Nat, a = (k : Int) := ⟨a.toNat, by omega⟩
  simp only [Int.toNat_natCast] at hx ⊢
  repeat' (first | (((with_reducible refine Sl.k_guard ?_; ((refine Sl.guard_yes rfl ?_)))) <;> (try refine nX ?_)) | (((with_reducible refine Sl.k_call ?_; ((refine s_call (rp _ _ hst) inX rfl ?_; clear hst; rintro v w ⟨rfl, hst⟩)))) <;> (try refine nX ?_) <;> (try replace hst := nH hst)) | ((fail_if_success (go_big_may)); (go_step)) | ((first | (with_reducible refine Sl.k_load ?_; (refine s_qt hst (by exact qt_load rfl _ BoxIn.h inX rfl rfl) ?_)) | (with_reducible refine Sl.k_field ?_; (refine s_qt hst (qt_field rfl inX) ?_)) | (with_reducible refine Sl.k_call ?_; (refine s_qt hst (by exact qt_len evX asX inX) ?_))) <;> (try refine nX ?_)) | (with_reducible refine Sl.gate rfl ?_; (go_step)))
  refine s_slice (a := 0) (b := s.stack.length) evX hvs inX inX (.inl ⟨rfl, rfl⟩) (.inr ⟨.i64, by simp [evF, nth]⟩) (.inl rfl) (by omega) (by omega) ?_
  intro vz hvz
  rw [List.drop_zero, Nat.sub_zero, List.take_length] at hvz
  obtain ⟨ay, ny, cy, rfl⟩ := rsl_form hvz
  (try refine nX ?_)
  have hzin := gd.stack
  have hw := gd.vars _ (List.getElem_mem (show k < s.vars.length by omega))
  have hw0 := hw.1
  have hw1 := hw.2
  have rb := fun (M : List Chunk) (w : World) (hst : St S M w) => rwith_df w hst _ s.vars hvv (by omega) k (by omega) (0) (by unfold I64; omega)
  repeat' (first | (((with_reducible refine Sl.k_call ?_; ((refine s_call (rb _ _ hst) inX rfl ?_; clear hst; rintro v w ⟨S2, a2, n2, c2, hS2, rfl, hsv, hst⟩)))) <;> (try refine nX ?_) <;> (try replace hst := nH hst)) | ((fail_if_success (go_big_may)); (go_step)) | ((first | (with_reducible refine Sl.k_load ?_; (first | refine s_qt hst (by exact qt_load rfl _ BoxIn.h inX rfl rfl) ?_ | (refine s_ex hst (qt_ldp_int evX asX inX) ?_; rintro v ⟨rfl, hI⟩))) | (with_reducible refine Sl.k_field ?_; (refine s_qt hst (qt_field rfl inX) ?_)) | (with_reducible refine Sl.k_index ?_; (((refine s_ex hst (qt_index evX asX rfl inX inX omX omX) ?_); rintro v hp; (try simp only [Int.toNat_natCast, Int.toNat_natCast_add_one, Int.reduceToNat] at hp))))) <;> (try refine nX ?_)) | (with_reducible refine Sl.gate rfl ?_; (go_step)) | (((((with_reducible refine Sl.k_store ?_; (refine s_store hst rfl _ BoxIn.h inX evX rfl lenOk oneOk (by simp) ?_); clear hst; intro w hst)))) <;> (try refine nX ?_) <;> (try replace hst := nH hst)))
  refine ret_cell rfl hst rfl 1 rfl inferInstance rfl rfl ?_
  exact ⟨_, rfl, S2, _, _, _, _, hS2, rfl, hsv, hvz.mono hS2, hvp.mono hS2, hvn.mono hS2, hst.drop.drop.drop.drop⟩
end
end Go.Proofs.YtmbdbfdlbbkclaaDoor

/- The reference machine: a step, errors. -/
--@hgp
--@flat
--@ex0
namespace Go.Proofs.YtmbdbfdlbbkclaaDoor
set_option linter.unusedSimpArgs false
set_option linter.unusedVariables false
open Go.RowKit Go.Sl
section
variable {S : Snap} {M : List Chunk} {vi vg : Value} {c : CodeD} {s : VS} {vv vs vp vn : Value}
set_option maxRecDepth 60000 in
set_option maxHeartbeats 8000000 in
theorem step_21lo (w : World) (hst : St S M w) (hvi : RSl S vi c.1) (hvm : c.1.length ≤ 1048576) (hvv : RSl S vv s.vars) (hvs : RSl S vs s.stack) (hvp : RSl S vp s.pts) (hvn : RSl S vn s.notes) (h3 : s.steps < 3000) (gd : GoodV c s) (hp : s.pc < 0) :
    Rets Tryd.prog 19 [codeVal vi c, stVal s vv vs vp vn 0, vg] w fun v w' => ErrPost S M 21 v w' := by
  unfold Rets
  obtain ⟨ai, ni, ci, rfl⟩ := rsl_form hvi
  obtain ⟨av, nv, cv, rfl⟩ := rsl_form hvv
  obtain ⟨az, nz, cz, rfl⟩ := rsl_form hvs
  obtain ⟨ap, np, cp, rfl⟩ := rsl_form hvp
  obtain ⟨an, nn, cn, rfl⟩ := rsl_form hvn
  have hsl := gd.slen
  go_enter Tryd.func19, Tryd.ntmps19
  repeat' (first | go_skip | ((fail_if_success (go_big_may)); (go_step)) | ((first | (with_reducible refine Sl.k_load ?_; (refine s_qt hst (by exact qt_load rfl _ BoxIn.h inX rfl rfl) ?_)) | (with_reducible refine Sl.k_field ?_; (refine s_qt hst (qt_field rfl inX) ?_))) <;> (try refine nX ?_)) | (with_reducible refine Sl.gate rfl ?_; (go_step)) | ((((first | (with_reducible refine Sl.k_store ?_; (refine s_store hst rfl _ BoxIn.h inX evX rfl lenOk oneOk (by simp) ?_); clear hst; intro w hst) | (refine s_box hst evX rfl ?_; clear hst; intro bx w hst) | (refine s_alloc hst inX ?_; clear hst; intro bk w hst)))) <;> (try refine nX ?_) <;> (try replace hst := nH hst)))
  refine ret_cell rfl hst rfl 0 rfl inferInstance rfl rfl ?_
  exact ⟨_, rfl, S, s, _, _, _, _, Snap.Le.refl _, rfl, rfl, rfl, rfl, rfl, hst.drop.drop.drop⟩
set_option maxRecDepth 60000 in
set_option maxHeartbeats 8000000 in
theorem step_21hi (w : World) (hst : St S M w) (hvi : RSl S vi c.1) (hvm : c.1.length ≤ 1048576) (hvv : RSl S vv s.vars) (hvs : RSl S vs s.stack) (hvp : RSl S vp s.pts) (hvn : RSl S vn s.notes) (h3 : s.steps < 3000) (gd : GoodV c s) (hp0 : 0 ≤ s.pc) (hp1 : ¬ s.pc < c.1.length) :
    Rets Tryd.prog 19 [codeVal vi c, stVal s vv vs vp vn 0, vg] w fun v w' => ErrPost S M 21 v w' := by
  unfold Rets
  obtain ⟨ai, ni, ci, rfl⟩ := rsl_form hvi
  obtain ⟨av, nv, cv, rfl⟩ := rsl_form hvv
  obtain ⟨az, nz, cz, rfl⟩ := rsl_form hvs
  obtain ⟨ap, np, cp, rfl⟩ := rsl_form hvp
  obtain ⟨an, nn, cn, rfl⟩ := rsl_form hvn
  have hsl := gd.slen
  go_enter Tryd.func19, Tryd.ntmps19
  repeat' (first | (((with_reducible refine Sl.k_guard ?_; (first | (refine Sl.guard_yes rfl ?_) | (refine Sl.guard_cases rfl ?_ ?_ <;> intro hg <;> first | (exfalso; simp only [decide_eq_true_eq, decide_eq_false_iff_not, Bool.not_false, Bool.not_true, beq_iff_eq, beq_eq_false_iff_ne, ne_eq] at hg; omega) | (simp only [hg, Bool.not_true, Bool.not_false])) <;> (try simp only [decide_eq_true_eq, decide_eq_false_iff_not, Bool.not_false, Bool.not_true, beq_iff_eq, beq_eq_false_iff_ne, bne_iff_ne, bne_eq_false_iff_eq, ne_eq] at hg)))) <;> (try refine nX ?_)) | ((fail_if_success (go_big_may)); (go_step)) | ((first | (with_reducible refine Sl.k_load ?_; (refine s_qt hst (by exact qt_load rfl _ BoxIn.h inX rfl rfl) ?_)) | (with_reducible refine Sl.k_field ?_; (refine s_qt hst (qt_field rfl inX) ?_)) | (with_reducible refine Sl.k_call ?_; (refine s_qt hst (by exact qt_len evX asX inX) ?_))) <;> (try refine nX ?_)) | (with_reducible refine Sl.gate rfl ?_; (go_step)) | ((((first | (with_reducible refine Sl.k_store ?_; (refine s_store hst rfl _ BoxIn.h inX evX rfl lenOk oneOk (by simp) ?_); clear hst; intro w hst) | (refine s_box hst evX rfl ?_; clear hst; intro bx w hst) | (refine s_alloc hst inX ?_; clear hst; intro bk w hst)))) <;> (try refine nX ?_) <;> (try replace hst := nH hst)))
  refine ret_cell rfl hst rfl 0 rfl inferInstance rfl rfl ?_
  exact ⟨_, rfl, S, s, _, _, _, _, Snap.Le.refl _, rfl, rfl, rfl, rfl, rfl, hst.drop.drop.drop⟩
set_option maxRecDepth 60000 in
set_option maxHeartbeats 8000000 in
theorem step_21op (w : World) (hst : St S M w) (hvi : RSl S vi c.1) (hvm : c.1.length ≤ 1048576) (hvv : RSl S vv s.vars) (hvs : RSl S vs s.stack) (hvp : RSl S vp s.pts) (hvn : RSl S vn s.notes) (h3 : s.steps < 3000) (gd : GoodV c s) (hp0 : 0 ≤ s.pc) (hp1 : s.pc < c.1.length) {op a b : Int} {u : Unit} (hi : c.1[s.pc.toNat]'(by omega) = (op, a, b, u)) (hop : ¬ (1 ≤ op ∧ op < 18)) :
    Rets Tryd.prog 19 [codeVal vi c, stVal s vv vs vp vn 0, vg] w fun v w' => ErrPost S M 21 v w' := by
  unfold Rets
  obtain ⟨ai, ni, ci, rfl⟩ := rsl_form hvi
  obtain ⟨av, nv, cv, rfl⟩ := rsl_form hvv
  obtain ⟨az, nz, cz, rfl⟩ := rsl_form hvs
  obtain ⟨ap, np, cp, rfl⟩ := rsl_form hvp
  obtain ⟨an, nn, cn, rfl⟩ := rsl_form hvn
  have hsl := gd.slen
  have rp := fun (M : List Chunk) (w : World) (hst : St S M w) => rpops_no w hst op hop
  have e2 : op ≠ 2 := by omega
  have e3 : op ≠ 3 := by omega
  have e17 : op ≠ 17 := by omega
  have e12 : op ≠ 12 := by omega
  go_enter Tryd.func19, Tryd.ntmps19
  repeat' ((fail_if_success (with_reducible show Code.wp _ (Code.region 8 _ _) _ _ _)); first | (((with_reducible refine Sl.k_guard ?_; (first | (refine Sl.guard_yes rfl ?_) | (refine Sl.guard_cases rfl ?_ ?_ <;> intro hg <;> first | (exfalso; simp only [decide_eq_true_eq, decide_eq_false_iff_not, Bool.not_false, Bool.not_true, beq_iff_eq, beq_eq_false_iff_ne, ne_eq] at hg; omega) | (simp only [hg, Bool.not_true, Bool.not_false])) <;> (try simp only [decide_eq_true_eq, decide_eq_false_iff_not, Bool.not_false, Bool.not_true, beq_iff_eq, beq_eq_false_iff_ne, bne_iff_ne, bne_eq_false_iff_eq, ne_eq] at hg)))) <;> (try refine nX ?_)) | ((fail_if_success (go_big_may)); (go_step)) | ((first | (with_reducible refine Sl.k_load ?_; (refine s_qt hst (by first | exact qt_load rfl _ BoxIn.h inX rfl rfl | exact qt_ldp_flat evX asX inX inX rfl) ?_)) | (with_reducible refine Sl.k_field ?_; (refine s_qt hst (qt_field rfl inX) ?_)) | (with_reducible refine Sl.k_index ?_; (((refine s_ex hst (qt_index evX asX rfl inX inX omX omX) ?_); rintro v hp; (try simp only [Int.toNat_natCast, Int.toNat_natCast_add_one, Int.reduceToNat] at hp)))) | (with_reducible refine Sl.k_call ?_; (refine s_qt hst (by exact qt_len evX asX inX) ?_))) <;> (try refine nX ?_)) | (with_reducible refine Sl.gate rfl ?_; (go_step)) | ((((first | (with_reducible refine Sl.k_store ?_; (refine s_store hst rfl _ BoxIn.h inX evX rfl lenOk oneOk (by simp) ?_); clear hst; intro w hst) | (refine s_box hst evX rfl ?_; clear hst; intro bx w hst) | (refine s_alloc hst inX ?_; clear hst; intro bk w hst)))) <;> (try refine nX ?_) <;> (try replace hst := nH hst)))
  rw [hi] at hst hp ⊢
  simp only [insC] at hst ⊢
  repeat' (first | go_skip | (((with_reducible refine Sl.k_guard ?_; (first | (refine Sl.guard_yes rfl ?_) | (refine Sl.guard_cases rfl ?_ ?_ <;> intro hg <;> first | (exfalso; simp only [decide_eq_true_eq, decide_eq_false_iff_not, Bool.not_false, Bool.not_true, beq_iff_eq, beq_eq_false_iff_ne, ne_eq] at hg; omega) | (simp only [hg, Bool.not_true, Bool.not_false])) <;> (try simp only [decide_eq_true_eq, decide_eq_false_iff_not, Bool.not_false, Bool.not_true, beq_iff_eq, beq_eq_false_iff_ne, bne_iff_ne, bne_eq_false_iff_eq, ne_eq] at hg)))) <;> (try refine nX ?_)) | (((with_reducible refine Sl.k_call ?_; ((refine s_call (rp _ _ hst) inX rfl ?_; clear hst; rintro v w ⟨rfl, hst⟩)))) <;> (try refine nX ?_) <;> (try replace hst := nH hst)) | ((fail_if_success (go_big_may)); (go_step)) | ((first | (with_reducible refine Sl.k_load ?_; (refine s_qt hst (by exact qt_load rfl _ BoxIn.h inX rfl rfl) ?_)) | (with_reducible refine Sl.k_field ?_; (refine s_qt hst (qt_field rfl inX) ?_))) <;> (try refine nX ?_)) | (with_reducible refine Sl.gate rfl ?_; (go_step)) | (((((with_reducible refine Sl.k_store ?_; (refine s_store hst rfl _ BoxIn.h inX evX rfl lenOk oneOk (by simp) ?_); clear hst; intro w hst)))) <;> (try refine nX ?_) <;> (try replace hst := nH hst)))
  refine ret_cell rfl hst rfl 1 rfl inferInstance rfl rfl ?_
  exact ⟨_, rfl, S, s, _, _, _, _, Snap.Le.refl _, rfl, rfl, rfl, rfl, rfl, hst.drop.drop.drop.drop⟩
end
end Go.Proofs.YtmbdbfdlbbkclaaDoor

/- The reference machine: a step, more errors. -/
--@hgp
--@flat
--@ex0
namespace Go.Proofs.YtmbdbfdlbbkclaaDoor
set_option linter.unusedSimpArgs false
set_option linter.unusedVariables false
open Go.RowKit Go.Sl
section
variable {S : Snap} {M : List Chunk} {vi vg : Value} {c : CodeD} {s : VS} {vv vs vp vn : Value}
theorem top_atg {s : VS} (h : 1 ≤ s.stack.length) : s.stack[((s.stack.length : Int) - 1).toNat]'(by omega) = topV s := by
  have e : ((s.stack.length : Int) - 1).toNat = s.stack.length - 1 := by omega
  simp only [e]
  exact (getD_at (by omega)).symm
theorem top2_atg {s : VS} (h : 2 ≤ s.stack.length) : s.stack[((s.stack.length : Int) - 2).toNat]'(by omega) = topV (popV s) := by
  have e : ((s.stack.length : Int) - 2).toNat = s.stack.length - 2 := by omega
  simp only [e]
  unfold topV popV
  simp only [List.length_take]
  have e2 : min (s.stack.length - 1) s.stack.length - 1 = s.stack.length - 2 := by omega
  rw [e2, List.getD_eq_getElem?_getD, List.getElem?_take_of_lt (by omega), List.getElem?_eq_getElem (by omega)]
  rfl
theorem rwith_dg {S M} (w : World) (hst : St S M w) (vs : Value) (xs : List Int) (hxs : RSl S vs xs) (hm : xs.length ≤ 1048576) (k : Nat) (hk : k < xs.length) (x : Int) (hx : I64 x) :
    Rets Tryd.prog 25 [vs, .int .i64 (k : Int), .int .i64 x] w fun v w' => ∃ S' a n c, S.Le S' ∧ v = .slice a n c ∧ RSl S' (.slice a n c) (setV xs k x) ∧ St S' M w' :=
  (rwith_c w hst vs xs hxs hm k hk x hx).mono fun v w' ⟨S', h1, h2, h3⟩ => by
    obtain ⟨a, n, c, rfl⟩ := rsl_form h2
    exact ⟨S', a, n, c, h1, rfl, h2, h3⟩
set_option maxRecDepth 60000 in
set_option maxHeartbeats 8000000 in
theorem step_bad (w : World) (hst : St S M w) (hvi : RSl S vi c.1) (hvm : c.1.length ≤ 1048576) (hvv : RSl S vv s.vars) (hvs : RSl S vs s.stack) (hvp : RSl S vp s.pts) (hvn : RSl S vn s.notes) (h3 : s.steps < 3000) (gd : GoodV c s) (hp0 : 0 ≤ s.pc) (hp1 : s.pc < c.1.length) {op a b : Int} {u : Unit} (hi : c.1[s.pc.toNat]'(by omega) = (op, a, b, u)) (hop : 1 ≤ op ∧ op < 18) (hbad : (s.stack.length : Int) < popsV op) :
    Rets Tryd.prog 19 [codeVal vi c, stVal s vv vs vp vn 0, vg] w fun v w' => ErrPost S M 21 v w' := by
  unfold Rets
  obtain ⟨ai, ni, ci, rfl⟩ := rsl_form hvi
  obtain ⟨av, nv, cv, rfl⟩ := rsl_form hvv
  obtain ⟨az, nz, cz, rfl⟩ := rsl_form hvs
  obtain ⟨ap, np, cp, rfl⟩ := rsl_form hvp
  obtain ⟨an, nn, cn, rfl⟩ := rsl_form hvn
  have hsl := gd.slen
  have rp := fun (M : List Chunk) (w : World) (hst : St S M w) => rpops_ok w hst op hop
  generalize popsV op = np at *
  go_enter Tryd.func19, Tryd.ntmps19
  repeat' ((fail_if_success (with_reducible show Code.wp _ (Code.region 8 _ _) _ _ _)); first | (((with_reducible refine Sl.k_guard ?_; (first | (refine Sl.guard_yes rfl ?_) | (refine Sl.guard_cases rfl ?_ ?_ <;> intro hg <;> first | (exfalso; simp only [decide_eq_true_eq, decide_eq_false_iff_not, Bool.not_false, Bool.not_true, beq_iff_eq, beq_eq_false_iff_ne, ne_eq] at hg; omega) | (simp only [hg, Bool.not_true, Bool.not_false])) <;> (try simp only [decide_eq_true_eq, decide_eq_false_iff_not, Bool.not_false, Bool.not_true, beq_iff_eq, beq_eq_false_iff_ne, bne_iff_ne, bne_eq_false_iff_eq, ne_eq] at hg)))) <;> (try refine nX ?_)) | ((fail_if_success (go_big_may)); (go_step)) | ((first | (with_reducible refine Sl.k_load ?_; (refine s_qt hst (by first | exact qt_load rfl _ BoxIn.h inX rfl rfl | exact qt_ldp_flat evX asX inX inX rfl) ?_)) | (with_reducible refine Sl.k_field ?_; (refine s_qt hst (qt_field rfl inX) ?_)) | (with_reducible refine Sl.k_index ?_; (((refine s_ex hst (qt_index evX asX rfl inX inX omX omX) ?_); rintro v hp; (try simp only [Int.toNat_natCast, Int.toNat_natCast_add_one, Int.reduceToNat] at hp)))) | (with_reducible refine Sl.k_call ?_; (refine s_qt hst (by exact qt_len evX asX inX) ?_))) <;> (try refine nX ?_)) | (with_reducible refine Sl.gate rfl ?_; (go_step)) | ((((first | (with_reducible refine Sl.k_store ?_; (refine s_store hst rfl _ BoxIn.h inX evX rfl lenOk oneOk (by simp) ?_); clear hst; intro w hst) | (refine s_box hst evX rfl ?_; clear hst; intro bx w hst) | (refine s_alloc hst inX ?_; clear hst; intro bk w hst)))) <;> (try refine nX ?_) <;> (try replace hst := nH hst)))
  rw [hi] at hst hp ⊢
  simp only [insC] at hst ⊢
  repeat' (first | go_skip | (((with_reducible refine Sl.k_guard ?_; (first | (refine Sl.guard_yes rfl ?_) | (refine Sl.guard_cases rfl ?_ ?_ <;> intro hg <;> first | (exfalso; simp only [decide_eq_true_eq, decide_eq_false_iff_not, Bool.not_false, Bool.not_true, beq_iff_eq, beq_eq_false_iff_ne, ne_eq] at hg; omega) | (simp only [hg, Bool.not_true, Bool.not_false])) <;> (try simp only [decide_eq_true_eq, decide_eq_false_iff_not, Bool.not_false, Bool.not_true, beq_iff_eq, beq_eq_false_iff_ne, bne_iff_ne, bne_eq_false_iff_eq, ne_eq] at hg)))) <;> (try refine nX ?_)) | (((with_reducible refine Sl.k_call ?_; ((refine s_call (rp _ _ hst) inX rfl ?_; clear hst; rintro v w ⟨rfl, hst⟩)))) <;> (try refine nX ?_) <;> (try replace hst := nH hst)) | ((fail_if_success (go_big_may)); (go_step)) | ((first | (with_reducible refine Sl.k_load ?_; (refine s_qt hst (by exact qt_load rfl _ BoxIn.h inX rfl rfl) ?_)) | (with_reducible refine Sl.k_field ?_; (refine s_qt hst (qt_field rfl inX) ?_)) | (with_reducible refine Sl.k_call ?_; (refine s_qt hst (by exact qt_len evX asX inX) ?_))) <;> (try refine nX ?_)) | (with_reducible refine Sl.gate rfl ?_; (go_step)) | (((((with_reducible refine Sl.k_store ?_; (refine s_store hst rfl _ BoxIn.h inX evX rfl lenOk oneOk (by simp) ?_); clear hst; intro w hst)))) <;> (try refine nX ?_) <;> (try replace hst := nH hst)))
  all_goals
    refine ret_cell rfl hst rfl 1 rfl inferInstance rfl rfl ?_
    exact ⟨_, rfl, S, s, _, _, _, _, Snap.Le.refl _, rfl, rfl, rfl, rfl, rfl, hst.drop.drop.drop.drop⟩
set_option maxRecDepth 60000 in
set_option maxHeartbeats 8000000 in
theorem step_var2 (w : World) (hst : St S M w) (hvi : RSl S vi c.1) (hvm : c.1.length ≤ 1048576) (hvv : RSl S vv s.vars) (hvs : RSl S vs s.stack) (hvp : RSl S vp s.pts) (hvn : RSl S vn s.notes) (h3 : s.steps < 3000) (gd : GoodV c s) (hp0 : 0 ≤ s.pc) (hp1 : s.pc < c.1.length) {a b : Int} {u : Unit} (hi : c.1[s.pc.toNat]'(by omega) = (2, a, b, u)) (hn : 0 ≤ s.stack.length) (hv : ¬ (0 ≤ a ∧ a < s.vars.length)) :
    Rets Tryd.prog 19 [codeVal vi c, stVal s vv vs vp vn 0, vg] w fun v w' => ErrPost S M 21 v w' := by
  unfold Rets
  obtain ⟨ai, ni, ci, rfl⟩ := rsl_form hvi
  obtain ⟨av, nv, cv, rfl⟩ := rsl_form hvv
  obtain ⟨az, nz, cz, rfl⟩ := rsl_form hvs
  obtain ⟨ap, np, cp, rfl⟩ := rsl_form hvp
  obtain ⟨an, nn, cn, rfl⟩ := rsl_form hvn
  have hsl := gd.slen
  have rp : ∀ (M : List Chunk) (w : World), St S M w → Rets Tryd.prog 23 [.int .i64 2] w fun v w' => v = .int .i64 0 ∧ St S M w' := fun M w hst => rpops_ok w hst 2 (by decide)
  by_cases ha : a < 0
  all_goals
    go_enter Tryd.func19, Tryd.ntmps19
    repeat' ((fail_if_success (with_reducible show Code.wp _ (Code.region 8 _ _) _ _ _)); first | (((with_reducible refine Sl.k_guard ?_; (first | (refine Sl.guard_yes rfl ?_) | (refine Sl.guard_cases rfl ?_ ?_ <;> intro hg <;> first | (exfalso; simp only [decide_eq_true_eq, decide_eq_false_iff_not, Bool.not_false, Bool.not_true, beq_iff_eq, beq_eq_false_iff_ne, ne_eq] at hg; omega) | (simp only [hg, Bool.not_true, Bool.not_false])) <;> (try simp only [decide_eq_true_eq, decide_eq_false_iff_not, Bool.not_false, Bool.not_true, beq_iff_eq, beq_eq_false_iff_ne, bne_iff_ne, bne_eq_false_iff_eq, ne_eq] at hg)))) <;> (try refine nX ?_)) | ((fail_if_success (go_big_may)); (go_step)) | ((first | (with_reducible refine Sl.k_load ?_; (refine s_qt hst (by first | exact qt_load rfl _ BoxIn.h inX rfl rfl | exact qt_ldp_flat evX asX inX inX rfl) ?_)) | (with_reducible refine Sl.k_field ?_; (refine s_qt hst (qt_field rfl inX) ?_)) | (with_reducible refine Sl.k_index ?_; (((refine s_ex hst (qt_index evX asX rfl inX inX omX omX) ?_); rintro v hp; (try simp only [Int.toNat_natCast, Int.toNat_natCast_add_one, Int.reduceToNat] at hp)))) | (with_reducible refine Sl.k_call ?_; (refine s_qt hst (by exact qt_len evX asX inX) ?_))) <;> (try refine nX ?_)) | (with_reducible refine Sl.gate rfl ?_; (go_step)) | ((((first | (with_reducible refine Sl.k_store ?_; (refine s_store hst rfl _ BoxIn.h inX evX rfl lenOk oneOk (by simp) ?_); clear hst; intro w hst) | (refine s_box hst evX rfl ?_; clear hst; intro bx w hst) | (refine s_alloc hst inX ?_; clear hst; intro bk w hst)))) <;> (try refine nX ?_) <;> (try replace hst := nH hst)))
    rw [hi] at hst hp ⊢
    simp only [insC] at hst ⊢
    repeat' (first | go_skip | (((with_reducible refine Sl.k_guard ?_; ((refine Sl.guard_yes rfl ?_)))) <;> (try refine nX ?_)) | (((with_reducible refine Sl.k_call ?_; ((refine s_call (rp _ _ hst) inX rfl ?_; clear hst; rintro v w ⟨rfl, hst⟩)))) <;> (try refine nX ?_) <;> (try replace hst := nH hst)) | ((fail_if_success (go_big_may)); (go_step)) | ((first | (with_reducible refine Sl.k_load ?_; (refine s_qt hst (by exact qt_load rfl _ BoxIn.h inX rfl rfl) ?_)) | (with_reducible refine Sl.k_field ?_; (refine s_qt hst (qt_field rfl inX) ?_)) | (with_reducible refine Sl.k_call ?_; (refine s_qt hst (by exact qt_len evX asX inX) ?_))) <;> (try refine nX ?_)) | (with_reducible refine Sl.gate rfl ?_; (go_step)) | (((((with_reducible refine Sl.k_store ?_; (refine s_store hst rfl _ BoxIn.h inX evX rfl lenOk oneOk (by simp) ?_); clear hst; intro w hst)))) <;> (try refine nX ?_) <;> (try replace hst := nH hst)))
    all_goals (try (exfalso; omega))
    refine ret_cell rfl hst rfl 1 rfl inferInstance rfl rfl ?_
    exact ⟨_, rfl, S, s, _, _, _, _, Snap.Le.refl _, rfl, rfl, rfl, rfl, rfl, hst.drop.drop.drop.drop⟩
set_option maxRecDepth 60000 in
set_option maxHeartbeats 8000000 in
theorem step_var3 (w : World) (hst : St S M w) (hvi : RSl S vi c.1) (hvm : c.1.length ≤ 1048576) (hvv : RSl S vv s.vars) (hvs : RSl S vs s.stack) (hvp : RSl S vp s.pts) (hvn : RSl S vn s.notes) (h3 : s.steps < 3000) (gd : GoodV c s) (hp0 : 0 ≤ s.pc) (hp1 : s.pc < c.1.length) {a b : Int} {u : Unit} (hi : c.1[s.pc.toNat]'(by omega) = (3, a, b, u)) (hn : 1 ≤ s.stack.length) (hv : ¬ (0 ≤ a ∧ a < s.vars.length)) :
    Rets Tryd.prog 19 [codeVal vi c, stVal s vv vs vp vn 0, vg] w fun v w' => ErrPost S M 21 v w' := by
  unfold Rets
  obtain ⟨ai, ni, ci, rfl⟩ := rsl_form hvi
  obtain ⟨av, nv, cv, rfl⟩ := rsl_form hvv
  obtain ⟨az, nz, cz, rfl⟩ := rsl_form hvs
  obtain ⟨ap, np, cp, rfl⟩ := rsl_form hvp
  obtain ⟨an, nn, cn, rfl⟩ := rsl_form hvn
  have hsl := gd.slen
  have rp : ∀ (M : List Chunk) (w : World), St S M w → Rets Tryd.prog 23 [.int .i64 3] w fun v w' => v = .int .i64 1 ∧ St S M w' := fun M w hst => rpops_ok w hst 3 (by decide)
  by_cases ha : a < 0
  all_goals
    go_enter Tryd.func19, Tryd.ntmps19
    repeat' ((fail_if_success (with_reducible show Code.wp _ (Code.region 8 _ _) _ _ _)); first | (((with_reducible refine Sl.k_guard ?_; (first | (refine Sl.guard_yes rfl ?_) | (refine Sl.guard_cases rfl ?_ ?_ <;> intro hg <;> first | (exfalso; simp only [decide_eq_true_eq, decide_eq_false_iff_not, Bool.not_false, Bool.not_true, beq_iff_eq, beq_eq_false_iff_ne, ne_eq] at hg; omega) | (simp only [hg, Bool.not_true, Bool.not_false])) <;> (try simp only [decide_eq_true_eq, decide_eq_false_iff_not, Bool.not_false, Bool.not_true, beq_iff_eq, beq_eq_false_iff_ne, bne_iff_ne, bne_eq_false_iff_eq, ne_eq] at hg)))) <;> (try refine nX ?_)) | ((fail_if_success (go_big_may)); (go_step)) | ((first | (with_reducible refine Sl.k_load ?_; (refine s_qt hst (by first | exact qt_load rfl _ BoxIn.h inX rfl rfl | exact qt_ldp_flat evX asX inX inX rfl) ?_)) | (with_reducible refine Sl.k_field ?_; (refine s_qt hst (qt_field rfl inX) ?_)) | (with_reducible refine Sl.k_index ?_; (((refine s_ex hst (qt_index evX asX rfl inX inX omX omX) ?_); rintro v hp; (try simp only [Int.toNat_natCast, Int.toNat_natCast_add_one, Int.reduceToNat] at hp)))) | (with_reducible refine Sl.k_call ?_; (refine s_qt hst (by exact qt_len evX asX inX) ?_))) <;> (try refine nX ?_)) | (with_reducible refine Sl.gate rfl ?_; (go_step)) | ((((first | (with_reducible refine Sl.k_store ?_; (refine s_store hst rfl _ BoxIn.h inX evX rfl lenOk oneOk (by simp) ?_); clear hst; intro w hst) | (refine s_box hst evX rfl ?_; clear hst; intro bx w hst) | (refine s_alloc hst inX ?_; clear hst; intro bk w hst)))) <;> (try refine nX ?_) <;> (try replace hst := nH hst)))
    rw [hi] at hst hp ⊢
    simp only [insC] at hst ⊢
    repeat' (first | go_skip | (((with_reducible refine Sl.k_guard ?_; (first | (refine Sl.guard_yes rfl ?_) | (refine Sl.guard_cases rfl ?_ ?_ <;> intro hg <;> first | (exfalso; simp only [decide_eq_true_eq, decide_eq_false_iff_not, Bool.not_false, Bool.not_true, beq_iff_eq, beq_eq_false_iff_ne, ne_eq] at hg; omega) | (simp only [hg, Bool.not_true, Bool.not_false])) <;> (try simp only [decide_eq_true_eq, decide_eq_false_iff_not, Bool.not_false, Bool.not_true, beq_iff_eq, beq_eq_false_iff_ne, bne_iff_ne, bne_eq_false_iff_eq, ne_eq] at hg)))) <;> (try refine nX ?_)) | (((with_reducible refine Sl.k_call ?_; ((refine s_call (rp _ _ hst) inX rfl ?_; clear hst; rintro v w ⟨rfl, hst⟩)))) <;> (try refine nX ?_) <;> (try replace hst := nH hst)) | ((fail_if_success (go_big_may)); (go_step)) | ((first | (with_reducible refine Sl.k_load ?_; (refine s_qt hst (by exact qt_load rfl _ BoxIn.h inX rfl rfl) ?_)) | (with_reducible refine Sl.k_field ?_; (refine s_qt hst (qt_field rfl inX) ?_)) | (with_reducible refine Sl.k_call ?_; (refine s_qt hst (by exact qt_len evX asX inX) ?_))) <;> (try refine nX ?_)) | (with_reducible refine Sl.gate rfl ?_; (go_step)) | (((((with_reducible refine Sl.k_store ?_; (refine s_store hst rfl _ BoxIn.h inX evX rfl lenOk oneOk (by simp) ?_); clear hst; intro w hst)))) <;> (try refine nX ?_) <;> (try replace hst := nH hst)))
    all_goals (try (exfalso; omega))
    refine ret_cell rfl hst rfl 1 rfl inferInstance rfl rfl ?_
    exact ⟨_, rfl, S, s, _, _, _, _, Snap.Le.refl _, rfl, rfl, rfl, rfl, rfl, hst.drop.drop.drop.drop⟩
set_option maxRecDepth 60000 in
set_option maxHeartbeats 8000000 in
theorem step_var17 (w : World) (hst : St S M w) (hvi : RSl S vi c.1) (hvm : c.1.length ≤ 1048576) (hvv : RSl S vv s.vars) (hvs : RSl S vs s.stack) (hvp : RSl S vp s.pts) (hvn : RSl S vn s.notes) (h3 : s.steps < 3000) (gd : GoodV c s) (hp0 : 0 ≤ s.pc) (hp1 : s.pc < c.1.length) {a b : Int} {u : Unit} (hi : c.1[s.pc.toNat]'(by omega) = (17, a, b, u)) (hn : 0 ≤ s.stack.length) (hv : ¬ (0 ≤ a ∧ a < s.vars.length)) :
    Rets Tryd.prog 19 [codeVal vi c, stVal s vv vs vp vn 0, vg] w fun v w' => ErrPost S M 21 v w' := by
  unfold Rets
  obtain ⟨ai, ni, ci, rfl⟩ := rsl_form hvi
  obtain ⟨av, nv, cv, rfl⟩ := rsl_form hvv
  obtain ⟨az, nz, cz, rfl⟩ := rsl_form hvs
  obtain ⟨ap, np, cp, rfl⟩ := rsl_form hvp
  obtain ⟨an, nn, cn, rfl⟩ := rsl_form hvn
  have hsl := gd.slen
  have rp : ∀ (M : List Chunk) (w : World), St S M w → Rets Tryd.prog 23 [.int .i64 17] w fun v w' => v = .int .i64 0 ∧ St S M w' := fun M w hst => rpops_ok w hst 17 (by decide)
  by_cases ha : a < 0
  all_goals
    go_enter Tryd.func19, Tryd.ntmps19
    repeat' ((fail_if_success (with_reducible show Code.wp _ (Code.region 8 _ _) _ _ _)); first | (((with_reducible refine Sl.k_guard ?_; (first | (refine Sl.guard_yes rfl ?_) | (refine Sl.guard_cases rfl ?_ ?_ <;> intro hg <;> first | (exfalso; simp only [decide_eq_true_eq, decide_eq_false_iff_not, Bool.not_false, Bool.not_true, beq_iff_eq, beq_eq_false_iff_ne, ne_eq] at hg; omega) | (simp only [hg, Bool.not_true, Bool.not_false])) <;> (try simp only [decide_eq_true_eq, decide_eq_false_iff_not, Bool.not_false, Bool.not_true, beq_iff_eq, beq_eq_false_iff_ne, bne_iff_ne, bne_eq_false_iff_eq, ne_eq] at hg)))) <;> (try refine nX ?_)) | ((fail_if_success (go_big_may)); (go_step)) | ((first | (with_reducible refine Sl.k_load ?_; (refine s_qt hst (by first | exact qt_load rfl _ BoxIn.h inX rfl rfl | exact qt_ldp_flat evX asX inX inX rfl) ?_)) | (with_reducible refine Sl.k_field ?_; (refine s_qt hst (qt_field rfl inX) ?_)) | (with_reducible refine Sl.k_index ?_; (((refine s_ex hst (qt_index evX asX rfl inX inX omX omX) ?_); rintro v hp; (try simp only [Int.toNat_natCast, Int.toNat_natCast_add_one, Int.reduceToNat] at hp)))) | (with_reducible refine Sl.k_call ?_; (refine s_qt hst (by exact qt_len evX asX inX) ?_))) <;> (try refine nX ?_)) | (with_reducible refine Sl.gate rfl ?_; (go_step)) | ((((first | (with_reducible refine Sl.k_store ?_; (refine s_store hst rfl _ BoxIn.h inX evX rfl lenOk oneOk (by simp) ?_); clear hst; intro w hst) | (refine s_box hst evX rfl ?_; clear hst; intro bx w hst) | (refine s_alloc hst inX ?_; clear hst; intro bk w hst)))) <;> (try refine nX ?_) <;> (try replace hst := nH hst)))
    rw [hi] at hst hp ⊢
    simp only [insC] at hst ⊢
    repeat' (first | go_skip | (((with_reducible refine Sl.k_guard ?_; ((refine Sl.guard_yes rfl ?_)))) <;> (try refine nX ?_)) | (((with_reducible refine Sl.k_call ?_; ((refine s_call (rp _ _ hst) inX rfl ?_; clear hst; rintro v w ⟨rfl, hst⟩)))) <;> (try refine nX ?_) <;> (try replace hst := nH hst)) | ((fail_if_success (go_big_may)); (go_step)) | ((first | (with_reducible refine Sl.k_load ?_; (refine s_qt hst (by exact qt_load rfl _ BoxIn.h inX rfl rfl) ?_)) | (with_reducible refine Sl.k_field ?_; (refine s_qt hst (qt_field rfl inX) ?_)) | (with_reducible refine Sl.k_call ?_; (refine s_qt hst (by exact qt_len evX asX inX) ?_))) <;> (try refine nX ?_)) | (with_reducible refine Sl.gate rfl ?_; (go_step)) | (((((with_reducible refine Sl.k_store ?_; (refine s_store hst rfl _ BoxIn.h inX evX rfl lenOk oneOk (by simp) ?_); clear hst; intro w hst)))) <;> (try refine nX ?_) <;> (try replace hst := nH hst)))
    all_goals (try (exfalso; omega))
    refine ret_cell rfl hst rfl 1 rfl inferInstance rfl rfl ?_
    exact ⟨_, rfl, S, s, _, _, _, _, Snap.Le.refl _, rfl, rfl, rfl, rfl, rfl, hst.drop.drop.drop.drop⟩
end
end Go.Proofs.YtmbdbfdlbbkclaaDoor

/- The reference machine: a step, branches. -/
--@hgp
--@flat
--@ex0
namespace Go.Proofs.YtmbdbfdlbbkclaaDoor
set_option linter.unusedSimpArgs false
set_option linter.unusedVariables false
open Go.RowKit Go.Sl
section
variable {S : Snap} {M : List Chunk} {vi vg : Value} {c : CodeD} {s : VS} {vv vs vp vn : Value}
theorem top_atk {s : VS} (h : 1 ≤ s.stack.length) : s.stack[((s.stack.length : Int) - 1).toNat]'(by omega) = topV s := by
  have e : ((s.stack.length : Int) - 1).toNat = s.stack.length - 1 := by omega
  simp only [e]
  exact (getD_at (by omega)).symm
theorem top2_atk {s : VS} (h : 2 ≤ s.stack.length) : s.stack[((s.stack.length : Int) - 2).toNat]'(by omega) = topV (popV s) := by
  have e : ((s.stack.length : Int) - 2).toNat = s.stack.length - 2 := by omega
  simp only [e]
  unfold topV popV
  simp only [List.length_take]
  have e2 : min (s.stack.length - 1) s.stack.length - 1 = s.stack.length - 2 := by omega
  rw [e2, List.getD_eq_getElem?_getD, List.getElem?_take_of_lt (by omega), List.getElem?_eq_getElem (by omega)]
  rfl
theorem rwith_dk {S M} (w : World) (hst : St S M w) (vs : Value) (xs : List Int) (hxs : RSl S vs xs) (hm : xs.length ≤ 1048576) (k : Nat) (hk : k < xs.length) (x : Int) (hx : I64 x) :
    Rets Tryd.prog 25 [vs, .int .i64 (k : Int), .int .i64 x] w fun v w' => ∃ S' a n c, S.Le S' ∧ v = .slice a n c ∧ RSl S' (.slice a n c) (setV xs k x) ∧ St S' M w' :=
  (rwith_c w hst vs xs hxs hm k hk x hx).mono fun v w' ⟨S', h1, h2, h3⟩ => by
    obtain ⟨a, n, c, rfl⟩ := rsl_form h2
    exact ⟨S', a, n, c, h1, rfl, h2, h3⟩
set_option maxRecDepth 60000 in
set_option maxHeartbeats 8000000 in
theorem step_12k (w : World) (hst : St S M w) (hvi : RSl S vi c.1) (hvm : c.1.length ≤ 1048576) (hvv : RSl S vv s.vars) (hvs : RSl S vs s.stack) (hvp : RSl S vp s.pts) (hvn : RSl S vn s.notes) (h3 : s.steps < 3000) (hp0 : 0 ≤ s.pc) (hp1 : s.pc < c.1.length) (gd : GoodV c s) {a b : Int} {u : Unit}
    (hi : c.1[s.pc.toNat]'(by omega) = (12, a, b, u)) {gl : List Int} (hgl : RSl S vg gl) (hgm : gl.length ≤ 1048576) (hn : 1 ≤ s.stack.length) (hb0 : 0 ≤ b) (hb2 : b < s.pts.length) (hb1 : b < c.2.2.1) (hpn : s.pts.length ≤ 8) (h0 : ¬ topV s = 0) (hz : gl.contains (s.br : Int) = false) :
    Rets Tryd.prog 19 [codeVal vi c, stVal s vv vs vp vn 0, vg] w fun v w' => OkPost S M { nextV s with stack := s.stack.take (s.stack.length - 1), br := s.br + 1, pts := setV s.pts b (orV (s.pts[b.toNat]'(by omega)) 1) } v w' := by
  unfold Rets
  obtain ⟨ai, ni, ci, rfl⟩ := rsl_form hvi
  obtain ⟨av, nv, cv, rfl⟩ := rsl_form hvv
  obtain ⟨az, nz, cz, rfl⟩ := rsl_form hvs
  obtain ⟨ap, np, cp, rfl⟩ := rsl_form hvp
  obtain ⟨an, nn, cn, rfl⟩ := rsl_form hvn
  have hsl := gd.slen
  have rp : ∀ (M : List Chunk) (w : World), St S M w → Rets Tryd.prog 23 [.int .i64 12] w fun v w' => v = .int .i64 1 ∧ St S M w' := fun M w hst => rpops_ok w hst 12 (by decide)
  go_enter Tryd.func19, Tryd.ntmps19
  repeat' ((fail_if_success (with_reducible show Code.wp _ (Code.region 8 _ _) _ _ _)); first | (((with_reducible refine Sl.k_guard ?_; (first | (refine Sl.guard_yes rfl ?_) | (refine Sl.guard_cases rfl ?_ ?_ <;> intro hg <;> first | (exfalso; simp only [decide_eq_true_eq, decide_eq_false_iff_not, Bool.not_false, Bool.not_true, beq_iff_eq, beq_eq_false_iff_ne, ne_eq] at hg; omega) | (simp only [hg, Bool.not_true, Bool.not_false])) <;> (try simp only [decide_eq_true_eq, decide_eq_false_iff_not, Bool.not_false, Bool.not_true, beq_iff_eq, beq_eq_false_iff_ne, bne_iff_ne, bne_eq_false_iff_eq, ne_eq] at hg)))) <;> (try refine nX ?_)) | ((fail_if_success (go_big_may)); (go_step)) | ((first | (with_reducible refine Sl.k_load ?_; (refine s_qt hst (by first | exact qt_load rfl _ BoxIn.h inX rfl rfl | exact qt_ldp_flat evX asX inX inX rfl) ?_)) | (with_reducible refine Sl.k_field ?_; (refine s_qt hst (qt_field rfl inX) ?_)) | (with_reducible refine Sl.k_index ?_; (((refine s_ex hst (qt_index evX asX rfl inX inX omX omX) ?_); rintro v hp; (try simp only [Int.toNat_natCast, Int.toNat_natCast_add_one, Int.reduceToNat] at hp)))) | (with_reducible refine Sl.k_call ?_; (refine s_qt hst (by exact qt_len evX asX inX) ?_))) <;> (try refine nX ?_)) | (with_reducible refine Sl.gate rfl ?_; (go_step)) | ((((first | (with_reducible refine Sl.k_store ?_; (refine s_store hst rfl _ BoxIn.h inX evX rfl lenOk oneOk (by simp) ?_); clear hst; intro w hst) | (refine s_box hst evX rfl ?_; clear hst; intro bx w hst) | (refine s_alloc hst inX ?_; clear hst; intro bk w hst)))) <;> (try refine nX ?_) <;> (try replace hst := nH hst)))
  rw [hi] at hst hp ⊢
  simp only [insC] at hst ⊢
  obtain ⟨k, rfl⟩ : ∃ k : Nat, b = (k : Int) := ⟨b.toNat, by omega⟩
  (try simp only [Int.toNat_natCast])
  repeat' (first | (((with_reducible refine Sl.k_guard ?_; (first | (refine Sl.guard_yes rfl ?_) | (refine Sl.guard_cases rfl ?_ ?_ <;> intro hg <;> first | (exfalso; simp only [decide_eq_true_eq, decide_eq_false_iff_not, Bool.not_false, Bool.not_true, beq_iff_eq, beq_eq_false_iff_ne, ne_eq] at hg; omega) | (simp only [hg, Bool.not_true, Bool.not_false])) <;> (try simp only [decide_eq_true_eq, decide_eq_false_iff_not, Bool.not_false, Bool.not_true, beq_iff_eq, beq_eq_false_iff_ne, bne_iff_ne, bne_eq_false_iff_eq, ne_eq] at hg)))) <;> (try refine nX ?_)) | (((with_reducible refine Sl.k_call ?_; ((refine s_call (rp _ _ hst) inX rfl ?_; clear hst; rintro v w ⟨rfl, hst⟩)))) <;> (try refine nX ?_) <;> (try replace hst := nH hst)) | ((fail_if_success (go_big_may)); (go_step)) | ((first | (with_reducible refine Sl.k_load ?_; (first | refine s_qt hst (by exact qt_load rfl _ BoxIn.h inX rfl rfl) ?_ | (refine s_ex hst (qt_ldp_int evX asX inX) ?_; rintro v ⟨rfl, hI⟩))) | (with_reducible refine Sl.k_field ?_; (refine s_qt hst (qt_field rfl inX) ?_)) | (with_reducible refine Sl.k_index ?_; (((refine s_ex hst (qt_index evX asX rfl inX inX omX omX) ?_); rintro v hp; (try simp only [Int.toNat_natCast, Int.toNat_natCast_add_one, Int.reduceToNat] at hp)))) | (with_reducible refine Sl.k_call ?_; (refine s_qt hst (by exact qt_len evX asX inX) ?_))) <;> (try refine nX ?_)) | (with_reducible refine Sl.gate rfl ?_; (go_step)))
  obtain ⟨zs, hzs⟩ : ∃ zs, s.stack.take (s.stack.length - 1) = zs := ⟨_, rfl⟩
  have hzl : zs.length = s.stack.length - 1 := by rw [← hzs, List.length_take]; omega
  have hzin : ∀ y ∈ zs, inR y := hzs ▸ take_all gd.stack
  refine s_slice (a := 0) (b := s.stack.length - 1) evX hvs inX inX (.inl ⟨rfl, rfl⟩) (.inr ⟨.i64, by simp [evF, nth]; omega⟩) (.inl rfl) (by omega) (by omega) ?_
  intro vz hvz
  rw [List.drop_zero, Nat.sub_zero, hzs] at hvz
  obtain ⟨ay, ny, cy, rfl⟩ := rsl_form hvz
  (try refine nX ?_)
  have hw := top_in gd
  simp only [top_atk hn]
  have hpin := gd.pts _ (List.getElem_mem (show k < s.pts.length by omega))
  have ri := fun (M : List Chunk) (w : World) (hst : St S M w) => (rin_c w hst vg gl hgl hgm (s.br : Int)).eq hz
  have hbr := gd.br
  have rb := fun (M : List Chunk) (w : World) (hst : St S M w) => rwith_dk w hst _ s.pts hvp (by omega) k (by omega) (orV (s.pts[k]'(by omega)) 1) (pt_i64 (orV_in hpin ⟨by decide, by decide⟩))
  repeat' ((fail_if_success (with_reducible show Code.wp _ (Code.region 54 _ _) _ _ _)); first | (((with_reducible refine Sl.k_call ?_; ((refine s_call (ri _ _ hst) inX rfl ?_; clear hst; rintro v w ⟨rfl, hst⟩)))) <;> (try refine nX ?_) <;> (try replace hst := nH hst)) | ((fail_if_success (go_big_may)); (go_step)) | ((first | (with_reducible refine Sl.k_load ?_; (refine s_qt hst (by exact qt_load rfl _ BoxIn.h inX rfl rfl) ?_)) | (with_reducible refine Sl.k_field ?_; (refine s_qt hst (qt_field rfl inX) ?_))) <;> (try refine nX ?_)) | (with_reducible refine Sl.gate rfl ?_; (go_step)) | (((((with_reducible refine Sl.k_store ?_; (refine s_store hst rfl _ BoxIn.h inX evX rfl lenOk oneOk (by simp) ?_); clear hst; intro w hst)))) <;> (try refine nX ?_) <;> (try replace hst := nH hst)))
  all_goals (try (exfalso; simp_all; done))
  refine v_begin hst (by kernel_rfl) ?_; clear hst; intro ops; (try refine nX ?_)
  (refine t_qt 0 rfl (by kernel_rfl) rfl rfl (by exact qt_field rfl inX) ?_) <;> (try refine nX ?_)
  (refine t_qt 1 rfl (by kernel_rfl) rfl rfl (by exact qt_field rfl inX) ?_) <;> (try refine nX ?_)
  (refine t_qt 2 rfl (by kernel_rfl) rfl rfl (by exact qt_load rfl _ BoxIn.h inX rfl rfl) ?_) <;> (try refine nX ?_)
  (refine t_qt 3 rfl (by kernel_rfl) rfl rfl (by exact qt_field rfl inX) ?_) <;> (try refine nX ?_)
  (refine t_qt 4 rfl (by kernel_rfl) rfl rfl (by exact qt_load rfl _ BoxIn.h inX rfl rfl) ?_) <;> (try refine nX ?_)
  (refine t_qt 5 rfl (by kernel_rfl) rfl rfl (by exact qt_field rfl inX) ?_) <;> (try refine nX ?_)
  (refine t_qt 6 rfl (by kernel_rfl) rfl rfl (by exact qt_field rfl inX) ?_) <;> (try refine nX ?_)
  (refine t_qt 7 rfl (by kernel_rfl) rfl rfl (by exact qt_load rfl _ BoxIn.h inX rfl rfl) ?_) <;> (try refine nX ?_)
  (refine t_qt 8 rfl (by kernel_rfl) rfl rfl (by exact qt_field rfl inX) ?_) <;> (try refine nX ?_)
  (refine t_qt 9 rfl (by kernel_rfl) rfl rfl (by exact qt_load rfl _ BoxIn.h inX rfl rfl) ?_) <;> (try refine nX ?_)
  ((refine t_ex0 10 rfl (by kernel_rfl) rfl rfl (qt_index evX hvp rfl inX inX omX omX ) ?_; rintro  v10 hp10; simp only [Int.toNat_natCast] at hp10)) <;> (try refine nX ?_)
  ((refine t_ex0 11 rfl (by kernel_rfl) rfl rfl (qt_ldp_int evX hp10 inX ) ?_; rintro  v11 ⟨rfl, h11⟩)) <;> (try refine nX ?_)
  (refine t_qt 12 rfl (by kernel_rfl) rfl rfl (by exact qt_move evX) ?_) <;> (try refine nX ?_)
  (refine t_qt 13 rfl (by kernel_rfl) rfl rfl (qt_orI rfl rfl hpin ⟨by decide, by decide⟩) ?_) <;> (try refine nX ?_)
  refine v_one 14 rfl (by kernel_rfl) ?_; intro w hst K hK; refine s_call (rb _ _ hst) inX rfl ?_; clear hst; rintro v w ⟨S2, a2, n2, c2, hS2, rfl, hsv, hst⟩; (try refine nX ?_); (try replace hst := nH hst); refine v_next hK hst hS2 (Suf.refl _) ?_; clear hst hK K; (try clear w); (try refine nX ?_)
  (refine t_qt 15 rfl (by kernel_rfl) rfl rfl (by exact qt_field rfl inX) ?_) <;> (try refine nX ?_)
  (refine t_qt 16 rfl (by kernel_rfl) rfl rfl (by exact qt_field rfl inX) ?_) <;> (try refine nX ?_)
  refine v_one 17 rfl (by kernel_rfl) ?_; intro w hst K hK; (refine s_store hst rfl _ BoxIn.h inX evX rfl lenOk oneOk (by simp <;> omega) ?_); clear hst; intro w hst; (try refine nX ?_); (try replace hst := nH hst); refine v_last hK hst ?_; clear hst hK K; (try clear w); (try refine nX ?_)
  refine v_done (by kernel_rfl) ?_; clear ops; intro w hst
  all_goals trace_state
  repeat' (first | ((fail_if_success (go_big_may)); (go_step)) | (((with_reducible refine Sl.k_load ?_; (refine s_qt hst (by exact qt_load rfl _ BoxIn.h inX rfl rfl) ?_))) <;> (try refine nX ?_)) | (with_reducible refine Sl.gate rfl ?_; (go_step)) | (((((with_reducible refine Sl.k_store ?_; (refine s_store hst rfl _ BoxIn.h inX evX rfl lenOk oneOk (by simp) ?_); clear hst; intro w hst)))) <;> (try refine nX ?_) <;> (try replace hst := nH hst)))
  refine ret_cell rfl hst rfl 1 rfl inferInstance rfl rfl ?_
  exact ⟨_, rfl, S2, _, _, _, _, hS2, rfl, hvv.mono hS2, hzs ▸ hvz.mono hS2, hsv, hvn.mono hS2, hst.drop.drop.drop.drop⟩
end
end Go.Proofs.YtmbdbfdlbbkclaaDoor

/- The reference machine: a step, branches. -/
--@hgp
--@flat
--@ex0
namespace Go.Proofs.YtmbdbfdlbbkclaaDoor
set_option linter.unusedSimpArgs false
set_option linter.unusedVariables false
open Go.RowKit Go.Sl
section
variable {S : Snap} {M : List Chunk} {vi vg : Value} {c : CodeD} {s : VS} {vv vs vp vn : Value}
theorem top_atl {s : VS} (h : 1 ≤ s.stack.length) : s.stack[((s.stack.length : Int) - 1).toNat]'(by omega) = topV s := by
  have e : ((s.stack.length : Int) - 1).toNat = s.stack.length - 1 := by omega
  simp only [e]
  exact (getD_at (by omega)).symm
theorem top2_atl {s : VS} (h : 2 ≤ s.stack.length) : s.stack[((s.stack.length : Int) - 2).toNat]'(by omega) = topV (popV s) := by
  have e : ((s.stack.length : Int) - 2).toNat = s.stack.length - 2 := by omega
  simp only [e]
  unfold topV popV
  simp only [List.length_take]
  have e2 : min (s.stack.length - 1) s.stack.length - 1 = s.stack.length - 2 := by omega
  rw [e2, List.getD_eq_getElem?_getD, List.getElem?_take_of_lt (by omega), List.getElem?_eq_getElem (by omega)]
  rfl
theorem rwith_dl {S M} (w : World) (hst : St S M w) (vs : Value) (xs : List Int) (hxs : RSl S vs xs) (hm : xs.length ≤ 1048576) (k : Nat) (hk : k < xs.length) (x : Int) (hx : I64 x) :
    Rets Tryd.prog 25 [vs, .int .i64 (k : Int), .int .i64 x] w fun v w' => ∃ S' a n c, S.Le S' ∧ v = .slice a n c ∧ RSl S' (.slice a n c) (setV xs k x) ∧ St S' M w' :=
  (rwith_c w hst vs xs hxs hm k hk x hx).mono fun v w' ⟨S', h1, h2, h3⟩ => by
    obtain ⟨a, n, c, rfl⟩ := rsl_form h2
    exact ⟨S', a, n, c, h1, rfl, h2, h3⟩
set_option maxRecDepth 60000 in
set_option maxHeartbeats 8000000 in
theorem step_12l (w : World) (hst : St S M w) (hvi : RSl S vi c.1) (hvm : c.1.length ≤ 1048576) (hvv : RSl S vv s.vars) (hvs : RSl S vs s.stack) (hvp : RSl S vp s.pts) (hvn : RSl S vn s.notes) (h3 : s.steps < 3000) (hp0 : 0 ≤ s.pc) (hp1 : s.pc < c.1.length) (gd : GoodV c s) {a b : Int} {u : Unit}
    (hi : c.1[s.pc.toNat]'(by omega) = (12, a, b, u)) {gl : List Int} (hgl : RSl S vg gl) (hgm : gl.length ≤ 1048576) (hn : 1 ≤ s.stack.length) (hb0 : 0 ≤ b) (hb2 : b < s.pts.length) (hb1 : b < c.2.2.1) (hpn : s.pts.length ≤ 8) (h0 : ¬ topV s = 0) (hz : gl.contains (s.br : Int) = true) :
    Rets Tryd.prog 19 [codeVal vi c, stVal s vv vs vp vn 0, vg] w fun v w' => OkPost S M { nextV s with stack := s.stack.take (s.stack.length - 1), br := s.br + 1, pts := setV s.pts b (orV (s.pts[b.toNat]'(by omega)) 2), pc := a } v w' := by
  unfold Rets
  obtain ⟨ai, ni, ci, rfl⟩ := rsl_form hvi
  obtain ⟨av, nv, cv, rfl⟩ := rsl_form hvv
  obtain ⟨az, nz, cz, rfl⟩ := rsl_form hvs
  obtain ⟨ap, np, cp, rfl⟩ := rsl_form hvp
  obtain ⟨an, nn, cn, rfl⟩ := rsl_form hvn
  have hsl := gd.slen
  have rp : ∀ (M : List Chunk) (w : World), St S M w → Rets Tryd.prog 23 [.int .i64 12] w fun v w' => v = .int .i64 1 ∧ St S M w' := fun M w hst => rpops_ok w hst 12 (by decide)
  go_enter Tryd.func19, Tryd.ntmps19
  repeat' ((fail_if_success (with_reducible show Code.wp _ (Code.region 8 _ _) _ _ _)); first | (((with_reducible refine Sl.k_guard ?_; (first | (refine Sl.guard_yes rfl ?_) | (refine Sl.guard_cases rfl ?_ ?_ <;> intro hg <;> first | (exfalso; simp only [decide_eq_true_eq, decide_eq_false_iff_not, Bool.not_false, Bool.not_true, beq_iff_eq, beq_eq_false_iff_ne, ne_eq] at hg; omega) | (simp only [hg, Bool.not_true, Bool.not_false])) <;> (try simp only [decide_eq_true_eq, decide_eq_false_iff_not, Bool.not_false, Bool.not_true, beq_iff_eq, beq_eq_false_iff_ne, bne_iff_ne, bne_eq_false_iff_eq, ne_eq] at hg)))) <;> (try refine nX ?_)) | ((fail_if_success (go_big_may)); (go_step)) | ((first | (with_reducible refine Sl.k_load ?_; (refine s_qt hst (by first | exact qt_load rfl _ BoxIn.h inX rfl rfl | exact qt_ldp_flat evX asX inX inX rfl) ?_)) | (with_reducible refine Sl.k_field ?_; (refine s_qt hst (qt_field rfl inX) ?_)) | (with_reducible refine Sl.k_index ?_; (((refine s_ex hst (qt_index evX asX rfl inX inX omX omX) ?_); rintro v hp; (try simp only [Int.toNat_natCast, Int.toNat_natCast_add_one, Int.reduceToNat] at hp)))) | (with_reducible refine Sl.k_call ?_; (refine s_qt hst (by exact qt_len evX asX inX) ?_))) <;> (try refine nX ?_)) | (with_reducible refine Sl.gate rfl ?_; (go_step)) | ((((first | (with_reducible refine Sl.k_store ?_; (refine s_store hst rfl _ BoxIn.h inX evX rfl lenOk oneOk (by simp) ?_); clear hst; intro w hst) | (refine s_box hst evX rfl ?_; clear hst; intro bx w hst) | (refine s_alloc hst inX ?_; clear hst; intro bk w hst)))) <;> (try refine nX ?_) <;> (try replace hst := nH hst)))
  rw [hi] at hst hp ⊢
  simp only [insC] at hst ⊢
  obtain ⟨k, rfl⟩ : ∃ k : Nat, b = (k : Int) := ⟨b.toNat, by omega⟩
  (try simp only [Int.toNat_natCast])
  repeat' (first | (((with_reducible refine Sl.k_guard ?_; (first | (refine Sl.guard_yes rfl ?_) | (refine Sl.guard_cases rfl ?_ ?_ <;> intro hg <;> first | (exfalso; simp only [decide_eq_true_eq, decide_eq_false_iff_not, Bool.not_false, Bool.not_true, beq_iff_eq, beq_eq_false_iff_ne, ne_eq] at hg; omega) | (simp only [hg, Bool.not_true, Bool.not_false])) <;> (try simp only [decide_eq_true_eq, decide_eq_false_iff_not, Bool.not_false, Bool.not_true, beq_iff_eq, beq_eq_false_iff_ne, bne_iff_ne, bne_eq_false_iff_eq, ne_eq] at hg)))) <;> (try refine nX ?_)) | (((with_reducible refine Sl.k_call ?_; ((refine s_call (rp _ _ hst) inX rfl ?_; clear hst; rintro v w ⟨rfl, hst⟩)))) <;> (try refine nX ?_) <;> (try replace hst := nH hst)) | ((fail_if_success (go_big_may)); (go_step)) | ((first | (with_reducible refine Sl.k_load ?_; (first | refine s_qt hst (by exact qt_load rfl _ BoxIn.h inX rfl rfl) ?_ | (refine s_ex hst (qt_ldp_int evX asX inX) ?_; rintro v ⟨rfl, hI⟩))) | (with_reducible refine Sl.k_field ?_; (refine s_qt hst (qt_field rfl inX) ?_)) | (with_reducible refine Sl.k_index ?_; (((refine s_ex hst (qt_index evX asX rfl inX inX omX omX) ?_); rintro v hp; (try simp only [Int.toNat_natCast, Int.toNat_natCast_add_one, Int.reduceToNat] at hp)))) | (with_reducible refine Sl.k_call ?_; (refine s_qt hst (by exact qt_len evX asX inX) ?_))) <;> (try refine nX ?_)) | (with_reducible refine Sl.gate rfl ?_; (go_step)))
  obtain ⟨zs, hzs⟩ : ∃ zs, s.stack.take (s.stack.length - 1) = zs := ⟨_, rfl⟩
  have hzl : zs.length = s.stack.length - 1 := by rw [← hzs, List.length_take]; omega
  have hzin : ∀ y ∈ zs, inR y := hzs ▸ take_all gd.stack
  refine s_slice (a := 0) (b := s.stack.length - 1) evX hvs inX inX (.inl ⟨rfl, rfl⟩) (.inr ⟨.i64, by simp [evF, nth]; omega⟩) (.inl rfl) (by omega) (by omega) ?_
  intro vz hvz
  rw [List.drop_zero, Nat.sub_zero, hzs] at hvz
  obtain ⟨ay, ny, cy, rfl⟩ := rsl_form hvz
  (try refine nX ?_)
  have hw := top_in gd
  simp only [top_atl hn]
  have hpin := gd.pts _ (List.getElem_mem (show k < s.pts.length by omega))
  have ri := fun (M : List Chunk) (w : World) (hst : St S M w) => (rin_c w hst vg gl hgl hgm (s.br : Int)).eq hz
  have hbr := gd.br
  have rb := fun (M : List Chunk) (w : World) (hst : St S M w) => rwith_dl w hst _ s.pts hvp (by omega) k (by omega) (orV (s.pts[k]'(by omega)) 2) (pt_i64 (orV_in hpin ⟨by decide, by decide⟩))
  repeat' ((fail_if_success (with_reducible show Code.wp _ (Code.region 54 _ _) _ _ _)); first | (((with_reducible refine Sl.k_call ?_; ((refine s_call (ri _ _ hst) inX rfl ?_; clear hst; rintro v w ⟨rfl, hst⟩)))) <;> (try refine nX ?_) <;> (try replace hst := nH hst)) | ((fail_if_success (go_big_may)); (go_step)) | ((first | (with_reducible refine Sl.k_load ?_; (refine s_qt hst (by exact qt_load rfl _ BoxIn.h inX rfl rfl) ?_)) | (with_reducible refine Sl.k_field ?_; (refine s_qt hst (qt_field rfl inX) ?_))) <;> (try refine nX ?_)) | (with_reducible refine Sl.gate rfl ?_; (go_step)) | (((((with_reducible refine Sl.k_store ?_; (refine s_store hst rfl _ BoxIn.h inX evX rfl lenOk oneOk (by simp) ?_); clear hst; intro w hst)))) <;> (try refine nX ?_) <;> (try replace hst := nH hst)))
  all_goals (try (exfalso; simp_all; done))
  refine v_begin hst (by kernel_rfl) ?_; clear hst; intro ops; (try refine nX ?_)
  (refine t_qt 0 rfl (by kernel_rfl) rfl rfl (by exact qt_field rfl inX) ?_) <;> (try refine nX ?_)
  (refine t_qt 1 rfl (by kernel_rfl) rfl rfl (by exact qt_field rfl inX) ?_) <;> (try refine nX ?_)
  (refine t_qt 2 rfl (by kernel_rfl) rfl rfl (by exact qt_load rfl _ BoxIn.h inX rfl rfl) ?_) <;> (try refine nX ?_)
  (refine t_qt 3 rfl (by kernel_rfl) rfl rfl (by exact qt_field rfl inX) ?_) <;> (try refine nX ?_)
  (refine t_qt 4 rfl (by kernel_rfl) rfl rfl (by exact qt_load rfl _ BoxIn.h inX rfl rfl) ?_) <;> (try refine nX ?_)
  (refine t_qt 5 rfl (by kernel_rfl) rfl rfl (by exact qt_field rfl inX) ?_) <;> (try refine nX ?_)
  (refine t_qt 6 rfl (by kernel_rfl) rfl rfl (by exact qt_field rfl inX) ?_) <;> (try refine nX ?_)
  (refine t_qt 7 rfl (by kernel_rfl) rfl rfl (by exact qt_load rfl _ BoxIn.h inX rfl rfl) ?_) <;> (try refine nX ?_)
  (refine t_qt 8 rfl (by kernel_rfl) rfl rfl (by exact qt_field rfl inX) ?_) <;> (try refine nX ?_)
  (refine t_qt 9 rfl (by kernel_rfl) rfl rfl (by exact qt_load rfl _ BoxIn.h inX rfl rfl) ?_) <;> (try refine nX ?_)
  ((refine t_ex0 10 rfl (by kernel_rfl) rfl rfl (qt_index evX hvp rfl inX inX omX omX ) ?_; rintro  v10 hp10; simp only [Int.toNat_natCast] at hp10)) <;> (try refine nX ?_)
  ((refine t_ex0 11 rfl (by kernel_rfl) rfl rfl (qt_ldp_int evX hp10 inX ) ?_; rintro  v11 ⟨rfl, h11⟩)) <;> (try refine nX ?_)
  (refine t_qt 12 rfl (by kernel_rfl) rfl rfl (by exact qt_move evX) ?_) <;> (try refine nX ?_)
  (refine t_qt 13 rfl (by kernel_rfl) rfl rfl (qt_orI rfl rfl hpin ⟨by decide, by decide⟩) ?_) <;> (try refine nX ?_)
  refine v_one 14 rfl (by kernel_rfl) ?_; intro w hst K hK; refine s_call (rb _ _ hst) inX rfl ?_; clear hst; rintro v w ⟨S2, a2, n2, c2, hS2, rfl, hsv, hst⟩; (try refine nX ?_); (try replace hst := nH hst); refine v_next hK hst hS2 (Suf.refl _) ?_; clear hst hK K; (try clear w); (try refine nX ?_)
  (refine t_qt 15 rfl (by kernel_rfl) rfl rfl (by exact qt_field rfl inX) ?_) <;> (try refine nX ?_)
  (refine t_qt 16 rfl (by kernel_rfl) rfl rfl (by exact qt_field rfl inX) ?_) <;> (try refine nX ?_)
  refine v_one 17 rfl (by kernel_rfl) ?_; intro w hst K hK; (refine s_store hst rfl _ BoxIn.h inX evX rfl lenOk oneOk (by simp <;> omega) ?_); clear hst; intro w hst; (try refine nX ?_); (try replace hst := nH hst); refine v_last hK hst ?_; clear hst hK K; (try clear w); (try refine nX ?_)
  refine v_done (by kernel_rfl) ?_; clear ops; intro w hst
  all_goals trace_state
  repeat' (first | ((fail_if_success (go_big_may)); (go_step)) | (((with_reducible refine Sl.k_load ?_; (refine s_qt hst (by exact qt_load rfl _ BoxIn.h inX rfl rfl) ?_))) <;> (try refine nX ?_)) | (with_reducible refine Sl.gate rfl ?_; (go_step)) | (((((with_reducible refine Sl.k_store ?_; (refine s_store hst rfl _ BoxIn.h inX evX rfl lenOk oneOk (by simp) ?_); clear hst; intro w hst)))) <;> (try refine nX ?_) <;> (try replace hst := nH hst)))
  refine ret_cell rfl hst rfl 1 rfl inferInstance rfl rfl ?_
  exact ⟨_, rfl, S2, _, _, _, _, hS2, rfl, hvv.mono hS2, hzs ▸ hvz.mono hS2, hsv, hvn.mono hS2, hst.drop.drop.drop.drop⟩
end
end Go.Proofs.YtmbdbfdlbbkclaaDoor

/- The reference machine: a step, branches. -/
--@hgp
--@flat
--@ex0
namespace Go.Proofs.YtmbdbfdlbbkclaaDoor
set_option linter.unusedSimpArgs false
set_option linter.unusedVariables false
open Go.RowKit Go.Sl
section
variable {S : Snap} {M : List Chunk} {vi vg : Value} {c : CodeD} {s : VS} {vv vs vp vn : Value}
theorem top_atm {s : VS} (h : 1 ≤ s.stack.length) : s.stack[((s.stack.length : Int) - 1).toNat]'(by omega) = topV s := by
  have e : ((s.stack.length : Int) - 1).toNat = s.stack.length - 1 := by omega
  simp only [e]
  exact (getD_at (by omega)).symm
theorem top2_atm {s : VS} (h : 2 ≤ s.stack.length) : s.stack[((s.stack.length : Int) - 2).toNat]'(by omega) = topV (popV s) := by
  have e : ((s.stack.length : Int) - 2).toNat = s.stack.length - 2 := by omega
  simp only [e]
  unfold topV popV
  simp only [List.length_take]
  have e2 : min (s.stack.length - 1) s.stack.length - 1 = s.stack.length - 2 := by omega
  rw [e2, List.getD_eq_getElem?_getD, List.getElem?_take_of_lt (by omega), List.getElem?_eq_getElem (by omega)]
  rfl
theorem rwith_dm {S M} (w : World) (hst : St S M w) (vs : Value) (xs : List Int) (hxs : RSl S vs xs) (hm : xs.length ≤ 1048576) (k : Nat) (hk : k < xs.length) (x : Int) (hx : I64 x) :
    Rets Tryd.prog 25 [vs, .int .i64 (k : Int), .int .i64 x] w fun v w' => ∃ S' a n c, S.Le S' ∧ v = .slice a n c ∧ RSl S' (.slice a n c) (setV xs k x) ∧ St S' M w' :=
  (rwith_c w hst vs xs hxs hm k hk x hx).mono fun v w' ⟨S', h1, h2, h3⟩ => by
    obtain ⟨a, n, c, rfl⟩ := rsl_form h2
    exact ⟨S', a, n, c, h1, rfl, h2, h3⟩
set_option maxRecDepth 60000 in
set_option maxHeartbeats 8000000 in
theorem step_12m (w : World) (hst : St S M w) (hvi : RSl S vi c.1) (hvm : c.1.length ≤ 1048576) (hvv : RSl S vv s.vars) (hvs : RSl S vs s.stack) (hvp : RSl S vp s.pts) (hvn : RSl S vn s.notes) (h3 : s.steps < 3000) (hp0 : 0 ≤ s.pc) (hp1 : s.pc < c.1.length) (gd : GoodV c s) {a b : Int} {u : Unit}
    (hi : c.1[s.pc.toNat]'(by omega) = (12, a, b, u)) {gl : List Int} (hgl : RSl S vg gl) (hgm : gl.length ≤ 1048576) (hn : 1 ≤ s.stack.length) (hb0 : 0 ≤ b) (hb2 : b < s.pts.length) (hb1 : b < c.2.2.1) (hpn : s.pts.length ≤ 8) (h0 : topV s = 0) (hz : gl.contains (s.br : Int) = false) :
    Rets Tryd.prog 19 [codeVal vi c, stVal s vv vs vp vn 0, vg] w fun v w' => OkPost S M { nextV s with stack := s.stack.take (s.stack.length - 1), br := s.br + 1, pts := setV s.pts b (orV (s.pts[b.toNat]'(by omega)) 2), pc := a } v w' := by
  unfold Rets
  obtain ⟨ai, ni, ci, rfl⟩ := rsl_form hvi
  obtain ⟨av, nv, cv, rfl⟩ := rsl_form hvv
  obtain ⟨az, nz, cz, rfl⟩ := rsl_form hvs
  obtain ⟨ap, np, cp, rfl⟩ := rsl_form hvp
  obtain ⟨an, nn, cn, rfl⟩ := rsl_form hvn
  have hsl := gd.slen
  have rp : ∀ (M : List Chunk) (w : World), St S M w → Rets Tryd.prog 23 [.int .i64 12] w fun v w' => v = .int .i64 1 ∧ St S M w' := fun M w hst => rpops_ok w hst 12 (by decide)
  go_enter Tryd.func19, Tryd.ntmps19
  repeat' ((fail_if_success (with_reducible show Code.wp _ (Code.region 8 _ _) _ _ _)); first | (((with_reducible refine Sl.k_guard ?_; (first | (refine Sl.guard_yes rfl ?_) | (refine Sl.guard_cases rfl ?_ ?_ <;> intro hg <;> first | (exfalso; simp only [decide_eq_true_eq, decide_eq_false_iff_not, Bool.not_false, Bool.not_true, beq_iff_eq, beq_eq_false_iff_ne, ne_eq] at hg; omega) | (simp only [hg, Bool.not_true, Bool.not_false])) <;> (try simp only [decide_eq_true_eq, decide_eq_false_iff_not, Bool.not_false, Bool.not_true, beq_iff_eq, beq_eq_false_iff_ne, bne_iff_ne, bne_eq_false_iff_eq, ne_eq] at hg)))) <;> (try refine nX ?_)) | ((fail_if_success (go_big_may)); (go_step)) | ((first | (with_reducible refine Sl.k_load ?_; (refine s_qt hst (by first | exact qt_load rfl _ BoxIn.h inX rfl rfl | exact qt_ldp_flat evX asX inX inX rfl) ?_)) | (with_reducible refine Sl.k_field ?_; (refine s_qt hst (qt_field rfl inX) ?_)) | (with_reducible refine Sl.k_index ?_; (((refine s_ex hst (qt_index evX asX rfl inX inX omX omX) ?_); rintro v hp; (try simp only [Int.toNat_natCast, Int.toNat_natCast_add_one, Int.reduceToNat] at hp)))) | (with_reducible refine Sl.k_call ?_; (refine s_qt hst (by exact qt_len evX asX inX) ?_))) <;> (try refine nX ?_)) | (with_reducible refine Sl.gate rfl ?_; (go_step)) | ((((first | (with_reducible refine Sl.k_store ?_; (refine s_store hst rfl _ BoxIn.h inX evX rfl lenOk oneOk (by simp) ?_); clear hst; intro w hst) | (refine s_box hst evX rfl ?_; clear hst; intro bx w hst) | (refine s_alloc hst inX ?_; clear hst; intro bk w hst)))) <;> (try refine nX ?_) <;> (try replace hst := nH hst)))
  rw [hi] at hst hp ⊢
  simp only [insC] at hst ⊢
  obtain ⟨k, rfl⟩ : ∃ k : Nat, b = (k : Int) := ⟨b.toNat, by omega⟩
  (try simp only [Int.toNat_natCast])
  repeat' (first | (((with_reducible refine Sl.k_guard ?_; (first | (refine Sl.guard_yes rfl ?_) | (refine Sl.guard_cases rfl ?_ ?_ <;> intro hg <;> first | (exfalso; simp only [decide_eq_true_eq, decide_eq_false_iff_not, Bool.not_false, Bool.not_true, beq_iff_eq, beq_eq_false_iff_ne, ne_eq] at hg; omega) | (simp only [hg, Bool.not_true, Bool.not_false])) <;> (try simp only [decide_eq_true_eq, decide_eq_false_iff_not, Bool.not_false, Bool.not_true, beq_iff_eq, beq_eq_false_iff_ne, bne_iff_ne, bne_eq_false_iff_eq, ne_eq] at hg)))) <;> (try refine nX ?_)) | (((with_reducible refine Sl.k_call ?_; ((refine s_call (rp _ _ hst) inX rfl ?_; clear hst; rintro v w ⟨rfl, hst⟩)))) <;> (try refine nX ?_) <;> (try replace hst := nH hst)) | ((fail_if_success (go_big_may)); (go_step)) | ((first | (with_reducible refine Sl.k_load ?_; (first | refine s_qt hst (by exact qt_load rfl _ BoxIn.h inX rfl rfl) ?_ | (refine s_ex hst (qt_ldp_int evX asX inX) ?_; rintro v ⟨rfl, hI⟩))) | (with_reducible refine Sl.k_field ?_; (refine s_qt hst (qt_field rfl inX) ?_)) | (with_reducible refine Sl.k_index ?_; (((refine s_ex hst (qt_index evX asX rfl inX inX omX omX) ?_); rintro v hp; (try simp only [Int.toNat_natCast, Int.toNat_natCast_add_one, Int.reduceToNat] at hp)))) | (with_reducible refine Sl.k_call ?_; (refine s_qt hst (by exact qt_len evX asX inX) ?_))) <;> (try refine nX ?_)) | (with_reducible refine Sl.gate rfl ?_; (go_step)))
  obtain ⟨zs, hzs⟩ : ∃ zs, s.stack.take (s.stack.length - 1) = zs := ⟨_, rfl⟩
  have hzl : zs.length = s.stack.length - 1 := by rw [← hzs, List.length_take]; omega
  have hzin : ∀ y ∈ zs, inR y := hzs ▸ take_all gd.stack
  refine s_slice (a := 0) (b := s.stack.length - 1) evX hvs inX inX (.inl ⟨rfl, rfl⟩) (.inr ⟨.i64, by simp [evF, nth]; omega⟩) (.inl rfl) (by omega) (by omega) ?_
  intro vz hvz
  rw [List.drop_zero, Nat.sub_zero, hzs] at hvz
  obtain ⟨ay, ny, cy, rfl⟩ := rsl_form hvz
  (try refine nX ?_)
  have hw := top_in gd
  simp only [top_atm hn]
  have hpin := gd.pts _ (List.getElem_mem (show k < s.pts.length by omega))
  have ri := fun (M : List Chunk) (w : World) (hst : St S M w) => (rin_c w hst vg gl hgl hgm (s.br : Int)).eq hz
  have hbr := gd.br
  have rb := fun (M : List Chunk) (w : World) (hst : St S M w) => rwith_dm w hst _ s.pts hvp (by omega) k (by omega) (orV (s.pts[k]'(by omega)) 2) (pt_i64 (orV_in hpin ⟨by decide, by decide⟩))
  repeat' ((fail_if_success (with_reducible show Code.wp _ (Code.region 54 _ _) _ _ _)); first | (((with_reducible refine Sl.k_call ?_; ((refine s_call (ri _ _ hst) inX rfl ?_; clear hst; rintro v w ⟨rfl, hst⟩)))) <;> (try refine nX ?_) <;> (try replace hst := nH hst)) | ((fail_if_success (go_big_may)); (go_step)) | ((first | (with_reducible refine Sl.k_load ?_; (refine s_qt hst (by exact qt_load rfl _ BoxIn.h inX rfl rfl) ?_)) | (with_reducible refine Sl.k_field ?_; (refine s_qt hst (qt_field rfl inX) ?_))) <;> (try refine nX ?_)) | (with_reducible refine Sl.gate rfl ?_; (go_step)) | (((((with_reducible refine Sl.k_store ?_; (refine s_store hst rfl _ BoxIn.h inX evX rfl lenOk oneOk (by simp) ?_); clear hst; intro w hst)))) <;> (try refine nX ?_) <;> (try replace hst := nH hst)))
  all_goals (try (exfalso; simp_all; done))
  refine v_begin hst (by kernel_rfl) ?_; clear hst; intro ops; (try refine nX ?_)
  (refine t_qt 0 rfl (by kernel_rfl) rfl rfl (by exact qt_field rfl inX) ?_) <;> (try refine nX ?_)
  (refine t_qt 1 rfl (by kernel_rfl) rfl rfl (by exact qt_field rfl inX) ?_) <;> (try refine nX ?_)
  (refine t_qt 2 rfl (by kernel_rfl) rfl rfl (by exact qt_load rfl _ BoxIn.h inX rfl rfl) ?_) <;> (try refine nX ?_)
  (refine t_qt 3 rfl (by kernel_rfl) rfl rfl (by exact qt_field rfl inX) ?_) <;> (try refine nX ?_)
  (refine t_qt 4 rfl (by kernel_rfl) rfl rfl (by exact qt_load rfl _ BoxIn.h inX rfl rfl) ?_) <;> (try refine nX ?_)
  (refine t_qt 5 rfl (by kernel_rfl) rfl rfl (by exact qt_field rfl inX) ?_) <;> (try refine nX ?_)
  (refine t_qt 6 rfl (by kernel_rfl) rfl rfl (by exact qt_field rfl inX) ?_) <;> (try refine nX ?_)
  (refine t_qt 7 rfl (by kernel_rfl) rfl rfl (by exact qt_load rfl _ BoxIn.h inX rfl rfl) ?_) <;> (try refine nX ?_)
  (refine t_qt 8 rfl (by kernel_rfl) rfl rfl (by exact qt_field rfl inX) ?_) <;> (try refine nX ?_)
  (refine t_qt 9 rfl (by kernel_rfl) rfl rfl (by exact qt_load rfl _ BoxIn.h inX rfl rfl) ?_) <;> (try refine nX ?_)
  ((refine t_ex0 10 rfl (by kernel_rfl) rfl rfl (qt_index evX hvp rfl inX inX omX omX ) ?_; rintro  v10 hp10; simp only [Int.toNat_natCast] at hp10)) <;> (try refine nX ?_)
  ((refine t_ex0 11 rfl (by kernel_rfl) rfl rfl (qt_ldp_int evX hp10 inX ) ?_; rintro  v11 ⟨rfl, h11⟩)) <;> (try refine nX ?_)
  (refine t_qt 12 rfl (by kernel_rfl) rfl rfl (by exact qt_move evX) ?_) <;> (try refine nX ?_)
  (refine t_qt 13 rfl (by kernel_rfl) rfl rfl (qt_orI rfl rfl hpin ⟨by decide, by decide⟩) ?_) <;> (try refine nX ?_)
  refine v_one 14 rfl (by kernel_rfl) ?_; intro w hst K hK; refine s_call (rb _ _ hst) inX rfl ?_; clear hst; rintro v w ⟨S2, a2, n2, c2, hS2, rfl, hsv, hst⟩; (try refine nX ?_); (try replace hst := nH hst); refine v_next hK hst hS2 (Suf.refl _) ?_; clear hst hK K; (try clear w); (try refine nX ?_)
  (refine t_qt 15 rfl (by kernel_rfl) rfl rfl (by exact qt_field rfl inX) ?_) <;> (try refine nX ?_)
  (refine t_qt 16 rfl (by kernel_rfl) rfl rfl (by exact qt_field rfl inX) ?_) <;> (try refine nX ?_)
  refine v_one 17 rfl (by kernel_rfl) ?_; intro w hst K hK; (refine s_store hst rfl _ BoxIn.h inX evX rfl lenOk oneOk (by simp <;> omega) ?_); clear hst; intro w hst; (try refine nX ?_); (try replace hst := nH hst); refine v_last hK hst ?_; clear hst hK K; (try clear w); (try refine nX ?_)
  refine v_done (by kernel_rfl) ?_; clear ops; intro w hst
  all_goals trace_state
  repeat' (first | ((fail_if_success (go_big_may)); (go_step)) | (((with_reducible refine Sl.k_load ?_; (refine s_qt hst (by exact qt_load rfl _ BoxIn.h inX rfl rfl) ?_))) <;> (try refine nX ?_)) | (with_reducible refine Sl.gate rfl ?_; (go_step)) | (((((with_reducible refine Sl.k_store ?_; (refine s_store hst rfl _ BoxIn.h inX evX rfl lenOk oneOk (by simp) ?_); clear hst; intro w hst)))) <;> (try refine nX ?_) <;> (try replace hst := nH hst)))
  refine ret_cell rfl hst rfl 1 rfl inferInstance rfl rfl ?_
  exact ⟨_, rfl, S2, _, _, _, _, hS2, rfl, hvv.mono hS2, hzs ▸ hvz.mono hS2, hsv, hvn.mono hS2, hst.drop.drop.drop.drop⟩
end
end Go.Proofs.YtmbdbfdlbbkclaaDoor

/- The reference machine: a step, still more errors. -/
--@hgp
--@flat
--@ex0
namespace Go.Proofs.YtmbdbfdlbbkclaaDoor
set_option linter.unusedSimpArgs false
set_option linter.unusedVariables false
open Go.RowKit Go.Sl
section
variable {S : Snap} {M : List Chunk} {vi vg : Value} {c : CodeD} {s : VS} {vv vs vp vn : Value}
theorem top_ato {s : VS} (h : 1 ≤ s.stack.length) : s.stack[((s.stack.length : Int) - 1).toNat]'(by omega) = topV s := by
  have e : ((s.stack.length : Int) - 1).toNat = s.stack.length - 1 := by omega
  simp only [e]
  exact (getD_at (by omega)).symm
theorem top2_ato {s : VS} (h : 2 ≤ s.stack.length) : s.stack[((s.stack.length : Int) - 2).toNat]'(by omega) = topV (popV s) := by
  have e : ((s.stack.length : Int) - 2).toNat = s.stack.length - 2 := by omega
  simp only [e]
  unfold topV popV
  simp only [List.length_take]
  have e2 : min (s.stack.length - 1) s.stack.length - 1 = s.stack.length - 2 := by omega
  rw [e2, List.getD_eq_getElem?_getD, List.getElem?_take_of_lt (by omega), List.getElem?_eq_getElem (by omega)]
  rfl
theorem rwith_do {S M} (w : World) (hst : St S M w) (vs : Value) (xs : List Int) (hxs : RSl S vs xs) (hm : xs.length ≤ 1048576) (k : Nat) (hk : k < xs.length) (x : Int) (hx : I64 x) :
    Rets Tryd.prog 25 [vs, .int .i64 (k : Int), .int .i64 x] w fun v w' => ∃ S' a n c, S.Le S' ∧ v = .slice a n c ∧ RSl S' (.slice a n c) (setV xs k x) ∧ St S' M w' :=
  (rwith_c w hst vs xs hxs hm k hk x hx).mono fun v w' ⟨S', h1, h2, h3⟩ => by
    obtain ⟨a, n, c, rfl⟩ := rsl_form h2
    exact ⟨S', a, n, c, h1, rfl, h2, h3⟩
set_option maxRecDepth 60000 in
set_option maxHeartbeats 8000000 in
theorem step_12bad (w : World) (hst : St S M w) (hvi : RSl S vi c.1) (hvm : c.1.length ≤ 1048576) (hvv : RSl S vv s.vars) (hvs : RSl S vs s.stack) (hvp : RSl S vp s.pts) (hvn : RSl S vn s.notes) (h3 : s.steps < 3000) (gd : GoodV c s) (hp0 : 0 ≤ s.pc) (hp1 : s.pc < c.1.length) {a b : Int} {u : Unit} (hi : c.1[s.pc.toNat]'(by omega) = (12, a, b, u)) (hn : 1 ≤ s.stack.length) (hv : ¬ (0 ≤ b ∧ b < c.2.2.1)) :
    Rets Tryd.prog 19 [codeVal vi c, stVal s vv vs vp vn 0, vg] w fun v w' => ErrPost S M 21 v w' := by
  unfold Rets
  obtain ⟨ai, ni, ci, rfl⟩ := rsl_form hvi
  obtain ⟨av, nv, cv, rfl⟩ := rsl_form hvv
  obtain ⟨az, nz, cz, rfl⟩ := rsl_form hvs
  obtain ⟨ap, np, cp, rfl⟩ := rsl_form hvp
  obtain ⟨an, nn, cn, rfl⟩ := rsl_form hvn
  have hsl := gd.slen
  have rp : ∀ (M : List Chunk) (w : World), St S M w → Rets Tryd.prog 23 [.int .i64 12] w fun v w' => v = .int .i64 1 ∧ St S M w' := fun M w hst => rpops_ok w hst 12 (by decide)
  by_cases hb : b < 0
  all_goals
    go_enter Tryd.func19, Tryd.ntmps19
    repeat' ((fail_if_success (with_reducible show Code.wp _ (Code.region 8 _ _) _ _ _)); first | (((with_reducible refine Sl.k_guard ?_; (first | (refine Sl.guard_yes rfl ?_) | (refine Sl.guard_cases rfl ?_ ?_ <;> intro hg <;> first | (exfalso; simp only [decide_eq_true_eq, decide_eq_false_iff_not, Bool.not_false, Bool.not_true, beq_iff_eq, beq_eq_false_iff_ne, ne_eq] at hg; omega) | (simp only [hg, Bool.not_true, Bool.not_false])) <;> (try simp only [decide_eq_true_eq, decide_eq_false_iff_not, Bool.not_false, Bool.not_true, beq_iff_eq, beq_eq_false_iff_ne, bne_iff_ne, bne_eq_false_iff_eq, ne_eq] at hg)))) <;> (try refine nX ?_)) | ((fail_if_success (go_big_may)); (go_step)) | ((first | (with_reducible refine Sl.k_load ?_; (refine s_qt hst (by first | exact qt_load rfl _ BoxIn.h inX rfl rfl | exact qt_ldp_flat evX asX inX inX rfl) ?_)) | (with_reducible refine Sl.k_field ?_; (refine s_qt hst (qt_field rfl inX) ?_)) | (with_reducible refine Sl.k_index ?_; (((refine s_ex hst (qt_index evX asX rfl inX inX omX omX) ?_); rintro v hp; (try simp only [Int.toNat_natCast, Int.toNat_natCast_add_one, Int.reduceToNat] at hp)))) | (with_reducible refine Sl.k_call ?_; (refine s_qt hst (by exact qt_len evX asX inX) ?_))) <;> (try refine nX ?_)) | (with_reducible refine Sl.gate rfl ?_; (go_step)) | ((((first | (with_reducible refine Sl.k_store ?_; (refine s_store hst rfl _ BoxIn.h inX evX rfl lenOk oneOk (by simp) ?_); clear hst; intro w hst) | (refine s_box hst evX rfl ?_; clear hst; intro bx w hst) | (refine s_alloc hst inX ?_; clear hst; intro bk w hst)))) <;> (try refine nX ?_) <;> (try replace hst := nH hst)))
    rw [hi] at hst hp ⊢
    simp only [insC] at hst ⊢
    repeat' (first | go_skip | (((with_reducible refine Sl.k_guard ?_; (first | (refine Sl.guard_yes rfl ?_) | (refine Sl.guard_cases rfl ?_ ?_ <;> intro hg <;> first | (exfalso; simp only [decide_eq_true_eq, decide_eq_false_iff_not, Bool.not_false, Bool.not_true, beq_iff_eq, beq_eq_false_iff_ne, ne_eq] at hg; omega) | (simp only [hg, Bool.not_true, Bool.not_false])) <;> (try simp only [decide_eq_true_eq, decide_eq_false_iff_not, Bool.not_false, Bool.not_true, beq_iff_eq, beq_eq_false_iff_ne, bne_iff_ne, bne_eq_false_iff_eq, ne_eq] at hg)))) <;> (try refine nX ?_)) | (((with_reducible refine Sl.k_call ?_; ((refine s_call (rp _ _ hst) inX rfl ?_; clear hst; rintro v w ⟨rfl, hst⟩)))) <;> (try refine nX ?_) <;> (try replace hst := nH hst)) | ((fail_if_success (go_big_may)); (go_step)) | ((first | (with_reducible refine Sl.k_load ?_; (refine s_qt hst (by exact qt_load rfl _ BoxIn.h inX rfl rfl) ?_)) | (with_reducible refine Sl.k_field ?_; (refine s_qt hst (qt_field rfl inX) ?_)) | (with_reducible refine Sl.k_call ?_; (refine s_qt hst (by exact qt_len evX asX inX) ?_))) <;> (try refine nX ?_)) | (with_reducible refine Sl.gate rfl ?_; (go_step)) | (((((with_reducible refine Sl.k_store ?_; (refine s_store hst rfl _ BoxIn.h inX evX rfl lenOk oneOk (by simp) ?_); clear hst; intro w hst)))) <;> (try refine nX ?_) <;> (try replace hst := nH hst)))
    all_goals (try (exfalso; omega))
    refine ret_cell rfl hst rfl 1 rfl inferInstance rfl rfl ?_
    exact ⟨_, rfl, S, s, _, _, _, _, Snap.Le.refl _, rfl, rfl, rfl, rfl, rfl, hst.drop.drop.drop.drop⟩
set_option maxRecDepth 60000 in
set_option maxHeartbeats 8000000 in
theorem step_1full (w : World) (hst : St S M w) (hvi : RSl S vi c.1) (hvm : c.1.length ≤ 1048576) (hvv : RSl S vv s.vars) (hvs : RSl S vs s.stack) (hvp : RSl S vp s.pts) (hvn : RSl S vn s.notes) (h3 : s.steps < 3000) (hp0 : 0 ≤ s.pc) (hp1 : s.pc < c.1.length) (gd : GoodV c s) {a b : Int} {u : Unit}
    (hi : c.1[s.pc.toNat]'(by omega) = (1, a, b, u)) (hlen : ¬ s.stack.length < 400) :
    Rets Tryd.prog 19 [codeVal vi c, stVal s vv vs vp vn 0, vg] w fun v w' => ErrPost S M 2 v w' := by
  unfold Rets
  obtain ⟨ai, ni, ci, rfl⟩ := rsl_form hvi
  obtain ⟨av, nv, cv, rfl⟩ := rsl_form hvv
  obtain ⟨az, nz, cz, rfl⟩ := rsl_form hvs
  obtain ⟨ap, np, cp, rfl⟩ := rsl_form hvp
  obtain ⟨an, nn, cn, rfl⟩ := rsl_form hvn
  have hsl := gd.slen
  have rp : ∀ (M : List Chunk) (w : World), St S M w → Rets Tryd.prog 23 [.int .i64 1] w fun v w' => v = .int .i64 0 ∧ St S M w' := fun M w hst => rpops_ok w hst 1 (by decide)
  go_enter Tryd.func19, Tryd.ntmps19
  repeat' ((fail_if_success (with_reducible show Code.wp _ (Code.region 8 _ _) _ _ _)); first | (((with_reducible refine Sl.k_guard ?_; (first | (refine Sl.guard_yes rfl ?_) | (refine Sl.guard_cases rfl ?_ ?_ <;> intro hg <;> first | (exfalso; simp only [decide_eq_true_eq, decide_eq_false_iff_not, Bool.not_false, Bool.not_true, beq_iff_eq, beq_eq_false_iff_ne, ne_eq] at hg; omega) | (simp only [hg, Bool.not_true, Bool.not_false])) <;> (try simp only [decide_eq_true_eq, decide_eq_false_iff_not, Bool.not_false, Bool.not_true, beq_iff_eq, beq_eq_false_iff_ne, bne_iff_ne, bne_eq_false_iff_eq, ne_eq] at hg)))) <;> (try refine nX ?_)) | ((fail_if_success (go_big_may)); (go_step)) | ((first | (with_reducible refine Sl.k_load ?_; (refine s_qt hst (by first | exact qt_load rfl _ BoxIn.h inX rfl rfl | exact qt_ldp_flat evX asX inX inX rfl) ?_)) | (with_reducible refine Sl.k_field ?_; (refine s_qt hst (qt_field rfl inX) ?_)) | (with_reducible refine Sl.k_index ?_; (((refine s_ex hst (qt_index evX asX rfl inX inX omX omX) ?_); rintro v hp; (try simp only [Int.toNat_natCast, Int.toNat_natCast_add_one, Int.reduceToNat] at hp)))) | (with_reducible refine Sl.k_call ?_; (refine s_qt hst (by exact qt_len evX asX inX) ?_))) <;> (try refine nX ?_)) | (with_reducible refine Sl.gate rfl ?_; (go_step)) | ((((first | (with_reducible refine Sl.k_store ?_; (refine s_store hst rfl _ BoxIn.h inX evX rfl lenOk oneOk (by simp) ?_); clear hst; intro w hst) | (refine s_box hst evX rfl ?_; clear hst; intro bx w hst) | (refine s_alloc hst inX ?_; clear hst; intro bk w hst)))) <;> (try refine nX ?_) <;> (try replace hst := nH hst)))
  rw [hi] at hst hp ⊢
  simp only [insC] at hst ⊢
  repeat' (first | (((with_reducible refine Sl.k_guard ?_; ((refine Sl.guard_yes rfl ?_)))) <;> (try refine nX ?_)) | (((with_reducible refine Sl.k_call ?_; ((refine s_call (rp _ _ hst) inX rfl ?_; clear hst; rintro v w ⟨rfl, hst⟩)))) <;> (try refine nX ?_) <;> (try replace hst := nH hst)) | ((fail_if_success (go_big_may)); (go_step)) | ((first | (with_reducible refine Sl.k_load ?_; (refine s_qt hst (by exact qt_load rfl _ BoxIn.h inX rfl rfl) ?_)) | (with_reducible refine Sl.k_field ?_; (refine s_qt hst (qt_field rfl inX) ?_)) | (with_reducible refine Sl.k_call ?_; (refine s_qt hst (by exact qt_len evX asX inX) ?_))) <;> (try refine nX ?_)) | (with_reducible refine Sl.gate rfl ?_; (go_step)))
  refine s_slice (a := 0) (b := s.stack.length) evX hvs inX inX (.inl ⟨rfl, rfl⟩) (.inr ⟨.i64, by simp [evF, nth]⟩) (.inl rfl) (by omega) (by omega) ?_
  intro vz hvz
  rw [List.drop_zero, Nat.sub_zero, List.take_length] at hvz
  obtain ⟨ay, ny, cy, rfl⟩ := rsl_form hvz
  (try refine nX ?_)
  have hzin := gd.stack
  have hw := wrapV_in a
  have hw0 := hw.1
  have rw1 := fun (M : List Chunk) (w : World) (hst : St S M w) => rwrap_c w hst a
  repeat' (first | (((with_reducible refine Sl.k_call ?_; ((refine s_call (rw1 _ _ hst) inX rfl ?_; clear hst; rintro v w ⟨rfl, hst⟩)))) <;> (try refine nX ?_) <;> (try replace hst := nH hst)) | ((fail_if_success (go_big_may)); (go_step)) | ((first | (with_reducible refine Sl.k_load ?_; (refine s_qt hst (by exact qt_load rfl _ BoxIn.h inX rfl rfl) ?_)) | (with_reducible refine Sl.k_field ?_; (refine s_qt hst (qt_field rfl inX) ?_)) | (with_reducible refine Sl.k_call ?_; (refine s_qt hst (by exact qt_len evX asX inX) ?_))) <;> (try refine nX ?_)) | (with_reducible refine Sl.gate rfl ?_; (go_step)) | (((((with_reducible refine Sl.k_store ?_; (refine s_store hst rfl _ BoxIn.h inX evX rfl lenOk oneOk (by simp) ?_); clear hst; intro w hst)))) <;> (try refine nX ?_) <;> (try replace hst := nH hst)))
  refine ret_cell rfl hst rfl 1 rfl inferInstance rfl rfl ?_
  exact ⟨_, rfl, S, nextV s, _, _, _, _, Snap.Le.refl _, rfl, rfl, rfl, rfl, rfl, hst.drop.drop.drop.drop⟩
set_option maxRecDepth 60000 in
set_option maxHeartbeats 8000000 in
theorem step_2full (w : World) (hst : St S M w) (hvi : RSl S vi c.1) (hvm : c.1.length ≤ 1048576) (hvv : RSl S vv s.vars) (hvs : RSl S vs s.stack) (hvp : RSl S vp s.pts) (hvn : RSl S vn s.notes) (h3 : s.steps < 3000) (hp0 : 0 ≤ s.pc) (hp1 : s.pc < c.1.length) (gd : GoodV c s) {a b : Int} {u : Unit}
    (hi : c.1[s.pc.toNat]'(by omega) = (2, a, b, u)) (ha0 : 0 ≤ a) (ha1 : a < s.vars.length) (hlen : ¬ s.stack.length < 400) :
    Rets Tryd.prog 19 [codeVal vi c, stVal s vv vs vp vn 0, vg] w fun v w' => ErrPost S M 2 v w' := by
  unfold Rets
  obtain ⟨ai, ni, ci, rfl⟩ := rsl_form hvi
  obtain ⟨av, nv, cv, rfl⟩ := rsl_form hvv
  obtain ⟨az, nz, cz, rfl⟩ := rsl_form hvs
  obtain ⟨ap, np, cp, rfl⟩ := rsl_form hvp
  obtain ⟨an, nn, cn, rfl⟩ := rsl_form hvn
  have hsl := gd.slen
  have rp : ∀ (M : List Chunk) (w : World), St S M w → Rets Tryd.prog 23 [.int .i64 2] w fun v w' => v = .int .i64 0 ∧ St S M w' := fun M w hst => rpops_ok w hst 2 (by decide)
  go_enter Tryd.func19, Tryd.ntmps19
  repeat' ((fail_if_success (with_reducible show Code.wp _ (Code.region 8 _ _) _ _ _)); first | (((with_reducible refine Sl.k_guard ?_; (first | (refine Sl.guard_yes rfl ?_) | (refine Sl.guard_cases rfl ?_ ?_ <;> intro hg <;> first | (exfalso; simp only [decide_eq_true_eq, decide_eq_false_iff_not, Bool.not_false, Bool.not_true, beq_iff_eq, beq_eq_false_iff_ne, ne_eq] at hg; omega) | (simp only [hg, Bool.not_true, Bool.not_false])) <;> (try simp only [decide_eq_true_eq, decide_eq_false_iff_not, Bool.not_false, Bool.not_true, beq_iff_eq, beq_eq_false_iff_ne, bne_iff_ne, bne_eq_false_iff_eq, ne_eq] at hg)))) <;> (try refine nX ?_)) | ((fail_if_success (go_big_may)); (go_step)) | ((first | (with_reducible refine Sl.k_load ?_; (refine s_qt hst (by first | exact qt_load rfl _ BoxIn.h inX rfl rfl | exact qt_ldp_flat evX asX inX inX rfl) ?_)) | (with_reducible refine Sl.k_field ?_; (refine s_qt hst (qt_field rfl inX) ?_)) | (with_reducible refine Sl.k_index ?_; (((refine s_ex hst (qt_index evX asX rfl inX inX omX omX) ?_); rintro v hp; (try simp only [Int.toNat_natCast, Int.toNat_natCast_add_one, Int.reduceToNat] at hp)))) | (with_reducible refine Sl.k_call ?_; (refine s_qt hst (by exact qt_len evX asX inX) ?_))) <;> (try refine nX ?_)) | (with_reducible refine Sl.gate rfl ?_; (go_step)) | ((((first | (with_reducible refine Sl.k_store ?_; (refine s_store hst rfl _ BoxIn.h inX evX rfl lenOk oneOk (by simp) ?_); clear hst; intro w hst) | (refine s_box hst evX rfl ?_; clear hst; intro bx w hst) | (refine s_alloc hst inX ?_; clear hst; intro bk w hst)))) <;> (try refine nX ?_) <;> (try replace hst := nH hst)))
  rw [hi] at hst hp ⊢
  simp only [insC] at hst ⊢
  obtain ⟨k, rfl⟩ : ∃ k : Nat, a = (k : Int) := ⟨a.toNat, by omega⟩
  repeat' (first | go_skip | (((with_reducible refine Sl.k_guard ?_; ((refine Sl.guard_yes rfl ?_)))) <;> (try refine nX ?_)) | (((with_reducible refine Sl.k_call ?_; ((refine s_call (rp _ _ hst) inX rfl ?_; clear hst; rintro v w ⟨rfl, hst⟩)))) <;> (try refine nX ?_) <;> (try replace hst := nH hst)) | ((fail_if_success (go_big_may)); (go_step)) | ((first | (with_reducible refine Sl.k_load ?_; (refine s_qt hst (by exact qt_load rfl _ BoxIn.h inX rfl rfl) ?_)) | (with_reducible refine Sl.k_field ?_; (refine s_qt hst (qt_field rfl inX) ?_)) | (with_reducible refine Sl.k_call ?_; (refine s_qt hst (by exact qt_len evX asX inX) ?_))) <;> (try refine nX ?_)) | (with_reducible refine Sl.gate rfl ?_; (go_step)))
  refine s_slice (a := 0) (b := s.stack.length) evX hvs inX inX (.inl ⟨rfl, rfl⟩) (.inr ⟨.i64, by simp [evF, nth]⟩) (.inl rfl) (by omega) (by omega) ?_
  intro vz hvz
  rw [List.drop_zero, Nat.sub_zero, List.take_length] at hvz
  obtain ⟨ay, ny, cy, rfl⟩ := rsl_form hvz
  (try refine nX ?_)
  have hzin := gd.stack
  have hw := gd.vars _ (List.getElem_mem (show k < s.vars.length by omega))
  have hw0 := hw.1
  repeat' (first | ((fail_if_success (go_big_may)); (go_step)) | ((first | (with_reducible refine Sl.k_load ?_; (first | refine s_qt hst (by exact qt_load rfl _ BoxIn.h inX rfl rfl) ?_ | (refine s_ex hst (qt_ldp_int evX asX inX) ?_; rintro v ⟨rfl, hI⟩))) | (with_reducible refine Sl.k_field ?_; (refine s_qt hst (qt_field rfl inX) ?_)) | (with_reducible refine Sl.k_index ?_; (((refine s_ex hst (qt_index evX asX rfl inX inX omX omX) ?_); rintro v hp; (try simp only [Int.toNat_natCast, Int.toNat_natCast_add_one, Int.reduceToNat] at hp)))) | (with_reducible refine Sl.k_call ?_; (refine s_qt hst (by exact qt_len evX asX inX) ?_))) <;> (try refine nX ?_)) | (with_reducible refine Sl.gate rfl ?_; (go_step)) | (((((with_reducible refine Sl.k_store ?_; (refine s_store hst rfl _ BoxIn.h inX evX rfl lenOk oneOk (by simp) ?_); clear hst; intro w hst)))) <;> (try refine nX ?_) <;> (try replace hst := nH hst)))
  refine ret_cell rfl hst rfl 1 rfl inferInstance rfl rfl ?_
  exact ⟨_, rfl, S, nextV s, _, _, _, _, Snap.Le.refl _, rfl, rfl, rfl, rfl, rfl, hst.drop.drop.drop.drop⟩
end
end Go.Proofs.YtmbdbfdlbbkclaaDoor

/- The reference machine: a step, branches. -/
--@hgp
--@flat
--@ex0
namespace Go.Proofs.YtmbdbfdlbbkclaaDoor
set_option linter.unusedSimpArgs false
set_option linter.unusedVariables false
open Go.RowKit Go.Sl
section
variable {S : Snap} {M : List Chunk} {vi vg : Value} {c : CodeD} {s : VS} {vv vs vp vn : Value}
theorem top_atn {s : VS} (h : 1 ≤ s.stack.length) : s.stack[((s.stack.length : Int) - 1).toNat]'(by omega) = topV s := by
  have e : ((s.stack.length : Int) - 1).toNat = s.stack.length - 1 := by omega
  simp only [e]
  exact (getD_at (by omega)).symm
theorem top2_atn {s : VS} (h : 2 ≤ s.stack.length) : s.stack[((s.stack.length : Int) - 2).toNat]'(by omega) = topV (popV s) := by
  have e : ((s.stack.length : Int) - 2).toNat = s.stack.length - 2 := by omega
  simp only [e]
  unfold topV popV
  simp only [List.length_take]
  have e2 : min (s.stack.length - 1) s.stack.length - 1 = s.stack.length - 2 := by omega
  rw [e2, List.getD_eq_getElem?_getD, List.getElem?_take_of_lt (by omega), List.getElem?_eq_getElem (by omega)]
  rfl
theorem rwith_dn {S M} (w : World) (hst : St S M w) (vs : Value) (xs : List Int) (hxs : RSl S vs xs) (hm : xs.length ≤ 1048576) (k : Nat) (hk : k < xs.length) (x : Int) (hx : I64 x) :
    Rets Tryd.prog 25 [vs, .int .i64 (k : Int), .int .i64 x] w fun v w' => ∃ S' a n c, S.Le S' ∧ v = .slice a n c ∧ RSl S' (.slice a n c) (setV xs k x) ∧ St S' M w' :=
  (rwith_c w hst vs xs hxs hm k hk x hx).mono fun v w' ⟨S', h1, h2, h3⟩ => by
    obtain ⟨a, n, c, rfl⟩ := rsl_form h2
    exact ⟨S', a, n, c, h1, rfl, h2, h3⟩
set_option maxRecDepth 60000 in
set_option maxHeartbeats 8000000 in
theorem step_12n (w : World) (hst : St S M w) (hvi : RSl S vi c.1) (hvm : c.1.length ≤ 1048576) (hvv : RSl S vv s.vars) (hvs : RSl S vs s.stack) (hvp : RSl S vp s.pts) (hvn : RSl S vn s.notes) (h3 : s.steps < 3000) (hp0 : 0 ≤ s.pc) (hp1 : s.pc < c.1.length) (gd : GoodV c s) {a b : Int} {u : Unit}
    (hi : c.1[s.pc.toNat]'(by omega) = (12, a, b, u)) {gl : List Int} (hgl : RSl S vg gl) (hgm : gl.length ≤ 1048576) (hn : 1 ≤ s.stack.length) (hb0 : 0 ≤ b) (hb2 : b < s.pts.length) (hb1 : b < c.2.2.1) (hpn : s.pts.length ≤ 8) (h0 : topV s = 0) (hz : gl.contains (s.br : Int) = true) :
    Rets Tryd.prog 19 [codeVal vi c, stVal s vv vs vp vn 0, vg] w fun v w' => OkPost S M { nextV s with stack := s.stack.take (s.stack.length - 1), br := s.br + 1, pts := setV s.pts b (orV (s.pts[b.toNat]'(by omega)) 1) } v w' := by
  unfold Rets
  obtain ⟨ai, ni, ci, rfl⟩ := rsl_form hvi
  obtain ⟨av, nv, cv, rfl⟩ := rsl_form hvv
  obtain ⟨az, nz, cz, rfl⟩ := rsl_form hvs
  obtain ⟨ap, np, cp, rfl⟩ := rsl_form hvp
  obtain ⟨an, nn, cn, rfl⟩ := rsl_form hvn
  have hsl := gd.slen
  have rp : ∀ (M : List Chunk) (w : World), St S M w → Rets Tryd.prog 23 [.int .i64 12] w fun v w' => v = .int .i64 1 ∧ St S M w' := fun M w hst => rpops_ok w hst 12 (by decide)
  go_enter Tryd.func19, Tryd.ntmps19
  repeat' ((fail_if_success (with_reducible show Code.wp _ (Code.region 8 _ _) _ _ _)); first | (((with_reducible refine Sl.k_guard ?_; (first | (refine Sl.guard_yes rfl ?_) | (refine Sl.guard_cases rfl ?_ ?_ <;> intro hg <;> first | (exfalso; simp only [decide_eq_true_eq, decide_eq_false_iff_not, Bool.not_false, Bool.not_true, beq_iff_eq, beq_eq_false_iff_ne, ne_eq] at hg; omega) | (simp only [hg, Bool.not_true, Bool.not_false])) <;> (try simp only [decide_eq_true_eq, decide_eq_false_iff_not, Bool.not_false, Bool.not_true, beq_iff_eq, beq_eq_false_iff_ne, bne_iff_ne, bne_eq_false_iff_eq, ne_eq] at hg)))) <;> (try refine nX ?_)) | ((fail_if_success (go_big_may)); (go_step)) | ((first | (with_reducible refine Sl.k_load ?_; (refine s_qt hst (by first | exact qt_load rfl _ BoxIn.h inX rfl rfl | exact qt_ldp_flat evX asX inX inX rfl) ?_)) | (with_reducible refine Sl.k_field ?_; (refine s_qt hst (qt_field rfl inX) ?_)) | (with_reducible refine Sl.k_index ?_; (((refine s_ex hst (qt_index evX asX rfl inX inX omX omX) ?_); rintro v hp; (try simp only [Int.toNat_natCast, Int.toNat_natCast_add_one, Int.reduceToNat] at hp)))) | (with_reducible refine Sl.k_call ?_; (refine s_qt hst (by exact qt_len evX asX inX) ?_))) <;> (try refine nX ?_)) | (with_reducible refine Sl.gate rfl ?_; (go_step)) | ((((first | (with_reducible refine Sl.k_store ?_; (refine s_store hst rfl _ BoxIn.h inX evX rfl lenOk oneOk (by simp) ?_); clear hst; intro w hst) | (refine s_box hst evX rfl ?_; clear hst; intro bx w hst) | (refine s_alloc hst inX ?_; clear hst; intro bk w hst)))) <;> (try refine nX ?_) <;> (try replace hst := nH hst)))
  rw [hi] at hst hp ⊢
  simp only [insC] at hst ⊢
  obtain ⟨k, rfl⟩ : ∃ k : Nat, b = (k : Int) := ⟨b.toNat, by omega⟩
  (try simp only [Int.toNat_natCast])
  repeat' (first | (((with_reducible refine Sl.k_guard ?_; (first | (refine Sl.guard_yes rfl ?_) | (refine Sl.guard_cases rfl ?_ ?_ <;> intro hg <;> first | (exfalso; simp only [decide_eq_true_eq, decide_eq_false_iff_not, Bool.not_false, Bool.not_true, beq_iff_eq, beq_eq_false_iff_ne, ne_eq] at hg; omega) | (simp only [hg, Bool.not_true, Bool.not_false])) <;> (try simp only [decide_eq_true_eq, decide_eq_false_iff_not, Bool.not_false, Bool.not_true, beq_iff_eq, beq_eq_false_iff_ne, bne_iff_ne, bne_eq_false_iff_eq, ne_eq] at hg)))) <;> (try refine nX ?_)) | (((with_reducible refine Sl.k_call ?_; ((refine s_call (rp _ _ hst) inX rfl ?_; clear hst; rintro v w ⟨rfl, hst⟩)))) <;> (try refine nX ?_) <;> (try replace hst := nH hst)) | ((fail_if_success (go_big_may)); (go_step)) | ((first | (with_reducible refine Sl.k_load ?_; (first | refine s_qt hst (by exact qt_load rfl _ BoxIn.h inX rfl rfl) ?_ | (refine s_ex hst (qt_ldp_int evX asX inX) ?_; rintro v ⟨rfl, hI⟩))) | (with_reducible refine Sl.k_field ?_; (refine s_qt hst (qt_field rfl inX) ?_)) | (with_reducible refine Sl.k_index ?_; (((refine s_ex hst (qt_index evX asX rfl inX inX omX omX) ?_); rintro v hp; (try simp only [Int.toNat_natCast, Int.toNat_natCast_add_one, Int.reduceToNat] at hp)))) | (with_reducible refine Sl.k_call ?_; (refine s_qt hst (by exact qt_len evX asX inX) ?_))) <;> (try refine nX ?_)) | (with_reducible refine Sl.gate rfl ?_; (go_step)))
  obtain ⟨zs, hzs⟩ : ∃ zs, s.stack.take (s.stack.length - 1) = zs := ⟨_, rfl⟩
  have hzl : zs.length = s.stack.length - 1 := by rw [← hzs, List.length_take]; omega
  have hzin : ∀ y ∈ zs, inR y := hzs ▸ take_all gd.stack
  refine s_slice (a := 0) (b := s.stack.length - 1) evX hvs inX inX (.inl ⟨rfl, rfl⟩) (.inr ⟨.i64, by simp [evF, nth]; omega⟩) (.inl rfl) (by omega) (by omega) ?_
  intro vz hvz
  rw [List.drop_zero, Nat.sub_zero, hzs] at hvz
  obtain ⟨ay, ny, cy, rfl⟩ := rsl_form hvz
  (try refine nX ?_)
  have hw := top_in gd
  simp only [top_atn hn]
  have hpin := gd.pts _ (List.getElem_mem (show k < s.pts.length by omega))
  have ri := fun (M : List Chunk) (w : World) (hst : St S M w) => (rin_c w hst vg gl hgl hgm (s.br : Int)).eq hz
  have hbr := gd.br
  have rb := fun (M : List Chunk) (w : World) (hst : St S M w) => rwith_dn w hst _ s.pts hvp (by omega) k (by omega) (orV (s.pts[k]'(by omega)) 1) (pt_i64 (orV_in hpin ⟨by decide, by decide⟩))
  repeat' ((fail_if_success (with_reducible show Code.wp _ (Code.region 54 _ _) _ _ _)); first | (((with_reducible refine Sl.k_call ?_; ((refine s_call (ri _ _ hst) inX rfl ?_; clear hst; rintro v w ⟨rfl, hst⟩)))) <;> (try refine nX ?_) <;> (try replace hst := nH hst)) | ((fail_if_success (go_big_may)); (go_step)) | ((first | (with_reducible refine Sl.k_load ?_; (refine s_qt hst (by exact qt_load rfl _ BoxIn.h inX rfl rfl) ?_)) | (with_reducible refine Sl.k_field ?_; (refine s_qt hst (qt_field rfl inX) ?_))) <;> (try refine nX ?_)) | (with_reducible refine Sl.gate rfl ?_; (go_step)) | (((((with_reducible refine Sl.k_store ?_; (refine s_store hst rfl _ BoxIn.h inX evX rfl lenOk oneOk (by simp) ?_); clear hst; intro w hst)))) <;> (try refine nX ?_) <;> (try replace hst := nH hst)))
  all_goals (try (exfalso; simp_all; done))
  refine v_begin hst (by kernel_rfl) ?_; clear hst; intro ops; (try refine nX ?_)
  (refine t_qt 0 rfl (by kernel_rfl) rfl rfl (by exact qt_field rfl inX) ?_) <;> (try refine nX ?_)
  (refine t_qt 1 rfl (by kernel_rfl) rfl rfl (by exact qt_field rfl inX) ?_) <;> (try refine nX ?_)
  (refine t_qt 2 rfl (by kernel_rfl) rfl rfl (by exact qt_load rfl _ BoxIn.h inX rfl rfl) ?_) <;> (try refine nX ?_)
  (refine t_qt 3 rfl (by kernel_rfl) rfl rfl (by exact qt_field rfl inX) ?_) <;> (try refine nX ?_)
  (refine t_qt 4 rfl (by kernel_rfl) rfl rfl (by exact qt_load rfl _ BoxIn.h inX rfl rfl) ?_) <;> (try refine nX ?_)
  (refine t_qt 5 rfl (by kernel_rfl) rfl rfl (by exact qt_field rfl inX) ?_) <;> (try refine nX ?_)
  (refine t_qt 6 rfl (by kernel_rfl) rfl rfl (by exact qt_field rfl inX) ?_) <;> (try refine nX ?_)
  (refine t_qt 7 rfl (by kernel_rfl) rfl rfl (by exact qt_load rfl _ BoxIn.h inX rfl rfl) ?_) <;> (try refine nX ?_)
  (refine t_qt 8 rfl (by kernel_rfl) rfl rfl (by exact qt_field rfl inX) ?_) <;> (try refine nX ?_)
  (refine t_qt 9 rfl (by kernel_rfl) rfl rfl (by exact qt_load rfl _ BoxIn.h inX rfl rfl) ?_) <;> (try refine nX ?_)
  ((refine t_ex0 10 rfl (by kernel_rfl) rfl rfl (qt_index evX hvp rfl inX inX omX omX ) ?_; rintro  v10 hp10; simp only [Int.toNat_natCast] at hp10)) <;> (try refine nX ?_)
  ((refine t_ex0 11 rfl (by kernel_rfl) rfl rfl (qt_ldp_int evX hp10 inX ) ?_; rintro  v11 ⟨rfl, h11⟩)) <;> (try refine nX ?_)
  (refine t_qt 12 rfl (by kernel_rfl) rfl rfl (by exact qt_move evX) ?_) <;> (try refine nX ?_)
  (refine t_qt 13 rfl (by kernel_rfl) rfl rfl (qt_orI rfl rfl hpin ⟨by decide, by decide⟩) ?_) <;> (try refine nX ?_)
  refine v_one 14 rfl (by kernel_rfl) ?_; intro w hst K hK; refine s_call (rb _ _ hst) inX rfl ?_; clear hst; rintro v w ⟨S2, a2, n2, c2, hS2, rfl, hsv, hst⟩; (try refine nX ?_); (try replace hst := nH hst); refine v_next hK hst hS2 (Suf.refl _) ?_; clear hst hK K; (try clear w); (try refine nX ?_)
  (refine t_qt 15 rfl (by kernel_rfl) rfl rfl (by exact qt_field rfl inX) ?_) <;> (try refine nX ?_)
  (refine t_qt 16 rfl (by kernel_rfl) rfl rfl (by exact qt_field rfl inX) ?_) <;> (try refine nX ?_)
  refine v_one 17 rfl (by kernel_rfl) ?_; intro w hst K hK; (refine s_store hst rfl _ BoxIn.h inX evX rfl lenOk oneOk (by simp <;> omega) ?_); clear hst; intro w hst; (try refine nX ?_); (try replace hst := nH hst); refine v_last hK hst ?_; clear hst hK K; (try clear w); (try refine nX ?_)
  refine v_done (by kernel_rfl) ?_; clear ops; intro w hst
  all_goals trace_state
  repeat' (first | ((fail_if_success (go_big_may)); (go_step)) | (((with_reducible refine Sl.k_load ?_; (refine s_qt hst (by exact qt_load rfl _ BoxIn.h inX rfl rfl) ?_))) <;> (try refine nX ?_)) | (with_reducible refine Sl.gate rfl ?_; (go_step)) | (((((with_reducible refine Sl.k_store ?_; (refine s_store hst rfl _ BoxIn.h inX evX rfl lenOk oneOk (by simp) ?_); clear hst; intro w hst)))) <;> (try refine nX ?_) <;> (try replace hst := nH hst)))
  refine ret_cell rfl hst rfl 1 rfl inferInstance rfl rfl ?_
  exact ⟨_, rfl, S2, _, _, _, _, hS2, rfl, hvv.mono hS2, hzs ▸ hvz.mono hS2, hsv, hvn.mono hS2, hst.drop.drop.drop.drop⟩
end
end Go.Proofs.YtmbdbfdlbbkclaaDoor

/- The reference machine: a step answers as stepV. -/
namespace Go.Proofs.YtmbdbfdlbbkclaaDoor
set_option linter.unusedSimpArgs false
set_option linter.unusedVariables false
open Go.RowKit Go.Sl
section
variable {S : Snap} {M : List Chunk} {vi vg : Value} {c : CodeD} {s : VS} {vv vs vp vn : Value}
theorem push2 {s : VS} (h : 2 ≤ s.stack.length) (hs : s.stack.length ≤ 400) (v : Int) : pushV (popV (popV s)) v = .ok { s with stack := s.stack.take (s.stack.length - 2) ++ [v] } := by
  unfold pushV
  rw [if_pos (by simp; omega)]
  simp only [popV, List.length_take, List.take_take]
  have e : min (min (s.stack.length - 1) s.stack.length - 1) (s.stack.length - 1) = s.stack.length - 2 := by omega
  rw [e]
theorem push1 {s : VS} (h : 1 ≤ s.stack.length) (hs : s.stack.length ≤ 400) (v : Int) : pushV (popV s) v = .ok { s with stack := s.stack.take (s.stack.length - 1) ++ [v] } := by
  unfold pushV
  rw [if_pos (by simp; omega)]
theorem step_r (w : World) (hst : St S M w) (hvi : RSl S vi c.1) (hvm : c.1.length ≤ 1048576) (hvv : RSl S vv s.vars) (hvs : RSl S vs s.stack) (hvp : RSl S vp s.pts) (hvn : RSl S vn s.notes) (gd : GoodV c s) {gl : List Int} (hgl : RSl S vg gl) (hgm : gl.length ≤ 1048576) (h4 : c.2.1 ≤ 400) (h8 : c.2.2.1 ≤ 8) :
    Rets Tryd.prog 19 [codeVal vi c, stVal s vv vs vp vn 0, vg] w fun v w' => RefPost S M (stepV c gl s) v w' := by
  unfold stepV
  by_cases h3 : s.steps < 3000
  · rw [if_pos h3]
    by_cases hpc : 0 ≤ s.pc ∧ s.pc < c.1.length
    · rw [if_pos hpc]
      obtain ⟨hp0, hp1⟩ := hpc
      have hlt : s.pc.toNat < c.1.length := by omega
      have hi0 : insV c s.pc = c.1[s.pc.toNat] := by unfold insV; rw [List.getD_eq_getElem?_getD, List.getElem?_eq_getElem hlt]; rfl
      rw [hi0]
      obtain ⟨⟨op, a, b, u⟩, hi⟩ : ∃ i, c.1[s.pc.toNat]'hlt = i := ⟨_, rfl⟩
      rw [hi]
      by_cases hop : 1 ≤ op ∧ op < 18
      · rw [if_pos hop]
        have hvl := gd.vlen
        have hpl := gd.plen
        have hsl := gd.slen
        have hc : op = 1 ∨ op = 2 ∨ op = 3 ∨ op = 4 ∨ op = 5 ∨ op = 6 ∨ op = 7 ∨ op = 8 ∨ op = 9 ∨ op = 10 ∨ op = 11 ∨ op = 12 ∨ op = 13 ∨ op = 14 ∨ op = 15 ∨ op = 16 ∨ op = 17 := by omega
        rcases hc with rfl | rfl | rfl | rfl | rfl | rfl | rfl | rfl | rfl | rfl | rfl | rfl | rfl | rfl | rfl | rfl | rfl
        · rw [execV_1 rfl]
          unfold pushV
          by_cases hl : s.stack.length < 400
          · rw [if_pos hl]
            exact step_1 w hst hvi hvm hvv hvs hvp hvn h3 hp0 hp1 gd hi hl
          · rw [if_neg hl]
            exact step_1full w hst hvi hvm hvv hvs hvp hvn h3 hp0 hp1 gd hi hl
        · rw [execV_2 rfl]
          by_cases hv : inV (nextV s) a = true
          · rw [if_pos hv]
            obtain ⟨ha0, ha1⟩ := of_decide_eq_true hv
            have ha1 : a < s.vars.length := ha1
            have e := getD_at (l := s.vars) (i := a.toNat) (by omega)
            show Rets _ _ _ _ fun v w' => RefPost S M (pushV (nextV s) (s.vars.getD a.toNat 0)) v w'
            rw [e]
            unfold pushV
            by_cases hl : s.stack.length < 400
            · rw [if_pos hl]
              exact step_2 w hst hvi hvm hvv hvs hvp hvn h3 hp0 hp1 gd hi ha0 ha1 hl
            · rw [if_neg hl]
              exact step_2full w hst hvi hvm hvv hvs hvp hvn h3 hp0 hp1 gd hi ha0 ha1 hl
          · rw [if_neg hv]
            exact step_var2 w hst hvi hvm hvv hvs hvp hvn h3 gd hp0 hp1 hi (Nat.zero_le _) (fun h => hv (decide_eq_true h))
        · rw [execV_3 rfl]
          by_cases hn : s.stack.length = 0
          · rw [if_pos hn]
            exact step_bad w hst hvi hvm hvv hvs hvp hvn h3 gd hp0 hp1 hi hop (by have e : popsV 3 = 1 := rfl; rw [e]; omega)
          · rw [if_neg hn]
            by_cases hv : inV (nextV s) a = true
            · rw [if_pos hv]
              obtain ⟨ha0, ha1⟩ := of_decide_eq_true hv
              have ha1 : a < s.vars.length := ha1
              exact step_3 w hst hvi hvm hvv hvs hvp hvn h3 hp0 hp1 gd hi ha0 ha1 (by omega) (by omega)
            · rw [if_neg hv]
              exact step_var3 w hst hvi hvm hvv hvs hvp hvn h3 gd hp0 hp1 hi (by omega) (fun h => hv (decide_eq_true h))
        · rw [execV_4 (by show (4 : Int) ≠ 1; decide) (by show (4 : Int) ≠ 2; decide) (by show (4 : Int) ≠ 3; decide) (by show (4 : Int) ≤ 10; decide)]
          by_cases hn : s.stack.length < 2
          · rw [if_pos hn]
            exact step_bad w hst hvi hvm hvv hvs hvp hvn h3 gd hp0 hp1 hi hop (by have e : popsV 4 = 2 := rfl; rw [e]; omega)
          · rw [if_neg hn, push2 (s := nextV s) (by show 2 ≤ s.stack.length; omega) hsl]
            exact step_4 w hst hvi hvm hvv hvs hvp hvn h3 hp0 hp1 gd hi (by omega)
        · rw [execV_4 (by show (5 : Int) ≠ 1; decide) (by show (5 : Int) ≠ 2; decide) (by show (5 : Int) ≠ 3; decide) (by show (5 : Int) ≤ 10; decide)]
          by_cases hn : s.stack.length < 2
          · rw [if_pos hn]
            exact step_bad w hst hvi hvm hvv hvs hvp hvn h3 gd hp0 hp1 hi hop (by have e : popsV 5 = 2 := rfl; rw [e]; omega)
          · rw [if_neg hn, push2 (s := nextV s) (by show 2 ≤ s.stack.length; omega) hsl]
            exact step_5 w hst hvi hvm hvv hvs hvp hvn h3 hp0 hp1 gd hi (by omega)
        · rw [execV_4 (by show (6 : Int) ≠ 1; decide) (by show (6 : Int) ≠ 2; decide) (by show (6 : Int) ≠ 3; decide) (by show (6 : Int) ≤ 10; decide)]
          by_cases hn : s.stack.length < 2
          · rw [if_pos hn]
            exact step_bad w hst hvi hvm hvv hvs hvp hvn h3 gd hp0 hp1 hi hop (by have e : popsV 6 = 2 := rfl; rw [e]; omega)
          · rw [if_neg hn, push2 (s := nextV s) (by show 2 ≤ s.stack.length; omega) hsl]
            exact step_6 w hst hvi hvm hvv hvs hvp hvn h3 hp0 hp1 gd hi (by omega)
        · rw [execV_4 (by show (7 : Int) ≠ 1; decide) (by show (7 : Int) ≠ 2; decide) (by show (7 : Int) ≠ 3; decide) (by show (7 : Int) ≤ 10; decide)]
          by_cases hn : s.stack.length < 2
          · rw [if_pos hn]
            exact step_bad w hst hvi hvm hvv hvs hvp hvn h3 gd hp0 hp1 hi hop (by have e : popsV 7 = 2 := rfl; rw [e]; omega)
          · rw [if_neg hn, push2 (s := nextV s) (by show 2 ≤ s.stack.length; omega) hsl]
            exact step_7 w hst hvi hvm hvv hvs hvp hvn h3 hp0 hp1 gd hi (by omega)
        · rw [execV_4 (by show (8 : Int) ≠ 1; decide) (by show (8 : Int) ≠ 2; decide) (by show (8 : Int) ≠ 3; decide) (by show (8 : Int) ≤ 10; decide)]
          by_cases hn : s.stack.length < 2
          · rw [if_pos hn]
            exact step_bad w hst hvi hvm hvv hvs hvp hvn h3 gd hp0 hp1 hi hop (by have e : popsV 8 = 2 := rfl; rw [e]; omega)
          · rw [if_neg hn, push2 (s := nextV s) (by show 2 ≤ s.stack.length; omega) hsl]
            exact step_8 w hst hvi hvm hvv hvs hvp hvn h3 hp0 hp1 gd hi (by omega)
        · rw [execV_4 (by show (9 : Int) ≠ 1; decide) (by show (9 : Int) ≠ 2; decide) (by show (9 : Int) ≠ 3; decide) (by show (9 : Int) ≤ 10; decide)]
          by_cases hn : s.stack.length < 2
          · rw [if_pos hn]
            exact step_bad w hst hvi hvm hvv hvs hvp hvn h3 gd hp0 hp1 hi hop (by have e : popsV 9 = 2 := rfl; rw [e]; omega)
          · rw [if_neg hn, push2 (s := nextV s) (by show 2 ≤ s.stack.length; omega) hsl]
            exact step_9 w hst hvi hvm hvv hvs hvp hvn h3 hp0 hp1 gd hi (by omega)
        · rw [execV_4 (by show (10 : Int) ≠ 1; decide) (by show (10 : Int) ≠ 2; decide) (by show (10 : Int) ≠ 3; decide) (by show (10 : Int) ≤ 10; decide)]
          by_cases hn : s.stack.length < 2
          · rw [if_pos hn]
            exact step_bad w hst hvi hvm hvv hvs hvp hvn h3 gd hp0 hp1 hi hop (by have e : popsV 10 = 2 := rfl; rw [e]; omega)
          · rw [if_neg hn, push2 (s := nextV s) (by show 2 ≤ s.stack.length; omega) hsl]
            exact step_10 w hst hvi hvm hvv hvs hvp hvn h3 hp0 hp1 gd hi (by omega)
        · rw [execV_11 rfl]
          by_cases hn : s.stack.length = 0
          · rw [if_pos hn]
            exact step_bad w hst hvi hvm hvv hvs hvp hvn h3 gd hp0 hp1 hi hop (by have e : popsV 11 = 1 := rfl; rw [e]; omega)
          · rw [if_neg hn, push1 (s := nextV s) (by show 1 ≤ s.stack.length; omega) hsl, ← eqd]
            exact step_11 w hst hvi hvm hvv hvs hvp hvn h3 hp0 hp1 gd hi (by omega)
        · rw [execV_12 rfl]
          unfold branchV
          by_cases hn : s.stack.length = 0
          · rw [if_pos hn]
            exact step_bad w hst hvi hvm hvv hvs hvp hvn h3 gd hp0 hp1 hi hop (by have e : popsV 12 = 1 := rfl; rw [e]; omega)
          · rw [if_neg hn]
            by_cases hb : 0 ≤ b ∧ b < c.2.2.1
            · rw [if_pos hb]
              obtain ⟨hb0, hb1⟩ := hb
              have hk : b.toNat < s.pts.length := by omega
              have e := getD_at hk
              show Rets _ _ _ _ fun v w' => RefPost S M (if (decide (topV s ≠ 0) ^^ gl.contains (s.br : Int)) = true then .ok { nextV s with stack := s.stack.take (s.stack.length - 1), br := s.br + 1, pts := setV s.pts b (orV (s.pts.getD b.toNat 0) 1) } else .ok { nextV s with stack := s.stack.take (s.stack.length - 1), br := s.br + 1, pts := setV s.pts b (orV (s.pts.getD b.toNat 0) 2), pc := a }) v w'
              rw [e]
              by_cases h0 : topV s = 0
              · have ed : decide (topV s ≠ 0) = false := decide_eq_false (fun k => k h0)
                rw [ed]
                cases hz : gl.contains (s.br : Int)
                · rw [if_neg (by decide)]
                  exact step_12m w hst hvi hvm hvv hvs hvp hvn h3 hp0 hp1 gd hi hgl hgm (by omega) hb0 (by omega) hb1 (by omega) h0 hz
                · rw [if_pos (by decide)]
                  exact step_12n w hst hvi hvm hvv hvs hvp hvn h3 hp0 hp1 gd hi hgl hgm (by omega) hb0 (by omega) hb1 (by omega) h0 hz
              · have ed : decide (topV s ≠ 0) = true := decide_eq_true h0
                rw [ed]
                cases hz : gl.contains (s.br : Int)
                · rw [if_pos (by decide)]
                  exact step_12k w hst hvi hvm hvv hvs hvp hvn h3 hp0 hp1 gd hi hgl hgm (by omega) hb0 (by omega) hb1 (by omega) h0 hz
                · rw [if_neg (by decide)]
                  exact step_12l w hst hvi hvm hvv hvs hvp hvn h3 hp0 hp1 gd hi hgl hgm (by omega) hb0 (by omega) hb1 (by omega) h0 hz
            · rw [if_neg hb]
              exact step_12bad w hst hvi hvm hvv hvs hvp hvn h3 gd hp0 hp1 hi (by omega) hb
        · rw [execV_13 rfl]
          exact step_13 w hst hvi hvm hvv hvs hvp hvn h3 hp0 hp1 gd hi
        · rw [execV_14 rfl]
          by_cases hn : s.stack.length = 0
          · rw [if_pos hn]
            exact step_bad w hst hvi hvm hvv hvs hvp hvn h3 gd hp0 hp1 hi hop (by have e : popsV 14 = 1 := rfl; rw [e]; omega)
          · rw [if_neg hn]
            exact step_14 w hst hvi hvm hvv hvs hvp hvn h3 hp0 hp1 gd hi (by omega) (by have := gd.nlen; have := gd.steps; omega)
        · rw [execV_15 rfl]
          exact step_15 w hst hvi hvm hvv hvs hvp hvn h3 hp0 hp1 gd hi
        · rw [execV_16 rfl]
          exact step_16 w hst hvi hvm hvv hvs hvp hvn h3 hp0 hp1 gd hi
        · rw [execV_17 (by show (16 : Int) < 17; decide)]
          by_cases hv : inV (nextV s) a = true
          · rw [if_pos hv]
            obtain ⟨ha0, ha1⟩ := of_decide_eq_true hv
            have ha1 : a < s.vars.length := ha1
            have hk : a.toNat < s.vars.length := by omega
            have e := getD_at hk
            show Rets _ _ _ _ fun v w' => OkPost S M { nextV s with vars := setV s.vars a (loopV (s.vars.getD a.toNat 0)), pc := if 0 < loopV (s.vars.getD a.toNat 0) then b else s.pc + 1 } v w'
            rw [e]
            have hin := gd.vars _ (List.getElem_mem hk)
            unfold inR at hin
            by_cases h1 : 1 < s.vars[a.toNat]
            · have el : loopV s.vars[a.toNat] = s.vars[a.toNat] - 1 := by unfold loopV; omega
              rw [el, if_pos (by omega)]
              exact step_17a w hst hvi hvm hvv hvs hvp hvn h3 hp0 hp1 gd hi ha0 ha1 (by omega) h1
            · have el : loopV s.vars[a.toNat] = 0 := by unfold loopV; omega
              rw [el, if_neg (by omega)]
              by_cases h0 : s.vars[a.toNat] = 0
              · exact step_17c w hst hvi hvm hvv hvs hvp hvn h3 hp0 hp1 gd hi ha0 ha1 (by omega) h0
              · exact step_17b w hst hvi hvm hvv hvs hvp hvn h3 hp0 hp1 gd hi ha0 ha1 (by omega) (by omega)
          · rw [if_neg hv]
            exact step_var17 w hst hvi hvm hvv hvs hvp hvn h3 gd hp0 hp1 hi (Nat.zero_le _) (fun h => hv (decide_eq_true h))
      · rw [if_neg hop]
        exact step_21op w hst hvi hvm hvv hvs hvp hvn h3 gd hp0 hp1 hi hop
    · rw [if_neg hpc]
      by_cases hp0 : s.pc < 0
      · exact step_21lo w hst hvi hvm hvv hvs hvp hvn h3 gd hp0
      · exact step_21hi w hst hvi hvm hvv hvs hvp hvn h3 gd (by omega) (by omega)
  · rw [if_neg h3]
    exact step_20 w hst hvi hvv hvs hvp hvn h3
end
end Go.Proofs.YtmbdbfdlbbkclaaDoor
