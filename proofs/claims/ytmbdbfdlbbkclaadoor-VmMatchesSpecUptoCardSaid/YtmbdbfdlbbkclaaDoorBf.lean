/- The reference machine: its small functions; Run. -/
import Derived.Test.YtmbdbfdlbbkclaaDoorBb
import Derived.Test.YtmbdbfdlbbkclaaDoorBe

/- The reference machine: its small functions. -/
--@hgp
--@ex0
namespace Go.Proofs.YtmbdbfdlbbkclaaDoor
set_option linter.unusedSimpArgs false
set_option linter.unusedVariables false
open Go.RowKit Go.Sl

theorem rwrap_c {S M} (w : World) (hst : St S M w) (n : Int) : Rets Tryd.prog 24 [.int .i64 n] w fun v w' => v = .int .i64 (wrapV n) ∧ St S M w' := by
  unfold Rets
  have h : n.tmod 65536 = n % 65536 ∨ (n % 65536 ≠ 0 ∧ n.tmod 65536 = n % 65536 - 65536) := by
    rcases Int.le_total 0 n with h | h
    · exact .inl (Int.tmod_eq_emod_of_nonneg h)
    · have e : n.tmod 65536 = -((-n).tmod 65536) := by rw [Int.neg_tmod, Int.neg_neg]
      rw [e, Int.tmod_eq_emod_of_nonneg (by omega)]
      omega
  by_cases hn : n.tmod 65536 < 0
  · go_enter Tryd.func24, Tryd.ntmps24
    repeat' (first | ((fail_if_success (go_big_may)); (go_step)) | (with_reducible refine Sl.gate rfl ?_; (go_step)))
    go_ret
    refine ⟨_, rfl, ?_, hst⟩
    show Value.int .i64 _ = Value.int .i64 _
    congr 1
    unfold wrapV
    try unfold wrap64
    omega
  · go_enter Tryd.func24, Tryd.ntmps24
    repeat' (first | ((fail_if_success (go_big_may)); (go_step)) | (with_reducible refine Sl.gate rfl ?_; (go_step)))
    go_ret
    refine ⟨_, rfl, ?_, hst⟩
    show Value.int .i64 _ = Value.int .i64 _
    congr 1
    unfold wrapV
    omega
theorem rtruth_c {S M} (w : World) (hst : St S M w) (b : Bool) : Rets Tryd.prog 27 [.bool b] w fun v w' => v = .int .i64 (truthV b) ∧ St S M w' := by
  unfold Rets
  cases b
  all_goals
    go_enter Tryd.func27, Tryd.ntmps27
    repeat' (((fail_if_success (go_big_may)); (go_step)))
    go_ret
    exact ⟨_, rfl, rfl, hst⟩
set_option maxRecDepth 4000 in
theorem rin_c {S M} (w : World) (hst : St S M w) (vs : Value) (xs : List Int) (hxs : RSl S vs xs) (hm : xs.length ≤ 1048576) (x : Int) :
    Rets Tryd.prog 28 [vs, .int .i64 x] w fun v w' => v = .bool (xs.contains x) ∧ St S M w' := by
  unfold Rets
  have k1 := hxs.oneCell
  go_enter Tryd.func28, Tryd.ntmps28
  repeat' (((fail_if_success (go_big_may)); (go_step)))
  go_loopw [5] (fun v wr => ∃ k : Nat, k ≤ xs.length ∧ v = .int .i64 k ∧ (∀ j (h : j < xs.length), j < k → xs[j] ≠ x) ∧ St S M wr) (fun v _ => xs.length - (intOf v).toNat)
  case atStart => exact ⟨0, Nat.zero_le _, rfl, fun j _ h => absurd h (Nat.not_lt_zero _), hst⟩
  case round =>
    clear hst
    obtain ⟨k, hk, rfl, hno, hst⟩ := hrel
    have hno := Lib.hid hno
    by_cases hlt : k < xs.length
    · by_cases hx : xs[k] = x
      · repeat' (first | ((fail_if_success (go_big_may)); (go_step)) | ((first | (with_reducible refine Sl.k_load ?_; ((refine s_ex hst (qt_ldp_int evX asX inX) ?_; rintro v ⟨rfl, hI⟩))) | (with_reducible refine Sl.k_index ?_; (((refine s_ex hst (qt_index evX asX rfl inX inX omX omX) ?_); rintro v hp; (try simp only [Int.toNat_natCast, Int.toNat_natCast_add_one, Int.reduceToNat] at hp)))) | (with_reducible refine Sl.k_call ?_; (refine s_qt hst (by exact qt_len evX asX inX) ?_))) <;> (try refine nX ?_)) | (with_reducible refine Sl.gate rfl ?_; (go_step)))
        go_ret
        exact ⟨_, rfl, by rw [List.contains_iff_mem.2 (hx ▸ List.getElem_mem hlt)]; rfl, hst⟩
      · repeat' (first | ((fail_if_success (go_big_may)); (go_step)) | ((first | (with_reducible refine Sl.k_load ?_; ((refine s_ex hst (qt_ldp_int evX asX inX) ?_; rintro v ⟨rfl, hI⟩))) | (with_reducible refine Sl.k_index ?_; (((refine s_ex hst (qt_index evX asX rfl inX inX omX omX) ?_); rintro v hp; (try simp only [Int.toNat_natCast, Int.toNat_natCast_add_one, Int.reduceToNat] at hp)))) | (with_reducible refine Sl.k_call ?_; (refine s_qt hst (by exact qt_len evX asX inX) ?_))) <;> (try refine nX ?_)) | (with_reducible refine Sl.gate rfl ?_; (go_step)))
        go_roundw
        case rel =>
          refine ⟨k + 1, by omega, by go_num, fun j h1 h2 => ?_, hst⟩
          rcases Nat.lt_succ_iff_lt_or_eq.1 h2 with h | rfl
          · exact hno.out j h1 h
          · exact hx
        case measure => simp [intOf]; omega
    · repeat' (first | ((fail_if_success (go_big_may)); (go_step)) | (((with_reducible refine Sl.k_call ?_; (refine s_qt hst (by exact qt_len evX asX inX) ?_))) <;> (try refine nX ?_)) | (with_reducible refine Sl.gate rfl ?_; (go_step)))
      go_ret
      refine ⟨_, rfl, ?_, hst⟩
      have : xs.contains x = false := by
        rw [Bool.eq_false_iff]
        intro h
        obtain ⟨j, hj, e⟩ := List.mem_iff_getElem.1 (List.contains_iff_mem.1 h)
        exact hno.out j hj (by omega) e
      rw [this]; rfl
def popsV (op : Int) : Int := if op = 1 ∨ op = 2 ∨ op = 13 ∨ op = 15 ∨ op = 16 ∨ op = 17 then 0 else if op = 3 ∨ op = 11 ∨ op = 12 ∨ op = 14 then 1 else if 4 ≤ op ∧ op ≤ 10 then 2 else -1
set_option maxRecDepth 4000 in
set_option maxHeartbeats 1000000 in
theorem rpops_no {S M} (w : World) (hst : St S M w) (op : Int) (h : ¬ (1 ≤ op ∧ op < 18)) : Rets Tryd.prog 23 [.int .i64 op] w fun v w' => v = .int .i64 (-1) ∧ St S M w' := by
  unfold Rets
  have e1 : op ≠ 1 := by omega
  have e2 : op ≠ 2 := by omega
  have e3 : op ≠ 3 := by omega
  have e4 : op ≠ 4 := by omega
  have e5 : op ≠ 5 := by omega
  have e6 : op ≠ 6 := by omega
  have e7 : op ≠ 7 := by omega
  have e8 : op ≠ 8 := by omega
  have e9 : op ≠ 9 := by omega
  have e10 : op ≠ 10 := by omega
  have e11 : op ≠ 11 := by omega
  have e12 : op ≠ 12 := by omega
  have e13 : op ≠ 13 := by omega
  have e14 : op ≠ 14 := by omega
  have e15 : op ≠ 15 := by omega
  have e16 : op ≠ 16 := by omega
  have e17 : op ≠ 17 := by omega
  go_enter Tryd.func23, Tryd.ntmps23
  repeat' (first | ((fail_if_success (go_big_may)); (go_step)) | (with_reducible refine Sl.gate rfl ?_; (go_step)))
  go_ret
  exact ⟨_, rfl, rfl, hst⟩
set_option maxRecDepth 4000 in
set_option maxHeartbeats 4000000 in
theorem rpops_ok {S M} (w : World) (hst : St S M w) (op : Int) (h : 1 ≤ op ∧ op < 18) : Rets Tryd.prog 23 [.int .i64 op] w fun v w' => v = .int .i64 (popsV op) ∧ St S M w' := by
  have hc : op = 1 ∨ op = 2 ∨ op = 3 ∨ op = 4 ∨ op = 5 ∨ op = 6 ∨ op = 7 ∨ op = 8 ∨ op = 9 ∨ op = 10 ∨ op = 11 ∨ op = 12 ∨ op = 13 ∨ op = 14 ∨ op = 15 ∨ op = 16 ∨ op = 17 := by omega
  unfold Rets
  rcases hc with rfl | rfl | rfl | rfl | rfl | rfl | rfl | rfl | rfl | rfl | rfl | rfl | rfl | rfl | rfl | rfl | rfl
  all_goals
    go_enter Tryd.func23, Tryd.ntmps23
    repeat' (first | ((fail_if_success (go_big_may)); (go_step)) | (with_reducible refine Sl.gate rfl ?_; (go_step)))
    go_ret
    exact ⟨_, rfl, rfl, hst⟩
set_option maxRecDepth 4000 in
theorem rwith_c {S M} (w : World) (hst : St S M w) (vs : Value) (xs : List Int) (hxs : RSl S vs xs) (hm : xs.length ≤ 1048576) (k : Nat) (hk : k < xs.length) (x : Int) (hx : I64 x) :
    Rets Tryd.prog 25 [vs, .int .i64 (k : Int), .int .i64 x] w fun v w' => ∃ S', S.Le S' ∧ RSl S' v (setV xs k x) ∧ St S' M w' := by
  unfold Rets
  have k1 := hxs.oneCell
  go_enter Tryd.func25, Tryd.ntmps25
  repeat' (((fail_if_success (go_big_may)); (go_step)))
  refine s_lit (vs := []) (cs := []) hst inX inX rfl rfl (by simp) rfl (by omega) (by omega) ?_
  clear hst; intro x0 w hst
  (try refine nX ?_)
  repeat' (((fail_if_success (go_big_may)); (go_step)))
  refine s_append_data (α := Int) (k := 0) hst evX evX rfl hxs inX inX inX (by omega) (by omega) (by decide) ?_
  clear hst; intro x2 w c2 hc2 hst
  (try refine nX ?_)
  obtain rfl := rl_ints_eq hc2
  clear hc2
  rw [show (0 + xs.length) = xs.length from Nat.zero_add _] at hst
  have hst : St S (.sl x2 3 1 xs.length (cF intC xs) :: M) w := hst
  have hone := sl_one hst
  repeat' (first | ((fail_if_success (go_big_may)); (go_step)) | (((with_reducible refine Sl.k_index ?_; (((refine s_ex hst (qt_index_own hst evX SlIn.h rfl inX inX omX omX) ?_); rintro v hp; (try simp only [Int.toNat_natCast, Int.toNat_natCast_add_one, Int.reduceToNat] at hp))))) <;> (try refine nX ?_)) | (((((with_reducible refine Sl.k_store ?_; (refine s_stI hst evX asX SlIn.h inX evX omX ?_); clear hst; intro w hst)))) <;> (try refine nX ?_) <;> (try replace hst := nH hst)))
  go_ret
  have fz := lit_ints (xs.set k x) hst rfl (fun y hy => (List.mem_or_eq_of_mem_set hy).elim (rsl_i64x hxs y) (fun e => e ▸ hx)) (by rw [List.length_set])
  obtain ⟨S2, hS2, hst2, hv⟩ := fz
  exact ⟨_, rfl, S2, hS2, hv, hst2⟩
theorem eqd (a b : Int) : (a == b) = decide (a = b) := by rw [Bool.eq_iff_iff]; simp
theorem ned (a : Int) : (a != 0) = decide (a ≠ 0) := by rw [Bool.eq_iff_iff]; simp
theorem mul_inR {a b : Int} (ha : inR a) (hb : inR b) : 0 ≤ a * b ∧ a * b ≤ 4294836225 := mul_in ha hb
set_option maxRecDepth 4000 in
set_option maxHeartbeats 4000000 in
theorem rbinary_c {S M} (w : World) (hst : St S M w) (op a b : Int) (h : 4 ≤ op ∧ op ≤ 10) (ha : inR a) (hb : inR b) : Rets Tryd.prog 26 [.int .i64 op, .int .i64 a, .int .i64 b] w fun v w' => v = .int .i64 (binV op a b) ∧ St S M w' := by
  have hm := mul_inR ha hb
  unfold inR at ha hb
  have hc : op = 4 ∨ op = 5 ∨ op = 6 ∨ op = 7 ∨ op = 8 ∨ op = 9 ∨ op = 10 := by omega
  unfold Rets
  rcases hc with rfl | rfl | rfl | rfl | rfl | rfl | rfl
  · go_enter Tryd.func26, Tryd.ntmps26
    repeat' (first | (((with_reducible refine Sl.k_call ?_; ((refine s_call (rwrap_c _ hst (a + b)) inX rfl ?_; clear hst; rintro v w ⟨rfl, hst⟩)))) <;> (try refine nX ?_) <;> (try replace hst := nH hst)) | ((fail_if_success (go_big_may)); (go_step)) | (with_reducible refine Sl.gate rfl ?_; (go_step)))
    go_ret
    exact ⟨_, rfl, rfl, hst⟩
  · go_enter Tryd.func26, Tryd.ntmps26
    repeat' (first | (((with_reducible refine Sl.k_call ?_; ((refine s_call (rwrap_c _ hst (a - b)) inX rfl ?_; clear hst; rintro v w ⟨rfl, hst⟩)))) <;> (try refine nX ?_) <;> (try replace hst := nH hst)) | ((fail_if_success (go_big_may)); (go_step)) | (with_reducible refine Sl.gate rfl ?_; (go_step)))
    go_ret
    exact ⟨_, rfl, rfl, hst⟩
  · go_enter Tryd.func26, Tryd.ntmps26
    repeat' (first | (((with_reducible refine Sl.k_call ?_; ((refine s_call (rwrap_c _ hst (a * b)) inX rfl ?_; clear hst; rintro v w ⟨rfl, hst⟩)))) <;> (try refine nX ?_) <;> (try replace hst := nH hst)) | ((fail_if_success (go_big_may)); (go_step)) | (with_reducible refine Sl.gate rfl ?_; (go_step)))
    go_ret
    exact ⟨_, rfl, rfl, hst⟩
  · go_enter Tryd.func26, Tryd.ntmps26
    repeat' (first | (((with_reducible refine Sl.k_call ?_; ((refine s_call (rtruth_c _ hst (decide (a < b))) inX rfl ?_; clear hst; rintro v w ⟨rfl, hst⟩)))) <;> (try refine nX ?_) <;> (try replace hst := nH hst)) | ((fail_if_success (go_big_may)); (go_step)) | (with_reducible refine Sl.gate rfl ?_; (go_step)))
    go_ret
    exact ⟨_, rfl, rfl, hst⟩
  · go_enter Tryd.func26, Tryd.ntmps26
    repeat' (first | (((with_reducible refine Sl.k_call ?_; ((refine s_call (rtruth_c _ hst (a == b)) inX rfl ?_; clear hst; rintro v w ⟨rfl, hst⟩)))) <;> (try refine nX ?_) <;> (try replace hst := nH hst)) | ((fail_if_success (go_big_may)); (go_step)) | (with_reducible refine Sl.gate rfl ?_; (go_step)))
    go_ret
    exact ⟨_, rfl, by rw [eqd]; rfl, hst⟩
  · by_cases h0 : a = 0
    · subst h0
      go_enter Tryd.func26, Tryd.ntmps26
      repeat' (first | go_skip | (((with_reducible refine Sl.k_call ?_; ((refine s_call (rtruth_c _ hst false) inX rfl ?_; clear hst; rintro v w ⟨rfl, hst⟩)))) <;> (try refine nX ?_) <;> (try replace hst := nH hst)) | ((fail_if_success (go_big_may)); (go_step)) | (with_reducible refine Sl.gate rfl ?_; (go_step)))
      all_goals (try (exfalso; omega))
      go_ret
      exact ⟨_, rfl, rfl, hst⟩
    · go_enter Tryd.func26, Tryd.ntmps26
      repeat' (first | go_skip | (((with_reducible refine Sl.k_guard ?_; (first | (refine Sl.guard_yes rfl ?_) | (refine Sl.guard_cases rfl ?_ ?_ <;> intro hg <;> (simp only [hg, Bool.not_true, Bool.not_false])) <;> (try simp only [decide_eq_true_eq, decide_eq_false_iff_not, Bool.not_false, Bool.not_true, beq_iff_eq, beq_eq_false_iff_ne, bne_iff_ne, bne_eq_false_iff_eq, ne_eq] at hg)))) <;> (try refine nX ?_)) | (((with_reducible refine Sl.k_call ?_; ((refine s_call (rtruth_c _ hst (b != 0)) inX rfl ?_; clear hst; rintro v w ⟨rfl, hst⟩)))) <;> (try refine nX ?_) <;> (try replace hst := nH hst)) | ((fail_if_success (go_big_may)); (go_step)) | (with_reducible refine Sl.gate rfl ?_; (go_step)))
      all_goals (try (exfalso; omega))
      go_ret
      exact ⟨_, rfl, by rw [ned]; simp [binV, h0], hst⟩
  · by_cases h0 : a = 0
    · subst h0
      go_enter Tryd.func26, Tryd.ntmps26
      repeat' (first | (((with_reducible refine Sl.k_guard ?_; ((refine Sl.guard_yes rfl ?_)))) <;> (try refine nX ?_)) | (((with_reducible refine Sl.k_call ?_; ((refine s_call (rtruth_c _ hst (b != 0)) inX rfl ?_; clear hst; rintro v w ⟨rfl, hst⟩)))) <;> (try refine nX ?_) <;> (try replace hst := nH hst)) | ((fail_if_success (go_big_may)); (go_step)) | (with_reducible refine Sl.gate rfl ?_; (go_step)))
      all_goals (try (exfalso; omega))
      go_ret
      exact ⟨_, rfl, by rw [ned]; simp [binV], hst⟩
    · go_enter Tryd.func26, Tryd.ntmps26
      repeat' (first | go_skip | (((with_reducible refine Sl.k_guard ?_; (first | (refine Sl.guard_yes rfl ?_) | (refine Sl.guard_cases rfl ?_ ?_ <;> intro hg <;> (simp only [hg, Bool.not_true, Bool.not_false])) <;> (try simp only [decide_eq_true_eq, decide_eq_false_iff_not, Bool.not_false, Bool.not_true, beq_iff_eq, beq_eq_false_iff_ne, bne_iff_ne, bne_eq_false_iff_eq, ne_eq] at hg)))) <;> (try refine nX ?_)) | (((with_reducible refine Sl.k_call ?_; ((refine s_call (rtruth_c _ hst true) inX rfl ?_; clear hst; rintro v w ⟨rfl, hst⟩)))) <;> (try refine nX ?_) <;> (try replace hst := nH hst)) | ((fail_if_success (go_big_may)); (go_step)) | (with_reducible refine Sl.gate rfl ?_; (go_step)))
      all_goals (try (exfalso; omega))
      go_ret
      exact ⟨_, rfl, by simp [binV, h0], hst⟩
end Go.Proofs.YtmbdbfdlbbkclaaDoor

/- The reference machine: what a step answers; the steps that fail before any instruction. -/
--@hgp
--@flat
--@ex0
namespace Go.Proofs.YtmbdbfdlbbkclaaDoor
set_option linter.unusedSimpArgs false
set_option linter.unusedVariables false
open Go.RowKit Go.Sl

abbrev stC (s : VS) (vv vs vp vn : Value) (e : Int) : List Value := [.int .i64 s.pc, vv, vs, vp, vn, .int .i64 s.fin, .int .i64 (s.steps : Int), .int .i64 (s.br : Int), .bool s.done, .int .i64 e]
abbrev stVal (s : VS) (vv vs vp vn : Value) (e : Int) : Value := .agg #[.int .i64 s.pc, vv, vs, vp, vn, .int .i64 s.fin, .int .i64 (s.steps : Int), .int .i64 (s.br : Int), .bool s.done, .int .i64 e]
abbrev OkPost (S : Snap) (M : List Chunk) (t : VS) (v : Value) (w : World) : Prop :=
  ∃ S' vv vs vp vn, S.Le S' ∧ v = stVal t vv vs vp vn 0 ∧ RSl S' vv t.vars ∧ RSl S' vs t.stack ∧ RSl S' vp t.pts ∧ RSl S' vn t.notes ∧ St S' M w
abbrev ErrPost (S : Snap) (M : List Chunk) (e : Nat) (v : Value) (w : World) : Prop :=
  ∃ S' t vv vs vp vn, S.Le S' ∧ v = stVal t vv vs vp vn (e : Int) ∧ vv.oneCell' = true ∧ vs.oneCell' = true ∧ vp.oneCell' = true ∧ vn.oneCell' = true ∧ St S' M w
def RefPost (S : Snap) (M : List Chunk) : VR → Value → World → Prop
  | .ok t, v, w => OkPost S M t v w
  | .err e, v, w => ErrPost S M e v w
section
variable {S : Snap} {M : List Chunk} {vi vg : Value} {c : CodeD} {s : VS} {vv vs vp vn : Value}

set_option maxRecDepth 60000 in
set_option maxHeartbeats 4000000 in
theorem step_20 (w : World) (hst : St S M w) (hvi : RSl S vi c.1) (hvv : RSl S vv s.vars) (hvs : RSl S vs s.stack) (hvp : RSl S vp s.pts) (hvn : RSl S vn s.notes) (h3 : ¬ s.steps < 3000) :
    Rets Tryd.prog 19 [codeVal vi c, stVal s vv vs vp vn 0, vg] w fun v w' => ErrPost S M 20 v w' := by
  unfold Rets
  obtain ⟨ai, ni, ci, rfl⟩ := rsl_form hvi
  obtain ⟨av, nv, cv, rfl⟩ := rsl_form hvv
  obtain ⟨az, nz, cz, rfl⟩ := rsl_form hvs
  obtain ⟨ap, np, cp, rfl⟩ := rsl_form hvp
  obtain ⟨an, nn, cn, rfl⟩ := rsl_form hvn
  go_enter Tryd.func19, Tryd.ntmps19
  repeat' (first | ((fail_if_success (go_big_may)); (go_step)) | ((first | (with_reducible refine Sl.k_load ?_; (refine s_qt hst (by exact qt_load rfl _ BoxIn.h inX rfl rfl) ?_)) | (with_reducible refine Sl.k_field ?_; (refine s_qt hst (qt_field rfl inX) ?_))) <;> (try refine nX ?_)) | (with_reducible refine Sl.gate rfl ?_; (go_step)) | ((((first | (with_reducible refine Sl.k_store ?_; (refine s_store hst rfl _ BoxIn.h inX evX rfl lenOk oneOk (by simp) ?_); clear hst; intro w hst) | (refine s_box hst evX rfl ?_; clear hst; intro bx w hst) | (refine s_alloc hst inX ?_; clear hst; intro bk w hst)))) <;> (try refine nX ?_) <;> (try replace hst := nH hst)))
  refine ret_cell rfl hst rfl 0 rfl inferInstance rfl rfl ?_
  exact ⟨_, rfl, S, s, _, _, _, _, Snap.Le.refl _, rfl, rfl, rfl, rfl, rfl, hst.drop.drop.drop⟩
set_option maxRecDepth 60000 in
set_option maxHeartbeats 4000000 in
theorem step_13 (w : World) (hst : St S M w) (hvi : RSl S vi c.1) (hvm : c.1.length ≤ 1048576) (hvv : RSl S vv s.vars) (hvs : RSl S vs s.stack) (hvp : RSl S vp s.pts) (hvn : RSl S vn s.notes) (h3 : s.steps < 3000) (hp0 : 0 ≤ s.pc) (hp1 : s.pc < c.1.length) (gd : GoodV c s) {a b : Int} {u : Unit}
    (hi : c.1[s.pc.toNat]'(by omega) = (13, a, b, u)) :
    Rets Tryd.prog 19 [codeVal vi c, stVal s vv vs vp vn 0, vg] w fun v w' => OkPost S M { nextV s with pc := a } v w' := by
  unfold Rets
  obtain ⟨ai, ni, ci, rfl⟩ := rsl_form hvi
  obtain ⟨av, nv, cv, rfl⟩ := rsl_form hvv
  obtain ⟨az, nz, cz, rfl⟩ := rsl_form hvs
  obtain ⟨ap, np, cp, rfl⟩ := rsl_form hvp
  obtain ⟨an, nn, cn, rfl⟩ := rsl_form hvn
  have hsl := gd.slen
  have rp : ∀ (M : List Chunk) (w : World), St S M w → Rets Tryd.prog 23 [.int .i64 13] w fun v w' => v = .int .i64 0 ∧ St S M w' := fun M w hst => rpops_ok w hst 13 (by decide)
  go_enter Tryd.func19, Tryd.ntmps19
  repeat' ((fail_if_success (with_reducible show Code.wp _ (Code.region 8 _ _) _ _ _)); first | (((with_reducible refine Sl.k_guard ?_; (first | (refine Sl.guard_yes rfl ?_) | (refine Sl.guard_cases rfl ?_ ?_ <;> intro hg <;> first | (exfalso; simp only [decide_eq_true_eq, decide_eq_false_iff_not, Bool.not_false, Bool.not_true, beq_iff_eq, beq_eq_false_iff_ne, ne_eq] at hg; omega) | (simp only [hg, Bool.not_true, Bool.not_false])) <;> (try simp only [decide_eq_true_eq, decide_eq_false_iff_not, Bool.not_false, Bool.not_true, beq_iff_eq, beq_eq_false_iff_ne, bne_iff_ne, bne_eq_false_iff_eq, ne_eq] at hg)))) <;> (try refine nX ?_)) | ((fail_if_success (go_big_may)); (go_step)) | ((first | (with_reducible refine Sl.k_load ?_; (refine s_qt hst (by first | exact qt_load rfl _ BoxIn.h inX rfl rfl | exact qt_ldp_flat evX asX inX inX rfl) ?_)) | (with_reducible refine Sl.k_field ?_; (refine s_qt hst (qt_field rfl inX) ?_)) | (with_reducible refine Sl.k_index ?_; (((refine s_ex hst (qt_index evX asX rfl inX inX omX omX) ?_); rintro v hp; (try simp only [Int.toNat_natCast, Int.toNat_natCast_add_one, Int.reduceToNat] at hp)))) | (with_reducible refine Sl.k_call ?_; (refine s_qt hst (by exact qt_len evX asX inX) ?_))) <;> (try refine nX ?_)) | (with_reducible refine Sl.gate rfl ?_; (go_step)) | ((((first | (with_reducible refine Sl.k_store ?_; (refine s_store hst rfl _ BoxIn.h inX evX rfl lenOk oneOk (by simp) ?_); clear hst; intro w hst) | (refine s_box hst evX rfl ?_; clear hst; intro bx w hst) | (refine s_alloc hst inX ?_; clear hst; intro bk w hst)))) <;> (try refine nX ?_) <;> (try replace hst := nH hst)))
  rw [hi] at hst hp ⊢
  simp only [insC] at hst ⊢
  repeat' (first | (((with_reducible refine Sl.k_guard ?_; ((refine Sl.guard_yes rfl ?_)))) <;> (try refine nX ?_)) | (((with_reducible refine Sl.k_call ?_; ((refine s_call (rp _ _ hst) inX rfl ?_; clear hst; rintro v w ⟨rfl, hst⟩)))) <;> (try refine nX ?_) <;> (try replace hst := nH hst)) | ((fail_if_success (go_big_may)); (go_step)) | ((first | (with_reducible refine Sl.k_load ?_; (refine s_qt hst (by exact qt_load rfl _ BoxIn.h inX rfl rfl) ?_)) | (with_reducible refine Sl.k_field ?_; (refine s_qt hst (qt_field rfl inX) ?_)) | (with_reducible refine Sl.k_call ?_; (refine s_qt hst (by exact qt_len evX asX inX) ?_))) <;> (try refine nX ?_)) | (with_reducible refine Sl.gate rfl ?_; (go_step)))
  refine s_slice (a := 0) (b := s.stack.length) evX hvs inX inX (.inl ⟨rfl, rfl⟩) (.inr ⟨.i64, by simp [evF, nth]⟩) (.inl rfl) (by omega) (by omega) ?_
  intro vz hvz
  rw [List.drop_zero, Nat.sub_zero] at hvz
  obtain ⟨ay, ny, cy, rfl⟩ := rsl_form hvz
  (try refine nX ?_)
  repeat' (first | ((fail_if_success (go_big_may)); (go_step)) | ((first | (with_reducible refine Sl.k_load ?_; (refine s_qt hst (by exact qt_load rfl _ BoxIn.h inX rfl rfl) ?_)) | (with_reducible refine Sl.k_field ?_; (refine s_qt hst (qt_field rfl inX) ?_))) <;> (try refine nX ?_)) | (with_reducible refine Sl.gate rfl ?_; (go_step)) | (((((with_reducible refine Sl.k_store ?_; (refine s_store hst rfl _ BoxIn.h inX evX rfl lenOk oneOk (by simp) ?_); clear hst; intro w hst)))) <;> (try refine nX ?_) <;> (try replace hst := nH hst)))
  refine ret_cell rfl hst rfl 1 rfl inferInstance rfl rfl ?_
  exact ⟨_, rfl, S, _, _, _, _, Snap.Le.refl _, rfl, hvv, by rw [List.take_length] at hvz; exact hvz, hvp, hvn, hst.drop.drop.drop.drop⟩
end
end Go.Proofs.YtmbdbfdlbbkclaaDoor

/- The reference machine: 'Run', walked. -/
--@hgp
--@ex0
namespace Go.Proofs.YtmbdbfdlbbkclaaDoor
set_option linter.unusedSimpArgs false
set_option linter.unusedVariables false
open Go.RowKit Go.Sl

abbrev rstT : TypeId := 55
abbrev codT : TypeId := 24
abbrev intT : TypeId := 3
def RefStep : Prop := ∀ {S : Snap} {M : List Chunk} {vi vg : Value} {c : CodeD} {s : VS} {vv vs vp vn : Value} (w : World) (_ : St S M w) (_ : RSl S vi c.1) (_ : c.1.length ≤ 1048576) (_ : RSl S vv s.vars) (_ : RSl S vs s.stack) (_ : RSl S vp s.pts) (_ : RSl S vn s.notes) (_ : GoodV c s) {gl : List Int} (_ : RSl S vg gl) (_ : gl.length ≤ 1048576) (_ : c.2.1 ≤ 400) (_ : c.2.2.1 ≤ 8),
    Rets Tryd.prog 19 [codeVal vi c, stVal s vv vs vp vn 0, vg] w fun v w' => RefPost S M (stepV c gl s) v w'

theorem vm_bad {c : CodeD} {inputs gl : List Int} {r : OutD × Nat} (hr : vmM c inputs gl = r) (h : validV c inputs = false) : r = (out0, 1) := by
  rw [← hr]; unfold vmM; rw [h]; rfl
theorem bad_of {c : CodeD} {inputs : List Int} (h : ¬ (0 ≤ c.2.2.1 ∧ c.2.2.1 ≤ 8 ∧ (inputs.length : Int) ≤ c.2.1 ∧ c.2.1 ≤ 400 ∧ ∀ x ∈ inputs, 0 ≤ x ∧ x < 65536)) : validV c inputs = false := by
  cases e : validV c inputs with
  | false => rfl
  | true =>
    unfold validV at e
    simp only [Bool.and_eq_true, decide_eq_true_eq, List.all_eq_true] at e
    obtain ⟨⟨⟨⟨h1, h2⟩, h3⟩, h4⟩, h5⟩ := e
    exact (h ⟨h1, h2, h3, h4, h5⟩).elim
theorem valid_of {c : CodeD} {inputs : List Int} (h : 0 ≤ c.2.2.1 ∧ c.2.2.1 ≤ 8 ∧ (inputs.length : Int) ≤ c.2.1 ∧ c.2.1 ≤ 400 ∧ ∀ x ∈ inputs, 0 ≤ x ∧ x < 65536) : validV c inputs = true := by
  unfold validV
  simp only [Bool.and_eq_true, decide_eq_true_eq, List.all_eq_true]
  exact ⟨⟨⟨⟨h.1, h.2.1⟩, h.2.2.1⟩, h.2.2.2.1⟩, h.2.2.2.2⟩

theorem cF_takeS (xs : List Int) (k : Nat) (h : k < xs.length) : cF intC (xs.take k) ++ [Value.int .i64 xs[k]] = cF intC (xs.take (k + 1)) := by
  rw [List.take_succ_eq_append_getElem h, cF_app]; rfl
def resV : VR → OutD × Nat
  | .ok s => (outV s, 0)
  | .err e => (out0, e)
theorem vm_res {c : CodeD} {inputs gl : List Int} {r : OutD × Nat} (hr : vmM c inputs gl = r) (h : validV c inputs = true) : resV (runV c gl 3001 (startV c inputs)) = r := by
  rw [← hr]; unfold vmM; rw [if_pos h]
  cases runV c gl 3001 (startV c inputs) <;> rfl
theorem cF_push (xs : List Int) (x : Int) : cF intC xs ++ [Value.int .i64 x] = cF intC (xs ++ [x]) := by rw [cF_app]; rfl
set_option maxRecDepth 60000 in
set_option maxHeartbeats 4000000 in
theorem rrun_c (hS : RefStep) {S M} (w : World) (hst : St S M w) (vi : Value) (c : CodeD) (hvi : RSl S vi c.1) (hvm : c.1.length ≤ 1048576) (vs : Value) (inputs : List Int) (hin : RSl S vs inputs) (him : inputs.length ≤ 1048576) (vg : Value) (gl : List Int) (hgl : RSl S vg gl) (hgm : gl.length ≤ 1048576) {r : OutD × Nat} (hr : vmM c inputs gl = r) :
    Rets Tryd.prog 12 [codeVal vi c, vs, vg] w fun v w' => RunPostD S M r v w' := by
  unfold Rets
  have hI64 := rsl_i64x hin
  obtain ⟨ai, ni, ci, rfl⟩ := rsl_form hvi
  obtain ⟨aj, nj, cj, rfl⟩ := rsl_form hin
  obtain ⟨ag, ng, cg, rfl⟩ := rsl_form hgl
  by_cases h1 : c.2.2.1 < 0
  · obtain rfl := vm_bad hr (bad_of fun h => by omega)
    go_enter Tryd.func12, Tryd.ntmps12
    repeat' (first | go_skip | ((fail_if_success (go_big_may)); (go_step)) | ((first | (with_reducible refine Sl.k_load ?_; (refine s_qt hst (qt_load rfl _ BoxIn.h inX rfl rfl) ?_)) | (with_reducible refine Sl.k_field ?_; (refine s_qt hst (qt_field rfl inX) ?_))) <;> (try refine nX ?_)) | (with_reducible refine Sl.gate rfl ?_; (go_step)) | ((((first | (with_reducible refine Sl.k_store ?_; (refine s_store hst rfl _ BoxIn.h inX evX rfl lenOk oneOk (by simp) ?_); clear hst; intro w hst) | (refine s_box hst evX rfl ?_; clear hst; intro bx w hst) | (refine s_alloc hst inX ?_; clear hst; intro bk w hst)))) <;> (try refine nX ?_) <;> (try replace hst := nH hst)))
    refine ret_two rfl (rv_cell hst rfl _ BoxIn.h inX rfl rfl) (rv_tmp rfl) ?_; (try simp only [nth, List.drop_zero, List.drop_succ_cons, List.take_succ_cons, List.take_zero, vOf_true, vOf_false])
    exact ⟨_, rfl, S, _, _, _, _, _, _, Snap.Le.refl S, rfl, nilSl, nilSl, hst.drop.drop⟩
  · by_cases h2 : c.2.2.1 > 8
    · obtain rfl := vm_bad hr (bad_of fun h => by omega)
      go_enter Tryd.func12, Tryd.ntmps12
      repeat' (first | go_skip | (((with_reducible refine Sl.k_guard ?_; ((refine Sl.guard_yes rfl ?_)))) <;> (try refine nX ?_)) | ((fail_if_success (go_big_may)); (go_step)) | ((first | (with_reducible refine Sl.k_load ?_; (refine s_qt hst (qt_load rfl _ BoxIn.h inX rfl rfl) ?_)) | (with_reducible refine Sl.k_field ?_; (refine s_qt hst (qt_field rfl inX) ?_))) <;> (try refine nX ?_)) | (with_reducible refine Sl.gate rfl ?_; (go_step)) | ((((first | (with_reducible refine Sl.k_store ?_; (refine s_store hst rfl _ BoxIn.h inX evX rfl lenOk oneOk (by simp) ?_); clear hst; intro w hst) | (refine s_box hst evX rfl ?_; clear hst; intro bx w hst) | (refine s_alloc hst inX ?_; clear hst; intro bk w hst)))) <;> (try refine nX ?_) <;> (try replace hst := nH hst)))
      refine ret_two rfl (rv_cell hst rfl _ BoxIn.h inX rfl rfl) (rv_tmp rfl) ?_; (try simp only [nth, List.drop_zero, List.drop_succ_cons, List.take_succ_cons, List.take_zero, vOf_true, vOf_false])
      exact ⟨_, rfl, S, _, _, _, _, _, _, Snap.Le.refl S, rfl, nilSl, nilSl, hst.drop.drop⟩
    · by_cases h3 : c.2.1 < (inputs.length : Int)
      · obtain rfl := vm_bad hr (bad_of fun h => by omega)
        go_enter Tryd.func12, Tryd.ntmps12
        repeat' (first | go_skip | (((with_reducible refine Sl.k_guard ?_; ((refine Sl.guard_yes rfl ?_)))) <;> (try refine nX ?_)) | ((fail_if_success (go_big_may)); (go_step)) | ((first | (with_reducible refine Sl.k_load ?_; (refine s_qt hst (qt_load rfl _ BoxIn.h inX rfl rfl) ?_)) | (with_reducible refine Sl.k_field ?_; (refine s_qt hst (qt_field rfl inX) ?_)) | (with_reducible refine Sl.k_call ?_; (refine s_qt hst (by exact qt_len evX asX inX) ?_))) <;> (try refine nX ?_)) | (with_reducible refine Sl.gate rfl ?_; (go_step)) | ((((first | (with_reducible refine Sl.k_store ?_; (refine s_store hst rfl _ BoxIn.h inX evX rfl lenOk oneOk (by simp) ?_); clear hst; intro w hst) | (refine s_box hst evX rfl ?_; clear hst; intro bx w hst) | (refine s_alloc hst inX ?_; clear hst; intro bk w hst)))) <;> (try refine nX ?_) <;> (try replace hst := nH hst)))
        refine ret_two rfl (rv_cell hst rfl _ BoxIn.h inX rfl rfl) (rv_tmp rfl) ?_; (try simp only [nth, List.drop_zero, List.drop_succ_cons, List.take_succ_cons, List.take_zero, vOf_true, vOf_false])
        exact ⟨_, rfl, S, _, _, _, _, _, _, Snap.Le.refl S, rfl, nilSl, nilSl, hst.drop.drop⟩
      · by_cases h4 : c.2.1 > 400
        · obtain rfl := vm_bad hr (bad_of fun h => by omega)
          go_enter Tryd.func12, Tryd.ntmps12
          repeat' (first | (((with_reducible refine Sl.k_guard ?_; ((refine Sl.guard_yes rfl ?_)))) <;> (try refine nX ?_)) | ((fail_if_success (go_big_may)); (go_step)) | ((first | (with_reducible refine Sl.k_load ?_; (refine s_qt hst (qt_load rfl _ BoxIn.h inX rfl rfl) ?_)) | (with_reducible refine Sl.k_field ?_; (refine s_qt hst (qt_field rfl inX) ?_)) | (with_reducible refine Sl.k_call ?_; (refine s_qt hst (by exact qt_len evX asX inX) ?_))) <;> (try refine nX ?_)) | (with_reducible refine Sl.gate rfl ?_; (go_step)) | ((((first | (with_reducible refine Sl.k_store ?_; (refine s_store hst rfl _ BoxIn.h inX evX rfl lenOk oneOk (by simp) ?_); clear hst; intro w hst) | (refine s_box hst evX rfl ?_; clear hst; intro bx w hst) | (refine s_alloc hst inX ?_; clear hst; intro bk w hst)))) <;> (try refine nX ?_) <;> (try replace hst := nH hst)))
          refine ret_two rfl (rv_cell hst rfl _ BoxIn.h inX rfl rfl) (rv_tmp rfl) ?_; (try simp only [nth, List.drop_zero, List.drop_succ_cons, List.take_succ_cons, List.take_zero, vOf_true, vOf_false])
          exact ⟨_, rfl, S, _, _, _, _, _, _, Snap.Le.refl S, rfl, nilSl, nilSl, hst.drop.drop⟩
        · obtain ⟨ins, nv, np, u⟩ := c
          obtain ⟨nv, rfl⟩ : ∃ n : Nat, nv = (n : Int) := ⟨nv.toNat, by simp only at h3; omega⟩
          obtain ⟨np, rfl⟩ : ∃ n : Nat, np = (n : Int) := ⟨np.toNat, by simp only at h1; omega⟩
          obtain ⟨⟩ := u
          simp only at h1 h2 h3 h4 hvi hvm
          go_enter Tryd.func12, Tryd.ntmps12
          repeat' ((fail_if_success (with_reducible show Code.wp _ (Code.region 1 _ _) _ _ _)); first | ((fail_if_success (go_big_may)); (go_step)) | ((((first | (refine s_box hst evX rfl ?_; clear hst; intro bx w hst) | (refine s_alloc hst inX ?_; clear hst; intro bk w hst)))) <;> (try refine nX ?_) <;> (try replace hst := nH hst)))
          obtain ⟨bo, rfl⟩ : ∃ b, b = bk := ⟨_, rfl⟩
          repeat' (first | (((with_reducible refine Sl.k_guard ?_; ((refine Sl.guard_yes rfl ?_)))) <;> (try refine nX ?_)) | ((fail_if_success (go_big_may)); (go_step)) | ((first | (with_reducible refine Sl.k_load ?_; (refine s_qt hst (qt_load rfl _ BoxIn.h inX rfl rfl) ?_)) | (with_reducible refine Sl.k_field ?_; (refine s_qt hst (qt_field rfl inX) ?_)) | (with_reducible refine Sl.k_call ?_; (refine s_qt hst (by exact qt_len evX asX inX) ?_))) <;> (try refine nX ?_)) | (with_reducible refine Sl.gate rfl ?_; (go_step)))
          refine s_make (n := np) hst inX inX evX evX (by omega) (by omega) ?_
          clear hst; intro v33 w hst
          (try refine nX ?_)
          obtain ⟨a33, n33, c33, rfl⟩ := sl_form hst
          have e2 : (List.replicate np [Value.int IntKind.i64 0]).flatten = cF intC (List.replicate np 0) := rep_cF intC 0 np
          rw [e2] at hst
          have x1 := lit_int (List.replicate np (0 : Int)) (fun x hx => by rw [(List.mem_replicate.1 hx).2]; unfold I64; omega) hst rfl (by simp)
          clear hst e2; obtain ⟨S1, hS1, hst, hvp⟩ := x1
          replace hvi := hvi.mono hS1
          replace hin := hin.mono hS1
          replace hgl := hgl.mono hS1
          have hk1 : validV (ins, (nv : Int), (np : Int), ()) inputs = false → r = (out0, 1) := vm_bad hr
          have hk2 := hr
          clear hr
          repeat' (first | ((fail_if_success (go_big_may)); (go_step)) | (with_reducible refine Sl.gate rfl ?_; (go_step)) | ((((first | (with_reducible refine Sl.k_store ?_; (refine s_store hst rfl _ BoxIn.h inX evX rfl lenOk oneOk (by simp) ?_); clear hst; intro w hst) | (refine s_alloc hst inX ?_; clear hst; intro bk w hst)))) <;> (try refine nX ?_) <;> (try replace hst := nH hst)))
          have hst := hst.nil intT 1
          go_loopw [9] (fun v wr => ∃ (k : Nat) (u : Value), k ≤ inputs.length ∧ v = .int .i64 k ∧ u.oneCell' = true ∧ (∀ j (h : j < inputs.length), j < k → 0 ≤ inputs[j] ∧ inputs[j] < 65536) ∧ St S1 (.sl u intT 1 k (cF intC (inputs.take k)) :: .box bk [.int .i64 0, u, .slice none 0 0, .slice a33 n33 c33, .slice none 0 0, .int .i64 0, .int .i64 0, .int .i64 0, .bool false, .int .i64 0] rstT :: .box bo zeroOut outT :: .box bx [.slice ai ni ci, .int .i64 (nv : Int), .int .i64 (np : Int)] codT :: M) wr) (fun v _ => inputs.length - (intOf v).toNat)
          case atStart => exact ⟨0, _, Nat.zero_le _, rfl, rfl, fun j _ h => by omega, hst⟩
          case round =>
            clear hst
            obtain ⟨k, u, hk, rfl, hu, hpre, hst⟩ := hrel
            by_cases hlt : k < inputs.length
            · by_cases hx1 : inputs[k] < 0
              · obtain rfl := hk1 (bad_of fun h => by have := h.2.2.2.2 _ (List.getElem_mem hlt); omega)
                repeat' (first | (((with_reducible refine Sl.k_guard ?_; ((refine Sl.guard_no rfl ?_)))) <;> (try refine nX ?_)) | ((fail_if_success (go_big_may)); (go_step)) | ((first | (with_reducible refine Sl.k_load ?_; ((refine s_ex hst (qt_ldp_int evX asX inX) ?_; rintro v ⟨rfl, hI⟩))) | (with_reducible refine Sl.k_index ?_; (((refine s_ex hst (qt_index evX asX rfl inX inX omX omX) ?_); rintro v hp; (try simp only [Int.toNat_natCast, Int.toNat_natCast_add_one, Int.reduceToNat] at hp)))) | (with_reducible refine Sl.k_call ?_; (refine s_qt hst (by exact qt_len evX asX inX) ?_))) <;> (try refine nX ?_)) | (with_reducible refine Sl.gate rfl ?_; (go_step)) | (((((with_reducible refine Sl.k_store ?_; (refine s_store hst rfl _ BoxIn.h inX evX rfl lenOk oneOk (by simp) ?_); clear hst; intro w hst)))) <;> (try refine nX ?_) <;> (try replace hst := nH hst)))
                refine ret_two rfl (rv_cell hst rfl _ BoxIn.h inX rfl rfl) (rv_tmp rfl) ?_; (try simp only [nth, List.drop_zero, List.drop_succ_cons, List.take_succ_cons, List.take_zero, vOf_true, vOf_false])
                exact ⟨_, rfl, S1, _, _, _, _, _, _, hS1, rfl, nilSl, nilSl, hst.drop.drop.drop.drop⟩
              · by_cases hx2 : inputs[k] > 65535
                · obtain rfl := hk1 (bad_of fun h => by have := h.2.2.2.2 _ (List.getElem_mem hlt); omega)
                  repeat' (first | (((with_reducible refine Sl.k_guard ?_; ((refine Sl.guard_yes rfl ?_)))) <;> (try refine nX ?_)) | ((fail_if_success (go_big_may)); (go_step)) | ((first | (with_reducible refine Sl.k_load ?_; ((refine s_ex hst (qt_ldp_int evX asX inX) ?_; rintro v ⟨rfl, hI⟩))) | (with_reducible refine Sl.k_index ?_; (((refine s_ex hst (qt_index evX asX rfl inX inX omX omX) ?_); rintro v hp; (try simp only [Int.toNat_natCast, Int.toNat_natCast_add_one, Int.reduceToNat] at hp)))) | (with_reducible refine Sl.k_call ?_; (refine s_qt hst (by exact qt_len evX asX inX) ?_))) <;> (try refine nX ?_)) | (with_reducible refine Sl.gate rfl ?_; (go_step)) | (((((with_reducible refine Sl.k_store ?_; (refine s_store hst rfl _ BoxIn.h inX evX rfl lenOk oneOk (by simp) ?_); clear hst; intro w hst)))) <;> (try refine nX ?_) <;> (try replace hst := nH hst)))
                  refine ret_two rfl (rv_cell hst rfl _ BoxIn.h inX rfl rfl) (rv_tmp rfl) ?_; (try simp only [nth, List.drop_zero, List.drop_succ_cons, List.take_succ_cons, List.take_zero, vOf_true, vOf_false])
                  exact ⟨_, rfl, S1, _, _, _, _, _, _, hS1, rfl, nilSl, nilSl, hst.drop.drop.drop.drop⟩
                · repeat' ((fail_if_success (with_reducible show Code.wp _ (Code.region 9 _ _) _ _ _)); first | (((with_reducible refine Sl.k_guard ?_; ((refine Sl.guard_yes rfl ?_)))) <;> (try refine nX ?_)) | ((fail_if_success (go_big_may)); (go_step)) | ((first | (with_reducible refine Sl.k_load ?_; ((refine s_ex hst (qt_ldp_int evX asX inX) ?_; rintro v ⟨rfl, hI⟩))) | (with_reducible refine Sl.k_index ?_; (((refine s_ex hst (qt_index evX asX rfl inX inX omX omX) ?_); rintro v hp; (try simp only [Int.toNat_natCast, Int.toNat_natCast_add_one, Int.reduceToNat] at hp)))) | (with_reducible refine Sl.k_call ?_; (refine s_qt hst (by exact qt_len evX asX inX) ?_))) <;> (try refine nX ?_)) | (with_reducible refine Sl.gate rfl ?_; (go_step)))
                  refine v_begin hst (by kernel_rfl) ?_; clear hst; intro ops; (try refine nX ?_)
                  (refine t_qt 0 rfl (by kernel_rfl) rfl rfl (by exact qt_field rfl inX) ?_) <;> (try refine nX ?_)
                  (refine t_qt 1 rfl (by kernel_rfl) rfl rfl (by exact qt_load rfl _ BoxIn.h inX rfl rfl) ?_) <;> (try refine nX ?_)
                  (refine t_qt 2 rfl (by kernel_rfl) rfl rfl (by exact qt_move evX) ?_) <;> (try refine nX ?_)
                  (refine t_qt 3 rfl (by kernel_rfl) rfl rfl (by exact qt_move evX) ?_) <;> (try refine nX ?_)
                  ((refine t_ex0 4 rfl (by kernel_rfl) rfl rfl (qt_index evX hin rfl inX inX omX omX ) ?_; rintro  v4 hp4; simp only [Int.toNat_natCast] at hp4)) <;> (try refine nX ?_)
                  ((refine t_ex0 5 rfl (by kernel_rfl) rfl rfl (qt_ldp_int evX hp4 inX ) ?_; rintro  v5 ⟨rfl, h5⟩)) <;> (try refine nX ?_)
                  refine v_one 6 rfl (by kernel_rfl) ?_; intro w hst K hK; refine s_lit (vs := [.int .i64 inputs[k]]) hst inX inX rfl rfl (by simp [Value.cells]) rfl (by omega) (by omega) ?_; clear hst; intro x6 w hst; (try refine nX ?_); (try replace hst := nH hst); refine v_next hK hst (Snap.Le.refl _) (Suf.cons (Suf.refl _)) ?_; clear hst hK K; (try clear w); (try refine nX ?_)
                  refine v_one 7 rfl (by kernel_rfl) ?_; intro w hst K hK; refine s_append (j := 0) hst evX evX SlIn.h rfl inX inX inX ((by simp [Value.oneCell'])) (by omega) (by omega) (by decide) ?_; clear hst; intro x7 w hst; (try refine nX ?_); (try replace hst := nH hst); replace hst := hst.drop; have hone7 := sl_one hst; refine v_last hK hst ?_; clear hst hK K; (try clear w); (try refine nX ?_)
                  (refine t_qt 8 rfl (by kernel_rfl) rfl rfl (by exact qt_field rfl inX) ?_) <;> (try refine nX ?_)
                  refine v_one 9 rfl (by kernel_rfl) ?_; intro w hst K hK; (refine s_st1 hst rfl BoxIn.h evX asX inX (by simp <;> omega) ?_); clear hst; intro w hst; (try refine nX ?_); (try replace hst := nH hst); refine v_last hK hst ?_; clear hst hK K; (try clear w); (try refine nX ?_)
                  refine v_done (by kernel_rfl) ?_; clear ops; intro w hst
                  all_goals
                    rw [cF_takeS _ _ hlt] at hst
                    repeat' (first | ((fail_if_success (go_big_may)); (go_step)) | (with_reducible refine Sl.gate rfl ?_; (go_step)))
                    go_roundw
                    case rel => exact ⟨k + 1, x7, by omega, by go_num, hone7, fun j hj h => (by rcases Nat.lt_succ_iff_lt_or_eq.1 h with h | rfl; exact hpre j hj h; omega), hst⟩
                    case measure => simp [intOf]; omega
            · obtain rfl : k = inputs.length := by omega
              rw [List.take_length] at hst
              have hv : validV (ins, (nv : Int), (np : Int), ()) inputs = true := valid_of ⟨by show 0 ≤ (np : Int); omega, by show (np : Int) ≤ 8; omega, by show (inputs.length : Int) ≤ nv; omega, by show (nv : Int) ≤ 400; omega, fun x hx => by obtain ⟨j, hj, rfl⟩ := List.mem_iff_getElem.1 hx; exact hpre j hj hj⟩
              clear hpre hk1
              have gd0 := start_good hv
              have hk3 := vm_res hk2 hv
              clear hv
              obtain ⟨r0, hr0⟩ : ∃ r0, runV (ins, (nv : Int), (np : Int), ()) gl 3001 (startV (ins, (nv : Int), (np : Int), ()) inputs) = r0 := ⟨_, rfl⟩
              rw [hr0] at hk3
              clear hk2
              repeat' (first | ((fail_if_success (go_big_may)); (go_step)) | (((with_reducible refine Sl.k_call ?_; (refine s_qt hst (by exact qt_len evX asX inX) ?_))) <;> (try refine nX ?_)) | (with_reducible refine Sl.gate rfl ?_; (go_step)))
              go_loopg [] (nv - inputs.length) (fun g wr => ∃ (u : Value) (xs : List Int), g + xs.length = nv ∧ xs ++ List.replicate g 0 = (startV (ins, (nv : Int), (np : Int), ()) inputs).vars ∧ u.oneCell' = true ∧ St S1 (.sl u intT 1 xs.length (cF intC xs) :: .box bk [.int .i64 0, u, .slice none 0 0, .slice a33 n33 c33, .slice none 0 0, .int .i64 0, .int .i64 0, .int .i64 0, .bool false, .int .i64 0] rstT :: .box bo zeroOut outT :: .box bx [.slice ai ni ci, .int .i64 (nv : Int), .int .i64 (np : Int)] codT :: M) wr)
              case atStart => exact ⟨u, inputs, by omega, rfl, hu, hst⟩
              case round =>
                clear hst u hu
                obtain ⟨u, xs, hg, hvx, hu, hst⟩ := hrel
                by_cases hlt2 : xs.length < nv
                · obtain ⟨j, rfl⟩ : ∃ j, gk = j + 1 := ⟨gk - 1, by omega⟩
                  repeat' (first | ((fail_if_success (go_big_may)); (go_step)) | ((first | (with_reducible refine Sl.k_load ?_; (refine s_qt hst (qt_load rfl _ BoxIn.h inX rfl rfl) ?_)) | (with_reducible refine Sl.k_field ?_; (refine s_qt hst (qt_field rfl inX) ?_)) | (with_reducible refine Sl.k_call ?_; (refine s_qt hst (by exact qt_len_own evX SlIn.h inX) ?_))) <;> (try refine nX ?_)) | (with_reducible refine Sl.gate rfl ?_; (go_step)))
                  refine s_lit (vs := [.int .i64 0]) hst inX inX rfl rfl (by simp [Value.cells]) rfl (by omega) (by omega) ?_
                  clear hst; intro u w hst
                  refine nX ?_
                  repeat' (fail)
                  refine s_append (j := 0) hst evX evX SlIn.h rfl inX inX inX (by simp [Value.cells, Value.oneCell']) (by omega) (by omega) (by decide) ?_
                  clear hst; intro v' w hst
                  refine nX ?_
                  (try replace hst := nH hst)
                  replace hst := hst.drop
                  rw [cF_push] at hst
                  have hone := sl_one hst
                  repeat' (first | ((fail_if_success (go_big_may)); (go_step)) | (((with_reducible refine Sl.k_field ?_; (refine s_qt hst (qt_field rfl inX) ?_))) <;> (try refine nX ?_)) | (((((with_reducible refine Sl.k_store ?_; (refine s_st1 hst rfl BoxIn.h evX asX inX (by simp) ?_); clear hst; intro w hst)))) <;> (try refine nX ?_) <;> (try replace hst := nH hst)))
                  go_roundg j
                  case measure => omega
                  case rel => exact ⟨_, xs ++ [0], by simp only [List.length_append, List.length_singleton]; omega, by rw [← hvx, List.append_assoc, List.singleton_append, ← List.replicate_succ], hone, by rw [List.length_append, List.length_singleton]; exact hst⟩
                · obtain rfl : gk = 0 := by omega
                  rw [List.replicate_zero, List.append_nil] at hvx
                  have x2 := lit_int xs (fun x hx => in_i64 (gd0.vars x (hvx ▸ hx))) hst rfl rfl
                  clear hst; obtain ⟨S2, hS2, hst, hvv⟩ := x2
                  replace hvi := hvi.mono hS2
                  replace hin := hin.mono hS2
                  replace hgl := hgl.mono hS2
                  replace hvp : RSl S2 _ (startV (ins, (nv : Int), (np : Int), ()) inputs).pts := hvp.mono hS2
                  have hvs : RSl S2 (.slice none 0 0) (startV (ins, (nv : Int), (np : Int), ()) inputs).stack := nilSl
                  have hvn : RSl S2 (.slice none 0 0) (startV (ins, (nv : Int), (np : Int), ()) inputs).notes := nilSl
                  have hS3 := hS1.trans hS2
                  clear hS1 hS2 hu hg
                  have HVX := Lib.hid hvx
                  clear hvx
                  repeat' (first | ((fail_if_success (go_big_may)); (go_step)) | ((first | (with_reducible refine Sl.k_load ?_; (refine s_qt hst (qt_load rfl _ BoxIn.h inX rfl rfl) ?_)) | (with_reducible refine Sl.k_field ?_; (refine s_qt hst (qt_field rfl inX) ?_)) | (with_reducible refine Sl.k_call ?_; (refine s_qt hst (by exact qt_len evX asX inX) ?_))) <;> (try refine nX ?_)) | (with_reducible refine Sl.gate rfl ?_; (go_step)))
                  clear hlt2
                  rw [HVX.out] at hvv
                  clear HVX
                  have hs9 := hr0
                  clear hr0
                  go_loopg [] 3001 (fun g wr => (∃ (S' : Snap) (s : VS) (vv vs vp vn : Value), S.Le S' ∧ GoodV (ins, (nv : Int), (np : Int), ()) s ∧ 3001 ≤ g + s.steps ∧ runV (ins, (nv : Int), (np : Int), ()) gl g s = r0 ∧ RSl S' (.slice ai ni ci) ins ∧ RSl S' (.slice ag ng cg) gl ∧ RSl S' vv s.vars ∧ RSl S' vs s.stack ∧ RSl S' vp s.pts ∧ RSl S' vn s.notes ∧ St S' (.box bk (stC s vv vs vp vn 0) rstT :: .box bo zeroOut outT :: .box bx [.slice ai ni ci, .int .i64 (nv : Int), .int .i64 (np : Int)] codT :: M) wr) ∨ (∃ (S' : Snap) (s : VS) (vv vs vp vn : Value) (e : Nat), S.Le S' ∧ (e = 2 ∨ e = 20 ∨ e = 21) ∧ r0 = .err e ∧ vv.oneCell' = true ∧ vs.oneCell' = true ∧ vp.oneCell' = true ∧ vn.oneCell' = true ∧ St S' (.box bk (stC s vv vs vp vn (e : Int)) rstT :: .box bo zeroOut outT :: .box bx [.slice ai ni ci, .int .i64 (nv : Int), .int .i64 (np : Int)] codT :: M) wr))
                  case atStart => exact .inl ⟨S2, _, _, _, _, _, hS3, gd0, Nat.le_add_right _ _, hs9, hvi, hgl, hvv, hvs, hvp, hvn, hst⟩
                  case round =>
                    clear hst hvi hin hgl hvp hvv hvs hvn gd0 hs9 hS3
                    rcases hrel with ⟨S', s, vv, vs, vp, vn, hS1, gd, hk, hrun, hvi, hgl, hvv, hvs, hvp, hvn, hst⟩ | ⟨S', s, vv, vs, vp, vn, e, hS1, he, hre, k1, k2, k3, k4, hst⟩
                    · have hgs := gd.steps
                      obtain ⟨j, rfl⟩ : ∃ j, gk = j + 1 := ⟨gk - 1, by omega⟩
                      rw [runV] at hrun
                      have k1 := hvv.oneCell
                      have k2 := hvs.oneCell
                      have k3 := hvp.oneCell
                      have k4 := hvn.oneCell
                      cases hd : s.done with
                      | true =>
                        rw [hd, if_pos rfl] at hrun
                        subst hrun
                        rw [stC, hd] at hst
                        repeat' (first | (((with_reducible refine Sl.k_guard ?_; ((refine Sl.guard_no rfl ?_)))) <;> (try refine nX ?_)) | ((fail_if_success (go_big_may)); (go_step)) | ((first | (with_reducible refine Sl.k_load ?_; (refine s_qt hst (qt_load rfl _ BoxIn.h inX rfl rfl) ?_)) | (with_reducible refine Sl.k_field ?_; (refine s_qt hst (qt_field rfl inX) ?_))) <;> (try refine nX ?_)) | (with_reducible refine Sl.gate rfl ?_; (go_step)))
                        refine s_store (cs := outC vp vn s.fin (s.steps : Int)) hst rfl _ BoxIn.h inX evX rfl rfl (by show (vp.oneCell' && (vn.oneCell' && (true && (true && true)))) = true; rw [k3, k4]; rfl) (by simp) ?_
                        clear hst; intro w hst
                        (try replace hst := nH hst)
                        repeat' (((fail_if_success (go_big_may)); (go_step)))
                        refine ret_two rfl (rv_cell hst rfl _ BoxIn.h inX rfl rfl) (rv_tmp rfl) ?_; (try simp only [nth, List.drop_zero, List.drop_succ_cons, List.take_succ_cons, List.take_zero, vOf_true, vOf_false])
                        obtain ⟨ap, np', cp, rfl⟩ := rsl_form hvp
                        obtain ⟨an, nn, cn, rfl⟩ := rsl_form hvn
                        subst hk3
                        exact ⟨_, rfl, S', _, _, _, _, _, _, hS1, rfl, hvp, hvn, hst.drop.drop.drop⟩
                      | false =>
                        rw [hd, if_neg (by simp)] at hrun
                        have hsp := hS (M := .box bk (stC s vv vs vp vn 0) rstT :: .box bo zeroOut outT :: .box bx [.slice ai ni ci, .int .i64 (nv : Int), .int .i64 (np : Int)] codT :: M) wr hst hvi hvm hvv hvs hvp hvn gd hgl hgm (by show (nv : Int) ≤ 400; omega) (by show (np : Int) ≤ 8; omega)
                        have hsg := step_good (gl := gl) gd hd
                        rw [stC, hd] at hst
                        rw [stC, stVal, hd] at hsp
                        cases hsv : stepV (ins, (nv : Int), (np : Int), ()) gl s with
                        | ok s' =>
                          rw [hsv] at hsp hsg hrun
                          obtain ⟨hg1', hg2'⟩ := hsg
                          have hsp' : Rets _ _ _ _ (fun v w' => OkPost S' _ s' v w') := hsp
                          clear hsp hsv
                          repeat' (first | (((with_reducible refine Sl.k_guard ?_; ((refine Sl.guard_yes rfl ?_)))) <;> (try refine nX ?_)) | (((with_reducible refine Sl.k_call ?_; ((refine s_call (hsp') inX rfl ?_; clear hst; rintro v w ⟨S2, vv2, vs2, vp2, vn2, hS2, rfl, hvv2, hvs2, hvp2, hvn2, hst⟩)))) <;> (try refine nX ?_) <;> (try replace hst := nH hst)) | ((fail_if_success (go_big_may)); (go_step)) | ((first | (with_reducible refine Sl.k_load ?_; (refine s_qt hst (qt_load rfl _ BoxIn.h inX rfl rfl) ?_)) | (with_reducible refine Sl.k_field ?_; (refine s_qt hst (qt_field rfl inX) ?_))) <;> (try refine nX ?_)) | (with_reducible refine Sl.gate rfl ?_; (go_step)))
                          have q1 := hvv2.oneCell
                          have q2 := hvs2.oneCell
                          have q3 := hvp2.oneCell
                          have q4 := hvn2.oneCell
                          refine s_store (cs := stC s' vv2 vs2 vp2 vn2 0) hst rfl _ BoxIn.h inX evX rfl rfl (by show (true && (vv2.oneCell' && (vs2.oneCell' && (vp2.oneCell' && (vn2.oneCell' && (true && (true && (true && (true && (true && true)))))))))) = true; rw [q1, q2, q3, q4]; rfl) (by simp) ?_
                          clear hst; intro w hst
                          (try replace hst := nH hst)
                          repeat' (((fail_if_success (go_big_may)); (go_step)))
                          go_roundg j
                          case measure => omega
                          case rel => exact .inl ⟨S2, s', vv2, vs2, vp2, vn2, hS1.trans hS2, hg1', by omega, hrun, hvi.mono hS2, hgl.mono hS2, hvv2, hvs2, hvp2, hvn2, hst⟩
                        | err e =>
                          rw [hsv] at hsp hsg hrun
                          have hsp' : Rets _ _ _ _ (fun v w' => ErrPost S' _ e v w') := hsp
                          clear hsp hsv
                          repeat' (first | (((with_reducible refine Sl.k_guard ?_; ((refine Sl.guard_yes rfl ?_)))) <;> (try refine nX ?_)) | (((with_reducible refine Sl.k_call ?_; ((refine s_call (hsp') inX rfl ?_; clear hst; rintro v w ⟨S2, t, vv2, vs2, vp2, vn2, hS2, rfl, q1, q2, q3, q4, hst⟩)))) <;> (try refine nX ?_) <;> (try replace hst := nH hst)) | ((fail_if_success (go_big_may)); (go_step)) | ((first | (with_reducible refine Sl.k_load ?_; (refine s_qt hst (qt_load rfl _ BoxIn.h inX rfl rfl) ?_)) | (with_reducible refine Sl.k_field ?_; (refine s_qt hst (qt_field rfl inX) ?_))) <;> (try refine nX ?_)) | (with_reducible refine Sl.gate rfl ?_; (go_step)))
                          refine s_store (cs := stC t vv2 vs2 vp2 vn2 (e : Int)) hst rfl _ BoxIn.h inX evX rfl rfl (by show (true && (vv2.oneCell' && (vs2.oneCell' && (vp2.oneCell' && (vn2.oneCell' && (true && (true && (true && (true && (true && true)))))))))) = true; rw [q1, q2, q3, q4]; rfl) (by simp) ?_
                          clear hst; intro w hst
                          (try replace hst := nH hst)
                          repeat' (((fail_if_success (go_big_may)); (go_step)))
                          go_roundg j
                          case measure => omega
                          case rel => exact .inr ⟨S2, t, vv2, vs2, vp2, vn2, e, hS1.trans hS2, hsg, hrun.symm, q1, q2, q3, q4, hst⟩
                    · rw [stC] at hst
                      subst hre
                      subst hk3
                      have hne : (e : Int) ≠ 0 := by omega
                      repeat' (first | (((with_reducible refine Sl.k_guard ?_; (first | (refine Sl.guard_yes rfl ?_) | (refine Sl.guard_no rfl ?_) | (refine Sl.guard_cases rfl ?_ ?_ <;> intro hg <;> (simp only [hg, Bool.not_true, Bool.not_false])) <;> (try simp only [decide_eq_true_eq, decide_eq_false_iff_not, Bool.not_false, Bool.not_true, beq_iff_eq, beq_eq_false_iff_ne, bne_iff_ne, bne_eq_false_iff_eq, ne_eq] at hg)))) <;> (try refine nX ?_)) | ((fail_if_success (go_big_may)); (go_step)) | ((first | (with_reducible refine Sl.k_load ?_; (refine s_qt hst (qt_load rfl _ BoxIn.h inX rfl rfl) ?_)) | (with_reducible refine Sl.k_field ?_; (refine s_qt hst (qt_field rfl inX) ?_))) <;> (try refine nX ?_)) | (with_reducible refine Sl.gate rfl ?_; (go_step)))
                      all_goals
                        refine v_begin hst (by kernel_rfl) ?_; clear hst; intro ops; (try refine nX ?_)
                        (refine t_qt 0 rfl (by kernel_rfl) rfl rfl (qt_buildS (cs := zeroOut) inX inX (by kernel_rfl)) ?_) <;> (try refine nX ?_)
                        refine v_two 1 3 rfl rfl (by kernel_rfl) ?_ ?_
                        intro w hst K hK; refine s_qt hst (qt_field rfl inX) ?_; (try refine nX ?_); (try replace hst := nH hst); refine v_next hK hst (Snap.Le.refl _) (Suf.refl _) ?_; clear hst hK K; (try clear w); (try refine nX ?_)
                        refine v_two 2 3 rfl rfl (by kernel_rfl) ?_ ?_
                        intro w hst K hK; refine s_qt hst (qt_load rfl _ BoxIn.h inX rfl rfl) ?_; (try refine nX ?_); (try replace hst := nH hst); refine v_next hK hst (Snap.Le.refl _) (Suf.refl _) ?_; clear hst hK K; (try clear w); (try refine nX ?_)
                        refine v_one 3 rfl (by kernel_rfl) ?_; intro w hst K hK; (refine s_store hst rfl _ BoxIn.h inX evX rfl lenOk oneOk (by simp <;> omega) ?_); clear hst; intro w hst; (try refine nX ?_); (try replace hst := nH hst); refine v_last hK hst ?_; clear hst hK K; (try clear w); (try refine nX ?_)
                        (refine t_qt 4 rfl (by kernel_rfl) rfl rfl (by exact qt_assign evX) ?_) <;> (try refine nX ?_)
                        refine v_done (by kernel_rfl) ?_; clear ops; intro w hst; rotate_left
                        intro w hst K hK; (refine s_store hst rfl _ BoxIn.h inX evX rfl lenOk oneOk (by simp <;> omega) ?_); clear hst; intro w hst; (try refine nX ?_); (try replace hst := nH hst); refine v_last hK hst ?_; clear hst hK K; (try clear w); (try refine nX ?_)
                        refine v_one 2 rfl (by kernel_rfl) ?_; intro w hst K hK; refine s_qt hst (qt_load rfl _ BoxIn.h inX rfl rfl) ?_; (try refine nX ?_); (try replace hst := nH hst); refine v_next hK hst (Snap.Le.refl _) (Suf.refl _) ?_; clear hst hK K; (try clear w); (try refine nX ?_)
                        (refine t_qt 4 rfl (by kernel_rfl) rfl rfl (by exact qt_assign evX) ?_) <;> (try refine nX ?_)
                        refine v_done (by kernel_rfl) ?_; clear ops; intro w hst; rotate_left
                        intro w hst K hK; (refine s_store hst rfl _ BoxIn.h inX evX rfl lenOk oneOk (by simp <;> omega) ?_); clear hst; intro w hst; (try refine nX ?_); (try replace hst := nH hst); refine v_last hK hst ?_; clear hst hK K; (try clear w); (try refine nX ?_)
                        refine v_one 1 rfl (by kernel_rfl) ?_; intro w hst K hK; refine s_qt hst (qt_field rfl inX) ?_; (try refine nX ?_); (try replace hst := nH hst); refine v_next hK hst (Snap.Le.refl _) (Suf.refl _) ?_; clear hst hK K; (try clear w); (try refine nX ?_)
                        refine v_one 2 rfl (by kernel_rfl) ?_; intro w hst K hK; refine s_qt hst (qt_load rfl _ BoxIn.h inX rfl rfl) ?_; (try refine nX ?_); (try replace hst := nH hst); refine v_next hK hst (Snap.Le.refl _) (Suf.refl _) ?_; clear hst hK K; (try clear w); (try refine nX ?_)
                        (refine t_qt 4 rfl (by kernel_rfl) rfl rfl (by exact qt_assign evX) ?_) <;> (try refine nX ?_)
                        refine v_done (by kernel_rfl) ?_; clear ops; intro w hst; rotate_left
                        all_goals
                          repeat' (((fail_if_success (go_big_may)); (go_step)))
                          refine ret_two rfl (rv_cell hst rfl _ BoxIn.h inX rfl rfl) (rv_tmp rfl) ?_; (try simp only [nth, List.drop_zero, List.drop_succ_cons, List.take_succ_cons, List.take_zero, vOf_true, vOf_false])
                          exact ⟨_, rfl, S', _, _, _, _, _, _, hS1, rfl, nilSl, nilSl, hst.drop.drop.drop⟩
end Go.Proofs.YtmbdbfdlbbkclaaDoor
