/- Package vm: Run walked; the law's sanity function; what comes in. -/
import Derived.Test.YtmbdbfdlbbkclaaDoorCards
import Derived.Test.YtmbdbfdlbbkclaaDoorTie
import Derived.Deep.DeepHandedRow
import Derived.LaidMore
import Derived.Stop.LaidErr
import Derived.Stop.Joined
import Derived.Test.YtmbdbfdlbbkclaaDoorBb
import Derived.Test.YtmbdbfdlbbkclaaDoorBd
import Derived.Test.YtmbdbfdlbbkclaaDoorBc
import Derived.Test.YtmbdbfdlbbkclaaDoorBa

/- Package vm: the deferred closure of 'Run', walked. -/
--@hgp
--@ex0
namespace Go.Proofs.YtmbdbfdlbbkclaaDoor
set_option linter.unusedSimpArgs false
set_option linter.unusedVariables false
open Go.RowKit Go.Sl

abbrev outT : TypeId := 29
abbrev errT : TypeId := 30
abbrev zeroOut : List Value := [.slice none 0 0, .slice none 0 0, .int .i64 0, .int .i64 0]
theorem qt_as_no {X : TypeId} {S : Snap} {M : List Chunk} {l : List Value} {x : Operand} (hx : evF l x = .nilIface) : Qt Tryd.prog l (.typeAssert x X 49 true) S M (.tuple #[.agg #[.int .i64 0], .bool false]) := fun dst ty pos af w _ => by
  have hu : Tryd.prog.underlying 49 = some (.struct _) := Tryd.underlying49
  have hz := (ty49).run_zero w
  simp [execOp, hx, Instr.typeAssert, run_underlying hu, hz]
theorem qt_as_yes {X : TypeId} {S : Snap} {M : List Chunk} {l : List Value} {x : Operand} {v : Value} (hx : evF l x = .iface 49 v) : Qt Tryd.prog l (.typeAssert x X 49 true) S M (.tuple #[v, .bool true]) := fun dst ty pos af w _ => by
  have hu : Tryd.prog.underlying 49 = some (.struct _) := Tryd.underlying49
  simp [execOp, hx, Instr.typeAssert, run_underlying hu]
set_option maxRecDepth 4000 in
set_option maxHeartbeats 1000000 in
theorem rec_no {S M} (w : World) (hst : St S M w) (bo be : Nat) :
    CallsD Tryd.prog 17 #[.pointer (some ⟨bo, 0, none⟩), .pointer (some ⟨be, 0, none⟩)] .returning w fun e u' w' => e = .returned (.tuple #[]) ∧ u' = .returning ∧ St S M w' := by
  refine callsD_of_wpS Tryd.func17 rfl fun c₀ cs hu => ?_
  simp only [Tryd.ntmps17, List.size_toArray, List.length_cons, List.length_nil, Nat.reduceAdd, Nat.reduceSub, Array.replicate_succ, Array.replicate_zero, List.push_toArray, List.append_toArray, List.nil_append, List.cons_append]
  apply wpS_seq
  refine wpS_region_rec (v := .nilIface) (cs' := c₀ :: cs) (fun w => rfl) rfl (by simp [recoverD, hu]) ?_
  simp only [Act.put, List.setIfInBounds_toArray, List.set_cons_succ, List.set_cons_zero]
  refine s_qt hst (qt_as_no rfl) ?_
  (try refine nX ?_)
  repeat' (first | ((fail_if_success (go_big_may)); (go_step)) | (with_reducible refine Sl.gate rfl ?_; (go_step)) | ((((first | (with_reducible refine Sl.k_store ?_; (refine s_store hst rfl _ BoxIn.h inX evX rfl lenOk oneOk (by simp) ?_); clear hst; intro w hst) | (refine s_alloc hst inX ?_; clear hst; intro bk w hst)))) <;> (try refine nX ?_) <;> (try replace hst := nH hst)))
  simp only [Exit.thenS]
  refine wpS_of_wp ?_
  repeat' (((fail_if_success (go_big_may)); (go_step)))
  refine ⟨rfl, _, rfl, _, results_none rfl _ _ _, rfl, hu, hst.drop⟩
set_option maxRecDepth 4000 in
set_option maxHeartbeats 1000000 in
theorem rec_yes {S M} (w : World) (bo be : Nat) (hst : St S (.box be [.int .i64 0] errT :: .box bo zeroOut outT :: M) w) (n : Int) :
    CallsD Tryd.prog 17 #[.pointer (some ⟨bo, 0, none⟩), .pointer (some ⟨be, 0, none⟩)] (.panicking [failP n]) w fun e u' w' => e = .returned (.tuple #[]) ∧ u' = .panicking [{ failP n with recovered := true }] ∧ St S (.box be [.int .i64 n] errT :: .box bo zeroOut outT :: M) w' := by
  refine callsD_of_wpS Tryd.func17 rfl fun c₀ cs hu => ?_
  simp only [Tryd.ntmps17, List.size_toArray, List.length_cons, List.length_nil, Nat.reduceAdd, Nat.reduceSub, Array.replicate_succ, Array.replicate_zero, List.push_toArray, List.append_toArray, List.nil_append, List.cons_append]
  apply wpS_seq
  refine wpS_region_rec (v := .iface 49 (.agg #[.int .i64 n])) (cs' := { c₀ with mode := .panicking [{ failP n with recovered := true }] } :: cs) (fun w => rfl) rfl (by simp [recoverD, hu]) ?_
  simp only [Act.put, List.setIfInBounds_toArray, List.set_cons_succ, List.set_cons_zero]
  refine s_qt hst (qt_as_yes rfl) ?_
  (try refine nX ?_)
  repeat' (first | ((fail_if_success (go_big_may)); (go_step)) | (with_reducible refine Sl.gate rfl ?_; (go_step)) | ((((first | (with_reducible refine Sl.k_store ?_; (refine s_store hst rfl _ BoxIn.h inX evX rfl lenOk oneOk (by simp) ?_); clear hst; intro w hst) | (refine s_alloc hst inX ?_; clear hst; intro bk w hst)))) <;> (try refine nX ?_) <;> (try replace hst := nH hst)))
  simp only [Exit.thenS]
  have hQ : PanicQ (fun (e : Exit) (a : Act) (w : World) => bodyPostS Tryd.prog Tryd.f17 c₀ cs (fun e u' w' => e = Ending.returned (.tuple #[]) ∧ u' = .panicking [{ failP n with recovered := true }] ∧ St S (.box be [.int .i64 n] errT :: .box bo zeroOut outT :: M) w') e a ({ c₀ with mode := .panicking [{ failP n with recovered := true }] } :: cs) w) := fun c a d v w h => ⟨by rw [← put_defers a d v]; exact h.1, h.2⟩
  refine wpS_of_wp ?_
  repeat' (((fail_if_success (go_big_may)); (go_step)))
  refine p_begin hst (by kernel_rfl) ?_; clear hst; intro w hst; (try refine nX ?_)
  refine p_take 0 hQ rfl (by kernel_rfl) (by kernel_rfl) (by kernel_rfl) rfl (fun _ _ => qt_buildS inX inX rfl) ?_; (try refine nX ?_)
  refine p_take 1 hQ rfl (by kernel_rfl) (by kernel_rfl) (by kernel_rfl) rfl (fun _ _ => qt_field rfl inX) ?_; (try refine nX ?_)
  refine p_two 2 3 rfl rfl (by kernel_rfl) ?_ ?_
  · intro K hK
    repeat' (first | ((fail_if_success (go_big_may)); (go_step)) | (((with_reducible refine Sl.k_load ?_; (refine s_qt hst (qt_load rfl _ BoxIn.h inX rfl rfl) ?_))) <;> (try refine nX ?_)))
    refine hK _ _ _ ?_; clear hK K
    refine p_one 3 rfl (by kernel_rfl) ?_; intro K hK
    repeat' (first | ((fail_if_success (go_big_may)); (go_step)) | (((((with_reducible refine Sl.k_store ?_; (refine s_store hst rfl _ BoxIn.h inX evX rfl lenOk oneOk (by simp) ?_); clear hst; intro w hst)))) <;> (try refine nX ?_) <;> (try replace hst := nH hst)))
    refine hK _ _ _ ?_; clear hK K
    refine p_one 4 rfl (by kernel_rfl) ?_; intro K hK
    repeat' (first | ((fail_if_success (go_big_may)); (go_step)) | (((((with_reducible refine Sl.k_store ?_; (refine s_store hst rfl _ BoxIn.h inX evX rfl lenOk oneOk (by simp) ?_); clear hst; intro w hst)))) <;> (try refine nX ?_) <;> (try replace hst := nH hst)))
    refine hK _ _ _ ?_; clear hK K
    refine p_done (by kernel_rfl) ?_
    exact ⟨rfl, _, rfl, _, results_none rfl _ _ _, rfl, rfl, hst.drop⟩
  · intro K hK
    repeat' (first | ((fail_if_success (go_big_may)); (go_step)) | (((((with_reducible refine Sl.k_store ?_; (refine s_store hst rfl _ BoxIn.h inX evX rfl lenOk oneOk (by simp) ?_); clear hst; intro w hst)))) <;> (try refine nX ?_) <;> (try replace hst := nH hst)))
    refine hK _ _ _ ?_; clear hK K
    refine p_one 2 rfl (by kernel_rfl) ?_; intro K hK
    repeat' (first | ((fail_if_success (go_big_may)); (go_step)) | (((with_reducible refine Sl.k_load ?_; (refine s_qt hst (qt_load rfl _ BoxIn.h inX rfl rfl) ?_))) <;> (try refine nX ?_)))
    refine hK _ _ _ ?_; clear hK K
    refine p_one 4 rfl (by kernel_rfl) ?_; intro K hK
    repeat' (first | ((fail_if_success (go_big_may)); (go_step)) | (((((with_reducible refine Sl.k_store ?_; (refine s_store hst rfl _ BoxIn.h inX evX rfl lenOk oneOk (by simp) ?_); clear hst; intro w hst)))) <;> (try refine nX ?_) <;> (try replace hst := nH hst)))
    refine hK _ _ _ ?_; clear hK K
    refine p_done (by kernel_rfl) ?_
    exact ⟨rfl, _, rfl, _, results_none rfl _ _ _, rfl, rfl, hst.drop⟩
end Go.Proofs.YtmbdbfdlbbkclaaDoor

/- Package vm: 'Run', walked. -/
--@hgp
--@ex0
namespace Go.Proofs.YtmbdbfdlbbkclaaDoor
set_option linter.unusedSimpArgs false
set_option linter.unusedVariables false
open Go.RowKit Go.Sl

abbrev outC (vp vn : Value) (fin steps : Int) : List Value := [vp, vn, .int .i64 fin, .int .i64 steps]
abbrev RunPost (S : Snap) (M : List Chunk) (r : OutD × Nat) (v : Value) (w : World) : Prop :=
  ∃ S' vp vn, S.Le S' ∧ v = .tuple #[.agg (outC vp vn r.1.2.2.1 r.1.2.2.2.1).toArray, .int .i64 (r.2 : Int)] ∧ RSl S' vp r.1.1 ∧ RSl S' vn r.1.2.1 ∧ St S' M w
theorem nilSl {α : Type} [Rep α] {S : Snap} : RSl S (.slice none 0 0) ([] : List α) := .inl ⟨none, 0, rfl, rfl, by simp [maxLen]⟩

theorem rsl_form {α : Type} [Rep α] {S : Snap} {v : Value} {xs : List α} (h : RSl S v xs) : ∃ a n c, v = .slice a n c := by
  rcases h with ⟨ad, cap, rfl, _⟩ | ⟨b, o, cap, c, T, fz, rfl, _⟩ <;> exact ⟨_, _, _, rfl⟩
theorem rl_ints_eq {S : Snap} {c : List Value} {xs : List Int} (h : RL S c xs) : c = cF intC xs :=
  RL.flat (S := S) (S' := S) (fun a b => by rw [a.1, b.1]) h (rl_ints_mk fun x hx => by
    obtain ⟨i, hi, rfl⟩ := List.mem_iff_getElem.1 hx
    exact (h.at_ i hi).2)
theorem cF_map (xs : List Int) : cF intC xs = xs.map fun n => .int .i64 n := by
  induction xs with
  | nil => rfl
  | cons x xs ih => show _ :: cF intC xs = _; rw [ih]; rfl
theorem cF_drop (xs : List Int) (m : Nat) : (cF intC xs).drop (m * 1) = cF intC (xs.drop m) := by rw [cF_map, cF_map, Nat.mul_one, List.map_drop]
theorem cF_app (xs ys : List Int) : cF intC (xs ++ ys) = cF intC xs ++ cF intC ys := by rw [cF_map, cF_map, cF_map, List.map_append]
theorem perm_mc (n1 n2 x a b : Chunk) (r : List Chunk) : (n1 :: n2 :: x :: a :: b :: r).Perm (x :: a :: n1 :: b :: n2 :: r) :=
  (List.perm_middle (a := n1) (l₁ := [n2, x, a]) (l₂ := b :: r)).symm.trans (List.perm_middle (a := n2) (l₁ := [x, a, n1, b]) (l₂ := r)).symm
theorem perm_vn (x a b c d : Chunk) (r : List Chunk) : (x :: a :: b :: c :: d :: r).Perm (d :: x :: a :: b :: c :: r) := List.perm_middle (a := d) (l₁ := [x, a, b, c]) (l₂ := r)
theorem perm_vp (x a b c : Chunk) (r : List Chunk) : (x :: a :: b :: c :: r).Perm (c :: x :: a :: b :: r) := List.perm_middle (a := c) (l₁ := [x, a, b]) (l₂ := r)
theorem in_i64 {x : Int} (h : inR x) : I64 x := by unfold inR I64 at *; omega
theorem pt_i64 {x : Int} (h : 0 ≤ x ∧ x ≤ 3) : I64 x := by unfold I64; omega
theorem run_code {c : CodeD} {inputs : List Int} (h : validV c inputs = true) : ∃ (ins : List InsD) (nv np : Nat), c = (ins, (nv : Int), (np : Int), ()) ∧ inputs.length ≤ nv ∧ nv ≤ 400 ∧ np ≤ 8 := by
  obtain ⟨ins, v, p, u⟩ := c
  unfold validV at h
  simp only [Bool.and_eq_true, decide_eq_true_eq] at h
  obtain ⟨⟨⟨⟨h1, h2⟩, h3⟩, h4⟩, h5⟩ := h
  refine ⟨ins, v.toNat, p.toNat, ?_, by omega, by omega, by omega⟩
  rw [Int.toNat_of_nonneg h1, Int.toNat_of_nonneg (by omega)]

set_option maxRecDepth 8000 in
set_option maxHeartbeats 2000000 in
theorem run_c {S M} (w : World) (hst : St S M w) (hT : Tab S) (vi : Value) (c : CodeD) (hvi : RSl S vi c.1) (hvm : c.1.length ≤ 1048576) (vs : Value) (inputs : List Int) (hin : RSl S vs inputs) (him : inputs.length ≤ 1048576) (vg : Value) (gl : List Int) (hgl : RSl S vg gl) (hgm : gl.length ≤ 1048576) :
    Rets Tryd.prog 11 [codeVal vi c, vs, vg] w fun v w' => RunPost S M (vmM c inputs gl) v w' := by
  unfold Rets
  obtain ⟨z, hz⟩ : ∃ z, validV c inputs = z := ⟨_, rfl⟩
  have cv := fun (M : List Chunk) (w : World) (hst : St S M w) => (valid_c w hst vi c vs inputs hin him).eq hz
  unfold vmM
  rw [hz]
  have hi1 := hvi.oneCell
  have hs1 := hin.oneCell
  have hg1 := hgl.oneCell
  cases z with
  | false =>
    go_enter_defers Tryd.func11, Tryd.ntmps11
    repeat' (first | (((with_reducible refine Sl.k_call ?_; ((refine s_call (cv _ _ hst) inX rfl ?_; clear hst; rintro v w ⟨rfl, hst⟩)))) <;> (try refine nX ?_) <;> (try replace hst := nH hst)) | ((fail_if_success (go_big_may)); (go_step)) | (((with_reducible refine Sl.k_load ?_; (refine s_qt hst (qt_load rfl _ BoxIn.h inX rfl rfl) ?_))) <;> (try refine nX ?_)) | (with_reducible refine Sl.gate rfl ?_; (go_step)) | ((((first | (with_reducible refine Sl.k_store ?_; (refine s_store hst rfl _ BoxIn.h inX evX rfl lenOk oneOk (by simp) ?_); clear hst; intro w hst) | (refine s_box hst evX rfl ?_; clear hst; intro bx w hst) | (refine s_alloc hst inX ?_; clear hst; intro bk w hst)))) <;> (try refine nX ?_) <;> (try replace hst := nH hst)))
    simp only [bodyPostD]
    refine leaves_two rfl (rv_cell hst rfl _ BoxIn.h inX rfl rfl) (rv_cell hst rfl _ BoxIn.h inX rfl rfl) ?_
    exact ⟨_, rfl, S, _, _, Snap.Le.refl S, rfl, nilSl, nilSl, hst.drop.drop.drop⟩
  | true =>
    obtain ⟨r0, hr0⟩ : ∃ r, runV c gl 3001 (startV c inputs) = r := ⟨_, rfl⟩
    rw [hr0]
    obtain ⟨ag, ng, cg, rfl⟩ := rsl_form hgl
    obtain ⟨ins, nv, np, rfl, hl1, hl2, hl3⟩ := run_code hz
    go_enter_defers Tryd.func11, Tryd.ntmps11
    repeat' ((fail_if_success (with_reducible show Code.wp _ (Code.region 1 _ _) _ _ _)); first | ((fail_if_success (go_big_may)); (go_step)) | ((((first | (refine s_box hst evX rfl ?_; clear hst; intro bx w hst) | (refine s_alloc hst inX ?_; clear hst; intro bk w hst)))) <;> (try refine nX ?_) <;> (try replace hst := nH hst)))
    rename_i _ bo _ _ _ _ _
    repeat' (first | (((with_reducible refine Sl.k_call ?_; ((refine s_call (cv _ _ hst) inX rfl ?_; clear hst; rintro v w ⟨rfl, hst⟩)))) <;> (try refine nX ?_) <;> (try replace hst := nH hst)) | ((fail_if_success (go_big_may)); (go_step)) | (((with_reducible refine Sl.k_load ?_; (refine s_qt hst (qt_load rfl _ BoxIn.h inX rfl rfl) ?_))) <;> (try refine nX ?_)) | (with_reducible refine Sl.gate rfl ?_; (go_step)))
    refine s_defer rfl ?_
    (try refine nX ?_)
    repeat' (((fail_if_success (go_big_may)); (go_step)))
    refine v_begin hst (by kernel_rfl) ?_; clear hst; intro ops; (try refine nX ?_)
    (refine t_qt 0 rfl (by kernel_rfl) rfl rfl (by exact qt_load rfl _ BoxIn.h inX rfl rfl) ?_) <;> (try refine nX ?_)
    (refine t_qt 1 rfl (by kernel_rfl) rfl rfl (by exact qt_move evX) ?_) <;> (try refine nX ?_)
    (refine t_qt 2 rfl (by kernel_rfl) rfl rfl (by exact qt_field rfl inX) ?_) <;> (try refine nX ?_)
    (refine t_qt 3 rfl (by kernel_rfl) rfl rfl (by exact qt_load rfl _ BoxIn.h inX rfl rfl) ?_) <;> (try refine nX ?_)
    (refine t_qt 5 rfl (by kernel_rfl) rfl rfl (by exact qt_field rfl inX) ?_) <;> (try refine nX ?_)
    (refine t_qt 6 rfl (by kernel_rfl) rfl rfl (by exact qt_load rfl _ BoxIn.h inX rfl rfl) ?_) <;> (try refine nX ?_)
    refine v_two 4 7 rfl rfl (by kernel_rfl) ?_ ?_
    intro w hst K hK; refine s_make (n := nv) hst inX inX evX evX (by omega) (by omega) ?_; clear hst; intro v4 w hst; obtain ⟨a4, n4, c4, rfl⟩ := sl_form hst; (try refine nX ?_); (try replace hst := nH hst); refine v_next hK hst (Snap.Le.refl _) (Suf.cons (Suf.refl _)) ?_; clear hst hK K; (try clear w); (try refine nX ?_)
    refine v_one 7 rfl (by kernel_rfl) ?_; intro w hst K hK; refine s_make (n := np) hst inX inX evX evX (by omega) (by omega) ?_; clear hst; intro v7 w hst; obtain ⟨a7, n7, c7, rfl⟩ := sl_form hst; (try refine nX ?_); (try replace hst := nH hst); refine v_next hK hst (Snap.Le.refl _) (Suf.cons (Suf.refl _)) ?_; clear hst hK K; (try clear w); (try refine nX ?_)
    (refine t_qt 8 rfl (by kernel_rfl) rfl rfl (qt_buildS (cs := [.slice a7 n7 c7, .slice none 0 0, .int .i64 0, .int .i64 0]) inX inX (by kernel_rfl)) ?_) <;> (try refine nX ?_)
    (refine t_qt 9 rfl (by kernel_rfl) rfl rfl (qt_buildS (cs := [vi, .int .i64 (nv : Int), .int .i64 (np : Int), .slice ag ng cg, .int .i64 0, .slice a4 n4 c4, .slice none 0 0, .int .i64 0, .slice a7 n7 c7, .slice none 0 0, .int .i64 0, .int .i64 0, .bool false]) inX inX (by kernel_rfl)) ?_) <;> (try refine nX ?_)
    refine v_one 10 rfl (by kernel_rfl) ?_; intro w hst K hK; refine s_box hst evX rfl ?_; clear hst; intro b10 w hst; (try refine nX ?_); (try replace hst := nH hst); refine v_next hK hst (Snap.Le.refl _) (Suf.cons (Suf.refl _)) ?_; clear hst hK K; (try clear w); (try refine nX ?_)
    (refine t_qt 11 rfl (by kernel_rfl) rfl rfl (by exact qt_assign evX) ?_) <;> (try refine nX ?_)
    refine v_done (by kernel_rfl) ?_; clear ops; intro w hst; rotate_left
    intro w hst K hK; refine s_make (n := np) hst inX inX evX evX (by omega) (by omega) ?_; clear hst; intro v7 w hst; obtain ⟨a7, n7, c7, rfl⟩ := sl_form hst; (try refine nX ?_); (try replace hst := nH hst); refine v_next hK hst (Snap.Le.refl _) (Suf.cons (Suf.refl _)) ?_; clear hst hK K; (try clear w); (try refine nX ?_)
    (refine t_qt 8 rfl (by kernel_rfl) rfl rfl (qt_buildS (cs := [.slice a7 n7 c7, .slice none 0 0, .int .i64 0, .int .i64 0]) inX inX (by kernel_rfl)) ?_) <;> (try refine nX ?_)
    refine v_one 4 rfl (by kernel_rfl) ?_; intro w hst K hK; refine s_make (n := nv) hst inX inX evX evX (by omega) (by omega) ?_; clear hst; intro v4 w hst; obtain ⟨a4, n4, c4, rfl⟩ := sl_form hst; (try refine nX ?_); (try replace hst := nH hst); refine v_next hK hst (Snap.Le.refl _) (Suf.cons (Suf.refl _)) ?_; clear hst hK K; (try clear w); (try refine nX ?_)
    (refine t_qt 9 rfl (by kernel_rfl) rfl rfl (qt_buildS (cs := [vi, .int .i64 (nv : Int), .int .i64 (np : Int), .slice ag ng cg, .int .i64 0, .slice a4 n4 c4, .slice none 0 0, .int .i64 0, .slice a7 n7 c7, .slice none 0 0, .int .i64 0, .int .i64 0, .bool false]) inX inX (by kernel_rfl)) ?_) <;> (try refine nX ?_)
    refine v_one 10 rfl (by kernel_rfl) ?_; intro w hst K hK; refine s_box hst evX rfl ?_; clear hst; intro b10 w hst; (try refine nX ?_); (try replace hst := nH hst); refine v_next hK hst (Snap.Le.refl _) (Suf.cons (Suf.refl _)) ?_; clear hst hK K; (try clear w); (try refine nX ?_)
    (refine t_qt 11 rfl (by kernel_rfl) rfl rfl (by exact qt_assign evX) ?_) <;> (try refine nX ?_)
    refine v_done (by kernel_rfl) ?_; clear ops; intro w hst; rotate_left
    all_goals
      repeat' (first | (((with_reducible (obtain ⟨c0, hsrc, hRL⟩ := Src.data (P := Tryd.prog) hst hin (sl25).u; refine s_copy hst evX evX SlIn.h inX inX hsrc hRL.one (by omega) ?_; clear hst hsrc; intro w hst))) <;> (try refine nX ?_)) | ((fail_if_success (go_big_may)); (go_step)) | ((first | (with_reducible refine Sl.k_load ?_; (refine s_qt hst (qt_load rfl _ BoxIn.h inX rfl rfl) ?_)) | (with_reducible refine Sl.k_field ?_; (refine s_qt hst (qt_field rfl inX) ?_))) <;> (try refine nX ?_)) | (with_reducible refine Sl.gate rfl ?_; (go_step)))
      (try replace hst := nH hst)
      have hc0 : c0 = cF intC inputs := rl_ints_eq hRL
      have e1 : c0 ++ (List.replicate nv [Value.int IntKind.i64 0]).flatten.drop (inputs.length * 1) = cF intC (startV (ins, (nv : Int), (np : Int), ()) inputs).vars := by
        rw [hc0, show (List.replicate nv [Value.int IntKind.i64 0]).flatten = cF intC (List.replicate nv 0) from rep_cF intC 0 nv, cF_drop, List.drop_replicate]
        show _ = cF intC (inputs ++ List.replicate (nv - inputs.length) 0)
        rw [cF_app]
      have e2 : (List.replicate np [Value.int IntKind.i64 0]).flatten = cF intC (startV (ins, (nv : Int), (np : Int), ()) inputs).pts := rep_cF intC 0 np
      have e3 : (startV (ins, (nv : Int), (np : Int), ()) inputs).vars.length = nv := by
        show (inputs ++ List.replicate (nv - inputs.length) 0).length = nv
        rw [List.length_append, List.length_replicate]; omega
      have e4 : (startV (ins, (nv : Int), (np : Int), ()) inputs).pts.length = np := by
        show (List.replicate np (0 : Int)).length = np
        rw [List.length_replicate]
      rw [show Rep.z Int = 1 from rfl, e1, e2] at hst
      have hst0 : St S (MC b10 vi (.slice ag ng cg) (ins, (nv : Int), (np : Int), ()) (startV (ins, (nv : Int), (np : Int), ()) inputs) (.slice a4 n4 c4) (.slice none 0 0) (.slice a7 n7 c7) (.slice none 0 0) (.box bk [.int .i64 0] errT :: .box bo zeroOut outT :: .box bx [vi, .int .i64 (nv : Int), .int .i64 (np : Int)] 24 :: M)) w := by
        simp only [MC, mC]
        rw [e3, e4]
        first
        | exact ((hst.nil 3 1).nil 3 1).perm (perm_mc _ _ _ _ _ _)
        | exact (((hst.perm ((List.Perm.swap _ _ _).cons _)).nil 3 1).nil 3 1).perm (perm_mc _ _ _ _ _ _)
      clear hst e1 e2 e3 e4 hRL hc0
      have hst := hst0
      clear hst0
      have gd0 := start_good hz
      clear hz
      have hgo := hgl
      go_loopg [] 3001 (fun k wr => ∃ (s : VS) (vv vs' vp vn : Value), GoodV (ins, (nv : Int), (np : Int), ()) s ∧ 3001 ≤ k + s.steps ∧ runV (ins, (nv : Int), (np : Int), ()) gl k s = r0 ∧ St S (MC b10 vi (.slice ag ng cg) (ins, (nv : Int), (np : Int), ()) s vv vs' vp vn (.box bk [.int .i64 0] errT :: .box bo zeroOut outT :: .box bx [vi, .int .i64 (nv : Int), .int .i64 (np : Int)] 24 :: M)) wr)
      case atStart => exact ⟨_, _, _, _, _, gd0, by simp [startV], hr0, hst⟩
      case round =>
        clear hst
        obtain ⟨s, vv, vs', vp, vn, gd, hk, hrun, hst⟩ := hrel
        have hgs := gd.steps
        obtain ⟨j, rfl⟩ : ∃ j, gk = j + 1 := ⟨gk - 1, by omega⟩
        rw [runV] at hrun
        cases hd : s.done with
        | true =>
          rw [hd, if_pos rfl] at hrun
          subst hrun
          simp only [MC, mC] at hst
          rw [hd] at hst
          have ho1 := sl_onek hst (k := 3) rfl
          have ho2 := sl_onek hst (k := 4) rfl
          repeat' (first | ((fail_if_success (go_big_may)); (go_step)) | ((first | (with_reducible refine Sl.k_load ?_; (refine s_qt hst (qt_load rfl _ BoxIn.h inX rfl rfl) ?_)) | (with_reducible refine Sl.k_field ?_; (refine s_qt hst (qt_field rfl inX) ?_))) <;> (try refine nX ?_)) | (with_reducible refine Sl.gate rfl ?_; (go_step)))
          refine s_store (cs := outC vp vn s.fin (s.steps : Int)) hst rfl _ BoxIn.h inX evX rfl rfl (by show (vp.oneCell' && (vn.oneCell' && (true && (true && true)))) = true; rw [ho1, ho2]; rfl) (by simp) ?_
          clear hst; intro w hst
          (try replace hst := nH hst)
          repeat' (first | ((fail_if_success (go_big_may)); (go_step)) | (((((with_reducible refine Sl.k_store ?_; (refine s_store hst rfl _ BoxIn.h inX evX rfl lenOk oneOk (by simp) ?_); clear hst; intro w hst)))) <;> (try refine nX ?_) <;> (try replace hst := nH hst)))
          refine bodyD_ret ?_
          refine leaves_one inferInstance (by simp) (rec_no _ hst bo bk) fun w hst => ?_
          refine leaves_two rfl (rv_cell hst rfl _ BoxIn.h inX rfl rfl) (rv_cell hst rfl _ BoxIn.h inX rfl rfl) ?_
          obtain ⟨S1, hS1, hst, hvn⟩ := St.freeze (α := Int) (hst.perm (perm_vn _ _ _ _ _ _)) (rl_ints_mk fun x hx => in_i64 (gd.notes x hx)) rfl
          obtain ⟨S2, hS2, hst, hvp⟩ := St.freeze (α := Int) (hst.perm (perm_vp _ _ _ _ _)) (rl_ints_mk fun x hx => pt_i64 (gd.pts x hx)) rfl
          exact ⟨_, rfl, S2, vp, vn, hS1.trans hS2, rfl, hvp, hvn.mono hS2, hst.drop.drop.drop.drop.drop.drop⟩
        | false =>
          rw [hd, if_neg (by simp)] at hrun
          have hsp := step_p wr hst hT gd hd hgo hgm hvi hvm
          have hsg := step_good (gl := gl) gd hd
          cases hsv : stepV (ins, (nv : Int), (np : Int), ()) gl s with
          | ok s' =>
            rw [hsv] at hsp hsg hrun
            obtain ⟨hg1', hg2'⟩ := hsg
            have hsp' : Rets _ _ _ _ _ := hsp
            clear hsp
            simp only [MC, mC] at hst
            rw [hd] at hst
            repeat' ((fail_if_success (with_reducible show Code.wp _ (Code.region 7 _ _) _ _ _)); first | ((fail_if_success (go_big_may)); (go_step)) | ((first | (with_reducible refine Sl.k_load ?_; (refine s_qt hst (qt_load rfl _ BoxIn.h inX rfl rfl) ?_)) | (with_reducible refine Sl.k_field ?_; (refine s_qt hst (qt_field rfl inX) ?_))) <;> (try refine nX ?_)) | (with_reducible refine Sl.gate rfl ?_; (go_step)))
            repeat' (first | (((with_reducible refine Sl.k_call ?_; ((refine s_call (hsp') inX rfl ?_; clear hst; rintro v w ⟨rfl, vv2, vs2, vp2, vn2, hst⟩)))) <;> (try refine nX ?_) <;> (try replace hst := nH hst)) | ((fail_if_success (go_big_may)); (go_step)))
            go_roundg j
            case measure => omega
            case rel => exact ⟨s', vv2, vs2, vp2, vn2, hg1', by omega, hrun, hst⟩
          | err e =>
            rw [hsv] at hsp hsg hrun
            have hsp' : Pans _ _ _ _ _ _ := hsp
            clear hsp
            simp only [MC, mC] at hst
            rw [hd] at hst
            repeat' ((fail_if_success (with_reducible show Code.wp _ (Code.region 7 _ _) _ _ _)); first | ((fail_if_success (go_big_may)); (go_step)) | ((first | (with_reducible refine Sl.k_load ?_; (refine s_qt hst (qt_load rfl _ BoxIn.h inX rfl rfl) ?_)) | (with_reducible refine Sl.k_field ?_; (refine s_qt hst (qt_field rfl inX) ?_))) <;> (try refine nX ?_)) | (with_reducible refine Sl.gate rfl ?_; (go_step)))
            repeat' (first | (with_reducible refine Sl.k_call ?_; ((refine s_callP hsp' inX rfl ?_; clear hst; intro w hst; with_unfolding_all refine bodyD_panic ?_))) | ((fail_if_success (go_big_may)); (go_step)))
            have hr0' : VR.err e = r0 := hrun
            subst hr0'
            refine leaves_one inferInstance (by simp) (rec_yes _ bo bk hst (e : Int)) fun w hst => ?_
            refine leaves_two rfl (rv_cell hst rfl _ BoxIn.h inX rfl rfl) (rv_cell hst rfl _ BoxIn.h inX rfl rfl) ?_
            exact ⟨_, rfl, S, _, _, Snap.Le.refl S, rfl, nilSl, nilSl, hst.drop.drop.drop⟩
end Go.Proofs.YtmbdbfdlbbkclaaDoor

/- Package vm's statements: outcomes compared, what is small; the examples. -/
--@hgp
--@ex0
namespace Go.Proofs.YtmbdbfdlbbkclaaDoor
set_option linter.unusedSimpArgs false
set_option linter.unusedVariables false
open Go.RowKit Go.Sl

set_option maxRecDepth 4000 in
set_option maxHeartbeats 1000000 in
theorem ints_t {S M} (w : World) (hst : St S M w) (va vb : Value) (xs : List Int) (ha : RSl S va xs) (hb : RSl S vb xs) (hm : xs.length ≤ 1048576) :
    Rets Tryd.prog 15 [va, vb] w fun v w' => v = .bool true ∧ St S M w' := by
  unfold Rets
  go_enter Tryd.func15, Tryd.ntmps15
  repeat' (first | ((fail_if_success (go_big_may)); (go_step)) | (((with_reducible refine Sl.k_call ?_; (refine s_qt hst (by exact qt_len evX asX inX) ?_))) <;> (try refine nX ?_)) | (with_reducible refine Sl.gate rfl ?_; (go_step)))
  go_loopw [5] (fun v wr => ∃ k : Nat, k ≤ xs.length ∧ v = .int .i64 k ∧ St S M wr) (fun v _ => xs.length - (intOf v).toNat)
  case atStart => exact ⟨0, Nat.zero_le _, rfl, hst⟩
  case round =>
    clear hst
    obtain ⟨k, hk, rfl, hst⟩ := hrel
    by_cases hlt : k < xs.length
    · repeat' (first | ((fail_if_success (go_big_may)); (go_step)) | (((with_reducible refine Sl.k_call ?_; (refine s_qt hst (by exact qt_len evX asX inX) ?_))) <;> (try refine nX ?_)) | (with_reducible refine Sl.gate rfl ?_; (go_step)))
      refine region_quiet hst (by kernel_rfl) (by kernel_rfl) ?_
      repeat (((first | (with_reducible refine Sl.kq_load ?_; ((refine q_ex (qt_ldp_int evX asX inX) ?_; rintro v ⟨rfl, hI⟩))) | (with_reducible refine Sl.kq_index ?_; (((refine q_ex (qt_index evX asX rfl inX inX omX omX) ?_); rintro v hp; (try simp only [Int.toNat_natCast, Int.toNat_natCast_add_one, Int.reduceToNat] at hp)))) | (refine Sl.kq_plain rfl ?_; (refine q_qt (by first | exact qt_move evX | exact qt_neq rfl rfl) ?_))) <;> (try refine nX ?_)))
      refine q_nil ?_; clear hst; intro w hst
      repeat' (first | ((fail_if_success (go_big_may)); (go_step)) | (with_reducible refine Sl.gate rfl ?_; (go_step)))
      go_roundw
      case rel => exact ⟨k + 1, by omega, by go_num, hst⟩
      case measure => simp [intOf]; omega
    · repeat' (first | ((fail_if_success (go_big_may)); (go_step)) | (((with_reducible refine Sl.k_call ?_; (refine s_qt hst (by exact qt_len evX asX inX) ?_))) <;> (try refine nX ?_)) | (with_reducible refine Sl.gate rfl ?_; (go_step)))
      go_ret
      exact ⟨_, rfl, rfl, hst⟩
abbrev outVal (vp vn : Value) (o : OutD) : Value := .agg (outC vp vn o.2.2.1 o.2.2.2.1).toArray
set_option maxRecDepth 4000 in
set_option maxHeartbeats 1000000 in
theorem same_t {S M} (w : World) (hst : St S M w) (o : OutD) (vp vn vp' vn' : Value) (h1 : RSl S vp o.1) (h2 : RSl S vn o.2.1) (h3 : RSl S vp' o.1) (h4 : RSl S vn' o.2.1) (hm : o.1.length ≤ 1048576) (hm2 : o.2.1.length ≤ 1048576) :
    Rets Tryd.prog 13 [outVal vp vn o, outVal vp' vn' o] w fun v w' => v = .bool true ∧ St S M w' := by
  unfold Rets
  have k1 := h1.oneCell
  have k2 := h2.oneCell
  have k3 := h3.oneCell
  have k4 := h4.oneCell
  go_enter Tryd.func13, Tryd.ntmps13
  repeat' (first | (((with_reducible refine Sl.k_guard ?_; ((refine Sl.guard_yes rfl ?_)))) <;> (try refine nX ?_)) | (((with_reducible refine Sl.k_call ?_; (first | (refine s_call (ints_t _ hst vp vp' o.1 h1 h3 hm) inX rfl ?_; clear hst; rintro v w ⟨rfl, hst⟩) | (refine s_call (ints_t _ hst vn vn' o.2.1 h2 h4 hm2) inX rfl ?_; clear hst; rintro v w ⟨rfl, hst⟩)))) <;> (try refine nX ?_) <;> (try replace hst := nH hst)) | ((fail_if_success (go_big_may)); (go_step)) | ((first | (with_reducible refine Sl.k_load ?_; (refine s_qt hst (qt_load rfl _ BoxIn.h inX rfl rfl) ?_)) | (with_reducible refine Sl.k_field ?_; (refine s_qt hst (qt_field rfl inX) ?_))) <;> (try refine nX ?_)) | (with_reducible refine Sl.gate rfl ?_; (go_step)) | (((((refine s_box hst evX rfl ?_; clear hst; intro bx w hst)))) <;> (try refine nX ?_) <;> (try replace hst := nH hst)))
  go_ret
  exact ⟨_, rfl, rfl, hst.drop.drop⟩
def smallV (c : CodeD) (inputs gl : List Int) : Bool := decide ((c.1.length : Int) ≤ 200) && (decide ((inputs.length : Int) ≤ 20) && decide ((gl.length : Int) ≤ 20))
set_option maxRecDepth 4000 in
set_option maxHeartbeats 1000000 in
theorem small_c {S M} (w : World) (hst : St S M w) (vi : Value) (c : CodeD) (hvi : RSl S vi c.1) (hvm : c.1.length ≤ 1048576) (vs : Value) (inputs : List Int) (hin : RSl S vs inputs) (him : inputs.length ≤ 1048576) (vg : Value) (gl : List Int) (hgl : RSl S vg gl) (hgm : gl.length ≤ 1048576) :
    Rets Tryd.prog 10 [codeVal vi c, vs, vg] w fun v w' => v = .bool (smallV c inputs gl) ∧ St S M w' := by
  unfold Rets smallV
  have k1 := hvi.oneCell
  by_cases h1 : (c.1.length : Int) ≤ 200
  · by_cases h2 : (inputs.length : Int) ≤ 20
    · by_cases h3 : (gl.length : Int) ≤ 20
      all_goals
        go_enter Tryd.func10, Tryd.ntmps10
        repeat' (first | (((with_reducible refine Sl.k_guard ?_; ((refine Sl.guard_yes rfl ?_)))) <;> (try refine nX ?_)) | ((fail_if_success (go_big_may)); (go_step)) | ((first | (with_reducible refine Sl.k_load ?_; (refine s_qt hst (qt_load rfl _ BoxIn.h inX rfl rfl) ?_)) | (with_reducible refine Sl.k_field ?_; (refine s_qt hst (qt_field rfl inX) ?_)) | (with_reducible refine Sl.k_call ?_; (refine s_qt hst (by exact qt_len evX asX inX) ?_))) <;> (try refine nX ?_)) | (with_reducible refine Sl.gate rfl ?_; (go_step)) | (((((refine s_box hst evX rfl ?_; clear hst; intro bx w hst)))) <;> (try refine nX ?_) <;> (try replace hst := nH hst)))
        go_ret
        exact ⟨_, rfl, by simp [h1, h2, h3], hst.drop⟩
    · go_enter Tryd.func10, Tryd.ntmps10
      repeat' (first | go_skip | (((with_reducible refine Sl.k_guard ?_; ((refine Sl.guard_yes rfl ?_)))) <;> (try refine nX ?_)) | ((fail_if_success (go_big_may)); (go_step)) | ((first | (with_reducible refine Sl.k_load ?_; (refine s_qt hst (qt_load rfl _ BoxIn.h inX rfl rfl) ?_)) | (with_reducible refine Sl.k_field ?_; (refine s_qt hst (qt_field rfl inX) ?_)) | (with_reducible refine Sl.k_call ?_; (refine s_qt hst (by exact qt_len evX asX inX) ?_))) <;> (try refine nX ?_)) | (with_reducible refine Sl.gate rfl ?_; (go_step)) | (((((refine s_box hst evX rfl ?_; clear hst; intro bx w hst)))) <;> (try refine nX ?_) <;> (try replace hst := nH hst)))
      go_ret
      exact ⟨_, rfl, by simp [h1, h2], hst.drop⟩
  · go_enter Tryd.func10, Tryd.ntmps10
    repeat' (first | go_skip | ((fail_if_success (go_big_may)); (go_step)) | ((first | (with_reducible refine Sl.k_load ?_; (refine s_qt hst (qt_load rfl _ BoxIn.h inX rfl rfl) ?_)) | (with_reducible refine Sl.k_field ?_; (refine s_qt hst (qt_field rfl inX) ?_)) | (with_reducible refine Sl.k_call ?_; (refine s_qt hst (by exact qt_len evX asX inX) ?_))) <;> (try refine nX ?_)) | (with_reducible refine Sl.gate rfl ?_; (go_step)) | (((((refine s_box hst evX rfl ?_; clear hst; intro bx w hst)))) <;> (try refine nX ?_) <;> (try replace hst := nH hst)))
    go_ret
    exact ⟨_, rfl, by simp [h1], hst.drop⟩

theorem rl_ins {S : Snap} : ∀ {xs : List InsD}, (∀ x ∈ xs, I64 x.1 ∧ I64 x.2.1 ∧ I64 x.2.2.1) → RL S (cF insC xs) xs
  | [], _ => RL.nil
  | r :: xs, h => by
    obtain ⟨a, b, c⟩ := h r (.head _)
    have hr : Rep.R S (insC r) r := prod_mk (cs := [_]) ⟨rfl, a⟩ (prod_mk (cs := [_]) ⟨rfl, b⟩ (prod_mk (cs := [_]) ⟨rfl, c⟩ unit_mk))
    exact RL.append (RL.one_mk hr) (rl_ins (S := S) fun x hx => h x (.tail _ hx))
abbrev RunPostD (S : Snap) (M : List Chunk) (r : OutD × Nat) (v : Value) (w : World) : Prop :=
  ∃ S' a n k a' n' k', S.Le S' ∧ v = .tuple #[.agg (outC (.slice a n k) (.slice a' n' k') r.1.2.2.1 r.1.2.2.2.1).toArray, .int .i64 (r.2 : Int)] ∧ RSl S' (.slice a n k) r.1.1 ∧ RSl S' (.slice a' n' k') r.1.2.1 ∧ St S' M w
theorem run_d {S M} (w : World) (hst : St S M w) (hT : Tab S) (vi : Value) (c : CodeD) (hvi : RSl S vi c.1) (hvm : c.1.length ≤ 1048576) (vs : Value) (inputs : List Int) (hin : RSl S vs inputs) (him : inputs.length ≤ 1048576) (vg : Value) (gl : List Int) (hgl : RSl S vg gl) (hgm : gl.length ≤ 1048576) {r : OutD × Nat} (hr : vmM c inputs gl = r) :
    Rets Tryd.prog 11 [codeVal vi c, vs, vg] w fun v w' => RunPostD S M r v w' := by
  subst hr
  refine (run_c w hst hT vi c hvi hvm vs inputs hin him vg gl hgl hgm).mono fun v w' ⟨S', vp, vn, h1, h2, h3, h4, h5⟩ => ?_
  obtain ⟨a, n, k, rfl⟩ := rsl_form h3
  obtain ⟨a', n', k', rfl⟩ := rsl_form h4
  exact ⟨S', a, n, k, a', n', k', h1, h2, h3, h4, h5⟩
end Go.Proofs.YtmbdbfdlbbkclaaDoor

/- Package vm's statements: the examples of the sanity function, walked. -/
--@hgp
--@ex0
namespace Go.Proofs.YtmbdbfdlbbkclaaDoor
set_option linter.unusedSimpArgs false
set_option linter.unusedVariables false
open Go.RowKit Go.Sl

theorem ins_ok (xs : List InsD) (h : xs.all (fun x => decide (-9223372036854775808 ≤ x.1 ∧ x.1 ≤ 9223372036854775807) && (decide (-9223372036854775808 ≤ x.2.1 ∧ x.2.1 ≤ 9223372036854775807) && decide (-9223372036854775808 ≤ x.2.2.1 ∧ x.2.2.1 ≤ 9223372036854775807))) = true) : ∀ x ∈ xs, I64 x.1 ∧ I64 x.2.1 ∧ I64 x.2.2.1 := fun x hx => by
  have := List.all_eq_true.1 h x hx
  simp only [Bool.and_eq_true, decide_eq_true_eq] at this
  exact this
theorem ints_ok (xs : List Int) (h : xs.all (fun x => decide (-9223372036854775808 ≤ x ∧ x ≤ 9223372036854775807)) = true) : ∀ x ∈ xs, I64 x := fun x hx => by
  have := List.all_eq_true.1 h x hx
  simp only [decide_eq_true_eq] at this
  exact this
/-- A literal of instructions, taken as data. -/
theorem lit_ins {S : Snap} {M : List Chunk} {w : World} {v : Value} {n : Nat} {c : List Value} {T : TypeId} (xs : List InsD) (hx : ∀ x ∈ xs, I64 x.1 ∧ I64 x.2.1 ∧ I64 x.2.2.1) (h : St S (.sl v T 3 n c :: M) w) (hc : c = cF insC xs) (hn : n = xs.length) : ∃ S', S.Le S' ∧ St S' M w ∧ RSl S' v xs :=
  St.freeze (α := InsD) (hc ▸ h) (rl_ins hx) hn
theorem lit_int {S : Snap} {M : List Chunk} {w : World} {v : Value} {n : Nat} {c : List Value} {T : TypeId} (xs : List Int) (hx : ∀ x ∈ xs, I64 x) (h : St S (.sl v T 1 n c :: M) w) (hc : c = cF intC xs) (hn : n = xs.length) : ∃ S', S.Le S' ∧ St S' M w ∧ RSl S' v xs :=
  St.freeze (α := Int) (hc ▸ h) (rl_ints_mk hx) hn

set_option maxRecDepth 8000 in
set_option maxHeartbeats 4000000 in
theorem vsanity_c {S M} (w : World) (hst : St S M w) (hT : Tab S) : Rets Tryd.prog 9 [] w fun v w' => v = .bool true ∧ St S M w' := by
  unfold Rets
  go_enter Tryd.func9, Tryd.ntmps9
  repeat' (first | ((fail_if_success (go_big_may)); (go_step)) | (with_reducible refine Sl.gate rfl ?_; (go_step)))
  refine s_lit (vs := exA.1.map insVal) (cs := cF insC exA.1) hst inX inX rfl rfl (by simp [exA, exB, insD, Value.cells]) rfl (by omega) (by omega) ?_
  clear hst; intro u1 w hst
  obtain ⟨a1, n1, c1, rfl⟩ := sl_form hst
  have x1 := lit_ins exA.1 (ins_ok _ (by decide)) hst rfl rfl
  clear hst; obtain ⟨S1, hS1, hst, hA⟩ := x1
  replace hT := hT.mono hS1
  (try refine nX ?_)
  repeat' (first | ((fail_if_success (go_big_may)); (go_step)) | (((with_reducible refine Sl.k_load ?_; (refine s_qt hst (qt_load rfl _ BoxIn.h inX rfl rfl) ?_))) <;> (try refine nX ?_)) | (with_reducible refine Sl.gate rfl ?_; (go_step)) | ((((first | (with_reducible refine Sl.k_store ?_; (refine s_store hst rfl _ BoxIn.h inX evX rfl lenOk oneOk (by simp) ?_); clear hst; intro w hst) | (refine s_alloc hst inX ?_; clear hst; intro bk w hst)))) <;> (try refine nX ?_) <;> (try replace hst := nH hst)))
  have r2 := fun (M : List Chunk) (w : World) (hst : St S1 M w) => run_d w hst hT (.slice a1 n1 c1) exA hA (by decide) (.slice none 0 0) [] nilSl (by decide) (.slice none 0 0) [] nilSl (by decide) ex_a
  repeat' (first | (((with_reducible refine Sl.k_call ?_; ((refine s_call (r2 _ _ hst) inX rfl ?_; clear hst; rintro v w ⟨S2, pa2, pn2, pk2, qa2, qn2, qk2, hS2, rfl, hvp2, hvn2, hst⟩)))) <;> (try refine nX ?_) <;> (try replace hst := nH hst)) | ((fail_if_success (go_big_may)); (go_step)) | (with_reducible refine Sl.gate rfl ?_; (go_step)) | ((((first | (with_reducible refine Sl.k_store ?_; (refine s_store hst rfl _ BoxIn.h inX evX rfl lenOk oneOk (by simp) ?_); clear hst; intro w hst) | (refine s_alloc hst inX ?_; clear hst; intro bk w hst)))) <;> (try refine nX ?_) <;> (try replace hst := nH hst)))
  clear r2
  replace hT := hT.mono hS2
  replace hA := hA.mono hS2
  repeat' (fail)
  refine s_lit (vs := exB.1.map insVal) (cs := cF insC exB.1) hst inX inX rfl rfl (by simp [exA, exB, insD, Value.cells]) rfl (by omega) (by omega) ?_
  clear hst; intro u3 w hst
  obtain ⟨a3, n3, c3, rfl⟩ := sl_form hst
  have x3 := lit_ins exB.1 (ins_ok _ (by decide)) hst rfl rfl
  clear hst; obtain ⟨S3, hS3, hst, hB⟩ := x3
  replace hT := hT.mono hS3
  replace hA := hA.mono hS3
  replace hvp2 := hvp2.mono hS3
  replace hvn2 := hvn2.mono hS3
  (try refine nX ?_)
  repeat' (first | ((fail_if_success (go_big_may)); (go_step)) | (((with_reducible refine Sl.k_load ?_; (refine s_qt hst (qt_load rfl _ BoxIn.h inX rfl rfl) ?_))) <;> (try refine nX ?_)) | (with_reducible refine Sl.gate rfl ?_; (go_step)) | ((((first | (with_reducible refine Sl.k_store ?_; (refine s_store hst rfl _ BoxIn.h inX evX rfl lenOk oneOk (by simp) ?_); clear hst; intro w hst) | (refine s_alloc hst inX ?_; clear hst; intro bk w hst)))) <;> (try refine nX ?_) <;> (try replace hst := nH hst)))
  refine s_lit (vs := [.int .i64 1]) (cs := cF intC [1]) hst inX inX rfl rfl (by simp [exA, exB, insD, Value.cells]) rfl (by omega) (by omega) ?_
  clear hst; intro u4 w hst
  obtain ⟨a4, n4, c4, rfl⟩ := sl_form hst
  have x4 := lit_int [1] (ints_ok _ (by decide)) hst rfl rfl
  clear hst; obtain ⟨S4, hS4, hst, hI1⟩ := x4
  replace hT := hT.mono hS4
  replace hA := hA.mono hS4
  replace hvp2 := hvp2.mono hS4
  replace hvn2 := hvn2.mono hS4
  replace hB := hB.mono hS4
  (try refine nX ?_)
  have r5 := fun (M : List Chunk) (w : World) (hst : St S4 M w) => run_d w hst hT (.slice a3 n3 c3) exB hB (by decide) (.slice a4 n4 c4) [1] hI1 (by decide) (.slice none 0 0) [] nilSl (by decide) ex_b
  repeat' (first | (((with_reducible refine Sl.k_call ?_; ((refine s_call (r5 _ _ hst) inX rfl ?_; clear hst; rintro v w ⟨S5, pa5, pn5, pk5, qa5, qn5, qk5, hS5, rfl, hvp5, hvn5, hst⟩)))) <;> (try refine nX ?_) <;> (try replace hst := nH hst)) | ((fail_if_success (go_big_may)); (go_step)) | (((with_reducible refine Sl.k_load ?_; (refine s_qt hst (qt_load rfl _ BoxIn.h inX rfl rfl) ?_))) <;> (try refine nX ?_)) | (with_reducible refine Sl.gate rfl ?_; (go_step)) | ((((first | (with_reducible refine Sl.k_store ?_; (refine s_store hst rfl _ BoxIn.h inX evX rfl lenOk oneOk (by simp) ?_); clear hst; intro w hst) | (refine s_alloc hst inX ?_; clear hst; intro bk w hst)))) <;> (try refine nX ?_) <;> (try replace hst := nH hst)))
  clear r5
  replace hT := hT.mono hS5
  replace hA := hA.mono hS5
  replace hvp2 := hvp2.mono hS5
  replace hvn2 := hvn2.mono hS5
  replace hB := hB.mono hS5
  replace hI1 := hI1.mono hS5
  repeat' (fail)
  refine s_lit (vs := [.int .i64 1]) (cs := cF intC [1]) hst inX inX rfl rfl (by simp [exA, exB, insD, Value.cells]) rfl (by omega) (by omega) ?_
  clear hst; intro u6 w hst
  obtain ⟨a6, n6, c6, rfl⟩ := sl_form hst
  have x6 := lit_int [1] (ints_ok _ (by decide)) hst rfl rfl
  clear hst; obtain ⟨S6, hS6, hst, hI2⟩ := x6
  replace hT := hT.mono hS6
  replace hA := hA.mono hS6
  replace hvp2 := hvp2.mono hS6
  replace hvn2 := hvn2.mono hS6
  replace hB := hB.mono hS6
  replace hI1 := hI1.mono hS6
  replace hvp5 := hvp5.mono hS6
  replace hvn5 := hvn5.mono hS6
  (try refine nX ?_)
  repeat' (fail)
  refine s_lit (vs := [.int .i64 0]) (cs := cF intC [0]) hst inX inX rfl rfl (by simp [exA, exB, insD, Value.cells]) rfl (by omega) (by omega) ?_
  clear hst; intro u7 w hst
  obtain ⟨a7, n7, c7, rfl⟩ := sl_form hst
  have x7 := lit_int [0] (ints_ok _ (by decide)) hst rfl rfl
  clear hst; obtain ⟨S7, hS7, hst, hI3⟩ := x7
  replace hT := hT.mono hS7
  replace hA := hA.mono hS7
  replace hvp2 := hvp2.mono hS7
  replace hvn2 := hvn2.mono hS7
  replace hB := hB.mono hS7
  replace hI1 := hI1.mono hS7
  replace hvp5 := hvp5.mono hS7
  replace hvn5 := hvn5.mono hS7
  replace hI2 := hI2.mono hS7
  (try refine nX ?_)
  have r8 := fun (M : List Chunk) (w : World) (hst : St S7 M w) => run_d w hst hT (.slice a3 n3 c3) exB hB (by decide) (.slice a6 n6 c6) [1] hI2 (by decide) (.slice a7 n7 c7) [0] hI3 (by decide) ex_g
  repeat' (first | (((with_reducible refine Sl.k_call ?_; ((refine s_call (r8 _ _ hst) inX rfl ?_; clear hst; rintro v w ⟨S8, pa8, pn8, pk8, qa8, qn8, qk8, hS8, rfl, hvp8, hvn8, hst⟩)))) <;> (try refine nX ?_) <;> (try replace hst := nH hst)) | ((fail_if_success (go_big_may)); (go_step)) | (with_reducible refine Sl.gate rfl ?_; (go_step)) | ((((first | (with_reducible refine Sl.k_store ?_; (refine s_store hst rfl _ BoxIn.h inX evX rfl lenOk oneOk (by simp) ?_); clear hst; intro w hst) | (refine s_alloc hst inX ?_; clear hst; intro bk w hst)))) <;> (try refine nX ?_) <;> (try replace hst := nH hst)))
  clear r8
  replace hT := hT.mono hS8
  replace hA := hA.mono hS8
  replace hvp2 := hvp2.mono hS8
  replace hvn2 := hvn2.mono hS8
  replace hB := hB.mono hS8
  replace hI1 := hI1.mono hS8
  replace hvp5 := hvp5.mono hS8
  replace hvn5 := hvn5.mono hS8
  replace hI2 := hI2.mono hS8
  replace hI3 := hI3.mono hS8
  have r9 := fun (M : List Chunk) (w : World) (hst : St S8 M w) => run_d w hst hT (.slice none 0 0) ex0 nilSl (by decide) (.slice none 0 0) [] nilSl (by decide) (.slice none 0 0) [] nilSl (by decide) ex_0
  repeat' (first | (((with_reducible refine Sl.k_call ?_; ((refine s_call (r9 _ _ hst) inX rfl ?_; clear hst; rintro v w ⟨S9, pa9, pn9, pk9, qa9, qn9, qk9, hS9, rfl, hvp9, hvn9, hst⟩)))) <;> (try refine nX ?_) <;> (try replace hst := nH hst)) | ((fail_if_success (go_big_may)); (go_step)) | (((with_reducible refine Sl.k_load ?_; (refine s_qt hst (qt_load rfl _ BoxIn.h inX rfl rfl) ?_))) <;> (try refine nX ?_)) | (with_reducible refine Sl.gate rfl ?_; (go_step)) | ((((first | (with_reducible refine Sl.k_store ?_; (refine s_store hst rfl _ BoxIn.h inX evX rfl lenOk oneOk (by simp) ?_); clear hst; intro w hst) | (refine s_alloc hst inX ?_; clear hst; intro bk w hst)))) <;> (try refine nX ?_) <;> (try replace hst := nH hst)))
  clear r9
  replace hT := hT.mono hS9
  replace hA := hA.mono hS9
  replace hvp2 := hvp2.mono hS9
  replace hvn2 := hvn2.mono hS9
  replace hB := hB.mono hS9
  replace hI1 := hI1.mono hS9
  replace hvp5 := hvp5.mono hS9
  replace hvn5 := hvn5.mono hS9
  replace hI2 := hI2.mono hS9
  replace hI3 := hI3.mono hS9
  replace hvp8 := hvp8.mono hS9
  replace hvn8 := hvn8.mono hS9
  repeat' (fail)
  refine s_lit (vs := [.int .i64 1, .int .i64 2]) (cs := cF intC [1, 2]) hst inX inX rfl rfl (by simp [exA, exB, insD, Value.cells]) rfl (by omega) (by omega) ?_
  clear hst; intro u10 w hst
  obtain ⟨a10, n10, c10, rfl⟩ := sl_form hst
  have x10 := lit_int [1, 2] (ints_ok _ (by decide)) hst rfl rfl
  clear hst; obtain ⟨S10, hS10, hst, hI4⟩ := x10
  replace hT := hT.mono hS10
  replace hA := hA.mono hS10
  replace hvp2 := hvp2.mono hS10
  replace hvn2 := hvn2.mono hS10
  replace hB := hB.mono hS10
  replace hI1 := hI1.mono hS10
  replace hvp5 := hvp5.mono hS10
  replace hvn5 := hvn5.mono hS10
  replace hI2 := hI2.mono hS10
  replace hI3 := hI3.mono hS10
  replace hvp8 := hvp8.mono hS10
  replace hvn8 := hvn8.mono hS10
  replace hvp9 := hvp9.mono hS10
  replace hvn9 := hvn9.mono hS10
  (try refine nX ?_)
  have r11 := fun (M : List Chunk) (w : World) (hst : St S10 M w) => run_d w hst hT (.slice a3 n3 c3) exB hB (by decide) (.slice a10 n10 c10) [1, 2] hI4 (by decide) (.slice none 0 0) [] nilSl (by decide) ex_n
  repeat' (first | (((with_reducible refine Sl.k_guard ?_; ((refine Sl.guard_yes rfl ?_)))) <;> (try refine nX ?_)) | (((with_reducible refine Sl.k_call ?_; ((refine s_call (r11 _ _ hst) inX rfl ?_; clear hst; rintro v w ⟨S11, pa11, pn11, pk11, qa11, qn11, qk11, hS11, rfl, hvp11, hvn11, hst⟩)))) <;> (try refine nX ?_) <;> (try replace hst := nH hst)) | ((fail_if_success (go_big_may)); (go_step)) | (((with_reducible refine Sl.k_load ?_; (refine s_qt hst (qt_load rfl _ BoxIn.h inX rfl rfl) ?_))) <;> (try refine nX ?_)) | (with_reducible refine Sl.gate rfl ?_; (go_step)) | ((((first | (with_reducible refine Sl.k_store ?_; (refine s_store hst rfl _ BoxIn.h inX evX rfl lenOk oneOk (by simp) ?_); clear hst; intro w hst) | (refine s_alloc hst inX ?_; clear hst; intro bk w hst)))) <;> (try refine nX ?_) <;> (try replace hst := nH hst)))
  clear r11
  replace hT := hT.mono hS11
  replace hA := hA.mono hS11
  replace hvp2 := hvp2.mono hS11
  replace hvn2 := hvn2.mono hS11
  replace hB := hB.mono hS11
  replace hI1 := hI1.mono hS11
  replace hvp5 := hvp5.mono hS11
  replace hvn5 := hvn5.mono hS11
  replace hI2 := hI2.mono hS11
  replace hI3 := hI3.mono hS11
  replace hvp8 := hvp8.mono hS11
  replace hvn8 := hvn8.mono hS11
  replace hvp9 := hvp9.mono hS11
  replace hvn9 := hvn9.mono hS11
  replace hI4 := hI4.mono hS11
  repeat' (fail)
  refine s_lit (vs := [.int .i64 1]) (cs := cF intC [1]) hst inX inX rfl rfl (by simp [exA, exB, insD, Value.cells]) rfl (by omega) (by omega) ?_
  clear hst; intro u12 w hst
  obtain ⟨a12, n12, c12, rfl⟩ := sl_form hst
  have x12 := lit_int [1] (ints_ok _ (by decide)) hst rfl rfl
  clear hst; obtain ⟨S12, hS12, hst, hJ1⟩ := x12
  replace hT := hT.mono hS12
  replace hA := hA.mono hS12
  replace hvp2 := hvp2.mono hS12
  replace hvn2 := hvn2.mono hS12
  replace hB := hB.mono hS12
  replace hI1 := hI1.mono hS12
  replace hvp5 := hvp5.mono hS12
  replace hvn5 := hvn5.mono hS12
  replace hI2 := hI2.mono hS12
  replace hI3 := hI3.mono hS12
  replace hvp8 := hvp8.mono hS12
  replace hvn8 := hvn8.mono hS12
  replace hvp9 := hvp9.mono hS12
  replace hvn9 := hvn9.mono hS12
  replace hI4 := hI4.mono hS12
  replace hvp11 := hvp11.mono hS12
  replace hvn11 := hvn11.mono hS12
  (try refine nX ?_)
  repeat' (first | (((with_reducible refine Sl.k_guard ?_; ((refine Sl.guard_yes rfl ?_)))) <;> (try refine nX ?_)) | (((with_reducible refine Sl.k_call ?_; ((refine s_call (same_t _ hst ([], [1], 0, 5, ()) (.slice pa2 pn2 pk2) (.slice qa2 qn2 qk2) (.slice none 0 0) (.slice a12 n12 c12) hvp2 hvn2 nilSl hJ1 (by decide) (by decide)) inX rfl ?_; clear hst; rintro v w ⟨rfl, hst⟩)))) <;> (try refine nX ?_) <;> (try replace hst := nH hst)) | ((fail_if_success (go_big_may)); (go_step)) | (((with_reducible refine Sl.k_load ?_; (refine s_qt hst (qt_load rfl _ BoxIn.h inX rfl rfl) ?_))) <;> (try refine nX ?_)) | (with_reducible refine Sl.gate rfl ?_; (go_step)))
  refine s_lit (vs := [.int .i64 1]) (cs := cF intC [1]) hst inX inX rfl rfl (by simp [exA, exB, insD, Value.cells]) rfl (by omega) (by omega) ?_
  clear hst; intro u13 w hst
  obtain ⟨a13, n13, c13, rfl⟩ := sl_form hst
  have x13 := lit_int [1] (ints_ok _ (by decide)) hst rfl rfl
  clear hst; obtain ⟨S13, hS13, hst, hJ2⟩ := x13
  replace hT := hT.mono hS13
  replace hA := hA.mono hS13
  replace hvp2 := hvp2.mono hS13
  replace hvn2 := hvn2.mono hS13
  replace hB := hB.mono hS13
  replace hI1 := hI1.mono hS13
  replace hvp5 := hvp5.mono hS13
  replace hvn5 := hvn5.mono hS13
  replace hI2 := hI2.mono hS13
  replace hI3 := hI3.mono hS13
  replace hvp8 := hvp8.mono hS13
  replace hvn8 := hvn8.mono hS13
  replace hvp9 := hvp9.mono hS13
  replace hvn9 := hvn9.mono hS13
  replace hI4 := hI4.mono hS13
  replace hvp11 := hvp11.mono hS13
  replace hvn11 := hvn11.mono hS13
  replace hJ1 := hJ1.mono hS13
  (try refine nX ?_)
  repeat' (first | (((with_reducible refine Sl.k_guard ?_; ((refine Sl.guard_yes rfl ?_)))) <;> (try refine nX ?_)) | (((with_reducible refine Sl.k_call ?_; ((refine s_call (same_t _ hst ([1], [], 7, 3, ()) (.slice pa5 pn5 pk5) (.slice qa5 qn5 qk5) (.slice a13 n13 c13) (.slice none 0 0) hvp5 hvn5 hJ2 nilSl (by decide) (by decide)) inX rfl ?_; clear hst; rintro v w ⟨rfl, hst⟩)))) <;> (try refine nX ?_) <;> (try replace hst := nH hst)) | ((fail_if_success (go_big_may)); (go_step)) | (((with_reducible refine Sl.k_load ?_; (refine s_qt hst (qt_load rfl _ BoxIn.h inX rfl rfl) ?_))) <;> (try refine nX ?_)) | (with_reducible refine Sl.gate rfl ?_; (go_step)))
  refine s_lit (vs := [.int .i64 2]) (cs := cF intC [2]) hst inX inX rfl rfl (by simp [exA, exB, insD, Value.cells]) rfl (by omega) (by omega) ?_
  clear hst; intro u14 w hst
  obtain ⟨a14, n14, c14, rfl⟩ := sl_form hst
  have x14 := lit_int [2] (ints_ok _ (by decide)) hst rfl rfl
  clear hst; obtain ⟨S14, hS14, hst, hJ3⟩ := x14
  replace hT := hT.mono hS14
  replace hA := hA.mono hS14
  replace hvp2 := hvp2.mono hS14
  replace hvn2 := hvn2.mono hS14
  replace hB := hB.mono hS14
  replace hI1 := hI1.mono hS14
  replace hvp5 := hvp5.mono hS14
  replace hvn5 := hvn5.mono hS14
  replace hI2 := hI2.mono hS14
  replace hI3 := hI3.mono hS14
  replace hvp8 := hvp8.mono hS14
  replace hvn8 := hvn8.mono hS14
  replace hvp9 := hvp9.mono hS14
  replace hvn9 := hvn9.mono hS14
  replace hI4 := hI4.mono hS14
  replace hvp11 := hvp11.mono hS14
  replace hvn11 := hvn11.mono hS14
  replace hJ1 := hJ1.mono hS14
  replace hJ2 := hJ2.mono hS14
  (try refine nX ?_)
  repeat' (first | (((with_reducible refine Sl.k_guard ?_; ((refine Sl.guard_yes rfl ?_)))) <;> (try refine nX ?_)) | (((with_reducible refine Sl.k_call ?_; ((refine s_call (same_t _ hst ([2], [], 0, 3, ()) (.slice pa8 pn8 pk8) (.slice qa8 qn8 qk8) (.slice a14 n14 c14) (.slice none 0 0) hvp8 hvn8 hJ3 nilSl (by decide) (by decide)) inX rfl ?_; clear hst; rintro v w ⟨rfl, hst⟩)))) <;> (try refine nX ?_) <;> (try replace hst := nH hst)) | ((fail_if_success (go_big_may)); (go_step)) | (with_reducible refine Sl.gate rfl ?_; (go_step)))
  go_ret
  exact ⟨_, rfl, rfl, (St.weaken ((((((((((((((hS1).trans hS2).trans hS3).trans hS4).trans hS5).trans hS6).trans hS7).trans hS8).trans hS9).trans hS10).trans hS11).trans hS12).trans hS13).trans hS14) hst).drop.drop.drop.drop.drop.drop.drop⟩
end Go.Proofs.YtmbdbfdlbbkclaaDoor

/- Package vm: what is known of an outcome. -/
namespace Go.Proofs.YtmbdbfdlbbkclaaDoor
set_option linter.unusedSimpArgs false
set_option linter.unusedVariables false
open Go.RowKit Go.Sl

theorem smallV_of {c : CodeD} {inputs gl : List Int} (h : smallV c inputs gl = true) : c.1.length ≤ 200 ∧ inputs.length ≤ 20 ∧ gl.length ≤ 20 := by
  unfold smallV at h
  simp only [Bool.and_eq_true, decide_eq_true_eq] at h
  omega
theorem rsl_i64x {S : Snap} {v : Value} {xs : List Int} (h : RSl S v xs) : ∀ x ∈ xs, I64 x := by
  intro x hx
  obtain ⟨i, hi, rfl⟩ := List.mem_iff_getElem.1 hx
  rcases h with ⟨ad, cap, _, h, _⟩ | ⟨b, o, cap, c, T, fz, _, _, _, _, h⟩
  · subst h; simp at hi
  · exact (h.at_ i hi).2
theorem steps_i64 {c : CodeD} {inputs gl : List Int} {o : OutD} {e : Nat} (hr : vmM c inputs gl = (o, e)) (he : e = 0) : 1 ≤ o.2.2.2.1 ∧ o.2.2.2.1 ≤ 3000 := by
  have := vm_valid (c := c) (inputs := inputs) (gl := gl) (by rw [hr]; exact he)
  rw [hr] at this
  exact ⟨this.2.2.2.1, this.2.2.2.2.1⟩
theorem len_le {c : CodeD} {inputs gl : List Int} {o : OutD} {e : Nat} (hr : vmM c inputs gl = (o, e)) : o.1.length ≤ 1048576 ∧ o.2.1.length ≤ 1048576 := by
  by_cases he : e = 0
  · have hv := (vm_ok (c := c) (inputs := inputs) (gl := gl) (by rw [hr]; exact he)).1
    have := vm_valid (c := c) (inputs := inputs) (gl := gl) (by rw [hr]; exact he)
    rw [hr] at this
    unfold validV at hv
    simp only [Bool.and_eq_true, decide_eq_true_eq] at hv
    obtain ⟨⟨⟨⟨h1, h2⟩, h3⟩, h4⟩, h5⟩ := hv
    obtain ⟨_, _, a, b, d, f⟩ := this
    simp only at a b d f
    omega
  · have := vm_err (c := c) (inputs := inputs) (gl := gl) (by rw [hr]; exact he)
    rw [hr] at this
    simp only at this
    subst this
    exact ⟨by decide, by decide⟩
theorem vars_le {c : CodeD} {inputs gl : List Int} {o : OutD} {e : Nat} (hr : vmM c inputs gl = (o, e)) (he : e = 0) : 0 ≤ c.2.1 ∧ c.2.1 ≤ 400 := by
  have hv := (vm_ok (c := c) (inputs := inputs) (gl := gl) (by rw [hr]; exact he)).1
  unfold validV at hv
  simp only [Bool.and_eq_true, decide_eq_true_eq] at hv
  obtain ⟨⟨⟨⟨h1, h2⟩, h3⟩, h4⟩, h5⟩ := hv
  omega
end Go.Proofs.YtmbdbfdlbbkclaaDoor

/- Package vm: how what comes in is read; the table of the instructions. -/
namespace Go.Proofs.YtmbdbfdlbbkclaaDoor
set_option linter.unusedSimpArgs false
set_option linter.unusedVariables false
open Go.RowKit Go.Sl Go.ChangeShapes Go.WideShapes Go.ChangeAt

theorem own : ownKnob Tryd.prog.godebug = none := by kernel_rfl
theorem nil_of_trod {P : Program} {w : World} {base : Nat} {sp : Nat → Bool} {fuel : Nat} {t : TypeId} {ps rs : Array TypeId} {va : Bool} {v : Value} {q : List MemPlace}
    (ht : P.underlying t = some (.func ps rs va)) (h : DataW.trod (funcToken P) P w base sp true fuel t [v] = some (.nil, q)) : v = .nilFunc := by
  cases fuel with
  | zero => simp [DataW.trod] at h
  | succ n => cases v <;> simp [DataW.trod, ht] at h <;> rfl
theorem take_one {cs : List Value} {i : Nat} (h : i < cs.length) : (cs.drop (i * 1)).take 1 = [cs[i]] := by
  rw [Nat.mul_one, List.drop_eq_getElem_cons h]
  rfl
set_option maxRecDepth 20000 in
theorem tab_of {W : World} (h : laidMetH Tryd.prog [("bootchain/vm.instructions", Rows.laid_bootchain_vm_instructions)] W) : Tab (snapOf W) := by
  obtain ⟨g, t, cs, fuel, p, hg, ht, hv, hd⟩ := h.funcs (List.mem_singleton.2 rfl)
  obtain rfl := Option.some.inj ((show Tryd.prog.globalNamed "bootchain/vm.instructions" = some 0 by kernel_rfl).symm.trans hg)
  obtain rfl := Option.some.inj ((show (Tryd.prog.globals[0]?).map (·.type) = some 61 by kernel_rfl).symm.trans ht)
  obtain ⟨xs, m, _, hx, hl, hxl, hf⟩ := DataW.trod_array (arr61).u hd
  have hc1 : Tryd.prog.cellsOf 60 = 1 := by kernel_rfl
  have hc18 : Tryd.prog.cellsOf 61 = 18 := by kernel_rfl
  rw [hc18] at hl
  have hm := (DataW.agg.inj (congrArg Prod.fst hx)).symm
  have hcell : ∀ i (hi : i < cs.toList.length) (d : DataW (List UInt8)), (xs.map (·.1))[i]? = some d → ∃ q, DataW.trod (funcToken Tryd.prog) Tryd.prog W 0 (fun _ => true) true m 60 [cs.toList[i]] = some (d, q) := fun i hi d hd => by
    have h1 := hf i (by omega)
    rw [hc1, take_one hi] at h1
    rw [List.getElem?_map] at hd
    cases e : xs[i]? with
    | none => rw [e] at hd; cases hd
    | some y => rw [e] at hd h1; cases hd; exact ⟨y.2, h1⟩
  rw [hm] at hcell
  have hU := Tryd.underlying60
  have k0 : cs.toList[0]'(by omega) = .nilFunc := let ⟨q, hq⟩ := hcell 0 (by omega) _ rfl; nil_of_trod hU hq
  have k1 : cs.toList[1]'(by omega) = .func (.func 46) #[] #[] := let ⟨q, hq⟩ := hcell 1 (by omega) _ rfl; func_of_trod (f0 := 46) hU (by kernel_rfl) hq
  have k2 : cs.toList[2]'(by omega) = .func (.func 47) #[] #[] := let ⟨q, hq⟩ := hcell 2 (by omega) _ rfl; func_of_trod (f0 := 47) hU (by kernel_rfl) hq
  have k3 : cs.toList[3]'(by omega) = .func (.func 48) #[] #[] := let ⟨q, hq⟩ := hcell 3 (by omega) _ rfl; func_of_trod (f0 := 48) hU (by kernel_rfl) hq
  have k4 : cs.toList[4]'(by omega) = .func (.func 49) #[] #[] := let ⟨q, hq⟩ := hcell 4 (by omega) _ rfl; func_of_trod (f0 := 49) hU (by kernel_rfl) hq
  have k5 : cs.toList[5]'(by omega) = .func (.func 49) #[] #[] := let ⟨q, hq⟩ := hcell 5 (by omega) _ rfl; func_of_trod (f0 := 49) hU (by kernel_rfl) hq
  have k6 : cs.toList[6]'(by omega) = .func (.func 49) #[] #[] := let ⟨q, hq⟩ := hcell 6 (by omega) _ rfl; func_of_trod (f0 := 49) hU (by kernel_rfl) hq
  have k7 : cs.toList[7]'(by omega) = .func (.func 49) #[] #[] := let ⟨q, hq⟩ := hcell 7 (by omega) _ rfl; func_of_trod (f0 := 49) hU (by kernel_rfl) hq
  have k8 : cs.toList[8]'(by omega) = .func (.func 49) #[] #[] := let ⟨q, hq⟩ := hcell 8 (by omega) _ rfl; func_of_trod (f0 := 49) hU (by kernel_rfl) hq
  have k9 : cs.toList[9]'(by omega) = .func (.func 49) #[] #[] := let ⟨q, hq⟩ := hcell 9 (by omega) _ rfl; func_of_trod (f0 := 49) hU (by kernel_rfl) hq
  have k10 : cs.toList[10]'(by omega) = .func (.func 49) #[] #[] := let ⟨q, hq⟩ := hcell 10 (by omega) _ rfl; func_of_trod (f0 := 49) hU (by kernel_rfl) hq
  have k11 : cs.toList[11]'(by omega) = .func (.func 50) #[] #[] := let ⟨q, hq⟩ := hcell 11 (by omega) _ rfl; func_of_trod (f0 := 50) hU (by kernel_rfl) hq
  have k12 : cs.toList[12]'(by omega) = .func (.func 51) #[] #[] := let ⟨q, hq⟩ := hcell 12 (by omega) _ rfl; func_of_trod (f0 := 51) hU (by kernel_rfl) hq
  have k13 : cs.toList[13]'(by omega) = .func (.func 52) #[] #[] := let ⟨q, hq⟩ := hcell 13 (by omega) _ rfl; func_of_trod (f0 := 52) hU (by kernel_rfl) hq
  have k14 : cs.toList[14]'(by omega) = .func (.func 53) #[] #[] := let ⟨q, hq⟩ := hcell 14 (by omega) _ rfl; func_of_trod (f0 := 53) hU (by kernel_rfl) hq
  have k15 : cs.toList[15]'(by omega) = .func (.func 54) #[] #[] := let ⟨q, hq⟩ := hcell 15 (by omega) _ rfl; func_of_trod (f0 := 54) hU (by kernel_rfl) hq
  have k16 : cs.toList[16]'(by omega) = .func (.func 54) #[] #[] := let ⟨q, hq⟩ := hcell 16 (by omega) _ rfl; func_of_trod (f0 := 54) hU (by kernel_rfl) hq
  have k17 : cs.toList[17]'(by omega) = .func (.func 55) #[] #[] := let ⟨q, hq⟩ := hcell 17 (by omega) _ rfl; func_of_trod (f0 := 55) hU (by kernel_rfl) hq
  have hcs : cs.toList = tabV.map (·.v) := by
    apply List.ext_getElem (by rw [hl]; rfl)
    intro i h1 h2
    have hi : i < 18 := by omega
    rw [List.getElem_map]
    have hcase : i = 0 ∨ i = 1 ∨ i = 2 ∨ i = 3 ∨ i = 4 ∨ i = 5 ∨ i = 6 ∨ i = 7 ∨ i = 8 ∨ i = 9 ∨ i = 10 ∨ i = 11 ∨ i = 12 ∨ i = 13 ∨ i = 14 ∨ i = 15 ∨ i = 16 ∨ i = 17 := by omega
    rcases hcase with rfl | rfl | rfl | rfl | rfl | rfl | rfl | rfl | rfl | rfl | rfl | rfl | rfl | rfl | rfl | rfl | rfl | rfl
    · exact k0
    · exact k1
    · exact k2
    · exact k3
    · exact k4
    · exact k5
    · exact k6
    · exact k7
    · exact k8
    · exact k9
    · exact k10
    · exact k11
    · exact k12
    · exact k13
    · exact k14
    · exact k15
    · exact k16
    · exact k17
  unfold World.var? at hv
  rw [show Tryd.prog.globalNamed "bootchain/vm.instructions" = some 0 by kernel_rfl] at hv
  simp only [Option.bind_some] at hv
  split at hv
  · rename_i c T fz hc
    obtain rfl := Option.some.inj hv
    refine ⟨0, 0, _, T, fz, rfl, hc, ?_⟩
    have hz : Rep.z (Arr Fv 18) = 18 := rfl
    rw [hz, List.drop_zero, List.take_of_length_le (by omega), hcs]
    refine ⟨rfl, rfl, fun j x hx => ?_⟩
    have hz2 : Rep.z Fv = 1 := rfl
    have hj : j < tabV.length := (List.getElem?_eq_some_iff.1 hx).1
    rw [hz2, take_one (by rw [List.length_map]; exact hj), List.getElem_map]
    obtain ⟨_, rfl⟩ := List.getElem?_eq_some_iff.1 hx
    refine ⟨rfl, ?_⟩
    have hall : tabV.all (fun x => x.v.oneCell') = true := by kernel_rfl
    exact List.all_eq_true.1 hall _ (List.getElem_mem hj)
  · cases hv

/-- A world for the witness: the settled one, the table laid. -/
def layCells (cs : List Value) : Obj → Obj
  | .cells _ t frozen => .cells cs.toArray t frozen
  | o => o
noncomputable def laidWorld (os : Os) (is : Array Value) : World :=
  { World.holding Tryd.prog os ⟨#[], is, []⟩ with heap := (World.holding Tryd.prog os ⟨#[], is, []⟩).heap.modify 0 (layCells (tabV.map (·.v))) }

set_option maxRecDepth 20000 in
theorem open_u16 {H : Type} {enc : TypeId × Value → H} {W : World} {base : Nat} {v : Value} {d : DataW H} {p : List MemPlace} (hv : Value.okWide Tryd.prog W .any base 34 v) (h : DataW.Trod enc Tryd.prog W 0 (fun _ => true) true 34 v d p) :
    ∃ n : Nat, v = .int .u16 (n : Int) ∧ n ≤ 65535 := by
  obtain ⟨n, rfl, _, _, wf⟩ := open_int Tryd.underlying34 hv h
  have hn : 0 ≤ n ∧ n ≤ 65535 := by simpa [Lit.wf, IntKind.min, IntKind.max, IntKind.signed, IntKind.bits, I64] using wf
  exact ⟨n.toNat, by rw [Int.toNat_of_nonneg hn.1], by omega⟩
end Go.Proofs.YtmbdbfdlbbkclaaDoor

/- Package vm: how code, lists of numbers and the laws' structs are read. -/
namespace Go.Proofs.YtmbdbfdlbbkclaaDoor
set_option linter.unusedSimpArgs false
set_option linter.unusedVariables false
open Go.RowKit Go.Sl Go.ChangeShapes Go.WideShapes Go.ChangeAt

/-- A number of two bytes, as it lies. -/
structure W16 where
  n : Nat
instance : Rep W16 where
  z := 1
  agg := false
  R _ cs x := cs = [.int .u16 (x.n : Int)] ∧ x.n ≤ 65535
  mono _ h := h
  len h := by rw [h.1]; rfl
  one h := by rw [h.1]; intro u hu; simp at hu; subst hu; rfl
  z1 _ := rfl
instance : Siz W16 := ⟨fun _ => 1⟩
theorem opens_w16 {P : Program} {T : TypeId} (h : P.underlying T = some (.int .u16)) : Opens P T W16 := ⟨fun hx => by
  obtain ⟨n, rfl, rfl, hw⟩ := DataW.trod_int h hx
  have : 0 ≤ n ∧ n ≤ 65535 := by simpa [Lit.wf, IntKind.min, IntKind.max, IntKind.signed, IntKind.bits] using hw
  refine ⟨⟨n.toNat⟩, ⟨?_, by show n.toNat ≤ 65535; omega⟩, by simp [Rows.uptoBulk, Siz.siz]⟩
  show [Value.int .u16 n] = [Value.int .u16 ((n.toNat : Nat) : Int)]
  rw [Int.toNat_of_nonneg this.1]⟩

abbrev GIn := CodeD × List Int × List Int × W16 × Unit
abbrev UIn := CodeD × List InsD × UInt8 × List Int × List Int × Unit
instance opI : Opens Tryd.prog 3 Int := opens_int (by kernel_rfl)
instance opB : Opens Tryd.prog 5 UInt8 := opens_u8 (by kernel_rfl)
instance opW : Opens Tryd.prog 34 W16 := opens_w16 (by kernel_rfl)
instance opLI : Opens Tryd.prog 25 (List Int) := opens_list (sl25) (ty3) (by decide)
instance opIns : Opens Tryd.prog 42 InsD := opens_struct Tryd.underlying42 (by kernel_rfl)
  (openFs_cons rfl (by kernel_rfl) (ob := openFs_cons rfl (by kernel_rfl) (ob := openFs_cons rfl (by kernel_rfl) (ob := openFs_nil))))
instance opLIns : Opens Tryd.prog 22 (List InsD) := opens_list (sl22) (ty42) (by decide)
instance opCode : Opens Tryd.prog 24 CodeD := opens_struct Tryd.underlying24 (by kernel_rfl)
  (openFs_cons rfl (by kernel_rfl) (ob := openFs_cons rfl (by kernel_rfl) (ob := openFs_cons rfl (by kernel_rfl) (ob := openFs_nil))))
instance opGIn : Opens Tryd.prog 36 GIn := opens_struct Tryd.underlying36 (by kernel_rfl)
  (openFs_cons rfl (by kernel_rfl) (ob := openFs_cons rfl (by kernel_rfl) (ob := openFs_cons rfl (by kernel_rfl) (ob := openFs_cons rfl (by kernel_rfl) (ob := openFs_nil)))))
instance opUIn : Opens Tryd.prog 39 UIn := opens_struct Tryd.underlying39 (by kernel_rfl)
  (openFs_cons rfl (by kernel_rfl) (ob := openFs_cons rfl (by kernel_rfl) (ob := openFs_cons rfl (by kernel_rfl) (ob := openFs_cons rfl (by kernel_rfl) (ob := openFs_cons rfl (by kernel_rfl) (ob := openFs_nil))))))

theorem sum_ge {α : Type} [Siz α] {xs : List α} (h : ∀ x ∈ xs, 1 ≤ Siz.siz x) : xs.length ≤ (xs.map Siz.siz).sum := by
  induction xs with
  | nil => simp
  | cons a l ih =>
    have := ih fun x hx => h x (.tail _ hx)
    have := h a (.head _)
    simp only [List.length_cons, List.map_cons, List.sum_cons]; omega
theorem siz_ints (xs : List Int) : xs.length + 1 ≤ Siz.siz xs := by
  have := sum_ge (xs := xs) fun x _ => Nat.le_refl 1
  show xs.length + 1 ≤ (xs.map Siz.siz).sum + 1
  omega
theorem siz_ins (xs : List InsD) : xs.length + 1 ≤ Siz.siz xs := by
  have := sum_ge (xs := xs) fun x _ => by show 1 ≤ 1 + (1 + (1 + 0)); omega
  show xs.length + 1 ≤ (xs.map Siz.siz).sum + 1
  omega
theorem siz_prod {α β : Type} [Siz α] [Siz β] (x : α × β) : Siz.siz x = Siz.siz x.1 + Siz.siz x.2 := rfl
theorem prod_inv {α β : Type} [Rep α] [Rep β] {S : Snap} {cs : List Value} {x : α × β} (h : Rep.R S cs x) : ∃ a b, cs = a ++ b ∧ Rep.R S a x.1 ∧ Rep.R S b x.2 :=
  ⟨_, _, (List.take_append_drop _ cs).symm, h.2.1, h.2.2⟩
theorem code_cells {S : Snap} {cs : List Value} {c : CodeD} (h : Rep.R S cs c) : ∃ vi, cs = [vi, .int .i64 c.2.1, .int .i64 c.2.2.1] ∧ RSl S vi c.1 := by
  obtain ⟨a, b, rfl, ⟨vi, rfl, h1⟩, k1⟩ := prod_inv h
  obtain ⟨a, b, rfl, ⟨rfl, _⟩, k2⟩ := prod_inv k1
  obtain ⟨a, b, rfl, ⟨rfl, _⟩, rfl⟩ := prod_inv k2
  exact ⟨vi, rfl, h1⟩

set_option maxRecDepth 20000 in
theorem open_is {H : Type} {enc : TypeId × Value → H} {W : World} {base : Nat} {v : Value} {d : DataW H} {p : List MemPlace} (hv : Value.okWide Tryd.prog W .any base 25 v) (h : DataW.Trod enc Tryd.prog W 0 (fun _ => true) true 25 v d p) (hk : Rows.uptoBulk d ≤ 1048576) :
    ∃ xs : List Int, RSl (snapOf W) v xs ∧ xs.length ≤ 1048576 := by
  obtain ⟨a, n, c, rfl⟩ := okWide_slice Tryd.underlying25 hv
  obtain ⟨y, ⟨v', e, hy⟩, hs⟩ := open_arg (α := List Int) h
  obtain rfl : v' = .slice a n c := by simpa [Value.cells] using e.symm
  have := siz_ints y
  exact ⟨y, hy, by omega⟩
set_option maxRecDepth 20000 in
theorem open_code {H : Type} {enc : TypeId × Value → H} {W : World} {base : Nat} {v : Value} {d : DataW H} {p : List MemPlace} (hv : Value.okWide Tryd.prog W .any base 24 v) (h : DataW.Trod enc Tryd.prog W 0 (fun _ => true) true 24 v d p) (hk : Rows.uptoBulk d ≤ 1048576) :
    ∃ (vi : Value) (c : CodeD), v = codeVal vi c ∧ RSl (snapOf W) vi c.1 ∧ c.1.length ≤ 1048576 := by
  obtain ⟨cs, rfl, _⟩ := okWide_struct Tryd.underlying24 hv
  obtain ⟨y, hy, hs⟩ := open_arg (α := CodeD) h
  have hR : Rep.R (snapOf W) cs.toList y := hy
  obtain ⟨vi, e, hi⟩ := code_cells hR
  have := siz_ins y.1
  rw [siz_prod] at hs
  exact ⟨vi, y, by show Value.agg cs = Value.agg _; congr 1; apply Array.ext'; exact e, hi, by omega⟩
set_option maxRecDepth 20000 in
theorem open_gin {H : Type} {enc : TypeId × Value → H} {W : World} {base : Nat} {v : Value} {d : DataW H} {p : List MemPlace} (hv : Value.okWide Tryd.prog W .any base 36 v) (h : DataW.Trod enc Tryd.prog W 0 (fun _ => true) true 36 v d p) (hk : Rows.uptoBulk d ≤ 1048576) :
    ∃ (vi : Value) (c : CodeD) (vs : Value) (xs : List Int) (vg : Value) (gl : List Int) (far : Nat), v = .agg #[vi, .int .i64 c.2.1, .int .i64 c.2.2.1, vs, vg, .int .u16 (far : Int)] ∧ RSl (snapOf W) vi c.1 ∧ c.1.length ≤ 1048576 ∧ RSl (snapOf W) vs xs ∧ xs.length ≤ 1048576 ∧ RSl (snapOf W) vg gl ∧ gl.length ≤ 1048576 ∧ far ≤ 65535 := by
  obtain ⟨cs, rfl, _⟩ := okWide_struct Tryd.underlying36 hv
  obtain ⟨⟨c, xs, gl, far, u⟩, hy, hs⟩ := open_arg (α := GIn) h
  have hR : Rep.R (snapOf W) cs.toList (c, xs, gl, far, u) := hy
  obtain ⟨a, b, e, h1, k3⟩ := prod_inv hR
  obtain ⟨vi, rfl, hi⟩ := code_cells h1
  obtain ⟨a, b, rfl, ⟨vs, rfl, h2⟩, k4⟩ := prod_inv k3
  obtain ⟨a, b, rfl, ⟨vg, rfl, h3⟩, k5⟩ := prod_inv k4
  obtain ⟨a, b, rfl, ⟨rfl, h4⟩, rfl⟩ := prod_inv k5
  have := siz_ins c.1
  have := siz_ints xs
  have := siz_ints gl
  simp only [siz_prod] at hs
  exact ⟨vi, c, vs, xs, vg, gl, far.n, by congr 1; apply Array.ext'; exact e, hi, by omega, h2, by omega, h3, by omega, h4⟩
set_option maxRecDepth 20000 in
theorem open_uin {H : Type} {enc : TypeId × Value → H} {W : World} {base : Nat} {v : Value} {d : DataW H} {p : List MemPlace} (hv : Value.okWide Tryd.prog W .any base 39 v) (h : DataW.Trod enc Tryd.prog W 0 (fun _ => true) true 39 v d p) (hk : Rows.uptoBulk d ≤ 1048576) :
    ∃ (vi : Value) (c : CodeD) (vm : Value) (more : List InsD) (x : Nat) (vs : Value) (xs : List Int) (vg : Value) (gl : List Int), v = .agg #[vi, .int .i64 c.2.1, .int .i64 c.2.2.1, vm, .int .u8 (x : Int), vs, vg] ∧ RSl (snapOf W) vi c.1 ∧ c.1.length ≤ 1048576 ∧ RSl (snapOf W) vm more ∧ more.length ≤ 1048576 ∧ x ≤ 255 ∧ RSl (snapOf W) vs xs ∧ xs.length ≤ 1048576 ∧ RSl (snapOf W) vg gl ∧ gl.length ≤ 1048576 := by
  obtain ⟨cs, rfl, _⟩ := okWide_struct Tryd.underlying39 hv
  obtain ⟨⟨c, more, x, xs, gl, u⟩, hy, hs⟩ := open_arg (α := UIn) h
  have hR : Rep.R (snapOf W) cs.toList (c, more, x, xs, gl, u) := hy
  obtain ⟨a, b, e, h1, k6⟩ := prod_inv hR
  obtain ⟨vi, rfl, hi⟩ := code_cells h1
  obtain ⟨a, b, rfl, ⟨vm, rfl, h5⟩, k7⟩ := prod_inv k6
  obtain ⟨a, b, rfl, rfl, k8⟩ := prod_inv k7
  obtain ⟨a, b, rfl, ⟨vs, rfl, h2⟩, k9⟩ := prod_inv k8
  obtain ⟨a, b, rfl, ⟨vg, rfl, h3⟩, rfl⟩ := prod_inv k9
  have := siz_ins c.1
  have := siz_ins more
  have := siz_ints xs
  have := siz_ints gl
  have := x.toNat_lt
  simp only [siz_prod] at hs
  exact ⟨vi, c, vm, more, x.toNat, vs, xs, vg, gl, by congr 1; apply Array.ext'; exact e, hi, by omega, h5, by omega, by omega, h2, by omega, h3, by omega⟩
end Go.Proofs.YtmbdbfdlbbkclaaDoor
