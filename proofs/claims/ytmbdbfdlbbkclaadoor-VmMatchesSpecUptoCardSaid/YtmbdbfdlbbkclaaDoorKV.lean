/- The statement VmMatchesSpec: for every code of at most 200 instructions, at most 20 inputs and at most 20 glitches, Run returns what the reference machine returns. Conditions: none beyond those of the statement itself. -/
import Derived.Test.YtmbdbfdlbbkclaaDoorBb
import Derived.Test.YtmbdbfdlbbkclaaDoorBf
import Derived.Test.YtmbdbfdlbbkclaaDoorBg
import Derived.Test.YtmbdbfdlbbkclaaDoorBe

/- The statement VmMatchesSpec, walked. -/
--@hgp
--@ex0
namespace Go.Proofs.YtmbdbfdlbbkclaaDoor
set_option linter.unusedSimpArgs false
set_option linter.unusedVariables false
open Go.RowKit Go.Sl

theorem ref_step : RefStep := fun w hst hvi hvm hvv hvs hvp hvn gd _ hgl hgm h4 h8 => step_r w hst hvi hvm hvv hvs hvp hvn gd hgl hgm h4 h8
set_option maxRecDepth 8000 in
set_option maxHeartbeats 4000000 in
theorem vmat_c {S M} (w : World) (hst : St S M w) (hT : Tab S) (vi : Value) (c : CodeD) (hvi : RSl S vi c.1) (hvm : c.1.length ≤ 1048576) (vs : Value) (inputs : List Int) (hin : RSl S vs inputs) (him : inputs.length ≤ 1048576) (vg : Value) (gl : List Int) (hgl : RSl S vg gl) (hgm : gl.length ≤ 1048576) :
    Rets Tryd.prog 3 [codeVal vi c, vs, vg] w fun v w' => v = .bool true ∧ St S M w' := by
  unfold Rets
  have k1 := hvi.oneCell
  obtain ⟨z, hz⟩ : ∃ z, smallV c inputs gl = z := ⟨_, rfl⟩
  have cs := fun (M : List Chunk) (w : World) (hst : St S M w) => (small_c w hst vi c hvi hvm vs inputs hin him vg gl hgl hgm).eq hz
  cases z with
  | false =>
    go_enter Tryd.func3, Tryd.ntmps3
    repeat' (first | (((with_reducible refine Sl.k_call ?_; (first | (refine s_call (vsanity_c _ hst hT) inX rfl ?_; clear hst; rintro v w ⟨rfl, hst⟩) | (refine s_call (cs _ _ hst) inX rfl ?_; clear hst; rintro v w ⟨rfl, hst⟩)))) <;> (try refine nX ?_) <;> (try replace hst := nH hst)) | ((fail_if_success (go_big_may)); (go_step)) | (((with_reducible refine Sl.k_load ?_; (refine s_qt hst (qt_load rfl _ BoxIn.h inX rfl rfl) ?_))) <;> (try refine nX ?_)) | (with_reducible refine Sl.gate rfl ?_; (go_step)) | (((((refine s_box hst evX rfl ?_; clear hst; intro bx w hst)))) <;> (try refine nX ?_) <;> (try replace hst := nH hst)))
    go_ret
    exact ⟨_, rfl, rfl, hst.drop⟩
  | true =>
    obtain ⟨⟨⟨pts, notes, fin, st, u⟩, e⟩, hr⟩ : ∃ r, vmM c inputs gl = r := ⟨_, rfl⟩
    have r := fun (M : List Chunk) (w : World) (hst : St S M w) => run_d w hst hT vi c hvi hvm vs inputs hin him vg gl hgl hgm hr
    have r2 := fun (S' : Snap) (hS : S.Le S') (M : List Chunk) (w : World) (hst : St S' M w) => rrun_c ref_step w hst vi c (hvi.mono hS) hvm vs inputs (hin.mono hS) him vg gl (hgl.mono hS) hgm hr
    have hlen := len_le hr
    have hlen1 : pts.length ≤ 1048576 := hlen.1
    have hlen2 : notes.length ≤ 1048576 := hlen.2
    clear hlen
    go_enter Tryd.func3, Tryd.ntmps3
    repeat' (first | (((with_reducible refine Sl.k_guard ?_; ((refine Sl.guard_yes rfl ?_)))) <;> (try refine nX ?_)) | (((with_reducible refine Sl.k_call ?_; (first | (refine s_call (vsanity_c _ hst hT) inX rfl ?_; clear hst; rintro v w ⟨rfl, hst⟩) | (refine s_call (cs _ _ hst) inX rfl ?_; clear hst; rintro v w ⟨rfl, hst⟩) | (refine s_call (r _ _ hst) inX rfl ?_; clear hst; rintro v w ⟨S1, pa, pn, pk, qa, qn, qk, hS1, rfl, hvp, hvn, hst⟩) | (refine s_call (r2 S1 hS1 _ _ hst) inX rfl ?_; clear hst; rintro v w ⟨S2, pb, pm, pj, qb, qm, qj, hS2, rfl, hvp2, hvn2, hst⟩) | (refine s_call (same_t _ hst (pts, notes, fin, st, ()) (.slice pa pn pk) (.slice qa qn qk) (.slice pb pm pj) (.slice qb qm qj) (hvp.mono hS2) (hvn.mono hS2) hvp2 hvn2 hlen1 hlen2) inX rfl ?_; clear hst; rintro v w ⟨rfl, hst⟩)))) <;> (try refine nX ?_) <;> (try replace hst := nH hst)) | ((fail_if_success (go_big_may)); (go_step)) | (((with_reducible refine Sl.k_load ?_; (refine s_qt hst (qt_load rfl _ BoxIn.h inX rfl rfl) ?_))) <;> (try refine nX ?_)) | (with_reducible refine Sl.gate rfl ?_; (go_step)) | ((((first | (with_reducible refine Sl.k_store ?_; (refine s_store hst rfl _ BoxIn.h inX evX rfl lenOk oneOk (by simp) ?_); clear hst; intro w hst) | (refine s_box hst evX rfl ?_; clear hst; intro bx w hst) | (refine s_alloc hst inX ?_; clear hst; intro bk w hst)))) <;> (try refine nX ?_) <;> (try replace hst := nH hst)))
    go_ret
    exact ⟨_, rfl, rfl, (St.weaken (hS1.trans hS2) hst).drop.drop.drop⟩
end Go.Proofs.YtmbdbfdlbbkclaaDoor

/- The statement VmMatchesSpec. -/
namespace Go.Proofs.YtmbdbfdlbbkclaaDoor
set_option linter.unusedSimpArgs false
set_option linter.unusedVariables false
open Go.RowKit Go.Sl Go.ChangeShapes Go.WideShapes Go.ChangeAt

set_option maxRecDepth 20000 in
theorem vmat_post (H : Type) (enc : TypeId × Value → H) (W : World) (base : Nat) (args : Array Value) (ds gs : List (DataW H)) (before : List MemPlace)
    (hval : ∀ (j : Nat) t v, Tryd.f3.params[j]? = some t → args[j]? = some v → Value.okWide Tryd.prog W .any base t v)
    (hW : DataW.Whole enc Tryd.prog Tryd.f3.params.toList Rows.vmMatchesSpecSpec.vars false W args.toList ds gs before) (hk : Rows.uptoSmall H (ds ++ gs) = true) (hL : laidMetH Tryd.prog Rows.vmMatchesSpecUptoRow.laid W) :
    Calls Tryd.prog 3 args W fun e W' => ∃ v, e = .returned v ∧ Rows.vmMatchesSpecSpec.post enc Tryd.prog Tryd.f3 false true false false W args v W' := by
  have hW' := hW
  obtain ⟨p, q, hA0, hV, rfl, hfz, hnd⟩ := hW
  have hA : DataW.TrodAll enc Tryd.prog W 0 (fun _ => true) true Tryd.f3.params.toList args.toList ds p := hA0
  have hk := small_all hk
  rw [Tryd.params3] at hA hval
  obtain ⟨v0, vs0, d0, ds0, p0, q0, hargs, rfl, rfl, h0, r0⟩ := trodAll_cons hA
  obtain ⟨v1, vs1, d1, ds1, p1, q1, rfl, rfl, rfl, h1, r1⟩ := trodAll_cons r0
  obtain ⟨v2, vs2, d2, ds2, p2, q2, rfl, rfl, rfl, h2, r2⟩ := trodAll_cons r1
  obtain ⟨rfl, rfl, rfl⟩ := trodAll_nil r2
  obtain rfl : args = #[v0, v1, v2] := by cases args; simp_all
  obtain ⟨rfl, rfl⟩ := trodVars_none hV
  simp only [List.append_nil, Rows.uptoBulkAll] at hk
  obtain ⟨vi0, c0, rfl, hi0, hm0⟩ := open_code (hval 0 24 v0 rfl rfl) h0 (by omega)
  obtain ⟨l1, hl1, hm1⟩ := open_is (hval 1 25 v1 rfl rfl) h1 (by omega)
  obtain ⟨l2, hl2, hm2⟩ := open_is (hval 2 25 v2 rfl rfl) h2 (by omega)
  refine Calls.mono (vmat_c W (St.start W) (tab_of hL) vi0 c0 hi0 hm0 v1 l1 hl1 hm1 v2 l2 hl2 hm2) fun e W' ⟨v, he, hv, hst⟩ => ?_
  subst hv
  exact ⟨_, he, law_post (tb := 4) rfl hW' (by kernel_rfl) (by rw [Tryd.params3]; intro t ht'; have e : t = 24 ∨ t = 25 := (by simpa using ht'); rcases e with rfl | rfl <;> exact ⟨by kernel_rfl, of_decide_eq_true (by kernel_rfl)⟩) (by kernel_rfl) (by kernel_rfl) rfl rfl rfl hst.below⟩

abbrev vmat_args : Array Value := #[.agg #[.slice none 0 0, .int .i64 0, .int .i64 0], .slice none 0 0, .slice none 0 0]
theorem vmat_met (os : Os) : laidMetH Tryd.prog Rows.vmMatchesSpecUptoRow.laid ((laidWorld os #[]).forCall (fun _ _ => 0) ⟨#[], vmat_args, []⟩).memory :=
  laidMetH_of_parts3 (fuel := 8) (laidMet_of_run' 8 (by kernel_rfl) (by kernel_rfl)) (by kernel_rfl) (by kernel_rfl)
theorem vmat_reads (os : Os) {H : Type} (enc : TypeId × Value → H) : ∃ places, DataW.whole enc Tryd.prog ((laidWorld os #[]).forCall (fun _ _ => 0) ⟨#[], vmat_args, []⟩).memory Tryd.f3.params.toList Rows.vmMatchesSpecSpec.vars false vmat_args.toList 8 = some ([.agg [.nil, .lit (.int .i64 0), .lit (.int .i64 0)], .nil, .nil], [], places) :=
  ⟨[], by kernel_rfl⟩

set_option maxRecDepth 100000 in
theorem vmat_lifted (os : Os) (started : os.Started) (H : Type) (enc : TypeId × Value → H) (F : Stop.Interp) :
    ReturnsInHanded {} Tryd.checked os 3 .any ((Rows.OpenSpec.upto Rows.vmMatchesSpecSpec).preRow enc Tryd.prog Tryd.f3 Rows.vmMatchesSpecUptoRow.domain false Rows.vmMatchesSpecUptoRow.laid) (((Rows.OpenSpec.upto Rows.vmMatchesSpecSpec).at F).post enc Tryd.prog Tryd.f3 false true false false) := by
  obtain ⟨places, hx⟩ := vmat_reads os enc
  refine returnsInHanded_of_row (C := Tryd.checked) (s := Rows.OpenSpec.upto Rows.vmMatchesSpecSpec) own started (by kernel_rfl) Tryd.func3
    (witness_row_at (enc := enc) (C := Tryd.checked) false (laidWorld os #[]) vmat_args rfl (by kernel_rfl) (by kernel_rfl) (by kernel_rfl)
      (OpenSpec.preRow_of_cond 8 hx (by kernel_rfl) (fun k hk => by cases hk; kernel_rfl) (by kernel_rfl) (vmat_met os))) ?_
  intro W base args ds gs before hval hW _ hc _ hL _ _
  exact vmat_post H enc W base args ds gs before hval hW (hc _ rfl) hL

theorem vmat_said : Rows.VmMatchesSpecUptoSaid :=
  OpenClaim.holds_of_cond 3 Tryd.f3 rfl rfl rfl rfl rfl rfl rfl ⟨rfl, rfl, rfl, rfl, rfl⟩ rfl rfl rfl rfl rfl (by kernel_rfl) Tryd.func3 (by kernel_rfl)
    (of_decide_eq_true (by kernel_rfl)) (by unfold Func.isWrapper; first | (rw [if_pos (by decide +kernel)]; kernel_rfl) | (rw [if_neg (by decide +kernel)]; exact ⟨rfl, rfl⟩))
    (fun os started H enc _ F => by rw [OpenClaim.pre_eq_preRow]; exact vmat_lifted os started H enc F)

theorem vmat_plain (f : FuncId) (fn : Func) (hf : Tryd.pinned.checked.prog.funcNamed "bootchain/bootchainlaw17.VmMatchesSpec" = some f) (hfn : Tryd.pinned.checked.prog.funcs[f]? = some fn) :
    true = Tryd.pinned.checked.prog.looks [] ∧ ∀ (j : Nat) t, fn.params[j]? = some t → Tryd.pinned.checked.prog.wantsStandIn t = false := by
  obtain rfl : f = 3 := Option.some.inj ((show Tryd.prog.funcNamed "bootchain/bootchainlaw17.VmMatchesSpec" = some 3 by kernel_rfl).symm.trans hf) |>.symm
  obtain rfl : fn = Tryd.f3 := (Option.some.inj (Tryd.func3.symm.trans hfn)).symm
  refine ⟨by kernel_rfl, fun j t ht => ?_⟩
  rw [Tryd.params3] at ht
  have e : t = 24 ∨ t = 25 := by simpa using Array.mem_of_getElem? ht
  rcases e with rfl | rfl
  · exact (show Tryd.prog.wantsStandIn 24 = false by kernel_rfl)
  · exact (show Tryd.prog.wantsStandIn 25 = false by kernel_rfl)

theorem vmat_proved : Rows.VmMatchesSpecUptoCardSaid :=
  Claim7.holds_tied_plain_at .later [] _ _ _ _ vmat_said (fun _ h => by cases h) (by kernel_rfl) (fun _ h => by cases h) vmMatchesSpecUpto_row_tie rfl ⟨rfl, rfl⟩ (by kernel_rfl) rfl vmat_plain (by kernel_rfl)
end Go.Proofs.YtmbdbfdlbbkclaaDoor
