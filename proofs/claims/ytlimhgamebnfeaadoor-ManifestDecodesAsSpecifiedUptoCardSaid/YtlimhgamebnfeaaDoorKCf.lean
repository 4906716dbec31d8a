/- The statement ManifestDecodesAsSpecified. -/
import Derived.Test.YtlimhgamebnfeaaDoorBb
import Derived.Test.YtlimhgamebnfeaaDoorBk
import Derived.Test.YtlimhgamebnfeaaDoorBg

/- The statement ManifestDecodesAsSpecified, walked. -/
--@u32
--@hgp
--@flat
--@dg
--@ex0
namespace Go.Proofs.YtlimhgamebnfeaaDoor
set_option linter.unusedSimpArgs false
set_option linter.unusedVariables false
open Go.RowKit Go.Sl

set_option maxRecDepth 20000 in
set_option maxHeartbeats 2000000 in
theorem mdecs_c {S M} (w : World) (hst : St S M w) (hG : Glob S) (b : List UInt8) (hm : b.length ≤ 1048576) : Rets Tryd.prog 5 [StrV b] w fun v w' => v = .bool true ∧ St S M w' := by
  unfold Rets
  by_cases hl : b.length ≤ 3000
  · have z1 := Nat.le_trans (dM_len b) hm
    have z3 := dB_sz hm
    have z4 := dR_sz hm
    have c1 := fun {S : Snap} {M : List Chunk} (w : World) (hst : St S M w) => DecodeM_c w hst b hm
    have c2 := fun {S : Snap} {M : List Chunk} (w : World) (hst : St S M w) => rdecM_c w hst b hm
    have c3 := fun {S : Snap} {M : List Chunk} (w : World) (hst : St S M w) => DecodeK_c w hst b hm
    have c4 := fun {S : Snap} {M : List Chunk} (w : World) (hst : St S M w) => rdecK_c w hst b hm
    have c5 := fun {S : Snap} {M : List Chunk} (w : World) (hst : St S M w) => DecodeB_c w hst b hm
    have c6 := fun {S : Snap} {M : List Chunk} (w : World) (hst : St S M w) => rdecB_c w hst b hm
    have c7 := fun {S : Snap} {M : List Chunk} (w : World) (hst : St S M w) => DecodeR_c w hst b hm
    have c8 := fun {S : Snap} {M : List Chunk} (w : World) (hst : St S M w) => rdecR_c w hst b hm
    generalize decP mfP zMF b = rm at *
    generalize decP buP zBU b = rb at *
    generalize decP roP zRO b = rr at *
    obtain ⟨m, e1⟩ := rm
    obtain ⟨u, e3⟩ := rb
    obtain ⟨r, e4⟩ := rr
    simp only at z1 z3 z4
    have D1 := fun {S : Snap} {M : List Chunk} (w : World) (hst : St S M w) (ca cb : List Value) (ha : Rep.R S ca m) (hb : Rep.R S cb m) => (sameM_c w hst ca cb m m ha hb z1).eq (decide_eq_true rfl)
    have D2 := fun {S : Snap} {M : List Chunk} (w : World) (hst : St S M w) (ca cb : List Value) (ha : Rep.R S ca m) (hb : Rep.R S cb m) => (sameK_c w hst ca cb m m ha hb z1).eq (decide_eq_true rfl)
    have D3 := fun {S : Snap} {M : List Chunk} (w : World) (hst : St S M w) (ca cb : List Value) (ha : Rep.R S ca u) (hb : Rep.R S cb u) => (sameB_c w hst ca cb u u ha hb z3.a z3.b z3.c z3.d).eq (decide_eq_true rfl)
    have D4 := fun {S : Snap} {M : List Chunk} (w : World) (hst : St S M w) (ca cb : List Value) (ha : Rep.R S ca r) (hb : Rep.R S cb r) => (sameR_c w hst ca cb r r ha hb z4.a z4.b z4.c).eq (decide_eq_true rfl)
    clear z1 z3 z4
    go_enter Tryd.func5, Tryd.ntmps5
    repeat' ((fail_if_success (with_reducible show Code.wp _ (Code.region 8 _ _) _ _ _)); first | (((with_reducible refine Sl.k_call ?_; (first | (refine s_call (msanity_c _ hst hG) inX rfl ?_; clear hst; rintro v w ⟨rfl, hst⟩) | (refine s_call (c1 _ hst) inX rfl ?_; clear hst; rintro v w ⟨S1, x1, x2, x3, a0, n0, z0, hS1, rfl, hR1, hst⟩) | (refine s_call (c2 _ hst) inX rfl ?_; clear hst; rintro v w ⟨S2, y1, y2, y3, a1, n1, z1, hS2, rfl, hR2, hst⟩) | (refine s_call (c3 _ hst) inX rfl ?_; clear hst; rintro v w ⟨S3, x31, x32, x33, a3, n3, z3, hS3, rfl, hR3, hst⟩) | (refine s_call (c4 _ hst) inX rfl ?_; clear hst; rintro v w ⟨S4, x41, x42, x43, a4, n4, z4, hS4, rfl, hR4, hst⟩)))) <;> (try refine nY ?_) <;> (try replace hst := nH hst)) | ((fail_if_success (go_big_may)); (go_step)) | (((with_reducible refine Sl.k_call ?_; (refine s_qt hst (by exact qt_len_str evX inX) ?_))) <;> (try refine nY ?_)) | (with_reducible refine Sl.gate rfl ?_; (go_step)) | ((((first | (with_reducible refine Sl.k_store ?_; (refine s_store hst rfl _ BoxIn.h inX evX rfl lenOk oneOk (by simp) ?_); clear hst; intro w hst) | (refine s_alloc hst inX ?_; clear hst; intro bk w hst)))) <;> (try refine nY ?_) <;> (try replace hst := nH hst)))
    repeat' ((fail_if_success (with_reducible show Code.wp _ (Code.region 12 _ _) _ _ _)); first | (((with_reducible refine Sl.k_call ?_; (first | (refine s_call (c5 _ hst) inX rfl ?_; clear hst; rintro v w ⟨S5, t1, t2, t3, b0, p0, s0, b1, p1, s1, b2, p2, s2, hS5, rfl, hR5, hst⟩) | (refine s_call (c6 _ hst) inX rfl ?_; clear hst; rintro v w ⟨S6, t61, t62, t63, b60, p60, s60, b61, p61, s61, b62, p62, s62, hS6, rfl, hR6, hst⟩) | (refine s_call (c7 _ hst) inX rfl ?_; clear hst; rintro v w ⟨S7, w1, w2, w3, f0, q0, g0, f1, q1, g1, hS7, rfl, hR7, hst⟩) | (refine s_call (c8 _ hst) inX rfl ?_; clear hst; rintro v w ⟨S8, w81, w82, w83, f80, q80, g80, f81, q81, g81, hS8, rfl, hR8, hst⟩)))) <;> (try refine nY ?_) <;> (try replace hst := nH hst)) | ((fail_if_success (go_big_may)); (go_step)) | (with_reducible refine Sl.gate rfl ?_; (go_step)) | ((((first | (with_reducible refine Sl.k_store ?_; (refine s_store hst rfl _ BoxIn.h inX evX rfl lenOk oneOk (by simp) ?_); clear hst; intro w hst) | (refine s_alloc hst inX ?_; clear hst; intro bk w hst)))) <;> (try refine nY ?_) <;> (try replace hst := nH hst)))
    replace hR1 := Rep.mono (hS2.trans (hS3.trans (hS4.trans (hS5.trans (hS6.trans (hS7.trans hS8)))))) hR1
    replace hR2 := Rep.mono (hS3.trans (hS4.trans (hS5.trans (hS6.trans (hS7.trans hS8))))) hR2
    replace hR3 := Rep.mono (hS4.trans (hS5.trans (hS6.trans (hS7.trans hS8)))) hR3
    replace hR4 := Rep.mono (hS5.trans (hS6.trans (hS7.trans hS8))) hR4
    replace hR5 := Rep.mono (hS6.trans (hS7.trans hS8)) hR5
    replace hR6 := Rep.mono (hS7.trans hS8) hR6
    replace hR7 := Rep.mono hS8 hR7
    repeat' (first | (((with_reducible refine Sl.k_guard ?_; ((refine Sl.guard_yes rfl ?_)))) <;> (try refine nY ?_)) | (((with_reducible refine Sl.k_call ?_; (first | (refine s_call (D1 _ hst _ _ hR1 hR2) inX rfl ?_; clear hst; rintro v w ⟨rfl, hst⟩) | (refine s_call (D2 _ hst _ _ hR3 hR4) inX rfl ?_; clear hst; rintro v w ⟨rfl, hst⟩) | (refine s_call (D3 _ hst _ _ hR5 hR6) inX rfl ?_; clear hst; rintro v w ⟨rfl, hst⟩) | (refine s_call (D4 _ hst _ _ hR7 hR8) inX rfl ?_; clear hst; rintro v w ⟨rfl, hst⟩)))) <;> (try refine nY ?_) <;> (try replace hst := nH hst)) | ((fail_if_success (go_big_may)); (go_step)) | (((with_reducible refine Sl.k_load ?_; (refine s_qt hst (by exact qt_loadA evX BoxIn.h inX rfX) ?_))) <;> (try refine nY ?_)) | (with_reducible refine Sl.gate rfl ?_; (go_step)))
    go_ret
    exact ⟨_, rfl, rfl, (St.weaken (hS1.trans (hS2.trans (hS3.trans (hS4.trans (hS5.trans (hS6.trans (hS7.trans hS8))))))) hst).drop.drop.drop.drop.drop.drop.drop.drop⟩
  · go_enter Tryd.func5, Tryd.ntmps5
    repeat' (first | (((with_reducible refine Sl.k_call ?_; ((refine s_call (msanity_c _ hst hG) inX rfl ?_; clear hst; rintro v w ⟨rfl, hst⟩)))) <;> (try refine nY ?_) <;> (try replace hst := nH hst)) | ((fail_if_success (go_big_may)); (go_step)) | (((with_reducible refine Sl.k_call ?_; (refine s_qt hst (by exact qt_len_str evX inX) ?_))) <;> (try refine nY ?_)) | (with_reducible refine Sl.gate rfl ?_; (go_step)))
    go_ret
    exact ⟨_, rfl, rfl, hst⟩
end Go.Proofs.YtlimhgamebnfeaaDoor

/- The statement ManifestDecodesAsSpecified. -/
namespace Go.Proofs.YtlimhgamebnfeaaDoor
set_option linter.unusedSimpArgs false
set_option linter.unusedVariables false
open Go.RowKit Go.Sl Go.ChangeShapes Go.WideShapes Go.ChangeAt

set_option maxRecDepth 20000 in
theorem mdecs_post (H : Type) (enc : TypeId × Value → H) (W : World) (base : Nat) (args : Array Value) (ds gs : List (DataW H)) (before : List MemPlace)
    (hval : ∀ (j : Nat) t v, Tryd.f5.params[j]? = some t → args[j]? = some v → Value.okWide Tryd.prog W .any base t v)
    (hW : DataW.Whole enc Tryd.prog Tryd.f5.params.toList Rows.manifestDecodesAsSpecifiedSpec.vars false W args.toList ds gs before) (hk : Rows.uptoSmall H (ds ++ gs) = true) (hL : laidMetH Tryd.prog Rows.manifestDecodesAsSpecifiedUptoRow.laid W) :
    Calls Tryd.prog 5 args W fun e W' => ∃ v, e = .returned v ∧ Rows.manifestDecodesAsSpecifiedSpec.post enc Tryd.prog Tryd.f5 false true false false W args v W' := by
  have hW' := hW
  obtain ⟨p, q, hA0, hV, rfl, hfz, hnd⟩ := hW
  have hA : DataW.TrodAll enc Tryd.prog W 0 (fun _ => true) true Tryd.f5.params.toList args.toList ds p := hA0
  have hk := small_all hk
  rw [Tryd.params5] at hA hval
  obtain ⟨v0, vs0, d0, ds0, p0, q0, hargs, rfl, rfl, h0, r0⟩ := trodAll_cons hA
  obtain ⟨rfl, rfl, rfl⟩ := trodAll_nil r0
  obtain rfl : args = #[v0] := by cases args; simp_all
  obtain ⟨rfl, rfl⟩ := trodVars_none hV
  simp only [List.append_nil, Rows.uptoBulkAll] at hk
  obtain ⟨s0, rfl, hs0⟩ := open_s (hval 0 9 v0 rfl rfl) h0 (by omega)
  refine Calls.mono (mdecs_c W (St.start W) (glob_of hL) s0 hs0) fun e W' ⟨v, he, hv, hst⟩ => ?_
  subst hv
  exact ⟨_, he, law_post (tb := 4) rfl hW' (by kernel_rfl) (by rw [Tryd.params5]; intro t ht'; have e : t = 9 := (by simpa using ht'); subst e; exact ⟨by kernel_rfl, of_decide_eq_true (by kernel_rfl)⟩) (by kernel_rfl) (by kernel_rfl) rfl rfl rfl hst.below⟩

abbrev mdecs_args : Array Value := #[.string ⟨#[]⟩]
theorem mdecs_met (os : Os) : laidMet Tryd.prog Rows.manifestDecodesAsSpecifiedUptoRow.laid ((laidWorld os #[]).forCall (fun _ _ => 0) ⟨#[], mdecs_args, []⟩).memory :=
  laidMet_of_run' 8 (by kernel_rfl) (by kernel_rfl)
theorem mdecs_reads (os : Os) {H : Type} (enc : TypeId × Value → H) : ∃ places, DataW.whole enc Tryd.prog ((laidWorld os #[]).forCall (fun _ _ => 0) ⟨#[], mdecs_args, []⟩).memory Tryd.f5.params.toList Rows.manifestDecodesAsSpecifiedSpec.vars false mdecs_args.toList 8 = some ([.lit (.string [])], [], places) :=
  ⟨[], by kernel_rfl⟩

set_option maxRecDepth 100000 in
theorem mdecs_lifted (os : Os) (started : os.Started) (H : Type) (enc : TypeId × Value → H) (F : Stop.Interp) :
    ReturnsInHanded {} Tryd.checked os 5 .any ((Rows.OpenSpec.upto Rows.manifestDecodesAsSpecifiedSpec).preRow enc Tryd.prog Tryd.f5 Rows.manifestDecodesAsSpecifiedUptoRow.domain false Rows.manifestDecodesAsSpecifiedUptoRow.laid) (((Rows.OpenSpec.upto Rows.manifestDecodesAsSpecifiedSpec).at F).post enc Tryd.prog Tryd.f5 false true false false) := by
  obtain ⟨places, hx⟩ := mdecs_reads os enc
  refine returnsInHanded_of_row (C := Tryd.checked) (s := Rows.OpenSpec.upto Rows.manifestDecodesAsSpecifiedSpec) own started (by kernel_rfl) Tryd.func5
    (witness_row_at (enc := enc) (C := Tryd.checked) false (laidWorld os #[]) mdecs_args rfl (by kernel_rfl) (by kernel_rfl) (by kernel_rfl)
      (OpenSpec.preRow_of_cond 8 hx (by kernel_rfl) (fun k hk => by cases hk; kernel_rfl) (by kernel_rfl) (mdecs_met os))) ?_
  intro W base args ds gs before hval hW _ hc _ hL _ _
  exact mdecs_post H enc W base args ds gs before hval hW (hc _ rfl) hL

theorem mdecs_said : Rows.ManifestDecodesAsSpecifiedUptoSaid :=
  OpenClaim.holds_of_cond 5 Tryd.f5 rfl rfl rfl rfl rfl rfl rfl ⟨rfl, rfl, rfl, rfl, rfl⟩ rfl rfl rfl rfl rfl (by kernel_rfl) Tryd.func5 (by kernel_rfl)
    (of_decide_eq_true (by kernel_rfl)) (by unfold Func.isWrapper; first | (rw [if_pos (by decide +kernel)]; kernel_rfl) | (rw [if_neg (by decide +kernel)]; exact ⟨rfl, rfl⟩))
    (fun os started H enc _ F => by rw [OpenClaim.pre_eq_preRow]; exact mdecs_lifted os started H enc F)

theorem mdecs_plain (f : FuncId) (fn : Func) (hf : Tryd.pinned.checked.prog.funcNamed "bootchain/bootchainlaw23.ManifestDecodesAsSpecified" = some f) (hfn : Tryd.pinned.checked.prog.funcs[f]? = some fn) :
    false = Tryd.pinned.checked.prog.looks [] ∧ ∀ (j : Nat) t, fn.params[j]? = some t → Tryd.pinned.checked.prog.wantsStandIn t = false := by
  obtain rfl : f = 5 := Option.some.inj ((show Tryd.prog.funcNamed "bootchain/bootchainlaw23.ManifestDecodesAsSpecified" = some 5 by kernel_rfl).symm.trans hf) |>.symm
  obtain rfl : fn = Tryd.f5 := (Option.some.inj (Tryd.func5.symm.trans hfn)).symm
  refine ⟨by kernel_rfl, fun j t ht => ?_⟩
  rw [Tryd.params5] at ht
  have e : t = 9 := by simpa using Array.mem_of_getElem? ht
  subst e
  · exact (show Tryd.prog.wantsStandIn 9 = false by kernel_rfl)

theorem mdecs_proved : Rows.ManifestDecodesAsSpecifiedUptoCardSaid :=
  Claim7.holds_tied_plain_at .later [] _ _ _ _ mdecs_said (fun _ h => by cases h) (by kernel_rfl) (fun _ h => by cases h) manifestDecodesAsSpecifiedUpto_row_tie rfl ⟨rfl, rfl⟩ (by kernel_rfl) rfl mdecs_plain (by kernel_rfl)
end Go.Proofs.YtlimhgamebnfeaaDoor
