/- The statement ManifestIsCanonical: every byte string of at most 3000 bytes that can be decoded is the encoding of the result. Conditions: none beyond those of the statement itself. -/
import Derived.Test.YtlimhgamebnfeaaDoorBb
import Derived.Test.YtlimhgamebnfeaaDoorBg

/- The statement ManifestIsCanonical, walked. -/
--@u32
--@hgp
--@flat
--@dg
--@ex0
namespace Go.Proofs.YtlimhgamebnfeaaDoor
set_option linter.unusedSimpArgs false
set_option linter.unusedVariables false
open Go.RowKit Go.Sl

theorem dec_good {α : Type} {p : PS → α × PS} {enc : α → List UInt8} {ok : α → Prop} {z : α} (c : Codec p enc ok) {b : List UInt8} (hb : b.length ≤ 1048576) (h : (decP p z b).2 = 0) : ok (decP p z b).1 := by
  unfold decP at h ⊢
  split at h
  · rename_i hh; exact absurd h hh
  · rename_i hh
    rw [if_neg hh]
    split at h
    · cases h
    · rename_i h2
      rw [if_neg h2]
      exact c.good b hb (by simpa using hh)
theorem self_str (b : List UInt8) : decide (b = b) = true := decide_eq_true rfl

set_option maxRecDepth 20000 in
set_option maxHeartbeats 4000000 in
theorem mcanon_c {S M} (w : World) (hst : St S M w) (hG : Glob S) (b : List UInt8) (hm : b.length ≤ 1048576) : Rets Tryd.prog 8 [StrV b] w fun v w' => v = .bool true ∧ St S M w' := by
  unfold Rets
  by_cases hl : b.length ≤ 3000
  · obtain ⟨⟨m, e1⟩, hm1⟩ : ∃ r, decP mfP zMF b = r := ⟨_, rfl⟩
    obtain ⟨⟨u, e3⟩, hu⟩ : ∃ r, decP buP zBU b = r := ⟨_, rfl⟩
    obtain ⟨⟨r, e4⟩, hr⟩ : ∃ r, decP roP zRO b = r := ⟨_, rfl⟩
    have c1 := fun {S : Snap} {M : List Chunk} (w : World) (hst : St S M w) => DecodeM_c w hst b hm
    have c2 := fun {S : Snap} {M : List Chunk} (w : World) (hst : St S M w) => DecodeK_c w hst b hm
    have c3 := fun {S : Snap} {M : List Chunk} (w : World) (hst : St S M w) => DecodeB_c w hst b hm
    have c4 := fun {S : Snap} {M : List Chunk} (w : World) (hst : St S M w) => DecodeR_c w hst b hm
    have k1 : e1 = 0 → encMF m = b := fun h => by have := dec_canon mf_codec (z := zMF) (b := b) (by rw [hm1]; exact h); rw [hm1] at this; exact this
    have k3 : e3 = 0 → encBU u = b := fun h => by have := dec_canon bu_codec (z := zBU) (b := b) (by rw [hu]; exact h); rw [hu] at this; exact this
    have k4 : e4 = 0 → encRO r = b := fun h => by have := dec_canon ro_codec (z := zRO) (b := b) (by rw [hr]; exact h); rw [hr] at this; exact this
    have o3 : e3 = 0 → okBU u := fun h => by have := dec_good bu_codec (z := zBU) (b := b) hm (by rw [hu]; exact h); rw [hu] at this; exact this
    have o4 : e4 = 0 → okRO r := fun h => by have := dec_good ro_codec (z := zRO) (b := b) hm (by rw [hr]; exact h); rw [hr] at this; exact this
    rw [hm1] at c1 c2
    rw [hu] at c3
    rw [hr] at c4
    clear hm1 hu hr
    have d1 := fun {S : Snap} {M : List Chunk} (w : World) (hst : St S M w) (cs : List Value) (hR : Rep.R S cs m) (h : e1 = 0) => encode_c w hst cs m hR (by rw [k1 h]; omega)
    have d2 := fun {S : Snap} {M : List Chunk} (w : World) (hst : St S M w) (cs : List Value) (hR : Rep.R S cs m) (h : e1 = 0) => encodeK_c w hst cs m hR (by rw [k1 h]; omega)
    have d3 := fun {S : Snap} {M : List Chunk} (w : World) (hst : St S M w) (cs : List Value) (hR : Rep.R S cs u) (h : e3 = 0) => encBU_c w hst cs u hR (o3 h).2.1.2 (o3 h).2.2.1.2 (by rw [k3 h]; omega)
    have d4 := fun {S : Snap} {M : List Chunk} (w : World) (hst : St S M w) (cs : List Value) (hR : Rep.R S cs r) (h : e4 = 0) => encRO_c w hst cs r hR (o4 h).2.1.2 (by rw [k4 h]; omega)
    have g1 : ∀ {v : Value}, e1 = 0 → v = StrV (encMF m) → v = StrV b := fun h e => by rw [e, k1 h]
    by_cases h1 : e1 = 0 <;> by_cases h3 : e3 = 0 <;> by_cases h4 : e4 = 0
    all_goals
      (try have n1' : ((e1 : Int) != 0) = true := by have := h1; simp; omega)
      (try have n3' : ((e3 : Int) != 0) = true := by have := h3; simp; omega)
      (try have n4' : ((e4 : Int) != 0) = true := by have := h4; simp; omega)
      (try have q1 := k1 h1)
      (try have q3 := k3 h3)
      (try have q4 := k4 h4)
      (try have D1 := fun {S : Snap} {M : List Chunk} (w : World) (hst : St S M w) (cs : List Value) (hR : Rep.R S cs m) => d1 w hst cs hR h1)
      (try have D2 := fun {S : Snap} {M : List Chunk} (w : World) (hst : St S M w) (cs : List Value) (hR : Rep.R S cs m) => d2 w hst cs hR h1)
      (try have D3 := fun {S : Snap} {M : List Chunk} (w : World) (hst : St S M w) (cs : List Value) (hR : Rep.R S cs u) => d3 w hst cs hR h3)
      (try have D4 := fun {S : Snap} {M : List Chunk} (w : World) (hst : St S M w) (cs : List Value) (hR : Rep.R S cs r) => d4 w hst cs hR h4)
      clear d1 d2 d3 d4 k1 k3 k4 o3 o4 g1
      (try rw [q1] at D1 D2)
      (try rw [q3] at D3)
      (try rw [q4] at D4)
      (try clear q1)
      (try clear q3)
      (try clear q4)
      (try subst h1)
      (try subst h3)
      (try subst h4)
      go_enter Tryd.func8, Tryd.ntmps8
      repeat' ((fail_if_success (with_reducible show Code.wp _ (Code.region 8 _ _) _ _ _)); first | (((with_reducible refine Sl.k_call ?_; (first | (refine s_call (msanity_c _ hst hG) inX rfl ?_; clear hst; rintro v w ⟨rfl, hst⟩) | (refine s_call (c1 _ hst) inX rfl ?_; clear hst; rintro v w ⟨S1, x1, x2, x3, a0, n0, z0, hS1, rfl, hR1, hst⟩) | (refine s_call (c2 _ hst) inX rfl ?_; clear hst; rintro v w ⟨S2, y1, y2, y3, a1, n1, z1, hS2, rfl, hR2, hst⟩) | (refine s_call (c3 _ hst) inX rfl ?_; clear hst; rintro v w ⟨S3, t1, t2, t3, b0, p0, s0, b1, p1, s1, b2, p2, s2, hS3, rfl, hR3, hst⟩) | (refine s_call (c4 _ hst) inX rfl ?_; clear hst; rintro v w ⟨S4, w1, w2, w3, f0, q0, g0, f1, q1, g1, hS4, rfl, hR4, hst⟩)))) <;> (try refine nY ?_) <;> (try replace hst := nH hst)) | ((fail_if_success (go_big_may)); (go_step)) | (((with_reducible refine Sl.k_call ?_; (refine s_qt hst (by exact qt_len_str evX inX) ?_))) <;> (try refine nY ?_)) | (with_reducible refine Sl.gate rfl ?_; (go_step)) | ((((first | (with_reducible refine Sl.k_store ?_; (refine s_store hst rfl _ BoxIn.h inX evX rfl lenOk oneOk (by simp) ?_); clear hst; intro w hst) | (refine s_alloc hst inX ?_; clear hst; intro bk w hst)))) <;> (try refine nY ?_) <;> (try replace hst := nH hst)))
      replace hR1 := Rep.mono ((hS2.trans hS3).trans hS4) hR1
      replace hR2 := Rep.mono (hS3.trans hS4) hR2
      replace hR3 := Rep.mono hS4 hR3
      repeat' (first | go_skip | ((first | (with_reducible refine Sl.k_bin ?_; (first | refine s_qt hst (qt_eql_str rfl rfl inX (self_str b)) ?_ | refine s_qt hst (qt_neq_b rfl rfl n1') ?_ | refine s_qt hst (qt_neq_b rfl rfl n3') ?_ | refine s_qt hst (qt_neq_b rfl rfl n4') ?_)) | (with_reducible refine Sl.k_guard ?_; ((refine Sl.guard_yes rfl ?_)))) <;> (try refine nY ?_)) | (((with_reducible refine Sl.k_call ?_; (first | (refine s_call (D1 _ hst _ hR1) inX rfl ?_; clear hst; rintro v w ⟨rfl, hst⟩) | (refine s_call (D2 _ hst _ hR2) inX rfl ?_; clear hst; rintro v w ⟨rfl, hst⟩) | (refine s_call (D3 _ hst _ hR3) inX rfl ?_; clear hst; rintro v w ⟨rfl, hst⟩) | (refine s_call (D4 _ hst _ hR4) inX rfl ?_; clear hst; rintro v w ⟨rfl, hst⟩)))) <;> (try refine nY ?_) <;> (try replace hst := nH hst)) | ((fail_if_success (go_big_may)); (go_step)) | (((with_reducible refine Sl.k_load ?_; (refine s_qt hst (by exact qt_loadA evX BoxIn.h inX rfX) ?_))) <;> (try refine nY ?_)) | (with_reducible refine Sl.gate rfl ?_; (go_step)))
      go_ret
      exact ⟨_, rfl, rfl, (St.weaken (hS1.trans (hS2.trans (hS3.trans hS4))) hst).drop.drop.drop.drop⟩
  · go_enter Tryd.func8, Tryd.ntmps8
    repeat' (first | (((with_reducible refine Sl.k_call ?_; ((refine s_call (msanity_c _ hst hG) inX rfl ?_; clear hst; rintro v w ⟨rfl, hst⟩)))) <;> (try refine nY ?_) <;> (try replace hst := nH hst)) | ((fail_if_success (go_big_may)); (go_step)) | (((with_reducible refine Sl.k_call ?_; (refine s_qt hst (by exact qt_len_str evX inX) ?_))) <;> (try refine nY ?_)) | (with_reducible refine Sl.gate rfl ?_; (go_step)))
    go_ret
    exact ⟨_, rfl, rfl, hst⟩
end Go.Proofs.YtlimhgamebnfeaaDoor

/- The statement ManifestIsCanonical. -/
namespace Go.Proofs.YtlimhgamebnfeaaDoor
set_option linter.unusedSimpArgs false
set_option linter.unusedVariables false
open Go.RowKit Go.Sl Go.ChangeShapes Go.WideShapes Go.ChangeAt

set_option maxRecDepth 20000 in
theorem mcanon_post (H : Type) (enc : TypeId × Value → H) (W : World) (base : Nat) (args : Array Value) (ds gs : List (DataW H)) (before : List MemPlace)
    (hval : ∀ (j : Nat) t v, Tryd.f8.params[j]? = some t → args[j]? = some v → Value.okWide Tryd.prog W .any base t v)
    (hW : DataW.Whole enc Tryd.prog Tryd.f8.params.toList Rows.manifestIsCanonicalSpec.vars false W args.toList ds gs before) (hk : Rows.uptoSmall H (ds ++ gs) = true) (hL : laidMetH Tryd.prog Rows.manifestIsCanonicalUptoRow.laid W) :
    Calls Tryd.prog 8 args W fun e W' => ∃ v, e = .returned v ∧ Rows.manifestIsCanonicalSpec.post enc Tryd.prog Tryd.f8 false true false false W args v W' := by
  have hW' := hW
  obtain ⟨p, q, hA0, hV, rfl, hfz, hnd⟩ := hW
  have hA : DataW.TrodAll enc Tryd.prog W 0 (fun _ => true) true Tryd.f8.params.toList args.toList ds p := hA0
  have hk := small_all hk
  rw [Tryd.params8] at hA hval
  obtain ⟨v0, vs0, d0, ds0, p0, q0, hargs, rfl, rfl, h0, r0⟩ := trodAll_cons hA
  obtain ⟨rfl, rfl, rfl⟩ := trodAll_nil r0
  obtain rfl : args = #[v0] := by cases args; simp_all
  obtain ⟨rfl, rfl⟩ := trodVars_none hV
  simp only [List.append_nil, Rows.uptoBulkAll] at hk
  obtain ⟨s0, rfl, hs0⟩ := open_s (hval 0 9 v0 rfl rfl) h0 (by omega)
  refine Calls.mono (mcanon_c W (St.start W) (glob_of hL) s0 hs0) fun e W' ⟨v, he, hv, hst⟩ => ?_
  subst hv
  exact ⟨_, he, law_post (tb := 4) rfl hW' (by kernel_rfl) (by rw [Tryd.params8]; intro t ht'; have e : t = 9 := (by simpa using ht'); subst e; exact ⟨by kernel_rfl, of_decide_eq_true (by kernel_rfl)⟩) (by kernel_rfl) (by kernel_rfl) rfl rfl rfl hst.below⟩

abbrev mcanon_args : Array Value := #[.string ⟨#[]⟩]
theorem mcanon_met (os : Os) : laidMet Tryd.prog Rows.manifestIsCanonicalUptoRow.laid ((laidWorld os #[]).forCall (fun _ _ => 0) ⟨#[], mcanon_args, []⟩).memory :=
  laidMet_of_run' 8 (by kernel_rfl) (by kernel_rfl)
theorem mcanon_reads (os : Os) {H : Type} (enc : TypeId × Value → H) : ∃ places, DataW.whole enc Tryd.prog ((laidWorld os #[]).forCall (fun _ _ => 0) ⟨#[], mcanon_args, []⟩).memory Tryd.f8.params.toList Rows.manifestIsCanonicalSpec.vars false mcanon_args.toList 8 = some ([.lit (.string [])], [], places) :=
  ⟨[], by kernel_rfl⟩

set_option maxRecDepth 100000 in
theorem mcanon_lifted (os : Os) (started : os.Started) (H : Type) (enc : TypeId × Value → H) (F : Stop.Interp) :
    ReturnsInHanded {} Tryd.checked os 8 .any ((Rows.OpenSpec.upto Rows.manifestIsCanonicalSpec).preRow enc Tryd.prog Tryd.f8 Rows.manifestIsCanonicalUptoRow.domain false Rows.manifestIsCanonicalUptoRow.laid) (((Rows.OpenSpec.upto Rows.manifestIsCanonicalSpec).at F).post enc Tryd.prog Tryd.f8 false true false false) := by
  obtain ⟨places, hx⟩ := mcanon_reads os enc
  refine returnsInHanded_of_row (C := Tryd.checked) (s := Rows.OpenSpec.upto Rows.manifestIsCanonicalSpec) own started (by kernel_rfl) Tryd.func8
    (witness_row_at (enc := enc) (C := Tryd.checked) false (laidWorld os #[]) mcanon_args rfl (by kernel_rfl) (by kernel_rfl) (by kernel_rfl)
      (OpenSpec.preRow_of_cond 8 hx (by kernel_rfl) (fun k hk => by cases hk; kernel_rfl) (by kernel_rfl) (mcanon_met os))) ?_
  intro W base args ds gs before hval hW _ hc _ hL _ _
  exact mcanon_post H enc W base args ds gs before hval hW (hc _ rfl) hL

theorem mcanon_said : Rows.ManifestIsCanonicalUptoSaid :=
  OpenClaim.holds_of_cond 8 Tryd.f8 rfl rfl rfl rfl rfl rfl rfl ⟨rfl, rfl, rfl, rfl, rfl⟩ rfl rfl rfl rfl rfl (by kernel_rfl) Tryd.func8 (by kernel_rfl)
    (of_decide_eq_true (by kernel_rfl)) (by unfold Func.isWrapper; first | (rw [if_pos (by decide +kernel)]; kernel_rfl) | (rw [if_neg (by decide +kernel)]; exact ⟨rfl, rfl⟩))
    (fun os started H enc _ F => by rw [OpenClaim.pre_eq_preRow]; exact mcanon_lifted os started H enc F)

theorem mcanon_plain (f : FuncId) (fn : Func) (hf : Tryd.pinned.checked.prog.funcNamed "bootchain/bootchainlaw23.ManifestIsCanonical" = some f) (hfn : Tryd.pinned.checked.prog.funcs[f]? = some fn) :
    false = Tryd.pinned.checked.prog.looks [] ∧ ∀ (j : Nat) t, fn.params[j]? = some t → Tryd.pinned.checked.prog.wantsStandIn t = false := by
  obtain rfl : f = 8 := Option.some.inj ((show Tryd.prog.funcNamed "bootchain/bootchainlaw23.ManifestIsCanonical" = some 8 by kernel_rfl).symm.trans hf) |>.symm
  obtain rfl : fn = Tryd.f8 := (Option.some.inj (Tryd.func8.symm.trans hfn)).symm
  refine ⟨by kernel_rfl, fun j t ht => ?_⟩
  rw [Tryd.params8] at ht
  have e : t = 9 := by simpa using Array.mem_of_getElem? ht
  subst e
  · exact (show Tryd.prog.wantsStandIn 9 = false by kernel_rfl)

theorem mcanon_proved : Rows.ManifestIsCanonicalUptoCardSaid :=
  Claim7.holds_tied_plain_at .later [] _ _ _ _ mcanon_said (fun _ h => by cases h) (by kernel_rfl) (fun _ h => by cases h) manifestIsCanonicalUpto_row_tie rfl ⟨rfl, rfl⟩ (by kernel_rfl) rfl mcanon_plain (by kernel_rfl)
end Go.Proofs.YtlimhgamebnfeaaDoor
