/- The statement MerkleComplete is proved: the proof that Prove returns verifies and has at most six elements, for at most 40 leaves. -/
import Derived.Test.YtcobalpbencboaaDoorBb
import Derived.Test.YtcobalpbencboaaDoorBe

/- Package merkle: the statement MerkleComplete, walked. -/
--@u32
--@hgp
--@flat
--@dg
--@ex0
namespace Go.Proofs.YtcobalpbencboaaDoor
set_option linter.unusedSimpArgs false
set_option linter.unusedVariables false
open Go.RowKit Go.Sl

set_option maxRecDepth 8000 in
set_option maxHeartbeats 1000000 in
theorem complete_c {S M} (w : World) (hst : St S M w) (hG : Glob S) (vl : Value) (l : List Dg) (hl : RSl S vl l) (hm : l.length ≤ 1048576) (i : Nat) (hi : i ≤ 255) :
    Rets Tryd.prog 5 [vl, .int .u8 (i : Int)] w fun v w' => v = .bool true ∧ St S M w' := by
  unfold Rets
  by_cases h40 : 40 < l.length
  · go_enter Tryd.func5, Tryd.ntmps5
    repeat' (first | go_skip | (((with_reducible refine Sl.k_guard ?_; ((refine Sl.guard_cases rfl ?_ ?_ <;> intro hg <;> first | (exfalso; simp only [decide_eq_true_eq, decide_eq_false_iff_not, Bool.not_false, Bool.not_true, beq_iff_eq, beq_eq_false_iff_ne, ne_eq] at hg; omega) | (simp only [hg, Bool.not_true, Bool.not_false])) <;> (try simp only [decide_eq_true_eq, decide_eq_false_iff_not, Bool.not_false, Bool.not_true, beq_iff_eq, beq_eq_false_iff_ne, bne_iff_ne, bne_eq_false_iff_eq, ne_eq] at hg)))) <;> (try refine nY ?_)) | (((with_reducible refine Sl.k_call ?_; ((refine s_call (sanity_c _ hst hG) inX rfl ?_; clear hst; rintro v w ⟨rfl, hst⟩)))) <;> (try refine nY ?_) <;> (try replace hst := nH hst)) | ((fail_if_success (go_big_may)); (go_step)) | (((with_reducible refine Sl.k_call ?_; (refine s_qt hst (by exact qt_len evX asX inX) ?_))) <;> (try refine nY ?_)) | (with_reducible refine Sl.gate rfl ?_; (go_step)))
    go_ret
    exact ⟨_, rfl, rfl, hst⟩
  · by_cases h0 : l.length = 0
    · have h00 : ((l.length : Int) == 0) = true := beq_iff_eq.2 (by omega)
      clear h0
      go_enter Tryd.func5, Tryd.ntmps5
      repeat' (first | (((with_reducible refine Sl.k_guard ?_; (first | (refine Sl.guard_yes rfl ?_) | (refine Sl.guard_cases rfl ?_ ?_ <;> intro hg <;> first | (exfalso; simp only [decide_eq_true_eq, decide_eq_false_iff_not, Bool.not_false, Bool.not_true, beq_iff_eq, beq_eq_false_iff_ne, ne_eq] at hg; omega) | (simp only [hg, Bool.not_true, Bool.not_false])) <;> (try simp only [decide_eq_true_eq, decide_eq_false_iff_not, Bool.not_false, Bool.not_true, beq_iff_eq, beq_eq_false_iff_ne, bne_iff_ne, bne_eq_false_iff_eq, ne_eq] at hg)))) <;> (try refine nY ?_)) | (((with_reducible refine Sl.k_call ?_; ((refine s_call (sanity_c _ hst hG) inX rfl ?_; clear hst; rintro v w ⟨rfl, hst⟩)))) <;> (try refine nY ?_) <;> (try replace hst := nH hst)) | ((fail_if_success (go_big_may)); (go_step)) | (((with_reducible refine Sl.k_call ?_; (refine s_qt hst (by exact qt_len evX asX inX) ?_))) <;> (try refine nY ?_)) | (with_reducible refine Sl.gate rfl ?_; (go_step)))
      go_ret
      exact ⟨_, rfl, rfl, hst⟩
    · have h1 : 1 ≤ l.length := by omega
      have h00 : ((l.length : Int) == 0) = false := beq_eq_false_iff_ne.2 (by omega)
      have hkl : i % l.length < l.length := Nat.mod_lt _ (by omega)
      have hke : ((i : Int) % (l.length : Int)) = ((i % l.length : Nat) : Int) := by omega
      clear h0
      generalize i % l.length = k at *
      have hV := verify_complete hkl
      have h6 := proof_40 (l := l) (by omega) hkl
      have hd := hl.dgs l[k] (List.getElem_mem hkl)
      haveI : LenIs l[k].l 16 := ⟨hd⟩
      have cP := fun {S M} (w : World) (hst : St S M w) (hG : Glob S) (hl : RSl S vl l) => prove_c w hst hG vl l hl k hkl (by omega)
      have cR := fun {S M} (w : World) (hst : St S M w) (hG : Glob S) (hl : RSl S vl l) => root_c l.length w hst hG vl l hl (Nat.le_refl _) (by omega)
      have cV := fun {S M} (w : World) (hst : St S M w) (hG : Glob S) (u : Value) (hu : RSl S u (proofM l k)) => (verify_c w hst hG (rootM l) l[k] (rootM_len l) hd l.length k (by omega) (by omega) u (proofM l k) hu (by omega)).eq hV
      have hp16 := proofM_len l k
      haveI : LenIs (rootM l).l 16 := ⟨rootM_len l⟩
      clear hV
      generalize rootM l = R at *
      generalize proofM l k = pf at *
      go_enter Tryd.func5, Tryd.ntmps5
      repeat' (first | (((with_reducible refine Sl.k_guard ?_; (first | (refine Sl.guard_yes rfl ?_) | (refine Sl.guard_cases rfl ?_ ?_ <;> intro hg <;> first | (exfalso; simp only [decide_eq_true_eq, decide_eq_false_iff_not, Bool.not_false, Bool.not_true, beq_iff_eq, beq_eq_false_iff_ne, ne_eq] at hg; omega) | (simp only [hg, Bool.not_true, Bool.not_false])) <;> (try simp only [decide_eq_true_eq, decide_eq_false_iff_not, Bool.not_false, Bool.not_true, beq_iff_eq, beq_eq_false_iff_ne, bne_iff_ne, bne_eq_false_iff_eq, ne_eq] at hg)))) <;> (try refine nY ?_)) | (((with_reducible refine Sl.k_call ?_; ((refine s_call (sanity_c _ hst hG) inX rfl ?_; clear hst; rintro v w ⟨rfl, hst⟩)))) <;> (try refine nY ?_) <;> (try replace hst := nH hst)) | ((fail_if_success (go_big_may)); (go_step)) | (((with_reducible refine Sl.k_call ?_; (refine s_qt hst (by exact qt_len evX asX inX) ?_))) <;> (try refine nY ?_)) | (with_reducible refine Sl.gate rfl ?_; (go_step)))
      simp only [hke]
      clear hke
      repeat' (first | (((with_reducible refine Sl.k_call ?_; ((refine s_call (cP _ hst hG hl) inX rfl ?_; clear hst; rintro v w ⟨u, rfl, hst⟩)))) <;> (try refine nY ?_) <;> (try replace hst := nH hst)) | ((fail_if_success (go_big_may)); (go_step)) | (with_reducible refine Sl.gate rfl ?_; (go_step)))
      obtain ⟨S1, hS1, hst, hu⟩ := lit_dgs _ hp16 hst rfl rfl
      have hG1 := hG.mono hS1
      have hl1 := hl.mono hS1
      refine v_begin hst (by kernel_rfl) ?_; clear hst; intro ops; (try refine nY ?_)
      (refine t_qt 0 rfl (by kernel_rfl) rfl rfl (by exact qt_move evX) ?_) <;> (try refine nY ?_)
      (refine t_qt 1 rfl (by kernel_rfl) rfl rfl (by exact qt_move evX) ?_) <;> (try refine nY ?_)
      (refine t_qt 2 rfl (by kernel_rfl) rfl rfl (by exact qt_move evX) ?_) <;> (try refine nY ?_)
      ((refine t_qt 3 rfl (by kernel_rfl) rfl rfl (qt_eql_self rfl rfl) ?_)) <;> (try refine nY ?_)
      (refine t_qt 4 rfl (by kernel_rfl) rfl rfl (by exact qt_pick_t rfl evX) ?_) <;> (try refine nY ?_)
      (refine t_qt 5 rfl (by kernel_rfl) rfl rfl (by exact qt_move evX) ?_) <;> (try refine nY ?_)
      (refine t_qt 6 rfl (by kernel_rfl) rfl rfl (by exact qt_move evX) ?_) <;> (try refine nY ?_)
      (refine t_qt 7 rfl (by kernel_rfl) rfl rfl (by exact qt_len evX asX inX) ?_) <;> (try refine nY ?_)
      ((refine t_qt 8 rfl (by kernel_rfl) rfl rfl (qt_leq_b rfl rfl (decide_eq_true (by omega))) ?_)) <;> (try refine nY ?_)
      (refine t_qt 9 rfl (by kernel_rfl) rfl rfl (by exact qt_pick_t rfl evX) ?_) <;> (try refine nY ?_)
      (refine t_qt 10 rfl (by kernel_rfl) rfl rfl (by exact qt_move evX) ?_) <;> (try refine nY ?_)
      (refine t_qt 11 rfl (by kernel_rfl) rfl rfl (by exact qt_move evX) ?_) <;> (try refine nY ?_)
      ((refine t_call 12 rfl (by kernel_rfl) rfl (fun S' M' w hS hM hst => cR w hst (hG1.mono hS) (hl1.mono hS)) inX rfl ?_)) <;> (try refine nY ?_)
      (refine t_qt 13 rfl (by kernel_rfl) rfl rfl (by exact qt_move evX) ?_) <;> (try refine nY ?_)
      (refine t_qt 14 rfl (by kernel_rfl) rfl rfl (by exact qt_len evX asX inX) ?_) <;> (try refine nY ?_)
      (refine t_qt 15 rfl (by kernel_rfl) rfl rfl (by exact qt_move evX) ?_) <;> (try refine nY ?_)
      (refine t_qt 16 rfl (by kernel_rfl) rfl rfl (by exact qt_move evX) ?_) <;> (try refine nY ?_)
      (refine t_qt 17 rfl (by kernel_rfl) rfl rfl (by exact qt_move evX) ?_) <;> (try refine nY ?_)
      ((refine t_ex0 18 rfl (by kernel_rfl) rfl rfl (qt_index evX asX rfl inX inX omX omX) ?_; rintro v hp; (try simp only [Int.toNat_natCast, Int.toNat_natCast_add_one, Int.reduceToNat] at hp))) <;> (try refine nY ?_)
      (refine t_qt 19 rfl (by kernel_rfl) rfl rfl (by exact qt_ldp_flat evX asX inX inX rfl) ?_) <;> (try refine nY ?_)
      (refine t_qt 20 rfl (by kernel_rfl) rfl rfl (by exact qt_move evX) ?_) <;> (try refine nY ?_)
      ((refine t_call 21 rfl (by kernel_rfl) rfl (fun S' M' w hS hM hst => cV w hst (hG1.mono hS) u (hu.mono hS)) inX rfl ?_)) <;> (try refine nY ?_)
      (refine t_qt 22 rfl (by kernel_rfl) rfl rfl (by exact qt_pick_t rfl evX) ?_) <;> (try refine nY ?_)
      (refine t_qt 23 rfl (by kernel_rfl) rfl rfl (by exact qt_assign evX) ?_) <;> (try refine nY ?_)
      refine v_done (by kernel_rfl) ?_; clear ops; intro w hst
      repeat' (((fail_if_success (go_big_may)); (go_step)))
      go_ret
      exact ⟨_, rfl, rfl, St.weaken hS1 hst⟩
end Go.Proofs.YtcobalpbencboaaDoor

/- The statement MerkleComplete. -/
namespace Go.Proofs.YtcobalpbencboaaDoor
set_option linter.unusedSimpArgs false
set_option linter.unusedVariables false
open Go.RowKit Go.Sl Go.ChangeShapes Go.WideShapes Go.ChangeAt

set_option maxRecDepth 20000 in
theorem complete_post (H : Type) (enc : TypeId × Value → H) (W : World) (base : Nat) (args : Array Value) (ds gs : List (DataW H)) (before : List MemPlace)
    (hval : ∀ (j : Nat) t v, Tryd.f5.params[j]? = some t → args[j]? = some v → Value.okWide Tryd.prog W .any base t v)
    (hW : DataW.Whole enc Tryd.prog Tryd.f5.params.toList Rows.merkleCompleteSpec.vars false W args.toList ds gs before) (hk : Rows.uptoSmall H (ds ++ gs) = true) (hL : laidMetH Tryd.prog Rows.merkleCompleteUptoRow.laid W) :
    Calls Tryd.prog 5 args W fun e W' => ∃ v, e = .returned v ∧ Rows.merkleCompleteSpec.post enc Tryd.prog Tryd.f5 false true false false W args v W' := by
  have hW' := hW
  obtain ⟨p, q, hA0, hV, rfl, hfz, hnd⟩ := hW
  have hA : DataW.TrodAll enc Tryd.prog W 0 (fun _ => true) true Tryd.f5.params.toList args.toList ds p := hA0
  have hk := small_all hk
  rw [Tryd.params5] at hA hval
  obtain ⟨v0, vs0, d0, ds0, p0, q0, hargs, rfl, rfl, h0, r0⟩ := trodAll_cons hA
  obtain ⟨v1, vs1, d1, ds1, p1, q1, rfl, rfl, rfl, h1, r1⟩ := trodAll_cons r0
  obtain ⟨rfl, rfl, rfl⟩ := trodAll_nil r1
  obtain rfl : args = #[v0, v1] := by cases args; simp_all
  obtain ⟨rfl, rfl⟩ := trodVars_none hV
  simp only [List.append_nil, Rows.uptoBulkAll] at hk
  obtain ⟨l0, hl0, hm0⟩ := open_ds (hval 0 22 v0 rfl rfl) h0 (by omega)
  obtain ⟨n1, rfl, hn1⟩ := open_u8 (hval 1 5 v1 rfl rfl) h1
  refine Calls.mono (complete_c W (St.start W) (glob_of hL) v0 l0 hl0 hm0 n1 hn1) fun e W' ⟨v, he, hv, hst⟩ => ?_
  subst hv
  exact ⟨_, he, law_post (tb := 4) rfl hW' (by kernel_rfl) (by rw [Tryd.params5]; intro t ht'; have e : t = 22 ∨ t = 5 := (by simpa using ht'); rcases e with rfl | rfl <;> exact ⟨by kernel_rfl, of_decide_eq_true (by kernel_rfl)⟩) (by kernel_rfl) (by kernel_rfl) rfl rfl rfl hst.below⟩

abbrev complete_args : Array Value := #[.slice none 0 0, .int .u8 0]
theorem complete_met (os : Os) : laidMet Tryd.prog Rows.merkleCompleteUptoRow.laid ((laidWorld os #[]).forCall (fun _ _ => 0) ⟨#[], complete_args, []⟩).memory :=
  laidMet_of_run' 8 (by kernel_rfl) (by kernel_rfl)
theorem complete_reads (os : Os) {H : Type} (enc : TypeId × Value → H) : ∃ places, DataW.whole enc Tryd.prog ((laidWorld os #[]).forCall (fun _ _ => 0) ⟨#[], complete_args, []⟩).memory Tryd.f5.params.toList Rows.merkleCompleteSpec.vars false complete_args.toList 8 = some ([.nil, .lit (.int .u8 0)], [], places) :=
  ⟨[], by kernel_rfl⟩

set_option maxRecDepth 100000 in
theorem complete_lifted (os : Os) (started : os.Started) (H : Type) (enc : TypeId × Value → H) (F : Stop.Interp) :
    ReturnsInHanded {} Tryd.checked os 5 .any ((Rows.OpenSpec.upto Rows.merkleCompleteSpec).preRow enc Tryd.prog Tryd.f5 Rows.merkleCompleteUptoRow.domain false Rows.merkleCompleteUptoRow.laid) (((Rows.OpenSpec.upto Rows.merkleCompleteSpec).at F).post enc Tryd.prog Tryd.f5 false true false false) := by
  obtain ⟨places, hx⟩ := complete_reads os enc
  refine returnsInHanded_of_row (C := Tryd.checked) (s := Rows.OpenSpec.upto Rows.merkleCompleteSpec) own started (by kernel_rfl) Tryd.func5
    (witness_row_at (enc := enc) (C := Tryd.checked) false (laidWorld os #[]) complete_args rfl (by kernel_rfl) (by kernel_rfl) (by kernel_rfl)
      (OpenSpec.preRow_of_cond 8 hx (by kernel_rfl) (fun k hk => by cases hk; kernel_rfl) (by kernel_rfl) (complete_met os))) ?_
  intro W base args ds gs before hval hW _ hc _ hL _ _
  exact complete_post H enc W base args ds gs before hval hW (hc _ rfl) hL

theorem complete_said : Rows.MerkleCompleteUptoSaid :=
  OpenClaim.holds_of_cond 5 Tryd.f5 rfl rfl rfl rfl rfl rfl rfl ⟨rfl, rfl, rfl, rfl, rfl⟩ rfl rfl rfl rfl rfl (by kernel_rfl) Tryd.func5 (by kernel_rfl)
    (of_decide_eq_true (by kernel_rfl)) (by unfold Func.isWrapper; first | (rw [if_pos (by decide +kernel)]; kernel_rfl) | (rw [if_neg (by decide +kernel)]; exact ⟨rfl, rfl⟩))
    (fun os started H enc _ F => by rw [OpenClaim.pre_eq_preRow]; exact complete_lifted os started H enc F)

theorem complete_plain (f : FuncId) (fn : Func) (hf : Tryd.pinned.checked.prog.funcNamed "bootchain/bootchainlaw03.MerkleComplete" = some f) (hfn : Tryd.pinned.checked.prog.funcs[f]? = some fn) :
    false = Tryd.pinned.checked.prog.looks [] ∧ ∀ (j : Nat) t, fn.params[j]? = some t → Tryd.pinned.checked.prog.wantsStandIn t = false := by
  obtain rfl : f = 5 := Option.some.inj ((show Tryd.prog.funcNamed "bootchain/bootchainlaw03.MerkleComplete" = some 5 by kernel_rfl).symm.trans hf) |>.symm
  obtain rfl : fn = Tryd.f5 := (Option.some.inj (Tryd.func5.symm.trans hfn)).symm
  refine ⟨by kernel_rfl, fun j t ht => ?_⟩
  rw [Tryd.params5] at ht
  have e : t = 22 ∨ t = 5 := by simpa using Array.mem_of_getElem? ht
  rcases e with rfl | rfl
  · exact (show Tryd.prog.wantsStandIn 22 = false by kernel_rfl)
  · exact (show Tryd.prog.wantsStandIn 5 = false by kernel_rfl)

theorem complete_proved : Rows.MerkleCompleteUptoCardSaid :=
  Claim7.holds_tied_plain_at .later [] _ _ _ _ complete_said (fun _ h => by cases h) (by kernel_rfl) (fun _ h => by cases h) merkleCompleteUpto_row_tie rfl ⟨rfl, rfl⟩ (by kernel_rfl) rfl complete_plain (by kernel_rfl)
end Go.Proofs.YtcobalpbencboaaDoor
