/- The statement VmOutcomeIsValid. -/
import Derived.Test.YtmbdbfdlbbkclaaDoorUo
import Derived.Test.YtmbdbfdlbbkclaaDoorUo2
import Derived.Test.YtmbdbfdlbbkclaaDoorUq
namespace Go.Proofs.YtmbdbfdlbbkclaaDoor
set_option linter.unusedSimpArgs false
set_option linter.unusedVariables false
open Go.RowKit Go.Sl Go.ChangeShapes Go.WideShapes Go.ChangeAt

set_option maxRecDepth 20000 in
theorem vout_post (H : Type) (enc : TypeId × Value → H) (W : World) (base : Nat) (args : Array Value) (ds gs : List (DataW H)) (before : List MemPlace)
    (hval : ∀ (j : Nat) t v, Tryd.f4.params[j]? = some t → args[j]? = some v → Value.okWide Tryd.prog W .any base t v)
    (hW : DataW.Whole enc Tryd.prog Tryd.f4.params.toList Rows.vmOutcomeIsValidSpec.vars false W args.toList ds gs before) (hk : Rows.uptoSmall H (ds ++ gs) = true) (hL : laidMetH Tryd.prog Rows.vmOutcomeIsValidUptoRow.laid W) :
    Calls Tryd.prog 4 args W fun e W' => ∃ v, e = .returned v ∧ Rows.vmOutcomeIsValidSpec.post enc Tryd.prog Tryd.f4 false true false false W args v W' := by
  have hW' := hW
  obtain ⟨p, q, hA0, hV, rfl, hfz, hnd⟩ := hW
  have hA : DataW.TrodAll enc Tryd.prog W 0 (fun _ => true) true Tryd.f4.params.toList args.toList ds p := hA0
  have hk := small_all hk
  rw [Tryd.params4] at hA hval
  obtain ⟨v0, vs0, d0, ds0, p0, q0, hargs, rfl, rfl, h0, r0⟩ := trodAll_cons hA
  obtain ⟨v1, vs1, d1, ds1, p1, q1, rfl, rfl, rfl, h1, r1⟩ := trodAll_cons r0
  obtain ⟨v2, vs2, d2, ds2, p2, q2, rfl, rfl, rfl, h2, r2⟩ := trodAll_cons r1
  obtain ⟨rfl, rfl, rfl⟩ := trodAll_nil r2
  obtain rfl : args = #[v0, v1, v2] := by cases args; simp_all
  obtain ⟨rfl, rfl⟩ := trodVars_none hV
  simp only [List.append_nil, Rows.uptoBulkAll] at hk
  obtain ⟨vi0, c0, rfl, hi0, hm0⟩ := open_code (hval 0 24 v0 rfl rfl) h0 (by omega)
  obtain ⟨l1, hl1, hm1⟩ := open_is (hval 1 25 v1 rfl rfl) h1 (by omega)
  obtain ⟨l2, hl2, hm2⟩ := open_is (hval 2 25 v2 rfl rfl) h2 (by omega)
  refine Calls.mono (vout_c W (St.start W) (tab_of hL) vi0 c0 hi0 hm0 v1 l1 hl1 hm1 v2 l2 hl2 hm2) fun e W' ⟨v, he, hv, hst⟩ => ?_
  subst hv
  exact ⟨_, he, law_post (tb := 4) rfl hW' (by kernel_rfl) (by rw [Tryd.params4]; intro t ht'; have e : t = 24 ∨ t = 25 := (by simpa using ht'); rcases e with rfl | rfl <;> exact ⟨by kernel_rfl, of_decide_eq_true (by kernel_rfl)⟩) (by kernel_rfl) (by kernel_rfl) rfl rfl rfl hst.below⟩

abbrev vout_args : Array Value := #[.agg #[.slice none 0 0, .int .i64 0, .int .i64 0], .slice none 0 0, .slice none 0 0]
theorem vout_met (os : Os) : laidMetH Tryd.prog Rows.vmOutcomeIsValidUptoRow.laid ((laidWorld os #[]).forCall (fun _ _ => 0) ⟨#[], vout_args, []⟩).memory :=
  laidMetH_of_parts3 (fuel := 8) (laidMet_of_run' 8 (by kernel_rfl) (by kernel_rfl)) (by kernel_rfl) (by kernel_rfl)
theorem vout_reads (os : Os) {H : Type} (enc : TypeId × Value → H) : ∃ places, DataW.whole enc Tryd.prog ((laidWorld os #[]).forCall (fun _ _ => 0) ⟨#[], vout_args, []⟩).memory Tryd.f4.params.toList Rows.vmOutcomeIsValidSpec.vars false vout_args.toList 8 = some ([.agg [.nil, .lit (.int .i64 0), .lit (.int .i64 0)], .nil, .nil], [], places) :=
  ⟨[], by kernel_rfl⟩

set_option maxRecDepth 100000 in
theorem vout_lifted (os : Os) (started : os.Started) (H : Type) (enc : TypeId × Value → H) (F : Stop.Interp) :
    ReturnsInHanded {} Tryd.checked os 4 .any ((Rows.OpenSpec.upto Rows.vmOutcomeIsValidSpec).preRow enc Tryd.prog Tryd.f4 Rows.vmOutcomeIsValidUptoRow.domain false Rows.vmOutcomeIsValidUptoRow.laid) (((Rows.OpenSpec.upto Rows.vmOutcomeIsValidSpec).at F).post enc Tryd.prog Tryd.f4 false true false false) := by
  obtain ⟨places, hx⟩ := vout_reads os enc
  refine returnsInHanded_of_row (C := Tryd.checked) (s := Rows.OpenSpec.upto Rows.vmOutcomeIsValidSpec) own started (by kernel_rfl) Tryd.func4
    (witness_row_at (enc := enc) (C := Tryd.checked) false (laidWorld os #[]) vout_args rfl (by kernel_rfl) (by kernel_rfl) (by kernel_rfl)
      (OpenSpec.preRow_of_cond 8 hx (by kernel_rfl) (fun k hk => by cases hk; kernel_rfl) (by kernel_rfl) (vout_met os))) ?_
  intro W base args ds gs before hval hW _ hc _ hL _ _
  exact vout_post H enc W base args ds gs before hval hW (hc _ rfl) hL

theorem vout_said : Rows.VmOutcomeIsValidUptoSaid :=
  OpenClaim.holds_of_cond 4 Tryd.f4 rfl rfl rfl rfl rfl rfl rfl ⟨rfl, rfl, rfl, rfl, rfl⟩ rfl rfl rfl rfl rfl (by kernel_rfl) Tryd.func4 (by kernel_rfl)
    (of_decide_eq_true (by kernel_rfl)) (by unfold Func.isWrapper; first | (rw [if_pos (by decide +kernel)]; kernel_rfl) | (rw [if_neg (by decide +kernel)]; exact ⟨rfl, rfl⟩))
    (fun os started H enc _ F => by rw [OpenClaim.pre_eq_preRow]; exact vout_lifted os started H enc F)

theorem vout_plain (f : FuncId) (fn : Func) (hf : Tryd.pinned.checked.prog.funcNamed "bootchain/bootchainlaw17.VmOutcomeIsValid" = some f) (hfn : Tryd.pinned.checked.prog.funcs[f]? = some fn) :
    true = Tryd.pinned.checked.prog.looks [] ∧ ∀ (j : Nat) t, fn.params[j]? = some t → Tryd.pinned.checked.prog.wantsStandIn t = false := by
  obtain rfl : f = 4 := Option.some.inj ((show Tryd.prog.funcNamed "bootchain/bootchainlaw17.VmOutcomeIsValid" = some 4 by kernel_rfl).symm.trans hf) |>.symm
  obtain rfl : fn = Tryd.f4 := (Option.some.inj (Tryd.func4.symm.trans hfn)).symm
  refine ⟨by kernel_rfl, fun j t ht => ?_⟩
  rw [Tryd.params4] at ht
  have e : t = 24 ∨ t = 25 := by simpa using Array.mem_of_getElem? ht
  rcases e with rfl | rfl
  · exact (show Tryd.prog.wantsStandIn 24 = false by kernel_rfl)
  · exact (show Tryd.prog.wantsStandIn 25 = false by kernel_rfl)

theorem vout_proved : Rows.VmOutcomeIsValidUptoCardSaid :=
  Claim7.holds_tied_plain_at .later [] _ _ _ _ vout_said (fun _ h => by cases h) (by kernel_rfl) (fun _ h => by cases h) vmOutcomeIsValidUpto_row_tie rfl ⟨rfl, rfl⟩ (by kernel_rfl) rfl vout_plain (by kernel_rfl)
end Go.Proofs.YtmbdbfdlbbkclaaDoor
