/- The statement VmGlitchBeyondEnd. -/
import Derived.Test.YtmbdbfdlbbkclaaDoorUo
import Derived.Test.YtmbdbfdlbbkclaaDoorUo2
import Derived.Test.YtmbdbfdlbbkclaaDoorUr
namespace Go.Proofs.YtmbdbfdlbbkclaaDoor
set_option linter.unusedSimpArgs false
set_option linter.unusedVariables false
open Go.RowKit Go.Sl Go.ChangeShapes Go.WideShapes Go.ChangeAt

set_option maxRecDepth 20000 in
theorem vgl_post (H : Type) (enc : TypeId × Value → H) (W : World) (base : Nat) (args : Array Value) (ds gs : List (DataW H)) (before : List MemPlace)
    (hval : ∀ (j : Nat) t v, Tryd.f5.params[j]? = some t → args[j]? = some v → Value.okWide Tryd.prog W .any base t v)
    (hW : DataW.Whole enc Tryd.prog Tryd.f5.params.toList Rows.vmGlitchBeyondEndSpec.vars false W args.toList ds gs before) (hk : Rows.uptoSmall H (ds ++ gs) = true) (hL : laidMetH Tryd.prog Rows.vmGlitchBeyondEndUptoRow.laid W) :
    Calls Tryd.prog 5 args W fun e W' => ∃ v, e = .returned v ∧ Rows.vmGlitchBeyondEndSpec.post enc Tryd.prog Tryd.f5 false true false false W args v W' := by
  have hW' := hW
  obtain ⟨p, q, hA0, hV, rfl, hfz, hnd⟩ := hW
  have hA : DataW.TrodAll enc Tryd.prog W 0 (fun _ => true) true Tryd.f5.params.toList args.toList ds p := hA0
  have hk := small_all hk
  rw [Tryd.params5] at hA hval
  obtain ⟨v0, vs0, d0, ds0, p0, q0, hargs, rfl, rfl, h0, r0⟩ := trodAll_cons hA
  obtain ⟨rfl, rfl, rfl⟩ := trodAll_nil r0
  obtain rfl : args = #[v0] := by cases args; simp_all
  obtain ⟨rfl, rfl⟩ := trodVars_none hV
  simp only [List.append_nil, Rows.uptoBulkAll] at hk
  obtain ⟨vi0, c0, vs0, xs0, vg0, gl0, far0, rfl, a0, b0, d0, e0, f0, g0, i0⟩ := open_gin (hval 0 36 v0 rfl rfl) h0 (by omega)
  refine Calls.mono (vgl_c W (St.start W) (tab_of hL) vi0 c0 a0 b0 vs0 xs0 d0 e0 vg0 gl0 f0 g0 far0 i0) fun e W' ⟨v, he, hv, hst⟩ => ?_
  subst hv
  exact ⟨_, he, law_post (tb := 4) rfl hW' (by kernel_rfl) (by rw [Tryd.params5]; intro t ht'; have e : t = 36 := (by simpa using ht'); subst e; exact ⟨by kernel_rfl, of_decide_eq_true (by kernel_rfl)⟩) (by kernel_rfl) (by kernel_rfl) rfl rfl rfl hst.below⟩

abbrev vgl_args : Array Value := #[.agg #[.slice none 0 0, .int .i64 0, .int .i64 0, .slice none 0 0, .slice none 0 0, .int .u16 0]]
theorem vgl_met (os : Os) : laidMetH Tryd.prog Rows.vmGlitchBeyondEndUptoRow.laid ((laidWorld os #[]).forCall (fun _ _ => 0) ⟨#[], vgl_args, []⟩).memory :=
  laidMetH_of_parts3 (fuel := 8) (laidMet_of_run' 8 (by kernel_rfl) (by kernel_rfl)) (by kernel_rfl) (by kernel_rfl)
theorem vgl_reads (os : Os) {H : Type} (enc : TypeId × Value → H) : ∃ places, DataW.whole enc Tryd.prog ((laidWorld os #[]).forCall (fun _ _ => 0) ⟨#[], vgl_args, []⟩).memory Tryd.f5.params.toList Rows.vmGlitchBeyondEndSpec.vars false vgl_args.toList 8 = some ([.agg [.agg [.nil, .lit (.int .i64 0), .lit (.int .i64 0)], .nil, .nil, .lit (.int .u16 0)]], [], places) :=
  ⟨[], by kernel_rfl⟩

set_option maxRecDepth 100000 in
theorem vgl_lifted (os : Os) (started : os.Started) (H : Type) (enc : TypeId × Value → H) (F : Stop.Interp) :
    ReturnsInHanded {} Tryd.checked os 5 .any ((Rows.OpenSpec.upto Rows.vmGlitchBeyondEndSpec).preRow enc Tryd.prog Tryd.f5 Rows.vmGlitchBeyondEndUptoRow.domain false Rows.vmGlitchBeyondEndUptoRow.laid) (((Rows.OpenSpec.upto Rows.vmGlitchBeyondEndSpec).at F).post enc Tryd.prog Tryd.f5 false true false false) := by
  obtain ⟨places, hx⟩ := vgl_reads os enc
  refine returnsInHanded_of_row (C := Tryd.checked) (s := Rows.OpenSpec.upto Rows.vmGlitchBeyondEndSpec) own started (by kernel_rfl) Tryd.func5
    (witness_row_at (enc := enc) (C := Tryd.checked) false (laidWorld os #[]) vgl_args rfl (by kernel_rfl) (by kernel_rfl) (by kernel_rfl)
      (OpenSpec.preRow_of_cond 8 hx (by kernel_rfl) (fun k hk => by cases hk; kernel_rfl) (by kernel_rfl) (vgl_met os))) ?_
  intro W base args ds gs before hval hW _ hc _ hL _ _
  exact vgl_post H enc W base args ds gs before hval hW (hc _ rfl) hL

theorem vgl_said : Rows.VmGlitchBeyondEndUptoSaid :=
  OpenClaim.holds_of_cond 5 Tryd.f5 rfl rfl rfl rfl rfl rfl rfl ⟨rfl, rfl, rfl, rfl, rfl⟩ rfl rfl rfl rfl rfl (by kernel_rfl) Tryd.func5 (by kernel_rfl)
    (of_decide_eq_true (by kernel_rfl)) (by unfold Func.isWrapper; first | (rw [if_pos (by decide +kernel)]; kernel_rfl) | (rw [if_neg (by decide +kernel)]; exact ⟨rfl, rfl⟩))
    (fun os started H enc _ F => by rw [OpenClaim.pre_eq_preRow]; exact vgl_lifted os started H enc F)

theorem vgl_plain (f : FuncId) (fn : Func) (hf : Tryd.pinned.checked.prog.funcNamed "bootchain/bootchainlaw17.VmGlitchBeyondEnd" = some f) (hfn : Tryd.pinned.checked.prog.funcs[f]? = some fn) :
    true = Tryd.pinned.checked.prog.looks [] ∧ ∀ (j : Nat) t, fn.params[j]? = some t → Tryd.pinned.checked.prog.wantsStandIn t = false := by
  obtain rfl : f = 5 := Option.some.inj ((show Tryd.prog.funcNamed "bootchain/bootchainlaw17.VmGlitchBeyondEnd" = some 5 by kernel_rfl).symm.trans hf) |>.symm
  obtain rfl : fn = Tryd.f5 := (Option.some.inj (Tryd.func5.symm.trans hfn)).symm
  refine ⟨by kernel_rfl, fun j t ht => ?_⟩
  rw [Tryd.params5] at ht
  have e : t = 36 := by simpa using Array.mem_of_getElem? ht
  subst e
  · exact (show Tryd.prog.wantsStandIn 36 = false by kernel_rfl)

theorem vgl_proved : Rows.VmGlitchBeyondEndUptoCardSaid :=
  Claim7.holds_tied_plain_at .later [] _ _ _ _ vgl_said (fun _ h => by cases h) (by kernel_rfl) (fun _ h => by cases h) vmGlitchBeyondEndUpto_row_tie rfl ⟨rfl, rfl⟩ (by kernel_rfl) rfl vgl_plain (by kernel_rfl)
end Go.Proofs.YtmbdbfdlbbkclaaDoor
