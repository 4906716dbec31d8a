/- The statement VmIgnoresUnreachedCode. -/
import Derived.Test.YtmbdbfdlbbkclaaDoorUo
import Derived.Test.YtmbdbfdlbbkclaaDoorUo2
import Derived.Test.YtmbdbfdlbbkclaaDoorUs
namespace Go.Proofs.YtmbdbfdlbbkclaaDoor
set_option linter.unusedSimpArgs false
set_option linter.unusedVariables false
open Go.RowKit Go.Sl Go.ChangeShapes Go.WideShapes Go.ChangeAt

set_option maxRecDepth 20000 in
theorem vun_post (H : Type) (enc : TypeId × Value → H) (W : World) (base : Nat) (args : Array Value) (ds gs : List (DataW H)) (before : List MemPlace)
    (hval : ∀ (j : Nat) t v, Tryd.f6.params[j]? = some t → args[j]? = some v → Value.okWide Tryd.prog W .any base t v)
    (hW : DataW.Whole enc Tryd.prog Tryd.f6.params.toList Rows.vmIgnoresUnreachedCodeSpec.vars false W args.toList ds gs before) (hk : Rows.uptoSmall H (ds ++ gs) = true) (hL : laidMetH Tryd.prog Rows.vmIgnoresUnreachedCodeUptoRow.laid W) :
    Calls Tryd.prog 6 args W fun e W' => ∃ v, e = .returned v ∧ Rows.vmIgnoresUnreachedCodeSpec.post enc Tryd.prog Tryd.f6 false true false false W args v W' := by
  have hW' := hW
  obtain ⟨p, q, hA0, hV, rfl, hfz, hnd⟩ := hW
  have hA : DataW.TrodAll enc Tryd.prog W 0 (fun _ => true) true Tryd.f6.params.toList args.toList ds p := hA0
  have hk := small_all hk
  rw [Tryd.params6] at hA hval
  obtain ⟨v0, vs0, d0, ds0, p0, q0, hargs, rfl, rfl, h0, r0⟩ := trodAll_cons hA
  obtain ⟨rfl, rfl, rfl⟩ := trodAll_nil r0
  obtain rfl : args = #[v0] := by cases args; simp_all
  obtain ⟨rfl, rfl⟩ := trodVars_none hV
  simp only [List.append_nil, Rows.uptoBulkAll] at hk
  obtain ⟨vi0, c0, vm0, mo0, x0, vs0, xs0, vg0, gl0, rfl, a0, b0, d0, e0, i0, f0, g0, k0, l0⟩ := open_uin (hval 0 39 v0 rfl rfl) h0 (by omega)
  refine Calls.mono (vun_c W (St.start W) (tab_of hL) vi0 c0 a0 b0 vm0 mo0 d0 e0 x0 i0 vs0 xs0 f0 g0 vg0 gl0 k0 l0) fun e W' ⟨v, he, hv, hst⟩ => ?_
  subst hv
  exact ⟨_, he, law_post (tb := 4) rfl hW' (by kernel_rfl) (by rw [Tryd.params6]; intro t ht'; have e : t = 39 := (by simpa using ht'); subst e; exact ⟨by kernel_rfl, of_decide_eq_true (by kernel_rfl)⟩) (by kernel_rfl) (by kernel_rfl) rfl rfl rfl hst.below⟩

abbrev vun_args : Array Value := #[.agg #[.slice none 0 0, .int .i64 0, .int .i64 0, .slice none 0 0, .int .u8 0, .slice none 0 0, .slice none 0 0]]
theorem vun_met (os : Os) : laidMetH Tryd.prog Rows.vmIgnoresUnreachedCodeUptoRow.laid ((laidWorld os #[]).forCall (fun _ _ => 0) ⟨#[], vun_args, []⟩).memory :=
  laidMetH_of_parts3 (fuel := 8) (laidMet_of_run' 8 (by kernel_rfl) (by kernel_rfl)) (by kernel_rfl) (by kernel_rfl)
theorem vun_reads (os : Os) {H : Type} (enc : TypeId × Value → H) : ∃ places, DataW.whole enc Tryd.prog ((laidWorld os #[]).forCall (fun _ _ => 0) ⟨#[], vun_args, []⟩).memory Tryd.f6.params.toList Rows.vmIgnoresUnreachedCodeSpec.vars false vun_args.toList 8 = some ([.agg [.agg [.nil, .lit (.int .i64 0), .lit (.int .i64 0)], .nil, .lit (.int .u8 0), .nil, .nil]], [], places) :=
  ⟨[], by kernel_rfl⟩

set_option maxRecDepth 100000 in
theorem vun_lifted (os : Os) (started : os.Started) (H : Type) (enc : TypeId × Value → H) (F : Stop.Interp) :
    ReturnsInHanded {} Tryd.checked os 6 .any ((Rows.OpenSpec.upto Rows.vmIgnoresUnreachedCodeSpec).preRow enc Tryd.prog Tryd.f6 Rows.vmIgnoresUnreachedCodeUptoRow.domain false Rows.vmIgnoresUnreachedCodeUptoRow.laid) (((Rows.OpenSpec.upto Rows.vmIgnoresUnreachedCodeSpec).at F).post enc Tryd.prog Tryd.f6 false true false false) := by
  obtain ⟨places, hx⟩ := vun_reads os enc
  refine returnsInHanded_of_row (C := Tryd.checked) (s := Rows.OpenSpec.upto Rows.vmIgnoresUnreachedCodeSpec) own started (by kernel_rfl) Tryd.func6
    (witness_row_at (enc := enc) (C := Tryd.checked) false (laidWorld os #[]) vun_args rfl (by kernel_rfl) (by kernel_rfl) (by kernel_rfl)
      (OpenSpec.preRow_of_cond 8 hx (by kernel_rfl) (fun k hk => by cases hk; kernel_rfl) (by kernel_rfl) (vun_met os))) ?_
  intro W base args ds gs before hval hW _ hc _ hL _ _
  exact vun_post H enc W base args ds gs before hval hW (hc _ rfl) hL

theorem vun_said : Rows.VmIgnoresUnreachedCodeUptoSaid :=
  OpenClaim.holds_of_cond 6 Tryd.f6 rfl rfl rfl rfl rfl rfl rfl ⟨rfl, rfl, rfl, rfl, rfl⟩ rfl rfl rfl rfl rfl (by kernel_rfl) Tryd.func6 (by kernel_rfl)
    (of_decide_eq_true (by kernel_rfl)) (by unfold Func.isWrapper; first | (rw [if_pos (by decide +kernel)]; kernel_rfl) | (rw [if_neg (by decide +kernel)]; exact ⟨rfl, rfl⟩))
    (fun os started H enc _ F => by rw [OpenClaim.pre_eq_preRow]; exact vun_lifted os started H enc F)

theorem vun_plain (f : FuncId) (fn : Func) (hf : Tryd.pinned.checked.prog.funcNamed "bootchain/bootchainlaw17.VmIgnoresUnreachedCode" = some f) (hfn : Tryd.pinned.checked.prog.funcs[f]? = some fn) :
    true = Tryd.pinned.checked.prog.looks [] ∧ ∀ (j : Nat) t, fn.params[j]? = some t → Tryd.pinned.checked.prog.wantsStandIn t = false := by
  obtain rfl : f = 6 := Option.some.inj ((show Tryd.prog.funcNamed "bootchain/bootchainlaw17.VmIgnoresUnreachedCode" = some 6 by kernel_rfl).symm.trans hf) |>.symm
  obtain rfl : fn = Tryd.f6 := (Option.some.inj (Tryd.func6.symm.trans hfn)).symm
  refine ⟨by kernel_rfl, fun j t ht => ?_⟩
  rw [Tryd.params6] at ht
  have e : t = 39 := by simpa using Array.mem_of_getElem? ht
  subst e
  · exact (show Tryd.prog.wantsStandIn 39 = false by kernel_rfl)

theorem vun_proved : Rows.VmIgnoresUnreachedCodeUptoCardSaid :=
  Claim7.holds_tied_plain_at .later [] _ _ _ _ vun_said (fun _ h => by cases h) (by kernel_rfl) (fun _ h => by cases h) vmIgnoresUnreachedCodeUpto_row_tie rfl ⟨rfl, rfl⟩ (by kernel_rfl) rfl vun_plain (by kernel_rfl)
end Go.Proofs.YtmbdbfdlbbkclaaDoor
