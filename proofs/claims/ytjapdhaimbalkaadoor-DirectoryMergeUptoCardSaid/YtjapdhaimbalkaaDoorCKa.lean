/- The statement DirectoryMerge. -/
import Derived.Test.YtjapdhaimbalkaaDoorBh

/- The statement DirectoryMerge. -/
namespace Go.Proofs.YtjapdhaimbalkaaDoor
set_option linter.unusedSimpArgs false
set_option linter.unusedVariables false
open Go.RowKit Go.Sl Go.ChangeShapes Go.WideShapes Go.ChangeAt

set_option maxRecDepth 20000 in
theorem dmerge_post (H : Type) (enc : TypeId × Value → H) (W : World) (base : Nat) (args : Array Value) (ds gs : List (DataW H)) (before : List MemPlace)
    (hval : ∀ (j : Nat) t v, Tryd.f5.params[j]? = some t → args[j]? = some v → Value.okWide Tryd.prog W .any base t v)
    (hW : DataW.Whole enc Tryd.prog Tryd.f5.params.toList Rows.directoryMergeSpec.vars false W args.toList ds gs before) (hk : Rows.uptoSmall H (ds ++ gs) = true) (hL : laidMetH Tryd.prog Rows.directoryMergeUptoRow.laid W) :
    Calls Tryd.prog 5 args W fun e W' => ∃ v, e = .returned v ∧ Rows.directoryMergeSpec.post enc Tryd.prog Tryd.f5 false true false false W args v W' := by
  have hW' := hW
  obtain ⟨p, q, hA0, hV, rfl, hfz, hnd⟩ := hW
  have hA : DataW.TrodAll enc Tryd.prog W 0 (fun _ => true) true Tryd.f5.params.toList args.toList ds p := hA0
  have hk := small_all hk
  rw [Tryd.params5] at hA hval
  obtain ⟨v0, vs0, d0, ds0, p0, q0, hargs, rfl, rfl, h0, r0⟩ := trodAll_cons hA
  obtain ⟨v1, vs1, d1, ds1, p1, q1, rfl, rfl, rfl, h1, r1⟩ := trodAll_cons r0
  obtain ⟨v2, vs2, d2, ds2, p2, q2, rfl, rfl, rfl, h2, r2⟩ := trodAll_cons r1
  obtain ⟨rfl, rfl, rfl⟩ := trodAll_nil r2
  obtain rfl : args = #[v0, v1, v2] := by cases args; simp_all
  obtain ⟨rfl, rfl⟩ := trodVars_none hV
  simp only [List.append_nil, Rows.uptoBulkAll] at hk
  obtain ⟨c0, u0, rfl, hR0⟩ := open_dir (hval 0 27 v0 rfl rfl) h0
  obtain ⟨c1, u1, rfl, hR1⟩ := open_dir (hval 1 27 v1 rfl rfl) h1
  obtain ⟨c2, u2, rfl, hR2⟩ := open_dir (hval 2 27 v2 rfl rfl) h2
  refine Calls.mono (dmergeK_c W (St.start W) (glob_of hL) c0 u0 hR0 c1 u1 hR1 c2 u2 hR2) fun e W' ⟨v, he, hv, hst⟩ => ?_
  subst hv
  exact ⟨_, he, law_post (tb := 4) rfl hW' (by kernel_rfl) (by rw [Tryd.params5]; intro t ht'; have e : t = 27 := (by simpa using ht'); subst e; exact ⟨by kernel_rfl, of_decide_eq_true (by kernel_rfl)⟩) (by kernel_rfl) (by kernel_rfl) rfl rfl rfl hst.below⟩

abbrev dmerge_args : Array Value := #[.agg #[.slice none 0 0], .agg #[.slice none 0 0], .agg #[.slice none 0 0]]
theorem dmerge_met (os : Os) : laidMet Tryd.prog Rows.directoryMergeUptoRow.laid ((laidWorld os #[]).forCall (fun _ _ => 0) ⟨#[], dmerge_args, []⟩).memory :=
  laidMet_of_run' 8 (by kernel_rfl) (by kernel_rfl)
theorem dmerge_reads (os : Os) {H : Type} (enc : TypeId × Value → H) : ∃ places, DataW.whole enc Tryd.prog ((laidWorld os #[]).forCall (fun _ _ => 0) ⟨#[], dmerge_args, []⟩).memory Tryd.f5.params.toList Rows.directoryMergeSpec.vars false dmerge_args.toList 8 = some ([.agg [.nil], .agg [.nil], .agg [.nil]], [], places) :=
  ⟨[], by kernel_rfl⟩

set_option maxRecDepth 100000 in
theorem dmerge_lifted (os : Os) (started : os.Started) (H : Type) (enc : TypeId × Value → H) (F : Stop.Interp) :
    ReturnsInHanded {} Tryd.checked os 5 .any ((Rows.OpenSpec.upto Rows.directoryMergeSpec).preRow enc Tryd.prog Tryd.f5 Rows.directoryMergeUptoRow.domain false Rows.directoryMergeUptoRow.laid) (((Rows.OpenSpec.upto Rows.directoryMergeSpec).at F).post enc Tryd.prog Tryd.f5 false true false false) := by
  obtain ⟨places, hx⟩ := dmerge_reads os enc
  refine returnsInHanded_of_row (C := Tryd.checked) (s := Rows.OpenSpec.upto Rows.directoryMergeSpec) own started (by kernel_rfl) Tryd.func5
    (witness_row_at (enc := enc) (C := Tryd.checked) false (laidWorld os #[]) dmerge_args rfl (by kernel_rfl) (by kernel_rfl) (by kernel_rfl)
      (OpenSpec.preRow_of_cond 8 hx (by kernel_rfl) (fun k hk => by cases hk; kernel_rfl) (by kernel_rfl) (dmerge_met os))) ?_
  intro W base args ds gs before hval hW _ hc _ hL _ _
  exact dmerge_post H enc W base args ds gs before hval hW (hc _ rfl) hL

theorem dmerge_said : Rows.DirectoryMergeUptoSaid :=
  OpenClaim.holds_of_cond 5 Tryd.f5 rfl rfl rfl rfl rfl rfl rfl ⟨rfl, rfl, rfl, rfl, rfl⟩ rfl rfl rfl rfl rfl (by kernel_rfl) Tryd.func5 (by kernel_rfl)
    (of_decide_eq_true (by kernel_rfl)) (by unfold Func.isWrapper; first | (rw [if_pos (by decide +kernel)]; kernel_rfl) | (rw [if_neg (by decide +kernel)]; exact ⟨rfl, rfl⟩))
    (fun os started H enc _ F => by rw [OpenClaim.pre_eq_preRow]; exact dmerge_lifted os started H enc F)

theorem dmerge_plain (f : FuncId) (fn : Func) (hf : Tryd.pinned.checked.prog.funcNamed "bootchain/bootchainlaw36.DirectoryMerge" = some f) (hfn : Tryd.pinned.checked.prog.funcs[f]? = some fn) :
    false = Tryd.pinned.checked.prog.looks [] ∧ ∀ (j : Nat) t, fn.params[j]? = some t → Tryd.pinned.checked.prog.wantsStandIn t = false := by
  obtain rfl : f = 5 := Option.some.inj ((show Tryd.prog.funcNamed "bootchain/bootchainlaw36.DirectoryMerge" = some 5 by kernel_rfl).symm.trans hf) |>.symm
  obtain rfl : fn = Tryd.f5 := (Option.some.inj (Tryd.func5.symm.trans hfn)).symm
  refine ⟨by kernel_rfl, fun j t ht => ?_⟩
  rw [Tryd.params5] at ht
  have e : t = 27 := by simpa using Array.mem_of_getElem? ht
  subst e
  · exact (show Tryd.prog.wantsStandIn 27 = false by kernel_rfl)

theorem dmerge_proved : Rows.DirectoryMergeUptoCardSaid :=
  Claim7.holds_tied_plain_at .later [] _ _ _ _ dmerge_said (fun _ h => by cases h) (by kernel_rfl) (fun _ h => by cases h) directoryMergeUpto_row_tie rfl ⟨rfl, rfl⟩ (by kernel_rfl) rfl dmerge_plain (by kernel_rfl)
end Go.Proofs.YtjapdhaimbalkaaDoor
