/- Package vm: how what comes in is read; the table of the instructions. -/
import Derived.Test.YtmbdbfdlbbkclaaDoorUN
import Derived.Test.YtmbdbfdlbbkclaaDoorSlW
import Derived.Test.YtmbdbfdlbbkclaaDoorSlV
import Derived.Test.YtmbdbfdlbbkclaaDoorCards
import Derived.Test.YtmbdbfdlbbkclaaDoorTie
import Derived.Deep.DeepHandedRow
import Derived.LaidMore
import Derived.Stop.LaidErr
import Derived.Stop.Joined
namespace Go.Proofs.YtmbdbfdlbbkclaaDoor
set_option linter.unusedSimpArgs false
set_option linter.unusedVariables false
open Go.RowKit Go.Sl Go.ChangeShapes Go.WideShapes Go.ChangeAt

theorem own : ownKnob Tryd.prog.godebug = none := by kernel_rfl
theorem nil_of_trod {P : Program} {w : World} {base : Nat} {sp : Nat → Bool} {fuel : Nat} {t : TypeId} {ps rs : Array TypeId} {va : Bool} {v : Value} {q : List MemPlace}
    (ht : P.underlying t = some (.func ps rs va)) (h : DataW.trod (funcToken P) P w base sp true fuel t [v] = some (.nil, q)) : v = .nilFunc := by
  cases fuel with
  | zero => simp [DataW.trod] at h
  | succ n => cases v <;> simp [DataW.trod, ht] at h <;> rfl
theorem take_one {cs : List Value} {i : Nat} (h : i < cs.length) : (cs.drop (i * 1)).take 1 = [cs[i]] := by
  rw [Nat.mul_one, List.drop_eq_getElem_cons h]
  rfl
set_option maxRecDepth 20000 in
theorem tab_of {W : World} (h : laidMetH Tryd.prog [("bootchain/vm.instructions", Rows.laid_bootchain_vm_instructions)] W) : Tab (snapOf W) := by
  obtain ⟨g, t, cs, fuel, p, hg, ht, hv, hd⟩ := h.funcs (List.mem_singleton.2 rfl)
  obtain rfl := Option.some.inj ((show Tryd.prog.globalNamed "bootchain/vm.instructions" = some 0 by kernel_rfl).symm.trans hg)
  obtain rfl := Option.some.inj ((show (Tryd.prog.globals[0]?).map (·.type) = some 61 by kernel_rfl).symm.trans ht)
  obtain ⟨xs, m, _, hx, hl, hxl, hf⟩ := DataW.trod_array (arr61).u hd
  have hc1 : Tryd.prog.cellsOf 60 = 1 := by kernel_rfl
  have hc18 : Tryd.prog.cellsOf 61 = 18 := by kernel_rfl
  rw [hc18] at hl
  have hm := (DataW.agg.inj (congrArg Prod.fst hx)).symm
  have hcell : ∀ i (hi : i < cs.toList.length) (d : DataW (List UInt8)), (xs.map (·.1))[i]? = some d → ∃ q, DataW.trod (funcToken Tryd.prog) Tryd.prog W 0 (fun _ => true) true m 60 [cs.toList[i]] = some (d, q) := fun i hi d hd => by
    have h1 := hf i (by omega)
    rw [hc1, take_one hi] at h1
    rw [List.getElem?_map] at hd
    cases e : xs[i]? with
    | none => rw [e] at hd; cases hd
    | some y => rw [e] at hd h1; cases hd; exact ⟨y.2, h1⟩
  rw [hm] at hcell
  have hU := Tryd.underlying60
  have k0 : cs.toList[0]'(by omega) = .nilFunc := let ⟨q, hq⟩ := hcell 0 (by omega) _ rfl; nil_of_trod hU hq
  have k1 : cs.toList[1]'(by omega) = .func (.func 46) #[] #[] := let ⟨q, hq⟩ := hcell 1 (by omega) _ rfl; func_of_trod (f0 := 46) hU (by kernel_rfl) hq
  have k2 : cs.toList[2]'(by omega) = .func (.func 47) #[] #[] := let ⟨q, hq⟩ := hcell 2 (by omega) _ rfl; func_of_trod (f0 := 47) hU (by kernel_rfl) hq
  have k3 : cs.toList[3]'(by omega) = .func (.func 48) #[] #[] := let ⟨q, hq⟩ := hcell 3 (by omega) _ rfl; func_of_trod (f0 := 48) hU (by kernel_rfl) hq
  have k4 : cs.toList[4]'(by omega) = .func (.func 49) #[] #[] := let ⟨q, hq⟩ := hcell 4 (by omega) _ rfl; func_of_trod (f0 := 49) hU (by kernel_rfl) hq
  have k5 : cs.toList[5]'(by omega) = .func (.func 49) #[] #[] := let ⟨q, hq⟩ := hcell 5 (by omega) _ rfl; func_of_trod (f0 := 49) hU (by kernel_rfl) hq
  have k6 : cs.toList[6]'(by omega) = .func (.func 49) #[] #[] := let ⟨q, hq⟩ := hcell 6 (by omega) _ rfl; func_of_trod (f0 := 49) hU (by kernel_rfl) hq
  have k7 : cs.toList[7]'(by omega) = .func (.func 49) #[] #[] := let ⟨q, hq⟩ := hcell 7 (by omega) _ rfl; func_of_trod (f0 := 49) hU (by kernel_rfl) hq
  have k8 : cs.toList[8]'(by omega) = .func (.func 49) #[] #[] := let ⟨q, hq⟩ := hcell 8 (by omega) _ rfl; func_of_trod (f0 := 49) hU (by kernel_rfl) hq
  have k9 : cs.toList[9]'(by omega) = .func (.func 49) #[] #[] := let ⟨q, hq⟩ := hcell 9 (by omega) _ rfl; func_of_trod (f0 := 49) hU (by kernel_rfl) hq
  have k10 : cs.toList[10]'(by omega) = .func (.func 49) #[] #[] := let ⟨q, hq⟩ := hcell 10 (by omega) _ rfl; func_of_trod (f0 := 49) hU (by kernel_rfl) hq
  have k11 : cs.toList[11]'(by omega) = .func (.func 50) #[] #[] := let ⟨q, hq⟩ := hcell 11 (by omega) _ rfl; func_of_trod (f0 := 50) hU (by kernel_rfl) hq
  have k12 : cs.toList[12]'(by omega) = .func (.func 51) #[] #[] := let ⟨q, hq⟩ := hcell 12 (by omega) _ rfl; func_of_trod (f0 := 51) hU (by kernel_rfl) hq
  have k13 : cs.toList[13]'(by omega) = .func (.func 52) #[] #[] := let ⟨q, hq⟩ := hcell 13 (by omega) _ rfl; func_of_trod (f0 := 52) hU (by kernel_rfl) hq
  have k14 : cs.toList[14]'(by omega) = .func (.func 53) #[] #[] := let ⟨q, hq⟩ := hcell 14 (by omega) _ rfl; func_of_trod (f0 := 53) hU (by kernel_rfl) hq
  have k15 : cs.toList[15]'(by omega) = .func (.func 54) #[] #[] := let ⟨q, hq⟩ := hcell 15 (by omega) _ rfl; func_of_trod (f0 := 54) hU (by kernel_rfl) hq
  have k16 : cs.toList[16]'(by omega) = .func (.func 54) #[] #[] := let ⟨q, hq⟩ := hcell 16 (by omega) _ rfl; func_of_trod (f0 := 54) hU (by kernel_rfl) hq
  have k17 : cs.toList[17]'(by omega) = .func (.func 55) #[] #[] := let ⟨q, hq⟩ := hcell 17 (by omega) _ rfl; func_of_trod (f0 := 55) hU (by kernel_rfl) hq
  have hcs : cs.toList = tabV.map (·.v) := by
    apply List.ext_getElem (by rw [hl]; rfl)
    intro i h1 h2
    have hi : i < 18 := by omega
    rw [List.getElem_map]
    have hcase : i = 0 ∨ i = 1 ∨ i = 2 ∨ i = 3 ∨ i = 4 ∨ i = 5 ∨ i = 6 ∨ i = 7 ∨ i = 8 ∨ i = 9 ∨ i = 10 ∨ i = 11 ∨ i = 12 ∨ i = 13 ∨ i = 14 ∨ i = 15 ∨ i = 16 ∨ i = 17 := by omega
    rcases hcase with rfl | rfl | rfl | rfl | rfl | rfl | rfl | rfl | rfl | rfl | rfl | rfl | rfl | rfl | rfl | rfl | rfl | rfl
    · exact k0
    · exact k1
    · exact k2
    · exact k3
    · exact k4
    · exact k5
    · exact k6
    · exact k7
    · exact k8
    · exact k9
    · exact k10
    · exact k11
    · exact k12
    · exact k13
    · exact k14
    · exact k15
    · exact k16
    · exact k17
  unfold World.var? at hv
  rw [show Tryd.prog.globalNamed "bootchain/vm.instructions" = some 0 by kernel_rfl] at hv
  simp only [Option.bind_some] at hv
  split at hv
  · rename_i c T fz hc
    obtain rfl := Option.some.inj hv
    refine ⟨0, 0, _, T, fz, rfl, hc, ?_⟩
    have hz : Rep.z (Arr Fv 18) = 18 := rfl
    rw [hz, List.drop_zero, List.take_of_length_le (by omega), hcs]
    refine ⟨rfl, rfl, fun j x hx => ?_⟩
    have hz2 : Rep.z Fv = 1 := rfl
    have hj : j < tabV.length := (List.getElem?_eq_some_iff.1 hx).1
    rw [hz2, take_one (by rw [List.length_map]; exact hj), List.getElem_map]
    obtain ⟨_, rfl⟩ := List.getElem?_eq_some_iff.1 hx
    refine ⟨rfl, ?_⟩
    have hall : tabV.all (fun x => x.v.oneCell') = true := by kernel_rfl
    exact List.all_eq_true.1 hall _ (List.getElem_mem hj)
  · cases hv

/-- A world for the witness: the settled one, the table laid. -/
def layCells (cs : List Value) : Obj → Obj
  | .cells _ t frozen => .cells cs.toArray t frozen
  | o => o
noncomputable def laidWorld (os : Os) (is : Array Value) : World :=
  { World.holding Tryd.prog os ⟨#[], is, []⟩ with heap := (World.holding Tryd.prog os ⟨#[], is, []⟩).heap.modify 0 (layCells (tabV.map (·.v))) }

set_option maxRecDepth 20000 in
theorem open_u16 {H : Type} {enc : TypeId × Value → H} {W : World} {base : Nat} {v : Value} {d : DataW H} {p : List MemPlace} (hv : Value.okWide Tryd.prog W .any base 34 v) (h : DataW.Trod enc Tryd.prog W 0 (fun _ => true) true 34 v d p) :
    ∃ n : Nat, v = .int .u16 (n : Int) ∧ n ≤ 65535 := by
  obtain ⟨n, rfl, _, _, wf⟩ := open_int Tryd.underlying34 hv h
  have hn : 0 ≤ n ∧ n ≤ 65535 := by simpa [Lit.wf, IntKind.min, IntKind.max, IntKind.signed, IntKind.bits, I64] using wf
  exact ⟨n.toNat, by rw [Int.toNat_of_nonneg hn.1], by omega⟩
end Go.Proofs.YtmbdbfdlbbkclaaDoor
