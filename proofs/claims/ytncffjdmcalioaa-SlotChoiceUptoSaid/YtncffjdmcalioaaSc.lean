/- Package slot: comparisons of slots and of states. -/
import Derived.Test.YtncffjdmcalioaaSb
namespace Go.Proofs.Ytncffjdmcalioaa
set_option linter.unusedSimpArgs false
set_option linter.unusedVariables false
open Go.RowKit Go.Sl

abbrev TSl := Int × Int × Int × Unit
abbrev TSt := Arr TSl 2 × Unit
def Sx.d (x : Sx) : TSl := (x.s, x.v, x.t, ())
def stD (x y : Sx) : TSt := (⟨[x.d, y.d]⟩, ())

theorem stD_inj {x y p q : Sx} : stD x y = stD p q ↔ x = p ∧ y = q := by
  cases x; cases y; cases p; cases q
  simp [stD, Sx.d]
theorem d_inj {x y : Sx} : x.d = y.d ↔ x = y := by
  cases x; cases y
  simp [Sx.d]

instance keyI : Key Try.prog 3 Int 1 := key_int (by kernel_rfl)
instance key_sl : Key Try.prog 23 TSl 2 := by
  refine key_struct (d := 1) Try.underlying23 (by kernel_rfl) (by kernel_rfl) ?_
  simp only [List.toList_toArray]
  haveI k3 : KeyFs Try.prog [] 3 Unit 0 := keyFs_nil
  exact keyFs_cons (d := 1) (d' := 1) rfl (by kernel_rfl) (kb := keyFs_cons (d := 1) (d' := 1) rfl (by kernel_rfl) (kb := keyFs_cons (d := 1) (d' := 0) rfl (by kernel_rfl) (kb := k3)))
instance key_arr2 : Key Try.prog 24 (Arr TSl 2) 3 := key_arr inferInstance (by kernel_rfl) (by kernel_rfl) (by decide)
instance key_st : Key Try.prog 26 TSt 4 := by
  refine key_struct (d := 3) Try.underlying26 (by kernel_rfl) (by kernel_rfl) ?_
  simp only [List.toList_toArray]
  haveI k6 : KeyFs Try.prog [] 6 Unit 0 := keyFs_nil
  exact keyFs_cons (d := 3) (d' := 0) rfl (by kernel_rfl) (kb := k6)
instance eqt_sl : EqTy Try.prog 23 := ⟨by kernel_rfl, by kernel_rfl, by kernel_rfl⟩
instance eqt_st : EqTy Try.prog 26 := ⟨by kernel_rfl, by kernel_rfl, by kernel_rfl⟩

/-- The slot's numbers are integers of the machine. -/
def Sx.big (x : Sx) : Prop := I64 x.s ∧ I64 x.v ∧ I64 x.t
theorem Sx.ok.big {x : Sx} (h : x.ok) : x.big := by unfold Sx.ok at h; unfold Sx.big I64; omega

theorem r_sl {S : Snap} {x : Sx} (h : x.big) : Rep.R S [.int .i64 x.s, .int .i64 x.v, .int .i64 x.t] x.d :=
  prod_mk (cs := [_]) ⟨rfl, h.1⟩ (prod_mk (cs := [_]) ⟨rfl, h.2.1⟩ (prod_mk (cs := [_]) ⟨rfl, h.2.2⟩ unit_mk))
theorem r_st {S : Snap} {x y : Sx} (h : x.big) (h' : y.big) : Rep.R S [.int .i64 x.s, .int .i64 x.v, .int .i64 x.t, .int .i64 y.s, .int .i64 y.v, .int .i64 y.t] (stD x y) :=
  prod_mk (cs := [_, _, _, _, _, _]) ⟨rfl, RL.append (RL.one_mk (r_sl h)) (RL.one_mk (r_sl h'))⟩ unit_mk
end Go.Proofs.Ytncffjdmcalioaa
