/-
  DERIVED. GIVEN WITH THE SEED: THE CARDS: each row of YtlimhgamebnfeaaDoorRows.lean that lists a variable, with what it lists TIED to the program's text (the seventh form; the later family's looks); each row that meets fmt, with fmt's text TOLD by the authors' own Lean function (tested against real Go, not proved from fmt's source: count such statements apart). THE CARD IS WHAT COUNTS. Prove the row's statement (the work); the ties are given (YtlimhgamebnfeaaDoorTie.lean); close each card by the builder's one call (the guide's Derived/Test/ToyasCard.lean, 'card_holds'). Laid BY PROGRAM, IN A SANDBOX (cutbox-door.mjs). By AI agents, Wed Nov 11 2026. No macro, syntax, notation, axiom, sorry.
-/
import Derived.Test.YtlimhgamebnfeaaDoorRows
import GoSem.ClaimSeven
namespace Go.Proofs.YtlimhgamebnfeaaDoor
namespace Rows

/-- THE TIED CARD OF 'bootchainlaw23.ManifestEncodesAsSpecified'. -/
def manifestEncodesAsSpecifiedCard : Claim7 := { stood := { row := manifestEncodesAsSpecifiedRow, standIns := [], harness := (true, "bcc8a3bbaf420e9c67de3ebc42e2a063c38d8782bf648b65eff2e64d1ac41b4c"), looks := false }, kinds := [], alts := [], laidByText := true, laidKinds := [.data, .data], laidTests := true, laidLooks := .later }
def ManifestEncodesAsSpecifiedCardSaid : Prop := Claim7.holds Tryd.pinned (.plain (OpenSpec.ofChange manifestEncodesAsSpecifiedSpec)) manifestEncodesAsSpecifiedCard

/-- THE TIED CARD OF 'bootchainlaw23.ManifestSeparates'. -/
def manifestSeparatesCard : Claim7 := { stood := { row := manifestSeparatesRow, standIns := [], harness := (true, "bcc8a3bbaf420e9c67de3ebc42e2a063c38d8782bf648b65eff2e64d1ac41b4c"), looks := false }, kinds := [], alts := [], laidByText := true, laidKinds := [.data, .data], laidTests := true, laidLooks := .later }
def ManifestSeparatesCardSaid : Prop := Claim7.holds Tryd.pinned (.plain (OpenSpec.ofChange manifestSeparatesSpec)) manifestSeparatesCard

/-- THE TIED CARD OF 'bootchainlaw23.ManifestDecodesAsSpecified'. -/
def manifestDecodesAsSpecifiedCard : Claim7 := { stood := { row := manifestDecodesAsSpecifiedRow, standIns := [], harness := (true, "bcc8a3bbaf420e9c67de3ebc42e2a063c38d8782bf648b65eff2e64d1ac41b4c"), looks := false }, kinds := [], alts := [], laidByText := true, laidKinds := [.data, .data], laidTests := true, laidLooks := .later }
def ManifestDecodesAsSpecifiedCardSaid : Prop := Claim7.holds Tryd.pinned (.plain (OpenSpec.ofChange manifestDecodesAsSpecifiedSpec)) manifestDecodesAsSpecifiedCard

/-- THE TIED CARD OF 'bootchainlaw23.ManifestDetectsLength'. -/
def manifestDetectsLengthCard : Claim7 := { stood := { row := manifestDetectsLengthRow, standIns := [], harness := (true, "bcc8a3bbaf420e9c67de3ebc42e2a063c38d8782bf648b65eff2e64d1ac41b4c"), looks := false }, kinds := [], alts := [], laidByText := true, laidKinds := [.data, .data], laidTests := true, laidLooks := .later }
def ManifestDetectsLengthCardSaid : Prop := Claim7.holds Tryd.pinned (.plain (OpenSpec.ofChange manifestDetectsLengthSpec)) manifestDetectsLengthCard

/-- THE TIED CARD OF 'bootchainlaw23.ManifestRoundTrip'. -/
def manifestRoundTripCard : Claim7 := { stood := { row := manifestRoundTripRow, standIns := [], harness := (true, "bcc8a3bbaf420e9c67de3ebc42e2a063c38d8782bf648b65eff2e64d1ac41b4c"), looks := false }, kinds := [], alts := [], laidByText := true, laidKinds := [.data, .data], laidTests := true, laidLooks := .later }
def ManifestRoundTripCardSaid : Prop := Claim7.holds Tryd.pinned (.plain (OpenSpec.ofChange manifestRoundTripSpec)) manifestRoundTripCard

/-- THE TIED CARD OF 'bootchainlaw23.ManifestIsCanonical'. -/
def manifestIsCanonicalCard : Claim7 := { stood := { row := manifestIsCanonicalRow, standIns := [], harness := (true, "bcc8a3bbaf420e9c67de3ebc42e2a063c38d8782bf648b65eff2e64d1ac41b4c"), looks := false }, kinds := [], alts := [], laidByText := true, laidKinds := [.data, .data], laidTests := true, laidLooks := .later }
def ManifestIsCanonicalCardSaid : Prop := Claim7.holds Tryd.pinned (.plain (OpenSpec.ofChange manifestIsCanonicalSpec)) manifestIsCanonicalCard

/-- THE SECOND FORM's CARD OF 'bootchainlaw23.ManifestEncodesAsSpecified'. -/
def manifestEncodesAsSpecifiedUptoCard : Claim7 := { stood := { row := manifestEncodesAsSpecifiedUptoRow, standIns := [], harness := (true, "bcc8a3bbaf420e9c67de3ebc42e2a063c38d8782bf648b65eff2e64d1ac41b4c"), looks := false }, kinds := [], alts := [], laidByText := true, laidKinds := [.data, .data], laidTests := true, laidLooks := .later }
def ManifestEncodesAsSpecifiedUptoCardSaid : Prop := Claim7.holds Tryd.pinned (.plain (OpenSpec.upto manifestEncodesAsSpecifiedSpec)) manifestEncodesAsSpecifiedUptoCard

/-- THE SECOND FORM's CARD OF 'bootchainlaw23.ManifestSeparates'. -/
def manifestSeparatesUptoCard : Claim7 := { stood := { row := manifestSeparatesUptoRow, standIns := [], harness := (true, "bcc8a3bbaf420e9c67de3ebc42e2a063c38d8782bf648b65eff2e64d1ac41b4c"), looks := false }, kinds := [], alts := [], laidByText := true, laidKinds := [.data, .data], laidTests := true, laidLooks := .later }
def ManifestSeparatesUptoCardSaid : Prop := Claim7.holds Tryd.pinned (.plain (OpenSpec.upto manifestSeparatesSpec)) manifestSeparatesUptoCard

/-- THE SECOND FORM's CARD OF 'bootchainlaw23.ManifestDecodesAsSpecified'. -/
def manifestDecodesAsSpecifiedUptoCard : Claim7 := { stood := { row := manifestDecodesAsSpecifiedUptoRow, standIns := [], harness := (true, "bcc8a3bbaf420e9c67de3ebc42e2a063c38d8782bf648b65eff2e64d1ac41b4c"), looks := false }, kinds := [], alts := [], laidByText := true, laidKinds := [.data, .data], laidTests := true, laidLooks := .later }
def ManifestDecodesAsSpecifiedUptoCardSaid : Prop := Claim7.holds Tryd.pinned (.plain (OpenSpec.upto manifestDecodesAsSpecifiedSpec)) manifestDecodesAsSpecifiedUptoCard

/-- THE SECOND FORM's CARD OF 'bootchainlaw23.ManifestDetectsLength'. -/
def manifestDetectsLengthUptoCard : Claim7 := { stood := { row := manifestDetectsLengthUptoRow, standIns := [], harness := (true, "bcc8a3bbaf420e9c67de3ebc42e2a063c38d8782bf648b65eff2e64d1ac41b4c"), looks := false }, kinds := [], alts := [], laidByText := true, laidKinds := [.data, .data], laidTests := true, laidLooks := .later }
def ManifestDetectsLengthUptoCardSaid : Prop := Claim7.holds Tryd.pinned (.plain (OpenSpec.upto manifestDetectsLengthSpec)) manifestDetectsLengthUptoCard

/-- THE SECOND FORM's CARD OF 'bootchainlaw23.ManifestRoundTrip'. -/
def manifestRoundTripUptoCard : Claim7 := { stood := { row := manifestRoundTripUptoRow, standIns := [], harness := (true, "bcc8a3bbaf420e9c67de3ebc42e2a063c38d8782bf648b65eff2e64d1ac41b4c"), looks := false }, kinds := [], alts := [], laidByText := true, laidKinds := [.data, .data], laidTests := true, laidLooks := .later }
def ManifestRoundTripUptoCardSaid : Prop := Claim7.holds Tryd.pinned (.plain (OpenSpec.upto manifestRoundTripSpec)) manifestRoundTripUptoCard

/-- THE SECOND FORM's CARD OF 'bootchainlaw23.ManifestIsCanonical'. -/
def manifestIsCanonicalUptoCard : Claim7 := { stood := { row := manifestIsCanonicalUptoRow, standIns := [], harness := (true, "bcc8a3bbaf420e9c67de3ebc42e2a063c38d8782bf648b65eff2e64d1ac41b4c"), looks := false }, kinds := [], alts := [], laidByText := true, laidKinds := [.data, .data], laidTests := true, laidLooks := .later }
def ManifestIsCanonicalUptoCardSaid : Prop := Claim7.holds Tryd.pinned (.plain (OpenSpec.upto manifestIsCanonicalSpec)) manifestIsCanonicalUptoCard
end Rows
end Go.Proofs.YtlimhgamebnfeaaDoor
