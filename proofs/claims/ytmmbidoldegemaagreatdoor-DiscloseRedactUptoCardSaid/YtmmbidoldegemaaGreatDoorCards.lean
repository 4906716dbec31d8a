/-
  DERIVED. GIVEN WITH THE SEED: THE CARDS: each row of YtmmbidoldegemaaGreatDoorRows.lean that lists a variable, with what it lists TIED to the program's text (the seventh form; the later family's looks); each row that meets fmt, with fmt's text TOLD by the authors' own Lean function (tested against real Go, not proved from fmt's source: count such statements apart). THE CARD IS WHAT COUNTS. Prove the row's statement (the work); the ties are given (YtmmbidoldegemaaGreatDoorTie.lean); close each card by the builder's one call (the guide's Derived/Test/ToyasCard.lean, 'card_holds'). Laid BY PROGRAM, IN A SANDBOX (cutbox-door.mjs). By AI agents, Wed Nov 11 2026. No macro, syntax, notation, axiom, sorry.
-/
import Derived.Test.YtmmbidoldegemaaGreatDoorRows
import GoSem.ClaimSeven
namespace Go.Proofs.YtmmbidoldegemaaGreatDoor
namespace Rows

/-- THE TIED CARD OF 'bootchainlaw22.DiscloseMergeMatchesSpec'. -/
def discloseMergeMatchesSpecCard : Claim7 := { stood := { row := discloseMergeMatchesSpecRow, standIns := [], harness := (true, "6b40090e1a9725ba3c89840e14a42a94b1695cba4c5b1db1ceac7c2fde72ba05"), looks := false }, kinds := [], alts := [], laidByText := true, laidKinds := [.data, .data], laidTests := true, laidLooks := .later }
def DiscloseMergeMatchesSpecCardSaid : Prop := Claim7.holds Tryz.pinned (.plain (OpenSpec.ofChange discloseMergeMatchesSpecSpec)) discloseMergeMatchesSpecCard

/-- THE TIED CARD OF 'bootchainlaw22.DiscloseHonest'. -/
def discloseHonestCard : Claim7 := { stood := { row := discloseHonestRow, standIns := [], harness := (true, "6b40090e1a9725ba3c89840e14a42a94b1695cba4c5b1db1ceac7c2fde72ba05"), looks := false }, kinds := [], alts := [], laidByText := true, laidKinds := [.data, .data], laidTests := true, laidLooks := .later }
def DiscloseHonestCardSaid : Prop := Claim7.holds Tryz.pinned (.plain (OpenSpec.ofChange discloseHonestSpec)) discloseHonestCard

/-- THE TIED CARD OF 'bootchainlaw22.DiscloseRedact'. -/
def discloseRedactCard : Claim7 := { stood := { row := discloseRedactRow, standIns := [], harness := (true, "6b40090e1a9725ba3c89840e14a42a94b1695cba4c5b1db1ceac7c2fde72ba05"), looks := false }, kinds := [], alts := [], laidByText := true, laidKinds := [.data, .data], laidTests := true, laidLooks := .later }
def DiscloseRedactCardSaid : Prop := Claim7.holds Tryz.pinned (.plain (OpenSpec.ofChange discloseRedactSpec)) discloseRedactCard

/-- THE TIED CARD OF 'bootchainlaw22.DiscloseMerge'. -/
def discloseMergeCard : Claim7 := { stood := { row := discloseMergeRow, standIns := [], harness := (true, "6b40090e1a9725ba3c89840e14a42a94b1695cba4c5b1db1ceac7c2fde72ba05"), looks := false }, kinds := [], alts := [], laidByText := true, laidKinds := [.data, .data], laidTests := true, laidLooks := .later }
def DiscloseMergeCardSaid : Prop := Claim7.holds Tryz.pinned (.plain (OpenSpec.ofChange discloseMergeSpec)) discloseMergeCard

/-- THE TIED CARD OF 'bootchainlaw22.DiscloseTampered'. -/
def discloseTamperedCard : Claim7 := { stood := { row := discloseTamperedRow, standIns := [], harness := (true, "6b40090e1a9725ba3c89840e14a42a94b1695cba4c5b1db1ceac7c2fde72ba05"), looks := false }, kinds := [], alts := [], laidByText := true, laidKinds := [.data, .data], laidTests := true, laidLooks := .later }
def DiscloseTamperedCardSaid : Prop := Claim7.holds Tryz.pinned (.plain (OpenSpec.ofChange discloseTamperedSpec)) discloseTamperedCard

/-- THE SECOND FORM's CARD OF 'bootchainlaw22.DiscloseMergeMatchesSpec'. -/
def discloseMergeMatchesSpecUptoCard : Claim7 := { stood := { row := discloseMergeMatchesSpecUptoRow, standIns := [], harness := (true, "6b40090e1a9725ba3c89840e14a42a94b1695cba4c5b1db1ceac7c2fde72ba05"), looks := false }, kinds := [], alts := [], laidByText := true, laidKinds := [.data, .data], laidTests := true, laidLooks := .later }
def DiscloseMergeMatchesSpecUptoCardSaid : Prop := Claim7.holds Tryz.pinned (.plain (OpenSpec.upto discloseMergeMatchesSpecSpec)) discloseMergeMatchesSpecUptoCard

/-- THE SECOND FORM's CARD OF 'bootchainlaw22.DiscloseHonest'. -/
def discloseHonestUptoCard : Claim7 := { stood := { row := discloseHonestUptoRow, standIns := [], harness := (true, "6b40090e1a9725ba3c89840e14a42a94b1695cba4c5b1db1ceac7c2fde72ba05"), looks := false }, kinds := [], alts := [], laidByText := true, laidKinds := [.data, .data], laidTests := true, laidLooks := .later }
def DiscloseHonestUptoCardSaid : Prop := Claim7.holds Tryz.pinned (.plain (OpenSpec.upto discloseHonestSpec)) discloseHonestUptoCard

/-- THE SECOND FORM's CARD OF 'bootchainlaw22.DiscloseRedact'. -/
def discloseRedactUptoCard : Claim7 := { stood := { row := discloseRedactUptoRow, standIns := [], harness := (true, "6b40090e1a9725ba3c89840e14a42a94b1695cba4c5b1db1ceac7c2fde72ba05"), looks := false }, kinds := [], alts := [], laidByText := true, laidKinds := [.data, .data], laidTests := true, laidLooks := .later }
def DiscloseRedactUptoCardSaid : Prop := Claim7.holds Tryz.pinned (.plain (OpenSpec.upto discloseRedactSpec)) discloseRedactUptoCard

/-- THE SECOND FORM's CARD OF 'bootchainlaw22.DiscloseMerge'. -/
def discloseMergeUptoCard : Claim7 := { stood := { row := discloseMergeUptoRow, standIns := [], harness := (true, "6b40090e1a9725ba3c89840e14a42a94b1695cba4c5b1db1ceac7c2fde72ba05"), looks := false }, kinds := [], alts := [], laidByText := true, laidKinds := [.data, .data], laidTests := true, laidLooks := .later }
def DiscloseMergeUptoCardSaid : Prop := Claim7.holds Tryz.pinned (.plain (OpenSpec.upto discloseMergeSpec)) discloseMergeUptoCard

/-- THE SECOND FORM's CARD OF 'bootchainlaw22.DiscloseTampered'. -/
def discloseTamperedUptoCard : Claim7 := { stood := { row := discloseTamperedUptoRow, standIns := [], harness := (true, "6b40090e1a9725ba3c89840e14a42a94b1695cba4c5b1db1ceac7c2fde72ba05"), looks := false }, kinds := [], alts := [], laidByText := true, laidKinds := [.data, .data], laidTests := true, laidLooks := .later }
def DiscloseTamperedUptoCardSaid : Prop := Claim7.holds Tryz.pinned (.plain (OpenSpec.upto discloseTamperedSpec)) discloseTamperedUptoCard
end Rows
end Go.Proofs.YtmmbidoldegemaaGreatDoor
