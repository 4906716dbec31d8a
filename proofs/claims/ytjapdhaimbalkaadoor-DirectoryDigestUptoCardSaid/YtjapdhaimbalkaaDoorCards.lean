/-
  DERIVED. GIVEN WITH THE SEED: THE CARDS: each row of YtjapdhaimbalkaaDoorRows.lean that lists a variable, with what it lists TIED to the program's text (the seventh form; the later family's looks); each row that meets fmt, with fmt's text TOLD by the authors' own Lean function (tested against real Go, not proved from fmt's source: count such statements apart). THE CARD IS WHAT COUNTS. Prove the row's statement (the work); the ties are given (YtjapdhaimbalkaaDoorTie.lean); close each card by the builder's one call (the guide's Derived/Test/ToyasCard.lean, 'card_holds'). Laid BY PROGRAM, IN A SANDBOX (cutbox-door.mjs). By AI agents, Wed Nov 11 2026. No macro, syntax, notation, axiom, sorry.
-/
import Derived.Test.YtjapdhaimbalkaaDoorRows
import GoSem.ClaimSeven
namespace Go.Proofs.YtjapdhaimbalkaaDoor
namespace Rows

/-- THE TIED CARD OF 'bootchainlaw36.DirectoryOrder'. -/
def directoryOrderCard : Claim7 := { stood := { row := directoryOrderRow, standIns := [], harness := (true, "db99068bab8d719dd8320de05ec47cf046f4e8c321b0bbb5be84f39a51c9e89f"), looks := false }, kinds := [], alts := [], laidByText := true, laidKinds := [.data, .data], laidTests := true, laidLooks := .later }
def DirectoryOrderCardSaid : Prop := Claim7.holds Tryd.pinned (.plain (OpenSpec.ofChange directoryOrderSpec)) directoryOrderCard

/-- THE TIED CARD OF 'bootchainlaw36.DirectoryMatches'. -/
def directoryMatchesCard : Claim7 := { stood := { row := directoryMatchesRow, standIns := [], harness := (true, "db99068bab8d719dd8320de05ec47cf046f4e8c321b0bbb5be84f39a51c9e89f"), looks := false }, kinds := [], alts := [], laidByText := true, laidKinds := [.data, .data], laidTests := true, laidLooks := .later }
def DirectoryMatchesCardSaid : Prop := Claim7.holds Tryd.pinned (.plain (OpenSpec.ofChange directoryMatchesSpec)) directoryMatchesCard

/-- THE TIED CARD OF 'bootchainlaw36.DirectoryMerge'. -/
def directoryMergeCard : Claim7 := { stood := { row := directoryMergeRow, standIns := [], harness := (true, "db99068bab8d719dd8320de05ec47cf046f4e8c321b0bbb5be84f39a51c9e89f"), looks := false }, kinds := [], alts := [], laidByText := true, laidKinds := [.data, .data], laidTests := true, laidLooks := .later }
def DirectoryMergeCardSaid : Prop := Claim7.holds Tryd.pinned (.plain (OpenSpec.ofChange directoryMergeSpec)) directoryMergeCard

/-- THE TIED CARD OF 'bootchainlaw36.DirectoryGrows'. -/
def directoryGrowsCard : Claim7 := { stood := { row := directoryGrowsRow, standIns := [], harness := (true, "db99068bab8d719dd8320de05ec47cf046f4e8c321b0bbb5be84f39a51c9e89f"), looks := false }, kinds := [], alts := [], laidByText := true, laidKinds := [.data, .data], laidTests := true, laidLooks := .later }
def DirectoryGrowsCardSaid : Prop := Claim7.holds Tryd.pinned (.plain (OpenSpec.ofChange directoryGrowsSpec)) directoryGrowsCard

/-- THE TIED CARD OF 'bootchainlaw36.DirectoryDigest'. -/
def directoryDigestCard : Claim7 := { stood := { row := directoryDigestRow, standIns := [], harness := (true, "db99068bab8d719dd8320de05ec47cf046f4e8c321b0bbb5be84f39a51c9e89f"), looks := false }, kinds := [], alts := [], laidByText := true, laidKinds := [.data, .data], laidTests := true, laidLooks := .later }
def DirectoryDigestCardSaid : Prop := Claim7.holds Tryd.pinned (.plain (OpenSpec.ofChange directoryDigestSpec)) directoryDigestCard

/-- THE TIED CARD OF 'bootchainlaw36.DirectoryLookups'. -/
def directoryLookupsCard : Claim7 := { stood := { row := directoryLookupsRow, standIns := [], harness := (true, "db99068bab8d719dd8320de05ec47cf046f4e8c321b0bbb5be84f39a51c9e89f"), looks := false }, kinds := [], alts := [], laidByText := true, laidKinds := [.data, .data], laidTests := true, laidLooks := .later }
def DirectoryLookupsCardSaid : Prop := Claim7.holds Tryd.pinned (.plain (OpenSpec.ofChange directoryLookupsSpec)) directoryLookupsCard

/-- THE SECOND FORM's CARD OF 'bootchainlaw36.DirectoryOrder'. -/
def directoryOrderUptoCard : Claim7 := { stood := { row := directoryOrderUptoRow, standIns := [], harness := (true, "db99068bab8d719dd8320de05ec47cf046f4e8c321b0bbb5be84f39a51c9e89f"), looks := false }, kinds := [], alts := [], laidByText := true, laidKinds := [.data, .data], laidTests := true, laidLooks := .later }
def DirectoryOrderUptoCardSaid : Prop := Claim7.holds Tryd.pinned (.plain (OpenSpec.upto directoryOrderSpec)) directoryOrderUptoCard

/-- THE SECOND FORM's CARD OF 'bootchainlaw36.DirectoryMatches'. -/
def directoryMatchesUptoCard : Claim7 := { stood := { row := directoryMatchesUptoRow, standIns := [], harness := (true, "db99068bab8d719dd8320de05ec47cf046f4e8c321b0bbb5be84f39a51c9e89f"), looks := false }, kinds := [], alts := [], laidByText := true, laidKinds := [.data, .data], laidTests := true, laidLooks := .later }
def DirectoryMatchesUptoCardSaid : Prop := Claim7.holds Tryd.pinned (.plain (OpenSpec.upto directoryMatchesSpec)) directoryMatchesUptoCard

/-- THE SECOND FORM's CARD OF 'bootchainlaw36.DirectoryMerge'. -/
def directoryMergeUptoCard : Claim7 := { stood := { row := directoryMergeUptoRow, standIns := [], harness := (true, "db99068bab8d719dd8320de05ec47cf046f4e8c321b0bbb5be84f39a51c9e89f"), looks := false }, kinds := [], alts := [], laidByText := true, laidKinds := [.data, .data], laidTests := true, laidLooks := .later }
def DirectoryMergeUptoCardSaid : Prop := Claim7.holds Tryd.pinned (.plain (OpenSpec.upto directoryMergeSpec)) directoryMergeUptoCard

/-- THE SECOND FORM's CARD OF 'bootchainlaw36.DirectoryGrows'. -/
def directoryGrowsUptoCard : Claim7 := { stood := { row := directoryGrowsUptoRow, standIns := [], harness := (true, "db99068bab8d719dd8320de05ec47cf046f4e8c321b0bbb5be84f39a51c9e89f"), looks := false }, kinds := [], alts := [], laidByText := true, laidKinds := [.data, .data], laidTests := true, laidLooks := .later }
def DirectoryGrowsUptoCardSaid : Prop := Claim7.holds Tryd.pinned (.plain (OpenSpec.upto directoryGrowsSpec)) directoryGrowsUptoCard

/-- THE SECOND FORM's CARD OF 'bootchainlaw36.DirectoryDigest'. -/
def directoryDigestUptoCard : Claim7 := { stood := { row := directoryDigestUptoRow, standIns := [], harness := (true, "db99068bab8d719dd8320de05ec47cf046f4e8c321b0bbb5be84f39a51c9e89f"), looks := false }, kinds := [], alts := [], laidByText := true, laidKinds := [.data, .data], laidTests := true, laidLooks := .later }
def DirectoryDigestUptoCardSaid : Prop := Claim7.holds Tryd.pinned (.plain (OpenSpec.upto directoryDigestSpec)) directoryDigestUptoCard

/-- THE SECOND FORM's CARD OF 'bootchainlaw36.DirectoryLookups'. -/
def directoryLookupsUptoCard : Claim7 := { stood := { row := directoryLookupsUptoRow, standIns := [], harness := (true, "db99068bab8d719dd8320de05ec47cf046f4e8c321b0bbb5be84f39a51c9e89f"), looks := false }, kinds := [], alts := [], laidByText := true, laidKinds := [.data, .data], laidTests := true, laidLooks := .later }
def DirectoryLookupsUptoCardSaid : Prop := Claim7.holds Tryd.pinned (.plain (OpenSpec.upto directoryLookupsSpec)) directoryLookupsUptoCard
end Rows
end Go.Proofs.YtjapdhaimbalkaaDoor
