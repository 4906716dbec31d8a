/-
  DERIVED. GIVEN WITH THE SEED: THE CARDS: each row of YtgihhhdeoaplhaaDoorRows.lean that lists a variable, with what it lists TIED to the program's text (the seventh form; the later family's looks); each row that meets fmt, with fmt's text TOLD by the authors' own Lean function (tested against real Go, not proved from fmt's source: count such statements apart). THE CARD IS WHAT COUNTS. Prove the row's statement (the work); the ties are given (YtgihhhdeoaplhaaDoorTie.lean); close each card by the builder's one call (the guide's Derived/Test/ToyasCard.lean, 'card_holds'). Laid BY PROGRAM, IN A SANDBOX (cutbox-door.mjs). By AI agents, Wed Nov 11 2026. No macro, syntax, notation, axiom, sorry.
-/
import Derived.Test.YtgihhhdeoaplhaaDoorRows
import GoSem.ClaimSeven
namespace Go.Proofs.YtgihhhdeoaplhaaDoor
namespace Rows

/-- THE TIED CARD OF 'bootchainlaw21.EvidenceMake'. -/
def evidenceMakeCard : Claim7 := { stood := { row := evidenceMakeRow, standIns := [], harness := (true, "193f4263b6477a739363ad61e8e51c0327cb5eb90e4cad74a6f75854c6d274d0"), looks := false }, kinds := [], alts := [], laidByText := true, laidKinds := [.data, .data], laidTests := true, laidLooks := .later }
def EvidenceMakeCardSaid : Prop := Claim7.holds Tryd.pinned (.plain (OpenSpec.ofChange evidenceMakeSpec)) evidenceMakeCard

/-- THE TIED CARD OF 'bootchainlaw21.EvidenceCheck'. -/
def evidenceCheckCard : Claim7 := { stood := { row := evidenceCheckRow, standIns := [], harness := (true, "193f4263b6477a739363ad61e8e51c0327cb5eb90e4cad74a6f75854c6d274d0"), looks := false }, kinds := [], alts := [], laidByText := true, laidKinds := [.data, .data], laidTests := true, laidLooks := .later }
def EvidenceCheckCardSaid : Prop := Claim7.holds Tryd.pinned (.plain (OpenSpec.ofChange evidenceCheckSpec)) evidenceCheckCard

/-- THE TIED CARD OF 'bootchainlaw21.EvidenceComplete'. -/
def evidenceCompleteCard : Claim7 := { stood := { row := evidenceCompleteRow, standIns := [], harness := (true, "193f4263b6477a739363ad61e8e51c0327cb5eb90e4cad74a6f75854c6d274d0"), looks := false }, kinds := [], alts := [], laidByText := true, laidKinds := [.data, .data], laidTests := true, laidLooks := .later }
def EvidenceCompleteCardSaid : Prop := Claim7.holds Tryd.pinned (.plain (OpenSpec.ofChange evidenceCompleteSpec)) evidenceCompleteCard

/-- THE TIED CARD OF 'bootchainlaw21.EvidenceSound'. -/
def evidenceSoundCard : Claim7 := { stood := { row := evidenceSoundRow, standIns := [], harness := (true, "193f4263b6477a739363ad61e8e51c0327cb5eb90e4cad74a6f75854c6d274d0"), looks := false }, kinds := [], alts := [], laidByText := true, laidKinds := [.data, .data], laidTests := true, laidLooks := .later }
def EvidenceSoundCardSaid : Prop := Claim7.holds Tryd.pinned (.plain (OpenSpec.ofChange evidenceSoundSpec)) evidenceSoundCard

/-- THE TIED CARD OF 'bootchainlaw21.EvidenceOmission'. -/
def evidenceOmissionCard : Claim7 := { stood := { row := evidenceOmissionRow, standIns := [], harness := (true, "193f4263b6477a739363ad61e8e51c0327cb5eb90e4cad74a6f75854c6d274d0"), looks := false }, kinds := [], alts := [], laidByText := true, laidKinds := [.data, .data], laidTests := true, laidLooks := .later }
def EvidenceOmissionCardSaid : Prop := Claim7.holds Tryd.pinned (.plain (OpenSpec.ofChange evidenceOmissionSpec)) evidenceOmissionCard

/-- THE TIED CARD OF 'bootchainlaw21.EvidenceTampered'. -/
def evidenceTamperedCard : Claim7 := { stood := { row := evidenceTamperedRow, standIns := [], harness := (true, "193f4263b6477a739363ad61e8e51c0327cb5eb90e4cad74a6f75854c6d274d0"), looks := false }, kinds := [], alts := [], laidByText := true, laidKinds := [.data, .data], laidTests := true, laidLooks := .later }
def EvidenceTamperedCardSaid : Prop := Claim7.holds Tryd.pinned (.plain (OpenSpec.ofChange evidenceTamperedSpec)) evidenceTamperedCard

/-- THE SECOND FORM's CARD OF 'bootchainlaw21.EvidenceMake'. -/
def evidenceMakeUptoCard : Claim7 := { stood := { row := evidenceMakeUptoRow, standIns := [], harness := (true, "193f4263b6477a739363ad61e8e51c0327cb5eb90e4cad74a6f75854c6d274d0"), looks := false }, kinds := [], alts := [], laidByText := true, laidKinds := [.data, .data], laidTests := true, laidLooks := .later }
def EvidenceMakeUptoCardSaid : Prop := Claim7.holds Tryd.pinned (.plain (OpenSpec.upto evidenceMakeSpec)) evidenceMakeUptoCard

/-- THE SECOND FORM's CARD OF 'bootchainlaw21.EvidenceCheck'. -/
def evidenceCheckUptoCard : Claim7 := { stood := { row := evidenceCheckUptoRow, standIns := [], harness := (true, "193f4263b6477a739363ad61e8e51c0327cb5eb90e4cad74a6f75854c6d274d0"), looks := false }, kinds := [], alts := [], laidByText := true, laidKinds := [.data, .data], laidTests := true, laidLooks := .later }
def EvidenceCheckUptoCardSaid : Prop := Claim7.holds Tryd.pinned (.plain (OpenSpec.upto evidenceCheckSpec)) evidenceCheckUptoCard

/-- THE SECOND FORM's CARD OF 'bootchainlaw21.EvidenceComplete'. -/
def evidenceCompleteUptoCard : Claim7 := { stood := { row := evidenceCompleteUptoRow, standIns := [], harness := (true, "193f4263b6477a739363ad61e8e51c0327cb5eb90e4cad74a6f75854c6d274d0"), looks := false }, kinds := [], alts := [], laidByText := true, laidKinds := [.data, .data], laidTests := true, laidLooks := .later }
def EvidenceCompleteUptoCardSaid : Prop := Claim7.holds Tryd.pinned (.plain (OpenSpec.upto evidenceCompleteSpec)) evidenceCompleteUptoCard

/-- THE SECOND FORM's CARD OF 'bootchainlaw21.EvidenceSound'. -/
def evidenceSoundUptoCard : Claim7 := { stood := { row := evidenceSoundUptoRow, standIns := [], harness := (true, "193f4263b6477a739363ad61e8e51c0327cb5eb90e4cad74a6f75854c6d274d0"), looks := false }, kinds := [], alts := [], laidByText := true, laidKinds := [.data, .data], laidTests := true, laidLooks := .later }
def EvidenceSoundUptoCardSaid : Prop := Claim7.holds Tryd.pinned (.plain (OpenSpec.upto evidenceSoundSpec)) evidenceSoundUptoCard

/-- THE SECOND FORM's CARD OF 'bootchainlaw21.EvidenceOmission'. -/
def evidenceOmissionUptoCard : Claim7 := { stood := { row := evidenceOmissionUptoRow, standIns := [], harness := (true, "193f4263b6477a739363ad61e8e51c0327cb5eb90e4cad74a6f75854c6d274d0"), looks := false }, kinds := [], alts := [], laidByText := true, laidKinds := [.data, .data], laidTests := true, laidLooks := .later }
def EvidenceOmissionUptoCardSaid : Prop := Claim7.holds Tryd.pinned (.plain (OpenSpec.upto evidenceOmissionSpec)) evidenceOmissionUptoCard

/-- THE SECOND FORM's CARD OF 'bootchainlaw21.EvidenceTampered'. -/
def evidenceTamperedUptoCard : Claim7 := { stood := { row := evidenceTamperedUptoRow, standIns := [], harness := (true, "193f4263b6477a739363ad61e8e51c0327cb5eb90e4cad74a6f75854c6d274d0"), looks := false }, kinds := [], alts := [], laidByText := true, laidKinds := [.data, .data], laidTests := true, laidLooks := .later }
def EvidenceTamperedUptoCardSaid : Prop := Claim7.holds Tryd.pinned (.plain (OpenSpec.upto evidenceTamperedSpec)) evidenceTamperedUptoCard
end Rows
end Go.Proofs.YtgihhhdeoaplhaaDoor
