/-
  DERIVED. GIVEN WITH THE SEED: THE CARDS: each row of YtgalpdihjbinjaaGreatDoorRows.lean that lists a variable, with what it lists TIED to the program's text (the seventh form; the later family's looks); each row that meets fmt, with fmt's text TOLD by the authors' own Lean function (tested against real Go, not proved from fmt's source: count such statements apart). THE CARD IS WHAT COUNTS. Prove the row's statement (the work); the ties are given (YtgalpdihjbinjaaGreatDoorTie.lean); close each card by the builder's one call (the guide's Derived/Test/ToyasCard.lean, 'card_holds'). Laid BY PROGRAM, IN A SANDBOX (cutbox-door.mjs). By AI agents, Wed Nov 11 2026. No macro, syntax, notation, axiom, sorry.
-/
import Derived.Test.YtgalpdihjbinjaaGreatDoorRows
import GoSem.ClaimSeven
namespace Go.Proofs.YtgalpdihjbinjaaGreatDoor
namespace Rows

/-- THE TIED CARD OF 'phrasebooklaw45.MappingChecks'. -/
def mappingChecksCard : Claim7 := { stood := { row := mappingChecksRow, standIns := [], harness := (true, "cedc2496089f77d4df55280aa44dc215bf5ea19b61a6b8ccb76ab88a333a5715"), looks := true }, kinds := [], alts := [], laidByText := true, laidKinds := [.data, .data, .data, .data, .sentinel, .sentinel, .pinned], laidTests := true, laidLooks := .later }
def MappingChecksCardSaid : Prop := Claim7.holds Tryz.pinned (.plain (OpenSpec.ofChange mappingChecksSpec)) mappingChecksCard

/-- THE TIED CARD OF 'phrasebooklaw45.MappingNumbers'. -/
def mappingNumbersCard : Claim7 := { stood := { row := mappingNumbersRow, standIns := [], harness := (true, "cedc2496089f77d4df55280aa44dc215bf5ea19b61a6b8ccb76ab88a333a5715"), looks := true }, kinds := [], alts := [], laidByText := true, laidKinds := [.data, .data, .data, .data, .sentinel, .sentinel, .pinned], laidTests := true, laidLooks := .later }
def MappingNumbersCardSaid : Prop := Claim7.holds Tryz.pinned (.plain (OpenSpec.ofChange mappingNumbersSpec)) mappingNumbersCard

/-- THE TIED CARD OF 'phrasebooklaw45.MappingParses'. -/
def mappingParsesCard : Claim7 := { stood := { row := mappingParsesRow, standIns := [], harness := (true, "cedc2496089f77d4df55280aa44dc215bf5ea19b61a6b8ccb76ab88a333a5715"), looks := true }, kinds := [], alts := [], laidByText := true, laidKinds := [.data, .data, .data, .data, .sentinel, .sentinel, .pinned], laidTests := true, laidLooks := .later }
def MappingParsesCardSaid : Prop := Claim7.holds Tryz.pinned (.plain (OpenSpec.ofChange mappingParsesSpec)) mappingParsesCard

/-- THE TIED CARD OF 'phrasebooklaw45.MappingSources'. -/
def mappingSourcesCard : Claim7 := { stood := { row := mappingSourcesRow, standIns := [], harness := (true, "cedc2496089f77d4df55280aa44dc215bf5ea19b61a6b8ccb76ab88a333a5715"), looks := true }, kinds := [], alts := [], laidByText := true, laidKinds := [.data, .data, .data, .data, .sentinel, .sentinel, .pinned], laidTests := true, laidLooks := .later }
def MappingSourcesCardSaid : Prop := Claim7.holds Tryz.pinned (.plain (OpenSpec.ofChange mappingSourcesSpec)) mappingSourcesCard

/-- THE TIED CARD OF 'phrasebooklaw45.MappingPrints'. -/
def mappingPrintsCard : Claim7 := { stood := { row := mappingPrintsRow, standIns := [], harness := (true, "cedc2496089f77d4df55280aa44dc215bf5ea19b61a6b8ccb76ab88a333a5715"), looks := true }, kinds := [], alts := [], laidByText := true, laidKinds := [.data, .data, .data, .data, .sentinel, .sentinel, .pinned], laidTests := true, laidLooks := .later }
def MappingPrintsCardSaid : Prop := Claim7.holds Tryz.pinned (.plain (OpenSpec.ofChange mappingPrintsSpec)) mappingPrintsCard

/-- THE TIED CARD OF 'phrasebooklaw45.MappingIdentities'. -/
def mappingIdentitiesCard : Claim7 := { stood := { row := mappingIdentitiesRow, standIns := [], harness := (true, "cedc2496089f77d4df55280aa44dc215bf5ea19b61a6b8ccb76ab88a333a5715"), looks := true }, kinds := [], alts := [], laidByText := true, laidKinds := [.data, .data, .data, .data, .sentinel, .sentinel, .pinned], laidTests := true, laidLooks := .later }
def MappingIdentitiesCardSaid : Prop := Claim7.holds Tryz.pinned (.plain (OpenSpec.ofChange mappingIdentitiesSpec)) mappingIdentitiesCard

/-- THE TIED CARD OF 'phrasebooklaw45.MappingBack'. -/
def mappingBackCard : Claim7 := { stood := { row := mappingBackRow, standIns := [], harness := (true, "cedc2496089f77d4df55280aa44dc215bf5ea19b61a6b8ccb76ab88a333a5715"), looks := true }, kinds := [], alts := [], laidByText := true, laidKinds := [.data, .data, .data, .data, .sentinel, .sentinel, .pinned], laidTests := true, laidLooks := .later }
def MappingBackCardSaid : Prop := Claim7.holds Tryz.pinned (.plain (OpenSpec.ofChange mappingBackSpec)) mappingBackCard

/-- THE SECOND FORM's CARD OF 'phrasebooklaw45.MappingChecks'. -/
def mappingChecksUptoCard : Claim7 := { stood := { row := mappingChecksUptoRow, standIns := [], harness := (true, "cedc2496089f77d4df55280aa44dc215bf5ea19b61a6b8ccb76ab88a333a5715"), looks := true }, kinds := [], alts := [], laidByText := true, laidKinds := [.data, .data, .data, .data, .sentinel, .sentinel, .pinned], laidTests := true, laidLooks := .later }
def MappingChecksUptoCardSaid : Prop := Claim7.holds Tryz.pinned (.plain (OpenSpec.upto mappingChecksSpec)) mappingChecksUptoCard

/-- THE SECOND FORM's CARD OF 'phrasebooklaw45.MappingNumbers'. -/
def mappingNumbersUptoCard : Claim7 := { stood := { row := mappingNumbersUptoRow, standIns := [], harness := (true, "cedc2496089f77d4df55280aa44dc215bf5ea19b61a6b8ccb76ab88a333a5715"), looks := true }, kinds := [], alts := [], laidByText := true, laidKinds := [.data, .data, .data, .data, .sentinel, .sentinel, .pinned], laidTests := true, laidLooks := .later }
def MappingNumbersUptoCardSaid : Prop := Claim7.holds Tryz.pinned (.plain (OpenSpec.upto mappingNumbersSpec)) mappingNumbersUptoCard

/-- THE SECOND FORM's CARD OF 'phrasebooklaw45.MappingParses'. -/
def mappingParsesUptoCard : Claim7 := { stood := { row := mappingParsesUptoRow, standIns := [], harness := (true, "cedc2496089f77d4df55280aa44dc215bf5ea19b61a6b8ccb76ab88a333a5715"), looks := true }, kinds := [], alts := [], laidByText := true, laidKinds := [.data, .data, .data, .data, .sentinel, .sentinel, .pinned], laidTests := true, laidLooks := .later }
def MappingParsesUptoCardSaid : Prop := Claim7.holds Tryz.pinned (.plain (OpenSpec.upto mappingParsesSpec)) mappingParsesUptoCard

/-- THE SECOND FORM's CARD OF 'phrasebooklaw45.MappingSources'. -/
def mappingSourcesUptoCard : Claim7 := { stood := { row := mappingSourcesUptoRow, standIns := [], harness := (true, "cedc2496089f77d4df55280aa44dc215bf5ea19b61a6b8ccb76ab88a333a5715"), looks := true }, kinds := [], alts := [], laidByText := true, laidKinds := [.data, .data, .data, .data, .sentinel, .sentinel, .pinned], laidTests := true, laidLooks := .later }
def MappingSourcesUptoCardSaid : Prop := Claim7.holds Tryz.pinned (.plain (OpenSpec.upto mappingSourcesSpec)) mappingSourcesUptoCard

/-- THE SECOND FORM's CARD OF 'phrasebooklaw45.MappingPrints'. -/
def mappingPrintsUptoCard : Claim7 := { stood := { row := mappingPrintsUptoRow, standIns := [], harness := (true, "cedc2496089f77d4df55280aa44dc215bf5ea19b61a6b8ccb76ab88a333a5715"), looks := true }, kinds := [], alts := [], laidByText := true, laidKinds := [.data, .data, .data, .data, .sentinel, .sentinel, .pinned], laidTests := true, laidLooks := .later }
def MappingPrintsUptoCardSaid : Prop := Claim7.holds Tryz.pinned (.plain (OpenSpec.upto mappingPrintsSpec)) mappingPrintsUptoCard

/-- THE SECOND FORM's CARD OF 'phrasebooklaw45.MappingIdentities'. -/
def mappingIdentitiesUptoCard : Claim7 := { stood := { row := mappingIdentitiesUptoRow, standIns := [], harness := (true, "cedc2496089f77d4df55280aa44dc215bf5ea19b61a6b8ccb76ab88a333a5715"), looks := true }, kinds := [], alts := [], laidByText := true, laidKinds := [.data, .data, .data, .data, .sentinel, .sentinel, .pinned], laidTests := true, laidLooks := .later }
def MappingIdentitiesUptoCardSaid : Prop := Claim7.holds Tryz.pinned (.plain (OpenSpec.upto mappingIdentitiesSpec)) mappingIdentitiesUptoCard

/-- THE SECOND FORM's CARD OF 'phrasebooklaw45.MappingBack'. -/
def mappingBackUptoCard : Claim7 := { stood := { row := mappingBackUptoRow, standIns := [], harness := (true, "cedc2496089f77d4df55280aa44dc215bf5ea19b61a6b8ccb76ab88a333a5715"), looks := true }, kinds := [], alts := [], laidByText := true, laidKinds := [.data, .data, .data, .data, .sentinel, .sentinel, .pinned], laidTests := true, laidLooks := .later }
def MappingBackUptoCardSaid : Prop := Claim7.holds Tryz.pinned (.plain (OpenSpec.upto mappingBackSpec)) mappingBackUptoCard
end Rows
end Go.Proofs.YtgalpdihjbinjaaGreatDoor
