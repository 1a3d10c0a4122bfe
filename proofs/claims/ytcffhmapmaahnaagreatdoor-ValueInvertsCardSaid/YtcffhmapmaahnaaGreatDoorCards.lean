/-
  DERIVED. GIVEN WITH THE SEED: THE CARDS: each row of YtcffhmapmaahnaaGreatDoorRows.lean that lists a variable, with what it lists TIED to the program's text (the seventh form; the later family's looks); each row that meets fmt, with fmt's text TOLD by the authors' own Lean function (tested against real Go, not proved from fmt's source: count such statements apart). THE CARD IS WHAT COUNTS. Prove the row's statement (the work); the ties are given (YtcffhmapmaahnaaGreatDoorTie.lean); close each card by the builder's one call (the guide's Derived/Test/ToyasCard.lean, 'card_holds'). Laid BY PROGRAM, IN A SANDBOX (cutbox-door.mjs). By AI agents, Wed Nov 11 2026. No macro, syntax, notation, axiom, sorry.
-/
import Derived.Test.YtcffhmapmaahnaaGreatDoorRows
import GoSem.ClaimSeven
namespace Go.Proofs.YtcffhmapmaahnaaGreatDoor
namespace Rows

/-- THE TIED CARD OF 'phrasebooklaw13.ValueOrders'. -/
def valueOrdersCard : Claim7 := { stood := { row := valueOrdersRow, standIns := [], harness := (true, "890728a3a62857bfa7207560ed87612b9253540bda02dd327723c287671f9d21"), looks := true }, kinds := [], alts := [], laidByText := true, laidKinds := [.data, .data, .data, .data, .sentinel, .sentinel, .pinned], laidTests := true, laidLooks := .later }
def ValueOrdersCardSaid : Prop := Claim7.holds Tryz.pinned (.plain (OpenSpec.ofChange valueOrdersSpec)) valueOrdersCard

/-- THE TIED CARD OF 'phrasebooklaw13.ValueParses'. -/
def valueParsesCard : Claim7 := { stood := { row := valueParsesRow, standIns := [], harness := (true, "890728a3a62857bfa7207560ed87612b9253540bda02dd327723c287671f9d21"), looks := true }, kinds := [], alts := [], laidByText := true, laidKinds := [.data, .data, .data, .data, .sentinel, .sentinel, .pinned], laidTests := true, laidLooks := .later }
def ValueParsesCardSaid : Prop := Claim7.holds Tryz.pinned (.plain (OpenSpec.ofChange valueParsesSpec)) valueParsesCard

/-- THE TIED CARD OF 'phrasebooklaw13.ValueSets'. -/
def valueSetsCard : Claim7 := { stood := { row := valueSetsRow, standIns := [], harness := (true, "890728a3a62857bfa7207560ed87612b9253540bda02dd327723c287671f9d21"), looks := true }, kinds := [], alts := [], laidByText := true, laidKinds := [.data, .data, .data, .data, .sentinel, .sentinel, .pinned], laidTests := true, laidLooks := .later }
def ValueSetsCardSaid : Prop := Claim7.holds Tryz.pinned (.plain (OpenSpec.ofChange valueSetsSpec)) valueSetsCard

/-- THE TIED CARD OF 'phrasebooklaw13.ValueWalks'. -/
def valueWalksCard : Claim7 := { stood := { row := valueWalksRow, standIns := [], harness := (true, "890728a3a62857bfa7207560ed87612b9253540bda02dd327723c287671f9d21"), looks := true }, kinds := [], alts := [], laidByText := true, laidKinds := [.data, .data, .data, .data, .sentinel, .sentinel, .pinned], laidTests := true, laidLooks := .later }
def ValueWalksCardSaid : Prop := Claim7.holds Tryz.pinned (.plain (OpenSpec.ofChange valueWalksSpec)) valueWalksCard

/-- THE TIED CARD OF 'phrasebooklaw13.ValueInverts'. -/
def valueInvertsCard : Claim7 := { stood := { row := valueInvertsRow, standIns := [], harness := (true, "890728a3a62857bfa7207560ed87612b9253540bda02dd327723c287671f9d21"), looks := true }, kinds := [], alts := [], laidByText := true, laidKinds := [.data, .data, .data, .data, .sentinel, .sentinel, .pinned], laidTests := true, laidLooks := .later }
def ValueInvertsCardSaid : Prop := Claim7.holds Tryz.pinned (.plain (OpenSpec.ofChange valueInvertsSpec)) valueInvertsCard

/-- THE TIED CARD OF 'phrasebooklaw13.ValueTotal'. -/
def valueTotalCard : Claim7 := { stood := { row := valueTotalRow, standIns := [], harness := (true, "890728a3a62857bfa7207560ed87612b9253540bda02dd327723c287671f9d21"), looks := true }, kinds := [], alts := [], laidByText := true, laidKinds := [.data, .data, .data, .data, .sentinel, .sentinel, .pinned], laidTests := true, laidLooks := .later }
def ValueTotalCardSaid : Prop := Claim7.holds Tryz.pinned (.plain (OpenSpec.ofChange valueTotalSpec)) valueTotalCard

/-- THE TIED CARD OF 'phrasebooklaw13.ValueGets'. -/
def valueGetsCard : Claim7 := { stood := { row := valueGetsRow, standIns := [], harness := (true, "890728a3a62857bfa7207560ed87612b9253540bda02dd327723c287671f9d21"), looks := true }, kinds := [], alts := [], laidByText := true, laidKinds := [.data, .data, .data, .data, .sentinel, .sentinel, .pinned], laidTests := true, laidLooks := .later }
def ValueGetsCardSaid : Prop := Claim7.holds Tryz.pinned (.plain (OpenSpec.ofChange valueGetsSpec)) valueGetsCard

/-- THE SECOND FORM's CARD OF 'phrasebooklaw13.ValueOrders'. -/
def valueOrdersUptoCard : Claim7 := { stood := { row := valueOrdersUptoRow, standIns := [], harness := (true, "890728a3a62857bfa7207560ed87612b9253540bda02dd327723c287671f9d21"), looks := true }, kinds := [], alts := [], laidByText := true, laidKinds := [.data, .data, .data, .data, .sentinel, .sentinel, .pinned], laidTests := true, laidLooks := .later }
def ValueOrdersUptoCardSaid : Prop := Claim7.holds Tryz.pinned (.plain (OpenSpec.upto valueOrdersSpec)) valueOrdersUptoCard

/-- THE SECOND FORM's CARD OF 'phrasebooklaw13.ValueParses'. -/
def valueParsesUptoCard : Claim7 := { stood := { row := valueParsesUptoRow, standIns := [], harness := (true, "890728a3a62857bfa7207560ed87612b9253540bda02dd327723c287671f9d21"), looks := true }, kinds := [], alts := [], laidByText := true, laidKinds := [.data, .data, .data, .data, .sentinel, .sentinel, .pinned], laidTests := true, laidLooks := .later }
def ValueParsesUptoCardSaid : Prop := Claim7.holds Tryz.pinned (.plain (OpenSpec.upto valueParsesSpec)) valueParsesUptoCard

/-- THE SECOND FORM's CARD OF 'phrasebooklaw13.ValueSets'. -/
def valueSetsUptoCard : Claim7 := { stood := { row := valueSetsUptoRow, standIns := [], harness := (true, "890728a3a62857bfa7207560ed87612b9253540bda02dd327723c287671f9d21"), looks := true }, kinds := [], alts := [], laidByText := true, laidKinds := [.data, .data, .data, .data, .sentinel, .sentinel, .pinned], laidTests := true, laidLooks := .later }
def ValueSetsUptoCardSaid : Prop := Claim7.holds Tryz.pinned (.plain (OpenSpec.upto valueSetsSpec)) valueSetsUptoCard

/-- THE SECOND FORM's CARD OF 'phrasebooklaw13.ValueWalks'. -/
def valueWalksUptoCard : Claim7 := { stood := { row := valueWalksUptoRow, standIns := [], harness := (true, "890728a3a62857bfa7207560ed87612b9253540bda02dd327723c287671f9d21"), looks := true }, kinds := [], alts := [], laidByText := true, laidKinds := [.data, .data, .data, .data, .sentinel, .sentinel, .pinned], laidTests := true, laidLooks := .later }
def ValueWalksUptoCardSaid : Prop := Claim7.holds Tryz.pinned (.plain (OpenSpec.upto valueWalksSpec)) valueWalksUptoCard

/-- THE SECOND FORM's CARD OF 'phrasebooklaw13.ValueInverts'. -/
def valueInvertsUptoCard : Claim7 := { stood := { row := valueInvertsUptoRow, standIns := [], harness := (true, "890728a3a62857bfa7207560ed87612b9253540bda02dd327723c287671f9d21"), looks := true }, kinds := [], alts := [], laidByText := true, laidKinds := [.data, .data, .data, .data, .sentinel, .sentinel, .pinned], laidTests := true, laidLooks := .later }
def ValueInvertsUptoCardSaid : Prop := Claim7.holds Tryz.pinned (.plain (OpenSpec.upto valueInvertsSpec)) valueInvertsUptoCard

/-- THE SECOND FORM's CARD OF 'phrasebooklaw13.ValueTotal'. -/
def valueTotalUptoCard : Claim7 := { stood := { row := valueTotalUptoRow, standIns := [], harness := (true, "890728a3a62857bfa7207560ed87612b9253540bda02dd327723c287671f9d21"), looks := true }, kinds := [], alts := [], laidByText := true, laidKinds := [.data, .data, .data, .data, .sentinel, .sentinel, .pinned], laidTests := true, laidLooks := .later }
def ValueTotalUptoCardSaid : Prop := Claim7.holds Tryz.pinned (.plain (OpenSpec.upto valueTotalSpec)) valueTotalUptoCard

/-- THE SECOND FORM's CARD OF 'phrasebooklaw13.ValueGets'. -/
def valueGetsUptoCard : Claim7 := { stood := { row := valueGetsUptoRow, standIns := [], harness := (true, "890728a3a62857bfa7207560ed87612b9253540bda02dd327723c287671f9d21"), looks := true }, kinds := [], alts := [], laidByText := true, laidKinds := [.data, .data, .data, .data, .sentinel, .sentinel, .pinned], laidTests := true, laidLooks := .later }
def ValueGetsUptoCardSaid : Prop := Claim7.holds Tryz.pinned (.plain (OpenSpec.upto valueGetsSpec)) valueGetsUptoCard
end Rows
end Go.Proofs.YtcffhmapmaahnaaGreatDoor
