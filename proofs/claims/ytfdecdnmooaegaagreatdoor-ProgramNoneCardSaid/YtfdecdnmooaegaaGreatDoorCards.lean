/-
  DERIVED. GIVEN WITH THE SEED: THE CARDS: each row of YtfdecdnmooaegaaGreatDoorRows.lean that lists a variable, with what it lists TIED to the program's text (the seventh form; the later family's looks); each row that meets fmt, with fmt's text TOLD by the authors' own Lean function (tested against real Go, not proved from fmt's source: count such statements apart). THE CARD IS WHAT COUNTS. Prove the row's statement (the work); the ties are given (YtfdecdnmooaegaaGreatDoorTie.lean); close each card by the builder's one call (the guide's Derived/Test/ToyasCard.lean, 'card_holds'). Laid BY PROGRAM, IN A SANDBOX (cutbox-door.mjs). By AI agents, Wed Nov 11 2026. No macro, syntax, notation, axiom, sorry.
-/
import Derived.Test.YtfdecdnmooaegaaGreatDoorRows
import GoSem.ClaimSeven
namespace Go.Proofs.YtfdecdnmooaegaaGreatDoor
namespace Rows

/-- THE TIED CARD OF 'phrasebooklaw18.ProgramTexts'. -/
def programTextsCard : Claim7 := { stood := { row := programTextsRow, standIns := [], harness := (true, "098e99f67870c94ed070b7e90f46c62b88197afeac646b9f27e4aa6966b563e4"), looks := true }, kinds := [], alts := [], laidByText := true, laidKinds := [.data, .data, .data], laidTests := true, laidLooks := .later }
def ProgramTextsCardSaid : Prop := Claim7.holds Tryz.pinned (.plain (OpenSpec.ofChange programTextsSpec)) programTextsCard

/-- THE TIED CARD OF 'phrasebooklaw18.ProgramCodes'. -/
def programCodesCard : Claim7 := { stood := { row := programCodesRow, standIns := [], harness := (true, "098e99f67870c94ed070b7e90f46c62b88197afeac646b9f27e4aa6966b563e4"), looks := true }, kinds := [], alts := [], laidByText := true, laidKinds := [.data, .data, .data], laidTests := true, laidLooks := .later }
def ProgramCodesCardSaid : Prop := Claim7.holds Tryz.pinned (.plain (OpenSpec.ofChange programCodesSpec)) programCodesCard

/-- THE TIED CARD OF 'phrasebooklaw18.ProgramHolds'. -/
def programHoldsCard : Claim7 := { stood := { row := programHoldsRow, standIns := [], harness := (true, "098e99f67870c94ed070b7e90f46c62b88197afeac646b9f27e4aa6966b563e4"), looks := true }, kinds := [], alts := [], laidByText := true, laidKinds := [.data, .data, .data], laidTests := true, laidLooks := .later }
def ProgramHoldsCardSaid : Prop := Claim7.holds Tryz.pinned (.plain (OpenSpec.ofChange programHoldsSpec)) programHoldsCard

/-- THE TIED CARD OF 'phrasebooklaw18.ProgramNone'. -/
def programNoneCard : Claim7 := { stood := { row := programNoneRow, standIns := [], harness := (true, "098e99f67870c94ed070b7e90f46c62b88197afeac646b9f27e4aa6966b563e4"), looks := true }, kinds := [], alts := [], laidByText := true, laidKinds := [.data, .data, .data], laidTests := true, laidLooks := .later }
def ProgramNoneCardSaid : Prop := Claim7.holds Tryz.pinned (.plain (OpenSpec.ofChange programNoneSpec)) programNoneCard

/-- THE TIED CARD OF 'phrasebooklaw18.ProgramRoutines'. -/
def programRoutinesCard : Claim7 := { stood := { row := programRoutinesRow, standIns := [], harness := (true, "098e99f67870c94ed070b7e90f46c62b88197afeac646b9f27e4aa6966b563e4"), looks := true }, kinds := [], alts := [], laidByText := true, laidKinds := [.data, .data, .data], laidTests := true, laidLooks := .later }
def ProgramRoutinesCardSaid : Prop := Claim7.holds Tryz.pinned (.plain (OpenSpec.ofChange programRoutinesSpec)) programRoutinesCard

/-- THE SECOND FORM's CARD OF 'phrasebooklaw18.ProgramTexts'. -/
def programTextsUptoCard : Claim7 := { stood := { row := programTextsUptoRow, standIns := [], harness := (true, "098e99f67870c94ed070b7e90f46c62b88197afeac646b9f27e4aa6966b563e4"), looks := true }, kinds := [], alts := [], laidByText := true, laidKinds := [.data, .data, .data], laidTests := true, laidLooks := .later }
def ProgramTextsUptoCardSaid : Prop := Claim7.holds Tryz.pinned (.plain (OpenSpec.upto programTextsSpec)) programTextsUptoCard

/-- THE SECOND FORM's CARD OF 'phrasebooklaw18.ProgramCodes'. -/
def programCodesUptoCard : Claim7 := { stood := { row := programCodesUptoRow, standIns := [], harness := (true, "098e99f67870c94ed070b7e90f46c62b88197afeac646b9f27e4aa6966b563e4"), looks := true }, kinds := [], alts := [], laidByText := true, laidKinds := [.data, .data, .data], laidTests := true, laidLooks := .later }
def ProgramCodesUptoCardSaid : Prop := Claim7.holds Tryz.pinned (.plain (OpenSpec.upto programCodesSpec)) programCodesUptoCard

/-- THE SECOND FORM's CARD OF 'phrasebooklaw18.ProgramHolds'. -/
def programHoldsUptoCard : Claim7 := { stood := { row := programHoldsUptoRow, standIns := [], harness := (true, "098e99f67870c94ed070b7e90f46c62b88197afeac646b9f27e4aa6966b563e4"), looks := true }, kinds := [], alts := [], laidByText := true, laidKinds := [.data, .data, .data], laidTests := true, laidLooks := .later }
def ProgramHoldsUptoCardSaid : Prop := Claim7.holds Tryz.pinned (.plain (OpenSpec.upto programHoldsSpec)) programHoldsUptoCard

/-- THE SECOND FORM's CARD OF 'phrasebooklaw18.ProgramNone'. -/
def programNoneUptoCard : Claim7 := { stood := { row := programNoneUptoRow, standIns := [], harness := (true, "098e99f67870c94ed070b7e90f46c62b88197afeac646b9f27e4aa6966b563e4"), looks := true }, kinds := [], alts := [], laidByText := true, laidKinds := [.data, .data, .data], laidTests := true, laidLooks := .later }
def ProgramNoneUptoCardSaid : Prop := Claim7.holds Tryz.pinned (.plain (OpenSpec.upto programNoneSpec)) programNoneUptoCard

/-- THE SECOND FORM's CARD OF 'phrasebooklaw18.ProgramRoutines'. -/
def programRoutinesUptoCard : Claim7 := { stood := { row := programRoutinesUptoRow, standIns := [], harness := (true, "098e99f67870c94ed070b7e90f46c62b88197afeac646b9f27e4aa6966b563e4"), looks := true }, kinds := [], alts := [], laidByText := true, laidKinds := [.data, .data, .data], laidTests := true, laidLooks := .later }
def ProgramRoutinesUptoCardSaid : Prop := Claim7.holds Tryz.pinned (.plain (OpenSpec.upto programRoutinesSpec)) programRoutinesUptoCard
end Rows
end Go.Proofs.YtfdecdnmooaegaaGreatDoor
