/-
  DERIVED. GIVEN WITH THE SEED: THE CARDS: each row of YtpgkjhikdhdffaaGreatDoorRows.lean that lists a variable, with what it lists TIED to the program's text (the seventh form; the later family's looks); each row that meets fmt, with fmt's text TOLD by the authors' own Lean function (tested against real Go, not proved from fmt's source: count such statements apart). THE CARD IS WHAT COUNTS. Prove the row's statement (the work); the ties are given (YtpgkjhikdhdffaaGreatDoorTie.lean); close each card by the builder's one call (the guide's Derived/Test/ToyasCard.lean, 'card_holds'). Laid BY PROGRAM, IN A SANDBOX (cutbox-door.mjs). By AI agents, Wed Nov 11 2026. No macro, syntax, notation, axiom, sorry.
-/
import Derived.Test.YtpgkjhikdhdffaaGreatDoorRows
import GoSem.ClaimSeven
namespace Go.Proofs.YtpgkjhikdhdffaaGreatDoor
namespace Rows

/-- THE TIED CARD OF 'phrasebooklaw04.SizeValid'. -/
def sizeValidCard : Claim7 := { stood := { row := sizeValidRow, standIns := [], harness := (true, "b28e11fa6ee41b26e56fb3f3301f1cebdb04d4d8f758d2c888fe09ee37c1016c"), looks := true }, kinds := [], alts := [], laidByText := true, laidKinds := [.data, .data, .data, .sentinel, .sentinel], laidTests := true, laidLooks := .later }
def SizeValidCardSaid : Prop := Claim7.holds Tryz.pinned (.plain (OpenSpec.ofChange sizeValidSpec)) sizeValidCard

/-- THE TIED CARD OF 'phrasebooklaw04.SizeEvals'. -/
def sizeEvalsCard : Claim7 := { stood := { row := sizeEvalsRow, standIns := [], harness := (true, "b28e11fa6ee41b26e56fb3f3301f1cebdb04d4d8f758d2c888fe09ee37c1016c"), looks := true }, kinds := [], alts := [], laidByText := true, laidKinds := [.data, .data, .data, .sentinel, .sentinel], laidTests := true, laidLooks := .later }
def SizeEvalsCardSaid : Prop := Claim7.holds Tryz.pinned (.plain (OpenSpec.ofChange sizeEvalsSpec)) sizeEvalsCard

/-- THE TIED CARD OF 'phrasebooklaw04.SizeIntervals'. -/
def sizeIntervalsCard : Claim7 := { stood := { row := sizeIntervalsRow, standIns := [], harness := (true, "b28e11fa6ee41b26e56fb3f3301f1cebdb04d4d8f758d2c888fe09ee37c1016c"), looks := true }, kinds := [], alts := [], laidByText := true, laidKinds := [.data, .data, .data, .sentinel, .sentinel], laidTests := true, laidLooks := .later }
def SizeIntervalsCardSaid : Prop := Claim7.holds Tryz.pinned (.plain (OpenSpec.ofChange sizeIntervalsSpec)) sizeIntervalsCard

/-- THE TIED CARD OF 'phrasebooklaw04.SizeTexts'. -/
def sizeTextsCard : Claim7 := { stood := { row := sizeTextsRow, standIns := [], harness := (true, "b28e11fa6ee41b26e56fb3f3301f1cebdb04d4d8f758d2c888fe09ee37c1016c"), looks := true }, kinds := [], alts := [], laidByText := true, laidKinds := [.data, .data, .data, .sentinel, .sentinel], laidTests := true, laidLooks := .later }
def SizeTextsCardSaid : Prop := Claim7.holds Tryz.pinned (.plain (OpenSpec.ofChange sizeTextsSpec)) sizeTextsCard

/-- THE TIED CARD OF 'phrasebooklaw04.SizeExact'. -/
def sizeExactCard : Claim7 := { stood := { row := sizeExactRow, standIns := [], harness := (true, "b28e11fa6ee41b26e56fb3f3301f1cebdb04d4d8f758d2c888fe09ee37c1016c"), looks := true }, kinds := [], alts := [], laidByText := true, laidKinds := [.data, .data, .data, .sentinel, .sentinel], laidTests := true, laidLooks := .later }
def SizeExactCardSaid : Prop := Claim7.holds Tryz.pinned (.plain (OpenSpec.ofChange sizeExactSpec)) sizeExactCard

/-- THE TIED CARD OF 'phrasebooklaw04.SizeAdds'. -/
def sizeAddsCard : Claim7 := { stood := { row := sizeAddsRow, standIns := [], harness := (true, "b28e11fa6ee41b26e56fb3f3301f1cebdb04d4d8f758d2c888fe09ee37c1016c"), looks := true }, kinds := [], alts := [], laidByText := true, laidKinds := [.data, .data, .data, .sentinel, .sentinel], laidTests := true, laidLooks := .later }
def SizeAddsCardSaid : Prop := Claim7.holds Tryz.pinned (.plain (OpenSpec.ofChange sizeAddsSpec)) sizeAddsCard

/-- THE SECOND FORM's CARD OF 'phrasebooklaw04.SizeValid'. -/
def sizeValidUptoCard : Claim7 := { stood := { row := sizeValidUptoRow, standIns := [], harness := (true, "b28e11fa6ee41b26e56fb3f3301f1cebdb04d4d8f758d2c888fe09ee37c1016c"), looks := true }, kinds := [], alts := [], laidByText := true, laidKinds := [.data, .data, .data, .sentinel, .sentinel], laidTests := true, laidLooks := .later }
def SizeValidUptoCardSaid : Prop := Claim7.holds Tryz.pinned (.plain (OpenSpec.upto sizeValidSpec)) sizeValidUptoCard

/-- THE SECOND FORM's CARD OF 'phrasebooklaw04.SizeEvals'. -/
def sizeEvalsUptoCard : Claim7 := { stood := { row := sizeEvalsUptoRow, standIns := [], harness := (true, "b28e11fa6ee41b26e56fb3f3301f1cebdb04d4d8f758d2c888fe09ee37c1016c"), looks := true }, kinds := [], alts := [], laidByText := true, laidKinds := [.data, .data, .data, .sentinel, .sentinel], laidTests := true, laidLooks := .later }
def SizeEvalsUptoCardSaid : Prop := Claim7.holds Tryz.pinned (.plain (OpenSpec.upto sizeEvalsSpec)) sizeEvalsUptoCard

/-- THE SECOND FORM's CARD OF 'phrasebooklaw04.SizeIntervals'. -/
def sizeIntervalsUptoCard : Claim7 := { stood := { row := sizeIntervalsUptoRow, standIns := [], harness := (true, "b28e11fa6ee41b26e56fb3f3301f1cebdb04d4d8f758d2c888fe09ee37c1016c"), looks := true }, kinds := [], alts := [], laidByText := true, laidKinds := [.data, .data, .data, .sentinel, .sentinel], laidTests := true, laidLooks := .later }
def SizeIntervalsUptoCardSaid : Prop := Claim7.holds Tryz.pinned (.plain (OpenSpec.upto sizeIntervalsSpec)) sizeIntervalsUptoCard

/-- THE SECOND FORM's CARD OF 'phrasebooklaw04.SizeTexts'. -/
def sizeTextsUptoCard : Claim7 := { stood := { row := sizeTextsUptoRow, standIns := [], harness := (true, "b28e11fa6ee41b26e56fb3f3301f1cebdb04d4d8f758d2c888fe09ee37c1016c"), looks := true }, kinds := [], alts := [], laidByText := true, laidKinds := [.data, .data, .data, .sentinel, .sentinel], laidTests := true, laidLooks := .later }
def SizeTextsUptoCardSaid : Prop := Claim7.holds Tryz.pinned (.plain (OpenSpec.upto sizeTextsSpec)) sizeTextsUptoCard

/-- THE SECOND FORM's CARD OF 'phrasebooklaw04.SizeExact'. -/
def sizeExactUptoCard : Claim7 := { stood := { row := sizeExactUptoRow, standIns := [], harness := (true, "b28e11fa6ee41b26e56fb3f3301f1cebdb04d4d8f758d2c888fe09ee37c1016c"), looks := true }, kinds := [], alts := [], laidByText := true, laidKinds := [.data, .data, .data, .sentinel, .sentinel], laidTests := true, laidLooks := .later }
def SizeExactUptoCardSaid : Prop := Claim7.holds Tryz.pinned (.plain (OpenSpec.upto sizeExactSpec)) sizeExactUptoCard

/-- THE SECOND FORM's CARD OF 'phrasebooklaw04.SizeAdds'. -/
def sizeAddsUptoCard : Claim7 := { stood := { row := sizeAddsUptoRow, standIns := [], harness := (true, "b28e11fa6ee41b26e56fb3f3301f1cebdb04d4d8f758d2c888fe09ee37c1016c"), looks := true }, kinds := [], alts := [], laidByText := true, laidKinds := [.data, .data, .data, .sentinel, .sentinel], laidTests := true, laidLooks := .later }
def SizeAddsUptoCardSaid : Prop := Claim7.holds Tryz.pinned (.plain (OpenSpec.upto sizeAddsSpec)) sizeAddsUptoCard
end Rows
end Go.Proofs.YtpgkjhikdhdffaaGreatDoor
