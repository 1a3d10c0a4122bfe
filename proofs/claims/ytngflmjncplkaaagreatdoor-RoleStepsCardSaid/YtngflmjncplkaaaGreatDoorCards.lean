/-
  DERIVED. GIVEN WITH THE SEED: THE CARDS: each row of YtngflmjncplkaaaGreatDoorRows.lean that lists a variable, with what it lists TIED to the program's text (the seventh form; the later family's looks); each row that meets fmt, with fmt's text TOLD by the authors' own Lean function (tested against real Go, not proved from fmt's source: count such statements apart). THE CARD IS WHAT COUNTS. Prove the row's statement (the work); the ties are given (YtngflmjncplkaaaGreatDoorTie.lean); close each card by the builder's one call (the guide's Derived/Test/ToyasCard.lean, 'card_holds'). Laid BY PROGRAM, IN A SANDBOX (cutbox-door.mjs). By AI agents, Wed Nov 11 2026. No macro, syntax, notation, axiom, sorry.
-/
import Derived.Test.YtngflmjncplkaaaGreatDoorRows
import GoSem.ClaimSeven
namespace Go.Proofs.YtngflmjncplkaaaGreatDoor
namespace Rows

/-- THE TIED CARD OF 'phrasebooklaw28.RoleChecks'. -/
def roleChecksCard : Claim7 := { stood := { row := roleChecksRow, standIns := [], harness := (true, "805d62ceadf1c0eaaccbbc96f2703f3718560c4f9884483faf4dfcc0b7041b30"), looks := true }, kinds := [], alts := [], laidByText := true, laidKinds := [.data, .data, .data, .data, .sentinel, .sentinel, .pinned], laidTests := true, laidLooks := .later }
def RoleChecksCardSaid : Prop := Claim7.holds Tryz.pinned (.plain (OpenSpec.ofChange roleChecksSpec)) roleChecksCard

/-- THE TIED CARD OF 'phrasebooklaw28.RoleNames'. -/
def roleNamesCard : Claim7 := { stood := { row := roleNamesRow, standIns := [], harness := (true, "805d62ceadf1c0eaaccbbc96f2703f3718560c4f9884483faf4dfcc0b7041b30"), looks := true }, kinds := [], alts := [], laidByText := true, laidKinds := [.data, .data, .data, .data, .sentinel, .sentinel, .pinned], laidTests := true, laidLooks := .later }
def RoleNamesCardSaid : Prop := Claim7.holds Tryz.pinned (.plain (OpenSpec.ofChange roleNamesSpec)) roleNamesCard

/-- THE TIED CARD OF 'phrasebooklaw28.RoleParses'. -/
def roleParsesCard : Claim7 := { stood := { row := roleParsesRow, standIns := [], harness := (true, "805d62ceadf1c0eaaccbbc96f2703f3718560c4f9884483faf4dfcc0b7041b30"), looks := true }, kinds := [], alts := [], laidByText := true, laidKinds := [.data, .data, .data, .data, .sentinel, .sentinel, .pinned], laidTests := true, laidLooks := .later }
def RoleParsesCardSaid : Prop := Claim7.holds Tryz.pinned (.plain (OpenSpec.ofChange roleParsesSpec)) roleParsesCard

/-- THE TIED CARD OF 'phrasebooklaw28.RoleTurns'. -/
def roleTurnsCard : Claim7 := { stood := { row := roleTurnsRow, standIns := [], harness := (true, "805d62ceadf1c0eaaccbbc96f2703f3718560c4f9884483faf4dfcc0b7041b30"), looks := true }, kinds := [], alts := [], laidByText := true, laidKinds := [.data, .data, .data, .data, .sentinel, .sentinel, .pinned], laidTests := true, laidLooks := .later }
def RoleTurnsCardSaid : Prop := Claim7.holds Tryz.pinned (.plain (OpenSpec.ofChange roleTurnsSpec)) roleTurnsCard

/-- THE TIED CARD OF 'phrasebooklaw28.RoleSessions'. -/
def roleSessionsCard : Claim7 := { stood := { row := roleSessionsRow, standIns := [], harness := (true, "805d62ceadf1c0eaaccbbc96f2703f3718560c4f9884483faf4dfcc0b7041b30"), looks := true }, kinds := [], alts := [], laidByText := true, laidKinds := [.data, .data, .data, .data, .sentinel, .sentinel, .pinned], laidTests := true, laidLooks := .later }
def RoleSessionsCardSaid : Prop := Claim7.holds Tryz.pinned (.plain (OpenSpec.ofChange roleSessionsSpec)) roleSessionsCard

/-- THE TIED CARD OF 'phrasebooklaw28.RoleBack'. -/
def roleBackCard : Claim7 := { stood := { row := roleBackRow, standIns := [], harness := (true, "805d62ceadf1c0eaaccbbc96f2703f3718560c4f9884483faf4dfcc0b7041b30"), looks := true }, kinds := [], alts := [], laidByText := true, laidKinds := [.data, .data, .data, .data, .sentinel, .sentinel, .pinned], laidTests := true, laidLooks := .later }
def RoleBackCardSaid : Prop := Claim7.holds Tryz.pinned (.plain (OpenSpec.ofChange roleBackSpec)) roleBackCard

/-- THE TIED CARD OF 'phrasebooklaw28.RoleSteps'. -/
def roleStepsCard : Claim7 := { stood := { row := roleStepsRow, standIns := [], harness := (true, "805d62ceadf1c0eaaccbbc96f2703f3718560c4f9884483faf4dfcc0b7041b30"), looks := true }, kinds := [], alts := [], laidByText := true, laidKinds := [.data, .data, .data, .data, .sentinel, .sentinel, .pinned], laidTests := true, laidLooks := .later }
def RoleStepsCardSaid : Prop := Claim7.holds Tryz.pinned (.plain (OpenSpec.ofChange roleStepsSpec)) roleStepsCard

/-- THE SECOND FORM's CARD OF 'phrasebooklaw28.RoleChecks'. -/
def roleChecksUptoCard : Claim7 := { stood := { row := roleChecksUptoRow, standIns := [], harness := (true, "805d62ceadf1c0eaaccbbc96f2703f3718560c4f9884483faf4dfcc0b7041b30"), looks := true }, kinds := [], alts := [], laidByText := true, laidKinds := [.data, .data, .data, .data, .sentinel, .sentinel, .pinned], laidTests := true, laidLooks := .later }
def RoleChecksUptoCardSaid : Prop := Claim7.holds Tryz.pinned (.plain (OpenSpec.upto roleChecksSpec)) roleChecksUptoCard

/-- THE SECOND FORM's CARD OF 'phrasebooklaw28.RoleNames'. -/
def roleNamesUptoCard : Claim7 := { stood := { row := roleNamesUptoRow, standIns := [], harness := (true, "805d62ceadf1c0eaaccbbc96f2703f3718560c4f9884483faf4dfcc0b7041b30"), looks := true }, kinds := [], alts := [], laidByText := true, laidKinds := [.data, .data, .data, .data, .sentinel, .sentinel, .pinned], laidTests := true, laidLooks := .later }
def RoleNamesUptoCardSaid : Prop := Claim7.holds Tryz.pinned (.plain (OpenSpec.upto roleNamesSpec)) roleNamesUptoCard

/-- THE SECOND FORM's CARD OF 'phrasebooklaw28.RoleParses'. -/
def roleParsesUptoCard : Claim7 := { stood := { row := roleParsesUptoRow, standIns := [], harness := (true, "805d62ceadf1c0eaaccbbc96f2703f3718560c4f9884483faf4dfcc0b7041b30"), looks := true }, kinds := [], alts := [], laidByText := true, laidKinds := [.data, .data, .data, .data, .sentinel, .sentinel, .pinned], laidTests := true, laidLooks := .later }
def RoleParsesUptoCardSaid : Prop := Claim7.holds Tryz.pinned (.plain (OpenSpec.upto roleParsesSpec)) roleParsesUptoCard

/-- THE SECOND FORM's CARD OF 'phrasebooklaw28.RoleTurns'. -/
def roleTurnsUptoCard : Claim7 := { stood := { row := roleTurnsUptoRow, standIns := [], harness := (true, "805d62ceadf1c0eaaccbbc96f2703f3718560c4f9884483faf4dfcc0b7041b30"), looks := true }, kinds := [], alts := [], laidByText := true, laidKinds := [.data, .data, .data, .data, .sentinel, .sentinel, .pinned], laidTests := true, laidLooks := .later }
def RoleTurnsUptoCardSaid : Prop := Claim7.holds Tryz.pinned (.plain (OpenSpec.upto roleTurnsSpec)) roleTurnsUptoCard

/-- THE SECOND FORM's CARD OF 'phrasebooklaw28.RoleSessions'. -/
def roleSessionsUptoCard : Claim7 := { stood := { row := roleSessionsUptoRow, standIns := [], harness := (true, "805d62ceadf1c0eaaccbbc96f2703f3718560c4f9884483faf4dfcc0b7041b30"), looks := true }, kinds := [], alts := [], laidByText := true, laidKinds := [.data, .data, .data, .data, .sentinel, .sentinel, .pinned], laidTests := true, laidLooks := .later }
def RoleSessionsUptoCardSaid : Prop := Claim7.holds Tryz.pinned (.plain (OpenSpec.upto roleSessionsSpec)) roleSessionsUptoCard

/-- THE SECOND FORM's CARD OF 'phrasebooklaw28.RoleBack'. -/
def roleBackUptoCard : Claim7 := { stood := { row := roleBackUptoRow, standIns := [], harness := (true, "805d62ceadf1c0eaaccbbc96f2703f3718560c4f9884483faf4dfcc0b7041b30"), looks := true }, kinds := [], alts := [], laidByText := true, laidKinds := [.data, .data, .data, .data, .sentinel, .sentinel, .pinned], laidTests := true, laidLooks := .later }
def RoleBackUptoCardSaid : Prop := Claim7.holds Tryz.pinned (.plain (OpenSpec.upto roleBackSpec)) roleBackUptoCard

/-- THE SECOND FORM's CARD OF 'phrasebooklaw28.RoleSteps'. -/
def roleStepsUptoCard : Claim7 := { stood := { row := roleStepsUptoRow, standIns := [], harness := (true, "805d62ceadf1c0eaaccbbc96f2703f3718560c4f9884483faf4dfcc0b7041b30"), looks := true }, kinds := [], alts := [], laidByText := true, laidKinds := [.data, .data, .data, .data, .sentinel, .sentinel, .pinned], laidTests := true, laidLooks := .later }
def RoleStepsUptoCardSaid : Prop := Claim7.holds Tryz.pinned (.plain (OpenSpec.upto roleStepsSpec)) roleStepsUptoCard
end Rows
end Go.Proofs.YtngflmjncplkaaaGreatDoor
