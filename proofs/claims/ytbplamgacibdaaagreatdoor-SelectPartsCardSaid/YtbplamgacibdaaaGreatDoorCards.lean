/-
  DERIVED. GIVEN WITH THE SEED: THE CARDS: each row of YtbplamgacibdaaaGreatDoorRows.lean that lists a variable, with what it lists TIED to the program's text (the seventh form; the later family's looks); each row that meets fmt, with fmt's text TOLD by the authors' own Lean function (tested against real Go, not proved from fmt's source: count such statements apart). THE CARD IS WHAT COUNTS. Prove the row's statement (the work); the ties are given (YtbplamgacibdaaaGreatDoorTie.lean); close each card by the builder's one call (the guide's Derived/Test/ToyasCard.lean, 'card_holds'). Laid BY PROGRAM, IN A SANDBOX (cutbox-door.mjs). By AI agents, Wed Nov 11 2026. No macro, syntax, notation, axiom, sorry.
-/
import Derived.Test.YtbplamgacibdaaaGreatDoorRows
import GoSem.ClaimSeven
namespace Go.Proofs.YtbplamgacibdaaaGreatDoor
namespace Rows

/-- THE TIED CARD OF 'padlockkeep.OtherStays'. -/
def otherStaysCard : Claim7 := { stood := { row := otherStaysRow, standIns := [], harness := (true, "46eef23d3048960b6437e90dff8f60ca71e6dda26cdde03f7ce248f6f4b48ba3"), looks := false }, kinds := [], alts := [], laidByText := true, laidKinds := [.data, .widerDeep, .widerDeep, .data, .pinned], laidTests := true, laidLooks := .later }
def OtherStaysCardSaid : Prop := Claim7.holds Tryz.pinned (.plain (OpenSpec.ofChange otherStaysSpec)) otherStaysCard

/-- THE TIED CARD OF 'padlockkeep.SelectParts'. -/
def selectPartsCard : Claim7 := { stood := { row := selectPartsRow, standIns := [], harness := (true, "46eef23d3048960b6437e90dff8f60ca71e6dda26cdde03f7ce248f6f4b48ba3"), looks := false }, kinds := [], alts := [], laidByText := true, laidKinds := [.data, .widerDeep, .widerDeep, .data, .pinned], laidTests := true, laidLooks := .later }
def SelectPartsCardSaid : Prop := Claim7.holds Tryz.pinned (.plain (OpenSpec.ofChange selectPartsSpec)) selectPartsCard

/-- THE TIED CARD OF 'padlockkeep.ChangedJust'. -/
def changedJustCard : Claim7 := { stood := { row := changedJustRow, standIns := [], harness := (true, "46eef23d3048960b6437e90dff8f60ca71e6dda26cdde03f7ce248f6f4b48ba3"), looks := false }, kinds := [], alts := [], laidByText := true, laidKinds := [.data, .widerDeep, .widerDeep, .data, .pinned], laidTests := true, laidLooks := .later }
def ChangedJustCardSaid : Prop := Claim7.holds Tryz.pinned (.plain (OpenSpec.ofChange changedJustSpec)) changedJustCard

/-- THE TIED CARD OF 'padlockkeep.UndoBack'. -/
def undoBackCard : Claim7 := { stood := { row := undoBackRow, standIns := [], harness := (true, "46eef23d3048960b6437e90dff8f60ca71e6dda26cdde03f7ce248f6f4b48ba3"), looks := false }, kinds := [], alts := [], laidByText := true, laidKinds := [.data, .widerDeep, .widerDeep, .data, .pinned], laidTests := true, laidLooks := .later }
def UndoBackCardSaid : Prop := Claim7.holds Tryz.pinned (.plain (OpenSpec.ofChange undoBackSpec)) undoBackCard

/-- THE SECOND FORM's CARD OF 'padlockkeep.OtherStays'. -/
def otherStaysUptoCard : Claim7 := { stood := { row := otherStaysUptoRow, standIns := [], harness := (true, "46eef23d3048960b6437e90dff8f60ca71e6dda26cdde03f7ce248f6f4b48ba3"), looks := false }, kinds := [], alts := [], laidByText := true, laidKinds := [.data, .widerDeep, .widerDeep, .data, .pinned], laidTests := true, laidLooks := .later }
def OtherStaysUptoCardSaid : Prop := Claim7.holds Tryz.pinned (.plain (OpenSpec.upto otherStaysSpec)) otherStaysUptoCard

/-- THE SECOND FORM's CARD OF 'padlockkeep.SelectParts'. -/
def selectPartsUptoCard : Claim7 := { stood := { row := selectPartsUptoRow, standIns := [], harness := (true, "46eef23d3048960b6437e90dff8f60ca71e6dda26cdde03f7ce248f6f4b48ba3"), looks := false }, kinds := [], alts := [], laidByText := true, laidKinds := [.data, .widerDeep, .widerDeep, .data, .pinned], laidTests := true, laidLooks := .later }
def SelectPartsUptoCardSaid : Prop := Claim7.holds Tryz.pinned (.plain (OpenSpec.upto selectPartsSpec)) selectPartsUptoCard

/-- THE SECOND FORM's CARD OF 'padlockkeep.ChangedJust'. -/
def changedJustUptoCard : Claim7 := { stood := { row := changedJustUptoRow, standIns := [], harness := (true, "46eef23d3048960b6437e90dff8f60ca71e6dda26cdde03f7ce248f6f4b48ba3"), looks := false }, kinds := [], alts := [], laidByText := true, laidKinds := [.data, .widerDeep, .widerDeep, .data, .pinned], laidTests := true, laidLooks := .later }
def ChangedJustUptoCardSaid : Prop := Claim7.holds Tryz.pinned (.plain (OpenSpec.upto changedJustSpec)) changedJustUptoCard

/-- THE SECOND FORM's CARD OF 'padlockkeep.UndoBack'. -/
def undoBackUptoCard : Claim7 := { stood := { row := undoBackUptoRow, standIns := [], harness := (true, "46eef23d3048960b6437e90dff8f60ca71e6dda26cdde03f7ce248f6f4b48ba3"), looks := false }, kinds := [], alts := [], laidByText := true, laidKinds := [.data, .widerDeep, .widerDeep, .data, .pinned], laidTests := true, laidLooks := .later }
def UndoBackUptoCardSaid : Prop := Claim7.holds Tryz.pinned (.plain (OpenSpec.upto undoBackSpec)) undoBackUptoCard
end Rows
end Go.Proofs.YtbplamgacibdaaaGreatDoor
