/-
  DERIVED. GIVEN WITH THE SEED: THE CARDS: each row of YtkgmonfgofobaaaGreatDoorRows.lean that lists a variable, with what it lists TIED to the program's text (the seventh form; the later family's looks); each row that meets fmt, with fmt's text TOLD by the authors' own Lean function (tested against real Go, not proved from fmt's source: count such statements apart). THE CARD IS WHAT COUNTS. Prove the row's statement (the work); the ties are given (YtkgmonfgofobaaaGreatDoorTie.lean); close each card by the builder's one call (the guide's Derived/Test/ToyasCard.lean, 'card_holds'). Laid BY PROGRAM, IN A SANDBOX (cutbox-door.mjs). By AI agents, Wed Nov 11 2026. No macro, syntax, notation, axiom, sorry.
-/
import Derived.Test.YtkgmonfgofobaaaGreatDoorRows
import GoSem.ClaimSeven
namespace Go.Proofs.YtkgmonfgofobaaaGreatDoor
namespace Rows

/-- THE TIED CARD OF 'padlockkeep.UpdateNone'. -/
def updateNoneCard : Claim7 := { stood := { row := updateNoneRow, standIns := [], harness := (true, "404dd9ec9f82b5a9a74db06f62542951829b9123480dd6835cfb5bbfd6cfcaa5"), looks := false }, kinds := [], alts := [], laidByText := true, laidKinds := [.data, .widerDeep, .widerDeep, .data, .pinned], laidTests := true, laidLooks := .later }
def UpdateNoneCardSaid : Prop := Claim7.holds Tryz.pinned (.plain (OpenSpec.ofChange updateNoneSpec)) updateNoneCard

/-- THE TIED CARD OF 'padlockkeep.UpdateKeys'. -/
def updateKeysCard : Claim7 := { stood := { row := updateKeysRow, standIns := [], harness := (true, "404dd9ec9f82b5a9a74db06f62542951829b9123480dd6835cfb5bbfd6cfcaa5"), looks := false }, kinds := [], alts := [], laidByText := true, laidKinds := [.data, .widerDeep, .widerDeep, .data, .pinned], laidTests := true, laidLooks := .later }
def UpdateKeysCardSaid : Prop := Claim7.holds Tryz.pinned (.plain (OpenSpec.ofChange updateKeysSpec)) updateKeysCard

/-- THE TIED CARD OF 'padlockkeep.DeleteMet'. -/
def deleteMetCard : Claim7 := { stood := { row := deleteMetRow, standIns := [], harness := (true, "404dd9ec9f82b5a9a74db06f62542951829b9123480dd6835cfb5bbfd6cfcaa5"), looks := false }, kinds := [], alts := [], laidByText := true, laidKinds := [.data, .widerDeep, .widerDeep, .data, .pinned], laidTests := true, laidLooks := .later }
def DeleteMetCardSaid : Prop := Claim7.holds Tryz.pinned (.plain (OpenSpec.ofChange deleteMetSpec)) deleteMetCard

/-- THE TIED CARD OF 'padlockkeep.UpdateMet'. -/
def updateMetCard : Claim7 := { stood := { row := updateMetRow, standIns := [], harness := (true, "404dd9ec9f82b5a9a74db06f62542951829b9123480dd6835cfb5bbfd6cfcaa5"), looks := false }, kinds := [], alts := [], laidByText := true, laidKinds := [.data, .widerDeep, .widerDeep, .data, .pinned], laidTests := true, laidLooks := .later }
def UpdateMetCardSaid : Prop := Claim7.holds Tryz.pinned (.plain (OpenSpec.ofChange updateMetSpec)) updateMetCard

/-- THE TIED CARD OF 'padlockkeep.OtherStays'. -/
def otherStaysCard : Claim7 := { stood := { row := otherStaysRow, standIns := [], harness := (true, "404dd9ec9f82b5a9a74db06f62542951829b9123480dd6835cfb5bbfd6cfcaa5"), looks := false }, kinds := [], alts := [], laidByText := true, laidKinds := [.data, .widerDeep, .widerDeep, .data, .pinned], laidTests := true, laidLooks := .later }
def OtherStaysCardSaid : Prop := Claim7.holds Tryz.pinned (.plain (OpenSpec.ofChange otherStaysSpec)) otherStaysCard

/-- THE TIED CARD OF 'padlockkeep.SelectParts'. -/
def selectPartsCard : Claim7 := { stood := { row := selectPartsRow, standIns := [], harness := (true, "404dd9ec9f82b5a9a74db06f62542951829b9123480dd6835cfb5bbfd6cfcaa5"), looks := false }, kinds := [], alts := [], laidByText := true, laidKinds := [.data, .widerDeep, .widerDeep, .data, .pinned], laidTests := true, laidLooks := .later }
def SelectPartsCardSaid : Prop := Claim7.holds Tryz.pinned (.plain (OpenSpec.ofChange selectPartsSpec)) selectPartsCard

/-- THE TIED CARD OF 'padlockkeep.SelectOrder'. -/
def selectOrderCard : Claim7 := { stood := { row := selectOrderRow, standIns := [], harness := (true, "404dd9ec9f82b5a9a74db06f62542951829b9123480dd6835cfb5bbfd6cfcaa5"), looks := false }, kinds := [], alts := [], laidByText := true, laidKinds := [.data, .widerDeep, .widerDeep, .data, .pinned], laidTests := true, laidLooks := .later }
def SelectOrderCardSaid : Prop := Claim7.holds Tryz.pinned (.plain (OpenSpec.ofChange selectOrderSpec)) selectOrderCard

/-- THE TIED CARD OF 'padlockkeep.ChangedJust'. -/
def changedJustCard : Claim7 := { stood := { row := changedJustRow, standIns := [], harness := (true, "404dd9ec9f82b5a9a74db06f62542951829b9123480dd6835cfb5bbfd6cfcaa5"), looks := false }, kinds := [], alts := [], laidByText := true, laidKinds := [.data, .widerDeep, .widerDeep, .data, .pinned], laidTests := true, laidLooks := .later }
def ChangedJustCardSaid : Prop := Claim7.holds Tryz.pinned (.plain (OpenSpec.ofChange changedJustSpec)) changedJustCard

/-- THE TIED CARD OF 'padlockkeep.UndoBack'. -/
def undoBackCard : Claim7 := { stood := { row := undoBackRow, standIns := [], harness := (true, "404dd9ec9f82b5a9a74db06f62542951829b9123480dd6835cfb5bbfd6cfcaa5"), looks := false }, kinds := [], alts := [], laidByText := true, laidKinds := [.data, .widerDeep, .widerDeep, .data, .pinned], laidTests := true, laidLooks := .later }
def UndoBackCardSaid : Prop := Claim7.holds Tryz.pinned (.plain (OpenSpec.ofChange undoBackSpec)) undoBackCard

/-- THE SECOND FORM's CARD OF 'padlockkeep.UpdateNone'. -/
def updateNoneUptoCard : Claim7 := { stood := { row := updateNoneUptoRow, standIns := [], harness := (true, "404dd9ec9f82b5a9a74db06f62542951829b9123480dd6835cfb5bbfd6cfcaa5"), looks := false }, kinds := [], alts := [], laidByText := true, laidKinds := [.data, .widerDeep, .widerDeep, .data, .pinned], laidTests := true, laidLooks := .later }
def UpdateNoneUptoCardSaid : Prop := Claim7.holds Tryz.pinned (.plain (OpenSpec.upto updateNoneSpec)) updateNoneUptoCard

/-- THE SECOND FORM's CARD OF 'padlockkeep.UpdateKeys'. -/
def updateKeysUptoCard : Claim7 := { stood := { row := updateKeysUptoRow, standIns := [], harness := (true, "404dd9ec9f82b5a9a74db06f62542951829b9123480dd6835cfb5bbfd6cfcaa5"), looks := false }, kinds := [], alts := [], laidByText := true, laidKinds := [.data, .widerDeep, .widerDeep, .data, .pinned], laidTests := true, laidLooks := .later }
def UpdateKeysUptoCardSaid : Prop := Claim7.holds Tryz.pinned (.plain (OpenSpec.upto updateKeysSpec)) updateKeysUptoCard

/-- THE SECOND FORM's CARD OF 'padlockkeep.DeleteMet'. -/
def deleteMetUptoCard : Claim7 := { stood := { row := deleteMetUptoRow, standIns := [], harness := (true, "404dd9ec9f82b5a9a74db06f62542951829b9123480dd6835cfb5bbfd6cfcaa5"), looks := false }, kinds := [], alts := [], laidByText := true, laidKinds := [.data, .widerDeep, .widerDeep, .data, .pinned], laidTests := true, laidLooks := .later }
def DeleteMetUptoCardSaid : Prop := Claim7.holds Tryz.pinned (.plain (OpenSpec.upto deleteMetSpec)) deleteMetUptoCard

/-- THE SECOND FORM's CARD OF 'padlockkeep.UpdateMet'. -/
def updateMetUptoCard : Claim7 := { stood := { row := updateMetUptoRow, standIns := [], harness := (true, "404dd9ec9f82b5a9a74db06f62542951829b9123480dd6835cfb5bbfd6cfcaa5"), looks := false }, kinds := [], alts := [], laidByText := true, laidKinds := [.data, .widerDeep, .widerDeep, .data, .pinned], laidTests := true, laidLooks := .later }
def UpdateMetUptoCardSaid : Prop := Claim7.holds Tryz.pinned (.plain (OpenSpec.upto updateMetSpec)) updateMetUptoCard

/-- THE SECOND FORM's CARD OF 'padlockkeep.OtherStays'. -/
def otherStaysUptoCard : Claim7 := { stood := { row := otherStaysUptoRow, standIns := [], harness := (true, "404dd9ec9f82b5a9a74db06f62542951829b9123480dd6835cfb5bbfd6cfcaa5"), looks := false }, kinds := [], alts := [], laidByText := true, laidKinds := [.data, .widerDeep, .widerDeep, .data, .pinned], laidTests := true, laidLooks := .later }
def OtherStaysUptoCardSaid : Prop := Claim7.holds Tryz.pinned (.plain (OpenSpec.upto otherStaysSpec)) otherStaysUptoCard

/-- THE SECOND FORM's CARD OF 'padlockkeep.SelectParts'. -/
def selectPartsUptoCard : Claim7 := { stood := { row := selectPartsUptoRow, standIns := [], harness := (true, "404dd9ec9f82b5a9a74db06f62542951829b9123480dd6835cfb5bbfd6cfcaa5"), looks := false }, kinds := [], alts := [], laidByText := true, laidKinds := [.data, .widerDeep, .widerDeep, .data, .pinned], laidTests := true, laidLooks := .later }
def SelectPartsUptoCardSaid : Prop := Claim7.holds Tryz.pinned (.plain (OpenSpec.upto selectPartsSpec)) selectPartsUptoCard

/-- THE SECOND FORM's CARD OF 'padlockkeep.SelectOrder'. -/
def selectOrderUptoCard : Claim7 := { stood := { row := selectOrderUptoRow, standIns := [], harness := (true, "404dd9ec9f82b5a9a74db06f62542951829b9123480dd6835cfb5bbfd6cfcaa5"), looks := false }, kinds := [], alts := [], laidByText := true, laidKinds := [.data, .widerDeep, .widerDeep, .data, .pinned], laidTests := true, laidLooks := .later }
def SelectOrderUptoCardSaid : Prop := Claim7.holds Tryz.pinned (.plain (OpenSpec.upto selectOrderSpec)) selectOrderUptoCard

/-- THE SECOND FORM's CARD OF 'padlockkeep.ChangedJust'. -/
def changedJustUptoCard : Claim7 := { stood := { row := changedJustUptoRow, standIns := [], harness := (true, "404dd9ec9f82b5a9a74db06f62542951829b9123480dd6835cfb5bbfd6cfcaa5"), looks := false }, kinds := [], alts := [], laidByText := true, laidKinds := [.data, .widerDeep, .widerDeep, .data, .pinned], laidTests := true, laidLooks := .later }
def ChangedJustUptoCardSaid : Prop := Claim7.holds Tryz.pinned (.plain (OpenSpec.upto changedJustSpec)) changedJustUptoCard

/-- THE SECOND FORM's CARD OF 'padlockkeep.UndoBack'. -/
def undoBackUptoCard : Claim7 := { stood := { row := undoBackUptoRow, standIns := [], harness := (true, "404dd9ec9f82b5a9a74db06f62542951829b9123480dd6835cfb5bbfd6cfcaa5"), looks := false }, kinds := [], alts := [], laidByText := true, laidKinds := [.data, .widerDeep, .widerDeep, .data, .pinned], laidTests := true, laidLooks := .later }
def UndoBackUptoCardSaid : Prop := Claim7.holds Tryz.pinned (.plain (OpenSpec.upto undoBackSpec)) undoBackUptoCard
end Rows
end Go.Proofs.YtkgmonfgofobaaaGreatDoor
