/-
  DERIVED. GIVEN WITH THE SEED: THE CARDS: each row of YtihmfhcjbmlnaaaGreatDoorRows.lean that lists a variable, with what it lists TIED to the program's text (the seventh form; the later family's looks); each row that meets fmt, with fmt's text TOLD by the authors' own Lean function (tested against real Go, not proved from fmt's source: count such statements apart). THE CARD IS WHAT COUNTS. Prove the row's statement (the work); the ties are given (YtihmfhcjbmlnaaaGreatDoorTie.lean); close each card by the builder's one call (the guide's Derived/Test/ToyasCard.lean, 'card_holds'). Laid BY PROGRAM, IN A SANDBOX (cutbox-door.mjs). By AI agents, Wed Nov 11 2026. No macro, syntax, notation, axiom, sorry.
-/
import Derived.Test.YtihmfhcjbmlnaaaGreatDoorRows
import GoSem.ClaimSeven
namespace Go.Proofs.YtihmfhcjbmlnaaaGreatDoor
namespace Rows

/-- THE TIED CARD OF 'padlockkeep.NeedsWhole'. -/
def needsWholeCard : Claim7 := { stood := { row := needsWholeRow, standIns := [], harness := (true, "58dac34c9834d4df7a74b82dc0d335a858f1a391daedf3684981e295dacb4bee"), looks := false }, kinds := [], alts := [], laidByText := true, laidKinds := [.data, .widerDeep, .widerDeep, .data, .pinned], laidTests := true, laidLooks := .later }
def NeedsWholeCardSaid : Prop := Claim7.holds Tryz.pinned (.plain (OpenSpec.ofChange needsWholeSpec)) needsWholeCard

/-- THE TIED CARD OF 'padlockkeep.NeedsInsert'. -/
def needsInsertCard : Claim7 := { stood := { row := needsInsertRow, standIns := [], harness := (true, "58dac34c9834d4df7a74b82dc0d335a858f1a391daedf3684981e295dacb4bee"), looks := false }, kinds := [], alts := [], laidByText := true, laidKinds := [.data, .widerDeep, .widerDeep, .data, .pinned], laidTests := true, laidLooks := .later }
def NeedsInsertCardSaid : Prop := Claim7.holds Tryz.pinned (.plain (OpenSpec.ofChange needsInsertSpec)) needsInsertCard

/-- THE TIED CARD OF 'padlockkeep.NeedsPoint'. -/
def needsPointCard : Claim7 := { stood := { row := needsPointRow, standIns := [], harness := (true, "58dac34c9834d4df7a74b82dc0d335a858f1a391daedf3684981e295dacb4bee"), looks := false }, kinds := [], alts := [], laidByText := true, laidKinds := [.data, .widerDeep, .widerDeep, .data, .pinned], laidTests := true, laidLooks := .later }
def NeedsPointCardSaid : Prop := Claim7.holds Tryz.pinned (.plain (OpenSpec.ofChange needsPointSpec)) needsPointCard

/-- THE TIED CARD OF 'padlockkeep.NeedsFail'. -/
def needsFailCard : Claim7 := { stood := { row := needsFailRow, standIns := [], harness := (true, "58dac34c9834d4df7a74b82dc0d335a858f1a391daedf3684981e295dacb4bee"), looks := false }, kinds := [], alts := [], laidByText := true, laidKinds := [.data, .widerDeep, .widerDeep, .data, .pinned], laidTests := true, laidLooks := .later }
def NeedsFailCardSaid : Prop := Claim7.holds Tryz.pinned (.plain (OpenSpec.ofChange needsFailSpec)) needsFailCard

/-- THE TIED CARD OF 'padlockkeep.NeedsFirst'. -/
def needsFirstCard : Claim7 := { stood := { row := needsFirstRow, standIns := [], harness := (true, "58dac34c9834d4df7a74b82dc0d335a858f1a391daedf3684981e295dacb4bee"), looks := false }, kinds := [], alts := [], laidByText := true, laidKinds := [.data, .widerDeep, .widerDeep, .data, .pinned], laidTests := true, laidLooks := .later }
def NeedsFirstCardSaid : Prop := Claim7.holds Tryz.pinned (.plain (OpenSpec.ofChange needsFirstSpec)) needsFirstCard

/-- THE TIED CARD OF 'padlockkeep.NeedsRead'. -/
def needsReadCard : Claim7 := { stood := { row := needsReadRow, standIns := [], harness := (true, "58dac34c9834d4df7a74b82dc0d335a858f1a391daedf3684981e295dacb4bee"), looks := false }, kinds := [], alts := [], laidByText := true, laidKinds := [.data, .widerDeep, .widerDeep, .data, .pinned], laidTests := true, laidLooks := .later }
def NeedsReadCardSaid : Prop := Claim7.holds Tryz.pinned (.plain (OpenSpec.ofChange needsReadSpec)) needsReadCard

/-- THE TIED CARD OF 'padlockkeep.NeedsClash'. -/
def needsClashCard : Claim7 := { stood := { row := needsClashRow, standIns := [], harness := (true, "58dac34c9834d4df7a74b82dc0d335a858f1a391daedf3684981e295dacb4bee"), looks := false }, kinds := [], alts := [], laidByText := true, laidKinds := [.data, .widerDeep, .widerDeep, .data, .pinned], laidTests := true, laidLooks := .later }
def NeedsClashCardSaid : Prop := Claim7.holds Tryz.pinned (.plain (OpenSpec.ofChange needsClashSpec)) needsClashCard

/-- THE SECOND FORM's CARD OF 'padlockkeep.NeedsWhole'. -/
def needsWholeUptoCard : Claim7 := { stood := { row := needsWholeUptoRow, standIns := [], harness := (true, "58dac34c9834d4df7a74b82dc0d335a858f1a391daedf3684981e295dacb4bee"), looks := false }, kinds := [], alts := [], laidByText := true, laidKinds := [.data, .widerDeep, .widerDeep, .data, .pinned], laidTests := true, laidLooks := .later }
def NeedsWholeUptoCardSaid : Prop := Claim7.holds Tryz.pinned (.plain (OpenSpec.upto needsWholeSpec)) needsWholeUptoCard

/-- THE SECOND FORM's CARD OF 'padlockkeep.NeedsInsert'. -/
def needsInsertUptoCard : Claim7 := { stood := { row := needsInsertUptoRow, standIns := [], harness := (true, "58dac34c9834d4df7a74b82dc0d335a858f1a391daedf3684981e295dacb4bee"), looks := false }, kinds := [], alts := [], laidByText := true, laidKinds := [.data, .widerDeep, .widerDeep, .data, .pinned], laidTests := true, laidLooks := .later }
def NeedsInsertUptoCardSaid : Prop := Claim7.holds Tryz.pinned (.plain (OpenSpec.upto needsInsertSpec)) needsInsertUptoCard

/-- THE SECOND FORM's CARD OF 'padlockkeep.NeedsPoint'. -/
def needsPointUptoCard : Claim7 := { stood := { row := needsPointUptoRow, standIns := [], harness := (true, "58dac34c9834d4df7a74b82dc0d335a858f1a391daedf3684981e295dacb4bee"), looks := false }, kinds := [], alts := [], laidByText := true, laidKinds := [.data, .widerDeep, .widerDeep, .data, .pinned], laidTests := true, laidLooks := .later }
def NeedsPointUptoCardSaid : Prop := Claim7.holds Tryz.pinned (.plain (OpenSpec.upto needsPointSpec)) needsPointUptoCard

/-- THE SECOND FORM's CARD OF 'padlockkeep.NeedsFail'. -/
def needsFailUptoCard : Claim7 := { stood := { row := needsFailUptoRow, standIns := [], harness := (true, "58dac34c9834d4df7a74b82dc0d335a858f1a391daedf3684981e295dacb4bee"), looks := false }, kinds := [], alts := [], laidByText := true, laidKinds := [.data, .widerDeep, .widerDeep, .data, .pinned], laidTests := true, laidLooks := .later }
def NeedsFailUptoCardSaid : Prop := Claim7.holds Tryz.pinned (.plain (OpenSpec.upto needsFailSpec)) needsFailUptoCard

/-- THE SECOND FORM's CARD OF 'padlockkeep.NeedsFirst'. -/
def needsFirstUptoCard : Claim7 := { stood := { row := needsFirstUptoRow, standIns := [], harness := (true, "58dac34c9834d4df7a74b82dc0d335a858f1a391daedf3684981e295dacb4bee"), looks := false }, kinds := [], alts := [], laidByText := true, laidKinds := [.data, .widerDeep, .widerDeep, .data, .pinned], laidTests := true, laidLooks := .later }
def NeedsFirstUptoCardSaid : Prop := Claim7.holds Tryz.pinned (.plain (OpenSpec.upto needsFirstSpec)) needsFirstUptoCard

/-- THE SECOND FORM's CARD OF 'padlockkeep.NeedsRead'. -/
def needsReadUptoCard : Claim7 := { stood := { row := needsReadUptoRow, standIns := [], harness := (true, "58dac34c9834d4df7a74b82dc0d335a858f1a391daedf3684981e295dacb4bee"), looks := false }, kinds := [], alts := [], laidByText := true, laidKinds := [.data, .widerDeep, .widerDeep, .data, .pinned], laidTests := true, laidLooks := .later }
def NeedsReadUptoCardSaid : Prop := Claim7.holds Tryz.pinned (.plain (OpenSpec.upto needsReadSpec)) needsReadUptoCard

/-- THE SECOND FORM's CARD OF 'padlockkeep.NeedsClash'. -/
def needsClashUptoCard : Claim7 := { stood := { row := needsClashUptoRow, standIns := [], harness := (true, "58dac34c9834d4df7a74b82dc0d335a858f1a391daedf3684981e295dacb4bee"), looks := false }, kinds := [], alts := [], laidByText := true, laidKinds := [.data, .widerDeep, .widerDeep, .data, .pinned], laidTests := true, laidLooks := .later }
def NeedsClashUptoCardSaid : Prop := Claim7.holds Tryz.pinned (.plain (OpenSpec.upto needsClashSpec)) needsClashUptoCard
end Rows
end Go.Proofs.YtihmfhcjbmlnaaaGreatDoor
