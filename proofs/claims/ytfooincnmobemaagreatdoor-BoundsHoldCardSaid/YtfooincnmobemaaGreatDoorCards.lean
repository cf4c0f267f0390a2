/-
  DERIVED. GIVEN WITH THE SEED: THE CARDS: each row of YtfooincnmobemaaGreatDoorRows.lean that lists a variable, with what it lists TIED to the program's text (the seventh form; the later family's looks); each row that meets fmt, with fmt's text TOLD by the authors' own Lean function (tested against real Go, not proved from fmt's source: count such statements apart). THE CARD IS WHAT COUNTS. Prove the row's statement (the work); the ties are given (YtfooincnmobemaaGreatDoorTie.lean); close each card by the builder's one call (the guide's Derived/Test/ToyasCard.lean, 'card_holds'). Laid BY PROGRAM, IN A SANDBOX (cutbox-door.mjs). By AI agents, Wed Nov 11 2026. No macro, syntax, notation, axiom, sorry.
-/
import Derived.Test.YtfooincnmobemaaGreatDoorRows
import GoSem.ClaimSeven
namespace Go.Proofs.YtfooincnmobemaaGreatDoor
namespace Rows

/-- THE TIED CARD OF 'padlockkeep.EvalColumn'. -/
def evalColumnCard : Claim7 := { stood := { row := evalColumnRow, standIns := [], harness := (true, "ad678204fec0d72146aa3a97bd26f4f954f0dd8b53a165a10781d7ee415df8b9"), looks := false }, kinds := [], alts := [], laidByText := true, laidKinds := [.data, .widerDeep, .widerDeep, .data, .pinned], laidTests := true, laidLooks := .later }
def EvalColumnCardSaid : Prop := Claim7.holds Tryz.pinned (.plain (OpenSpec.ofChange evalColumnSpec)) evalColumnCard

/-- THE TIED CARD OF 'padlockkeep.BoundsHold'. -/
def boundsHoldCard : Claim7 := { stood := { row := boundsHoldRow, standIns := [], harness := (true, "ad678204fec0d72146aa3a97bd26f4f954f0dd8b53a165a10781d7ee415df8b9"), looks := false }, kinds := [], alts := [], laidByText := true, laidKinds := [.data, .widerDeep, .widerDeep, .data, .pinned], laidTests := true, laidLooks := .later }
def BoundsHoldCardSaid : Prop := Claim7.holds Tryz.pinned (.plain (OpenSpec.ofChange boundsHoldSpec)) boundsHoldCard

/-- THE SECOND FORM's CARD OF 'padlockkeep.EvalColumn'. -/
def evalColumnUptoCard : Claim7 := { stood := { row := evalColumnUptoRow, standIns := [], harness := (true, "ad678204fec0d72146aa3a97bd26f4f954f0dd8b53a165a10781d7ee415df8b9"), looks := false }, kinds := [], alts := [], laidByText := true, laidKinds := [.data, .widerDeep, .widerDeep, .data, .pinned], laidTests := true, laidLooks := .later }
def EvalColumnUptoCardSaid : Prop := Claim7.holds Tryz.pinned (.plain (OpenSpec.upto evalColumnSpec)) evalColumnUptoCard

/-- THE SECOND FORM's CARD OF 'padlockkeep.BoundsHold'. -/
def boundsHoldUptoCard : Claim7 := { stood := { row := boundsHoldUptoRow, standIns := [], harness := (true, "ad678204fec0d72146aa3a97bd26f4f954f0dd8b53a165a10781d7ee415df8b9"), looks := false }, kinds := [], alts := [], laidByText := true, laidKinds := [.data, .widerDeep, .widerDeep, .data, .pinned], laidTests := true, laidLooks := .later }
def BoundsHoldUptoCardSaid : Prop := Claim7.holds Tryz.pinned (.plain (OpenSpec.upto boundsHoldSpec)) boundsHoldUptoCard
end Rows
end Go.Proofs.YtfooincnmobemaaGreatDoor
