/-
  DERIVED. GIVEN WITH THE SEED: THE CARDS: each row of YtomnenkeecbglaaGreatDoorRows.lean that lists a variable, with what it lists TIED to the program's text (the seventh form; the later family's looks); each row that meets fmt, with fmt's text TOLD by the authors' own Lean function (tested against real Go, not proved from fmt's source: count such statements apart). THE CARD IS WHAT COUNTS. Prove the row's statement (the work); the ties are given (YtomnenkeecbglaaGreatDoorTie.lean); close each card by the builder's one call (the guide's Derived/Test/ToyasCard.lean, 'card_holds'). Laid BY PROGRAM, IN A SANDBOX (cutbox-door.mjs). By AI agents, Wed Nov 11 2026. No macro, syntax, notation, axiom, sorry.
-/
import Derived.Test.YtomnenkeecbglaaGreatDoorRows
import GoSem.ClaimSeven
namespace Go.Proofs.YtomnenkeecbglaaGreatDoor
namespace Rows

/-- THE TIED CARD OF 'padlocktop.TopNothing'. -/
def topNothingCard : Claim7 := { stood := { row := topNothingRow, standIns := [], harness := (true, "df301174a5bdee309078c579c5112f0ac7c52fc3156e7ea5f4d627c79e608012"), looks := true }, kinds := [], alts := [], laidByText := true, laidKinds := [.data, .data, .data, .data, .sentinel, .sentinel, .data, .data, .widerDeep, .widerDeep, .data, .data, .pinned], laidTests := true, laidLooks := .later }
def TopNothingCardSaid : Prop := Claim7.holds Tryz.pinned (.plain (OpenSpec.ofChange topNothingSpec)) topNothingCard

/-- THE SECOND FORM's CARD OF 'padlocktop.TopNothing'. -/
def topNothingUptoCard : Claim7 := { stood := { row := topNothingUptoRow, standIns := [], harness := (true, "df301174a5bdee309078c579c5112f0ac7c52fc3156e7ea5f4d627c79e608012"), looks := true }, kinds := [], alts := [], laidByText := true, laidKinds := [.data, .data, .data, .data, .sentinel, .sentinel, .data, .data, .widerDeep, .widerDeep, .data, .data, .pinned], laidTests := true, laidLooks := .later }
def TopNothingUptoCardSaid : Prop := Claim7.holds Tryz.pinned (.plain (OpenSpec.upto topNothingSpec)) topNothingUptoCard
end Rows
end Go.Proofs.YtomnenkeecbglaaGreatDoor
