/-
  DERIVED. GIVEN WITH THE SEED: THE CARDS: each row of YtmapbfkhggjgeaaDoorRows.lean that lists a variable, with what it lists TIED to the program's text (the seventh form; the later family's looks); each row that meets fmt, with fmt's text TOLD by the authors' own Lean function (tested against real Go, not proved from fmt's source: count such statements apart). THE CARD IS WHAT COUNTS. Prove the row's statement (the work); the ties are given (YtmapbfkhggjgeaaDoorTie.lean); close each card by the builder's one call (the guide's Derived/Test/ToyasCard.lean, 'card_holds'). Laid BY PROGRAM, IN A SANDBOX (cutbox-door.mjs). By AI agents, Wed Nov 11 2026. No macro, syntax, notation, axiom, sorry.
-/
import Derived.Test.YtmapbfkhggjgeaaDoorRows
import GoSem.ClaimSeven
namespace Go.Proofs.YtmapbfkhggjgeaaDoor
namespace Rows

/-- THE TIED CARD OF 'padlockkeep.ParseTurns'. -/
def parseTurnsCard : Claim7 := { stood := { row := parseTurnsRow, standIns := [], harness := (true, "9abdecba1e3f75143b8fc2b3e211d19fc4b717feabd59335690e2d4dd398c7ef"), looks := true }, kinds := [], alts := [], laidByText := true, laidKinds := [.widerDeep, .widerDeep, .data, .data], laidTests := true, laidLooks := .later }
def ParseTurnsCardSaid : Prop := Claim7.holds Tryd.pinned (.plain (OpenSpec.ofChange parseTurnsSpec)) parseTurnsCard

/-- THE SECOND FORM's CARD OF 'padlockkeep.ParseTurns'. -/
def parseTurnsUptoCard : Claim7 := { stood := { row := parseTurnsUptoRow, standIns := [], harness := (true, "9abdecba1e3f75143b8fc2b3e211d19fc4b717feabd59335690e2d4dd398c7ef"), looks := true }, kinds := [], alts := [], laidByText := true, laidKinds := [.widerDeep, .widerDeep, .data, .data], laidTests := true, laidLooks := .later }
def ParseTurnsUptoCardSaid : Prop := Claim7.holds Tryd.pinned (.plain (OpenSpec.upto parseTurnsSpec)) parseTurnsUptoCard
end Rows
end Go.Proofs.YtmapbfkhggjgeaaDoor
