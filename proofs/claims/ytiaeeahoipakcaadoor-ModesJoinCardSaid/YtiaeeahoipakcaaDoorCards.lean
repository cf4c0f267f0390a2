/-
  DERIVED. GIVEN WITH THE SEED: THE CARDS: each row of YtiaeeahoipakcaaDoorRows.lean that lists a variable, with what it lists TIED to the program's text (the seventh form; the later family's looks); each row that meets fmt, with fmt's text TOLD by the authors' own Lean function (tested against real Go, not proved from fmt's source: count such statements apart). THE CARD IS WHAT COUNTS. Prove the row's statement (the work); the ties are given (YtiaeeahoipakcaaDoorTie.lean); close each card by the builder's one call (the guide's Derived/Test/ToyasCard.lean, 'card_holds'). Laid BY PROGRAM, IN A SANDBOX (cutbox-door.mjs). By AI agents, Wed Nov 11 2026. No macro, syntax, notation, axiom, sorry.
-/
import Derived.Test.YtiaeeahoipakcaaDoorRows
import GoSem.ClaimSeven
namespace Go.Proofs.YtiaeeahoipakcaaDoor
namespace Rows

/-- THE TIED CARD OF 'padlockkeep.ModesEven'. -/
def modesEvenCard : Claim7 := { stood := { row := modesEvenRow, standIns := [], harness := (true, "bc7ccc943743d66628c4e841dc5294b9a540e235014476b85085e1f4189d255d"), looks := false }, kinds := [], alts := [], laidByText := true, laidKinds := [.data], laidTests := true, laidLooks := .later }
def ModesEvenCardSaid : Prop := Claim7.holds Tryd.pinned (.plain (OpenSpec.ofChange modesEvenSpec)) modesEvenCard

/-- THE TIED CARD OF 'padlockkeep.ModesJoin'. -/
def modesJoinCard : Claim7 := { stood := { row := modesJoinRow, standIns := [], harness := (true, "bc7ccc943743d66628c4e841dc5294b9a540e235014476b85085e1f4189d255d"), looks := false }, kinds := [], alts := [], laidByText := true, laidKinds := [.data, .data], laidTests := true, laidLooks := .later }
def ModesJoinCardSaid : Prop := Claim7.holds Tryd.pinned (.plain (OpenSpec.ofChange modesJoinSpec)) modesJoinCard

/-- THE SECOND FORM's CARD OF 'padlockkeep.ModesEven'. -/
def modesEvenUptoCard : Claim7 := { stood := { row := modesEvenUptoRow, standIns := [], harness := (true, "bc7ccc943743d66628c4e841dc5294b9a540e235014476b85085e1f4189d255d"), looks := false }, kinds := [], alts := [], laidByText := true, laidKinds := [.data], laidTests := true, laidLooks := .later }
def ModesEvenUptoCardSaid : Prop := Claim7.holds Tryd.pinned (.plain (OpenSpec.upto modesEvenSpec)) modesEvenUptoCard

/-- THE SECOND FORM's CARD OF 'padlockkeep.ModesJoin'. -/
def modesJoinUptoCard : Claim7 := { stood := { row := modesJoinUptoRow, standIns := [], harness := (true, "bc7ccc943743d66628c4e841dc5294b9a540e235014476b85085e1f4189d255d"), looks := false }, kinds := [], alts := [], laidByText := true, laidKinds := [.data, .data], laidTests := true, laidLooks := .later }
def ModesJoinUptoCardSaid : Prop := Claim7.holds Tryd.pinned (.plain (OpenSpec.upto modesJoinSpec)) modesJoinUptoCard
end Rows
end Go.Proofs.YtiaeeahoipakcaaDoor
