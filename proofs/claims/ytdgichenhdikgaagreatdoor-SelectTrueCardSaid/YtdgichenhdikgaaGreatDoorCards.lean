/-
  DERIVED. GIVEN WITH THE SEED: THE CARDS: each row of YtdgichenhdikgaaGreatDoorRows.lean that lists a variable, with what it lists TIED to the program's text (the seventh form; the later family's looks); each row that meets fmt, with fmt's text TOLD by the authors' own Lean function (tested against real Go, not proved from fmt's source: count such statements apart). THE CARD IS WHAT COUNTS. Prove the row's statement (the work); the ties are given (YtdgichenhdikgaaGreatDoorTie.lean); close each card by the builder's one call (the guide's Derived/Test/ToyasCard.lean, 'card_holds'). Laid BY PROGRAM, IN A SANDBOX (cutbox-door.mjs). By AI agents, Wed Nov 11 2026. No macro, syntax, notation, axiom, sorry.
-/
import Derived.Test.YtdgichenhdikgaaGreatDoorRows
import GoSem.ClaimSeven
namespace Go.Proofs.YtdgichenhdikgaaGreatDoor
namespace Rows

/-- THE TIED CARD OF 'padlockkeep.LimitNone'. -/
def limitNoneCard : Claim7 := { stood := { row := limitNoneRow, standIns := [], harness := (true, "95cb7f0e7c2555a5ca0390cdd6819305bc7c6fa20531c379b64aac0b47a24663"), looks := false }, kinds := [], alts := [], laidByText := true, laidKinds := [.data, .widerDeep, .widerDeep, .data, .pinned], laidTests := true, laidLooks := .later }
def LimitNoneCardSaid : Prop := Claim7.holds Tryz.pinned (.plain (OpenSpec.ofChange limitNoneSpec)) limitNoneCard

/-- THE TIED CARD OF 'padlockkeep.InsertOne'. -/
def insertOneCard : Claim7 := { stood := { row := insertOneRow, standIns := [], harness := (true, "95cb7f0e7c2555a5ca0390cdd6819305bc7c6fa20531c379b64aac0b47a24663"), looks := false }, kinds := [], alts := [], laidByText := true, laidKinds := [.data, .widerDeep, .widerDeep, .data, .pinned], laidTests := true, laidLooks := .later }
def InsertOneCardSaid : Prop := Claim7.holds Tryz.pinned (.plain (OpenSpec.ofChange insertOneSpec)) insertOneCard

/-- THE TIED CARD OF 'padlockkeep.TablesMade'. -/
def tablesMadeCard : Claim7 := { stood := { row := tablesMadeRow, standIns := [], harness := (true, "95cb7f0e7c2555a5ca0390cdd6819305bc7c6fa20531c379b64aac0b47a24663"), looks := false }, kinds := [], alts := [], laidByText := true, laidKinds := [.data, .widerDeep, .widerDeep, .data, .pinned], laidTests := true, laidLooks := .later }
def TablesMadeCardSaid : Prop := Claim7.holds Tryz.pinned (.plain (OpenSpec.ofChange tablesMadeSpec)) tablesMadeCard

/-- THE TIED CARD OF 'padlockkeep.SelectTrue'. -/
def selectTrueCard : Claim7 := { stood := { row := selectTrueRow, standIns := [], harness := (true, "95cb7f0e7c2555a5ca0390cdd6819305bc7c6fa20531c379b64aac0b47a24663"), looks := false }, kinds := [], alts := [], laidByText := true, laidKinds := [.data, .widerDeep, .widerDeep, .data, .pinned], laidTests := true, laidLooks := .later }
def SelectTrueCardSaid : Prop := Claim7.holds Tryz.pinned (.plain (OpenSpec.ofChange selectTrueSpec)) selectTrueCard

/-- THE TIED CARD OF 'padlockkeep.SelectNames'. -/
def selectNamesCard : Claim7 := { stood := { row := selectNamesRow, standIns := [], harness := (true, "95cb7f0e7c2555a5ca0390cdd6819305bc7c6fa20531c379b64aac0b47a24663"), looks := false }, kinds := [], alts := [], laidByText := true, laidKinds := [.data, .widerDeep, .widerDeep, .data, .pinned], laidTests := true, laidLooks := .later }
def SelectNamesCardSaid : Prop := Claim7.holds Tryz.pinned (.plain (OpenSpec.ofChange selectNamesSpec)) selectNamesCard

/-- THE TIED CARD OF 'padlockkeep.DeleteAll'. -/
def deleteAllCard : Claim7 := { stood := { row := deleteAllRow, standIns := [], harness := (true, "95cb7f0e7c2555a5ca0390cdd6819305bc7c6fa20531c379b64aac0b47a24663"), looks := false }, kinds := [], alts := [], laidByText := true, laidKinds := [.data, .widerDeep, .widerDeep, .data, .pinned], laidTests := true, laidLooks := .later }
def DeleteAllCardSaid : Prop := Claim7.holds Tryz.pinned (.plain (OpenSpec.ofChange deleteAllSpec)) deleteAllCard

/-- THE SECOND FORM's CARD OF 'padlockkeep.LimitNone'. -/
def limitNoneUptoCard : Claim7 := { stood := { row := limitNoneUptoRow, standIns := [], harness := (true, "95cb7f0e7c2555a5ca0390cdd6819305bc7c6fa20531c379b64aac0b47a24663"), looks := false }, kinds := [], alts := [], laidByText := true, laidKinds := [.data, .widerDeep, .widerDeep, .data, .pinned], laidTests := true, laidLooks := .later }
def LimitNoneUptoCardSaid : Prop := Claim7.holds Tryz.pinned (.plain (OpenSpec.upto limitNoneSpec)) limitNoneUptoCard

/-- THE SECOND FORM's CARD OF 'padlockkeep.InsertOne'. -/
def insertOneUptoCard : Claim7 := { stood := { row := insertOneUptoRow, standIns := [], harness := (true, "95cb7f0e7c2555a5ca0390cdd6819305bc7c6fa20531c379b64aac0b47a24663"), looks := false }, kinds := [], alts := [], laidByText := true, laidKinds := [.data, .widerDeep, .widerDeep, .data, .pinned], laidTests := true, laidLooks := .later }
def InsertOneUptoCardSaid : Prop := Claim7.holds Tryz.pinned (.plain (OpenSpec.upto insertOneSpec)) insertOneUptoCard

/-- THE SECOND FORM's CARD OF 'padlockkeep.TablesMade'. -/
def tablesMadeUptoCard : Claim7 := { stood := { row := tablesMadeUptoRow, standIns := [], harness := (true, "95cb7f0e7c2555a5ca0390cdd6819305bc7c6fa20531c379b64aac0b47a24663"), looks := false }, kinds := [], alts := [], laidByText := true, laidKinds := [.data, .widerDeep, .widerDeep, .data, .pinned], laidTests := true, laidLooks := .later }
def TablesMadeUptoCardSaid : Prop := Claim7.holds Tryz.pinned (.plain (OpenSpec.upto tablesMadeSpec)) tablesMadeUptoCard

/-- THE SECOND FORM's CARD OF 'padlockkeep.SelectTrue'. -/
def selectTrueUptoCard : Claim7 := { stood := { row := selectTrueUptoRow, standIns := [], harness := (true, "95cb7f0e7c2555a5ca0390cdd6819305bc7c6fa20531c379b64aac0b47a24663"), looks := false }, kinds := [], alts := [], laidByText := true, laidKinds := [.data, .widerDeep, .widerDeep, .data, .pinned], laidTests := true, laidLooks := .later }
def SelectTrueUptoCardSaid : Prop := Claim7.holds Tryz.pinned (.plain (OpenSpec.upto selectTrueSpec)) selectTrueUptoCard

/-- THE SECOND FORM's CARD OF 'padlockkeep.SelectNames'. -/
def selectNamesUptoCard : Claim7 := { stood := { row := selectNamesUptoRow, standIns := [], harness := (true, "95cb7f0e7c2555a5ca0390cdd6819305bc7c6fa20531c379b64aac0b47a24663"), looks := false }, kinds := [], alts := [], laidByText := true, laidKinds := [.data, .widerDeep, .widerDeep, .data, .pinned], laidTests := true, laidLooks := .later }
def SelectNamesUptoCardSaid : Prop := Claim7.holds Tryz.pinned (.plain (OpenSpec.upto selectNamesSpec)) selectNamesUptoCard

/-- THE SECOND FORM's CARD OF 'padlockkeep.DeleteAll'. -/
def deleteAllUptoCard : Claim7 := { stood := { row := deleteAllUptoRow, standIns := [], harness := (true, "95cb7f0e7c2555a5ca0390cdd6819305bc7c6fa20531c379b64aac0b47a24663"), looks := false }, kinds := [], alts := [], laidByText := true, laidKinds := [.data, .widerDeep, .widerDeep, .data, .pinned], laidTests := true, laidLooks := .later }
def DeleteAllUptoCardSaid : Prop := Claim7.holds Tryz.pinned (.plain (OpenSpec.upto deleteAllSpec)) deleteAllUptoCard
end Rows
end Go.Proofs.YtdgichenhdikgaaGreatDoor
