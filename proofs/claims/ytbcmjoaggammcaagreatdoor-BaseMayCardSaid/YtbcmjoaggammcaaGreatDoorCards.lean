/-
  DERIVED. GIVEN WITH THE SEED: THE CARDS: each row of YtbcmjoaggammcaaGreatDoorRows.lean that lists a variable, with what it lists TIED to the program's text (the seventh form; the later family's looks); each row that meets fmt, with fmt's text TOLD by the authors' own Lean function (tested against real Go, not proved from fmt's source: count such statements apart). THE CARD IS WHAT COUNTS. Prove the row's statement (the work); the ties are given (YtbcmjoaggammcaaGreatDoorTie.lean); close each card by the builder's one call (the guide's Derived/Test/ToyasCard.lean, 'card_holds'). Laid BY PROGRAM, IN A SANDBOX (cutbox-door.mjs). By AI agents, Wed Nov 11 2026. No macro, syntax, notation, axiom, sorry.
-/
import Derived.Test.YtbcmjoaggammcaaGreatDoorRows
import GoSem.ClaimSeven
namespace Go.Proofs.YtbcmjoaggammcaaGreatDoor
namespace Rows

/-- THE TIED CARD OF 'padlockkeep.InsertBad'. -/
def insertBadCard : Claim7 := { stood := { row := insertBadRow, standIns := [], harness := (true, "f5aba2027308d5765187746fd6c172ac07de12861011dd09226a93ccdf14a4a5"), looks := false }, kinds := [], alts := [], laidByText := true, laidKinds := [.data, .widerDeep, .widerDeep, .data, .pinned], laidTests := true, laidLooks := .later }
def InsertBadCardSaid : Prop := Claim7.holds Tryz.pinned (.plain (OpenSpec.ofChange insertBadSpec)) insertBadCard

/-- THE TIED CARD OF 'padlockkeep.IndexRows'. -/
def indexRowsCard : Claim7 := { stood := { row := indexRowsRow, standIns := [], harness := (true, "f5aba2027308d5765187746fd6c172ac07de12861011dd09226a93ccdf14a4a5"), looks := false }, kinds := [], alts := [], laidByText := true, laidKinds := [.data, .widerDeep, .widerDeep, .data, .pinned], laidTests := true, laidLooks := .later }
def IndexRowsCardSaid : Prop := Claim7.holds Tryz.pinned (.plain (OpenSpec.ofChange indexRowsSpec)) indexRowsCard

/-- THE TIED CARD OF 'padlockkeep.LimitNone'. -/
def limitNoneCard : Claim7 := { stood := { row := limitNoneRow, standIns := [], harness := (true, "f5aba2027308d5765187746fd6c172ac07de12861011dd09226a93ccdf14a4a5"), looks := false }, kinds := [], alts := [], laidByText := true, laidKinds := [.data, .widerDeep, .widerDeep, .data, .pinned], laidTests := true, laidLooks := .later }
def LimitNoneCardSaid : Prop := Claim7.holds Tryz.pinned (.plain (OpenSpec.ofChange limitNoneSpec)) limitNoneCard

/-- THE TIED CARD OF 'padlockkeep.BaseMay'. -/
def baseMayCard : Claim7 := { stood := { row := baseMayRow, standIns := [], harness := (true, "f5aba2027308d5765187746fd6c172ac07de12861011dd09226a93ccdf14a4a5"), looks := false }, kinds := [], alts := [], laidByText := true, laidKinds := [.data, .widerDeep, .widerDeep, .data, .pinned], laidTests := true, laidLooks := .later }
def BaseMayCardSaid : Prop := Claim7.holds Tryz.pinned (.plain (OpenSpec.ofChange baseMaySpec)) baseMayCard

/-- THE TIED CARD OF 'padlockkeep.InsertOne'. -/
def insertOneCard : Claim7 := { stood := { row := insertOneRow, standIns := [], harness := (true, "f5aba2027308d5765187746fd6c172ac07de12861011dd09226a93ccdf14a4a5"), looks := false }, kinds := [], alts := [], laidByText := true, laidKinds := [.data, .widerDeep, .widerDeep, .data, .pinned], laidTests := true, laidLooks := .later }
def InsertOneCardSaid : Prop := Claim7.holds Tryz.pinned (.plain (OpenSpec.ofChange insertOneSpec)) insertOneCard

/-- THE TIED CARD OF 'padlockkeep.TablesMade'. -/
def tablesMadeCard : Claim7 := { stood := { row := tablesMadeRow, standIns := [], harness := (true, "f5aba2027308d5765187746fd6c172ac07de12861011dd09226a93ccdf14a4a5"), looks := false }, kinds := [], alts := [], laidByText := true, laidKinds := [.data, .widerDeep, .widerDeep, .data, .pinned], laidTests := true, laidLooks := .later }
def TablesMadeCardSaid : Prop := Claim7.holds Tryz.pinned (.plain (OpenSpec.ofChange tablesMadeSpec)) tablesMadeCard

/-- THE SECOND FORM's CARD OF 'padlockkeep.InsertBad'. -/
def insertBadUptoCard : Claim7 := { stood := { row := insertBadUptoRow, standIns := [], harness := (true, "f5aba2027308d5765187746fd6c172ac07de12861011dd09226a93ccdf14a4a5"), looks := false }, kinds := [], alts := [], laidByText := true, laidKinds := [.data, .widerDeep, .widerDeep, .data, .pinned], laidTests := true, laidLooks := .later }
def InsertBadUptoCardSaid : Prop := Claim7.holds Tryz.pinned (.plain (OpenSpec.upto insertBadSpec)) insertBadUptoCard

/-- THE SECOND FORM's CARD OF 'padlockkeep.IndexRows'. -/
def indexRowsUptoCard : Claim7 := { stood := { row := indexRowsUptoRow, standIns := [], harness := (true, "f5aba2027308d5765187746fd6c172ac07de12861011dd09226a93ccdf14a4a5"), looks := false }, kinds := [], alts := [], laidByText := true, laidKinds := [.data, .widerDeep, .widerDeep, .data, .pinned], laidTests := true, laidLooks := .later }
def IndexRowsUptoCardSaid : Prop := Claim7.holds Tryz.pinned (.plain (OpenSpec.upto indexRowsSpec)) indexRowsUptoCard

/-- THE SECOND FORM's CARD OF 'padlockkeep.LimitNone'. -/
def limitNoneUptoCard : Claim7 := { stood := { row := limitNoneUptoRow, standIns := [], harness := (true, "f5aba2027308d5765187746fd6c172ac07de12861011dd09226a93ccdf14a4a5"), looks := false }, kinds := [], alts := [], laidByText := true, laidKinds := [.data, .widerDeep, .widerDeep, .data, .pinned], laidTests := true, laidLooks := .later }
def LimitNoneUptoCardSaid : Prop := Claim7.holds Tryz.pinned (.plain (OpenSpec.upto limitNoneSpec)) limitNoneUptoCard

/-- THE SECOND FORM's CARD OF 'padlockkeep.BaseMay'. -/
def baseMayUptoCard : Claim7 := { stood := { row := baseMayUptoRow, standIns := [], harness := (true, "f5aba2027308d5765187746fd6c172ac07de12861011dd09226a93ccdf14a4a5"), looks := false }, kinds := [], alts := [], laidByText := true, laidKinds := [.data, .widerDeep, .widerDeep, .data, .pinned], laidTests := true, laidLooks := .later }
def BaseMayUptoCardSaid : Prop := Claim7.holds Tryz.pinned (.plain (OpenSpec.upto baseMaySpec)) baseMayUptoCard

/-- THE SECOND FORM's CARD OF 'padlockkeep.InsertOne'. -/
def insertOneUptoCard : Claim7 := { stood := { row := insertOneUptoRow, standIns := [], harness := (true, "f5aba2027308d5765187746fd6c172ac07de12861011dd09226a93ccdf14a4a5"), looks := false }, kinds := [], alts := [], laidByText := true, laidKinds := [.data, .widerDeep, .widerDeep, .data, .pinned], laidTests := true, laidLooks := .later }
def InsertOneUptoCardSaid : Prop := Claim7.holds Tryz.pinned (.plain (OpenSpec.upto insertOneSpec)) insertOneUptoCard

/-- THE SECOND FORM's CARD OF 'padlockkeep.TablesMade'. -/
def tablesMadeUptoCard : Claim7 := { stood := { row := tablesMadeUptoRow, standIns := [], harness := (true, "f5aba2027308d5765187746fd6c172ac07de12861011dd09226a93ccdf14a4a5"), looks := false }, kinds := [], alts := [], laidByText := true, laidKinds := [.data, .widerDeep, .widerDeep, .data, .pinned], laidTests := true, laidLooks := .later }
def TablesMadeUptoCardSaid : Prop := Claim7.holds Tryz.pinned (.plain (OpenSpec.upto tablesMadeSpec)) tablesMadeUptoCard
end Rows
end Go.Proofs.YtbcmjoaggammcaaGreatDoor
