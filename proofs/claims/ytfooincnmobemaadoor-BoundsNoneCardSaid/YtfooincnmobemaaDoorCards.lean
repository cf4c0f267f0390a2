/-
  DERIVED. GIVEN WITH THE SEED: THE CARDS: each row of YtfooincnmobemaaDoorRows.lean that lists a variable, with what it lists TIED to the program's text (the seventh form; the later family's looks); each row that meets fmt, with fmt's text TOLD by the authors' own Lean function (tested against real Go, not proved from fmt's source: count such statements apart). THE CARD IS WHAT COUNTS. Prove the row's statement (the work); the ties are given (YtfooincnmobemaaDoorTie.lean); close each card by the builder's one call (the guide's Derived/Test/ToyasCard.lean, 'card_holds'). Laid BY PROGRAM, IN A SANDBOX (cutbox-door.mjs). By AI agents, Wed Nov 11 2026. No macro, syntax, notation, axiom, sorry.
-/
import Derived.Test.YtfooincnmobemaaDoorRows
import GoSem.ClaimSeven
namespace Go.Proofs.YtfooincnmobemaaDoor
namespace Rows

/-- THE TIED CARD OF 'padlockkeep.KindTold'. -/
def kindToldCard : Claim7 := { stood := { row := kindToldRow, standIns := [], harness := (true, "5c356fdb2a43d81a470649d27554a94443cdf0969243a0da3d0a7c61da35640a"), looks := false }, kinds := [], alts := [], laidByText := true, laidKinds := [.widerDeep, .widerDeep, .data], laidTests := true, laidLooks := .later }
def KindToldCardSaid : Prop := Claim7.holds Tryd.pinned (.plain (OpenSpec.ofChange kindToldSpec)) kindToldCard

/-- THE TIED CARD OF 'padlockkeep.EvalNot'. -/
def evalNotCard : Claim7 := { stood := { row := evalNotRow, standIns := [], harness := (true, "5c356fdb2a43d81a470649d27554a94443cdf0969243a0da3d0a7c61da35640a"), looks := false }, kinds := [], alts := [], laidByText := true, laidKinds := [.widerDeep, .widerDeep, .data], laidTests := true, laidLooks := .later }
def EvalNotCardSaid : Prop := Claim7.holds Tryd.pinned (.plain (OpenSpec.ofChange evalNotSpec)) evalNotCard

/-- THE TIED CARD OF 'padlockkeep.BoundsOne'. -/
def boundsOneCard : Claim7 := { stood := { row := boundsOneRow, standIns := [], harness := (true, "5c356fdb2a43d81a470649d27554a94443cdf0969243a0da3d0a7c61da35640a"), looks := false }, kinds := [], alts := [], laidByText := true, laidKinds := [.data, .widerDeep, .widerDeep, .data, .pinned], laidTests := true, laidLooks := .later }
def BoundsOneCardSaid : Prop := Claim7.holds Tryd.pinned (.plain (OpenSpec.ofChange boundsOneSpec)) boundsOneCard

/-- THE TIED CARD OF 'padlockkeep.BoundsBoth'. -/
def boundsBothCard : Claim7 := { stood := { row := boundsBothRow, standIns := [], harness := (true, "5c356fdb2a43d81a470649d27554a94443cdf0969243a0da3d0a7c61da35640a"), looks := false }, kinds := [], alts := [], laidByText := true, laidKinds := [.data, .widerDeep, .widerDeep, .data, .pinned], laidTests := true, laidLooks := .later }
def BoundsBothCardSaid : Prop := Claim7.holds Tryd.pinned (.plain (OpenSpec.ofChange boundsBothSpec)) boundsBothCard

/-- THE TIED CARD OF 'padlockkeep.BoundsNone'. -/
def boundsNoneCard : Claim7 := { stood := { row := boundsNoneRow, standIns := [], harness := (true, "5c356fdb2a43d81a470649d27554a94443cdf0969243a0da3d0a7c61da35640a"), looks := false }, kinds := [], alts := [], laidByText := true, laidKinds := [.data, .widerDeep, .widerDeep, .data, .pinned], laidTests := true, laidLooks := .later }
def BoundsNoneCardSaid : Prop := Claim7.holds Tryd.pinned (.plain (OpenSpec.ofChange boundsNoneSpec)) boundsNoneCard

/-- THE SECOND FORM's CARD OF 'padlockkeep.KindTold'. -/
def kindToldUptoCard : Claim7 := { stood := { row := kindToldUptoRow, standIns := [], harness := (true, "5c356fdb2a43d81a470649d27554a94443cdf0969243a0da3d0a7c61da35640a"), looks := false }, kinds := [], alts := [], laidByText := true, laidKinds := [.widerDeep, .widerDeep, .data], laidTests := true, laidLooks := .later }
def KindToldUptoCardSaid : Prop := Claim7.holds Tryd.pinned (.plain (OpenSpec.upto kindToldSpec)) kindToldUptoCard

/-- THE SECOND FORM's CARD OF 'padlockkeep.EvalNot'. -/
def evalNotUptoCard : Claim7 := { stood := { row := evalNotUptoRow, standIns := [], harness := (true, "5c356fdb2a43d81a470649d27554a94443cdf0969243a0da3d0a7c61da35640a"), looks := false }, kinds := [], alts := [], laidByText := true, laidKinds := [.widerDeep, .widerDeep, .data], laidTests := true, laidLooks := .later }
def EvalNotUptoCardSaid : Prop := Claim7.holds Tryd.pinned (.plain (OpenSpec.upto evalNotSpec)) evalNotUptoCard

/-- THE SECOND FORM's CARD OF 'padlockkeep.BoundsOne'. -/
def boundsOneUptoCard : Claim7 := { stood := { row := boundsOneUptoRow, standIns := [], harness := (true, "5c356fdb2a43d81a470649d27554a94443cdf0969243a0da3d0a7c61da35640a"), looks := false }, kinds := [], alts := [], laidByText := true, laidKinds := [.data, .widerDeep, .widerDeep, .data, .pinned], laidTests := true, laidLooks := .later }
def BoundsOneUptoCardSaid : Prop := Claim7.holds Tryd.pinned (.plain (OpenSpec.upto boundsOneSpec)) boundsOneUptoCard

/-- THE SECOND FORM's CARD OF 'padlockkeep.BoundsBoth'. -/
def boundsBothUptoCard : Claim7 := { stood := { row := boundsBothUptoRow, standIns := [], harness := (true, "5c356fdb2a43d81a470649d27554a94443cdf0969243a0da3d0a7c61da35640a"), looks := false }, kinds := [], alts := [], laidByText := true, laidKinds := [.data, .widerDeep, .widerDeep, .data, .pinned], laidTests := true, laidLooks := .later }
def BoundsBothUptoCardSaid : Prop := Claim7.holds Tryd.pinned (.plain (OpenSpec.upto boundsBothSpec)) boundsBothUptoCard

/-- THE SECOND FORM's CARD OF 'padlockkeep.BoundsNone'. -/
def boundsNoneUptoCard : Claim7 := { stood := { row := boundsNoneUptoRow, standIns := [], harness := (true, "5c356fdb2a43d81a470649d27554a94443cdf0969243a0da3d0a7c61da35640a"), looks := false }, kinds := [], alts := [], laidByText := true, laidKinds := [.data, .widerDeep, .widerDeep, .data, .pinned], laidTests := true, laidLooks := .later }
def BoundsNoneUptoCardSaid : Prop := Claim7.holds Tryd.pinned (.plain (OpenSpec.upto boundsNoneSpec)) boundsNoneUptoCard
end Rows
end Go.Proofs.YtfooincnmobemaaDoor
