/-
  DERIVED. GIVEN WITH THE SEED: THE CARDS: each row of YtcogdagfcndbfaaDoorRows.lean that lists a variable, with what it lists TIED to the program's text (the seventh form; the later family's looks); each row that meets fmt, with fmt's text TOLD by the authors' own Lean function (tested against real Go, not proved from fmt's source: count such statements apart). THE CARD IS WHAT COUNTS. Prove the row's statement (the work); the ties are given (YtcogdagfcndbfaaDoorTie.lean); close each card by the builder's one call (the guide's Derived/Test/ToyasCard.lean, 'card_holds'). Laid BY PROGRAM, IN A SANDBOX (cutbox-door.mjs). By AI agents, Wed Nov 11 2026. No macro, syntax, notation, axiom, sorry.
-/
import Derived.Test.YtcogdagfcndbfaaDoorRows
import GoSem.ClaimSeven
namespace Go.Proofs.YtcogdagfcndbfaaDoor
namespace Rows

/-- THE TIED CARD OF 'padlockkeep.AskFull'. -/
def askFullCard : Claim7 := { stood := { row := askFullRow, standIns := [], harness := (true, "2a8583770f94612e835cb0c9ac480281d5c80b98ed0b817629c86f82c324e54f"), looks := false }, kinds := [], alts := [], laidByText := true, laidKinds := [.data, .data], laidTests := true, laidLooks := .later }
def AskFullCardSaid : Prop := Claim7.holds Tryd.pinned (.plain (OpenSpec.ofChange askFullSpec)) askFullCard

/-- THE TIED CARD OF 'padlockkeep.LeaveFrees'. -/
def leaveFreesCard : Claim7 := { stood := { row := leaveFreesRow, standIns := [], harness := (true, "2a8583770f94612e835cb0c9ac480281d5c80b98ed0b817629c86f82c324e54f"), looks := false }, kinds := [], alts := [], laidByText := true, laidKinds := [.data, .data], laidTests := true, laidLooks := .later }
def LeaveFreesCardSaid : Prop := Claim7.holds Tryd.pinned (.plain (OpenSpec.ofChange leaveFreesSpec)) leaveFreesCard

/-- THE TIED CARD OF 'padlockkeep.AllLeave'. -/
def allLeaveCard : Claim7 := { stood := { row := allLeaveRow, standIns := [], harness := (true, "2a8583770f94612e835cb0c9ac480281d5c80b98ed0b817629c86f82c324e54f"), looks := false }, kinds := [], alts := [], laidByText := true, laidKinds := [.data, .data], laidTests := true, laidLooks := .later }
def AllLeaveCardSaid : Prop := Claim7.holds Tryd.pinned (.plain (OpenSpec.ofChange allLeaveSpec)) allLeaveCard

/-- THE TIED CARD OF 'padlockkeep.AskAgain'. -/
def askAgainCard : Claim7 := { stood := { row := askAgainRow, standIns := [], harness := (true, "2a8583770f94612e835cb0c9ac480281d5c80b98ed0b817629c86f82c324e54f"), looks := false }, kinds := [], alts := [], laidByText := true, laidKinds := [.data, .data], laidTests := true, laidLooks := .later }
def AskAgainCardSaid : Prop := Claim7.holds Tryd.pinned (.plain (OpenSpec.ofChange askAgainSpec)) askAgainCard

/-- THE TIED CARD OF 'padlockkeep.AskAll'. -/
def askAllCard : Claim7 := { stood := { row := askAllRow, standIns := [], harness := (true, "2a8583770f94612e835cb0c9ac480281d5c80b98ed0b817629c86f82c324e54f"), looks := false }, kinds := [], alts := [], laidByText := true, laidKinds := [.data, .data], laidTests := true, laidLooks := .later }
def AskAllCardSaid : Prop := Claim7.holds Tryd.pinned (.plain (OpenSpec.ofChange askAllSpec)) askAllCard

/-- THE TIED CARD OF 'padlockkeep.LeaveTurns'. -/
def leaveTurnsCard : Claim7 := { stood := { row := leaveTurnsRow, standIns := [], harness := (true, "2a8583770f94612e835cb0c9ac480281d5c80b98ed0b817629c86f82c324e54f"), looks := false }, kinds := [], alts := [], laidByText := true, laidKinds := [.data, .data], laidTests := true, laidLooks := .later }
def LeaveTurnsCardSaid : Prop := Claim7.holds Tryd.pinned (.plain (OpenSpec.ofChange leaveTurnsSpec)) leaveTurnsCard

/-- THE TIED CARD OF 'padlockkeep.LocksSafe'. -/
def locksSafeCard : Claim7 := { stood := { row := locksSafeRow, standIns := [], harness := (true, "2a8583770f94612e835cb0c9ac480281d5c80b98ed0b817629c86f82c324e54f"), looks := false }, kinds := [], alts := [], laidByText := true, laidKinds := [.data, .data], laidTests := true, laidLooks := .later }
def LocksSafeCardSaid : Prop := Claim7.holds Tryd.pinned (.plain (OpenSpec.ofChange locksSafeSpec)) locksSafeCard

/-- THE TIED CARD OF 'padlockkeep.AskGets'. -/
def askGetsCard : Claim7 := { stood := { row := askGetsRow, standIns := [], harness := (true, "2a8583770f94612e835cb0c9ac480281d5c80b98ed0b817629c86f82c324e54f"), looks := false }, kinds := [], alts := [], laidByText := true, laidKinds := [.data, .data], laidTests := true, laidLooks := .later }
def AskGetsCardSaid : Prop := Claim7.holds Tryd.pinned (.plain (OpenSpec.ofChange askGetsSpec)) askGetsCard

/-- THE TIED CARD OF 'padlockkeep.AskMore'. -/
def askMoreCard : Claim7 := { stood := { row := askMoreRow, standIns := [], harness := (true, "2a8583770f94612e835cb0c9ac480281d5c80b98ed0b817629c86f82c324e54f"), looks := false }, kinds := [], alts := [], laidByText := true, laidKinds := [.data, .data], laidTests := true, laidLooks := .later }
def AskMoreCardSaid : Prop := Claim7.holds Tryd.pinned (.plain (OpenSpec.ofChange askMoreSpec)) askMoreCard

/-- THE TIED CARD OF 'padlockkeep.WaitsSomebody'. -/
def waitsSomebodyCard : Claim7 := { stood := { row := waitsSomebodyRow, standIns := [], harness := (true, "2a8583770f94612e835cb0c9ac480281d5c80b98ed0b817629c86f82c324e54f"), looks := false }, kinds := [], alts := [], laidByText := true, laidKinds := [.data, .data], laidTests := true, laidLooks := .later }
def WaitsSomebodyCardSaid : Prop := Claim7.holds Tryd.pinned (.plain (OpenSpec.ofChange waitsSomebodySpec)) waitsSomebodyCard

/-- THE TIED CARD OF 'padlockkeep.VictimsEnd'. -/
def victimsEndCard : Claim7 := { stood := { row := victimsEndRow, standIns := [], harness := (true, "2a8583770f94612e835cb0c9ac480281d5c80b98ed0b817629c86f82c324e54f"), looks := false }, kinds := [], alts := [], laidByText := true, laidKinds := [.data, .data], laidTests := true, laidLooks := .later }
def VictimsEndCardSaid : Prop := Claim7.holds Tryd.pinned (.plain (OpenSpec.ofChange victimsEndSpec)) victimsEndCard

/-- THE SECOND FORM's CARD OF 'padlockkeep.AskFull'. -/
def askFullUptoCard : Claim7 := { stood := { row := askFullUptoRow, standIns := [], harness := (true, "2a8583770f94612e835cb0c9ac480281d5c80b98ed0b817629c86f82c324e54f"), looks := false }, kinds := [], alts := [], laidByText := true, laidKinds := [.data, .data], laidTests := true, laidLooks := .later }
def AskFullUptoCardSaid : Prop := Claim7.holds Tryd.pinned (.plain (OpenSpec.upto askFullSpec)) askFullUptoCard

/-- THE SECOND FORM's CARD OF 'padlockkeep.LeaveFrees'. -/
def leaveFreesUptoCard : Claim7 := { stood := { row := leaveFreesUptoRow, standIns := [], harness := (true, "2a8583770f94612e835cb0c9ac480281d5c80b98ed0b817629c86f82c324e54f"), looks := false }, kinds := [], alts := [], laidByText := true, laidKinds := [.data, .data], laidTests := true, laidLooks := .later }
def LeaveFreesUptoCardSaid : Prop := Claim7.holds Tryd.pinned (.plain (OpenSpec.upto leaveFreesSpec)) leaveFreesUptoCard

/-- THE SECOND FORM's CARD OF 'padlockkeep.AllLeave'. -/
def allLeaveUptoCard : Claim7 := { stood := { row := allLeaveUptoRow, standIns := [], harness := (true, "2a8583770f94612e835cb0c9ac480281d5c80b98ed0b817629c86f82c324e54f"), looks := false }, kinds := [], alts := [], laidByText := true, laidKinds := [.data, .data], laidTests := true, laidLooks := .later }
def AllLeaveUptoCardSaid : Prop := Claim7.holds Tryd.pinned (.plain (OpenSpec.upto allLeaveSpec)) allLeaveUptoCard

/-- THE SECOND FORM's CARD OF 'padlockkeep.AskAgain'. -/
def askAgainUptoCard : Claim7 := { stood := { row := askAgainUptoRow, standIns := [], harness := (true, "2a8583770f94612e835cb0c9ac480281d5c80b98ed0b817629c86f82c324e54f"), looks := false }, kinds := [], alts := [], laidByText := true, laidKinds := [.data, .data], laidTests := true, laidLooks := .later }
def AskAgainUptoCardSaid : Prop := Claim7.holds Tryd.pinned (.plain (OpenSpec.upto askAgainSpec)) askAgainUptoCard

/-- THE SECOND FORM's CARD OF 'padlockkeep.AskAll'. -/
def askAllUptoCard : Claim7 := { stood := { row := askAllUptoRow, standIns := [], harness := (true, "2a8583770f94612e835cb0c9ac480281d5c80b98ed0b817629c86f82c324e54f"), looks := false }, kinds := [], alts := [], laidByText := true, laidKinds := [.data, .data], laidTests := true, laidLooks := .later }
def AskAllUptoCardSaid : Prop := Claim7.holds Tryd.pinned (.plain (OpenSpec.upto askAllSpec)) askAllUptoCard

/-- THE SECOND FORM's CARD OF 'padlockkeep.LeaveTurns'. -/
def leaveTurnsUptoCard : Claim7 := { stood := { row := leaveTurnsUptoRow, standIns := [], harness := (true, "2a8583770f94612e835cb0c9ac480281d5c80b98ed0b817629c86f82c324e54f"), looks := false }, kinds := [], alts := [], laidByText := true, laidKinds := [.data, .data], laidTests := true, laidLooks := .later }
def LeaveTurnsUptoCardSaid : Prop := Claim7.holds Tryd.pinned (.plain (OpenSpec.upto leaveTurnsSpec)) leaveTurnsUptoCard

/-- THE SECOND FORM's CARD OF 'padlockkeep.LocksSafe'. -/
def locksSafeUptoCard : Claim7 := { stood := { row := locksSafeUptoRow, standIns := [], harness := (true, "2a8583770f94612e835cb0c9ac480281d5c80b98ed0b817629c86f82c324e54f"), looks := false }, kinds := [], alts := [], laidByText := true, laidKinds := [.data, .data], laidTests := true, laidLooks := .later }
def LocksSafeUptoCardSaid : Prop := Claim7.holds Tryd.pinned (.plain (OpenSpec.upto locksSafeSpec)) locksSafeUptoCard

/-- THE SECOND FORM's CARD OF 'padlockkeep.AskGets'. -/
def askGetsUptoCard : Claim7 := { stood := { row := askGetsUptoRow, standIns := [], harness := (true, "2a8583770f94612e835cb0c9ac480281d5c80b98ed0b817629c86f82c324e54f"), looks := false }, kinds := [], alts := [], laidByText := true, laidKinds := [.data, .data], laidTests := true, laidLooks := .later }
def AskGetsUptoCardSaid : Prop := Claim7.holds Tryd.pinned (.plain (OpenSpec.upto askGetsSpec)) askGetsUptoCard

/-- THE SECOND FORM's CARD OF 'padlockkeep.AskMore'. -/
def askMoreUptoCard : Claim7 := { stood := { row := askMoreUptoRow, standIns := [], harness := (true, "2a8583770f94612e835cb0c9ac480281d5c80b98ed0b817629c86f82c324e54f"), looks := false }, kinds := [], alts := [], laidByText := true, laidKinds := [.data, .data], laidTests := true, laidLooks := .later }
def AskMoreUptoCardSaid : Prop := Claim7.holds Tryd.pinned (.plain (OpenSpec.upto askMoreSpec)) askMoreUptoCard

/-- THE SECOND FORM's CARD OF 'padlockkeep.WaitsSomebody'. -/
def waitsSomebodyUptoCard : Claim7 := { stood := { row := waitsSomebodyUptoRow, standIns := [], harness := (true, "2a8583770f94612e835cb0c9ac480281d5c80b98ed0b817629c86f82c324e54f"), looks := false }, kinds := [], alts := [], laidByText := true, laidKinds := [.data, .data], laidTests := true, laidLooks := .later }
def WaitsSomebodyUptoCardSaid : Prop := Claim7.holds Tryd.pinned (.plain (OpenSpec.upto waitsSomebodySpec)) waitsSomebodyUptoCard

/-- THE SECOND FORM's CARD OF 'padlockkeep.VictimsEnd'. -/
def victimsEndUptoCard : Claim7 := { stood := { row := victimsEndUptoRow, standIns := [], harness := (true, "2a8583770f94612e835cb0c9ac480281d5c80b98ed0b817629c86f82c324e54f"), looks := false }, kinds := [], alts := [], laidByText := true, laidKinds := [.data, .data], laidTests := true, laidLooks := .later }
def VictimsEndUptoCardSaid : Prop := Claim7.holds Tryd.pinned (.plain (OpenSpec.upto victimsEndSpec)) victimsEndUptoCard
end Rows
end Go.Proofs.YtcogdagfcndbfaaDoor
