/-
  NARROWER THAN 'FOR EVERY INPUT', by the rows' own cells (each row's printed sentence says how): AskFull: laid · LeaveFrees: laid · AllLeave: laid · AskAgain: laid · AskAll: laid · LeaveTurns: laid · LocksSafe: laid · AskGets: laid · AskMore: laid · WaitsSomebody: laid · VictimsEnd: laid.
  DERIVED. THE GIVEN ROWS OF THIS SEAT. 11 by the template 'for every input the law returns true; each argument reads behind the call as it read before'; 0 by the template 'total and deterministic' (their statements: YtcogdagfcndbfaaDoorTotals.lean).
  GIVEN WITH THE SEED: the statements are not yours to turn. If you find one false, say at which input.
  Laid BY PROGRAM, IN A SANDBOX (cutbox-rows.mjs): the forced cells as the released guide's own fill.sh prints them over the translation 9e9dd30af65e8793… (all of the seat's roots in one cut). By AI agents, Wed Nov 11 2026. No macro, syntax, notation, axiom, sorry.
-/
import Derived.Test.YtcogdagfcndbfaaDoorChecked
import GoSem.Claim
import GoSem.ClaimJoined
import GoSem.ClaimMapViews
import Derived.JoinedTies
import Derived.KernelRfl
namespace Go.Proofs.YtcogdagfcndbfaaDoor
/- THE CELL 'sum', in the pinned program and in every row, IS THE sha256 OF THE DUMP (.gsa) THAT YtcogdagfcndbfaaDoorProg.lean LOADS. Nothing in Lean hashes anything: it is a label: what it is worth is what the hold of that sum in a sandbox is worth. -/
noncomputable def Tryd.pinned : Pinned := { name := "ytcogdagfcndbfaadoor", sum := "9e9dd30af65e8793b81d37443bc40193ce249d6a7d6fcf471a6129bd93369c48", checked := Tryd.checked }
namespace Rows
def none {H : Type} : Left H := { results := [], args := [] }

/- WHAT THE LISTED PACKAGE-LEVEL VARIABLES READ AS WHEN THE CALL BEGINS. Each datum BY PROGRAM (the guide's laid-datum.mjs) off the statement by which the dump's own 'gosem.cut.vars' lays the variable. In a bare row this is a premise. The card (YtcogdagfcndbfaaDoorCards.lean) ties it to the program's text. -/
def laid_padlock_lock_fits {H : Type} : DataW H := .agg [.agg [.lit (.bool false), .lit (.bool false), .lit (.bool false), .lit (.bool false), .lit (.bool false), .lit (.bool false)], .agg [.lit (.bool false), .lit (.bool true), .lit (.bool true), .lit (.bool true), .lit (.bool true), .lit (.bool false)], .agg [.lit (.bool false), .lit (.bool true), .lit (.bool true), .lit (.bool false), .lit (.bool false), .lit (.bool false)], .agg [.lit (.bool false), .lit (.bool true), .lit (.bool false), .lit (.bool true), .lit (.bool false), .lit (.bool false)], .agg [.lit (.bool false), .lit (.bool true), .lit (.bool false), .lit (.bool false), .lit (.bool false), .lit (.bool false)], .agg [.lit (.bool false), .lit (.bool false), .lit (.bool false), .lit (.bool false), .lit (.bool false), .lit (.bool false)]]
def laid_padlock_lock_joins {H : Type} : DataW H := .agg [.agg [.lit (.int .i64 0), .lit (.int .i64 0), .lit (.int .i64 0), .lit (.int .i64 0), .lit (.int .i64 0), .lit (.int .i64 0)], .agg [.lit (.int .i64 0), .lit (.int .i64 1), .lit (.int .i64 2), .lit (.int .i64 3), .lit (.int .i64 4), .lit (.int .i64 5)], .agg [.lit (.int .i64 0), .lit (.int .i64 2), .lit (.int .i64 2), .lit (.int .i64 4), .lit (.int .i64 4), .lit (.int .i64 5)], .agg [.lit (.int .i64 0), .lit (.int .i64 3), .lit (.int .i64 4), .lit (.int .i64 3), .lit (.int .i64 4), .lit (.int .i64 5)], .agg [.lit (.int .i64 0), .lit (.int .i64 4), .lit (.int .i64 4), .lit (.int .i64 4), .lit (.int .i64 4), .lit (.int .i64 5)], .agg [.lit (.int .i64 0), .lit (.int .i64 5), .lit (.int .i64 5), .lit (.int .i64 5), .lit (.int .i64 5), .lit (.int .i64 5)]]

/-- 'padlockkeep.AskFull': WHATEVER THE INPUT: true; the input reads as it did. -/
def askFullSpec : ChangeSpec := { name := "askFull", fn := fun _ => fun
  | [d] => { results := [.lit (.bool true)], args := [d] }
  | _ => none }
def askFullRow : OpenClaim := { program := "ytcogdagfcndbfaadoor", sum := "9e9dd30af65e8793b81d37443bc40193ce249d6a7d6fcf471a6129bd93369c48", func := "padlock/padlockkeep.AskFull", spec := "askFull", unfollowed := true, recurses := true, named := ["padlock/lock.joins", "padlock/lock.fits"], apart := false, laid := [("padlock/lock.fits", laid_padlock_lock_fits), ("padlock/lock.joins", laid_padlock_lock_joins)] }
def AskFullSaid : Prop := askFullRow.holds Tryd.pinned (OpenSpec.ofChange askFullSpec)

/-- ITS FALSE NEIGHBOUR: 'it returns false'. Refute it at one input. -/
def askFullWrong : ChangeSpec := { name := "askFull", fn := fun _ => fun
  | [d] => { results := [.lit (.bool false)], args := [d] }
  | _ => none }
def AskFullWrongFalsely : Prop := askFullRow.holds Tryd.pinned (OpenSpec.ofChange askFullWrong)

/-- 'padlockkeep.LeaveFrees': WHATEVER THE INPUT: true; the input reads as it did. -/
def leaveFreesSpec : ChangeSpec := { name := "leaveFrees", fn := fun _ => fun
  | [d1, d2] => { results := [.lit (.bool true)], args := [d1, d2] }
  | _ => none }
def leaveFreesRow : OpenClaim := { program := "ytcogdagfcndbfaadoor", sum := "9e9dd30af65e8793b81d37443bc40193ce249d6a7d6fcf471a6129bd93369c48", func := "padlock/padlockkeep.LeaveFrees", spec := "leaveFrees", unfollowed := true, recurses := true, named := ["padlock/lock.joins", "padlock/lock.fits"], apart := false, laid := [("padlock/lock.fits", laid_padlock_lock_fits), ("padlock/lock.joins", laid_padlock_lock_joins)] }
def LeaveFreesSaid : Prop := leaveFreesRow.holds Tryd.pinned (OpenSpec.ofChange leaveFreesSpec)

/-- ITS FALSE NEIGHBOUR: 'it returns false'. Refute it at one input. -/
def leaveFreesWrong : ChangeSpec := { name := "leaveFrees", fn := fun _ => fun
  | [d1, d2] => { results := [.lit (.bool false)], args := [d1, d2] }
  | _ => none }
def LeaveFreesWrongFalsely : Prop := leaveFreesRow.holds Tryd.pinned (OpenSpec.ofChange leaveFreesWrong)

/-- 'padlockkeep.AllLeave': WHATEVER THE INPUT: true; the input reads as it did. -/
def allLeaveSpec : ChangeSpec := { name := "allLeave", fn := fun _ => fun
  | [d] => { results := [.lit (.bool true)], args := [d] }
  | _ => none }
def allLeaveRow : OpenClaim := { program := "ytcogdagfcndbfaadoor", sum := "9e9dd30af65e8793b81d37443bc40193ce249d6a7d6fcf471a6129bd93369c48", func := "padlock/padlockkeep.AllLeave", spec := "allLeave", unfollowed := true, recurses := true, named := ["padlock/lock.joins", "padlock/lock.fits"], apart := false, laid := [("padlock/lock.fits", laid_padlock_lock_fits), ("padlock/lock.joins", laid_padlock_lock_joins)] }
def AllLeaveSaid : Prop := allLeaveRow.holds Tryd.pinned (OpenSpec.ofChange allLeaveSpec)

/-- ITS FALSE NEIGHBOUR: 'it returns false'. Refute it at one input. -/
def allLeaveWrong : ChangeSpec := { name := "allLeave", fn := fun _ => fun
  | [d] => { results := [.lit (.bool false)], args := [d] }
  | _ => none }
def AllLeaveWrongFalsely : Prop := allLeaveRow.holds Tryd.pinned (OpenSpec.ofChange allLeaveWrong)

/-- 'padlockkeep.AskAgain': WHATEVER THE INPUT: true; the input reads as it did. -/
def askAgainSpec : ChangeSpec := { name := "askAgain", fn := fun _ => fun
  | [d1, d2] => { results := [.lit (.bool true)], args := [d1, d2] }
  | _ => none }
def askAgainRow : OpenClaim := { program := "ytcogdagfcndbfaadoor", sum := "9e9dd30af65e8793b81d37443bc40193ce249d6a7d6fcf471a6129bd93369c48", func := "padlock/padlockkeep.AskAgain", spec := "askAgain", unfollowed := true, recurses := true, named := ["padlock/lock.joins", "padlock/lock.fits"], apart := false, laid := [("padlock/lock.fits", laid_padlock_lock_fits), ("padlock/lock.joins", laid_padlock_lock_joins)] }
def AskAgainSaid : Prop := askAgainRow.holds Tryd.pinned (OpenSpec.ofChange askAgainSpec)

/-- ITS FALSE NEIGHBOUR: 'it returns false'. Refute it at one input. -/
def askAgainWrong : ChangeSpec := { name := "askAgain", fn := fun _ => fun
  | [d1, d2] => { results := [.lit (.bool false)], args := [d1, d2] }
  | _ => none }
def AskAgainWrongFalsely : Prop := askAgainRow.holds Tryd.pinned (OpenSpec.ofChange askAgainWrong)

/-- 'padlockkeep.AskAll': WHATEVER THE INPUT: true; the input reads as it did. -/
def askAllSpec : ChangeSpec := { name := "askAll", fn := fun _ => fun
  | [d] => { results := [.lit (.bool true)], args := [d] }
  | _ => none }
def askAllRow : OpenClaim := { program := "ytcogdagfcndbfaadoor", sum := "9e9dd30af65e8793b81d37443bc40193ce249d6a7d6fcf471a6129bd93369c48", func := "padlock/padlockkeep.AskAll", spec := "askAll", unfollowed := true, recurses := true, named := ["padlock/lock.joins", "padlock/lock.fits"], apart := false, laid := [("padlock/lock.fits", laid_padlock_lock_fits), ("padlock/lock.joins", laid_padlock_lock_joins)] }
def AskAllSaid : Prop := askAllRow.holds Tryd.pinned (OpenSpec.ofChange askAllSpec)

/-- ITS FALSE NEIGHBOUR: 'it returns false'. Refute it at one input. -/
def askAllWrong : ChangeSpec := { name := "askAll", fn := fun _ => fun
  | [d] => { results := [.lit (.bool false)], args := [d] }
  | _ => none }
def AskAllWrongFalsely : Prop := askAllRow.holds Tryd.pinned (OpenSpec.ofChange askAllWrong)

/-- 'padlockkeep.LeaveTurns': WHATEVER THE INPUT: true; the input reads as it did. -/
def leaveTurnsSpec : ChangeSpec := { name := "leaveTurns", fn := fun _ => fun
  | [d] => { results := [.lit (.bool true)], args := [d] }
  | _ => none }
def leaveTurnsRow : OpenClaim := { program := "ytcogdagfcndbfaadoor", sum := "9e9dd30af65e8793b81d37443bc40193ce249d6a7d6fcf471a6129bd93369c48", func := "padlock/padlockkeep.LeaveTurns", spec := "leaveTurns", unfollowed := true, recurses := true, named := ["padlock/lock.joins", "padlock/lock.fits"], apart := false, laid := [("padlock/lock.fits", laid_padlock_lock_fits), ("padlock/lock.joins", laid_padlock_lock_joins)] }
def LeaveTurnsSaid : Prop := leaveTurnsRow.holds Tryd.pinned (OpenSpec.ofChange leaveTurnsSpec)

/-- ITS FALSE NEIGHBOUR: 'it returns false'. Refute it at one input. -/
def leaveTurnsWrong : ChangeSpec := { name := "leaveTurns", fn := fun _ => fun
  | [d] => { results := [.lit (.bool false)], args := [d] }
  | _ => none }
def LeaveTurnsWrongFalsely : Prop := leaveTurnsRow.holds Tryd.pinned (OpenSpec.ofChange leaveTurnsWrong)

/-- 'padlockkeep.LocksSafe': WHATEVER THE INPUT: true; the input reads as it did. -/
def locksSafeSpec : ChangeSpec := { name := "locksSafe", fn := fun _ => fun
  | [d] => { results := [.lit (.bool true)], args := [d] }
  | _ => none }
def locksSafeRow : OpenClaim := { program := "ytcogdagfcndbfaadoor", sum := "9e9dd30af65e8793b81d37443bc40193ce249d6a7d6fcf471a6129bd93369c48", func := "padlock/padlockkeep.LocksSafe", spec := "locksSafe", unfollowed := true, recurses := true, named := ["padlock/lock.joins", "padlock/lock.fits"], apart := false, laid := [("padlock/lock.fits", laid_padlock_lock_fits), ("padlock/lock.joins", laid_padlock_lock_joins)] }
def LocksSafeSaid : Prop := locksSafeRow.holds Tryd.pinned (OpenSpec.ofChange locksSafeSpec)

/-- ITS FALSE NEIGHBOUR: 'it returns false'. Refute it at one input. -/
def locksSafeWrong : ChangeSpec := { name := "locksSafe", fn := fun _ => fun
  | [d] => { results := [.lit (.bool false)], args := [d] }
  | _ => none }
def LocksSafeWrongFalsely : Prop := locksSafeRow.holds Tryd.pinned (OpenSpec.ofChange locksSafeWrong)

/-- 'padlockkeep.AskGets': WHATEVER THE INPUT: true; the input reads as it did. -/
def askGetsSpec : ChangeSpec := { name := "askGets", fn := fun _ => fun
  | [d1, d2] => { results := [.lit (.bool true)], args := [d1, d2] }
  | _ => none }
def askGetsRow : OpenClaim := { program := "ytcogdagfcndbfaadoor", sum := "9e9dd30af65e8793b81d37443bc40193ce249d6a7d6fcf471a6129bd93369c48", func := "padlock/padlockkeep.AskGets", spec := "askGets", unfollowed := true, recurses := true, named := ["padlock/lock.joins", "padlock/lock.fits"], apart := false, laid := [("padlock/lock.fits", laid_padlock_lock_fits), ("padlock/lock.joins", laid_padlock_lock_joins)] }
def AskGetsSaid : Prop := askGetsRow.holds Tryd.pinned (OpenSpec.ofChange askGetsSpec)

/-- ITS FALSE NEIGHBOUR: 'it returns false'. Refute it at one input. -/
def askGetsWrong : ChangeSpec := { name := "askGets", fn := fun _ => fun
  | [d1, d2] => { results := [.lit (.bool false)], args := [d1, d2] }
  | _ => none }
def AskGetsWrongFalsely : Prop := askGetsRow.holds Tryd.pinned (OpenSpec.ofChange askGetsWrong)

/-- 'padlockkeep.AskMore': WHATEVER THE INPUT: true; the input reads as it did. -/
def askMoreSpec : ChangeSpec := { name := "askMore", fn := fun _ => fun
  | [d1, d2, d3] => { results := [.lit (.bool true)], args := [d1, d2, d3] }
  | _ => none }
def askMoreRow : OpenClaim := { program := "ytcogdagfcndbfaadoor", sum := "9e9dd30af65e8793b81d37443bc40193ce249d6a7d6fcf471a6129bd93369c48", func := "padlock/padlockkeep.AskMore", spec := "askMore", unfollowed := true, recurses := true, named := ["padlock/lock.joins", "padlock/lock.fits"], apart := false, laid := [("padlock/lock.fits", laid_padlock_lock_fits), ("padlock/lock.joins", laid_padlock_lock_joins)] }
def AskMoreSaid : Prop := askMoreRow.holds Tryd.pinned (OpenSpec.ofChange askMoreSpec)

/-- ITS FALSE NEIGHBOUR: 'it returns false'. Refute it at one input. -/
def askMoreWrong : ChangeSpec := { name := "askMore", fn := fun _ => fun
  | [d1, d2, d3] => { results := [.lit (.bool false)], args := [d1, d2, d3] }
  | _ => none }
def AskMoreWrongFalsely : Prop := askMoreRow.holds Tryd.pinned (OpenSpec.ofChange askMoreWrong)

/-- 'padlockkeep.WaitsSomebody': WHATEVER THE INPUT: true; the input reads as it did. -/
def waitsSomebodySpec : ChangeSpec := { name := "waitsSomebody", fn := fun _ => fun
  | [d] => { results := [.lit (.bool true)], args := [d] }
  | _ => none }
def waitsSomebodyRow : OpenClaim := { program := "ytcogdagfcndbfaadoor", sum := "9e9dd30af65e8793b81d37443bc40193ce249d6a7d6fcf471a6129bd93369c48", func := "padlock/padlockkeep.WaitsSomebody", spec := "waitsSomebody", unfollowed := true, recurses := true, named := ["padlock/lock.joins", "padlock/lock.fits"], apart := false, laid := [("padlock/lock.fits", laid_padlock_lock_fits), ("padlock/lock.joins", laid_padlock_lock_joins)] }
def WaitsSomebodySaid : Prop := waitsSomebodyRow.holds Tryd.pinned (OpenSpec.ofChange waitsSomebodySpec)

/-- ITS FALSE NEIGHBOUR: 'it returns false'. Refute it at one input. -/
def waitsSomebodyWrong : ChangeSpec := { name := "waitsSomebody", fn := fun _ => fun
  | [d] => { results := [.lit (.bool false)], args := [d] }
  | _ => none }
def WaitsSomebodyWrongFalsely : Prop := waitsSomebodyRow.holds Tryd.pinned (OpenSpec.ofChange waitsSomebodyWrong)

/-- 'padlockkeep.VictimsEnd': WHATEVER THE INPUT: true; the input reads as it did. -/
def victimsEndSpec : ChangeSpec := { name := "victimsEnd", fn := fun _ => fun
  | [d] => { results := [.lit (.bool true)], args := [d] }
  | _ => none }
def victimsEndRow : OpenClaim := { program := "ytcogdagfcndbfaadoor", sum := "9e9dd30af65e8793b81d37443bc40193ce249d6a7d6fcf471a6129bd93369c48", func := "padlock/padlockkeep.VictimsEnd", spec := "victimsEnd", unfollowed := true, recurses := true, named := ["padlock/lock.joins", "padlock/lock.fits"], apart := false, laid := [("padlock/lock.fits", laid_padlock_lock_fits), ("padlock/lock.joins", laid_padlock_lock_joins)] }
def VictimsEndSaid : Prop := victimsEndRow.holds Tryd.pinned (OpenSpec.ofChange victimsEndSpec)

/-- ITS FALSE NEIGHBOUR: 'it returns false'. Refute it at one input. -/
def victimsEndWrong : ChangeSpec := { name := "victimsEnd", fn := fun _ => fun
  | [d] => { results := [.lit (.bool false)], args := [d] }
  | _ => none }
def VictimsEndWrongFalsely : Prop := victimsEndRow.holds Tryd.pinned (OpenSpec.ofChange victimsEndWrong)

/- THE SECOND FORM. 'bulk': how many values and letters a reading holds, each counted each time it is reached (what is shared counts as often as it is met; a slice's spare places count too). A statement '..UptoSaid' is the law's where the arguments, and the package variables that the reading takes, are together of bulk at most 1048576: NARROWER than '..Said'. Prove '..Said' where nothing that the law and all that it calls make is longer than what came in: it says more and counts as full. Else prove '..UptoSaid'. A law counts once. -/
mutual
def uptoBulk {H : Type} : DataW H → Nat
  | .lit (.string bytes) => bytes.length + 1
  | .lit _ => 1
  | .nil => 1
  | .ptr d => uptoBulk d + 1
  | .slice elems spare => uptoBulkAll elems + uptoBulkAll spare + 1
  | .agg parts => uptoBulkAll parts + 1
  | .iface _ d => uptoBulk d + 1
  | .map entries => uptoBulkEntries entries + 1
  | .held _ => 1
def uptoBulkAll {H : Type} : List (DataW H) → Nat
  | [] => 0
  | d :: r => uptoBulk d + uptoBulkAll r
def uptoBulkEntries {H : Type} : List (Lit × DataW H) → Nat
  | [] => 0
  | x :: r => uptoBulkEntry x + uptoBulkEntries r
def uptoBulkEntry {H : Type} : Lit × DataW H → Nat
  | (.string bytes, d) => bytes.length + uptoBulk d + 1
  | (_, d) => uptoBulk d + 1
 end
def uptoSmall : (H : Type) → List (DataW H) → Bool := fun _ ds => decide (uptoBulkAll ds ≤ 1048576)
def OpenSpec.upto (s : _root_.Go.ChangeSpec) : _root_.Go.OpenSpec := { _root_.Go.OpenSpec.ofChange s with cond := some uptoSmall }

/-- 'padlockkeep.AskFull', WHERE WHAT IT READS IS OF BULK AT MOST 1048576: true; the input reads as it did. -/
def askFullUptoRow : OpenClaim := { program := "ytcogdagfcndbfaadoor", sum := "9e9dd30af65e8793b81d37443bc40193ce249d6a7d6fcf471a6129bd93369c48", func := "padlock/padlockkeep.AskFull", spec := "askFull", unfollowed := true, recurses := true, named := ["padlock/lock.joins", "padlock/lock.fits"], apart := false, laid := [("padlock/lock.fits", laid_padlock_lock_fits), ("padlock/lock.joins", laid_padlock_lock_joins)], narrowed := true }
def AskFullUptoSaid : Prop := askFullUptoRow.holds Tryd.pinned (OpenSpec.upto askFullSpec)

/-- 'padlockkeep.LeaveFrees', WHERE WHAT IT READS IS OF BULK AT MOST 1048576: true; the input reads as it did. -/
def leaveFreesUptoRow : OpenClaim := { program := "ytcogdagfcndbfaadoor", sum := "9e9dd30af65e8793b81d37443bc40193ce249d6a7d6fcf471a6129bd93369c48", func := "padlock/padlockkeep.LeaveFrees", spec := "leaveFrees", unfollowed := true, recurses := true, named := ["padlock/lock.joins", "padlock/lock.fits"], apart := false, laid := [("padlock/lock.fits", laid_padlock_lock_fits), ("padlock/lock.joins", laid_padlock_lock_joins)], narrowed := true }
def LeaveFreesUptoSaid : Prop := leaveFreesUptoRow.holds Tryd.pinned (OpenSpec.upto leaveFreesSpec)

/-- 'padlockkeep.AllLeave', WHERE WHAT IT READS IS OF BULK AT MOST 1048576: true; the input reads as it did. -/
def allLeaveUptoRow : OpenClaim := { program := "ytcogdagfcndbfaadoor", sum := "9e9dd30af65e8793b81d37443bc40193ce249d6a7d6fcf471a6129bd93369c48", func := "padlock/padlockkeep.AllLeave", spec := "allLeave", unfollowed := true, recurses := true, named := ["padlock/lock.joins", "padlock/lock.fits"], apart := false, laid := [("padlock/lock.fits", laid_padlock_lock_fits), ("padlock/lock.joins", laid_padlock_lock_joins)], narrowed := true }
def AllLeaveUptoSaid : Prop := allLeaveUptoRow.holds Tryd.pinned (OpenSpec.upto allLeaveSpec)

/-- 'padlockkeep.AskAgain', WHERE WHAT IT READS IS OF BULK AT MOST 1048576: true; the input reads as it did. -/
def askAgainUptoRow : OpenClaim := { program := "ytcogdagfcndbfaadoor", sum := "9e9dd30af65e8793b81d37443bc40193ce249d6a7d6fcf471a6129bd93369c48", func := "padlock/padlockkeep.AskAgain", spec := "askAgain", unfollowed := true, recurses := true, named := ["padlock/lock.joins", "padlock/lock.fits"], apart := false, laid := [("padlock/lock.fits", laid_padlock_lock_fits), ("padlock/lock.joins", laid_padlock_lock_joins)], narrowed := true }
def AskAgainUptoSaid : Prop := askAgainUptoRow.holds Tryd.pinned (OpenSpec.upto askAgainSpec)

/-- 'padlockkeep.AskAll', WHERE WHAT IT READS IS OF BULK AT MOST 1048576: true; the input reads as it did. -/
def askAllUptoRow : OpenClaim := { program := "ytcogdagfcndbfaadoor", sum := "9e9dd30af65e8793b81d37443bc40193ce249d6a7d6fcf471a6129bd93369c48", func := "padlock/padlockkeep.AskAll", spec := "askAll", unfollowed := true, recurses := true, named := ["padlock/lock.joins", "padlock/lock.fits"], apart := false, laid := [("padlock/lock.fits", laid_padlock_lock_fits), ("padlock/lock.joins", laid_padlock_lock_joins)], narrowed := true }
def AskAllUptoSaid : Prop := askAllUptoRow.holds Tryd.pinned (OpenSpec.upto askAllSpec)

/-- 'padlockkeep.LeaveTurns', WHERE WHAT IT READS IS OF BULK AT MOST 1048576: true; the input reads as it did. -/
def leaveTurnsUptoRow : OpenClaim := { program := "ytcogdagfcndbfaadoor", sum := "9e9dd30af65e8793b81d37443bc40193ce249d6a7d6fcf471a6129bd93369c48", func := "padlock/padlockkeep.LeaveTurns", spec := "leaveTurns", unfollowed := true, recurses := true, named := ["padlock/lock.joins", "padlock/lock.fits"], apart := false, laid := [("padlock/lock.fits", laid_padlock_lock_fits), ("padlock/lock.joins", laid_padlock_lock_joins)], narrowed := true }
def LeaveTurnsUptoSaid : Prop := leaveTurnsUptoRow.holds Tryd.pinned (OpenSpec.upto leaveTurnsSpec)

/-- 'padlockkeep.LocksSafe', WHERE WHAT IT READS IS OF BULK AT MOST 1048576: true; the input reads as it did. -/
def locksSafeUptoRow : OpenClaim := { program := "ytcogdagfcndbfaadoor", sum := "9e9dd30af65e8793b81d37443bc40193ce249d6a7d6fcf471a6129bd93369c48", func := "padlock/padlockkeep.LocksSafe", spec := "locksSafe", unfollowed := true, recurses := true, named := ["padlock/lock.joins", "padlock/lock.fits"], apart := false, laid := [("padlock/lock.fits", laid_padlock_lock_fits), ("padlock/lock.joins", laid_padlock_lock_joins)], narrowed := true }
def LocksSafeUptoSaid : Prop := locksSafeUptoRow.holds Tryd.pinned (OpenSpec.upto locksSafeSpec)

/-- 'padlockkeep.AskGets', WHERE WHAT IT READS IS OF BULK AT MOST 1048576: true; the input reads as it did. -/
def askGetsUptoRow : OpenClaim := { program := "ytcogdagfcndbfaadoor", sum := "9e9dd30af65e8793b81d37443bc40193ce249d6a7d6fcf471a6129bd93369c48", func := "padlock/padlockkeep.AskGets", spec := "askGets", unfollowed := true, recurses := true, named := ["padlock/lock.joins", "padlock/lock.fits"], apart := false, laid := [("padlock/lock.fits", laid_padlock_lock_fits), ("padlock/lock.joins", laid_padlock_lock_joins)], narrowed := true }
def AskGetsUptoSaid : Prop := askGetsUptoRow.holds Tryd.pinned (OpenSpec.upto askGetsSpec)

/-- 'padlockkeep.AskMore', WHERE WHAT IT READS IS OF BULK AT MOST 1048576: true; the input reads as it did. -/
def askMoreUptoRow : OpenClaim := { program := "ytcogdagfcndbfaadoor", sum := "9e9dd30af65e8793b81d37443bc40193ce249d6a7d6fcf471a6129bd93369c48", func := "padlock/padlockkeep.AskMore", spec := "askMore", unfollowed := true, recurses := true, named := ["padlock/lock.joins", "padlock/lock.fits"], apart := false, laid := [("padlock/lock.fits", laid_padlock_lock_fits), ("padlock/lock.joins", laid_padlock_lock_joins)], narrowed := true }
def AskMoreUptoSaid : Prop := askMoreUptoRow.holds Tryd.pinned (OpenSpec.upto askMoreSpec)

/-- 'padlockkeep.WaitsSomebody', WHERE WHAT IT READS IS OF BULK AT MOST 1048576: true; the input reads as it did. -/
def waitsSomebodyUptoRow : OpenClaim := { program := "ytcogdagfcndbfaadoor", sum := "9e9dd30af65e8793b81d37443bc40193ce249d6a7d6fcf471a6129bd93369c48", func := "padlock/padlockkeep.WaitsSomebody", spec := "waitsSomebody", unfollowed := true, recurses := true, named := ["padlock/lock.joins", "padlock/lock.fits"], apart := false, laid := [("padlock/lock.fits", laid_padlock_lock_fits), ("padlock/lock.joins", laid_padlock_lock_joins)], narrowed := true }
def WaitsSomebodyUptoSaid : Prop := waitsSomebodyUptoRow.holds Tryd.pinned (OpenSpec.upto waitsSomebodySpec)

/-- 'padlockkeep.VictimsEnd', WHERE WHAT IT READS IS OF BULK AT MOST 1048576: true; the input reads as it did. -/
def victimsEndUptoRow : OpenClaim := { program := "ytcogdagfcndbfaadoor", sum := "9e9dd30af65e8793b81d37443bc40193ce249d6a7d6fcf471a6129bd93369c48", func := "padlock/padlockkeep.VictimsEnd", spec := "victimsEnd", unfollowed := true, recurses := true, named := ["padlock/lock.joins", "padlock/lock.fits"], apart := false, laid := [("padlock/lock.fits", laid_padlock_lock_fits), ("padlock/lock.joins", laid_padlock_lock_joins)], narrowed := true }
def VictimsEndUptoSaid : Prop := victimsEndUptoRow.holds Tryd.pinned (OpenSpec.upto victimsEndSpec)

end Rows
end Go.Proofs.YtcogdagfcndbfaaDoor
