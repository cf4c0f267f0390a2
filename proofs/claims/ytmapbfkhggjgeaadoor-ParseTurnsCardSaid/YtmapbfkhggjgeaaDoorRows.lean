/-
  NARROWER THAN 'FOR EVERY INPUT', by the rows' own cells (each row's printed sentence says how): ParseTurns: laid.
  DERIVED. THE GIVEN ROWS OF THIS SEAT. 1 by the template 'for every input the law returns true; each argument reads behind the call as it read before'; 0 by the template 'total and deterministic' (their statements: YtmapbfkhggjgeaaDoorTotals.lean).
  GIVEN WITH THE SEED: the statements are not yours to turn. If you find one false, say at which input.
  Laid BY PROGRAM, IN A SANDBOX (cutbox-rows.mjs): the forced cells as the released guide's own fill.sh prints them over the translation c923747b9ec0e4ff… (all of the seat's roots in one cut). By AI agents, Wed Nov 11 2026. No macro, syntax, notation, axiom, sorry.
-/
import Derived.Test.YtmapbfkhggjgeaaDoorChecked
import GoSem.Claim
import GoSem.ClaimJoined
import GoSem.ClaimMapViews
import Derived.JoinedTies
import Derived.KernelRfl
namespace Go.Proofs.YtmapbfkhggjgeaaDoor
/- THE CELL 'sum', in the pinned program and in every row, IS THE sha256 OF THE DUMP (.gsa) THAT YtmapbfkhggjgeaaDoorProg.lean LOADS. Nothing in Lean hashes anything: it is a label: what it is worth is what the hold of that sum in a sandbox is worth. -/
noncomputable def Tryd.pinned : Pinned := { name := "ytmapbfkhggjgeaadoor", sum := "c923747b9ec0e4ffb7f0b5f53a03e7673079625d97d6a301701ddfcb88953b54", checked := Tryd.checked }
namespace Rows
def none {H : Type} : Left H := { results := [], args := [] }

/- WHAT THE LISTED PACKAGE-LEVEL VARIABLES READ AS WHEN THE CALL BEGINS. Each datum BY PROGRAM (the guide's laid-datum.mjs) off the statement by which the dump's own 'gosem.cut.vars' lays the variable. In a bare row this is a premise. The card (YtmapbfkhggjgeaaDoorCards.lean) ties it to the program's text. -/
def laid_padlock_lex_marks {H : Type} : DataW H := .agg [.lit (.string [60, 61]), .lit (.string [62, 61]), .lit (.string [60, 62]), .lit (.string [40]), .lit (.string [41]), .lit (.string [44]), .lit (.string [42]), .lit (.string [43]), .lit (.string [45]), .lit (.string [61]), .lit (.string [60]), .lit (.string [62])]
def laid_padlock_parse_words {H : Type} : DataW H := .agg [.lit (.string [67, 82, 69, 65, 84, 69]), .lit (.string [84, 65, 66, 76, 69]), .lit (.string [68, 82, 79, 80]), .lit (.string [73, 78, 83, 69, 82, 84]), .lit (.string [73, 78, 84, 79]), .lit (.string [86, 65, 76, 85, 69, 83]), .lit (.string [83, 69, 76, 69, 67, 84]), .lit (.string [67, 79, 85, 78, 84]), .lit (.string [70, 82, 79, 77]), .lit (.string [87, 72, 69, 82, 69]), .lit (.string [79, 82, 68, 69, 82]), .lit (.string [66, 89]), .lit (.string [68, 69, 83, 67]), .lit (.string [76, 73, 77, 73, 84]), .lit (.string [85, 80, 68, 65, 84, 69]), .lit (.string [83, 69, 84]), .lit (.string [68, 69, 76, 69, 84, 69]), .lit (.string [66, 69, 71, 73, 78]), .lit (.string [67, 79, 77, 77, 73, 84]), .lit (.string [82, 79, 76, 76, 66, 65, 67, 75]), .lit (.string [65, 78, 68]), .lit (.string [79, 82]), .lit (.string [78, 79, 84]), .lit (.string [73, 83]), .lit (.string [78, 85, 76, 76]), .lit (.string [84, 82, 85, 69]), .lit (.string [70, 65, 76, 83, 69]), .lit (.string [73, 78, 84]), .lit (.string [84, 69, 88, 84]), .lit (.string [66, 79, 79, 76])]
def laid_padlock_parse_types {H : Type} : DataW H := .agg [.lit (.string []), .lit (.string [66, 79, 79, 76]), .lit (.string [73, 78, 84]), .lit (.string [84, 69, 88, 84])]
def laid_padlock_parse_marks {H : Type} : DataW H := .agg [.agg [.lit (.string [61]), .lit (.int .i64 6), .lit (.bool false), .lit (.bool false)], .agg [.lit (.string [60, 62]), .lit (.int .i64 6), .lit (.bool false), .lit (.bool true)], .agg [.lit (.string [60]), .lit (.int .i64 7), .lit (.bool false), .lit (.bool false)], .agg [.lit (.string [62]), .lit (.int .i64 7), .lit (.bool true), .lit (.bool false)], .agg [.lit (.string [62, 61]), .lit (.int .i64 7), .lit (.bool false), .lit (.bool true)], .agg [.lit (.string [60, 61]), .lit (.int .i64 7), .lit (.bool true), .lit (.bool true)]]

/-- 'padlockkeep.ParseTurns': WHATEVER THE INPUT: true; the input reads as it did. -/
def parseTurnsSpec : ChangeSpec := { name := "parseTurns", fn := fun _ => fun
  | [d1, d2] => { results := [.lit (.bool true)], args := [d1, d2] }
  | _ => none }
def parseTurnsRow : OpenClaim := { program := "ytmapbfkhggjgeaadoor", sum := "c923747b9ec0e4ffb7f0b5f53a03e7673079625d97d6a301701ddfcb88953b54", func := "padlock/padlockkeep.ParseTurns", spec := "parseTurns", unfollowed := true, recurses := true, named := ["padlock/lex.marks", "padlock/parse.words", "padlock/parse.types", "padlock/parse.marks"], apart := false, laid := [("padlock/lex.marks", laid_padlock_lex_marks), ("padlock/parse.words", laid_padlock_parse_words), ("padlock/parse.types", laid_padlock_parse_types), ("padlock/parse.marks", laid_padlock_parse_marks)] }
def ParseTurnsSaid : Prop := parseTurnsRow.holds Tryd.pinned (OpenSpec.ofChange parseTurnsSpec)

/-- ITS FALSE NEIGHBOUR: 'it returns false'. Refute it at one input. -/
def parseTurnsWrong : ChangeSpec := { name := "parseTurns", fn := fun _ => fun
  | [d1, d2] => { results := [.lit (.bool false)], args := [d1, d2] }
  | _ => none }
def ParseTurnsWrongFalsely : Prop := parseTurnsRow.holds Tryd.pinned (OpenSpec.ofChange parseTurnsWrong)

/- THE SECOND FORM. 'bulk': how many values and letters a reading holds, each counted each time it is reached (what is shared counts as often as it is met; a slice's spare places count too). A statement '..UptoSaid' is the law's where the arguments, and the package variables that the reading takes, are together of bulk at most 1048576: NARROWER than '..Said'. Prove '..Said' where nothing that the law and all that it calls make is longer than what came in: it says more and counts as full. Else prove '..UptoSaid'. A law counts once. -/
mutual
def uptoBulk {H : Type} : DataW H → Nat
  | .lit (.string bytes) => bytes.length + 1
  | .lit _ => 1
  | .nil => 1
  | .ptr d => uptoBulk d + 1
  | .slice elems spare => uptoBulkAll elems + uptoBulkAll spare + 1
  | .agg parts => uptoBulkAll parts + 1
  | .iface _ d => uptoBulk d + 1
  | .map entries => uptoBulkEntries entries + 1
  | .held _ => 1
def uptoBulkAll {H : Type} : List (DataW H) → Nat
  | [] => 0
  | d :: r => uptoBulk d + uptoBulkAll r
def uptoBulkEntries {H : Type} : List (Lit × DataW H) → Nat
  | [] => 0
  | x :: r => uptoBulkEntry x + uptoBulkEntries r
def uptoBulkEntry {H : Type} : Lit × DataW H → Nat
  | (.string bytes, d) => bytes.length + uptoBulk d + 1
  | (_, d) => uptoBulk d + 1
 end
def uptoSmall : (H : Type) → List (DataW H) → Bool := fun _ ds => decide (uptoBulkAll ds ≤ 1048576)
def OpenSpec.upto (s : _root_.Go.ChangeSpec) : _root_.Go.OpenSpec := { _root_.Go.OpenSpec.ofChange s with cond := some uptoSmall }

/-- 'padlockkeep.ParseTurns', WHERE WHAT IT READS IS OF BULK AT MOST 1048576: true; the input reads as it did. -/
def parseTurnsUptoRow : OpenClaim := { program := "ytmapbfkhggjgeaadoor", sum := "c923747b9ec0e4ffb7f0b5f53a03e7673079625d97d6a301701ddfcb88953b54", func := "padlock/padlockkeep.ParseTurns", spec := "parseTurns", unfollowed := true, recurses := true, named := ["padlock/lex.marks", "padlock/parse.words", "padlock/parse.types", "padlock/parse.marks"], apart := false, laid := [("padlock/lex.marks", laid_padlock_lex_marks), ("padlock/parse.words", laid_padlock_parse_words), ("padlock/parse.types", laid_padlock_parse_types), ("padlock/parse.marks", laid_padlock_parse_marks)], narrowed := true }
def ParseTurnsUptoSaid : Prop := parseTurnsUptoRow.holds Tryd.pinned (OpenSpec.upto parseTurnsSpec)

end Rows
end Go.Proofs.YtmapbfkhggjgeaaDoor
