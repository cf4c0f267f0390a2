/-
  NARROWER THAN 'FOR EVERY INPUT', by the rows' own cells (each row's printed sentence says how): OtherStays: loops, laid · SelectParts: loops, laid · ChangedJust: loops, laid · UndoBack: loops, laid.
  DERIVED. THE GIVEN ROWS OF THIS SEAT. 4 by the template 'for every input the law returns true; each argument reads behind the call as it read before'; 0 by the template 'total and deterministic' (their statements: YtbplamgacibdaaaGreatDoorTotals.lean).
  GIVEN WITH THE SEED: the statements are not yours to turn. If you find one false, say at which input.
  Laid BY PROGRAM, IN A SANDBOX (cutbox-rows.mjs): the forced cells as the released guide's own fill.sh prints them over the translation fc26346f44660870… (all of the seat's roots in one cut). By AI agents, Wed Nov 11 2026. No macro, syntax, notation, axiom, sorry.
-/
import Derived.Test.YtbplamgacibdaaaGreatDoorChecked
import GoSem.PinnedTables
import GoSem.Claim
import GoSem.ClaimJoined
import GoSem.ClaimMapViews
import Derived.JoinedTies
import Derived.KernelRfl
namespace Go.Proofs.YtbplamgacibdaaaGreatDoor
/- THE CELL 'sum', in the pinned program and in every row, IS THE sha256 OF THE DUMP (.gsa) THAT YtbplamgacibdaaaGreatDoorProg.lean LOADS. Nothing in Lean hashes anything: it is a label: what it is worth is what the hold of that sum in a sandbox is worth. -/
noncomputable def Tryz.pinned : Pinned := { name := "ytbplamgacibdaaagreatdoor", sum := "fc26346f44660870f6aab70c61eeeabba374e348dfdabd3b958c33a6ed0a4ea7", checked := Tryz.checked }
namespace Rows
def none {H : Type} : Left H := { results := [], args := [] }

/- WHAT THE LISTED PACKAGE-LEVEL VARIABLES READ AS WHEN THE CALL BEGINS. Each datum BY PROGRAM (the guide's laid-datum.mjs) off the statement by which the dump's own 'gosem.cut.vars' lays the variable. In a bare row this is a premise. The card (YtbplamgacibdaaaGreatDoorCards.lean) ties it to the program's text. -/
def laid_unicode_utf8_acceptRanges {H : Type} : DataW H := .agg [.agg [.lit (.int .u8 128), .lit (.int .u8 191)], .agg [.lit (.int .u8 160), .lit (.int .u8 191)], .agg [.lit (.int .u8 128), .lit (.int .u8 159)], .agg [.lit (.int .u8 144), .lit (.int .u8 191)], .agg [.lit (.int .u8 128), .lit (.int .u8 143)], .agg [.lit (.int .u8 0), .lit (.int .u8 0)], .agg [.lit (.int .u8 0), .lit (.int .u8 0)], .agg [.lit (.int .u8 0), .lit (.int .u8 0)], .agg [.lit (.int .u8 0), .lit (.int .u8 0)], .agg [.lit (.int .u8 0), .lit (.int .u8 0)], .agg [.lit (.int .u8 0), .lit (.int .u8 0)], .agg [.lit (.int .u8 0), .lit (.int .u8 0)], .agg [.lit (.int .u8 0), .lit (.int .u8 0)], .agg [.lit (.int .u8 0), .lit (.int .u8 0)], .agg [.lit (.int .u8 0), .lit (.int .u8 0)], .agg [.lit (.int .u8 0), .lit (.int .u8 0)]]
def laid_padlock_lex_marks {H : Type} : DataW H := .agg [.lit (.string [60, 61]), .lit (.string [62, 61]), .lit (.string [60, 62]), .lit (.string [40]), .lit (.string [41]), .lit (.string [44]), .lit (.string [42]), .lit (.string [43]), .lit (.string [45]), .lit (.string [61]), .lit (.string [60]), .lit (.string [62])]
def laid_padlock_parse_words {H : Type} : DataW H := .agg [.lit (.string [67, 82, 69, 65, 84, 69]), .lit (.string [84, 65, 66, 76, 69]), .lit (.string [68, 82, 79, 80]), .lit (.string [73, 78, 83, 69, 82, 84]), .lit (.string [73, 78, 84, 79]), .lit (.string [86, 65, 76, 85, 69, 83]), .lit (.string [83, 69, 76, 69, 67, 84]), .lit (.string [67, 79, 85, 78, 84]), .lit (.string [70, 82, 79, 77]), .lit (.string [87, 72, 69, 82, 69]), .lit (.string [79, 82, 68, 69, 82]), .lit (.string [66, 89]), .lit (.string [68, 69, 83, 67]), .lit (.string [76, 73, 77, 73, 84]), .lit (.string [85, 80, 68, 65, 84, 69]), .lit (.string [83, 69, 84]), .lit (.string [68, 69, 76, 69, 84, 69]), .lit (.string [66, 69, 71, 73, 78]), .lit (.string [67, 79, 77, 77, 73, 84]), .lit (.string [82, 79, 76, 76, 66, 65, 67, 75]), .lit (.string [65, 78, 68]), .lit (.string [79, 82]), .lit (.string [78, 79, 84]), .lit (.string [73, 83]), .lit (.string [78, 85, 76, 76]), .lit (.string [84, 82, 85, 69]), .lit (.string [70, 65, 76, 83, 69]), .lit (.string [73, 78, 84]), .lit (.string [84, 69, 88, 84]), .lit (.string [66, 79, 79, 76])]
def laid_padlock_parse_types {H : Type} : DataW H := .agg [.lit (.string []), .lit (.string [66, 79, 79, 76]), .lit (.string [73, 78, 84]), .lit (.string [84, 69, 88, 84])]
/-- One of Go's own tables, pinned by name: the form's constant. -/
def laid_unicode_utf8_first : DataW Unit := Go.Pinned.utf8First

/-- 'padlockkeep.OtherStays': WHATEVER THE INPUT: true; the input reads as it did. -/
def otherStaysSpec : ChangeSpec := { name := "otherStays", fn := fun _ => fun
  | [d1, d2] => { results := [.lit (.bool true)], args := [d1, d2] }
  | _ => none }
def otherStaysRow : OpenClaim := { program := "ytbplamgacibdaaagreatdoor", sum := "fc26346f44660870f6aab70c61eeeabba374e348dfdabd3b958c33a6ed0a4ea7", func := "padlock/padlockkeep.OtherStays", spec := "otherStays", inPlace := ["internal/bytealg.Compare", "internal/bytealg.CountString", "internal/bytealg.IndexByteString", "internal/bytealg.IndexString", "internal/abi.NoEscape", "internal/bytealg.MakeNoZero", "slices.overlaps[[]byte]", "slices.overlaps[int]", "internal/bytealg.abigen_runtime_cmpstring"], unfollowed := true, recurses := true, named := ["padlock/parse.words", "padlock/lex.marks", "padlock/parse.types", "internal/bytealg.MaxLen", "unicode/utf8.first", "unicode/utf8.acceptRanges"], loops := true, apart := false, laid := [("unicode/utf8.acceptRanges", laid_unicode_utf8_acceptRanges), ("padlock/lex.marks", laid_padlock_lex_marks), ("padlock/parse.words", laid_padlock_parse_words), ("padlock/parse.types", laid_padlock_parse_types), ("unicode/utf8.first", laid_unicode_utf8_first)] }
def OtherStaysSaid : Prop := otherStaysRow.holds Tryz.pinned (OpenSpec.ofChange otherStaysSpec)

/-- ITS FALSE NEIGHBOUR: 'it returns false'. Refute it at one input. -/
def otherStaysWrong : ChangeSpec := { name := "otherStays", fn := fun _ => fun
  | [d1, d2] => { results := [.lit (.bool false)], args := [d1, d2] }
  | _ => none }
def OtherStaysWrongFalsely : Prop := otherStaysRow.holds Tryz.pinned (OpenSpec.ofChange otherStaysWrong)

/-- 'padlockkeep.SelectParts': WHATEVER THE INPUT: true; the input reads as it did. -/
def selectPartsSpec : ChangeSpec := { name := "selectParts", fn := fun _ => fun
  | [d1, d2] => { results := [.lit (.bool true)], args := [d1, d2] }
  | _ => none }
def selectPartsRow : OpenClaim := { program := "ytbplamgacibdaaagreatdoor", sum := "fc26346f44660870f6aab70c61eeeabba374e348dfdabd3b958c33a6ed0a4ea7", func := "padlock/padlockkeep.SelectParts", spec := "selectParts", inPlace := ["internal/bytealg.Compare", "internal/bytealg.CountString", "internal/bytealg.IndexByteString", "internal/bytealg.IndexString", "internal/abi.NoEscape", "internal/bytealg.MakeNoZero", "slices.overlaps[[]byte]", "slices.overlaps[int]", "internal/bytealg.abigen_runtime_cmpstring"], unfollowed := true, recurses := true, named := ["padlock/parse.words", "padlock/lex.marks", "padlock/parse.types", "internal/bytealg.MaxLen", "unicode/utf8.first", "unicode/utf8.acceptRanges"], loops := true, apart := false, laid := [("unicode/utf8.acceptRanges", laid_unicode_utf8_acceptRanges), ("padlock/lex.marks", laid_padlock_lex_marks), ("padlock/parse.words", laid_padlock_parse_words), ("padlock/parse.types", laid_padlock_parse_types), ("unicode/utf8.first", laid_unicode_utf8_first)] }
def SelectPartsSaid : Prop := selectPartsRow.holds Tryz.pinned (OpenSpec.ofChange selectPartsSpec)

/-- ITS FALSE NEIGHBOUR: 'it returns false'. Refute it at one input. -/
def selectPartsWrong : ChangeSpec := { name := "selectParts", fn := fun _ => fun
  | [d1, d2] => { results := [.lit (.bool false)], args := [d1, d2] }
  | _ => none }
def SelectPartsWrongFalsely : Prop := selectPartsRow.holds Tryz.pinned (OpenSpec.ofChange selectPartsWrong)

/-- 'padlockkeep.ChangedJust': WHATEVER THE INPUT: true; the input reads as it did. -/
def changedJustSpec : ChangeSpec := { name := "changedJust", fn := fun _ => fun
  | [d1, d2] => { results := [.lit (.bool true)], args := [d1, d2] }
  | _ => none }
def changedJustRow : OpenClaim := { program := "ytbplamgacibdaaagreatdoor", sum := "fc26346f44660870f6aab70c61eeeabba374e348dfdabd3b958c33a6ed0a4ea7", func := "padlock/padlockkeep.ChangedJust", spec := "changedJust", inPlace := ["internal/bytealg.Compare", "internal/bytealg.CountString", "internal/bytealg.IndexByteString", "internal/bytealg.IndexString", "internal/abi.NoEscape", "internal/bytealg.MakeNoZero", "slices.overlaps[[]byte]", "slices.overlaps[int]", "internal/bytealg.abigen_runtime_cmpstring"], unfollowed := true, recurses := true, named := ["padlock/parse.words", "padlock/lex.marks", "padlock/parse.types", "internal/bytealg.MaxLen", "unicode/utf8.first", "unicode/utf8.acceptRanges"], loops := true, apart := false, laid := [("unicode/utf8.acceptRanges", laid_unicode_utf8_acceptRanges), ("padlock/lex.marks", laid_padlock_lex_marks), ("padlock/parse.words", laid_padlock_parse_words), ("padlock/parse.types", laid_padlock_parse_types), ("unicode/utf8.first", laid_unicode_utf8_first)] }
def ChangedJustSaid : Prop := changedJustRow.holds Tryz.pinned (OpenSpec.ofChange changedJustSpec)

/-- ITS FALSE NEIGHBOUR: 'it returns false'. Refute it at one input. -/
def changedJustWrong : ChangeSpec := { name := "changedJust", fn := fun _ => fun
  | [d1, d2] => { results := [.lit (.bool false)], args := [d1, d2] }
  | _ => none }
def ChangedJustWrongFalsely : Prop := changedJustRow.holds Tryz.pinned (OpenSpec.ofChange changedJustWrong)

/-- 'padlockkeep.UndoBack': WHATEVER THE INPUT: true; the input reads as it did. -/
def undoBackSpec : ChangeSpec := { name := "undoBack", fn := fun _ => fun
  | [d1, d2] => { results := [.lit (.bool true)], args := [d1, d2] }
  | _ => none }
def undoBackRow : OpenClaim := { program := "ytbplamgacibdaaagreatdoor", sum := "fc26346f44660870f6aab70c61eeeabba374e348dfdabd3b958c33a6ed0a4ea7", func := "padlock/padlockkeep.UndoBack", spec := "undoBack", inPlace := ["internal/bytealg.Compare", "internal/bytealg.CountString", "internal/bytealg.IndexByteString", "internal/bytealg.IndexString", "internal/abi.NoEscape", "internal/bytealg.MakeNoZero", "slices.overlaps[[]byte]", "slices.overlaps[int]", "internal/bytealg.abigen_runtime_cmpstring"], unfollowed := true, recurses := true, named := ["padlock/parse.words", "padlock/lex.marks", "padlock/parse.types", "internal/bytealg.MaxLen", "unicode/utf8.first", "unicode/utf8.acceptRanges"], loops := true, apart := false, laid := [("unicode/utf8.acceptRanges", laid_unicode_utf8_acceptRanges), ("padlock/lex.marks", laid_padlock_lex_marks), ("padlock/parse.words", laid_padlock_parse_words), ("padlock/parse.types", laid_padlock_parse_types), ("unicode/utf8.first", laid_unicode_utf8_first)] }
def UndoBackSaid : Prop := undoBackRow.holds Tryz.pinned (OpenSpec.ofChange undoBackSpec)

/-- ITS FALSE NEIGHBOUR: 'it returns false'. Refute it at one input. -/
def undoBackWrong : ChangeSpec := { name := "undoBack", fn := fun _ => fun
  | [d1, d2] => { results := [.lit (.bool false)], args := [d1, d2] }
  | _ => none }
def UndoBackWrongFalsely : Prop := undoBackRow.holds Tryz.pinned (OpenSpec.ofChange undoBackWrong)

/- THE SECOND FORM. 'bulk': how many values and letters a reading holds, each counted each time it is reached (what is shared counts as often as it is met; a slice's spare places count too). A statement '..UptoSaid' is the law's where the arguments, and the package variables that the reading takes, are together of bulk at most 1048576: NARROWER than '..Said'. Prove '..Said' where nothing that the law and all that it calls make is longer than what came in: it says more and counts as full. Else prove '..UptoSaid'. A law counts once. -/
mutual
def uptoBulk {H : Type} : DataW H → Nat
  | .lit (.string bytes) => bytes.length + 1
  | .lit _ => 1
  | .nil => 1
  | .ptr d => uptoBulk d + 1
  | .slice elems spare => uptoBulkAll elems + uptoBulkAll spare + 1
  | .agg parts => uptoBulkAll parts + 1
  | .iface _ d => uptoBulk d + 1
  | .map entries => uptoBulkEntries entries + 1
  | .held _ => 1
def uptoBulkAll {H : Type} : List (DataW H) → Nat
  | [] => 0
  | d :: r => uptoBulk d + uptoBulkAll r
def uptoBulkEntries {H : Type} : List (Lit × DataW H) → Nat
  | [] => 0
  | x :: r => uptoBulkEntry x + uptoBulkEntries r
def uptoBulkEntry {H : Type} : Lit × DataW H → Nat
  | (.string bytes, d) => bytes.length + uptoBulk d + 1
  | (_, d) => uptoBulk d + 1
 end
def uptoSmall : (H : Type) → List (DataW H) → Bool := fun _ ds => decide (uptoBulkAll ds ≤ 1048576)
def OpenSpec.upto (s : _root_.Go.ChangeSpec) : _root_.Go.OpenSpec := { _root_.Go.OpenSpec.ofChange s with cond := some uptoSmall }

/-- 'padlockkeep.OtherStays', WHERE WHAT IT READS IS OF BULK AT MOST 1048576: true; the input reads as it did. -/
def otherStaysUptoRow : OpenClaim := { program := "ytbplamgacibdaaagreatdoor", sum := "fc26346f44660870f6aab70c61eeeabba374e348dfdabd3b958c33a6ed0a4ea7", func := "padlock/padlockkeep.OtherStays", spec := "otherStays", inPlace := ["internal/bytealg.Compare", "internal/bytealg.CountString", "internal/bytealg.IndexByteString", "internal/bytealg.IndexString", "internal/abi.NoEscape", "internal/bytealg.MakeNoZero", "slices.overlaps[[]byte]", "slices.overlaps[int]", "internal/bytealg.abigen_runtime_cmpstring"], unfollowed := true, recurses := true, named := ["padlock/parse.words", "padlock/lex.marks", "padlock/parse.types", "internal/bytealg.MaxLen", "unicode/utf8.first", "unicode/utf8.acceptRanges"], loops := true, apart := false, laid := [("unicode/utf8.acceptRanges", laid_unicode_utf8_acceptRanges), ("padlock/lex.marks", laid_padlock_lex_marks), ("padlock/parse.words", laid_padlock_parse_words), ("padlock/parse.types", laid_padlock_parse_types), ("unicode/utf8.first", laid_unicode_utf8_first)], narrowed := true }
def OtherStaysUptoSaid : Prop := otherStaysUptoRow.holds Tryz.pinned (OpenSpec.upto otherStaysSpec)

/-- 'padlockkeep.SelectParts', WHERE WHAT IT READS IS OF BULK AT MOST 1048576: true; the input reads as it did. -/
def selectPartsUptoRow : OpenClaim := { program := "ytbplamgacibdaaagreatdoor", sum := "fc26346f44660870f6aab70c61eeeabba374e348dfdabd3b958c33a6ed0a4ea7", func := "padlock/padlockkeep.SelectParts", spec := "selectParts", inPlace := ["internal/bytealg.Compare", "internal/bytealg.CountString", "internal/bytealg.IndexByteString", "internal/bytealg.IndexString", "internal/abi.NoEscape", "internal/bytealg.MakeNoZero", "slices.overlaps[[]byte]", "slices.overlaps[int]", "internal/bytealg.abigen_runtime_cmpstring"], unfollowed := true, recurses := true, named := ["padlock/parse.words", "padlock/lex.marks", "padlock/parse.types", "internal/bytealg.MaxLen", "unicode/utf8.first", "unicode/utf8.acceptRanges"], loops := true, apart := false, laid := [("unicode/utf8.acceptRanges", laid_unicode_utf8_acceptRanges), ("padlock/lex.marks", laid_padlock_lex_marks), ("padlock/parse.words", laid_padlock_parse_words), ("padlock/parse.types", laid_padlock_parse_types), ("unicode/utf8.first", laid_unicode_utf8_first)], narrowed := true }
def SelectPartsUptoSaid : Prop := selectPartsUptoRow.holds Tryz.pinned (OpenSpec.upto selectPartsSpec)

/-- 'padlockkeep.ChangedJust', WHERE WHAT IT READS IS OF BULK AT MOST 1048576: true; the input reads as it did. -/
def changedJustUptoRow : OpenClaim := { program := "ytbplamgacibdaaagreatdoor", sum := "fc26346f44660870f6aab70c61eeeabba374e348dfdabd3b958c33a6ed0a4ea7", func := "padlock/padlockkeep.ChangedJust", spec := "changedJust", inPlace := ["internal/bytealg.Compare", "internal/bytealg.CountString", "internal/bytealg.IndexByteString", "internal/bytealg.IndexString", "internal/abi.NoEscape", "internal/bytealg.MakeNoZero", "slices.overlaps[[]byte]", "slices.overlaps[int]", "internal/bytealg.abigen_runtime_cmpstring"], unfollowed := true, recurses := true, named := ["padlock/parse.words", "padlock/lex.marks", "padlock/parse.types", "internal/bytealg.MaxLen", "unicode/utf8.first", "unicode/utf8.acceptRanges"], loops := true, apart := false, laid := [("unicode/utf8.acceptRanges", laid_unicode_utf8_acceptRanges), ("padlock/lex.marks", laid_padlock_lex_marks), ("padlock/parse.words", laid_padlock_parse_words), ("padlock/parse.types", laid_padlock_parse_types), ("unicode/utf8.first", laid_unicode_utf8_first)], narrowed := true }
def ChangedJustUptoSaid : Prop := changedJustUptoRow.holds Tryz.pinned (OpenSpec.upto changedJustSpec)

/-- 'padlockkeep.UndoBack', WHERE WHAT IT READS IS OF BULK AT MOST 1048576: true; the input reads as it did. -/
def undoBackUptoRow : OpenClaim := { program := "ytbplamgacibdaaagreatdoor", sum := "fc26346f44660870f6aab70c61eeeabba374e348dfdabd3b958c33a6ed0a4ea7", func := "padlock/padlockkeep.UndoBack", spec := "undoBack", inPlace := ["internal/bytealg.Compare", "internal/bytealg.CountString", "internal/bytealg.IndexByteString", "internal/bytealg.IndexString", "internal/abi.NoEscape", "internal/bytealg.MakeNoZero", "slices.overlaps[[]byte]", "slices.overlaps[int]", "internal/bytealg.abigen_runtime_cmpstring"], unfollowed := true, recurses := true, named := ["padlock/parse.words", "padlock/lex.marks", "padlock/parse.types", "internal/bytealg.MaxLen", "unicode/utf8.first", "unicode/utf8.acceptRanges"], loops := true, apart := false, laid := [("unicode/utf8.acceptRanges", laid_unicode_utf8_acceptRanges), ("padlock/lex.marks", laid_padlock_lex_marks), ("padlock/parse.words", laid_padlock_parse_words), ("padlock/parse.types", laid_padlock_parse_types), ("unicode/utf8.first", laid_unicode_utf8_first)], narrowed := true }
def UndoBackUptoSaid : Prop := undoBackUptoRow.holds Tryz.pinned (OpenSpec.upto undoBackSpec)

end Rows
end Go.Proofs.YtbplamgacibdaaaGreatDoor
