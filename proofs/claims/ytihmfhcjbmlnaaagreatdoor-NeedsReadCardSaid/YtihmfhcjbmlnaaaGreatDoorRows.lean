/-
  NARROWER THAN 'FOR EVERY INPUT', by the rows' own cells (each row's printed sentence says how): NeedsWhole: loops, laid · NeedsInsert: loops, laid · NeedsPoint: loops, laid · NeedsFail: loops, laid · NeedsFirst: loops, laid · NeedsRead: loops, laid · NeedsClash: loops, laid.
  DERIVED. THE GIVEN ROWS OF THIS SEAT. 7 by the template 'for every input the law returns true; each argument reads behind the call as it read before'; 0 by the template 'total and deterministic' (their statements: YtihmfhcjbmlnaaaGreatDoorTotals.lean).
  GIVEN WITH THE SEED: the statements are not yours to turn. If you find one false, say at which input.
  Laid BY PROGRAM, IN A SANDBOX (cutbox-rows.mjs): the forced cells as the released guide's own fill.sh prints them over the translation 7f3e428725af53f7… (all of the seat's roots in one cut). By AI agents, Wed Nov 11 2026. No macro, syntax, notation, axiom, sorry.
-/
import Derived.Test.YtihmfhcjbmlnaaaGreatDoorChecked
import GoSem.PinnedTables
import GoSem.Claim
import GoSem.ClaimJoined
import GoSem.ClaimMapViews
import Derived.JoinedTies
import Derived.KernelRfl
namespace Go.Proofs.YtihmfhcjbmlnaaaGreatDoor
/- THE CELL 'sum', in the pinned program and in every row, IS THE sha256 OF THE DUMP (.gsa) THAT YtihmfhcjbmlnaaaGreatDoorProg.lean LOADS. Nothing in Lean hashes anything: it is a label: what it is worth is what the hold of that sum in a sandbox is worth. -/
noncomputable def Tryz.pinned : Pinned := { name := "ytihmfhcjbmlnaaagreatdoor", sum := "7f3e428725af53f7c698a299744fb24f1357e33d6ec61922b52daab9e84aad5d", checked := Tryz.checked }
namespace Rows
def none {H : Type} : Left H := { results := [], args := [] }

/- WHAT THE LISTED PACKAGE-LEVEL VARIABLES READ AS WHEN THE CALL BEGINS. Each datum BY PROGRAM (the guide's laid-datum.mjs) off the statement by which the dump's own 'gosem.cut.vars' lays the variable. In a bare row this is a premise. The card (YtihmfhcjbmlnaaaGreatDoorCards.lean) ties it to the program's text. -/
def laid_unicode_utf8_acceptRanges {H : Type} : DataW H := .agg [.agg [.lit (.int .u8 128), .lit (.int .u8 191)], .agg [.lit (.int .u8 160), .lit (.int .u8 191)], .agg [.lit (.int .u8 128), .lit (.int .u8 159)], .agg [.lit (.int .u8 144), .lit (.int .u8 191)], .agg [.lit (.int .u8 128), .lit (.int .u8 143)], .agg [.lit (.int .u8 0), .lit (.int .u8 0)], .agg [.lit (.int .u8 0), .lit (.int .u8 0)], .agg [.lit (.int .u8 0), .lit (.int .u8 0)], .agg [.lit (.int .u8 0), .lit (.int .u8 0)], .agg [.lit (.int .u8 0), .lit (.int .u8 0)], .agg [.lit (.int .u8 0), .lit (.int .u8 0)], .agg [.lit (.int .u8 0), .lit (.int .u8 0)], .agg [.lit (.int .u8 0), .lit (.int .u8 0)], .agg [.lit (.int .u8 0), .lit (.int .u8 0)], .agg [.lit (.int .u8 0), .lit (.int .u8 0)], .agg [.lit (.int .u8 0), .lit (.int .u8 0)]]
def laid_padlock_lex_marks {H : Type} : DataW H := .agg [.lit (.string [60, 61]), .lit (.string [62, 61]), .lit (.string [60, 62]), .lit (.string [40]), .lit (.string [41]), .lit (.string [44]), .lit (.string [42]), .lit (.string [43]), .lit (.string [45]), .lit (.string [61]), .lit (.string [60]), .lit (.string [62])]
def laid_padlock_parse_words {H : Type} : DataW H := .agg [.lit (.string [67, 82, 69, 65, 84, 69]), .lit (.string [84, 65, 66, 76, 69]), .lit (.string [68, 82, 79, 80]), .lit (.string [73, 78, 83, 69, 82, 84]), .lit (.string [73, 78, 84, 79]), .lit (.string [86, 65, 76, 85, 69, 83]), .lit (.string [83, 69, 76, 69, 67, 84]), .lit (.string [67, 79, 85, 78, 84]), .lit (.string [70, 82, 79, 77]), .lit (.string [87, 72, 69, 82, 69]), .lit (.string [79, 82, 68, 69, 82]), .lit (.string [66, 89]), .lit (.string [68, 69, 83, 67]), .lit (.string [76, 73, 77, 73, 84]), .lit (.string [85, 80, 68, 65, 84, 69]), .lit (.string [83, 69, 84]), .lit (.string [68, 69, 76, 69, 84, 69]), .lit (.string [66, 69, 71, 73, 78]), .lit (.string [67, 79, 77, 77, 73, 84]), .lit (.string [82, 79, 76, 76, 66, 65, 67, 75]), .lit (.string [65, 78, 68]), .lit (.string [79, 82]), .lit (.string [78, 79, 84]), .lit (.string [73, 83]), .lit (.string [78, 85, 76, 76]), .lit (.string [84, 82, 85, 69]), .lit (.string [70, 65, 76, 83, 69]), .lit (.string [73, 78, 84]), .lit (.string [84, 69, 88, 84]), .lit (.string [66, 79, 79, 76])]
def laid_padlock_parse_types {H : Type} : DataW H := .agg [.lit (.string []), .lit (.string [66, 79, 79, 76]), .lit (.string [73, 78, 84]), .lit (.string [84, 69, 88, 84])]
/-- One of Go's own tables, pinned by name: the form's constant. -/
def laid_unicode_utf8_first : DataW Unit := Go.Pinned.utf8First

/-- 'padlockkeep.NeedsWhole': WHATEVER THE INPUT: true; the input reads as it did. -/
def needsWholeSpec : ChangeSpec := { name := "needsWhole", fn := fun _ => fun
  | [d1, d2] => { results := [.lit (.bool true)], args := [d1, d2] }
  | _ => none }
def needsWholeRow : OpenClaim := { program := "ytihmfhcjbmlnaaagreatdoor", sum := "7f3e428725af53f7c698a299744fb24f1357e33d6ec61922b52daab9e84aad5d", func := "padlock/padlockkeep.NeedsWhole", spec := "needsWhole", inPlace := ["internal/bytealg.Compare", "internal/bytealg.CountString", "internal/bytealg.IndexByteString", "internal/bytealg.IndexString", "internal/abi.NoEscape", "internal/bytealg.MakeNoZero", "slices.overlaps[[]byte]", "slices.overlaps[int]", "internal/bytealg.abigen_runtime_cmpstring"], unfollowed := true, recurses := true, named := ["padlock/parse.words", "padlock/lex.marks", "padlock/parse.types", "internal/bytealg.MaxLen", "unicode/utf8.first", "unicode/utf8.acceptRanges"], loops := true, apart := false, laid := [("unicode/utf8.acceptRanges", laid_unicode_utf8_acceptRanges), ("padlock/lex.marks", laid_padlock_lex_marks), ("padlock/parse.words", laid_padlock_parse_words), ("padlock/parse.types", laid_padlock_parse_types), ("unicode/utf8.first", laid_unicode_utf8_first)] }
def NeedsWholeSaid : Prop := needsWholeRow.holds Tryz.pinned (OpenSpec.ofChange needsWholeSpec)

/-- ITS FALSE NEIGHBOUR: 'it returns false'. Refute it at one input. -/
def needsWholeWrong : ChangeSpec := { name := "needsWhole", fn := fun _ => fun
  | [d1, d2] => { results := [.lit (.bool false)], args := [d1, d2] }
  | _ => none }
def NeedsWholeWrongFalsely : Prop := needsWholeRow.holds Tryz.pinned (OpenSpec.ofChange needsWholeWrong)

/-- 'padlockkeep.NeedsInsert': WHATEVER THE INPUT: true; the input reads as it did. -/
def needsInsertSpec : ChangeSpec := { name := "needsInsert", fn := fun _ => fun
  | [d1, d2] => { results := [.lit (.bool true)], args := [d1, d2] }
  | _ => none }
def needsInsertRow : OpenClaim := { program := "ytihmfhcjbmlnaaagreatdoor", sum := "7f3e428725af53f7c698a299744fb24f1357e33d6ec61922b52daab9e84aad5d", func := "padlock/padlockkeep.NeedsInsert", spec := "needsInsert", inPlace := ["internal/bytealg.Compare", "internal/bytealg.CountString", "internal/bytealg.IndexByteString", "internal/bytealg.IndexString", "internal/abi.NoEscape", "internal/bytealg.MakeNoZero", "slices.overlaps[[]byte]", "slices.overlaps[int]", "internal/bytealg.abigen_runtime_cmpstring"], unfollowed := true, recurses := true, named := ["padlock/parse.words", "padlock/lex.marks", "padlock/parse.types", "internal/bytealg.MaxLen", "unicode/utf8.first", "unicode/utf8.acceptRanges"], loops := true, apart := false, laid := [("unicode/utf8.acceptRanges", laid_unicode_utf8_acceptRanges), ("padlock/lex.marks", laid_padlock_lex_marks), ("padlock/parse.words", laid_padlock_parse_words), ("padlock/parse.types", laid_padlock_parse_types), ("unicode/utf8.first", laid_unicode_utf8_first)] }
def NeedsInsertSaid : Prop := needsInsertRow.holds Tryz.pinned (OpenSpec.ofChange needsInsertSpec)

/-- ITS FALSE NEIGHBOUR: 'it returns false'. Refute it at one input. -/
def needsInsertWrong : ChangeSpec := { name := "needsInsert", fn := fun _ => fun
  | [d1, d2] => { results := [.lit (.bool false)], args := [d1, d2] }
  | _ => none }
def NeedsInsertWrongFalsely : Prop := needsInsertRow.holds Tryz.pinned (OpenSpec.ofChange needsInsertWrong)

/-- 'padlockkeep.NeedsPoint': WHATEVER THE INPUT: true; the input reads as it did. -/
def needsPointSpec : ChangeSpec := { name := "needsPoint", fn := fun _ => fun
  | [d1, d2] => { results := [.lit (.bool true)], args := [d1, d2] }
  | _ => none }
def needsPointRow : OpenClaim := { program := "ytihmfhcjbmlnaaagreatdoor", sum := "7f3e428725af53f7c698a299744fb24f1357e33d6ec61922b52daab9e84aad5d", func := "padlock/padlockkeep.NeedsPoint", spec := "needsPoint", inPlace := ["internal/bytealg.Compare", "internal/bytealg.CountString", "internal/bytealg.IndexByteString", "internal/bytealg.IndexString", "internal/abi.NoEscape", "internal/bytealg.MakeNoZero", "slices.overlaps[[]byte]", "slices.overlaps[int]", "internal/bytealg.abigen_runtime_cmpstring"], unfollowed := true, recurses := true, named := ["padlock/parse.words", "padlock/lex.marks", "padlock/parse.types", "internal/bytealg.MaxLen", "unicode/utf8.first", "unicode/utf8.acceptRanges"], loops := true, apart := false, laid := [("unicode/utf8.acceptRanges", laid_unicode_utf8_acceptRanges), ("padlock/lex.marks", laid_padlock_lex_marks), ("padlock/parse.words", laid_padlock_parse_words), ("padlock/parse.types", laid_padlock_parse_types), ("unicode/utf8.first", laid_unicode_utf8_first)] }
def NeedsPointSaid : Prop := needsPointRow.holds Tryz.pinned (OpenSpec.ofChange needsPointSpec)

/-- ITS FALSE NEIGHBOUR: 'it returns false'. Refute it at one input. -/
def needsPointWrong : ChangeSpec := { name := "needsPoint", fn := fun _ => fun
  | [d1, d2] => { results := [.lit (.bool false)], args := [d1, d2] }
  | _ => none }
def NeedsPointWrongFalsely : Prop := needsPointRow.holds Tryz.pinned (OpenSpec.ofChange needsPointWrong)

/-- 'padlockkeep.NeedsFail': WHATEVER THE INPUT: true; the input reads as it did. -/
def needsFailSpec : ChangeSpec := { name := "needsFail", fn := fun _ => fun
  | [d1, d2] => { results := [.lit (.bool true)], args := [d1, d2] }
  | _ => none }
def needsFailRow : OpenClaim := { program := "ytihmfhcjbmlnaaagreatdoor", sum := "7f3e428725af53f7c698a299744fb24f1357e33d6ec61922b52daab9e84aad5d", func := "padlock/padlockkeep.NeedsFail", spec := "needsFail", inPlace := ["internal/bytealg.Compare", "internal/bytealg.CountString", "internal/bytealg.IndexByteString", "internal/bytealg.IndexString", "internal/abi.NoEscape", "internal/bytealg.MakeNoZero", "slices.overlaps[[]byte]", "slices.overlaps[int]", "internal/bytealg.abigen_runtime_cmpstring"], unfollowed := true, recurses := true, named := ["padlock/parse.words", "padlock/lex.marks", "padlock/parse.types", "internal/bytealg.MaxLen", "unicode/utf8.first", "unicode/utf8.acceptRanges"], loops := true, apart := false, laid := [("unicode/utf8.acceptRanges", laid_unicode_utf8_acceptRanges), ("padlock/lex.marks", laid_padlock_lex_marks), ("padlock/parse.words", laid_padlock_parse_words), ("padlock/parse.types", laid_padlock_parse_types), ("unicode/utf8.first", laid_unicode_utf8_first)] }
def NeedsFailSaid : Prop := needsFailRow.holds Tryz.pinned (OpenSpec.ofChange needsFailSpec)

/-- ITS FALSE NEIGHBOUR: 'it returns false'. Refute it at one input. -/
def needsFailWrong : ChangeSpec := { name := "needsFail", fn := fun _ => fun
  | [d1, d2] => { results := [.lit (.bool false)], args := [d1, d2] }
  | _ => none }
def NeedsFailWrongFalsely : Prop := needsFailRow.holds Tryz.pinned (OpenSpec.ofChange needsFailWrong)

/-- 'padlockkeep.NeedsFirst': WHATEVER THE INPUT: true; the input reads as it did. -/
def needsFirstSpec : ChangeSpec := { name := "needsFirst", fn := fun _ => fun
  | [d1, d2] => { results := [.lit (.bool true)], args := [d1, d2] }
  | _ => none }
def needsFirstRow : OpenClaim := { program := "ytihmfhcjbmlnaaagreatdoor", sum := "7f3e428725af53f7c698a299744fb24f1357e33d6ec61922b52daab9e84aad5d", func := "padlock/padlockkeep.NeedsFirst", spec := "needsFirst", inPlace := ["internal/bytealg.Compare", "internal/bytealg.CountString", "internal/bytealg.IndexByteString", "internal/bytealg.IndexString", "internal/abi.NoEscape", "internal/bytealg.MakeNoZero", "slices.overlaps[[]byte]", "slices.overlaps[int]", "internal/bytealg.abigen_runtime_cmpstring"], unfollowed := true, recurses := true, named := ["padlock/parse.words", "padlock/lex.marks", "padlock/parse.types", "internal/bytealg.MaxLen", "unicode/utf8.first", "unicode/utf8.acceptRanges"], loops := true, apart := false, laid := [("unicode/utf8.acceptRanges", laid_unicode_utf8_acceptRanges), ("padlock/lex.marks", laid_padlock_lex_marks), ("padlock/parse.words", laid_padlock_parse_words), ("padlock/parse.types", laid_padlock_parse_types), ("unicode/utf8.first", laid_unicode_utf8_first)] }
def NeedsFirstSaid : Prop := needsFirstRow.holds Tryz.pinned (OpenSpec.ofChange needsFirstSpec)

/-- ITS FALSE NEIGHBOUR: 'it returns false'. Refute it at one input. -/
def needsFirstWrong : ChangeSpec := { name := "needsFirst", fn := fun _ => fun
  | [d1, d2] => { results := [.lit (.bool false)], args := [d1, d2] }
  | _ => none }
def NeedsFirstWrongFalsely : Prop := needsFirstRow.holds Tryz.pinned (OpenSpec.ofChange needsFirstWrong)

/-- 'padlockkeep.NeedsRead': WHATEVER THE INPUT: true; the input reads as it did. -/
def needsReadSpec : ChangeSpec := { name := "needsRead", fn := fun _ => fun
  | [d1, d2] => { results := [.lit (.bool true)], args := [d1, d2] }
  | _ => none }
def needsReadRow : OpenClaim := { program := "ytihmfhcjbmlnaaagreatdoor", sum := "7f3e428725af53f7c698a299744fb24f1357e33d6ec61922b52daab9e84aad5d", func := "padlock/padlockkeep.NeedsRead", spec := "needsRead", inPlace := ["internal/bytealg.Compare", "internal/bytealg.CountString", "internal/bytealg.IndexByteString", "internal/bytealg.IndexString", "internal/abi.NoEscape", "internal/bytealg.MakeNoZero", "slices.overlaps[[]byte]", "slices.overlaps[int]", "internal/bytealg.abigen_runtime_cmpstring"], unfollowed := true, recurses := true, named := ["padlock/parse.words", "padlock/lex.marks", "padlock/parse.types", "internal/bytealg.MaxLen", "unicode/utf8.first", "unicode/utf8.acceptRanges"], loops := true, apart := false, laid := [("unicode/utf8.acceptRanges", laid_unicode_utf8_acceptRanges), ("padlock/lex.marks", laid_padlock_lex_marks), ("padlock/parse.words", laid_padlock_parse_words), ("padlock/parse.types", laid_padlock_parse_types), ("unicode/utf8.first", laid_unicode_utf8_first)] }
def NeedsReadSaid : Prop := needsReadRow.holds Tryz.pinned (OpenSpec.ofChange needsReadSpec)

/-- ITS FALSE NEIGHBOUR: 'it returns false'. Refute it at one input. -/
def needsReadWrong : ChangeSpec := { name := "needsRead", fn := fun _ => fun
  | [d1, d2] => { results := [.lit (.bool false)], args := [d1, d2] }
  | _ => none }
def NeedsReadWrongFalsely : Prop := needsReadRow.holds Tryz.pinned (OpenSpec.ofChange needsReadWrong)

/-- 'padlockkeep.NeedsClash': WHATEVER THE INPUT: true; the input reads as it did. -/
def needsClashSpec : ChangeSpec := { name := "needsClash", fn := fun _ => fun
  | [d1, d2, d3, d4] => { results := [.lit (.bool true)], args := [d1, d2, d3, d4] }
  | _ => none }
def needsClashRow : OpenClaim := { program := "ytihmfhcjbmlnaaagreatdoor", sum := "7f3e428725af53f7c698a299744fb24f1357e33d6ec61922b52daab9e84aad5d", func := "padlock/padlockkeep.NeedsClash", spec := "needsClash", inPlace := ["internal/bytealg.Compare", "internal/bytealg.CountString", "internal/bytealg.IndexByteString", "internal/bytealg.IndexString", "internal/abi.NoEscape", "internal/bytealg.MakeNoZero", "slices.overlaps[[]byte]", "slices.overlaps[int]", "internal/bytealg.abigen_runtime_cmpstring"], unfollowed := true, recurses := true, named := ["padlock/parse.words", "padlock/lex.marks", "padlock/parse.types", "internal/bytealg.MaxLen", "unicode/utf8.first", "unicode/utf8.acceptRanges"], loops := true, apart := false, laid := [("unicode/utf8.acceptRanges", laid_unicode_utf8_acceptRanges), ("padlock/lex.marks", laid_padlock_lex_marks), ("padlock/parse.words", laid_padlock_parse_words), ("padlock/parse.types", laid_padlock_parse_types), ("unicode/utf8.first", laid_unicode_utf8_first)] }
def NeedsClashSaid : Prop := needsClashRow.holds Tryz.pinned (OpenSpec.ofChange needsClashSpec)

/-- ITS FALSE NEIGHBOUR: 'it returns false'. Refute it at one input. -/
def needsClashWrong : ChangeSpec := { name := "needsClash", fn := fun _ => fun
  | [d1, d2, d3, d4] => { results := [.lit (.bool false)], args := [d1, d2, d3, d4] }
  | _ => none }
def NeedsClashWrongFalsely : Prop := needsClashRow.holds Tryz.pinned (OpenSpec.ofChange needsClashWrong)

/- THE SECOND FORM. 'bulk': how many values and letters a reading holds, each counted each time it is reached (what is shared counts as often as it is met; a slice's spare places count too). A statement '..UptoSaid' is the law's where the arguments, and the package variables that the reading takes, are together of bulk at most 1048576: NARROWER than '..Said'. Prove '..Said' where nothing that the law and all that it calls make is longer than what came in: it says more and counts as full. Else prove '..UptoSaid'. A law counts once. -/
mutual
def uptoBulk {H : Type} : DataW H → Nat
  | .lit (.string bytes) => bytes.length + 1
  | .lit _ => 1
  | .nil => 1
  | .ptr d => uptoBulk d + 1
  | .slice elems spare => uptoBulkAll elems + uptoBulkAll spare + 1
  | .agg parts => uptoBulkAll parts + 1
  | .iface _ d => uptoBulk d + 1
  | .map entries => uptoBulkEntries entries + 1
  | .held _ => 1
def uptoBulkAll {H : Type} : List (DataW H) → Nat
  | [] => 0
  | d :: r => uptoBulk d + uptoBulkAll r
def uptoBulkEntries {H : Type} : List (Lit × DataW H) → Nat
  | [] => 0
  | x :: r => uptoBulkEntry x + uptoBulkEntries r
def uptoBulkEntry {H : Type} : Lit × DataW H → Nat
  | (.string bytes, d) => bytes.length + uptoBulk d + 1
  | (_, d) => uptoBulk d + 1
 end
def uptoSmall : (H : Type) → List (DataW H) → Bool := fun _ ds => decide (uptoBulkAll ds ≤ 1048576)
def OpenSpec.upto (s : _root_.Go.ChangeSpec) : _root_.Go.OpenSpec := { _root_.Go.OpenSpec.ofChange s with cond := some uptoSmall }

/-- 'padlockkeep.NeedsWhole', WHERE WHAT IT READS IS OF BULK AT MOST 1048576: true; the input reads as it did. -/
def needsWholeUptoRow : OpenClaim := { program := "ytihmfhcjbmlnaaagreatdoor", sum := "7f3e428725af53f7c698a299744fb24f1357e33d6ec61922b52daab9e84aad5d", func := "padlock/padlockkeep.NeedsWhole", spec := "needsWhole", inPlace := ["internal/bytealg.Compare", "internal/bytealg.CountString", "internal/bytealg.IndexByteString", "internal/bytealg.IndexString", "internal/abi.NoEscape", "internal/bytealg.MakeNoZero", "slices.overlaps[[]byte]", "slices.overlaps[int]", "internal/bytealg.abigen_runtime_cmpstring"], unfollowed := true, recurses := true, named := ["padlock/parse.words", "padlock/lex.marks", "padlock/parse.types", "internal/bytealg.MaxLen", "unicode/utf8.first", "unicode/utf8.acceptRanges"], loops := true, apart := false, laid := [("unicode/utf8.acceptRanges", laid_unicode_utf8_acceptRanges), ("padlock/lex.marks", laid_padlock_lex_marks), ("padlock/parse.words", laid_padlock_parse_words), ("padlock/parse.types", laid_padlock_parse_types), ("unicode/utf8.first", laid_unicode_utf8_first)], narrowed := true }
def NeedsWholeUptoSaid : Prop := needsWholeUptoRow.holds Tryz.pinned (OpenSpec.upto needsWholeSpec)

/-- 'padlockkeep.NeedsInsert', WHERE WHAT IT READS IS OF BULK AT MOST 1048576: true; the input reads as it did. -/
def needsInsertUptoRow : OpenClaim := { program := "ytihmfhcjbmlnaaagreatdoor", sum := "7f3e428725af53f7c698a299744fb24f1357e33d6ec61922b52daab9e84aad5d", func := "padlock/padlockkeep.NeedsInsert", spec := "needsInsert", inPlace := ["internal/bytealg.Compare", "internal/bytealg.CountString", "internal/bytealg.IndexByteString", "internal/bytealg.IndexString", "internal/abi.NoEscape", "internal/bytealg.MakeNoZero", "slices.overlaps[[]byte]", "slices.overlaps[int]", "internal/bytealg.abigen_runtime_cmpstring"], unfollowed := true, recurses := true, named := ["padlock/parse.words", "padlock/lex.marks", "padlock/parse.types", "internal/bytealg.MaxLen", "unicode/utf8.first", "unicode/utf8.acceptRanges"], loops := true, apart := false, laid := [("unicode/utf8.acceptRanges", laid_unicode_utf8_acceptRanges), ("padlock/lex.marks", laid_padlock_lex_marks), ("padlock/parse.words", laid_padlock_parse_words), ("padlock/parse.types", laid_padlock_parse_types), ("unicode/utf8.first", laid_unicode_utf8_first)], narrowed := true }
def NeedsInsertUptoSaid : Prop := needsInsertUptoRow.holds Tryz.pinned (OpenSpec.upto needsInsertSpec)

/-- 'padlockkeep.NeedsPoint', WHERE WHAT IT READS IS OF BULK AT MOST 1048576: true; the input reads as it did. -/
def needsPointUptoRow : OpenClaim := { program := "ytihmfhcjbmlnaaagreatdoor", sum := "7f3e428725af53f7c698a299744fb24f1357e33d6ec61922b52daab9e84aad5d", func := "padlock/padlockkeep.NeedsPoint", spec := "needsPoint", inPlace := ["internal/bytealg.Compare", "internal/bytealg.CountString", "internal/bytealg.IndexByteString", "internal/bytealg.IndexString", "internal/abi.NoEscape", "internal/bytealg.MakeNoZero", "slices.overlaps[[]byte]", "slices.overlaps[int]", "internal/bytealg.abigen_runtime_cmpstring"], unfollowed := true, recurses := true, named := ["padlock/parse.words", "padlock/lex.marks", "padlock/parse.types", "internal/bytealg.MaxLen", "unicode/utf8.first", "unicode/utf8.acceptRanges"], loops := true, apart := false, laid := [("unicode/utf8.acceptRanges", laid_unicode_utf8_acceptRanges), ("padlock/lex.marks", laid_padlock_lex_marks), ("padlock/parse.words", laid_padlock_parse_words), ("padlock/parse.types", laid_padlock_parse_types), ("unicode/utf8.first", laid_unicode_utf8_first)], narrowed := true }
def NeedsPointUptoSaid : Prop := needsPointUptoRow.holds Tryz.pinned (OpenSpec.upto needsPointSpec)

/-- 'padlockkeep.NeedsFail', WHERE WHAT IT READS IS OF BULK AT MOST 1048576: true; the input reads as it did. -/
def needsFailUptoRow : OpenClaim := { program := "ytihmfhcjbmlnaaagreatdoor", sum := "7f3e428725af53f7c698a299744fb24f1357e33d6ec61922b52daab9e84aad5d", func := "padlock/padlockkeep.NeedsFail", spec := "needsFail", inPlace := ["internal/bytealg.Compare", "internal/bytealg.CountString", "internal/bytealg.IndexByteString", "internal/bytealg.IndexString", "internal/abi.NoEscape", "internal/bytealg.MakeNoZero", "slices.overlaps[[]byte]", "slices.overlaps[int]", "internal/bytealg.abigen_runtime_cmpstring"], unfollowed := true, recurses := true, named := ["padlock/parse.words", "padlock/lex.marks", "padlock/parse.types", "internal/bytealg.MaxLen", "unicode/utf8.first", "unicode/utf8.acceptRanges"], loops := true, apart := false, laid := [("unicode/utf8.acceptRanges", laid_unicode_utf8_acceptRanges), ("padlock/lex.marks", laid_padlock_lex_marks), ("padlock/parse.words", laid_padlock_parse_words), ("padlock/parse.types", laid_padlock_parse_types), ("unicode/utf8.first", laid_unicode_utf8_first)], narrowed := true }
def NeedsFailUptoSaid : Prop := needsFailUptoRow.holds Tryz.pinned (OpenSpec.upto needsFailSpec)

/-- 'padlockkeep.NeedsFirst', WHERE WHAT IT READS IS OF BULK AT MOST 1048576: true; the input reads as it did. -/
def needsFirstUptoRow : OpenClaim := { program := "ytihmfhcjbmlnaaagreatdoor", sum := "7f3e428725af53f7c698a299744fb24f1357e33d6ec61922b52daab9e84aad5d", func := "padlock/padlockkeep.NeedsFirst", spec := "needsFirst", inPlace := ["internal/bytealg.Compare", "internal/bytealg.CountString", "internal/bytealg.IndexByteString", "internal/bytealg.IndexString", "internal/abi.NoEscape", "internal/bytealg.MakeNoZero", "slices.overlaps[[]byte]", "slices.overlaps[int]", "internal/bytealg.abigen_runtime_cmpstring"], unfollowed := true, recurses := true, named := ["padlock/parse.words", "padlock/lex.marks", "padlock/parse.types", "internal/bytealg.MaxLen", "unicode/utf8.first", "unicode/utf8.acceptRanges"], loops := true, apart := false, laid := [("unicode/utf8.acceptRanges", laid_unicode_utf8_acceptRanges), ("padlock/lex.marks", laid_padlock_lex_marks), ("padlock/parse.words", laid_padlock_parse_words), ("padlock/parse.types", laid_padlock_parse_types), ("unicode/utf8.first", laid_unicode_utf8_first)], narrowed := true }
def NeedsFirstUptoSaid : Prop := needsFirstUptoRow.holds Tryz.pinned (OpenSpec.upto needsFirstSpec)

/-- 'padlockkeep.NeedsRead', WHERE WHAT IT READS IS OF BULK AT MOST 1048576: true; the input reads as it did. -/
def needsReadUptoRow : OpenClaim := { program := "ytihmfhcjbmlnaaagreatdoor", sum := "7f3e428725af53f7c698a299744fb24f1357e33d6ec61922b52daab9e84aad5d", func := "padlock/padlockkeep.NeedsRead", spec := "needsRead", inPlace := ["internal/bytealg.Compare", "internal/bytealg.CountString", "internal/bytealg.IndexByteString", "internal/bytealg.IndexString", "internal/abi.NoEscape", "internal/bytealg.MakeNoZero", "slices.overlaps[[]byte]", "slices.overlaps[int]", "internal/bytealg.abigen_runtime_cmpstring"], unfollowed := true, recurses := true, named := ["padlock/parse.words", "padlock/lex.marks", "padlock/parse.types", "internal/bytealg.MaxLen", "unicode/utf8.first", "unicode/utf8.acceptRanges"], loops := true, apart := false, laid := [("unicode/utf8.acceptRanges", laid_unicode_utf8_acceptRanges), ("padlock/lex.marks", laid_padlock_lex_marks), ("padlock/parse.words", laid_padlock_parse_words), ("padlock/parse.types", laid_padlock_parse_types), ("unicode/utf8.first", laid_unicode_utf8_first)], narrowed := true }
def NeedsReadUptoSaid : Prop := needsReadUptoRow.holds Tryz.pinned (OpenSpec.upto needsReadSpec)

/-- 'padlockkeep.NeedsClash', WHERE WHAT IT READS IS OF BULK AT MOST 1048576: true; the input reads as it did. -/
def needsClashUptoRow : OpenClaim := { program := "ytihmfhcjbmlnaaagreatdoor", sum := "7f3e428725af53f7c698a299744fb24f1357e33d6ec61922b52daab9e84aad5d", func := "padlock/padlockkeep.NeedsClash", spec := "needsClash", inPlace := ["internal/bytealg.Compare", "internal/bytealg.CountString", "internal/bytealg.IndexByteString", "internal/bytealg.IndexString", "internal/abi.NoEscape", "internal/bytealg.MakeNoZero", "slices.overlaps[[]byte]", "slices.overlaps[int]", "internal/bytealg.abigen_runtime_cmpstring"], unfollowed := true, recurses := true, named := ["padlock/parse.words", "padlock/lex.marks", "padlock/parse.types", "internal/bytealg.MaxLen", "unicode/utf8.first", "unicode/utf8.acceptRanges"], loops := true, apart := false, laid := [("unicode/utf8.acceptRanges", laid_unicode_utf8_acceptRanges), ("padlock/lex.marks", laid_padlock_lex_marks), ("padlock/parse.words", laid_padlock_parse_words), ("padlock/parse.types", laid_padlock_parse_types), ("unicode/utf8.first", laid_unicode_utf8_first)], narrowed := true }
def NeedsClashUptoSaid : Prop := needsClashUptoRow.holds Tryz.pinned (OpenSpec.upto needsClashSpec)

end Rows
end Go.Proofs.YtihmfhcjbmlnaaaGreatDoor
