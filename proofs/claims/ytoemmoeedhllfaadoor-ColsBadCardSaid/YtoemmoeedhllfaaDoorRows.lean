/-
  NARROWER THAN 'FOR EVERY INPUT', by the rows' own cells (each row's printed sentence says how): KeyParts: laid · KeyLong: laid · KeyBack: laid · KeyFixed: laid · KeyTorn: laid · KeyOrder: laid · NameKept: laid · OpsWhole: loops, laid · RowNull: laid · ColsBad: laid.
  DERIVED. THE GIVEN ROWS OF THIS SEAT. 10 by the template 'for every input the law returns true; each argument reads behind the call as it read before'; 0 by the template 'total and deterministic' (their statements: YtoemmoeedhllfaaDoorTotals.lean).
  GIVEN WITH THE SEED: the statements are not yours to turn. If you find one false, say at which input.
  Laid BY PROGRAM, IN A SANDBOX (cutbox-rows.mjs): the forced cells as the released guide's own fill.sh prints them over the translation fb736955c138a37c… (all of the seat's roots in one cut). By AI agents, Wed Nov 11 2026. No macro, syntax, notation, axiom, sorry.
-/
import Derived.Test.YtoemmoeedhllfaaDoorChecked
import GoSem.PinnedTables
import GoSem.Claim
import GoSem.ClaimJoined
import GoSem.ClaimMapViews
import Derived.JoinedTies
import Derived.KernelRfl
namespace Go.Proofs.YtoemmoeedhllfaaDoor
/- THE CELL 'sum', in the pinned program and in every row, IS THE sha256 OF THE DUMP (.gsa) THAT YtoemmoeedhllfaaDoorProg.lean LOADS. Nothing in Lean hashes anything: it is a label: what it is worth is what the hold of that sum in a sandbox is worth. -/
noncomputable def Tryd.pinned : Pinned := { name := "ytoemmoeedhllfaadoor", sum := "fb736955c138a37ceb6a79e3a4d3750a37382106790a502785bdabf021f0f5e6", checked := Tryd.checked }
namespace Rows
def none {H : Type} : Left H := { results := [], args := [] }

/- WHAT THE LISTED PACKAGE-LEVEL VARIABLES READ AS WHEN THE CALL BEGINS. Each datum BY PROGRAM (the guide's laid-datum.mjs) off the statement by which the dump's own 'gosem.cut.vars' lays the variable. In a bare row this is a premise. The card (YtoemmoeedhllfaaDoorCards.lean) ties it to the program's text. -/
def laid_unicode_utf8_acceptRanges {H : Type} : DataW H := .agg [.agg [.lit (.int .u8 128), .lit (.int .u8 191)], .agg [.lit (.int .u8 160), .lit (.int .u8 191)], .agg [.lit (.int .u8 128), .lit (.int .u8 159)], .agg [.lit (.int .u8 144), .lit (.int .u8 191)], .agg [.lit (.int .u8 128), .lit (.int .u8 143)], .agg [.lit (.int .u8 0), .lit (.int .u8 0)], .agg [.lit (.int .u8 0), .lit (.int .u8 0)], .agg [.lit (.int .u8 0), .lit (.int .u8 0)], .agg [.lit (.int .u8 0), .lit (.int .u8 0)], .agg [.lit (.int .u8 0), .lit (.int .u8 0)], .agg [.lit (.int .u8 0), .lit (.int .u8 0)], .agg [.lit (.int .u8 0), .lit (.int .u8 0)], .agg [.lit (.int .u8 0), .lit (.int .u8 0)], .agg [.lit (.int .u8 0), .lit (.int .u8 0)], .agg [.lit (.int .u8 0), .lit (.int .u8 0)], .agg [.lit (.int .u8 0), .lit (.int .u8 0)]]
/-- One of Go's own tables, pinned by name: the form's constant. -/
def laid_unicode_utf8_first : DataW Unit := Go.Pinned.utf8First
def laid_padlock_lex_marks {H : Type} : DataW H := .agg [.lit (.string [60, 61]), .lit (.string [62, 61]), .lit (.string [60, 62]), .lit (.string [40]), .lit (.string [41]), .lit (.string [44]), .lit (.string [42]), .lit (.string [43]), .lit (.string [45]), .lit (.string [61]), .lit (.string [60]), .lit (.string [62])]
def laid_padlock_parse_words {H : Type} : DataW H := .agg [.lit (.string [67, 82, 69, 65, 84, 69]), .lit (.string [84, 65, 66, 76, 69]), .lit (.string [68, 82, 79, 80]), .lit (.string [73, 78, 83, 69, 82, 84]), .lit (.string [73, 78, 84, 79]), .lit (.string [86, 65, 76, 85, 69, 83]), .lit (.string [83, 69, 76, 69, 67, 84]), .lit (.string [67, 79, 85, 78, 84]), .lit (.string [70, 82, 79, 77]), .lit (.string [87, 72, 69, 82, 69]), .lit (.string [79, 82, 68, 69, 82]), .lit (.string [66, 89]), .lit (.string [68, 69, 83, 67]), .lit (.string [76, 73, 77, 73, 84]), .lit (.string [85, 80, 68, 65, 84, 69]), .lit (.string [83, 69, 84]), .lit (.string [68, 69, 76, 69, 84, 69]), .lit (.string [66, 69, 71, 73, 78]), .lit (.string [67, 79, 77, 77, 73, 84]), .lit (.string [82, 79, 76, 76, 66, 65, 67, 75]), .lit (.string [65, 78, 68]), .lit (.string [79, 82]), .lit (.string [78, 79, 84]), .lit (.string [73, 83]), .lit (.string [78, 85, 76, 76]), .lit (.string [84, 82, 85, 69]), .lit (.string [70, 65, 76, 83, 69]), .lit (.string [73, 78, 84]), .lit (.string [84, 69, 88, 84]), .lit (.string [66, 79, 79, 76])]
def laid_padlock_parse_types {H : Type} : DataW H := .agg [.lit (.string []), .lit (.string [66, 79, 79, 76]), .lit (.string [73, 78, 84]), .lit (.string [84, 69, 88, 84])]

/-- 'padlockkeep.KeyParts': WHATEVER THE INPUT: true; the input reads as it did. -/
def keyPartsSpec : ChangeSpec := { name := "keyParts", fn := fun _ => fun
  | [d1, d2] => { results := [.lit (.bool true)], args := [d1, d2] }
  | _ => none }
def keyPartsRow : OpenClaim := { program := "ytoemmoeedhllfaadoor", sum := "fb736955c138a37ceb6a79e3a4d3750a37382106790a502785bdabf021f0f5e6", func := "padlock/padlockkeep.KeyParts", spec := "keyParts", inPlace := ["internal/bytealg.CountString", "internal/bytealg.IndexByteString", "internal/bytealg.IndexString", "internal/abi.NoEscape", "internal/bytealg.MakeNoZero"], named := ["internal/bytealg.MaxLen", "unicode/utf8.first", "unicode/utf8.acceptRanges"], apart := false, laid := [("unicode/utf8.acceptRanges", laid_unicode_utf8_acceptRanges), ("unicode/utf8.first", laid_unicode_utf8_first)] }
def KeyPartsSaid : Prop := keyPartsRow.holds Tryd.pinned (OpenSpec.ofChange keyPartsSpec)

/-- ITS FALSE NEIGHBOUR: 'it returns false'. Refute it at one input. -/
def keyPartsWrong : ChangeSpec := { name := "keyParts", fn := fun _ => fun
  | [d1, d2] => { results := [.lit (.bool false)], args := [d1, d2] }
  | _ => none }
def KeyPartsWrongFalsely : Prop := keyPartsRow.holds Tryd.pinned (OpenSpec.ofChange keyPartsWrong)

/-- 'padlockkeep.KeyLong': WHATEVER THE INPUT: true; the input reads as it did. -/
def keyLongSpec : ChangeSpec := { name := "keyLong", fn := fun _ => fun
  | [d1, d2] => { results := [.lit (.bool true)], args := [d1, d2] }
  | _ => none }
def keyLongRow : OpenClaim := { program := "ytoemmoeedhllfaadoor", sum := "fb736955c138a37ceb6a79e3a4d3750a37382106790a502785bdabf021f0f5e6", func := "padlock/padlockkeep.KeyLong", spec := "keyLong", inPlace := ["internal/bytealg.CountString", "internal/bytealg.IndexByteString", "internal/bytealg.IndexString", "internal/abi.NoEscape", "internal/bytealg.MakeNoZero"], named := ["internal/bytealg.MaxLen", "unicode/utf8.first", "unicode/utf8.acceptRanges"], apart := false, laid := [("unicode/utf8.acceptRanges", laid_unicode_utf8_acceptRanges), ("unicode/utf8.first", laid_unicode_utf8_first)] }
def KeyLongSaid : Prop := keyLongRow.holds Tryd.pinned (OpenSpec.ofChange keyLongSpec)

/-- ITS FALSE NEIGHBOUR: 'it returns false'. Refute it at one input. -/
def keyLongWrong : ChangeSpec := { name := "keyLong", fn := fun _ => fun
  | [d1, d2] => { results := [.lit (.bool false)], args := [d1, d2] }
  | _ => none }
def KeyLongWrongFalsely : Prop := keyLongRow.holds Tryd.pinned (OpenSpec.ofChange keyLongWrong)

/-- 'padlockkeep.KeyBack': WHATEVER THE INPUT: true; the input reads as it did. -/
def keyBackSpec : ChangeSpec := { name := "keyBack", fn := fun _ => fun
  | [d] => { results := [.lit (.bool true)], args := [d] }
  | _ => none }
def keyBackRow : OpenClaim := { program := "ytoemmoeedhllfaadoor", sum := "fb736955c138a37ceb6a79e3a4d3750a37382106790a502785bdabf021f0f5e6", func := "padlock/padlockkeep.KeyBack", spec := "keyBack", inPlace := ["internal/bytealg.CountString", "internal/bytealg.IndexByteString", "internal/bytealg.IndexString", "internal/abi.NoEscape", "internal/bytealg.MakeNoZero"], named := ["internal/bytealg.MaxLen", "unicode/utf8.first", "unicode/utf8.acceptRanges"], apart := false, laid := [("unicode/utf8.acceptRanges", laid_unicode_utf8_acceptRanges), ("unicode/utf8.first", laid_unicode_utf8_first)] }
def KeyBackSaid : Prop := keyBackRow.holds Tryd.pinned (OpenSpec.ofChange keyBackSpec)

/-- ITS FALSE NEIGHBOUR: 'it returns false'. Refute it at one input. -/
def keyBackWrong : ChangeSpec := { name := "keyBack", fn := fun _ => fun
  | [d] => { results := [.lit (.bool false)], args := [d] }
  | _ => none }
def KeyBackWrongFalsely : Prop := keyBackRow.holds Tryd.pinned (OpenSpec.ofChange keyBackWrong)

/-- 'padlockkeep.KeyFixed': WHATEVER THE INPUT: true; the input reads as it did. -/
def keyFixedSpec : ChangeSpec := { name := "keyFixed", fn := fun _ => fun
  | [d] => { results := [.lit (.bool true)], args := [d] }
  | _ => none }
def keyFixedRow : OpenClaim := { program := "ytoemmoeedhllfaadoor", sum := "fb736955c138a37ceb6a79e3a4d3750a37382106790a502785bdabf021f0f5e6", func := "padlock/padlockkeep.KeyFixed", spec := "keyFixed", inPlace := ["internal/bytealg.CountString", "internal/bytealg.IndexByteString", "internal/bytealg.IndexString", "internal/abi.NoEscape", "internal/bytealg.MakeNoZero"], named := ["internal/bytealg.MaxLen", "unicode/utf8.first", "unicode/utf8.acceptRanges"], apart := false, laid := [("unicode/utf8.acceptRanges", laid_unicode_utf8_acceptRanges), ("unicode/utf8.first", laid_unicode_utf8_first)] }
def KeyFixedSaid : Prop := keyFixedRow.holds Tryd.pinned (OpenSpec.ofChange keyFixedSpec)

/-- ITS FALSE NEIGHBOUR: 'it returns false'. Refute it at one input. -/
def keyFixedWrong : ChangeSpec := { name := "keyFixed", fn := fun _ => fun
  | [d] => { results := [.lit (.bool false)], args := [d] }
  | _ => none }
def KeyFixedWrongFalsely : Prop := keyFixedRow.holds Tryd.pinned (OpenSpec.ofChange keyFixedWrong)

/-- 'padlockkeep.KeyTorn': WHATEVER THE INPUT: true; the input reads as it did. -/
def keyTornSpec : ChangeSpec := { name := "keyTorn", fn := fun _ => fun
  | [d1, d2] => { results := [.lit (.bool true)], args := [d1, d2] }
  | _ => none }
def keyTornRow : OpenClaim := { program := "ytoemmoeedhllfaadoor", sum := "fb736955c138a37ceb6a79e3a4d3750a37382106790a502785bdabf021f0f5e6", func := "padlock/padlockkeep.KeyTorn", spec := "keyTorn", inPlace := ["internal/bytealg.CountString", "internal/bytealg.IndexByteString", "internal/bytealg.IndexString", "internal/abi.NoEscape", "internal/bytealg.MakeNoZero"], named := ["internal/bytealg.MaxLen", "unicode/utf8.first", "unicode/utf8.acceptRanges"], apart := false, laid := [("unicode/utf8.acceptRanges", laid_unicode_utf8_acceptRanges), ("unicode/utf8.first", laid_unicode_utf8_first)] }
def KeyTornSaid : Prop := keyTornRow.holds Tryd.pinned (OpenSpec.ofChange keyTornSpec)

/-- ITS FALSE NEIGHBOUR: 'it returns false'. Refute it at one input. -/
def keyTornWrong : ChangeSpec := { name := "keyTorn", fn := fun _ => fun
  | [d1, d2] => { results := [.lit (.bool false)], args := [d1, d2] }
  | _ => none }
def KeyTornWrongFalsely : Prop := keyTornRow.holds Tryd.pinned (OpenSpec.ofChange keyTornWrong)

/-- 'padlockkeep.KeyOrder': WHATEVER THE INPUT: true; the input reads as it did. -/
def keyOrderSpec : ChangeSpec := { name := "keyOrder", fn := fun _ => fun
  | [d1, d2] => { results := [.lit (.bool true)], args := [d1, d2] }
  | _ => none }
def keyOrderRow : OpenClaim := { program := "ytoemmoeedhllfaadoor", sum := "fb736955c138a37ceb6a79e3a4d3750a37382106790a502785bdabf021f0f5e6", func := "padlock/padlockkeep.KeyOrder", spec := "keyOrder", inPlace := ["internal/bytealg.CountString", "internal/bytealg.IndexByteString", "internal/bytealg.IndexString", "internal/abi.NoEscape", "internal/bytealg.MakeNoZero", "internal/bytealg.abigen_runtime_cmpstring"], named := ["internal/bytealg.MaxLen", "unicode/utf8.first", "unicode/utf8.acceptRanges"], apart := false, laid := [("unicode/utf8.acceptRanges", laid_unicode_utf8_acceptRanges), ("unicode/utf8.first", laid_unicode_utf8_first)] }
def KeyOrderSaid : Prop := keyOrderRow.holds Tryd.pinned (OpenSpec.ofChange keyOrderSpec)

/-- ITS FALSE NEIGHBOUR: 'it returns false'. Refute it at one input. -/
def keyOrderWrong : ChangeSpec := { name := "keyOrder", fn := fun _ => fun
  | [d1, d2] => { results := [.lit (.bool false)], args := [d1, d2] }
  | _ => none }
def KeyOrderWrongFalsely : Prop := keyOrderRow.holds Tryd.pinned (OpenSpec.ofChange keyOrderWrong)

/-- 'padlockkeep.NameKept': WHATEVER THE INPUT: true; the input reads as it did. -/
def nameKeptSpec : ChangeSpec := { name := "nameKept", fn := fun _ => fun
  | [d1, d2] => { results := [.lit (.bool true)], args := [d1, d2] }
  | _ => none }
def nameKeptRow : OpenClaim := { program := "ytoemmoeedhllfaadoor", sum := "fb736955c138a37ceb6a79e3a4d3750a37382106790a502785bdabf021f0f5e6", func := "padlock/padlockkeep.NameKept", spec := "nameKept", unfollowed := true, recurses := true, named := ["padlock/parse.words", "padlock/lex.marks"], apart := false, laid := [("padlock/lex.marks", laid_padlock_lex_marks), ("padlock/parse.words", laid_padlock_parse_words)] }
def NameKeptSaid : Prop := nameKeptRow.holds Tryd.pinned (OpenSpec.ofChange nameKeptSpec)

/-- ITS FALSE NEIGHBOUR: 'it returns false'. Refute it at one input. -/
def nameKeptWrong : ChangeSpec := { name := "nameKept", fn := fun _ => fun
  | [d1, d2] => { results := [.lit (.bool false)], args := [d1, d2] }
  | _ => none }
def NameKeptWrongFalsely : Prop := nameKeptRow.holds Tryd.pinned (OpenSpec.ofChange nameKeptWrong)

/-- 'padlockkeep.OpsWhole': WHATEVER THE INPUT: true; the input reads as it did. -/
def opsWholeSpec : ChangeSpec := { name := "opsWhole", fn := fun _ => fun
  | [d1, d2] => { results := [.lit (.bool true)], args := [d1, d2] }
  | _ => none }
def opsWholeRow : OpenClaim := { program := "ytoemmoeedhllfaadoor", sum := "fb736955c138a37ceb6a79e3a4d3750a37382106790a502785bdabf021f0f5e6", func := "padlock/padlockkeep.OpsWhole", spec := "opsWhole", unfollowed := true, recurses := true, named := ["padlock/parse.words", "padlock/lex.marks"], loops := true, apart := false, laid := [("padlock/lex.marks", laid_padlock_lex_marks), ("padlock/parse.words", laid_padlock_parse_words)] }
def OpsWholeSaid : Prop := opsWholeRow.holds Tryd.pinned (OpenSpec.ofChange opsWholeSpec)

/-- ITS FALSE NEIGHBOUR: 'it returns false'. Refute it at one input. -/
def opsWholeWrong : ChangeSpec := { name := "opsWhole", fn := fun _ => fun
  | [d1, d2] => { results := [.lit (.bool false)], args := [d1, d2] }
  | _ => none }
def OpsWholeWrongFalsely : Prop := opsWholeRow.holds Tryd.pinned (OpenSpec.ofChange opsWholeWrong)

/-- 'padlockkeep.RowNull': WHATEVER THE INPUT: true; the input reads as it did. -/
def rowNullSpec : ChangeSpec := { name := "rowNull", fn := fun _ => fun
  | [d1, d2, d3, d4, d5] => { results := [.lit (.bool true)], args := [d1, d2, d3, d4, d5] }
  | _ => none }
def rowNullRow : OpenClaim := { program := "ytoemmoeedhllfaadoor", sum := "fb736955c138a37ceb6a79e3a4d3750a37382106790a502785bdabf021f0f5e6", func := "padlock/padlockkeep.RowNull", spec := "rowNull", unfollowed := true, recurses := true, named := ["padlock/parse.words", "padlock/lex.marks", "padlock/parse.types"], apart := false, laid := [("padlock/lex.marks", laid_padlock_lex_marks), ("padlock/parse.words", laid_padlock_parse_words), ("padlock/parse.types", laid_padlock_parse_types)] }
def RowNullSaid : Prop := rowNullRow.holds Tryd.pinned (OpenSpec.ofChange rowNullSpec)

/-- ITS FALSE NEIGHBOUR: 'it returns false'. Refute it at one input. -/
def rowNullWrong : ChangeSpec := { name := "rowNull", fn := fun _ => fun
  | [d1, d2, d3, d4, d5] => { results := [.lit (.bool false)], args := [d1, d2, d3, d4, d5] }
  | _ => none }
def RowNullWrongFalsely : Prop := rowNullRow.holds Tryd.pinned (OpenSpec.ofChange rowNullWrong)

/-- 'padlockkeep.ColsBad': WHATEVER THE INPUT: true; the input reads as it did. -/
def colsBadSpec : ChangeSpec := { name := "colsBad", fn := fun _ => fun
  | [d1, d2] => { results := [.lit (.bool true)], args := [d1, d2] }
  | _ => none }
def colsBadRow : OpenClaim := { program := "ytoemmoeedhllfaadoor", sum := "fb736955c138a37ceb6a79e3a4d3750a37382106790a502785bdabf021f0f5e6", func := "padlock/padlockkeep.ColsBad", spec := "colsBad", unfollowed := true, recurses := true, named := ["padlock/parse.words", "padlock/lex.marks", "padlock/parse.types"], apart := false, laid := [("padlock/lex.marks", laid_padlock_lex_marks), ("padlock/parse.words", laid_padlock_parse_words), ("padlock/parse.types", laid_padlock_parse_types)] }
def ColsBadSaid : Prop := colsBadRow.holds Tryd.pinned (OpenSpec.ofChange colsBadSpec)

/-- ITS FALSE NEIGHBOUR: 'it returns false'. Refute it at one input. -/
def colsBadWrong : ChangeSpec := { name := "colsBad", fn := fun _ => fun
  | [d1, d2] => { results := [.lit (.bool false)], args := [d1, d2] }
  | _ => none }
def ColsBadWrongFalsely : Prop := colsBadRow.holds Tryd.pinned (OpenSpec.ofChange colsBadWrong)

/- THE SECOND FORM. 'bulk': how many values and letters a reading holds, each counted each time it is reached (what is shared counts as often as it is met; a slice's spare places count too). A statement '..UptoSaid' is the law's where the arguments, and the package variables that the reading takes, are together of bulk at most 1048576: NARROWER than '..Said'. Prove '..Said' where nothing that the law and all that it calls make is longer than what came in: it says more and counts as full. Else prove '..UptoSaid'. A law counts once. -/
mutual
def uptoBulk {H : Type} : DataW H → Nat
  | .lit (.string bytes) => bytes.length + 1
  | .lit _ => 1
  | .nil => 1
  | .ptr d => uptoBulk d + 1
  | .slice elems spare => uptoBulkAll elems + uptoBulkAll spare + 1
  | .agg parts => uptoBulkAll parts + 1
  | .iface _ d => uptoBulk d + 1
  | .map entries => uptoBulkEntries entries + 1
  | .held _ => 1
def uptoBulkAll {H : Type} : List (DataW H) → Nat
  | [] => 0
  | d :: r => uptoBulk d + uptoBulkAll r
def uptoBulkEntries {H : Type} : List (Lit × DataW H) → Nat
  | [] => 0
  | x :: r => uptoBulkEntry x + uptoBulkEntries r
def uptoBulkEntry {H : Type} : Lit × DataW H → Nat
  | (.string bytes, d) => bytes.length + uptoBulk d + 1
  | (_, d) => uptoBulk d + 1
 end
def uptoSmall : (H : Type) → List (DataW H) → Bool := fun _ ds => decide (uptoBulkAll ds ≤ 1048576)
def OpenSpec.upto (s : _root_.Go.ChangeSpec) : _root_.Go.OpenSpec := { _root_.Go.OpenSpec.ofChange s with cond := some uptoSmall }

/-- 'padlockkeep.KeyParts', WHERE WHAT IT READS IS OF BULK AT MOST 1048576: true; the input reads as it did. -/
def keyPartsUptoRow : OpenClaim := { program := "ytoemmoeedhllfaadoor", sum := "fb736955c138a37ceb6a79e3a4d3750a37382106790a502785bdabf021f0f5e6", func := "padlock/padlockkeep.KeyParts", spec := "keyParts", inPlace := ["internal/bytealg.CountString", "internal/bytealg.IndexByteString", "internal/bytealg.IndexString", "internal/abi.NoEscape", "internal/bytealg.MakeNoZero"], named := ["internal/bytealg.MaxLen", "unicode/utf8.first", "unicode/utf8.acceptRanges"], apart := false, laid := [("unicode/utf8.acceptRanges", laid_unicode_utf8_acceptRanges), ("unicode/utf8.first", laid_unicode_utf8_first)], narrowed := true }
def KeyPartsUptoSaid : Prop := keyPartsUptoRow.holds Tryd.pinned (OpenSpec.upto keyPartsSpec)

/-- 'padlockkeep.KeyLong', WHERE WHAT IT READS IS OF BULK AT MOST 1048576: true; the input reads as it did. -/
def keyLongUptoRow : OpenClaim := { program := "ytoemmoeedhllfaadoor", sum := "fb736955c138a37ceb6a79e3a4d3750a37382106790a502785bdabf021f0f5e6", func := "padlock/padlockkeep.KeyLong", spec := "keyLong", inPlace := ["internal/bytealg.CountString", "internal/bytealg.IndexByteString", "internal/bytealg.IndexString", "internal/abi.NoEscape", "internal/bytealg.MakeNoZero"], named := ["internal/bytealg.MaxLen", "unicode/utf8.first", "unicode/utf8.acceptRanges"], apart := false, laid := [("unicode/utf8.acceptRanges", laid_unicode_utf8_acceptRanges), ("unicode/utf8.first", laid_unicode_utf8_first)], narrowed := true }
def KeyLongUptoSaid : Prop := keyLongUptoRow.holds Tryd.pinned (OpenSpec.upto keyLongSpec)

/-- 'padlockkeep.KeyBack', WHERE WHAT IT READS IS OF BULK AT MOST 1048576: true; the input reads as it did. -/
def keyBackUptoRow : OpenClaim := { program := "ytoemmoeedhllfaadoor", sum := "fb736955c138a37ceb6a79e3a4d3750a37382106790a502785bdabf021f0f5e6", func := "padlock/padlockkeep.KeyBack", spec := "keyBack", inPlace := ["internal/bytealg.CountString", "internal/bytealg.IndexByteString", "internal/bytealg.IndexString", "internal/abi.NoEscape", "internal/bytealg.MakeNoZero"], named := ["internal/bytealg.MaxLen", "unicode/utf8.first", "unicode/utf8.acceptRanges"], apart := false, laid := [("unicode/utf8.acceptRanges", laid_unicode_utf8_acceptRanges), ("unicode/utf8.first", laid_unicode_utf8_first)], narrowed := true }
def KeyBackUptoSaid : Prop := keyBackUptoRow.holds Tryd.pinned (OpenSpec.upto keyBackSpec)

/-- 'padlockkeep.KeyFixed', WHERE WHAT IT READS IS OF BULK AT MOST 1048576: true; the input reads as it did. -/
def keyFixedUptoRow : OpenClaim := { program := "ytoemmoeedhllfaadoor", sum := "fb736955c138a37ceb6a79e3a4d3750a37382106790a502785bdabf021f0f5e6", func := "padlock/padlockkeep.KeyFixed", spec := "keyFixed", inPlace := ["internal/bytealg.CountString", "internal/bytealg.IndexByteString", "internal/bytealg.IndexString", "internal/abi.NoEscape", "internal/bytealg.MakeNoZero"], named := ["internal/bytealg.MaxLen", "unicode/utf8.first", "unicode/utf8.acceptRanges"], apart := false, laid := [("unicode/utf8.acceptRanges", laid_unicode_utf8_acceptRanges), ("unicode/utf8.first", laid_unicode_utf8_first)], narrowed := true }
def KeyFixedUptoSaid : Prop := keyFixedUptoRow.holds Tryd.pinned (OpenSpec.upto keyFixedSpec)

/-- 'padlockkeep.KeyTorn', WHERE WHAT IT READS IS OF BULK AT MOST 1048576: true; the input reads as it did. -/
def keyTornUptoRow : OpenClaim := { program := "ytoemmoeedhllfaadoor", sum := "fb736955c138a37ceb6a79e3a4d3750a37382106790a502785bdabf021f0f5e6", func := "padlock/padlockkeep.KeyTorn", spec := "keyTorn", inPlace := ["internal/bytealg.CountString", "internal/bytealg.IndexByteString", "internal/bytealg.IndexString", "internal/abi.NoEscape", "internal/bytealg.MakeNoZero"], named := ["internal/bytealg.MaxLen", "unicode/utf8.first", "unicode/utf8.acceptRanges"], apart := false, laid := [("unicode/utf8.acceptRanges", laid_unicode_utf8_acceptRanges), ("unicode/utf8.first", laid_unicode_utf8_first)], narrowed := true }
def KeyTornUptoSaid : Prop := keyTornUptoRow.holds Tryd.pinned (OpenSpec.upto keyTornSpec)

/-- 'padlockkeep.KeyOrder', WHERE WHAT IT READS IS OF BULK AT MOST 1048576: true; the input reads as it did. -/
def keyOrderUptoRow : OpenClaim := { program := "ytoemmoeedhllfaadoor", sum := "fb736955c138a37ceb6a79e3a4d3750a37382106790a502785bdabf021f0f5e6", func := "padlock/padlockkeep.KeyOrder", spec := "keyOrder", inPlace := ["internal/bytealg.CountString", "internal/bytealg.IndexByteString", "internal/bytealg.IndexString", "internal/abi.NoEscape", "internal/bytealg.MakeNoZero", "internal/bytealg.abigen_runtime_cmpstring"], named := ["internal/bytealg.MaxLen", "unicode/utf8.first", "unicode/utf8.acceptRanges"], apart := false, laid := [("unicode/utf8.acceptRanges", laid_unicode_utf8_acceptRanges), ("unicode/utf8.first", laid_unicode_utf8_first)], narrowed := true }
def KeyOrderUptoSaid : Prop := keyOrderUptoRow.holds Tryd.pinned (OpenSpec.upto keyOrderSpec)

/-- 'padlockkeep.NameKept', WHERE WHAT IT READS IS OF BULK AT MOST 1048576: true; the input reads as it did. -/
def nameKeptUptoRow : OpenClaim := { program := "ytoemmoeedhllfaadoor", sum := "fb736955c138a37ceb6a79e3a4d3750a37382106790a502785bdabf021f0f5e6", func := "padlock/padlockkeep.NameKept", spec := "nameKept", unfollowed := true, recurses := true, named := ["padlock/parse.words", "padlock/lex.marks"], apart := false, laid := [("padlock/lex.marks", laid_padlock_lex_marks), ("padlock/parse.words", laid_padlock_parse_words)], narrowed := true }
def NameKeptUptoSaid : Prop := nameKeptUptoRow.holds Tryd.pinned (OpenSpec.upto nameKeptSpec)

/-- 'padlockkeep.OpsWhole', WHERE WHAT IT READS IS OF BULK AT MOST 1048576: true; the input reads as it did. -/
def opsWholeUptoRow : OpenClaim := { program := "ytoemmoeedhllfaadoor", sum := "fb736955c138a37ceb6a79e3a4d3750a37382106790a502785bdabf021f0f5e6", func := "padlock/padlockkeep.OpsWhole", spec := "opsWhole", unfollowed := true, recurses := true, named := ["padlock/parse.words", "padlock/lex.marks"], loops := true, apart := false, laid := [("padlock/lex.marks", laid_padlock_lex_marks), ("padlock/parse.words", laid_padlock_parse_words)], narrowed := true }
def OpsWholeUptoSaid : Prop := opsWholeUptoRow.holds Tryd.pinned (OpenSpec.upto opsWholeSpec)

/-- 'padlockkeep.RowNull', WHERE WHAT IT READS IS OF BULK AT MOST 1048576: true; the input reads as it did. -/
def rowNullUptoRow : OpenClaim := { program := "ytoemmoeedhllfaadoor", sum := "fb736955c138a37ceb6a79e3a4d3750a37382106790a502785bdabf021f0f5e6", func := "padlock/padlockkeep.RowNull", spec := "rowNull", unfollowed := true, recurses := true, named := ["padlock/parse.words", "padlock/lex.marks", "padlock/parse.types"], apart := false, laid := [("padlock/lex.marks", laid_padlock_lex_marks), ("padlock/parse.words", laid_padlock_parse_words), ("padlock/parse.types", laid_padlock_parse_types)], narrowed := true }
def RowNullUptoSaid : Prop := rowNullUptoRow.holds Tryd.pinned (OpenSpec.upto rowNullSpec)

/-- 'padlockkeep.ColsBad', WHERE WHAT IT READS IS OF BULK AT MOST 1048576: true; the input reads as it did. -/
def colsBadUptoRow : OpenClaim := { program := "ytoemmoeedhllfaadoor", sum := "fb736955c138a37ceb6a79e3a4d3750a37382106790a502785bdabf021f0f5e6", func := "padlock/padlockkeep.ColsBad", spec := "colsBad", unfollowed := true, recurses := true, named := ["padlock/parse.words", "padlock/lex.marks", "padlock/parse.types"], apart := false, laid := [("padlock/lex.marks", laid_padlock_lex_marks), ("padlock/parse.words", laid_padlock_parse_words), ("padlock/parse.types", laid_padlock_parse_types)], narrowed := true }
def ColsBadUptoSaid : Prop := colsBadUptoRow.holds Tryd.pinned (OpenSpec.upto colsBadSpec)

end Rows
end Go.Proofs.YtoemmoeedhllfaaDoor
