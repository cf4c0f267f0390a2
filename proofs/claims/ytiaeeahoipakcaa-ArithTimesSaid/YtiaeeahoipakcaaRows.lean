/-
  No cell of these rows narrows 'for every input' (looked for: loops, veiled, ifaces, maps, wideKeys, modest, calm, conditions, laid).
  DERIVED. THE GIVEN ROWS OF THIS SEAT. 10 by the template 'for every input the law returns true; each argument reads behind the call as it read before'; 0 by the template 'total and deterministic' (their statements: YtiaeeahoipakcaaTotals.lean).
  GIVEN WITH THE SEED: the statements are not yours to turn. If you find one false, say at which input.
  Laid BY PROGRAM, IN A SANDBOX (cutbox-rows.mjs): the forced cells as the released guide's own fill.sh prints them over the translation 02eb3d1480cf3faa… (all of the seat's roots in one cut). By AI agents, Wed Nov 11 2026. No macro, syntax, notation, axiom, sorry.
-/
import Derived.Test.YtiaeeahoipakcaaChecked
import GoSem.Claim
import GoSem.ClaimJoined
import GoSem.ClaimMapViews
import Derived.JoinedTies
import Derived.KernelRfl
namespace Go.Proofs.Ytiaeeahoipakcaa
/- THE CELL 'sum', in the pinned program and in every row, IS THE sha256 OF THE DUMP (.gsa) THAT YtiaeeahoipakcaaProg.lean LOADS. Nothing in Lean hashes anything: it is a label: what it is worth is what the hold of that sum in a sandbox is worth. -/
noncomputable def Try.pinned : Pinned := { name := "ytiaeeahoipakcaa", sum := "02eb3d1480cf3faafac9c9f5847f9e811095b1599308edbbb370d433bec2f8a8", checked := Try.checked }
namespace Rows
def none {H : Type} : Left H := { results := [], args := [] }

/-- 'padlockkeep.ValueOrder': WHATEVER THE INPUT: true; the input reads as it did. -/
def valueOrderSpec : ChangeSpec := { name := "valueOrder", fn := fun _ => fun
  | [d1, d2, d3] => { results := [.lit (.bool true)], args := [d1, d2, d3] }
  | _ => none }
def valueOrderRow : OpenClaim := { program := "ytiaeeahoipakcaa", sum := "02eb3d1480cf3faafac9c9f5847f9e811095b1599308edbbb370d433bec2f8a8", func := "padlock/padlockkeep.ValueOrder", spec := "valueOrder", inPlace := ["internal/bytealg.abigen_runtime_cmpstring"], apart := false }
def ValueOrderSaid : Prop := valueOrderRow.holds Try.pinned (OpenSpec.ofChange valueOrderSpec)

/-- ITS FALSE NEIGHBOUR: 'it returns false'. Refute it at one input. -/
def valueOrderWrong : ChangeSpec := { name := "valueOrder", fn := fun _ => fun
  | [d1, d2, d3] => { results := [.lit (.bool false)], args := [d1, d2, d3] }
  | _ => none }
def ValueOrderWrongFalsely : Prop := valueOrderRow.holds Try.pinned (OpenSpec.ofChange valueOrderWrong)

/-- 'padlockkeep.ArithBack': WHATEVER THE INPUT: true; the input reads as it did. -/
def arithBackSpec : ChangeSpec := { name := "arithBack", fn := fun _ => fun
  | [d1, d2] => { results := [.lit (.bool true)], args := [d1, d2] }
  | _ => none }
def arithBackRow : OpenClaim := { program := "ytiaeeahoipakcaa", sum := "02eb3d1480cf3faafac9c9f5847f9e811095b1599308edbbb370d433bec2f8a8", func := "padlock/padlockkeep.ArithBack", spec := "arithBack", inPlace := ["internal/bytealg.abigen_runtime_cmpstring"], apart := false }
def ArithBackSaid : Prop := arithBackRow.holds Try.pinned (OpenSpec.ofChange arithBackSpec)

/-- ITS FALSE NEIGHBOUR: 'it returns false'. Refute it at one input. -/
def arithBackWrong : ChangeSpec := { name := "arithBack", fn := fun _ => fun
  | [d1, d2] => { results := [.lit (.bool false)], args := [d1, d2] }
  | _ => none }
def ArithBackWrongFalsely : Prop := arithBackRow.holds Try.pinned (OpenSpec.ofChange arithBackWrong)

/-- 'padlockkeep.ArithTimes': WHATEVER THE INPUT: true; the input reads as it did. -/
def arithTimesSpec : ChangeSpec := { name := "arithTimes", fn := fun _ => fun
  | [d1, d2, d3] => { results := [.lit (.bool true)], args := [d1, d2, d3] }
  | _ => none }
def arithTimesRow : OpenClaim := { program := "ytiaeeahoipakcaa", sum := "02eb3d1480cf3faafac9c9f5847f9e811095b1599308edbbb370d433bec2f8a8", func := "padlock/padlockkeep.ArithTimes", spec := "arithTimes", inPlace := ["internal/bytealg.abigen_runtime_cmpstring"], apart := false }
def ArithTimesSaid : Prop := arithTimesRow.holds Try.pinned (OpenSpec.ofChange arithTimesSpec)

/-- ITS FALSE NEIGHBOUR: 'it returns false'. Refute it at one input. -/
def arithTimesWrong : ChangeSpec := { name := "arithTimes", fn := fun _ => fun
  | [d1, d2, d3] => { results := [.lit (.bool false)], args := [d1, d2, d3] }
  | _ => none }
def ArithTimesWrongFalsely : Prop := arithTimesRow.holds Try.pinned (OpenSpec.ofChange arithTimesWrong)

/-- 'padlockkeep.TwoTypes': WHATEVER THE INPUT: true; the input reads as it did. -/
def twoTypesSpec : ChangeSpec := { name := "twoTypes", fn := fun _ => fun
  | [d1, d2, d3] => { results := [.lit (.bool true)], args := [d1, d2, d3] }
  | _ => none }
def twoTypesRow : OpenClaim := { program := "ytiaeeahoipakcaa", sum := "02eb3d1480cf3faafac9c9f5847f9e811095b1599308edbbb370d433bec2f8a8", func := "padlock/padlockkeep.TwoTypes", spec := "twoTypes", inPlace := ["internal/bytealg.abigen_runtime_cmpstring"], apart := false }
def TwoTypesSaid : Prop := twoTypesRow.holds Try.pinned (OpenSpec.ofChange twoTypesSpec)

/-- ITS FALSE NEIGHBOUR: 'it returns false'. Refute it at one input. -/
def twoTypesWrong : ChangeSpec := { name := "twoTypes", fn := fun _ => fun
  | [d1, d2, d3] => { results := [.lit (.bool false)], args := [d1, d2, d3] }
  | _ => none }
def TwoTypesWrongFalsely : Prop := twoTypesRow.holds Try.pinned (OpenSpec.ofChange twoTypesWrong)

/-- 'padlockkeep.LessSame': WHATEVER THE INPUT: true; the input reads as it did. -/
def lessSameSpec : ChangeSpec := { name := "lessSame", fn := fun _ => fun
  | [d1, d2] => { results := [.lit (.bool true)], args := [d1, d2] }
  | _ => none }
def lessSameRow : OpenClaim := { program := "ytiaeeahoipakcaa", sum := "02eb3d1480cf3faafac9c9f5847f9e811095b1599308edbbb370d433bec2f8a8", func := "padlock/padlockkeep.LessSame", spec := "lessSame", inPlace := ["internal/bytealg.abigen_runtime_cmpstring"], apart := false }
def LessSameSaid : Prop := lessSameRow.holds Try.pinned (OpenSpec.ofChange lessSameSpec)

/-- ITS FALSE NEIGHBOUR: 'it returns false'. Refute it at one input. -/
def lessSameWrong : ChangeSpec := { name := "lessSame", fn := fun _ => fun
  | [d1, d2] => { results := [.lit (.bool false)], args := [d1, d2] }
  | _ => none }
def LessSameWrongFalsely : Prop := lessSameRow.holds Try.pinned (OpenSpec.ofChange lessSameWrong)

/-- 'padlockkeep.ArithSigns': WHATEVER THE INPUT: true; the input reads as it did. -/
def arithSignsSpec : ChangeSpec := { name := "arithSigns", fn := fun _ => fun
  | [d1, d2] => { results := [.lit (.bool true)], args := [d1, d2] }
  | _ => none }
def arithSignsRow : OpenClaim := { program := "ytiaeeahoipakcaa", sum := "02eb3d1480cf3faafac9c9f5847f9e811095b1599308edbbb370d433bec2f8a8", func := "padlock/padlockkeep.ArithSigns", spec := "arithSigns", inPlace := ["internal/bytealg.abigen_runtime_cmpstring"], apart := false }
def ArithSignsSaid : Prop := arithSignsRow.holds Try.pinned (OpenSpec.ofChange arithSignsSpec)

/-- ITS FALSE NEIGHBOUR: 'it returns false'. Refute it at one input. -/
def arithSignsWrong : ChangeSpec := { name := "arithSigns", fn := fun _ => fun
  | [d1, d2] => { results := [.lit (.bool false)], args := [d1, d2] }
  | _ => none }
def ArithSignsWrongFalsely : Prop := arithSignsRow.holds Try.pinned (OpenSpec.ofChange arithSignsWrong)

/-- 'padlockkeep.LogicThree': WHATEVER THE INPUT: true; the input reads as it did. -/
def logicThreeSpec : ChangeSpec := { name := "logicThree", fn := fun _ => fun
  | [d1, d2, d3] => { results := [.lit (.bool true)], args := [d1, d2, d3] }
  | _ => none }
def logicThreeRow : OpenClaim := { program := "ytiaeeahoipakcaa", sum := "02eb3d1480cf3faafac9c9f5847f9e811095b1599308edbbb370d433bec2f8a8", func := "padlock/padlockkeep.LogicThree", spec := "logicThree", inPlace := ["internal/bytealg.abigen_runtime_cmpstring"], apart := false }
def LogicThreeSaid : Prop := logicThreeRow.holds Try.pinned (OpenSpec.ofChange logicThreeSpec)

/-- ITS FALSE NEIGHBOUR: 'it returns false'. Refute it at one input. -/
def logicThreeWrong : ChangeSpec := { name := "logicThree", fn := fun _ => fun
  | [d1, d2, d3] => { results := [.lit (.bool false)], args := [d1, d2, d3] }
  | _ => none }
def LogicThreeWrongFalsely : Prop := logicThreeRow.holds Try.pinned (OpenSpec.ofChange logicThreeWrong)

/-- 'padlockkeep.LogicTable': WHATEVER THE INPUT: true; the input reads as it did. -/
def logicTableSpec : ChangeSpec := { name := "logicTable", fn := fun _ => fun
  | [d1, d2] => { results := [.lit (.bool true)], args := [d1, d2] }
  | _ => none }
def logicTableRow : OpenClaim := { program := "ytiaeeahoipakcaa", sum := "02eb3d1480cf3faafac9c9f5847f9e811095b1599308edbbb370d433bec2f8a8", func := "padlock/padlockkeep.LogicTable", spec := "logicTable", inPlace := ["internal/bytealg.abigen_runtime_cmpstring"], apart := false }
def LogicTableSaid : Prop := logicTableRow.holds Try.pinned (OpenSpec.ofChange logicTableSpec)

/-- ITS FALSE NEIGHBOUR: 'it returns false'. Refute it at one input. -/
def logicTableWrong : ChangeSpec := { name := "logicTable", fn := fun _ => fun
  | [d1, d2] => { results := [.lit (.bool false)], args := [d1, d2] }
  | _ => none }
def LogicTableWrongFalsely : Prop := logicTableRow.holds Try.pinned (OpenSpec.ofChange logicTableWrong)

/-- 'padlockkeep.LogicNull': WHATEVER THE INPUT: true; the input reads as it did. -/
def logicNullSpec : ChangeSpec := { name := "logicNull", fn := fun _ => fun
  | [d] => { results := [.lit (.bool true)], args := [d] }
  | _ => none }
def logicNullRow : OpenClaim := { program := "ytiaeeahoipakcaa", sum := "02eb3d1480cf3faafac9c9f5847f9e811095b1599308edbbb370d433bec2f8a8", func := "padlock/padlockkeep.LogicNull", spec := "logicNull", inPlace := ["internal/bytealg.abigen_runtime_cmpstring"], apart := false }
def LogicNullSaid : Prop := logicNullRow.holds Try.pinned (OpenSpec.ofChange logicNullSpec)

/-- ITS FALSE NEIGHBOUR: 'it returns false'. Refute it at one input. -/
def logicNullWrong : ChangeSpec := { name := "logicNull", fn := fun _ => fun
  | [d] => { results := [.lit (.bool false)], args := [d] }
  | _ => none }
def LogicNullWrongFalsely : Prop := logicNullRow.holds Try.pinned (OpenSpec.ofChange logicNullWrong)

/-- 'padlockkeep.ValueNulls': WHATEVER THE INPUT: true; the input reads as it did. -/
def valueNullsSpec : ChangeSpec := { name := "valueNulls", fn := fun _ => fun
  | [d1, d2] => { results := [.lit (.bool true)], args := [d1, d2] }
  | _ => none }
def valueNullsRow : OpenClaim := { program := "ytiaeeahoipakcaa", sum := "02eb3d1480cf3faafac9c9f5847f9e811095b1599308edbbb370d433bec2f8a8", func := "padlock/padlockkeep.ValueNulls", spec := "valueNulls", inPlace := ["internal/bytealg.abigen_runtime_cmpstring"], apart := false }
def ValueNullsSaid : Prop := valueNullsRow.holds Try.pinned (OpenSpec.ofChange valueNullsSpec)

/-- ITS FALSE NEIGHBOUR: 'it returns false'. Refute it at one input. -/
def valueNullsWrong : ChangeSpec := { name := "valueNulls", fn := fun _ => fun
  | [d1, d2] => { results := [.lit (.bool false)], args := [d1, d2] }
  | _ => none }
def ValueNullsWrongFalsely : Prop := valueNullsRow.holds Try.pinned (OpenSpec.ofChange valueNullsWrong)

/- THE SECOND FORM. 'bulk': how many values and letters a reading holds, each counted each time it is reached (what is shared counts as often as it is met; a slice's spare places count too). A statement '..UptoSaid' is the law's where the arguments, and the package variables that the reading takes, are together of bulk at most 1048576: NARROWER than '..Said'. Prove '..Said' where nothing that the law and all that it calls make is longer than what came in: it says more and counts as full. Else prove '..UptoSaid'. A law counts once. -/
mutual
def uptoBulk {H : Type} : DataW H → Nat
  | .lit (.string bytes) => bytes.length + 1
  | .lit _ => 1
  | .nil => 1
  | .ptr d => uptoBulk d + 1
  | .slice elems spare => uptoBulkAll elems + uptoBulkAll spare + 1
  | .agg parts => uptoBulkAll parts + 1
  | .iface _ d => uptoBulk d + 1
  | .map entries => uptoBulkEntries entries + 1
  | .held _ => 1
def uptoBulkAll {H : Type} : List (DataW H) → Nat
  | [] => 0
  | d :: r => uptoBulk d + uptoBulkAll r
def uptoBulkEntries {H : Type} : List (Lit × DataW H) → Nat
  | [] => 0
  | x :: r => uptoBulkEntry x + uptoBulkEntries r
def uptoBulkEntry {H : Type} : Lit × DataW H → Nat
  | (.string bytes, d) => bytes.length + uptoBulk d + 1
  | (_, d) => uptoBulk d + 1
 end
def uptoSmall : (H : Type) → List (DataW H) → Bool := fun _ ds => decide (uptoBulkAll ds ≤ 1048576)
def OpenSpec.upto (s : _root_.Go.ChangeSpec) : _root_.Go.OpenSpec := { _root_.Go.OpenSpec.ofChange s with cond := some uptoSmall }

/-- 'padlockkeep.ValueOrder', WHERE WHAT IT READS IS OF BULK AT MOST 1048576: true; the input reads as it did. -/
def valueOrderUptoRow : OpenClaim := { program := "ytiaeeahoipakcaa", sum := "02eb3d1480cf3faafac9c9f5847f9e811095b1599308edbbb370d433bec2f8a8", func := "padlock/padlockkeep.ValueOrder", spec := "valueOrder", inPlace := ["internal/bytealg.abigen_runtime_cmpstring"], apart := false, narrowed := true }
def ValueOrderUptoSaid : Prop := valueOrderUptoRow.holds Try.pinned (OpenSpec.upto valueOrderSpec)

/-- 'padlockkeep.ArithBack', WHERE WHAT IT READS IS OF BULK AT MOST 1048576: true; the input reads as it did. -/
def arithBackUptoRow : OpenClaim := { program := "ytiaeeahoipakcaa", sum := "02eb3d1480cf3faafac9c9f5847f9e811095b1599308edbbb370d433bec2f8a8", func := "padlock/padlockkeep.ArithBack", spec := "arithBack", inPlace := ["internal/bytealg.abigen_runtime_cmpstring"], apart := false, narrowed := true }
def ArithBackUptoSaid : Prop := arithBackUptoRow.holds Try.pinned (OpenSpec.upto arithBackSpec)

/-- 'padlockkeep.ArithTimes', WHERE WHAT IT READS IS OF BULK AT MOST 1048576: true; the input reads as it did. -/
def arithTimesUptoRow : OpenClaim := { program := "ytiaeeahoipakcaa", sum := "02eb3d1480cf3faafac9c9f5847f9e811095b1599308edbbb370d433bec2f8a8", func := "padlock/padlockkeep.ArithTimes", spec := "arithTimes", inPlace := ["internal/bytealg.abigen_runtime_cmpstring"], apart := false, narrowed := true }
def ArithTimesUptoSaid : Prop := arithTimesUptoRow.holds Try.pinned (OpenSpec.upto arithTimesSpec)

/-- 'padlockkeep.TwoTypes', WHERE WHAT IT READS IS OF BULK AT MOST 1048576: true; the input reads as it did. -/
def twoTypesUptoRow : OpenClaim := { program := "ytiaeeahoipakcaa", sum := "02eb3d1480cf3faafac9c9f5847f9e811095b1599308edbbb370d433bec2f8a8", func := "padlock/padlockkeep.TwoTypes", spec := "twoTypes", inPlace := ["internal/bytealg.abigen_runtime_cmpstring"], apart := false, narrowed := true }
def TwoTypesUptoSaid : Prop := twoTypesUptoRow.holds Try.pinned (OpenSpec.upto twoTypesSpec)

/-- 'padlockkeep.LessSame', WHERE WHAT IT READS IS OF BULK AT MOST 1048576: true; the input reads as it did. -/
def lessSameUptoRow : OpenClaim := { program := "ytiaeeahoipakcaa", sum := "02eb3d1480cf3faafac9c9f5847f9e811095b1599308edbbb370d433bec2f8a8", func := "padlock/padlockkeep.LessSame", spec := "lessSame", inPlace := ["internal/bytealg.abigen_runtime_cmpstring"], apart := false, narrowed := true }
def LessSameUptoSaid : Prop := lessSameUptoRow.holds Try.pinned (OpenSpec.upto lessSameSpec)

/-- 'padlockkeep.ArithSigns', WHERE WHAT IT READS IS OF BULK AT MOST 1048576: true; the input reads as it did. -/
def arithSignsUptoRow : OpenClaim := { program := "ytiaeeahoipakcaa", sum := "02eb3d1480cf3faafac9c9f5847f9e811095b1599308edbbb370d433bec2f8a8", func := "padlock/padlockkeep.ArithSigns", spec := "arithSigns", inPlace := ["internal/bytealg.abigen_runtime_cmpstring"], apart := false, narrowed := true }
def ArithSignsUptoSaid : Prop := arithSignsUptoRow.holds Try.pinned (OpenSpec.upto arithSignsSpec)

/-- 'padlockkeep.LogicThree', WHERE WHAT IT READS IS OF BULK AT MOST 1048576: true; the input reads as it did. -/
def logicThreeUptoRow : OpenClaim := { program := "ytiaeeahoipakcaa", sum := "02eb3d1480cf3faafac9c9f5847f9e811095b1599308edbbb370d433bec2f8a8", func := "padlock/padlockkeep.LogicThree", spec := "logicThree", inPlace := ["internal/bytealg.abigen_runtime_cmpstring"], apart := false, narrowed := true }
def LogicThreeUptoSaid : Prop := logicThreeUptoRow.holds Try.pinned (OpenSpec.upto logicThreeSpec)

/-- 'padlockkeep.LogicTable', WHERE WHAT IT READS IS OF BULK AT MOST 1048576: true; the input reads as it did. -/
def logicTableUptoRow : OpenClaim := { program := "ytiaeeahoipakcaa", sum := "02eb3d1480cf3faafac9c9f5847f9e811095b1599308edbbb370d433bec2f8a8", func := "padlock/padlockkeep.LogicTable", spec := "logicTable", inPlace := ["internal/bytealg.abigen_runtime_cmpstring"], apart := false, narrowed := true }
def LogicTableUptoSaid : Prop := logicTableUptoRow.holds Try.pinned (OpenSpec.upto logicTableSpec)

/-- 'padlockkeep.LogicNull', WHERE WHAT IT READS IS OF BULK AT MOST 1048576: true; the input reads as it did. -/
def logicNullUptoRow : OpenClaim := { program := "ytiaeeahoipakcaa", sum := "02eb3d1480cf3faafac9c9f5847f9e811095b1599308edbbb370d433bec2f8a8", func := "padlock/padlockkeep.LogicNull", spec := "logicNull", inPlace := ["internal/bytealg.abigen_runtime_cmpstring"], apart := false, narrowed := true }
def LogicNullUptoSaid : Prop := logicNullUptoRow.holds Try.pinned (OpenSpec.upto logicNullSpec)

/-- 'padlockkeep.ValueNulls', WHERE WHAT IT READS IS OF BULK AT MOST 1048576: true; the input reads as it did. -/
def valueNullsUptoRow : OpenClaim := { program := "ytiaeeahoipakcaa", sum := "02eb3d1480cf3faafac9c9f5847f9e811095b1599308edbbb370d433bec2f8a8", func := "padlock/padlockkeep.ValueNulls", spec := "valueNulls", inPlace := ["internal/bytealg.abigen_runtime_cmpstring"], apart := false, narrowed := true }
def ValueNullsUptoSaid : Prop := valueNullsUptoRow.holds Try.pinned (OpenSpec.upto valueNullsSpec)

end Rows
end Go.Proofs.Ytiaeeahoipakcaa
