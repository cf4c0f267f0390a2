/-
  DERIVED. GIVEN WITH THE SEED: THE CARDS: each row of YtoemmoeedhllfaaDoorRows.lean that lists a variable, with what it lists TIED to the program's text (the seventh form; the later family's looks); each row that meets fmt, with fmt's text TOLD by the authors' own Lean function (tested against real Go, not proved from fmt's source: count such statements apart). THE CARD IS WHAT COUNTS. Prove the row's statement (the work); the ties are given (YtoemmoeedhllfaaDoorTie.lean); close each card by the builder's one call (the guide's Derived/Test/ToyasCard.lean, 'card_holds'). Laid BY PROGRAM, IN A SANDBOX (cutbox-door.mjs). By AI agents, Wed Nov 11 2026. No macro, syntax, notation, axiom, sorry.
-/
import Derived.Test.YtoemmoeedhllfaaDoorRows
import GoSem.ClaimSeven
namespace Go.Proofs.YtoemmoeedhllfaaDoor
namespace Rows

/-- THE TIED CARD OF 'padlockkeep.KeyParts'. -/
def keyPartsCard : Claim7 := { stood := { row := keyPartsRow, standIns := [], harness := (true, "6aa082d79be53f62a42fafb1b0186cb71b870c61ea2e02b8f415eff4e9d1269e"), looks := false }, kinds := [], alts := [], laidByText := true, laidKinds := [.data, .pinned], laidTests := true, laidLooks := .later }
def KeyPartsCardSaid : Prop := Claim7.holds Tryd.pinned (.plain (OpenSpec.ofChange keyPartsSpec)) keyPartsCard

/-- THE TIED CARD OF 'padlockkeep.KeyLong'. -/
def keyLongCard : Claim7 := { stood := { row := keyLongRow, standIns := [], harness := (true, "6aa082d79be53f62a42fafb1b0186cb71b870c61ea2e02b8f415eff4e9d1269e"), looks := false }, kinds := [], alts := [], laidByText := true, laidKinds := [.data, .pinned], laidTests := true, laidLooks := .later }
def KeyLongCardSaid : Prop := Claim7.holds Tryd.pinned (.plain (OpenSpec.ofChange keyLongSpec)) keyLongCard

/-- THE TIED CARD OF 'padlockkeep.KeyBack'. -/
def keyBackCard : Claim7 := { stood := { row := keyBackRow, standIns := [], harness := (true, "6aa082d79be53f62a42fafb1b0186cb71b870c61ea2e02b8f415eff4e9d1269e"), looks := false }, kinds := [], alts := [], laidByText := true, laidKinds := [.data, .pinned], laidTests := true, laidLooks := .later }
def KeyBackCardSaid : Prop := Claim7.holds Tryd.pinned (.plain (OpenSpec.ofChange keyBackSpec)) keyBackCard

/-- THE TIED CARD OF 'padlockkeep.KeyFixed'. -/
def keyFixedCard : Claim7 := { stood := { row := keyFixedRow, standIns := [], harness := (true, "6aa082d79be53f62a42fafb1b0186cb71b870c61ea2e02b8f415eff4e9d1269e"), looks := false }, kinds := [], alts := [], laidByText := true, laidKinds := [.data, .pinned], laidTests := true, laidLooks := .later }
def KeyFixedCardSaid : Prop := Claim7.holds Tryd.pinned (.plain (OpenSpec.ofChange keyFixedSpec)) keyFixedCard

/-- THE TIED CARD OF 'padlockkeep.KeyTorn'. -/
def keyTornCard : Claim7 := { stood := { row := keyTornRow, standIns := [], harness := (true, "6aa082d79be53f62a42fafb1b0186cb71b870c61ea2e02b8f415eff4e9d1269e"), looks := false }, kinds := [], alts := [], laidByText := true, laidKinds := [.data, .pinned], laidTests := true, laidLooks := .later }
def KeyTornCardSaid : Prop := Claim7.holds Tryd.pinned (.plain (OpenSpec.ofChange keyTornSpec)) keyTornCard

/-- THE TIED CARD OF 'padlockkeep.KeyOrder'. -/
def keyOrderCard : Claim7 := { stood := { row := keyOrderRow, standIns := [], harness := (true, "6aa082d79be53f62a42fafb1b0186cb71b870c61ea2e02b8f415eff4e9d1269e"), looks := false }, kinds := [], alts := [], laidByText := true, laidKinds := [.data, .pinned], laidTests := true, laidLooks := .later }
def KeyOrderCardSaid : Prop := Claim7.holds Tryd.pinned (.plain (OpenSpec.ofChange keyOrderSpec)) keyOrderCard

/-- THE TIED CARD OF 'padlockkeep.NameKept'. -/
def nameKeptCard : Claim7 := { stood := { row := nameKeptRow, standIns := [], harness := (true, "6aa082d79be53f62a42fafb1b0186cb71b870c61ea2e02b8f415eff4e9d1269e"), looks := false }, kinds := [], alts := [], laidByText := true, laidKinds := [.widerDeep, .widerDeep], laidTests := true, laidLooks := .later }
def NameKeptCardSaid : Prop := Claim7.holds Tryd.pinned (.plain (OpenSpec.ofChange nameKeptSpec)) nameKeptCard

/-- THE TIED CARD OF 'padlockkeep.OpsWhole'. -/
def opsWholeCard : Claim7 := { stood := { row := opsWholeRow, standIns := [], harness := (true, "6aa082d79be53f62a42fafb1b0186cb71b870c61ea2e02b8f415eff4e9d1269e"), looks := false }, kinds := [], alts := [], laidByText := true, laidKinds := [.widerDeep, .widerDeep], laidTests := true, laidLooks := .later }
def OpsWholeCardSaid : Prop := Claim7.holds Tryd.pinned (.plain (OpenSpec.ofChange opsWholeSpec)) opsWholeCard

/-- THE TIED CARD OF 'padlockkeep.RowNull'. -/
def rowNullCard : Claim7 := { stood := { row := rowNullRow, standIns := [], harness := (true, "6aa082d79be53f62a42fafb1b0186cb71b870c61ea2e02b8f415eff4e9d1269e"), looks := false }, kinds := [], alts := [], laidByText := true, laidKinds := [.widerDeep, .widerDeep, .data], laidTests := true, laidLooks := .later }
def RowNullCardSaid : Prop := Claim7.holds Tryd.pinned (.plain (OpenSpec.ofChange rowNullSpec)) rowNullCard

/-- THE TIED CARD OF 'padlockkeep.ColsBad'. -/
def colsBadCard : Claim7 := { stood := { row := colsBadRow, standIns := [], harness := (true, "6aa082d79be53f62a42fafb1b0186cb71b870c61ea2e02b8f415eff4e9d1269e"), looks := false }, kinds := [], alts := [], laidByText := true, laidKinds := [.widerDeep, .widerDeep, .data], laidTests := true, laidLooks := .later }
def ColsBadCardSaid : Prop := Claim7.holds Tryd.pinned (.plain (OpenSpec.ofChange colsBadSpec)) colsBadCard

/-- THE SECOND FORM's CARD OF 'padlockkeep.KeyParts'. -/
def keyPartsUptoCard : Claim7 := { stood := { row := keyPartsUptoRow, standIns := [], harness := (true, "6aa082d79be53f62a42fafb1b0186cb71b870c61ea2e02b8f415eff4e9d1269e"), looks := false }, kinds := [], alts := [], laidByText := true, laidKinds := [.data, .pinned], laidTests := true, laidLooks := .later }
def KeyPartsUptoCardSaid : Prop := Claim7.holds Tryd.pinned (.plain (OpenSpec.upto keyPartsSpec)) keyPartsUptoCard

/-- THE SECOND FORM's CARD OF 'padlockkeep.KeyLong'. -/
def keyLongUptoCard : Claim7 := { stood := { row := keyLongUptoRow, standIns := [], harness := (true, "6aa082d79be53f62a42fafb1b0186cb71b870c61ea2e02b8f415eff4e9d1269e"), looks := false }, kinds := [], alts := [], laidByText := true, laidKinds := [.data, .pinned], laidTests := true, laidLooks := .later }
def KeyLongUptoCardSaid : Prop := Claim7.holds Tryd.pinned (.plain (OpenSpec.upto keyLongSpec)) keyLongUptoCard

/-- THE SECOND FORM's CARD OF 'padlockkeep.KeyBack'. -/
def keyBackUptoCard : Claim7 := { stood := { row := keyBackUptoRow, standIns := [], harness := (true, "6aa082d79be53f62a42fafb1b0186cb71b870c61ea2e02b8f415eff4e9d1269e"), looks := false }, kinds := [], alts := [], laidByText := true, laidKinds := [.data, .pinned], laidTests := true, laidLooks := .later }
def KeyBackUptoCardSaid : Prop := Claim7.holds Tryd.pinned (.plain (OpenSpec.upto keyBackSpec)) keyBackUptoCard

/-- THE SECOND FORM's CARD OF 'padlockkeep.KeyFixed'. -/
def keyFixedUptoCard : Claim7 := { stood := { row := keyFixedUptoRow, standIns := [], harness := (true, "6aa082d79be53f62a42fafb1b0186cb71b870c61ea2e02b8f415eff4e9d1269e"), looks := false }, kinds := [], alts := [], laidByText := true, laidKinds := [.data, .pinned], laidTests := true, laidLooks := .later }
def KeyFixedUptoCardSaid : Prop := Claim7.holds Tryd.pinned (.plain (OpenSpec.upto keyFixedSpec)) keyFixedUptoCard

/-- THE SECOND FORM's CARD OF 'padlockkeep.KeyTorn'. -/
def keyTornUptoCard : Claim7 := { stood := { row := keyTornUptoRow, standIns := [], harness := (true, "6aa082d79be53f62a42fafb1b0186cb71b870c61ea2e02b8f415eff4e9d1269e"), looks := false }, kinds := [], alts := [], laidByText := true, laidKinds := [.data, .pinned], laidTests := true, laidLooks := .later }
def KeyTornUptoCardSaid : Prop := Claim7.holds Tryd.pinned (.plain (OpenSpec.upto keyTornSpec)) keyTornUptoCard

/-- THE SECOND FORM's CARD OF 'padlockkeep.KeyOrder'. -/
def keyOrderUptoCard : Claim7 := { stood := { row := keyOrderUptoRow, standIns := [], harness := (true, "6aa082d79be53f62a42fafb1b0186cb71b870c61ea2e02b8f415eff4e9d1269e"), looks := false }, kinds := [], alts := [], laidByText := true, laidKinds := [.data, .pinned], laidTests := true, laidLooks := .later }
def KeyOrderUptoCardSaid : Prop := Claim7.holds Tryd.pinned (.plain (OpenSpec.upto keyOrderSpec)) keyOrderUptoCard

/-- THE SECOND FORM's CARD OF 'padlockkeep.NameKept'. -/
def nameKeptUptoCard : Claim7 := { stood := { row := nameKeptUptoRow, standIns := [], harness := (true, "6aa082d79be53f62a42fafb1b0186cb71b870c61ea2e02b8f415eff4e9d1269e"), looks := false }, kinds := [], alts := [], laidByText := true, laidKinds := [.widerDeep, .widerDeep], laidTests := true, laidLooks := .later }
def NameKeptUptoCardSaid : Prop := Claim7.holds Tryd.pinned (.plain (OpenSpec.upto nameKeptSpec)) nameKeptUptoCard

/-- THE SECOND FORM's CARD OF 'padlockkeep.OpsWhole'. -/
def opsWholeUptoCard : Claim7 := { stood := { row := opsWholeUptoRow, standIns := [], harness := (true, "6aa082d79be53f62a42fafb1b0186cb71b870c61ea2e02b8f415eff4e9d1269e"), looks := false }, kinds := [], alts := [], laidByText := true, laidKinds := [.widerDeep, .widerDeep], laidTests := true, laidLooks := .later }
def OpsWholeUptoCardSaid : Prop := Claim7.holds Tryd.pinned (.plain (OpenSpec.upto opsWholeSpec)) opsWholeUptoCard

/-- THE SECOND FORM's CARD OF 'padlockkeep.RowNull'. -/
def rowNullUptoCard : Claim7 := { stood := { row := rowNullUptoRow, standIns := [], harness := (true, "6aa082d79be53f62a42fafb1b0186cb71b870c61ea2e02b8f415eff4e9d1269e"), looks := false }, kinds := [], alts := [], laidByText := true, laidKinds := [.widerDeep, .widerDeep, .data], laidTests := true, laidLooks := .later }
def RowNullUptoCardSaid : Prop := Claim7.holds Tryd.pinned (.plain (OpenSpec.upto rowNullSpec)) rowNullUptoCard

/-- THE SECOND FORM's CARD OF 'padlockkeep.ColsBad'. -/
def colsBadUptoCard : Claim7 := { stood := { row := colsBadUptoRow, standIns := [], harness := (true, "6aa082d79be53f62a42fafb1b0186cb71b870c61ea2e02b8f415eff4e9d1269e"), looks := false }, kinds := [], alts := [], laidByText := true, laidKinds := [.widerDeep, .widerDeep, .data], laidTests := true, laidLooks := .later }
def ColsBadUptoCardSaid : Prop := Claim7.holds Tryd.pinned (.plain (OpenSpec.upto colsBadSpec)) colsBadUptoCard
end Rows
end Go.Proofs.YtoemmoeedhllfaaDoor
