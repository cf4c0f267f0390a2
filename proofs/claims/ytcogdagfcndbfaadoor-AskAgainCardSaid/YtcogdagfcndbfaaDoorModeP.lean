/-
  Modes of locks, plainly: the two tables.
-/
import Derived.Test.YtcogdagfcndbfaaDoorRows
namespace Go.Proofs.YtcogdagfcndbfaaDoor.Lk
set_option linter.unusedVariables false

def fitsL : List (List Bool) := [[false, false, false, false, false, false], [false, true, true, true, true, false], [false, true, true, false, false, false], [false, true, false, true, false, false], [false, true, false, false, false, false], [false, false, false, false, false, false]]
def joinsL : List (List Int) := [[0, 0, 0, 0, 0, 0], [0, 1, 2, 3, 4, 5], [0, 2, 2, 4, 4, 5], [0, 3, 4, 3, 4, 5], [0, 4, 4, 4, 4, 5], [0, 5, 5, 5, 5, 5]]
def fitsT (a b : Nat) : Bool := (fitsL.getD a []).getD b false
def joinsT (a b : Nat) : Int := (joinsL.getD a []).getD b 0
def fitsF (a b : Int) : Bool := fitsT a.toNat b.toNat
def joinsF (a b : Int) : Int := joinsT a.toNat b.toNat
def modeB (m : Int) : Bool := decide (1 ≤ m) && decide (m ≤ 5)
theorem modeB_bd {m : Int} (h : modeB m = true) : 1 ≤ m ∧ m ≤ 5 := by simpa [modeB] using h

end Go.Proofs.YtcogdagfcndbfaaDoor.Lk
