/-
  DERIVED. GIVEN WITH THE SEED: THE PROGRAM's TIES (one call each: nine closed facts by the kernel) AND EACH ROW's TIE, after the 31st guide's Derived/Test/Toyas{Tie, Card}.lean. No idea stands in it: it is a product of the set-up. Laid BY PROGRAM, IN A SANDBOX (cutbox-door.mjs). By AI agents, Wed Nov 11 2026. No macro, syntax, notation, axiom, sorry.
-/
import Derived.Test.YtiaeeahoipakcaaDoorRows
import Derived.LaidByTextLater
import Derived.SevenTiedAt
import Derived.LaidSub
import Derived.LaidOnce
namespace Go.Proofs.YtiaeeahoipakcaaDoor
open Go
set_option maxRecDepth 100000
theorem seatTie1 : Tryd.prog.laidByTextLater [("padlock/lock.fits", Rows.laid_padlock_lock_fits), ("padlock/lock.joins", Rows.laid_padlock_lock_joins)] [.data, .data] true :=
  Program.laidByTextLater_by_one 31 8 37 (by kernel_rfl) (by kernel_rfl) (by kernel_rfl) (by kernel_rfl) (by kernel_rfl) (by kernel_rfl) (fun _ _ => by kernel_rfl)
theorem noOwnUnsafe : Tryd.pinned.checked.prog.headLifts.contains "ownunsafe" = false := by kernel_rfl
theorem tie : Tryd.prog.laidByTextLater [("padlock/lock.fits", Rows.laid_padlock_lock_fits)] [.data] true :=
  Program.laidByTextLater.sub seatTie1 ["padlock/lock.fits"] (by kernel_rfl) (by kernel_rfl)
theorem modesEven_row_tie : Rows.modesEvenRow.laidByTextAt .later Tryd.pinned [.data] true :=
  OpenClaim.laidByTextAt_later rfl rfl tie noOwnUnsafe
theorem tie2 : Tryd.prog.laidByTextLater [("padlock/lock.fits", Rows.laid_padlock_lock_fits), ("padlock/lock.joins", Rows.laid_padlock_lock_joins)] [.data, .data] true :=
  Program.laidByTextLater.sub seatTie1 ["padlock/lock.fits", "padlock/lock.joins"] (by kernel_rfl) (by kernel_rfl)
theorem modesJoin_row_tie : Rows.modesJoinRow.laidByTextAt .later Tryd.pinned [.data, .data] true :=
  OpenClaim.laidByTextAt_later rfl rfl tie2 noOwnUnsafe
theorem modesEvenUpto_row_tie : Rows.modesEvenUptoRow.laidByTextAt .later Tryd.pinned [.data] true :=
  OpenClaim.laidByTextAt_later rfl rfl tie noOwnUnsafe
theorem modesJoinUpto_row_tie : Rows.modesJoinUptoRow.laidByTextAt .later Tryd.pinned [.data, .data] true :=
  OpenClaim.laidByTextAt_later rfl rfl tie2 noOwnUnsafe
end Go.Proofs.YtiaeeahoipakcaaDoor
