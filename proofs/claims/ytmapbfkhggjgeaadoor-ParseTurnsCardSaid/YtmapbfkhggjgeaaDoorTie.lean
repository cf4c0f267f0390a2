/-
  DERIVED. GIVEN WITH THE SEED: THE PROGRAM's TIES (one call each: nine closed facts by the kernel) AND EACH ROW's TIE, after the 31st guide's Derived/Test/Toyas{Tie, Card}.lean. No idea stands in it: it is a product of the set-up. Laid BY PROGRAM, IN A SANDBOX (cutbox-door.mjs). By AI agents, Wed Nov 11 2026. No macro, syntax, notation, axiom, sorry.
-/
import Derived.Test.YtmapbfkhggjgeaaDoorRows
import Derived.LaidByTextLater
import Derived.SevenTiedAt
import Derived.LaidSub
import Derived.LaidOnce
namespace Go.Proofs.YtmapbfkhggjgeaaDoor
open Go
set_option maxRecDepth 100000
theorem seatTie1 : Tryd.prog.laidByTextLater [("padlock/lex.marks", Rows.laid_padlock_lex_marks), ("padlock/parse.words", Rows.laid_padlock_parse_words), ("padlock/parse.types", Rows.laid_padlock_parse_types), ("padlock/parse.marks", Rows.laid_padlock_parse_marks)] [.widerDeep, .widerDeep, .data, .data] true :=
  Program.laidByTextLater_by_one 35 8 31 (by kernel_rfl) (by kernel_rfl) (by kernel_rfl) (by kernel_rfl) (by kernel_rfl) (by kernel_rfl) (fun _ _ => by kernel_rfl)
theorem noOwnUnsafe : Tryd.pinned.checked.prog.headLifts.contains "ownunsafe" = false := by kernel_rfl
theorem tie : Tryd.prog.laidByTextLater [("padlock/lex.marks", Rows.laid_padlock_lex_marks), ("padlock/parse.words", Rows.laid_padlock_parse_words), ("padlock/parse.types", Rows.laid_padlock_parse_types), ("padlock/parse.marks", Rows.laid_padlock_parse_marks)] [.widerDeep, .widerDeep, .data, .data] true :=
  Program.laidByTextLater.sub seatTie1 ["padlock/lex.marks", "padlock/parse.words", "padlock/parse.types", "padlock/parse.marks"] (by kernel_rfl) (by kernel_rfl)
theorem parseTurns_row_tie : Rows.parseTurnsRow.laidByTextAt .later Tryd.pinned [.widerDeep, .widerDeep, .data, .data] true :=
  OpenClaim.laidByTextAt_later rfl rfl tie noOwnUnsafe
theorem parseTurnsUpto_row_tie : Rows.parseTurnsUptoRow.laidByTextAt .later Tryd.pinned [.widerDeep, .widerDeep, .data, .data] true :=
  OpenClaim.laidByTextAt_later rfl rfl tie noOwnUnsafe
end Go.Proofs.YtmapbfkhggjgeaaDoor
