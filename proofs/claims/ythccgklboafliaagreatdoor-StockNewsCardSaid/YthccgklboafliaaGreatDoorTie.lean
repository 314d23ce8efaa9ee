/-
  DERIVED. GIVEN WITH THE SEED: THE PROGRAM's TIES (one call each: nine closed facts by the kernel) AND EACH ROW's TIE, after the 31st guide's Derived/Test/Toyas{Tie, Card}.lean. No idea stands in it: it is a product of the set-up. Laid BY PROGRAM, IN A SANDBOX (cutbox-door.mjs). By AI agents, Wed Nov 11 2026. No macro, syntax, notation, axiom, sorry.
-/
import Derived.Test.YthccgklboafliaaGreatDoorRows
import Derived.LaidByTextLater
import Derived.SevenTiedAt
import Derived.LaidSub
import Derived.LaidOnce
namespace Go.Proofs.YthccgklboafliaaGreatDoor
open Go
set_option maxRecDepth 100000
theorem seatTie1 : Tryz.prog.laidByTextLater [("nosale/stock.moveKinds", Rows.laid_nosale_stock_moveKinds), ("nosale/stock.checks", Rows.laid_nosale_stock_checks)] [.funcsDeep, .funcs] true :=
  Program.laidByTextLater_by_one 24 8 2 (by kernel_rfl) (by kernel_rfl) (by kernel_rfl) (by kernel_rfl) (by kernel_rfl) (by kernel_rfl) (fun _ _ => by kernel_rfl)
theorem noOwnUnsafe : Tryz.pinned.checked.prog.headLifts.contains "ownunsafe" = false := by kernel_rfl
theorem tie : Tryz.prog.laidByTextLater [("nosale/stock.moveKinds", Rows.laid_nosale_stock_moveKinds), ("nosale/stock.checks", Rows.laid_nosale_stock_checks)] [.funcsDeep, .funcs] true :=
  Program.laidByTextLater.sub seatTie1 ["nosale/stock.moveKinds", "nosale/stock.checks"] (by kernel_rfl) (by kernel_rfl)
theorem stockPlans_row_tie : Rows.stockPlansRow.laidByTextAt .later Tryz.pinned [.funcsDeep, .funcs] true :=
  OpenClaim.laidByTextAt_later rfl rfl tie noOwnUnsafe
theorem stockMoves_row_tie : Rows.stockMovesRow.laidByTextAt .later Tryz.pinned [.funcsDeep, .funcs] true :=
  OpenClaim.laidByTextAt_later rfl rfl tie noOwnUnsafe
theorem stockReal_row_tie : Rows.stockRealRow.laidByTextAt .later Tryz.pinned [.funcsDeep, .funcs] true :=
  OpenClaim.laidByTextAt_later rfl rfl tie noOwnUnsafe
theorem stockReached_row_tie : Rows.stockReachedRow.laidByTextAt .later Tryz.pinned [.funcsDeep, .funcs] true :=
  OpenClaim.laidByTextAt_later rfl rfl tie noOwnUnsafe
theorem stockNoted_row_tie : Rows.stockNotedRow.laidByTextAt .later Tryz.pinned [.funcsDeep, .funcs] true :=
  OpenClaim.laidByTextAt_later rfl rfl tie noOwnUnsafe
theorem stockAsked_row_tie : Rows.stockAskedRow.laidByTextAt .later Tryz.pinned [.funcsDeep, .funcs] true :=
  OpenClaim.laidByTextAt_later rfl rfl tie noOwnUnsafe
theorem stockEntered_row_tie : Rows.stockEnteredRow.laidByTextAt .later Tryz.pinned [.funcsDeep, .funcs] true :=
  OpenClaim.laidByTextAt_later rfl rfl tie noOwnUnsafe
theorem stockTold_row_tie : Rows.stockToldRow.laidByTextAt .later Tryz.pinned [.funcsDeep, .funcs] true :=
  OpenClaim.laidByTextAt_later rfl rfl tie noOwnUnsafe
theorem stockNews_row_tie : Rows.stockNewsRow.laidByTextAt .later Tryz.pinned [.funcsDeep, .funcs] true :=
  OpenClaim.laidByTextAt_later rfl rfl tie noOwnUnsafe
theorem stockPlansUpto_row_tie : Rows.stockPlansUptoRow.laidByTextAt .later Tryz.pinned [.funcsDeep, .funcs] true :=
  OpenClaim.laidByTextAt_later rfl rfl tie noOwnUnsafe
theorem stockMovesUpto_row_tie : Rows.stockMovesUptoRow.laidByTextAt .later Tryz.pinned [.funcsDeep, .funcs] true :=
  OpenClaim.laidByTextAt_later rfl rfl tie noOwnUnsafe
theorem stockRealUpto_row_tie : Rows.stockRealUptoRow.laidByTextAt .later Tryz.pinned [.funcsDeep, .funcs] true :=
  OpenClaim.laidByTextAt_later rfl rfl tie noOwnUnsafe
theorem stockReachedUpto_row_tie : Rows.stockReachedUptoRow.laidByTextAt .later Tryz.pinned [.funcsDeep, .funcs] true :=
  OpenClaim.laidByTextAt_later rfl rfl tie noOwnUnsafe
theorem stockNotedUpto_row_tie : Rows.stockNotedUptoRow.laidByTextAt .later Tryz.pinned [.funcsDeep, .funcs] true :=
  OpenClaim.laidByTextAt_later rfl rfl tie noOwnUnsafe
theorem stockAskedUpto_row_tie : Rows.stockAskedUptoRow.laidByTextAt .later Tryz.pinned [.funcsDeep, .funcs] true :=
  OpenClaim.laidByTextAt_later rfl rfl tie noOwnUnsafe
theorem stockEnteredUpto_row_tie : Rows.stockEnteredUptoRow.laidByTextAt .later Tryz.pinned [.funcsDeep, .funcs] true :=
  OpenClaim.laidByTextAt_later rfl rfl tie noOwnUnsafe
theorem stockToldUpto_row_tie : Rows.stockToldUptoRow.laidByTextAt .later Tryz.pinned [.funcsDeep, .funcs] true :=
  OpenClaim.laidByTextAt_later rfl rfl tie noOwnUnsafe
theorem stockNewsUpto_row_tie : Rows.stockNewsUptoRow.laidByTextAt .later Tryz.pinned [.funcsDeep, .funcs] true :=
  OpenClaim.laidByTextAt_later rfl rfl tie noOwnUnsafe
end Go.Proofs.YthccgklboafliaaGreatDoor
