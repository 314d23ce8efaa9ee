/-
  DERIVED. GIVEN WITH THE SEED: THE PROGRAM's TIES (one call each: nine closed facts by the kernel) AND EACH ROW's TIE, after the 31st guide's Derived/Test/Toyas{Tie, Card}.lean. No idea stands in it: it is a product of the set-up. Laid BY PROGRAM, IN A SANDBOX (cutbox-door.mjs). By AI agents, Wed Nov 11 2026. No macro, syntax, notation, axiom, sorry.
-/
import Derived.Test.YtmonefdapnifhaaGreatDoorRows
import Derived.LaidByTextLater
import Derived.SevenTiedAt
import Derived.LaidSub
import Derived.LaidOnce
namespace Go.Proofs.YtmonefdapnifhaaGreatDoor
open Go
set_option maxRecDepth 100000
theorem seatTie1 : Tryz.prog.laidByTextLater [("nosale/build.checks", Rows.laid_nosale_build_checks), ("nosale/stock.moveKinds", Rows.laid_nosale_stock_moveKinds), ("nosale/stock.checks", Rows.laid_nosale_stock_checks)] [.funcs, .funcsDeep, .funcs] true :=
  Program.laidByTextLater_by_one 29 8 2 (by kernel_rfl) (by kernel_rfl) (by kernel_rfl) (by kernel_rfl) (by kernel_rfl) (by kernel_rfl) (fun _ _ => by kernel_rfl)
theorem noOwnUnsafe : Tryz.pinned.checked.prog.headLifts.contains "ownunsafe" = false := by kernel_rfl
theorem tie : Tryz.prog.laidByTextLater [("nosale/build.checks", Rows.laid_nosale_build_checks), ("nosale/stock.moveKinds", Rows.laid_nosale_stock_moveKinds), ("nosale/stock.checks", Rows.laid_nosale_stock_checks)] [.funcs, .funcsDeep, .funcs] true :=
  Program.laidByTextLater.sub seatTie1 ["nosale/build.checks", "nosale/stock.moveKinds", "nosale/stock.checks"] (by kernel_rfl) (by kernel_rfl)
theorem stockParts_row_tie : Rows.stockPartsRow.laidByTextAt .later Tryz.pinned [.funcs, .funcsDeep, .funcs] true :=
  OpenClaim.laidByTextAt_later rfl rfl tie noOwnUnsafe
theorem stockPartsUpto_row_tie : Rows.stockPartsUptoRow.laidByTextAt .later Tryz.pinned [.funcs, .funcsDeep, .funcs] true :=
  OpenClaim.laidByTextAt_later rfl rfl tie noOwnUnsafe
end Go.Proofs.YtmonefdapnifhaaGreatDoor
