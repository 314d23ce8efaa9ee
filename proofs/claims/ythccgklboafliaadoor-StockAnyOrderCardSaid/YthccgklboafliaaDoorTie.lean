/-
  DERIVED. GIVEN WITH THE SEED: THE PROGRAM's TIES (one call each: nine closed facts by the kernel) AND EACH ROW's TIE, after the 31st guide's Derived/Test/Toyas{Tie, Card}.lean. No idea stands in it: it is a product of the set-up. Laid BY PROGRAM, IN A SANDBOX (cutbox-door.mjs). By AI agents, Wed Nov 11 2026. No macro, syntax, notation, axiom, sorry.
-/
import Derived.Test.YthccgklboafliaaDoorRows
import Derived.LaidByTextLater
import Derived.SevenTiedAt
import Derived.LaidSub
import Derived.LaidOnce
namespace Go.Proofs.YthccgklboafliaaDoor
open Go
set_option maxRecDepth 100000
theorem seatTie1 : Tryd.prog.laidByTextLater [("nosale/stock.moveKinds", Rows.laid_nosale_stock_moveKinds), ("nosale/stock.checks", Rows.laid_nosale_stock_checks)] [.funcsDeep, .funcs] true :=
  Program.laidByTextLater_by_one 24 8 2 (by kernel_rfl) (by kernel_rfl) (by kernel_rfl) (by kernel_rfl) (by kernel_rfl) (by kernel_rfl) (fun _ _ => by kernel_rfl)
theorem noOwnUnsafe : Tryd.pinned.checked.prog.headLifts.contains "ownunsafe" = false := by kernel_rfl
theorem tie : Tryd.prog.laidByTextLater [("nosale/stock.moveKinds", Rows.laid_nosale_stock_moveKinds), ("nosale/stock.checks", Rows.laid_nosale_stock_checks)] [.funcsDeep, .funcs] true :=
  Program.laidByTextLater.sub seatTie1 ["nosale/stock.moveKinds", "nosale/stock.checks"] (by kernel_rfl) (by kernel_rfl)
theorem stockConserved_row_tie : Rows.stockConservedRow.laidByTextAt .later Tryd.pinned [.funcsDeep, .funcs] true :=
  OpenClaim.laidByTextAt_later rfl rfl tie noOwnUnsafe
theorem stockAdds_row_tie : Rows.stockAddsRow.laidByTextAt .later Tryd.pinned [.funcsDeep, .funcs] true :=
  OpenClaim.laidByTextAt_later rfl rfl tie noOwnUnsafe
theorem stockBought_row_tie : Rows.stockBoughtRow.laidByTextAt .later Tryd.pinned [.funcsDeep, .funcs] true :=
  OpenClaim.laidByTextAt_later rfl rfl tie noOwnUnsafe
theorem stockLasting_row_tie : Rows.stockLastingRow.laidByTextAt .later Tryd.pinned [.funcsDeep, .funcs] true :=
  OpenClaim.laidByTextAt_later rfl rfl tie noOwnUnsafe
theorem stockBlamed_row_tie : Rows.stockBlamedRow.laidByTextAt .later Tryd.pinned [.funcsDeep, .funcs] true :=
  OpenClaim.laidByTextAt_later rfl rfl tie noOwnUnsafe
theorem stockClashes_row_tie : Rows.stockClashesRow.laidByTextAt .later Tryd.pinned [.funcsDeep, .funcs] true :=
  OpenClaim.laidByTextAt_later rfl rfl tie noOwnUnsafe
theorem stockAnyOrder_row_tie : Rows.stockAnyOrderRow.laidByTextAt .later Tryd.pinned [.funcsDeep, .funcs] true :=
  OpenClaim.laidByTextAt_later rfl rfl tie noOwnUnsafe
theorem stockConservedUpto_row_tie : Rows.stockConservedUptoRow.laidByTextAt .later Tryd.pinned [.funcsDeep, .funcs] true :=
  OpenClaim.laidByTextAt_later rfl rfl tie noOwnUnsafe
theorem stockAddsUpto_row_tie : Rows.stockAddsUptoRow.laidByTextAt .later Tryd.pinned [.funcsDeep, .funcs] true :=
  OpenClaim.laidByTextAt_later rfl rfl tie noOwnUnsafe
theorem stockBoughtUpto_row_tie : Rows.stockBoughtUptoRow.laidByTextAt .later Tryd.pinned [.funcsDeep, .funcs] true :=
  OpenClaim.laidByTextAt_later rfl rfl tie noOwnUnsafe
theorem stockLastingUpto_row_tie : Rows.stockLastingUptoRow.laidByTextAt .later Tryd.pinned [.funcsDeep, .funcs] true :=
  OpenClaim.laidByTextAt_later rfl rfl tie noOwnUnsafe
theorem stockBlamedUpto_row_tie : Rows.stockBlamedUptoRow.laidByTextAt .later Tryd.pinned [.funcsDeep, .funcs] true :=
  OpenClaim.laidByTextAt_later rfl rfl tie noOwnUnsafe
theorem stockClashesUpto_row_tie : Rows.stockClashesUptoRow.laidByTextAt .later Tryd.pinned [.funcsDeep, .funcs] true :=
  OpenClaim.laidByTextAt_later rfl rfl tie noOwnUnsafe
theorem stockAnyOrderUpto_row_tie : Rows.stockAnyOrderUptoRow.laidByTextAt .later Tryd.pinned [.funcsDeep, .funcs] true :=
  OpenClaim.laidByTextAt_later rfl rfl tie noOwnUnsafe
end Go.Proofs.YthccgklboafliaaDoor
