/-
  DERIVED. GIVEN WITH THE SEED: THE PROGRAM's TIES (one call each: nine closed facts by the kernel) AND EACH ROW's TIE, after the 31st guide's Derived/Test/Toyas{Tie, Card}.lean. No idea stands in it: it is a product of the set-up. Laid BY PROGRAM, IN A SANDBOX (cutbox-door.mjs). By AI agents, Wed Nov 11 2026. No macro, syntax, notation, axiom, sorry.
-/
import Derived.Test.YtbikoccgloongaaGreatDoorRows
import Derived.LaidByTextLater
import Derived.SevenTiedAt
import Derived.LaidSub
import Derived.LaidOnce
namespace Go.Proofs.YtbikoccgloongaaGreatDoor
open Go
set_option maxRecDepth 100000
theorem seatTie1 : Tryz.prog.laidByTextLater [("nosale/build.checks", Rows.laid_nosale_build_checks), ("nosale/change.checks", Rows.laid_nosale_change_checks), ("nosale/tour.checks", Rows.laid_nosale_tour_checks)] [.funcs, .funcs, .funcs] true :=
  Program.laidByTextLater_by_one 24 8 2 (by kernel_rfl) (by kernel_rfl) (by kernel_rfl) (by kernel_rfl) (by kernel_rfl) (by kernel_rfl) (fun _ _ => by kernel_rfl)
theorem noOwnUnsafe : Tryz.pinned.checked.prog.headLifts.contains "ownunsafe" = false := by kernel_rfl
theorem tie : Tryz.prog.laidByTextLater [("nosale/build.checks", Rows.laid_nosale_build_checks), ("nosale/tour.checks", Rows.laid_nosale_tour_checks)] [.funcs, .funcs] true :=
  Program.laidByTextLater.sub seatTie1 ["nosale/build.checks", "nosale/tour.checks"] (by kernel_rfl) (by kernel_rfl)
theorem tourParts_row_tie : Rows.tourPartsRow.laidByTextAt .later Tryz.pinned [.funcs, .funcs] true :=
  OpenClaim.laidByTextAt_later rfl rfl tie noOwnUnsafe
theorem tie2 : Tryz.prog.laidByTextLater [("nosale/change.checks", Rows.laid_nosale_change_checks), ("nosale/tour.checks", Rows.laid_nosale_tour_checks)] [.funcs, .funcs] true :=
  Program.laidByTextLater.sub seatTie1 ["nosale/change.checks", "nosale/tour.checks"] (by kernel_rfl) (by kernel_rfl)
theorem tourPaid_row_tie : Rows.tourPaidRow.laidByTextAt .later Tryz.pinned [.funcs, .funcs] true :=
  OpenClaim.laidByTextAt_later rfl rfl tie2 noOwnUnsafe
theorem tourPartsUpto_row_tie : Rows.tourPartsUptoRow.laidByTextAt .later Tryz.pinned [.funcs, .funcs] true :=
  OpenClaim.laidByTextAt_later rfl rfl tie noOwnUnsafe
theorem tourPaidUpto_row_tie : Rows.tourPaidUptoRow.laidByTextAt .later Tryz.pinned [.funcs, .funcs] true :=
  OpenClaim.laidByTextAt_later rfl rfl tie2 noOwnUnsafe
end Go.Proofs.YtbikoccgloongaaGreatDoor
