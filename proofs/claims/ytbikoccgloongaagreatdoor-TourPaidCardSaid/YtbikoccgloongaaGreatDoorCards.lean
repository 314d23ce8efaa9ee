/-
  DERIVED. GIVEN WITH THE SEED: THE CARDS: each row of YtbikoccgloongaaGreatDoorRows.lean that lists a variable, with what it lists TIED to the program's text (the seventh form; the later family's looks); each row that meets fmt, with fmt's text TOLD by the authors' own Lean function (tested against real Go, not proved from fmt's source: count such statements apart). THE CARD IS WHAT COUNTS. Prove the row's statement (the work); the ties are given (YtbikoccgloongaaGreatDoorTie.lean); close each card by the builder's one call (the guide's Derived/Test/ToyasCard.lean, 'card_holds'). Laid BY PROGRAM, IN A SANDBOX (cutbox-door.mjs). By AI agents, Wed Nov 11 2026. No macro, syntax, notation, axiom, sorry.
-/
import Derived.Test.YtbikoccgloongaaGreatDoorRows
import GoSem.ClaimSeven
namespace Go.Proofs.YtbikoccgloongaaGreatDoor
namespace Rows

/-- THE TIED CARD OF 'nosalelaw09.TourParts'. -/
def tourPartsCard : Claim7 := { stood := { row := tourPartsRow, standIns := [], harness := (true, "ac9fdd1fc5f821b77b276c0fff7a2f3d1230d6dcdc2a1bef0a606c6a019436c0"), looks := false }, kinds := [], alts := [], goes := true, laidByText := true, laidKinds := [.funcs, .funcs], laidTests := true, laidLooks := .later }
def TourPartsCardSaid : Prop := Claim7.holds Tryz.pinned (.plain (OpenSpec.ofChange tourPartsSpec)) tourPartsCard

/-- THE TIED CARD OF 'nosalelaw09.TourPaid'. -/
def tourPaidCard : Claim7 := { stood := { row := tourPaidRow, standIns := [], harness := (true, "ac9fdd1fc5f821b77b276c0fff7a2f3d1230d6dcdc2a1bef0a606c6a019436c0"), looks := false }, kinds := [], alts := [], goes := true, laidByText := true, laidKinds := [.funcs, .funcs], laidTests := true, laidLooks := .later }
def TourPaidCardSaid : Prop := Claim7.holds Tryz.pinned (.plain (OpenSpec.ofChange tourPaidSpec)) tourPaidCard

/-- THE SECOND FORM's CARD OF 'nosalelaw09.TourParts'. -/
def tourPartsUptoCard : Claim7 := { stood := { row := tourPartsUptoRow, standIns := [], harness := (true, "ac9fdd1fc5f821b77b276c0fff7a2f3d1230d6dcdc2a1bef0a606c6a019436c0"), looks := false }, kinds := [], alts := [], goes := true, laidByText := true, laidKinds := [.funcs, .funcs], laidTests := true, laidLooks := .later }
def TourPartsUptoCardSaid : Prop := Claim7.holds Tryz.pinned (.plain (OpenSpec.upto tourPartsSpec)) tourPartsUptoCard

/-- THE SECOND FORM's CARD OF 'nosalelaw09.TourPaid'. -/
def tourPaidUptoCard : Claim7 := { stood := { row := tourPaidUptoRow, standIns := [], harness := (true, "ac9fdd1fc5f821b77b276c0fff7a2f3d1230d6dcdc2a1bef0a606c6a019436c0"), looks := false }, kinds := [], alts := [], goes := true, laidByText := true, laidKinds := [.funcs, .funcs], laidTests := true, laidLooks := .later }
def TourPaidUptoCardSaid : Prop := Claim7.holds Tryz.pinned (.plain (OpenSpec.upto tourPaidSpec)) tourPaidUptoCard
end Rows
end Go.Proofs.YtbikoccgloongaaGreatDoor
