/-
  DERIVED. GIVEN WITH THE SEED: THE CARDS: each row of YtolmhecgdjgdjaaGreatDoorRows.lean that lists a variable, with what it lists TIED to the program's text (the seventh form; the later family's looks); each row that meets fmt, with fmt's text TOLD by the authors' own Lean function (tested against real Go, not proved from fmt's source: count such statements apart). THE CARD IS WHAT COUNTS. Prove the row's statement (the work); the ties are given (YtolmhecgdjgdjaaGreatDoorTie.lean); close each card by the builder's one call (the guide's Derived/Test/ToyasCard.lean, 'card_holds'). Laid BY PROGRAM, IN A SANDBOX (cutbox-door.mjs). By AI agents, Wed Nov 11 2026. No macro, syntax, notation, axiom, sorry.
-/
import Derived.Test.YtolmhecgdjgdjaaGreatDoorRows
import GoSem.ClaimSeven
namespace Go.Proofs.YtolmhecgdjgdjaaGreatDoor
namespace Rows

/-- THE TIED CARD OF 'nosalelaw09.TourFar'. -/
def tourFarCard : Claim7 := { stood := { row := tourFarRow, standIns := [], harness := (true, "fadb5f2c76f57f2b4dcec62321bc75cd54904853a79f0ea8de21afe0aabae1fe"), looks := false }, kinds := [], alts := [], goes := true, laidByText := true, laidKinds := [.funcs], laidTests := true, laidLooks := .later }
def TourFarCardSaid : Prop := Claim7.holds Tryz.pinned (.plain (OpenSpec.ofChange tourFarSpec)) tourFarCard

/-- THE TIED CARD OF 'nosalelaw09.TourSooner'. -/
def tourSoonerCard : Claim7 := { stood := { row := tourSoonerRow, standIns := [], harness := (true, "fadb5f2c76f57f2b4dcec62321bc75cd54904853a79f0ea8de21afe0aabae1fe"), looks := false }, kinds := [], alts := [], goes := true, laidByText := true, laidKinds := [.funcs], laidTests := true, laidLooks := .later }
def TourSoonerCardSaid : Prop := Claim7.holds Tryz.pinned (.plain (OpenSpec.ofChange tourSoonerSpec)) tourSoonerCard

/-- THE TIED CARD OF 'nosalelaw09.TourBest'. -/
def tourBestCard : Claim7 := { stood := { row := tourBestRow, standIns := [], harness := (true, "fadb5f2c76f57f2b4dcec62321bc75cd54904853a79f0ea8de21afe0aabae1fe"), looks := false }, kinds := [], alts := [], goes := true, laidByText := true, laidKinds := [.funcs], laidTests := true, laidLooks := .later }
def TourBestCardSaid : Prop := Claim7.holds Tryz.pinned (.plain (OpenSpec.ofChange tourBestSpec)) tourBestCard

/-- THE TIED CARD OF 'nosalelaw09.TourClashes'. -/
def tourClashesCard : Claim7 := { stood := { row := tourClashesRow, standIns := [], harness := (true, "fadb5f2c76f57f2b4dcec62321bc75cd54904853a79f0ea8de21afe0aabae1fe"), looks := false }, kinds := [], alts := [], goes := true, laidByText := true, laidKinds := [.funcs], laidTests := true, laidLooks := .later }
def TourClashesCardSaid : Prop := Claim7.holds Tryz.pinned (.plain (OpenSpec.ofChange tourClashesSpec)) tourClashesCard

/-- THE TIED CARD OF 'nosalelaw09.TourAsked'. -/
def tourAskedCard : Claim7 := { stood := { row := tourAskedRow, standIns := [], harness := (true, "fadb5f2c76f57f2b4dcec62321bc75cd54904853a79f0ea8de21afe0aabae1fe"), looks := false }, kinds := [], alts := [], goes := true, laidByText := true, laidKinds := [.funcs], laidTests := true, laidLooks := .later }
def TourAskedCardSaid : Prop := Claim7.holds Tryz.pinned (.plain (OpenSpec.ofChange tourAskedSpec)) tourAskedCard

/-- THE TIED CARD OF 'nosalelaw09.TourMeasured'. -/
def tourMeasuredCard : Claim7 := { stood := { row := tourMeasuredRow, standIns := [], harness := (true, "fadb5f2c76f57f2b4dcec62321bc75cd54904853a79f0ea8de21afe0aabae1fe"), looks := false }, kinds := [], alts := [], goes := true, laidByText := true, laidKinds := [.funcs], laidTests := true, laidLooks := .later }
def TourMeasuredCardSaid : Prop := Claim7.holds Tryz.pinned (.plain (OpenSpec.ofChange tourMeasuredSpec)) tourMeasuredCard

/-- THE SECOND FORM's CARD OF 'nosalelaw09.TourFar'. -/
def tourFarUptoCard : Claim7 := { stood := { row := tourFarUptoRow, standIns := [], harness := (true, "fadb5f2c76f57f2b4dcec62321bc75cd54904853a79f0ea8de21afe0aabae1fe"), looks := false }, kinds := [], alts := [], goes := true, laidByText := true, laidKinds := [.funcs], laidTests := true, laidLooks := .later }
def TourFarUptoCardSaid : Prop := Claim7.holds Tryz.pinned (.plain (OpenSpec.upto tourFarSpec)) tourFarUptoCard

/-- THE SECOND FORM's CARD OF 'nosalelaw09.TourSooner'. -/
def tourSoonerUptoCard : Claim7 := { stood := { row := tourSoonerUptoRow, standIns := [], harness := (true, "fadb5f2c76f57f2b4dcec62321bc75cd54904853a79f0ea8de21afe0aabae1fe"), looks := false }, kinds := [], alts := [], goes := true, laidByText := true, laidKinds := [.funcs], laidTests := true, laidLooks := .later }
def TourSoonerUptoCardSaid : Prop := Claim7.holds Tryz.pinned (.plain (OpenSpec.upto tourSoonerSpec)) tourSoonerUptoCard

/-- THE SECOND FORM's CARD OF 'nosalelaw09.TourBest'. -/
def tourBestUptoCard : Claim7 := { stood := { row := tourBestUptoRow, standIns := [], harness := (true, "fadb5f2c76f57f2b4dcec62321bc75cd54904853a79f0ea8de21afe0aabae1fe"), looks := false }, kinds := [], alts := [], goes := true, laidByText := true, laidKinds := [.funcs], laidTests := true, laidLooks := .later }
def TourBestUptoCardSaid : Prop := Claim7.holds Tryz.pinned (.plain (OpenSpec.upto tourBestSpec)) tourBestUptoCard

/-- THE SECOND FORM's CARD OF 'nosalelaw09.TourClashes'. -/
def tourClashesUptoCard : Claim7 := { stood := { row := tourClashesUptoRow, standIns := [], harness := (true, "fadb5f2c76f57f2b4dcec62321bc75cd54904853a79f0ea8de21afe0aabae1fe"), looks := false }, kinds := [], alts := [], goes := true, laidByText := true, laidKinds := [.funcs], laidTests := true, laidLooks := .later }
def TourClashesUptoCardSaid : Prop := Claim7.holds Tryz.pinned (.plain (OpenSpec.upto tourClashesSpec)) tourClashesUptoCard

/-- THE SECOND FORM's CARD OF 'nosalelaw09.TourAsked'. -/
def tourAskedUptoCard : Claim7 := { stood := { row := tourAskedUptoRow, standIns := [], harness := (true, "fadb5f2c76f57f2b4dcec62321bc75cd54904853a79f0ea8de21afe0aabae1fe"), looks := false }, kinds := [], alts := [], goes := true, laidByText := true, laidKinds := [.funcs], laidTests := true, laidLooks := .later }
def TourAskedUptoCardSaid : Prop := Claim7.holds Tryz.pinned (.plain (OpenSpec.upto tourAskedSpec)) tourAskedUptoCard

/-- THE SECOND FORM's CARD OF 'nosalelaw09.TourMeasured'. -/
def tourMeasuredUptoCard : Claim7 := { stood := { row := tourMeasuredUptoRow, standIns := [], harness := (true, "fadb5f2c76f57f2b4dcec62321bc75cd54904853a79f0ea8de21afe0aabae1fe"), looks := false }, kinds := [], alts := [], goes := true, laidByText := true, laidKinds := [.funcs], laidTests := true, laidLooks := .later }
def TourMeasuredUptoCardSaid : Prop := Claim7.holds Tryz.pinned (.plain (OpenSpec.upto tourMeasuredSpec)) tourMeasuredUptoCard
end Rows
end Go.Proofs.YtolmhecgdjgdjaaGreatDoor
