/-
  DERIVED. GIVEN WITH THE SEED: THE CARDS: each row of YtecpfaceomflkaaGreatDoorRows.lean that lists a variable, with what it lists TIED to the program's text (the seventh form; the later family's looks); each row that meets fmt, with fmt's text TOLD by the authors' own Lean function (tested against real Go, not proved from fmt's source: count such statements apart). THE CARD IS WHAT COUNTS. Prove the row's statement (the work); the ties are given (YtecpfaceomflkaaGreatDoorTie.lean); close each card by the builder's one call (the guide's Derived/Test/ToyasCard.lean, 'card_holds'). Laid BY PROGRAM, IN A SANDBOX (cutbox-door.mjs). By AI agents, Wed Nov 11 2026. No macro, syntax, notation, axiom, sorry.
-/
import Derived.Test.YtecpfaceomflkaaGreatDoorRows
import GoSem.ClaimSeven
namespace Go.Proofs.YtecpfaceomflkaaGreatDoor
namespace Rows

/-- THE TIED CARD OF 'nosalelaw09.TourReal'. -/
def tourRealCard : Claim7 := { stood := { row := tourRealRow, standIns := [], harness := (true, "a2931756a430119d1d9305412a0daeed5f23c3c58f042e9d6138c763aa3d9190"), looks := false }, kinds := [], alts := [], goes := true, laidByText := true, laidKinds := [.funcs], laidTests := true, laidLooks := .later }
def TourRealCardSaid : Prop := Claim7.holds Tryz.pinned (.plain (OpenSpec.ofChange tourRealSpec)) tourRealCard

/-- THE TIED CARD OF 'nosalelaw09.TourReached'. -/
def tourReachedCard : Claim7 := { stood := { row := tourReachedRow, standIns := [], harness := (true, "a2931756a430119d1d9305412a0daeed5f23c3c58f042e9d6138c763aa3d9190"), looks := false }, kinds := [], alts := [], goes := true, laidByText := true, laidKinds := [.funcs], laidTests := true, laidLooks := .later }
def TourReachedCardSaid : Prop := Claim7.holds Tryz.pinned (.plain (OpenSpec.ofChange tourReachedSpec)) tourReachedCard

/-- THE TIED CARD OF 'nosalelaw09.TourSwift'. -/
def tourSwiftCard : Claim7 := { stood := { row := tourSwiftRow, standIns := [], harness := (true, "a2931756a430119d1d9305412a0daeed5f23c3c58f042e9d6138c763aa3d9190"), looks := false }, kinds := [], alts := [], goes := true, laidByText := true, laidKinds := [.funcs], laidTests := true, laidLooks := .later }
def TourSwiftCardSaid : Prop := Claim7.holds Tryz.pinned (.plain (OpenSpec.ofChange tourSwiftSpec)) tourSwiftCard

/-- THE TIED CARD OF 'nosalelaw09.TourAnyOrder'. -/
def tourAnyOrderCard : Claim7 := { stood := { row := tourAnyOrderRow, standIns := [], harness := (true, "a2931756a430119d1d9305412a0daeed5f23c3c58f042e9d6138c763aa3d9190"), looks := false }, kinds := [], alts := [], goes := true, laidByText := true, laidKinds := [.funcs], laidTests := true, laidLooks := .later }
def TourAnyOrderCardSaid : Prop := Claim7.holds Tryz.pinned (.plain (OpenSpec.ofChange tourAnyOrderSpec)) tourAnyOrderCard

/-- THE SECOND FORM's CARD OF 'nosalelaw09.TourReal'. -/
def tourRealUptoCard : Claim7 := { stood := { row := tourRealUptoRow, standIns := [], harness := (true, "a2931756a430119d1d9305412a0daeed5f23c3c58f042e9d6138c763aa3d9190"), looks := false }, kinds := [], alts := [], goes := true, laidByText := true, laidKinds := [.funcs], laidTests := true, laidLooks := .later }
def TourRealUptoCardSaid : Prop := Claim7.holds Tryz.pinned (.plain (OpenSpec.upto tourRealSpec)) tourRealUptoCard

/-- THE SECOND FORM's CARD OF 'nosalelaw09.TourReached'. -/
def tourReachedUptoCard : Claim7 := { stood := { row := tourReachedUptoRow, standIns := [], harness := (true, "a2931756a430119d1d9305412a0daeed5f23c3c58f042e9d6138c763aa3d9190"), looks := false }, kinds := [], alts := [], goes := true, laidByText := true, laidKinds := [.funcs], laidTests := true, laidLooks := .later }
def TourReachedUptoCardSaid : Prop := Claim7.holds Tryz.pinned (.plain (OpenSpec.upto tourReachedSpec)) tourReachedUptoCard

/-- THE SECOND FORM's CARD OF 'nosalelaw09.TourSwift'. -/
def tourSwiftUptoCard : Claim7 := { stood := { row := tourSwiftUptoRow, standIns := [], harness := (true, "a2931756a430119d1d9305412a0daeed5f23c3c58f042e9d6138c763aa3d9190"), looks := false }, kinds := [], alts := [], goes := true, laidByText := true, laidKinds := [.funcs], laidTests := true, laidLooks := .later }
def TourSwiftUptoCardSaid : Prop := Claim7.holds Tryz.pinned (.plain (OpenSpec.upto tourSwiftSpec)) tourSwiftUptoCard

/-- THE SECOND FORM's CARD OF 'nosalelaw09.TourAnyOrder'. -/
def tourAnyOrderUptoCard : Claim7 := { stood := { row := tourAnyOrderUptoRow, standIns := [], harness := (true, "a2931756a430119d1d9305412a0daeed5f23c3c58f042e9d6138c763aa3d9190"), looks := false }, kinds := [], alts := [], goes := true, laidByText := true, laidKinds := [.funcs], laidTests := true, laidLooks := .later }
def TourAnyOrderUptoCardSaid : Prop := Claim7.holds Tryz.pinned (.plain (OpenSpec.upto tourAnyOrderSpec)) tourAnyOrderUptoCard
end Rows
end Go.Proofs.YtecpfaceomflkaaGreatDoor
