/-
  DERIVED. GIVEN WITH THE SEED: THE CARDS: each row of YteobolclmgpkcaaGreatDoorRows.lean that lists a variable, with what it lists TIED to the program's text (the seventh form; the later family's looks); each row that meets fmt, with fmt's text TOLD by the authors' own Lean function (tested against real Go, not proved from fmt's source: count such statements apart). THE CARD IS WHAT COUNTS. Prove the row's statement (the work); the ties are given (YteobolclmgpkcaaGreatDoorTie.lean); close each card by the builder's one call (the guide's Derived/Test/ToyasCard.lean, 'card_holds'). Laid BY PROGRAM, IN A SANDBOX (cutbox-door.mjs). By AI agents, Wed Nov 11 2026. No macro, syntax, notation, axiom, sorry.
-/
import Derived.Test.YteobolclmgpkcaaGreatDoorRows
import GoSem.ClaimSeven
namespace Go.Proofs.YteobolclmgpkcaaGreatDoor
namespace Rows

/-- THE TIED CARD OF 'nosalelaw09.TourTimes'. -/
def tourTimesCard : Claim7 := { stood := { row := tourTimesRow, standIns := [], harness := (true, "ddd3c107125b00647d7550bfee4d175e1900b2a58ea3a232db1d7268c55857a8"), looks := false }, kinds := [], alts := [], goes := true, laidByText := true, laidKinds := [.funcs], laidTests := true, laidLooks := .later }
def TourTimesCardSaid : Prop := Claim7.holds Tryz.pinned (.plain (OpenSpec.ofChange tourTimesSpec)) tourTimesCard

/-- THE TIED CARD OF 'nosalelaw09.TourRounds'. -/
def tourRoundsCard : Claim7 := { stood := { row := tourRoundsRow, standIns := [], harness := (true, "ddd3c107125b00647d7550bfee4d175e1900b2a58ea3a232db1d7268c55857a8"), looks := false }, kinds := [], alts := [], goes := true, laidByText := true, laidKinds := [.funcs], laidTests := true, laidLooks := .later }
def TourRoundsCardSaid : Prop := Claim7.holds Tryz.pinned (.plain (OpenSpec.ofChange tourRoundsSpec)) tourRoundsCard

/-- THE TIED CARD OF 'nosalelaw09.TourCalled'. -/
def tourCalledCard : Claim7 := { stood := { row := tourCalledRow, standIns := [], harness := (true, "ddd3c107125b00647d7550bfee4d175e1900b2a58ea3a232db1d7268c55857a8"), looks := false }, kinds := [], alts := [], goes := true, laidByText := true, laidKinds := [.funcs], laidTests := true, laidLooks := .later }
def TourCalledCardSaid : Prop := Claim7.holds Tryz.pinned (.plain (OpenSpec.ofChange tourCalledSpec)) tourCalledCard

/-- THE TIED CARD OF 'nosalelaw09.TourLearnt'. -/
def tourLearntCard : Claim7 := { stood := { row := tourLearntRow, standIns := [], harness := (true, "ddd3c107125b00647d7550bfee4d175e1900b2a58ea3a232db1d7268c55857a8"), looks := false }, kinds := [], alts := [], goes := true, laidByText := true, laidKinds := [.funcs], laidTests := true, laidLooks := .later }
def TourLearntCardSaid : Prop := Claim7.holds Tryz.pinned (.plain (OpenSpec.ofChange tourLearntSpec)) tourLearntCard

/-- THE TIED CARD OF 'nosalelaw09.TourNews'. -/
def tourNewsCard : Claim7 := { stood := { row := tourNewsRow, standIns := [], harness := (true, "ddd3c107125b00647d7550bfee4d175e1900b2a58ea3a232db1d7268c55857a8"), looks := false }, kinds := [], alts := [], goes := true, laidByText := true, laidKinds := [.funcs], laidTests := true, laidLooks := .later }
def TourNewsCardSaid : Prop := Claim7.holds Tryz.pinned (.plain (OpenSpec.ofChange tourNewsSpec)) tourNewsCard

/-- THE SECOND FORM's CARD OF 'nosalelaw09.TourTimes'. -/
def tourTimesUptoCard : Claim7 := { stood := { row := tourTimesUptoRow, standIns := [], harness := (true, "ddd3c107125b00647d7550bfee4d175e1900b2a58ea3a232db1d7268c55857a8"), looks := false }, kinds := [], alts := [], goes := true, laidByText := true, laidKinds := [.funcs], laidTests := true, laidLooks := .later }
def TourTimesUptoCardSaid : Prop := Claim7.holds Tryz.pinned (.plain (OpenSpec.upto tourTimesSpec)) tourTimesUptoCard

/-- THE SECOND FORM's CARD OF 'nosalelaw09.TourRounds'. -/
def tourRoundsUptoCard : Claim7 := { stood := { row := tourRoundsUptoRow, standIns := [], harness := (true, "ddd3c107125b00647d7550bfee4d175e1900b2a58ea3a232db1d7268c55857a8"), looks := false }, kinds := [], alts := [], goes := true, laidByText := true, laidKinds := [.funcs], laidTests := true, laidLooks := .later }
def TourRoundsUptoCardSaid : Prop := Claim7.holds Tryz.pinned (.plain (OpenSpec.upto tourRoundsSpec)) tourRoundsUptoCard

/-- THE SECOND FORM's CARD OF 'nosalelaw09.TourCalled'. -/
def tourCalledUptoCard : Claim7 := { stood := { row := tourCalledUptoRow, standIns := [], harness := (true, "ddd3c107125b00647d7550bfee4d175e1900b2a58ea3a232db1d7268c55857a8"), looks := false }, kinds := [], alts := [], goes := true, laidByText := true, laidKinds := [.funcs], laidTests := true, laidLooks := .later }
def TourCalledUptoCardSaid : Prop := Claim7.holds Tryz.pinned (.plain (OpenSpec.upto tourCalledSpec)) tourCalledUptoCard

/-- THE SECOND FORM's CARD OF 'nosalelaw09.TourLearnt'. -/
def tourLearntUptoCard : Claim7 := { stood := { row := tourLearntUptoRow, standIns := [], harness := (true, "ddd3c107125b00647d7550bfee4d175e1900b2a58ea3a232db1d7268c55857a8"), looks := false }, kinds := [], alts := [], goes := true, laidByText := true, laidKinds := [.funcs], laidTests := true, laidLooks := .later }
def TourLearntUptoCardSaid : Prop := Claim7.holds Tryz.pinned (.plain (OpenSpec.upto tourLearntSpec)) tourLearntUptoCard

/-- THE SECOND FORM's CARD OF 'nosalelaw09.TourNews'. -/
def tourNewsUptoCard : Claim7 := { stood := { row := tourNewsUptoRow, standIns := [], harness := (true, "ddd3c107125b00647d7550bfee4d175e1900b2a58ea3a232db1d7268c55857a8"), looks := false }, kinds := [], alts := [], goes := true, laidByText := true, laidKinds := [.funcs], laidTests := true, laidLooks := .later }
def TourNewsUptoCardSaid : Prop := Claim7.holds Tryz.pinned (.plain (OpenSpec.upto tourNewsSpec)) tourNewsUptoCard
end Rows
end Go.Proofs.YteobolclmgpkcaaGreatDoor
