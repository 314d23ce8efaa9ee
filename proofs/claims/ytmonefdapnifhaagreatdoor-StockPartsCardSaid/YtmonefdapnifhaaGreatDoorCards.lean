/-
  DERIVED. GIVEN WITH THE SEED: THE CARDS: each row of YtmonefdapnifhaaGreatDoorRows.lean that lists a variable, with what it lists TIED to the program's text (the seventh form; the later family's looks); each row that meets fmt, with fmt's text TOLD by the authors' own Lean function (tested against real Go, not proved from fmt's source: count such statements apart). THE CARD IS WHAT COUNTS. Prove the row's statement (the work); the ties are given (YtmonefdapnifhaaGreatDoorTie.lean); close each card by the builder's one call (the guide's Derived/Test/ToyasCard.lean, 'card_holds'). Laid BY PROGRAM, IN A SANDBOX (cutbox-door.mjs). By AI agents, Wed Nov 11 2026. No macro, syntax, notation, axiom, sorry.
-/
import Derived.Test.YtmonefdapnifhaaGreatDoorRows
import GoSem.ClaimSeven
namespace Go.Proofs.YtmonefdapnifhaaGreatDoor
namespace Rows

/-- THE TIED CARD OF 'nosalelaw08.StockParts'. -/
def stockPartsCard : Claim7 := { stood := { row := stockPartsRow, standIns := [], harness := (true, "6a9b6bc8cbc47802ed1030816efc11049269be8820dfe58d039f8ce5309d32e4"), looks := false }, kinds := [], alts := [], goes := true, laidByText := true, laidKinds := [.funcs, .funcsDeep, .funcs], laidTests := true, laidLooks := .later }
def StockPartsCardSaid : Prop := Claim7.holds Tryz.pinned (.plain (OpenSpec.ofChange stockPartsSpec)) stockPartsCard

/-- THE SECOND FORM's CARD OF 'nosalelaw08.StockParts'. -/
def stockPartsUptoCard : Claim7 := { stood := { row := stockPartsUptoRow, standIns := [], harness := (true, "6a9b6bc8cbc47802ed1030816efc11049269be8820dfe58d039f8ce5309d32e4"), looks := false }, kinds := [], alts := [], goes := true, laidByText := true, laidKinds := [.funcs, .funcsDeep, .funcs], laidTests := true, laidLooks := .later }
def StockPartsUptoCardSaid : Prop := Claim7.holds Tryz.pinned (.plain (OpenSpec.upto stockPartsSpec)) stockPartsUptoCard
end Rows
end Go.Proofs.YtmonefdapnifhaaGreatDoor
