/-
  DERIVED. GIVEN WITH THE SEED: THE CARDS: each row of YtencdigomkbmgaaGreatDoorRows.lean that lists a variable, with what it lists TIED to the program's text (the seventh form; the later family's looks); each row that meets fmt, with fmt's text TOLD by the authors' own Lean function (tested against real Go, not proved from fmt's source: count such statements apart). THE CARD IS WHAT COUNTS. Prove the row's statement (the work); the ties are given (YtencdigomkbmgaaGreatDoorTie.lean); close each card by the builder's one call (the guide's Derived/Test/ToyasCard.lean, 'card_holds'). Laid BY PROGRAM, IN A SANDBOX (cutbox-door.mjs). By AI agents, Wed Nov 11 2026. No macro, syntax, notation, axiom, sorry.
-/
import Derived.Test.YtencdigomkbmgaaGreatDoorRows
import GoSem.ClaimSeven
namespace Go.Proofs.YtencdigomkbmgaaGreatDoor
namespace Rows

/-- THE TIED CARD OF 'nosalelaw08.StockPaid'. -/
def stockPaidCard : Claim7 := { stood := { row := stockPaidRow, standIns := [], harness := (true, "54c4d691c03f067a12452ce8189f1b98d1dadf1eb8e756b498d29db51786ec82"), looks := false }, kinds := [], alts := [], goes := true, laidByText := true, laidKinds := [.funcs, .funcs, .funcsDeep, .funcs], laidTests := true, laidLooks := .later }
def StockPaidCardSaid : Prop := Claim7.holds Tryz.pinned (.plain (OpenSpec.ofChange stockPaidSpec)) stockPaidCard

/-- THE TIED CARD OF 'nosalelaw08.StockCoins'. -/
def stockCoinsCard : Claim7 := { stood := { row := stockCoinsRow, standIns := [], harness := (true, "54c4d691c03f067a12452ce8189f1b98d1dadf1eb8e756b498d29db51786ec82"), looks := false }, kinds := [], alts := [], goes := true, laidByText := true, laidKinds := [.funcs, .funcsDeep, .funcs], laidTests := true, laidLooks := .later }
def StockCoinsCardSaid : Prop := Claim7.holds Tryz.pinned (.plain (OpenSpec.ofChange stockCoinsSpec)) stockCoinsCard

/-- THE SECOND FORM's CARD OF 'nosalelaw08.StockPaid'. -/
def stockPaidUptoCard : Claim7 := { stood := { row := stockPaidUptoRow, standIns := [], harness := (true, "54c4d691c03f067a12452ce8189f1b98d1dadf1eb8e756b498d29db51786ec82"), looks := false }, kinds := [], alts := [], goes := true, laidByText := true, laidKinds := [.funcs, .funcs, .funcsDeep, .funcs], laidTests := true, laidLooks := .later }
def StockPaidUptoCardSaid : Prop := Claim7.holds Tryz.pinned (.plain (OpenSpec.upto stockPaidSpec)) stockPaidUptoCard

/-- THE SECOND FORM's CARD OF 'nosalelaw08.StockCoins'. -/
def stockCoinsUptoCard : Claim7 := { stood := { row := stockCoinsUptoRow, standIns := [], harness := (true, "54c4d691c03f067a12452ce8189f1b98d1dadf1eb8e756b498d29db51786ec82"), looks := false }, kinds := [], alts := [], goes := true, laidByText := true, laidKinds := [.funcs, .funcsDeep, .funcs], laidTests := true, laidLooks := .later }
def StockCoinsUptoCardSaid : Prop := Claim7.holds Tryz.pinned (.plain (OpenSpec.upto stockCoinsSpec)) stockCoinsUptoCard
end Rows
end Go.Proofs.YtencdigomkbmgaaGreatDoor
