/-
  DERIVED. GIVEN WITH THE SEED: THE CARDS: each row of YthccgklboafliaaGreatDoorRows.lean that lists a variable, with what it lists TIED to the program's text (the seventh form; the later family's looks); each row that meets fmt, with fmt's text TOLD by the authors' own Lean function (tested against real Go, not proved from fmt's source: count such statements apart). THE CARD IS WHAT COUNTS. Prove the row's statement (the work); the ties are given (YthccgklboafliaaGreatDoorTie.lean); close each card by the builder's one call (the guide's Derived/Test/ToyasCard.lean, 'card_holds'). Laid BY PROGRAM, IN A SANDBOX (cutbox-door.mjs). By AI agents, Wed Nov 11 2026. No macro, syntax, notation, axiom, sorry.
-/
import Derived.Test.YthccgklboafliaaGreatDoorRows
import GoSem.ClaimSeven
namespace Go.Proofs.YthccgklboafliaaGreatDoor
namespace Rows

/-- THE TIED CARD OF 'nosalelaw08.StockPlans'. -/
def stockPlansCard : Claim7 := { stood := { row := stockPlansRow, standIns := [], harness := (true, "63c6955e6295e71b4f53332ed986b744c2135e6fb87ee5f8201e84f0a0ec0d64"), looks := false }, kinds := [], alts := [], goes := true, laidByText := true, laidKinds := [.funcsDeep, .funcs], laidTests := true, laidLooks := .later }
def StockPlansCardSaid : Prop := Claim7.holds Tryz.pinned (.plain (OpenSpec.ofChange stockPlansSpec)) stockPlansCard

/-- THE TIED CARD OF 'nosalelaw08.StockMoves'. -/
def stockMovesCard : Claim7 := { stood := { row := stockMovesRow, standIns := [], harness := (true, "63c6955e6295e71b4f53332ed986b744c2135e6fb87ee5f8201e84f0a0ec0d64"), looks := false }, kinds := [], alts := [], goes := true, laidByText := true, laidKinds := [.funcsDeep, .funcs], laidTests := true, laidLooks := .later }
def StockMovesCardSaid : Prop := Claim7.holds Tryz.pinned (.plain (OpenSpec.ofChange stockMovesSpec)) stockMovesCard

/-- THE TIED CARD OF 'nosalelaw08.StockReal'. -/
def stockRealCard : Claim7 := { stood := { row := stockRealRow, standIns := [], harness := (true, "63c6955e6295e71b4f53332ed986b744c2135e6fb87ee5f8201e84f0a0ec0d64"), looks := false }, kinds := [], alts := [], goes := true, laidByText := true, laidKinds := [.funcsDeep, .funcs], laidTests := true, laidLooks := .later }
def StockRealCardSaid : Prop := Claim7.holds Tryz.pinned (.plain (OpenSpec.ofChange stockRealSpec)) stockRealCard

/-- THE TIED CARD OF 'nosalelaw08.StockReached'. -/
def stockReachedCard : Claim7 := { stood := { row := stockReachedRow, standIns := [], harness := (true, "63c6955e6295e71b4f53332ed986b744c2135e6fb87ee5f8201e84f0a0ec0d64"), looks := false }, kinds := [], alts := [], goes := true, laidByText := true, laidKinds := [.funcsDeep, .funcs], laidTests := true, laidLooks := .later }
def StockReachedCardSaid : Prop := Claim7.holds Tryz.pinned (.plain (OpenSpec.ofChange stockReachedSpec)) stockReachedCard

/-- THE TIED CARD OF 'nosalelaw08.StockNoted'. -/
def stockNotedCard : Claim7 := { stood := { row := stockNotedRow, standIns := [], harness := (true, "63c6955e6295e71b4f53332ed986b744c2135e6fb87ee5f8201e84f0a0ec0d64"), looks := false }, kinds := [], alts := [], goes := true, laidByText := true, laidKinds := [.funcsDeep, .funcs], laidTests := true, laidLooks := .later }
def StockNotedCardSaid : Prop := Claim7.holds Tryz.pinned (.plain (OpenSpec.ofChange stockNotedSpec)) stockNotedCard

/-- THE TIED CARD OF 'nosalelaw08.StockAsked'. -/
def stockAskedCard : Claim7 := { stood := { row := stockAskedRow, standIns := [], harness := (true, "63c6955e6295e71b4f53332ed986b744c2135e6fb87ee5f8201e84f0a0ec0d64"), looks := false }, kinds := [], alts := [], goes := true, laidByText := true, laidKinds := [.funcsDeep, .funcs], laidTests := true, laidLooks := .later }
def StockAskedCardSaid : Prop := Claim7.holds Tryz.pinned (.plain (OpenSpec.ofChange stockAskedSpec)) stockAskedCard

/-- THE TIED CARD OF 'nosalelaw08.StockEntered'. -/
def stockEnteredCard : Claim7 := { stood := { row := stockEnteredRow, standIns := [], harness := (true, "63c6955e6295e71b4f53332ed986b744c2135e6fb87ee5f8201e84f0a0ec0d64"), looks := false }, kinds := [], alts := [], goes := true, laidByText := true, laidKinds := [.funcsDeep, .funcs], laidTests := true, laidLooks := .later }
def StockEnteredCardSaid : Prop := Claim7.holds Tryz.pinned (.plain (OpenSpec.ofChange stockEnteredSpec)) stockEnteredCard

/-- THE TIED CARD OF 'nosalelaw08.StockTold'. -/
def stockToldCard : Claim7 := { stood := { row := stockToldRow, standIns := [], harness := (true, "63c6955e6295e71b4f53332ed986b744c2135e6fb87ee5f8201e84f0a0ec0d64"), looks := false }, kinds := [], alts := [], goes := true, laidByText := true, laidKinds := [.funcsDeep, .funcs], laidTests := true, laidLooks := .later }
def StockToldCardSaid : Prop := Claim7.holds Tryz.pinned (.plain (OpenSpec.ofChange stockToldSpec)) stockToldCard

/-- THE TIED CARD OF 'nosalelaw08.StockNews'. -/
def stockNewsCard : Claim7 := { stood := { row := stockNewsRow, standIns := [], harness := (true, "63c6955e6295e71b4f53332ed986b744c2135e6fb87ee5f8201e84f0a0ec0d64"), looks := false }, kinds := [], alts := [], goes := true, laidByText := true, laidKinds := [.funcsDeep, .funcs], laidTests := true, laidLooks := .later }
def StockNewsCardSaid : Prop := Claim7.holds Tryz.pinned (.plain (OpenSpec.ofChange stockNewsSpec)) stockNewsCard

/-- THE SECOND FORM's CARD OF 'nosalelaw08.StockPlans'. -/
def stockPlansUptoCard : Claim7 := { stood := { row := stockPlansUptoRow, standIns := [], harness := (true, "63c6955e6295e71b4f53332ed986b744c2135e6fb87ee5f8201e84f0a0ec0d64"), looks := false }, kinds := [], alts := [], goes := true, laidByText := true, laidKinds := [.funcsDeep, .funcs], laidTests := true, laidLooks := .later }
def StockPlansUptoCardSaid : Prop := Claim7.holds Tryz.pinned (.plain (OpenSpec.upto stockPlansSpec)) stockPlansUptoCard

/-- THE SECOND FORM's CARD OF 'nosalelaw08.StockMoves'. -/
def stockMovesUptoCard : Claim7 := { stood := { row := stockMovesUptoRow, standIns := [], harness := (true, "63c6955e6295e71b4f53332ed986b744c2135e6fb87ee5f8201e84f0a0ec0d64"), looks := false }, kinds := [], alts := [], goes := true, laidByText := true, laidKinds := [.funcsDeep, .funcs], laidTests := true, laidLooks := .later }
def StockMovesUptoCardSaid : Prop := Claim7.holds Tryz.pinned (.plain (OpenSpec.upto stockMovesSpec)) stockMovesUptoCard

/-- THE SECOND FORM's CARD OF 'nosalelaw08.StockReal'. -/
def stockRealUptoCard : Claim7 := { stood := { row := stockRealUptoRow, standIns := [], harness := (true, "63c6955e6295e71b4f53332ed986b744c2135e6fb87ee5f8201e84f0a0ec0d64"), looks := false }, kinds := [], alts := [], goes := true, laidByText := true, laidKinds := [.funcsDeep, .funcs], laidTests := true, laidLooks := .later }
def StockRealUptoCardSaid : Prop := Claim7.holds Tryz.pinned (.plain (OpenSpec.upto stockRealSpec)) stockRealUptoCard

/-- THE SECOND FORM's CARD OF 'nosalelaw08.StockReached'. -/
def stockReachedUptoCard : Claim7 := { stood := { row := stockReachedUptoRow, standIns := [], harness := (true, "63c6955e6295e71b4f53332ed986b744c2135e6fb87ee5f8201e84f0a0ec0d64"), looks := false }, kinds := [], alts := [], goes := true, laidByText := true, laidKinds := [.funcsDeep, .funcs], laidTests := true, laidLooks := .later }
def StockReachedUptoCardSaid : Prop := Claim7.holds Tryz.pinned (.plain (OpenSpec.upto stockReachedSpec)) stockReachedUptoCard

/-- THE SECOND FORM's CARD OF 'nosalelaw08.StockNoted'. -/
def stockNotedUptoCard : Claim7 := { stood := { row := stockNotedUptoRow, standIns := [], harness := (true, "63c6955e6295e71b4f53332ed986b744c2135e6fb87ee5f8201e84f0a0ec0d64"), looks := false }, kinds := [], alts := [], goes := true, laidByText := true, laidKinds := [.funcsDeep, .funcs], laidTests := true, laidLooks := .later }
def StockNotedUptoCardSaid : Prop := Claim7.holds Tryz.pinned (.plain (OpenSpec.upto stockNotedSpec)) stockNotedUptoCard

/-- THE SECOND FORM's CARD OF 'nosalelaw08.StockAsked'. -/
def stockAskedUptoCard : Claim7 := { stood := { row := stockAskedUptoRow, standIns := [], harness := (true, "63c6955e6295e71b4f53332ed986b744c2135e6fb87ee5f8201e84f0a0ec0d64"), looks := false }, kinds := [], alts := [], goes := true, laidByText := true, laidKinds := [.funcsDeep, .funcs], laidTests := true, laidLooks := .later }
def StockAskedUptoCardSaid : Prop := Claim7.holds Tryz.pinned (.plain (OpenSpec.upto stockAskedSpec)) stockAskedUptoCard

/-- THE SECOND FORM's CARD OF 'nosalelaw08.StockEntered'. -/
def stockEnteredUptoCard : Claim7 := { stood := { row := stockEnteredUptoRow, standIns := [], harness := (true, "63c6955e6295e71b4f53332ed986b744c2135e6fb87ee5f8201e84f0a0ec0d64"), looks := false }, kinds := [], alts := [], goes := true, laidByText := true, laidKinds := [.funcsDeep, .funcs], laidTests := true, laidLooks := .later }
def StockEnteredUptoCardSaid : Prop := Claim7.holds Tryz.pinned (.plain (OpenSpec.upto stockEnteredSpec)) stockEnteredUptoCard

/-- THE SECOND FORM's CARD OF 'nosalelaw08.StockTold'. -/
def stockToldUptoCard : Claim7 := { stood := { row := stockToldUptoRow, standIns := [], harness := (true, "63c6955e6295e71b4f53332ed986b744c2135e6fb87ee5f8201e84f0a0ec0d64"), looks := false }, kinds := [], alts := [], goes := true, laidByText := true, laidKinds := [.funcsDeep, .funcs], laidTests := true, laidLooks := .later }
def StockToldUptoCardSaid : Prop := Claim7.holds Tryz.pinned (.plain (OpenSpec.upto stockToldSpec)) stockToldUptoCard

/-- THE SECOND FORM's CARD OF 'nosalelaw08.StockNews'. -/
def stockNewsUptoCard : Claim7 := { stood := { row := stockNewsUptoRow, standIns := [], harness := (true, "63c6955e6295e71b4f53332ed986b744c2135e6fb87ee5f8201e84f0a0ec0d64"), looks := false }, kinds := [], alts := [], goes := true, laidByText := true, laidKinds := [.funcsDeep, .funcs], laidTests := true, laidLooks := .later }
def StockNewsUptoCardSaid : Prop := Claim7.holds Tryz.pinned (.plain (OpenSpec.upto stockNewsSpec)) stockNewsUptoCard
end Rows
end Go.Proofs.YthccgklboafliaaGreatDoor
