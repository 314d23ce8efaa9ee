/-
  DERIVED. GIVEN WITH THE SEED: THE CARDS: each row of YthccgklboafliaaDoorRows.lean that lists a variable, with what it lists TIED to the program's text (the seventh form; the later family's looks); each row that meets fmt, with fmt's text TOLD by the authors' own Lean function (tested against real Go, not proved from fmt's source: count such statements apart). THE CARD IS WHAT COUNTS. Prove the row's statement (the work); the ties are given (YthccgklboafliaaDoorTie.lean); close each card by the builder's one call (the guide's Derived/Test/ToyasCard.lean, 'card_holds'). Laid BY PROGRAM, IN A SANDBOX (cutbox-door.mjs). By AI agents, Wed Nov 11 2026. No macro, syntax, notation, axiom, sorry.
-/
import Derived.Test.YthccgklboafliaaDoorRows
import GoSem.ClaimSeven
namespace Go.Proofs.YthccgklboafliaaDoor
namespace Rows

/-- THE TIED CARD OF 'nosalelaw08.StockConserved'. -/
def stockConservedCard : Claim7 := { stood := { row := stockConservedRow, standIns := [], harness := (true, "2679a0b9bce6ef538562287a8594fd4b318eeb980ce1f7352083c62956201a52"), looks := false }, kinds := [], alts := [], goes := true, laidByText := true, laidKinds := [.funcsDeep, .funcs], laidTests := true, laidLooks := .later }
def StockConservedCardSaid : Prop := Claim7.holds Tryd.pinned (.plain (OpenSpec.ofChange stockConservedSpec)) stockConservedCard

/-- THE TIED CARD OF 'nosalelaw08.StockAdds'. -/
def stockAddsCard : Claim7 := { stood := { row := stockAddsRow, standIns := [], harness := (true, "2679a0b9bce6ef538562287a8594fd4b318eeb980ce1f7352083c62956201a52"), looks := false }, kinds := [], alts := [], goes := true, laidByText := true, laidKinds := [.funcsDeep, .funcs], laidTests := true, laidLooks := .later }
def StockAddsCardSaid : Prop := Claim7.holds Tryd.pinned (.plain (OpenSpec.ofChange stockAddsSpec)) stockAddsCard

/-- THE TIED CARD OF 'nosalelaw08.StockBought'. -/
def stockBoughtCard : Claim7 := { stood := { row := stockBoughtRow, standIns := [], harness := (true, "2679a0b9bce6ef538562287a8594fd4b318eeb980ce1f7352083c62956201a52"), looks := false }, kinds := [], alts := [], goes := true, laidByText := true, laidKinds := [.funcsDeep, .funcs], laidTests := true, laidLooks := .later }
def StockBoughtCardSaid : Prop := Claim7.holds Tryd.pinned (.plain (OpenSpec.ofChange stockBoughtSpec)) stockBoughtCard

/-- THE TIED CARD OF 'nosalelaw08.StockLasting'. -/
def stockLastingCard : Claim7 := { stood := { row := stockLastingRow, standIns := [], harness := (true, "2679a0b9bce6ef538562287a8594fd4b318eeb980ce1f7352083c62956201a52"), looks := false }, kinds := [], alts := [], goes := true, laidByText := true, laidKinds := [.funcsDeep, .funcs], laidTests := true, laidLooks := .later }
def StockLastingCardSaid : Prop := Claim7.holds Tryd.pinned (.plain (OpenSpec.ofChange stockLastingSpec)) stockLastingCard

/-- THE TIED CARD OF 'nosalelaw08.StockBlamed'. -/
def stockBlamedCard : Claim7 := { stood := { row := stockBlamedRow, standIns := [], harness := (true, "2679a0b9bce6ef538562287a8594fd4b318eeb980ce1f7352083c62956201a52"), looks := false }, kinds := [], alts := [], goes := true, laidByText := true, laidKinds := [.funcsDeep, .funcs], laidTests := true, laidLooks := .later }
def StockBlamedCardSaid : Prop := Claim7.holds Tryd.pinned (.plain (OpenSpec.ofChange stockBlamedSpec)) stockBlamedCard

/-- THE TIED CARD OF 'nosalelaw08.StockClashes'. -/
def stockClashesCard : Claim7 := { stood := { row := stockClashesRow, standIns := [], harness := (true, "2679a0b9bce6ef538562287a8594fd4b318eeb980ce1f7352083c62956201a52"), looks := false }, kinds := [], alts := [], goes := true, laidByText := true, laidKinds := [.funcsDeep, .funcs], laidTests := true, laidLooks := .later }
def StockClashesCardSaid : Prop := Claim7.holds Tryd.pinned (.plain (OpenSpec.ofChange stockClashesSpec)) stockClashesCard

/-- THE TIED CARD OF 'nosalelaw08.StockAnyOrder'. -/
def stockAnyOrderCard : Claim7 := { stood := { row := stockAnyOrderRow, standIns := [], harness := (true, "2679a0b9bce6ef538562287a8594fd4b318eeb980ce1f7352083c62956201a52"), looks := false }, kinds := [], alts := [], goes := true, laidByText := true, laidKinds := [.funcsDeep, .funcs], laidTests := true, laidLooks := .later }
def StockAnyOrderCardSaid : Prop := Claim7.holds Tryd.pinned (.plain (OpenSpec.ofChange stockAnyOrderSpec)) stockAnyOrderCard

/-- THE SECOND FORM's CARD OF 'nosalelaw08.StockConserved'. -/
def stockConservedUptoCard : Claim7 := { stood := { row := stockConservedUptoRow, standIns := [], harness := (true, "2679a0b9bce6ef538562287a8594fd4b318eeb980ce1f7352083c62956201a52"), looks := false }, kinds := [], alts := [], goes := true, laidByText := true, laidKinds := [.funcsDeep, .funcs], laidTests := true, laidLooks := .later }
def StockConservedUptoCardSaid : Prop := Claim7.holds Tryd.pinned (.plain (OpenSpec.upto stockConservedSpec)) stockConservedUptoCard

/-- THE SECOND FORM's CARD OF 'nosalelaw08.StockAdds'. -/
def stockAddsUptoCard : Claim7 := { stood := { row := stockAddsUptoRow, standIns := [], harness := (true, "2679a0b9bce6ef538562287a8594fd4b318eeb980ce1f7352083c62956201a52"), looks := false }, kinds := [], alts := [], goes := true, laidByText := true, laidKinds := [.funcsDeep, .funcs], laidTests := true, laidLooks := .later }
def StockAddsUptoCardSaid : Prop := Claim7.holds Tryd.pinned (.plain (OpenSpec.upto stockAddsSpec)) stockAddsUptoCard

/-- THE SECOND FORM's CARD OF 'nosalelaw08.StockBought'. -/
def stockBoughtUptoCard : Claim7 := { stood := { row := stockBoughtUptoRow, standIns := [], harness := (true, "2679a0b9bce6ef538562287a8594fd4b318eeb980ce1f7352083c62956201a52"), looks := false }, kinds := [], alts := [], goes := true, laidByText := true, laidKinds := [.funcsDeep, .funcs], laidTests := true, laidLooks := .later }
def StockBoughtUptoCardSaid : Prop := Claim7.holds Tryd.pinned (.plain (OpenSpec.upto stockBoughtSpec)) stockBoughtUptoCard

/-- THE SECOND FORM's CARD OF 'nosalelaw08.StockLasting'. -/
def stockLastingUptoCard : Claim7 := { stood := { row := stockLastingUptoRow, standIns := [], harness := (true, "2679a0b9bce6ef538562287a8594fd4b318eeb980ce1f7352083c62956201a52"), looks := false }, kinds := [], alts := [], goes := true, laidByText := true, laidKinds := [.funcsDeep, .funcs], laidTests := true, laidLooks := .later }
def StockLastingUptoCardSaid : Prop := Claim7.holds Tryd.pinned (.plain (OpenSpec.upto stockLastingSpec)) stockLastingUptoCard

/-- THE SECOND FORM's CARD OF 'nosalelaw08.StockBlamed'. -/
def stockBlamedUptoCard : Claim7 := { stood := { row := stockBlamedUptoRow, standIns := [], harness := (true, "2679a0b9bce6ef538562287a8594fd4b318eeb980ce1f7352083c62956201a52"), looks := false }, kinds := [], alts := [], goes := true, laidByText := true, laidKinds := [.funcsDeep, .funcs], laidTests := true, laidLooks := .later }
def StockBlamedUptoCardSaid : Prop := Claim7.holds Tryd.pinned (.plain (OpenSpec.upto stockBlamedSpec)) stockBlamedUptoCard

/-- THE SECOND FORM's CARD OF 'nosalelaw08.StockClashes'. -/
def stockClashesUptoCard : Claim7 := { stood := { row := stockClashesUptoRow, standIns := [], harness := (true, "2679a0b9bce6ef538562287a8594fd4b318eeb980ce1f7352083c62956201a52"), looks := false }, kinds := [], alts := [], goes := true, laidByText := true, laidKinds := [.funcsDeep, .funcs], laidTests := true, laidLooks := .later }
def StockClashesUptoCardSaid : Prop := Claim7.holds Tryd.pinned (.plain (OpenSpec.upto stockClashesSpec)) stockClashesUptoCard

/-- THE SECOND FORM's CARD OF 'nosalelaw08.StockAnyOrder'. -/
def stockAnyOrderUptoCard : Claim7 := { stood := { row := stockAnyOrderUptoRow, standIns := [], harness := (true, "2679a0b9bce6ef538562287a8594fd4b318eeb980ce1f7352083c62956201a52"), looks := false }, kinds := [], alts := [], goes := true, laidByText := true, laidKinds := [.funcsDeep, .funcs], laidTests := true, laidLooks := .later }
def StockAnyOrderUptoCardSaid : Prop := Claim7.holds Tryd.pinned (.plain (OpenSpec.upto stockAnyOrderSpec)) stockAnyOrderUptoCard
end Rows
end Go.Proofs.YthccgklboafliaaDoor
