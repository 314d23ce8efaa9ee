/-
  NARROWER THAN 'FOR EVERY INPUT', by the rows' own cells (each row's printed sentence says how): StockConserved: laid · StockAdds: laid · StockBought: laid · StockLasting: laid · StockBlamed: laid · StockClashes: laid · StockAnyOrder: laid.
  DERIVED. THE GIVEN ROWS OF THIS SEAT. 7 by the template 'for every input the law returns true; each argument reads behind the call as it read before'; 0 by the template 'total and deterministic' (their statements: YthccgklboafliaaDoorTotals.lean).
  GIVEN WITH THE SEED: the statements are not yours to turn. If you find one false, say at which input.
  Laid BY PROGRAM, IN A SANDBOX (cutbox-rows.mjs): the forced cells as the released guide's own fill.sh prints them over the translation f1779477679d91b2… (all of the seat's roots in one cut). By AI agents, Wed Nov 11 2026. No macro, syntax, notation, axiom, sorry.
-/
import Derived.Test.YthccgklboafliaaDoorChecked
import GoSem.Claim
import GoSem.ClaimJoined
import GoSem.ClaimMapViews
import Derived.JoinedTies
import Derived.KernelRfl
namespace Go.Proofs.YthccgklboafliaaDoor
/- THE CELL 'sum', in the pinned program and in every row, IS THE sha256 OF THE DUMP (.gsa) THAT YthccgklboafliaaDoorProg.lean LOADS. Nothing in Lean hashes anything: it is a label: what it is worth is what the hold of that sum in a sandbox is worth. -/
noncomputable def Tryd.pinned : Pinned := { name := "ythccgklboafliaadoor", sum := "f1779477679d91b23973f4c1fcf3c5050b98bf3abd58cfd44cb9cc89a55de210", checked := Tryd.checked }
namespace Rows
def none {H : Type} : Left H := { results := [], args := [] }

/- WHAT THE LISTED PACKAGE-LEVEL VARIABLES READ AS WHEN THE CALL BEGINS. Each datum BY PROGRAM (the guide's laid-datum.mjs) off the statement by which the dump's own 'gosem.cut.vars' lays the variable. In a bare row this is a premise. The card (YthccgklboafliaaDoorCards.lean) ties it to the program's text. -/
def laid_nosale_stock_moveKinds {H : Type} : DataW H := .iface "func table" (.agg [.agg [.lit (.string [99, 97, 109, 101]), .iface "func" (.lit (.string [110, 111, 115, 97, 108, 101, 47, 115, 116, 111, 99, 107, 46, 109, 111, 114, 101]))], .agg [.lit (.string [115, 111, 108, 100]), .iface "func" (.lit (.string [110, 111, 115, 97, 108, 101, 47, 115, 116, 111, 99, 107, 46, 108, 101, 115, 115]))], .agg [.lit (.string [108, 111, 115, 116]), .iface "func" (.lit (.string [110, 111, 115, 97, 108, 101, 47, 115, 116, 111, 99, 107, 46, 108, 101, 115, 115]))], .agg [.lit (.string [103, 105, 118, 101, 110]), .iface "func" (.lit (.string [110, 111, 115, 97, 108, 101, 47, 115, 116, 111, 99, 107, 46, 108, 101, 115, 115]))], .agg [.lit (.string [98, 97, 99, 107]), .iface "func" (.lit (.string [110, 111, 115, 97, 108, 101, 47, 115, 116, 111, 99, 107, 46, 109, 111, 114, 101]))]])
def laid_nosale_stock_checks {H : Type} : DataW H := .iface "func table" (.agg [.iface "func" (.lit (.string [40, 110, 111, 115, 97, 108, 101, 47, 115, 116, 111, 99, 107, 46, 98, 111, 111, 107, 41, 46, 104, 101, 97, 100])), .iface "func" (.lit (.string [40, 110, 111, 115, 97, 108, 101, 47, 115, 116, 111, 99, 107, 46, 98, 111, 111, 107, 41, 46, 103, 111, 111, 100, 115])), .iface "func" (.lit (.string [40, 110, 111, 115, 97, 108, 101, 47, 115, 116, 111, 99, 107, 46, 98, 111, 111, 107, 41, 46, 109, 111, 118, 101, 115])), .iface "func" (.lit (.string [40, 110, 111, 115, 97, 108, 101, 47, 115, 116, 111, 99, 107, 46, 98, 111, 111, 107, 41, 46, 99, 111, 117, 110, 116, 115]))])

/-- 'nosalelaw08.StockConserved': WHATEVER THE INPUT: true; the input reads as it did. -/
def stockConservedSpec : ChangeSpec := { name := "stockConserved", fn := fun _ => fun
  | [d1, d2, d3, d4] => { results := [.lit (.bool true)], args := [d1, d2, d3, d4] }
  | _ => none }
def stockConservedRow : OpenClaim := { program := "ythccgklboafliaadoor", sum := "f1779477679d91b23973f4c1fcf3c5050b98bf3abd58cfd44cb9cc89a55de210", func := "nosale/nosalelaw08.StockConserved", spec := "stockConserved", unfollowed := true, recurses := true, named := ["nosale/stock.checks", "nosale/stock.moveKinds"], plainKeys := false, leaving := true, apart := false, laid := [("nosale/stock.moveKinds", laid_nosale_stock_moveKinds), ("nosale/stock.checks", laid_nosale_stock_checks)] }
def StockConservedSaid : Prop := stockConservedRow.holds Tryd.pinned (OpenSpec.ofChange stockConservedSpec)

/-- ITS FALSE NEIGHBOUR: 'it returns false'. Refute it at one input. -/
def stockConservedWrong : ChangeSpec := { name := "stockConserved", fn := fun _ => fun
  | [d1, d2, d3, d4] => { results := [.lit (.bool false)], args := [d1, d2, d3, d4] }
  | _ => none }
def StockConservedWrongFalsely : Prop := stockConservedRow.holds Tryd.pinned (OpenSpec.ofChange stockConservedWrong)

/-- 'nosalelaw08.StockAdds': WHATEVER THE INPUT: true; the input reads as it did. -/
def stockAddsSpec : ChangeSpec := { name := "stockAdds", fn := fun _ => fun
  | [d1, d2, d3] => { results := [.lit (.bool true)], args := [d1, d2, d3] }
  | _ => none }
def stockAddsRow : OpenClaim := { program := "ythccgklboafliaadoor", sum := "f1779477679d91b23973f4c1fcf3c5050b98bf3abd58cfd44cb9cc89a55de210", func := "nosale/nosalelaw08.StockAdds", spec := "stockAdds", unfollowed := true, recurses := true, named := ["nosale/stock.checks", "nosale/stock.moveKinds"], plainKeys := false, leaving := true, apart := false, laid := [("nosale/stock.moveKinds", laid_nosale_stock_moveKinds), ("nosale/stock.checks", laid_nosale_stock_checks)] }
def StockAddsSaid : Prop := stockAddsRow.holds Tryd.pinned (OpenSpec.ofChange stockAddsSpec)

/-- ITS FALSE NEIGHBOUR: 'it returns false'. Refute it at one input. -/
def stockAddsWrong : ChangeSpec := { name := "stockAdds", fn := fun _ => fun
  | [d1, d2, d3] => { results := [.lit (.bool false)], args := [d1, d2, d3] }
  | _ => none }
def StockAddsWrongFalsely : Prop := stockAddsRow.holds Tryd.pinned (OpenSpec.ofChange stockAddsWrong)

/-- 'nosalelaw08.StockBought': WHATEVER THE INPUT: true; the input reads as it did. -/
def stockBoughtSpec : ChangeSpec := { name := "stockBought", fn := fun _ => fun
  | [d1, d2, d3, d4] => { results := [.lit (.bool true)], args := [d1, d2, d3, d4] }
  | _ => none }
def stockBoughtRow : OpenClaim := { program := "ythccgklboafliaadoor", sum := "f1779477679d91b23973f4c1fcf3c5050b98bf3abd58cfd44cb9cc89a55de210", func := "nosale/nosalelaw08.StockBought", spec := "stockBought", unfollowed := true, recurses := true, named := ["nosale/stock.checks", "nosale/stock.moveKinds"], plainKeys := false, leaving := true, apart := false, laid := [("nosale/stock.moveKinds", laid_nosale_stock_moveKinds), ("nosale/stock.checks", laid_nosale_stock_checks)] }
def StockBoughtSaid : Prop := stockBoughtRow.holds Tryd.pinned (OpenSpec.ofChange stockBoughtSpec)

/-- ITS FALSE NEIGHBOUR: 'it returns false'. Refute it at one input. -/
def stockBoughtWrong : ChangeSpec := { name := "stockBought", fn := fun _ => fun
  | [d1, d2, d3, d4] => { results := [.lit (.bool false)], args := [d1, d2, d3, d4] }
  | _ => none }
def StockBoughtWrongFalsely : Prop := stockBoughtRow.holds Tryd.pinned (OpenSpec.ofChange stockBoughtWrong)

/-- 'nosalelaw08.StockLasting': WHATEVER THE INPUT: true; the input reads as it did. -/
def stockLastingSpec : ChangeSpec := { name := "stockLasting", fn := fun _ => fun
  | [d1, d2, d3, d4] => { results := [.lit (.bool true)], args := [d1, d2, d3, d4] }
  | _ => none }
def stockLastingRow : OpenClaim := { program := "ythccgklboafliaadoor", sum := "f1779477679d91b23973f4c1fcf3c5050b98bf3abd58cfd44cb9cc89a55de210", func := "nosale/nosalelaw08.StockLasting", spec := "stockLasting", unfollowed := true, recurses := true, named := ["nosale/stock.checks", "nosale/stock.moveKinds"], plainKeys := false, leaving := true, apart := false, laid := [("nosale/stock.moveKinds", laid_nosale_stock_moveKinds), ("nosale/stock.checks", laid_nosale_stock_checks)] }
def StockLastingSaid : Prop := stockLastingRow.holds Tryd.pinned (OpenSpec.ofChange stockLastingSpec)

/-- ITS FALSE NEIGHBOUR: 'it returns false'. Refute it at one input. -/
def stockLastingWrong : ChangeSpec := { name := "stockLasting", fn := fun _ => fun
  | [d1, d2, d3, d4] => { results := [.lit (.bool false)], args := [d1, d2, d3, d4] }
  | _ => none }
def StockLastingWrongFalsely : Prop := stockLastingRow.holds Tryd.pinned (OpenSpec.ofChange stockLastingWrong)

/-- 'nosalelaw08.StockBlamed': WHATEVER THE INPUT: true; the input reads as it did. -/
def stockBlamedSpec : ChangeSpec := { name := "stockBlamed", fn := fun _ => fun
  | [d] => { results := [.lit (.bool true)], args := [d] }
  | _ => none }
def stockBlamedRow : OpenClaim := { program := "ythccgklboafliaadoor", sum := "f1779477679d91b23973f4c1fcf3c5050b98bf3abd58cfd44cb9cc89a55de210", func := "nosale/nosalelaw08.StockBlamed", spec := "stockBlamed", unfollowed := true, recurses := true, named := ["nosale/stock.checks", "nosale/stock.moveKinds"], plainKeys := false, leaving := true, apart := false, laid := [("nosale/stock.moveKinds", laid_nosale_stock_moveKinds), ("nosale/stock.checks", laid_nosale_stock_checks)] }
def StockBlamedSaid : Prop := stockBlamedRow.holds Tryd.pinned (OpenSpec.ofChange stockBlamedSpec)

/-- ITS FALSE NEIGHBOUR: 'it returns false'. Refute it at one input. -/
def stockBlamedWrong : ChangeSpec := { name := "stockBlamed", fn := fun _ => fun
  | [d] => { results := [.lit (.bool false)], args := [d] }
  | _ => none }
def StockBlamedWrongFalsely : Prop := stockBlamedRow.holds Tryd.pinned (OpenSpec.ofChange stockBlamedWrong)

/-- 'nosalelaw08.StockClashes': WHATEVER THE INPUT: true; the input reads as it did. -/
def stockClashesSpec : ChangeSpec := { name := "stockClashes", fn := fun _ => fun
  | [d1, d2] => { results := [.lit (.bool true)], args := [d1, d2] }
  | _ => none }
def stockClashesRow : OpenClaim := { program := "ythccgklboafliaadoor", sum := "f1779477679d91b23973f4c1fcf3c5050b98bf3abd58cfd44cb9cc89a55de210", func := "nosale/nosalelaw08.StockClashes", spec := "stockClashes", unfollowed := true, recurses := true, named := ["nosale/stock.checks", "nosale/stock.moveKinds"], plainKeys := false, leaving := true, apart := false, laid := [("nosale/stock.moveKinds", laid_nosale_stock_moveKinds), ("nosale/stock.checks", laid_nosale_stock_checks)] }
def StockClashesSaid : Prop := stockClashesRow.holds Tryd.pinned (OpenSpec.ofChange stockClashesSpec)

/-- ITS FALSE NEIGHBOUR: 'it returns false'. Refute it at one input. -/
def stockClashesWrong : ChangeSpec := { name := "stockClashes", fn := fun _ => fun
  | [d1, d2] => { results := [.lit (.bool false)], args := [d1, d2] }
  | _ => none }
def StockClashesWrongFalsely : Prop := stockClashesRow.holds Tryd.pinned (OpenSpec.ofChange stockClashesWrong)

/-- 'nosalelaw08.StockAnyOrder': WHATEVER THE INPUT: true; the input reads as it did. -/
def stockAnyOrderSpec : ChangeSpec := { name := "stockAnyOrder", fn := fun _ => fun
  | [d1, d2, d3, d4] => { results := [.lit (.bool true)], args := [d1, d2, d3, d4] }
  | _ => none }
def stockAnyOrderRow : OpenClaim := { program := "ythccgklboafliaadoor", sum := "f1779477679d91b23973f4c1fcf3c5050b98bf3abd58cfd44cb9cc89a55de210", func := "nosale/nosalelaw08.StockAnyOrder", spec := "stockAnyOrder", unfollowed := true, recurses := true, named := ["nosale/stock.checks", "nosale/stock.moveKinds"], plainKeys := false, leaving := true, apart := false, laid := [("nosale/stock.moveKinds", laid_nosale_stock_moveKinds), ("nosale/stock.checks", laid_nosale_stock_checks)] }
def StockAnyOrderSaid : Prop := stockAnyOrderRow.holds Tryd.pinned (OpenSpec.ofChange stockAnyOrderSpec)

/-- ITS FALSE NEIGHBOUR: 'it returns false'. Refute it at one input. -/
def stockAnyOrderWrong : ChangeSpec := { name := "stockAnyOrder", fn := fun _ => fun
  | [d1, d2, d3, d4] => { results := [.lit (.bool false)], args := [d1, d2, d3, d4] }
  | _ => none }
def StockAnyOrderWrongFalsely : Prop := stockAnyOrderRow.holds Tryd.pinned (OpenSpec.ofChange stockAnyOrderWrong)

/- THE SECOND FORM. 'bulk': how many values and letters a reading holds, each counted each time it is reached (what is shared counts as often as it is met; a slice's spare places count too). A statement '..UptoSaid' is the law's where the arguments, and the package variables that the reading takes, are together of bulk at most 1048576: NARROWER than '..Said'. Prove '..Said' where nothing that the law and all that it calls make is longer than what came in: it says more and counts as full. Else prove '..UptoSaid'. A law counts once. -/
mutual
def uptoBulk {H : Type} : DataW H → Nat
  | .lit (.string bytes) => bytes.length + 1
  | .lit _ => 1
  | .nil => 1
  | .ptr d => uptoBulk d + 1
  | .slice elems spare => uptoBulkAll elems + uptoBulkAll spare + 1
  | .agg parts => uptoBulkAll parts + 1
  | .iface _ d => uptoBulk d + 1
  | .map entries => uptoBulkEntries entries + 1
  | .held _ => 1
def uptoBulkAll {H : Type} : List (DataW H) → Nat
  | [] => 0
  | d :: r => uptoBulk d + uptoBulkAll r
def uptoBulkEntries {H : Type} : List (Lit × DataW H) → Nat
  | [] => 0
  | x :: r => uptoBulkEntry x + uptoBulkEntries r
def uptoBulkEntry {H : Type} : Lit × DataW H → Nat
  | (.string bytes, d) => bytes.length + uptoBulk d + 1
  | (_, d) => uptoBulk d + 1
 end
def uptoSmall : (H : Type) → List (DataW H) → Bool := fun _ ds => decide (uptoBulkAll ds ≤ 1048576)
def OpenSpec.upto (s : _root_.Go.ChangeSpec) : _root_.Go.OpenSpec := { _root_.Go.OpenSpec.ofChange s with cond := some uptoSmall }

/-- 'nosalelaw08.StockConserved', WHERE WHAT IT READS IS OF BULK AT MOST 1048576: true; the input reads as it did. -/
def stockConservedUptoRow : OpenClaim := { program := "ythccgklboafliaadoor", sum := "f1779477679d91b23973f4c1fcf3c5050b98bf3abd58cfd44cb9cc89a55de210", func := "nosale/nosalelaw08.StockConserved", spec := "stockConserved", unfollowed := true, recurses := true, named := ["nosale/stock.checks", "nosale/stock.moveKinds"], plainKeys := false, leaving := true, apart := false, laid := [("nosale/stock.moveKinds", laid_nosale_stock_moveKinds), ("nosale/stock.checks", laid_nosale_stock_checks)], narrowed := true }
def StockConservedUptoSaid : Prop := stockConservedUptoRow.holds Tryd.pinned (OpenSpec.upto stockConservedSpec)

/-- 'nosalelaw08.StockAdds', WHERE WHAT IT READS IS OF BULK AT MOST 1048576: true; the input reads as it did. -/
def stockAddsUptoRow : OpenClaim := { program := "ythccgklboafliaadoor", sum := "f1779477679d91b23973f4c1fcf3c5050b98bf3abd58cfd44cb9cc89a55de210", func := "nosale/nosalelaw08.StockAdds", spec := "stockAdds", unfollowed := true, recurses := true, named := ["nosale/stock.checks", "nosale/stock.moveKinds"], plainKeys := false, leaving := true, apart := false, laid := [("nosale/stock.moveKinds", laid_nosale_stock_moveKinds), ("nosale/stock.checks", laid_nosale_stock_checks)], narrowed := true }
def StockAddsUptoSaid : Prop := stockAddsUptoRow.holds Tryd.pinned (OpenSpec.upto stockAddsSpec)

/-- 'nosalelaw08.StockBought', WHERE WHAT IT READS IS OF BULK AT MOST 1048576: true; the input reads as it did. -/
def stockBoughtUptoRow : OpenClaim := { program := "ythccgklboafliaadoor", sum := "f1779477679d91b23973f4c1fcf3c5050b98bf3abd58cfd44cb9cc89a55de210", func := "nosale/nosalelaw08.StockBought", spec := "stockBought", unfollowed := true, recurses := true, named := ["nosale/stock.checks", "nosale/stock.moveKinds"], plainKeys := false, leaving := true, apart := false, laid := [("nosale/stock.moveKinds", laid_nosale_stock_moveKinds), ("nosale/stock.checks", laid_nosale_stock_checks)], narrowed := true }
def StockBoughtUptoSaid : Prop := stockBoughtUptoRow.holds Tryd.pinned (OpenSpec.upto stockBoughtSpec)

/-- 'nosalelaw08.StockLasting', WHERE WHAT IT READS IS OF BULK AT MOST 1048576: true; the input reads as it did. -/
def stockLastingUptoRow : OpenClaim := { program := "ythccgklboafliaadoor", sum := "f1779477679d91b23973f4c1fcf3c5050b98bf3abd58cfd44cb9cc89a55de210", func := "nosale/nosalelaw08.StockLasting", spec := "stockLasting", unfollowed := true, recurses := true, named := ["nosale/stock.checks", "nosale/stock.moveKinds"], plainKeys := false, leaving := true, apart := false, laid := [("nosale/stock.moveKinds", laid_nosale_stock_moveKinds), ("nosale/stock.checks", laid_nosale_stock_checks)], narrowed := true }
def StockLastingUptoSaid : Prop := stockLastingUptoRow.holds Tryd.pinned (OpenSpec.upto stockLastingSpec)

/-- 'nosalelaw08.StockBlamed', WHERE WHAT IT READS IS OF BULK AT MOST 1048576: true; the input reads as it did. -/
def stockBlamedUptoRow : OpenClaim := { program := "ythccgklboafliaadoor", sum := "f1779477679d91b23973f4c1fcf3c5050b98bf3abd58cfd44cb9cc89a55de210", func := "nosale/nosalelaw08.StockBlamed", spec := "stockBlamed", unfollowed := true, recurses := true, named := ["nosale/stock.checks", "nosale/stock.moveKinds"], plainKeys := false, leaving := true, apart := false, laid := [("nosale/stock.moveKinds", laid_nosale_stock_moveKinds), ("nosale/stock.checks", laid_nosale_stock_checks)], narrowed := true }
def StockBlamedUptoSaid : Prop := stockBlamedUptoRow.holds Tryd.pinned (OpenSpec.upto stockBlamedSpec)

/-- 'nosalelaw08.StockClashes', WHERE WHAT IT READS IS OF BULK AT MOST 1048576: true; the input reads as it did. -/
def stockClashesUptoRow : OpenClaim := { program := "ythccgklboafliaadoor", sum := "f1779477679d91b23973f4c1fcf3c5050b98bf3abd58cfd44cb9cc89a55de210", func := "nosale/nosalelaw08.StockClashes", spec := "stockClashes", unfollowed := true, recurses := true, named := ["nosale/stock.checks", "nosale/stock.moveKinds"], plainKeys := false, leaving := true, apart := false, laid := [("nosale/stock.moveKinds", laid_nosale_stock_moveKinds), ("nosale/stock.checks", laid_nosale_stock_checks)], narrowed := true }
def StockClashesUptoSaid : Prop := stockClashesUptoRow.holds Tryd.pinned (OpenSpec.upto stockClashesSpec)

/-- 'nosalelaw08.StockAnyOrder', WHERE WHAT IT READS IS OF BULK AT MOST 1048576: true; the input reads as it did. -/
def stockAnyOrderUptoRow : OpenClaim := { program := "ythccgklboafliaadoor", sum := "f1779477679d91b23973f4c1fcf3c5050b98bf3abd58cfd44cb9cc89a55de210", func := "nosale/nosalelaw08.StockAnyOrder", spec := "stockAnyOrder", unfollowed := true, recurses := true, named := ["nosale/stock.checks", "nosale/stock.moveKinds"], plainKeys := false, leaving := true, apart := false, laid := [("nosale/stock.moveKinds", laid_nosale_stock_moveKinds), ("nosale/stock.checks", laid_nosale_stock_checks)], narrowed := true }
def StockAnyOrderUptoSaid : Prop := stockAnyOrderUptoRow.holds Tryd.pinned (OpenSpec.upto stockAnyOrderSpec)

end Rows
end Go.Proofs.YthccgklboafliaaDoor
