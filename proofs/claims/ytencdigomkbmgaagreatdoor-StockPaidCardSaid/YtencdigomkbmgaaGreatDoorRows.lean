/-
  NARROWER THAN 'FOR EVERY INPUT', by the rows' own cells (each row's printed sentence says how): StockPaid: laid · StockCoins: laid.
  DERIVED. THE GIVEN ROWS OF THIS SEAT. 2 by the template 'for every input the law returns true; each argument reads behind the call as it read before'; 0 by the template 'total and deterministic' (their statements: YtencdigomkbmgaaGreatDoorTotals.lean).
  GIVEN WITH THE SEED: the statements are not yours to turn. If you find one false, say at which input.
  Laid BY PROGRAM, IN A SANDBOX (cutbox-rows.mjs): the forced cells as the released guide's own fill.sh prints them over the translation dcb0a42a0d0e8fd2… (all of the seat's roots in one cut). By AI agents, Wed Nov 11 2026. No macro, syntax, notation, axiom, sorry.
-/
import Derived.Test.YtencdigomkbmgaaGreatDoorChecked
import GoSem.Claim
import GoSem.ClaimJoined
import GoSem.ClaimMapViews
import Derived.JoinedTies
import Derived.KernelRfl
namespace Go.Proofs.YtencdigomkbmgaaGreatDoor
/- THE CELL 'sum', in the pinned program and in every row, IS THE sha256 OF THE DUMP (.gsa) THAT YtencdigomkbmgaaGreatDoorProg.lean LOADS. Nothing in Lean hashes anything: it is a label: what it is worth is what the hold of that sum in a sandbox is worth. -/
noncomputable def Tryz.pinned : Pinned := { name := "ytencdigomkbmgaagreatdoor", sum := "dcb0a42a0d0e8fd22ee3c7a77b15937de86306c4a94b6024259f55e9dad6b9e3", checked := Tryz.checked }
namespace Rows
def none {H : Type} : Left H := { results := [], args := [] }

/- WHAT THE LISTED PACKAGE-LEVEL VARIABLES READ AS WHEN THE CALL BEGINS. Each datum BY PROGRAM (the guide's laid-datum.mjs) off the statement by which the dump's own 'gosem.cut.vars' lays the variable. In a bare row this is a premise. The card (YtencdigomkbmgaaGreatDoorCards.lean) ties it to the program's text. -/
def laid_nosale_sales_slipKinds {H : Type} : DataW H := .iface "func table" (.agg [.agg [.lit (.string [115, 111, 108, 100]), .lit (.int .i64 4), .nil], .agg [.lit (.string [99, 114, 101, 100, 105, 116]), .lit (.int .i64 4), .nil], .agg [.lit (.string [103, 105, 118, 101, 110]), .lit (.int .i64 4), .nil], .agg [.lit (.string [98, 97, 99, 107]), .lit (.int .i64 4), .iface "func" (.lit (.string [110, 111, 115, 97, 108, 101, 47, 115, 97, 108, 101, 115, 46, 105, 115, 71, 111, 111, 100, 115]))], .agg [.lit (.string [112, 97, 105, 100]), .lit (.int .i64 0), .nil], .agg [.lit (.string [102, 105, 120]), .lit (.int .i64 0), .iface "func" (.lit (.string [110, 111, 115, 97, 108, 101, 47, 115, 97, 108, 101, 115, 46, 115, 108, 105, 112, 75, 105, 110, 100, 115, 36, 49]))]])
def laid_nosale_sales_sumKinds {H : Type} : DataW H := .iface "func table" (.agg [.agg [.lit (.string [99, 97, 115, 104]), .lit (.int .i64 0), .iface "func" (.lit (.string [110, 111, 115, 97, 108, 101, 47, 115, 97, 108, 101, 115, 46, 115, 117, 109, 75, 105, 110, 100, 115, 36, 49]))], .agg [.lit (.string [100, 101, 112, 116]), .lit (.int .i64 4), .iface "func" (.lit (.string [110, 111, 115, 97, 108, 101, 47, 115, 97, 108, 101, 115, 46, 115, 117, 109, 75, 105, 110, 100, 115, 36, 50]))], .agg [.lit (.string [99, 108, 101, 114, 107]), .lit (.int .i64 3), .iface "func" (.lit (.string [110, 111, 115, 97, 108, 101, 47, 115, 97, 108, 101, 115, 46, 115, 117, 109, 75, 105, 110, 100, 115, 36, 51]))], .agg [.lit (.string [100, 101, 98, 116]), .lit (.int .i64 0), .iface "func" (.lit (.string [110, 111, 115, 97, 108, 101, 47, 115, 97, 108, 101, 115, 46, 115, 117, 109, 75, 105, 110, 100, 115, 36, 52]))], .agg [.lit (.string [103, 105, 102, 116, 115]), .lit (.int .i64 0), .iface "func" (.lit (.string [110, 111, 115, 97, 108, 101, 47, 115, 97, 108, 101, 115, 46, 115, 117, 109, 75, 105, 110, 100, 115, 36, 53]))]])
def laid_nosale_stock_moveKinds {H : Type} : DataW H := .iface "func table" (.agg [.agg [.lit (.string [99, 97, 109, 101]), .iface "func" (.lit (.string [110, 111, 115, 97, 108, 101, 47, 115, 116, 111, 99, 107, 46, 109, 111, 114, 101]))], .agg [.lit (.string [115, 111, 108, 100]), .iface "func" (.lit (.string [110, 111, 115, 97, 108, 101, 47, 115, 116, 111, 99, 107, 46, 108, 101, 115, 115]))], .agg [.lit (.string [108, 111, 115, 116]), .iface "func" (.lit (.string [110, 111, 115, 97, 108, 101, 47, 115, 116, 111, 99, 107, 46, 108, 101, 115, 115]))], .agg [.lit (.string [103, 105, 118, 101, 110]), .iface "func" (.lit (.string [110, 111, 115, 97, 108, 101, 47, 115, 116, 111, 99, 107, 46, 108, 101, 115, 115]))], .agg [.lit (.string [98, 97, 99, 107]), .iface "func" (.lit (.string [110, 111, 115, 97, 108, 101, 47, 115, 116, 111, 99, 107, 46, 109, 111, 114, 101]))]])
def laid_nosale_stock_checks {H : Type} : DataW H := .iface "func table" (.agg [.iface "func" (.lit (.string [40, 110, 111, 115, 97, 108, 101, 47, 115, 116, 111, 99, 107, 46, 98, 111, 111, 107, 41, 46, 104, 101, 97, 100])), .iface "func" (.lit (.string [40, 110, 111, 115, 97, 108, 101, 47, 115, 116, 111, 99, 107, 46, 98, 111, 111, 107, 41, 46, 103, 111, 111, 100, 115])), .iface "func" (.lit (.string [40, 110, 111, 115, 97, 108, 101, 47, 115, 116, 111, 99, 107, 46, 98, 111, 111, 107, 41, 46, 109, 111, 118, 101, 115])), .iface "func" (.lit (.string [40, 110, 111, 115, 97, 108, 101, 47, 115, 116, 111, 99, 107, 46, 98, 111, 111, 107, 41, 46, 99, 111, 117, 110, 116, 115]))])
def laid_nosale_change_checks {H : Type} : DataW H := .iface "func table" (.agg [.iface "func" (.lit (.string [40, 110, 111, 115, 97, 108, 101, 47, 99, 104, 97, 110, 103, 101, 46, 98, 111, 111, 107, 41, 46, 107, 105, 110, 100, 115])), .iface "func" (.lit (.string [40, 110, 111, 115, 97, 108, 101, 47, 99, 104, 97, 110, 103, 101, 46, 98, 111, 111, 107, 41, 46, 100, 114, 97, 119, 101, 114, 115])), .iface "func" (.lit (.string [40, 110, 111, 115, 97, 108, 101, 47, 99, 104, 97, 110, 103, 101, 46, 98, 111, 111, 107, 41, 46, 115, 97, 108, 101, 115])), .iface "func" (.lit (.string [40, 110, 111, 115, 97, 108, 101, 47, 99, 104, 97, 110, 103, 101, 46, 98, 111, 111, 107, 41, 46, 102, 105, 114, 115, 116, 115])), .iface "func" (.lit (.string [40, 110, 111, 115, 97, 108, 101, 47, 99, 104, 97, 110, 103, 101, 46, 98, 111, 111, 107, 41, 46, 99, 111, 117, 110, 116, 115]))])

/-- 'nosalelaw08.StockPaid': WHATEVER THE INPUT: true; the input reads as it did. -/
def stockPaidSpec : ChangeSpec := { name := "stockPaid", fn := fun _ => fun
  | [d1, d2] => { results := [.lit (.bool true)], args := [d1, d2] }
  | _ => none }
def stockPaidRow : OpenClaim := { program := "ytencdigomkbmgaagreatdoor", sum := "dcb0a42a0d0e8fd22ee3c7a77b15937de86306c4a94b6024259f55e9dad6b9e3", func := "nosale/nosalelaw08.StockPaid", spec := "stockPaid", unfollowed := true, recurses := true, named := ["nosale/stock.checks", "nosale/stock.moveKinds", "nosale/sales.sumKinds", "nosale/sales.slipKinds"], plainKeys := false, leaving := true, apart := false, laid := [("nosale/sales.slipKinds", laid_nosale_sales_slipKinds), ("nosale/sales.sumKinds", laid_nosale_sales_sumKinds), ("nosale/stock.moveKinds", laid_nosale_stock_moveKinds), ("nosale/stock.checks", laid_nosale_stock_checks)] }
def StockPaidSaid : Prop := stockPaidRow.holds Tryz.pinned (OpenSpec.ofChange stockPaidSpec)

/-- ITS FALSE NEIGHBOUR: 'it returns false'. Refute it at one input. -/
def stockPaidWrong : ChangeSpec := { name := "stockPaid", fn := fun _ => fun
  | [d1, d2] => { results := [.lit (.bool false)], args := [d1, d2] }
  | _ => none }
def StockPaidWrongFalsely : Prop := stockPaidRow.holds Tryz.pinned (OpenSpec.ofChange stockPaidWrong)

/-- 'nosalelaw08.StockCoins': WHATEVER THE INPUT: true; the input reads as it did. -/
def stockCoinsSpec : ChangeSpec := { name := "stockCoins", fn := fun _ => fun
  | [d1, d2, d3] => { results := [.lit (.bool true)], args := [d1, d2, d3] }
  | _ => none }
def stockCoinsRow : OpenClaim := { program := "ytencdigomkbmgaagreatdoor", sum := "dcb0a42a0d0e8fd22ee3c7a77b15937de86306c4a94b6024259f55e9dad6b9e3", func := "nosale/nosalelaw08.StockCoins", spec := "stockCoins", unfollowed := true, recurses := true, named := ["nosale/stock.checks", "nosale/stock.moveKinds", "nosale/change.checks"], plainKeys := false, leaving := true, apart := false, laid := [("nosale/change.checks", laid_nosale_change_checks), ("nosale/stock.moveKinds", laid_nosale_stock_moveKinds), ("nosale/stock.checks", laid_nosale_stock_checks)] }
def StockCoinsSaid : Prop := stockCoinsRow.holds Tryz.pinned (OpenSpec.ofChange stockCoinsSpec)

/-- ITS FALSE NEIGHBOUR: 'it returns false'. Refute it at one input. -/
def stockCoinsWrong : ChangeSpec := { name := "stockCoins", fn := fun _ => fun
  | [d1, d2, d3] => { results := [.lit (.bool false)], args := [d1, d2, d3] }
  | _ => none }
def StockCoinsWrongFalsely : Prop := stockCoinsRow.holds Tryz.pinned (OpenSpec.ofChange stockCoinsWrong)

/- THE SECOND FORM. 'bulk': how many values and letters a reading holds, each counted each time it is reached (what is shared counts as often as it is met; a slice's spare places count too). A statement '..UptoSaid' is the law's where the arguments, and the package variables that the reading takes, are together of bulk at most 1048576: NARROWER than '..Said'. Prove '..Said' where nothing that the law and all that it calls make is longer than what came in: it says more and counts as full. Else prove '..UptoSaid'. A law counts once. -/
mutual
def uptoBulk {H : Type} : DataW H → Nat
  | .lit (.string bytes) => bytes.length + 1
  | .lit _ => 1
  | .nil => 1
  | .ptr d => uptoBulk d + 1
  | .slice elems spare => uptoBulkAll elems + uptoBulkAll spare + 1
  | .agg parts => uptoBulkAll parts + 1
  | .iface _ d => uptoBulk d + 1
  | .map entries => uptoBulkEntries entries + 1
  | .held _ => 1
def uptoBulkAll {H : Type} : List (DataW H) → Nat
  | [] => 0
  | d :: r => uptoBulk d + uptoBulkAll r
def uptoBulkEntries {H : Type} : List (Lit × DataW H) → Nat
  | [] => 0
  | x :: r => uptoBulkEntry x + uptoBulkEntries r
def uptoBulkEntry {H : Type} : Lit × DataW H → Nat
  | (.string bytes, d) => bytes.length + uptoBulk d + 1
  | (_, d) => uptoBulk d + 1
 end
def uptoSmall : (H : Type) → List (DataW H) → Bool := fun _ ds => decide (uptoBulkAll ds ≤ 1048576)
def OpenSpec.upto (s : _root_.Go.ChangeSpec) : _root_.Go.OpenSpec := { _root_.Go.OpenSpec.ofChange s with cond := some uptoSmall }

/-- 'nosalelaw08.StockPaid', WHERE WHAT IT READS IS OF BULK AT MOST 1048576: true; the input reads as it did. -/
def stockPaidUptoRow : OpenClaim := { program := "ytencdigomkbmgaagreatdoor", sum := "dcb0a42a0d0e8fd22ee3c7a77b15937de86306c4a94b6024259f55e9dad6b9e3", func := "nosale/nosalelaw08.StockPaid", spec := "stockPaid", unfollowed := true, recurses := true, named := ["nosale/stock.checks", "nosale/stock.moveKinds", "nosale/sales.sumKinds", "nosale/sales.slipKinds"], plainKeys := false, leaving := true, apart := false, laid := [("nosale/sales.slipKinds", laid_nosale_sales_slipKinds), ("nosale/sales.sumKinds", laid_nosale_sales_sumKinds), ("nosale/stock.moveKinds", laid_nosale_stock_moveKinds), ("nosale/stock.checks", laid_nosale_stock_checks)], narrowed := true }
def StockPaidUptoSaid : Prop := stockPaidUptoRow.holds Tryz.pinned (OpenSpec.upto stockPaidSpec)

/-- 'nosalelaw08.StockCoins', WHERE WHAT IT READS IS OF BULK AT MOST 1048576: true; the input reads as it did. -/
def stockCoinsUptoRow : OpenClaim := { program := "ytencdigomkbmgaagreatdoor", sum := "dcb0a42a0d0e8fd22ee3c7a77b15937de86306c4a94b6024259f55e9dad6b9e3", func := "nosale/nosalelaw08.StockCoins", spec := "stockCoins", unfollowed := true, recurses := true, named := ["nosale/stock.checks", "nosale/stock.moveKinds", "nosale/change.checks"], plainKeys := false, leaving := true, apart := false, laid := [("nosale/change.checks", laid_nosale_change_checks), ("nosale/stock.moveKinds", laid_nosale_stock_moveKinds), ("nosale/stock.checks", laid_nosale_stock_checks)], narrowed := true }
def StockCoinsUptoSaid : Prop := stockCoinsUptoRow.holds Tryz.pinned (OpenSpec.upto stockCoinsSpec)

end Rows
end Go.Proofs.YtencdigomkbmgaaGreatDoor
