/-
  NARROWER THAN 'FOR EVERY INPUT', by the rows' own cells (each row's printed sentence says how): StockParts: laid.
  DERIVED. THE GIVEN ROWS OF THIS SEAT. 1 by the template 'for every input the law returns true; each argument reads behind the call as it read before'; 0 by the template 'total and deterministic' (their statements: YtmonefdapnifhaaGreatDoorTotals.lean).
  GIVEN WITH THE SEED: the statements are not yours to turn. If you find one false, say at which input.
  Laid BY PROGRAM, IN A SANDBOX (cutbox-rows.mjs): the forced cells as the released guide's own fill.sh prints them over the translation d5f376df1550f16d… (all of the seat's roots in one cut). By AI agents, Wed Nov 11 2026. No macro, syntax, notation, axiom, sorry.
-/
import Derived.Test.YtmonefdapnifhaaGreatDoorChecked
import GoSem.Claim
import GoSem.ClaimJoined
import GoSem.ClaimMapViews
import Derived.JoinedTies
import Derived.KernelRfl
namespace Go.Proofs.YtmonefdapnifhaaGreatDoor
/- THE CELL 'sum', in the pinned program and in every row, IS THE sha256 OF THE DUMP (.gsa) THAT YtmonefdapnifhaaGreatDoorProg.lean LOADS. Nothing in Lean hashes anything: it is a label: what it is worth is what the hold of that sum in a sandbox is worth. -/
noncomputable def Tryz.pinned : Pinned := { name := "ytmonefdapnifhaagreatdoor", sum := "d5f376df1550f16dcdfcfe1fd80ddc649103c5d6272a13d1da6117553260163f", checked := Tryz.checked }
namespace Rows
def none {H : Type} : Left H := { results := [], args := [] }

/- WHAT THE LISTED PACKAGE-LEVEL VARIABLES READ AS WHEN THE CALL BEGINS. Each datum BY PROGRAM (the guide's laid-datum.mjs) off the statement by which the dump's own 'gosem.cut.vars' lays the variable. In a bare row this is a premise. The card (YtmonefdapnifhaaGreatDoorCards.lean) ties it to the program's text. -/
def laid_nosale_build_checks {H : Type} : DataW H := .iface "func table" (.agg [.iface "func" (.lit (.string [40, 110, 111, 115, 97, 108, 101, 47, 98, 117, 105, 108, 100, 46, 98, 111, 111, 107, 41, 46, 111, 114, 100, 101, 114])), .iface "func" (.lit (.string [40, 110, 111, 115, 97, 108, 101, 47, 98, 117, 105, 108, 100, 46, 98, 111, 111, 107, 41, 46, 112, 97, 114, 116, 115])), .iface "func" (.lit (.string [40, 110, 111, 115, 97, 108, 101, 47, 98, 117, 105, 108, 100, 46, 98, 111, 111, 107, 41, 46, 112, 97, 105, 114, 115])), .iface "func" (.lit (.string [40, 110, 111, 115, 97, 108, 101, 47, 98, 117, 105, 108, 100, 46, 98, 111, 111, 107, 41, 46, 116, 114, 105, 97, 108, 115]))])
def laid_nosale_stock_moveKinds {H : Type} : DataW H := .iface "func table" (.agg [.agg [.lit (.string [99, 97, 109, 101]), .iface "func" (.lit (.string [110, 111, 115, 97, 108, 101, 47, 115, 116, 111, 99, 107, 46, 109, 111, 114, 101]))], .agg [.lit (.string [115, 111, 108, 100]), .iface "func" (.lit (.string [110, 111, 115, 97, 108, 101, 47, 115, 116, 111, 99, 107, 46, 108, 101, 115, 115]))], .agg [.lit (.string [108, 111, 115, 116]), .iface "func" (.lit (.string [110, 111, 115, 97, 108, 101, 47, 115, 116, 111, 99, 107, 46, 108, 101, 115, 115]))], .agg [.lit (.string [103, 105, 118, 101, 110]), .iface "func" (.lit (.string [110, 111, 115, 97, 108, 101, 47, 115, 116, 111, 99, 107, 46, 108, 101, 115, 115]))], .agg [.lit (.string [98, 97, 99, 107]), .iface "func" (.lit (.string [110, 111, 115, 97, 108, 101, 47, 115, 116, 111, 99, 107, 46, 109, 111, 114, 101]))]])
def laid_nosale_stock_checks {H : Type} : DataW H := .iface "func table" (.agg [.iface "func" (.lit (.string [40, 110, 111, 115, 97, 108, 101, 47, 115, 116, 111, 99, 107, 46, 98, 111, 111, 107, 41, 46, 104, 101, 97, 100])), .iface "func" (.lit (.string [40, 110, 111, 115, 97, 108, 101, 47, 115, 116, 111, 99, 107, 46, 98, 111, 111, 107, 41, 46, 103, 111, 111, 100, 115])), .iface "func" (.lit (.string [40, 110, 111, 115, 97, 108, 101, 47, 115, 116, 111, 99, 107, 46, 98, 111, 111, 107, 41, 46, 109, 111, 118, 101, 115])), .iface "func" (.lit (.string [40, 110, 111, 115, 97, 108, 101, 47, 115, 116, 111, 99, 107, 46, 98, 111, 111, 107, 41, 46, 99, 111, 117, 110, 116, 115]))])

/-- 'nosalelaw08.StockParts': WHATEVER THE INPUT: true; the input reads as it did. -/
def stockPartsSpec : ChangeSpec := { name := "stockParts", fn := fun _ => fun
  | [d1, d2] => { results := [.lit (.bool true)], args := [d1, d2] }
  | _ => none }
def stockPartsRow : OpenClaim := { program := "ytmonefdapnifhaagreatdoor", sum := "d5f376df1550f16dcdfcfe1fd80ddc649103c5d6272a13d1da6117553260163f", func := "nosale/nosalelaw08.StockParts", spec := "stockParts", unfollowed := true, recurses := true, named := ["nosale/stock.checks", "nosale/stock.moveKinds", "nosale/build.checks"], plainKeys := false, leaving := true, apart := false, laid := [("nosale/build.checks", laid_nosale_build_checks), ("nosale/stock.moveKinds", laid_nosale_stock_moveKinds), ("nosale/stock.checks", laid_nosale_stock_checks)] }
def StockPartsSaid : Prop := stockPartsRow.holds Tryz.pinned (OpenSpec.ofChange stockPartsSpec)

/-- ITS FALSE NEIGHBOUR: 'it returns false'. Refute it at one input. -/
def stockPartsWrong : ChangeSpec := { name := "stockParts", fn := fun _ => fun
  | [d1, d2] => { results := [.lit (.bool false)], args := [d1, d2] }
  | _ => none }
def StockPartsWrongFalsely : Prop := stockPartsRow.holds Tryz.pinned (OpenSpec.ofChange stockPartsWrong)

/- THE SECOND FORM. 'bulk': how many values and letters a reading holds, each counted each time it is reached (what is shared counts as often as it is met; a slice's spare places count too). A statement '..UptoSaid' is the law's where the arguments, and the package variables that the reading takes, are together of bulk at most 1048576: NARROWER than '..Said'. Prove '..Said' where nothing that the law and all that it calls make is longer than what came in: it says more and counts as full. Else prove '..UptoSaid'. A law counts once. -/
mutual
def uptoBulk {H : Type} : DataW H → Nat
  | .lit (.string bytes) => bytes.length + 1
  | .lit _ => 1
  | .nil => 1
  | .ptr d => uptoBulk d + 1
  | .slice elems spare => uptoBulkAll elems + uptoBulkAll spare + 1
  | .agg parts => uptoBulkAll parts + 1
  | .iface _ d => uptoBulk d + 1
  | .map entries => uptoBulkEntries entries + 1
  | .held _ => 1
def uptoBulkAll {H : Type} : List (DataW H) → Nat
  | [] => 0
  | d :: r => uptoBulk d + uptoBulkAll r
def uptoBulkEntries {H : Type} : List (Lit × DataW H) → Nat
  | [] => 0
  | x :: r => uptoBulkEntry x + uptoBulkEntries r
def uptoBulkEntry {H : Type} : Lit × DataW H → Nat
  | (.string bytes, d) => bytes.length + uptoBulk d + 1
  | (_, d) => uptoBulk d + 1
 end
def uptoSmall : (H : Type) → List (DataW H) → Bool := fun _ ds => decide (uptoBulkAll ds ≤ 1048576)
def OpenSpec.upto (s : _root_.Go.ChangeSpec) : _root_.Go.OpenSpec := { _root_.Go.OpenSpec.ofChange s with cond := some uptoSmall }

/-- 'nosalelaw08.StockParts', WHERE WHAT IT READS IS OF BULK AT MOST 1048576: true; the input reads as it did. -/
def stockPartsUptoRow : OpenClaim := { program := "ytmonefdapnifhaagreatdoor", sum := "d5f376df1550f16dcdfcfe1fd80ddc649103c5d6272a13d1da6117553260163f", func := "nosale/nosalelaw08.StockParts", spec := "stockParts", unfollowed := true, recurses := true, named := ["nosale/stock.checks", "nosale/stock.moveKinds", "nosale/build.checks"], plainKeys := false, leaving := true, apart := false, laid := [("nosale/build.checks", laid_nosale_build_checks), ("nosale/stock.moveKinds", laid_nosale_stock_moveKinds), ("nosale/stock.checks", laid_nosale_stock_checks)], narrowed := true }
def StockPartsUptoSaid : Prop := stockPartsUptoRow.holds Tryz.pinned (OpenSpec.upto stockPartsSpec)

end Rows
end Go.Proofs.YtmonefdapnifhaaGreatDoor
