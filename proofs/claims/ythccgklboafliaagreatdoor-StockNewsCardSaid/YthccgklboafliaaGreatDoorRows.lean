/-
  NARROWER THAN 'FOR EVERY INPUT', by the rows' own cells (each row's printed sentence says how): StockPlans: laid · StockMoves: laid · StockReal: laid · StockReached: laid · StockNoted: laid · StockAsked: laid · StockEntered: laid · StockTold: laid · StockNews: laid.
  DERIVED. THE GIVEN ROWS OF THIS SEAT. 9 by the template 'for every input the law returns true; each argument reads behind the call as it read before'; 0 by the template 'total and deterministic' (their statements: YthccgklboafliaaGreatDoorTotals.lean).
  GIVEN WITH THE SEED: the statements are not yours to turn. If you find one false, say at which input.
  Laid BY PROGRAM, IN A SANDBOX (cutbox-rows.mjs): the forced cells as the released guide's own fill.sh prints them over the translation f70e488ad1280a49… (all of the seat's roots in one cut). By AI agents, Wed Nov 11 2026. No macro, syntax, notation, axiom, sorry.
-/
import Derived.Test.YthccgklboafliaaGreatDoorChecked
import GoSem.Claim
import GoSem.ClaimJoined
import GoSem.ClaimMapViews
import Derived.JoinedTies
import Derived.KernelRfl
namespace Go.Proofs.YthccgklboafliaaGreatDoor
/- THE CELL 'sum', in the pinned program and in every row, IS THE sha256 OF THE DUMP (.gsa) THAT YthccgklboafliaaGreatDoorProg.lean LOADS. Nothing in Lean hashes anything: it is a label: what it is worth is what the hold of that sum in a sandbox is worth. -/
noncomputable def Tryz.pinned : Pinned := { name := "ythccgklboafliaagreatdoor", sum := "f70e488ad1280a49ba1036f21f3931bb3095731633272a6b0a67027b14cb0626", checked := Tryz.checked }
namespace Rows
def none {H : Type} : Left H := { results := [], args := [] }

/- WHAT THE LISTED PACKAGE-LEVEL VARIABLES READ AS WHEN THE CALL BEGINS. Each datum BY PROGRAM (the guide's laid-datum.mjs) off the statement by which the dump's own 'gosem.cut.vars' lays the variable. In a bare row this is a premise. The card (YthccgklboafliaaGreatDoorCards.lean) ties it to the program's text. -/
def laid_nosale_stock_moveKinds {H : Type} : DataW H := .iface "func table" (.agg [.agg [.lit (.string [99, 97, 109, 101]), .iface "func" (.lit (.string [110, 111, 115, 97, 108, 101, 47, 115, 116, 111, 99, 107, 46, 109, 111, 114, 101]))], .agg [.lit (.string [115, 111, 108, 100]), .iface "func" (.lit (.string [110, 111, 115, 97, 108, 101, 47, 115, 116, 111, 99, 107, 46, 108, 101, 115, 115]))], .agg [.lit (.string [108, 111, 115, 116]), .iface "func" (.lit (.string [110, 111, 115, 97, 108, 101, 47, 115, 116, 111, 99, 107, 46, 108, 101, 115, 115]))], .agg [.lit (.string [103, 105, 118, 101, 110]), .iface "func" (.lit (.string [110, 111, 115, 97, 108, 101, 47, 115, 116, 111, 99, 107, 46, 108, 101, 115, 115]))], .agg [.lit (.string [98, 97, 99, 107]), .iface "func" (.lit (.string [110, 111, 115, 97, 108, 101, 47, 115, 116, 111, 99, 107, 46, 109, 111, 114, 101]))]])
def laid_nosale_stock_checks {H : Type} : DataW H := .iface "func table" (.agg [.iface "func" (.lit (.string [40, 110, 111, 115, 97, 108, 101, 47, 115, 116, 111, 99, 107, 46, 98, 111, 111, 107, 41, 46, 104, 101, 97, 100])), .iface "func" (.lit (.string [40, 110, 111, 115, 97, 108, 101, 47, 115, 116, 111, 99, 107, 46, 98, 111, 111, 107, 41, 46, 103, 111, 111, 100, 115])), .iface "func" (.lit (.string [40, 110, 111, 115, 97, 108, 101, 47, 115, 116, 111, 99, 107, 46, 98, 111, 111, 107, 41, 46, 109, 111, 118, 101, 115])), .iface "func" (.lit (.string [40, 110, 111, 115, 97, 108, 101, 47, 115, 116, 111, 99, 107, 46, 98, 111, 111, 107, 41, 46, 99, 111, 117, 110, 116, 115]))])

/-- 'nosalelaw08.StockPlans': WHATEVER THE INPUT: true; the input reads as it did. -/
def stockPlansSpec : ChangeSpec := { name := "stockPlans", fn := fun _ => fun
  | [d1, d2, d3, d4, d5, d6, d7] => { results := [.lit (.bool true)], args := [d1, d2, d3, d4, d5, d6, d7] }
  | _ => none }
def stockPlansRow : OpenClaim := { program := "ythccgklboafliaagreatdoor", sum := "f70e488ad1280a49ba1036f21f3931bb3095731633272a6b0a67027b14cb0626", func := "nosale/nosalelaw08.StockPlans", spec := "stockPlans", unfollowed := true, recurses := true, named := ["nosale/stock.checks", "nosale/stock.moveKinds"], plainKeys := false, leaving := true, apart := false, laid := [("nosale/stock.moveKinds", laid_nosale_stock_moveKinds), ("nosale/stock.checks", laid_nosale_stock_checks)] }
def StockPlansSaid : Prop := stockPlansRow.holds Tryz.pinned (OpenSpec.ofChange stockPlansSpec)

/-- ITS FALSE NEIGHBOUR: 'it returns false'. Refute it at one input. -/
def stockPlansWrong : ChangeSpec := { name := "stockPlans", fn := fun _ => fun
  | [d1, d2, d3, d4, d5, d6, d7] => { results := [.lit (.bool false)], args := [d1, d2, d3, d4, d5, d6, d7] }
  | _ => none }
def StockPlansWrongFalsely : Prop := stockPlansRow.holds Tryz.pinned (OpenSpec.ofChange stockPlansWrong)

/-- 'nosalelaw08.StockMoves': WHATEVER THE INPUT: true; the input reads as it did. -/
def stockMovesSpec : ChangeSpec := { name := "stockMoves", fn := fun _ => fun
  | [d1, d2, d3, d4, d5, d6, d7] => { results := [.lit (.bool true)], args := [d1, d2, d3, d4, d5, d6, d7] }
  | _ => none }
def stockMovesRow : OpenClaim := { program := "ythccgklboafliaagreatdoor", sum := "f70e488ad1280a49ba1036f21f3931bb3095731633272a6b0a67027b14cb0626", func := "nosale/nosalelaw08.StockMoves", spec := "stockMoves", unfollowed := true, recurses := true, named := ["nosale/stock.checks", "nosale/stock.moveKinds"], plainKeys := false, leaving := true, apart := false, laid := [("nosale/stock.moveKinds", laid_nosale_stock_moveKinds), ("nosale/stock.checks", laid_nosale_stock_checks)] }
def StockMovesSaid : Prop := stockMovesRow.holds Tryz.pinned (OpenSpec.ofChange stockMovesSpec)

/-- ITS FALSE NEIGHBOUR: 'it returns false'. Refute it at one input. -/
def stockMovesWrong : ChangeSpec := { name := "stockMoves", fn := fun _ => fun
  | [d1, d2, d3, d4, d5, d6, d7] => { results := [.lit (.bool false)], args := [d1, d2, d3, d4, d5, d6, d7] }
  | _ => none }
def StockMovesWrongFalsely : Prop := stockMovesRow.holds Tryz.pinned (OpenSpec.ofChange stockMovesWrong)

/-- 'nosalelaw08.StockReal': WHATEVER THE INPUT: true; the input reads as it did. -/
def stockRealSpec : ChangeSpec := { name := "stockReal", fn := fun _ => fun
  | [d1, d2, d3, d4, d5, d6, d7] => { results := [.lit (.bool true)], args := [d1, d2, d3, d4, d5, d6, d7] }
  | _ => none }
def stockRealRow : OpenClaim := { program := "ythccgklboafliaagreatdoor", sum := "f70e488ad1280a49ba1036f21f3931bb3095731633272a6b0a67027b14cb0626", func := "nosale/nosalelaw08.StockReal", spec := "stockReal", unfollowed := true, recurses := true, named := ["nosale/stock.checks", "nosale/stock.moveKinds"], plainKeys := false, leaving := true, apart := false, laid := [("nosale/stock.moveKinds", laid_nosale_stock_moveKinds), ("nosale/stock.checks", laid_nosale_stock_checks)] }
def StockRealSaid : Prop := stockRealRow.holds Tryz.pinned (OpenSpec.ofChange stockRealSpec)

/-- ITS FALSE NEIGHBOUR: 'it returns false'. Refute it at one input. -/
def stockRealWrong : ChangeSpec := { name := "stockReal", fn := fun _ => fun
  | [d1, d2, d3, d4, d5, d6, d7] => { results := [.lit (.bool false)], args := [d1, d2, d3, d4, d5, d6, d7] }
  | _ => none }
def StockRealWrongFalsely : Prop := stockRealRow.holds Tryz.pinned (OpenSpec.ofChange stockRealWrong)

/-- 'nosalelaw08.StockReached': WHATEVER THE INPUT: true; the input reads as it did. -/
def stockReachedSpec : ChangeSpec := { name := "stockReached", fn := fun _ => fun
  | [d1, d2, d3, d4, d5] => { results := [.lit (.bool true)], args := [d1, d2, d3, d4, d5] }
  | _ => none }
def stockReachedRow : OpenClaim := { program := "ythccgklboafliaagreatdoor", sum := "f70e488ad1280a49ba1036f21f3931bb3095731633272a6b0a67027b14cb0626", func := "nosale/nosalelaw08.StockReached", spec := "stockReached", unfollowed := true, recurses := true, named := ["nosale/stock.checks", "nosale/stock.moveKinds"], plainKeys := false, leaving := true, apart := false, laid := [("nosale/stock.moveKinds", laid_nosale_stock_moveKinds), ("nosale/stock.checks", laid_nosale_stock_checks)] }
def StockReachedSaid : Prop := stockReachedRow.holds Tryz.pinned (OpenSpec.ofChange stockReachedSpec)

/-- ITS FALSE NEIGHBOUR: 'it returns false'. Refute it at one input. -/
def stockReachedWrong : ChangeSpec := { name := "stockReached", fn := fun _ => fun
  | [d1, d2, d3, d4, d5] => { results := [.lit (.bool false)], args := [d1, d2, d3, d4, d5] }
  | _ => none }
def StockReachedWrongFalsely : Prop := stockReachedRow.holds Tryz.pinned (OpenSpec.ofChange stockReachedWrong)

/-- 'nosalelaw08.StockNoted': WHATEVER THE INPUT: true; the input reads as it did. -/
def stockNotedSpec : ChangeSpec := { name := "stockNoted", fn := fun _ => fun
  | [d1, d2, d3, d4] => { results := [.lit (.bool true)], args := [d1, d2, d3, d4] }
  | _ => none }
def stockNotedRow : OpenClaim := { program := "ythccgklboafliaagreatdoor", sum := "f70e488ad1280a49ba1036f21f3931bb3095731633272a6b0a67027b14cb0626", func := "nosale/nosalelaw08.StockNoted", spec := "stockNoted", unfollowed := true, recurses := true, named := ["nosale/stock.checks", "nosale/stock.moveKinds"], plainKeys := false, leaving := true, apart := false, laid := [("nosale/stock.moveKinds", laid_nosale_stock_moveKinds), ("nosale/stock.checks", laid_nosale_stock_checks)] }
def StockNotedSaid : Prop := stockNotedRow.holds Tryz.pinned (OpenSpec.ofChange stockNotedSpec)

/-- ITS FALSE NEIGHBOUR: 'it returns false'. Refute it at one input. -/
def stockNotedWrong : ChangeSpec := { name := "stockNoted", fn := fun _ => fun
  | [d1, d2, d3, d4] => { results := [.lit (.bool false)], args := [d1, d2, d3, d4] }
  | _ => none }
def StockNotedWrongFalsely : Prop := stockNotedRow.holds Tryz.pinned (OpenSpec.ofChange stockNotedWrong)

/-- 'nosalelaw08.StockAsked': WHATEVER THE INPUT: true; the input reads as it did. -/
def stockAskedSpec : ChangeSpec := { name := "stockAsked", fn := fun _ => fun
  | [d1, d2, d3, d4] => { results := [.lit (.bool true)], args := [d1, d2, d3, d4] }
  | _ => none }
def stockAskedRow : OpenClaim := { program := "ythccgklboafliaagreatdoor", sum := "f70e488ad1280a49ba1036f21f3931bb3095731633272a6b0a67027b14cb0626", func := "nosale/nosalelaw08.StockAsked", spec := "stockAsked", unfollowed := true, recurses := true, named := ["nosale/stock.checks", "nosale/stock.moveKinds"], plainKeys := false, leaving := true, apart := false, laid := [("nosale/stock.moveKinds", laid_nosale_stock_moveKinds), ("nosale/stock.checks", laid_nosale_stock_checks)] }
def StockAskedSaid : Prop := stockAskedRow.holds Tryz.pinned (OpenSpec.ofChange stockAskedSpec)

/-- ITS FALSE NEIGHBOUR: 'it returns false'. Refute it at one input. -/
def stockAskedWrong : ChangeSpec := { name := "stockAsked", fn := fun _ => fun
  | [d1, d2, d3, d4] => { results := [.lit (.bool false)], args := [d1, d2, d3, d4] }
  | _ => none }
def StockAskedWrongFalsely : Prop := stockAskedRow.holds Tryz.pinned (OpenSpec.ofChange stockAskedWrong)

/-- 'nosalelaw08.StockEntered': WHATEVER THE INPUT: true; the input reads as it did. -/
def stockEnteredSpec : ChangeSpec := { name := "stockEntered", fn := fun _ => fun
  | [d1, d2, d3, d4, d5] => { results := [.lit (.bool true)], args := [d1, d2, d3, d4, d5] }
  | _ => none }
def stockEnteredRow : OpenClaim := { program := "ythccgklboafliaagreatdoor", sum := "f70e488ad1280a49ba1036f21f3931bb3095731633272a6b0a67027b14cb0626", func := "nosale/nosalelaw08.StockEntered", spec := "stockEntered", unfollowed := true, recurses := true, named := ["nosale/stock.checks", "nosale/stock.moveKinds"], plainKeys := false, leaving := true, apart := false, laid := [("nosale/stock.moveKinds", laid_nosale_stock_moveKinds), ("nosale/stock.checks", laid_nosale_stock_checks)] }
def StockEnteredSaid : Prop := stockEnteredRow.holds Tryz.pinned (OpenSpec.ofChange stockEnteredSpec)

/-- ITS FALSE NEIGHBOUR: 'it returns false'. Refute it at one input. -/
def stockEnteredWrong : ChangeSpec := { name := "stockEntered", fn := fun _ => fun
  | [d1, d2, d3, d4, d5] => { results := [.lit (.bool false)], args := [d1, d2, d3, d4, d5] }
  | _ => none }
def StockEnteredWrongFalsely : Prop := stockEnteredRow.holds Tryz.pinned (OpenSpec.ofChange stockEnteredWrong)

/-- 'nosalelaw08.StockTold': WHATEVER THE INPUT: true; the input reads as it did. -/
def stockToldSpec : ChangeSpec := { name := "stockTold", fn := fun _ => fun
  | [d1, d2, d3, d4, d5] => { results := [.lit (.bool true)], args := [d1, d2, d3, d4, d5] }
  | _ => none }
def stockToldRow : OpenClaim := { program := "ythccgklboafliaagreatdoor", sum := "f70e488ad1280a49ba1036f21f3931bb3095731633272a6b0a67027b14cb0626", func := "nosale/nosalelaw08.StockTold", spec := "stockTold", unfollowed := true, recurses := true, named := ["nosale/stock.checks", "nosale/stock.moveKinds"], plainKeys := false, leaving := true, apart := false, laid := [("nosale/stock.moveKinds", laid_nosale_stock_moveKinds), ("nosale/stock.checks", laid_nosale_stock_checks)] }
def StockToldSaid : Prop := stockToldRow.holds Tryz.pinned (OpenSpec.ofChange stockToldSpec)

/-- ITS FALSE NEIGHBOUR: 'it returns false'. Refute it at one input. -/
def stockToldWrong : ChangeSpec := { name := "stockTold", fn := fun _ => fun
  | [d1, d2, d3, d4, d5] => { results := [.lit (.bool false)], args := [d1, d2, d3, d4, d5] }
  | _ => none }
def StockToldWrongFalsely : Prop := stockToldRow.holds Tryz.pinned (OpenSpec.ofChange stockToldWrong)

/-- 'nosalelaw08.StockNews': WHATEVER THE INPUT: true; the input reads as it did. -/
def stockNewsSpec : ChangeSpec := { name := "stockNews", fn := fun _ => fun
  | [d1, d2, d3, d4, d5] => { results := [.lit (.bool true)], args := [d1, d2, d3, d4, d5] }
  | _ => none }
def stockNewsRow : OpenClaim := { program := "ythccgklboafliaagreatdoor", sum := "f70e488ad1280a49ba1036f21f3931bb3095731633272a6b0a67027b14cb0626", func := "nosale/nosalelaw08.StockNews", spec := "stockNews", unfollowed := true, recurses := true, named := ["nosale/stock.checks", "nosale/stock.moveKinds"], plainKeys := false, leaving := true, apart := false, laid := [("nosale/stock.moveKinds", laid_nosale_stock_moveKinds), ("nosale/stock.checks", laid_nosale_stock_checks)] }
def StockNewsSaid : Prop := stockNewsRow.holds Tryz.pinned (OpenSpec.ofChange stockNewsSpec)

/-- ITS FALSE NEIGHBOUR: 'it returns false'. Refute it at one input. -/
def stockNewsWrong : ChangeSpec := { name := "stockNews", fn := fun _ => fun
  | [d1, d2, d3, d4, d5] => { results := [.lit (.bool false)], args := [d1, d2, d3, d4, d5] }
  | _ => none }
def StockNewsWrongFalsely : Prop := stockNewsRow.holds Tryz.pinned (OpenSpec.ofChange stockNewsWrong)

/- THE SECOND FORM. 'bulk': how many values and letters a reading holds, each counted each time it is reached (what is shared counts as often as it is met; a slice's spare places count too). A statement '..UptoSaid' is the law's where the arguments, and the package variables that the reading takes, are together of bulk at most 1048576: NARROWER than '..Said'. Prove '..Said' where nothing that the law and all that it calls make is longer than what came in: it says more and counts as full. Else prove '..UptoSaid'. A law counts once. -/
mutual
def uptoBulk {H : Type} : DataW H → Nat
  | .lit (.string bytes) => bytes.length + 1
  | .lit _ => 1
  | .nil => 1
  | .ptr d => uptoBulk d + 1
  | .slice elems spare => uptoBulkAll elems + uptoBulkAll spare + 1
  | .agg parts => uptoBulkAll parts + 1
  | .iface _ d => uptoBulk d + 1
  | .map entries => uptoBulkEntries entries + 1
  | .held _ => 1
def uptoBulkAll {H : Type} : List (DataW H) → Nat
  | [] => 0
  | d :: r => uptoBulk d + uptoBulkAll r
def uptoBulkEntries {H : Type} : List (Lit × DataW H) → Nat
  | [] => 0
  | x :: r => uptoBulkEntry x + uptoBulkEntries r
def uptoBulkEntry {H : Type} : Lit × DataW H → Nat
  | (.string bytes, d) => bytes.length + uptoBulk d + 1
  | (_, d) => uptoBulk d + 1
 end
def uptoSmall : (H : Type) → List (DataW H) → Bool := fun _ ds => decide (uptoBulkAll ds ≤ 1048576)
def OpenSpec.upto (s : _root_.Go.ChangeSpec) : _root_.Go.OpenSpec := { _root_.Go.OpenSpec.ofChange s with cond := some uptoSmall }

/-- 'nosalelaw08.StockPlans', WHERE WHAT IT READS IS OF BULK AT MOST 1048576: true; the input reads as it did. -/
def stockPlansUptoRow : OpenClaim := { program := "ythccgklboafliaagreatdoor", sum := "f70e488ad1280a49ba1036f21f3931bb3095731633272a6b0a67027b14cb0626", func := "nosale/nosalelaw08.StockPlans", spec := "stockPlans", unfollowed := true, recurses := true, named := ["nosale/stock.checks", "nosale/stock.moveKinds"], plainKeys := false, leaving := true, apart := false, laid := [("nosale/stock.moveKinds", laid_nosale_stock_moveKinds), ("nosale/stock.checks", laid_nosale_stock_checks)], narrowed := true }
def StockPlansUptoSaid : Prop := stockPlansUptoRow.holds Tryz.pinned (OpenSpec.upto stockPlansSpec)

/-- 'nosalelaw08.StockMoves', WHERE WHAT IT READS IS OF BULK AT MOST 1048576: true; the input reads as it did. -/
def stockMovesUptoRow : OpenClaim := { program := "ythccgklboafliaagreatdoor", sum := "f70e488ad1280a49ba1036f21f3931bb3095731633272a6b0a67027b14cb0626", func := "nosale/nosalelaw08.StockMoves", spec := "stockMoves", unfollowed := true, recurses := true, named := ["nosale/stock.checks", "nosale/stock.moveKinds"], plainKeys := false, leaving := true, apart := false, laid := [("nosale/stock.moveKinds", laid_nosale_stock_moveKinds), ("nosale/stock.checks", laid_nosale_stock_checks)], narrowed := true }
def StockMovesUptoSaid : Prop := stockMovesUptoRow.holds Tryz.pinned (OpenSpec.upto stockMovesSpec)

/-- 'nosalelaw08.StockReal', WHERE WHAT IT READS IS OF BULK AT MOST 1048576: true; the input reads as it did. -/
def stockRealUptoRow : OpenClaim := { program := "ythccgklboafliaagreatdoor", sum := "f70e488ad1280a49ba1036f21f3931bb3095731633272a6b0a67027b14cb0626", func := "nosale/nosalelaw08.StockReal", spec := "stockReal", unfollowed := true, recurses := true, named := ["nosale/stock.checks", "nosale/stock.moveKinds"], plainKeys := false, leaving := true, apart := false, laid := [("nosale/stock.moveKinds", laid_nosale_stock_moveKinds), ("nosale/stock.checks", laid_nosale_stock_checks)], narrowed := true }
def StockRealUptoSaid : Prop := stockRealUptoRow.holds Tryz.pinned (OpenSpec.upto stockRealSpec)

/-- 'nosalelaw08.StockReached', WHERE WHAT IT READS IS OF BULK AT MOST 1048576: true; the input reads as it did. -/
def stockReachedUptoRow : OpenClaim := { program := "ythccgklboafliaagreatdoor", sum := "f70e488ad1280a49ba1036f21f3931bb3095731633272a6b0a67027b14cb0626", func := "nosale/nosalelaw08.StockReached", spec := "stockReached", unfollowed := true, recurses := true, named := ["nosale/stock.checks", "nosale/stock.moveKinds"], plainKeys := false, leaving := true, apart := false, laid := [("nosale/stock.moveKinds", laid_nosale_stock_moveKinds), ("nosale/stock.checks", laid_nosale_stock_checks)], narrowed := true }
def StockReachedUptoSaid : Prop := stockReachedUptoRow.holds Tryz.pinned (OpenSpec.upto stockReachedSpec)

/-- 'nosalelaw08.StockNoted', WHERE WHAT IT READS IS OF BULK AT MOST 1048576: true; the input reads as it did. -/
def stockNotedUptoRow : OpenClaim := { program := "ythccgklboafliaagreatdoor", sum := "f70e488ad1280a49ba1036f21f3931bb3095731633272a6b0a67027b14cb0626", func := "nosale/nosalelaw08.StockNoted", spec := "stockNoted", unfollowed := true, recurses := true, named := ["nosale/stock.checks", "nosale/stock.moveKinds"], plainKeys := false, leaving := true, apart := false, laid := [("nosale/stock.moveKinds", laid_nosale_stock_moveKinds), ("nosale/stock.checks", laid_nosale_stock_checks)], narrowed := true }
def StockNotedUptoSaid : Prop := stockNotedUptoRow.holds Tryz.pinned (OpenSpec.upto stockNotedSpec)

/-- 'nosalelaw08.StockAsked', WHERE WHAT IT READS IS OF BULK AT MOST 1048576: true; the input reads as it did. -/
def stockAskedUptoRow : OpenClaim := { program := "ythccgklboafliaagreatdoor", sum := "f70e488ad1280a49ba1036f21f3931bb3095731633272a6b0a67027b14cb0626", func := "nosale/nosalelaw08.StockAsked", spec := "stockAsked", unfollowed := true, recurses := true, named := ["nosale/stock.checks", "nosale/stock.moveKinds"], plainKeys := false, leaving := true, apart := false, laid := [("nosale/stock.moveKinds", laid_nosale_stock_moveKinds), ("nosale/stock.checks", laid_nosale_stock_checks)], narrowed := true }
def StockAskedUptoSaid : Prop := stockAskedUptoRow.holds Tryz.pinned (OpenSpec.upto stockAskedSpec)

/-- 'nosalelaw08.StockEntered', WHERE WHAT IT READS IS OF BULK AT MOST 1048576: true; the input reads as it did. -/
def stockEnteredUptoRow : OpenClaim := { program := "ythccgklboafliaagreatdoor", sum := "f70e488ad1280a49ba1036f21f3931bb3095731633272a6b0a67027b14cb0626", func := "nosale/nosalelaw08.StockEntered", spec := "stockEntered", unfollowed := true, recurses := true, named := ["nosale/stock.checks", "nosale/stock.moveKinds"], plainKeys := false, leaving := true, apart := false, laid := [("nosale/stock.moveKinds", laid_nosale_stock_moveKinds), ("nosale/stock.checks", laid_nosale_stock_checks)], narrowed := true }
def StockEnteredUptoSaid : Prop := stockEnteredUptoRow.holds Tryz.pinned (OpenSpec.upto stockEnteredSpec)

/-- 'nosalelaw08.StockTold', WHERE WHAT IT READS IS OF BULK AT MOST 1048576: true; the input reads as it did. -/
def stockToldUptoRow : OpenClaim := { program := "ythccgklboafliaagreatdoor", sum := "f70e488ad1280a49ba1036f21f3931bb3095731633272a6b0a67027b14cb0626", func := "nosale/nosalelaw08.StockTold", spec := "stockTold", unfollowed := true, recurses := true, named := ["nosale/stock.checks", "nosale/stock.moveKinds"], plainKeys := false, leaving := true, apart := false, laid := [("nosale/stock.moveKinds", laid_nosale_stock_moveKinds), ("nosale/stock.checks", laid_nosale_stock_checks)], narrowed := true }
def StockToldUptoSaid : Prop := stockToldUptoRow.holds Tryz.pinned (OpenSpec.upto stockToldSpec)

/-- 'nosalelaw08.StockNews', WHERE WHAT IT READS IS OF BULK AT MOST 1048576: true; the input reads as it did. -/
def stockNewsUptoRow : OpenClaim := { program := "ythccgklboafliaagreatdoor", sum := "f70e488ad1280a49ba1036f21f3931bb3095731633272a6b0a67027b14cb0626", func := "nosale/nosalelaw08.StockNews", spec := "stockNews", unfollowed := true, recurses := true, named := ["nosale/stock.checks", "nosale/stock.moveKinds"], plainKeys := false, leaving := true, apart := false, laid := [("nosale/stock.moveKinds", laid_nosale_stock_moveKinds), ("nosale/stock.checks", laid_nosale_stock_checks)], narrowed := true }
def StockNewsUptoSaid : Prop := stockNewsUptoRow.holds Tryz.pinned (OpenSpec.upto stockNewsSpec)

end Rows
end Go.Proofs.YthccgklboafliaaGreatDoor
