/-
  NARROWER THAN 'FOR EVERY INPUT', by the rows' own cells (each row's printed sentence says how): TourParts: laid · TourPaid: laid.
  DERIVED. THE GIVEN ROWS OF THIS SEAT. 2 by the template 'for every input the law returns true; each argument reads behind the call as it read before'; 0 by the template 'total and deterministic' (their statements: YtbikoccgloongaaGreatDoorTotals.lean).
  GIVEN WITH THE SEED: the statements are not yours to turn. If you find one false, say at which input.
  Laid BY PROGRAM, IN A SANDBOX (cutbox-rows.mjs): the forced cells as the released guide's own fill.sh prints them over the translation d56224b2c0b7eef7… (all of the seat's roots in one cut). By AI agents, Wed Nov 11 2026. No macro, syntax, notation, axiom, sorry.
-/
import Derived.Test.YtbikoccgloongaaGreatDoorChecked
import GoSem.Claim
import GoSem.ClaimJoined
import GoSem.ClaimMapViews
import Derived.JoinedTies
import Derived.KernelRfl
namespace Go.Proofs.YtbikoccgloongaaGreatDoor
/- THE CELL 'sum', in the pinned program and in every row, IS THE sha256 OF THE DUMP (.gsa) THAT YtbikoccgloongaaGreatDoorProg.lean LOADS. Nothing in Lean hashes anything: it is a label: what it is worth is what the hold of that sum in a sandbox is worth. -/
noncomputable def Tryz.pinned : Pinned := { name := "ytbikoccgloongaagreatdoor", sum := "d56224b2c0b7eef79e5b13aa367a3c33ecde3df164be47c4c966c77b1e917bfc", checked := Tryz.checked }
namespace Rows
def none {H : Type} : Left H := { results := [], args := [] }

/- WHAT THE LISTED PACKAGE-LEVEL VARIABLES READ AS WHEN THE CALL BEGINS. Each datum BY PROGRAM (the guide's laid-datum.mjs) off the statement by which the dump's own 'gosem.cut.vars' lays the variable. In a bare row this is a premise. The card (YtbikoccgloongaaGreatDoorCards.lean) ties it to the program's text. -/
def laid_nosale_build_checks {H : Type} : DataW H := .iface "func table" (.agg [.iface "func" (.lit (.string [40, 110, 111, 115, 97, 108, 101, 47, 98, 117, 105, 108, 100, 46, 98, 111, 111, 107, 41, 46, 111, 114, 100, 101, 114])), .iface "func" (.lit (.string [40, 110, 111, 115, 97, 108, 101, 47, 98, 117, 105, 108, 100, 46, 98, 111, 111, 107, 41, 46, 112, 97, 114, 116, 115])), .iface "func" (.lit (.string [40, 110, 111, 115, 97, 108, 101, 47, 98, 117, 105, 108, 100, 46, 98, 111, 111, 107, 41, 46, 112, 97, 105, 114, 115])), .iface "func" (.lit (.string [40, 110, 111, 115, 97, 108, 101, 47, 98, 117, 105, 108, 100, 46, 98, 111, 111, 107, 41, 46, 116, 114, 105, 97, 108, 115]))])
def laid_nosale_tour_checks {H : Type} : DataW H := .iface "func table" (.agg [.iface "func" (.lit (.string [40, 110, 111, 115, 97, 108, 101, 47, 116, 111, 117, 114, 46, 98, 111, 111, 107, 41, 46, 98, 111, 117, 110, 100, 115])), .iface "func" (.lit (.string [40, 110, 111, 115, 97, 108, 101, 47, 116, 111, 117, 114, 46, 98, 111, 111, 107, 41, 46, 112, 108, 97, 99, 101, 115])), .iface "func" (.lit (.string [40, 110, 111, 115, 97, 108, 101, 47, 116, 111, 117, 114, 46, 98, 111, 111, 107, 41, 46, 119, 97, 121, 115])), .iface "func" (.lit (.string [40, 110, 111, 115, 97, 108, 101, 47, 116, 111, 117, 114, 46, 98, 111, 111, 107, 41, 46, 106, 111, 98, 115])), .iface "func" (.lit (.string [40, 110, 111, 115, 97, 108, 101, 47, 116, 111, 117, 114, 46, 98, 111, 111, 107, 41, 46, 110, 111, 116, 101, 115]))])
def laid_nosale_change_checks {H : Type} : DataW H := .iface "func table" (.agg [.iface "func" (.lit (.string [40, 110, 111, 115, 97, 108, 101, 47, 99, 104, 97, 110, 103, 101, 46, 98, 111, 111, 107, 41, 46, 107, 105, 110, 100, 115])), .iface "func" (.lit (.string [40, 110, 111, 115, 97, 108, 101, 47, 99, 104, 97, 110, 103, 101, 46, 98, 111, 111, 107, 41, 46, 100, 114, 97, 119, 101, 114, 115])), .iface "func" (.lit (.string [40, 110, 111, 115, 97, 108, 101, 47, 99, 104, 97, 110, 103, 101, 46, 98, 111, 111, 107, 41, 46, 115, 97, 108, 101, 115])), .iface "func" (.lit (.string [40, 110, 111, 115, 97, 108, 101, 47, 99, 104, 97, 110, 103, 101, 46, 98, 111, 111, 107, 41, 46, 102, 105, 114, 115, 116, 115])), .iface "func" (.lit (.string [40, 110, 111, 115, 97, 108, 101, 47, 99, 104, 97, 110, 103, 101, 46, 98, 111, 111, 107, 41, 46, 99, 111, 117, 110, 116, 115]))])

/-- 'nosalelaw09.TourParts': WHATEVER THE INPUT: true; the input reads as it did. -/
def tourPartsSpec : ChangeSpec := { name := "tourParts", fn := fun _ => fun
  | [d1, d2, d3, d4] => { results := [.lit (.bool true)], args := [d1, d2, d3, d4] }
  | _ => none }
def tourPartsRow : OpenClaim := { program := "ytbikoccgloongaagreatdoor", sum := "d56224b2c0b7eef79e5b13aa367a3c33ecde3df164be47c4c966c77b1e917bfc", func := "nosale/nosalelaw09.TourParts", spec := "tourParts", unfollowed := true, recurses := true, named := ["nosale/tour.checks", "nosale/build.checks"], plainKeys := false, leaving := true, apart := false, laid := [("nosale/build.checks", laid_nosale_build_checks), ("nosale/tour.checks", laid_nosale_tour_checks)] }
def TourPartsSaid : Prop := tourPartsRow.holds Tryz.pinned (OpenSpec.ofChange tourPartsSpec)

/-- ITS FALSE NEIGHBOUR: 'it returns false'. Refute it at one input. -/
def tourPartsWrong : ChangeSpec := { name := "tourParts", fn := fun _ => fun
  | [d1, d2, d3, d4] => { results := [.lit (.bool false)], args := [d1, d2, d3, d4] }
  | _ => none }
def TourPartsWrongFalsely : Prop := tourPartsRow.holds Tryz.pinned (OpenSpec.ofChange tourPartsWrong)

/-- 'nosalelaw09.TourPaid': WHATEVER THE INPUT: true; the input reads as it did. -/
def tourPaidSpec : ChangeSpec := { name := "tourPaid", fn := fun _ => fun
  | [d1, d2, d3, d4] => { results := [.lit (.bool true)], args := [d1, d2, d3, d4] }
  | _ => none }
def tourPaidRow : OpenClaim := { program := "ytbikoccgloongaagreatdoor", sum := "d56224b2c0b7eef79e5b13aa367a3c33ecde3df164be47c4c966c77b1e917bfc", func := "nosale/nosalelaw09.TourPaid", spec := "tourPaid", unfollowed := true, recurses := true, named := ["nosale/tour.checks", "nosale/change.checks"], plainKeys := false, leaving := true, apart := false, laid := [("nosale/change.checks", laid_nosale_change_checks), ("nosale/tour.checks", laid_nosale_tour_checks)] }
def TourPaidSaid : Prop := tourPaidRow.holds Tryz.pinned (OpenSpec.ofChange tourPaidSpec)

/-- ITS FALSE NEIGHBOUR: 'it returns false'. Refute it at one input. -/
def tourPaidWrong : ChangeSpec := { name := "tourPaid", fn := fun _ => fun
  | [d1, d2, d3, d4] => { results := [.lit (.bool false)], args := [d1, d2, d3, d4] }
  | _ => none }
def TourPaidWrongFalsely : Prop := tourPaidRow.holds Tryz.pinned (OpenSpec.ofChange tourPaidWrong)

/- THE SECOND FORM. 'bulk': how many values and letters a reading holds, each counted each time it is reached (what is shared counts as often as it is met; a slice's spare places count too). A statement '..UptoSaid' is the law's where the arguments, and the package variables that the reading takes, are together of bulk at most 1048576: NARROWER than '..Said'. Prove '..Said' where nothing that the law and all that it calls make is longer than what came in: it says more and counts as full. Else prove '..UptoSaid'. A law counts once. -/
mutual
def uptoBulk {H : Type} : DataW H → Nat
  | .lit (.string bytes) => bytes.length + 1
  | .lit _ => 1
  | .nil => 1
  | .ptr d => uptoBulk d + 1
  | .slice elems spare => uptoBulkAll elems + uptoBulkAll spare + 1
  | .agg parts => uptoBulkAll parts + 1
  | .iface _ d => uptoBulk d + 1
  | .map entries => uptoBulkEntries entries + 1
  | .held _ => 1
def uptoBulkAll {H : Type} : List (DataW H) → Nat
  | [] => 0
  | d :: r => uptoBulk d + uptoBulkAll r
def uptoBulkEntries {H : Type} : List (Lit × DataW H) → Nat
  | [] => 0
  | x :: r => uptoBulkEntry x + uptoBulkEntries r
def uptoBulkEntry {H : Type} : Lit × DataW H → Nat
  | (.string bytes, d) => bytes.length + uptoBulk d + 1
  | (_, d) => uptoBulk d + 1
 end
def uptoSmall : (H : Type) → List (DataW H) → Bool := fun _ ds => decide (uptoBulkAll ds ≤ 1048576)
def OpenSpec.upto (s : _root_.Go.ChangeSpec) : _root_.Go.OpenSpec := { _root_.Go.OpenSpec.ofChange s with cond := some uptoSmall }

/-- 'nosalelaw09.TourParts', WHERE WHAT IT READS IS OF BULK AT MOST 1048576: true; the input reads as it did. -/
def tourPartsUptoRow : OpenClaim := { program := "ytbikoccgloongaagreatdoor", sum := "d56224b2c0b7eef79e5b13aa367a3c33ecde3df164be47c4c966c77b1e917bfc", func := "nosale/nosalelaw09.TourParts", spec := "tourParts", unfollowed := true, recurses := true, named := ["nosale/tour.checks", "nosale/build.checks"], plainKeys := false, leaving := true, apart := false, laid := [("nosale/build.checks", laid_nosale_build_checks), ("nosale/tour.checks", laid_nosale_tour_checks)], narrowed := true }
def TourPartsUptoSaid : Prop := tourPartsUptoRow.holds Tryz.pinned (OpenSpec.upto tourPartsSpec)

/-- 'nosalelaw09.TourPaid', WHERE WHAT IT READS IS OF BULK AT MOST 1048576: true; the input reads as it did. -/
def tourPaidUptoRow : OpenClaim := { program := "ytbikoccgloongaagreatdoor", sum := "d56224b2c0b7eef79e5b13aa367a3c33ecde3df164be47c4c966c77b1e917bfc", func := "nosale/nosalelaw09.TourPaid", spec := "tourPaid", unfollowed := true, recurses := true, named := ["nosale/tour.checks", "nosale/change.checks"], plainKeys := false, leaving := true, apart := false, laid := [("nosale/change.checks", laid_nosale_change_checks), ("nosale/tour.checks", laid_nosale_tour_checks)], narrowed := true }
def TourPaidUptoSaid : Prop := tourPaidUptoRow.holds Tryz.pinned (OpenSpec.upto tourPaidSpec)

end Rows
end Go.Proofs.YtbikoccgloongaaGreatDoor
