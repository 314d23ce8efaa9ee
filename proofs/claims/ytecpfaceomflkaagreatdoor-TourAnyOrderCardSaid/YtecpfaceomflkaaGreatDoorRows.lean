/-
  NARROWER THAN 'FOR EVERY INPUT', by the rows' own cells (each row's printed sentence says how): TourReal: laid · TourReached: laid · TourSwift: laid · TourAnyOrder: laid.
  DERIVED. THE GIVEN ROWS OF THIS SEAT. 4 by the template 'for every input the law returns true; each argument reads behind the call as it read before'; 0 by the template 'total and deterministic' (their statements: YtecpfaceomflkaaGreatDoorTotals.lean).
  GIVEN WITH THE SEED: the statements are not yours to turn. If you find one false, say at which input.
  Laid BY PROGRAM, IN A SANDBOX (cutbox-rows.mjs): the forced cells as the released guide's own fill.sh prints them over the translation 409a4a864f387938… (all of the seat's roots in one cut). By AI agents, Wed Nov 11 2026. No macro, syntax, notation, axiom, sorry.
-/
import Derived.Test.YtecpfaceomflkaaGreatDoorChecked
import GoSem.Claim
import GoSem.ClaimJoined
import GoSem.ClaimMapViews
import Derived.JoinedTies
import Derived.KernelRfl
namespace Go.Proofs.YtecpfaceomflkaaGreatDoor
/- THE CELL 'sum', in the pinned program and in every row, IS THE sha256 OF THE DUMP (.gsa) THAT YtecpfaceomflkaaGreatDoorProg.lean LOADS. Nothing in Lean hashes anything: it is a label: what it is worth is what the hold of that sum in a sandbox is worth. -/
noncomputable def Tryz.pinned : Pinned := { name := "ytecpfaceomflkaagreatdoor", sum := "409a4a864f3879387a22484fb73ac294996fc49a4479932841a0d0527d46fc1c", checked := Tryz.checked }
namespace Rows
def none {H : Type} : Left H := { results := [], args := [] }

/- WHAT THE LISTED PACKAGE-LEVEL VARIABLES READ AS WHEN THE CALL BEGINS. Each datum BY PROGRAM (the guide's laid-datum.mjs) off the statement by which the dump's own 'gosem.cut.vars' lays the variable. In a bare row this is a premise. The card (YtecpfaceomflkaaGreatDoorCards.lean) ties it to the program's text. -/
def laid_nosale_tour_checks {H : Type} : DataW H := .iface "func table" (.agg [.iface "func" (.lit (.string [40, 110, 111, 115, 97, 108, 101, 47, 116, 111, 117, 114, 46, 98, 111, 111, 107, 41, 46, 98, 111, 117, 110, 100, 115])), .iface "func" (.lit (.string [40, 110, 111, 115, 97, 108, 101, 47, 116, 111, 117, 114, 46, 98, 111, 111, 107, 41, 46, 112, 108, 97, 99, 101, 115])), .iface "func" (.lit (.string [40, 110, 111, 115, 97, 108, 101, 47, 116, 111, 117, 114, 46, 98, 111, 111, 107, 41, 46, 119, 97, 121, 115])), .iface "func" (.lit (.string [40, 110, 111, 115, 97, 108, 101, 47, 116, 111, 117, 114, 46, 98, 111, 111, 107, 41, 46, 106, 111, 98, 115])), .iface "func" (.lit (.string [40, 110, 111, 115, 97, 108, 101, 47, 116, 111, 117, 114, 46, 98, 111, 111, 107, 41, 46, 110, 111, 116, 101, 115]))])

/-- 'nosalelaw09.TourReal': WHATEVER THE INPUT: true; the input reads as it did. -/
def tourRealSpec : ChangeSpec := { name := "tourReal", fn := fun _ => fun
  | [d1, d2, d3, d4] => { results := [.lit (.bool true)], args := [d1, d2, d3, d4] }
  | _ => none }
def tourRealRow : OpenClaim := { program := "ytecpfaceomflkaagreatdoor", sum := "409a4a864f3879387a22484fb73ac294996fc49a4479932841a0d0527d46fc1c", func := "nosale/nosalelaw09.TourReal", spec := "tourReal", unfollowed := true, recurses := true, named := ["nosale/tour.checks"], plainKeys := false, leaving := true, apart := false, laid := [("nosale/tour.checks", laid_nosale_tour_checks)] }
def TourRealSaid : Prop := tourRealRow.holds Tryz.pinned (OpenSpec.ofChange tourRealSpec)

/-- ITS FALSE NEIGHBOUR: 'it returns false'. Refute it at one input. -/
def tourRealWrong : ChangeSpec := { name := "tourReal", fn := fun _ => fun
  | [d1, d2, d3, d4] => { results := [.lit (.bool false)], args := [d1, d2, d3, d4] }
  | _ => none }
def TourRealWrongFalsely : Prop := tourRealRow.holds Tryz.pinned (OpenSpec.ofChange tourRealWrong)

/-- 'nosalelaw09.TourReached': WHATEVER THE INPUT: true; the input reads as it did. -/
def tourReachedSpec : ChangeSpec := { name := "tourReached", fn := fun _ => fun
  | [d1, d2, d3] => { results := [.lit (.bool true)], args := [d1, d2, d3] }
  | _ => none }
def tourReachedRow : OpenClaim := { program := "ytecpfaceomflkaagreatdoor", sum := "409a4a864f3879387a22484fb73ac294996fc49a4479932841a0d0527d46fc1c", func := "nosale/nosalelaw09.TourReached", spec := "tourReached", unfollowed := true, recurses := true, named := ["nosale/tour.checks"], plainKeys := false, leaving := true, apart := false, laid := [("nosale/tour.checks", laid_nosale_tour_checks)] }
def TourReachedSaid : Prop := tourReachedRow.holds Tryz.pinned (OpenSpec.ofChange tourReachedSpec)

/-- ITS FALSE NEIGHBOUR: 'it returns false'. Refute it at one input. -/
def tourReachedWrong : ChangeSpec := { name := "tourReached", fn := fun _ => fun
  | [d1, d2, d3] => { results := [.lit (.bool false)], args := [d1, d2, d3] }
  | _ => none }
def TourReachedWrongFalsely : Prop := tourReachedRow.holds Tryz.pinned (OpenSpec.ofChange tourReachedWrong)

/-- 'nosalelaw09.TourSwift': WHATEVER THE INPUT: true; the input reads as it did. -/
def tourSwiftSpec : ChangeSpec := { name := "tourSwift", fn := fun _ => fun
  | [d1, d2, d3] => { results := [.lit (.bool true)], args := [d1, d2, d3] }
  | _ => none }
def tourSwiftRow : OpenClaim := { program := "ytecpfaceomflkaagreatdoor", sum := "409a4a864f3879387a22484fb73ac294996fc49a4479932841a0d0527d46fc1c", func := "nosale/nosalelaw09.TourSwift", spec := "tourSwift", unfollowed := true, recurses := true, named := ["nosale/tour.checks"], plainKeys := false, leaving := true, apart := false, laid := [("nosale/tour.checks", laid_nosale_tour_checks)] }
def TourSwiftSaid : Prop := tourSwiftRow.holds Tryz.pinned (OpenSpec.ofChange tourSwiftSpec)

/-- ITS FALSE NEIGHBOUR: 'it returns false'. Refute it at one input. -/
def tourSwiftWrong : ChangeSpec := { name := "tourSwift", fn := fun _ => fun
  | [d1, d2, d3] => { results := [.lit (.bool false)], args := [d1, d2, d3] }
  | _ => none }
def TourSwiftWrongFalsely : Prop := tourSwiftRow.holds Tryz.pinned (OpenSpec.ofChange tourSwiftWrong)

/-- 'nosalelaw09.TourAnyOrder': WHATEVER THE INPUT: true; the input reads as it did. -/
def tourAnyOrderSpec : ChangeSpec := { name := "tourAnyOrder", fn := fun _ => fun
  | [d1, d2, d3, d4] => { results := [.lit (.bool true)], args := [d1, d2, d3, d4] }
  | _ => none }
def tourAnyOrderRow : OpenClaim := { program := "ytecpfaceomflkaagreatdoor", sum := "409a4a864f3879387a22484fb73ac294996fc49a4479932841a0d0527d46fc1c", func := "nosale/nosalelaw09.TourAnyOrder", spec := "tourAnyOrder", unfollowed := true, recurses := true, named := ["nosale/tour.checks"], plainKeys := false, leaving := true, apart := false, laid := [("nosale/tour.checks", laid_nosale_tour_checks)] }
def TourAnyOrderSaid : Prop := tourAnyOrderRow.holds Tryz.pinned (OpenSpec.ofChange tourAnyOrderSpec)

/-- ITS FALSE NEIGHBOUR: 'it returns false'. Refute it at one input. -/
def tourAnyOrderWrong : ChangeSpec := { name := "tourAnyOrder", fn := fun _ => fun
  | [d1, d2, d3, d4] => { results := [.lit (.bool false)], args := [d1, d2, d3, d4] }
  | _ => none }
def TourAnyOrderWrongFalsely : Prop := tourAnyOrderRow.holds Tryz.pinned (OpenSpec.ofChange tourAnyOrderWrong)

/- THE SECOND FORM. 'bulk': how many values and letters a reading holds, each counted each time it is reached (what is shared counts as often as it is met; a slice's spare places count too). A statement '..UptoSaid' is the law's where the arguments, and the package variables that the reading takes, are together of bulk at most 1048576: NARROWER than '..Said'. Prove '..Said' where nothing that the law and all that it calls make is longer than what came in: it says more and counts as full. Else prove '..UptoSaid'. A law counts once. -/
mutual
def uptoBulk {H : Type} : DataW H → Nat
  | .lit (.string bytes) => bytes.length + 1
  | .lit _ => 1
  | .nil => 1
  | .ptr d => uptoBulk d + 1
  | .slice elems spare => uptoBulkAll elems + uptoBulkAll spare + 1
  | .agg parts => uptoBulkAll parts + 1
  | .iface _ d => uptoBulk d + 1
  | .map entries => uptoBulkEntries entries + 1
  | .held _ => 1
def uptoBulkAll {H : Type} : List (DataW H) → Nat
  | [] => 0
  | d :: r => uptoBulk d + uptoBulkAll r
def uptoBulkEntries {H : Type} : List (Lit × DataW H) → Nat
  | [] => 0
  | x :: r => uptoBulkEntry x + uptoBulkEntries r
def uptoBulkEntry {H : Type} : Lit × DataW H → Nat
  | (.string bytes, d) => bytes.length + uptoBulk d + 1
  | (_, d) => uptoBulk d + 1
 end
def uptoSmall : (H : Type) → List (DataW H) → Bool := fun _ ds => decide (uptoBulkAll ds ≤ 1048576)
def OpenSpec.upto (s : _root_.Go.ChangeSpec) : _root_.Go.OpenSpec := { _root_.Go.OpenSpec.ofChange s with cond := some uptoSmall }

/-- 'nosalelaw09.TourReal', WHERE WHAT IT READS IS OF BULK AT MOST 1048576: true; the input reads as it did. -/
def tourRealUptoRow : OpenClaim := { program := "ytecpfaceomflkaagreatdoor", sum := "409a4a864f3879387a22484fb73ac294996fc49a4479932841a0d0527d46fc1c", func := "nosale/nosalelaw09.TourReal", spec := "tourReal", unfollowed := true, recurses := true, named := ["nosale/tour.checks"], plainKeys := false, leaving := true, apart := false, laid := [("nosale/tour.checks", laid_nosale_tour_checks)], narrowed := true }
def TourRealUptoSaid : Prop := tourRealUptoRow.holds Tryz.pinned (OpenSpec.upto tourRealSpec)

/-- 'nosalelaw09.TourReached', WHERE WHAT IT READS IS OF BULK AT MOST 1048576: true; the input reads as it did. -/
def tourReachedUptoRow : OpenClaim := { program := "ytecpfaceomflkaagreatdoor", sum := "409a4a864f3879387a22484fb73ac294996fc49a4479932841a0d0527d46fc1c", func := "nosale/nosalelaw09.TourReached", spec := "tourReached", unfollowed := true, recurses := true, named := ["nosale/tour.checks"], plainKeys := false, leaving := true, apart := false, laid := [("nosale/tour.checks", laid_nosale_tour_checks)], narrowed := true }
def TourReachedUptoSaid : Prop := tourReachedUptoRow.holds Tryz.pinned (OpenSpec.upto tourReachedSpec)

/-- 'nosalelaw09.TourSwift', WHERE WHAT IT READS IS OF BULK AT MOST 1048576: true; the input reads as it did. -/
def tourSwiftUptoRow : OpenClaim := { program := "ytecpfaceomflkaagreatdoor", sum := "409a4a864f3879387a22484fb73ac294996fc49a4479932841a0d0527d46fc1c", func := "nosale/nosalelaw09.TourSwift", spec := "tourSwift", unfollowed := true, recurses := true, named := ["nosale/tour.checks"], plainKeys := false, leaving := true, apart := false, laid := [("nosale/tour.checks", laid_nosale_tour_checks)], narrowed := true }
def TourSwiftUptoSaid : Prop := tourSwiftUptoRow.holds Tryz.pinned (OpenSpec.upto tourSwiftSpec)

/-- 'nosalelaw09.TourAnyOrder', WHERE WHAT IT READS IS OF BULK AT MOST 1048576: true; the input reads as it did. -/
def tourAnyOrderUptoRow : OpenClaim := { program := "ytecpfaceomflkaagreatdoor", sum := "409a4a864f3879387a22484fb73ac294996fc49a4479932841a0d0527d46fc1c", func := "nosale/nosalelaw09.TourAnyOrder", spec := "tourAnyOrder", unfollowed := true, recurses := true, named := ["nosale/tour.checks"], plainKeys := false, leaving := true, apart := false, laid := [("nosale/tour.checks", laid_nosale_tour_checks)], narrowed := true }
def TourAnyOrderUptoSaid : Prop := tourAnyOrderUptoRow.holds Tryz.pinned (OpenSpec.upto tourAnyOrderSpec)

end Rows
end Go.Proofs.YtecpfaceomflkaaGreatDoor
