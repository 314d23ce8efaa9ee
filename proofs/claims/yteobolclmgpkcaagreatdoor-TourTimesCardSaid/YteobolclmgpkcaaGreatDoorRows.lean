/-
  NARROWER THAN 'FOR EVERY INPUT', by the rows' own cells (each row's printed sentence says how): TourTimes: laid · TourRounds: laid · TourCalled: laid · TourLearnt: laid · TourNews: laid.
  DERIVED. THE GIVEN ROWS OF THIS SEAT. 5 by the template 'for every input the law returns true; each argument reads behind the call as it read before'; 0 by the template 'total and deterministic' (their statements: YteobolclmgpkcaaGreatDoorTotals.lean).
  GIVEN WITH THE SEED: the statements are not yours to turn. If you find one false, say at which input.
  Laid BY PROGRAM, IN A SANDBOX (cutbox-rows.mjs): the forced cells as the released guide's own fill.sh prints them over the translation 0928629a78456d74… (all of the seat's roots in one cut). By AI agents, Wed Nov 11 2026. No macro, syntax, notation, axiom, sorry.
-/
import Derived.Test.YteobolclmgpkcaaGreatDoorChecked
import GoSem.Claim
import GoSem.ClaimJoined
import GoSem.ClaimMapViews
import Derived.JoinedTies
import Derived.KernelRfl
namespace Go.Proofs.YteobolclmgpkcaaGreatDoor
/- THE CELL 'sum', in the pinned program and in every row, IS THE sha256 OF THE DUMP (.gsa) THAT YteobolclmgpkcaaGreatDoorProg.lean LOADS. Nothing in Lean hashes anything: it is a label: what it is worth is what the hold of that sum in a sandbox is worth. -/
noncomputable def Tryz.pinned : Pinned := { name := "yteobolclmgpkcaagreatdoor", sum := "0928629a78456d744432b4f2d78b656ee936ea8ac8473adf952baf1ee5a0a03b", checked := Tryz.checked }
namespace Rows
def none {H : Type} : Left H := { results := [], args := [] }

/- WHAT THE LISTED PACKAGE-LEVEL VARIABLES READ AS WHEN THE CALL BEGINS. Each datum BY PROGRAM (the guide's laid-datum.mjs) off the statement by which the dump's own 'gosem.cut.vars' lays the variable. In a bare row this is a premise. The card (YteobolclmgpkcaaGreatDoorCards.lean) ties it to the program's text. -/
def laid_nosale_tour_checks {H : Type} : DataW H := .iface "func table" (.agg [.iface "func" (.lit (.string [40, 110, 111, 115, 97, 108, 101, 47, 116, 111, 117, 114, 46, 98, 111, 111, 107, 41, 46, 98, 111, 117, 110, 100, 115])), .iface "func" (.lit (.string [40, 110, 111, 115, 97, 108, 101, 47, 116, 111, 117, 114, 46, 98, 111, 111, 107, 41, 46, 112, 108, 97, 99, 101, 115])), .iface "func" (.lit (.string [40, 110, 111, 115, 97, 108, 101, 47, 116, 111, 117, 114, 46, 98, 111, 111, 107, 41, 46, 119, 97, 121, 115])), .iface "func" (.lit (.string [40, 110, 111, 115, 97, 108, 101, 47, 116, 111, 117, 114, 46, 98, 111, 111, 107, 41, 46, 106, 111, 98, 115])), .iface "func" (.lit (.string [40, 110, 111, 115, 97, 108, 101, 47, 116, 111, 117, 114, 46, 98, 111, 111, 107, 41, 46, 110, 111, 116, 101, 115]))])

/-- 'nosalelaw09.TourTimes': WHATEVER THE INPUT: true; the input reads as it did. -/
def tourTimesSpec : ChangeSpec := { name := "tourTimes", fn := fun _ => fun
  | [d1, d2, d3, d4, d5] => { results := [.lit (.bool true)], args := [d1, d2, d3, d4, d5] }
  | _ => none }
def tourTimesRow : OpenClaim := { program := "yteobolclmgpkcaagreatdoor", sum := "0928629a78456d744432b4f2d78b656ee936ea8ac8473adf952baf1ee5a0a03b", func := "nosale/nosalelaw09.TourTimes", spec := "tourTimes", unfollowed := true, recurses := true, named := ["nosale/tour.checks"], plainKeys := false, leaving := true, apart := false, laid := [("nosale/tour.checks", laid_nosale_tour_checks)] }
def TourTimesSaid : Prop := tourTimesRow.holds Tryz.pinned (OpenSpec.ofChange tourTimesSpec)

/-- ITS FALSE NEIGHBOUR: 'it returns false'. Refute it at one input. -/
def tourTimesWrong : ChangeSpec := { name := "tourTimes", fn := fun _ => fun
  | [d1, d2, d3, d4, d5] => { results := [.lit (.bool false)], args := [d1, d2, d3, d4, d5] }
  | _ => none }
def TourTimesWrongFalsely : Prop := tourTimesRow.holds Tryz.pinned (OpenSpec.ofChange tourTimesWrong)

/-- 'nosalelaw09.TourRounds': WHATEVER THE INPUT: true; the input reads as it did. -/
def tourRoundsSpec : ChangeSpec := { name := "tourRounds", fn := fun _ => fun
  | [d1, d2, d3] => { results := [.lit (.bool true)], args := [d1, d2, d3] }
  | _ => none }
def tourRoundsRow : OpenClaim := { program := "yteobolclmgpkcaagreatdoor", sum := "0928629a78456d744432b4f2d78b656ee936ea8ac8473adf952baf1ee5a0a03b", func := "nosale/nosalelaw09.TourRounds", spec := "tourRounds", unfollowed := true, recurses := true, named := ["nosale/tour.checks"], plainKeys := false, leaving := true, apart := false, laid := [("nosale/tour.checks", laid_nosale_tour_checks)] }
def TourRoundsSaid : Prop := tourRoundsRow.holds Tryz.pinned (OpenSpec.ofChange tourRoundsSpec)

/-- ITS FALSE NEIGHBOUR: 'it returns false'. Refute it at one input. -/
def tourRoundsWrong : ChangeSpec := { name := "tourRounds", fn := fun _ => fun
  | [d1, d2, d3] => { results := [.lit (.bool false)], args := [d1, d2, d3] }
  | _ => none }
def TourRoundsWrongFalsely : Prop := tourRoundsRow.holds Tryz.pinned (OpenSpec.ofChange tourRoundsWrong)

/-- 'nosalelaw09.TourCalled': WHATEVER THE INPUT: true; the input reads as it did. -/
def tourCalledSpec : ChangeSpec := { name := "tourCalled", fn := fun _ => fun
  | [d1, d2, d3] => { results := [.lit (.bool true)], args := [d1, d2, d3] }
  | _ => none }
def tourCalledRow : OpenClaim := { program := "yteobolclmgpkcaagreatdoor", sum := "0928629a78456d744432b4f2d78b656ee936ea8ac8473adf952baf1ee5a0a03b", func := "nosale/nosalelaw09.TourCalled", spec := "tourCalled", unfollowed := true, recurses := true, named := ["nosale/tour.checks"], plainKeys := false, leaving := true, apart := false, laid := [("nosale/tour.checks", laid_nosale_tour_checks)] }
def TourCalledSaid : Prop := tourCalledRow.holds Tryz.pinned (OpenSpec.ofChange tourCalledSpec)

/-- ITS FALSE NEIGHBOUR: 'it returns false'. Refute it at one input. -/
def tourCalledWrong : ChangeSpec := { name := "tourCalled", fn := fun _ => fun
  | [d1, d2, d3] => { results := [.lit (.bool false)], args := [d1, d2, d3] }
  | _ => none }
def TourCalledWrongFalsely : Prop := tourCalledRow.holds Tryz.pinned (OpenSpec.ofChange tourCalledWrong)

/-- 'nosalelaw09.TourLearnt': WHATEVER THE INPUT: true; the input reads as it did. -/
def tourLearntSpec : ChangeSpec := { name := "tourLearnt", fn := fun _ => fun
  | [d1, d2, d3, d4, d5] => { results := [.lit (.bool true)], args := [d1, d2, d3, d4, d5] }
  | _ => none }
def tourLearntRow : OpenClaim := { program := "yteobolclmgpkcaagreatdoor", sum := "0928629a78456d744432b4f2d78b656ee936ea8ac8473adf952baf1ee5a0a03b", func := "nosale/nosalelaw09.TourLearnt", spec := "tourLearnt", unfollowed := true, recurses := true, named := ["nosale/tour.checks"], plainKeys := false, leaving := true, apart := false, laid := [("nosale/tour.checks", laid_nosale_tour_checks)] }
def TourLearntSaid : Prop := tourLearntRow.holds Tryz.pinned (OpenSpec.ofChange tourLearntSpec)

/-- ITS FALSE NEIGHBOUR: 'it returns false'. Refute it at one input. -/
def tourLearntWrong : ChangeSpec := { name := "tourLearnt", fn := fun _ => fun
  | [d1, d2, d3, d4, d5] => { results := [.lit (.bool false)], args := [d1, d2, d3, d4, d5] }
  | _ => none }
def TourLearntWrongFalsely : Prop := tourLearntRow.holds Tryz.pinned (OpenSpec.ofChange tourLearntWrong)

/-- 'nosalelaw09.TourNews': WHATEVER THE INPUT: true; the input reads as it did. -/
def tourNewsSpec : ChangeSpec := { name := "tourNews", fn := fun _ => fun
  | [d1, d2, d3, d4, d5] => { results := [.lit (.bool true)], args := [d1, d2, d3, d4, d5] }
  | _ => none }
def tourNewsRow : OpenClaim := { program := "yteobolclmgpkcaagreatdoor", sum := "0928629a78456d744432b4f2d78b656ee936ea8ac8473adf952baf1ee5a0a03b", func := "nosale/nosalelaw09.TourNews", spec := "tourNews", unfollowed := true, recurses := true, named := ["nosale/tour.checks"], plainKeys := false, leaving := true, apart := false, laid := [("nosale/tour.checks", laid_nosale_tour_checks)] }
def TourNewsSaid : Prop := tourNewsRow.holds Tryz.pinned (OpenSpec.ofChange tourNewsSpec)

/-- ITS FALSE NEIGHBOUR: 'it returns false'. Refute it at one input. -/
def tourNewsWrong : ChangeSpec := { name := "tourNews", fn := fun _ => fun
  | [d1, d2, d3, d4, d5] => { results := [.lit (.bool false)], args := [d1, d2, d3, d4, d5] }
  | _ => none }
def TourNewsWrongFalsely : Prop := tourNewsRow.holds Tryz.pinned (OpenSpec.ofChange tourNewsWrong)

/- THE SECOND FORM. 'bulk': how many values and letters a reading holds, each counted each time it is reached (what is shared counts as often as it is met; a slice's spare places count too). A statement '..UptoSaid' is the law's where the arguments, and the package variables that the reading takes, are together of bulk at most 1048576: NARROWER than '..Said'. Prove '..Said' where nothing that the law and all that it calls make is longer than what came in: it says more and counts as full. Else prove '..UptoSaid'. A law counts once. -/
mutual
def uptoBulk {H : Type} : DataW H → Nat
  | .lit (.string bytes) => bytes.length + 1
  | .lit _ => 1
  | .nil => 1
  | .ptr d => uptoBulk d + 1
  | .slice elems spare => uptoBulkAll elems + uptoBulkAll spare + 1
  | .agg parts => uptoBulkAll parts + 1
  | .iface _ d => uptoBulk d + 1
  | .map entries => uptoBulkEntries entries + 1
  | .held _ => 1
def uptoBulkAll {H : Type} : List (DataW H) → Nat
  | [] => 0
  | d :: r => uptoBulk d + uptoBulkAll r
def uptoBulkEntries {H : Type} : List (Lit × DataW H) → Nat
  | [] => 0
  | x :: r => uptoBulkEntry x + uptoBulkEntries r
def uptoBulkEntry {H : Type} : Lit × DataW H → Nat
  | (.string bytes, d) => bytes.length + uptoBulk d + 1
  | (_, d) => uptoBulk d + 1
 end
def uptoSmall : (H : Type) → List (DataW H) → Bool := fun _ ds => decide (uptoBulkAll ds ≤ 1048576)
def OpenSpec.upto (s : _root_.Go.ChangeSpec) : _root_.Go.OpenSpec := { _root_.Go.OpenSpec.ofChange s with cond := some uptoSmall }

/-- 'nosalelaw09.TourTimes', WHERE WHAT IT READS IS OF BULK AT MOST 1048576: true; the input reads as it did. -/
def tourTimesUptoRow : OpenClaim := { program := "yteobolclmgpkcaagreatdoor", sum := "0928629a78456d744432b4f2d78b656ee936ea8ac8473adf952baf1ee5a0a03b", func := "nosale/nosalelaw09.TourTimes", spec := "tourTimes", unfollowed := true, recurses := true, named := ["nosale/tour.checks"], plainKeys := false, leaving := true, apart := false, laid := [("nosale/tour.checks", laid_nosale_tour_checks)], narrowed := true }
def TourTimesUptoSaid : Prop := tourTimesUptoRow.holds Tryz.pinned (OpenSpec.upto tourTimesSpec)

/-- 'nosalelaw09.TourRounds', WHERE WHAT IT READS IS OF BULK AT MOST 1048576: true; the input reads as it did. -/
def tourRoundsUptoRow : OpenClaim := { program := "yteobolclmgpkcaagreatdoor", sum := "0928629a78456d744432b4f2d78b656ee936ea8ac8473adf952baf1ee5a0a03b", func := "nosale/nosalelaw09.TourRounds", spec := "tourRounds", unfollowed := true, recurses := true, named := ["nosale/tour.checks"], plainKeys := false, leaving := true, apart := false, laid := [("nosale/tour.checks", laid_nosale_tour_checks)], narrowed := true }
def TourRoundsUptoSaid : Prop := tourRoundsUptoRow.holds Tryz.pinned (OpenSpec.upto tourRoundsSpec)

/-- 'nosalelaw09.TourCalled', WHERE WHAT IT READS IS OF BULK AT MOST 1048576: true; the input reads as it did. -/
def tourCalledUptoRow : OpenClaim := { program := "yteobolclmgpkcaagreatdoor", sum := "0928629a78456d744432b4f2d78b656ee936ea8ac8473adf952baf1ee5a0a03b", func := "nosale/nosalelaw09.TourCalled", spec := "tourCalled", unfollowed := true, recurses := true, named := ["nosale/tour.checks"], plainKeys := false, leaving := true, apart := false, laid := [("nosale/tour.checks", laid_nosale_tour_checks)], narrowed := true }
def TourCalledUptoSaid : Prop := tourCalledUptoRow.holds Tryz.pinned (OpenSpec.upto tourCalledSpec)

/-- 'nosalelaw09.TourLearnt', WHERE WHAT IT READS IS OF BULK AT MOST 1048576: true; the input reads as it did. -/
def tourLearntUptoRow : OpenClaim := { program := "yteobolclmgpkcaagreatdoor", sum := "0928629a78456d744432b4f2d78b656ee936ea8ac8473adf952baf1ee5a0a03b", func := "nosale/nosalelaw09.TourLearnt", spec := "tourLearnt", unfollowed := true, recurses := true, named := ["nosale/tour.checks"], plainKeys := false, leaving := true, apart := false, laid := [("nosale/tour.checks", laid_nosale_tour_checks)], narrowed := true }
def TourLearntUptoSaid : Prop := tourLearntUptoRow.holds Tryz.pinned (OpenSpec.upto tourLearntSpec)

/-- 'nosalelaw09.TourNews', WHERE WHAT IT READS IS OF BULK AT MOST 1048576: true; the input reads as it did. -/
def tourNewsUptoRow : OpenClaim := { program := "yteobolclmgpkcaagreatdoor", sum := "0928629a78456d744432b4f2d78b656ee936ea8ac8473adf952baf1ee5a0a03b", func := "nosale/nosalelaw09.TourNews", spec := "tourNews", unfollowed := true, recurses := true, named := ["nosale/tour.checks"], plainKeys := false, leaving := true, apart := false, laid := [("nosale/tour.checks", laid_nosale_tour_checks)], narrowed := true }
def TourNewsUptoSaid : Prop := tourNewsUptoRow.holds Tryz.pinned (OpenSpec.upto tourNewsSpec)

end Rows
end Go.Proofs.YteobolclmgpkcaaGreatDoor
