/-
  NARROWER THAN 'FOR EVERY INPUT', by the rows' own cells (each row's printed sentence says how): TourFar: laid · TourSooner: laid · TourBest: laid · TourClashes: laid · TourAsked: laid · TourMeasured: laid.
  DERIVED. THE GIVEN ROWS OF THIS SEAT. 6 by the template 'for every input the law returns true; each argument reads behind the call as it read before'; 0 by the template 'total and deterministic' (their statements: YtolmhecgdjgdjaaGreatDoorTotals.lean).
  GIVEN WITH THE SEED: the statements are not yours to turn. If you find one false, say at which input.
  Laid BY PROGRAM, IN A SANDBOX (cutbox-rows.mjs): the forced cells as the released guide's own fill.sh prints them over the translation b120e9a000603022… (all of the seat's roots in one cut). By AI agents, Wed Nov 11 2026. No macro, syntax, notation, axiom, sorry.
-/
import Derived.Test.YtolmhecgdjgdjaaGreatDoorChecked
import GoSem.Claim
import GoSem.ClaimJoined
import GoSem.ClaimMapViews
import Derived.JoinedTies
import Derived.KernelRfl
namespace Go.Proofs.YtolmhecgdjgdjaaGreatDoor
/- THE CELL 'sum', in the pinned program and in every row, IS THE sha256 OF THE DUMP (.gsa) THAT YtolmhecgdjgdjaaGreatDoorProg.lean LOADS. Nothing in Lean hashes anything: it is a label: what it is worth is what the hold of that sum in a sandbox is worth. -/
noncomputable def Tryz.pinned : Pinned := { name := "ytolmhecgdjgdjaagreatdoor", sum := "b120e9a000603022e8b031ea0964eda649f0629f32fe93c616bb7ec966399171", checked := Tryz.checked }
namespace Rows
def none {H : Type} : Left H := { results := [], args := [] }

/- WHAT THE LISTED PACKAGE-LEVEL VARIABLES READ AS WHEN THE CALL BEGINS. Each datum BY PROGRAM (the guide's laid-datum.mjs) off the statement by which the dump's own 'gosem.cut.vars' lays the variable. In a bare row this is a premise. The card (YtolmhecgdjgdjaaGreatDoorCards.lean) ties it to the program's text. -/
def laid_nosale_tour_checks {H : Type} : DataW H := .iface "func table" (.agg [.iface "func" (.lit (.string [40, 110, 111, 115, 97, 108, 101, 47, 116, 111, 117, 114, 46, 98, 111, 111, 107, 41, 46, 98, 111, 117, 110, 100, 115])), .iface "func" (.lit (.string [40, 110, 111, 115, 97, 108, 101, 47, 116, 111, 117, 114, 46, 98, 111, 111, 107, 41, 46, 112, 108, 97, 99, 101, 115])), .iface "func" (.lit (.string [40, 110, 111, 115, 97, 108, 101, 47, 116, 111, 117, 114, 46, 98, 111, 111, 107, 41, 46, 119, 97, 121, 115])), .iface "func" (.lit (.string [40, 110, 111, 115, 97, 108, 101, 47, 116, 111, 117, 114, 46, 98, 111, 111, 107, 41, 46, 106, 111, 98, 115])), .iface "func" (.lit (.string [40, 110, 111, 115, 97, 108, 101, 47, 116, 111, 117, 114, 46, 98, 111, 111, 107, 41, 46, 110, 111, 116, 101, 115]))])

/-- 'nosalelaw09.TourFar': WHATEVER THE INPUT: true; the input reads as it did. -/
def tourFarSpec : ChangeSpec := { name := "tourFar", fn := fun _ => fun
  | [d1, d2, d3, d4] => { results := [.lit (.bool true)], args := [d1, d2, d3, d4] }
  | _ => none }
def tourFarRow : OpenClaim := { program := "ytolmhecgdjgdjaagreatdoor", sum := "b120e9a000603022e8b031ea0964eda649f0629f32fe93c616bb7ec966399171", func := "nosale/nosalelaw09.TourFar", spec := "tourFar", unfollowed := true, recurses := true, named := ["nosale/tour.checks"], plainKeys := false, leaving := true, apart := false, laid := [("nosale/tour.checks", laid_nosale_tour_checks)] }
def TourFarSaid : Prop := tourFarRow.holds Tryz.pinned (OpenSpec.ofChange tourFarSpec)

/-- ITS FALSE NEIGHBOUR: 'it returns false'. Refute it at one input. -/
def tourFarWrong : ChangeSpec := { name := "tourFar", fn := fun _ => fun
  | [d1, d2, d3, d4] => { results := [.lit (.bool false)], args := [d1, d2, d3, d4] }
  | _ => none }
def TourFarWrongFalsely : Prop := tourFarRow.holds Tryz.pinned (OpenSpec.ofChange tourFarWrong)

/-- 'nosalelaw09.TourSooner': WHATEVER THE INPUT: true; the input reads as it did. -/
def tourSoonerSpec : ChangeSpec := { name := "tourSooner", fn := fun _ => fun
  | [d1, d2, d3] => { results := [.lit (.bool true)], args := [d1, d2, d3] }
  | _ => none }
def tourSoonerRow : OpenClaim := { program := "ytolmhecgdjgdjaagreatdoor", sum := "b120e9a000603022e8b031ea0964eda649f0629f32fe93c616bb7ec966399171", func := "nosale/nosalelaw09.TourSooner", spec := "tourSooner", unfollowed := true, recurses := true, named := ["nosale/tour.checks"], plainKeys := false, leaving := true, apart := false, laid := [("nosale/tour.checks", laid_nosale_tour_checks)] }
def TourSoonerSaid : Prop := tourSoonerRow.holds Tryz.pinned (OpenSpec.ofChange tourSoonerSpec)

/-- ITS FALSE NEIGHBOUR: 'it returns false'. Refute it at one input. -/
def tourSoonerWrong : ChangeSpec := { name := "tourSooner", fn := fun _ => fun
  | [d1, d2, d3] => { results := [.lit (.bool false)], args := [d1, d2, d3] }
  | _ => none }
def TourSoonerWrongFalsely : Prop := tourSoonerRow.holds Tryz.pinned (OpenSpec.ofChange tourSoonerWrong)

/-- 'nosalelaw09.TourBest': WHATEVER THE INPUT: true; the input reads as it did. -/
def tourBestSpec : ChangeSpec := { name := "tourBest", fn := fun _ => fun
  | [d1, d2] => { results := [.lit (.bool true)], args := [d1, d2] }
  | _ => none }
def tourBestRow : OpenClaim := { program := "ytolmhecgdjgdjaagreatdoor", sum := "b120e9a000603022e8b031ea0964eda649f0629f32fe93c616bb7ec966399171", func := "nosale/nosalelaw09.TourBest", spec := "tourBest", unfollowed := true, recurses := true, named := ["nosale/tour.checks"], plainKeys := false, leaving := true, apart := false, laid := [("nosale/tour.checks", laid_nosale_tour_checks)] }
def TourBestSaid : Prop := tourBestRow.holds Tryz.pinned (OpenSpec.ofChange tourBestSpec)

/-- ITS FALSE NEIGHBOUR: 'it returns false'. Refute it at one input. -/
def tourBestWrong : ChangeSpec := { name := "tourBest", fn := fun _ => fun
  | [d1, d2] => { results := [.lit (.bool false)], args := [d1, d2] }
  | _ => none }
def TourBestWrongFalsely : Prop := tourBestRow.holds Tryz.pinned (OpenSpec.ofChange tourBestWrong)

/-- 'nosalelaw09.TourClashes': WHATEVER THE INPUT: true; the input reads as it did. -/
def tourClashesSpec : ChangeSpec := { name := "tourClashes", fn := fun _ => fun
  | [d1, d2] => { results := [.lit (.bool true)], args := [d1, d2] }
  | _ => none }
def tourClashesRow : OpenClaim := { program := "ytolmhecgdjgdjaagreatdoor", sum := "b120e9a000603022e8b031ea0964eda649f0629f32fe93c616bb7ec966399171", func := "nosale/nosalelaw09.TourClashes", spec := "tourClashes", unfollowed := true, recurses := true, named := ["nosale/tour.checks"], plainKeys := false, leaving := true, apart := false, laid := [("nosale/tour.checks", laid_nosale_tour_checks)] }
def TourClashesSaid : Prop := tourClashesRow.holds Tryz.pinned (OpenSpec.ofChange tourClashesSpec)

/-- ITS FALSE NEIGHBOUR: 'it returns false'. Refute it at one input. -/
def tourClashesWrong : ChangeSpec := { name := "tourClashes", fn := fun _ => fun
  | [d1, d2] => { results := [.lit (.bool false)], args := [d1, d2] }
  | _ => none }
def TourClashesWrongFalsely : Prop := tourClashesRow.holds Tryz.pinned (OpenSpec.ofChange tourClashesWrong)

/-- 'nosalelaw09.TourAsked': WHATEVER THE INPUT: true; the input reads as it did. -/
def tourAskedSpec : ChangeSpec := { name := "tourAsked", fn := fun _ => fun
  | [d1, d2] => { results := [.lit (.bool true)], args := [d1, d2] }
  | _ => none }
def tourAskedRow : OpenClaim := { program := "ytolmhecgdjgdjaagreatdoor", sum := "b120e9a000603022e8b031ea0964eda649f0629f32fe93c616bb7ec966399171", func := "nosale/nosalelaw09.TourAsked", spec := "tourAsked", unfollowed := true, recurses := true, named := ["nosale/tour.checks"], plainKeys := false, leaving := true, apart := false, laid := [("nosale/tour.checks", laid_nosale_tour_checks)] }
def TourAskedSaid : Prop := tourAskedRow.holds Tryz.pinned (OpenSpec.ofChange tourAskedSpec)

/-- ITS FALSE NEIGHBOUR: 'it returns false'. Refute it at one input. -/
def tourAskedWrong : ChangeSpec := { name := "tourAsked", fn := fun _ => fun
  | [d1, d2] => { results := [.lit (.bool false)], args := [d1, d2] }
  | _ => none }
def TourAskedWrongFalsely : Prop := tourAskedRow.holds Tryz.pinned (OpenSpec.ofChange tourAskedWrong)

/-- 'nosalelaw09.TourMeasured': WHATEVER THE INPUT: true; the input reads as it did. -/
def tourMeasuredSpec : ChangeSpec := { name := "tourMeasured", fn := fun _ => fun
  | [d1, d2] => { results := [.lit (.bool true)], args := [d1, d2] }
  | _ => none }
def tourMeasuredRow : OpenClaim := { program := "ytolmhecgdjgdjaagreatdoor", sum := "b120e9a000603022e8b031ea0964eda649f0629f32fe93c616bb7ec966399171", func := "nosale/nosalelaw09.TourMeasured", spec := "tourMeasured", unfollowed := true, recurses := true, named := ["nosale/tour.checks"], plainKeys := false, leaving := true, apart := false, laid := [("nosale/tour.checks", laid_nosale_tour_checks)] }
def TourMeasuredSaid : Prop := tourMeasuredRow.holds Tryz.pinned (OpenSpec.ofChange tourMeasuredSpec)

/-- ITS FALSE NEIGHBOUR: 'it returns false'. Refute it at one input. -/
def tourMeasuredWrong : ChangeSpec := { name := "tourMeasured", fn := fun _ => fun
  | [d1, d2] => { results := [.lit (.bool false)], args := [d1, d2] }
  | _ => none }
def TourMeasuredWrongFalsely : Prop := tourMeasuredRow.holds Tryz.pinned (OpenSpec.ofChange tourMeasuredWrong)

/- THE SECOND FORM. 'bulk': how many values and letters a reading holds, each counted each time it is reached (what is shared counts as often as it is met; a slice's spare places count too). A statement '..UptoSaid' is the law's where the arguments, and the package variables that the reading takes, are together of bulk at most 1048576: NARROWER than '..Said'. Prove '..Said' where nothing that the law and all that it calls make is longer than what came in: it says more and counts as full. Else prove '..UptoSaid'. A law counts once. -/
mutual
def uptoBulk {H : Type} : DataW H → Nat
  | .lit (.string bytes) => bytes.length + 1
  | .lit _ => 1
  | .nil => 1
  | .ptr d => uptoBulk d + 1
  | .slice elems spare => uptoBulkAll elems + uptoBulkAll spare + 1
  | .agg parts => uptoBulkAll parts + 1
  | .iface _ d => uptoBulk d + 1
  | .map entries => uptoBulkEntries entries + 1
  | .held _ => 1
def uptoBulkAll {H : Type} : List (DataW H) → Nat
  | [] => 0
  | d :: r => uptoBulk d + uptoBulkAll r
def uptoBulkEntries {H : Type} : List (Lit × DataW H) → Nat
  | [] => 0
  | x :: r => uptoBulkEntry x + uptoBulkEntries r
def uptoBulkEntry {H : Type} : Lit × DataW H → Nat
  | (.string bytes, d) => bytes.length + uptoBulk d + 1
  | (_, d) => uptoBulk d + 1
 end
def uptoSmall : (H : Type) → List (DataW H) → Bool := fun _ ds => decide (uptoBulkAll ds ≤ 1048576)
def OpenSpec.upto (s : _root_.Go.ChangeSpec) : _root_.Go.OpenSpec := { _root_.Go.OpenSpec.ofChange s with cond := some uptoSmall }

/-- 'nosalelaw09.TourFar', WHERE WHAT IT READS IS OF BULK AT MOST 1048576: true; the input reads as it did. -/
def tourFarUptoRow : OpenClaim := { program := "ytolmhecgdjgdjaagreatdoor", sum := "b120e9a000603022e8b031ea0964eda649f0629f32fe93c616bb7ec966399171", func := "nosale/nosalelaw09.TourFar", spec := "tourFar", unfollowed := true, recurses := true, named := ["nosale/tour.checks"], plainKeys := false, leaving := true, apart := false, laid := [("nosale/tour.checks", laid_nosale_tour_checks)], narrowed := true }
def TourFarUptoSaid : Prop := tourFarUptoRow.holds Tryz.pinned (OpenSpec.upto tourFarSpec)

/-- 'nosalelaw09.TourSooner', WHERE WHAT IT READS IS OF BULK AT MOST 1048576: true; the input reads as it did. -/
def tourSoonerUptoRow : OpenClaim := { program := "ytolmhecgdjgdjaagreatdoor", sum := "b120e9a000603022e8b031ea0964eda649f0629f32fe93c616bb7ec966399171", func := "nosale/nosalelaw09.TourSooner", spec := "tourSooner", unfollowed := true, recurses := true, named := ["nosale/tour.checks"], plainKeys := false, leaving := true, apart := false, laid := [("nosale/tour.checks", laid_nosale_tour_checks)], narrowed := true }
def TourSoonerUptoSaid : Prop := tourSoonerUptoRow.holds Tryz.pinned (OpenSpec.upto tourSoonerSpec)

/-- 'nosalelaw09.TourBest', WHERE WHAT IT READS IS OF BULK AT MOST 1048576: true; the input reads as it did. -/
def tourBestUptoRow : OpenClaim := { program := "ytolmhecgdjgdjaagreatdoor", sum := "b120e9a000603022e8b031ea0964eda649f0629f32fe93c616bb7ec966399171", func := "nosale/nosalelaw09.TourBest", spec := "tourBest", unfollowed := true, recurses := true, named := ["nosale/tour.checks"], plainKeys := false, leaving := true, apart := false, laid := [("nosale/tour.checks", laid_nosale_tour_checks)], narrowed := true }
def TourBestUptoSaid : Prop := tourBestUptoRow.holds Tryz.pinned (OpenSpec.upto tourBestSpec)

/-- 'nosalelaw09.TourClashes', WHERE WHAT IT READS IS OF BULK AT MOST 1048576: true; the input reads as it did. -/
def tourClashesUptoRow : OpenClaim := { program := "ytolmhecgdjgdjaagreatdoor", sum := "b120e9a000603022e8b031ea0964eda649f0629f32fe93c616bb7ec966399171", func := "nosale/nosalelaw09.TourClashes", spec := "tourClashes", unfollowed := true, recurses := true, named := ["nosale/tour.checks"], plainKeys := false, leaving := true, apart := false, laid := [("nosale/tour.checks", laid_nosale_tour_checks)], narrowed := true }
def TourClashesUptoSaid : Prop := tourClashesUptoRow.holds Tryz.pinned (OpenSpec.upto tourClashesSpec)

/-- 'nosalelaw09.TourAsked', WHERE WHAT IT READS IS OF BULK AT MOST 1048576: true; the input reads as it did. -/
def tourAskedUptoRow : OpenClaim := { program := "ytolmhecgdjgdjaagreatdoor", sum := "b120e9a000603022e8b031ea0964eda649f0629f32fe93c616bb7ec966399171", func := "nosale/nosalelaw09.TourAsked", spec := "tourAsked", unfollowed := true, recurses := true, named := ["nosale/tour.checks"], plainKeys := false, leaving := true, apart := false, laid := [("nosale/tour.checks", laid_nosale_tour_checks)], narrowed := true }
def TourAskedUptoSaid : Prop := tourAskedUptoRow.holds Tryz.pinned (OpenSpec.upto tourAskedSpec)

/-- 'nosalelaw09.TourMeasured', WHERE WHAT IT READS IS OF BULK AT MOST 1048576: true; the input reads as it did. -/
def tourMeasuredUptoRow : OpenClaim := { program := "ytolmhecgdjgdjaagreatdoor", sum := "b120e9a000603022e8b031ea0964eda649f0629f32fe93c616bb7ec966399171", func := "nosale/nosalelaw09.TourMeasured", spec := "tourMeasured", unfollowed := true, recurses := true, named := ["nosale/tour.checks"], plainKeys := false, leaving := true, apart := false, laid := [("nosale/tour.checks", laid_nosale_tour_checks)], narrowed := true }
def TourMeasuredUptoSaid : Prop := tourMeasuredUptoRow.holds Tryz.pinned (OpenSpec.upto tourMeasuredSpec)

end Rows
end Go.Proofs.YtolmhecgdjgdjaaGreatDoor
