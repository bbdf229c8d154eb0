/-
  NARROWER THAN 'FOR EVERY INPUT', by the rows' own cells (each row's printed sentence says how): HullOrders: laid · HullNews: laid · HullReached: laid · HullAdds: laid · HullOrdered: laid · HullShored: laid · HullBears: laid · HullLearnt: laid · HullLifted: laid · HullClashes: laid · HullAsked: laid · HullTurned: laid · HullCases: laid · HullMoments: laid · HullReal: laid.
  DERIVED. THE GIVEN ROWS OF THIS SEAT. 15 by the template 'for every input the law returns true; each argument reads behind the call as it read before'; 0 by the template 'total and deterministic' (their statements: YtabamagholjdcaaGreatDoorTotals.lean).
  GIVEN WITH THE SEED: the statements are not yours to turn. If you find one false, say at which input.
  Laid BY PROGRAM, IN A SANDBOX (cutbox-rows.mjs): the forced cells as the released guide's own fill.sh prints them over the translation 96c88e78ae474d74… (all of the seat's roots in one cut). By AI agents, Wed Nov 11 2026. No macro, syntax, notation, axiom, sorry.
-/
import Derived.Test.YtabamagholjdcaaGreatDoorChecked
import GoSem.Claim
import GoSem.ClaimJoined
import GoSem.ClaimMapViews
import Derived.JoinedTies
import Derived.KernelRfl
namespace Go.Proofs.YtabamagholjdcaaGreatDoor
/- THE CELL 'sum', in the pinned program and in every row, IS THE sha256 OF THE DUMP (.gsa) THAT YtabamagholjdcaaGreatDoorProg.lean LOADS. Nothing in Lean hashes anything: it is a label: what it is worth is what the hold of that sum in a sandbox is worth. -/
noncomputable def Tryz.pinned : Pinned := { name := "ytabamagholjdcaagreatdoor", sum := "96c88e78ae474d74c01991d0e441e933d5f847b7cac0ddfe6b375ac7905c435a", checked := Tryz.checked }
namespace Rows
def none {H : Type} : Left H := { results := [], args := [] }

/- WHAT THE LISTED PACKAGE-LEVEL VARIABLES READ AS WHEN THE CALL BEGINS. Each datum BY PROGRAM (the guide's laid-datum.mjs) off the statement by which the dump's own 'gosem.cut.vars' lays the variable. In a bare row this is a premise. The card (YtabamagholjdcaaGreatDoorCards.lean) ties it to the program's text. -/
def laid_lagan_hull_checks {H : Type} : DataW H := .iface "func table" (.agg [.iface "func" (.lit (.string [40, 108, 97, 103, 97, 110, 47, 104, 117, 108, 108, 46, 98, 111, 111, 107, 41, 46, 104, 117, 108, 108])), .iface "func" (.lit (.string [40, 108, 97, 103, 97, 110, 47, 104, 117, 108, 108, 46, 98, 111, 111, 107, 41, 46, 112, 105, 101, 99, 101, 115])), .iface "func" (.lit (.string [40, 108, 97, 103, 97, 110, 47, 104, 117, 108, 108, 46, 98, 111, 111, 107, 41, 46, 111, 117, 116])), .iface "func" (.lit (.string [40, 108, 97, 103, 97, 110, 47, 104, 117, 108, 108, 46, 98, 111, 111, 107, 41, 46, 104, 101, 101, 108, 115]))])

/-- 'laganlaw06.HullOrders': WHATEVER THE INPUT: true; the input reads as it did. -/
def hullOrdersSpec : ChangeSpec := { name := "hullOrders", fn := fun _ => fun
  | [d1, d2] => { results := [.lit (.bool true)], args := [d1, d2] }
  | _ => none }
def hullOrdersRow : OpenClaim := { program := "ytabamagholjdcaagreatdoor", sum := "96c88e78ae474d74c01991d0e441e933d5f847b7cac0ddfe6b375ac7905c435a", func := "lagan/laganlaw06.HullOrders", spec := "hullOrders", unfollowed := true, recurses := true, named := ["lagan/hull.checks"], plainKeys := false, leaving := true, apart := false, laid := [("lagan/hull.checks", laid_lagan_hull_checks)] }
def HullOrdersSaid : Prop := hullOrdersRow.holds Tryz.pinned (OpenSpec.ofChange hullOrdersSpec)

/-- ITS FALSE NEIGHBOUR: 'it returns false'. Refute it at one input. -/
def hullOrdersWrong : ChangeSpec := { name := "hullOrders", fn := fun _ => fun
  | [d1, d2] => { results := [.lit (.bool false)], args := [d1, d2] }
  | _ => none }
def HullOrdersWrongFalsely : Prop := hullOrdersRow.holds Tryz.pinned (OpenSpec.ofChange hullOrdersWrong)

/-- 'laganlaw06.HullNews': WHATEVER THE INPUT: true; the input reads as it did. -/
def hullNewsSpec : ChangeSpec := { name := "hullNews", fn := fun _ => fun
  | [d1, d2, d3, d4] => { results := [.lit (.bool true)], args := [d1, d2, d3, d4] }
  | _ => none }
def hullNewsRow : OpenClaim := { program := "ytabamagholjdcaagreatdoor", sum := "96c88e78ae474d74c01991d0e441e933d5f847b7cac0ddfe6b375ac7905c435a", func := "lagan/laganlaw06.HullNews", spec := "hullNews", unfollowed := true, recurses := true, named := ["lagan/hull.checks"], plainKeys := false, leaving := true, apart := false, laid := [("lagan/hull.checks", laid_lagan_hull_checks)] }
def HullNewsSaid : Prop := hullNewsRow.holds Tryz.pinned (OpenSpec.ofChange hullNewsSpec)

/-- ITS FALSE NEIGHBOUR: 'it returns false'. Refute it at one input. -/
def hullNewsWrong : ChangeSpec := { name := "hullNews", fn := fun _ => fun
  | [d1, d2, d3, d4] => { results := [.lit (.bool false)], args := [d1, d2, d3, d4] }
  | _ => none }
def HullNewsWrongFalsely : Prop := hullNewsRow.holds Tryz.pinned (OpenSpec.ofChange hullNewsWrong)

/-- 'laganlaw06.HullReached': WHATEVER THE INPUT: true; the input reads as it did. -/
def hullReachedSpec : ChangeSpec := { name := "hullReached", fn := fun _ => fun
  | [d1, d2] => { results := [.lit (.bool true)], args := [d1, d2] }
  | _ => none }
def hullReachedRow : OpenClaim := { program := "ytabamagholjdcaagreatdoor", sum := "96c88e78ae474d74c01991d0e441e933d5f847b7cac0ddfe6b375ac7905c435a", func := "lagan/laganlaw06.HullReached", spec := "hullReached", unfollowed := true, recurses := true, named := ["lagan/hull.checks"], plainKeys := false, leaving := true, apart := false, laid := [("lagan/hull.checks", laid_lagan_hull_checks)] }
def HullReachedSaid : Prop := hullReachedRow.holds Tryz.pinned (OpenSpec.ofChange hullReachedSpec)

/-- ITS FALSE NEIGHBOUR: 'it returns false'. Refute it at one input. -/
def hullReachedWrong : ChangeSpec := { name := "hullReached", fn := fun _ => fun
  | [d1, d2] => { results := [.lit (.bool false)], args := [d1, d2] }
  | _ => none }
def HullReachedWrongFalsely : Prop := hullReachedRow.holds Tryz.pinned (OpenSpec.ofChange hullReachedWrong)

/-- 'laganlaw06.HullAdds': WHATEVER THE INPUT: true; the input reads as it did. -/
def hullAddsSpec : ChangeSpec := { name := "hullAdds", fn := fun _ => fun
  | [d1, d2, d3, d4] => { results := [.lit (.bool true)], args := [d1, d2, d3, d4] }
  | _ => none }
def hullAddsRow : OpenClaim := { program := "ytabamagholjdcaagreatdoor", sum := "96c88e78ae474d74c01991d0e441e933d5f847b7cac0ddfe6b375ac7905c435a", func := "lagan/laganlaw06.HullAdds", spec := "hullAdds", unfollowed := true, recurses := true, named := ["lagan/hull.checks"], plainKeys := false, leaving := true, apart := false, laid := [("lagan/hull.checks", laid_lagan_hull_checks)] }
def HullAddsSaid : Prop := hullAddsRow.holds Tryz.pinned (OpenSpec.ofChange hullAddsSpec)

/-- ITS FALSE NEIGHBOUR: 'it returns false'. Refute it at one input. -/
def hullAddsWrong : ChangeSpec := { name := "hullAdds", fn := fun _ => fun
  | [d1, d2, d3, d4] => { results := [.lit (.bool false)], args := [d1, d2, d3, d4] }
  | _ => none }
def HullAddsWrongFalsely : Prop := hullAddsRow.holds Tryz.pinned (OpenSpec.ofChange hullAddsWrong)

/-- 'laganlaw06.HullOrdered': WHATEVER THE INPUT: true; the input reads as it did. -/
def hullOrderedSpec : ChangeSpec := { name := "hullOrdered", fn := fun _ => fun
  | [d1, d2, d3] => { results := [.lit (.bool true)], args := [d1, d2, d3] }
  | _ => none }
def hullOrderedRow : OpenClaim := { program := "ytabamagholjdcaagreatdoor", sum := "96c88e78ae474d74c01991d0e441e933d5f847b7cac0ddfe6b375ac7905c435a", func := "lagan/laganlaw06.HullOrdered", spec := "hullOrdered", unfollowed := true, recurses := true, named := ["lagan/hull.checks"], plainKeys := false, leaving := true, apart := false, laid := [("lagan/hull.checks", laid_lagan_hull_checks)] }
def HullOrderedSaid : Prop := hullOrderedRow.holds Tryz.pinned (OpenSpec.ofChange hullOrderedSpec)

/-- ITS FALSE NEIGHBOUR: 'it returns false'. Refute it at one input. -/
def hullOrderedWrong : ChangeSpec := { name := "hullOrdered", fn := fun _ => fun
  | [d1, d2, d3] => { results := [.lit (.bool false)], args := [d1, d2, d3] }
  | _ => none }
def HullOrderedWrongFalsely : Prop := hullOrderedRow.holds Tryz.pinned (OpenSpec.ofChange hullOrderedWrong)

/-- 'laganlaw06.HullShored': WHATEVER THE INPUT: true; the input reads as it did. -/
def hullShoredSpec : ChangeSpec := { name := "hullShored", fn := fun _ => fun
  | [d1, d2] => { results := [.lit (.bool true)], args := [d1, d2] }
  | _ => none }
def hullShoredRow : OpenClaim := { program := "ytabamagholjdcaagreatdoor", sum := "96c88e78ae474d74c01991d0e441e933d5f847b7cac0ddfe6b375ac7905c435a", func := "lagan/laganlaw06.HullShored", spec := "hullShored", unfollowed := true, recurses := true, named := ["lagan/hull.checks"], plainKeys := false, leaving := true, apart := false, laid := [("lagan/hull.checks", laid_lagan_hull_checks)] }
def HullShoredSaid : Prop := hullShoredRow.holds Tryz.pinned (OpenSpec.ofChange hullShoredSpec)

/-- ITS FALSE NEIGHBOUR: 'it returns false'. Refute it at one input. -/
def hullShoredWrong : ChangeSpec := { name := "hullShored", fn := fun _ => fun
  | [d1, d2] => { results := [.lit (.bool false)], args := [d1, d2] }
  | _ => none }
def HullShoredWrongFalsely : Prop := hullShoredRow.holds Tryz.pinned (OpenSpec.ofChange hullShoredWrong)

/-- 'laganlaw06.HullBears': WHATEVER THE INPUT: true; the input reads as it did. -/
def hullBearsSpec : ChangeSpec := { name := "hullBears", fn := fun _ => fun
  | [d] => { results := [.lit (.bool true)], args := [d] }
  | _ => none }
def hullBearsRow : OpenClaim := { program := "ytabamagholjdcaagreatdoor", sum := "96c88e78ae474d74c01991d0e441e933d5f847b7cac0ddfe6b375ac7905c435a", func := "lagan/laganlaw06.HullBears", spec := "hullBears", unfollowed := true, recurses := true, named := ["lagan/hull.checks"], plainKeys := false, leaving := true, apart := false, laid := [("lagan/hull.checks", laid_lagan_hull_checks)] }
def HullBearsSaid : Prop := hullBearsRow.holds Tryz.pinned (OpenSpec.ofChange hullBearsSpec)

/-- ITS FALSE NEIGHBOUR: 'it returns false'. Refute it at one input. -/
def hullBearsWrong : ChangeSpec := { name := "hullBears", fn := fun _ => fun
  | [d] => { results := [.lit (.bool false)], args := [d] }
  | _ => none }
def HullBearsWrongFalsely : Prop := hullBearsRow.holds Tryz.pinned (OpenSpec.ofChange hullBearsWrong)

/-- 'laganlaw06.HullLearnt': WHATEVER THE INPUT: true; the input reads as it did. -/
def hullLearntSpec : ChangeSpec := { name := "hullLearnt", fn := fun _ => fun
  | [d1, d2, d3, d4, d5, d6] => { results := [.lit (.bool true)], args := [d1, d2, d3, d4, d5, d6] }
  | _ => none }
def hullLearntRow : OpenClaim := { program := "ytabamagholjdcaagreatdoor", sum := "96c88e78ae474d74c01991d0e441e933d5f847b7cac0ddfe6b375ac7905c435a", func := "lagan/laganlaw06.HullLearnt", spec := "hullLearnt", unfollowed := true, recurses := true, named := ["lagan/hull.checks"], plainKeys := false, leaving := true, apart := false, laid := [("lagan/hull.checks", laid_lagan_hull_checks)] }
def HullLearntSaid : Prop := hullLearntRow.holds Tryz.pinned (OpenSpec.ofChange hullLearntSpec)

/-- ITS FALSE NEIGHBOUR: 'it returns false'. Refute it at one input. -/
def hullLearntWrong : ChangeSpec := { name := "hullLearnt", fn := fun _ => fun
  | [d1, d2, d3, d4, d5, d6] => { results := [.lit (.bool false)], args := [d1, d2, d3, d4, d5, d6] }
  | _ => none }
def HullLearntWrongFalsely : Prop := hullLearntRow.holds Tryz.pinned (OpenSpec.ofChange hullLearntWrong)

/-- 'laganlaw06.HullLifted': WHATEVER THE INPUT: true; the input reads as it did. -/
def hullLiftedSpec : ChangeSpec := { name := "hullLifted", fn := fun _ => fun
  | [d1, d2, d3] => { results := [.lit (.bool true)], args := [d1, d2, d3] }
  | _ => none }
def hullLiftedRow : OpenClaim := { program := "ytabamagholjdcaagreatdoor", sum := "96c88e78ae474d74c01991d0e441e933d5f847b7cac0ddfe6b375ac7905c435a", func := "lagan/laganlaw06.HullLifted", spec := "hullLifted", unfollowed := true, recurses := true, named := ["lagan/hull.checks"], plainKeys := false, leaving := true, apart := false, laid := [("lagan/hull.checks", laid_lagan_hull_checks)] }
def HullLiftedSaid : Prop := hullLiftedRow.holds Tryz.pinned (OpenSpec.ofChange hullLiftedSpec)

/-- ITS FALSE NEIGHBOUR: 'it returns false'. Refute it at one input. -/
def hullLiftedWrong : ChangeSpec := { name := "hullLifted", fn := fun _ => fun
  | [d1, d2, d3] => { results := [.lit (.bool false)], args := [d1, d2, d3] }
  | _ => none }
def HullLiftedWrongFalsely : Prop := hullLiftedRow.holds Tryz.pinned (OpenSpec.ofChange hullLiftedWrong)

/-- 'laganlaw06.HullClashes': WHATEVER THE INPUT: true; the input reads as it did. -/
def hullClashesSpec : ChangeSpec := { name := "hullClashes", fn := fun _ => fun
  | [d1, d2] => { results := [.lit (.bool true)], args := [d1, d2] }
  | _ => none }
def hullClashesRow : OpenClaim := { program := "ytabamagholjdcaagreatdoor", sum := "96c88e78ae474d74c01991d0e441e933d5f847b7cac0ddfe6b375ac7905c435a", func := "lagan/laganlaw06.HullClashes", spec := "hullClashes", unfollowed := true, recurses := true, named := ["lagan/hull.checks"], plainKeys := false, leaving := true, apart := false, laid := [("lagan/hull.checks", laid_lagan_hull_checks)] }
def HullClashesSaid : Prop := hullClashesRow.holds Tryz.pinned (OpenSpec.ofChange hullClashesSpec)

/-- ITS FALSE NEIGHBOUR: 'it returns false'. Refute it at one input. -/
def hullClashesWrong : ChangeSpec := { name := "hullClashes", fn := fun _ => fun
  | [d1, d2] => { results := [.lit (.bool false)], args := [d1, d2] }
  | _ => none }
def HullClashesWrongFalsely : Prop := hullClashesRow.holds Tryz.pinned (OpenSpec.ofChange hullClashesWrong)

/-- 'laganlaw06.HullAsked': WHATEVER THE INPUT: true; the input reads as it did. -/
def hullAskedSpec : ChangeSpec := { name := "hullAsked", fn := fun _ => fun
  | [d1, d2] => { results := [.lit (.bool true)], args := [d1, d2] }
  | _ => none }
def hullAskedRow : OpenClaim := { program := "ytabamagholjdcaagreatdoor", sum := "96c88e78ae474d74c01991d0e441e933d5f847b7cac0ddfe6b375ac7905c435a", func := "lagan/laganlaw06.HullAsked", spec := "hullAsked", unfollowed := true, recurses := true, named := ["lagan/hull.checks"], plainKeys := false, leaving := true, apart := false, laid := [("lagan/hull.checks", laid_lagan_hull_checks)] }
def HullAskedSaid : Prop := hullAskedRow.holds Tryz.pinned (OpenSpec.ofChange hullAskedSpec)

/-- ITS FALSE NEIGHBOUR: 'it returns false'. Refute it at one input. -/
def hullAskedWrong : ChangeSpec := { name := "hullAsked", fn := fun _ => fun
  | [d1, d2] => { results := [.lit (.bool false)], args := [d1, d2] }
  | _ => none }
def HullAskedWrongFalsely : Prop := hullAskedRow.holds Tryz.pinned (OpenSpec.ofChange hullAskedWrong)

/-- 'laganlaw06.HullTurned': WHATEVER THE INPUT: true; the input reads as it did. -/
def hullTurnedSpec : ChangeSpec := { name := "hullTurned", fn := fun _ => fun
  | [d1, d2, d3, d4] => { results := [.lit (.bool true)], args := [d1, d2, d3, d4] }
  | _ => none }
def hullTurnedRow : OpenClaim := { program := "ytabamagholjdcaagreatdoor", sum := "96c88e78ae474d74c01991d0e441e933d5f847b7cac0ddfe6b375ac7905c435a", func := "lagan/laganlaw06.HullTurned", spec := "hullTurned", unfollowed := true, recurses := true, named := ["lagan/hull.checks"], plainKeys := false, leaving := true, apart := false, laid := [("lagan/hull.checks", laid_lagan_hull_checks)] }
def HullTurnedSaid : Prop := hullTurnedRow.holds Tryz.pinned (OpenSpec.ofChange hullTurnedSpec)

/-- ITS FALSE NEIGHBOUR: 'it returns false'. Refute it at one input. -/
def hullTurnedWrong : ChangeSpec := { name := "hullTurned", fn := fun _ => fun
  | [d1, d2, d3, d4] => { results := [.lit (.bool false)], args := [d1, d2, d3, d4] }
  | _ => none }
def HullTurnedWrongFalsely : Prop := hullTurnedRow.holds Tryz.pinned (OpenSpec.ofChange hullTurnedWrong)

/-- 'laganlaw06.HullCases': WHATEVER THE INPUT: true; the input reads as it did. -/
def hullCasesSpec : ChangeSpec := { name := "hullCases", fn := fun _ => fun
  | [d1, d2, d3] => { results := [.lit (.bool true)], args := [d1, d2, d3] }
  | _ => none }
def hullCasesRow : OpenClaim := { program := "ytabamagholjdcaagreatdoor", sum := "96c88e78ae474d74c01991d0e441e933d5f847b7cac0ddfe6b375ac7905c435a", func := "lagan/laganlaw06.HullCases", spec := "hullCases", unfollowed := true, recurses := true, named := ["lagan/hull.checks"], plainKeys := false, leaving := true, apart := false, laid := [("lagan/hull.checks", laid_lagan_hull_checks)] }
def HullCasesSaid : Prop := hullCasesRow.holds Tryz.pinned (OpenSpec.ofChange hullCasesSpec)

/-- ITS FALSE NEIGHBOUR: 'it returns false'. Refute it at one input. -/
def hullCasesWrong : ChangeSpec := { name := "hullCases", fn := fun _ => fun
  | [d1, d2, d3] => { results := [.lit (.bool false)], args := [d1, d2, d3] }
  | _ => none }
def HullCasesWrongFalsely : Prop := hullCasesRow.holds Tryz.pinned (OpenSpec.ofChange hullCasesWrong)

/-- 'laganlaw06.HullMoments': WHATEVER THE INPUT: true; the input reads as it did. -/
def hullMomentsSpec : ChangeSpec := { name := "hullMoments", fn := fun _ => fun
  | [d1, d2, d3] => { results := [.lit (.bool true)], args := [d1, d2, d3] }
  | _ => none }
def hullMomentsRow : OpenClaim := { program := "ytabamagholjdcaagreatdoor", sum := "96c88e78ae474d74c01991d0e441e933d5f847b7cac0ddfe6b375ac7905c435a", func := "lagan/laganlaw06.HullMoments", spec := "hullMoments", unfollowed := true, recurses := true, named := ["lagan/hull.checks"], plainKeys := false, leaving := true, apart := false, laid := [("lagan/hull.checks", laid_lagan_hull_checks)] }
def HullMomentsSaid : Prop := hullMomentsRow.holds Tryz.pinned (OpenSpec.ofChange hullMomentsSpec)

/-- ITS FALSE NEIGHBOUR: 'it returns false'. Refute it at one input. -/
def hullMomentsWrong : ChangeSpec := { name := "hullMoments", fn := fun _ => fun
  | [d1, d2, d3] => { results := [.lit (.bool false)], args := [d1, d2, d3] }
  | _ => none }
def HullMomentsWrongFalsely : Prop := hullMomentsRow.holds Tryz.pinned (OpenSpec.ofChange hullMomentsWrong)

/-- 'laganlaw06.HullReal': WHATEVER THE INPUT: true; the input reads as it did. -/
def hullRealSpec : ChangeSpec := { name := "hullReal", fn := fun _ => fun
  | [d1, d2, d3, d4] => { results := [.lit (.bool true)], args := [d1, d2, d3, d4] }
  | _ => none }
def hullRealRow : OpenClaim := { program := "ytabamagholjdcaagreatdoor", sum := "96c88e78ae474d74c01991d0e441e933d5f847b7cac0ddfe6b375ac7905c435a", func := "lagan/laganlaw06.HullReal", spec := "hullReal", unfollowed := true, recurses := true, named := ["lagan/hull.checks"], plainKeys := false, leaving := true, apart := false, laid := [("lagan/hull.checks", laid_lagan_hull_checks)] }
def HullRealSaid : Prop := hullRealRow.holds Tryz.pinned (OpenSpec.ofChange hullRealSpec)

/-- ITS FALSE NEIGHBOUR: 'it returns false'. Refute it at one input. -/
def hullRealWrong : ChangeSpec := { name := "hullReal", fn := fun _ => fun
  | [d1, d2, d3, d4] => { results := [.lit (.bool false)], args := [d1, d2, d3, d4] }
  | _ => none }
def HullRealWrongFalsely : Prop := hullRealRow.holds Tryz.pinned (OpenSpec.ofChange hullRealWrong)

/- THE SECOND FORM. 'bulk': how many values and letters a reading holds, each counted each time it is reached (what is shared counts as often as it is met; a slice's spare places count too). A statement '..UptoSaid' is the law's where the arguments, and the package variables that the reading takes, are together of bulk at most 1048576: NARROWER than '..Said'. Prove '..Said' where nothing that the law and all that it calls make is longer than what came in: it says more and counts as full. Else prove '..UptoSaid'. A law counts once. -/
mutual
def uptoBulk {H : Type} : DataW H → Nat
  | .lit (.string bytes) => bytes.length + 1
  | .lit _ => 1
  | .nil => 1
  | .ptr d => uptoBulk d + 1
  | .slice elems spare => uptoBulkAll elems + uptoBulkAll spare + 1
  | .agg parts => uptoBulkAll parts + 1
  | .iface _ d => uptoBulk d + 1
  | .map entries => uptoBulkEntries entries + 1
  | .held _ => 1
def uptoBulkAll {H : Type} : List (DataW H) → Nat
  | [] => 0
  | d :: r => uptoBulk d + uptoBulkAll r
def uptoBulkEntries {H : Type} : List (Lit × DataW H) → Nat
  | [] => 0
  | x :: r => uptoBulkEntry x + uptoBulkEntries r
def uptoBulkEntry {H : Type} : Lit × DataW H → Nat
  | (.string bytes, d) => bytes.length + uptoBulk d + 1
  | (_, d) => uptoBulk d + 1
 end
def uptoSmall : (H : Type) → List (DataW H) → Bool := fun _ ds => decide (uptoBulkAll ds ≤ 1048576)
def OpenSpec.upto (s : _root_.Go.ChangeSpec) : _root_.Go.OpenSpec := { _root_.Go.OpenSpec.ofChange s with cond := some uptoSmall }

/-- 'laganlaw06.HullOrders', WHERE WHAT IT READS IS OF BULK AT MOST 1048576: true; the input reads as it did. -/
def hullOrdersUptoRow : OpenClaim := { program := "ytabamagholjdcaagreatdoor", sum := "96c88e78ae474d74c01991d0e441e933d5f847b7cac0ddfe6b375ac7905c435a", func := "lagan/laganlaw06.HullOrders", spec := "hullOrders", unfollowed := true, recurses := true, named := ["lagan/hull.checks"], plainKeys := false, leaving := true, apart := false, laid := [("lagan/hull.checks", laid_lagan_hull_checks)], narrowed := true }
def HullOrdersUptoSaid : Prop := hullOrdersUptoRow.holds Tryz.pinned (OpenSpec.upto hullOrdersSpec)

/-- 'laganlaw06.HullNews', WHERE WHAT IT READS IS OF BULK AT MOST 1048576: true; the input reads as it did. -/
def hullNewsUptoRow : OpenClaim := { program := "ytabamagholjdcaagreatdoor", sum := "96c88e78ae474d74c01991d0e441e933d5f847b7cac0ddfe6b375ac7905c435a", func := "lagan/laganlaw06.HullNews", spec := "hullNews", unfollowed := true, recurses := true, named := ["lagan/hull.checks"], plainKeys := false, leaving := true, apart := false, laid := [("lagan/hull.checks", laid_lagan_hull_checks)], narrowed := true }
def HullNewsUptoSaid : Prop := hullNewsUptoRow.holds Tryz.pinned (OpenSpec.upto hullNewsSpec)

/-- 'laganlaw06.HullReached', WHERE WHAT IT READS IS OF BULK AT MOST 1048576: true; the input reads as it did. -/
def hullReachedUptoRow : OpenClaim := { program := "ytabamagholjdcaagreatdoor", sum := "96c88e78ae474d74c01991d0e441e933d5f847b7cac0ddfe6b375ac7905c435a", func := "lagan/laganlaw06.HullReached", spec := "hullReached", unfollowed := true, recurses := true, named := ["lagan/hull.checks"], plainKeys := false, leaving := true, apart := false, laid := [("lagan/hull.checks", laid_lagan_hull_checks)], narrowed := true }
def HullReachedUptoSaid : Prop := hullReachedUptoRow.holds Tryz.pinned (OpenSpec.upto hullReachedSpec)

/-- 'laganlaw06.HullAdds', WHERE WHAT IT READS IS OF BULK AT MOST 1048576: true; the input reads as it did. -/
def hullAddsUptoRow : OpenClaim := { program := "ytabamagholjdcaagreatdoor", sum := "96c88e78ae474d74c01991d0e441e933d5f847b7cac0ddfe6b375ac7905c435a", func := "lagan/laganlaw06.HullAdds", spec := "hullAdds", unfollowed := true, recurses := true, named := ["lagan/hull.checks"], plainKeys := false, leaving := true, apart := false, laid := [("lagan/hull.checks", laid_lagan_hull_checks)], narrowed := true }
def HullAddsUptoSaid : Prop := hullAddsUptoRow.holds Tryz.pinned (OpenSpec.upto hullAddsSpec)

/-- 'laganlaw06.HullOrdered', WHERE WHAT IT READS IS OF BULK AT MOST 1048576: true; the input reads as it did. -/
def hullOrderedUptoRow : OpenClaim := { program := "ytabamagholjdcaagreatdoor", sum := "96c88e78ae474d74c01991d0e441e933d5f847b7cac0ddfe6b375ac7905c435a", func := "lagan/laganlaw06.HullOrdered", spec := "hullOrdered", unfollowed := true, recurses := true, named := ["lagan/hull.checks"], plainKeys := false, leaving := true, apart := false, laid := [("lagan/hull.checks", laid_lagan_hull_checks)], narrowed := true }
def HullOrderedUptoSaid : Prop := hullOrderedUptoRow.holds Tryz.pinned (OpenSpec.upto hullOrderedSpec)

/-- 'laganlaw06.HullShored', WHERE WHAT IT READS IS OF BULK AT MOST 1048576: true; the input reads as it did. -/
def hullShoredUptoRow : OpenClaim := { program := "ytabamagholjdcaagreatdoor", sum := "96c88e78ae474d74c01991d0e441e933d5f847b7cac0ddfe6b375ac7905c435a", func := "lagan/laganlaw06.HullShored", spec := "hullShored", unfollowed := true, recurses := true, named := ["lagan/hull.checks"], plainKeys := false, leaving := true, apart := false, laid := [("lagan/hull.checks", laid_lagan_hull_checks)], narrowed := true }
def HullShoredUptoSaid : Prop := hullShoredUptoRow.holds Tryz.pinned (OpenSpec.upto hullShoredSpec)

/-- 'laganlaw06.HullBears', WHERE WHAT IT READS IS OF BULK AT MOST 1048576: true; the input reads as it did. -/
def hullBearsUptoRow : OpenClaim := { program := "ytabamagholjdcaagreatdoor", sum := "96c88e78ae474d74c01991d0e441e933d5f847b7cac0ddfe6b375ac7905c435a", func := "lagan/laganlaw06.HullBears", spec := "hullBears", unfollowed := true, recurses := true, named := ["lagan/hull.checks"], plainKeys := false, leaving := true, apart := false, laid := [("lagan/hull.checks", laid_lagan_hull_checks)], narrowed := true }
def HullBearsUptoSaid : Prop := hullBearsUptoRow.holds Tryz.pinned (OpenSpec.upto hullBearsSpec)

/-- 'laganlaw06.HullLearnt', WHERE WHAT IT READS IS OF BULK AT MOST 1048576: true; the input reads as it did. -/
def hullLearntUptoRow : OpenClaim := { program := "ytabamagholjdcaagreatdoor", sum := "96c88e78ae474d74c01991d0e441e933d5f847b7cac0ddfe6b375ac7905c435a", func := "lagan/laganlaw06.HullLearnt", spec := "hullLearnt", unfollowed := true, recurses := true, named := ["lagan/hull.checks"], plainKeys := false, leaving := true, apart := false, laid := [("lagan/hull.checks", laid_lagan_hull_checks)], narrowed := true }
def HullLearntUptoSaid : Prop := hullLearntUptoRow.holds Tryz.pinned (OpenSpec.upto hullLearntSpec)

/-- 'laganlaw06.HullLifted', WHERE WHAT IT READS IS OF BULK AT MOST 1048576: true; the input reads as it did. -/
def hullLiftedUptoRow : OpenClaim := { program := "ytabamagholjdcaagreatdoor", sum := "96c88e78ae474d74c01991d0e441e933d5f847b7cac0ddfe6b375ac7905c435a", func := "lagan/laganlaw06.HullLifted", spec := "hullLifted", unfollowed := true, recurses := true, named := ["lagan/hull.checks"], plainKeys := false, leaving := true, apart := false, laid := [("lagan/hull.checks", laid_lagan_hull_checks)], narrowed := true }
def HullLiftedUptoSaid : Prop := hullLiftedUptoRow.holds Tryz.pinned (OpenSpec.upto hullLiftedSpec)

/-- 'laganlaw06.HullClashes', WHERE WHAT IT READS IS OF BULK AT MOST 1048576: true; the input reads as it did. -/
def hullClashesUptoRow : OpenClaim := { program := "ytabamagholjdcaagreatdoor", sum := "96c88e78ae474d74c01991d0e441e933d5f847b7cac0ddfe6b375ac7905c435a", func := "lagan/laganlaw06.HullClashes", spec := "hullClashes", unfollowed := true, recurses := true, named := ["lagan/hull.checks"], plainKeys := false, leaving := true, apart := false, laid := [("lagan/hull.checks", laid_lagan_hull_checks)], narrowed := true }
def HullClashesUptoSaid : Prop := hullClashesUptoRow.holds Tryz.pinned (OpenSpec.upto hullClashesSpec)

/-- 'laganlaw06.HullAsked', WHERE WHAT IT READS IS OF BULK AT MOST 1048576: true; the input reads as it did. -/
def hullAskedUptoRow : OpenClaim := { program := "ytabamagholjdcaagreatdoor", sum := "96c88e78ae474d74c01991d0e441e933d5f847b7cac0ddfe6b375ac7905c435a", func := "lagan/laganlaw06.HullAsked", spec := "hullAsked", unfollowed := true, recurses := true, named := ["lagan/hull.checks"], plainKeys := false, leaving := true, apart := false, laid := [("lagan/hull.checks", laid_lagan_hull_checks)], narrowed := true }
def HullAskedUptoSaid : Prop := hullAskedUptoRow.holds Tryz.pinned (OpenSpec.upto hullAskedSpec)

/-- 'laganlaw06.HullTurned', WHERE WHAT IT READS IS OF BULK AT MOST 1048576: true; the input reads as it did. -/
def hullTurnedUptoRow : OpenClaim := { program := "ytabamagholjdcaagreatdoor", sum := "96c88e78ae474d74c01991d0e441e933d5f847b7cac0ddfe6b375ac7905c435a", func := "lagan/laganlaw06.HullTurned", spec := "hullTurned", unfollowed := true, recurses := true, named := ["lagan/hull.checks"], plainKeys := false, leaving := true, apart := false, laid := [("lagan/hull.checks", laid_lagan_hull_checks)], narrowed := true }
def HullTurnedUptoSaid : Prop := hullTurnedUptoRow.holds Tryz.pinned (OpenSpec.upto hullTurnedSpec)

/-- 'laganlaw06.HullCases', WHERE WHAT IT READS IS OF BULK AT MOST 1048576: true; the input reads as it did. -/
def hullCasesUptoRow : OpenClaim := { program := "ytabamagholjdcaagreatdoor", sum := "96c88e78ae474d74c01991d0e441e933d5f847b7cac0ddfe6b375ac7905c435a", func := "lagan/laganlaw06.HullCases", spec := "hullCases", unfollowed := true, recurses := true, named := ["lagan/hull.checks"], plainKeys := false, leaving := true, apart := false, laid := [("lagan/hull.checks", laid_lagan_hull_checks)], narrowed := true }
def HullCasesUptoSaid : Prop := hullCasesUptoRow.holds Tryz.pinned (OpenSpec.upto hullCasesSpec)

/-- 'laganlaw06.HullMoments', WHERE WHAT IT READS IS OF BULK AT MOST 1048576: true; the input reads as it did. -/
def hullMomentsUptoRow : OpenClaim := { program := "ytabamagholjdcaagreatdoor", sum := "96c88e78ae474d74c01991d0e441e933d5f847b7cac0ddfe6b375ac7905c435a", func := "lagan/laganlaw06.HullMoments", spec := "hullMoments", unfollowed := true, recurses := true, named := ["lagan/hull.checks"], plainKeys := false, leaving := true, apart := false, laid := [("lagan/hull.checks", laid_lagan_hull_checks)], narrowed := true }
def HullMomentsUptoSaid : Prop := hullMomentsUptoRow.holds Tryz.pinned (OpenSpec.upto hullMomentsSpec)

/-- 'laganlaw06.HullReal', WHERE WHAT IT READS IS OF BULK AT MOST 1048576: true; the input reads as it did. -/
def hullRealUptoRow : OpenClaim := { program := "ytabamagholjdcaagreatdoor", sum := "96c88e78ae474d74c01991d0e441e933d5f847b7cac0ddfe6b375ac7905c435a", func := "lagan/laganlaw06.HullReal", spec := "hullReal", unfollowed := true, recurses := true, named := ["lagan/hull.checks"], plainKeys := false, leaving := true, apart := false, laid := [("lagan/hull.checks", laid_lagan_hull_checks)], narrowed := true }
def HullRealUptoSaid : Prop := hullRealUptoRow.holds Tryz.pinned (OpenSpec.upto hullRealSpec)

end Rows
end Go.Proofs.YtabamagholjdcaaGreatDoor
