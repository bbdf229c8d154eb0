/-
  NARROWER THAN 'FOR EVERY INPUT', by the rows' own cells (each row's printed sentence says how): HullBorne: laid.
  DERIVED. THE GIVEN ROWS OF THIS SEAT. 1 by the template 'for every input the law returns true; each argument reads behind the call as it read before'; 0 by the template 'total and deterministic' (their statements: YtoaoffinglajbaaGreatDoorTotals.lean).
  GIVEN WITH THE SEED: the statements are not yours to turn. If you find one false, say at which input.
  Laid BY PROGRAM, IN A SANDBOX (cutbox-rows.mjs): the forced cells as the released guide's own fill.sh prints them over the translation 17ce86de50012812… (all of the seat's roots in one cut). By AI agents, Wed Nov 11 2026. No macro, syntax, notation, axiom, sorry.
-/
import Derived.Test.YtoaoffinglajbaaGreatDoorChecked
import GoSem.Claim
import GoSem.ClaimJoined
import GoSem.ClaimMapViews
import Derived.JoinedTies
import Derived.KernelRfl
namespace Go.Proofs.YtoaoffinglajbaaGreatDoor
/- THE CELL 'sum', in the pinned program and in every row, IS THE sha256 OF THE DUMP (.gsa) THAT YtoaoffinglajbaaGreatDoorProg.lean LOADS. Nothing in Lean hashes anything: it is a label: what it is worth is what the hold of that sum in a sandbox is worth. -/
noncomputable def Tryz.pinned : Pinned := { name := "ytoaoffinglajbaagreatdoor", sum := "17ce86de500128121fed93b73a918fe446bb6becc2b25d48cae8ffcd59007cd1", checked := Tryz.checked }
namespace Rows
def none {H : Type} : Left H := { results := [], args := [] }

/- WHAT THE LISTED PACKAGE-LEVEL VARIABLES READ AS WHEN THE CALL BEGINS. Each datum BY PROGRAM (the guide's laid-datum.mjs) off the statement by which the dump's own 'gosem.cut.vars' lays the variable. In a bare row this is a premise. The card (YtoaoffinglajbaaGreatDoorCards.lean) ties it to the program's text. -/
def laid_lagan_bearing_checks {H : Type} : DataW H := .iface "func table" (.agg [.iface "func" (.lit (.string [40, 108, 97, 103, 97, 110, 47, 98, 101, 97, 114, 105, 110, 103, 46, 98, 111, 111, 107, 41, 46, 99, 104, 97, 114, 116])), .iface "func" (.lit (.string [40, 108, 97, 103, 97, 110, 47, 98, 101, 97, 114, 105, 110, 103, 46, 98, 111, 111, 107, 41, 46, 99, 111, 109, 112, 97, 115, 115, 101, 115])), .iface "func" (.lit (.string [40, 108, 97, 103, 97, 110, 47, 98, 101, 97, 114, 105, 110, 103, 46, 98, 111, 111, 107, 41, 46, 119, 105, 116, 110, 101, 115, 115, 101, 115]))])
def laid_lagan_hull_checks {H : Type} : DataW H := .iface "func table" (.agg [.iface "func" (.lit (.string [40, 108, 97, 103, 97, 110, 47, 104, 117, 108, 108, 46, 98, 111, 111, 107, 41, 46, 104, 117, 108, 108])), .iface "func" (.lit (.string [40, 108, 97, 103, 97, 110, 47, 104, 117, 108, 108, 46, 98, 111, 111, 107, 41, 46, 112, 105, 101, 99, 101, 115])), .iface "func" (.lit (.string [40, 108, 97, 103, 97, 110, 47, 104, 117, 108, 108, 46, 98, 111, 111, 107, 41, 46, 111, 117, 116])), .iface "func" (.lit (.string [40, 108, 97, 103, 97, 110, 47, 104, 117, 108, 108, 46, 98, 111, 111, 107, 41, 46, 104, 101, 101, 108, 115]))])

/-- 'laganlaw06.HullBorne': WHATEVER THE INPUT: true; the input reads as it did. -/
def hullBorneSpec : ChangeSpec := { name := "hullBorne", fn := fun _ => fun
  | [d1, d2, d3, d4, d5, d6] => { results := [.lit (.bool true)], args := [d1, d2, d3, d4, d5, d6] }
  | _ => none }
def hullBorneRow : OpenClaim := { program := "ytoaoffinglajbaagreatdoor", sum := "17ce86de500128121fed93b73a918fe446bb6becc2b25d48cae8ffcd59007cd1", func := "lagan/laganlaw06.HullBorne", spec := "hullBorne", unfollowed := true, recurses := true, named := ["lagan/hull.checks", "lagan/bearing.checks"], plainKeys := false, leaving := true, apart := false, laid := [("lagan/bearing.checks", laid_lagan_bearing_checks), ("lagan/hull.checks", laid_lagan_hull_checks)] }
def HullBorneSaid : Prop := hullBorneRow.holds Tryz.pinned (OpenSpec.ofChange hullBorneSpec)

/-- ITS FALSE NEIGHBOUR: 'it returns false'. Refute it at one input. -/
def hullBorneWrong : ChangeSpec := { name := "hullBorne", fn := fun _ => fun
  | [d1, d2, d3, d4, d5, d6] => { results := [.lit (.bool false)], args := [d1, d2, d3, d4, d5, d6] }
  | _ => none }
def HullBorneWrongFalsely : Prop := hullBorneRow.holds Tryz.pinned (OpenSpec.ofChange hullBorneWrong)

/- THE SECOND FORM. 'bulk': how many values and letters a reading holds, each counted each time it is reached (what is shared counts as often as it is met; a slice's spare places count too). A statement '..UptoSaid' is the law's where the arguments, and the package variables that the reading takes, are together of bulk at most 1048576: NARROWER than '..Said'. Prove '..Said' where nothing that the law and all that it calls make is longer than what came in: it says more and counts as full. Else prove '..UptoSaid'. A law counts once. -/
mutual
def uptoBulk {H : Type} : DataW H → Nat
  | .lit (.string bytes) => bytes.length + 1
  | .lit _ => 1
  | .nil => 1
  | .ptr d => uptoBulk d + 1
  | .slice elems spare => uptoBulkAll elems + uptoBulkAll spare + 1
  | .agg parts => uptoBulkAll parts + 1
  | .iface _ d => uptoBulk d + 1
  | .map entries => uptoBulkEntries entries + 1
  | .held _ => 1
def uptoBulkAll {H : Type} : List (DataW H) → Nat
  | [] => 0
  | d :: r => uptoBulk d + uptoBulkAll r
def uptoBulkEntries {H : Type} : List (Lit × DataW H) → Nat
  | [] => 0
  | x :: r => uptoBulkEntry x + uptoBulkEntries r
def uptoBulkEntry {H : Type} : Lit × DataW H → Nat
  | (.string bytes, d) => bytes.length + uptoBulk d + 1
  | (_, d) => uptoBulk d + 1
 end
def uptoSmall : (H : Type) → List (DataW H) → Bool := fun _ ds => decide (uptoBulkAll ds ≤ 1048576)
def OpenSpec.upto (s : _root_.Go.ChangeSpec) : _root_.Go.OpenSpec := { _root_.Go.OpenSpec.ofChange s with cond := some uptoSmall }

/-- 'laganlaw06.HullBorne', WHERE WHAT IT READS IS OF BULK AT MOST 1048576: true; the input reads as it did. -/
def hullBorneUptoRow : OpenClaim := { program := "ytoaoffinglajbaagreatdoor", sum := "17ce86de500128121fed93b73a918fe446bb6becc2b25d48cae8ffcd59007cd1", func := "lagan/laganlaw06.HullBorne", spec := "hullBorne", unfollowed := true, recurses := true, named := ["lagan/hull.checks", "lagan/bearing.checks"], plainKeys := false, leaving := true, apart := false, laid := [("lagan/bearing.checks", laid_lagan_bearing_checks), ("lagan/hull.checks", laid_lagan_hull_checks)], narrowed := true }
def HullBorneUptoSaid : Prop := hullBorneUptoRow.holds Tryz.pinned (OpenSpec.upto hullBorneSpec)

end Rows
end Go.Proofs.YtoaoffinglajbaaGreatDoor
