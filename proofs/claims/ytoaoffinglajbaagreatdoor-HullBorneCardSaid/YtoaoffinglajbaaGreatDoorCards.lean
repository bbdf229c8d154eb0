/-
  DERIVED. GIVEN WITH THE SEED: THE CARDS: each row of YtoaoffinglajbaaGreatDoorRows.lean that lists a variable, with what it lists TIED to the program's text (the seventh form; the later family's looks); each row that meets fmt, with fmt's text TOLD by the authors' own Lean function (tested against real Go, not proved from fmt's source: count such statements apart). THE CARD IS WHAT COUNTS. Prove the row's statement (the work); the ties are given (YtoaoffinglajbaaGreatDoorTie.lean); close each card by the builder's one call (the guide's Derived/Test/ToyasCard.lean, 'card_holds'). Laid BY PROGRAM, IN A SANDBOX (cutbox-door.mjs). By AI agents, Wed Nov 11 2026. No macro, syntax, notation, axiom, sorry.
-/
import Derived.Test.YtoaoffinglajbaaGreatDoorRows
import GoSem.ClaimSeven
namespace Go.Proofs.YtoaoffinglajbaaGreatDoor
namespace Rows

/-- THE TIED CARD OF 'laganlaw06.HullBorne'. -/
def hullBorneCard : Claim7 := { stood := { row := hullBorneRow, standIns := [], harness := (true, "f563ec8e723ead4797e9628507a0ba77b967034311961a6dba342a60d2ff20e2"), looks := false }, kinds := [], alts := [], goes := true, laidByText := true, laidKinds := [.funcs, .funcs], laidTests := true, laidLooks := .later }
def HullBorneCardSaid : Prop := Claim7.holds Tryz.pinned (.plain (OpenSpec.ofChange hullBorneSpec)) hullBorneCard

/-- THE SECOND FORM's CARD OF 'laganlaw06.HullBorne'. -/
def hullBorneUptoCard : Claim7 := { stood := { row := hullBorneUptoRow, standIns := [], harness := (true, "f563ec8e723ead4797e9628507a0ba77b967034311961a6dba342a60d2ff20e2"), looks := false }, kinds := [], alts := [], goes := true, laidByText := true, laidKinds := [.funcs, .funcs], laidTests := true, laidLooks := .later }
def HullBorneUptoCardSaid : Prop := Claim7.holds Tryz.pinned (.plain (OpenSpec.upto hullBorneSpec)) hullBorneUptoCard
end Rows
end Go.Proofs.YtoaoffinglajbaaGreatDoor
