/-
  DERIVED. GIVEN WITH THE SEED: THE CARDS: each row of YtikficpdfaajlaaGreatDoorRows.lean that lists a variable, with what it lists TIED to the program's text (the seventh form; the later family's looks); each row that meets fmt, with fmt's text TOLD by the authors' own Lean function (tested against real Go, not proved from fmt's source: count such statements apart). THE CARD IS WHAT COUNTS. Prove the row's statement (the work); the ties are given (YtikficpdfaajlaaGreatDoorTie.lean); close each card by the builder's one call (the guide's Derived/Test/ToyasCard.lean, 'card_holds'). Laid BY PROGRAM, IN A SANDBOX (cutbox-door.mjs). By AI agents, Wed Nov 11 2026. No macro, syntax, notation, axiom, sorry.
-/
import Derived.Test.YtikficpdfaajlaaGreatDoorRows
import GoSem.ClaimSeven
namespace Go.Proofs.YtikficpdfaajlaaGreatDoor
namespace Rows

/-- THE TIED CARD OF 'laganlaw05.StintSwung'. -/
def stintSwungCard : Claim7 := { stood := { row := stintSwungRow, standIns := [], harness := (true, "224bf0d68bc22f23dfb9b812ded286e24bd3ac1fb218588ab42772ae813a7aef"), looks := false }, kinds := [], alts := [], goes := true, laidByText := true, laidKinds := [.funcs, .funcs], laidTests := true, laidLooks := .later }
def StintSwungCardSaid : Prop := Claim7.holds Tryz.pinned (.plain (OpenSpec.ofChange stintSwungSpec)) stintSwungCard
end Rows
end Go.Proofs.YtikficpdfaajlaaGreatDoor
