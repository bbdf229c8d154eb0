/-
  DERIVED. GIVEN WITH THE SEED: THE CARDS: each row of YtabamagholjdcaaGreatDoorRows.lean that lists a variable, with what it lists TIED to the program's text (the seventh form; the later family's looks); each row that meets fmt, with fmt's text TOLD by the authors' own Lean function (tested against real Go, not proved from fmt's source: count such statements apart). THE CARD IS WHAT COUNTS. Prove the row's statement (the work); the ties are given (YtabamagholjdcaaGreatDoorTie.lean); close each card by the builder's one call (the guide's Derived/Test/ToyasCard.lean, 'card_holds'). Laid BY PROGRAM, IN A SANDBOX (cutbox-door.mjs). By AI agents, Wed Nov 11 2026. No macro, syntax, notation, axiom, sorry.
-/
import Derived.Test.YtabamagholjdcaaGreatDoorRows
import GoSem.ClaimSeven
namespace Go.Proofs.YtabamagholjdcaaGreatDoor
namespace Rows

/-- THE TIED CARD OF 'laganlaw06.HullOrders'. -/
def hullOrdersCard : Claim7 := { stood := { row := hullOrdersRow, standIns := [], harness := (true, "a3c4a1d6a3e12b971492852ddb05cc39d99b07e6085e36256767384e4fbffde3"), looks := false }, kinds := [], alts := [], goes := true, laidByText := true, laidKinds := [.funcs], laidTests := true, laidLooks := .later }
def HullOrdersCardSaid : Prop := Claim7.holds Tryz.pinned (.plain (OpenSpec.ofChange hullOrdersSpec)) hullOrdersCard

/-- THE TIED CARD OF 'laganlaw06.HullNews'. -/
def hullNewsCard : Claim7 := { stood := { row := hullNewsRow, standIns := [], harness := (true, "a3c4a1d6a3e12b971492852ddb05cc39d99b07e6085e36256767384e4fbffde3"), looks := false }, kinds := [], alts := [], goes := true, laidByText := true, laidKinds := [.funcs], laidTests := true, laidLooks := .later }
def HullNewsCardSaid : Prop := Claim7.holds Tryz.pinned (.plain (OpenSpec.ofChange hullNewsSpec)) hullNewsCard

/-- THE TIED CARD OF 'laganlaw06.HullReached'. -/
def hullReachedCard : Claim7 := { stood := { row := hullReachedRow, standIns := [], harness := (true, "a3c4a1d6a3e12b971492852ddb05cc39d99b07e6085e36256767384e4fbffde3"), looks := false }, kinds := [], alts := [], goes := true, laidByText := true, laidKinds := [.funcs], laidTests := true, laidLooks := .later }
def HullReachedCardSaid : Prop := Claim7.holds Tryz.pinned (.plain (OpenSpec.ofChange hullReachedSpec)) hullReachedCard

/-- THE TIED CARD OF 'laganlaw06.HullAdds'. -/
def hullAddsCard : Claim7 := { stood := { row := hullAddsRow, standIns := [], harness := (true, "a3c4a1d6a3e12b971492852ddb05cc39d99b07e6085e36256767384e4fbffde3"), looks := false }, kinds := [], alts := [], goes := true, laidByText := true, laidKinds := [.funcs], laidTests := true, laidLooks := .later }
def HullAddsCardSaid : Prop := Claim7.holds Tryz.pinned (.plain (OpenSpec.ofChange hullAddsSpec)) hullAddsCard

/-- THE TIED CARD OF 'laganlaw06.HullOrdered'. -/
def hullOrderedCard : Claim7 := { stood := { row := hullOrderedRow, standIns := [], harness := (true, "a3c4a1d6a3e12b971492852ddb05cc39d99b07e6085e36256767384e4fbffde3"), looks := false }, kinds := [], alts := [], goes := true, laidByText := true, laidKinds := [.funcs], laidTests := true, laidLooks := .later }
def HullOrderedCardSaid : Prop := Claim7.holds Tryz.pinned (.plain (OpenSpec.ofChange hullOrderedSpec)) hullOrderedCard

/-- THE TIED CARD OF 'laganlaw06.HullShored'. -/
def hullShoredCard : Claim7 := { stood := { row := hullShoredRow, standIns := [], harness := (true, "a3c4a1d6a3e12b971492852ddb05cc39d99b07e6085e36256767384e4fbffde3"), looks := false }, kinds := [], alts := [], goes := true, laidByText := true, laidKinds := [.funcs], laidTests := true, laidLooks := .later }
def HullShoredCardSaid : Prop := Claim7.holds Tryz.pinned (.plain (OpenSpec.ofChange hullShoredSpec)) hullShoredCard

/-- THE TIED CARD OF 'laganlaw06.HullBears'. -/
def hullBearsCard : Claim7 := { stood := { row := hullBearsRow, standIns := [], harness := (true, "a3c4a1d6a3e12b971492852ddb05cc39d99b07e6085e36256767384e4fbffde3"), looks := false }, kinds := [], alts := [], goes := true, laidByText := true, laidKinds := [.funcs], laidTests := true, laidLooks := .later }
def HullBearsCardSaid : Prop := Claim7.holds Tryz.pinned (.plain (OpenSpec.ofChange hullBearsSpec)) hullBearsCard

/-- THE TIED CARD OF 'laganlaw06.HullLearnt'. -/
def hullLearntCard : Claim7 := { stood := { row := hullLearntRow, standIns := [], harness := (true, "a3c4a1d6a3e12b971492852ddb05cc39d99b07e6085e36256767384e4fbffde3"), looks := false }, kinds := [], alts := [], goes := true, laidByText := true, laidKinds := [.funcs], laidTests := true, laidLooks := .later }
def HullLearntCardSaid : Prop := Claim7.holds Tryz.pinned (.plain (OpenSpec.ofChange hullLearntSpec)) hullLearntCard

/-- THE TIED CARD OF 'laganlaw06.HullLifted'. -/
def hullLiftedCard : Claim7 := { stood := { row := hullLiftedRow, standIns := [], harness := (true, "a3c4a1d6a3e12b971492852ddb05cc39d99b07e6085e36256767384e4fbffde3"), looks := false }, kinds := [], alts := [], goes := true, laidByText := true, laidKinds := [.funcs], laidTests := true, laidLooks := .later }
def HullLiftedCardSaid : Prop := Claim7.holds Tryz.pinned (.plain (OpenSpec.ofChange hullLiftedSpec)) hullLiftedCard

/-- THE TIED CARD OF 'laganlaw06.HullClashes'. -/
def hullClashesCard : Claim7 := { stood := { row := hullClashesRow, standIns := [], harness := (true, "a3c4a1d6a3e12b971492852ddb05cc39d99b07e6085e36256767384e4fbffde3"), looks := false }, kinds := [], alts := [], goes := true, laidByText := true, laidKinds := [.funcs], laidTests := true, laidLooks := .later }
def HullClashesCardSaid : Prop := Claim7.holds Tryz.pinned (.plain (OpenSpec.ofChange hullClashesSpec)) hullClashesCard

/-- THE TIED CARD OF 'laganlaw06.HullAsked'. -/
def hullAskedCard : Claim7 := { stood := { row := hullAskedRow, standIns := [], harness := (true, "a3c4a1d6a3e12b971492852ddb05cc39d99b07e6085e36256767384e4fbffde3"), looks := false }, kinds := [], alts := [], goes := true, laidByText := true, laidKinds := [.funcs], laidTests := true, laidLooks := .later }
def HullAskedCardSaid : Prop := Claim7.holds Tryz.pinned (.plain (OpenSpec.ofChange hullAskedSpec)) hullAskedCard

/-- THE TIED CARD OF 'laganlaw06.HullTurned'. -/
def hullTurnedCard : Claim7 := { stood := { row := hullTurnedRow, standIns := [], harness := (true, "a3c4a1d6a3e12b971492852ddb05cc39d99b07e6085e36256767384e4fbffde3"), looks := false }, kinds := [], alts := [], goes := true, laidByText := true, laidKinds := [.funcs], laidTests := true, laidLooks := .later }
def HullTurnedCardSaid : Prop := Claim7.holds Tryz.pinned (.plain (OpenSpec.ofChange hullTurnedSpec)) hullTurnedCard

/-- THE TIED CARD OF 'laganlaw06.HullCases'. -/
def hullCasesCard : Claim7 := { stood := { row := hullCasesRow, standIns := [], harness := (true, "a3c4a1d6a3e12b971492852ddb05cc39d99b07e6085e36256767384e4fbffde3"), looks := false }, kinds := [], alts := [], goes := true, laidByText := true, laidKinds := [.funcs], laidTests := true, laidLooks := .later }
def HullCasesCardSaid : Prop := Claim7.holds Tryz.pinned (.plain (OpenSpec.ofChange hullCasesSpec)) hullCasesCard

/-- THE TIED CARD OF 'laganlaw06.HullMoments'. -/
def hullMomentsCard : Claim7 := { stood := { row := hullMomentsRow, standIns := [], harness := (true, "a3c4a1d6a3e12b971492852ddb05cc39d99b07e6085e36256767384e4fbffde3"), looks := false }, kinds := [], alts := [], goes := true, laidByText := true, laidKinds := [.funcs], laidTests := true, laidLooks := .later }
def HullMomentsCardSaid : Prop := Claim7.holds Tryz.pinned (.plain (OpenSpec.ofChange hullMomentsSpec)) hullMomentsCard

/-- THE TIED CARD OF 'laganlaw06.HullReal'. -/
def hullRealCard : Claim7 := { stood := { row := hullRealRow, standIns := [], harness := (true, "a3c4a1d6a3e12b971492852ddb05cc39d99b07e6085e36256767384e4fbffde3"), looks := false }, kinds := [], alts := [], goes := true, laidByText := true, laidKinds := [.funcs], laidTests := true, laidLooks := .later }
def HullRealCardSaid : Prop := Claim7.holds Tryz.pinned (.plain (OpenSpec.ofChange hullRealSpec)) hullRealCard

/-- THE SECOND FORM's CARD OF 'laganlaw06.HullOrders'. -/
def hullOrdersUptoCard : Claim7 := { stood := { row := hullOrdersUptoRow, standIns := [], harness := (true, "a3c4a1d6a3e12b971492852ddb05cc39d99b07e6085e36256767384e4fbffde3"), looks := false }, kinds := [], alts := [], goes := true, laidByText := true, laidKinds := [.funcs], laidTests := true, laidLooks := .later }
def HullOrdersUptoCardSaid : Prop := Claim7.holds Tryz.pinned (.plain (OpenSpec.upto hullOrdersSpec)) hullOrdersUptoCard

/-- THE SECOND FORM's CARD OF 'laganlaw06.HullNews'. -/
def hullNewsUptoCard : Claim7 := { stood := { row := hullNewsUptoRow, standIns := [], harness := (true, "a3c4a1d6a3e12b971492852ddb05cc39d99b07e6085e36256767384e4fbffde3"), looks := false }, kinds := [], alts := [], goes := true, laidByText := true, laidKinds := [.funcs], laidTests := true, laidLooks := .later }
def HullNewsUptoCardSaid : Prop := Claim7.holds Tryz.pinned (.plain (OpenSpec.upto hullNewsSpec)) hullNewsUptoCard

/-- THE SECOND FORM's CARD OF 'laganlaw06.HullReached'. -/
def hullReachedUptoCard : Claim7 := { stood := { row := hullReachedUptoRow, standIns := [], harness := (true, "a3c4a1d6a3e12b971492852ddb05cc39d99b07e6085e36256767384e4fbffde3"), looks := false }, kinds := [], alts := [], goes := true, laidByText := true, laidKinds := [.funcs], laidTests := true, laidLooks := .later }
def HullReachedUptoCardSaid : Prop := Claim7.holds Tryz.pinned (.plain (OpenSpec.upto hullReachedSpec)) hullReachedUptoCard

/-- THE SECOND FORM's CARD OF 'laganlaw06.HullAdds'. -/
def hullAddsUptoCard : Claim7 := { stood := { row := hullAddsUptoRow, standIns := [], harness := (true, "a3c4a1d6a3e12b971492852ddb05cc39d99b07e6085e36256767384e4fbffde3"), looks := false }, kinds := [], alts := [], goes := true, laidByText := true, laidKinds := [.funcs], laidTests := true, laidLooks := .later }
def HullAddsUptoCardSaid : Prop := Claim7.holds Tryz.pinned (.plain (OpenSpec.upto hullAddsSpec)) hullAddsUptoCard

/-- THE SECOND FORM's CARD OF 'laganlaw06.HullOrdered'. -/
def hullOrderedUptoCard : Claim7 := { stood := { row := hullOrderedUptoRow, standIns := [], harness := (true, "a3c4a1d6a3e12b971492852ddb05cc39d99b07e6085e36256767384e4fbffde3"), looks := false }, kinds := [], alts := [], goes := true, laidByText := true, laidKinds := [.funcs], laidTests := true, laidLooks := .later }
def HullOrderedUptoCardSaid : Prop := Claim7.holds Tryz.pinned (.plain (OpenSpec.upto hullOrderedSpec)) hullOrderedUptoCard

/-- THE SECOND FORM's CARD OF 'laganlaw06.HullShored'. -/
def hullShoredUptoCard : Claim7 := { stood := { row := hullShoredUptoRow, standIns := [], harness := (true, "a3c4a1d6a3e12b971492852ddb05cc39d99b07e6085e36256767384e4fbffde3"), looks := false }, kinds := [], alts := [], goes := true, laidByText := true, laidKinds := [.funcs], laidTests := true, laidLooks := .later }
def HullShoredUptoCardSaid : Prop := Claim7.holds Tryz.pinned (.plain (OpenSpec.upto hullShoredSpec)) hullShoredUptoCard

/-- THE SECOND FORM's CARD OF 'laganlaw06.HullBears'. -/
def hullBearsUptoCard : Claim7 := { stood := { row := hullBearsUptoRow, standIns := [], harness := (true, "a3c4a1d6a3e12b971492852ddb05cc39d99b07e6085e36256767384e4fbffde3"), looks := false }, kinds := [], alts := [], goes := true, laidByText := true, laidKinds := [.funcs], laidTests := true, laidLooks := .later }
def HullBearsUptoCardSaid : Prop := Claim7.holds Tryz.pinned (.plain (OpenSpec.upto hullBearsSpec)) hullBearsUptoCard

/-- THE SECOND FORM's CARD OF 'laganlaw06.HullLearnt'. -/
def hullLearntUptoCard : Claim7 := { stood := { row := hullLearntUptoRow, standIns := [], harness := (true, "a3c4a1d6a3e12b971492852ddb05cc39d99b07e6085e36256767384e4fbffde3"), looks := false }, kinds := [], alts := [], goes := true, laidByText := true, laidKinds := [.funcs], laidTests := true, laidLooks := .later }
def HullLearntUptoCardSaid : Prop := Claim7.holds Tryz.pinned (.plain (OpenSpec.upto hullLearntSpec)) hullLearntUptoCard

/-- THE SECOND FORM's CARD OF 'laganlaw06.HullLifted'. -/
def hullLiftedUptoCard : Claim7 := { stood := { row := hullLiftedUptoRow, standIns := [], harness := (true, "a3c4a1d6a3e12b971492852ddb05cc39d99b07e6085e36256767384e4fbffde3"), looks := false }, kinds := [], alts := [], goes := true, laidByText := true, laidKinds := [.funcs], laidTests := true, laidLooks := .later }
def HullLiftedUptoCardSaid : Prop := Claim7.holds Tryz.pinned (.plain (OpenSpec.upto hullLiftedSpec)) hullLiftedUptoCard

/-- THE SECOND FORM's CARD OF 'laganlaw06.HullClashes'. -/
def hullClashesUptoCard : Claim7 := { stood := { row := hullClashesUptoRow, standIns := [], harness := (true, "a3c4a1d6a3e12b971492852ddb05cc39d99b07e6085e36256767384e4fbffde3"), looks := false }, kinds := [], alts := [], goes := true, laidByText := true, laidKinds := [.funcs], laidTests := true, laidLooks := .later }
def HullClashesUptoCardSaid : Prop := Claim7.holds Tryz.pinned (.plain (OpenSpec.upto hullClashesSpec)) hullClashesUptoCard

/-- THE SECOND FORM's CARD OF 'laganlaw06.HullAsked'. -/
def hullAskedUptoCard : Claim7 := { stood := { row := hullAskedUptoRow, standIns := [], harness := (true, "a3c4a1d6a3e12b971492852ddb05cc39d99b07e6085e36256767384e4fbffde3"), looks := false }, kinds := [], alts := [], goes := true, laidByText := true, laidKinds := [.funcs], laidTests := true, laidLooks := .later }
def HullAskedUptoCardSaid : Prop := Claim7.holds Tryz.pinned (.plain (OpenSpec.upto hullAskedSpec)) hullAskedUptoCard

/-- THE SECOND FORM's CARD OF 'laganlaw06.HullTurned'. -/
def hullTurnedUptoCard : Claim7 := { stood := { row := hullTurnedUptoRow, standIns := [], harness := (true, "a3c4a1d6a3e12b971492852ddb05cc39d99b07e6085e36256767384e4fbffde3"), looks := false }, kinds := [], alts := [], goes := true, laidByText := true, laidKinds := [.funcs], laidTests := true, laidLooks := .later }
def HullTurnedUptoCardSaid : Prop := Claim7.holds Tryz.pinned (.plain (OpenSpec.upto hullTurnedSpec)) hullTurnedUptoCard

/-- THE SECOND FORM's CARD OF 'laganlaw06.HullCases'. -/
def hullCasesUptoCard : Claim7 := { stood := { row := hullCasesUptoRow, standIns := [], harness := (true, "a3c4a1d6a3e12b971492852ddb05cc39d99b07e6085e36256767384e4fbffde3"), looks := false }, kinds := [], alts := [], goes := true, laidByText := true, laidKinds := [.funcs], laidTests := true, laidLooks := .later }
def HullCasesUptoCardSaid : Prop := Claim7.holds Tryz.pinned (.plain (OpenSpec.upto hullCasesSpec)) hullCasesUptoCard

/-- THE SECOND FORM's CARD OF 'laganlaw06.HullMoments'. -/
def hullMomentsUptoCard : Claim7 := { stood := { row := hullMomentsUptoRow, standIns := [], harness := (true, "a3c4a1d6a3e12b971492852ddb05cc39d99b07e6085e36256767384e4fbffde3"), looks := false }, kinds := [], alts := [], goes := true, laidByText := true, laidKinds := [.funcs], laidTests := true, laidLooks := .later }
def HullMomentsUptoCardSaid : Prop := Claim7.holds Tryz.pinned (.plain (OpenSpec.upto hullMomentsSpec)) hullMomentsUptoCard

/-- THE SECOND FORM's CARD OF 'laganlaw06.HullReal'. -/
def hullRealUptoCard : Claim7 := { stood := { row := hullRealUptoRow, standIns := [], harness := (true, "a3c4a1d6a3e12b971492852ddb05cc39d99b07e6085e36256767384e4fbffde3"), looks := false }, kinds := [], alts := [], goes := true, laidByText := true, laidKinds := [.funcs], laidTests := true, laidLooks := .later }
def HullRealUptoCardSaid : Prop := Claim7.holds Tryz.pinned (.plain (OpenSpec.upto hullRealSpec)) hullRealUptoCard
end Rows
end Go.Proofs.YtabamagholjdcaaGreatDoor
