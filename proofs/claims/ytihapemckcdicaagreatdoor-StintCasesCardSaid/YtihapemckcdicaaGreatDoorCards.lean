/-
  DERIVED. GIVEN WITH THE SEED: THE CARDS: each row of YtihapemckcdicaaGreatDoorRows.lean that lists a variable, with what it lists TIED to the program's text (the seventh form; the later family's looks); each row that meets fmt, with fmt's text TOLD by the authors' own Lean function (tested against real Go, not proved from fmt's source: count such statements apart). THE CARD IS WHAT COUNTS. Prove the row's statement (the work); the ties are given (YtihapemckcdicaaGreatDoorTie.lean); close each card by the builder's one call (the guide's Derived/Test/ToyasCard.lean, 'card_holds'). Laid BY PROGRAM, IN A SANDBOX (cutbox-door.mjs). By AI agents, Wed Nov 11 2026. No macro, syntax, notation, axiom, sorry.
-/
import Derived.Test.YtihapemckcdicaaGreatDoorRows
import GoSem.ClaimSeven
namespace Go.Proofs.YtihapemckcdicaaGreatDoor
namespace Rows

/-- THE TIED CARD OF 'laganlaw05.StintCases'. -/
def stintCasesCard : Claim7 := { stood := { row := stintCasesRow, standIns := [], harness := (true, "fe6918396992fb4ce1d0e6a2f4b06d4724c0280ee12adfc19b8f06aed11edddf"), looks := false }, kinds := [], alts := [], goes := true, laidByText := true, laidKinds := [.funcs], laidTests := true, laidLooks := .later }
def StintCasesCardSaid : Prop := Claim7.holds Tryz.pinned (.plain (OpenSpec.ofChange stintCasesSpec)) stintCasesCard

/-- THE TIED CARD OF 'laganlaw05.StintRotas'. -/
def stintRotasCard : Claim7 := { stood := { row := stintRotasRow, standIns := [], harness := (true, "fe6918396992fb4ce1d0e6a2f4b06d4724c0280ee12adfc19b8f06aed11edddf"), looks := false }, kinds := [], alts := [], goes := true, laidByText := true, laidKinds := [.funcs], laidTests := true, laidLooks := .later }
def StintRotasCardSaid : Prop := Claim7.holds Tryz.pinned (.plain (OpenSpec.ofChange stintRotasSpec)) stintRotasCard

/-- THE TIED CARD OF 'laganlaw05.StintReached'. -/
def stintReachedCard : Claim7 := { stood := { row := stintReachedRow, standIns := [], harness := (true, "fe6918396992fb4ce1d0e6a2f4b06d4724c0280ee12adfc19b8f06aed11edddf"), looks := false }, kinds := [], alts := [], goes := true, laidByText := true, laidKinds := [.funcs], laidTests := true, laidLooks := .later }
def StintReachedCardSaid : Prop := Claim7.holds Tryz.pinned (.plain (OpenSpec.ofChange stintReachedSpec)) stintReachedCard

/-- THE TIED CARD OF 'laganlaw05.StintShallow'. -/
def stintShallowCard : Claim7 := { stood := { row := stintShallowRow, standIns := [], harness := (true, "fe6918396992fb4ce1d0e6a2f4b06d4724c0280ee12adfc19b8f06aed11edddf"), looks := false }, kinds := [], alts := [], goes := true, laidByText := true, laidKinds := [.funcs], laidTests := true, laidLooks := .later }
def StintShallowCardSaid : Prop := Claim7.holds Tryz.pinned (.plain (OpenSpec.ofChange stintShallowSpec)) stintShallowCard

/-- THE TIED CARD OF 'laganlaw05.StintAccident'. -/
def stintAccidentCard : Claim7 := { stood := { row := stintAccidentRow, standIns := [], harness := (true, "fe6918396992fb4ce1d0e6a2f4b06d4724c0280ee12adfc19b8f06aed11edddf"), looks := false }, kinds := [], alts := [], goes := true, laidByText := true, laidKinds := [.funcs], laidTests := true, laidLooks := .later }
def StintAccidentCardSaid : Prop := Claim7.holds Tryz.pinned (.plain (OpenSpec.ofChange stintAccidentSpec)) stintAccidentCard

/-- THE TIED CARD OF 'laganlaw05.StintClashes'. -/
def stintClashesCard : Claim7 := { stood := { row := stintClashesRow, standIns := [], harness := (true, "fe6918396992fb4ce1d0e6a2f4b06d4724c0280ee12adfc19b8f06aed11edddf"), looks := false }, kinds := [], alts := [], goes := true, laidByText := true, laidKinds := [.funcs], laidTests := true, laidLooks := .later }
def StintClashesCardSaid : Prop := Claim7.holds Tryz.pinned (.plain (OpenSpec.ofChange stintClashesSpec)) stintClashesCard

/-- THE TIED CARD OF 'laganlaw05.StintAsked'. -/
def stintAskedCard : Claim7 := { stood := { row := stintAskedRow, standIns := [], harness := (true, "fe6918396992fb4ce1d0e6a2f4b06d4724c0280ee12adfc19b8f06aed11edddf"), looks := false }, kinds := [], alts := [], goes := true, laidByText := true, laidKinds := [.funcs], laidTests := true, laidLooks := .later }
def StintAskedCardSaid : Prop := Claim7.holds Tryz.pinned (.plain (OpenSpec.ofChange stintAskedSpec)) stintAskedCard

/-- THE TIED CARD OF 'laganlaw05.StintFirst'. -/
def stintFirstCard : Claim7 := { stood := { row := stintFirstRow, standIns := [], harness := (true, "fe6918396992fb4ce1d0e6a2f4b06d4724c0280ee12adfc19b8f06aed11edddf"), looks := false }, kinds := [], alts := [], goes := true, laidByText := true, laidKinds := [.funcs], laidTests := true, laidLooks := .later }
def StintFirstCardSaid : Prop := Claim7.holds Tryz.pinned (.plain (OpenSpec.ofChange stintFirstSpec)) stintFirstCard

/-- THE TIED CARD OF 'laganlaw05.StintAlone'. -/
def stintAloneCard : Claim7 := { stood := { row := stintAloneRow, standIns := [], harness := (true, "fe6918396992fb4ce1d0e6a2f4b06d4724c0280ee12adfc19b8f06aed11edddf"), looks := false }, kinds := [], alts := [], goes := true, laidByText := true, laidKinds := [.funcs], laidTests := true, laidLooks := .later }
def StintAloneCardSaid : Prop := Claim7.holds Tryz.pinned (.plain (OpenSpec.ofChange stintAloneSpec)) stintAloneCard

/-- THE TIED CARD OF 'laganlaw05.StintCrew'. -/
def stintCrewCard : Claim7 := { stood := { row := stintCrewRow, standIns := [], harness := (true, "fe6918396992fb4ce1d0e6a2f4b06d4724c0280ee12adfc19b8f06aed11edddf"), looks := false }, kinds := [], alts := [], goes := true, laidByText := true, laidKinds := [.funcs], laidTests := true, laidLooks := .later }
def StintCrewCardSaid : Prop := Claim7.holds Tryz.pinned (.plain (OpenSpec.ofChange stintCrewSpec)) stintCrewCard

/-- THE TIED CARD OF 'laganlaw05.StintDropped'. -/
def stintDroppedCard : Claim7 := { stood := { row := stintDroppedRow, standIns := [], harness := (true, "fe6918396992fb4ce1d0e6a2f4b06d4724c0280ee12adfc19b8f06aed11edddf"), looks := false }, kinds := [], alts := [], goes := true, laidByText := true, laidKinds := [.funcs], laidTests := true, laidLooks := .later }
def StintDroppedCardSaid : Prop := Claim7.holds Tryz.pinned (.plain (OpenSpec.ofChange stintDroppedSpec)) stintDroppedCard

/-- THE TIED CARD OF 'laganlaw05.StintRested'. -/
def stintRestedCard : Claim7 := { stood := { row := stintRestedRow, standIns := [], harness := (true, "fe6918396992fb4ce1d0e6a2f4b06d4724c0280ee12adfc19b8f06aed11edddf"), looks := false }, kinds := [], alts := [], goes := true, laidByText := true, laidKinds := [.funcs], laidTests := true, laidLooks := .later }
def StintRestedCardSaid : Prop := Claim7.holds Tryz.pinned (.plain (OpenSpec.ofChange stintRestedSpec)) stintRestedCard

/-- THE TIED CARD OF 'laganlaw05.StintAnyOrder'. -/
def stintAnyOrderCard : Claim7 := { stood := { row := stintAnyOrderRow, standIns := [], harness := (true, "fe6918396992fb4ce1d0e6a2f4b06d4724c0280ee12adfc19b8f06aed11edddf"), looks := false }, kinds := [], alts := [], goes := true, laidByText := true, laidKinds := [.funcs], laidTests := true, laidLooks := .later }
def StintAnyOrderCardSaid : Prop := Claim7.holds Tryz.pinned (.plain (OpenSpec.ofChange stintAnyOrderSpec)) stintAnyOrderCard

/-- THE TIED CARD OF 'laganlaw05.StintNews'. -/
def stintNewsCard : Claim7 := { stood := { row := stintNewsRow, standIns := [], harness := (true, "fe6918396992fb4ce1d0e6a2f4b06d4724c0280ee12adfc19b8f06aed11edddf"), looks := false }, kinds := [], alts := [], goes := true, laidByText := true, laidKinds := [.funcs], laidTests := true, laidLooks := .later }
def StintNewsCardSaid : Prop := Claim7.holds Tryz.pinned (.plain (OpenSpec.ofChange stintNewsSpec)) stintNewsCard

/-- THE TIED CARD OF 'laganlaw05.StintLearnt'. -/
def stintLearntCard : Claim7 := { stood := { row := stintLearntRow, standIns := [], harness := (true, "fe6918396992fb4ce1d0e6a2f4b06d4724c0280ee12adfc19b8f06aed11edddf"), looks := false }, kinds := [], alts := [], goes := true, laidByText := true, laidKinds := [.funcs], laidTests := true, laidLooks := .later }
def StintLearntCardSaid : Prop := Claim7.holds Tryz.pinned (.plain (OpenSpec.ofChange stintLearntSpec)) stintLearntCard

/-- THE TIED CARD OF 'laganlaw05.StintDives'. -/
def stintDivesCard : Claim7 := { stood := { row := stintDivesRow, standIns := [], harness := (true, "fe6918396992fb4ce1d0e6a2f4b06d4724c0280ee12adfc19b8f06aed11edddf"), looks := false }, kinds := [], alts := [], goes := true, laidByText := true, laidKinds := [.funcs], laidTests := true, laidLooks := .later }
def StintDivesCardSaid : Prop := Claim7.holds Tryz.pinned (.plain (OpenSpec.ofChange stintDivesSpec)) stintDivesCard

/-- THE TIED CARD OF 'laganlaw05.StintReal'. -/
def stintRealCard : Claim7 := { stood := { row := stintRealRow, standIns := [], harness := (true, "fe6918396992fb4ce1d0e6a2f4b06d4724c0280ee12adfc19b8f06aed11edddf"), looks := false }, kinds := [], alts := [], goes := true, laidByText := true, laidKinds := [.funcs], laidTests := true, laidLooks := .later }
def StintRealCardSaid : Prop := Claim7.holds Tryz.pinned (.plain (OpenSpec.ofChange stintRealSpec)) stintRealCard
end Rows
end Go.Proofs.YtihapemckcdicaaGreatDoor
