/- The row StintCases: the row itself. Conditions: as there. -/
import Derived.Test.YtihapemckcdicaaGreatDoorR3StEa
import Derived.Test.YtihapemckcdicaaGreatDoorR3StEp
namespace Go.Proofs.YtihapemckcdicaaGreatDoor
open Go.Lg Go.Proofs Go.ChangeShapes Go.WideShapes Go.ChangeAt Go.RowKit Go.Conc Tryz
open Go.ConcM (OsLater)
set_option maxRecDepth 100000
theorem closed:joinedFacts Tryz.pinned.checked.prog 3 Tryz.f3 Rows.stintCasesSpec Rows.stintCasesRow=true:=by
 unfold joinedFacts
 simp only [jm]
 repeat' apply And.intro
 all_goals first | with_reducible exact aON | with_reducible exact aOO | with_reducible exact aOP | with_reducible exact aOQ | kernel_rfl
theorem aPL:Rows.StintCasesSaid :=
 OpenClaim.holds_of_wide_leaving_time 3 Tryz.f3 rfl rfl rfl rfl rfl rfl rfl ⟨rfl,rfl,rfl,rfl,rfl⟩ rfl rfl rfl rfl rfl (by kernel_rfl) func3 closed
  (of_decide_eq_true (by kernel_rfl)) (by unfold Func.isWrapper; first | (rw [if_pos (by decide +kernel)]; kernel_rfl) | (rw [if_neg (by decide +kernel)]; exact ⟨rfl,rfl⟩))
  (λ os started T enc _ F=>aPN os started T enc F)
end Go.Proofs.YtihapemckcdicaaGreatDoor
