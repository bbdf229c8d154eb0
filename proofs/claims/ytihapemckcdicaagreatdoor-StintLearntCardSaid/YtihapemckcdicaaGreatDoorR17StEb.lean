/- The row StintLearnt: the row itself. Conditions: as there. -/
import Derived.Test.YtihapemckcdicaaGreatDoorR17StEa
import Derived.Test.YtihapemckcdicaaGreatDoorR17StEp
namespace Go.Proofs.YtihapemckcdicaaGreatDoor
open Go.Lg Go.Proofs Go.ChangeShapes Go.WideShapes Go.ChangeAt Go.RowKit Go.Conc Tryz
open Go.ConcM (OsLater)
set_option maxRecDepth 100000
theorem closed:joinedFacts Tryz.pinned.checked.prog 17 Tryz.f17 Rows.stintLearntSpec Rows.stintLearntRow=true:=by
 unfold joinedFacts
 simp only [fF]
 repeat' apply And.intro
 all_goals first | with_reducible exact aLw | with_reducible exact aLx | with_reducible exact aLy | with_reducible exact aLz | kernel_rfl
theorem aMz:Rows.StintLearntSaid :=
 OpenClaim.holds_of_wide_leaving_time 17 Tryz.f17 rfl rfl rfl rfl rfl rfl rfl ⟨rfl,rfl,rfl,rfl,rfl⟩ rfl rfl rfl rfl rfl (by kernel_rfl) func17 closed
  (of_decide_eq_true (by kernel_rfl)) (by unfold Func.isWrapper; first | (rw [if_pos (by decide +kernel)]; kernel_rfl) | (rw [if_neg (by decide +kernel)]; exact ⟨rfl,rfl⟩))
  (λ os started T enc _ F=>aMB os started T enc F)
end Go.Proofs.YtihapemckcdicaaGreatDoor
