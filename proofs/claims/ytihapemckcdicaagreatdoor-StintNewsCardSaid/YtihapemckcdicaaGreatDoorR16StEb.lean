/- The row StintNews: the row itself. Conditions: as there. -/
import Derived.Test.YtihapemckcdicaaGreatDoorR16StEa
import Derived.Test.YtihapemckcdicaaGreatDoorR16StEp
namespace Go.Proofs.YtihapemckcdicaaGreatDoor
open Go.Lg Go.Proofs Go.ChangeShapes Go.WideShapes Go.ChangeAt Go.RowKit Go.Conc Tryz
open Go.ConcM (OsLater)
set_option maxRecDepth 100000
theorem closed:joinedFacts Tryz.pinned.checked.prog 16 Tryz.f16 Rows.stintNewsSpec Rows.stintNewsRow=true:=by
 unfold joinedFacts
 simp only [Bool.and_eq_true]
 repeat' apply And.intro
 all_goals first | with_reducible exact aCl | with_reducible exact aCm | with_reducible exact aCn | with_reducible exact aCo | kernel_rfl
theorem aDf:Rows.StintNewsSaid :=
 OpenClaim.holds_of_wide_leaving_time 16 Tryz.f16 rfl rfl rfl rfl rfl rfl rfl ⟨rfl,rfl,rfl,rfl,rfl⟩ rfl rfl rfl rfl rfl (by kernel_rfl) func16 closed
  (of_decide_eq_true (by kernel_rfl)) (by unfold Func.isWrapper; first | (rw [if_pos (by decide +kernel)]; kernel_rfl) | (rw [if_neg (by decide +kernel)]; exact ⟨rfl,rfl⟩))
  (λ os started T enc _ F=>aDh os started T enc F)
end Go.Proofs.YtihapemckcdicaaGreatDoor
