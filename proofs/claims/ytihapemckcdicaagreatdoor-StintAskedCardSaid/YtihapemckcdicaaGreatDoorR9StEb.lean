/- The row StintAsked: the row itself. Conditions: as there. -/
import Derived.Test.YtihapemckcdicaaGreatDoorR9StEa
import Derived.Test.YtihapemckcdicaaGreatDoorR9StEp
namespace Go.Proofs.YtihapemckcdicaaGreatDoor
open Go.Lg Go.Proofs Go.ChangeShapes Go.WideShapes Go.ChangeAt Go.RowKit Go.Conc Tryz
open Go.ConcM (OsLater)
set_option maxRecDepth 100000
theorem closed:joinedFacts Tryz.pinned.checked.prog 9 Tryz.f9 Rows.stintAskedSpec Rows.stintAskedRow=true:=by
 unfold joinedFacts
 simp only [Bool.and_eq_true]
 repeat' apply And.intro
 all_goals first | with_reducible exact avZ | with_reducible exact av0 | with_reducible exact av1 | with_reducible exact av2 | kernel_rfl
theorem awN:Rows.StintAskedSaid :=
 OpenClaim.holds_of_wide_leaving_time 9 Tryz.f9 rfl rfl rfl rfl rfl rfl rfl ⟨rfl,rfl,rfl,rfl,rfl⟩ rfl rfl rfl rfl rfl (by kernel_rfl) func9 closed
  (of_decide_eq_true (by kernel_rfl)) (by unfold Func.isWrapper; first | (rw [if_pos (by decide +kernel)]; kernel_rfl) | (rw [if_neg (by decide +kernel)]; exact ⟨rfl,rfl⟩))
  (λ os started T enc _ F=>awP os started T enc F)
end Go.Proofs.YtihapemckcdicaaGreatDoor
