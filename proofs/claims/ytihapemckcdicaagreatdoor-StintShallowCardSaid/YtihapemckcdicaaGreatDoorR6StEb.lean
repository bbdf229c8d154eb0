/- The row StintShallow: the row itself. Conditions: as there. -/
import Derived.Test.YtihapemckcdicaaGreatDoorR6StEa
import Derived.Test.YtihapemckcdicaaGreatDoorR6StEp
namespace Go.Proofs.YtihapemckcdicaaGreatDoor
open Go.Lg Go.Proofs Go.ChangeShapes Go.WideShapes Go.ChangeAt Go.RowKit Go.Conc Tryz
open Go.ConcM (OsLater)
set_option maxRecDepth 100000
theorem closed:joinedFacts Tryz.pinned.checked.prog 6 Tryz.f6 Rows.stintShallowSpec Rows.stintShallowRow=true:=by
 unfold joinedFacts
 simp only [Bool.and_eq_true]
 repeat' apply And.intro
 all_goals first | with_reducible exact aF8 | with_reducible exact aF9 | with_reducible exact aGa | with_reducible exact aGb | kernel_rfl
theorem aG0:Rows.StintShallowSaid :=
 OpenClaim.holds_of_wide_leaving_time 6 Tryz.f6 rfl rfl rfl rfl rfl rfl rfl ⟨rfl,rfl,rfl,rfl,rfl⟩ rfl rfl rfl rfl rfl (by kernel_rfl) func6 closed
  (of_decide_eq_true (by kernel_rfl)) (by unfold Func.isWrapper; first | (rw [if_pos (by decide +kernel)]; kernel_rfl) | (rw [if_neg (by decide +kernel)]; exact ⟨rfl,rfl⟩))
  (λ os started T enc _ F=>aG2 os started T enc F)
end Go.Proofs.YtihapemckcdicaaGreatDoor
