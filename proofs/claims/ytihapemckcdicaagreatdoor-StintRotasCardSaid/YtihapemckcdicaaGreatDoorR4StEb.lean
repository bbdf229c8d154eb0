/- The row StintRotas: the row itself. Conditions: as there. -/
import Derived.Test.YtihapemckcdicaaGreatDoorR4StEa
import Derived.Test.YtihapemckcdicaaGreatDoorR4StEp
namespace Go.Proofs.YtihapemckcdicaaGreatDoor
open Go.Lg Go.Proofs Go.ChangeShapes Go.WideShapes Go.ChangeAt Go.RowKit Go.Conc Tryz
open Go.ConcM (OsLater)
set_option maxRecDepth 100000
theorem closed:joinedFacts Tryz.pinned.checked.prog 4 Tryz.f4 Rows.stintRotasSpec Rows.stintRotasRow=true:=by
 unfold joinedFacts
 simp only [fy]
 repeat' apply And.intro
 all_goals first | with_reducible exact aHQ | with_reducible exact aHR | with_reducible exact aHS | with_reducible exact aHT | kernel_rfl
theorem aIW:Rows.StintRotasSaid :=
 OpenClaim.holds_of_wide_leaving_time 4 Tryz.f4 rfl rfl rfl rfl rfl rfl rfl ⟨rfl,rfl,rfl,rfl,rfl⟩ rfl rfl rfl rfl rfl (by kernel_rfl) func4 closed
  (of_decide_eq_true (by kernel_rfl)) (by unfold Func.isWrapper; first | (rw [if_pos (by decide +kernel)]; kernel_rfl) | (rw [if_neg (by decide +kernel)]; exact ⟨rfl,rfl⟩))
  (λ os started T enc _ F=>aIY os started T enc F)
end Go.Proofs.YtihapemckcdicaaGreatDoor
