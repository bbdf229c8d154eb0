/- The row StintReal: the row itself. Conditions: as there. -/
import Derived.Test.YtihapemckcdicaaGreatDoorR19StEa
import Derived.Test.YtihapemckcdicaaGreatDoorR19StEp
namespace Go.Proofs.YtihapemckcdicaaGreatDoor
open Go.Lg Go.Proofs Go.ChangeShapes Go.WideShapes Go.ChangeAt Go.RowKit Go.Conc Tryz
open Go.ConcM (OsLater)
set_option maxRecDepth 100000
theorem closed:joinedFacts Tryz.pinned.checked.prog 19 Tryz.f19 Rows.stintRealSpec Rows.stintRealRow=true:=by
 unfold joinedFacts
 simp only [cM]
 repeat' apply And.intro
 all_goals first | with_reducible exact Nr | with_reducible exact Ns | with_reducible exact Nt | with_reducible exact Nu | kernel_rfl
theorem OG:Rows.StintRealSaid :=
 OpenClaim.holds_of_wide_leaving_time 19 Tryz.f19 rfl rfl rfl rfl rfl rfl rfl ⟨rfl,rfl,rfl,rfl,rfl⟩ rfl rfl rfl rfl rfl (by kernel_rfl) func19 closed
  (of_decide_eq_true (by kernel_rfl)) (by unfold Func.isWrapper; first | (rw [if_pos (by decide +kernel)]; kernel_rfl) | (rw [if_neg (by decide +kernel)]; exact ⟨rfl,rfl⟩))
  (λ os started T enc _ F=>OI os started T enc F)
end Go.Proofs.YtihapemckcdicaaGreatDoor
