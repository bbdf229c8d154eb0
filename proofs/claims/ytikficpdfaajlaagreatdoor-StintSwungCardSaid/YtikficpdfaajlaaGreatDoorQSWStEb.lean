/- The row StintSwung: the row itself. Conditions: as there. -/
import Derived.Test.YtikficpdfaajlaaGreatDoorQSWStEa
import Derived.Test.YtikficpdfaajlaaGreatDoorQSWStEp
namespace Go.Proofs.YtikficpdfaajlaaGreatDoor
open Go.Lg Go.Proofs Go.ChangeShapes Go.WideShapes Go.ChangeAt Go.RowKit Go.Conc Tryz
open Go.ConcM (OsLater)
set_option maxRecDepth 100000
theorem closed:joinedFacts Tryz.pinned.checked.prog 3 Tryz.f3 Rows.stintSwungSpec Rows.stintSwungRow=true:=by
 unfold joinedFacts
 simp only [cO]
 repeat' apply And.intro
 all_goals first | with_reducible exact Q3 | with_reducible exact Q4 | with_reducible exact Q5 | with_reducible exact Q6 | kernel_rfl
theorem Sj:Rows.StintSwungSaid :=
 OpenClaim.holds_of_wide_leaving_time 3 Tryz.f3 rfl rfl rfl rfl rfl rfl rfl ⟨rfl,rfl,rfl,rfl,rfl⟩ rfl rfl rfl rfl rfl (by kernel_rfl) func3 closed
  (of_decide_eq_true (by kernel_rfl)) (by unfold Func.isWrapper; first | (rw [if_pos (by decide +kernel)]; kernel_rfl) | (rw [if_neg (by decide +kernel)]; exact ⟨rfl,rfl⟩))
  (λ os started T enc _ F=>Sl os started T enc F)
end Go.Proofs.YtikficpdfaajlaaGreatDoor
