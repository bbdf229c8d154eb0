/- The row StintSwung: what it reaches. Conditions: as there. -/
import Derived.Test.YtikficpdfaajlaaGreatDoorRows
import Derived.KernelRfl
namespace Go.Proofs.YtikficpdfaajlaaGreatDoor
open Go.Proofs
set_option maxRecDepth 100000
theorem Q3:(Rows.stintSwungRow.inPlace == Tryz.pinned.checked.prog.inPlace 3)=true:=by kernel_rfl
theorem Q4:(Rows.stintSwungRow.unfollowed == Tryz.pinned.checked.prog.unfollowed 3)=true:=by kernel_rfl
theorem Q5:(Rows.stintSwungRow.recurses == Tryz.pinned.checked.prog.recurses 3)=true:=by kernel_rfl
theorem Q6:(Rows.stintSwungRow.named == Tryz.pinned.checked.prog.varsNamed 3)=true:=by kernel_rfl
end Go.Proofs.YtikficpdfaajlaaGreatDoor
