/- The row StintLearnt: what it reaches. Conditions: as there. -/
import Derived.Test.YtihapemckcdicaaGreatDoorRows
import Derived.KernelRfl
namespace Go.Proofs.YtihapemckcdicaaGreatDoor
open Go.Proofs
set_option maxRecDepth 100000
theorem aLw:(Rows.stintLearntRow.inPlace == Tryz.pinned.checked.prog.inPlace 17)=true:=by kernel_rfl
theorem aLx:(Rows.stintLearntRow.unfollowed == Tryz.pinned.checked.prog.unfollowed 17)=true:=by kernel_rfl
theorem aLy:(Rows.stintLearntRow.recurses == Tryz.pinned.checked.prog.recurses 17)=true:=by kernel_rfl
theorem aLz:(Rows.stintLearntRow.named == Tryz.pinned.checked.prog.varsNamed 17)=true:=by kernel_rfl
end Go.Proofs.YtihapemckcdicaaGreatDoor
