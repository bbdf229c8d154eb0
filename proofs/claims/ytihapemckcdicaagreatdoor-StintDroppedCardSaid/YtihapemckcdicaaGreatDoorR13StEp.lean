/- The row StintDropped: what it reaches. Conditions: as there. -/
import Derived.Test.YtihapemckcdicaaGreatDoorRows
import Derived.KernelRfl
namespace Go.Proofs.YtihapemckcdicaaGreatDoor
open Go.Proofs
set_option maxRecDepth 100000
theorem aCm:(Rows.stintDroppedRow.inPlace == Tryz.pinned.checked.prog.inPlace 13)=true:=by kernel_rfl
theorem aCn:(Rows.stintDroppedRow.unfollowed == Tryz.pinned.checked.prog.unfollowed 13)=true:=by kernel_rfl
theorem aCo:(Rows.stintDroppedRow.recurses == Tryz.pinned.checked.prog.recurses 13)=true:=by kernel_rfl
theorem aCp:(Rows.stintDroppedRow.named == Tryz.pinned.checked.prog.varsNamed 13)=true:=by kernel_rfl
end Go.Proofs.YtihapemckcdicaaGreatDoor
