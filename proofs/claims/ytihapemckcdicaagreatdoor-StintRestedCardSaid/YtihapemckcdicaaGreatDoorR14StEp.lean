/- The row StintRested: what it reaches. Conditions: as there. -/
import Derived.Test.YtihapemckcdicaaGreatDoorRows
import Derived.KernelRfl
namespace Go.Proofs.YtihapemckcdicaaGreatDoor
open Go.Proofs
set_option maxRecDepth 100000
theorem aCm:(Rows.stintRestedRow.inPlace == Tryz.pinned.checked.prog.inPlace 14)=true:=by kernel_rfl
theorem aCn:(Rows.stintRestedRow.unfollowed == Tryz.pinned.checked.prog.unfollowed 14)=true:=by kernel_rfl
theorem aCo:(Rows.stintRestedRow.recurses == Tryz.pinned.checked.prog.recurses 14)=true:=by kernel_rfl
theorem aCp:(Rows.stintRestedRow.named == Tryz.pinned.checked.prog.varsNamed 14)=true:=by kernel_rfl
end Go.Proofs.YtihapemckcdicaaGreatDoor
