/- The row StintFirst: what it reaches. Conditions: as there. -/
import Derived.Test.YtihapemckcdicaaGreatDoorRows
import Derived.KernelRfl
namespace Go.Proofs.YtihapemckcdicaaGreatDoor
open Go.Proofs
set_option maxRecDepth 100000
theorem aCm:(Rows.stintFirstRow.inPlace == Tryz.pinned.checked.prog.inPlace 10)=true:=by kernel_rfl
theorem aCn:(Rows.stintFirstRow.unfollowed == Tryz.pinned.checked.prog.unfollowed 10)=true:=by kernel_rfl
theorem aCo:(Rows.stintFirstRow.recurses == Tryz.pinned.checked.prog.recurses 10)=true:=by kernel_rfl
theorem aCp:(Rows.stintFirstRow.named == Tryz.pinned.checked.prog.varsNamed 10)=true:=by kernel_rfl
end Go.Proofs.YtihapemckcdicaaGreatDoor
