/- The row StintAnyOrder: what it reaches. Conditions: as there. -/
import Derived.Test.YtihapemckcdicaaGreatDoorRows
import Derived.KernelRfl
namespace Go.Proofs.YtihapemckcdicaaGreatDoor
open Go.Proofs
set_option maxRecDepth 100000
theorem aCm:(Rows.stintAnyOrderRow.inPlace == Tryz.pinned.checked.prog.inPlace 15)=true:=by kernel_rfl
theorem aCn:(Rows.stintAnyOrderRow.unfollowed == Tryz.pinned.checked.prog.unfollowed 15)=true:=by kernel_rfl
theorem aCo:(Rows.stintAnyOrderRow.recurses == Tryz.pinned.checked.prog.recurses 15)=true:=by kernel_rfl
theorem aCp:(Rows.stintAnyOrderRow.named == Tryz.pinned.checked.prog.varsNamed 15)=true:=by kernel_rfl
end Go.Proofs.YtihapemckcdicaaGreatDoor
