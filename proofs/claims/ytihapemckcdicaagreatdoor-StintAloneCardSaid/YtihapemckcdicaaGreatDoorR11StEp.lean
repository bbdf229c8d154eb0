/- The row StintAlone: what it reaches. Conditions: as there. -/
import Derived.Test.YtihapemckcdicaaGreatDoorRows
import Derived.KernelRfl
namespace Go.Proofs.YtihapemckcdicaaGreatDoor
open Go.Proofs
set_option maxRecDepth 100000
theorem aCm:(Rows.stintAloneRow.inPlace == Tryz.pinned.checked.prog.inPlace 11)=true:=by kernel_rfl
theorem aCn:(Rows.stintAloneRow.unfollowed == Tryz.pinned.checked.prog.unfollowed 11)=true:=by kernel_rfl
theorem aCo:(Rows.stintAloneRow.recurses == Tryz.pinned.checked.prog.recurses 11)=true:=by kernel_rfl
theorem aCp:(Rows.stintAloneRow.named == Tryz.pinned.checked.prog.varsNamed 11)=true:=by kernel_rfl
end Go.Proofs.YtihapemckcdicaaGreatDoor
