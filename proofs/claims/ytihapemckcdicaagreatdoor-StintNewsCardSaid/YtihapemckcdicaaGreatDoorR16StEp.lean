/- The row StintNews: what it reaches. Conditions: as there. -/
import Derived.Test.YtihapemckcdicaaGreatDoorRows
import Derived.KernelRfl
namespace Go.Proofs.YtihapemckcdicaaGreatDoor
open Go.Proofs
set_option maxRecDepth 100000
theorem aCl:(Rows.stintNewsRow.inPlace == Tryz.pinned.checked.prog.inPlace 16)=true:=by kernel_rfl
theorem aCm:(Rows.stintNewsRow.unfollowed == Tryz.pinned.checked.prog.unfollowed 16)=true:=by kernel_rfl
theorem aCn:(Rows.stintNewsRow.recurses == Tryz.pinned.checked.prog.recurses 16)=true:=by kernel_rfl
theorem aCo:(Rows.stintNewsRow.named == Tryz.pinned.checked.prog.varsNamed 16)=true:=by kernel_rfl
end Go.Proofs.YtihapemckcdicaaGreatDoor
