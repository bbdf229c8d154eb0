/- The row StintCrew: what it reaches. Conditions: as there. -/
import Derived.Test.YtihapemckcdicaaGreatDoorRows
import Derived.KernelRfl
namespace Go.Proofs.YtihapemckcdicaaGreatDoor
open Go.Proofs
set_option maxRecDepth 100000
theorem aCm:(Rows.stintCrewRow.inPlace == Tryz.pinned.checked.prog.inPlace 12)=true:=by kernel_rfl
theorem aCn:(Rows.stintCrewRow.unfollowed == Tryz.pinned.checked.prog.unfollowed 12)=true:=by kernel_rfl
theorem aCo:(Rows.stintCrewRow.recurses == Tryz.pinned.checked.prog.recurses 12)=true:=by kernel_rfl
theorem aCp:(Rows.stintCrewRow.named == Tryz.pinned.checked.prog.varsNamed 12)=true:=by kernel_rfl
end Go.Proofs.YtihapemckcdicaaGreatDoor
