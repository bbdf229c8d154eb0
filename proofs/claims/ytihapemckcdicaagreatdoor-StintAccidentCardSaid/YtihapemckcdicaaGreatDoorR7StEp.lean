/- The row StintAccident: what it reaches. Conditions: as there. -/
import Derived.Test.YtihapemckcdicaaGreatDoorRows
import Derived.KernelRfl
namespace Go.Proofs.YtihapemckcdicaaGreatDoor
open Go.Proofs
set_option maxRecDepth 100000
theorem aCm:(Rows.stintAccidentRow.inPlace == Tryz.pinned.checked.prog.inPlace 7)=true:=by kernel_rfl
theorem aCn:(Rows.stintAccidentRow.unfollowed == Tryz.pinned.checked.prog.unfollowed 7)=true:=by kernel_rfl
theorem aCo:(Rows.stintAccidentRow.recurses == Tryz.pinned.checked.prog.recurses 7)=true:=by kernel_rfl
theorem aCp:(Rows.stintAccidentRow.named == Tryz.pinned.checked.prog.varsNamed 7)=true:=by kernel_rfl
end Go.Proofs.YtihapemckcdicaaGreatDoor
