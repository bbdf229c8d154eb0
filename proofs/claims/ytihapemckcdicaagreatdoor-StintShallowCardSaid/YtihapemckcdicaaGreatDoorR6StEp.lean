/- The row StintShallow: what it reaches. Conditions: as there. -/
import Derived.Test.YtihapemckcdicaaGreatDoorRows
import Derived.KernelRfl
namespace Go.Proofs.YtihapemckcdicaaGreatDoor
open Go.Proofs
set_option maxRecDepth 100000
theorem aF8:(Rows.stintShallowRow.inPlace == Tryz.pinned.checked.prog.inPlace 6)=true:=by kernel_rfl
theorem aF9:(Rows.stintShallowRow.unfollowed == Tryz.pinned.checked.prog.unfollowed 6)=true:=by kernel_rfl
theorem aGa:(Rows.stintShallowRow.recurses == Tryz.pinned.checked.prog.recurses 6)=true:=by kernel_rfl
theorem aGb:(Rows.stintShallowRow.named == Tryz.pinned.checked.prog.varsNamed 6)=true:=by kernel_rfl
end Go.Proofs.YtihapemckcdicaaGreatDoor
