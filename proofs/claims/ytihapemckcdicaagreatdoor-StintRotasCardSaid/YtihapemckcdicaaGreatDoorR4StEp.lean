/- The row StintRotas: what it reaches. Conditions: as there. -/
import Derived.Test.YtihapemckcdicaaGreatDoorRows
import Derived.KernelRfl
namespace Go.Proofs.YtihapemckcdicaaGreatDoor
open Go.Proofs
set_option maxRecDepth 100000
theorem aHQ:(Rows.stintRotasRow.inPlace == Tryz.pinned.checked.prog.inPlace 4)=true:=by kernel_rfl
theorem aHR:(Rows.stintRotasRow.unfollowed == Tryz.pinned.checked.prog.unfollowed 4)=true:=by kernel_rfl
theorem aHS:(Rows.stintRotasRow.recurses == Tryz.pinned.checked.prog.recurses 4)=true:=by kernel_rfl
theorem aHT:(Rows.stintRotasRow.named == Tryz.pinned.checked.prog.varsNamed 4)=true:=by kernel_rfl
end Go.Proofs.YtihapemckcdicaaGreatDoor
