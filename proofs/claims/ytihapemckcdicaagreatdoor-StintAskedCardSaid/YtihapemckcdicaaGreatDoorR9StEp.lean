/- The row StintAsked: what it reaches. Conditions: as there. -/
import Derived.Test.YtihapemckcdicaaGreatDoorRows
import Derived.KernelRfl
namespace Go.Proofs.YtihapemckcdicaaGreatDoor
open Go.Proofs
set_option maxRecDepth 100000
theorem avZ:(Rows.stintAskedRow.inPlace == Tryz.pinned.checked.prog.inPlace 9)=true:=by kernel_rfl
theorem av0:(Rows.stintAskedRow.unfollowed == Tryz.pinned.checked.prog.unfollowed 9)=true:=by kernel_rfl
theorem av1:(Rows.stintAskedRow.recurses == Tryz.pinned.checked.prog.recurses 9)=true:=by kernel_rfl
theorem av2:(Rows.stintAskedRow.named == Tryz.pinned.checked.prog.varsNamed 9)=true:=by kernel_rfl
end Go.Proofs.YtihapemckcdicaaGreatDoor
