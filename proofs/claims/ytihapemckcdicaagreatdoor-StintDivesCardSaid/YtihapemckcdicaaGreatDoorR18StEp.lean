/- The row StintDives: what it reaches. Conditions: as there. -/
import Derived.Test.YtihapemckcdicaaGreatDoorRows
import Derived.KernelRfl
namespace Go.Proofs.YtihapemckcdicaaGreatDoor
open Go.Proofs
set_option maxRecDepth 100000
theorem avZ:(Rows.stintDivesRow.inPlace == Tryz.pinned.checked.prog.inPlace 18)=true:=by kernel_rfl
theorem av0:(Rows.stintDivesRow.unfollowed == Tryz.pinned.checked.prog.unfollowed 18)=true:=by kernel_rfl
theorem av1:(Rows.stintDivesRow.recurses == Tryz.pinned.checked.prog.recurses 18)=true:=by kernel_rfl
theorem av2:(Rows.stintDivesRow.named == Tryz.pinned.checked.prog.varsNamed 18)=true:=by kernel_rfl
end Go.Proofs.YtihapemckcdicaaGreatDoor
