/- The row StintCases: what it reaches. Conditions: as there. -/
import Derived.Test.YtihapemckcdicaaGreatDoorRows
import Derived.KernelRfl
namespace Go.Proofs.YtihapemckcdicaaGreatDoor
open Go.Proofs
set_option maxRecDepth 100000
theorem aON:(Rows.stintCasesRow.inPlace == Tryz.pinned.checked.prog.inPlace 3)=true:=by kernel_rfl
theorem aOO:(Rows.stintCasesRow.unfollowed == Tryz.pinned.checked.prog.unfollowed 3)=true:=by kernel_rfl
theorem aOP:(Rows.stintCasesRow.recurses == Tryz.pinned.checked.prog.recurses 3)=true:=by kernel_rfl
theorem aOQ:(Rows.stintCasesRow.named == Tryz.pinned.checked.prog.varsNamed 3)=true:=by kernel_rfl
end Go.Proofs.YtihapemckcdicaaGreatDoor
