/- The row StintCases: what its card asks. Conditions: as there. -/
import Derived.Test.YtihapemckcdicaaGreatDoorCards
import Derived.SevenTiedAt
import Derived.KernelRfl
namespace Go.Proofs.YtihapemckcdicaaGreatDoor
open Go.Proofs
set_option maxRecDepth 100000
theorem aOR:true=Rows.stintCasesRow.goesBy Tryz.pinned.checked.prog:=by kernel_rfl
theorem aOS:false=Tryz.pinned.checked.prog.looks []:=by kernel_rfl
theorem aOT:Rows.stintCasesRow.wfByText (.ofChange Rows.stintCasesSpec)=true:=by kernel_rfl
theorem aOU:Tryz.pinned.checked.prog.mainIs=some (true,"fe6918396992fb4ce1d0e6a2f4b06d4724c0280ee12adfc19b8f06aed11edddf".toList):=by kernel_rfl
end Go.Proofs.YtihapemckcdicaaGreatDoor
