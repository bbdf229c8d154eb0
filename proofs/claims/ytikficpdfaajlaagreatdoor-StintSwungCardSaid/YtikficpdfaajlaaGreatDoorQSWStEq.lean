/- The row StintSwung: what its card asks. Conditions: as there. -/
import Derived.Test.YtikficpdfaajlaaGreatDoorCards
import Derived.SevenTiedAt
import Derived.KernelRfl
namespace Go.Proofs.YtikficpdfaajlaaGreatDoor
open Go.Proofs
set_option maxRecDepth 100000
theorem Q7:true=Rows.stintSwungRow.goesBy Tryz.pinned.checked.prog:=by kernel_rfl
theorem Q8:false=Tryz.pinned.checked.prog.looks []:=by kernel_rfl
theorem Q9:Rows.stintSwungRow.wfByText (.ofChange Rows.stintSwungSpec)=true:=by kernel_rfl
theorem Ra:Tryz.pinned.checked.prog.mainIs=some (true,"224bf0d68bc22f23dfb9b812ded286e24bd3ac1fb218588ab42772ae813a7aef".toList):=by kernel_rfl
end Go.Proofs.YtikficpdfaajlaaGreatDoor
