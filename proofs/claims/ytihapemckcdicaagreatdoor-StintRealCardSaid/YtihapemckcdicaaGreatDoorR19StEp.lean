/- The row StintReal: what it reaches. Conditions: as there. -/
import Derived.Test.YtihapemckcdicaaGreatDoorRows
import Derived.KernelRfl
namespace Go.Proofs.YtihapemckcdicaaGreatDoor
open Go.Proofs
set_option maxRecDepth 100000
theorem Nr:(Rows.stintRealRow.inPlace == Tryz.pinned.checked.prog.inPlace 19)=true:=by kernel_rfl
theorem Ns:(Rows.stintRealRow.unfollowed == Tryz.pinned.checked.prog.unfollowed 19)=true:=by kernel_rfl
theorem Nt:(Rows.stintRealRow.recurses == Tryz.pinned.checked.prog.recurses 19)=true:=by kernel_rfl
theorem Nu:(Rows.stintRealRow.named == Tryz.pinned.checked.prog.varsNamed 19)=true:=by kernel_rfl
end Go.Proofs.YtihapemckcdicaaGreatDoor
