/- Walks, part 10: each function computes its model. -/
import Derived.Test.YtihapemckcdicaaGreatDoorQVStW9
import Derived.Test.YtihapemckcdicaaGreatDoorQVLgC
namespace Go.Proofs.YtihapemckcdicaaGreatDoor
open Go.Lg Go.Proofs Tryz
set_option maxRecDepth 100000
set_option maxHeartbeats 4000000
section
variable {B:Base} {main:Bool} {ae:Jd prog B main} {R:ax} {H:aj}
theorem aE3(x0:ay){aI aN aM aJ aO:Value}(aY:ag b8 2 R aI x0.Rows)(aW:ag cb 2 R aN x0.aE)(aR:ag bW 2 R aM x0.aD)(aS:ag cc 4 R aJ x0.aT)(aX:ag bP 3 R aO x0.bj){r:Bool}(hM:FD x0=some r):az ae 45 #[.agg #[iv x0.Rest,aI,aN,aM,aJ,aO]] R H (λ v R' H'=>R=R'∧H=H'∧v = .bool r):=by
 unfold FD at hM
 refine az.bq func45 rfl (n:=11) rfl rfl λ fr cs hk=>?_;refine sg aG (bx λ yS=>?_);refine vs 1 ?_;refine nx mg (lN [_,_,_,_,_,_] 0 6 cx z0 ?_);obtain ⟨jv,qL,hM⟩:=ah hM;refine At.cv alI (aEc x0 aY aW aR aS aX qL) ?_;rintro _ _ _ ⟨rfl,rfl,rfl⟩;refine vs 2 ?_;refine bK hM (λ xh hM=>?_) (λ xh hM=>?_)
 ·refine At.kn 6 xh (lN [_,_,_,_,_,_] 0 6 cx z0 ?_);obtain ⟨lD,xm,hM⟩:=ah hM;refine At.cv amk (aE6 x0 aY aW aR aS aX xm) ?_;rintro _ _ _ ⟨rfl,rfl,rfl⟩;refine vs 3 (er ?_);obtain rfl:=aa hM;exact rt func45 (.tmp rfl .nil) (so sr) (hk _ _ _ an)
 refine At.kn 6 xh (vs 5 (er ?_));obtain rfl:=aa hM;exact rt func45 (.tmp rfl .nil) (so sr) (hk _ _ _ an)
end
end Go.Proofs.YtihapemckcdicaaGreatDoor
