/- Walks, part 10: each function computes its model. -/
import Derived.Test.YtihapemckcdicaaGreatDoorQYLgC
import Derived.Test.YtihapemckcdicaaGreatDoorQYStW8
namespace Go.Proofs.YtihapemckcdicaaGreatDoor
open Go.Lg Go.Proofs Tryz
set_option maxRecDepth 100000
set_option maxHeartbeats 4000000
section
variable {B:Base} {main:Bool} {ab:Jd prog B main} {R:ax} {H:ai}
theorem Ml(x0:aj){i j k l m:Value}(c:aa bt 2 R i x0.Rows)(d:aa bq 2 R j x0.aD)(e:aa bp 2 R k x0.az)(f:aa br 4 R l x0.av)(g:aa bg 3 R m x0.aQ){r:Bool}(a:qO x0=some r):aP ab 45 #[.agg #[iv x0.Rest,i,j,k,l,m]] R H (λ v R' H'=>R=R'∧H=H'∧v = .bool r):=by
 unfold qO at a
 refine aX func45 11 λ fr cs h=>?_;refine sg aE (bx λ p=>?_);refine vs 1 ?_;refine nx e0 (lN [_,_,_,_,_,_] 0 6 bl z0 ?_);have ⟨q,n,a⟩:=ag a;refine U.cv Ge (Ln x0 c d e f g n) ?_;rintro _ _ _ ⟨rfl,rfl,rfl⟩;refine vs 2 ?_;refine a7 a (λ b a=>?_) (λ b a=>?_)
 ·refine U.kn 6 b (lN [_,_,_,_,_,_] 0 6 bl z0 ?_);have ⟨s,o,a⟩:=ag a;refine U.cv GR (Mq x0 c d e f g o) ?_;rintro _ _ _ ⟨rfl,rfl,rfl⟩;refine vs 3 (er ?_);cases ay a;exact rt func45 (.tmp rfl .nil) (so sr) (h _ _ _ aM)
 refine U.kn 6 b (vs 5 (er ?_));cases ay a;exact rt func45 (.tmp rfl .nil) (so sr) (h _ _ _ aM)
end
section
variable {B:Base} {main:Bool} {ab:Jd prog B main} {R:ax} {H:ai}
theorem Kw(x0:(List Int))(x1:Int){v0:Value}(b:bO (CI .u16) 1 R H v0 x0){r:Int}(a:oM x0 x1=some r):aP ab 147 #[v0,iv x1] R H (λ v R' H'=>R=R'∧H=H'∧v=iv r):=by
 unfold oM at a
 refine aX func147 15 λ fr cs c=>?_;refine sg aC (vs 1 (es ?_));refine sg bK (vs 2 ?_);refine lr b underlying81 ?_;refine vs 1 ?_;have ⟨l,f,a⟩:=ag a;refine U.cv fE (fH x1 0 (i64 ((x0.length:Int) - 1))  f) ?_;rintro _ _ _ ⟨rfl,rfl,rfl⟩;refine er (sc a ?_ ?_)<;>intro i a
 ·refine sg cU (vs 2 ?_);have ⟨m,g,a⟩:=ag a;obtain ⟨h,k,_,rfl,d,e⟩:=b.elem OZ g;refine bS e ?_;refine U.ld Nl ((d.sub pp).one (j:=0) rfl) ?_;refine lg underlying214 underlying3 ?_;refine vs 1 (er ?_);cases ay a;exact rt func147 (.tmp rfl .nil) sr (c _ _ _ aM)
 refine sp (sg aC (vs 1 (er ?_)));cases ay a;exact rt func147 (.tmp rfl .nil) sr (c _ _ _ aM)
end
end Go.Proofs.YtihapemckcdicaaGreatDoor
