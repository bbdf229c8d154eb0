/- Walks, part 9: each function computes its model. -/
import Derived.Test.YtihapemckcdicaaGreatDoorQVStW8
import Derived.Test.YtihapemckcdicaaGreatDoorQVLgC
namespace Go.Proofs.YtihapemckcdicaaGreatDoor
open Go.Lg Go.Proofs Tryz
set_option maxRecDepth 100000
set_option maxHeartbeats 4000000
section
variable {B:Base} {main:Bool} {ae:Jd prog B main} {R:ax} {H:aj}
theorem aJq(x0:(List Int))(x1:Int){v0:Value}(h0:dr CZ 1 R H v0 x0){r:Bool}(hM:K9 x0 x1=some r):az ae 47 #[v0,iv x1] R H (λ v R' H'=>R=R'∧H=H'∧v = .bool r):=by
 unfold K9 at hM
 refine az.bq func47 rfl (n:=18) rfl rfl λ fr cs hk=>?_;refine sg aC (vs 1 (es ?_));refine sg aC (vs 1 (er (At.block ?_)));refine At.gp hM (λ (Gb:Int) R' H' st'=>R=R'∧H=H'∧aA st' [(0,v0),(1,iv x1),(5,iv Gb)]) (λ (r9:Unit) R' H' st'=>R=R'∧H=H'∧aA st' []) 0 rfl ⟨rfl,rfl,au fX⟩ ?_ ?_;rotate_right
 ·rintro Gb R36 H36 aWc ⟨rfl,rfl,avk⟩ iB hM ajv Mw aFL;refine At.sub avk (sq (sg bN (vs 2 ?_)));refine lr h0 underlying36 ?_;refine vs 1 (er ?_);refine sc hM (λ I1 hM=>?_) (λ I1 hM=>?_)
  ·refine sp (sq (At.block (sg fE (vs 2 ?_))));obtain ⟨lf,xn,hM⟩:=ah hM;obtain ⟨akv,aF4,_,rfl,SO,Tk⟩:=h0.elem bJ xn;refine dk Tk ?_;refine At.ld ba ((SO.sub pp).one (j:=0) rfl) ?_;refine vs 2 (er ?_);refine sc hM (λ I2 hM=>?_) (λ I2 hM=>?_)
   ·refine sg aC (vs 1 (er ?_));replace hM:=aFL _ (aa hM).symm;obtain rfl:=aa hM;exact rt func47 (.tmp rfl .nil) sr (hk _ _ _ an)
   refine sp (At.inBlock (At.rg bg (vs 3 (er ?_))));exact ajv _ (aa hM).symm _ _ _ ⟨rfl,rfl,au fX⟩
  exact At.exit rfl (Mw _ (aa hM).symm _ _ _ ⟨rfl,rfl,cj.sub trivial⟩)
 rintro r9 aiJ ahT aHs ⟨rfl,rfl,TX⟩ hM;refine At.sub TX (sg aC (vs 1 (er ?_)));obtain rfl:=aa hM;exact rt func47 (.tmp rfl .nil) sr (hk _ _ _ an)
end
end Go.Proofs.YtihapemckcdicaaGreatDoor
