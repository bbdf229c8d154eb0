/- Walks, part 8: each function computes its model. -/
import Derived.Test.YtihapemckcdicaaGreatDoorQDStW7
import Derived.Test.YtihapemckcdicaaGreatDoorQDLgC
namespace Go.Proofs.YtihapemckcdicaaGreatDoor
open Go.Lg Go.Proofs Tryz
set_option maxRecDepth 100000
set_option maxHeartbeats 4000000
section
variable {B:Base} {main:Bool} {ab:Jd prog B main} {R:av} {H:ai}
theorem at0(x0:au)(x1:Int)(x2:Int){aA aE aD aC aG:Value}(_:ae bE 2 R aA x0.Rows)(_:ae bH 2 R aE x0.aQ)(_:ae bD 2 R aD x0.aH)(aJ:ae bI 4 R aC x0.aN)(_:ae bu 3 R aG x0.aY){r:Bool}(hM:M6 x0 x1 x2=some r):ax ab 157 #[.agg #[iv x0.Rest,aA,aE,aD,aC,aG],iv x1,iv x2] R H (λ v R' H'=>R=R'∧H=H'∧v = .bool r):=by
 unfold M6 at hM
 refine ax.bl func157 rfl (n:=43) rfl rfl λ fr cs hk=>?_;refine sg aP ?_;refine bx λ Fb=>?_;refine vs 1 ?_;refine es ?_;obtain ⟨iF,vR,hM⟩:=aj hM;obtain ⟨fE,sz,hM⟩:=aj hM;refine U.cut (λ R' H' st'=>R=R'∧∃ (j9:Nat) (eD:Nat),H'=(eD,.cells #[iv fE.Place,iv fE.iI,iv fE.jf,iv fE.aH] 96)::(j9,.cells #[iv iF.Place,iv iF.iI,iv iF.jf,iv iF.aH] 96)::(Fb,.cells #[iv x0.Rest,aA,aE,aD,aC,aG] 28)::H∧aF st' [(3,.pointer (some ⟨Fb,0,none⟩)),(7,.pointer (some ⟨j9,0,none⟩)),(8,.pointer (some ⟨eD,0,none⟩))]) ?_ ?_
 ·rintro aCO aBt aIr ⟨rfl,j9,eD,rfl,aoD⟩;refine U.sub aoD ?_;refine sg awA ?_;refine vs 1 ?_;refine ld 1 bq z0 ?_;refine vs 1 ?_;refine ld 1 bq z1 ?_;refine vs 1 ?_;refine ld 2 bq z1 ?_;refine vs 2 ?_;refine ld 0 bq z2 ?_;refine vs 3 ?_;refine bC hM (λ GG hM=>?_) (λ GG hM=>?_)
  ·refine U.kn 30 GG ?_;refine vs 13 ?_;refine er ?_;obtain rfl:=aa hM;exact rt func157 (.tmp rfl .nil) (so (so (so sr))) (hk _ _ _ aB)
  refine U.kn 30 GG ?_;refine vs 1 ?_;refine ld 1 bq z1 ?_;refine vs 1 ?_;refine ld 1 bq z0 ?_;refine vs 1 ?_;refine ld 2 bq z0 ?_;refine vs 2 ?_;refine ld 0 bq z2 ?_;refine vs 4 ?_;refine er ?_;obtain rfl:=aa hM;exact rt func157 (.tmp rfl .nil) (so (so (so sr))) (hk _ _ _ aB)
 intro Y3;refine U.dw EB mixed ?_;refine Any.vs 1 [0] rfl ?_;refine tl 1 4 iB z0 ?_;refine Any.vs 1 [2] rfl ?_;obtain ⟨aEy,aGw,_,rfl,akN,alW⟩:=aJ.elem uT vR;refine Any.tk 3 rfl pp (λ R' H' hR hS=>Ox.eo rfl rfl rfl alW rfl (.one rfl) aB) ?_;refine Any.tk 4 rfl pp (λ R' H' hR hS=>Ox.bU (vs:=[_,_,_,_]) rfl rfl lx rfl ((akN.up hR).part (j:=0) (n:=4) rfl) rfl (.one rfl) aB) ?_;refine Any.vs 1 [5] rfl ?_;refine tl 6 4 iB z0 ?_;refine Any.vs 1 [7] rfl ?_;obtain ⟨aga,avT,_,rfl,PR,Qd⟩:=aJ.elem uT sz;refine Any.tk 8 rfl pp (λ R' H' hR hS=>Ox.eo rfl rfl rfl Qd rfl (.one rfl) aB) ?_;refine Any.tk 9 rfl pp (λ R' H' hR hS=>Ox.bU (vs:=[_,_,_,_]) rfl rfl lx rfl ((PR.up hR).part (j:=0) (n:=4) rfl) rfl (.one rfl) aB) ?_;refine tw 10 11 ?_ ?_
 ·refine  (aW.to (Ox.alloc (cs:=#[iv 0,iv 0,iv 0,iv 0]) rfl rI rfl λ j9 _ _=>⟨_,(.put rfl),⟨rr,(ku (so sr)),?_⟩⟩));refine Any.on 11 rfl rfl (aW.to (Ox.alloc (cs:=#[iv 0,iv 0,iv 0,iv 0]) rfl rI rfl λ eD _ _=>⟨_,(.put rfl),⟨rr,(ku (so (so sr))),?_⟩⟩));refine Any.on 12 rfl rfl (aW.to (Ox.bW (cs':=#[_,_,_,_]) rfl rfl rfl lx rfl (cc rfl (cc rfl (cc rfl (cc rfl bf)))) (.there .here) rfl rfl rfl (.refl _) ⟨rr,(ku (so (so sr))),?_⟩));refine Any.on 13 rfl rfl (aW.to (Ox.bW (cs':=#[_,_,_,_]) rfl rfl rfl lx rfl (cc rfl (cc rfl (cc rfl (cc rfl bf)))) .here rfl rfl rfl (.refl _) ⟨rr,(ku (so (so sr))),?_⟩));exact Any.done (Y3 _ _ _ ⟨rfl,j9,eD,rfl,az eY⟩)
 refine  (aW.to (Ox.alloc (cs:=#[iv 0,iv 0,iv 0,iv 0]) rfl rI rfl λ eD _ _=>⟨_,(.put rfl),⟨rr,(ku (so sr)),?_⟩⟩));refine Any.on 10 rfl rfl (aW.to (Ox.alloc (cs:=#[iv 0,iv 0,iv 0,iv 0]) rfl rI rfl λ j9 _ _=>⟨_,(.put rfl),⟨rr,(ku (so (so sr))),?_⟩⟩));refine Any.on 12 rfl rfl (aW.to (Ox.bW (cs':=#[_,_,_,_]) rfl rfl rfl lx rfl (cc rfl (cc rfl (cc rfl (cc rfl bf)))) .here rfl rfl rfl (.refl _) ⟨rr,(ku (so (so sr))),?_⟩));refine Any.on 13 rfl rfl (aW.to (Ox.bW (cs':=#[_,_,_,_]) rfl rfl rfl lx rfl (cc rfl (cc rfl (cc rfl (cc rfl bf)))) (.there .here) rfl rfl rfl (.refl _) ⟨rr,(ku (so (so sr))),?_⟩));exact Any.done (U.perm (pA _ _ _) (Y3 _ _ _ ⟨rfl,j9,eD,rfl,az eY⟩))
end
end Go.Proofs.YtihapemckcdicaaGreatDoor
