/- Walks, part 8: each function computes its model. -/
import Derived.Test.YtihapemckcdicaaGreatDoorQVStW7
import Derived.Test.YtihapemckcdicaaGreatDoorQVLgC
namespace Go.Proofs.YtihapemckcdicaaGreatDoor
open Go.Lg Go.Proofs Tryz
set_option maxRecDepth 100000
set_option maxHeartbeats 4000000
section
variable {B:Base} {main:Bool} {ae:Jd prog B main} {R:ax} {H:aj}
theorem aDH(x0:ay){aI aN aM aJ aO:Value}(_:ag b8 2 R aI x0.Rows)(aW:ag cb 2 R aN x0.aE)(aR:ag bW 2 R aM x0.aD)(_:ag cc 4 R aJ x0.aT)(_:ag bP 3 R aO x0.bj){r:Int}(hM:JR x0=some r):az ae 142 #[.agg #[iv x0.Rest,aI,aN,aM,aJ,aO]] R H (λ v R' H'=>R=R'∧H=H'∧v=iv r):=by
 unfold JR at hM
 refine az.bq func142 rfl (n:=81) rfl rfl λ fr cs hk=>?_;refine sg aG (bx λ uT=>?_);refine vs 1 (es ?_);refine sg cG (vs 1 ?_);refine ld 2 mZ z0 ?_;refine ls aW underlying23 ?_;obtain ⟨agR,ayy,hM⟩:=ah hM;refine At.cv n7 (oy (x0.aE.length:Int) 1 3  ayy) ?_;rintro _ _ _ ⟨rfl,rfl,rfl⟩;refine vs 1 (er ?_);refine sc hM (λ awz hM=>?_) (λ awz hM=>?_)
 ·refine sg aC (vs 1 (er ?_));obtain rfl:=aa hM;exact rt func142 (.tmp rfl .nil) (so sr) (hk _ _ _ an)
 refine sp (sq (sg aC (vs 1 (er (At.block ?_)))));refine At.gp hM (λ (F9:Int) R' H' st'=>R=R'∧H'=(uT,.cells #[iv x0.Rest,aI,aN,aM,aJ,aO] 28)::H∧aA st' [(1,.pointer (some ⟨uT,0,none⟩)),(3,iv F9)]) (λ (ae8:Unit) R' H' st'=>R=R'∧H'=(uT,.cells #[iv x0.Rest,aI,aN,aM,aJ,aO] 28)::H∧aA st' [(1,.pointer (some ⟨uT,0,none⟩))]) 0 rfl ⟨rfl,rfl,au eM⟩ ?_ ?_;rotate_right
 ·rintro F9 aL3 aJX aVi ⟨rfl,rfl,aup⟩ KL hM ajg amF aeR;refine At.sub aup (sq (sg cG (vs 2 ?_)));refine ld 2 mZ z0 ?_;refine ls aW underlying23 ?_;refine vs 1 (er ?_);refine sc hM (λ awE hM=>?_) (λ awE hM=>?_)
  ·refine sp (sq (At.block (sg fa (vs 1 ?_))));refine ld 2 mZ z0 ?_;refine vs 1 ?_;obtain ⟨rn,VA,hM⟩:=ah hM;obtain ⟨aPn,aT0,_,rfl,ao5,arf⟩:=aW.elem Kr VA;refine dk arf ?_;refine At.s rfl rfl (Ox.cy (vs:=[_,_]) rfl rfl nV rfl (ao5.any.part (j:=0) (n:=2) rfl) rfl (.put rfl) ?_);refine cY (#[iv 0,iv 0]) GR λ aOJ=>?_;refine eO (#[_,_]) nV .here ?_;refine nx AS (lN [_,_] 0 2 nV z0 ?_);obtain ⟨mc,Jj,hM⟩:=ah hM;refine At.cv alE (aD4 rn 1 30  Jj) ?_;rintro _ _ _ ⟨rfl,rfl,rfl⟩;refine vs 2 ?_;refine bK hM (λ Up hM=>?_) (λ Up hM=>?_)
   ·refine At.kn 27 Up (vs 7 (er ?_));refine At.cond_true rfl ?_;refine sg aC (vs 1 (er ?_));replace hM:=aeR _ (aa hM).symm;obtain rfl:=aa hM;exact rt func142 (.tmp rfl .nil) (so (so sr)) (hk _ _ _ an)
   refine At.kn 27 Up (vs 1 ?_);refine ld 1 ba z0 ?_;refine vs 1 ?_;refine ld 0 ba z0 ?_;refine vs 3 (er ?_);refine sc hM (λ zw hM=>?_) (λ zw hM=>?_)
   ·refine sg aC (vs 1 (er ?_));replace hM:=aeR _ (aa hM).symm;obtain rfl:=aa hM;exact rt func142 (.tmp rfl .nil) (so (so sr)) (hk _ _ _ an)
   refine sp (At.inBlock (At.rg bg (vs 3 (er ?_))));exact At.drop (so sr) (ajg _ (aa hM).symm _ _ _ ⟨rfl,rfl,au eM⟩)
  exact At.exit rfl (amF _ (aa hM).symm _ _ _ ⟨rfl,rfl,au nT⟩)
 rintro ae8 aL4 aJY aVj ⟨rfl,rfl,auq⟩ hM;refine At.sub auq (sq (sg cG (vs 1 ?_)));refine ld 3 k7 z0 ?_;refine ls aR underlying24 ?_;obtain ⟨yy,zA,hM⟩:=ah hM;refine At.cv n7 (oy (x0.aD.length:Int) 1 4  zA) ?_;rintro _ _ _ ⟨rfl,rfl,rfl⟩;refine vs 1 (er ?_);refine sc hM (λ awF hM=>?_) (λ awF hM=>?_)
 ·refine sg aC (vs 1 (er ?_));obtain rfl:=aa hM;exact rt func142 (.tmp rfl .nil) (so sr) (hk _ _ _ an)
 refine sp (sq (sg aC (vs 1 (er (At.block ?_)))));refine At.gp hM (λ (uk:Int) R' H' st'=>R=R'∧H'=(uT,.cells #[iv x0.Rest,aI,aN,aM,aJ,aO] 28)::H∧aA st' [(1,.pointer (some ⟨uT,0,none⟩)),(5,iv uk)]) (λ (afb:Unit) R' H' st'=>R=R'∧H=H'∧aA st' []) 2 rfl ⟨rfl,rfl,au eM⟩ ?_ ?_;rotate_right
 ·rintro uk aMl aKf aVA ⟨rfl,rfl,auI⟩ Pp hM ajj amN Xj;refine At.sub auI (sq (sg cG (vs 2 ?_)));refine ld 3 k7 z0 ?_;refine ls aR underlying24 ?_;refine vs 1 (er ?_);refine sc hM (λ xg hM=>?_) (λ xg hM=>?_)
  ·refine sp (sq (At.block (sq (sg gb (vs 1 ?_)))));refine ld 3 k7 z0 ?_;refine vs 1 ?_;obtain ⟨DD,VP,hM⟩:=ah hM;obtain ⟨Gu,VQ,hM⟩:=ah hM;obtain ⟨ako,aF0,_,rfl,SJ,Td⟩:=aR.elem vU VP;refine dk Td ?_;refine vs 1 ?_;refine At.ld CY (SJ.any.one (j:=0) rfl) ?_;refine At.cv alF (aD6 DD.Name  VQ) ?_;rintro _ _ _ ⟨rfl,rfl,rfl⟩;refine vs 1 (er ?_);refine sc hM (λ IN hM=>?_) (λ IN hM=>?_)
   ·refine sg aC (vs 1 (er ?_));replace hM:=Xj _ (aa hM).symm;obtain rfl:=aa hM;exact rt func142 (.tmp rfl .nil) (so sr) (hk _ _ _ an)
   refine sp (sq (sg aC (vs 1 (er (At.block ?_)))));refine At.gp hM (λ (Ga:Int) R' H' st'=>R=R'∧H'=(uT,.cells #[iv x0.Rest,aI,aN,aM,aJ,aO] 28)::H∧aA st' [(1,.pointer (some ⟨uT,0,none⟩)),(5,iv uk),(6,iv Ga)]) (λ (afd:Unit) R' H' st'=>R=R'∧H'=(uT,.cells #[iv x0.Rest,aI,aN,aM,aJ,aO] 28)::H∧aA st' [(1,.pointer (some ⟨uT,0,none⟩)),(5,iv uk)]) 4 rfl ⟨rfl,rfl,au fX⟩ ?_ ?_;rotate_right
   ·rintro Ga aME aKy aVT ⟨rfl,rfl,au1⟩ YA hM ajp amS aFK;refine At.sub au1 (sq (sg bg (vs 3 (er ?_))));refine sc hM (λ awX hM=>?_) (λ awX hM=>?_)
    ·refine sp (sq (At.block (sq (At.dw Y7 mixed ?_))));refine Any.vs 1 [0] rfl (tl 1 3 k7 z0 ?_);refine Any.vs 1 [2] rfl ?_;obtain ⟨KP,VS,hM⟩:=ah hM;obtain ⟨ahc,azr,hM⟩:=ah hM;obtain ⟨akq,aUm,_,rfl,acQ,Tf⟩:=aR.elem vU VS;refine Any.tk 3 rfl pp (λ R' H' hR hS=>Ox.bF rfl rfl rfl Tf rfl (.one rfl) an) ?_;refine Any.vs 1 [4] rfl (Any.tk 5 rfl pp (λ R' H' hR hS=>Ox.bI rfl rfl CY ((acQ.up hR).one (j:=0) rfl) rfl (.one rfl) an) ?_);refine Any.vs 1 [6] rfl (tl 7 3 k7 z0 ?_);refine Any.vs 1 [8] rfl ?_;obtain ⟨aPO,aUn,_,rfl,apr,arK⟩:=aR.elem vU azr;refine Any.tk 9 rfl pp (λ R' H' hR hS=>Ox.bF rfl rfl rfl arK rfl (.one rfl) an) ?_;refine Any.vs 1 [10] rfl (Any.tk 11 rfl pp (λ R' H' hR hS=>Ox.bI rfl rfl CY ((apr.up hR).one (j:=0) rfl) rfl (.one rfl) an) ?_);refine Any.tk 12 rfl pp (λ R' H' hR hS=>Ox.aaZ rfl rfl rfl rfl rfl (.one rfl) an) ?_;refine Any.done (sc hM (λ IQ hM=>?_) (λ IQ hM=>?_))
     ·refine sg aC (vs 1 (er ?_));replace hM:=aFK _ (aa hM).symm;replace hM:=Xj _ (aa hM).symm;obtain rfl:=aa hM;exact rt func142 (.tmp rfl .nil) (so sr) (hk _ _ _ an)
     refine sp (At.inBlock (At.rg bg (vs 3 (er ?_))));exact ajp _ (aa hM).symm _ _ _ ⟨rfl,rfl,au fX⟩
    exact At.exit rfl (amS _ (aa hM).symm _ _ _ ⟨rfl,rfl,au eM⟩)
   rintro afd aMF aKz aVU ⟨rfl,rfl,au2⟩ hM;refine At.sub au2 (sg gb (vs 1 ?_));refine ld 3 k7 z0 ?_;refine vs 1 ?_;obtain ⟨DF,VT,hM⟩:=ah hM;obtain ⟨DG,VU,hM⟩:=ah hM;obtain ⟨akr,aF1,_,rfl,SK,Tg⟩:=aR.elem vU VT;refine dk Tg ?_;refine vs 1 ?_;refine At.ld ba (SK.any.one (j:=1) rfl) ?_;refine At.cv n7 (oy DF.qo 1 30  VU) ?_;rintro _ _ _ ⟨rfl,rfl,rfl⟩;refine vs 1 (er ?_);refine sc hM (λ IS hM=>?_) (λ IS hM=>?_)
   ·refine sg aC (vs 1 (er ?_));replace hM:=Xj _ (aa hM).symm;obtain rfl:=aa hM;exact rt func142 (.tmp rfl .nil) (so sr) (hk _ _ _ an)
   refine sp (At.inBlock (At.rg bg (vs 3 (er ?_))));exact ajj _ (aa hM).symm _ _ _ ⟨rfl,rfl,au eM⟩
  exact At.exit rfl (At.drop (so sr) (amN _ (aa hM).symm _ _ _ ⟨rfl,rfl,cj.sub trivial⟩))
 rintro afb aMm aKg aVB ⟨rfl,rfl,auJ⟩ hM;refine At.sub auJ (sg aC (vs 1 (er ?_)));obtain rfl:=aa hM;exact rt func142 (.tmp rfl .nil) sr (hk _ _ _ an)
theorem aE6(x0:ay){aI aN aM aJ aO:Value}(aY:ag b8 2 R aI x0.Rows)(aW:ag cb 2 R aN x0.aE)(aR:ag bW 2 R aM x0.aD)(aS:ag cc 4 R aJ x0.aT)(aX:ag bP 3 R aO x0.bj){r:Int}(hM:J6 x0=some r):az ae 52 #[.agg #[iv x0.Rest,aI,aN,aM,aJ,aO]] R H (λ v R' H'=>R=R'∧H=H'∧v=iv r):=by
 unfold J6 at hM
 refine az.bq func52 rfl (n:=84) rfl rfl λ fr cs hk=>?_;refine sg aG (bx λ Eb=>?_);refine vs 1 (es ?_);refine sg bg (lN [_,_,_,_,_,_] 0 6 cx z0 ?_);obtain ⟨PV,ayt,hM⟩:=ah hM;refine At.cv alg (aDF x0 aY aW aR aS aX ayt) ?_;rintro _ _ _ ⟨rfl,rfl,rfl⟩;refine vs 1 ?_;refine nx aG (vs 2 (er ?_));refine sc hM (λ Ue hM=>?_) (λ Ue hM=>?_)
 ·refine sg aG (vs 2 (er ?_));obtain rfl:=aa hM;exact rt func52 (.tmp rfl .nil) (so sr) (hk _ _ _ an)
 refine sp (sq (sg bg (lN [_,_,_,_,_,_] 0 6 cx z0 ?_)));obtain ⟨Yo,ayu,hM⟩:=ah hM;refine At.cv alh (aDH x0 aY aW aR aS aX ayu) ?_;rintro _ _ _ ⟨rfl,rfl,rfl⟩;refine vs 1 ?_;refine nx aG (vs 2 (er ?_));refine sc hM (λ adi hM=>?_) (λ adi hM=>?_)
 ·refine sg aG (vs 2 (er ?_));obtain rfl:=aa hM;exact rt func52 (.tmp rfl .nil) (so sr) (hk _ _ _ an)
 refine sp (sq (sg cG (vs 1 ?_)));refine ld 4 kh z0 ?_;refine ls aS underlying25 ?_;obtain ⟨Ld,ads,hM⟩:=ah hM;refine At.cv n7 (oy (x0.aT.length:Int) 1 4  ads) ?_;rintro _ _ _ ⟨rfl,rfl,rfl⟩;refine vs 1 (er ?_);refine sc hM (λ Uh hM=>?_) (λ Uh hM=>?_)
 ·refine sg aC (vs 1 (er ?_));obtain rfl:=aa hM;exact rt func52 (.tmp rfl .nil) (so sr) (hk _ _ _ an)
 refine sp (sq (sg aC (vs 1 (er (At.block ?_)))));refine At.gp hM (λ (F8:Int) R' H' st'=>R=R'∧H'=(Eb,.cells #[iv x0.Rest,aI,aN,aM,aJ,aO] 28)::H∧aA st' [(1,.pointer (some ⟨Eb,0,none⟩)),(5,iv F8)]) (λ (ae5:Unit) R' H' st'=>R=R'∧H'=(Eb,.cells #[iv x0.Rest,aI,aN,aM,aJ,aO] 28)::H∧aA st' [(1,.pointer (some ⟨Eb,0,none⟩))]) 0 rfl ⟨rfl,rfl,au eM⟩ ?_ ?_;rotate_right
 ·rintro F8 aLW aJQ aVb ⟨rfl,rfl,aui⟩ aX6 hM aje amC Oa;refine At.sub aui (sq (sg cG (vs 2 ?_)));refine ld 4 kh z0 ?_;refine ls aS underlying25 ?_;refine vs 1 (er ?_);refine sc hM (λ adl hM=>?_) (λ adl hM=>?_)
  ·refine sp (sq (At.block (sg fa (vs 1 ?_))));refine ld 4 kh z0 ?_;refine vs 1 ?_;obtain ⟨rm,adv,hM⟩:=ah hM;obtain ⟨aPk,aTX,_,rfl,ao2,arc⟩:=aS.elem Ar adv;refine dk arc ?_;refine At.s rfl rfl (Ox.cy (vs:=[_,_,_,_]) rfl rfl pJ rfl (ao2.any.part (j:=0) (n:=4) rfl) rfl (.put rfl) ?_);refine cY (#[iv 0,iv 0,iv 0,iv 0]) AM λ aOH=>?_;refine eO (#[_,_,_,_]) pJ .here ?_;refine es (sg cG (lN [_,_,_,_,_,_] 0 6 cx z1 ?_));refine vs 1 ?_;refine ld 0 ba z0 ?_;obtain ⟨KN,adw,hM⟩:=ah hM;refine At.cv abi (aec x0 rm.Place aY aW aR aS aX adw) ?_;rintro _ _ _ ⟨rfl,rfl,rfl⟩;refine vs 1 (er ?_);refine sc hM (λ Un hM=>?_) (λ Un hM=>?_)
   ·refine sg aC (vs 1 (er ?_));replace hM:=Oa _ (aa hM).symm;obtain rfl:=aa hM;exact rt func52 (.tmp rfl .nil) (so (so sr)) (hk _ _ _ an)
   refine sp (sg Ko (vs 1 ?_));refine ld 1 ba z0 ?_;obtain ⟨Yt,ayF,hM⟩:=ah hM;refine At.cv n7 (oy rm.na 0 200  ayF) ?_;rintro _ _ _ ⟨rfl,rfl,rfl⟩;refine vs 2 ?_;refine bK hM (λ IL hM=>?_) (λ IL hM=>?_)
   ·refine At.kn 44 IL (vs 11 (er ?_));refine At.cond_true rfl ?_;refine sg aC (vs 1 (er ?_));replace hM:=Oa _ (aa hM).symm;obtain rfl:=aa hM;exact rt func52 (.tmp rfl .nil) (so (so sr)) (hk _ _ _ an)
   refine At.kn 44 IL (vs 1 ?_);refine ld 2 ba z0 ?_;obtain ⟨GQ,adz,hM⟩:=ah hM;refine At.cv n7 (oy rm.mr 1 60  adz) ?_;rintro _ _ _ ⟨rfl,rfl,rfl⟩;refine vs 3 ?_;refine bK hM (λ Uo hM=>?_) (λ Uo hM=>?_)
   ·refine At.kn 50 Uo (vs 5 (er ?_));refine At.cond_true rfl ?_;refine sg aC (vs 1 (er ?_));replace hM:=Oa _ (aa hM).symm;obtain rfl:=aa hM;exact rt func52 (.tmp rfl .nil) (so (so sr)) (hk _ _ _ an)
   refine At.kn 50 Uo (vs 1 ?_);refine ld 3 ba z0 ?_;obtain ⟨Gs,VC,hM⟩:=ah hM;refine At.cv n7 (oy rm.aD 1 3  VC) ?_;rintro _ _ _ ⟨rfl,rfl,rfl⟩;refine vs 2 (er ?_);refine sc hM (λ zw hM=>?_) (λ zw hM=>?_)
   ·refine sg aC (vs 1 (er ?_));replace hM:=Oa _ (aa hM).symm;obtain rfl:=aa hM;exact rt func52 (.tmp rfl .nil) (so (so sr)) (hk _ _ _ an)
   refine sp (At.inBlock (At.rg bg (vs 3 (er ?_))));exact At.drop (so sr) (aje _ (aa hM).symm _ _ _ ⟨rfl,rfl,au eM⟩)
  exact At.exit rfl (amC _ (aa hM).symm _ _ _ ⟨rfl,rfl,au nT⟩)
 rintro ae5 aLX aJR aVc ⟨rfl,rfl,auj⟩ hM;refine At.sub auj (sq (sg bN (vs 1 ?_)));refine ld 5 m9 z0 ?_;refine ls aX underlying26 ?_;refine vs 1 (er ?_);refine sc hM (λ BR hM=>?_) (λ BR hM=>?_)
 ·refine sg aC (vs 1 (er ?_));obtain rfl:=aa hM;exact rt func52 (.tmp rfl .nil) (so sr) (hk _ _ _ an)
 refine sp (sq (sg aC (vs 1 (er (At.block ?_)))));refine At.gp hM (λ (Da:Int) R' H' st'=>R=R'∧H'=(Eb,.cells #[iv x0.Rest,aI,aN,aM,aJ,aO] 28)::H∧aA st' [(1,.pointer (some ⟨Eb,0,none⟩)),(7,iv Da)]) (λ (afa:Unit) R' H' st'=>R=R'∧H=H'∧aA st' []) 2 rfl ⟨rfl,rfl,au eM⟩ ?_ ?_;rotate_right
 ·rintro Da aMj aKd aVy ⟨rfl,rfl,auG⟩ AG hM aji amM aeS;refine At.sub auG (sq (sg cG (vs 2 ?_)));refine ld 5 m9 z0 ?_;refine ls aX underlying26 ?_;refine vs 1 (er ?_);refine sc hM (λ Us hM=>?_) (λ Us hM=>?_)
  ·refine sp (sq (At.block (sq (sq (At.dw mg mixed ?_)))));refine tN 0 [_,_,_,_,_,_] 0 6 cx z0 ?_;refine Any.vs 1 [1] rfl (tl 2 5 m9 z0 ?_);refine Any.vs 1 [3] rfl ?_;obtain ⟨Gt,VE,hM⟩:=ah hM;obtain ⟨eS,VF,hM⟩:=ah hM;obtain ⟨aPt,aT4,_,rfl,ao9,arn⟩:=aX.elem Kt VE;refine Any.tk 4 rfl pp (λ R' H' hR hS=>Ox.bF rfl rfl rfl arn rfl (.one rfl) an) ?_;refine Any.vs 1 [5] rfl (Any.tk 6 rfl pp (λ R' H' hR hS=>Ox.bI rfl rfl ba ((ao9.up hR).one (j:=0) rfl) rfl (.one rfl) an) ?_);refine Any.cv 7 abi (aec x0 Gt.Place aY aW aR aS aX VF) ?_;rintro _ _ _ ⟨rfl,rfl,rfl⟩;refine kp (Any.vs 1 [8] rfl (Any.done (sc hM (λ awM hM=>?_) (λ awM hM=>?_))))
   ·refine sg aC (vs 1 (er ?_));replace hM:=aeS _ (aa hM).symm;obtain rfl:=aa hM;exact rt func52 (.tmp rfl .nil) (so sr) (hk _ _ _ an)
   refine sp (sg gb (vs 1 ?_));refine ld 5 m9 z0 ?_;refine vs 1 ?_;obtain ⟨lC,VG,hM⟩:=ah hM;obtain ⟨mO,VH,hM⟩:=ah hM;obtain ⟨akn,aFZ,_,rfl,SH,Tc⟩:=aX.elem Kt VG;refine dk Tc ?_;refine vs 1 ?_;refine At.ld ba (SH.any.one (j:=1) rfl) ?_;refine At.cv n7 (oy lC.mT 0 30  VH) ?_;rintro _ _ _ ⟨rfl,rfl,rfl⟩;refine vs 1 (er ?_);refine sc hM (λ awN hM=>?_) (λ awN hM=>?_)
   ·refine sg aC (vs 1 (er ?_));replace hM:=aeS _ (aa hM).symm;obtain rfl:=aa hM;exact rt func52 (.tmp rfl .nil) (so sr) (hk _ _ _ an)
   refine sp (At.inBlock (At.rg bg (vs 3 (er ?_))));exact aji _ (aa hM).symm _ _ _ ⟨rfl,rfl,au eM⟩
  exact At.exit rfl (At.drop (so sr) (amM _ (aa hM).symm _ _ _ ⟨rfl,rfl,cj.sub trivial⟩))
 rintro afa aMk aKe aVz ⟨rfl,rfl,auH⟩ hM;refine At.sub auH (sg aC (vs 1 (er ?_)));obtain rfl:=aa hM;exact rt func52 (.tmp rfl .nil) sr (hk _ _ _ an)
end
end Go.Proofs.YtihapemckcdicaaGreatDoor
