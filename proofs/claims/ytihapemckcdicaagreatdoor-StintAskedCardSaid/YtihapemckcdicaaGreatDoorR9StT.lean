/- The row's own walk, as goroutine 0's own. Printed by strow.py. No conditions. -/
import Derived.Test.YtihapemckcdicaaGreatDoorQDStW12
import Derived.Test.YtihapemckcdicaaGreatDoorQDLgE
namespace Go.Proofs.YtihapemckcdicaaGreatDoor
open Go.Lg Go.Proofs Tryz
set_option maxRecDepth 100000
set_option maxHeartbeats 4000000
section
variable {B:Base} {R:av} {H:ai}
theorem aLE{PW:Value→World→Prop}(x0:au)(x1:Int)(x2:Int){aA aE aD aC aG:Value}(hG:gK R)(hK:vh (A6 prog B PW))(aR:ae bE 2 R aA x0.Rows)(aO:ae bH 2 R aE x0.aQ)(aK:ae bD 2 R aD x0.aH)(aJ:ae bI 4 R aC x0.aN)(aS:ae bu 3 R aG x0.aY){r:Bool}(hM:m9 x0 x1 x2=some r):Jf prog B PW 9 #[.agg #[iv x0.Rest,aA,aE,aD,aC,aG],.int .u8 x1,.int .u8 x2] R H (λ v R' H'=>aT R R'∧H=H'∧v = .bool r):=by
 unfold m9 at hM
 refine Jf.bl (args:=[.agg #[iv x0.Rest,aA,aE,aD,aC,aG],.int .u8 x1,.int .u8 x2]) func9 rfl (n:=168) rfl rfl λ hk=>?_;refine sg aP ?_;refine bx λ Wz=>?_;refine vs 1 ?_;refine es ?_;refine sq ?_;refine U.iU hM (λ (aaX:Bool) R' H' st'=>R=R'∧H'=(Wz,.cells #[iv x0.Rest,aA,aE,aD,aC,aG] 28)::H∧aF st' [(1,.int .u8 x1),(2,.int .u8 x2),(3,.pointer (some ⟨Wz,0,none⟩)),(25,.bool aaX)])  ?_ ?_;rotate_right
 ·intro aMR hM aFw;refine U.rg my ?_;refine lN [_,_,_,_,_,_] 0 6 bF z0 ?_;obtain ⟨ad5,aKx,hM⟩:=aj hM;refine U.cv ayT (ay2 x0 aR aO aK aJ aS aKx) ?_;rintro _ _ _ ⟨rfl,rfl,rfl⟩;refine vs 2 ?_;refine bC hM (λ U9 hM=>?_) (λ U9 hM=>?_)
  ·refine U.kn 20 U9 ?_;refine vs 5 ?_;refine er ?_;exact aFw _ (aa hM).symm _ _ _ ⟨rfl,rfl,az cN⟩
  refine U.kn 20 U9 ?_;refine vs 1 ?_;refine ld 5 jW z0 ?_;refine ls aS underlying26 ?_;refine vs 2 ?_;refine er ?_;exact aFw _ (aa hM).symm _ _ _ ⟨rfl,rfl,az cN⟩
 rintro aaX aLY aLP aMs ⟨rfl,rfl,aKk⟩ hM;refine U.sub aKk ?_;refine sc hM (λ adr hM=>?_) (λ adr hM=>?_)
 ·refine sg aP ?_;obtain ⟨xm,Vl,hM⟩:=aj hM;refine U.cv Nf (Nj  hG hK Vl) ?_;rintro _ aL6 _ ⟨aJ5,rfl,rfl⟩;refine vs 1 ?_;refine er ?_;obtain rfl:=aa hM;exact U.ve func9 (by kernel_rfl) (.tmp rfl .nil) (so sr) hk ⟨aJ5,bz⟩
 refine sp ?_;refine sg uP ?_;refine lN [_,_,_,_,_,_] 0 6 bF z0 ?_;obtain ⟨gn,aKy,hM⟩:=aj hM;refine U.cv adT (ad1 x0 hG aR aO aK aJ aS aKy) ?_;rintro _ aL7 _ ⟨Ka,rfl,rfl⟩;replace aR:=aR.mono Ka;replace aO:=aO.mono Ka;replace aK:=aK.mono Ka;replace aJ:=aJ.mono Ka;replace aS:=aS.mono Ka;replace hG:=hG.mono Ka;refine vs 9 ?_;refine nx eM ?_;refine lN [_,_,_,_,_,_] 0 6 bF z0 ?_;obtain ⟨zh,adw,hM⟩:=aj hM;refine U.cv Iz (ID x0 hG aR aO aK aJ aS adw) ?_;rintro _ azk _ ⟨Kb,rfl,rfl⟩;replace aR:=aR.mono Kb;replace aO:=aO.mono Kb;replace aK:=aK.mono Kb;replace aJ:=aJ.mono Kb;replace aS:=aS.mono Kb;replace hG:=hG.mono Kb;refine vs 5 ?_;refine es ?_;refine sq ?_;refine U.iU hM (λ (aaY:Bool) R' H' st'=>azk=R'∧H'=(Wz,.cells #[iv x0.Rest,aA,aE,aD,aC,aG] 28)::H∧aF st' [(1,.int .u8 x1),(2,.int .u8 x2),(3,.pointer (some ⟨Wz,0,none⟩)),(7,iv gn.1),(8,iv gn.2.1),(9,iv gn.2.2.1),(10,iv gn.2.2.2),(11,iv zh.1),(47,.bool aaY)])  ?_ ?_;rotate_right
 ·intro EE hM aFx;refine U.rg my ?_;refine vs 3 ?_;refine bC hM (λ azC hM=>?_) (λ azC hM=>?_)
  ·refine U.kn 41 azC ?_;refine vs 6 ?_;refine er ?_;exact aFx _ (aa hM).symm _ _ _ ⟨rfl,rfl,az xl⟩
  refine U.kn 41 azC ?_;refine vs 4 ?_;refine U.s rfl rfl (Ox.JH rfl rfl rfl underlying4 rfl rfl (.put rfl) ?_);refine vs 1 ?_;refine er ?_;exact aFx _ (aa hM).symm _ _ _ ⟨rfl,rfl,az xl⟩
 rintro aaY aLZ aLQ aMt ⟨rfl,rfl,aKl⟩ hM;refine U.sub aKl ?_;refine sc hM (λ Eo hM=>?_) (λ Eo hM=>?_)
 ·refine sg aI ?_;refine vs 1 ?_;refine er ?_;obtain rfl:=aa hM;exact U.ve func9 (by kernel_rfl) (.tmp rfl .nil) (so sr) hk ⟨(Ka.trans Kb),bz⟩
 refine sp ?_;refine sq ?_;refine sg aP ?_;refine vs 2 ?_;refine er ?_;refine sc hM (λ Gt hM=>?_) (λ Gt hM=>?_)
 ·refine sq ?_;refine U.iU hM (λ (HY:Bool) R' H' st'=>aT azk R'∧H=H'∧aF st' [(6,.bool HY)])  ?_ ?_;rotate_right
  ·intro Nl hM O6;refine U.rg IX ?_;refine vs 3 ?_;refine bC hM (λ aoQ hM=>?_) (λ aoQ hM=>?_)
   ·refine U.kn 52 aoQ ?_;refine vs 4 ?_;refine bC hM (λ azD hM=>?_) (λ azD hM=>?_)
    ·refine U.kn 56 azD ?_;refine vs 4 ?_;refine bC hM (λ azE hM=>?_) (λ azE hM=>?_)
     ·refine U.kn 60 azE ?_;refine vs 4 ?_;refine bC hM (λ azF hM=>?_) (λ azF hM=>?_)
      ·refine U.kn 64 azF ?_;obtain ⟨adJ,aKJ,hM⟩:=aj hM;refine U.cv Nf (Nj  hG hK aKJ) ?_;rintro _ aMc _ ⟨aJ8,rfl,rfl⟩;refine vs 2 ?_;refine er ?_;exact U.drop (so sr) (O6 _ (aa hM).symm _ _ _ ⟨aJ8,rfl,az qB⟩)
      refine U.kn 64 azF ?_;refine vs 3 ?_;refine er ?_;exact U.drop (so sr) (O6 _ (aa hM).symm _ _ _ ⟨(rr),rfl,az qB⟩)
     refine U.kn 60 azE ?_;refine vs 7 ?_;refine er ?_;exact U.drop (so sr) (O6 _ (aa hM).symm _ _ _ ⟨(rr),rfl,az qB⟩)
    refine U.kn 56 azD ?_;refine vs 11 ?_;refine er ?_;exact U.drop (so sr) (O6 _ (aa hM).symm _ _ _ ⟨(rr),rfl,az qB⟩)
   refine U.kn 52 aoQ ?_;refine vs 15 ?_;refine er ?_;exact U.drop (so sr) (O6 _ (aa hM).symm _ _ _ ⟨(rr),rfl,az qB⟩)
  rintro HY azg azb aAc ⟨aJ4,rfl,adn⟩ hM;refine U.sub adn ?_;obtain rfl:=aa hM;exact U.ve func9 (by kernel_rfl) (.tmp rfl .nil) sr hk ⟨((Ka.trans Kb).trans aJ4),bz⟩
 refine sp ?_;refine sq ?_;refine sq ?_;refine U.iU hM (λ (HZ:Bool) R' H' st'=>azk=R'∧H'=(Wz,.cells #[iv x0.Rest,aA,aE,aD,aC,aG] 28)::H∧aF st' [(1,.int .u8 x1),(2,.int .u8 x2),(3,.pointer (some ⟨Wz,0,none⟩)),(7,iv gn.1),(8,iv gn.2.1),(9,iv gn.2.2.1),(98,.bool HZ)])  ?_ ?_;rotate_right
 ·intro aAh hM O7;refine U.rg ad3 ?_;refine vs 2 ?_;refine ld 2 ln z0 ?_;refine ls aO underlying23 ?_;refine vs 1 ?_;obtain ⟨ad7,aKK,hM⟩:=aj hM;refine U.cv kT (kU gn.1 (-1) (i64 ((x0.aQ.length:Int) - 1))  aKK) ?_;rintro _ _ _ ⟨rfl,rfl,rfl⟩;refine vs 2 ?_;refine bC hM (λ Vd hM=>?_) (λ Vd hM=>?_)
  ·refine U.kn 74 Vd ?_;refine vs 24 ?_;refine er ?_;exact O7 _ (aa hM).symm _ _ _ ⟨rfl,rfl,az jU⟩
  refine U.kn 74 Vd ?_;refine vs 1 ?_;obtain ⟨Vu,aKL,hM⟩:=aj hM;refine U.cv kT (kU gn.2.1 (-1) 30  aKL) ?_;rintro _ _ _ ⟨rfl,rfl,rfl⟩;refine vs 3 ?_;refine bC hM (λ Ve hM=>?_) (λ Ve hM=>?_)
  ·refine U.kn 79 Ve ?_;refine vs 19 ?_;refine er ?_;exact O7 _ (aa hM).symm _ _ _ ⟨rfl,rfl,az jU⟩
  refine U.kn 79 Ve ?_;refine vs 5 ?_;refine U.s rfl rfl (Ox.JH rfl rfl rfl underlying4 rfl rfl (.put rfl) ?_);refine vs 2 ?_;refine bC hM (λ azG hM=>?_) (λ azG hM=>?_)
  ·refine U.kn 87 azG ?_;refine vs 11 ?_;refine er ?_;exact O7 _ (aa hM).symm _ _ _ ⟨rfl,rfl,az jU⟩
  refine U.kn 87 azG ?_;refine vs 4 ?_;refine U.s rfl rfl (Ox.JH rfl rfl rfl underlying4 rfl rfl (.put rfl) ?_);refine vs 2 ?_;refine bC hM (λ azH hM=>?_) (λ azH hM=>?_)
  ·refine U.kn 94 azH ?_;refine vs 4 ?_;refine er ?_;exact O7 _ (aa hM).symm _ _ _ ⟨rfl,rfl,az jU⟩
  refine U.kn 94 azH ?_;refine vs 4 ?_;refine er ?_;exact O7 _ (aa hM).symm _ _ _ ⟨rfl,rfl,az jU⟩
 rintro HZ azh azc aAd ⟨rfl,rfl,ado⟩ hM;refine U.sub ado ?_;refine sc hM (λ ads hM=>?_) (λ ads hM=>?_)
 ·refine sg aI ?_;refine vs 1 ?_;refine er ?_;obtain rfl:=aa hM;exact U.ve func9 (by kernel_rfl) (.tmp rfl .nil) (so sr) hk ⟨(Ka.trans Kb),bz⟩
 refine sp ?_;refine sg uP ?_;refine vs 1 ?_;refine Ew underlying5 underlying3 ?_;refine vs 1 ?_;refine ld 2 ln z0 ?_;refine ls aO underlying23 ?_;obtain ⟨zi,IB,hM⟩:=aj hM;refine U.s rfl rfl (Ox.rem rfl rfl rfl IB rfl (.put rfl) ?_);refine vs 1 ?_;refine Ew underlying5 underlying3 ?_;obtain ⟨tu,BT,hM⟩:=aj hM;refine U.s rfl rfl (Ox.rem rfl rfl rfl BT rfl (.put rfl) ?_);refine vs 2 ?_;refine nx my ?_;refine lN [_,_,_,_,_,_] 0 6 bF z0 ?_;refine vs 2 ?_;obtain ⟨BC,aKM,hM⟩:=aj hM;refine U.cv ayU (ay3 x0 zi tu hG aR aO aK aJ aS aKM) ?_;rintro _ aDi _ ⟨PB,rfl,rfl⟩;replace aR:=aR.mono PB;replace aO:=aO.mono PB;replace aK:=aK.mono PB;replace aJ:=aJ.mono PB;replace aS:=aS.mono PB;replace hG:=hG.mono PB;refine vs 5 ?_;refine es ?_;refine sq ?_;refine U.iU hM (λ (aa4:Bool) R' H' st'=>aDi=R'∧H'=(Wz,.cells #[iv x0.Rest,aA,aE,aD,aC,aG] 28)::H∧aF st' [(3,.pointer (some ⟨Wz,0,none⟩)),(7,iv gn.1),(8,iv gn.2.1),(9,iv gn.2.2.1),(15,iv BC.1),(16,.bool BC.2),(145,.bool aa4)])  ?_ ?_;rotate_right
 ·intro aMS hM adh;refine U.rg az7 ?_;refine vs 3 ?_;refine bC hM (λ azI hM=>?_) (λ azI hM=>?_)
  ·refine U.kn 117 azI ?_;refine vs 28 ?_;refine er ?_;exact adh _ (aa hM).symm _ _ _ ⟨rfl,rfl,az jU⟩
  refine U.kn 117 azI ?_;refine vs 5 ?_;refine bC hM (λ IN hM=>?_) (λ IN hM=>?_)
  ·refine U.kn 122 IN ?_;refine vs 23 ?_;refine er ?_;exact adh _ (aa hM).symm _ _ _ ⟨rfl,rfl,az jU⟩
  refine U.kn 122 IN ?_;refine vs 4 ?_;refine bC hM (λ MZ hM=>?_) (λ MZ hM=>?_)
  ·refine U.kn 126 MZ ?_;refine vs 4 ?_;refine bC hM (λ Gv hM=>?_) (λ Gv hM=>?_)
   ·refine U.kn 130 Gv ?_;refine vs 4 ?_;refine bC hM (λ IP hM=>?_) (λ IP hM=>?_)
    ·refine U.kn 134 IP ?_;refine vs 11 ?_;refine er ?_;exact adh _ (aa hM).symm _ _ _ ⟨rfl,rfl,az jU⟩
    refine U.kn 134 IP ?_;refine vs 4 ?_;refine bC hM (λ IQ hM=>?_) (λ IQ hM=>?_)
    ·refine U.kn 138 IQ ?_;refine vs 7 ?_;refine er ?_;exact adh _ (aa hM).symm _ _ _ ⟨rfl,rfl,az jU⟩
    refine U.kn 138 IQ ?_;refine vs 7 ?_;refine er ?_;exact adh _ (aa hM).symm _ _ _ ⟨rfl,rfl,az jU⟩
   refine U.kn 130 Gv ?_;refine vs 15 ?_;refine er ?_;exact adh _ (aa hM).symm _ _ _ ⟨rfl,rfl,az jU⟩
  refine U.kn 126 MZ ?_;refine vs 19 ?_;refine er ?_;exact adh _ (aa hM).symm _ _ _ ⟨rfl,rfl,az jU⟩
 rintro aa4 aL3 aLV aMy ⟨rfl,rfl,aKq⟩ hM;refine U.sub aKq ?_;refine sc hM (λ adt hM=>?_) (λ adt hM=>?_)
 ·refine sg aI ?_;refine vs 1 ?_;refine er ?_;obtain rfl:=aa hM;exact U.ve func9 (by kernel_rfl) (.tmp rfl .nil) (so sr) hk ⟨((Ka.trans Kb).trans PB),bz⟩
 refine sp ?_;refine sq ?_;refine sg aP ?_;refine vs 2 ?_;refine er ?_;refine U.iU hM (λ (vd:(Int × Bool)) R' H' st'=>aT aDi R'∧H=H'∧aF st' [(7,iv gn.1),(9,iv gn.2.2.1),(15,iv vd.1),(16,.bool vd.2)])  ?_ ?_;rotate_right
 ·intro Nm hM Yg;refine sc hM (λ adu hM=>?_) (λ adu hM=>?_)
  ·refine U.rg my ?_;refine lN [_,_,_,_,_,_] 0 6 bF z0 ?_;refine vs 2 ?_;obtain ⟨Vx,aKW,hM⟩:=aj hM;refine U.cv ayU (ay3 x0 gn.1 gn.2.1 hG aR aO aK aJ aS aKW) ?_;rintro _ aMg _ ⟨aJ9,rfl,rfl⟩;refine vs 5 ?_;refine er ?_;exact U.drop (so sr) (Yg _ (aa hM).symm _ _ _ ⟨aJ9,rfl,az cN⟩)
  refine sp ?_;exact U.drop (so sr) (Yg _ (aa hM).symm _ _ _ ⟨(rr),rfl,az cN⟩)
 rintro vd azi azd aAe ⟨aj4,rfl,adp⟩ hM;refine U.sub adp ?_;replace hG:=hG.mono aj4;refine sg EB ?_;refine vs 2 ?_;refine bC hM (λ Vf hM=>?_) (λ Vf hM=>?_)
 ·refine U.kn 156 Vf ?_;refine vs 3 ?_;refine bC hM (λ azJ hM=>?_) (λ azJ hM=>?_)
  ·refine U.kn 159 azJ ?_;refine vs 6 ?_;obtain ⟨IZ,adx,hM⟩:=aj hM;refine U.cv Nf (Nj  hG hK adx) ?_;rintro _ aMh _ ⟨aKa,rfl,rfl⟩;refine vs 2 ?_;refine er ?_;obtain rfl:=aa hM;exact U.ve func9 (by kernel_rfl) (.tmp rfl .nil) sr hk ⟨((((Ka.trans Kb).trans PB).trans aj4).trans aKa),bz⟩
  refine U.kn 159 azJ ?_;refine vs 6 ?_;refine bC hM (λ azK hM=>?_) (λ azK hM=>?_)
  ·refine U.kn 165 azK ?_;obtain ⟨ad8,aKX,hM⟩:=aj hM;refine U.cv Nf (Nj  hG hK aKX) ?_;rintro _ aMi _ ⟨aKb,rfl,rfl⟩;refine vs 2 ?_;refine er ?_;obtain rfl:=aa hM;exact U.ve func9 (by kernel_rfl) (.tmp rfl .nil) sr hk ⟨((((Ka.trans Kb).trans PB).trans aj4).trans aKb),bz⟩
  refine U.kn 165 azK ?_;refine vs 3 ?_;refine er ?_;obtain rfl:=aa hM;exact U.ve func9 (by kernel_rfl) (.tmp rfl .nil) sr hk ⟨(((Ka.trans Kb).trans PB).trans aj4),bz⟩
 refine U.kn 156 Vf ?_;refine vs 12 ?_;refine er ?_;obtain rfl:=aa hM;exact U.ve func9 (by kernel_rfl) (.tmp rfl .nil) sr hk ⟨(((Ka.trans Kb).trans PB).trans aj4),bz⟩
end
end Go.Proofs.YtihapemckcdicaaGreatDoor
