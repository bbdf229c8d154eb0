/- The row's own walk, as goroutine 0's own. Printed by strow.py. No conditions. -/
import Derived.Test.YtihapemckcdicaaGreatDoorQEStW12
import Derived.Test.YtihapemckcdicaaGreatDoorQELgE
namespace Go.Proofs.YtihapemckcdicaaGreatDoor
open Go.Lg Go.Proofs Tryz
set_option maxRecDepth 100000
set_option maxHeartbeats 4000000
section
variable {B:Base} {R:az} {H:an}
theorem aZK{PW:Value→World→Prop}(x0:ao)(x1:(List Int)){aB aD aG aE aF v1:Value}(hG:iP R)(hK:tO (Da prog B PW))(aP:ae bE 2 R aB x0.Rows)(aO:ae bN 2 R aD x0.aM)(aL:ae bD 2 R aG x0.ax)(aK:ae bL 4 R aE x0.av)(aN:ae bB 3 R aF x0.ba)(h1:cK (CI .u16) 1 R H v1 x1){r:Bool}(hM:m10 x0 x1=some r):Mk prog B PW 10 #[.agg #[iv x0.Rest,aB,aD,aG,aE,aF],v1] R H (λ v R' H'=>aT R R'∧H=H'∧v = .bool r):=by
 unfold m10 at hM
 refine Mk.bn (args:=[.agg #[iv x0.Rest,aB,aD,aG,aE,aF],v1]) func10 rfl (n:=215) rfl rfl λ hk=>?_;refine sg aS ?_;refine bx λ tG=>?_;refine vs 1 ?_;refine es ?_;refine sg bh ?_;refine lN [_,_,_,_,_,_] 0 6 bH z0 ?_;obtain ⟨L3,aiU,hM⟩:=aj hM;refine U.cv an9 (aBf x0 aP aO aL aK aN aiU) ?_;rintro _ _ _ ⟨rfl,rfl,rfl⟩;refine vs 1 ?_;refine er ?_;refine sc hM (λ Ql hM=>?_) (λ Ql hM=>?_)
 ·refine sg aS ?_;obtain ⟨Ed,ahw,hM⟩:=aj hM;refine U.cv Lt (Lu  hG hK ahw) ?_;rintro _ a1l _ ⟨aWF,rfl,rfl⟩;refine vs 1 ?_;refine er ?_;obtain rfl:=ab hM;exact U.vd func10 (by kernel_rfl) (.tmp rfl .nil) (so sr) hk ⟨aWF,bI⟩
 refine sp ?_;refine sg eJ ?_;refine lN [_,_,_,_,_,_] 0 6 bH z0 ?_;obtain ⟨zo,aUT,hM⟩:=aj hM;refine U.cv EZ (F0 x0 hG hK aP aO aL aK aN aUT) ?_;rintro _ aV2 _ ⟨ZU,rfl,rfl⟩;replace aP:=aP.mono ZU;replace aO:=aO.mono ZU;replace aL:=aL.mono ZU;replace aK:=aK.mono ZU;replace aN:=aN.mono ZU;replace h1:=h1.le ZU;replace hG:=hG.mono ZU;refine vs 5 ?_;refine nx mh ?_;refine lN [_,_,_,_,_,_] 0 6 bH z0 ?_;obtain ⟨iu,aSW,hM⟩:=aj hM;refine U.cv ajD (ajJ x0 hG hK aP aO aL aK aN aSW) ?_;rintro _ a1m _ ⟨agN,rfl,aS7,agY,rfl⟩;replace aP:=aP.mono agN;replace aO:=aO.mono agN;replace aL:=aL.mono agN;replace aK:=aK.mono agN;replace aN:=aN.mono agN;replace h1:=h1.le agN;replace hG:=hG.mono agN;refine vs 7 ?_;refine nx qY ?_;refine lN [_,_,_,_,_,_] 0 6 bH z0 ?_;obtain ⟨jb,aUU,hM⟩:=aj hM;refine U.cv QC (QF x0 hG hK aP aO aL aK aN aUU) ?_;rintro _ aV4 _ ⟨ac5,rfl,aS8,ahV,rfl⟩;replace aP:=aP.mono ac5;replace aO:=aO.mono ac5;replace aL:=aL.mono ac5;replace aK:=aK.mono ac5;replace aN:=aN.mono ac5;replace h1:=h1.le ac5;replace hG:=hG.mono ac5;replace agY:=agY.mono ac5;refine vs 9 ?_;refine es ?_;refine sq ?_;refine U.ia hM (λ (aid:Bool) R' H' st'=>aV4=R'∧H'=(tG,.cells #[iv x0.Rest,aB,aD,aG,aE,aF] 28)::H∧aI st' [(1,v1),(2,.pointer (some ⟨tG,0,none⟩)),(6,iv zo.2),(7,aS7),(8,.bool iu.2.1),(10,aS8),(11,iv jb.2.1),(61,.bool aid)])  ?_ ?_;rotate_right
 ·intro Bu hM aTl;refine U.rg aHu ?_;refine vs 4 ?_;refine bu hM (λ G3 hM=>?_) (λ G3 hM=>?_)
  ·refine U.kn 46 G3 ?_;refine vs 15 ?_;refine er ?_;exact aTl _ (ab hM).symm _ _ _ ⟨rfl,rfl,ay nQ⟩
  refine U.kn 46 G3 ?_;refine vs 5 ?_;refine bu hM (λ aUq hM=>?_) (λ aUq hM=>?_)
  ·refine U.kn 51 aUq ?_;refine vs 10 ?_;refine er ?_;exact aTl _ (ab hM).symm _ _ _ ⟨rfl,rfl,ay nQ⟩
  refine U.kn 51 aUq ?_;refine vs 2 ?_;refine U.s rfl rfl (Ox.Zy rfl rfl rfl underlying4 rfl rfl (.put rfl) ?_);refine vs 2 ?_;refine bu hM (λ aF6 hM=>?_) (λ aF6 hM=>?_)
  ·refine U.kn 56 aF6 ?_;refine vs 5 ?_;refine er ?_;exact aTl _ (ab hM).symm _ _ _ ⟨rfl,rfl,ay nQ⟩
  refine U.kn 56 aF6 ?_;refine vs 3 ?_;refine U.s rfl rfl (Ox.Zy rfl rfl rfl underlying4 rfl rfl (.put rfl) ?_);refine vs 1 ?_;refine er ?_;exact aTl _ (ab hM).symm _ _ _ ⟨rfl,rfl,ay nQ⟩
 rintro aid a0X a0w a2H ⟨rfl,rfl,aXx⟩ hM;refine U.sub aXx ?_;refine sc hM (λ ZX hM=>?_) (λ ZX hM=>?_)
 ·refine sg aJ ?_;refine vs 1 ?_;refine er ?_;obtain rfl:=ab hM;exact U.vd func10 (by kernel_rfl) (.tmp rfl .nil) (so sr) hk ⟨((ZU.trans agN).trans ac5),bI⟩
 refine sp ?_;refine sg gq ?_;refine lN [_,_,_,_,_,_] 0 6 bH z0 ?_;refine vs 1 ?_;obtain ⟨zh,aiV,hM⟩:=aj hM;refine U.cv aHa (aHl x0 x1 aP aO aL aK aN (h1.sub (su (so sr))) aiV) ?_;rintro _ aVq _ ⟨ac6,rfl,aTB,aGs,rfl⟩;replace aP:=aP.mono ac6;replace aO:=aO.mono ac6;replace aL:=aL.mono ac6;replace aK:=aK.mono ac6;replace aN:=aN.mono ac6;replace h1:=h1.le ac6;replace hG:=hG.mono ac6;replace agY:=agY.mono ac6;replace ahV:=ahV.mono ac6;refine vs 5 ?_;refine es ?_;refine sq ?_;refine U.ia hM (λ (LK:Bool) R' H' st'=>aVq=R'∧H'=(tG,.cells #[iv x0.Rest,aB,aD,aG,aE,aF] 28)::H∧aI st' [(2,.pointer (some ⟨tG,0,none⟩)),(6,iv zo.2),(7,aS7),(8,.bool iu.2.1),(10,aS8),(11,iv jb.2.1),(14,aTB),(73,.bool LK)])  ?_ ?_;rotate_right
 ·intro Hn hM ahN;refine U.rg gG ?_;refine vs 3 ?_;refine bu hM (λ Qn hM=>?_) (λ Qn hM=>?_)
  ·refine U.kn 70 Qn ?_;refine vs 3 ?_;refine er ?_;exact ahN _ (ab hM).symm _ _ _ ⟨rfl,rfl,ay nQ⟩
  refine U.kn 70 Qn ?_;refine vs 3 ?_;refine er ?_;exact ahN _ (ab hM).symm _ _ _ ⟨rfl,rfl,ay nQ⟩
 rintro LK aHO aHD aIE ⟨rfl,rfl,aiI⟩ hM;refine U.sub aiI ?_;refine sc hM (λ P2 hM=>?_) (λ P2 hM=>?_)
 ·refine sq ?_;refine U.ia hM (λ (aif:Bool) R' H' st'=>aT aVq R'∧H=H'∧aI st' [(4,.bool aif)])  ?_ ?_;rotate_right
  ·intro HM hM aGF;refine U.rg ajN ?_;refine vs 3 ?_;refine bu hM (λ ahl hM=>?_) (λ ahl hM=>?_)
   ·refine U.kn 76 ahl ?_;refine vs 8 ?_;refine bu hM (λ aId hM=>?_) (λ aId hM=>?_)
    ·refine U.kn 84 aId ?_;refine vs 1 ?_;refine ls agY underlying29 ?_;refine vs 1 ?_;refine ls ahV underlying29 ?_;refine vs 4 ?_;refine bu hM (λ ahm hM=>?_) (λ ahm hM=>?_)
     ·refine U.kn 92 ahm ?_;refine vs 4 ?_;refine bu hM (λ aUv hM=>?_) (λ aUv hM=>?_)
      ·refine U.kn 96 aUv ?_;obtain ⟨Bj,ahx,hM⟩:=aj hM;refine U.cv Lt (Lu  hG hK ahx) ?_;rintro _ aV5 _ ⟨agO,rfl,rfl⟩;refine vs 2 ?_;refine er ?_;exact U.drop (so sr) (aGF _ (ab hM).symm _ _ _ ⟨agO,rfl,ay m9⟩)
      refine U.kn 96 aUv ?_;refine vs 3 ?_;refine er ?_;exact U.drop (so sr) (aGF _ (ab hM).symm _ _ _ ⟨(rr),rfl,ay m9⟩)
     refine U.kn 92 ahm ?_;refine vs 7 ?_;refine er ?_;exact U.drop (so sr) (aGF _ (ab hM).symm _ _ _ ⟨(rr),rfl,ay m9⟩)
    refine U.kn 84 aId ?_;refine vs 15 ?_;refine er ?_;exact U.drop (so sr) (aGF _ (ab hM).symm _ _ _ ⟨(rr),rfl,ay m9⟩)
   refine U.kn 76 ahl ?_;refine vs 4 ?_;refine bu hM (λ aUw hM=>?_) (λ aUw hM=>?_)
   ·refine U.kn 80 aUw ?_;refine vs 4 ?_;refine bu hM (λ aUx hM=>?_) (λ aUx hM=>?_)
    ·refine U.kn 84 aUx ?_;refine vs 1 ?_;refine ls agY underlying29 ?_;refine vs 1 ?_;refine ls ahV underlying29 ?_;refine vs 4 ?_;refine bu hM (λ ahn hM=>?_) (λ ahn hM=>?_)
     ·refine U.kn 92 ahn ?_;refine vs 4 ?_;refine bu hM (λ aUy hM=>?_) (λ aUy hM=>?_)
      ·refine U.kn 96 aUy ?_;obtain ⟨HR,ai6,hM⟩:=aj hM;refine U.cv Lt (Lu  hG hK ai6) ?_;rintro _ a1I _ ⟨aWQ,rfl,rfl⟩;refine vs 2 ?_;refine er ?_;exact U.drop (so sr) (aGF _ (ab hM).symm _ _ _ ⟨aWQ,rfl,ay m9⟩)
      refine U.kn 96 aUy ?_;refine vs 3 ?_;refine er ?_;exact U.drop (so sr) (aGF _ (ab hM).symm _ _ _ ⟨(rr),rfl,ay m9⟩)
     refine U.kn 92 ahn ?_;refine vs 7 ?_;refine er ?_;exact U.drop (so sr) (aGF _ (ab hM).symm _ _ _ ⟨(rr),rfl,ay m9⟩)
    refine U.kn 84 aUx ?_;refine vs 15 ?_;refine er ?_;exact U.drop (so sr) (aGF _ (ab hM).symm _ _ _ ⟨(rr),rfl,ay m9⟩)
   refine U.kn 80 aUw ?_;refine vs 19 ?_;refine er ?_;exact U.drop (so sr) (aGF _ (ab hM).symm _ _ _ ⟨(rr),rfl,ay m9⟩)
  rintro aif a01 a0A a2L ⟨aWz,rfl,aXB⟩ hM;refine U.sub aXB ?_;obtain rfl:=ab hM;exact U.vd func10 (by kernel_rfl) (.tmp rfl .nil) sr hk ⟨((((ZU.trans agN).trans ac5).trans ac6).trans aWz),bI⟩
 refine sp ?_;refine sg gq ?_;refine lN [_,_,_,_,_,_] 0 6 bH z0 ?_;refine vs 1 ?_;obtain ⟨GU,aUW,hM⟩:=aj hM;refine U.cv Y4 (Ze x0 zh.1 hG aP aO aL aK aN aGs aUW) ?_;rintro _ aTf _ ⟨TA,rfl,rfl⟩;replace aP:=aP.mono TA;replace aO:=aO.mono TA;replace aL:=aL.mono TA;replace aK:=aK.mono TA;replace aN:=aN.mono TA;replace hG:=hG.mono TA;replace agY:=agY.mono TA;replace ahV:=ahV.mono TA;replace aGs:=aGs.mono TA;refine vs 5 ?_;refine es ?_;refine sq ?_;refine U.ia hM (λ (LL:Bool) R' H' st'=>aTf=R'∧H'=(tG,.cells #[iv x0.Rest,aB,aD,aG,aE,aF] 28)::H∧aI st' [(2,.pointer (some ⟨tG,0,none⟩)),(7,aS7),(8,.bool iu.2.1),(10,aS8),(11,iv jb.2.1),(14,aTB),(16,iv GU.1),(114,.bool LL)])  ?_ ?_;rotate_right
 ·intro xr hM ag5;refine U.rg nq ?_;refine vs 3 ?_;refine bu hM (λ agQ hM=>?_) (λ agQ hM=>?_)
  ·refine U.kn 107 agQ ?_;refine vs 7 ?_;refine er ?_;exact ag5 _ (ab hM).symm _ _ _ ⟨rfl,rfl,ay nQ⟩
  refine U.kn 107 agQ ?_;refine vs 3 ?_;refine bu hM (λ aho hM=>?_) (λ aho hM=>?_)
  ·refine U.kn 110 aho ?_;refine vs 4 ?_;refine er ?_;exact ag5 _ (ab hM).symm _ _ _ ⟨rfl,rfl,ay nQ⟩
  refine U.kn 110 aho ?_;refine vs 4 ?_;refine er ?_;exact ag5 _ (ab hM).symm _ _ _ ⟨rfl,rfl,ay nQ⟩
 rintro LL aHR aHH aII ⟨rfl,rfl,aiM⟩ hM;refine U.sub aiM ?_;refine sc hM (λ ZY hM=>?_) (λ ZY hM=>?_)
 ·refine sg aJ ?_;refine vs 1 ?_;refine er ?_;obtain rfl:=ab hM;exact U.vd func10 (by kernel_rfl) (.tmp rfl .nil) (so sr) hk ⟨((((ZU.trans agN).trans ac5).trans ac6).trans TA),bI⟩
 refine sp ?_;refine sq ?_;refine sg aS ?_;refine vs 2 ?_;refine er ?_;refine sc hM (λ aXY hM=>?_) (λ aXY hM=>?_)
 ·refine sq ?_;refine U.ia hM (λ (aij:Bool) R' H' st'=>aT aTf R'∧H=H'∧aI st' [(4,.bool aij)])  ?_ ?_;rotate_right
  ·intro xm hM aTV;refine U.rg HJ ?_;refine vs 1 ?_;refine ls agY underlying29 ?_;refine vs 1 ?_;refine ls ahV underlying29 ?_;refine vs 3 ?_;refine bu hM (λ ahq hM=>?_) (λ ahq hM=>?_)
   ·refine U.kn 123 ahq ?_;refine vs 4 ?_;refine bu hM (λ ZZ hM=>?_) (λ ZZ hM=>?_)
    ·refine U.kn 127 ZZ ?_;obtain ⟨qi,Qv,hM⟩:=aj hM;refine U.cv Lt (Lu  hG hK Qv) ?_;rintro _ aHZ _ ⟨jd,rfl,rfl⟩;refine vs 2 ?_;refine er ?_;exact U.drop (so sr) (aTV _ (ab hM).symm _ _ _ ⟨jd,rfl,ay m9⟩)
    refine U.kn 127 ZZ ?_;refine vs 3 ?_;refine er ?_;exact U.drop (so sr) (aTV _ (ab hM).symm _ _ _ ⟨(rr),rfl,ay m9⟩)
   refine U.kn 123 ahq ?_;refine vs 7 ?_;refine er ?_;exact U.drop (so sr) (aTV _ (ab hM).symm _ _ _ ⟨(rr),rfl,ay m9⟩)
  rintro aij a04 a0D a2O ⟨aWA,rfl,aXE⟩ hM;refine U.sub aXE ?_;obtain rfl:=ab hM;exact U.vd func10 (by kernel_rfl) (.tmp rfl .nil) sr hk ⟨(((((ZU.trans agN).trans ac5).trans ac6).trans TA).trans aWA),bI⟩
 refine sp ?_;refine sq ?_;refine sq ?_;refine U.ia hM (λ (sb:Bool) R' H' st'=>aTf=R'∧H'=(tG,.cells #[iv x0.Rest,aB,aD,aG,aE,aF] 28)::H∧aI st' [(2,.pointer (some ⟨tG,0,none⟩)),(7,aS7),(10,aS8),(11,iv jb.2.1),(14,aTB),(16,iv GU.1),(139,.bool sb)])  ?_ ?_;rotate_right
 ·intro qU hM ahO;refine U.rg nq ?_;refine lN [_,_,_,_,_,_] 0 6 bH z0 ?_;refine vs 1 ?_;obtain ⟨aaf,aZl,hM⟩:=aj hM;refine U.cv aHb (aHm x0 iu.1 aP aO aL aK aN agY.rd aZl) ?_;rintro _ _ _ ⟨rfl,rfl,rfl⟩;refine vs 2 ?_;refine bu hM (λ aF7 hM=>?_) (λ aF7 hM=>?_)
  ·refine U.kn 134 aF7 ?_;refine vs 5 ?_;refine er ?_;exact ahO _ (ab hM).symm _ _ _ ⟨rfl,rfl,ay gH⟩
  refine U.kn 134 aF7 ?_;refine lN [_,_,_,_,_,_] 0 6 bH z0 ?_;refine vs 1 ?_;obtain ⟨L4,ZE,hM⟩:=aj hM;refine U.cv aHb (aHm x0 jb.1 aP aO aL aK aN ahV.rd ZE) ?_;rintro _ _ _ ⟨rfl,rfl,rfl⟩;refine vs 2 ?_;refine er ?_;exact ahO _ (ab hM).symm _ _ _ ⟨rfl,rfl,ay gH⟩
 rintro sb aHS aHI aIJ ⟨rfl,rfl,aiN⟩ hM;refine U.sub aiN ?_;refine sc hM (λ aX0 hM=>?_) (λ aX0 hM=>?_)
 ·refine sg aJ ?_;refine vs 1 ?_;refine er ?_;obtain rfl:=ab hM;exact U.vd func10 (by kernel_rfl) (.tmp rfl .nil) (so sr) hk ⟨((((ZU.trans agN).trans ac5).trans ac6).trans TA),bI⟩
 refine sp ?_;refine sg gq ?_;refine lN [_,_,_,_,_,_] 0 6 bH z0 ?_;refine vs 1 ?_;obtain ⟨aag,aZm,hM⟩:=aj hM;refine U.cv Y4 (Ze x0 iu.1 hG aP aO aL aK aN agY aZm) ?_;rintro _ a1M _ ⟨ahT,rfl,rfl⟩;replace aP:=aP.mono ahT;replace aO:=aO.mono ahT;replace aL:=aL.mono ahT;replace aK:=aK.mono ahT;replace aN:=aN.mono ahT;replace hG:=hG.mono ahT;replace agY:=agY.mono ahT;replace ahV:=ahV.mono ahT;replace aGs:=aGs.mono ahT;refine vs 5 ?_;refine nx gq ?_;refine lN [_,_,_,_,_,_] 0 6 bH z0 ?_;refine vs 1 ?_;obtain ⟨aah,aZn,hM⟩:=aj hM;refine U.cv Y4 (Ze x0 jb.1 hG aP aO aL aK aN ahV aZn) ?_;rintro _ aV9 _ ⟨ahU,rfl,rfl⟩;replace aP:=aP.mono ahU;replace aO:=aO.mono ahU;replace aL:=aL.mono ahU;replace aK:=aK.mono ahU;replace aN:=aN.mono ahU;replace hG:=hG.mono ahU;replace agY:=agY.mono ahU;replace ahV:=ahV.mono ahU;replace aGs:=aGs.mono ahU;refine vs 5 ?_;refine es ?_;refine sq ?_;refine U.ia hM (λ (Y1:Bool) R' H' st'=>aV9=R'∧H'=(tG,.cells #[iv x0.Rest,aB,aD,aG,aE,aF] 28)::H∧aI st' [(2,.pointer (some ⟨tG,0,none⟩)),(7,aS7),(10,aS8),(11,iv jb.2.1),(14,aTB),(16,iv GU.1),(184,.bool Y1)])  ?_ ?_;rotate_right
 ·intro a0h hM aGG;refine U.rg aIz ?_;refine vs 3 ?_;refine bu hM (λ G6 hM=>?_) (λ G6 hM=>?_)
  ·refine U.kn 154 G6 ?_;refine vs 30 ?_;refine er ?_;exact aGG _ (ab hM).symm _ _ _ ⟨rfl,rfl,ay gH⟩
  refine U.kn 154 G6 ?_;refine vs 4 ?_;refine bu hM (λ Qq hM=>?_) (λ Qq hM=>?_)
  ·refine U.kn 158 Qq ?_;refine vs 26 ?_;refine er ?_;exact aGG _ (ab hM).symm _ _ _ ⟨rfl,rfl,ay gH⟩
  refine U.kn 158 Qq ?_;refine vs 4 ?_;refine bu hM (λ G7 hM=>?_) (λ G7 hM=>?_)
  ·refine U.kn 162 G7 ?_;refine vs 22 ?_;refine er ?_;exact aGG _ (ab hM).symm _ _ _ ⟨rfl,rfl,ay gH⟩
  refine U.kn 162 G7 ?_;refine vs 4 ?_;refine bu hM (λ aUJ hM=>?_) (λ aUJ hM=>?_)
  ·refine U.kn 166 aUJ ?_;refine vs 18 ?_;refine er ?_;exact aGG _ (ab hM).symm _ _ _ ⟨rfl,rfl,ay gH⟩
  refine U.kn 166 aUJ ?_;refine vs 1 ?_;refine lN [_,_,_,_,_,_] 0 6 bH z0 ?_;refine vs 1 ?_;obtain ⟨L6,ajc,hM⟩:=aj hM;refine U.cv aGB (aGM x0 jb.1 aP aO aL aK aN ahV.rd ajc) ?_;rintro _ _ _ ⟨rfl,rfl,rfl⟩;refine vs 3 ?_;refine bu hM (λ ahr hM=>?_) (λ ahr hM=>?_)
  ·refine U.kn 173 ahr ?_;refine vs 11 ?_;refine er ?_;exact aGG _ (ab hM).symm _ _ _ ⟨rfl,rfl,ay gH⟩
  refine U.kn 173 ahr ?_;refine vs 2 ?_;obtain ⟨L7,ZF,hM⟩:=aj hM;refine U.cv aGC (aGN jb.1 iu.1 ahV.rd agY.rd ZF) ?_;rintro _ _ _ ⟨rfl,rfl,rfl⟩;refine vs 2 ?_;refine bu hM (λ aUK hM=>?_) (λ aUK hM=>?_)
  ·refine U.kn 178 aUK ?_;refine vs 6 ?_;refine er ?_;exact aGG _ (ab hM).symm _ _ _ ⟨rfl,rfl,ay gH⟩
  refine U.kn 178 aUK ?_;refine vs 1 ?_;refine lN [_,_,_,_,_,_] 0 6 bH z0 ?_;refine vs 1 ?_;obtain ⟨L8,ajd,hM⟩:=aj hM;refine U.cv aGB (aGM x0 iu.1 aP aO aL aK aN agY.rd ajd) ?_;rintro _ _ _ ⟨rfl,rfl,rfl⟩;refine vs 2 ?_;refine er ?_;exact aGG _ (ab hM).symm _ _ _ ⟨rfl,rfl,ay gH⟩
 rintro Y1 aV1 aVV a0d ⟨rfl,rfl,aT9⟩ hM;refine U.sub aT9 ?_;refine sc hM (λ aOm hM=>?_) (λ aOm hM=>?_)
 ·refine sg aJ ?_;refine vs 1 ?_;refine er ?_;obtain rfl:=ab hM;exact U.vd func10 (by kernel_rfl) (.tmp rfl .nil) (so sr) hk ⟨((((((ZU.trans agN).trans ac5).trans ac6).trans TA).trans ahT).trans ahU),bI⟩
 refine sp ?_;refine sg cb ?_;refine lN [_,_,_,_,_,_] 0 6 bH z0 ?_;refine vs 1 ?_;obtain ⟨LX,aTv,hM⟩:=aj hM;refine U.cv aGB (aGM x0 zh.1 aP aO aL aK aN aGs.rd aTv) ?_;rintro _ _ _ ⟨rfl,rfl,rfl⟩;refine vs 1 ?_;refine nx ajO ?_;refine vs 3 ?_;refine bu hM (λ aIj hM=>?_) (λ aIj hM=>?_)
 ·refine U.kn 190 aIj ?_;refine vs 22 ?_;obtain ⟨aj6,aZo,hM⟩:=aj hM;refine U.cv Lt (Lu  hG hK aZo) ?_;rintro _ a1N _ ⟨aWS,rfl,rfl⟩;refine vs 2 ?_;refine er ?_;obtain rfl:=ab hM;exact U.vd func10 (by kernel_rfl) (.tmp rfl .nil) (so sr) hk ⟨(((((((ZU.trans agN).trans ac5).trans ac6).trans TA).trans ahT).trans ahU).trans aWS),bI⟩
 refine U.kn 190 aIj ?_;refine vs 2 ?_;obtain ⟨Ek,aUZ,hM⟩:=aj hM;refine U.cv aGC (aGN zh.1 iu.1 aGs.rd agY.rd aUZ) ?_;rintro _ _ _ ⟨rfl,rfl,rfl⟩;refine vs 2 ?_;refine bu hM (λ ahs hM=>?_) (λ ahs hM=>?_)
 ·refine U.kn 195 ahs ?_;refine vs 5 ?_;refine bu hM (λ aUL hM=>?_) (λ aUL hM=>?_)
  ·refine U.kn 200 aUL ?_;refine vs 4 ?_;refine bu hM (λ aUM hM=>?_) (λ aUM hM=>?_)
   ·refine U.kn 204 aUM ?_;refine vs 8 ?_;obtain ⟨aj7,aZr,hM⟩:=aj hM;refine U.cv Lt (Lu  hG hK aZr) ?_;rintro _ a1S _ ⟨aWT,rfl,rfl⟩;refine vs 2 ?_;refine er ?_;obtain rfl:=ab hM;exact U.vd func10 (by kernel_rfl) (.tmp rfl .nil) (so sr) hk ⟨(((((((ZU.trans agN).trans ac5).trans ac6).trans TA).trans ahT).trans ahU).trans aWT),bI⟩
   refine U.kn 204 aUM ?_;refine vs 2 ?_;obtain ⟨HU,ajg,hM⟩:=aj hM;refine U.cv aGC (aGN zh.1 jb.1 aGs.rd ahV.rd ajg) ?_;rintro _ _ _ ⟨rfl,rfl,rfl⟩;refine vs 5 ?_;refine bu hM (λ L1 hM=>?_) (λ L1 hM=>?_)
   ·refine U.kn 212 L1 ?_;obtain ⟨aj8,aZs,hM⟩:=aj hM;refine U.cv Lt (Lu  hG hK aZs) ?_;rintro _ a1T _ ⟨aWU,rfl,rfl⟩;refine vs 2 ?_;refine er ?_;obtain rfl:=ab hM;exact U.vd func10 (by kernel_rfl) (.tmp rfl .nil) (so sr) hk ⟨(((((((ZU.trans agN).trans ac5).trans ac6).trans TA).trans ahT).trans ahU).trans aWU),bI⟩
   refine U.kn 212 L1 ?_;refine vs 3 ?_;refine er ?_;obtain rfl:=ab hM;exact U.vd func10 (by kernel_rfl) (.tmp rfl .nil) (so sr) hk ⟨((((((ZU.trans agN).trans ac5).trans ac6).trans TA).trans ahT).trans ahU),bI⟩
  refine U.kn 200 aUL ?_;refine vs 15 ?_;refine er ?_;obtain rfl:=ab hM;exact U.vd func10 (by kernel_rfl) (.tmp rfl .nil) (so sr) hk ⟨((((((ZU.trans agN).trans ac5).trans ac6).trans TA).trans ahT).trans ahU),bI⟩
 refine U.kn 195 ahs ?_;refine vs 20 ?_;refine er ?_;obtain rfl:=ab hM;exact U.vd func10 (by kernel_rfl) (.tmp rfl .nil) (so sr) hk ⟨((((((ZU.trans agN).trans ac5).trans ac6).trans TA).trans ahT).trans ahU),bI⟩
end
end Go.Proofs.YtihapemckcdicaaGreatDoor
