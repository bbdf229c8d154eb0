/- The row's own walk, as goroutine 0's own. Printed by strow.py. No conditions. -/
import Derived.Test.YtihapemckcdicaaGreatDoorQEStW12
import Derived.Test.YtihapemckcdicaaGreatDoorQELgE
namespace Go.Proofs.YtihapemckcdicaaGreatDoor
open Go.Lg Go.Proofs Tryz
set_option maxRecDepth 100000
set_option maxHeartbeats 4000000
section
variable {B:Base} {R:az} {H:an}
theorem aZM{PW:Value→World→Prop}(x0:ao)(x1:Int){aB aD aG aE aF:Value}(hG:iP R)(hK:tO (Da prog B PW))(aP:ae bE 2 R aB x0.Rows)(aO:ae bN 2 R aD x0.aM)(aL:ae bD 2 R aG x0.ax)(aK:ae bL 4 R aE x0.av)(aN:ae bB 3 R aF x0.ba){r:Bool}(hM:m12 x0 x1=some r):Mk prog B PW 12 #[.agg #[iv x0.Rest,aB,aD,aG,aE,aF],.int .u8 x1] R H (λ v R' H'=>aT R R'∧H=H'∧v = .bool r):=by
 unfold m12 at hM
 refine Mk.bn (args:=[.agg #[iv x0.Rest,aB,aD,aG,aE,aF],.int .u8 x1]) func12 rfl (n:=141) rfl rfl λ hk=>?_;refine sg aS ?_;refine bx λ aFr=>?_;refine vs 1 ?_;refine es ?_;refine sg bh ?_;refine lN [_,_,_,_,_,_] 0 6 bH z0 ?_;obtain ⟨xt,QV,hM⟩:=aj hM;refine U.cv an9 (aBf x0 aP aO aL aK aN QV) ?_;rintro _ _ _ ⟨rfl,rfl,rfl⟩;refine vs 1 ?_;refine er ?_;refine sc hM (λ QP hM=>?_) (λ QP hM=>?_)
 ·refine sg aS ?_;obtain ⟨Z8,aYb,hM⟩:=aj hM;refine U.cv Lt (Lu  hG hK aYb) ?_;rintro _ a1f _ ⟨aWC,rfl,rfl⟩;refine vs 1 ?_;refine er ?_;obtain rfl:=ab hM;exact U.vd func12 (by kernel_rfl) (.tmp rfl .nil) (so sr) hk ⟨aWC,bI⟩
 refine sp ?_;refine sg mh ?_;refine lN [_,_,_,_,_,_] 0 6 bH z0 ?_;obtain ⟨mi,ZD,hM⟩:=aj hM;refine U.cv ahL (ah1 x0 hG hK aP aO aL aK aN ZD) ?_;rintro _ a1g _ ⟨ag6,rfl,aRr,YZ,rfl⟩;replace aP:=aP.mono ag6;replace aO:=aO.mono ag6;replace aL:=aL.mono ag6;replace aK:=aK.mono ag6;replace aN:=aN.mono ag6;replace hG:=hG.mono ag6;refine vs 7 ?_;refine nx eJ ?_;refine lN [_,_,_,_,_,_] 0 6 bH z0 ?_;obtain ⟨Z9,aYc,hM⟩:=aj hM;refine U.cv EZ (F0 x0 hG hK aP aO aL aK aN aYc) ?_;rintro _ aTD _ ⟨agV,rfl,rfl⟩;replace aP:=aP.mono agV;replace aO:=aO.mono agV;replace aL:=aL.mono agV;replace aK:=aK.mono agV;replace aN:=aN.mono agV;replace hG:=hG.mono agV;replace YZ:=YZ.mono agV;refine vs 5 ?_;refine es ?_;refine sq ?_;refine U.ia hM (λ (ah9:Bool) R' H' st'=>aTD=R'∧H'=(aFr,.cells #[iv x0.Rest,aB,aD,aG,aE,aF] 28)::H∧aI st' [(1,.int .u8 x1),(2,.pointer (some ⟨aFr,0,none⟩)),(5,aRr),(6,.bool mi.2.1),(7,iv mi.2.2),(49,.bool ah9)])  ?_ ?_;rotate_right
 ·intro LV hM aTT;refine U.rg aIw ?_;refine vs 4 ?_;refine bu hM (λ aUb hM=>?_) (λ aUb hM=>?_)
  ·refine U.kn 36 aUb ?_;refine vs 13 ?_;refine er ?_;exact aTT _ (ab hM).symm _ _ _ ⟨rfl,rfl,ay na⟩
  refine U.kn 36 aUb ?_;refine vs 3 ?_;refine U.s rfl rfl (Ox.Zy rfl rfl rfl underlying4 rfl rfl (.put rfl) ?_);refine vs 2 ?_;refine bu hM (λ aUc hM=>?_) (λ aUc hM=>?_)
  ·refine U.kn 42 aUc ?_;refine vs 7 ?_;refine er ?_;exact aTT _ (ab hM).symm _ _ _ ⟨rfl,rfl,ay na⟩
  refine U.kn 42 aUc ?_;refine vs 2 ?_;refine ld 3 fI z0 ?_;refine ls aL underlying24 ?_;obtain ⟨ajX,aYe,hM⟩:=aj hM;refine U.cv aiw (ajp mi.1 (x0.ax.length:Int) YZ.rd aYe) ?_;rintro _ _ _ ⟨rfl,rfl,rfl⟩;refine vs 2 ?_;refine er ?_;exact aTT _ (ab hM).symm _ _ _ ⟨rfl,rfl,ay na⟩
 rintro ah9 a0O a0m a2x ⟨rfl,rfl,aXn⟩ hM;refine U.sub aXn ?_;refine sc hM (λ QQ hM=>?_) (λ QQ hM=>?_)
 ·refine sg aJ ?_;refine vs 1 ?_;refine er ?_;obtain rfl:=ab hM;exact U.vd func12 (by kernel_rfl) (.tmp rfl .nil) (so sr) hk ⟨(ag6.trans agV),bI⟩
 refine sp ?_;refine sq ?_;refine sq ?_;refine U.ia hM (λ (aia:Bool) R' H' st'=>aTD=R'∧H'=(aFr,.cells #[iv x0.Rest,aB,aD,aG,aE,aF] 28)::H∧aI st' [(1,.int .u8 x1),(2,.pointer (some ⟨aFr,0,none⟩)),(5,aRr),(7,iv mi.2.2),(55,.bool aia)])  ?_ ?_;rotate_right
 ·intro a3M hM aVw;refine U.rg gG ?_;refine vs 3 ?_;refine bu hM (λ aUd hM=>?_) (λ aUd hM=>?_)
  ·refine U.kn 52 aUd ?_;refine vs 3 ?_;refine er ?_;exact aVw _ (ab hM).symm _ _ _ ⟨rfl,rfl,ay fj⟩
  refine U.kn 52 aUd ?_;refine vs 3 ?_;refine er ?_;exact aVw _ (ab hM).symm _ _ _ ⟨rfl,rfl,ay fj⟩
 rintro aia a0R a0q a2B ⟨rfl,rfl,aXr⟩ hM;refine U.sub aXr ?_;refine sc hM (λ aXR hM=>?_) (λ aXR hM=>?_)
 ·refine sq ?_;refine U.ia hM (λ (xi:Bool) R' H' st'=>aT aTD R'∧H=H'∧aI st' [(4,.bool xi)])  ?_ ?_;rotate_right
  ·intro jb hM aH7;refine U.rg Qb ?_;refine vs 3 ?_;refine bu hM (λ aF6 hM=>?_) (λ aF6 hM=>?_)
   ·refine U.kn 58 aF6 ?_;refine vs 5 ?_;refine ls YZ underlying36 ?_;refine vs 3 ?_;refine bu hM (λ Qm hM=>?_) (λ Qm hM=>?_)
    ·refine U.kn 67 Qm ?_;obtain ⟨pD,QW,hM⟩:=aj hM;refine U.cv Lt (Lu  hG hK QW) ?_;rintro _ a1s _ ⟨aWJ,rfl,rfl⟩;refine vs 2 ?_;refine er ?_;exact U.drop (so sr) (aH7 _ (ab hM).symm _ _ _ ⟨aWJ,rfl,ay m9⟩)
    refine U.kn 67 Qm ?_;refine vs 3 ?_;refine er ?_;exact U.drop (so sr) (aH7 _ (ab hM).symm _ _ _ ⟨(rr),rfl,ay m9⟩)
   refine U.kn 58 aF6 ?_;refine vs 4 ?_;refine bu hM (λ ZX hM=>?_) (λ ZX hM=>?_)
   ·refine U.kn 62 ZX ?_;refine vs 1 ?_;refine ls YZ underlying36 ?_;refine vs 3 ?_;refine bu hM (λ ahi hM=>?_) (λ ahi hM=>?_)
    ·refine U.kn 67 ahi ?_;obtain ⟨Hn,aiW,hM⟩:=aj hM;refine U.cv Lt (Lu  hG hK aiW) ?_;rintro _ a1t _ ⟨aWK,rfl,rfl⟩;refine vs 2 ?_;refine er ?_;exact U.drop (so sr) (aH7 _ (ab hM).symm _ _ _ ⟨aWK,rfl,ay m9⟩)
    refine U.kn 67 ahi ?_;refine vs 3 ?_;refine er ?_;exact U.drop (so sr) (aH7 _ (ab hM).symm _ _ _ ⟨(rr),rfl,ay m9⟩)
   refine U.kn 62 ZX ?_;refine vs 8 ?_;refine er ?_;exact U.drop (so sr) (aH7 _ (ab hM).symm _ _ _ ⟨(rr),rfl,ay m9⟩)
  rintro xi aVZ aVT a0b ⟨aWx,rfl,aT7⟩ hM;refine U.sub aT7 ?_;obtain rfl:=ab hM;exact U.vd func12 (by kernel_rfl) (.tmp rfl .nil) sr hk ⟨((ag6.trans agV).trans aWx),bI⟩
 refine sp ?_;refine sq ?_;refine sg bh ?_;refine vs 1 ?_;refine ls YZ underlying36 ?_;refine vs 1 ?_;refine er ?_;refine sc hM (λ ahj hM=>?_) (λ ahj hM=>?_)
 ·refine sg aJ ?_;refine vs 1 ?_;refine er ?_;obtain rfl:=ab hM;exact U.vd func12 (by kernel_rfl) (.tmp rfl .nil) (so sr) hk ⟨(ag6.trans agV),bI⟩
 refine sp ?_;refine sq ?_;refine sg mh ?_;refine lN [_,_,_,_,_,_] 0 6 bH z0 ?_;refine vs 1 ?_;obtain ⟨nM,Qs,hM⟩:=aj hM;refine U.cv aGD (aGO x0 mi.1 aP aO aL aK aN YZ.rd Qs) ?_;rintro _ aHT _ ⟨Hz,rfl,a3a,a3b,a3c,a3d,a3e,aYL,aYM,aYN,aYO,aYP,rfl⟩;replace aP:=aP.mono Hz;replace aO:=aO.mono Hz;replace aL:=aL.mono Hz;replace aK:=aK.mono Hz;replace aN:=aN.mono Hz;replace hG:=hG.mono Hz;replace YZ:=YZ.mono Hz;obtain ⟨HQ,aiZ,hM⟩:=aj hM;refine U.cv aFu (aFI nM hG hK aYL aYM aYN aYO aYP aiZ) ?_;rintro _ aTG _ ⟨aiC,rfl,rfl⟩;replace aP:=aP.mono aiC;replace aO:=aO.mono aiC;replace aL:=aL.mono aiC;replace aK:=aK.mono aiC;replace aN:=aN.mono aiC;replace hG:=hG.mono aiC;replace YZ:=YZ.mono aiC;refine vs 5 ?_;refine es ?_;refine U.ia hM (λ (aie:Bool) R' H' st'=>aTG=R'∧H'=(aFr,.cells #[iv x0.Rest,aB,aD,aG,aE,aF] 28)::H∧aI st' [(1,.int .u8 x1),(2,.pointer (some ⟨aFr,0,none⟩)),(5,aRr),(85,.bool aie)])  ?_ ?_;rotate_right
 ·intro kS hM aVx;refine U.rg gG ?_;refine vs 3 ?_;refine bu hM (λ A9 hM=>?_) (λ A9 hM=>?_)
  ·refine U.kn 82 A9 ?_;refine vs 3 ?_;refine er ?_;exact aVx _ (ab hM).symm _ _ _ ⟨rfl,rfl,ay cz⟩
  refine U.kn 82 A9 ?_;refine vs 3 ?_;refine er ?_;exact aVx _ (ab hM).symm _ _ _ ⟨rfl,rfl,ay cz⟩
 rintro aie a0Y a0x a2I ⟨rfl,rfl,aXy⟩ hM;refine U.sub aXy ?_;refine sc hM (λ HB hM=>?_) (λ HB hM=>?_)
 ·refine sg aJ ?_;refine vs 1 ?_;refine er ?_;obtain rfl:=ab hM;exact U.vd func12 (by kernel_rfl) (.tmp rfl .nil) (so sr) hk ⟨(((ag6.trans agV).trans Hz).trans aiC),bI⟩
 refine sp ?_;refine sq ?_;refine sg aJ ?_;refine vs 1 ?_;refine er ?_;refine U.block ?_;refine U.fD hM (λ (tD:Int) R' H' st'=>aT aTG R'∧H'=(aFr,.cells #[iv x0.Rest,aB,aD,aG,aE,aF] 28)::H∧aI st' [(1,.int .u8 x1),(2,.pointer (some ⟨aFr,0,none⟩)),(5,aRr),(12,iv tD)]) (λ (Q7:Unit) R' H' st'=>aT aTG R'∧H'=(aFr,.cells #[iv x0.Rest,aB,aD,aG,aE,aF] 28)::H∧aI st' [(1,.int .u8 x1),(2,.pointer (some ⟨aFr,0,none⟩)),(5,aRr)]) 0 rfl ⟨rr,rfl,ay cz⟩ ?_ ?_;rotate_right
 ·rintro tD aG0 aHF aIG ⟨aF2,rfl,aiK⟩ Hw hM air aiz Zt;refine U.sub aiK ?_;replace aP:=aP.mono aF2;replace aO:=aO.mono aF2;replace aL:=aL.mono aF2;replace aK:=aK.mono aF2;replace aN:=aN.mono aF2;replace hG:=hG.mono aF2;replace YZ:=YZ.mono aF2;refine sq ?_;refine sq ?_;refine U.ia hM (λ (P4:Bool) R' H' st'=>aG0=R'∧H'=(aFr,.cells #[iv x0.Rest,aB,aD,aG,aE,aF] 28)::H∧aI st' [(1,.int .u8 x1),(2,.pointer (some ⟨aFr,0,none⟩)),(5,aRr),(12,iv tD),(94,.bool P4)])  ?_ ?_;rotate_right
  ·intro Hx hM aFW;refine U.rg mh ?_;refine vs 2 ?_;refine ls YZ underlying36 ?_;refine vs 2 ?_;refine bu hM (λ G5 hM=>?_) (λ G5 hM=>?_)
   ·refine U.kn 90 G5 ?_;refine vs 1 ?_;refine ls YZ underlying36 ?_;refine vs 2 ?_;refine er ?_;exact aFW _ (ab hM).symm _ _ _ ⟨rfl,rfl,ay fj⟩
   refine U.kn 90 G5 ?_;refine vs 4 ?_;refine er ?_;exact aFW _ (ab hM).symm _ _ _ ⟨rfl,rfl,ay fj⟩
  rintro P4 aV0 aVU a0c ⟨rfl,rfl,aT8⟩ hM;refine U.sub aT8 ?_;refine sc hM (λ aXW hM=>?_) (λ aXW hM=>?_)
  ·refine sp ?_;refine sq ?_;refine U.block ?_;refine sq ?_;refine U.dw qY mixed ?_;refine tN 0 [_,_,_,_,_,_] 0 6 bH z0 ?_;refine Any.vs 2 [1,2] rfl ?_;obtain ⟨hF,ai7,hM⟩:=aj hM;refine Any.cv 3 aG8 (aHj mi.1 tD YZ.rd ai7) ?_;rintro a3s aHV _ ⟨mM,rfl,_,aY9,rfl⟩;replace aP:=aP.mono mM;replace aO:=aO.mono mM;replace aL:=aL.mono mM;replace aK:=aK.mono mM;replace aN:=aN.mono mM;replace hG:=hG.mono mM;refine ⟨mM,ka,?_⟩;obtain ⟨xf,aUX,hM⟩:=aj hM;refine Any.cv 4 aGD (aGO x0 hF aP aO aL aK aN aY9.rd aUX) ?_;rintro _ aV7 _ ⟨YV,rfl,a3t,a3u,a3v,a3w,a3x,aZa,aZb,aZc,aZd,aZe,rfl⟩;replace hG:=hG.mono YV;refine ⟨YV,ka,?_⟩;obtain ⟨po,ahy,hM⟩:=aj hM;refine Any.cv 5 aFu (aFI xf hG hK aZa aZb aZc aZd aZe ahy) ?_;rintro _ aV8 _ ⟨Y6,rfl,rfl⟩;refine ⟨Y6,ka,?_⟩;refine Any.vs 5 [6,7,8,9,10] rfl ?_;refine Any.done ?_;refine sg bZ ?_;refine vs 3 ?_;refine bu hM (λ aIe hM=>?_) (λ aIe hM=>?_)
   ·refine U.kn 108 aIe ?_;refine vs 2 ?_;refine er ?_;refine U.cond_true rfl ?_;refine sg aJ ?_;refine vs 1 ?_;refine er ?_;replace hM:=Zt _ (ab hM).symm;obtain rfl:=ab hM;exact U.vd func12 (by kernel_rfl) (.tmp rfl .nil) (so sr) hk ⟨(((((((ag6.trans agV).trans Hz).trans aiC).trans aF2).trans mM).trans YV).trans Y6),bI⟩
   refine U.kn 108 aIe ?_;refine vs 2 ?_;refine er ?_;refine sc hM (λ ZY hM=>?_) (λ ZY hM=>?_)
   ·refine sg aJ ?_;refine vs 1 ?_;refine er ?_;replace hM:=Zt _ (ab hM).symm;obtain rfl:=ab hM;exact U.vd func12 (by kernel_rfl) (.tmp rfl .nil) (so sr) hk ⟨(((((((ag6.trans agV).trans Hz).trans aiC).trans aF2).trans mM).trans YV).trans Y6),bI⟩
   refine sp ?_;refine U.inBlock ?_;refine U.rg bh ?_;refine vs 3 ?_;refine er ?_;exact air _ (ab hM).symm _ _ _ ⟨(((aF2.trans mM).trans YV).trans Y6),rfl,ay cz⟩
  exact U.exit rfl (aiz _ (ab hM).symm _ _ _ ⟨aF2,rfl,ay dS⟩)
 rintro Q7 aHQ aHG aIH ⟨aFA,rfl,aiL⟩ hM;refine U.sub aiL ?_;replace aP:=aP.mono aFA;replace aO:=aO.mono aFA;replace aL:=aL.mono aFA;replace aK:=aK.mono aFA;replace aN:=aN.mono aFA;replace hG:=hG.mono aFA;replace YZ:=YZ.mono aFA;refine sg gG ?_;refine vs 2 ?_;refine ld 3 fI z0 ?_;refine ls aL underlying24 ?_;obtain ⟨QK,aZf,hM⟩:=aj hM;refine U.cv aHc (aHn x1 (x0.ax.length:Int)  aZf) ?_;rintro a3y a1J _ ⟨aFC,rfl,_,aIl,rfl⟩;replace aP:=aP.mono aFC;replace aO:=aO.mono aFC;replace aL:=aL.mono aFC;replace aK:=aK.mono aFC;replace aN:=aN.mono aFC;replace hG:=hG.mono aFC;replace YZ:=YZ.mono aFC;refine vs 1 ?_;refine es ?_;refine sg bh ?_;refine vs 1 ?_;refine ls aIl underlying36 ?_;refine vs 1 ?_;refine er ?_;refine sc hM (λ aXX hM=>?_) (λ aXX hM=>?_)
 ·refine sg aS ?_;obtain ⟨xu,ai9,hM⟩:=aj hM;refine U.cv Lt (Lu  hG hK ai9) ?_;rintro _ aHW _ ⟨jB,rfl,rfl⟩;refine vs 1 ?_;refine er ?_;obtain rfl:=ab hM;exact U.vd func12 (by kernel_rfl) (.tmp rfl .nil) (so sr) hk ⟨((((((ag6.trans agV).trans Hz).trans aiC).trans aFA).trans aFC).trans jB),bI⟩
 refine sp ?_;refine sg mh ?_;refine lN [_,_,_,_,_,_] 0 6 bH z0 ?_;refine vs 1 ?_;obtain ⟨xm,aja,hM⟩:=aj hM;refine U.cv aGD (aGO x0 QK aP aO aL aK aN aIl.rd aja) ?_;rintro _ aHX _ ⟨je,rfl,a3z,a3A,a3B,a3C,a3D,aZg,aZh,aZi,aZj,aZk,rfl⟩;replace hG:=hG.mono je;replace YZ:=YZ.mono je;replace aIl:=aIl.mono je;obtain ⟨qV,ahz,hM⟩:=aj hM;refine U.cv aFu (aFI xm hG hK aZg aZh aZi aZj aZk ahz) ?_;rintro _ aG1 _ ⟨iw,rfl,rfl⟩;replace hG:=hG.mono iw;replace YZ:=YZ.mono iw;replace aIl:=aIl.mono iw;refine vs 5 ?_;refine nx Qb ?_;refine vs 2 ?_;refine bu hM (λ ahp hM=>?_) (λ ahp hM=>?_)
 ·refine U.kn 128 ahp ?_;refine vs 3 ?_;refine bu hM (λ aUF hM=>?_) (λ aUF hM=>?_)
  ·refine U.kn 131 aUF ?_;refine vs 7 ?_;obtain ⟨pB,Qu,hM⟩:=aj hM;refine U.cv Lt (Lu  hG hK Qu) ?_;rintro _ aG2 _ ⟨hU,rfl,rfl⟩;refine vs 2 ?_;refine er ?_;obtain rfl:=ab hM;exact U.vd func12 (by kernel_rfl) (.tmp rfl .nil) (so sr) hk ⟨((((((((ag6.trans agV).trans Hz).trans aiC).trans aFA).trans aFC).trans je).trans iw).trans hU),bI⟩
  refine U.kn 131 aUF ?_;refine vs 2 ?_;obtain ⟨qT,ahA,hM⟩:=aj hM;refine U.cv aG9 (aHk QK mi.1 aIl.rd YZ.rd ahA) ?_;rintro _ _ _ ⟨rfl,rfl,rfl⟩;refine vs 4 ?_;refine bu hM (λ aIf hM=>?_) (λ aIf hM=>?_)
  ·refine U.kn 138 aIf ?_;obtain ⟨qU,ahB,hM⟩:=aj hM;refine U.cv Lt (Lu  hG hK ahB) ?_;rintro _ aG3 _ ⟨hZ,rfl,rfl⟩;refine vs 2 ?_;refine er ?_;obtain rfl:=ab hM;exact U.vd func12 (by kernel_rfl) (.tmp rfl .nil) (so sr) hk ⟨((((((((ag6.trans agV).trans Hz).trans aiC).trans aFA).trans aFC).trans je).trans iw).trans hZ),bI⟩
  refine U.kn 138 aIf ?_;refine vs 3 ?_;refine er ?_;obtain rfl:=ab hM;exact U.vd func12 (by kernel_rfl) (.tmp rfl .nil) (so sr) hk ⟨(((((((ag6.trans agV).trans Hz).trans aiC).trans aFA).trans aFC).trans je).trans iw),bI⟩
 refine U.kn 128 ahp ?_;refine vs 13 ?_;refine er ?_;obtain rfl:=ab hM;exact U.vd func12 (by kernel_rfl) (.tmp rfl .nil) (so sr) hk ⟨(((((((ag6.trans agV).trans Hz).trans aiC).trans aFA).trans aFC).trans je).trans iw),bI⟩
end
end Go.Proofs.YtihapemckcdicaaGreatDoor
