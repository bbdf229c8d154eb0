/- The row's own walk, as goroutine 0's own. Printed by strow.py. No conditions. -/
import Derived.Test.YtihapemckcdicaaGreatDoorQHStW12
import Derived.Test.YtihapemckcdicaaGreatDoorQHLgE
namespace Go.Proofs.YtihapemckcdicaaGreatDoor
open Go.Lg Go.Proofs Tryz
set_option maxRecDepth 100000
set_option maxHeartbeats 4000000
section
variable {B:Base} {R:az} {H:ah}
theorem aGo{PW:Value→World→Prop}(x0:aj){aB aF aE aC aH:Value}(hG:jE R)(hK:yn (Ev prog B PW))(aM:aa bS 2 R aB x0.Rows)(aK:aa bU 2 R aF x0.aR)(aD:aa bL 2 R aE x0.an)(aG:aa bV 4 R aC x0.ao)(aL:aa bI 3 R aH x0.bd){r:Bool}(hM:m4 x0=some r):NJ prog B PW 4 #[.agg #[iv x0.Rest,aB,aF,aE,aC,aH]] R H (λ v R' H'=>aO R R'∧H=H'∧v = .bool r):=by
 unfold m4 at hM
 refine NJ.oC (args:=[.agg #[iv x0.Rest,aB,aF,aE,aC,aH]]) func4 rfl (n:=147) rfl rfl λ hk=>?_;refine sg aP (bx λ yz=>?_);refine vs 1 (es ?_);refine sg aP (lN [_,_,_,_,_,_] 0 6 bN z0 ?_);have ⟨uB,Ln,hM⟩:=ag hM;refine U.cv apC (aFz x0 aM aK aD aG aL Ln) ?_;rintro _ _ _ ⟨rfl,rfl,rfl⟩;refine er (sc hM ?_ ?_)<;>intro aTM hM
 ·refine sg aP ?_;have ⟨Cc,ZF,hM⟩:=ag hM;refine U.cv aeQ (ahC  hG hK ZF) ?_;rintro _ amy _ ⟨JO,rfl,rfl⟩;refine vs 1 (er ?_);cases aA hM;exact U.zF func4 (by kernel_rfl) (.tmp rfl .nil) (so sr) hk ⟨JO,b9⟩
 refine sp (sg dH (lN [_,_,_,_,_,_] 0 6 bN z0 ?_));have ⟨Il,ZG,hM⟩:=ag hM;refine U.cv UP (aaz x0 hG hK aM aK aD aG aL ZG) ?_;rintro _ aQt _ ⟨xb,rfl,rfl⟩;have ⟨aM,aK,aD,aG,aL⟩:=dm xb aM aK aD aG aL;replace hG:=hG.mono xb;refine vs 5 ?_;refine nx dH (lN [_,_,_,_,_,_] 0 6 bN z0 ?_);have ⟨x79,aCE,hM⟩:=ag hM;refine U.cv ap4 (aGb x0 aM aK aD aG aL aCE) ?_;rintro _ aQu _ ⟨xc,rfl,rfl⟩;have ⟨aM,aK,aD,aG,aL⟩:=dm xc aM aK aD aG aL;replace hG:=hG.mono xc;refine vs 5 ?_;refine nx mc (lN [_,_,_,_,_,_] 0 6 bN z0 ?_);have ⟨Aq,ZH,hM⟩:=ag hM;refine U.cv aeT (ahE x0 hG hK aM aK aD aG aL ZH) ?_;rintro _ aQv _ ⟨xd,rfl,aYV,ZI,rfl⟩;have ⟨aM,aK,aD,aG,aL⟩:=dm xd aM aK aD aG aL;replace hG:=hG.mono xd;refine vs 7 ?_;refine nx mc (lN [_,_,_,_,_,_] 0 6 bN z0 ?_);have ⟨uC,Lo,hM⟩:=ag hM;refine U.cv ap5 (aGe x0 aM aK aD aG aL Lo) ?_;rintro _ acX _ ⟨qX,rfl,ake,Lq,rfl⟩;have ⟨aM,aK,aD,aG,aL⟩:=dm qX aM aK aD aG aL;replace hG:=hG.mono qX;replace ZI:=ZI.mono qX;refine vs 7 (es (sq ?_));refine U.jz hM (λ (EF:Bool) R' H' st'=>acX=R'∧H'=(yz,.cells #[iv x0.Rest,aB,aF,aE,aC,aH] 28)::H∧aI st' [(1,pT yz),(65,.bool EF)])  ?_ ?_;rotate_right
 ·intro Fi hM CP;refine U.rg aIB (vs 4 ?_);refine bQ hM (λ YC hM=>?_) (λ YC hM=>?_)
  ·refine U.kn 45 YC (vs 20 (er ?_));exact CP _ (ay hM) _ _ _ ⟨rfl,rfl,av dP⟩
  refine U.kn 45 YC (vs 2 ?_);have ⟨Ar,Gm,hM⟩:=ag hM;refine U.cv UQ (aaA Aq.1 uC.1 ZI.rd Lq.rd Gm) ?_;rintro _ _ _ ⟨rfl,rfl,rfl⟩;refine vs 3 ?_;refine bQ hM (λ Ds hM=>?_) (λ Ds hM=>?_)
  ·refine U.kn 51 Ds (vs 14 (er ?_));exact CP _ (ay hM) _ _ _ ⟨rfl,rfl,av dP⟩
  refine U.kn 51 Ds (vs 2 ?_);refine U.s rfl rfl (Ox.Je rfl rfl rfl underlying4 rfl rfl (.put rfl) ?_);refine vs 2 ?_;refine bQ hM (λ YD hM=>?_) (λ YD hM=>?_)
  ·refine U.kn 56 YD (vs 9 (er ?_));exact CP _ (ay hM) _ _ _ ⟨rfl,rfl,av dP⟩
  refine U.kn 56 YD (vs 5 ?_);refine bQ hM (λ YE hM=>?_) (λ YE hM=>?_)
  ·refine U.kn 61 YE (vs 4 (er ?_));exact CP _ (ay hM) _ _ _ ⟨rfl,rfl,av dP⟩
  refine U.kn 61 YE (vs 4 (er ?_));exact CP _ (ay hM) _ _ _ ⟨rfl,rfl,av dP⟩
 rintro EF amh alE aJB ⟨rfl,rfl,XD⟩ hM;refine U.sub XD (sc hM ?_ ?_)<;>intro ags hM
 ·refine sg aN (vs 1 (er ?_));cases aA hM;exact U.zF func4 (by kernel_rfl) (.tmp rfl .nil) (so sr) hk ⟨(((xb.trans xc).trans xd).trans qX),b9⟩
 refine sp (sg BO (lN [_,_,_,_,_,_] 0 6 bN z0 ?_));have ⟨sV,Gn,hM⟩:=ag hM;refine U.cv aeU (ahG x0 hG hK aM aK aD aG aL Gn) ?_;rintro _ aQw _ ⟨yI,rfl,aY2,ZM,rfl⟩;have ⟨aM,aK,aD,aG,aL⟩:=dm yI aM aK aD aG aL;replace hG:=hG.mono yI;refine vs 9 ?_;refine nx BO (lN [_,_,_,_,_,_] 0 6 bN z0 ?_);have ⟨gJ,vt,hM⟩:=ag hM;refine U.cv ap6 (aGh x0 aM aK aD aG aL vt) ?_;rintro _ NI _ ⟨qY,rfl,aY5,aC1,rfl⟩;have ⟨aM,aK,aD,aG,aL⟩:=dm qY aM aK aD aG aL;replace hG:=hG.mono qY;replace ZM:=ZM.mono qY;refine vs 9 (es (sq ?_));refine U.jz hM (λ (Rp:Bool) R' H' st'=>NI=R'∧H'=(yz,.cells #[iv x0.Rest,aB,aF,aE,aC,aH] 28)::H∧aI st' [(1,pT yz),(98,.bool Rp)])  ?_ ?_;rotate_right
 ·intro n7 hM OI;refine U.rg aiN (vs 4 ?_);refine bQ hM (λ Px hM=>?_) (λ Px hM=>?_)
  ·refine U.kn 83 Px (vs 15 (er ?_));exact OI _ (ay hM) _ _ _ ⟨rfl,rfl,av dP⟩
  refine U.kn 83 Px (vs 2 ?_);have ⟨akt,azH,hM⟩:=ag hM;refine U.cv UQ (aaA sV.1 gJ.1 ZM.rd aC1.rd azH) ?_;rintro _ _ _ ⟨rfl,rfl,rfl⟩;refine vs 3 ?_;refine bQ hM (λ XI hM=>?_) (λ XI hM=>?_)
  ·refine U.kn 89 XI (vs 9 (er ?_));exact OI _ (ay hM) _ _ _ ⟨rfl,rfl,av dP⟩
  refine U.kn 89 XI (vs 2 ?_);refine U.s rfl rfl (Ox.Je rfl rfl rfl underlying4 rfl rfl (.put rfl) ?_);refine vs 2 ?_;refine bQ hM (λ XJ hM=>?_) (λ XJ hM=>?_)
  ·refine U.kn 94 XJ (vs 4 (er ?_));exact OI _ (ay hM) _ _ _ ⟨rfl,rfl,av dP⟩
  refine U.kn 94 XJ (vs 4 (er ?_));exact OI _ (ay hM) _ _ _ ⟨rfl,rfl,av dP⟩
 rintro Rp aO1 aM7 aXs ⟨rfl,rfl,ay4⟩ hM;refine U.sub ay4 (sc hM ?_ ?_)<;>intro KE hM
 ·refine sg aN (vs 1 (er ?_));cases aA hM;exact U.zF func4 (by kernel_rfl) (.tmp rfl .nil) (so sr) hk ⟨(((((xb.trans xc).trans xd).trans qX).trans yI).trans qY),b9⟩
 refine sp (sg mc (lN [_,_,_,_,_,_] 0 6 bN z0 ?_));have ⟨nB,KR,hM⟩:=ag hM;refine U.cv aeV (ahH x0 hG hK aM aK aD aG aL KR) ?_;rintro _ aPF _ ⟨AY,rfl,aXE,Du,rfl⟩;have ⟨aM,aK,aD,aG,aL⟩:=dm AY aM aK aD aG aL;replace hG:=hG.mono AY;refine vs 7 ?_;refine nx mc (lN [_,_,_,_,_,_] 0 6 bN z0 ?_);have ⟨B3,YP,hM⟩:=ag hM;refine U.cv ap7 (aGk x0 aM aK aD aG aL YP) ?_;rintro _ aPG _ ⟨yF,rfl,aXF,KS,rfl⟩;have ⟨aM,aK,aD,aG,aL⟩:=dm yF aM aK aD aG aL;replace hG:=hG.mono yF;replace Du:=Du.mono yF;refine vs 7 ?_;refine nx dH (lN [_,_,_,_,_,_] 0 6 bN z0 ?_);have ⟨B4,YQ,hM⟩:=ag hM;refine U.cv UR (aaB x0 hG hK aM aK aD aG aL YQ) ?_;rintro _ aPH _ ⟨yG,rfl,aXG,YR,rfl⟩;have ⟨aM,aK,aD,aG,aL⟩:=dm yG aM aK aD aG aL;replace hG:=hG.mono yG;have ⟨Du,KS⟩:=qn yG Du KS;refine vs 5 ?_;refine nx dH (lN [_,_,_,_,_,_] 0 6 bN z0 ?_);have ⟨Af,YS,hM⟩:=ag hM;refine U.cv ap8 (aGn x0 aM aK aD aG aL YS) ?_;rintro _ aPI _ ⟨AZ,rfl,aXH,azI,rfl⟩;replace hG:=hG.mono AZ;have ⟨Du,KS,YR⟩:=Eu AZ Du KS YR;refine vs 5 ?_;refine nx abe (vs 2 ?_);have ⟨ab4,azJ,hM⟩:=ag hM;refine U.cv Oz (QA nB.1 B3.1 Du.rd KS.rd azJ) ?_;rintro _ _ _ ⟨rfl,rfl,rfl⟩;refine vs 1 ?_;refine bQ hM (λ Py hM=>?_) (λ Py hM=>?_)
 ·refine U.kn 124 Py (vs 2 ?_);refine U.s rfl rfl (Ox.Je rfl rfl rfl underlying4 rfl rfl (.put rfl) ?_);refine vs 2 ?_;refine bQ hM (λ XK hM=>?_) (λ XK hM=>?_)
  ·refine U.kn 129 XK (vs 2 ?_);have ⟨H7,YU,hM⟩:=ag hM;refine U.cv Oz (QA B4.1 Af.1 YR.rd azI.rd YU) ?_;rintro _ _ _ ⟨rfl,rfl,rfl⟩;refine vs 2 ?_;refine bQ hM (λ Pz hM=>?_) (λ Pz hM=>?_)
   ·refine U.kn 134 Pz (vs 5 ?_);refine bQ hM (λ tx hM=>?_) (λ tx hM=>?_)
    ·refine U.kn 139 tx (vs 5 ?_);refine bQ hM (λ PA hM=>?_) (λ PA hM=>?_)
     ·refine U.kn 144 PA ?_;have ⟨H8,YW,hM⟩:=ag hM;refine U.cv aeQ (ahC  hG hK YW) ?_;rintro _ aPK _ ⟨as2,rfl,rfl⟩;refine vs 2 (er ?_);cases aA hM;exact U.zF func4 (by kernel_rfl) (.tmp rfl .nil) (so sr) hk ⟨((((((((((xb.trans xc).trans xd).trans qX).trans yI).trans qY).trans AY).trans yF).trans yG).trans AZ).trans as2),b9⟩
     refine U.kn 144 PA (vs 3 (er ?_));cases aA hM;exact U.zF func4 (by kernel_rfl) (.tmp rfl .nil) (so sr) hk ⟨(((((((((xb.trans xc).trans xd).trans qX).trans yI).trans qY).trans AY).trans yF).trans yG).trans AZ),b9⟩
    refine U.kn 139 tx (vs 8 (er ?_));cases aA hM;exact U.zF func4 (by kernel_rfl) (.tmp rfl .nil) (so sr) hk ⟨(((((((((xb.trans xc).trans xd).trans qX).trans yI).trans qY).trans AY).trans yF).trans yG).trans AZ),b9⟩
   refine U.kn 134 Pz (vs 13 (er ?_));cases aA hM;exact U.zF func4 (by kernel_rfl) (.tmp rfl .nil) (so sr) hk ⟨(((((((((xb.trans xc).trans xd).trans qX).trans yI).trans qY).trans AY).trans yF).trans yG).trans AZ),b9⟩
  refine U.kn 129 XK (vs 18 (er ?_));cases aA hM;exact U.zF func4 (by kernel_rfl) (.tmp rfl .nil) (so sr) hk ⟨(((((((((xb.trans xc).trans xd).trans qX).trans yI).trans qY).trans AY).trans yF).trans yG).trans AZ),b9⟩
 refine U.kn 124 Py (vs 23 (er ?_));cases aA hM;exact U.zF func4 (by kernel_rfl) (.tmp rfl .nil) (so sr) hk ⟨(((((((((xb.trans xc).trans xd).trans qX).trans yI).trans qY).trans AY).trans yF).trans yG).trans AZ),b9⟩
end
end Go.Proofs.YtihapemckcdicaaGreatDoor
