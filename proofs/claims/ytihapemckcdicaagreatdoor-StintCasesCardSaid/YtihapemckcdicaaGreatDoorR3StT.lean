/- The row's own walk, as goroutine 0's own. Printed by strow.py. No conditions. -/
import Derived.Test.YtihapemckcdicaaGreatDoorQWStW13
import Derived.Test.YtihapemckcdicaaGreatDoorQWLgE
namespace Go.Proofs.YtihapemckcdicaaGreatDoor
open Go.Lg Go.Proofs Tryz
set_option maxRecDepth 100000
set_option maxHeartbeats 4000000
section
variable {B:Base} {R:az} {H:ah}
theorem aNp{PW:Value→World→Prop}(x0:an)(x1:Int)(x2:Int)(x3:Int)(x4:(List (List Int))){aD aG aF aE aI v4:Value}(hG:jQ R)(hK:yX (Fu prog B PW))(aO:aa cc 2 R aD x0.Rows)(aL:aa cj 2 R aG x0.aQ)(aK:aa cb 2 R aF x0.aB)(aJ:aa cp 4 R aE x0.aA)(aN:aa bV 3 R aI x0.bh)(h4:aa (fi CZ 1) 1 R v4 x4){r:Bool}(hM:m3 x0 x1 x2 x3 x4=some r):Pe prog B PW 3 #[.agg #[iv x0.Rest,aD,aG,aF,aE,aI],iv x1,iv x2,iv x3,v4] R H (λ v R' H'=>aR R R'∧H=H'∧v = .bool r):=by
 unfold m3 at hM
 refine Pe.oZ (args:=[.agg #[iv x0.Rest,aD,aG,aF,aE,aI],iv x1,iv x2,iv x3,v4]) func3 rfl (n:=138) rfl rfl λ hk=>?_;refine sg aP (bx λ G0=>?_);refine vs 1 (es (sq ?_));refine At.gn hM (λ (SO:Bool) R' H' st'=>R=R'∧H'=(G0,.cells #[iv x0.Rest,aD,aG,aF,aE,aI] 28)::H∧ay st' [(1,iv x1),(2,iv x2),(3,iv x3),(4,v4),(5,pT G0),(28,.bool SO)])  ?_ ?_;rotate_right
 ·intro tx hM ahh;refine At.rg fD (lN [_,_,_,_,_,_] 0 6 b9 z0 ?_);have ⟨rQ,MT,hM⟩:=ag hM;refine At.cv ar8 (aMi x0 aO aL aK aJ aN MT) ?_;rintro _ _ _ ⟨rfl,rfl,rfl⟩;refine vs 1 ?_;refine bT hM (λ aaf hM=>?_) (λ aaf hM=>?_)
  ·refine At.kn 25 aaf (vs 3 (er ?_));exact ahh _ (ao hM) _ _ _ ⟨rfl,rfl,aj fB⟩
  refine At.kn 25 aaf (vs 1 ?_);have ⟨yV,aa9,hM⟩:=ag hM;refine At.cv asb (aMx x4 h4.rd aa9) ?_;rintro _ _ _ ⟨rfl,rfl,rfl⟩;refine vs 1 (er ?_);exact ahh _ (ao hM) _ _ _ ⟨rfl,rfl,aj fB⟩
 rintro SO aWx aTX a75 ⟨rfl,rfl,aDQ⟩ hM;refine At.sub aDQ (sc hM ?_ ?_)<;>intro aEI hM
 ·refine sg aP ?_;have ⟨x82,aIS,hM⟩:=ag hM;refine At.cv agx (ajL  hG hK aIS) ?_;rintro _ aYb _ ⟨avE,rfl,rfl⟩;refine vs 1 (er ?_);cases av hM;exact At.I2 func3 (by kernel_rfl) (.tmp rfl .nil) (so sr) hk ⟨avE,cq⟩
 refine sp (sg eW (lN [_,_,_,_,_,_] 0 6 b9 z0 ?_));have ⟨x83,aIT,hM⟩:=ag hM;refine At.cv agy (ajO x0 hG aO aL aK aJ aN aIT) ?_;rintro _ aYc _ ⟨D3,rfl,rfl⟩;have ⟨aO,aL,aK,aJ,aN,h4⟩:=iL D3 aO aL aK aJ aN h4;replace hG:=hG.mono D3;refine vs 5 ?_;refine nx eW (lN [_,_,_,_,_,_] 0 6 b9 z0 ?_);have ⟨Ul,aIW,hM⟩:=ag hM;refine At.cv ast (aMK x0 aO aL aK aJ aN aIW) ?_;rintro _ aYd _ ⟨D4,rfl,rfl⟩;have ⟨aO,aL,aK,aJ,aN,h4⟩:=iL D4 aO aL aK aJ aN h4;replace hG:=hG.mono D4;refine vs 5 ?_;refine nx fQ (lN [_,_,_,_,_,_] 0 6 b9 z0 ?_);refine vs 1 ?_;have ⟨Di,abe,hM⟩:=ag hM;refine At.cv agB (ajP x0 x1 hG aO aL aK aJ aN abe) ?_;rintro _ aYe _ ⟨D5,rfl,a9K,abf,rfl⟩;have ⟨aO,aL,aK,aJ,aN,h4⟩:=iL D5 aO aL aK aJ aN h4;replace hG:=hG.mono D5;refine vs 5 ?_;refine nx fQ (lN [_,_,_,_,_,_] 0 6 b9 z0 ?_);refine vs 1 ?_;have ⟨Gt,abg,hM⟩:=ag hM;refine At.cv asu (aMW x0 x1 aO aL aK aJ aN abg) ?_;rintro _ aoT _ ⟨BH,rfl,a9L,aI0,rfl⟩;have ⟨aO,aL,aK,aJ,aN,h4⟩:=iL BH aO aL aK aJ aN h4;replace hG:=hG.mono BH;replace abf:=abf.mono BH;refine vs 5 (es (sq ?_));refine At.gn hM (λ (SU:Bool) R' H' st'=>aoT=R'∧H'=(G0,.cells #[iv x0.Rest,aD,aG,aF,aE,aI] 28)::H∧ay st' [(1,iv x1),(2,iv x2),(3,iv x3),(4,v4),(5,pT G0),(70,.bool SU)])  ?_ ?_;rotate_right
 ·intro x87 hM P9;refine At.rg ak6 (vs 4 ?_);refine bT hM (λ Rk hM=>?_) (λ Rk hM=>?_)
  ·refine At.kn 55 Rk (vs 15 (er ?_));exact P9 _ (ao hM) _ _ _ ⟨rfl,rfl,aj fB⟩
  refine At.kn 55 Rk (vs 2 ?_);have ⟨JK,abi,hM⟩:=ag hM;refine At.cv Wf (abW Di.1 Gt.1 abf.rd aI0.rd abi) ?_;rintro _ _ _ ⟨rfl,rfl,rfl⟩;refine vs 3 ?_;refine bT hM (λ Mj hM=>?_) (λ Mj hM=>?_)
  ·refine At.kn 61 Mj (vs 9 (er ?_));exact P9 _ (ao hM) _ _ _ ⟨rfl,rfl,aj fB⟩
  refine At.kn 61 Mj (vs 5 ?_);refine bT hM (λ HI hM=>?_) (λ HI hM=>?_)
  ·refine At.kn 66 HI (vs 4 (er ?_));exact P9 _ (ao hM) _ _ _ ⟨rfl,rfl,aj fB⟩
  refine At.kn 66 HI (vs 4 (er ?_));exact P9 _ (ao hM) _ _ _ ⟨rfl,rfl,aj fB⟩
 rintro SU aWL aUb a8r ⟨rfl,rfl,aEc⟩ hM;refine At.sub aEc (sc hM ?_ ?_)<;>intro aiz hM
 ·refine sg aC (vs 1 (er ?_));cases av hM;exact At.I2 func3 (by kernel_rfl) (.tmp rfl .nil) (so sr) hk ⟨(((D3.trans D4).trans D5).trans BH),cq⟩
 refine sp (sg lj (lN [_,_,_,_,_,_] 0 6 b9 z0 ?_));refine vs 1 ?_;have ⟨Bc,abk,hM⟩:=ag hM;refine At.cv agC (ajQ x0 x1 hG aO aL aK aJ aN abk) ?_;rintro _ aYg _ ⟨Ht,rfl,rfl⟩;have ⟨aO,aL,aK,aJ,aN,h4⟩:=iL Ht aO aL aK aJ aN h4;replace hG:=hG.mono Ht;refine vs 3 ?_;refine cZ (#[iv 0,iv 0]) Bd λ po=>?_;refine eA (#[_,_]) jR .here ?_;refine vs 1 ?_;refine nx lj (lN [_,_,_,_,_,_] 0 6 b9 z1 ?_);refine vs 1 ?_;have ⟨Om,aFr,hM⟩:=ag hM;refine At.cv asJ (aNe x0 x1 aO aL aK aJ aN aFr) ?_;rintro _ aXn _ ⟨Hn,rfl,rfl⟩;have ⟨aO,aL,aK,aJ,aN,h4⟩:=iL Hn aO aL aK aJ aN h4;replace hG:=hG.mono Hn;refine vs 3 ?_;refine cZ (#[iv 0,iv 0]) Bd λ aYj=>?_;refine eA (#[_,_]) jR .here ?_;refine vs 1 ?_;refine nx lj (lN [_,_,_,_,_,_] 0 6 b9 z2 ?_);refine vs 2 ?_;have ⟨uV,Ex,hM⟩:=ag hM;refine At.cv PZ (R6 x0 x2 x3 hG aO aL aK aJ aN Ex) ?_;rintro _ aXo _ ⟨Ho,rfl,rfl⟩;have ⟨aO,aL,aK,aJ,aN,h4⟩:=iL Ho aO aL aK aJ aN h4;replace hG:=hG.mono Ho;refine vs 5 ?_;refine nx lj (lN [_,_,_,_,_,_] 0 6 b9 z2 ?_);refine vs 2 ?_;have ⟨Dd,aak,hM⟩:=ag hM;refine At.cv asK (aNh x0 x2 x3 aO aL aK aJ aN aak) ?_;rintro _ aoO _ ⟨Hp,rfl,rfl⟩;have ⟨aO,aL,aK,aJ,aN,h4⟩:=iL Hp aO aL aK aJ aN h4;replace hG:=hG.mono Hp;refine vs 5 (es (sq ?_));refine At.gn hM (λ (Ae:Bool) R' H' st'=>aoO=R'∧H'=(G0,.cells #[iv x0.Rest,aD,aG,aF,aE,aI] 28)::H∧ay st' [(4,v4),(5,pT G0),(114,.bool Ae)])  ?_ ?_;rotate_right
 ·intro F7 hM DR;refine At.rg acD (lN [_,_] 0 2 jR z1 ?_);refine lN [_,_] 0 2 jR z0 ?_;refine At.s rfl rfl (Ox.G2 rfl rfl rfl ahB (agP Bc.1 Om.1) rfl rfl (.put rfl) ?_);refine vs 1 ?_;refine bT hM (λ BW hM=>?_) (λ BW hM=>?_)
  ·refine At.kn 100 BW (vs 14 (er ?_));exact At.bU (so (so sr)) (DR _ (ao hM) _ _ _ ⟨rfl,rfl,aj dN⟩)
  refine At.kn 100 BW (vs 5 ?_);refine bT hM (λ Q1 hM=>?_) (λ Q1 hM=>?_)
  ·refine At.kn 105 Q1 (vs 9 (er ?_));exact At.bU (so (so sr)) (DR _ (ao hM) _ _ _ ⟨rfl,rfl,aj dN⟩)
  refine At.kn 105 Q1 (vs 5 ?_);refine bT hM (λ Zi hM=>?_) (λ Zi hM=>?_)
  ·refine At.kn 110 Zi (vs 4 (er ?_));exact At.bU (so (so sr)) (DR _ (ao hM) _ _ _ ⟨rfl,rfl,aj dN⟩)
  refine At.kn 110 Zi (vs 4 (er ?_));exact At.bU (so (so sr)) (DR _ (ao hM) _ _ _ ⟨rfl,rfl,aj dN⟩)
 rintro Ae aow anA aQe ⟨rfl,rfl,Y1⟩ hM;refine At.sub Y1 (sc hM ?_ ?_)<;>intro aEt hM
 ·refine sg aC (vs 1 (er ?_));cases av hM;exact At.I2 func3 (by kernel_rfl) (.tmp rfl .nil) (so sr) hk ⟨(((((((D3.trans D4).trans D5).trans BH).trans Ht).trans Hn).trans Ho).trans Hp),cq⟩
 refine sp (sg fQ (lN [_,_,_,_,_,_] 0 6 b9 z0 ?_));refine vs 1 ?_;have ⟨yK,Mt,hM⟩:=ag hM;refine At.cv Wg (abX x0 x4 hG aO aL aK aJ aN h4 Mt) ?_;rintro _ aXp _ ⟨Ln,rfl,rfl⟩;have ⟨aO,aL,aK,aJ,aN,h4⟩:=iL Ln aO aL aK aJ aN h4;replace hG:=hG.mono Ln;refine vs 5 ?_;refine nx fQ (lN [_,_,_,_,_,_] 0 6 b9 z0 ?_);refine vs 1 ?_;have ⟨qQ,zB,hM⟩:=ag hM;refine At.cv asL (aNl x0 x4 aO aL aK aJ aN h4.rd zB) ?_;rintro _ aXq _ ⟨Qs,rfl,rfl⟩;replace hG:=hG.mono Qs;refine vs 5 ?_;refine nx wG (vs 4 ?_);refine bT hM (λ sC hM=>?_) (λ sC hM=>?_)
 ·refine At.kn 130 sC (vs 5 ?_);refine bT hM (λ Zj hM=>?_) (λ Zj hM=>?_)
  ·refine At.kn 135 Zj ?_;have ⟨Oo,aam,hM⟩:=ag hM;refine At.cv agx (ajL  hG hK aam) ?_;rintro _ aXr _ ⟨avA,rfl,rfl⟩;refine vs 2 (er ?_);cases av hM;exact At.I2 func3 (by kernel_rfl) (.tmp rfl .nil) (so sr) hk ⟨((((((((((D3.trans D4).trans D5).trans BH).trans Ht).trans Hn).trans Ho).trans Hp).trans Ln).trans Qs).trans avA),cq⟩
  refine At.kn 135 Zj (vs 3 (er ?_));cases av hM;exact At.I2 func3 (by kernel_rfl) (.tmp rfl .nil) (so sr) hk ⟨(((((((((D3.trans D4).trans D5).trans BH).trans Ht).trans Hn).trans Ho).trans Hp).trans Ln).trans Qs),cq⟩
 refine At.kn 130 sC (vs 8 (er ?_));cases av hM;exact At.I2 func3 (by kernel_rfl) (.tmp rfl .nil) (so sr) hk ⟨(((((((((D3.trans D4).trans D5).trans BH).trans Ht).trans Hn).trans Ho).trans Hp).trans Ln).trans Qs),cq⟩
end
end Go.Proofs.YtihapemckcdicaaGreatDoor
