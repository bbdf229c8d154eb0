/- x -/
import Derived.Test.YtabamagholjdcaaGreatDoorQHHuP13
import Derived.Test.YtabamagholjdcaaGreatDoorQHLgD
namespace Go.Proofs.YtabamagholjdcaaGreatDoor
open Go.Lg Go.Proofs Tryz
set_option maxRecDepth 100000
set_option maxHeartbeats 4000000
section
variable {B:Base} {main:Bool} {ag:Jd prog B main} {R:aE} {H:an}
theorem baO{PW:Value→World→Prop}(x0:aj)(x1:(List Int)){aA ay aC v1:Value}(hG:fN R)(hK:zb (K2 prog B PW))(aw:au bn 5 R aA x0.ao)(az:au CZ 1 R ay x0.Out)(_:au bh 2 R aC x0.aT)(h1:bH (CI .u16) 1 R H v1 x1){r:Bool}(hM:m8 x0 x1=some r):Nk prog B PW 8 #[.agg #[iv x0.aB,iv x0.aa.ai,iv x0.aa.ak,aA,ay,aC],v1] R H (λ v R' H'=>aN R R'∧H=H'∧v = .bool r):=by
 unfold m8 at hM
 refine Nk.aY (args:=[.agg #[iv x0.aB,iv x0.aa.ai,iv x0.aa.ak,aA,ay,aC],v1]) func8 rfl (n:=81) rfl rfl λ hk=>?_;refine sg aP ?_;refine bx λ b52=>?_;refine vs 1 ?_;refine nx bk ?_;refine vs 1 ?_;refine gC (#[_,_,_,_,_,_]) aS .here ?_;refine vs 1 ?_;refine gC (#[_,_,_,_,_,_]) dZ .here ?_;refine es ?_;refine sg aQ ?_;refine lN [_,_,_,_,_,_] 0 6 aW z0 ?_;obtain ⟨j9,Bf,hM⟩:=af hM;refine At.cv aNs (aNC (⟨9999,⟨x0.aa.ai,x0.aa.ak⟩,x0.ao,x0.Out,[]⟩:aj) aw az au.nil Bf) ?_;rintro _ _ _ ⟨rfl,rfl,rfl⟩;refine vs 1 ?_;refine er ?_;refine sc hM (λ Bb hM=>?_) (λ Bb hM=>?_)
 ·refine sg aP ?_;obtain ⟨gD,qY,hM⟩:=af hM;refine At.cv abw (abz  hG hK qY) ?_;rintro _ Mu _ ⟨cB,rfl,rfl⟩;refine vs 1 ?_;refine er ?_;obtain rfl:=ad hM;exact At.yJ func8 (by kernel_rfl) (.tmp rfl .nil) (so sr) hk ⟨cB,bB⟩
 refine sp ?_;refine sg fy ?_;refine lN [_,_,_,_,_,_] 0 6 aW z0 ?_;obtain ⟨kg,RV,hM⟩:=af hM;refine At.cv ajM (aj0 (⟨9999,⟨x0.aa.ai,x0.aa.ak⟩,x0.ao,x0.Out,[]⟩:aj) hG hK aw az au.nil RV) ?_;rintro _ aOl _ ⟨uv,rfl,bby,aFI,rfl⟩;replace aw:=aw.mono uv;replace az:=az.mono uv;replace h1:=h1.le uv;replace hG:=hG.mono uv;refine vs 7 ?_;refine es ?_;refine sq ?_;refine At.fM hM (λ (yx:Bool) R' H' ab=>aOl=R'∧H'=(b52,.cells #[iv 9999,iv x0.aa.ai,iv x0.aa.ak,aA,ay,aI] 28)::H∧aH ab [(1,v1),(2,.pointer (some ⟨b52,0,none⟩)),(5,bby),(6,iv kg.2.1),(37,.bool yx)])  ?_ ?_;rotate_right
 ·intro lB hM LX;refine At.rg E2 ?_;refine vs 3 ?_;refine bj hM (λ Ri hM=>?_) (λ Ri hM=>?_)
  ·refine At.kn 27 Ri ?_;refine vs 10 ?_;refine er ?_;exact LX _ (ad hM).symm _ _ _ ⟨rfl,rfl,av b8⟩
  refine At.kn 27 Ri ?_;refine lN [_,_,_,_,_,_] 0 6 aW z0 ?_;refine vs 1 ?_;obtain ⟨kh,wq,hM⟩:=af hM;refine At.cv aOR (aPo (⟨9999,⟨x0.aa.ai,x0.aa.ak⟩,x0.ao,x0.Out,[]⟩:aj) kg.1 aw az au.nil aFI.rd wq) ?_;rintro _ _ _ ⟨rfl,rfl,rfl⟩;refine vs 3 ?_;refine bj hM (λ ajt hM=>?_) (λ ajt hM=>?_)
  ·refine At.kn 33 ajt ?_;refine vs 4 ?_;refine er ?_;exact LX _ (ad hM).symm _ _ _ ⟨rfl,rfl,av b8⟩
  refine At.kn 33 ajt ?_;refine vs 1 ?_;obtain ⟨gP,wu,hM⟩:=af hM;refine At.cv sa (sb kg.2.1 0 9999  wu) ?_;rintro _ _ _ ⟨rfl,rfl,rfl⟩;refine vs 2 ?_;refine er ?_;exact LX _ (ad hM).symm _ _ _ ⟨rfl,rfl,av b8⟩
 rintro yx alh ale alL ⟨rfl,rfl,RL⟩ hM;refine At.sub RL ?_;refine sc hM (λ akz hM=>?_) (λ akz hM=>?_)
 ·refine sg aL ?_;refine vs 1 ?_;refine er ?_;obtain rfl:=ad hM;exact At.yJ func8 (by kernel_rfl) (.tmp rfl .nil) (so sr) hk ⟨uv,bB⟩
 refine sp ?_;refine sg dK ?_;refine lN [_,_,_,_,_,_] 0 6 aW z0 ?_;refine vs 1 ?_;obtain ⟨e9,wv,hM⟩:=af hM;refine At.cv aOp (aOx (⟨9999,⟨x0.aa.ai,x0.aa.ak⟩,x0.ao,x0.Out,[]⟩:aj) kg.1 hG aw az au.nil aFI.rd wv) ?_;rintro _ aOM _ ⟨HE,rfl,rfl⟩;replace aw:=aw.mono HE;replace az:=az.mono HE;replace h1:=h1.le HE;replace hG:=hG.mono HE;replace aFI:=aFI.mono HE;refine vs 5 ?_;refine nx bk ?_;refine lN [_,_,_,_,_,_] 0 6 aW z0 ?_;refine vs 1 ?_;obtain ⟨eO,mW,hM⟩:=af hM;refine At.cv akm (ak2 (⟨9999,⟨x0.aa.ai,x0.aa.ak⟩,x0.ao,x0.Out,[]⟩:aj) x1 aw az au.nil (h1.sub (su (so sr))) mW) ?_;rintro alN ali _ ⟨iW,rfl,_,agj,rfl⟩;replace aw:=aw.mono iW;replace az:=az.mono iW;replace h1:=h1.le iW;replace hG:=hG.mono iW;replace aFI:=aFI.mono iW;refine vs 1 ?_;refine nx dK ?_;refine lN [_,_,_,_,_,_] 0 6 aW z0 ?_;refine vs 1 ?_;obtain ⟨fA,pO,hM⟩:=af hM;refine At.cv aOp (aOx (⟨9999,⟨x0.aa.ai,x0.aa.ak⟩,x0.ao,x0.Out,[]⟩:aj) eO hG aw az au.nil agj.rd pO) ?_;rintro _ alj _ ⟨yN,rfl,rfl⟩;replace hG:=hG.mono yN;replace aFI:=aFI.mono yN;replace agj:=agj.mono yN;refine vs 5 ?_;refine nx aPI ?_;refine vs 2 ?_;refine bj hM (λ AY hM=>?_) (λ AY hM=>?_)
 ·refine At.kn 54 AY ?_;refine vs 3 ?_;refine bj hM (λ r5 hM=>?_) (λ r5 hM=>?_)
  ·refine At.kn 57 r5 ?_;refine vs 5 ?_;refine bj hM (λ Rj hM=>?_) (λ Rj hM=>?_)
   ·refine At.kn 62 Rj ?_;refine vs 4 ?_;refine bj hM (λ aju hM=>?_) (λ aju hM=>?_)
    ·refine At.kn 66 aju ?_;refine vs 12 ?_;obtain ⟨BA,akR,hM⟩:=af hM;refine At.cv abw (abz  hG hK akR) ?_;rintro _ bct _ ⟨a9e,rfl,rfl⟩;refine vs 2 ?_;refine er ?_;obtain rfl:=ad hM;exact At.yJ func8 (by kernel_rfl) (.tmp rfl .nil) (so sr) hk ⟨((((uv.trans HE).trans iW).trans yN).trans a9e),bB⟩
    refine At.kn 66 aju ?_;refine vs 4 ?_;refine bj hM (λ a6z hM=>?_) (λ a6z hM=>?_)
    ·refine At.kn 70 a6z ?_;refine vs 2 ?_;obtain ⟨Ig,akS,hM⟩:=af hM;refine At.cv ach (acr eO kg.1 agj.rd aFI.rd akS) ?_;rintro _ _ _ ⟨rfl,rfl,rfl⟩;refine vs 5 ?_;refine bj hM (λ Rk hM=>?_) (λ Rk hM=>?_)
     ·refine At.kn 78 Rk ?_;obtain ⟨oO,akT,hM⟩:=af hM;refine At.cv abw (abz  hG hK akT) ?_;rintro _ bcu _ ⟨a9f,rfl,rfl⟩;refine vs 2 ?_;refine er ?_;obtain rfl:=ad hM;exact At.yJ func8 (by kernel_rfl) (.tmp rfl .nil) (so sr) hk ⟨((((uv.trans HE).trans iW).trans yN).trans a9f),bB⟩
     refine At.kn 78 Rk ?_;refine vs 3 ?_;refine er ?_;obtain rfl:=ad hM;exact At.yJ func8 (by kernel_rfl) (.tmp rfl .nil) (so sr) hk ⟨(((uv.trans HE).trans iW).trans yN),bB⟩
    refine At.kn 70 a6z ?_;refine vs 11 ?_;refine er ?_;obtain rfl:=ad hM;exact At.yJ func8 (by kernel_rfl) (.tmp rfl .nil) (so sr) hk ⟨(((uv.trans HE).trans iW).trans yN),bB⟩
   refine At.kn 62 Rj ?_;refine vs 19 ?_;refine er ?_;obtain rfl:=ad hM;exact At.yJ func8 (by kernel_rfl) (.tmp rfl .nil) (so sr) hk ⟨(((uv.trans HE).trans iW).trans yN),bB⟩
  refine At.kn 57 r5 ?_;refine vs 24 ?_;refine er ?_;obtain rfl:=ad hM;exact At.yJ func8 (by kernel_rfl) (.tmp rfl .nil) (so sr) hk ⟨(((uv.trans HE).trans iW).trans yN),bB⟩
 refine At.kn 54 AY ?_;refine vs 27 ?_;refine er ?_;obtain rfl:=ad hM;exact At.yJ func8 (by kernel_rfl) (.tmp rfl .nil) (so sr) hk ⟨(((uv.trans HE).trans iW).trans yN),bB⟩
end
end Go.Proofs.YtabamagholjdcaaGreatDoor
