/- Walks, part 8: each function computes its model. -/
import Derived.Test.YtihapemckcdicaaGreatDoorQXLgC
import Derived.Test.YtihapemckcdicaaGreatDoorQXStW6
namespace Go.Proofs.YtihapemckcdicaaGreatDoor
open Go.Lg Go.Proofs Tryz
set_option maxRecDepth 100000
set_option maxHeartbeats 4000000
section
variable {B:Base} {main:Bool} {ab:Jd prog B main} {R:az} {H:ah}
theorem aIy(x0:aj){aG aJ aI aH aM:Value}(_:aa cq 2 R aG x0.Rows)(aL:aa cj 2 R aJ x0.aK)(aE:aa cb 2 R aI x0.ax)(_:aa cp 4 R aH x0.ay)(_:aa bU 3 R aM x0.bg){r:Int}(hM:MC x0=some r):ba ab 142 #[.agg #[iv x0.Rest,aG,aJ,aI,aH,aM]] R H (λ v R' H'=>R=R'∧H=H'∧v=iv r):=by
 unfold MC at hM
 refine bB func142 81 λ fr cs hk=>?_;refine sg aP (bx λ xf=>?_);refine vs 1 (es ?_);refine sg cR (vs 1 ?_);refine ld 2 mh z0 ?_;refine ls aL underlying23 ?_;have ⟨alp,aCW,hM⟩:=ag hM;refine At.cv oG (oU (x0.aK.length:Int) 1 3  aCW) ?_;rintro _ _ _ ⟨rfl,rfl,rfl⟩;refine vs 1 (er ?_);refine sc hM ?_ ?_<;>intro aYQ hM
 ·refine sg aD (vs 1 (er ?_));cases aA hM;exact rt func142 (.tmp rfl .nil) (so sr) (hk _ _ _ aW)
 refine sp (sq (sg aD (vs 1 (er ?_))));refine At.bf ?_;refine At.gi hM (λ (IU:Int) R' H' st'=>R=R'∧H'=(xf,.cells #[iv x0.Rest,aG,aJ,aI,aH,aM] 28)::H∧aB st' [(1,pT xf),(3,iv IU)]) (λ (aji:Unit) R' H' st'=>R=R'∧H'=(xf,.cells #[iv x0.Rest,aG,aJ,aI,aH,aM] 28)::H∧aB st' [(1,pT xf)]) 0 rfl ⟨rfl,rfl,ao eE⟩ ?_ ?_;rotate_right
 ·rintro IU aRy aPb a18 ⟨rfl,rfl,azA⟩ ND hM anw ark ai2;refine At.sub azA (sq (sg cR (vs 2 ?_)));refine ld 2 mh z0 ?_;refine ls aL underlying23 ?_;refine vs 1 (er ?_);refine sc hM ?_ ?_<;>intro aYS hM
  ·refine sp (sq (At.bf ?_));refine sg fg (vs 1 ?_);refine ld 2 mh z0 ?_;refine vs 1 ?_;have ⟨tF,Zz,hM⟩:=ag hM;obtain ⟨aVd,a0z,_,rfl,at5,awo⟩:=aL.elem I1 Zz;refine dN awo ?_;refine At.s rfl rfl (Ox.cw (vs:=[_,_]) rfl rfl oC rfl (at5.any.part (j:=0) (n:=2) rfl) rfl (.put rfl) ?_);refine dg (#[iv 0,iv 0]) NR λ aUz=>?_;refine eP (#[_,_]) oC .here ?_;refine nx rQ (lN [_,_] 0 2 oC z0 ?_);have ⟨nk,L5,hM⟩:=ag hM;refine At.cv aqb (aI0 tF 1 30  L5) ?_;rintro _ _ _ ⟨rfl,rfl,rfl⟩;refine vs 2 ?_;refine bC hM (λ Yv hM=>?_) (λ Yv hM=>?_)
   ·refine At.kn 27 Yv (vs 7 (er ?_));refine At.cond_true rfl ?_;refine sg aD (vs 1 (er ?_));replace hM:=ai2 _ (au hM);cases aA hM;exact rt func142 (.tmp rfl .nil) (so (so sr)) (hk _ _ _ aW)
   refine At.kn 27 Yv (vs 1 ?_);refine ld 1 bd z0 ?_;refine vs 1 ?_;refine ld 0 bd z0 ?_;refine vs 3 (er ?_);refine sc hM ?_ ?_<;>intro Yw hM
   ·refine sg aD (vs 1 (er ?_));replace hM:=ai2 _ (au hM);cases aA hM;exact rt func142 (.tmp rfl .nil) (so (so sr)) (hk _ _ _ aW)
   refine sp (At.bQ ?_);refine At.rg bh (vs 3 (er ?_));exact At.cc (so sr) (anw _ (au hM) _ _ _ ⟨rfl,rfl,ao eE⟩)
  exact At.cF rfl (ark _ (au hM) _ _ _ ⟨rfl,rfl,ao oV⟩)
 rintro aji aRz aPc a19 ⟨rfl,rfl,azB⟩ hM;refine At.sub azB (sq (sg cR (vs 1 ?_)));refine ld 3 jr z0 ?_;refine ls aE underlying24 ?_;have ⟨AL,B6,hM⟩:=ag hM;refine At.cv oG (oU (x0.ax.length:Int) 1 4  B6) ?_;rintro _ _ _ ⟨rfl,rfl,rfl⟩;refine vs 1 (er ?_);refine sc hM ?_ ?_<;>intro aYU hM
 ·refine sg aD (vs 1 (er ?_));cases aA hM;exact rt func142 (.tmp rfl .nil) (so sr) (hk _ _ _ aW)
 refine sp (sq (sg aD (vs 1 (er ?_))));refine At.bf ?_;refine At.gi hM (λ (wy:Int) R' H' st'=>R=R'∧H'=(xf,.cells #[iv x0.Rest,aG,aJ,aI,aH,aM] 28)::H∧aB st' [(1,pT xf),(5,iv wy)]) (λ (ajm:Unit) R' H' st'=>R=R'∧H=H'∧aB st' []) 2 rfl ⟨rfl,rfl,ao eE⟩ ?_ ?_;rotate_right
 ·rintro wy aRS aPv a2s ⟨rfl,rfl,azU⟩ Tq hM anB aru abe;refine At.sub azU (sq (sg cR (vs 2 ?_)));refine ld 3 jr z0 ?_;refine ls aE underlying24 ?_;refine vs 1 (er ?_);refine sc hM ?_ ?_<;>intro BX hM
  ·refine sp (sq (At.bf ?_));refine sq (sg gH (vs 1 ?_));refine ld 3 jr z0 ?_;refine vs 1 ?_;have ⟨Gv,ZQ,hM⟩:=ag hM;have ⟨Jo,ZR,hM⟩:=ag hM;obtain ⟨aoS,aLn,_,rfl,WN,Xj⟩:=aE.elem uK ZQ;refine dN Xj ?_;refine vs 1 ?_;refine At.ld FJ (WN.any.one (j:=0) rfl) ?_;refine At.cv aqc (aI2 Gv.Name  ZR) ?_;rintro _ _ _ ⟨rfl,rfl,rfl⟩;refine vs 1 (er ?_);refine sc hM ?_ ?_<;>intro Qw hM
   ·refine sg aD (vs 1 (er ?_));replace hM:=abe _ (au hM);cases aA hM;exact rt func142 (.tmp rfl .nil) (so sr) (hk _ _ _ aW)
   refine sp (sq (sg aD (vs 1 (er ?_))));refine At.bf ?_;refine At.gi hM (λ (IV:Int) R' H' st'=>R=R'∧H'=(xf,.cells #[iv x0.Rest,aG,aJ,aI,aH,aM] 28)::H∧aB st' [(1,pT xf),(5,iv wy),(6,iv IV)]) (λ (ajr:Unit) R' H' st'=>R=R'∧H'=(xf,.cells #[iv x0.Rest,aG,aJ,aI,aH,aM] 28)::H∧aB st' [(1,pT xf),(5,iv wy)]) 4 rfl ⟨rfl,rfl,ao cV⟩ ?_ ?_;rotate_right
   ·rintro IV aSh aPU a2R ⟨rfl,rfl,aAj⟩ acI hM anK arC aK3;refine At.sub aAj (sq (sg bh (vs 3 (er ?_))));refine sc hM ?_ ?_<;>intro aZg hM
    ·refine sp (sq (At.bf ?_));refine sq (At.dw ajE mixed ?_);refine Any.vs 1 [0] rfl (tl 1 3 jr z0 ?_);refine Any.vs 1 [2] rfl ?_;have ⟨NH,ZT,hM⟩:=ag hM;have ⟨alK,aDS,hM⟩:=ag hM;obtain ⟨aoU,a01,_,rfl,agH,Xl⟩:=aE.elem uK ZT;refine tQ 3 rfl (kI Xl) ?_;refine Any.vs 1 [4] rfl (tQ 5 rfl (kU FJ 0 agH) ?_);refine Any.vs 1 [6] rfl (tl 7 3 jr z0 ?_);refine Any.vs 1 [8] rfl ?_;obtain ⟨aVI,a02,_,rfl,auy,awT⟩:=aE.elem uK aDS;refine tQ 9 rfl (kI awT) ?_;refine Any.vs 1 [10] rfl (tQ 11 rfl (kU FJ 0 auy) ?_);refine Any.tk 12 rfl pp (λ R' H' hR hS=>Ox.aeF rfl rfl rfl rfl rfl (.one rfl) aW) ?_;refine Any.done (sc hM ?_ ?_)<;>intro Qy hM
     ·refine sg aD (vs 1 (er ?_));replace hM:=aK3 _ (au hM);replace hM:=abe _ (au hM);cases aA hM;exact rt func142 (.tmp rfl .nil) (so sr) (hk _ _ _ aW)
     refine sp (At.bQ ?_);refine At.rg bh (vs 3 (er ?_));exact anK _ (au hM) _ _ _ ⟨rfl,rfl,ao cV⟩
    exact At.cF rfl (arC _ (au hM) _ _ _ ⟨rfl,rfl,ao eE⟩)
   rintro ajr aSi aPV a2S ⟨rfl,rfl,aAk⟩ hM;refine At.sub aAk (sg gH (vs 1 ?_));refine ld 3 jr z0 ?_;refine vs 1 ?_;have ⟨Gw,ZU,hM⟩:=ag hM;have ⟨Gx,ZV,hM⟩:=ag hM;obtain ⟨aoV,aLo,_,rfl,WO,Xm⟩:=aE.elem uK ZU;refine dN Xm ?_;refine vs 1 ?_;refine At.ld bd (WO.any.one (j:=1) rfl) ?_;refine At.cv oG (oU Gw.nv 1 30  ZV) ?_;rintro _ _ _ ⟨rfl,rfl,rfl⟩;refine vs 1 (er ?_);refine sc hM ?_ ?_<;>intro Qz hM
   ·refine sg aD (vs 1 (er ?_));replace hM:=abe _ (au hM);cases aA hM;exact rt func142 (.tmp rfl .nil) (so sr) (hk _ _ _ aW)
   refine sp (At.bQ ?_);refine At.rg bh (vs 3 (er ?_));exact anB _ (au hM) _ _ _ ⟨rfl,rfl,ao eE⟩
  exact At.cF rfl (At.cc (so sr) (aru _ (au hM) _ _ _ ⟨rfl,rfl,cz.sub trivial⟩))
 rintro ajm aRT aPw a2t ⟨rfl,rfl,azV⟩ hM;refine At.sub azV (sg aD (vs 1 (er ?_)));cases aA hM;exact rt func142 (.tmp rfl .nil) sr (hk _ _ _ aW)
theorem aiC(x0:aj){aG aJ aI aH aM:Value}(aN:aa cq 2 R aG x0.Rows)(aL:aa cj 2 R aJ x0.aK)(aE:aa cb 2 R aI x0.ax)(aF:aa cp 4 R aH x0.ay)(aQ:aa bU 3 R aM x0.bg){r:Int}(hM:Io x0=some r):ba ab 52 #[.agg #[iv x0.Rest,aG,aJ,aI,aH,aM]] R H (λ v R' H'=>R=R'∧H=H'∧v=iv r):=by
 unfold Io at hM
 refine bB func52 84 λ fr cs hk=>?_;refine sg aP (bx λ G1=>?_);refine vs 1 (es ?_);refine sg bh (lN [_,_,_,_,_,_] 0 6 bS z0 ?_);have ⟨acv,aCL,hM⟩:=ag hM;refine At.cv apP (aIw x0 aN aL aE aF aQ aCL) ?_;rintro _ _ _ ⟨rfl,rfl,rfl⟩;refine vs 1 ?_;refine nx aP (vs 2 (er ?_));refine sc hM ?_ ?_<;>intro Ql hM
 ·refine sg aP (vs 2 (er ?_));cases aA hM;exact rt func52 (.tmp rfl .nil) (so sr) (hk _ _ _ aW)
 refine sp (sq (sg bh (lN [_,_,_,_,_,_] 0 6 bS z0 ?_)));have ⟨acw,aCM,hM⟩:=ag hM;refine At.cv apQ (aIy x0 aN aL aE aF aQ aCM) ?_;rintro _ _ _ ⟨rfl,rfl,rfl⟩;refine vs 1 ?_;refine nx aP (vs 2 (er ?_));refine sc hM ?_ ?_<;>intro aYN hM
 ·refine sg aP (vs 2 (er ?_));cases aA hM;exact rt func52 (.tmp rfl .nil) (so sr) (hk _ _ _ aW)
 refine sp (sq (sg cR (vs 1 ?_)));refine ld 4 iK z0 ?_;refine ls aF underlying25 ?_;have ⟨aln,aCN,hM⟩:=ag hM;refine At.cv oG (oU (x0.ay.length:Int) 1 4  aCN) ?_;rintro _ _ _ ⟨rfl,rfl,rfl⟩;refine vs 1 (er ?_);refine sc hM ?_ ?_<;>intro aBD hM
 ·refine sg aD (vs 1 (er ?_));cases aA hM;exact rt func52 (.tmp rfl .nil) (so sr) (hk _ _ _ aW)
 refine sp (sq (sg aD (vs 1 (er ?_))));refine At.bf ?_;refine At.gi hM (λ (IT:Int) R' H' st'=>R=R'∧H'=(G1,.cells #[iv x0.Rest,aG,aJ,aI,aH,aM] 28)::H∧aB st' [(1,pT G1),(5,iv IT)]) (λ (aje:Unit) R' H' st'=>R=R'∧H'=(G1,.cells #[iv x0.Rest,aG,aJ,aI,aH,aM] 28)::H∧aB st' [(1,pT G1)]) 0 rfl ⟨rfl,rfl,ao eE⟩ ?_ ?_;rotate_right
 ·rintro IT aRn aO0 a1T ⟨rfl,rfl,azp⟩ a5r hM ant arf RY;refine At.sub azp (sq (sg cR (vs 2 ?_)));refine ld 4 iK z0 ?_;refine ls aF underlying25 ?_;refine vs 1 (er ?_);refine sc hM ?_ ?_<;>intro LK hM
  ·refine sp (sq (At.bf ?_));refine sg fg (vs 1 ?_);refine ld 4 iK z0 ?_;refine vs 1 ?_;have ⟨tE,Zv,hM⟩:=ag hM;obtain ⟨aoN,aLj,_,rfl,WI,Xe⟩:=aF.elem yw Zv;refine dN Xe ?_;refine At.s rfl rfl (Ox.cw (vs:=[_,_,_,_]) rfl rfl po rfl (WI.any.part (j:=0) (n:=4) rfl) rfl (.put rfl) ?_);refine dg (#[iv 0,iv 0,iv 0,iv 0]) Dp λ aUx=>?_;refine eP (#[_,_,_,_]) po .here ?_;refine es (sg cR (lN [_,_,_,_,_,_] 0 6 bS z1 ?_));refine vs 1 ?_;refine ld 0 bd z0 ?_;have ⟨alu,aC2,hM⟩:=ag hM;refine At.cv ae3 (ah2 x0 tE.Place aN aL aE aF aQ aC2) ?_;rintro _ _ _ ⟨rfl,rfl,rfl⟩;refine vs 1 (er ?_);refine sc hM ?_ ?_<;>intro aBE hM
   ·refine sg aD (vs 1 (er ?_));replace hM:=RY _ (au hM);cases aA hM;exact rt func52 (.tmp rfl .nil) (so (so sr)) (hk _ _ _ aW)
   refine sp (sg Ng (vs 1 ?_));refine ld 1 bd z0 ?_;have ⟨Gn,Zy,hM⟩:=ag hM;refine At.cv oG (oU tE.jC 0 200  Zy) ?_;rintro _ _ _ ⟨rfl,rfl,rfl⟩;refine vs 2 ?_;refine bC hM (λ Ew hM=>?_) (λ Ew hM=>?_)
   ·refine At.kn 44 Ew (vs 11 (er ?_));refine At.cond_true rfl ?_;refine sg aD (vs 1 (er ?_));replace hM:=RY _ (au hM);cases aA hM;exact rt func52 (.tmp rfl .nil) (so (so sr)) (hk _ _ _ aW)
   refine At.kn 44 Ew (vs 1 ?_);refine ld 2 bd z0 ?_;have ⟨alv,aC6,hM⟩:=ag hM;refine At.cv oG (oU tE.gW 1 60  aC6) ?_;rintro _ _ _ ⟨rfl,rfl,rfl⟩;refine vs 3 ?_;refine bC hM (λ Yu hM=>?_) (λ Yu hM=>?_)
   ·refine At.kn 50 Yu (vs 5 (er ?_));refine At.cond_true rfl ?_;refine sg aD (vs 1 (er ?_));replace hM:=RY _ (au hM);cases aA hM;exact rt func52 (.tmp rfl .nil) (so (so sr)) (hk _ _ _ aW)
   refine At.kn 50 Yu (vs 1 ?_);refine ld 3 bd z0 ?_;have ⟨Jj,ZA,hM⟩:=ag hM;refine At.cv oG (oU tE.ax 1 3  ZA) ?_;rintro _ _ _ ⟨rfl,rfl,rfl⟩;refine vs 2 (er ?_);refine sc hM ?_ ?_<;>intro Yw hM
   ·refine sg aD (vs 1 (er ?_));replace hM:=RY _ (au hM);cases aA hM;exact rt func52 (.tmp rfl .nil) (so (so sr)) (hk _ _ _ aW)
   refine sp (At.bQ ?_);refine At.rg bh (vs 3 (er ?_));exact At.cc (so sr) (ant _ (au hM) _ _ _ ⟨rfl,rfl,ao eE⟩)
  exact At.cF rfl (arf _ (au hM) _ _ _ ⟨rfl,rfl,ao oV⟩)
 rintro aje aRo aO1 a1U ⟨rfl,rfl,azq⟩ hM;refine At.sub azq (sq (sg b8 (vs 1 ?_)));refine ld 5 kR z0 ?_;refine ls aQ underlying26 ?_;refine vs 1 (er ?_);refine sc hM ?_ ?_<;>intro LL hM
 ·refine sg aD (vs 1 (er ?_));cases aA hM;exact rt func52 (.tmp rfl .nil) (so sr) (hk _ _ _ aW)
 refine sp (sq (sg aD (vs 1 (er ?_))));refine At.bf ?_;refine At.gi hM (λ (FZ:Int) R' H' st'=>R=R'∧H'=(G1,.cells #[iv x0.Rest,aG,aJ,aI,aH,aM] 28)::H∧aB st' [(1,pT G1),(7,iv FZ)]) (λ (ajl:Unit) R' H' st'=>R=R'∧H=H'∧aB st' []) 2 rfl ⟨rfl,rfl,ao eE⟩ ?_ ?_;rotate_right
 ·rintro FZ aRQ aPt a2q ⟨rfl,rfl,azS⟩ Dg hM anA art ai3;refine At.sub azS (sq (sg cR (vs 2 ?_)));refine ld 5 kR z0 ?_;refine ls aQ underlying26 ?_;refine vs 1 (er ?_);refine sc hM ?_ ?_<;>intro ag9 hM
  ·refine sp (sq (At.bf ?_));refine sq (sq (At.dw lq mixed ?_));refine tN 0 [_,_,_,_,_,_] 0 6 bS z0 ?_;refine Any.vs 1 [1] rfl (tl 2 5 kR z0 ?_);refine Any.vs 1 [3] rfl ?_;have ⟨Gp,ZE,hM⟩:=ag hM;have ⟨fx,ZF,hM⟩:=ag hM;obtain ⟨aVl,a0H,_,rfl,aue,aww⟩:=aQ.elem F4 ZE;refine tQ 4 rfl (kI aww) ?_;refine Any.vs 1 [5] rfl (tQ 6 rfl (kU bd 0 aue) ?_);refine Any.cv 7 ae3 (ah2 x0 Gp.Place aN aL aE aF aQ ZF) ?_;rintro _ _ _ ⟨rfl,rfl,rfl⟩;refine kp (Any.vs 1 [8] rfl (Any.done (sc hM ?_ ?_)))<;>intro aY2 hM
   ·refine sg aD (vs 1 (er ?_));replace hM:=ai3 _ (au hM);cases aA hM;exact rt func52 (.tmp rfl .nil) (so sr) (hk _ _ _ aW)
   refine sp (sg gH (vs 1 ?_));refine ld 5 kR z0 ?_;refine vs 1 ?_;have ⟨mK,ZG,hM⟩:=ag hM;have ⟨nP,ZH,hM⟩:=ag hM;obtain ⟨aoQ,aLl,_,rfl,WL,Xh⟩:=aQ.elem F4 ZG;refine dN Xh ?_;refine vs 1 ?_;refine At.ld bd (WL.any.one (j:=1) rfl) ?_;refine At.cv oG (oU mK.iQ 0 30  ZH) ?_;rintro _ _ _ ⟨rfl,rfl,rfl⟩;refine vs 1 (er ?_);refine sc hM ?_ ?_<;>intro aY3 hM
   ·refine sg aD (vs 1 (er ?_));replace hM:=ai3 _ (au hM);cases aA hM;exact rt func52 (.tmp rfl .nil) (so sr) (hk _ _ _ aW)
   refine sp (At.bQ ?_);refine At.rg bh (vs 3 (er ?_));exact anA _ (au hM) _ _ _ ⟨rfl,rfl,ao eE⟩
  exact At.cF rfl (At.cc (so sr) (art _ (au hM) _ _ _ ⟨rfl,rfl,cz.sub trivial⟩))
 rintro ajl aRR aPu a2r ⟨rfl,rfl,azT⟩ hM;refine At.sub azT (sg aD (vs 1 (er ?_)));cases aA hM;exact rt func52 (.tmp rfl .nil) sr (hk _ _ _ aW)
end
section
variable {B:Base} {main:Bool} {ab:Jd prog B main} {R:az} {H:ah}
theorem aJ0(x0:(List Int))(x1:Int){v0:Value}(h0:dJ CZ 1 R H v0 x0){r:Bool}(hM:MU x0 x1=some r):ba ab 47 #[v0,iv x1] R H (λ v R' H'=>R=R'∧H=H'∧v = .bool r):=by
 unfold MU at hM
 refine bB func47 18 λ fr cs hk=>?_;refine sg aD (vs 1 (es ?_));refine sg aD (vs 1 (er ?_));refine At.bf ?_;refine At.gi hM (λ (IW:Int) R' H' st'=>R=R'∧H=H'∧aB st' [(0,v0),(1,iv x1),(5,iv IW)]) (λ (uC:Unit) R' H' st'=>R=R'∧H=H'∧aB st' []) 0 rfl ⟨rfl,rfl,ao cV⟩ ?_ ?_;rotate_right
 ·rintro IW R36 H36 a3a ⟨rfl,rfl,aAC⟩ jz hM anQ Pn aK4;refine At.sub aAC (sq (sg b8 (vs 2 ?_)));refine lr h0 underlying36 ?_;refine vs 1 (er ?_);refine sc hM ?_ ?_<;>intro ahb hM
  ·refine sp (sq (At.bf ?_));refine sg gj (vs 2 ?_);have ⟨mx,zu,hM⟩:=ag hM;obtain ⟨aoZ,aLr,_,rfl,WT,Xp⟩:=h0.elem bT zu;refine dN Xp ?_;refine At.ld bd ((WT.sub pp).one (j:=0) rfl) ?_;refine vs 2 (er ?_);refine sc hM ?_ ?_<;>intro ahd hM
   ·refine sg aD (vs 1 (er ?_));replace hM:=aK4 _ (au hM);cases aA hM;exact rt func47 (.tmp rfl .nil) sr (hk _ _ _ aW)
   refine sp (At.bQ ?_);refine At.rg bh (vs 3 (er ?_));exact anQ _ (au hM) _ _ _ ⟨rfl,rfl,ao cV⟩
  exact At.cF rfl (Pn _ (au hM) _ _ _ ⟨rfl,rfl,cz.sub trivial⟩)
 rintro uC amQ al2 aM4 ⟨rfl,rfl,X4⟩ hM;refine At.sub X4 (sg aD (vs 1 (er ?_)));cases aA hM;exact rt func47 (.tmp rfl .nil) sr (hk _ _ _ aW)
end
end Go.Proofs.YtihapemckcdicaaGreatDoor
