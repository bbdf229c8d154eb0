/- Walks, part 12: each function computes its model. -/
import Derived.Test.YtihapemckcdicaaGreatDoorQXStW10
import Derived.Test.YtihapemckcdicaaGreatDoorQXLgC
namespace Go.Proofs.YtihapemckcdicaaGreatDoor
open Go.Lg Go.Proofs Tryz
set_option maxRecDepth 100000
set_option maxHeartbeats 4000000
section
variable {B:Base} {main:Bool} {ab:Jd prog B main} {R:az} {H:ah}
theorem aIF(x0:(List Int))(x1:(List Int)){v0 v1:Value}(h0:dJ CZ 1 R H v0 x0)(h1:dJ CZ 1 R H v1 x1){r:Bool}(hM:MF x0 x1=some r):ba ab 152 #[v0,v1] R H (λ v R' H'=>R=R'∧H=H'∧v = .bool r):=by
 unfold MF at hM
 refine bB func152 19 λ fr cs hk=>?_;refine sg aD (vs 1 (es ?_));refine sg aD (vs 1 (er ?_));refine At.bf ?_;refine At.gi hM (λ (dI:Int) R' H' st'=>R=R'∧H=H'∧aB st' [(0,v0),(1,v1),(5,iv dI)]) (λ (m7:Unit) R' H' st'=>R=R'∧H=H'∧aB st' []) 0 rfl ⟨rfl,rfl,ao cV⟩ ?_ ?_;rotate_right
 ·rintro dI Ol NU Sz ⟨rfl,rfl,zl⟩ jb hM yP yX FK;refine At.sub zl (sq (sg b8 (vs 2 ?_)));refine lr h0 underlying36 ?_;refine vs 1 (er ?_);refine sc hM ?_ ?_<;>intro LO hM
  ·refine sp (sq (At.bf ?_));refine sg fg (vs 3 ?_);have ⟨iF,sN,hM⟩:=ag hM;have ⟨gL,sO,hM⟩:=ag hM;obtain ⟨UF,abm,_,rfl,sE,Eh⟩:=h0.elem bT sN;refine dN Eh ?_;refine At.ld bd ((sE.sub pp).one (j:=0) rfl) ?_;refine At.cv aqP (aJ0 x1 iF (h1.sub pp) sO) ?_;rintro _ _ _ ⟨rfl,rfl,rfl⟩;refine vs 1 (er ?_);refine sc hM ?_ ?_<;>intro B1 hM
   ·refine sg aD (vs 1 (er ?_));replace hM:=FK _ (au hM);cases aA hM;exact rt func152 (.tmp rfl .nil) sr (hk _ _ _ aW)
   refine sp (At.bQ ?_);refine At.rg bh (vs 3 (er ?_));exact yP _ (au hM) _ _ _ ⟨rfl,rfl,ao cV⟩
  exact At.cF rfl (yX _ (au hM) _ _ _ ⟨rfl,rfl,cz.sub trivial⟩)
 rintro m7 Om NV SA ⟨rfl,rfl,zn⟩ hM;refine At.sub zn (sg aD (vs 1 (er ?_)));cases aA hM;exact rt func152 (.tmp rfl .nil) sr (hk _ _ _ aW)
theorem aJ9(x0:aj)(x1:aj)(x2:Int)(x3:Int)(x4:Int){aG aJ aI aH aM fq ft fu fv fw:Value}(hG:jf R)(hK:wZ ab)(aN:aa cq 2 R aG x0.Rows)(aL:aa cj 2 R aJ x0.aK)(aE:aa cb 2 R aI x0.ax)(aF:aa cp 4 R aH x0.ay)(aQ:aa bU 3 R aM x0.bg)(cK:aa cq 2 R fq x1.Rows)(cG:aa cj 2 R ft x1.aK)(cL:aa cb 2 R fu x1.ax)(cI:aa cp 4 R fv x1.ay)(cM:aa bU 3 R fw x1.bg){r:Bool}(hM:MW x0 x1 x2 x3 x4=some r):ba ab 77 #[.agg #[iv x0.Rest,aG,aJ,aI,aH,aM],.agg #[iv x1.Rest,fq,ft,fu,fv,fw],iv x2,iv x3,iv x4] R H (λ v R' H'=>aS R R'∧H=H'∧v = .bool r):=by
 unfold MW at hM
 refine bB func77 241 λ fr cs hk=>?_;refine sg bh (bx λ G6=>?_);refine bx λ OH=>?_;refine vs 1 ?_;refine nx fg (lN [_,_,_,_,_,_] 0 6 bS z1 ?_);have ⟨mA,Mn,hM⟩:=ag hM;refine At.cv Vv (aaT x0 hG aN aL aE aF aQ Mn) ?_;rintro _ ani _ ⟨kG,rfl,rfl⟩;have ⟨aN,aL,aE,aF,aQ,cK,cG,cL,cI⟩:=gy kG aN aL aE aF aQ cK cG cL cI;replace cM:=cM.mono kG;replace hG:=hG.mono kG;refine vs 5 ?_;refine nx fg (lN [_,_,_,_,_,_] 0 6 bS z0 ?_);have ⟨AS,aal,hM⟩:=ag hM;refine At.cv Vv (aaT x1 hG cK cG cL cI cM aal) ?_;rintro _ aUu _ ⟨BE,rfl,rfl⟩;have ⟨aN,aL,aE,aF,aQ,cK,cG,cL,cI⟩:=gy BE aN aL aE aF aQ cK cG cL cI;replace cM:=cM.mono BE;replace hG:=hG.mono BE;refine vs 5 ?_;refine nx gH (lN [_,_,_,_,_,_] 0 6 bS z1 ?_);refine vs 1 ?_;have ⟨Gh,Zp,hM⟩:=ag hM;refine At.cv Vz (aaX x0 x2 hG aN aL aE aF aQ Zp) ?_;rintro _ am6 _ ⟨tT,rfl,a39,EA,rfl⟩;have ⟨aN,aL,aE,aF,aQ,cK,cG,cL,cI⟩:=gy tT aN aL aE aF aQ cK cG cL cI;replace cM:=cM.mono tT;replace hG:=hG.mono tT;refine vs 5 ?_;refine nx gH (lN [_,_,_,_,_,_] 0 6 bS z0 ?_);refine vs 1 ?_;have ⟨NA,aCw,hM⟩:=ag hM;refine At.cv Vz (aaX x1 x2 hG cK cG cL cI cM aCw) ?_;rintro _ aTA _ ⟨y3,rfl,a4a,LY,rfl⟩;have ⟨aN,aL,aE,aF,aQ,cK,cG,cL,cI⟩:=gy y3 aN aL aE aF aQ cK cG cL cI;replace cM:=cM.mono y3;replace hG:=hG.mono y3;replace EA:=EA.mono y3;refine vs 5 ?_;refine nx lq (lN [_,_,_,_,_,_] 0 6 bS z1 ?_);refine vs 2 ?_;have ⟨pe,B5,hM⟩:=ag hM;refine At.cv Kx (MR x0 x3 x4 hG aN aL aE aF aQ B5) ?_;rintro _ aTB _ ⟨y4,rfl,rfl⟩;have ⟨aN,aL,aE,aF,aQ,cK,cG,cL,cI⟩:=gy y4 aN aL aE aF aQ cK cG cL cI;replace cM:=cM.mono y4;replace hG:=hG.mono y4;have ⟨EA,LY⟩:=s5 y4 EA LY;refine vs 5 ?_;refine nx lq (lN [_,_,_,_,_,_] 0 6 bS z0 ?_);refine vs 2 ?_;have ⟨tD,EB,hM⟩:=ag hM;refine At.cv Kx (MR x1 x3 x4 hG cK cG cL cI cM EB) ?_;rintro _ am7 _ ⟨y5,rfl,rfl⟩;have ⟨aN,aL,aE,aF,aQ,cK,cG,cL,cI⟩:=gy y5 aN aL aE aF aQ cK cG cL cI;replace cM:=cM.mono y5;replace hG:=hG.mono y5;have ⟨EA,LY⟩:=s5 y5 EA LY;refine vs 5 (es (sq ?_));refine At.gG hM (λ (R5:Bool) R' H' st'=>am7=R'∧H'=(OH,.cells #[iv x1.Rest,fq,ft,fu,fv,fw] 28)::(G6,.cells #[iv x0.Rest,aG,aJ,aI,aH,aM] 28)::H∧aB st' [(5,pT G6),(6,pT OH),(113,.bool R5)])  ?_ ?_;rotate_right
 ·intro NB hM xl;refine At.rg ajH (vs 3 ?_);refine bC hM (λ Yg hM=>?_) (λ Yg hM=>?_)
  ·refine At.kn 73 Yg (vs 40 (er ?_));exact xl _ (au hM) _ _ _ ⟨rfl,rfl,ao cV⟩
  refine At.kn 73 Yg (vs 4 ?_);refine bC hM (λ zo hM=>?_) (λ zo hM=>?_)
  ·refine At.kn 77 zo (vs 36 (er ?_));exact xl _ (au hM) _ _ _ ⟨rfl,rfl,ao cV⟩
  refine At.kn 77 zo (vs 4 ?_);refine bC hM (λ Yh hM=>?_) (λ Yh hM=>?_)
  ·refine At.kn 81 Yh (vs 32 (er ?_));exact xl _ (au hM) _ _ _ ⟨rfl,rfl,ao cV⟩
  refine At.kn 81 Yh (vs 4 ?_);refine bC hM (λ ua hM=>?_) (λ ua hM=>?_)
  ·refine At.kn 85 ua (vs 28 (er ?_));exact xl _ (au hM) _ _ _ ⟨rfl,rfl,ao cV⟩
  refine At.kn 85 ua (vs 4 ?_);refine bC hM (λ Ql hM=>?_) (λ Ql hM=>?_)
  ·refine At.kn 89 Ql (vs 24 (er ?_));exact xl _ (au hM) _ _ _ ⟨rfl,rfl,ao cV⟩
  refine At.kn 89 Ql (vs 4 ?_);refine bC hM (λ BT hM=>?_) (λ BT hM=>?_)
  ·refine At.kn 93 BT (vs 20 (er ?_));exact xl _ (au hM) _ _ _ ⟨rfl,rfl,ao cV⟩
  refine At.kn 93 BT (vs 2 ?_);have ⟨wR,L3,hM⟩:=ag hM;refine At.cv oG (oU AS.1 1 mA.1  L3) ?_;rintro _ _ _ ⟨rfl,rfl,rfl⟩;refine vs 3 ?_;refine bC hM (λ BU hM=>?_) (λ BU hM=>?_)
  ·refine At.kn 99 BU (vs 14 (er ?_));exact xl _ (au hM) _ _ _ ⟨rfl,rfl,ao cV⟩
  refine At.kn 99 BU (vs 2 ?_);have ⟨yy,L4,hM⟩:=ag hM;refine At.cv apV (aIF NA.1 Gh.1 LY.rd EA.rd L4) ?_;rintro _ _ _ ⟨rfl,rfl,rfl⟩;refine vs 3 ?_;refine bC hM (λ Eu hM=>?_) (λ Eu hM=>?_)
  ·refine At.kn 105 Eu (vs 8 (er ?_));exact xl _ (au hM) _ _ _ ⟨rfl,rfl,ao cV⟩
  refine At.kn 105 Eu (vs 3 ?_);refine bC hM (λ Qm hM=>?_) (λ Qm hM=>?_)
  ·refine At.kn 108 Qm (vs 5 (er ?_));exact xl _ (au hM) _ _ _ ⟨rfl,rfl,ao cV⟩
  refine At.kn 108 Qm (vs 5 (er ?_));exact xl _ (au hM) _ _ _ ⟨rfl,rfl,ao cV⟩
 rintro R5 aRe aOQ a1J ⟨rfl,rfl,azf⟩ hM;refine At.sub azf (sc hM ?_ ?_)<;>intro Qn hM
 ·refine sg aD (vs 1 (er ?_));cases aA hM;exact rt func77 (.tmp rfl .nil) (so (so sr)) (hk _ _ _ ⟨(((((kG.trans BE).trans tT).trans y3).trans y4).trans y5),b9⟩)
 refine sp (sg fg (lN [_,_,_,_,_,_] 0 6 bS z1 ?_));have ⟨AI,QR,hM⟩:=ag hM;refine At.cv Pe (Ru x0 hG hK aN aL aE aF aQ QR) ?_;rintro _ aTF _ ⟨D2,rfl,rfl⟩;have ⟨aN,aL,aE,aF,aQ,cK,cG,cL,cI⟩:=gy D2 aN aL aE aF aQ cK cG cL cI;replace cM:=cM.mono D2;replace hG:=hG.mono D2;refine vs 5 ?_;refine nx fg (lN [_,_,_,_,_,_] 0 6 bS z0 ?_);have ⟨Tn,aCQ,hM⟩:=ag hM;refine At.cv Pe (Ru x1 hG hK cK cG cL cI cM aCQ) ?_;rintro _ aTG _ ⟨D3,rfl,rfl⟩;have ⟨aN,aL,aE,aF,aQ,cK,cG,cL,cI⟩:=gy D3 aN aL aE aF aQ cK cG cL cI;replace cM:=cM.mono D3;replace hG:=hG.mono D3;refine vs 5 ?_;refine nx rQ (lN [_,_,_,_,_,_] 0 6 bS z1 ?_);have ⟨AJ,Zs,hM⟩:=ag hM;refine At.cv VA (aaY x0 hG hK aN aL aE aF aQ Zs) ?_;rintro _ aTH _ ⟨D4,rfl,a4b,aZW,rfl⟩;have ⟨aN,aL,aE,aF,aQ,cK,cG,cL,cI⟩:=gy D4 aN aL aE aF aQ cK cG cL cI;replace cM:=cM.mono D4;replace hG:=hG.mono D4;refine vs 9 ?_;refine nx rQ (lN [_,_,_,_,_,_] 0 6 bS z0 ?_);have ⟨Jg,aCR,hM⟩:=ag hM;refine At.cv VA (aaY x1 hG hK cK cG cL cI cM aCR) ?_;rintro _ aTI _ ⟨D5,rfl,a4c,aZX,rfl⟩;have ⟨aN,aL,aE,aF,aQ,cK,cG,cL,cI⟩:=gy D5 aN aL aE aF aQ cK cG cL cI;replace cM:=cM.mono D5;replace hG:=hG.mono D5;refine vs 9 ?_;refine nx lq (lN [_,_,_,_,_,_] 0 6 bS z1 ?_);have ⟨To,aCS,hM⟩:=ag hM;refine At.cv VC (aaZ x0 hG hK aN aL aE aF aQ aCS) ?_;rintro _ aTJ _ ⟨D6,rfl,a4d,Zt,rfl⟩;have ⟨aN,aL,aE,aF,aQ,cK,cG,cL,cI⟩:=gy D6 aN aL aE aF aQ cK cG cL cI;replace cM:=cM.mono D6;replace hG:=hG.mono D6;refine vs 7 ?_;refine nx lq (lN [_,_,_,_,_,_] 0 6 bS z0 ?_);have ⟨Tp,aCT,hM⟩:=ag hM;refine At.cv VC (aaZ x1 hG hK cK cG cL cI cM aCT) ?_;rintro _ am8 _ ⟨Bz,rfl,a4e,aCU,rfl⟩;have ⟨aN,aL,aE,aF,aQ,cK,cG,cL,cI⟩:=gy Bz aN aL aE aF aQ cK cG cL cI;replace cM:=cM.mono Bz;replace hG:=hG.mono Bz;replace Zt:=Zt.mono Bz;refine vs 7 (es (sq ?_));refine At.gG hM (λ (Sb:Bool) R' H' st'=>am8=R'∧H'=(OH,.cells #[iv x1.Rest,fq,ft,fu,fv,fw] 28)::(G6,.cells #[iv x0.Rest,aG,aJ,aI,aH,aM] 28)::H∧aB st' [(5,pT G6),(6,pT OH),(217,.bool Sb)])  ?_ ?_;rotate_right
 ·intro a5s hM qm;refine At.rg aMo (vs 3 ?_);refine bC hM (λ Qq hM=>?_) (λ Qq hM=>?_)
  ·refine At.kn 152 Qq (vs 65 (er ?_));exact qm _ (au hM) _ _ _ ⟨rfl,rfl,ao cV⟩
  refine At.kn 152 Qq (vs 4 ?_);refine bC hM (λ Yn hM=>?_) (λ Yn hM=>?_)
  ·refine At.kn 156 Yn (vs 61 (er ?_));exact qm _ (au hM) _ _ _ ⟨rfl,rfl,ao cV⟩
  refine At.kn 156 Yn (vs 4 ?_);refine bC hM (λ Yo hM=>?_) (λ Yo hM=>?_)
  ·refine At.kn 160 Yo (vs 57 (er ?_));exact qm _ (au hM) _ _ _ ⟨rfl,rfl,ao cV⟩
  refine At.kn 160 Yo (vs 4 ?_);refine bC hM (λ Qr hM=>?_) (λ Qr hM=>?_)
  ·refine At.kn 164 Qr (vs 53 (er ?_));exact qm _ (au hM) _ _ _ ⟨rfl,rfl,ao cV⟩
  refine At.kn 164 Qr (vs 4 ?_);refine bC hM (λ BV hM=>?_) (λ BV hM=>?_)
  ·refine At.kn 168 BV (vs 49 (er ?_));exact qm _ (au hM) _ _ _ ⟨rfl,rfl,ao cV⟩
  refine At.kn 168 BV (vs 4 ?_);refine bC hM (λ Qs hM=>?_) (λ Qs hM=>?_)
  ·refine At.kn 172 Qs (vs 45 (er ?_));exact qm _ (au hM) _ _ _ ⟨rfl,rfl,ao cV⟩
  refine At.kn 172 Qs (vs 4 ?_);refine bC hM (λ Ev hM=>?_) (λ Ev hM=>?_)
  ·refine At.kn 176 Ev (vs 41 (er ?_));exact qm _ (au hM) _ _ _ ⟨rfl,rfl,ao cV⟩
  refine At.kn 176 Ev (vs 5 ?_);refine bC hM (λ Yp hM=>?_) (λ Yp hM=>?_)
  ·refine At.kn 181 Yp (vs 36 (er ?_));exact qm _ (au hM) _ _ _ ⟨rfl,rfl,ao cV⟩
  refine At.kn 181 Yp (vs 3 ?_);refine At.s rfl rfl (Ox.Ko rfl rfl rfl underlying4 rfl rfl (.put rfl) ?_);refine vs 2 ?_;refine bC hM (λ LJ hM=>?_) (λ LJ hM=>?_)
  ·refine At.kn 187 LJ (vs 30 (er ?_));exact qm _ (au hM) _ _ _ ⟨rfl,rfl,ao cV⟩
  refine At.kn 187 LJ (vs 3 ?_);refine At.s rfl rfl (Ox.Ko rfl rfl rfl underlying4 rfl rfl (.put rfl) ?_);refine vs 2 ?_;refine bC hM (λ Yq hM=>?_) (λ Yq hM=>?_)
  ·refine At.kn 193 Yq (vs 24 (er ?_));exact qm _ (au hM) _ _ _ ⟨rfl,rfl,ao cV⟩
  refine At.kn 193 Yq (vs 2 ?_);refine At.s rfl rfl (Ox.Ko rfl rfl rfl underlying4 rfl rfl (.put rfl) ?_);refine vs 2 ?_;refine bC hM (λ Yr hM=>?_) (λ Yr hM=>?_)
  ·refine At.kn 198 Yr (vs 19 (er ?_));exact qm _ (au hM) _ _ _ ⟨rfl,rfl,ao cV⟩
  refine At.kn 198 Yr (vs 2 ?_);refine At.s rfl rfl (Ox.Ko rfl rfl rfl underlying4 rfl rfl (.put rfl) ?_);refine vs 2 ?_;refine bC hM (λ LK hM=>?_) (λ LK hM=>?_)
  ·refine At.kn 203 LK (vs 14 (er ?_));exact qm _ (au hM) _ _ _ ⟨rfl,rfl,ao cV⟩
  refine At.kn 203 LK (vs 2 ?_);refine bC hM (λ Ys hM=>?_) (λ Ys hM=>?_)
  ·refine At.kn 205 Ys (vs 4 ?_);refine bC hM (λ Yt hM=>?_) (λ Yt hM=>?_)
   ·refine At.kn 209 Yt (vs 8 (er ?_));exact qm _ (au hM) _ _ _ ⟨rfl,rfl,ao cV⟩
   refine At.kn 209 Yt (vs 1 ?_);refine ls aCU underlying36 ?_;refine vs 1 ?_;refine ls Zt underlying36 ?_;refine vs 4 (er ?_);exact qm _ (au hM) _ _ _ ⟨rfl,rfl,ao cV⟩
  refine At.kn 205 Ys (vs 12 (er ?_));exact qm _ (au hM) _ _ _ ⟨rfl,rfl,ao cV⟩
 rintro Sb aRs aO5 a1Y ⟨rfl,rfl,azu⟩ hM;refine At.sub azu (sc hM ?_ ?_)<;>intro aYR hM
 ·refine sg aD (vs 1 (er ?_));cases aA hM;exact rt func77 (.tmp rfl .nil) (so (so sr)) (hk _ _ _ ⟨(((((((((((kG.trans BE).trans tT).trans y3).trans y4).trans y5).trans D2).trans D3).trans D4).trans D5).trans D6).trans Bz),b9⟩)
 refine sp (sg fg (lN [_,_,_,_,_,_] 0 6 bS z1 ?_));have ⟨Df,Zw,hM⟩:=ag hM;refine At.cv Pf (Rv x0 hG hK aN aL aE aF aQ Zw) ?_;rintro _ aTK _ ⟨KV,rfl,a4f,Zx,rfl⟩;have ⟨cK,cG,cL,cI,cM⟩:=fl KV cK cG cL cI cM;replace hG:=hG.mono KV;refine vs 5 ?_;refine nx fg (lN [_,_,_,_,_,_] 0 6 bS z0 ?_);have ⟨Gn,Zy,hM⟩:=ag hM;refine At.cv Pf (Rv x1 hG hK cK cG cL cI cM Zy) ?_;rintro _ aTL _ ⟨PI,rfl,a4g,aC5,rfl⟩;replace Zx:=Zx.mono PI;refine vs 5 ?_;refine nx CL (vs 3 ?_);refine bC hM (λ Ew hM=>?_) (λ Ew hM=>?_)
 ·refine At.kn 230 Ew (vs 4 ?_);refine bC hM (λ HG hM=>?_) (λ HG hM=>?_)
  ·refine At.kn 234 HG (vs 1 ?_);refine ls aC5 underlying36 ?_;refine vs 1 ?_;refine ls Zx underlying36 ?_;refine vs 3 (er ?_);cases aA hM;exact rt func77 (.tmp rfl .nil) (so (so sr)) (hk _ _ _ ⟨(((((((((((((kG.trans BE).trans tT).trans y3).trans y4).trans y5).trans D2).trans D3).trans D4).trans D5).trans D6).trans Bz).trans KV).trans PI),b9⟩)
  refine At.kn 234 HG (vs 7 (er ?_));cases aA hM;exact rt func77 (.tmp rfl .nil) (so (so sr)) (hk _ _ _ ⟨(((((((((((((kG.trans BE).trans tT).trans y3).trans y4).trans y5).trans D2).trans D3).trans D4).trans D5).trans D6).trans Bz).trans KV).trans PI),b9⟩)
 refine At.kn 230 Ew (vs 11 (er ?_));cases aA hM;exact rt func77 (.tmp rfl .nil) (so (so sr)) (hk _ _ _ ⟨(((((((((((((kG.trans BE).trans tT).trans y3).trans y4).trans y5).trans D2).trans D3).trans D4).trans D5).trans D6).trans Bz).trans KV).trans PI),b9⟩)
end
end Go.Proofs.YtihapemckcdicaaGreatDoor
