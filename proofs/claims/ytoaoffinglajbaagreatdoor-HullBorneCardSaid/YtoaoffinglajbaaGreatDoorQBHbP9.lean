/- Walks, part 9: each function computes its model. -/
import Derived.Test.YtoaoffinglajbaaGreatDoorQBHbP8
namespace Go.Proofs.YtoaoffinglajbaaGreatDoor
open Go.Lg Go.Proofs Tryz
set_option maxRecDepth 100000
set_option maxHeartbeats 4000000
section
variable {B:Base} {main:Bool} {af:Jd prog B main} {R:ay} {H:aj}
theorem pQ  (f:dX R) (bk:kC af) {r:Bool} (d:m6  = some r):aL af 6 #[] R H (λ v R' H'=>aH R R'∧H=H'∧v = .bool r):=by
 unfold m6 at d
 refine aY func6 349 λ fr cs aN=>?_
 refine sg aB ?_
 refine vs 1 ?_
 refine nx aM ?_
 have ⟨C,dd,d⟩:=ae d
 refine U.cv DU (IG   dd) ?_
 rintro _ eP _ ⟨ab,rfl,bm,bn,bp,g,m,s,rfl⟩
 replace f:=f.mono ab
 refine bu (#[iv 0,iv 0,iv 0,aw,aw,aw]) gp λ D=>?_
 refine bC (#[_,_,_,_,_,_]) a7 .here ?_
 refine nx b4 ?_
 refine lN [_,_,_,_,_,_] 0 6 a7 z0 ?_
 have ⟨ef,de,d⟩:=ae d
 refine U.cv DV (IH C 2 g m s de) ?_
 rintro _ eQ _ ⟨M,rfl,fK,fL,fM,df,dg,dh,rfl⟩
 replace f:=f.mono M
 have ⟨g,m,s⟩:=cH M g m s
 refine cF (#[_,_]) r9 ?_
 have ⟨bf,di,d⟩:=ae d
 refine U.cv tt (uz ef (⟨1,0⟩:bU) df dg dh di) ?_
 rintro _ eR _ ⟨N,rfl,cL,cM,cN,y,z,A,rfl⟩
 replace f:=f.mono N
 have ⟨g,m,s⟩:=cH N g m s
 refine bu (#[iv 0,iv 0,iv 0,aw,aw,aw]) gp λ F=>?_
 refine bC (#[_,_,_,_,_,_]) a7 .here ?_
 refine nx fz ?_
 refine lN [_,_,_,_,_,_] 0 6 a7 z1 ?_
 refine dt (#[_,_,_]) cw ni λ fh=>?_
 refine cF (#[_,_]) vw ?_
 refine dt (#[_]) cw c7 λ bd=>?_
 refine U.iJ (K:=CZ) (k:=1) (H2:=(bd,_)::(F,_)::(D,_)::H) (λ X=>(bd,_)::X++((F,_)::(D,_)::H)) (.cons .id) rfl (aO.le (aO.cons (x:=21) rfl rfl (aO.cons (x:=30) rfl rfl (aO.cons (x:=10) rfl rfl aO.nil))) rfl) rfl (λ eG G cV=>?_)
 replace f:=f.mono G
 have ⟨g,m,s,y,z,A⟩:=hP G g m s y z A
 have ⟨eg,dj,d⟩:=ae d
 refine U.cv DW (II C (⟨0,[21,30,10]⟩:dq) [1] f g m s cV (bE.lit z0 (aO.le (aO.cons (x:=1) rfl rfl aO.nil) rfl) rfl) dj) ?_
 rintro _ eS _ ⟨O,rfl,rfl⟩
 replace f:=f.mono O
 have ⟨g,m,s,y,z,A⟩:=hP O g m s y z A
 refine vs 5 ?_
 refine nx dc ?_
 refine lN [_,_,_,_,_,_] 0 6 a7 z2 ?_
 have ⟨eh,dk,d⟩:=ae d
 refine U.cv q2 (rA C f g m s dk) ?_
 rintro _ eT _ ⟨P,rfl,rfl⟩
 replace f:=f.mono P
 have ⟨g,m,s,y,z,A⟩:=hP P g m s y z A
 refine vs 5 ?_
 refine nx dc ?_
 refine lN [_,_,_,_,_,_] 0 6 a7 z2 ?_
 have ⟨ei,dl,d⟩:=ae d
 refine U.cv tu (uA C 0 f g m s dl) ?_
 rintro _ eU _ ⟨Q,rfl,d7,E,rfl⟩
 replace f:=f.mono Q
 have ⟨g,m,s,y,z,A⟩:=hP Q g m s y z A
 refine vs 5 ?_
 refine nx dW ?_
 refine lN [_,_,_,_,_,_] 0 6 a7 z2 ?_
 refine dt (#[_]) cw c7 λ fi=>?_
 refine U.iJ (K:=CZ) (k:=1) (H2:=(bd,_)::(F,_)::(D,_)::H) (λ X=>X++((bd,_)::(F,_)::(D,_)::H)) .id rfl (aO.le (aO.cons (x:=2) rfl rfl aO.nil) rfl) rfl (λ eH I cW=>?_)
 replace f:=f.mono I
 have ⟨g,m,s,y,z,A,E⟩:=jF I g m s y z A E
 have ⟨cR,dm,d⟩:=ae d
 refine U.cv tv (uB C [2] f g m s cW dm) ?_
 rintro _ eV _ ⟨S,rfl,rfl⟩
 replace f:=f.mono S
 have ⟨g,m,s,y,z,A,E⟩:=jF S g m s y z A E
 refine vs 3 ?_
 refine bu (#[iv 0,iv 0]) fT λ bi=>?_
 refine bC (#[_,_]) cB .here ?_
 refine vs 1 ?_
 refine nx cX ?_
 refine lN [_,_,_,_,_,_] 0 6 a7 z3 ?_
 refine dt (#[_]) cw c7 λ fj=>?_
 refine U.iJ (K:=CZ) (k:=1) (H2:=(bi,_)::(bd,_)::(F,_)::(D,_)::H) (λ X=>X++((bi,_)::(bd,_)::(F,_)::(D,_)::H)) .id rfl (aO.le (aO.cons (x:=0) rfl rfl aO.nil) rfl) rfl (λ eJ J cZ=>?_)
 replace f:=f.mono J
 have ⟨g,m,s,y,z,A,E⟩:=jF J g m s y z A E
 have ⟨ej,dn,d⟩:=ae d
 refine U.cv xB (y7 C [0] f g m s cZ dn) ?_
 rintro _ eW _ ⟨T,rfl,rfl⟩
 replace f:=f.mono T
 have ⟨g,m,s,y,z,A,E⟩:=jF T g m s y z A E
 refine vs 5 ?_
 refine nx cX ?_
 refine lN [_,_,_,_,_,_] 0 6 a7 z3 ?_
 refine dt (#[_,_]) cw qH λ fk=>?_
 refine U.iJ (K:=CZ) (k:=1) (H2:=(bi,_)::(bd,_)::(F,_)::(D,_)::H) (λ X=>X++((bi,_)::(bd,_)::(F,_)::(D,_)::H)) .id rfl (aO.le (aO.cons (x:=1) rfl rfl (aO.cons (x:=2) rfl rfl aO.nil)) rfl) rfl (λ eK L c0=>?_)
 replace f:=f.mono L
 have ⟨g,m,s,y,z,A,E⟩:=jF L g m s y z A E
 have ⟨ek,dp,d⟩:=ae d
 refine U.cv xB (y7 C [1,2] f g m s c0 dp) ?_
 rintro _ eX _ ⟨V,rfl,rfl⟩
 replace f:=f.mono V
 have ⟨g,m,s,y,z,A,E⟩:=jF V g m s y z A E
 refine vs 5 ?_
 refine nx dc ?_
 refine lN [_,_,_,_,_,_] 0 6 a7 z3 ?_
 have ⟨el,dr,d⟩:=ae d
 refine U.cv DX (IJ C f g m s dr) ?_
 rintro _ eY _ ⟨W,rfl,d8,bq,rfl⟩
 replace f:=f.mono W
 have ⟨g,m,s,y,z,A,E⟩:=jF W g m s y z A E
 refine vs 5 ?_
 refine nx dc ?_
 refine lN [_,_,_,_,_,_] 0 6 a7 z3 ?_
 have ⟨em,ds,d⟩:=ae d
 refine U.cv DY (IK C f bk g m s ds) ?_
 rintro _ eZ _ ⟨Y,rfl,d9,cn,rfl⟩
 replace f:=f.mono Y
 have ⟨g,m,s,y,z,A,E,bq⟩:=og Y g m s y z A E bq
 refine vs 5 ?_
 refine nx dc ?_
 refine lN [_,_,_,_,_,_] 0 6 a7 z2 ?_
 have ⟨en,dv,d⟩:=ae d
 refine U.cv q2 (rA bf f y z A dv) ?_
 rintro _ cp _ ⟨Z,rfl,rfl⟩
 replace f:=f.mono Z
 have ⟨g,m,s,y,z,A,E,bq,cn⟩:=JM Z g m s y z A E bq cn
 refine vs 5 ?_
 refine es ?_
 refine sq ?_
 refine U.da d (λ (cC:Bool) R' H' aa=>cp=R'∧H'=(bi,.cells #[iv cR.1.ai,iv cR.1.ak] 23)::(F,.cells #[iv bf.ax,iv bf.ad.ai,iv bf.ad.ak,cL,cM,cN] 28)::(D,.cells #[iv C.ax,iv C.ad.ai,iv C.ad.ak,bm,bn,bp] 28)::H∧aA aa [(1,pT D),(2,pT F),(3,iv eg.1),(5,iv eh.1),(7,d7),(9,pT bi),(11,iv ej.1),(13,iv ek.1),(15,d8),(17,d9),(19,iv en.1),(121,.bool cC)])  ?_ ?_
 rotate_right
 ·intro f2 d ba
  refine U.rg Am ?_
  refine vs 3 ?_
  refine a8 d (λ bx d=>?_) (λ bx d=>?_)
  ·refine U.kn 90 bx ?_
   refine vs 31 ?_
   refine er ?_
   exact U.aR (sk (so sr)) (ba _ (au d) _ _ _ ⟨rfl,rfl,aq iW⟩)
  refine U.kn 90 bx ?_
  refine vs 4 ?_
  refine a8 d (λ bz d=>?_) (λ bz d=>?_)
  ·refine U.kn 94 bz ?_
   refine vs 27 ?_
   refine er ?_
   exact U.aR (sk (so sr)) (ba _ (au d) _ _ _ ⟨rfl,rfl,aq iW⟩)
  refine U.kn 94 bz ?_
  refine vs 4 ?_
  refine a8 d (λ bA d=>?_) (λ bA d=>?_)
  ·refine U.kn 98 bA ?_
   refine vs 23 ?_
   refine er ?_
   exact U.aR (sk (so sr)) (ba _ (au d) _ _ _ ⟨rfl,rfl,aq iW⟩)
  refine U.kn 98 bA ?_
  refine vs 4 ?_
  refine a8 d (λ bD d=>?_) (λ bD d=>?_)
  ·refine U.kn 102 bD ?_
   refine vs 19 ?_
   refine er ?_
   exact U.aR (sk (so sr)) (ba _ (au d) _ _ _ ⟨rfl,rfl,aq iW⟩)
  refine U.kn 102 bD ?_
  refine vs 4 ?_
  refine a8 d (λ bF d=>?_) (λ bF d=>?_)
  ·refine U.kn 106 bF ?_
   refine vs 15 ?_
   refine er ?_
   exact U.aR (sk (so sr)) (ba _ (au d) _ _ _ ⟨rfl,rfl,aq iW⟩)
  refine U.kn 106 bF ?_
  refine vs 4 ?_
  refine a8 d (λ bG d=>?_) (λ bG d=>?_)
  ·refine U.kn 110 bG ?_
   refine vs 11 ?_
   refine er ?_
   exact U.aR (sk (so sr)) (ba _ (au d) _ _ _ ⟨rfl,rfl,aq iW⟩)
  refine U.kn 110 bG ?_
  refine vs 4 ?_
  refine a8 d (λ bH d=>?_) (λ bH d=>?_)
  ·refine U.kn 114 bH ?_
   refine vs 7 ?_
   refine er ?_
   exact U.aR (sk (so sr)) (ba _ (au d) _ _ _ ⟨rfl,rfl,aq iW⟩)
  refine U.kn 114 bH ?_
  refine vs 4 ?_
  refine a8 d (λ bI d=>?_) (λ bI d=>?_)
  ·refine U.kn 118 bI ?_
   refine vs 3 ?_
   refine er ?_
   exact U.aR (sk (so sr)) (ba _ (au d) _ _ _ ⟨rfl,rfl,aq iW⟩)
  refine U.kn 118 bI ?_
  refine vs 3 ?_
  refine er ?_
  exact U.aR (sk (so sr)) (ba _ (au d) _ _ _ ⟨rfl,rfl,aq iW⟩)
 rintro cC eC ey fG ⟨rfl,rfl,c5⟩ d
 refine U.sub c5 ?_
 refine sc d ?_ ?_<;>intro fv d
 ·refine sg aB ?_
  refine vs 1 ?_
  refine er ?_
  cases av d
  exact rt func6 (.tmp rfl .nil) (so (so (so sr))) (aN _ _ _ ⟨(((((((((((((((ab.trans M).trans N).trans G).trans O).trans P).trans Q).trans I).trans S).trans J).trans T).trans L).trans V).trans W).trans Y).trans Z),br⟩)
 refine sp ?_
 refine sq ?_
 refine sq ?_
 refine U.da d (λ (cD:Bool) R' H' aa=>cp=R'∧H'=(F,.cells #[iv bf.ax,iv bf.ad.ai,iv bf.ad.ak,cL,cM,cN] 28)::(D,.cells #[iv C.ax,iv C.ad.ai,iv C.ad.ak,bm,bn,bp] 28)::H∧aA aa [(1,pT D),(2,pT F),(162,.bool cD)])  ?_ ?_
 rotate_right
 ·intro f3 d bb
  refine U.dw La mixed ?_
  refine Any.vs 3 [0,1,2] rfl ?_
  refine a8 d (λ bJ d=>?_) (λ bJ d=>?_)
  ·refine Any.cK (t:=124) rfl bJ ?_
   refine Any.vs 38 [3,4,5,6,7,8,9,10,11,12,13,14,15,16,17,18,19,20,21,22,23,24,25,26,27,28,29,30,31,32,33,34,35,36,37,38,39,40] rfl ?_
   refine Any.done ?_
   exact U.aR (so sr) (bb _ (au d) _ _ _ ⟨rfl,rfl,aq du⟩)
  refine Any.cK (t:=124) rfl bJ ?_
  refine Any.vs 4 [3,4,5,6] rfl ?_
  refine a8 d (λ bL d=>?_) (λ bL d=>?_)
  ·refine Any.cK (t:=128) rfl bL ?_
   refine Any.vs 34 [7,8,9,10,11,12,13,14,15,16,17,18,19,20,21,22,23,24,25,26,27,28,29,30,31,32,33,34,35,36,37,38,39,40] rfl ?_
   refine Any.done ?_
   exact U.aR (so sr) (bb _ (au d) _ _ _ ⟨rfl,rfl,aq du⟩)
  refine Any.cK (t:=128) rfl bL ?_
  refine Any.vs 1 [7] rfl ?_
  refine Any.on 8 rfl rfl (aJ.to (Ox.buildSlice (cells:=#[_,_]) rfl cw rfl (by decide) qH (ca rfl rfl rfl rfl (ca rfl rfl rfl rfl cE)) rfl λ fl _ _=>⟨_,(.put rfl),⟨rr,(ku (so sr)),?_⟩⟩))
  have ⟨f4,dx,d⟩:=ae d
  refine Any.cv 9 nt (nU ei.1 [20,21] E.rd (bE.lit z0 (aO.le (aO.cons (x:=20) rfl rfl (aO.cons (x:=21) rfl rfl aO.nil)) rfl) rfl) dx) ?_
  rintro _ _ _ ⟨rfl,rfl,rfl⟩
  refine ⟨rr,(ku (so sr)),?_⟩
  refine Any.vs 3 [10,11,12] rfl ?_
  refine a8 d (λ bM d=>?_) (λ bM d=>?_)
  ·refine Any.cK (t:=134) rfl bM ?_
   refine Any.vs 28 [13,14,15,16,17,18,19,20,21,22,23,24,25,26,27,28,29,30,31,32,33,34,35,36,37,38,39,40] rfl ?_
   refine Any.done ?_
   exact U.aR (so (so sr)) (bb _ (au d) _ _ _ ⟨rfl,rfl,aq du⟩)
  refine Any.cK (t:=134) rfl bM ?_
  refine Any.tk 13 rfl (su (so sr)) (λ R' H' cu bv=>Ox.bB (vs:=[_,_]) rfl rfl cB rfl ((aK.box (bv _ z0)).part (j:=0) (n:=2) rfl) rfl (.one rfl) aG) ?_
  have ⟨f5,dy,d⟩:=ae d
  refine Any.cv 14 tx (uC (-3) 0  dy) ?_
  rintro _ _ _ ⟨rfl,rfl,rfl⟩
  refine ⟨rr,(ku (so sr)),?_⟩
  refine Any.tk 15 rfl (su (so sr)) (λ R' H' cu bv=>Ox.s7 rfl rfl rfl Fy (Ey _ _) rfl rfl (.one rfl) aG) ?_
  refine Any.vs 2 [16,17] rfl ?_
  refine a8 d (λ bN d=>?_) (λ bN d=>?_)
  ·refine Any.cK (t:=139) rfl bN ?_
   refine Any.vs 23 [18,19,20,21,22,23,24,25,26,27,28,29,30,31,32,33,34,35,36,37,38,39,40] rfl ?_
   refine Any.done ?_
   exact U.aR (so (so sr)) (bb _ (au d) _ _ _ ⟨rfl,rfl,aq du⟩)
  refine Any.cK (t:=139) rfl bN ?_
  refine Any.vs 4 [18,19,20,21] rfl ?_
  refine a8 d (λ bO d=>?_) (λ bO d=>?_)
  ·refine Any.cK (t:=143) rfl bO ?_
   refine Any.vs 19 [22,23,24,25,26,27,28,29,30,31,32,33,34,35,36,37,38,39,40] rfl ?_
   refine Any.done ?_
   exact U.aR (so (so sr)) (bb _ (au d) _ _ _ ⟨rfl,rfl,aq du⟩)
  refine Any.cK (t:=143) rfl bO ?_
  refine Any.vs 4 [22,23,24,25] rfl ?_
  refine a8 d (λ bP d=>?_) (λ bP d=>?_)
  ·refine Any.cK (t:=147) rfl bP ?_
   refine Any.vs 15 [26,27,28,29,30,31,32,33,34,35,36,37,38,39,40] rfl ?_
   refine Any.done ?_
   exact U.aR (so (so sr)) (bb _ (au d) _ _ _ ⟨rfl,rfl,aq du⟩)
  refine Any.cK (t:=147) rfl bP ?_
  refine Any.vs 1 [26] rfl ?_
  refine Any.on 27 rfl rfl (aJ.to (Ox.buildSlice (cells:=#[_,_]) rfl cw rfl (by decide) qH (ca rfl rfl rfl rfl (ca rfl rfl rfl rfl cE)) rfl λ fm _ _=>⟨_,(.put rfl),⟨rr,(ku (so (so sr))),?_⟩⟩))
  have ⟨f6,dz,d⟩:=ae d
  refine Any.cv 28 nt (nU el.1 [1,2] bq.rd (bE.lit z0 (aO.le (aO.cons (x:=1) rfl rfl (aO.cons (x:=2) rfl rfl aO.nil)) rfl) rfl) dz) ?_
  rintro _ _ _ ⟨rfl,rfl,rfl⟩
  refine ⟨rr,(ku (so (so sr))),?_⟩
  refine Any.vs 3 [29,30,31] rfl ?_
  refine a8 d (λ bQ d=>?_) (λ bQ d=>?_)
  ·refine Any.cK (t:=153) rfl bQ ?_
   refine Any.vs 9 [32,33,34,35,36,37,38,39,40] rfl ?_
   refine Any.done ?_
   exact U.aR (so (so (so sr))) (bb _ (au d) _ _ _ ⟨rfl,rfl,aq du⟩)
  refine Any.cK (t:=153) rfl bQ ?_
  refine Any.vs 1 [32] rfl ?_
  refine Any.on 33 rfl rfl (aJ.to (Ox.buildSlice (cells:=#[_,_]) rfl cw rfl (by decide) qH (ca rfl rfl rfl rfl (ca rfl rfl rfl rfl cE)) rfl λ fn _ _=>⟨_,(.put rfl),⟨rr,(ku (so (so (so sr)))),?_⟩⟩))
  have ⟨f7,dA,d⟩:=ae d
  refine Any.cv 34 nt (nU em.1 [1,2] cn.rd (bE.lit z0 (aO.le (aO.cons (x:=1) rfl rfl (aO.cons (x:=2) rfl rfl aO.nil)) rfl) rfl) dA) ?_
  rintro _ _ _ ⟨rfl,rfl,rfl⟩
  refine ⟨rr,(ku (so (so (so sr)))),?_⟩
  refine Any.vs 3 [35,36,37] rfl ?_
  refine a8 d (λ bS d=>?_) (λ bS d=>?_)
  ·refine Any.cK (t:=159) rfl bS ?_
   refine Any.vs 3 [38,39,40] rfl ?_
   refine Any.done ?_
   exact U.aR (so (so (so (so sr)))) (bb _ (au d) _ _ _ ⟨rfl,rfl,aq du⟩)
  refine Any.cK (t:=159) rfl bS ?_
  refine Any.vs 3 [38,39,40] rfl ?_
  refine Any.done ?_
  exact U.aR (so (so (so (so sr)))) (bb _ (au d) _ _ _ ⟨rfl,rfl,aq du⟩)
 rintro cD eD ez fH ⟨rfl,rfl,c6⟩ d
 refine U.sub c6 ?_
 refine sc d ?_ ?_<;>intro fw d
 ·refine sg aB ?_
  refine vs 1 ?_
  refine er ?_
  cases av d
  exact rt func6 (.tmp rfl .nil) (so (so sr)) (aN _ _ _ ⟨(((((((((((((((ab.trans M).trans N).trans G).trans O).trans P).trans Q).trans I).trans S).trans J).trans T).trans L).trans V).trans W).trans Y).trans Z),br⟩)
 refine sp ?_
 refine sg cX ?_
 refine lN [_,_,_,_,_,_] 0 6 a7 z1 ?_
 refine dt (#[_,_,_]) cw ni λ fo=>?_
 refine U.iJ (K:=CZ) (k:=1) (H2:=(F,_)::(D,_)::H) (λ X=>X++((F,_)::(D,_)::H)) .id rfl (aO.le (aO.cons (x:=2) rfl rfl (aO.cons (x:=0) rfl rfl (aO.cons (x:=1) rfl rfl aO.nil))) rfl) rfl (λ eL ac c1=>?_)
 replace f:=f.mono ac
 have ⟨g,m,s,y,z,A⟩:=hP ac g m s y z A
 have ⟨eo,dB,d⟩:=ae d
 refine U.cv o2 (pI C [2,0,1] f g m s c1 dB) ?_
 rintro _ e0 _ ⟨an,rfl,rfl⟩
 replace f:=f.mono an
 have ⟨g,m,s,y,z,A⟩:=hP an g m s y z A
 refine vs 5 ?_
 refine nx cX ?_
 refine lN [_,_,_,_,_,_] 0 6 a7 z1 ?_
 refine dt (#[_,_,_]) cw ni λ fp=>?_
 refine U.iJ (K:=CZ) (k:=1) (H2:=(F,_)::(D,_)::H) (λ X=>X++((F,_)::(D,_)::H)) .id rfl (aO.le (aO.cons (x:=2) rfl rfl (aO.cons (x:=1) rfl rfl (aO.cons (x:=0) rfl rfl aO.nil))) rfl) rfl (λ eM ag c3=>?_)
 replace f:=f.mono ag
 have ⟨g,m,s,y,z,A⟩:=hP ag g m s y z A
 have ⟨ep,dC,d⟩:=ae d
 refine U.cv o2 (pI C [2,1,0] f g m s c3 dC) ?_
 rintro _ e3 _ ⟨ao,rfl,rfl⟩
 replace f:=f.mono ao
 have ⟨g,m,s,y,z,A⟩:=hP ao g m s y z A
 refine vs 5 ?_
 refine nx dc ?_
 refine lN [_,_,_,_,_,_] 0 6 a7 z1 ?_
 refine dt (#[_,_,_]) cw ni λ fq=>?_
 refine U.iJ (K:=CZ) (k:=1) (H2:=(F,_)::(D,_)::H) (λ X=>X++((F,_)::(D,_)::H)) .id rfl (aO.le (aO.cons (x:=0) rfl rfl (aO.cons (x:=1) rfl rfl (aO.cons (x:=2) rfl rfl aO.nil))) rfl) rfl (λ eN am c4=>?_)
 replace f:=f.mono am
 have ⟨g,m,s,y,z,A⟩:=hP am g m s y z A
 have ⟨f8,dE,d⟩:=ae d
 refine U.cv o2 (pI C [0,1,2] f g m s c4 dE) ?_
 rintro _ e4 _ ⟨ap,rfl,rfl⟩
 replace f:=f.mono ap
 have ⟨g,m,s,y,z,A⟩:=hP ap g m s y z A
 refine vs 4 ?_
 refine nx dc ?_
 refine lN [_,_,_,_,_,_] 0 6 a7 z1 ?_
 have ⟨eq,dF,d⟩:=ae d
 refine U.cv o3 (pJ C f bk g m s dF) ?_
 rintro _ e5 _ ⟨ar,rfl,rfl⟩
 replace f:=f.mono ar
 have ⟨g,m,s,y,z,A⟩:=hP ar g m s y z A
 refine vs 5 ?_
 refine nx dW ?_
 refine lN [_,_,_,_,_,_] 0 6 a7 z1 ?_
 have ⟨cS,dG,d⟩:=ae d
 refine U.cv DZ (IL C f bk g m s dG) ?_
 rintro _ e6 _ ⟨az,rfl,ea,bs,rfl⟩
 replace f:=f.mono az
 have ⟨g,m,s,y,z,A⟩:=hP az g m s y z A
 refine vs 7 ?_
 refine nx dW ?_
 refine lN [_,_,_,_,_,_] 0 6 a7 z1 ?_
 have ⟨cT,dH,d⟩:=ae d
 refine U.cv D1 (IM C f bk g m s dH) ?_
 rintro _ e7 _ ⟨aC,rfl,eb,co,rfl⟩
 replace f:=f.mono aC
 have ⟨g,m,s,y,z,A,bs⟩:=jF aC g m s y z A bs
 refine vs 7 ?_
 refine nx dc ?_
 refine lN [_,_,_,_,_,_] 0 6 a7 z0 ?_
 have ⟨et,dI,d⟩:=ae d
 refine U.cv o3 (pJ bf f bk y z A dI) ?_
 rintro _ cq _ ⟨aI,rfl,rfl⟩
 replace f:=f.mono aI
 have ⟨g,m,s,bs,co⟩:=oe aI g m s bs co
 refine vs 5 ?_
 refine es ?_
 refine sq ?_
 refine U.da d (λ (cI:Bool) R' H' aa=>cq=R'∧H'=(D,.cells #[iv C.ax,iv C.ad.ai,iv C.ad.ak,bm,bn,bp] 28)::H∧aA aa [(1,pT D),(3,iv eq.1),(5,iv et.1),(21,iv eo.1),(22,iv ep.1),(23,ea),(24,.bool cS.2.1),(25,eb),(26,iv cT.2.1),(228,.bool cI)])  ?_ ?_
 rotate_right
 ·intro f9 d bg
  refine U.rg KX ?_
  refine vs 3 ?_
  refine a8 d (λ bT d=>?_) (λ bT d=>?_)
  ·refine U.kn 205 bT ?_
   refine vs 23 ?_
   refine er ?_
   exact U.aR (so sr) (bg _ (au d) _ _ _ ⟨rfl,rfl,aq mS⟩)
  refine U.kn 205 bT ?_
  refine vs 4 ?_
  refine a8 d (λ bV d=>?_) (λ bV d=>?_)
  ·refine U.kn 209 bV ?_
   refine vs 19 ?_
   refine er ?_
   exact U.aR (so sr) (bg _ (au d) _ _ _ ⟨rfl,rfl,aq mS⟩)
  refine U.kn 209 bV ?_
  refine vs 4 ?_
  refine a8 d (λ bW d=>?_) (λ bW d=>?_)
  ·refine U.kn 213 bW ?_
   refine vs 15 ?_
   refine er ?_
   exact U.aR (so sr) (bg _ (au d) _ _ _ ⟨rfl,rfl,aq mS⟩)
  refine U.kn 213 bW ?_
  refine vs 4 ?_
  refine a8 d (λ bX d=>?_) (λ bX d=>?_)
  ·refine U.kn 217 bX ?_
   refine vs 11 ?_
   refine er ?_
   exact U.aR (so sr) (bg _ (au d) _ _ _ ⟨rfl,rfl,aq mS⟩)
  refine U.kn 217 bX ?_
  refine vs 4 ?_
  refine a8 d (λ bY d=>?_) (λ bY d=>?_)
  ·refine U.kn 221 bY ?_
   refine vs 7 ?_
   refine er ?_
   exact U.aR (so sr) (bg _ (au d) _ _ _ ⟨rfl,rfl,aq mS⟩)
  refine U.kn 221 bY ?_
  refine vs 4 ?_
  refine a8 d (λ b1 d=>?_) (λ b1 d=>?_)
  ·refine U.kn 225 b1 ?_
   refine vs 3 ?_
   refine er ?_
   exact U.aR (so sr) (bg _ (au d) _ _ _ ⟨rfl,rfl,aq mS⟩)
  refine U.kn 225 b1 ?_
  refine vs 3 ?_
  refine er ?_
  exact U.aR (so sr) (bg _ (au d) _ _ _ ⟨rfl,rfl,aq mS⟩)
 rintro cI eE eA fI ⟨rfl,rfl,c9⟩ d
 refine U.sub c9 ?_
 refine sc d ?_ ?_<;>intro fx d
 ·refine sg aB ?_
  refine vs 1 ?_
  refine er ?_
  cases av d
  exact rt func6 (.tmp rfl .nil) (so sr) (aN _ _ _ ⟨(((((((((((((((((((((((((ab.trans M).trans N).trans G).trans O).trans P).trans Q).trans I).trans S).trans J).trans T).trans L).trans V).trans W).trans Y).trans Z).trans ac).trans an).trans ag).trans ao).trans am).trans ap).trans ar).trans az).trans aC).trans aI),br⟩)
 refine sp ?_
 refine sq ?_
 refine sq ?_
 refine U.da d (λ (cJ:Bool) R' H' aa=>cq=R'∧H'=(D,.cells #[iv C.ax,iv C.ad.ai,iv C.ad.ak,bm,bn,bp] 28)::H∧aA aa [(1,pT D),(262,.bool cJ)])  ?_ ?_
 rotate_right
 ·intro ga d be
  refine U.rg Am ?_
  refine vs 3 ?_
  refine a8 d (λ b2 d=>?_) (λ b2 d=>?_)
  ·refine U.kn 231 b2 ?_
   refine vs 31 ?_
   refine er ?_
   exact be _ (au d) _ _ _ ⟨rfl,rfl,aq cg⟩
  refine U.kn 231 b2 ?_
  refine vs 4 ?_
  refine a8 d (λ b3 d=>?_) (λ b3 d=>?_)
  ·refine U.kn 235 b3 ?_
   refine vs 27 ?_
   refine er ?_
   exact be _ (au d) _ _ _ ⟨rfl,rfl,aq cg⟩
  refine U.kn 235 b3 ?_
  refine vs 4 ?_
  refine a8 d (λ b5 d=>?_) (λ b5 d=>?_)
  ·refine U.kn 239 b5 ?_
   refine vs 23 ?_
   refine er ?_
   exact be _ (au d) _ _ _ ⟨rfl,rfl,aq cg⟩
  refine U.kn 239 b5 ?_
  refine vs 4 ?_
  refine a8 d (λ b6 d=>?_) (λ b6 d=>?_)
  ·refine U.kn 243 b6 ?_
   refine vs 19 ?_
   refine er ?_
   exact be _ (au d) _ _ _ ⟨rfl,rfl,aq cg⟩
  refine U.kn 243 b6 ?_
  refine vs 1 ?_
  refine dt (#[_,_,_]) cw ni λ fs=>?_
  have ⟨gb,dJ,d⟩:=ae d
  refine U.cv nt (nU cS.1 [2,0,1] bs.rd (bE.lit z0 (aO.le (aO.cons (x:=2) rfl rfl (aO.cons (x:=0) rfl rfl (aO.cons (x:=1) rfl rfl aO.nil))) rfl) rfl) dJ) ?_
  rintro _ _ _ ⟨rfl,rfl,rfl⟩
  refine vs 3 ?_
  refine a8 d (λ b7 d=>?_) (λ b7 d=>?_)
  ·refine U.kn 249 b7 ?_
   refine vs 13 ?_
   refine er ?_
   exact U.aR (so sr) (be _ (au d) _ _ _ ⟨rfl,rfl,aq cg⟩)
  refine U.kn 249 b7 ?_
  refine vs 1 ?_
  refine dt (#[_,_,_]) cw ni λ ft=>?_
  have ⟨gc,dK,d⟩:=ae d
  refine U.cv nt (nU cT.1 [2,0,1] co.rd (bE.lit z0 (aO.le (aO.cons (x:=2) rfl rfl (aO.cons (x:=0) rfl rfl (aO.cons (x:=1) rfl rfl aO.nil))) rfl) rfl) dK) ?_
  rintro _ _ _ ⟨rfl,rfl,rfl⟩
  refine vs 3 ?_
  refine a8 d (λ b8 d=>?_) (λ b8 d=>?_)
  ·refine U.kn 255 b8 ?_
   refine vs 7 ?_
   refine er ?_
   exact U.aR (so (so sr)) (be _ (au d) _ _ _ ⟨rfl,rfl,aq cg⟩)
  refine U.kn 255 b8 ?_
  refine vs 4 ?_
  refine a8 d (λ b9 d=>?_) (λ b9 d=>?_)
  ·refine U.kn 259 b9 ?_
   refine vs 3 ?_
   refine er ?_
   exact U.aR (so (so sr)) (be _ (au d) _ _ _ ⟨rfl,rfl,aq cg⟩)
  refine U.kn 259 b9 ?_
  refine vs 3 ?_
  refine er ?_
  exact U.aR (so (so sr)) (be _ (au d) _ _ _ ⟨rfl,rfl,aq cg⟩)
 rintro cJ eF eB fJ ⟨rfl,rfl,db⟩ d
 refine U.sub db ?_
 refine sc d ?_ ?_<;>intro fy d
 ·refine sg aB ?_
  refine vs 1 ?_
  refine er ?_
  cases av d
  exact rt func6 (.tmp rfl .nil) (so sr) (aN _ _ _ ⟨(((((((((((((((((((((((((ab.trans M).trans N).trans G).trans O).trans P).trans Q).trans I).trans S).trans J).trans T).trans L).trans V).trans W).trans Y).trans Z).trans ac).trans an).trans ag).trans ao).trans am).trans ap).trans ar).trans az).trans aC).trans aI),br⟩)
 refine sp ?_
 refine sg dW ?_
 refine lN [_,_,_,_,_,_] 0 6 a7 z0 ?_
 have ⟨gd,dL,d⟩:=ae d
 refine U.cv D2 (IN C f g m s dL) ?_
 rintro _ e8 _ ⟨aT,rfl,rfl⟩
 replace f:=f.mono aT
 have ⟨g,m,s⟩:=cH aT g m s
 refine vs 7 ?_
 refine nx b4 ?_
 refine lN [_,_,_,_,_,_] 0 6 a7 z0 ?_
 have ⟨ge,dM,d⟩:=ae d
 refine U.cv xC (za C 0 f g m s dM) ?_
 rintro _ e9 _ ⟨aV,rfl,fN,fO,fP,fA,fB,fC,rfl⟩
 replace f:=f.mono aV
 have ⟨g,m,s⟩:=cH aV g m s
 refine vs 4 ?_
 refine nx cX ?_
 refine lN [_,_,_,_,_,_] 0 6 a7 z0 ?_
 have ⟨bw,dN,d⟩:=ae d
 refine U.cv xC (za C 2 f g m s dN) ?_
 rintro _ fa _ ⟨a1,rfl,ec,ed,ee,dO,dP,dQ,rfl⟩
 replace f:=f.mono a1
 have ⟨g,m,s⟩:=cH a1 g m s
 refine vs 3 ?_
 refine bu (#[iv 0,iv 0,iv 0,aw,aw,aw]) gp λ cU=>?_
 refine bC (#[_,_,_,_,_,_]) a7 .here ?_
 refine vs 1 ?_
 refine nx dc ?_
 refine lN [_,_,_,_,_,_] 0 6 a7 z0 ?_
 refine cF (#[_,_]) r9 ?_
 have ⟨gf,dR,d⟩:=ae d
 refine U.cv D4 (IQ bw.1 (⟨1,2⟩:bU) f dO dP dQ dR) ?_
 rintro _ fb _ ⟨a2,rfl,fQ,fR,fS,fD,fE,fF,rfl⟩
 replace f:=f.mono a2
 have ⟨g,m,s⟩:=cH a2 g m s
 refine vs 4 ?_
 refine nx dc ?_
 refine lN [_,_,_,_,_,_] 0 6 a7 z1 ?_
 refine cF (#[_,_]) r9 ?_
 have ⟨eu,dS,d⟩:=ae d
 refine U.cv tt (uz C (⟨0,1⟩:bU) g m s dS) ?_
 rintro _ fc _ ⟨a4,rfl,fU,fW,fX,dT,dU,dV,rfl⟩
 replace f:=f.mono a4
 have ⟨g,m,s⟩:=cH a4 g m s
 refine cF (#[_,_]) r9 ?_
 have ⟨bh,dY,d⟩:=ae d
 refine U.cv tt (uz eu (⟨0,2⟩:bU) dT dU dV dY) ?_
 rintro _ fd _ ⟨a5,rfl,cO,cP,cQ,dZ,d0,d1,rfl⟩
 replace f:=f.mono a5
 have ⟨g,m,s⟩:=cH a5 g m s
 refine bu (#[iv 0,iv 0,iv 0,aw,aw,aw]) gp λ ct=>?_
 refine bC (#[_,_,_,_,_,_]) a7 .here ?_
 refine nx dc ?_
 refine lN [_,_,_,_,_,_] 0 6 a7 z0 ?_
 have ⟨ev,d2,d⟩:=ae d
 refine U.cv D5 (IS bh f dZ d0 d1 d2) ?_
 rintro _ fe _ ⟨a6,rfl,fY,bt,rfl⟩
 replace f:=f.mono a6
 have ⟨g,m,s⟩:=cH a6 g m s
 refine vs 5 ?_
 refine es ?_
 refine U.draw (n:=8) (is:=[0,1,2,3,4,5,6,7]) (many ((ct,.cells #[iv bh.ax,iv bh.ad.ai,iv bh.ad.ak,cO,cP,cQ] 28)::(cU,.cells #[iv bw.1.ax,iv bw.1.ad.ai,iv bw.1.ad.ak,ec,ed,ee] 28)::(D,.cells #[iv C.ax,iv C.ad.ai,iv C.ad.ak,bm,bn,bp] 28)::H) [(6,(ct,.cells #[iv bh.ax,iv bh.ad.ai,iv bh.ad.ak,cO,cP,cQ] 28)::(D,.cells #[iv C.ax,iv C.ad.ai,iv C.ad.ak,bm,bn,bp] 28)::H)]) mixed rfl (by decide +kernel) rfl rfl ?_
 refine ts 0 [2,3,4,5,6,7] rfl (aF rfl (aU (su (so (so sr))))) (su (so (so sr))) (λ R' H' cu bv=>Ox.bB (vs:=[_,_,_,_,_,_]) rfl rfl a7 rfl ((aK.box (bv _ z0)).part (j:=0) (n:=6) rfl) rfl (.one rfl) aG) ?_
 have ⟨ew,d3,d⟩:=ae d
 refine Any.cv 1 tz (uD 21  d3) ?_
 rintro _ _ _ ⟨rfl,rfl,rfl⟩
 refine ⟨rr,(bo rfl pp),?_⟩
 have ⟨ex,d4,d⟩:=ae d
 refine Any.cv 2 D6 (IT C 0 ew f g m s d4) ?_
 rintro _ ff _ ⟨aP,rfl,fZ,f0,f1,cx,cy,cA,rfl⟩
 replace f:=f.mono aP
 replace bt:=bt.mono aP
 refine ⟨aP,(bo rfl pp),?_⟩
 refine Any.vs 3 [3,4,5] rfl ?_
 refine Any.on 6 rfl rfl (aJ.to (Ox.cG (cs':=#[_,_,_,_,_,_]) rfl rfl rfl a7 rfl (aW rfl (aW rfl (aW rfl (aW cx.one (aW cy.one (aW cA.one bl)))))) (.there .here) rfl rfl rfl (.refl _) ⟨rr,(bo rfl (su (sk (so sr)))),?_⟩))
 refine Any.vs 1 [7] rfl ?_
 refine Any.done ?_
 refine sg dc ?_
 refine lN [_,_,_,_,_,_] 0 6 a7 z1 ?_
 have ⟨gg,d5,d⟩:=ae d
 refine U.cv o3 (pJ ex.1 f bk cx cy cA d5) ?_
 rintro _ fg _ ⟨a9,rfl,rfl⟩
 replace bt:=bt.mono a9
 refine vs 5 ?_
 refine nx An ?_
 refine vs 3 ?_
 refine a8 d (λ cb d=>?_) (λ cb d=>?_)
 ·refine U.kn 308 cb ?_
  refine vs 4 ?_
  refine a8 d (λ cc d=>?_) (λ cc d=>?_)
  ·refine U.kn 312 cc ?_
   refine vs 4 ?_
   refine a8 d (λ cd d=>?_) (λ cd d=>?_)
   ·refine U.kn 316 cd ?_
    refine vs 4 ?_
    refine a8 d (λ ce d=>?_) (λ ce d=>?_)
    ·refine U.kn 320 ce ?_
     refine vs 4 ?_
     refine a8 d (λ cf d=>?_) (λ cf d=>?_)
     ·refine U.kn 324 cf ?_
      refine vs 4 ?_
      refine a8 d (λ ch d=>?_) (λ ch d=>?_)
      ·refine U.kn 328 ch ?_
       refine vs 4 ?_
       refine a8 d (λ ci d=>?_) (λ ci d=>?_)
       ·refine U.kn 332 ci ?_
        refine vs 4 ?_
        refine a8 d (λ cj d=>?_) (λ cj d=>?_)
        ·refine U.kn 336 cj ?_
         refine vs 4 ?_
         refine a8 d (λ ck d=>?_) (λ ck d=>?_)
         ·refine U.kn 340 ck ?_
          refine vs 1 ?_
          refine dt (#[_]) cw c7 λ fu=>?_
          have ⟨gh,d6,d⟩:=ae d
          refine U.cv nt (nU ev.1 [0] bt.rd (bE.lit z0 (aO.le (aO.cons (x:=0) rfl rfl aO.nil) rfl) rfl) d6) ?_
          rintro _ _ _ ⟨rfl,rfl,rfl⟩
          refine vs 2 ?_
          refine a8 d (λ cm d=>?_) (λ cm d=>?_)
          ·refine U.kn 345 cm ?_
           refine vs 4 ?_
           refine er ?_
           cases av d
           exact rt func6 (.tmp rfl .nil) (so (so (so (so sr)))) (aN _ _ _ ⟨((((((((((((((((((((((((((((((((((ab.trans M).trans N).trans G).trans O).trans P).trans Q).trans I).trans S).trans J).trans T).trans L).trans V).trans W).trans Y).trans Z).trans ac).trans an).trans ag).trans ao).trans am).trans ap).trans ar).trans az).trans aC).trans aI).trans aT).trans aV).trans a1).trans a2).trans a4).trans a5).trans a6).trans aP).trans a9),br⟩)
          refine U.kn 345 cm ?_
          refine vs 4 ?_
          refine er ?_
          cases av d
          exact rt func6 (.tmp rfl .nil) (so (so (so (so sr)))) (aN _ _ _ ⟨((((((((((((((((((((((((((((((((((ab.trans M).trans N).trans G).trans O).trans P).trans Q).trans I).trans S).trans J).trans T).trans L).trans V).trans W).trans Y).trans Z).trans ac).trans an).trans ag).trans ao).trans am).trans ap).trans ar).trans az).trans aC).trans aI).trans aT).trans aV).trans a1).trans a2).trans a4).trans a5).trans a6).trans aP).trans a9),br⟩)
         refine U.kn 340 ck ?_
         refine vs 9 ?_
         refine er ?_
         cases av d
         exact rt func6 (.tmp rfl .nil) (so (so (so sr))) (aN _ _ _ ⟨((((((((((((((((((((((((((((((((((ab.trans M).trans N).trans G).trans O).trans P).trans Q).trans I).trans S).trans J).trans T).trans L).trans V).trans W).trans Y).trans Z).trans ac).trans an).trans ag).trans ao).trans am).trans ap).trans ar).trans az).trans aC).trans aI).trans aT).trans aV).trans a1).trans a2).trans a4).trans a5).trans a6).trans aP).trans a9),br⟩)
        refine U.kn 336 cj ?_
        refine vs 13 ?_
        refine er ?_
        cases av d
        exact rt func6 (.tmp rfl .nil) (so (so (so sr))) (aN _ _ _ ⟨((((((((((((((((((((((((((((((((((ab.trans M).trans N).trans G).trans O).trans P).trans Q).trans I).trans S).trans J).trans T).trans L).trans V).trans W).trans Y).trans Z).trans ac).trans an).trans ag).trans ao).trans am).trans ap).trans ar).trans az).trans aC).trans aI).trans aT).trans aV).trans a1).trans a2).trans a4).trans a5).trans a6).trans aP).trans a9),br⟩)
       refine U.kn 332 ci ?_
       refine vs 17 ?_
       refine er ?_
       cases av d
       exact rt func6 (.tmp rfl .nil) (so (so (so sr))) (aN _ _ _ ⟨((((((((((((((((((((((((((((((((((ab.trans M).trans N).trans G).trans O).trans P).trans Q).trans I).trans S).trans J).trans T).trans L).trans V).trans W).trans Y).trans Z).trans ac).trans an).trans ag).trans ao).trans am).trans ap).trans ar).trans az).trans aC).trans aI).trans aT).trans aV).trans a1).trans a2).trans a4).trans a5).trans a6).trans aP).trans a9),br⟩)
      refine U.kn 328 ch ?_
      refine vs 21 ?_
      refine er ?_
      cases av d
      exact rt func6 (.tmp rfl .nil) (so (so (so sr))) (aN _ _ _ ⟨((((((((((((((((((((((((((((((((((ab.trans M).trans N).trans G).trans O).trans P).trans Q).trans I).trans S).trans J).trans T).trans L).trans V).trans W).trans Y).trans Z).trans ac).trans an).trans ag).trans ao).trans am).trans ap).trans ar).trans az).trans aC).trans aI).trans aT).trans aV).trans a1).trans a2).trans a4).trans a5).trans a6).trans aP).trans a9),br⟩)
     refine U.kn 324 cf ?_
     refine vs 25 ?_
     refine er ?_
     cases av d
     exact rt func6 (.tmp rfl .nil) (so (so (so sr))) (aN _ _ _ ⟨((((((((((((((((((((((((((((((((((ab.trans M).trans N).trans G).trans O).trans P).trans Q).trans I).trans S).trans J).trans T).trans L).trans V).trans W).trans Y).trans Z).trans ac).trans an).trans ag).trans ao).trans am).trans ap).trans ar).trans az).trans aC).trans aI).trans aT).trans aV).trans a1).trans a2).trans a4).trans a5).trans a6).trans aP).trans a9),br⟩)
    refine U.kn 320 ce ?_
    refine vs 29 ?_
    refine er ?_
    cases av d
    exact rt func6 (.tmp rfl .nil) (so (so (so sr))) (aN _ _ _ ⟨((((((((((((((((((((((((((((((((((ab.trans M).trans N).trans G).trans O).trans P).trans Q).trans I).trans S).trans J).trans T).trans L).trans V).trans W).trans Y).trans Z).trans ac).trans an).trans ag).trans ao).trans am).trans ap).trans ar).trans az).trans aC).trans aI).trans aT).trans aV).trans a1).trans a2).trans a4).trans a5).trans a6).trans aP).trans a9),br⟩)
   refine U.kn 316 cd ?_
   refine vs 33 ?_
   refine er ?_
   cases av d
   exact rt func6 (.tmp rfl .nil) (so (so (so sr))) (aN _ _ _ ⟨((((((((((((((((((((((((((((((((((ab.trans M).trans N).trans G).trans O).trans P).trans Q).trans I).trans S).trans J).trans T).trans L).trans V).trans W).trans Y).trans Z).trans ac).trans an).trans ag).trans ao).trans am).trans ap).trans ar).trans az).trans aC).trans aI).trans aT).trans aV).trans a1).trans a2).trans a4).trans a5).trans a6).trans aP).trans a9),br⟩)
  refine U.kn 312 cc ?_
  refine vs 37 ?_
  refine er ?_
  cases av d
  exact rt func6 (.tmp rfl .nil) (so (so (so sr))) (aN _ _ _ ⟨((((((((((((((((((((((((((((((((((ab.trans M).trans N).trans G).trans O).trans P).trans Q).trans I).trans S).trans J).trans T).trans L).trans V).trans W).trans Y).trans Z).trans ac).trans an).trans ag).trans ao).trans am).trans ap).trans ar).trans az).trans aC).trans aI).trans aT).trans aV).trans a1).trans a2).trans a4).trans a5).trans a6).trans aP).trans a9),br⟩)
 refine U.kn 308 cb ?_
 refine vs 41 ?_
 refine er ?_
 cases av d
 exact rt func6 (.tmp rfl .nil) (so (so (so sr))) (aN _ _ _ ⟨((((((((((((((((((((((((((((((((((ab.trans M).trans N).trans G).trans O).trans P).trans Q).trans I).trans S).trans J).trans T).trans L).trans V).trans W).trans Y).trans Z).trans ac).trans an).trans ag).trans ao).trans am).trans ap).trans ar).trans az).trans aC).trans aI).trans aT).trans aV).trans a1).trans a2).trans a4).trans a5).trans a6).trans aP).trans a9),br⟩)
theorem zb(f:(List Int))(x1:Int){v0:Value}(g:bE (CI .u16) 1 R H v0 f){r:Int}(d:lh f x1=some r):aL af 44 #[v0,iv x1] R H (λ v R' H'=>R=R'∧H=H'∧v=iv r):=by
 unfold lh at d
 refine aY func44 15 λ fr cs m=>?_
 refine sg aB ?_
 refine vs 1 ?_
 refine es ?_
 refine sg bA ?_
 refine vs 2 ?_
 refine lr g underlying33 ?_
 refine vs 1 ?_
 have ⟨F,z,d⟩:=ae d
 refine U.cv e6 (e8 x1 0 (i64 ((f.length:Int) - 1))  z) ?_
 rintro _ _ _ ⟨rfl,rfl,rfl⟩
 refine er ?_
 refine sc d ?_ ?_<;>intro D d
 ·refine sg b4 ?_
  refine vs 2 ?_
  have ⟨G,A,d⟩:=ae d
  obtain ⟨C,E,_,rfl,s,y⟩:=g.elem AD A
  refine bX y ?_
  refine U.ld zP ((s.sub pp).one (j:=0) rfl) ?_
  refine hQ underlying159 underlying3 ?_
  refine vs 1 ?_
  refine er ?_
  cases av d
  exact rt func44 (.tmp rfl .nil) sr (m _ _ _ aG)
 refine sp ?_
 refine sg aB ?_
 refine vs 1 ?_
 refine er ?_
 cases av d
 exact rt func44 (.tmp rfl .nil) sr (m _ _ _ aG)
theorem zc(f:Int)(x1:Int)  {r:de} (d:rB f x1=some r):aL af 45 #[iv f,iv x1] R H (λ v R' H'=>R=R'∧H=H'∧v = .agg #[iv r.aQ,iv r.aZ]):=by
 unfold rB at d
 refine aY func45 8 λ fr cs g=>?_
 refine sg aB ?_
 refine bu (#[iv 0,iv 0]) By λ m=>?_
 refine nx bb ?_
 refine vs 2 ?_
 refine cF (#[_,_]) AM ?_
 refine bC (#[_,_]) gw .here ?_
 refine er ?_
 cases av d
 exact rt func45 (.agg rfl gw rfl (aK.box z0) .nil) (so sr) (g _ _ _ aG)
theorem IU(f:Reach)(x1:Int)  {r:Int} (d:n2 f x1=some r):aL af 46 #[.agg #[iv f.ai,iv f.ak],iv x1] R H (λ v R' H'=>R=R'∧H=H'∧v=iv r):=by
 unfold n2 at d
 refine aY func46 16 λ fr cs g=>?_
 refine sg aC ?_
 refine bx λ s=>?_
 refine vs 1 ?_
 refine es ?_
 refine U.dw gW mixed ?_
 refine Any.vs 1 [0] rfl ?_
 refine tl 1 0 aI z0 ?_
 refine Any.vs 2 [2,3] rfl ?_
 refine tl 4 1 aI z0 ?_
 refine Any.vs 1 [5] rfl ?_
 refine tl 6 0 aI z0 ?_
 refine Any.vs 2 [7,8] rfl ?_
 have ⟨A,m,d⟩:=ae d
 refine Any.tk 9 rfl pp (λ R' H' y z=>Ox.rem rfl rfl rfl m rfl (.one rfl) aG) ?_
 refine Any.vs 2 [10,11] rfl ?_
 refine Any.done ?_
 cases av d
 exact rt func46 (.tmp rfl .nil) (so sr) (g _ _ _ aG)
theorem Jm(f:bg)(x1:(List Int))(x2:Int){A C v1:Value}(ad:ah dx 2 R A f.a4)(ag:ah c0 5 R C f.aN)(ak:bE (CI .u16) 1 R H v1 x1){r:ht}(d:m7 f x1 x2=some r):aL af 7 #[.agg #[iv f.a9,iv f.bh,iv f.a5,A,C],v1,.int .u8 x2] R H (λ v R' H'=>aH R R'∧H=H'∧∃ a6 a7,ah CZ 1 R' a6 r.fV∧ah CZ 1 R' a7 r.a5∧v = .agg #[iv r.U.aQ,iv r.U.aZ,a6,a7]):=by
 unfold m7 at d
 refine aY func7 87 λ fr cs bz=>?_
 refine sg aC ?_
 refine bx λ z=>?_
 refine bu (#[iv 0,iv 0,aw,aw]) sj λ m=>?_
 refine es ?_
 refine U.dw dW mixed ?_
 refine Any.vs 2 [0,2] rfl ?_
 refine tl 3 0 aI z1 ?_
 refine Any.vs 1 [4] rfl ?_
 refine tl 5 1 aI z1 ?_
 refine Any.vs 1 [6] rfl ?_
 have ⟨cT,bO,d⟩:=ae d
 refine Any.cv 1 xD (zb x1 0 (ak.sub (su (so (so sr)))) bO) ?_
 rintro _ _ _ ⟨rfl,rfl,rfl⟩
 refine kp ?_
 have ⟨cU,bP,d⟩:=ae d
 refine Any.tk 7 rfl pp (λ R' H' I O=>Ox.rem rfl rfl rfl bP rfl (.one rfl) aG) ?_
 refine Any.vs 1 [8] rfl ?_
 refine Any.done ?_
 refine sq ?_
 have ⟨ba,bQ,d⟩:=ae d
 have ⟨bb,bS,d⟩:=ae d
 have ⟨y,aO,d⟩:=ae d
 refine U.cut (λ R' H' aa=>R=R'∧∃ (g:Nat),H'=(g,.cells #[iv y.aQ,iv y.aZ,aw,aw] 40)::(m,.cells #[iv 0,iv 0,aw,aw] 40)::(z,.cells #[iv f.a9,iv f.bh,iv f.a5,A,C] 32)::H∧aA aa [(1,v1),(2,.int .u8 x2),(3,pT z),(6,pT m),(8,pT g)]) ?_ ?_
 ·rintro cu ck cR ⟨rfl,g,rfl,bN⟩
  refine U.sub bN ?_
  refine sq ?_
  refine sg aB ?_
  refine vs 1 ?_
  refine er ?_
  refine U.aP ?_
  refine U.cQ d (λ (Q:(Int × (List Int))) R' H' aa=>R=R'∧∃ L M,aX CZ 1 3 R' L Q.2 M∧H'=M++((g,.cells #[iv y.aQ,iv y.aZ,L,aw] 40)::(m,.cells #[iv 0,iv 0,aw,aw] 40)::(z,.cells #[iv f.a9,iv f.bh,iv f.a5,A,C] 32)::H)∧aA aa [(1,v1),(2,.int .u8 x2),(3,pT z),(6,pT m),(8,pT g),(9,iv Q.1)]) (λ (aT:(List Int)) R' H' aa=>R=R'∧∃ E D,aX CZ 1 3 R' E aT D∧H'=D++((g,.cells #[iv y.aQ,iv y.aZ,E,aw] 40)::(m,.cells #[iv 0,iv 0,aw,aw] 40)::(z,.cells #[iv f.a9,iv f.bh,iv f.a5,A,C] 32)::H)∧aA aa [(2,.int .u8 x2),(3,pT z),(6,pT m),(8,pT g)]) 0 rfl ⟨rfl,aw,[],aX.nil,rfl,aq cS⟩ ?_ ?_
  rotate_right
  ·rintro Q cm cd cK ⟨rfl,L,M,ap,rfl,bF⟩ cV d bf bm
   refine U.sub bF ?_
   refine sq ?_
   refine sg bA ?_
   refine vs 2 ?_
   refine ld 3 gU (bH _ z2) ?_
   refine ls ad underlying29 ?_
   refine vs 1 ?_
   refine er ?_
   refine sc d ?_ ?_<;>intro cD d
   ·refine sp ?_
    refine sq ?_
    refine U.aP ?_
    refine U.draw (n:=16) (is:=[0,1,2,3,4,5,6,7,8,9,10,11,12,13,14,15]) (many (M++((g,.cells #[iv y.aQ,iv y.aZ,L,aw] 40)::(m,.cells #[iv 0,iv 0,aw,aw] 40)::(z,.cells #[iv f.a9,iv f.bh,iv f.a5,A,C] 32)::H)) [(13,(g,.cells #[iv y.aQ,iv y.aZ,L,aw] 40)::(m,.cells #[iv 0,iv 0,aw,aw] 40)::(z,.cells #[iv f.a9,iv f.bh,iv f.a5,A,C] 32)::H),(15,(m,.cells #[iv 0,iv 0,aw,aw] 40)::(z,.cells #[iv f.a9,iv f.bh,iv f.a5,A,C] 32)::H)]) mixed rfl (by decide +kernel) rfl rfl ?_
    refine Any.vs 1 [0] rfl ?_
    refine ts 1 [13,14,15] rfl (aF rfl (aF rfl (aU (su (az (sk (so (so sr)))))))) (su (az (sk (so (so sr))))) (kX cb 2 z0) ?_
    refine Any.vs 1 [2] rfl ?_
    refine ts 3 [5,6,11,12,13,14,15] rfl (aF rfl (aF rfl (aU (su (az (so (so sr))))))) (su (az (so (so sr)))) (kX gU 3 z0) ?_
    refine Any.vs 1 [4] rfl ?_
    have ⟨b8,bT,d⟩:=ae d
    have ⟨b9,bU,d⟩:=ae d
    have ⟨cc,bV,d⟩:=ae d
    have ⟨cW,bW,d⟩:=ae d
    obtain ⟨cA,cI,_,rfl,bp,bs⟩:=ad.elem qe bT
    refine ts 5 [6,11,12,13,14,15] rfl (aF rfl (aF rfl (aU (su (az (so (so (so sr)))))))) (su (az (so (so (so sr))))) (kI bs) ?_
    refine ts 6 [11,12,13,14,15] rfl (aF rfl (aF rfl (aU (su (az (so (so (so sr)))))))) (su (az (so (so (so sr))))) (λ R' H' I O=>Ox.bB (vs:=[_,_]) rfl rfl cB rfl ((bp.up I).part (j:=0) (n:=2) rfl) rfl (.one rfl) aG) ?_
    refine Any.vs 3 [7,8,9] rfl ?_
    refine Any.cv 10 xD (zb x1 (i64 (Q.1+1)) (ak.sub (su (az (so (so (so sr)))))) bU) ?_
    rintro _ _ _ ⟨rfl,rfl,rfl⟩
    refine ⟨rr,(bo rfl pp),?_⟩
    refine Any.cv 11 D7 (IU b8 b9  bV) ?_
    rintro _ _ _ ⟨rfl,rfl,rfl⟩
    refine ⟨rr,(bo rfl pp),?_⟩
    refine Any.on 12 rfl rfl (aJ.to (Ox.buildSlice (cells:=#[_]) rfl cw rfl (by decide) c7 (ca rfl rfl rfl rfl cE) rfl λ bi _ _=>⟨_,(.put rfl),⟨rr,(bo rfl (su (so sr))),?_⟩⟩))
    refine Any.on 13 rfl rfl (aJ.to (Ox.append (K:=CZ) (λ X=>(bi,_)::X++((g,_)::(m,_)::(z,_)::H)) rfl rfl rfl eh underlying25 (by simp) (.cons .id) ap (eB cc rfl) bW rfl λ b6 bd ar=>⟨_,(.put rfl),⟨rr,(bo rfl (su (so (az sr)))),?_⟩⟩))
    refine Any.vs 1 [14] rfl ?_
    refine Any.on 15 rfl rfl (aJ.to (Ox.dE (cs':=#[_,_,_,_]) rfl rfl rfl cb ar.one (.there (.skip .here)) rfl rfl rfl (.refl _) ⟨rr,(bo rfl (su (so (az (so sr))))),?_⟩))
    refine Any.done ?_
    refine U.a0 ?_
    refine U.rg aM ?_
    refine vs 3 ?_
    refine er ?_
    exact U.aR (so sr) (bf _ (au d) _ _ _ ⟨rfl,b6,bd,ar,rfl,aq cS⟩)
   exact U.bw rfl (bm _ (au d) _ _ _ ⟨rfl,L,M,ap,rfl,aq bt⟩)
  rintro aT cn ce cL ⟨rfl,E,D,bD,rfl,bG⟩ d
  refine U.sub bG ?_
  refine sq ?_
  refine sg aB ?_
  refine vs 1 ?_
  refine er ?_
  refine U.aP ?_
  refine U.cQ d (λ (J:(Int × (List Int))) R' H' aa=>R=R'∧∃ G F,aX CZ 1 3 R' G J.2 F∧H'=F++(D++((g,.cells #[iv y.aQ,iv y.aZ,E,G] 40)::(m,.cells #[iv 0,iv 0,aw,aw] 40)::(z,.cells #[iv f.a9,iv f.bh,iv f.a5,A,C] 32)::H))∧aA aa [(2,.int .u8 x2),(3,pT z),(6,pT m),(8,pT g),(10,iv J.1)]) (λ (aV:(List Int)) R' H' aa=>R=R'∧∃ S N,aX CZ 1 3 R' S aV N∧H'=N++(D++((g,.cells #[iv y.aQ,iv y.aZ,E,S] 40)::(m,.cells #[iv 0,iv 0,aw,aw] 40)::H))∧aA aa [(6,pT m),(8,pT g)]) 2 rfl ⟨rfl,aw,[],aX.nil,rfl,aq b2⟩ ?_ ?_
  rotate_right
  ·rintro J co cf cM ⟨rfl,G,F,P,rfl,bI⟩ cX d Z bn
   refine U.sub bI ?_
   refine sq ?_
   refine sq ?_
   refine U.da d (λ (a1:Bool) R' H' aa=>R=R'∧H'=F++(D++((g,.cells #[iv y.aQ,iv y.aZ,E,G] 40)::(m,.cells #[iv 0,iv 0,aw,aw] 40)::(z,.cells #[iv f.a9,iv f.bh,iv f.a5,A,C] 32)::H))∧aA aa [(2,.int .u8 x2),(3,pT z),(6,pT m),(8,pT g),(10,iv J.1),(63,.bool a1)])  ?_ ?_
   rotate_right
   ·intro cZ d ab
    refine U.rg ov ?_
    refine vs 2 ?_
    refine U.ld eM ((aK.box (bH _ (bH _ z2))).one (j:=4) rfl) ?_
    refine ls ag underlying30 ?_
    refine vs 2 ?_
    refine a8 d (λ W d=>?_) (λ W d=>?_)
    ·refine U.kn 56 W ?_
     refine vs 1 ?_
     refine U.ld cb ((aK.box (bH _ (bH _ z0))).one (j:=3) rfl) ?_
     refine U.s rfl rfl (Ox.js rfl rfl P underlying25 rfl (.put rfl) ?_)
     refine vs 1 ?_
     refine U.ld aI ((aK.box (bH _ (bH _ z2))).one (j:=2) rfl) ?_
     refine vs 2 ?_
     refine er ?_
     exact ab _ (au d) _ _ _ ⟨rfl,rfl,aq cS⟩
    refine U.kn 56 W ?_
    refine vs 7 ?_
    refine er ?_
    exact ab _ (au d) _ _ _ ⟨rfl,rfl,aq cS⟩
   rintro a1 cq ci cO ⟨rfl,rfl,bL⟩ d
   refine U.sub bL ?_
   refine sc d ?_ ?_<;>intro cF d
   ·refine sp ?_
    refine sq ?_
    refine U.aP ?_
    refine sq ?_
    refine U.da d (λ (a2:Bool) R' H' aa=>R=R'∧H'=F++(D++((g,.cells #[iv y.aQ,iv y.aZ,E,G] 40)::(m,.cells #[iv 0,iv 0,aw,aw] 40)::(z,.cells #[iv f.a9,iv f.bh,iv f.a5,A,C] 32)::H))∧aA aa [(2,.int .u8 x2),(3,pT z),(6,pT m),(8,pT g),(10,iv J.1),(79,.bool a2)])  ?_ ?_
    rotate_right
    ·intro c1 d ac
     refine U.rg ko ?_
     refine vs 2 ?_
     have ⟨c3,bY,d⟩:=ae d
     refine U.s rfl rfl (Ox.shr rfl rfl rfl bY rfl (.put rfl) ?_)
     have ⟨c4,b1,d⟩:=ae d
     refine U.s rfl rfl (Ox.bits rfl rfl rfl b1 rfl (.put rfl) ?_)
     refine vs 2 ?_
     refine a8 d (λ Y d=>?_) (λ Y d=>?_)
     ·refine U.kn 71 Y ?_
      refine vs 1 ?_
      refine U.ld eM ((aK.box (bH _ (bH _ z2))).one (j:=4) rfl) ?_
      refine vs 1 ?_
      have ⟨c5,b3,d⟩:=ae d
      obtain ⟨cC,cJ,_,rfl,bq,bv⟩:=ag.elem je b3
      refine bX bv ?_
      refine vs 1 ?_
      refine U.ld eN (bq.any.one (j:=4) rfl) ?_
      refine vs 2 ?_
      refine er ?_
      exact ac _ (au d) _ _ _ ⟨rfl,rfl,aq cS⟩
     refine U.kn 71 Y ?_
     refine vs 8 ?_
     refine er ?_
     exact ac _ (au d) _ _ _ ⟨rfl,rfl,aq cS⟩
    rintro a2 ct cj cP ⟨rfl,rfl,bM⟩ d
    refine U.sub bM ?_
    refine sc d ?_ ?_<;>intro cH d
    ·refine U.rg dc ?_
     refine vs 1 ?_
     refine U.ld cb ((aK.box (bH _ (bH _ z0))).one (j:=3) rfl) ?_
     refine vs 1 ?_
     refine dt (#[_]) cw c7 λ bk=>?_
     have ⟨c6,b4,d⟩:=ae d
     refine U.s rfl rfl (Ox.append (K:=CZ) (λ X=>(bk,_)::X++(D++((g,_)::(m,_)::(z,_)::H))) rfl rfl rfl eh underlying25 (by simp) (.cons .id) P (eB J.1 rfl) b4 rfl λ b7 be ax=>⟨_,(.put rfl),?_⟩)
     refine vs 1 ?_
     refine U.s rfl rfl (Ox.dE (cs':=#[_,_,_,_]) rfl rfl rfl cb ax.one (.there (.skip (.skip .here))) rfl rfl rfl (.refl _) ?_)
     refine er ?_
     refine U.a0 ?_
     refine U.rg aM ?_
     refine vs 3 ?_
     refine er ?_
     exact U.aR (so sr) (Z _ (au d) _ _ _ ⟨rfl,b7,be,ax,rfl,aq b2⟩)
    refine sp ?_
    refine U.a0 ?_
    refine U.rg aM ?_
    refine vs 3 ?_
    refine er ?_
    exact Z _ (au d) _ _ _ ⟨rfl,G,F,P,rfl,aq b2⟩
   exact U.bw rfl (U.aR (dm (dm (sk (sk (so sr))))) (bn _ (au d) _ _ _ ⟨rfl,G,F,P,rfl,aq cg⟩))
  rintro aV cp ch cN ⟨rfl,S,N,V,rfl,bJ⟩ d
  refine U.sub bJ ?_
  refine sg aC ?_
  refine U.s rfl rfl (Ox.bB (vs:=[_,_,_,_]) rfl rfl lT rfl ((aK.box (bH _ (bH _ z0))).part (j:=0) (n:=4) rfl) rfl (.put rfl) ?_)
  refine bC (#[_,_,_,_]) lT (.skip (.skip (.there .here))) ?_
  refine er ?_
  refine U.dg (H2:=N++((g,_)::(m,_)::H)) (λ X=>N++(X++((g,_)::(m,_)::H))) (.app .id) rfl bD (λ cx am T=>?_)
  replace V:=V.mono am
  refine U.dg (H2:=(g,_)::(m,_)::H) (λ X=>X++((g,_)::(m,_)::H)) .id rfl V (λ cy an br=>?_)
  replace T:=T.mono an
  cases av d
  exact rt func7 (.agg rfl lT rfl (aK.box z1) .nil) (so (so sr)) (bz _ _ _ ⟨(am.trans an),rfl,E,S,T,br,rfl⟩)
 intro ao
 refine U.dw gW mixed ?_
 refine Any.vs 2 [0,1] rfl ?_
 refine tl 2 0 aI z1 ?_
 refine Any.tk 3 rfl pp (λ R' H' I O=>Ox.rem rfl rfl rfl bQ rfl (.one rfl) aG) ?_
 refine Any.vs 2 [4,5] rfl ?_
 refine tl 6 0 aI z1 ?_
 refine Any.tk 7 rfl pp (λ R' H' I O=>Ox.quo rfl rfl rfl bS rfl (.one rfl) aG) ?_
 refine tw 8 10 ?_ ?_
 ·refine  (Ox.b5 rfl rfl rfl rfl xE rfl rfl ((zc ba bb  aO).mono ?_))
  rintro _ _ _ ⟨rfl,rfl,rfl⟩
  refine ⟨_,(.put rfl),⟨rr,ka,?_⟩⟩
  refine Any.tk 9 rfl pp (λ R' H' I O=>Ox.build (cells:=#[_,_,_,_]) rfl AN rfl (ca rfl rfl rfl rfl cE) rfl (.one rfl) aG) ?_
  refine Any.on 10 rfl rfl (aJ.to (Ox.alloc (cs:=#[iv 0,iv 0,aw,aw]) rfl sj rfl λ g _ _=>⟨_,(.put rfl),⟨rr,(ku (so sr)),?_⟩⟩))
  refine Any.on 11 rfl rfl (aJ.to (Ox.cG (cs':=#[_,_,_,_]) rfl rfl rfl lT rfl (aW rfl (aW rfl (aW rfl (aW rfl bl)))) .here rfl rfl rfl (.refl _) ⟨rr,(ku (so sr)),?_⟩))
  exact Any.done (ao _ _ _ ⟨rfl,g,rfl,aq b2⟩)
 refine  (aJ.to (Ox.alloc (cs:=#[iv 0,iv 0,aw,aw]) rfl sj rfl λ g _ _=>⟨_,(.put rfl),⟨rr,(ku (so sr)),?_⟩⟩))
 refine Any.cv 8 xE (zc ba bb  aO) ?_
 rintro _ _ _ ⟨rfl,rfl,rfl⟩
 refine ⟨rr,(ku (so sr)),?_⟩
 refine Any.tk 9 rfl (su (so sr)) (λ R' H' I O=>Ox.build (cells:=#[_,_,_,_]) rfl AN rfl (ca rfl rfl rfl rfl cE) rfl (.one rfl) aG) ?_
 refine Any.on 11 rfl rfl (aJ.to (Ox.cG (cs':=#[_,_,_,_]) rfl rfl rfl lT rfl (aW rfl (aW rfl (aW rfl (aW rfl bl)))) .here rfl rfl rfl (.refl _) ⟨rr,(ku (so sr)),?_⟩))
 exact Any.done (ao _ _ _ ⟨rfl,g,rfl,aq b2⟩)
end
end Go.Proofs.YtoaoffinglajbaaGreatDoor
