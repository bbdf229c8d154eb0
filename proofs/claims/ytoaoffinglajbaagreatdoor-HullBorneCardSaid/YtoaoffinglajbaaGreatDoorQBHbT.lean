/- x -/
import Derived.Test.YtoaoffinglajbaaGreatDoorQBHbP12
import Derived.Test.YtoaoffinglajbaaGreatDoorQBLgD
namespace Go.Proofs.YtoaoffinglajbaaGreatDoor
open Go.Lg Go.Proofs Tryz
set_option maxRecDepth 100000
set_option maxHeartbeats 4000000
section
variable {B:Base} {main:Bool} {af:Jd prog B main} {R:ay} {H:aj}
theorem IP{PW:Value→World→Prop}(f:an)(x1:bg)(x2:(List Int))(x3:Int)(x4:Int)(x5:Int){F G bQ bi bk v2:Value}(m:dX R)(ar:kC (pW prog B PW))(g:ah bz 5 R F f.ao)(y:ah CZ 1 R G f.Out)(_:ah bq 2 R bQ f.aV)(a6:ah dx 2 R bi x1.a4)(ba:ah c0 5 R bk x1.aN)(z:bE (CI .u16) 1 R H v2 x2){r:Bool}(d:m3 f x1 x2 x3 x4 x5=some r):qz prog B PW 3 #[.agg #[iv f.ax,iv f.ad.ai,iv f.ad.ak,F,G,bQ],.agg #[iv x1.a9,iv x1.bh,iv x1.a5,bi,bk],v2,.int .u8 x3,.int .u8 x4,.int .u8 x5] R H (λ v R' H'=>aH R R'∧H=H'∧v = .bool r):=by
 unfold m3 at d
 refine qz.rQ (args:=[.agg #[iv f.ax,iv f.ad.ai,iv f.ad.ak,F,G,bQ],.agg #[iv x1.a9,iv x1.bh,iv x1.a5,bi,bk],v2,.int .u8 x3,.int .u8 x4,.int .u8 x5]) func3 rfl (n:=185) rfl rfl λ V=>?_
 refine sg aM ?_
 refine bx λ E=>?_
 refine bx λ T=>?_
 refine vs 1 ?_
 refine nx aC ?_
 refine vs 1 ?_
 refine eC (#[_,_,_,_,_,_]) ei (.there .here) ?_
 refine es ?_
 refine sq ?_
 refine U.da d (λ (b8:Bool) R' H' aa=>R=R'∧H'=(T,.cells #[iv x1.a9,iv x1.bh,iv x1.a5,bi,bk] 32)::(E,.cells #[iv f.ax,iv f.ad.ai,iv f.ad.ak,F,G,aw] 28)::H∧aA aa [(2,v2),(3,.int .u8 x3),(4,.int .u8 x4),(5,.int .u8 x5),(6,pT E),(7,pT T),(34,.bool b8)])  ?_ ?_
 rotate_right
 ·intro ef d bY
  refine U.rg cX ?_
  refine lN [_,_,_,_,_,_] 0 6 a7 z1 ?_
  have ⟨eg,cx,d⟩:=ae d
  refine U.cv D3 (IY (⟨f.ax,⟨f.ad.ai,f.ad.ak⟩,f.ao,f.Out,[]⟩:an) g y ah.nil cx) ?_
  rintro _ _ _ ⟨rfl,rfl,rfl⟩
  refine vs 2 ?_
  refine a8 d (λ bD d=>?_) (λ bD d=>?_)
  ·refine U.kn 30 bD ?_
   refine vs 4 ?_
   refine er ?_
   exact bY _ (au d) _ _ _ ⟨rfl,rfl,aq fc⟩
  refine U.kn 30 bD ?_
  refine lN [_,_,_,_,_] 0 5 df z0 ?_
  have ⟨eh,cy,d⟩:=ae d
  refine U.cv Ea (I9 x1 a6 ba cy) ?_
  rintro _ _ _ ⟨rfl,rfl,rfl⟩
  refine vs 2 ?_
  refine er ?_
  exact bY _ (au d) _ _ _ ⟨rfl,rfl,aq fc⟩
 rintro b8 dv dm d4 ⟨rfl,rfl,cn⟩ d
 refine U.sub cn ?_
 refine sc d ?_ ?_<;>intro dY d
 ·refine sg aC ?_
  have ⟨ej,cA,d⟩:=ae d
  refine U.cv o4 (pQ  m ar cA) ?_
  rintro _ dG _ ⟨ci,rfl,rfl⟩
  refine vs 1 ?_
  refine er ?_
  cases av d
  exact U.lF func3 (by kernel_rfl) (.tmp rfl .nil) (so (so sr)) V ⟨ci,br⟩
 refine sp ?_
 refine sg b4 ?_
 refine lN [_,_,_,_,_] 0 5 df z0 ?_
 refine vs 2 ?_
 have ⟨A,cC,d⟩:=ae d
 refine U.cv El (Jm x1 x2 x3 a6 ba (z.sub (su (so (so sr)))) cC) ?_
 rintro _ dH _ ⟨S,rfl,Y,Z,cD,aP,rfl⟩
 have ⟨g,y,a6,ba⟩:=di S g y a6 ba
 replace z:=z.le S
 replace m:=m.mono S
 refine bu (#[iv 0,iv 0,aw,aw]) sj λ J=>?_
 refine bC (#[_,_,_,_]) lT .here ?_
 refine nx bb ?_
 refine lN [_,_,_,_,_] 0 5 df z1 ?_
 refine lN [_,_,_,_] 0 4 lT z0 ?_
 have ⟨P,cF,d⟩:=ae d
 refine U.cv Er (Jw x1 A a6 ba cD aP cF) ?_
 rintro _ dI _ ⟨N,rfl,bS,bT,bf,W,rfl⟩
 have ⟨g,y⟩:=dC N g y
 replace z:=z.le N
 replace m:=m.mono N
 replace aP:=aP.mono N
 refine bC (#[_,_,_,_,_]) df (.there .here) ?_
 refine nx hW ?_
 refine lN [_,_,_,_,_] 0 5 df z1 ?_
 have ⟨C,cI,d⟩:=ae d
 refine U.cv xK (zx P m bf W cI) ?_
 rintro _ bs _ ⟨O,rfl,rfl⟩
 have ⟨g,y⟩:=dC O g y
 replace z:=z.le O
 replace m:=m.mono O
 have ⟨aP,bf,W⟩:=cH O aP bf W
 refine vs 4 ?_
 refine bu (#[iv 0,iv 0]) fT λ L=>?_
 refine bu (#[iv 0,iv 0]) fT λ dS=>?_
 refine bC (#[_,_]) cB (.there .here) ?_
 refine bC (#[_,_]) cB .here ?_
 refine vs 1 ?_
 refine es ?_
 refine sq ?_
 refine U.da d (λ (b9:Bool) R' H' aa=>bs=R'∧H'=(L,.cells #[iv C.1.ai,iv C.1.ak] 23)::(J,.cells #[iv A.U.aQ,iv A.U.aZ,Y,Z] 40)::(T,.cells #[iv P.a9,iv P.bh,iv P.a5,bS,bT] 32)::(E,.cells #[iv f.ax,iv f.ad.ai,iv f.ad.ak,F,G,aw] 28)::H∧aA aa [(2,v2),(4,.int .u8 x4),(5,.int .u8 x5),(6,pT E),(7,pT T),(13,pT J),(14,pT L),(61,.bool b9)])  ?_ ?_
 rotate_right
 ·intro ek d b1
  refine U.rg ov ?_
  refine vs 3 ?_
  refine a8 d (λ bF d=>?_) (λ bF d=>?_)
  ·refine U.kn 51 bF ?_
   refine vs 10 ?_
   refine er ?_
   exact U.aR (so sr) (b1 _ (au d) _ _ _ ⟨rfl,rfl,aq ij⟩)
  refine U.kn 51 bF ?_
  refine vs 2 ?_
  refine ld 0 aI z2 ?_
  refine vs 1 ?_
  refine ld 0 aI z1 ?_
  refine vs 1 ?_
  refine ld 1 aI z1 ?_
  have ⟨el,cJ,d⟩:=ae d
  refine U.cv e6 (e8 A.U.aQ C.1.ai C.1.ak  cJ) ?_
  rintro _ _ _ ⟨rfl,rfl,rfl⟩
  refine vs 2 ?_
  refine er ?_
  exact U.aR (so sr) (b1 _ (au d) _ _ _ ⟨rfl,rfl,aq ij⟩)
 rintro b9 dy dn d5 ⟨rfl,rfl,co⟩ d
 refine U.sub co ?_
 refine sc d ?_ ?_<;>intro dZ d
 ·refine sg aB ?_
  refine vs 1 ?_
  refine er ?_
  cases av d
  exact U.lF func3 (by kernel_rfl) (.tmp rfl .nil) (so (so (so (so sr)))) V ⟨((S.trans N).trans O),br⟩
 refine sp ?_
 refine sq ?_
 refine sq ?_
 refine U.da d (λ (cc:Bool) R' H' aa=>bs=R'∧H'=(L,.cells #[iv C.1.ai,iv C.1.ak] 23)::(J,.cells #[iv A.U.aQ,iv A.U.aZ,Y,Z] 40)::(T,.cells #[iv P.a9,iv P.bh,iv P.a5,bS,bT] 32)::(E,.cells #[iv f.ax,iv f.ad.ai,iv f.ad.ak,F,G,aw] 28)::H∧aA aa [(2,v2),(4,.int .u8 x4),(5,.int .u8 x5),(6,pT E),(7,pT T),(13,pT J),(14,pT L),(73,.bool cc)])  ?_ ?_
 rotate_right
 ·intro em d b2
  refine U.rg gW ?_
  refine vs 1 ?_
  refine ld 1 aI z0 ?_
  refine vs 1 ?_
  refine ld 0 aI z0 ?_
  refine vs 3 ?_
  refine a8 d (λ bG d=>?_) (λ bG d=>?_)
  ·refine U.kn 68 bG ?_
   refine vs 5 ?_
   refine er ?_
   exact b2 _ (au d) _ _ _ ⟨rfl,rfl,aq ij⟩
  refine U.kn 68 bG ?_
  refine vs 1 ?_
  refine ld 4 eM z2 ?_
  refine ls W underlying30 ?_
  refine vs 2 ?_
  refine er ?_
  exact b2 _ (au d) _ _ _ ⟨rfl,rfl,aq ij⟩
 rintro cc dz dp d6 ⟨rfl,rfl,cp⟩ d
 refine U.sub cp ?_
 refine sc d ?_ ?_<;>intro d0 d
 ·refine sg aC ?_
  have ⟨en,cL,d⟩:=ae d
  refine U.cv o4 (pQ  m ar cL) ?_
  rintro _ dJ _ ⟨cj,rfl,rfl⟩
  refine vs 1 ?_
  refine er ?_
  cases av d
  exact U.lF func3 (by kernel_rfl) (.tmp rfl .nil) (so (so (so (so sr)))) V ⟨(((S.trans N).trans O).trans cj),br⟩
 refine sp ?_
 refine sg dc ?_
 refine vs 1 ?_
 refine hQ underlying5 underlying3 ?_
 refine vs 1 ?_
 refine ld 4 eM z2 ?_
 refine ls W underlying30 ?_
 have ⟨bV,cM,d⟩:=ae d
 refine U.s rfl rfl (Ox.rem rfl rfl rfl cM rfl (.put rfl) ?_)
 refine vs 1 ?_
 refine es ?_
 refine sq ?_
 refine U.da d (λ (cd:Bool) R' H' aa=>bs=R'∧H'=(L,.cells #[iv C.1.ai,iv C.1.ak] 23)::(J,.cells #[iv A.U.aQ,iv A.U.aZ,Y,Z] 40)::(T,.cells #[iv P.a9,iv P.bh,iv P.a5,bS,bT] 32)::(E,.cells #[iv f.ax,iv f.ad.ai,iv f.ad.ak,F,G,aw] 28)::H∧aA aa [(2,v2),(4,.int .u8 x4),(5,.int .u8 x5),(6,pT E),(7,pT T),(13,pT J),(14,pT L),(17,iv bV),(92,.bool cd)])  ?_ ?_
 rotate_right
 ·intro eo d b3
  refine U.rg gW ?_
  refine vs 1 ?_
  refine ld 4 eM z2 ?_
  refine vs 1 ?_
  have ⟨ep,b7,d⟩:=ae d
  refine a8 d (λ bH d=>?_) (λ bH d=>?_)
  ·obtain ⟨ch,de,_,rfl,bv,bw⟩:=W.elem je b7
   refine bX bw ?_
   refine vs 1 ?_
   refine U.ld eN (bv.any.one (j:=4) rfl) ?_
   refine vs 1 ?_
   refine U.kn 87 bH ?_
   refine vs 5 ?_
   refine er ?_
   exact b3 _ (au d) _ _ _ ⟨rfl,rfl,aq hl⟩
  have ⟨eq,cN,d⟩:=ae d
  obtain ⟨ch,de,_,rfl,bv,bw⟩:=W.elem je b7
  refine bX bw ?_
  refine vs 1 ?_
  refine U.ld eN (bv.any.one (j:=4) rfl) ?_
  refine vs 1 ?_
  refine U.kn 87 bH ?_
  refine vs 1 ?_
  refine ld 3 cb z1 ?_
  refine vs 1 ?_
  refine U.cv kF (kR A.a5 bV aP.rd cN) ?_
  rintro _ _ _ ⟨rfl,rfl,rfl⟩
  refine vs 1 ?_
  refine er ?_
  exact b3 _ (au d) _ _ _ ⟨rfl,rfl,aq hl⟩
 rintro cd dA dr d7 ⟨rfl,rfl,cq⟩ d
 refine U.sub cq ?_
 refine sc d ?_ ?_<;>intro d1 d
 ·refine sg aC ?_
  have ⟨et,cO,d⟩:=ae d
  refine U.cv o4 (pQ  m ar cO) ?_
  rintro _ dK _ ⟨ck,rfl,rfl⟩
  refine vs 1 ?_
  refine er ?_
  cases av d
  exact U.lF func3 (by kernel_rfl) (.tmp rfl .nil) (so (so (so (so sr)))) V ⟨(((S.trans N).trans O).trans ck),br⟩
 refine sp ?_
 refine sg dW ?_
 refine lN [_,_,_,_,_] 0 5 df z2 ?_
 refine vs 1 ?_
 have ⟨dg,cP,d⟩:=ae d
 refine U.cv CU (Ht P bV m bf W cP) ?_
 rintro _ dL _ ⟨ac,rfl,eb,ec,cQ,cR,rfl⟩
 have ⟨g,y⟩:=dC ac g y
 replace z:=z.le ac
 replace m:=m.mono ac
 refine vs 3 ?_
 refine bu (#[iv 0,iv 0,iv 0,aw,aw]) qq λ dT=>?_
 refine bC (#[_,_,_,_,_]) df .here ?_
 refine vs 1 ?_
 refine nx hW ?_
 refine lN [_,_,_,_,_] 0 5 df z0 ?_
 have ⟨D,cS,d⟩:=ae d
 refine U.cv xK (zx dg.1 m cQ cR cS) ?_
 rintro _ bW _ ⟨ag,rfl,rfl⟩
 have ⟨g,y⟩:=dC ag g y
 replace z:=z.le ag
 replace m:=m.mono ag
 refine vs 4 ?_
 refine bu (#[iv 0,iv 0]) fT λ ab=>?_
 refine bu (#[iv 0,iv 0]) fT λ dU=>?_
 refine bC (#[_,_]) cB (.there .here) ?_
 refine bC (#[_,_]) cB .here ?_
 refine vs 1 ?_
 refine es ?_
 refine sq ?_
 refine U.da d (λ (ce:Bool) R' H' aa=>bW=R'∧H'=(ab,.cells #[iv D.1.ai,iv D.1.ak] 23)::(L,.cells #[iv C.1.ai,iv C.1.ak] 23)::(J,.cells #[iv A.U.aQ,iv A.U.aZ,Y,Z] 40)::(E,.cells #[iv f.ax,iv f.ad.ai,iv f.ad.ak,F,G,aw] 28)::H∧aA aa [(2,v2),(4,.int .u8 x4),(5,.int .u8 x5),(6,pT E),(13,pT J),(14,pT L),(20,pT ab),(136,.bool ce)])  ?_ ?_
 rotate_right
 ·intro eu d a2
  refine U.rg KZ ?_
  refine vs 3 ?_
  refine a8 d (λ bI d=>?_) (λ bI d=>?_)
  ·refine U.kn 108 bI ?_
   refine vs 28 ?_
   refine er ?_
   exact U.aR (so (sk (so (sk (sk (so sr)))))) (a2 _ (au d) _ _ _ ⟨rfl,rfl,aq ij⟩)
  refine U.kn 108 bI ?_
  refine vs 4 ?_
  refine a8 d (λ bJ d=>?_) (λ bJ d=>?_)
  ·refine U.kn 112 bJ ?_
   refine vs 24 ?_
   refine er ?_
   exact U.aR (so (sk (so (sk (sk (so sr)))))) (a2 _ (au d) _ _ _ ⟨rfl,rfl,aq ij⟩)
  refine U.kn 112 bJ ?_
  refine vs 1 ?_
  refine ld 0 aI z1 ?_
  refine vs 1 ?_
  refine ld 0 aI z3 ?_
  refine vs 3 ?_
  refine a8 d (λ bL d=>?_) (λ bL d=>?_)
  ·refine U.kn 119 bL ?_
   refine vs 17 ?_
   refine er ?_
   exact U.aR (so (sk (so (sk (sk (so sr)))))) (a2 _ (au d) _ _ _ ⟨rfl,rfl,aq ij⟩)
  refine U.kn 119 bL ?_
  refine vs 1 ?_
  refine ld 1 aI z1 ?_
  refine vs 1 ?_
  refine ld 1 aI z3 ?_
  refine vs 3 ?_
  refine a8 d (λ bM d=>?_) (λ bM d=>?_)
  ·refine U.kn 126 bM ?_
   refine vs 10 ?_
   refine er ?_
   exact U.aR (so (sk (so (sk (sk (so sr)))))) (a2 _ (au d) _ _ _ ⟨rfl,rfl,aq ij⟩)
  refine U.kn 126 bM ?_
  refine vs 2 ?_
  refine ld 0 aI z4 ?_
  refine vs 1 ?_
  refine ld 0 aI z1 ?_
  refine vs 1 ?_
  refine ld 1 aI z1 ?_
  have ⟨ev,cT,d⟩:=ae d
  refine U.cv e6 (e8 A.U.aQ D.1.ai D.1.ak  cT) ?_
  rintro _ _ _ ⟨rfl,rfl,rfl⟩
  refine vs 2 ?_
  refine er ?_
  exact U.aR (so (sk (so (sk (sk (so sr)))))) (a2 _ (au d) _ _ _ ⟨rfl,rfl,aq ij⟩)
 rintro ce dB ds d8 ⟨rfl,rfl,ct⟩ d
 refine U.sub ct ?_
 refine sc d ?_ ?_<;>intro d2 d
 ·refine sg aB ?_
  refine vs 1 ?_
  refine er ?_
  cases av d
  exact U.lF func3 (by kernel_rfl) (.tmp rfl .nil) (so (so (so (so sr)))) V ⟨((((S.trans N).trans O).trans ac).trans ag),br⟩
 refine sp ?_
 refine sq ?_
 refine U.cut (λ R' H' aa=>bW=R'∧∃ (M:Nat) (Q:Nat),H'=(Q,.cells #[iv f.ax,iv f.ad.ai,iv f.ad.ak,F,G,aw] 28)::(M,.cells #[iv f.ax,iv f.ad.ai,iv f.ad.ak,F,G,aw] 28)::(ab,.cells #[iv D.1.ai,iv D.1.ak] 23)::(L,.cells #[iv C.1.ai,iv C.1.ak] 23)::(J,.cells #[iv A.U.aQ,iv A.U.aZ,Y,Z] 40)::(E,.cells #[iv f.ax,iv f.ad.ai,iv f.ad.ak,F,G,aw] 28)::H∧aA aa [(2,v2),(4,.int .u8 x4),(5,.int .u8 x5),(6,pT E),(13,pT J),(14,pT L),(20,pT ab),(23,pT M),(24,pT Q)]) ?_ ?_
 ·rintro dF du ea ⟨rfl,M,Q,rfl,cw⟩
  refine U.sub cw ?_
  refine sg aM ?_
  refine lN [_,_] 0 2 cB z3 ?_
  refine vs 1 ?_
  refine bC (#[_,_,_,_,_,_]) cB (.there .here) ?_
  refine nx bA ?_
  refine lN [_,_,_,_,_,_] 0 6 a7 z1 ?_
  refine vs 1 ?_
  have ⟨dh,cU,d⟩:=ae d
  refine U.cv C5 (HG (⟨f.ax,⟨C.1.ai,C.1.ak⟩,f.ao,f.Out,[]⟩:an) x2 g y ah.nil (z.sub (su (so (so (so (so (so (so sr)))))))) cU) ?_
  rintro _ dM _ ⟨aL,rfl,bU,cV,rfl⟩
  have ⟨g,y⟩:=dC aL g y
  replace z:=z.le aL
  replace m:=m.mono aL
  refine bu (#[iv 0,aw]) sm λ oX=>?_
  refine bC (#[_,_]) jl .here ?_
  refine nx bA ?_
  refine vs 2 ?_
  refine ld 0 aI z5 ?_
  refine vs 1 ?_
  refine eC (#[_,_]) aI .here ?_
  refine nx bb ?_
  refine lN [_,_,_,_,_,_] 0 6 a7 z2 ?_
  refine lN [_,_] 0 2 jl z0 ?_
  have ⟨I,cW,d⟩:=ae d
  refine U.cv De (HX (⟨f.ax,⟨C.1.ai,C.1.ak⟩,f.ao,f.Out,[]⟩:an) (⟨A.U.aQ,dh.eJ⟩:dq) g y ah.nil cV cW) ?_
  rintro _ cg _ ⟨aO,rfl,bm,bn,bp,aT,aY,a1,rfl⟩
  have ⟨g,y⟩:=dC aO g y
  replace z:=z.le aO
  replace m:=m.mono aO
  refine bC (#[_,_,_,_,_,_]) a7 (.there (.there .here)) ?_
  refine es ?_
  refine U.draw (n:=7) (is:=[0,1,2,3,4,5,6]) (many ((oX,.cells #[iv A.U.aQ,bU] 53)::(Q,.cells #[iv f.ax,iv f.ad.ai,iv f.ad.ak,F,G,aw] 28)::(M,.cells #[iv I.ax,iv I.ad.ai,iv I.ad.ak,bm,bn,bp] 28)::(ab,.cells #[iv D.1.ai,iv D.1.ak] 23)::(L,.cells #[iv C.1.ai,iv C.1.ak] 23)::(J,.cells #[iv A.U.aQ,iv A.U.aZ,Y,Z] 40)::(E,.cells #[iv f.ax,iv f.ad.ai,iv f.ad.ak,F,G,aw] 28)::H) [(4,(oX,.cells #[iv A.U.aQ,bU] 53)::(M,.cells #[iv I.ax,iv I.ad.ai,iv I.ad.ak,bm,bn,bp] 28)::(ab,.cells #[iv D.1.ai,iv D.1.ak] 23)::(L,.cells #[iv C.1.ai,iv C.1.ak] 23)::(J,.cells #[iv A.U.aQ,iv A.U.aZ,Y,Z] 40)::(E,.cells #[iv f.ax,iv f.ad.ai,iv f.ad.ak,F,G,aw] 28)::H),(6,(oX,.cells #[iv A.U.aQ,bU] 53)::(M,.cells #[iv I.ax,iv I.ad.ai,iv I.ad.ak,bm,bn,bp] 28)::(ab,.cells #[iv D.1.ai,iv D.1.ak] 23)::(L,.cells #[iv C.1.ai,iv C.1.ak] 23)::(J,.cells #[iv A.U.aQ,iv A.U.aZ,Y,Z] 40)::(E,.cells #[iv f.ax,iv f.ad.ai,iv f.ad.ak,F,G,aw] 28)::H)]) mixed rfl (by decide +kernel) rfl rfl ?_
  refine Any.vs 1 [0] rfl ?_
  refine ts 1 [3,4,5,6] rfl (aF rfl (aF rfl (aU (su (so (so (sk (so (so (so (so sr))))))))))) (su (so (so (sk (so (so (so (so sr)))))))) (kX aI 0 z0) ?_
  refine ts 2 [5,6] rfl (ih (su (so (so (sk (so (so (so sr))))))) (aF rfl (aU (su (so (so (so (sk (so (so (so sr))))))))))) (su (so (so (so (sk (so (so (so sr)))))))) (λ R' H' az be=>Ox.bB (vs:=[_,_]) rfl rfl cB rfl ((aK.box (be _ z0)).part (j:=0) (n:=2) rfl) rfl (.one rfl) aG) ?_
  refine Any.vs 1 [3] rfl ?_
  refine oS 4 #[_,_,_,_,_,_] aI (.there .here) (bo rfl (su (sk (so sr)))) ?_
  refine Any.vs 1 [5] rfl ?_
  refine Any.on 6 rfl rfl (aJ.to (Ox.cG (cs':=#[_,_,_,_,_,_]) rfl rfl rfl cB rfl (aW rfl (aW rfl bl)) (.there .here) rfl rfl rfl (.refl _) ⟨rr,(bo rfl (su (sk (so sr)))),?_⟩))
  refine Any.done ?_
  refine sq ?_
  refine sq ?_
  refine U.da d (λ (cf:Bool) R' H' aa=>cg=R'∧H'=(Q,.cells #[iv I.ax,iv D.1.ai,iv D.1.ak,F,G,aw] 28)::(M,.cells #[iv I.ax,iv I.ad.ai,iv I.ad.ak,bm,bn,bp] 28)::(E,.cells #[iv f.ax,iv f.ad.ai,iv f.ad.ak,F,G,aw] 28)::H∧aA aa [(2,v2),(4,.int .u8 x4),(5,.int .u8 x5),(6,pT E),(23,pT M),(24,pT Q),(163,.bool cf)])  ?_ ?_
  rotate_right
  ·intro ew d b5
   refine U.rg cX ?_
   refine lN [_,_,_,_,_,_] 0 6 a7 z2 ?_
   have ⟨ex,c1,d⟩:=ae d
   refine U.cv tm (ux I aT aY a1 c1) ?_
   rintro _ _ _ ⟨rfl,rfl,rfl⟩
   refine vs 2 ?_
   refine a8 d (λ bN d=>?_) (λ bN d=>?_)
   ·refine U.kn 159 bN ?_
    refine vs 4 ?_
    refine er ?_
    exact U.aR (so (sk (sk (so (so (so sr)))))) (b5 _ (au d) _ _ _ ⟨rfl,rfl,aq fc⟩)
   refine U.kn 159 bN ?_
   refine lN [_,_,_,_,_,_] 0 6 a7 z1 ?_
   have ⟨ey,c3,d⟩:=ae d
   refine U.cv tm (ux (⟨I.ax,⟨D.1.ai,D.1.ak⟩,f.ao,f.Out,[]⟩:an) g y ah.nil c3) ?_
   rintro _ _ _ ⟨rfl,rfl,rfl⟩
   refine vs 2 ?_
   refine er ?_
   exact U.aR (so (sk (sk (so (so (so sr)))))) (b5 _ (au d) _ _ _ ⟨rfl,rfl,aq fc⟩)
  rintro cf dE dt d9 ⟨rfl,rfl,cu⟩ d
  refine U.sub cu ?_
  refine sc d ?_ ?_<;>intro d3 d
  ·refine sg aC ?_
   have ⟨ez,c4,d⟩:=ae d
   refine U.cv o4 (pQ  m ar c4) ?_
   rintro _ dN _ ⟨cm,rfl,rfl⟩
   refine vs 1 ?_
   refine er ?_
   cases av d
   exact U.lF func3 (by kernel_rfl) (.tmp rfl .nil) (so (so (so sr))) V ⟨(((((((S.trans N).trans O).trans ac).trans ag).trans aL).trans aO).trans cm),br⟩
  refine sp ?_
  refine sq ?_
  refine U.dw KV mixed ?_
  refine tN 0 [_,_,_,_,_,_] 0 6 a7 z1 ?_
  refine tN 1 [_,_,_,_,_,_] 0 6 a7 z0 ?_
  refine Any.vs 2 [2,3] rfl ?_
  refine tl 4 3 cZ z2 ?_
  refine Any.tk 5 rfl pp (λ R' H' az be=>Ox.iM (K:=bz) (k:=5) (xs:=f.ao) rfl rfl (g.mono az) underlying24 rfl (.one rfl) aG) ?_
  refine tN 7 [_,_,_,_,_,_] 0 6 a7 z2 ?_
  refine Any.vs 2 [8,10] rfl ?_
  refine Any.tk 11 rfl pp (λ R' H' az be=>Ox.xj rfl rfl underlying5 underlying3 rfl (.one rfl) aG) ?_
  refine Any.vs 1 [12] rfl ?_
  refine tl 13 3 cZ z2 ?_
  refine Any.tk 14 rfl pp (λ R' H' az be=>Ox.iM (K:=bz) (k:=5) (xs:=f.ao) rfl rfl (g.mono az) underlying24 rfl (.one rfl) aG) ?_
  have ⟨dj,c5,d⟩:=ae d
  have ⟨dk,c6,d⟩:=ae d
  have ⟨dl,c9,d⟩:=ae d
  refine Any.tk 15 rfl pp (λ R' H' az be=>Ox.rem rfl rfl rfl c9 rfl (.one rfl) aG) ?_
  refine Any.cv 6 Dy (Ic x5 (f.ao.length:Int)  c5) ?_
  rintro ed dO _ ⟨am,rfl,_,bP,rfl⟩
  have ⟨g,y⟩:=dC am g y
  replace z:=z.le am
  replace m:=m.mono am
  have ⟨aT,aY,a1⟩:=cH am aT aY a1
  refine ⟨am,ka,?_⟩
  refine Any.cv 9 Dz (It (⟨f.ax,⟨f.ad.ai,f.ad.ak⟩,f.ao,f.Out,[]⟩:an) x2 g y ah.nil (z.sub (su (so (so (so sr))))) c6) ?_
  rintro ee dP _ ⟨ap,rfl,_,c7,rfl⟩
  have ⟨g,y⟩:=dC ap g y
  replace z:=z.le ap
  replace m:=m.mono ap
  have ⟨aT,aY,a1,bP⟩:=di ap aT aY a1 bP
  refine ⟨ap,ka,?_⟩
  have ⟨eA,db,d⟩:=ae d
  refine Any.cv 16 Du (Ib I (⟨I.ax,⟨D.1.ai,D.1.ak⟩,f.ao,f.Out,[]⟩:an) dj dk dl m ar aT aY a1 g y ah.nil bP c7 db) ?_
  rintro _ dQ _ ⟨bd,rfl,rfl⟩
  replace z:=z.le bd
  replace m:=m.mono bd
  refine ⟨bd,ka,?_⟩
  refine Any.vs 1 [17] rfl ?_
  refine a8 d (λ bO d=>?_) (λ bO d=>?_)
  ·refine Any.cK (t:=182) rfl bO ?_
   have ⟨eB,dd,d⟩:=ae d
   refine Any.cv 18 o4 (pQ  m ar dd) ?_
   rintro _ dR _ ⟨bt,rfl,rfl⟩
   replace z:=z.le bt
   refine ⟨bt,ka,?_⟩
   refine Any.vs 2 [19,20] rfl ?_
   refine Any.done ?_
   cases av d
   exact U.lF func3 (by kernel_rfl) (.tmp rfl .nil) (so (so (so sr))) V ⟨((((((((((S.trans N).trans O).trans ac).trans ag).trans aL).trans aO).trans am).trans ap).trans bd).trans bt),br⟩
  refine Any.cK (t:=182) rfl bO ?_
  refine Any.vs 3 [18,19,20] rfl ?_
  refine Any.done ?_
  cases av d
  exact U.lF func3 (by kernel_rfl) (.tmp rfl .nil) (so (so (so sr))) V ⟨(((((((((S.trans N).trans O).trans ac).trans ag).trans aL).trans aO).trans am).trans ap).trans bd),br⟩
 intro b6
 refine U.dw b4 mixed ?_
 refine tN 0 [_,_,_,_,_,_] 0 6 a7 z3 ?_
 refine tN 1 [_,_,_,_,_,_] 0 6 a7 z3 ?_
 refine tw 2 3 ?_ ?_
 ·refine  (aJ.to (Ox.alloc (cs:=#[iv 0,iv 0,iv 0,aw,aw,aw]) rfl gp rfl λ M _ _=>⟨_,(.put rfl),⟨rr,(ku (so sr)),?_⟩⟩))
  refine Any.on 3 rfl rfl (aJ.to (Ox.alloc (cs:=#[iv 0,iv 0,iv 0,aw,aw,aw]) rfl gp rfl λ Q _ _=>⟨_,(.put rfl),⟨rr,(ku (so (so sr))),?_⟩⟩))
  refine Any.on 4 rfl rfl (aJ.to (Ox.cG (cs':=#[_,_,_,_,_,_]) rfl rfl rfl a7 rfl (aW rfl (aW rfl (aW rfl (aW g.one (aW y.one (aW rfl bl)))))) (.there .here) rfl rfl rfl (.refl _) ⟨rr,(ku (so (so sr))),?_⟩))
  refine Any.on 5 rfl rfl (aJ.to (Ox.cG (cs':=#[_,_,_,_,_,_]) rfl rfl rfl a7 rfl (aW rfl (aW rfl (aW rfl (aW g.one (aW y.one (aW rfl bl)))))) .here rfl rfl rfl (.refl _) ⟨rr,(ku (so (so sr))),?_⟩))
  exact Any.done (b6 _ _ _ ⟨rfl,M,Q,rfl,aq hl⟩)
 refine  (aJ.to (Ox.alloc (cs:=#[iv 0,iv 0,iv 0,aw,aw,aw]) rfl gp rfl λ Q _ _=>⟨_,(.put rfl),⟨rr,(ku (so sr)),?_⟩⟩))
 refine Any.on 2 rfl rfl (aJ.to (Ox.alloc (cs:=#[iv 0,iv 0,iv 0,aw,aw,aw]) rfl gp rfl λ M _ _=>⟨_,(.put rfl),⟨rr,(ku (so (so sr))),?_⟩⟩))
 refine Any.on 4 rfl rfl (aJ.to (Ox.cG (cs':=#[_,_,_,_,_,_]) rfl rfl rfl a7 rfl (aW rfl (aW rfl (aW rfl (aW g.one (aW y.one (aW rfl bl)))))) .here rfl rfl rfl (.refl _) ⟨rr,(ku (so (so sr))),?_⟩))
 refine Any.on 5 rfl rfl (aJ.to (Ox.cG (cs':=#[_,_,_,_,_,_]) rfl rfl rfl a7 rfl (aW rfl (aW rfl (aW rfl (aW g.one (aW y.one (aW rfl bl)))))) (.there .here) rfl rfl rfl (.refl _) ⟨rr,(ku (so (so sr))),?_⟩))
 exact Any.done (U.perm (LX _ _ _) (b6 _ _ _ ⟨rfl,M,Q,rfl,aq hl⟩))
end
end Go.Proofs.YtoaoffinglajbaaGreatDoor
