/- Walks, part 12: each function computes its model. -/
import Derived.Test.YtoaoffinglajbaaGreatDoorQBHbP11
namespace Go.Proofs.YtoaoffinglajbaaGreatDoor
open Go.Lg Go.Proofs Tryz
set_option maxRecDepth 100000
set_option maxHeartbeats 4000000
section
variable {B:Base} {main:Bool} {af:Jd prog B main} {R:ay} {H:aj}
theorem HX(d:an)(x1:dq){g m E F:Value}(L:ah bz 5 R g d.ao)(D:ah CZ 1 R m d.Out)(N:ah bq 2 R E d.aV)(Y:ah CZ 1 R F x1.eJ){r:an}(f:pv d x1=some r):aL af 14 #[.agg #[iv d.ax,iv d.ad.ai,iv d.ad.ak,g,m,E],.agg #[iv x1.ad,F]] R H (λ v R' H'=>aH R R'∧H=H'∧∃ am ap ar,ah bz 5 R' am r.ao∧ah CZ 1 R' ap r.Out∧ah bq 2 R' ar r.aV∧v = .agg #[iv r.ax,iv r.ad.ai,iv r.ad.ak,am,ap,ar]):=by
 unfold pv at f
 refine aY func14 62 λ fr cs a9=>?_
 refine sg aM ?_
 refine bx λ A=>?_
 refine bx λ C=>?_
 refine bu (#[iv 0,iv 0,iv 0,aw,aw,aw]) gp λ y=>?_
 refine nx aM ?_
 refine lN [_,_,_,_,_,_] 0 6 a7 z2 ?_
 refine bu (#[iv 0,iv 0,iv 0,aw,aw,aw]) gp λ z=>?_
 refine bC (#[_,_,_,_,_,_]) a7 .here ?_
 refine nx aC ?_
 refine vs 1 ?_
 refine eC (#[_,_,_,_,_,_]) ei .here ?_
 refine es ?_
 refine sg aB ?_
 refine vs 1 ?_
 refine er ?_
 refine U.aP ?_
 refine U.cQ f (λ (O:(Int × Int)) R' H' aa=>R=R'∧H'=(z,.cells #[iv O.2,iv d.ad.ai,iv d.ad.ak,g,m,aw] 28)::(y,.cells #[iv 0,iv 0,iv 0,aw,aw,aw] 28)::(C,.cells #[iv x1.ad,F] 53)::(A,.cells #[iv d.ax,iv d.ad.ai,iv d.ad.ak,g,m,E] 28)::H∧aA aa [(2,pT A),(3,pT C),(4,pT y),(5,pT z),(6,iv O.1)]) (λ (I:Int) R' H' aa=>R=R'∧H'=(z,.cells #[iv I,iv d.ad.ai,iv d.ad.ak,g,m,aw] 28)::(y,.cells #[iv 0,iv 0,iv 0,aw,aw,aw] 28)::(C,.cells #[iv x1.ad,F] 53)::(A,.cells #[iv d.ax,iv d.ad.ai,iv d.ad.ak,g,m,E] 28)::H∧aA aa [(2,pT A),(3,pT C),(4,pT y),(5,pT z)]) 0 rfl ⟨rfl,rfl,aq b2⟩ ?_ ?_
 rotate_right
 ·rintro O bS bN b6 ⟨rfl,rfl,bf⟩ cf f aO a2
  refine U.sub bf ?_
  refine sq ?_
  refine sg bA ?_
  refine vs 2 ?_
  refine ld 4 cb z3 ?_
  refine ls D underlying25 ?_
  refine vs 1 ?_
  refine er ?_
  refine sc f ?_ ?_<;>intro b4 f
  ·refine sp ?_
   refine sq ?_
   refine U.aP ?_
   refine sq ?_
   refine U.dw cX mixed ?_
   refine tN 0 [_,_,_,_,_,_] 0 6 a7 z3 ?_
   refine tN 1 [_,_] 0 2 jl z2 ?_
   refine Any.vs 1 [2] rfl ?_
   refine tl 3 4 cb z3 ?_
   refine Any.vs 1 [4] rfl ?_
   have ⟨bM,bv,f⟩:=ae f
   have ⟨aJ,bF,f⟩:=ae f
   obtain ⟨cd,bD,bb⟩:=D.cut bd bv
   refine Any.tk 5 rfl pp (λ R' H' S M=>Ox.l1 rfl rfl rfl rfl bb rfl (.one rfl) aG) ?_
   refine Any.cv 6 xH (zg d x1 bM L D N Y bD.rd bF) ?_
   rintro _ _ _ ⟨rfl,rfl,rfl⟩
   refine kp ?_
   refine Any.vs 1 [7] rfl ?_
   refine Any.done ?_
   refine U.rg cX ?_
   refine vs 1 ?_
   refine ld 0 aI z0 ?_
   refine vs 2 ?_
   refine U.s rfl rfl (Ox.mU rfl rfl rfl (.put rfl) ?_)
   refine U.s rfl rfl (Ox.max (a:=O.2) (l:=[aJ,i64 (0 - aJ)]) rfl rfl rfl (.put rfl) ?_)
   refine vs 1 ?_
   refine eC (#[_,_,_,_,_,_]) aI .here ?_
   refine er ?_
   refine U.a0 ?_
   refine U.rg aM ?_
   refine vs 3 ?_
   refine er ?_
   exact aO _ (au f) _ _ _ ⟨rfl,rfl,aq b2⟩
  exact U.bw rfl (a2 _ (au f) _ _ _ ⟨rfl,rfl,aq bt⟩)
 rintro I bT bO b7 ⟨rfl,rfl,bg⟩ f
 refine U.sub bg ?_
 refine sq ?_
 refine sg aB ?_
 refine vs 1 ?_
 refine er ?_
 refine U.aP ?_
 refine U.cQ f (λ (T:(Int × (List bU))) R' H' aa=>R=R'∧∃ J G,aX bq 2 67 R' J T.2 G∧H'=G++((z,.cells #[iv I,iv d.ad.ai,iv d.ad.ak,g,m,J] 28)::(y,.cells #[iv 0,iv 0,iv 0,aw,aw,aw] 28)::(C,.cells #[iv x1.ad,F] 53)::(A,.cells #[iv d.ax,iv d.ad.ai,iv d.ad.ak,g,m,E] 28)::H)∧aA aa [(2,pT A),(3,pT C),(4,pT y),(5,pT z),(8,iv T.1)]) (λ (ag:(List bU)) R' H' aa=>R=R'∧∃ P Q,aX bq 2 67 R' P ag Q∧H'=Q++((z,.cells #[iv I,iv d.ad.ai,iv d.ad.ak,g,m,P] 28)::(y,.cells #[iv 0,iv 0,iv 0,aw,aw,aw] 28)::H)∧aA aa [(4,pT y),(5,pT z)]) 2 rfl ⟨rfl,aw,[],aX.nil,rfl,aq b2⟩ ?_ ?_
 rotate_right
 ·rintro T bV bP b8 ⟨rfl,J,G,ab,rfl,bh⟩ ch f aT a4
  refine U.sub bh ?_
  refine sq ?_
  refine sg bA ?_
  refine vs 2 ?_
  refine ld 5 ei (bH _ z3) ?_
  refine ls N underlying26 ?_
  refine vs 1 ?_
  refine er ?_
  refine sc f ?_ ?_<;>intro b3 f
  ·refine sp ?_
   refine sq ?_
   refine U.aP ?_
   refine sg dc ?_
   refine vs 1 ?_
   refine ld 5 ei (bH _ z3) ?_
   refine vs 1 ?_
   have ⟨V,bk,f⟩:=ae f
   obtain ⟨b1,b5,_,rfl,a5,a8⟩:=N.elem ow bk
   refine bX a8 ?_
   refine U.s rfl rfl (Ox.bB (vs:=[_,_]) rfl rfl iC rfl (a5.any.part (j:=0) (n:=2) rfl) rfl (.put rfl) ?_)
   refine bu (#[iv 0,iv 0]) vM λ W=>?_
   refine bC (#[_,_]) iC .here ?_
   refine es ?_
   refine U.draw (n:=11) (is:=[0,1,2,3,4,5,6,7,8,9,10]) (many ((W,.cells #[iv V.cT,iv V.dZ] 67)::G++((z,.cells #[iv I,iv d.ad.ai,iv d.ad.ak,g,m,J] 28)::(y,.cells #[iv 0,iv 0,iv 0,aw,aw,aw] 28)::(C,.cells #[iv x1.ad,F] 53)::(A,.cells #[iv d.ax,iv d.ad.ai,iv d.ad.ak,g,m,E] 28)::H)) [(10,G++((z,.cells #[iv I,iv d.ad.ai,iv d.ad.ak,g,m,J] 28)::(y,.cells #[iv 0,iv 0,iv 0,aw,aw,aw] 28)::(C,.cells #[iv x1.ad,F] 53)::(A,.cells #[iv d.ax,iv d.ad.ai,iv d.ad.ak,g,m,E] 28)::H))]) mixed rfl (by decide +kernel) rfl rfl ?_
   refine ts 0 [7,8,9,10] rfl (aF rfl (aU (su (so (az (so (so (so sr)))))))) (su (so (az (so (so (so sr)))))) (λ R' H' S M=>Ox.bB (vs:=[_,_,_,_,_,_]) rfl rfl a7 rfl ((aK.box (M _ z0)).part (j:=0) (n:=6) rfl) rfl (.one rfl) aG) ?_
   refine ts 1 [7,8,9,10] rfl (aF rfl (aU (su (so (az (so (so (sk (so sr))))))))) (su (so (az (so (so (sk (so sr))))))) (λ R' H' S M=>Ox.bB (vs:=[_,_]) rfl rfl jl rfl ((aK.box (M _ z0)).part (j:=0) (n:=2) rfl) rfl (.one rfl) aG) ?_
   refine Any.vs 1 [2] rfl ?_
   refine ts 3 [6,7,8,9,10] rfl (aF rfl (aU (su (so (az (so (so (so sr)))))))) (su (so (az (so (so (so sr)))))) (kX cb 4 z0) ?_
   refine Any.vs 1 [4] rfl ?_
   refine ts 5 [6,7,8,9,10] rfl (aF rfl (aU (su (sk (az (so (so (so (so sr))))))))) (su (sk (az (so (so (so (so sr))))))) (kX aI 0 z0) ?_
   have ⟨bI,bm,f⟩:=ae f
   have ⟨bJ,bp,f⟩:=ae f
   have ⟨bL,br,f⟩:=ae f
   obtain ⟨cc,bn,ba⟩:=D.cut bd bm
   refine ts 6 [7,8,9,10] rfl (aF rfl (aU (su (so (az (so (so (so (so sr))))))))) (su (so (az (so (so (so (so sr))))))) (λ R' H' S M=>Ox.l1 rfl rfl rfl rfl ba rfl (.one rfl) aG) ?_
   refine Any.cv 7 xH (zg d x1 bI L D N Y bn.rd bp) ?_
   rintro _ _ _ ⟨rfl,rfl,rfl⟩
   refine ⟨rr,(bo rfl pp),?_⟩
   refine Any.cv 8 Ed (I2 bJ  br) ?_
   rintro _ _ _ ⟨rfl,rfl,rfl⟩
   refine ⟨rr,(bo rfl pp),?_⟩
   refine Any.vs 1 [9] rfl ?_
   refine oS 10 #[_,_] rU .here (bo rfl (su (so sr))) ?_
   refine Any.done ?_
   refine U.rg dc ?_
   refine vs 1 ?_
   refine U.ld ei ((aK.box (.tail _ (bH _ z0))).one (j:=5) rfl) ?_
   refine lN [_,_] 0 2 iC z0 ?_
   refine dt (#[_,_]) h3 jP λ a1=>?_
   have ⟨ce,bs,f⟩:=ae f
   refine U.s rfl rfl (Ox.append (K:=bq) (λ X=>(a1,_)::(W,_)::X++((z,_)::(y,_)::(C,_)::(A,_)::H)) rfl rfl rfl hA underlying26 (by simp) (.cons (.cons .id)) ab (eB (⟨V.cT,bL⟩:bU) rfl) bs rfl λ bG aN ac=>⟨_,(.put rfl),?_⟩)
   refine vs 1 ?_
   refine U.s rfl rfl (Ox.dE (cs':=#[_,_,_,_,_,_]) rfl rfl rfl ei ac.one (.there (.there (.skip .here))) rfl rfl rfl (.refl _) ?_)
   refine er ?_
   refine U.a0 ?_
   refine U.rg aM ?_
   refine vs 3 ?_
   refine er ?_
   exact U.aR (so (so sr)) (aT _ (au f) _ _ _ ⟨rfl,bG,aN,ac,rfl,aq b2⟩)
  exact U.bw rfl (U.aR (dm (sk (sk (so (so sr))))) (a4 _ (au f) _ _ _ ⟨rfl,J,G,ab,rfl,aq cg⟩))
 rintro ag bW bQ b9 ⟨rfl,P,Q,be,rfl,bi⟩ f
 refine U.sub bi ?_
 refine sg aC ?_
 refine lN [_,_,_,_,_,_] 0 6 a7 (bH _ z0) ?_
 refine bC (#[_,_,_,_,_,_]) a7 (.skip (.there .here)) ?_
 refine er ?_
 refine U.dg (H2:=(z,_)::(y,_)::H) (λ X=>X++((z,_)::(y,_)::H)) .id rfl be (λ bY Z a6=>?_)
 have ⟨L,D⟩:=dC Z L D
 cases av f
 exact rt func14 (.agg rfl a7 rfl (aK.box z1) .nil) (so (so sr)) (a9 _ _ _ ⟨Z,rfl,g,m,P,L,D,a6,rfl⟩)
theorem I7(s:(List Int))(x1:(List Int)){v0 v1:Value}(f:bE CZ 1 R H v0 s)(A:bE CZ 1 R H v1 x1){r:Bool}(d:n6 s x1=some r):aL af 59 #[v0,v1] R H (λ v R' H'=>R=R'∧H=H'∧v = .bool r):=by
 unfold n6 at d
 refine aY func59 19 λ fr cs g=>?_
 refine sg aB ?_
 refine vs 1 ?_
 refine es ?_
 refine sg aB ?_
 refine vs 1 ?_
 refine er ?_
 refine U.aP ?_
 refine U.dy d (λ (m:Int) R' H' aa=>R=R'∧H=H'∧aA aa [(0,v0),(1,v1),(5,iv m)]) (λ (K:Unit) R' H' aa=>R=R'∧H=H'∧aA aa []) 0 rfl ⟨rfl,rfl,aq du⟩ ?_ ?_
 rotate_right
 ·rintro m O M W ⟨rfl,rfl,E⟩ Z d y z J
  refine U.sub E ?_
  refine sq ?_
  refine sg bb ?_
  refine vs 2 ?_
  refine lr f underlying25 ?_
  refine vs 1 ?_
  refine er ?_
  refine sc d ?_ ?_<;>intro S d
  ·refine sp ?_
   refine sq ?_
   refine U.aP ?_
   refine sg dc ?_
   refine vs 3 ?_
   have ⟨L,G,d⟩:=ae d
   have ⟨ab,I,d⟩:=ae d
   obtain ⟨Q,V,_,rfl,C,D⟩:=f.elem bd G
   refine bX D ?_
   refine U.ld aI ((C.sub pp).one (j:=0) rfl) ?_
   refine U.cv kF (kR x1 L (A.sub pp) I) ?_
   rintro _ _ _ ⟨rfl,rfl,rfl⟩
   refine vs 1 ?_
   refine er ?_
   refine sc d ?_ ?_<;>intro T d
   ·refine sg aB ?_
    refine vs 1 ?_
    refine er ?_
    replace d:=J _ (au d)
    cases av d
    exact rt func59 (.tmp rfl .nil) sr (g _ _ _ aG)
   refine sp ?_
   refine U.a0 ?_
   refine U.rg aM ?_
   refine vs 3 ?_
   refine er ?_
   exact y _ (au d) _ _ _ ⟨rfl,rfl,aq du⟩
  exact U.bw rfl (z _ (au d) _ _ _ ⟨rfl,rfl,cV.sub trivial⟩)
 rintro K P N Y ⟨rfl,rfl,F⟩ d
 refine U.sub F ?_
 refine sg aB ?_
 refine vs 1 ?_
 refine er ?_
 cases av d
 exact rt func59 (.tmp rfl .nil) sr (g _ _ _ aG)
theorem Ib(N:an)(x1:an)(x2:(List Int))(x3:(List Int))(x4:Int){aU a1 a2 a4 a5 a6 v2 v3:Value}(f:dX R)(aP:kC af)(y:ah bz 5 R aU N.ao)(z:ah CZ 1 R a1 N.Out)(A:ah bq 2 R a2 N.aV)(g:ah bz 5 R a4 x1.ao)(m:ah CZ 1 R a5 x1.Out)(s:ah bq 2 R a6 x1.aV)(F:ah CZ 1 R v2 x2)(C:ah CZ 1 R v3 x3){r:Bool}(d:py N x1 x2 x3 x4=some r):aL af 16 #[.agg #[iv N.ax,iv N.ad.ai,iv N.ad.ak,aU,a1,a2],.agg #[iv x1.ax,iv x1.ad.ai,iv x1.ad.ak,a4,a5,a6],v2,v3,iv x4] R H (λ v R' H'=>aH R R'∧H=H'∧v = .bool r):=by
 unfold py at d
 refine aY func16 168 λ fr cs V=>?_
 refine sg aM ?_
 refine bx λ bX=>?_
 refine bx λ bY=>?_
 refine vs 1 ?_
 refine nx dc ?_
 refine lN [_,_,_,_,_,_] 0 6 a7 z1 ?_
 have ⟨a9,bi,d⟩:=ae d
 refine U.cv q2 (rA N f y z A bi) ?_
 rintro _ bN _ ⟨O,rfl,rfl⟩
 have ⟨y,z,A,g,m,s,F,C⟩:=og O y z A g m s F C
 replace f:=f.mono O
 refine vs 5 ?_
 refine nx dc ?_
 refine lN [_,_,_,_,_,_] 0 6 a7 z0 ?_
 have ⟨ba,bk,d⟩:=ae d
 refine U.cv q2 (rA x1 f g m s bk) ?_
 rintro _ bO _ ⟨P,rfl,rfl⟩
 have ⟨y,z,A,g,m,s,F,C⟩:=og P y z A g m s F C
 replace f:=f.mono P
 refine vs 5 ?_
 refine nx cX ?_
 refine lN [_,_,_,_,_,_] 0 6 a7 z1 ?_
 refine vs 1 ?_
 have ⟨bD,bm,d⟩:=ae d
 refine U.cv tu (uA N x4 f y z A bm) ?_
 rintro _ bP _ ⟨Q,rfl,bA,D,rfl⟩
 have ⟨y,z,A,g,m,s,F,C⟩:=og Q y z A g m s F C
 replace f:=f.mono Q
 refine vs 5 ?_
 refine nx cX ?_
 refine lN [_,_,_,_,_,_] 0 6 a7 z0 ?_
 refine vs 1 ?_
 have ⟨bF,bn,d⟩:=ae d
 refine U.cv tu (uA x1 x4 f g m s bn) ?_
 rintro _ bQ _ ⟨G,rfl,bB,E,rfl⟩
 have ⟨y,z,A,g,m,s,F,C⟩:=og G y z A g m s F C
 replace f:=f.mono G
 replace D:=D.mono G
 refine vs 5 ?_
 refine nx dW ?_
 refine lN [_,_,_,_,_,_] 0 6 a7 z1 ?_
 refine vs 1 ?_
 have ⟨bb,bo,d⟩:=ae d
 refine U.cv tv (uB N x2 f y z A F bo) ?_
 rintro _ bS _ ⟨I,rfl,rfl⟩
 have ⟨y,z,A,g,m,s,F,C⟩:=og I y z A g m s F C
 replace f:=f.mono I
 have ⟨D,E⟩:=dC I D E
 refine vs 3 ?_
 refine bu (#[iv 0,iv 0]) fT λ aN=>?_
 refine bC (#[_,_]) cB .here ?_
 refine vs 1 ?_
 refine nx dW ?_
 refine lN [_,_,_,_,_,_] 0 6 a7 z1 ?_
 refine vs 1 ?_
 have ⟨bd,bp,d⟩:=ae d
 refine U.cv tv (uB x1 x2 f g m s F bp) ?_
 rintro _ bT _ ⟨J,rfl,rfl⟩
 have ⟨y,z,A,g,m,s,C⟩:=jF J y z A g m s C
 replace f:=f.mono J
 have ⟨D,E⟩:=dC J D E
 refine vs 3 ?_
 refine bu (#[iv 0,iv 0]) fT λ aO=>?_
 refine bC (#[_,_]) cB .here ?_
 refine vs 1 ?_
 refine nx cX ?_
 refine lN [_,_,_,_,_,_] 0 6 a7 z3 ?_
 refine vs 1 ?_
 have ⟨bG,bs,d⟩:=ae d
 refine U.cv o2 (pI N x3 f y z A C bs) ?_
 rintro _ bU _ ⟨K,rfl,rfl⟩
 have ⟨y,z,A,g,m,s,C⟩:=jF K y z A g m s C
 replace f:=f.mono K
 have ⟨D,E⟩:=dC K D E
 refine vs 5 ?_
 refine nx cX ?_
 refine lN [_,_,_,_,_,_] 0 6 a7 z2 ?_
 refine vs 1 ?_
 have ⟨bH,bt,d⟩:=ae d
 refine U.cv o2 (pI x1 x3 f g m s C bt) ?_
 rintro _ bV _ ⟨L,rfl,rfl⟩
 have ⟨y,z,A,g,m,s⟩:=hP L y z A g m s
 replace f:=f.mono L
 have ⟨D,E⟩:=dC L D E
 refine vs 5 ?_
 refine nx dc ?_
 refine lN [_,_,_,_,_,_] 0 6 a7 z3 ?_
 have ⟨bI,bv,d⟩:=ae d
 refine U.cv o3 (pJ N f aP y z A bv) ?_
 rintro _ bW _ ⟨M,rfl,rfl⟩
 have ⟨g,m,s⟩:=cH M g m s
 replace f:=f.mono M
 have ⟨D,E⟩:=dC M D E
 refine vs 5 ?_
 refine nx dc ?_
 refine lN [_,_,_,_,_,_] 0 6 a7 z2 ?_
 have ⟨bJ,bw,d⟩:=ae d
 refine U.cv o3 (pJ x1 f aP g m s bw) ?_
 rintro _ be _ ⟨T,rfl,rfl⟩
 have ⟨D,E⟩:=dC T D E
 refine vs 5 ?_
 refine es ?_
 refine sq ?_
 refine U.da d (λ (aT:Bool) R' H' aa=>be=R'∧H'=(aO,.cells #[iv bd.1.ai,iv bd.1.ak] 23)::(aN,.cells #[iv bb.1.ai,iv bb.1.ak] 23)::H∧aA aa [(11,iv a9.1),(13,iv ba.1),(15,bA),(17,bB),(19,pT aN),(21,pT aO),(23,iv bG.1),(25,iv bH.1),(27,iv bI.1),(29,iv bJ.1),(124,.bool aT)])  ?_ ?_
 rotate_right
 ·intro b5 d S
  refine U.rg K0 ?_
  refine vs 3 ?_
  refine a8 d (λ ap d=>?_) (λ ap d=>?_)
  ·refine U.kn 89 ap ?_
   refine vs 35 ?_
   refine er ?_
   exact U.aR (sk (sk (so (so sr)))) (S _ (au d) _ _ _ ⟨rfl,rfl,aq fN⟩)
  refine U.kn 89 ap ?_
  refine vs 4 ?_
  refine a8 d (λ ar d=>?_) (λ ar d=>?_)
  ·refine U.kn 93 ar ?_
   refine vs 31 ?_
   refine er ?_
   exact U.aR (sk (sk (so (so sr)))) (S _ (au d) _ _ _ ⟨rfl,rfl,aq fN⟩)
  refine U.kn 93 ar ?_
  refine vs 4 ?_
  refine a8 d (λ aw d=>?_) (λ aw d=>?_)
  ·refine U.kn 97 aw ?_
   refine vs 27 ?_
   refine er ?_
   exact U.aR (sk (sk (so (so sr)))) (S _ (au d) _ _ _ ⟨rfl,rfl,aq fN⟩)
  refine U.kn 97 aw ?_
  refine vs 4 ?_
  refine a8 d (λ az d=>?_) (λ az d=>?_)
  ·refine U.kn 101 az ?_
   refine vs 23 ?_
   refine er ?_
   exact U.aR (sk (sk (so (so sr)))) (S _ (au d) _ _ _ ⟨rfl,rfl,aq fN⟩)
  refine U.kn 101 az ?_
  refine vs 4 ?_
  refine a8 d (λ aC d=>?_) (λ aC d=>?_)
  ·refine U.kn 105 aC ?_
   refine vs 19 ?_
   refine er ?_
   exact U.aR (sk (sk (so (so sr)))) (S _ (au d) _ _ _ ⟨rfl,rfl,aq fN⟩)
  refine U.kn 105 aC ?_
  refine vs 4 ?_
  refine a8 d (λ aF d=>?_) (λ aF d=>?_)
  ·refine U.kn 109 aF ?_
   refine vs 15 ?_
   refine er ?_
   exact U.aR (sk (sk (so (so sr)))) (S _ (au d) _ _ _ ⟨rfl,rfl,aq fN⟩)
  refine U.kn 109 aF ?_
  refine vs 4 ?_
  refine a8 d (λ aG d=>?_) (λ aG d=>?_)
  ·refine U.kn 113 aG ?_
   refine vs 11 ?_
   refine er ?_
   exact U.aR (sk (sk (so (so sr)))) (S _ (au d) _ _ _ ⟨rfl,rfl,aq fN⟩)
  refine U.kn 113 aG ?_
  refine vs 4 ?_
  refine a8 d (λ aJ d=>?_) (λ aJ d=>?_)
  ·refine U.kn 117 aJ ?_
   refine vs 7 ?_
   refine er ?_
   exact U.aR (sk (sk (so (so sr)))) (S _ (au d) _ _ _ ⟨rfl,rfl,aq fN⟩)
  refine U.kn 117 aJ ?_
  refine vs 4 ?_
  refine a8 d (λ aK d=>?_) (λ aK d=>?_)
  ·refine U.kn 121 aK ?_
   refine vs 3 ?_
   refine er ?_
   exact U.aR (sk (sk (so (so sr)))) (S _ (au d) _ _ _ ⟨rfl,rfl,aq fN⟩)
  refine U.kn 121 aK ?_
  refine vs 3 ?_
  refine er ?_
  exact U.aR (sk (sk (so (so sr)))) (S _ (au d) _ _ _ ⟨rfl,rfl,aq fN⟩)
 rintro aT bM bL b2 ⟨rfl,rfl,bf⟩ d
 refine U.sub bf ?_
 refine sc d ?_ ?_<;>intro b1 d
 ·refine sg aB ?_
  refine vs 1 ?_
  refine er ?_
  cases av d
  exact rt func16 (.tmp rfl .nil) (so (so sr)) (V _ _ _ ⟨(((((((((O.trans P).trans Q).trans G).trans I).trans J).trans K).trans L).trans M).trans T),br⟩)
 refine sp ?_
 refine sg An ?_
 refine vs 2 ?_
 have ⟨b3,bg,d⟩:=ae d
 refine U.cv e6 (e8 ba.1 1 a9.1  bg) ?_
 rintro _ _ _ ⟨rfl,rfl,rfl⟩
 refine vs 1 ?_
 refine a8 d (λ W d=>?_) (λ W d=>?_)
 ·refine U.kn 128 W ?_
  refine vs 2 ?_
  have ⟨b4,bh,d⟩:=ae d
  refine U.cv Eg (I7 bF.1 bD.1 E.rd D.rd bh) ?_
  rintro _ _ _ ⟨rfl,rfl,rfl⟩
  refine vs 2 ?_
  refine a8 d (λ Y d=>?_) (λ Y d=>?_)
  ·refine U.kn 133 Y ?_
   refine vs 1 ?_
   refine ld 0 aI z1 ?_
   refine vs 1 ?_
   refine ld 0 aI z0 ?_
   refine vs 3 ?_
   refine a8 d (λ Z d=>?_) (λ Z d=>?_)
   ·refine U.kn 140 Z ?_
    refine vs 1 ?_
    refine ld 0 aI z0 ?_
    refine vs 1 ?_
    refine ld 1 aI z0 ?_
    refine vs 3 ?_
    refine a8 d (λ ab d=>?_) (λ ab d=>?_)
    ·refine U.kn 147 ab ?_
     refine vs 1 ?_
     refine ld 1 aI z0 ?_
     refine vs 1 ?_
     refine ld 1 aI z1 ?_
     refine vs 3 ?_
     refine a8 d (λ ac d=>?_) (λ ac d=>?_)
     ·refine U.kn 154 ac ?_
      refine vs 3 ?_
      refine a8 d (λ ag d=>?_) (λ ag d=>?_)
      ·refine U.kn 157 ag ?_
       refine vs 11 ?_
       refine er ?_
       cases av d
       exact rt func16 (.tmp rfl .nil) (so (so sr)) (V _ _ _ ⟨(((((((((O.trans P).trans Q).trans G).trans I).trans J).trans K).trans L).trans M).trans T),br⟩)
      refine U.kn 157 ag ?_
      refine vs 6 ?_
      refine a8 d (λ am d=>?_) (λ am d=>?_)
      ·refine U.kn 163 am ?_
       refine vs 5 ?_
       refine er ?_
       cases av d
       exact rt func16 (.tmp rfl .nil) (so (so sr)) (V _ _ _ ⟨(((((((((O.trans P).trans Q).trans G).trans I).trans J).trans K).trans L).trans M).trans T),br⟩)
      refine U.kn 163 am ?_
      refine vs 5 ?_
      refine er ?_
      cases av d
      exact rt func16 (.tmp rfl .nil) (so (so sr)) (V _ _ _ ⟨(((((((((O.trans P).trans Q).trans G).trans I).trans J).trans K).trans L).trans M).trans T),br⟩)
     refine U.kn 154 ac ?_
     refine vs 14 ?_
     refine er ?_
     cases av d
     exact rt func16 (.tmp rfl .nil) (so (so sr)) (V _ _ _ ⟨(((((((((O.trans P).trans Q).trans G).trans I).trans J).trans K).trans L).trans M).trans T),br⟩)
    refine U.kn 147 ab ?_
    refine vs 21 ?_
    refine er ?_
    cases av d
    exact rt func16 (.tmp rfl .nil) (so (so sr)) (V _ _ _ ⟨(((((((((O.trans P).trans Q).trans G).trans I).trans J).trans K).trans L).trans M).trans T),br⟩)
   refine U.kn 140 Z ?_
   refine vs 28 ?_
   refine er ?_
   cases av d
   exact rt func16 (.tmp rfl .nil) (so (so sr)) (V _ _ _ ⟨(((((((((O.trans P).trans Q).trans G).trans I).trans J).trans K).trans L).trans M).trans T),br⟩)
  refine U.kn 133 Y ?_
  refine vs 35 ?_
  refine er ?_
  cases av d
  exact rt func16 (.tmp rfl .nil) (so (so sr)) (V _ _ _ ⟨(((((((((O.trans P).trans Q).trans G).trans I).trans J).trans K).trans L).trans M).trans T),br⟩)
 refine U.kn 128 W ?_
 refine vs 40 ?_
 refine er ?_
 cases av d
 exact rt func16 (.tmp rfl .nil) (so (so sr)) (V _ _ _ ⟨(((((((((O.trans P).trans Q).trans G).trans I).trans J).trans K).trans L).trans M).trans T),br⟩)
theorem Ic(C:Int)(x1:Int)  {r:(List Int)} (d:mx C x1=some r):aL af 17 #[.int .u8 C,iv x1] R H (λ v R' H'=>aH R R'∧H=H'∧∃ F,ah CZ 1 R' F r∧v=F):=by
 unfold mx at d
 refine aY func17 22 λ fr cs N=>?_
 refine sg aB ?_
 refine vs 1 ?_
 refine nx aB ?_
 refine vs 1 ?_
 refine es ?_
 refine sg aB ?_
 refine vs 1 ?_
 refine er ?_
 refine U.aP ?_
 refine U.cQ d (λ (m:((List Int) × Int)) R' H' aa=>R=R'∧∃ g f,aX CZ 1 3 R' g m.1 f∧H'=f++(H)∧aA aa [(0,.int .u8 C),(1,iv x1),(5,g),(6,iv m.2)]) (λ (E:(List Int)) R' H' aa=>R=R'∧∃ y z,aX CZ 1 3 R' y E z∧H'=z++(H)∧aA aa [(5,y)]) 0 rfl ⟨rfl,aw,[],aX.nil,rfl,aq bt⟩ ?_ ?_
 rotate_right
 ·rintro m ac Z an ⟨rfl,g,f,A,rfl,Q⟩ ap d D J
  refine U.sub Q ?_
  refine sq ?_
  refine sg aM ?_
  refine vs 3 ?_
  refine er ?_
  refine sc d ?_ ?_<;>intro ak d
  ·refine sp ?_
   refine sq ?_
   refine U.aP ?_
   refine sg bA ?_
   refine vs 2 ?_
   have ⟨ar,T,d⟩:=ae d
   refine U.s rfl rfl (Ox.shr rfl rfl rfl T rfl (.put rfl) ?_)
   have ⟨ax,V,d⟩:=ae d
   refine U.s rfl rfl (Ox.bits rfl rfl rfl V rfl (.put rfl) ?_)
   refine vs 1 ?_
   refine er ?_
   refine sc d ?_ ?_<;>intro am d
   ·refine U.rg bA ?_
    refine vs 2 ?_
    refine dt (#[_]) cw c7 λ I=>?_
    have ⟨az,W,d⟩:=ae d
    refine U.s rfl rfl (Ox.append (K:=CZ) (λ X=>(I,_)::X++(H)) rfl rfl rfl eh underlying25 (by simp) (.cons .id) A (eB m.2 rfl) W rfl λ Y G P=>⟨_,(.put rfl),?_⟩)
    refine vs 1 ?_
    refine er ?_
    refine U.a0 ?_
    refine U.rg aM ?_
    refine vs 3 ?_
    refine er ?_
    exact U.aR (so sr) (D _ (au d) _ _ _ ⟨rfl,Y,G,P,rfl,aq bt⟩)
   refine sp ?_
   refine U.a0 ?_
   refine U.rg aM ?_
   refine vs 3 ?_
   refine er ?_
   exact D _ (au d) _ _ _ ⟨rfl,g,f,A,rfl,aq bt⟩
  exact U.bw rfl (J _ (au d) _ _ _ ⟨rfl,g,f,A,rfl,aq eD⟩)
 rintro E ad ab ao ⟨rfl,y,z,O,rfl,S⟩ d
 refine U.sub S ?_
 refine sg aC ?_
 refine vs 2 ?_
 refine er ?_
 refine U.dg (H2:=H) (λ X=>X++(H)) .id rfl O (λ ag L M=>?_)
 cases av d
 exact rt func17 (.tmp rfl .nil) sr (N _ _ _ ⟨L,rfl,y,M,rfl⟩)
theorem Jb(f:an)(x1:(List Int)){D E F v1:Value}(I:ah bz 5 R D f.ao)(P:ah CZ 1 R E f.Out)(Q:ah bq 2 R F f.aV)(S:bE CZ 1 R H v1 x1){r:(List Int)}(d:n7 f x1=some r):aL af 60 #[.agg #[iv f.ax,iv f.ad.ai,iv f.ad.ak,D,E,F],v1] R H (λ v R' H'=>aH R R'∧H=H'∧∃ L,ah CZ 1 R' L r∧v=L):=by
 unfold n7 at d
 refine aY func60 23 λ fr cs W=>?_
 refine sg aC ?_
 refine bx λ fX=>?_
 refine vs 1 ?_
 refine nx aB ?_
 refine vs 1 ?_
 refine es ?_
 refine sg aB ?_
 refine vs 1 ?_
 refine er ?_
 refine U.aP ?_
 refine U.cQ d (λ (m:((List Int) × Int)) R' H' aa=>R=R'∧∃ y g,aX CZ 1 3 R' y m.1 g∧H'=g++((fX,.cells #[iv f.ax,iv f.ad.ai,iv f.ad.ak,D,E,F] 28)::H)∧aA aa [(1,v1),(2,pT fX),(5,y),(6,iv m.2)]) (λ (J:(List Int)) R' H' aa=>R=R'∧∃ z A,aX CZ 1 3 R' z J A∧H'=A++(H)∧aA aa [(5,z)]) 0 rfl ⟨rfl,aw,[],aX.nil,rfl,aq bt⟩ ?_ ?_
 rotate_right
 ·rintro m aG ar aO ⟨rfl,y,g,C,rfl,ab⟩ aU d G O
  refine U.sub ab ?_
  refine sq ?_
  refine sg bA ?_
  refine vs 2 ?_
  refine ld 3 cZ (bH _ z0) ?_
  refine ls I underlying24 ?_
  refine vs 1 ?_
  refine er ?_
  refine sc d ?_ ?_<;>intro aK d
  ·refine sp ?_
   refine sq ?_
   refine U.aP ?_
   refine sg bb ?_
   refine lN [_,_,_,_,_,_] 0 6 a7 (bH _ z0) ?_
   refine vs 2 ?_
   have ⟨a1,ag,d⟩:=ae d
   refine U.cv xq (yP f x1 m.2 I P Q (S.sub (su (az (so sr)))) ag) ?_
   rintro _ _ _ ⟨rfl,rfl,rfl⟩
   refine er ?_
   refine sc d ?_ ?_<;>intro aN d
   ·refine U.rg bA ?_
    refine vs 2 ?_
    refine dt (#[_]) cw c7 λ N=>?_
    have ⟨a2,am,d⟩:=ae d
    refine U.s rfl rfl (Ox.append (K:=CZ) (λ X=>(N,_)::X++((fX,_)::H)) rfl rfl rfl eh underlying25 (by simp) (.cons .id) C (eB m.2 rfl) am rfl λ ap M Z=>⟨_,(.put rfl),?_⟩)
    refine vs 1 ?_
    refine er ?_
    refine U.a0 ?_
    refine U.rg aM ?_
    refine vs 3 ?_
    refine er ?_
    exact U.aR (so sr) (G _ (au d) _ _ _ ⟨rfl,ap,M,Z,rfl,aq bt⟩)
   refine sp ?_
   refine U.a0 ?_
   refine U.rg aM ?_
   refine vs 3 ?_
   refine er ?_
   exact G _ (au d) _ _ _ ⟨rfl,y,g,C,rfl,aq bt⟩
  exact U.bw rfl (U.aR (dm (so sr)) (O _ (au d) _ _ _ ⟨rfl,y,g,C,rfl,aq eD⟩))
 rintro J aI aF aT ⟨rfl,z,A,Y,rfl,ac⟩ d
 refine U.sub ac ?_
 refine sg aC ?_
 refine vs 2 ?_
 refine er ?_
 refine U.dg (H2:=H) (λ X=>X++(H)) .id rfl Y (λ aJ T V=>?_)
 cases av d
 exact rt func60 (.tmp rfl .nil) sr (W _ _ _ ⟨T,rfl,z,V,rfl⟩)
theorem It(f:an)(x1:(List Int)){P Q S v1:Value}(I:ah bz 5 R P f.ao)(J:ah CZ 1 R Q f.Out)(N:ah bq 2 R S f.aV)(z:bE (CI .u16) 1 R H v1 x1){r:(List Int)}(d:pz f x1=some r):aL af 18 #[.agg #[iv f.ax,iv f.ad.ai,iv f.ad.ak,P,Q,S],v1] R H (λ v R' H'=>aH R R'∧H=H'∧∃ ab,ah CZ 1 R' ab r∧v=ab):=by
 unfold pz at d
 refine aY func18 46 λ fr cs Y=>?_
 refine sg aC ?_
 refine bx λ g=>?_
 refine vs 1 ?_
 refine nx aB ?_
 refine vs 1 ?_
 refine nx bA ?_
 refine dt (#[]) cw qG λ bI=>?_
 refine vs 1 ?_
 refine ld 4 cb z1 ?_
 have ⟨b1,bm,d⟩:=ae d
 refine U.s rfl rfl (Ox.append (K:=CZ) (λ X=>X++((g,_)::H)) rfl rfl rfl eh underlying25 (by simp) .id (aX.lit (aO.le aO.nil rfl) rfl) J.arg bm rfl λ br am a8=>⟨_,(.put rfl),?_⟩)
 refine vs 1 ?_
 refine es ?_
 refine U.aP ?_
 refine U.dy d (λ (E:((List Int) × (List Int))) R' H' aa=>aH R R'∧∃ F G T m,aX CZ 1 3 R' F E.1 G∧aX CZ 1 3 R' T E.2 m∧H'=G++(m++((g,.cells #[iv f.ax,iv f.ad.ai,iv f.ad.ak,P,Q,S] 28)::H))∧aA aa [(1,v1),(2,pT g),(5,F),(6,T)]) (λ (Z:(List Int)) R' H' aa=>aH R R'∧∃ L M,aX CZ 1 3 R' L Z M∧H'=M++(H)∧aA aa [(5,L)]) 0 rfl ⟨rr,aw,[],br,am,aX.nil,a8,rfl,aq bt⟩ ?_ ?_
 rotate_right
 ·rintro E bv bs bO ⟨A,F,G,T,m,y,D,rfl,a9⟩ b2 d ap aF bn
  refine U.sub a9 ?_
  have ⟨I,J,N⟩:=cH A I J N
  replace z:=z.le A
  refine sq ?_
  refine sg b4 ?_
  refine vs 1 ?_
  refine U.s rfl rfl (Ox.js rfl rfl D underlying25 rfl (.put rfl) ?_)
  refine vs 1 ?_
  refine U.ld cZ ((aK.box (bH _ (bH _ z0))).one (j:=3) rfl) ?_
  refine ls I underlying24 ?_
  refine vs 1 ?_
  refine er ?_
  refine sc d ?_ ?_<;>intro bL d
  ·refine sp ?_
   refine U.aP ?_
   refine sg bb ?_
   refine U.s rfl rfl (Ox.bB (vs:=[_,_,_,_,_,_]) rfl rfl a7 rfl ((aK.box (bH _ (bH _ z0))).part (j:=0) (n:=6) rfl) rfl (.put rfl) ?_)
   refine vs 1 ?_
   have ⟨bS,be,d⟩:=ae d
   refine U.cv Eh (Jb f E.2 I J N (D.rd (λ _ h=>(bH _ (bT _ h)))) be) ?_
   rintro bQ bG _ ⟨C,rfl,_,O,rfl⟩
   replace z:=z.le C
   replace y:=y.mono C
   replace D:=D.mono C
   refine vs 1 ?_
   refine es ?_
   refine sg aM ?_
   refine vs 1 ?_
   refine ls O underlying25 ?_
   refine vs 1 ?_
   refine er ?_
   refine sc d ?_ ?_<;>intro bM d
   ·refine sg aC ?_
    refine vs 2 ?_
    refine er ?_
    refine U.dg (H2:=m++((g,_)::H)) (λ X=>X++(m++((g,_)::H))) .id rfl y (λ bD aJ aU=>?_)
    replace d:=bn _ (au d)
    cases av d
    exact rt func18 (.tmp rfl .nil) (az (so sr)) (Y _ _ _ ⟨((A.trans C).trans aJ),rfl,F,aU,rfl⟩)
   refine sp ?_
   refine sg gW ?_
   refine vs 3 ?_
   refine U.s rfl rfl (Ox.js rfl rfl y underlying25 rfl (.put rfl) ?_)
   refine vs 1 ?_
   have ⟨bU,bf,d⟩:=ae d
   refine U.cv q3 (rD x1 (i64 (6+(E.1.length:Int))) (z.sub (su (az (az (so sr))))) bf) ?_
   rintro _ _ _ ⟨rfl,rfl,rfl⟩
   refine vs 1 ?_
   refine ls O underlying25 ?_
   have ⟨bV,bg,d⟩:=ae d
   refine U.s rfl rfl (Ox.rem rfl rfl rfl bg rfl (.put rfl) ?_)
   have ⟨ac,bh,d⟩:=ae d
   obtain ⟨bJ,bN,_,rfl,aT,a2⟩:=O.elem bd bh
   refine bX a2 ?_
   refine U.ld aI (aT.any.one (j:=0) rfl) ?_
   refine vs 1 ?_
   refine er ?_
   refine U.rg fz ?_
   refine vs 2 ?_
   refine dt (#[_]) cw c7 λ W=>?_
   have ⟨bW,bi,d⟩:=ae d
   refine U.s rfl rfl (Ox.append (K:=CZ) (λ X=>(W,_)::X++(m++((g,_)::H))) rfl rfl rfl eh underlying25 (by simp) (.cons .id) y (eB ac rfl) bi rfl λ bo V a5=>⟨_,(.put rfl),?_⟩)
   refine vs 2 ?_
   refine dt (#[_]) cw c7 λ ar=>?_
   have ⟨bY,bk,d⟩:=ae d
   refine U.s rfl rfl (Ox.append (K:=CZ) (λ X=>(ar,_)::(W,_)::V++(X++((g,_)::H))) rfl rfl rfl eh underlying25 (by simp) (.cons (.cons (.app .id))) D (eB ac rfl) bk rfl λ bp ag a6=>⟨_,(.put rfl),?_⟩)
   refine vs 2 ?_
   refine er ?_
   refine U.a0 ?_
   exact U.aR (so (so sr)) (ap _ (au d) _ _ _ ⟨(A.trans C),bo,V,bp,ag,a5,a6,rfl,aq bt⟩)
  exact U.bw rfl (U.aR (dm (az (so sr))) (aF _ (au d) _ _ _ ⟨A,F,G,y,rfl,aq eD⟩))
 rintro Z bC bu bP ⟨aG,L,M,a4,rfl,ba⟩ d
 refine U.sub ba ?_
 refine sg aC ?_
 refine vs 2 ?_
 refine er ?_
 refine U.dg (H2:=H) (λ X=>X++(H)) .id rfl a4 (λ bF aN a1=>?_)
 cases av d
 exact rt func18 (.tmp rfl .nil) sr (Y _ _ _ ⟨(aG.trans aN),rfl,L,a1,rfl⟩)
end
end Go.Proofs.YtoaoffinglajbaaGreatDoor
