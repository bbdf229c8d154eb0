/- Walks, part 5: each function computes its model. -/
import Derived.Test.YtoaoffinglajbaaGreatDoorQBHbP4
namespace Go.Proofs.YtoaoffinglajbaaGreatDoor
open Go.Lg Go.Proofs Tryz
set_option maxRecDepth 100000
set_option maxHeartbeats 4000000
section
variable {B:Base} {main:Bool} {af:Jd prog B main} {R:ay} {H:aj}
theorem Hc(L:(List Int)){v0:Value}{g:aj}(f:aX CZ 1 3 R v0 L g){r:(List Int)}(d:kQ L=some r):aL af 113 #[v0] R (g++H) (λ v R' H'=>∃ F,(R=R'∧aX CZ 1 3 R' v r F)∧H'=F++H):=by
 unfold kQ at d
 refine aY func113 61 λ fr cs D=>?_
 refine sg aB ?_
 refine vs 1 ?_
 refine es ?_
 refine sg aM ?_
 refine vs 1 ?_
 refine U.s rfl rfl (Ox.js rfl rfl f underlying25 rfl (.put rfl) ?_)
 refine vs 1 ?_
 refine er ?_
 refine sc d ?_ ?_<;>intro bs d
 ·refine sg aC ?_
  refine vs 2 ?_
  refine er ?_
  cases av d
  exact rt func113 (.tmp rfl .nil) sr (D _ _ _ ⟨g,⟨rfl,f⟩,rfl⟩)
 refine sp ?_
 refine sq ?_
 refine sg aB ?_
 refine vs 1 ?_
 refine er ?_
 refine U.aP ?_
 refine U.dy d (λ (y:Int) R' H' aa=>R=R'∧H'=g++(H)∧aA aa [(0,v0),(3,iv y)]) (λ (a2:Unit) R' H' aa=>R=R'∧H'=g++(H)∧aA aa [(0,v0)]) 0 rfl ⟨rfl,rfl,aq cg⟩ ?_ ?_
 rotate_right
 ·rintro y ba a6 bG ⟨rfl,rfl,aw⟩ bM d O P a1
  refine U.sub aw ?_
  refine sq ?_
  refine sg bb ?_
  refine vs 2 ?_
  refine U.s rfl rfl (Ox.js rfl rfl f underlying25 rfl (.put rfl) ?_)
  refine vs 1 ?_
  refine er ?_
  refine sc d ?_ ?_<;>intro bu d
  ·refine sp ?_
   refine sq ?_
   refine U.aP ?_
   refine sq ?_
   refine U.dw fz mixed ?_
   refine Any.vs 2 [0,1] rfl ?_
   have ⟨bN,aH,d⟩:=ae d
   have ⟨bO,aJ,d⟩:=ae d
   obtain ⟨bh,bA,_,rfl,S,ab⟩:=(f.rd (λ _ h=>(bT _ h))).elem bd aH
   refine tQ 2 rfl (kI ab) ?_
   refine tQ 3 rfl (kA aI 0 S pp) ?_
   refine Any.vs 3 [4,5,6] rfl ?_
   obtain ⟨bi,bB,_,rfl,T,ac⟩:=(f.rd (λ _ h=>(bT _ h))).elem bd aJ
   refine tQ 7 rfl (kI ac) ?_
   refine tQ 8 rfl (kA aI 0 T pp) ?_
   refine Any.vs 1 [9] rfl ?_
   refine Any.done ?_
   refine sc d ?_ ?_<;>intro bv d
   ·refine sg bb ?_
    refine vs 2 ?_
    have ⟨bP,aK,d⟩:=ae d
    refine U.s rfl rfl (Ox.l1 rfl rfl rfl rfl (f.Bm bd aK) rfl (.put rfl) ?_)
    refine vs 1 ?_
    refine es ?_
    refine sg aB ?_
    refine vs 1 ?_
    refine er ?_
    refine U.aP ?_
    refine U.cQ d (λ (A:((List Int) × Int × Int)) R' H' aa=>R=R'∧∃ z,aX CZ 1 3 R' v0 A.1 z∧H'=z++(H)∧aA aa [(0,v0),(3,iv A.2.1),(4,(iu v0 y.toNat 1)),(5,iv A.2.2)]) (λ (E:((List Int) × Int)) R' H' aa=>R=R'∧∃ C,aX CZ 1 3 R' v0 E.1 C∧H'=C++(H)∧aA aa [(0,v0),(3,iv E.2)]) 2 rfl ⟨rfl,g,f,rfl,aq bt⟩ ?_ ?_
    rotate_right
    ·rintro A bf a8 bI ⟨rfl,z,m,rfl,az⟩ bQ d G Q
     refine U.sub az ?_
     refine sq ?_
     refine sg bb ?_
     refine vs 2 ?_
     refine U.s rfl rfl (Ox.GL rfl rfl m underlying25 rfl (.put rfl) ?_)
     refine vs 1 ?_
     refine er ?_
     refine sc d ?_ ?_<;>intro bx d
     ·refine sp ?_
      refine sq ?_
      refine U.aP ?_
      refine sq ?_
      refine U.dw fz mixed ?_
      refine Any.vs 2 [0,1] rfl ?_
      have ⟨bS,aN,d⟩:=ae d
      have ⟨bU,aO,d⟩:=ae d
      obtain ⟨bk,bC,_,rfl,V,ad⟩:=(m.view (lo:=y.toNat) (λ _ h=>(bT _ h))).elem bd aN
      refine tQ 2 rfl (kI ad) ?_
      refine tQ 3 rfl (kA aI 0 V pp) ?_
      refine Any.vs 3 [4,5,6] rfl ?_
      obtain ⟨bm,bD,_,rfl,W,ag⟩:=(m.view (lo:=y.toNat) (λ _ h=>(bT _ h))).elem bd aO
      refine tQ 7 rfl (kI ag) ?_
      refine tQ 8 rfl (kA aI 0 W pp) ?_
      refine Any.vs 1 [9] rfl ?_
      refine Any.done ?_
      refine sc d ?_ ?_<;>intro bz d
      ·refine sg cX ?_
       refine vs 4 ?_
       have ⟨a4,aR,d⟩:=ae d
       have ⟨a5,aT,d⟩:=ae d
       obtain ⟨bn,bF,_,rfl,Y,ak⟩:=(m.view (lo:=y.toNat) (λ _ h=>(bT _ h))).elem bd aR
       refine bX ak ?_
       refine U.ld aI ((Y.sub pp).one (j:=0) rfl) ?_
       obtain ⟨bo,bp,_,rfl,rfl,bq,Z,am,br,aV,aG⟩:=m.dI bd aT
       refine bX am ?_
       refine U.s rfl rfl (Ox.dJ (K:=CZ) (k:=1) (e:=3) (i:=A.2.1) (x':=a4) (pre:=[]) (mid:=[iv a5]) (post:=[]) .id rfl rfl rfl rfl ed rfl (aW rfl bl) Z rfl rfl rfl aV aG rfl rfl (.refl _) λ M ao=>?_)
       refine er ?_
       refine U.rg aM ?_
       refine vs 3 ?_
       refine er ?_
       refine U.a0 ?_
       refine U.rg aM ?_
       refine vs 3 ?_
       refine er ?_
       exact G _ (au d) _ _ _ ⟨rfl,M,ao,rfl,aq bt⟩
      refine sp ?_
      refine U.a0 ?_
      refine U.rg aM ?_
      refine vs 3 ?_
      refine er ?_
      exact G _ (au d) _ _ _ ⟨rfl,z,m,rfl,aq bt⟩
     exact U.bw rfl (Q _ (au d) _ _ _ ⟨rfl,z,m,rfl,aq cg⟩)
    rintro E bg a9 bJ ⟨rfl,C,I,rfl,aF⟩ d
    refine U.sub aF ?_
    refine sg bb ?_
    refine vs 2 ?_
    have ⟨bV,J,d⟩:=ae d
    refine U.s rfl rfl (Ox.l1 rfl rfl rfl rfl (I.Bm bd J) rfl (.put rfl) ?_)
    refine U.s rfl rfl (Ox.Cn (λ X=>X++(H)) rfl rfl bd iw .id I (Cr J) rfl λ N ap=>⟨_,(.J0 rfl),?_⟩)
    refine nx bb ?_
    refine vs 2 ?_
    have ⟨bW,aU,d⟩:=ae d
    obtain ⟨bL,ar,an⟩:=ap.front bd aU
    refine U.s rfl rfl (Ox.l1 rfl rfl rfl rfl an rfl (.put rfl) ?_)
    refine vs 1 ?_
    refine er ?_
    replace d:=a1 _ (au d)
    cases av d
    exact rt func113 (.tmp rfl .nil) sr (D _ _ _ ⟨N,⟨rfl,ar⟩,rfl⟩)
   refine sp ?_
   refine U.a0 ?_
   refine U.rg aM ?_
   refine vs 3 ?_
   refine er ?_
   exact O _ (au d) _ _ _ ⟨rfl,rfl,aq cg⟩
  exact U.bw rfl (P _ (au d) _ _ _ ⟨rfl,rfl,aq eD⟩)
 rintro a2 be a7 bH ⟨rfl,rfl,ax⟩ d
 refine U.sub ax ?_
 refine sg aC ?_
 refine vs 2 ?_
 refine er ?_
 cases av d
 exact rt func113 (.tmp rfl .nil) sr (D _ _ _ ⟨g,⟨rfl,f⟩,rfl⟩)
theorem zo(f:cN)(x1:(bm→Option Int)){N O P L Q v1:Value}(_:ah bz 5 R N f.book.ao)(_:ah CZ 1 R O f.book.Out)(_:ah bq 2 R P f.book.aV)(z:ah eA 6 R L f.cW)(_:gL R Q f.hq)(m:g2 af R H (eT eA) (VI .i64) v1 x1){r:(List Int)}(d:lp f x1=some r):aL af 72 #[.agg #[iv f.book.ax,iv f.book.ad.ai,iv f.book.ad.ak,N,O,P,L,Q],v1] R H (λ v R' H'=>aH R R'∧H=H'∧∃ S,ah CZ 1 R' S r∧v=S):=by
 unfold lp at d
 refine aY func72 26 λ fr cs ap=>?_
 refine sg aC ?_
 refine bx λ bi=>?_
 refine vs 1 ?_
 refine nx aB ?_
 refine vs 1 ?_
 refine es ?_
 refine sg bb ?_
 refine vs 1 ?_
 refine ld 6 iY z0 ?_
 refine ls z underlying127 ?_
 refine vs 1 ?_
 refine er ?_
 refine U.aP ?_
 refine U.aR (H':=H) (so sr) ?_
 refine U.cQ d (λ (J:((List Int) × Int)) R' H' aa=>aH R R'∧∃ D y,aX CZ 1 3 R' D J.1 y∧H'=y++(H)∧aA aa [(1,v1),(5,D),(9,L),(10,iv (f.cW.length:Int)),(11,iv J.2)]) (λ (I:(List Int)) R' H' aa=>aH R R'∧∃ M E,aX CZ 1 3 R' M I E∧H'=E++(H)∧aA aa [(5,M)]) 0 rfl ⟨rr,aw,[],aX.nil,rfl,aq b2⟩ ?_ ?_
 rotate_right
 ·rintro J be a8 bv ⟨A,D,y,C,rfl,aJ⟩ bC d V Z
  refine U.sub aJ ?_
  replace z:=z.mono A
  replace m:=m.up A pp
  refine sg aB ?_
  refine vs 1 ?_
  refine es ?_
  refine sc d ?_ ?_<;>intro bs d
  ·refine sp ?_
   refine sq ?_
   refine U.aP ?_
   refine sg bb ?_
   have ⟨bD,aO,d⟩:=ae d
   obtain ⟨bk,bt,_,⟨g,rfl⟩,ag,an⟩:=z.elem r3 aO
   refine bX an ?_
   refine U.s rfl rfl (Ox.bB (vs:=_) rfl rfl dT (by simp [g]) (ag.any.part (j:=0) (n:=6) (dd (by simp [g]))) rfl (.put rfl) ?_)
   refine bu (List.toArray ([iv 0]++([0,0,0,0,0].map (Value.int .i64)++[]))) lM λ W=>?_
   refine U.s rfl rfl (Ox.cG (cs':=_) rfl rfl rfl dT (by simp [g]) (cj (aW rfl bl) (cj (ej λ _=>rfl) bl)) .here (by simp) (eo (by simp [g])) rfl (.refl _) ?_)
   refine er ?_
   refine U.rg dc ?_
   refine vs 2 ?_
   refine U.s rfl rfl (Ox.bB (vs:=_) rfl rfl dT (by simp [g]) ((aK.box z0).part (j:=0) (n:=6) (dd (by simp [g]))) rfl (.put rfl) ?_)
   have ⟨a6,aT,d⟩:=ae d
   refine U.step rfl rfl rfl (Ox.lZ m rfl rfl rfl ⟨_,rfl,⟨g,rfl⟩⟩ aT rfl (su (so (az sr))) ?_)
   rintro _ bh F rfl
   replace m:=m.up F pp
   replace C:=C.mono F
   refine ⟨_,(.put rfl),?_⟩
   refine dt (#[_]) cw c7 λ Y=>?_
   have ⟨bF,aU,d⟩:=ae d
   refine U.s rfl rfl (Ox.append (K:=CZ) (λ X=>(Y,_)::(W,_)::X++(H)) rfl rfl rfl eh underlying25 (by simp) (.cons (.cons .id)) C (eB a6 rfl) aU rfl λ a4 T aF=>⟨_,(.put rfl),?_⟩)
   refine vs 1 ?_
   refine er ?_
   refine U.a0 ?_
   refine U.rg aC ?_
   refine vs 2 ?_
   refine er ?_
   exact U.aR (so (so sr)) (V _ (au d) _ _ _ ⟨(A.trans F),a4,T,aF,rfl,aq b2⟩)
  exact U.bw rfl (Z _ (au d) _ _ _ ⟨A,D,y,C,rfl,aq eD⟩)
 rintro I bf a9 bA ⟨ab,M,E,ar,rfl,aN⟩ d
 refine U.sub aN ?_
 refine sg aC ?_
 refine vs 1 ?_
 have ⟨a7,a1,d⟩:=ae d
 refine U.step rfl rfl rfl (Ox.b5 rfl rfl rfl rfl CO rfl rfl ((aL.hole (G:=(λ X=>X++(H))) .id (Ha I ar a1)).mono ?_))
 rintro _ _ _ ⟨ba,⟨rfl,aG,rfl⟩,rfl⟩
 refine ⟨_,(.put rfl),?_⟩
 refine nx aM ?_
 refine vs 1 ?_
 have ⟨bG,a2,d⟩:=ae d
 refine U.step rfl rfl rfl (Ox.b5 rfl rfl rfl rfl CP rfl rfl ((aL.hole (G:=(λ X=>X++(H))) .id (Hc a7 aG a2)).mono ?_))
 rintro a5 _ _ ⟨bd,⟨rfl,aI⟩,rfl⟩
 refine ⟨_,(.put rfl),?_⟩
 refine vs 1 ?_
 refine er ?_
 refine U.dg (H2:=H) (λ X=>X++(H)) .id rfl aI (λ bg ac am=>?_)
 cases av d
 exact rt func72 (.tmp rfl .nil) sr (ap _ _ _ ⟨(ab.trans ac),rfl,a5,am,rfl⟩)
theorem Jh(f:bm)(x1:Int){g:Nat}(z:f.weights.length=5)(s:aK R H g 0 [iv x1]){r:Int}(d:mI f x1=some r):aL af 73 #[.agg (List.toArray ([iv f.eb]++(f.weights.map (Value.int .i64)++[]))),pT g] R H (λ v R' H'=>R=R'∧H=H'∧v=iv r):=by
 unfold mI at d
 refine aY func73 8 λ fr cs y=>?_
 refine sg aC ?_
 refine bx λ A=>?_
 refine vs 1 ?_
 refine nx bA ?_
 refine U.ld aI ((s.sub (su (so sr))).one (j:=0) rfl) ?_
 refine vs 1 ?_
 have ⟨C,m,d⟩:=ae d
 refine bX (h6 oU z m) ?_
 refine U.ld aI ((aK.box z0).arr m rfl) ?_
 refine vs 1 ?_
 refine er ?_
 cases av d
 exact rt func73 (.tmp rfl .nil) (so sr) (y _ _ _ aG)
theorem uA(f:an)(x1:Int){P Q S:Value}(Z:dX R)(V:ah bz 5 R P f.ao)(W:ah CZ 1 R Q f.Out)(Y:ah bq 2 R S f.aV){r:((List Int) × Int)}(d:jx f x1=some r):aL af 27 #[.agg #[iv f.ax,iv f.ad.ai,iv f.ad.ak,P,Q,S],iv x1] R H (λ v R' H'=>aH R R'∧H=H'∧∃ T,ah CZ 1 R' T r.1∧v = .tuple #[T,iv r.2]):=by
 unfold jx at d
 refine aY func27 20 λ fr cs O=>?_
 refine sg bb ?_
 refine bx λ J=>?_
 refine U.s rfl rfl (Ox.iF rfl rfl rfl rfl λ K _ _=>⟨_,(.put rfl),?_⟩)
 refine vs 2 ?_
 refine nx dW ?_
 refine lN [_,_,_,_,_,_] 0 6 a7 z1 ?_
 refine U.s rfl rfl (Ox.makeFunc (vs:=#[]) (us:=#[_]) rfl rfl rfl rfl (.put rfl) ?_)
 have ⟨aG,ag,d⟩:=ae d
 refine U.cv hE (hO f (λ y=>mH y x1) Z V W Y ⟨70,#[],#[_],rfl,Em,λ R' H' aa C y r va A D=>by obtain ⟨_,rfl,⟨a4,a5,a6,ar,au,aA,rfl⟩⟩:=A; exact (Jg y x1 ar au aA (aK.box (C _ z0)) D).mono λ _ _ _ ⟨g,m,z⟩=>⟨g ▸ rr,m.symm,z⟩⟩ ag) ?_
 rintro _ aN _ ⟨N,aI,aR,aT,aU,a1,a2,E,F,G,I,am,rfl,rfl⟩
 refine vs 3 ?_
 refine bu (#[iv 0,iv 0,iv 0,aw,aw,aw,aw,.map none]) g1 λ L=>?_
 refine bC (#[_,_,_,_,_,_,_,_]) dM .here ?_
 refine vs 1 ?_
 refine es ?_
 refine sg aC ?_
 refine vs 2 ?_
 refine er ?_
 refine sc d ?_ ?_<;>intro aP d
 ·refine sg aM ?_
  refine vs 3 ?_
  refine er ?_
  cases av d
  exact rt func27 (.tmp rfl (.tmp rfl .nil)) (so (az (so (so sr)))) (O _ _ _ ⟨N,rfl,aw,ah.nil,rfl⟩)
 refine sp ?_
 refine sg bA ?_
 refine lN [_,_,_,_,_,_,_,_] 0 8 dM z0 ?_
 refine U.s rfl rfl (Ox.makeFunc (vs:=#[]) (us:=#[_]) rfl rfl rfl rfl (.put rfl) ?_)
 refine U.o8 (H2:=(L,_)::(K,_)::(J,_)::H) (λ X=>(L,_)::X++((K,_)::(J,_)::H)) (.cons .id) rfl am (λ aJ M ac=>?_)
 have ⟨E,F,G,I⟩:=di M E F G I
 have ⟨a8,ap,d⟩:=ae d
 refine U.cv xI (zo aG.1 (λ y=>mI y x1) E F G I ac ⟨73,#[],#[_],rfl,En,λ R' H' aa C y r va A D=>by obtain ⟨_,rfl,⟨aB,rfl⟩⟩:=A; exact (Jh y x1 aB (aK.box (C _ z1)) D).mono λ _ _ _ ⟨g,m,z⟩=>⟨g ▸ rr,m.symm,z⟩⟩ ap) ?_
 rintro aF aO _ ⟨ab,rfl,_,aq,rfl⟩
 refine vs 2 ?_
 refine er ?_
 cases av d
 exact rt func27 (.tmp rfl (.tmp rfl .nil)) (so (so (so sr))) (O _ _ _ ⟨((N.trans M).trans ab),rfl,aF,aq,rfl⟩)
theorem nE(d:an)(x1:(List Int)){m s y v1:Value}{g:Nat}(z:ah bz 5 R m d.ao)(_:ah CZ 1 R s d.Out)(_:ah bq 2 R y d.aV)(C:aK R H g 0 [v1])(A:ah CZ 1 R v1 x1){r:Int}(f:hL d x1=some r):aL af 114 #[.agg #[iv d.ax,iv d.ad.ai,iv d.ad.ak,m,s,y],pT g] R H (λ v R' H'=>R=R'∧H=H'∧v=iv r):=by
 unfold hL at f
 refine aY func114 10 λ fr cs D=>?_
 refine sg aC ?_
 refine bx λ F=>?_
 refine vs 1 ?_
 refine nx dc ?_
 refine U.ld cb ((C.sub (su (so sr))).one (j:=0) rfl) ?_
 refine vs 2 ?_
 refine ld 3 cZ z0 ?_
 refine ls z underlying24 ?_
 have ⟨J,E,f⟩:=ae f
 refine U.cv tB (uG x1 (d.ao.length:Int) A.rd E) ?_
 rintro _ _ _ ⟨rfl,rfl,rfl⟩
 refine vs 1 ?_
 refine er ?_
 cases av f
 exact rt func114 (.tmp rfl .nil) (so sr) (D _ _ _ aG)
theorem rG(z:(List Int)){v0:Value}(d:ah CZ 1 R v0 z){r:(List Int)}(g:mJ z=some r):aL af 74 #[v0] R H (λ v R' H'=>aH R R'∧H=H'∧∃ y f,aK R' [] f 0 [y]∧ah CZ 1 R' y r∧v = .func (.func 114) #[] #[pT f]):=by
 unfold mJ at g
 refine aY func74 4 λ fr cs D=>?_
 refine sg aC ?_
 refine U.s rfl rfl (Ox.iF rfl rfl d.cells rfl λ A _ _=>⟨_,(.put rfl),?_⟩)
 refine vs 1 ?_
 refine nx aC ?_
 refine U.s rfl rfl (Ox.makeFunc (vs:=#[]) (us:=#[_]) rfl rfl rfl rfl (.put rfl) ?_)
 refine vs 1 ?_
 refine er ?_
 refine U.fZ (H2:=H) (λ X=>X++(H)) .id rfl (λ E m C=>?_)
 replace d:=d.mono m
 cases av g
 exact rt func74 (.tmp rfl .nil) sr (D _ _ _ ⟨m,rfl,v0,A,C,d,rfl⟩)
theorem Ji(f:bm)(x1:cN)(x2:(List Int)){C D E F G v2:Value}{y A:Nat}(s:f.weights.length=5)(M:aK R H y 0 [iv x1.book.ax,iv x1.book.ad.ai,iv x1.book.ad.ak,C,D,E,F,G])(I:ah bz 5 R C x1.book.ao)(J:ah CZ 1 R D x1.book.Out)(K:ah bq 2 R E x1.book.aV)(_:ah eA 6 R F x1.cW)(_:gL R G x1.hq)(N:aK R H A 0 [v2])(L:ah CZ 1 R v2 x2){r:Int}(d:mK f x1 x2=some r):aL af 75 #[.agg (List.toArray ([iv f.eb]++(f.weights.map (Value.int .i64)++[]))),pT y,pT A] R H (λ v R' H'=>R=R'∧H=H'∧v=iv r):=by
 unfold mK at d
 refine aY func75 12 λ fr cs O=>?_
 refine sg aC ?_
 refine bx λ V=>?_
 refine vs 1 ?_
 refine es ?_
 refine U.dw cX mixed ?_
 refine Any.vs 1 [0] rfl ?_
 refine Any.tk 1 rfl pp (λ R' H' m g=>Ox.bB (vs:=[_,_,_,_,_,_]) rfl rfl dA rfl (((M.le m).sub (λ p h=>g p ((su (so sr)) p h))).part (j:=0) (n:=6) rfl) rfl (.one rfl) aG) ?_
 refine Any.tk 2 rfl pp (λ R' H' m g=>Ox.bB (vs:=_) rfl rfl dT (by simp [s]) ((aK.box (g _ z0)).part (j:=0) (n:=6) (dd (by simp [s]))) rfl (.one rfl) aG) ?_
 refine Any.tk 3 rfl pp (λ R' H' m g=>Ox.iG (z:=(bW [false,false,false,false,false])) rfl iE rfl (.one rfl) aG) ?_
 refine tQ 4 rfl (kA cb 0 N (su (so sr))) ?_
 have ⟨T,P,d⟩:=ae d
 refine Any.cv 5 eK (eL [false,false,false,false,false] x2 rfl L.rd P) ?_
 rintro _ _ _ ⟨rfl,rfl,S,rfl⟩
 refine kp ?_
 have ⟨Z,Q,d⟩:=ae d
 refine Any.cv 6 kG (ln x1.book f T I J K s S Q) ?_
 rintro _ _ _ ⟨rfl,rfl,rfl⟩
 refine kp ?_
 refine Any.vs 1 [7] rfl ?_
 refine Any.done ?_
 cases av d
 exact rt func75 (.tmp rfl .nil) (so sr) (O _ _ _ aG)
theorem uB(Q:an)(x1:(List Int)){ba be bf v1:Value}(ac:dX R)(T:ah bz 5 R ba Q.ao)(V:ah CZ 1 R be Q.Out)(W:ah bq 2 R bf Q.aV)(d:ah CZ 1 R v1 x1){r:(Reach × Int)}(m:jy Q x1=some r):aL af 28 #[.agg #[iv Q.ax,iv Q.ad.ai,iv Q.ad.ak,ba,be,bf],v1] R H (λ v R' H'=>aH R R'∧H=H'∧v = .tuple #[.agg #[iv r.1.ai,iv r.1.ak],iv r.2]):=by
 unfold jy at m
 refine aY func28 33 λ fr cs a8=>?_
 refine sg bb ?_
 refine bx λ bQ=>?_
 refine U.s rfl rfl (Ox.iF rfl rfl d.cells rfl λ am _ _=>⟨_,(.put rfl),?_⟩)
 refine bu (#[iv 0,iv 0]) fT λ ar=>?_
 refine vs 1 ?_
 refine es ?_
 have ⟨ap,a9,m⟩:=ae m
 have ⟨g,a1,m⟩:=ae m
 refine U.cut (λ R' H' aa=>aH R R'∧∃ (z:Nat) (G:Value) (I:Value) (J:Value) (L:Value) (M:Value) (S:aj),ah bz 5 R' G g.1.book.ao∧ah CZ 1 R' I g.1.book.Out∧ah bq 2 R' J g.1.book.aV∧ah eA 6 R' L g.1.cW∧gu M g.1.hq S∧H'=(z,.cells #[iv g.1.book.ax,iv g.1.book.ad.ai,iv g.1.book.ad.ak,G,I,J,L,M] 130)::S++((ar,.cells #[iv 0,iv 0] 23)::(am,.cells #[v1] 25)::H)∧aA aa [(3,pT am),(4,pT ar),(6,pT z),(7,iv g.2)]) ?_ ?_
 ·rintro bN bM bX ⟨aP,z,G,I,J,L,M,S,A,C,D,E,P,rfl,bB⟩
  refine U.sub bB ?_
  replace d:=d.mono aP
  refine sq ?_
  refine sg aC ?_
  refine vs 2 ?_
  refine er ?_
  refine sc m ?_ ?_<;>intro bU m
  ·refine sg bb ?_
   refine cF (#[_,_]) jI ?_
   refine vs 1 ?_
   refine bC (#[_,_]) cB (.there (.skip .here)) ?_
   refine vs 1 ?_
   refine er ?_
   cases av m
   exact rt func28 (.agg rfl cB rfl (aK.box (.tail _ (bH _ z0))) (.tmp rfl .nil)) (so (az (so (so sr)))) (a8 _ _ _ ⟨aP,br⟩)
  refine sp ?_
  refine sg bb ?_
  refine lN [_,_,_,_,_,_,_,_] 0 8 dM z0 ?_
  refine U.s rfl rfl (Ox.makeFunc (vs:=#[]) (us:=#[_,_]) rfl rfl rfl rfl (.put rfl) ?_)
  refine U.o8 (H2:=(z,_)::(ar,_)::(am,_)::H) (λ X=>(z,_)::X++((ar,_)::(am,_)::H)) (.cons .id) rfl P (λ bO a5 a6=>?_)
  have ⟨d,A,C,D,E⟩:=oe a5 d A C D E
  have ⟨bL,bD,m⟩:=ae m
  refine U.cv xI (zo g.1 (λ y=>mK y g.1 x1) A C D E a6 ⟨75,#[],#[_,_],rfl,Eo,λ R' H' f au y r va ab ag=>by obtain ⟨_,rfl,⟨bI,rfl⟩⟩:=ab; exact (Ji y g.1 x1 bI (aK.box (au _ z0)) (A.mono f) (C.mono f) (D.mono f) (E.mono f) (a6.mono f) (aK.box (au _ z2)) (d.mono f) ag).mono λ _ _ _ ⟨d,Y,Z⟩=>⟨d ▸ rr,Y.symm,Z⟩⟩ bD) ?_
  rintro bY bP _ ⟨bn,rfl,_,a2,rfl⟩
  refine vs 1 ?_
  refine es ?_
  refine U.draw (n:=12) (is:=[0,1,2,3,4,5,6,7,8,9,10,11]) (many ((z,.cells #[iv g.1.book.ax,iv g.1.book.ad.ai,iv g.1.book.ad.ak,G,I,J,L,M] 130)::(ar,.cells #[iv 0,iv 0] 23)::(am,.cells #[v1] 25)::H) [(10,(z,.cells #[iv g.1.book.ax,iv g.1.book.ad.ai,iv g.1.book.ad.ak,G,I,J,L,M] 130)::(am,.cells #[v1] 25)::H)]) mixed rfl (by decide +kernel) rfl rfl ?_
  refine Any.vs 1 [0] rfl ?_
  have ⟨b1,bF,m⟩:=ae m
  have ⟨b2,bG,m⟩:=ae m
  obtain ⟨bS,bV,_,rfl,bs,bw⟩:=a2.elem bd bF
  refine ts 1 [2,9,10,11] rfl (aF rfl (aU (su (so (so (so sr)))))) (su (so (so (so sr)))) (kI bw) ?_
  refine ts 2 [9,10,11] rfl (aF rfl (aU (su (so (so (so sr)))))) (su (so (so (so sr)))) (kU aI 0 bs) ?_
  refine Any.vs 2 [3,4] rfl ?_
  refine ts 5 [6,7,8,9,10,11] rfl (aF rfl (aU (su (so (so (so sr)))))) (su (so (so (so sr)))) (λ R' H' f bp=>Ox.iM (K:=CZ) (k:=1) (xs:=bL) rfl rfl (a2.mono f) underlying25 rfl (.one rfl) aG) ?_
  refine Any.vs 1 [6] rfl ?_
  obtain ⟨bT,bW,_,rfl,bv,bA⟩:=a2.elem bd bG
  refine ts 7 [8,9,10,11] rfl (aF rfl (aU (su (so (so (so sr)))))) (su (so (so (so sr)))) (kI bA) ?_
  refine ts 8 [9,10,11] rfl (aF rfl (aU (su (so (so (so sr)))))) (su (so (so (so sr)))) (kU aI 0 bv) ?_
  refine ts 9 [10,11] rfl (aF rfl (aU (su (so (so (so sr)))))) (su (so (so (so sr)))) (λ R' H' f bp=>Ox.build (cells:=#[_,_]) rfl jI rfl (ca rfl rfl rfl rfl (ca rfl rfl rfl rfl cE)) rfl (.one rfl) aG) ?_
  refine Any.on 10 rfl rfl (aJ.to (Ox.cG (cs':=#[_,_]) rfl rfl rfl cB rfl (aW rfl (aW rfl bl)) (.there .here) rfl rfl rfl (.refl _) ⟨rr,(bo rfl (su (sk (so sr)))),?_⟩))
  refine Any.vs 1 [11] rfl ?_
  refine Any.done ?_
  cases av m
  exact rt func28 (.agg rfl cB rfl (aK.box z1) (.tmp rfl .nil)) (so (so (so sr))) (a8 _ _ _ ⟨((aP.trans a5).trans bn),br⟩)
 intro aT
 refine U.dw fz mixed ?_
 refine tN 0 [_,_,_,_,_,_] 0 6 a7 z2 ?_
 refine tl 1 0 cb z1 ?_
 refine tw 2 7 ?_ ?_
 ·refine  (Ox.b5 rfl rfl rfl rfl q4 rfl rfl ((rG x1 d a9).mono ?_))
  rintro _ bk _ ⟨N,rfl,bJ,bm,O,aO,rfl⟩
  have ⟨T,V,W,d⟩:=di N T V W d
  replace ac:=ac.mono N
  refine ⟨_,(.put rfl),⟨N,ka,?_⟩⟩
  refine tw 3 7 ?_ ?_
  ·refine  (Ox.b5 rfl rfl rfl rfl hE rfl rfl ((hO Q (λ y=>hL y ap) ac T V W ⟨114,#[],#[_],rfl,ns,λ R' H' f au y r va ab ag=>by obtain ⟨_,rfl,⟨bg,bh,bi,aB,aM,aN,rfl⟩⟩:=ab; exact (nE y ap aB aM aN (O.up f) (aO.mono f) ag).mono λ _ _ _ ⟨d,Y,Z⟩=>⟨d ▸ rr,Y.symm,Z⟩⟩ a1).mono ?_))
   rintro _ a4 _ ⟨F,S,G,I,J,L,M,A,C,D,E,P,rfl,rfl⟩
   replace O:=O.up (H:=[]) F
   refine ⟨_,(.put rfl),⟨F,(ku (az sr)),?_⟩⟩
   refine Any.vs 3 [4,5,6] rfl ?_
   refine Any.on 7 rfl rfl (aJ.to (Ox.alloc (cs:=#[iv 0,iv 0,iv 0,aw,aw,aw,aw,.map none]) rfl g1 rfl λ z _ _=>⟨_,(.put rfl),⟨rr,(ku (so (az sr))),?_⟩⟩))
   refine Any.on 8 rfl rfl (aJ.to (Ox.cG (cs':=#[_,_,_,_,_,_,_,_]) rfl rfl rfl dM rfl (aW rfl (aW rfl (aW rfl (aW A.one (aW C.one (aW D.one (aW E.one (aW P.one bl)))))))) .here rfl rfl rfl (.refl _) ⟨rr,(ku (so (az sr))),?_⟩))
   refine Any.vs 1 [9] rfl ?_
   exact Any.done (U.aR (sk (dm (sk (sk (so sr))))) (aT _ _ _ ⟨(N.trans F),z,G,I,J,L,M,S,A,C,D,E,P,rfl,aq bt⟩))
  refine  (aJ.to (Ox.alloc (cs:=#[iv 0,iv 0,iv 0,aw,aw,aw,aw,.map none]) rfl g1 rfl λ z _ _=>⟨_,(.put rfl),⟨rr,(ku (so sr)),?_⟩⟩))
  refine Any.cv 3 hE (hO Q (λ y=>hL y ap) ac T V W ⟨114,#[],#[_],rfl,ns,λ R' H' f au y r va ab ag=>by obtain ⟨_,rfl,⟨bg,bh,bi,aB,aM,aN,rfl⟩⟩:=ab; exact (nE y ap aB aM aN (O.up f) (aO.mono f) ag).mono λ _ _ _ ⟨d,Y,Z⟩=>⟨d ▸ rr,Y.symm,Z⟩⟩ a1) ?_
  rintro _ a4 _ ⟨F,S,G,I,J,L,M,A,C,D,E,P,rfl,rfl⟩
  replace O:=O.up (H:=[]) F
  refine ⟨F,(ku (az (so sr))),?_⟩
  refine Any.vs 3 [4,5,6] rfl ?_
  refine Any.on 8 rfl rfl (aJ.to (Ox.cG (cs':=#[_,_,_,_,_,_,_,_]) rfl rfl rfl dM rfl (aW rfl (aW rfl (aW rfl (aW A.one (aW C.one (aW D.one (aW E.one (aW P.one bl)))))))) (.skip .here) rfl rfl rfl (.refl _) ⟨rr,(ku (az (so sr))),?_⟩))
  refine Any.vs 1 [9] rfl ?_
  exact Any.done (U.aR (dm (sk (sk (sk (so sr))))) (U.perm (sa _ _ _) (aT _ _ _ ⟨(N.trans F),z,G,I,J,L,M,S,A,C,D,E,P,rfl,aq bt⟩)))
 refine  (aJ.to (Ox.alloc (cs:=#[iv 0,iv 0,iv 0,aw,aw,aw,aw,.map none]) rfl g1 rfl λ z _ _=>⟨_,(.put rfl),⟨rr,(ku (so sr)),?_⟩⟩))
 refine Any.cv 2 q4 (rG x1 d a9) ?_
 rintro _ bk _ ⟨N,rfl,bJ,bm,O,aO,rfl⟩
 have ⟨T,V,W,d⟩:=di N T V W d
 replace ac:=ac.mono N
 refine ⟨N,(ku (so sr)),?_⟩
 refine Any.cv 3 hE (hO Q (λ y=>hL y ap) ac T V W ⟨114,#[],#[_],rfl,ns,λ R' H' f au y r va ab ag=>by obtain ⟨_,rfl,⟨bg,bh,bi,aB,aM,aN,rfl⟩⟩:=ab; exact (nE y ap aB aM aN (O.up f) (aO.mono f) ag).mono λ _ _ _ ⟨d,Y,Z⟩=>⟨d ▸ rr,Y.symm,Z⟩⟩ a1) ?_
 rintro _ a4 _ ⟨F,S,G,I,J,L,M,A,C,D,E,P,rfl,rfl⟩
 replace O:=O.up (H:=[]) F
 refine ⟨F,(ku (az (so sr))),?_⟩
 refine Any.vs 3 [4,5,6] rfl ?_
 refine Any.on 8 rfl rfl (aJ.to (Ox.cG (cs':=#[_,_,_,_,_,_,_,_]) rfl rfl rfl dM rfl (aW rfl (aW rfl (aW rfl (aW A.one (aW C.one (aW D.one (aW E.one (aW P.one bl)))))))) (.skip .here) rfl rfl rfl (.refl _) ⟨rr,(ku (az (so sr))),?_⟩))
 refine Any.vs 1 [9] rfl ?_
 exact Any.done (U.aR (dm (sk (sk (sk (so sr))))) (U.perm (sa _ _ _) (aT _ _ _ ⟨(N.trans F),z,G,I,J,L,M,S,A,C,D,E,P,rfl,aq bt⟩)))
theorem zp(f:cN)(x1:(bm→Option Bool)){E F G A I v1:Value}(_:ah bz 5 R E f.book.ao)(_:ah CZ 1 R F f.book.Out)(_:ah bq 2 R G f.book.aV)(g:ah eA 6 R A f.cW)(_:gL R I f.hq)(y:g2 af R H (eT eA) VB v1 x1){r:Int}(d:lq f x1=some r):aL af 76 #[.agg #[iv f.book.ax,iv f.book.ad.ai,iv f.book.ad.ak,E,F,G,A,I],v1] R H (λ v R' H'=>aH R R'∧H=H'∧v=iv r):=by
 unfold lq at d
 refine aY func76 29 λ fr cs K=>?_
 refine sg aC ?_
 refine bx λ C=>?_
 refine vs 1 ?_
 refine nx aB ?_
 refine vs 1 ?_
 refine es ?_
 refine sg bb ?_
 refine vs 1 ?_
 refine ld 6 iY z0 ?_
 refine ls g underlying127 ?_
 refine vs 1 ?_
 refine er ?_
 refine U.aP ?_
 refine U.cQ d (λ (L:(Int × Int)) R' H' aa=>aH R R'∧H'=(C,.cells #[iv f.book.ax,iv f.book.ad.ai,iv f.book.ad.ak,E,F,G,A,I] 130)::H∧aA aa [(1,v1),(2,pT C),(5,iv L.1),(9,A),(10,iv (f.cW.length:Int)),(11,iv L.2)]) (λ (N:Int) R' H' aa=>aH R R'∧H'=(C,.cells #[iv f.book.ax,iv f.book.ad.ai,iv f.book.ad.ak,E,F,G,A,I] 130)::H∧aA aa [(2,pT C),(5,iv N)]) 0 rfl ⟨rr,rfl,aq cS⟩ ?_ ?_
 rotate_right
 ·rintro L ab Y aO ⟨z,rfl,S⟩ aU d M O
  refine U.sub S ?_
  replace g:=g.mono z
  replace y:=y.up z pp
  refine sg aB ?_
  refine vs 1 ?_
  refine es ?_
  refine sc d ?_ ?_<;>intro aF d
  ·refine sp ?_
   refine sq ?_
   refine U.aP ?_
   refine sg bb ?_
   have ⟨a1,V,d⟩:=ae d
   obtain ⟨an,aN,_,⟨m,rfl⟩,P,Q⟩:=g.elem r3 V
   refine bX Q ?_
   refine U.s rfl rfl (Ox.bB (vs:=_) rfl rfl dT (by simp [m]) (P.any.part (j:=0) (n:=6) (dd (by simp [m]))) rfl (.put rfl) ?_)
   refine bu (List.toArray ([iv 0]++([0,0,0,0,0].map (Value.int .i64)++[]))) lM λ am=>?_
   refine U.s rfl rfl (Ox.cG (cs':=_) rfl rfl rfl dT (by simp [m]) (cj (aW rfl bl) (cj (ej λ _=>rfl) bl)) .here (by simp) (eo (by simp [m])) rfl (.refl _) ?_)
   refine nx aM ?_
   refine vs 1 ?_
   refine U.s rfl rfl (Ox.bB (vs:=_) rfl rfl dT (by simp [m]) ((aK.box z0).part (j:=0) (n:=6) (dd (by simp [m]))) rfl (.put rfl) ?_)
   have ⟨a2,W,d⟩:=ae d
   refine U.step rfl rfl rfl (Ox.lZ y rfl rfl rfl ⟨_,rfl,⟨m,rfl⟩⟩ W rfl (su (so (so sr))) ?_)
   rintro _ ag J rfl
   replace y:=y.up J pp
   refine ⟨_,(.put rfl),?_⟩
   refine er ?_
   refine sc d ?_ ?_<;>intro aG d
   ·refine U.rg aM ?_
    refine vs 3 ?_
    refine er ?_
    refine U.a0 ?_
    refine U.rg aC ?_
    refine vs 2 ?_
    refine er ?_
    exact U.aR (so sr) (M _ (au d) _ _ _ ⟨(z.trans J),rfl,aq cS⟩)
   refine sp ?_
   refine U.a0 ?_
   refine U.rg aC ?_
   refine vs 2 ?_
   refine er ?_
   exact U.aR (so sr) (M _ (au d) _ _ _ ⟨(z.trans J),rfl,aq cS⟩)
  exact U.bw rfl (O _ (au d) _ _ _ ⟨z,rfl,aq cg⟩)
 rintro N ac Z aT ⟨D,rfl,T⟩ d
 refine U.sub T ?_
 replace g:=g.mono D
 refine sq ?_
 refine sg aB ?_
 refine vs 1 ?_
 refine er ?_
 refine U.aP ?_
 refine sg aC ?_
 refine vs 2 ?_
 refine er ?_
 refine sc d ?_ ?_<;>intro aI d
 ·refine sg aB ?_
  refine vs 1 ?_
  refine er ?_
  cases av d
  exact rt func76 (.tmp rfl .nil) (so sr) (K _ _ _ ⟨D,br⟩)
 refine sg bA ?_
 refine vs 1 ?_
 refine ld 6 iY z0 ?_
 refine ls g underlying127 ?_
 refine vs 2 ?_
 refine er ?_
 refine sc d ?_ ?_<;>intro aJ d
 ·refine sg aB ?_
  refine vs 1 ?_
  refine er ?_
  cases av d
  exact rt func76 (.tmp rfl .nil) (so sr) (K _ _ _ ⟨D,br⟩)
 refine sp ?_
 refine U.a0 ?_
 refine sg aB ?_
 refine vs 1 ?_
 refine er ?_
 cases av d
 exact rt func76 (.tmp rfl .nil) (so sr) (K _ _ _ ⟨D,br⟩)
theorem Jk(m:bm)(x1:cN)(x2:(List Int)){G I J K L v2:Value}{y A:Nat}(s:m.weights.length=5)(F:aK R H y 0 [iv x1.book.ax,iv x1.book.ad.ai,iv x1.book.ad.ak,G,I,J,K,L])(C:ah bz 5 R G x1.book.ao)(D:ah CZ 1 R I x1.book.Out)(E:ah bq 2 R J x1.book.aV)(_:ah eA 6 R K x1.cW)(_:gL R L x1.hq)(N:aK R H A 0 [v2])(M:ah CZ 1 R v2 x2){r:Bool}(d:oa m x1 x2=some r):aL af 77 #[.agg (List.toArray ([iv m.eb]++(m.weights.map (Value.int .i64)++[]))),pT y,pT A] R H (λ v R' H'=>R=R'∧H=H'∧v = .bool r):=by
 unfold oa at d
 refine aY func77 15 λ fr cs O=>?_
 refine sg aC ?_
 refine bx λ Y=>?_
 refine vs 1 ?_
 refine es ?_
 refine U.dw hW mixed ?_
 refine Any.vs 1 [0] rfl ?_
 refine Any.tk 1 rfl pp (λ R' H' g f=>Ox.bB (vs:=[_,_,_,_,_,_]) rfl rfl dA rfl (((F.le g).sub (λ p h=>f p ((su (so sr)) p h))).part (j:=0) (n:=6) rfl) rfl (.one rfl) aG) ?_
 refine Any.vs 1 [2] rfl ?_
 refine Any.tk 3 rfl pp (λ R' H' g f=>Ox.bB (vs:=[_,_,_,_,_,_]) rfl rfl dA rfl (((F.le g).sub (λ p h=>f p ((su (so sr)) p h))).part (j:=0) (n:=6) rfl) rfl (.one rfl) aG) ?_
 refine Any.tk 4 rfl pp (λ R' H' g f=>Ox.bB (vs:=_) rfl rfl dT (by simp [s]) ((aK.box (f _ z0)).part (j:=0) (n:=6) (dd (by simp [s]))) rfl (.one rfl) aG) ?_
 refine Any.tk 5 rfl pp (λ R' H' g f=>Ox.iG (z:=(bW [false,false,false,false,false])) rfl iE rfl (.one rfl) aG) ?_
 refine tQ 6 rfl (kA cb 0 N (su (so sr))) ?_
 have ⟨V,P,d⟩:=ae d
 refine Any.cv 7 eK (eL [false,false,false,false,false] x2 rfl M.rd P) ?_
 rintro _ _ _ ⟨rfl,rfl,T,rfl⟩
 refine kp ?_
 have ⟨W,Q,d⟩:=ae d
 refine Any.cv 8 kG (ln x1.book m V C D E s T Q) ?_
 rintro _ _ _ ⟨rfl,rfl,rfl⟩
 refine kp ?_
 have ⟨ab,S,d⟩:=ae d
 refine Any.cv 9 tE (uK x1.book W C D E S) ?_
 rintro _ _ _ ⟨rfl,rfl,rfl⟩
 refine kp ?_
 refine Any.vs 1 [10] rfl ?_
 refine Any.done ?_
 cases av d
 exact rt func77 (.tmp rfl .nil) (so sr) (O _ _ _ aG)
theorem y7(K:an)(x1:(List Int)){a2 a4 a5 v1:Value}(ab:dX R)(S:ah bz 5 R a2 K.ao)(T:ah CZ 1 R a4 K.Out)(V:ah bq 2 R a5 K.aV)(d:ah CZ 1 R v1 x1){r:(Int × Int)}(E:mF K x1=some r):aL af 29 #[.agg #[iv K.ax,iv K.ad.ai,iv K.ad.ak,a2,a4,a5],v1] R H (λ v R' H'=>aH R R'∧H=H'∧v = .tuple #[iv r.1,iv r.2]):=by
 unfold mF at E
 refine aY func29 21 λ fr cs aU=>?_
 refine sg bb ?_
 refine bx λ bp=>?_
 refine U.s rfl rfl (Ox.iF rfl rfl d.cells rfl λ aB _ _=>⟨_,(.put rfl),?_⟩)
 refine vs 2 ?_
 refine es ?_
 have ⟨ag,a1,E⟩:=ae E
 have ⟨C,aN,E⟩:=ae E
 refine U.cut (λ R' H' aa=>aH R R'∧∃ (D:Nat) (M:Value) (N:Value) (O:Value) (P:Value) (Q:Value) (L:aj),ah bz 5 R' M C.1.book.ao∧ah CZ 1 R' N C.1.book.Out∧ah bq 2 R' O C.1.book.aV∧ah eA 6 R' P C.1.cW∧gu Q C.1.hq L∧H'=(D,.cells #[iv C.1.book.ax,iv C.1.book.ad.ai,iv C.1.book.ad.ak,M,N,O,P,Q] 130)::L++((aB,.cells #[v1] 25)::H)∧aA aa [(3,pT aB),(6,pT D),(7,iv C.2)]) ?_ ?_
 ·rintro bm bk bt ⟨aG,D,M,N,O,P,Q,L,g,m,z,A,J,rfl,bf⟩
  refine U.sub bf ?_
  replace d:=d.mono aG
  refine sq ?_
  refine sg aC ?_
  refine vs 2 ?_
  refine er ?_
  refine sc E ?_ ?_<;>intro bs E
  ·refine sg aM ?_
   refine vs 3 ?_
   refine er ?_
   cases av E
   exact rt func29 (.tmp rfl (.tmp rfl .nil)) (so (az (so sr))) (aU _ _ _ ⟨aG,br⟩)
  refine sp ?_
  refine sg bA ?_
  refine lN [_,_,_,_,_,_,_,_] 0 8 dM z0 ?_
  refine U.s rfl rfl (Ox.makeFunc (vs:=#[]) (us:=#[_,_]) rfl rfl rfl rfl (.put rfl) ?_)
  refine U.o8 (H2:=(D,_)::(aB,_)::H) (λ X=>(D,_)::X++((aB,_)::H)) (.cons .id) rfl J (λ bn aP aT=>?_)
  have ⟨d,g,m,z,A⟩:=oe aP d g m z A
  have ⟨bu,bg,E⟩:=ae E
  refine U.cv xJ (zp C.1 (λ y=>oa y C.1 x1) g m z A aT ⟨77,#[],#[_,_],rfl,Ep,λ R' H' f am y r va Z ac=>by obtain ⟨_,rfl,⟨bh,rfl⟩⟩:=Z; exact (Jk y C.1 x1 bh (aK.box (am _ z0)) (g.mono f) (m.mono f) (z.mono f) (A.mono f) (aT.mono f) (aK.box (am _ z1)) (d.mono f) ac).mono λ _ _ _ ⟨d,W,Y⟩=>⟨d ▸ rr,W.symm,Y⟩⟩ bg) ?_
  rintro _ bo _ ⟨be,rfl,rfl⟩
  refine vs 2 ?_
  refine er ?_
  cases av E
  exact rt func29 (.tmp rfl (.tmp rfl .nil)) (so (so sr)) (aU _ _ _ ⟨((aG.trans aP).trans be),br⟩)
 intro aI
 refine U.dw fz mixed ?_
 refine tN 0 [_,_,_,_,_,_] 0 6 a7 z1 ?_
 refine tl 1 0 cb z0 ?_
 refine tw 2 7 ?_ ?_
 ·refine  (Ox.b5 rfl rfl rfl rfl q4 rfl rfl ((rG x1 d a1).mono ?_))
  rintro _ ba _ ⟨G,rfl,bi,bd,I,aF,rfl⟩
  have ⟨S,T,V,d⟩:=di G S T V d
  replace ab:=ab.mono G
  refine ⟨_,(.put rfl),⟨G,ka,?_⟩⟩
  refine tw 3 7 ?_ ?_
  ·refine  (Ox.b5 rfl rfl rfl rfl hE rfl rfl ((hO K (λ y=>hL y ag) ab S T V ⟨114,#[],#[_],rfl,ns,λ R' H' f am y r va Z ac=>by obtain ⟨_,rfl,⟨a6,a8,a9,ap,ar,au,rfl⟩⟩:=Z; exact (nE y ag ap ar au (I.up f) (aF.mono f) ac).mono λ _ _ _ ⟨d,W,Y⟩=>⟨d ▸ rr,W.symm,Y⟩⟩ aN).mono ?_))
   rintro _ aO _ ⟨F,L,M,N,O,P,Q,g,m,z,A,J,rfl,rfl⟩
   replace I:=I.up (H:=[]) F
   refine ⟨_,(.put rfl),⟨F,(ku (az sr)),?_⟩⟩
   refine Any.vs 3 [4,5,6] rfl ?_
   refine Any.on 7 rfl rfl (aJ.to (Ox.alloc (cs:=#[iv 0,iv 0,iv 0,aw,aw,aw,aw,.map none]) rfl g1 rfl λ D _ _=>⟨_,(.put rfl),⟨rr,(ku (so (az sr))),?_⟩⟩))
   refine Any.on 8 rfl rfl (aJ.to (Ox.cG (cs':=#[_,_,_,_,_,_,_,_]) rfl rfl rfl dM rfl (aW rfl (aW rfl (aW rfl (aW g.one (aW m.one (aW z.one (aW A.one (aW J.one bl)))))))) .here rfl rfl rfl (.refl _) ⟨rr,(ku (so (az sr))),?_⟩))
   refine Any.vs 1 [9] rfl ?_
   exact Any.done (U.aR (sk (dm (sk (so sr)))) (aI _ _ _ ⟨(G.trans F),D,M,N,O,P,Q,L,g,m,z,A,J,rfl,aq du⟩))
  refine  (aJ.to (Ox.alloc (cs:=#[iv 0,iv 0,iv 0,aw,aw,aw,aw,.map none]) rfl g1 rfl λ D _ _=>⟨_,(.put rfl),⟨rr,(ku (so sr)),?_⟩⟩))
  refine Any.cv 3 hE (hO K (λ y=>hL y ag) ab S T V ⟨114,#[],#[_],rfl,ns,λ R' H' f am y r va Z ac=>by obtain ⟨_,rfl,⟨a6,a8,a9,ap,ar,au,rfl⟩⟩:=Z; exact (nE y ag ap ar au (I.up f) (aF.mono f) ac).mono λ _ _ _ ⟨d,W,Y⟩=>⟨d ▸ rr,W.symm,Y⟩⟩ aN) ?_
  rintro _ aO _ ⟨F,L,M,N,O,P,Q,g,m,z,A,J,rfl,rfl⟩
  replace I:=I.up (H:=[]) F
  refine ⟨F,(ku (az (so sr))),?_⟩
  refine Any.vs 3 [4,5,6] rfl ?_
  refine Any.on 8 rfl rfl (aJ.to (Ox.cG (cs':=#[_,_,_,_,_,_,_,_]) rfl rfl rfl dM rfl (aW rfl (aW rfl (aW rfl (aW g.one (aW m.one (aW z.one (aW A.one (aW J.one bl)))))))) (.skip .here) rfl rfl rfl (.refl _) ⟨rr,(ku (az (so sr))),?_⟩))
  refine Any.vs 1 [9] rfl ?_
  exact Any.done (U.aR (dm (sk (sk (so sr)))) (U.perm (sa _ _ _) (aI _ _ _ ⟨(G.trans F),D,M,N,O,P,Q,L,g,m,z,A,J,rfl,aq du⟩)))
 refine  (aJ.to (Ox.alloc (cs:=#[iv 0,iv 0,iv 0,aw,aw,aw,aw,.map none]) rfl g1 rfl λ D _ _=>⟨_,(.put rfl),⟨rr,(ku (so sr)),?_⟩⟩))
 refine Any.cv 2 q4 (rG x1 d a1) ?_
 rintro _ ba _ ⟨G,rfl,bi,bd,I,aF,rfl⟩
 have ⟨S,T,V,d⟩:=di G S T V d
 replace ab:=ab.mono G
 refine ⟨G,(ku (so sr)),?_⟩
 refine Any.cv 3 hE (hO K (λ y=>hL y ag) ab S T V ⟨114,#[],#[_],rfl,ns,λ R' H' f am y r va Z ac=>by obtain ⟨_,rfl,⟨a6,a8,a9,ap,ar,au,rfl⟩⟩:=Z; exact (nE y ag ap ar au (I.up f) (aF.mono f) ac).mono λ _ _ _ ⟨d,W,Y⟩=>⟨d ▸ rr,W.symm,Y⟩⟩ aN) ?_
 rintro _ aO _ ⟨F,L,M,N,O,P,Q,g,m,z,A,J,rfl,rfl⟩
 replace I:=I.up (H:=[]) F
 refine ⟨F,(ku (az (so sr))),?_⟩
 refine Any.vs 3 [4,5,6] rfl ?_
 refine Any.on 8 rfl rfl (aJ.to (Ox.cG (cs':=#[_,_,_,_,_,_,_,_]) rfl rfl rfl dM rfl (aW rfl (aW rfl (aW rfl (aW g.one (aW m.one (aW z.one (aW A.one (aW J.one bl)))))))) (.skip .here) rfl rfl rfl (.refl _) ⟨rr,(ku (az (so sr))),?_⟩))
 refine Any.vs 1 [9] rfl ?_
 exact Any.done (U.aR (dm (sk (sk (so sr)))) (U.perm (sa _ _ _) (aI _ _ _ ⟨(G.trans F),D,M,N,O,P,Q,L,g,m,z,A,J,rfl,aq du⟩)))
theorem uL(f:an)(x1:(List Bool)){N O P:Value}(A:ah bz 5 R N f.ao)(I:ah CZ 1 R O f.Out)(J:ah bq 2 R P f.aV)(M:x1.length=5){r:(List Int)}(d:jC f x1=some r):aL af 79 #[.agg #[iv f.ax,iv f.ad.ai,iv f.ad.ak,N,O,P],.agg (bW x1)] R H (λ v R' H'=>aH R R'∧H=H'∧∃ T,ah CZ 1 R' T r∧v=T):=by
 unfold jC at d
 refine aY func79 24 λ fr cs ag=>?_
 refine sg aM ?_
 refine bx λ F=>?_
 refine bx λ G=>?_
 refine vs 1 ?_
 refine nx aB ?_
 refine vs 1 ?_
 refine es ?_
 refine sg bA ?_
 refine vs 2 ?_
 refine ld 3 cZ z1 ?_
 refine ls A underlying24 ?_
 refine vs 1 ?_
 refine er ?_
 refine U.aP ?_
 refine U.cQ d (λ (y:((List Int) × Int)) R' H' aa=>aH R R'∧∃ z g,aX CZ 1 3 R' z y.1 g∧H'=g++((G,.cells (bW x1) 124)::(F,.cells #[iv f.ax,iv f.ad.ai,iv f.ad.ak,N,O,P] 115)::H)∧aA aa [(2,pT F),(3,pT G),(5,z),(10,iv (f.ao.length:Int)),(11,iv y.2)]) (λ (S:(List Int)) R' H' aa=>aH R R'∧∃ D E,aX CZ 1 3 R' D S E∧H'=E++(H)∧aA aa [(5,D)]) 0 rfl ⟨rr,aw,[],aX.nil,rfl,aq b2⟩ ?_ ?_
 rotate_right
 ·rintro y aO aJ a5 ⟨C,z,g,m,rfl,ar⟩ a7 d Q Y
  refine U.sub ar ?_
  have ⟨A,I,J⟩:=cH C A I J
  refine sg aB ?_
  refine vs 1 ?_
  refine es ?_
  refine sc d ?_ ?_<;>intro a2 d
  ·refine sp ?_
   refine sq ?_
   refine U.aP ?_
   refine sg aC ?_
   refine vs 2 ?_
   refine nx bb ?_
   refine lN [_,_,_,_,_,_] 0 6 dA (bH _ z1) ?_
   refine U.s rfl rfl (Ox.bB (vs:=_) rfl rfl cR (by simp [M]) ((aK.box (bH _ z0)).part (j:=0) (n:=5) (dd (by simp [M]))) rfl (.put rfl) ?_)
   refine vs 1 ?_
   have ⟨a8,aF,d⟩:=ae d
   refine U.cv xv (yU f x1 y.2 A I J M aF) ?_
   rintro _ a1 _ ⟨L,rfl,rfl⟩
   replace m:=m.mono L
   refine er ?_
   refine sc d ?_ ?_<;>intro a4 d
   ·refine U.rg bA ?_
    refine vs 2 ?_
    refine dt (#[_]) cw c7 λ W=>?_
    have ⟨a9,aG,d⟩:=ae d
    refine U.s rfl rfl (Ox.append (K:=CZ) (λ X=>(W,_)::X++((G,_)::(F,_)::H)) rfl rfl rfl eh underlying25 (by simp) (.cons .id) m (eB y.2 rfl) aG rfl λ aI V ap=>⟨_,(.put rfl),?_⟩)
    refine vs 1 ?_
    refine er ?_
    refine U.a0 ?_
    refine U.rg aC ?_
    refine vs 2 ?_
    refine er ?_
    exact U.aR (so sr) (Q _ (au d) _ _ _ ⟨(C.trans L),aI,V,ap,rfl,aq b2⟩)
   refine sp ?_
   refine U.a0 ?_
   refine U.rg aC ?_
   refine vs 2 ?_
   refine er ?_
   exact Q _ (au d) _ _ _ ⟨(C.trans L),z,g,m,rfl,aq b2⟩
  exact U.bw rfl (U.aR (dm (so (so sr))) (Y _ (au d) _ _ _ ⟨C,z,g,m,rfl,aq eD⟩))
 rintro S aT aN a6 ⟨Z,D,E,am,rfl,az⟩ d
 refine U.sub az ?_
 refine sg aC ?_
 refine vs 2 ?_
 refine er ?_
 refine U.dg (H2:=H) (λ X=>X++(H)) .id rfl am (λ aU ab ac=>?_)
 cases av d
 exact rt func79 (.tmp rfl .nil) sr (ag _ _ _ ⟨(Z.trans ab),rfl,D,ac,rfl⟩)
theorem IJ(d:an){D E F:Value}(I:dX R)(m:ah bz 5 R D d.ao)(g:ah CZ 1 R E d.Out)(s:ah bq 2 R F d.aV){r:((List Int) × Int)}(f:nS d=some r):aL af 30 #[.agg #[iv d.ax,iv d.ad.ai,iv d.ad.ak,D,E,F]] R H (λ v R' H'=>aH R R'∧H=H'∧∃ G,ah CZ 1 R' G r.1∧v = .tuple #[G,iv r.2]):=by
 unfold nS at f
 refine aY func30 17 λ fr cs C=>?_
 refine sg aM ?_
 refine bx λ W=>?_
 refine vs 2 ?_
 refine es ?_
 refine sg aM ?_
 refine lN [_,_,_,_,_,_] 0 6 a7 z0 ?_
 have ⟨Z,L,f⟩:=ae f
 refine U.cv jT (j6 d I m g s L) ?_
 rintro _ T _ ⟨y,rfl,rfl⟩
 have ⟨m,g,s⟩:=cH y m g s
 refine vs 1 ?_
 refine nx aC ?_
 refine vs 2 ?_
 refine er ?_
 refine sc f ?_ ?_<;>intro Y f
 ·refine sg aM ?_
  refine vs 3 ?_
  refine er ?_
  cases av f
  exact rt func30 (.tmp rfl (.tmp rfl .nil)) (so sr) (C _ _ _ ⟨y,rfl,aw,ah.nil,rfl⟩)
 refine sp ?_
 refine sq ?_
 refine U.dw dW mixed ?_
 refine tN 0 [_,_,_,_,_,_] 0 6 a7 z0 ?_
 refine Any.tk 1 rfl pp (λ R' H' J K=>Ox.build (cells:=#[_,_,_,_,_,_]) rfl im rfl (ca rfl rfl rfl rfl cE) rfl (.one rfl) aG) ?_
 refine Any.tk 2 rfl pp (λ R' H' J K=>Ox.iG (z:=(bW [false,false,false,false,false])) rfl iE rfl (.one rfl) aG) ?_
 refine Any.vs 1 [3] rfl ?_
 refine tl 4 4 cb z0 ?_
 have ⟨S,M,f⟩:=ae f
 refine Any.cv 5 eK (eL [false,false,false,false,false] d.Out rfl g.rd M) ?_
 rintro _ _ _ ⟨rfl,rfl,P,rfl⟩
 refine kp ?_
 have ⟨aa,N,f⟩:=ae f
 refine Any.cv 6 tF (uL (⟨d.ax,⟨d.ad.ai,d.ad.ak⟩,d.ao,d.Out,d.aV⟩:an) S m g s P N) ?_
 rintro Q V _ ⟨A,rfl,_,O,rfl⟩
 refine ⟨A,ka,?_⟩
 refine Any.vs 2 [7,8] rfl ?_
 refine Any.done ?_
 cases av f
 exact rt func30 (.tmp rfl (.tmp rfl .nil)) (so sr) (C _ _ _ ⟨(y.trans A),rfl,Q,O,rfl⟩)
theorem pR(d:an){g m s:Value}(_:ah bz 5 R g d.ao)(_:ah CZ 1 R m d.Out)(_:ah bq 2 R s d.aV){r:Int}(f:gS d=some r):aL af 80 #[.agg #[iv d.ax,iv d.ad.ai,iv d.ad.ak,g,m,s]] R H (λ v R' H'=>R=R'∧H=H'∧v=iv r):=by
 unfold gS at f
 refine aY func80 3 λ fr cs y=>?_
 refine sg aC ?_
 refine bx λ z=>?_
 refine vs 1 ?_
 refine nx aB ?_
 refine vs 1 ?_
 refine er ?_
 cases av f
 exact rt func80 (.tmp rfl .nil) (so sr) (y _ _ _ aG)
theorem uo{S:Type}{ys:(List Bool)→S→Option (S × Bool)}{L:Value}{Inv:S→ay→aj→Prop}{R:ay}{Hy:aj}(f:eI af R (eT (qu Value.bool 5)) L ys Inv)(x1:an)(x2:(List Int)){Z:S}(az:Inv Z R Hy){ab ac ag v2:Value}{N O:Nat}(aG:aK R [] N 0 [iv x1.ax,iv x1.ad.ai,iv x1.ad.ak,ab,ac,ag])(_:ah bz 5 R ab x1.ao)(aw:ah CZ 1 R ac x1.Out)(_:ah bq 2 R ag x1.aV)(aJ:aK R [] O 0 [v2])(E:ah CZ 1 R v2 x2){r:S}(d:hf ys x1 x2 Z=some r):aL af 119 #[L,pT N,pT O] R Hy (λ v R' H'=>aH R R'∧Inv r R' H'∧v = .tuple #[]):=by
 unfold hf at d
 refine aY func119 27 λ fr cs W=>?_
 refine sg dc ?_
 refine U.s rfl rfl (Ox.iG (z:=(bW [false,false,false,false,false])) rfl iE rfl (.put rfl) ?_)
 refine vs 2 ?_
 refine U.ld cb (aG.any.one (j:=4) rfl) ?_
 have ⟨br,a2,d⟩:=ae d
 refine U.cv eK (eL [false,false,false,false,false] x1.Out rfl aw.rd a2) ?_
 rintro _ _ _ ⟨rfl,rfl,K,rfl⟩
 refine bu (bW [false,false,false,false,false]) fS λ D=>?_
 refine U.s rfl rfl (Ox.cG (cs':=_) rfl rfl rfl cR (by simp [K]) (cj bl (cj (ej λ _=>rfl) bl)) .here (by simp) (eo (by simp [K])) rfl (.refl _) ?_)
 refine nx aM ?_
 refine U.ld cb (aJ.any.one (j:=0) rfl) ?_
 refine ls E underlying25 ?_
 refine vs 1 ?_
 refine er ?_
 refine U.aP ?_
 refine U.dy d (λ (m:(S × Int × (List Bool))) R' H' aa=>aH R R'∧∃ C,Inv m.1 R' C∧m.2.2.length=5∧H'=(D,.cells (bW m.2.2) 124)::C∧aA aa [(0,L),(4,pT D),(12,v2),(13,iv (x2.length:Int)),(14,iv m.2.1)]) (λ (Y:S) R' H' aa=>aH R R'∧∃ F,Inv Y R' F∧F=H'∧aA aa []) 0 rfl ⟨rr,Hy,az,K,rfl,aq b2⟩ ?_ ?_
 rotate_right
 ·rintro m ba a8 bo ⟨y,C,Q,A,rfl,aU⟩ bs d ap ar a7
  refine U.sub aU ?_
  replace E:=E.mono y
  replace f:=f.up y
  refine sg aB ?_
  refine vs 1 ?_
  refine es ?_
  refine sc d ?_ ?_<;>intro bk d
  ·refine sp ?_
   refine sq ?_
   refine U.aP ?_
   refine sg aM ?_
   have ⟨am,a4,d⟩:=ae d
   obtain ⟨bg,bn,_,rfl,aN,aT⟩:=E.elem bd a4
   refine bX aT ?_
   refine U.ld aI (aN.any.one (j:=0) rfl) ?_
   refine vs 1 ?_
   refine nx bA ?_
   refine U.s rfl rfl (Ox.bB (vs:=_) rfl rfl cR (by simp [A]) ((aK.box z0).part (j:=0) (n:=5) (dd (by simp [A]))) rfl (.put rfl) ?_)
   refine vs 1 ?_
   refine dt (#[_]) cw c7 λ P=>?_
   have ⟨bt,a5,d⟩:=ae d
   refine U.cv eK (eL m.2.2 [am] A (bE.lit z0 (aO.le (aO.cons (x:=am) rfl rfl aO.nil) rfl) rfl) a5) ?_
   rintro _ _ _ ⟨rfl,rfl,g,rfl⟩
   refine U.s rfl rfl (Ox.cG (cs':=_) rfl rfl rfl cR (by simp [g]) (cj bl (cj (ej λ _=>rfl) bl)) (.there .here) (by simp [A]) (eo (by simp [g,A])) rfl (.refl _) ?_)
   refine nx bb ?_
   refine vs 1 ?_
   refine U.s rfl rfl (Ox.bB (vs:=_) rfl rfl cR (by simp [g]) ((aK.box z1).part (j:=0) (n:=5) (dd (by simp [g]))) rfl (.put rfl) ?_)
   have ⟨bv,a6,d⟩:=ae d
   refine U.qg rfl rfl rfl rfl rfl rfl rfl rfl ((f.call [(P,_),(D,_)] (rr) Q ⟨_,rfl,⟨g,rfl⟩⟩ a6).mono ?_)
   rintro _ bf _ ⟨I,rfl,M,T,G⟩
   replace G:_=(P,_)::(D,_)::M:=G
   subst G
   replace f:=f.up I
   refine ⟨_,(.put rfl),?_⟩
   refine vs 1 ?_
   refine er ?_
   refine sc d ?_ ?_<;>intro bm d
   ·replace d:=a7 _ (au d)
    cases av d
    exact rt func119 .nil (so (so sr)) (W _ _ _ ⟨(y.trans I),T,rfl⟩)
   refine sp ?_
   refine U.a0 ?_
   refine U.rg aC ?_
   refine vs 2 ?_
   refine er ?_
   exact U.aR (so sr) (ap _ (au d) _ _ _ ⟨(y.trans I),M,T,g,rfl,aq b2⟩)
  exact U.bw rfl (U.aR (so sr) (ar _ (au d) _ _ _ ⟨y,C,Q,rfl,cV.sub trivial⟩))
 rintro Y be a9 bp ⟨V,F,aF,rfl,a1⟩ d
 refine U.sub a1 ?_
 replace f:=f.up V
 cases av d
 exact U.g7 func119 .nil (J.drop sr (W _ _ _ ⟨V,aF,rfl⟩))
theorem uN(d:an)(x1:(List Int)){D E F v1:Value}(g:ah bz 5 R D d.ao)(m:ah CZ 1 R E d.Out)(y:ah bq 2 R F d.aV)(f:ah CZ 1 R v1 x1){r:(an × (List Int))}(J:jE d x1=some r):aL af 87 #[.agg #[iv d.ax,iv d.ad.ai,iv d.ad.ak,D,E,F],v1] R H (λ v R' H'=>aH R R'∧H=H'∧∃ L M N G O I,aK R' [] G 0 [iv r.1.ax,iv r.1.ad.ai,iv r.1.ad.ak,L,M,N]∧ah bz 5 R' L r.1.ao∧ah CZ 1 R' M r.1.Out∧ah bq 2 R' N r.1.aV∧aK R' [] I 0 [O]∧ah CZ 1 R' O r.2∧v = .func (.func 119) #[] #[pT G,pT I]):=by
 unfold jE at J
 refine aY func87 6 λ fr cs S=>?_
 refine sg aM ?_
 refine bx λ P=>?_
 refine U.s rfl rfl (Ox.iF rfl rfl f.cells rfl λ z _ _=>⟨_,(.put rfl),?_⟩)
 refine vs 1 ?_
 refine nx aC ?_
 refine U.s rfl rfl (Ox.makeFunc (vs:=#[]) (us:=#[_,_]) rfl rfl rfl rfl (.put rfl) ?_)
 refine vs 1 ?_
 refine er ?_
 refine U.fZ (H2:=(z,_)::H) (λ X=>(z,_)::X++(H)) (.cons .id) rfl (λ T K C=>?_)
 have ⟨g,m,y,f⟩:=di K g m y f
 refine U.fZ (H2:=H) (λ X=>X++(H)) .id rfl (λ V A Q=>?_)
 have ⟨g,m,y,f⟩:=di A g m y f
 replace C:=C.up (H:=[]) A
 cases av J
 exact rt func87 (.tmp rfl .nil) sr (S _ _ _ ⟨(K.trans A),rfl,D,E,F,P,v1,z,C,g,m,y,Q,f,rfl⟩)
theorem uM(d:cN)(x1:(List Int)){m C D E F v1:Value}(ag:ah bz 5 R m d.book.ao)(am:ah CZ 1 R C d.book.Out)(an:ah bq 2 R D d.book.aV)(_:ah eA 6 R E d.cW)(G:gL R F d.hq)(ap:ah CZ 1 R v1 x1){r:Int}(f:mL d x1=some r):aL af 82 #[.agg #[iv d.book.ax,iv d.book.ad.ai,iv d.book.ad.ak,m,C,D,E,F],v1] R H (λ v R' H'=>aH R R'∧H=H'∧v=iv r):=by
 unfold mL at f
 refine aY func82 19 λ fr cs aw=>?_
 refine sg aC ?_
 refine bx λ L=>?_
 refine vs 1 ?_
 refine nx aC ?_
 refine bu (#[iv 0]) iw λ P=>?_
 refine eC (#[_]) aI .here ?_
 refine es ?_
 refine sg bb ?_
 refine vs 1 ?_
 refine lN [_,_,_,_,_,_] 0 6 dA z1 ?_
 refine vs 1 ?_
 have ⟨N,aA,f⟩:=ae f
 refine U.cv tH (uN d.book x1 ag am an ap aA) ?_
 rintro _ ab _ ⟨W,rfl,bi,bk,bm,a9,bn,ba,aN,aB,aJ,aM,aT,aO,rfl⟩
 replace G:=G.mono W
 refine er ?_
 refine U.aP ?_
 refine U.ou (A:=(eT (qu Value.bool 5))) (λ y s=>hf y N.1 N.2 s)  f rfl ti rfl rfl rfl (λ (g:Int) R' T H'=>aH ab R'∧H'=(P,.cells #[iv g] 3)::(L,.cells #[iv d.book.ax,iv d.book.ad.ai,iv d.book.ad.ak,m,C,D,E,F] 130)::T)  (λ g a6 a7 a2 q=>by obtain ⟨I,rfl⟩:=q; exact ⟨(P,.cells #[iv g] 3)::(L,.cells #[iv d.book.ax,iv d.book.ad.ai,iv d.book.ad.ak,m,C,D,E,F] 130)::[],by simp,λ R1 a8 h=>⟨I.trans h,by simp⟩⟩)  (λ v Inv Hy z ar aq a1=>(uo ar N.1 N.2 aq aN aB aJ aM aT aO a1).mono λ _ _ _ h=>⟨h.1,h.2.1⟩) ⟨rr,rfl⟩ ?_ ?_
 ·rintro bg g aa a5 _ ⟨M,rfl⟩ f
  refine U.a0 ?_
  refine sg aC ?_
  refine ld 0 aI z0 ?_
  refine vs 1 ?_
  refine er ?_
  cases av f
  exact U.hn (.there (.there .here)) func82 (.tmp rfl .nil) (J.drop (so (so (so sr))) (aw _ _ _ ⟨(W.trans M),br⟩))
 rintro bh O g aa S a4 Y Z bd _ bf ⟨_,rfl,⟨K,rfl⟩⟩ ⟨M,rfl⟩ az bp f ac
 replace G:=G.mono M
 refine U.rg aC ?_
 refine bu (bW [false,false,false,false,false]) fS λ V=>?_
 refine U.s rfl rfl (Ox.cG (cs':=_) rfl rfl rfl cR (by simp [K]) (cj bl (cj (ej λ _=>rfl) bl)) .here (by simp) (eo (by simp [K])) rfl (.refl _) ?_)
 refine er ?_
 refine U.beginRound rfl rfl (.there (.there (.there .here))) az ?_
 refine U.aP ?_
 refine U.draw (n:=7) (is:=[0,1,2,3,4,5,6]) (many ((V,.cells (bW O) 124)::(P,.cells #[iv g] 3)::(L,.cells #[iv d.book.ax,iv d.book.ad.ai,iv d.book.ad.ak,m,C,D,E,F] 130)::(Y,.loop { Z with state:=.busy })::S) [(6,(V,.cells (bW O) 124)::(L,.cells #[iv d.book.ax,iv d.book.ad.ai,iv d.book.ad.ak,m,C,D,E,F] 130)::(Y,.loop { Z with state:=.busy })::S)]) mixed rfl (by decide +kernel) rfl rfl ?_
 refine ts 0 [5,6] rfl (aF rfl (aU (su (so (sk (so (so sr))))))) (su (so (sk (so (so sr))))) (kX aI 0 z0) ?_
 refine Any.vs 1 [1] rfl ?_
 refine ts 2 [4,5,6] rfl (aF rfl (aU (su (so (so (sk (so sr))))))) (su (so (so (sk (so sr))))) (kX u3 7 z0) ?_
 refine ts 3 [4,5,6] rfl (aF rfl (aU (su (sk (so (so (so sr))))))) (su (sk (so (so (so sr))))) (λ R' H' I Q=>Ox.bB (vs:=_) rfl rfl cR (by simp [K]) ((aK.box (Q _ z0)).part (j:=0) (n:=5) (dd (by simp [K]))) rfl (.one rfl) aG) ?_
 refine ts 4 [5,6] rfl (aF rfl (aU (su (so (so (so (so sr))))))) (su (so (so (so (so sr))))) (λ R' H' I Q=>Ox.lookup (k:=O) rfl rfl rfl uT (G.mono I) K rfl (.one rfl) aG) ?_
 refine ts 5 [6] rfl (aF rfl (aU (su (so (so (so (so sr))))))) (su (so (so (so (so sr))))) (λ R' H' I Q=>Ox.max (a:=g) (l:=[fI d.hq O]) rfl rfl rfl (.one rfl) aG) ?_
 refine oS 6 #[_] aI (.there .here) (bo rfl (su (sk (so sr)))) ?_
 refine Any.done ?_
 refine U.a0 ?_
 exact U.aR (so sr) (ac _ (au f) _ _ _ (rr) ⟨M,rfl⟩)
theorem IK(f:an){ab ac ag:Value}(bb:dX R)(be:kC af)(a4:ah bz 5 R ab f.ao)(L:ah CZ 1 R ac f.Out)(a5:ah bq 2 R ag f.aV){r:((List Int) × Int)}(d:nT f=some r):aL af 31 #[.agg #[iv f.ax,iv f.ad.ai,iv f.ad.ak,ab,ac,ag]] R H (λ v R' H'=>aH R R'∧H=H'∧∃ aT,ah CZ 1 R' aT r.1∧v = .tuple #[aT,iv r.2]):=by
 unfold nT at d
 refine aY func31 44 λ fr cs aK=>?_
 refine sg aM ?_
 refine bx λ cC=>?_
 refine vs 2 ?_
 refine nx cX ?_
 refine lN [_,_,_,_,_,_] 0 6 a7 z0 ?_
 have ⟨g,bB,d⟩:=ae d
 refine U.cv hE (hO f (λ y=>gS y) bb a4 L a5 ⟨80,#[],#[],rfl,o5,λ R' H' W cj y r va ba br=>by obtain ⟨_,rfl,⟨ct,cu,cx,bM,bN,bO,rfl⟩⟩:=ba; exact (pR y bM bN bO br).mono λ _ _ _ ⟨a6,a8,a9⟩=>⟨a6 ▸ rr,a8.symm,a9⟩⟩ bB) ?_
 rintro _ ce _ ⟨Y,b7,bS,bT,bU,bV,bY,m,A,C,D,bD,rfl,rfl⟩
 replace L:=L.mono Y
 refine vs 3 ?_
 refine bu (#[iv 0,iv 0,iv 0,aw,aw,aw,aw,.map none]) g1 λ J=>?_
 refine bC (#[_,_,_,_,_,_,_,_]) dM .here ?_
 refine vs 1 ?_
 refine es ?_
 refine sg aC ?_
 refine vs 2 ?_
 refine er ?_
 refine sc d ?_ ?_<;>intro ck d
 ·refine sg aM ?_
  refine vs 3 ?_
  refine er ?_
  cases av d
  exact rt func31 (.tmp rfl (.tmp rfl .nil)) (so (az (so sr))) (aK _ _ _ ⟨Y,rfl,aw,ah.nil,rfl⟩)
 refine sp ?_
 refine sg aC ?_
 refine lN [_,_,_,_,_,_,_,_] 0 8 dM z0 ?_
 have ⟨b2,bF,d⟩:=ae d
 refine U.step rfl rfl rfl (Ox.b5 rfl rfl rfl rfl q5 rfl rfl ((aL.hole (G:=(λ X=>(J,_)::X++((cC,_)::H))) (.cons .id) (be g.1 m A C D bD bF)).mono ?_))
 rintro _ cf _ ⟨_,⟨aF,F,rfl,rfl⟩,rfl⟩
 have ⟨L,m,A,C,D⟩:=oe aF L m A C D
 refine ⟨_,(.put rfl),?_⟩
 refine nx aB ?_
 refine vs 1 ?_
 refine es ?_
 refine sq ?_
 refine U.dw dW mixed ?_
 refine Any.vs 1 [0] rfl ?_
 refine tN 1 [_,_,_,_,_,_] 0 6 dA z0 ?_
 refine Any.tk 2 rfl pp (λ R' H' W bh=>Ox.iG (z:=(bW [false,false,false,false,false])) rfl iE rfl (.one rfl) aG) ?_
 refine Any.vs 1 [3] rfl ?_
 refine tl 4 4 cb z1 ?_
 refine Any.vs 1 [8] rfl ?_
 have ⟨b3,bG,d⟩:=ae d
 refine Any.cv 5 eK (eL [false,false,false,false,false] f.Out rfl L.rd bG) ?_
 rintro _ _ _ ⟨rfl,rfl,bP,rfl⟩
 refine kp ?_
 have ⟨aU,bI,d⟩:=ae d
 refine Any.cv 6 tF (uL g.1.book b3 m A C bP bI) ?_
 rintro b1 ap _ ⟨P,rfl,_,S,rfl⟩
 replace F:=F.mono P
 have ⟨m,A,C,D⟩:=di P m A C D
 refine ⟨P,ka,?_⟩
 refine Any.tk 7 rfl pp (λ R' H' W bh=>Ox.iM (K:=CZ) (k:=1) (xs:=aU) rfl rfl (S.mono W) underlying25 rfl (.one rfl) aG) ?_
 refine Any.done ?_
 refine U.aP ?_
 refine U.cQ d (λ (Z:((List Int) × Int)) R' H' aa=>aH ap R'∧∃ O E,aX CZ 1 3 R' O Z.1 E∧H'=E++((J,.cells #[iv g.1.book.ax,iv g.1.book.ad.ai,iv g.1.book.ad.ak,bS,bT,bU,bV,bY] 130)::(cC,.cells #[iv f.ax,iv f.ad.ai,iv f.ad.ak,ab,ac,ag] 28)::H)∧aA aa [(1,pT cC),(4,pT J),(6,O),(25,b1),(26,iv (aU.length:Int)),(27,iv Z.2)]) (λ (aN:(List Int)) R' H' aa=>aH ap R'∧∃ T V,aX CZ 1 3 R' T aN V∧H'=V++(H)∧aA aa [(6,T)]) 0 rfl ⟨rr,aw,[],aX.nil,rfl,aq cS⟩ ?_ ?_
 rotate_right
 ·rintro Z b8 b4 cp ⟨M,O,E,I,rfl,bs⟩ cA d ar a2
  refine U.sub bs ?_
  replace F:=F.mono M
  have ⟨m,A,C,D,S⟩:=oe M m A C D S
  refine sg aB ?_
  refine vs 1 ?_
  refine es ?_
  refine sc d ?_ ?_<;>intro cm d
  ·refine sp ?_
   refine sq ?_
   refine U.aP ?_
   refine sg aM ?_
   have ⟨am,bJ,d⟩:=ae d
   obtain ⟨ci,co,_,rfl,bi,bn⟩:=S.elem bd bJ
   refine bX bn ?_
   refine U.ld aI (bi.any.one (j:=0) rfl) ?_
   refine vs 1 ?_
   refine es ?_
   refine U.dw dc mixed ?_
   refine tN 0 [_,_,_,_,_,_,_,_] 0 8 dM (bH _ z0) ?_
   refine Any.vs 2 [1,4] rfl ?_
   refine tl 5 0 aI (bH _ z1) ?_
   refine Any.on 2 rfl rfl (aJ.to (Ox.buildSlice (cells:=#[_]) rfl cw rfl (by decide) c7 (ca rfl rfl rfl rfl cE) rfl λ ch _ _=>⟨_,(.put rfl),⟨rr,(ku (so sr)),?_⟩⟩))
   refine Any.iJ (K:=CZ) (kk:=1) (H2:=E++((J,_)::(cC,_)::H)) (λ X=>X++(E++((J,_)::(cC,_)::H))) .id rfl (aO.le (aO.cons (x:=am) rfl rfl aO.nil) rfl) rfl (by decide) (by decide) (λ _=>pp) (λ cd N bm=>?_)
   replace F:=F.mono N
   replace I:=I.mono N
   have ⟨m,A,C,D⟩:=di N m A C D
   have ⟨cB,bL,d⟩:=ae d
   refine Any.cv 3 tG (uM (⟨⟨g.1.book.ax,⟨g.1.book.ad.ai,g.1.book.ad.ak⟩,g.1.book.ao,g.1.book.Out,g.1.book.aV⟩,g.1.cW,b2⟩:cN) [am] m A C D F bm bL) ?_
   rintro _ cg _ ⟨Q,rfl,rfl⟩
   replace I:=I.mono Q
   refine ⟨Q,ka,?_⟩
   refine Any.vs 1 [6] rfl ?_
   refine Any.done ?_
   refine sc d ?_ ?_<;>intro cn d
   ·refine U.rg bA ?_
    refine vs 2 ?_
    refine dt (#[_]) cw c7 λ qF=>?_
    have ⟨cy,bv,d⟩:=ae d
    refine U.s rfl rfl (Ox.append (K:=CZ) (λ X=>(qF,_)::X++((J,_)::(cC,_)::H)) rfl rfl rfl eh underlying25 (by simp) (.cons .id) I (eB am rfl) bv rfl λ bQ a1 bp=>⟨_,(.put rfl),?_⟩)
    refine vs 1 ?_
    refine er ?_
    refine U.a0 ?_
    refine U.rg aC ?_
    refine vs 2 ?_
    refine er ?_
    exact U.aR (so sr) (ar _ (au d) _ _ _ ⟨((M.trans N).trans Q),bQ,a1,bp,rfl,aq cS⟩)
   refine sp ?_
   refine U.a0 ?_
   refine U.rg aC ?_
   refine vs 2 ?_
   refine er ?_
   exact ar _ (au d) _ _ _ ⟨((M.trans N).trans Q),O,E,I,rfl,aq cS⟩
  exact U.bw rfl (U.aR (dm (so (so sr))) (a2 _ (au d) _ _ _ ⟨M,O,E,I,rfl,aq eD⟩))
 rintro aN b9 b6 cq ⟨bf,T,V,bo,rfl,bt⟩ d
 refine U.sub bt ?_
 refine sg aM ?_
 refine vs 3 ?_
 refine er ?_
 refine U.dg (H2:=H) (λ X=>X++(H)) .id rfl bo (λ cc bg bk=>?_)
 cases av d
 exact rt func31 (.tmp rfl (.tmp rfl .nil)) sr (aK _ _ _ ⟨((((Y.trans aF).trans P).trans bf).trans bg),rfl,T,bk,rfl⟩)
theorem yV(z:(List Int))(x1:(List Int)){v0 v1:Value}(f:bE CZ 1 R H v0 z)(g:bE CZ 1 R H v1 x1){r:Bool}(d:nF z x1=some r):aL af 118 #[v0,v1] R H (λ v R' H'=>R=R'∧H=H'∧v = .bool r):=by
 unfold nF at d
 refine aY func118 36 λ fr cs m=>?_
 refine sg aB ?_
 refine vs 1 ?_
 refine es ?_
 refine sg aB ?_
 refine vs 1 ?_
 refine er ?_
 refine U.aP ?_
 refine U.dy d (λ (y:Int) R' H' aa=>R=R'∧H=H'∧aA aa [(0,v0),(1,v1),(5,iv y)]) (λ (ac:Unit) R' H' aa=>R=R'∧H=H'∧aA aa []) 0 rfl ⟨rfl,rfl,aq du⟩ ?_ ?_
 rotate_right
 ·rintro y an ag aT ⟨rfl,rfl,T⟩ a6 d E F C
  refine U.sub T ?_
  refine sq ?_
  refine sg bb ?_
  refine vs 2 ?_
  refine lr g underlying25 ?_
  refine vs 1 ?_
  refine er ?_
  refine sc d ?_ ?_<;>intro aC d
  ·refine sp ?_
   refine sq ?_
   refine U.aP ?_
   refine sq ?_
   refine sq ?_
   refine U.da d (λ (D:Bool) R' H' aa=>R=R'∧H=H'∧aA aa [(0,v0),(1,v1),(5,iv y),(26,.bool D)])  ?_ ?_
   rotate_right
   ·intro aV d A
    refine U.dw kq mixed ?_
    refine Any.vs 2 [0,1] rfl ?_
    refine Any.tk 2 rfl pp (λ R' H' G az=>Ox.ud (K:=CZ) (k:=1) (xs:=z) rfl rfl (f.le G) underlying25 rfl (.one rfl) aG) ?_
    refine Any.vs 2 [3,4] rfl ?_
    refine a8 d (λ s d=>?_) (λ s d=>?_)
    ·refine Any.cK (t:=16) rfl s ?_
     refine Any.vs 10 [5,6,7,8,9,10,11,12,13,14] rfl ?_
     refine Any.done ?_
     exact A _ (au d) _ _ _ ⟨rfl,rfl,aq bt⟩
    refine Any.cK (t:=16) rfl s ?_
    refine Any.vs 2 [5,6] rfl ?_
    have ⟨a1,W,d⟩:=ae d
    have ⟨a2,Y,d⟩:=ae d
    obtain ⟨ap,aJ,_,rfl,I,N⟩:=f.elem bd W
    refine tQ 7 rfl (kI N) ?_
    refine tQ 8 rfl (kA aI 0 I pp) ?_
    refine Any.vs 2 [9,10] rfl ?_
    obtain ⟨ar,aK,_,rfl,J,O⟩:=g.elem bd Y
    refine tQ 11 rfl (kI O) ?_
    refine tQ 12 rfl (kA aI 0 J pp) ?_
    refine Any.vs 2 [13,14] rfl ?_
    refine Any.done ?_
    exact A _ (au d) _ _ _ ⟨rfl,rfl,aq bt⟩
   rintro D am ad aR ⟨rfl,rfl,S⟩ d
   refine U.sub S ?_
   refine sc d ?_ ?_<;>intro aF d
   ·refine sg aB ?_
    refine vs 1 ?_
    refine er ?_
    replace d:=C _ (au d)
    cases av d
    exact rt func118 (.tmp rfl .nil) sr (m _ _ _ aG)
   refine sp ?_
   refine sq ?_
   refine U.dw dW mixed ?_
   refine Any.vs 2 [0,1] rfl ?_
   have ⟨a4,Z,d⟩:=ae d
   have ⟨a5,ab,d⟩:=ae d
   obtain ⟨aw,aN,_,rfl,L,P⟩:=f.elem bd Z
   refine tQ 2 rfl (kI P) ?_
   refine tQ 3 rfl (kA aI 0 L pp) ?_
   refine Any.vs 2 [4,5] rfl ?_
   obtain ⟨ax,aO,_,rfl,M,Q⟩:=g.elem bd ab
   refine tQ 6 rfl (kI Q) ?_
   refine tQ 7 rfl (kA aI 0 M pp) ?_
   refine Any.vs 1 [8] rfl ?_
   refine Any.done ?_
   refine sc d ?_ ?_<;>intro aH d
   ·refine sg aB ?_
    refine vs 1 ?_
    refine er ?_
    replace d:=C _ (au d)
    cases av d
    exact rt func118 (.tmp rfl .nil) sr (m _ _ _ aG)
   refine sp ?_
   refine U.a0 ?_
   refine U.rg aM ?_
   refine vs 3 ?_
   refine er ?_
   exact E _ (au d) _ _ _ ⟨rfl,rfl,aq du⟩
  exact U.bw rfl (F _ (au d) _ _ _ ⟨rfl,rfl,cV.sub trivial⟩)
 rintro ac ao ak aU ⟨rfl,rfl,V⟩ d
 refine U.sub V ?_
 refine sg aB ?_
 refine vs 1 ?_
 refine er ?_
 cases av d
 exact rt func118 (.tmp rfl .nil) sr (m _ _ _ aG)
theorem Jp(f:(List Int))(x1:(List Int)){v0 v1:Value}(m:bE CZ 1 R H v0 f)(s:bE CZ 1 R H v1 x1){r:Bool}(d:pS f x1=some r):aL af 83 #[v0,v1] R H (λ v R' H'=>R=R'∧H=H'∧v = .bool r):=by
 unfold pS at d
 refine aY func83 15 λ fr cs y=>?_
 refine sg aB ?_
 refine vs 1 ?_
 refine nx hW ?_
 refine vs 2 ?_
 have ⟨C,z,d⟩:=ae d
 refine U.cv xw (yV f x1 (m.sub pp) (s.sub pp) z) ?_
 rintro _ _ _ ⟨rfl,rfl,rfl⟩
 refine vs 2 ?_
 refine a8 d (λ g d=>?_) (λ g d=>?_)
 ·refine U.kn 9 g ?_
  refine vs 2 ?_
  have ⟨D,A,d⟩:=ae d
  refine U.cv xw (yV x1 f (s.sub pp) (m.sub pp) A) ?_
  rintro _ _ _ ⟨rfl,rfl,rfl⟩
  refine vs 3 ?_
  refine er ?_
  cases av d
  exact rt func83 (.tmp rfl .nil) sr (y _ _ _ aG)
 refine U.kn 9 g ?_
 refine vs 6 ?_
 refine er ?_
 cases av d
 exact rt func83 (.tmp rfl .nil) sr (y _ _ _ aG)
theorem nU(f:(List Int))(x1:(List Int)){v0 v1:Value}(g:bE CZ 1 R H v0 f)(m:bE CZ 1 R H v1 x1){r:Bool}(d:m32 f x1=some r):aL af 32 #[v0,v1] R H (λ v R' H'=>R=R'∧H=H'∧v = .bool r):=by
 unfold m32 at d
 refine aY func32 8 λ fr cs s=>?_
 refine sg aB ?_
 refine vs 1 ?_
 refine nx bb ?_
 refine vs 2 ?_
 have ⟨z,y,d⟩:=ae d
 refine U.cv Es (Jp f x1 (g.sub pp) (m.sub pp) y) ?_
 rintro _ _ _ ⟨rfl,rfl,rfl⟩
 refine vs 1 ?_
 refine er ?_
 cases av d
 exact rt func32 (.tmp rfl .nil) sr (s _ _ _ aG)
end
end Go.Proofs.YtoaoffinglajbaaGreatDoor
