/- Walks, part 2: each function computes its model. -/
import Derived.Test.YtoaoffinglajbaaGreatDoorQBHbP1
namespace Go.Proofs.YtoaoffinglajbaaGreatDoor
open Go.Lg Go.Proofs Tryz
set_option maxRecDepth 100000
set_option maxHeartbeats 4000000
section
variable {B:Base} {main:Bool} {af:Jd prog B main} {R:ay} {H:aj}
theorem uS(y:Reach)(x1:Int)(x2:Int)(x3:Int)  {r:Bool} (d:j9 y x1 x2 x3=some r):aL af 95 #[.agg #[iv y.ai,iv y.ak],iv x1,iv x2,iv x3] R H (λ v R' H'=>R=R'∧H=H'∧v = .bool r):=by
 unfold j9 at d
 refine aY func95 35 λ fr cs f=>?_
 refine sg aC ?_
 refine bx λ z=>?_
 refine vs 1 ?_
 refine nx KY ?_
 refine vs 2 ?_
 refine ld 0 aI z0 ?_
 refine vs 2 ?_
 refine a8 d (λ g d=>?_) (λ g d=>?_)
 ·refine U.kn 13 g ?_
  refine vs 1 ?_
  refine ld 0 aI z0 ?_
  refine vs 1 ?_
  refine ld 1 aI z0 ?_
  refine vs 3 ?_
  refine a8 d (λ m d=>?_) (λ m d=>?_)
  ·refine U.kn 20 m ?_
   refine vs 1 ?_
   refine ld 1 aI z0 ?_
   refine vs 4 ?_
   refine a8 d (λ s d=>?_) (λ s d=>?_)
   ·refine U.kn 26 s ?_
    refine vs 1 ?_
    refine ld 1 aI z0 ?_
    refine vs 1 ?_
    refine ld 0 aI z0 ?_
    refine vs 5 ?_
    refine er ?_
    cases av d
    exact rt func95 (.tmp rfl .nil) (so sr) (f _ _ _ aG)
   refine U.kn 26 s ?_
   refine vs 9 ?_
   refine er ?_
   cases av d
   exact rt func95 (.tmp rfl .nil) (so sr) (f _ _ _ aG)
  refine U.kn 20 m ?_
  refine vs 15 ?_
  refine er ?_
  cases av d
  exact rt func95 (.tmp rfl .nil) (so sr) (f _ _ _ aG)
 refine U.kn 13 g ?_
 refine vs 22 ?_
 refine er ?_
 cases av d
 exact rt func95 (.tmp rfl .nil) (so sr) (f _ _ _ aG)
theorem iP(m:Int)(x1:Int)(x2:Int)  {r:Bool} (d:gd m x1 x2=some r):aL af 106 #[iv m,iv x1,iv x2] R H (λ v R' H'=>R=R'∧H=H'∧v = .bool r):=by
 unfold gd at d
 refine aY func106 15 λ fr cs g=>?_
 refine sg aB ?_
 refine vs 1 ?_
 refine nx dW ?_
 refine vs 4 ?_
 refine a8 d (λ f d=>?_) (λ f d=>?_)
 ·refine U.kn 10 f ?_
  refine vs 5 ?_
  refine er ?_
  cases av d
  exact rt func106 (.tmp rfl .nil) sr (g _ _ _ aG)
 refine U.kn 10 f ?_
 refine vs 5 ?_
 refine er ?_
 cases av d
 exact rt func106 (.tmp rfl .nil) sr (g _ _ _ aG)
theorem Im(f:an){s y z:Value}(_:ah bz 5 R s f.ao)(_:ah CZ 1 R y f.Out)(_:ah bq 2 R z f.aV){r:Int}(d:my f=some r):aL af 187 #[.agg #[iv f.ax,iv f.ad.ai,iv f.ad.ak,s,y,z]] R H (λ v R' H'=>R=R'∧H=H'∧v=iv r):=by
 unfold my at d
 refine aY func187 15 λ fr cs g=>?_
 refine sg aC ?_
 refine bx λ D=>?_
 refine vs 1 ?_
 refine es ?_
 refine sg gW ?_
 refine vs 2 ?_
 refine ld 0 aI z0 ?_
 have ⟨J,A,d⟩:=ae d
 refine U.cv iI (iP f.ax 0 9999  A) ?_
 rintro _ _ _ ⟨rfl,rfl,rfl⟩
 refine vs 2 ?_
 refine a8 d (λ m d=>?_) (λ m d=>?_)
 ·refine U.kn 8 m ?_
  refine vs 6 ?_
  refine er ?_
  refine U.cond_true rfl ?_
  refine sg aB ?_
  refine vs 1 ?_
  refine er ?_
  cases av d
  exact rt func187 (.tmp rfl .nil) (so sr) (g _ _ _ aG)
 refine U.kn 8 m ?_
 refine vs 2 ?_
 refine lN [_,_] 1 2 cB z0 ?_
 have ⟨K,C,d⟩:=ae d
 refine U.cv tM (uS f.ad (-999) 999 3  C) ?_
 rintro _ _ _ ⟨rfl,rfl,rfl⟩
 refine vs 2 ?_
 refine er ?_
 refine sc d ?_ ?_<;>intro I d
 ·refine sg aB ?_
  refine vs 1 ?_
  refine er ?_
  cases av d
  exact rt func187 (.tmp rfl .nil) (so sr) (g _ _ _ aG)
 refine sp ?_
 refine sg aB ?_
 refine vs 1 ?_
 refine er ?_
 cases av d
 exact rt func187 (.tmp rfl .nil) (so sr) (g _ _ _ aG)
theorem uG(s:(List Int))(x1:Int){v0:Value}(f:bE CZ 1 R H v0 s){r:Int}(d:j7 s x1=some r):aL af 65 #[v0,iv x1] R H (λ v R' H'=>R=R'∧H=H'∧v=iv r):=by
 unfold j7 at d
 refine aY func65 33 λ fr cs g=>?_
 refine sg aB ?_
 refine vs 1 ?_
 refine es ?_
 refine sg aM ?_
 refine vs 1 ?_
 refine lr f underlying25 ?_
 refine vs 1 ?_
 refine er ?_
 refine U.aP ?_
 refine U.dy d (λ (A:Int) R' H' aa=>R=R'∧H=H'∧aA aa [(0,v0),(1,iv x1),(7,v0),(8,iv (s.length:Int)),(9,iv A)]) (λ (N:Unit) R' H' aa=>R=R'∧H=H'∧aA aa []) 0 rfl ⟨rfl,rfl,aq b2⟩ ?_ ?_
 rotate_right
 ·rintro A S P ag ⟨rfl,rfl,I⟩ am d y C z
  refine U.sub I ?_
  refine sg aB ?_
  refine vs 1 ?_
  refine es ?_
  refine sc d ?_ ?_<;>intro Y d
  ·refine sp ?_
   refine sq ?_
   refine U.aP ?_
   refine sg bA ?_
   refine vs 1 ?_
   have ⟨O,K,d⟩:=ae d
   obtain ⟨V,ac,_,rfl,D,F⟩:=f.elem bd K
   refine bX F ?_
   refine U.ld aI ((D.sub pp).one (j:=0) rfl) ?_
   refine vs 2 ?_
   refine er ?_
   refine U.aP ?_
   refine sg b4 ?_
   refine vs 3 ?_
   have ⟨an,L,d⟩:=ae d
   refine U.cv iI (iP O 0 (i64 (x1 - 1))  L) ?_
   rintro _ _ _ ⟨rfl,rfl,rfl⟩
   refine vs 2 ?_
   refine er ?_
   refine sc d ?_ ?_<;>intro Z d
   ·refine sg aB ?_
    refine vs 1 ?_
    refine er ?_
    replace d:=z _ (au d)
    cases av d
    exact rt func65 (.tmp rfl .nil) sr (g _ _ _ aG)
   refine sg gW ?_
   refine vs 3 ?_
   refine a8 d (λ m d=>?_) (λ m d=>?_)
   ·refine U.kn 23 m ?_
    refine vs 4 ?_
    have ⟨ao,M,d⟩:=ae d
    obtain ⟨W,ad,_,rfl,E,G⟩:=f.elem bd M
    refine bX G ?_
    refine U.ld aI ((E.sub pp).one (j:=0) rfl) ?_
    refine vs 3 ?_
    refine er ?_
    refine sc d ?_ ?_<;>intro ab d
    ·refine sg aB ?_
     refine vs 1 ?_
     refine er ?_
     replace d:=z _ (au d)
     cases av d
     exact rt func65 (.tmp rfl .nil) sr (g _ _ _ aG)
    refine sp ?_
    refine U.a0 ?_
    refine U.a0 ?_
    refine U.rg aC ?_
    refine vs 2 ?_
    refine er ?_
    exact y _ (au d) _ _ _ ⟨rfl,rfl,aq b2⟩
   refine U.kn 23 m ?_
   refine vs 9 ?_
   refine er ?_
   refine U.cond_false rfl ?_
   refine sp ?_
   refine U.a0 ?_
   refine U.a0 ?_
   refine U.rg aC ?_
   refine vs 2 ?_
   refine er ?_
   exact y _ (au d) _ _ _ ⟨rfl,rfl,aq b2⟩
  exact U.bw rfl (C _ (au d) _ _ _ ⟨rfl,rfl,cV.sub trivial⟩)
 rintro N T Q ak ⟨rfl,rfl,J⟩ d
 refine U.sub J ?_
 refine sg aB ?_
 refine vs 1 ?_
 refine er ?_
 cases av d
 exact rt func65 (.tmp rfl .nil) sr (g _ _ _ aG)
theorem Ix(f:ByteArray)  {r:Bool} (d:mC f=some r):aL af 191 #[.string f] R H (λ v R' H'=>R=R'∧H=H'∧v = .bool r):=by
 unfold mC at d
 refine aY func191 31 λ fr cs g=>?_
 refine sg aB ?_
 refine vs 1 ?_
 refine es ?_
 refine sg bb ?_
 refine vs 1 ?_
 refine U.s rfl rfl (Ox.LR rfl rfl underlying9 underlying255 underlying5 rfl λ S F A=>⟨_,(.put rfl),?_⟩)
 refine lr A underlying255 ?_
 refine vs 1 ?_
 refine er ?_
 refine U.aP ?_
 refine U.dy d (λ (D:Int) R' H' aa=>R=R'∧H'=F++(H)∧aA aa [(0,.string f),(6,S),(7,iv ((ee f).length:Int)),(8,iv D)]) (λ (Q:Unit) R' H' aa=>R=R'∧H=H'∧aA aa [(0,.string f)]) 0 rfl ⟨rfl,rfl,aq bt⟩ ?_ ?_
 rotate_right
 ·rintro D W T ag ⟨rfl,rfl,K⟩ am d z G C
  refine U.sub K ?_
  refine sg aB ?_
  refine vs 1 ?_
  refine es ?_
  refine sc d ?_ ?_<;>intro ab d
  ·refine sp ?_
   refine sq ?_
   refine U.aP ?_
   refine sg bA ?_
   refine vs 1 ?_
   have ⟨E,M,d⟩:=ae d
   obtain ⟨Z,ad,_,rfl,I,J⟩:=A.elem LA M
   refine bX J ?_
   refine U.ld Kb ((I.sub pp).one (j:=0) rfl) ?_
   refine vs 2 ?_
   refine nx ko ?_
   refine vs 1 ?_
   refine hQ underlying5 underlying3 ?_
   have ⟨an,N,d⟩:=ae d
   refine U.cv iI (iP (i64 E) 97 122  N) ?_
   rintro _ _ _ ⟨rfl,rfl,rfl⟩
   refine vs 2 ?_
   refine a8 d (λ m d=>?_) (λ m d=>?_)
   ·refine U.kn 17 m ?_
    refine vs 3 ?_
    refine a8 d (λ y d=>?_) (λ y d=>?_)
    ·refine U.kn 20 y ?_
     refine vs 6 ?_
     refine er ?_
     refine U.cond_true rfl ?_
     refine sg aB ?_
     refine vs 1 ?_
     refine er ?_
     replace d:=C _ (au d)
     cases av d
     exact rt func191 (.tmp rfl .nil) (az sr) (g _ _ _ aG)
    refine U.kn 20 y ?_
    refine vs 1 ?_
    refine hQ underlying5 underlying3 ?_
    have ⟨ao,O,d⟩:=ae d
    refine U.cv iI (iP (i64 E) 48 57  O) ?_
    rintro _ _ _ ⟨rfl,rfl,rfl⟩
    refine vs 3 ?_
    refine er ?_
    refine sc d ?_ ?_<;>intro ac d
    ·refine sg aB ?_
     refine vs 1 ?_
     refine er ?_
     replace d:=C _ (au d)
     cases av d
     exact rt func191 (.tmp rfl .nil) (az sr) (g _ _ _ aG)
    refine sp ?_
    refine U.a0 ?_
    refine U.rg aC ?_
    refine vs 2 ?_
    refine er ?_
    exact z _ (au d) _ _ _ ⟨rfl,rfl,aq bt⟩
   refine U.kn 17 m ?_
   refine vs 9 ?_
   refine er ?_
   refine U.cond_false rfl ?_
   refine sp ?_
   refine U.a0 ?_
   refine U.rg aC ?_
   refine vs 2 ?_
   refine er ?_
   exact z _ (au d) _ _ _ ⟨rfl,rfl,aq bt⟩
  exact U.bw rfl (U.aR (az sr) (G _ (au d) _ _ _ ⟨rfl,rfl,aq eD⟩))
 rintro Q Y V ak ⟨rfl,rfl,L⟩ d
 refine U.sub L ?_
 refine sg bb ?_
 refine vs 1 ?_
 refine U.s rfl rfl (Ox.pe rfl rfl underlying9 rfl (.put rfl) ?_)
 have ⟨ap,P,d⟩:=ae d
 refine U.cv iI (iP (f.size:Int) 1 12  P) ?_
 rintro _ _ _ ⟨rfl,rfl,rfl⟩
 refine vs 1 ?_
 refine er ?_
 cases av d
 exact rt func191 (.tmp rfl .nil) sr (g _ _ _ aG)
theorem IB(A:(List cA))(x1:(cA→Option Bool)){v0 v1:Value}(f:bE bz 5 R H v0 A)(g:g2 af R H (eT bz) VB v1 x1){r:Int}(d:nP A x1=some r):aL af 194 #[v0,v1] R H (λ v R' H'=>aH R R'∧H=H'∧v=iv r):=by
 unfold nP at d
 refine aY func194 19 λ fr cs C=>?_
 refine sg aB ?_
 refine vs 1 ?_
 refine es ?_
 refine sg aM ?_
 refine vs 1 ?_
 refine lr f underlying24 ?_
 refine vs 1 ?_
 refine er ?_
 refine U.aP ?_
 refine U.dy d (λ (D:Int) R' H' aa=>aH R R'∧H=H'∧aA aa [(0,v0),(1,v1),(7,iv (A.length:Int)),(8,iv D)]) (λ (P:Unit) R' H' aa=>aH R R'∧H=H'∧aA aa []) 0 rfl ⟨rr,rfl,aq bt⟩ ?_ ?_
 rotate_right
 ·rintro D T Q ad ⟨m,rfl,J⟩ am d E F O
  refine U.sub J ?_
  replace f:=f.le m
  replace g:=g.up m pp
  refine sg aB ?_
  refine vs 1 ?_
  refine es ?_
  refine sc d ?_ ?_<;>intro Z d
  ·refine sp ?_
   refine sq ?_
   refine U.aP ?_
   refine sg aC ?_
   refine vs 2 ?_
   refine nx b4 ?_
   refine vs 3 ?_
   have ⟨an,L,d⟩:=ae d
   have ⟨ao,N,d⟩:=ae d
   obtain ⟨Y,ac,_,⟨ak,M,rfl⟩,z,I⟩:=f.elem fQ L
   refine bX I ?_
   refine U.s rfl rfl (Ox.bB (vs:=[_,_,_,_,_]) rfl rfl iA rfl ((z.sub pp).part (j:=0) (n:=5) rfl) rfl (.put rfl) ?_)
   refine U.step rfl rfl rfl (Ox.lZ g rfl rfl rfl ⟨_,rfl,⟨_,M,rfl⟩⟩ N rfl pp ?_)
   rintro _ W y rfl
   replace f:=f.le y
   replace g:=g.up y pp
   replace z:=z.le y
   refine ⟨_,(.put rfl),?_⟩
   refine er ?_
   refine sc d ?_ ?_<;>intro ab d
   ·refine sg aC ?_
    refine vs 2 ?_
    refine er ?_
    replace d:=O _ (au d)
    cases av d
    exact rt func194 (.tmp rfl .nil) sr (C _ _ _ ⟨(m.trans y),br⟩)
   refine sp ?_
   refine U.a0 ?_
   refine U.rg aC ?_
   refine vs 2 ?_
   refine er ?_
   exact E _ (au d) _ _ _ ⟨(m.trans y),rfl,aq bt⟩
  exact U.bw rfl (F _ (au d) _ _ _ ⟨m,rfl,cV.sub trivial⟩)
 rintro P V S ag ⟨G,rfl,K⟩ d
 refine U.sub K ?_
 refine sg aB ?_
 refine vs 1 ?_
 refine er ?_
 cases av d
 exact rt func194 (.tmp rfl .nil) sr (C _ _ _ ⟨G,br⟩)
theorem Iz(s:(List cA))(x1:(cA→Option Bool)){v0 v1:Value}(f:bE bz 5 R H v0 s)(g:g2 af R H (eT bz) VB v1 x1){r:Bool}(d:mD s x1=some r):aL af 192 #[v0,v1] R H (λ v R' H'=>aH R R'∧H=H'∧v = .bool r):=by
 unfold mD at d
 refine aY func192 9 λ fr cs y=>?_
 refine sg aB ?_
 refine vs 1 ?_
 refine nx bA ?_
 refine vs 2 ?_
 have ⟨C,z,d⟩:=ae d
 refine U.cv DR (IB s x1 (f.sub pp) g z) ?_
 rintro _ A _ ⟨m,rfl,rfl⟩
 replace f:=f.le m
 replace g:=g.up m pp
 refine vs 2 ?_
 refine er ?_
 cases av d
 exact rt func192 (.tmp rfl .nil) sr (y _ _ _ ⟨m,br⟩)
theorem IA(d:cA)(x1:cA){m y:Value}{f:Nat}(_:ah CZ 1 R m d.On)(z:aK R H f 0 [.string x1.Name,iv x1.dR,iv x1.Weight.ai,iv x1.Weight.ak,y])(_:ah CZ 1 R y x1.On){r:Bool}(g:mE d x1=some r):aL af 193 #[.agg #[.string d.Name,iv d.dR,iv d.Weight.ai,iv d.Weight.ak,m],pT f] R H (λ v R' H'=>R=R'∧H=H'∧v = .bool r):=by
 unfold mE at g
 refine aY func193 9 λ fr cs A=>?_
 refine sg aC ?_
 refine bx λ C=>?_
 refine vs 1 ?_
 refine nx b4 ?_
 refine vs 1 ?_
 refine ld 0 lB z0 ?_
 refine vs 1 ?_
 refine U.ld lB ((z.sub (su (so sr))).one (j:=0) rfl) ?_
 refine U.s rfl rfl (Ox.xi rfl rfl rfl rfl rfl (.put rfl) ?_)
 refine vs 1 ?_
 refine er ?_
 cases av g
 exact rt func193 (.tmp rfl .nil) (so sr) (A _ _ _ aG)
theorem Ip(f:an){C I J:Value}(z:ah bz 5 R C f.ao)(_:ah CZ 1 R I f.Out)(_:ah bq 2 R J f.aV){r:Int}(d:mz f=some r):aL af 188 #[.agg #[iv f.ax,iv f.ad.ai,iv f.ad.ak,C,I,J]] R H (λ v R' H'=>aH R R'∧H=H'∧v=iv r):=by
 unfold mz at d
 refine aY func188 53 λ fr cs A=>?_
 refine sg aC ?_
 refine bx λ ng=>?_
 refine vs 1 ?_
 refine es ?_
 refine sg b4 ?_
 refine vs 2 ?_
 refine ld 3 cZ z0 ?_
 refine ls z underlying24 ?_
 have ⟨bJ,aG,d⟩:=ae d
 refine U.cv iI (iP (f.ao.length:Int) 1 5  aG) ?_
 rintro _ _ _ ⟨rfl,rfl,rfl⟩
 refine vs 1 ?_
 refine er ?_
 refine sc d ?_ ?_<;>intro bk d
 ·refine sg aB ?_
  refine vs 1 ?_
  refine er ?_
  cases av d
  exact rt func188 (.tmp rfl .nil) (so sr) (A _ _ _ ⟨(rr),br⟩)
 refine sp ?_
 refine sq ?_
 refine sg bA ?_
 refine vs 2 ?_
 refine ld 3 cZ z0 ?_
 refine ls z underlying24 ?_
 refine vs 1 ?_
 refine er ?_
 refine U.aP ?_
 refine U.dy d (λ (E:Int) R' H' aa=>aH R R'∧H'=(ng,.cells #[iv f.ax,iv f.ad.ai,iv f.ad.ak,C,I,J] 115)::H∧aA aa [(1,pT ng),(14,C),(15,iv (f.ao.length:Int)),(16,iv E)]) (λ (a5:Unit) R' H' aa=>aH R R'∧H=H'∧aA aa []) 0 rfl ⟨rr,rfl,aq bt⟩ ?_ ?_
 rotate_right
 ·rintro E bd a9 bD ⟨m,rfl,ar⟩ bL d P Q G
  refine U.sub ar ?_
  replace z:=z.mono m
  refine sg aB ?_
  refine vs 1 ?_
  refine es ?_
  refine sc d ?_ ?_<;>intro bm d
  ·refine sp ?_
   refine sq ?_
   refine U.aP ?_
   refine sg b4 ?_
   refine vs 1 ?_
   have ⟨g,aJ,d⟩:=ae d
   obtain ⟨bg,bv,_,⟨a6,F,rfl⟩,ac,ag⟩:=z.elem fQ aJ
   refine bX ag ?_
   refine U.s rfl rfl (Ox.bB (vs:=[_,_,_,_,_]) rfl rfl iA rfl (ac.any.part (j:=0) (n:=5) rfl) rfl (.put rfl) ?_)
   refine bu (#[.string (⟨#[]⟩),iv 0,iv 0,iv 0,aw]) qp λ L=>?_
   refine vs 1 ?_
   refine bC (#[_,_,_,_,_]) iA .here ?_
   refine es ?_
   refine U.aP ?_
   refine sg bA ?_
   refine vs 1 ?_
   refine ld 0 lB z0 ?_
   have ⟨bM,aM,d⟩:=ae d
   refine U.cv DN (Ix g.Name  aM) ?_
   rintro _ _ _ ⟨rfl,rfl,rfl⟩
   refine vs 2 ?_
   refine er ?_
   refine sc d ?_ ?_<;>intro bn d
   ·refine sg aB ?_
    refine vs 1 ?_
    refine er ?_
    replace d:=G _ (au d)
    cases av d
    exact rt func188 (.tmp rfl .nil) (so (so sr)) (A _ _ _ ⟨m,br⟩)
   refine sg cX ?_
   refine vs 2 ?_
   refine ld 3 cZ z1 ?_
   refine vs 1 ?_
   have ⟨a7,aN,d⟩:=ae d
   have ⟨bN,aT,d⟩:=ae d
   obtain ⟨bH,aO,am⟩:=z.cut fQ aN
   refine U.s rfl rfl (Ox.l1 rfl rfl rfl rfl am rfl (.put rfl) ?_)
   refine U.s rfl rfl (Ox.makeFunc (vs:=#[]) (us:=#[_]) rfl rfl rfl rfl (.put rfl) ?_)
   refine U.cv DO (Iz a7 (λ y=>mE y g) aO.rd ⟨193,#[],#[_],rfl,DQ,λ R' H' Z Y y r va W ap=>by obtain ⟨_,rfl,⟨bI,a4,rfl⟩⟩:=W; exact (IA y g a4 (aK.box (Y _ z0)) (F.mono Z) ap).mono λ _ _ _ ⟨S,T,V⟩=>⟨S ▸ rr,T.symm,V⟩⟩ aT) ?_
   rintro _ O _ ⟨D,rfl,rfl⟩
   replace F:=F.mono D
   refine vs 1 ?_
   refine er ?_
   refine sc d ?_ ?_<;>intro bo d
   ·refine sg aB ?_
    refine vs 1 ?_
    refine er ?_
    replace d:=G _ (au d)
    cases av d
    exact rt func188 (.tmp rfl .nil) (so (so sr)) (A _ _ _ ⟨(m.trans D),br⟩)
   refine sq ?_
   refine U.da d (λ (N:Bool) R' H' aa=>O=R'∧H'=(L,.cells #[.string g.Name,iv g.dR,iv g.Weight.ai,iv g.Weight.ak,a6] 105)::(ng,.cells #[iv f.ax,iv f.ad.ai,iv f.ad.ak,C,I,J] 115)::H∧aA aa [(1,pT ng),(3,iv E),(4,pT L),(14,C),(15,iv (f.ao.length:Int)),(16,iv E),(34,.bool N)])  ?_ ?_
   rotate_right
   ·intro bO d M
    refine U.rg hW ?_
    refine vs 1 ?_
    refine ld 1 aI z0 ?_
    have ⟨bP,aU,d⟩:=ae d
    refine U.cv iI (iP g.dR (-9) 9  aU) ?_
    rintro _ _ _ ⟨rfl,rfl,rfl⟩
    refine vs 2 ?_
    refine a8 d (λ K d=>?_) (λ K d=>?_)
    ·refine U.kn 39 K ?_
     refine vs 6 ?_
     refine er ?_
     exact M _ (au d) _ _ _ ⟨rfl,rfl,aq fc⟩
    refine U.kn 39 K ?_
    refine vs 1 ?_
    refine lN [_,_] 2 2 cB z0 ?_
    have ⟨bQ,a1,d⟩:=ae d
    refine U.cv tM (uS g.Weight 1 99 3  a1) ?_
    rintro _ _ _ ⟨rfl,rfl,rfl⟩
    refine vs 3 ?_
    refine er ?_
    exact M _ (au d) _ _ _ ⟨rfl,rfl,aq fc⟩
   rintro N bf bb bG ⟨rfl,rfl,aF⟩ d
   refine U.sub aF ?_
   refine sc d ?_ ?_<;>intro bp d
   ·refine sg aB ?_
    refine vs 1 ?_
    refine er ?_
    replace d:=G _ (au d)
    cases av d
    exact rt func188 (.tmp rfl .nil) (so (so sr)) (A _ _ _ ⟨(m.trans D),br⟩)
   refine sp ?_
   refine U.a0 ?_
   refine sg bA ?_
   refine vs 1 ?_
   refine ld 4 cb z0 ?_
   refine vs 1 ?_
   have ⟨bS,a2,d⟩:=ae d
   refine U.cv tB (uG g.On E F.rd a2) ?_
   rintro _ _ _ ⟨rfl,rfl,rfl⟩
   refine vs 1 ?_
   refine nx aC ?_
   refine vs 2 ?_
   refine er ?_
   refine sc d ?_ ?_<;>intro bs d
   ·refine sg aC ?_
    refine vs 2 ?_
    refine er ?_
    replace d:=G _ (au d)
    cases av d
    exact rt func188 (.tmp rfl .nil) (so (so sr)) (A _ _ _ ⟨(m.trans D),br⟩)
   refine sp ?_
   refine U.a0 ?_
   refine U.rg aC ?_
   refine vs 2 ?_
   refine er ?_
   exact U.aR (so sr) (P _ (au d) _ _ _ ⟨(m.trans D),rfl,aq bt⟩)
  exact U.bw rfl (U.aR (so sr) (Q _ (au d) _ _ _ ⟨m,rfl,cV.sub trivial⟩))
 rintro a5 be ba bF ⟨ab,rfl,az⟩ d
 refine U.sub az ?_
 refine sg aB ?_
 refine vs 1 ?_
 refine er ?_
 cases av d
 exact rt func188 (.tmp rfl .nil) sr (A _ _ _ ⟨ab,br⟩)
theorem eL(D:(List Bool))(x1:(List Int)){v1:Value}(O:D.length=5)(E:bE CZ 1 R H v1 x1){r:(List Bool)}(d:e9 D x1=some r):aL af 67 #[.agg (bW D),v1] R H (λ v R' H'=>R=R'∧H=H'∧r.length=5∧v = .agg (bW r)):=by
 unfold e9 at d
 refine aY func67 17 λ fr cs K=>?_
 refine sg aC ?_
 refine bx λ g=>?_
 refine bu (bW [false,false,false,false,false]) fS λ m=>?_
 refine es ?_
 refine sg aM ?_
 refine vs 1 ?_
 refine lr E underlying25 ?_
 refine vs 1 ?_
 refine er ?_
 refine U.aP ?_
 refine U.cQ d (λ (y:(Int × (List Bool))) R' H' aa=>R=R'∧y.2.length=5∧H'=(m,.cells (bW [false,false,false,false,false]) 124)::(g,.cells (bW y.2) 124)::H∧aA aa [(2,pT g),(4,pT m),(7,v1),(8,iv (x1.length:Int)),(9,iv y.1)]) (λ (C:(List Bool)) R' H' aa=>R=R'∧C.length=5∧H'=(m,.cells (bW [false,false,false,false,false]) 124)::(g,.cells (bW C) 124)::H∧aA aa [(2,pT g),(4,pT m)]) 0 rfl ⟨rfl,O,rfl,aq b2⟩ ?_ ?_
 rotate_right
 ·rintro y S P Z ⟨rfl,A,rfl,L⟩ ac d F G
  refine U.sub L ?_
  refine sg aB ?_
  refine vs 1 ?_
  refine es ?_
  refine sc d ?_ ?_<;>intro W d
  ·refine sp ?_
   refine sq ?_
   refine U.aP ?_
   refine sg aM ?_
   have ⟨ad,N,d⟩:=ae d
   obtain ⟨V,Y,_,rfl,I,J⟩:=E.elem bd N
   refine bX J ?_
   refine U.ld aI ((I.sub (su (so (so sr)))).one (j:=0) rfl) ?_
   refine vs 1 ?_
   refine er ?_
   refine U.rg aM ?_
   refine vs 1 ?_
   have ⟨ag,z,d⟩:=ae d
   refine bX (h6 nf A z) ?_
   refine U.s rfl rfl (Ox.dE rfl rfl rfl eN rfl (.there .here) (qC z rfl) (qD z rfl) rfl (.refl _) ?_)
   refine er ?_
   refine U.a0 ?_
   refine U.rg aC ?_
   refine vs 2 ?_
   refine er ?_
   exact F _ (au d) _ _ _ ⟨rfl,((List.length_set).trans A),rfl,aq b2⟩
  exact U.bw rfl (G _ (au d) _ _ _ ⟨rfl,A,rfl,aq cg⟩)
 rintro C T Q ab ⟨rfl,f,rfl,M⟩ d
 refine U.sub M ?_
 refine sg aC ?_
 refine U.s rfl rfl (Ox.bB (vs:=_) rfl rfl cR (by simp [f]) ((aK.box z1).part (j:=0) (n:=5) (dd (by simp [f]))) rfl (.put rfl) ?_)
 refine U.s rfl rfl (Ox.cG (cs':=_) rfl rfl rfl cR (by simp [f]) (cj bl (cj (ej λ _=>rfl) bl)) .here (by simp) (eo (by simp [f])) rfl (.refl _) ?_)
 refine er ?_
 cases av d
 exact rt func67 (.agg rfl cR (by simp [f]) (aK.box z0) .nil) (so (so sr)) (K _ _ _ ⟨rfl,rfl,f,rfl⟩)
theorem uJ(d:an)(x1:Int){g m s:Value}(y:ah bz 5 R g d.ao)(_:ah CZ 1 R m d.Out)(_:ah bq 2 R s d.aV){r:Bool}(f:jA d x1=some r):aL af 71 #[.agg #[iv d.ax,iv d.ad.ai,iv d.ad.ak,g,m,s],iv x1] R H (λ v R' H'=>R=R'∧H=H'∧v = .bool r):=by
 unfold jA at f
 refine aY func71 12 λ fr cs z=>?_
 refine sg aC ?_
 refine bx λ C=>?_
 refine vs 1 ?_
 refine nx cX ?_
 refine vs 3 ?_
 refine ld 3 cZ z0 ?_
 refine ls y underlying24 ?_
 refine vs 1 ?_
 have ⟨F,A,f⟩:=ae f
 refine U.cv iI (iP x1 0 (i64 ((d.ao.length:Int) - 1))  A) ?_
 rintro _ _ _ ⟨rfl,rfl,rfl⟩
 refine vs 1 ?_
 refine er ?_
 cases av f
 exact rt func71 (.tmp rfl .nil) (so sr) (z _ _ _ aG)
theorem Hl(z:(List Int))(x1:(Int→Option Bool)){v0 v1:Value}(f:bE CZ 1 R H v0 z)(g:g2 af R H (VI .i64) VB v1 x1){r:Int}(d:nJ z x1=some r):aL af 125 #[v0,v1] R H (λ v R' H'=>aH R R'∧H=H'∧v=iv r):=by
 unfold nJ at d
 refine aY func125 19 λ fr cs A=>?_
 refine sg aB ?_
 refine vs 1 ?_
 refine es ?_
 refine sg aM ?_
 refine vs 1 ?_
 refine lr f underlying25 ?_
 refine vs 1 ?_
 refine er ?_
 refine U.aP ?_
 refine U.dy d (λ (C:Int) R' H' aa=>aH R R'∧H=H'∧aA aa [(0,v0),(1,v1),(7,iv (z.length:Int)),(8,iv C)]) (λ (N:Unit) R' H' aa=>aH R R'∧H=H'∧aA aa []) 0 rfl ⟨rr,rfl,aq bt⟩ ?_ ?_
 rotate_right
 ·rintro C Q O ab ⟨m,rfl,I⟩ ad d D E M
  refine U.sub I ?_
  replace f:=f.le m
  replace g:=g.up m pp
  refine sg aB ?_
  refine vs 1 ?_
  refine es ?_
  refine sc d ?_ ?_<;>intro W d
  ·refine sp ?_
   refine sq ?_
   refine U.aP ?_
   refine sg aC ?_
   refine vs 2 ?_
   refine nx b4 ?_
   refine vs 3 ?_
   have ⟨ag,K,d⟩:=ae d
   have ⟨ak,L,d⟩:=ae d
   obtain ⟨V,Z,_,rfl,y,G⟩:=f.elem bd K
   refine bX G ?_
   refine U.ld aI ((y.sub pp).one (j:=0) rfl) ?_
   refine U.step rfl rfl rfl (Ox.lZ g rfl rfl rfl rfl L rfl pp ?_)
   rintro _ T s rfl
   replace f:=f.le s
   replace g:=g.up s pp
   replace y:=y.le s
   refine ⟨_,(.put rfl),?_⟩
   refine er ?_
   refine sc d ?_ ?_<;>intro Y d
   ·refine sg aC ?_
    refine vs 2 ?_
    refine er ?_
    replace d:=M _ (au d)
    cases av d
    exact rt func125 (.tmp rfl .nil) sr (A _ _ _ ⟨(m.trans s),br⟩)
   refine sp ?_
   refine U.a0 ?_
   refine U.rg aC ?_
   refine vs 2 ?_
   refine er ?_
   exact D _ (au d) _ _ _ ⟨(m.trans s),rfl,aq bt⟩
  exact U.bw rfl (E _ (au d) _ _ _ ⟨m,rfl,cV.sub trivial⟩)
 rintro N S P ac ⟨F,rfl,J⟩ d
 refine U.sub J ?_
 refine sg aB ?_
 refine vs 1 ?_
 refine er ?_
 cases av d
 exact rt func125 (.tmp rfl .nil) sr (A _ _ _ ⟨F,br⟩)
theorem yQ(s:(List Int))(x1:(Int→Option Bool)){v0 v1:Value}(f:bE CZ 1 R H v0 s)(g:g2 af R H (VI .i64) VB v1 x1){r:Bool}(d:kN s x1=some r):aL af 107 #[v0,v1] R H (λ v R' H'=>aH R R'∧H=H'∧v = .bool r):=by
 unfold kN at d
 refine aY func107 9 λ fr cs y=>?_
 refine sg aB ?_
 refine vs 1 ?_
 refine nx bA ?_
 refine vs 2 ?_
 have ⟨C,z,d⟩:=ae d
 refine U.cv C0 (Hl s x1 (f.sub pp) g z) ?_
 rintro _ A _ ⟨m,rfl,rfl⟩
 replace f:=f.le m
 replace g:=g.up m pp
 refine vs 2 ?_
 refine er ?_
 cases av d
 exact rt func107 (.tmp rfl .nil) sr (y _ _ _ ⟨m,br⟩)
theorem H8(f:(List Int))(x1:Int){v0:Value}(g:bE CZ 1 R H v0 f){r:Int}(d:nO f x1=some r):aL af 160 #[v0,iv x1] R H (λ v R' H'=>R=R'∧H=H'∧v=iv r):=by
 unfold nO at d
 refine aY func160 19 λ fr cs m=>?_
 refine sg aB ?_
 refine vs 1 ?_
 refine es ?_
 refine sg aM ?_
 refine vs 1 ?_
 refine lr g underlying25 ?_
 refine vs 1 ?_
 refine er ?_
 refine U.aP ?_
 refine U.dy d (λ (s:Int) R' H' aa=>R=R'∧H=H'∧aA aa [(0,v0),(1,iv x1),(7,iv (f.length:Int)),(8,iv s)]) (λ (I:Unit) R' H' aa=>R=R'∧H=H'∧aA aa []) 0 rfl ⟨rfl,rfl,aq bt⟩ ?_ ?_
 rotate_right
 ·rintro s L J S ⟨rfl,rfl,D⟩ V d y z G
  refine U.sub D ?_
  refine sg aB ?_
  refine vs 1 ?_
  refine es ?_
  refine sc d ?_ ?_<;>intro O d
  ·refine sp ?_
   refine sq ?_
   refine U.aP ?_
   refine sg aC ?_
   refine vs 2 ?_
   refine nx b4 ?_
   refine vs 3 ?_
   have ⟨W,F,d⟩:=ae d
   obtain ⟨N,Q,_,rfl,A,C⟩:=g.elem bd F
   refine bX C ?_
   refine U.ld aI ((A.sub pp).one (j:=0) rfl) ?_
   refine vs 1 ?_
   refine er ?_
   refine sc d ?_ ?_<;>intro P d
   ·refine sg aC ?_
    refine vs 2 ?_
    refine er ?_
    replace d:=G _ (au d)
    cases av d
    exact rt func160 (.tmp rfl .nil) sr (m _ _ _ aG)
   refine sp ?_
   refine U.a0 ?_
   refine U.rg aC ?_
   refine vs 2 ?_
   refine er ?_
   exact y _ (au d) _ _ _ ⟨rfl,rfl,aq bt⟩
  exact U.bw rfl (z _ (au d) _ _ _ ⟨rfl,rfl,cV.sub trivial⟩)
 rintro I M K T ⟨rfl,rfl,E⟩ d
 refine U.sub E ?_
 refine sg aB ?_
 refine vs 1 ?_
 refine er ?_
 cases av d
 exact rt func160 (.tmp rfl .nil) sr (m _ _ _ aG)
theorem H0(f:(List Int))(x1:Int){v0:Value}(g:bE CZ 1 R H v0 f){r:Bool}(d:mn f x1=some r):aL af 151 #[v0,iv x1] R H (λ v R' H'=>R=R'∧H=H'∧v = .bool r):=by
 unfold mn at d
 refine aY func151 9 λ fr cs m=>?_
 refine sg aB ?_
 refine vs 1 ?_
 refine nx bA ?_
 refine vs 2 ?_
 have ⟨y,s,d⟩:=ae d
 refine U.cv Dv (H8 f x1 (g.sub pp) s) ?_
 rintro _ _ _ ⟨rfl,rfl,rfl⟩
 refine vs 2 ?_
 refine er ?_
 cases av d
 exact rt func151 (.tmp rfl .nil) sr (m _ _ _ aG)
theorem Hw(f:an)(x1:Int){D I J:Value}(F:ah bz 5 R D f.ao)(_:ah CZ 1 R I f.Out)(_:ah bq 2 R J f.aV){r:(List Int)}(d:mi f x1=some r):aL af 132 #[.agg #[iv f.ax,iv f.ad.ai,iv f.ad.ak,D,I,J],iv x1] R H (λ v R' H'=>aH R R'∧H=H'∧∃ L,ah CZ 1 R' L r∧v=L):=by
 unfold mi at d
 refine aY func132 27 λ fr cs W=>?_
 refine sg aC ?_
 refine bx λ gx=>?_
 refine vs 1 ?_
 refine nx aB ?_
 refine vs 1 ?_
 refine es ?_
 refine sg bA ?_
 refine vs 2 ?_
 refine ld 3 cZ z0 ?_
 refine ls F underlying24 ?_
 refine vs 1 ?_
 refine er ?_
 refine U.aP ?_
 refine U.aR (H':=H) (so sr) ?_
 refine U.cQ d (λ (y:((List Int) × Int)) R' H' aa=>R=R'∧∃ m g,aX CZ 1 3 R' m y.1 g∧H'=g++(H)∧aA aa [(1,iv x1),(5,m),(10,D),(11,iv (f.ao.length:Int)),(12,iv y.2)]) (λ (G:(List Int)) R' H' aa=>R=R'∧∃ z A,aX CZ 1 3 R' z G A∧H'=A++(H)∧aA aa [(5,z)]) 0 rfl ⟨rfl,aw,[],aX.nil,rfl,aq b2⟩ ?_ ?_
 rotate_right
 ·rintro y aJ aG a4 ⟨rfl,m,g,C,rfl,ab⟩ a7 d E P
  refine U.sub ab ?_
  refine sg aB ?_
  refine vs 1 ?_
  refine es ?_
  refine sc d ?_ ?_<;>intro aU d
  ·refine sp ?_
   refine sq ?_
   refine U.aP ?_
   refine sg b4 ?_
   refine vs 1 ?_
   have ⟨aF,ag,d⟩:=ae d
   obtain ⟨aN,a2,_,⟨a6,am,rfl⟩,S,V⟩:=F.elem fQ ag
   refine bX V ?_
   refine U.s rfl rfl (Ox.bB (vs:=[_,_,_,_,_]) rfl rfl iA rfl (S.any.part (j:=0) (n:=5) rfl) rfl (.put rfl) ?_)
   refine bu (#[.string (⟨#[]⟩),iv 0,iv 0,iv 0,aw]) qp λ N=>?_
   refine vs 1 ?_
   refine bC (#[_,_,_,_,_]) iA .here ?_
   refine nx bb ?_
   refine vs 1 ?_
   refine ld 4 cb z0 ?_
   refine vs 1 ?_
   have ⟨a8,ap,d⟩:=ae d
   refine U.cv Dp (H0 aF.On x1 am.rd ap) ?_
   rintro _ _ _ ⟨rfl,rfl,rfl⟩
   refine er ?_
   refine sc d ?_ ?_<;>intro a1 d
   ·refine U.rg bA ?_
    refine vs 2 ?_
    refine dt (#[_]) cw c7 λ O=>?_
    have ⟨a9,ar,d⟩:=ae d
    refine U.s rfl rfl (Ox.append (K:=CZ) (λ X=>(O,_)::(N,_)::X++(H)) rfl rfl rfl eh underlying25 (by simp) (.cons (.cons .id)) C (eB y.2 rfl) ar rfl λ az M Z=>⟨_,(.put rfl),?_⟩)
    refine vs 1 ?_
    refine er ?_
    refine U.a0 ?_
    refine U.rg aC ?_
    refine vs 2 ?_
    refine er ?_
    exact U.aR (so (so sr)) (E _ (au d) _ _ _ ⟨rfl,az,M,Z,rfl,aq b2⟩)
   refine sp ?_
   refine U.a0 ?_
   refine U.rg aC ?_
   refine vs 2 ?_
   refine er ?_
   exact U.aR (so sr) (E _ (au d) _ _ _ ⟨rfl,m,g,C,rfl,aq b2⟩)
  exact U.bw rfl (P _ (au d) _ _ _ ⟨rfl,m,g,C,rfl,aq eD⟩)
 rintro G aK aI a5 ⟨rfl,z,A,Y,rfl,ac⟩ d
 refine U.sub ac ?_
 refine sg aC ?_
 refine vs 2 ?_
 refine er ?_
 refine U.dg (H2:=H) (λ X=>X++(H)) .id rfl Y (λ aM Q T=>?_)
 cases av d
 exact rt func132 (.tmp rfl .nil) sr (W _ _ _ ⟨Q,rfl,z,T,rfl⟩)
theorem Hx(m:Int)(x1:(List Bool)){f:Nat}(s:aK R H f 0 ([]++(x1.map Value.bool++[])))(z:x1.length=5){r:Bool}(d:mj m x1=some r):aL af 133 #[iv m,pT f] R H (λ v R' H'=>R=R'∧H=H'∧v = .bool r):=by
 unfold mj at d
 refine aY func133 8 λ fr cs y=>?_
 refine sg aB ?_
 refine vs 1 ?_
 refine nx bA ?_
 refine vs 1 ?_
 have ⟨A,g,d⟩:=ae d
 refine bX (h6 nf z g) ?_
 refine U.ld eN ((s.sub pp).arr g rfl) ?_
 refine vs 2 ?_
 refine er ?_
 cases av d
 exact rt func133 (.tmp rfl .nil) sr (y _ _ _ aG)
theorem yU(f:an)(x1:(List Bool))(x2:Int){C D E:Value}(F:ah bz 5 R C f.ao)(G:ah CZ 1 R D f.Out)(I:ah bq 2 R E f.aV)(A:x1.length=5){r:Bool}(d:j0 f x1 x2=some r):aL af 115 #[.agg #[iv f.ax,iv f.ad.ai,iv f.ad.ak,C,D,E],.agg (bW x1),iv x2] R H (λ v R' H'=>aH R R'∧H=H'∧v = .bool r):=by
 unfold j0 at d
 refine aY func115 19 λ fr cs m=>?_
 refine sg aM ?_
 refine bx λ aa=>?_
 refine bx λ ab=>?_
 refine vs 1 ?_
 refine nx ov ?_
 refine vs 1 ?_
 have ⟨am,z,d⟩:=ae d
 refine bX (h6 nf A z) ?_
 refine U.ld eN ((aK.box z0).arr z rfl) ?_
 refine vs 2 ?_
 refine a8 d (λ g d=>?_) (λ g d=>?_)
 ·refine U.kn 11 g ?_
  refine lN [_,_,_,_,_,_] 0 6 dA z1 ?_
  refine vs 1 ?_
  have ⟨W,S,d⟩:=ae d
  refine U.cv C6 (Hw f x2 F G I S) ?_
  rintro ag Y _ ⟨O,rfl,_,T,rfl⟩
  refine U.s rfl rfl (Ox.makeFunc (vs:=#[]) (us:=#[_]) rfl rfl rfl rfl (.put rfl) ?_)
  have ⟨ap,V,d⟩:=ae d
  refine U.cv xr (yQ W (λ y=>mj y x1) T.rd ⟨133,#[],#[_],rfl,C7,λ R' H' ac N y r va M Q=>by obtain rfl:=M; exact (Hx y x1 (aK.box (N _ z0)) A Q).mono λ _ _ _ ⟨J,K,L⟩=>⟨J ▸ rr,K.symm,L⟩⟩ V) ?_
  rintro _ Z _ ⟨P,rfl,rfl⟩
  refine vs 3 ?_
  refine er ?_
  cases av d
  exact rt func115 (.tmp rfl .nil) (so (so sr)) (m _ _ _ ⟨(O.trans P),br⟩)
 refine U.kn 11 g ?_
 refine vs 8 ?_
 refine er ?_
 cases av d
 exact rt func115 (.tmp rfl .nil) (so (so sr)) (m _ _ _ ⟨(rr),br⟩)
theorem ie(g:an)(x1:(List Bool))(x2:(List Int)){N O P v2:Value}(D:ah bz 5 R N g.ao)(E:ah CZ 1 R O g.Out)(F:ah bq 2 R P g.aV)(aw:x1.length=5)(y:bE CZ 1 R H v2 x2){r:((List Bool) × Int)}(d:j8 g x1 x2=some r):aL af 85 #[.agg #[iv g.ax,iv g.ad.ai,iv g.ad.ak,N,O,P],.agg (bW x1),v2] R H (λ v R' H'=>aH R R'∧H=H'∧r.1.length=5∧v = .tuple #[.agg (bW r.1),iv r.2]):=by
 unfold j8 at d
 refine aY func85 40 λ fr cs G=>?_
 refine sg bb ?_
 refine bx λ Q=>?_
 refine bx λ lW=>?_
 refine bu (bW [false,false,false,false,false]) fS λ C=>?_
 refine vs 1 ?_
 refine es ?_
 refine sg aM ?_
 refine vs 1 ?_
 refine lr y underlying25 ?_
 refine vs 1 ?_
 refine er ?_
 refine U.aP ?_
 refine U.dy d (λ (A:(Int × (List Bool))) R' H' aa=>aH R R'∧A.2.length=5∧H'=(C,.cells (bW [false,false,false,false,false]) 124)::(lW,.cells (bW A.2) 124)::(Q,.cells #[iv g.ax,iv g.ad.ai,iv g.ad.ak,N,O,P] 115)::H∧aA aa [(3,pT Q),(4,pT lW),(6,pT C),(10,v2),(11,iv (x2.length:Int)),(12,iv A.1)]) (λ (M:(List Bool)) R' H' aa=>aH R R'∧M.length=5∧H'=(C,.cells (bW [false,false,false,false,false]) 124)::(lW,.cells (bW M) 124)::H∧aA aa [(4,pT lW),(6,pT C)]) 0 rfl ⟨rr,aw,rfl,aq cS⟩ ?_ ?_
 rotate_right
 ·rintro A aG az a7 ⟨m,f,rfl,ab⟩ bg d T V L
  refine U.sub ab ?_
  have ⟨D,E,F⟩:=cH m D E F
  replace y:=y.le m
  refine sg aB ?_
  refine vs 1 ?_
  refine es ?_
  refine sc d ?_ ?_<;>intro a1 d
  ·refine sp ?_
   refine sq ?_
   refine U.aP ?_
   refine sg aM ?_
   have ⟨I,ag,d⟩:=ae d
   obtain ⟨aU,a6,_,rfl,Y,Z⟩:=y.elem bd ag
   refine bX Z ?_
   refine U.ld aI ((Y.sub (su (so (so (so sr))))).one (j:=0) rfl) ?_
   refine vs 1 ?_
   refine es ?_
   refine U.aP ?_
   refine sg bA ?_
   refine lN [_,_,_,_,_,_] 0 6 dA z2 ?_
   refine vs 1 ?_
   have ⟨a9,am,d⟩:=ae d
   refine U.cv tD (uJ g I D E F am) ?_
   rintro _ _ _ ⟨rfl,rfl,rfl⟩
   refine vs 2 ?_
   refine er ?_
   refine sc d ?_ ?_<;>intro a2 d
   ·refine sg aM ?_
    refine U.s rfl rfl (Ox.bB (vs:=_) rfl rfl cR (by simp [f]) ((aK.box z1).part (j:=0) (n:=5) (dd (by simp [f]))) rfl (.put rfl) ?_)
    refine U.s rfl rfl (Ox.cG (cs':=_) rfl rfl rfl cR (by simp [f]) (cj bl (cj (ej λ _=>rfl) bl)) .here (by simp) (eo (by simp [f])) rfl (.refl _) ?_)
    refine vs 1 ?_
    refine er ?_
    replace d:=L _ (au d)
    cases av d
    exact rt func85 (.agg rfl cR (by simp [f]) (aK.box z0) (.tmp rfl .nil)) (so (so (so sr))) (G _ _ _ ⟨m,rfl,f,rfl⟩)
   refine sg bb ?_
   refine vs 1 ?_
   have ⟨ba,S,d⟩:=ae d
   refine bX (h6 nf f S) ?_
   refine U.ld eN ((aK.box z1).arr S rfl) ?_
   refine vs 1 ?_
   refine er ?_
   refine sc d ?_ ?_<;>intro a4 d
   ·refine sg aM ?_
    refine U.s rfl rfl (Ox.bB (vs:=_) rfl rfl cR (by simp [f]) ((aK.box z1).part (j:=0) (n:=5) (dd (by simp [f]))) rfl (.put rfl) ?_)
    refine U.s rfl rfl (Ox.cG (cs':=_) rfl rfl rfl cR (by simp [f]) (cj bl (cj (ej λ _=>rfl) bl)) .here (by simp) (eo (by simp [f])) rfl (.refl _) ?_)
    refine vs 1 ?_
    refine er ?_
    replace d:=L _ (au d)
    cases av d
    exact rt func85 (.agg rfl cR (by simp [f]) (aK.box z0) (.tmp rfl .nil)) (so (so (so sr))) (G _ _ _ ⟨m,rfl,f,rfl⟩)
   refine sg b4 ?_
   refine lN [_,_,_,_,_,_] 0 6 dA z2 ?_
   refine U.s rfl rfl (Ox.bB (vs:=_) rfl rfl cR (by simp [f]) ((aK.box z1).part (j:=0) (n:=5) (dd (by simp [f]))) rfl (.put rfl) ?_)
   refine vs 1 ?_
   have ⟨be,ap,d⟩:=ae d
   refine U.cv xv (yU g A.2 I D E F f ap) ?_
   rintro _ aN _ ⟨J,rfl,rfl⟩
   replace y:=y.le J
   refine vs 2 ?_
   refine er ?_
   refine sc d ?_ ?_<;>intro a5 d
   ·refine sg aM ?_
    refine U.s rfl rfl (Ox.bB (vs:=_) rfl rfl cR (by simp [f]) ((aK.box z1).part (j:=0) (n:=5) (dd (by simp [f]))) rfl (.put rfl) ?_)
    refine U.s rfl rfl (Ox.cG (cs':=_) rfl rfl rfl cR (by simp [f]) (cj bl (cj (ej λ _=>rfl) bl)) .here (by simp) (eo (by simp [f])) rfl (.refl _) ?_)
    refine vs 1 ?_
    refine er ?_
    replace d:=L _ (au d)
    cases av d
    exact rt func85 (.agg rfl cR (by simp [f]) (aK.box z0) (.tmp rfl .nil)) (so (so (so sr))) (G _ _ _ ⟨(m.trans J),rfl,f,rfl⟩)
   refine sp ?_
   refine U.a0 ?_
   refine U.rg bA ?_
   refine U.s rfl rfl (Ox.bB (vs:=_) rfl rfl cR (by simp [f]) ((aK.box z1).part (j:=0) (n:=5) (dd (by simp [f]))) rfl (.put rfl) ?_)
   refine vs 1 ?_
   refine dt (#[_]) cw c7 λ aT=>?_
   have ⟨bf,ar,d⟩:=ae d
   refine U.cv eK (eL A.2 [I] f (bE.lit z0 (aO.le (aO.cons (x:=I) rfl rfl aO.nil) rfl) rfl) ar) ?_
   rintro _ _ _ ⟨rfl,rfl,K,rfl⟩
   refine U.s rfl rfl (Ox.cG (cs':=_) rfl rfl rfl cR (by simp [K]) (cj bl (cj (ej λ _=>rfl) bl)) (.there (.there .here)) (by simp [f]) (eo (by simp [K,f])) rfl (.refl _) ?_)
   refine er ?_
   refine U.a0 ?_
   refine U.rg aC ?_
   refine vs 2 ?_
   refine er ?_
   exact U.aR (so sr) (T _ (au d) _ _ _ ⟨(m.trans J),K,rfl,aq cS⟩)
  exact U.bw rfl (U.aR (sk (sk (so sr))) (V _ (au d) _ _ _ ⟨m,f,rfl,aq cg⟩))
 rintro M aJ aF a8 ⟨W,z,rfl,ac⟩ d
 refine U.sub ac ?_
 refine sg aM ?_
 refine U.s rfl rfl (Ox.bB (vs:=_) rfl rfl cR (by simp [z]) ((aK.box z1).part (j:=0) (n:=5) (dd (by simp [z]))) rfl (.put rfl) ?_)
 refine U.s rfl rfl (Ox.cG (cs':=_) rfl rfl rfl cR (by simp [z]) (cj bl (cj (ej λ _=>rfl) bl)) .here (by simp) (eo (by simp [z])) rfl (.refl _) ?_)
 refine vs 1 ?_
 refine er ?_
 cases av d
 exact rt func85 (.agg rfl cR (by simp [z]) (aK.box z0) (.tmp rfl .nil)) (so (so sr)) (G _ _ _ ⟨W,rfl,z,rfl⟩)
theorem Ir(d:an){y A C:Value}(D:ah bz 5 R y d.ao)(g:ah CZ 1 R A d.Out)(E:ah bq 2 R C d.aV){r:Int}(f:mA d=some r):aL af 189 #[.agg #[iv d.ax,iv d.ad.ai,iv d.ad.ak,y,A,C]] R H (λ v R' H'=>aH R R'∧H=H'∧v=iv r):=by
 unfold mA at f
 refine aY func189 15 λ fr cs G=>?_
 refine sg aC ?_
 refine bx λ K=>?_
 refine vs 1 ?_
 refine nx gW ?_
 refine lN [_,_,_,_,_,_] 0 6 dA z0 ?_
 refine U.s rfl rfl (Ox.iG (z:=(bW [false,false,false,false,false])) rfl iE rfl (.put rfl) ?_)
 refine vs 2 ?_
 refine ld 4 cb z0 ?_
 have ⟨M,I,f⟩:=ae f
 refine U.cv h4 (ie d [false,false,false,false,false] d.Out D g E rfl g.rd I) ?_
 rintro _ J _ ⟨F,rfl,m,rfl⟩
 refine vs 3 ?_
 refine bu (bW [false,false,false,false,false]) fS λ L=>?_
 refine U.s rfl rfl (Ox.cG (cs':=_) rfl rfl rfl cR (by simp [m]) (cj bl (cj (ej λ _=>rfl) bl)) .here (by simp) (eo (by simp [m])) rfl (.refl _) ?_)
 refine vs 1 ?_
 refine nx aC ?_
 refine vs 2 ?_
 refine er ?_
 cases av f
 exact rt func189 (.tmp rfl .nil) (so (so sr)) (G _ _ _ ⟨F,br⟩)
theorem Iv(f:an){C D y:Value}(_:ah bz 5 R C f.ao)(I:ah CZ 1 R D f.Out)(A:ah bq 2 R y f.aV){r:Int}(d:mB f=some r):aL af 190 #[.agg #[iv f.ax,iv f.ad.ai,iv f.ad.ak,C,D,y]] R H (λ v R' H'=>R=R'∧H=H'∧v=iv r):=by
 unfold mB at d
 refine aY func190 33 λ fr cs g=>?_
 refine sg aC ?_
 refine bx λ E=>?_
 refine vs 1 ?_
 refine es ?_
 refine sg bA ?_
 refine vs 2 ?_
 refine ld 5 ei z0 ?_
 refine ls A underlying26 ?_
 refine vs 1 ?_
 refine er ?_
 refine sc d ?_ ?_<;>intro aF d
 ·refine sg aB ?_
  refine vs 1 ?_
  refine er ?_
  cases av d
  exact rt func190 (.tmp rfl .nil) (so sr) (g _ _ _ aG)
 refine sp ?_
 refine sq ?_
 refine sg bA ?_
 refine vs 2 ?_
 refine ld 5 ei z0 ?_
 refine ls A underlying26 ?_
 refine vs 1 ?_
 refine er ?_
 refine U.aP ?_
 refine U.dy d (λ (F:Int) R' H' aa=>R=R'∧H'=(E,.cells #[iv f.ax,iv f.ad.ai,iv f.ad.ak,C,D,y] 115)::H∧aA aa [(1,pT E),(12,y),(13,iv (f.aV.length:Int)),(14,iv F)]) (λ (P:Unit) R' H' aa=>R=R'∧H=H'∧aA aa []) 0 rfl ⟨rfl,rfl,aq bt⟩ ?_ ?_
 rotate_right
 ·rintro F V S aJ ⟨rfl,rfl,L⟩ aN d z G m
  refine U.sub L ?_
  refine sg aB ?_
  refine vs 1 ?_
  refine es ?_
  refine sc d ?_ ?_<;>intro ac d
  ·refine sp ?_
   refine sq ?_
   refine U.aP ?_
   refine sg bb ?_
   have ⟨Q,N,d⟩:=ae d
   obtain ⟨Z,aH,_,rfl,J,K⟩:=A.elem ow N
   refine bX K ?_
   refine U.s rfl rfl (Ox.bB (vs:=[_,_]) rfl rfl iC rfl (J.any.part (j:=0) (n:=2) rfl) rfl (.put rfl) ?_)
   refine bu (#[iv 0,iv 0]) vM λ Y=>?_
   refine bC (#[_,_]) iC .here ?_
   refine es ?_
   refine sg cX ?_
   refine vs 1 ?_
   refine ld 0 aI z0 ?_
   refine vs 2 ?_
   refine ld 4 cb z1 ?_
   refine ls I underlying25 ?_
   have ⟨aM,O,d⟩:=ae d
   refine U.cv iI (iP Q.cT 0 (f.Out.length:Int)  O) ?_
   rintro _ _ _ ⟨rfl,rfl,rfl⟩
   refine vs 1 ?_
   refine er ?_
   refine sc d ?_ ?_<;>intro ag d
   ·refine sg aB ?_
    refine vs 1 ?_
    refine er ?_
    replace d:=m _ (au d)
    cases av d
    exact rt func190 (.tmp rfl .nil) (so (so sr)) (g _ _ _ aG)
   refine sp ?_
   refine sg aC ?_
   refine vs 1 ?_
   refine ld 1 rU z0 ?_
   refine er ?_
   refine U.aP ?_
   refine sq ?_
   refine sg aC ?_
   refine vs 2 ?_
   refine er ?_
   refine sc d ?_ ?_<;>intro am d
   ·refine sp ?_
    refine sc d ?_ ?_<;>intro ap d
    ·refine sp ?_
     refine U.a0 ?_
     refine U.a0 ?_
     refine U.rg aC ?_
     refine vs 2 ?_
     refine er ?_
     exact U.aR (so sr) (z _ (au d) _ _ _ ⟨rfl,rfl,aq bt⟩)
    refine sg aB ?_
    refine vs 1 ?_
    refine er ?_
    replace d:=m _ (au d)
    cases av d
    exact rt func190 (.tmp rfl .nil) (so (so sr)) (g _ _ _ aG)
   refine sg aC ?_
   refine vs 2 ?_
   refine er ?_
   refine sc d ?_ ?_<;>intro ar d
   ·refine sp ?_
    refine sc d ?_ ?_<;>intro aw d
    ·refine sp ?_
     refine U.a0 ?_
     refine U.a0 ?_
     refine U.rg aC ?_
     refine vs 2 ?_
     refine er ?_
     exact U.aR (so sr) (z _ (au d) _ _ _ ⟨rfl,rfl,aq bt⟩)
    refine sg aB ?_
    refine vs 1 ?_
    refine er ?_
    replace d:=m _ (au d)
    cases av d
    exact rt func190 (.tmp rfl .nil) (so (so sr)) (g _ _ _ aG)
   refine U.rg aC ?_
   refine vs 2 ?_
   refine er ?_
   refine sc d ?_ ?_<;>intro az d
   ·refine sp ?_
    refine U.a0 ?_
    refine U.a0 ?_
    refine U.rg aC ?_
    refine vs 2 ?_
    refine er ?_
    exact U.aR (so sr) (z _ (au d) _ _ _ ⟨rfl,rfl,aq bt⟩)
   refine sg aB ?_
   refine vs 1 ?_
   refine er ?_
   replace d:=m _ (au d)
   cases av d
   exact rt func190 (.tmp rfl .nil) (so (so sr)) (g _ _ _ aG)
  exact U.bw rfl (U.aR (so sr) (G _ (au d) _ _ _ ⟨rfl,rfl,cV.sub trivial⟩))
 rintro P W T aK ⟨rfl,rfl,M⟩ d
 refine U.sub M ?_
 refine sg aB ?_
 refine vs 1 ?_
 refine er ?_
 cases av d
 exact rt func190 (.tmp rfl .nil) sr (g _ _ _ aG)
theorem j6(d:an){D E F:Value}(G:dX R)(g:ah bz 5 R D d.ao)(m:ah CZ 1 R E d.Out)(y:ah bq 2 R F d.aV){r:Int}(f:gF d=some r):aL af 63 #[.agg #[iv d.ax,iv d.ad.ai,iv d.ad.ak,D,E,F]] R H (λ v R' H'=>aH R R'∧H=H'∧v=iv r):=by
 unfold gF at f
 refine aY func63 18 λ fr cs A=>?_
 refine sg aC ?_
 refine bx λ O=>?_
 refine vs 1 ?_
 refine es ?_
 refine sg aC ?_
 refine U.s rfl rfl (Ox.bB (vs:=[_,_,_,_]) rfl rfl BJ rfl (G.2.any.part (j:=0) (n:=4) rfl) rfl (.put rfl) ?_)
 refine vs 1 ?_
 refine er ?_
 refine U.aP ?_
 refine U.enterLoop ?_
 refine sg aB ?_
 refine vs 1 ?_
 refine es ?_
 refine U.cond_true rfl ?_
 refine sp ?_
 refine sq ?_
 refine U.aP ?_
 refine sg aC ?_
 refine U.s rfl rfl (Ox.l6 rfl rfl rfl qE rR.1 (by decide) rfl rfl (.put rfl) ?_)
 refine vs 1 ?_
 refine nx bA ?_
 refine vs 1 ?_
 refine lN [_,_,_,_,_,_] 0 6 a7 z0 ?_
 refine cF (#[_,_,_,_,_,_]) im ?_
 have ⟨V,I,f⟩:=ae f
 refine U.cv DI (Im (⟨d.ax,⟨d.ad.ai,d.ad.ak⟩,d.ao,d.Out,d.aV⟩:an) g m y I) ?_
 rintro _ _ _ ⟨rfl,rfl,rfl⟩
 refine vs 1 ?_
 refine nx aC ?_
 refine vs 2 ?_
 refine er ?_
 refine sc f ?_ ?_<;>intro P f
 ·refine sg aC ?_
  refine vs 2 ?_
  refine er ?_
  cases av f
  exact rt func63 (.tmp rfl .nil) (so sr) (A _ _ _ ⟨(rr),br⟩)
 refine sp ?_
 refine U.a0 ?_
 refine U.rg aC ?_
 refine vs 2 ?_
 refine er ?_
 refine U.inLoop ?_
 refine sg aB ?_
 refine vs 1 ?_
 refine es ?_
 refine U.cond_true rfl ?_
 refine sp ?_
 refine sq ?_
 refine U.aP ?_
 refine sg aC ?_
 refine U.s rfl rfl (Ox.l6 rfl rfl rfl qE rR.1 (by decide) rfl rfl (.put rfl) ?_)
 refine vs 1 ?_
 refine nx bA ?_
 refine vs 1 ?_
 refine lN [_,_,_,_,_,_] 0 6 a7 z0 ?_
 refine cF (#[_,_,_,_,_,_]) im ?_
 have ⟨W,J,f⟩:=ae f
 refine U.cv DJ (Ip (⟨d.ax,⟨d.ad.ai,d.ad.ak⟩,d.ao,d.Out,d.aV⟩:an) g m y J) ?_
 rintro _ M _ ⟨z,rfl,rfl⟩
 have ⟨g,m,y⟩:=cH z g m y
 refine vs 1 ?_
 refine nx aC ?_
 refine vs 2 ?_
 refine er ?_
 refine sc f ?_ ?_<;>intro Q f
 ·refine sg aC ?_
  refine vs 2 ?_
  refine er ?_
  cases av f
  exact rt func63 (.tmp rfl .nil) (so sr) (A _ _ _ ⟨z,br⟩)
 refine sp ?_
 refine U.a0 ?_
 refine U.rg aC ?_
 refine vs 2 ?_
 refine er ?_
 refine U.inLoop ?_
 refine sg aB ?_
 refine vs 1 ?_
 refine es ?_
 refine U.cond_true rfl ?_
 refine sp ?_
 refine sq ?_
 refine U.aP ?_
 refine sg aC ?_
 refine U.s rfl rfl (Ox.l6 rfl rfl rfl qE rR.1 (by decide) rfl rfl (.put rfl) ?_)
 refine vs 1 ?_
 refine nx bA ?_
 refine vs 1 ?_
 refine lN [_,_,_,_,_,_] 0 6 a7 z0 ?_
 refine cF (#[_,_,_,_,_,_]) im ?_
 have ⟨Y,K,f⟩:=ae f
 refine U.cv DK (Ir (⟨d.ax,⟨d.ad.ai,d.ad.ak⟩,d.ao,d.Out,d.aV⟩:an) g m y K) ?_
 rintro _ N _ ⟨C,rfl,rfl⟩
 have ⟨g,m,y⟩:=cH C g m y
 refine vs 1 ?_
 refine nx aC ?_
 refine vs 2 ?_
 refine er ?_
 refine sc f ?_ ?_<;>intro S f
 ·refine sg aC ?_
  refine vs 2 ?_
  refine er ?_
  cases av f
  exact rt func63 (.tmp rfl .nil) (so sr) (A _ _ _ ⟨(z.trans C),br⟩)
 refine sp ?_
 refine U.a0 ?_
 refine U.rg aC ?_
 refine vs 2 ?_
 refine er ?_
 refine U.inLoop ?_
 refine sg aB ?_
 refine vs 1 ?_
 refine es ?_
 refine U.cond_true rfl ?_
 refine sp ?_
 refine sq ?_
 refine U.aP ?_
 refine sg aC ?_
 refine U.s rfl rfl (Ox.l6 rfl rfl rfl qE rR.1 (by decide) rfl rfl (.put rfl) ?_)
 refine vs 1 ?_
 refine nx bA ?_
 refine vs 1 ?_
 refine lN [_,_,_,_,_,_] 0 6 a7 z0 ?_
 refine cF (#[_,_,_,_,_,_]) im ?_
 have ⟨Z,L,f⟩:=ae f
 refine U.cv DM (Iv (⟨d.ax,⟨d.ad.ai,d.ad.ak⟩,d.ao,d.Out,d.aV⟩:an) g m y L) ?_
 rintro _ _ _ ⟨rfl,rfl,rfl⟩
 refine vs 1 ?_
 refine nx aC ?_
 refine vs 2 ?_
 refine er ?_
 refine sc f ?_ ?_<;>intro T f
 ·refine sg aC ?_
  refine vs 2 ?_
  refine er ?_
  cases av f
  exact rt func63 (.tmp rfl .nil) (so sr) (A _ _ _ ⟨(z.trans C),br⟩)
 refine sp ?_
 refine U.a0 ?_
 refine U.rg aC ?_
 refine vs 2 ?_
 refine er ?_
 refine U.inLoop ?_
 refine sg aB ?_
 refine vs 1 ?_
 refine es ?_
 refine U.cond_false rfl ?_
 refine U.bw rfl ?_
 refine sg aB ?_
 refine vs 1 ?_
 refine er ?_
 cases av f
 exact rt func63 (.tmp rfl .nil) (so sr) (A _ _ _ ⟨(z.trans C),br⟩)
theorem G5(f:Int)  {r:Bool} (d:nD f=some r):aL af 108 #[iv f] R H (λ v R' H'=>R=R'∧H=H'∧v = .bool r):=by
 unfold nD at d
 refine aY func108 6 λ fr cs g=>?_
 refine sg aB ?_
 refine vs 1 ?_
 refine nx bb ?_
 refine vs 1 ?_
 have ⟨s,m,d⟩:=ae d
 refine U.cv iI (iP f 0 99  m) ?_
 rintro _ _ _ ⟨rfl,rfl,rfl⟩
 refine vs 2 ?_
 refine er ?_
 cases av d
 exact rt func108 (.tmp rfl .nil) sr (g _ _ _ aG)
theorem Jf(f:an)(x1:dq){z A C D:Value}(K:ah bz 5 R z f.ao)(_:ah CZ 1 R A f.Out)(_:ah bq 2 R C f.aV)(g:ah CZ 1 R D x1.eJ){r:(bm × Int)}(d:m64 f x1=some r):aL af 64 #[.agg #[iv f.ax,iv f.ad.ai,iv f.ad.ak,z,A,C],.agg #[iv x1.ad,D]] R H (λ v R' H'=>aH R R'∧H=H'∧r.1.weights.length=5∧v = .tuple #[.agg (List.toArray ([iv r.1.eb]++(r.1.weights.map (Value.int .i64)++[]))),iv r.2]):=by
 unfold m64 at d
 refine aY func64 37 λ fr cs m=>?_
 refine sg bb ?_
 refine bx λ F=>?_
 refine bx λ G=>?_
 refine bu (List.toArray ([iv 0]++([0,0,0,0,0].map (Value.int .i64)++[]))) lM λ I=>?_
 refine vs 1 ?_
 refine es ?_
 refine U.aP ?_
 refine sg bA ?_
 refine vs 1 ?_
 refine ld 0 aI z1 ?_
 have ⟨am,S,d⟩:=ae d
 refine U.cv iI (iP x1.ad (-999) 999  S) ?_
 rintro _ _ _ ⟨rfl,rfl,rfl⟩
 refine vs 2 ?_
 refine er ?_
 refine sc d ?_ ?_<;>intro ab d
 ·refine sg aM ?_
  refine U.s rfl rfl (Ox.build (cells:=(List.toArray ([iv 0]++([0,0,0,0,0].map (Value.int .i64)++[])))) rfl qj rfl rfl rfl (.put rfl) ?_)
  refine U.s rfl rfl (Ox.cG (cs':=_) rfl rfl rfl dT (by simp) (cj (aW rfl bl) (cj (ej λ _=>rfl) bl)) .here (by simp) (eo (by simp [])) rfl (.refl _) ?_)
  refine vs 1 ?_
  refine er ?_
  cases av d
  exact rt func64 (.agg rfl dT (by simp) (aK.box z0) (.tmp rfl .nil)) (so (so (so sr))) (m _ _ _ ⟨(rr),aG⟩)
 refine sg dW ?_
 refine vs 1 ?_
 refine ld 1 cb z1 ?_
 refine ls g underlying25 ?_
 refine vs 2 ?_
 refine ld 3 cZ z2 ?_
 refine ls K underlying24 ?_
 refine vs 2 ?_
 refine er ?_
 refine sc d ?_ ?_<;>intro ac d
 ·refine sg aM ?_
  refine U.s rfl rfl (Ox.build (cells:=(List.toArray ([iv 0]++([0,0,0,0,0].map (Value.int .i64)++[])))) rfl qj rfl rfl rfl (.put rfl) ?_)
  refine U.s rfl rfl (Ox.cG (cs':=_) rfl rfl rfl dT (by simp) (cj (aW rfl bl) (cj (ej λ _=>rfl) bl)) .here (by simp) (eo (by simp [])) rfl (.refl _) ?_)
  refine vs 1 ?_
  refine er ?_
  cases av d
  exact rt func64 (.agg rfl dT (by simp) (aK.box z0) (.tmp rfl .nil)) (so (so (so sr))) (m _ _ _ ⟨(rr),aG⟩)
 refine sg bb ?_
 refine vs 1 ?_
 refine ld 1 cb z1 ?_
 have ⟨ap,T,d⟩:=ae d
 refine U.cv xr (yQ x1.eJ (λ y=>nD y) g.rd ⟨108,#[],#[],rfl,CL,λ R' H' P Z y r va O Q=>by obtain rfl:=O; exact (G5 y  Q).mono λ _ _ _ ⟨L,M,N⟩=>⟨L ▸ rr,M.symm,N⟩⟩ T) ?_
 rintro _ V _ ⟨E,rfl,rfl⟩
 replace g:=g.mono E
 refine vs 1 ?_
 refine er ?_
 refine sc d ?_ ?_<;>intro ag d
 ·refine sg aM ?_
  refine U.s rfl rfl (Ox.build (cells:=(List.toArray ([iv 0]++([0,0,0,0,0].map (Value.int .i64)++[])))) rfl qj rfl rfl rfl (.put rfl) ?_)
  refine U.s rfl rfl (Ox.cG (cs':=_) rfl rfl rfl dT (by simp) (cj (aW rfl bl) (cj (ej λ _=>rfl) bl)) .here (by simp) (eo (by simp [])) rfl (.refl _) ?_)
  refine vs 1 ?_
  refine er ?_
  cases av d
  exact rt func64 (.agg rfl dT (by simp) (aK.box z0) (.tmp rfl .nil)) (so (so (so sr))) (m _ _ _ ⟨E,aG⟩)
 refine sp ?_
 refine U.a0 ?_
 refine sg bA ?_
 refine vs 1 ?_
 refine ld 0 aI z1 ?_
 refine U.s rfl rfl (Ox.build (cells:=(List.toArray ([iv x1.ad]++([0,0,0,0,0].map (Value.int .i64)++[])))) rfl qj rfl rfl rfl (.put rfl) ?_)
 refine bu (List.toArray ([iv 0]++([0,0,0,0,0].map (Value.int .i64)++[]))) lM λ J=>?_
 refine U.s rfl rfl (Ox.cG (cs':=_) rfl rfl rfl dT (by simp) (cj (aW rfl bl) (cj (ej λ _=>rfl) bl)) .here (by simp) (eo (by simp [])) rfl (.refl _) ?_)
 refine es ?_
 refine U.draw (n:=5) (is:=[0,1,2,3,4]) (many ((J,.cells (List.toArray ([iv x1.ad]++([0,0,0,0,0].map (Value.int .i64)++[]))) 118)::(I,.cells (List.toArray ([iv 0]++([0,0,0,0,0].map (Value.int .i64)++[]))) 118)::(G,.cells #[iv x1.ad,D] 53)::(F,.cells #[iv f.ax,iv f.ad.ai,iv f.ad.ak,z,A,C] 115)::H) [(4,(I,.cells (List.toArray ([iv 0]++([0,0,0,0,0].map (Value.int .i64)++[]))) 118)::(G,.cells #[iv x1.ad,D] 53)::(F,.cells #[iv f.ax,iv f.ad.ai,iv f.ad.ak,z,A,C] 115)::H)]) mixed rfl (by decide +kernel) rfl rfl ?_
 refine Any.vs 1 [0] rfl ?_
 refine ts 1 [4] rfl (aF rfl (aU (su (so (so (so (so sr))))))) (su (so (so (so (so sr))))) (λ R' H' P aa=>Ox.LB rfl rfl oU rfl (.one rfl) aG) ?_
 refine Any.vs 1 [2] rfl ?_
 refine ts 3 [4] rfl (aF rfl (aU (su (so (so (sk (so sr))))))) (su (so (so (sk (so sr))))) (kX cb 1 z0) ?_
 refine Any.on 4 rfl rfl (aJ.to (Ox.Cq rfl rfl rfl bd underlying25 g.rd rfl .here rfl rfl (.put rfl) ⟨rr,(bo rfl (su (so sr))),?_⟩))
 refine Any.done ?_
 refine sg aM ?_
 refine U.s rfl rfl (Ox.bB (vs:=_) rfl rfl dT (by simp [(np rfl)]) ((aK.box z0).part (j:=0) (n:=6) (dd (by simp [(np rfl)]))) rfl (.put rfl) ?_)
 refine U.s rfl rfl (Ox.cG (cs':=_) rfl rfl rfl dT (by simp [(np rfl)]) (cj (aW rfl bl) (cj (ej λ _=>rfl) bl)) (.there .here) (by simp) (eo (by simp [(np rfl)])) rfl (.refl _) ?_)
 refine vs 1 ?_
 refine er ?_
 cases av d
 exact rt func64 (.agg rfl dT (by simp [(np rfl)]) (aK.box z1) (.tmp rfl .nil)) (so (so (so (so sr)))) (m _ _ _ ⟨E,rfl,(np rfl),rfl⟩)
theorem II(f:an)(x1:dq)(x2:(List Int)){J K L M v2:Value}(N:dX R)(g:ah bz 5 R J f.ao)(m:ah CZ 1 R K f.Out)(y:ah bq 2 R L f.aV)(G:ah CZ 1 R M x1.eJ)(A:bE CZ 1 R H v2 x2){r:(Int × Int)}(d:nR f x1 x2=some r):aL af 25 #[.agg #[iv f.ax,iv f.ad.ai,iv f.ad.ak,J,K,L],.agg #[iv x1.ad,M],v2] R H (λ v R' H'=>aH R R'∧H=H'∧v = .tuple #[iv r.1,iv r.2]):=by
 unfold nR at d
 refine aY func25 43 λ fr cs F=>?_
 refine sg bb ?_
 refine bx λ ac=>?_
 refine bx λ ag=>?_
 refine vs 2 ?_
 refine es ?_
 refine sg aM ?_
 refine lN [_,_,_,_,_,_] 0 6 a7 z1 ?_
 have ⟨au,P,d⟩:=ae d
 refine U.cv jT (j6 f N g m y P) ?_
 rintro _ aa _ ⟨C,rfl,rfl⟩
 have ⟨g,m,y,G⟩:=di C g m y G
 replace A:=A.le C
 refine vs 1 ?_
 refine nx aC ?_
 refine vs 2 ?_
 refine er ?_
 refine sc d ?_ ?_<;>intro ap d
 ·refine sg aM ?_
  refine vs 3 ?_
  refine er ?_
  cases av d
  exact rt func25 (.tmp rfl (.tmp rfl .nil)) (so (so sr)) (F _ _ _ ⟨C,br⟩)
 refine sp ?_
 refine sg bb ?_
 refine lN [_,_,_,_,_,_] 0 6 a7 z1 ?_
 refine cF (#[_,_,_,_,_,_]) im ?_
 refine bu (#[iv 0,iv 0,iv 0,aw,aw,aw]) vJ λ fX=>?_
 refine bC (#[_,_,_,_,_,_]) dA .here ?_
 refine nx dW ?_
 refine lN [_,_,_,_,_,_] 0 6 dA z0 ?_
 refine lN [_,_] 0 2 jl z1 ?_
 have ⟨Y,Q,d⟩:=ae d
 refine U.cv Ek (Jf f x1 g m y G Q) ?_
 rintro _ ab _ ⟨D,rfl,E,rfl⟩
 have ⟨g,m,y⟩:=cH D g m y
 replace A:=A.le D
 refine vs 3 ?_
 refine bu (List.toArray ([iv 0]++([0,0,0,0,0].map (Value.int .i64)++[]))) lM λ am=>?_
 refine U.s rfl rfl (Ox.cG (cs':=_) rfl rfl rfl dT (by simp [E]) (cj (aW rfl bl) (cj (ej λ _=>rfl) bl)) .here (by simp) (eo (by simp [E])) rfl (.refl _) ?_)
 refine vs 1 ?_
 refine es ?_
 refine sg aC ?_
 refine vs 2 ?_
 refine er ?_
 refine sc d ?_ ?_<;>intro aq d
 ·refine sg aM ?_
  refine vs 3 ?_
  refine er ?_
  cases av d
  exact rt func25 (.tmp rfl (.tmp rfl .nil)) (so (so (so (so sr)))) (F _ _ _ ⟨(C.trans D),br⟩)
 refine sp ?_
 refine sq ?_
 refine sg b4 ?_
 refine vs 2 ?_
 refine ld 3 cZ z3 ?_
 refine ls g underlying24 ?_
 have ⟨az,S,d⟩:=ae d
 refine U.cv tB (uG x2 (f.ao.length:Int) (A.sub (su (so (so (so (so sr)))))) S) ?_
 rintro _ _ _ ⟨rfl,rfl,rfl⟩
 refine vs 1 ?_
 refine nx aC ?_
 refine vs 2 ?_
 refine er ?_
 refine sc d ?_ ?_<;>intro ar d
 ·refine sg aM ?_
  refine vs 3 ?_
  refine er ?_
  cases av d
  exact rt func25 (.tmp rfl (.tmp rfl .nil)) (so (so (so (so sr)))) (F _ _ _ ⟨(C.trans D),br⟩)
 refine sp ?_
 refine sq ?_
 refine U.dw cX mixed ?_
 refine tN 0 [_,_,_,_,_,_] 0 6 dA z1 ?_
 refine Any.tk 1 rfl pp (λ R' H' O I=>Ox.bB (vs:=_) rfl rfl dT (by simp [E]) ((aK.box (I _ z0)).part (j:=0) (n:=6) (dd (by simp [E]))) rfl (.one rfl) aG) ?_
 refine Any.tk 2 rfl pp (λ R' H' O I=>Ox.iG (z:=(bW [false,false,false,false,false])) rfl iE rfl (.one rfl) aG) ?_
 refine Any.vs 1 [3] rfl ?_
 have ⟨Z,T,d⟩:=ae d
 refine Any.cv 4 eK (eL [false,false,false,false,false] x2 rfl (A.sub (su (so (so (so (so sr)))))) T) ?_
 rintro _ _ _ ⟨rfl,rfl,W,rfl⟩
 refine kp ?_
 have ⟨aA,V,d⟩:=ae d
 refine Any.cv 5 kG (ln f Y.1 Z g m y E W V) ?_
 rintro _ _ _ ⟨rfl,rfl,rfl⟩
 refine kp ?_
 refine Any.vs 2 [6,7] rfl ?_
 refine Any.done ?_
 cases av d
 exact rt func25 (.tmp rfl (.tmp rfl .nil)) (so (so (so (so sr)))) (F _ _ _ ⟨(C.trans D),br⟩)
theorem uK(d:an)(x1:Int){g m y:Value}(_:ah bz 5 R g d.ao)(_:ah CZ 1 R m d.Out)(_:ah bq 2 R y d.aV){r:Bool}(f:jB d x1=some r):aL af 78 #[.agg #[iv d.ax,iv d.ad.ai,iv d.ad.ak,g,m,y],iv x1] R H (λ v R' H'=>R=R'∧H=H'∧v = .bool r):=by
 unfold jB at f
 refine aY func78 13 λ fr cs z=>?_
 refine sg aC ?_
 refine bx λ A=>?_
 refine vs 1 ?_
 refine nx dW ?_
 refine vs 2 ?_
 refine U.s rfl rfl (Ox.mU rfl rfl rfl (.put rfl) ?_)
 refine U.s rfl rfl (Ox.max (a:=x1) (l:=[i64 (0 - x1)]) rfl rfl rfl (.put rfl) ?_)
 refine vs 2 ?_
 refine ld 0 aI z0 ?_
 refine vs 2 ?_
 refine er ?_
 cases av f
 exact rt func78 (.tmp rfl .nil) (so sr) (z _ _ _ aG)
theorem HE(A:(List bU))(x1:(bU→Option Bool)){v0 v1:Value}(f:bE bq 2 R H v0 A)(g:g2 af R H (eT bq) VB v1 x1){r:Int}(d:nN A x1=some r):aL af 139 #[v0,v1] R H (λ v R' H'=>aH R R'∧H=H'∧v=iv r):=by
 unfold nN at d
 refine aY func139 19 λ fr cs C=>?_
 refine sg aB ?_
 refine vs 1 ?_
 refine es ?_
 refine sg aM ?_
 refine vs 1 ?_
 refine lr f underlying26 ?_
 refine vs 1 ?_
 refine er ?_
 refine U.aP ?_
 refine U.dy d (λ (D:Int) R' H' aa=>aH R R'∧H=H'∧aA aa [(0,v0),(1,v1),(7,iv (A.length:Int)),(8,iv D)]) (λ (O:Unit) R' H' aa=>aH R R'∧H=H'∧aA aa []) 0 rfl ⟨rr,rfl,aq bt⟩ ?_ ?_
 rotate_right
 ·rintro D S P ac ⟨m,rfl,J⟩ ag d E F N
  refine U.sub J ?_
  replace f:=f.le m
  replace g:=g.up m pp
  refine sg aB ?_
  refine vs 1 ?_
  refine es ?_
  refine sc d ?_ ?_<;>intro Y d
  ·refine sp ?_
   refine sq ?_
   refine U.aP ?_
   refine sg aC ?_
   refine vs 2 ?_
   refine nx b4 ?_
   refine vs 3 ?_
   have ⟨ak,L,d⟩:=ae d
   have ⟨am,M,d⟩:=ae d
   obtain ⟨W,ab,_,rfl,z,I⟩:=f.elem ow L
   refine bX I ?_
   refine U.s rfl rfl (Ox.bB (vs:=[_,_]) rfl rfl iC rfl ((z.sub pp).part (j:=0) (n:=2) rfl) rfl (.put rfl) ?_)
   refine U.step rfl rfl rfl (Ox.lZ g rfl rfl rfl ⟨_,br⟩ M rfl pp ?_)
   rintro _ V y rfl
   replace f:=f.le y
   replace g:=g.up y pp
   replace z:=z.le y
   refine ⟨_,(.put rfl),?_⟩
   refine er ?_
   refine sc d ?_ ?_<;>intro Z d
   ·refine sg aC ?_
    refine vs 2 ?_
    refine er ?_
    replace d:=N _ (au d)
    cases av d
    exact rt func139 (.tmp rfl .nil) sr (C _ _ _ ⟨(m.trans y),br⟩)
   refine sp ?_
   refine U.a0 ?_
   refine U.rg aC ?_
   refine vs 2 ?_
   refine er ?_
   exact E _ (au d) _ _ _ ⟨(m.trans y),rfl,aq bt⟩
  exact U.bw rfl (F _ (au d) _ _ _ ⟨m,rfl,cV.sub trivial⟩)
 rintro O T Q ad ⟨G,rfl,K⟩ d
 refine U.sub K ?_
 refine sg aB ?_
 refine vs 1 ?_
 refine er ?_
 cases av d
 exact rt func139 (.tmp rfl .nil) sr (C _ _ _ ⟨G,br⟩)
theorem Hn(s:(List bU))(x1:(bU→Option Bool)){v0 v1:Value}(f:bE bq 2 R H v0 s)(g:g2 af R H (eT bq) VB v1 x1){r:Bool}(d:mg s x1=some r):aL af 126 #[v0,v1] R H (λ v R' H'=>aH R R'∧H=H'∧v = .bool r):=by
 unfold mg at d
 refine aY func126 9 λ fr cs y=>?_
 refine sg aB ?_
 refine vs 1 ?_
 refine nx bA ?_
 refine vs 2 ?_
 have ⟨C,z,d⟩:=ae d
 refine U.cv Dd (HE s x1 (f.sub pp) g z) ?_
 rintro _ A _ ⟨m,rfl,rfl⟩
 replace f:=f.le m
 replace g:=g.up m pp
 refine vs 2 ?_
 refine er ?_
 cases av d
 exact rt func126 (.tmp rfl .nil) sr (y _ _ _ ⟨m,br⟩)
theorem Hq(g:Int)  {r:Int} (d:mh g=some r):aL af 128 #[iv g] R H (λ v R' H'=>R=R'∧H=H'∧v=iv r):=by
 unfold mh at d
 refine aY func128 9 λ fr cs f=>?_
 refine sg aB ?_
 refine vs 1 ?_
 refine es ?_
 refine U.aP ?_
 refine sg aM ?_
 refine vs 3 ?_
 refine er ?_
 refine sc d ?_ ?_<;>intro m d
 ·refine sg aB ?_
  refine vs 1 ?_
  refine er ?_
  cases av d
  exact rt func128 (.tmp rfl .nil) sr (f _ _ _ aG)
 refine sg aM ?_
 refine vs 3 ?_
 refine er ?_
 refine sc d ?_ ?_<;>intro s d
 ·refine sg aB ?_
  refine vs 1 ?_
  refine er ?_
  cases av d
  exact rt func128 (.tmp rfl .nil) sr (f _ _ _ aG)
 refine sp ?_
 refine U.a0 ?_
 refine sg aB ?_
 refine vs 1 ?_
 refine er ?_
 cases av d
 exact rt func128 (.tmp rfl .nil) sr (f _ _ _ aG)
theorem Ho(g:bU)(x1:Int)(x2:Int){m s:Nat}(z:aK R H m 0 [iv x1])(A:aK R H s 0 [iv x2]){r:Bool}(d:kS g x1 x2=some r):aL af 127 #[.agg #[iv g.cT,iv g.dZ],pT m,pT s] R H (λ v R' H'=>R=R'∧H=H'∧v = .bool r):=by
 unfold kS at d
 refine aY func127 16 λ fr cs y=>?_
 refine sg aC ?_
 refine bx λ D=>?_
 refine vs 1 ?_
 refine es ?_
 refine U.dw gW mixed ?_
 refine Any.vs 1 [0] rfl ?_
 refine tl 1 0 aI z0 ?_
 refine tQ 2 rfl (kA aI 0 z (su (so sr))) ?_
 refine Any.vs 2 [3,4] rfl ?_
 refine a8 d (λ f d=>?_) (λ f d=>?_)
 ·refine Any.cK (t:=9) rfl f ?_
  refine Any.vs 1 [5] rfl ?_
  refine tl 6 1 rU z0 ?_
  refine tQ 7 rfl (kA aI 0 A (su (so sr))) ?_
  have ⟨E,C,d⟩:=ae d
  refine Any.cv 8 C3 (Hq x2  C) ?_
  rintro _ _ _ ⟨rfl,rfl,rfl⟩
  refine kp ?_
  refine Any.vs 3 [9,10,11] rfl ?_
  refine Any.done ?_
  cases av d
  exact rt func127 (.tmp rfl .nil) (so sr) (y _ _ _ aG)
 refine Any.cK (t:=9) rfl f ?_
 refine Any.vs 7 [5,6,7,8,9,10,11] rfl ?_
 refine Any.done ?_
 cases av d
 exact rt func127 (.tmp rfl .nil) (so sr) (y _ _ _ aG)
end
end Go.Proofs.YtoaoffinglajbaaGreatDoor
