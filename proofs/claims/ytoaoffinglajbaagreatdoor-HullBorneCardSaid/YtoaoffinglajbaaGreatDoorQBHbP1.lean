/- Walks, part 1: each function computes its model. -/
import Derived.Test.YtoaoffinglajbaaGreatDoorQBHbM
namespace Go.Proofs.YtoaoffinglajbaaGreatDoor
open Go.Lg Go.Proofs Tryz
set_option maxRecDepth 100000
set_option maxHeartbeats 4000000
section
variable {B:Base} {main:Bool} {af:Jd prog B main} {R:ay} {H:aj}
theorem ln(f:an)(x1:bm)(x2:(List Bool)){y F G:Value}(A:ah bz 5 R y f.ao)(_:ah CZ 1 R F f.Out)(_:ah bq 2 R G f.aV)(Q:x1.weights.length=5)(S:x2.length=5){r:Int}(d:hj f x1 x2=some r):aL af 66 #[.agg #[iv f.ax,iv f.ad.ai,iv f.ad.ak,y,F,G],.agg (List.toArray ([iv x1.eb]++(x1.weights.map (Value.int .i64)++[]))),.agg (bW x2)] R H (λ v R' H'=>R=R'∧H=H'∧v=iv r):=by
 unfold hj at d
 refine aY func66 36 λ fr cs M=>?_
 refine sg bb ?_
 refine bx λ ft=>?_
 refine bx λ g=>?_
 refine bx λ gx=>?_
 refine vs 1 ?_
 refine nx aM ?_
 refine vs 1 ?_
 refine ld 0 aI z1 ?_
 refine vs 1 ?_
 refine es ?_
 refine sg bA ?_
 refine vs 2 ?_
 refine ld 3 cZ z2 ?_
 refine ls A underlying24 ?_
 refine vs 1 ?_
 refine er ?_
 refine U.aP ?_
 refine U.aR (H':=(gx,.cells (bW x2) 124)::(g,.cells (List.toArray ([iv x1.eb]++(x1.weights.map (Value.int .i64)++[]))) 118)::H) (sk (sk (so sr))) ?_
 refine U.cQ d (λ (m:(Int × Int)) R' H' aa=>R=R'∧H'=(gx,.cells (bW x2) 124)::(g,.cells (List.toArray ([iv x1.eb]++(x1.weights.map (Value.int .i64)++[]))) 118)::H∧aA aa [(4,pT g),(5,pT gx),(7,iv m.1),(14,y),(15,iv (f.ao.length:Int)),(16,iv m.2)]) (λ (E:Int) R' H' aa=>R=R'∧H=H'∧aA aa [(7,iv E)]) 0 rfl ⟨rfl,rfl,aq cS⟩ ?_ ?_
 rotate_right
 ·rintro m W T aH ⟨rfl,rfl,N⟩ aO d z I
  refine U.sub N ?_
  refine sg aB ?_
  refine vs 1 ?_
  refine es ?_
  refine sc d ?_ ?_<;>intro ap d
  ·refine sp ?_
   refine sq ?_
   refine U.aP ?_
   refine sg b4 ?_
   refine vs 1 ?_
   have ⟨aT,P,d⟩:=ae d
   obtain ⟨ab,aF,_,⟨aN,az,rfl⟩,K,L⟩:=A.elem fQ P
   refine bX L ?_
   refine U.s rfl rfl (Ox.bB (vs:=[_,_,_,_,_]) rfl rfl iA rfl (K.any.part (j:=0) (n:=5) rfl) rfl (.put rfl) ?_)
   refine bu (#[.string (⟨#[]⟩),iv 0,iv 0,iv 0,aw]) qp λ Z=>?_
   refine vs 1 ?_
   refine bC (#[_,_,_,_,_]) iA .here ?_
   refine nx bb ?_
   refine vs 1 ?_
   have ⟨aU,C,d⟩:=ae d
   refine bX (h6 nf S C) ?_
   refine U.ld eN ((aK.box z1).arr C rfl) ?_
   refine vs 1 ?_
   refine er ?_
   refine sc d ?_ ?_<;>intro ar d
   ·refine U.dw fz mixed ?_
    refine Any.vs 2 [0,1] rfl ?_
    refine tl 2 1 aI z0 ?_
    refine Any.vs 2 [3,4] rfl ?_
    have ⟨a1,D,d⟩:=ae d
    refine tQ 5 rfl (kI (h6 oU Q D)) ?_
    refine Any.tk 6 rfl pp (λ R' H' am J=>Ox.gQ rfl rfl aI ((aK.box (J _ z2)).arr D rfl) rfl (.one rfl) aG) ?_
    refine Any.vs 3 [7,8,9] rfl ?_
    refine Any.done ?_
    refine U.a0 ?_
    refine U.rg aC ?_
    refine vs 2 ?_
    refine er ?_
    exact U.aR (so sr) (z _ (au d) _ _ _ ⟨rfl,rfl,aq cS⟩)
   refine sp ?_
   refine U.a0 ?_
   refine U.rg aC ?_
   refine vs 2 ?_
   refine er ?_
   exact U.aR (so sr) (z _ (au d) _ _ _ ⟨rfl,rfl,aq cS⟩)
  exact U.bw rfl (U.aR (so (so sr)) (I _ (au d) _ _ _ ⟨rfl,rfl,aq eD⟩))
 rintro E Y V aJ ⟨rfl,rfl,O⟩ d
 refine U.sub O ?_
 refine sg aC ?_
 refine vs 2 ?_
 refine er ?_
 cases av d
 exact rt func66 (.tmp rfl .nil) sr (M _ _ _ aG)
theorem e8(m:Int)(x1:Int)(x2:Int)  {r:Bool} (d:en m x1 x2=some r):aL af 10 #[iv m,iv x1,iv x2] R H (λ v R' H'=>R=R'∧H=H'∧v = .bool r):=by
 unfold en at d
 refine aY func10 15 λ fr cs g=>?_
 refine sg aB ?_
 refine vs 1 ?_
 refine nx dW ?_
 refine vs 4 ?_
 refine a8 d (λ f d=>?_) (λ f d=>?_)
 ·refine U.kn 10 f ?_
  refine vs 5 ?_
  refine er ?_
  cases av d
  exact rt func10 (.tmp rfl .nil) sr (g _ _ _ aG)
 refine U.kn 10 f ?_
 refine vs 5 ?_
 refine er ?_
 cases av d
 exact rt func10 (.tmp rfl .nil) sr (g _ _ _ aG)
theorem uF(s:Reach)(x1:Int)(x2:Int)  {r:Bool} (d:jz s x1 x2=some r):aL af 56 #[.agg #[iv s.ai,iv s.ak],iv x1,iv x2] R H (λ v R' H'=>R=R'∧H=H'∧v = .bool r):=by
 unfold jz at d
 refine aY func56 24 λ fr cs f=>?_
 refine sg aC ?_
 refine bx λ y=>?_
 refine vs 1 ?_
 refine nx rY ?_
 refine vs 2 ?_
 refine ld 0 aI z0 ?_
 refine vs 2 ?_
 refine a8 d (λ g d=>?_) (λ g d=>?_)
 ·refine U.kn 11 g ?_
  refine vs 1 ?_
  refine ld 0 aI z0 ?_
  refine vs 1 ?_
  refine ld 1 aI z0 ?_
  refine vs 3 ?_
  refine a8 d (λ m d=>?_) (λ m d=>?_)
  ·refine U.kn 18 m ?_
   refine vs 1 ?_
   refine ld 1 aI z0 ?_
   refine vs 4 ?_
   refine er ?_
   cases av d
   exact rt func56 (.tmp rfl .nil) (so sr) (f _ _ _ aG)
  refine U.kn 18 m ?_
  refine vs 6 ?_
  refine er ?_
  cases av d
  exact rt func56 (.tmp rfl .nil) (so sr) (f _ _ _ aG)
 refine U.kn 11 g ?_
 refine vs 13 ?_
 refine er ?_
 cases av d
 exact rt func56 (.tmp rfl .nil) (so sr) (f _ _ _ aG)
theorem yZ(f:Int)  {r:Bool} (d:mf f=some r):aL af 123 #[.int .u8 f] R H (λ v R' H'=>R=R'∧H=H'∧v = .bool r):=by
 unfold mf at d
 refine aY func123 6 λ fr cs g=>?_
 refine sg aB ?_
 refine vs 1 ?_
 refine nx bb ?_
 refine vs 1 ?_
 refine hQ underlying5 underlying3 ?_
 have ⟨s,m,d⟩:=ae d
 refine U.cv e6 (e8 (i64 f) 97 122  m) ?_
 rintro _ _ _ ⟨rfl,rfl,rfl⟩
 refine vs 1 ?_
 refine er ?_
 cases av d
 exact rt func123 (.tmp rfl .nil) sr (g _ _ _ aG)
theorem Hk(f:Int)  {r:Bool} (d:nI f=some r):aL af 124 #[.int .u8 f] R H (λ v R' H'=>R=R'∧H=H'∧v = .bool r):=by
 unfold nI at d
 refine aY func124 6 λ fr cs g=>?_
 refine sg aB ?_
 refine vs 1 ?_
 refine nx bb ?_
 refine vs 1 ?_
 refine hQ underlying5 underlying3 ?_
 have ⟨s,m,d⟩:=ae d
 refine U.cv e6 (e8 (i64 f) 48 57  m) ?_
 rintro _ _ _ ⟨rfl,rfl,rfl⟩
 refine vs 1 ?_
 refine er ?_
 cases av d
 exact rt func124 (.tmp rfl .nil) sr (g _ _ _ aG)
theorem GZ(f:ByteArray)  {r:Bool} (d:pj f=some r):aL af 102 #[.string f] R H (λ v R' H'=>R=R'∧H=H'∧v = .bool r):=by
 unfold pj at d
 refine aY func102 32 λ fr cs g=>?_
 refine sg aB ?_
 refine vs 1 ?_
 refine es ?_
 refine sq ?_
 refine U.da d (λ (C:Bool) R' H' aa=>R=R'∧H=H'∧aA aa [(0,.string f),(13,.bool C)])  ?_ ?_
 rotate_right
 ·intro aw d A
  refine U.rg fz ?_
  refine vs 1 ?_
  refine U.s rfl rfl (Ox.pe rfl rfl underlying9 rfl (.put rfl) ?_)
  have ⟨ax,J,d⟩:=ae d
  refine U.cv e6 (e8 (f.size:Int) 1 12  J) ?_
  rintro _ _ _ ⟨rfl,rfl,rfl⟩
  refine vs 2 ?_
  refine a8 d (λ m d=>?_) (λ m d=>?_)
  ·refine U.kn 8 m ?_
   refine vs 5 ?_
   refine er ?_
   exact A _ (au d) _ _ _ ⟨rfl,rfl,aq cg⟩
  refine U.kn 8 m ?_
  refine vs 1 ?_
  have ⟨T,K,d⟩:=ae d
  refine U.s rfl rfl (Ox.ri rfl rfl rfl underlying9 K rfl (.put rfl) ?_)
  have ⟨az,L,d⟩:=ae d
  refine U.cv xx (yZ T  L) ?_
  rintro _ _ _ ⟨rfl,rfl,rfl⟩
  refine vs 2 ?_
  refine er ?_
  exact A _ (au d) _ _ _ ⟨rfl,rfl,aq cg⟩
 rintro C ac Y ao ⟨rfl,rfl,F⟩ d
 refine U.sub F ?_
 refine sc d ?_ ?_<;>intro ak d
 ·refine sg aB ?_
  refine vs 1 ?_
  refine er ?_
  cases av d
  exact rt func102 (.tmp rfl .nil) sr (g _ _ _ aG)
 refine sp ?_
 refine sq ?_
 refine sg aB ?_
 refine vs 1 ?_
 refine er ?_
 refine U.aP ?_
 refine U.dy d (λ (D:Int) R' H' aa=>R=R'∧H=H'∧aA aa [(0,.string f),(3,iv D)]) (λ (S:Unit) R' H' aa=>R=R'∧H=H'∧aA aa []) 0 rfl ⟨rfl,rfl,aq cg⟩ ?_ ?_
 rotate_right
 ·rintro D ad Z ap ⟨rfl,rfl,G⟩ aC d z E Q
  refine U.sub G ?_
  refine sq ?_
  refine sg bb ?_
  refine vs 2 ?_
  refine U.s rfl rfl (Ox.pe rfl rfl underlying9 rfl (.put rfl) ?_)
  refine vs 1 ?_
  refine er ?_
  refine sc d ?_ ?_<;>intro am d
  ·refine sp ?_
   refine sq ?_
   refine U.aP ?_
   refine sg gW ?_
   refine vs 2 ?_
   have ⟨V,M,d⟩:=ae d
   refine U.s rfl rfl (Ox.ri rfl rfl rfl underlying9 M rfl (.put rfl) ?_)
   have ⟨aF,N,d⟩:=ae d
   refine U.cv xx (yZ V  N) ?_
   rintro _ _ _ ⟨rfl,rfl,rfl⟩
   refine vs 2 ?_
   refine a8 d (λ y d=>?_) (λ y d=>?_)
   ·refine U.kn 25 y ?_
    refine vs 2 ?_
    have ⟨W,O,d⟩:=ae d
    refine U.s rfl rfl (Ox.ri rfl rfl rfl underlying9 O rfl (.put rfl) ?_)
    have ⟨aH,P,d⟩:=ae d
    refine U.cv CY (Hk W  P) ?_
    rintro _ _ _ ⟨rfl,rfl,rfl⟩
    refine vs 2 ?_
    refine er ?_
    refine sc d ?_ ?_<;>intro an d
    ·refine sg aB ?_
     refine vs 1 ?_
     refine er ?_
     replace d:=Q _ (au d)
     cases av d
     exact rt func102 (.tmp rfl .nil) sr (g _ _ _ aG)
    refine sp ?_
    refine U.a0 ?_
    refine U.rg aM ?_
    refine vs 3 ?_
    refine er ?_
    exact z _ (au d) _ _ _ ⟨rfl,rfl,aq cg⟩
   refine U.kn 25 y ?_
   refine vs 6 ?_
   refine er ?_
   refine U.cond_false rfl ?_
   refine sp ?_
   refine U.a0 ?_
   refine U.rg aM ?_
   refine vs 3 ?_
   refine er ?_
   exact z _ (au d) _ _ _ ⟨rfl,rfl,aq cg⟩
  exact U.bw rfl (E _ (au d) _ _ _ ⟨rfl,rfl,cV.sub trivial⟩)
 rintro S ag ab ar ⟨rfl,rfl,I⟩ d
 refine U.sub I ?_
 refine sg aB ?_
 refine vs 1 ?_
 refine er ?_
 cases av d
 exact rt func102 (.tmp rfl .nil) sr (g _ _ _ aG)
theorem G1(A:(List Int))(x1:Int){v0:Value}(f:bE CZ 1 R H v0 A){r:Int}(d:pk A x1=some r):aL af 103 #[v0,iv x1] R H (λ v R' H'=>R=R'∧H=H'∧v=iv r):=by
 unfold pk at d
 refine aY func103 34 λ fr cs g=>?_
 refine sg aB ?_
 refine vs 1 ?_
 refine es ?_
 refine sg aB ?_
 refine vs 1 ?_
 refine er ?_
 refine U.aP ?_
 refine U.dy d (λ (z:Int) R' H' aa=>R=R'∧H=H'∧aA aa [(0,v0),(1,iv x1),(5,iv z)]) (λ (Q:Unit) R' H' aa=>R=R'∧H=H'∧aA aa []) 0 rfl ⟨rfl,rfl,aq du⟩ ?_ ?_
 rotate_right
 ·rintro z W T ap ⟨rfl,rfl,K⟩ aw d s C y
  refine U.sub K ?_
  refine sq ?_
  refine sg bb ?_
  refine vs 2 ?_
  refine lr f underlying25 ?_
  refine vs 1 ?_
  refine er ?_
  refine sc d ?_ ?_<;>intro ad d
  ·refine sp ?_
   refine sq ?_
   refine U.aP ?_
   refine sq ?_
   refine sg cX ?_
   refine vs 2 ?_
   have ⟨S,M,d⟩:=ae d
   have ⟨ax,N,d⟩:=ae d
   obtain ⟨Z,am,_,rfl,D,G⟩:=f.elem bd M
   refine bX G ?_
   refine U.ld aI ((D.sub pp).one (j:=0) rfl) ?_
   refine vs 2 ?_
   refine U.cv e6 (e8 S 0 (i64 (x1 - 1))  N) ?_
   rintro _ _ _ ⟨rfl,rfl,rfl⟩
   refine vs 1 ?_
   refine er ?_
   refine sc d ?_ ?_<;>intro ag d
   ·refine sg aB ?_
    refine vs 1 ?_
    refine er ?_
    replace d:=y _ (au d)
    cases av d
    exact rt func103 (.tmp rfl .nil) sr (g _ _ _ aG)
   refine sp ?_
   refine sq ?_
   refine U.dw ko mixed ?_
   refine Any.vs 3 [0,1,2] rfl ?_
   refine a8 d (λ m d=>?_) (λ m d=>?_)
   ·refine Any.cK (t:=22) rfl m ?_
    refine Any.vs 2 [3,4] rfl ?_
    have ⟨az,O,d⟩:=ae d
    have ⟨aC,P,d⟩:=ae d
    obtain ⟨ab,an,_,rfl,E,I⟩:=f.elem bd O
    refine tQ 5 rfl (kI I) ?_
    refine tQ 6 rfl (kA aI 0 E pp) ?_
    refine Any.vs 3 [7,8,9] rfl ?_
    obtain ⟨ac,ao,_,rfl,F,J⟩:=f.elem bd P
    refine tQ 10 rfl (kI J) ?_
    refine tQ 11 rfl (kA aI 0 F pp) ?_
    refine Any.vs 2 [12,13] rfl ?_
    refine Any.done ?_
    refine sc d ?_ ?_<;>intro ak d
    ·refine sg aB ?_
     refine vs 1 ?_
     refine er ?_
     replace d:=y _ (au d)
     cases av d
     exact rt func103 (.tmp rfl .nil) sr (g _ _ _ aG)
    refine sp ?_
    refine U.a0 ?_
    refine U.rg aM ?_
    refine vs 3 ?_
    refine er ?_
    exact s _ (au d) _ _ _ ⟨rfl,rfl,aq du⟩
   refine Any.cK (t:=22) rfl m ?_
   refine Any.vs 11 [3,4,5,6,7,8,9,10,11,12,13] rfl ?_
   refine Any.done ?_
   refine U.cond_false rfl ?_
   refine sp ?_
   refine U.a0 ?_
   refine U.rg aM ?_
   refine vs 3 ?_
   refine er ?_
   exact s _ (au d) _ _ _ ⟨rfl,rfl,aq du⟩
  exact U.bw rfl (C _ (au d) _ _ _ ⟨rfl,rfl,cV.sub trivial⟩)
 rintro Q Y V ar ⟨rfl,rfl,L⟩ d
 refine U.sub L ?_
 refine sg aB ?_
 refine vs 1 ?_
 refine er ?_
 cases av d
 exact rt func103 (.tmp rfl .nil) sr (g _ _ _ aG)
theorem I4(f:an){C D E:Value}(F:ah bz 5 R C f.ao)(_:ah CZ 1 R D f.Out)(_:ah bq 2 R E f.aV){r:Int}(d:pN f=some r):aL af 57 #[.agg #[iv f.ax,iv f.ad.ai,iv f.ad.ak,C,D,E]] R H (λ v R' H'=>R=R'∧H=H'∧v=iv r):=by
 unfold pN at d
 refine aY func57 69 λ fr cs z=>?_
 refine sg aC ?_
 refine bx λ m=>?_
 refine vs 1 ?_
 refine es ?_
 refine sg bA ?_
 refine vs 1 ?_
 refine ld 3 cZ z0 ?_
 refine ls F underlying24 ?_
 have ⟨bP,ap,d⟩:=ae d
 refine U.cv e6 (e8 (f.ao.length:Int) 1 5  ap) ?_
 rintro _ _ _ ⟨rfl,rfl,rfl⟩
 refine vs 1 ?_
 refine er ?_
 refine sc d ?_ ?_<;>intro bn d
 ·refine sg aB ?_
  refine vs 1 ?_
  refine er ?_
  cases av d
  exact rt func57 (.tmp rfl .nil) (so sr) (z _ _ _ aG)
 refine sp ?_
 refine sq ?_
 refine sg aB ?_
 refine vs 1 ?_
 refine er ?_
 refine U.aP ?_
 refine U.dy d (λ (A:Int) R' H' aa=>R=R'∧H'=(m,.cells #[iv f.ax,iv f.ad.ai,iv f.ad.ak,C,D,E] 28)::H∧aA aa [(1,pT m),(3,iv A)]) (λ (aT:Unit) R' H' aa=>R=R'∧H=H'∧aA aa []) 0 rfl ⟨rfl,rfl,aq cg⟩ ?_ ?_
 rotate_right
 ·rintro A a7 a1 bI ⟨rfl,rfl,Z⟩ bQ d O Q G
  refine U.sub Z ?_
  refine sq ?_
  refine sg bA ?_
  refine vs 2 ?_
  refine ld 3 cZ z0 ?_
  refine ls F underlying24 ?_
  refine vs 1 ?_
  refine er ?_
  refine sc d ?_ ?_<;>intro bo d
  ·refine sp ?_
   refine sq ?_
   refine U.aP ?_
   refine sg dc ?_
   refine vs 1 ?_
   refine ld 3 cZ z0 ?_
   refine vs 1 ?_
   have ⟨g,ar,d⟩:=ae d
   obtain ⟨bf,bG,_,⟨L,az,rfl⟩,T,W⟩:=F.elem fQ ar
   refine bX W ?_
   refine U.s rfl rfl (Ox.bB (vs:=[_,_,_,_,_]) rfl rfl iA rfl (T.any.part (j:=0) (n:=5) rfl) rfl (.put rfl) ?_)
   refine bu (#[.string (⟨#[]⟩),iv 0,iv 0,iv 0,aw]) qp λ y=>?_
   refine bC (#[_,_,_,_,_]) iA .here ?_
   refine es ?_
   refine sg bb ?_
   refine vs 1 ?_
   refine ld 0 lB z0 ?_
   have ⟨bS,aF,d⟩:=ae d
   refine U.cv CG (GZ g.Name  aF) ?_
   rintro _ _ _ ⟨rfl,rfl,rfl⟩
   refine vs 1 ?_
   refine er ?_
   refine sc d ?_ ?_<;>intro bp d
   ·refine sg aB ?_
    refine vs 1 ?_
    refine er ?_
    replace d:=G _ (au d)
    cases av d
    exact rt func57 (.tmp rfl .nil) (so (so sr)) (z _ _ _ aG)
   refine sp ?_
   refine sq ?_
   refine sg aB ?_
   refine vs 1 ?_
   refine er ?_
   refine U.aP ?_
   refine U.dy d (λ (N:Int) R' H' aa=>R=R'∧H'=(y,.cells #[.string g.Name,iv g.dR,iv g.Weight.ai,iv g.Weight.ak,L] 105)::(m,.cells #[iv f.ax,iv f.ad.ai,iv f.ad.ak,C,D,E] 28)::H∧aA aa [(1,pT m),(3,iv A),(4,pT y),(5,iv N)]) (λ (aU:Unit) R' H' aa=>R=R'∧H'=(y,.cells #[.string g.Name,iv g.dR,iv g.Weight.ai,iv g.Weight.ak,L] 105)::(m,.cells #[iv f.ax,iv f.ad.ai,iv f.ad.ak,C,D,E] 28)::H∧aA aa [(1,pT m),(3,iv A),(4,pT y)]) 2 rfl ⟨rfl,rfl,aq bt⟩ ?_ ?_
   rotate_right
   ·rintro N ba a4 bL ⟨rfl,rfl,ac⟩ bT d P S aO
    refine U.sub ac ?_
    refine sq ?_
    refine sg aM ?_
    refine vs 3 ?_
    refine er ?_
    refine sc d ?_ ?_<;>intro br d
    ·refine sp ?_
     refine sq ?_
     refine U.aP ?_
     refine sq ?_
     refine U.dw dW mixed ?_
     refine Any.vs 1 [0] rfl ?_
     refine tl 1 3 cZ z1 ?_
     refine Any.vs 1 [2] rfl ?_
     have ⟨bU,aH,d⟩:=ae d
     obtain ⟨bg,bH,_,⟨bO,bF,rfl⟩,V,Y⟩:=F.elem fQ aH
     refine tQ 3 rfl (kI Y) ?_
     refine Any.vs 1 [4] rfl ?_
     refine tQ 5 rfl (kU lB 0 V) ?_
     refine Any.vs 1 [6] rfl ?_
     refine tl 7 0 lB z0 ?_
     refine Any.tk 8 rfl pp (λ R' H' bk bm=>Ox.xi rfl rfl rfl rfl rfl (.one rfl) aG) ?_
     refine Any.done ?_
     refine sc d ?_ ?_<;>intro bs d
     ·refine sg aB ?_
      refine vs 1 ?_
      refine er ?_
      replace d:=aO _ (au d)
      replace d:=G _ (au d)
      cases av d
      exact rt func57 (.tmp rfl .nil) (so (so sr)) (z _ _ _ aG)
     refine sp ?_
     refine U.a0 ?_
     refine U.rg aM ?_
     refine vs 3 ?_
     refine er ?_
     exact P _ (au d) _ _ _ ⟨rfl,rfl,aq bt⟩
    exact U.bw rfl (S _ (au d) _ _ _ ⟨rfl,rfl,aq du⟩)
   rintro aU bd a5 bM ⟨rfl,rfl,ag⟩ d
   refine U.sub ag ?_
   refine sq ?_
   refine sq ?_
   refine U.da d (λ (M:Bool) R' H' aa=>R=R'∧H'=(y,.cells #[.string g.Name,iv g.dR,iv g.Weight.ai,iv g.Weight.ak,L] 105)::(m,.cells #[iv f.ax,iv f.ad.ai,iv f.ad.ak,C,D,E] 28)::H∧aA aa [(1,pT m),(3,iv A),(4,pT y),(61,.bool M)])  ?_ ?_
   rotate_right
   ·intro bV d I
    refine U.rg vl ?_
    refine vs 1 ?_
    refine ld 1 aI z0 ?_
    have ⟨bW,aJ,d⟩:=ae d
    refine U.cv e6 (e8 g.dR (-9) 9  aJ) ?_
    rintro _ _ _ ⟨rfl,rfl,rfl⟩
    refine vs 2 ?_
    refine a8 d (λ J d=>?_) (λ J d=>?_)
    ·refine U.kn 46 J ?_
     refine vs 15 ?_
     refine er ?_
     exact I _ (au d) _ _ _ ⟨rfl,rfl,aq bt⟩
    refine U.kn 46 J ?_
    refine vs 1 ?_
    refine lN [_,_] 2 2 cB z0 ?_
    have ⟨bY,aK,d⟩:=ae d
    refine U.cv tA (uF g.Weight 1 99  aK) ?_
    rintro _ _ _ ⟨rfl,rfl,rfl⟩
    refine vs 3 ?_
    refine a8 d (λ K d=>?_) (λ K d=>?_)
    ·refine U.kn 52 K ?_
     refine vs 9 ?_
     refine er ?_
     exact I _ (au d) _ _ _ ⟨rfl,rfl,aq bt⟩
    refine U.kn 52 K ?_
    refine vs 2 ?_
    refine ld 3 aI z0 ?_
    refine vs 2 ?_
    refine ld 2 aI z0 ?_
    refine vs 3 ?_
    refine er ?_
    exact I _ (au d) _ _ _ ⟨rfl,rfl,aq bt⟩
   rintro M be a6 bN ⟨rfl,rfl,am⟩ d
   refine U.sub am ?_
   refine sc d ?_ ?_<;>intro bv d
   ·refine sg aB ?_
    refine vs 1 ?_
    refine er ?_
    replace d:=G _ (au d)
    cases av d
    exact rt func57 (.tmp rfl .nil) (so (so sr)) (z _ _ _ aG)
   refine sp ?_
   refine sg bA ?_
   refine vs 1 ?_
   refine ld 4 cb z0 ?_
   refine vs 1 ?_
   have ⟨b1,aN,d⟩:=ae d
   refine U.cv CH (G1 g.On A az.rd aN) ?_
   rintro _ _ _ ⟨rfl,rfl,rfl⟩
   refine vs 1 ?_
   refine nx aC ?_
   refine vs 2 ?_
   refine er ?_
   refine sc d ?_ ?_<;>intro bD d
   ·refine sg aC ?_
    refine vs 2 ?_
    refine er ?_
    replace d:=G _ (au d)
    cases av d
    exact rt func57 (.tmp rfl .nil) (so (so sr)) (z _ _ _ aG)
   refine sp ?_
   refine U.a0 ?_
   refine U.rg aM ?_
   refine vs 3 ?_
   refine er ?_
   exact U.aR (so sr) (O _ (au d) _ _ _ ⟨rfl,rfl,aq cg⟩)
  exact U.bw rfl (U.aR (so sr) (Q _ (au d) _ _ _ ⟨rfl,rfl,cV.sub trivial⟩))
 rintro aT a9 a2 bJ ⟨rfl,rfl,ab⟩ d
 refine U.sub ab ?_
 refine sg aB ?_
 refine vs 1 ?_
 refine er ?_
 cases av d
 exact rt func57 (.tmp rfl .nil) sr (z _ _ _ aG)
theorem kR(s:(List Int))(x1:Int){v0:Value}(f:bE CZ 1 R H v0 s){r:Bool}(d:gE s x1=some r):aL af 11 #[v0,iv x1] R H (λ v R' H'=>R=R'∧H=H'∧v = .bool r):=by
 unfold gE at d
 refine aY func11 18 λ fr cs g=>?_
 refine sg aB ?_
 refine vs 1 ?_
 refine es ?_
 refine sg aB ?_
 refine vs 1 ?_
 refine er ?_
 refine U.aP ?_
 refine U.dy d (λ (m:Int) R' H' aa=>R=R'∧H=H'∧aA aa [(0,v0),(1,iv x1),(5,iv m)]) (λ (I:Unit) R' H' aa=>R=R'∧H=H'∧aA aa []) 0 rfl ⟨rfl,rfl,aq du⟩ ?_ ?_
 rotate_right
 ·rintro m L J S ⟨rfl,rfl,D⟩ V d y z G
  refine U.sub D ?_
  refine sq ?_
  refine sg bb ?_
  refine vs 2 ?_
  refine lr f underlying25 ?_
  refine vs 1 ?_
  refine er ?_
  refine sc d ?_ ?_<;>intro O d
  ·refine sp ?_
   refine sq ?_
   refine U.aP ?_
   refine sg b4 ?_
   refine vs 2 ?_
   have ⟨W,F,d⟩:=ae d
   obtain ⟨N,Q,_,rfl,A,C⟩:=f.elem bd F
   refine bX C ?_
   refine U.ld aI ((A.sub pp).one (j:=0) rfl) ?_
   refine vs 2 ?_
   refine er ?_
   refine sc d ?_ ?_<;>intro P d
   ·refine sg aB ?_
    refine vs 1 ?_
    refine er ?_
    replace d:=G _ (au d)
    cases av d
    exact rt func11 (.tmp rfl .nil) sr (g _ _ _ aG)
   refine sp ?_
   refine U.a0 ?_
   refine U.rg aM ?_
   refine vs 3 ?_
   refine er ?_
   exact y _ (au d) _ _ _ ⟨rfl,rfl,aq du⟩
  exact U.bw rfl (z _ (au d) _ _ _ ⟨rfl,rfl,cV.sub trivial⟩)
 rintro I M K T ⟨rfl,rfl,E⟩ d
 refine U.sub E ?_
 refine sg aB ?_
 refine vs 1 ?_
 refine er ?_
 cases av d
 exact rt func11 (.tmp rfl .nil) sr (g _ _ _ aG)
theorem G3(d:an)(x1:Int){g m s:Value}(y:ah bz 5 R g d.ao)(_:ah CZ 1 R m d.Out)(_:ah bq 2 R s d.aV){r:Bool}(f:nC d x1=some r):aL af 104 #[.agg #[iv d.ax,iv d.ad.ai,iv d.ad.ak,g,m,s],iv x1] R H (λ v R' H'=>R=R'∧H=H'∧v = .bool r):=by
 unfold nC at f
 refine aY func104 11 λ fr cs z=>?_
 refine sg aC ?_
 refine bx λ C=>?_
 refine vs 1 ?_
 refine nx dc ?_
 refine vs 2 ?_
 refine ld 3 cZ z0 ?_
 refine ls y underlying24 ?_
 refine vs 1 ?_
 have ⟨F,A,f⟩:=ae f
 refine U.cv e6 (e8 x1 0 (i64 ((d.ao.length:Int) - 1))  A) ?_
 rintro _ _ _ ⟨rfl,rfl,rfl⟩
 refine vs 1 ?_
 refine er ?_
 cases av f
 exact rt func104 (.tmp rfl .nil) (so sr) (z _ _ _ aG)
theorem yP(f:an)(x1:(List Int))(x2:Int){y z A v1:Value}(D:ah bz 5 R y f.ao)(_:ah CZ 1 R z f.Out)(_:ah bq 2 R A f.aV)(E:bE CZ 1 R H v1 x1){r:Bool}(d:md f x1 x2=some r):aL af 105 #[.agg #[iv f.ax,iv f.ad.ai,iv f.ad.ak,y,z,A],v1,iv x2] R H (λ v R' H'=>R=R'∧H=H'∧v = .bool r):=by
 unfold md at d
 refine aY func105 32 λ fr cs g=>?_
 refine sg aC ?_
 refine bx λ gx=>?_
 refine vs 1 ?_
 refine es ?_
 refine sg aM ?_
 refine vs 2 ?_
 have ⟨aI,L,d⟩:=ae d
 refine U.cv kF (kR x1 x2 (E.sub (su (so sr))) L) ?_
 rintro _ _ _ ⟨rfl,rfl,rfl⟩
 refine er ?_
 refine sc d ?_ ?_<;>intro am d
 ·refine sg aB ?_
  refine vs 1 ?_
  refine er ?_
  cases av d
  exact rt func105 (.tmp rfl .nil) (so sr) (g _ _ _ aG)
 refine sp ?_
 refine sq ?_
 refine sg aB ?_
 refine vs 1 ?_
 refine er ?_
 refine U.aP ?_
 refine U.dy d (λ (s:Int) R' H' aa=>R=R'∧H'=(gx,.cells #[iv f.ax,iv f.ad.ai,iv f.ad.ak,y,z,A] 28)::H∧aA aa [(1,v1),(2,iv x2),(3,pT gx),(7,iv s)]) (λ (S:Unit) R' H' aa=>R=R'∧H=H'∧aA aa []) 0 rfl ⟨rfl,rfl,aq bt⟩ ?_ ?_
 rotate_right
 ·rintro s Y V az ⟨rfl,rfl,J⟩ aJ d C F Q
  refine U.sub J ?_
  refine sq ?_
  refine sg bA ?_
  refine vs 2 ?_
  refine ld 3 cZ z0 ?_
  refine ls D underlying24 ?_
  refine vs 1 ?_
  refine er ?_
  refine sc d ?_ ?_<;>intro ap d
  ·refine sp ?_
   refine sq ?_
   refine U.aP ?_
   refine sg ko ?_
   refine vs 2 ?_
   have ⟨aK,M,d⟩:=ae d
   refine U.cv kF (kR x1 s (E.sub (su (so sr))) M) ?_
   rintro _ _ _ ⟨rfl,rfl,rfl⟩
   refine vs 2 ?_
   refine a8 d (λ m d=>?_) (λ m d=>?_)
   ·refine U.kn 22 m ?_
    refine vs 1 ?_
    refine ld 3 cZ z0 ?_
    refine vs 1 ?_
    have ⟨T,N,d⟩:=ae d
    have ⟨aN,P,d⟩:=ae d
    obtain ⟨ab,aw,_,⟨aH,O,rfl⟩,G,I⟩:=D.elem fQ N
    refine bX I ?_
    refine vs 1 ?_
    refine U.ld cb (G.any.one (j:=4) rfl) ?_
    refine vs 1 ?_
    refine U.cv kF (kR T.On x2 O.rd P) ?_
    rintro _ _ _ ⟨rfl,rfl,rfl⟩
    refine vs 1 ?_
    refine er ?_
    refine sc d ?_ ?_<;>intro ar d
    ·refine sg aB ?_
     refine vs 1 ?_
     refine er ?_
     replace d:=Q _ (au d)
     cases av d
     exact rt func105 (.tmp rfl .nil) (so sr) (g _ _ _ aG)
    refine sp ?_
    refine U.a0 ?_
    refine U.rg aM ?_
    refine vs 3 ?_
    refine er ?_
    exact C _ (au d) _ _ _ ⟨rfl,rfl,aq bt⟩
   refine U.kn 22 m ?_
   refine vs 9 ?_
   refine er ?_
   refine U.cond_false rfl ?_
   refine sp ?_
   refine U.a0 ?_
   refine U.rg aM ?_
   refine vs 3 ?_
   refine er ?_
   exact C _ (au d) _ _ _ ⟨rfl,rfl,aq bt⟩
  exact U.bw rfl (U.aR (so sr) (F _ (au d) _ _ _ ⟨rfl,rfl,cV.sub trivial⟩))
 rintro S Z W aF ⟨rfl,rfl,K⟩ d
 refine U.sub K ?_
 refine sg aB ?_
 refine vs 1 ?_
 refine er ?_
 cases av d
 exact rt func105 (.tmp rfl .nil) sr (g _ _ _ aG)
theorem I6(f:an)(x1:(List Int))(x2:(List Int)){E F G v1 v2:Value}(J:ah bz 5 R E f.ao)(L:ah CZ 1 R F f.Out)(M:ah bq 2 R G f.aV)(T:bE CZ 1 R H v1 x1)(g:bE CZ 1 R H v2 x2){r:Int}(d:pO f x1 x2=some r):aL af 58 #[.agg #[iv f.ax,iv f.ad.ai,iv f.ad.ak,E,F,G],v1,v2] R H (λ v R' H'=>R=R'∧H=H'∧v=iv r):=by
 unfold pO at d
 refine aY func58 46 λ fr cs z=>?_
 refine sg aC ?_
 refine bx λ y=>?_
 refine vs 1 ?_
 refine nx bb ?_
 refine dt (#[]) cw qG λ bm=>?_
 refine vs 1 ?_
 have ⟨bO,a4,d⟩:=ae d
 refine U.s rfl rfl (Ox.append (K:=CZ) (λ X=>X++((y,_)::H)) rfl rfl rfl eh underlying25 (by simp) .id (aX.lit (aO.le aO.nil rfl) rfl) (T.sub (su (so (so sr)))).arg a4 rfl λ a8 O ar=>⟨_,(.put rfl),?_⟩)
 refine vs 1 ?_
 refine es ?_
 refine sg aB ?_
 refine vs 1 ?_
 refine er ?_
 refine U.aP ?_
 refine U.dy d (λ (m:((List Int) × Int)) R' H' aa=>R=R'∧∃ I A,aX CZ 1 3 R' I m.1 A∧H'=A++((y,.cells #[iv f.ax,iv f.ad.ai,iv f.ad.ak,E,F,G] 28)::H)∧aA aa [(2,v2),(3,pT y),(7,I),(8,iv m.2)]) (λ (a5:Unit) R' H' aa=>R=R'∧H=H'∧aA aa []) 0 rfl ⟨rfl,a8,O,ar,rfl,aq bt⟩ ?_ ?_
 rotate_right
 ·rintro m bi bg bG ⟨rfl,I,A,C,rfl,aw⟩ bP d P S D
  refine U.sub aw ?_
  refine sq ?_
  refine sg bb ?_
  refine vs 2 ?_
  refine lr g underlying25 ?_
  refine vs 1 ?_
  refine er ?_
  refine sc d ?_ ?_<;>intro bs d
  ·refine sp ?_
   refine sq ?_
   refine U.aP ?_
   refine sq ?_
   refine sq ?_
   refine U.dw dc mixed ?_
   refine tN 0 [_,_,_,_,_,_] 0 6 a7 (bH _ z0) ?_
   refine Any.vs 2 [1,2] rfl ?_
   have ⟨a9,aH,d⟩:=ae d
   have ⟨bJ,aJ,d⟩:=ae d
   obtain ⟨bn,bB,_,rfl,V,ab⟩:=g.elem bd aH
   refine tQ 3 rfl (kI ab) ?_
   refine tQ 4 rfl (kA aI 0 V (su (az (so sr)))) ?_
   refine Any.cv 5 CJ (G3 f a9 J L M aJ) ?_
   rintro _ _ _ ⟨rfl,rfl,rfl⟩
   refine kp ?_
   refine Any.vs 1 [6] rfl ?_
   refine Any.done ?_
   refine sc d ?_ ?_<;>intro bu d
   ·refine sg aB ?_
    refine vs 1 ?_
    refine er ?_
    replace d:=D _ (au d)
    cases av d
    exact rt func58 (.tmp rfl .nil) (az (so sr)) (z _ _ _ aG)
   refine sp ?_
   refine sq ?_
   refine sg b4 ?_
   refine vs 3 ?_
   have ⟨ba,aK,d⟩:=ae d
   have ⟨bL,aN,d⟩:=ae d
   obtain ⟨bo,bC,_,rfl,W,ac⟩:=g.elem bd aK
   refine bX ac ?_
   refine U.ld aI ((W.sub (su (az (so sr)))).one (j:=0) rfl) ?_
   refine U.cv kF (kR m.1 ba (C.rd (λ _ h=>(bT _ h))) aN) ?_
   rintro _ _ _ ⟨rfl,rfl,rfl⟩
   refine er ?_
   refine sc d ?_ ?_<;>intro bv d
   ·refine sg aB ?_
    refine vs 1 ?_
    refine er ?_
    replace d:=D _ (au d)
    cases av d
    exact rt func58 (.tmp rfl .nil) (az (so sr)) (z _ _ _ aG)
   refine sp ?_
   refine sq ?_
   refine sq ?_
   refine U.dw cX mixed ?_
   refine tN 0 [_,_,_,_,_,_] 0 6 a7 (bH _ z0) ?_
   refine Any.vs 3 [1,2,3] rfl ?_
   have ⟨be,aT,d⟩:=ae d
   have ⟨bM,aU,d⟩:=ae d
   obtain ⟨bp,bD,_,rfl,Y,ag⟩:=g.elem bd aT
   refine tQ 4 rfl (kI ag) ?_
   refine tQ 5 rfl (kA aI 0 Y (su (az (so sr)))) ?_
   refine Any.cv 6 xq (yP f m.1 be J L M (C.rd (λ _ h=>(bT _ h))) aU) ?_
   rintro _ _ _ ⟨rfl,rfl,rfl⟩
   refine kp ?_
   refine Any.vs 1 [7] rfl ?_
   refine Any.done ?_
   refine sc d ?_ ?_<;>intro bA d
   ·refine sg aB ?_
    refine vs 1 ?_
    refine er ?_
    replace d:=D _ (au d)
    cases av d
    exact rt func58 (.tmp rfl .nil) (az (so sr)) (z _ _ _ aG)
   refine sp ?_
   refine U.rg cX ?_
   refine vs 3 ?_
   have ⟨bf,a1,d⟩:=ae d
   have ⟨bN,a2,d⟩:=ae d
   obtain ⟨br,bF,_,rfl,Z,am⟩:=g.elem bd a1
   refine bX am ?_
   refine U.ld aI ((Z.sub (su (az (so sr)))).one (j:=0) rfl) ?_
   refine dt (#[_]) cw c7 λ Q=>?_
   refine U.s rfl rfl (Ox.append (K:=CZ) (λ X=>(Q,_)::X++((y,_)::H)) rfl rfl rfl eh underlying25 (by simp) (.cons .id) C (eB bf rfl) a2 rfl λ a6 N ap=>⟨_,(.put rfl),?_⟩)
   refine vs 1 ?_
   refine er ?_
   refine U.a0 ?_
   refine U.rg aM ?_
   refine vs 3 ?_
   refine er ?_
   exact U.aR (so sr) (P _ (au d) _ _ _ ⟨rfl,a6,N,ap,rfl,aq bt⟩)
  exact U.bw rfl (U.aR (az (so sr)) (S _ (au d) _ _ _ ⟨rfl,rfl,cV.sub trivial⟩))
 rintro a5 bk bh bI ⟨rfl,rfl,aF⟩ d
 refine U.sub aF ?_
 refine sg aB ?_
 refine vs 1 ?_
 refine er ?_
 cases av d
 exact rt func58 (.tmp rfl .nil) sr (z _ _ _ aG)
theorem ux(f:an){z A C:Value}(G:ah bz 5 R z f.ao)(y:ah CZ 1 R A f.Out)(m:ah bq 2 R C f.aV){r:Int}(d:mm f=some r):aL af 15 #[.agg #[iv f.ax,iv f.ad.ai,iv f.ad.ak,z,A,C]] R H (λ v R' H'=>R=R'∧H=H'∧v=iv r):=by
 unfold mm at d
 refine aY func15 68 λ fr cs g=>?_
 refine sg aC ?_
 refine bx λ s=>?_
 refine vs 1 ?_
 refine es ?_
 refine sq ?_
 refine U.da d (λ (J:Bool) R' H' aa=>R=R'∧H'=(s,.cells #[iv f.ax,iv f.ad.ai,iv f.ad.ak,z,A,C] 28)::H∧aA aa [(1,pT s),(25,.bool J)])  ?_ ?_
 rotate_right
 ·intro br d D
  refine U.rg vl ?_
  refine vs 1 ?_
  refine ld 0 aI z0 ?_
  have ⟨bs,am,d⟩:=ae d
  refine U.cv e6 (e8 f.ax 0 9999  am) ?_
  rintro _ _ _ ⟨rfl,rfl,rfl⟩
  refine vs 2 ?_
  refine a8 d (λ E d=>?_) (λ E d=>?_)
  ·refine U.kn 10 E ?_
   refine vs 15 ?_
   refine er ?_
   exact D _ (au d) _ _ _ ⟨rfl,rfl,aq cg⟩
  refine U.kn 10 E ?_
  refine vs 1 ?_
  refine lN [_,_] 1 2 cB z0 ?_
  have ⟨bt,ap,d⟩:=ae d
  refine U.cv tA (uF f.ad (-999) 999  ap) ?_
  rintro _ _ _ ⟨rfl,rfl,rfl⟩
  refine vs 3 ?_
  refine a8 d (λ F d=>?_) (λ F d=>?_)
  ·refine U.kn 16 F ?_
   refine vs 9 ?_
   refine er ?_
   exact D _ (au d) _ _ _ ⟨rfl,rfl,aq cg⟩
  refine U.kn 16 F ?_
  refine vs 2 ?_
  refine ld 2 aI z0 ?_
  refine vs 2 ?_
  refine ld 1 aI z0 ?_
  refine vs 3 ?_
  refine er ?_
  exact D _ (au d) _ _ _ ⟨rfl,rfl,aq cg⟩
 rintro J aU aN bm ⟨rfl,rfl,Y⟩ d
 refine U.sub Y ?_
 refine sc d ?_ ?_<;>intro bd d
 ·refine sg aB ?_
  refine vs 1 ?_
  refine er ?_
  cases av d
  exact rt func15 (.tmp rfl .nil) (so sr) (g _ _ _ aG)
 refine sp ?_
 refine sq ?_
 refine sg aM ?_
 refine lN [_,_,_,_,_,_] 0 6 a7 z0 ?_
 have ⟨bu,ar,d⟩:=ae d
 refine U.cv Ee (I4 f G y m ar) ?_
 rintro _ _ _ ⟨rfl,rfl,rfl⟩
 refine vs 1 ?_
 refine nx aC ?_
 refine vs 2 ?_
 refine er ?_
 refine sc d ?_ ?_<;>intro be d
 ·refine sg aC ?_
  refine vs 2 ?_
  refine er ?_
  cases av d
  exact rt func15 (.tmp rfl .nil) (so sr) (g _ _ _ aG)
 refine sp ?_
 refine sq ?_
 refine sg bA ?_
 refine lN [_,_,_,_,_,_] 0 6 a7 z0 ?_
 refine vs 1 ?_
 refine ld 4 cb z0 ?_
 have ⟨bv,aw,d⟩:=ae d
 refine U.cv Ef (I6 f [] f.Out G y m ah.nil.rd y.rd aw) ?_
 rintro _ _ _ ⟨rfl,rfl,rfl⟩
 refine vs 1 ?_
 refine nx aC ?_
 refine vs 2 ?_
 refine er ?_
 refine sc d ?_ ?_<;>intro bf d
 ·refine sg aC ?_
  refine vs 2 ?_
  refine er ?_
  cases av d
  exact rt func15 (.tmp rfl .nil) (so sr) (g _ _ _ aG)
 refine sp ?_
 refine sq ?_
 refine sg bb ?_
 refine vs 1 ?_
 refine ld 5 ei z0 ?_
 refine ls m underlying26 ?_
 refine vs 1 ?_
 refine er ?_
 refine sc d ?_ ?_<;>intro a5 d
 ·refine sg aB ?_
  refine vs 1 ?_
  refine er ?_
  cases av d
  exact rt func15 (.tmp rfl .nil) (so sr) (g _ _ _ aG)
 refine sp ?_
 refine sq ?_
 refine sg aB ?_
 refine vs 1 ?_
 refine er ?_
 refine U.aP ?_
 refine U.dy d (λ (L:Int) R' H' aa=>R=R'∧H'=(s,.cells #[iv f.ax,iv f.ad.ai,iv f.ad.ak,z,A,C] 28)::H∧aA aa [(1,pT s),(5,iv L)]) (λ (az:Unit) R' H' aa=>R=R'∧H=H'∧aA aa []) 0 rfl ⟨rfl,rfl,aq cg⟩ ?_ ?_
 rotate_right
 ·rintro L aO aJ bi ⟨rfl,rfl,V⟩ bn d M N I
  refine U.sub V ?_
  refine sq ?_
  refine sg bA ?_
  refine vs 2 ?_
  refine ld 5 ei z0 ?_
  refine ls m underlying26 ?_
  refine vs 1 ?_
  refine er ?_
  refine sc d ?_ ?_<;>intro a6 d
  ·refine sp ?_
   refine sq ?_
   refine U.aP ?_
   refine sq ?_
   refine sq ?_
   refine U.dw hW mixed ?_
   refine Any.vs 1 [0] rfl ?_
   refine tl 1 5 ei z0 ?_
   refine Any.vs 1 [2] rfl ?_
   have ⟨aF,Z,d⟩:=ae d
   have ⟨bo,ab,d⟩:=ae d
   obtain ⟨a1,bg,_,rfl,P,S⟩:=m.elem ow Z
   refine tQ 3 rfl (kI S) ?_
   refine Any.vs 1 [4] rfl ?_
   refine tQ 5 rfl (kU aI 0 P) ?_
   refine Any.vs 1 [6] rfl ?_
   refine tl 7 4 cb z0 ?_
   refine Any.tk 8 rfl pp (λ R' H' O a4=>Ox.iM (K:=CZ) (k:=1) (xs:=f.Out) rfl rfl (y.mono O) underlying25 rfl (.one rfl) aG) ?_
   refine Any.cv 9 e6 (e8 aF.cT 0 (f.Out.length:Int)  ab) ?_
   rintro _ _ _ ⟨rfl,rfl,rfl⟩
   refine kp ?_
   refine Any.vs 1 [10] rfl ?_
   refine Any.done ?_
   refine sc d ?_ ?_<;>intro a9 d
   ·refine sg aB ?_
    refine vs 1 ?_
    refine er ?_
    replace d:=I _ (au d)
    cases av d
    exact rt func15 (.tmp rfl .nil) (so sr) (g _ _ _ aG)
   refine sp ?_
   refine sg cX ?_
   refine vs 1 ?_
   refine ld 5 ei z0 ?_
   refine vs 1 ?_
   have ⟨aH,ac,d⟩:=ae d
   have ⟨bp,ag,d⟩:=ae d
   obtain ⟨a2,bh,_,rfl,Q,T⟩:=m.elem ow ac
   refine bX T ?_
   refine vs 1 ?_
   refine U.ld rU (Q.any.one (j:=1) rfl) ?_
   refine U.cv e6 (e8 aH.dZ 0 2  ag) ?_
   rintro _ _ _ ⟨rfl,rfl,rfl⟩
   refine vs 1 ?_
   refine er ?_
   refine sc d ?_ ?_<;>intro ba d
   ·refine sg aB ?_
    refine vs 1 ?_
    refine er ?_
    replace d:=I _ (au d)
    cases av d
    exact rt func15 (.tmp rfl .nil) (so sr) (g _ _ _ aG)
   refine sp ?_
   refine U.a0 ?_
   refine U.rg aM ?_
   refine vs 3 ?_
   refine er ?_
   exact M _ (au d) _ _ _ ⟨rfl,rfl,aq cg⟩
  exact U.bw rfl (U.aR (so sr) (N _ (au d) _ _ _ ⟨rfl,rfl,cV.sub trivial⟩))
 rintro az aT aK bk ⟨rfl,rfl,W⟩ d
 refine U.sub W ?_
 refine sg aB ?_
 refine vs 1 ?_
 refine er ?_
 cases av d
 exact rt func15 (.tmp rfl .nil) sr (g _ _ _ aG)
theorem ID(f:an){z A C:Value}(g:ah bz 5 R z f.ao)(S:ah CZ 1 R A f.Out)(T:ah bq 2 R C f.aV){r:Bool}(d:pG f=some r):aL af 19 #[.agg #[iv f.ax,iv f.ad.ai,iv f.ad.ak,z,A,C]] R H (λ v R' H'=>R=R'∧H=H'∧v = .bool r):=by
 unfold pG at d
 refine aY func19 45 λ fr cs y=>?_
 refine sg aC ?_
 refine bx λ m=>?_
 refine vs 1 ?_
 refine es ?_
 refine sq ?_
 refine U.da d (λ (M:Bool) R' H' aa=>R=R'∧H'=(m,.cells #[iv f.ax,iv f.ad.ai,iv f.ad.ak,z,A,C] 28)::H∧aA aa [(1,pT m),(19,.bool M)])  ?_ ?_
 rotate_right
 ·intro a7 d D
  refine U.rg vk ?_
  refine vs 1 ?_
  refine ld 3 cZ z0 ?_
  refine ls g underlying24 ?_
  refine vs 2 ?_
  refine a8 d (λ G d=>?_) (λ G d=>?_)
  ·refine U.kn 8 G ?_
   refine vs 11 ?_
   refine er ?_
   exact D _ (au d) _ _ _ ⟨rfl,rfl,aq cg⟩
  refine U.kn 8 G ?_
  refine vs 1 ?_
  refine ld 4 cb z0 ?_
  refine ls S underlying25 ?_
  refine vs 3 ?_
  refine a8 d (λ I d=>?_) (λ I d=>?_)
  ·refine U.kn 14 I ?_
   refine vs 5 ?_
   refine er ?_
   exact D _ (au d) _ _ _ ⟨rfl,rfl,aq cg⟩
  refine U.kn 14 I ?_
  refine vs 1 ?_
  refine ld 5 ei z0 ?_
  refine ls T underlying26 ?_
  refine vs 2 ?_
  refine er ?_
  exact D _ (au d) _ _ _ ⟨rfl,rfl,aq cg⟩
 rintro M aI az a2 ⟨rfl,rfl,Y⟩ d
 refine U.sub Y ?_
 refine sc d ?_ ?_<;>intro aO d
 ·refine sg aB ?_
  refine vs 1 ?_
  refine er ?_
  cases av d
  exact rt func19 (.tmp rfl .nil) (so sr) (y _ _ _ aG)
 refine sp ?_
 refine sq ?_
 refine sg aB ?_
 refine vs 1 ?_
 refine er ?_
 refine U.aP ?_
 refine U.dy d (λ (N:Int) R' H' aa=>R=R'∧H'=(m,.cells #[iv f.ax,iv f.ad.ai,iv f.ad.ak,z,A,C] 28)::H∧aA aa [(1,pT m),(3,iv N)]) (λ (ar:Unit) R' H' aa=>R=R'∧H=H'∧aA aa []) 0 rfl ⟨rfl,rfl,aq cg⟩ ?_ ?_
 rotate_right
 ·rintro N aJ aF a4 ⟨rfl,rfl,Z⟩ a9 d O Q L
  refine U.sub Z ?_
  refine sq ?_
  refine sg bA ?_
  refine vs 2 ?_
  refine ld 3 cZ z0 ?_
  refine ls g underlying24 ?_
  refine vs 1 ?_
  refine er ?_
  refine sc d ?_ ?_<;>intro aT d
  ·refine sp ?_
   refine sq ?_
   refine U.aP ?_
   refine sg rY ?_
   refine vs 1 ?_
   refine ld 3 cZ z0 ?_
   refine vs 1 ?_
   have ⟨ba,K,d⟩:=ae d
   refine a8 d (λ J d=>?_) (λ J d=>?_)
   ·obtain ⟨P,ap,_,⟨aw,ac,rfl⟩,E,F⟩:=g.elem fQ K
    refine bX F ?_
    refine vs 1 ?_
    refine U.ld lB (E.any.one (j:=0) rfl) ?_
    refine U.s rfl rfl (Ox.pe rfl rfl underlying9 rfl (.put rfl) ?_)
    refine vs 2 ?_
    refine U.kn 35 J ?_
    refine vs 9 ?_
    refine er ?_
    refine U.cond_true rfl ?_
    refine sg aB ?_
    refine vs 1 ?_
    refine er ?_
    replace d:=L _ (au d)
    cases av d
    exact rt func19 (.tmp rfl .nil) (so sr) (y _ _ _ aG)
   have ⟨bb,ag,d⟩:=ae d
   obtain ⟨P,ap,_,⟨aw,ac,rfl⟩,E,F⟩:=g.elem fQ K
   refine bX F ?_
   refine vs 1 ?_
   refine U.ld lB (E.any.one (j:=0) rfl) ?_
   refine U.s rfl rfl (Ox.pe rfl rfl underlying9 rfl (.put rfl) ?_)
   refine vs 2 ?_
   refine U.kn 35 J ?_
   refine vs 1 ?_
   refine ld 3 cZ z0 ?_
   refine vs 1 ?_
   obtain ⟨aN,a1,_,⟨a6,am,rfl⟩,V,W⟩:=g.elem fQ ag
   refine bX W ?_
   refine vs 1 ?_
   refine U.ld cb (V.any.one (j:=4) rfl) ?_
   refine ls am underlying25 ?_
   refine vs 2 ?_
   refine er ?_
   refine sc d ?_ ?_<;>intro aU d
   ·refine sg aB ?_
    refine vs 1 ?_
    refine er ?_
    replace d:=L _ (au d)
    cases av d
    exact rt func19 (.tmp rfl .nil) (so sr) (y _ _ _ aG)
   refine sp ?_
   refine U.a0 ?_
   refine U.rg aM ?_
   refine vs 3 ?_
   refine er ?_
   exact O _ (au d) _ _ _ ⟨rfl,rfl,aq cg⟩
  exact U.bw rfl (U.aR (so sr) (Q _ (au d) _ _ _ ⟨rfl,rfl,cV.sub trivial⟩))
 rintro ar aK aH a5 ⟨rfl,rfl,ab⟩ d
 refine U.sub ab ?_
 refine sg aB ?_
 refine vs 1 ?_
 refine er ?_
 cases av d
 exact rt func19 (.tmp rfl .nil) sr (y _ _ _ aG)
theorem IY(f:an){A C D:Value}(m:ah bz 5 R A f.ao)(s:ah CZ 1 R C f.Out)(y:ah bq 2 R D f.aV){r:Bool}(d:m4 f=some r):aL af 4 #[.agg #[iv f.ax,iv f.ad.ai,iv f.ad.ak,A,C,D]] R H (λ v R' H'=>R=R'∧H=H'∧v = .bool r):=by
 unfold m4 at d
 refine aY func4 11 λ fr cs z=>?_
 refine sg aC ?_
 refine bx λ G=>?_
 refine vs 1 ?_
 refine nx dW ?_
 refine lN [_,_,_,_,_,_] 0 6 a7 z0 ?_
 have ⟨I,E,d⟩:=ae d
 refine U.cv DL (ID f m s y E) ?_
 rintro _ _ _ ⟨rfl,rfl,rfl⟩
 refine vs 2 ?_
 refine a8 d (λ g d=>?_) (λ g d=>?_)
 ·refine U.kn 6 g ?_
  refine lN [_,_,_,_,_,_] 0 6 a7 z0 ?_
  have ⟨J,F,d⟩:=ae d
  refine U.cv tm (ux f m s y F) ?_
  rintro _ _ _ ⟨rfl,rfl,rfl⟩
  refine vs 3 ?_
  refine er ?_
  cases av d
  exact rt func4 (.tmp rfl .nil) (so sr) (z _ _ _ aG)
 refine U.kn 6 g ?_
 refine vs 5 ?_
 refine er ?_
 cases av d
 exact rt func4 (.tmp rfl .nil) (so sr) (z _ _ _ aG)
theorem IE(f:bg){s y:Value}(z:ah dx 2 R s f.a4)(A:ah c0 5 R y f.aN){r:Bool}(d:ry f=some r):aL af 20 #[.agg #[iv f.a9,iv f.bh,iv f.a5,s,y]] R H (λ v R' H'=>R=R'∧H=H'∧v = .bool r):=by
 unfold ry at d
 refine aY func20 13 λ fr cs m=>?_
 refine sg aC ?_
 refine bx λ C=>?_
 refine vs 1 ?_
 refine nx hW ?_
 refine vs 1 ?_
 refine ld 3 gU z0 ?_
 refine ls z underlying29 ?_
 refine vs 2 ?_
 refine a8 d (λ g d=>?_) (λ g d=>?_)
 ·refine U.kn 7 g ?_
  refine vs 6 ?_
  refine er ?_
  cases av d
  exact rt func20 (.tmp rfl .nil) (so sr) (m _ _ _ aG)
 refine U.kn 7 g ?_
 refine vs 1 ?_
 refine ld 4 eM z0 ?_
 refine ls A underlying30 ?_
 refine vs 3 ?_
 refine er ?_
 cases av d
 exact rt func20 (.tmp rfl .nil) (so sr) (m _ _ _ aG)
theorem Jc(f:de)  {r:Bool} (d:n8 f=some r):aL af 61 #[.agg #[iv f.aQ,iv f.aZ]] R H (λ v R' H'=>R=R'∧H=H'∧v = .bool r):=by
 unfold n8 at d
 refine aY func61 11 λ fr cs m=>?_
 refine sg aC ?_
 refine bx λ z=>?_
 refine vs 1 ?_
 refine nx dW ?_
 refine vs 1 ?_
 refine ld 0 aI z0 ?_
 have ⟨A,s,d⟩:=ae d
 refine U.cv e6 (e8 f.aQ (-20) 20  s) ?_
 rintro _ _ _ ⟨rfl,rfl,rfl⟩
 refine vs 1 ?_
 refine a8 d (λ g d=>?_) (λ g d=>?_)
 ·refine U.kn 6 g ?_
  refine vs 1 ?_
  refine ld 1 aI z0 ?_
  have ⟨C,y,d⟩:=ae d
  refine U.cv e6 (e8 f.aZ (-20) 20  y) ?_
  rintro _ _ _ ⟨rfl,rfl,rfl⟩
  refine vs 2 ?_
  refine er ?_
  cases av d
  exact rt func61 (.tmp rfl .nil) (so sr) (m _ _ _ aG)
 refine U.kn 6 g ?_
 refine vs 5 ?_
 refine er ?_
 cases av d
 exact rt func61 (.tmp rfl .nil) (so sr) (m _ _ _ aG)
theorem Je(d:bg)(x1:Int){g m:Value}(s:ah dx 2 R g d.a4)(_:ah c0 5 R m d.aN){r:Bool}(f:n9 d x1=some r):aL af 62 #[.agg #[iv d.a9,iv d.bh,iv d.a5,g,m],iv x1] R H (λ v R' H'=>R=R'∧H=H'∧v = .bool r):=by
 unfold n9 at f
 refine aY func62 11 λ fr cs y=>?_
 refine sg aC ?_
 refine bx λ A=>?_
 refine vs 1 ?_
 refine nx dc ?_
 refine vs 2 ?_
 refine ld 3 gU z0 ?_
 refine ls s underlying29 ?_
 refine vs 1 ?_
 have ⟨D,z,f⟩:=ae f
 refine U.cv e6 (e8 x1 0 (i64 ((d.a4.length:Int) - 1))  z) ?_
 rintro _ _ _ ⟨rfl,rfl,rfl⟩
 refine vs 1 ?_
 refine er ?_
 cases av f
 exact rt func62 (.tmp rfl .nil) (so sr) (y _ _ _ aG)
theorem IF(f:bg){z A:Value}(C:ah dx 2 R z f.a4)(D:ah c0 5 R A f.aN){r:Int}(d:rz f=some r):aL af 21 #[.agg #[iv f.a9,iv f.bh,iv f.a5,z,A]] R H (λ v R' H'=>R=R'∧H=H'∧v=iv r):=by
 unfold rz at d
 refine aY func21 82 λ fr cs m=>?_
 refine sg aC ?_
 refine bx λ g=>?_
 refine vs 1 ?_
 refine es ?_
 refine sq ?_
 refine U.da d (λ (P:Bool) R' H' aa=>R=R'∧H'=(g,.cells #[iv f.a9,iv f.bh,iv f.a5,z,A] 32)::H∧aA aa [(1,pT g),(22,.bool P)])  ?_ ?_
 rotate_right
 ·intro bT d E
  refine U.rg vk ?_
  refine vs 1 ?_
  refine ld 0 aI z0 ?_
  have ⟨bU,ar,d⟩:=ae d
  refine U.cv e6 (e8 f.a9 2 7  ar) ?_
  rintro _ _ _ ⟨rfl,rfl,rfl⟩
  refine vs 2 ?_
  refine a8 d (λ F d=>?_) (λ F d=>?_)
  ·refine U.kn 11 F ?_
   refine vs 11 ?_
   refine er ?_
   exact E _ (au d) _ _ _ ⟨rfl,rfl,aq cg⟩
  refine U.kn 11 F ?_
  refine vs 1 ?_
  refine ld 1 aI z0 ?_
  have ⟨bV,aw,d⟩:=ae d
  refine U.cv e6 (e8 f.bh 2 7  aw) ?_
  rintro _ _ _ ⟨rfl,rfl,rfl⟩
  refine vs 3 ?_
  refine a8 d (λ G d=>?_) (λ G d=>?_)
  ·refine U.kn 17 G ?_
   refine vs 5 ?_
   refine er ?_
   exact E _ (au d) _ _ _ ⟨rfl,rfl,aq cg⟩
  refine U.kn 17 G ?_
  refine vs 1 ?_
  refine ld 2 aI z0 ?_
  have ⟨bW,ax,d⟩:=ae d
  refine U.cv e6 (e8 f.a5 0 2  ax) ?_
  rintro _ _ _ ⟨rfl,rfl,rfl⟩
  refine vs 2 ?_
  refine er ?_
  exact E _ (au d) _ _ _ ⟨rfl,rfl,aq cg⟩
 rintro P bf a2 bM ⟨rfl,rfl,ag⟩ d
 refine U.sub ag ?_
 refine sc d ?_ ?_<;>intro bs d
 ·refine sg aB ?_
  refine vs 1 ?_
  refine er ?_
  cases av d
  exact rt func21 (.tmp rfl .nil) (so sr) (m _ _ _ aG)
 refine sp ?_
 refine sq ?_
 refine sg bA ?_
 refine vs 1 ?_
 refine ld 3 gU z0 ?_
 refine ls C underlying29 ?_
 have ⟨bY,az,d⟩:=ae d
 refine U.cv e6 (e8 (f.a4.length:Int) 1 3  az) ?_
 rintro _ _ _ ⟨rfl,rfl,rfl⟩
 refine vs 1 ?_
 refine er ?_
 refine sc d ?_ ?_<;>intro bv d
 ·refine sg aB ?_
  refine vs 1 ?_
  refine er ?_
  cases av d
  exact rt func21 (.tmp rfl .nil) (so sr) (m _ _ _ aG)
 refine sp ?_
 refine sq ?_
 refine sg aB ?_
 refine vs 1 ?_
 refine er ?_
 refine U.aP ?_
 refine U.dy d (λ (S:Int) R' H' aa=>R=R'∧H'=(g,.cells #[iv f.a9,iv f.bh,iv f.a5,z,A] 32)::H∧aA aa [(1,pT g),(3,iv S)]) (λ (aU:Unit) R' H' aa=>R=R'∧H'=(g,.cells #[iv f.a9,iv f.bh,iv f.a5,z,A] 32)::H∧aA aa [(1,pT g)]) 0 rfl ⟨rfl,rfl,aq cg⟩ ?_ ?_
 rotate_right
 ·rintro S bi a6 bN ⟨rfl,rfl,ak⟩ b1 d T W N
  refine U.sub ak ?_
  refine sq ?_
  refine sg bA ?_
  refine vs 2 ?_
  refine ld 3 gU z0 ?_
  refine ls C underlying29 ?_
  refine vs 1 ?_
  refine er ?_
  refine sc d ?_ ?_<;>intro bz d
  ·refine sp ?_
   refine sq ?_
   refine U.aP ?_
   refine sg dc ?_
   refine vs 1 ?_
   refine ld 3 gU z0 ?_
   refine vs 1 ?_
   have ⟨a1,aF,d⟩:=ae d
   obtain ⟨bq,bJ,_,rfl,Z,ac⟩:=C.elem qe aF
   refine bX ac ?_
   refine U.s rfl rfl (Ox.bB (vs:=[_,_]) rfl rfl cB rfl (Z.any.part (j:=0) (n:=2) rfl) rfl (.put rfl) ?_)
   refine bu (#[iv 0,iv 0]) fT λ bp=>?_
   refine bC (#[_,_]) cB .here ?_
   refine nx hW ?_
   refine lN [_,_] 0 2 cB z0 ?_
   have ⟨b2,aH,d⟩:=ae d
   refine U.cv tA (uF a1 (-3) 3  aH) ?_
   rintro _ _ _ ⟨rfl,rfl,rfl⟩
   refine vs 2 ?_
   refine a8 d (λ I d=>?_) (λ I d=>?_)
   ·refine U.kn 43 I ?_
    refine vs 7 ?_
    refine er ?_
    refine U.cond_true rfl ?_
    refine sg aB ?_
    refine vs 1 ?_
    refine er ?_
    replace d:=N _ (au d)
    cases av d
    exact rt func21 (.tmp rfl .nil) (so (so sr)) (m _ _ _ aG)
   refine U.kn 43 I ?_
   refine vs 1 ?_
   refine ld 1 aI z0 ?_
   refine vs 1 ?_
   refine ld 0 aI z0 ?_
   refine vs 3 ?_
   refine er ?_
   refine sc d ?_ ?_<;>intro bD d
   ·refine sg aB ?_
    refine vs 1 ?_
    refine er ?_
    replace d:=N _ (au d)
    cases av d
    exact rt func21 (.tmp rfl .nil) (so (so sr)) (m _ _ _ aG)
   refine sp ?_
   refine U.a0 ?_
   refine U.rg aM ?_
   refine vs 3 ?_
   refine er ?_
   exact U.aR (so sr) (T _ (au d) _ _ _ ⟨rfl,rfl,aq cg⟩)
  exact U.bw rfl (W _ (au d) _ _ _ ⟨rfl,rfl,aq eD⟩)
 rintro aU bk a7 bO ⟨rfl,rfl,am⟩ d
 refine U.sub am ?_
 refine sq ?_
 refine sg bb ?_
 refine vs 1 ?_
 refine ld 4 eM z0 ?_
 refine ls D underlying30 ?_
 refine vs 1 ?_
 refine er ?_
 refine sc d ?_ ?_<;>intro bF d
 ·refine sg aB ?_
  refine vs 1 ?_
  refine er ?_
  cases av d
  exact rt func21 (.tmp rfl .nil) (so sr) (m _ _ _ aG)
 refine sp ?_
 refine sq ?_
 refine sg aB ?_
 refine vs 1 ?_
 refine er ?_
 refine U.aP ?_
 refine U.dy d (λ (K:Int) R' H' aa=>R=R'∧H'=(g,.cells #[iv f.a9,iv f.bh,iv f.a5,z,A] 32)::H∧aA aa [(1,pT g),(5,iv K)]) (λ (aV:Unit) R' H' aa=>R=R'∧H=H'∧aA aa []) 2 rfl ⟨rfl,rfl,aq cg⟩ ?_ ?_
 rotate_right
 ·rintro K bm ba bP ⟨rfl,rfl,an⟩ b3 d V Y O
  refine U.sub an ?_
  refine sq ?_
  refine sg bA ?_
  refine vs 2 ?_
  refine ld 4 eM z0 ?_
  refine ls D underlying30 ?_
  refine vs 1 ?_
  refine er ?_
  refine sc d ?_ ?_<;>intro bG d
  ·refine sp ?_
   refine sq ?_
   refine U.aP ?_
   refine sg dc ?_
   refine vs 1 ?_
   refine ld 4 eM z0 ?_
   refine vs 1 ?_
   have ⟨y,aJ,d⟩:=ae d
   obtain ⟨br,bL,_,rfl,ab,ad⟩:=D.elem je aJ
   refine bX ad ?_
   refine U.s rfl rfl (Ox.bB (vs:=[_,_,_,_,_]) rfl rfl iB rfl (ab.any.part (j:=0) (n:=5) rfl) rfl (.put rfl) ?_)
   refine bu (#[iv 0,iv 0,iv 0,iv 0,.bool false]) qs λ L=>?_
   refine bC (#[_,_,_,_,_]) iB .here ?_
   refine es ?_
   refine sq ?_
   refine U.da d (λ (Q:Bool) R' H' aa=>R=R'∧H'=(L,.cells #[iv y.U.aQ,iv y.U.aZ,iv y.dS,iv y.cz,.bool y.dG] 48)::(g,.cells #[iv f.a9,iv f.bh,iv f.a5,z,A] 32)::H∧aA aa [(1,pT g),(5,iv K),(6,pT L),(76,.bool Q)])  ?_ ?_
   rotate_right
   ·intro b4 d M
    refine U.rg fz ?_
    refine vs 1 ?_
    refine lN [_,_] 0 2 gw z0 ?_
    have ⟨b5,aK,d⟩:=ae d
    refine U.cv Ei (Jc y.U  aK) ?_
    rintro _ _ _ ⟨rfl,rfl,rfl⟩
    refine vs 2 ?_
    refine a8 d (λ J d=>?_) (λ J d=>?_)
    ·refine U.kn 71 J ?_
     refine vs 5 ?_
     refine er ?_
     exact M _ (au d) _ _ _ ⟨rfl,rfl,aq bt⟩
    refine U.kn 71 J ?_
    refine vs 1 ?_
    refine ld 2 aI z0 ?_
    have ⟨b6,aO,d⟩:=ae d
    refine U.cv e6 (e8 y.dS 0 7  aO) ?_
    rintro _ _ _ ⟨rfl,rfl,rfl⟩
    refine vs 2 ?_
    refine er ?_
    exact M _ (au d) _ _ _ ⟨rfl,rfl,aq bt⟩
   rintro Q bo be bS ⟨rfl,rfl,ap⟩ d
   refine U.sub ap ?_
   refine sc d ?_ ?_<;>intro bH d
   ·refine sg aB ?_
    refine vs 1 ?_
    refine er ?_
    replace d:=O _ (au d)
    cases av d
    exact rt func21 (.tmp rfl .nil) (so (so sr)) (m _ _ _ aG)
   refine sp ?_
   refine sg bA ?_
   refine lN [_,_,_,_,_] 0 5 df z1 ?_
   refine vs 1 ?_
   refine ld 3 aI z0 ?_
   have ⟨b7,aT,d⟩:=ae d
   refine U.cv Ej (Je f y.cz C D aT) ?_
   rintro _ _ _ ⟨rfl,rfl,rfl⟩
   refine vs 1 ?_
   refine er ?_
   refine sc d ?_ ?_<;>intro bI d
   ·refine sg aB ?_
    refine vs 1 ?_
    refine er ?_
    replace d:=O _ (au d)
    cases av d
    exact rt func21 (.tmp rfl .nil) (so (so sr)) (m _ _ _ aG)
   refine sp ?_
   refine U.a0 ?_
   refine U.rg aM ?_
   refine vs 3 ?_
   refine er ?_
   exact U.aR (so sr) (V _ (au d) _ _ _ ⟨rfl,rfl,aq cg⟩)
  exact U.bw rfl (U.aR (so sr) (Y _ (au d) _ _ _ ⟨rfl,rfl,cV.sub trivial⟩))
 rintro aV bn bd bQ ⟨rfl,rfl,ao⟩ d
 refine U.sub ao ?_
 refine sg aB ?_
 refine vs 1 ?_
 refine er ?_
 cases av d
 exact rt func21 (.tmp rfl .nil) sr (m _ _ _ aG)
theorem I9(f:bg){z A:Value}(m:ah dx 2 R z f.a4)(s:ah c0 5 R A f.aN){r:Bool}(d:m5 f=some r):aL af 5 #[.agg #[iv f.a9,iv f.bh,iv f.a5,z,A]] R H (λ v R' H'=>R=R'∧H=H'∧v = .bool r):=by
 unfold m5 at d
 refine aY func5 11 λ fr cs y=>?_
 refine sg aC ?_
 refine bx λ E=>?_
 refine vs 1 ?_
 refine nx dW ?_
 refine lN [_,_,_,_,_] 0 5 df z0 ?_
 have ⟨F,C,d⟩:=ae d
 refine U.cv DS (IE f m s C) ?_
 rintro _ _ _ ⟨rfl,rfl,rfl⟩
 refine vs 2 ?_
 refine a8 d (λ g d=>?_) (λ g d=>?_)
 ·refine U.kn 6 g ?_
  refine lN [_,_,_,_,_] 0 5 df z0 ?_
  have ⟨G,D,d⟩:=ae d
  refine U.cv DT (IF f m s D) ?_
  rintro _ _ _ ⟨rfl,rfl,rfl⟩
  refine vs 3 ?_
  refine er ?_
  cases av d
  exact rt func5 (.tmp rfl .nil) (so sr) (y _ _ _ aG)
 refine U.kn 6 g ?_
 refine vs 5 ?_
 refine er ?_
 cases av d
 exact rt func5 (.tmp rfl .nil) (so sr) (y _ _ _ aG)
theorem uC(f:Int)(x1:Int)  {r:Reach} (d:lf f x1=some r):aL af 33 #[iv f,iv x1] R H (λ v R' H'=>R=R'∧H=H'∧v = .agg #[iv r.ai,iv r.ak]):=by
 unfold lf at d
 refine aY func33 8 λ fr cs g=>?_
 refine sg aB ?_
 refine bu (#[iv 0,iv 0]) fT λ m=>?_
 refine nx bb ?_
 refine vs 2 ?_
 refine cF (#[_,_]) jI ?_
 refine bC (#[_,_]) cB .here ?_
 refine er ?_
 cases av d
 exact rt func33 (.agg rfl cB rfl (aK.box z0) .nil) (so sr) (g _ _ _ aG)
theorem uD(f:Int)  {r:Reach} (d:lg f=some r):aL af 43 #[iv f] R H (λ v R' H'=>R=R'∧H=H'∧v = .agg #[iv r.ai,iv r.ak]):=by
 unfold lg at d
 refine aY func43 6 λ fr cs g=>?_
 refine sg aB ?_
 refine bu (#[iv 0,iv 0]) fT λ s=>?_
 refine nx bb ?_
 refine vs 2 ?_
 have ⟨y,m,d⟩:=ae d
 refine U.cv tx (uC f f  m) ?_
 rintro _ _ _ ⟨rfl,rfl,rfl⟩
 refine bC (#[_,_]) cB .here ?_
 refine er ?_
 cases av d
 exact rt func43 (.agg rfl cB rfl (aK.box z0) .nil) (so sr) (g _ _ _ aG)
theorem IG   {r:an} (d:pH  = some r):aL af 22 #[] R H (λ v R' H'=>aH R R'∧H=H'∧∃ g m y,ah bz 5 R' g r.ao∧ah CZ 1 R' m r.Out∧ah bq 2 R' y r.aV∧v = .agg #[iv r.ax,iv r.ad.ai,iv r.ad.ak,g,m,y]):=by
 unfold pH at d
 refine aY func22 10 λ fr cs J=>?_
 refine sg aB ?_
 refine bu (#[iv 0,iv 0,iv 0,aw,aw,aw]) gp λ f=>?_
 refine nx fz ?_
 have ⟨z,L,d⟩:=ae d
 refine U.cv tx (uC 20 21  L) ?_
 rintro _ _ _ ⟨rfl,rfl,rfl⟩
 refine cF (#[_,_,_,_,_]) vv ?_
 have ⟨A,M,d⟩:=ae d
 refine U.cv tz (uD 30  M) ?_
 rintro _ _ _ ⟨rfl,rfl,rfl⟩
 refine cF (#[_,_,_,_,_]) vv ?_
 have ⟨C,N,d⟩:=ae d
 refine U.cv tz (uD 10  N) ?_
 rintro _ _ _ ⟨rfl,rfl,rfl⟩
 refine dt (#[_]) cw c7 λ Q=>?_
 refine cF (#[_,_,_,_,_]) vv ?_
 refine U.iJ (K:=CZ) (k:=1) (H2:=(f,_)::H) (λ X=>X++((f,_)::H)) .id rfl (aO.le (aO.cons (x:=0) rfl rfl aO.nil) rfl) rfl (λ O E G=>?_)
 refine U.s rfl rfl (Ox.buildSlice (cells:=#[_,_,_,_,_,_,_,_,_,_,_,_,_,_,_]) rfl xo rfl (by decide) Cd (ca (cells':=#[_,_,_,_,_,_,_,_,_,_,_,_,_,_,_]) rfl rfl rfl rfl (ca (cells':=#[_,_,_,_,_,_,_,_,_,_,_,_,_,_,_]) rfl rfl rfl rfl (ca (cells':=#[_,_,_,_,_,_,_,_,_,_,_,_,_,_,_]) rfl rfl rfl rfl cE))) rfl λ D _ _=>⟨_,(.put rfl),?_⟩)
 refine cF (#[_,_,_,_,_,_]) jJ ?_
 refine bC (#[_,_,_,_,_,_]) a7 (.there .here) ?_
 refine er ?_
 refine U.iJ (K:=bz) (k:=5) (H2:=(f,_)::H) (λ X=>X++((f,_)::H)) .id rfl (aO.le (aO.cons (x:=(⟨⟨#[103,117,110]⟩,(-3),⟨z.ai,z.ak⟩,[]⟩:cA)) ⟨_,ah.nil,rfl⟩ rfl (aO.cons (x:=(⟨⟨#[99,104,101,115,116]⟩,2,⟨A.ai,A.ak⟩,[]⟩:cA)) ⟨_,ah.nil,rfl⟩ rfl (aO.cons (x:=(⟨⟨#[97,110,99,104,111,114]⟩,1,⟨C.ai,C.ak⟩,[0]⟩:cA)) ⟨_,G,rfl⟩ rfl aO.nil))) rfl) rfl (λ P F I=>?_)
 cases av d
 exact rt func22 (.agg rfl a7 rfl (aK.box z0) .nil) (so sr) (J _ _ _ ⟨(E.trans F),rfl,.slice (some ⟨D,0,none⟩) 3 3,aw,aw,I,ah.nil,ah.nil,rfl⟩)
theorem uz(d:an)(x1:bU){E F O:Value}(G:ah bz 5 R E d.ao)(I:ah CZ 1 R F d.Out)(J:ah bq 2 R O d.aV){r:an}(C:lb d x1=some r):aL af 23 #[.agg #[iv d.ax,iv d.ad.ai,iv d.ad.ak,E,F,O],.agg #[iv x1.cT,iv x1.dZ]] R H (λ v R' H'=>aH R R'∧H=H'∧∃ S T V,ah bz 5 R' S r.ao∧ah CZ 1 R' T r.Out∧ah bq 2 R' V r.aV∧v = .agg #[iv r.ax,iv r.ad.ai,iv r.ad.ak,S,T,V]):=by
 unfold lb at C
 refine aY func23 14 λ fr cs ac=>?_
 refine sg aM ?_
 refine bx λ g=>?_
 refine bx λ z=>?_
 refine bu (#[iv 0,iv 0,iv 0,aw,aw,aw]) gp λ f=>?_
 refine es ?_
 have ⟨aN,M,C⟩:=ae C
 have ⟨am,N,C⟩:=ae C
 refine U.cut (λ R' H' aa=>R=R'∧∃ (s:Value) (y:aj),aX bq 2 67 R' s am y∧H'=y++((f,.cells #[iv 0,iv 0,iv 0,aw,aw,aw] 28)::(g,.cells #[iv d.ax,iv d.ad.ai,iv d.ad.ak,E,F,s] 28)::H)∧aA aa [(2,pT g),(4,pT f)]) ?_ ?_
 ·rintro ar ap aI ⟨rfl,s,y,m,rfl,ag⟩
  refine U.sub ag ?_
  refine sg aC ?_
  refine lN [_,_,_,_,_,_] 0 6 a7 (bH _ z1) ?_
  refine bC (#[_,_,_,_,_,_]) a7 (.skip .here) ?_
  refine er ?_
  refine U.dg (H2:=(f,_)::(g,_)::H) (λ X=>X++((f,_)::(g,_)::H)) .id rfl m (λ au Q ab=>?_)
  have ⟨G,I⟩:=dC Q G I
  cases av C
  exact rt func23 (.agg rfl a7 rfl (aK.box z0) .nil) (so (so sr)) (ac _ _ _ ⟨Q,rfl,E,F,s,G,I,ab,rfl⟩)
 intro L
 refine U.draw (n:=9) (is:=[0,1,2,3,4,5,6,7,8]) (many ((f,.cells #[iv 0,iv 0,iv 0,aw,aw,aw] 28)::(z,.cells #[iv x1.cT,iv x1.dZ] 67)::(g,.cells #[iv d.ax,iv d.ad.ai,iv d.ad.ak,E,F,O] 28)::H) [(8,(f,.cells #[iv 0,iv 0,iv 0,aw,aw,aw] 28)::(z,.cells #[iv x1.cT,iv x1.dZ] 67)::H)]) mixed rfl (by decide +kernel) rfl rfl ?_
 refine Any.vs 1 [1] rfl ?_
 refine ts 2 [3,6,7,8] rfl (aF rfl (aU (su (so (so sr))))) (su (so (so sr))) (kX ei 5 z0) ?_
 refine ts 4 [5,6,7,8] rfl (aF rfl (aU (su (so (sk (so sr)))))) (su (so (sk (so sr)))) (λ R' H' aB Z=>Ox.bB (vs:=[_,_]) rfl rfl iC rfl ((aK.box (Z _ z0)).part (j:=0) (n:=2) rfl) rfl (.one rfl) aG) ?_
 refine tw 0 5 ?_ ?_
 ·refine  (aJ.to (Ox.buildSlice (cells:=#[]) rfl h3 rfl (by decide) sK cE rfl λ Y _ _=>⟨_,(.put rfl),⟨rr,(bo rfl (su (so sr))),?_⟩⟩))
  refine tw 3 5 ?_ ?_
  ·refine  (aJ.to (Ox.append (K:=bq) (λ X=>X++((f,_)::(z,_)::(g,_)::H)) rfl rfl rfl hA underlying26 (by simp) .id (aX.lit (aO.le aO.nil rfl) rfl) J.arg M rfl λ W P D=>⟨_,(.put rfl),⟨rr,(bo rfl (su (az sr))),?_⟩⟩))
   refine Any.on 5 rfl rfl (aJ.to (Ox.buildSlice (cells:=#[_,_]) rfl h3 rfl (by decide) jP (ca rfl rfl rfl rfl cE) rfl λ A _ _=>⟨_,(.put rfl),⟨rr,(bo rfl (su (so (az sr)))),?_⟩⟩))
   refine Any.on 6 rfl rfl (aJ.to (Ox.append (K:=bq) (λ X=>(A,_)::X++((f,_)::(z,_)::(g,_)::H)) rfl rfl rfl hA underlying26 (by simp) (.cons .id) D (eB x1 rfl) N rfl λ s y m=>⟨_,(.put rfl),⟨rr,(bo rfl (su (so (az sr)))),?_⟩⟩))
   refine Any.vs 1 [7] rfl ?_
   refine Any.on 8 rfl rfl (aJ.to (Ox.dE (cs':=#[_,_,_,_,_,_]) rfl rfl rfl ei m.one (.there (.skip (.there (.there .here)))) rfl rfl rfl (.refl _) ⟨rr,(bo rfl (su (so (az (sk (sk (so sr))))))),?_⟩))
   exact Any.done (U.aR (so (dm (sk (so sr)))) (L _ _ _ ⟨rfl,s,y,m,rfl,aq cg⟩))
  refine  (aJ.to (Ox.buildSlice (cells:=#[_,_]) rfl h3 rfl (by decide) jP (ca rfl rfl rfl rfl cE) rfl λ A _ _=>⟨_,(.put rfl),⟨rr,(bo rfl (su (so (so sr)))),?_⟩⟩))
  refine Any.on 3 rfl rfl (aJ.to (Ox.append (K:=bq) (λ X=>(A,_)::X++((f,_)::(z,_)::(g,_)::H)) rfl rfl rfl hA underlying26 (by simp) (.cons .id) (aX.lit (aO.le aO.nil rfl) rfl) J.arg M rfl λ W P D=>⟨_,(.put rfl),⟨rr,(bo rfl (su (so (az sr)))),?_⟩⟩))
  refine Any.on 6 rfl rfl (aJ.to (Ox.append (K:=bq) (λ X=>(A,_)::X++((f,_)::(z,_)::(g,_)::H)) rfl rfl rfl hA underlying26 (by simp) (.cons .id) D (eB x1 rfl) N rfl λ s y m=>⟨_,(.put rfl),⟨rr,(bo rfl (su (so (az sr)))),?_⟩⟩))
  refine Any.vs 1 [7] rfl ?_
  refine Any.on 8 rfl rfl (aJ.to (Ox.dE (cs':=#[_,_,_,_,_,_]) rfl rfl rfl ei m.one (.there (.skip (.there (.there .here)))) rfl rfl rfl (.refl _) ⟨rr,(bo rfl (su (so (az (sk (sk (so sr))))))),?_⟩))
  exact Any.done (U.aR (so (dm (sk (so sr)))) (L _ _ _ ⟨rfl,s,y,m,rfl,aq cg⟩))
 refine  (aJ.to (Ox.buildSlice (cells:=#[_,_]) rfl h3 rfl (by decide) jP (ca rfl rfl rfl rfl cE) rfl λ A _ _=>⟨_,(.put rfl),⟨rr,(bo rfl (su (so sr))),?_⟩⟩))
 refine Any.on 0 rfl rfl (aJ.to (Ox.buildSlice (cells:=#[]) rfl h3 rfl (by decide) sK cE rfl λ Y _ _=>⟨_,(.put rfl),⟨rr,(bo rfl (su (so (so sr)))),?_⟩⟩))
 refine Any.on 3 rfl rfl (aJ.to (Ox.append (K:=bq) (λ X=>X++((A,_)::(f,_)::(z,_)::(g,_)::H)) rfl rfl rfl hA underlying26 (by simp) .id (aX.lit (aO.le aO.nil rfl) rfl) J.arg M rfl λ W P D=>⟨_,(.put rfl),⟨rr,(bo rfl (su (az (so sr)))),?_⟩⟩))
 refine Any.on 6 rfl rfl (aJ.to (Ox.append (K:=bq) (λ X=>X++((A,_)::(f,_)::(z,_)::(g,_)::H)) rfl rfl rfl hA underlying26 (by simp) .id D (e4.lit (bH _ z0) (aO.le (aO.cons (x:=x1) rfl rfl aO.nil) rfl) rfl) N rfl λ s y m=>⟨_,(.put rfl),⟨rr,(bo rfl (su (az (so sr)))),?_⟩⟩))
 refine Any.vs 1 [7] rfl ?_
 refine Any.on 8 rfl rfl (aJ.to (Ox.dE (cs':=#[_,_,_,_,_,_]) rfl rfl rfl ei m.one (.skip (.there (.there (.there .here)))) rfl rfl rfl (.refl _) ⟨rr,(bo rfl (su (az (so (sk (sk (so sr))))))),?_⟩))
 exact Any.done (U.aR (dm (so (sk (so sr)))) (L _ _ _ ⟨rfl,s,y,m,rfl,aq cg⟩))
theorem IH(d:an)(x1:Int){C G D:Value}(z:ah bz 5 R C d.ao)(M:ah CZ 1 R G d.Out)(A:ah bq 2 R D d.aV){r:an}(f:nQ d x1=some r):aL af 24 #[.agg #[iv d.ax,iv d.ad.ai,iv d.ad.ak,C,G,D],iv x1] R H (λ v R' H'=>aH R R'∧H=H'∧∃ I J L,ah bz 5 R' I r.ao∧ah CZ 1 R' J r.Out∧ah bq 2 R' L r.aV∧v = .agg #[iv r.ax,iv r.ad.ai,iv r.ad.ak,I,J,L]):=by
 unfold nQ at f
 refine aY func24 14 λ fr cs O=>?_
 refine sg aC ?_
 refine bx λ g=>?_
 refine bu (#[iv 0,iv 0,iv 0,aw,aw,aw]) gp λ m=>?_
 refine nx dW ?_
 refine dt (#[]) cw qG λ Z=>?_
 refine vs 1 ?_
 refine ld 4 cb z2 ?_
 have ⟨ab,Q,f⟩:=ae f
 refine U.s rfl rfl (Ox.append (K:=CZ) (λ X=>X++((m,_)::(g,_)::H)) rfl rfl rfl eh underlying25 (by simp) .id (aX.lit (aO.le aO.nil rfl) rfl) M.arg Q rfl λ aa V P=>⟨_,(.put rfl),?_⟩)
 refine vs 1 ?_
 refine dt (#[_]) cw c7 λ y=>?_
 have ⟨ac,S,f⟩:=ae f
 refine U.s rfl rfl (Ox.append (K:=CZ) (λ X=>(y,_)::X++((m,_)::(g,_)::H)) rfl rfl rfl eh underlying25 (by simp) (.cons .id) P (eB x1 rfl) S rfl λ T W F=>⟨_,(.put rfl),?_⟩)
 refine vs 1 ?_
 refine U.s rfl rfl (Ox.dE (cs':=#[_,_,_,_,_,_]) rfl rfl rfl cb F.one (.there (.skip (.there .here))) rfl rfl rfl (.refl _) ?_)
 refine nx aC ?_
 refine U.s rfl rfl (Ox.bB (vs:=[_,_,_,_,_,_]) rfl rfl a7 rfl ((aK.box (.tail _ (bH _ z1))).part (j:=0) (n:=6) rfl) rfl (.put rfl) ?_)
 refine bC (#[_,_,_,_,_,_]) a7 (.there (.skip .here)) ?_
 refine er ?_
 refine U.dg (H2:=(y,_)::(m,_)::(g,_)::H) (λ X=>(y,_)::X++((m,_)::(g,_)::H)) (.cons .id) rfl F (λ Y E N=>?_)
 have ⟨z,A⟩:=dC E z A
 cases av f
 exact rt func24 (.agg rfl a7 rfl (aK.box z1) .nil) (so (so (so sr))) (O _ _ _ ⟨E,rfl,C,T,D,z,N,A,rfl⟩)
end
end Go.Proofs.YtoaoffinglajbaaGreatDoor
