/- Walks, part 10: each function computes its model. -/
import Derived.Test.YtoaoffinglajbaaGreatDoorQBHbP9
namespace Go.Proofs.YtoaoffinglajbaaGreatDoor
open Go.Lg Go.Proofs Tryz
set_option maxRecDepth 100000
set_option maxHeartbeats 4000000
section
variable {B:Base} {main:Bool} {af:Jd prog B main} {R:ay} {H:aj}
theorem IV(g:Int)(x1:Int)  {r:Int} (d:lj g x1=some r):aL af 47 #[iv g,iv x1] R H (λ v R' H'=>R=R'∧H=H'∧v=iv r):=by
 unfold lj at d
 refine aY func47 37 λ fr cs f=>?_
 refine sg aB ?_
 refine vs 1 ?_
 refine nx fz ?_
 refine vs 2 ?_
 refine U.s rfl rfl (Ox.mU rfl rfl rfl (.put rfl) ?_)
 refine U.s rfl rfl (Ox.max (a:=g) (l:=[i64 (0 - g)]) rfl rfl rfl (.put rfl) ?_)
 refine vs 2 ?_
 refine U.s rfl rfl (Ox.mU rfl rfl rfl (.put rfl) ?_)
 refine U.s rfl rfl (Ox.max (a:=x1) (l:=[i64 (0 - x1)]) rfl rfl rfl (.put rfl) ?_)
 refine vs 2 ?_
 refine es ?_
 refine sg dW ?_
 refine vs 2 ?_
 refine U.s rfl rfl (Ox.min (a:=cy g [i64 (0 - g)]) (l:=[cy x1 [i64 (0 - x1)]]) rfl rfl rfl (.put rfl) ?_)
 refine vs 3 ?_
 refine U.s rfl rfl (Ox.max (a:=cy g [i64 (0 - g)]) (l:=[cy x1 [i64 (0 - x1)]]) rfl rfl rfl (.put rfl) ?_)
 refine vs 2 ?_
 refine er ?_
 refine sc d ?_ ?_<;>intro m d
 ·refine sq ?_
  refine sg aM ?_
  refine vs 3 ?_
  refine er ?_
  refine sc d ?_ ?_<;>intro y d
  ·refine sq ?_
   refine sg aC ?_
   refine vs 2 ?_
   refine er ?_
   refine sc d ?_ ?_<;>intro z d
   ·refine sg aB ?_
    refine vs 1 ?_
    refine er ?_
    cases av d
    exact rt func47 (.tmp rfl .nil) sr (f _ _ _ aG)
   refine sp ?_
   refine sg aB ?_
   refine vs 1 ?_
   refine er ?_
   cases av d
   exact rt func47 (.tmp rfl .nil) sr (f _ _ _ aG)
  refine sp ?_
  refine sq ?_
  refine sg aC ?_
  refine vs 2 ?_
  refine er ?_
  refine sc d ?_ ?_<;>intro A d
  ·refine sg aB ?_
   refine vs 1 ?_
   refine er ?_
   cases av d
   exact rt func47 (.tmp rfl .nil) sr (f _ _ _ aG)
  refine sp ?_
  refine sg aB ?_
  refine vs 1 ?_
  refine er ?_
  cases av d
  exact rt func47 (.tmp rfl .nil) sr (f _ _ _ aG)
 refine sp ?_
 refine sq ?_
 refine sg aC ?_
 refine vs 2 ?_
 refine er ?_
 refine sc d ?_ ?_<;>intro C d
 ·refine sq ?_
  refine sg aC ?_
  refine vs 2 ?_
  refine er ?_
  refine sc d ?_ ?_<;>intro D d
  ·refine sg aB ?_
   refine vs 1 ?_
   refine er ?_
   cases av d
   exact rt func47 (.tmp rfl .nil) sr (f _ _ _ aG)
  refine sp ?_
  refine sg aB ?_
  refine vs 1 ?_
  refine er ?_
  cases av d
  exact rt func47 (.tmp rfl .nil) sr (f _ _ _ aG)
 refine sp ?_
 refine sq ?_
 refine sg aC ?_
 refine vs 2 ?_
 refine er ?_
 refine sc d ?_ ?_<;>intro E d
 ·refine sg aB ?_
  refine vs 1 ?_
  refine er ?_
  cases av d
  exact rt func47 (.tmp rfl .nil) sr (f _ _ _ aG)
 refine sp ?_
 refine sg aB ?_
 refine vs 1 ?_
 refine er ?_
 cases av d
 exact rt func47 (.tmp rfl .nil) sr (f _ _ _ aG)
theorem Jw(f:bg)(x1:ht){z Z F G:Value}(N:ah dx 2 R z f.a4)(am:ah c0 5 R Z f.aN)(an:ah CZ 1 R F x1.fV)(ao:ah CZ 1 R G x1.a5){r:bg}(d:m8 f x1=some r):aL af 8 #[.agg #[iv f.a9,iv f.bh,iv f.a5,z,Z],.agg #[iv x1.U.aQ,iv x1.U.aZ,F,G]] R H (λ v R' H'=>aH R R'∧H=H'∧∃ ab ac,ah dx 2 R' ab r.a4∧ah c0 5 R' ac r.aN∧v = .agg #[iv r.a9,iv r.bh,iv r.a5,ab,ac]):=by
 unfold m8 at d
 refine aY func8 67 λ fr cs a6=>?_
 refine sg aM ?_
 refine bx λ ag=>?_
 refine bx λ D=>?_
 refine bu (#[iv 0,iv 0,iv 0,aw,aw]) qq λ m=>?_
 refine nx aM ?_
 refine lN [_,_,_,_,_] 0 5 df z2 ?_
 refine bu (#[iv 0,iv 0,iv 0,aw,aw]) qq λ y=>?_
 refine bC (#[_,_,_,_,_]) df .here ?_
 refine nx b4 ?_
 refine dt (#[]) xp wm λ bN=>?_
 refine vs 1 ?_
 refine ld 4 eM z4 ?_
 have ⟨cf,bs,d⟩:=ae d
 refine U.s rfl rfl (Ox.append (K:=c0) (λ X=>X++((y,_)::(m,_)::(D,_)::(ag,_)::H)) rfl rfl rfl wb underlying30 (by simp) .id (aX.lit (aO.le aO.nil rfl) rfl) am.arg bs rfl λ A P V=>⟨_,(.put rfl),?_⟩)
 refine vs 1 ?_
 refine U.s rfl rfl (Ox.dE (cs':=#[_,_,_,_,_]) rfl rfl rfl eM V.one (.skip .here) rfl rfl rfl (.refl _) ?_)
 refine es ?_
 refine sg aB ?_
 refine vs 1 ?_
 refine er ?_
 refine U.aP ?_
 refine U.aR (H':=P++((y,.cells #[iv f.a9,iv f.bh,iv f.a5,z,A] 32)::(m,.cells #[iv 0,iv 0,iv 0,aw,aw] 32)::(D,.cells #[iv x1.U.aQ,iv x1.U.aZ,F,G] 40)::H)) (dm (sk (sk (sk (so sr))))) ?_
 refine U.cQ d (λ (I:(Int × (List eH))) R' H' aa=>R=R'∧∃ E,aX c0 5 48 R' A I.2 E∧H'=E++((y,.cells #[iv f.a9,iv f.bh,iv f.a5,z,A] 32)::(m,.cells #[iv 0,iv 0,iv 0,aw,aw] 32)::(D,.cells #[iv x1.U.aQ,iv x1.U.aZ,F,G] 40)::H)∧aA aa [(3,pT D),(4,pT m),(5,pT y),(6,iv I.1)]) (λ (Y:(List eH)) R' H' aa=>R=R'∧∃ M,aX c0 5 48 R' A Y M∧H'=M++((y,.cells #[iv f.a9,iv f.bh,iv f.a5,z,A] 32)::(m,.cells #[iv 0,iv 0,iv 0,aw,aw] 32)::H)∧aA aa [(4,pT m),(5,pT y)]) 0 rfl ⟨rfl,P,V,rfl,aq bt⟩ ?_ ?_
 rotate_right
 ·rintro I bJ bF b7 ⟨rfl,E,J,rfl,be⟩ ch d Q ak
  refine U.sub be ?_
  refine sq ?_
  refine sg bA ?_
  refine vs 2 ?_
  refine ld 4 eM (bH _ z0) ?_
  refine U.s rfl rfl (Ox.js rfl rfl J underlying30 rfl (.put rfl) ?_)
  refine vs 1 ?_
  refine er ?_
  refine sc d ?_ ?_<;>intro b1 d
  ·refine sp ?_
   refine sq ?_
   refine U.aP ?_
   refine sg dc ?_
   refine vs 1 ?_
   refine ld 4 eM (bH _ z0) ?_
   refine vs 1 ?_
   have ⟨g,bk,d⟩:=ae d
   obtain ⟨bO,b3,_,rfl,ap,aV⟩:=(J.rd (λ _ h=>(bT _ h))).elem je bk
   refine bX aV ?_
   refine U.s rfl rfl (Ox.bB (vs:=[_,_,_,_,_]) rfl rfl iB rfl ((ap.sub pp).part (j:=0) (n:=5) rfl) rfl (.put rfl) ?_)
   refine bu (#[iv 0,iv 0,iv 0,iv 0,.bool false]) qs λ L=>?_
   refine bC (#[_,_,_,_,_]) iB .here ?_
   refine es ?_
   refine sq ?_
   refine U.da d (λ (W:Bool) R' H' aa=>R=R'∧H'=(L,.cells #[iv g.U.aQ,iv g.U.aZ,iv g.dS,iv g.cz,.bool g.dG] 48)::E++((y,.cells #[iv f.a9,iv f.bh,iv f.a5,z,A] 32)::(m,.cells #[iv 0,iv 0,iv 0,aw,aw] 32)::(D,.cells #[iv x1.U.aQ,iv x1.U.aZ,F,G] 40)::H)∧aA aa [(3,pT D),(4,pT m),(5,pT y),(6,iv I.1),(7,pT L),(36,.bool W)])  ?_ ?_
   rotate_right
   ·intro b9 d S
    refine U.rg hW ?_
    refine vs 1 ?_
    refine U.ld cb ((aK.box (.tail _ (bH _ z2))).one (j:=3) rfl) ?_
    refine vs 1 ?_
    have ⟨cc,bm,d⟩:=ae d
    refine U.cv kF (kR x1.a5 I.1 ao.rd bm) ?_
    rintro _ _ _ ⟨rfl,rfl,rfl⟩
    refine vs 1 ?_
    refine a8 d (λ O d=>?_) (λ O d=>?_)
    ·refine U.kn 30 O ?_
     refine vs 6 ?_
     refine er ?_
     exact S _ (au d) _ _ _ ⟨rfl,rfl,aq cS⟩
    refine U.kn 30 O ?_
    refine vs 1 ?_
    refine lN [_,_] 0 2 gw z0 ?_
    refine vs 1 ?_
    refine U.s rfl rfl (Ox.bB (vs:=[_,_]) rfl rfl gw rfl ((aK.box (.tail _ (bH _ z2))).part (j:=0) (n:=2) rfl) rfl (.put rfl) ?_)
    refine U.s rfl rfl (Ox.s7 rfl rfl rfl yg (tP _ _) rfl rfl (.put rfl) ?_)
    refine vs 1 ?_
    refine er ?_
    exact S _ (au d) _ _ _ ⟨rfl,rfl,aq cS⟩
   rintro W bI bD b6 ⟨rfl,rfl,bb⟩ d
   refine U.sub bb ?_
   refine sc d ?_ ?_<;>intro b2 d
   ·refine U.bw rfl ?_
    refine U.rg aM ?_
    refine vs 3 ?_
    refine er ?_
    exact U.aR (so sr) (Q _ (au d) _ _ _ ⟨rfl,E,J,rfl,aq bt⟩)
   refine sp ?_
   refine U.draw (n:=30) (is:=[0,1,2,3,4,5,6,7,8,9,10,11,12,13,14,15,16,17,18,19,20,21,22,23,24,25,26,27,28,29]) (many ((L,.cells #[iv g.U.aQ,iv g.U.aZ,iv g.dS,iv g.cz,.bool g.dG] 48)::E++((y,.cells #[iv f.a9,iv f.bh,iv f.a5,z,A] 32)::(m,.cells #[iv 0,iv 0,iv 0,aw,aw] 32)::(D,.cells #[iv x1.U.aQ,iv x1.U.aZ,F,G] 40)::H)) [(29,(L,.cells #[iv g.U.aQ,iv g.U.aZ,iv g.dS,iv g.cz,.bool g.dG] 48)::(y,.cells #[iv f.a9,iv f.bh,iv f.a5,z,A] 32)::(m,.cells #[iv 0,iv 0,iv 0,aw,aw] 32)::(D,.cells #[iv x1.U.aQ,iv x1.U.aZ,F,G] 40)::H)]) mixed rfl (by decide +kernel) rfl rfl ?_
   refine Any.vs 1 [0] rfl ?_
   refine ts 1 [27,28,29] rfl (aF rfl (aU (su (so (az (sk (so (so sr)))))))) (su (so (az (sk (so (so sr)))))) (kX eM 4 z0) ?_
   refine Any.vs 3 [2,3,4] rfl ?_
   refine ts 5 [9,17,24,25,26,27,28,29] rfl (aF rfl (aU (su (so (az (so (so sr))))))) (su (so (az (so (so sr))))) (kX aI 0 z0) ?_
   refine Any.vs 2 [6,7] rfl ?_
   refine ts 8 [9,17,24,25,26,27,28,29] rfl (aF rfl (aU (su (sk (az (so (so (so sr)))))))) (su (sk (az (so (so (so sr)))))) (kX aI 0 z0) ?_
   refine Any.vs 3 [9,10,11] rfl ?_
   refine ts 12 [16,17,24,25,26,27,28,29] rfl (aF rfl (aU (su (so (az (so (so sr))))))) (su (so (az (so (so sr))))) (kX aI 1 z0) ?_
   refine Any.vs 2 [13,14] rfl ?_
   refine ts 15 [16,17,24,25,26,27,28,29] rfl (aF rfl (aU (su (sk (az (so (so (so sr)))))))) (su (sk (az (so (so (so sr)))))) (kX aI 1 z0) ?_
   refine Any.vs 2 [16,18] rfl ?_
   refine ts 19 [22,23,24,25,26,27,28,29] rfl (aF rfl (aU (su (so (az (so (so sr))))))) (su (so (az (so (so sr))))) (kX cb 2 z0) ?_
   refine Any.vs 1 [20] rfl ?_
   refine ts 21 [22,23,24,25,26,27,28,29] rfl (aF rfl (aU (su (sk (az (so (so (so sr)))))))) (su (sk (az (so (so (so sr)))))) (kX aI 3 z0) ?_
   have ⟨cd,bn,d⟩:=ae d
   have ⟨ce,bp,d⟩:=ae d
   have ⟨bz,bq,d⟩:=ae d
   have ⟨C,br,d⟩:=ae d
   obtain ⟨bP,b5,_,rfl,ar,a1⟩:=an.elem bd bp
   refine ts 22 [23,24,25,26,27,28,29] rfl (aF rfl (aU (su (so (az (so (so (so sr)))))))) (su (so (az (so (so (so sr)))))) (kI a1) ?_
   refine ts 23 [24,25,26,27,28,29] rfl (aF rfl (aU (su (so (az (so (so (so sr)))))))) (su (so (az (so (so (so sr)))))) (kU aI 0 ar) ?_
   refine Any.cv 17 D8 (IV (i64 (x1.U.aQ - g.U.aQ)) (i64 (x1.U.aZ - g.U.aZ))  bn) ?_
   rintro _ _ _ ⟨rfl,rfl,rfl⟩
   refine ⟨rr,(bo rfl pp),?_⟩
   refine Any.vs 2 [24,25] rfl ?_
   refine ts 26 [27,28,29] rfl (aF rfl (aU (su (so (az (so (so (so sr)))))))) (su (so (az (so (so (so sr)))))) (λ R' H' bU bV=>Ox.rem rfl rfl rfl bq rfl (.one rfl) aG) ?_
   obtain ⟨bQ,bS,_,rfl,rfl,bW,aT,a2,bY,bv,bi⟩:=J.dI je br
   refine ts 27 [28,29] rfl (aF rfl (aU (su (so (so (so (so (so sr)))))))) (su (so (so (so (so (so sr)))))) (kI a2) ?_
   refine Any.vs 1 [28] rfl ?_
   refine Any.on 29 rfl rfl (aJ.to (Ox.dJ (K:=c0) (k:=5) (e:=48) (i:=I.1) (x':=(⟨⟨C.U.aQ,C.U.aZ⟩,bz,C.cz,C.dG⟩:eH)) (pre:=[iv C.U.aQ,iv C.U.aZ]) (mid:=[iv C.dS]) (post:=[iv C.cz,.bool C.dG]) (.cons .id) rfl rfl rfl rfl ed rfl (aW rfl bl) aT rfl rfl rfl bv bi rfl rfl (.refl _) λ ad ba=>⟨rr,(bo rfl (su (sk (az sr)))),?_⟩))
   refine Any.done ?_
   refine U.a0 ?_
   refine U.rg aM ?_
   refine vs 3 ?_
   refine er ?_
   exact U.aR (so sr) (Q _ (au d) _ _ _ ⟨rfl,ad,ba,rfl,aq bt⟩)
  exact U.bw rfl (U.aR (dm (sk (sk (so sr)))) (ak _ (au d) _ _ _ ⟨rfl,E,J,rfl,aq cg⟩))
 rintro Y bL bG b8 ⟨rfl,M,a7,rfl,bf⟩ d
 refine U.sub bf ?_
 refine sg aC ?_
 refine lN [_,_,_,_,_] 0 5 df (bH _ z0) ?_
 refine bC (#[_,_,_,_,_]) df (.skip (.there .here)) ?_
 refine er ?_
 refine U.dg (H2:=(y,_)::(m,_)::H) (λ X=>X++((y,_)::(m,_)::H)) .id rfl a7 (λ bM T ax=>?_)
 replace N:=N.mono T
 cases av d
 exact rt func8 (.agg rfl df rfl (aK.box z1) .nil) (so (so sr)) (a6 _ _ _ ⟨T,rfl,z,A,N,ax,rfl⟩)
theorem jZ(m:Int)(x1:Int)(x2:Int)  {r:Bool} (d:hK m x1 x2=some r):aL af 100 #[iv m,iv x1,iv x2] R H (λ v R' H'=>R=R'∧H=H'∧v = .bool r):=by
 unfold hK at d
 refine aY func100 15 λ fr cs g=>?_
 refine sg aB ?_
 refine vs 1 ?_
 refine nx dW ?_
 refine vs 4 ?_
 refine a8 d (λ f d=>?_) (λ f d=>?_)
 ·refine U.kn 10 f ?_
  refine vs 5 ?_
  refine er ?_
  cases av d
  exact rt func100 (.tmp rfl .nil) sr (g _ _ _ aG)
 refine U.kn 10 f ?_
 refine vs 5 ?_
 refine er ?_
 cases av d
 exact rt func100 (.tmp rfl .nil) sr (g _ _ _ aG)
theorem Ie(f:bg){y z:Value}(_:ah dx 2 R y f.a4)(_:ah c0 5 R z f.aN){r:Int}(d:pA f=some r):aL af 181 #[.agg #[iv f.a9,iv f.bh,iv f.a5,y,z]] R H (λ v R' H'=>R=R'∧H=H'∧v=iv r):=by
 unfold pA at d
 refine aY func181 22 λ fr cs g=>?_
 refine sg aC ?_
 refine bx λ E=>?_
 refine vs 1 ?_
 refine es ?_
 refine sg Al ?_
 refine vs 2 ?_
 refine ld 0 aI z0 ?_
 have ⟨J,A,d⟩:=ae d
 refine U.cv jR (jZ f.a9 2 7  A) ?_
 rintro _ _ _ ⟨rfl,rfl,rfl⟩
 refine vs 2 ?_
 refine a8 d (λ m d=>?_) (λ m d=>?_)
 ·refine U.kn 8 m ?_
  refine vs 13 ?_
  refine er ?_
  refine U.cond_true rfl ?_
  refine sg aB ?_
  refine vs 1 ?_
  refine er ?_
  cases av d
  exact rt func181 (.tmp rfl .nil) (so sr) (g _ _ _ aG)
 refine U.kn 8 m ?_
 refine vs 2 ?_
 refine ld 1 aI z0 ?_
 have ⟨K,C,d⟩:=ae d
 refine U.cv jR (jZ f.bh 2 7  C) ?_
 rintro _ _ _ ⟨rfl,rfl,rfl⟩
 refine vs 3 ?_
 refine a8 d (λ s d=>?_) (λ s d=>?_)
 ·refine U.kn 15 s ?_
  refine vs 6 ?_
  refine er ?_
  refine U.cond_true rfl ?_
  refine sg aB ?_
  refine vs 1 ?_
  refine er ?_
  cases av d
  exact rt func181 (.tmp rfl .nil) (so sr) (g _ _ _ aG)
 refine U.kn 15 s ?_
 refine vs 2 ?_
 refine ld 2 aI z0 ?_
 have ⟨L,D,d⟩:=ae d
 refine U.cv jR (jZ f.a5 0 2  D) ?_
 rintro _ _ _ ⟨rfl,rfl,rfl⟩
 refine vs 2 ?_
 refine er ?_
 refine sc d ?_ ?_<;>intro I d
 ·refine sg aB ?_
  refine vs 1 ?_
  refine er ?_
  cases av d
  exact rt func181 (.tmp rfl .nil) (so sr) (g _ _ _ aG)
 refine sp ?_
 refine sg aB ?_
 refine vs 1 ?_
 refine er ?_
 cases av d
 exact rt func181 (.tmp rfl .nil) (so sr) (g _ _ _ aG)
theorem Ii(s:Reach)(x1:Int)(x2:Int)  {r:Bool} (d:pD s x1 x2=some r):aL af 184 #[.agg #[iv s.ai,iv s.ak],iv x1,iv x2] R H (λ v R' H'=>R=R'∧H=H'∧v = .bool r):=by
 unfold pD at d
 refine aY func184 24 λ fr cs f=>?_
 refine sg aC ?_
 refine bx λ y=>?_
 refine vs 1 ?_
 refine nx rY ?_
 refine vs 2 ?_
 refine ld 0 aI z0 ?_
 refine vs 2 ?_
 refine a8 d (λ g d=>?_) (λ g d=>?_)
 ·refine U.kn 11 g ?_
  refine vs 1 ?_
  refine ld 0 aI z0 ?_
  refine vs 1 ?_
  refine ld 1 aI z0 ?_
  refine vs 3 ?_
  refine a8 d (λ m d=>?_) (λ m d=>?_)
  ·refine U.kn 18 m ?_
   refine vs 1 ?_
   refine ld 1 aI z0 ?_
   refine vs 4 ?_
   refine er ?_
   cases av d
   exact rt func184 (.tmp rfl .nil) (so sr) (f _ _ _ aG)
  refine U.kn 18 m ?_
  refine vs 6 ?_
  refine er ?_
  cases av d
  exact rt func184 (.tmp rfl .nil) (so sr) (f _ _ _ aG)
 refine U.kn 11 g ?_
 refine vs 13 ?_
 refine er ?_
 cases av d
 exact rt func184 (.tmp rfl .nil) (so sr) (f _ _ _ aG)
theorem Ig(f:bg){z D:Value}(m:ah dx 2 R z f.a4)(_:ah c0 5 R D f.aN){r:Int}(d:pB f=some r):aL af 182 #[.agg #[iv f.a9,iv f.bh,iv f.a5,z,D]] R H (λ v R' H'=>R=R'∧H=H'∧v=iv r):=by
 unfold pB at d
 refine aY func182 31 λ fr cs g=>?_
 refine sg aC ?_
 refine bx λ gx=>?_
 refine vs 1 ?_
 refine es ?_
 refine sg b4 ?_
 refine vs 2 ?_
 refine ld 3 gU z0 ?_
 refine ls m underlying29 ?_
 have ⟨an,L,d⟩:=ae d
 refine U.cv jR (jZ (f.a4.length:Int) 1 3  L) ?_
 rintro _ _ _ ⟨rfl,rfl,rfl⟩
 refine vs 1 ?_
 refine er ?_
 refine sc d ?_ ?_<;>intro ab d
 ·refine sg aB ?_
  refine vs 1 ?_
  refine er ?_
  cases av d
  exact rt func182 (.tmp rfl .nil) (so sr) (g _ _ _ aG)
 refine sp ?_
 refine sq ?_
 refine sg bA ?_
 refine vs 2 ?_
 refine ld 3 gU z0 ?_
 refine ls m underlying29 ?_
 refine vs 1 ?_
 refine er ?_
 refine U.aP ?_
 refine U.aR (H':=H) (so sr) ?_
 refine U.dy d (λ (C:Int) R' H' aa=>R=R'∧H=H'∧aA aa [(13,z),(14,iv (f.a4.length:Int)),(15,iv C)]) (λ (O:Unit) R' H' aa=>R=R'∧H=H'∧aA aa []) 0 rfl ⟨rfl,rfl,aq du⟩ ?_ ?_
 rotate_right
 ·rintro C T Q ak ⟨rfl,rfl,J⟩ ao d E F A
  refine U.sub J ?_
  refine sg aB ?_
  refine vs 1 ?_
  refine es ?_
  refine sc d ?_ ?_<;>intro ac d
  ·refine sp ?_
   refine sq ?_
   refine U.aP ?_
   refine sg bb ?_
   have ⟨P,M,d⟩:=ae d
   obtain ⟨Y,ag,_,rfl,G,I⟩:=m.elem qe M
   refine bX I ?_
   refine U.s rfl rfl (Ox.bB (vs:=[_,_]) rfl rfl cB rfl (G.any.part (j:=0) (n:=2) rfl) rfl (.put rfl) ?_)
   refine bu (#[iv 0,iv 0]) fT λ W=>?_
   refine bC (#[_,_]) cB .here ?_
   refine nx hW ?_
   refine lN [_,_] 0 2 cB z0 ?_
   have ⟨ap,N,d⟩:=ae d
   refine U.cv DF (Ii P (-3) 3  N) ?_
   rintro _ _ _ ⟨rfl,rfl,rfl⟩
   refine vs 2 ?_
   refine a8 d (λ y d=>?_) (λ y d=>?_)
   ·refine U.kn 22 y ?_
    refine vs 7 ?_
    refine er ?_
    refine U.cond_true rfl ?_
    refine sg aB ?_
    refine vs 1 ?_
    refine er ?_
    replace d:=A _ (au d)
    cases av d
    exact rt func182 (.tmp rfl .nil) (so sr) (g _ _ _ aG)
   refine U.kn 22 y ?_
   refine vs 1 ?_
   refine ld 1 aI z0 ?_
   refine vs 1 ?_
   refine ld 0 aI z0 ?_
   refine vs 3 ?_
   refine er ?_
   refine sc d ?_ ?_<;>intro ad d
   ·refine sg aB ?_
    refine vs 1 ?_
    refine er ?_
    replace d:=A _ (au d)
    cases av d
    exact rt func182 (.tmp rfl .nil) (so sr) (g _ _ _ aG)
   refine sp ?_
   refine U.a0 ?_
   refine U.rg aC ?_
   refine vs 2 ?_
   refine er ?_
   exact U.aR (so sr) (E _ (au d) _ _ _ ⟨rfl,rfl,aq du⟩)
  exact U.bw rfl (F _ (au d) _ _ _ ⟨rfl,rfl,cV.sub trivial⟩)
 rintro O V S am ⟨rfl,rfl,K⟩ d
 refine U.sub K ?_
 refine sg aB ?_
 refine vs 1 ?_
 refine er ?_
 cases av d
 exact rt func182 (.tmp rfl .nil) sr (g _ _ _ aG)
theorem Ij(f:de)  {r:Bool} (d:pE f=some r):aL af 185 #[.agg #[iv f.aQ,iv f.aZ]] R H (λ v R' H'=>R=R'∧H=H'∧v = .bool r):=by
 unfold pE at d
 refine aY func185 11 λ fr cs m=>?_
 refine sg aC ?_
 refine bx λ z=>?_
 refine vs 1 ?_
 refine nx dW ?_
 refine vs 1 ?_
 refine ld 0 aI z0 ?_
 have ⟨A,s,d⟩:=ae d
 refine U.cv jR (jZ f.aQ (-20) 20  s) ?_
 rintro _ _ _ ⟨rfl,rfl,rfl⟩
 refine vs 1 ?_
 refine a8 d (λ g d=>?_) (λ g d=>?_)
 ·refine U.kn 6 g ?_
  refine vs 1 ?_
  refine ld 1 aI z0 ?_
  have ⟨C,y,d⟩:=ae d
  refine U.cv jR (jZ f.aZ (-20) 20  y) ?_
  rintro _ _ _ ⟨rfl,rfl,rfl⟩
  refine vs 2 ?_
  refine er ?_
  cases av d
  exact rt func185 (.tmp rfl .nil) (so sr) (m _ _ _ aG)
 refine U.kn 6 g ?_
 refine vs 5 ?_
 refine er ?_
 cases av d
 exact rt func185 (.tmp rfl .nil) (so sr) (m _ _ _ aG)
theorem zw(g:Bool)  {r:Int} (d:oc g=some r):aL af 99 #[.bool g] R H (λ v R' H'=>R=R'∧H=H'∧v=iv r):=by
 unfold oc at d
 refine aY func99 5 λ fr cs f=>?_
 refine sg aB ?_
 refine vs 1 ?_
 refine es ?_
 refine sg aC ?_
 refine vs 2 ?_
 refine er ?_
 refine sc d ?_ ?_<;>intro m d
 ·refine sg aB ?_
  refine vs 1 ?_
  refine er ?_
  cases av d
  exact rt func99 (.tmp rfl .nil) sr (f _ _ _ aG)
 refine sp ?_
 refine sg aB ?_
 refine vs 1 ?_
 refine er ?_
 cases av d
 exact rt func99 (.tmp rfl .nil) sr (f _ _ _ aG)
theorem Ik(d:bg)(x1:Int){g m:Value}(s:ah dx 2 R g d.a4)(_:ah c0 5 R m d.aN){r:Int}(f:pF d x1=some r):aL af 186 #[.agg #[iv d.a9,iv d.bh,iv d.a5,g,m],iv x1] R H (λ v R' H'=>R=R'∧H=H'∧v=iv r):=by
 unfold pF at f
 refine aY func186 13 λ fr cs y=>?_
 refine sg aC ?_
 refine bx λ D=>?_
 refine vs 1 ?_
 refine nx dW ?_
 refine vs 3 ?_
 refine ld 3 gU z0 ?_
 refine ls s underlying29 ?_
 refine vs 1 ?_
 have ⟨C,z,f⟩:=ae f
 refine U.cv jR (jZ x1 0 (i64 ((d.a4.length:Int) - 1))  z) ?_
 rintro _ _ _ ⟨rfl,rfl,rfl⟩
 have ⟨F,A,f⟩:=ae f
 refine U.cv xO (zw C  A) ?_
 rintro _ _ _ ⟨rfl,rfl,rfl⟩
 refine vs 1 ?_
 refine er ?_
 cases av f
 exact rt func186 (.tmp rfl .nil) (so sr) (y _ _ _ aG)
theorem Ih(f:bg){C m:Value}(M:ah dx 2 R C f.a4)(z:ah c0 5 R m f.aN){r:Int}(d:pC f=some r):aL af 183 #[.agg #[iv f.a9,iv f.bh,iv f.a5,C,m]] R H (λ v R' H'=>R=R'∧H=H'∧v=iv r):=by
 unfold pC at d
 refine aY func183 36 λ fr cs A=>?_
 refine sg aC ?_
 refine bx λ y=>?_
 refine vs 1 ?_
 refine es ?_
 refine sg bA ?_
 refine vs 2 ?_
 refine ld 4 eM z0 ?_
 refine ls z underlying30 ?_
 refine vs 1 ?_
 refine er ?_
 refine sc d ?_ ?_<;>intro aw d
 ·refine sg aB ?_
  refine vs 1 ?_
  refine er ?_
  cases av d
  exact rt func183 (.tmp rfl .nil) (so sr) (A _ _ _ aG)
 refine sp ?_
 refine sq ?_
 refine sg bA ?_
 refine vs 2 ?_
 refine ld 4 eM z0 ?_
 refine ls z underlying30 ?_
 refine vs 1 ?_
 refine er ?_
 refine U.aP ?_
 refine U.dy d (λ (E:Int) R' H' aa=>R=R'∧H'=(y,.cells #[iv f.a9,iv f.bh,iv f.a5,C,m] 100)::H∧aA aa [(1,pT y),(12,m),(13,iv (f.aN.length:Int)),(14,iv E)]) (λ (Z:Unit) R' H' aa=>R=R'∧H=H'∧aA aa []) 0 rfl ⟨rfl,rfl,aq bt⟩ ?_ ?_
 rotate_right
 ·rintro E ak ac aF ⟨rfl,rfl,Q⟩ aT d K L I
  refine U.sub Q ?_
  refine sg aB ?_
  refine vs 1 ?_
  refine es ?_
  refine sc d ?_ ?_<;>intro ao d
  ·refine sp ?_
   refine sq ?_
   refine U.aP ?_
   refine sg bb ?_
   have ⟨g,T,d⟩:=ae d
   obtain ⟨an,ax,_,rfl,N,O⟩:=z.elem je T
   refine bX O ?_
   refine U.s rfl rfl (Ox.bB (vs:=[_,_,_,_,_]) rfl rfl iB rfl (N.any.part (j:=0) (n:=5) rfl) rfl (.put rfl) ?_)
   refine bu (#[iv 0,iv 0,iv 0,iv 0,.bool false]) qs λ F=>?_
   refine bC (#[_,_,_,_,_]) iB .here ?_
   refine er ?_
   refine U.aP ?_
   refine sq ?_
   refine U.da d (λ (J:Bool) R' H' aa=>R=R'∧H'=(F,.cells #[iv g.U.aQ,iv g.U.aZ,iv g.dS,iv g.cz,.bool g.dG] 48)::(y,.cells #[iv f.a9,iv f.bh,iv f.a5,C,m] 100)::H∧aA aa [(1,pT y),(4,pT F),(12,m),(13,iv (f.aN.length:Int)),(14,iv E),(18,.bool J)])  ?_ ?_
   rotate_right
   ·intro aJ d G
    refine U.rg hW ?_
    refine vs 1 ?_
    refine lN [_,_] 0 2 gw z0 ?_
    have ⟨aK,V,d⟩:=ae d
    refine U.cv DG (Ij g.U  V) ?_
    rintro _ _ _ ⟨rfl,rfl,rfl⟩
    refine vs 2 ?_
    refine a8 d (λ D d=>?_) (λ D d=>?_)
    ·refine U.kn 23 D ?_
     refine vs 6 ?_
     refine er ?_
     exact G _ (au d) _ _ _ ⟨rfl,rfl,aq cS⟩
    refine U.kn 23 D ?_
    refine vs 1 ?_
    refine ld 2 aI z0 ?_
    have ⟨aM,W,d⟩:=ae d
    refine U.cv jR (jZ g.dS 0 7  W) ?_
    rintro _ _ _ ⟨rfl,rfl,rfl⟩
    refine vs 3 ?_
    refine er ?_
    exact G _ (au d) _ _ _ ⟨rfl,rfl,aq cS⟩
   rintro J ag ab az ⟨rfl,rfl,P⟩ d
   refine U.sub P ?_
   refine sc d ?_ ?_<;>intro ap d
   ·refine sg aB ?_
    refine vs 1 ?_
    refine er ?_
    replace d:=I _ (au d)
    cases av d
    exact rt func183 (.tmp rfl .nil) (so (so sr)) (A _ _ _ aG)
   refine sg b4 ?_
   refine lN [_,_,_,_,_] 0 5 lS z1 ?_
   refine vs 1 ?_
   refine ld 3 aI z0 ?_
   have ⟨aO,Y,d⟩:=ae d
   refine U.cv DH (Ik f g.cz M z Y) ?_
   rintro _ _ _ ⟨rfl,rfl,rfl⟩
   refine vs 2 ?_
   refine er ?_
   refine sc d ?_ ?_<;>intro ar d
   ·refine sg aB ?_
    refine vs 1 ?_
    refine er ?_
    replace d:=I _ (au d)
    cases av d
    exact rt func183 (.tmp rfl .nil) (so (so sr)) (A _ _ _ aG)
   refine sp ?_
   refine U.a0 ?_
   refine U.a0 ?_
   refine U.rg aC ?_
   refine vs 2 ?_
   refine er ?_
   exact U.aR (so sr) (K _ (au d) _ _ _ ⟨rfl,rfl,aq bt⟩)
  exact U.bw rfl (U.aR (so sr) (L _ (au d) _ _ _ ⟨rfl,rfl,cV.sub trivial⟩))
 rintro Z am ad aH ⟨rfl,rfl,S⟩ d
 refine U.sub S ?_
 refine sg aB ?_
 refine vs 1 ?_
 refine er ?_
 cases av d
 exact rt func183 (.tmp rfl .nil) sr (A _ _ _ aG)
theorem zd(d:bg){z A:Value}(C:dX R)(m:ah dx 2 R z d.a4)(y:ah c0 5 R A d.aN){r:Int}(f:n3 d=some r):aL af 49 #[.agg #[iv d.a9,iv d.bh,iv d.a5,z,A]] R H (λ v R' H'=>R=R'∧H=H'∧v=iv r):=by
 unfold n3 at f
 refine aY func49 18 λ fr cs g=>?_
 refine sg aC ?_
 refine bx λ G=>?_
 refine vs 1 ?_
 refine es ?_
 refine sg aC ?_
 refine U.s rfl rfl (Ox.bB (vs:=[_,_,_]) rfl rfl BI rfl (C.1.any.part (j:=0) (n:=3) rfl) rfl (.put rfl) ?_)
 refine vs 1 ?_
 refine er ?_
 refine U.aP ?_
 refine U.enterLoop ?_
 refine sg aB ?_
 refine vs 1 ?_
 refine es ?_
 refine U.cond_true rfl ?_
 refine sp ?_
 refine sq ?_
 refine U.aP ?_
 refine sg aC ?_
 refine U.s rfl rfl (Ox.l6 rfl rfl rfl sI u5.1 (by decide) rfl rfl (.put rfl) ?_)
 refine vs 1 ?_
 refine nx bA ?_
 refine vs 1 ?_
 refine lN [_,_,_,_,_] 0 5 df z0 ?_
 refine cF (#[_,_,_,_,_]) qi ?_
 have ⟨L,D,f⟩:=ae f
 refine U.cv DC (Ie (⟨d.a9,d.bh,d.a5,d.a4,d.aN⟩:bg) m y D) ?_
 rintro _ _ _ ⟨rfl,rfl,rfl⟩
 refine vs 1 ?_
 refine nx aC ?_
 refine vs 2 ?_
 refine er ?_
 refine sc f ?_ ?_<;>intro I f
 ·refine sg aC ?_
  refine vs 2 ?_
  refine er ?_
  cases av f
  exact rt func49 (.tmp rfl .nil) (so sr) (g _ _ _ aG)
 refine sp ?_
 refine U.a0 ?_
 refine U.rg aC ?_
 refine vs 2 ?_
 refine er ?_
 refine U.inLoop ?_
 refine sg aB ?_
 refine vs 1 ?_
 refine es ?_
 refine U.cond_true rfl ?_
 refine sp ?_
 refine sq ?_
 refine U.aP ?_
 refine sg aC ?_
 refine U.s rfl rfl (Ox.l6 rfl rfl rfl sI u5.1 (by decide) rfl rfl (.put rfl) ?_)
 refine vs 1 ?_
 refine nx bA ?_
 refine vs 1 ?_
 refine lN [_,_,_,_,_] 0 5 df z0 ?_
 refine cF (#[_,_,_,_,_]) qi ?_
 have ⟨M,E,f⟩:=ae f
 refine U.cv DD (Ig (⟨d.a9,d.bh,d.a5,d.a4,d.aN⟩:bg) m y E) ?_
 rintro _ _ _ ⟨rfl,rfl,rfl⟩
 refine vs 1 ?_
 refine nx aC ?_
 refine vs 2 ?_
 refine er ?_
 refine sc f ?_ ?_<;>intro J f
 ·refine sg aC ?_
  refine vs 2 ?_
  refine er ?_
  cases av f
  exact rt func49 (.tmp rfl .nil) (so sr) (g _ _ _ aG)
 refine sp ?_
 refine U.a0 ?_
 refine U.rg aC ?_
 refine vs 2 ?_
 refine er ?_
 refine U.inLoop ?_
 refine sg aB ?_
 refine vs 1 ?_
 refine es ?_
 refine U.cond_true rfl ?_
 refine sp ?_
 refine sq ?_
 refine U.aP ?_
 refine sg aC ?_
 refine U.s rfl rfl (Ox.l6 rfl rfl rfl sI u5.1 (by decide) rfl rfl (.put rfl) ?_)
 refine vs 1 ?_
 refine nx bA ?_
 refine vs 1 ?_
 refine lN [_,_,_,_,_] 0 5 df z0 ?_
 refine cF (#[_,_,_,_,_]) qi ?_
 have ⟨N,F,f⟩:=ae f
 refine U.cv DE (Ih (⟨d.a9,d.bh,d.a5,d.a4,d.aN⟩:bg) m y F) ?_
 rintro _ _ _ ⟨rfl,rfl,rfl⟩
 refine vs 1 ?_
 refine nx aC ?_
 refine vs 2 ?_
 refine er ?_
 refine sc f ?_ ?_<;>intro K f
 ·refine sg aC ?_
  refine vs 2 ?_
  refine er ?_
  cases av f
  exact rt func49 (.tmp rfl .nil) (so sr) (g _ _ _ aG)
 refine sp ?_
 refine U.a0 ?_
 refine U.rg aC ?_
 refine vs 2 ?_
 refine er ?_
 refine U.inLoop ?_
 refine sg aB ?_
 refine vs 1 ?_
 refine es ?_
 refine U.cond_false rfl ?_
 refine U.bw rfl ?_
 refine sg aB ?_
 refine vs 1 ?_
 refine er ?_
 cases av f
 exact rt func49 (.tmp rfl .nil) (so sr) (g _ _ _ aG)
theorem HA(f:bg){C m:Value}(_:ah dx 2 R C f.a4)(z:ah c0 5 R m f.aN){r:Int}(d:ps f=some r):aL af 135 #[.agg #[iv f.a9,iv f.bh,iv f.a5,C,m]] R H (λ v R' H'=>R=R'∧H=H'∧v=iv r):=by
 unfold ps at d
 refine aY func135 23 λ fr cs G=>?_
 refine sg aC ?_
 refine bx λ S=>?_
 refine vs 1 ?_
 refine nx aB ?_
 refine vs 1 ?_
 refine es ?_
 refine sg bA ?_
 refine vs 2 ?_
 refine ld 4 eM z0 ?_
 refine ls z underlying30 ?_
 refine vs 1 ?_
 refine er ?_
 refine U.aP ?_
 refine U.aR (H':=H) (so sr) ?_
 refine U.cQ d (λ (g:(Int × Int)) R' H' aa=>R=R'∧H=H'∧aA aa [(3,iv g.1),(8,m),(9,iv (f.aN.length:Int)),(10,iv g.2)]) (λ (A:Int) R' H' aa=>R=R'∧H=H'∧aA aa [(3,iv A)]) 0 rfl ⟨rfl,rfl,aq bt⟩ ?_ ?_
 rotate_right
 ·rintro g P N ac ⟨rfl,rfl,I⟩ ag d y D
  refine U.sub I ?_
  refine sg aB ?_
  refine vs 1 ?_
  refine es ?_
  refine sc d ?_ ?_<;>intro Y d
  ·refine sp ?_
   refine sq ?_
   refine U.aP ?_
   refine sg b4 ?_
   refine vs 1 ?_
   have ⟨ak,K,d⟩:=ae d
   obtain ⟨V,ab,_,rfl,E,F⟩:=z.elem je K
   refine bX F ?_
   refine U.s rfl rfl (Ox.bB (vs:=[_,_,_,_,_]) rfl rfl iB rfl (E.any.part (j:=0) (n:=5) rfl) rfl (.put rfl) ?_)
   refine bu (#[iv 0,iv 0,iv 0,iv 0,.bool false]) qs λ T=>?_
   refine vs 1 ?_
   refine bC (#[_,_,_,_,_]) iB .here ?_
   refine nx aC ?_
   refine vs 1 ?_
   refine ld 4 eN z0 ?_
   refine er ?_
   refine sc d ?_ ?_<;>intro Z d
   ·refine U.rg bA ?_
    refine vs 2 ?_
    have ⟨am,L,d⟩:=ae d
    refine U.s rfl rfl (Ox.shl rfl rfl rfl L rfl (.put rfl) ?_)
    have ⟨an,M,d⟩:=ae d
    refine U.s rfl rfl (Ox.bits rfl rfl rfl M rfl (.put rfl) ?_)
    refine vs 1 ?_
    refine er ?_
    refine U.a0 ?_
    refine U.rg aC ?_
    refine vs 2 ?_
    refine er ?_
    exact U.aR (so sr) (y _ (au d) _ _ _ ⟨rfl,rfl,aq bt⟩)
   refine sp ?_
   refine U.a0 ?_
   refine U.rg aC ?_
   refine vs 2 ?_
   refine er ?_
   exact U.aR (so sr) (y _ (au d) _ _ _ ⟨rfl,rfl,aq bt⟩)
  exact U.bw rfl (D _ (au d) _ _ _ ⟨rfl,rfl,aq eD⟩)
 rintro A Q O ad ⟨rfl,rfl,J⟩ d
 refine U.sub J ?_
 refine sg aC ?_
 refine vs 2 ?_
 refine er ?_
 cases av d
 exact rt func135 (.tmp rfl .nil) sr (G _ _ _ aG)
theorem H3{S:Type}{ys:cL→S→Option (S × Bool)}{ar:Value}(k:Nat):∀ {Inv:S→ay→aj→Prop} {R:ay} {Hy:aj} (_:eI af R (eT qt) ar ys Inv) (I:Int) (x1:bg) (x3:cL) {Q:S} (_:Inv Q R Hy) {T V:Value} {J N f L K:Nat} (_:aK R [] J 0 [iv x1.a9,iv x1.bh,iv x1.a5,T,V]) (_:ah dx 2 R T x1.a4) (_:ah c0 5 R V x1.aN) (_:aK R [] N 0 [ar]) (_:x3.off.length=3) (_:aK R [] K 0 [.func (.func 153) #[] #[pT J,pT N,pT f,pT K]]) {r:(S × (cL × Bool))} (_:hM ys k I x1 x3 Q=some r),aL af 153 #[iv I,pT J,pT N,pT f,pT K] R ((f,.cells (List.toArray ([iv x3.at_.aQ,iv x3.at_.aZ]++(x3.off.map (Value.int .i64)++[]))) L)::Hy) (λ v R' H'=>aH R R'∧∃ kv,Inv r.1 R' kv∧r.2.1.off.length=3∧H'=(f,.cells (List.toArray ([iv r.2.1.at_.aQ,iv r.2.1.at_.aZ]++(r.2.1.off.map (Value.int .i64)++[]))) L)::kv∧v = .bool r.2.2):=by
 induction k with
 | zero=>intro Inv R Hy g I x1 x3 Q P T V J N f L K z y E A G D r d; exact absurd d (by simp [hM])
 | succ k a8 =>
  intro Inv R Hy g I x1 x3 Q P T V J N f L K z y E A G D r d
  rw [hM] at d
  refine aY func153 44 λ fr cs ac=>?_
  refine sg aB ?_
  refine vs 1 ?_
  refine es ?_
  refine sg b4 ?_
  refine vs 3 ?_
  refine U.ld gU (z.any.one (j:=3) rfl) ?_
  refine ls y underlying29 ?_
  refine vs 1 ?_
  refine er ?_
  refine sc d ?_ ?_<;>intro bq d
  ·refine sq ?_
   have ⟨bC,a1,d⟩:=ae d
   refine U.rg bb ?_
   refine U.ld Ka (A.any.one (j:=0) rfl) ?_
   refine U.s rfl rfl (Ox.bB (vs:=_) rfl rfl oQ (by simp [G]) ((aK.box z0).part (j:=0) (n:=5) (dd (by simp [G]))) rfl (.put rfl) ?_)
   refine U.qg rfl rfl rfl rfl rfl rfl rfl rfl ((g.call [(f,_)] (rr) P ⟨_,rfl,⟨G,rfl⟩⟩ a1).mono ?_)
   rintro _ bm _ ⟨ab,rfl,aw,aG,Y⟩
   replace Y:_=(f,_)::aw:=Y
   subst Y
   replace A:=A.up (H:=[]) ab
   replace g:=g.up ab
   refine ⟨_,(.put rfl),?_⟩
   refine vs 1 ?_
   refine er ?_
   cases av d
   exact rt func153 (.tmp rfl .nil) sr (ac _ _ _ ⟨ab,_,aG,G,br⟩)
  refine sp ?_
  refine sq ?_
  refine sq ?_
  have ⟨bD,a2,d⟩:=ae d
  refine U.rg cX ?_
  refine vs 2 ?_
  refine U.ld gU (z.any.one (j:=3) rfl) ?_
  refine vs 1 ?_
  obtain ⟨bo,bu,_,rfl,aJ,aR⟩:=y.elem qe a2
  refine bX aR ?_
  refine vs 1 ?_
  refine U.ld aI (aJ.any.one (j:=0) rfl) ?_
  refine vs 1 ?_
  refine er ?_
  refine U.aP ?_
  refine U.dy d (λ (m:(S × Int × Int × Int × (List Int))) R' H' aa=>aH R R'∧∃ O,Inv m.1 R' O∧m.2.2.2.2.length=3∧H'=(f,.cells (List.toArray ([iv m.2.2.1,iv m.2.2.2.1]++(m.2.2.2.2.map (Value.int .i64)++[]))) L)::O∧aA aa [(0,iv I),(1,pT J),(3,pT f),(4,pT K),(7,iv m.2.1)]) (λ (M:(S × Int × Int × (List Int))) R' H' aa=>aH R R'∧∃ W,Inv M.1 R' W∧M.2.2.2.length=3∧H'=(f,.cells (List.toArray ([iv M.2.1,iv M.2.2.1]++(M.2.2.2.map (Value.int .i64)++[]))) L)::W∧aA aa [(3,pT f)]) 0 rfl ⟨rr,Hy,P,G,rfl,aq b2⟩ ?_ ?_
  rotate_right
  ·rintro m bi be bx ⟨C,O,am,ag,rfl,aU⟩ bF d az aC bd
   refine U.sub aU ?_
   have ⟨y,E⟩:=dC C y E
   replace z:=z.up (H:=[]) C
   replace A:=A.up (H:=[]) C
   replace D:=D.up (H:=[]) C
   replace g:=g.up C
   refine sq ?_
   refine sq ?_
   have ⟨bG,a6,d⟩:=ae d
   refine U.rg dW ?_
   refine vs 3 ?_
   refine U.ld gU (z.any.one (j:=3) rfl) ?_
   refine vs 1 ?_
   obtain ⟨bp,bv,_,rfl,aO,aT⟩:=y.elem qe a6
   refine bX aT ?_
   refine vs 1 ?_
   refine U.ld aI (aO.any.one (j:=1) rfl) ?_
   refine vs 1 ?_
   refine er ?_
   refine sc d ?_ ?_<;>intro bs d
   ·refine sp ?_
    refine sq ?_
    refine U.aP ?_
    refine sq ?_
    have ⟨bH,ad,d⟩:=ae d
    refine U.rg bA ?_
    refine vs 3 ?_
    refine bX (h6 wh ag ad) ?_
    refine U.s rfl rfl (Ox.dE rfl rfl rfl aI rfl .here (qC ad rfl) (qD ad rfl) rfl (.refl _) ?_)
    refine es ?_
    have ⟨bI,a7,d⟩:=ae d
    refine U.rg bA ?_
    refine U.ld u4 (D.any.one (j:=0) rfl) ?_
    refine vs 2 ?_
    refine U.step rfl rfl rfl (Ox.b5 rfl rfl rfl rfl xz rfl rfl ((a8 (g.frame []) (i64 (I+1)) x1 (⟨⟨m.2.2.1,m.2.2.2.1⟩,m.2.2.2.2.set I.toNat m.2.1⟩:cL) ⟨_,am,rfl⟩ z.any y E A ((List.length_set).trans ag) D a7).mono ?_))
    rintro _ bn _ ⟨F,ax,⟨ak,an,Z⟩,ap,rfl,rfl⟩
    replace Z:ak=ax:=Z.symm
    subst Z
    have ⟨y,E⟩:=dC F y E
    replace z:=z.up (H:=[]) F
    replace A:=A.up (H:=[]) F
    replace D:=D.up (H:=[]) F
    replace g:=g.up F
    refine ⟨_,(.put rfl),?_⟩
    refine vs 1 ?_
    refine er ?_
    refine sc d ?_ ?_<;>intro bt d
    ·refine sg aB ?_
     refine vs 1 ?_
     refine er ?_
     replace d:=bd _ (au d)
     cases av d
     exact rt func153 (.tmp rfl .nil) sr (ac _ _ _ ⟨(C.trans F),_,an,ap,br⟩)
    refine sp ?_
    refine U.a0 ?_
    refine U.rg aM ?_
    refine vs 3 ?_
    refine er ?_
    exact az _ (au d) _ _ _ ⟨(C.trans F),ak,an,ap,rfl,aq b2⟩
   exact U.bw rfl (aC _ (au d) _ _ _ ⟨C,O,am,ag,rfl,aq eD⟩)
  rintro M bk bf bz ⟨ao,W,aF,ba,rfl,aV⟩ d
  refine U.sub aV ?_
  replace g:=g.up ao
  refine sg aB ?_
  refine vs 1 ?_
  refine er ?_
  cases av d
  exact rt func153 (.tmp rfl .nil) sr (ac _ _ _ ⟨ao,_,aF,ba,br⟩)
theorem HB{S:Type}{ys:cL→S→Option (S × Bool)}{aw:Value}{Inv:S→ay→aj→Prop}{R:ay}{Hy:aj}(f:eI af R (eT qt) aw ys Inv)(C:bg){ao:S}(E:Inv ao R Hy){ap ar:Value}(z:ah dx 2 R ap C.a4)(A:ah c0 5 R ar C.aN){r:S}(d:nL ys C ao=some r):aL af 136 #[.agg #[iv C.a9,iv C.bh,iv C.a5,ap,ar],aw] R Hy (λ v R' H'=>aH R R'∧Inv r R' H'∧v = .tuple #[]):=by
 unfold nL at d
 refine aY func136 34 λ fr cs am=>?_
 refine sg aC ?_
 refine bx λ aK=>?_
 refine U.s rfl rfl (Ox.iF rfl rfl f.cells rfl λ Z _ _=>⟨_,(.put rfl),?_⟩)
 refine nx aB ?_
 refine bu (List.toArray ([iv 0,iv 0]++([0,0,0].map (Value.int .i64)++[]))) Bw λ y=>?_
 refine nx aB ?_
 refine bu (#[.nilFunc]) Mr λ M=>?_
 refine nx aC ?_
 refine U.s rfl rfl (Ox.makeFunc (vs:=#[]) (us:=#[_,_,_,_]) rfl rfl rfl rfl (.put rfl) ?_)
 refine eC (#[_]) u4 .here ?_
 refine es ?_
 refine U.fZ (H2:=(M,_)::(y,_)::(Z,_)::Hy) (λ X=>(M,_)::(y,_)::(Z,_)::X++(Hy)) (.cons (.cons (.cons .id))) rfl (λ bk N m=>?_)
 have ⟨z,A⟩:=dC N z A
 replace E:=f.mono (rr) N E
 replace f:=f.up N
 refine U.fZ (H2:=(M,_)::(y,_)::Hy) (λ X=>(M,_)::(y,_)::X++(Hy)) (.cons (.cons .id)) rfl (λ bm I G=>?_)
 have ⟨z,A⟩:=dC I z A
 replace E:=f.mono (rr) I E
 replace m:=m.up (H:=[]) I
 replace f:=f.up I
 refine U.fZ (H2:=(y,_)::Hy) (λ X=>X++((y,_)::Hy)) .id rfl (λ Y F L=>?_)
 have ⟨z,A⟩:=dC F z A
 replace E:=f.mono (rr) F E
 replace m:=m.up (H:=[]) F
 replace G:=G.up (H:=[]) F
 replace f:=f.up F
 refine U.rg cX ?_
 refine vs 2 ?_
 refine U.ld aI (m.any.one (j:=0) rfl) ?_
 refine vs 2 ?_
 refine U.ld aI (m.any.one (j:=1) rfl) ?_
 refine vs 2 ?_
 refine er ?_
 refine U.aP ?_
 refine U.dy d (λ (g:(S × Int × Int × Int × (List Int))) R' H' aa=>aH Y R'∧∃ O,Inv g.1 R' O∧g.2.2.2.2.length=3∧H'=(y,.cells (List.toArray ([iv g.2.2.1,iv g.2.2.2.1]++(g.2.2.2.2.map (Value.int .i64)++[]))) 170)::O∧aA aa [(2,pT aK),(4,pT y),(5,pT M),(14,iv (i64 (C.a9 * C.bh))),(15,iv g.2.1)]) (λ (an:S) R' H' aa=>aH Y R'∧∃ P,Inv an R' P∧P=H'∧aA aa []) 0 rfl ⟨rr,Hy,E,rfl,rfl,aq b2⟩ ?_ ?_
 rotate_right
 ·rintro g bf bd br ⟨D,O,ab,a8,rfl,aV⟩ bt d az aO bb
  refine U.sub aV ?_
  have ⟨z,A⟩:=dC D z A
  replace m:=m.up (H:=[]) D
  replace G:=G.up (H:=[]) D
  replace L:=L.up (H:=[]) D
  replace f:=f.up D
  refine sg aB ?_
  refine vs 1 ?_
  refine es ?_
  refine sc d ?_ ?_<;>intro bp d
  ·refine sp ?_
   refine sq ?_
   refine U.aP ?_
   refine sg aC ?_
   refine vs 2 ?_
   refine es ?_
   refine U.draw (n:=13) (is:=[0,1,2,3,4,5,6,7,8,9,10,11,12]) (many ((y,.cells (List.toArray ([iv g.2.2.1,iv g.2.2.2.1]++(g.2.2.2.2.map (Value.int .i64)++[]))) 170)::[]) [(12,[])]) mixed rfl (by decide +kernel) rfl rfl ?_
   refine Any.vs 3 [0,1,2] rfl ?_
   refine ts 3 [4,10,11,12] rfl (aF rfl (aU (su (so sr)))) (su (so sn)) (kU aI 0 m) ?_
   have ⟨T,a2,d⟩:=ae d
   refine ts 4 [10,11,12] rfl (aF rfl (aU (su (so sr)))) (su (so sn)) (λ R' H' ad ak=>Ox.rem rfl rfl rfl a2 rfl (.one rfl) aG) ?_
   refine Any.vs 3 [5,6,7] rfl ?_
   refine ts 8 [9,10,11,12] rfl (aF rfl (aU (su (so sr)))) (su (so sn)) (kU aI 0 m) ?_
   have ⟨V,a6,d⟩:=ae d
   refine ts 9 [10,11,12] rfl (aF rfl (aU (su (so sr)))) (su (so sn)) (λ R' H' ad ak=>Ox.quo rfl rfl rfl a6 rfl (.one rfl) aG) ?_
   refine ts 10 [11,12] rfl (aF rfl (aU (su (so sr)))) (su (so sn)) (λ R' H' ad ak=>Ox.build (cells:=#[_,_]) rfl AM rfl (ca rfl rfl rfl rfl (ca rfl rfl rfl rfl cE)) rfl (.one rfl) aG) ?_
   refine Any.vs 1 [11] rfl ?_
   refine Any.on 12 rfl rfl (aJ.to (Ox.cG (cs':=(List.toArray ([iv T,iv V]++(g.2.2.2.2.map (Value.int .i64)++[])))) rfl rfl rfl gw rfl (aW rfl (aW rfl bl)) .here (by simp) (Ks (old:=[iv g.2.2.1,iv g.2.2.2.1]) (vs:=[iv T,iv V]) rfl _) rfl (.refl _) ⟨rr,(bo rfl (su (so sn))),?_⟩))
   refine Any.done ?_
   refine sg aM ?_
   refine U.ld u4 (L.any.one (j:=0) rfl) ?_
   have ⟨bv,a7,d⟩:=ae d
   refine U.step rfl rfl rfl (Ox.b5 rfl rfl rfl rfl xz rfl rfl ((H3 9  (f.frame []) 0 C (⟨⟨T,V⟩,g.2.2.2.2⟩:cL) ⟨_,ab,rfl⟩ m.any z A G a8 L a7).mono ?_))
   rintro _ bn _ ⟨K,ax,⟨W,ac,Q⟩,ba,rfl,rfl⟩
   replace Q:W=ax:=Q.symm
   subst Q
   replace m:=m.up (H:=[]) K
   replace G:=G.up (H:=[]) K
   replace L:=L.up (H:=[]) K
   replace f:=f.up K
   refine ⟨_,(.put rfl),?_⟩
   refine vs 1 ?_
   refine er ?_
   refine sc d ?_ ?_<;>intro bq d
   ·replace d:=bb _ (au d)
    cases av d
    exact rt func136 .nil (so sr) (am _ _ _ ⟨((((N.trans I).trans F).trans D).trans K),ac,rfl⟩)
   refine sp ?_
   refine U.a0 ?_
   refine U.rg aC ?_
   refine vs 2 ?_
   refine er ?_
   exact az _ (au d) _ _ _ ⟨(D.trans K),W,ac,ba,rfl,aq b2⟩
  exact U.bw rfl (U.aR (so sr) (aO _ (au d) _ _ _ ⟨D,O,ab,rfl,cV.sub trivial⟩))
 rintro an bi be bs ⟨ag,P,aT,rfl,a1⟩ d
 refine U.sub a1 ?_
 replace f:=f.up ag
 cases av d
 exact U.g7 func136 .nil (J.drop sr (am _ _ _ ⟨(((N.trans I).trans F).trans ag),aT,rfl⟩))
theorem Ia(m:Bool)(x1:Bool)  {r:Int} (d:rv m x1=some r):aL af 163 #[.bool m,.bool x1] R H (λ v R' H'=>R=R'∧H=H'∧v=iv r):=by
 unfold rv at d
 refine aY func163 14 λ fr cs f=>?_
 refine sg aB ?_
 refine vs 1 ?_
 refine es ?_
 refine U.aP ?_
 refine sq ?_
 refine U.da d (λ (y:Bool) R' H' aa=>R=R'∧H=H'∧aA aa [(0,.bool m),(1,.bool x1),(5,.bool y)])  ?_ ?_
 rotate_right
 ·intro I d s
  refine U.rg bA ?_
  refine vs 2 ?_
  refine a8 d (λ g d=>?_) (λ g d=>?_)
  ·refine U.kn 7 g ?_
   refine vs 3 ?_
   refine er ?_
   exact s _ (au d) _ _ _ ⟨rfl,rfl,aq du⟩
  refine U.kn 7 g ?_
  refine vs 3 ?_
  refine er ?_
  exact s _ (au d) _ _ _ ⟨rfl,rfl,aq du⟩
 rintro y C A G ⟨rfl,rfl,z⟩ d
 refine U.sub z ?_
 refine sc d ?_ ?_<;>intro D d
 ·refine sg aB ?_
  refine vs 1 ?_
  refine er ?_
  cases av d
  exact rt func163 (.tmp rfl .nil) sr (f _ _ _ aG)
 refine sg aC ?_
 refine vs 2 ?_
 refine er ?_
 refine sc d ?_ ?_<;>intro E d
 ·refine sg aB ?_
  refine vs 1 ?_
  refine er ?_
  cases av d
  exact rt func163 (.tmp rfl .nil) sr (f _ _ _ aG)
 refine sg aC ?_
 refine vs 2 ?_
 refine er ?_
 refine sc d ?_ ?_<;>intro F d
 ·refine sg aB ?_
  refine vs 1 ?_
  refine er ?_
  cases av d
  exact rt func163 (.tmp rfl .nil) sr (f _ _ _ aG)
 refine sp ?_
 refine U.a0 ?_
 refine sg aB ?_
 refine vs 1 ?_
 refine er ?_
 cases av d
 exact rt func163 (.tmp rfl .nil) sr (f _ _ _ aG)
theorem H9(f:de)(x1:de)  {r:Int} (d:mw f x1=some r):aL af 161 #[.agg #[iv f.aQ,iv f.aZ],.agg #[iv x1.aQ,iv x1.aZ]] R H (λ v R' H'=>R=R'∧H=H'∧v=iv r):=by
 unfold mw at d
 refine aY func161 57 λ fr cs g=>?_
 refine sg aM ?_
 refine bx λ F=>?_
 refine bx λ G=>?_
 refine vs 1 ?_
 refine es ?_
 refine U.dw gW mixed ?_
 refine Any.vs 1 [0] rfl ?_
 refine tl 1 0 aI z0 ?_
 refine Any.vs 1 [2] rfl ?_
 refine tl 3 0 aI z1 ?_
 refine Any.vs 2 [4,5] rfl ?_
 refine tl 6 1 aI z0 ?_
 refine Any.vs 1 [7] rfl ?_
 refine tl 8 1 aI z1 ?_
 refine Any.vs 3 [9,10,11] rfl ?_
 refine Any.done ?_
 refine sg fz ?_
 refine vs 2 ?_
 refine U.s rfl rfl (Ox.mU rfl rfl rfl (.put rfl) ?_)
 refine U.s rfl rfl (Ox.max (a:=i64 (x1.aQ - f.aQ)) (l:=[i64 (0 - i64 (x1.aQ - f.aQ))]) rfl rfl rfl (.put rfl) ?_)
 refine vs 2 ?_
 refine U.s rfl rfl (Ox.mU rfl rfl rfl (.put rfl) ?_)
 refine U.s rfl rfl (Ox.max (a:=i64 (x1.aZ - f.aZ)) (l:=[i64 (0 - i64 (x1.aZ - f.aZ))]) rfl rfl rfl (.put rfl) ?_)
 refine vs 2 ?_
 refine es ?_
 refine U.aP ?_
 refine sg fz ?_
 refine vs 2 ?_
 refine U.s rfl rfl (Ox.min (a:=cy (i64 (x1.aQ - f.aQ)) [i64 (0 - i64 (x1.aQ - f.aQ))]) (l:=[cy (i64 (x1.aZ - f.aZ)) [i64 (0 - i64 (x1.aZ - f.aZ))]]) rfl rfl rfl (.put rfl) ?_)
 refine vs 3 ?_
 refine U.s rfl rfl (Ox.max (a:=cy (i64 (x1.aQ - f.aQ)) [i64 (0 - i64 (x1.aQ - f.aQ))]) (l:=[cy (i64 (x1.aZ - f.aZ)) [i64 (0 - i64 (x1.aZ - f.aZ))]]) rfl rfl rfl (.put rfl) ?_)
 refine vs 3 ?_
 refine er ?_
 refine sc d ?_ ?_<;>intro I d
 ·refine sg b4 ?_
  refine vs 4 ?_
  have ⟨N,C,d⟩:=ae d
  refine U.cv Dx (Ia (decide (i64 (x1.aQ - f.aQ) > 0)) (decide (i64 (x1.aZ - f.aZ) > 0))  C) ?_
  rintro _ _ _ ⟨rfl,rfl,rfl⟩
  refine vs 1 ?_
  refine er ?_
  cases av d
  exact rt func161 (.tmp rfl .nil) (so (so sr)) (g _ _ _ aG)
 refine sq ?_
 refine U.da d (λ (z:Bool) R' H' aa=>R=R'∧H=H'∧aA aa [(6,iv (i64 (x1.aZ - f.aZ))),(7,iv (cy (i64 (x1.aQ - f.aQ)) [i64 (0 - i64 (x1.aQ - f.aQ))])),(8,iv (cy (i64 (x1.aZ - f.aZ)) [i64 (0 - i64 (x1.aZ - f.aZ))])),(42,.bool z)])  ?_ ?_
 rotate_right
 ·intro O d y
  refine U.rg cX ?_
  refine vs 4 ?_
  refine a8 d (λ m d=>?_) (λ m d=>?_)
  ·refine U.kn 46 m ?_
   refine vs 4 ?_
   refine er ?_
   exact U.aR (so (so sr)) (y _ (au d) _ _ _ ⟨rfl,rfl,aq bt⟩)
  refine U.kn 46 m ?_
  refine vs 4 ?_
  refine er ?_
  exact U.aR (so (so sr)) (y _ (au d) _ _ _ ⟨rfl,rfl,aq bt⟩)
 rintro z E D M ⟨rfl,rfl,A⟩ d
 refine U.sub A ?_
 refine sc d ?_ ?_<;>intro J d
 ·refine sg aB ?_
  refine vs 1 ?_
  refine er ?_
  cases av d
  exact rt func161 (.tmp rfl .nil) sr (g _ _ _ aG)
 refine sg bb ?_
 refine vs 4 ?_
 refine er ?_
 refine sc d ?_ ?_<;>intro K d
 ·refine sg aB ?_
  refine vs 1 ?_
  refine er ?_
  cases av d
  exact rt func161 (.tmp rfl .nil) sr (g _ _ _ aG)
 refine sg aM ?_
 refine vs 3 ?_
 refine er ?_
 refine sc d ?_ ?_<;>intro L d
 ·refine sg aB ?_
  refine vs 1 ?_
  refine er ?_
  cases av d
  exact rt func161 (.tmp rfl .nil) sr (g _ _ _ aG)
 refine sp ?_
 refine U.a0 ?_
 refine sg aB ?_
 refine vs 1 ?_
 refine er ?_
 cases av d
 exact rt func161 (.tmp rfl .nil) sr (g _ _ _ aG)
theorem H4(f:bg)(x1:eH)(x2:cL){A C:Value}(_:ah dx 2 R A f.a4)(_:ah c0 5 R C f.aN)(F:x2.off.length=3){r:Bool}(d:px f x1 x2=some r):aL af 154 #[.agg #[iv f.a9,iv f.bh,iv f.a5,A,C],.agg #[iv x1.U.aQ,iv x1.U.aZ,iv x1.dS,iv x1.cz,.bool x1.dG],.agg (List.toArray ([iv x2.at_.aQ,iv x2.at_.aZ]++(x2.off.map (Value.int .i64)++[])))] R H (λ v R' H'=>R=R'∧H=H'∧v = .bool r):=by
 unfold px at d
 refine aY func154 30 λ fr cs y=>?_
 refine sg bb ?_
 refine bx λ G=>?_
 refine bx λ I=>?_
 refine bx λ J=>?_
 refine vs 1 ?_
 refine es ?_
 refine U.dw KW mixed ?_
 refine Any.vs 1 [0] rfl ?_
 refine tN 1 [_,_] 0 2 gw z1 ?_
 refine Any.vs 1 [2] rfl ?_
 refine tN 3 [_,_] 0 2 gw z0 ?_
 refine Any.tk 4 rfl pp (λ R' H' s g=>Ox.s7 rfl rfl rfl yg (tP _ _) rfl rfl (.one rfl) aG) ?_
 refine Any.vs 1 [5] rfl ?_
 refine a8 d (λ m d=>?_) (λ m d=>?_)
 ·refine Any.cK (t:=12) rfl m ?_
  refine Any.vs 18 [6,7,8,9,10,11,12,13,14,15,16,17,18,19,20,21,22,23] rfl ?_
  refine Any.done ?_
  cases av d
  exact rt func154 (.tmp rfl .nil) (so (so (so sr))) (y _ _ _ aG)
 refine Any.cK (t:=12) rfl m ?_
 refine Any.vs 1 [6] rfl ?_
 refine tN 7 [_,_] 0 2 gw z1 ?_
 refine Any.vs 1 [8] rfl ?_
 refine tN 9 [_,_] 0 2 gw z0 ?_
 refine Any.vs 1 [11] rfl ?_
 refine tl 12 3 aI z1 ?_
 refine Any.vs 1 [13] rfl ?_
 have ⟨M,D,d⟩:=ae d
 have ⟨N,z,d⟩:=ae d
 refine tQ 14 rfl (kI (h6 wh F z)) ?_
 refine Any.tk 15 rfl pp (λ R' H' s g=>Ox.gQ rfl rfl aI ((aK.box (g _ z0)).arr z rfl) rfl (.one rfl) aG) ?_
 refine Any.vs 1 [19] rfl ?_
 refine tl 20 2 aI z1 ?_
 refine Any.cv 10 Dw (H9 x1.U x2.at_  D) ?_
 rintro _ _ _ ⟨rfl,rfl,rfl⟩
 refine kp ?_
 refine Any.vs 2 [16,17] rfl ?_
 have ⟨O,E,d⟩:=ae d
 refine Any.tk 18 rfl pp (λ R' H' s g=>Ox.rem rfl rfl rfl E rfl (.one rfl) aG) ?_
 refine Any.vs 3 [21,22,23] rfl ?_
 refine Any.done ?_
 cases av d
 exact rt func154 (.tmp rfl .nil) (so (so (so sr))) (y _ _ _ aG)
theorem HC(f:bg)(x1:cL){A g:Value}(G:ah dx 2 R A f.a4)(m:ah c0 5 R g f.aN)(y:x1.off.length=3){r:Int}(d:nM f x1=some r):aL af 137 #[.agg #[iv f.a9,iv f.bh,iv f.a5,A,g],.agg (List.toArray ([iv x1.at_.aQ,iv x1.at_.aZ]++(x1.off.map (Value.int .i64)++[])))] R H (λ v R' H'=>R=R'∧H=H'∧v=iv r):=by
 unfold nM at d
 refine aY func137 28 λ fr cs K=>?_
 refine sg aM ?_
 refine bx λ gx=>?_
 refine bx λ D=>?_
 refine vs 1 ?_
 refine nx aB ?_
 refine vs 1 ?_
 refine es ?_
 refine sg bA ?_
 refine vs 2 ?_
 refine ld 4 eM z1 ?_
 refine ls m underlying30 ?_
 refine vs 1 ?_
 refine er ?_
 refine U.aP ?_
 refine U.cQ d (λ (z:(Int × Int)) R' H' aa=>R=R'∧H'=(D,.cells (List.toArray ([iv x1.at_.aQ,iv x1.at_.aZ]++(x1.off.map (Value.int .i64)++[]))) 170)::(gx,.cells #[iv f.a9,iv f.bh,iv f.a5,A,g] 100)::H∧aA aa [(2,pT gx),(3,pT D),(5,iv z.1),(10,g),(11,iv (f.aN.length:Int)),(12,iv z.2)]) (λ (E:Int) R' H' aa=>R=R'∧H=H'∧aA aa [(5,iv E)]) 0 rfl ⟨rfl,rfl,aq cS⟩ ?_ ?_
 rotate_right
 ·rintro z W T ak ⟨rfl,rfl,L⟩ an d C F
  refine U.sub L ?_
  refine sg aB ?_
  refine vs 1 ?_
  refine es ?_
  refine sc d ?_ ?_<;>intro ac d
  ·refine sp ?_
   refine sq ?_
   refine U.aP ?_
   refine sg b4 ?_
   refine vs 1 ?_
   have ⟨S,N,d⟩:=ae d
   obtain ⟨ab,ag,_,rfl,I,J⟩:=m.elem je N
   refine bX J ?_
   refine U.s rfl rfl (Ox.bB (vs:=[_,_,_,_,_]) rfl rfl iB rfl (I.any.part (j:=0) (n:=5) rfl) rfl (.put rfl) ?_)
   refine bu (#[iv 0,iv 0,iv 0,iv 0,.bool false]) qs λ Z=>?_
   refine vs 1 ?_
   refine bC (#[_,_,_,_,_]) iB .here ?_
   refine nx bA ?_
   refine lN [_,_,_,_,_] 0 5 lS z2 ?_
   refine lN [_,_,_,_,_] 0 5 iB z0 ?_
   refine U.s rfl rfl (Ox.bB (vs:=_) rfl rfl oQ (by simp [y]) ((aK.box z1).part (j:=0) (n:=5) (dd (by simp [y]))) rfl (.put rfl) ?_)
   have ⟨ao,O,d⟩:=ae d
   refine U.cv Dq (H4 f S x1 G m y O) ?_
   rintro _ _ _ ⟨rfl,rfl,rfl⟩
   refine vs 1 ?_
   refine er ?_
   refine sc d ?_ ?_<;>intro ad d
   ·refine U.rg bA ?_
    refine vs 2 ?_
    have ⟨ap,P,d⟩:=ae d
    refine U.s rfl rfl (Ox.shl rfl rfl rfl P rfl (.put rfl) ?_)
    have ⟨ar,Q,d⟩:=ae d
    refine U.s rfl rfl (Ox.bits rfl rfl rfl Q rfl (.put rfl) ?_)
    refine vs 1 ?_
    refine er ?_
    refine U.a0 ?_
    refine U.rg aC ?_
    refine vs 2 ?_
    refine er ?_
    exact U.aR (so sr) (C _ (au d) _ _ _ ⟨rfl,rfl,aq cS⟩)
   refine sp ?_
   refine U.a0 ?_
   refine U.rg aC ?_
   refine vs 2 ?_
   refine er ?_
   exact U.aR (so sr) (C _ (au d) _ _ _ ⟨rfl,rfl,aq cS⟩)
  exact U.bw rfl (U.aR (so (so sr)) (F _ (au d) _ _ _ ⟨rfl,rfl,aq eD⟩))
 rintro E Y V am ⟨rfl,rfl,M⟩ d
 refine U.sub M ?_
 refine sg aC ?_
 refine vs 2 ?_
 refine er ?_
 cases av d
 exact rt func137 (.tmp rfl .nil) sr (K _ _ _ aG)
theorem HD(C:Int)  {r:(List Int)} (d:ml C=some r):aL af 138 #[iv C] R H (λ v R' H'=>aH R R'∧H=H'∧∃ F,ah CZ 1 R' F r∧v=F):=by
 unfold ml at d
 refine aY func138 19 λ fr cs N=>?_
 refine sg aB ?_
 refine vs 1 ?_
 refine nx aB ?_
 refine vs 1 ?_
 refine es ?_
 refine sg aB ?_
 refine vs 1 ?_
 refine er ?_
 refine U.aP ?_
 refine U.cQ d (λ (m:((List Int) × Int)) R' H' aa=>R=R'∧∃ g f,aX CZ 1 3 R' g m.1 f∧H'=f++(H)∧aA aa [(0,iv C),(3,g),(5,iv m.2)]) (λ (E:(List Int)) R' H' aa=>R=R'∧∃ y z,aX CZ 1 3 R' y E z∧H'=z++(H)∧aA aa [(3,y)]) 0 rfl ⟨rfl,aw,[],aX.nil,rfl,aq du⟩ ?_ ?_
 rotate_right
 ·rintro m ac Z an ⟨rfl,g,f,A,rfl,Q⟩ ap d D J
  refine U.sub Q ?_
  refine sg aB ?_
  refine vs 1 ?_
  refine es ?_
  refine sc d ?_ ?_<;>intro ak d
  ·refine sp ?_
   refine sq ?_
   refine U.aP ?_
   refine sg aC ?_
   refine vs 2 ?_
   refine nx bA ?_
   refine vs 2 ?_
   have ⟨ar,T,d⟩:=ae d
   refine U.s rfl rfl (Ox.shr rfl rfl rfl T rfl (.put rfl) ?_)
   have ⟨ax,V,d⟩:=ae d
   refine U.s rfl rfl (Ox.bits rfl rfl rfl V rfl (.put rfl) ?_)
   refine vs 1 ?_
   refine er ?_
   refine sc d ?_ ?_<;>intro am d
   ·refine U.rg bA ?_
    refine vs 2 ?_
    refine dt (#[_]) cw c7 λ I=>?_
    have ⟨az,W,d⟩:=ae d
    refine U.s rfl rfl (Ox.append (K:=CZ) (λ X=>(I,_)::X++(H)) rfl rfl rfl eh underlying25 (by simp) (.cons .id) A (eB m.2 rfl) W rfl λ Y G P=>⟨_,(.put rfl),?_⟩)
    refine vs 1 ?_
    refine er ?_
    refine U.a0 ?_
    refine U.rg aC ?_
    refine vs 2 ?_
    refine er ?_
    exact U.aR (so sr) (D _ (au d) _ _ _ ⟨rfl,Y,G,P,rfl,aq du⟩)
   refine sp ?_
   refine U.a0 ?_
   refine U.rg aC ?_
   refine vs 2 ?_
   refine er ?_
   exact D _ (au d) _ _ _ ⟨rfl,g,f,A,rfl,aq du⟩
  exact U.bw rfl (J _ (au d) _ _ _ ⟨rfl,g,f,A,rfl,aq eD⟩)
 rintro E ad ab ao ⟨rfl,y,z,O,rfl,S⟩ d
 refine U.sub S ?_
 refine sg aC ?_
 refine vs 2 ?_
 refine er ?_
 refine U.dg (H2:=H) (λ X=>X++(H)) .id rfl O (λ ag L M=>?_)
 cases av d
 exact rt func138 (.tmp rfl .nil) sr (N _ _ _ ⟨L,rfl,y,M,rfl⟩)
end
end Go.Proofs.YtoaoffinglajbaaGreatDoor
