/- Walks, part 4: each function computes its model. -/
import Derived.Test.YtoaoffinglajbaaGreatDoorQBHbP3
namespace Go.Proofs.YtoaoffinglajbaaGreatDoor
open Go.Lg Go.Proofs Tryz
set_option maxRecDepth 100000
set_option maxHeartbeats 4000000
section
variable {B:Base} {main:Bool} {af:Jd prog B main} {R:ay} {H:aj}
theorem uq(g:(List Int))(x1:Int)(x2:Int){v0:Value}{d s:Nat}(y:bE CZ 1 R H v0 g){r:(Int × Int)}(f:h8 g x1 x2=some r):aL af 158 #[v0,iv x1,pT d] R ((d,.cells #[iv x2] s)::H) (λ v R' H'=>∃ m,(R=R'∧v=iv r.2∧m=[(d,.cells #[iv r.1] s)])∧H'=m++H):=by
 unfold h8 at f
 refine aY func158 15 λ fr cs z=>?_
 refine sg aB ?_
 refine vs 1 ?_
 refine nx dW ?_
 refine vs 7 ?_
 have ⟨C,A,f⟩:=ae f
 refine U.step rfl rfl rfl (Ox.b5 rfl rfl rfl rfl tp rfl rfl ((aL.hole (G:=(λ X=>X++(H))) (Hs:=[(d,_)]) .id (uu g (i64 (x1 - 1)) x1 (i64 (x1+1)) x2 (y.sub pp) A)).mono ?_))
 rintro _ _ _ ⟨_,⟨rfl,rfl,rfl⟩,rfl⟩
 refine ⟨_,(.put rfl),?_⟩
 refine vs 1 ?_
 refine er ?_
 cases av f
 exact rt func158 (.tmp rfl .nil) sr (z _ _ _ ⟨_,aG,rfl⟩)
theorem HM(g:(List Int))(x1:Int)(x2:Int){v0:Value}(m:bE CZ 1 R H v0 g){r:(Int × Int)}(d:kY g x1 x2=some r):aL af 143 #[v0,iv x1,iv x2] R H (λ v R' H'=>R=R'∧H=H'∧v = .tuple #[iv r.1,iv r.2]):=by
 unfold kY at d
 refine aY func143 57 λ fr cs z=>?_
 refine sg aC ?_
 refine vs 2 ?_
 refine nx bb ?_
 refine vs 4 ?_
 refine nx aB ?_
 refine bu (#[iv 0]) iw λ f=>?_
 refine nx b4 ?_
 refine vs 2 ?_
 have ⟨C,L,d⟩:=ae d
 refine U.s rfl rfl (Ox.quo rfl rfl rfl L rfl (.put rfl) ?_)
 refine vs 3 ?_
 refine nx b4 ?_
 refine vs 2 ?_
 have ⟨D,M,d⟩:=ae d
 refine U.s rfl rfl (Ox.quo rfl rfl rfl M rfl (.put rfl) ?_)
 refine vs 3 ?_
 refine nx b4 ?_
 refine vs 2 ?_
 have ⟨E,N,d⟩:=ae d
 refine U.s rfl rfl (Ox.quo rfl rfl rfl N rfl (.put rfl) ?_)
 refine vs 3 ?_
 refine es ?_
 refine sg aC ?_
 refine vs 2 ?_
 refine er ?_
 refine U.da d (λ (A:(Int × Int)) R' H' aa=>R=R'∧H'=(f,.cells #[iv A.2] 3)::H∧aA aa [(9,pT f),(11,iv A.1)])  ?_ ?_
 rotate_right
 ·intro ag d y
  refine sc d ?_ ?_<;>intro Y d
  ·refine sq ?_
   refine sg aC ?_
   refine vs 2 ?_
   refine er ?_
   refine sc d ?_ ?_<;>intro Z d
   ·refine sg bb ?_
    refine vs 2 ?_
    have ⟨F,O,d⟩:=ae d
    refine U.step rfl rfl rfl (Ox.b5 rfl rfl rfl rfl tn rfl rfl ((aL.hole (G:=(λ X=>X++(H))) (Hs:=[(f,_)]) .id (uq g (i64 (x1+(i64 (C * 1)))) 0 (m.sub pp) O)).mono ?_))
    rintro _ _ _ ⟨_,⟨rfl,rfl,rfl⟩,rfl⟩
    refine ⟨_,(.put rfl),?_⟩
    refine vs 1 ?_
    refine nx bb ?_
    refine vs 2 ?_
    have ⟨I,P,d⟩:=ae d
    refine U.step rfl rfl rfl (Ox.b5 rfl rfl rfl rfl tn rfl rfl ((aL.hole (G:=(λ X=>X++(H))) (Hs:=[(f,_)]) .id (uq g (i64 (x1+(i64 (D * 2)))) F.1 (m.sub pp) P)).mono ?_))
    rintro _ _ _ ⟨_,⟨rfl,rfl,rfl⟩,rfl⟩
    refine ⟨_,(.put rfl),?_⟩
    refine vs 1 ?_
    refine er ?_
    refine U.rg bb ?_
    refine vs 2 ?_
    have ⟨J,Q,d⟩:=ae d
    refine U.step rfl rfl rfl (Ox.b5 rfl rfl rfl rfl tn rfl rfl ((aL.hole (G:=(λ X=>X++(H))) (Hs:=[(f,_)]) .id (uq g (i64 (x1+(i64 (E * 3)))) I.1 (m.sub pp) Q)).mono ?_))
    rintro _ _ _ ⟨_,⟨rfl,rfl,rfl⟩,rfl⟩
    refine ⟨_,(.put rfl),?_⟩
    refine vs 1 ?_
    refine er ?_
    refine U.rg b4 ?_
    refine vs 4 ?_
    have ⟨ak,S,d⟩:=ae d
    refine U.step rfl rfl rfl (Ox.b5 rfl rfl rfl rfl tp rfl rfl ((aL.hole (G:=(λ X=>X++(H))) (Hs:=[(f,_)]) .id (uu g F.2 I.2 J.2 J.1 (m.sub pp) S)).mono ?_))
    rintro _ _ _ ⟨_,⟨rfl,rfl,rfl⟩,rfl⟩
    refine ⟨_,(.put rfl),?_⟩
    refine vs 1 ?_
    refine er ?_
    exact y _ (au d) _ _ _ ⟨rfl,rfl,aq cg⟩
   refine sp ?_
   refine U.rg b4 ?_
   refine vs 4 ?_
   have ⟨am,T,d⟩:=ae d
   refine U.step rfl rfl rfl (Ox.b5 rfl rfl rfl rfl tp rfl rfl ((aL.hole (G:=(λ X=>X++(H))) (Hs:=[(f,_)]) .id (uu g (i64 (x1+(i64 (C * 1)))) (i64 (x1+(i64 (D * 2)))) (i64 (x1+(i64 (E * 3)))) 0 (m.sub pp) T)).mono ?_))
   rintro _ _ _ ⟨_,⟨rfl,rfl,rfl⟩,rfl⟩
   refine ⟨_,(.put rfl),?_⟩
   refine vs 1 ?_
   refine er ?_
   exact y _ (au d) _ _ _ ⟨rfl,rfl,aq cg⟩
  refine sp ?_
  exact y _ (au d) _ _ _ ⟨rfl,rfl,aq cg⟩
 rintro A W V ad ⟨rfl,rfl,K⟩ d
 refine U.sub K ?_
 refine sg aB ?_
 refine ld 0 aI z0 ?_
 refine er ?_
 refine U.aP ?_
 refine sg aC ?_
 refine vs 2 ?_
 refine er ?_
 refine sc d ?_ ?_<;>intro ab d
 ·refine sg aM ?_
  refine vs 3 ?_
  refine er ?_
  cases av d
  exact rt func143 (.tmp rfl (.tmp rfl .nil)) (so sr) (z _ _ _ aG)
 refine sg aC ?_
 refine vs 2 ?_
 refine er ?_
 refine sc d ?_ ?_<;>intro ac d
 ·refine sg aM ?_
  refine vs 3 ?_
  refine er ?_
  cases av d
  exact rt func143 (.tmp rfl (.tmp rfl .nil)) (so sr) (z _ _ _ aG)
 refine sg aM ?_
 refine vs 3 ?_
 refine er ?_
 cases av d
 exact rt func143 (.tmp rfl (.tmp rfl .nil)) (so sr) (z _ _ _ aG)
theorem HP(C:(List Int))(x1:Int)(x2:Int){v0:Value}{y:aj}(T:aX CZ 1 3 R v0 C y){r:(List Int)}(d:j4 C x1 x2=some r):aL af 144 #[v0,iv x1,iv x2] R (y++H) (λ v R' H'=>∃ z,(R=R'∧aX CZ 1 3 R' v0 r z∧v = .tuple #[])∧H'=z++H):=by
 unfold j4 at d
 refine aY func144 32 λ fr cs S=>?_
 refine sg aC ?_
 refine vs 2 ?_
 refine nx aM ?_
 refine vs 3 ?_
 refine er ?_
 refine U.aP ?_
 refine U.cQ d (λ (f:((List Int) × Int × Int)) R' H' aa=>R=R'∧∃ g,aX CZ 1 3 R' v0 f.1 g∧H'=g++(H)∧aA aa [(0,v0),(6,iv f.2.1),(7,iv f.2.2)]) (λ (A:(List Int)) R' H' aa=>R=R'∧∃ m,aX CZ 1 3 R' v0 A m∧H'=m++(H)∧aA aa [(0,v0)]) 0 rfl ⟨rfl,y,T,rfl,aq du⟩ ?_ ?_
 rotate_right
 ·rintro f aN aG be ⟨rfl,g,s,rfl,Z⟩ bg d E F
  refine U.sub Z ?_
  refine sq ?_
  refine sg aM ?_
  refine vs 3 ?_
  refine er ?_
  refine sc d ?_ ?_<;>intro a9 d
  ·refine sp ?_
   refine U.aP ?_
   refine sq ?_
   refine U.draw (n:=16) (is:=[0,1,2,3,4,5,6,7,8,9,10,11,12,13,14,15]) (many (g++(H)) [(13,H),(15,H)]) mixed rfl (by decide +kernel) rfl rfl ?_
   refine Any.vs 6 [0,1,2,3,4,5] rfl ?_
   have ⟨ar,ag,d⟩:=ae d
   have ⟨aw,ak,d⟩:=ae d
   have ⟨ax,am,d⟩:=ae d
   have ⟨aB,an,d⟩:=ae d
   obtain ⟨aR,ba,_,rfl,G,N⟩:=(s.rd (λ _ h=>(bT _ h))).elem bd ag
   refine ts 6 [7,12,13,14,15] rfl (aF rfl (aF rfl (aU (su (az sr))))) (su (az sr)) (kI N) ?_
   refine ts 7 [12,13,14,15] rfl (aF rfl (aF rfl (aU pp))) pp (kA aI 0 G pp) ?_
   refine Any.vs 2 [8,9] rfl ?_
   obtain ⟨aT,bb,_,rfl,I,O⟩:=(s.rd (λ _ h=>(bT _ h))).elem bd ak
   refine ts 10 [11,12,13,14,15] rfl (aF rfl (aF rfl (aU (su (az sr))))) (su (az sr)) (kI O) ?_
   refine ts 11 [12,13,14,15] rfl (aF rfl (aF rfl (aU pp))) pp (kA aI 0 I pp) ?_
   obtain ⟨aV,a2,_,rfl,rfl,a5,L,P,a7,ao,ac⟩:=s.dI bd am
   refine ts 12 [13,14,15] rfl (aF rfl (aF rfl (aU (su (so sr))))) (su (so sr)) (kI P) ?_
   refine Any.on 13 rfl rfl (aJ.to (Ox.dJ (K:=CZ) (k:=1) (e:=3) (i:=f.2.1) (x':=ar) (pre:=[]) (mid:=[iv ax]) (post:=[]) .id rfl rfl rfl rfl ed rfl (aW rfl bl) L rfl rfl rfl ao ac rfl rfl (.refl _) λ aK W=>⟨rr,(bo rfl (su (az sr))),?_⟩))
   obtain ⟨a1,a4,_,rfl,rfl,a6,M,Q,a8,ap,ad⟩:=W.dI bd an
   refine ts 14 [15] rfl (aF rfl (aF rfl (aU (su (so sr))))) (su (so sr)) (kI Q) ?_
   refine Any.on 15 rfl rfl (aJ.to (Ox.dJ (K:=CZ) (k:=1) (e:=3) (i:=f.2.2) (x':=aw) (pre:=[]) (mid:=[iv aB]) (post:=[]) .id rfl rfl rfl rfl ed rfl (aW rfl bl) M rfl rfl rfl ap ad rfl rfl (.refl _) λ D Y=>⟨rr,(bo rfl (su (az sr))),?_⟩))
   refine Any.done ?_
   refine sg aM ?_
   refine vs 3 ?_
   refine er ?_
   refine U.rg aM ?_
   refine vs 3 ?_
   refine er ?_
   refine U.a0 ?_
   exact E _ (au d) _ _ _ ⟨rfl,D,Y,rfl,aq du⟩
  exact U.bw rfl (F _ (au d) _ _ _ ⟨rfl,g,s,rfl,aq eD⟩)
 rintro A aO aH bf ⟨rfl,m,V,rfl,ab⟩ d
 refine U.sub ab ?_
 cases av d
 exact U.g7 func144 .nil (J.drop sr (S _ _ _ ⟨m,⟨rfl,V,rfl⟩,rfl⟩))
theorem HR(an:(List Int))(x1:Int)(x2:Int){v0:Value}{L:aj}(bF:aX CZ 1 3 R v0 an L){r:((List Int) × Bool)}(d:jw an x1 x2=some r):aL af 145 #[v0,iv x1,iv x2] R (L++H) (λ v R' H'=>∃ O,(R=R'∧aX CZ 1 3 R' v0 r.1 O∧v = .bool r.2)∧H'=O++H):=by
 unfold jw at d
 refine aY func145 133 λ fr cs M=>?_
 refine sg aB ?_
 refine vs 1 ?_
 refine nx aM ?_
 refine vs 3 ?_
 refine es ?_
 refine sg aB ?_
 refine vs 1 ?_
 refine er ?_
 refine U.aP ?_
 refine U.dy d (λ (f:((List Int) × Int × Int)) R' H' aa=>R=R'∧∃ g,aX CZ 1 3 R' v0 f.1 g∧H'=g++(H)∧aA aa [(0,v0),(1,iv x1),(2,iv x2),(7,iv f.2.1),(8,iv f.2.2)]) (λ (ad:(List Int)) R' H' aa=>R=R'∧∃ I,aX CZ 1 3 R' v0 ad I∧H'=I++(H)∧aA aa [(0,v0)]) 0 rfl ⟨rfl,L,bF,rfl,aq b2⟩ ?_ ?_
 rotate_right
 ·rintro f dk c6 ey ⟨rfl,g,s,rfl,bS⟩ eK d Q aG ab
  refine U.sub bS ?_
  refine sq ?_
  refine sg aC ?_
  refine vs 2 ?_
  refine er ?_
  refine sc d ?_ ?_<;>intro ec d
  ·refine sp ?_
   refine sq ?_
   refine U.aP ?_
   refine sq ?_
   refine U.aP ?_
   refine U.cQ d (λ (am:Int) R' H' aa=>R=R'∧H'=g++(H)∧aA aa [(0,v0),(1,iv x1),(2,iv x2),(7,iv am),(8,iv f.2.2)]) (λ (m:Int) R' H' aa=>R=R'∧H'=g++(H)∧aA aa [(0,v0),(1,iv x1),(2,iv x2),(7,iv m),(8,iv f.2.2)]) 2 rfl ⟨rfl,rfl,aq b2⟩ ?_ ?_
   rotate_right
   ·rintro am dm c9 eA ⟨rfl,rfl,bV⟩ eL d aw T
    refine U.sub bV ?_
    refine sq ?_
    refine sq ?_
    refine U.dw vk mixed ?_
    refine Any.vs 4 [0,1,2,3] rfl ?_
    refine a8 d (λ N d=>?_) (λ N d=>?_)
    ·refine Any.cK (t:=20) rfl N ?_
     refine Any.vs 2 [4,5] rfl ?_
     have ⟨cW,cp,d⟩:=ae d
     have ⟨cX,cq,d⟩:=ae d
     have ⟨eM,ct,d⟩:=ae d
     obtain ⟨dH,eq,_,rfl,a2,bx⟩:=(s.rd (λ _ h=>(bT _ h))).elem bd cp
     refine tQ 6 rfl (kI bx) ?_
     refine tQ 7 rfl (kA aI 0 a2 pp) ?_
     refine Any.vs 3 [8,9,10] rfl ?_
     obtain ⟨dK,et,_,rfl,a4,bz⟩:=(s.rd (λ _ h=>(bT _ h))).elem bd cq
     refine tQ 11 rfl (kI bz) ?_
     refine tQ 12 rfl (kA aI 0 a4 pp) ?_
     refine Any.cv 13 g8 (hh cW cX  ct) ?_
     rintro _ _ _ ⟨rfl,rfl,rfl⟩
     refine kp ?_
     refine Any.vs 2 [14,15] rfl ?_
     refine Any.done ?_
     refine sc d ?_ ?_<;>intro ee d
     ·refine sp ?_
      refine U.aP ?_
      refine U.rg aM ?_
      refine vs 3 ?_
      refine er ?_
      refine U.a0 ?_
      exact aw _ (au d) _ _ _ ⟨rfl,rfl,aq b2⟩
     exact U.bw rfl (T _ (au d) _ _ _ ⟨rfl,rfl,aq b2⟩)
    refine Any.cK (t:=20) rfl N ?_
    refine Any.vs 12 [4,5,6,7,8,9,10,11,12,13,14,15] rfl ?_
    refine Any.done ?_
    refine U.cond_false rfl ?_
    exact U.bw rfl (T _ (au d) _ _ _ ⟨rfl,rfl,aq b2⟩)
   rintro m dn db eB ⟨rfl,rfl,bW⟩ d
   refine U.sub bW ?_
   refine sq ?_
   refine sg aM ?_
   refine vs 3 ?_
   refine er ?_
   refine sc d ?_ ?_<;>intro ef d
   ·refine sg aB ?_
    refine vs 1 ?_
    refine er ?_
    replace d:=ab _ (au d)
    cases av d
    exact rt func145 (.tmp rfl .nil) sr (M _ _ _ ⟨g,⟨rfl,s,rfl⟩,rfl⟩)
   refine sp ?_
   refine sq ?_
   refine sg bb ?_
   refine vs 4 ?_
   refine er ?_
   refine sc d ?_ ?_<;>intro eg d
   ·refine sg aB ?_
    refine vs 1 ?_
    refine er ?_
    replace d:=ab _ (au d)
    cases av d
    exact rt func145 (.tmp rfl .nil) sr (M _ _ _ ⟨g,⟨rfl,s,rfl⟩,rfl⟩)
   refine sp ?_
   refine sq ?_
   refine U.draw (n:=18) (is:=[0,1,2,3,4,5,6,7,8,9,10,11,12,13,14,15,16,17]) (many (g++(H)) [(15,H),(17,H)]) mixed rfl (by decide +kernel) rfl rfl ?_
   refine Any.vs 8 [0,1,2,3,4,5,6,7] rfl ?_
   have ⟨cZ,cu,d⟩:=ae d
   have ⟨c0,cw,d⟩:=ae d
   have ⟨c1,cx,d⟩:=ae d
   have ⟨c3,cy,d⟩:=ae d
   obtain ⟨dL,eu,_,rfl,a5,bA⟩:=(s.rd (λ _ h=>(bT _ h))).elem bd cu
   refine ts 8 [9,14,15,16,17] rfl (aF rfl (aF rfl (aU (su (az sr))))) (su (az sr)) (kI bA) ?_
   refine ts 9 [14,15,16,17] rfl (aF rfl (aF rfl (aU pp))) pp (kA aI 0 a5 pp) ?_
   refine Any.vs 2 [10,11] rfl ?_
   obtain ⟨dM,ev,_,rfl,a6,bB⟩:=(s.rd (λ _ h=>(bT _ h))).elem bd cw
   refine ts 12 [13,14,15,16,17] rfl (aF rfl (aF rfl (aU (su (az sr))))) (su (az sr)) (kI bB) ?_
   refine ts 13 [14,15,16,17] rfl (aF rfl (aF rfl (aU pp))) pp (kA aI 0 a6 pp) ?_
   obtain ⟨dN,dT,_,rfl,rfl,dZ,bf,bC,d5,cF,b7⟩:=s.dI bd cx
   refine ts 14 [15,16,17] rfl (aF rfl (aF rfl (aU (su (so sr))))) (su (so sr)) (kI bC) ?_
   refine Any.on 15 rfl rfl (aJ.to (Ox.dJ (K:=CZ) (k:=1) (e:=3) (i:=m) (x':=cZ) (pre:=[]) (mid:=[iv c1]) (post:=[]) .id rfl rfl rfl rfl ed rfl (aW rfl bl) bf rfl rfl rfl cF b7 rfl rfl (.refl _) λ dh bO=>⟨rr,(bo rfl (su (az sr))),?_⟩))
   obtain ⟨dO,dU,_,rfl,rfl,d0,bg,bD,d6,cG,b8⟩:=bO.dI bd cy
   refine ts 16 [17] rfl (aF rfl (aF rfl (aU (su (so sr))))) (su (so sr)) (kI bD) ?_
   refine Any.on 17 rfl rfl (aJ.to (Ox.dJ (K:=CZ) (k:=1) (e:=3) (i:=i64 (m - 1)) (x':=c0) (pre:=[]) (mid:=[iv c3]) (post:=[]) .id rfl rfl rfl rfl ed rfl (aW rfl bl) bg rfl rfl rfl cG b8 rfl rfl (.refl _) λ P Z=>⟨rr,(bo rfl (su (az sr))),?_⟩))
   refine Any.done ?_
   refine sq ?_
   refine sg bb ?_
   refine vs 4 ?_
   refine er ?_
   refine U.da d (λ (ag:(List Int)) R' H' aa=>R=R'∧∃ D,aX CZ 1 3 R' v0 ag D∧H'=D++(H)∧aA aa [(0,v0),(1,iv x1),(2,iv x2),(7,iv m),(8,iv f.2.2)])  ?_ ?_
   rotate_right
   ·intro eN d V
    refine sc d ?_ ?_<;>intro eh d
    ·refine sg aM ?_
     refine vs 3 ?_
     refine er ?_
     refine U.aP ?_
     refine U.cQ d (λ (F:((List Int) × Int)) R' H' aa=>R=R'∧∃ C,aX CZ 1 3 R' v0 F.1 C∧H'=C++(H)∧aA aa [(0,v0),(1,iv x1),(2,iv x2),(7,iv m),(8,iv f.2.2),(9,iv F.2)]) (λ (ak:(List Int)) R' H' aa=>R=R'∧∃ J,aX CZ 1 3 R' v0 ak J∧H'=J++(H)∧aA aa [(0,v0),(1,iv x1),(2,iv x2),(7,iv m),(8,iv f.2.2)]) 4 rfl ⟨rfl,P,Z,rfl,aq cS⟩ ?_ ?_
     rotate_right
     ·rintro F dq dd eE ⟨rfl,C,z,rfl,bY⟩ eP d ax W
      refine U.sub bY ?_
      refine sq ?_
      refine sg aC ?_
      refine vs 2 ?_
      refine er ?_
      refine sc d ?_ ?_<;>intro d7 d
      ·refine sp ?_
       refine sq ?_
       refine U.aP ?_
       refine sq ?_
       refine sq ?_
       refine U.dw hW mixed ?_
       refine Any.vs 2 [0,1] rfl ?_
       have ⟨cH,b9,d⟩:=ae d
       have ⟨cI,cb,d⟩:=ae d
       have ⟨eG,cc,d⟩:=ae d
       obtain ⟨ds,ei,_,rfl,aH,bh⟩:=(z.rd (λ _ h=>(bT _ h))).elem bd b9
       refine tQ 2 rfl (kI bh) ?_
       refine tQ 3 rfl (kA aI 0 aH pp) ?_
       refine Any.vs 3 [4,5,6] rfl ?_
       obtain ⟨dt,ej,_,rfl,aK,bi⟩:=(z.rd (λ _ h=>(bT _ h))).elem bd cb
       refine tQ 7 rfl (kI bi) ?_
       refine tQ 8 rfl (kA aI 0 aK pp) ?_
       refine Any.cv 9 g8 (hh cH cI  cc) ?_
       rintro _ _ _ ⟨rfl,rfl,rfl⟩
       refine kp ?_
       refine Any.vs 1 [10] rfl ?_
       refine Any.done ?_
       refine sc d ?_ ?_<;>intro d8 d
       ·exact U.bw rfl (W _ (au d) _ _ _ ⟨rfl,C,z,rfl,aq b2⟩)
       refine sp ?_
       refine U.draw (n:=18) (is:=[0,1,2,3,4,5,6,7,8,9,10,11,12,13,14,15,16,17]) (many (C++(H)) [(15,H),(17,H)]) mixed rfl (by decide +kernel) rfl rfl ?_
       refine Any.vs 8 [0,1,2,3,4,5,6,7] rfl ?_
       have ⟨cJ,cd,d⟩:=ae d
       have ⟨cL,ce,d⟩:=ae d
       have ⟨cM,cf,d⟩:=ae d
       have ⟨cN,cg,d⟩:=ae d
       obtain ⟨du,ek,_,rfl,aN,bk⟩:=(z.rd (λ _ h=>(bT _ h))).elem bd cd
       refine ts 8 [9,14,15,16,17] rfl (aF rfl (aF rfl (aU (su (az sr))))) (su (az sr)) (kI bk) ?_
       refine ts 9 [14,15,16,17] rfl (aF rfl (aF rfl (aU pp))) pp (kA aI 0 aN pp) ?_
       refine Any.vs 2 [10,11] rfl ?_
       obtain ⟨dv,el,_,rfl,aO,bm⟩:=(z.rd (λ _ h=>(bT _ h))).elem bd ce
       refine ts 12 [13,14,15,16,17] rfl (aF rfl (aF rfl (aU (su (az sr))))) (su (az sr)) (kI bm) ?_
       refine ts 13 [14,15,16,17] rfl (aF rfl (aF rfl (aU pp))) pp (kA aI 0 aO pp) ?_
       obtain ⟨dx,dP,_,rfl,rfl,dV,a7,bn,d1,cA,b3⟩:=z.dI bd cf
       refine ts 14 [15,16,17] rfl (aF rfl (aF rfl (aU (su (so sr))))) (su (so sr)) (kI bn) ?_
       refine Any.on 15 rfl rfl (aJ.to (Ox.dJ (K:=CZ) (k:=1) (e:=3) (i:=F.2) (x':=cJ) (pre:=[]) (mid:=[iv cM]) (post:=[]) .id rfl rfl rfl rfl ed rfl (aW rfl bl) a7 rfl rfl rfl cA b3 rfl rfl (.refl _) λ df bJ=>⟨rr,(bo rfl (su (az sr))),?_⟩))
       obtain ⟨dz,dQ,_,rfl,rfl,dW,a9,bp,d2,cB,b4⟩:=bJ.dI bd cg
       refine ts 16 [17] rfl (aF rfl (aF rfl (aU (su (so sr))))) (su (so sr)) (kI bp) ?_
       refine Any.on 17 rfl rfl (aJ.to (Ox.dJ (K:=CZ) (k:=1) (e:=3) (i:=i64 (F.2 - 1)) (x':=cL) (pre:=[]) (mid:=[iv cN]) (post:=[]) .id rfl rfl rfl rfl ed rfl (aW rfl bl) a9 rfl rfl rfl cB b4 rfl rfl (.refl _) λ ao bL=>⟨rr,(bo rfl (su (az sr))),?_⟩))
       refine Any.done ?_
       refine U.a0 ?_
       refine U.rg aM ?_
       refine vs 3 ?_
       refine er ?_
       exact ax _ (au d) _ _ _ ⟨rfl,ao,bL,rfl,aq cS⟩
      exact U.bw rfl (W _ (au d) _ _ _ ⟨rfl,C,z,rfl,aq b2⟩)
     rintro ak dr de eF ⟨rfl,J,bI,rfl,b1⟩ d
     refine U.sub b1 ?_
     exact V _ (au d) _ _ _ ⟨rfl,J,bI,rfl,aq b2⟩
    refine sp ?_
    exact V _ (au d) _ _ _ ⟨rfl,P,Z,rfl,aq b2⟩
   rintro ag dp dc eC ⟨rfl,D,Y,rfl,bX⟩ d
   refine U.sub bX ?_
   refine sg bb ?_
   refine vs 4 ?_
   refine er ?_
   refine sc d ?_ ?_<;>intro d9 d
   ·refine sg aM ?_
    refine vs 3 ?_
    refine er ?_
    refine U.aP ?_
    refine U.cQ d (λ (E:((List Int) × Int)) R' H' aa=>R=R'∧∃ A,aX CZ 1 3 R' v0 E.1 A∧H'=A++(H)∧aA aa [(0,v0),(1,iv x1),(2,iv x2),(7,iv m),(8,iv f.2.2),(10,iv E.2)]) (λ (ac:(List Int)) R' H' aa=>R=R'∧∃ G,aX CZ 1 3 R' v0 ac G∧H'=G++(H)∧aA aa [(0,v0),(1,iv x1),(2,iv x2),(7,iv m),(8,iv f.2.2)]) 6 rfl ⟨rfl,D,Y,rfl,aq cS⟩ ?_ ?_
    rotate_right
    ·rintro E di c4 ew ⟨rfl,A,y,rfl,bP⟩ eH d ar S
     refine U.sub bP ?_
     refine sq ?_
     refine sg aM ?_
     refine vs 3 ?_
     refine er ?_
     refine sc d ?_ ?_<;>intro ea d
     ·refine sp ?_
      refine sq ?_
      refine U.aP ?_
      refine sq ?_
      refine sq ?_
      refine U.dw hW mixed ?_
      refine Any.vs 2 [0,1] rfl ?_
      have ⟨cO,ch,d⟩:=ae d
      have ⟨cP,ci,d⟩:=ae d
      have ⟨eJ,cj,d⟩:=ae d
      obtain ⟨dA,em,_,rfl,aR,bq⟩:=(y.rd (λ _ h=>(bT _ h))).elem bd ch
      refine tQ 2 rfl (kI bq) ?_
      refine tQ 3 rfl (kA aI 0 aR pp) ?_
      refine Any.vs 3 [4,5,6] rfl ?_
      obtain ⟨dB,en,_,rfl,aT,br⟩:=(y.rd (λ _ h=>(bT _ h))).elem bd ci
      refine tQ 7 rfl (kI br) ?_
      refine tQ 8 rfl (kA aI 0 aT pp) ?_
      refine Any.cv 9 g8 (hh cO cP  cj) ?_
      rintro _ _ _ ⟨rfl,rfl,rfl⟩
      refine kp ?_
      refine Any.vs 1 [10] rfl ?_
      refine Any.done ?_
      refine sc d ?_ ?_<;>intro eb d
      ·exact U.bw rfl (S _ (au d) _ _ _ ⟨rfl,A,y,rfl,aq b2⟩)
      refine sp ?_
      refine U.draw (n:=18) (is:=[0,1,2,3,4,5,6,7,8,9,10,11,12,13,14,15,16,17]) (many (A++(H)) [(15,H),(17,H)]) mixed rfl (by decide +kernel) rfl rfl ?_
      refine Any.vs 8 [0,1,2,3,4,5,6,7] rfl ?_
      have ⟨cR,ck,d⟩:=ae d
      have ⟨cT,cm,d⟩:=ae d
      have ⟨cU,cn,d⟩:=ae d
      have ⟨cV,co,d⟩:=ae d
      obtain ⟨dC,eo,_,rfl,aV,bs⟩:=(y.rd (λ _ h=>(bT _ h))).elem bd ck
      refine ts 8 [9,14,15,16,17] rfl (aF rfl (aF rfl (aU (su (az sr))))) (su (az sr)) (kI bs) ?_
      refine ts 9 [14,15,16,17] rfl (aF rfl (aF rfl (aU pp))) pp (kA aI 0 aV pp) ?_
      refine Any.vs 2 [10,11] rfl ?_
      obtain ⟨dE,ep,_,rfl,a1,bt⟩:=(y.rd (λ _ h=>(bT _ h))).elem bd cm
      refine ts 12 [13,14,15,16,17] rfl (aF rfl (aF rfl (aU (su (az sr))))) (su (az sr)) (kI bt) ?_
      refine ts 13 [14,15,16,17] rfl (aF rfl (aF rfl (aU pp))) pp (kA aI 0 a1 pp) ?_
      obtain ⟨dF,dR,_,rfl,rfl,dX,ba,bu,d3,cC,b5⟩:=y.dI bd cn
      refine ts 14 [15,16,17] rfl (aF rfl (aF rfl (aU (su (so sr))))) (su (so sr)) (kI bu) ?_
      refine Any.on 15 rfl rfl (aJ.to (Ox.dJ (K:=CZ) (k:=1) (e:=3) (i:=E.2) (x':=cR) (pre:=[]) (mid:=[iv cU]) (post:=[]) .id rfl rfl rfl rfl ed rfl (aW rfl bl) ba rfl rfl rfl cC b5 rfl rfl (.refl _) λ dg bM=>⟨rr,(bo rfl (su (az sr))),?_⟩))
      obtain ⟨dG,dS,_,rfl,rfl,dY,be,bv,d4,cD,b6⟩:=bM.dI bd co
      refine ts 16 [17] rfl (aF rfl (aF rfl (aU (su (so sr))))) (su (so sr)) (kI bv) ?_
      refine Any.on 17 rfl rfl (aJ.to (Ox.dJ (K:=CZ) (k:=1) (e:=3) (i:=i64 (E.2 - 1)) (x':=cT) (pre:=[]) (mid:=[iv cV]) (post:=[]) .id rfl rfl rfl rfl ed rfl (aW rfl bl) be rfl rfl rfl cD b6 rfl rfl (.refl _) λ ap bN=>⟨rr,(bo rfl (su (az sr))),?_⟩))
      refine Any.done ?_
      refine U.a0 ?_
      refine U.rg aM ?_
      refine vs 3 ?_
      refine er ?_
      exact ar _ (au d) _ _ _ ⟨rfl,ap,bN,rfl,aq cS⟩
     exact U.bw rfl (S _ (au d) _ _ _ ⟨rfl,A,y,rfl,aq b2⟩)
    rintro ac dj c5 ex ⟨rfl,G,bG,rfl,bQ⟩ d
    refine U.sub bQ ?_
    refine U.a0 ?_
    refine U.rg aM ?_
    refine vs 3 ?_
    refine er ?_
    exact Q _ (au d) _ _ _ ⟨rfl,G,bG,rfl,aq b2⟩
   refine sp ?_
   refine U.a0 ?_
   refine U.rg aM ?_
   refine vs 3 ?_
   refine er ?_
   exact Q _ (au d) _ _ _ ⟨rfl,D,Y,rfl,aq b2⟩
  exact U.bw rfl (aG _ (au d) _ _ _ ⟨rfl,g,s,rfl,aq eD⟩)
 rintro ad dl c7 ez ⟨rfl,I,bH,rfl,bU⟩ d
 refine U.sub bU ?_
 refine sg aB ?_
 refine vs 1 ?_
 refine er ?_
 cases av d
 exact rt func145 (.tmp rfl .nil) sr (M _ _ _ ⟨I,⟨rfl,bH,rfl⟩,rfl⟩)
theorem HT(N:(List Int))(x1:Int)(x2:Int)(x3:Int){v0:Value}{z:aj}(A:aX CZ 1 3 R v0 N z){r:((List Int) × Int)}(d:kZ N x1 x2 x3=some r):aL af 147 #[v0,iv x1,iv x2,iv x3] R (z++H) (λ v R' H'=>∃ G,(R=R'∧aX CZ 1 3 R' v0 r.1 G∧v=iv r.2)∧H'=G++H):=by
 unfold kZ at d
 refine aY func147 84 λ fr cs a2=>?_
 refine sg aB ?_
 refine vs 1 ?_
 refine es ?_
 refine U.draw (n:=16) (is:=[0,1,2,3,4,5,6,7,8,9,10,11,12,13,14,15]) (many (z++(H)) [(13,H),(15,H)]) mixed rfl (by decide +kernel) rfl rfl ?_
 refine Any.vs 6 [0,1,2,3,4,5] rfl ?_
 have ⟨bM,bp,d⟩:=ae d
 have ⟨bN,bq,d⟩:=ae d
 have ⟨bO,br,d⟩:=ae d
 have ⟨bP,bs,d⟩:=ae d
 obtain ⟨cj,cS,_,rfl,W,ar⟩:=(A.rd (λ _ h=>(bT _ h))).elem bd bp
 refine ts 6 [7,12,13,14,15] rfl (aF rfl (aF rfl (aU (su (az sr))))) (su (az sr)) (kI ar) ?_
 refine ts 7 [12,13,14,15] rfl (aF rfl (aF rfl (aU pp))) pp (kA aI 0 W pp) ?_
 refine Any.vs 2 [8,9] rfl ?_
 obtain ⟨ck,cT,_,rfl,Y,aw⟩:=(A.rd (λ _ h=>(bT _ h))).elem bd bq
 refine ts 10 [11,12,13,14,15] rfl (aF rfl (aF rfl (aU (su (az sr))))) (su (az sr)) (kI aw) ?_
 refine ts 11 [12,13,14,15] rfl (aF rfl (aF rfl (aU pp))) pp (kA aI 0 Y pp) ?_
 obtain ⟨cm,cA,_,rfl,rfl,cF,am,ax,cJ,bH,bi⟩:=A.dI bd br
 refine ts 12 [13,14,15] rfl (aF rfl (aF rfl (aU (su (so sr))))) (su (so sr)) (kI ax) ?_
 refine Any.on 13 rfl rfl (aJ.to (Ox.dJ (K:=CZ) (k:=1) (e:=3) (i:=x1) (x':=bM) (pre:=[]) (mid:=[iv bO]) (post:=[]) .id rfl rfl rfl rfl ed rfl (aW rfl bl) am rfl rfl rfl bH bi rfl rfl (.refl _) λ b9 a5=>⟨rr,(bo rfl (su (az sr))),?_⟩))
 obtain ⟨cn,cB,_,rfl,rfl,cG,an,aG,cL,bI,bk⟩:=a5.dI bd bs
 refine ts 14 [15] rfl (aF rfl (aF rfl (aU (su (so sr))))) (su (so sr)) (kI aG) ?_
 refine Any.on 15 rfl rfl (aJ.to (Ox.dJ (K:=CZ) (k:=1) (e:=3) (i:=x3) (x':=bN) (pre:=[]) (mid:=[iv bP]) (post:=[]) .id rfl rfl rfl rfl ed rfl (aW rfl bl) an rfl rfl rfl bI bk rfl rfl (.refl _) λ O a6=>⟨rr,(bo rfl (su (az sr))),?_⟩))
 refine Any.done ?_
 refine sg b4 ?_
 refine vs 6 ?_
 refine es ?_
 refine U.aP ?_
 refine U.cQ d (λ (m:((List Int) × Int × Int)) R' H' aa=>R=R'∧∃ f,aX CZ 1 3 R' v0 m.1 f∧H'=f++(H)∧aA aa [(0,v0),(1,iv x1),(9,iv m.2.1),(10,iv m.2.2)]) (λ (E:((List Int) × Int)) R' H' aa=>R=R'∧∃ y,aX CZ 1 3 R' v0 E.1 y∧H'=y++(H)∧aA aa [(0,v0),(9,iv E.2)]) 0 rfl ⟨rfl,O,a6,rfl,aq bt⟩ ?_ ?_
 rotate_right
 ·rintro m cc b2 c1 ⟨rfl,f,g,rfl,ba⟩ c9 d Q V
  refine U.sub ba ?_
  refine U.aP ?_
  refine sq ?_
  refine U.aP ?_
  refine U.cQ d (λ (L:Int) R' H' aa=>R=R'∧H'=f++(H)∧aA aa [(0,v0),(1,iv x1),(9,iv L),(10,iv m.2.2)]) (λ (s:Int) R' H' aa=>R=R'∧H'=f++(H)∧aA aa [(0,v0),(1,iv x1),(9,iv s),(10,iv m.2.2)]) 2 rfl ⟨rfl,rfl,aq bt⟩ ?_ ?_
  rotate_right
  ·rintro L ce b5 c4 ⟨rfl,rfl,be⟩ da d S I
   refine U.sub be ?_
   refine sq ?_
   refine sq ?_
   refine U.dw kq mixed ?_
   refine Any.vs 4 [0,1,2,3] rfl ?_
   refine a8 d (λ C d=>?_) (λ C d=>?_)
   ·refine Any.cK (t:=32) rfl C ?_
    refine Any.vs 2 [4,5] rfl ?_
    have ⟨bQ,bu,d⟩:=ae d
    have ⟨bS,bv,d⟩:=ae d
    have ⟨db,bx,d⟩:=ae d
    obtain ⟨co,cU,_,rfl,Z,aH⟩:=(g.rd (λ _ h=>(bT _ h))).elem bd bu
    refine tQ 6 rfl (kI aH) ?_
    refine tQ 7 rfl (kA aI 0 Z pp) ?_
    refine Any.vs 2 [8,9] rfl ?_
    obtain ⟨cp,cV,_,rfl,ab,aK⟩:=(g.rd (λ _ h=>(bT _ h))).elem bd bv
    refine tQ 10 rfl (kI aK) ?_
    refine tQ 11 rfl (kA aI 0 ab pp) ?_
    refine Any.cv 12 g8 (hh bQ bS  bx) ?_
    rintro _ _ _ ⟨rfl,rfl,rfl⟩
    refine kp ?_
    refine Any.vs 2 [13,14] rfl ?_
    refine Any.done ?_
    refine sc d ?_ ?_<;>intro cO d
    ·refine sp ?_
     refine U.aP ?_
     refine U.rg aM ?_
     refine vs 3 ?_
     refine er ?_
     refine U.a0 ?_
     exact S _ (au d) _ _ _ ⟨rfl,rfl,aq bt⟩
    exact U.bw rfl (I _ (au d) _ _ _ ⟨rfl,rfl,aq bt⟩)
   refine Any.cK (t:=32) rfl C ?_
   refine Any.vs 11 [4,5,6,7,8,9,10,11,12,13,14] rfl ?_
   refine Any.done ?_
   refine U.cond_false rfl ?_
   exact U.bw rfl (I _ (au d) _ _ _ ⟨rfl,rfl,aq bt⟩)
  rintro s cf b6 c5 ⟨rfl,rfl,bf⟩ d
  refine U.sub bf ?_
  refine sq ?_
  refine U.aP ?_
  refine U.cQ d (λ (M:Int) R' H' aa=>R=R'∧H'=f++(H)∧aA aa [(0,v0),(1,iv x1),(9,iv s),(10,iv M)]) (λ (F:Int) R' H' aa=>R=R'∧H'=f++(H)∧aA aa [(0,v0),(1,iv x1),(9,iv s),(10,iv F)]) 4 rfl ⟨rfl,rfl,aq bt⟩ ?_ ?_
  rotate_right
  ·rintro M ch b7 c6 ⟨rfl,rfl,bg⟩ dc d T J
   refine U.sub bg ?_
   refine sq ?_
   refine sq ?_
   refine U.dw ko mixed ?_
   refine Any.vs 4 [0,1,2,3] rfl ?_
   refine a8 d (λ D d=>?_) (λ D d=>?_)
   ·refine Any.cK (t:=49) rfl D ?_
    refine Any.vs 2 [4,5] rfl ?_
    have ⟨bU,bz,d⟩:=ae d
    have ⟨bV,bA,d⟩:=ae d
    have ⟨dd,bB,d⟩:=ae d
    obtain ⟨cq,cW,_,rfl,ac,aN⟩:=(g.rd (λ _ h=>(bT _ h))).elem bd bz
    refine tQ 6 rfl (kI aN) ?_
    refine tQ 7 rfl (kA aI 0 ac pp) ?_
    refine Any.vs 2 [8,9] rfl ?_
    obtain ⟨ct,cX,_,rfl,ad,aO⟩:=(g.rd (λ _ h=>(bT _ h))).elem bd bA
    refine tQ 10 rfl (kI aO) ?_
    refine tQ 11 rfl (kA aI 0 ad pp) ?_
    refine Any.cv 12 g8 (hh bU bV  bB) ?_
    rintro _ _ _ ⟨rfl,rfl,rfl⟩
    refine kp ?_
    refine Any.vs 1 [13] rfl ?_
    refine Any.done ?_
    refine sc d ?_ ?_<;>intro cP d
    ·refine sp ?_
     refine U.aP ?_
     refine U.rg aM ?_
     refine vs 3 ?_
     refine er ?_
     refine U.a0 ?_
     exact T _ (au d) _ _ _ ⟨rfl,rfl,aq bt⟩
    exact U.bw rfl (J _ (au d) _ _ _ ⟨rfl,rfl,aq bt⟩)
   refine Any.cK (t:=49) rfl D ?_
   refine Any.vs 10 [4,5,6,7,8,9,10,11,12,13] rfl ?_
   refine Any.done ?_
   refine U.cond_false rfl ?_
   exact U.bw rfl (J _ (au d) _ _ _ ⟨rfl,rfl,aq bt⟩)
  rintro F ci b8 c7 ⟨rfl,rfl,bh⟩ d
  refine U.sub bh ?_
  refine sq ?_
  refine sg aM ?_
  refine vs 3 ?_
  refine er ?_
  refine sc d ?_ ?_<;>intro cR d
  ·exact U.bw rfl (V _ (au d) _ _ _ ⟨rfl,f,g,rfl,aq cg⟩)
  refine sp ?_
  refine sq ?_
  refine U.draw (n:=16) (is:=[0,1,2,3,4,5,6,7,8,9,10,11,12,13,14,15]) (many (f++(H)) [(13,H),(15,H)]) mixed rfl (by decide +kernel) rfl rfl ?_
  refine Any.vs 6 [0,1,2,3,4,5] rfl ?_
  have ⟨bW,bC,d⟩:=ae d
  have ⟨bX,bD,d⟩:=ae d
  have ⟨bY,bF,d⟩:=ae d
  have ⟨b1,bG,d⟩:=ae d
  obtain ⟨cu,cZ,_,rfl,ag,aR⟩:=(g.rd (λ _ h=>(bT _ h))).elem bd bC
  refine ts 6 [7,12,13,14,15] rfl (aF rfl (aF rfl (aU (su (az sr))))) (su (az sr)) (kI aR) ?_
  refine ts 7 [12,13,14,15] rfl (aF rfl (aF rfl (aU pp))) pp (kA aI 0 ag pp) ?_
  refine Any.vs 2 [8,9] rfl ?_
  obtain ⟨cw,c0,_,rfl,ak,aT⟩:=(g.rd (λ _ h=>(bT _ h))).elem bd bD
  refine ts 10 [11,12,13,14,15] rfl (aF rfl (aF rfl (aU (su (az sr))))) (su (az sr)) (kI aT) ?_
  refine ts 11 [12,13,14,15] rfl (aF rfl (aF rfl (aU pp))) pp (kA aI 0 ak pp) ?_
  obtain ⟨cx,cC,_,rfl,rfl,cH,ao,aV,cM,bJ,bm⟩:=g.dI bd bF
  refine ts 12 [13,14,15] rfl (aF rfl (aF rfl (aU (su (so sr))))) (su (so sr)) (kI aV) ?_
  refine Any.on 13 rfl rfl (aJ.to (Ox.dJ (K:=CZ) (k:=1) (e:=3) (i:=s) (x':=bW) (pre:=[]) (mid:=[iv bY]) (post:=[]) .id rfl rfl rfl rfl ed rfl (aW rfl bl) ao rfl rfl rfl bJ bm rfl rfl (.refl _) λ cb a7=>⟨rr,(bo rfl (su (az sr))),?_⟩))
  obtain ⟨cy,cD,_,rfl,rfl,cI,ap,a1,cN,bL,bn⟩:=a7.dI bd bG
  refine ts 14 [15] rfl (aF rfl (aF rfl (aU (su (so sr))))) (su (so sr)) (kI a1) ?_
  refine Any.on 15 rfl rfl (aJ.to (Ox.dJ (K:=CZ) (k:=1) (e:=3) (i:=F) (x':=bX) (pre:=[]) (mid:=[iv b1]) (post:=[]) .id rfl rfl rfl rfl ed rfl (aW rfl bl) ap rfl rfl rfl bL bn rfl rfl (.refl _) λ P a9=>⟨rr,(bo rfl (su (az sr))),?_⟩))
  refine Any.done ?_
  refine sg aM ?_
  refine vs 3 ?_
  refine er ?_
  refine U.rg aM ?_
  refine vs 3 ?_
  refine er ?_
  refine U.a0 ?_
  exact Q _ (au d) _ _ _ ⟨rfl,P,a9,rfl,aq bt⟩
 rintro E cd b3 c3 ⟨rfl,y,a4,rfl,bb⟩ d
 refine U.sub bb ?_
 refine sg aC ?_
 refine vs 2 ?_
 refine er ?_
 cases av d
 exact rt func147 (.tmp rfl .nil) sr (a2 _ _ _ ⟨y,⟨rfl,a4,rfl⟩,rfl⟩)
theorem HV(ad:(List Int))(x1:Int)(x2:Int)(x3:Int){v0:Value}{F:aj}(G:aX CZ 1 3 R v0 ad F){r:((List Int) × Int × Bool)}(d:k0 ad x1 x2 x3=some r):aL af 148 #[v0,iv x1,iv x2,iv x3] R (F++H) (λ v R' H'=>∃ P,(R=R'∧aX CZ 1 3 R' v0 r.1 P∧v = .tuple #[iv r.2.1,.bool r.2.2])∧H'=P++H):=by
 unfold k0 at d
 refine aY func148 168 λ fr cs W=>?_
 refine sg aC ?_
 refine vs 2 ?_
 refine es ?_
 refine U.draw (n:=16) (is:=[0,1,2,3,4,5,6,7,8,9,10,11,12,13,14,15]) (many (F++(H)) [(13,H),(15,H)]) mixed rfl (by decide +kernel) rfl rfl ?_
 refine Any.vs 6 [0,1,2,3,4,5] rfl ?_
 have ⟨dq,cD,d⟩:=ae d
 have ⟨dr,cF,d⟩:=ae d
 have ⟨ds,cG,d⟩:=ae d
 have ⟨dt,cH,d⟩:=ae d
 obtain ⟨en,fw,_,rfl,aG,bs⟩:=(G.rd (λ _ h=>(bT _ h))).elem bd cD
 refine ts 6 [7,12,13,14,15] rfl (aF rfl (aF rfl (aU (su (az sr))))) (su (az sr)) (kI bs) ?_
 refine ts 7 [12,13,14,15] rfl (aF rfl (aF rfl (aU pp))) pp (kA aI 0 aG pp) ?_
 refine Any.vs 2 [8,9] rfl ?_
 obtain ⟨eo,fx,_,rfl,aH,bu⟩:=(G.rd (λ _ h=>(bT _ h))).elem bd cF
 refine ts 10 [11,12,13,14,15] rfl (aF rfl (aF rfl (aU (su (az sr))))) (su (az sr)) (kI bu) ?_
 refine ts 11 [12,13,14,15] rfl (aF rfl (aF rfl (aU pp))) pp (kA aI 0 aH pp) ?_
 obtain ⟨ep,eT,_,rfl,rfl,e5,bf,bv,ff,df,cp⟩:=G.dI bd cG
 refine ts 12 [13,14,15] rfl (aF rfl (aF rfl (aU (su (so sr))))) (su (so sr)) (kI bv) ?_
 refine Any.on 13 rfl rfl (aJ.to (Ox.dJ (K:=CZ) (k:=1) (e:=3) (i:=x1) (x':=dq) (pre:=[]) (mid:=[iv ds]) (post:=[]) .id rfl rfl rfl rfl ed rfl (aW rfl bl) bf rfl rfl rfl df cp rfl rfl (.refl _) λ d7 b3=>⟨rr,(bo rfl (su (az sr))),?_⟩))
 obtain ⟨eq,eU,_,rfl,rfl,e6,bg,bx,fg,dg,cq⟩:=b3.dI bd cH
 refine ts 14 [15] rfl (aF rfl (aF rfl (aU (su (so sr))))) (su (so sr)) (kI bx) ?_
 refine Any.on 15 rfl rfl (aJ.to (Ox.dJ (K:=CZ) (k:=1) (e:=3) (i:=x3) (x':=dr) (pre:=[]) (mid:=[iv dt]) (post:=[]) .id rfl rfl rfl rfl ed rfl (aW rfl bl) bg rfl rfl rfl dg cq rfl rfl (.refl _) λ s f=>⟨rr,(bo rfl (su (az sr))),?_⟩))
 refine Any.done ?_
 refine sg b4 ?_
 refine vs 6 ?_
 refine es ?_
 refine U.aP ?_
 refine U.cQ d (λ (Y:Int) R' H' aa=>R=R'∧H'=s++(H)∧aA aa [(0,v0),(1,iv x1),(10,iv Y),(11,iv (i64 (x2 - 1)))]) (λ (z:Int) R' H' aa=>R=R'∧H'=s++(H)∧aA aa [(0,v0),(1,iv x1),(10,iv z),(11,iv (i64 (x2 - 1)))]) 0 rfl ⟨rfl,rfl,aq bt⟩ ?_ ?_
 rotate_right
 ·rintro Y ec dX fO ⟨rfl,rfl,ce⟩ fZ d ao Q
  refine U.sub ce ?_
  refine sq ?_
  refine sq ?_
  refine U.dw ko mixed ?_
  refine Any.vs 4 [0,1,2,3] rfl ?_
  refine a8 d (λ J d=>?_) (λ J d=>?_)
  ·refine Any.cK (t:=33) rfl J ?_
   refine Any.vs 2 [4,5] rfl ?_
   have ⟨dv,cI,d⟩:=ae d
   have ⟨dx,cJ,d⟩:=ae d
   have ⟨f0,cL,d⟩:=ae d
   obtain ⟨et,fy,_,rfl,aK,bz⟩:=(f.rd (λ _ h=>(bT _ h))).elem bd cI
   refine tQ 6 rfl (kI bz) ?_
   refine tQ 7 rfl (kA aI 0 aK pp) ?_
   refine Any.vs 2 [8,9] rfl ?_
   obtain ⟨eu,fz,_,rfl,aN,bA⟩:=(f.rd (λ _ h=>(bT _ h))).elem bd cJ
   refine tQ 10 rfl (kI bA) ?_
   refine tQ 11 rfl (kA aI 0 aN pp) ?_
   refine Any.cv 12 g8 (hh dv dx  cL) ?_
   rintro _ _ _ ⟨rfl,rfl,rfl⟩
   refine kp ?_
   refine Any.vs 1 [13] rfl ?_
   refine Any.done ?_
   refine sc d ?_ ?_<;>intro fp d
   ·refine sp ?_
    refine U.aP ?_
    refine U.rg aM ?_
    refine vs 3 ?_
    refine er ?_
    refine U.a0 ?_
    exact ao _ (au d) _ _ _ ⟨rfl,rfl,aq bt⟩
   exact U.bw rfl (Q _ (au d) _ _ _ ⟨rfl,rfl,aq bt⟩)
  refine Any.cK (t:=33) rfl J ?_
  refine Any.vs 10 [4,5,6,7,8,9,10,11,12,13] rfl ?_
  refine Any.done ?_
  refine U.cond_false rfl ?_
  exact U.bw rfl (Q _ (au d) _ _ _ ⟨rfl,rfl,aq bt⟩)
 rintro z ee dY fP ⟨rfl,rfl,cf⟩ d
 refine U.sub cf ?_
 refine sq ?_
 refine U.aP ?_
 refine U.cQ d (λ (Z:Int) R' H' aa=>R=R'∧H'=s++(H)∧aA aa [(0,v0),(1,iv x1),(10,iv z),(11,iv Z)]) (λ (D:Int) R' H' aa=>R=R'∧H'=s++(H)∧aA aa [(0,v0),(1,iv x1),(10,iv z),(11,iv D)]) 2 rfl ⟨rfl,rfl,aq bt⟩ ?_ ?_
 rotate_right
 ·rintro Z ef dZ fQ ⟨rfl,rfl,cg⟩ f1 d ap S
  refine U.sub cg ?_
  refine sq ?_
  refine sq ?_
  refine U.dw kq mixed ?_
  refine Any.vs 4 [0,1,2,3] rfl ?_
  refine a8 d (λ L d=>?_) (λ L d=>?_)
  ·refine Any.cK (t:=49) rfl L ?_
   refine Any.vs 2 [4,5] rfl ?_
   have ⟨dy,cM,d⟩:=ae d
   have ⟨dz,cN,d⟩:=ae d
   have ⟨f2,cO,d⟩:=ae d
   obtain ⟨ev,fA,_,rfl,aO,bB⟩:=(f.rd (λ _ h=>(bT _ h))).elem bd cM
   refine tQ 6 rfl (kI bB) ?_
   refine tQ 7 rfl (kA aI 0 aO pp) ?_
   refine Any.vs 2 [8,9] rfl ?_
   obtain ⟨ew,fB,_,rfl,aR,bC⟩:=(f.rd (λ _ h=>(bT _ h))).elem bd cN
   refine tQ 10 rfl (kI bC) ?_
   refine tQ 11 rfl (kA aI 0 aR pp) ?_
   refine Any.cv 12 g8 (hh dy dz  cO) ?_
   rintro _ _ _ ⟨rfl,rfl,rfl⟩
   refine kp ?_
   refine Any.vs 2 [13,14] rfl ?_
   refine Any.done ?_
   refine sc d ?_ ?_<;>intro fq d
   ·refine sp ?_
    refine U.aP ?_
    refine U.rg aM ?_
    refine vs 3 ?_
    refine er ?_
    refine U.a0 ?_
    exact ap _ (au d) _ _ _ ⟨rfl,rfl,aq bt⟩
   exact U.bw rfl (S _ (au d) _ _ _ ⟨rfl,rfl,aq bt⟩)
  refine Any.cK (t:=49) rfl L ?_
  refine Any.vs 11 [4,5,6,7,8,9,10,11,12,13,14] rfl ?_
  refine Any.done ?_
  refine U.cond_false rfl ?_
  exact U.bw rfl (S _ (au d) _ _ _ ⟨rfl,rfl,aq bt⟩)
 rintro D eg d0 fR ⟨rfl,rfl,ch⟩ d
 refine U.sub ch ?_
 refine sq ?_
 refine sg aM ?_
 refine vs 3 ?_
 refine er ?_
 refine sc d ?_ ?_<;>intro fs d
 ·refine sq ?_
  refine U.draw (n:=16) (is:=[0,1,2,3,4,5,6,7,8,9,10,11,12,13,14,15]) (many (s++(H)) [(13,H),(15,H)]) mixed rfl (by decide +kernel) rfl rfl ?_
  refine Any.vs 6 [0,1,2,3,4,5] rfl ?_
  have ⟨dA,cP,d⟩:=ae d
  have ⟨dB,cR,d⟩:=ae d
  have ⟨dC,cS,d⟩:=ae d
  have ⟨dE,cT,d⟩:=ae d
  obtain ⟨ex,fC,_,rfl,aT,bD⟩:=(f.rd (λ _ h=>(bT _ h))).elem bd cP
  refine ts 6 [7,12,13,14,15] rfl (aF rfl (aF rfl (aU (su (az sr))))) (su (az sr)) (kI bD) ?_
  refine ts 7 [12,13,14,15] rfl (aF rfl (aF rfl (aU pp))) pp (kA aI 0 aT pp) ?_
  refine Any.vs 2 [8,9] rfl ?_
  obtain ⟨ey,fD,_,rfl,aV,bF⟩:=(f.rd (λ _ h=>(bT _ h))).elem bd cR
  refine ts 10 [11,12,13,14,15] rfl (aF rfl (aF rfl (aU (su (az sr))))) (su (az sr)) (kI bF) ?_
  refine ts 11 [12,13,14,15] rfl (aF rfl (aF rfl (aU pp))) pp (kA aI 0 aV pp) ?_
  obtain ⟨ez,eV,_,rfl,rfl,e7,bh,bG,fh,dh,ct⟩:=f.dI bd cS
  refine ts 12 [13,14,15] rfl (aF rfl (aF rfl (aU (su (so sr))))) (su (so sr)) (kI bG) ?_
  refine Any.on 13 rfl rfl (aJ.to (Ox.dJ (K:=CZ) (k:=1) (e:=3) (i:=D) (x':=dA) (pre:=[]) (mid:=[iv dC]) (post:=[]) .id rfl rfl rfl rfl ed rfl (aW rfl bl) bh rfl rfl rfl dh ct rfl rfl (.refl _) λ d8 b5=>⟨rr,(bo rfl (su (az sr))),?_⟩))
  obtain ⟨eA,eW,_,rfl,rfl,e8,bi,bH,fi,di,cu⟩:=b5.dI bd cT
  refine ts 14 [15] rfl (aF rfl (aF rfl (aU (su (so sr))))) (su (so sr)) (kI bH) ?_
  refine Any.on 15 rfl rfl (aJ.to (Ox.dJ (K:=CZ) (k:=1) (e:=3) (i:=x1) (x':=dB) (pre:=[]) (mid:=[iv dE]) (post:=[]) .id rfl rfl rfl rfl ed rfl (aW rfl bl) bi rfl rfl rfl di cu rfl rfl (.refl _) λ ag b6=>⟨rr,(bo rfl (su (az sr))),?_⟩))
  refine Any.done ?_
  refine sg aM ?_
  refine vs 3 ?_
  refine er ?_
  cases av d
  exact rt func148 (.tmp rfl (.tmp rfl .nil)) sr (W _ _ _ ⟨ag,⟨rfl,b6,rfl⟩,rfl⟩)
 refine sp ?_
 refine sq ?_
 refine U.draw (n:=16) (is:=[0,1,2,3,4,5,6,7,8,9,10,11,12,13,14,15]) (many (s++(H)) [(13,H),(15,H)]) mixed rfl (by decide +kernel) rfl rfl ?_
 refine Any.vs 6 [0,1,2,3,4,5] rfl ?_
 have ⟨dF,cU,d⟩:=ae d
 have ⟨dG,cV,d⟩:=ae d
 have ⟨dH,cW,d⟩:=ae d
 have ⟨dK,cX,d⟩:=ae d
 obtain ⟨eB,fE,_,rfl,a1,bI⟩:=(f.rd (λ _ h=>(bT _ h))).elem bd cU
 refine ts 6 [7,12,13,14,15] rfl (aF rfl (aF rfl (aU (su (az sr))))) (su (az sr)) (kI bI) ?_
 refine ts 7 [12,13,14,15] rfl (aF rfl (aF rfl (aU pp))) pp (kA aI 0 a1 pp) ?_
 refine Any.vs 2 [8,9] rfl ?_
 obtain ⟨eC,fF,_,rfl,a2,bJ⟩:=(f.rd (λ _ h=>(bT _ h))).elem bd cV
 refine ts 10 [11,12,13,14,15] rfl (aF rfl (aF rfl (aU (su (az sr))))) (su (az sr)) (kI bJ) ?_
 refine ts 11 [12,13,14,15] rfl (aF rfl (aF rfl (aU pp))) pp (kA aI 0 a2 pp) ?_
 obtain ⟨eD,eX,_,rfl,rfl,e9,bk,bL,fj,dj,cw⟩:=f.dI bd cW
 refine ts 12 [13,14,15] rfl (aF rfl (aF rfl (aU (su (so sr))))) (su (so sr)) (kI bL) ?_
 refine Any.on 13 rfl rfl (aJ.to (Ox.dJ (K:=CZ) (k:=1) (e:=3) (i:=z) (x':=dF) (pre:=[]) (mid:=[iv dH]) (post:=[]) .id rfl rfl rfl rfl ed rfl (aW rfl bl) bk rfl rfl rfl dj cw rfl rfl (.refl _) λ d9 b7=>⟨rr,(bo rfl (su (az sr))),?_⟩))
 obtain ⟨eE,eY,_,rfl,rfl,fa,bm,bM,fk,dk,cx⟩:=b7.dI bd cX
 refine ts 14 [15] rfl (aF rfl (aF rfl (aU (su (so sr))))) (su (so sr)) (kI bM) ?_
 refine Any.on 15 rfl rfl (aJ.to (Ox.dJ (K:=CZ) (k:=1) (e:=3) (i:=D) (x':=dG) (pre:=[]) (mid:=[iv dK]) (post:=[]) .id rfl rfl rfl rfl ed rfl (aW rfl bl) bm rfl rfl rfl dk cx rfl rfl (.refl _) λ ak b8=>⟨rr,(bo rfl (su (az sr))),?_⟩))
 refine Any.done ?_
 refine sg aM ?_
 refine vs 3 ?_
 refine nx aM ?_
 refine vs 3 ?_
 refine es ?_
 refine U.aP ?_
 refine U.cQ d (λ (y:((List Int) × Int × Int)) R' H' aa=>R=R'∧∃ g,aX CZ 1 3 R' v0 y.1 g∧H'=g++(H)∧aA aa [(0,v0),(1,iv x1),(10,iv y.2.1),(11,iv y.2.2)]) (λ (E:((List Int) × Int)) R' H' aa=>R=R'∧∃ C,aX CZ 1 3 R' v0 E.1 C∧H'=C++(H)∧aA aa [(0,v0),(1,iv x1),(11,iv E.2)]) 4 rfl ⟨rfl,ak,b8,rfl,aq bt⟩ ?_ ?_
 rotate_right
 ·rintro y eh d1 fS ⟨rfl,g,m,rfl,ci⟩ f3 d ar aB
  refine U.sub ci ?_
  refine U.aP ?_
  refine sq ?_
  refine U.aP ?_
  refine U.cQ d (λ (ab:Int) R' H' aa=>R=R'∧H'=g++(H)∧aA aa [(0,v0),(1,iv x1),(10,iv ab),(11,iv y.2.2)]) (λ (A:Int) R' H' aa=>R=R'∧H'=g++(H)∧aA aa [(0,v0),(1,iv x1),(10,iv A),(11,iv y.2.2)]) 6 rfl ⟨rfl,rfl,aq bt⟩ ?_ ?_
  rotate_right
  ·rintro ab ej d3 fU ⟨rfl,rfl,ck⟩ f4 d aw T
   refine U.sub ck ?_
   refine sq ?_
   refine sq ?_
   refine U.dw ko mixed ?_
   refine Any.vs 4 [0,1,2,3] rfl ?_
   refine a8 d (λ M d=>?_) (λ M d=>?_)
   ·refine Any.cK (t:=102) rfl M ?_
    refine Any.vs 2 [4,5] rfl ?_
    have ⟨dL,cZ,d⟩:=ae d
    have ⟨dM,c0,d⟩:=ae d
    have ⟨f5,c1,d⟩:=ae d
    obtain ⟨eF,fG,_,rfl,a4,bN⟩:=(m.rd (λ _ h=>(bT _ h))).elem bd cZ
    refine tQ 6 rfl (kI bN) ?_
    refine tQ 7 rfl (kA aI 0 a4 pp) ?_
    refine Any.vs 2 [8,9] rfl ?_
    obtain ⟨eG,fH,_,rfl,a5,bO⟩:=(m.rd (λ _ h=>(bT _ h))).elem bd c0
    refine tQ 10 rfl (kI bO) ?_
    refine tQ 11 rfl (kA aI 0 a5 pp) ?_
    refine Any.cv 12 g8 (hh dL dM  c1) ?_
    rintro _ _ _ ⟨rfl,rfl,rfl⟩
    refine kp ?_
    refine Any.vs 1 [13] rfl ?_
    refine Any.done ?_
    refine sc d ?_ ?_<;>intro ft d
    ·refine sp ?_
     refine U.aP ?_
     refine U.rg aM ?_
     refine vs 3 ?_
     refine er ?_
     refine U.a0 ?_
     exact aw _ (au d) _ _ _ ⟨rfl,rfl,aq bt⟩
    exact U.bw rfl (T _ (au d) _ _ _ ⟨rfl,rfl,aq bt⟩)
   refine Any.cK (t:=102) rfl M ?_
   refine Any.vs 10 [4,5,6,7,8,9,10,11,12,13] rfl ?_
   refine Any.done ?_
   refine U.cond_false rfl ?_
   exact U.bw rfl (T _ (au d) _ _ _ ⟨rfl,rfl,aq bt⟩)
  rintro A ek d4 fW ⟨rfl,rfl,cm⟩ d
  refine U.sub cm ?_
  refine sq ?_
  refine U.aP ?_
  refine U.cQ d (λ (ac:Int) R' H' aa=>R=R'∧H'=g++(H)∧aA aa [(0,v0),(1,iv x1),(10,iv A),(11,iv ac)]) (λ (O:Int) R' H' aa=>R=R'∧H'=g++(H)∧aA aa [(0,v0),(1,iv x1),(10,iv A),(11,iv O)]) 8 rfl ⟨rfl,rfl,aq bt⟩ ?_ ?_
  rotate_right
  ·rintro ac el d5 fX ⟨rfl,rfl,cn⟩ f6 d ax V
   refine U.sub cn ?_
   refine sq ?_
   refine sq ?_
   refine U.dw kq mixed ?_
   refine Any.vs 4 [0,1,2,3] rfl ?_
   refine a8 d (λ N d=>?_) (λ N d=>?_)
   ·refine Any.cK (t:=118) rfl N ?_
    refine Any.vs 2 [4,5] rfl ?_
    have ⟨dN,c3,d⟩:=ae d
    have ⟨dO,c4,d⟩:=ae d
    have ⟨f7,c5,d⟩:=ae d
    obtain ⟨eH,fI,_,rfl,a6,bP⟩:=(m.rd (λ _ h=>(bT _ h))).elem bd c3
    refine tQ 6 rfl (kI bP) ?_
    refine tQ 7 rfl (kA aI 0 a6 pp) ?_
    refine Any.vs 2 [8,9] rfl ?_
    obtain ⟨eJ,fJ,_,rfl,a7,bQ⟩:=(m.rd (λ _ h=>(bT _ h))).elem bd c4
    refine tQ 10 rfl (kI bQ) ?_
    refine tQ 11 rfl (kA aI 0 a7 pp) ?_
    refine Any.cv 12 g8 (hh dN dO  c5) ?_
    rintro _ _ _ ⟨rfl,rfl,rfl⟩
    refine kp ?_
    refine Any.vs 2 [13,14] rfl ?_
    refine Any.done ?_
    refine sc d ?_ ?_<;>intro fu d
    ·refine sp ?_
     refine U.aP ?_
     refine U.rg aM ?_
     refine vs 3 ?_
     refine er ?_
     refine U.a0 ?_
     exact ax _ (au d) _ _ _ ⟨rfl,rfl,aq bt⟩
    exact U.bw rfl (V _ (au d) _ _ _ ⟨rfl,rfl,aq bt⟩)
   refine Any.cK (t:=118) rfl N ?_
   refine Any.vs 11 [4,5,6,7,8,9,10,11,12,13,14] rfl ?_
   refine Any.done ?_
   refine U.cond_false rfl ?_
   exact U.bw rfl (V _ (au d) _ _ _ ⟨rfl,rfl,aq bt⟩)
  rintro O em d6 fY ⟨rfl,rfl,co⟩ d
  refine U.sub co ?_
  refine sq ?_
  refine sg aM ?_
  refine vs 3 ?_
  refine er ?_
  refine sc d ?_ ?_<;>intro fv d
  ·exact U.bw rfl (aB _ (au d) _ _ _ ⟨rfl,g,m,rfl,aq du⟩)
  refine sp ?_
  refine sq ?_
  refine U.draw (n:=16) (is:=[0,1,2,3,4,5,6,7,8,9,10,11,12,13,14,15]) (many (g++(H)) [(13,H),(15,H)]) mixed rfl (by decide +kernel) rfl rfl ?_
  refine Any.vs 6 [0,1,2,3,4,5] rfl ?_
  have ⟨dP,c6,d⟩:=ae d
  have ⟨dQ,c7,d⟩:=ae d
  have ⟨dR,c9,d⟩:=ae d
  have ⟨dS,da,d⟩:=ae d
  obtain ⟨eK,fK,_,rfl,a9,bS⟩:=(m.rd (λ _ h=>(bT _ h))).elem bd c6
  refine ts 6 [7,12,13,14,15] rfl (aF rfl (aF rfl (aU (su (az sr))))) (su (az sr)) (kI bS) ?_
  refine ts 7 [12,13,14,15] rfl (aF rfl (aF rfl (aU pp))) pp (kA aI 0 a9 pp) ?_
  refine Any.vs 2 [8,9] rfl ?_
  obtain ⟨eL,fL,_,rfl,ba,bU⟩:=(m.rd (λ _ h=>(bT _ h))).elem bd c7
  refine ts 10 [11,12,13,14,15] rfl (aF rfl (aF rfl (aU (su (az sr))))) (su (az sr)) (kI bU) ?_
  refine ts 11 [12,13,14,15] rfl (aF rfl (aF rfl (aU pp))) pp (kA aI 0 ba pp) ?_
  obtain ⟨eM,eZ,_,rfl,rfl,fb,bn,bV,fl,dl,cy⟩:=m.dI bd c9
  refine ts 12 [13,14,15] rfl (aF rfl (aF rfl (aU (su (so sr))))) (su (so sr)) (kI bV) ?_
  refine Any.on 13 rfl rfl (aJ.to (Ox.dJ (K:=CZ) (k:=1) (e:=3) (i:=A) (x':=dP) (pre:=[]) (mid:=[iv dR]) (post:=[]) .id rfl rfl rfl rfl ed rfl (aW rfl bl) bn rfl rfl rfl dl cy rfl rfl (.refl _) λ ea b9=>⟨rr,(bo rfl (su (az sr))),?_⟩))
  obtain ⟨eN,e0,_,rfl,rfl,fc,bp,bW,fm,dm,cA⟩:=b9.dI bd da
  refine ts 14 [15] rfl (aF rfl (aF rfl (aU (su (so sr))))) (su (so sr)) (kI bW) ?_
  refine Any.on 15 rfl rfl (aJ.to (Ox.dJ (K:=CZ) (k:=1) (e:=3) (i:=O) (x':=dQ) (pre:=[]) (mid:=[iv dS]) (post:=[]) .id rfl rfl rfl rfl ed rfl (aW rfl bl) bp rfl rfl rfl dm cA rfl rfl (.refl _) λ am cb=>⟨rr,(bo rfl (su (az sr))),?_⟩))
  refine Any.done ?_
  refine sg aM ?_
  refine vs 3 ?_
  refine er ?_
  refine U.rg aM ?_
  refine vs 3 ?_
  refine er ?_
  refine U.a0 ?_
  exact ar _ (au d) _ _ _ ⟨rfl,am,cb,rfl,aq bt⟩
 rintro E ei d2 fT ⟨rfl,C,I,rfl,cj⟩ d
 refine U.sub cj ?_
 refine sq ?_
 refine U.draw (n:=16) (is:=[0,1,2,3,4,5,6,7,8,9,10,11,12,13,14,15]) (many (C++(H)) [(13,H),(15,H)]) mixed rfl (by decide +kernel) rfl rfl ?_
 refine Any.vs 6 [0,1,2,3,4,5] rfl ?_
 have ⟨dT,db,d⟩:=ae d
 have ⟨dU,dc,d⟩:=ae d
 have ⟨dV,dd,d⟩:=ae d
 have ⟨dW,de,d⟩:=ae d
 obtain ⟨eP,fM,_,rfl,bb,bX⟩:=(I.rd (λ _ h=>(bT _ h))).elem bd db
 refine ts 6 [7,12,13,14,15] rfl (aF rfl (aF rfl (aU (su (az sr))))) (su (az sr)) (kI bX) ?_
 refine ts 7 [12,13,14,15] rfl (aF rfl (aF rfl (aU pp))) pp (kA aI 0 bb pp) ?_
 refine Any.vs 2 [8,9] rfl ?_
 obtain ⟨eQ,fN,_,rfl,be,bY⟩:=(I.rd (λ _ h=>(bT _ h))).elem bd dc
 refine ts 10 [11,12,13,14,15] rfl (aF rfl (aF rfl (aU (su (az sr))))) (su (az sr)) (kI bY) ?_
 refine ts 11 [12,13,14,15] rfl (aF rfl (aF rfl (aU pp))) pp (kA aI 0 be pp) ?_
 obtain ⟨eR,e3,_,rfl,rfl,fd,bq,b1,fn,dn,cB⟩:=I.dI bd dd
 refine ts 12 [13,14,15] rfl (aF rfl (aF rfl (aU (su (so sr))))) (su (so sr)) (kI b1) ?_
 refine Any.on 13 rfl rfl (aJ.to (Ox.dJ (K:=CZ) (k:=1) (e:=3) (i:=E.2) (x':=dT) (pre:=[]) (mid:=[iv dV]) (post:=[]) .id rfl rfl rfl rfl ed rfl (aW rfl bl) bq rfl rfl rfl dn cB rfl rfl (.refl _) λ eb cc=>⟨rr,(bo rfl (su (az sr))),?_⟩))
 obtain ⟨eS,e4,_,rfl,rfl,fe,br,b2,fo,dp,cC⟩:=cc.dI bd de
 refine ts 14 [15] rfl (aF rfl (aF rfl (aU (su (so sr))))) (su (so sr)) (kI b2) ?_
 refine Any.on 15 rfl rfl (aJ.to (Ox.dJ (K:=CZ) (k:=1) (e:=3) (i:=x1) (x':=dU) (pre:=[]) (mid:=[iv dW]) (post:=[]) .id rfl rfl rfl rfl ed rfl (aW rfl bl) br rfl rfl rfl dp cC rfl rfl (.refl _) λ an cd=>⟨rr,(bo rfl (su (az sr))),?_⟩))
 refine Any.done ?_
 refine sg aM ?_
 refine vs 3 ?_
 refine er ?_
 cases av d
 exact rt func148 (.tmp rfl (.tmp rfl .nil)) sr (W _ _ _ ⟨an,⟨rfl,cd,rfl⟩,rfl⟩)
theorem Hu(k:Nat):∀ {R:ay} {H:aj} (K:(List Int)) (x1:Int) (x2:Int) (x3:Int) {v0:Value} {y:aj} (_:aX CZ 1 3 R v0 K y) {r:(List Int)} (_:iR k K x1 x2 x3=some r),aL af 130 #[v0,iv x1,iv x2,iv x3] R (y++H) (λ v R' H'=>∃ W,(R=R'∧aX CZ 1 3 R' v0 r W∧v = .tuple #[])∧H'=W++H):=by
 induction k with
 | zero=>intro R H K x1 x2 x3 v0 y P r d; exact absurd d (by simp [iR])
 | succ k an =>
  intro R H K x1 x2 x3 v0 y P r d
  rw [iR] at d
  refine aY func130 134 λ fr cs O=>?_
  refine sg aB ?_
  refine vs 1 ?_
  refine nx aB ?_
  refine vs 1 ?_
  refine er ?_
  refine U.aP ?_
  refine U.GQ d (λ (f:((List Int) × Int × Int × Int × Bool × Bool)) R' H' aa=>R=R'∧∃ A,aX CZ 1 3 R' v0 f.1 A∧H'=A++(H)∧aA aa [(0,v0),(1,iv f.2.1),(2,iv f.2.2.1),(3,iv f.2.2.2.1),(8,.bool f.2.2.2.2.1),(9,.bool f.2.2.2.2.2)])   ⟨rfl,y,P,rfl,aq cS⟩ ?_
  rintro f bJ bB b8 ⟨rfl,A,E,rfl,a5⟩ cf d M  V
  refine U.sub a5 ?_
  refine U.aP ?_
  refine sg bb ?_
  refine vs 4 ?_
  refine es ?_
  refine sg aC ?_
  refine vs 2 ?_
  refine er ?_
  refine sc d ?_ ?_<;>intro bU d
  ·refine sq ?_
   have ⟨cg,bf,d⟩:=ae d
   refine U.rg bb ?_
   refine vs 3 ?_
   refine U.step rfl rfl rfl (Ox.b5 rfl rfl rfl rfl Df rfl rfl ((aL.hole (G:=(λ X=>X++(H))) .id (HH f.1 f.2.1 f.2.2.1 E bf)).mono ?_))
   rintro _ _ _ ⟨ar,⟨rfl,aR,rfl⟩,rfl⟩
   refine ⟨_,(.put rfl),?_⟩
   refine er ?_
   replace d:=V _ (au d)
   cases av d
   exact rt func130 .nil sr (O _ _ _ ⟨ar,⟨rfl,aR,rfl⟩,rfl⟩)
  refine sp ?_
  refine sq ?_
  refine sg aC ?_
  refine vs 2 ?_
  refine er ?_
  refine sc d ?_ ?_<;>intro bV d
  ·refine sq ?_
   have ⟨ch,bg,d⟩:=ae d
   refine U.rg bb ?_
   refine vs 3 ?_
   refine U.step rfl rfl rfl (Ox.b5 rfl rfl rfl rfl Dg rfl rfl ((aL.hole (G:=(λ X=>X++(H))) .id (HJ f.1 f.2.1 f.2.2.1 E bg)).mono ?_))
   rintro _ _ _ ⟨aw,⟨rfl,aT,rfl⟩,rfl⟩
   refine ⟨_,(.put rfl),?_⟩
   refine er ?_
   replace d:=V _ (au d)
   cases av d
   exact rt func130 .nil sr (O _ _ _ ⟨aw,⟨rfl,aT,rfl⟩,rfl⟩)
  refine sp ?_
  refine sq ?_
  refine sg aC ?_
  refine vs 2 ?_
  refine er ?_
  refine U.da d (λ (g:((List Int) × Int)) R' H' aa=>R=R'∧∃ C,aX CZ 1 3 R' v0 g.1 C∧H'=C++(H)∧aA aa [(0,v0),(1,iv f.2.1),(2,iv f.2.2.1),(3,iv g.2),(8,.bool f.2.2.2.2.1),(9,.bool f.2.2.2.2.2),(10,iv (i64 (f.2.2.1 - f.2.1)))])  ?_ ?_
  rotate_right
  ·intro ci d Z
   refine sc d ?_ ?_<;>intro bW d
   ·refine sq ?_
    have ⟨cj,bh,d⟩:=ae d
    refine U.rg bb ?_
    refine vs 3 ?_
    refine U.step rfl rfl rfl (Ox.b5 rfl rfl rfl rfl Dh rfl rfl ((aL.hole (G:=(λ X=>X++(H))) .id (HK f.1 f.2.1 f.2.2.1 E bh)).mono ?_))
    rintro _ _ _ ⟨ax,⟨rfl,aU,rfl⟩,rfl⟩
    refine ⟨_,(.put rfl),?_⟩
    refine er ?_
    refine U.rg aM ?_
    refine vs 3 ?_
    refine er ?_
    exact Z _ (au d) _ _ _ ⟨rfl,ax,aU,rfl,aq fc⟩
   refine sp ?_
   exact Z _ (au d) _ _ _ ⟨rfl,A,E,rfl,aq fc⟩
  rintro g bL bC b9 ⟨rfl,C,Q,rfl,a6⟩ d
  refine U.sub a6 ?_
  refine sq ?_
  have ⟨ck,bi,d⟩:=ae d
  refine U.rg dW ?_
  refine vs 3 ?_
  refine U.cv Di (HM g.1 f.2.1 f.2.2.1 (Q.rd (λ _ h=>(bT _ h))) bi) ?_
  rintro _ _ _ ⟨rfl,rfl,rfl⟩
  refine vs 5 ?_
  refine es ?_
  refine sg aC ?_
  refine vs 2 ?_
  refine er ?_
  refine U.da d (λ (m:((List Int) × Int × Int)) R' H' aa=>R=R'∧∃ z,aX CZ 1 3 R' v0 m.1 z∧H'=z++(H)∧aA aa [(0,v0),(1,iv f.2.1),(2,iv f.2.2.1),(3,iv g.2),(8,.bool f.2.2.2.2.1),(9,.bool f.2.2.2.2.2),(10,iv (i64 (f.2.2.1 - f.2.1))),(11,iv m.2.1),(12,iv m.2.2)])  ?_ ?_
  rotate_right
  ·intro cm d ab
   refine sc d ?_ ?_<;>intro bX d
   ·refine sq ?_
    have ⟨cn,bk,d⟩:=ae d
    refine U.rg bb ?_
    refine vs 3 ?_
    refine U.step rfl rfl rfl (Ox.b5 rfl rfl rfl rfl Dj rfl rfl ((aL.hole (G:=(λ X=>X++(H))) .id (HP g.1 f.2.1 f.2.2.1 Q bk)).mono ?_))
    rintro _ _ _ ⟨az,⟨rfl,aV,rfl⟩,rfl⟩
    refine ⟨_,(.put rfl),?_⟩
    refine nx dc ?_
    refine vs 7 ?_
    refine er ?_
    refine U.rg aB ?_
    refine vs 1 ?_
    refine er ?_
    exact ab _ (au d) _ _ _ ⟨rfl,az,aV,rfl,aq hl⟩
   refine sp ?_
   exact ab _ (au d) _ _ _ ⟨rfl,C,Q,rfl,aq hl⟩
  rintro m bM bD cb ⟨rfl,z,ag,rfl,a7⟩ d
  refine U.sub a7 ?_
  refine sq ?_
  refine sq ?_
  refine U.da d (λ (ao:Bool) R' H' aa=>R=R'∧H'=z++(H)∧aA aa [(0,v0),(1,iv f.2.1),(2,iv f.2.2.1),(3,iv g.2),(8,.bool f.2.2.2.2.1),(9,.bool f.2.2.2.2.2),(10,iv (i64 (f.2.2.1 - f.2.1))),(11,iv m.2.1),(68,.bool ao)])  ?_ ?_
  rotate_right
  ·intro co d N
   refine a8 d (λ I d=>?_) (λ I d=>?_)
   ·refine a8 d (λ S d=>?_) (λ S d=>?_)
    ·refine U.rg cX ?_
     refine vs 2 ?_
     refine U.kn 62 I ?_
     refine vs 3 ?_
     refine U.kn 65 S ?_
     refine vs 3 ?_
     refine er ?_
     exact N _ (au d) _ _ _ ⟨rfl,rfl,aq hl⟩
    refine U.rg cX ?_
    refine vs 2 ?_
    refine U.kn 62 I ?_
    refine vs 3 ?_
    refine U.kn 65 S ?_
    refine vs 3 ?_
    refine er ?_
    exact N _ (au d) _ _ _ ⟨rfl,rfl,aq hl⟩
   refine U.rg cX ?_
   refine vs 2 ?_
   refine U.kn 62 I ?_
   refine vs 6 ?_
   refine er ?_
   exact N _ (au d) _ _ _ ⟨rfl,rfl,aq hl⟩
  rintro ao bN bF cc ⟨rfl,rfl,a9⟩ d
  refine U.sub a9 ?_
  refine U.FM d (λ (J:(List Int)) R' H' aa=>R=R'∧∃ D,aX CZ 1 3 R' v0 J D∧H'=D++(H)∧aA aa [(0,v0),(1,iv f.2.1),(2,iv f.2.2.1),(3,iv g.2),(8,.bool f.2.2.2.2.1),(9,.bool f.2.2.2.2.2),(10,iv (i64 (f.2.2.1 - f.2.1))),(11,iv m.2.1)])  ?_ ?_
  rotate_right
  ·intro cp d ac bv
   refine sc d ?_ ?_<;>intro bY d
   ·refine sq ?_
    have ⟨cq,bm,d⟩:=ae d
    refine U.rg bb ?_
    refine vs 3 ?_
    refine U.step rfl rfl rfl (Ox.b5 rfl rfl rfl rfl Dk rfl rfl ((aL.hole (G:=(λ X=>X++(H))) .id (HR m.1 f.2.1 f.2.2.1 ag bm)).mono ?_))
    rintro _ _ _ ⟨Y,⟨rfl,ak,rfl⟩,rfl⟩
    refine ⟨_,(.put rfl),?_⟩
    refine er ?_
    refine sc d ?_ ?_<;>intro b1 d
    ·replace d:=bv _ (au d)
     replace d:=V _ (au d)
     cases av d
     exact rt func130 .nil sr (O _ _ _ ⟨Y,⟨rfl,ak,rfl⟩,rfl⟩)
    refine sp ?_
    exact ac _ (au d) _ _ _ ⟨rfl,Y,ak,rfl,aq ij⟩
   refine sp ?_
   exact ac _ (au d) _ _ _ ⟨rfl,z,ag,rfl,aq ij⟩
  rintro J bO bG cd ⟨rfl,D,F,rfl,ba⟩ d
  refine U.sub ba ?_
  refine sq ?_
  refine sq ?_
  refine U.da d (λ (ap:Bool) R' H' aa=>R=R'∧H'=D++(H)∧aA aa [(0,v0),(1,iv f.2.1),(2,iv f.2.2.1),(3,iv g.2),(8,.bool f.2.2.2.2.1),(9,.bool f.2.2.2.2.2),(10,iv (i64 (f.2.2.1 - f.2.1))),(11,iv m.2.1),(87,.bool ap)])  ?_ ?_
  rotate_right
  ·intro ct d ad
   refine a8 d (λ T d=>?_) (λ T d=>?_)
   ·have ⟨bx,bn,d⟩:=ae d
    have ⟨bz,bo,d⟩:=ae d
    have ⟨cu,bp,d⟩:=ae d
    refine U.dw kq mixed ?_
    refine Any.vs 3 [0,1,2] rfl ?_
    refine Any.cK (t:=75) rfl T ?_
    refine Any.vs 3 [3,4,5] rfl ?_
    obtain ⟨bQ,b6,_,rfl,aJ,aN⟩:=(F.rd (λ _ h=>(bT _ h))).elem bd bn
    refine tQ 6 rfl (kI aN) ?_
    refine tQ 7 rfl (kA aI 0 aJ pp) ?_
    refine Any.vs 2 [8,9] rfl ?_
    obtain ⟨bS,b7,_,rfl,aK,aO⟩:=(F.rd (λ _ h=>(bT _ h))).elem bd bo
    refine tQ 10 rfl (kI aO) ?_
    refine tQ 11 rfl (kA aI 0 aK pp) ?_
    refine Any.cv 12 g8 (hh bx bz  bp) ?_
    rintro _ _ _ ⟨rfl,rfl,rfl⟩
    refine kp ?_
    refine Any.vs 2 [13,14] rfl ?_
    refine Any.done ?_
    exact ad _ (au d) _ _ _ ⟨rfl,rfl,aq hl⟩
   refine U.dw kq mixed ?_
   refine Any.vs 3 [0,1,2] rfl ?_
   refine Any.cK (t:=75) rfl T ?_
   refine Any.vs 12 [3,4,5,6,7,8,9,10,11,12,13,14] rfl ?_
   refine Any.done ?_
   exact ad _ (au d) _ _ _ ⟨rfl,rfl,aq hl⟩
  rintro ap bP bH ce ⟨rfl,rfl,be⟩ d
  refine U.sub be ?_
  refine sc d ?_ ?_<;>intro b2 d
  ·refine sq ?_
   have ⟨cw,bq,d⟩:=ae d
   refine U.rg b4 ?_
   refine vs 4 ?_
   refine U.step rfl rfl rfl (Ox.b5 rfl rfl rfl rfl Dl rfl rfl ((aL.hole (G:=(λ X=>X++(H))) .id (HT J f.2.1 f.2.2.1 m.2.1 F bq)).mono ?_))
   rintro _ _ _ ⟨aF,⟨rfl,a1,rfl⟩,rfl⟩
   refine ⟨_,(.put rfl),?_⟩
   refine vs 1 ?_
   refine nx aC ?_
   refine vs 2 ?_
   refine er ?_
   refine U.bw rfl ?_
   exact M _ (au d) _ _ _ ⟨rfl,aF,a1,rfl,aq cS⟩
  refine sp ?_
  refine sq ?_
  have ⟨L,br,d⟩:=ae d
  refine U.rg fz ?_
  refine vs 4 ?_
  refine U.step rfl rfl rfl (Ox.b5 rfl rfl rfl rfl Dm rfl rfl ((aL.hole (G:=(λ X=>X++(H))) .id (HV J f.2.1 f.2.2.1 m.2.1 F br)).mono ?_))
  rintro _ _ _ ⟨bI,⟨rfl,am,rfl⟩,rfl⟩
  refine ⟨_,(.put rfl),?_⟩
  refine vs 5 ?_
  refine nx aC ?_
  refine vs 2 ?_
  refine nx cX ?_
  refine vs 8 ?_
  refine es ?_
  have ⟨cx,bs,d⟩:=ae d
  refine U.rg aM ?_
  refine vs 1 ?_
  refine U.s rfl rfl (Ox.quo rfl rfl rfl bs rfl (.put rfl) ?_)
  refine vs 1 ?_
  refine nx aM ?_
  refine vs 3 ?_
  refine er ?_
  refine sc d ?_ ?_<;>intro b3 d
  ·refine sg bb ?_
   refine vs 4 ?_
   refine es ?_
   have ⟨cy,bt,d⟩:=ae d
   refine U.rg bA ?_
   refine vs 4 ?_
   refine U.step rfl rfl rfl (Ox.b5 rfl rfl rfl rfl tj rfl rfl ((aL.hole (G:=(λ X=>X++(H))) .id (an L.1 f.2.1 L.2.1 g.2 am bt)).mono ?_))
   rintro _ _ _ ⟨aG,⟨rfl,a2,rfl⟩,rfl⟩
   refine ⟨_,(.put rfl),?_⟩
   refine er ?_
   refine U.rg aM ?_
   refine vs 3 ?_
   refine er ?_
   refine U.a0 ?_
   exact M _ (au d) _ _ _ ⟨rfl,aG,a2,rfl,aq cS⟩
  refine sg bb ?_
  refine vs 4 ?_
  refine es ?_
  have ⟨cA,bu,d⟩:=ae d
  refine U.rg b4 ?_
  refine vs 5 ?_
  refine U.step rfl rfl rfl (Ox.b5 rfl rfl rfl rfl tj rfl rfl ((aL.hole (G:=(λ X=>X++(H))) .id (an L.1 (i64 (L.2.1+1)) f.2.2.1 g.2 am bu)).mono ?_))
  rintro _ _ _ ⟨aH,⟨rfl,a4,rfl⟩,rfl⟩
  refine ⟨_,(.put rfl),?_⟩
  refine er ?_
  refine U.rg aC ?_
  refine vs 2 ?_
  refine er ?_
  refine U.a0 ?_
  exact M _ (au d) _ _ _ ⟨rfl,aH,a4,rfl,aq cS⟩
theorem Ha(f:(List Int)){v0:Value}{m:aj}(y:aX CZ 1 3 R v0 f m){r:(List Int)}(d:kP f=some r):aL af 112 #[v0] R (m++H) (λ v R' H'=>∃ g,(R=R'∧aX CZ 1 3 R' v0 r g∧v = .tuple #[])∧H'=g++H):=by
 unfold kP at d
 refine aY func112 11 λ fr cs A=>?_
 refine sg aM ?_
 refine vs 1 ?_
 refine U.s rfl rfl (Ox.js rfl rfl y underlying25 rfl (.put rfl) ?_)
 refine vs 1 ?_
 refine er ?_
 refine U.rg b4 ?_
 refine vs 3 ?_
 refine hQ underlying3 underlying203 ?_
 have ⟨F,D,d⟩:=ae d
 refine U.cv xy (y0 (IntKind.wrap .u64 (f.length:Int))  D) ?_
 rintro _ _ _ ⟨rfl,rfl,rfl⟩
 have ⟨I,E,d⟩:=ae d
 refine U.step rfl rfl rfl (Ox.b5 rfl rfl rfl rfl tj rfl rfl ((aL.hole (G:=(λ X=>X++(H))) .id (Hu 12 f 0 (f.length:Int) F y E)).mono ?_))
 rintro _ _ _ ⟨z,⟨rfl,C,rfl⟩,rfl⟩
 refine ⟨_,(.put rfl),?_⟩
 refine er ?_
 cases av d
 exact U.g7 func112 .nil (J.drop sr (A _ _ _ ⟨z,⟨rfl,C,rfl⟩,rfl⟩))
end
end Go.Proofs.YtoaoffinglajbaaGreatDoor
