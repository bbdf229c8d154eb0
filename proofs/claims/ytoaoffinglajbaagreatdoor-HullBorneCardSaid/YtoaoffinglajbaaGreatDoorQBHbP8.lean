/- Walks, part 8: each function computes its model. -/
import Derived.Test.YtoaoffinglajbaaGreatDoorQBHbP7
namespace Go.Proofs.YtoaoffinglajbaaGreatDoor
open Go.Lg Go.Proofs Tryz
set_option maxRecDepth 100000
set_option maxHeartbeats 4000000
section
variable {B:Base} {main:Bool} {af:Jd prog B main} {R:ay} {H:aj}
theorem IS(d:an){g m C:Value}(b5:dX R)(J:ah bz 5 R g d.ao)(L:ah CZ 1 R m d.Out)(M:ah bq 2 R C d.aV){r:((List Int) × Int)}(f:nZ d=some r):aL af 41 #[.agg #[iv d.ax,iv d.ad.ai,iv d.ad.ak,g,m,C]] R H (λ v R' H'=>aH R R'∧H=H'∧∃ bS,ah CZ 1 R' bS r.1∧v = .tuple #[bS,iv r.2]):=by
 unfold nZ at f
 refine aY func41 86 λ fr cs ba=>?_
 refine sg aM ?_
 refine bx λ y=>?_
 refine vs 2 ?_
 refine es ?_
 refine sg aM ?_
 refine lN [_,_,_,_,_,_] 0 6 a7 z0 ?_
 have ⟨dH,ct,f⟩:=ae f
 refine U.cv jT (j6 d b5 J L M ct) ?_
 rintro _ db _ ⟨aI,rfl,rfl⟩
 have ⟨J,L,M⟩:=cH aI J L M
 refine vs 1 ?_
 refine nx aC ?_
 refine vs 2 ?_
 refine er ?_
 refine sc f ?_ ?_<;>intro di f
 ·refine sg aM ?_
  refine vs 3 ?_
  refine er ?_
  cases av f
  exact rt func41 (.tmp rfl (.tmp rfl .nil)) (so sr) (ba _ _ _ ⟨aI,rfl,aw,ah.nil,rfl⟩)
 refine sp ?_
 refine sg bb ?_
 refine lN [_,_,_,_,_,_] 0 6 a7 z0 ?_
 refine cF (#[_,_,_,_,_,_]) im ?_
 refine bu (#[iv 0,iv 0,iv 0,aw,aw,aw]) vJ λ z=>?_
 refine bC (#[_,_,_,_,_,_]) dA .here ?_
 refine es ?_
 refine sg aC ?_
 refine lN [_,_,_,_,_,_] 0 6 dA z0 ?_
 have ⟨dI,cu,f⟩:=ae f
 refine U.cv tL (uR d J L M cu) ?_
 rintro _ bG _ ⟨a8,rfl,rfl⟩
 have ⟨J,L,M⟩:=cH a8 J L M
 refine er ?_
 refine sc f ?_ ?_<;>intro dj f
 ·refine sg aC ?_
  refine vs 2 ?_
  refine er ?_
  cases av f
  exact rt func41 (.tmp rfl (.tmp rfl .nil)) (so (so sr)) (ba _ _ _ ⟨(aI.trans a8),rfl,aw,ah.nil,rfl⟩)
 refine sp ?_
 refine sg aB ?_
 refine vs 1 ?_
 refine es ?_
 refine sg bA ?_
 refine vs 1 ?_
 refine ld 5 ei z1 ?_
 refine ls M underlying26 ?_
 have ⟨bg,cx,f⟩:=ae f
 refine U.s rfl rfl (Ox.shl rfl rfl rfl cx rfl (.put rfl) ?_)
 refine vs 1 ?_
 refine er ?_
 refine U.aP ?_
 refine U.cQ f (λ (V:((List (List Int)) × Int)) R' H' aa=>aH bG R'∧∃ Y A,aX (iy CZ 1) 1 25 R' Y V.1 A∧H'=A++((z,.cells #[iv d.ax,iv d.ad.ai,iv d.ad.ak,g,m,C] 115)::(y,.cells #[iv d.ax,iv d.ad.ai,iv d.ad.ak,g,m,C] 28)::H)∧aA aa [(1,pT y),(5,pT z),(6,Y),(27,iv bg),(28,iv V.2)]) (λ (bs:(List (List Int))) R' H' aa=>aH bG R'∧∃ be a5,aX (iy CZ 1) 1 25 R' be bs a5∧H'=a5++(H)∧aA aa [(6,be)]) 0 rfl ⟨rr,aw,[],aX.nil,rfl,aq b2⟩ ?_ ?_
 rotate_right
 ·rintro V bi cS dw ⟨a6,Y,A,S,rfl,cj⟩ dJ f bI bY
  refine U.sub cj ?_
  have ⟨J,L,M⟩:=cH a6 J L M
  refine sg aB ?_
  refine vs 1 ?_
  refine es ?_
  refine sc f ?_ ?_<;>intro dk f
  ·refine sp ?_
   refine sq ?_
   refine U.aP ?_
   refine sg aC ?_
   refine vs 2 ?_
   refine nx aB ?_
   refine vs 1 ?_
   refine nx aM ?_
   refine lN [_,_,_,_,_,_] 0 6 dA (bH _ z0) ?_
   refine bu (#[iv 0,iv 0,iv 0,aw,aw,aw]) vJ λ D=>?_
   refine bC (#[_,_,_,_,_,_]) dA .here ?_
   refine nx aM ?_
   refine vs 2 ?_
   refine eC (#[_,_,_,_,_,_]) ei .here ?_
   refine es ?_
   refine sg bb ?_
   refine vs 1 ?_
   refine U.ld ei ((aK.box (.tail _ (bH _ z1))).one (j:=5) rfl) ?_
   refine ls M underlying26 ?_
   refine vs 1 ?_
   refine er ?_
   refine U.aP ?_
   refine U.cQ f (λ (W:((List Int) × Int × (List bU))) R' H' aa=>bi=R'∧∃ a2 ag T G,aX CZ 1 3 R' a2 W.1 ag∧aX bq 2 67 R' T W.2.2 G∧H'=ag++(G++((D,.cells #[iv d.ax,iv d.ad.ai,iv d.ad.ak,g,m,T] 115)::A++((z,.cells #[iv d.ax,iv d.ad.ai,iv d.ad.ak,g,m,C] 115)::(y,.cells #[iv d.ax,iv d.ad.ai,iv d.ad.ak,g,m,C] 28)::H)))∧aA aa [(1,pT y),(5,pT z),(6,Y),(7,iv V.2),(8,a2),(9,pT D),(27,iv bg),(28,iv V.2),(35,C),(36,iv (d.aV.length:Int)),(37,iv W.2.1)]) (λ (a1:((List Int) × (List bU))) R' H' aa=>bi=R'∧∃ bv ap bD bh,aX CZ 1 3 R' bv a1.1 ap∧aX bq 2 67 R' bD a1.2 bh∧H'=ap++(bh++((D,.cells #[iv d.ax,iv d.ad.ai,iv d.ad.ak,g,m,bD] 115)::A++((z,.cells #[iv d.ax,iv d.ad.ai,iv d.ad.ak,g,m,C] 115)::(y,.cells #[iv d.ax,iv d.ad.ai,iv d.ad.ak,g,m,C] 28)::H)))∧aA aa [(1,pT y),(5,pT z),(6,Y),(8,bv),(9,pT D),(27,iv bg),(28,iv V.2)]) 2 rfl ⟨rfl,aw,[],aw,[],aX.nil,aX.nil,rfl,aq fN⟩ ?_ ?_
   rotate_right
   ·rintro W c1 cV dy ⟨rfl,a2,ag,T,G,aN,aT,rfl,cm⟩ dK f bJ b1
    refine U.sub cm ?_
    refine sg aB ?_
    refine vs 1 ?_
    refine es ?_
    refine sc f ?_ ?_<;>intro dl f
    ·refine sp ?_
     refine sq ?_
     refine U.aP ?_
     refine sg b4 ?_
     refine vs 1 ?_
     have ⟨F,cy,f⟩:=ae f
     obtain ⟨dd,dt,_,rfl,b7,ce⟩:=M.elem ow cy
     refine bX ce ?_
     refine U.s rfl rfl (Ox.bB (vs:=[_,_]) rfl rfl iC rfl (b7.any.part (j:=0) (n:=2) rfl) rfl (.put rfl) ?_)
     refine bu (#[iv 0,iv 0]) vM λ I=>?_
     refine vs 1 ?_
     refine bC (#[_,_]) iC .here ?_
     refine nx bA ?_
     refine vs 2 ?_
     have ⟨dL,cA,f⟩:=ae f
     refine U.s rfl rfl (Ox.shr rfl rfl rfl cA rfl (.put rfl) ?_)
     have ⟨dM,cB,f⟩:=ae f
     refine U.s rfl rfl (Ox.bits rfl rfl rfl cB rfl (.put rfl) ?_)
     refine vs 1 ?_
     refine er ?_
     refine sc f ?_ ?_<;>intro dn f
     ·have ⟨cO,bp,f⟩:=ae f
      have ⟨cP,br,f⟩:=ae f
      refine U.cut (λ R' H' aa=>bi=R'∧∃ (P:Value) (E:aj) (Q:Value) (N:aj),aX CZ 1 3 R' P cO E∧aX bq 2 67 R' Q cP N∧H'=E++(N++((D,.cells #[iv d.ax,iv d.ad.ai,iv d.ad.ak,g,m,Q] 115)::A++((z,.cells #[iv d.ax,iv d.ad.ai,iv d.ad.ak,g,m,C] 115)::(y,.cells #[iv d.ax,iv d.ad.ai,iv d.ad.ak,g,m,C] 28)::H)))∧aA aa [(1,pT y),(5,pT z),(6,Y),(7,iv V.2),(8,P),(9,pT D),(27,iv bg),(28,iv V.2),(35,C),(36,iv (d.aV.length:Int)),(37,iv W.2.1)]) ?_ ?_
      ·rintro c6 c0 dG ⟨rfl,P,E,Q,N,ac,O,rfl,cq⟩
       refine U.sub cq ?_
       refine U.a0 ?_
       refine U.rg aC ?_
       refine vs 2 ?_
       refine er ?_
       exact bJ _ (au f) _ _ _ ⟨rfl,P,E,Q,N,ac,O,rfl,aq fN⟩
      intro bm
      refine U.draw (n:=14) (is:=[0,1,2,3,4,5,6,7,8,9,10,11,12,13]) (many ((I,.cells #[iv F.cT,iv F.dZ] 67)::ag++(G++((D,.cells #[iv d.ax,iv d.ad.ai,iv d.ad.ak,g,m,T] 115)::A++((z,.cells #[iv d.ax,iv d.ad.ai,iv d.ad.ak,g,m,C] 115)::(y,.cells #[iv d.ax,iv d.ad.ai,iv d.ad.ak,g,m,C] 28)::H)))) [(3,(I,.cells #[iv F.cT,iv F.dZ] 67)::G++((D,.cells #[iv d.ax,iv d.ad.ai,iv d.ad.ak,g,m,T] 115)::A++((z,.cells #[iv d.ax,iv d.ad.ai,iv d.ad.ak,g,m,C] 115)::(y,.cells #[iv d.ax,iv d.ad.ai,iv d.ad.ak,g,m,C] 28)::H))),(8,(I,.cells #[iv F.cT,iv F.dZ] 67)::G++((D,.cells #[iv d.ax,iv d.ad.ai,iv d.ad.ak,g,m,T] 115)::A++((z,.cells #[iv d.ax,iv d.ad.ai,iv d.ad.ak,g,m,C] 115)::(y,.cells #[iv d.ax,iv d.ad.ai,iv d.ad.ak,g,m,C] 28)::H))),(9,(I,.cells #[iv F.cT,iv F.dZ] 67)::(D,.cells #[iv d.ax,iv d.ad.ai,iv d.ad.ak,g,m,T] 115)::A++((z,.cells #[iv d.ax,iv d.ad.ai,iv d.ad.ak,g,m,C] 115)::(y,.cells #[iv d.ax,iv d.ad.ai,iv d.ad.ak,g,m,C] 28)::H)),(13,(I,.cells #[iv F.cT,iv F.dZ] 67)::A++((z,.cells #[iv d.ax,iv d.ad.ai,iv d.ad.ak,g,m,C] 115)::(y,.cells #[iv d.ax,iv d.ad.ai,iv d.ad.ak,g,m,C] 28)::H))]) mixed rfl (by decide +kernel) rfl rfl ?_
      refine Any.vs 4 [0,1,4,5] rfl ?_
      refine ts 6 [9,10,11,12,13] rfl (ih (su (so (az (sk (az (so (so sr))))))) (ih (su (so (az (sk (az (so (so sr))))))) (aF rfl (aF rfl (aU (su (so (az (az (sk (az (so (so sr))))))))))))) (su (so (az (az (sk (az (so (so sr)))))))) (kX ei 5 z0) ?_
      refine ts 7 [8,9,10,11,12,13] rfl (ih (su (sk (az (so (az (so (so sr))))))) (aF rfl (aF rfl (aF rfl (aU (su (sk (az (az (so (az (so (so sr))))))))))))) (su (sk (az (az (so (az (so (so sr)))))))) (λ R' H' dh b6=>Ox.bB (vs:=[_,_]) rfl rfl iC rfl ((aK.box (b6 _ z0)).part (j:=0) (n:=2) rfl) rfl (.one rfl) aG) ?_
      refine tw 2 8 ?_ ?_
      ·refine  (aJ.to (Ox.buildSlice (cells:=#[_]) rfl cw rfl (by decide) c7 (ca rfl rfl rfl rfl cE) rfl λ Z _ _=>⟨_,(.put rfl),⟨rr,(bo rfl (su (so sr))),?_⟩⟩))
       refine tw 3 8 ?_ ?_
       ·refine  (aJ.to (Ox.append (K:=CZ) (λ X=>(Z,_)::(I,_)::X++(G++((D,_)::A++((z,_)::(y,_)::H)))) rfl rfl rfl eh underlying25 (by simp) (.cons (.cons .id)) aN (eB W.2.1 rfl) bp rfl λ P E ac=>⟨_,(.put rfl),⟨rr,(bo rfl (su (so (sk (az sr))))),?_⟩⟩))
        refine Any.on 8 rfl rfl (aJ.to (Ox.buildSlice (cells:=#[_,_]) rfl h3 rfl (by decide) jP (ca rfl rfl rfl rfl cE) rfl λ ab _ _=>⟨_,(.put rfl),⟨rr,(bo rfl (su (so (so (sk (az sr)))))),?_⟩⟩))
        refine Any.on 9 rfl rfl (aJ.to (Ox.append (K:=bq) (λ X=>(ab,_)::(Z,_)::(I,_)::E++(X++((D,_)::A++((z,_)::(y,_)::H)))) rfl rfl rfl hA underlying26 (by simp) (.cons (.cons (.cons (.app .id)))) aT (eB F rfl) br rfl λ Q N O=>⟨_,(.put rfl),⟨rr,(bo rfl (su (so (so (sk (az (az sr))))))),?_⟩⟩))
        refine Any.vs 3 [10,11,12] rfl ?_
        refine Any.on 13 rfl rfl (aJ.to (Ox.dE (cs':=#[_,_,_,_,_,_]) rfl rfl rfl ei O.one (.there (.there (.there (.skip (.skip .here))))) rfl rfl rfl (.refl _) ⟨rr,(bo rfl (su (so (so (sk (az (az (so sr)))))))),?_⟩))
        exact Any.done (U.aR (so (so (so sr))) (bm _ _ _ ⟨rfl,P,E,Q,N,ac,O,rfl,aq fN⟩))
       refine  (aJ.to (Ox.buildSlice (cells:=#[_,_]) rfl h3 rfl (by decide) jP (ca rfl rfl rfl rfl cE) rfl λ ab _ _=>⟨_,(.put rfl),⟨rr,(bo rfl (su (so (so (sk (az sr)))))),?_⟩⟩))
       refine Any.on 3 rfl rfl (aJ.to (Ox.append (K:=CZ) (λ X=>(ab,_)::(Z,_)::(I,_)::X++(G++((D,_)::A++((z,_)::(y,_)::H)))) rfl rfl rfl eh underlying25 (by simp) (.cons (.cons (.cons .id))) aN (e4.lit z1 (aO.le (aO.cons (x:=W.2.1) rfl rfl aO.nil) rfl) rfl) bp rfl λ P E ac=>⟨_,(.put rfl),⟨rr,(bo rfl (su (so (so (sk (az sr)))))),?_⟩⟩))
       refine Any.on 9 rfl rfl (aJ.to (Ox.append (K:=bq) (λ X=>(ab,_)::(Z,_)::(I,_)::E++(X++((D,_)::A++((z,_)::(y,_)::H)))) rfl rfl rfl hA underlying26 (by simp) (.cons (.cons (.cons (.app .id)))) aT (eB F rfl) br rfl λ Q N O=>⟨_,(.put rfl),⟨rr,(bo rfl (su (so (so (sk (az (az sr))))))),?_⟩⟩))
       refine Any.vs 3 [10,11,12] rfl ?_
       refine Any.on 13 rfl rfl (aJ.to (Ox.dE (cs':=#[_,_,_,_,_,_]) rfl rfl rfl ei O.one (.there (.there (.there (.skip (.skip .here))))) rfl rfl rfl (.refl _) ⟨rr,(bo rfl (su (so (so (sk (az (az (so sr)))))))),?_⟩))
       exact Any.done (U.aR (so (so (so sr))) (bm _ _ _ ⟨rfl,P,E,Q,N,ac,O,rfl,aq fN⟩))
      refine  (aJ.to (Ox.buildSlice (cells:=#[_,_]) rfl h3 rfl (by decide) jP (ca rfl rfl rfl rfl cE) rfl λ ab _ _=>⟨_,(.put rfl),⟨rr,(bo rfl (su (so (sk (az sr))))),?_⟩⟩))
      refine Any.on 2 rfl rfl (aJ.to (Ox.buildSlice (cells:=#[_]) rfl cw rfl (by decide) c7 (ca rfl rfl rfl rfl cE) rfl λ Z _ _=>⟨_,(.put rfl),⟨rr,(bo rfl (su (so (so sr)))),?_⟩⟩))
      refine Any.on 3 rfl rfl (aJ.to (Ox.append (K:=CZ) (λ X=>(Z,_)::(ab,_)::(I,_)::X++(G++((D,_)::A++((z,_)::(y,_)::H)))) rfl rfl rfl eh underlying25 (by simp) (.cons (.cons (.cons .id))) aN (eB W.2.1 rfl) bp rfl λ P E ac=>⟨_,(.put rfl),⟨rr,(bo rfl (su (so (so (sk (az sr)))))),?_⟩⟩))
      refine Any.on 9 rfl rfl (aJ.to (Ox.append (K:=bq) (λ X=>(Z,_)::(ab,_)::(I,_)::E++(X++((D,_)::A++((z,_)::(y,_)::H)))) rfl rfl rfl hA underlying26 (by simp) (.cons (.cons (.cons (.app .id)))) aT (e4.lit z1 (aO.le (aO.cons (x:=F) rfl rfl aO.nil) rfl) rfl) br rfl λ Q N O=>⟨_,(.put rfl),⟨rr,(bo rfl (su (so (so (sk (az (az sr))))))),?_⟩⟩))
      refine Any.vs 3 [10,11,12] rfl ?_
      refine Any.on 13 rfl rfl (aJ.to (Ox.dE (cs':=#[_,_,_,_,_,_]) rfl rfl rfl ei O.one (.there (.there (.there (.skip (.skip .here))))) rfl rfl rfl (.refl _) ⟨rr,(bo rfl (su (so (so (sk (az (az (so sr)))))))),?_⟩))
      exact Any.done (U.aR (so (so (so sr))) (bm _ _ _ ⟨rfl,P,E,Q,N,ac,O,rfl,aq fN⟩))
     refine sp ?_
     refine U.a0 ?_
     refine U.rg aC ?_
     refine vs 2 ?_
     refine er ?_
     exact U.aR (so sr) (bJ _ (au f) _ _ _ ⟨rfl,a2,ag,T,G,aN,aT,rfl,aq fN⟩)
    exact U.bw rfl (b1 _ (au f) _ _ _ ⟨rfl,a2,ag,T,G,aN,aT,rfl,aq fc⟩)
   rintro a1 c3 cW dz ⟨rfl,bv,ap,bD,bh,am,ch,rfl,cn⟩ f
   refine U.sub cn ?_
   refine sg aM ?_
   refine U.s rfl rfl (Ox.bB (vs:=[_,_,_,_,_,_]) rfl rfl dA rfl ((aK.box (bH _ (bH _ z0))).part (j:=0) (n:=6) rfl) rfl (.put rfl) ?_)
   refine U.dg (H2:=ap++((D,_)::A++((z,_)::(y,_)::H))) (λ X=>ap++(X++((D,_)::A++((z,_)::(y,_)::H)))) (.app .id) rfl ch (λ c9 ar cc=>?_)
   have ⟨J,L⟩:=dC ar J L
   replace S:=S.mono ar
   replace am:=am.mono ar
   have ⟨dN,cC,f⟩:=ae f
   refine U.cv tL (uR (⟨d.ax,⟨d.ad.ai,d.ad.ak⟩,d.ao,d.Out,a1.2⟩:an) J L cc cC) ?_
   rintro _ dc _ ⟨a9,rfl,rfl⟩
   replace S:=S.mono a9
   replace am:=am.mono a9
   refine vs 1 ?_
   refine er ?_
   refine sc f ?_ ?_<;>intro dp f
   ·refine U.rg bA ?_
    refine vs 2 ?_
    refine U.dg (H2:=(D,_)::A++((z,_)::(y,_)::H)) (λ X=>X++((D,_)::A++((z,_)::(y,_)::H))) .id rfl am (λ da bO cd=>?_)
    replace S:=S.mono bO
    refine U.s rfl rfl (Ox.buildSlice (cells:=#[_]) rfl Cy rfl (by decide) Ca (ca rfl am.cells rfl rfl cE) rfl λ bW _ _=>⟨_,(.put rfl),?_⟩)
    have ⟨dO,cD,f⟩:=ae f
    refine U.s rfl rfl (Ox.append (K:=(iy CZ 1)) (λ X=>(bW,_)::(D,_)::X++((z,_)::(y,_)::H)) rfl rfl rfl BR underlying156 (by simp) (.cons (.cons .id)) S (eB a1.1 ⟨_,rfl,cd⟩) cD rfl λ cL bV ci=>⟨_,(.put rfl),?_⟩)
    refine vs 1 ?_
    refine er ?_
    refine U.a0 ?_
    refine U.rg aC ?_
    refine vs 2 ?_
    refine er ?_
    exact U.aR (so (so sr)) (bI _ (au f) _ _ _ ⟨(((a6.trans ar).trans a9).trans bO),cL,bV,ci,rfl,aq b2⟩)
   refine sp ?_
   refine U.a0 ?_
   refine U.rg aC ?_
   refine vs 2 ?_
   refine er ?_
   exact U.aR (az (so sr)) (bI _ (au f) _ _ _ ⟨((a6.trans ar).trans a9),Y,A,S,rfl,aq b2⟩)
  exact U.bw rfl (U.aR (dm (so (so sr))) (bY _ (au f) _ _ _ ⟨a6,Y,A,S,rfl,aq eD⟩))
 rintro bs bF cU dx ⟨bN,be,a5,bn,rfl,ck⟩ f
 refine U.sub ck ?_
 refine sg bb ?_
 refine vs 1 ?_
 have ⟨dP,cG,f⟩:=ae f
 obtain ⟨de,du,_,⟨cM,rfl,cI⟩,b8,cf⟩:=(bn.rd (λ _ h=>(bT _ h))).elem AB cG
 refine bX cf ?_
 refine U.ld cb ((b8.sub pp).one (j:=0) rfl) ?_
 refine vs 1 ?_
 refine es ?_
 refine sg aM ?_
 refine vs 1 ?_
 refine U.s rfl rfl (Ox.js rfl rfl bn underlying156 rfl (.put rfl) ?_)
 refine vs 1 ?_
 refine er ?_
 refine U.aP ?_
 refine U.cQ f (λ (bd:((List Int) × Int)) R' H' aa=>bF=R'∧∃ a4,ah CZ 1 R' a4 bd.1∧H'=a5++(H)∧aA aa [(12,a4),(71,be),(72,iv (bs.length:Int)),(73,iv bd.2)]) (λ (bQ:(List Int)) R' H' aa=>bF=R'∧∃ bf,ah CZ 1 R' bf bQ∧H=H'∧aA aa [(12,bf)]) 4 rfl ⟨rfl,cM,cI,rfl,aq bt⟩ ?_ ?_
 rotate_right
 ·rintro bd c4 cX dB ⟨rfl,a4,bk,rfl,co⟩ dQ f bL b3
  refine U.sub co ?_
  refine sg aB ?_
  refine vs 1 ?_
  refine es ?_
  refine sc f ?_ ?_<;>intro dq f
  ·refine sp ?_
   refine sq ?_
   refine U.aP ?_
   refine sg aM ?_
   have ⟨cR,cJ,f⟩:=ae f
   obtain ⟨df,dv,_,⟨cN,rfl,bP⟩,b9,cg⟩:=(bn.rd (λ _ h=>(bT _ h))).elem AB cJ
   refine bX cg ?_
   refine U.ld cb ((b9.sub pp).one (j:=0) rfl) ?_
   refine vs 1 ?_
   refine nx aM ?_
   refine vs 2 ?_
   have ⟨dR,cK,f⟩:=ae f
   refine U.cv Ew (Jx cR bd.1 bP.rd bk.rd cK) ?_
   rintro _ _ _ ⟨rfl,rfl,rfl⟩
   refine er ?_
   refine sc f ?_ ?_<;>intro dr f
   ·refine U.rg aC ?_
    refine vs 2 ?_
    refine er ?_
    refine U.a0 ?_
    refine U.rg aC ?_
    refine vs 2 ?_
    refine er ?_
    exact bL _ (au f) _ _ _ ⟨rfl,cN,bP,rfl,aq bt⟩
   refine sp ?_
   refine U.a0 ?_
   refine U.rg aC ?_
   refine vs 2 ?_
   refine er ?_
   exact bL _ (au f) _ _ _ ⟨rfl,a4,bk,rfl,aq bt⟩
  exact U.bw rfl (U.aR (az sr) (b3 _ (au f) _ _ _ ⟨rfl,a4,bk,rfl,aq eD⟩))
 rintro bQ c5 cZ dF ⟨rfl,bf,bM,rfl,cp⟩ f
 refine U.sub cp ?_
 refine sq ?_
 refine sg aM ?_
 refine vs 1 ?_
 refine ls bM underlying25 ?_
 refine vs 1 ?_
 refine er ?_
 refine sc f ?_ ?_<;>intro ds f
 ·refine sg aC ?_
  refine vs 2 ?_
  refine er ?_
  cases av f
  exact rt func41 (.tmp rfl (.tmp rfl .nil)) sr (ba _ _ _ ⟨((aI.trans a8).trans bN),rfl,aw,ah.nil,rfl⟩)
 refine sp ?_
 refine sg aM ?_
 refine vs 3 ?_
 refine er ?_
 cases av f
 exact rt func41 (.tmp rfl (.tmp rfl .nil)) sr (ba _ _ _ ⟨((aI.trans a8).trans bN),rfl,bf,bM,rfl⟩)
theorem IT(f:an)(x1:Int)(x2:Reach){N O P:Value}(z:dX R)(C:ah bz 5 R N f.ao)(m:ah CZ 1 R O f.Out)(y:ah bq 2 R P f.aV){r:(an × Int)}(d:n0 f x1 x2=some r):aL af 42 #[.agg #[iv f.ax,iv f.ad.ai,iv f.ad.ak,N,O,P],iv x1,.agg #[iv x2.ai,iv x2.ak]] R H (λ v R' H'=>aH R R'∧H=H'∧∃ Q S T,ah bz 5 R' Q r.1.ao∧ah CZ 1 R' S r.1.Out∧ah bq 2 R' T r.1.aV∧v = .tuple #[.agg #[iv r.1.ax,iv r.1.ad.ai,iv r.1.ad.ak,Q,S,T],iv r.2]):=by
 unfold n0 at d
 refine aY func42 66 λ fr cs E=>?_
 refine sg bb ?_
 refine bx λ ft=>?_
 refine bx λ I=>?_
 refine bu (#[iv 0,iv 0,iv 0,aw,aw,aw]) gp λ gx=>?_
 refine vs 1 ?_
 refine es ?_
 refine sg aM ?_
 refine lN [_,_,_,_,_,_] 0 6 a7 z2 ?_
 have ⟨bs,am,d⟩:=ae d
 refine U.cv jT (j6 f z C m y am) ?_
 rintro _ a6 _ ⟨A,rfl,rfl⟩
 have ⟨C,m,y⟩:=cH A C m y
 replace z:=z.mono A
 refine vs 1 ?_
 refine nx aC ?_
 refine vs 2 ?_
 refine er ?_
 refine sc d ?_ ?_<;>intro bh d
 ·refine sg bb ?_
  refine cF (#[_,_,_,_,_,_]) jJ ?_
  refine vs 1 ?_
  refine bC (#[_,_,_,_,_,_]) a7 .here ?_
  refine vs 1 ?_
  refine er ?_
  cases av d
  exact rt func42 (.agg rfl a7 rfl (aK.box z0) (.tmp rfl .nil)) (so (so (so sr))) (E _ _ _ ⟨A,rfl,aw,aw,aw,ah.nil,ah.nil,ah.nil,rfl⟩)
 refine sp ?_
 refine sq ?_
 refine U.aP ?_
 refine sg b4 ?_
 refine lN [_,_,_,_,_,_] 0 6 a7 z2 ?_
 refine cF (#[_,_,_,_,_,_]) im ?_
 refine vs 1 ?_
 have ⟨bt,ap,d⟩:=ae d
 refine U.cv tD (uJ (⟨f.ax,⟨f.ad.ai,f.ad.ak⟩,f.ao,f.Out,f.aV⟩:an) x1 C m y ap) ?_
 rintro _ _ _ ⟨rfl,rfl,rfl⟩
 refine vs 2 ?_
 refine er ?_
 refine sc d ?_ ?_<;>intro bi d
 ·refine sg aM ?_
  refine cF (#[_,_,_,_,_,_]) jJ ?_
  refine bC (#[_,_,_,_,_,_]) a7 .here ?_
  refine vs 1 ?_
  refine er ?_
  cases av d
  exact rt func42 (.agg rfl a7 rfl (aK.box z0) (.tmp rfl .nil)) (so (so (so sr))) (E _ _ _ ⟨A,rfl,aw,aw,aw,ah.nil,ah.nil,ah.nil,rfl⟩)
 refine sg bb ?_
 refine lN [_,_] 0 2 cB z1 ?_
 have ⟨bv,aq,d⟩:=ae d
 refine U.cv tM (uS x2 1 99 99  aq) ?_
 rintro _ _ _ ⟨rfl,rfl,rfl⟩
 refine vs 2 ?_
 refine er ?_
 refine sc d ?_ ?_<;>intro bk d
 ·refine sg aM ?_
  refine cF (#[_,_,_,_,_,_]) jJ ?_
  refine bC (#[_,_,_,_,_,_]) a7 .here ?_
  refine vs 1 ?_
  refine er ?_
  cases av d
  exact rt func42 (.agg rfl a7 rfl (aK.box z0) (.tmp rfl .nil)) (so (so (so sr))) (E _ _ _ ⟨A,rfl,aw,aw,aw,ah.nil,ah.nil,ah.nil,rfl⟩)
 refine sp ?_
 refine U.a0 ?_
 refine sg cX ?_
 refine vs 1 ?_
 refine ld 3 cZ z2 ?_
 refine vs 1 ?_
 have ⟨D,ar,d⟩:=ae d
 obtain ⟨ba,bo,_,⟨bp,bn,rfl⟩,W,aa⟩:=C.elem fQ ar
 refine bX aa ?_
 refine vs 1 ?_
 refine U.s rfl rfl (Ox.bB (vs:=[_,_]) rfl rfl cB rfl (W.any.part (j:=2) (n:=2) rfl) rfl (.put rfl) ?_)
 refine bu (#[iv 0,iv 0]) fT λ J=>?_
 refine bC (#[_,_]) cB .here ?_
 refine nx ov ?_
 refine vs 1 ?_
 refine ld 0 aI z0 ?_
 refine vs 1 ?_
 refine ld 0 aI z2 ?_
 refine U.s rfl rfl (Ox.max (a:=D.Weight.ai) (l:=[x2.ai]) rfl rfl rfl (.put rfl) ?_)
 refine vs 1 ?_
 refine ld 1 aI z0 ?_
 refine vs 1 ?_
 refine ld 1 aI z2 ?_
 refine U.s rfl rfl (Ox.min (a:=D.Weight.ak) (l:=[x2.ak]) rfl rfl rfl (.put rfl) ?_)
 refine cF (#[_,_]) jI ?_
 refine bu (#[iv 0,iv 0]) fT λ L=>?_
 refine bC (#[_,_]) cB .here ?_
 refine es ?_
 refine sg bA ?_
 refine vs 1 ?_
 refine ld 0 aI z0 ?_
 refine vs 1 ?_
 refine ld 1 aI z0 ?_
 refine vs 1 ?_
 refine er ?_
 refine sc d ?_ ?_<;>intro bm d
 ·refine sg aM ?_
  refine cF (#[_,_,_,_,_,_]) jJ ?_
  refine bC (#[_,_,_,_,_,_]) a7 (.there (.there .here)) ?_
  refine vs 1 ?_
  refine er ?_
  cases av d
  exact rt func42 (.agg rfl a7 rfl (aK.box z2) (.tmp rfl .nil)) (so (so (so (so (so sr))))) (E _ _ _ ⟨A,rfl,aw,aw,aw,ah.nil,ah.nil,ah.nil,rfl⟩)
 refine sp ?_
 refine sg bA ?_
 refine vs 1 ?_
 refine ld 3 cZ z4 ?_
 have ⟨a1,au,d⟩:=ae d
 refine U.cv xL (zt f.ao C.rd au) ?_
 rintro br a8 _ ⟨G,_,a4,M,rfl,rfl⟩
 have ⟨m,y⟩:=dC G m y
 replace z:=z.mono G
 refine vs 1 ?_
 refine U.s rfl rfl (Ox.dE (cs':=#[_,_,_,_,_,_]) rfl rfl rfl cZ M.one (.skip (.there (.there (.there (.there .here))))) rfl rfl rfl (.refl _) ?_)
 refine nx dc ?_
 refine vs 1 ?_
 refine ld 3 cZ (bH _ z4) ?_
 refine vs 1 ?_
 refine lN [_,_] 0 2 cB (bH _ z0) ?_
 have ⟨g,az,d⟩:=ae d
 obtain ⟨bd,be,_,⟨aO,aA,rfl⟩,rfl,bf,Z,ab,bg,aN,ag⟩:=M.dI fQ az
 refine bX ab ?_
 refine vs 1 ?_
 refine U.s rfl rfl (Ox.dJ (K:=bz) (k:=5) (e:=105) (i:=x1) (x':=(⟨g.Name,g.dR,⟨cy D.Weight.ai [x2.ai],gf D.Weight.ak [x2.ak]⟩,g.On⟩:cA)) (pre:=[.string g.Name,iv g.dR]) (mid:=[iv g.Weight.ai,iv g.Weight.ak]) (post:=[aO]) .id rfl rfl rfl rfl Lw rfl (aW rfl (aW rfl bl)) Z rfl rfl rfl aN ag ⟨_,aA,rfl⟩ rfl (.refl _) λ a2 ac=>?_)
 refine nx b4 ?_
 refine lN [_,_,_,_,_,_] 0 6 a7 (bH _ z4) ?_
 refine U.dg (H2:=(L,_)::(J,_)::(gx,_)::(I,_)::(ft,_)::H) (λ X=>X++((L,_)::(J,_)::(gx,_)::(I,_)::(ft,_)::H)) .id rfl ac (λ a5 F Y=>?_)
 have ⟨m,y⟩:=dC F m y
 replace z:=z.mono F
 have ⟨bw,aB,d⟩:=ae d
 refine U.cv tJ (uP (⟨f.ax,⟨f.ad.ai,f.ad.ak⟩,a1.set x1.toNat (⟨g.Name,g.dR,⟨cy D.Weight.ai [x2.ai],gf D.Weight.ak [x2.ak]⟩,g.On⟩:cA),f.Out,f.aV⟩:an) z Y m y aB) ?_
 rintro _ a9 _ ⟨V,rfl,aR,aT,aU,aF,aG,aJ,rfl⟩
 refine vs 2 ?_
 refine bC (#[_,_,_,_,_,_]) a7 (.there (.there .here)) ?_
 refine vs 1 ?_
 refine er ?_
 cases av d
 exact rt func42 (.agg rfl a7 rfl (aK.box z2) (.tmp rfl .nil)) (so (so (so (so (so sr))))) (E _ _ _ ⟨(((A.trans G).trans F).trans V),rfl,aR,aT,aU,aF,aG,aJ,rfl⟩)
end
end Go.Proofs.YtoaoffinglajbaaGreatDoor
