/- Walks, part 7: each function computes its model. -/
import Derived.Test.YtoaoffinglajbaaGreatDoorQBHbP6
namespace Go.Proofs.YtoaoffinglajbaaGreatDoor
open Go.Lg Go.Proofs Tryz
set_option maxRecDepth 100000
set_option maxHeartbeats 4000000
section
variable {B:Base} {main:Bool} {af:Jd prog B main} {R:ay} {H:aj}
theorem IN(A:an){a6 a8 a9:Value}(bs:dX R)(Y:ah bz 5 R a6 A.ao)(bh:ah CZ 1 R a8 A.Out)(bi:ah bq 2 R a9 A.aV){r:(Int × Int × Int)}(g:nX A=some r):aL af 38 #[.agg #[iv A.ax,iv A.ad.ai,iv A.ad.ak,a6,a8,a9]] R H (λ v R' H'=>aH R R'∧H=H'∧v = .tuple #[iv r.1,iv r.2.1,iv r.2.2]):=by
 unfold nX at g
 refine aY func38 63 λ fr cs a2=>?_
 refine sg bb ?_
 refine bx λ b9=>?_
 refine vs 3 ?_
 refine nx cX ?_
 refine lN [_,_,_,_,_,_] 0 6 a7 z0 ?_
 have ⟨f,bO,g⟩:=ae g
 refine U.cv hE (hO A (λ y=>gS y) bs Y bh bi ⟨80,#[],#[],rfl,o5,λ R' H' ac cc y r va bp bG=>by obtain ⟨_,rfl,⟨cx,cy,cA,bQ,bS,bU,rfl⟩⟩:=bp; exact (pR y bQ bS bU bG).mono λ _ _ _ ⟨bk,bm,bn⟩=>⟨bk ▸ rr,bm.symm,bn⟩⟩ bO) ?_
 rintro _ T _ ⟨ag,z,F,G,I,D,J,ci,ck,cm,am,cn,rfl,rfl⟩
 replace Y:=Y.mono ag
 refine vs 3 ?_
 refine bu (#[iv 0,iv 0,iv 0,aw,aw,aw,aw,.map none]) g1 λ fF=>?_
 refine bC (#[_,_,_,_,_,_,_,_]) dM .here ?_
 refine vs 1 ?_
 refine es ?_
 refine sg aC ?_
 refine vs 2 ?_
 refine er ?_
 refine sc g ?_ ?_<;>intro cd g
 ·refine sg bb ?_
  refine vs 4 ?_
  refine er ?_
  cases av g
  exact rt func38 (.tmp rfl (.tmp rfl (.tmp rfl .nil))) (so (az (so sr))) (a2 _ _ _ ⟨ag,br⟩)
 refine sp ?_
 refine sq ?_
 refine U.dw bA mixed ?_
 refine Any.vs 1 [0] rfl ?_
 refine tl 1 6 iY z0 ?_
 refine Any.tk 2 rfl pp (λ R' H' ac aT=>Ox.iM (K:=eA) (k:=6) (xs:=f.1.cW) rfl rfl (am.mono ac) underlying127 rfl (.one rfl) aG) ?_
 refine Any.vs 2 [3,4] rfl ?_
 refine Any.done ?_
 refine sg aC ?_
 refine U.s rfl rfl (Ox.Jz rfl rfl λ N aN bF=>⟨_,(.put rfl),?_⟩)
 refine vs 1 ?_
 refine es ?_
 refine sg bb ?_
 refine vs 1 ?_
 refine U.ld cZ ((aK.box (bH _ (.tail _ (bH _ z0)))).one (j:=3) rfl) ?_
 refine ls Y underlying24 ?_
 refine vs 1 ?_
 refine er ?_
 refine U.aP ?_
 refine U.aR (H':=aN++((fF,.cells #[iv f.1.book.ax,iv f.1.book.ad.ai,iv f.1.book.ad.ak,F,G,I,D,J] 130)::z++(H))) (dm (sk (dm (so sr)))) ?_
 refine U.cQ g (λ (d:(Int × Int × (Int→Int→Int) × Int)) R' H' aa=>T=R'∧∃ W,jN N d.2.2.1 W∧H'=W++((fF,.cells #[iv f.1.book.ax,iv f.1.book.ad.ai,iv f.1.book.ad.ak,F,G,I,D,J] 130)::z++(H))∧aA aa [(2,iv d.1),(3,iv d.2.1),(5,pT fF),(6,N),(26,iv (A.ao.length:Int)),(27,iv d.2.2.2)]) (λ (ap:(Int × Int)) R' H' aa=>T=R'∧H=H'∧aA aa [(2,iv ap.1),(3,iv ap.2)]) 0 rfl ⟨rfl,aN,bF,rfl,aq cS⟩ ?_ ?_
 rotate_right
 ·rintro d b3 bV cp ⟨rfl,W,bD,rfl,bI⟩ cB g aO be
  refine U.sub bI ?_
  refine sg aB ?_
  refine vs 1 ?_
  refine es ?_
  refine sc g ?_ ?_<;>intro ce g
  ·refine sp ?_
   refine sq ?_
   refine U.aP ?_
   refine sg aC ?_
   refine vs 2 ?_
   refine nx aB ?_
   refine vs 1 ?_
   refine es ?_
   refine sg bb ?_
   refine vs 1 ?_
   refine ld 6 iY (bH _ z0) ?_
   refine ls am underlying127 ?_
   refine vs 1 ?_
   refine er ?_
   refine U.aP ?_
   refine U.cQ g (λ (C:((Int→Int→Int) × Int × Int)) R' H' aa=>T=R'∧∃ S,jN N C.1 S∧H'=S++((fF,.cells #[iv f.1.book.ax,iv f.1.book.ad.ai,iv f.1.book.ad.ak,F,G,I,D,J] 130)::z++(H))∧aA aa [(2,iv d.1),(3,iv d.2.1),(5,pT fF),(6,N),(7,iv d.2.2.2),(8,iv C.2.1),(26,iv (A.ao.length:Int)),(27,iv d.2.2.2),(31,D),(32,iv (f.1.cW.length:Int)),(33,iv C.2.2)]) (λ (ar:((Int→Int→Int) × Int)) R' H' aa=>T=R'∧∃ Q,jN N ar.1 Q∧H'=Q++((fF,.cells #[iv f.1.book.ax,iv f.1.book.ad.ai,iv f.1.book.ad.ak,F,G,I,D,J] 130)::z++(H))∧aA aa [(2,iv d.1),(3,iv d.2.1),(5,pT fF),(6,N),(7,iv d.2.2.2),(8,iv ar.2),(26,iv (A.ao.length:Int)),(27,iv d.2.2.2)]) 2 rfl ⟨rfl,W,bD,rfl,aq fN⟩ ?_ ?_
   rotate_right
   ·rintro C b6 bY ct ⟨rfl,S,ab,rfl,bL⟩ cC g bd bf
    refine U.sub bL ?_
    refine sg aB ?_
    refine vs 1 ?_
    refine es ?_
    refine sc g ?_ ?_<;>intro cf g
    ·refine sp ?_
     refine sq ?_
     refine U.aP ?_
     refine sg bb ?_
     have ⟨O,bP,g⟩:=ae g
     obtain ⟨cb,co,_,⟨V,rfl⟩,bt,bv⟩:=am.elem r3 bP
     refine bX bv ?_
     refine U.s rfl rfl (Ox.bB (vs:=_) rfl rfl dT (by simp [V]) (bt.any.part (j:=0) (n:=6) (dd (by simp [V]))) rfl (.put rfl) ?_)
     refine bu (List.toArray ([iv 0]++([0,0,0,0,0].map (Value.int .i64)++[]))) lM λ M=>?_
     refine U.s rfl rfl (Ox.cG (cs':=_) rfl rfl rfl dT (by simp [V]) (cj (aW rfl bl) (cj (ej λ _=>rfl) bl)) .here (by simp) (eo (by simp [V])) rfl (.refl _) ?_)
     refine nx cX ?_
     refine vs 3 ?_
     have ⟨m,a5,g⟩:=ae g
     refine bX (h6 oU V a5) ?_
     refine U.ld aI ((aK.box z0).arr a5 rfl) ?_
     refine cF (#[_,_]) LU ?_
     refine bu (#[iv 0,iv 0]) Mu λ E=>?_
     refine bC (#[_,_]) sB .here ?_
     refine es ?_
     refine U.cut (λ R' H' aa=>T=R'∧∃ (L:aj),jN N (lL C.1 d.2.2.2 m (i64 ((C.1 d.2.2.2 m)+1))) L∧H'=(E,.cells #[iv d.2.2.2,iv m] 152)::L++((fF,.cells #[iv f.1.book.ax,iv f.1.book.ad.ai,iv f.1.book.ad.ak,F,G,I,D,J] 130)::z++(H))∧aA aa [(2,iv d.1),(3,iv d.2.1),(5,pT fF),(6,N),(7,iv d.2.2.2),(8,iv C.2.1),(11,pT E),(26,iv (A.ao.length:Int)),(27,iv d.2.2.2),(31,D),(32,iv (f.1.cW.length:Int)),(33,iv C.2.2)]) ?_ ?_
     ·rintro b8 b2 cw ⟨rfl,L,P,rfl,bN⟩
      refine U.sub bN ?_
      refine U.rg b4 ?_
      refine vs 2 ?_
      refine lN [_,_] 0 2 sB z0 ?_
      refine U.s rfl rfl (Ox.uf (p:=d.2.2.2) (w:=m) rfl rfl rfl pX P (λ _ h=>(.tail _ (bT _ h))) rfl (.put rfl) ?_)
      refine U.s rfl rfl (Ox.max (a:=C.2.1) (l:=[(lL C.1 d.2.2.2 m (i64 ((C.1 d.2.2.2 m)+1))) d.2.2.2 m]) rfl rfl rfl (.put rfl) ?_)
      refine vs 1 ?_
      refine er ?_
      refine U.a0 ?_
      refine U.rg aC ?_
      refine vs 2 ?_
      refine er ?_
      exact U.aR (so sr) (bd _ (au g) _ _ _ ⟨rfl,L,P,rfl,aq fN⟩)
     intro a1
     refine U.draw (n:=7) (is:=[0,1,2,3,4,5,6]) (many ((E,.cells #[iv d.2.2.2,iv m] 152)::(M,.cells (List.toArray ([iv O.eb]++(O.weights.map (Value.int .i64)++[]))) 118)::S++((fF,.cells #[iv f.1.book.ax,iv f.1.book.ad.ai,iv f.1.book.ad.ak,F,G,I,D,J] 130)::z++(H))) [(2,(E,.cells #[iv d.2.2.2,iv m] 152)::(M,.cells (List.toArray ([iv O.eb]++(O.weights.map (Value.int .i64)++[]))) 118)::(fF,.cells #[iv f.1.book.ax,iv f.1.book.ad.ai,iv f.1.book.ad.ak,F,G,I,D,J] 130)::z++(H)),(4,(E,.cells #[iv d.2.2.2,iv m] 152)::(M,.cells (List.toArray ([iv O.eb]++(O.weights.map (Value.int .i64)++[]))) 118)::(fF,.cells #[iv f.1.book.ax,iv f.1.book.ad.ai,iv f.1.book.ad.ak,F,G,I,D,J] 130)::z++(H)),(6,(E,.cells #[iv d.2.2.2,iv m] 152)::(M,.cells (List.toArray ([iv O.eb]++(O.weights.map (Value.int .i64)++[]))) 118)::(fF,.cells #[iv f.1.book.ax,iv f.1.book.ad.ai,iv f.1.book.ad.ak,F,G,I,D,J] 130)::z++(H))]) mixed rfl (by decide +kernel) rfl rfl ?_
     refine Any.vs 1 [0] rfl ?_
     refine ts 1 [2,3,4,5,6] rfl (aF rfl (aF rfl (aF rfl (aU (su (sk (so (az (so (az sr)))))))))) (su (sk (so (az (so (az sr)))))) (λ R' H' ac aT=>Ox.bB (vs:=[_,_]) rfl rfl sB rfl ((aK.box (aT _ z0)).part (j:=0) (n:=2) rfl) rfl (.one rfl) aG) ?_
     refine tw 2 4 ?_ ?_
     ·refine  (aJ.to (Ox.uf (p:=d.2.2.2) (w:=m) rfl rfl rfl pX ab (λ _ h=>(.tail _ (.tail _ (bT _ h)))) rfl (.put rfl) ⟨rr,(bo rfl (su (sk (sk (az sr))))),?_⟩))
      refine Any.vs 1 [3] rfl ?_
      refine Any.on 4 rfl rfl (aJ.to (Ox.mapEntry (p:=d.2.2.2) (w:=m) (λ X=>(E,_)::(M,_)::X++((fF,_)::z++(H))) rfl rfl rfl pX (.cons (.cons .id)) ab rfl λ bg ba Z=>⟨_,(.put rfl),⟨rr,(bo rfl (su (sk (sk (az sr))))),?_⟩⟩))
      refine Any.vs 1 [5] rfl ?_
      refine Any.on 6 rfl rfl (aJ.to (Ox.entryStore (λ X=>(E,_)::(M,_)::X++((fF,_)::z++(H))) rfl rfl rfl rfl (.cons (.cons .id)) Z rfl (.refl _) λ L P=>⟨rr,(bo rfl (su (sk (sk (az sr))))),?_⟩))
      exact Any.done (U.aR (sk (so sr)) (a1 _ _ _ ⟨rfl,L,P,rfl,aq iW⟩))
     refine  (aJ.to (Ox.mapEntry (p:=d.2.2.2) (w:=m) (λ X=>(E,_)::(M,_)::X++((fF,_)::z++(H))) rfl rfl rfl pX (.cons (.cons .id)) ab rfl λ bg ba Z=>⟨_,(.put rfl),⟨rr,(bo rfl (su (sk (sk (az sr))))),?_⟩⟩))
     refine Any.vs 1 [5] rfl ?_
     refine Any.on 2 rfl rfl (aJ.to (Ox.uf (p:=d.2.2.2) (w:=m) rfl rfl rfl pX Z.own (λ _ h=>(.tail _ (.tail _ (bT _ h)))) rfl (.put rfl) ⟨rr,(bo rfl (su (sk (sk (az sr))))),?_⟩))
     refine Any.vs 1 [3] rfl ?_
     refine Any.on 6 rfl rfl (aJ.to (Ox.entryStore (λ X=>(E,_)::(M,_)::X++((fF,_)::z++(H))) rfl rfl rfl rfl (.cons (.cons .id)) Z rfl (.refl _) λ L P=>⟨rr,(bo rfl (su (sk (sk (az sr))))),?_⟩))
     exact Any.done (U.aR (sk (so sr)) (a1 _ _ _ ⟨rfl,L,P,rfl,aq iW⟩))
    exact U.bw rfl (bf _ (au g) _ _ _ ⟨rfl,S,ab,rfl,aq ij⟩)
   rintro ar b7 b1 cu ⟨rfl,Q,a4,rfl,bM⟩ g
   refine U.sub bM ?_
   refine sg aM ?_
   refine vs 3 ?_
   refine er ?_
   refine sc g ?_ ?_<;>intro ch g
   ·refine U.rg bb ?_
    refine vs 4 ?_
    refine er ?_
    refine U.a0 ?_
    refine U.rg aC ?_
    refine vs 2 ?_
    refine er ?_
    exact aO _ (au g) _ _ _ ⟨rfl,Q,a4,rfl,aq cS⟩
   refine sp ?_
   refine U.a0 ?_
   refine U.rg aC ?_
   refine vs 2 ?_
   refine er ?_
   exact aO _ (au g) _ _ _ ⟨rfl,Q,a4,rfl,aq cS⟩
  exact U.bw rfl (U.aR (az (so (az sr))) (be _ (au g) _ _ _ ⟨rfl,rfl,aq cg⟩))
 rintro ap b5 bW cq ⟨rfl,rfl,bJ⟩ g
 refine U.sub bJ ?_
 refine sg bA ?_
 refine vs 5 ?_
 refine er ?_
 cases av g
 exact rt func38 (.tmp rfl (.tmp rfl (.tmp rfl .nil))) sr (a2 _ _ _ ⟨ag,br⟩)
theorem uQ(m:(List bU)){v0:Value}(g:bE bq 2 R H v0 m){r:List bU}(d:mN m=some r):aL af 92 #[v0] R H (λ v R' H'=>aH R R'∧∃ w Hs,aX bq 2 67 R' w r Hs∧H'=Hs++H∧v=w):=by
 rcases g.p6 with ⟨z,rfl,rfl⟩ | ⟨E,G,z,rfl⟩
 ·have d:some ([]:List bU)=some r:=by simpa [mN,cu] using d
  refine aY func92 8 λ fr cs f=>?_
  refine sg aB ?_
  refine vs 1 ?_
  refine es ?_
  refine sg aC ?_
  refine vs 1 ?_
  refine U.s rfl rfl (Ox.jn rfl rfl rfl underlying26 rfl rfl (.put rfl) ?_)
  refine er ?_
  refine U.cond_true rfl ?_
  refine sg aB ?_
  refine vs 1 ?_
  refine er ?_
  cases av d
  exact rt func92 (.tmp rfl .nil) sr (f _ _ _ ⟨(rr),aw,[],aX.nil,br⟩)
 ·unfold mN at d
  refine aY func92 8 λ fr cs f=>?_
  refine sg aB ?_
  refine vs 1 ?_
  refine es ?_
  refine sg aC ?_
  refine vs 1 ?_
  refine U.s rfl rfl (Ox.jn rfl rfl rfl underlying26 rfl rfl (.put rfl) ?_)
  refine er ?_
  refine U.cond_false rfl ?_
  refine sp ?_
  refine sg bb ?_
  refine dt (#[]) h3 sK λ F=>?_
  refine vs 1 ?_
  have ⟨I,C,d⟩:=ae d
  refine U.s rfl rfl (Ox.append (K:=bq) (λ X=>X++(H)) rfl rfl rfl hA underlying26 (by simp) .id (aX.lit (aO.le aO.nil rfl) rfl) (g.sub (su (so sr))).arg C rfl λ D y A=>⟨_,(.put rfl),?_⟩)
  refine vs 1 ?_
  refine er ?_
  cases av d
  exact rt func92 (.tmp rfl .nil) sr (f _ _ _ ⟨(rr),D,y,A,br⟩)
theorem uR(d:an){G I K:Value}(V:ah bz 5 R G d.ao)(W:ah CZ 1 R I d.Out)(Y:ah bq 2 R K d.aV){r:Bool}(f:mO d=some r):aL af 93 #[.agg #[iv d.ax,iv d.ad.ai,iv d.ad.ak,G,I,K]] R H (λ v R' H'=>aH R R'∧H=H'∧v = .bool r):=by
 unfold mO at f
 refine aY func93 6 λ fr cs E=>?_
 refine sg aC ?_
 refine bx λ aw=>?_
 refine bu (#[.bool false]) vL λ g=>?_
 refine es ?_
 refine sg aC ?_
 refine lN [_,_,_,_,_,_] 0 6 dA z1 ?_
 refine U.s rfl rfl (Ox.makeFunc (vs:=#[_]) (us:=#[]) rfl rfl rfl rfl (.put rfl) ?_)
 refine er ?_
 refine U.aP ?_
 refine U.aR (H':=(g,.cells #[.bool false] 4)::H) (sk (so sr)) ?_
 refine U.rX (A:=(eT eA)) (λ y s=>hN y d s) .ret f rfl tC rfl rfl rfl (λ (D:Unit) R' T H'=>aH R R'∧H'=(g,.cells #[.bool false] 4)::T) (λ (F:Unit) R' T H'=>aH R R'∧H'=(g,.cells #[.bool true] 4)::T) (λ D N P L q=>by obtain ⟨m,rfl⟩:=q; exact ⟨(g,.cells #[.bool false] 4)::[],by simp,λ R1 Q h=>⟨m.trans h,by simp⟩⟩) (λ F N P L q=>by obtain ⟨m,rfl⟩:=q; exact ⟨(g,.cells #[.bool true] 4)::[],by simp,λ R1 Q h=>⟨m.trans h,by simp⟩⟩) (λ v Inv Hy z ab Z ae=>(uI ab d Z V W Y ae).mono λ _ _ _ h=>⟨h.1,h.2.1⟩) ⟨rr,rfl⟩ ?_ ?_ ?_
 ·rintro ag D O M _ ⟨C,rfl⟩ f
  refine U.a0 ?_
  refine sg aB ?_
  refine eC (#[_]) eN .here ?_
  refine er ?_
  cases av f
  exact U.hn (.there .here) func93 (.one rfl eN ((aK.box z0).one (j:=0) rfl) .nil) (J.drop (so (so sr)) (E _ _ _ ⟨C,br⟩))
 ·rintro ag F ap M _ ⟨aa,rfl⟩ f
  cases av f
  exact U.hn (.there .here) func93 (.one rfl eN ((aK.box z0).one (j:=0) rfl) .nil) (J.drop (so (so sr)) (E _ _ _ ⟨aa,br⟩))
 rintro aJ aM D O aq am aF aG az _ aA ⟨_,rfl,⟨aI,rfl⟩⟩ ⟨C,rfl⟩ ac aN f ar S
 refine sp ?_
 refine U.beginRound rfl rfl (.there .here) ac ?_
 refine U.aP ?_
 refine sg aB ?_
 refine eC (#[_]) eN .here ?_
 refine er ?_
 exact S _ (au f) _ _ _ _ (rr) ⟨C,rfl⟩ (.inr (.inl ⟨_,br⟩))
theorem zt(m:(List cA)){v0:Value}(g:bE bz 5 R H v0 m){r:List cA}(d:mP m=some r):aL af 96 #[v0] R H (λ v R' H'=>aH R R'∧∃ w Hs,aX bz 5 105 R' w r Hs∧H'=Hs++H∧v=w):=by
 rcases g.p6 with ⟨z,rfl,rfl⟩ | ⟨E,G,z,rfl⟩
 ·have d:some ([]:List cA)=some r:=by simpa [mP,cu] using d
  refine aY func96 8 λ fr cs f=>?_
  refine sg aB ?_
  refine vs 1 ?_
  refine es ?_
  refine sg aC ?_
  refine vs 1 ?_
  refine U.s rfl rfl (Ox.jn rfl rfl rfl underlying24 rfl rfl (.put rfl) ?_)
  refine er ?_
  refine U.cond_true rfl ?_
  refine sg aB ?_
  refine vs 1 ?_
  refine er ?_
  cases av d
  exact rt func96 (.tmp rfl .nil) sr (f _ _ _ ⟨(rr),aw,[],aX.nil,br⟩)
 ·unfold mP at d
  refine aY func96 8 λ fr cs f=>?_
  refine sg aB ?_
  refine vs 1 ?_
  refine es ?_
  refine sg aC ?_
  refine vs 1 ?_
  refine U.s rfl rfl (Ox.jn rfl rfl rfl underlying24 rfl rfl (.put rfl) ?_)
  refine er ?_
  refine U.cond_false rfl ?_
  refine sp ?_
  refine sg bb ?_
  refine dt (#[]) xo Cc λ F=>?_
  refine vs 1 ?_
  have ⟨I,C,d⟩:=ae d
  refine U.s rfl rfl (Ox.append (K:=bz) (λ X=>X++(H)) rfl rfl rfl BT underlying24 (by simp) .id (aX.lit (aO.le aO.nil rfl) rfl) (g.sub (su (so sr))).arg C rfl λ D y A=>⟨_,(.put rfl),?_⟩)
  refine vs 1 ?_
  refine er ?_
  cases av d
  exact rt func96 (.tmp rfl .nil) sr (f _ _ _ ⟨(rr),D,y,A,br⟩)
theorem uP(d:an){aO aT a1:Value}(bi:dX R)(L:ah bz 5 R aO d.ao)(A:ah CZ 1 R aT d.Out)(y:ah bq 2 R a1 d.aV){r:(an × Int)}(f:mM d=some r):aL af 91 #[.agg #[iv d.ax,iv d.ad.ai,iv d.ad.ak,aO,aT,a1]] R H (λ v R' H'=>aH R R'∧H=H'∧∃ a8 a9 ba,ah bz 5 R' a8 r.1.ao∧ah CZ 1 R' a9 r.1.Out∧ah bq 2 R' ba r.1.aV∧v = .tuple #[.agg #[iv r.1.ax,iv r.1.ad.ai,iv r.1.ad.ak,a8,a9,ba],iv r.2]):=by
 unfold mM at f
 refine aY func91 48 λ fr cs aN=>?_
 refine sg aM ?_
 refine bx λ m=>?_
 refine bu (#[iv 0,iv 0,iv 0,aw,aw,aw]) gp λ g=>?_
 refine vs 1 ?_
 refine es ?_
 refine sg aM ?_
 refine lN [_,_,_,_,_,_] 0 6 a7 z1 ?_
 have ⟨cC,bJ,f⟩:=ae f
 refine U.cv jT (j6 d bi L A y bJ) ?_
 rintro _ ce _ ⟨S,rfl,rfl⟩
 have ⟨L,A,y⟩:=cH S L A y
 refine vs 1 ?_
 refine nx aC ?_
 refine vs 2 ?_
 refine er ?_
 refine sc f ?_ ?_<;>intro cp f
 ·refine sg bb ?_
  refine cF (#[_,_,_,_,_,_]) jJ ?_
  refine vs 1 ?_
  refine bC (#[_,_,_,_,_,_]) a7 .here ?_
  refine vs 1 ?_
  refine er ?_
  cases av f
  exact rt func91 (.agg rfl a7 rfl (aK.box z0) (.tmp rfl .nil)) (so (so sr)) (aN _ _ _ ⟨S,rfl,aw,aw,aw,ah.nil,ah.nil,ah.nil,rfl⟩)
 refine sp ?_
 refine sq ?_
 refine sg bb ?_
 refine lN [_,_,_,_,_,_] 0 6 a7 z1 ?_
 refine cF (#[_,_,_,_,_,_]) im ?_
 have ⟨cD,bL,f⟩:=ae f
 refine U.cv tL (uR (⟨d.ax,⟨d.ad.ai,d.ad.ak⟩,d.ao,d.Out,d.aV⟩:an) L A y bL) ?_
 rintro _ cf _ ⟨ap,rfl,rfl⟩
 have ⟨L,A,y⟩:=cH ap L A y
 refine vs 1 ?_
 refine er ?_
 refine sc f ?_ ?_<;>intro cq f
 ·refine sg aM ?_
  refine cF (#[_,_,_,_,_,_]) jJ ?_
  refine bC (#[_,_,_,_,_,_]) a7 .here ?_
  refine vs 1 ?_
  refine er ?_
  cases av f
  exact rt func91 (.agg rfl a7 rfl (aK.box z0) (.tmp rfl .nil)) (so (so sr)) (aN _ _ _ ⟨(S.trans ap),rfl,aw,aw,aw,ah.nil,ah.nil,ah.nil,rfl⟩)
 refine sp ?_
 refine sq ?_
 refine U.draw (n:=15) (is:=[0,1,2,3,4,5,6,7,8,9,10,11,12,13,14]) (many ((g,.cells #[iv 0,iv 0,iv 0,aw,aw,aw] 28)::(m,.cells #[iv d.ax,iv d.ad.ai,iv d.ad.ak,aO,aT,a1] 28)::H) [(10,(g,.cells #[iv 0,iv 0,iv 0,aw,aw,aw] 28)::H),(12,(g,.cells #[iv 0,iv 0,iv 0,aw,aw,aw] 28)::H),(14,(g,.cells #[iv 0,iv 0,iv 0,aw,aw,aw] 28)::H)]) mixed rfl (by decide +kernel) rfl rfl ?_
 refine Any.vs 1 [0] rfl ?_
 refine ts 1 [2,5,8,9,10,11,12,13,14] rfl (aF rfl (aF rfl (aF rfl (aU (su (so sr)))))) (su (so sr)) (kX cZ 3 z0) ?_
 refine Any.vs 1 [3] rfl ?_
 refine ts 4 [5,8,9,10,11,12,13,14] rfl (aF rfl (aF rfl (aF rfl (aU (su (so sr)))))) (su (so sr)) (kX cb 4 z0) ?_
 refine Any.vs 1 [6] rfl ?_
 refine ts 7 [8,9,10,11,12,13,14] rfl (aF rfl (aF rfl (aF rfl (aU (su (so sr)))))) (su (so sr)) (kX ei 5 z0) ?_
 have ⟨bW,bM,f⟩:=ae f
 refine Any.cv 2 xL (zt d.ao L.rd bM) ?_
 rintro G ch _ ⟨ar,_,bf,N,rfl,rfl⟩
 have ⟨A,y⟩:=dC ar A y
 refine ⟨ar,(bo rfl (su (az sr))),?_⟩
 refine Any.vs 1 [9] rfl ?_
 have ⟨cG,bN,f⟩:=ae f
 refine Any.cv 5 kH (ly d.Out A.rd bN) ?_
 rintro P ci _ ⟨T,_,D,E,rfl,rfl⟩
 replace y:=y.mono T
 replace N:=N.mono T
 refine ⟨T,(bo rfl (su (az (az sr)))),?_⟩
 have ⟨cI,bO,f⟩:=ae f
 refine Any.cv 8 tK (uQ d.aV y.rd bO) ?_
 rintro Q a2 _ ⟨V,_,z,F,rfl,rfl⟩
 replace N:=N.mono V
 replace E:=E.mono V
 refine ⟨V,(bo rfl (su (az (az (az sr))))),?_⟩
 refine Any.on 10 rfl rfl (aJ.to (Ox.dE (cs':=#[_,_,_,_,_,_]) rfl rfl rfl cZ N.one (.skip (.skip (.skip (.there .here)))) rfl rfl rfl (.refl _) ⟨rr,(bo rfl (su (az (az (az (sk (so sr))))))),?_⟩))
 refine Any.vs 1 [11] rfl ?_
 refine Any.on 12 rfl rfl (aJ.to (Ox.dE (cs':=#[_,_,_,_,_,_]) rfl rfl rfl cb E.one (.skip (.skip (.skip (.there .here)))) rfl rfl rfl (.refl _) ⟨rr,(bo rfl (su (az (az (az (sk (so sr))))))),?_⟩))
 refine Any.vs 1 [13] rfl ?_
 refine Any.on 14 rfl rfl (aJ.to (Ox.dE (cs':=#[_,_,_,_,_,_]) rfl rfl rfl ei F.one (.skip (.skip (.skip (.there .here)))) rfl rfl rfl (.refl _) ⟨rr,(bo rfl (su (az (az (az (sk (so sr))))))),?_⟩))
 refine Any.done ?_
 refine sq ?_
 refine sg bb ?_
 refine vs 1 ?_
 refine U.ld cZ ((aK.box (bH _ (bH _ (bH _ z1)))).one (j:=3) rfl) ?_
 refine U.s rfl rfl (Ox.js rfl rfl N underlying24 rfl (.put rfl) ?_)
 refine vs 1 ?_
 refine er ?_
 refine U.aP ?_
 refine U.cQ f (λ (W:((List cA) × Int)) R' H' aa=>aH a2 R'∧∃ J,aX bz 5 105 R' G W.1 J∧H'=z++(D++(J++((g,.cells #[iv 0,iv 0,iv 0,aw,aw,aw] 28)::(m,.cells #[iv d.ax,iv d.ad.ai,iv d.ad.ak,G,P,Q] 28)::H)))∧aA aa [(1,pT m),(2,pT g),(31,G),(32,iv (bW.length:Int)),(33,iv W.2)]) (λ (a6:(List cA)) R' H' aa=>aH a2 R'∧∃ Y,aX bz 5 105 R' G a6 Y∧H'=z++(D++(Y++((g,.cells #[iv 0,iv 0,iv 0,aw,aw,aw] 28)::(m,.cells #[iv d.ax,iv d.ad.ai,iv d.ad.ak,G,P,Q] 28)::H)))∧aA aa [(1,pT m),(2,pT g)]) 0 rfl ⟨rr,bf,N,rfl,aq b2⟩ ?_ ?_
 rotate_right
 ·rintro W b5 bY cx ⟨a4,J,M,rfl,bA⟩ cJ f bg bh
  refine U.sub bA ?_
  refine sg aB ?_
  refine vs 1 ?_
  refine es ?_
  refine sc f ?_ ?_<;>intro ct f
  ·refine sp ?_
   refine sq ?_
   refine U.aP ?_
   refine sg b4 ?_
   refine vs 1 ?_
   have ⟨C,bP,f⟩:=ae f
   obtain ⟨ck,cw,_,⟨bd,bQ,rfl⟩,bk,br⟩:=(M.rd (λ _ h=>(bH _ (bH _ (bT _ h))))).elem fQ bP
   refine bX br ?_
   refine U.s rfl rfl (Ox.bB (vs:=[_,_,_,_,_]) rfl rfl iA rfl ((bk.sub pp).part (j:=0) (n:=5) rfl) rfl (.put rfl) ?_)
   refine bu (#[.string (⟨#[]⟩),iv 0,iv 0,iv 0,aw]) qp λ h2=>?_
   refine vs 1 ?_
   refine bC (#[_,_,_,_,_]) iA .here ?_
   refine er ?_
   refine U.draw (n:=9) (is:=[0,1,2,3,4,5,6,7,8]) (many ((h2,.cells #[.string C.Name,iv C.dR,iv C.Weight.ai,iv C.Weight.ak,bd] 105)::z++(D++(J++((g,.cells #[iv 0,iv 0,iv 0,aw,aw,aw] 28)::(m,.cells #[iv d.ax,iv d.ad.ai,iv d.ad.ak,G,P,Q] 28)::H)))) [(8,(h2,.cells #[.string C.Name,iv C.dR,iv C.Weight.ai,iv C.Weight.ak,bd] 105)::z++(D++((g,.cells #[iv 0,iv 0,iv 0,aw,aw,aw] 28)::(m,.cells #[iv d.ax,iv d.ad.ai,iv d.ad.ak,G,P,Q] 28)::H)))]) mixed rfl (by decide +kernel) rfl rfl ?_
   refine Any.vs 1 [0] rfl ?_
   refine ts 1 [6,7,8] rfl (aF rfl (aU (su (so (az (az (az (so sr)))))))) (su (so (az (az (az (so sr)))))) (kX cZ 3 z0) ?_
   refine Any.vs 2 [2,3] rfl ?_
   refine ts 4 [5,6,7,8] rfl (aF rfl (aU (su (sk (az (az (az (so (so sr))))))))) (su (sk (az (az (az (so (so sr))))))) (kX cb 4 z0) ?_
   have ⟨bV,bG,f⟩:=ae f
   refine Any.cv 5 kH (ly C.On bQ.rd bG) ?_
   rintro cB cd _ ⟨am,_,b3,bv,rfl,rfl⟩
   replace M:=M.mono am
   refine ⟨am,(bo rfl (su (az sr))),?_⟩
   refine Any.dg (H2:=(h2,_)::z++(D++(J++((g,_)::(m,_)::H)))) (λ X=>X++((h2,_)::z++(D++(J++((g,_)::(m,_)::H))))) .id rfl bv (by decide) (by decide) (JB (su (sk (dm (dm (az sr))))) (JA pp)) (λ b7 a5 aG=>?_)
   replace M:=M.mono a5
   have ⟨I,bI,f⟩:=ae f
   obtain ⟨cj,cm,_,⟨bU,cu,rfl⟩,rfl,cn,bn,bp,co,bS,bF⟩:=M.dI fQ bI
   refine ts 6 [7,8] rfl (aF rfl (aU (su (so (az (az (so (so (so sr))))))))) (su (so (az (az (so (so (so sr))))))) (kI bp) ?_
   refine Any.vs 1 [7] rfl ?_
   refine Any.on 8 rfl rfl (aJ.to (Ox.dJ (K:=bz) (k:=5) (e:=105) (i:=W.2) (x':=(⟨I.Name,I.dR,⟨I.Weight.ai,I.Weight.ak⟩,bV⟩:cA)) (pre:=[.string I.Name,iv I.dR,iv I.Weight.ai,iv I.Weight.ak]) (mid:=[bU]) (post:=[]) (.cons (.app (.app .id))) rfl rfl rfl (by rw [aG.cells]) Lx rfl (aW aG.one bl) bn rfl rfl rfl bS bF ⟨_,aG,rfl⟩ rfl (.refl _) λ be bt=>⟨rr,(bo rfl (su (sk (dm (dm (az sr)))))),?_⟩))
   refine Any.done ?_
   refine U.a0 ?_
   refine U.rg aC ?_
   refine vs 2 ?_
   refine er ?_
   exact U.aR (so sr) (bg _ (au f) _ _ _ ⟨((a4.trans am).trans a5),be,bt,rfl,aq b2⟩)
  exact U.bw rfl (bh _ (au f) _ _ _ ⟨a4,J,M,rfl,aq cg⟩)
 rintro a6 b6 b1 cy ⟨Z,Y,bs,rfl,bD⟩ f
 refine U.sub bD ?_
 replace E:=E.mono Z
 replace F:=F.mono Z
 refine sg aM ?_
 refine U.s rfl rfl (Ox.bB (vs:=[_,_,_,_,_,_]) rfl rfl a7 rfl ((aK.box (bH _ (bH _ (bH _ z1)))).part (j:=0) (n:=6) rfl) rfl (.put rfl) ?_)
 refine bC (#[_,_,_,_,_,_]) a7 (.skip (.skip (.skip .here))) ?_
 refine vs 1 ?_
 refine er ?_
 refine U.dg (H2:=z++(D++((g,_)::(m,_)::H))) (λ X=>z++(D++(X++((g,_)::(m,_)::H)))) (.app (.app .id)) rfl bs (λ b8 ab O=>?_)
 replace E:=E.mono ab
 replace F:=F.mono ab
 refine U.dg (H2:=z++((g,_)::(m,_)::H)) (λ X=>z++(X++((g,_)::(m,_)::H))) (.app .id) rfl E (λ b9 ac aI=>?_)
 replace O:=O.mono ac
 replace F:=F.mono ac
 refine U.dg (H2:=(g,_)::(m,_)::H) (λ X=>X++((g,_)::(m,_)::H)) .id rfl F (λ cc ag bm=>?_)
 replace O:=O.mono ag
 replace aI:=aI.mono ag
 cases av f
 exact rt func91 (.agg rfl a7 rfl (aK.box z0) (.tmp rfl .nil)) (so (so sr)) (aN _ _ _ ⟨((((((((S.trans ap).trans ar).trans T).trans V).trans Z).trans ab).trans ac).trans ag),rfl,G,P,Q,O,aI,bm,rfl⟩)
theorem za(d:an)(x1:Int){Y Z ab:Value}(E:dX R)(y:ah bz 5 R Y d.ao)(m:ah CZ 1 R Z d.Out)(A:ah bq 2 R ab d.aV){r:(an × Int)}(g:mG d x1=some r):aL af 39 #[.agg #[iv d.ax,iv d.ad.ai,iv d.ad.ak,Y,Z,ab],iv x1] R H (λ v R' H'=>aH R R'∧H=H'∧∃ ag am ap,ah bz 5 R' ag r.1.ao∧ah CZ 1 R' am r.1.Out∧ah bq 2 R' ap r.1.aV∧v = .tuple #[.agg #[iv r.1.ax,iv r.1.ad.ai,iv r.1.ad.ak,ag,am,ap],iv r.2]):=by
 unfold mG at g
 refine aY func39 42 λ fr cs W=>?_
 refine sg aM ?_
 refine bx λ L=>?_
 refine bu (#[iv 0,iv 0,iv 0,aw,aw,aw]) gp λ M=>?_
 refine vs 1 ?_
 refine es ?_
 refine sg aM ?_
 refine lN [_,_,_,_,_,_] 0 6 a7 z1 ?_
 have ⟨bv,aP,g⟩:=ae g
 refine U.cv jT (j6 d E y m A aP) ?_
 rintro _ ar _ ⟨N,rfl,rfl⟩
 have ⟨y,m,A⟩:=cH N y m A
 replace E:=E.mono N
 refine vs 1 ?_
 refine nx aC ?_
 refine vs 2 ?_
 refine er ?_
 refine sc g ?_ ?_<;>intro bn g
 ·refine sg bb ?_
  refine cF (#[_,_,_,_,_,_]) jJ ?_
  refine vs 1 ?_
  refine bC (#[_,_,_,_,_,_]) a7 .here ?_
  refine vs 1 ?_
  refine er ?_
  cases av g
  exact rt func39 (.agg rfl a7 rfl (aK.box z0) (.tmp rfl .nil)) (so (so sr)) (W _ _ _ ⟨N,rfl,aw,aw,aw,ah.nil,ah.nil,ah.nil,rfl⟩)
 refine sp ?_
 refine sq ?_
 refine sq ?_
 have ⟨I,O,g⟩:=ae g
 have ⟨ba,G,g⟩:=ae g
 refine U.cut (λ R' H' aa=>aH ar R'∧H'=(M,.cells #[iv 0,iv 0,iv 0,aw,aw,aw] 28)::(L,.cells #[iv d.ax,iv d.ad.ai,iv d.ad.ak,Y,Z,ab] 28)::H∧aA aa [(1,iv x1),(2,pT L),(4,pT M),(8,iv ba.2)]) ?_ ?_
 ·rintro bh be bp ⟨Q,rfl,aN⟩
  refine U.sub aN ?_
  have ⟨y,m,A⟩:=cH Q y m A
  replace E:=E.mono Q
  refine sg aC ?_
  refine vs 2 ?_
  refine er ?_
  refine sc g ?_ ?_<;>intro bo g
  ·refine sg bb ?_
   refine cF (#[_,_,_,_,_,_]) jJ ?_
   refine vs 1 ?_
   refine bC (#[_,_,_,_,_,_]) a7 .here ?_
   refine vs 1 ?_
   refine er ?_
   cases av g
   exact rt func39 (.agg rfl a7 rfl (aK.box z0) (.tmp rfl .nil)) (so (so sr)) (W _ _ _ ⟨(N.trans Q),rfl,aw,aw,aw,ah.nil,ah.nil,ah.nil,rfl⟩)
  refine sp ?_
  refine sg cX ?_
  refine vs 1 ?_
  refine ld 4 cb z1 ?_
  have ⟨bw,aT,g⟩:=ae g
  refine U.cv kH (ly d.Out m.rd aT) ?_
  rintro br bk _ ⟨V,_,bf,aI,rfl,rfl⟩
  have ⟨y,A⟩:=dC V y A
  replace E:=E.mono V
  refine vs 1 ?_
  refine dt (#[_]) cw c7 λ S=>?_
  have ⟨bd,aU,g⟩:=ae g
  refine U.s rfl rfl (Ox.append (K:=CZ) (λ X=>(S,_)::X++((M,_)::(L,_)::H)) rfl rfl rfl eh underlying25 (by simp) (.cons .id) aI (eB x1 rfl) aU rfl λ bs bg ac=>⟨_,(.put rfl),?_⟩)
  refine vs 1 ?_
  refine U.s rfl rfl (Ox.dE (cs':=#[_,_,_,_,_,_]) rfl rfl rfl cb ac.one (.there (.skip (.there .here))) rfl rfl rfl (.refl _) ?_)
  refine nx b4 ?_
  refine U.s rfl rfl (Ox.bB (vs:=[_,_,_,_,_,_]) rfl rfl a7 rfl ((aK.box (.tail _ (bH _ z1))).part (j:=0) (n:=6) rfl) rfl (.put rfl) ?_)
  refine U.dg (H2:=(S,_)::(M,_)::(L,_)::H) (λ X=>(S,_)::X++((M,_)::(L,_)::H)) (.cons .id) rfl ac (λ bi T aF=>?_)
  have ⟨y,A⟩:=dC T y A
  replace E:=E.mono T
  have ⟨bA,a1,g⟩:=ae g
  refine U.cv tJ (uP (⟨d.ax,⟨d.ad.ai,d.ad.ak⟩,d.ao,bd,d.aV⟩:an) E y aF A a1) ?_
  rintro _ bm _ ⟨az,rfl,a6,a8,a9,a2,a4,a5,rfl⟩
  refine vs 2 ?_
  refine bC (#[_,_,_,_,_,_]) a7 (.there .here) ?_
  refine vs 1 ?_
  refine er ?_
  cases av g
  exact rt func39 (.agg rfl a7 rfl (aK.box z1) (.tmp rfl .nil)) (so (so (so sr))) (W _ _ _ ⟨((((N.trans Q).trans V).trans T).trans az),rfl,a6,a8,a9,a2,a4,a5,rfl⟩)
 intro F
 refine U.dw kq mixed ?_
 refine tN 0 [_,_,_,_,_,_] 0 6 a7 z1 ?_
 refine Any.tk 1 rfl pp (λ R' H' au aB=>Ox.build (cells:=#[_,_,_,_,_,_]) rfl im rfl (ca rfl rfl rfl rfl cE) rfl (.one rfl) aG) ?_
 refine Any.tk 2 rfl pp (λ R' H' au aB=>Ox.iG (z:=(bW [false,false,false,false,false])) rfl iE rfl (.one rfl) aG) ?_
 refine Any.vs 1 [3] rfl ?_
 refine tl 4 4 cb z1 ?_
 refine Any.vs 1 [6] rfl ?_
 refine Any.AR (i:=5) (j:=7) (l:=12) (ra:=[7,8,9,10,11,12,13,14]) (rb:=[5,8,9,10,11,12,13,14]) (rc:=[5,7,8,9,10,11,13,14]) rfl rfl rfl (by decide +kernel) rfl rfl rfl (by decide) rfl rfl rfl ?_ ?_ ?_
 ·refine  (Ox.b5 rfl rfl rfl rfl eK rfl rfl ((eL [false,false,false,false,false] d.Out rfl m.rd O).mono ?_))
  rintro _ _ _ ⟨rfl,rfl,D,rfl⟩
  refine ⟨_,(.put rfl),⟨rr,ka,?_⟩⟩
  refine tw 7 12 ?_ ?_
  ·refine  (aJ.to (Ox.buildSlice (cells:=#[_]) rfl cw rfl (by decide) c7 (ca rfl rfl rfl rfl cE) rfl λ P _ _=>⟨_,(.put rfl),⟨rr,(ku (so sr)),?_⟩⟩))
   refine tw 8 12 ?_ ?_
   ·refine  (Ox.b5 rfl rfl rfl rfl h4 rfl rfl ((ie (⟨d.ax,⟨d.ad.ai,d.ad.ak⟩,d.ao,d.Out,d.aV⟩:an) I [x1] y m A D (bE.lit z0 (aO.le (aO.cons (x:=x1) rfl rfl aO.nil) rfl) rfl) G).mono ?_))
    rintro _ J _ ⟨f,rfl,C,rfl⟩
    refine ⟨_,(.put rfl),⟨f,(ku (so sr)),?_⟩⟩
    refine Any.vs 3 [9,10,11] rfl ?_
    refine Any.on 12 rfl rfl (aJ.to (Ox.alloc (cs:=(bW [false,false,false,false,false])) rfl fS rfl λ ft _ _=>⟨_,(.put rfl),⟨rr,(ku (so (so sr))),?_⟩⟩))
    refine oW 13 cR C .here (ku (so (so sr))) ?_
    refine Any.vs 1 [14] rfl ?_
    exact Any.done (U.aR (so (so sr)) (F _ _ _ ⟨f,rfl,aq bt⟩))
   refine  (aJ.to (Ox.alloc (cs:=(bW [false,false,false,false,false])) rfl fS rfl λ ft _ _=>⟨_,(.put rfl),⟨rr,(ku (so (so sr))),?_⟩⟩))
   refine Any.cv 8 h4 (ie (⟨d.ax,⟨d.ad.ai,d.ad.ak⟩,d.ao,d.Out,d.aV⟩:an) I [x1] y m A D (bE.lit z1 (aO.le (aO.cons (x:=x1) rfl rfl aO.nil) rfl) rfl) G) ?_
   rintro _ J _ ⟨f,rfl,C,rfl⟩
   refine ⟨f,(ku (so (so sr))),?_⟩
   refine Any.vs 3 [9,10,11] rfl ?_
   refine oW 13 cR C .here (ku (so (so sr))) ?_
   refine Any.vs 1 [14] rfl ?_
   exact Any.done (U.aR (so (so sr)) (F _ _ _ ⟨f,rfl,aq bt⟩))
  refine  (aJ.to (Ox.alloc (cs:=(bW [false,false,false,false,false])) rfl fS rfl λ ft _ _=>⟨_,(.put rfl),⟨rr,(ku (so sr)),?_⟩⟩))
  refine Any.on 7 rfl rfl (aJ.to (Ox.buildSlice (cells:=#[_]) rfl cw rfl (by decide) c7 (ca rfl rfl rfl rfl cE) rfl λ P _ _=>⟨_,(.put rfl),⟨rr,(ku (so (so sr))),?_⟩⟩))
  refine Any.cv 8 h4 (ie (⟨d.ax,⟨d.ad.ai,d.ad.ak⟩,d.ao,d.Out,d.aV⟩:an) I [x1] y m A D (bE.lit z0 (aO.le (aO.cons (x:=x1) rfl rfl aO.nil) rfl) rfl) G) ?_
  rintro _ J _ ⟨f,rfl,C,rfl⟩
  refine ⟨f,(ku (so (so sr))),?_⟩
  refine Any.vs 3 [9,10,11] rfl ?_
  refine oW 13 cR C (.there .here) (ku (so (so sr))) ?_
  refine Any.vs 1 [14] rfl ?_
  exact Any.done (U.aR (so (so sr)) (F _ _ _ ⟨f,rfl,aq bt⟩))
 ·refine  (aJ.to (Ox.buildSlice (cells:=#[_]) rfl cw rfl (by decide) c7 (ca rfl rfl rfl rfl cE) rfl λ P _ _=>⟨_,(.put rfl),⟨rr,(ku (so sr)),?_⟩⟩))
  refine tw 5 12 ?_ ?_
  ·refine  (Ox.b5 rfl rfl rfl rfl eK rfl rfl ((eL [false,false,false,false,false] d.Out rfl m.rd O).mono ?_))
   rintro _ _ _ ⟨rfl,rfl,D,rfl⟩
   refine ⟨_,(.put rfl),⟨rr,(ku (so sr)),?_⟩⟩
   refine tw 8 12 ?_ ?_
   ·refine  (Ox.b5 rfl rfl rfl rfl h4 rfl rfl ((ie (⟨d.ax,⟨d.ad.ai,d.ad.ak⟩,d.ao,d.Out,d.aV⟩:an) I [x1] y m A D (bE.lit z0 (aO.le (aO.cons (x:=x1) rfl rfl aO.nil) rfl) rfl) G).mono ?_))
    rintro _ J _ ⟨f,rfl,C,rfl⟩
    refine ⟨_,(.put rfl),⟨f,(ku (so sr)),?_⟩⟩
    refine Any.vs 3 [9,10,11] rfl ?_
    refine Any.on 12 rfl rfl (aJ.to (Ox.alloc (cs:=(bW [false,false,false,false,false])) rfl fS rfl λ ft _ _=>⟨_,(.put rfl),⟨rr,(ku (so (so sr))),?_⟩⟩))
    refine oW 13 cR C .here (ku (so (so sr))) ?_
    refine Any.vs 1 [14] rfl ?_
    exact Any.done (U.aR (so (so sr)) (F _ _ _ ⟨f,rfl,aq bt⟩))
   refine  (aJ.to (Ox.alloc (cs:=(bW [false,false,false,false,false])) rfl fS rfl λ ft _ _=>⟨_,(.put rfl),⟨rr,(ku (so (so sr))),?_⟩⟩))
   refine Any.cv 8 h4 (ie (⟨d.ax,⟨d.ad.ai,d.ad.ak⟩,d.ao,d.Out,d.aV⟩:an) I [x1] y m A D (bE.lit z1 (aO.le (aO.cons (x:=x1) rfl rfl aO.nil) rfl) rfl) G) ?_
   rintro _ J _ ⟨f,rfl,C,rfl⟩
   refine ⟨f,(ku (so (so sr))),?_⟩
   refine Any.vs 3 [9,10,11] rfl ?_
   refine oW 13 cR C .here (ku (so (so sr))) ?_
   refine Any.vs 1 [14] rfl ?_
   exact Any.done (U.aR (so (so sr)) (F _ _ _ ⟨f,rfl,aq bt⟩))
  refine  (aJ.to (Ox.alloc (cs:=(bW [false,false,false,false,false])) rfl fS rfl λ ft _ _=>⟨_,(.put rfl),⟨rr,(ku (so (so sr))),?_⟩⟩))
  refine Any.cv 5 eK (eL [false,false,false,false,false] d.Out rfl m.rd O) ?_
  rintro _ _ _ ⟨rfl,rfl,D,rfl⟩
  refine ⟨rr,(ku (so (so sr))),?_⟩
  refine Any.cv 8 h4 (ie (⟨d.ax,⟨d.ad.ai,d.ad.ak⟩,d.ao,d.Out,d.aV⟩:an) I [x1] y m A D (bE.lit z1 (aO.le (aO.cons (x:=x1) rfl rfl aO.nil) rfl) rfl) G) ?_
  rintro _ J _ ⟨f,rfl,C,rfl⟩
  refine ⟨f,(ku (so (so sr))),?_⟩
  refine Any.vs 3 [9,10,11] rfl ?_
  refine oW 13 cR C .here (ku (so (so sr))) ?_
  refine Any.vs 1 [14] rfl ?_
  exact Any.done (U.aR (so (so sr)) (F _ _ _ ⟨f,rfl,aq bt⟩))
 refine  (aJ.to (Ox.alloc (cs:=(bW [false,false,false,false,false])) rfl fS rfl λ ft _ _=>⟨_,(.put rfl),⟨rr,(ku (so sr)),?_⟩⟩))
 refine tw 5 7 ?_ ?_
 ·refine  (Ox.b5 rfl rfl rfl rfl eK rfl rfl ((eL [false,false,false,false,false] d.Out rfl m.rd O).mono ?_))
  rintro _ _ _ ⟨rfl,rfl,D,rfl⟩
  refine ⟨_,(.put rfl),⟨rr,(ku (so sr)),?_⟩⟩
  refine Any.on 7 rfl rfl (aJ.to (Ox.buildSlice (cells:=#[_]) rfl cw rfl (by decide) c7 (ca rfl rfl rfl rfl cE) rfl λ P _ _=>⟨_,(.put rfl),⟨rr,(ku (so (so sr))),?_⟩⟩))
  refine Any.cv 8 h4 (ie (⟨d.ax,⟨d.ad.ai,d.ad.ak⟩,d.ao,d.Out,d.aV⟩:an) I [x1] y m A D (bE.lit z0 (aO.le (aO.cons (x:=x1) rfl rfl aO.nil) rfl) rfl) G) ?_
  rintro _ J _ ⟨f,rfl,C,rfl⟩
  refine ⟨f,(ku (so (so sr))),?_⟩
  refine Any.vs 3 [9,10,11] rfl ?_
  refine oW 13 cR C (.there .here) (ku (so (so sr))) ?_
  refine Any.vs 1 [14] rfl ?_
  exact Any.done (U.aR (so (so sr)) (F _ _ _ ⟨f,rfl,aq bt⟩))
 refine  (aJ.to (Ox.buildSlice (cells:=#[_]) rfl cw rfl (by decide) c7 (ca rfl rfl rfl rfl cE) rfl λ P _ _=>⟨_,(.put rfl),⟨rr,(ku (so (so sr))),?_⟩⟩))
 refine Any.cv 5 eK (eL [false,false,false,false,false] d.Out rfl m.rd O) ?_
 rintro _ _ _ ⟨rfl,rfl,D,rfl⟩
 refine ⟨rr,(ku (so (so sr))),?_⟩
 refine Any.cv 8 h4 (ie (⟨d.ax,⟨d.ad.ai,d.ad.ak⟩,d.ao,d.Out,d.aV⟩:an) I [x1] y m A D (bE.lit z0 (aO.le (aO.cons (x:=x1) rfl rfl aO.nil) rfl) rfl) G) ?_
 rintro _ J _ ⟨f,rfl,C,rfl⟩
 refine ⟨f,(ku (so (so sr))),?_⟩
 refine Any.vs 3 [9,10,11] rfl ?_
 refine oW 13 cR C (.there .here) (ku (so (so sr))) ?_
 refine Any.vs 1 [14] rfl ?_
 exact Any.done (U.aR (so (so sr)) (F _ _ _ ⟨f,rfl,aq bt⟩))
theorem IQ(d:an)(x1:bU){J L Q:Value}(y:dX R)(m:ah bz 5 R J d.ao)(s:ah CZ 1 R L d.Out)(E:ah bq 2 R Q d.aV){r:(an × Int)}(f:nY d x1=some r):aL af 40 #[.agg #[iv d.ax,iv d.ad.ai,iv d.ad.ak,J,L,Q],.agg #[iv x1.cT,iv x1.dZ]] R H (λ v R' H'=>aH R R'∧H=H'∧∃ Y Z ab,ah bz 5 R' Y r.1.ao∧ah CZ 1 R' Z r.1.Out∧ah bq 2 R' ab r.1.aV∧v = .tuple #[.agg #[iv r.1.ax,iv r.1.ad.ai,iv r.1.ad.ak,Y,Z,ab],iv r.2]):=by
 unfold nY at f
 refine aY func40 24 λ fr cs T=>?_
 refine sg bb ?_
 refine bx λ A=>?_
 refine bx λ G=>?_
 refine bu (#[iv 0,iv 0,iv 0,aw,aw,aw]) gp λ g=>?_
 refine vs 1 ?_
 refine es ?_
 refine sg aM ?_
 refine lN [_,_,_,_,_,_] 0 6 a7 z2 ?_
 have ⟨bi,aN,f⟩:=ae f
 refine U.cv jT (j6 d y m s E aN) ?_
 rintro _ am _ ⟨I,rfl,rfl⟩
 have ⟨m,s,E⟩:=cH I m s E
 replace y:=y.mono I
 refine vs 1 ?_
 refine nx aC ?_
 refine vs 2 ?_
 refine er ?_
 refine sc f ?_ ?_<;>intro bg f
 ·refine sg bb ?_
  refine cF (#[_,_,_,_,_,_]) jJ ?_
  refine vs 1 ?_
  refine bC (#[_,_,_,_,_,_]) a7 .here ?_
  refine vs 1 ?_
  refine er ?_
  cases av f
  exact rt func40 (.agg rfl a7 rfl (aK.box z0) (.tmp rfl .nil)) (so (so (so sr))) (T _ _ _ ⟨I,rfl,aw,aw,aw,ah.nil,ah.nil,ah.nil,rfl⟩)
 refine sp ?_
 refine sq ?_
 have ⟨bk,V,f⟩:=ae f
 have ⟨ac,W,f⟩:=ae f
 refine U.cut (λ R' H' aa=>aH am R'∧∃ (D:Value) (z:aj),aX bq 2 67 R' D ac z∧H'=z++((g,.cells #[iv 0,iv 0,iv 0,aw,aw,aw] 28)::(A,.cells #[iv d.ax,iv d.ad.ai,iv d.ad.ak,J,L,D] 28)::H)∧aA aa [(2,pT A),(4,pT g)]) ?_ ?_
 ·rintro ba a9 bh ⟨N,D,z,C,rfl,aI⟩
  refine U.sub aI ?_
  have ⟨m,s⟩:=dC N m s
  replace y:=y.mono N
  refine sg b4 ?_
  refine lN [_,_,_,_,_,_] 0 6 a7 (bH _ z1) ?_
  refine U.dg (H2:=(g,_)::(A,_)::H) (λ X=>X++((g,_)::(A,_)::H)) .id rfl C (λ bd O aB=>?_)
  have ⟨m,s⟩:=dC O m s
  replace y:=y.mono O
  have ⟨bm,aP,f⟩:=ae f
  refine U.cv tJ (uP (⟨d.ax,⟨d.ad.ai,d.ad.ak⟩,d.ao,d.Out,ac⟩:an) y m s aB aP) ?_
  rintro _ be _ ⟨ar,rfl,a5,a6,a8,aT,a1,a2,rfl⟩
  refine vs 2 ?_
  refine bC (#[_,_,_,_,_,_]) a7 .here ?_
  refine vs 1 ?_
  refine er ?_
  cases av f
  exact rt func40 (.agg rfl a7 rfl (aK.box z0) (.tmp rfl .nil)) (so (so sr)) (T _ _ _ ⟨(((I.trans N).trans O).trans ar),rfl,a5,a6,a8,aT,a1,a2,rfl⟩)
 intro S
 refine U.draw (n:=8) (is:=[0,1,2,3,4,5,6,7]) (many ((g,.cells #[iv 0,iv 0,iv 0,aw,aw,aw] 28)::(G,.cells #[iv x1.cT,iv x1.dZ] 67)::(A,.cells #[iv d.ax,iv d.ad.ai,iv d.ad.ak,J,L,Q] 28)::H) [(7,(g,.cells #[iv 0,iv 0,iv 0,aw,aw,aw] 28)::(G,.cells #[iv x1.cT,iv x1.dZ] 67)::H)]) mixed rfl (by decide +kernel) rfl rfl ?_
 refine Any.vs 1 [0] rfl ?_
 refine ts 1 [2,5,6,7] rfl (aF rfl (aU (su (so (so sr))))) (su (so (so sr))) (kX ei 5 z0) ?_
 refine ts 3 [4,5,6,7] rfl (aF rfl (aU (su (so (sk (so sr)))))) (su (so (sk (so sr)))) (λ R' H' bf au=>Ox.bB (vs:=[_,_]) rfl rfl iC rfl ((aK.box (au _ z0)).part (j:=0) (n:=2) rfl) rfl (.one rfl) aG) ?_
 refine tw 2 4 ?_ ?_
 ·refine  (Ox.b5 rfl rfl rfl rfl tK rfl rfl ((uQ d.aV E.rd V).mono ?_))
  rintro a4 ap _ ⟨F,_,ag,P,rfl,rfl⟩
  refine ⟨_,(.put rfl),⟨F,(bo rfl (su (az sr))),?_⟩⟩
  refine Any.on 4 rfl rfl (aJ.to (Ox.buildSlice (cells:=#[_,_]) rfl h3 rfl (by decide) jP (ca rfl rfl rfl rfl cE) rfl λ M _ _=>⟨_,(.put rfl),⟨rr,(bo rfl (su (so (az sr)))),?_⟩⟩))
  refine Any.on 5 rfl rfl (aJ.to (Ox.append (K:=bq) (λ X=>(M,_)::X++((g,_)::(G,_)::(A,_)::H)) rfl rfl rfl hA underlying26 (by simp) (.cons .id) P (eB x1 rfl) W rfl λ D z C=>⟨_,(.put rfl),⟨rr,(bo rfl (su (so (az sr)))),?_⟩⟩))
  refine Any.vs 1 [6] rfl ?_
  refine Any.on 7 rfl rfl (aJ.to (Ox.dE (cs':=#[_,_,_,_,_,_]) rfl rfl rfl ei C.one (.there (.skip (.there (.there .here)))) rfl rfl rfl (.refl _) ⟨rr,(bo rfl (su (so (az (sk (sk (so sr))))))),?_⟩))
  exact Any.done (U.aR (so (dm (sk (so sr)))) (S _ _ _ ⟨F,D,z,C,rfl,aq cg⟩))
 refine  (aJ.to (Ox.buildSlice (cells:=#[_,_]) rfl h3 rfl (by decide) jP (ca rfl rfl rfl rfl cE) rfl λ M _ _=>⟨_,(.put rfl),⟨rr,(bo rfl (su (so sr))),?_⟩⟩))
 refine Any.cv 2 tK (uQ d.aV E.rd V) ?_
 rintro a4 ap _ ⟨F,_,ag,P,rfl,rfl⟩
 refine ⟨F,(bo rfl (su (az (so sr)))),?_⟩
 refine Any.on 5 rfl rfl (aJ.to (Ox.append (K:=bq) (λ X=>X++((M,_)::(g,_)::(G,_)::(A,_)::H)) rfl rfl rfl hA underlying26 (by simp) .id P (e4.lit (bH _ z0) (aO.le (aO.cons (x:=x1) rfl rfl aO.nil) rfl) rfl) W rfl λ D z C=>⟨_,(.put rfl),⟨rr,(bo rfl (su (az (so sr)))),?_⟩⟩))
 refine Any.vs 1 [6] rfl ?_
 refine Any.on 7 rfl rfl (aJ.to (Ox.dE (cs':=#[_,_,_,_,_,_]) rfl rfl rfl ei C.one (.skip (.there (.there (.there .here)))) rfl rfl rfl (.refl _) ⟨rr,(bo rfl (su (az (so (sk (sk (so sr))))))),?_⟩))
 exact Any.done (U.aR (dm (so (sk (so sr)))) (S _ _ _ ⟨F,D,z,C,rfl,aq cg⟩))
theorem Hz(g:Int)(x1:Int)  {r:Int} (d:pr g x1=some r):aL af 134 #[iv g,iv x1] R H (λ v R' H'=>R=R'∧H=H'∧v=iv r):=by
 unfold pr at d
 refine aY func134 20 λ fr cs f=>?_
 refine sg aB ?_
 refine vs 1 ?_
 refine nx aM ?_
 refine vs 1 ?_
 have ⟨E,m,d⟩:=ae d
 refine U.cv q1 (rq g  m) ?_
 rintro _ _ _ ⟨rfl,rfl,rfl⟩
 refine vs 1 ?_
 refine nx aM ?_
 refine vs 1 ?_
 have ⟨F,s,d⟩:=ae d
 refine U.cv q1 (rq x1  s) ?_
 rintro _ _ _ ⟨rfl,rfl,rfl⟩
 refine vs 1 ?_
 refine es ?_
 refine sg aB ?_
 refine vs 1 ?_
 refine er ?_
 refine sc d ?_ ?_<;>intro y d
 ·refine sq ?_
  refine sg aB ?_
  refine vs 1 ?_
  refine er ?_
  refine sc d ?_ ?_<;>intro z d
  ·refine sg aB ?_
   refine vs 1 ?_
   refine er ?_
   cases av d
   exact rt func134 (.tmp rfl .nil) sr (f _ _ _ aG)
  refine sp ?_
  refine sg aB ?_
  refine vs 1 ?_
  refine er ?_
  cases av d
  exact rt func134 (.tmp rfl .nil) sr (f _ _ _ aG)
 refine sp ?_
 refine sq ?_
 refine sg aB ?_
 refine vs 1 ?_
 refine er ?_
 refine sc d ?_ ?_<;>intro A d
 ·refine sg aB ?_
  refine vs 1 ?_
  refine er ?_
  cases av d
  exact rt func134 (.tmp rfl .nil) sr (f _ _ _ aG)
 refine sp ?_
 refine sq ?_
 refine sg aM ?_
 refine vs 3 ?_
 refine er ?_
 refine sc d ?_ ?_<;>intro C d
 ·refine sg aB ?_
  refine vs 1 ?_
  refine er ?_
  cases av d
  exact rt func134 (.tmp rfl .nil) sr (f _ _ _ aG)
 refine sp ?_
 refine sq ?_
 refine sg aM ?_
 refine vs 3 ?_
 refine er ?_
 refine sc d ?_ ?_<;>intro D d
 ·refine sg aB ?_
  refine vs 1 ?_
  refine er ?_
  cases av d
  exact rt func134 (.tmp rfl .nil) sr (f _ _ _ aG)
 refine sp ?_
 refine sg aB ?_
 refine vs 1 ?_
 refine er ?_
 cases av d
 exact rt func134 (.tmp rfl .nil) sr (f _ _ _ aG)
theorem Hh(s:(List Int))(x1:(List Int)){v0 v1:Value}(g:bE CZ 1 R H v0 s)(m:bE CZ 1 R H v1 x1){r:Int}(d:po s x1=some r):aL af 121 #[v0,v1] R H (λ v R' H'=>R=R'∧H=H'∧v=iv r):=by
 unfold po at d
 refine aY func121 36 λ fr cs f=>?_
 refine sg aB ?_
 refine vs 1 ?_
 refine es ?_
 refine sg aM ?_
 refine vs 1 ?_
 refine lr g underlying25 ?_
 refine vs 1 ?_
 refine er ?_
 refine U.aP ?_
 refine U.dy d (λ (z:Int) R' H' aa=>R=R'∧H=H'∧aA aa [(0,v0),(1,v1),(9,v0),(10,iv (s.length:Int)),(11,iv z)]) (λ (N:Unit) R' H' aa=>R=R'∧H=H'∧aA aa [(0,v0),(1,v1)]) 0 rfl ⟨rfl,rfl,aq b2⟩ ?_ ?_
 rotate_right
 ·rintro z T Q am ⟨rfl,rfl,I⟩ ao d A C y
  refine U.sub I ?_
  refine sg aB ?_
  refine vs 1 ?_
  refine es ?_
  refine sc d ?_ ?_<;>intro Z d
  ·refine sp ?_
   refine sq ?_
   refine U.aP ?_
   refine sg bA ?_
   refine vs 1 ?_
   have ⟨O,K,d⟩:=ae d
   obtain ⟨W,ag,_,rfl,D,F⟩:=g.elem bd K
   refine bX F ?_
   refine U.ld aI ((D.sub pp).one (j:=0) rfl) ?_
   refine vs 2 ?_
   refine es ?_
   refine sg bb ?_
   refine vs 2 ?_
   refine lr m underlying25 ?_
   refine vs 1 ?_
   refine er ?_
   refine sc d ?_ ?_<;>intro ab d
   ·refine sg aB ?_
    refine vs 1 ?_
    refine er ?_
    replace d:=y _ (au d)
    cases av d
    exact rt func121 (.tmp rfl .nil) sr (f _ _ _ aG)
   refine sp ?_
   refine sg bA ?_
   refine vs 2 ?_
   have ⟨P,L,d⟩:=ae d
   obtain ⟨Y,ak,_,rfl,E,G⟩:=m.elem bd L
   refine bX G ?_
   refine U.ld aI ((E.sub pp).one (j:=0) rfl) ?_
   refine vs 1 ?_
   refine nx bb ?_
   refine vs 2 ?_
   have ⟨ap,M,d⟩:=ae d
   refine U.cv C8 (Hz O P  M) ?_
   rintro _ _ _ ⟨rfl,rfl,rfl⟩
   refine vs 1 ?_
   refine nx aC ?_
   refine vs 2 ?_
   refine er ?_
   refine sc d ?_ ?_<;>intro ac d
   ·refine sg aC ?_
    refine vs 2 ?_
    refine er ?_
    replace d:=y _ (au d)
    cases av d
    exact rt func121 (.tmp rfl .nil) sr (f _ _ _ aG)
   refine sp ?_
   refine U.a0 ?_
   refine U.rg aC ?_
   refine vs 2 ?_
   refine er ?_
   exact A _ (au d) _ _ _ ⟨rfl,rfl,aq b2⟩
  exact U.bw rfl (C _ (au d) _ _ _ ⟨rfl,rfl,aq cg⟩)
 rintro N V S an ⟨rfl,rfl,J⟩ d
 refine U.sub J ?_
 refine sq ?_
 refine sg bA ?_
 refine vs 1 ?_
 refine lr g underlying25 ?_
 refine vs 1 ?_
 refine lr m underlying25 ?_
 refine vs 1 ?_
 refine er ?_
 refine sc d ?_ ?_<;>intro ad d
 ·refine sg aB ?_
  refine vs 1 ?_
  refine er ?_
  cases av d
  exact rt func121 (.tmp rfl .nil) sr (f _ _ _ aG)
 refine sp ?_
 refine sg aB ?_
 refine vs 1 ?_
 refine er ?_
 cases av d
 exact rt func121 (.tmp rfl .nil) sr (f _ _ _ aG)
theorem Jx(z:(List Int))(x1:(List Int)){v0 v1:Value}(f:bE CZ 1 R H v0 z)(g:bE CZ 1 R H v1 x1){r:Bool}(d:pV z x1=some r):aL af 94 #[v0,v1] R H (λ v R' H'=>R=R'∧H=H'∧v = .bool r):=by
 unfold pV at d
 refine aY func94 23 λ fr cs m=>?_
 refine sg aB ?_
 refine vs 1 ?_
 refine nx Al ?_
 refine vs 1 ?_
 refine lr f underlying25 ?_
 refine vs 1 ?_
 refine lr g underlying25 ?_
 refine vs 2 ?_
 refine a8 d (λ s d=>?_) (λ s d=>?_)
 ·refine U.kn 10 s ?_
  refine vs 13 ?_
  refine er ?_
  cases av d
  exact rt func94 (.tmp rfl .nil) sr (m _ _ _ aG)
 refine U.kn 10 s ?_
 refine vs 1 ?_
 refine lr f underlying25 ?_
 refine vs 1 ?_
 refine lr g underlying25 ?_
 refine vs 2 ?_
 refine a8 d (λ y d=>?_) (λ y d=>?_)
 ·refine U.kn 16 y ?_
  refine vs 2 ?_
  have ⟨C,A,d⟩:=ae d
  refine U.cv CV (Hh z x1 (f.sub pp) (g.sub pp) A) ?_
  rintro _ _ _ ⟨rfl,rfl,rfl⟩
  refine vs 4 ?_
  refine er ?_
  cases av d
  exact rt func94 (.tmp rfl .nil) sr (m _ _ _ aG)
 refine U.kn 16 y ?_
 refine vs 7 ?_
 refine er ?_
 cases av d
 exact rt func94 (.tmp rfl .nil) sr (m _ _ _ aG)
end
end Go.Proofs.YtoaoffinglajbaaGreatDoor
