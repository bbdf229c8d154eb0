/- Walks, part 11: each function computes its model. -/
import Derived.Test.YtoaoffinglajbaaGreatDoorQBHbP10
namespace Go.Proofs.YtoaoffinglajbaaGreatDoor
open Go.Lg Go.Proofs Tryz
set_option maxRecDepth 100000
set_option maxHeartbeats 4000000
section
variable {B:Base} {main:Bool} {af:Jd prog B main} {R:ay} {H:aj}
theorem Hi{S:Type}{ys:eY→S→Option (S × Bool)}{L:Value}{Inv:S→ay→aj→Prop}{R:ay}{Hy:aj}(g:eI af R (eT m2) L ys Inv)(f:bg){bm:S}(aO:Inv bm R Hy){G I:Value}(am:ah dx 2 R G f.a4)(ad:ah c0 5 R I f.aN){r:S}(d:nH ys f bm=some r):aL af 122 #[.agg #[iv f.a9,iv f.bh,iv f.a5,G,I],L] R Hy (λ v R' H'=>aH R R'∧Inv r R' H'∧v = .tuple #[]):=by
 unfold nH at d
 refine aY func122 50 λ fr cs bf=>?_
 refine sg aC ?_
 refine bx λ m=>?_
 refine U.s rfl rfl (Ox.iF rfl rfl g.cells rfl λ C _ _=>⟨_,(.put rfl),?_⟩)
 refine nx bb ?_
 refine lN [_,_,_,_,_] 0 5 lS z1 ?_
 have ⟨O,bT,d⟩:=ae d
 refine U.cv C9 (HA f am ad bT) ?_
 rintro _ _ _ ⟨rfl,rfl,rfl⟩
 refine bu (#[iv 0]) iw λ D=>?_
 refine eC (#[_]) aI .here ?_
 refine nx aC ?_
 refine lN [_,_,_,_,_] 0 5 lS z2 ?_
 refine U.s rfl rfl (Ox.makeFunc (vs:=#[_]) (us:=#[]) rfl rfl rfl rfl (.put rfl) ?_)
 refine er ?_
 refine U.aP ?_
 refine U.rX (H:=[]) (A:=(eT qt)) (λ y s=>nL y f s) .ret d rfl Da rfl rfl rfl (λ (ax:S) R' T H'=>aH R R'∧∃ F,Inv ax R' F∧H'=(D,.cells #[iv O] 3)::(C,.cells #[L] 205)::(m,.cells #[iv f.a9,iv f.bh,iv f.a5,G,I] 100)::F++T) (λ (a2:S) R' T H'=>aH R R'∧∃ P,Inv a2 R' P∧H'=P++T) (λ ax bs bv bp q=>by obtain ⟨M,F,an,rfl⟩:=q; exact ⟨(D,.cells #[iv O] 3)::(C,.cells #[L] 205)::(m,.cells #[iv f.a9,iv f.bh,iv f.a5,G,I] 100)::F,by simp,λ R1 bz h=>⟨M.trans h,F,g.mono M h an,by simp⟩⟩) (λ a2 bs bv bp q=>by obtain ⟨M,P,aT,rfl⟩:=q; exact ⟨P,by simp,λ R1 bz h=>⟨M.trans h,P,g.mono M h aT,by simp⟩⟩) (λ v Inv Hy z g aO bU=>(HB g f aO am ad bU).mono λ _ _ _ h=>⟨h.1,h.2.1⟩) ⟨rr,Hy,aO,(by simp)⟩ ?_ ?_ ?_
 ·rintro a6 ax aF bq _ ⟨Y,F,an,rfl⟩ d
  refine U.perm (H':=(D,.cells #[iv O] 3)::(C,.cells #[L] 205)::(m,.cells #[iv f.a9,iv f.bh,iv f.a5,G,I] 100)::(a6,.deferred (some []))::F) (List.Perm.cons _ (List.Perm.cons _ (List.Perm.cons _ (p9 [] _)))) ?_
  replace g:=g.up Y
  refine U.a0 ?_
  cases av d
  exact U.CD (.there (.there (.there .here))) func122 .nil (J.drop (so (so (so (so sr)))) (bf _ _ _ ⟨Y,an,rfl⟩))
 ·rintro a6 a2 b6 bq _ ⟨bd,P,aT,rfl⟩ d
  refine U.perm (H':=(a6,.deferred (some []))::P) (p9 [] _) ?_
  replace g:=g.up bd
  cases av d
  exact U.hn .here func122 .nil (J.drop (so sr) (bf _ _ _ ⟨bd,aT,rfl⟩))
 rintro cn E ax aF Q b2 Z ao cd _ ce ⟨_,rfl,⟨N,rfl⟩⟩ ⟨Y,F,an,rfl⟩ bG cx d bA bD
 refine U.perm (H':=(D,.cells #[iv O] 3)::(C,.cells #[L] 205)::(m,.cells #[iv f.a9,iv f.bh,iv f.a5,G,I] 100)::(Z,.loop ao)::Q++(F)) (List.Perm.cons _ (List.Perm.cons _ (List.Perm.cons _ (p9 _ _)))) ?_
 have ⟨am,ad⟩:=dC Y am ad
 replace g:=g.up Y
 refine U.rg aC ?_
 refine bu (List.toArray ([iv 0,iv 0]++([0,0,0].map (Value.int .i64)++[]))) Bw λ V=>?_
 refine U.s rfl rfl (Ox.cG (cs':=_) rfl rfl rfl oQ (by simp [N]) (cj (aW rfl (aW rfl bl)) (cj (ej λ _=>rfl) bl)) .here (by simp) (eo (by simp [N])) rfl (.refl _) ?_)
 refine er ?_
 refine U.beginRound rfl rfl (.there (.there (.there (.there .here)))) bG ?_
 refine U.aP ?_
 refine U.scope ?_
 refine sg bb ?_
 refine lN [_,_,_,_,_] 0 5 lS z3 ?_
 refine U.s rfl rfl (Ox.bB (vs:=_) rfl rfl oQ (by simp [N]) ((aK.box z0).part (j:=0) (n:=5) (dd (by simp [N]))) rfl (.put rfl) ?_)
 have ⟨bn,bL,d⟩:=ae d
 refine U.cv Db (HC f E am ad N bL) ?_
 rintro _ _ _ ⟨rfl,rfl,rfl⟩
 refine vs 1 ?_
 refine es ?_
 refine U.label ?_
 refine sg b4 ?_
 refine vs 2 ?_
 refine ld 4 eM z3 ?_
 refine ls ad underlying30 ?_
 have ⟨bo,bM,d⟩:=ae d
 refine U.s rfl rfl (Ox.shl rfl rfl rfl bM rfl (.put rfl) ?_)
 refine vs 1 ?_
 refine er ?_
 refine U.aP ?_
 refine U.dy d (λ (ab:(S × Int)) R' H' aa=>aH aF R'∧∃ ac,Inv ab.1 R' ac∧H'=(V,.cells (List.toArray ([iv E.at_.aQ,iv E.at_.aZ]++(E.off.map (Value.int .i64)++[]))) 170)::(D,.cells #[iv O] 3)::(C,.cells #[L] 205)::(m,.cells #[iv f.a9,iv f.bh,iv f.a5,G,I] 100)::(Z,.loop { ao with state:=.busy })::Q++(ac)∧aA aa [(2,pT m),(3,pT C),(4,pT D),(5,pT V),(6,iv bn),(20,iv bo),(21,iv ab.2)]) (λ (bi:S) R' H' aa=>aH aF R'∧∃ ap,Inv bi R' ap∧H'=(D,.cells #[iv O] 3)::(C,.cells #[L] 205)::(m,.cells #[iv f.a9,iv f.bh,iv f.a5,G,I] 100)::(Z,.loop { ao with state:=.busy })::Q++(ap)∧aA aa [(2,pT m),(3,pT C),(4,pT D)]) 2 rfl ⟨rr,F,an,rfl,aq fc⟩ ?_ ?_
 rotate_right
 ·rintro ab bt bX ci ⟨ag,ac,W,rfl,bH⟩ cp d a7 bC bV
  refine U.sub bH ?_
  replace g:=g.up ag
  refine sg aB ?_
  refine vs 1 ?_
  refine es ?_
  refine sc d ?_ ?_<;>intro cf d
  ·refine sp ?_
   refine sq ?_
   refine U.aP ?_
   refine sg aC ?_
   refine vs 2 ?_
   refine es ?_
   refine sq ?_
   refine U.da d (λ (bk:Bool) R' H' aa=>aH bt R'∧H'=(V,.cells (List.toArray ([iv E.at_.aQ,iv E.at_.aZ]++(E.off.map (Value.int .i64)++[]))) 170)::(D,.cells #[iv O] 3)::(C,.cells #[L] 205)::(m,.cells #[iv f.a9,iv f.bh,iv f.a5,G,I] 100)::(Z,.loop { ao with state:=.busy })::Q++(ac)∧aA aa [(2,pT m),(3,pT C),(4,pT D),(5,pT V),(6,iv bn),(7,iv ab.2),(20,iv bo),(21,iv ab.2),(42,.bool bk)])  ?_ ?_
   rotate_right
   ·intro cq d aJ
    refine U.draw (n:=19) (is:=[0,1,2,3,4,5,6,7,8,9,10,11,12,13,14,15,16,17,18]) (λ _=>(V,.cells (List.toArray ([iv E.at_.aQ,iv E.at_.aZ]++(E.off.map (Value.int .i64)++[]))) 170)::(D,.cells #[iv O] 3)::(C,.cells #[L] 205)::(m,.cells #[iv f.a9,iv f.bh,iv f.a5,G,I] 100)::(Z,.loop { ao with state:=.busy })::Q++([])) mixed rfl (by decide +kernel) rfl rfl ?_
    refine Any.vs 2 [0,1] rfl ?_
    have ⟨ct,bN,d⟩:=ae d
    refine ts 2 [3,4,5,6,7,8,9,10,11,12,13,14,15,16,17,18] rfl (λ _ _ _ _ _ h=>h) (su (sk (sk (sk (sk (sk (dm sn))))))) (λ R' H' M be=>Ox.bits rfl rfl rfl bN rfl (.one rfl) aG) ?_
    refine Any.vs 2 [3,4] rfl ?_
    refine a8 d (λ aV d=>?_) (λ aV d=>?_)
    ·refine Any.cK (t:=28) rfl aV ?_
     refine Any.vs 14 [5,6,7,8,9,10,11,12,13,14,15,16,17,18] rfl ?_
     refine Any.done ?_
     exact aJ _ (au d) _ _ _ ⟨(rr),rfl,aq hl⟩
    refine Any.cK (t:=28) rfl aV ?_
    refine Any.vs 1 [5] rfl ?_
    refine ts 6 [7,8,9,10,11,12,13,14,15,16,17,18] rfl (λ _ _ _ _ _ h=>h) (su (sk (sk (sk (sk (sk (dm sn))))))) (kX aI 0 z1) ?_
    have ⟨cu,bO,d⟩:=ae d
    refine ts 7 [8,9,10,11,12,13,14,15,16,17,18] rfl (λ _ _ _ _ _ h=>h) (su (sk (sk (sk (sk (sk (dm sn))))))) (λ R' H' M be=>Ox.bits rfl rfl rfl bO rfl (.one rfl) aG) ?_
    refine Any.vs 3 [8,9,10] rfl ?_
    refine a8 d (λ a1 d=>?_) (λ a1 d=>?_)
    ·refine Any.cK (t:=34) rfl a1 ?_
     refine Any.vs 8 [11,12,13,14,15,16,17,18] rfl ?_
     refine Any.done ?_
     exact aJ _ (au d) _ _ _ ⟨(rr),rfl,aq hl⟩
    refine Any.cK (t:=34) rfl a1 ?_
    refine Any.vs 3 [11,14,15] rfl ?_
    refine ts 16 [17,18] rfl (λ _ _ _ _ _ h=>h) (su (sk (sk (sk (sk (sk (dm sn))))))) (kX aI 2 z3) ?_
    have ⟨bW,bP,d⟩:=ae d
    refine Any.cv 12 Dc (HD ab.2  bP) ?_
    rintro co b7 _ ⟨ar,rfl,_,bQ,rfl⟩
    replace W:=g.mono (rr) ar W
    replace g:=g.up ar
    refine ⟨ar,(ku (sk (sk (sk (sk (sk (dm sn))))))),?_⟩
    refine ts 13 [17,18] rfl (λ _ _ _ _ _ h=>h) (su (sk (sk (sk (sk (sk (dm sn))))))) (λ R' H' M be=>Ox.iM (K:=CZ) (k:=1) (xs:=bW) rfl rfl (bQ.mono M) underlying25 rfl (.one rfl) aG) ?_
    refine Any.vs 2 [17,18] rfl ?_
    refine Any.done ?_
    exact aJ _ (au d) _ _ _ ⟨ar,rfl,aq hl⟩
   rintro bk b5 b1 cm ⟨ak,rfl,bJ⟩ d
   refine U.sub bJ ?_
   replace W:=g.mono (rr) ak W
   replace g:=g.up ak
   refine sc d ?_ ?_<;>intro cg d
   ·refine U.bw rfl ?_
    refine U.rg aC ?_
    refine vs 2 ?_
    refine er ?_
    exact a7 _ (au d) _ _ _ ⟨(ag.trans ak),ac,W,rfl,aq fc⟩
   refine sp ?_
   refine sg b4 ?_
   refine ld 0 J9 z2 ?_
   refine U.s rfl rfl (Ox.bB (vs:=_) rfl rfl oQ (by simp [N]) ((aK.box z0).part (j:=0) (n:=5) (dd (by simp [N]))) rfl (.put rfl) ?_)
   refine vs 1 ?_
   refine U.s rfl rfl (Ox.build (cells:=(List.toArray ([iv E.at_.aQ,iv E.at_.aZ]++(E.off.map (Value.int .i64)++[iv ab.2])))) rfl LV rfl (by obtain ⟨b9,cb,cc,e⟩:=GJ N; rw [e]; rfl) rfl (.put rfl) ?_)
   have ⟨cw,bS,d⟩:=ae d
   refine U.qg rfl rfl rfl rfl rfl rfl rfl rfl ((g.call ((V,_)::(D,_)::(C,_)::(m,_)::(Z,_)::Q) (rr) W ⟨_,rfl,⟨N,rfl⟩⟩ bS).mono ?_)
   rintro _ b8 _ ⟨aw,rfl,az,ba,aM⟩
   replace aM:_=(V,_)::(D,_)::(C,_)::(m,_)::(Z,_)::Q++(az):=aM
   subst aM
   replace g:=g.up aw
   refine ⟨_,(.put rfl),?_⟩
   refine vs 1 ?_
   refine er ?_
   refine sc d ?_ ?_<;>intro ch d
   ·replace d:=bV _ (au d)
    exact U.aR (so (so (so (so sr)))) (U.perm (p9 _ _).symm (bD _ (au d) _ _ _ _ ((ag.trans ak).trans aw) ⟨(((Y.trans ag).trans ak).trans aw),az,ba,rfl⟩ (.inr (.inl ⟨_,br⟩))))
   refine sp ?_
   refine U.a0 ?_
   refine U.rg aC ?_
   refine vs 2 ?_
   refine er ?_
   exact a7 _ (au d) _ _ _ ⟨((ag.trans ak).trans aw),az,ba,rfl,aq fc⟩
  exact U.bw rfl (U.aR (so sr) (bC _ (au d) _ _ _ ⟨ag,ac,W,rfl,aq du⟩))
 rintro bi b3 bY ck ⟨aU,ap,bF,rfl,bI⟩ d
 refine U.sub bI ?_
 replace g:=g.up aU
 refine U.inScope ?_
 refine U.a0 ?_
 exact U.perm (List.Perm.cons _ (List.Perm.cons _ (List.Perm.cons _ (p9 _ _).symm))) (bA _ (au d) _ _ _ aU ⟨(Y.trans aU),ap,bF,rfl⟩)
theorem zu(f:bg)(x1:(bg→Option Int)){I L v1:Value}(ap:dX R)(g:ah dx 2 R I f.a4)(m:ah c0 5 R L f.aN)(S:g2 af R H (eT ss) (VI .i64) v1 x1){r:(lO × Int)}(d:ob f x1=some r):aL af 97 #[.agg #[iv f.a9,iv f.bh,iv f.a5,I,L],v1] R H (λ v R' H'=>aH R R'∧H=H'∧∃ Z aa ab,ah dx 2 R' Z r.1.book.a4∧ah c0 5 R' aa r.1.book.aN∧ah m2 6 R' ab r.1.cW∧v = .tuple #[.agg #[iv r.1.book.a9,iv r.1.book.bh,iv r.1.book.a5,Z,aa,ab],iv r.2]):=by
 unfold ob at d
 refine aY func97 43 λ fr cs P=>?_
 refine sg aM ?_
 refine bx λ bd=>?_
 refine bu (#[iv 0,iv 0,iv 0,aw,aw,aw]) si λ fX=>?_
 refine vs 1 ?_
 refine es ?_
 refine sg aM ?_
 refine lN [_,_,_,_,_] 0 5 df z1 ?_
 have ⟨bp,aF,d⟩:=ae d
 refine U.cv xF (zd f ap g m aF) ?_
 rintro _ _ _ ⟨rfl,rfl,rfl⟩
 refine vs 1 ?_
 refine nx aC ?_
 refine vs 2 ?_
 refine er ?_
 refine sc d ?_ ?_<;>intro bi d
 ·refine sg bb ?_
  refine cF (#[_,_,_,_,_,_]) r7 ?_
  refine vs 1 ?_
  refine bC (#[_,_,_,_,_,_]) h1 .here ?_
  refine vs 1 ?_
  refine er ?_
  cases av d
  exact rt func97 (.agg rfl h1 rfl (aK.box z0) (.tmp rfl .nil)) (so (so sr)) (P _ _ _ ⟨(rr),rfl,aw,aw,aw,ah.nil,ah.nil,ah.nil,rfl⟩)
 refine sp ?_
 refine sg bA ?_
 refine lN [_,_,_,_,_] 0 5 df z1 ?_
 refine cF (#[_,_,_,_,_]) qi ?_
 refine cF (#[_,_,_,_,_,_]) r7 ?_
 refine bu (#[iv 0,iv 0,iv 0,aw,aw,aw]) si λ F=>?_
 refine bC (#[_,_,_,_,_,_]) h1 .here ?_
 refine es ?_
 refine sg bA ?_
 refine vs 2 ?_
 refine lN [_,_,_,_,_] 0 5 lS z0 ?_
 have ⟨bq,aG,d⟩:=ae d
 refine U.step rfl rfl rfl (Ox.lZ S rfl rfl rfl ⟨_,rfl,⟨_,_,g,m,rfl⟩⟩ aG rfl (su (so (so (so sr)))) ?_)
 rintro _ ag N rfl
 have ⟨g,m⟩:=dC N g m
 replace S:=S.up N pp
 refine ⟨_,(.put rfl),?_⟩
 refine vs 1 ?_
 refine nx aC ?_
 refine vs 2 ?_
 refine er ?_
 refine sc d ?_ ?_<;>intro bk d
 ·refine sg bb ?_
  refine cF (#[_,_,_,_,_,_]) r7 ?_
  refine vs 1 ?_
  refine bC (#[_,_,_,_,_,_]) h1 (.there .here) ?_
  refine vs 1 ?_
  refine er ?_
  cases av d
  exact rt func97 (.agg rfl h1 rfl (aK.box z1) (.tmp rfl .nil)) (so (so (so sr))) (P _ _ _ ⟨N,rfl,aw,aw,aw,ah.nil,ah.nil,ah.nil,rfl⟩)
 refine sp ?_
 refine sq ?_
 refine sg aM ?_
 refine vs 1 ?_
 refine lN [_,_,_,_,_] 0 5 lS z0 ?_
 refine U.s rfl rfl (Ox.makeFunc (vs:=#[_]) (us:=#[]) rfl rfl rfl rfl (.put rfl) ?_)
 refine er ?_
 refine U.aP ?_
 refine U.aR (H':=(F,.cells #[iv f.a9,iv f.bh,iv f.a5,I,L,aw] 162)::(fX,.cells #[iv 0,iv 0,iv 0,aw,aw,aw] 162)::H) (sk (sk (so sr))) ?_
 refine U.ou (A:=(eT m2)) (λ y s=>nH y f s)  d rfl CX rfl rfl rfl (λ (Q:(List eY)) R' T H'=>aH ag R'∧∃ D E,aX m2 6 172 R' D Q E∧H'=E++((F,.cells #[iv f.a9,iv f.bh,iv f.a5,I,L,D] 162)::(fX,.cells #[iv 0,iv 0,iv 0,aw,aw,aw] 162)::T))  (λ Q a6 a8 aV q=>by obtain ⟨ar,D,E,G,rfl⟩:=q; exact ⟨E++((F,.cells #[iv f.a9,iv f.bh,iv f.a5,I,L,D] 162)::(fX,.cells #[iv 0,iv 0,iv 0,aw,aw,aw] 162)::[]),by simp,λ R1 ba h=>⟨ar.trans h,D,E,G.mono h,by simp⟩⟩)  (λ v Inv Hy z ax aq aJ=>(Hi ax f aq g m aJ).mono λ _ _ _ h=>⟨h.1,h.2.1⟩) ⟨rr,aw,[],aX.nil,rfl⟩ ?_ ?_
 ·rintro Y Q ad a2 _ ⟨M,D,E,G,rfl⟩ d
  have ⟨g,m⟩:=dC M g m
  refine U.a0 ?_
  refine sq ?_
  refine sg bb ?_
  refine vs 1 ?_
  refine ld 5 rS (bH _ z0) ?_
  refine U.s rfl rfl (Ox.js rfl rfl G underlying160 rfl (.put rfl) ?_)
  refine vs 1 ?_
  refine er ?_
  refine sc d ?_ ?_<;>intro bm d
  ·refine sg aM ?_
   refine cF (#[_,_,_,_,_,_]) r7 ?_
   refine bC (#[_,_,_,_,_,_]) h1 (.skip (.there .here)) ?_
   refine vs 1 ?_
   refine er ?_
   cases av d
   exact U.hn (.skip (.there (.there .here))) func97 (.agg rfl h1 rfl (aK.box (bH _ z1)) (.tmp rfl .nil)) (J.drop (az (so (so (so sr)))) (P _ _ _ ⟨(N.trans M),rfl,aw,aw,aw,ah.nil,ah.nil,ah.nil,rfl⟩))
  refine sp ?_
  refine sg aM ?_
  refine lN [_,_,_,_,_,_] 0 6 h1 (bH _ z0) ?_
  refine bC (#[_,_,_,_,_,_]) h1 (.skip (.there .here)) ?_
  refine vs 1 ?_
  refine er ?_
  refine U.dg (H2:=(F,_)::(fX,_)::(Y,_)::H) (λ X=>X++((F,_)::(fX,_)::(Y,_)::H)) .id rfl G (λ a7 V aA=>?_)
  have ⟨g,m⟩:=dC V g m
  cases av d
  exact U.hn (.there (.there .here)) func97 (.agg rfl h1 rfl (aK.box z1) (.tmp rfl .nil)) (J.drop (so (so (so sr))) (P _ _ _ ⟨((N.trans M).trans V),rfl,I,L,D,g,m,aA,rfl⟩))
 rintro bo O Q ad ak a1 aT bn be _ bf ⟨_,rfl,⟨C,rfl⟩⟩ ⟨M,D,E,G,rfl⟩ aB bs d am
 refine U.rg aC ?_
 refine bu (List.toArray ([iv 0,iv 0]++([0,0,0].map (Value.int .i64)++[iv 0]))) Bx λ an=>?_
 refine U.s rfl rfl (Ox.cG (cs':=_) rfl rfl rfl qA (by simp [C]) (cj (aW rfl (aW rfl bl)) (cj (ej λ _=>rfl) (aW rfl bl))) .here (by simp) (eo (by simp [C])) rfl (.refl _) ?_)
 refine er ?_
 refine U.beginRound rfl rfl (.there (.skip (.there (.there .here)))) aB ?_
 refine U.aP ?_
 refine U.rg dc ?_
 refine vs 1 ?_
 refine U.ld rS ((aK.box (.tail _ (bH _ z0))).one (j:=5) rfl) ?_
 refine U.s rfl rfl (Ox.bB (vs:=_) rfl rfl qA (by simp [C]) ((aK.box z0).part (j:=0) (n:=6) (dd (by simp [C]))) rfl (.put rfl) ?_)
 refine U.s rfl rfl (Ox.buildSlice (cells:=(List.toArray ([iv O.ea.at_.aQ,iv O.ea.at_.aZ]++(O.ea.off.map (Value.int .i64)++[iv O.yF])))) rfl Cz rfl (by decide) Cb (ca rfl rfl (by simp [Value.cells,C]) (eo (by simp [Value.cells,C])) cE) rfl λ ao _ _=>⟨_,(.put rfl),?_⟩)
 have ⟨br,aI,d⟩:=ae d
 refine U.s rfl rfl (Ox.append (K:=m2) (λ X=>(ao,_)::(an,_)::X++((F,_)::(fX,_)::(aT,_)::ak)) rfl rfl rfl BS underlying160 (by simp) (.cons (.cons .id)) G (e4.lit z0 (aO.le (aO.single (x:=O) ⟨C,rfl⟩ (by simp [C])) rfl) rfl) aI rfl λ aU ac W=>⟨_,(.put rfl),?_⟩)
 refine vs 1 ?_
 refine U.s rfl rfl (Ox.dE (cs':=#[_,_,_,_,_,_]) rfl rfl rfl rS W.one (.there (.there (.skip .here))) rfl rfl rfl (.refl _) ?_)
 refine er ?_
 refine U.a0 ?_
 exact U.aR (so (so sr)) (am _ (au d) _ _ _ (rr) ⟨M,aU,ac,W,rfl⟩)
theorem zv(d:bg){g m:Value}(_:ah dx 2 R g d.a4)(_:ah c0 5 R m d.aN){r:Int}(f:lz d=some r):aL af 98 #[.agg #[iv d.a9,iv d.bh,iv d.a5,g,m]] R H (λ v R' H'=>R=R'∧H=H'∧v=iv r):=by
 unfold lz at f
 refine aY func98 3 λ fr cs s=>?_
 refine sg aC ?_
 refine bx λ y=>?_
 refine vs 1 ?_
 refine nx aB ?_
 refine vs 1 ?_
 refine er ?_
 cases av f
 exact rt func98 (.tmp rfl .nil) (so sr) (s _ _ _ aG)
theorem IW(f:bg){W Y:Value}(ax:dX R)(ak:ah dx 2 R W f.a4)(am:ah c0 5 R Y f.aN){r:((List de) × Int)}(d:pK f=some r):aL af 48 #[.agg #[iv f.a9,iv f.bh,iv f.a5,W,Y]] R H (λ v R' H'=>aH R R'∧H=H'∧∃ Z,ah m1 2 R' Z r.1∧v = .tuple #[Z,iv r.2]):=by
 unfold pK at d
 refine aY func48 44 λ fr cs S=>?_
 refine sg aM ?_
 refine bx λ gN=>?_
 refine vs 2 ?_
 refine nx cX ?_
 refine lN [_,_,_,_,_] 0 5 df z0 ?_
 have ⟨bi,a6,d⟩:=ae d
 refine U.cv xM (zu f (λ y=>lz y) ax ak am ⟨98,#[],#[],rfl,xN,λ R' H' bt bs y r va ar aV=>by obtain ⟨_,rfl,⟨bO,bP,ba,bd,rfl⟩⟩:=ar; exact (zv y ba bd aV).mono λ _ _ _ ⟨an,ao,ap⟩=>⟨an ▸ rr,ao.symm,ap⟩⟩ a6) ?_
 rintro _ N _ ⟨Q,rfl,bM,bN,be,bF,bG,T,rfl⟩
 refine vs 3 ?_
 refine bu (#[iv 0,iv 0,iv 0,aw,aw,aw]) si λ bq=>?_
 refine bC (#[_,_,_,_,_,_]) h1 .here ?_
 refine vs 1 ?_
 refine es ?_
 refine sg aC ?_
 refine vs 2 ?_
 refine er ?_
 refine sc d ?_ ?_<;>intro bv d
 ·refine sg aM ?_
  refine vs 3 ?_
  refine er ?_
  cases av d
  exact rt func48 (.tmp rfl (.tmp rfl .nil)) (so (so sr)) (S _ _ _ ⟨Q,rfl,aw,ah.nil,rfl⟩)
 refine sp ?_
 refine sg aC ?_
 refine U.s rfl rfl (Ox.Jy (K:=pd) (E:=Value.bool) (z0:=false) (ok:=λ _=>True) rfl rfl λ ab L aT=>⟨_,(.put rfl),?_⟩)
 refine vs 1 ?_
 refine nx aB ?_
 refine vs 1 ?_
 refine es ?_
 refine sg bb ?_
 refine vs 1 ?_
 refine ld 5 rS (bH _ z0) ?_
 refine ls T underlying160 ?_
 refine vs 1 ?_
 refine er ?_
 refine U.aP ?_
 refine U.aR (H':=L++(H)) (dm (so (so sr))) ?_
 refine U.cQ d (λ (C:((de→Bool) × (List de) × Int)) R' H' aa=>N=R'∧∃ z m g,BE ab C.1 z∧aX m1 2 38 R' m C.2.1 g∧H'=g++(z++(H))∧aA aa [(6,ab),(7,m),(20,be),(21,iv (bi.1.cW.length:Int)),(22,iv C.2.2)]) (λ (V:(List de)) R' H' aa=>N=R'∧∃ D F,aX m1 2 38 R' D V F∧H'=F++(H)∧aA aa [(7,D)]) 0 rfl ⟨rfl,L,aw,[],aT,aX.nil,rfl,aq b2⟩ ?_ ?_
 rotate_right
 ·rintro C bn bk bJ ⟨rfl,z,m,g,I,G,rfl,a1⟩ bQ d O ag
  refine U.sub a1 ?_
  refine sg aB ?_
  refine vs 1 ?_
  refine es ?_
  refine sc d ?_ ?_<;>intro bz d
  ·refine sp ?_
   refine sq ?_
   refine U.aP ?_
   refine sg bb ?_
   have ⟨J,a7,d⟩:=ae d
   obtain ⟨br,bI,_,⟨A,rfl⟩,aG,aJ⟩:=T.elem Lz a7
   refine bX aJ ?_
   refine U.s rfl rfl (Ox.bB (vs:=_) rfl rfl qA (by simp [A]) (aG.any.part (j:=0) (n:=6) (dd (by simp [A]))) rfl (.put rfl) ?_)
   refine bu (List.toArray ([iv 0,iv 0]++([0,0,0].map (Value.int .i64)++[iv 0]))) Bx λ P=>?_
   refine U.s rfl rfl (Ox.cG (cs':=_) rfl rfl rfl qA (by simp [A]) (cj (aW rfl (aW rfl bl)) (cj (ej λ _=>rfl) (aW rfl bl))) .here (by simp) (eo (by simp [A])) rfl (.refl _) ?_)
   refine nx b4 ?_
   refine vs 3 ?_
   refine lN [_,_] 0 2 gw z0 ?_
   refine U.s rfl rfl (Ox.GO (p:=J.ea.at_) rfl rfl rfl zy trivial I (λ _ h=>(.tail _ (bH _ (bT _ h)))) rfl (.put rfl) ?_)
   refine vs 1 ?_
   refine er ?_
   refine sc d ?_ ?_<;>intro bD d
   ·refine sg bA ?_
    refine vs 3 ?_
    refine lN [_,_] 0 2 gw z0 ?_
    refine U.s rfl rfl (Ox.JG (p:=J.ea.at_) (λ X=>(P,_)::g++(X++(H))) rfl rfl rfl rfl zy trivial (.cons (.app .id)) I rfl (.refl _) λ M aU=>?_)
    refine er ?_
    refine U.rg dc ?_
    refine vs 3 ?_
    refine lN [_,_] 0 2 gw z0 ?_
    refine dt (#[_,_]) CC Cf λ ad=>?_
    have ⟨bS,a8,d⟩:=ae d
    refine U.s rfl rfl (Ox.append (K:=m1) (λ X=>(ad,_)::(P,_)::X++(M++(H))) rfl rfl rfl BV underlying96 (by simp) (.cons (.cons .id)) G (eB J.ea.at_ rfl) a8 rfl λ bf ac aO=>⟨_,(.put rfl),?_⟩)
    refine vs 1 ?_
    refine er ?_
    refine U.a0 ?_
    refine U.rg aC ?_
    refine vs 2 ?_
    refine er ?_
    exact U.aR (so (so sr)) (O _ (au d) _ _ _ ⟨rfl,M,bf,ac,aU,aO,rfl,aq b2⟩)
   refine sp ?_
   refine U.a0 ?_
   refine U.rg aC ?_
   refine vs 2 ?_
   refine er ?_
   exact U.aR (so sr) (O _ (au d) _ _ _ ⟨rfl,z,m,g,I,G,rfl,aq b2⟩)
  exact U.bw rfl (U.aR (dm (az sr)) (ag _ (au d) _ _ _ ⟨rfl,m,g,G,rfl,aq eD⟩))
 rintro V bo bm bL ⟨rfl,D,F,aK,rfl,a2⟩ d
 refine U.sub a2 ?_
 refine sg aM ?_
 refine vs 3 ?_
 refine er ?_
 refine U.dg (H2:=H) (λ X=>X++(H)) .id rfl aK (λ bp aF aI=>?_)
 cases av d
 exact rt func48 (.tmp rfl (.tmp rfl .nil)) sr (S _ _ _ ⟨(Q.trans aF),rfl,D,aI,rfl⟩)
theorem zx(f:bg){C D:Value}(O:dX R)(M:ah dx 2 R C f.a4)(N:ah c0 5 R D f.aN){r:(Reach × Reach × Int)}(d:m9 f=some r):aL af 9 #[.agg #[iv f.a9,iv f.bh,iv f.a5,C,D]] R H (λ v R' H'=>aH R R'∧H=H'∧v = .tuple #[.agg #[iv r.1.ai,iv r.1.ak],.agg #[iv r.2.1.ai,iv r.2.1.ak],iv r.2.2]):=by
 unfold m9 at d
 refine aY func9 67 λ fr cs J=>?_
 refine sg bb ?_
 refine bx λ hB=>?_
 refine bu (#[iv 0,iv 0]) fT λ ft=>?_
 refine bu (#[iv 0,iv 0]) fT λ y=>?_
 refine vs 1 ?_
 refine nx dc ?_
 refine lN [_,_,_,_,_] 0 5 df z2 ?_
 have ⟨az,am,d⟩:=ae d
 refine U.cv D9 (IW f O M N am) ?_
 rintro _ G _ ⟨I,rfl,ax,z,rfl⟩
 refine vs 5 ?_
 refine es ?_
 refine sg aC ?_
 refine vs 2 ?_
 refine er ?_
 refine sc d ?_ ?_<;>intro bm d
 ·refine sg b4 ?_
  refine cF (#[_,_]) jI ?_
  refine cF (#[_,_]) jI ?_
  refine vs 1 ?_
  refine bC (#[_,_]) cB (.there .here) ?_
  refine bC (#[_,_]) cB .here ?_
  refine vs 1 ?_
  refine er ?_
  cases av d
  exact rt func9 (.agg rfl cB rfl (aK.box z1) (.agg rfl cB rfl (aK.box z0) (.tmp rfl .nil))) (so (so (so sr))) (J _ _ _ ⟨I,br⟩)
 refine sp ?_
 refine sq ?_
 refine U.draw (n:=20) (is:=[0,1,2,3,4,5,6,7,8,9,10,11,12,13,14,15,16,17,18,19]) (many ((y,.cells #[iv 0,iv 0] 23)::(ft,.cells #[iv 0,iv 0] 23)::(hB,.cells #[iv f.a9,iv f.bh,iv f.a5,C,D] 32)::H) [(18,(y,.cells #[iv 0,iv 0] 23)::(hB,.cells #[iv f.a9,iv f.bh,iv f.a5,C,D] 32)::H),(19,(hB,.cells #[iv f.a9,iv f.bh,iv f.a5,C,D] 32)::H)]) mixed rfl (by decide +kernel) rfl rfl ?_
 refine Any.vs 1 [0] rfl ?_
 have ⟨aO,an,d⟩:=ae d
 have ⟨aT,ao,d⟩:=ae d
 have ⟨aV,ap,d⟩:=ae d
 have ⟨a1,ar,d⟩:=ae d
 obtain ⟨bd,bp,_,rfl,P,W⟩:=z.elem qf an
 refine ts 1 [2,3,8,18,19] rfl (aF rfl (aF rfl (aU (su (so (so (so sr))))))) (su (so (so (so sr)))) (kI W) ?_
 refine Any.vs 1 [2] rfl ?_
 refine ts 3 [8,18,19] rfl (aF rfl (aF rfl (aU (su (so (so (so sr))))))) (su (so (so (so sr)))) (kU aI 0 P) ?_
 refine Any.vs 1 [4] rfl ?_
 obtain ⟨be,bq,_,rfl,Q,Y⟩:=z.elem qf ao
 refine ts 5 [6,7,8,18,19] rfl (aF rfl (aF rfl (aU (su (so (so (so sr))))))) (su (so (so (so sr)))) (kI Y) ?_
 refine Any.vs 1 [6] rfl ?_
 refine ts 7 [8,18,19] rfl (aF rfl (aF rfl (aU (su (so (so (so sr))))))) (su (so (so (so sr)))) (kU aI 0 Q) ?_
 refine ts 8 [18,19] rfl (aF rfl (aF rfl (aU (su (so (so (so sr))))))) (su (so (so (so sr)))) (λ R' H' F A=>Ox.build (cells:=#[_,_]) rfl jI rfl (ca rfl rfl rfl rfl (ca rfl rfl rfl rfl cE)) rfl (.one rfl) aG) ?_
 refine Any.vs 1 [9] rfl ?_
 obtain ⟨bf,bs,_,rfl,S,Z⟩:=z.elem qf ap
 refine ts 10 [11,12,17,19] rfl (ih (su (so (so sr))) (aF rfl (aU (su (so (so (so sr))))))) (su (so (so (so sr)))) (kI Z) ?_
 refine Any.vs 1 [11] rfl ?_
 refine ts 12 [17,19] rfl (ih (su (so (so sr))) (aF rfl (aU (su (so (so (so sr))))))) (su (so (so (so sr)))) (kU aI 1 S) ?_
 refine Any.vs 1 [13] rfl ?_
 obtain ⟨bi,bt,_,rfl,T,ab⟩:=z.elem qf ar
 refine ts 14 [15,16,17,19] rfl (ih (su (so (so sr))) (aF rfl (aU (su (so (so (so sr))))))) (su (so (so (so sr)))) (kI ab) ?_
 refine Any.vs 1 [15] rfl ?_
 refine ts 16 [17,19] rfl (ih (su (so (so sr))) (aF rfl (aU (su (so (so (so sr))))))) (su (so (so (so sr)))) (kU aI 1 T) ?_
 refine ts 17 [19] rfl (ih (su (so (so sr))) (aF rfl (aU (su (so (so (so sr))))))) (su (so (so (so sr)))) (λ R' H' F A=>Ox.build (cells:=#[_,_]) rfl jI rfl (ca rfl rfl rfl rfl (ca rfl rfl rfl rfl cE)) rfl (.one rfl) aG) ?_
 refine Any.on 18 rfl rfl (aJ.to (Ox.cG (cs':=#[_,_]) rfl rfl rfl cB rfl (aW rfl (aW rfl bl)) (.there .here) rfl rfl rfl (.refl _) ⟨rr,(bo rfl (su (sk (so sr)))),?_⟩))
 refine Any.on 19 rfl rfl (aJ.to (Ox.cG (cs':=#[_,_]) rfl rfl rfl cB rfl (aW rfl (aW rfl bl)) .here rfl rfl rfl (.refl _) ⟨rr,(bo rfl (su (so (so sr)))),?_⟩))
 refine Any.done ?_
 refine sq ?_
 refine sg aM ?_
 refine vs 1 ?_
 refine ls z underlying96 ?_
 refine vs 1 ?_
 refine er ?_
 refine U.aP ?_
 refine U.aR (H':=(y,.cells #[iv aV.aZ,iv a1.aZ] 23)::(ft,.cells #[iv aO.aQ,iv aT.aQ] 23)::H) (sk (sk (so sr))) ?_
 refine U.cQ d (λ (m:(Int × Int × Int × Int × Int)) R' H' aa=>G=R'∧H'=(y,.cells #[iv m.2.1,iv m.2.2.1] 23)::(ft,.cells #[iv m.2.2.2.1,iv m.2.2.2.2] 23)::H∧aA aa [(2,pT ft),(3,pT y),(36,ax),(37,iv (az.1.length:Int)),(38,iv m.1)]) (λ (g:(Int × Int × Int × Int)) R' H' aa=>G=R'∧H'=(y,.cells #[iv g.1,iv g.2.1] 23)::(ft,.cells #[iv g.2.2.1,iv g.2.2.2] 23)::H∧aA aa [(2,pT ft),(3,pT y)]) 0 rfl ⟨rfl,rfl,aq b2⟩ ?_ ?_
 rotate_right
 ·rintro m a7 a2 bz ⟨rfl,rfl,ad⟩ bD d K L
  refine U.sub ad ?_
  refine sg aB ?_
  refine vs 1 ?_
  refine es ?_
  refine sc d ?_ ?_<;>intro bn d
  ·refine sp ?_
   refine sq ?_
   refine U.aP ?_
   refine sg bb ?_
   have ⟨E,aw,d⟩:=ae d
   obtain ⟨bk,bv,_,rfl,V,ac⟩:=z.elem qf aw
   refine bX ac ?_
   refine U.s rfl rfl (Ox.bB (vs:=[_,_]) rfl rfl gw rfl (V.any.part (j:=0) (n:=2) rfl) rfl (.put rfl) ?_)
   refine bu (#[iv 0,iv 0]) By λ ba=>?_
   refine bC (#[_,_]) gw .here ?_
   refine nx gW ?_
   refine vs 1 ?_
   refine ld 0 aI z2 ?_
   refine vs 1 ?_
   refine ld 0 aI z0 ?_
   refine U.s rfl rfl (Ox.min (a:=m.2.2.2.1) (l:=[E.aQ]) rfl rfl rfl (.put rfl) ?_)
   refine vs 1 ?_
   refine ld 1 aI z2 ?_
   refine vs 1 ?_
   refine ld 0 aI z0 ?_
   refine U.s rfl rfl (Ox.max (a:=m.2.2.2.2) (l:=[E.aQ]) rfl rfl rfl (.put rfl) ?_)
   refine cF (#[_,_]) jI ?_
   refine bC (#[_,_]) cB (.there (.there .here)) ?_
   refine er ?_
   refine U.rg gW ?_
   refine vs 1 ?_
   refine ld 0 aI z1 ?_
   refine vs 1 ?_
   refine ld 1 aI z0 ?_
   refine U.s rfl rfl (Ox.min (a:=m.2.1) (l:=[E.aZ]) rfl rfl rfl (.put rfl) ?_)
   refine vs 1 ?_
   refine ld 1 aI z1 ?_
   refine vs 1 ?_
   refine ld 1 aI z0 ?_
   refine U.s rfl rfl (Ox.max (a:=m.2.2.1) (l:=[E.aZ]) rfl rfl rfl (.put rfl) ?_)
   refine cF (#[_,_]) jI ?_
   refine bC (#[_,_]) cB (.there .here) ?_
   refine er ?_
   refine U.a0 ?_
   refine U.rg aC ?_
   refine vs 2 ?_
   refine er ?_
   exact U.aR (so sr) (K _ (au d) _ _ _ ⟨rfl,rfl,aq b2⟩)
  exact U.bw rfl (L _ (au d) _ _ _ ⟨rfl,rfl,aq cg⟩)
 rintro g a8 a6 bA ⟨rfl,rfl,ag⟩ d
 refine U.sub ag ?_
 refine sq ?_
 refine U.draw (n:=5) (is:=[0,1,2,3,4]) (many ((y,.cells #[iv g.1,iv g.2.1] 23)::(ft,.cells #[iv g.2.2.1,iv g.2.2.2] 23)::H) [(2,(y,.cells #[iv g.1,iv g.2.1] 23)::H),(3,H)]) mixed rfl (by decide +kernel) rfl rfl ?_
 refine ts 0 [2,3,4] rfl (aF rfl (aF rfl (aU (su (so sr))))) (su (so sr)) (λ R' H' F A=>Ox.bB (vs:=[_,_]) rfl rfl cB rfl ((aK.box (A _ z0)).part (j:=0) (n:=2) rfl) rfl (.one rfl) aG) ?_
 refine ts 1 [3,4] rfl (ih pp (aF rfl (aU (su (sk (so sr)))))) (su (sk (so sr))) (λ R' H' F A=>Ox.bB (vs:=[_,_]) rfl rfl cB rfl ((aK.box (A _ z0)).part (j:=0) (n:=2) rfl) rfl (.one rfl) aG) ?_
 refine Any.on 2 rfl rfl (aJ.to (Ox.cG (cs':=#[_,_]) rfl rfl rfl cB rfl (aW rfl (aW rfl bl)) (.there .here) rfl rfl rfl (.refl _) ⟨rr,(bo rfl (su (sk (so sr)))),?_⟩))
 refine Any.on 3 rfl rfl (aJ.to (Ox.cG (cs':=#[_,_]) rfl rfl rfl cB rfl (aW rfl (aW rfl bl)) .here rfl rfl rfl (.refl _) ⟨rr,(bo rfl (su (so (so sr)))),?_⟩))
 refine Any.vs 1 [4] rfl ?_
 refine Any.done ?_
 cases av d
 exact rt func9 (.agg rfl cB rfl (aK.box z1) (.agg rfl cB rfl (aK.box z0) (.tmp rfl .nil))) (so (so sr)) (J _ _ _ ⟨I,br⟩)
theorem IZ(d:bg)(x1:Int){g m:Value}(_:ah dx 2 R g d.a4)(s:ah c0 5 R m d.aN){r:Int}(f:pL d x1=some r):aL af 50 #[.agg #[iv d.a9,iv d.bh,iv d.a5,g,m],iv x1] R H (λ v R' H'=>R=R'∧H=H'∧v=iv r):=by
 unfold pL at f
 refine aY func50 13 λ fr cs y=>?_
 refine sg aC ?_
 refine bx λ D=>?_
 refine vs 1 ?_
 refine nx dW ?_
 refine vs 3 ?_
 refine ld 4 eM z0 ?_
 refine ls s underlying30 ?_
 refine vs 1 ?_
 have ⟨C,z,f⟩:=ae f
 refine U.cv jR (jZ x1 0 (i64 ((d.aN.length:Int) - 1))  z) ?_
 rintro _ _ _ ⟨rfl,rfl,rfl⟩
 have ⟨F,A,f⟩:=ae f
 refine U.cv xO (zw C  A) ?_
 rintro _ _ _ ⟨rfl,rfl,rfl⟩
 refine vs 1 ?_
 refine er ?_
 cases av f
 exact rt func50 (.tmp rfl .nil) (so sr) (y _ _ _ aG)
theorem ze(m:(List eH)){v0:Value}(g:bE c0 5 R H v0 m){r:List eH}(d:lk m=some r):aL af 51 #[v0] R H (λ v R' H'=>aH R R'∧∃ w Hs,aX c0 5 48 R' w r Hs∧H'=Hs++H∧v=w):=by
 rcases g.p6 with ⟨z,rfl,rfl⟩ | ⟨E,G,z,rfl⟩
 ·have d:some ([]:List eH)=some r:=by simpa [lk,cu] using d
  refine aY func51 8 λ fr cs f=>?_
  refine sg aB ?_
  refine vs 1 ?_
  refine es ?_
  refine sg aC ?_
  refine vs 1 ?_
  refine U.s rfl rfl (Ox.jn rfl rfl rfl underlying30 rfl rfl (.put rfl) ?_)
  refine er ?_
  refine U.cond_true rfl ?_
  refine sg aB ?_
  refine vs 1 ?_
  refine er ?_
  cases av d
  exact rt func51 (.tmp rfl .nil) sr (f _ _ _ ⟨(rr),aw,[],aX.nil,br⟩)
 ·unfold lk at d
  refine aY func51 8 λ fr cs f=>?_
  refine sg aB ?_
  refine vs 1 ?_
  refine es ?_
  refine sg aC ?_
  refine vs 1 ?_
  refine U.s rfl rfl (Ox.jn rfl rfl rfl underlying30 rfl rfl (.put rfl) ?_)
  refine er ?_
  refine U.cond_false rfl ?_
  refine sp ?_
  refine sg bb ?_
  refine dt (#[]) xp wm λ F=>?_
  refine vs 1 ?_
  have ⟨I,C,d⟩:=ae d
  refine U.s rfl rfl (Ox.append (K:=c0) (λ X=>X++(H)) rfl rfl rfl wb underlying30 (by simp) .id (aX.lit (aO.le aO.nil rfl) rfl) (g.sub (su (so sr))).arg C rfl λ D y A=>⟨_,(.put rfl),?_⟩)
  refine vs 1 ?_
  refine er ?_
  cases av d
  exact rt func51 (.tmp rfl .nil) sr (f _ _ _ ⟨(rr),D,y,A,br⟩)
theorem GX(m:(List Reach)){v0:Value}(g:bE dx 2 R H v0 m){r:List Reach}(d:pg m=some r):aL af 101 #[v0] R H (λ v R' H'=>aH R R'∧∃ w Hs,aX dx 2 23 R' w r Hs∧H'=Hs++H∧v=w):=by
 rcases g.p6 with ⟨z,rfl,rfl⟩ | ⟨E,G,z,rfl⟩
 ·have d:some ([]:List Reach)=some r:=by simpa [pg,cu] using d
  refine aY func101 8 λ fr cs f=>?_
  refine sg aB ?_
  refine vs 1 ?_
  refine es ?_
  refine sg aC ?_
  refine vs 1 ?_
  refine U.s rfl rfl (Ox.jn rfl rfl rfl underlying29 rfl rfl (.put rfl) ?_)
  refine er ?_
  refine U.cond_true rfl ?_
  refine sg aB ?_
  refine vs 1 ?_
  refine er ?_
  cases av d
  exact rt func101 (.tmp rfl .nil) sr (f _ _ _ ⟨(rr),aw,[],aX.nil,br⟩)
 ·unfold pg at d
  refine aY func101 8 λ fr cs f=>?_
  refine sg aB ?_
  refine vs 1 ?_
  refine es ?_
  refine sg aC ?_
  refine vs 1 ?_
  refine U.s rfl rfl (Ox.jn rfl rfl rfl underlying29 rfl rfl (.put rfl) ?_)
  refine er ?_
  refine U.cond_false rfl ?_
  refine sp ?_
  refine sg bb ?_
  refine dt (#[]) CA Ce λ F=>?_
  refine vs 1 ?_
  have ⟨I,C,d⟩:=ae d
  refine U.s rfl rfl (Ox.append (K:=dx) (λ X=>X++(H)) rfl rfl rfl BU underlying29 (by simp) .id (aX.lit (aO.le aO.nil rfl) rfl) (g.sub (su (so sr))).arg C rfl λ D y A=>⟨_,(.put rfl),?_⟩)
  refine vs 1 ?_
  refine er ?_
  cases av d
  exact rt func101 (.tmp rfl .nil) sr (f _ _ _ ⟨(rr),D,y,A,br⟩)
theorem I0(d:bg){L M:Value}(ad:dX R)(D:ah dx 2 R L d.a4)(A:ah c0 5 R M d.aN){r:(bg × Int)}(f:rC d=some r):aL af 52 #[.agg #[iv d.a9,iv d.bh,iv d.a5,L,M]] R H (λ v R' H'=>aH R R'∧H=H'∧∃ W Y,ah dx 2 R' W r.1.a4∧ah c0 5 R' Y r.1.aN∧v = .tuple #[.agg #[iv r.1.a9,iv r.1.bh,iv r.1.a5,W,Y],iv r.2]):=by
 unfold rC at f
 refine aY func52 24 λ fr cs V=>?_
 refine sg aM ?_
 refine bx λ C=>?_
 refine bu (#[iv 0,iv 0,iv 0,aw,aw]) qq λ m=>?_
 refine vs 1 ?_
 refine es ?_
 refine sg cX ?_
 refine lN [_,_,_,_,_] 0 5 df z1 ?_
 have ⟨g,am,f⟩:=ae f
 refine U.cv xM (zu d (λ y=>lz y) ad D A ⟨98,#[],#[],rfl,xN,λ R' H' aR aP y r va ac ak=>by obtain ⟨_,rfl,⟨a6,a7,ap,aq,rfl⟩⟩:=ac; exact (zv y ap aq ak).mono λ _ _ _ ⟨Z,aa,ab⟩=>⟨Z ▸ rr,aa.symm,ab⟩⟩ am) ?_
 rintro _ aG _ ⟨G,rfl,N,O,P,aV,a1,a2,rfl⟩
 have ⟨D,A⟩:=dC G D A
 refine vs 3 ?_
 refine bu (#[iv 0,iv 0,iv 0,aw,aw,aw]) si λ z=>?_
 refine bC (#[_,_,_,_,_,_]) h1 .here ?_
 refine vs 1 ?_
 refine nx aC ?_
 refine vs 2 ?_
 refine er ?_
 refine sc f ?_ ?_<;>intro aT f
 ·refine sg bb ?_
  refine cF (#[_,_,_,_,_]) r8 ?_
  refine vs 1 ?_
  refine bC (#[_,_,_,_,_]) df (.there .here) ?_
  refine vs 1 ?_
  refine er ?_
  cases av f
  exact rt func52 (.agg rfl df rfl (aK.box z1) (.tmp rfl .nil)) (so (so (so sr))) (V _ _ _ ⟨G,rfl,aw,aw,ah.nil,ah.nil,rfl⟩)
 refine sp ?_
 refine sq ?_
 refine U.draw (n:=10) (is:=[0,1,2,3,4,5,6,7,8,9]) (many ((z,.cells #[iv g.1.book.a9,iv g.1.book.bh,iv g.1.book.a5,N,O,P] 162)::(m,.cells #[iv 0,iv 0,iv 0,aw,aw] 32)::(C,.cells #[iv d.a9,iv d.bh,iv d.a5,L,M] 32)::H) [(7,(z,.cells #[iv g.1.book.a9,iv g.1.book.bh,iv g.1.book.a5,N,O,P] 162)::(m,.cells #[iv 0,iv 0,iv 0,aw,aw] 32)::H),(9,(z,.cells #[iv g.1.book.a9,iv g.1.book.bh,iv g.1.book.a5,N,O,P] 162)::(m,.cells #[iv 0,iv 0,iv 0,aw,aw] 32)::H)]) mixed rfl (by decide +kernel) rfl rfl ?_
 refine Any.vs 1 [0] rfl ?_
 refine ts 1 [2,5,6,7,8,9] rfl (aF rfl (aF rfl (aU (su (so (so sr)))))) (su (so (so sr))) (kX gU 3 z0) ?_
 refine Any.vs 1 [3] rfl ?_
 refine ts 4 [5,6,7,8,9] rfl (aF rfl (aF rfl (aU (su (so (so sr)))))) (su (so (so sr))) (kX eM 4 z0) ?_
 have ⟨a8,an,f⟩:=ae f
 refine Any.cv 2 CF (GX d.a4 D.rd an) ?_
 rintro ar aI _ ⟨I,_,ax,E,rfl,rfl⟩
 replace A:=A.mono I
 refine ⟨I,(bo rfl (su (az sr))),?_⟩
 refine Any.vs 1 [6] rfl ?_
 have ⟨ba,ao,f⟩:=ae f
 refine Any.cv 5 xG (ze d.aN A.rd ao) ?_
 rintro au aO _ ⟨J,_,Q,F,rfl,rfl⟩
 replace E:=E.mono J
 refine ⟨J,(bo rfl (su (az (az sr)))),?_⟩
 refine Any.on 7 rfl rfl (aJ.to (Ox.dE (cs':=#[_,_,_,_,_]) rfl rfl rfl gU E.one (.skip (.skip (.there (.there .here)))) rfl rfl rfl (.refl _) ⟨rr,(bo rfl (su (az (az (sk (sk (so sr))))))),?_⟩))
 refine Any.vs 1 [8] rfl ?_
 refine Any.on 9 rfl rfl (aJ.to (Ox.dE (cs':=#[_,_,_,_,_]) rfl rfl rfl eM F.one (.skip (.skip (.there (.there .here)))) rfl rfl rfl (.refl _) ⟨rr,(bo rfl (su (az (az (sk (sk (so sr))))))),?_⟩))
 refine Any.done ?_
 refine sg aM ?_
 refine U.s rfl rfl (Ox.bB (vs:=[_,_,_,_,_]) rfl rfl df rfl ((aK.box (bH _ (bH _ z2))).part (j:=0) (n:=5) rfl) rfl (.put rfl) ?_)
 refine bC (#[_,_,_,_,_]) df (.skip (.skip (.there .here))) ?_
 refine vs 1 ?_
 refine er ?_
 refine U.dg (H2:=Q++((z,_)::(m,_)::(C,_)::H)) (λ X=>Q++(X++((z,_)::(m,_)::(C,_)::H))) (.app .id) rfl E (λ aA S K=>?_)
 replace F:=F.mono S
 refine U.dg (H2:=(z,_)::(m,_)::(C,_)::H) (λ X=>X++((z,_)::(m,_)::(C,_)::H)) .id rfl F (λ aB T ag=>?_)
 replace K:=K.mono T
 cases av f
 exact rt func52 (.agg rfl df rfl (aK.box z1) (.tmp rfl .nil)) (so (so (so sr))) (V _ _ _ ⟨((((G.trans I).trans J).trans S).trans T),rfl,ar,au,K,ag,rfl⟩)
theorem Ht(f:bg)(x1:Int){I J:Value}(y:dX R)(m:ah dx 2 R I f.a4)(z:ah c0 5 R J f.aN){r:(bg × Int)}(d:pn f x1=some r):aL af 12 #[.agg #[iv f.a9,iv f.bh,iv f.a5,I,J],iv x1] R H (λ v R' H'=>aH R R'∧H=H'∧∃ L M,ah dx 2 R' L r.1.a4∧ah c0 5 R' M r.1.aN∧v = .tuple #[.agg #[iv r.1.a9,iv r.1.bh,iv r.1.a5,L,M],iv r.2]):=by
 unfold pn at d
 refine aY func12 42 λ fr cs A=>?_
 refine sg aM ?_
 refine bx λ E=>?_
 refine bu (#[iv 0,iv 0,iv 0,aw,aw]) qq λ F=>?_
 refine vs 1 ?_
 refine es ?_
 refine sg aM ?_
 refine lN [_,_,_,_,_] 0 5 df z1 ?_
 have ⟨aU,Y,d⟩:=ae d
 refine U.cv xF (zd f y m z Y) ?_
 rintro _ _ _ ⟨rfl,rfl,rfl⟩
 refine vs 1 ?_
 refine nx aC ?_
 refine vs 2 ?_
 refine er ?_
 refine sc d ?_ ?_<;>intro aJ d
 ·refine sg bb ?_
  refine cF (#[_,_,_,_,_]) r8 ?_
  refine vs 1 ?_
  refine bC (#[_,_,_,_,_]) df .here ?_
  refine vs 1 ?_
  refine er ?_
  cases av d
  exact rt func12 (.agg rfl df rfl (aK.box z0) (.tmp rfl .nil)) (so (so sr)) (A _ _ _ ⟨(rr),rfl,aw,aw,ah.nil,ah.nil,rfl⟩)
 refine sp ?_
 refine sq ?_
 refine sg bA ?_
 refine lN [_,_,_,_,_] 0 5 df z1 ?_
 refine cF (#[_,_,_,_,_]) qi ?_
 refine vs 1 ?_
 have ⟨aV,Z,d⟩:=ae d
 refine U.cv Eb (IZ (⟨f.a9,f.bh,f.a5,f.a4,f.aN⟩:bg) x1 m z Z) ?_
 rintro _ _ _ ⟨rfl,rfl,rfl⟩
 refine vs 1 ?_
 refine nx aC ?_
 refine vs 2 ?_
 refine er ?_
 refine sc d ?_ ?_<;>intro aO d
 ·refine sg bb ?_
  refine cF (#[_,_,_,_,_]) r8 ?_
  refine vs 1 ?_
  refine bC (#[_,_,_,_,_]) df .here ?_
  refine vs 1 ?_
  refine er ?_
  cases av d
  exact rt func12 (.agg rfl df rfl (aK.box z0) (.tmp rfl .nil)) (so (so sr)) (A _ _ _ ⟨(rr),rfl,aw,aw,ah.nil,ah.nil,rfl⟩)
 refine sp ?_
 refine sq ?_
 refine sg b4 ?_
 refine vs 1 ?_
 refine ld 4 eM z1 ?_
 refine vs 1 ?_
 have ⟨a1,aa,d⟩:=ae d
 obtain ⟨aA,aR,_,rfl,O,S⟩:=z.elem je aa
 refine bX S ?_
 refine vs 1 ?_
 refine U.ld eN (O.any.one (j:=4) rfl) ?_
 refine er ?_
 refine sc d ?_ ?_<;>intro aP d
 ·refine sg aM ?_
  refine cF (#[_,_,_,_,_]) r8 ?_
  refine bC (#[_,_,_,_,_]) df .here ?_
  refine vs 1 ?_
  refine er ?_
  cases av d
  exact rt func12 (.agg rfl df rfl (aK.box z0) (.tmp rfl .nil)) (so (so sr)) (A _ _ _ ⟨(rr),rfl,aw,aw,ah.nil,ah.nil,rfl⟩)
 refine sp ?_
 refine sg bA ?_
 refine vs 1 ?_
 refine ld 4 eM z1 ?_
 have ⟨ap,ab,d⟩:=ae d
 refine U.cv xG (ze f.aN z.rd ab) ?_
 rintro aT ax _ ⟨D,_,ar,G,rfl,rfl⟩
 replace m:=m.mono D
 replace y:=y.mono D
 refine vs 1 ?_
 refine U.s rfl rfl (Ox.dE (cs':=#[_,_,_,_,_]) rfl rfl rfl eM G.one (.skip (.there .here)) rfl rfl rfl (.refl _) ?_)
 refine nx b4 ?_
 refine vs 1 ?_
 refine ld 4 eM (bH _ z1) ?_
 refine vs 1 ?_
 have ⟨g,ac,d⟩:=ae d
 obtain ⟨aB,aF,_,rfl,rfl,aG,Q,T,aI,am,W⟩:=G.dI je ac
 refine bX T ?_
 refine vs 1 ?_
 refine U.s rfl rfl (Ox.dJ (K:=c0) (k:=5) (e:=48) (i:=x1) (x':=(⟨⟨g.U.aQ,g.U.aZ⟩,g.dS,g.cz,true⟩:eH)) (pre:=[iv g.U.aQ,iv g.U.aZ,iv g.dS,iv g.cz]) (mid:=[.bool g.dG]) (post:=[]) .id rfl rfl rfl rfl Ly rfl (aW rfl bl) Q rfl rfl rfl am W rfl rfl (.refl _) λ aq V=>?_)
 refine nx b4 ?_
 refine lN [_,_,_,_,_] 0 5 df (bH _ z1) ?_
 refine U.dg (H2:=(F,_)::(E,_)::H) (λ X=>X++((F,_)::(E,_)::H)) .id rfl V (λ au C P=>?_)
 replace m:=m.mono C
 replace y:=y.mono C
 have ⟨a2,ad,d⟩:=ae d
 refine U.cv Ec (I0 (⟨f.a9,f.bh,f.a5,f.a4,ap.set x1.toNat (⟨⟨g.U.aQ,g.U.aZ⟩,g.dS,g.cz,true⟩:eH)⟩:bg) y m P ad) ?_
 rintro _ az _ ⟨N,rfl,an,ao,ag,ak,rfl⟩
 refine vs 2 ?_
 refine bC (#[_,_,_,_,_]) df .here ?_
 refine vs 1 ?_
 refine er ?_
 cases av d
 exact rt func12 (.agg rfl df rfl (aK.box z0) (.tmp rfl .nil)) (so (so sr)) (A _ _ _ ⟨((D.trans C).trans N),rfl,an,ao,ag,ak,rfl⟩)
theorem rD(m:(List Int))(x1:Int){v0:Value}(f:bE (CI .u16) 1 R H v0 m){r:Int}(d:ll m x1=some r):aL af 53 #[v0,iv x1] R H (λ v R' H'=>R=R'∧H=H'∧v=iv r):=by
 unfold ll at d
 refine aY func53 14 λ fr cs g=>?_
 refine sg aB ?_
 refine vs 1 ?_
 refine es ?_
 refine sg bb ?_
 refine vs 2 ?_
 refine lr f underlying33 ?_
 refine vs 1 ?_
 refine er ?_
 refine sc d ?_ ?_<;>intro C d
 ·refine sg b4 ?_
  refine vs 2 ?_
  have ⟨E,z,d⟩:=ae d
  obtain ⟨A,D,_,rfl,s,y⟩:=f.elem AD z
  refine bX y ?_
  refine U.ld zP ((s.sub pp).one (j:=0) rfl) ?_
  refine hQ underlying159 underlying3 ?_
  refine vs 1 ?_
  refine er ?_
  cases av d
  exact rt func53 (.tmp rfl .nil) sr (g _ _ _ aG)
 refine sp ?_
 refine sg aB ?_
 refine vs 1 ?_
 refine er ?_
 cases av d
 exact rt func53 (.tmp rfl .nil) sr (g _ _ _ aG)
theorem HG(d:an)(x1:(List Int)){y z A v1:Value}(P:ah bz 5 R y d.ao)(_:ah CZ 1 R z d.Out)(_:ah bq 2 R A d.aV)(O:bE (CI .u16) 1 R H v1 x1){r:dq}(f:pq d x1=some r):aL af 13 #[.agg #[iv d.ax,iv d.ad.ai,iv d.ad.ak,y,z,A],v1] R H (λ v R' H'=>aH R R'∧H=H'∧∃ Z,ah CZ 1 R' Z r.eJ∧v = .agg #[iv r.ad,Z]):=by
 unfold pq at f
 refine aY func13 57 λ fr cs a1=>?_
 refine sg aC ?_
 refine bx λ m=>?_
 refine bu (#[iv 0,aw]) sm λ gN=>?_
 refine es ?_
 have ⟨bL,V,f⟩:=ae f
 have ⟨F,W,f⟩:=ae f
 refine U.cut (λ R' H' aa=>R=R'∧∃ (g:Nat),H'=(g,.cells #[iv (i64 (d.ad.ai+F)),aw] 53)::(gN,.cells #[iv 0,aw] 53)::(m,.cells #[iv d.ax,iv d.ad.ai,iv d.ad.ak,y,z,A] 28)::H∧aA aa [(1,v1),(2,pT m),(4,pT gN),(5,pT g)]) ?_ ?_
 ·rintro bk bg bI ⟨rfl,g,rfl,a6⟩
  refine U.sub a6 ?_
  refine sq ?_
  refine sg aB ?_
  refine vs 1 ?_
  refine er ?_
  refine U.aP ?_
  refine U.cQ f (λ (L:(Int × (List Int))) R' H' aa=>R=R'∧∃ D E,aX CZ 1 3 R' D L.2 E∧H'=E++((g,.cells #[iv (i64 (d.ad.ai+F)),D] 53)::(gN,.cells #[iv 0,aw] 53)::(m,.cells #[iv d.ax,iv d.ad.ai,iv d.ad.ak,y,z,A] 28)::H)∧aA aa [(1,v1),(2,pT m),(4,pT gN),(5,pT g),(6,iv L.1)]) (λ (Y:(List Int)) R' H' aa=>R=R'∧∃ M N,aX CZ 1 3 R' M Y N∧H'=N++((g,.cells #[iv (i64 (d.ad.ai+F)),M] 53)::(gN,.cells #[iv 0,aw] 53)::H)∧aA aa [(4,pT gN),(5,pT g)]) 0 rfl ⟨rfl,aw,[],aX.nil,rfl,aq b2⟩ ?_ ?_
  rotate_right
  ·rintro L bh be bF ⟨rfl,D,E,S,rfl,a4⟩ bM f ac am
   refine U.sub a4 ?_
   refine sq ?_
   refine sg bA ?_
   refine vs 2 ?_
   refine ld 3 cZ (bH _ z2) ?_
   refine ls P underlying24 ?_
   refine vs 1 ?_
   refine er ?_
   refine sc f ?_ ?_<;>intro bs f
   ·refine sp ?_
    refine sq ?_
    refine U.aP ?_
    refine sg cX ?_
    refine vs 1 ?_
    refine ld 3 cZ (bH _ z2) ?_
    refine vs 1 ?_
    have ⟨C,a7,f⟩:=ae f
    obtain ⟨bn,bD,_,⟨bJ,bv,rfl⟩,ar,aT⟩:=P.elem fQ a7
    refine bX aT ?_
    refine vs 1 ?_
    refine U.s rfl rfl (Ox.bB (vs:=[_,_]) rfl rfl cB rfl (ar.any.part (j:=2) (n:=2) rfl) rfl (.put rfl) ?_)
    refine bu (#[iv 0,iv 0]) fT λ G=>?_
    refine bC (#[_,_]) cB .here ?_
    refine er ?_
    refine U.draw (n:=20) (is:=[0,1,2,3,4,5,6,7,8,9,10,11,12,13,14,15,16,17,18,19]) (many ((G,.cells #[iv C.Weight.ai,iv C.Weight.ak] 23)::E++((g,.cells #[iv (i64 (d.ad.ai+F)),D] 53)::(gN,.cells #[iv 0,aw] 53)::(m,.cells #[iv d.ax,iv d.ad.ai,iv d.ad.ak,y,z,A] 28)::H)) [(17,(G,.cells #[iv C.Weight.ai,iv C.Weight.ak] 23)::(g,.cells #[iv (i64 (d.ad.ai+F)),D] 53)::(gN,.cells #[iv 0,aw] 53)::(m,.cells #[iv d.ax,iv d.ad.ai,iv d.ad.ak,y,z,A] 28)::H),(19,(G,.cells #[iv C.Weight.ai,iv C.Weight.ak] 23)::(gN,.cells #[iv 0,aw] 53)::(m,.cells #[iv d.ax,iv d.ad.ai,iv d.ad.ak,y,z,A] 28)::H)]) mixed rfl (by decide +kernel) rfl rfl ?_
    refine Any.vs 1 [0] rfl ?_
    refine ts 1 [17,18,19] rfl (aF rfl (aF rfl (aU (su (so (az (sk (so (so sr))))))))) (su (so (az (sk (so (so sr)))))) (kX cb 1 z0) ?_
    refine Any.vs 1 [2] rfl ?_
    refine ts 3 [15,16,17,18,19] rfl (aF rfl (aF rfl (aU (su (sk (az (so (so (so sr))))))))) (su (sk (az (so (so (so sr)))))) (kX aI 0 z0) ?_
    refine Any.vs 4 [4,5,6,8] rfl ?_
    refine ts 9 [12,13,14,15,16,17,18,19] rfl (aF rfl (aF rfl (aU (su (sk (az (so (so (so sr))))))))) (su (sk (az (so (so (so sr)))))) (kX aI 1 z0) ?_
    refine Any.vs 1 [10] rfl ?_
    refine ts 11 [12,13,14,15,16,17,18,19] rfl (aF rfl (aF rfl (aU (su (sk (az (so (so (so sr))))))))) (su (sk (az (so (so (so sr)))))) (kX aI 0 z0) ?_
    refine Any.vs 2 [12,13] rfl ?_
    have ⟨bN,a8,f⟩:=ae f
    refine Any.cv 7 q3 (rD x1 (i64 (1+L.1)) (O.sub (su (so (az (so (so (so sr))))))) a8) ?_
    rintro _ _ _ ⟨rfl,rfl,rfl⟩
    refine ⟨rr,(bo rfl pp),?_⟩
    have ⟨bd,a9,f⟩:=ae f
    refine ts 14 [15,16,17,18,19] rfl (aF rfl (aF rfl (aU (su (so (az (so (so (so sr))))))))) (su (so (az (so (so (so sr)))))) (λ R' H' I J=>Ox.rem rfl rfl rfl a9 rfl (.one rfl) aG) ?_
    refine Any.vs 1 [15] rfl ?_
    refine Any.on 16 rfl rfl (aJ.to (Ox.buildSlice (cells:=#[_]) rfl cw rfl (by decide) c7 (ca rfl rfl rfl rfl cE) rfl λ ag _ _=>⟨_,(.put rfl),⟨rr,(bo rfl (su (so sr))),?_⟩⟩))
    have ⟨bO,ba,f⟩:=ae f
    refine Any.on 17 rfl rfl (aJ.to (Ox.append (K:=CZ) (λ X=>(ag,_)::(G,_)::X++((g,_)::(gN,_)::(m,_)::H)) rfl rfl rfl eh underlying25 (by simp) (.cons (.cons .id)) S (e4.lit z0 (aO.le (aO.cons (x:=i64 (C.Weight.ai+bd)) rfl rfl aO.nil) rfl) rfl) ba rfl λ bb ab T=>⟨_,(.put rfl),⟨rr,(bo rfl (su (so (sk (az sr))))),?_⟩⟩))
    refine Any.vs 1 [18] rfl ?_
    refine Any.on 19 rfl rfl (aJ.to (Ox.dE (cs':=#[_,_]) rfl rfl rfl cb T.one (.there (.there (.skip .here))) rfl rfl rfl (.refl _) ⟨rr,(bo rfl (su (so (sk (az (so sr)))))),?_⟩))
    refine Any.done ?_
    refine U.a0 ?_
    refine U.rg aM ?_
    refine vs 3 ?_
    refine er ?_
    exact U.aR (so (so sr)) (ac _ (au f) _ _ _ ⟨rfl,bb,ab,T,rfl,aq b2⟩)
   exact U.bw rfl (U.aR (dm (sk (sk (so sr)))) (am _ (au f) _ _ _ ⟨rfl,D,E,S,rfl,aq cg⟩))
  rintro Y bi bf bG ⟨rfl,M,N,a2,rfl,a5⟩ f
  refine U.sub a5 ?_
  refine sg aC ?_
  refine lN [_,_] 0 2 jl (bH _ z0) ?_
  refine bC (#[_,_]) jl (.skip (.there .here)) ?_
  refine er ?_
  refine U.dg (H2:=(g,_)::(gN,_)::H) (λ X=>X++((g,_)::(gN,_)::H)) .id rfl a2 (λ bm ap aN=>?_)
  cases av f
  exact rt func13 (.agg rfl jl rfl (aK.box z1) .nil) (so (so sr)) (a1 _ _ _ ⟨ap,rfl,M,aN,rfl⟩)
 intro Q
 refine U.dw rY mixed ?_
 refine Any.vs 2 [0,1] rfl ?_
 refine tl 2 1 aI z1 ?_
 refine Any.vs 3 [3,5,6] rfl ?_
 refine tl 7 2 aI z1 ?_
 refine Any.vs 2 [8,9] rfl ?_
 refine tl 10 1 aI z1 ?_
 refine Any.vs 2 [11,12] rfl ?_
 refine tw 4 16 ?_ ?_
 ·refine  (Ox.b5 rfl rfl rfl rfl q3 rfl rfl ((rD x1 0 (O.sub (su (so (so sr)))) V).mono ?_))
  rintro _ _ _ ⟨rfl,rfl,rfl⟩
  refine ⟨_,(.put rfl),⟨rr,ka,?_⟩⟩
  refine Any.tk 13 rfl pp (λ R' H' I J=>Ox.rem rfl rfl rfl W rfl (.one rfl) aG) ?_
  refine Any.vs 1 [14] rfl ?_
  refine Any.tk 15 rfl pp (λ R' H' I J=>Ox.build (cells:=#[_,_]) rfl vw rfl (ca rfl rfl rfl rfl cE) rfl (.one rfl) aG) ?_
  refine Any.on 16 rfl rfl (aJ.to (Ox.alloc (cs:=#[iv 0,aw]) rfl sm rfl λ g _ _=>⟨_,(.put rfl),⟨rr,(ku (so sr)),?_⟩⟩))
  refine Any.on 17 rfl rfl (aJ.to (Ox.cG (cs':=#[_,_]) rfl rfl rfl jl rfl (aW rfl (aW rfl bl)) .here rfl rfl rfl (.refl _) ⟨rr,(ku (so sr)),?_⟩))
  exact Any.done (Q _ _ _ ⟨rfl,g,rfl,aq bt⟩)
 refine  (aJ.to (Ox.alloc (cs:=#[iv 0,aw]) rfl sm rfl λ g _ _=>⟨_,(.put rfl),⟨rr,(ku (so sr)),?_⟩⟩))
 refine Any.cv 4 q3 (rD x1 0 (O.sub (su (so (so (so sr))))) V) ?_
 rintro _ _ _ ⟨rfl,rfl,rfl⟩
 refine ⟨rr,(ku (so sr)),?_⟩
 refine Any.tk 13 rfl (su (so sr)) (λ R' H' I J=>Ox.rem rfl rfl rfl W rfl (.one rfl) aG) ?_
 refine Any.vs 1 [14] rfl ?_
 refine Any.tk 15 rfl (su (so sr)) (λ R' H' I J=>Ox.build (cells:=#[_,_]) rfl vw rfl (ca rfl rfl rfl rfl cE) rfl (.one rfl) aG) ?_
 refine Any.on 17 rfl rfl (aJ.to (Ox.cG (cs':=#[_,_]) rfl rfl rfl jl rfl (aW rfl (aW rfl bl)) .here rfl rfl rfl (.refl _) ⟨rr,(ku (so sr)),?_⟩))
 exact Any.done (Q _ _ _ ⟨rfl,g,rfl,aq bt⟩)
theorem zg(f:an)(x1:dq)(x2:(List Int)){m s y z v2:Value}(D:ah bz 5 R m f.ao)(_:ah CZ 1 R s f.Out)(_:ah bq 2 R y f.aV)(G:ah CZ 1 R z x1.eJ)(I:bE CZ 1 R H v2 x2){r:Int}(d:n4 f x1 x2=some r):aL af 54 #[.agg #[iv f.ax,iv f.ad.ai,iv f.ad.ak,m,s,y],.agg #[iv x1.ad,z],v2] R H (λ v R' H'=>R=R'∧H=H'∧v=iv r):=by
 unfold n4 at d
 refine aY func54 37 λ fr cs N=>?_
 refine sg aM ?_
 refine bx λ fX=>?_
 refine bx λ C=>?_
 refine vs 1 ?_
 refine nx aM ?_
 refine vs 1 ?_
 refine ld 0 aI z0 ?_
 refine vs 1 ?_
 refine es ?_
 refine sg aB ?_
 refine vs 1 ?_
 refine er ?_
 refine U.aP ?_
 refine U.cQ d (λ (g:(Int × Int)) R' H' aa=>R=R'∧H'=(C,.cells #[iv x1.ad,z] 53)::(fX,.cells #[iv f.ax,iv f.ad.ai,iv f.ad.ak,m,s,y] 28)::H∧aA aa [(2,v2),(3,pT fX),(4,pT C),(7,iv g.1),(8,iv g.2)]) (λ (E:Int) R' H' aa=>R=R'∧H=H'∧aA aa [(7,iv E)]) 0 rfl ⟨rfl,rfl,aq b2⟩ ?_ ?_
 rotate_right
 ·rintro g Y V aH ⟨rfl,rfl,O⟩ aN d A F
  refine U.sub O ?_
  refine sq ?_
  refine sg bA ?_
  refine vs 2 ?_
  refine ld 3 cZ z1 ?_
  refine ls D underlying24 ?_
  refine vs 1 ?_
  refine er ?_
  refine sc d ?_ ?_<;>intro ap d
  ·refine sp ?_
   refine sq ?_
   refine U.aP ?_
   refine sg bb ?_
   refine vs 2 ?_
   have ⟨aO,Q,d⟩:=ae d
   refine U.cv kF (kR x2 g.2 (I.sub (su (so (so sr)))) Q) ?_
   rintro _ _ _ ⟨rfl,rfl,rfl⟩
   refine vs 1 ?_
   refine er ?_
   refine sc d ?_ ?_<;>intro ar d
   ·refine U.dw kq mixed ?_
    refine Any.vs 2 [0,1] rfl ?_
    refine tl 2 3 cZ z1 ?_
    refine Any.vs 1 [3] rfl ?_
    have ⟨aT,S,d⟩:=ae d
    have ⟨aU,T,d⟩:=ae d
    obtain ⟨ab,az,_,⟨aK,aw,rfl⟩,J,L⟩:=D.elem fQ S
    refine tQ 4 rfl (kI L) ?_
    refine Any.vs 1 [5] rfl ?_
    refine tQ 6 rfl (kU aI 1 J) ?_
    refine Any.vs 1 [7] rfl ?_
    refine tl 8 1 cb z0 ?_
    refine Any.vs 1 [9] rfl ?_
    obtain ⟨ac,aF,_,rfl,K,M⟩:=G.elem bd T
    refine tQ 10 rfl (kI M) ?_
    refine tQ 11 rfl (kU aI 0 K) ?_
    refine Any.vs 3 [12,13,14] rfl ?_
    refine Any.done ?_
    refine U.a0 ?_
    refine U.rg aM ?_
    refine vs 3 ?_
    refine er ?_
    exact A _ (au d) _ _ _ ⟨rfl,rfl,aq b2⟩
   refine sp ?_
   refine U.a0 ?_
   refine U.rg aM ?_
   refine vs 3 ?_
   refine er ?_
   exact A _ (au d) _ _ _ ⟨rfl,rfl,aq b2⟩
  exact U.bw rfl (U.aR (so (so sr)) (F _ (au d) _ _ _ ⟨rfl,rfl,aq eD⟩))
 rintro E Z W aJ ⟨rfl,rfl,P⟩ d
 refine U.sub P ?_
 refine sg aC ?_
 refine vs 2 ?_
 refine er ?_
 cases av d
 exact rt func54 (.tmp rfl .nil) sr (N _ _ _ aG)
theorem I2(g:Int)  {r:Int} (d:pM g=some r):aL af 55 #[iv g] R H (λ v R' H'=>R=R'∧H=H'∧v=iv r):=by
 unfold pM at d
 refine aY func55 7 λ fr cs f=>?_
 refine sg aB ?_
 refine vs 1 ?_
 refine es ?_
 refine sg aC ?_
 refine vs 2 ?_
 refine er ?_
 refine sc d ?_ ?_<;>intro m d
 ·refine sg aB ?_
  refine vs 1 ?_
  refine er ?_
  cases av d
  exact rt func55 (.tmp rfl .nil) sr (f _ _ _ aG)
 refine sp ?_
 refine sq ?_
 refine sg aC ?_
 refine vs 2 ?_
 refine er ?_
 refine sc d ?_ ?_<;>intro s d
 ·refine sg aB ?_
  refine vs 1 ?_
  refine er ?_
  cases av d
  exact rt func55 (.tmp rfl .nil) sr (f _ _ _ aG)
 refine sp ?_
 refine sg aB ?_
 refine vs 1 ?_
 refine er ?_
 cases av d
 exact rt func55 (.tmp rfl .nil) sr (f _ _ _ aG)
end
end Go.Proofs.YtoaoffinglajbaaGreatDoor
