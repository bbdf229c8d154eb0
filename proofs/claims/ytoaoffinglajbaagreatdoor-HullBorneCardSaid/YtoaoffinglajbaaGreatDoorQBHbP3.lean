/- Walks, part 3: each function computes its model. -/
import Derived.Test.YtoaoffinglajbaaGreatDoorQBHbP2
namespace Go.Proofs.YtoaoffinglajbaaGreatDoor
open Go.Lg Go.Proofs Tryz
set_option maxRecDepth 100000
set_option maxHeartbeats 4000000
section
variable {B:Base} {main:Bool} {af:Jd prog B main} {R:ay} {H:aj}
theorem yS(f:an)(x1:bm){J K L:Value}(C:ah bz 5 R J f.ao)(m:ah CZ 1 R K f.Out)(A:ah bq 2 R L f.aV)(F:x1.weights.length=5){r:Bool}(d:kO f x1=some r):aL af 110 #[.agg #[iv f.ax,iv f.ad.ai,iv f.ad.ak,J,K,L],.agg (List.toArray ([iv x1.eb]++(x1.weights.map (Value.int .i64)++[])))] R H (λ v R' H'=>aH R R'∧H=H'∧v = .bool r):=by
 unfold kO at d
 refine aY func110 36 λ fr cs Q=>?_
 refine sg aM ?_
 refine bx λ nh=>?_
 refine bx λ G=>?_
 refine vs 1 ?_
 refine es ?_
 refine sg b4 ?_
 refine vs 2 ?_
 refine ld 4 cb z1 ?_
 refine ls m underlying25 ?_
 refine vs 2 ?_
 refine er ?_
 refine U.aP ?_
 refine U.dy d (λ (D:Int) R' H' aa=>aH R R'∧H'=(G,.cells (List.toArray ([iv x1.eb]++(x1.weights.map (Value.int .i64)++[]))) 118)::(nh,.cells #[iv f.ax,iv f.ad.ai,iv f.ad.ak,J,K,L] 115)::H∧aA aa [(2,pT nh),(3,pT G),(11,iv (i64 ((f.Out.length:Int)+1))),(12,iv D)]) (λ (ba:Unit) R' H' aa=>aH R R'∧H=H'∧aA aa []) 0 rfl ⟨rr,rfl,aq bt⟩ ?_ ?_
 rotate_right
 ·rintro D ap bb bo ⟨E,rfl,a2⟩ bD d ar aw ag
  refine U.sub a2 ?_
  have ⟨C,m,A⟩:=cH E C m A
  refine sg aB ?_
  refine vs 1 ?_
  refine es ?_
  refine sc d ?_ ?_<;>intro bn d
  ·refine sp ?_
   refine sq ?_
   refine U.aP ?_
   refine sg aM ?_
   refine vs 1 ?_
   refine bu (#[iv 0]) iw λ W=>?_
   refine eC (#[_]) aI .here ?_
   refine es ?_
   have ⟨am,a9,d⟩:=ae d
   have ⟨V,ac,d⟩:=ae d
   have ⟨M,T,d⟩:=ae d
   refine U.cut (λ R' H' aa=>ap=R'∧∃ (g:Nat),H'=(g,.cells #[iv M] 3)::(W,.cells #[iv D] 3)::(G,.cells (List.toArray ([iv x1.eb]++(x1.weights.map (Value.int .i64)++[]))) 118)::(nh,.cells #[iv f.ax,iv f.ad.ai,iv f.ad.ak,J,K,L] 115)::H∧aA aa [(2,pT nh),(3,pT G),(5,pT W),(6,pT g),(11,iv (i64 ((f.Out.length:Int)+1))),(12,iv D)]) ?_ ?_
   ·rintro bh bf bs ⟨rfl,g,rfl,a5⟩
    refine U.sub a5 ?_
    refine sg fz ?_
    refine lN [_,_,_,_,_,_] 0 6 dA z3 ?_
    refine ld 0 aI z0 ?_
    have ⟨bA,a6,d⟩:=ae d
    refine U.cv tE (uK f M C m A a6) ?_
    rintro _ _ _ ⟨rfl,rfl,rfl⟩
    refine vs 1 ?_
    refine a8 d (λ S d=>?_) (λ S d=>?_)
    ·refine U.kn 28 S ?_
     refine vs 6 ?_
     refine er ?_
     refine U.cond_true rfl ?_
     refine sg aB ?_
     refine vs 1 ?_
     refine er ?_
     replace d:=ag _ (au d)
     cases av d
     exact rt func110 (.tmp rfl .nil) (so (so (so (so sr)))) (Q _ _ _ ⟨E,br⟩)
    refine U.kn 28 S ?_
    refine vs 2 ?_
    refine ld 5 ei z3 ?_
    refine U.s rfl rfl (Ox.makeFunc (vs:=#[]) (us:=#[_,_]) rfl rfl rfl rfl (.put rfl) ?_)
    have ⟨bC,a7,d⟩:=ae d
    refine U.cv C1 (Hn f.aV (λ y=>kS y D M) A.rd ⟨127,#[],#[_,_],rfl,C2,λ R' H' N Y y r va aO a1=>by obtain ⟨_,rfl,rfl⟩:=aO; exact (Ho y D M (aK.box (Y _ z1)) (aK.box (Y _ z0)) a1).mono λ _ _ _ ⟨az,aF,aN⟩=>⟨az ▸ rr,aF.symm,aN⟩⟩ a7) ?_
    rintro _ bi _ ⟨Z,rfl,rfl⟩
    refine vs 1 ?_
    refine er ?_
    refine sc d ?_ ?_<;>intro bk d
    ·refine sg aB ?_
     refine vs 1 ?_
     refine er ?_
     replace d:=ag _ (au d)
     cases av d
     exact rt func110 (.tmp rfl .nil) (so (so (so (so sr)))) (Q _ _ _ ⟨(E.trans Z),br⟩)
    refine sp ?_
    refine U.a0 ?_
    refine U.rg aC ?_
    refine vs 2 ?_
    refine er ?_
    exact U.aR (so (so sr)) (ar _ (au d) _ _ _ ⟨(E.trans Z),rfl,aq bt⟩)
   intro P
   refine U.dw gW mixed ?_
   refine tN 0 [_,_,_,_,_,_] 0 6 dA z2 ?_
   refine Any.tk 1 rfl pp (λ R' H' N O=>Ox.bB (vs:=_) rfl rfl dT (by simp [F]) ((aK.box (O _ z1)).part (j:=0) (n:=6) (dd (by simp [F]))) rfl (.one rfl) aG) ?_
   refine Any.tk 2 rfl pp (λ R' H' N O=>Ox.iG (z:=(bW [false,false,false,false,false])) rfl iE rfl (.one rfl) aG) ?_
   refine Any.vs 2 [3,4] rfl ?_
   refine tl 5 4 cb z2 ?_
   refine tl 6 0 aI z0 ?_
   obtain ⟨bv,ab,aU⟩:=m.cut bd a9
   refine Any.tk 7 rfl pp (λ R' H' N O=>Ox.l1 rfl rfl rfl rfl aU rfl (.one rfl) aG) ?_
   refine tw 8 10 ?_ ?_
   ·refine  (Ox.b5 rfl rfl rfl rfl eK rfl rfl ((eL [false,false,false,false,false] am rfl ab.rd ac).mono ?_))
    rintro _ _ _ ⟨rfl,rfl,I,rfl⟩
    refine ⟨_,(.put rfl),⟨rr,ka,?_⟩⟩
    refine tw 9 10 ?_ ?_
    ·refine  (Ox.b5 rfl rfl rfl rfl kG rfl rfl ((ln f x1 V C m A F I T).mono ?_))
     rintro _ _ _ ⟨rfl,rfl,rfl⟩
     refine ⟨_,(.put rfl),⟨rr,ka,?_⟩⟩
     refine Any.on 10 rfl rfl (aJ.to (Ox.alloc (cs:=#[iv 0]) rfl iw rfl λ g _ _=>⟨_,(.put rfl),⟨rr,(ku (so sr)),?_⟩⟩))
     refine oS 11 #[_] aI .here (ku (so sr)) ?_
     exact Any.done (P _ _ _ ⟨rfl,g,rfl,aq cS⟩)
    refine  (aJ.to (Ox.alloc (cs:=#[iv 0]) rfl iw rfl λ g _ _=>⟨_,(.put rfl),⟨rr,(ku (so sr)),?_⟩⟩))
    refine Any.cv 9 kG (ln f x1 V C m A F I T) ?_
    rintro _ _ _ ⟨rfl,rfl,rfl⟩
    refine ⟨rr,(ku (so sr)),?_⟩
    refine oS 11 #[_] aI .here (ku (so sr)) ?_
    exact Any.done (P _ _ _ ⟨rfl,g,rfl,aq cS⟩)
   refine  (aJ.to (Ox.alloc (cs:=#[iv 0]) rfl iw rfl λ g _ _=>⟨_,(.put rfl),⟨rr,(ku (so sr)),?_⟩⟩))
   refine Any.cv 8 eK (eL [false,false,false,false,false] am rfl ab.rd ac) ?_
   rintro _ _ _ ⟨rfl,rfl,I,rfl⟩
   refine ⟨rr,(ku (so sr)),?_⟩
   refine Any.cv 9 kG (ln f x1 V C m A F I T) ?_
   rintro _ _ _ ⟨rfl,rfl,rfl⟩
   refine ⟨rr,(ku (so sr)),?_⟩
   refine oS 11 #[_] aI .here (ku (so sr)) ?_
   exact Any.done (P _ _ _ ⟨rfl,g,rfl,aq cS⟩)
  exact U.bw rfl (U.aR (so (so sr)) (aw _ (au d) _ _ _ ⟨E,rfl,cV.sub trivial⟩))
 rintro ba bg be bp ⟨aT,rfl,a4⟩ d
 refine U.sub a4 ?_
 refine sg aB ?_
 refine vs 1 ?_
 refine er ?_
 cases av d
 exact rt func110 (.tmp rfl .nil) sr (Q _ _ _ ⟨aT,br⟩)
theorem G6{S:Type}{ys:bm→S→Option (S × Bool)}{a5:Value}(k:Nat):∀ {Inv:S→ay→aj→Prop} {R:ay} {Hy:aj} (_:eI af R (eT eA) a5 ys Inv) (E:bm) (x1:Int) (x2:an) {W:S} (_:Inv W R Hy) {Y Z ab:Value} {N O M:Nat} (_:E.weights.length=5) (_:aK R [] N 0 [iv x2.ax,iv x2.ad.ai,iv x2.ad.ak,Y,Z,ab]) (_:ah bz 5 R Y x2.ao) (_:ah CZ 1 R Z x2.Out) (_:ah bq 2 R ab x2.aV) (_:aK R [] O 0 [a5]) (_:aK R [] M 0 [.func (.func 109) #[] #[pT N,pT O,pT M]]) {r:(S × Bool)} (_:iQ ys k E x1 x2 W=some r),aL af 109 #[.agg (List.toArray ([iv E.eb]++(E.weights.map (Value.int .i64)++[]))),iv x1,pT N,pT O,pT M] R Hy (λ v R' H'=>aH R R'∧Inv r.1 R' H'∧v = .bool r.2):=by
 induction k with
 | zero=>intro Inv R Hy f E x1 x2 W F Y Z ab N O M D m g y z A I r d; exact absurd d (by simp [iQ])
 | succ k bs =>
  intro Inv R Hy f E x1 x2 W F Y Z ab N O M D m g y z A I r d
  rw [iQ] at d
  refine aY func109 50 λ fr cs ar=>?_
  refine sg aC ?_
  refine bx λ L=>?_
  refine vs 1 ?_
  refine es ?_
  refine sg b4 ?_
  refine vs 3 ?_
  refine U.ld cZ (m.any.one (j:=3) rfl) ?_
  refine ls g underlying24 ?_
  refine vs 1 ?_
  refine er ?_
  refine sc d ?_ ?_<;>intro bN d
  ·refine sq ?_
   refine U.da d (λ (aF:(S × Bool)) R' H' aa=>aH R R'∧∃ ac,Inv aF.1 R' ac∧ac=H'∧aA aa [(7,.bool aF.2)])  ?_ ?_
   rotate_right
   ·intro bY d aN
    have ⟨b1,a2,d⟩:=ae d
    refine a8 d (λ aw d=>?_) (λ aw d=>?_)
    ·refine U.rg fz ?_
     refine U.s rfl rfl (Ox.bB (vs:=[_,_,_,_,_,_]) rfl rfl dA rfl (m.any.part (j:=0) (n:=6) rfl) rfl (.put rfl) ?_)
     refine U.s rfl rfl (Ox.bB (vs:=_) rfl rfl dT (by simp [D]) ((aK.box z0).part (j:=0) (n:=6) (dd (by simp [D]))) rfl (.put rfl) ?_)
     refine U.cv xu (yS x2 E g y z D a2) ?_
     rintro _ a7 _ ⟨C,rfl,rfl⟩
     have ⟨g,y,z⟩:=cH C g y z
     replace F:=f.mono (rr) C F
     replace m:=m.up (H:=[]) C
     replace A:=A.up (H:=[]) C
     replace f:=f.up C
     refine vs 2 ?_
     refine U.kn 20 aw ?_
     refine vs 5 ?_
     refine er ?_
     exact U.aR (so sr) (aN _ (au d) _ _ _ ⟨C,Hy,F,rfl,aq eD⟩)
    have ⟨b3,bo,d⟩:=ae d
    refine U.rg fz ?_
    refine U.s rfl rfl (Ox.bB (vs:=[_,_,_,_,_,_]) rfl rfl dA rfl (m.any.part (j:=0) (n:=6) rfl) rfl (.put rfl) ?_)
    refine U.s rfl rfl (Ox.bB (vs:=_) rfl rfl dT (by simp [D]) ((aK.box z0).part (j:=0) (n:=6) (dd (by simp [D]))) rfl (.put rfl) ?_)
    refine U.cv xu (yS x2 E g y z D a2) ?_
    rintro _ a7 _ ⟨C,rfl,rfl⟩
    have ⟨g,y,z⟩:=cH C g y z
    replace F:=f.mono (rr) C F
    replace m:=m.up (H:=[]) C
    replace A:=A.up (H:=[]) C
    replace f:=f.up C
    refine vs 2 ?_
    refine U.kn 20 aw ?_
    refine U.ld J7 (A.any.one (j:=0) rfl) ?_
    refine U.s rfl rfl (Ox.bB (vs:=_) rfl rfl dT (by simp [D]) ((aK.box z0).part (j:=0) (n:=6) (dd (by simp [D]))) rfl (.put rfl) ?_)
    refine U.qg rfl rfl rfl rfl rfl rfl rfl rfl ((f.call [(L,_)] (rr) F ⟨_,rfl,⟨D,rfl⟩⟩ bo).mono ?_)
    rintro _ bJ _ ⟨P,rfl,aG,bf,am⟩
    replace am:_=(L,_)::aG:=am
    subst am
    have ⟨g,y,z⟩:=cH P g y z
    replace m:=m.up (H:=[]) P
    replace A:=A.up (H:=[]) P
    replace f:=f.up P
    refine ⟨_,(.put rfl),?_⟩
    refine vs 2 ?_
    refine er ?_
    exact U.aR (so sr) (aN _ (au d) _ _ _ ⟨(C.trans P),aG,bf,rfl,aq eD⟩)
   rintro aF bG bv bT ⟨aU,ac,bd,rfl,bi⟩ d
   refine U.sub bi ?_
   replace f:=f.up aU
   cases av d
   exact rt func109 (.tmp rfl .nil) sr (ar _ _ _ ⟨aU,bd,rfl⟩)
  refine sp ?_
  refine sq ?_
  have ⟨a6,bp,d⟩:=ae d
  refine U.rg dW ?_
  refine vs 2 ?_
  refine U.ld cZ (m.any.one (j:=3) rfl) ?_
  refine vs 1 ?_
  obtain ⟨bM,bS,_,⟨bW,bQ,rfl⟩,bg,bh⟩:=g.elem fQ bp
  refine bX bh ?_
  refine vs 1 ?_
  refine U.s rfl rfl (Ox.bB (vs:=[_,_]) rfl rfl cB rfl (bg.any.part (j:=2) (n:=2) rfl) rfl (.put rfl) ?_)
  refine bu (#[iv 0,iv 0]) fT λ V=>?_
  refine bC (#[_,_]) cB .here ?_
  refine es ?_
  refine sg aM ?_
  refine vs 1 ?_
  refine ld 0 aI z0 ?_
  refine vs 1 ?_
  refine er ?_
  refine U.aP ?_
  refine U.dy d (λ (K:(S × Int × (List Int))) R' H' aa=>aH R R'∧∃ T,Inv K.1 R' T∧K.2.2.length=5∧H'=(V,.cells #[iv a6.Weight.ai,iv a6.Weight.ak] 23)::(L,.cells (List.toArray ([iv E.eb]++(K.2.2.map (Value.int .i64)++[]))) 118)::T∧aA aa [(1,iv x1),(4,pT M),(5,pT L),(8,pT V),(9,iv K.2.1)]) (λ (a4:S) R' H' aa=>aH R R'∧∃ ag,Inv a4 R' ag∧ag=H'∧aA aa []) 0 rfl ⟨rr,Hy,F,D,rfl,aq b2⟩ ?_ ?_
  rotate_right
  ·rintro K bH bD bU ⟨G,T,aO,Q,rfl,bk⟩ b6 d a9 ba bt
   refine U.sub bk ?_
   have ⟨g,y,z⟩:=cH G g y z
   replace m:=m.up (H:=[]) G
   replace A:=A.up (H:=[]) G
   replace I:=I.up (H:=[]) G
   replace f:=f.up G
   refine sq ?_
   refine sg bb ?_
   refine vs 2 ?_
   refine ld 1 aI z0 ?_
   refine vs 1 ?_
   refine er ?_
   refine sc d ?_ ?_<;>intro bO d
   ·refine sp ?_
    refine sq ?_
    refine U.aP ?_
    refine sq ?_
    have ⟨b7,az,d⟩:=ae d
    refine U.rg bA ?_
    refine vs 3 ?_
    refine bX (h6 oU Q az) ?_
    refine U.s rfl rfl (Ox.dE rfl rfl rfl aI rfl (.there .here) (qC az rfl) (qD az rfl) rfl (.refl _) ?_)
    refine es ?_
    have ⟨b8,br,d⟩:=ae d
    refine U.rg b4 ?_
    refine U.ld u6 (I.any.one (j:=0) rfl) ?_
    refine U.s rfl rfl (Ox.bB (vs:=_) rfl rfl dT (by simp [Q]) ((aK.box z1).part (j:=0) (n:=6) (dd (by simp [Q]))) rfl (.put rfl) ?_)
    refine vs 2 ?_
    refine U.step rfl rfl rfl (Ox.b5 rfl rfl rfl rfl xt rfl rfl ((bs (f.frame [(V,_),(L,_)]) (⟨E.eb,K.2.2.set x1.toNat K.2.1⟩:bm) (i64 (x1+1)) x2 ⟨_,aO,rfl⟩ ((List.length_set).trans Q) m.any g y z A I br).mono ?_))
    rintro _ bL _ ⟨J,⟨aJ,aT,ap⟩,rfl⟩
    replace ap:_=(V,_)::(L,_)::aJ:=ap
    subst ap
    have ⟨g,y,z⟩:=cH J g y z
    replace m:=m.up (H:=[]) J
    replace A:=A.up (H:=[]) J
    replace I:=I.up (H:=[]) J
    replace f:=f.up J
    refine ⟨_,(.put rfl),?_⟩
    refine vs 1 ?_
    refine er ?_
    refine sc d ?_ ?_<;>intro bP d
    ·refine sg aB ?_
     refine vs 1 ?_
     refine er ?_
     replace d:=bt _ (au d)
     cases av d
     exact rt func109 (.tmp rfl .nil) (so (so sr)) (ar _ _ _ ⟨(G.trans J),aT,rfl⟩)
    refine sp ?_
    refine U.a0 ?_
    refine U.rg aM ?_
    refine vs 3 ?_
    refine er ?_
    exact a9 _ (au d) _ _ _ ⟨(G.trans J),aJ,aT,((List.length_set).trans Q),rfl,aq b2⟩
   exact U.bw rfl (U.aR (so (so sr)) (ba _ (au d) _ _ _ ⟨G,T,aO,rfl,cV.sub trivial⟩))
  rintro a4 bI bF bV ⟨a1,ag,be,rfl,bn⟩ d
  refine U.sub bn ?_
  replace f:=f.up a1
  refine sg aB ?_
  refine vs 1 ?_
  refine er ?_
  cases av d
  exact rt func109 (.tmp rfl .nil) sr (ar _ _ _ ⟨a1,be,rfl⟩)
theorem uI{S:Type}{ys:bm→S→Option (S × Bool)}{az:Value}{Inv:S→ay→aj→Prop}{R:ay}{Hy:aj}(d:eI af R (eT eA) az ys Inv)(C:an){am:S}(D:Inv am R Hy){ap ar aw:Value}(m:ah bz 5 R ap C.ao)(y:ah CZ 1 R ar C.Out)(z:ah bq 2 R aw C.aV){r:S}(f:hN ys C am=some r):aL af 68 #[.agg #[iv C.ax,iv C.ad.ai,iv C.ad.ak,ap,ar,aw],az] R Hy (λ v R' H'=>aH R R'∧Inv r R' H'∧v = .tuple #[]):=by
 unfold hN at f
 refine aY func68 24 λ fr cs ac=>?_
 refine sg aC ?_
 refine bx λ aG=>?_
 refine U.s rfl rfl (Ox.iF rfl rfl d.cells rfl λ W _ _=>⟨_,(.put rfl),?_⟩)
 refine nx aB ?_
 refine bu (#[.nilFunc]) Mv λ L=>?_
 refine nx aC ?_
 refine U.s rfl rfl (Ox.makeFunc (vs:=#[]) (us:=#[_,_,_]) rfl rfl rfl rfl (.put rfl) ?_)
 refine eC (#[_]) u6 .here ?_
 refine es ?_
 refine U.fZ (H2:=(L,_)::(W,_)::Hy) (λ X=>(L,_)::(W,_)::X++(Hy)) (.cons (.cons .id)) rfl (λ a5 M g=>?_)
 have ⟨m,y,z⟩:=cH M m y z
 replace D:=d.mono (rr) M D
 replace d:=d.up M
 refine U.fZ (H2:=(L,_)::Hy) (λ X=>(L,_)::X++(Hy)) (.cons .id) rfl (λ a6 G F=>?_)
 have ⟨m,y,z⟩:=cH G m y z
 replace D:=d.mono (rr) G D
 replace g:=g.up (H:=[]) G
 replace d:=d.up G
 refine U.fZ (H2:=Hy) (λ X=>X++(Hy)) .id rfl (λ V E K=>?_)
 have ⟨m,y,z⟩:=cH E m y z
 replace D:=d.mono (rr) E D
 replace g:=g.up (H:=[]) E
 replace F:=F.up (H:=[]) E
 replace d:=d.up E
 refine U.rg bA ?_
 refine vs 3 ?_
 refine U.ld aI (g.any.one (j:=1) rfl) ?_
 refine vs 1 ?_
 refine er ?_
 refine U.aP ?_
 refine U.dy f (λ (N:(S × Int)) R' H' aa=>aH V R'∧∃ O,Inv N.1 R' O∧O=H'∧aA aa [(2,pT aG),(4,pT L),(5,iv N.2)]) (λ (ag:S) R' H' aa=>aH V R'∧∃ P,Inv ag R' P∧P=H'∧aA aa []) 0 rfl ⟨rr,Hy,D,rfl,aq du⟩ ?_ ?_
 rotate_right
 ·rintro N a2 aU ba ⟨A,O,Y,rfl,aN⟩ bd f aF aJ aT
  refine U.sub aN ?_
  have ⟨m,y,z⟩:=cH A m y z
  replace g:=g.up (H:=[]) A
  replace F:=F.up (H:=[]) A
  replace K:=K.up (H:=[]) A
  replace d:=d.up A
  refine sq ?_
  refine sg b4 ?_
  refine vs 4 ?_
  refine U.ld aI (g.any.one (j:=2) rfl) ?_
  refine vs 1 ?_
  refine er ?_
  refine sc f ?_ ?_<;>intro a8 f
  ·refine sp ?_
   refine sq ?_
   refine U.aP ?_
   refine sg bA ?_
   refine U.ld u6 (K.any.one (j:=0) rfl) ?_
   refine vs 1 ?_
   refine U.s rfl rfl (Ox.build (cells:=(List.toArray ([iv N.2]++([0,0,0,0,0].map (Value.int .i64)++[])))) rfl qj rfl rfl rfl (.put rfl) ?_)
   have ⟨be,aR,f⟩:=ae f
   refine U.step rfl rfl rfl (Ox.b5 rfl rfl rfl rfl xt rfl rfl ((G6 9  (d.frame []) (⟨N.2,[0,0,0,0,0]⟩:bm) 0 C ⟨_,Y,rfl⟩ rfl g.any m y z F K aR).mono ?_))
   rintro _ a7 _ ⟨I,⟨T,Z,Q⟩,rfl⟩
   replace Q:T=_:=Q.symm
   subst Q
   replace g:=g.up (H:=[]) I
   replace F:=F.up (H:=[]) I
   replace K:=K.up (H:=[]) I
   replace d:=d.up I
   refine ⟨_,(.put rfl),?_⟩
   refine vs 1 ?_
   refine er ?_
   refine sc f ?_ ?_<;>intro a9 f
   ·replace f:=aT _ (au f)
    cases av f
    exact rt func68 .nil sr (ac _ _ _ ⟨((((M.trans G).trans E).trans A).trans I),Z,rfl⟩)
   refine sp ?_
   refine U.a0 ?_
   refine U.rg aM ?_
   refine vs 3 ?_
   refine er ?_
   exact aF _ (au f) _ _ _ ⟨(A.trans I),T,Z,rfl,aq du⟩
  exact U.bw rfl (aJ _ (au f) _ _ _ ⟨A,O,Y,rfl,cV.sub trivial⟩)
 rintro ag a4 a1 bb ⟨ab,P,aK,rfl,aO⟩ f
 refine U.sub aO ?_
 replace d:=d.up ab
 cases av f
 exact U.g7 func68 .nil (J.drop sr (ac _ _ _ ⟨(((M.trans G).trans E).trans ab),aK,rfl⟩))
theorem rA(d:an){K L M:Value}(Q:dX R)(m:ah bz 5 R K d.ao)(C:ah CZ 1 R L d.Out)(D:ah bq 2 R M d.aV){r:(Int × Int)}(f:iT d=some r):aL af 26 #[.agg #[iv d.ax,iv d.ad.ai,iv d.ad.ak,K,L,M]] R H (λ v R' H'=>aH R R'∧H=H'∧v = .tuple #[iv r.1,iv r.2]):=by
 unfold iT at f
 refine aY func26 18 λ fr cs I=>?_
 refine sg aM ?_
 refine bx λ aw=>?_
 refine vs 2 ?_
 refine es ?_
 refine sg aM ?_
 refine lN [_,_,_,_,_,_] 0 6 a7 z0 ?_
 have ⟨aO,Z,f⟩:=ae f
 refine U.cv jT (j6 d Q m C D Z) ?_
 rintro _ O _ ⟨G,rfl,rfl⟩
 have ⟨m,C,D⟩:=cH G m C D
 refine vs 1 ?_
 refine nx aC ?_
 refine vs 2 ?_
 refine er ?_
 refine sc f ?_ ?_<;>intro aB f
 ·refine sg aM ?_
  refine vs 3 ?_
  refine er ?_
  cases av f
  exact rt func26 (.tmp rfl (.tmp rfl .nil)) (so sr) (I _ _ _ ⟨G,br⟩)
 refine sp ?_
 refine sg aC ?_
 refine bu (#[iv 0]) iw λ E=>?_
 refine eC (#[_]) aI .here ?_
 refine es ?_
 refine sg aM ?_
 refine lN [_,_,_,_,_,_] 0 6 a7 z1 ?_
 refine cF (#[_,_,_,_,_,_]) im ?_
 refine U.s rfl rfl (Ox.makeFunc (vs:=#[_]) (us:=#[]) rfl rfl rfl rfl (.put rfl) ?_)
 refine er ?_
 refine U.aP ?_
 refine U.aR (H':=(E,.cells #[iv 0] 3)::H) (sk (so sr)) ?_
 refine U.ou (A:=(eT eA)) (λ y s=>hN y (⟨d.ax,⟨d.ad.ai,d.ad.ak⟩,d.ao,d.Out,d.aV⟩:an) s)  f rfl tC rfl rfl rfl (λ (g:Int) R' T H'=>aH O R'∧H'=(E,.cells #[iv g] 3)::T)  (λ g am ap ab q=>by obtain ⟨V,rfl⟩:=q; exact ⟨(E,.cells #[iv g] 3)::[],by simp,λ R1 aq h=>⟨V.trans h,by simp⟩⟩)  (λ v Inv Hy z W S aa=>(uI W (⟨d.ax,⟨d.ad.ai,d.ad.ak⟩,d.ao,d.Out,d.aV⟩:an) S m C D aa).mono λ _ _ _ h=>⟨h.1,h.2.1⟩) ⟨rr,rfl⟩ ?_ ?_
 ·rintro aK g N ag _ ⟨F,rfl⟩ f
  refine U.a0 ?_
  refine sg aM ?_
  refine ld 0 aI z0 ?_
  refine vs 2 ?_
  refine er ?_
  cases av f
  exact U.hn (.there .here) func26 (.tmp rfl (.tmp rfl .nil)) (J.drop (so (so sr)) (I _ _ _ ⟨(G.trans F),br⟩))
 rintro aN aT g N ar ac aF aG az _ aA ⟨_,rfl,⟨aJ,rfl⟩⟩ ⟨F,rfl⟩ Y aU f P
 refine sp ?_
 refine U.beginRound rfl rfl (.there .here) Y ?_
 refine U.aP ?_
 refine U.rg aM ?_
 refine ld 0 aI z0 ?_
 refine vs 1 ?_
 refine eC (#[_]) aI .here ?_
 refine er ?_
 refine U.a0 ?_
 exact P _ (au f) _ _ _ (rr) ⟨F,rfl⟩
theorem Hr (x1:(bm→((List bm) ⊕ Empty)→Option (((List bm) ⊕ Empty) × Bool))→((List bm) ⊕ Empty)→Option ((List bm) ⊕ Empty)) {v1:Value} (W:oK af R (eT eA) v1 x1) {r:(List bm)} (d:nK x1=some r):aL af 129 #[aw,v1] R H (λ v R' H'=>aH R R'∧H=H'∧∃ M,ah eA 6 R' M r∧v=M):=by
 unfold nK at d
 refine aY func129 13 λ fr cs ag=>?_
 refine sg aC ?_
 refine U.s rfl rfl (Ox.iF rfl rfl rfl rfl λ C _ _=>⟨_,(.put rfl),?_⟩)
 refine vs 1 ?_
 refine es ?_
 refine sg aB ?_
 refine vs 1 ?_
 refine er ?_
 refine U.aP ?_
 obtain ⟨aN,aT,aJ,rfl,ac,am⟩:=W
 refine U.ou (A:=(eT eA)) (λ y s=>x1 y s)  d rfl ac rfl rfl rfl (λ (E:(List bm)) R' T H'=>aH R R'∧∃ g m,aX eA 6 118 R' g E m∧H'=m++((C,.cells #[g] 127)::T))  (λ E aA aG ar q=>by obtain ⟨Z,g,m,D,rfl⟩:=q; exact ⟨m++((C,.cells #[g] 127)::[]),by simp,λ R1 aI h=>⟨Z.trans h,g,m,D.mono h,by simp⟩⟩)  (λ v Inv Hy z ab Y ao=>am _ (rr) _ _ _ _ _ _ ab Y ao) ⟨rr,aw,[],aX.nil,rfl⟩ ?_ ?_
 ·rintro L E O az _ ⟨F,g,m,D,rfl⟩ d
  refine U.a0 ?_
  refine sg aC ?_
  refine ld 0 iY (bH _ z0) ?_
  refine vs 1 ?_
  refine er ?_
  refine U.dg (H2:=(C,_)::(L,_)::H) (λ X=>X++((C,_)::(L,_)::H)) .id rfl D (λ aF aa ad=>?_)
  cases av d
  exact U.hn (.there .here) func129 (.tmp rfl .nil) (J.drop (so (so sr)) (ag _ _ _ ⟨(F.trans aa),rfl,g,ad,rfl⟩))
 rintro a1 G E O P ax ap aV aM _ aU ⟨_,rfl,⟨f,rfl⟩⟩ ⟨F,g,m,D,rfl⟩ ak a4 d Q
 refine U.rg aC ?_
 refine bu (List.toArray ([iv 0]++([0,0,0,0,0].map (Value.int .i64)++[]))) lM λ S=>?_
 refine U.s rfl rfl (Ox.cG (cs':=_) rfl rfl rfl dT (by simp [f]) (cj (aW rfl bl) (cj (ej λ _=>rfl) bl)) .here (by simp) (eo (by simp [f])) rfl (.refl _) ?_)
 refine er ?_
 refine U.beginRound rfl rfl (.there (.skip (.there .here))) ak ?_
 refine U.aP ?_
 refine U.rg bA ?_
 refine U.ld iY ((aK.box (.tail _ (bH _ z0))).one (j:=0) rfl) ?_
 refine U.s rfl rfl (Ox.bB (vs:=_) rfl rfl dT (by simp [f]) ((aK.box z0).part (j:=0) (n:=6) (dd (by simp [f]))) rfl (.put rfl) ?_)
 refine U.s rfl rfl (Ox.buildSlice (cells:=(List.toArray ([iv G.eb]++(G.weights.map (Value.int .i64)++[])))) rfl Cx rfl (by decide) B9 (ca rfl rfl (by simp [Value.cells,f]) (eo (by simp [Value.cells,f])) cE) rfl λ V _ _=>⟨_,(.put rfl),?_⟩)
 have ⟨a2,an,d⟩:=ae d
 refine U.s rfl rfl (Ox.append (K:=eA) (λ X=>(V,_)::(S,_)::X++((C,_)::(ap,_)::P)) rfl rfl rfl BQ underlying127 (by simp) (.cons (.cons .id)) D (e4.lit z0 (aO.le (aO.single (x:=G) ⟨f,rfl⟩ (by simp [f])) rfl) rfl) an rfl λ aq N I=>⟨_,(.put rfl),?_⟩)
 refine U.s rfl rfl (Ox.dE (cs':=#[_]) rfl rfl rfl iY I.one (.there (.there (.skip .here))) rfl rfl rfl (.refl _) ?_)
 refine er ?_
 refine U.a0 ?_
 exact U.aR (so (so sr)) (Q _ (au d) _ _ _ (rr) ⟨F,aq,N,I,rfl⟩)
theorem G9 (f:(bm→((List bm) ⊕ Empty)→Option (((List bm) ⊕ Empty) × Bool))→((List bm) ⊕ Empty)→Option ((List bm) ⊕ Empty)) {v0:Value} (m:oK af R (eT eA) v0 f) {r:(List bm)} (d:me f=some r):aL af 111 #[v0] R H (λ v R' H'=>aH R R'∧H=H'∧∃ g,ah eA 6 R' g r∧v=g):=by
 unfold me at d
 refine aY func111 5 λ fr cs y=>?_
 refine sg aB ?_
 refine vs 1 ?_
 refine nx aM ?_
 refine vs 1 ?_
 have ⟨E,z,d⟩:=ae d
 refine U.cv C4 (Hr f m z) ?_
 rintro C D _ ⟨s,rfl,_,A,rfl⟩
 refine vs 1 ?_
 refine er ?_
 cases av d
 exact rt func111 (.tmp rfl .nil) sr (y _ _ _ ⟨s,rfl,C,A,rfl⟩)
theorem hO(A:an)(x1:(an→Option Int)){K L M v1:Value}(Y:dX R)(f:ah bz 5 R K A.ao)(g:ah CZ 1 R L A.Out)(m:ah bq 2 R M A.aV)(D:g2 af R H (eT sw) (VI .i64) v1 x1){r:(cN × Int)}(d:gR A x1=some r):aL af 69 #[.agg #[iv A.ax,iv A.ad.ai,iv A.ad.ak,K,L,M],v1] R H (λ v R' H'=>aH R R'∧∃ N P Q S T V,ah bz 5 R' P r.1.book.ao∧ah CZ 1 R' Q r.1.book.Out∧ah bq 2 R' S r.1.book.aV∧ah eA 6 R' T r.1.cW∧gu V r.1.hq N∧v = .tuple #[.agg #[iv r.1.book.ax,iv r.1.book.ad.ai,iv r.1.book.ad.ak,P,Q,S,T,V],iv r.2]∧H'=N++H):=by
 unfold gR at d
 refine aY func69 38 λ fr cs F=>?_
 refine sg aM ?_
 refine bx λ aB=>?_
 refine bu (#[iv 0,iv 0,iv 0,aw,aw,aw,aw,.map none]) g1 λ aF=>?_
 refine vs 1 ?_
 refine es ?_
 refine sg aM ?_
 refine lN [_,_,_,_,_,_] 0 6 a7 z1 ?_
 have ⟨aO,ab,d⟩:=ae d
 refine U.cv jT (j6 A Y f g m ab) ?_
 rintro _ ar _ ⟨C,rfl,rfl⟩
 have ⟨f,g,m⟩:=cH C f g m
 replace D:=D.up C pp
 refine vs 1 ?_
 refine nx aC ?_
 refine vs 2 ?_
 refine er ?_
 refine sc d ?_ ?_<;>intro aI d
 ·refine sg bb ?_
  refine cF (#[_,_,_,_,_,_,_,_]) r6 ?_
  refine vs 1 ?_
  refine bC (#[_,_,_,_,_,_,_,_]) dM .here ?_
  refine vs 1 ?_
  refine er ?_
  cases av d
  exact rt func69 (.agg rfl dM rfl (aK.box z0) (.tmp rfl .nil)) (so (so sr)) (F _ _ _ ⟨C,[],aw,aw,aw,aw,.map none,ah.nil,ah.nil,ah.nil,ah.nil,.none,br⟩)
 refine sp ?_
 refine sg b4 ?_
 refine lN [_,_,_,_,_,_] 0 6 a7 z1 ?_
 refine cF (#[_,_,_,_,_,_]) im ?_
 refine U.s rfl rfl (Ox.makeMap rfl rfl λ ap W O=>⟨_,(.put rfl),?_⟩)
 refine U.s rfl rfl (Ox.build (cells:=#[_,_,_,_,_,_,_,_]) rfl r6 rfl (ca rfl rfl rfl rfl (ca rfl O.cells rfl rfl cE)) rfl (.put rfl) ?_)
 refine bu (#[iv 0,iv 0,iv 0,aw,aw,aw,aw,.map none]) g1 λ aG=>?_
 refine bC (#[_,_,_,_,_,_,_,_]) dM .here ?_
 refine es ?_
 refine sg bA ?_
 refine vs 2 ?_
 refine lN [_,_,_,_,_,_] 0 6 dA z0 ?_
 have ⟨aP,ac,d⟩:=ae d
 refine U.step rfl rfl rfl (Ox.lZ D rfl rfl rfl ⟨_,rfl,⟨_,_,_,f,g,m,rfl⟩⟩ ac rfl (su (so (az (so (so sr))))) ?_)
 rintro _ au E rfl
 have ⟨f,g,m⟩:=cH E f g m
 replace D:=D.up E pp
 refine ⟨_,(.put rfl),?_⟩
 refine vs 1 ?_
 refine nx aC ?_
 refine vs 2 ?_
 refine er ?_
 refine sc d ?_ ?_<;>intro aJ d
 ·refine sg bb ?_
  refine cF (#[_,_,_,_,_,_,_,_]) r6 ?_
  refine vs 1 ?_
  refine bC (#[_,_,_,_,_,_,_,_]) dM (.there (.skip .here)) ?_
  refine vs 1 ?_
  refine er ?_
  cases av d
  exact rt func69 (.agg rfl dM rfl (aK.box (.tail _ (bH _ z0))) (.tmp rfl .nil)) (so (az (so (so sr)))) (F _ _ _ ⟨(C.trans E),[],aw,aw,aw,aw,.map none,ah.nil,ah.nil,ah.nil,ah.nil,.none,br⟩)
 refine sp ?_
 refine sq ?_
 refine sg b4 ?_
 refine vs 1 ?_
 refine lN [_,_,_,_,_,_] 0 6 dA z0 ?_
 refine U.s rfl rfl (Ox.makeFunc (vs:=#[_]) (us:=#[]) rfl rfl rfl rfl (.put rfl) ?_)
 have ⟨aR,ag,d⟩:=ae d
 refine U.cv CN (G9 (λ y s=>hN y A s) ⟨68,#[_],#[],rfl,tC,λ R' G w y Inv Hy s z aa Z am=>(uI aa A Z (f.mono G) (g.mono G) (m.mono G) am).mono λ _ _ _ h=>⟨h.1,h.2.1⟩⟩ ag) ?_
 rintro aq aA _ ⟨I,rfl,_,J,rfl⟩
 have ⟨f,g,m⟩:=cH I f g m
 refine vs 1 ?_
 refine U.s rfl rfl (Ox.dE (cs':=#[_,_,_,_,_,_,_,_]) rfl rfl rfl iY J.one .here rfl rfl rfl (.refl _) ?_)
 refine nx bb ?_
 refine vs 1 ?_
 refine ld 6 iY z0 ?_
 refine ls J underlying127 ?_
 refine vs 1 ?_
 refine er ?_
 refine sc d ?_ ?_<;>intro aN d
 ·refine sg aM ?_
  refine cF (#[_,_,_,_,_,_,_,_]) r6 ?_
  refine bC (#[_,_,_,_,_,_,_,_]) dM (.there (.skip .here)) ?_
  refine vs 1 ?_
  refine er ?_
  cases av d
  exact rt func69 (.agg rfl dM rfl (aK.box (.tail _ (bH _ z0))) (.tmp rfl .nil)) (so (az (so (so sr)))) (F _ _ _ ⟨((C.trans E).trans I),[],aw,aw,aw,aw,.map none,ah.nil,ah.nil,ah.nil,ah.nil,.none,br⟩)
 refine sp ?_
 refine sg aM ?_
 refine lN [_,_,_,_,_,_,_,_] 0 8 dM z0 ?_
 refine bC (#[_,_,_,_,_,_,_,_]) dM (.there (.skip .here)) ?_
 refine vs 1 ?_
 refine er ?_
 cases av d
 exact rt func69 (.agg rfl dM rfl (aK.box (.tail _ (bH _ z0))) (.tmp rfl .nil)) (so (dm (so (so sr)))) (F _ _ _ ⟨((C.trans E).trans I),W,K,L,M,aq,ap,f,g,m,J,O,br⟩)
theorem Jg(d:an)(x1:Int){s y z:Value}{g:Nat}(A:ah bz 5 R s d.ao)(C:ah CZ 1 R y d.Out)(D:ah bq 2 R z d.aV)(E:aK R H g 0 [iv x1]){r:Int}(f:mH d x1=some r):aL af 70 #[.agg #[iv d.ax,iv d.ad.ai,iv d.ad.ak,s,y,z],pT g] R H (λ v R' H'=>R=R'∧H=H'∧v=iv r):=by
 unfold mH at f
 refine aY func70 8 λ fr cs m=>?_
 refine sg aC ?_
 refine bx λ G=>?_
 refine vs 1 ?_
 refine es ?_
 refine sg bb ?_
 refine lN [_,_,_,_,_,_] 0 6 dA z0 ?_
 refine U.ld aI ((E.sub (su (so sr))).one (j:=0) rfl) ?_
 have ⟨J,F,f⟩:=ae f
 refine U.cv tD (uJ d x1 A C D F) ?_
 rintro _ _ _ ⟨rfl,rfl,rfl⟩
 refine vs 1 ?_
 refine er ?_
 refine sc f ?_ ?_<;>intro I f
 ·refine sg aB ?_
  refine vs 1 ?_
  refine er ?_
  cases av f
  exact rt func70 (.tmp rfl .nil) (so sr) (m _ _ _ aG)
 refine sp ?_
 refine sg aB ?_
 refine vs 1 ?_
 refine er ?_
 cases av f
 exact rt func70 (.tmp rfl .nil) (so sr) (m _ _ _ aG)
theorem rq(f:Int)  {r:Bool} (d:j5 f=some r):aL af 152 #[iv f] R H (λ v R' H'=>R=R'∧H=H'∧v = .bool r):=by
 unfold j5 at d
 refine aY func152 6 λ fr cs g=>?_
 refine sg aB ?_
 refine vs 1 ?_
 refine nx bb ?_
 refine vs 4 ?_
 refine er ?_
 cases av d
 exact rt func152 (.tmp rfl .nil) sr (g _ _ _ aG)
theorem hh(s:Int)(x1:Int)  {r:Bool} (d:dV s x1=some r):aL af 146 #[iv s,iv x1] R H (λ v R' H'=>R=R'∧H=H'∧v = .bool r):=by
 unfold dV at d
 refine aY func146 17 λ fr cs f=>?_
 refine sg aB ?_
 refine vs 1 ?_
 refine nx ov ?_
 refine vs 1 ?_
 have ⟨A,y,d⟩:=ae d
 refine U.cv q1 (rq s  y) ?_
 rintro _ _ _ ⟨rfl,rfl,rfl⟩
 refine vs 1 ?_
 refine a8 d (λ g d=>?_) (λ g d=>?_)
 ·refine U.kn 7 g ?_
  refine vs 1 ?_
  have ⟨C,z,d⟩:=ae d
  refine U.cv q1 (rq x1  z) ?_
  rintro _ _ _ ⟨rfl,rfl,rfl⟩
  refine vs 3 ?_
  refine a8 d (λ m d=>?_) (λ m d=>?_)
  ·refine U.kn 12 m ?_
   refine vs 5 ?_
   refine er ?_
   cases av d
   exact rt func146 (.tmp rfl .nil) sr (f _ _ _ aG)
  refine U.kn 12 m ?_
  refine vs 5 ?_
  refine er ?_
  cases av d
  exact rt func146 (.tmp rfl .nil) sr (f _ _ _ aG)
 refine U.kn 7 g ?_
 refine vs 10 ?_
 refine er ?_
 cases av d
 exact rt func146 (.tmp rfl .nil) sr (f _ _ _ aG)
theorem HH(N:(List Int))(x1:Int)(x2:Int){v0:Value}{C:aj}(ar:aX CZ 1 3 R v0 N C){r:(List Int)}(d:kV N x1 x2=some r):aL af 140 #[v0,iv x1,iv x2] R (C++H) (λ v R' H'=>∃ E,(R=R'∧aX CZ 1 3 R' v0 r E∧v = .tuple #[])∧H'=E++H):=by
 unfold kV at d
 refine aY func140 49 λ fr cs ap=>?_
 refine sg aM ?_
 refine vs 3 ?_
 refine er ?_
 refine U.aP ?_
 refine U.cQ d (λ (m:((List Int) × Int)) R' H' aa=>R=R'∧∃ y,aX CZ 1 3 R' v0 m.1 y∧H'=y++(H)∧aA aa [(0,v0),(1,iv x1),(2,iv x2),(6,iv m.2)]) (λ (I:(List Int)) R' H' aa=>R=R'∧∃ z,aX CZ 1 3 R' v0 I z∧H'=z++(H)∧aA aa [(0,v0)]) 0 rfl ⟨rfl,C,ar,rfl,aq bt⟩ ?_ ?_
 rotate_right
 ·rintro m bu bm bX ⟨rfl,y,G,rfl,aH⟩ b5 d P S
  refine U.sub aH ?_
  refine sq ?_
  refine sg aM ?_
  refine vs 3 ?_
  refine er ?_
  refine sc d ?_ ?_<;>intro bP d
  ·refine sp ?_
   refine sq ?_
   refine U.aP ?_
   refine sg aC ?_
   refine vs 2 ?_
   refine er ?_
   refine U.aP ?_
   refine U.cQ d (λ (s:((List Int) × Int)) R' H' aa=>R=R'∧∃ f,aX CZ 1 3 R' v0 s.1 f∧H'=f++(H)∧aA aa [(0,v0),(1,iv x1),(2,iv x2),(6,iv m.2),(7,iv s.2)]) (λ (L:(List Int)) R' H' aa=>R=R'∧∃ A,aX CZ 1 3 R' v0 L A∧H'=A++(H)∧aA aa [(0,v0),(1,iv x1),(2,iv x2),(6,iv m.2)]) 2 rfl ⟨rfl,y,G,rfl,aq b2⟩ ?_ ?_
   rotate_right
   ·rintro s bx bp b1 ⟨rfl,f,g,rfl,aN⟩ b6 d Q T
    refine U.sub aN ?_
    refine sq ?_
    refine sq ?_
    refine U.da d (λ (M:Bool) R' H' aa=>R=R'∧H'=f++(H)∧aA aa [(0,v0),(1,iv x1),(2,iv x2),(6,iv m.2),(7,iv s.2),(30,.bool M)])  ?_ ?_
    rotate_right
    ·intro b7 d F
     refine U.dw kq mixed ?_
     refine Any.vs 4 [0,1,2,3] rfl ?_
     refine a8 d (λ D d=>?_) (λ D d=>?_)
     ·refine Any.cK (t:=19) rfl D ?_
      refine Any.vs 2 [4,5] rfl ?_
      have ⟨be,a1,d⟩:=ae d
      have ⟨bf,a2,d⟩:=ae d
      have ⟨b8,a4,d⟩:=ae d
      obtain ⟨bB,bS,_,rfl,V,ad⟩:=(g.rd (λ _ h=>(bT _ h))).elem bd a1
      refine tQ 6 rfl (kI ad) ?_
      refine tQ 7 rfl (kA aI 0 V pp) ?_
      refine Any.vs 3 [8,9,10] rfl ?_
      obtain ⟨bC,bU,_,rfl,W,ag⟩:=(g.rd (λ _ h=>(bT _ h))).elem bd a2
      refine tQ 11 rfl (kI ag) ?_
      refine tQ 12 rfl (kA aI 0 W pp) ?_
      refine Any.cv 13 g8 (hh be bf  a4) ?_
      rintro _ _ _ ⟨rfl,rfl,rfl⟩
      refine kp ?_
      refine Any.vs 1 [14] rfl ?_
      refine Any.done ?_
      exact F _ (au d) _ _ _ ⟨rfl,rfl,aq cS⟩
     refine Any.cK (t:=19) rfl D ?_
     refine Any.vs 11 [4,5,6,7,8,9,10,11,12,13,14] rfl ?_
     refine Any.done ?_
     exact F _ (au d) _ _ _ ⟨rfl,rfl,aq cS⟩
    rintro M bA br b4 ⟨rfl,rfl,aR⟩ d
    refine U.sub aR ?_
    refine sc d ?_ ?_<;>intro bQ d
    ·refine sp ?_
     refine sq ?_
     refine U.aP ?_
     refine U.draw (n:=18) (is:=[0,1,2,3,4,5,6,7,8,9,10,11,12,13,14,15,16,17]) (many (f++(H)) [(15,H),(17,H)]) mixed rfl (by decide +kernel) rfl rfl ?_
     refine Any.vs 8 [0,1,2,3,4,5,6,7] rfl ?_
     have ⟨bg,a5,d⟩:=ae d
     have ⟨bh,a6,d⟩:=ae d
     have ⟨bi,a7,d⟩:=ae d
     have ⟨bk,a9,d⟩:=ae d
     obtain ⟨bD,bV,_,rfl,Y,ak⟩:=(g.rd (λ _ h=>(bT _ h))).elem bd a5
     refine ts 8 [9,14,15,16,17] rfl (aF rfl (aF rfl (aU (su (az sr))))) (su (az sr)) (kI ak) ?_
     refine ts 9 [14,15,16,17] rfl (aF rfl (aF rfl (aU pp))) pp (kA aI 0 Y pp) ?_
     refine Any.vs 2 [10,11] rfl ?_
     obtain ⟨bF,bW,_,rfl,Z,am⟩:=(g.rd (λ _ h=>(bT _ h))).elem bd a6
     refine ts 12 [13,14,15,16,17] rfl (aF rfl (aF rfl (aU (su (az sr))))) (su (az sr)) (kI am) ?_
     refine ts 13 [14,15,16,17] rfl (aF rfl (aF rfl (aU pp))) pp (kA aI 0 Z pp) ?_
     obtain ⟨bG,bI,_,rfl,rfl,bL,ab,an,bN,ba,aT⟩:=g.dI bd a7
     refine ts 14 [15,16,17] rfl (aF rfl (aF rfl (aU (su (so sr))))) (su (so sr)) (kI an) ?_
     refine Any.on 15 rfl rfl (aJ.to (Ox.dJ (K:=CZ) (k:=1) (e:=3) (i:=s.2) (x':=bg) (pre:=[]) (mid:=[iv bi]) (post:=[]) .id rfl rfl rfl rfl ed rfl (aW rfl bl) ab rfl rfl rfl ba aT rfl rfl (.refl _) λ bs aB=>⟨rr,(bo rfl (su (az sr))),?_⟩))
     obtain ⟨bH,bJ,_,rfl,rfl,bM,ac,ao,bO,bb,aV⟩:=aB.dI bd a9
     refine ts 16 [17] rfl (aF rfl (aF rfl (aU (su (so sr))))) (su (so sr)) (kI ao) ?_
     refine Any.on 17 rfl rfl (aJ.to (Ox.dJ (K:=CZ) (k:=1) (e:=3) (i:=i64 (s.2 - 1)) (x':=bh) (pre:=[]) (mid:=[iv bk]) (post:=[]) .id rfl rfl rfl rfl ed rfl (aW rfl bl) ac rfl rfl rfl bb aV rfl rfl (.refl _) λ O aG=>⟨rr,(bo rfl (su (az sr))),?_⟩))
     refine Any.done ?_
     refine U.a0 ?_
     refine U.rg aM ?_
     refine vs 3 ?_
     refine er ?_
     exact Q _ (au d) _ _ _ ⟨rfl,O,aG,rfl,aq b2⟩
    exact U.bw rfl (T _ (au d) _ _ _ ⟨rfl,f,g,rfl,aq bt⟩)
   rintro L bz bq b3 ⟨rfl,A,ax,rfl,aO⟩ d
   refine U.sub aO ?_
   refine U.a0 ?_
   refine U.rg aM ?_
   refine vs 3 ?_
   refine er ?_
   exact P _ (au d) _ _ _ ⟨rfl,A,ax,rfl,aq bt⟩
  exact U.bw rfl (S _ (au d) _ _ _ ⟨rfl,y,G,rfl,aq eD⟩)
 rintro I bv bn bY ⟨rfl,z,aw,rfl,aK⟩ d
 refine U.sub aK ?_
 cases av d
 exact U.g7 func140 .nil (J.drop sr (ap _ _ _ ⟨z,⟨rfl,aw,rfl⟩,rfl⟩))
theorem y3(L:(List Int))(x1:Int)(x2:Int)(x3:Int){v0:Value}{y:aj}(ap:aX CZ 1 3 R v0 L y){r:(List Int)}(d:la L x1 x2 x3=some r):aL af 155 #[v0,iv x1,iv x2,iv x3] R (y++H) (λ v R' H'=>∃ C,(R=R'∧aX CZ 1 3 R' v0 r C∧v = .tuple #[])∧H'=C++H):=by
 unfold la at d
 refine aY func155 76 λ fr cs F=>?_
 refine sg aC ?_
 refine vs 2 ?_
 refine er ?_
 refine U.aP ?_
 refine U.dy d (λ (m:((List Int) × Int)) R' H' aa=>R=R'∧∃ g,aX CZ 1 3 R' v0 m.1 g∧H'=g++(H)∧aA aa [(0,v0),(2,iv x2),(3,iv x3),(8,iv m.2)]) (λ (G:(List Int)) R' H' aa=>R=R'∧∃ s,aX CZ 1 3 R' v0 G s∧H'=s++(H)∧aA aa [(0,v0)]) 0 rfl ⟨rfl,y,ap,rfl,aq bt⟩ ?_ ?_
 rotate_right
 ·rintro m bz br b7 ⟨rfl,g,f,rfl,aB⟩ cc d N O bf
  refine U.sub aB ?_
  refine U.aP ?_
  refine sg bb ?_
  refine vs 4 ?_
  refine es ?_
  refine sg aM ?_
  refine vs 3 ?_
  refine er ?_
  refine sc d ?_ ?_<;>intro bV d
  ·exact U.bw rfl (O _ (au d) _ _ _ ⟨rfl,g,f,rfl,aq eD⟩)
  refine sp ?_
  refine sq ?_
  refine sq ?_
  refine U.da d (λ (I:Bool) R' H' aa=>R=R'∧H'=g++(H)∧aA aa [(0,v0),(2,iv x2),(3,iv x3),(8,iv m.2),(9,iv (i64 ((i64 (2 * m.2))+1))),(36,.bool I)])  ?_ ?_
  rotate_right
  ·intro cd d D
   refine U.dw vl mixed ?_
   refine Any.vs 5 [0,1,2,3,4] rfl ?_
   refine a8 d (λ z d=>?_) (λ z d=>?_)
   ·refine Any.cK (t:=21) rfl z ?_
    refine Any.vs 4 [5,6,7,8] rfl ?_
    have ⟨bg,aR,d⟩:=ae d
    have ⟨bh,aT,d⟩:=ae d
    have ⟨ce,aV,d⟩:=ae d
    obtain ⟨bD,bY,_,rfl,P,ab⟩:=(f.rd (λ _ h=>(bT _ h))).elem bd aR
    refine tQ 9 rfl (kI ab) ?_
    refine tQ 10 rfl (kA aI 0 P pp) ?_
    refine Any.vs 5 [11,12,13,14,15] rfl ?_
    obtain ⟨bF,b1,_,rfl,Q,ac⟩:=(f.rd (λ _ h=>(bT _ h))).elem bd aT
    refine tQ 16 rfl (kI ac) ?_
    refine tQ 17 rfl (kA aI 0 Q pp) ?_
    refine Any.cv 18 g8 (hh bg bh  aV) ?_
    rintro _ _ _ ⟨rfl,rfl,rfl⟩
    refine kp ?_
    refine Any.vs 1 [19] rfl ?_
    refine Any.done ?_
    exact D _ (au d) _ _ _ ⟨rfl,rfl,aq cS⟩
   refine Any.cK (t:=21) rfl z ?_
   refine Any.vs 15 [5,6,7,8,9,10,11,12,13,14,15,16,17,18,19] rfl ?_
   refine Any.done ?_
   exact D _ (au d) _ _ _ ⟨rfl,rfl,aq cS⟩
  rintro I bB bu b9 ⟨rfl,rfl,aH⟩ d
  refine U.sub aH ?_
  refine U.da d (λ (A:Int) R' H' aa=>R=R'∧H'=g++(H)∧aA aa [(0,v0),(2,iv x2),(3,iv x3),(8,iv m.2),(9,iv A)])  ?_ ?_
  rotate_right
  ·intro cf d E
   refine sc d ?_ ?_<;>intro bW d
   ·refine U.rg aM ?_
    refine vs 3 ?_
    refine er ?_
    exact E _ (au d) _ _ _ ⟨rfl,rfl,aq b2⟩
   refine sp ?_
   exact E _ (au d) _ _ _ ⟨rfl,rfl,aq b2⟩
  rintro A bC bv cb ⟨rfl,rfl,aK⟩ d
  refine U.sub aK ?_
  refine sq ?_
  refine sq ?_
  refine U.dw ko mixed ?_
  refine Any.vs 4 [0,1,2,3] rfl ?_
  have ⟨bi,a1,d⟩:=ae d
  have ⟨bk,a2,d⟩:=ae d
  have ⟨cg,a4,d⟩:=ae d
  obtain ⟨bG,b3,_,rfl,S,ad⟩:=(f.rd (λ _ h=>(bT _ h))).elem bd a1
  refine tQ 4 rfl (kI ad) ?_
  refine tQ 5 rfl (kA aI 0 S pp) ?_
  refine Any.vs 4 [6,7,8,9] rfl ?_
  obtain ⟨bH,b4,_,rfl,T,ag⟩:=(f.rd (λ _ h=>(bT _ h))).elem bd a2
  refine tQ 10 rfl (kI ag) ?_
  refine tQ 11 rfl (kA aI 0 T pp) ?_
  refine Any.cv 12 g8 (hh bi bk  a4) ?_
  rintro _ _ _ ⟨rfl,rfl,rfl⟩
  refine kp ?_
  refine Any.vs 1 [13] rfl ?_
  refine Any.done ?_
  refine sc d ?_ ?_<;>intro bX d
  ·replace d:=bf _ (au d)
   cases av d
   exact rt func155 .nil sr (F _ _ _ ⟨g,⟨rfl,f,rfl⟩,rfl⟩)
  refine sp ?_
  refine sq ?_
  refine U.draw (n:=24) (is:=[0,1,2,3,4,5,6,7,8,9,10,11,12,13,14,15,16,17,18,19,20,21,22,23]) (many (g++(H)) [(21,H),(23,H)]) mixed rfl (by decide +kernel) rfl rfl ?_
  refine Any.vs 12 [0,1,2,3,4,5,6,7,8,9,10,11] rfl ?_
  have ⟨bm,a5,d⟩:=ae d
  have ⟨bn,a6,d⟩:=ae d
  have ⟨bp,a7,d⟩:=ae d
  have ⟨bq,a9,d⟩:=ae d
  obtain ⟨bI,b5,_,rfl,V,ak⟩:=(f.rd (λ _ h=>(bT _ h))).elem bd a5
  refine ts 12 [13,20,21,22,23] rfl (aF rfl (aF rfl (aU (su (az sr))))) (su (az sr)) (kI ak) ?_
  refine ts 13 [20,21,22,23] rfl (aF rfl (aF rfl (aU pp))) pp (kA aI 0 V pp) ?_
  refine Any.vs 4 [14,15,16,17] rfl ?_
  obtain ⟨bJ,b6,_,rfl,W,am⟩:=(f.rd (λ _ h=>(bT _ h))).elem bd a6
  refine ts 18 [19,20,21,22,23] rfl (aF rfl (aF rfl (aU (su (az sr))))) (su (az sr)) (kI am) ?_
  refine ts 19 [20,21,22,23] rfl (aF rfl (aF rfl (aU pp))) pp (kA aI 0 W pp) ?_
  obtain ⟨bL,bN,_,rfl,rfl,bP,Y,an,bS,ba,aN⟩:=f.dI bd a7
  refine ts 20 [21,22,23] rfl (aF rfl (aF rfl (aU (su (so sr))))) (su (so sr)) (kI an) ?_
  refine Any.on 21 rfl rfl (aJ.to (Ox.dJ (K:=CZ) (k:=1) (e:=3) (i:=i64 (x3+m.2)) (x':=bm) (pre:=[]) (mid:=[iv bp]) (post:=[]) .id rfl rfl rfl rfl ed rfl (aW rfl bl) Y rfl rfl rfl ba aN rfl rfl (.refl _) λ bx aw=>⟨rr,(bo rfl (su (az sr))),?_⟩))
  obtain ⟨bM,bO,_,rfl,rfl,bQ,Z,ao,bU,be,aO⟩:=aw.dI bd a9
  refine ts 22 [23] rfl (aF rfl (aF rfl (aU (su (so sr))))) (su (so sr)) (kI ao) ?_
  refine Any.on 23 rfl rfl (aJ.to (Ox.dJ (K:=CZ) (k:=1) (e:=3) (i:=i64 (x3+A)) (x':=bn) (pre:=[]) (mid:=[iv bq]) (post:=[]) .id rfl rfl rfl rfl ed rfl (aW rfl bl) Z rfl rfl rfl be aO rfl rfl (.refl _) λ M ax=>⟨rr,(bo rfl (su (az sr))),?_⟩))
  refine Any.done ?_
  refine U.rg aC ?_
  refine vs 2 ?_
  refine er ?_
  refine U.a0 ?_
  exact N _ (au d) _ _ _ ⟨rfl,M,ax,rfl,aq bt⟩
 rintro G bA bs b8 ⟨rfl,s,ar,rfl,aG⟩ d
 refine U.sub aG ?_
 cases av d
 exact U.g7 func155 .nil (J.drop sr (F _ _ _ ⟨s,⟨rfl,ar,rfl⟩,rfl⟩))
theorem HJ(M:(List Int))(x1:Int)(x2:Int){v0:Value}{D:aj}(ao:aX CZ 1 3 R v0 M D){r:(List Int)}(d:kW M x1 x2=some r):aL af 141 #[v0,iv x1,iv x2] R (D++H) (λ v R' H'=>∃ E,(R=R'∧aX CZ 1 3 R' v0 r E∧v = .tuple #[])∧H'=E++H):=by
 unfold kW at d
 refine aY func141 56 λ fr cs an=>?_
 refine sg aC ?_
 refine vs 2 ?_
 refine nx aB ?_
 refine vs 1 ?_
 refine nx bb ?_
 refine vs 4 ?_
 refine es ?_
 refine sg bb ?_
 refine vs 2 ?_
 have ⟨bU,a7,d⟩:=ae d
 refine U.s rfl rfl (Ox.quo rfl rfl rfl a7 rfl (.put rfl) ?_)
 refine vs 1 ?_
 refine er ?_
 refine U.aP ?_
 refine U.cQ d (λ (m:((List Int) × Int)) R' H' aa=>R=R'∧∃ z,aX CZ 1 3 R' v0 m.1 z∧H'=z++(H)∧aA aa [(0,v0),(6,iv x1),(7,iv 0),(8,iv (i64 (x2 - x1))),(9,iv m.2)]) (λ (I:(List Int)) R' H' aa=>R=R'∧∃ y,aX CZ 1 3 R' v0 I y∧H'=y++(H)∧aA aa [(0,v0),(6,iv x1),(7,iv 0),(8,iv (i64 (x2 - x1)))]) 0 rfl ⟨rfl,D,ao,rfl,aq b2⟩ ?_ ?_
 rotate_right
 ·rintro m bp bg bN ⟨rfl,z,F,rfl,aK⟩ bV d S V
  refine U.sub aK ?_
  refine sq ?_
  refine sg aC ?_
  refine vs 2 ?_
  refine er ?_
  refine sc d ?_ ?_<;>intro bJ d
  ·refine sp ?_
   refine sq ?_
   refine U.aP ?_
   refine U.rg bA ?_
   refine vs 4 ?_
   have ⟨bW,a8,d⟩:=ae d
   refine U.step rfl rfl rfl (Ox.b5 rfl rfl rfl rfl xA rfl rfl ((aL.hole (G:=(λ X=>X++(H))) .id (y3 m.1 m.2 (i64 (x2 - x1)) x1 F a8)).mono ?_))
   rintro _ _ _ ⟨Q,⟨rfl,aH,rfl⟩,rfl⟩
   refine ⟨_,(.put rfl),?_⟩
   refine er ?_
   refine U.a0 ?_
   refine U.rg aM ?_
   refine vs 3 ?_
   refine er ?_
   exact S _ (au d) _ _ _ ⟨rfl,Q,aH,rfl,aq b2⟩
  exact U.bw rfl (V _ (au d) _ _ _ ⟨rfl,z,F,rfl,aq bt⟩)
 rintro I bq bh bO ⟨rfl,y,ap,rfl,aN⟩ d
 refine U.sub aN ?_
 refine sg aM ?_
 refine vs 3 ?_
 refine er ?_
 refine U.aP ?_
 refine U.cQ d (λ (f:((List Int) × Int)) R' H' aa=>R=R'∧∃ g,aX CZ 1 3 R' v0 f.1 g∧H'=g++(H)∧aA aa [(0,v0),(6,iv x1),(7,iv 0),(10,iv f.2)]) (λ (L:(List Int)) R' H' aa=>R=R'∧∃ A,aX CZ 1 3 R' v0 L A∧H'=A++(H)∧aA aa [(0,v0)]) 2 rfl ⟨rfl,y,ap,rfl,aq bt⟩ ?_ ?_
 rotate_right
 ·rintro f br bi bP ⟨rfl,g,C,rfl,aO⟩ bX d T W
  refine U.sub aO ?_
  refine sq ?_
  refine sg aC ?_
  refine vs 2 ?_
  refine er ?_
  refine sc d ?_ ?_<;>intro bI d
  ·refine sp ?_
   refine sq ?_
   refine U.aP ?_
   refine sq ?_
   refine U.draw (n:=20) (is:=[0,1,2,3,4,5,6,7,8,9,10,11,12,13,14,15,16,17,18,19]) (many (g++(H)) [(17,H),(19,H)]) mixed rfl (by decide +kernel) rfl rfl ?_
   refine Any.vs 10 [0,1,2,3,4,5,6,7,8,9] rfl ?_
   have ⟨N,a1,d⟩:=ae d
   have ⟨O,a2,d⟩:=ae d
   have ⟨be,a4,d⟩:=ae d
   have ⟨bf,a5,d⟩:=ae d
   obtain ⟨bu,bL,_,rfl,Y,ad⟩:=(C.rd (λ _ h=>(bT _ h))).elem bd a1
   refine ts 10 [11,16,17,18,19] rfl (aF rfl (aF rfl (aU (su (az sr))))) (su (az sr)) (kI ad) ?_
   refine ts 11 [16,17,18,19] rfl (aF rfl (aF rfl (aU pp))) pp (kA aI 0 Y pp) ?_
   refine Any.vs 2 [12,13] rfl ?_
   obtain ⟨bv,bM,_,rfl,Z,ag⟩:=(C.rd (λ _ h=>(bT _ h))).elem bd a2
   refine ts 14 [15,16,17,18,19] rfl (aF rfl (aF rfl (aU (su (az sr))))) (su (az sr)) (kI ag) ?_
   refine ts 15 [16,17,18,19] rfl (aF rfl (aF rfl (aU pp))) pp (kA aI 0 Z pp) ?_
   obtain ⟨bx,bB,_,rfl,rfl,bD,ab,ak,bG,a9,aT⟩:=C.dI bd a4
   refine ts 16 [17,18,19] rfl (aF rfl (aF rfl (aU (su (so sr))))) (su (so sr)) (kI ak) ?_
   refine Any.on 17 rfl rfl (aJ.to (Ox.dJ (K:=CZ) (k:=1) (e:=3) (i:=x1) (x':=N) (pre:=[]) (mid:=[iv be]) (post:=[]) .id rfl rfl rfl rfl ed rfl (aW rfl bl) ab rfl rfl rfl a9 aT rfl rfl (.refl _) λ bm aw=>⟨rr,(bo rfl (su (az sr))),?_⟩))
   obtain ⟨bz,bC,_,rfl,rfl,bF,ac,am,bH,ba,aV⟩:=aw.dI bd a5
   refine ts 18 [19] rfl (aF rfl (aF rfl (aU (su (so sr))))) (su (so sr)) (kI am) ?_
   refine Any.on 19 rfl rfl (aJ.to (Ox.dJ (K:=CZ) (k:=1) (e:=3) (i:=i64 (x1+f.2)) (x':=O) (pre:=[]) (mid:=[iv bf]) (post:=[]) .id rfl rfl rfl rfl ed rfl (aW rfl bl) ac rfl rfl rfl ba aV rfl rfl (.refl _) λ bn ax=>⟨rr,(bo rfl (su (az sr))),?_⟩))
   refine Any.done ?_
   refine U.rg bA ?_
   refine vs 4 ?_
   have ⟨bS,a6,d⟩:=ae d
   refine U.step rfl rfl rfl (Ox.b5 rfl rfl rfl rfl xA rfl rfl ((aL.hole (G:=(λ X=>X++(H))) .id (y3 ((f.1.set x1.toNat N).set (i64 (x1+f.2)).toNat O) 0 f.2 x1 ax a6)).mono ?_))
   rintro _ _ _ ⟨P,⟨rfl,aG,rfl⟩,rfl⟩
   refine ⟨_,(.put rfl),?_⟩
   refine er ?_
   refine U.a0 ?_
   refine U.rg aM ?_
   refine vs 3 ?_
   refine er ?_
   exact T _ (au d) _ _ _ ⟨rfl,P,aG,rfl,aq bt⟩
  exact U.bw rfl (W _ (au d) _ _ _ ⟨rfl,g,C,rfl,aq eD⟩)
 rintro L bs bk bQ ⟨rfl,A,ar,rfl,aR⟩ d
 refine U.sub aR ?_
 cases av d
 exact U.g7 func141 .nil (J.drop sr (an _ _ _ ⟨A,⟨rfl,ar,rfl⟩,rfl⟩))
theorem HY(C:Int)  {r:Int} (d:pw C=some r):aL af 150 #[.int .u64 C] R H (λ v R' H'=>R=R'∧H=H'∧v=iv r):=by
 unfold pw at d
 refine aY func150 25 λ fr cs D=>?_
 refine sg aB ?_
 refine vs 1 ?_
 refine es ?_
 refine sg aC ?_
 refine vs 2 ?_
 refine er ?_
 refine U.da d (λ (f:(Int × Int)) R' H' aa=>R=R'∧H=H'∧aA aa [(0,.int .u64 f.1),(2,iv f.2)])  ?_ ?_
 rotate_right
 ·intro ac d y
  refine sc d ?_ ?_<;>intro T d
  ·refine sg aM ?_
   refine vs 1 ?_
   have ⟨ad,I,d⟩:=ae d
   refine U.s rfl rfl (Ox.shr rfl rfl rfl I rfl (.put rfl) ?_)
   refine vs 1 ?_
   refine er ?_
   refine U.rg aB ?_
   refine vs 1 ?_
   refine er ?_
   exact y _ (au d) _ _ _ ⟨rfl,rfl,aq cg⟩
  refine sp ?_
  exact y _ (au d) _ _ _ ⟨rfl,rfl,aq cg⟩
 rintro f P M Y ⟨rfl,rfl,E⟩ d
 refine U.sub E ?_
 refine sq ?_
 refine sg aC ?_
 refine vs 2 ?_
 refine er ?_
 refine U.da d (λ (g:(Int × Int)) R' H' aa=>R=R'∧H=H'∧aA aa [(0,.int .u64 g.1),(2,iv g.2)])  ?_ ?_
 rotate_right
 ·intro ag d z
  refine sc d ?_ ?_<;>intro V d
  ·refine sg aM ?_
   refine vs 1 ?_
   have ⟨ak,J,d⟩:=ae d
   refine U.s rfl rfl (Ox.shr rfl rfl rfl J rfl (.put rfl) ?_)
   refine vs 1 ?_
   refine er ?_
   refine U.rg aM ?_
   refine vs 3 ?_
   refine er ?_
   exact z _ (au d) _ _ _ ⟨rfl,rfl,aq cg⟩
  refine sp ?_
  exact z _ (au d) _ _ _ ⟨rfl,rfl,aq cg⟩
 rintro g Q N Z ⟨rfl,rfl,F⟩ d
 refine U.sub F ?_
 refine sq ?_
 refine sg aC ?_
 refine vs 2 ?_
 refine er ?_
 refine U.da d (λ (m:(Int × Int)) R' H' aa=>R=R'∧H=H'∧aA aa [(0,.int .u64 m.1),(2,iv m.2)])  ?_ ?_
 rotate_right
 ·intro am d A
  refine sc d ?_ ?_<;>intro W d
  ·refine sg aM ?_
   refine vs 1 ?_
   have ⟨an,K,d⟩:=ae d
   refine U.s rfl rfl (Ox.shr rfl rfl rfl K rfl (.put rfl) ?_)
   refine vs 1 ?_
   refine er ?_
   refine U.rg aM ?_
   refine vs 3 ?_
   refine er ?_
   exact A _ (au d) _ _ _ ⟨rfl,rfl,aq cg⟩
  refine sp ?_
  exact A _ (au d) _ _ _ ⟨rfl,rfl,aq cg⟩
 rintro m S O ab ⟨rfl,rfl,G⟩ d
 refine U.sub G ?_
 refine sg dc ?_
 refine vs 2 ?_
 refine hQ underlying222 underlying5 ?_
 have ⟨ao,L,d⟩:=ae d
 refine U.s rfl rfl (Ox.ri rfl rfl rfl underlying9 L rfl (.put rfl) ?_)
 refine hQ underlying5 underlying3 ?_
 refine vs 2 ?_
 refine er ?_
 cases av d
 exact rt func150 (.tmp rfl .nil) sr (D _ _ _ aG)
theorem y0(f:Int)  {r:Int} (d:kT f=some r):aL af 131 #[.int .u64 f] R H (λ v R' H'=>R=R'∧H=H'∧v=iv r):=by
 unfold kT at d
 refine aY func131 8 λ fr cs g=>?_
 refine sg aB ?_
 refine vs 1 ?_
 refine es ?_
 refine U.cond_false rfl ?_
 refine sp ?_
 refine sg aM ?_
 refine vs 1 ?_
 have ⟨s,m,d⟩:=ae d
 refine U.cv Dn (HY f  m) ?_
 rintro _ _ _ ⟨rfl,rfl,rfl⟩
 refine vs 1 ?_
 refine er ?_
 cases av d
 exact rt func131 (.tmp rfl .nil) sr (g _ _ _ aG)
theorem H5(f:Int)  {r:Int} (d:mq f=some r):aL af 156 #[iv f] R H (λ v R' H'=>R=R'∧H=H'∧v = .int .u64 r):=by
 unfold mq at d
 refine aY func156 7 λ fr cs g=>?_
 refine sg aB ?_
 refine vs 1 ?_
 refine nx bA ?_
 refine vs 1 ?_
 refine hQ underlying3 underlying203 ?_
 have ⟨z,m,d⟩:=ae d
 refine U.cv xy (y0 (IntKind.wrap .u64 f)  m) ?_
 rintro _ _ _ ⟨rfl,rfl,rfl⟩
 have ⟨A,y,d⟩:=ae d
 refine U.s rfl rfl (Ox.shl rfl rfl rfl y rfl (.put rfl) ?_)
 refine vs 1 ?_
 refine er ?_
 cases av d
 exact rt func156 (.tmp rfl .nil) sr (g _ _ _ aG)
theorem H6(y:Int){b0 m:Nat}  {r:(Int × Int)} (d:mv y=some r):aL af 157 #[pT b0] R ((b0,.cells #[.int .u64 y] m)::H) (λ v R' H'=>∃ z,(R=R'∧v = .int .u64 r.2∧z=[(b0,.cells #[.int .u64 r.1] m)])∧H'=z++H):=by
 unfold mv at d
 refine aY func157 33 λ fr cs A=>?_
 refine sg aB ?_
 refine vs 1 ?_
 refine es ?_
 refine U.draw (n:=10) (is:=[0,1,2,3,4,5,6,7,8,9]) (many ((b0,.cells #[.int .u64 y] m)::H) [(9,H)]) mixed rfl (by decide +kernel) rfl rfl ?_
 refine Any.vs 1 [0] rfl ?_
 refine ts 1 [2,7,8,9] rfl (aF rfl (aU (su (so sr)))) (su (so sr)) (λ R' H' f g=>Ox.nilCheck rfl rfl rfl (.one rfl) aG) ?_
 refine ts 2 [7,8,9] rfl (aF rfl (aU pp)) pp (kX iZ 0 z0) ?_
 refine Any.vs 1 [3] rfl ?_
 refine ts 4 [5,6,7,8,9] rfl (aF rfl (aU (su (so sr)))) (su (so sr)) (λ R' H' f g=>Ox.nilCheck rfl rfl rfl (.one rfl) aG) ?_
 refine ts 5 [6,7,8,9] rfl (aF rfl (aU pp)) pp (kX iZ 0 z0) ?_
 have ⟨L,C,d⟩:=ae d
 refine ts 6 [7,8,9] rfl (aF rfl (aU (su (so sr)))) (su (so sr)) (λ R' H' f g=>Ox.shl rfl rfl rfl C rfl (.one rfl) aG) ?_
 have ⟨J,D,d⟩:=ae d
 refine ts 7 [8,9] rfl (aF rfl (aU (su (so sr)))) (su (so sr)) (λ R' H' f g=>Ox.bits rfl rfl rfl D rfl (.one rfl) aG) ?_
 refine ts 8 [9] rfl (aF rfl (aU (su (so sr)))) (su (so sr)) (λ R' H' f g=>Ox.nilCheck rfl rfl rfl (.one rfl) aG) ?_
 refine oS 9 #[_] iZ .here (bo rfl (su (so sr))) ?_
 refine Any.done ?_
 refine sq ?_
 refine U.draw (n:=10) (is:=[0,1,2,3,4,5,6,7,8,9]) (many ((b0,.cells #[.int .u64 J] m)::H) [(9,H)]) mixed rfl (by decide +kernel) rfl rfl ?_
 refine Any.vs 1 [0] rfl ?_
 refine ts 1 [2,7,8,9] rfl (aF rfl (aU (su (so sr)))) (su (so sr)) (λ R' H' f g=>Ox.nilCheck rfl rfl rfl (.one rfl) aG) ?_
 refine ts 2 [7,8,9] rfl (aF rfl (aU pp)) pp (kX iZ 0 z0) ?_
 refine Any.vs 1 [3] rfl ?_
 refine ts 4 [5,6,7,8,9] rfl (aF rfl (aU (su (so sr)))) (su (so sr)) (λ R' H' f g=>Ox.nilCheck rfl rfl rfl (.one rfl) aG) ?_
 refine ts 5 [6,7,8,9] rfl (aF rfl (aU pp)) pp (kX iZ 0 z0) ?_
 have ⟨M,E,d⟩:=ae d
 refine ts 6 [7,8,9] rfl (aF rfl (aU (su (so sr)))) (su (so sr)) (λ R' H' f g=>Ox.shr rfl rfl rfl E rfl (.one rfl) aG) ?_
 have ⟨K,F,d⟩:=ae d
 refine ts 7 [8,9] rfl (aF rfl (aU (su (so sr)))) (su (so sr)) (λ R' H' f g=>Ox.bits rfl rfl rfl F rfl (.one rfl) aG) ?_
 refine ts 8 [9] rfl (aF rfl (aU (su (so sr)))) (su (so sr)) (λ R' H' f g=>Ox.nilCheck rfl rfl rfl (.one rfl) aG) ?_
 refine oS 9 #[_] iZ .here (bo rfl (su (so sr))) ?_
 refine Any.done ?_
 refine sq ?_
 refine U.draw (n:=10) (is:=[0,1,2,3,4,5,6,7,8,9]) (many ((b0,.cells #[.int .u64 K] m)::H) [(9,H)]) mixed rfl (by decide +kernel) rfl rfl ?_
 refine Any.vs 1 [0] rfl ?_
 refine ts 1 [2,7,8,9] rfl (aF rfl (aU (su (so sr)))) (su (so sr)) (λ R' H' f g=>Ox.nilCheck rfl rfl rfl (.one rfl) aG) ?_
 refine ts 2 [7,8,9] rfl (aF rfl (aU pp)) pp (kX iZ 0 z0) ?_
 refine Any.vs 1 [3] rfl ?_
 refine ts 4 [5,6,7,8,9] rfl (aF rfl (aU (su (so sr)))) (su (so sr)) (λ R' H' f g=>Ox.nilCheck rfl rfl rfl (.one rfl) aG) ?_
 refine ts 5 [6,7,8,9] rfl (aF rfl (aU pp)) pp (kX iZ 0 z0) ?_
 have ⟨N,G,d⟩:=ae d
 refine ts 6 [7,8,9] rfl (aF rfl (aU (su (so sr)))) (su (so sr)) (λ R' H' f g=>Ox.shl rfl rfl rfl G rfl (.one rfl) aG) ?_
 have ⟨O,I,d⟩:=ae d
 refine ts 7 [8,9] rfl (aF rfl (aU (su (so sr)))) (su (so sr)) (λ R' H' f g=>Ox.bits rfl rfl rfl I rfl (.one rfl) aG) ?_
 refine ts 8 [9] rfl (aF rfl (aU (su (so sr)))) (su (so sr)) (λ R' H' f g=>Ox.nilCheck rfl rfl rfl (.one rfl) aG) ?_
 refine oS 9 #[_] iZ .here (bo rfl (su (so sr))) ?_
 refine Any.done ?_
 refine sg bb ?_
 refine vs 1 ?_
 refine U.s rfl rfl (Ox.nilCheck rfl rfl rfl (.put rfl) ?_)
 refine ld 0 iZ z0 ?_
 refine vs 1 ?_
 refine er ?_
 cases av d
 exact rt func157 (.tmp rfl .nil) sr (A _ _ _ ⟨_,aG,rfl⟩)
theorem HK(N:(List Int))(x1:Int)(x2:Int){v0:Value}{y:aj}(L:aX CZ 1 3 R v0 N y){r:(List Int)}(d:j3 N x1 x2=some r):aL af 142 #[v0,iv x1,iv x2] R (y++H) (λ v R' H'=>∃ E,(R=R'∧aX CZ 1 3 R' v0 r E∧v = .tuple #[])∧H'=E++H):=by
 unfold j3 at d
 refine aY func142 65 λ fr cs I=>?_
 refine sg bb ?_
 refine vs 4 ?_
 refine nx aC ?_
 refine vs 2 ?_
 refine er ?_
 refine sc d ?_ ?_<;>intro bA d
 ·refine sg bb ?_
  refine vs 1 ?_
  refine hQ underlying3 underlying225 ?_
  refine bu (#[.int .u64 0]) MA λ f=>?_
  refine eC (#[_]) iZ .here ?_
  refine nx aM ?_
  refine vs 1 ?_
  have ⟨O,aT,d⟩:=ae d
  refine U.cv Dr (H5 (i64 (x2 - x1))  aT) ?_
  rintro _ _ _ ⟨rfl,rfl,rfl⟩
  refine vs 1 ?_
  refine nx dc ?_
  refine vs 2 ?_
  have ⟨bL,aV,d⟩:=ae d
  refine U.s rfl rfl (Ox.quo rfl rfl rfl aV rfl (.put rfl) ?_)
  refine vs 4 ?_
  refine er ?_
  refine U.aP ?_
  refine U.cQ d (λ (m:((List Int) × Int × Int)) R' H' aa=>R=R'∧∃ g,aX CZ 1 3 R' v0 m.1 g∧H'=(f,.cells #[.int .u64 m.2.2] 225)::g++(H)∧aA aa [(0,v0),(1,iv x1),(6,iv (i64 (x2 - x1))),(7,pT f),(8,.int .u64 O),(9,iv m.2.1)]) (λ (M:(List Int)) R' H' aa=>R=R'∧∃ z,aX CZ 1 3 R' v0 M z∧H'=z++(H)∧aA aa [(0,v0)]) 0 rfl ⟨rfl,y,L,rfl,aq cS⟩ ?_ ?_
  rotate_right
  ·rintro m bg a9 bF ⟨rfl,g,A,rfl,ao⟩ bM d Q S
   refine U.sub ao ?_
   refine sq ?_
   refine sg cX ?_
   refine vs 3 ?_
   have ⟨bH,ax,d⟩:=ae d
   refine U.s rfl rfl (Ox.quo rfl rfl rfl ax rfl (.put rfl) ?_)
   refine vs 4 ?_
   refine er ?_
   refine sc d ?_ ?_<;>intro bx d
   ·refine sp ?_
    refine sq ?_
    refine U.aP ?_
    refine sg b4 ?_
    have ⟨C,aB,d⟩:=ae d
    refine U.step rfl rfl rfl (Ox.b5 rfl rfl rfl rfl Ds rfl rfl ((aL.hole (G:=(λ X=>X++(g++(H)))) (Hs:=[(f,_)]) .id (H6 m.2.2  aB)).mono ?_))
    rintro _ _ _ ⟨_,⟨rfl,rfl,rfl⟩,rfl⟩
    refine ⟨_,(.put rfl),?_⟩
    refine vs 2 ?_
    have ⟨bI,aG,d⟩:=ae d
    refine U.s rfl rfl (Ox.bits rfl rfl rfl aG rfl (.put rfl) ?_)
    refine hQ underlying203 underlying3 ?_
    refine vs 1 ?_
    refine es ?_
    refine sg aM ?_
    refine vs 3 ?_
    refine er ?_
    refine U.da d (λ (D:Int) R' H' aa=>R=R'∧H'=(f,.cells #[.int .u64 C.1] 225)::g++(H)∧aA aa [(0,v0),(1,iv x1),(6,iv (i64 (x2 - x1))),(7,pT f),(8,.int .u64 O),(9,iv m.2.1),(10,iv D)])  ?_ ?_
    rotate_right
    ·intro bJ d F
     refine sc d ?_ ?_<;>intro bz d
     ·refine U.rg bb ?_
      refine vs 4 ?_
      refine er ?_
      exact F _ (au d) _ _ _ ⟨rfl,rfl,aq fc⟩
     refine sp ?_
     exact F _ (au d) _ _ _ ⟨rfl,rfl,aq fc⟩
    rintro D bf a8 bD ⟨rfl,rfl,an⟩ d
    refine U.sub an ?_
    refine U.draw (n:=20) (is:=[0,1,2,3,4,5,6,7,8,9,10,11,12,13,14,15,16,17,18,19]) (many ((f,.cells #[.int .u64 C.1] 225)::g++(H)) [(17,(f,.cells #[.int .u64 C.1] 225)::H),(19,(f,.cells #[.int .u64 C.1] 225)::H)]) mixed rfl (by decide +kernel) rfl rfl ?_
    refine Any.vs 10 [0,1,2,3,4,5,6,7,8,9] rfl ?_
    have ⟨a4,aH,d⟩:=ae d
    have ⟨a5,aK,d⟩:=ae d
    have ⟨a6,aN,d⟩:=ae d
    have ⟨a7,aO,d⟩:=ae d
    obtain ⟨bi,bB,_,rfl,T,Z⟩:=(A.rd (λ _ h=>(.tail _ (bT _ h)))).elem bd aH
    refine ts 10 [11,16,17,18,19] rfl (aF rfl (aF rfl (aU (su (so (az sr)))))) (su (so (az sr))) (kI Z) ?_
    refine ts 11 [16,17,18,19] rfl (aF rfl (aF rfl (aU pp))) pp (kA aI 0 T pp) ?_
    refine Any.vs 2 [12,13] rfl ?_
    obtain ⟨bk,bC,_,rfl,V,ab⟩:=(A.rd (λ _ h=>(.tail _ (bT _ h)))).elem bd aK
    refine ts 14 [15,16,17,18,19] rfl (aF rfl (aF rfl (aU (su (so (az sr)))))) (su (so (az sr))) (kI ab) ?_
    refine ts 15 [16,17,18,19] rfl (aF rfl (aF rfl (aU pp))) pp (kA aI 0 V pp) ?_
    obtain ⟨bm,bp,_,rfl,rfl,br,W,ac,bt,a1,ar⟩:=A.dI bd aN
    refine ts 16 [17,18,19] rfl (aF rfl (aF rfl (aU (su (so (so sr)))))) (su (so (so sr))) (kI ac) ?_
    refine Any.on 17 rfl rfl (aJ.to (Ox.dJ (K:=CZ) (k:=1) (e:=3) (i:=m.2.1) (x':=a4) (pre:=[]) (mid:=[iv a6]) (post:=[]) (.cons .id) rfl rfl rfl rfl ed rfl (aW rfl bl) W rfl rfl rfl a1 ar rfl rfl (.refl _) λ be ak=>⟨rr,(bo rfl (su (sk (az sr)))),?_⟩))
    obtain ⟨bn,bq,_,rfl,rfl,bs,Y,ad,bv,a2,aw⟩:=ak.dI bd aO
    refine ts 18 [19] rfl (aF rfl (aF rfl (aU (su (so (so sr)))))) (su (so (so sr))) (kI ad) ?_
    refine Any.on 19 rfl rfl (aJ.to (Ox.dJ (K:=CZ) (k:=1) (e:=3) (i:=i64 (x1+D)) (x':=a5) (pre:=[]) (mid:=[iv a7]) (post:=[]) (.cons .id) rfl rfl rfl rfl ed rfl (aW rfl bl) Y rfl rfl rfl a2 aw rfl rfl (.refl _) λ P am=>⟨rr,(bo rfl (su (sk (az sr)))),?_⟩))
    refine Any.done ?_
    refine U.a0 ?_
    refine U.rg aM ?_
    refine vs 3 ?_
    refine er ?_
    exact Q _ (au d) _ _ _ ⟨rfl,P,am,rfl,aq cS⟩
   exact U.bw rfl (U.aR (so sr) (S _ (au d) _ _ _ ⟨rfl,g,A,rfl,aq eD⟩))
  rintro M bh ba bG ⟨rfl,z,ag,rfl,ap⟩ d
  refine U.sub ap ?_
  cases av d
  exact U.g7 func142 .nil (J.drop sr (I _ _ _ ⟨z,⟨rfl,ag,rfl⟩,rfl⟩))
 refine sp ?_
 cases av d
 exact U.g7 func142 .nil (J.drop sr (I _ _ _ ⟨y,⟨rfl,L,rfl⟩,rfl⟩))
theorem uy(A:(List Int))(x1:Int)(x2:Int)(x3:Int){v0:Value}{f m:Nat}(y:bE CZ 1 R H v0 A){r:(Int × Int × Int)}(d:h9 A x1 x2 x3=some r):aL af 162 #[v0,iv x1,iv x2,pT f] R ((f,.cells #[iv x3] m)::H) (λ v R' H'=>∃ g,(R=R'∧v = .tuple #[iv r.2.1,iv r.2.2]∧g=[(f,.cells #[iv r.1] m)])∧H'=g++H):=by
 unfold h9 at d
 refine aY func162 28 λ fr cs z=>?_
 refine sg aC ?_
 refine vs 2 ?_
 refine es ?_
 refine sq ?_
 refine U.dw dW mixed ?_
 refine Any.vs 2 [0,1] rfl ?_
 have ⟨K,G,d⟩:=ae d
 have ⟨L,I,d⟩:=ae d
 have ⟨S,J,d⟩:=ae d
 obtain ⟨M,P,_,rfl,C,E⟩:=y.elem bd G
 refine tQ 2 rfl (kI E) ?_
 refine tQ 3 rfl (kA aI 0 C (su (so sr))) ?_
 refine Any.vs 2 [4,5] rfl ?_
 obtain ⟨N,Q,_,rfl,D,F⟩:=y.elem bd I
 refine tQ 6 rfl (kI F) ?_
 refine tQ 7 rfl (kA aI 0 D (su (so sr))) ?_
 refine Any.cv 8 g8 (hh K L  J) ?_
 rintro _ _ _ ⟨rfl,rfl,rfl⟩
 refine kp ?_
 refine Any.done ?_
 refine sc d ?_ ?_<;>intro O d
 ·refine sg b4 ?_
  refine vs 1 ?_
  refine U.s rfl rfl (Ox.nilCheck rfl rfl rfl (.put rfl) ?_)
  refine ld 0 aI z0 ?_
  refine vs 1 ?_
  refine U.s rfl rfl (Ox.nilCheck rfl rfl rfl (.put rfl) ?_)
  refine eC (#[_]) aI .here ?_
  refine nx bb ?_
  refine vs 4 ?_
  refine er ?_
  cases av d
  exact rt func162 (.tmp rfl (.tmp rfl .nil)) sr (z _ _ _ ⟨_,aG,rfl⟩)
 refine sp ?_
 refine sg bb ?_
 refine vs 4 ?_
 refine er ?_
 cases av d
 exact rt func162 (.tmp rfl (.tmp rfl .nil)) sr (z _ _ _ ⟨_,aG,rfl⟩)
theorem uu(g:(List Int))(x1:Int)(x2:Int)(x3:Int)(x4:Int){v0:Value}{f z:Nat}(m:bE CZ 1 R H v0 g){r:(Int × Int)}(d:iS g x1 x2 x3 x4=some r):aL af 159 #[v0,iv x1,iv x2,iv x3,pT f] R ((f,.cells #[iv x4] z)::H) (λ v R' H'=>∃ y,(R=R'∧v=iv r.2∧y=[(f,.cells #[iv r.1] z)])∧H'=y++H):=by
 unfold iS at d
 refine aY func159 36 λ fr cs C=>?_
 refine sg aB ?_
 refine vs 1 ?_
 refine nx fz ?_
 refine vs 4 ?_
 have ⟨s,D,d⟩:=ae d
 refine U.step rfl rfl rfl (Ox.b5 rfl rfl rfl rfl tq rfl rfl ((aL.hole (G:=(λ X=>X++(H))) (Hs:=[(f,_)]) .id (uy g x1 x2 x4 (m.sub pp) D)).mono ?_))
 rintro _ _ _ ⟨_,⟨rfl,rfl,rfl⟩,rfl⟩
 refine ⟨_,(.put rfl),?_⟩
 refine vs 5 ?_
 refine nx fz ?_
 refine vs 4 ?_
 have ⟨A,E,d⟩:=ae d
 refine U.step rfl rfl rfl (Ox.b5 rfl rfl rfl rfl tq rfl rfl ((aL.hole (G:=(λ X=>X++(H))) (Hs:=[(f,_)]) .id (uy g s.2.2 x3 s.1 (m.sub pp) E)).mono ?_))
 rintro _ _ _ ⟨_,⟨rfl,rfl,rfl⟩,rfl⟩
 refine ⟨_,(.put rfl),?_⟩
 refine vs 5 ?_
 refine nx fz ?_
 refine vs 4 ?_
 have ⟨I,F,d⟩:=ae d
 refine U.step rfl rfl rfl (Ox.b5 rfl rfl rfl rfl tq rfl rfl ((aL.hole (G:=(λ X=>X++(H))) (Hs:=[(f,_)]) .id (uy g s.2.1 A.2.1 A.1 (m.sub pp) F)).mono ?_))
 rintro _ _ _ ⟨_,⟨rfl,rfl,rfl⟩,rfl⟩
 refine ⟨_,(.put rfl),?_⟩
 refine vs 5 ?_
 refine nx aC ?_
 refine vs 2 ?_
 refine er ?_
 cases av d
 exact rt func159 (.tmp rfl .nil) sr (C _ _ _ ⟨_,aG,rfl⟩)
end
end Go.Proofs.YtoaoffinglajbaaGreatDoor
