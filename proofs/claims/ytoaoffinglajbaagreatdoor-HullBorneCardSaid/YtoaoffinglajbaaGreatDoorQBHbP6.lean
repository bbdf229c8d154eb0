/- Walks, part 6: each function computes its model. -/
import Derived.Test.YtoaoffinglajbaaGreatDoorQBHbP5
namespace Go.Proofs.YtoaoffinglajbaaGreatDoor
open Go.Lg Go.Proofs Tryz
set_option maxRecDepth 100000
set_option maxHeartbeats 4000000
section
variable {B:Base} {main:Bool} {af:Jd prog B main} {R:ay} {H:aj}
theorem Jr(d:an)(x1:(List Int)){L M N v1:Value}{F:Nat}(y:ah bz 5 R L d.ao)(s:ah CZ 1 R M d.Out)(G:ah bq 2 R N d.aV)(m:aK R H F 0 [v1])(A:ah CZ 1 R v1 x1){r:Int}(f:lu d x1=some r):aL af 84 #[.agg #[iv d.ax,iv d.ad.ai,iv d.ad.ak,L,M,N],pT F] R H (λ v R' H'=>aH R R'∧H=H'∧v=iv r):=by
 unfold lu at f
 refine aY func84 32 λ fr cs J=>?_
 refine sg aC ?_
 refine bx λ Q=>?_
 refine vs 1 ?_
 refine es ?_
 refine sq ?_
 have ⟨O,T,f⟩:=ae f
 have ⟨W,K,f⟩:=ae f
 refine U.cut (λ R' H' aa=>aH R R'∧H'=(Q,.cells #[iv d.ax,iv d.ad.ai,iv d.ad.ak,L,M,N] 115)::H∧aA aa [(1,pT F),(2,pT Q),(5,iv W.2)]) ?_ ?_
 ·rintro Z Y ap ⟨C,rfl,V⟩
  refine U.sub V ?_
  have ⟨y,s,A⟩:=cH C y s A
  replace m:=m.le C
  refine sg aC ?_
  refine vs 2 ?_
  refine er ?_
  refine sc f ?_ ?_<;>intro ag f
  ·refine sg aC ?_
   refine vs 2 ?_
   refine er ?_
   cases av f
   exact rt func84 (.tmp rfl .nil) (so sr) (J _ _ _ ⟨C,br⟩)
  refine sp ?_
  refine sq ?_
  refine sg gW ?_
  refine vs 2 ?_
  refine ld 4 cb z0 ?_
  refine ls s underlying25 ?_
  refine U.ld cb ((m.sub (su (so sr))).one (j:=0) rfl) ?_
  refine ls A underlying25 ?_
  refine vs 3 ?_
  refine ld 3 cZ z0 ?_
  refine ls y underlying24 ?_
  refine vs 1 ?_
  refine er ?_
  refine sc f ?_ ?_<;>intro am f
  ·refine sg aB ?_
   refine vs 1 ?_
   refine er ?_
   cases av f
   exact rt func84 (.tmp rfl .nil) (so sr) (J _ _ _ ⟨C,br⟩)
  refine sp ?_
  refine sg aB ?_
  refine vs 1 ?_
  refine er ?_
  cases av f
  exact rt func84 (.tmp rfl .nil) (so sr) (J _ _ _ ⟨C,br⟩)
 intro I
 refine U.dw ko mixed ?_
 refine tN 0 [_,_,_,_,_,_] 0 6 dA z0 ?_
 refine Any.tk 1 rfl pp (λ R' H' ab ac=>Ox.iG (z:=(bW [false,false,false,false,false])) rfl iE rfl (.one rfl) aG) ?_
 refine Any.vs 2 [2,3] rfl ?_
 refine tl 4 4 cb z0 ?_
 refine tQ 6 rfl (kA cb 0 m (su (so sr))) ?_
 refine tw 5 11 ?_ ?_
 ·refine  (Ox.b5 rfl rfl rfl rfl eK rfl rfl ((eL [false,false,false,false,false] d.Out rfl s.rd T).mono ?_))
  rintro _ _ _ ⟨rfl,rfl,E,rfl⟩
  refine ⟨_,(.put rfl),⟨rr,ka,?_⟩⟩
  refine tw 7 11 ?_ ?_
  ·refine  (Ox.b5 rfl rfl rfl rfl h4 rfl rfl ((ie d O x1 y s G E A.rd K).mono ?_))
   rintro _ P _ ⟨g,rfl,D,rfl⟩
   replace m:=m.le g
   refine ⟨_,(.put rfl),⟨g,ka,?_⟩⟩
   refine Any.vs 3 [8,9,10] rfl ?_
   refine Any.on 11 rfl rfl (aJ.to (Ox.alloc (cs:=(bW [false,false,false,false,false])) rfl fS rfl λ S _ _=>⟨_,(.put rfl),⟨rr,(ku (so sr)),?_⟩⟩))
   refine oW 12 cR D .here (ku (so sr)) ?_
   refine Any.vs 1 [13] rfl ?_
   exact Any.done (U.aR (so sr) (I _ _ _ ⟨g,rfl,aq du⟩))
  refine  (aJ.to (Ox.alloc (cs:=(bW [false,false,false,false,false])) rfl fS rfl λ S _ _=>⟨_,(.put rfl),⟨rr,(ku (so sr)),?_⟩⟩))
  refine Any.cv 7 h4 (ie d O x1 y s G E A.rd K) ?_
  rintro _ P _ ⟨g,rfl,D,rfl⟩
  replace m:=m.le g
  refine ⟨g,(ku (so sr)),?_⟩
  refine Any.vs 3 [8,9,10] rfl ?_
  refine oW 12 cR D .here (ku (so sr)) ?_
  refine Any.vs 1 [13] rfl ?_
  exact Any.done (U.aR (so sr) (I _ _ _ ⟨g,rfl,aq du⟩))
 refine  (aJ.to (Ox.alloc (cs:=(bW [false,false,false,false,false])) rfl fS rfl λ S _ _=>⟨_,(.put rfl),⟨rr,(ku (so sr)),?_⟩⟩))
 refine Any.cv 5 eK (eL [false,false,false,false,false] d.Out rfl s.rd T) ?_
 rintro _ _ _ ⟨rfl,rfl,E,rfl⟩
 refine ⟨rr,(ku (so sr)),?_⟩
 refine Any.cv 7 h4 (ie d O x1 y s G E A.rd K) ?_
 rintro _ P _ ⟨g,rfl,D,rfl⟩
 replace m:=m.le g
 refine ⟨g,(ku (so sr)),?_⟩
 refine Any.vs 3 [8,9,10] rfl ?_
 refine oW 12 cR D .here (ku (so sr)) ?_
 refine Any.vs 1 [13] rfl ?_
 exact Any.done (U.aR (so sr) (I _ _ _ ⟨g,rfl,aq du⟩))
theorem Jt(m:bm)(x1:cN)(x2:(List Int)){aa ab ac ag am v2:Value}{S V:Nat}(O:m.weights.length=5)(f:aK R H S 0 [iv x1.book.ax,iv x1.book.ad.ai,iv x1.book.ad.ak,aa,ab,ac,ag,am])(C:ah bz 5 R aa x1.book.ao)(D:ah CZ 1 R ab x1.book.Out)(E:ah bq 2 R ac x1.book.aV)(_:ah eA 6 R ag x1.cW)(_:gL R am x1.hq)(N:aK R H V 0 [v2])(aI:ah CZ 1 R v2 x2){r:Bool}(d:lx m x1 x2=some r):aL af 86 #[.agg (List.toArray ([iv m.eb]++(m.weights.map (Value.int .i64)++[]))),pT S,pT V] R H (λ v R' H'=>aH R R'∧H=H'∧v = .bool r):=by
 unfold lx at d
 refine aY func86 19 λ fr cs Y=>?_
 refine sg aC ?_
 refine bx λ W=>?_
 refine bu (#[.bool false]) vL λ L=>?_
 refine es ?_
 refine sg bb ?_
 refine vs 1 ?_
 refine U.s rfl rfl (Ox.bB (vs:=[_,_,_,_,_,_]) rfl rfl dA rfl ((f.sub (su (so (so sr)))).part (j:=0) (n:=6) rfl) rfl (.put rfl) ?_)
 refine U.ld cb ((N.sub (su (so (so sr)))).one (j:=0) rfl) ?_
 have ⟨M,aU,d⟩:=ae d
 refine U.cv tH (uN x1.book x2 C D E aI aU) ?_
 rintro _ Q _ ⟨I,rfl,bD,bF,bG,bn,bH,bo,a5,a1,a2,a4,a7,a6,rfl⟩
 have ⟨C,D,E⟩:=cH I C D E
 replace f:=f.le I
 replace N:=N.le I
 refine er ?_
 refine U.aP ?_
 refine U.rX (A:=(eT (qu Value.bool 5))) (λ y s=>hf y M.1 M.2 s) .ret d rfl ti rfl rfl rfl (λ (P:Unit) R' T H'=>aH Q R'∧H'=(L,.cells #[.bool false] 4)::(W,.cells (List.toArray ([iv m.eb]++(m.weights.map (Value.int .i64)++[]))) 118)::T) (λ (Z:Unit) R' T H'=>aH Q R'∧H'=(L,.cells #[.bool false] 4)::T) (λ P aq aw an q=>by obtain ⟨g,rfl⟩:=q; exact ⟨(L,.cells #[.bool false] 4)::(W,.cells (List.toArray ([iv m.eb]++(m.weights.map (Value.int .i64)++[]))) 118)::[],by simp,λ R1 az h=>⟨g.trans h,by simp⟩⟩) (λ Z aq aw an q=>by obtain ⟨g,rfl⟩:=q; exact ⟨(L,.cells #[.bool false] 4)::[],by simp,λ R1 az h=>⟨g.trans h,by simp⟩⟩) (λ v Inv Hy z aO aJ ba=>(uo aO M.1 M.2 aJ a5 a1 a2 a4 a7 a6 ba).mono λ _ _ _ h=>⟨h.1,h.2.1⟩) ⟨rr,rfl⟩ ?_ ?_ ?_
 ·rintro bd P ar ap _ ⟨F,rfl⟩ d
  replace f:=f.le F
  refine U.a0 ?_
  refine sg aB ?_
  refine eC (#[_]) eN .here ?_
  refine er ?_
  cases av d
  exact U.hn (.there (.there .here)) func86 (.one rfl eN ((aK.box z0).one (j:=0) rfl) .nil) (J.drop (so (so (so sr))) (Y _ _ _ ⟨(I.trans F),br⟩))
 ·rintro bd Z bh ap _ ⟨aM,rfl⟩ d
  cases av d
  exact U.hn (.there .here) func86 (.one rfl eN ((aK.box z0).one (j:=0) rfl) .nil) (J.drop (so (so sr)) (Y _ _ _ ⟨(I.trans aM),br⟩))
 rintro bC be P ar bi bg bw bA bp _ aN ⟨_,rfl,⟨K,rfl⟩⟩ ⟨F,rfl⟩ aT bJ d aA aF
 have ⟨C,D,E⟩:=cH F C D E
 replace f:=f.le F
 replace f:=f.sub (List.Sublist.subset aN)
 refine U.rg aC ?_
 refine bu (bW [false,false,false,false,false]) fS λ bk=>?_
 refine U.s rfl rfl (Ox.cG (cs':=_) rfl rfl rfl cR (by simp [K]) (cj bl (cj (ej λ _=>rfl) bl)) .here (by simp) (eo (by simp [K])) rfl (.refl _) ?_)
 refine er ?_
 refine U.beginRound rfl rfl (.there (.there (.there .here))) aT ?_
 refine U.aP ?_
 refine sq ?_
 refine U.dw cX mixed ?_
 refine Any.vs 1 [0] rfl ?_
 refine Any.tk 1 rfl pp (λ R' H' g G=>Ox.bB (vs:=[_,_,_,_,_,_]) rfl rfl dA rfl (((f.le g).sub (λ p h=>G p ((su (so (so (so (so sr))))) p h))).part (j:=0) (n:=6) rfl) rfl (.one rfl) aG) ?_
 refine Any.vs 1 [2] rfl ?_
 refine Any.tk 3 rfl pp (λ R' H' g G=>Ox.bB (vs:=[_,_,_,_,_,_]) rfl rfl dA rfl (((f.le g).sub (λ p h=>G p ((su (so (so (so (so sr))))) p h))).part (j:=0) (n:=6) rfl) rfl (.one rfl) aG) ?_
 refine Any.tk 4 rfl pp (λ R' H' g G=>Ox.bB (vs:=_) rfl rfl dT (by simp [O]) ((aK.box (G _ z2)).part (j:=0) (n:=6) (dd (by simp [O]))) rfl (.one rfl) aG) ?_
 refine Any.tk 5 rfl pp (λ R' H' g G=>Ox.bB (vs:=_) rfl rfl cR (by simp [K]) ((aK.box (G _ z0)).part (j:=0) (n:=5) (dd (by simp [K]))) rfl (.one rfl) aG) ?_
 have ⟨bf,a8,d⟩:=ae d
 refine Any.cv 6 kG (ln x1.book m be C D E O K a8) ?_
 rintro _ _ _ ⟨rfl,rfl,rfl⟩
 refine kp ?_
 have ⟨bI,a9,d⟩:=ae d
 refine Any.cv 7 tE (uK x1.book bf C D E a9) ?_
 rintro _ _ _ ⟨rfl,rfl,rfl⟩
 refine kp ?_
 refine Any.done ?_
 refine sc d ?_ ?_<;>intro bv d
 ·refine sg aB ?_
  refine eC (#[_]) eN (.there .here) ?_
  refine er ?_
  exact U.aR (so (sk (so sr))) (aF _ (au d) _ _ _ _ (rr) ⟨F,rfl⟩ (.inr (.inl ⟨_,br⟩)))
 refine sp ?_
 refine U.a0 ?_
 exact U.aR (so sr) (aA _ (au d) _ _ _ (rr) ⟨F,rfl⟩)
theorem pI(m:an)(x1:(List Int)){T V W v1:Value}(ab:dX R)(Y:ah bz 5 R T m.ao)(Z:ah CZ 1 R V m.Out)(aa:ah bq 2 R W m.aV)(d:ah CZ 1 R v1 x1){r:(Int × Int)}(f:ia m x1=some r):aL af 34 #[.agg #[iv m.ax,iv m.ad.ai,iv m.ad.ak,T,V,W],v1] R H (λ v R' H'=>aH R R'∧H=H'∧v = .tuple #[iv r.1,iv r.2]):=by
 unfold ia at f
 refine aY func34 20 λ fr cs S=>?_
 refine sg bb ?_
 refine bx λ M=>?_
 refine U.s rfl rfl (Ox.iF rfl rfl d.cells rfl λ N _ _=>⟨_,(.put rfl),?_⟩)
 refine vs 2 ?_
 refine nx dW ?_
 refine lN [_,_,_,_,_,_] 0 6 a7 z1 ?_
 refine U.s rfl rfl (Ox.makeFunc (vs:=#[]) (us:=#[_]) rfl rfl rfl rfl (.put rfl) ?_)
 have ⟨L,ag,f⟩:=ae f
 refine U.cv hE (hO m (λ y=>lu y x1) ab Y Z aa ⟨84,#[],#[_],rfl,Et,λ R' H' g z y r va I K=>by obtain ⟨_,rfl,⟨aU,a1,a2,aq,ar,au,rfl⟩⟩:=I; exact (Jr y x1 aq ar au (aK.box (z _ z0)) (d.mono g) K).mono λ _ _ _ ⟨d,F,G⟩=>⟨d,F.symm,G⟩⟩ ag) ?_
 rintro _ aG _ ⟨J,aB,aN,aO,aP,aR,aT,A,C,D,E,am,rfl,rfl⟩
 replace d:=d.mono J
 refine vs 3 ?_
 refine bu (#[iv 0,iv 0,iv 0,aw,aw,aw,aw,.map none]) g1 λ O=>?_
 refine bC (#[_,_,_,_,_,_,_,_]) dM .here ?_
 refine vs 1 ?_
 refine es ?_
 refine sg aC ?_
 refine vs 2 ?_
 refine er ?_
 refine sc f ?_ ?_<;>intro aJ f
 ·refine sg aM ?_
  refine vs 3 ?_
  refine er ?_
  cases av f
  exact rt func34 (.tmp rfl (.tmp rfl .nil)) (so (az (so (so sr)))) (S _ _ _ ⟨J,br⟩)
 refine sp ?_
 refine sg bA ?_
 refine lN [_,_,_,_,_,_,_,_] 0 8 dM z0 ?_
 refine U.s rfl rfl (Ox.makeFunc (vs:=#[]) (us:=#[_,_]) rfl rfl rfl rfl (.put rfl) ?_)
 refine U.o8 (H2:=(O,_)::(N,_)::(M,_)::H) (λ X=>(O,_)::X++((N,_)::(M,_)::H)) (.cons .id) rfl am (λ aF P Q=>?_)
 have ⟨d,A,C,D,E⟩:=oe P d A C D E
 have ⟨a4,ap,f⟩:=ae f
 refine U.cv xJ (zp L.1 (λ y=>lx y L.1 x1) A C D E Q ⟨86,#[],#[_,_],rfl,Eu,λ R' H' g z y r va I K=>by obtain ⟨_,rfl,⟨aA,rfl⟩⟩:=I; exact (Jt y L.1 x1 aA (aK.box (z _ z0)) (A.mono g) (C.mono g) (D.mono g) (E.mono g) (Q.mono g) (aK.box (z _ z1)) (d.mono g) K).mono λ _ _ _ ⟨d,F,G⟩=>⟨d,F.symm,G⟩⟩ ap) ?_
 rintro _ aI _ ⟨ac,rfl,rfl⟩
 refine vs 2 ?_
 refine er ?_
 cases av f
 exact rt func34 (.tmp rfl (.tmp rfl .nil)) (so (so (so sr))) (S _ _ _ ⟨((J.trans P).trans ac),br⟩)
theorem ly(m:(List Int)){v0:Value}(g:bE CZ 1 R H v0 m){r:List Int}(d:iU m=some r):aL af 90 #[v0] R H (λ v R' H'=>aH R R'∧∃ w Hs,aX CZ 1 3 R' w r Hs∧H'=Hs++H∧v=w):=by
 rcases g.p6 with ⟨z,rfl,rfl⟩ | ⟨E,G,z,rfl⟩
 ·have d:some ([]:List Int)=some r:=by simpa [iU,cu] using d
  refine aY func90 8 λ fr cs f=>?_
  refine sg aB ?_
  refine vs 1 ?_
  refine es ?_
  refine sg aC ?_
  refine vs 1 ?_
  refine U.s rfl rfl (Ox.jn rfl rfl rfl underlying25 rfl rfl (.put rfl) ?_)
  refine er ?_
  refine U.cond_true rfl ?_
  refine sg aB ?_
  refine vs 1 ?_
  refine er ?_
  cases av d
  exact rt func90 (.tmp rfl .nil) sr (f _ _ _ ⟨(rr),aw,[],aX.nil,br⟩)
 ·unfold iU at d
  refine aY func90 8 λ fr cs f=>?_
  refine sg aB ?_
  refine vs 1 ?_
  refine es ?_
  refine sg aC ?_
  refine vs 1 ?_
  refine U.s rfl rfl (Ox.jn rfl rfl rfl underlying25 rfl rfl (.put rfl) ?_)
  refine er ?_
  refine U.cond_false rfl ?_
  refine sp ?_
  refine sg bb ?_
  refine dt (#[]) cw qG λ F=>?_
  refine vs 1 ?_
  have ⟨I,C,d⟩:=ae d
  refine U.s rfl rfl (Ox.append (K:=CZ) (λ X=>X++(H)) rfl rfl rfl eh underlying25 (by simp) .id (aX.lit (aO.le aO.nil rfl) rfl) (g.sub (su (so sr))).arg C rfl λ D y A=>⟨_,(.put rfl),?_⟩)
  refine vs 1 ?_
  refine er ?_
  cases av d
  exact rt func90 (.tmp rfl .nil) sr (f _ _ _ ⟨(rr),D,y,A,br⟩)
theorem Hg{S:Type}{ys:(List Int)→S→Option (S × Bool)}{bC:Value}(k:Nat):∀ {Inv:S→ay→aj→Prop} {R:ay} {Hy:aj} (_:eI af R (oO CZ 1) bC ys Inv) (am:(List Int)) (x1:(List Bool)) (x2:an) {bi:S} (_:Inv bi R Hy) {v0 bm bn bo:Value} {a9 ba a6:Nat} (_:ah CZ 1 R v0 am) (_:x1.length=5) (_:aK R [] a9 0 [iv x2.ax,iv x2.ad.ai,iv x2.ad.ak,bm,bn,bo]) (_:ah bz 5 R bm x2.ao) (_:ah CZ 1 R bn x2.Out) (_:ah bq 2 R bo x2.aV) (_:aK R [] ba 0 [bC]) (_:aK R [] a6 0 [.func (.func 120) #[] #[pT a9,pT ba,pT a6]]) {r:(S × Bool)} (_:j2 ys k am x1 x2 bi=some r),aL af 120 #[v0,.agg (bW x1),pT a9,pT ba,pT a6] R Hy (λ v R' H'=>aH R R'∧Inv r.1 R' H'∧v = .bool r.2):=by
 induction k with
 | zero=>intro Inv R Hy f am x1 x2 bi a8 v0 bm bn bo a9 ba a6 E Y C y z A m D r M; exact absurd M (by simp [j2])
 | succ k aT =>
  intro Inv R Hy f am x1 x2 bi a8 v0 bm bn bo a9 ba a6 E Y C y z A m D r M
  rw [j2] at M
  refine aY func120 39 λ fr cs bt=>?_
  refine sg aC ?_
  refine bx λ I=>?_
  refine vs 1 ?_
  refine es ?_
  have ⟨bF,bY,M⟩:=ae M
  refine U.rg bb ?_
  refine U.s rfl rfl (Ox.bB (vs:=[_,_,_,_,_,_]) rfl rfl dA rfl (C.any.part (j:=0) (n:=6) rfl) rfl (.put rfl) ?_)
  refine U.s rfl rfl (Ox.bB (vs:=_) rfl rfl cR (by simp [Y]) ((aK.box z0).part (j:=0) (n:=5) (dd (by simp [Y]))) rfl (.put rfl) ?_)
  refine U.cv tF (uL x2 x1 y z A Y bY) ?_
  rintro bD bu _ ⟨ag,rfl,_,G,rfl⟩
  have ⟨E,y,z,A⟩:=di ag E y z A
  replace a8:=f.mono (rr) ag a8
  replace C:=C.up (H:=[]) ag
  replace m:=m.up (H:=[]) ag
  replace D:=D.up (H:=[]) ag
  replace f:=f.up ag
  refine vs 1 ?_
  refine es ?_
  refine sg aM ?_
  refine vs 1 ?_
  refine ls G underlying25 ?_
  refine vs 1 ?_
  refine er ?_
  refine sc M ?_ ?_<;>intro ce M
  ·refine sq ?_
   have ⟨cm,b1,M⟩:=ae M
   refine U.rg bb ?_
   refine U.ld J8 (m.any.one (j:=0) rfl) ?_
   refine vs 1 ?_
   refine U.qg rfl rfl rfl rfl rfl rfl rfl rfl ((f.call [(I,_)] (rr) a8 E b1).mono ?_)
   rintro _ cb _ ⟨bh,rfl,bI,bO,bs⟩
   replace bs:_=(I,_)::bI:=bs
   subst bs
   replace E:=E.mono bh
   replace m:=m.up (H:=[]) bh
   replace f:=f.up bh
   refine ⟨_,(.put rfl),?_⟩
   refine vs 1 ?_
   refine er ?_
   cases av M
   exact rt func120 (.tmp rfl .nil) (so sr) (bt _ _ _ ⟨(ag.trans bh),bO,rfl⟩)
  refine sp ?_
  refine sq ?_
  refine sg aM ?_
  refine vs 1 ?_
  refine ls G underlying25 ?_
  refine vs 1 ?_
  refine er ?_
  refine U.aP ?_
  refine U.dy M (λ (bk:(S × Int)) R' H' aa=>aH bu R'∧∃ P,Inv bk.1 R' P∧H'=(I,.cells (bW x1) 124)::P∧aA aa [(0,v0),(4,pT a6),(6,pT I),(20,bD),(21,iv (bF.length:Int)),(22,iv bk.2)]) (λ (bA:S) R' H' aa=>aH bu R'∧∃ br,Inv bA R' br∧br=H'∧aA aa []) 0 rfl ⟨rr,Hy,a8,rfl,aq cS⟩ ?_ ?_
  rotate_right
  ·rintro bk bJ b4 ci ⟨ac,P,L,rfl,bT⟩ cn M bL bM b3
   refine U.sub bT ?_
   have ⟨E,y,z,A⟩:=di ac E y z A
   replace C:=C.up (H:=[]) ac
   replace m:=m.up (H:=[]) ac
   replace D:=D.up (H:=[]) ac
   replace G:=G.mono ac
   replace f:=f.up ac
   refine sg aB ?_
   refine vs 1 ?_
   refine es ?_
   refine sc M ?_ ?_<;>intro cf M
   ·refine sp ?_
    refine sq ?_
    refine U.aP ?_
    refine sq ?_
    have ⟨T,b2,M⟩:=ae M
    refine U.rg aM ?_
    obtain ⟨cc,ch,_,rfl,bQ,bS⟩:=G.elem bd b2
    refine bX bS ?_
    refine U.ld aI (bQ.any.one (j:=0) rfl) ?_
    refine vs 1 ?_
    refine es ?_
    have ⟨co,be,M⟩:=ae M
    have ⟨aU,aw,M⟩:=ae M
    have ⟨a1,aF,M⟩:=ae M
    have ⟨bG,aN,M⟩:=ae M
    refine U.cut (λ R' H' aa=>aH bJ R'∧∃ (Q:aj),Inv bG.1 R' Q∧H'=(I,.cells (bW x1) 124)::Q∧aA aa [(0,v0),(4,pT a6),(6,pT I),(20,bD),(21,iv (bF.length:Int)),(22,iv bk.2),(37,.bool (!bG.2))]) ?_ ?_
    ·rintro b9 b7 ck ⟨ap,Q,V,rfl,bV⟩
     refine U.sub bV ?_
     have ⟨E,y,z,A⟩:=di ap E y z A
     replace C:=C.up (H:=[]) ap
     replace m:=m.up (H:=[]) ap
     replace D:=D.up (H:=[]) ap
     replace G:=G.mono ap
     replace f:=f.up ap
     refine sc M ?_ ?_<;>intro cg M
     ·refine sg aB ?_
      refine vs 1 ?_
      refine er ?_
      replace M:=b3 _ (au M)
      cases av M
      exact rt func120 (.tmp rfl .nil) (so sr) (bt _ _ _ ⟨((ag.trans ac).trans ap),V,rfl⟩)
     refine sp ?_
     refine U.a0 ?_
     refine U.rg aC ?_
     refine vs 2 ?_
     refine er ?_
     exact bL _ (au M) _ _ _ ⟨(ac.trans ap),Q,V,rfl,aq cS⟩
    intro ar
    refine U.draw (n:=12) (is:=[0,1,2,3,4,5,6,7,8,9,10,11]) (λ _=>(I,.cells (bW x1) 124)::[]) mixed rfl (by decide +kernel) rfl rfl ?_
    refine ts 0 [10,11] rfl (λ _ _ _ _ _ h=>h) (su (sk sn)) (kU u9 0 D) ?_
    refine Any.vs 2 [1,3] rfl ?_
    refine ts 6 [9,10,11] rfl (λ _ _ _ _ _ h=>h) (su (sk sn)) (λ R' H' cd bP=>Ox.bB (vs:=_) rfl rfl cR (by simp [Y]) ((aK.box (bP _ z0)).part (j:=0) (n:=5) (dd (by simp [Y]))) rfl (.one rfl) aG) ?_
    refine Any.vs 1 [7] rfl ?_
    refine Any.AR (i:=2) (j:=4) (l:=8) (ra:=[4,5,8,9,10,11]) (rb:=[2,5,8,9,10,11]) (rc:=[2,4,5,9,10,11]) rfl rfl rfl (by decide +kernel) rfl rfl rfl (by decide) rfl rfl rfl ?_ ?_ ?_
    ·refine  (Ox.b5 rfl rfl rfl rfl kH rfl rfl ((ly am E.rd be).mono ?_))
     rintro bp bg _ ⟨F,_,bf,ab,rfl,rfl⟩
     have ⟨E,y,z,A⟩:=di F E y z A
     replace L:=f.mono (rr) F L
     replace C:=C.up (H:=[]) F
     replace m:=m.up (H:=[]) F
     replace D:=D.up (H:=[]) F
     replace G:=G.mono F
     replace f:=f.up F
     refine ⟨_,(.put rfl),⟨F,(ku (az (sk sn))),?_⟩⟩
     refine tw 4 8 ?_ ?_
     ·refine  (aJ.to (Ox.buildSlice (cells:=#[_]) rfl cw rfl (by decide) c7 (ca rfl rfl rfl rfl cE) rfl λ J _ _=>⟨_,(.put rfl),⟨rr,(ku (so (az (sk sn)))),?_⟩⟩))
      refine tw 5 8 ?_ ?_
      ·refine  (aJ.to (Ox.append (K:=CZ) (λ X=>(J,_)::X++((I,_)::P)) rfl rfl rfl eh underlying25 (by simp) (.cons .id) ab (eB T rfl) aw rfl λ a7 a2 W=>⟨_,(.put rfl),⟨rr,(ku (so (az (sk sn)))),?_⟩⟩))
       refine Any.on 8 rfl rfl (aJ.to (Ox.buildSlice (cells:=#[_]) rfl cw rfl (by decide) c7 (ca rfl rfl rfl rfl cE) rfl λ cC _ _=>⟨_,(.put rfl),⟨rr,(ku (so (so (az (sk sn))))),?_⟩⟩))
       refine Any.cv 9 eK (eL x1 [T] Y (bE.lit z0 (aO.le (aO.cons (x:=T) rfl rfl aO.nil) rfl) rfl) aF) ?_
       rintro _ _ _ ⟨rfl,rfl,Z,rfl⟩
       refine ⟨rr,(ku (so (so (az (sk sn))))),?_⟩
       refine Any.dg (H2:=(cC,_)::(J,_)::(I,_)::P) (λ X=>(cC,_)::(J,_)::X++((I,_)::P)) (.cons (.cons .id)) rfl W (by decide) (by decide) (λ _=>(su (so (so (sk sn))))) (λ a4 g O=>?_)
       have ⟨E,y,z,A⟩:=di g E y z A
       replace L:=f.mono (rr) g L
       replace C:=C.up (H:=[]) g
       replace m:=m.up (H:=[]) g
       replace D:=D.up (H:=[]) g
       replace G:=G.mono g
       replace f:=f.up g
       refine Any.on 10 rfl rfl (Ox.b5 rfl rfl rfl rfl jS rfl rfl ((aT (f.frame [(cC,_),(J,_),(I,_)]) aU a1 x2 ⟨_,L,rfl⟩ O Z C.any y z A m D aN).mono ?_))
       rintro _ a5 _ ⟨d,⟨Q,V,N⟩,rfl⟩
       replace N:_=(cC,_)::(J,_)::(I,_)::Q:=N
       subst N
       have ⟨E,y,z,A⟩:=di d E y z A
       replace C:=C.up (H:=[]) d
       replace m:=m.up (H:=[]) d
       replace D:=D.up (H:=[]) d
       replace O:=O.mono d
       replace G:=G.mono d
       replace f:=f.up d
       refine ⟨_,(.put rfl),⟨d,(ku (so (so (sk sn)))),?_⟩⟩
       refine Any.vs 1 [11] rfl ?_
       exact Any.done (U.aR (so (so sr)) (ar _ _ _ ⟨((F.trans g).trans d),Q,V,rfl,aq fc⟩))
      refine  (aJ.to (Ox.buildSlice (cells:=#[_]) rfl cw rfl (by decide) c7 (ca rfl rfl rfl rfl cE) rfl λ cC _ _=>⟨_,(.put rfl),⟨rr,(ku (so (so (az (sk sn))))),?_⟩⟩))
      refine Any.on 5 rfl rfl (aJ.to (Ox.append (K:=CZ) (λ X=>(cC,_)::(J,_)::X++((I,_)::P)) rfl rfl rfl eh underlying25 (by simp) (.cons (.cons .id)) ab (e4.lit z1 (aO.le (aO.cons (x:=T) rfl rfl aO.nil) rfl) rfl) aw rfl λ a7 a2 W=>⟨_,(.put rfl),⟨rr,(ku (so (so (az (sk sn))))),?_⟩⟩))
      refine Any.cv 9 eK (eL x1 [T] Y (bE.lit z0 (aO.le (aO.cons (x:=T) rfl rfl aO.nil) rfl) rfl) aF) ?_
      rintro _ _ _ ⟨rfl,rfl,Z,rfl⟩
      refine ⟨rr,(ku (so (so (az (sk sn))))),?_⟩
      refine Any.dg (H2:=(cC,_)::(J,_)::(I,_)::P) (λ X=>(cC,_)::(J,_)::X++((I,_)::P)) (.cons (.cons .id)) rfl W (by decide) (by decide) (λ _=>(su (so (so (sk sn))))) (λ a4 g O=>?_)
      have ⟨E,y,z,A⟩:=di g E y z A
      replace L:=f.mono (rr) g L
      replace C:=C.up (H:=[]) g
      replace m:=m.up (H:=[]) g
      replace D:=D.up (H:=[]) g
      replace G:=G.mono g
      replace f:=f.up g
      refine Any.on 10 rfl rfl (Ox.b5 rfl rfl rfl rfl jS rfl rfl ((aT (f.frame [(cC,_),(J,_),(I,_)]) aU a1 x2 ⟨_,L,rfl⟩ O Z C.any y z A m D aN).mono ?_))
      rintro _ a5 _ ⟨d,⟨Q,V,N⟩,rfl⟩
      replace N:_=(cC,_)::(J,_)::(I,_)::Q:=N
      subst N
      have ⟨E,y,z,A⟩:=di d E y z A
      replace C:=C.up (H:=[]) d
      replace m:=m.up (H:=[]) d
      replace D:=D.up (H:=[]) d
      replace O:=O.mono d
      replace G:=G.mono d
      replace f:=f.up d
      refine ⟨_,(.put rfl),⟨d,(ku (so (so (sk sn)))),?_⟩⟩
      refine Any.vs 1 [11] rfl ?_
      exact Any.done (U.aR (so (so sr)) (ar _ _ _ ⟨((F.trans g).trans d),Q,V,rfl,aq fc⟩))
     refine  (aJ.to (Ox.buildSlice (cells:=#[_]) rfl cw rfl (by decide) c7 (ca rfl rfl rfl rfl cE) rfl λ cC _ _=>⟨_,(.put rfl),⟨rr,(ku (so (az (sk sn)))),?_⟩⟩))
     refine Any.on 4 rfl rfl (aJ.to (Ox.buildSlice (cells:=#[_]) rfl cw rfl (by decide) c7 (ca rfl rfl rfl rfl cE) rfl λ J _ _=>⟨_,(.put rfl),⟨rr,(ku (so (so (az (sk sn))))),?_⟩⟩))
     refine Any.on 5 rfl rfl (aJ.to (Ox.append (K:=CZ) (λ X=>(J,_)::(cC,_)::X++((I,_)::P)) rfl rfl rfl eh underlying25 (by simp) (.cons (.cons .id)) ab (eB T rfl) aw rfl λ a7 a2 W=>⟨_,(.put rfl),⟨rr,(ku (so (so (az (sk sn))))),?_⟩⟩))
     refine Any.cv 9 eK (eL x1 [T] Y (bE.lit z1 (aO.le (aO.cons (x:=T) rfl rfl aO.nil) rfl) rfl) aF) ?_
     rintro _ _ _ ⟨rfl,rfl,Z,rfl⟩
     refine ⟨rr,(ku (so (so (az (sk sn))))),?_⟩
     refine Any.dg (H2:=(J,_)::(cC,_)::(I,_)::P) (λ X=>(J,_)::(cC,_)::X++((I,_)::P)) (.cons (.cons .id)) rfl W (by decide) (by decide) (λ _=>(su (so (so (sk sn))))) (λ a4 g O=>?_)
     have ⟨E,y,z,A⟩:=di g E y z A
     replace L:=f.mono (rr) g L
     replace C:=C.up (H:=[]) g
     replace m:=m.up (H:=[]) g
     replace D:=D.up (H:=[]) g
     replace G:=G.mono g
     replace f:=f.up g
     refine Any.on 10 rfl rfl (Ox.b5 rfl rfl rfl rfl jS rfl rfl ((aT (f.frame [(J,_),(cC,_),(I,_)]) aU a1 x2 ⟨_,L,rfl⟩ O Z C.any y z A m D aN).mono ?_))
     rintro _ a5 _ ⟨d,⟨Q,V,N⟩,rfl⟩
     replace N:_=(J,_)::(cC,_)::(I,_)::Q:=N
     subst N
     have ⟨E,y,z,A⟩:=di d E y z A
     replace C:=C.up (H:=[]) d
     replace m:=m.up (H:=[]) d
     replace D:=D.up (H:=[]) d
     replace O:=O.mono d
     replace G:=G.mono d
     replace f:=f.up d
     refine ⟨_,(.put rfl),⟨d,(ku (so (so (sk sn)))),?_⟩⟩
     refine Any.vs 1 [11] rfl ?_
     exact Any.done (U.aR (so (so sr)) (ar _ _ _ ⟨((F.trans g).trans d),Q,V,rfl,aq fc⟩))
    ·refine  (aJ.to (Ox.buildSlice (cells:=#[_]) rfl cw rfl (by decide) c7 (ca rfl rfl rfl rfl cE) rfl λ J _ _=>⟨_,(.put rfl),⟨rr,(ku (so (sk sn))),?_⟩⟩))
     refine tw 2 8 ?_ ?_
     ·refine  (Ox.b5 rfl rfl rfl rfl kH rfl rfl ((ly am E.rd be).mono ?_))
      rintro bp bg _ ⟨F,_,bf,ab,rfl,rfl⟩
      have ⟨E,y,z,A⟩:=di F E y z A
      replace L:=f.mono (rr) F L
      replace C:=C.up (H:=[]) F
      replace m:=m.up (H:=[]) F
      replace D:=D.up (H:=[]) F
      replace G:=G.mono F
      replace f:=f.up F
      refine ⟨_,(.put rfl),⟨F,(ku (az (so (sk sn)))),?_⟩⟩
      refine tw 5 8 ?_ ?_
      ·refine  (aJ.to (Ox.append (K:=CZ) (λ X=>X++((J,_)::(I,_)::P)) rfl rfl rfl eh underlying25 (by simp) .id ab (e4.lit (bH _ z0) (aO.le (aO.cons (x:=T) rfl rfl aO.nil) rfl) rfl) aw rfl λ a7 a2 W=>⟨_,(.put rfl),⟨rr,(ku (az (so (sk sn)))),?_⟩⟩))
       refine Any.on 8 rfl rfl (aJ.to (Ox.buildSlice (cells:=#[_]) rfl cw rfl (by decide) c7 (ca rfl rfl rfl rfl cE) rfl λ cC _ _=>⟨_,(.put rfl),⟨rr,(ku (so (az (so (sk sn))))),?_⟩⟩))
       refine Any.cv 9 eK (eL x1 [T] Y (bE.lit z0 (aO.le (aO.cons (x:=T) rfl rfl aO.nil) rfl) rfl) aF) ?_
       rintro _ _ _ ⟨rfl,rfl,Z,rfl⟩
       refine ⟨rr,(ku (so (az (so (sk sn))))),?_⟩
       refine Any.dg (H2:=(cC,_)::(J,_)::(I,_)::P) (λ X=>(cC,_)::X++((J,_)::(I,_)::P)) (.cons .id) rfl W (by decide) (by decide) (λ _=>(su (so (so (sk sn))))) (λ a4 g O=>?_)
       have ⟨E,y,z,A⟩:=di g E y z A
       replace L:=f.mono (rr) g L
       replace C:=C.up (H:=[]) g
       replace m:=m.up (H:=[]) g
       replace D:=D.up (H:=[]) g
       replace G:=G.mono g
       replace f:=f.up g
       refine Any.on 10 rfl rfl (Ox.b5 rfl rfl rfl rfl jS rfl rfl ((aT (f.frame [(cC,_),(J,_),(I,_)]) aU a1 x2 ⟨_,L,rfl⟩ O Z C.any y z A m D aN).mono ?_))
       rintro _ a5 _ ⟨d,⟨Q,V,N⟩,rfl⟩
       replace N:_=(cC,_)::(J,_)::(I,_)::Q:=N
       subst N
       have ⟨E,y,z,A⟩:=di d E y z A
       replace C:=C.up (H:=[]) d
       replace m:=m.up (H:=[]) d
       replace D:=D.up (H:=[]) d
       replace O:=O.mono d
       replace G:=G.mono d
       replace f:=f.up d
       refine ⟨_,(.put rfl),⟨d,(ku (so (so (sk sn)))),?_⟩⟩
       refine Any.vs 1 [11] rfl ?_
       exact Any.done (U.aR (so (so sr)) (ar _ _ _ ⟨((F.trans g).trans d),Q,V,rfl,aq fc⟩))
      refine  (aJ.to (Ox.buildSlice (cells:=#[_]) rfl cw rfl (by decide) c7 (ca rfl rfl rfl rfl cE) rfl λ cC _ _=>⟨_,(.put rfl),⟨rr,(ku (so (az (so (sk sn))))),?_⟩⟩))
      refine Any.on 5 rfl rfl (aJ.to (Ox.append (K:=CZ) (λ X=>(cC,_)::X++((J,_)::(I,_)::P)) rfl rfl rfl eh underlying25 (by simp) (.cons .id) ab (e4.lit (.tail _ (bH _ z0)) (aO.le (aO.cons (x:=T) rfl rfl aO.nil) rfl) rfl) aw rfl λ a7 a2 W=>⟨_,(.put rfl),⟨rr,(ku (so (az (so (sk sn))))),?_⟩⟩))
      refine Any.cv 9 eK (eL x1 [T] Y (bE.lit z0 (aO.le (aO.cons (x:=T) rfl rfl aO.nil) rfl) rfl) aF) ?_
      rintro _ _ _ ⟨rfl,rfl,Z,rfl⟩
      refine ⟨rr,(ku (so (az (so (sk sn))))),?_⟩
      refine Any.dg (H2:=(cC,_)::(J,_)::(I,_)::P) (λ X=>(cC,_)::X++((J,_)::(I,_)::P)) (.cons .id) rfl W (by decide) (by decide) (λ _=>(su (so (so (sk sn))))) (λ a4 g O=>?_)
      have ⟨E,y,z,A⟩:=di g E y z A
      replace L:=f.mono (rr) g L
      replace C:=C.up (H:=[]) g
      replace m:=m.up (H:=[]) g
      replace D:=D.up (H:=[]) g
      replace G:=G.mono g
      replace f:=f.up g
      refine Any.on 10 rfl rfl (Ox.b5 rfl rfl rfl rfl jS rfl rfl ((aT (f.frame [(cC,_),(J,_),(I,_)]) aU a1 x2 ⟨_,L,rfl⟩ O Z C.any y z A m D aN).mono ?_))
      rintro _ a5 _ ⟨d,⟨Q,V,N⟩,rfl⟩
      replace N:_=(cC,_)::(J,_)::(I,_)::Q:=N
      subst N
      have ⟨E,y,z,A⟩:=di d E y z A
      replace C:=C.up (H:=[]) d
      replace m:=m.up (H:=[]) d
      replace D:=D.up (H:=[]) d
      replace O:=O.mono d
      replace G:=G.mono d
      replace f:=f.up d
      refine ⟨_,(.put rfl),⟨d,(ku (so (so (sk sn)))),?_⟩⟩
      refine Any.vs 1 [11] rfl ?_
      exact Any.done (U.aR (so (so sr)) (ar _ _ _ ⟨((F.trans g).trans d),Q,V,rfl,aq fc⟩))
     refine  (aJ.to (Ox.buildSlice (cells:=#[_]) rfl cw rfl (by decide) c7 (ca rfl rfl rfl rfl cE) rfl λ cC _ _=>⟨_,(.put rfl),⟨rr,(ku (so (so (sk sn)))),?_⟩⟩))
     refine Any.cv 2 kH (ly am E.rd be) ?_
     rintro bp bg _ ⟨F,_,bf,ab,rfl,rfl⟩
     have ⟨E,y,z,A⟩:=di F E y z A
     replace L:=f.mono (rr) F L
     replace C:=C.up (H:=[]) F
     replace m:=m.up (H:=[]) F
     replace D:=D.up (H:=[]) F
     replace G:=G.mono F
     replace f:=f.up F
     refine ⟨F,(ku (az (so (so (sk sn))))),?_⟩
     refine Any.on 5 rfl rfl (aJ.to (Ox.append (K:=CZ) (λ X=>X++((cC,_)::(J,_)::(I,_)::P)) rfl rfl rfl eh underlying25 (by simp) .id ab (e4.lit (bH _ z1) (aO.le (aO.cons (x:=T) rfl rfl aO.nil) rfl) rfl) aw rfl λ a7 a2 W=>⟨_,(.put rfl),⟨rr,(ku (az (so (so (sk sn))))),?_⟩⟩))
     refine Any.cv 9 eK (eL x1 [T] Y (bE.lit (bH _ z0) (aO.le (aO.cons (x:=T) rfl rfl aO.nil) rfl) rfl) aF) ?_
     rintro _ _ _ ⟨rfl,rfl,Z,rfl⟩
     refine ⟨rr,(ku (az (so (so (sk sn))))),?_⟩
     refine Any.dg (H2:=(cC,_)::(J,_)::(I,_)::P) (λ X=>X++((cC,_)::(J,_)::(I,_)::P)) .id rfl W (by decide) (by decide) (λ _=>(su (so (so (sk sn))))) (λ a4 g O=>?_)
     have ⟨E,y,z,A⟩:=di g E y z A
     replace L:=f.mono (rr) g L
     replace C:=C.up (H:=[]) g
     replace m:=m.up (H:=[]) g
     replace D:=D.up (H:=[]) g
     replace G:=G.mono g
     replace f:=f.up g
     refine Any.on 10 rfl rfl (Ox.b5 rfl rfl rfl rfl jS rfl rfl ((aT (f.frame [(cC,_),(J,_),(I,_)]) aU a1 x2 ⟨_,L,rfl⟩ O Z C.any y z A m D aN).mono ?_))
     rintro _ a5 _ ⟨d,⟨Q,V,N⟩,rfl⟩
     replace N:_=(cC,_)::(J,_)::(I,_)::Q:=N
     subst N
     have ⟨E,y,z,A⟩:=di d E y z A
     replace C:=C.up (H:=[]) d
     replace m:=m.up (H:=[]) d
     replace D:=D.up (H:=[]) d
     replace O:=O.mono d
     replace G:=G.mono d
     replace f:=f.up d
     refine ⟨_,(.put rfl),⟨d,(ku (so (so (sk sn)))),?_⟩⟩
     refine Any.vs 1 [11] rfl ?_
     exact Any.done (U.aR (so (so sr)) (ar _ _ _ ⟨((F.trans g).trans d),Q,V,rfl,aq fc⟩))
    refine  (aJ.to (Ox.buildSlice (cells:=#[_]) rfl cw rfl (by decide) c7 (ca rfl rfl rfl rfl cE) rfl λ cC _ _=>⟨_,(.put rfl),⟨rr,(ku (so (sk sn))),?_⟩⟩))
    refine tw 2 4 ?_ ?_
    ·refine  (Ox.b5 rfl rfl rfl rfl kH rfl rfl ((ly am E.rd be).mono ?_))
     rintro bp bg _ ⟨F,_,bf,ab,rfl,rfl⟩
     have ⟨E,y,z,A⟩:=di F E y z A
     replace L:=f.mono (rr) F L
     replace C:=C.up (H:=[]) F
     replace m:=m.up (H:=[]) F
     replace D:=D.up (H:=[]) F
     replace G:=G.mono F
     replace f:=f.up F
     refine ⟨_,(.put rfl),⟨F,(ku (az (so (sk sn)))),?_⟩⟩
     refine Any.on 4 rfl rfl (aJ.to (Ox.buildSlice (cells:=#[_]) rfl cw rfl (by decide) c7 (ca rfl rfl rfl rfl cE) rfl λ J _ _=>⟨_,(.put rfl),⟨rr,(ku (so (az (so (sk sn))))),?_⟩⟩))
     refine Any.on 5 rfl rfl (aJ.to (Ox.append (K:=CZ) (λ X=>(J,_)::X++((cC,_)::(I,_)::P)) rfl rfl rfl eh underlying25 (by simp) (.cons .id) ab (eB T rfl) aw rfl λ a7 a2 W=>⟨_,(.put rfl),⟨rr,(ku (so (az (so (sk sn))))),?_⟩⟩))
     refine Any.cv 9 eK (eL x1 [T] Y (bE.lit (.tail _ (bH _ z0)) (aO.le (aO.cons (x:=T) rfl rfl aO.nil) rfl) rfl) aF) ?_
     rintro _ _ _ ⟨rfl,rfl,Z,rfl⟩
     refine ⟨rr,(ku (so (az (so (sk sn))))),?_⟩
     refine Any.dg (H2:=(J,_)::(cC,_)::(I,_)::P) (λ X=>(J,_)::X++((cC,_)::(I,_)::P)) (.cons .id) rfl W (by decide) (by decide) (λ _=>(su (so (so (sk sn))))) (λ a4 g O=>?_)
     have ⟨E,y,z,A⟩:=di g E y z A
     replace L:=f.mono (rr) g L
     replace C:=C.up (H:=[]) g
     replace m:=m.up (H:=[]) g
     replace D:=D.up (H:=[]) g
     replace G:=G.mono g
     replace f:=f.up g
     refine Any.on 10 rfl rfl (Ox.b5 rfl rfl rfl rfl jS rfl rfl ((aT (f.frame [(J,_),(cC,_),(I,_)]) aU a1 x2 ⟨_,L,rfl⟩ O Z C.any y z A m D aN).mono ?_))
     rintro _ a5 _ ⟨d,⟨Q,V,N⟩,rfl⟩
     replace N:_=(J,_)::(cC,_)::(I,_)::Q:=N
     subst N
     have ⟨E,y,z,A⟩:=di d E y z A
     replace C:=C.up (H:=[]) d
     replace m:=m.up (H:=[]) d
     replace D:=D.up (H:=[]) d
     replace O:=O.mono d
     replace G:=G.mono d
     replace f:=f.up d
     refine ⟨_,(.put rfl),⟨d,(ku (so (so (sk sn)))),?_⟩⟩
     refine Any.vs 1 [11] rfl ?_
     exact Any.done (U.aR (so (so sr)) (ar _ _ _ ⟨((F.trans g).trans d),Q,V,rfl,aq fc⟩))
    refine  (aJ.to (Ox.buildSlice (cells:=#[_]) rfl cw rfl (by decide) c7 (ca rfl rfl rfl rfl cE) rfl λ J _ _=>⟨_,(.put rfl),⟨rr,(ku (so (so (sk sn)))),?_⟩⟩))
    refine Any.cv 2 kH (ly am E.rd be) ?_
    rintro bp bg _ ⟨F,_,bf,ab,rfl,rfl⟩
    have ⟨E,y,z,A⟩:=di F E y z A
    replace L:=f.mono (rr) F L
    replace C:=C.up (H:=[]) F
    replace m:=m.up (H:=[]) F
    replace D:=D.up (H:=[]) F
    replace G:=G.mono F
    replace f:=f.up F
    refine ⟨F,(ku (az (so (so (sk sn))))),?_⟩
    refine Any.on 5 rfl rfl (aJ.to (Ox.append (K:=CZ) (λ X=>X++((J,_)::(cC,_)::(I,_)::P)) rfl rfl rfl eh underlying25 (by simp) .id ab (e4.lit (bH _ z0) (aO.le (aO.cons (x:=T) rfl rfl aO.nil) rfl) rfl) aw rfl λ a7 a2 W=>⟨_,(.put rfl),⟨rr,(ku (az (so (so (sk sn))))),?_⟩⟩))
    refine Any.cv 9 eK (eL x1 [T] Y (bE.lit (bH _ z1) (aO.le (aO.cons (x:=T) rfl rfl aO.nil) rfl) rfl) aF) ?_
    rintro _ _ _ ⟨rfl,rfl,Z,rfl⟩
    refine ⟨rr,(ku (az (so (so (sk sn))))),?_⟩
    refine Any.dg (H2:=(J,_)::(cC,_)::(I,_)::P) (λ X=>X++((J,_)::(cC,_)::(I,_)::P)) .id rfl W (by decide) (by decide) (λ _=>(su (so (so (sk sn))))) (λ a4 g O=>?_)
    have ⟨E,y,z,A⟩:=di g E y z A
    replace L:=f.mono (rr) g L
    replace C:=C.up (H:=[]) g
    replace m:=m.up (H:=[]) g
    replace D:=D.up (H:=[]) g
    replace G:=G.mono g
    replace f:=f.up g
    refine Any.on 10 rfl rfl (Ox.b5 rfl rfl rfl rfl jS rfl rfl ((aT (f.frame [(J,_),(cC,_),(I,_)]) aU a1 x2 ⟨_,L,rfl⟩ O Z C.any y z A m D aN).mono ?_))
    rintro _ a5 _ ⟨d,⟨Q,V,N⟩,rfl⟩
    replace N:_=(J,_)::(cC,_)::(I,_)::Q:=N
    subst N
    have ⟨E,y,z,A⟩:=di d E y z A
    replace C:=C.up (H:=[]) d
    replace m:=m.up (H:=[]) d
    replace D:=D.up (H:=[]) d
    replace O:=O.mono d
    replace G:=G.mono d
    replace f:=f.up d
    refine ⟨_,(.put rfl),⟨d,(ku (so (so (sk sn)))),?_⟩⟩
    refine Any.vs 1 [11] rfl ?_
    exact Any.done (U.aR (so (so sr)) (ar _ _ _ ⟨((F.trans g).trans d),Q,V,rfl,aq fc⟩))
   exact U.bw rfl (U.aR (so sr) (bM _ (au M) _ _ _ ⟨ac,P,L,rfl,cV.sub trivial⟩))
  rintro bA b8 b6 cj ⟨bv,br,bN,rfl,bU⟩ M
  refine U.sub bU ?_
  replace f:=f.up bv
  refine sg aB ?_
  refine vs 1 ?_
  refine er ?_
  cases av M
  exact rt func120 (.tmp rfl .nil) sr (bt _ _ _ ⟨(ag.trans bv),bN,rfl⟩)
theorem uO{S:Type}{ys:(List Int)→S→Option (S × Bool)}{W:Value}{Inv:S→ay→aj→Prop}{R:ay}{Hy:aj}(d:eI af R (oO CZ 1) W ys Inv)(f:an){P:S}(C:Inv P R Hy){Q T V:Value}(y:ah bz 5 R Q f.ao)(g:ah CZ 1 R T f.Out)(A:ah bq 2 R V f.aV){r:S}(D:ig ys f P=some r):aL af 88 #[.agg #[iv f.ax,iv f.ad.ai,iv f.ad.ak,Q,T,V],W] R Hy (λ v R' H'=>aH R R'∧Inv r R' H'∧v = .tuple #[]):=by
 unfold ig at D
 refine aY func88 13 λ fr cs aa=>?_
 refine sg aC ?_
 refine bx λ aw=>?_
 refine U.s rfl rfl (Ox.iF rfl rfl d.cells rfl λ O _ _=>⟨_,(.put rfl),?_⟩)
 refine nx aB ?_
 refine bu (#[.nilFunc]) Mz λ K=>?_
 refine nx aC ?_
 refine U.s rfl rfl (Ox.makeFunc (vs:=#[]) (us:=#[_,_,_]) rfl rfl rfl rfl (.put rfl) ?_)
 refine eC (#[_]) u9 .here ?_
 refine er ?_
 refine U.fZ (H2:=(K,_)::(O,_)::Hy) (λ X=>(K,_)::(O,_)::X++(Hy)) (.cons (.cons .id)) rfl (λ ap L m=>?_)
 have ⟨y,g,A⟩:=cH L y g A
 replace C:=d.mono (rr) L C
 replace d:=d.up L
 refine U.fZ (H2:=(K,_)::Hy) (λ X=>(K,_)::X++(Hy)) (.cons .id) rfl (λ aq G I=>?_)
 have ⟨y,g,A⟩:=cH G y g A
 replace C:=d.mono (rr) G C
 replace m:=m.up (H:=[]) G
 replace d:=d.up G
 refine U.fZ (H2:=Hy) (λ X=>X++(Hy)) .id rfl (λ ar E M=>?_)
 have ⟨y,g,A⟩:=cH E y g A
 replace C:=d.mono (rr) E C
 replace m:=m.up (H:=[]) E
 replace I:=I.up (H:=[]) E
 replace d:=d.up E
 refine U.draw (n:=7) (is:=[0,1,2,3,4,5,6]) (λ _=>[]) mixed rfl (by decide +kernel) rfl rfl ?_
 refine ts 0 [6] rfl (λ _ _ _ _ _ h=>h) (su sn) (kU u9 0 M) ?_
 refine ts 1 [5,6] rfl (λ _ _ _ _ _ h=>h) (su sn) (λ R' H' az aA=>Ox.iG (z:=(bW [false,false,false,false,false])) rfl iE rfl (.one rfl) aG) ?_
 refine Any.vs 2 [2,3] rfl ?_
 refine ts 4 [5,6] rfl (λ _ _ _ _ _ h=>h) (su sn) (kU cb 4 m) ?_
 have ⟨am,ab,D⟩:=ae D
 refine Any.cv 5 eK (eL [false,false,false,false,false] f.Out rfl g.rd ab) ?_
 rintro _ _ _ ⟨rfl,rfl,ag,rfl⟩
 refine ⟨rr,(ku sn),?_⟩
 have ⟨aF,ac,D⟩:=ae D
 refine Any.on 6 rfl rfl (Ox.b5 rfl rfl rfl rfl jS rfl rfl ((Hg 9  (d.frame []) [] am f ⟨_,C,rfl⟩ ah.nil ag m.any y g A I M ac).mono ?_))
 rintro _ au _ ⟨F,⟨Y,Z,N⟩,rfl⟩
 replace N:Y=_:=N.symm
 subst N
 replace m:=m.up (H:=[]) F
 replace I:=I.up (H:=[]) F
 replace M:=M.up (H:=[]) F
 replace d:=d.up F
 refine ⟨_,(.put rfl),⟨F,(ku sn),?_⟩⟩
 refine Any.done ?_
 cases av D
 exact U.g7 func88 .nil (J.drop sr (aa _ _ _ ⟨(((L.trans G).trans E).trans F),Z,rfl⟩))
theorem pJ(d:an){D E F:Value}(bt:dX R)(bv:kC af)(bh:ah bz 5 R D d.ao)(bi:ah CZ 1 R E d.Out)(bk:ah bq 2 R F d.aV){r:(Int × Int)}(f:ib d=some r):aL af 35 #[.agg #[iv d.ax,iv d.ad.ai,iv d.ad.ak,D,E,F]] R H (λ v R' H'=>aH R R'∧H=H'∧v = .tuple #[iv r.1,iv r.2]):=by
 unfold ib at f
 refine aY func35 38 λ fr cs a6=>?_
 refine sg aM ?_
 refine bx λ hB=>?_
 refine vs 2 ?_
 refine er ?_
 refine U.scope ?_
 refine sg cX ?_
 refine lN [_,_,_,_,_,_] 0 6 a7 z0 ?_
 have ⟨g,bG,f⟩:=ae f
 refine U.cv hE (hO d (λ y=>gS y) bt bh bi bk ⟨80,#[],#[],rfl,o5,λ R' H' m cg y r va bp bF=>by obtain ⟨_,rfl,⟨cA,cB,cC,bT,bU,bV,rfl⟩⟩:=bp; exact (pR y bT bU bV bF).mono λ _ _ _ ⟨bm,bn,bo⟩=>⟨bm ▸ rr,bn.symm,bo⟩⟩ bG) ?_
 rintro _ b7 _ ⟨a2,b4,S,V,W,Y,Z,L,M,N,bH,bI,rfl,rfl⟩
 refine vs 3 ?_
 refine bu (#[iv 0,iv 0,iv 0,aw,aw,aw,aw,.map none]) g1 λ I=>?_
 refine bC (#[_,_,_,_,_,_,_,_]) dM .here ?_
 refine vs 1 ?_
 refine es ?_
 refine sg aC ?_
 refine vs 2 ?_
 refine er ?_
 refine sc f ?_ ?_<;>intro ck f
 ·refine sg aM ?_
  refine vs 3 ?_
  refine er ?_
  cases av f
  exact rt func35 (.tmp rfl (.tmp rfl .nil)) (so (az (so sr))) (a6 _ _ _ ⟨a2,br⟩)
 refine sp ?_
 refine sg aC ?_
 refine lN [_,_,_,_,_,_,_,_] 0 8 dM z0 ?_
 have ⟨cD,bJ,f⟩:=ae f
 refine U.step rfl rfl rfl (Ox.b5 rfl rfl rfl rfl q5 rfl rfl ((aL.hole (G:=(λ X=>(I,_)::X++((hB,_)::H))) (.cons .id) (bv g.1 L M N bH bI bJ)).mono ?_))
 rintro _ be _ ⟨_,⟨a4,K,rfl,rfl⟩,rfl⟩
 have ⟨L,M,N⟩:=cH a4 L M N
 refine ⟨_,(.put rfl),?_⟩
 refine nx aC ?_
 refine bu (#[iv 0]) iw λ O=>?_
 refine eC (#[_]) aI .here ?_
 refine es ?_
 refine U.label ?_
 refine sq ?_
 refine sg aM ?_
 refine vs 1 ?_
 refine lN [_,_,_,_,_,_] 0 6 dA z1 ?_
 refine U.s rfl rfl (Ox.makeFunc (vs:=#[_]) (us:=#[]) rfl rfl rfl rfl (.put rfl) ?_)
 refine er ?_
 refine U.aP ?_
 refine U.ou (A:=(oO CZ 1)) (λ y s=>ig y g.1.book s)  f rfl tI rfl rfl rfl (λ (C:Int) R' T H'=>aH be R'∧H'=(O,.cells #[iv C] 3)::(I,.cells #[iv g.1.book.ax,iv g.1.book.ad.ai,iv g.1.book.ad.ak,S,V,W,Y,Z] 130)::(hB,.cells #[iv d.ax,iv d.ad.ai,iv d.ad.ak,D,E,F] 28)::T)  (λ C aJ aO aF q=>by obtain ⟨m,rfl⟩:=q; exact ⟨(O,.cells #[iv C] 3)::(I,.cells #[iv g.1.book.ax,iv g.1.book.ad.ai,iv g.1.book.ad.ak,S,V,W,Y,Z] 130)::(hB,.cells #[iv d.ax,iv d.ad.ai,iv d.ad.ak,D,E,F] 28)::[],by simp,λ R1 aT h=>⟨m.trans h,by simp⟩⟩)  (λ v Inv Hy z aq ap ar=>(uO aq g.1.book ap L M N ar).mono λ _ _ _ h=>⟨h.1,h.2.1⟩) ⟨rr,rfl⟩ ?_ ?_
 ·rintro cp C ba b2 _ ⟨P,rfl⟩ f
  refine U.a0 ?_
  refine sg aM ?_
  refine ld 0 aI z0 ?_
  refine vs 2 ?_
  refine er ?_
  cases av f
  exact U.hn (.there (.there (.there .here))) func35 (.tmp rfl (.tmp rfl .nil)) (J.drop (so (so (so (so sr)))) (a6 _ _ _ ⟨((a2.trans a4).trans P),br⟩))
 rintro cq bX C ba b8 b1 ac ag ce _ ch bs ⟨P,rfl⟩ bA cF f aU
 replace K:=K.mono P
 have ⟨L,M,N⟩:=cH P L M N
 refine U.rg aB ?_
 refine vs 1 ?_
 refine er ?_
 refine U.beginRound rfl rfl (.there (.there (.there .here))) bA ?_
 refine U.aP ?_
 refine sq ?_
 refine sg bb ?_
 refine vs 1 ?_
 refine lN [_,_,_,_,_,_] 0 6 dA z1 ?_
 refine vs 1 ?_
 have ⟨am,bL,f⟩:=ae f
 refine U.cv tH (uN g.1.book bX L M N bs bL) ?_
 rintro _ aN _ ⟨aa,rfl,cu,cw,cx,cc,cy,cd,bP,bM,bN,bO,bS,bQ,rfl⟩
 replace K:=K.mono aa
 refine er ?_
 refine U.aP ?_
 refine U.Kw (A:=(eT (qu Value.bool 5))) (λ y s=>hf y am.1 am.2 s) (.exit 1) f rfl ti rfl rfl z3 rfl (λ (aA:Unit) R' T H'=>aH aN R'∧H'=(O,.cells #[iv C] 3)::(I,.cells #[iv g.1.book.ax,iv g.1.book.ad.ai,iv g.1.book.ad.ak,S,V,W,Y,Z] 130)::(hB,.cells #[iv d.ax,iv d.ad.ai,iv d.ad.ak,D,E,F] 28)::(ac,.loop { ag with state:=.busy })::T) (λ (a8:Unit) R' T H'=>aH aN R'∧H'=(O,.cells #[iv C] 3)::(I,.cells #[iv g.1.book.ax,iv g.1.book.ad.ai,iv g.1.book.ad.ak,S,V,W,Y,Z] 130)::(hB,.cells #[iv d.ax,iv d.ad.ai,iv d.ad.ak,D,E,F] 28)::(ac,.loop { ag with state:=.busy })::T) (λ aA aJ aO aF q=>by obtain ⟨m,rfl⟩:=q; exact ⟨(O,.cells #[iv C] 3)::(I,.cells #[iv g.1.book.ax,iv g.1.book.ad.ai,iv g.1.book.ad.ak,S,V,W,Y,Z] 130)::(hB,.cells #[iv d.ax,iv d.ad.ai,iv d.ad.ak,D,E,F] 28)::(ac,.loop { ag with state:=.busy })::[],by simp,λ R1 aT h=>⟨m.trans h,by simp⟩⟩) (λ a8 aJ aO aF q=>by obtain ⟨m,rfl⟩:=q; exact ⟨(O,.cells #[iv C] 3)::(I,.cells #[iv g.1.book.ax,iv g.1.book.ad.ai,iv g.1.book.ad.ak,S,V,W,Y,Z] 130)::(hB,.cells #[iv d.ax,iv d.ad.ai,iv d.ad.ak,D,E,F] 28)::(ac,.loop { ag with state:=.busy })::[],by simp,λ R1 aT h=>⟨m.trans h,by simp⟩⟩) (λ v Inv Hy z aq ap ar=>(uo aq am.1 am.2 ap bP bM bN bO bS bQ ar).mono λ _ _ _ h=>⟨h.1,h.2.1⟩) ⟨rr,rfl⟩ ?_ ?_ ?_
 ·rintro aA bd a9 _ ⟨Q,rfl⟩ f
  refine U.a0 ?_
  refine U.rg aM ?_
  refine ld 0 aI z0 ?_
  refine vs 1 ?_
  refine eC (#[_]) aI .here ?_
  refine er ?_
  refine U.a0 ?_
  exact aU _ (au f) _ _ _ (aa.trans Q) ⟨((P.trans aa).trans Q),rfl⟩
 ·rintro a8 b6 a9 _ ⟨a1,rfl⟩ f
  refine U.bw rfl ?_
  exact aU _ (au f) _ _ _ (aa.trans a1) ⟨((P.trans aa).trans a1),rfl⟩
 rintro ct bY aA bd b9 b3 cn co cf _ ci ⟨_,rfl,⟨ab,rfl⟩⟩ ⟨Q,rfl⟩ bD cI f bf bg
 replace K:=K.mono Q
 refine U.rg aC ?_
 refine bu (bW [false,false,false,false,false]) fS λ cb=>?_
 refine U.s rfl rfl (Ox.cG (cs':=_) rfl rfl rfl cR (by simp [ab]) (cj bl (cj (ej λ _=>rfl) bl)) .here (by simp) (eo (by simp [ab])) rfl (.refl _) ?_)
 refine er ?_
 refine U.beginRound rfl rfl (.there (.there (.there (.there (.there .here))))) bD ?_
 refine U.aP ?_
 refine sq ?_
 refine U.dw dc mixed ?_
 refine Any.vs 1 [0] rfl ?_
 refine tl 1 7 u3 z2 ?_
 refine Any.tk 2 rfl pp (λ R' H' m a5=>Ox.bB (vs:=_) rfl rfl cR (by simp [ab]) ((aK.box (a5 _ z0)).part (j:=0) (n:=5) (dd (by simp [ab]))) rfl (.one rfl) aG) ?_
 refine Any.tk 3 rfl pp (λ R' H' m a5=>Ox.lookup (k:=bY) rfl rfl rfl uT (K.mono m) ab rfl (.one rfl) aG) ?_
 refine Any.vs 1 [4] rfl ?_
 refine tl 5 0 aI z3 ?_
 refine Any.vs 1 [6] rfl ?_
 refine Any.done ?_
 refine sc f ?_ ?_<;>intro cm f
 ·exact U.aR (so sr) (bg _ (au f) _ _ _ _ (rr) ⟨Q,rfl⟩ (.inr (.inr ⟨_,_,aG⟩)))
 refine sp ?_
 refine U.a0 ?_
 exact U.aR (so sr) (bf _ (au f) _ _ _ (rr) ⟨Q,rfl⟩)
theorem IL(f:an){C D E:Value}(bm:dX R)(bp:kC af)(bd:ah bz 5 R C f.ao)(be:ah CZ 1 R D f.Out)(bf:ah bq 2 R E f.aV){r:((List Int) × Bool × Int)}(g:nV f=some r):aL af 36 #[.agg #[iv f.ax,iv f.ad.ai,iv f.ad.ak,C,D,E]] R H (λ v R' H'=>aH R R'∧H=H'∧∃ aT,ah CZ 1 R' aT r.1∧v = .tuple #[aT,.bool r.2.1,iv r.2.2]):=by
 unfold nV at g
 refine aY func36 28 λ fr cs aA=>?_
 refine sg bb ?_
 refine bx λ F=>?_
 refine bu (#[aw]) MB λ P=>?_
 refine bu (#[.bool false]) vL λ I=>?_
 refine bu (#[iv 0]) MC λ m=>?_
 refine nx cX ?_
 refine lN [_,_,_,_,_,_] 0 6 a7 z3 ?_
 have ⟨d,bA,g⟩:=ae g
 refine U.cv hE (hO f (λ y=>gS y) bm bd be bf ⟨80,#[],#[],rfl,o5,λ R' H' am bX y r va bk bw=>by obtain ⟨_,rfl,⟨b7,b8,b9,bG,bI,bJ,rfl⟩⟩:=bk; exact (pR y bG bI bJ bw).mono λ _ _ _ ⟨bg,bh,bi⟩=>⟨bg ▸ rr,bh.symm,bi⟩⟩ bA) ?_
 rintro _ bT _ ⟨aq,ag,W,Y,Z,aa,ab,L,M,N,V,bB,rfl,rfl⟩
 refine vs 3 ?_
 refine bu (#[iv 0,iv 0,iv 0,aw,aw,aw,aw,.map none]) g1 λ K=>?_
 refine bC (#[_,_,_,_,_,_,_,_]) dM .here ?_
 refine eC (#[_]) ki (.there (.skip .here)) ?_
 refine es ?_
 refine sg aC ?_
 refine U.ld ki ((aK.box (.tail _ (bH _ z0))).one (j:=0) rfl) ?_
 refine vs 1 ?_
 refine er ?_
 refine sc g ?_ ?_<;>intro b1 g
 ·refine sq ?_
  refine U.draw (n:=4) (is:=[0,1,2,3]) (many ((K,.cells #[iv d.1.book.ax,iv d.1.book.ad.ai,iv d.1.book.ad.ak,W,Y,Z,aa,ab] 130)::ag++((m,.cells #[iv d.2] 43)::(I,.cells #[.bool false] 4)::(P,.cells #[aw] 25)::(F,.cells #[iv f.ax,iv f.ad.ai,iv f.ad.ak,C,D,E] 28)::H)) [(1,(K,.cells #[iv d.1.book.ax,iv d.1.book.ad.ai,iv d.1.book.ad.ak,W,Y,Z,aa,ab] 130)::ag++((m,.cells #[iv d.2] 43)::(I,.cells #[.bool false] 4)::(F,.cells #[iv f.ax,iv f.ad.ai,iv f.ad.ak,C,D,E] 28)::H)),(2,(K,.cells #[iv d.1.book.ax,iv d.1.book.ad.ai,iv d.1.book.ad.ak,W,Y,Z,aa,ab] 130)::ag++((m,.cells #[iv d.2] 43)::(F,.cells #[iv f.ax,iv f.ad.ai,iv f.ad.ak,C,D,E] 28)::H)),(3,(K,.cells #[iv d.1.book.ax,iv d.1.book.ad.ai,iv d.1.book.ad.ak,W,Y,Z,aa,ab] 130)::ag++((F,.cells #[iv f.ax,iv f.ad.ai,iv f.ad.ak,C,D,E] 28)::H))]) mixed rfl (by decide +kernel) rfl rfl ?_
  refine ts 0 [3] rfl (ih (su (so (az (sk (so (so sr)))))) (ih (su (so (az (sk (so sr))))) (aF rfl (aU (su (so (az (sk (so (so (so sr))))))))))) (su (so (az (sk (so (so (so sr))))))) (kX ki 0 z0) ?_
  refine oS 1 #[_] cb (.there (.skip (.there (.there .here)))) (bo rfl (su (sk (dm (sk (sk (so sr))))))) ?_
  refine oS 2 #[_] eN (.there (.skip (.there .here))) (bo rfl (su (sk (dm (sk (so (so sr))))))) ?_
  refine oS 3 #[_] ki (.there (.skip .here)) (bo rfl (su (sk (dm (so (so (so sr))))))) ?_
  refine Any.done ?_
  cases av g
  exact rt func36 (.one rfl cb ((aK.box (.tail _ (bH _ z2))).one (j:=0) rfl) (.one rfl eN ((aK.box (.tail _ (bH _ z1))).one (j:=0) rfl) (.one rfl ki ((aK.box (.tail _ (bH _ z0))).one (j:=0) rfl) .nil))) (so (az (so (so (so (so sr)))))) (aA _ _ _ ⟨aq,rfl,aw,ah.nil,rfl⟩)
 refine sp ?_
 refine sg aC ?_
 refine lN [_,_,_,_,_,_,_,_] 0 8 dM z0 ?_
 have ⟨bO,bD,g⟩:=ae g
 refine U.step rfl rfl rfl (Ox.b5 rfl rfl rfl rfl q5 rfl rfl ((aL.hole (G:=(λ X=>(K,_)::X++((m,_)::(I,_)::(P,_)::(F,_)::H))) (.cons .id) (bp d.1 L M N V bB bD)).mono ?_))
 rintro _ aO _ ⟨_,⟨ar,aG,rfl,rfl⟩,rfl⟩
 have ⟨L,M,N,V⟩:=di ar L M N V
 refine ⟨_,(.put rfl),?_⟩
 refine es ?_
 refine sg aM ?_
 refine vs 1 ?_
 refine lN [_,_,_,_,_,_] 0 6 dA z0 ?_
 refine U.s rfl rfl (Ox.makeFunc (vs:=#[_]) (us:=#[]) rfl rfl rfl rfl (.put rfl) ?_)
 refine er ?_
 refine U.aP ?_
 refine U.rX (A:=(oO CZ 1)) (λ y s=>ig y d.1.book s) .ret g rfl tI rfl rfl rfl (λ (aN:Unit) R' T H'=>aH aO R'∧H'=(K,.cells #[iv d.1.book.ax,iv d.1.book.ad.ai,iv d.1.book.ad.ak,W,Y,Z,aa,ab] 130)::(m,.cells #[iv d.2] 43)::(I,.cells #[.bool false] 4)::(P,.cells #[aw] 25)::(F,.cells #[iv f.ax,iv f.ad.ai,iv f.ad.ak,C,D,E] 28)::T) (λ (aJ:(List Int)) R' T H'=>aH aO R'∧∃ O,ah CZ 1 R' O aJ∧H'=(m,.cells #[iv 0] 43)::(I,.cells #[.bool true] 4)::(P,.cells #[O] 25)::T) (λ aN a4 a6 a1 q=>by obtain ⟨am,rfl⟩:=q; exact ⟨(K,.cells #[iv d.1.book.ax,iv d.1.book.ad.ai,iv d.1.book.ad.ak,W,Y,Z,aa,ab] 130)::(m,.cells #[iv d.2] 43)::(I,.cells #[.bool false] 4)::(P,.cells #[aw] 25)::(F,.cells #[iv f.ax,iv f.ad.ai,iv f.ad.ak,C,D,E] 28)::[],by simp,λ R1 a8 h=>⟨am.trans h,by simp⟩⟩) (λ aJ a4 a6 a1 q=>by obtain ⟨am,O,ap,rfl⟩:=q; exact ⟨(m,.cells #[iv 0] 43)::(I,.cells #[.bool true] 4)::(P,.cells #[O] 25)::[],by simp,λ R1 a8 h=>⟨am.trans h,O,ap.mono h,by simp⟩⟩) (λ v Inv Hy z bt bn bL=>(uO bt d.1.book bn L M N bL).mono λ _ _ _ h=>⟨h.1,h.2.1⟩) ⟨rr,rfl⟩ ?_ ?_ ?_
 ·rintro bM aN a5 a2 _ ⟨Q,rfl⟩ g
  refine U.a0 ?_
  refine sg aM ?_
  refine eC (#[_]) cb (.there (.there (.there .here))) ?_
  refine eC (#[_]) eN (.there (.there .here)) ?_
  refine eC (#[_]) ki (.there .here) ?_
  refine er ?_
  cases av g
  exact U.hn (.there (.there (.there (.there (.there .here))))) func36 (.one rfl cb ((aK.box z3).one (j:=0) rfl) (.one rfl eN ((aK.box z2).one (j:=0) rfl) (.one rfl ki ((aK.box z1).one (j:=0) rfl) .nil))) (J.drop (so (so (so (so (so (so sr)))))) (aA _ _ _ ⟨((aq.trans ar).trans Q),rfl,aw,ah.nil,rfl⟩))
 ·rintro bM aJ bS a2 _ ⟨bs,O,ap,rfl⟩ g
  cases av g
  exact U.hn (.there (.there (.there .here))) func36 (.one rfl cb ((aK.box z2).one (j:=0) rfl) (.one rfl eN ((aK.box z1).one (j:=0) rfl) (.one rfl ki ((aK.box z0).one (j:=0) rfl) .nil))) (J.drop (so (so (so (so sr)))) (aA _ _ _ ⟨((aq.trans ar).trans bs),rfl,O,ap,rfl⟩))
 rintro bN bP aN a5 bV bQ b3 b6 bW _ bY ac ⟨Q,rfl⟩ bv cd g a9 ba
 replace aG:=aG.mono Q
 have ⟨L,M,N,V⟩:=di Q L M N V
 refine U.rg aB ?_
 refine vs 1 ?_
 refine er ?_
 refine U.beginRound rfl rfl (.there (.there (.there (.there (.there .here))))) bv ?_
 refine U.aP ?_
 refine sq ?_
 refine U.dw b4 mixed ?_
 refine tN 0 [_,_,_,_,_,_,_,_] 0 8 dM z0 ?_
 refine Any.vs 2 [1,3] rfl ?_
 refine tl 4 0 aI z4 ?_
 have ⟨cc,bF,g⟩:=ae g
 refine Any.cv 2 tG (uM (⟨⟨d.1.book.ax,⟨d.1.book.ad.ai,d.1.book.ad.ak⟩,d.1.book.ao,d.1.book.Out,d.1.book.aV⟩,d.1.cW,bO⟩:cN) bP L M N V aG ac bF) ?_
 rintro _ bU _ ⟨S,rfl,rfl⟩
 replace ac:=ac.mono S
 refine ⟨S,ka,?_⟩
 refine Any.vs 1 [5] rfl ?_
 refine Any.done ?_
 refine sc g ?_ ?_<;>intro b2 g
 ·refine sg bb ?_
  refine vs 1 ?_
  refine U.s rfl rfl (Ox.dE (cs':=#[_]) rfl rfl rfl cb ac.one (.there (.there (.there .here))) rfl rfl rfl (.refl _) ?_)
  refine eC (#[_]) eN (.there (.there .here)) ?_
  refine eC (#[_]) ki (.there .here) ?_
  refine er ?_
  exact U.aR (so (sk (sk (sk (so sr))))) (ba _ (au g) _ _ _ _ S ⟨(Q.trans S),bN,ac,rfl⟩ (.inr (.inl ⟨_,br⟩)))
 refine sp ?_
 refine U.a0 ?_
 exact a9 _ (au g) _ _ _ S ⟨(Q.trans S),rfl⟩
theorem Jv(f:ai)(x1:(List Int))(x2:Int){g v1:Value}{b0 m:Nat}(G:ah CZ 1 R g f.vA)(C:ah CZ 1 R v1 x1){r:ai}(d:pU f x1 x2=some r):aL af 89 #[pT b0,v1,iv x2] R ((b0,.cells #[g,iv f.number,.bool f.some_] m)::H) (λ v R' H'=>∃ z,(aH R R'∧∃ F,ah CZ 1 R' F r.vA∧v = .tuple #[]∧z=[(b0,.cells #[F,iv r.number,.bool r.some_] m)])∧H'=z++H):=by
 unfold pU at d
 refine aY func89 24 λ fr cs D=>?_
 refine sq ?_
 refine U.da d (λ (E:Bool) R' H' aa=>R=R'∧H'=(b0,.cells #[g,iv f.number,.bool f.some_] m)::H∧aA aa [(0,pT b0),(1,v1),(2,iv x2),(18,.bool E)])  ?_ ?_
 rotate_right
 ·intro O d A
  refine U.rg ov ?_
  refine vs 1 ?_
  refine U.s rfl rfl (Ox.nilCheck rfl rfl rfl (.put rfl) ?_)
  refine vs 1 ?_
  refine ld 2 eN z0 ?_
  refine vs 2 ?_
  refine a8 d (λ y d=>?_) (λ y d=>?_)
  ·refine U.kn 11 y ?_
   refine vs 7 ?_
   refine er ?_
   exact A _ (au d) _ _ _ ⟨rfl,rfl,aq bt⟩
  refine U.kn 11 y ?_
  refine vs 2 ?_
  refine U.s rfl rfl (Ox.nilCheck rfl rfl rfl (.put rfl) ?_)
  refine vs 1 ?_
  refine ld 1 aI z0 ?_
  refine vs 2 ?_
  refine er ?_
  exact A _ (au d) _ _ _ ⟨rfl,rfl,aq bt⟩
 rintro E L K N ⟨rfl,rfl,I⟩ d
 refine U.sub I ?_
 refine sc d ?_ ?_<;>intro M d
 ·refine U.rg b4 ?_
  refine vs 3 ?_
  refine U.s rfl rfl (Ox.build (cells:=#[_,_,_]) rfl LS rfl (ca rfl C.cells rfl rfl (ca rfl rfl rfl rfl (ca rfl rfl rfl rfl cE))) rfl (.put rfl) ?_)
  refine U.s rfl rfl (Ox.nilCheck rfl rfl rfl (.put rfl) ?_)
  refine bC (#[_,_,_]) BH .here ?_
  refine er ?_
  cases av d
  exact U.g7 func89 .nil (J.drop sr (D _ _ _ ⟨_,⟨(rr),v1,C,br⟩,rfl⟩))
 refine sp ?_
 cases av d
 exact U.g7 func89 .nil (J.drop sr (D _ _ _ ⟨_,⟨(rr),g,G,br⟩,rfl⟩))
theorem IM(C:an){ap aq ar:Value}(a8:dX R)(ba:kC af)(aT:ah bz 5 R ap C.ao)(aU:ah CZ 1 R aq C.Out)(a1:ah bq 2 R ar C.aV){r:((List Int) × Int × Int)}(f:nW C=some r):aL af 37 #[.agg #[iv C.ax,iv C.ad.ai,iv C.ad.ak,ap,aq,ar]] R H (λ v R' H'=>aH R R'∧H=H'∧∃ aA,ah CZ 1 R' aA r.1∧v = .tuple #[aA,iv r.2.1,iv r.2.2]):=by
 unfold nW at f
 refine aY func37 31 λ fr cs am=>?_
 refine sg bb ?_
 refine bx λ aO=>?_
 refine vs 3 ?_
 refine nx cX ?_
 refine lN [_,_,_,_,_,_] 0 6 a7 z0 ?_
 have ⟨d,bg,f⟩:=ae f
 refine U.cv hE (hO C (λ y=>gS y) a8 aT aU a1 ⟨80,#[],#[],rfl,o5,λ R' H' aa bQ y r va a6 bf=>by obtain ⟨_,rfl,⟨bX,bY,b1,bo,bp,br,rfl⟩⟩:=a6; exact (pR y bo bp br bf).mono λ _ _ _ ⟨a2,a4,a5⟩=>⟨a2 ▸ rr,a4.symm,a5⟩⟩ bg) ?_
 rintro _ bJ _ ⟨ab,bH,S,V,W,Y,Z,E,F,I,K,bh,rfl,rfl⟩
 refine vs 3 ?_
 refine bu (#[iv 0,iv 0,iv 0,aw,aw,aw,aw,.map none]) g1 λ L=>?_
 refine bC (#[_,_,_,_,_,_,_,_]) dM .here ?_
 refine vs 1 ?_
 refine es ?_
 refine sg aC ?_
 refine vs 2 ?_
 refine er ?_
 refine sc f ?_ ?_<;>intro bT f
 ·refine sg bb ?_
  refine vs 4 ?_
  refine er ?_
  cases av f
  exact rt func37 (.tmp rfl (.tmp rfl (.tmp rfl .nil))) (so (az (so sr))) (am _ _ _ ⟨ab,rfl,aw,ah.nil,rfl⟩)
 refine sp ?_
 refine sg aC ?_
 refine lN [_,_,_,_,_,_,_,_] 0 8 dM z0 ?_
 have ⟨bw,bi,f⟩:=ae f
 refine U.step rfl rfl rfl (Ox.b5 rfl rfl rfl rfl q5 rfl rfl ((aL.hole (G:=(λ X=>(L,_)::X++((aO,_)::H))) (.cons .id) (ba d.1 E F I K bh bi)).mono ?_))
 rintro _ aJ _ ⟨_,⟨ac,Q,rfl,rfl⟩,rfl⟩
 have ⟨E,F,I,K⟩:=di ac E F I K
 refine ⟨_,(.put rfl),?_⟩
 refine nx aB ?_
 refine bu (#[aw,iv 0,.bool false]) Mt λ N=>?_
 refine es ?_
 refine sg aM ?_
 refine vs 1 ?_
 refine lN [_,_,_,_,_,_] 0 6 dA z1 ?_
 refine U.s rfl rfl (Ox.makeFunc (vs:=#[_]) (us:=#[]) rfl rfl rfl rfl (.put rfl) ?_)
 refine er ?_
 refine U.aP ?_
 refine U.aR (H':=(N,.cells #[aw,iv 0,.bool false] 148)::(L,.cells #[iv d.1.book.ax,iv d.1.book.ad.ai,iv d.1.book.ad.ak,S,V,W,Y,Z] 130)::H) (sk (sk (so sr))) ?_
 refine U.ou (A:=(oO CZ 1)) (λ y s=>ig y d.1.book s)  f rfl tI rfl rfl rfl (λ (g:((List Int) × Int × Bool)) R' T H'=>aH aJ R'∧∃ m,ah CZ 1 R' m g.1∧H'=(N,.cells #[m,iv g.2.1,.bool g.2.2] 148)::(L,.cells #[iv d.1.book.ax,iv d.1.book.ad.ai,iv d.1.book.ad.ak,S,V,W,Y,Z] 130)::T)  (λ g bI bN bD q=>by obtain ⟨aa,m,D,rfl⟩:=q; exact ⟨(N,.cells #[m,iv g.2.1,.bool g.2.2] 148)::(L,.cells #[iv d.1.book.ax,iv d.1.book.ad.ai,iv d.1.book.ad.ak,S,V,W,Y,Z] 130)::[],by simp,λ R1 bO h=>⟨aa.trans h,m,D.mono h,by simp⟩⟩)  (λ v Inv Hy z bd a9 bs=>(uO bd d.1.book a9 E F I bs).mono λ _ _ _ h=>⟨h.1,h.2.1⟩) ⟨rr,aw,ah.nil,rfl⟩ ?_ ?_
 ·rintro bV g aG bG _ ⟨M,m,D,rfl⟩ f
  refine U.a0 ?_
  refine sq ?_
  refine U.dw dc mixed ?_
  refine Any.vs 1 [0] rfl ?_
  refine tl 1 0 cb z0 ?_
  refine Any.vs 1 [2] rfl ?_
  refine tl 3 1 aI z0 ?_
  refine Any.vs 3 [4,5,6] rfl ?_
  refine Any.done ?_
  cases av f
  exact U.hn (.there (.there .here)) func37 (.tmp rfl (.tmp rfl (.tmp rfl .nil))) (J.drop (so (so (so sr))) (am _ _ _ ⟨((ab.trans ac).trans M),rfl,m,D,rfl⟩))
 rintro bW aF g aG aK bF bt bU bP _ bS O ⟨M,m,D,rfl⟩ be b3 f aN
 replace Q:=Q.mono M
 have ⟨E,F,I,K⟩:=di M E F I K
 refine U.rg aB ?_
 refine vs 1 ?_
 refine er ?_
 refine U.beginRound rfl rfl (.there (.there .here)) be ?_
 refine U.aP ?_
 refine U.rg bA ?_
 refine vs 1 ?_
 refine lN [_,_,_,_,_,_,_,_] 0 8 dM z1 ?_
 refine vs 1 ?_
 have ⟨bB,bk,f⟩:=ae f
 refine U.cv tG (uM (⟨⟨d.1.book.ax,⟨d.1.book.ad.ai,d.1.book.ad.ak⟩,d.1.book.ao,d.1.book.Out,d.1.book.aV⟩,d.1.cW,bw⟩:cN) aF E F I K Q O bk) ?_
 rintro _ bL _ ⟨P,rfl,rfl⟩
 replace D:=D.mono P
 replace O:=O.mono P
 have ⟨b2,bm,f⟩:=ae f
 refine U.step rfl rfl rfl (Ox.b5 rfl rfl rfl rfl Ev rfl rfl ((aL.hole (G:=(λ X=>X++((L,_)::(bt,_)::aK))) (Hs:=[(N,_)]) .id (Jv (⟨g.1,g.2.1,g.2.2⟩:ai) aF bB D O bm)).mono ?_))
 rintro _ bM _ ⟨_,⟨ag,bv,bn,rfl,rfl⟩,rfl⟩
 refine ⟨_,(.put rfl),?_⟩
 refine er ?_
 refine U.a0 ?_
 exact aN _ (au f) _ _ _ (P.trans ag) ⟨((M.trans P).trans ag),bv,bn,rfl⟩
end
end Go.Proofs.YtoaoffinglajbaaGreatDoor
