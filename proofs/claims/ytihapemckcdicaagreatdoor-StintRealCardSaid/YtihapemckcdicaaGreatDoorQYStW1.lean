/- Walks, part 1: each function computes its model. -/
import Derived.Test.YtihapemckcdicaaGreatDoorQYStW0
import Derived.Test.YtihapemckcdicaaGreatDoorQYLgC
namespace Go.Proofs.YtihapemckcdicaaGreatDoor
open Go.Lg Go.Proofs Tryz
set_option maxRecDepth 100000
set_option maxHeartbeats 4000000
section
variable {B:Base} {main:Bool} {ab:Jd prog B main} {R:ax} {H:ai}
theorem ta(x0:bF)(x1:(aY→Option Bool)){k l m o p g v1:Value}(_:aa bt 2 R k x0.book.Rows)(_:aa bq 2 R l x0.book.aD)(_:aa bp 2 R m x0.book.az)(_:aa br 4 R o x0.book.av)(_:aa bg 3 R p x0.book.aQ)(d:aa c9 3 R g x0.cG)(h1:gk ab R H (eA c9) VB v1 x1){r:Int}(a:ju x0 x1=some r):aP ab 109 #[.agg #[iv x0.book.Rest,k,l,m,o,p,g],v1] R H (λ v R' H'=>aJ R R'∧H=H'∧v=iv r):=by
 unfold ju at a
 refine aX func109 22 λ fr cs x=>?_;refine sg aE (bx λ J=>?_);refine vs 1 ?_;refine nx aC (vs 1 (es ?_));refine sg bj (vs 1 ?_);refine ld 6 ij z0 ?_;refine ls d underlying111 ?_;refine vs 1 (er ?_);refine U.aR ?_;refine U.bd (H':=H) (so sr) ?_;refine U.dq a (λ (f:(Int × Int)) R' H' st'=>aJ R R'∧H=H'∧aA st' [(1,v1),(5,iv f.1),(9,g),(10,iv (x0.cG.length:Int)),(11,iv f.2)]) (λ (i:Int) R' H' st'=>aJ R R'∧H=H'∧aA st' [(5,iv i)]) 0 rfl ⟨rr,rfl,an cj⟩ ?_ ?_;rotate_right
 ·rintro f F D W ⟨c,rfl,y⟩ Y a h q;refine U.sub y ?_;replace d:=d.mono c;replace h1:=h1.up c pp;refine sg aC (vs 1 (es ?_));refine sc a ?_ ?_<;>intro S a
  ·refine sp (sq (U.aR ?_));refine sg bj ?_;have ⟨Z,A,a⟩:=ag a;obtain ⟨L,V,_,⟨b,rfl⟩,u,w⟩:=d.elem CX A;refine bS w ?_;refine U.s rfl rfl (Ox.bE (vs:=_) rfl rfl fv (by simp [b]) (u.any.part (j:=0) (n:=3) (cD (by simp [b]))) rfl (.put rfl) ?_);refine bN (List.toArray ([]++([0,0,0].map (Value.int .i64)++[]))) mS λ K=>?_;refine U.s rfl rfl (Ox.cV (cs':=_) rfl rfl rfl fv (by simp [b]) (cx bB (cx (eT λ _=>rfl) bB)) .here (by simp) (eE (by simp [b])) rfl (.refl _) ?_);refine nx aT (vs 1 ?_);refine U.s rfl rfl (Ox.bE (vs:=_) rfl rfl fv (by simp [b]) ((aH.box z0).part (j:=0) (n:=3) (cD (by simp [b]))) rfl (.put rfl) ?_);have ⟨ac,C,a⟩:=ag a;refine U.step rfl rfl rfl (Ox.iC h1 rfl rfl rfl ⟨_,rfl,⟨b,rfl⟩⟩ C rfl (su (so sr)) ?_);rintro _ I e rfl;replace h1:=h1.up e pp;refine ⟨_,(.put rfl),?_⟩;refine er (sc a ?_ ?_)<;>intro T a
   ·refine U.rg aT (vs 3 (er ?_));refine U.a9 ?_;refine U.rg aE (vs 2 (er ?_));exact U.bd (so sr) (h _ (ao a) _ _ _ ⟨(c.trans e),rfl,an cj⟩)
   refine sp (U.a9 ?_);refine U.rg aE (vs 2 (er ?_));exact U.bd (so sr) (h _ (ao a) _ _ _ ⟨(c.trans e),rfl,an cj⟩)
  exact U.bD rfl (q _ (ao a) _ _ _ ⟨c,rfl,an gd⟩)
 rintro i G E X ⟨t,rfl,z⟩ a;refine U.sub z (sg aE (vs 2 (er ?_)));cases ay a;exact rt func109 (.tmp rfl .nil) sr (x _ _ _ ⟨t,bn⟩)
theorem s9(x0:aj)(x1:Int){b f g h i:Value}(c:aa bt 2 R b x0.Rows)(_:aa bq 2 R f x0.aD)(_:aa bp 2 R g x0.az)(_:aa br 4 R h x0.av)(_:aa bg 3 R i x0.aQ){r:Int}(a:j2 x0 x1=some r):aP ab 104 #[.agg #[iv x0.Rest,b,f,g,h,i],iv x1] R H (λ v R' H'=>R=R'∧H=H'∧v=iv r):=by
 unfold j2 at a
 refine aX func104 22 λ fr cs d=>?_;refine sg aE (bx λ C=>?_);refine vs 1 (es ?_);refine sg bK (vs 2 ?_);refine ld 1 fx z0 ?_;refine ls c underlying22 ?_;refine vs 1 (er ?_);refine U.aR ?_;refine U.bd (H':=H) (so sr) ?_;refine U.cT a (λ (e:Int) R' H' st'=>R=R'∧H=H'∧aA st' [(1,iv x1),(9,b),(10,iv (x0.Rows.length:Int)),(11,iv e)]) (λ (w:Unit) R' H' st'=>R=R'∧H=H'∧aA st' []) 0 rfl ⟨rfl,rfl,an bu⟩ ?_ ?_;rotate_right
 ·rintro e z x N ⟨rfl,rfl,p⟩ P a k l u;refine U.sub p (sg aC (vs 1 (es ?_)));refine sc a ?_ ?_<;>intro K a
  ·refine sp (sq (U.aR ?_));refine sg bj ?_;have ⟨Q,t,a⟩:=ag a;obtain ⟨E,M,_,rfl,m,o⟩:=c.elem g6 t;refine bS o ?_;refine U.s rfl rfl (Ox.bE (vs:=[_,_]) rfl rfl iy rfl (m.any.part (j:=0) (n:=2) rfl) rfl (.put rfl) ?_);refine bN (#[iv 0,iv 0]) uz λ D=>?_;refine cl (#[_,_]) iy .here ?_;refine nx bj (vs 2 ?_);refine ld 0 aL z0 ?_;refine vs 1 (er ?_);refine sc a ?_ ?_<;>intro L a
   ·refine sg aT (vs 1 ?_);refine ld 1 aL z0 ?_;refine vs 1 (er ?_);replace a:=u _ (ao a);cases ay a;exact rt func104 (.tmp rfl .nil) (so sr) (d _ _ _ aM)
   refine sp (U.a9 ?_);refine U.rg aE (vs 2 (er ?_));exact U.bd (so sr) (k _ (ao a) _ _ _ ⟨rfl,rfl,an bu⟩)
  exact U.bD rfl (l _ (ao a) _ _ _ ⟨rfl,rfl,bz.sub trivial⟩)
 rintro w A y O ⟨rfl,rfl,q⟩ a;refine U.sub q (sg aC (vs 1 (er ?_)));cases ay a;exact rt func104 (.tmp rfl .nil) sr (d _ _ _ aM)
theorem wG(x0:aj)(x1:aY)(x2:Int)(x3:Int){k l m o p:Value}(u:aa bt 2 R k x0.Rows)(w:aa bq 2 R l x0.aD)(b:aa bp 2 R m x0.az)(f:aa br 4 R o x0.av)(x:aa bg 3 R p x0.aQ)(D:x1.deep.length=3){r:Bool}(a:kJ x0 x1 x2 x3=some r):aP ab 111 #[.agg #[iv x0.Rest,k,l,m,o,p],.agg (List.toArray ([]++(x1.deep.map (Value.int .i64)++[]))),iv x2,iv x3] R H (λ v R' H'=>R=R'∧H=H'∧v = .bool r):=by
 unfold kJ at a
 refine aX func111 39 λ fr cs g=>?_;refine sg aT (bx λ G=>?_);refine bx λ I=>?_;refine vs 1 ?_;refine nx dk (vs 2 ?_);refine ld 4 dS z1 ?_;refine vs 1 ?_;have ⟨M,A,a⟩:=ag a;obtain ⟨K,L,_,rfl,y,z⟩:=f.elem iS A;refine bS z ?_;refine U.s rfl rfl (Ox.bE (vs:=[_,_,_,_]) rfl rfl fp rfl (y.any.part (j:=0) (n:=4) rfl) rfl (.put rfl) ?_);refine bN (#[iv 0,iv 0,iv 0,iv 0]) ix λ J=>?_;refine cl (#[_,_,_,_]) fp .here ?_;refine nx cU (vs 1 ?_);refine ld 0 aL z0 ?_;refine vs 1 ?_;have ⟨F,h,a⟩:=ag a;refine bS (gF m3 D h) ?_;refine U.ld aL ((aH.box z1).arr h rfl) ?_;refine vs 1 (es ?_);refine U.dw CB mixed ?_;refine Any.vs 3 [0,1,2] rfl (tl 3 3 eD z2 ?_);refine Any.vs 1 [4] rfl ?_;have ⟨N,i,a⟩:=ag a;refine a7 a (λ e a=>?_) (λ e a=>?_)
 ·have ⟨O,C,a⟩:=ag a;obtain ⟨q,E,_,rfl,c,d⟩:=b.elem iR i;refine tQ 5 rfl (kI d) ?_;refine Any.vs 1 [6] rfl (tQ 7 rfl (kU aL 1 c) ?_);refine Any.vs 2 [8,9] rfl (Any.cb (t:=31) rfl e ?_);refine Any.vs 1 [10] rfl (tl 11 2 aL z0 ?_);refine tN 12 [_,_,_,_,_,_] 0 6 dK z2 ?_;refine Any.vs 1 [13] rfl (Any.cv 14 ss (s9 x0 F u w b f x C) ?_);rintro _ _ _ ⟨rfl,rfl,rfl⟩;refine kp (Any.vs 3 [15,16,17] rfl (Any.done ?_));cases ay a;exact rt func111 (.tmp rfl .nil) (so (so (so sr))) (g _ _ _ aM)
 obtain ⟨q,E,_,rfl,c,d⟩:=b.elem iR i;refine tQ 5 rfl (kI d) ?_;refine Any.vs 1 [6] rfl (tQ 7 rfl (kU aL 1 c) ?_);refine Any.vs 2 [8,9] rfl (Any.cb (t:=31) rfl e ?_);refine Any.vs 8 [10,11,12,13,14,15,16,17] rfl (Any.done ?_);cases ay a;exact rt func111 (.tmp rfl .nil) (so (so (so sr))) (g _ _ _ aM)
theorem KT(x0:aY)(x1:bF)(x2:Int)(x3:Int){d e f g h i:Value}{b1 b2 c:Nat}(b:x0.deep.length=3)(q:aH R H b1 0 [iv x1.book.Rest,d,e,f,g,h,i])(k:aa bt 2 R d x1.book.Rows)(l:aa bq 2 R e x1.book.aD)(m:aa bp 2 R f x1.book.az)(o:aa br 4 R g x1.book.av)(p:aa bg 3 R h x1.book.aQ)(_:aa c9 3 R i x1.cG)(t:aH R H b2 0 [iv x2])(u:aH R H c 0 [iv x3]){r:Bool}(a:kO x0 x1 x2 x3=some r):aP ab 172 #[.agg (List.toArray ([]++(x0.deep.map (Value.int .i64)++[]))),pT b1,pT b2,pT c] R H (λ v R' H'=>R=R'∧H=H'∧v = .bool r):=by
 unfold kO at a
 refine aX func172 12 λ fr cs w=>?_;refine sg aE (bx λ y=>?_);refine vs 1 ?_;refine nx cy (vs 1 ?_);refine U.s rfl rfl (Ox.bE (vs:=[_,_,_,_,_,_]) rfl rfl dK rfl ((q.sub (su (so sr))).part (j:=0) (n:=6) rfl) rfl (.put rfl) ?_);refine U.s rfl rfl (Ox.bE (vs:=_) rfl rfl fv (by simp [b]) ((aH.box z0).part (j:=0) (n:=3) (cD (by simp [b]))) rfl (.put rfl) ?_);refine U.ld aL ((t.sub (su (so sr))).one (j:=0) rfl) ?_;refine U.ld aL ((u.sub (su (so sr))).one (j:=0) rfl) ?_;have ⟨A,x,a⟩:=ag a;refine U.cv vz (wG x1.book x0 x2 x3 k l m o p b x) ?_;rintro _ _ _ ⟨rfl,rfl,rfl⟩;refine vs 1 (er ?_);cases ay a;exact rt func172 (.tmp rfl .nil) (so sr) (w _ _ _ aM)
theorem Ln(x0:aj){d e f g h:Value}(w:aa bt 2 R d x0.Rows)(x:aa bq 2 R e x0.aD)(i:aa bp 2 R f x0.az)(y:aa br 4 R g x0.av)(z:aa bg 3 R h x0.aQ){r:Bool}(a:qG x0=some r):aP ab 20 #[.agg #[iv x0.Rest,d,e,f,g,h]] R H (λ v R' H'=>R=R'∧H=H'∧v = .bool r):=by
 unfold qG at a
 refine aX func20 47 λ fr cs k=>?_;refine sg aE (bx λ c=>?_);refine vs 1 (es (sq ?_));refine U.dp a (λ (p:Bool) R' H' st'=>R=R'∧H'=(c,.cells #[iv x0.Rest,d,e,f,g,h] 28)::H∧aA st' [(1,pT c),(31,.bool p)])  ?_ ?_;rotate_right
 ·intro ac a b;refine U.rg Oj (vs 1 ?_);refine ld 1 fx z0 ?_;refine ls w underlying22 ?_;refine vs 2 ?_;refine a7 a (λ l a=>?_) (λ l a=>?_)
  ·refine U.kn 8 l (vs 23 (er ?_));exact b _ (ao a) _ _ _ ⟨rfl,rfl,an cC⟩
  refine U.kn 8 l (vs 1 ?_);refine ld 2 fI z0 ?_;refine ls x underlying23 ?_;refine vs 3 ?_;refine a7 a (λ m a=>?_) (λ m a=>?_)
  ·refine U.kn 14 m (vs 17 (er ?_));exact b _ (ao a) _ _ _ ⟨rfl,rfl,an cC⟩
  refine U.kn 14 m (vs 1 ?_);refine ld 3 eD z0 ?_;refine ls i underlying24 ?_;refine vs 3 ?_;refine a7 a (λ n a=>?_) (λ n a=>?_)
  ·refine U.kn 20 n (vs 11 (er ?_));exact b _ (ao a) _ _ _ ⟨rfl,rfl,an cC⟩
  refine U.kn 20 n (vs 1 ?_);refine ld 4 dS z0 ?_;refine ls y underlying25 ?_;refine vs 3 ?_;refine a7 a (λ o a=>?_) (λ o a=>?_)
  ·refine U.kn 26 o (vs 5 (er ?_));exact b _ (ao a) _ _ _ ⟨rfl,rfl,an cC⟩
  refine U.kn 26 o (vs 1 ?_);refine ld 5 fu z0 ?_;refine ls z underlying26 ?_;refine vs 2 (er ?_);exact b _ (ao a) _ _ _ ⟨rfl,rfl,an cC⟩
 rintro p N K X ⟨rfl,rfl,D⟩ a;refine U.sub D (sc a ?_ ?_)<;>intro S a
 ·refine sg aC (vs 1 (er ?_));cases ay a;exact rt func20 (.tmp rfl .nil) (so sr) (k _ _ _ aM)
 refine sp (sq (sg aC (vs 1 (er ?_))));refine U.aR ?_;refine U.cT a (λ (q:Int) R' H' st'=>R=R'∧H'=(c,.cells #[iv x0.Rest,d,e,f,g,h] 28)::H∧aA st' [(1,pT c),(3,iv q)]) (λ (J:Unit) R' H' st'=>R=R'∧H=H'∧aA st' []) 0 rfl ⟨rfl,rfl,an cC⟩ ?_ ?_;rotate_right
 ·rintro q O L Y ⟨rfl,rfl,E⟩ ad a t u I;refine U.sub E (sq (sg bK (vs 2 ?_)));refine ld 3 eD z0 ?_;refine ls i underlying24 ?_;refine vs 1 (er ?_);refine sc a ?_ ?_<;>intro T a
  ·refine sp (sq (U.aR ?_));refine sg dk (vs 1 ?_);refine ld 3 eD z0 ?_;refine vs 1 ?_;have ⟨ae,G,a⟩:=ag a;obtain ⟨Q,W,_,rfl,A,C⟩:=i.elem iR G;refine bS C ?_;refine vs 1 ?_;refine U.ld n0 (A.any.one (j:=0) rfl) ?_;refine U.s rfl rfl (Ox.s5 rfl rfl underlying9 rfl (.put rfl) ?_);refine vs 1 (er ?_);refine sc a ?_ ?_<;>intro V a
   ·refine sg aC (vs 1 (er ?_));replace a:=I _ (ao a);cases ay a;exact rt func20 (.tmp rfl .nil) (so sr) (k _ _ _ aM)
   refine sp (U.a9 ?_);refine U.rg aT (vs 3 (er ?_));exact t _ (ao a) _ _ _ ⟨rfl,rfl,an cC⟩
  exact U.bD rfl (U.bd (so sr) (u _ (ao a) _ _ _ ⟨rfl,rfl,bz.sub trivial⟩))
 rintro J P M Z ⟨rfl,rfl,F⟩ a;refine U.sub F (sg aC (vs 1 (er ?_)));cases ay a;exact rt func20 (.tmp rfl .nil) sr (k _ _ _ aM)
theorem LP(x0:aj){c d e f g:Value}(_:aa bt 2 R c x0.Rows)(_:aa bq 2 R d x0.aD)(_:aa bp 2 R e x0.az)(_:aa br 4 R f x0.av)(_:aa bg 3 R g x0.aQ){r:Int}(a:o1 x0=some r):aP ab 265 #[.agg #[iv x0.Rest,c,d,e,f,g]] R H (λ v R' H'=>R=R'∧H=H'∧v=iv r):=by
 unfold o1 at a
 refine aX func265 8 λ fr cs b=>?_;refine sg aE (bx λ i=>?_);refine vs 1 (es ?_);refine sg bK (vs 2 ?_);refine ld 0 aL z0 ?_;have ⟨p,h,a⟩:=ag a;refine U.cv fD (fG x0.Rest 0 60  h) ?_;rintro _ _ _ ⟨rfl,rfl,rfl⟩;refine vs 1 (er ?_);refine sc a ?_ ?_<;>intro o a
 ·refine sg aC (vs 1 (er ?_));cases ay a;exact rt func265 (.tmp rfl .nil) (so sr) (b _ _ _ aM)
 refine sp (sg aC (vs 1 (er ?_)));cases ay a;exact rt func265 (.tmp rfl .nil) (so sr) (b _ _ _ aM)
theorem LR(x0:aj){c g h i k:Value}(b:aa bt 2 R c x0.Rows)(_:aa bq 2 R g x0.aD)(_:aa bp 2 R h x0.az)(_:aa br 4 R i x0.av)(_:aa bg 3 R k x0.aQ){r:Int}(a:nF x0=some r):aP ab 266 #[.agg #[iv x0.Rest,c,g,h,i,k]] R H (λ v R' H'=>R=R'∧H=H'∧v=iv r):=by
 unfold nF at a
 refine aX func266 59 λ fr cs d=>?_;refine sg aE (bx λ e=>?_);refine vs 1 (es ?_);refine sg cU (vs 2 ?_);refine ld 1 fx z0 ?_;refine ls b underlying22 ?_;have ⟨aS,Q,a⟩:=ag a;refine U.cv fD (fG (x0.Rows.length:Int) 1 4  Q) ?_;rintro _ _ _ ⟨rfl,rfl,rfl⟩;refine vs 1 (er ?_);refine sc a ?_ ?_<;>intro au a
 ·refine sg aC (vs 1 (er ?_));cases ay a;exact rt func266 (.tmp rfl .nil) (so sr) (d _ _ _ aM)
 refine sp (sq (sg bK (vs 2 ?_)));refine ld 1 fx z0 ?_;refine ls b underlying22 ?_;refine vs 1 (er ?_);refine U.aR ?_;refine U.cT a (λ (f:Int) R' H' st'=>R=R'∧H'=(e,.cells #[iv x0.Rest,c,g,h,i,k] 119)::H∧aA st' [(1,pT e),(13,c),(14,iv (x0.Rows.length:Int)),(15,iv f)]) (λ (T:Unit) R' H' st'=>R=R'∧H=H'∧aA st' []) 0 rfl ⟨rfl,rfl,an bu⟩ ?_ ?_;rotate_right
 ·rintro f Z W aG ⟨rfl,rfl,K⟩ aT a w D u;refine U.sub K (sg aC (vs 1 (es ?_)));refine sc a ?_ ?_<;>intro am a
  ·refine sp (sq (U.aR ?_));refine sg cU (vs 1 ?_);have ⟨l,M,a⟩:=ag a;obtain ⟨ad,aw,_,rfl,E,G⟩:=b.elem g6 M;refine bS G ?_;refine U.s rfl rfl (Ox.bE (vs:=[_,_]) rfl rfl iy rfl (E.any.part (j:=0) (n:=2) rfl) rfl (.put rfl) ?_);refine bN (#[iv 0,iv 0]) uz λ x=>?_;refine vs 1 ?_;refine cl (#[_,_]) iy .here ?_;refine er (U.aR ?_);refine sq (sg bK (vs 1 ?_));refine ld 0 aL z0 ?_;have ⟨aI,N,a⟩:=ag a;refine U.cv fD (fG l.cB 1 30  N) ?_;rintro _ _ _ ⟨rfl,rfl,rfl⟩;refine vs 2 (er ?_);refine U.dp a (λ (A:Bool) R' H' st'=>R=R'∧H'=(x,.cells #[iv l.cB,iv l.cK] 64)::(e,.cells #[iv x0.Rest,c,g,h,i,k] 119)::H∧aA st' [(1,pT e),(3,iv f),(4,pT x),(13,c),(14,iv (x0.Rows.length:Int)),(15,iv f),(20,.bool A)])  ?_ ?_;rotate_right
   ·intro aJ a y;refine sc a ?_ ?_<;>intro ap a
    ·exact sp (y _ (ao a) _ _ _ ⟨rfl,rfl,an eY⟩)
    refine U.rg bK (vs 1 ?_);refine ld 1 aL z0 ?_;have ⟨aK,O,a⟩:=ag a;refine U.cv fD (fG l.cK 1 60  O) ?_;rintro _ _ _ ⟨rfl,rfl,rfl⟩;refine vs 2 (er ?_);exact y _ (ao a) _ _ _ ⟨rfl,rfl,an eY⟩
   rintro A Y V aF ⟨rfl,rfl,J⟩ a;refine U.sub J (sc a ?_ ?_)<;>intro aq a
   ·refine sg aC (vs 1 (er ?_));replace a:=u _ (ao a);cases ay a;exact rt func266 (.tmp rfl .nil) (so (so sr)) (d _ _ _ aM)
   refine sq (U.dw Ol mixed ?_);refine Any.vs 3 [0,1,2] rfl (a7 a (λ p a=>?_) (λ p a=>?_))
   ·refine Any.cb (t:=32) rfl p ?_;refine Any.vs 1 [3] rfl (tl 4 0 aL z0 ?_);refine Any.vs 2 [5,6] rfl (tl 7 1 fx z1 ?_);refine Any.vs 2 [8,9] rfl ?_;have ⟨aN,z,a⟩:=ag a;refine a7 a (λ q a=>?_) (λ q a=>?_)
    ·obtain ⟨C,S,_,rfl,m,o⟩:=b.elem g6 z;refine tQ 10 rfl (kI o) ?_;refine Any.vs 1 [11] rfl (tQ 12 rfl (kU aL 0 m) ?_);refine Any.vs 2 [13,14] rfl (Any.cb (t:=44) rfl q ?_);refine Any.vs 14 [15,16,17,18,19,20,21,22,23,24,25,26,27,28] rfl (Any.done (U.cond_true rfl ?_));refine sg aC (vs 1 (er ?_));replace a:=u _ (ao a);cases ay a;exact rt func266 (.tmp rfl .nil) (so (so sr)) (d _ _ _ aM)
    have ⟨aO,P,a⟩:=ag a;obtain ⟨C,S,_,rfl,m,o⟩:=b.elem g6 z;refine tQ 10 rfl (kI o) ?_;refine Any.vs 1 [11] rfl (tQ 12 rfl (kU aL 0 m) ?_);refine Any.vs 2 [13,14] rfl (Any.cb (t:=44) rfl q ?_);refine Any.vs 1 [15] rfl (tl 16 1 aL z0 ?_);refine Any.vs 2 [17,18] rfl (tl 19 1 fx z1 ?_);refine Any.vs 2 [20,21] rfl ?_;obtain ⟨ae,aB,_,rfl,F,I⟩:=b.elem g6 P;refine tQ 22 rfl (kI I) ?_;refine Any.vs 1 [23] rfl (tQ 24 rfl (kU aL 1 F) ?_);refine Any.vs 4 [25,26,27,28] rfl (Any.done (sc a ?_ ?_))<;>intro ar a
    ·refine sg aC (vs 1 (er ?_));replace a:=u _ (ao a);cases ay a;exact rt func266 (.tmp rfl .nil) (so (so sr)) (d _ _ _ aM)
    refine sp (U.a9 ?_);refine U.a9 ?_;refine U.rg aE (vs 2 (er ?_));exact U.bd (so sr) (w _ (ao a) _ _ _ ⟨rfl,rfl,an bu⟩)
   refine Any.cb (t:=32) rfl p ?_;refine Any.vs 26 [3,4,5,6,7,8,9,10,11,12,13,14,15,16,17,18,19,20,21,22,23,24,25,26,27,28] rfl (Any.done (U.cond_false rfl ?_));refine sp (U.a9 ?_);refine U.a9 ?_;refine U.rg aE (vs 2 (er ?_));exact U.bd (so sr) (w _ (ao a) _ _ _ ⟨rfl,rfl,an bu⟩)
  exact U.bD rfl (U.bd (so sr) (D _ (ao a) _ _ _ ⟨rfl,rfl,bz.sub trivial⟩))
 rintro T ac X aH ⟨rfl,rfl,L⟩ a;refine U.sub L (sg aC (vs 1 (er ?_)));cases ay a;exact rt func266 (.tmp rfl .nil) sr (d _ _ _ aM)
theorem Mb(x0:(List Reach))(x1:(Reach→Option Bool)){v0 v1:Value}(b:bO bq 2 R H v0 x0)(h1:gk ab R H (eA bq) VB v1 x1){r:Int}(a:qL x0 x1=some r):aP ab 277 #[v0,v1] R H (λ v R' H'=>aJ R R'∧H=H'∧v=iv r):=by
 unfold qL at a
 refine aX func277 19 λ fr cs f=>?_;refine sg aC (vs 1 (es ?_));refine sg aT (vs 1 ?_);refine lr b underlying23 ?_;refine vs 1 (er ?_);refine U.aR ?_;refine U.cT a (λ (g:Int) R' H' st'=>aJ R R'∧H=H'∧aA st' [(0,v0),(1,v1),(7,iv (x0.length:Int)),(8,iv g)]) (λ (u:Unit) R' H' st'=>aJ R R'∧H=H'∧aA st' []) 0 rfl ⟨rr,rfl,an bu⟩ ?_ ?_;rotate_right
 ·rintro g y w G ⟨c,rfl,m⟩ J a h i t;refine U.sub m ?_;replace b:=b.le c;replace h1:=h1.up c pp;refine sg aC (vs 1 (es ?_));refine sc a ?_ ?_<;>intro D a
  ·refine sp (sq (U.aR ?_));refine sg aE (vs 2 ?_);refine nx cU (vs 3 ?_);have ⟨K,p,a⟩:=ag a;have ⟨L,q,a⟩:=ag a;obtain ⟨C,F,_,rfl,e,l⟩:=b.elem ri p;refine bS l ?_;refine U.s rfl rfl (Ox.bE (vs:=[_,_]) rfl rfl gm rfl ((e.sub pp).part (j:=0) (n:=2) rfl) rfl (.put rfl) ?_);refine U.step rfl rfl rfl (Ox.iC h1 rfl rfl rfl ⟨_,bn⟩ q rfl pp ?_);rintro _ A d rfl;replace b:=b.le d;replace h1:=h1.up d pp;replace e:=e.le d;refine ⟨_,(.put rfl),?_⟩;refine er (sc a ?_ ?_)<;>intro E a
   ·refine sg aE (vs 2 (er ?_));replace a:=t _ (ao a);cases ay a;exact rt func277 (.tmp rfl .nil) sr (f _ _ _ ⟨(c.trans d),bn⟩)
   refine sp (U.a9 ?_);refine U.rg aE (vs 2 (er ?_));exact h _ (ao a) _ _ _ ⟨(c.trans d),rfl,an bu⟩
  exact U.bD rfl (i _ (ao a) _ _ _ ⟨c,rfl,bz.sub trivial⟩)
 rintro u z x I ⟨k,rfl,o⟩ a;refine U.sub o (sg aC (vs 1 (er ?_)));cases ay a;exact rt func277 (.tmp rfl .nil) sr (f _ _ _ ⟨k,bn⟩)
theorem L2(x0:(List Reach))(x1:(Reach→Option Bool)){v0 v1:Value}(b:bO bq 2 R H v0 x0)(h1:gk ab R H (eA bq) VB v1 x1){r:Bool}(a:o2 x0 x1=some r):aP ab 271 #[v0,v1] R H (λ v R' H'=>aJ R R'∧H=H'∧v = .bool r):=by
 unfold o2 at a
 refine aX func271 9 λ fr cs d=>?_;refine sg aC (vs 1 ?_);refine nx bK (vs 2 ?_);have ⟨g,e,a⟩:=ag a;refine U.cv GK (Mb x0 x1 (b.sub pp) h1 e) ?_;rintro _ f _ ⟨c,rfl,rfl⟩;replace b:=b.le c;replace h1:=h1.up c pp;refine vs 2 (er ?_);cases ay a;exact rt func271 (.tmp rfl .nil) sr (d _ _ _ ⟨c,bn⟩)
theorem L5(x0:Reach)(x1:Int)(x2:Int)(x3:Int)  {r:Bool} (a:nM x0 x1 x2 x3=some r):aP ab 273 #[.agg #[iv x0.bJ,iv x0.bT],iv x1,iv x2,iv x3] R H (λ v R' H'=>R=R'∧H=H'∧v = .bool r):=by
 unfold nM at a
 refine aX func273 35 λ fr cs b=>?_;refine sg aE (bx λ f=>?_);refine vs 1 ?_;refine nx CE (vs 2 ?_);refine ld 0 aL z0 ?_;refine vs 2 ?_;refine a7 a (λ c a=>?_) (λ c a=>?_)
 ·refine U.kn 13 c (vs 1 ?_);refine ld 0 aL z0 ?_;refine vs 1 ?_;refine ld 1 aL z0 ?_;refine vs 3 ?_;refine a7 a (λ d a=>?_) (λ d a=>?_)
  ·refine U.kn 20 d (vs 1 ?_);refine ld 1 aL z0 ?_;refine vs 4 ?_;refine a7 a (λ e a=>?_) (λ e a=>?_)
   ·refine U.kn 26 e (vs 1 ?_);refine ld 1 aL z0 ?_;refine vs 1 ?_;refine ld 0 aL z0 ?_;refine vs 5 (er ?_);cases ay a;exact rt func273 (.tmp rfl .nil) (so sr) (b _ _ _ aM)
   refine U.kn 26 e (vs 9 (er ?_));cases ay a;exact rt func273 (.tmp rfl .nil) (so sr) (b _ _ _ aM)
  refine U.kn 20 d (vs 15 (er ?_));cases ay a;exact rt func273 (.tmp rfl .nil) (so sr) (b _ _ _ aM)
 refine U.kn 13 c (vs 22 (er ?_));cases ay a;exact rt func273 (.tmp rfl .nil) (so sr) (b _ _ _ aM)
theorem L3(x0:Reach)  {r:Bool} (a:nL x0=some r):aP ab 272 #[.agg #[iv x0.bJ,iv x0.bT]] R H (λ v R' H'=>R=R'∧H=H'∧v = .bool r):=by
 unfold nL at a
 refine aX func272 6 λ fr cs b=>?_;refine sg aE (bx λ d=>?_);refine vs 1 ?_;refine nx bj (lN [_,_] 0 2 gm z0 ?_);have ⟨e,c,a⟩:=ag a;refine U.cv GG (L5 x0 1 30 3  c) ?_;rintro _ _ _ ⟨rfl,rfl,rfl⟩;refine vs 2 (er ?_);cases ay a;exact rt func272 (.tmp rfl .nil) (so sr) (b _ _ _ aM)
theorem LU(x0:aj){e f g h i:Value}(_:aa bt 2 R e x0.Rows)(c:aa bq 2 R f x0.aD)(_:aa bp 2 R g x0.az)(_:aa br 4 R h x0.av)(_:aa bg 3 R i x0.aQ){r:Int}(a:nG x0=some r):aP ab 267 #[.agg #[iv x0.Rest,e,f,g,h,i]] R H (λ v R' H'=>aJ R R'∧H=H'∧v=iv r):=by
 unfold nG at a
 refine aX func267 13 λ fr cs b=>?_;refine sg aE (bx λ o=>?_);refine vs 1 (es ?_);refine sg cU (vs 2 ?_);refine ld 2 fI z0 ?_;refine ls c underlying23 ?_;have ⟨A,l,a⟩:=ag a;refine U.cv fD (fG (x0.aD.length:Int) 1 3  l) ?_;rintro _ _ _ ⟨rfl,rfl,rfl⟩;refine vs 1 (er ?_);refine sc a ?_ ?_<;>intro x a
 ·refine sg aC (vs 1 (er ?_));cases ay a;exact rt func267 (.tmp rfl .nil) (so sr) (b _ _ _ ⟨(rr),bn⟩)
 refine sp (sq (sg bj (vs 2 ?_)));refine ld 2 fI z0 ?_;have ⟨C,m,a⟩:=ag a;refine U.cv GD (L2 x0.aD (λ y=>nL y) c.rd ⟨272,#[],#[],rfl,GF,λ R' H' w u y r va j k=>by obtain ⟨_,rfl,rfl⟩:=j; exact (L3 y  k).mono λ _ _ _ ⟨h1,h2,h3⟩=>⟨h1 ▸ rr,h2.symm,h3⟩⟩ m) ?_;rintro _ n _ ⟨d,rfl,rfl⟩;refine er (sc a ?_ ?_)<;>intro z a
 ·refine sg aC (vs 1 (er ?_));cases ay a;exact rt func267 (.tmp rfl .nil) (so sr) (b _ _ _ ⟨d,bn⟩)
 refine sp (sg aC (vs 1 (er ?_)));cases ay a;exact rt func267 (.tmp rfl .nil) (so sr) (b _ _ _ ⟨d,bn⟩)
theorem Mc(x0:(List cN))(x1:(cN→Option Bool)){v0 v1:Value}(b:bO bp 2 R H v0 x0)(h1:gk ab R H (eA bp) VB v1 x1){r:Int}(a:qM x0 x1=some r):aP ab 278 #[v0,v1] R H (λ v R' H'=>aJ R R'∧H=H'∧v=iv r):=by
 unfold qM at a
 refine aX func278 19 λ fr cs f=>?_;refine sg aC (vs 1 (es ?_));refine sg aT (vs 1 ?_);refine lr b underlying24 ?_;refine vs 1 (er ?_);refine U.aR ?_;refine U.cT a (λ (g:Int) R' H' st'=>aJ R R'∧H=H'∧aA st' [(0,v0),(1,v1),(7,iv (x0.length:Int)),(8,iv g)]) (λ (u:Unit) R' H' st'=>aJ R R'∧H=H'∧aA st' []) 0 rfl ⟨rr,rfl,an bu⟩ ?_ ?_;rotate_right
 ·rintro g y w G ⟨c,rfl,m⟩ J a h i t;refine U.sub m ?_;replace b:=b.le c;replace h1:=h1.up c pp;refine sg aC (vs 1 (es ?_));refine sc a ?_ ?_<;>intro D a
  ·refine sp (sq (U.aR ?_));refine sg aE (vs 2 ?_);refine nx cU (vs 3 ?_);have ⟨K,p,a⟩:=ag a;have ⟨L,q,a⟩:=ag a;obtain ⟨C,F,_,rfl,e,l⟩:=b.elem iR p;refine bS l ?_;refine U.s rfl rfl (Ox.bE (vs:=[_,_]) rfl rfl uE rfl ((e.sub pp).part (j:=0) (n:=2) rfl) rfl (.put rfl) ?_);refine U.step rfl rfl rfl (Ox.iC h1 rfl rfl rfl ⟨_,bn⟩ q rfl pp ?_);rintro _ A d rfl;replace b:=b.le d;replace h1:=h1.up d pp;replace e:=e.le d;refine ⟨_,(.put rfl),?_⟩;refine er (sc a ?_ ?_)<;>intro E a
   ·refine sg aE (vs 2 (er ?_));replace a:=t _ (ao a);cases ay a;exact rt func278 (.tmp rfl .nil) sr (f _ _ _ ⟨(c.trans d),bn⟩)
   refine sp (U.a9 ?_);refine U.rg aE (vs 2 (er ?_));exact h _ (ao a) _ _ _ ⟨(c.trans d),rfl,an bu⟩
  exact U.bD rfl (i _ (ao a) _ _ _ ⟨c,rfl,bz.sub trivial⟩)
 rintro u z x I ⟨k,rfl,o⟩ a;refine U.sub o (sg aC (vs 1 (er ?_)));cases ay a;exact rt func278 (.tmp rfl .nil) sr (f _ _ _ ⟨k,bn⟩)
theorem L9(x0:(List cN))(x1:(cN→Option Bool)){v0 v1:Value}(b:bO bp 2 R H v0 x0)(h1:gk ab R H (eA bp) VB v1 x1){r:Bool}(a:o3 x0 x1=some r):aP ab 275 #[v0,v1] R H (λ v R' H'=>aJ R R'∧H=H'∧v = .bool r):=by
 unfold o3 at a
 refine aX func275 9 λ fr cs d=>?_;refine sg aC (vs 1 ?_);refine nx bK (vs 2 ?_);have ⟨g,e,a⟩:=ag a;refine U.cv GL (Mc x0 x1 (b.sub pp) h1 e) ?_;rintro _ f _ ⟨c,rfl,rfl⟩;replace b:=b.le c;replace h1:=h1.up c pp;refine vs 2 (er ?_);cases ay a;exact rt func275 (.tmp rfl .nil) sr (d _ _ _ ⟨c,bn⟩)
theorem Ma(x0:cN)(x1:cN){b1:Nat}(b:aH R H b1 0 [.string x1.Name,iv x1.gj]){r:Bool}(a:nN x0 x1=some r):aP ab 276 #[.agg #[.string x0.Name,iv x0.gj],pT b1] R H (λ v R' H'=>R=R'∧H=H'∧v = .bool r):=by
 unfold nN at a
 refine aX func276 9 λ fr cs c=>?_;refine sg aE (bx λ d=>?_);refine vs 1 ?_;refine nx cU (vs 1 ?_);refine ld 0 n0 z0 ?_;refine vs 1 ?_;refine U.ld n0 ((b.sub (su (so sr))).one (j:=0) rfl) ?_;refine U.s rfl rfl (Ox.zl rfl rfl rfl rfl rfl (.put rfl) ?_);refine vs 1 (er ?_);cases ay a;exact rt func276 (.tmp rfl .nil) (so sr) (c _ _ _ aM)
theorem LW(x0:aj){i k e l m:Value}(_:aa bt 2 R i x0.Rows)(_:aa bq 2 R k x0.aD)(b:aa bp 2 R e x0.az)(_:aa br 4 R l x0.av)(_:aa bg 3 R m x0.aQ){r:Int}(a:nH x0=some r):aP ab 268 #[.agg #[iv x0.Rest,i,k,e,l,m]] R H (λ v R' H'=>aJ R R'∧H=H'∧v=iv r):=by
 unfold nH at a
 refine aX func268 39 λ fr cs d=>?_;refine sg aE (bx λ o=>?_);refine vs 1 (es ?_);refine sg cU (vs 2 ?_);refine ld 3 eD z0 ?_;refine ls b underlying24 ?_;have ⟨aG,J,a⟩:=ag a;refine U.cv fD (fG (x0.az.length:Int) 1 4  J) ?_;rintro _ _ _ ⟨rfl,rfl,rfl⟩;refine vs 1 (er ?_);refine sc a ?_ ?_<;>intro al a
 ·refine sg aC (vs 1 (er ?_));cases ay a;exact rt func268 (.tmp rfl .nil) (so sr) (d _ _ _ ⟨(rr),bn⟩)
 refine sp (sq (sg bK (vs 2 ?_)));refine ld 3 eD z0 ?_;refine ls b underlying24 ?_;refine vs 1 (er ?_);refine U.aR ?_;refine U.cT a (λ (p:Int) R' H' st'=>aJ R R'∧H'=(o,.cells #[iv x0.Rest,i,k,e,l,m] 119)::H∧aA st' [(1,pT o),(13,e),(14,iv (x0.az.length:Int)),(15,iv p)]) (λ (O:Unit) R' H' st'=>aJ R R'∧H=H'∧aA st' []) 0 rfl ⟨rr,rfl,an bu⟩ ?_ ?_;rotate_right
 ·rintro p T Q ar ⟨c,rfl,E⟩ aI a q t h;refine U.sub E ?_;replace b:=b.mono c;refine sg aC (vs 1 (es ?_));refine sc a ?_ ?_<;>intro am a
  ·refine sp (sq (U.aR ?_));refine sg cU (vs 1 ?_);have ⟨f,K,a⟩:=ag a;obtain ⟨Y,aq,_,rfl,z,A⟩:=b.elem iR K;refine bS A ?_;refine U.s rfl rfl (Ox.bE (vs:=[_,_]) rfl rfl uE rfl (z.any.part (j:=0) (n:=2) rfl) rfl (.put rfl) ?_);refine bN (#[.string (⟨#[]⟩),iv 0]) Qk λ X=>?_;refine vs 1 ?_;refine cl (#[_,_]) uE .here ?_;refine er (U.aR ?_);refine sg bK (vs 1 ?_);refine ld 0 n0 z0 ?_;have ⟨aK,L,a⟩:=ag a;refine U.cv GH (L7 f.Name  L) ?_;rintro _ _ _ ⟨rfl,rfl,rfl⟩;refine vs 2 (er ?_);refine sc a ?_ ?_<;>intro ap a
   ·refine sg aC (vs 1 (er ?_));replace a:=h _ (ao a);cases ay a;exact rt func268 (.tmp rfl .nil) (so (so sr)) (d _ _ _ ⟨c,bn⟩)
   refine sg dk (vs 2 ?_);refine ld 3 eD z1 ?_;refine vs 1 ?_;have ⟨P,M,a⟩:=ag a;have ⟨aB,G,a⟩:=ag a;obtain ⟨aw,N,C⟩:=b.cut iR M;refine U.s rfl rfl (Ox.qc rfl rfl rfl rfl C rfl (.put rfl) ?_);refine U.s rfl rfl (Ox.makeFunc (vs:=#[]) (us:=#[_]) rfl rfl rfl rfl (.put rfl) ?_);refine U.cv GI (L9 P (λ y=>nN y f) N.rd ⟨276,#[],#[_],rfl,GJ,λ R' H' af w y r va u D=>by obtain ⟨_,rfl,rfl⟩:=u; exact (Ma y f (aH.box (w _ z0)) D).mono λ _ _ _ ⟨h1,h2,h3⟩=>⟨h1 ▸ rr,h2.symm,h3⟩⟩ G) ?_;rintro _ W _ ⟨g,rfl,rfl⟩;refine vs 1 (er ?_);refine sc a ?_ ?_<;>intro ah a
   ·refine sg aC (vs 1 (er ?_));replace a:=h _ (ao a);cases ay a;exact rt func268 (.tmp rfl .nil) (so (so sr)) (d _ _ _ ⟨(c.trans g),bn⟩)
   refine sg bK (vs 1 ?_);refine ld 1 aL z0 ?_;have ⟨aF,I,a⟩:=ag a;refine U.cv fD (fG f.gj 1 30  I) ?_;rintro _ _ _ ⟨rfl,rfl,rfl⟩;refine vs 2 (er ?_);refine sc a ?_ ?_<;>intro ak a
   ·refine sg aC (vs 1 (er ?_));replace a:=h _ (ao a);cases ay a;exact rt func268 (.tmp rfl .nil) (so (so sr)) (d _ _ _ ⟨(c.trans g),bn⟩)
   refine sp (U.a9 ?_);refine U.a9 ?_;refine U.rg aE (vs 2 (er ?_));exact U.bd (so sr) (q _ (ao a) _ _ _ ⟨(c.trans g),rfl,an bu⟩)
  exact U.bD rfl (U.bd (so sr) (t _ (ao a) _ _ _ ⟨c,rfl,bz.sub trivial⟩))
 rintro O V S au ⟨x,rfl,F⟩ a;refine U.sub F (sg aC (vs 1 (er ?_)));cases ay a;exact rt func268 (.tmp rfl .nil) sr (d _ _ _ ⟨x,bn⟩)
theorem l8(x0:Int)(x1:Int)  {r:Int} (a:gY x0 x1=some r):aP ab 107 #[iv x0,iv x1] R H (λ v R' H'=>R=R'∧H=H'∧v=iv r):=by
 unfold gY at a
 refine aX func107 10 λ fr cs b=>?_;refine sg aC (vs 1 (es ?_));refine sg bK (vs 3 ?_);have ⟨e,c,a⟩:=ag a;refine U.cv fD (fG x0 0 (i64 (x1 - 1))  c) ?_;rintro _ _ _ ⟨rfl,rfl,rfl⟩;refine vs 1 (er ?_);refine sc a ?_ ?_<;>intro d a
 ·refine sg aC (vs 1 (er ?_));cases ay a;exact rt func107 (.tmp rfl .nil) sr (b _ _ _ aM)
 refine sp (sg aC (vs 1 (er ?_)));cases ay a;exact rt func107 (.tmp rfl .nil) sr (b _ _ _ aM)
theorem LY(x0:aj){i k l d m:Value}(_:aa bt 2 R i x0.Rows)(u:aa bq 2 R k x0.aD)(_:aa bp 2 R l x0.az)(f:aa br 4 R d x0.av)(_:aa bg 3 R m x0.aQ){r:Int}(a:nI x0=some r):aP ab 269 #[.agg #[iv x0.Rest,i,k,l,d,m]] R H (λ v R' H'=>R=R'∧H=H'∧v=iv r):=by
 unfold nI at a
 refine aX func269 47 λ fr cs b=>?_;refine sg aE (bx λ o=>?_);refine vs 1 (es ?_);refine sg cU (vs 2 ?_);refine ld 4 dS z0 ?_;refine ls f underlying25 ?_;have ⟨ak,G,a⟩:=ag a;refine U.cv fD (fG (x0.av.length:Int) 1 4  G) ?_;rintro _ _ _ ⟨rfl,rfl,rfl⟩;refine vs 1 (er ?_);refine sc a ?_ ?_<;>intro X a
 ·refine sg aC (vs 1 (er ?_));cases ay a;exact rt func269 (.tmp rfl .nil) (so sr) (b _ _ _ aM)
 refine sp (sq (sg bK (vs 2 ?_)));refine ld 4 dS z0 ?_;refine ls f underlying25 ?_;refine vs 1 (er ?_);refine U.aR ?_;refine U.cT a (λ (p:Int) R' H' st'=>R=R'∧H'=(o,.cells #[iv x0.Rest,i,k,l,d,m] 119)::H∧aA st' [(1,pT o),(14,d),(15,iv (x0.av.length:Int)),(16,iv p)]) (λ (I:Unit) R' H' st'=>R=R'∧H=H'∧aA st' []) 0 rfl ⟨rfl,rfl,an bu⟩ ?_ ?_;rotate_right
 ·rintro p L J Z ⟨rfl,rfl,y⟩ al a q t c;refine U.sub y (sg aC (vs 1 (es ?_)));refine sc a ?_ ?_<;>intro T a
  ·refine sp (sq (U.aR ?_));refine sg bj ?_;have ⟨e,A,a⟩:=ag a;obtain ⟨O,Y,_,rfl,w,x⟩:=f.elem iS A;refine bS x ?_;refine U.s rfl rfl (Ox.bE (vs:=[_,_,_,_]) rfl rfl fp rfl (w.any.part (j:=0) (n:=4) rfl) rfl (.put rfl) ?_);refine bN (#[iv 0,iv 0,iv 0,iv 0]) ix λ N=>?_;refine cl (#[_,_,_,_]) fp .here ?_;refine es (sg dk (vs 1 ?_));refine ld 0 aL z0 ?_;refine vs 2 ?_;refine ld 2 fI z1 ?_;refine ls u underlying23 ?_;have ⟨ad,C,a⟩:=ag a;refine U.cv lZ (l8 e.Place (x0.aD.length:Int)  C) ?_;rintro _ _ _ ⟨rfl,rfl,rfl⟩;refine vs 1 ?_;refine nx aE (vs 2 (er ?_));refine sc a ?_ ?_<;>intro V a
   ·refine sg aE (vs 2 (er ?_));replace a:=c _ (ao a);cases ay a;exact rt func269 (.tmp rfl .nil) (so (so sr)) (b _ _ _ aM)
   refine sp (sg rf (vs 1 ?_));refine ld 1 aL z0 ?_;have ⟨ae,D,a⟩:=ag a;refine U.cv fD (fG e.dy 0 200  D) ?_;rintro _ _ _ ⟨rfl,rfl,rfl⟩;refine vs 2 ?_;refine a7 a (λ g a=>?_) (λ g a=>?_)
   ·refine U.kn 34 g (vs 11 (er ?_));refine U.cond_true rfl ?_;refine sg aC (vs 1 (er ?_));replace a:=c _ (ao a);cases ay a;exact rt func269 (.tmp rfl .nil) (so (so sr)) (b _ _ _ aM)
   refine U.kn 34 g (vs 1 ?_);refine ld 2 aL z0 ?_;have ⟨af,E,a⟩:=ag a;refine U.cv fD (fG e.db 1 60  E) ?_;rintro _ _ _ ⟨rfl,rfl,rfl⟩;refine vs 3 ?_;refine a7 a (λ h a=>?_) (λ h a=>?_)
   ·refine U.kn 40 h (vs 5 (er ?_));refine U.cond_true rfl ?_;refine sg aC (vs 1 (er ?_));replace a:=c _ (ao a);cases ay a;exact rt func269 (.tmp rfl .nil) (so (so sr)) (b _ _ _ aM)
   refine U.kn 40 h (vs 1 ?_);refine ld 3 aL z0 ?_;have ⟨ah,F,a⟩:=ag a;refine U.cv fD (fG e.az 1 3  F) ?_;rintro _ _ _ ⟨rfl,rfl,rfl⟩;refine vs 2 (er ?_);refine sc a ?_ ?_<;>intro W a
   ·refine sg aC (vs 1 (er ?_));replace a:=c _ (ao a);cases ay a;exact rt func269 (.tmp rfl .nil) (so (so sr)) (b _ _ _ aM)
   refine sp (U.a9 ?_);refine U.rg aE (vs 2 (er ?_));exact U.bd (so sr) (q _ (ao a) _ _ _ ⟨rfl,rfl,an bu⟩)
  exact U.bD rfl (U.bd (so sr) (t _ (ao a) _ _ _ ⟨rfl,rfl,bz.sub trivial⟩))
 rintro I M K ac ⟨rfl,rfl,z⟩ a;refine U.sub z (sg aC (vs 1 (er ?_)));cases ay a;exact rt func269 (.tmp rfl .nil) sr (b _ _ _ aM)
theorem L0(x0:aj){e f g h c:Value}(_:aa bt 2 R e x0.Rows)(q:aa bq 2 R f x0.aD)(_:aa bp 2 R g x0.az)(_:aa br 4 R h x0.av)(d:aa bg 3 R c x0.aQ){r:Int}(a:nK x0=some r):aP ab 270 #[.agg #[iv x0.Rest,e,f,g,h,c]] R H (λ v R' H'=>R=R'∧H=H'∧v=iv r):=by
 unfold nK at a
 refine aX func270 34 λ fr cs b=>?_;refine sg aE (bx λ i=>?_);refine vs 1 (es ?_);refine sg bK (vs 2 ?_);refine ld 5 fu z0 ?_;refine ls d underlying26 ?_;refine vs 1 (er ?_);refine sc a ?_ ?_<;>intro N a
 ·refine sg aC (vs 1 (er ?_));cases ay a;exact rt func270 (.tmp rfl .nil) (so sr) (b _ _ _ aM)
 refine sp (sq (sg bK (vs 2 ?_)));refine ld 5 fu z0 ?_;refine ls d underlying26 ?_;refine vs 1 (er ?_);refine U.aR ?_;refine U.cT a (λ (l:Int) R' H' st'=>R=R'∧H'=(i,.cells #[iv x0.Rest,e,f,g,h,c] 119)::H∧aA st' [(1,pT i),(13,c),(14,iv (x0.aQ.length:Int)),(15,iv l)]) (λ (C:Unit) R' H' st'=>R=R'∧H=H'∧aA st' []) 0 rfl ⟨rfl,rfl,an bu⟩ ?_ ?_;rotate_right
 ·rintro l F D T ⟨rfl,rfl,w⟩ W a o p k;refine U.sub w (sg aC (vs 1 (es ?_)));refine sc a ?_ ?_<;>intro O a
  ·refine sp (sq (U.aR ?_));refine sg bj ?_;have ⟨m,y,a⟩:=ag a;obtain ⟨J,S,_,rfl,t,u⟩:=d.elem px y;refine bS u ?_;refine U.s rfl rfl (Ox.bE (vs:=[_,_,_]) rfl rfl lR rfl (t.any.part (j:=0) (n:=3) rfl) rfl (.put rfl) ?_);refine bN (#[iv 0,iv 0,.bool false]) DU λ I=>?_;refine cl (#[_,_,_]) lR .here ?_;refine es (sg dk (vs 1 ?_));refine ld 0 aL z0 ?_;refine vs 2 ?_;refine ld 2 fI z1 ?_;refine ls q underlying23 ?_;have ⟨X,z,a⟩:=ag a;refine U.cv lZ (l8 m.Place (x0.aD.length:Int)  z) ?_;rintro _ _ _ ⟨rfl,rfl,rfl⟩;refine vs 1 ?_;refine nx aE (vs 2 (er ?_));refine sc a ?_ ?_<;>intro P a
   ·refine sg aE (vs 2 (er ?_));replace a:=k _ (ao a);cases ay a;exact rt func270 (.tmp rfl .nil) (so (so sr)) (b _ _ _ aM)
   refine sp (sg bj (vs 1 ?_));refine ld 1 aL z0 ?_;have ⟨Y,A,a⟩:=ag a;refine U.cv fD (fG m.dJ 0 30  A) ?_;rintro _ _ _ ⟨rfl,rfl,rfl⟩;refine vs 1 (er ?_);refine sc a ?_ ?_<;>intro Q a
   ·refine sg aC (vs 1 (er ?_));replace a:=k _ (ao a);cases ay a;exact rt func270 (.tmp rfl .nil) (so (so sr)) (b _ _ _ aM)
   refine sp (U.a9 ?_);refine U.rg aE (vs 2 (er ?_));exact U.bd (so sr) (o _ (ao a) _ _ _ ⟨rfl,rfl,an bu⟩)
  exact U.bD rfl (U.bd (so sr) (p _ (ao a) _ _ _ ⟨rfl,rfl,bz.sub trivial⟩))
 rintro C G E V ⟨rfl,rfl,x⟩ a;refine U.sub x (sg aC (vs 1 (er ?_)));cases ay a;exact rt func270 (.tmp rfl .nil) sr (b _ _ _ aM)
theorem mq(x0:aj){k l m o p:Value}(q:ek R)(b:aa bt 2 R k x0.Rows)(c:aa bq 2 R l x0.aD)(d:aa bp 2 R m x0.az)(e:aa br 4 R o x0.av)(f:aa bg 3 R p x0.aQ){r:Int}(a:g0 x0=some r):aP ab 82 #[.agg #[iv x0.Rest,k,l,m,o,p]] R H (λ v R' H'=>aJ R R'∧H=H'∧v=iv r):=by
 unfold g0 at a
 refine aX func82 18 λ fr cs g=>?_;refine sg aE (bx λ D=>?_);refine vs 1 (es ?_);refine sg aE (U.s rfl rfl (Ox.bE (vs:=[_,_,_,_,_,_]) rfl rfl D9 rfl (q.any.part (j:=0) (n:=6) rfl) rfl (.put rfl) ?_));refine vs 1 (er ?_);refine U.aR ?_;refine U.enterLoop ?_;refine sg aC (vs 1 (es ?_));refine U.cond_true rfl ?_;refine sp (sq (U.aR ?_));refine sg aE ?_;refine U.s rfl rfl (Ox.nc rfl rfl rfl oj pk.1 (by decide) rfl rfl (.put rfl) ?_);refine vs 1 ?_;refine nx bK (vs 1 ?_);refine lN [_,_,_,_,_,_] 0 6 bl z0 ?_;refine cL (#[_,_,_,_,_,_]) hO ?_;have ⟨L,t,a⟩:=ag a;refine U.cv Gx (LP (⟨x0.Rest,x0.Rows,x0.aD,x0.az,x0.av,x0.aQ⟩:aj) b c d e f t) ?_;rintro _ _ _ ⟨rfl,rfl,rfl⟩;refine vs 1 ?_;refine nx aE (vs 2 (er ?_));refine sc a ?_ ?_<;>intro E a
 ·refine sg aE (vs 2 (er ?_));cases ay a;exact rt func82 (.tmp rfl .nil) (so sr) (g _ _ _ ⟨(rr),bn⟩)
 refine sp (U.a9 ?_);refine U.rg aE (vs 2 (er ?_));refine U.inLoop ?_;refine sg aC (vs 1 (es ?_));refine U.cond_true rfl ?_;refine sp (sq (U.aR ?_));refine sg aE ?_;refine U.s rfl rfl (Ox.nc rfl rfl rfl oj pk.1 (by decide) rfl rfl (.put rfl) ?_);refine vs 1 ?_;refine nx bK (vs 1 ?_);refine lN [_,_,_,_,_,_] 0 6 bl z0 ?_;refine cL (#[_,_,_,_,_,_]) hO ?_;have ⟨M,u,a⟩:=ag a;refine U.cv Gy (LR (⟨x0.Rest,x0.Rows,x0.aD,x0.az,x0.av,x0.aQ⟩:aj) b c d e f u) ?_;rintro _ _ _ ⟨rfl,rfl,rfl⟩;refine vs 1 ?_;refine nx aE (vs 2 (er ?_));refine sc a ?_ ?_<;>intro F a
 ·refine sg aE (vs 2 (er ?_));cases ay a;exact rt func82 (.tmp rfl .nil) (so sr) (g _ _ _ ⟨(rr),bn⟩)
 refine sp (U.a9 ?_);refine U.rg aE (vs 2 (er ?_));refine U.inLoop ?_;refine sg aC (vs 1 (es ?_));refine U.cond_true rfl ?_;refine sp (sq (U.aR ?_));refine sg aE ?_;refine U.s rfl rfl (Ox.nc rfl rfl rfl oj pk.1 (by decide) rfl rfl (.put rfl) ?_);refine vs 1 ?_;refine nx bK (vs 1 ?_);refine lN [_,_,_,_,_,_] 0 6 bl z0 ?_;refine cL (#[_,_,_,_,_,_]) hO ?_;have ⟨N,w,a⟩:=ag a;refine U.cv Gz (LU (⟨x0.Rest,x0.Rows,x0.aD,x0.az,x0.av,x0.aQ⟩:aj) b c d e f w) ?_;rintro _ A _ ⟨h,rfl,rfl⟩;have ⟨b,c,d,e,f⟩:=cI h b c d e f;refine vs 1 ?_;refine nx aE (vs 2 (er ?_));refine sc a ?_ ?_<;>intro G a
 ·refine sg aE (vs 2 (er ?_));cases ay a;exact rt func82 (.tmp rfl .nil) (so sr) (g _ _ _ ⟨h,bn⟩)
 refine sp (U.a9 ?_);refine U.rg aE (vs 2 (er ?_));refine U.inLoop ?_;refine sg aC (vs 1 (es ?_));refine U.cond_true rfl ?_;refine sp (sq (U.aR ?_));refine sg aE ?_;refine U.s rfl rfl (Ox.nc rfl rfl rfl oj pk.1 (by decide) rfl rfl (.put rfl) ?_);refine vs 1 ?_;refine nx bK (vs 1 ?_);refine lN [_,_,_,_,_,_] 0 6 bl z0 ?_;refine cL (#[_,_,_,_,_,_]) hO ?_;have ⟨O,x,a⟩:=ag a;refine U.cv GA (LW (⟨x0.Rest,x0.Rows,x0.aD,x0.az,x0.av,x0.aQ⟩:aj) b c d e f x) ?_;rintro _ C _ ⟨i,rfl,rfl⟩;have ⟨b,c,d,e,f⟩:=cI i b c d e f;refine vs 1 ?_;refine nx aE (vs 2 (er ?_));refine sc a ?_ ?_<;>intro I a
 ·refine sg aE (vs 2 (er ?_));cases ay a;exact rt func82 (.tmp rfl .nil) (so sr) (g _ _ _ ⟨(h.trans i),bn⟩)
 refine sp (U.a9 ?_);refine U.rg aE (vs 2 (er ?_));refine U.inLoop ?_;refine sg aC (vs 1 (es ?_));refine U.cond_true rfl ?_;refine sp (sq (U.aR ?_));refine sg aE ?_;refine U.s rfl rfl (Ox.nc rfl rfl rfl oj pk.1 (by decide) rfl rfl (.put rfl) ?_);refine vs 1 ?_;refine nx bK (vs 1 ?_);refine lN [_,_,_,_,_,_] 0 6 bl z0 ?_;refine cL (#[_,_,_,_,_,_]) hO ?_;have ⟨P,y,a⟩:=ag a;refine U.cv GB (LY (⟨x0.Rest,x0.Rows,x0.aD,x0.az,x0.av,x0.aQ⟩:aj) b c d e f y) ?_;rintro _ _ _ ⟨rfl,rfl,rfl⟩;refine vs 1 ?_;refine nx aE (vs 2 (er ?_));refine sc a ?_ ?_<;>intro J a
 ·refine sg aE (vs 2 (er ?_));cases ay a;exact rt func82 (.tmp rfl .nil) (so sr) (g _ _ _ ⟨(h.trans i),bn⟩)
 refine sp (U.a9 ?_);refine U.rg aE (vs 2 (er ?_));refine U.inLoop ?_;refine sg aC (vs 1 (es ?_));refine U.cond_true rfl ?_;refine sp (sq (U.aR ?_));refine sg aE ?_;refine U.s rfl rfl (Ox.nc rfl rfl rfl oj pk.1 (by decide) rfl rfl (.put rfl) ?_);refine vs 1 ?_;refine nx bK (vs 1 ?_);refine lN [_,_,_,_,_,_] 0 6 bl z0 ?_;refine cL (#[_,_,_,_,_,_]) hO ?_;have ⟨Q,z,a⟩:=ag a;refine U.cv GC (L0 (⟨x0.Rest,x0.Rows,x0.aD,x0.az,x0.av,x0.aQ⟩:aj) b c d e f z) ?_;rintro _ _ _ ⟨rfl,rfl,rfl⟩;refine vs 1 ?_;refine nx aE (vs 2 (er ?_));refine sc a ?_ ?_<;>intro K a
 ·refine sg aE (vs 2 (er ?_));cases ay a;exact rt func82 (.tmp rfl .nil) (so sr) (g _ _ _ ⟨(h.trans i),bn⟩)
 refine sp (U.a9 ?_);refine U.rg aE (vs 2 (er ?_));refine U.inLoop ?_;refine sg aC (vs 1 (es ?_));refine U.cond_false rfl ?_;refine U.bD rfl ?_;refine sg aC (vs 1 (er ?_));cases ay a;exact rt func82 (.tmp rfl .nil) (so sr) (g _ _ _ ⟨(h.trans i),bn⟩)
theorem KI (x1:(aY→((List aY) ⊕ Empty)→Option (((List aY) ⊕ Empty) × Bool))→((List aY) ⊕ Empty)→Option ((List aY) ⊕ Empty)) {v1:Value} (h1:mY ab R (eA c9) v1 x1) {r:(List aY)} (a:oQ x1=some r):aP ab 160 #[au,v1] R H (λ v R' H'=>aJ R R'∧H=H'∧∃ m,aa c9 3 R' m r∧v=m):=by
 unfold oQ at a
 refine aX func160 13 λ fr cs N=>?_;refine sg aE (U.s rfl rfl (Ox.jj rfl rfl rfl rfl λ e _ _=>⟨_,(.put rfl),?_⟩));refine vs 1 (es ?_);refine sg aC (vs 1 (er ?_));refine U.aR ?_;obtain ⟨ak,al,ah,rfl,L,P⟩:=h1;refine U.xr (A:=(eA c9)) (λ y s=>x1 y s)  a rfl L rfl rfl rfl (λ (g:(List aY)) R' T H'=>aJ R R'∧∃ c d,aZ c9 3 116 R' c g d∧H'=d++((e,.cells #[c] 111)::T))  (λ g ad T0 Y q=>by obtain ⟨F,c,d,f,rfl⟩:=q; exact ⟨d++((e,.cells #[c] 111)::[]),by simp,λ R1 af h=>⟨F.trans h,c,d,f.mono h,by simp⟩⟩)  (λ v Inv Hy z I E S=>P _ (rr) _ _ _ _ _ _ I E S) ⟨rr,au,[],aZ.nil,rfl⟩ ?_ ?_
 ·rintro l g t ac _ ⟨i,c,d,f,rfl⟩ a;refine U.a9 ?_;refine sg aE (ld 0 ij (e3 _ z0) ?_);refine vs 1 (er ?_);refine U.gE (H2:=(e,_)::(l,_)::H) (λ X=>X++((e,_)::(l,_)::H)) .id rfl f (λ ae G M=>?_);cases ay a;exact U.jI (.there .here) func160 (.tmp rfl .nil) (J.drop (so (so sr)) (N _ _ _ ⟨(i.trans G),rfl,c,M,rfl⟩))
 rintro ap o g t u Z V an aj _ am ⟨_,rfl,⟨b,rfl⟩⟩ ⟨i,c,d,f,rfl⟩ O ar a w;refine U.rg aE (bN (List.toArray ([]++([0,0,0].map (Value.int .i64)++[]))) mS λ C=>?_);refine U.s rfl rfl (Ox.cV (cs':=_) rfl rfl rfl fv (by simp [b]) (cx bB (cx (eT λ _=>rfl) bB)) .here (by simp) (eE (by simp [b])) rfl (.refl _) ?_);refine er (U.beginRound rfl rfl (.there (.skip (.there .here))) O (U.aR ?_));refine U.rg bK (U.ld ij ((aH.box (.tail _ (e3 _ z0))).one (j:=0) rfl) ?_);refine U.s rfl rfl (Ox.bE (vs:=_) rfl rfl fv (by simp [b]) ((aH.box z0).part (j:=0) (n:=3) (cD (by simp [b]))) rfl (.put rfl) ?_);refine U.s rfl rfl (Ox.buildSlice (cells:=(List.toArray ([]++(o.deep.map (Value.int .i64)++[])))) rfl Fi rfl (by decide) Et (gD rfl rfl (by simp [Value.cells,b]) (eE (by simp [Value.cells,b])) hv) rfl λ D _ _=>⟨_,(.put rfl),?_⟩);have ⟨aq,Q,a⟩:=ag a;refine U.s rfl rfl (Ox.append (K:=c9) (λ X=>(D,_)::(C,_)::X++((e,_)::(V,_)::u)) rfl rfl rfl Ef underlying111 (by simp) (.cons (.cons .id)) f (hQ.lit z0 (a3.le (a3.single (x:=o) ⟨b,rfl⟩ (by simp [b])) rfl) rfl) Q rfl λ W p k=>⟨_,(.put rfl),?_⟩);refine U.s rfl rfl (Ox.eF (cs':=#[_]) rfl rfl rfl ij k.one (.there (.there (.skip .here))) rfl rfl rfl (.refl _) ?_);refine er (U.a9 ?_);exact U.bd (so (so sr)) (w _ (ao a) _ _ _ (rr) ⟨i,W,p,k,rfl⟩)
theorem w5 (x0:(aY→((List aY) ⊕ Empty)→Option (((List aY) ⊕ Empty) × Bool))→((List aY) ⊕ Empty)→Option ((List aY) ⊕ Empty)) {v0:Value} (c:mY ab R (eA c9) v0 x0) {r:(List aY)} (a:lb x0=some r):aP ab 91 #[v0] R H (λ v R' H'=>aJ R R'∧H=H'∧∃ b,aa c9 3 R' b r∧v=b):=by
 unfold lb at a
 refine aX func91 5 λ fr cs e=>?_;refine sg aC (vs 1 ?_);refine nx aT (vs 1 ?_);have ⟨j,f,a⟩:=ag a;refine U.cv FV (KI x0 c f) ?_;rintro h i _ ⟨d,rfl,_,g,rfl⟩;refine vs 1 (er ?_);cases ay a;exact rt func91 (.tmp rfl .nil) sr (e _ _ _ ⟨d,rfl,h,g,rfl⟩)
theorem Ls(x0:(List b7))(x1:(b7→Option Bool)){v0 v1:Value}(b:bO bg 3 R H v0 x0)(h1:gk ab R H (eA bg) VB v1 x1){r:Int}(a:qI x0 x1=some r):aP ab 214 #[v0,v1] R H (λ v R' H'=>aJ R R'∧H=H'∧v=iv r):=by
 unfold qI at a
 refine aX func214 19 λ fr cs f=>?_;refine sg aC (vs 1 (es ?_));refine sg aT (vs 1 ?_);refine lr b underlying26 ?_;refine vs 1 (er ?_);refine U.aR ?_;refine U.cT a (λ (g:Int) R' H' st'=>aJ R R'∧H=H'∧aA st' [(0,v0),(1,v1),(7,iv (x0.length:Int)),(8,iv g)]) (λ (u:Unit) R' H' st'=>aJ R R'∧H=H'∧aA st' []) 0 rfl ⟨rr,rfl,an bu⟩ ?_ ?_;rotate_right
 ·rintro g y w G ⟨c,rfl,m⟩ J a h i t;refine U.sub m ?_;replace b:=b.le c;replace h1:=h1.up c pp;refine sg aC (vs 1 (es ?_));refine sc a ?_ ?_<;>intro D a
  ·refine sp (sq (U.aR ?_));refine sg aE (vs 2 ?_);refine nx cU (vs 3 ?_);have ⟨K,p,a⟩:=ag a;have ⟨L,q,a⟩:=ag a;obtain ⟨C,F,_,rfl,e,l⟩:=b.elem px p;refine bS l ?_;refine U.s rfl rfl (Ox.bE (vs:=[_,_,_]) rfl rfl lR rfl ((e.sub pp).part (j:=0) (n:=3) rfl) rfl (.put rfl) ?_);refine U.step rfl rfl rfl (Ox.iC h1 rfl rfl rfl ⟨_,bn⟩ q rfl pp ?_);rintro _ A d rfl;replace b:=b.le d;replace h1:=h1.up d pp;replace e:=e.le d;refine ⟨_,(.put rfl),?_⟩;refine er (sc a ?_ ?_)<;>intro E a
   ·refine sg aE (vs 2 (er ?_));replace a:=t _ (ao a);cases ay a;exact rt func214 (.tmp rfl .nil) sr (f _ _ _ ⟨(c.trans d),bn⟩)
   refine sp (U.a9 ?_);refine U.rg aE (vs 2 (er ?_));exact h _ (ao a) _ _ _ ⟨(c.trans d),rfl,an bu⟩
  exact U.bD rfl (i _ (ao a) _ _ _ ⟨c,rfl,bz.sub trivial⟩)
 rintro u z x I ⟨k,rfl,o⟩ a;refine U.sub o (sg aC (vs 1 (er ?_)));cases ay a;exact rt func214 (.tmp rfl .nil) sr (f _ _ _ ⟨k,bn⟩)
theorem Li(x0:(List b7))(x1:(b7→Option Bool)){v0 v1:Value}(b:bO bg 3 R H v0 x0)(h1:gk ab R H (eA bg) VB v1 x1){r:Bool}(a:oZ x0 x1=some r):aP ab 186 #[v0,v1] R H (λ v R' H'=>aJ R R'∧H=H'∧v = .bool r):=by
 unfold oZ at a
 refine aX func186 9 λ fr cs d=>?_;refine sg aC (vs 1 ?_);refine nx bK (vs 2 ?_);have ⟨g,e,a⟩:=ag a;refine U.cv Gj (Ls x0 x1 (b.sub pp) h1 e) ?_;rintro _ f _ ⟨c,rfl,rfl⟩;replace b:=b.le c;replace h1:=h1.up c pp;refine vs 2 (er ?_);cases ay a;exact rt func186 (.tmp rfl .nil) sr (d _ _ _ ⟨c,bn⟩)
theorem Lj(x0:b7)(x1:aY){b1:Nat}(e:aH R H b1 0 ([]++(x1.deep.map (Value.int .i64)++[])))(g:x1.deep.length=3){r:Bool}(a:nB x0 x1=some r):aP ab 187 #[.agg #[iv x0.Place,iv x0.dJ,.bool x0.jO],pT b1] R H (λ v R' H'=>R=R'∧H=H'∧v = .bool r):=by
 unfold nB at a
 refine aX func187 15 λ fr cs f=>?_;refine sg aE (bx λ i=>?_);refine vs 1 (es ?_);refine U.dw kl mixed ?_;refine Any.vs 1 [0] rfl (tl 1 0 aL z0 ?_);refine Any.vs 1 [2] rfl ?_;have ⟨j,d,a⟩:=ag a;refine tQ 3 rfl (kI (gF m3 g d)) ?_;refine Any.tk 4 rfl pp (λ R' H' b c=>Ox.ia rfl rfl aL (((e.le b).sub (λ p h=>c p ((su (so sr)) p h))).arr d rfl) rfl (.one rfl) aM) ?_;refine Any.vs 1 [5] rfl (tl 6 1 aL z0 ?_);refine Any.vs 2 [7,8] rfl (tl 9 2 c6 z0 ?_);refine Any.tk 10 rfl pp (λ R' H' b c=>Ox.rX rfl rfl rfl underlying4 rfl rfl (.one rfl) aM) ?_;refine Any.vs 1 [11] rfl (Any.done ?_);cases ay a;exact rt func187 (.tmp rfl .nil) (so sr) (f _ _ _ aM)
theorem BB(x0:aj)(x1:aY){b c d e f:Value}(_:aa bt 2 R b x0.Rows)(_:aa bq 2 R c x0.aD)(_:aa bp 2 R d x0.az)(_:aa br 4 R e x0.av)(g:aa bg 3 R f x0.aQ)(n:x1.deep.length=3){r:Bool}(a:ma x0 x1=some r):aP ab 162 #[.agg #[iv x0.Rest,b,c,d,e,f],.agg (List.toArray ([]++(x1.deep.map (Value.int .i64)++[])))] R H (λ v R' H'=>aJ R R'∧H=H'∧v = .bool r):=by
 unfold ma at a
 refine aX func162 11 λ fr cs k=>?_;refine sg aT (bx λ p=>?_);refine bx λ q=>?_;refine vs 1 ?_;refine nx cy (vs 2 ?_);refine ld 5 fu z1 ?_;refine U.s rfl rfl (Ox.makeFunc (vs:=#[]) (us:=#[_]) rfl rfl rfl rfl (.put rfl) ?_);have ⟨A,m,a⟩:=ag a;refine U.cv Gc (Li x0.aQ (λ y=>nB y x1) g.rd ⟨187,#[],#[_],rfl,Gd,λ R' H' z i y r va h l=>by obtain ⟨_,rfl,rfl⟩:=h; exact (Lj y x1 (aH.box (i _ z0)) n l).mono λ _ _ _ ⟨h1,h2,h3⟩=>⟨h1 ▸ rr,h2.symm,h3⟩⟩ m) ?_;rintro _ o _ ⟨j,rfl,rfl⟩;refine vs 2 (er ?_);cases ay a;exact rt func162 (.tmp rfl .nil) (so (so sr)) (k _ _ _ ⟨j,bn⟩)
end
end Go.Proofs.YtihapemckcdicaaGreatDoor
