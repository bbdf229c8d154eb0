/- Walks, part 8: each function computes its model. -/
import Derived.Test.YtihapemckcdicaaGreatDoorQYLgC
import Derived.Test.YtihapemckcdicaaGreatDoorQYStW6
namespace Go.Proofs.YtihapemckcdicaaGreatDoor
open Go.Lg Go.Proofs Tryz
set_option maxRecDepth 100000
set_option maxHeartbeats 4000000
section
variable {B:Base} {main:Bool} {ab:Jd prog B main} {R:ax} {H:ai}
theorem Ko(x0:aj){d e f g h:Value}(_:aa bt 2 R d x0.Rows)(l:aa bq 2 R e x0.aD)(i:aa bp 2 R f x0.az)(_:aa br 4 R g x0.av)(_:aa bg 3 R h x0.aQ){r:Int}(a:qB x0=some r):aP ab 142 #[.agg #[iv x0.Rest,d,e,f,g,h]] R H (λ v R' H'=>R=R'∧H=H'∧v=iv r):=by
 unfold qB at a
 refine aX func142 81 λ fr cs c=>?_;refine sg aE (bx λ b=>?_);refine vs 1 (es ?_);refine sg bK (vs 1 ?_);refine ld 2 fI z0 ?_;refine ls l underlying23 ?_;have ⟨bC,V,a⟩:=ag a;refine U.cv fE (fH (x0.aD.length:Int) 1 3  V) ?_;rintro _ _ _ ⟨rfl,rfl,rfl⟩;refine vs 1 (er ?_);refine sc a ?_ ?_<;>intro a8 a
 ·refine sg aC (vs 1 (er ?_));cases ay a;exact rt func142 (.tmp rfl .nil) (so sr) (c _ _ _ aM)
 refine sp (sq (sg aC (vs 1 (er ?_))));refine U.aR ?_;refine U.cT a (λ (q:Int) R' H' st'=>R=R'∧H'=(b,.cells #[iv x0.Rest,d,e,f,g,h] 28)::H∧aA st' [(1,pT b),(3,iv q)]) (λ (al:Unit) R' H' st'=>R=R'∧H'=(b,.cells #[iv x0.Rest,d,e,f,g,h] 28)::H∧aA st' [(1,pT b)]) 0 rfl ⟨rfl,rfl,an cC⟩ ?_ ?_;rotate_right
 ·rintro q aJ aw bs ⟨rfl,rfl,N⟩ bF a u y p;refine U.sub N (sq (sg bK (vs 2 ?_)));refine ld 2 fI z0 ?_;refine ls l underlying23 ?_;refine vs 1 (er ?_);refine sc a ?_ ?_<;>intro ba a
  ·refine sp (sq (U.aR ?_));refine sg cy (vs 1 ?_);refine ld 2 fI z0 ?_;refine vs 1 ?_;have ⟨aq,W,a⟩:=ag a;obtain ⟨aW,bk,_,rfl,C,I⟩:=l.elem ri W;refine bS I ?_;refine U.s rfl rfl (Ox.bE (vs:=[_,_]) rfl rfl gm rfl (C.any.part (j:=0) (n:=2) rfl) rfl (.put rfl) ?_);refine bN (#[iv 0,iv 0]) pD λ aV=>?_;refine cl (#[_,_]) gm .here ?_;refine nx lx (lN [_,_] 0 2 gm z0 ?_);have ⟨bG,X,a⟩:=ag a;refine U.cv F9 (Lb aq 1 30  X) ?_;rintro _ _ _ ⟨rfl,rfl,rfl⟩;refine vs 2 ?_;refine a7 a (λ m a=>?_) (λ m a=>?_)
   ·refine U.kn 27 m (vs 7 (er ?_));refine U.cond_true rfl ?_;refine sg aC (vs 1 (er ?_));replace a:=p _ (ao a);cases ay a;exact rt func142 (.tmp rfl .nil) (so (so sr)) (c _ _ _ aM)
   refine U.kn 27 m (vs 1 ?_);refine ld 1 aL z0 ?_;refine vs 1 ?_;refine ld 0 aL z0 ?_;refine vs 3 (er ?_);refine sc a ?_ ?_<;>intro bb a
   ·refine sg aC (vs 1 (er ?_));replace a:=p _ (ao a);cases ay a;exact rt func142 (.tmp rfl .nil) (so (so sr)) (c _ _ _ aM)
   refine sp (U.a9 ?_);refine U.rg aT (vs 3 (er ?_));exact U.bd (so sr) (u _ (ao a) _ _ _ ⟨rfl,rfl,an cC⟩)
  exact U.bD rfl (y _ (ao a) _ _ _ ⟨rfl,rfl,an gd⟩)
 rintro al aK aB bu ⟨rfl,rfl,O⟩ a;refine U.sub O (sq (sg bK (vs 1 ?_)));refine ld 3 eD z0 ?_;refine ls i underlying24 ?_;have ⟨bH,Y,a⟩:=ag a;refine U.cv fE (fH (x0.az.length:Int) 1 4  Y) ?_;rintro _ _ _ ⟨rfl,rfl,rfl⟩;refine vs 1 (er ?_);refine sc a ?_ ?_<;>intro bc a
 ·refine sg aC (vs 1 (er ?_));cases ay a;exact rt func142 (.tmp rfl .nil) (so sr) (c _ _ _ aM)
 refine sp (sq (sg aC (vs 1 (er ?_))));refine U.aR ?_;refine U.cT a (λ (k:Int) R' H' st'=>R=R'∧H'=(b,.cells #[iv x0.Rest,d,e,f,g,h] 28)::H∧aA st' [(1,pT b),(5,iv k)]) (λ (am:Unit) R' H' st'=>R=R'∧H=H'∧aA st' []) 2 rfl ⟨rfl,rfl,an cC⟩ ?_ ?_;rotate_right
 ·rintro k aN aF bv ⟨rfl,rfl,P⟩ bI a w z o;refine U.sub P (sq (sg bK (vs 2 ?_)));refine ld 3 eD z0 ?_;refine ls i underlying24 ?_;refine vs 1 (er ?_);refine sc a ?_ ?_<;>intro be a
  ·refine sp (sq (U.aR ?_));refine sq (sg dk (vs 1 ?_));refine ld 3 eD z0 ?_;refine vs 1 ?_;have ⟨ar,Z,a⟩:=ag a;have ⟨bJ,ac,a⟩:=ag a;obtain ⟨aY,bl,_,rfl,D,J⟩:=i.elem iR Z;refine bS J ?_;refine vs 1 ?_;refine U.ld n0 (D.any.one (j:=0) rfl) ?_;refine U.cv Ga (Lf ar.Name  ac) ?_;rintro _ _ _ ⟨rfl,rfl,rfl⟩;refine vs 1 (er ?_);refine sc a ?_ ?_<;>intro bf a
   ·refine sg aC (vs 1 (er ?_));replace a:=o _ (ao a);cases ay a;exact rt func142 (.tmp rfl .nil) (so sr) (c _ _ _ aM)
   refine sp (sq (sg aC (vs 1 (er ?_))));refine U.aR ?_;refine U.cT a (λ (t:Int) R' H' st'=>R=R'∧H'=(b,.cells #[iv x0.Rest,d,e,f,g,h] 28)::H∧aA st' [(1,pT b),(5,iv k),(6,iv t)]) (λ (ap:Unit) R' H' st'=>R=R'∧H'=(b,.cells #[iv x0.Rest,d,e,f,g,h] 28)::H∧aA st' [(1,pT b),(5,iv k)]) 4 rfl ⟨rfl,rfl,an cc⟩ ?_ ?_;rotate_right
   ·rintro t aS aH bA ⟨rfl,rfl,S⟩ bL a x A ak;refine U.sub S (sq (sg aT (vs 3 (er ?_))));refine sc a ?_ ?_<;>intro bh a
    ·refine sp (sq (U.aR ?_));refine sq (U.dw CA mixed ?_);refine Any.vs 1 [0] rfl (tl 1 3 eD z0 ?_);refine Any.vs 1 [2] rfl ?_;have ⟨bM,ad,a⟩:=ag a;have ⟨bO,ae,a⟩:=ag a;obtain ⟨aZ,bm,_,rfl,E,K⟩:=i.elem iR ad;refine tQ 3 rfl (kI K) ?_;refine Any.vs 1 [4] rfl (tQ 5 rfl (kU n0 0 E) ?_);refine Any.vs 1 [6] rfl (tl 7 3 eD z0 ?_);refine Any.vs 1 [8] rfl ?_;obtain ⟨a0,bn,_,rfl,F,L⟩:=i.elem iR ae;refine tQ 9 rfl (kI L) ?_;refine Any.vs 1 [10] rfl (tQ 11 rfl (kU n0 0 F) ?_);refine Any.tk 12 rfl pp (λ R' H' a5 a6=>Ox.zl rfl rfl rfl rfl rfl (.one rfl) aM) ?_;refine Any.done (sc a ?_ ?_)<;>intro bi a
     ·refine sg aC (vs 1 (er ?_));replace a:=ak _ (ao a);replace a:=o _ (ao a);cases ay a;exact rt func142 (.tmp rfl .nil) (so sr) (c _ _ _ aM)
     refine sp (U.a9 ?_);refine U.rg aT (vs 3 (er ?_));exact x _ (ao a) _ _ _ ⟨rfl,rfl,an cc⟩
    exact U.bD rfl (A _ (ao a) _ _ _ ⟨rfl,rfl,an cC⟩)
   rintro ap aU aI bB ⟨rfl,rfl,T⟩ a;refine U.sub T (sg dk (vs 1 ?_));refine ld 3 eD z0 ?_;refine vs 1 ?_;have ⟨au,af,a⟩:=ag a;have ⟨bP,ah,a⟩:=ag a;obtain ⟨a1,bo,_,rfl,G,M⟩:=i.elem iR af;refine bS M ?_;refine vs 1 ?_;refine U.ld aL (G.any.one (j:=1) rfl) ?_;refine U.cv fE (fH au.gj 1 30  ah) ?_;rintro _ _ _ ⟨rfl,rfl,rfl⟩;refine vs 1 (er ?_);refine sc a ?_ ?_<;>intro bj a
   ·refine sg aC (vs 1 (er ?_));replace a:=o _ (ao a);cases ay a;exact rt func142 (.tmp rfl .nil) (so sr) (c _ _ _ aM)
   refine sp (U.a9 ?_);refine U.rg aT (vs 3 (er ?_));exact w _ (ao a) _ _ _ ⟨rfl,rfl,an cC⟩
  exact U.bD rfl (U.bd (so sr) (z _ (ao a) _ _ _ ⟨rfl,rfl,bz.sub trivial⟩))
 rintro am aO aG bw ⟨rfl,rfl,Q⟩ a;refine U.sub Q (sg aC (vs 1 (er ?_)));cases ay a;exact rt func142 (.tmp rfl .nil) sr (c _ _ _ aM)
theorem Mq(x0:aj){f g h i k:Value}(l:aa bt 2 R f x0.Rows)(m:aa bq 2 R g x0.aD)(o:aa bp 2 R h x0.az)(d:aa br 4 R i x0.av)(c:aa bg 3 R k x0.aQ){r:Int}(a:qQ x0=some r):aP ab 52 #[.agg #[iv x0.Rest,f,g,h,i,k]] R H (λ v R' H'=>R=R'∧H=H'∧v=iv r):=by
 unfold qQ at a
 refine aX func52 84 λ fr cs b=>?_;refine sg aE (bx λ e=>?_);refine vs 1 (es ?_);refine sg aT (lN [_,_,_,_,_,_] 0 6 bl z0 ?_);have ⟨ba,P,a⟩:=ag a;refine U.cv FF (Kl x0 l m o d c P) ?_;rintro _ _ _ ⟨rfl,rfl,rfl⟩;refine vs 1 ?_;refine nx aE (vs 2 (er ?_));refine sc a ?_ ?_<;>intro aK a
 ·refine sg aE (vs 2 (er ?_));cases ay a;exact rt func52 (.tmp rfl .nil) (so sr) (b _ _ _ aM)
 refine sp (sq (sg aT (lN [_,_,_,_,_,_] 0 6 bl z0 ?_)));have ⟨bb,Q,a⟩:=ag a;refine U.cv FG (Ko x0 l m o d c Q) ?_;rintro _ _ _ ⟨rfl,rfl,rfl⟩;refine vs 1 ?_;refine nx aE (vs 2 (er ?_));refine sc a ?_ ?_<;>intro aN a
 ·refine sg aE (vs 2 (er ?_));cases ay a;exact rt func52 (.tmp rfl .nil) (so sr) (b _ _ _ aM)
 refine sp (sq (sg bK (vs 1 ?_)));refine ld 4 dS z0 ?_;refine ls d underlying25 ?_;have ⟨bc,S,a⟩:=ag a;refine U.cv fE (fH (x0.av.length:Int) 1 4  S) ?_;rintro _ _ _ ⟨rfl,rfl,rfl⟩;refine vs 1 (er ?_);refine sc a ?_ ?_<;>intro aO a
 ·refine sg aC (vs 1 (er ?_));cases ay a;exact rt func52 (.tmp rfl .nil) (so sr) (b _ _ _ aM)
 refine sp (sq (sg aC (vs 1 (er ?_))));refine U.aR ?_;refine U.cT a (λ (x:Int) R' H' st'=>R=R'∧H'=(e,.cells #[iv x0.Rest,f,g,h,i,k] 28)::H∧aA st' [(1,pT e),(5,iv x)]) (λ (af:Unit) R' H' st'=>R=R'∧H'=(e,.cells #[iv x0.Rest,f,g,h,i,k] 28)::H∧aA st' [(1,pT e)]) 0 rfl ⟨rfl,rfl,an cC⟩ ?_ ?_;rotate_right
 ·rintro x au am a4 ⟨rfl,rfl,L⟩ be a z C p;refine U.sub L (sq (sg bK (vs 2 ?_)));refine ld 4 dS z0 ?_;refine ls d underlying25 ?_;refine vs 1 (er ?_);refine sc a ?_ ?_<;>intro aS a
  ·refine sp (sq (U.aR ?_));refine sg cy (vs 1 ?_);refine ld 4 dS z0 ?_;refine vs 1 ?_;have ⟨q,T,a⟩:=ag a;obtain ⟨aH,a1,_,rfl,E,I⟩:=d.elem iS T;refine bS I ?_;refine U.s rfl rfl (Ox.bE (vs:=[_,_,_,_]) rfl rfl fp rfl (E.any.part (j:=0) (n:=4) rfl) rfl (.put rfl) ?_);refine bN (#[iv 0,iv 0,iv 0,iv 0]) ix λ aG=>?_;refine cl (#[_,_,_,_]) fp .here ?_;refine es (sg bK (lN [_,_,_,_,_,_] 0 6 bl z1 ?_));refine vs 1 ?_;refine ld 0 aL z0 ?_;have ⟨bf,V,a⟩:=ag a;refine U.cv zC (Bo x0 q.Place l m o d c V) ?_;rintro _ _ _ ⟨rfl,rfl,rfl⟩;refine vs 1 (er ?_);refine sc a ?_ ?_<;>intro aU a
   ·refine sg aC (vs 1 (er ?_));replace a:=p _ (ao a);cases ay a;exact rt func52 (.tmp rfl .nil) (so (so sr)) (b _ _ _ aM)
   refine sp (sg rf (vs 1 ?_));refine ld 1 aL z0 ?_;have ⟨bh,W,a⟩:=ag a;refine U.cv fE (fH q.dy 0 200  W) ?_;rintro _ _ _ ⟨rfl,rfl,rfl⟩;refine vs 2 ?_;refine a7 a (λ t a=>?_) (λ t a=>?_)
   ·refine U.kn 44 t (vs 11 (er ?_));refine U.cond_true rfl ?_;refine sg aC (vs 1 (er ?_));replace a:=p _ (ao a);cases ay a;exact rt func52 (.tmp rfl .nil) (so (so sr)) (b _ _ _ aM)
   refine U.kn 44 t (vs 1 ?_);refine ld 2 aL z0 ?_;have ⟨bi,X,a⟩:=ag a;refine U.cv fE (fH q.db 1 60  X) ?_;rintro _ _ _ ⟨rfl,rfl,rfl⟩;refine vs 3 ?_;refine a7 a (λ u a=>?_) (λ u a=>?_)
   ·refine U.kn 50 u (vs 5 (er ?_));refine U.cond_true rfl ?_;refine sg aC (vs 1 (er ?_));replace a:=p _ (ao a);cases ay a;exact rt func52 (.tmp rfl .nil) (so (so sr)) (b _ _ _ aM)
   refine U.kn 50 u (vs 1 ?_);refine ld 3 aL z0 ?_;have ⟨bk,Y,a⟩:=ag a;refine U.cv fE (fH q.az 1 3  Y) ?_;rintro _ _ _ ⟨rfl,rfl,rfl⟩;refine vs 2 (er ?_);refine sc a ?_ ?_<;>intro aV a
   ·refine sg aC (vs 1 (er ?_));replace a:=p _ (ao a);cases ay a;exact rt func52 (.tmp rfl .nil) (so (so sr)) (b _ _ _ aM)
   refine sp (U.a9 ?_);refine U.rg aT (vs 3 (er ?_));exact U.bd (so sr) (z _ (ao a) _ _ _ ⟨rfl,rfl,an cC⟩)
  exact U.bD rfl (C _ (ao a) _ _ _ ⟨rfl,rfl,an gd⟩)
 rintro af aw ap a5 ⟨rfl,rfl,M⟩ a;refine U.sub M (sq (sg bj (vs 1 ?_)));refine ld 5 fu z0 ?_;refine ls c underlying26 ?_;refine vs 1 (er ?_);refine sc a ?_ ?_<;>intro aW a
 ·refine sg aC (vs 1 (er ?_));cases ay a;exact rt func52 (.tmp rfl .nil) (so sr) (b _ _ _ aM)
 refine sp (sq (sg aC (vs 1 (er ?_))));refine U.aR ?_;refine U.cT a (λ (y:Int) R' H' st'=>R=R'∧H'=(e,.cells #[iv x0.Rest,f,g,h,i,k] 28)::H∧aA st' [(1,pT e),(7,iv y)]) (λ (ah:Unit) R' H' st'=>R=R'∧H=H'∧aA st' []) 2 rfl ⟨rfl,rfl,an cC⟩ ?_ ?_;rotate_right
 ·rintro y aB aq a6 ⟨rfl,rfl,N⟩ bm a A D w;refine U.sub N (sq (sg bK (vs 2 ?_)));refine ld 5 fu z0 ?_;refine ls c underlying26 ?_;refine vs 1 (er ?_);refine sc a ?_ ?_<;>intro aY a
  ·refine sp (sq (U.aR ?_));refine sq (sq (U.dw e0 mixed ?_));refine tN 0 [_,_,_,_,_,_] 0 6 bl z0 ?_;refine Any.vs 1 [1] rfl (tl 2 5 fu z0 ?_);refine Any.vs 1 [3] rfl ?_;have ⟨ak,Z,a⟩:=ag a;have ⟨bn,ac,a⟩:=ag a;obtain ⟨aI,a2,_,rfl,F,J⟩:=c.elem px Z;refine tQ 4 rfl (kI J) ?_;refine Any.vs 1 [5] rfl (tQ 6 rfl (kU aL 0 F) ?_);refine Any.cv 7 zC (Bo x0 ak.Place l m o d c ac) ?_;rintro _ _ _ ⟨rfl,rfl,rfl⟩;refine kp (Any.vs 1 [8] rfl (Any.done (sc a ?_ ?_)))<;>intro aZ a
   ·refine sg aC (vs 1 (er ?_));replace a:=w _ (ao a);cases ay a;exact rt func52 (.tmp rfl .nil) (so sr) (b _ _ _ aM)
   refine sp (sg dk (vs 1 ?_));refine ld 5 fu z0 ?_;refine vs 1 ?_;have ⟨al,ad,a⟩:=ag a;have ⟨bo,ae,a⟩:=ag a;obtain ⟨aJ,a3,_,rfl,G,K⟩:=c.elem px ad;refine bS K ?_;refine vs 1 ?_;refine U.ld aL (G.any.one (j:=1) rfl) ?_;refine U.cv fE (fH al.dJ 0 30  ae) ?_;rintro _ _ _ ⟨rfl,rfl,rfl⟩;refine vs 1 (er ?_);refine sc a ?_ ?_<;>intro a0 a
   ·refine sg aC (vs 1 (er ?_));replace a:=w _ (ao a);cases ay a;exact rt func52 (.tmp rfl .nil) (so sr) (b _ _ _ aM)
   refine sp (U.a9 ?_);refine U.rg aT (vs 3 (er ?_));exact A _ (ao a) _ _ _ ⟨rfl,rfl,an cC⟩
  exact U.bD rfl (U.bd (so sr) (D _ (ao a) _ _ _ ⟨rfl,rfl,bz.sub trivial⟩))
 rintro ah aF ar a8 ⟨rfl,rfl,O⟩ a;refine U.sub O (sg aC (vs 1 (er ?_)));cases ay a;exact rt func52 (.tmp rfl .nil) sr (b _ _ _ aM)
theorem J0(x0:aj)(x1:Int){c d e f g:Value}(b:aa bt 2 R c x0.Rows)(_:aa bq 2 R d x0.aD)(_:aa bp 2 R e x0.az)(_:aa br 4 R f x0.av)(_:aa bg 3 R g x0.aQ){r:Int}(a:qt x0 x1=some r):aP ab 105 #[.agg #[iv x0.Rest,c,d,e,f,g],iv x1] R H (λ v R' H'=>R=R'∧H=H'∧v=iv r):=by
 unfold qt at a
 refine aX func105 27 λ fr cs i=>?_;refine sg aE (bx λ h=>?_);refine vs 1 (es ?_);refine sg aC (vs 1 (er ?_));refine U.aR ?_;refine U.cT a (λ (k:Int) R' H' st'=>R=R'∧H'=(h,.cells #[iv x0.Rest,c,d,e,f,g] 28)::H∧aA st' [(1,iv x1),(2,pT h),(5,iv k)]) (λ (y:Unit) R' H' st'=>R=R'∧H=H'∧aA st' []) 0 rfl ⟨rfl,rfl,an cc⟩ ?_ ?_;rotate_right
 ·rintro k C z P ⟨rfl,rfl,s⟩ S a l m x;refine U.sub s (sq (sg bK (vs 2 ?_)));refine ld 1 fx z0 ?_;refine ls b underlying22 ?_;refine vs 1 (er ?_);refine sc a ?_ ?_<;>intro L a
  ·refine sp (sq (U.aR ?_));refine sg dk (vs 1 ?_);refine ld 1 fx z0 ?_;refine vs 1 ?_;have ⟨T,u,a⟩:=ag a;obtain ⟨E,N,_,rfl,n,p⟩:=b.elem g6 u;refine bS p ?_;refine vs 1 ?_;refine U.ld aL (n.any.one (j:=0) rfl) ?_;refine vs 2 (er ?_);refine sc a ?_ ?_<;>intro M a
   ·refine sg cy (vs 1 ?_);refine ld 1 fx z0 ?_;refine vs 1 ?_;have ⟨V,w,a⟩:=ag a;obtain ⟨F,O,_,rfl,o,q⟩:=b.elem g6 w;refine bS q ?_;refine vs 1 ?_;refine U.ld aL (o.any.one (j:=1) rfl) ?_;refine vs 1 (er ?_);replace a:=x _ (ao a);cases ay a;exact rt func105 (.tmp rfl .nil) (so sr) (i _ _ _ aM)
   refine sp (U.a9 ?_);refine U.rg aT (vs 3 (er ?_));exact l _ (ao a) _ _ _ ⟨rfl,rfl,an cc⟩
  exact U.bD rfl (U.bd (so sr) (m _ (ao a) _ _ _ ⟨rfl,rfl,bz.sub trivial⟩))
 rintro y D A Q ⟨rfl,rfl,t⟩ a;refine U.sub t (sg aC (vs 1 (er ?_)));cases ay a;exact rt func105 (.tmp rfl .nil) sr (i _ _ _ aM)
theorem BW(x0:aj)(x1:(List Int))(x2:Int)(x3:Int){m o p q u v1:Value}(y:aa bt 2 R m x0.Rows)(z:aa bq 2 R o x0.aD)(b:aa bp 2 R p x0.az)(h:aa br 4 R q x0.av)(A:aa bg 3 R u x0.aQ)(h1:bO CZ 1 R H v1 x1){r:Bool}(a:mr x0 x1 x2 x3=some r):aP ab 86 #[.agg #[iv x0.Rest,m,o,p,q,u],v1,iv x2,iv x3] R H (λ v R' H'=>R=R'∧H=H'∧v = .bool r):=by
 unfold mr at a
 refine aX func86 39 λ fr cs i=>?_;refine sg aE (bx λ N=>?_);refine vs 1 ?_;refine nx cy (vs 1 ?_);refine ld 4 dS z0 ?_;refine vs 1 ?_;have ⟨V,G,a⟩:=ag a;obtain ⟨P,S,_,rfl,C,E⟩:=h.elem iS G;refine bS E ?_;refine U.s rfl rfl (Ox.bE (vs:=[_,_,_,_]) rfl rfl fp rfl (C.any.part (j:=0) (n:=4) rfl) rfl (.put rfl) ?_);refine bN (#[iv 0,iv 0,iv 0,iv 0]) ix λ O=>?_;refine cl (#[_,_,_,_]) fp .here ?_;refine es (U.dw CD mixed ?_);refine Any.vs 2 [0,1] rfl (tl 2 0 aL z0 ?_);have ⟨W,k,a⟩:=ag a;have ⟨X,l,a⟩:=ag a;refine a7 a (λ g a=>?_) (λ g a=>?_)
 ·have ⟨M,I,a⟩:=ag a;have ⟨Y,J,a⟩:=ag a;obtain ⟨w,K,_,rfl,c,e⟩:=h1.elem a8 k;refine tQ 3 rfl (kI e) ?_;refine tQ 4 rfl (kA aL 0 c (su (so (so sr)))) ?_;refine Any.vs 1 [5] rfl (tl 6 3 eD z1 ?_);refine Any.vs 1 [7] rfl ?_;obtain ⟨x,L,_,rfl,d,f⟩:=b.elem iR l;refine tQ 8 rfl (kI f) ?_;refine Any.vs 1 [9] rfl (tQ 10 rfl (kU aL 1 d) ?_);refine Any.vs 2 [11,12] rfl (Any.cb (t:=27) rfl g ?_);refine Any.vs 1 [13] rfl (tl 14 2 aL z0 ?_);refine tN 15 [_,_,_,_,_,_] 0 6 bl z1 ?_;refine Any.vs 2 [16,17] rfl (tl 18 0 aL z0 ?_);obtain ⟨Q,T,_,rfl,D,F⟩:=h1.elem a8 I;refine tQ 19 rfl (kI F) ?_;refine tQ 20 rfl (kA aL 0 D (su (so (so sr)))) ?_;refine Any.cv 21 Fs (J0 x0 M y z b h A J) ?_;rintro _ _ _ ⟨rfl,rfl,rfl⟩;refine kp (Any.vs 3 [22,23,24] rfl (Any.done ?_));cases ay a;exact rt func86 (.tmp rfl .nil) (so (so sr)) (i _ _ _ aM)
 obtain ⟨w,K,_,rfl,c,e⟩:=h1.elem a8 k;refine tQ 3 rfl (kI e) ?_;refine tQ 4 rfl (kA aL 0 c (su (so (so sr)))) ?_;refine Any.vs 1 [5] rfl (tl 6 3 eD z1 ?_);refine Any.vs 1 [7] rfl ?_;obtain ⟨x,L,_,rfl,d,f⟩:=b.elem iR l;refine tQ 8 rfl (kI f) ?_;refine Any.vs 1 [9] rfl (tQ 10 rfl (kU aL 1 d) ?_);refine Any.vs 2 [11,12] rfl (Any.cb (t:=27) rfl g ?_);refine Any.vs 12 [13,14,15,16,17,18,19,20,21,22,23,24] rfl (Any.done ?_);cases ay a;exact rt func86 (.tmp rfl .nil) (so (so sr)) (i _ _ _ aM)
end
section
variable {B:Base} {main:Bool} {ab:Jd prog B main} {R:ax} {H:ai}
theorem Mu(x0:(List Int))(x1:Int){v0:Value}(b:bO CZ 1 R H v0 x0){r:Int}(a:qR x0 x1=some r):aP ab 55 #[v0,iv x1] R H (λ v R' H'=>R=R'∧H=H'∧v=iv r):=by
 unfold qR at a
 refine aX func55 34 λ fr cs c=>?_;refine sg aC (vs 1 (es ?_));refine sg aC (vs 1 (er ?_));refine U.aR ?_;refine U.cT a (λ (g:Int) R' H' st'=>R=R'∧H=H'∧aA st' [(0,v0),(1,iv x1),(5,iv g)]) (λ (y:Unit) R' H' st'=>R=R'∧H=H'∧aA st' []) 0 rfl ⟨rfl,rfl,an cc⟩ ?_ ?_;rotate_right
 ·rintro g D A P ⟨rfl,rfl,p⟩ S a e h f;refine U.sub p (sq (sg bj (vs 2 ?_)));refine lr b underlying36 ?_;refine vs 1 (er ?_);refine sc a ?_ ?_<;>intro J a
  ·refine sp (sq (U.aR ?_));refine sq (sg dk (vs 2 ?_));have ⟨z,s,a⟩:=ag a;have ⟨T,u,a⟩:=ag a;obtain ⟨F,M,_,rfl,i,m⟩:=b.elem a8 s;refine bS m ?_;refine U.ld aL ((i.sub pp).one (j:=0) rfl) ?_;refine vs 2 ?_;refine U.cv fE (fH z 0 (i64 (x1 - 1))  u) ?_;rintro _ _ _ ⟨rfl,rfl,rfl⟩;refine vs 1 (er ?_);refine sc a ?_ ?_<;>intro K a
   ·refine sg aC (vs 1 (er ?_));replace a:=f _ (ao a);cases ay a;exact rt func55 (.tmp rfl .nil) sr (c _ _ _ aM)
   refine sp (sq (U.dw km mixed ?_));refine Any.vs 3 [0,1,2] rfl (a7 a (λ d a=>?_) (λ d a=>?_))
   ·refine Any.cb (t:=22) rfl d ?_;refine Any.vs 2 [3,4] rfl ?_;have ⟨V,w,a⟩:=ag a;have ⟨W,x,a⟩:=ag a;obtain ⟨G,N,_,rfl,k,n⟩:=b.elem a8 w;refine tQ 5 rfl (kI n) ?_;refine tQ 6 rfl (kA aL 0 k pp) ?_;refine Any.vs 3 [7,8,9] rfl ?_;obtain ⟨I,O,_,rfl,l,o⟩:=b.elem a8 x;refine tQ 10 rfl (kI o) ?_;refine tQ 11 rfl (kA aL 0 l pp) ?_;refine Any.vs 2 [12,13] rfl (Any.done (sc a ?_ ?_))<;>intro L a
    ·refine sg aC (vs 1 (er ?_));replace a:=f _ (ao a);cases ay a;exact rt func55 (.tmp rfl .nil) sr (c _ _ _ aM)
    refine sp (U.a9 ?_);refine U.rg aT (vs 3 (er ?_));exact e _ (ao a) _ _ _ ⟨rfl,rfl,an cc⟩
   refine Any.cb (t:=22) rfl d ?_;refine Any.vs 11 [3,4,5,6,7,8,9,10,11,12,13] rfl (Any.done (U.cond_false rfl ?_));refine sp (U.a9 ?_);refine U.rg aT (vs 3 (er ?_));exact e _ (ao a) _ _ _ ⟨rfl,rfl,an cc⟩
  exact U.bD rfl (h _ (ao a) _ _ _ ⟨rfl,rfl,bz.sub trivial⟩)
 rintro y E C Q ⟨rfl,rfl,q⟩ a;refine U.sub q (sg aC (vs 1 (er ?_)));cases ay a;exact rt func55 (.tmp rfl .nil) sr (c _ _ _ aM)
theorem Mw(x0:aj)(x1:(List (List Int))){d e f g h v1:Value}(_:aa bt 2 R d x0.Rows)(_:aa bq 2 R e x0.aD)(p:aa bp 2 R f x0.az)(j:aa br 4 R g x0.av)(_:aa bg 3 R h x0.aQ)(h1:bO (ej CZ 1) 1 R H v1 x1){r:Int}(a:qS x0 x1=some r):aP ab 63 #[.agg #[iv x0.Rest,d,e,f,g,h],v1] R H (λ v R' H'=>R=R'∧H=H'∧v=iv r):=by
 unfold qS at a
 refine aX func63 42 λ fr cs b=>?_;refine sg aE (bx λ i=>?_);refine vs 1 (es ?_);refine sg cU (vs 1 ?_);refine lr h1 underlying29 ?_;refine vs 1 ?_;refine ld 4 dS z0 ?_;refine ls j underlying25 ?_;refine vs 1 (er ?_);refine sc a ?_ ?_<;>intro Z a
 ·refine sg aC (vs 1 (er ?_));cases ay a;exact rt func63 (.tmp rfl .nil) (so sr) (b _ _ _ aM)
 refine sp (sq (sg aC (vs 1 (er ?_))));refine U.aR ?_;refine U.cT a (λ (m:Int) R' H' st'=>R=R'∧H'=(i,.cells #[iv x0.Rest,d,e,f,g,h] 28)::H∧aA st' [(1,v1),(2,pT i),(5,iv m)]) (λ (J:Unit) R' H' st'=>R=R'∧H=H'∧aA st' []) 0 rfl ⟨rfl,rfl,an cc⟩ ?_ ?_;rotate_right
 ·rintro m P N al ⟨rfl,rfl,z⟩ ar a n o l;refine U.sub z (sq (sg bj (vs 2 ?_)));refine lr h1 underlying29 ?_;refine vs 1 (er ?_);refine sc a ?_ ?_<;>intro ac a
  ·refine sp (sq (U.aR ?_));refine sq (sq (U.dw kl mixed ?_));refine Any.vs 2 [0,1] rfl ?_;have ⟨L,C,a⟩:=ag a;have ⟨au,E,a⟩:=ag a;obtain ⟨S,af,_,⟨ap,rfl,D⟩,s,w⟩:=h1.elem iT C;refine tQ 2 rfl (kI w) ?_;refine tQ 3 rfl (kA iO 0 s (su (so sr))) ?_;refine Any.tk 4 rfl pp (λ R' H' c q=>Ox.gX (K:=CZ) (k:=1) (xs:=L) rfl rfl (D.mono c) underlying36 rfl (.one rfl) aM) ?_;refine Any.vs 1 [5] rfl (tl 6 4 dS z0 ?_);refine Any.vs 1 [7] rfl ?_;obtain ⟨T,ah,_,rfl,t,x⟩:=j.elem iS E;refine tQ 8 rfl (kI x) ?_;refine Any.vs 1 [9] rfl (tQ 10 rfl (kU aL 3 t) ?_);refine Any.vs 1 [11] rfl (Any.done (sc a ?_ ?_))<;>intro ad a
   ·refine sg aC (vs 1 (er ?_));replace a:=l _ (ao a);cases ay a;exact rt func63 (.tmp rfl .nil) (so sr) (b _ _ _ aM)
   refine sp (sq (U.dw e0 mixed ?_));refine Any.vs 2 [0,1] rfl ?_;have ⟨M,F,a⟩:=ag a;have ⟨aw,I,a⟩:=ag a;obtain ⟨V,ak,_,⟨aq,rfl,G⟩,u,y⟩:=h1.elem iT F;refine tQ 2 rfl (kI y) ?_;refine tQ 3 rfl (kA iO 0 u (su (so sr))) ?_;refine Any.vs 1 [4] rfl (tl 5 3 eD z0 ?_);refine Any.tk 6 rfl pp (λ R' H' c q=>Ox.gX (K:=bp) (k:=2) (xs:=x0.az) rfl rfl (p.mono c) underlying24 rfl (.one rfl) aM) ?_;refine Any.cv 7 GU (Mu M (x0.az.length:Int) G.rd I) ?_;rintro _ _ _ ⟨rfl,rfl,rfl⟩;refine kp (Any.vs 1 [8] rfl (Any.done (sg aE (vs 2 (er ?_)))));refine sc a ?_ ?_<;>intro ae a
   ·refine sg aE (vs 2 (er ?_));replace a:=l _ (ao a);cases ay a;exact rt func63 (.tmp rfl .nil) (so sr) (b _ _ _ aM)
   refine sp (U.a9 ?_);refine U.rg aT (vs 3 (er ?_));exact n _ (ao a) _ _ _ ⟨rfl,rfl,an cc⟩
  exact U.bD rfl (U.bd (so sr) (o _ (ao a) _ _ _ ⟨rfl,rfl,bz.sub trivial⟩))
 rintro J Q O am ⟨rfl,rfl,A⟩ a;refine U.sub A (sg aC (vs 1 (er ?_)));cases ay a;exact rt func63 (.tmp rfl .nil) sr (b _ _ _ aM)
theorem qP(x0:(List Int))(x1:Int){v0:Value}(b:bO CZ 1 R H v0 x0){r:Bool}(a:o5 x0 x1=some r):aP ab 47 #[v0,iv x1] R H (λ v R' H'=>R=R'∧H=H'∧v = .bool r):=by
 unfold o5 at a
 refine aX func47 18 λ fr cs c=>?_;refine sg aC (vs 1 (es ?_));refine sg aC (vs 1 (er ?_));refine U.aR ?_;refine U.cT a (λ (d:Int) R' H' st'=>R=R'∧H=H'∧aA st' [(0,v0),(1,iv x1),(5,iv d)]) (λ (n:Unit) R' H' st'=>R=R'∧H=H'∧aA st' []) 0 rfl ⟨rfl,rfl,an cc⟩ ?_ ?_;rotate_right
 ·rintro d q o y ⟨rfl,rfl,i⟩ A a e f m;refine U.sub i (sq (sg bj (vs 2 ?_)));refine lr b underlying36 ?_;refine vs 1 (er ?_);refine sc a ?_ ?_<;>intro u a
  ·refine sp (sq (U.aR ?_));refine sg cU (vs 2 ?_);have ⟨C,l,a⟩:=ag a;obtain ⟨t,x,_,rfl,g,h⟩:=b.elem a8 l;refine bS h ?_;refine U.ld aL ((g.sub pp).one (j:=0) rfl) ?_;refine vs 2 (er ?_);refine sc a ?_ ?_<;>intro w a
   ·refine sg aC (vs 1 (er ?_));replace a:=m _ (ao a);cases ay a;exact rt func47 (.tmp rfl .nil) sr (c _ _ _ aM)
   refine sp (U.a9 ?_);refine U.rg aT (vs 3 (er ?_));exact e _ (ao a) _ _ _ ⟨rfl,rfl,an cc⟩
  exact U.bD rfl (f _ (ao a) _ _ _ ⟨rfl,rfl,bz.sub trivial⟩)
 rintro n s p z ⟨rfl,rfl,k⟩ a;refine U.sub k (sg aC (vs 1 (er ?_)));cases ay a;exact rt func47 (.tmp rfl .nil) sr (c _ _ _ aM)
theorem KE(x0:aj)(x1:Int)(x2:Int){h i k l m:Value}(_:aa bt 2 R h x0.Rows)(_:aa bq 2 R i x0.aD)(_:aa bp 2 R k x0.az)(p:aa br 4 R l x0.av)(_:aa bg 3 R m x0.aQ){r:Bool}(a:qD x0 x1 x2=some r):aP ab 157 #[.agg #[iv x0.Rest,h,i,k,l,m],iv x1,iv x2] R H (λ v R' H'=>R=R'∧H=H'∧v = .bool r):=by
 unfold qD at a
 refine aX func157 43 λ fr cs s=>?_;refine sg aE (bx λ o=>?_);refine vs 1 (es ?_);have ⟨d,A,a⟩:=ag a;have ⟨e,C,a⟩:=ag a;refine U.cut (λ R' H' st'=>R=R'∧∃ (b:Nat) (c:Nat),H'=(c,.cells #[iv e.Place,iv e.dy,iv e.db,iv e.az] 96)::(b,.cells #[iv d.Place,iv d.dy,iv d.db,iv d.az] 96)::(o,.cells #[iv x0.Rest,h,i,k,l,m] 28)::H∧aA st' [(3,pT o),(7,pT b),(8,pT c)]) ?_ ?_
 ·rintro E D O ⟨rfl,b,c,rfl,z⟩;refine U.sub z (sg CD (vs 1 ?_));refine ld 1 aL z0 ?_;refine vs 1 ?_;refine ld 1 aL z1 ?_;refine vs 1 ?_;refine ld 2 aL z1 ?_;refine vs 2 ?_;refine ld 0 aL z2 ?_;refine vs 3 ?_;refine a7 a (λ g a=>?_) (λ g a=>?_)
  ·refine U.kn 30 g (vs 13 (er ?_));cases ay a;exact rt func157 (.tmp rfl .nil) (so (so (so sr))) (s _ _ _ aM)
  refine U.kn 30 g (vs 1 ?_);refine ld 1 aL z1 ?_;refine vs 1 ?_;refine ld 1 aL z0 ?_;refine vs 1 ?_;refine ld 2 aL z0 ?_;refine vs 2 ?_;refine ld 0 aL z2 ?_;refine vs 4 (er ?_);cases ay a;exact rt func157 (.tmp rfl .nil) (so (so (so sr))) (s _ _ _ aM)
 intro q;refine U.dw km mixed ?_;refine Any.vs 1 [0] rfl (tl 1 4 dS z0 ?_);refine Any.vs 1 [2] rfl ?_;obtain ⟨F,M,_,rfl,u,x⟩:=p.elem iS A;refine tQ 3 rfl (kI x) ?_;refine Any.tk 4 rfl pp (λ R' H' f t=>Ox.bE (vs:=[_,_,_,_]) rfl rfl fp rfl ((u.up f).part (j:=0) (n:=4) rfl) rfl (.one rfl) aM) ?_;refine Any.vs 1 [5] rfl (tl 6 4 dS z0 ?_);refine Any.vs 1 [7] rfl ?_;obtain ⟨G,N,_,rfl,w,y⟩:=p.elem iS C;refine tQ 8 rfl (kI y) ?_;refine Any.tk 9 rfl pp (λ R' H' f t=>Ox.bE (vs:=[_,_,_,_]) rfl rfl fp rfl ((w.up f).part (j:=0) (n:=4) rfl) rfl (.one rfl) aM) ?_;refine tw 10 11 ?_ ?_
 ·refine  (aS.to (Ox.alloc (cs:=#[iv 0,iv 0,iv 0,iv 0]) rfl ix rfl λ b _ _=>⟨_,(.put rfl),⟨rr,(ku (so sr)),?_⟩⟩));refine Any.on 11 rfl rfl (aS.to (Ox.alloc (cs:=#[iv 0,iv 0,iv 0,iv 0]) rfl ix rfl λ c _ _=>⟨_,(.put rfl),⟨rr,(ku (so (so sr))),?_⟩⟩));refine Any.on 12 rfl rfl (aS.to (Ox.cV (cs':=#[_,_,_,_]) rfl rfl rfl fp rfl (bh rfl (bh rfl (bh rfl (bh rfl bB)))) (.there .here) rfl rfl rfl (.refl _) ⟨rr,(ku (so (so sr))),?_⟩));refine Any.on 13 rfl rfl (aS.to (Ox.cV (cs':=#[_,_,_,_]) rfl rfl rfl fp rfl (bh rfl (bh rfl (bh rfl (bh rfl bB)))) .here rfl rfl rfl (.refl _) ⟨rr,(ku (so (so sr))),?_⟩));exact Any.done (q _ _ _ ⟨rfl,b,c,rfl,an cc⟩)
 refine  (aS.to (Ox.alloc (cs:=#[iv 0,iv 0,iv 0,iv 0]) rfl ix rfl λ c _ _=>⟨_,(.put rfl),⟨rr,(ku (so sr)),?_⟩⟩));refine Any.on 10 rfl rfl (aS.to (Ox.alloc (cs:=#[iv 0,iv 0,iv 0,iv 0]) rfl ix rfl λ b _ _=>⟨_,(.put rfl),⟨rr,(ku (so (so sr))),?_⟩⟩));refine Any.on 12 rfl rfl (aS.to (Ox.cV (cs':=#[_,_,_,_]) rfl rfl rfl fp rfl (bh rfl (bh rfl (bh rfl (bh rfl bB)))) .here rfl rfl rfl (.refl _) ⟨rr,(ku (so (so sr))),?_⟩));refine Any.on 13 rfl rfl (aS.to (Ox.cV (cs':=#[_,_,_,_]) rfl rfl rfl fp rfl (bh rfl (bh rfl (bh rfl (bh rfl bB)))) (.there .here) rfl rfl rfl (.refl _) ⟨rr,(ku (so (so sr))),?_⟩));exact Any.done (U.perm (hP _ _ _) (q _ _ _ ⟨rfl,b,c,rfl,an cc⟩))
theorem Ka(x0:aj)(x1:(List (List Int))){d e f g h v1:Value}(P:aa bt 2 R d x0.Rows)(Q:aa bq 2 R e x0.aD)(S:aa bp 2 R f x0.az)(T:aa br 4 R g x0.av)(V:aa bg 3 R h x0.aQ)(h1:bO (ej CZ 1) 1 R H v1 x1){r:Bool}(a:oH x0 x1=some r):aP ab 119 #[.agg #[iv x0.Rest,d,e,f,g,h],v1] R H (λ v R' H'=>R=R'∧H=H'∧v = .bool r):=by
 unfold oH at a
 refine aX func119 47 λ fr cs x=>?_;refine sg aE (bx λ b=>?_);refine vs 1 (es ?_);refine sg aC (vs 1 (er ?_));refine U.aR ?_;refine U.cT a (λ (c:Int) R' H' st'=>R=R'∧H'=(b,.cells #[iv x0.Rest,d,e,f,g,h] 28)::H∧aA st' [(1,v1),(2,pT b),(5,iv c)]) (λ (aB:Unit) R' H' st'=>R=R'∧H=H'∧aA st' []) 0 rfl ⟨rfl,rfl,an cc⟩ ?_ ?_;rotate_right
 ·rintro c aV aJ bb ⟨rfl,rfl,Y⟩ bm a G M am;refine U.sub Y (sq (sg bj (vs 2 ?_)));refine lr h1 underlying29 ?_;refine vs 1 (er ?_);refine sc a ?_ ?_<;>intro a3 a
  ·refine sp (sq (U.aR ?_));refine sg aC (vs 1 (er ?_));refine U.aR ?_;refine U.cT a (λ (i:Int) R' H' st'=>R=R'∧H'=(b,.cells #[iv x0.Rest,d,e,f,g,h] 28)::H∧aA st' [(1,v1),(2,pT b),(5,iv c),(6,iv i)]) (λ (aF:Unit) R' H' st'=>R=R'∧H'=(b,.cells #[iv x0.Rest,d,e,f,g,h] 28)::H∧aA st' [(1,v1),(2,pT b),(5,iv c)]) 2 rfl ⟨rfl,rfl,an bu⟩ ?_ ?_;rotate_right
   ·rintro i aY aN be ⟨rfl,rfl,ac⟩ bn a I N ap;refine U.sub ac (sq (sg aT (vs 3 (er ?_))));refine sc a ?_ ?_<;>intro a4 a
    ·refine sp (sq (U.aR ?_));refine sg aC (vs 1 (er ?_));refine U.aR ?_;refine U.cT a (λ (D:Int) R' H' st'=>R=R'∧H'=(b,.cells #[iv x0.Rest,d,e,f,g,h] 28)::H∧aA st' [(1,v1),(2,pT b),(5,iv c),(6,iv i),(7,iv D)]) (λ (aG:Unit) R' H' st'=>R=R'∧H'=(b,.cells #[iv x0.Rest,d,e,f,g,h] 28)::H∧aA st' [(1,v1),(2,pT b),(5,iv c),(6,iv i)]) 4 rfl ⟨rfl,rfl,an cj⟩ ?_ ?_;rotate_right
     ·rintro D a0 aS bh ⟨rfl,rfl,ae⟩ bo a w O aq;refine U.sub ae (sq (sg cy (vs 3 ?_)));have ⟨bs,ah,a⟩:=ag a;obtain ⟨a2,ba,_,⟨bk,rfl,ak⟩,W,X⟩:=h1.elem iT ah;refine bS X ?_;refine U.ld iO ((W.sub (su (so sr))).one (j:=0) rfl) ?_;refine ls ak underlying36 ?_;refine vs 1 (er ?_);refine sc a ?_ ?_<;>intro a5 a
      ·refine sp (sq (U.aR ?_));refine sq (U.dw Og mixed ?_);refine Any.vs 2 [0,1] rfl ?_;have ⟨E,y,a⟩:=ag a;have ⟨bv,z,a⟩:=ag a;have ⟨F,A,a⟩:=ag a;have ⟨bw,C,a⟩:=ag a;refine a7 a (λ q a=>?_) (λ q a=>?_)
       ·have ⟨bA,al,a⟩:=ag a;obtain ⟨J,ar,_,⟨aH,rfl,s⟩,k,n⟩:=h1.elem iT y;refine tQ 2 rfl (kI n) ?_;refine tQ 3 rfl (kA iO 0 k (su (so sr))) ?_;refine Any.vs 2 [4,5] rfl ?_;obtain ⟨K,au,_,⟨aI,rfl,u⟩,l,o⟩:=h1.elem iT z;refine tQ 6 rfl (kI o) ?_;refine tQ 7 rfl (kA iO 0 l (su (so sr))) ?_;refine Any.vs 1 [8] rfl ?_;obtain ⟨L,aw,_,rfl,m,p⟩:=u.elem a8 A;refine tQ 9 rfl (kI p) ?_;refine tQ 10 rfl (kU aL 0 m) ?_;refine Any.cv 11 qg (qP E F s.rd C) ?_;rintro _ _ _ ⟨rfl,rfl,rfl⟩;refine kp (Any.vs 1 [12] rfl (Any.cb (t:=40) rfl q ?_));refine tN 13 [_,_,_,_,_,_] 0 6 bl z0 ?_;refine Any.vs 2 [14,15] rfl (Any.cv 16 FQ (KE x0 c i P Q S T V al) ?_);rintro _ _ _ ⟨rfl,rfl,rfl⟩;refine kp (Any.vs 2 [17,18] rfl (Any.done (sc a ?_ ?_)))<;>intro a6 a
        ·refine sg aC (vs 1 (er ?_));replace a:=aq _ (ao a);replace a:=ap _ (ao a);replace a:=am _ (ao a);cases ay a;exact rt func119 (.tmp rfl .nil) (so sr) (x _ _ _ aM)
        refine sp (U.a9 ?_);refine U.rg aT (vs 3 (er ?_));exact w _ (ao a) _ _ _ ⟨rfl,rfl,an cj⟩
       obtain ⟨J,ar,_,⟨aH,rfl,s⟩,k,n⟩:=h1.elem iT y;refine tQ 2 rfl (kI n) ?_;refine tQ 3 rfl (kA iO 0 k (su (so sr))) ?_;refine Any.vs 2 [4,5] rfl ?_;obtain ⟨K,au,_,⟨aI,rfl,u⟩,l,o⟩:=h1.elem iT z;refine tQ 6 rfl (kI o) ?_;refine tQ 7 rfl (kA iO 0 l (su (so sr))) ?_;refine Any.vs 1 [8] rfl ?_;obtain ⟨L,aw,_,rfl,m,p⟩:=u.elem a8 A;refine tQ 9 rfl (kI p) ?_;refine tQ 10 rfl (kU aL 0 m) ?_;refine Any.cv 11 qg (qP E F s.rd C) ?_;rintro _ _ _ ⟨rfl,rfl,rfl⟩;refine kp (Any.vs 1 [12] rfl (Any.cb (t:=40) rfl q ?_));refine Any.vs 6 [13,14,15,16,17,18] rfl (Any.done (U.cond_false rfl ?_));refine sp (U.a9 ?_);refine U.rg aT (vs 3 (er ?_));exact w _ (ao a) _ _ _ ⟨rfl,rfl,an cj⟩
      exact U.bD rfl (O _ (ao a) _ _ _ ⟨rfl,rfl,an bu⟩)
     rintro aG a1 aU bi ⟨rfl,rfl,af⟩ a;refine U.sub af (U.a9 ?_);refine U.rg aT (vs 3 (er ?_));exact I _ (ao a) _ _ _ ⟨rfl,rfl,an bu⟩
    exact U.bD rfl (N _ (ao a) _ _ _ ⟨rfl,rfl,an cc⟩)
   rintro aF aZ aO bf ⟨rfl,rfl,ad⟩ a;refine U.sub ad (U.a9 ?_);refine U.rg aT (vs 3 (er ?_));exact G _ (ao a) _ _ _ ⟨rfl,rfl,an cc⟩
  exact U.bD rfl (U.bd (so sr) (M _ (ao a) _ _ _ ⟨rfl,rfl,bz.sub trivial⟩))
 rintro aB aW aK bc ⟨rfl,rfl,Z⟩ a;refine U.sub Z (sg aC (vs 1 (er ?_)));cases ay a;exact rt func119 (.tmp rfl .nil) sr (x _ _ _ aM)
end
end Go.Proofs.YtihapemckcdicaaGreatDoor
