/- Walks, part 1: each function computes its model. -/
import Derived.Test.YtikficpdfaajlaaGreatDoorQSWStW0
import Derived.Test.YtikficpdfaajlaaGreatDoorQSWLgC
namespace Go.Proofs.YtikficpdfaajlaaGreatDoor
open Go.Lg Go.Proofs Tryz
set_option maxRecDepth 100000
set_option maxHeartbeats 4000000
section
variable {B:Base} {main:Bool} {ae:Jd prog B main} {R:aA} {H:ai}
theorem vj(x0:bU)(x1:(bc→a5)){p w y z A k v1:Value}(_:aa bQ 2 R p x0.book.Rows)(_:aa bd 2 R w x0.book.aJ)(_:aa bL 2 R y x0.book.ay)(_:aa bP 4 R z x0.book.az)(_:aa bG 3 R A x0.book.a0)(f:aa dI 3 R k x0.cY)(h1:hj ae R H (eA dI) VB v1 x1){r:Int}(b:kF x0 x1=some r):aO ae 66 #[.agg #[iv x0.book.Rest,p,w,y,z,A,k],v1] R H (λ v R' H'=>aK R R'∧H=H'∧v=iv r):=by
 unfold kF at b
 refine a2 func66 22 λ fr cs G=>?_;refine sg aD (bx λ S=>?_);refine vs 1 ?_;refine nx aC (vs 1 (es ?_));refine sg bp (vs 1 ?_);refine ld 6 jj z0 ?_;refine ls f underlying118 ?_;refine vs 1 (er (U.aT ?_));refine U.bq (H':=H) (so sr) (U.dK b (λ (i:(Int × Int)) R' H' st'=>aK R R'∧H=H'∧aB st' [(1,v1),(5,iv i.1),(9,k),(10,iv (x0.cY.length:Int)),(11,iv i.2)]) (λ (o:Int) R' H' st'=>aK R R'∧H=H'∧aB st' [(5,iv o)]) 0 rfl ⟨rr,rfl,ao cL⟩ ?_ ?_);rotate_right
 ·rintro i O M ak ⟨d,rfl,I⟩ am b m C;refine U.sub I ?_;replace f:=f.mono d;replace h1:=h1.up d pp;refine sg aC (vs 1 (es ?_));refine sc b ?_ ?_<;>intro ad b
  ·refine sp (sq (U.aT (sg bp ?_)));have ⟨an,K,b⟩:=af b;obtain ⟨V,ah,_,⟨c,rfl⟩,E,F⟩:=f.elem FY K;refine cb F ?_;refine U.s rfl rfl (Ox.bH (vs:=_) rfl rfl ie (by simp [c]) (E.any.part (j:=0) (n:=3) (cX (by simp [c]))) rfl (.put rfl) ?_);refine b4 (List.toArray ([]++([0,0,0].map (Value.int .i64)++[]))) wM λ T=>?_;refine U.s rfl rfl (Ox.dn (cs':=_) rfl rfl rfl ie (by simp [c]) (cG bE (cG (e0 λ _=>rfl) bE)) .here (by simp) (e9 (by simp [c])) rfl (.refl _) ?_);refine nx aX (vs 1 ?_);refine U.s rfl rfl (Ox.bH (vs:=_) rfl rfl ie (by simp [c]) ((aI.box z0).part (j:=0) (n:=3) (cX (by simp [c]))) rfl (.put rfl) ?_);have ⟨ap,L,b⟩:=af b;refine U.step rfl rfl rfl (Ox.jG h1 rfl rfl rfl ⟨_,rfl,⟨c,rfl⟩⟩ L rfl (su (so sr)) ?_);rintro _ Q g rfl;replace h1:=h1.up g pp;refine ⟨_,(.put rfl),?_⟩;refine er (sc b ?_ ?_)<;>intro ag b
   ·refine U.rg aX (vs 3 (er (U.bg (U.rg aD ?_))));refine vs 2 (er ?_);exact U.bq (so sr) (m _ (au b) _ _ _ ⟨(d.trans g),rfl,ao cL⟩)
   refine sp (U.bg (U.rg aD (vs 2 (er ?_))));exact U.bq (so sr) (m _ (au b) _ _ _ ⟨(d.trans g),rfl,ao cL⟩)
  exact U.bM rfl (C _ (au b) _ _ _ ⟨d,rfl,ao gn⟩)
 rintro o P N al ⟨D,rfl,J⟩ b;refine U.sub J (sg aD (vs 2 (er ?_)));cases ax b;exact rT func66 sr G ⟨D,bD⟩
theorem vg(x0:an)(x1:Int){c i k m o:Value}(d:aa bQ 2 R c x0.Rows)(_:aa bd 2 R i x0.aJ)(_:aa bL 2 R k x0.ay)(_:aa bP 4 R m x0.az)(_:aa bG 3 R o x0.a0){r:Int}(b:lA x0 x1=some r):aO ae 55 #[.agg #[iv x0.Rest,c,i,k,m,o],iv x1] R H (λ v R' H'=>R=R'∧H=H'∧v=iv r):=by
 unfold lA at b
 refine a2 func55 22 λ fr cs f=>?_;refine sg aD (bx λ L=>?_);refine vs 1 (es ?_);refine sg bI (vs 2 ?_);refine ld 1 gV z0 ?_;refine ls d underlying22 ?_;refine vs 1 (er (U.aT ?_));refine U.bq (H':=H) (so sr) (U.dB b (λ (g:Int) R' H' st'=>R=R'∧H=H'∧aB st' [(1,iv x1),(9,c),(10,iv (x0.Rows.length:Int)),(11,iv g)]) (λ (F:Unit) R' H' st'=>R=R'∧H=H'∧aB st' []) 0 rfl ⟨rfl,rfl,ao bJ⟩ ?_ ?_);rotate_right
 ·rintro g J G Y ⟨rfl,rfl,A⟩ ab b p w E;refine U.sub A (sg aC (vs 1 (es ?_)));refine sc b ?_ ?_<;>intro T b
  ·refine sp (sq (U.aT (sg bp ?_)));have ⟨ac,D,b⟩:=af b;obtain ⟨N,W,_,rfl,y,z⟩:=d.elem ju D;refine cb z ?_;refine U.s rfl rfl (Ox.bH (vs:=[_,_]) rfl rfl jz rfl (y.any.part (j:=0) (n:=2) rfl) rfl (.put rfl) ?_);refine b4 (#[iv 0,iv 0]) wO λ M=>?_;refine ck (#[_,_]) jz .here ?_;refine nx bp (vs 2 ?_);refine ld 0 aM z0 ?_;refine vs 1 (er ?_);refine sc b ?_ ?_<;>intro V b
   ·refine sg aX (vs 1 ?_);refine ld 1 aM z0 ?_;refine vs 1 (er ?_);replace b:=E _ (au b);cases ax b;exact rT func55 (so sr) f aH
   refine sp (U.bg (U.rg aD (vs 2 (er ?_))));exact U.bq (so sr) (p _ (au b) _ _ _ ⟨rfl,rfl,ao bJ⟩)
  exact U.bM rfl (w _ (au b) _ _ _ ⟨rfl,rfl,bN.sub trivial⟩)
 rintro F K I Z ⟨rfl,rfl,C⟩ b;refine U.sub C (sg aC (vs 1 (er ?_)));cases ax b;exact rT func55 sr f aH
theorem y6(x0:an)(x1:bc)(x2:Int)(x3:Int){p w y z A:Value}(D:aa bQ 2 R p x0.Rows)(E:aa bd 2 R w x0.aJ)(c:aa bL 2 R y x0.ay)(g:aa bP 4 R z x0.az)(F:aa bG 3 R A x0.a0)(L:x1.deep.length=3){r:Bool}(b:l8 x0 x1 x2 x3=some r):aO ae 68 #[.agg #[iv x0.Rest,p,w,y,z,A],.agg (List.toArray ([]++(x1.deep.map (Value.int .i64)++[]))),iv x2,iv x3] R H (λ v R' H'=>R=R'∧H=H'∧v = .bool r):=by
 unfold l8 at b
 refine a2 func68 39 λ fr cs i=>?_;refine sg aX (bx λ O=>?_);refine bx λ P=>?_;refine vs 1 ?_;refine nx dx (vs 2 ?_);refine ld 4 fu z1 ?_;refine vs 1 ?_;have ⟨V,J,b⟩:=af b;obtain ⟨S,T,_,rfl,G,I⟩:=g.elem nR J;refine cb I ?_;refine U.s rfl rfl (Ox.bH (vs:=[_,_,_,_]) rfl rfl ic rfl (G.any.part (j:=0) (n:=4) rfl) rfl (.put rfl) ?_);refine b4 (#[iv 0,iv 0,iv 0,iv 0]) nZ λ Q=>?_;refine ck (#[_,_,_,_]) ic .here ?_;refine nx cZ (vs 1 ?_);refine ld 0 aM z0 ?_;refine vs 1 ?_;have ⟨N,m,b⟩:=af b;refine cb (gG pE L m) ?_;refine U.ld aM ((aI.box z1).arr m rfl) ?_;refine vs 1 (es ?_);refine U.dw zE mixed ?_;refine Any.vs 3 [0,1,2] rfl (tl 3 3 fR z2 ?_);refine Any.vs 1 [4] rfl ?_;have ⟨W,o,b⟩:=af b;refine a4 b ?_ ?_<;>intro k b
 ·have ⟨Y,K,b⟩:=af b;obtain ⟨C,M,_,rfl,d,f⟩:=c.elem lJ o;refine tQ 5 rfl (kI f) ?_;refine Any.vs 1 [6] rfl (tQ 7 rfl (kU aM 1 d) ?_);refine Any.vs 2 [8,9] rfl (Any.cx (t:=31) rfl k (Any.vs 1 [10] rfl (tl 11 2 aM z0 ?_)));refine tN 12 [_,_,_,_,_,_] 0 6 eB z2 ?_;refine Any.vs 1 [13] rfl (Any.cp 14 uB (vg x0 N D E c g F K) ?_);refine Any.vs 3 [15,16,17] rfl (Any.done ?_);cases ax b;exact rT func68 (so (so (so sr))) i aH
 obtain ⟨C,M,_,rfl,d,f⟩:=c.elem lJ o;refine tQ 5 rfl (kI f) ?_;refine Any.vs 1 [6] rfl (tQ 7 rfl (kU aM 1 d) ?_);refine Any.vs 2 [8,9] rfl (Any.cx (t:=31) rfl k (Any.vs 8 [10,11,12,13,14,15,16,17] rfl (Any.done ?_)));cases ax b;exact rT func68 (so (so (so sr))) i aH
theorem NY(x0:bc)(x1:bU)(x2:Int)(x3:Int){f g i k m o:Value}{b1 b2 d:Nat}(c:x0.deep.length=3)(C:aI R H b1 0 [iv x1.book.Rest,f,g,i,k,m,o])(p:aa bQ 2 R f x1.book.Rows)(w:aa bd 2 R g x1.book.aJ)(y:aa bL 2 R i x1.book.ay)(z:aa bP 4 R k x1.book.az)(A:aa bG 3 R m x1.book.a0)(_:aa dI 3 R o x1.cY)(D:aI R H b2 0 [iv x2])(E:aI R H d 0 [iv x3]){r:Bool}(b:lW x0 x1 x2 x3=some r):aO ae 115 #[.agg (List.toArray ([]++(x0.deep.map (Value.int .i64)++[]))),pT b1,pT b2,pT d] R H (λ v R' H'=>R=R'∧H=H'∧v = .bool r):=by
 unfold lW at b
 refine a2 func115 12 λ fr cs F=>?_;refine sg aD (bx λ I=>?_);refine vs 1 ?_;refine nx cQ (vs 1 ?_);refine U.s rfl rfl (Ox.bH (vs:=[_,_,_,_,_,_]) rfl rfl eB rfl ((C.sub (su (so sr))).part (j:=0) (n:=6) rfl) rfl (.put rfl) ?_);refine U.s rfl rfl (Ox.bH (vs:=_) rfl rfl ie (by simp [c]) ((aI.box z0).part (j:=0) (n:=3) (cX (by simp [c]))) rfl (.put rfl) ?_);refine U.ld aM ((D.sub (su (so sr))).one (j:=0) rfl) ?_;refine U.ld aM ((E.sub (su (so sr))).one (j:=0) rfl) ?_;have ⟨K,G,b⟩:=af b;refine U.cp ym (y6 x1.book x0 x2 x3 p w y z A c G) ?_;refine vs 1 (er ?_);cases ax b;exact rT func115 (so sr) F aH
theorem NW(x0:an){f g i k m:Value}(F:aa bQ 2 R f x0.Rows)(G:aa bd 2 R g x0.aJ)(n:aa bL 2 R i x0.ay)(I:aa bP 4 R k x0.az)(J:aa bG 3 R m x0.a0){r:Bool}(b:r9 x0=some r):aO ae 10 #[.agg #[iv x0.Rest,f,g,i,k,m]] R H (λ v R' H'=>R=R'∧H=H'∧v = .bool r):=by
 unfold r9 at b
 refine a2 func10 47 λ fr cs o=>?_;refine sg aD (bx λ d=>?_);refine vs 1 (es (sq ?_));refine U.du b (λ (A:Bool) R' H' st'=>R=R'∧H'=(d,.cells #[iv x0.Rest,f,g,i,k,m] 28)::H∧aB st' [(1,pT d),(31,.bool A)])  ?_ ?_;rotate_right
 ·intro aq b c;refine U.rg RV (vs 1 ?_);refine ld 1 gV z0 ?_;refine ls F underlying22 ?_;refine vs 2 ?_;refine a4 b ?_ ?_<;>intro p b
  ·refine U.kn 8 p (vs 23 (er ?_));exact c _ (au b) _ _ _ ⟨rfl,rfl,ao cJ⟩
  refine U.kn 8 p (vs 1 ?_);refine ld 2 da z0 ?_;refine ls G underlying23 ?_;refine vs 3 ?_;refine a4 b ?_ ?_<;>intro w b
  ·refine U.kn 14 w (vs 17 (er ?_));exact c _ (au b) _ _ _ ⟨rfl,rfl,ao cJ⟩
  refine U.kn 14 w (vs 1 ?_);refine ld 3 fR z0 ?_;refine ls n underlying24 ?_;refine vs 3 ?_;refine a4 b ?_ ?_<;>intro y b
  ·refine U.kn 20 y (vs 11 (er ?_));exact c _ (au b) _ _ _ ⟨rfl,rfl,ao cJ⟩
  refine U.kn 20 y (vs 1 ?_);refine ld 4 fu z0 ?_;refine ls I underlying25 ?_;refine vs 3 ?_;refine a4 b ?_ ?_<;>intro z b
  ·refine U.kn 26 z (vs 5 (er ?_));exact c _ (au b) _ _ _ ⟨rfl,rfl,ao cJ⟩
  refine U.kn 26 z (vs 1 ?_);refine ld 5 gW z0 ?_;refine ls J underlying26 ?_;refine vs 2 (er ?_);exact c _ (au b) _ _ _ ⟨rfl,rfl,ao cJ⟩
 rintro A Y T al ⟨rfl,rfl,M⟩ b;refine U.sub M (sc b ?_ ?_)<;>intro ad b
 ·refine sg aC (vs 1 (er ?_));cases ax b;exact rT func10 (so sr) o aH
 refine sp (sq (sg aC (vs 1 (er (U.aT ?_)))));refine U.dB b (λ (C:Int) R' H' st'=>R=R'∧H'=(d,.cells #[iv x0.Rest,f,g,i,k,m] 28)::H∧aB st' [(1,pT d),(3,iv C)]) (λ (S:Unit) R' H' st'=>R=R'∧H=H'∧aB st' []) 0 rfl ⟨rfl,rfl,ao cJ⟩ ?_ ?_;rotate_right
 ·rintro C Z V am ⟨rfl,rfl,N⟩ ar b D E Q;refine U.sub N (sq (sg bI (vs 2 ?_)));refine ld 3 fR z0 ?_;refine ls n underlying24 ?_;refine vs 1 (er ?_);refine sc b ?_ ?_<;>intro ag b
  ·refine sp (sq (U.aT (sg dx (vs 1 ?_))));refine ld 3 fR z0 ?_;refine vs 1 ?_;have ⟨av,P,b⟩:=af b;obtain ⟨ac,ak,_,rfl,K,L⟩:=n.elem lJ P;refine cb L ?_;refine vs 1 ?_;refine U.ld pn (K.any.one (j:=0) rfl) ?_;refine U.s rfl rfl (Ox.uV rfl rfl underlying9 rfl (.put rfl) ?_);refine vs 1 (er ?_);refine sc b ?_ ?_<;>intro ah b
   ·refine sg aC (vs 1 (er ?_));replace b:=Q _ (au b);cases ax b;exact rT func10 (so sr) o aH
   refine sp (U.bg (U.rg aX (vs 3 (er ?_))));exact D _ (au b) _ _ _ ⟨rfl,rfl,ao cJ⟩
  exact U.bM rfl (U.bq (so sr) (E _ (au b) _ _ _ ⟨rfl,rfl,bN.sub trivial⟩))
 rintro S ab W ap ⟨rfl,rfl,O⟩ b;refine U.sub O (sg aC (vs 1 (er ?_)));cases ax b;exact rT func10 sr o aH
theorem fp(x0:Int)(x1:Int)(x2:Int)  {r:Bool} (b:eC x0 x1 x2=some r):aO ae 47 #[iv x0,iv x1,iv x2] R H (λ v R' H'=>R=R'∧H=H'∧v = .bool r):=by
 unfold eC at b
 refine a2 func47 15 λ fr cs c=>?_;refine sg aC (vs 1 ?_);refine nx eF (vs 4 ?_);refine a4 b ?_ ?_<;>intro d b
 ·refine U.kn 10 d (vs 5 (er ?_));cases ax b;exact rT func47 sr c aH
 refine U.kn 10 d (vs 5 (er ?_));cases ax b;exact rT func47 sr c aH
theorem Pt(x0:an){g i k m o:Value}(c:aa bQ 2 R g x0.Rows)(_:aa bd 2 R i x0.aJ)(_:aa bL 2 R k x0.ay)(_:aa bP 4 R m x0.az)(_:aa bG 3 R o x0.a0){r:Int}(b:sG x0=some r):aO ae 45 #[.agg #[iv x0.Rest,g,i,k,m,o]] R H (λ v R' H'=>R=R'∧H=H'∧v=iv r):=by
 unfold sG at b
 refine a2 func45 62 λ fr cs d=>?_;refine sg aD (bx λ f=>?_);refine vs 1 (es ?_);refine sg bp (vs 1 ?_);refine ld 0 aM z0 ?_;have ⟨bc,ac,b⟩:=af b;refine U.cp fj (fp x0.Rest 0 60  ac) ?_;refine vs 1 (er ?_);refine sc b ?_ ?_<;>intro aR b
 ·refine sg aC (vs 1 (er ?_));cases ax b;exact rT func45 (so sr) d aH
 refine sp (sq (sg bI (vs 1 ?_)));refine ld 1 gV z0 ?_;refine ls c underlying22 ?_;have ⟨be,ad,b⟩:=af b;refine U.cp fj (fp (x0.Rows.length:Int) 1 4  ad) ?_;refine vs 1 (er ?_);refine sc b ?_ ?_<;>intro aS b
 ·refine sg aC (vs 1 (er ?_));cases ax b;exact rT func45 (so sr) d aH
 refine sp (sq (sg aC (vs 1 (er (U.aT ?_)))));refine U.dB b (λ (A:Int) R' H' st'=>R=R'∧H'=(f,.cells #[iv x0.Rest,g,i,k,m,o] 28)::H∧aB st' [(1,pT f),(3,iv A)]) (λ (ah:Unit) R' H' st'=>R=R'∧H=H'∧aB st' []) 0 rfl ⟨rfl,rfl,ao cJ⟩ ?_ ?_;rotate_right
 ·rintro A aq al aY ⟨rfl,rfl,T⟩ bh b C M z;refine U.sub T (sq (sg bI (vs 2 ?_)));refine ld 1 gV z0 ?_;refine ls c underlying22 ?_;refine vs 1 (er ?_);refine sc b ?_ ?_<;>intro aN b
  ·refine sp (sq (U.aT (sg cQ (vs 1 ?_))));refine ld 1 gV z0 ?_;refine vs 1 ?_;have ⟨p,W,b⟩:=af b;obtain ⟨av,aU,_,rfl,N,P⟩:=c.elem ju W;refine cb P ?_;refine U.s rfl rfl (Ox.bH (vs:=[_,_]) rfl rfl jz rfl (N.any.part (j:=0) (n:=2) rfl) rfl (.put rfl) ?_);refine b4 (#[iv 0,iv 0]) wO λ D=>?_;refine ck (#[_,_]) jz .here ?_;refine es (sq (U.du b (λ (K:Bool) R' H' st'=>R=R'∧H'=(D,.cells #[iv p.db,iv p.dr] 79)::(f,.cells #[iv x0.Rest,g,i,k,m,o] 28)::H∧aB st' [(1,pT f),(3,iv A),(4,pT D),(35,.bool K)])  ?_ ?_));rotate_right
   ·intro a5 b E;refine U.rg fS (vs 1 ?_);refine ld 0 aM z0 ?_;have ⟨a6,Y,b⟩:=af b;refine U.cp fj (fp p.db 1 30  Y) ?_;refine vs 2 ?_;refine a4 b ?_ ?_<;>intro F b
    ·refine U.kn 30 F (vs 5 (er ?_));exact E _ (au b) _ _ _ ⟨rfl,rfl,ao bJ⟩
    refine U.kn 30 F (vs 1 ?_);refine ld 1 aM z0 ?_;have ⟨a8,Z,b⟩:=af b;refine U.cp fj (fp p.dr 1 60  Z) ?_;refine vs 2 (er ?_);exact E _ (au b) _ _ _ ⟨rfl,rfl,ao bJ⟩
   rintro K ap ak aW ⟨rfl,rfl,S⟩ b;refine U.sub S (sc b ?_ ?_)<;>intro aP b
   ·refine sg aC (vs 1 (er ?_));replace b:=z _ (au b);cases ax b;exact rT func45 (so (so sr)) d aH
   refine sp (sq (U.dw RU mixed ?_));refine Any.vs 3 [0,1,2] rfl (a4 b ?_ ?_)<;>intro G b
   ·refine Any.cx (t:=38) rfl G (Any.vs 1 [3] rfl (tl 4 0 aM z0 ?_));refine Any.vs 1 [5] rfl (tl 6 1 gV z1 ?_);refine Any.vs 2 [7,8] rfl ?_;have ⟨a9,J,b⟩:=af b;refine a4 b ?_ ?_<;>intro I b
    ·obtain ⟨L,ag,_,rfl,w,y⟩:=c.elem ju J;refine tQ 9 rfl (kI y) ?_;refine Any.vs 1 [10] rfl (tQ 11 rfl (kU aM 0 w) ?_);refine Any.vs 2 [12,13] rfl (Any.cx (t:=49) rfl I (Any.vs 12 [14,15,16,17,18,19,20,21,22,23,24,25] rfl (Any.done (U.cond_true rfl ?_))));refine sg aC (vs 1 (er ?_));replace b:=z _ (au b);cases ax b;exact rT func45 (so (so sr)) d aH
    have ⟨bb,ab,b⟩:=af b;obtain ⟨L,ag,_,rfl,w,y⟩:=c.elem ju J;refine tQ 9 rfl (kI y) ?_;refine Any.vs 1 [10] rfl (tQ 11 rfl (kU aM 0 w) ?_);refine Any.vs 2 [12,13] rfl (Any.cx (t:=49) rfl I (Any.vs 1 [14] rfl (tl 15 1 aM z0 ?_)));refine Any.vs 1 [16] rfl (tl 17 1 gV z1 ?_);refine Any.vs 2 [18,19] rfl ?_;obtain ⟨aw,aV,_,rfl,O,Q⟩:=c.elem ju ab;refine tQ 20 rfl (kI Q) ?_;refine Any.vs 1 [21] rfl (tQ 22 rfl (kU aM 1 O) ?_);refine Any.vs 3 [23,24,25] rfl (Any.done (sc b ?_ ?_))<;>intro aQ b
    ·refine sg aC (vs 1 (er ?_));replace b:=z _ (au b);cases ax b;exact rT func45 (so (so sr)) d aH
    refine sp (U.bg (U.rg aX (vs 3 (er ?_))));exact U.bq (so sr) (C _ (au b) _ _ _ ⟨rfl,rfl,ao cJ⟩)
   refine Any.cx (t:=38) rfl G (Any.vs 23 [3,4,5,6,7,8,9,10,11,12,13,14,15,16,17,18,19,20,21,22,23,24,25] rfl (Any.done (U.cond_false rfl ?_)));refine sp (U.bg (U.rg aX (vs 3 (er ?_))));exact U.bq (so sr) (C _ (au b) _ _ _ ⟨rfl,rfl,ao cJ⟩)
  exact U.bM rfl (U.bq (so sr) (M _ (au b) _ _ _ ⟨rfl,rfl,bN.sub trivial⟩))
 rintro ah ar am a1 ⟨rfl,rfl,V⟩ b;refine U.sub V (sg aC (vs 1 (er ?_)));cases ax b;exact rT func45 sr d aH
theorem EE(x0:Reach)(x1:Int)(x2:Int)  {r:Bool} (b:l5 x0 x1 x2=some r):aO ae 49 #[.agg #[iv x0.aZ,iv x0.bh],iv x1,iv x2] R H (λ v R' H'=>R=R'∧H=H'∧v = .bool r):=by
 unfold l5 at b
 refine a2 func49 24 λ fr cs c=>?_;refine sg aD (bx λ g=>?_);refine vs 1 ?_;refine nx zE (vs 2 ?_);refine ld 0 aM z0 ?_;refine vs 2 ?_;refine a4 b ?_ ?_<;>intro d b
 ·refine U.kn 11 d (vs 1 ?_);refine ld 0 aM z0 ?_;refine vs 1 ?_;refine ld 1 aM z0 ?_;refine vs 3 ?_;refine a4 b ?_ ?_<;>intro f b
  ·refine U.kn 18 f (vs 1 ?_);refine ld 1 aM z0 ?_;refine vs 4 (er ?_);cases ax b;exact rT func49 (so sr) c aH
  refine U.kn 18 f (vs 6 (er ?_));cases ax b;exact rT func49 (so sr) c aH
 refine U.kn 11 d (vs 13 (er ?_));cases ax b;exact rT func49 (so sr) c aH
theorem Ee(x0:Int)  {r:Bool} (b:oJ x0=some r):aO ae 140 #[.int .u8 x0] R H (λ v R' H'=>R=R'∧H=H'∧v = .bool r):=by
 unfold oJ at b
 refine a2 func140 6 λ fr cs c=>?_;refine sg aC (vs 1 ?_);refine nx bp (vs 1 ?_);refine nC underlying5 underlying3 ?_;have ⟨f,d,b⟩:=af b;refine U.cp fj (fp (i64 x0) 97 122  d) ?_;refine vs 1 (er ?_);cases ax b;exact rT func140 sr c aH
theorem Ow(x0:Int)  {r:Bool} (b:qc x0=some r):aO ae 141 #[.int .u8 x0] R H (λ v R' H'=>R=R'∧H=H'∧v = .bool r):=by
 unfold qc at b
 refine a2 func141 6 λ fr cs c=>?_;refine sg aC (vs 1 ?_);refine nx bp (vs 1 ?_);refine nC underlying5 underlying3 ?_;have ⟨f,d,b⟩:=af b;refine U.cp fj (fp (i64 x0) 48 57  d) ?_;refine vs 1 (er ?_);cases ax b;exact rT func141 sr c aH
theorem NP(x0:ByteArray)  {r:Bool} (b:sb x0=some r):aO ae 103 #[.string x0] R H (λ v R' H'=>R=R'∧H=H'∧v = .bool r):=by
 unfold sb at b
 refine a2 func103 32 λ fr cs c=>?_;refine sg aC (vs 1 (es (sq ?_)));refine U.du b (λ (j:Bool) R' H' st'=>R=R'∧H=H'∧aB st' [(0,.string x0),(13,.bool j)])  ?_ ?_;rotate_right
 ·intro ab b f;refine U.rg fS (vs 1 ?_);refine U.s rfl rfl (Ox.uV rfl rfl underlying9 rfl (.put rfl) ?_);have ⟨ac,w,b⟩:=af b;refine U.cp fj (fp (x0.size:Int) 1 12  w) ?_;refine vs 2 ?_;refine a4 b ?_ ?_<;>intro g b
  ·refine U.kn 8 g (vs 5 (er ?_));exact f _ (au b) _ _ _ ⟨rfl,rfl,ao cJ⟩
  refine U.kn 8 g (vs 1 ?_);have ⟨I,y,b⟩:=af b;refine U.s rfl rfl (Ox.uO rfl rfl rfl underlying9 y rfl (.put rfl) ?_);have ⟨ad,z,b⟩:=af b;refine U.cp Cl (Ee I  z) ?_;refine vs 2 (er ?_);exact f _ (au b) _ _ _ ⟨rfl,rfl,ao cJ⟩
 rintro j O L W ⟨rfl,rfl,n⟩ b;refine U.sub n (sc b ?_ ?_)<;>intro S b
 ·refine sg aC (vs 1 (er ?_));cases ax b;exact rT func103 sr c aH
 refine sp (sq (sg aC (vs 1 (er (U.aT ?_)))));refine U.dB b (λ (k:Int) R' H' st'=>R=R'∧H=H'∧aB st' [(0,.string x0),(3,iv k)]) (λ (G:Unit) R' H' st'=>R=R'∧H=H'∧aB st' []) 0 rfl ⟨rfl,rfl,ao cJ⟩ ?_ ?_;rotate_right
 ·rintro k P M Y ⟨rfl,rfl,o⟩ ag b d m F;refine U.sub o (sq (sg bp (vs 2 ?_)));refine U.s rfl rfl (Ox.uV rfl rfl underlying9 rfl (.put rfl) ?_);refine vs 1 (er ?_);refine sc b ?_ ?_<;>intro T b
  ·refine sp (sq (U.aT (sg nL (vs 2 ?_))));have ⟨J,A,b⟩:=af b;refine U.s rfl rfl (Ox.uO rfl rfl rfl underlying9 A rfl (.put rfl) ?_);have ⟨ah,C,b⟩:=af b;refine U.cp Cl (Ee J  C) ?_;refine vs 2 ?_;refine a4 b ?_ ?_<;>intro i b
   ·refine U.kn 25 i (vs 2 ?_);have ⟨K,D,b⟩:=af b;refine U.s rfl rfl (Ox.uO rfl rfl rfl underlying9 D rfl (.put rfl) ?_);have ⟨ak,E,b⟩:=af b;refine U.cp Jg (Ow K  E) ?_;refine vs 2 (er ?_);refine sc b ?_ ?_<;>intro V b
    ·refine sg aC (vs 1 (er ?_));replace b:=F _ (au b);cases ax b;exact rT func103 sr c aH
    refine sp (U.bg (U.rg aX (vs 3 (er ?_))));exact d _ (au b) _ _ _ ⟨rfl,rfl,ao cJ⟩
   refine U.kn 25 i (vs 6 (er ?_));refine U.cond_false rfl ?_;refine sp (U.bg (U.rg aX (vs 3 (er ?_))));exact d _ (au b) _ _ _ ⟨rfl,rfl,ao cJ⟩
  exact U.bM rfl (m _ (au b) _ _ _ ⟨rfl,rfl,bN.sub trivial⟩)
 rintro G Q N Z ⟨rfl,rfl,p⟩ b;refine U.sub p (sg aC (vs 1 (er ?_)));cases ax b;exact rT func103 sr c aH
theorem Pv(x0:an){f g i k m:Value}(_:aa bQ 2 R f x0.Rows)(w:aa bd 2 R g x0.aJ)(o:aa bL 2 R i x0.ay)(_:aa bP 4 R k x0.az)(_:aa bG 3 R m x0.a0){r:Int}(b:sH x0=some r):aO ae 46 #[.agg #[iv x0.Rest,f,g,i,k,m]] R H (λ v R' H'=>R=R'∧H=H'∧v=iv r):=by
 unfold sH at b
 refine a2 func46 81 λ fr cs d=>?_;refine sg aD (bx λ c=>?_);refine vs 1 (es ?_);refine sg bI (vs 1 ?_);refine ld 2 da z0 ?_;refine ls w underlying23 ?_;have ⟨b1,ah,b⟩:=af b;refine U.cp fj (fp (x0.aJ.length:Int) 1 3  ah) ?_;refine vs 1 (er ?_);refine sc b ?_ ?_<;>intro bu b
 ·refine sg aC (vs 1 (er ?_));cases ax b;exact rT func46 (so sr) d aH
 refine sp (sq (sg aC (vs 1 (er (U.aT ?_)))));refine U.dB b (λ (C:Int) R' H' st'=>R=R'∧H'=(c,.cells #[iv x0.Rest,f,g,i,k,m] 28)::H∧aB st' [(1,pT c),(3,iv C)]) (λ (aI:Unit) R' H' st'=>R=R'∧H'=(c,.cells #[iv x0.Rest,f,g,i,k,m] 28)::H∧aB st' [(1,pT c)]) 0 rfl ⟨rfl,rfl,ao cJ⟩ ?_ ?_;rotate_right
 ·rintro C a5 aS bV ⟨rfl,rfl,Y⟩ b2 b E I A;refine U.sub Y (sq (sg bI (vs 2 ?_)));refine ld 2 da z0 ?_;refine ls w underlying23 ?_;refine vs 1 (er ?_);refine sc b ?_ ?_<;>intro bv b
  ·refine sp (sq (U.aT (sg cQ (vs 1 ?_))));refine ld 2 da z0 ?_;refine vs 1 ?_;have ⟨aP,ak,b⟩:=af b;obtain ⟨bh,bJ,_,rfl,L,Q⟩:=w.elem jW ak;refine cb Q ?_;refine U.s rfl rfl (Ox.bH (vs:=[_,_]) rfl rfl e6 rfl (L.any.part (j:=0) (n:=2) rfl) rfl (.put rfl) ?_);refine b4 (#[iv 0,iv 0]) mJ λ be=>?_;refine ck (#[_,_]) e6 .here ?_;refine nx jo (lN [_,_] 0 2 e6 z0 ?_);have ⟨b3,al,b⟩:=af b;refine U.cp CC (EE aP 1 30  al) ?_;refine vs 2 ?_;refine a4 b ?_ ?_<;>intro z b
   ·refine U.kn 27 z (vs 7 (er ?_));refine U.cond_true rfl ?_;refine sg aC (vs 1 (er ?_));replace b:=A _ (au b);cases ax b;exact rT func46 (so (so sr)) d aH
   refine U.kn 27 z (vs 1 ?_);refine ld 1 aM z0 ?_;refine vs 1 ?_;refine ld 0 aM z0 ?_;refine vs 3 (er ?_);refine sc b ?_ ?_<;>intro bw b
   ·refine sg aC (vs 1 (er ?_));replace b:=A _ (au b);cases ax b;exact rT func46 (so (so sr)) d aH
   refine sp (U.bg (U.rg aX (vs 3 (er ?_))));exact U.bq (so sr) (E _ (au b) _ _ _ ⟨rfl,rfl,ao cJ⟩)
  exact U.bM rfl (I _ (au b) _ _ _ ⟨rfl,rfl,ao gn⟩)
 rintro aI a6 aU bW ⟨rfl,rfl,Z⟩ b;refine U.sub Z (sq (sg bI (vs 1 ?_)));refine ld 3 fR z0 ?_;refine ls o underlying24 ?_;have ⟨b5,am,b⟩:=af b;refine U.cp fj (fp (x0.ay.length:Int) 1 4  am) ?_;refine vs 1 (er ?_);refine sc b ?_ ?_<;>intro bz b
 ·refine sg aC (vs 1 (er ?_));cases ax b;exact rT func46 (so sr) d aH
 refine sp (sq (sg aC (vs 1 (er (U.aT ?_)))));refine U.dB b (λ (p:Int) R' H' st'=>R=R'∧H'=(c,.cells #[iv x0.Rest,f,g,i,k,m] 28)::H∧aB st' [(1,pT c),(5,iv p)]) (λ (aK:Unit) R' H' st'=>R=R'∧H=H'∧aB st' []) 2 rfl ⟨rfl,rfl,ao cJ⟩ ?_ ?_;rotate_right
 ·rintro p a8 aV bX ⟨rfl,rfl,ab⟩ b6 b F J y;refine U.sub ab (sq (sg bI (vs 2 ?_)));refine ld 3 fR z0 ?_;refine ls o underlying24 ?_;refine vs 1 (er ?_);refine sc b ?_ ?_<;>intro bA b
  ·refine sp (sq (U.aT (sq (sg dx (vs 1 ?_)))));refine ld 3 fR z0 ?_;refine vs 1 ?_;have ⟨aQ,ap,b⟩:=af b;have ⟨b7,aq,b⟩:=af b;obtain ⟨bi,bK,_,rfl,M,S⟩:=o.elem lJ ap;refine cb S ?_;refine vs 1 ?_;refine U.ld pn (M.any.one (j:=0) rfl) ?_;refine U.cp IK (NP aQ.Name  aq) ?_;refine vs 1 (er ?_);refine sc b ?_ ?_<;>intro bB b
   ·refine sg aC (vs 1 (er ?_));replace b:=y _ (au b);cases ax b;exact rT func46 (so sr) d aH
   refine sp (sq (sg aC (vs 1 (er (U.aT ?_)))));refine U.dB b (λ (D:Int) R' H' st'=>R=R'∧H'=(c,.cells #[iv x0.Rest,f,g,i,k,m] 28)::H∧aB st' [(1,pT c),(5,iv p),(6,iv D)]) (λ (aN:Unit) R' H' st'=>R=R'∧H'=(c,.cells #[iv x0.Rest,f,g,i,k,m] 28)::H∧aB st' [(1,pT c),(5,iv p)]) 4 rfl ⟨rfl,rfl,ao cn⟩ ?_ ?_;rotate_right
   ·rintro D bb aY bZ ⟨rfl,rfl,ad⟩ b8 b G K aG;refine U.sub ad (sq (sg aX (vs 3 (er ?_))));refine sc b ?_ ?_<;>intro bC b
    ·refine sp (sq (U.aT (sq (U.dw zD mixed ?_))));refine Any.vs 1 [0] rfl (tl 1 3 fR z0 ?_);refine Any.vs 1 [2] rfl ?_;have ⟨b9,ar,b⟩:=af b;have ⟨ca,av,b⟩:=af b;obtain ⟨bk,bO,_,rfl,N,T⟩:=o.elem lJ ar;refine tQ 3 rfl (kI T) ?_;refine Any.vs 1 [4] rfl (tQ 5 rfl (kU pn 0 N) ?_);refine Any.vs 1 [6] rfl (tl 7 3 fR z0 ?_);refine Any.vs 1 [8] rfl ?_;obtain ⟨bl,bT,_,rfl,O,V⟩:=o.elem lJ av;refine tQ 9 rfl (kI V) ?_;refine Any.vs 1 [10] rfl (tQ 11 rfl (kU pn 0 O) ?_);refine Any.tk 12 rfl pp (λ R' H' br bs=>Ox.BV rfl rfl rfl rfl rfl (.one rfl) aH) ?_;refine Any.done (sc b ?_ ?_)<;>intro bD b
     ·refine sg aC (vs 1 (er ?_));replace b:=aG _ (au b);replace b:=y _ (au b);cases ax b;exact rT func46 (so sr) d aH
     refine sp (U.bg (U.rg aX (vs 3 (er ?_))));exact G _ (au b) _ _ _ ⟨rfl,rfl,ao cn⟩
    exact U.bM rfl (K _ (au b) _ _ _ ⟨rfl,rfl,ao cJ⟩)
   rintro aN bc a1 b0 ⟨rfl,rfl,ag⟩ b;refine U.sub ag (sg dx (vs 1 ?_));refine ld 3 fR z0 ?_;refine vs 1 ?_;have ⟨aR,aw,b⟩:=af b;have ⟨cc,aE,b⟩:=af b;obtain ⟨bm,bU,_,rfl,P,W⟩:=o.elem lJ aw;refine cb W ?_;refine vs 1 ?_;refine U.ld aM (P.any.one (j:=1) rfl) ?_;refine U.cp fj (fp aR.hH 1 30  aE) ?_;refine vs 1 (er ?_);refine sc b ?_ ?_<;>intro bF b
   ·refine sg aC (vs 1 (er ?_));replace b:=y _ (au b);cases ax b;exact rT func46 (so sr) d aH
   refine sp (U.bg (U.rg aX (vs 3 (er ?_))));exact F _ (au b) _ _ _ ⟨rfl,rfl,ao cJ⟩
  exact U.bM rfl (U.bq (so sr) (J _ (au b) _ _ _ ⟨rfl,rfl,bN.sub trivial⟩))
 rintro aK a9 aW bY ⟨rfl,rfl,ac⟩ b;refine U.sub ac (sg aC (vs 1 (er ?_)));cases ax b;exact rT func46 sr d aH
theorem ED(x0:an)(x1:Int){c d f g i:Value}(_:aa bQ 2 R c x0.Rows)(j:aa bd 2 R d x0.aJ)(_:aa bL 2 R f x0.ay)(_:aa bP 4 R g x0.az)(_:aa bG 3 R i x0.a0){r:Bool}(b:qt x0 x1=some r):aO ae 48 #[.agg #[iv x0.Rest,c,d,f,g,i],iv x1] R H (λ v R' H'=>R=R'∧H=H'∧v = .bool r):=by
 unfold qt at b
 refine a2 func48 11 λ fr cs k=>?_;refine sg aD (bx λ n=>?_);refine vs 1 ?_;refine nx cQ (vs 2 ?_);refine ld 2 da z0 ?_;refine ls j underlying23 ?_;refine vs 1 ?_;have ⟨y,m,b⟩:=af b;refine U.cp fj (fp x1 0 (i64 ((x0.aJ.length:Int) - 1))  m) ?_;refine vs 1 (er ?_);cases ax b;exact rT func48 (so sr) k aH
theorem yS(x0:an){i k m o p:Value}(w:aa bQ 2 R i x0.Rows)(y:aa bd 2 R k x0.aJ)(z:aa bL 2 R m x0.ay)(f:aa bP 4 R o x0.az)(d:aa bG 3 R p x0.a0){r:Int}(b:oG x0=some r):aO ae 11 #[.agg #[iv x0.Rest,i,k,m,o,p]] R H (λ v R' H'=>R=R'∧H=H'∧v=iv r):=by
 unfold oG at b
 refine a2 func11 84 λ fr cs c=>?_;refine sg aD (bx λ g=>?_);refine vs 1 (es ?_);refine sg aX (lN [_,_,_,_,_,_] 0 6 bF z0 ?_);have ⟨bw,ab,b⟩:=af b;refine U.cp JX (Pt x0 w y z f d ab) ?_;refine vs 1 ?_;refine nx aD (vs 2 (er ?_));refine sc b ?_ ?_<;>intro a6 b
 ·refine sg aD (vs 2 (er ?_));cases ax b;exact rT func11 (so sr) c aH
 refine sp (sq (sg aX (lN [_,_,_,_,_,_] 0 6 bF z0 ?_)));have ⟨bz,ac,b⟩:=af b;refine U.cp JY (Pv x0 w y z f d ac) ?_;refine vs 1 ?_;refine nx aD (vs 2 (er ?_));refine sc b ?_ ?_<;>intro a8 b
 ·refine sg aD (vs 2 (er ?_));cases ax b;exact rT func11 (so sr) c aH
 refine sp (sq (sg bI (vs 1 ?_)));refine ld 4 fu z0 ?_;refine ls f underlying25 ?_;have ⟨bA,ad,b⟩:=af b;refine U.cp fj (fp (x0.az.length:Int) 1 4  ad) ?_;refine vs 1 (er ?_);refine sc b ?_ ?_<;>intro a9 b
 ·refine sg aC (vs 1 (er ?_));cases ax b;exact rT func11 (so sr) c aH
 refine sp (sq (sg aC (vs 1 (er (U.aT ?_)))));refine U.dB b (λ (G:Int) R' H' st'=>R=R'∧H'=(g,.cells #[iv x0.Rest,i,k,m,o,p] 28)::H∧aB st' [(1,pT g),(5,iv G)]) (λ (aw:Unit) R' H' st'=>R=R'∧H'=(g,.cells #[iv x0.Rest,i,k,m,o,p] 28)::H∧aB st' [(1,pT g)]) 0 rfl ⟨rfl,rfl,ao cJ⟩ ?_ ?_;rotate_right
 ·rintro G aR aK br ⟨rfl,rfl,V⟩ bB b J L A;refine U.sub V (sq (sg bI (vs 2 ?_)));refine ld 4 fu z0 ?_;refine ls f underlying25 ?_;refine vs 1 (er ?_);refine sc b ?_ ?_<;>intro bb b
  ·refine sp (sq (U.aT (sg cQ (vs 1 ?_))));refine ld 4 fu z0 ?_;refine vs 1 ?_;have ⟨C,ag,b⟩:=af b;obtain ⟨aY,bm,_,rfl,N,Q⟩:=f.elem nR ag;refine cb Q ?_;refine U.s rfl rfl (Ox.bH (vs:=[_,_,_,_]) rfl rfl ic rfl (N.any.part (j:=0) (n:=4) rfl) rfl (.put rfl) ?_);refine b4 (#[iv 0,iv 0,iv 0,iv 0]) nZ λ aW=>?_;refine ck (#[_,_,_,_]) ic .here ?_;refine es (sg bI (lN [_,_,_,_,_,_] 0 6 bF z1 ?_));refine vs 1 ?_;refine ld 0 aM z0 ?_;have ⟨bC,ah,b⟩:=af b;refine U.cp CA (ED x0 C.Place w y z f d ah) ?_;refine vs 1 (er ?_);refine sc b ?_ ?_<;>intro bc b
   ·refine sg aC (vs 1 (er ?_));replace b:=A _ (au b);cases ax b;exact rT func11 (so (so sr)) c aH
   refine sp (sg qQ (vs 1 ?_));refine ld 1 aM z0 ?_;have ⟨bD,ak,b⟩:=af b;refine U.cp fj (fp C.fH 0 200  ak) ?_;refine vs 2 ?_;refine a4 b ?_ ?_<;>intro D b
   ·refine U.kn 44 D (vs 11 (er ?_));refine U.cond_true rfl ?_;refine sg aC (vs 1 (er ?_));replace b:=A _ (au b);cases ax b;exact rT func11 (so (so sr)) c aH
   refine U.kn 44 D (vs 1 ?_);refine ld 2 aM z0 ?_;have ⟨bJ,al,b⟩:=af b;refine U.cp fj (fp C.eN 1 60  al) ?_;refine vs 3 ?_;refine a4 b ?_ ?_<;>intro E b
   ·refine U.kn 50 E (vs 5 (er ?_));refine U.cond_true rfl ?_;refine sg aC (vs 1 (er ?_));replace b:=A _ (au b);cases ax b;exact rT func11 (so (so sr)) c aH
   refine U.kn 50 E (vs 1 ?_);refine ld 3 aM z0 ?_;have ⟨bK,am,b⟩:=af b;refine U.cp fj (fp C.ay 1 3  am) ?_;refine vs 2 (er ?_);refine sc b ?_ ?_<;>intro be b
   ·refine sg aC (vs 1 (er ?_));replace b:=A _ (au b);cases ax b;exact rT func11 (so (so sr)) c aH
   refine sp (U.bg (U.rg aX (vs 3 (er ?_))));exact U.bq (so sr) (J _ (au b) _ _ _ ⟨rfl,rfl,ao cJ⟩)
  exact U.bM rfl (L _ (au b) _ _ _ ⟨rfl,rfl,ao gn⟩)
 rintro aw aS aN bs ⟨rfl,rfl,W⟩ b;refine U.sub W (sq (sg bp (vs 1 ?_)));refine ld 5 gW z0 ?_;refine ls d underlying26 ?_;refine vs 1 (er ?_);refine sc b ?_ ?_<;>intro bh b
 ·refine sg aC (vs 1 (er ?_));cases ax b;exact rT func11 (so sr) c aH
 refine sp (sq (sg aC (vs 1 (er (U.aT ?_)))));refine U.dB b (λ (I:Int) R' H' st'=>R=R'∧H'=(g,.cells #[iv x0.Rest,i,k,m,o,p] 28)::H∧aB st' [(1,pT g),(7,iv I)]) (λ (aE:Unit) R' H' st'=>R=R'∧H=H'∧aB st' []) 2 rfl ⟨rfl,rfl,ao cJ⟩ ?_ ?_;rotate_right
 ·rintro I aU aP bu ⟨rfl,rfl,Y⟩ bO b K M F;refine U.sub Y (sq (sg bI (vs 2 ?_)));refine ld 5 gW z0 ?_;refine ls d underlying26 ?_;refine vs 1 (er ?_);refine sc b ?_ ?_<;>intro bi b
  ·refine sp (sq (U.aT (sq (sq (U.dw eF mixed ?_)))));refine tN 0 [_,_,_,_,_,_] 0 6 bF z0 ?_;refine Any.vs 1 [1] rfl (tl 2 5 gW z0 ?_);refine Any.vs 1 [3] rfl ?_;have ⟨aG,ap,b⟩:=af b;have ⟨bT,aq,b⟩:=af b;obtain ⟨a1,bn,_,rfl,O,S⟩:=d.elem tc ap;refine tQ 4 rfl (kI S) ?_;refine Any.vs 1 [5] rfl (tQ 6 rfl (kU aM 0 O) ?_);refine Any.cp 7 CA (ED x0 aG.Place w y z f d aq) ?_;refine Any.vs 1 [8] rfl (Any.done (sc b ?_ ?_))<;>intro bk b
   ·refine sg aC (vs 1 (er ?_));replace b:=F _ (au b);cases ax b;exact rT func11 (so sr) c aH
   refine sp (sg dx (vs 1 ?_));refine ld 5 gW z0 ?_;refine vs 1 ?_;have ⟨aI,ar,b⟩:=af b;have ⟨bU,av,b⟩:=af b;obtain ⟨a5,bo,_,rfl,P,T⟩:=d.elem tc ar;refine cb T ?_;refine vs 1 ?_;refine U.ld aM (P.any.one (j:=1) rfl) ?_;refine U.cp fj (fp aI.g3 0 30  av) ?_;refine vs 1 (er ?_);refine sc b ?_ ?_<;>intro bl b
   ·refine sg aC (vs 1 (er ?_));replace b:=F _ (au b);cases ax b;exact rT func11 (so sr) c aH
   refine sp (U.bg (U.rg aX (vs 3 (er ?_))));exact K _ (au b) _ _ _ ⟨rfl,rfl,ao cJ⟩
  exact U.bM rfl (U.bq (so sr) (M _ (au b) _ _ _ ⟨rfl,rfl,bN.sub trivial⟩))
 rintro aE aV aQ bv ⟨rfl,rfl,Z⟩ b;refine U.sub Z (sg aC (vs 1 (er ?_)));cases ax b;exact rT func11 sr c aH
theorem Py(x0:an){m n o p s:Value}(c:aa bQ 2 R m x0.Rows)(d:aa bd 2 R n x0.aJ)(f:aa bL 2 R o x0.ay)(g:aa bP 4 R p x0.az)(i:aa bG 3 R s x0.a0){r:Bool}(b:m4 x0=some r):aO ae 4 #[.agg #[iv x0.Rest,m,n,o,p,s]] R H (λ v R' H'=>R=R'∧H=H'∧v = .bool r):=by
 unfold m4 at b
 refine a2 func4 11 λ fr cs j=>?_;refine sg aD (bx λ z=>?_);refine vs 1 ?_;refine nx eF (lN [_,_,_,_,_,_] 0 6 bF z0 ?_);have ⟨A,w,b⟩:=af b;refine U.cp II (NW x0 c d f g i w) ?_;refine vs 2 ?_;refine a4 b ?_ ?_<;>intro k b
 ·refine U.kn 6 k (lN [_,_,_,_,_,_] 0 6 bF z0 ?_);have ⟨C,y,b⟩:=af b;refine U.cp xZ (yS x0 c d f g i y) ?_;refine vs 3 (er ?_);cases ax b;exact rT func4 (so sr) j aH
 refine U.kn 6 k (vs 5 (er ?_));cases ax b;exact rT func4 (so sr) j aH
theorem Oa(x0:bC){f g:Value}(i:aa bd 2 R f x0.a9)(j:aa ed 5 R g x0.bz){r:Bool}(b:u3 x0=some r):aO ae 12 #[.agg #[iv x0.bK,iv x0.bV,iv x0.b8,f,g]] R H (λ v R' H'=>R=R'∧H=H'∧v = .bool r):=by
 unfold u3 at b
 refine a2 func12 13 λ fr cs c=>?_;refine sg aD (bx λ k=>?_);refine vs 1 ?_;refine nx jo (vs 1 ?_);refine ld 3 da z0 ?_;refine ls i underlying23 ?_;refine vs 2 ?_;refine a4 b ?_ ?_<;>intro d b
 ·refine U.kn 7 d (vs 6 (er ?_));cases ax b;exact rT func12 (so sr) c aH
 refine U.kn 7 d (vs 1 ?_);refine ld 4 kQ z0 ?_;refine ls j underlying29 ?_;refine vs 3 (er ?_);cases ax b;exact rT func12 (so sr) c aH
theorem Pz(x0:fG)  {r:Bool} (b:qu x0=some r):aO ae 50 #[.agg #[iv x0.bR,iv x0.bS]] R H (λ v R' H'=>R=R'∧H=H'∧v = .bool r):=by
 unfold qu at b
 refine a2 func50 11 λ fr cs c=>?_;refine sg aD (bx λ i=>?_);refine vs 1 ?_;refine nx eF (vs 1 ?_);refine ld 0 aM z0 ?_;have ⟨j,f,b⟩:=af b;refine U.cp fj (fp x0.bR (-20) 20  f) ?_;refine vs 1 ?_;refine a4 b ?_ ?_<;>intro d b
 ·refine U.kn 6 d (vs 1 ?_);refine ld 1 aM z0 ?_;have ⟨k,g,b⟩:=af b;refine U.cp fj (fp x0.bS (-20) 20  g) ?_;refine vs 2 (er ?_);cases ax b;exact rT func50 (so sr) c aH
 refine U.kn 6 d (vs 5 (er ?_));cases ax b;exact rT func50 (so sr) c aH
theorem PA(x0:bC)(x1:Int){c d:Value}(f:aa bd 2 R c x0.a9)(_:aa ed 5 R d x0.bz){r:Bool}(b:qw x0 x1=some r):aO ae 51 #[.agg #[iv x0.bK,iv x0.bV,iv x0.b8,c,d],iv x1] R H (λ v R' H'=>R=R'∧H=H'∧v = .bool r):=by
 unfold qw at b
 refine a2 func51 11 λ fr cs g=>?_;refine sg aD (bx λ j=>?_);refine vs 1 ?_;refine nx cQ (vs 2 ?_);refine ld 3 da z0 ?_;refine ls f underlying23 ?_;refine vs 1 ?_;have ⟨m,i,b⟩:=af b;refine U.cp fj (fp x1 0 (i64 ((x0.a9.length:Int) - 1))  i) ?_;refine vs 1 (er ?_);cases ax b;exact rT func51 (so sr) g aH
theorem Ou(x0:bC){g i:Value}(k:aa bd 2 R g x0.a9)(m:aa ed 5 R i x0.bz){r:Int}(b:u4 x0=some r):aO ae 13 #[.agg #[iv x0.bK,iv x0.bV,iv x0.b8,g,i]] R H (λ v R' H'=>R=R'∧H=H'∧v=iv r):=by
 unfold u4 at b
 refine a2 func13 82 λ fr cs d=>?_;refine sg aD (bx λ c=>?_);refine vs 1 (es (sq ?_));refine U.du b (λ (G:Bool) R' H' st'=>R=R'∧H'=(c,.cells #[iv x0.bK,iv x0.bV,iv x0.b8,g,i] 31)::H∧aB st' [(1,pT c),(22,.bool G)])  ?_ ?_;rotate_right
 ·intro br b o;refine U.rg qQ (vs 1 ?_);refine ld 0 aM z0 ?_;have ⟨bs,ac,b⟩:=af b;refine U.cp fj (fp x0.bK 2 7  ac) ?_;refine vs 2 ?_;refine a4 b ?_ ?_<;>intro z b
  ·refine U.kn 11 z (vs 11 (er ?_));exact o _ (au b) _ _ _ ⟨rfl,rfl,ao cJ⟩
  refine U.kn 11 z (vs 1 ?_);refine ld 1 aM z0 ?_;have ⟨bu,ad,b⟩:=af b;refine U.cp fj (fp x0.bV 2 7  ad) ?_;refine vs 3 ?_;refine a4 b ?_ ?_<;>intro A b
  ·refine U.kn 17 A (vs 5 (er ?_));exact o _ (au b) _ _ _ ⟨rfl,rfl,ao cJ⟩
  refine U.kn 17 A (vs 1 ?_);refine ld 2 aM z0 ?_;have ⟨bv,ag,b⟩:=af b;refine U.cp fj (fp x0.b8 0 2  ag) ?_;refine vs 2 (er ?_);exact o _ (au b) _ _ _ ⟨rfl,rfl,ao cJ⟩
 rintro G aK ay bi ⟨rfl,rfl,T⟩ b;refine U.sub T (sc b ?_ ?_)<;>intro aY b
 ·refine sg aC (vs 1 (er ?_));cases ax b;exact rT func13 (so sr) d aH
 refine sp (sq (sg bI (vs 1 ?_)));refine ld 3 da z0 ?_;refine ls k underlying23 ?_;have ⟨bw,ah,b⟩:=af b;refine U.cp fj (fp (x0.a9.length:Int) 1 3  ah) ?_;refine vs 1 (er ?_);refine sc b ?_ ?_<;>intro a0 b
 ·refine sg aC (vs 1 (er ?_));cases ax b;exact rT func13 (so sr) d aH
 refine sp (sq (sg aC (vs 1 (er (U.aT ?_)))));refine U.dB b (λ (J:Int) R' H' st'=>R=R'∧H'=(c,.cells #[iv x0.bK,iv x0.bV,iv x0.b8,g,i] 31)::H∧aB st' [(1,pT c),(3,iv J)]) (λ (ar:Unit) R' H' st'=>R=R'∧H'=(c,.cells #[iv x0.bK,iv x0.bV,iv x0.b8,g,i] 31)::H∧aB st' [(1,pT c)]) 0 rfl ⟨rfl,rfl,ao cJ⟩ ?_ ?_;rotate_right
 ·rintro J aN az bk ⟨rfl,rfl,V⟩ bA b K M E;refine U.sub V (sq (sg bI (vs 2 ?_)));refine ld 3 da z0 ?_;refine ls k underlying23 ?_;refine vs 1 (er ?_);refine sc b ?_ ?_<;>intro a1 b
  ·refine sp (sq (U.aT (sg cQ (vs 1 ?_))));refine ld 3 da z0 ?_;refine vs 1 ?_;have ⟨aw,ak,b⟩:=af b;obtain ⟨aV,be,_,rfl,O,Q⟩:=k.elem jW ak;refine cb Q ?_;refine U.s rfl rfl (Ox.bH (vs:=[_,_]) rfl rfl e6 rfl (O.any.part (j:=0) (n:=2) rfl) rfl (.put rfl) ?_);refine b4 (#[iv 0,iv 0]) mJ λ aU=>?_;refine ck (#[_,_]) e6 .here ?_;refine nx jo (lN [_,_] 0 2 e6 z0 ?_);have ⟨bB,al,b⟩:=af b;refine U.cp CC (EE aw (-3) 3  al) ?_;refine vs 2 ?_;refine a4 b ?_ ?_<;>intro C b
   ·refine U.kn 43 C (vs 7 (er ?_));refine U.cond_true rfl ?_;refine sg aC (vs 1 (er ?_));replace b:=E _ (au b);cases ax b;exact rT func13 (so (so sr)) d aH
   refine U.kn 43 C (vs 1 ?_);refine ld 1 aM z0 ?_;refine vs 1 ?_;refine ld 0 aM z0 ?_;refine vs 3 (er ?_);refine sc b ?_ ?_<;>intro a5 b
   ·refine sg aC (vs 1 (er ?_));replace b:=E _ (au b);cases ax b;exact rT func13 (so (so sr)) d aH
   refine sp (U.bg (U.rg aX (vs 3 (er ?_))));exact U.bq (so sr) (K _ (au b) _ _ _ ⟨rfl,rfl,ao cJ⟩)
  exact U.bM rfl (M _ (au b) _ _ _ ⟨rfl,rfl,ao gn⟩)
 rintro ar aP aE bl ⟨rfl,rfl,W⟩ b;refine U.sub W (sq (sg bp (vs 1 ?_)));refine ld 4 kQ z0 ?_;refine ls m underlying29 ?_;refine vs 1 (er ?_);refine sc b ?_ ?_<;>intro a6 b
 ·refine sg aC (vs 1 (er ?_));cases ax b;exact rT func13 (so sr) d aH
 refine sp (sq (sg aC (vs 1 (er (U.aT ?_)))));refine U.dB b (λ (p:Int) R' H' st'=>R=R'∧H'=(c,.cells #[iv x0.bK,iv x0.bV,iv x0.b8,g,i] 31)::H∧aB st' [(1,pT c),(5,iv p)]) (λ (av:Unit) R' H' st'=>R=R'∧H=H'∧aB st' []) 2 rfl ⟨rfl,rfl,ao cJ⟩ ?_ ?_;rotate_right
 ·rintro p aQ aG bm ⟨rfl,rfl,Y⟩ bD b L N F;refine U.sub Y (sq (sg bI (vs 2 ?_)));refine ld 4 kQ z0 ?_;refine ls m underlying29 ?_;refine vs 1 (er ?_);refine sc b ?_ ?_<;>intro a8 b
  ·refine sp (sq (U.aT (sg cQ (vs 1 ?_))));refine ld 4 kQ z0 ?_;refine vs 1 ?_;have ⟨f,am,b⟩:=af b;obtain ⟨aW,bh,_,rfl,P,S⟩:=m.elem vY am;refine cb S ?_;refine U.s rfl rfl (Ox.bH (vs:=[_,_,_,_,_]) rfl rfl lO rfl (P.any.part (j:=0) (n:=5) rfl) rfl (.put rfl) ?_);refine b4 (#[iv 0,iv 0,iv 0,iv 0,.bool false]) wL λ w=>?_;refine ck (#[_,_,_,_,_]) lO .here ?_;refine es (sq (U.du b (λ (I:Bool) R' H' st'=>R=R'∧H'=(w,.cells #[iv f.U.bR,iv f.U.bS,iv f.hG,iv f.fK,.bool f.n7] 111)::(c,.cells #[iv x0.bK,iv x0.bV,iv x0.b8,g,i] 31)::H∧aB st' [(1,pT c),(5,iv p),(6,pT w),(76,.bool I)])  ?_ ?_));rotate_right
   ·intro bF b y;refine U.rg fS (vs 1 ?_);refine lN [_,_] 0 2 n9 z0 ?_;have ⟨bG,an,b⟩:=af b;refine U.cp J0 (Pz f.U  an) ?_;refine vs 2 ?_;refine a4 b ?_ ?_<;>intro D b
    ·refine U.kn 71 D (vs 5 (er ?_));exact y _ (au b) _ _ _ ⟨rfl,rfl,ao bJ⟩
    refine U.kn 71 D (vs 1 ?_);refine ld 2 aM z0 ?_;have ⟨bL,ap,b⟩:=af b;refine U.cp fj (fp f.hG 0 7  ap) ?_;refine vs 2 (er ?_);exact y _ (au b) _ _ _ ⟨rfl,rfl,ao bJ⟩
   rintro I aS aJ bo ⟨rfl,rfl,ab⟩ b;refine U.sub ab (sc b ?_ ?_)<;>intro bb b
   ·refine sg aC (vs 1 (er ?_));replace b:=F _ (au b);cases ax b;exact rT func13 (so (so sr)) d aH
   refine sp (sg bI (lN [_,_,_,_,_] 0 5 eg z1 ?_));refine vs 1 ?_;refine ld 3 aM z0 ?_;have ⟨bO,aq,b⟩:=af b;refine U.cp J1 (PA x0 f.fK k m aq) ?_;refine vs 1 (er ?_);refine sc b ?_ ?_<;>intro bc b
   ·refine sg aC (vs 1 (er ?_));replace b:=F _ (au b);cases ax b;exact rT func13 (so (so sr)) d aH
   refine sp (U.bg (U.rg aX (vs 3 (er ?_))));exact U.bq (so sr) (L _ (au b) _ _ _ ⟨rfl,rfl,ao cJ⟩)
  exact U.bM rfl (U.bq (so sr) (N _ (au b) _ _ _ ⟨rfl,rfl,bN.sub trivial⟩))
 rintro av aR aI bn ⟨rfl,rfl,Z⟩ b;refine U.sub Z (sg aC (vs 1 (er ?_)));cases ax b;exact rT func13 sr d aH
theorem PE(x0:bC){i j:Value}(c:aa bd 2 R i x0.a9)(d:aa ed 5 R j x0.bz){r:Bool}(b:m5 x0=some r):aO ae 5 #[.agg #[iv x0.bK,iv x0.bV,iv x0.b8,i,j]] R H (λ v R' H'=>R=R'∧H=H'∧v = .bool r):=by
 unfold m5 at b
 refine a2 func5 11 λ fr cs f=>?_;refine sg aD (bx λ n=>?_);refine vs 1 ?_;refine nx eF (lN [_,_,_,_,_] 0 5 eg z0 ?_);have ⟨o,k,b⟩:=af b;refine U.cp IU (Oa x0 c d k) ?_;refine vs 2 ?_;refine a4 b ?_ ?_<;>intro g b
 ·refine U.kn 6 g (lN [_,_,_,_,_] 0 5 eg z0 ?_);have ⟨p,m,b⟩:=af b;refine U.cp I5 (Ou x0 c d m) ?_;refine vs 3 (er ?_);cases ax b;exact rT func5 (so sr) f aH
 refine U.kn 6 g (vs 5 (er ?_));cases ax b;exact rT func5 (so sr) f aH
theorem vb(x0:Int)(x1:Int)  {r:Reach} (b:kB x0 x1=some r):aO ae 24 #[iv x0,iv x1] R H (λ v R' H'=>R=R'∧H=H'∧v = .agg #[iv r.aZ,iv r.bh]):=by
 unfold kB at b
 refine a2 func24 8 λ fr cs c=>?_;refine sg aC (b4 (#[iv 0,iv 0]) mJ λ d=>?_);refine nx bp (vs 2 ?_);refine cF (#[_,_]) ti ?_;refine ck (#[_,_]) e6 .here ?_;refine er ?_;cases ax b;exact rt func24 (.agg rfl e6 rfl (aI.box z0) .nil) (so sr) (c _ _ _ aH)
theorem PB(x0:Int)  {r:Reach} (b:qx x0=some r):aO ae 52 #[iv x0] R H (λ v R' H'=>R=R'∧H=H'∧v = .agg #[iv r.aZ,iv r.bh]):=by
 unfold qx at b
 refine a2 func52 6 λ fr cs c=>?_;refine sg aC (b4 (#[iv 0,iv 0]) mJ λ d=>?_);refine nx bp (vs 2 ?_);refine cF (#[_,_]) ti ?_;refine ck (#[_,_]) e6 .here ?_;refine er ?_;cases ax b;exact rt func52 (.agg rfl e6 rfl (aI.box z0) .nil) (so sr) (c _ _ _ aH)
theorem OB   {r:an} (f:si  = some r):aO ae 14 #[] R H (λ v R' H'=>aK R R'∧H=H'∧∃ w y z A C,aa bQ 2 R' w r.Rows∧aa bd 2 R' y r.aJ∧aa bL 2 R' z r.ay∧aa bP 4 R' A r.az∧aa bG 3 R' C r.a0∧v = .agg #[iv r.Rest,w,y,z,A,C]):=by
 unfold si at f
 refine a2 func14 15 λ fr cs G=>?_;refine sg aC (b4 (#[iv 0,av,av,av,av,av]) kV λ b=>?_);refine nx nM (cF (#[_,_]) qV ?_);refine cF (#[_,_]) qV ?_;refine ev (#[_,_,_,_]) uk HM λ D=>?_;have ⟨L,I,f⟩:=af f;refine U.cp uy (vb 9 11  I) ?_;have ⟨M,J,f⟩:=af f;refine U.cp J2 (PB 15  J) ?_;refine ev (#[_,_,_,_]) om HN λ m=>?_;refine cF (#[_,_]) Gg ?_;refine cF (#[_,_]) Gg ?_;refine ev (#[_,_,_,_]) Cc HP λ g=>?_;refine cF (#[_,_,_,_]) zX ?_;refine cF (#[_,_,_,_]) zX ?_;refine cF (#[_,_,_,_]) zX ?_;refine U.s rfl rfl (Ox.buildSlice (cells:=#[_,_,_,_,_,_,_,_,_,_,_,_]) rfl Cd rfl (by decide) HR (gT (cells':=#[_,_,_,_,_,_,_,_,_,_,_,_]) rfl rfl rfl rfl (gT (cells':=#[_,_,_,_,_,_,_,_,_,_,_,_]) rfl rfl rfl rfl (gT (cells':=#[_,_,_,_,_,_,_,_,_,_,_,_]) rfl rfl rfl rfl gr))) rfl λ c _ _=>⟨_,(.put rfl),?_⟩);refine cF (#[_,_,_,_,_,_]) tf ?_;refine ck (#[_,_,_,_,_,_]) bF (.there (.there (.there (.there .here)))) ?_;refine er (U.iw (K:=bQ) (k:=2) (H2:=(c,_)::(g,_)::(m,_)::(b,_)::H) (λ X=>(c,_)::(g,_)::(m,_)::X++((b,_)::H)) (.cons (.cons (.cons .id))) rfl (a6.le (a6.cons (x:=(⟨10,40⟩:dJ)) rfl rfl (a6.cons (x:=(⟨20,20⟩:dJ)) rfl rfl a6.nil)) rfl) rfl (λ N E d=>?_));refine U.iw (K:=bd) (k:=2) (H2:=(c,_)::(g,_)::(b,_)::H) (λ X=>(c,_)::(g,_)::X++((b,_)::H)) (.cons (.cons .id)) rfl (a6.le (a6.cons (x:=L) rfl rfl (a6.cons (x:=M) rfl rfl a6.nil)) rfl) rfl (λ O p i=>?_);replace d:=d.mono p;refine U.iw (K:=bL) (k:=2) (H2:=(c,_)::(b,_)::H) (λ X=>(c,_)::X++((b,_)::H)) (.cons .id) rfl (a6.le (a6.cons (x:=(⟨⟨#[97,110,110]⟩,20⟩:dk)) rfl rfl (a6.cons (x:=(⟨⟨#[98,111]⟩,12⟩:dk)) rfl rfl a6.nil)) rfl) rfl (λ P n o=>?_);replace d:=d.mono n;replace i:=i.mono n;refine U.iw (K:=bP) (k:=4) (H2:=(b,_)::H) (λ X=>X++((b,_)::H)) .id rfl (a6.le (a6.cons (x:=(⟨0,0,20,2⟩:gD)) rfl rfl (a6.cons (x:=(⟨1,30,15,1⟩:gD)) rfl rfl (a6.cons (x:=(⟨0,60,30,1⟩:gD)) rfl rfl a6.nil))) rfl) rfl (λ Q j F=>?_);replace d:=d.mono j;replace i:=i.mono j;replace o:=o.mono j;cases ax f;exact rt func14 (.agg rfl bF rfl (aI.box z0) .nil) (so sr) (G _ _ _ ⟨(((E.trans p).trans n).trans j),rfl,.slice (some ⟨D,0,none⟩) 2 2,.slice (some ⟨m,0,none⟩) 2 2,.slice (some ⟨g,0,none⟩) 2 2,.slice (some ⟨c,0,none⟩) 3 3,av,d,i,o,F,aa.nil,rfl⟩)
end
end Go.Proofs.YtikficpdfaajlaaGreatDoor
