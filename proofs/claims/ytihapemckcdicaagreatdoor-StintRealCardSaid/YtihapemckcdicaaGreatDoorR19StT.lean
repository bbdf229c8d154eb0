/- The row's own walk, as goroutine 0's own. Printed by strow.py. No conditions. -/
import Derived.Test.YtihapemckcdicaaGreatDoorQYStW13
import Derived.Test.YtihapemckcdicaaGreatDoorQYLgE
namespace Go.Proofs.YtihapemckcdicaaGreatDoor
open Go.Lg Go.Proofs Tryz
set_option maxRecDepth 100000
set_option maxHeartbeats 4000000
section
variable {B:Base} {R:ax} {H:ai}
theorem Ll{PW:Value→World→Prop}(x0:aj)(x1:(List Int))(x2:Int)(x3:Int)(x4:Int){a2 a3 a4 a5 a6 v1:Value}(c:ek R)(S:kq (nV prog B PW))(V:aa bt 2 R a2 x0.Rows)(W:aa bq 2 R a3 x0.aD)(X:aa bp 2 R a4 x0.az)(Y:aa br 4 R a5 x0.av)(Z:aa bg 3 R a6 x0.aQ)(h1:bO (CI .u16) 1 R H v1 x1){r:Bool}(b:tg x0 x1 x2 x3 x4=some r):rB prog B PW 19 #[.agg #[iv x0.Rest,a2,a3,a4,a5,a6],v1,.int .u8 x2,.int .u8 x3,.int .u8 x4] R H (λ v R' H'=>aJ R R'∧H=H'∧v = .bool r):=by
 unfold tg at b
 refine rB.gu (args:=[.agg #[iv x0.Rest,a2,a3,a4,a5,a6],v1,.int .u8 x2,.int .u8 x3,.int .u8 x4]) func19 rfl (n:=236) rfl rfl λ Q=>?_;refine sg aE (bx λ ae=>?_);refine vs 1 (es ?_);refine sg aT (lN [_,_,_,_,_,_] 0 6 bl z0 ?_);have ⟨c3,bY,b⟩:=ag b;refine U.cv GO (Ml x0 V W X Y Z bY) ?_;rintro _ _ _ ⟨rfl,rfl,rfl⟩;refine vs 1 (er ?_);refine sc b ?_ ?_<;>intro cT b
 ·refine sg aE ?_;have ⟨c4,bZ,b⟩:=ag b;refine U.cv vG (wR  c S bZ) ?_;rintro _ cD _ ⟨bP,rfl,rfl⟩;refine vs 1 (er ?_);cases ay b;exact U.n3 func19 (by kernel_rfl) (.tmp rfl .nil) (so sr) Q ⟨bP,bn⟩
 refine sp (sg bj (lN [_,_,_,_,_,_] 0 6 bl z0 ?_));refine vs 1 ?_;have ⟨ad,b0,b⟩:=ag b;refine U.cv G0 (MC x0 x1 V W X Y Z (h1.sub (su (so sr))) b0) ?_;rintro bw cE _ ⟨z,rfl,_,o,rfl⟩;have ⟨V,W,X,Y,Z⟩:=cI z V W X Y Z;replace h1:=h1.le z;replace c:=c.mono z;refine vs 1 ?_;refine nx bj (lN [_,_,_,_,_,_] 0 6 bl z0 ?_);refine vs 1 ?_;have ⟨p,b1,b⟩:=ag b;refine U.cv G1 (ME x0 ad V W X Y Z o.rd b1) ?_;rintro _ cF _ ⟨D,rfl,bz,bA,bC,bD,bE,i,d,f,g,m,rfl⟩;replace c:=c.mono D;replace o:=o.mono D;refine cl (#[_,_,_,_,_,_]) bl .here ?_;refine es (U.dw CC mixed ?_);refine Any.vs 1 [0] rfl (Any.tk 1 rfl pp (λ R' H' w M=>Ox.r5 rfl rfl underlying5 underlying3 rfl (.one rfl) aM) ?_);refine Any.vs 1 [2] rfl (tl 3 2 fI z0 ?_);refine Any.tk 4 rfl pp (λ R' H' w M=>Ox.gX (K:=bq) (k:=2) (xs:=p.aD) rfl rfl (d.mono w) underlying23 rfl (.one rfl) aM) ?_;have ⟨bF,b2,b⟩:=ag b;refine Any.tk 5 rfl pp (λ R' H' w M=>Ox.rem rfl rfl rfl b2 rfl (.one rfl) aM) ?_;refine Any.vs 1 [6] rfl (Any.tk 7 rfl pp (λ R' H' w M=>Ox.r5 rfl rfl underlying5 underlying3 rfl (.one rfl) aM) ?_);refine Any.vs 1 [8] rfl (tl 9 3 eD z0 ?_);refine Any.tk 10 rfl pp (λ R' H' w M=>Ox.gX (K:=bp) (k:=2) (xs:=p.az) rfl rfl (f.mono w) underlying24 rfl (.one rfl) aM) ?_;have ⟨bG,b3,b⟩:=ag b;refine Any.tk 11 rfl pp (λ R' H' w M=>Ox.rem rfl rfl rfl b3 rfl (.one rfl) aM) ?_;refine Any.vs 1 [12] rfl (Any.tk 13 rfl pp (λ R' H' w M=>Ox.r5 rfl rfl underlying5 underlying3 rfl (.one rfl) aM) ?_);refine Any.vs 1 [14] rfl (tl 15 4 dS z0 ?_);refine Any.tk 16 rfl pp (λ R' H' w M=>Ox.gX (K:=br) (k:=4) (xs:=p.av) rfl rfl (g.mono w) underlying25 rfl (.one rfl) aM) ?_;have ⟨bH,b4,b⟩:=ag b;refine Any.tk 17 rfl pp (λ R' H' w M=>Ox.rem rfl rfl rfl b4 rfl (.one rfl) aM) ?_;refine Any.vs 3 [18,19,20] rfl (Any.done (sg dk (lN [_,_,_,_,_,_] 0 6 bl z0 ?_)));refine vs 1 ?_;have ⟨c5,b5,b⟩:=ag b;refine U.cv GZ (MA p ad c i d f g m o.rd b5) ?_;rintro _ cG _ ⟨E,rfl,rfl⟩;replace c:=c.mono E;have ⟨o,i,d,f,g,m⟩:=eR E o i d f g m;refine vs 5 ?_;refine nx cy (lN [_,_,_,_,_,_] 0 6 bl z0 ?_);have ⟨c6,b6,b⟩:=ag b;refine U.cv zP (BJ p c i d f g m b6) ?_;rintro _ cH _ ⟨F,rfl,rfl⟩;replace c:=c.mono F;have ⟨o,i,d,f,g,m⟩:=eR F o i d f g m;refine vs 5 ?_;refine nx cy (lN [_,_,_,_,_,_] 0 6 bl z0 ?_);have ⟨c7,b7,b⟩:=ag b;refine U.cv z7 (BU p c i d f g m b7) ?_;rintro _ cJ _ ⟨G,rfl,c1,A,rfl⟩;replace c:=c.mono G;have ⟨o,i,d,f,g,m⟩:=eR G o i d f g m;refine vs 5 ?_;refine nx dk (lN [_,_,_,_,_,_] 0 6 bl z0 ?_);refine vs 1 ?_;have ⟨a9,b8,b⟩:=ag b;refine U.cv zS (BK p bF c i d f g m b8) ?_;rintro _ cK _ ⟨I,rfl,c2,C,rfl⟩;replace c:=c.mono I;have ⟨o,i,d,f,g,m,A⟩:=tC I o i d f g m A;refine vs 5 ?_;refine nx e0 (lN [_,_,_,_,_,_] 0 6 bl z0 ?_);refine vs 1 ?_;have ⟨al,b9,b⟩:=ag b;refine U.cv zU (BM p bF c i d f g m b9) ?_;rintro _ cL _ ⟨J,rfl,rfl⟩;replace c:=c.mono J;have ⟨o,i,d,f,g,m,A,C⟩:=xb J o i d f g m A C;refine vs 3 ?_;refine bN (#[iv 0,iv 0]) pD λ cR=>?_
 refine cl (#[_,_]) gm .here ?_;refine vs 1 ?_;refine nx e0 (lN [_,_,_,_,_,_] 0 6 bl z1 ?_);refine vs 2 ?_;have ⟨cq,ca,b⟩:=ag b;refine U.cv sA (tn p bG bH c i d f g m ca) ?_;rintro _ cM _ ⟨L,rfl,rfl⟩;replace c:=c.mono L;have ⟨o,i,d,f,g,m,A,C⟩:=xb L o i d f g m A C;refine vs 5 (es ?_);refine U.dw lx mixed ?_;refine tN 0 [_,_,_,_,_,_] 0 6 bl z1 ?_;refine Any.vs 2 [1,2] rfl ?_;have ⟨cr,cb,b⟩:=ag b;have ⟨bI,cd,b⟩:=ag b;obtain ⟨cS,cX,_,rfl,am,bU⟩:=o.elem a8 cb;refine tQ 3 rfl (kI bU) ?_;refine tQ 4 rfl (kU aL 0 am) ?_;refine Any.cv 5 vM (w0 p cr c i d f g m cd) ?_;rintro _ bL _ ⟨y,rfl,rfl⟩;replace c:=c.mono y;replace am:=am.up (H:=[]) y;have ⟨o,i,d,f,g,m,A,C⟩:=xb y o i d f g m A C;refine ⟨y,ka,?_⟩;refine Any.vs 5 [6,7,8,9,10] rfl (Any.done (sq (sq (U.dp b (λ (bs:Bool) R' H' st'=>bL=R'∧H'=(ae,.cells #[iv p.Rest,bz,bA,bC,bD,bE] 28)::H∧aA st' [(5,pT ae),(11,bw),(172,.bool bs)])  ?_ ?_))));rotate_right
 ·intro c8 b q;refine U.rg Ov (vs 3 ?_);refine a7 b (λ ap b=>?_) (λ ap b=>?_)
  ·refine U.kn 108 ap (vs 64 (er ?_));exact U.bd (so sr) (q _ (ao b) _ _ _ ⟨rfl,rfl,an cc⟩)
  refine U.kn 108 ap (vs 4 ?_);refine a7 b (λ aq b=>?_) (λ aq b=>?_)
  ·refine U.kn 112 aq (vs 60 (er ?_));exact U.bd (so sr) (q _ (ao b) _ _ _ ⟨rfl,rfl,an cc⟩)
  refine U.kn 112 aq (vs 4 ?_);refine a7 b (λ ar b=>?_) (λ ar b=>?_)
  ·refine U.kn 116 ar (vs 56 (er ?_));exact U.bd (so sr) (q _ (ao b) _ _ _ ⟨rfl,rfl,an cc⟩)
  refine U.kn 116 ar (vs 4 ?_);refine a7 b (λ au b=>?_) (λ au b=>?_)
  ·refine U.kn 120 au (vs 52 (er ?_));exact U.bd (so sr) (q _ (ao b) _ _ _ ⟨rfl,rfl,an cc⟩)
  refine U.kn 120 au (vs 4 ?_);refine a7 b (λ aw b=>?_) (λ aw b=>?_)
  ·refine U.kn 124 aw (vs 48 (er ?_));exact U.bd (so sr) (q _ (ao b) _ _ _ ⟨rfl,rfl,an cc⟩)
  refine U.kn 124 aw (vs 4 ?_);refine a7 b (λ aB b=>?_) (λ aB b=>?_)
  ·refine U.kn 128 aB (vs 44 (er ?_));exact U.bd (so sr) (q _ (ao b) _ _ _ ⟨rfl,rfl,an cc⟩)
  refine U.kn 128 aB (vs 4 ?_);refine a7 b (λ aH b=>?_) (λ aH b=>?_)
  ·refine U.kn 132 aH (vs 40 (er ?_));exact U.bd (so sr) (q _ (ao b) _ _ _ ⟨rfl,rfl,an cc⟩)
  refine U.kn 132 aH (vs 4 ?_);refine a7 b (λ aI b=>?_) (λ aI b=>?_)
  ·refine U.kn 136 aI (vs 36 (er ?_));exact U.bd (so sr) (q _ (ao b) _ _ _ ⟨rfl,rfl,an cc⟩)
  refine U.kn 136 aI (vs 4 ?_);refine a7 b (λ aK b=>?_) (λ aK b=>?_)
  ·refine U.kn 140 aK (vs 32 (er ?_));exact U.bd (so sr) (q _ (ao b) _ _ _ ⟨rfl,rfl,an cc⟩)
  refine U.kn 140 aK (vs 1 ?_);refine ls A underlying36 ?_;refine vs 3 ?_;refine a7 b (λ aN b=>?_) (λ aN b=>?_)
  ·refine U.kn 145 aN (vs 27 (er ?_));exact U.bd (so sr) (q _ (ao b) _ _ _ ⟨rfl,rfl,an cc⟩)
  refine U.kn 145 aN (vs 3 ?_);have ⟨bb,aY,b⟩:=ag b;have ⟨c9,a1,b⟩:=ag b;refine a7 b (λ af b=>?_) (λ af b=>?_)
  ·obtain ⟨bf,bo,_,rfl,ab,ac⟩:=o.elem a8 aY;refine bS ac ?_;refine U.ld aL (ab.any.one (j:=0) rfl) ?_;refine U.cv qg (qP a9.1 bb C.rd a1) ?_;rintro _ _ _ ⟨rfl,rfl,rfl⟩;refine vs 3 ?_;refine U.kn 154 af (vs 18 (er ?_));exact U.bd (so sr) (q _ (ao b) _ _ _ ⟨rfl,rfl,an cc⟩)
  have ⟨da,bk,b⟩:=ag b;refine a7 b (λ aO b=>?_) (λ aO b=>?_)
  ·obtain ⟨bf,bo,_,rfl,ab,ac⟩:=o.elem a8 aY;refine bS ac ?_;refine U.ld aL (ab.any.one (j:=0) rfl) ?_;refine U.cv qg (qP a9.1 bb C.rd a1) ?_;rintro _ _ _ ⟨rfl,rfl,rfl⟩;refine vs 3 ?_;refine U.kn 154 af (vs 2 ?_);refine ld 0 aL z0 ?_;refine vs 1 ?_;refine ld 1 aL z0 ?_;refine U.cv fE (fH bI.1 al.1.bJ al.1.bT  bk) ?_;rintro _ _ _ ⟨rfl,rfl,rfl⟩;refine vs 3 ?_;refine U.kn 163 aO (vs 9 (er ?_));exact U.bd (so sr) (q _ (ao b) _ _ _ ⟨rfl,rfl,an cc⟩)
  have ⟨ct,ce,b⟩:=ag b;have ⟨db,cf,b⟩:=ag b;obtain ⟨bf,bo,_,rfl,ab,ac⟩:=o.elem a8 aY;refine bS ac ?_;refine U.ld aL (ab.any.one (j:=0) rfl) ?_;refine U.cv qg (qP a9.1 bb C.rd a1) ?_;rintro _ _ _ ⟨rfl,rfl,rfl⟩;refine vs 3 ?_;refine U.kn 154 af (vs 2 ?_);refine ld 0 aL z0 ?_;refine vs 1 ?_;refine ld 1 aL z0 ?_;refine U.cv fE (fH bI.1 al.1.bJ al.1.bT  bk) ?_;rintro _ _ _ ⟨rfl,rfl,rfl⟩;refine vs 3 ?_;refine U.kn 163 aO (vs 1 ?_);refine lN [_,_,_,_,_,_] 0 6 bl z1 ?_;refine vs 3 ?_;refine U.cv z8 (BW p ad bG bH i d f g m o.rd ce) ?_;rintro _ _ _ ⟨rfl,rfl,rfl⟩;refine U.cv G2 (MG cq.1 ct  cf) ?_;rintro _ _ _ ⟨rfl,rfl,rfl⟩;refine vs 2 (er ?_);exact U.bd (so sr) (q _ (ao b) _ _ _ ⟨rfl,rfl,an cc⟩)
 rintro bs cA cw cY ⟨rfl,rfl,bV⟩ b;refine U.sub bV (sc b ?_ ?_)<;>intro cU b
 ·refine sg aC (vs 1 (er ?_));cases ay b;exact U.n3 func19 (by kernel_rfl) (.tmp rfl .nil) (so sr) Q ⟨((((((((z.trans D).trans E).trans F).trans G).trans I).trans J).trans L).trans y),bn⟩
 refine sp (sg cy (lN [_,_,_,_,_,_] 0 6 bl z0 ?_));have ⟨dd,cg,b⟩:=ag b;refine U.cv vL (wZ p c S i d f g m cg) ?_;rintro _ cN _ ⟨N,rfl,rfl⟩;replace c:=c.mono N;have ⟨o,i,d,f,g,m⟩:=eR N o i d f g m;refine vs 5 ?_;refine nx e0 (lN [_,_,_,_,_,_] 0 6 bl z0 ?_);have ⟨bK,ch,b⟩:=ag b;refine U.cv zW (BO p c S i d f g m ch) ?_;rintro _ cO _ ⟨O,rfl,co,ak,rfl⟩;replace c:=c.mono O;have ⟨o,i,d,f,g,m⟩:=eR O o i d f g m;refine vs 7 ?_;refine nx lx (lN [_,_,_,_,_,_] 0 6 bl z0 ?_);have ⟨cu,ci,b⟩:=ag b;refine U.cv zX (BP p c S i d f g m ci) ?_;rintro _ be _ ⟨P,rfl,cp,bm,rfl⟩;replace c:=c.mono P;have ⟨o,i,d,f,g,m,ak⟩:=tC P o i d f g m ak;refine vs 9 (es (sq ?_));refine U.dp b (λ (bu:Bool) R' H' st'=>be=R'∧H'=(ae,.cells #[iv p.Rest,bz,bA,bC,bD,bE] 28)::H∧aA st' [(5,pT ae),(11,bw),(15,.bool bK.2.1),(30,co),(31,cp),(211,.bool bu)])  ?_ ?_;rotate_right
 ·intro df b T;refine U.rg CC (vs 3 ?_);refine a7 b (λ aP b=>?_) (λ aP b=>?_)
  ·refine U.kn 193 aP (vs 18 (er ?_));exact T _ (ao b) _ _ _ ⟨rfl,rfl,an du⟩
  refine U.kn 193 aP (vs 4 ?_);refine a7 b (λ aR b=>?_) (λ aR b=>?_)
  ·refine U.kn 197 aR (vs 14 (er ?_));exact T _ (ao b) _ _ _ ⟨rfl,rfl,an du⟩
  refine U.kn 197 aR (vs 4 ?_);refine a7 b (λ aS b=>?_) (λ aS b=>?_)
  ·refine U.kn 201 aS (vs 10 (er ?_));exact T _ (ao b) _ _ _ ⟨rfl,rfl,an du⟩
  refine U.kn 201 aS (vs 2 ?_);refine U.s rfl rfl (Ox.rX rfl rfl rfl underlying4 rfl rfl (.put rfl) ?_);refine vs 2 ?_;refine a7 b (λ aU b=>?_) (λ aU b=>?_)
  ·refine U.kn 206 aU (vs 5 (er ?_));exact T _ (ao b) _ _ _ ⟨rfl,rfl,an du⟩
  refine U.kn 206 aU (vs 3 ?_);refine U.s rfl rfl (Ox.rX rfl rfl rfl underlying4 rfl rfl (.put rfl) ?_);refine vs 1 (er ?_);exact T _ (ao b) _ _ _ ⟨rfl,rfl,an du⟩
 rintro bu cB cx cZ ⟨rfl,rfl,bW⟩ b;refine U.sub bW (sc b ?_ ?_)<;>intro cV b
 ·refine sg aC (vs 1 (er ?_));cases ay b;exact U.n3 func19 (by kernel_rfl) (.tmp rfl .nil) (so sr) Q ⟨(((((((((((z.trans D).trans E).trans F).trans G).trans I).trans J).trans L).trans y).trans N).trans O).trans P),bn⟩
 refine sp (sq (sg aE (vs 2 (er ?_))));refine sc b ?_ ?_<;>intro cW b
 ·refine sq (U.dp b (λ (bv:Bool) R' H' st'=>aJ be R'∧H=H'∧aA st' [(10,.bool bv)])  ?_ ?_);rotate_right
  ·intro dg b bi;refine U.rg fy (vs 1 ?_);refine ls ak underlying29 ?_;refine vs 1 ?_;refine ls bm underlying29 ?_;refine vs 3 ?_;refine a7 b (λ aV b=>?_) (λ aV b=>?_)
   ·refine U.kn 220 aV ?_;have ⟨dh,cj,b⟩:=ag b;refine U.cv vG (wR  c S cj) ?_;rintro _ cP _ ⟨bQ,rfl,rfl⟩;refine vs 2 (er ?_);exact U.bd (so sr) (bi _ (ao b) _ _ _ ⟨bQ,rfl,an gd⟩)
   refine U.kn 220 aV (vs 3 (er ?_));exact U.bd (so sr) (bi _ (ao b) _ _ _ ⟨(rr),rfl,an gd⟩)
  rintro bv cC cz c0 ⟨bM,rfl,bX⟩ b;refine U.sub bX ?_;cases ay b;exact U.n3 func19 (by kernel_rfl) (.tmp rfl .nil) sr Q ⟨((((((((((((z.trans D).trans E).trans F).trans G).trans I).trans J).trans L).trans y).trans N).trans O).trans P).trans bM),bn⟩
 refine sp (sg km (lN [_,_,_,_,_,_] 0 6 bl z0 ?_));refine vs 2 ?_;have ⟨di,ck,b⟩:=ag b;refine U.cv z9 (BY p ad bK.1 i d f g m o.rd ak.rd ck) ?_;rintro _ _ _ ⟨rfl,rfl,rfl⟩;refine vs 1 ?_;refine a7 b (λ aW b=>?_) (λ aW b=>?_)
 ·refine U.kn 227 aW (lN [_,_,_,_,_,_] 0 6 bl z0 ?_);refine vs 2 ?_;have ⟨dj,cm,b⟩:=ag b;refine U.cv z9 (BY p ad cu.1 i d f g m o.rd bm.rd cm) ?_;rintro _ _ _ ⟨rfl,rfl,rfl⟩;refine vs 2 ?_;refine a7 b (λ aX b=>?_) (λ aX b=>?_)
  ·refine U.kn 233 aX ?_;have ⟨dl,cn,b⟩:=ag b;refine U.cv vG (wR  c S cn) ?_;rintro _ cQ _ ⟨bR,rfl,rfl⟩;refine vs 2 (er ?_);cases ay b;exact U.n3 func19 (by kernel_rfl) (.tmp rfl .nil) (so sr) Q ⟨((((((((((((z.trans D).trans E).trans F).trans G).trans I).trans J).trans L).trans y).trans N).trans O).trans P).trans bR),bn⟩
  refine U.kn 233 aX (vs 3 (er ?_));cases ay b;exact U.n3 func19 (by kernel_rfl) (.tmp rfl .nil) (so sr) Q ⟨(((((((((((z.trans D).trans E).trans F).trans G).trans I).trans J).trans L).trans y).trans N).trans O).trans P),bn⟩
 refine U.kn 227 aW (vs 9 (er ?_));cases ay b;exact U.n3 func19 (by kernel_rfl) (.tmp rfl .nil) (so sr) Q ⟨(((((((((((z.trans D).trans E).trans F).trans G).trans I).trans J).trans L).trans y).trans N).trans O).trans P),bn⟩
end
end Go.Proofs.YtihapemckcdicaaGreatDoor
