/- A worker of hull.reckon: the walk of it. -/
import Derived.Test.YtoaoffinglajbaaGreatDoorQBHbP1
import Derived.Test.YtoaoffinglajbaaGreatDoorQBLgD
namespace Go.Proofs.YtoaoffinglajbaaGreatDoor
open Go.Lg Go.Proofs Tryz
set_option maxRecDepth 100000
set_option maxHeartbeats 4000000
section
variable {B:Base} {main:Bool} {af:Jd prog B main} {R:ay} {H:aj}
theorem Mk{cf cd:Nat}(f:cN)(x1:Int){T V W P aO:Value}{b0 D m y:Nat}(G:aK R [] b0 0 [iv f.book.ax,iv f.book.ad.ai,iv f.book.ad.ak,T,V,W,P,aO])(Q:ah bz 5 R T f.book.ao)(am:ah (CI .i64) 1 R V f.book.Out)(an:ah bq 2 R W f.book.aV)(S:ah eA 6 R P f.cW)(ap:aK R [] D 0 [iv x1])(aq:aK R [] m 0 [.chan (some cf)])(ar:aK R [] y 0 [.chan (some cd)]){r:(List Bool × Int)}(d:j1 f x1=some r):Own prog B false (ky prog B cf cd (km r)) R [] (bk (Frame.enter prog 116 #[.pointer (some ⟨b0,0,none⟩),.pointer (some ⟨D,0,none⟩),.pointer (some ⟨m,0,none⟩),.pointer (some ⟨y,0,none⟩)] .deferred) [hr prog]):=by
 unfold j1 at d
 refine zV (args:=[.pointer (some ⟨b0,0,none⟩),.pointer (some ⟨D,0,none⟩),.pointer (some ⟨m,0,none⟩),.pointer (some ⟨y,0,none⟩)]) func116 rfl (n:=49) rfl rfl ?_
 refine U.seq ?_
 refine U.rg aB ?_
 refine U.s rfl rfl (Ox.alloc (cs:=(List.toArray ([]++([false,false,false,false,false].map Value.bool++[])))) rfl fS rfl λ g _ _=>⟨_,(.put rfl),?_⟩)
 refine U.ds ?_
 refine U.seq ?_
 refine U.seq ?_
 refine U.rg b4 ?_
 refine U.vs 3 rfl rfl ?_
 refine U.ld cZ ((G.sub (λ _ h=>(List.Sublist.subset (List.Sublist.cons _ (List.Sublist.refl _))) h)).one (j:=3) rfl) ?_
 refine U.s rfl rfl (Ox.iM (K:=bz) (k:=5) (xs:=f.book.ao) rfl rfl Q underlying24 rfl (.put rfl) ?_)
 refine U.vs 1 rfl rfl ?_
 refine U.ds ?_
 refine U.aP ?_
 refine U.cQ d (λ (E:(Int × (List Bool))) R' H' aa=>R=R'∧E.2.length=5∧H'=(g,.cells (List.toArray ([]++(E.2.map Value.bool++[]))) 124)::[]∧aA aa [(0,.pointer (some ⟨b0,0,none⟩)),(1,.pointer (some ⟨D,0,none⟩)),(2,.pointer (some ⟨m,0,none⟩)),(3,.pointer (some ⟨y,0,none⟩)),(4,.pointer (some ⟨g,0,none⟩)),(14,iv (f.book.ao.length:Int)),(15,iv E.1)]) (λ (A:(List Bool)) R' H' aa=>R=R'∧A.length=5∧H'=(g,.cells (List.toArray ([]++(A.map Value.bool++[]))) 124)::[]∧aA aa [(0,.pointer (some ⟨b0,0,none⟩)),(2,.pointer (some ⟨m,0,none⟩)),(3,.pointer (some ⟨y,0,none⟩)),(4,.pointer (some ⟨g,0,none⟩))]) 0 rfl ⟨rfl,rfl,rfl,cV.sub ⟨rfl,rfl,rfl,rfl,rfl,rfl,rfl,trivial⟩⟩ ?_ ?_
 rotate_right
 ·rintro E a4 aU bm ⟨rfl,N,rfl,az⟩ br d Z ac
  refine U.sub az ?_
  refine U.seq ?_
  refine U.rg aB ?_
  refine U.vs 1 rfl rfl ?_
  refine U.ds ?_
  refine U.seq ?_
  refine a8 d (λ J d=>U.nm rfl J ?_) (λ J d=>U.nk rfl J ?_)
  ·refine U.skip ?_
   refine U.seq ?_
   refine U.aP ?_
   refine U.seq ?_
   refine U.rg aC ?_
   refine U.vs 2 rfl rfl ?_
   refine U.ds ?_
   obtain ⟨bs,aJ,d⟩:=ae d
   obtain ⟨bt,aL,d⟩:=ae d
   obtain ⟨bu,M,d⟩:=ae d
   refine U.rg cX ?_
   refine U.vs 1 rfl rfl ?_
   refine U.ld aI ((ap.sub (λ _ h=>(List.Sublist.subset (List.Sublist.cons _ (List.Sublist.refl _))) h)).one (j:=0) rfl) ?_
   refine U.vs 1 rfl rfl ?_
   refine U.s rfl rfl (Ox.shr rfl rfl rfl aJ rfl (.put rfl) ?_)
   refine U.s rfl rfl (Ox.bits rfl rfl rfl aL rfl (.put rfl) ?_)
   refine U.vs 1 rfl rfl ?_
   refine U.s rfl rfl (Ox.rj rfl rfl rfl (h6 nf N M) rfl (.put rfl) ?_)
   refine U.s rfl rfl (Ox.dE rfl rfl rfl eN rfl .here (qC M rfl) (qD M rfl) rfl (.refl _) ?_)
   refine U.ds ?_
   refine U.a0 ?_
   refine U.rg aC ?_
   refine U.vs 2 rfl rfl ?_
   refine U.ds ?_
   exact Z _ (av d).symm _ _ _ ⟨rfl,((List.length_set).trans N),rfl,cV.sub ⟨rfl,rfl,rfl,rfl,rfl,rfl,rfl,trivial⟩⟩
  exact U.bw rfl (ac _ (av d).symm _ _ _ ⟨rfl,N,rfl,cV.sub ⟨rfl,rfl,rfl,rfl,trivial⟩⟩)
 rintro A a5 aY bn ⟨rfl,C,rfl,aF⟩ d
 refine U.sub aF ?_
 refine U.seq ?_
 refine U.rg aB ?_
 refine U.vs 1 rfl rfl ?_
 refine U.ds ?_
 refine U.seq ?_
 refine U.seq ?_
 refine U.rg bb ?_
 refine U.vs 1 rfl rfl ?_
 refine U.ld iY ((G.sub (λ _ h=>(List.Sublist.subset (List.Sublist.cons _ (List.Sublist.refl _))) h)).one (j:=6) rfl) ?_
 refine U.s rfl rfl (Ox.iM (K:=eA) (k:=6) (xs:=f.cW) rfl rfl S underlying127 rfl (.put rfl) ?_)
 refine U.vs 1 rfl rfl ?_
 refine U.ds ?_
 refine U.aP ?_
 refine U.cQ d (λ (F:(Int × Int)) R' H' aa=>R=R'∧H'=(g,.cells (List.toArray ([]++(A.map Value.bool++[]))) 124)::[]∧aA aa [(0,.pointer (some ⟨b0,0,none⟩)),(2,.pointer (some ⟨m,0,none⟩)),(3,.pointer (some ⟨y,0,none⟩)),(4,.pointer (some ⟨g,0,none⟩)),(6,iv F.1),(27,P),(28,iv (f.cW.length:Int)),(29,iv F.2)]) (λ (O:Int) R' H' aa=>R=R'∧H'=(g,.cells (List.toArray ([]++(A.map Value.bool++[]))) 124)::[]∧aA aa [(2,.pointer (some ⟨m,0,none⟩)),(3,.pointer (some ⟨y,0,none⟩)),(4,.pointer (some ⟨g,0,none⟩)),(6,iv O)]) 2 rfl ⟨rfl,rfl,cV.sub ⟨rfl,rfl,rfl,rfl,rfl,rfl,rfl,rfl,trivial⟩⟩ ?_ ?_
 rotate_right
 ·rintro F a6 a1 bo ⟨rfl,rfl,aG⟩ bv d ab ag
  refine U.sub aG ?_
  refine U.seq ?_
  refine U.rg aB ?_
  refine U.vs 1 rfl rfl ?_
  refine U.ds ?_
  refine U.seq ?_
  refine a8 d (λ L d=>U.nm rfl L ?_) (λ L d=>U.nk rfl L ?_)
  ·refine U.skip ?_
   refine U.seq ?_
   refine U.aP ?_
   refine U.seq ?_
   obtain ⟨aT,aM,d⟩:=ae d
   refine U.rg bb ?_
   obtain ⟨bh,bi,_,⟨z,rfl⟩,au,aw⟩:=S.elem r3 aM
   refine U.s rfl rfl (Ox.rj rfl rfl rfl aw rfl (.put rfl) ?_)
   refine U.s rfl rfl (Ox.bB (vs:=_) rfl rfl dT (by simp [z]) (au.any.part (j:=0) (n:=6) (dd (by simp [z]))) rfl (.put rfl) ?_)
   refine U.s rfl rfl (Ox.alloc (cs:=(List.toArray ([iv 0]++([0,0,0,0,0].map (Value.int .i64)++[])))) rfl lM rfl λ bg _ _=>⟨_,(.put rfl),?_⟩)
   refine U.s rfl rfl (Ox.cG (cs':=_) rfl rfl rfl dT (by simp [z]) (cj (aW rfl bl) (cj (ej λ _=>rfl) bl)) .here (by simp) (eo (by simp [z])) rfl (.refl _) ?_)
   refine U.ds ?_
   refine U.seq ?_
   obtain ⟨Y,aN,d⟩:=ae d
   refine U.rg b4 ?_
   refine U.vs 1 rfl rfl ?_
   refine U.s rfl rfl (Ox.bB (vs:=[_,_,_,_,_,_]) rfl rfl dA rfl ((G.sub (λ _ h=>(List.Sublist.subset (List.Sublist.cons _ (List.Sublist.cons _ (List.Sublist.refl _)))) h)).part (j:=0) (n:=6) rfl) rfl (.put rfl) ?_)
   refine U.s rfl rfl (Ox.bB (vs:=_) rfl rfl dT (by simp [z]) ((aK.box (.head _)).part (j:=0) (n:=6) (dd (by simp [z]))) rfl (.put rfl) ?_)
   refine U.s rfl rfl (Ox.bB (vs:=_) rfl rfl cR (by simp [C]) ((aK.box (.tail _ (.head _))).part (j:=0) (n:=5) (dd (by simp [C]))) rfl (.put rfl) ?_)
   refine U.cv kG (ln f.book aT A Q am an z C aN) ?_
   rintro _ _ _ ⟨rfl,rfl,rfl⟩
   refine U.vs 1 rfl rfl ?_
   refine U.ds ?_
   refine U.rg b4 ?_
   refine U.vs 3 rfl rfl ?_
   refine U.s rfl rfl (Ox.mU rfl rfl rfl (.put rfl) ?_)
   refine U.s rfl rfl (Ox.max (a:=F.1) (l:=[Y,i64 (0 - Y)]) rfl rfl rfl (.put rfl) ?_)
   refine U.vs 1 rfl rfl ?_
   refine U.ds ?_
   refine U.a0 ?_
   refine U.rg aC ?_
   refine U.vs 2 rfl rfl ?_
   refine U.ds ?_
   exact U.aR (List.Sublist.cons _ (List.Sublist.refl _)) (ab _ (av d).symm _ _ _ ⟨rfl,rfl,cV.sub ⟨rfl,rfl,rfl,rfl,rfl,rfl,rfl,rfl,trivial⟩⟩)
  exact U.bw rfl (ag _ (av d).symm _ _ _ ⟨rfl,rfl,cV.sub ⟨rfl,rfl,rfl,rfl,trivial⟩⟩)
 rintro O a7 a2 bp ⟨rfl,rfl,aH⟩ d
 refine U.sub aH ?_
 refine U.seq ?_
 refine U.rg bA ?_
 refine U.ld rT ((aq.sub (λ _ h=>(List.Sublist.subset (List.Sublist.cons _ (List.Sublist.refl _))) h)).one (j:=0) rfl) ?_
 refine U.s rfl rfl (Ox.bB (vs:=_) rfl rfl cR (by simp [C]) ((aK.box (.head _)).part (j:=0) (n:=5) (dd (by simp [C]))) rfl (.put rfl) ?_)
 refine U.vs 1 rfl rfl ?_
 refine U.s rfl rfl (Ox.build (cells:=(List.toArray ([]++(A.map Value.bool++[iv O])))) rfl LW rfl (by obtain ⟨a9,ba,bd,be,bf,e⟩:=GK C; rw [e]; rfl) rfl (.put rfl) ?_)
 obtain rfl:=av d
 refine λ tmps I=>Own.stop _ _ _ _ ⟨_,AT rfl rfl rfl rfl rfl rfl I ?_⟩
 show U (jb prog B false (kz prog B cd)) _ _ _ _ _
 refine U.ds ?_
 refine U.rg aC ?_
 refine U.ld u7 ((ar.sub (λ _ h=>(List.Sublist.subset (List.Sublist.cons _ (List.Sublist.refl _))) h)).one (j:=0) rfl) ?_
 exact λ tmps I=>Own.stop _ _ _ _ ⟨_,AT rfl rfl rfl rfl rfl rfl I λ _ _=>⟨5,Ab func116 rfl⟩⟩
end
end Go.Proofs.YtoaoffinglajbaaGreatDoor
