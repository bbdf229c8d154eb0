/- A worker of hull.reckon: the walk of it. -/
import Derived.Test.YtabamagholjdcaaGreatDoorQHHuP1
import Derived.Test.YtabamagholjdcaaGreatDoorQHLgD
namespace Go.Proofs.YtabamagholjdcaaGreatDoor
open Go.Lg Go.Proofs Tryz
set_option maxRecDepth 100000
set_option maxHeartbeats 4000000
section
variable {B:Base} {main:Bool} {ag:Jd prog B main} {R:aE} {H:an}
theorem aM9{cf cd:Nat}(x0:di)(x1:Int){aA ay aC js kL:Value}{b0 b1 b2 b3:Nat}(Ck:aR R [] b0 0 [iv x0.book.aB,iv x0.book.aa.ai,iv x0.book.aa.ak,aA,ay,aC,js,kL])(aw:au bn 5 R aA x0.book.ao)(az:au (CI .i64) 1 R ay x0.book.Out)(aD:au bh 2 R aC x0.book.aT)(nh:au gE 6 R js x0.eB)(c6:aR R [] b1 0 [iv x1])(bD:aR R [] b2 0 [.chan (some cf)])(bP:aR R [] b3 0 [.chan (some cd)]){r:(List Bool × Int)}(hM:yR x0 x1=some r):Own prog B false (y8 prog B cf cd (xR r)) R [] (bA (Frame.enter prog 147 #[.pointer (some ⟨b0,0,none⟩),.pointer (some ⟨b1,0,none⟩),.pointer (some ⟨b2,0,none⟩),.pointer (some ⟨b3,0,none⟩)] .deferred) [pC prog]):=by
 unfold yR at hM
 refine ahh (args:=[.pointer (some ⟨b0,0,none⟩),.pointer (some ⟨b1,0,none⟩),.pointer (some ⟨b2,0,none⟩),.pointer (some ⟨b3,0,none⟩)]) func147 rfl (n:=49) rfl rfl ?_
 refine At.seq ?_
 refine At.rg aL ?_
 refine At.s rfl rfl (Ox.alloc (cs:=(List.toArray ([]++([false,false,false,false,false].map Value.bool++[])))) rfl lX rfl λ cx _ _=>⟨_,(.put rfl),?_⟩)
 refine At.eH ?_
 refine At.seq ?_
 refine At.seq ?_
 refine At.rg db ?_
 refine At.vs 3 rfl rfl ?_
 refine At.ld cL ((Ck.sub (λ _ h=>(List.Sublist.subset (List.Sublist.cons _ (List.Sublist.refl _))) h)).one (j:=3) rfl) ?_
 refine At.s rfl rfl (Ox.sm (K:=bn) (k:=5) (xs:=x0.book.ao) rfl rfl aw underlying24 rfl (.put rfl) ?_)
 refine At.vs 1 rfl rfl ?_
 refine At.eH ?_
 refine At.block ?_
 refine At.c9 hM (λ (qH:(Int × (List Bool))) R' H' ab=>R=R'∧qH.2.length=5∧H'=(cx,.cells (List.toArray ([]++(qH.2.map Value.bool++[]))) 112)::[]∧aH ab [(0,.pointer (some ⟨b0,0,none⟩)),(1,.pointer (some ⟨b1,0,none⟩)),(2,.pointer (some ⟨b2,0,none⟩)),(3,.pointer (some ⟨b3,0,none⟩)),(4,.pointer (some ⟨cx,0,none⟩)),(14,iv (x0.book.ao.length:Int)),(15,iv qH.1)]) (λ (xO:(List Bool)) R' H' ab=>R=R'∧xO.length=5∧H'=(cx,.cells (List.toArray ([]++(xO.map Value.bool++[]))) 112)::[]∧aH ab [(0,.pointer (some ⟨b0,0,none⟩)),(2,.pointer (some ⟨b2,0,none⟩)),(3,.pointer (some ⟨b3,0,none⟩)),(4,.pointer (some ⟨cx,0,none⟩))]) 0 rfl ⟨rfl,rfl,rfl,dT.sub ⟨rfl,rfl,rfl,rfl,rfl,rfl,rfl,trivial⟩⟩ ?_ ?_
 rotate_right
 ·rintro qH R21 H21 a2p ⟨rfl,Zk,rfl,azN⟩ cF hM anM aqE
  refine At.sub azN ?_
  refine At.seq ?_
  refine At.rg aL ?_
  refine At.vs 1 rfl rfl ?_
  refine At.eH ?_
  refine At.seq ?_
  refine bj hM (λ C0 hM=>At.FB rfl C0 ?_) (λ C0 hM=>At.FA rfl C0 ?_)
  ·refine At.skip ?_
   refine At.seq ?_
   refine At.block ?_
   refine At.seq ?_
   refine At.rg aP ?_
   refine At.vs 2 rfl rfl ?_
   refine At.eH ?_
   obtain ⟨oC,F8,hM⟩:=af hM
   obtain ⟨fw,xu,hM⟩:=af hM
   obtain ⟨dh,KB,hM⟩:=af hM
   refine At.rg dK ?_
   refine At.vs 1 rfl rfl ?_
   refine At.ld aS ((c6.sub (λ _ h=>(List.Sublist.subset (List.Sublist.cons _ (List.Sublist.refl _))) h)).one (j:=0) rfl) ?_
   refine At.vs 1 rfl rfl ?_
   refine At.s rfl rfl (Ox.shr rfl rfl rfl F8 rfl (.put rfl) ?_)
   refine At.s rfl rfl (Ox.bits rfl rfl rfl xu rfl (.put rfl) ?_)
   refine At.vs 1 rfl rfl ?_
   refine At.s rfl rfl (Ox.bp rfl rfl rfl (rJ Fq Zk KB) rfl (.put rfl) ?_)
   refine At.s rfl rfl (Ox.dX rfl rfl rfl jZ rfl .here (Ns KB rfl) (Nt KB rfl) rfl (.refl _) ?_)
   refine At.eH ?_
   refine At.inBlock ?_
   refine At.rg aP ?_
   refine At.vs 2 rfl rfl ?_
   refine At.eH ?_
   exact anM _ (ad hM).symm _ _ _ ⟨rfl,((List.length_set).trans Zk),rfl,dT.sub ⟨rfl,rfl,rfl,rfl,rfl,rfl,rfl,trivial⟩⟩
  exact At.exit rfl (aqE _ (ad hM).symm _ _ _ ⟨rfl,Zk,rfl,dT.sub ⟨rfl,rfl,rfl,rfl,trivial⟩⟩)
 rintro xO aSJ aQp a2s ⟨rfl,Gb,rfl,azQ⟩ hM
 refine At.sub azQ ?_
 refine At.seq ?_
 refine At.rg aL ?_
 refine At.vs 1 rfl rfl ?_
 refine At.eH ?_
 refine At.seq ?_
 refine At.seq ?_
 refine At.rg bk ?_
 refine At.vs 1 rfl rfl ?_
 refine At.ld tI ((Ck.sub (λ _ h=>(List.Sublist.subset (List.Sublist.cons _ (List.Sublist.refl _))) h)).one (j:=6) rfl) ?_
 refine At.s rfl rfl (Ox.sm (K:=gE) (k:=6) (xs:=x0.eB) rfl rfl nh underlying103 rfl (.put rfl) ?_)
 refine At.vs 1 rfl rfl ?_
 refine At.eH ?_
 refine At.block ?_
 refine At.c9 hM (λ (jO:(Int × Int)) R' H' ab=>R=R'∧H'=(cx,.cells (List.toArray ([]++(xO.map Value.bool++[]))) 112)::[]∧aH ab [(0,.pointer (some ⟨b0,0,none⟩)),(2,.pointer (some ⟨b2,0,none⟩)),(3,.pointer (some ⟨b3,0,none⟩)),(4,.pointer (some ⟨cx,0,none⟩)),(6,iv jO.1),(27,js),(28,iv (x0.eB.length:Int)),(29,iv jO.2)]) (λ (vE:Int) R' H' ab=>R=R'∧H'=(cx,.cells (List.toArray ([]++(xO.map Value.bool++[]))) 112)::[]∧aH ab [(2,.pointer (some ⟨b2,0,none⟩)),(3,.pointer (some ⟨b3,0,none⟩)),(4,.pointer (some ⟨cx,0,none⟩)),(6,iv vE)]) 2 rfl ⟨rfl,rfl,dT.sub ⟨rfl,rfl,rfl,rfl,rfl,rfl,rfl,rfl,trivial⟩⟩ ?_ ?_
 rotate_right
 ·rintro jO R40 H40 aLu ⟨rfl,rfl,WZ⟩ kN hM Ts Uz
  refine At.sub WZ ?_
  refine At.seq ?_
  refine At.rg aL ?_
  refine At.vs 1 rfl rfl ?_
  refine At.eH ?_
  refine At.seq ?_
  refine bj hM (λ xm hM=>At.FB rfl xm ?_) (λ xm hM=>At.FA rfl xm ?_)
  ·refine At.skip ?_
   refine At.seq ?_
   refine At.block ?_
   refine At.seq ?_
   obtain ⟨eM,om,hM⟩:=af hM
   refine At.rg bk ?_
   obtain ⟨aW7,a1s,_,⟨Dv,rfl⟩,atI,awT⟩:=nh.elem P6 om
   refine At.s rfl rfl (Ox.bp rfl rfl rfl awT rfl (.put rfl) ?_)
   refine At.s rfl rfl (Ox.bL (vs:=_) rfl rfl eG (by simp [Dv]) (atI.any.part (j:=0) (n:=6) (eK (by simp [Dv]))) rfl (.put rfl) ?_)
   refine At.s rfl rfl (Ox.alloc (cs:=(List.toArray ([iv 0]++([0,0,0,0,0].map (Value.int .i64)++[])))) rfl vZ rfl λ b57 _ _=>⟨_,(.put rfl),?_⟩)
   refine At.s rfl rfl (Ox.da (cs':=_) rfl rfl rfl eG (by simp [Dv]) (cu (bc rfl bu) (cu (eY λ _=>rfl) bu)) .here (by simp) (eS (by simp [Dv])) rfl (.refl _) ?_)
   refine At.eH ?_
   refine At.seq ?_
   obtain ⟨gD,qY,hM⟩:=af hM
   refine At.rg db ?_
   refine At.vs 1 rfl rfl ?_
   refine At.s rfl rfl (Ox.bL (vs:=[_,_,_,_,_,_]) rfl rfl eA rfl ((Ck.sub (λ _ h=>(List.Sublist.subset (List.Sublist.cons _ (List.Sublist.cons _ (List.Sublist.refl _)))) h)).part (j:=0) (n:=6) rfl) rfl (.put rfl) ?_)
   refine At.s rfl rfl (Ox.bL (vs:=_) rfl rfl eG (by simp [Dv]) ((aR.box (.head _)).part (j:=0) (n:=6) (eK (by simp [Dv]))) rfl (.put rfl) ?_)
   refine At.s rfl rfl (Ox.bL (vs:=_) rfl rfl dC (by simp [Gb]) ((aR.box (.tail _ (.head _))).part (j:=0) (n:=5) (eK (by simp [Gb]))) rfl (.put rfl) ?_)
   refine At.cv zk (zZ x0.book eM xO aw az aD Dv Gb qY) ?_
   rintro _ _ _ ⟨rfl,rfl,rfl⟩
   refine At.vs 1 rfl rfl ?_
   refine At.eH ?_
   refine At.rg db ?_
   refine At.vs 3 rfl rfl ?_
   refine At.s rfl rfl (Ox.yr rfl rfl rfl (.put rfl) ?_)
   refine At.s rfl rfl (Ox.max (a:=jO.1) (l:=[gD,i64 (0 - gD)]) rfl rfl rfl (.put rfl) ?_)
   refine At.vs 1 rfl rfl ?_
   refine At.eH ?_
   refine At.inBlock ?_
   refine At.rg aP ?_
   refine At.vs 2 rfl rfl ?_
   refine At.eH ?_
   exact At.drop (List.Sublist.cons _ (List.Sublist.refl _)) (Ts _ (ad hM).symm _ _ _ ⟨rfl,rfl,dT.sub ⟨rfl,rfl,rfl,rfl,rfl,rfl,rfl,rfl,trivial⟩⟩)
  exact At.exit rfl (Uz _ (ad hM).symm _ _ _ ⟨rfl,rfl,dT.sub ⟨rfl,rfl,rfl,rfl,trivial⟩⟩)
 rintro vE anf amf aLv ⟨rfl,rfl,W0⟩ hM
 refine At.sub W0 ?_
 refine At.seq ?_
 refine At.rg bQ ?_
 refine At.ld Pv ((bD.sub (λ _ h=>(List.Sublist.subset (List.Sublist.cons _ (List.Sublist.refl _))) h)).one (j:=0) rfl) ?_
 refine At.s rfl rfl (Ox.bL (vs:=_) rfl rfl dC (by simp [Gb]) ((aR.box (.head _)).part (j:=0) (n:=5) (eK (by simp [Gb]))) rfl (.put rfl) ?_)
 refine At.vs 1 rfl rfl ?_
 obtain ⟨a0,a1,a2,a3,a4,rfl⟩:=B5 Gb
 refine At.cQ rfl rfl rfl (Ox.build (cells:=#[_,_,_,_,_,_]) rfl aLM rfl rfl rfl (.put rfl) ?_)
 obtain rfl:=ad hM
 refine λ tmps ht=>Own.stop _ _ _ _ ⟨_,ahY rfl rfl rfl rfl rfl rfl ht ?_⟩
 show At (tK prog B false (y9 prog B cd)) _ _ _ _ _
 refine At.eH ?_
 refine At.rg aP ?_
 refine At.ld Z6 ((bP.sub (λ _ h=>(List.Sublist.subset (List.Sublist.cons _ (List.Sublist.refl _))) h)).one (j:=0) rfl) ?_
 exact λ tmps ht=>Own.stop _ _ _ _ ⟨_,ahY rfl rfl rfl rfl rfl rfl ht λ _ _=>⟨5,ahw func147 rfl⟩⟩
end
end Go.Proofs.YtabamagholjdcaaGreatDoor
