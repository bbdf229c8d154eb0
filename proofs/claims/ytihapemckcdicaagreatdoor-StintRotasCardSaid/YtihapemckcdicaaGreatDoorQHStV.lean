/- What able does in company; the arguments of the statements. Conditions: none. -/
import Derived.Test.YtihapemckcdicaaGreatDoorQHStF
import Derived.Test.YtihapemckcdicaaGreatDoorQHLgE
import Derived.Test.YtihapemckcdicaaGreatDoorQHStW1
import Derived.Test.YtihapemckcdicaaGreatDoorQHStG
import Derived.Test.YtihapemckcdicaaGreatDoorTie
import Derived.Stop.Joined
import Derived.LaidOnce
import Derived.ProofKit
import Derived.OpenShut
namespace Go.Proofs.YtihapemckcdicaaGreatDoor
open Go.Lg Go.Proofs Go.Conc Go.ConcN Tryz
set_option maxRecDepth 100000
set_option maxHeartbeats 4000000
section
variable {B:Base} {R:az} {H:ah} {Post:Value→World→Prop}
abbrev pt(b:Nat):Value:=.pointer (some ⟨b,0,none⟩)
def sB(a:Nat→Nat→Bool)(js:Nat→Nat):List Bool:=(List.range 16).map λ p=>decide (p / 4 < js (p % 4)) && a (p / 4) (p % 4)
theorem aie(a:Nat→Nat→Bool)(js:Nat→Nat):ny a js=[]++((sB a js).map Value.bool++[]):=by simp [ny,sB]
theorem aif(a:Nat→Nat→Bool)(js:Nat→Nat):(sB a js).length=16:=by simp [sB]
theorem aHu{a:Nat→Nat→Bool}{js:Nat→Nat}{k j:Nat}(hk:k < 4)(hj:j < 4)(iH:js k=j):ny a (gG js k (j+1))=[]++((lB 4 (sB a js) (j:Int) (k:Int) (a j k)).map Value.bool++[]):=by
 rw [aHv hk hj iH,aie]
 simp only [lB,List.map_set,n9,List.nil_append,List.append_nil]
 rw [Nat.mul_comm]
theorem aI1{a:Nat→Nat→Bool}{js:Nat→Nat}{k j:Nat}(hk:k < 4)(hj:j < 4):∃ rv fw,gT 4 (sB a js) (j:Int)=some rv∧idx rv (k:Int)=some fw:=by
 have h1:gT 4 (sB a js) (j:Int)=some (((sB a js).drop (j * 4)).take 4):=by
  unfold gT
  rw [if_pos ⟨by omega,by rw [aif]; simp; omega⟩]
  simp
 have hl:=px h1
 exact ⟨_,(((sB a js).drop (j * 4)).take 4)[k]'(by omega),h1,by rw [dG]; exact oa (by omega)⟩
noncomputable def lH(B:Base)(Post:Value→World→Prop)(bm bw bo N J:Nat)(a:Nat→Nat→Bool)(ho:bm≠bw∧bm≠bo∧bw≠bo)(hJ:0 < J)(hN:N≤4):Fx :=
 { P:=prog,B:=B,bm:=bm,bw:=bw,bo:=bo,tm:=194,tw:=201,N:=N,J:=J,cont:=λ js=>.cells (ny a js).toArray 145 (0,0),ho:=ho,hJ:=hJ,hN:=hN,mj:=jg prog B Post }
structure wI (R:az) (b:Nat) (x:cy) (v1 v2 v3 v4 v5 v6:Value):Prop where
 c:aS R [] b 0 [iv x.book.Rest,v1,v2,v3,v4,v5,v6]
 h1:aa bS 2 R v1 x.book.Rows
 h2:aa bU 2 R v2 x.book.aR
 h3:aa bL 2 R v3 x.book.an
 h4:aa bV 4 R v4 x.book.ao
 h5:aa bI 3 R v5 x.book.bd
 h6:aa fV 3 R v6 x.fq
theorem wI.up{R R':az}{b:Nat}{x:cy}{v1 v2 v3 v4 v5 v6:Value}(h:wI R b x v1 v2 v3 v4 v5 v6)(hR:aO R R'):wI R' b x v1 v2 v3 v4 v5 v6 :=
 ⟨h.c.up hR,h.h1.mono hR,h.h2.mono hR,h.h3.mono hR,h.h4.mono hR,h.h5.mono hR,h.h6.mono hR⟩
theorem ahP{α β:Type}{f:α→Option β}:∀ {xs:List α} {ys:List β},xs.mapM f=some ys→ys.length=xs.length∧∀ (i:Nat) (x:α),xs[i]? = some x→∃ y,ys[i]? = some y∧f x=some y
 | [],ys,h=>by
  simp at h; subst h
  exact ⟨rfl,λ i x hx=>by simp at hx⟩
 | a::xs,ys,h=>by
  rw [List.mapM_cons] at h
  cases ha:f a with
  | none=>rw [ha] at h; simp at h
  | some b =>
   cases hr:xs.mapM f with
   | none=>rw [ha,hr] at h; simp at h
   | some bs =>
    rw [ha,hr] at h
    simp at h
    subst h
    obtain ⟨h1,h2⟩:=ahP hr
    refine ⟨by simp [h1],λ i x hx=>?_⟩
    cases i with
    | zero=>simp at hx; subst hx; exact ⟨b,rfl,ha⟩
    | succ i=>exact h2 i x (by simpa using hx)
noncomputable def Gw:Code:=(xD (Tryz.f170.body.getD .skip)).getD .skip
variable {x0:cy} {v1 v2 v3 v4 v5 v6:Value} {bm bw bo N J:Nat} {a:Nat→Nat→Bool} {ho:bm≠bw∧bm≠bo∧bw≠bo} {hJ:0 < J} {hN:N≤4} {b1 bk k:Nat}
theorem ase{tmps:Array Value}{st:St}(ht:cX 30 st tmps)(todo:List Item):Gone (aV (jB ⟨170,.deferred,none,30,[],[Ae prog]⟩ tmps todo) [Ae prog]) :=
 QJ.adE (J:=zA prog 0) func170 ht rfl (.inr rfl) ⟨1,aIe⟩
noncomputable abbrev ab2 (bw:Nat):Ctx:=⟨170,.deferred,none,30,[dcall 171 #[.pointer (some ⟨bw,0,none⟩)]],[Ae prog]⟩
noncomputable abbrev M9 (b1 bk bm bw bo J j:Nat):St:=[(0,pt bw),(1,pt b1),(2,pt bk),(3,pt bm),(4,pt bo),(11,iv (J:Int)),(12,iv (j:Int))]
theorem akm(hB:∀ w:World,B.os w.os→B.os w.later.os)(ti:J≤4)(hk:k < N){j:Nat}(hj:j < J)(ha:q9 x0 j k=some (a j k))
  (again:j+1 < J→∀ (n:Nat) (R:az),wI R b1 x0 v1 v2 v3 v4 v5 v6→aS R [] bk 0 [iv (k:Int)]→U (WJ (lH B Post bm bw bo N J a ho hJ hN) n k (j+1) .ld) (ab2 bw) R [] (M9 b1 bk bm bw bo J (j+1)) [.code Gw,.inLoop Gw,.inBlock 0])
  (n:Nat) (R:az) (hO:wI R b1 x0 v1 v2 v3 v4 v5 v6) (eW:aS R [] bk 0 [iv (k:Int)]):U (WJ (lH B Post bm bw bo N J a ho hJ hN) n k j .ld) (ab2 bw) R [] (M9 b1 bk bm bw bo J j) [.code Gw,.inLoop Gw,.inBlock 0]:=by
 obtain ⟨cJ,eM,dW,eN,eG,eO,iV⟩:=hO
 refine U.seq ?_
 refine U.rg [0] ?_
 refine U.vs 1 rfl rfl ?_
 refine U.aT ?_
 refine U.seq ?_
 refine U.fI rfl (by simp; omega) ?_
 refine U.skip ?_
 refine U.seq ?_
 refine U.aY ?_
 refine U.seq ?_
 refine U.rg [0,1,2] ?_
 refine U.vs 1 rfl rfl ?_
 refine U.iY rfl rfl rfl (Ox.alloc (cs:=#[iv 0]) rfl Iq rfl λ b5 _ _=>⟨_,(.put rfl),?_⟩)
 refine U.iY rfl rfl rfl (Ox.kD (cs':=#[_]) rfl rfl rfl bq rfl .here rfl rfl rfl (.refl _) ?_)
 refine U.aT ?_
 refine U.qU (H2:=[]) (λ X=>X++[]) .id rfl (λ Rf uX Pa=>?_)
 replace cJ:=cJ.up (H:=[]) uX
 replace eW:=eW.up (H:=[]) uX
 replace eM:=eM.mono uX
 replace dW:=dW.mono uX
 replace eN:=eN.mono uX
 replace eG:=eG.mono uX
 replace eO:=eO.mono uX
 replace iV:=iV.mono uX
 refine U.seq ?_
 obtain ⟨df,gR,he⟩:∃ df,vB x0 (λ y=>zk y x0 (k:Int) (j:Int))=some df∧(df == (x0.fq.length:Int))=a j k:=by
  unfold q9 at ha
  obtain ⟨x,h1,h2⟩:=ag ha
  exact ⟨x,h1,aA h2⟩
 refine U.dw ie mixed ?_
 refine Any.tk 0 rfl (λ _ h=>h) (λ R' H' hR hS=>Ox.cu (vs:=[_,_,_,_,_,_,_]) rfl rfl dQ rfl (((cJ.le hR).sub (λ p h=>hS p ((λ _ h=>h) p h))).part (j:=0) (n:=7) rfl) rfl (.one rfl) ⟨rfl,rfl,rfl⟩) ?_
 refine Any.tk 1 rfl (λ _ h=>h) (λ R' H' hR hS=>Ox.makeFunc (vs:=#[]) (us:=#[_,_,_]) rfl rfl rfl rfl (.one rfl) ⟨rfl,rfl,rfl⟩) ?_
 refine Any.vs 1 [3] rfl ?_
 refine Any.tk 4 rfl (λ _ h=>h) (λ R' H' hR hS=>Ox.sf rfl rfl sA (((cJ.le hR).sub (λ p h=>hS p ((λ _ h=>h) p h))).one (j:=6) rfl) rfl (.one rfl) ⟨rfl,rfl,rfl⟩) ?_
 refine Any.tk 5 rfl (λ _ h=>h) (λ R' H' hR hS=>Ox.re (K:=fV) (k:=3) (xs:=x0.fq) rfl rfl (iV.mono hR) underlying111 rfl (.one rfl) ⟨rfl,rfl,rfl⟩) ?_
 refine Any.cv 2 Ou (Qv x0 (λ y=>zk y x0 (k:Int) (j:Int)) eM dW eN eG eO iV ⟨172,#[],#[_,_,_],rfl,apj,λ R' H' hR hH y r va hA hr=>by obtain ⟨_,rfl,⟨vz,rfl⟩⟩:=hA; exact (aFg y x0 (k:Int) (j:Int) vz ((cJ.le hR).sub (λ p h=>hH p ((λ _ h=>h) p h))) (eM.mono hR) (dW.mono hR) (eN.mono hR) (eG.mono hR) (eO.mono hR) (iV.mono hR) ((eW.le hR).sub (λ p h=>hH p ((λ _ h=>h) p h))) ((Pa.le hR).sub (λ p h=>hH p ((λ _ h=>h) p h))) hr).mono λ _ _ _ ⟨h1,h2,h3⟩=>⟨h1 ▸ aO.refl _,h2.symm,h3⟩⟩ gR) ?_
 rintro _ Fs _ ⟨hZ,rfl,rfl⟩
 replace eM:=eM.mono hZ
 replace dW:=dW.mono hZ
 replace eN:=eN.mono hZ
 replace eG:=eG.mono hZ
 replace eO:=eO.mono hZ
 replace iV:=iV.mono hZ
 replace cJ:=cJ.le hZ
 replace eW:=eW.le hZ
 replace Pa:=Pa.le hZ
 refine ⟨hZ,(aDe (λ _ h=>h)),?_⟩
 refine Any.vs 2 [6,7] rfl ?_
 refine Any.done ?_
 refine U.sub (st':=(6,.bool (a j k))::(5,pt b5)::M9 b1 bk bm bw bo J j) (cc.sub ⟨congrArg (λ z=>some (Value.bool z)) he,rfl,rfl,rfl,rfl,rfl,rfl,rfl,rfl,trivial⟩) ?_
 refine U.seq ?_
 refine U.rg [0] ?_
 refine U.xF rfl rfl rfl rfl rfl apk rfl (aEc (F:=lH B Post bm bw bo N J a ho hJ hN) hB n) λ aW bh n js iH=>(?_:U (WJ (lH B Post bm bw bo N J a ho hJ hN) n k j (.ul js)) _ _ _ _ _) aW bh
 refine U.aT ?_
 refine U.seq ?_
 obtain ⟨rv,fw,xm,iz⟩:=aI1 (a:=a) (js:=js) (k:=k) (j:=j) (by omega) (by omega)
 have l4:=aif a js
 show U _ _ _ [(bo,.cells (ny a js).toArray 145 (0,0))] _ _
 rw [aie]
 refine U.draw (n:=6) (is:=[0,1,2,3,4,5]) (many ((bo,.cells (List.toArray ([]++((sB a js).map Value.bool++[]))) 145)::[]) [(5,[])]) mixed rfl (by decide +kernel) rfl rfl ?_
 refine Any.EN (i:=0) [3,4,5] rfl rfl rfl (by decide +kernel) (fQ rfl (kM (λ _ h=>(List.Sublist.subset (List.Sublist.cons _ (List.Sublist.refl _))) h))) (λ _ h=>(List.Sublist.subset (List.Sublist.cons _ (List.Sublist.refl _))) h) (λ R' H' hR hS=>Ox.sf rfl rfl bq (((Pa.le hR).sub (λ p h=>hS p ((λ _ h=>h) p h))).one (j:=0) rfl) rfl (.one rfl) ⟨rfl,rfl,rfl⟩) (.refl _) (by decide) (qs:=[1,2,3,4,5]) rfl ?_
 refine Any.EN (i:=1) [4,5] rfl rfl rfl (by decide +kernel) (fQ rfl (kM (λ _ h=>(List.Sublist.subset (List.Sublist.cons _ (List.Sublist.refl _))) h))) (λ _ h=>(List.Sublist.subset (List.Sublist.cons _ (List.Sublist.refl _))) h) (λ R' H' hR hS=>Ox.sf rfl rfl bq (((eW.le hR).sub (λ p h=>hS p ((λ _ h=>h) p h))).one (j:=0) rfl) rfl (.one rfl) ⟨rfl,rfl,rfl⟩) (.refl _) (by decide) (qs:=[2,3,4,5]) rfl ?_
 refine Any.vs 1 [2] rfl ?_
 refine Any.EN (i:=3) [4,5] rfl rfl rfl (by decide +kernel) (fQ rfl (kM (λ _ h=>(List.Sublist.subset (List.Sublist.cons _ (List.Sublist.refl _))) h))) (λ _ h=>(List.Sublist.subset (List.Sublist.cons _ (List.Sublist.refl _))) h) (λ R' H' hR hS=>Ox.Qf rfl rfl rfl (xC wL l4 (by decide) xm) rfl (.one rfl) ⟨rfl,rfl,rfl⟩) (.refl _) (by decide) (qs:=[4,5]) rfl ?_
 refine Any.EN (i:=4) [5] rfl rfl rfl (by decide +kernel) (fQ rfl (kM (λ _ h=>(List.Sublist.subset (List.Sublist.cons _ (List.Sublist.refl _))) h))) (λ _ h=>(List.Sublist.subset (List.Sublist.cons _ (List.Sublist.refl _))) h) (λ R' H' hR hS=>Ox.Qf rfl rfl rfl (pk rC (px xm) iz) rfl (.one rfl) ⟨rfl,rfl,rfl⟩) (.refl _) (by decide) (qs:=[5]) rfl ?_
 refine Any.on 5 rfl rfl (aZ.to (Ox.kD rfl rfl rfl iK rfl .here (TU xm iz rfl) (TW xm iz rfl) rfl (.refl _) ⟨aO.refl _,(ia rfl (λ _ h=>(List.Sublist.subset (List.Sublist.cons _ (List.Sublist.refl _))) h)),?_⟩))
 refine Any.done ?_
 rw [← aHu (a:=a) (by omega) (by omega) iH]
 refine U.rg [0] ?_
 have dS:i64 ((j:Int)+1)=((j+1:Nat):Int):=by rw [Qc (by omega)]; omega
 refine U.xF rfl rfl rfl rfl rfl apl rfl (aJY (F:=lH B Post bm bw bo N J a ho hJ hN) (js:=js) (show j+1≤J by omega) n) λ aW bh=>⟨λ h n=>(?_:U (WJ (lH B Post bm bw bo N J a ho hJ hN) n k (j+1) .ld) _ _ _ _ _) aW bh,λ h n=>(?_:U (WJ (lH B Post bm bw bo N J a ho hJ hN) n k (j+1) .wv) _ _ _ _ _) aW bh⟩
 ·refine U.aT ?_
  refine U.bC ?_
  refine U.rg [0,1] ?_
  refine U.vs 2 rfl rfl ?_
  refine U.aT ?_
  refine U.inLoop ?_
  refine U.sub ?_ (again h n _ ⟨cJ,eM,dW,eN,eG,eO,iV⟩ eW)
  exact cc.sub ⟨rfl,rfl,rfl,rfl,rfl,rfl,congrArg (λ z=>some (iv z)) dS,trivial⟩
 ·have hJe:j+1=J:=h
  refine U.aT ?_
  refine U.bC ?_
  refine U.rg [0,1] ?_
  refine U.vs 2 rfl rfl ?_
  refine U.aT ?_
  refine U.inLoop ?_
  refine U.sub (st':=M9 b1 bk bm bw bo J (j+1)) (cc.sub ⟨rfl,rfl,rfl,rfl,rfl,rfl,congrArg (λ z=>some (iv z)) dS,trivial⟩) ?_
  refine U.seq ?_
  refine U.rg [0] ?_
  refine U.vs 1 rfl rfl ?_
  refine U.aT ?_
  refine U.seq ?_
  refine U.eF rfl (by simp; omega) ?_
  refine U.cE rfl ?_
  refine U.toEnd rfl λ tmps ht=>?_
  exact Jd.unwind rfl func171 rfl rfl (aoE (F:=lH B Post bm bw bo N J a ho hJ hN) (.inl rfl) (ase ht _) n)
theorem akl(hB:∀ w:World,B.os w.os→B.os w.later.os)(ti:J≤4)(hk:k < N)(ha:∀ j,j < J→q9 x0 j k=some (a j k)):∀ (m j:Nat),J=j+m+1→∀ (n:Nat) (R:az),wI R b1 x0 v1 v2 v3 v4 v5 v6→aS R [] bk 0 [iv (k:Int)] →
  U (WJ (lH B Post bm bw bo N J a ho hJ hN) n k j .ld) (ab2 bw) R [] (M9 b1 bk bm bw bo J j) [.code Gw,.inLoop Gw,.inBlock 0]
 | 0,j,hm,n,R,hO,hc=>akm hB ti hk (by omega) (ha j (by omega)) (λ h=>by omega) n R hO hc
 | m+1,j,hm,n,R,hO,hc=>akm hB ti hk (by omega) (ha j (by omega)) (λ _ n R hO hc=>akl hB ti hk ha m (j+1) (by omega) n R hO hc) n R hO hc
theorem aK6(hB:∀ w:World,B.os w.os→B.os w.later.os)(ti:J≤4)(CW:x0.book.ao.length=J)(hk:k < N)(ha:∀ j,j < J→q9 x0 j k=some (a j k))(n:Nat){R:az}(hO:wI R b1 x0 v1 v2 v3 v4 v5 v6)(hc:aS R [] bk 0 [iv (k:Int)]) :
  Own prog B false (KW (FT (lH B Post bm bw bo N J a ho hJ hN)) n k 0 .ld) R [] (aV (Frame.enter prog 170 (#[]++#[pt bw,pt b1,pt bk,pt bm,pt bo]) .deferred) [Ae prog]):=by
 refine Jd.enter (ab:=WJ (lH B Post bm bw bo N J a ho hJ hN) n k 0 .ld) (args:=[pt bw,pt b1,pt bk,pt bm,pt bo]) func170 rfl (m:=30) rfl rfl ?_
 refine U.seq ?_
 refine U.rg [0] ?_
 refine U.defer rfl rfl rfl rfl rfl rfl rfl (.QT rfl) ?_
 refine U.aT ?_
 refine U.seq ?_
 refine U.rg [0,1,2,3,4,5] ?_
 refine U.vs 3 rfl rfl ?_
 refine U.iY rfl rfl rfl (Ox.sf rfl rfl ib (hO.c.any.one (j:=4) rfl) rfl (.put rfl) ?_)
 refine U.iY rfl rfl rfl (Ox.re (K:=bV) (k:=4) (xs:=x0.book.ao) rfl rfl hO.h4 underlying25 rfl (.put rfl) ?_)
 refine U.vs 1 rfl rfl ?_
 refine U.aT ?_
 refine U.aY ?_
 refine U.enterLoop ?_
 refine U.sub ?_ (akl (m:=J - 1) (j:=0) hB ti hk ha (by omega) n R hO hc)
 exact cc.sub ⟨rfl,rfl,rfl,rfl,rfl,by rw [← CW]; rfl,rfl,trivial⟩
noncomputable def Gv:Code:=(xD (Tryz.f123.body.getD .skip)).getD .skip
abbrev xN(b1 b2 bo bm bw:Nat):St:=[(1,pt b1),(2,pt b2),(3,pt bo),(4,pt bm),(5,pt bw)]
theorem ai7{c:Ctx}(fg:c.n=20)(Bd:c.kind = .normal)(Bf:c.ro=none){b2:Nat}{H0:ah}{K:List Item}(hB:∀ w:World,B.os w.os→B.os w.later.os)(ti:J≤4)(CW:x0.book.ao.length=J)(ha:∀ j k,j < J→k < N→q9 x0 j k=some (a j k)){r i n:Nat}{R':az}(hi:N=i+r+1)
  (next:∀ (n:Nat) (cN:az),aO R' cN→U (gC (lH B Post bm bw bo N J a ho hJ hN) n (kO r)) c cN H0 ((11,iv (N:Int))::(12,iv ((i+1:Nat):Int))::xN b1 b2 bo bm bw) (.code Gv :: .inLoop Gv :: .inBlock 0::K))
  (hO:wI R' b1 x0 v1 v2 v3 v4 v5 v6) :
  U (gC (lH B Post bm bw bo N J a ho hJ hN) n (.ka r)) c R' H0 ((11,iv (N:Int))::(12,iv (i:Int))::xN b1 b2 bo bm bw) (.code Gv :: .inLoop Gv :: .inBlock 0::K):=by
 obtain ⟨cf,ck,cr,cn,cd,ccs⟩:=c
 simp only at fg Bd Bf
 subst fg Bd Bf
 refine U.seq ?_
 refine U.rg [0] ?_
 refine U.vs 1 rfl rfl ?_
 refine U.aT ?_
 refine U.seq ?_
 refine U.fI rfl (by simp; omega) ?_
 refine U.skip ?_
 refine U.seq ?_
 refine U.aY ?_
 refine U.seq ?_
 refine U.rg [0,1,2] ?_
 refine U.vs 1 rfl rfl ?_
 refine U.iY rfl rfl rfl (Ox.alloc (cs:=#[iv 0]) rfl Iq rfl λ b6 _ _=>⟨_,(.put rfl),?_⟩)
 refine U.iY rfl rfl rfl (Ox.kD (cs':=#[_]) rfl rfl rfl bq rfl .here rfl rfl rfl (.refl _) ?_)
 refine U.aT ?_
 refine U.qU (H2:=H0) (λ X=>X++H0) .id rfl (λ Rf uX hc6=>?_)
 replace hO:=hO.up uX
 refine U.seq ?_
 refine U.rg [0] ?_
 refine U.xF rfl rfl rfl rfl rfl aeO rfl (aGF (F:=lH B Post bm bw bo N J a ho hJ hN) r n) λ aW bh n=>(?_:U (gC (lH B Post bm bw bo N J a ho hJ hN) n (.go r)) _ _ _ _ _) aW bh
 refine U.aT ?_
 refine U.rg [0,1] ?_
 refine U.iY rfl rfl rfl (Ox.makeFunc (vs:=#[]) (us:=#[_,_,_,_,_]) rfl rfl rfl rfl (.put rfl) ?_)
 have dS:i64 ((i:Int)+1)=((i+1:Nat):Int):=by rw [Qc (by omega)]; omega
 refine sM λ m hm=>KM.spawn (F:=FT (lH B Post bm bw bo N J a ho hJ hN)) (d:=⟨.fn (.func 170) #[pt bw,pt b1,pt b6,pt bm,pt bo],#[]⟩) rfl rfl rfl (aIx rfl rfl rfl) rfl rfl ?_ λ aW bh=>(?_:U (gC (lH B Post bm bw bo N J a ho hJ hN) m (kO r)) _ _ _ _ _) aW bh
 ·refine Own.child rfl (aKd api) ?_
  have ei:N - (r+1)=i:=by omega
  show Own _ _ _ (KW _ m (N - (r+1)) 0 .ld) _ _ _
  rw [ei]
  exact aK6 (k:=i) hB ti CW (by omega) (λ j hj=>ha j i hj (by omega)) m hO hc6
 ·refine U.aT ?_
  refine U.bC ?_
  refine U.rg [0,1] ?_
  refine U.vs 2 rfl rfl ?_
  refine U.aT ?_
  refine U.inLoop ?_
  refine U.sub ?_ (next m Rf uX)
  exact cc.sub ⟨rfl,congrArg (λ z=>some (iv z)) dS,rfl,rfl,rfl,rfl,rfl,trivial⟩
theorem ai6{c:Ctx}(fg:c.n=20)(Bd:c.kind = .normal)(Bf:c.ro=none){b2:Nat}{H0:ah}{K:List Item}(hB:∀ w:World,B.os w.os→B.os w.later.os)(ti:J≤4)(CW:x0.book.ao.length=J)(ha:∀ j k,j < J→k < N→q9 x0 j k=some (a j k))
  (af0:∀ (n:Nat) (R':az),aO R R'→U (gC (lH B Post bm bw bo N J a ho hJ hN) n .wa) c R' H0 (xN b1 b2 bo bm bw) K):∀ (r i n:Nat) (R':az),N=i+r+1→aO R R'→wI R' b1 x0 v1 v2 v3 v4 v5 v6 →
  U (gC (lH B Post bm bw bo N J a ho hJ hN) n (.ka r)) c R' H0 ((11,iv (N:Int))::(12,iv (i:Int))::xN b1 b2 bo bm bw) (.code Gv :: .inLoop Gv :: .inBlock 0::K)
 | 0,i,n,R',hi,hR,hO=>ai7 fg Bd Bf hB ti CW ha hi (λ n cN tn=>by
   obtain ⟨cf,ck,cr,cn,cd,ccs⟩:=c
   simp only at fg Bd Bf
   subst fg Bd Bf
   refine U.seq ?_
   refine U.rg [0] ?_
   refine U.vs 1 rfl rfl ?_
   refine U.aT ?_
   refine U.seq ?_
   refine U.eF rfl (by rw [decide_eq_false_iff_not]; omega) ?_
   refine U.cE rfl ?_
   refine U.sub ?_ (af0 n cN (hR.trans tn))
   exact cc.sub ⟨rfl,rfl,rfl,rfl,rfl,trivial⟩) hO
 | r+1,i,n,R',hi,hR,hO=>ai7 fg Bd Bf hB ti CW ha hi (λ n cN tn=>ai6 fg Bd Bf hB ti CW ha af0 r (i+1) n cN (by omega) (hR.trans tn) (hO.up tn)) hO
theorem amD{x0:cy}{r:List Bool}(Vi:x0.book.ao.length≤4)(Jy:x0.book.an.length≤4)
  (hr:(((List.range 16).mapM λ (p:Nat)=>if p / 4 < x0.book.ao.length∧p % 4 < x0.book.an.length then q9 x0 (p / 4) (p % 4) else some false):Option (List Bool))=some r) :
  ∃ a:Nat→Nat→Bool,r.length=16∧(∀ i k,i < x0.book.ao.length→k < x0.book.an.length→q9 x0 i k=some (a i k))∧∀ js,(∀ k,k < x0.book.an.length→js k=x0.book.ao.length)→ny a js=[]++(r.map Value.bool++[]):=by
 obtain ⟨hlen,vb⟩:=ahP hr
 rw [List.length_range] at hlen
 have Pe:∀ i k,i < 4→k < 4→∃ y,r[4 * i+k]? = some y∧(if i < x0.book.ao.length∧k < x0.book.an.length then q9 x0 i k else some false)=some y:=λ i k hi hk=>by
  obtain ⟨y,g1,g2⟩:=vb (4 * i+k) (4 * i+k) (List.getElem?_range (by omega))
  rw [show (4 * i+k) / 4=i by omega,show (4 * i+k) % 4=k by omega] at g2
  exact ⟨y,g1,g2⟩
 refine ⟨λ i k=>(r[4 * i+k]?).getD false,hlen,λ i k hi hk=>?_,λ js iH=>?_⟩
 ·obtain ⟨y,g1,g2⟩:=Pe i k (by omega) (by omega)
  rw [if_pos ⟨hi,hk⟩] at g2
  rw [g2]
  show some y=some ((r[4 * i+k]?).getD false)
  rw [g1]; rfl
 ·apply List.ext_getElem?
  intro p
  rcases Nat.lt_or_ge p 16 with hp | hp
  ·rw [aaY hp]
   obtain ⟨y,g1,g2⟩:=Pe (p / 4) (p % 4) (by omega) (by omega)
   rw [show 4 * (p / 4)+p % 4=p by omega] at g1
   simp only [List.nil_append,List.append_nil,List.getElem?_map,show 4 * (p / 4)+p % 4=p by omega,g1,Option.map_some,oT]
   by_cases nV:p / 4 < x0.book.ao.length∧p % 4 < x0.book.an.length
   ·rw [iH _ nV.2,wE nV.1,Bool.true_and]
   ·rw [if_neg nV] at g2
    rw [← aA g2,Bool.and_false]
  ·rw [List.getElem?_eq_none (by simp [ny]; exact hp),List.getElem?_eq_none (by simp [hlen]; exact hp)]
theorem amE(hB:∀ w:World,B.os w.os→B.os w.later.os):yn (Ev prog B Post):=by
 intro R H x0 v1 v2 v3 v4 v5 v6 h1 h2 h3 h4 h5 h6 r hr
 unfold tH at hr
 split at hr
 case isFalse=>cases hr
 rename_i hc
 obtain ⟨⟨Vh,Vi⟩,hN0,Jy⟩:=hc
 obtain ⟨a,hlen,ha,yS⟩:=amD Vi Jy hr
 refine bg.oC (args:=[.agg #[iv x0.book.Rest,v1,v2,v3,v4,v5,v6]]) func123 rfl (n:=20) rfl rfl λ fr cs hk=>?_
 refine U.seq ?_
 refine U.rg [0,1] ?_
 refine U.iY rfl rfl rfl (Ox.adN rfl rfl rfl λ b1 _ _=>⟨_,(.put rfl),?_⟩)
 refine U.iY rfl rfl rfl (Ox.alloc (cs:=#[.bool false,.bool false,.bool false,.bool false,.bool false,.bool false,.bool false,.bool false,.bool false,.bool false,.bool false,.bool false,.bool false,.bool false,.bool false,.bool false]) rfl iR rfl λ b2 _ _=>⟨_,(.put rfl),?_⟩)
 refine U.aT ?_
 refine U.seq ?_
 refine U.rg [0] ?_
 refine U.iY rfl rfl rfl (Ox.alloc (cs:=#[.bool false,.bool false,.bool false,.bool false,.bool false,.bool false,.bool false,.bool false,.bool false,.bool false,.bool false,.bool false,.bool false,.bool false,.bool false,.bool false]) rfl iR rfl λ b3 _ n3=>⟨_,(.put rfl),?_⟩)
 refine U.aT ?_
 refine U.seq ?_
 refine U.rg [0] ?_
 refine U.iY rfl rfl rfl (Ox.alloc (cs:=#[.int .i32 0,.int .u32 0]) rfl aLh rfl λ b4 _ n4=>⟨_,(.put rfl),?_⟩)
 refine U.aT ?_
 refine U.seq ?_
 refine U.rg [0] ?_
 refine U.iY rfl rfl rfl (Ox.alloc (cs:=#[.int .u64 0,.int .u32 0]) rfl aLi rfl λ b5 _ n5=>⟨_,(.put rfl),?_⟩)
 refine U.aT ?_
 have ho:b4≠b5∧b4≠b3∧b5≠b3:=⟨λ e=>by subst e; exact n5 _ (List.mem_cons_self),λ e=>by subst e; exact n4 _ (List.mem_cons_self),λ e=>by subst e; exact n5 _ (List.mem_cons_of_mem _ (List.mem_cons_self))⟩
 clear n3 n4 n5
 refine U.seq ?_
 refine U.seq ?_
 refine U.rg [0,1,2,3,4,5] ?_
 refine U.vs 3 rfl rfl ?_
 refine U.iY rfl rfl rfl (Ox.sf rfl rfl iJ ((aS.box (L:=[iv x0.book.Rest,v1,v2,v3,v4,v5,v6]) (.tail _ (.tail _ (.tail _ (.tail _ (.head _)))))).one (j:=3) rfl) rfl (.put rfl) ?_)
 refine U.iY rfl rfl rfl (Ox.re (K:=bL) (k:=2) (xs:=x0.book.an) rfl rfl h3 underlying24 rfl (.put rfl) ?_)
 refine U.vs 1 rfl rfl ?_
 refine U.aT ?_
 refine U.aY ?_
 refine U.qU (H2:=(b5,_)::(b4,_)::(b3,_)::(b2,_)::H) (λ X=>(b5,_)::(b4,_)::(b3,_)::(b2,_)::X++H) (.cons (.cons (.cons (.cons .id)))) rfl (λ R1 CX cJ=>?_)
 have hO:wI R1 b1 x0 v1 v2 v3 v4 v5 v6:=⟨cJ,h1.mono CX,h2.mono CX,h3.mono CX,h4.mono CX,h5.mono CX,h6.mono CX⟩
 refine U.enterLoop ?_
 refine U.perm (H':=(b3,_)::(b5,_)::(b4,_)::(b2,_)::H) ((List.Perm.swap _ _ _).trans (List.Perm.cons _ (List.Perm.swap _ _ _))) ?_
 have e0:Obj.cells (ny a λ _=>0).toArray 145 (0,0)=Obj.cells #[.bool false,.bool false,.bool false,.bool false,.bool false,.bool false,.bool false,.bool false,.bool false,.bool false,.bool false,.bool false,.bool false,.bool false,.bool false,.bool false] 145 (0,0):=by rw [aHw]; rfl
 rw [← e0]
 intro tmps ht
 refine jg.crowd (F:=lH B Post b4 b5 b3 x0.book.an.length x0.book.ao.length a ho Vh Jy) (r:=x0.book.an.length - 1) rfl (show x0.book.an.length=x0.book.an.length - 1+1 by omega) λ n=>?_
 refine (?_:U (gC (lH B Post b4 b5 b3 x0.book.an.length x0.book.ao.length a ho Vh Jy) n (.ka (x0.book.an.length - 1))) _ _ _ _ _) tmps ht
 refine U.sub ?_ (ai6 (c:=⟨123,.normal,none,20,[],fr::cs⟩) (b2:=b2) (R:=R1) rfl rfl rfl hB Vi rfl ha (λ n R' Jz=>?_) (x0.book.an.length - 1) 0 n R1 (by omega) (aO.refl _) hO)
 ·exact cc.sub ⟨rfl,rfl,rfl,rfl,rfl,rfl,rfl,trivial⟩
 ·refine U.seq ?_
  refine U.rg [0] ?_
  refine U.xF rfl rfl rfl rfl rfl apm rfl (aKW (F:=lH B Post b4 b5 b3 x0.book.an.length x0.book.ao.length a ho Vh Jy) (Post:=Post) rfl n) λ aW bh js iH=>(?_:U (Ev prog B Post) _ _ _ _ _) aW bh
  refine U.aT ?_
  refine U.seq ?_
  show U _ _ _ ((b3,.cells (ny a js).toArray 145 (0,0))::_) _ _
  rw [yS js iH]
  refine U.rg [0,1] ?_
  refine U.iY rfl rfl rfl (Ox.cu (vs:=_) rfl rfl cT (by simp [hlen]) ((aS.box (.head _)).part (j:=0) (n:=16) (fj (by simp [hlen]))) rfl (.put rfl) ?_)
  refine U.iY rfl rfl rfl (Ox.fT (cs':=_) rfl rfl rfl cT (by simp [hlen]) (fi dn (fi (lQ λ _=>rfl) dn)) (.there .here) (by simp [ny]) (lz (by simp [hlen,ny])) rfl (.refl _) ?_)
  refine U.aT ?_
  exact U.EH func123 (.agg rfl cT (by simp [hlen]) (aS.box (.tail _ (.head _))) .nil) (J.drop (List.Sublist.cons _ (List.Sublist.cons _ (List.Sublist.refl _))) (hk _ _ _ ⟨CX.trans Jz,rfl,hlen,rfl⟩))
end
open Go.ChangeShapes Go.WideShapes Go.ChangeAt Go.RowKit
theorem tS:im prog 3 (CI .i64) 1:=im.int (by kernel_rfl) underlying3
theorem aIs:im prog 9 CS 1:=im.str (by kernel_rfl) underlying9
def CBo:cG Bool:=λ _ x es=>es=[.bool x]
theorem aIo:im prog 4 CBo 1:=⟨by kernel_rfl,λ W T enc sp held fuel cs x h=>by
 obtain ⟨b,rfl,_⟩:=DataW.trod_bool underlying4 h
 exact ⟨rfl,b,rfl⟩⟩
theorem aIp:im prog 41 bU 2:=⟨by kernel_rfl,λ W T enc sp held fuel cs x h=>by
 obtain ⟨xs,n,_,_,hl,hx,hf⟩:=DataW.trod_struct underlying41 h
 have hc:cs.length=2:=hl.trans (by kernel_rfl)
 match cs,hc with
 | [c0,c1],_ =>
  obtain ⟨a0,h0⟩:=tS.field [c0] hx (hf 0 _ rfl)
  obtain ⟨a1,h1⟩:=tS.field [c1] hx (hf 1 _ rfl)
  cases h0; cases h1
  exact ⟨rfl,⟨a0,a1⟩,rfl⟩⟩
theorem aIr:im prog 64 bS 2:=⟨by kernel_rfl,λ W T enc sp held fuel cs x h=>by
 obtain ⟨xs,n,_,_,hl,hx,hf⟩:=DataW.trod_struct underlying64 h
 have hc:cs.length=2:=hl.trans (by kernel_rfl)
 match cs,hc with
 | [c0,c1],_ =>
  obtain ⟨a0,h0⟩:=tS.field [c0] hx (hf 0 _ rfl)
  obtain ⟨a1,h1⟩:=tS.field [c1] hx (hf 1 _ rfl)
  cases h0; cases h1
  exact ⟨rfl,⟨a0,a1⟩,rfl⟩⟩
theorem aIt:im prog 93 bL 2:=⟨by kernel_rfl,λ W T enc sp held fuel cs x h=>by
 obtain ⟨xs,n,_,_,hl,hx,hf⟩:=DataW.trod_struct underlying93 h
 have hc:cs.length=2:=hl.trans (by kernel_rfl)
 match cs,hc with
 | [c0,c1],_ =>
  obtain ⟨a0,h0⟩:=aIs.field [c0] hx (hf 0 _ rfl)
  obtain ⟨a1,h1⟩:=tS.field [c1] hx (hf 1 _ rfl)
  cases h0; cases h1
  exact ⟨rfl,⟨a0,a1⟩,rfl⟩⟩
theorem aIu:im prog 96 bV 4:=⟨by kernel_rfl,λ W T enc sp held fuel cs x h=>by
 obtain ⟨xs,n,_,_,hl,hx,hf⟩:=DataW.trod_struct underlying96 h
 have hc:cs.length=4:=hl.trans (by kernel_rfl)
 match cs,hc with
 | [c0,c1,c2,c3],_ =>
  obtain ⟨a0,h0⟩:=tS.field [c0] hx (hf 0 _ rfl)
  obtain ⟨a1,h1⟩:=tS.field [c1] hx (hf 1 _ rfl)
  obtain ⟨a2,h2⟩:=tS.field [c2] hx (hf 2 _ rfl)
  obtain ⟨a3,h3⟩:=tS.field [c3] hx (hf 3 _ rfl)
  cases h0; cases h1; cases h2; cases h3
  exact ⟨rfl,⟨a0,a1,a2,a3⟩,rfl⟩⟩
theorem aIq:im prog 59 bI 3:=⟨by kernel_rfl,λ W T enc sp held fuel cs x h=>by
 obtain ⟨xs,n,_,_,hl,hx,hf⟩:=DataW.trod_struct underlying59 h
 have hc:cs.length=3:=hl.trans (by kernel_rfl)
 match cs,hc with
 | [c0,c1,c2],_ =>
  obtain ⟨a0,h0⟩:=tS.field [c0] hx (hf 0 _ rfl)
  obtain ⟨a1,h1⟩:=tS.field [c1] hx (hf 1 _ rfl)
  obtain ⟨a2,h2⟩:=aIo.field [c2] hx (hf 2 _ rfl)
  cases h0; cases h1; cases h2
  exact ⟨rfl,⟨a0,a1,a2⟩,rfl⟩⟩
theorem aIi:im prog 22 (cq bS 2) 1:=im.slice (by kernel_rfl) underlying22 (by decide) aIr
theorem aIj:im prog 23 (cq bU 2) 1:=im.slice (by kernel_rfl) underlying23 (by decide) aIp
theorem aIk:im prog 24 (cq bL 2) 1:=im.slice (by kernel_rfl) underlying24 (by decide) aIt
theorem aIl:im prog 25 (cq bV 4) 1:=im.slice (by kernel_rfl) underlying25 (by decide) aIu
theorem aIm:im prog 26 (cq bI 3) 1:=im.slice (by kernel_rfl) underlying26 (by decide) aIq
theorem aIn:im prog 28 S2 6:=⟨by kernel_rfl,λ W T enc sp held fuel cs x h=>by
 obtain ⟨xs,n,_,_,hl,hx,hf⟩:=DataW.trod_struct underlying28 h
 have hc:cs.length=6:=hl.trans (by kernel_rfl)
 match cs,hc with
 | [c0,c1,c2,c3,c4,c5],_ =>
  obtain ⟨a0,h0⟩:=tS.field [c0] hx (hf 0 _ rfl)
  obtain ⟨a1,v1,h1,g1⟩:=aIi.field [c1] hx (hf 1 _ rfl)
  obtain ⟨a2,v2,h2,g2⟩:=aIj.field [c2] hx (hf 2 _ rfl)
  obtain ⟨a3,v3,h3,g3⟩:=aIk.field [c3] hx (hf 3 _ rfl)
  obtain ⟨a4,v4,h4,g4⟩:=aIl.field [c4] hx (hf 4 _ rfl)
  obtain ⟨a5,v5,h5,g5⟩:=aIm.field [c5] hx (hf 5 _ rfl)
  cases h0; cases h1; cases h2; cases h3; cases h4; cases h5
  exact ⟨rfl,⟨a0,a1,a2,a3,a4,a5⟩,c1,c2,c3,c4,c5,g1,g2,g3,g4,g5,rfl⟩⟩
section
variable {W:World} {T:Type} {enc:TypeId × Value→T} {b0:Nat} {v:Value} {d:DataW T} {p:List MemPlace}
theorem ant(hv:Value.okWide prog W .any b0 28 v)(h:DataW.Trod enc prog W 0 (λ _=>true) true 28 v d p) :
  ∃ (x:aj) (v1 v2 v3 v4 v5:Value),v = .agg #[iv x.Rest,v1,v2,v3,v4,v5]∧aa bS 2 (rW W) v1 x.Rows∧aa bU 2 (rW W) v2 x.aR∧aa bL 2 (rW W) v3 x.an∧aa bV 4 (rW W) v4 x.ao∧aa bI 3 (rW W) v5 x.bd:=by
 obtain ⟨cs,rfl,_⟩:=okWide_struct underlying28 hv
 obtain ⟨fuel,hf⟩:=h
 obtain ⟨_,x,v1,v2,v3,v4,v5,h1,h2,h3,h4,h5,e⟩:=aIn.rd _ _ _ _ _ _ _ _ hf
 exact ⟨x,v1,v2,v3,v4,v5,by rw [← Array.toArray_toList (xs:=cs),show cs.toList=_ from e],h1,h2,h3,h4,h5⟩
end
theorem asb:prog.globalNamed "lagan/stint.checks"=some 0:=by kernel_rfl
theorem aJJ:(prog.globals[0]?).map (·.type)=some 180:=by kernel_rfl
abbrev Ly:List (String × DataW Unit):=[("lagan/stint.checks",Rows.laid_lagan_stint_checks)]
theorem aoF(os:Os)(args:Array Value):laidMetH prog Ly ((World.doorLaid prog 14 os).forCall (λ _ _=>0) ⟨#[],args,[]⟩).memory :=
 laidMetH_of_parts3 (fuel:=8) (laidMet_of_run' 8 (by kernel_rfl) (by kernel_rfl)) (by kernel_rfl) (by kernel_rfl)
theorem aG4{W:World}(h:laidMetH prog Ly W):jE (rW W):=by
 obtain ⟨g,t,cs,fuel,p,hg,ht,hv,hd⟩:=h.funcs (n := "lagan/stint.checks") (List.mem_cons_self ..)
 obtain rfl:=lV (asb.symm.trans hg)
 obtain rfl:=lV (aJJ.symm.trans ht)
 obtain ⟨xs,n,_,hx,hlen,hn,l6⟩:=DataW.trod_array underlying180 (show DataW.trod (funcToken prog) prog W 0 (λ _=>true) true fuel 180 cs.toList=some (.agg [.held [40,108,97,103,97,110,47,115,116,105,110,116,46,98,111,111,107,41,46,114,101,115,116],.held [40,108,97,103,97,110,47,115,116,105,110,116,46,98,111,111,107,41,46,116,97,98,108,101],.held [40,108,97,103,97,110,47,115,116,105,110,116,46,98,111,111,107,41,46,112,108,97,99,101,115],.held [40,108,97,103,97,110,47,115,116,105,110,116,46,98,111,111,107,41,46,109,101,110],.held [40,108,97,103,97,110,47,115,116,105,110,116,46,98,111,111,107,41,46,100,105,118,101,115],.held [40,108,97,103,97,110,47,115,116,105,110,116,46,98,111,111,107,41,46,115,111,117,110,100,105,110,103,115]],p) from hd)
 rw [show prog.cellsOf 125=1 by kernel_rfl] at l6
 have hl:cs.toList.length=6:=hlen.trans (by kernel_rfl)
 obtain ⟨cs⟩:=cs
 simp only at hl l6
 match xs,hn,cs,hl with
 | [x0,x1,x2,x3,x4,x5],_,[c0,c1,c2,c3,c4,c5],_ =>
  simp only [Prod.mk.injEq,DataW.agg.injEq,List.map_cons,List.map_nil,List.cons.injEq,and_true] at hx
  obtain ⟨⟨e0,e1,e2,e3,e4,e5⟩,_⟩:=hx
  obtain ⟨x0,q0⟩:=x0
  obtain ⟨x1,q1⟩:=x1
  obtain ⟨x2,q2⟩:=x2
  obtain ⟨x3,q3⟩:=x3
  obtain ⟨x4,q4⟩:=x4
  obtain ⟨x5,q5⟩:=x5
  simp only at e0 e1 e2 e3 e4 e5
  subst e0 e1 e2 e3 e4 e5
  obtain rfl:=func_of_trod (f0:=265) underlying125 (by kernel_rfl) (l6 0 (by decide))
  obtain rfl:=func_of_trod (f0:=266) underlying125 (by kernel_rfl) (l6 1 (by decide))
  obtain rfl:=func_of_trod (f0:=267) underlying125 (by kernel_rfl) (l6 2 (by decide))
  obtain rfl:=func_of_trod (f0:=268) underlying125 (by kernel_rfl) (l6 3 (by decide))
  obtain rfl:=func_of_trod (f0:=269) underlying125 (by kernel_rfl) (l6 4 (by decide))
  obtain rfl:=func_of_trod (f0:=270) underlying125 (by kernel_rfl) (l6 5 (by decide))
  intro j v hj
  rw [Nat.zero_add]
  refine aok ?_
  rw [World.var?_cell hg hv j]
  simpa using hj
end Go.Proofs.YtihapemckcdicaaGreatDoor
