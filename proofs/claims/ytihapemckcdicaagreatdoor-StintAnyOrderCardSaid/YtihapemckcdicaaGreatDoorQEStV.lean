/- What able does in company; the arguments of the statements. Conditions: none. -/
import Derived.Test.YtihapemckcdicaaGreatDoorQEStF
import Derived.Test.YtihapemckcdicaaGreatDoorQELgE
import Derived.Test.YtihapemckcdicaaGreatDoorQEStW1
import Derived.Test.YtihapemckcdicaaGreatDoorQEStG
import Derived.Test.YtihapemckcdicaaGreatDoorTie
import Derived.Stop.Joined
import Derived.LaidOnce
import Derived.ProofKit
import Derived.OpenShut
namespace Go.Proofs.YtihapemckcdicaaGreatDoor
open Go.Lg Go.Proofs Go.Conc Go.ConcN Tryz
set_option maxRecDepth 100000
set_option maxHeartbeats 4000000
section
variable {B:Base} {R:az} {H:an} {Post:Value→World→Prop}
abbrev pt(b:Nat):Value:=.pointer (some ⟨b,0,none⟩)
def rO(a:Nat→Nat→Bool)(js:Nat→Nat):List Bool:=(List.range 16).map λ p=>decide (p / 4 < js (p % 4)) && a (p / 4) (p % 4)
theorem aeE(a:Nat→Nat→Bool)(js:Nat→Nat):jO a js=[]++((rO a js).map Value.bool++[]):=by simp [jO,rO]
theorem aeF(a:Nat→Nat→Bool)(js:Nat→Nat):(rO a js).length=16:=by simp [rO]
theorem aB7{a:Nat→Nat→Bool}{js:Nat→Nat}{k j:Nat}(hk:k < 4)(hj:j < 4)(iC:js k=j):jO a (gn js k (j+1))=[]++((lM 4 (rO a js) (j:Int) (k:Int) (a j k)).map Value.bool++[]):=by
 rw [aB8 hk hj iC,aeE]
 simp only [lM,List.map_set,Int.toNat_natCast,List.nil_append,List.append_nil]
 rw [Nat.mul_comm]
theorem aDk{a:Nat→Nat→Bool}{js:Nat→Nat}{k j:Nat}(hk:k < 4)(hj:j < 4):∃ qO eO,gI 4 (rO a js) (j:Int)=some qO∧idx qO (k:Int)=some eO:=by
 have h1:gI 4 (rO a js) (j:Int)=some (((rO a js).drop (j * 4)).take 4):=by
  unfold gI
  rw [if_pos ⟨by omega,by rw [aeF]; simp; omega⟩]
  simp
 have hl:=o9 h1
 exact ⟨_,(((rO a js).drop (j * 4)).take 4)[k]'(by omega),h1,by rw [fJ]; exact List.getElem?_eq_getElem (by omega)⟩
noncomputable def lz(B:Base)(Post:Value→World→Prop)(bm bw bo N J:Nat)(a:Nat→Nat→Bool)(ho:bm≠bw∧bm≠bo∧bw≠bo)(hJ:0 < J)(hN:N≤4):Fx :=
 { P:=prog,B:=B,bm:=bm,bw:=bw,bo:=bo,tm:=194,tw:=201,N:=N,J:=J,cont:=λ js=>.cells (jO a js).toArray 145 (0,0),ho:=ho,hJ:=hJ,hN:=hN,mj:=jg prog B Post }
structure vP (R:az) (b:Nat) (x:bW) (v1 v2 v3 v4 v5 v6:Value):Prop where
 c:aQ R [] b 0 [iv x.book.Rest,v1,v2,v3,v4,v5,v6]
 h1:ae bE 2 R v1 x.book.Rows
 h2:ae bN 2 R v2 x.book.aM
 h3:ae bD 2 R v3 x.book.ax
 h4:ae bL 4 R v4 x.book.av
 h5:ae bB 3 R v5 x.book.ba
 h6:ae fL 3 R v6 x.fi
theorem vP.up{R R':az}{b:Nat}{x:bW}{v1 v2 v3 v4 v5 v6:Value}(h:vP R b x v1 v2 v3 v4 v5 v6)(hR:aT R R'):vP R' b x v1 v2 v3 v4 v5 v6 :=
 ⟨h.c.up hR,h.h1.mono hR,h.h2.mono hR,h.h3.mono hR,h.h4.mono hR,h.h5.mono hR,h.h6.mono hR⟩
theorem aem{α β:Type}{f:α→Option β}:∀ {xs:List α} {ys:List β},xs.mapM f=some ys→ys.length=xs.length∧∀ (i:Nat) (x:α),xs[i]? = some x→∃ y,ys[i]? = some y∧f x=some y
 | [],ys,h=>by
  simp at h; subst h
  exact ⟨rfl,λ i x hx=>by simp at hx⟩
 | a::xs,ys,h=>by
  rw [List.mapM_cons] at h
  cases ha:f a with
  | none=>rw [ha] at h; simp at h
  | some b =>
   cases hr:xs.mapM f with
   | none=>rw [ha,hr] at h; simp at h
   | some bs =>
    rw [ha,hr] at h
    simp at h
    subst h
    obtain ⟨h1,h2⟩:=aem hr
    refine ⟨by simp [h1],λ i x hx=>?_⟩
    cases i with
    | zero=>simp at hx; subst hx; exact ⟨b,rfl,ha⟩
    | succ i=>exact h2 i x (by simpa using hx)
noncomputable def FE:Code:=(wS (Tryz.f170.body.getD .skip)).getD .skip
variable {x0:bW} {v1 v2 v3 v4 v5 v6:Value} {bm bw bo N J:Nat} {a:Nat→Nat→Bool} {ho:bm≠bw∧bm≠bo∧bw≠bo} {hJ:0 < J} {hN:N≤4} {b1 bk k:Nat}
theorem apV{tmps:Array Value}{st:St}(ht:cM 30 st tmps)(todo:List Item):Gone (aX (jv ⟨170,.deferred,none,30,[],[y6 prog]⟩ tmps todo) [y6 prog]) :=
 QJ.abe (J:=yB prog 0) func170 ht rfl (.inr rfl) ⟨1,aCF⟩
noncomputable abbrev Yo (bw:Nat):Ctx:=⟨170,.deferred,none,30,[dcall 171 #[.pointer (some ⟨bw,0,none⟩)]],[y6 prog]⟩
noncomputable abbrev Li (b1 bk bm bw bo J j:Nat):St:=[(0,pt bw),(1,pt b1),(2,pt bk),(3,pt bm),(4,pt bo),(11,iv (J:Int)),(12,iv (j:Int))]
theorem agp(hB:∀ w:World,B.os w.os→B.os w.later.os)(sG:J≤4)(hk:k < N){j:Nat}(hj:j < J)(ha:qR x0 j k=some (a j k))
  (again:j+1 < J→∀ (n:Nat) (R:az),vP R b1 x0 v1 v2 v3 v4 v5 v6→aQ R [] bk 0 [iv (k:Int)]→U (WJ (lz B Post bm bw bo N J a ho hJ hN) n k (j+1) .ld) (Yo bw) R [] (Li b1 bk bm bw bo J (j+1)) [.code FE,.inLoop FE,.inBlock 0])
  (n:Nat) (R:az) (hO:vP R b1 x0 v1 v2 v3 v4 v5 v6) (eR:aQ R [] bk 0 [iv (k:Int)]):U (WJ (lz B Post bm bw bo N J a ho hJ hN) n k j .ld) (Yo bw) R [] (Li b1 bk bm bw bo J j) [.code FE,.inLoop FE,.inBlock 0]:=by
 obtain ⟨cq,cX,cN,cY,cU,cZ,iS⟩:=hO
 refine U.seq ?_
 refine U.rg [0] ?_
 refine U.vs 1 rfl rfl ?_
 refine U.aU ?_
 refine U.seq ?_
 refine U.fE rfl (by simp; omega) ?_
 refine U.skip ?_
 refine U.seq ?_
 refine U.block ?_
 refine U.seq ?_
 refine U.rg [0,1,2] ?_
 refine U.vs 1 rfl rfl ?_
 refine U.iX rfl rfl rfl (Ox.alloc (cs:=#[iv 0]) rfl GL rfl λ b5 _ _=>⟨_,(.put rfl),?_⟩)
 refine U.iX rfl rfl rfl (Ox.gE (cs':=#[_]) rfl rfl rfl bt rfl .here rfl rfl rfl (.refl _) ?_)
 refine U.aU ?_
 refine U.qA (H2:=[]) (λ X=>X++[]) .id rfl (λ Rf um Np=>?_)
 replace cq:=cq.up (H:=[]) um
 replace eR:=eR.up (H:=[]) um
 replace cX:=cX.mono um
 replace cN:=cN.mono um
 replace cY:=cY.mono um
 replace cU:=cU.mono um
 replace cZ:=cZ.mono um
 replace iS:=iS.mono um
 refine U.seq ?_
 obtain ⟨de,gC,he⟩:∃ de,uW x0 (λ y=>zb y x0 (k:Int) (j:Int))=some de∧(de == (x0.fi.length:Int))=a j k:=by
  unfold qR at ha
  obtain ⟨x,h1,h2⟩:=aj ha
  exact ⟨x,h1,ab h2⟩
 refine U.dw gq mixed ?_
 refine Any.tk 0 rfl (λ _ h=>h) (λ R' H' hR hS=>Ox.bP (vs:=[_,_,_,_,_,_,_]) rfl rfl dL rfl (((cq.le hR).sub (λ p h=>hS p ((λ _ h=>h) p h))).part (j:=0) (n:=7) rfl) rfl (.one rfl) ⟨rfl,rfl,rfl⟩) ?_
 refine Any.tk 1 rfl (λ _ h=>h) (λ R' H' hR hS=>Ox.makeFunc (vs:=#[]) (us:=#[_,_,_]) rfl rfl rfl rfl (.one rfl) ⟨rfl,rfl,rfl⟩) ?_
 refine Any.vs 1 [3] rfl ?_
 refine Any.tk 4 rfl (λ _ h=>h) (λ R' H' hR hS=>Ox.cT rfl rfl rN (((cq.le hR).sub (λ p h=>hS p ((λ _ h=>h) p h))).one (j:=6) rfl) rfl (.one rfl) ⟨rfl,rfl,rfl⟩) ?_
 refine Any.tk 5 rfl (λ _ h=>h) (λ R' H' hR hS=>Ox.si (K:=fL) (k:=3) (xs:=x0.fi) rfl rfl (iS.mono hR) underlying111 rfl (.one rfl) ⟨rfl,rfl,rfl⟩) ?_
 refine Any.cv 2 MX (Of x0 (λ y=>zb y x0 (k:Int) (j:Int)) cX cN cY cU cZ iS ⟨172,#[],#[_,_,_],rfl,ans,λ R' H' hR hH y r va hA hr=>by obtain ⟨_,rfl,⟨uV,rfl⟩⟩:=hA; exact (aAr y x0 (k:Int) (j:Int) uV ((cq.le hR).sub (λ p h=>hH p ((λ _ h=>h) p h))) (cX.mono hR) (cN.mono hR) (cY.mono hR) (cU.mono hR) (cZ.mono hR) (iS.mono hR) ((eR.le hR).sub (λ p h=>hH p ((λ _ h=>h) p h))) ((Np.le hR).sub (λ p h=>hH p ((λ _ h=>h) p h))) hr).mono λ _ _ _ ⟨h1,h2,h3⟩=>⟨h1 ▸ aT.refl _,h2.symm,h3⟩⟩ gC) ?_
 rintro _ EF _ ⟨gV,rfl,rfl⟩
 replace cX:=cX.mono gV
 replace cN:=cN.mono gV
 replace cY:=cY.mono gV
 replace cU:=cU.mono gV
 replace cZ:=cZ.mono gV
 replace iS:=iS.mono gV
 replace cq:=cq.le gV
 replace eR:=eR.le gV
 replace Np:=Np.le gV
 refine ⟨gV,(ayL (λ _ h=>h)),?_⟩
 refine Any.vs 2 [6,7] rfl ?_
 refine Any.done ?_
 refine U.sub (st':=(6,.bool (a j k))::(5,pt b5)::Li b1 bk bm bw bo J j) (bR.sub ⟨congrArg (λ z=>some (Value.bool z)) he,rfl,rfl,rfl,rfl,rfl,rfl,rfl,rfl,trivial⟩) ?_
 refine U.seq ?_
 refine U.rg [0] ?_
 refine U.wT rfl rfl rfl rfl rfl ant rfl (azE (F:=lz B Post bm bw bo N J a ho hJ hN) hB n) λ aZ bc n js iC=>(?_:U (WJ (lz B Post bm bw bo N J a ho hJ hN) n k j (.ul js)) _ _ _ _ _) aZ bc
 refine U.aU ?_
 refine U.seq ?_
 obtain ⟨qO,eO,wy,gm⟩:=aDk (a:=a) (js:=js) (k:=k) (j:=j) (by omega) (by omega)
 have l4:=aeF a js
 show U _ _ _ [(bo,.cells (jO a js).toArray 145 (0,0))] _ _
 rw [aeE]
 refine U.draw (n:=6) (is:=[0,1,2,3,4,5]) (many ((bo,.cells (List.toArray ([]++((rO a js).map Value.bool++[]))) 145)::[]) [(5,[])]) mixed rfl (by decide +kernel) rfl rfl ?_
 refine Any.Dv (i:=0) [3,4,5] rfl rfl rfl (by decide +kernel) (dk rfl (fT (λ _ h=>(List.Sublist.subset (List.Sublist.cons _ (List.Sublist.refl _))) h))) (λ _ h=>(List.Sublist.subset (List.Sublist.cons _ (List.Sublist.refl _))) h) (λ R' H' hR hS=>Ox.cT rfl rfl bt (((Np.le hR).sub (λ p h=>hS p ((λ _ h=>h) p h))).one (j:=0) rfl) rfl (.one rfl) ⟨rfl,rfl,rfl⟩) (.refl _) (by decide) (p9:=[1,2,3,4,5]) rfl ?_
 refine Any.Dv (i:=1) [4,5] rfl rfl rfl (by decide +kernel) (dk rfl (fT (λ _ h=>(List.Sublist.subset (List.Sublist.cons _ (List.Sublist.refl _))) h))) (λ _ h=>(List.Sublist.subset (List.Sublist.cons _ (List.Sublist.refl _))) h) (λ R' H' hR hS=>Ox.cT rfl rfl bt (((eR.le hR).sub (λ p h=>hS p ((λ _ h=>h) p h))).one (j:=0) rfl) rfl (.one rfl) ⟨rfl,rfl,rfl⟩) (.refl _) (by decide) (p9:=[2,3,4,5]) rfl ?_
 refine Any.vs 1 [2] rfl ?_
 refine Any.Dv (i:=3) [4,5] rfl rfl rfl (by decide +kernel) (dk rfl (fT (λ _ h=>(List.Sublist.subset (List.Sublist.cons _ (List.Sublist.refl _))) h))) (λ _ h=>(List.Sublist.subset (List.Sublist.cons _ (List.Sublist.refl _))) h) (λ R' H' hR hS=>Ox.dm rfl rfl rfl (wR vS l4 (by decide) wy) rfl (.one rfl) ⟨rfl,rfl,rfl⟩) (.refl _) (by decide) (p9:=[4,5]) rfl ?_
 refine Any.Dv (i:=4) [5] rfl rfl rfl (by decide +kernel) (dk rfl (fT (λ _ h=>(List.Sublist.subset (List.Sublist.cons _ (List.Sublist.refl _))) h))) (λ _ h=>(List.Sublist.subset (List.Sublist.cons _ (List.Sublist.refl _))) h) (λ R' H' hR hS=>Ox.dm rfl rfl rfl (o6 rf (o9 wy) gm) rfl (.one rfl) ⟨rfl,rfl,rfl⟩) (.refl _) (by decide) (p9:=[5]) rfl ?_
 refine Any.on 5 rfl rfl (aW.to (Ox.gE rfl rfl rfl iW rfl .here (Sc wy gm rfl) (Se wy gm rfl) rfl (.refl _) ⟨aT.refl _,(fy rfl (λ _ h=>(List.Sublist.subset (List.Sublist.cons _ (List.Sublist.refl _))) h)),?_⟩))
 refine Any.done ?_
 rw [← aB7 (a:=a) (by omega) (by omega) iC]
 refine U.rg [0] ?_
 have dN:i64 ((j:Int)+1)=((j+1:Nat):Int):=by rw [NY (by omega)]; omega
 refine U.wT rfl rfl rfl rfl rfl anu rfl (aEe (F:=lz B Post bm bw bo N J a ho hJ hN) (js:=js) (show j+1≤J by omega) n) λ aZ bc=>⟨λ h n=>(?_:U (WJ (lz B Post bm bw bo N J a ho hJ hN) n k (j+1) .ld) _ _ _ _ _) aZ bc,λ h n=>(?_:U (WJ (lz B Post bm bw bo N J a ho hJ hN) n k (j+1) .wv) _ _ _ _ _) aZ bc⟩
 ·refine U.aU ?_
  refine U.inBlock ?_
  refine U.rg [0,1] ?_
  refine U.vs 2 rfl rfl ?_
  refine U.aU ?_
  refine U.inLoop ?_
  refine U.sub ?_ (again h n _ ⟨cq,cX,cN,cY,cU,cZ,iS⟩ eR)
  exact bR.sub ⟨rfl,rfl,rfl,rfl,rfl,rfl,congrArg (λ z=>some (iv z)) dN,trivial⟩
 ·have hJe:j+1=J:=h
  refine U.aU ?_
  refine U.inBlock ?_
  refine U.rg [0,1] ?_
  refine U.vs 2 rfl rfl ?_
  refine U.aU ?_
  refine U.inLoop ?_
  refine U.sub (st':=Li b1 bk bm bw bo J (j+1)) (bR.sub ⟨rfl,rfl,rfl,rfl,rfl,rfl,congrArg (λ z=>some (iv z)) dN,trivial⟩) ?_
  refine U.seq ?_
  refine U.rg [0] ?_
  refine U.vs 1 rfl rfl ?_
  refine U.aU ?_
  refine U.seq ?_
  refine U.eF rfl (by simp; omega) ?_
  refine U.exit rfl ?_
  refine U.toEnd rfl λ tmps ht=>?_
  exact Jd.unwind rfl func171 rfl rfl (amR (F:=lz B Post bm bw bo N J a ho hJ hN) (.inl rfl) (apV ht _) n)
theorem ago(hB:∀ w:World,B.os w.os→B.os w.later.os)(sG:J≤4)(hk:k < N)(ha:∀ j,j < J→qR x0 j k=some (a j k)):∀ (m j:Nat),J=j+m+1→∀ (n:Nat) (R:az),vP R b1 x0 v1 v2 v3 v4 v5 v6→aQ R [] bk 0 [iv (k:Int)] →
  U (WJ (lz B Post bm bw bo N J a ho hJ hN) n k j .ld) (Yo bw) R [] (Li b1 bk bm bw bo J j) [.code FE,.inLoop FE,.inBlock 0]
 | 0,j,hm,n,R,hO,hc=>agp hB sG hk (by omega) (ha j (by omega)) (λ h=>by omega) n R hO hc
 | m+1,j,hm,n,R,hO,hc=>agp hB sG hk (by omega) (ha j (by omega)) (λ _ n R hO hc=>ago hB sG hk ha m (j+1) (by omega) n R hO hc) n R hO hc
theorem aFc(hB:∀ w:World,B.os w.os→B.os w.later.os)(sG:J≤4)(B0:x0.book.av.length=J)(hk:k < N)(ha:∀ j,j < J→qR x0 j k=some (a j k))(n:Nat){R:az}(hO:vP R b1 x0 v1 v2 v3 v4 v5 v6)(hc:aQ R [] bk 0 [iv (k:Int)]) :
  Own prog B false (KW (FT (lz B Post bm bw bo N J a ho hJ hN)) n k 0 .ld) R [] (aX (Frame.enter prog 170 (#[]++#[pt bw,pt b1,pt bk,pt bm,pt bo]) .deferred) [y6 prog]):=by
 refine Jd.enter (af:=WJ (lz B Post bm bw bo N J a ho hJ hN) n k 0 .ld) (args:=[pt bw,pt b1,pt bk,pt bm,pt bo]) func170 rfl (m:=30) rfl rfl ?_
 refine U.seq ?_
 refine U.rg [0] ?_
 refine U.defer rfl rfl rfl rfl rfl rfl rfl (.Oz rfl) ?_
 refine U.aU ?_
 refine U.seq ?_
 refine U.rg [0,1,2,3,4,5] ?_
 refine U.vs 3 rfl rfl ?_
 refine U.iX rfl rfl rfl (Ox.cT rfl rfl fx (hO.c.any.one (j:=4) rfl) rfl (.put rfl) ?_)
 refine U.iX rfl rfl rfl (Ox.si (K:=bL) (k:=4) (xs:=x0.book.av) rfl rfl hO.h4 underlying25 rfl (.put rfl) ?_)
 refine U.vs 1 rfl rfl ?_
 refine U.aU ?_
 refine U.block ?_
 refine U.enterLoop ?_
 refine U.sub ?_ (ago (m:=J - 1) (j:=0) hB sG hk ha (by omega) n R hO hc)
 exact bR.sub ⟨rfl,rfl,rfl,rfl,rfl,by rw [← B0]; rfl,rfl,trivial⟩
noncomputable def FD:Code:=(wS (Tryz.f123.body.getD .skip)).getD .skip
abbrev On(b1 b2 bo bm bw:Nat):St:=[(1,pt b1),(2,pt b2),(3,pt bo),(4,pt bm),(5,pt bw)]
theorem afj{c:Ctx}(eU:c.n=20)(Af:c.kind = .normal)(Ah:c.ro=none){b2:Nat}{H0:an}{K:List Item}(hB:∀ w:World,B.os w.os→B.os w.later.os)(sG:J≤4)(B0:x0.book.av.length=J)(ha:∀ j k,j < J→k < N→qR x0 j k=some (a j k)){r i n:Nat}{R':az}(hi:N=i+r+1)
  (next:∀ (n:Nat) (cx:az),aT R' cx→U (gk (lz B Post bm bw bo N J a ho hJ hN) n (kN r)) c cx H0 ((11,iv (N:Int))::(12,iv ((i+1:Nat):Int))::On b1 b2 bo bm bw) (.code FD :: .inLoop FD :: .inBlock 0::K))
  (hO:vP R' b1 x0 v1 v2 v3 v4 v5 v6) :
  U (gk (lz B Post bm bw bo N J a ho hJ hN) n (.ka r)) c R' H0 ((11,iv (N:Int))::(12,iv (i:Int))::On b1 b2 bo bm bw) (.code FD :: .inLoop FD :: .inBlock 0::K):=by
 obtain ⟨cf,ck,cr,cn,cd,ccs⟩:=c
 simp only at eU Af Ah
 subst eU Af Ah
 refine U.seq ?_
 refine U.rg [0] ?_
 refine U.vs 1 rfl rfl ?_
 refine U.aU ?_
 refine U.seq ?_
 refine U.fE rfl (by simp; omega) ?_
 refine U.skip ?_
 refine U.seq ?_
 refine U.block ?_
 refine U.seq ?_
 refine U.rg [0,1,2] ?_
 refine U.vs 1 rfl rfl ?_
 refine U.iX rfl rfl rfl (Ox.alloc (cs:=#[iv 0]) rfl GL rfl λ b6 _ _=>⟨_,(.put rfl),?_⟩)
 refine U.iX rfl rfl rfl (Ox.gE (cs':=#[_]) rfl rfl rfl bt rfl .here rfl rfl rfl (.refl _) ?_)
 refine U.aU ?_
 refine U.qA (H2:=H0) (λ X=>X++H0) .id rfl (λ Rf um hc6=>?_)
 replace hO:=hO.up um
 refine U.seq ?_
 refine U.rg [0] ?_
 refine U.wT rfl rfl rfl rfl rfl acd rfl (aBl (F:=lz B Post bm bw bo N J a ho hJ hN) r n) λ aZ bc n=>(?_:U (gk (lz B Post bm bw bo N J a ho hJ hN) n (.go r)) _ _ _ _ _) aZ bc
 refine U.aU ?_
 refine U.rg [0,1] ?_
 refine U.iX rfl rfl rfl (Ox.makeFunc (vs:=#[]) (us:=#[_,_,_,_,_]) rfl rfl rfl rfl (.put rfl) ?_)
 have dN:i64 ((i:Int)+1)=((i+1:Nat):Int):=by rw [NY (by omega)]; omega
 refine sM λ m hm=>KM.spawn (F:=FT (lz B Post bm bw bo N J a ho hJ hN)) (d:=⟨.fn (.func 170) #[pt bw,pt b1,pt b6,pt bm,pt bo],#[]⟩) rfl rfl rfl (aCZ rfl rfl rfl) rfl rfl ?_ λ aZ bc=>(?_:U (gk (lz B Post bm bw bo N J a ho hJ hN) m (kN r)) _ _ _ _ _) aZ bc
 ·refine Own.child rfl (aEv anr) ?_
  have ei:N - (r+1)=i:=by omega
  show Own _ _ _ (KW _ m (N - (r+1)) 0 .ld) _ _ _
  rw [ei]
  exact aFc (k:=i) hB sG B0 (by omega) (λ j hj=>ha j i hj (by omega)) m hO hc6
 ·refine U.aU ?_
  refine U.inBlock ?_
  refine U.rg [0,1] ?_
  refine U.vs 2 rfl rfl ?_
  refine U.aU ?_
  refine U.inLoop ?_
  refine U.sub ?_ (next m Rf um)
  exact bR.sub ⟨rfl,congrArg (λ z=>some (iv z)) dN,rfl,rfl,rfl,rfl,rfl,trivial⟩
theorem afi{c:Ctx}(eU:c.n=20)(Af:c.kind = .normal)(Ah:c.ro=none){b2:Nat}{H0:an}{K:List Item}(hB:∀ w:World,B.os w.os→B.os w.later.os)(sG:J≤4)(B0:x0.book.av.length=J)(ha:∀ j k,j < J→k < N→qR x0 j k=some (a j k))
  (adb:∀ (n:Nat) (R':az),aT R R'→U (gk (lz B Post bm bw bo N J a ho hJ hN) n .wa) c R' H0 (On b1 b2 bo bm bw) K):∀ (r i n:Nat) (R':az),N=i+r+1→aT R R'→vP R' b1 x0 v1 v2 v3 v4 v5 v6 →
  U (gk (lz B Post bm bw bo N J a ho hJ hN) n (.ka r)) c R' H0 ((11,iv (N:Int))::(12,iv (i:Int))::On b1 b2 bo bm bw) (.code FD :: .inLoop FD :: .inBlock 0::K)
 | 0,i,n,R',hi,hR,hO=>afj eU Af Ah hB sG B0 ha hi (λ n cx sH=>by
   obtain ⟨cf,ck,cr,cn,cd,ccs⟩:=c
   simp only at eU Af Ah
   subst eU Af Ah
   refine U.seq ?_
   refine U.rg [0] ?_
   refine U.vs 1 rfl rfl ?_
   refine U.aU ?_
   refine U.seq ?_
   refine U.eF rfl (by rw [decide_eq_false_iff_not]; omega) ?_
   refine U.exit rfl ?_
   refine U.sub ?_ (adb n cx (hR.trans sH))
   exact bR.sub ⟨rfl,rfl,rfl,rfl,rfl,trivial⟩) hO
 | r+1,i,n,R',hi,hR,hO=>afj eU Af Ah hB sG B0 ha hi (λ n cx sH=>afi eU Af Ah hB sG B0 ha adb r (i+1) n cx (by omega) (hR.trans sH) (hO.up sH)) hO
theorem alk{x0:bW}{r:List Bool}(Ti:x0.book.av.length≤4)(IN:x0.book.ax.length≤4)
  (hr:(((List.range 16).mapM λ (p:Nat)=>if p / 4 < x0.book.av.length∧p % 4 < x0.book.ax.length then qR x0 (p / 4) (p % 4) else some false):Option (List Bool))=some r) :
  ∃ a:Nat→Nat→Bool,r.length=16∧(∀ i k,i < x0.book.av.length→k < x0.book.ax.length→qR x0 i k=some (a i k))∧∀ js,(∀ k,k < x0.book.ax.length→js k=x0.book.av.length)→jO a js=[]++(r.map Value.bool++[]):=by
 obtain ⟨hlen,uz⟩:=aem hr
 rw [List.length_range] at hlen
 have Nr:∀ i k,i < 4→k < 4→∃ y,r[4 * i+k]? = some y∧(if i < x0.book.av.length∧k < x0.book.ax.length then qR x0 i k else some false)=some y:=λ i k hi hk=>by
  obtain ⟨y,g1,g2⟩:=uz (4 * i+k) (4 * i+k) (List.getElem?_range (by omega))
  rw [show (4 * i+k) / 4=i by omega,show (4 * i+k) % 4=k by omega] at g2
  exact ⟨y,g1,g2⟩
 refine ⟨λ i k=>(r[4 * i+k]?).getD false,hlen,λ i k hi hk=>?_,λ js iC=>?_⟩
 ·obtain ⟨y,g1,g2⟩:=Nr i k (by omega) (by omega)
  rw [if_pos ⟨hi,hk⟩] at g2
  rw [g2]
  show some y=some ((r[4 * i+k]?).getD false)
  rw [g1]; rfl
 ·apply List.ext_getElem?
  intro p
  rcases Nat.lt_or_ge p 16 with hp | hp
  ·rw [Xw hp]
   obtain ⟨y,g1,g2⟩:=Nr (p / 4) (p % 4) (by omega) (by omega)
   rw [show 4 * (p / 4)+p % 4=p by omega] at g1
   simp only [List.nil_append,List.append_nil,List.getElem?_map,show 4 * (p / 4)+p % 4=p by omega,g1,Option.map_some,Option.getD_some]
   by_cases mE:p / 4 < x0.book.av.length∧p % 4 < x0.book.ax.length
   ·rw [iC _ mE.2,decide_eq_true mE.1,Bool.true_and]
   ·rw [if_neg mE] at g2
    rw [← ab g2,Bool.and_false]
  ·rw [List.getElem?_eq_none (by simp [jO]; exact hp),List.getElem?_eq_none (by simp [hlen]; exact hp)]
theorem alm(hB:∀ w:World,B.os w.os→B.os w.later.os):tO (Da prog B Post):=by
 intro R H x0 v1 v2 v3 v4 v5 v6 h1 h2 h3 h4 h5 h6 r hr
 unfold tB at hr
 split at hr
 case isFalse=>cases hr
 rename_i hc
 obtain ⟨⟨Tg,Ti⟩,hN0,IN⟩:=hc
 obtain ⟨a,hlen,ha,rZ⟩:=alk Ti IN hr
 refine aC.bn (args:=[.agg #[iv x0.book.Rest,v1,v2,v3,v4,v5,v6]]) func123 rfl (n:=20) rfl rfl λ fr cs hk=>?_
 refine U.seq ?_
 refine U.rg [0,1] ?_
 refine U.iX rfl rfl rfl (Ox.abk rfl rfl rfl λ b1 _ _=>⟨_,(.put rfl),?_⟩)
 refine U.iX rfl rfl rfl (Ox.alloc (cs:=#[.bool false,.bool false,.bool false,.bool false,.bool false,.bool false,.bool false,.bool false,.bool false,.bool false,.bool false,.bool false,.bool false,.bool false,.bool false,.bool false]) rfl iM rfl λ b2 _ _=>⟨_,(.put rfl),?_⟩)
 refine U.aU ?_
 refine U.seq ?_
 refine U.rg [0] ?_
 refine U.iX rfl rfl rfl (Ox.alloc (cs:=#[.bool false,.bool false,.bool false,.bool false,.bool false,.bool false,.bool false,.bool false,.bool false,.bool false,.bool false,.bool false,.bool false,.bool false,.bool false,.bool false]) rfl iM rfl λ b3 _ n3=>⟨_,(.put rfl),?_⟩)
 refine U.aU ?_
 refine U.seq ?_
 refine U.rg [0] ?_
 refine U.iX rfl rfl rfl (Ox.alloc (cs:=#[.int .i32 0,.int .u32 0]) rfl aFl rfl λ b4 _ n4=>⟨_,(.put rfl),?_⟩)
 refine U.aU ?_
 refine U.seq ?_
 refine U.rg [0] ?_
 refine U.iX rfl rfl rfl (Ox.alloc (cs:=#[.int .u64 0,.int .u32 0]) rfl aFm rfl λ b5 _ n5=>⟨_,(.put rfl),?_⟩)
 refine U.aU ?_
 have ho:b4≠b5∧b4≠b3∧b5≠b3:=⟨λ e=>by subst e; exact n5 _ (List.mem_cons_self),λ e=>by subst e; exact n4 _ (List.mem_cons_self),λ e=>by subst e; exact n5 _ (List.mem_cons_of_mem _ (List.mem_cons_self))⟩
 clear n3 n4 n5
 refine U.seq ?_
 refine U.seq ?_
 refine U.rg [0,1,2,3,4,5] ?_
 refine U.vs 3 rfl rfl ?_
 refine U.iX rfl rfl rfl (Ox.cT rfl rfl fI ((aQ.box (L:=[iv x0.book.Rest,v1,v2,v3,v4,v5,v6]) (.tail _ (.tail _ (.tail _ (.tail _ (.head _)))))).one (j:=3) rfl) rfl (.put rfl) ?_)
 refine U.iX rfl rfl rfl (Ox.si (K:=bD) (k:=2) (xs:=x0.book.ax) rfl rfl h3 underlying24 rfl (.put rfl) ?_)
 refine U.vs 1 rfl rfl ?_
 refine U.aU ?_
 refine U.block ?_
 refine U.qA (H2:=(b5,_)::(b4,_)::(b3,_)::(b2,_)::H) (λ X=>(b5,_)::(b4,_)::(b3,_)::(b2,_)::X++H) (.cons (.cons (.cons (.cons .id)))) rfl (λ R1 B2 cq=>?_)
 have hO:vP R1 b1 x0 v1 v2 v3 v4 v5 v6:=⟨cq,h1.mono B2,h2.mono B2,h3.mono B2,h4.mono B2,h5.mono B2,h6.mono B2⟩
 refine U.enterLoop ?_
 refine U.perm (H':=(b3,_)::(b5,_)::(b4,_)::(b2,_)::H) ((List.Perm.swap _ _ _).trans (List.Perm.cons _ (List.Perm.swap _ _ _))) ?_
 have e0:Obj.cells (jO a λ _=>0).toArray 145 (0,0)=Obj.cells #[.bool false,.bool false,.bool false,.bool false,.bool false,.bool false,.bool false,.bool false,.bool false,.bool false,.bool false,.bool false,.bool false,.bool false,.bool false,.bool false] 145 (0,0):=by rw [aB9]; rfl
 rw [← e0]
 intro tmps ht
 refine jg.crowd (F:=lz B Post b4 b5 b3 x0.book.ax.length x0.book.av.length a ho Tg IN) (r:=x0.book.ax.length - 1) rfl (show x0.book.ax.length=x0.book.ax.length - 1+1 by omega) λ n=>?_
 refine (?_:U (gk (lz B Post b4 b5 b3 x0.book.ax.length x0.book.av.length a ho Tg IN) n (.ka (x0.book.ax.length - 1))) _ _ _ _ _) tmps ht
 refine U.sub ?_ (afi (c:=⟨123,.normal,none,20,[],fr::cs⟩) (b2:=b2) (R:=R1) rfl rfl rfl hB Ti rfl ha (λ n R' IP=>?_) (x0.book.ax.length - 1) 0 n R1 (by omega) (aT.refl _) hO)
 ·exact bR.sub ⟨rfl,rfl,rfl,rfl,rfl,rfl,rfl,trivial⟩
 ·refine U.seq ?_
  refine U.rg [0] ?_
  refine U.wT rfl rfl rfl rfl rfl anv rfl (aE2 (F:=lz B Post b4 b5 b3 x0.book.ax.length x0.book.av.length a ho Tg IN) (Post:=Post) rfl n) λ aZ bc js iC=>(?_:U (Da prog B Post) _ _ _ _ _) aZ bc
  refine U.aU ?_
  refine U.seq ?_
  show U _ _ _ ((b3,.cells (jO a js).toArray 145 (0,0))::_) _ _
  rw [rZ js iC]
  refine U.rg [0,1] ?_
  refine U.iX rfl rfl rfl (Ox.bP (vs:=_) rfl rfl cF (by simp [hlen]) ((aQ.box (.head _)).part (j:=0) (n:=16) (eZ (by simp [hlen]))) rfl (.put rfl) ?_)
  refine U.iX rfl rfl rfl (Ox.cp (cs':=_) rfl rfl rfl cF (by simp [hlen]) (bq bl (bq (cO λ _=>rfl) bl)) (.there .here) (by simp [jO]) (cH (by simp [hlen,jO])) rfl (.refl _) ?_)
  refine U.aU ?_
  exact U.Dn func123 (.agg rfl cF (by simp [hlen]) (aQ.box (.tail _ (.head _))) .nil) (J.drop (List.Sublist.cons _ (List.Sublist.cons _ (List.Sublist.refl _))) (hk _ _ _ ⟨B2.trans IP,rfl,hlen,rfl⟩))
end
end Go.Proofs.YtihapemckcdicaaGreatDoor
namespace Go.Proofs.YtihapemckcdicaaGreatDoor
open Go.Lg Go.Proofs Go.ChangeShapes Go.WideShapes Go.ChangeAt Go.RowKit Go.Conc Tryz
set_option maxRecDepth 100000
theorem s5:fO prog 3 (CI .i64) 1:=fO.int (by kernel_rfl) underlying3
theorem aCV:fO prog 9 CS 1:=fO.str (by kernel_rfl) underlying9
def CBo:cu Bool:=λ _ x es=>es=[.bool x]
theorem aCQ:fO prog 4 CBo 1:=⟨by kernel_rfl,λ W T enc sp held fuel cs x h=>by
 obtain ⟨b,rfl,_⟩:=DataW.trod_bool underlying4 h
 exact ⟨rfl,b,rfl⟩⟩
theorem aCR:fO prog 41 bN 2:=⟨by kernel_rfl,λ W T enc sp held fuel cs x h=>by
 obtain ⟨xs,n,_,_,hl,hx,hf⟩:=DataW.trod_struct underlying41 h
 have hc:cs.length=2:=hl.trans (by kernel_rfl)
 match cs,hc with
 | [c0,c1],_ =>
  obtain ⟨a0,h0⟩:=s5.field [c0] hx (hf 0 _ rfl)
  obtain ⟨a1,h1⟩:=s5.field [c1] hx (hf 1 _ rfl)
  cases h0; cases h1
  exact ⟨rfl,⟨a0,a1⟩,rfl⟩⟩
theorem aCT:fO prog 64 bE 2:=⟨by kernel_rfl,λ W T enc sp held fuel cs x h=>by
 obtain ⟨xs,n,_,_,hl,hx,hf⟩:=DataW.trod_struct underlying64 h
 have hc:cs.length=2:=hl.trans (by kernel_rfl)
 match cs,hc with
 | [c0,c1],_ =>
  obtain ⟨a0,h0⟩:=s5.field [c0] hx (hf 0 _ rfl)
  obtain ⟨a1,h1⟩:=s5.field [c1] hx (hf 1 _ rfl)
  cases h0; cases h1
  exact ⟨rfl,⟨a0,a1⟩,rfl⟩⟩
theorem ae5:fO prog 93 bD 2:=⟨by kernel_rfl,λ W T enc sp held fuel cs x h=>by
 obtain ⟨xs,n,_,_,hl,hx,hf⟩:=DataW.trod_struct underlying93 h
 have hc:cs.length=2:=hl.trans (by kernel_rfl)
 match cs,hc with
 | [c0,c1],_ =>
  obtain ⟨a0,h0⟩:=aCV.field [c0] hx (hf 0 _ rfl)
  obtain ⟨a1,h1⟩:=s5.field [c1] hx (hf 1 _ rfl)
  cases h0; cases h1
  exact ⟨rfl,⟨a0,a1⟩,rfl⟩⟩
theorem aCW:fO prog 96 bL 4:=⟨by kernel_rfl,λ W T enc sp held fuel cs x h=>by
 obtain ⟨xs,n,_,_,hl,hx,hf⟩:=DataW.trod_struct underlying96 h
 have hc:cs.length=4:=hl.trans (by kernel_rfl)
 match cs,hc with
 | [c0,c1,c2,c3],_ =>
  obtain ⟨a0,h0⟩:=s5.field [c0] hx (hf 0 _ rfl)
  obtain ⟨a1,h1⟩:=s5.field [c1] hx (hf 1 _ rfl)
  obtain ⟨a2,h2⟩:=s5.field [c2] hx (hf 2 _ rfl)
  obtain ⟨a3,h3⟩:=s5.field [c3] hx (hf 3 _ rfl)
  cases h0; cases h1; cases h2; cases h3
  exact ⟨rfl,⟨a0,a1,a2,a3⟩,rfl⟩⟩
theorem aCS:fO prog 59 bB 3:=⟨by kernel_rfl,λ W T enc sp held fuel cs x h=>by
 obtain ⟨xs,n,_,_,hl,hx,hf⟩:=DataW.trod_struct underlying59 h
 have hc:cs.length=3:=hl.trans (by kernel_rfl)
 match cs,hc with
 | [c0,c1,c2],_ =>
  obtain ⟨a0,h0⟩:=s5.field [c0] hx (hf 0 _ rfl)
  obtain ⟨a1,h1⟩:=s5.field [c1] hx (hf 1 _ rfl)
  obtain ⟨a2,h2⟩:=aCQ.field [c2] hx (hf 2 _ rfl)
  cases h0; cases h1; cases h2
  exact ⟨rfl,⟨a0,a1,a2⟩,rfl⟩⟩
theorem aCK:fO prog 22 (gw bE 2) 1:=fO.slice (by kernel_rfl) underlying22 (by decide) aCT
theorem aCL:fO prog 23 (gw bN 2) 1:=fO.slice (by kernel_rfl) underlying23 (by decide) aCR
theorem aCM:fO prog 24 (gw bD 2) 1:=fO.slice (by kernel_rfl) underlying24 (by decide) ae5
theorem aCN:fO prog 25 (gw bL 4) 1:=fO.slice (by kernel_rfl) underlying25 (by decide) aCW
theorem aCO:fO prog 26 (gw bB 3) 1:=fO.slice (by kernel_rfl) underlying26 (by decide) aCS
theorem aCP:fO prog 28 Rk 6:=⟨by kernel_rfl,λ W T enc sp held fuel cs x h=>by
 obtain ⟨xs,n,_,_,hl,hx,hf⟩:=DataW.trod_struct underlying28 h
 have hc:cs.length=6:=hl.trans (by kernel_rfl)
 match cs,hc with
 | [c0,c1,c2,c3,c4,c5],_ =>
  obtain ⟨a0,h0⟩:=s5.field [c0] hx (hf 0 _ rfl)
  obtain ⟨a1,v1,h1,g1⟩:=aCK.field [c1] hx (hf 1 _ rfl)
  obtain ⟨a2,v2,h2,g2⟩:=aCL.field [c2] hx (hf 2 _ rfl)
  obtain ⟨a3,v3,h3,g3⟩:=aCM.field [c3] hx (hf 3 _ rfl)
  obtain ⟨a4,v4,h4,g4⟩:=aCN.field [c4] hx (hf 4 _ rfl)
  obtain ⟨a5,v5,h5,g5⟩:=aCO.field [c5] hx (hf 5 _ rfl)
  cases h0; cases h1; cases h2; cases h3; cases h4; cases h5
  exact ⟨rfl,⟨a0,a1,a2,a3,a4,a5⟩,c1,c2,c3,c4,c5,g1,g2,g3,g4,g5,rfl⟩⟩
theorem aCJ:fO prog 214 (CW .u16) 1:=fO.ayJ (by kernel_rfl) underlying214
theorem aCU:fO prog 81 (gw (CW .u16) 1) 1:=fO.slice (by kernel_rfl) underlying81 (by decide) aCJ
section
variable {W:World} {T:Type} {enc:TypeId × Value→T} {b0:Nat} {v:Value} {d:DataW T} {p:List MemPlace}
theorem alZ(hv:Value.okWide prog W .any b0 28 v)(h:DataW.Trod enc prog W 0 (λ _=>true) true 28 v d p) :
  ∃ (x:ao) (v1 v2 v3 v4 v5:Value),v = .agg #[iv x.Rest,v1,v2,v3,v4,v5]∧ae bE 2 (qG W) v1 x.Rows∧ae bN 2 (qG W) v2 x.aM∧ae bD 2 (qG W) v3 x.ax∧ae bL 4 (qG W) v4 x.av∧ae bB 3 (qG W) v5 x.ba:=by
 obtain ⟨cs,rfl,_⟩:=okWide_struct underlying28 hv
 obtain ⟨fuel,hf⟩:=h
 obtain ⟨_,x,v1,v2,v3,v4,v5,h1,h2,h3,h4,h5,e⟩:=aCP.rd _ _ _ _ _ _ _ _ hf
 exact ⟨x,v1,v2,v3,v4,v5,by rw [← Array.toArray_toList (xs:=cs),show cs.toList=_ from e],h1,h2,h3,h4,h5⟩
theorem aG4(hv:Value.okWide prog W .any b0 81 v)(h:DataW.Trod enc prog W 0 (λ _=>true) true 81 v d p):∃ xs,ae (CI .u16) 1 (qG W) v xs∧∀ x∈xs,0≤x∧x≤65535:=by
 obtain ⟨a,len,cap,rfl⟩:=okWide_slice underlying81 hv
 obtain ⟨fuel,hf⟩:=h
 obtain ⟨_,x,v1,e,h1⟩:=aCU.rd _ _ _ _ _ _ _ _ hf
 cases e
 refine ⟨x,h1.aE8 λ y es hy=>hy.1,λ y hy=>?_⟩
 obtain ⟨_,_,h2⟩:=h1.each y hy
 exact h2
theorem ajw(hv:Value.okWide prog W .any b0 5 v)(h:DataW.Trod enc prog W 0 (λ _=>true) true 5 v d p):∃ x:Int,v = .int .u8 x∧0≤x∧x < 256:=by
 obtain ⟨x,rfl,_,_,hw⟩:=open_int underlying5 hv h
 simp only [Lit.wf,Bool.and_eq_true,IntKind.min,IntKind.max,IntKind.signed,IntKind.bits] at hw
 simp at hw
 exact ⟨x,rfl,by omega,by omega⟩
theorem aH2(hv:Value.okWide prog W .any b0 93 v)(h:DataW.Trod enc prog W 0 (λ _=>true) true 93 v d p):∃ x:dI,v = .agg #[.string x.Name,iv x.mg]:=by
 obtain ⟨cs,rfl,_⟩:=okWide_struct underlying93 hv
 obtain ⟨fuel,hf⟩:=h
 obtain ⟨_,x,e⟩:=ae5.rd _ _ _ _ _ _ _ _ hf
 exact ⟨x,by rw [← Array.toArray_toList (xs:=cs),show cs.toList=_ from e]⟩
end
theorem apR:prog.globalNamed "lagan/stint.checks"=some 0:=by kernel_rfl
theorem aD1:(prog.globals[0]?).map (·.type)=some 180:=by kernel_rfl
abbrev Km:List (String × DataW Unit):=[("lagan/stint.checks",Rows.laid_lagan_stint_checks)]
theorem amS(os:Os)(args:Array Value):laidMetH prog Km ((World.doorLaid prog 14 os).forCall (λ _ _=>0) ⟨#[],args,[]⟩).memory :=
 laidMetH_of_parts3 (fuel:=8) (laidMet_of_run' 8 (by kernel_rfl) (by kernel_rfl)) (by kernel_rfl) (by kernel_rfl)
theorem aBG{W:World}(h:laidMetH prog Km W):iP (qG W):=by
 obtain ⟨g,t,cs,fuel,p,hg,ht,hv,hd⟩:=h.funcs (n := "lagan/stint.checks") (List.mem_cons_self ..)
 obtain rfl:=Option.some.inj (apR.symm.trans hg)
 obtain rfl:=Option.some.inj (aD1.symm.trans ht)
 obtain ⟨xs,n,_,hx,hlen,hn,l8⟩:=DataW.trod_array underlying180 (show DataW.trod (funcToken prog) prog W 0 (λ _=>true) true fuel 180 cs.toList=some (.agg [.held [40,108,97,103,97,110,47,115,116,105,110,116,46,98,111,111,107,41,46,114,101,115,116],.held [40,108,97,103,97,110,47,115,116,105,110,116,46,98,111,111,107,41,46,116,97,98,108,101],.held [40,108,97,103,97,110,47,115,116,105,110,116,46,98,111,111,107,41,46,112,108,97,99,101,115],.held [40,108,97,103,97,110,47,115,116,105,110,116,46,98,111,111,107,41,46,109,101,110],.held [40,108,97,103,97,110,47,115,116,105,110,116,46,98,111,111,107,41,46,100,105,118,101,115],.held [40,108,97,103,97,110,47,115,116,105,110,116,46,98,111,111,107,41,46,115,111,117,110,100,105,110,103,115]],p) from hd)
 rw [show prog.cellsOf 125=1 by kernel_rfl] at l8
 have hl:cs.toList.length=6:=hlen.trans (by kernel_rfl)
 obtain ⟨cs⟩:=cs
 simp only at hl l8
 match xs,hn,cs,hl with
 | [x0,x1,x2,x3,x4,x5],_,[c0,c1,c2,c3,c4,c5],_ =>
  simp only [Prod.mk.injEq,DataW.agg.injEq,List.map_cons,List.map_nil,List.cons.injEq,and_true] at hx
  obtain ⟨⟨e0,e1,e2,e3,e4,e5⟩,_⟩:=hx
  obtain ⟨x0,q0⟩:=x0
  obtain ⟨x1,q1⟩:=x1
  obtain ⟨x2,q2⟩:=x2
  obtain ⟨x3,q3⟩:=x3
  obtain ⟨x4,q4⟩:=x4
  obtain ⟨x5,q5⟩:=x5
  simp only at e0 e1 e2 e3 e4 e5
  subst e0 e1 e2 e3 e4 e5
  obtain rfl:=func_of_trod (f0:=265) underlying125 (by kernel_rfl) (l8 0 (by decide))
  obtain rfl:=func_of_trod (f0:=266) underlying125 (by kernel_rfl) (l8 1 (by decide))
  obtain rfl:=func_of_trod (f0:=267) underlying125 (by kernel_rfl) (l8 2 (by decide))
  obtain rfl:=func_of_trod (f0:=268) underlying125 (by kernel_rfl) (l8 3 (by decide))
  obtain rfl:=func_of_trod (f0:=269) underlying125 (by kernel_rfl) (l8 4 (by decide))
  obtain rfl:=func_of_trod (f0:=270) underlying125 (by kernel_rfl) (l8 5 (by decide))
  intro j v hj
  rw [Nat.zero_add]
  refine amE ?_
  rw [World.var?_cell hg hv j]
  simpa using hj
end Go.Proofs.YtihapemckcdicaaGreatDoor
