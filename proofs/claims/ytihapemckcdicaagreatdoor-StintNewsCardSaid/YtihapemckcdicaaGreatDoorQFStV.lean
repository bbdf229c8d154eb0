/- What able does in company; the arguments of the statements. Conditions: none. -/
import Derived.Test.YtihapemckcdicaaGreatDoorQFStF
import Derived.Test.YtihapemckcdicaaGreatDoorQFLgE
import Derived.Test.YtihapemckcdicaaGreatDoorQFStW1
import Derived.Test.YtihapemckcdicaaGreatDoorQFStG
import Derived.Test.YtihapemckcdicaaGreatDoorTie
import Derived.Stop.Joined
import Derived.LaidOnce
import Derived.ProofKit
import Derived.OpenShut
namespace Go.Proofs.YtihapemckcdicaaGreatDoor
open Go.Lg Go.Proofs Go.Conc Go.ConcN Tryz
set_option maxRecDepth 100000
set_option maxHeartbeats 4000000
section
variable {B:Base} {R:ax} {H:an} {Post:Value→World→Prop}
abbrev pt(b:Nat):Value:=.pointer (some ⟨b,0,none⟩)
def qR(a:Nat→Nat→Bool)(js:Nat→Nat):List Bool:=(List.range 16).map λ p=>decide (p / 4 < js (p % 4)) && a (p / 4) (p % 4)
theorem ad5(a:Nat→Nat→Bool)(js:Nat→Nat):mK a js=[]++((qR a js).map Value.bool++[]):=by simp [mK,qR]
theorem ad6(a:Nat→Nat→Bool)(js:Nat→Nat):(qR a js).length=16:=by simp [qR]
theorem aB6{a:Nat→Nat→Bool}{js:Nat→Nat}{k j:Nat}(hk:k < 4)(hj:j < 4)(gU:js k=j):mK a (gb js k (j+1))=[]++((pn 4 (qR a js) (j:Int) (k:Int) (a j k)).map Value.bool++[]):=by
 rw [aB7 hk hj gU,ad5]
 simp only [pn,List.map_set,Int.toNat_natCast,List.nil_append,List.append_nil]
 rw [Nat.mul_comm]
theorem aDj{a:Nat→Nat→Bool}{js:Nat→Nat}{k j:Nat}(hk:k < 4)(hj:j < 4):∃ qa eZ,ja 4 (qR a js) (j:Int)=some qa∧idx qa (k:Int)=some eZ:=by
 have h1:ja 4 (qR a js) (j:Int)=some (((qR a js).drop (j * 4)).take 4):=by
  unfold ja
  rw [if_pos ⟨by omega,by rw [ad6]; simp; omega⟩]
  simp
 have hl:=ox h1
 exact ⟨_,(((qR a js).drop (j * 4)).take 4)[k]'(by omega),h1,by rw [fZ]; exact List.getElem?_eq_getElem (by omega)⟩
noncomputable def kX(B:Base)(Post:Value→World→Prop)(bm bw bo N J:Nat)(a:Nat→Nat→Bool)(ho:bm≠bw∧bm≠bo∧bw≠bo)(hJ:0 < J)(hN:N≤4):Fx :=
 { P:=prog,B:=B,bm:=bm,bw:=bw,bo:=bo,tm:=194,tw:=201,N:=N,J:=J,cont:=λ js=>.cells (mK a js).toArray 145 (0,0),ho:=ho,hJ:=hJ,hN:=hN,mj:=iB prog B Post }
structure uE (R:ax) (b:Nat) (x:b8) (v1 v2 v3 v4 v5 v6:Value):Prop where
 c:aQ R [] b 0 [iv x.book.Rest,v1,v2,v3,v4,v5,v6]
 h1:aa bC 2 R v1 x.book.Rows
 h2:aa bJ 2 R v2 x.book.aO
 h3:aa bF 2 R v3 x.book.aH
 h4:aa bK 4 R v4 x.book.aR
 h5:aa bz 3 R v5 x.book.aN
 h6:aa fA 3 R v6 x.eV
theorem uE.up{R R':ax}{b:Nat}{x:b8}{v1 v2 v3 v4 v5 v6:Value}(h:uE R b x v1 v2 v3 v4 v5 v6)(hR:aS R R'):uE R' b x v1 v2 v3 v4 v5 v6 :=
 ⟨h.c.up hR,h.h1.mono hR,h.h2.mono hR,h.h3.mono hR,h.h4.mono hR,h.h5.mono hR,h.h6.mono hR⟩
theorem adI{α β:Type}{f:α→Option β}:∀ {xs:List α} {ys:List β},xs.mapM f=some ys→ys.length=xs.length∧∀ (i:Nat) (x:α),xs[i]? = some x→∃ y,ys[i]? = some y∧f x=some y
 | [],ys,h=>by
  simp at h; subst h
  exact ⟨rfl,λ i x hx=>by simp at hx⟩
 | a::xs,ys,h=>by
  rw [List.mapM_cons] at h
  cases ha:f a with
  | none=>rw [ha] at h; simp at h
  | some b =>
   cases hr:xs.mapM f with
   | none=>rw [ha,hr] at h; simp at h
   | some bs =>
    rw [ha,hr] at h
    simp at h
    subst h
    obtain ⟨h1,h2⟩:=adI hr
    refine ⟨by simp [h1],λ i x hx=>?_⟩
    cases i with
    | zero=>simp at hx; subst hx; exact ⟨b,rfl,ha⟩
    | succ i=>exact h2 i x (by simpa using hx)
noncomputable def EG:Code:=(vx (Tryz.f170.body.getD .skip)).getD .skip
variable {x0:b8} {v1 v2 v3 v4 v5 v6:Value} {bm bw bo N J:Nat} {a:Nat→Nat→Bool} {ho:bm≠bw∧bm≠bo∧bw≠bo} {hJ:0 < J} {hN:N≤4} {b1 bk k:Nat}
theorem am2{tmps:Array Value}{st:St}(ht:cQ 30 st tmps)(todo:List Item):Gone (aY (iZ ⟨170,.deferred,none,30,[],[yr prog]⟩ tmps todo) [yr prog]) :=
 QJ.Zv (J:=xM prog 0) func170 ht rfl (.inr rfl) ⟨1,aCG⟩
noncomputable abbrev XR (bw:Nat):Ctx:=⟨170,.deferred,none,30,[dcall 171 #[.pointer (some ⟨bw,0,none⟩)]],[yr prog]⟩
noncomputable abbrev Kp (b1 bk bm bw bo J j:Nat):St:=[(0,pt bw),(1,pt b1),(2,pt bk),(3,pt bm),(4,pt bo),(11,iv (J:Int)),(12,iv (j:Int))]
theorem afU(hB:∀ w:World,B.os w.os→B.os w.later.os)(rJ:J≤4)(hk:k < N){j:Nat}(hj:j < J)(ha:rT x0 j k=some (a j k))
  (again:j+1 < J→∀ (n:Nat) (R:ax),uE R b1 x0 v1 v2 v3 v4 v5 v6→aQ R [] bk 0 [iv (k:Int)]→U (WJ (kX B Post bm bw bo N J a ho hJ hN) n k (j+1) .ld) (XR bw) R [] (Kp b1 bk bm bw bo J (j+1)) [.code EG,.inLoop EG,.inBlock 0])
  (n:Nat) (R:ax) (hO:uE R b1 x0 v1 v2 v3 v4 v5 v6) (eO:aQ R [] bk 0 [iv (k:Int)]):U (WJ (kX B Post bm bw bo N J a ho hJ hN) n k j .ld) (XR bw) R [] (Kp b1 bk bm bw bo J j) [.code EG,.inLoop EG,.inBlock 0]:=by
 obtain ⟨cw,dT,dH,dU,dO,dV,il⟩:=hO
 refine U.seq ?_
 refine U.rg [0] ?_
 refine U.vs 1 rfl rfl ?_
 refine U.aV ?_
 refine U.seq ?_
 refine U.fu rfl (by simp; omega) ?_
 refine U.skip ?_
 refine U.seq ?_
 refine U.block ?_
 refine U.seq ?_
 refine U.rg [0,1,2] ?_
 refine U.vs 1 rfl rfl ?_
 refine U.ix rfl rfl rfl (Ox.alloc (cs:=#[iv 0]) rfl Gi rfl λ b5 _ _=>⟨_,(.put rfl),?_⟩)
 refine U.ix rfl rfl rfl (Ox.gp (cs':=#[_]) rfl rfl rfl bu rfl .here rfl rfl rfl (.refl _) ?_)
 refine U.aV ?_
 refine U.pL (H2:=[]) (λ X=>X++[]) .id rfl (λ Rf s9 Mi=>?_)
 replace cw:=cw.up (H:=[]) s9
 replace eO:=eO.up (H:=[]) s9
 replace dT:=dT.mono s9
 replace dH:=dH.mono s9
 replace dU:=dU.mono s9
 replace dO:=dO.mono s9
 replace dV:=dV.mono s9
 replace il:=il.mono s9
 refine U.seq ?_
 obtain ⟨c9,gk,he⟩:∃ c9,rX x0 (λ y=>zD y x0 (k:Int) (j:Int))=some c9∧(c9 == (x0.eV.length:Int))=a j k:=by
  unfold rT at ha
  obtain ⟨x,h1,h2⟩:=aj ha
  exact ⟨x,h1,ab h2⟩
 refine U.dw gl mixed ?_
 refine Any.tk 0 rfl (λ _ h=>h) (λ R' H' hR hS=>Ox.bN (vs:=[_,_,_,_,_,_,_]) rfl rfl dF rfl (((cw.le hR).sub (λ p h=>hS p ((λ _ h=>h) p h))).part (j:=0) (n:=7) rfl) rfl (.one rfl) ⟨rfl,rfl,rfl⟩) ?_
 refine Any.tk 1 rfl (λ _ h=>h) (λ R' H' hR hS=>Ox.makeFunc (vs:=#[]) (us:=#[_,_,_]) rfl rfl rfl rfl (.one rfl) ⟨rfl,rfl,rfl⟩) ?_
 refine Any.vs 1 [3] rfl ?_
 refine Any.tk 4 rfl (λ _ h=>h) (λ R' H' hR hS=>Ox.dg rfl rfl qP (((cw.le hR).sub (λ p h=>hS p ((λ _ h=>h) p h))).one (j:=6) rfl) rfl (.one rfl) ⟨rfl,rfl,rfl⟩) ?_
 refine Any.tk 5 rfl (λ _ h=>h) (λ R' H' hR hS=>Ox.tJ (K:=fA) (k:=3) (xs:=x0.eV) rfl rfl (il.mono hR) underlying111 rfl (.one rfl) ⟨rfl,rfl,rfl⟩) ?_
 refine Any.cv 2 LO (Nf x0 (λ y=>zD y x0 (k:Int) (j:Int)) dT dH dU dO dV il ⟨172,#[],#[_,_,_],rfl,akh,λ R' H' hR hH y r va hA hr=>by obtain ⟨_,rfl,⟨tM,rfl⟩⟩:=hA; exact (az2 y x0 (k:Int) (j:Int) tM ((cw.le hR).sub (λ p h=>hH p ((λ _ h=>h) p h))) (dT.mono hR) (dH.mono hR) (dU.mono hR) (dO.mono hR) (dV.mono hR) (il.mono hR) ((eO.le hR).sub (λ p h=>hH p ((λ _ h=>h) p h))) ((Mi.le hR).sub (λ p h=>hH p ((λ _ h=>h) p h))) hr).mono λ _ _ _ ⟨h1,h2,h3⟩=>⟨h1 ▸ aS.refl _,h2.symm,h3⟩⟩ gk) ?_
 rintro _ Dz _ ⟨gD,rfl,rfl⟩
 replace dT:=dT.mono gD
 replace dH:=dH.mono gD
 replace dU:=dU.mono gD
 replace dO:=dO.mono gD
 replace dV:=dV.mono gD
 replace il:=il.mono gD
 replace cw:=cw.le gD
 replace eO:=eO.le gD
 replace Mi:=Mi.le gD
 refine ⟨gD,(ax8 (λ _ h=>h)),?_⟩
 refine Any.vs 2 [6,7] rfl ?_
 refine Any.done ?_
 refine U.sub (st':=(6,.bool (a j k))::(5,pt b5)::Kp b1 bk bm bw bo J j) (bU.sub ⟨congrArg (λ z=>some (Value.bool z)) he,rfl,rfl,rfl,rfl,rfl,rfl,rfl,rfl,trivial⟩) ?_
 refine U.seq ?_
 refine U.rg [0] ?_
 refine U.vy rfl rfl rfl rfl rfl aki rfl (ay3 (F:=kX B Post bm bw bo N J a ho hJ hN) hB n) λ ba bd n js gU=>(?_:U (WJ (kX B Post bm bw bo N J a ho hJ hN) n k j (.ul js)) _ _ _ _ _) ba bd
 refine U.aV ?_
 refine U.seq ?_
 obtain ⟨qa,eZ,vf,gO⟩:=aDj (a:=a) (js:=js) (k:=k) (j:=j) (by omega) (by omega)
 have l4:=ad6 a js
 show U _ _ _ [(bo,.cells (mK a js).toArray 145 (0,0))] _ _
 rw [ad5]
 refine U.draw (n:=6) (is:=[0,1,2,3,4,5]) (many ((bo,.cells (List.toArray ([]++((qR a js).map Value.bool++[]))) 145)::[]) [(5,[])]) mixed rfl (by decide +kernel) rfl rfl ?_
 refine Any.CX (i:=0) [3,4,5] rfl rfl rfl (by decide +kernel) (dW rfl (gw (λ _ h=>(List.Sublist.subset (List.Sublist.cons _ (List.Sublist.refl _))) h))) (λ _ h=>(List.Sublist.subset (List.Sublist.cons _ (List.Sublist.refl _))) h) (λ R' H' hR hS=>Ox.dg rfl rfl bu (((Mi.le hR).sub (λ p h=>hS p ((λ _ h=>h) p h))).one (j:=0) rfl) rfl (.one rfl) ⟨rfl,rfl,rfl⟩) (.refl _) (by decide) (pe:=[1,2,3,4,5]) rfl ?_
 refine Any.CX (i:=1) [4,5] rfl rfl rfl (by decide +kernel) (dW rfl (gw (λ _ h=>(List.Sublist.subset (List.Sublist.cons _ (List.Sublist.refl _))) h))) (λ _ h=>(List.Sublist.subset (List.Sublist.cons _ (List.Sublist.refl _))) h) (λ R' H' hR hS=>Ox.dg rfl rfl bu (((eO.le hR).sub (λ p h=>hS p ((λ _ h=>h) p h))).one (j:=0) rfl) rfl (.one rfl) ⟨rfl,rfl,rfl⟩) (.refl _) (by decide) (pe:=[2,3,4,5]) rfl ?_
 refine Any.vs 1 [2] rfl ?_
 refine Any.CX (i:=3) [4,5] rfl rfl rfl (by decide +kernel) (dW rfl (gw (λ _ h=>(List.Sublist.subset (List.Sublist.cons _ (List.Sublist.refl _))) h))) (λ _ h=>(List.Sublist.subset (List.Sublist.cons _ (List.Sublist.refl _))) h) (λ R' H' hR hS=>Ox.dJ rfl rfl rfl (vw uI l4 (by decide) vf) rfl (.one rfl) ⟨rfl,rfl,rfl⟩) (.refl _) (by decide) (pe:=[4,5]) rfl ?_
 refine Any.CX (i:=4) [5] rfl rfl rfl (by decide +kernel) (dW rfl (gw (λ _ h=>(List.Sublist.subset (List.Sublist.cons _ (List.Sublist.refl _))) h))) (λ _ h=>(List.Sublist.subset (List.Sublist.cons _ (List.Sublist.refl _))) h) (λ R' H' hR hS=>Ox.dJ rfl rfl rfl (oo qf (ox vf) gO) rfl (.one rfl) ⟨rfl,rfl,rfl⟩) (.refl _) (by decide) (pe:=[5]) rfl ?_
 refine Any.on 5 rfl rfl (aZ.to (Ox.gp rfl rfl rfl gY rfl .here (Qe vf gO rfl) (Qg vf gO rfl) rfl (.refl _) ⟨aS.refl _,(eX rfl (λ _ h=>(List.Sublist.subset (List.Sublist.cons _ (List.Sublist.refl _))) h)),?_⟩))
 refine Any.done ?_
 rw [← aB6 (a:=a) (by omega) (by omega) gU]
 refine U.rg [0] ?_
 have dK:i64 ((j:Int)+1)=((j+1:Nat):Int):=by rw [MV (by omega)]; omega
 refine U.vy rfl rfl rfl rfl rfl akj rfl (aEm (F:=kX B Post bm bw bo N J a ho hJ hN) (js:=js) (show j+1≤J by omega) n) λ ba bd=>⟨λ h n=>(?_:U (WJ (kX B Post bm bw bo N J a ho hJ hN) n k (j+1) .ld) _ _ _ _ _) ba bd,λ h n=>(?_:U (WJ (kX B Post bm bw bo N J a ho hJ hN) n k (j+1) .wv) _ _ _ _ _) ba bd⟩
 ·refine U.aV ?_
  refine U.inBlock ?_
  refine U.rg [0,1] ?_
  refine U.vs 2 rfl rfl ?_
  refine U.aV ?_
  refine U.inLoop ?_
  refine U.sub ?_ (again h n _ ⟨cw,dT,dH,dU,dO,dV,il⟩ eO)
  exact bU.sub ⟨rfl,rfl,rfl,rfl,rfl,rfl,congrArg (λ z=>some (iv z)) dK,trivial⟩
 ·have hJe:j+1=J:=h
  refine U.aV ?_
  refine U.inBlock ?_
  refine U.rg [0,1] ?_
  refine U.vs 2 rfl rfl ?_
  refine U.aV ?_
  refine U.inLoop ?_
  refine U.sub (st':=Kp b1 bk bm bw bo J (j+1)) (bU.sub ⟨rfl,rfl,rfl,rfl,rfl,rfl,congrArg (λ z=>some (iv z)) dK,trivial⟩) ?_
  refine U.seq ?_
  refine U.rg [0] ?_
  refine U.vs 1 rfl rfl ?_
  refine U.aV ?_
  refine U.seq ?_
  refine U.eD rfl (by simp; omega) ?_
  refine U.exit rfl ?_
  refine U.toEnd rfl λ tmps ht=>?_
  exact Jd.unwind rfl func171 rfl rfl (ajG (F:=kX B Post bm bw bo N J a ho hJ hN) (.inl rfl) (am2 ht _) n)
theorem afT(hB:∀ w:World,B.os w.os→B.os w.later.os)(rJ:J≤4)(hk:k < N)(ha:∀ j,j < J→rT x0 j k=some (a j k)):∀ (m j:Nat),J=j+m+1→∀ (n:Nat) (R:ax),uE R b1 x0 v1 v2 v3 v4 v5 v6→aQ R [] bk 0 [iv (k:Int)] →
  U (WJ (kX B Post bm bw bo N J a ho hJ hN) n k j .ld) (XR bw) R [] (Kp b1 bk bm bw bo J j) [.code EG,.inLoop EG,.inBlock 0]
 | 0,j,hm,n,R,hO,hc=>afU hB rJ hk (by omega) (ha j (by omega)) (λ h=>by omega) n R hO hc
 | m+1,j,hm,n,R,hO,hc=>afU hB rJ hk (by omega) (ha j (by omega)) (λ _ n R hO hc=>afT hB rJ hk ha m (j+1) (by omega) n R hO hc) n R hO hc
theorem aFJ(hB:∀ w:World,B.os w.os→B.os w.later.os)(rJ:J≤4)(AZ:x0.book.aR.length=J)(hk:k < N)(ha:∀ j,j < J→rT x0 j k=some (a j k))(n:Nat){R:ax}(hO:uE R b1 x0 v1 v2 v3 v4 v5 v6)(hc:aQ R [] bk 0 [iv (k:Int)]) :
  Own prog B false (KW (FT (kX B Post bm bw bo N J a ho hJ hN)) n k 0 .ld) R [] (aY (Frame.enter prog 170 (#[]++#[pt bw,pt b1,pt bk,pt bm,pt bo]) .deferred) [yr prog]):=by
 refine Jd.enter (ae:=WJ (kX B Post bm bw bo N J a ho hJ hN) n k 0 .ld) (args:=[pt bw,pt b1,pt bk,pt bm,pt bo]) func170 rfl (m:=30) rfl rfl ?_
 refine U.seq ?_
 refine U.rg [0] ?_
 refine U.defer rfl rfl rfl rfl rfl rfl rfl (.NA rfl) ?_
 refine U.aV ?_
 refine U.seq ?_
 refine U.rg [0,1,2,3,4,5] ?_
 refine U.vs 3 rfl rfl ?_
 refine U.ix rfl rfl rfl (Ox.dg rfl rfl gX (hO.c.any.one (j:=4) rfl) rfl (.put rfl) ?_)
 refine U.ix rfl rfl rfl (Ox.tJ (K:=bK) (k:=4) (xs:=x0.book.aR) rfl rfl hO.h4 underlying25 rfl (.put rfl) ?_)
 refine U.vs 1 rfl rfl ?_
 refine U.aV ?_
 refine U.block ?_
 refine U.enterLoop ?_
 refine U.sub ?_ (afT (m:=J - 1) (j:=0) hB rJ hk ha (by omega) n R hO hc)
 exact bU.sub ⟨rfl,rfl,rfl,rfl,rfl,by rw [← AZ]; rfl,rfl,trivial⟩
noncomputable def EF:Code:=(vx (Tryz.f123.body.getD .skip)).getD .skip
abbrev Fj(b1 b2 bo bm bw:Nat):St:=[(1,pt b1),(2,pt b2),(3,pt bo),(4,pt bm),(5,pt bw)]
theorem aeM{c:Ctx}(eP:c.n=20)(zc:c.kind = .normal)(zd:c.ro=none){b2:Nat}{H0:an}{K:List Item}(hB:∀ w:World,B.os w.os→B.os w.later.os)(rJ:J≤4)(AZ:x0.book.aR.length=J)(ha:∀ j k,j < J→k < N→rT x0 j k=some (a j k)){r i n:Nat}{R':ax}(hi:N=i+r+1)
  (next:∀ (n:Nat) (cC:ax),aS R' cC→U (fX (kX B Post bm bw bo N J a ho hJ hN) n (kq r)) c cC H0 ((11,iv (N:Int))::(12,iv ((i+1:Nat):Int))::Fj b1 b2 bo bm bw) (.code EF :: .inLoop EF :: .inBlock 0::K))
  (hO:uE R' b1 x0 v1 v2 v3 v4 v5 v6) :
  U (fX (kX B Post bm bw bo N J a ho hJ hN) n (.ka r)) c R' H0 ((11,iv (N:Int))::(12,iv (i:Int))::Fj b1 b2 bo bm bw) (.code EF :: .inLoop EF :: .inBlock 0::K):=by
 obtain ⟨cf,ck,cr,cn,cd,ccs⟩:=c
 simp only at eP zc zd
 subst eP zc zd
 refine U.seq ?_
 refine U.rg [0] ?_
 refine U.vs 1 rfl rfl ?_
 refine U.aV ?_
 refine U.seq ?_
 refine U.fu rfl (by simp; omega) ?_
 refine U.skip ?_
 refine U.seq ?_
 refine U.block ?_
 refine U.seq ?_
 refine U.rg [0,1,2] ?_
 refine U.vs 1 rfl rfl ?_
 refine U.ix rfl rfl rfl (Ox.alloc (cs:=#[iv 0]) rfl Gi rfl λ b6 _ _=>⟨_,(.put rfl),?_⟩)
 refine U.ix rfl rfl rfl (Ox.gp (cs':=#[_]) rfl rfl rfl bu rfl .here rfl rfl rfl (.refl _) ?_)
 refine U.aV ?_
 refine U.pL (H2:=H0) (λ X=>X++H0) .id rfl (λ Rf s9 hc6=>?_)
 replace hO:=hO.up s9
 refine U.seq ?_
 refine U.rg [0] ?_
 refine U.vy rfl rfl rfl rfl rfl aaJ rfl (aBm (F:=kX B Post bm bw bo N J a ho hJ hN) r n) λ ba bd n=>(?_:U (fX (kX B Post bm bw bo N J a ho hJ hN) n (.go r)) _ _ _ _ _) ba bd
 refine U.aV ?_
 refine U.rg [0,1] ?_
 refine U.ix rfl rfl rfl (Ox.makeFunc (vs:=#[]) (us:=#[_,_,_,_,_]) rfl rfl rfl rfl (.put rfl) ?_)
 have dK:i64 ((i:Int)+1)=((i+1:Nat):Int):=by rw [MV (by omega)]; omega
 refine sM λ m hm=>KM.spawn (F:=FT (kX B Post bm bw bo N J a ho hJ hN)) (d:=⟨.fn (.func 170) #[pt bw,pt b1,pt b6,pt bm,pt bo],#[]⟩) rfl rfl rfl (aCX rfl rfl rfl) rfl rfl ?_ λ ba bd=>(?_:U (fX (kX B Post bm bw bo N J a ho hJ hN) m (kq r)) _ _ _ _ _) ba bd
 ·refine Own.child rfl (aEE akg) ?_
  have ei:N - (r+1)=i:=by omega
  show Own _ _ _ (KW _ m (N - (r+1)) 0 .ld) _ _ _
  rw [ei]
  exact aFJ (k:=i) hB rJ AZ (by omega) (λ j hj=>ha j i hj (by omega)) m hO hc6
 ·refine U.aV ?_
  refine U.inBlock ?_
  refine U.rg [0,1] ?_
  refine U.vs 2 rfl rfl ?_
  refine U.aV ?_
  refine U.inLoop ?_
  refine U.sub ?_ (next m Rf s9)
  exact bU.sub ⟨rfl,congrArg (λ z=>some (iv z)) dK,rfl,rfl,rfl,rfl,rfl,trivial⟩
theorem aeL{c:Ctx}(eP:c.n=20)(zc:c.kind = .normal)(zd:c.ro=none){b2:Nat}{H0:an}{K:List Item}(hB:∀ w:World,B.os w.os→B.os w.later.os)(rJ:J≤4)(AZ:x0.book.aR.length=J)(ha:∀ j k,j < J→k < N→rT x0 j k=some (a j k))
  (abX:∀ (n:Nat) (R':ax),aS R R'→U (fX (kX B Post bm bw bo N J a ho hJ hN) n .wa) c R' H0 (Fj b1 b2 bo bm bw) K):∀ (r i n:Nat) (R':ax),N=i+r+1→aS R R'→uE R' b1 x0 v1 v2 v3 v4 v5 v6 →
  U (fX (kX B Post bm bw bo N J a ho hJ hN) n (.ka r)) c R' H0 ((11,iv (N:Int))::(12,iv (i:Int))::Fj b1 b2 bo bm bw) (.code EF :: .inLoop EF :: .inBlock 0::K)
 | 0,i,n,R',hi,hR,hO=>aeM eP zc zd hB rJ AZ ha hi (λ n cC rK=>by
   obtain ⟨cf,ck,cr,cn,cd,ccs⟩:=c
   simp only at eP zc zd
   subst eP zc zd
   refine U.seq ?_
   refine U.rg [0] ?_
   refine U.vs 1 rfl rfl ?_
   refine U.aV ?_
   refine U.seq ?_
   refine U.eD rfl (by rw [decide_eq_false_iff_not]; omega) ?_
   refine U.exit rfl ?_
   refine U.sub ?_ (abX n cC (hR.trans rK))
   exact bU.sub ⟨rfl,rfl,rfl,rfl,rfl,trivial⟩) hO
 | r+1,i,n,R',hi,hR,hO=>aeM eP zc zd hB rJ AZ ha hi (λ n cC rK=>aeL eP zc zd hB rJ AZ ha abX r (i+1) n cC (by omega) (hR.trans rK) (hO.up rK)) hO
theorem ahW{x0:b8}{r:List Bool}(Rs:x0.book.aR.length≤4)(Hq:x0.book.aH.length≤4)
  (hr:(((List.range 16).mapM λ (p:Nat)=>if p / 4 < x0.book.aR.length∧p % 4 < x0.book.aH.length then rT x0 (p / 4) (p % 4) else some false):Option (List Bool))=some r) :
  ∃ a:Nat→Nat→Bool,r.length=16∧(∀ i k,i < x0.book.aR.length→k < x0.book.aH.length→rT x0 i k=some (a i k))∧∀ js,(∀ k,k < x0.book.aH.length→js k=x0.book.aR.length)→mK a js=[]++(r.map Value.bool++[]):=by
 obtain ⟨hlen,tj⟩:=adI hr
 rw [List.length_range] at hlen
 have Mm:∀ i k,i < 4→k < 4→∃ y,r[4 * i+k]? = some y∧(if i < x0.book.aR.length∧k < x0.book.aH.length then rT x0 i k else some false)=some y:=λ i k hi hk=>by
  obtain ⟨y,g1,g2⟩:=tj (4 * i+k) (4 * i+k) (List.getElem?_range (by omega))
  rw [show (4 * i+k) / 4=i by omega,show (4 * i+k) % 4=k by omega] at g2
  exact ⟨y,g1,g2⟩
 refine ⟨λ i k=>(r[4 * i+k]?).getD false,hlen,λ i k hi hk=>?_,λ js gU=>?_⟩
 ·obtain ⟨y,g1,g2⟩:=Mm i k (by omega) (by omega)
  rw [if_pos ⟨hi,hk⟩] at g2
  rw [g2]
  show some y=some ((r[4 * i+k]?).getD false)
  rw [g1]; rfl
 ·apply List.ext_getElem?
  intro p
  rcases Nat.lt_or_ge p 16 with hp | hp
  ·rw [WZ hp]
   obtain ⟨y,g1,g2⟩:=Mm (p / 4) (p % 4) (by omega) (by omega)
   rw [show 4 * (p / 4)+p % 4=p by omega] at g1
   simp only [List.nil_append,List.append_nil,List.getElem?_map,show 4 * (p / 4)+p % 4=p by omega,g1,Option.map_some,Option.getD_some]
   by_cases wS:p / 4 < x0.book.aR.length∧p % 4 < x0.book.aH.length
   ·rw [gU _ wS.2,decide_eq_true wS.1,Bool.true_and]
   ·rw [if_neg wS] at g2
    rw [← ab g2,Bool.and_false]
  ·rw [List.getElem?_eq_none (by simp [mK]; exact hp),List.getElem?_eq_none (by simp [hlen]; exact hp)]
theorem ahX(hB:∀ w:World,B.os w.os→B.os w.later.os):v8 (Cy prog B Post):=by
 intro R H x0 v1 v2 v3 v4 v5 v6 h1 h2 h3 h4 h5 h6 r hr
 unfold vB at hr
 split at hr
 case isFalse=>cases hr
 rename_i hc
 obtain ⟨⟨Rr,Rs⟩,hN0,Hq⟩:=hc
 obtain ⟨a,hlen,ha,aqP⟩:=ahW Rs Hq hr
 refine aB.bn (args:=[.agg #[iv x0.book.Rest,v1,v2,v3,v4,v5,v6]]) func123 rfl (n:=20) rfl rfl λ fr cs hk=>?_
 refine U.seq ?_
 refine U.rg [0,1] ?_
 refine U.ix rfl rfl rfl (Ox.ZC rfl rfl rfl λ b1 _ _=>⟨_,(.put rfl),?_⟩)
 refine U.ix rfl rfl rfl (Ox.alloc (cs:=#[.bool false,.bool false,.bool false,.bool false,.bool false,.bool false,.bool false,.bool false,.bool false,.bool false,.bool false,.bool false,.bool false,.bool false,.bool false,.bool false]) rfl ie rfl λ b2 _ _=>⟨_,(.put rfl),?_⟩)
 refine U.aV ?_
 refine U.seq ?_
 refine U.rg [0] ?_
 refine U.ix rfl rfl rfl (Ox.alloc (cs:=#[.bool false,.bool false,.bool false,.bool false,.bool false,.bool false,.bool false,.bool false,.bool false,.bool false,.bool false,.bool false,.bool false,.bool false,.bool false,.bool false]) rfl ie rfl λ b3 _ n3=>⟨_,(.put rfl),?_⟩)
 refine U.aV ?_
 refine U.seq ?_
 refine U.rg [0] ?_
 refine U.ix rfl rfl rfl (Ox.alloc (cs:=#[.int .i32 0,.int .u32 0]) rfl aFT rfl λ b4 _ n4=>⟨_,(.put rfl),?_⟩)
 refine U.aV ?_
 refine U.seq ?_
 refine U.rg [0] ?_
 refine U.ix rfl rfl rfl (Ox.alloc (cs:=#[.int .u64 0,.int .u32 0]) rfl aFU rfl λ b5 _ n5=>⟨_,(.put rfl),?_⟩)
 refine U.aV ?_
 have ho:b4≠b5∧b4≠b3∧b5≠b3:=⟨λ e=>by subst e; exact n5 _ (List.mem_cons_self),λ e=>by subst e; exact n4 _ (List.mem_cons_self),λ e=>by subst e; exact n5 _ (List.mem_cons_of_mem _ (List.mem_cons_self))⟩
 clear n3 n4 n5
 refine U.seq ?_
 refine U.seq ?_
 refine U.rg [0,1,2,3,4,5] ?_
 refine U.vs 3 rfl rfl ?_
 refine U.ix rfl rfl rfl (Ox.dg rfl rfl iY ((aQ.box (L:=[iv x0.book.Rest,v1,v2,v3,v4,v5,v6]) (.tail _ (.tail _ (.tail _ (.tail _ (.head _)))))).one (j:=3) rfl) rfl (.put rfl) ?_)
 refine U.ix rfl rfl rfl (Ox.tJ (K:=bF) (k:=2) (xs:=x0.book.aH) rfl rfl h3 underlying24 rfl (.put rfl) ?_)
 refine U.vs 1 rfl rfl ?_
 refine U.aV ?_
 refine U.block ?_
 refine U.pL (H2:=(b5,_)::(b4,_)::(b3,_)::(b2,_)::H) (λ X=>(b5,_)::(b4,_)::(b3,_)::(b2,_)::X++H) (.cons (.cons (.cons (.cons .id)))) rfl (λ R1 A0 cw=>?_)
 have hO:uE R1 b1 x0 v1 v2 v3 v4 v5 v6:=⟨cw,h1.mono A0,h2.mono A0,h3.mono A0,h4.mono A0,h5.mono A0,h6.mono A0⟩
 refine U.enterLoop ?_
 refine U.perm (H':=(b3,_)::(b5,_)::(b4,_)::(b2,_)::H) ((List.Perm.swap _ _ _).trans (List.Perm.cons _ (List.Perm.swap _ _ _))) ?_
 have e0:Obj.cells (mK a λ _=>0).toArray 145 (0,0)=Obj.cells #[.bool false,.bool false,.bool false,.bool false,.bool false,.bool false,.bool false,.bool false,.bool false,.bool false,.bool false,.bool false,.bool false,.bool false,.bool false,.bool false] 145 (0,0):=by rw [aB8]; rfl
 rw [← e0]
 intro tmps ht
 refine iB.crowd (F:=kX B Post b4 b5 b3 x0.book.aH.length x0.book.aR.length a ho Rr Hq) (r:=x0.book.aH.length - 1) rfl (show x0.book.aH.length=x0.book.aH.length - 1+1 by omega) λ n=>?_
 refine (?_:U (fX (kX B Post b4 b5 b3 x0.book.aH.length x0.book.aR.length a ho Rr Hq) n (.ka (x0.book.aH.length - 1))) _ _ _ _ _) tmps ht
 refine U.sub ?_ (aeL (c:=⟨123,.normal,none,20,[],fr::cs⟩) (b2:=b2) (R:=R1) rfl rfl rfl hB Rs rfl ha (λ n R' Hr=>?_) (x0.book.aH.length - 1) 0 n R1 (by omega) (aS.refl _) hO)
 ·exact bU.sub ⟨rfl,rfl,rfl,rfl,rfl,rfl,rfl,trivial⟩
 ·refine U.seq ?_
  refine U.rg [0] ?_
  refine U.vy rfl rfl rfl rfl rfl akk rfl (aFA (F:=kX B Post b4 b5 b3 x0.book.aH.length x0.book.aR.length a ho Rr Hq) (Post:=Post) rfl n) λ ba bd js gU=>(?_:U (Cy prog B Post) _ _ _ _ _) ba bd
  refine U.aV ?_
  refine U.seq ?_
  show U _ _ _ ((b3,.cells (mK a js).toArray 145 (0,0))::_) _ _
  rw [aqP js gU]
  refine U.rg [0,1] ?_
  refine U.ix rfl rfl rfl (Ox.bN (vs:=_) rfl rfl cK (by simp [hlen]) ((aQ.box (.head _)).part (j:=0) (n:=16) (eS (by simp [hlen]))) rfl (.put rfl) ?_)
  refine U.ix rfl rfl rfl (Ox.cu (cs':=_) rfl rfl rfl cK (by simp [hlen]) (br bj (br (cR λ _=>rfl) bj)) (.there .here) (by simp [mK]) (cO (by simp [hlen,mK])) rfl (.refl _) ?_)
  refine U.aV ?_
  exact U.CK func123 (.agg rfl cK (by simp [hlen]) (aQ.box (.tail _ (.head _))) .nil) (J.drop (List.Sublist.cons _ (List.Sublist.cons _ (List.Sublist.refl _))) (hk _ _ _ ⟨A0.trans Hr,rfl,hlen,rfl⟩))
end
end Go.Proofs.YtihapemckcdicaaGreatDoor
namespace Go.Proofs.YtihapemckcdicaaGreatDoor
open Go.Lg Go.Proofs Go.ChangeShapes Go.WideShapes Go.ChangeAt Go.RowKit Go.Conc Tryz
set_option maxRecDepth 100000
theorem se:gJ prog 3 (CI .i64) 1:=gJ.int (by kernel_rfl) underlying3
theorem aCS:gJ prog 9 CS 1:=gJ.str (by kernel_rfl) underlying9
def CBo:cB Bool:=λ _ x es=>es=[.bool x]
theorem aCP:gJ prog 4 CBo 1:=⟨by kernel_rfl,λ W T enc sp held fuel cs x h=>by
 obtain ⟨b,rfl,_⟩:=DataW.trod_bool underlying4 h
 exact ⟨rfl,b,rfl⟩⟩
theorem aCQ:gJ prog 41 bJ 2:=⟨by kernel_rfl,λ W T enc sp held fuel cs x h=>by
 obtain ⟨xs,n,_,_,hl,hx,hf⟩:=DataW.trod_struct underlying41 h
 have hc:cs.length=2:=hl.trans (by kernel_rfl)
 match cs,hc with
 | [c0,c1],_ =>
  obtain ⟨a0,h0⟩:=se.field [c0] hx (hf 0 _ rfl)
  obtain ⟨a1,h1⟩:=se.field [c1] hx (hf 1 _ rfl)
  cases h0; cases h1
  exact ⟨rfl,⟨a0,a1⟩,rfl⟩⟩
theorem aCR:gJ prog 64 bC 2:=⟨by kernel_rfl,λ W T enc sp held fuel cs x h=>by
 obtain ⟨xs,n,_,_,hl,hx,hf⟩:=DataW.trod_struct underlying64 h
 have hc:cs.length=2:=hl.trans (by kernel_rfl)
 match cs,hc with
 | [c0,c1],_ =>
  obtain ⟨a0,h0⟩:=se.field [c0] hx (hf 0 _ rfl)
  obtain ⟨a1,h1⟩:=se.field [c1] hx (hf 1 _ rfl)
  cases h0; cases h1
  exact ⟨rfl,⟨a0,a1⟩,rfl⟩⟩
theorem aCT:gJ prog 93 bF 2:=⟨by kernel_rfl,λ W T enc sp held fuel cs x h=>by
 obtain ⟨xs,n,_,_,hl,hx,hf⟩:=DataW.trod_struct underlying93 h
 have hc:cs.length=2:=hl.trans (by kernel_rfl)
 match cs,hc with
 | [c0,c1],_ =>
  obtain ⟨a0,h0⟩:=aCS.field [c0] hx (hf 0 _ rfl)
  obtain ⟨a1,h1⟩:=se.field [c1] hx (hf 1 _ rfl)
  cases h0; cases h1
  exact ⟨rfl,⟨a0,a1⟩,rfl⟩⟩
theorem aCU:gJ prog 96 bK 4:=⟨by kernel_rfl,λ W T enc sp held fuel cs x h=>by
 obtain ⟨xs,n,_,_,hl,hx,hf⟩:=DataW.trod_struct underlying96 h
 have hc:cs.length=4:=hl.trans (by kernel_rfl)
 match cs,hc with
 | [c0,c1,c2,c3],_ =>
  obtain ⟨a0,h0⟩:=se.field [c0] hx (hf 0 _ rfl)
  obtain ⟨a1,h1⟩:=se.field [c1] hx (hf 1 _ rfl)
  obtain ⟨a2,h2⟩:=se.field [c2] hx (hf 2 _ rfl)
  obtain ⟨a3,h3⟩:=se.field [c3] hx (hf 3 _ rfl)
  cases h0; cases h1; cases h2; cases h3
  exact ⟨rfl,⟨a0,a1,a2,a3⟩,rfl⟩⟩
theorem aex:gJ prog 59 bz 3:=⟨by kernel_rfl,λ W T enc sp held fuel cs x h=>by
 obtain ⟨xs,n,_,_,hl,hx,hf⟩:=DataW.trod_struct underlying59 h
 have hc:cs.length=3:=hl.trans (by kernel_rfl)
 match cs,hc with
 | [c0,c1,c2],_ =>
  obtain ⟨a0,h0⟩:=se.field [c0] hx (hf 0 _ rfl)
  obtain ⟨a1,h1⟩:=se.field [c1] hx (hf 1 _ rfl)
  obtain ⟨a2,h2⟩:=aCP.field [c2] hx (hf 2 _ rfl)
  cases h0; cases h1; cases h2
  exact ⟨rfl,⟨a0,a1,a2⟩,rfl⟩⟩
theorem aCJ:gJ prog 22 (eU bC 2) 1:=gJ.slice (by kernel_rfl) underlying22 (by decide) aCR
theorem aCK:gJ prog 23 (eU bJ 2) 1:=gJ.slice (by kernel_rfl) underlying23 (by decide) aCQ
theorem aCL:gJ prog 24 (eU bF 2) 1:=gJ.slice (by kernel_rfl) underlying24 (by decide) aCT
theorem aCM:gJ prog 25 (eU bK 4) 1:=gJ.slice (by kernel_rfl) underlying25 (by decide) aCU
theorem aCN:gJ prog 26 (eU bz 3) 1:=gJ.slice (by kernel_rfl) underlying26 (by decide) aex
theorem aCO:gJ prog 28 Pv 6:=⟨by kernel_rfl,λ W T enc sp held fuel cs x h=>by
 obtain ⟨xs,n,_,_,hl,hx,hf⟩:=DataW.trod_struct underlying28 h
 have hc:cs.length=6:=hl.trans (by kernel_rfl)
 match cs,hc with
 | [c0,c1,c2,c3,c4,c5],_ =>
  obtain ⟨a0,h0⟩:=se.field [c0] hx (hf 0 _ rfl)
  obtain ⟨a1,v1,h1,g1⟩:=aCJ.field [c1] hx (hf 1 _ rfl)
  obtain ⟨a2,v2,h2,g2⟩:=aCK.field [c2] hx (hf 2 _ rfl)
  obtain ⟨a3,v3,h3,g3⟩:=aCL.field [c3] hx (hf 3 _ rfl)
  obtain ⟨a4,v4,h4,g4⟩:=aCM.field [c4] hx (hf 4 _ rfl)
  obtain ⟨a5,v5,h5,g5⟩:=aCN.field [c5] hx (hf 5 _ rfl)
  cases h0; cases h1; cases h2; cases h3; cases h4; cases h5
  exact ⟨rfl,⟨a0,a1,a2,a3,a4,a5⟩,c1,c2,c3,c4,c5,g1,g2,g3,g4,g5,rfl⟩⟩
section
variable {W:World} {T:Type} {enc:TypeId × Value→T} {b0:Nat} {v:Value} {d:DataW T} {p:List MemPlace}
theorem aiF(hv:Value.okWide prog W .any b0 28 v)(h:DataW.Trod enc prog W 0 (λ _=>true) true 28 v d p) :
  ∃ (x:ao) (v1 v2 v3 v4 v5:Value),v = .agg #[iv x.Rest,v1,v2,v3,v4,v5]∧aa bC 2 (qu W) v1 x.Rows∧aa bJ 2 (qu W) v2 x.aO∧aa bF 2 (qu W) v3 x.aH∧aa bK 4 (qu W) v4 x.aR∧aa bz 3 (qu W) v5 x.aN:=by
 obtain ⟨cs,rfl,_⟩:=okWide_struct underlying28 hv
 obtain ⟨fuel,hf⟩:=h
 obtain ⟨_,x,v1,v2,v3,v4,v5,h1,h2,h3,h4,h5,e⟩:=aCO.rd _ _ _ _ _ _ _ _ hf
 exact ⟨x,v1,v2,v3,v4,v5,by rw [← Array.toArray_toList (xs:=cs),show cs.toList=_ from e],h1,h2,h3,h4,h5⟩
theorem Zj(hv:Value.okWide prog W .any b0 3 v)(h:DataW.Trod enc prog W 0 (λ _=>true) true 3 v d p):∃ x:Int,v=iv x ∧ -9223372036854775808≤x∧x≤9223372036854775807:=by
 obtain ⟨x,rfl,_,_,hw⟩:=open_int underlying3 hv h
 simp only [Lit.wf,Bool.and_eq_true,decide_eq_true_eq] at hw
 exact ⟨x,rfl,hw⟩
theorem aiG(hv:Value.okWide prog W .any b0 59 v)(h:DataW.Trod enc prog W 0 (λ _=>true) true 59 v d p):∃ x:cz,v = .agg #[iv x.Place,iv x.fW,.bool x.jC]:=by
 obtain ⟨cs,rfl,_⟩:=okWide_struct underlying59 hv
 obtain ⟨fuel,hf⟩:=h
 obtain ⟨_,x,e⟩:=aex.rd _ _ _ _ _ _ _ _ hf
 exact ⟨x,by rw [← Array.toArray_toList (xs:=cs),show cs.toList=_ from e]⟩
end
theorem amZ:prog.globalNamed "lagan/stint.checks"=some 0:=by kernel_rfl
theorem aD6:(prog.globals[0]?).map (·.type)=some 180:=by kernel_rfl
abbrev Jb:List (String × DataW Unit):=[("lagan/stint.checks",Rows.laid_lagan_stint_checks)]
theorem ajH(os:Os)(args:Array Value):laidMetH prog Jb ((World.doorLaid prog 14 os).forCall (λ _ _=>0) ⟨#[],args,[]⟩).memory :=
 laidMetH_of_parts3 (fuel:=8) (laidMet_of_run' 8 (by kernel_rfl) (by kernel_rfl)) (by kernel_rfl) (by kernel_rfl)
theorem aBJ{W:World}(h:laidMetH prog Jb W):iA (qu W):=by
 obtain ⟨g,t,cs,fuel,p,hg,ht,hv,hd⟩:=h.funcs (n := "lagan/stint.checks") (List.mem_cons_self ..)
 obtain rfl:=Option.some.inj (amZ.symm.trans hg)
 obtain rfl:=Option.some.inj (aD6.symm.trans ht)
 obtain ⟨xs,n,_,hx,hlen,hn,lF⟩:=DataW.trod_array underlying180 (show DataW.trod (funcToken prog) prog W 0 (λ _=>true) true fuel 180 cs.toList=some (.agg [.held [40,108,97,103,97,110,47,115,116,105,110,116,46,98,111,111,107,41,46,114,101,115,116],.held [40,108,97,103,97,110,47,115,116,105,110,116,46,98,111,111,107,41,46,116,97,98,108,101],.held [40,108,97,103,97,110,47,115,116,105,110,116,46,98,111,111,107,41,46,112,108,97,99,101,115],.held [40,108,97,103,97,110,47,115,116,105,110,116,46,98,111,111,107,41,46,109,101,110],.held [40,108,97,103,97,110,47,115,116,105,110,116,46,98,111,111,107,41,46,100,105,118,101,115],.held [40,108,97,103,97,110,47,115,116,105,110,116,46,98,111,111,107,41,46,115,111,117,110,100,105,110,103,115]],p) from hd)
 rw [show prog.cellsOf 125=1 by kernel_rfl] at lF
 have hl:cs.toList.length=6:=hlen.trans (by kernel_rfl)
 obtain ⟨cs⟩:=cs
 simp only at hl lF
 match xs,hn,cs,hl with
 | [x0,x1,x2,x3,x4,x5],_,[c0,c1,c2,c3,c4,c5],_ =>
  simp only [Prod.mk.injEq,DataW.agg.injEq,List.map_cons,List.map_nil,List.cons.injEq,and_true] at hx
  obtain ⟨⟨e0,e1,e2,e3,e4,e5⟩,_⟩:=hx
  obtain ⟨x0,q0⟩:=x0
  obtain ⟨x1,q1⟩:=x1
  obtain ⟨x2,q2⟩:=x2
  obtain ⟨x3,q3⟩:=x3
  obtain ⟨x4,q4⟩:=x4
  obtain ⟨x5,q5⟩:=x5
  simp only at e0 e1 e2 e3 e4 e5
  subst e0 e1 e2 e3 e4 e5
  obtain rfl:=func_of_trod (f0:=265) underlying125 (by kernel_rfl) (lF 0 (by decide))
  obtain rfl:=func_of_trod (f0:=266) underlying125 (by kernel_rfl) (lF 1 (by decide))
  obtain rfl:=func_of_trod (f0:=267) underlying125 (by kernel_rfl) (lF 2 (by decide))
  obtain rfl:=func_of_trod (f0:=268) underlying125 (by kernel_rfl) (lF 3 (by decide))
  obtain rfl:=func_of_trod (f0:=269) underlying125 (by kernel_rfl) (lF 4 (by decide))
  obtain rfl:=func_of_trod (f0:=270) underlying125 (by kernel_rfl) (lF 5 (by decide))
  intro j v hj
  rw [Nat.zero_add]
  refine ajs ?_
  rw [World.var?_cell hg hv j]
  simpa using hj
end Go.Proofs.YtihapemckcdicaaGreatDoor
