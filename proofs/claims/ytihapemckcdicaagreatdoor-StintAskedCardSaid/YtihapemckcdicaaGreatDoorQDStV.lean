/- What able does in company; the arguments of the statements. Conditions: none. -/
import Derived.Test.YtihapemckcdicaaGreatDoorQDStF
import Derived.Test.YtihapemckcdicaaGreatDoorQDLgE
import Derived.Test.YtihapemckcdicaaGreatDoorQDStW1
import Derived.Test.YtihapemckcdicaaGreatDoorQDStG
import Derived.Test.YtihapemckcdicaaGreatDoorTie
import Derived.Stop.Joined
import Derived.LaidOnce
import Derived.ProofKit
import Derived.OpenShut
namespace Go.Proofs.YtihapemckcdicaaGreatDoor
open Go.Lg Go.Proofs Go.Conc Go.ConcN Tryz
set_option maxRecDepth 100000
set_option maxHeartbeats 4000000
section
variable {B:Base} {R:av} {H:ai} {Post:Value→World→Prop}
abbrev pt(b:Nat):Value:=.pointer (some ⟨b,0,none⟩)
def qi(a:Nat→Nat→Bool)(js:Nat→Nat):List Bool:=(List.range 16).map λ p=>decide (p / 4 < js (p % 4)) && a (p / 4) (p % 4)
theorem aaP(a:Nat→Nat→Bool)(js:Nat→Nat):mh a js=[]++((qi a js).map Value.bool++[]):=by simp [mh,qi]
theorem aaQ(a:Nat→Nat→Bool)(js:Nat→Nat):(qi a js).length=16:=by simp [qi]
theorem avM{a:Nat→Nat→Bool}{js:Nat→Nat}{k j:Nat}(hk:k < 4)(hj:j < 4)(gE:js k=j):mh a (fS js k (j+1))=[]++((oL 4 (qi a js) (j:Int) (k:Int) (a j k)).map Value.bool++[]):=by
 rw [avN hk hj gE,aaP]
 simp only [oL,List.map_set,Int.toNat_natCast,List.nil_append,List.append_nil]
 rw [Nat.mul_comm]
theorem awR{a:Nat→Nat→Bool}{js:Nat→Nat}{k j:Nat}(hk:k < 4)(hj:j < 4):∃ pC eG,iD 4 (qi a js) (j:Int)=some pC∧idx pC (k:Int)=some eG:=by
 have h1:iD 4 (qi a js) (j:Int)=some (((qi a js).drop (j * 4)).take 4):=by
  unfold iD
  rw [if_pos ⟨by omega,by rw [aaQ]; simp; omega⟩]
  simp
 have hl:=nT h1
 exact ⟨_,(((qi a js).drop (j * 4)).take 4)[k]'(by omega),h1,by rw [j4]; exact List.getElem?_eq_getElem (by omega)⟩
noncomputable def kM(B:Base)(Post:Value→World→Prop)(bm bw bo N J:Nat)(a:Nat→Nat→Bool)(ho:bm≠bw∧bm≠bo∧bw≠bo)(hJ:0 < J)(hN:N≤4):Fx :=
 { P:=prog,B:=B,bm:=bm,bw:=bw,bo:=bo,tm:=194,tw:=201,N:=N,J:=J,cont:=λ js=>.cells (mh a js).toArray 145 (0,0),ho:=ho,hJ:=hJ,hN:=hN,mj:=hU prog B Post }
structure tz (R:av) (b:Nat) (x:b9) (v1 v2 v3 v4 v5 v6:Value):Prop where
 c:aM R [] b 0 [iv x.book.Rest,v1,v2,v3,v4,v5,v6]
 h1:ae bE 2 R v1 x.book.Rows
 h2:ae bH 2 R v2 x.book.aQ
 h3:ae bD 2 R v3 x.book.aH
 h4:ae bI 4 R v4 x.book.aN
 h5:ae bu 3 R v5 x.book.aY
 h6:ae fi 3 R v6 x.eS
theorem tz.up{R R':av}{b:Nat}{x:b9}{v1 v2 v3 v4 v5 v6:Value}(h:tz R b x v1 v2 v3 v4 v5 v6)(hR:aT R R'):tz R' b x v1 v2 v3 v4 v5 v6 :=
 ⟨h.c.up hR,h.h1.mono hR,h.h2.mono hR,h.h3.mono hR,h.h4.mono hR,h.h5.mono hR,h.h6.mono hR⟩
theorem aaw{α β:Type}{f:α→Option β}:∀ {xs:List α} {ys:List β},xs.mapM f=some ys→ys.length=xs.length∧∀ (i:Nat) (x:α),xs[i]? = some x→∃ y,ys[i]? = some y∧f x=some y
 | [],ys,h=>by
  simp at h; subst h
  exact ⟨rfl,λ i x hx=>by simp at hx⟩
 | a::xs,ys,h=>by
  rw [List.mapM_cons] at h
  cases ha:f a with
  | none=>rw [ha] at h; simp at h
  | some b =>
   cases hr:xs.mapM f with
   | none=>rw [ha,hr] at h; simp at h
   | some bs =>
    rw [ha,hr] at h
    simp at h
    subst h
    obtain ⟨h1,h2⟩:=aaw hr
    refine ⟨by simp [h1],λ i x hx=>?_⟩
    cases i with
    | zero=>simp at hx; subst hx; exact ⟨b,rfl,ha⟩
    | succ i=>exact h2 i x (by simpa using hx)
noncomputable def C2:Code:=(uE (Tryz.f170.body.getD .skip)).getD .skip
variable {x0:b9} {v1 v2 v3 v4 v5 v6:Value} {bm bw bo N J:Nat} {a:Nat→Nat→Bool} {ho:bm≠bw∧bm≠bo∧bw≠bo} {hJ:0 < J} {hN:N≤4} {b1 bk k:Nat}
theorem ajG{tmps:Array Value}{st:St}(ht:cL 30 st tmps)(todo:List Item):Gone (aX (iC ⟨170,.deferred,none,30,[],[w9 prog]⟩ tmps todo) [w9 prog]) :=
 QJ.WM (J:=wB prog 0) func170 ht rfl (.inr rfl) ⟨1,awe⟩
noncomputable abbrev Uz (bw:Nat):Ctx:=⟨170,.deferred,none,30,[dcall 171 #[.pointer (some ⟨bw,0,none⟩)]],[w9 prog]⟩
noncomputable abbrev Ir (b1 bk bm bw bo J j:Nat):St:=[(0,pt bw),(1,pt b1),(2,pt bk),(3,pt bm),(4,pt bo),(11,iv (J:Int)),(12,iv (j:Int))]
theorem acC(hB:∀ w:World,B.os w.os→B.os w.later.os)(qP:J≤4)(hk:k < N){j:Nat}(hj:j < J)(ha:qX x0 j k=some (a j k))
  (again:j+1 < J→∀ (n:Nat) (R:av),tz R b1 x0 v1 v2 v3 v4 v5 v6→aM R [] bk 0 [iv (k:Int)]→U (WJ (kM B Post bm bw bo N J a ho hJ hN) n k (j+1) .ld) (Uz bw) R [] (Ir b1 bk bm bw bo J (j+1)) [.code C2,.inLoop C2,.inBlock 0])
  (n:Nat) (R:av) (hO:tz R b1 x0 v1 v2 v3 v4 v5 v6) (eO:aM R [] bk 0 [iv (k:Int)]):U (WJ (kM B Post bm bw bo N J a ho hJ hN) n k j .ld) (Uz bw) R [] (Ir b1 bk bm bw bo J j) [.code C2,.inLoop C2,.inBlock 0]:=by
 obtain ⟨cp,ee,dH,eg,dX,ej,gN⟩:=hO
 refine U.seq ?_
 refine U.rg [0] ?_
 refine U.vs 1 rfl rfl ?_
 refine U.aU ?_
 refine U.seq ?_
 refine U.fe rfl (by simp; omega) ?_
 refine U.skip ?_
 refine U.seq ?_
 refine U.block ?_
 refine U.seq ?_
 refine U.rg [0,1,2] ?_
 refine U.vs 1 rfl rfl ?_
 refine U.gR rfl rfl rfl (Ox.alloc (cs:=#[iv 0]) rfl En rfl λ b5 _ _=>⟨_,(.put rfl),?_⟩)
 refine U.gR rfl rfl rfl (Ox.gS (cs':=#[_]) rfl rfl rfl bq rfl .here rfl rfl rfl (.refl _) ?_)
 refine U.aU ?_
 refine U.pb (H2:=[]) (λ X=>X++[]) .id rfl (λ Rf rZ Ki=>?_)
 replace cp:=cp.up (H:=[]) rZ
 replace eO:=eO.up (H:=[]) rZ
 replace ee:=ee.mono rZ
 replace dH:=dH.mono rZ
 replace eg:=eg.mono rZ
 replace dX:=dX.mono rZ
 replace ej:=ej.mono rZ
 replace gN:=gN.mono rZ
 refine U.seq ?_
 obtain ⟨cG,fq,he⟩:∃ cG,uH x0 (λ y=>yz y x0 (k:Int) (j:Int))=some cG∧(cG == (x0.eS.length:Int))=a j k:=by
  unfold qX at ha
  obtain ⟨x,h1,h2⟩:=aj ha
  exact ⟨x,h1,aa h2⟩
 refine U.dw gi mixed ?_
 refine Any.tk 0 rfl (λ _ h=>h) (λ R' H' hR hS=>Ox.bU (vs:=[_,_,_,_,_,_,_]) rfl rfl dB rfl (((cp.le hR).sub (λ p h=>hS p ((λ _ h=>h) p h))).part (j:=0) (n:=7) rfl) rfl (.one rfl) ⟨rfl,rfl,rfl⟩) ?_
 refine Any.tk 1 rfl (λ _ h=>h) (λ R' H' hR hS=>Ox.makeFunc (vs:=#[]) (us:=#[_,_,_]) rfl rfl rfl rfl (.one rfl) ⟨rfl,rfl,rfl⟩) ?_
 refine Any.vs 1 [3] rfl ?_
 refine Any.tk 4 rfl (λ _ h=>h) (λ R' H' hR hS=>Ox.db rfl rfl qh (((cp.le hR).sub (λ p h=>hS p ((λ _ h=>h) p h))).one (j:=6) rfl) rfl (.one rfl) ⟨rfl,rfl,rfl⟩) ?_
 refine Any.tk 5 rfl (λ _ h=>h) (λ R' H' hR hS=>Ox.uF (K:=fi) (k:=3) (xs:=x0.eS) rfl rfl (gN.mono hR) underlying111 rfl (.one rfl) ⟨rfl,rfl,rfl⟩) ?_
 refine Any.cv 2 JR (K9 x0 (λ y=>yz y x0 (k:Int) (j:Int)) ee dH eg dX ej gN ⟨172,#[],#[_,_,_],rfl,ahh,λ R' H' hR hH y r va hA hr=>by obtain ⟨_,rfl,⟨sN,rfl⟩⟩:=hA; exact (aua y x0 (k:Int) (j:Int) sN ((cp.le hR).sub (λ p h=>hH p ((λ _ h=>h) p h))) (ee.mono hR) (dH.mono hR) (eg.mono hR) (dX.mono hR) (ej.mono hR) (gN.mono hR) ((eO.le hR).sub (λ p h=>hH p ((λ _ h=>h) p h))) ((Ki.le hR).sub (λ p h=>hH p ((λ _ h=>h) p h))) hr).mono λ _ _ _ ⟨h1,h2,h3⟩=>⟨h1 ▸ aT.refl _,h2.symm,h3⟩⟩ fq) ?_
 rintro _ zx _ ⟨fJ,rfl,rfl⟩
 replace ee:=ee.mono fJ
 replace dH:=dH.mono fJ
 replace eg:=eg.mono fJ
 replace dX:=dX.mono fJ
 replace ej:=ej.mono fJ
 replace gN:=gN.mono fJ
 replace cp:=cp.le fJ
 replace eO:=eO.le fJ
 replace Ki:=Ki.le fJ
 refine ⟨fJ,(asp (λ _ h=>h)),?_⟩
 refine Any.vs 2 [6,7] rfl ?_
 refine Any.done ?_
 refine U.sub (st':=(6,.bool (a j k))::(5,pt b5)::Ir b1 bk bm bw bo J j) (bS.sub ⟨congrArg (λ z=>some (Value.bool z)) he,rfl,rfl,rfl,rfl,rfl,rfl,rfl,rfl,trivial⟩) ?_
 refine U.seq ?_
 refine U.rg [0] ?_
 refine U.uG rfl rfl rfl rfl rfl ahi rfl (atf (F:=kM B Post bm bw bo N J a ho hJ hN) hB n) λ aZ bd n js gE=>(?_:U (WJ (kM B Post bm bw bo N J a ho hJ hN) n k j (.ul js)) _ _ _ _ _) aZ bd
 refine U.aU ?_
 refine U.seq ?_
 obtain ⟨pC,eG,uf,gf⟩:=awR (a:=a) (js:=js) (k:=k) (j:=j) (by omega) (by omega)
 have l4:=aaQ a js
 show U _ _ _ [(bo,.cells (mh a js).toArray 145 (0,0))] _ _
 rw [aaP]
 refine U.draw (n:=6) (is:=[0,1,2,3,4,5]) (many ((bo,.cells (List.toArray ([]++((qi a js).map Value.bool++[]))) 145)::[]) [(5,[])]) mixed rfl (by decide +kernel) rfl rfl ?_
 refine Any.Bp (i:=0) [3,4,5] rfl rfl rfl (by decide +kernel) (dY rfl (gw (λ _ h=>(List.Sublist.subset (List.Sublist.cons _ (List.Sublist.refl _))) h))) (λ _ h=>(List.Sublist.subset (List.Sublist.cons _ (List.Sublist.refl _))) h) (λ R' H' hR hS=>Ox.db rfl rfl bq (((Ki.le hR).sub (λ p h=>hS p ((λ _ h=>h) p h))).one (j:=0) rfl) rfl (.one rfl) ⟨rfl,rfl,rfl⟩) (.refl _) (by decide) (oI:=[1,2,3,4,5]) rfl ?_
 refine Any.Bp (i:=1) [4,5] rfl rfl rfl (by decide +kernel) (dY rfl (gw (λ _ h=>(List.Sublist.subset (List.Sublist.cons _ (List.Sublist.refl _))) h))) (λ _ h=>(List.Sublist.subset (List.Sublist.cons _ (List.Sublist.refl _))) h) (λ R' H' hR hS=>Ox.db rfl rfl bq (((eO.le hR).sub (λ p h=>hS p ((λ _ h=>h) p h))).one (j:=0) rfl) rfl (.one rfl) ⟨rfl,rfl,rfl⟩) (.refl _) (by decide) (oI:=[2,3,4,5]) rfl ?_
 refine Any.vs 1 [2] rfl ?_
 refine Any.Bp (i:=3) [4,5] rfl rfl rfl (by decide +kernel) (dY rfl (gw (λ _ h=>(List.Sublist.subset (List.Sublist.cons _ (List.Sublist.refl _))) h))) (λ _ h=>(List.Sublist.subset (List.Sublist.cons _ (List.Sublist.refl _))) h) (λ R' H' hR hS=>Ox.eo rfl rfl rfl (uD tC l4 (by decide) uf) rfl (.one rfl) ⟨rfl,rfl,rfl⟩) (.refl _) (by decide) (oI:=[4,5]) rfl ?_
 refine Any.Bp (i:=4) [5] rfl rfl rfl (by decide +kernel) (dY rfl (gw (λ _ h=>(List.Sublist.subset (List.Sublist.cons _ (List.Sublist.refl _))) h))) (λ _ h=>(List.Sublist.subset (List.Sublist.cons _ (List.Sublist.refl _))) h) (λ R' H' hR hS=>Ox.eo rfl rfl rfl (nP pL (nT uf) gf) rfl (.one rfl) ⟨rfl,rfl,rfl⟩) (.refl _) (by decide) (oI:=[5]) rfl ?_
 refine Any.on 5 rfl rfl (aW.to (Ox.gS rfl rfl rfl ff rfl .here (N4 uf gf rfl) (N6 uf gf rfl) rfl (.refl _) ⟨aT.refl _,(fR rfl (λ _ h=>(List.Sublist.subset (List.Sublist.cons _ (List.Sublist.refl _))) h)),?_⟩))
 refine Any.done ?_
 rw [← avM (a:=a) (by omega) (by omega) gE]
 refine U.rg [0] ?_
 have dD:i64 ((j:Int)+1)=((j+1:Nat):Int):=by rw [KS (by omega)]; omega
 refine U.uG rfl rfl rfl rfl rfl ahj rfl (axM (F:=kM B Post bm bw bo N J a ho hJ hN) (js:=js) (show j+1≤J by omega) n) λ aZ bd=>⟨λ h n=>(?_:U (WJ (kM B Post bm bw bo N J a ho hJ hN) n k (j+1) .ld) _ _ _ _ _) aZ bd,λ h n=>(?_:U (WJ (kM B Post bm bw bo N J a ho hJ hN) n k (j+1) .wv) _ _ _ _ _) aZ bd⟩
 ·refine U.aU ?_
  refine U.inBlock ?_
  refine U.rg [0,1] ?_
  refine U.vs 2 rfl rfl ?_
  refine U.aU ?_
  refine U.inLoop ?_
  refine U.sub ?_ (again h n _ ⟨cp,ee,dH,eg,dX,ej,gN⟩ eO)
  exact bS.sub ⟨rfl,rfl,rfl,rfl,rfl,rfl,congrArg (λ z=>some (iv z)) dD,trivial⟩
 ·have hJe:j+1=J:=h
  refine U.aU ?_
  refine U.inBlock ?_
  refine U.rg [0,1] ?_
  refine U.vs 2 rfl rfl ?_
  refine U.aU ?_
  refine U.inLoop ?_
  refine U.sub (st':=Ir b1 bk bm bw bo J (j+1)) (bS.sub ⟨rfl,rfl,rfl,rfl,rfl,rfl,congrArg (λ z=>some (iv z)) dD,trivial⟩) ?_
  refine U.seq ?_
  refine U.rg [0] ?_
  refine U.vs 1 rfl rfl ?_
  refine U.aU ?_
  refine U.seq ?_
  refine U.dW rfl (by simp; omega) ?_
  refine U.exit rfl ?_
  refine U.toEnd rfl λ tmps ht=>?_
  exact Jd.unwind rfl func171 rfl rfl (agC (F:=kM B Post bm bw bo N J a ho hJ hN) (.inl rfl) (ajG ht _) n)
theorem acB(hB:∀ w:World,B.os w.os→B.os w.later.os)(qP:J≤4)(hk:k < N)(ha:∀ j,j < J→qX x0 j k=some (a j k)):∀ (m j:Nat),J=j+m+1→∀ (n:Nat) (R:av),tz R b1 x0 v1 v2 v3 v4 v5 v6→aM R [] bk 0 [iv (k:Int)] →
  U (WJ (kM B Post bm bw bo N J a ho hJ hN) n k j .ld) (Uz bw) R [] (Ir b1 bk bm bw bo J j) [.code C2,.inLoop C2,.inBlock 0]
 | 0,j,hm,n,R,hO,hc=>acC hB qP hk (by omega) (ha j (by omega)) (λ h=>by omega) n R hO hc
 | m+1,j,hm,n,R,hO,hc=>acC hB qP hk (by omega) (ha j (by omega)) (λ _ n R hO hc=>acB hB qP hk ha m (j+1) (by omega) n R hO hc) n R hO hc
theorem ayD(hB:∀ w:World,B.os w.os→B.os w.later.os)(qP:J≤4)(zN:x0.book.aN.length=J)(hk:k < N)(ha:∀ j,j < J→qX x0 j k=some (a j k))(n:Nat){R:av}(hO:tz R b1 x0 v1 v2 v3 v4 v5 v6)(hc:aM R [] bk 0 [iv (k:Int)]) :
  Own prog B false (KW (FT (kM B Post bm bw bo N J a ho hJ hN)) n k 0 .ld) R [] (aX (Frame.enter prog 170 (#[]++#[pt bw,pt b1,pt bk,pt bm,pt bo]) .deferred) [w9 prog]):=by
 refine Jd.enter (ab:=WJ (kM B Post bm bw bo N J a ho hJ hN) n k 0 .ld) (args:=[pt bw,pt b1,pt bk,pt bm,pt bo]) func170 rfl (m:=30) rfl rfl ?_
 refine U.seq ?_
 refine U.rg [0] ?_
 refine U.defer rfl rfl rfl rfl rfl rfl rfl (.Lv rfl) ?_
 refine U.aU ?_
 refine U.seq ?_
 refine U.rg [0,1,2,3,4,5] ?_
 refine U.vs 3 rfl rfl ?_
 refine U.gR rfl rfl rfl (Ox.db rfl rfl iB (hO.c.any.one (j:=4) rfl) rfl (.put rfl) ?_)
 refine U.gR rfl rfl rfl (Ox.uF (K:=bI) (k:=4) (xs:=x0.book.aN) rfl rfl hO.h4 underlying25 rfl (.put rfl) ?_)
 refine U.vs 1 rfl rfl ?_
 refine U.aU ?_
 refine U.block ?_
 refine U.enterLoop ?_
 refine U.sub ?_ (acB (m:=J - 1) (j:=0) hB qP hk ha (by omega) n R hO hc)
 exact bS.sub ⟨rfl,rfl,rfl,rfl,rfl,by rw [← zN]; rfl,rfl,trivial⟩
noncomputable def C1:Code:=(uE (Tryz.f123.body.getD .skip)).getD .skip
abbrev Ll(b1 b2 bo bm bw:Nat):St:=[(1,pt b1),(2,pt b2),(3,pt bo),(4,pt bm),(5,pt bw)]
theorem abx{c:Ctx}(eE:c.n=20)(ye:c.kind = .normal)(yf:c.ro=none){b2:Nat}{H0:ai}{K:List Item}(hB:∀ w:World,B.os w.os→B.os w.later.os)(qP:J≤4)(zN:x0.book.aN.length=J)(ha:∀ j k,j < J→k < N→qX x0 j k=some (a j k)){r i n:Nat}{R':av}(hi:N=i+r+1)
  (next:∀ (n:Nat) (cy:av),aT R' cy→U (fO (kM B Post bm bw bo N J a ho hJ hN) n (jV r)) c cy H0 ((11,iv (N:Int))::(12,iv ((i+1:Nat):Int))::Ll b1 b2 bo bm bw) (.code C1 :: .inLoop C1 :: .inBlock 0::K))
  (hO:tz R' b1 x0 v1 v2 v3 v4 v5 v6) :
  U (fO (kM B Post bm bw bo N J a ho hJ hN) n (.ka r)) c R' H0 ((11,iv (N:Int))::(12,iv (i:Int))::Ll b1 b2 bo bm bw) (.code C1 :: .inLoop C1 :: .inBlock 0::K):=by
 obtain ⟨cf,ck,cr,cn,cd,ccs⟩:=c
 simp only at eE ye yf
 subst eE ye yf
 refine U.seq ?_
 refine U.rg [0] ?_
 refine U.vs 1 rfl rfl ?_
 refine U.aU ?_
 refine U.seq ?_
 refine U.fe rfl (by simp; omega) ?_
 refine U.skip ?_
 refine U.seq ?_
 refine U.block ?_
 refine U.seq ?_
 refine U.rg [0,1,2] ?_
 refine U.vs 1 rfl rfl ?_
 refine U.gR rfl rfl rfl (Ox.alloc (cs:=#[iv 0]) rfl En rfl λ b6 _ _=>⟨_,(.put rfl),?_⟩)
 refine U.gR rfl rfl rfl (Ox.gS (cs':=#[_]) rfl rfl rfl bq rfl .here rfl rfl rfl (.refl _) ?_)
 refine U.aU ?_
 refine U.pb (H2:=H0) (λ X=>X++H0) .id rfl (λ Rf rZ hc6=>?_)
 replace hO:=hO.up rZ
 refine U.seq ?_
 refine U.rg [0] ?_
 refine U.uG rfl rfl rfl rfl rfl XX rfl (au6 (F:=kM B Post bm bw bo N J a ho hJ hN) r n) λ aZ bd n=>(?_:U (fO (kM B Post bm bw bo N J a ho hJ hN) n (.go r)) _ _ _ _ _) aZ bd
 refine U.aU ?_
 refine U.rg [0,1] ?_
 refine U.gR rfl rfl rfl (Ox.makeFunc (vs:=#[]) (us:=#[_,_,_,_,_]) rfl rfl rfl rfl (.put rfl) ?_)
 have dD:i64 ((i:Int)+1)=((i+1:Nat):Int):=by rw [KS (by omega)]; omega
 refine sM λ m hm=>KM.spawn (F:=FT (kM B Post bm bw bo N J a ho hJ hN)) (d:=⟨.fn (.func 170) #[pt bw,pt b1,pt b6,pt bm,pt bo],#[]⟩) rfl rfl rfl (awx rfl rfl rfl) rfl rfl ?_ λ aZ bd=>(?_:U (fO (kM B Post bm bw bo N J a ho hJ hN) m (jV r)) _ _ _ _ _) aZ bd
 ·refine Own.child rfl (ax1 ahg) ?_
  have ei:N - (r+1)=i:=by omega
  show Own _ _ _ (KW _ m (N - (r+1)) 0 .ld) _ _ _
  rw [ei]
  exact ayD (k:=i) hB qP zN (by omega) (λ j hj=>ha j i hj (by omega)) m hO hc6
 ·refine U.aU ?_
  refine U.inBlock ?_
  refine U.rg [0,1] ?_
  refine U.vs 2 rfl rfl ?_
  refine U.aU ?_
  refine U.inLoop ?_
  refine U.sub ?_ (next m Rf rZ)
  exact bS.sub ⟨rfl,congrArg (λ z=>some (iv z)) dD,rfl,rfl,rfl,rfl,rfl,trivial⟩
theorem abw{c:Ctx}(eE:c.n=20)(ye:c.kind = .normal)(yf:c.ro=none){b2:Nat}{H0:ai}{K:List Item}(hB:∀ w:World,B.os w.os→B.os w.later.os)(qP:J≤4)(zN:x0.book.aN.length=J)(ha:∀ j k,j < J→k < N→qX x0 j k=some (a j k))
  (Y5:∀ (n:Nat) (R':av),aT R R'→U (fO (kM B Post bm bw bo N J a ho hJ hN) n .wa) c R' H0 (Ll b1 b2 bo bm bw) K):∀ (r i n:Nat) (R':av),N=i+r+1→aT R R'→tz R' b1 x0 v1 v2 v3 v4 v5 v6 →
  U (fO (kM B Post bm bw bo N J a ho hJ hN) n (.ka r)) c R' H0 ((11,iv (N:Int))::(12,iv (i:Int))::Ll b1 b2 bo bm bw) (.code C1 :: .inLoop C1 :: .inBlock 0::K)
 | 0,i,n,R',hi,hR,hO=>abx eE ye yf hB qP zN ha hi (λ n cy qQ=>by
   obtain ⟨cf,ck,cr,cn,cd,ccs⟩:=c
   simp only at eE ye yf
   subst eE ye yf
   refine U.seq ?_
   refine U.rg [0] ?_
   refine U.vs 1 rfl rfl ?_
   refine U.aU ?_
   refine U.seq ?_
   refine U.dW rfl (by rw [decide_eq_false_iff_not]; omega) ?_
   refine U.exit rfl ?_
   refine U.sub ?_ (Y5 n cy (hR.trans qQ))
   exact bS.sub ⟨rfl,rfl,rfl,rfl,rfl,trivial⟩) hO
 | r+1,i,n,R',hi,hR,hO=>abx eE ye yf hB qP zN ha hi (λ n cy qQ=>abw eE ye yf hB qP zN ha Y5 r (i+1) n cy (by omega) (hR.trans qQ) (hO.up qQ)) hO
theorem ae8{x0:b9}{r:List Bool}(Pj:x0.book.aN.length≤4)(FK:x0.book.aH.length≤4)
  (hr:(((List.range 16).mapM λ (p:Nat)=>if p / 4 < x0.book.aN.length∧p % 4 < x0.book.aH.length then qX x0 (p / 4) (p % 4) else some false):Option (List Bool))=some r) :
  ∃ a:Nat→Nat→Bool,r.length=16∧(∀ i k,i < x0.book.aN.length→k < x0.book.aH.length→qX x0 i k=some (a i k))∧∀ js,(∀ k,k < x0.book.aH.length→js k=x0.book.aN.length)→mh a js=[]++(r.map Value.bool++[]):=by
 obtain ⟨hlen,sa⟩:=aaw hr
 rw [List.length_range] at hlen
 have Kl:∀ i k,i < 4→k < 4→∃ y,r[4 * i+k]? = some y∧(if i < x0.book.aN.length∧k < x0.book.aH.length then qX x0 i k else some false)=some y:=λ i k hi hk=>by
  obtain ⟨y,g1,g2⟩:=sa (4 * i+k) (4 * i+k) (List.getElem?_range (by omega))
  rw [show (4 * i+k) / 4=i by omega,show (4 * i+k) % 4=k by omega] at g2
  exact ⟨y,g1,g2⟩
 refine ⟨λ i k=>(r[4 * i+k]?).getD false,hlen,λ i k hi hk=>?_,λ js gE=>?_⟩
 ·obtain ⟨y,g1,g2⟩:=Kl i k (by omega) (by omega)
  rw [if_pos ⟨hi,hk⟩] at g2
  rw [g2]
  show some y=some ((r[4 * i+k]?).getD false)
  rw [g1]; rfl
 ·apply List.ext_getElem?
  intro p
  rcases Nat.lt_or_ge p 16 with hp | hp
  ·rw [TF hp]
   obtain ⟨y,g1,g2⟩:=Kl (p / 4) (p % 4) (by omega) (by omega)
   rw [show 4 * (p / 4)+p % 4=p by omega] at g1
   simp only [List.nil_append,List.append_nil,List.getElem?_map,show 4 * (p / 4)+p % 4=p by omega,g1,Option.map_some,Option.getD_some]
   by_cases xi:p / 4 < x0.book.aN.length∧p % 4 < x0.book.aH.length
   ·rw [gE _ xi.2,decide_eq_true xi.1,Bool.true_and]
   ·rw [if_neg xi] at g2
    rw [← aa g2,Bool.and_false]
  ·rw [List.getElem?_eq_none (by simp [mh]; exact hp),List.getElem?_eq_none (by simp [hlen]; exact hp)]
theorem ae9(hB:∀ w:World,B.os w.os→B.os w.later.os):vh (A6 prog B Post):=by
 intro R H x0 v1 v2 v3 v4 v5 v6 h1 h2 h3 h4 h5 h6 r hr
 unfold uI at hr
 split at hr
 case isFalse=>cases hr
 rename_i hc
 obtain ⟨⟨Ph,Pj⟩,hN0,FK⟩:=hc
 obtain ⟨a,hlen,ha,amL⟩:=ae8 Pj FK hr
 refine ax.bl (args:=[.agg #[iv x0.book.Rest,v1,v2,v3,v4,v5,v6]]) func123 rfl (n:=20) rfl rfl λ fr cs hk=>?_
 refine U.seq ?_
 refine U.rg [0,1] ?_
 refine U.gR rfl rfl rfl (Ox.WT rfl rfl rfl λ b1 _ _=>⟨_,(.put rfl),?_⟩)
 refine U.gR rfl rfl rfl (Ox.alloc (cs:=#[.bool false,.bool false,.bool false,.bool false,.bool false,.bool false,.bool false,.bool false,.bool false,.bool false,.bool false,.bool false,.bool false,.bool false,.bool false,.bool false]) rfl gJ rfl λ b2 _ _=>⟨_,(.put rfl),?_⟩)
 refine U.aU ?_
 refine U.seq ?_
 refine U.rg [0] ?_
 refine U.gR rfl rfl rfl (Ox.alloc (cs:=#[.bool false,.bool false,.bool false,.bool false,.bool false,.bool false,.bool false,.bool false,.bool false,.bool false,.bool false,.bool false,.bool false,.bool false,.bool false,.bool false]) rfl gJ rfl λ b3 _ n3=>⟨_,(.put rfl),?_⟩)
 refine U.aU ?_
 refine U.seq ?_
 refine U.rg [0] ?_
 refine U.gR rfl rfl rfl (Ox.alloc (cs:=#[.int .i32 0,.int .u32 0]) rfl ayM rfl λ b4 _ n4=>⟨_,(.put rfl),?_⟩)
 refine U.aU ?_
 refine U.seq ?_
 refine U.rg [0] ?_
 refine U.gR rfl rfl rfl (Ox.alloc (cs:=#[.int .u64 0,.int .u32 0]) rfl ayN rfl λ b5 _ n5=>⟨_,(.put rfl),?_⟩)
 refine U.aU ?_
 have ho:b4≠b5∧b4≠b3∧b5≠b3:=⟨λ e=>by subst e; exact n5 _ (List.mem_cons_self),λ e=>by subst e; exact n4 _ (List.mem_cons_self),λ e=>by subst e; exact n5 _ (List.mem_cons_of_mem _ (List.mem_cons_self))⟩
 clear n3 n4 n5
 refine U.seq ?_
 refine U.seq ?_
 refine U.rg [0,1,2,3,4,5] ?_
 refine U.vs 3 rfl rfl ?_
 refine U.gR rfl rfl rfl (Ox.db rfl rfl kQ ((aM.box (L:=[iv x0.book.Rest,v1,v2,v3,v4,v5,v6]) (.tail _ (.tail _ (.tail _ (.tail _ (.head _)))))).one (j:=3) rfl) rfl (.put rfl) ?_)
 refine U.gR rfl rfl rfl (Ox.uF (K:=bD) (k:=2) (xs:=x0.book.aH) rfl rfl h3 underlying24 rfl (.put rfl) ?_)
 refine U.vs 1 rfl rfl ?_
 refine U.aU ?_
 refine U.block ?_
 refine U.pb (H2:=(b5,_)::(b4,_)::(b3,_)::(b2,_)::H) (λ X=>(b5,_)::(b4,_)::(b3,_)::(b2,_)::X++H) (.cons (.cons (.cons (.cons .id)))) rfl (λ R1 zP cp=>?_)
 have hO:tz R1 b1 x0 v1 v2 v3 v4 v5 v6:=⟨cp,h1.mono zP,h2.mono zP,h3.mono zP,h4.mono zP,h5.mono zP,h6.mono zP⟩
 refine U.enterLoop ?_
 refine U.perm (H':=(b3,_)::(b5,_)::(b4,_)::(b2,_)::H) ((List.Perm.swap _ _ _).trans (List.Perm.cons _ (List.Perm.swap _ _ _))) ?_
 have e0:Obj.cells (mh a λ _=>0).toArray 145 (0,0)=Obj.cells #[.bool false,.bool false,.bool false,.bool false,.bool false,.bool false,.bool false,.bool false,.bool false,.bool false,.bool false,.bool false,.bool false,.bool false,.bool false,.bool false] 145 (0,0):=by rw [avO]; rfl
 rw [← e0]
 intro tmps ht
 refine hU.crowd (F:=kM B Post b4 b5 b3 x0.book.aH.length x0.book.aN.length a ho Ph FK) (r:=x0.book.aH.length - 1) rfl (show x0.book.aH.length=x0.book.aH.length - 1+1 by omega) λ n=>?_
 refine (?_:U (fO (kM B Post b4 b5 b3 x0.book.aH.length x0.book.aN.length a ho Ph FK) n (.ka (x0.book.aH.length - 1))) _ _ _ _ _) tmps ht
 refine U.sub ?_ (abw (c:=⟨123,.normal,none,20,[],fr::cs⟩) (b2:=b2) (R:=R1) rfl rfl rfl hB Pj rfl ha (λ n R' FL=>?_) (x0.book.aH.length - 1) 0 n R1 (by omega) (aT.refl _) hO)
 ·exact bS.sub ⟨rfl,rfl,rfl,rfl,rfl,rfl,rfl,trivial⟩
 ·refine U.seq ?_
  refine U.rg [0] ?_
  refine U.uG rfl rfl rfl rfl rfl ahk rfl (ayv (F:=kM B Post b4 b5 b3 x0.book.aH.length x0.book.aN.length a ho Ph FK) (Post:=Post) rfl n) λ aZ bd js gE=>(?_:U (A6 prog B Post) _ _ _ _ _) aZ bd
  refine U.aU ?_
  refine U.seq ?_
  show U _ _ _ ((b3,.cells (mh a js).toArray 145 (0,0))::_) _ _
  rw [amL js gE]
  refine U.rg [0,1] ?_
  refine U.gR rfl rfl rfl (Ox.bU (vs:=_) rfl rfl cI (by simp [hlen]) ((aM.box (.head _)).part (j:=0) (n:=16) (eA (by simp [hlen]))) rfl (.put rfl) ?_)
  refine U.gR rfl rfl rfl (Ox.bW (cs':=_) rfl rfl rfl cI (by simp [hlen]) (bp bf (bp (cB λ _=>rfl) bf)) (.there .here) (by simp [mh]) (cz (by simp [hlen,mh])) rfl (.refl _) ?_)
  refine U.aU ?_
  exact U.Bi func123 (.agg rfl cI (by simp [hlen]) (aM.box (.tail _ (.head _))) .nil) (J.drop (List.Sublist.cons _ (List.Sublist.cons _ (List.Sublist.refl _))) (hk _ _ _ ⟨zP.trans FL,rfl,hlen,rfl⟩))
end
end Go.Proofs.YtihapemckcdicaaGreatDoor
namespace Go.Proofs.YtihapemckcdicaaGreatDoor
open Go.Lg Go.Proofs Go.ChangeShapes Go.WideShapes Go.ChangeAt Go.RowKit Go.Conc Tryz
set_option maxRecDepth 100000
theorem ql:fZ prog 3 (CI .i64) 1:=fZ.int (by kernel_rfl) underlying3
theorem aws:fZ prog 9 CS 1:=fZ.str (by kernel_rfl) underlying9
def CBo:cx Bool:=λ _ x es=>es=[.bool x]
theorem awo:fZ prog 4 CBo 1:=⟨by kernel_rfl,λ W T enc sp held fuel cs x h=>by
 obtain ⟨b,rfl,_⟩:=DataW.trod_bool underlying4 h
 exact ⟨rfl,b,rfl⟩⟩
theorem awn:fZ prog 36 (jL (CI .i64) 1) 1:=fZ.slice (by kernel_rfl) underlying36 (by decide) ql
theorem awp:fZ prog 41 bH 2:=⟨by kernel_rfl,λ W T enc sp held fuel cs x h=>by
 obtain ⟨xs,n,_,_,hl,hx,hf⟩:=DataW.trod_struct underlying41 h
 have hc:cs.length=2:=hl.trans (by kernel_rfl)
 match cs,hc with
 | [c0,c1],_ =>
  obtain ⟨a0,h0⟩:=ql.field [c0] hx (hf 0 _ rfl)
  obtain ⟨a1,h1⟩:=ql.field [c1] hx (hf 1 _ rfl)
  cases h0; cases h1
  exact ⟨rfl,⟨a0,a1⟩,rfl⟩⟩
theorem awr:fZ prog 64 bE 2:=⟨by kernel_rfl,λ W T enc sp held fuel cs x h=>by
 obtain ⟨xs,n,_,_,hl,hx,hf⟩:=DataW.trod_struct underlying64 h
 have hc:cs.length=2:=hl.trans (by kernel_rfl)
 match cs,hc with
 | [c0,c1],_ =>
  obtain ⟨a0,h0⟩:=ql.field [c0] hx (hf 0 _ rfl)
  obtain ⟨a1,h1⟩:=ql.field [c1] hx (hf 1 _ rfl)
  cases h0; cases h1
  exact ⟨rfl,⟨a0,a1⟩,rfl⟩⟩
theorem awt:fZ prog 93 bD 2:=⟨by kernel_rfl,λ W T enc sp held fuel cs x h=>by
 obtain ⟨xs,n,_,_,hl,hx,hf⟩:=DataW.trod_struct underlying93 h
 have hc:cs.length=2:=hl.trans (by kernel_rfl)
 match cs,hc with
 | [c0,c1],_ =>
  obtain ⟨a0,h0⟩:=aws.field [c0] hx (hf 0 _ rfl)
  obtain ⟨a1,h1⟩:=ql.field [c1] hx (hf 1 _ rfl)
  cases h0; cases h1
  exact ⟨rfl,⟨a0,a1⟩,rfl⟩⟩
theorem awu:fZ prog 96 bI 4:=⟨by kernel_rfl,λ W T enc sp held fuel cs x h=>by
 obtain ⟨xs,n,_,_,hl,hx,hf⟩:=DataW.trod_struct underlying96 h
 have hc:cs.length=4:=hl.trans (by kernel_rfl)
 match cs,hc with
 | [c0,c1,c2,c3],_ =>
  obtain ⟨a0,h0⟩:=ql.field [c0] hx (hf 0 _ rfl)
  obtain ⟨a1,h1⟩:=ql.field [c1] hx (hf 1 _ rfl)
  obtain ⟨a2,h2⟩:=ql.field [c2] hx (hf 2 _ rfl)
  obtain ⟨a3,h3⟩:=ql.field [c3] hx (hf 3 _ rfl)
  cases h0; cases h1; cases h2; cases h3
  exact ⟨rfl,⟨a0,a1,a2,a3⟩,rfl⟩⟩
theorem awq:fZ prog 59 bu 3:=⟨by kernel_rfl,λ W T enc sp held fuel cs x h=>by
 obtain ⟨xs,n,_,_,hl,hx,hf⟩:=DataW.trod_struct underlying59 h
 have hc:cs.length=3:=hl.trans (by kernel_rfl)
 match cs,hc with
 | [c0,c1,c2],_ =>
  obtain ⟨a0,h0⟩:=ql.field [c0] hx (hf 0 _ rfl)
  obtain ⟨a1,h1⟩:=ql.field [c1] hx (hf 1 _ rfl)
  obtain ⟨a2,h2⟩:=awo.field [c2] hx (hf 2 _ rfl)
  cases h0; cases h1; cases h2
  exact ⟨rfl,⟨a0,a1,a2⟩,rfl⟩⟩
theorem awh:fZ prog 22 (jL bE 2) 1:=fZ.slice (by kernel_rfl) underlying22 (by decide) awr
theorem awi:fZ prog 23 (jL bH 2) 1:=fZ.slice (by kernel_rfl) underlying23 (by decide) awp
theorem awj:fZ prog 24 (jL bD 2) 1:=fZ.slice (by kernel_rfl) underlying24 (by decide) awt
theorem awk:fZ prog 25 (jL bI 4) 1:=fZ.slice (by kernel_rfl) underlying25 (by decide) awu
theorem awl:fZ prog 26 (jL bu 3) 1:=fZ.slice (by kernel_rfl) underlying26 (by decide) awq
theorem awm:fZ prog 28 No 6:=⟨by kernel_rfl,λ W T enc sp held fuel cs x h=>by
 obtain ⟨xs,n,_,_,hl,hx,hf⟩:=DataW.trod_struct underlying28 h
 have hc:cs.length=6:=hl.trans (by kernel_rfl)
 match cs,hc with
 | [c0,c1,c2,c3,c4,c5],_ =>
  obtain ⟨a0,h0⟩:=ql.field [c0] hx (hf 0 _ rfl)
  obtain ⟨a1,v1,h1,g1⟩:=awh.field [c1] hx (hf 1 _ rfl)
  obtain ⟨a2,v2,h2,g2⟩:=awi.field [c2] hx (hf 2 _ rfl)
  obtain ⟨a3,v3,h3,g3⟩:=awj.field [c3] hx (hf 3 _ rfl)
  obtain ⟨a4,v4,h4,g4⟩:=awk.field [c4] hx (hf 4 _ rfl)
  obtain ⟨a5,v5,h5,g5⟩:=awl.field [c5] hx (hf 5 _ rfl)
  cases h0; cases h1; cases h2; cases h3; cases h4; cases h5
  exact ⟨rfl,⟨a0,a1,a2,a3,a4,a5⟩,c1,c2,c3,c4,c5,g1,g2,g3,g4,g5,rfl⟩⟩
section
variable {W:World} {T:Type} {enc:TypeId × Value→T} {b0:Nat} {v:Value} {d:DataW T} {p:List MemPlace}
theorem afJ(hv:Value.okWide prog W .any b0 28 v)(h:DataW.Trod enc prog W 0 (λ _=>true) true 28 v d p) :
  ∃ (x:au) (v1 v2 v3 v4 v5:Value),v = .agg #[iv x.Rest,v1,v2,v3,v4,v5]∧ae bE 2 (pk W) v1 x.Rows∧ae bH 2 (pk W) v2 x.aQ∧ae bD 2 (pk W) v3 x.aH∧ae bI 4 (pk W) v4 x.aN∧ae bu 3 (pk W) v5 x.aY:=by
 obtain ⟨cs,rfl,_⟩:=okWide_struct underlying28 hv
 obtain ⟨fuel,hf⟩:=h
 obtain ⟨_,x,v1,v2,v3,v4,v5,h1,h2,h3,h4,h5,e⟩:=awm.rd _ _ _ _ _ _ _ _ hf
 exact ⟨x,v1,v2,v3,v4,v5,by rw [← Array.toArray_toList (xs:=cs),show cs.toList=_ from e],h1,h2,h3,h4,h5⟩
theorem azo(hv:Value.okWide prog W .any b0 36 v)(h:DataW.Trod enc prog W 0 (λ _=>true) true 36 v d p):∃ xs,ae (CI .i64) 1 (pk W) v xs:=by
 obtain ⟨a,len,cap,rfl⟩:=okWide_slice underlying36 hv
 obtain ⟨fuel,hf⟩:=h
 obtain ⟨_,x,v1,e,h1⟩:=awn.rd _ _ _ _ _ _ _ _ hf
 cases e
 exact ⟨x,h1⟩
theorem afL(hv:Value.okWide prog W .any b0 5 v)(h:DataW.Trod enc prog W 0 (λ _=>true) true 5 v d p):∃ x:Int,v = .int .u8 x∧0≤x∧x < 256:=by
 obtain ⟨x,rfl,_,_,hw⟩:=open_int underlying5 hv h
 simp only [Lit.wf,Bool.and_eq_true,IntKind.min,IntKind.max,IntKind.signed,IntKind.bits] at hw
 simp at hw
 exact ⟨x,rfl,by omega,by omega⟩
theorem afK(hv:Value.okWide prog W .any b0 3 v)(h:DataW.Trod enc prog W 0 (λ _=>true) true 3 v d p):∃ x:Int,v=iv x ∧ -9223372036854775808≤x∧x≤9223372036854775807:=by
 obtain ⟨x,rfl,_,_,hw⟩:=open_int underlying3 hv h
 simp only [Lit.wf,Bool.and_eq_true,decide_eq_true_eq] at hw
 exact ⟨x,rfl,hw⟩
end
theorem ajD:prog.globalNamed "lagan/stint.checks"=some 0:=by kernel_rfl
theorem axy:(prog.globals[0]?).map (·.type)=some 180:=by kernel_rfl
abbrev Hi:List (String × DataW Unit):=[("lagan/stint.checks",Rows.laid_lagan_stint_checks)]
theorem agD(os:Os)(args:Array Value):laidMetH prog Hi ((World.doorLaid prog 14 os).forCall (λ _ _=>0) ⟨#[],args,[]⟩).memory :=
 laidMetH_of_parts3 (fuel:=8) (laidMet_of_run' 8 (by kernel_rfl) (by kernel_rfl)) (by kernel_rfl) (by kernel_rfl)
theorem avs{W:World}(h:laidMetH prog Hi W):gK (pk W):=by
 obtain ⟨g,t,cs,fuel,p,hg,ht,hv,hd⟩:=h.funcs (n := "lagan/stint.checks") (List.mem_cons_self ..)
 obtain rfl:=Option.some.inj (ajD.symm.trans hg)
 obtain rfl:=Option.some.inj (axy.symm.trans ht)
 obtain ⟨xs,n,_,hx,hlen,hn,lb⟩:=DataW.trod_array underlying180 (show DataW.trod (funcToken prog) prog W 0 (λ _=>true) true fuel 180 cs.toList=some (.agg [.held [40,108,97,103,97,110,47,115,116,105,110,116,46,98,111,111,107,41,46,114,101,115,116],.held [40,108,97,103,97,110,47,115,116,105,110,116,46,98,111,111,107,41,46,116,97,98,108,101],.held [40,108,97,103,97,110,47,115,116,105,110,116,46,98,111,111,107,41,46,112,108,97,99,101,115],.held [40,108,97,103,97,110,47,115,116,105,110,116,46,98,111,111,107,41,46,109,101,110],.held [40,108,97,103,97,110,47,115,116,105,110,116,46,98,111,111,107,41,46,100,105,118,101,115],.held [40,108,97,103,97,110,47,115,116,105,110,116,46,98,111,111,107,41,46,115,111,117,110,100,105,110,103,115]],p) from hd)
 rw [show prog.cellsOf 125=1 by kernel_rfl] at lb
 have hl:cs.toList.length=6:=hlen.trans (by kernel_rfl)
 obtain ⟨cs⟩:=cs
 simp only at hl lb
 match xs,hn,cs,hl with
 | [x0,x1,x2,x3,x4,x5],_,[c0,c1,c2,c3,c4,c5],_ =>
  simp only [Prod.mk.injEq,DataW.agg.injEq,List.map_cons,List.map_nil,List.cons.injEq,and_true] at hx
  obtain ⟨⟨e0,e1,e2,e3,e4,e5⟩,_⟩:=hx
  obtain ⟨x0,q0⟩:=x0
  obtain ⟨x1,q1⟩:=x1
  obtain ⟨x2,q2⟩:=x2
  obtain ⟨x3,q3⟩:=x3
  obtain ⟨x4,q4⟩:=x4
  obtain ⟨x5,q5⟩:=x5
  simp only at e0 e1 e2 e3 e4 e5
  subst e0 e1 e2 e3 e4 e5
  obtain rfl:=func_of_trod (f0:=265) underlying125 (by kernel_rfl) (lb 0 (by decide))
  obtain rfl:=func_of_trod (f0:=266) underlying125 (by kernel_rfl) (lb 1 (by decide))
  obtain rfl:=func_of_trod (f0:=267) underlying125 (by kernel_rfl) (lb 2 (by decide))
  obtain rfl:=func_of_trod (f0:=268) underlying125 (by kernel_rfl) (lb 3 (by decide))
  obtain rfl:=func_of_trod (f0:=269) underlying125 (by kernel_rfl) (lb 4 (by decide))
  obtain rfl:=func_of_trod (f0:=270) underlying125 (by kernel_rfl) (lb 5 (by decide))
  intro j v hj
  rw [Nat.zero_add]
  refine agn ?_
  rw [World.var?_cell hg hv j]
  simpa using hj
end Go.Proofs.YtihapemckcdicaaGreatDoor
