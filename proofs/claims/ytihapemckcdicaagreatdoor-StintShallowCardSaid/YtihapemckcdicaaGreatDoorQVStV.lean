/- What able does in company; the arguments of the statements. Conditions: none. -/
import Derived.Test.YtihapemckcdicaaGreatDoorQVStF
import Derived.Test.YtihapemckcdicaaGreatDoorQVLgE
import Derived.Test.YtihapemckcdicaaGreatDoorQVStW1
import Derived.Test.YtihapemckcdicaaGreatDoorQVStG
import Derived.Test.YtihapemckcdicaaGreatDoorTie
import Derived.Stop.Joined
import Derived.LaidOnce
import Derived.ProofKit
import Derived.OpenShut
namespace Go.Proofs.YtihapemckcdicaaGreatDoor
open Go.Lg Go.Proofs Go.Conc Go.ConcN Tryz
set_option maxRecDepth 100000
set_option maxHeartbeats 4000000
section
variable {B:Base} {R:ax} {H:aj} {Post:Value→World→Prop}
abbrev pt(b:Nat):Value:=.pointer (some ⟨b,0,none⟩)
def qZ(a:Nat→Nat→Bool)(js:Nat→Nat):List Bool:=(List.range 16).map λ p=>decide (p / 4 < js (p % 4)) && a (p / 4) (p % 4)
theorem aeX(a:Nat→Nat→Bool)(js:Nat→Nat):mM a js=[]++((qZ a js).map Value.bool++[]):=by simp [mM,qZ]
theorem aeY(a:Nat→Nat→Bool)(js:Nat→Nat):(qZ a js).length=16:=by simp [qZ]
theorem aFR{a:Nat→Nat→Bool}{js:Nat→Nat}{k j:Nat}(hk:k < 4)(hj:j < 4)(gU:js k=j):mM a (fY js k (j+1))=[]++((pv 4 (qZ a js) (j:Int) (k:Int) (a j k)).map Value.bool++[]):=by
 rw [aFS hk hj gU,aeX]
 simp only [pv,List.map_set,Int.toNat_natCast,List.nil_append,List.append_nil]
 rw [Nat.mul_comm]
theorem aG4{a:Nat→Nat→Bool}{js:Nat→Nat}{k j:Nat}(hk:k < 4)(hj:j < 4):∃ nP dS,iY 4 (qZ a js) (j:Int)=some nP∧idx nP (k:Int)=some dS:=by
 have h1:iY 4 (qZ a js) (j:Int)=some (((qZ a js).drop (j * 4)).take 4):=by
  unfold iY
  rw [if_pos ⟨by omega,by rw [aeY]; simp; omega⟩]
  simp
 have hl:=oz h1
 exact ⟨_,(((qZ a js).drop (j * 4)).take 4)[k]'(by omega),h1,by rw [dT]; exact List.getElem?_eq_getElem (by omega)⟩
noncomputable def kR(B:Base)(Post:Value→World→Prop)(bm bw bo N J:Nat)(a:Nat→Nat→Bool)(ho:bm≠bw∧bm≠bo∧bw≠bo)(hJ:0 < J)(hN:N≤4):Fx :=
 { P:=prog,B:=B,bm:=bm,bw:=bw,bo:=bo,tm:=194,tw:=201,N:=N,J:=J,cont:=λ js=>.cells (mM a js).toArray 145 (0,0),ho:=ho,hJ:=hJ,hN:=hN,mj:=iD prog B Post }
structure uP (R:ax) (b:Nat) (x:cq) (v1 v2 v3 v4 v5 v6:Value):Prop where
 c:aH R [] b 0 [iv x.book.Rest,v1,v2,v3,v4,v5,v6]
 h1:ag b8 2 R v1 x.book.Rows
 h2:ag cb 2 R v2 x.book.aE
 h3:ag bW 2 R v3 x.book.aD
 h4:ag cc 4 R v4 x.book.aT
 h5:ag bP 3 R v5 x.book.bj
 h6:ag fF 3 R v6 x.fb
theorem uP.up{R R':ax}{b:Nat}{x:cq}{v1 v2 v3 v4 v5 v6:Value}(h:uP R b x v1 v2 v3 v4 v5 v6)(hR:aQ R R'):uP R' b x v1 v2 v3 v4 v5 v6 :=
 ⟨h.c.up hR,h.h1.mono hR,h.h2.mono hR,h.h3.mono hR,h.h4.mono hR,h.h5.mono hR,h.h6.mono hR⟩
theorem aeC{α β:Type}{f:α→Option β}:∀ {xs:List α} {ys:List β},xs.mapM f=some ys→ys.length=xs.length∧∀ (i:Nat) (x:α),xs[i]? = some x→∃ y,ys[i]? = some y∧f x=some y
 | [],ys,h=>by
  simp at h; subst h
  exact ⟨rfl,λ i x hx=>by simp at hx⟩
 | a::xs,ys,h=>by
  rw [List.mapM_cons] at h
  cases ha:f a with
  | none=>rw [ha] at h; simp at h
  | some b =>
   cases hr:xs.mapM f with
   | none=>rw [ha,hr] at h; simp at h
   | some bs =>
    rw [ha,hr] at h
    simp at h
    subst h
    obtain ⟨h1,h2⟩:=aeC hr
    refine ⟨by simp [h1],λ i x hx=>?_⟩
    cases i with
    | zero=>simp at hx; subst hx; exact ⟨b,rfl,ha⟩
    | succ i=>exact h2 i x (by simpa using hx)
noncomputable def E3:Code:=(vD (Tryz.f170.body.getD .skip)).getD .skip
variable {x0:cq} {v1 v2 v3 v4 v5 v6:Value} {bm bw bo N J:Nat} {a:Nat→Nat→Bool} {ho:bm≠bw∧bm≠bo∧bw≠bo} {hJ:0 < J} {hN:N≤4} {b1 bk k:Nat}
theorem an3{tmps:Array Value}{st:St}(ht:cS 30 st tmps)(todo:List Item):Gone (aV (iX ⟨170,.deferred,none,30,[],[yx prog]⟩ tmps todo) [yx prog]) :=
 QJ.aag (J:=xU prog 0) func170 ht rfl (.inr rfl) ⟨1,aGs⟩
noncomputable abbrev Yl (bw:Nat):Ctx:=⟨170,.deferred,none,30,[dcall 171 #[.pointer (some ⟨bw,0,none⟩)]],[yx prog]⟩
noncomputable abbrev KD (b1 bk bm bw bo J j:Nat):St:=[(0,pt bw),(1,pt b1),(2,pt bk),(3,pt bm),(4,pt bo),(11,iv (J:Int)),(12,iv (j:Int))]
theorem agH(hB:∀ w:World,B.os w.os→B.os w.later.os)(rF:J≤4)(hk:k < N){j:Nat}(hj:j < J)(ha:rR x0 j k=some (a j k))
  (again:j+1 < J→∀ (n:Nat) (R:ax),uP R b1 x0 v1 v2 v3 v4 v5 v6→aH R [] bk 0 [iv (k:Int)]→At (WJ (kR B Post bm bw bo N J a ho hJ hN) n k (j+1) .ld) (Yl bw) R [] (KD b1 bk bm bw bo J (j+1)) [.code E3,.inLoop E3,.inBlock 0])
  (n:Nat) (R:ax) (hO:uP R b1 x0 v1 v2 v3 v4 v5 v6) (eU:aH R [] bk 0 [iv (k:Int)]):At (WJ (kR B Post bm bw bo N J a ho hJ hN) n k j .ld) (Yl bw) R [] (KD b1 bk bm bw bo J j) [.code E3,.inLoop E3,.inBlock 0]:=by
 obtain ⟨cC,eJ,dV,eK,eE,eL,ig⟩:=hO
 refine At.seq ?_
 refine At.rg [0] ?_
 refine At.vs 1 rfl rfl ?_
 refine At.aP ?_
 refine At.seq ?_
 refine At.fA rfl (by simp; omega) ?_
 refine At.skip ?_
 refine At.seq ?_
 refine At.block ?_
 refine At.seq ?_
 refine At.rg [0,1,2] ?_
 refine At.vs 1 rfl rfl ?_
 refine At.iq rfl rfl rfl (Ox.alloc (cs:=#[iv 0]) rfl DU rfl λ b5 _ _=>⟨_,(.put rfl),?_⟩)
 refine At.iq rfl rfl rfl (Ox.gM (cs':=#[_]) rfl rfl rfl ba rfl .here rfl rfl rfl (.refl _) ?_)
 refine At.aP ?_
 refine At.pS (H2:=[]) (λ X=>X++[]) .id rfl (λ Rf tj ML=>?_)
 replace cC:=cC.up (H:=[]) tj
 replace eU:=eU.up (H:=[]) tj
 replace eJ:=eJ.mono tj
 replace dV:=dV.mono tj
 replace eK:=eK.mono tj
 replace eE:=eE.mono tj
 replace eL:=eL.mono tj
 replace ig:=ig.mono tj
 refine At.seq ?_
 obtain ⟨cV,fQ,he⟩:∃ cV,xy x0 (λ y=>zO y x0 (k:Int) (j:Int))=some cV∧(cV == (x0.fb.length:Int))=a j k:=by
  unfold rR at ha
  obtain ⟨x,h1,h2⟩:=ah ha
  exact ⟨x,h1,aa h2⟩
 refine At.dw gb mixed ?_
 refine Any.tk 0 rfl (λ _ h=>h) (λ R' H' hR hS=>Ox.cy (vs:=[_,_,_,_,_,_,_]) rfl rfl dN rfl (((cC.le hR).sub (λ p h=>hS p ((λ _ h=>h) p h))).part (j:=0) (n:=7) rfl) rfl (.one rfl) ⟨rfl,rfl,rfl⟩) ?_
 refine Any.tk 1 rfl (λ _ h=>h) (λ R' H' hR hS=>Ox.makeFunc (vs:=#[]) (us:=#[_,_,_]) rfl rfl rfl rfl (.one rfl) ⟨rfl,rfl,rfl⟩) ?_
 refine Any.vs 1 [3] rfl ?_
 refine Any.tk 4 rfl (λ _ h=>h) (λ R' H' hR hS=>Ox.bI rfl rfl qY (((cC.le hR).sub (λ p h=>hS p ((λ _ h=>h) p h))).one (j:=6) rfl) rfl (.one rfl) ⟨rfl,rfl,rfl⟩) ?_
 refine Any.tk 5 rfl (λ _ h=>h) (λ R' H' hR hS=>Ox.uL (K:=fF) (k:=3) (xs:=x0.fb) rfl rfl (ig.mono hR) underlying111 rfl (.one rfl) ⟨rfl,rfl,rfl⟩) ?_
 refine Any.cv 2 Mj (NK x0 (λ y=>zO y x0 (k:Int) (j:Int)) eJ dV eK eE eL ig ⟨172,#[],#[_,_,_],rfl,alu,λ R' H' hR hH y r va hA hr=>by obtain ⟨_,rfl,⟨tV,rfl⟩⟩:=hA; exact (aDW y x0 (k:Int) (j:Int) tV ((cC.le hR).sub (λ p h=>hH p ((λ _ h=>h) p h))) (eJ.mono hR) (dV.mono hR) (eK.mono hR) (eE.mono hR) (eL.mono hR) (ig.mono hR) ((eU.le hR).sub (λ p h=>hH p ((λ _ h=>h) p h))) ((ML.le hR).sub (λ p h=>hH p ((λ _ h=>h) p h))) hr).mono λ _ _ _ ⟨h1,h2,h3⟩=>⟨h1 ▸ aQ.refl _,h2.symm,h3⟩⟩ fQ) ?_
 rintro _ D5 _ ⟨gy,rfl,rfl⟩
 replace eJ:=eJ.mono gy
 replace dV:=dV.mono gy
 replace eK:=eK.mono gy
 replace eE:=eE.mono gy
 replace eL:=eL.mono gy
 replace ig:=ig.mono gy
 replace cC:=cC.le gy
 replace eU:=eU.le gy
 replace ML:=ML.le gy
 refine ⟨gy,(aB6 (λ _ h=>h)),?_⟩
 refine Any.vs 2 [6,7] rfl ?_
 refine Any.done ?_
 refine At.sub (st':=(6,.bool (a j k))::(5,pt b5)::KD b1 bk bm bw bo J j) (cj.sub ⟨congrArg (λ z=>some (Value.bool z)) he,rfl,rfl,rfl,rfl,rfl,rfl,rfl,rfl,trivial⟩) ?_
 refine At.seq ?_
 refine At.rg [0] ?_
 refine At.vE rfl rfl rfl rfl rfl alv rfl (aDa (F:=kR B Post bm bw bo N J a ho hJ hN) hB n) λ aZ bf n js gU=>(?_:At (WJ (kR B Post bm bw bo N J a ho hJ hN) n k j (.ul js)) _ _ _ _ _) aZ bf
 refine At.aP ?_
 refine At.seq ?_
 obtain ⟨nP,dS,rM,fW⟩:=aG4 (a:=a) (js:=js) (k:=k) (j:=j) (by omega) (by omega)
 have l4:=aeY a js
 show At _ _ _ [(bo,.cells (mM a js).toArray 145 (0,0))] _ _
 rw [aeX]
 refine At.draw (n:=6) (is:=[0,1,2,3,4,5]) (many ((bo,.cells (List.toArray ([]++((qZ a js).map Value.bool++[]))) 145)::[]) [(5,[])]) mixed rfl (by decide +kernel) rfl rfl ?_
 refine Any.Dd (i:=0) [3,4,5] rfl rfl rfl (by decide +kernel) (aL rfl (bD (λ _ h=>(List.Sublist.subset (List.Sublist.cons _ (List.Sublist.refl _))) h))) (λ _ h=>(List.Sublist.subset (List.Sublist.cons _ (List.Sublist.refl _))) h) (λ R' H' hR hS=>Ox.bI rfl rfl ba (((ML.le hR).sub (λ p h=>hS p ((λ _ h=>h) p h))).one (j:=0) rfl) rfl (.one rfl) ⟨rfl,rfl,rfl⟩) (.refl _) (by decide) (pn:=[1,2,3,4,5]) rfl ?_
 refine Any.Dd (i:=1) [4,5] rfl rfl rfl (by decide +kernel) (aL rfl (bD (λ _ h=>(List.Sublist.subset (List.Sublist.cons _ (List.Sublist.refl _))) h))) (λ _ h=>(List.Sublist.subset (List.Sublist.cons _ (List.Sublist.refl _))) h) (λ R' H' hR hS=>Ox.bI rfl rfl ba (((eU.le hR).sub (λ p h=>hS p ((λ _ h=>h) p h))).one (j:=0) rfl) rfl (.one rfl) ⟨rfl,rfl,rfl⟩) (.refl _) (by decide) (pn:=[2,3,4,5]) rfl ?_
 refine Any.vs 1 [2] rfl ?_
 refine Any.Dd (i:=3) [4,5] rfl rfl rfl (by decide +kernel) (aL rfl (bD (λ _ h=>(List.Sublist.subset (List.Sublist.cons _ (List.Sublist.refl _))) h))) (λ _ h=>(List.Sublist.subset (List.Sublist.cons _ (List.Sublist.refl _))) h) (λ R' H' hR hS=>Ox.bF rfl rfl rfl (vC uS l4 (by decide) rM) rfl (.one rfl) ⟨rfl,rfl,rfl⟩) (.refl _) (by decide) (pn:=[4,5]) rfl ?_
 refine Any.Dd (i:=4) [5] rfl rfl rfl (by decide +kernel) (aL rfl (bD (λ _ h=>(List.Sublist.subset (List.Sublist.cons _ (List.Sublist.refl _))) h))) (λ _ h=>(List.Sublist.subset (List.Sublist.cons _ (List.Sublist.refl _))) h) (λ R' H' hR hS=>Ox.bF rfl rfl rfl (ou qs (oz rM) fW) rfl (.one rfl) ⟨rfl,rfl,rfl⟩) (.refl _) (by decide) (pn:=[5]) rfl ?_
 refine Any.on 5 rfl rfl (aK.to (Ox.gM rfl rfl rfl im rfl .here (QH rM fW rfl) (QK rM fW rfl) rfl (.refl _) ⟨aQ.refl _,(di rfl (λ _ h=>(List.Sublist.subset (List.Sublist.cons _ (List.Sublist.refl _))) h)),?_⟩))
 refine Any.done ?_
 rw [← aFR (a:=a) (by omega) (by omega) gU]
 refine At.rg [0] ?_
 have dP:i64 ((j:Int)+1)=((j+1:Nat):Int):=by rw [Nu (by omega)]; omega
 refine At.vE rfl rfl rfl rfl rfl alw rfl (aHY (F:=kR B Post bm bw bo N J a ho hJ hN) (js:=js) (show j+1≤J by omega) n) λ aZ bf=>⟨λ h n=>(?_:At (WJ (kR B Post bm bw bo N J a ho hJ hN) n k (j+1) .ld) _ _ _ _ _) aZ bf,λ h n=>(?_:At (WJ (kR B Post bm bw bo N J a ho hJ hN) n k (j+1) .wv) _ _ _ _ _) aZ bf⟩
 ·refine At.aP ?_
  refine At.inBlock ?_
  refine At.rg [0,1] ?_
  refine At.vs 2 rfl rfl ?_
  refine At.aP ?_
  refine At.inLoop ?_
  refine At.sub ?_ (again h n _ ⟨cC,eJ,dV,eK,eE,eL,ig⟩ eU)
  exact cj.sub ⟨rfl,rfl,rfl,rfl,rfl,rfl,congrArg (λ z=>some (iv z)) dP,trivial⟩
 ·have hJe:j+1=J:=h
  refine At.aP ?_
  refine At.inBlock ?_
  refine At.rg [0,1] ?_
  refine At.vs 2 rfl rfl ?_
  refine At.aP ?_
  refine At.inLoop ?_
  refine At.sub (st':=KD b1 bk bm bw bo J (j+1)) (cj.sub ⟨rfl,rfl,rfl,rfl,rfl,rfl,congrArg (λ z=>some (iv z)) dP,trivial⟩) ?_
  refine At.seq ?_
  refine At.rg [0] ?_
  refine At.vs 1 rfl rfl ?_
  refine At.aP ?_
  refine At.seq ?_
  refine At.eD rfl (by simp; omega) ?_
  refine At.exit rfl ?_
  refine At.toEnd rfl λ tmps ht=>?_
  exact Jd.unwind rfl func171 rfl rfl (akS (F:=kR B Post bm bw bo N J a ho hJ hN) (.inl rfl) (an3 ht _) n)
theorem agG(hB:∀ w:World,B.os w.os→B.os w.later.os)(rF:J≤4)(hk:k < N)(ha:∀ j,j < J→rR x0 j k=some (a j k)):∀ (m j:Nat),J=j+m+1→∀ (n:Nat) (R:ax),uP R b1 x0 v1 v2 v3 v4 v5 v6→aH R [] bk 0 [iv (k:Int)] →
  At (WJ (kR B Post bm bw bo N J a ho hJ hN) n k j .ld) (Yl bw) R [] (KD b1 bk bm bw bo J j) [.code E3,.inLoop E3,.inBlock 0]
 | 0,j,hm,n,R,hO,hc=>agH hB rF hk (by omega) (ha j (by omega)) (λ h=>by omega) n R hO hc
 | m+1,j,hm,n,R,hO,hc=>agH hB rF hk (by omega) (ha j (by omega)) (λ _ n R hO hc=>agG hB rF hk ha m (j+1) (by omega) n R hO hc) n R hO hc
theorem aIO(hB:∀ w:World,B.os w.os→B.os w.later.os)(rF:J≤4)(Bo:x0.book.aT.length=J)(hk:k < N)(ha:∀ j,j < J→rR x0 j k=some (a j k))(n:Nat){R:ax}(hO:uP R b1 x0 v1 v2 v3 v4 v5 v6)(hc:aH R [] bk 0 [iv (k:Int)]) :
  Own prog B false (KW (FT (kR B Post bm bw bo N J a ho hJ hN)) n k 0 .ld) R [] (aV (Frame.enter prog 170 (#[]++#[pt bw,pt b1,pt bk,pt bm,pt bo]) .deferred) [yx prog]):=by
 refine Jd.enter (ae:=WJ (kR B Post bm bw bo N J a ho hJ hN) n k 0 .ld) (args:=[pt bw,pt b1,pt bk,pt bm,pt bo]) func170 rfl (m:=30) rfl rfl ?_
 refine At.seq ?_
 refine At.rg [0] ?_
 refine At.defer rfl rfl rfl rfl rfl rfl rfl (.N3 rfl) ?_
 refine At.aP ?_
 refine At.seq ?_
 refine At.rg [0,1,2,3,4,5] ?_
 refine At.vs 3 rfl rfl ?_
 refine At.iq rfl rfl rfl (Ox.bI rfl rfl kh (hO.c.any.one (j:=4) rfl) rfl (.put rfl) ?_)
 refine At.iq rfl rfl rfl (Ox.uL (K:=cc) (k:=4) (xs:=x0.book.aT) rfl rfl hO.h4 underlying25 rfl (.put rfl) ?_)
 refine At.vs 1 rfl rfl ?_
 refine At.aP ?_
 refine At.block ?_
 refine At.enterLoop ?_
 refine At.sub ?_ (agG (m:=J - 1) (j:=0) hB rF hk ha (by omega) n R hO hc)
 exact cj.sub ⟨rfl,rfl,rfl,rfl,rfl,by rw [← Bo]; rfl,rfl,trivial⟩
noncomputable def E2:Code:=(vD (Tryz.f123.body.getD .skip)).getD .skip
abbrev NT(b1 b2 bo bm bw:Nat):St:=[(1,pt b1),(2,pt b2),(3,pt bo),(4,pt bm),(5,pt bw)]
theorem afD{c:Ctx}(eV:c.n=20)(zh:c.kind = .normal)(zi:c.ro=none){b2:Nat}{H0:aj}{K:List Item}(hB:∀ w:World,B.os w.os→B.os w.later.os)(rF:J≤4)(Bo:x0.book.aT.length=J)(ha:∀ j k,j < J→k < N→rR x0 j k=some (a j k)){r i n:Nat}{R':ax}(hi:N=i+r+1)
  (next:∀ (n:Nat) (cI:ax),aQ R' cI→At (fU (kR B Post bm bw bo N J a ho hJ hN) n (kg r)) c cI H0 ((11,iv (N:Int))::(12,iv ((i+1:Nat):Int))::NT b1 b2 bo bm bw) (.code E2 :: .inLoop E2 :: .inBlock 0::K))
  (hO:uP R' b1 x0 v1 v2 v3 v4 v5 v6) :
  At (fU (kR B Post bm bw bo N J a ho hJ hN) n (.ka r)) c R' H0 ((11,iv (N:Int))::(12,iv (i:Int))::NT b1 b2 bo bm bw) (.code E2 :: .inLoop E2 :: .inBlock 0::K):=by
 obtain ⟨cf,ck,cr,cn,cd,ccs⟩:=c
 simp only at eV zh zi
 subst eV zh zi
 refine At.seq ?_
 refine At.rg [0] ?_
 refine At.vs 1 rfl rfl ?_
 refine At.aP ?_
 refine At.seq ?_
 refine At.fA rfl (by simp; omega) ?_
 refine At.skip ?_
 refine At.seq ?_
 refine At.block ?_
 refine At.seq ?_
 refine At.rg [0,1,2] ?_
 refine At.vs 1 rfl rfl ?_
 refine At.iq rfl rfl rfl (Ox.alloc (cs:=#[iv 0]) rfl DU rfl λ b6 _ _=>⟨_,(.put rfl),?_⟩)
 refine At.iq rfl rfl rfl (Ox.gM (cs':=#[_]) rfl rfl rfl ba rfl .here rfl rfl rfl (.refl _) ?_)
 refine At.aP ?_
 refine At.pS (H2:=H0) (λ X=>X++H0) .id rfl (λ Rf tj hc6=>?_)
 replace hO:=hO.up tj
 refine At.seq ?_
 refine At.rg [0] ?_
 refine At.vE rfl rfl rfl rfl rfl abt rfl (aFd (F:=kR B Post bm bw bo N J a ho hJ hN) r n) λ aZ bf n=>(?_:At (fU (kR B Post bm bw bo N J a ho hJ hN) n (.go r)) _ _ _ _ _) aZ bf
 refine At.aP ?_
 refine At.rg [0,1] ?_
 refine At.iq rfl rfl rfl (Ox.makeFunc (vs:=#[]) (us:=#[_,_,_,_,_]) rfl rfl rfl rfl (.put rfl) ?_)
 have dP:i64 ((i:Int)+1)=((i+1:Nat):Int):=by rw [Nu (by omega)]; omega
 refine sM λ m hm=>KM.spawn (F:=FT (kR B Post bm bw bo N J a ho hJ hN)) (d:=⟨.fn (.func 170) #[pt bw,pt b1,pt b6,pt bm,pt bo],#[]⟩) rfl rfl rfl (aGK rfl rfl rfl) rfl rfl ?_ λ aZ bf=>(?_:At (fU (kR B Post bm bw bo N J a ho hJ hN) m (kg r)) _ _ _ _ _) aZ bf
 ·refine Own.child rfl (aId als) ?_
  have ei:N - (r+1)=i:=by omega
  show Own _ _ _ (KW _ m (N - (r+1)) 0 .ld) _ _ _
  rw [ei]
  exact aIO (k:=i) hB rF Bo (by omega) (λ j hj=>ha j i hj (by omega)) m hO hc6
 ·refine At.aP ?_
  refine At.inBlock ?_
  refine At.rg [0,1] ?_
  refine At.vs 2 rfl rfl ?_
  refine At.aP ?_
  refine At.inLoop ?_
  refine At.sub ?_ (next m Rf tj)
  exact cj.sub ⟨rfl,congrArg (λ z=>some (iv z)) dP,rfl,rfl,rfl,rfl,rfl,trivial⟩
theorem afC{c:Ctx}(eV:c.n=20)(zh:c.kind = .normal)(zi:c.ro=none){b2:Nat}{H0:aj}{K:List Item}(hB:∀ w:World,B.os w.os→B.os w.later.os)(rF:J≤4)(Bo:x0.book.aT.length=J)(ha:∀ j k,j < J→k < N→rR x0 j k=some (a j k))
  (acS:∀ (n:Nat) (R':ax),aQ R R'→At (fU (kR B Post bm bw bo N J a ho hJ hN) n .wa) c R' H0 (NT b1 b2 bo bm bw) K):∀ (r i n:Nat) (R':ax),N=i+r+1→aQ R R'→uP R' b1 x0 v1 v2 v3 v4 v5 v6 →
  At (fU (kR B Post bm bw bo N J a ho hJ hN) n (.ka r)) c R' H0 ((11,iv (N:Int))::(12,iv (i:Int))::NT b1 b2 bo bm bw) (.code E2 :: .inLoop E2 :: .inBlock 0::K)
 | 0,i,n,R',hi,hR,hO=>afD eV zh zi hB rF Bo ha hi (λ n cI rG=>by
   obtain ⟨cf,ck,cr,cn,cd,ccs⟩:=c
   simp only at eV zh zi
   subst eV zh zi
   refine At.seq ?_
   refine At.rg [0] ?_
   refine At.vs 1 rfl rfl ?_
   refine At.aP ?_
   refine At.seq ?_
   refine At.eD rfl (by rw [decide_eq_false_iff_not]; omega) ?_
   refine At.exit rfl ?_
   refine At.sub ?_ (acS n cI (hR.trans rG))
   exact cj.sub ⟨rfl,rfl,rfl,rfl,rfl,trivial⟩) hO
 | r+1,i,n,R',hi,hR,hO=>afD eV zh zi hB rF Bo ha hi (λ n cI rG=>afC eV zh zi hB rF Bo ha acS r (i+1) n cI (by omega) (hR.trans rG) (hO.up rG)) hO
theorem ai7{x0:cq}{r:List Bool}(R5:x0.book.aT.length≤4)(HP:x0.book.aD.length≤4)
  (hr:(((List.range 16).mapM λ (p:Nat)=>if p / 4 < x0.book.aT.length∧p % 4 < x0.book.aD.length then rR x0 (p / 4) (p % 4) else some false):Option (List Bool))=some r) :
  ∃ a:Nat→Nat→Bool,r.length=16∧(∀ i k,i < x0.book.aT.length→k < x0.book.aD.length→rR x0 i k=some (a i k))∧∀ js,(∀ k,k < x0.book.aD.length→js k=x0.book.aT.length)→mM a js=[]++(r.map Value.bool++[]):=by
 obtain ⟨hlen,tv⟩:=aeC hr
 rw [List.length_range] at hlen
 have MP:∀ i k,i < 4→k < 4→∃ y,r[4 * i+k]? = some y∧(if i < x0.book.aT.length∧k < x0.book.aD.length then rR x0 i k else some false)=some y:=λ i k hi hk=>by
  obtain ⟨y,g1,g2⟩:=tv (4 * i+k) (4 * i+k) (List.getElem?_range (by omega))
  rw [show (4 * i+k) / 4=i by omega,show (4 * i+k) % 4=k by omega] at g2
  exact ⟨y,g1,g2⟩
 refine ⟨λ i k=>(r[4 * i+k]?).getD false,hlen,λ i k hi hk=>?_,λ js gU=>?_⟩
 ·obtain ⟨y,g1,g2⟩:=MP i k (by omega) (by omega)
  rw [if_pos ⟨hi,hk⟩] at g2
  rw [g2]
  show some y=some ((r[4 * i+k]?).getD false)
  rw [g1]; rfl
 ·apply List.ext_getElem?
  intro p
  rcases Nat.lt_or_ge p 16 with hp | hp
  ·rw [Xq hp]
   obtain ⟨y,g1,g2⟩:=MP (p / 4) (p % 4) (by omega) (by omega)
   rw [show 4 * (p / 4)+p % 4=p by omega] at g1
   simp only [List.nil_append,List.append_nil,List.getElem?_map,show 4 * (p / 4)+p % 4=p by omega,g1,Option.map_some,Option.getD_some]
   by_cases BC:p / 4 < x0.book.aT.length∧p % 4 < x0.book.aD.length
   ·rw [gU _ BC.2,decide_eq_true BC.1,Bool.true_and]
   ·rw [if_neg BC] at g2
    rw [← aa g2,Bool.and_false]
  ·rw [List.getElem?_eq_none (by simp [mM]; exact hp),List.getElem?_eq_none (by simp [hlen]; exact hp)]
theorem ai8(hB:∀ w:World,B.os w.os→B.os w.later.os):wB (CQ prog B Post):=by
 intro R H x0 v1 v2 v3 v4 v5 v6 h1 h2 h3 h4 h5 h6 r hr
 unfold vG at hr
 split at hr
 case isFalse=>cases hr
 rename_i hc
 obtain ⟨⟨R4,R5⟩,hN0,HP⟩:=hc
 obtain ⟨a,hlen,ha,as7⟩:=ai7 R5 HP hr
 refine az.bq (args:=[.agg #[iv x0.book.Rest,v1,v2,v3,v4,v5,v6]]) func123 rfl (n:=20) rfl rfl λ fr cs hk=>?_
 refine At.seq ?_
 refine At.rg [0,1] ?_
 refine At.iq rfl rfl rfl (Ox.aam rfl rfl rfl λ b1 _ _=>⟨_,(.put rfl),?_⟩)
 refine At.iq rfl rfl rfl (Ox.alloc (cs:=#[.bool false,.bool false,.bool false,.bool false,.bool false,.bool false,.bool false,.bool false,.bool false,.bool false,.bool false,.bool false,.bool false,.bool false,.bool false,.bool false]) rfl ia rfl λ b2 _ _=>⟨_,(.put rfl),?_⟩)
 refine At.aP ?_
 refine At.seq ?_
 refine At.rg [0] ?_
 refine At.iq rfl rfl rfl (Ox.alloc (cs:=#[.bool false,.bool false,.bool false,.bool false,.bool false,.bool false,.bool false,.bool false,.bool false,.bool false,.bool false,.bool false,.bool false,.bool false,.bool false,.bool false]) rfl ia rfl λ b3 _ n3=>⟨_,(.put rfl),?_⟩)
 refine At.aP ?_
 refine At.seq ?_
 refine At.rg [0] ?_
 refine At.iq rfl rfl rfl (Ox.alloc (cs:=#[.int .i32 0,.int .u32 0]) rfl aIX rfl λ b4 _ n4=>⟨_,(.put rfl),?_⟩)
 refine At.aP ?_
 refine At.seq ?_
 refine At.rg [0] ?_
 refine At.iq rfl rfl rfl (Ox.alloc (cs:=#[.int .u64 0,.int .u32 0]) rfl aIY rfl λ b5 _ n5=>⟨_,(.put rfl),?_⟩)
 refine At.aP ?_
 have ho:b4≠b5∧b4≠b3∧b5≠b3:=⟨λ e=>by subst e; exact n5 _ (List.mem_cons_self),λ e=>by subst e; exact n4 _ (List.mem_cons_self),λ e=>by subst e; exact n5 _ (List.mem_cons_of_mem _ (List.mem_cons_self))⟩
 clear n3 n4 n5
 refine At.seq ?_
 refine At.seq ?_
 refine At.rg [0,1,2,3,4,5] ?_
 refine At.vs 3 rfl rfl ?_
 refine At.iq rfl rfl rfl (Ox.bI rfl rfl k7 ((aH.box (L:=[iv x0.book.Rest,v1,v2,v3,v4,v5,v6]) (.tail _ (.tail _ (.tail _ (.tail _ (.head _)))))).one (j:=3) rfl) rfl (.put rfl) ?_)
 refine At.iq rfl rfl rfl (Ox.uL (K:=bW) (k:=2) (xs:=x0.book.aD) rfl rfl h3 underlying24 rfl (.put rfl) ?_)
 refine At.vs 1 rfl rfl ?_
 refine At.aP ?_
 refine At.block ?_
 refine At.pS (H2:=(b5,_)::(b4,_)::(b3,_)::(b2,_)::H) (λ X=>(b5,_)::(b4,_)::(b3,_)::(b2,_)::X++H) (.cons (.cons (.cons (.cons .id)))) rfl (λ R1 Bp cC=>?_)
 have hO:uP R1 b1 x0 v1 v2 v3 v4 v5 v6:=⟨cC,h1.mono Bp,h2.mono Bp,h3.mono Bp,h4.mono Bp,h5.mono Bp,h6.mono Bp⟩
 refine At.enterLoop ?_
 refine At.perm (H':=(b3,_)::(b5,_)::(b4,_)::(b2,_)::H) ((List.Perm.swap _ _ _).trans (List.Perm.cons _ (List.Perm.swap _ _ _))) ?_
 have e0:Obj.cells (mM a λ _=>0).toArray 145 (0,0)=Obj.cells #[.bool false,.bool false,.bool false,.bool false,.bool false,.bool false,.bool false,.bool false,.bool false,.bool false,.bool false,.bool false,.bool false,.bool false,.bool false,.bool false] 145 (0,0):=by rw [aFT]; rfl
 rw [← e0]
 intro tmps ht
 refine iD.crowd (F:=kR B Post b4 b5 b3 x0.book.aD.length x0.book.aT.length a ho R4 HP) (r:=x0.book.aD.length - 1) rfl (show x0.book.aD.length=x0.book.aD.length - 1+1 by omega) λ n=>?_
 refine (?_:At (fU (kR B Post b4 b5 b3 x0.book.aD.length x0.book.aT.length a ho R4 HP) n (.ka (x0.book.aD.length - 1))) _ _ _ _ _) tmps ht
 refine At.sub ?_ (afC (c:=⟨123,.normal,none,20,[],fr::cs⟩) (b2:=b2) (R:=R1) rfl rfl rfl hB R5 rfl ha (λ n R' HQ=>?_) (x0.book.aD.length - 1) 0 n R1 (by omega) (aQ.refl _) hO)
 ·exact cj.sub ⟨rfl,rfl,rfl,rfl,rfl,rfl,rfl,trivial⟩
 ·refine At.seq ?_
  refine At.rg [0] ?_
  refine At.vE rfl rfl rfl rfl rfl alx rfl (aIG (F:=kR B Post b4 b5 b3 x0.book.aD.length x0.book.aT.length a ho R4 HP) (Post:=Post) rfl n) λ aZ bf js gU=>(?_:At (CQ prog B Post) _ _ _ _ _) aZ bf
  refine At.aP ?_
  refine At.seq ?_
  show At _ _ _ ((b3,.cells (mM a js).toArray 145 (0,0))::_) _ _
  rw [as7 js gU]
  refine At.rg [0,1] ?_
  refine At.iq rfl rfl rfl (Ox.cy (vs:=_) rfl rfl cO (by simp [hlen]) ((aH.box (.head _)).part (j:=0) (n:=16) (eY (by simp [hlen]))) rfl (.put rfl) ?_)
  refine At.iq rfl rfl rfl (Ox.cE (cs':=_) rfl rfl rfl cO (by simp [hlen]) (bu bc (bu (cU λ _=>rfl) bc)) (.there .here) (by simp [mM]) (cR (by simp [hlen,mM])) rfl (.refl _) ?_)
  refine At.aP ?_
  exact At.C6 func123 (.agg rfl cO (by simp [hlen]) (aH.box (.tail _ (.head _))) .nil) (J.drop (List.Sublist.cons _ (List.Sublist.cons _ (List.Sublist.refl _))) (hk _ _ _ ⟨Bp.trans HQ,rfl,hlen,rfl⟩))
end
end Go.Proofs.YtihapemckcdicaaGreatDoor
namespace Go.Proofs.YtihapemckcdicaaGreatDoor
open Go.Lg Go.Proofs Go.ChangeShapes Go.WideShapes Go.ChangeAt Go.RowKit Go.Conc Tryz
set_option maxRecDepth 100000
theorem se:gH prog 3 (CI .i64) 1:=gH.int (by kernel_rfl) underlying3
theorem aGF:gH prog 9 CS 1:=gH.str (by kernel_rfl) underlying9
def CBo:cH Bool:=λ _ x es=>es=[.bool x]
theorem aGB:gH prog 4 CBo 1:=⟨by kernel_rfl,λ W T enc sp held fuel cs x h=>by
 obtain ⟨b,rfl,_⟩:=DataW.trod_bool underlying4 h
 exact ⟨rfl,b,rfl⟩⟩
theorem aGC:gH prog 41 cb 2:=⟨by kernel_rfl,λ W T enc sp held fuel cs x h=>by
 obtain ⟨xs,n,_,_,hl,hx,hf⟩:=DataW.trod_struct underlying41 h
 have hc:cs.length=2:=hl.trans (by kernel_rfl)
 match cs,hc with
 | [c0,c1],_ =>
  obtain ⟨a0,h0⟩:=se.field [c0] hx (hf 0 _ rfl)
  obtain ⟨a1,h1⟩:=se.field [c1] hx (hf 1 _ rfl)
  cases h0; cases h1
  exact ⟨rfl,⟨a0,a1⟩,rfl⟩⟩
theorem aGE:gH prog 64 b8 2:=⟨by kernel_rfl,λ W T enc sp held fuel cs x h=>by
 obtain ⟨xs,n,_,_,hl,hx,hf⟩:=DataW.trod_struct underlying64 h
 have hc:cs.length=2:=hl.trans (by kernel_rfl)
 match cs,hc with
 | [c0,c1],_ =>
  obtain ⟨a0,h0⟩:=se.field [c0] hx (hf 0 _ rfl)
  obtain ⟨a1,h1⟩:=se.field [c1] hx (hf 1 _ rfl)
  cases h0; cases h1
  exact ⟨rfl,⟨a0,a1⟩,rfl⟩⟩
theorem aGG:gH prog 93 bW 2:=⟨by kernel_rfl,λ W T enc sp held fuel cs x h=>by
 obtain ⟨xs,n,_,_,hl,hx,hf⟩:=DataW.trod_struct underlying93 h
 have hc:cs.length=2:=hl.trans (by kernel_rfl)
 match cs,hc with
 | [c0,c1],_ =>
  obtain ⟨a0,h0⟩:=aGF.field [c0] hx (hf 0 _ rfl)
  obtain ⟨a1,h1⟩:=se.field [c1] hx (hf 1 _ rfl)
  cases h0; cases h1
  exact ⟨rfl,⟨a0,a1⟩,rfl⟩⟩
theorem aGH:gH prog 96 cc 4:=⟨by kernel_rfl,λ W T enc sp held fuel cs x h=>by
 obtain ⟨xs,n,_,_,hl,hx,hf⟩:=DataW.trod_struct underlying96 h
 have hc:cs.length=4:=hl.trans (by kernel_rfl)
 match cs,hc with
 | [c0,c1,c2,c3],_ =>
  obtain ⟨a0,h0⟩:=se.field [c0] hx (hf 0 _ rfl)
  obtain ⟨a1,h1⟩:=se.field [c1] hx (hf 1 _ rfl)
  obtain ⟨a2,h2⟩:=se.field [c2] hx (hf 2 _ rfl)
  obtain ⟨a3,h3⟩:=se.field [c3] hx (hf 3 _ rfl)
  cases h0; cases h1; cases h2; cases h3
  exact ⟨rfl,⟨a0,a1,a2,a3⟩,rfl⟩⟩
theorem aGD:gH prog 59 bP 3:=⟨by kernel_rfl,λ W T enc sp held fuel cs x h=>by
 obtain ⟨xs,n,_,_,hl,hx,hf⟩:=DataW.trod_struct underlying59 h
 have hc:cs.length=3:=hl.trans (by kernel_rfl)
 match cs,hc with
 | [c0,c1,c2],_ =>
  obtain ⟨a0,h0⟩:=se.field [c0] hx (hf 0 _ rfl)
  obtain ⟨a1,h1⟩:=se.field [c1] hx (hf 1 _ rfl)
  obtain ⟨a2,h2⟩:=aGB.field [c2] hx (hf 2 _ rfl)
  cases h0; cases h1; cases h2
  exact ⟨rfl,⟨a0,a1,a2⟩,rfl⟩⟩
theorem aGv:gH prog 22 (kz b8 2) 1:=gH.slice (by kernel_rfl) underlying22 (by decide) aGE
theorem aGw:gH prog 23 (kz cb 2) 1:=gH.slice (by kernel_rfl) underlying23 (by decide) aGC
theorem aGx:gH prog 24 (kz bW 2) 1:=gH.slice (by kernel_rfl) underlying24 (by decide) aGG
theorem aGy:gH prog 25 (kz cc 4) 1:=gH.slice (by kernel_rfl) underlying25 (by decide) aGH
theorem aGz:gH prog 26 (kz bP 3) 1:=gH.slice (by kernel_rfl) underlying26 (by decide) aGD
theorem aGA:gH prog 28 PY 6:=⟨by kernel_rfl,λ W T enc sp held fuel cs x h=>by
 obtain ⟨xs,n,_,_,hl,hx,hf⟩:=DataW.trod_struct underlying28 h
 have hc:cs.length=6:=hl.trans (by kernel_rfl)
 match cs,hc with
 | [c0,c1,c2,c3,c4,c5],_ =>
  obtain ⟨a0,h0⟩:=se.field [c0] hx (hf 0 _ rfl)
  obtain ⟨a1,v1,h1,g1⟩:=aGv.field [c1] hx (hf 1 _ rfl)
  obtain ⟨a2,v2,h2,g2⟩:=aGw.field [c2] hx (hf 2 _ rfl)
  obtain ⟨a3,v3,h3,g3⟩:=aGx.field [c3] hx (hf 3 _ rfl)
  obtain ⟨a4,v4,h4,g4⟩:=aGy.field [c4] hx (hf 4 _ rfl)
  obtain ⟨a5,v5,h5,g5⟩:=aGz.field [c5] hx (hf 5 _ rfl)
  cases h0; cases h1; cases h2; cases h3; cases h4; cases h5
  exact ⟨rfl,⟨a0,a1,a2,a3,a4,a5⟩,c1,c2,c3,c4,c5,g1,g2,g3,g4,g5,rfl⟩⟩
section
variable {W:World} {T:Type} {enc:TypeId × Value→T} {b0:Nat} {v:Value} {d:DataW T} {p:List MemPlace}
theorem ajV(hv:Value.okWide prog W .any b0 28 v)(h:DataW.Trod enc prog W 0 (λ _=>true) true 28 v d p) :
  ∃ (x:ay) (v1 v2 v3 v4 v5:Value),v = .agg #[iv x.Rest,v1,v2,v3,v4,v5]∧ag b8 2 (qG W) v1 x.Rows∧ag cb 2 (qG W) v2 x.aE∧ag bW 2 (qG W) v3 x.aD∧ag cc 4 (qG W) v4 x.aT∧ag bP 3 (qG W) v5 x.bj:=by
 obtain ⟨cs,rfl,_⟩:=okWide_struct underlying28 hv
 obtain ⟨fuel,hf⟩:=h
 obtain ⟨_,x,v1,v2,v3,v4,v5,h1,h2,h3,h4,h5,e⟩:=aGA.rd _ _ _ _ _ _ _ _ hf
 exact ⟨x,v1,v2,v3,v4,v5,by rw [← Array.toArray_toList (xs:=cs),show cs.toList=_ from e],h1,h2,h3,h4,h5⟩
theorem Z6(hv:Value.okWide prog W .any b0 5 v)(h:DataW.Trod enc prog W 0 (λ _=>true) true 5 v d p):∃ x:Int,v = .int .u8 x∧0≤x∧x < 256:=by
 obtain ⟨x,rfl,_,_,hw⟩:=open_int underlying5 hv h
 simp only [Lit.wf,Bool.and_eq_true,IntKind.min,IntKind.max,IntKind.signed,IntKind.bits] at hw
 simp at hw
 exact ⟨x,rfl,by omega,by omega⟩
end
theorem an0:prog.globalNamed "lagan/stint.checks"=some 0:=by kernel_rfl
theorem aHJ:(prog.globals[0]?).map (·.type)=some 180:=by kernel_rfl
abbrev JE:List (String × DataW Unit):=[("lagan/stint.checks",Rows.laid_lagan_stint_checks)]
theorem akT(os:Os)(args:Array Value):laidMetH prog JE ((World.doorLaid prog 14 os).forCall (λ _ _=>0) ⟨#[],args,[]⟩).memory :=
 laidMetH_of_parts3 (fuel:=8) (laidMet_of_run' 8 (by kernel_rfl) (by kernel_rfl)) (by kernel_rfl) (by kernel_rfl)
theorem aFx{W:World}(h:laidMetH prog JE W):jd (qG W):=by
 obtain ⟨g,t,cs,fuel,p,hg,ht,hv,hd⟩:=h.funcs (n := "lagan/stint.checks") (List.mem_cons_self ..)
 obtain rfl:=Option.some.inj (an0.symm.trans hg)
 obtain rfl:=Option.some.inj (aHJ.symm.trans ht)
 obtain ⟨xs,n,_,hx,hlen,hn,lp⟩:=DataW.trod_array underlying180 (show DataW.trod (funcToken prog) prog W 0 (λ _=>true) true fuel 180 cs.toList=some (.agg [.held [40,108,97,103,97,110,47,115,116,105,110,116,46,98,111,111,107,41,46,114,101,115,116],.held [40,108,97,103,97,110,47,115,116,105,110,116,46,98,111,111,107,41,46,116,97,98,108,101],.held [40,108,97,103,97,110,47,115,116,105,110,116,46,98,111,111,107,41,46,112,108,97,99,101,115],.held [40,108,97,103,97,110,47,115,116,105,110,116,46,98,111,111,107,41,46,109,101,110],.held [40,108,97,103,97,110,47,115,116,105,110,116,46,98,111,111,107,41,46,100,105,118,101,115],.held [40,108,97,103,97,110,47,115,116,105,110,116,46,98,111,111,107,41,46,115,111,117,110,100,105,110,103,115]],p) from hd)
 rw [show prog.cellsOf 125=1 by kernel_rfl] at lp
 have hl:cs.toList.length=6:=hlen.trans (by kernel_rfl)
 obtain ⟨cs⟩:=cs
 simp only at hl lp
 match xs,hn,cs,hl with
 | [x0,x1,x2,x3,x4,x5],_,[c0,c1,c2,c3,c4,c5],_ =>
  simp only [Prod.mk.injEq,DataW.agg.injEq,List.map_cons,List.map_nil,List.cons.injEq,and_true] at hx
  obtain ⟨⟨e0,e1,e2,e3,e4,e5⟩,_⟩:=hx
  obtain ⟨x0,q0⟩:=x0
  obtain ⟨x1,q1⟩:=x1
  obtain ⟨x2,q2⟩:=x2
  obtain ⟨x3,q3⟩:=x3
  obtain ⟨x4,q4⟩:=x4
  obtain ⟨x5,q5⟩:=x5
  simp only at e0 e1 e2 e3 e4 e5
  subst e0 e1 e2 e3 e4 e5
  obtain rfl:=func_of_trod (f0:=265) underlying125 (by kernel_rfl) (lp 0 (by decide))
  obtain rfl:=func_of_trod (f0:=266) underlying125 (by kernel_rfl) (lp 1 (by decide))
  obtain rfl:=func_of_trod (f0:=267) underlying125 (by kernel_rfl) (lp 2 (by decide))
  obtain rfl:=func_of_trod (f0:=268) underlying125 (by kernel_rfl) (lp 3 (by decide))
  obtain rfl:=func_of_trod (f0:=269) underlying125 (by kernel_rfl) (lp 4 (by decide))
  obtain rfl:=func_of_trod (f0:=270) underlying125 (by kernel_rfl) (lp 5 (by decide))
  intro j v hj
  rw [Nat.zero_add]
  refine akD ?_
  rw [World.var?_cell hg hv j]
  simpa using hj
end Go.Proofs.YtihapemckcdicaaGreatDoor
