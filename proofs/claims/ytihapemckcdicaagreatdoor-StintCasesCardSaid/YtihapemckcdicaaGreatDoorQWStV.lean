/- What able does in company; the arguments of the statements. Conditions: none. -/
import Derived.Test.YtihapemckcdicaaGreatDoorQWStF
import Derived.Test.YtihapemckcdicaaGreatDoorQWLgE
import Derived.Test.YtihapemckcdicaaGreatDoorQWStW1
import Derived.Test.YtihapemckcdicaaGreatDoorQWStG
import Derived.Test.YtihapemckcdicaaGreatDoorTie
import Derived.Stop.Joined
import Derived.LaidOnce
import Derived.ProofKit
import Derived.OpenShut
namespace Go.Proofs.YtihapemckcdicaaGreatDoor
open Go.Lg Go.Proofs Go.Conc Go.ConcN Tryz
set_option maxRecDepth 100000
set_option maxHeartbeats 4000000
section
variable {B:Base} {R:az} {H:ah} {Post:Value→World→Prop}
abbrev pt(b:Nat):Value:=.pointer (some ⟨b,0,none⟩)
def s5(a:Nat→Nat→Bool)(js:Nat→Nat):List Bool:=(List.range 16).map λ p=>decide (p / 4 < js (p % 4)) && a (p / 4) (p % 4)
theorem akv(a:Nat→Nat→Bool)(js:Nat→Nat):nN a js=[]++((s5 a js).map Value.bool++[]):=by simp [nN,s5]
theorem akw(a:Nat→Nat→Bool)(js:Nat→Nat):(s5 a js).length=16:=by simp [s5]
theorem aOn{a:Nat→Nat→Bool}{js:Nat→Nat}{k j:Nat}(hk:k < 4)(hj:j < 4)(iK:js k=j):nN a (gJ js k (j+1))=[]++((qL 4 (s5 a js) (j:Int) (k:Int) (a j k)).map Value.bool++[]):=by
 rw [aOo hk hj iK,akv]
 simp only [qL,List.map_set,eD,List.nil_append,List.append_nil]
 rw [Nat.mul_comm]
theorem aPP{a:Nat→Nat→Bool}{js:Nat→Nat}{k j:Nat}(hk:k < 4)(hj:j < 4):∃ pk dO,iB 4 (s5 a js) (j:Int)=some pk∧idx pk (k:Int)=some dO:=by
 have h1:iB 4 (s5 a js) (j:Int)=some (((s5 a js).drop (j * 4)).take 4):=by
  unfold iB
  rw [if_pos ⟨by omega,by rw [akw]; simp; omega⟩]
  simp
 have hl:=pP h1
 exact ⟨_,(((s5 a js).drop (j * 4)).take 4)[k]'(by omega),h1,by rw [cF]; exact lz (by omega)⟩
noncomputable def lY(B:Base)(Post:Value→World→Prop)(bm bw bo N J:Nat)(a:Nat→Nat→Bool)(ho:bm≠bw∧bm≠bo∧bw≠bo)(hJ:0 < J)(hN:N≤4):Fx :=
 { P:=prog,B:=B,bm:=bm,bw:=bw,bo:=bo,tm:=194,tw:=201,N:=N,J:=J,cont:=λ js=>.cells (nN a js).toArray 145 (0,0),ho:=ho,hJ:=hJ,hN:=hN,mj:=jr prog B Post }
structure xf (R:az) (b:Nat) (x:cI) (v1 v2 v3 v4 v5 v6:Value):Prop where
 c:aU R [] b 0 [iv x.book.Rest,v1,v2,v3,v4,v5,v6]
 h1:aa cc 2 R v1 x.book.Rows
 h2:aa cj 2 R v2 x.book.aQ
 h3:aa cb 2 R v3 x.book.aB
 h4:aa cp 4 R v4 x.book.aA
 h5:aa bV 3 R v5 x.book.bh
 h6:aa gi 3 R v6 x.fH
theorem xf.up{R R':az}{b:Nat}{x:cI}{v1 v2 v3 v4 v5 v6:Value}(h:xf R b x v1 v2 v3 v4 v5 v6)(hR:aR R R'):xf R' b x v1 v2 v3 v4 v5 v6 :=
 ⟨h.c.up hR,h.h1.mono hR,h.h2.mono hR,h.h3.mono hR,h.h4.mono hR,h.h5.mono hR,h.h6.mono hR⟩
theorem aj7{α β:Type}{f:α→Option β}:∀ {xs:List α} {ys:List β},xs.mapM f=some ys→ys.length=xs.length∧∀ (i:Nat) (x:α),xs[i]? = some x→∃ y,ys[i]? = some y∧f x=some y
 | [],ys,h=>by
  simp at h; subst h
  exact ⟨rfl,λ i x hx=>by simp at hx⟩
 | a::xs,ys,h=>by
  rw [List.mapM_cons] at h
  cases ha:f a with
  | none=>rw [ha] at h; simp at h
  | some b =>
   cases hr:xs.mapM f with
   | none=>rw [ha,hr] at h; simp at h
   | some bs =>
    rw [ha,hr] at h
    simp at h
    subst h
    obtain ⟨h1,h2⟩:=aj7 hr
    refine ⟨by simp [h1],λ i x hx=>?_⟩
    cases i with
    | zero=>simp at hx; subst hx; exact ⟨b,rfl,ha⟩
    | succ i=>exact h2 i x (by simpa using hx)
noncomputable def HZ:Code:=(yi (Tryz.f170.body.getD .skip)).getD .skip
variable {x0:cI} {v1 v2 v3 v4 v5 v6:Value} {bm bw bo N J:Nat} {a:Nat→Nat→Bool} {ho:bm≠bw∧bm≠bo∧bw≠bo} {hJ:0 < J} {hN:N≤4} {b1 bk k:Nat}
theorem auX{tmps:Array Value}{st:St}(ht:de 30 st tmps)(todo:List Item):Gone (bc (jL ⟨170,.deferred,none,30,[],[AS prog]⟩ tmps todo) [AS prog]) :=
 QJ.afe (J:=Am prog 0) func170 ht rfl (.inr rfl) ⟨1,aO8⟩
noncomputable abbrev adq (bw:Nat):Ctx:=⟨170,.deferred,none,30,[dcall 171 #[.pointer (some ⟨bw,0,none⟩)]],[AS prog]⟩
noncomputable abbrev Oh (b1 bk bm bw bo J j:Nat):St:=[(0,pt bw),(1,pt b1),(2,pt bk),(3,pt bm),(4,pt bo),(11,iv (J:Int)),(12,iv (j:Int))]
theorem amA(hB:∀ w:World,B.os w.os→B.os w.later.os)(tO:J≤4)(hk:k < N){j:Nat}(hj:j < J)(ha:ub x0 j k=some (a j k))
  (again:j+1 < J→∀ (n:Nat) (R:az),xf R b1 x0 v1 v2 v3 v4 v5 v6→aU R [] bk 0 [iv (k:Int)]→At (WJ (lY B Post bm bw bo N J a ho hJ hN) n k (j+1) .ld) (adq bw) R [] (Oh b1 bk bm bw bo J (j+1)) [.code HZ,.inLoop HZ,.inBlock 0])
  (n:Nat) (R:az) (hO:xf R b1 x0 v1 v2 v3 v4 v5 v6) (fl:aU R [] bk 0 [iv (k:Int)]):At (WJ (lY B Post bm bw bo N J a ho hJ hN) n k j .ld) (adq bw) R [] (Oh b1 bk bm bw bo J j) [.code HZ,.inLoop HZ,.inBlock 0]:=by
 obtain ⟨cO,fc,eE,fe,eV,ff,iX⟩:=hO
 refine At.seq ?_
 refine At.rg [0] ?_
 refine At.vs 1 rfl rfl ?_
 refine At.aV ?_
 refine At.seq ?_
 refine At.fX rfl (by simp; omega) ?_
 refine At.skip ?_
 refine At.seq ?_
 refine At.aZ ?_
 refine At.seq ?_
 refine At.rg [0,1,2] ?_
 refine At.vs 1 rfl rfl ?_
 refine At.jb rfl rfl rfl (Ox.alloc (cs:=#[iv 0]) rfl Gz rfl λ b5 _ _=>⟨_,(.put rfl),?_⟩)
 refine At.jb rfl rfl rfl (Ox.kM (cs':=#[_]) rfl rfl rfl aW rfl .here rfl rfl rfl (.refl _) ?_)
 refine At.aV ?_
 refine At.rh (H2:=[]) (λ X=>X++[]) .id rfl (λ Rf vr Qz=>?_)
 replace cO:=cO.up (H:=[]) vr
 replace fl:=fl.up (H:=[]) vr
 replace fc:=fc.mono vr
 replace eE:=eE.mono vr
 replace fe:=fe.mono vr
 replace eV:=eV.mono vr
 replace ff:=ff.mono vr
 replace iX:=iX.mono vr
 refine At.seq ?_
 obtain ⟨df,gB,he⟩:∃ df,wi x0 (λ y=>Ct y x0 (k:Int) (j:Int))=some df∧(df == (x0.fH.length:Int))=a j k:=by
  unfold ub at ha
  obtain ⟨x,h1,h2⟩:=ag ha
  exact ⟨x,h1,av h2⟩
 refine At.dw fQ mixed ?_
 refine Any.tk 0 rfl (λ _ h=>h) (λ R' H' hR hS=>Ox.cG (vs:=[_,_,_,_,_,_,_]) rfl rfl eo rfl (((cO.le hR).sub (λ p h=>hS p ((λ _ h=>h) p h))).part (j:=0) (n:=7) rfl) rfl (.one rfl) ⟨rfl,rfl,rfl⟩) ?_
 refine Any.tk 1 rfl (λ _ h=>h) (λ R' H' hR hS=>Ox.makeFunc (vs:=#[]) (us:=#[_,_,_]) rfl rfl rfl rfl (.one rfl) ⟨rfl,rfl,rfl⟩) ?_
 refine Any.vs 1 [3] rfl ?_
 refine Any.tk 4 rfl (λ _ h=>h) (λ R' H' hR hS=>Ox.sP rfl rfl sZ (((cO.le hR).sub (λ p h=>hS p ((λ _ h=>h) p h))).one (j:=6) rfl) rfl (.one rfl) ⟨rfl,rfl,rfl⟩) ?_
 refine Any.tk 5 rfl (λ _ h=>h) (λ R' H' hR hS=>Ox.uf (K:=gi) (k:=3) (xs:=x0.fH) rfl rfl (iX.mono hR) underlying111 rfl (.one rfl) ⟨rfl,rfl,rfl⟩) ?_
 refine Any.cv 2 PU (RY x0 (λ y=>Ct y x0 (k:Int) (j:Int)) fc eE fe eV ff iX ⟨172,#[],#[_,_,_],rfl,arU,λ R' H' hR hH y r va hA hr=>by obtain ⟨_,rfl,⟨wc,rfl⟩⟩:=hA; exact (aL2 y x0 (k:Int) (j:Int) wc ((cO.le hR).sub (λ p h=>hH p ((λ _ h=>h) p h))) (fc.mono hR) (eE.mono hR) (fe.mono hR) (eV.mono hR) (ff.mono hR) (iX.mono hR) ((fl.le hR).sub (λ p h=>hH p ((λ _ h=>h) p h))) ((Qz.le hR).sub (λ p h=>hH p ((λ _ h=>h) p h))) hr).mono λ _ _ _ ⟨h1,h2,h3⟩=>⟨h1 ▸ aR.refl _,h2.symm,h3⟩⟩ gB) ?_
 rintro _ GI _ ⟨im,rfl,rfl⟩
 replace fc:=fc.mono im
 replace eE:=eE.mono im
 replace fe:=fe.mono im
 replace eV:=eV.mono im
 replace ff:=ff.mono im
 replace iX:=iX.mono im
 replace cO:=cO.le im
 replace fl:=fl.le im
 replace Qz:=Qz.le im
 refine ⟨im,(aJR (λ _ h=>h)),?_⟩
 refine Any.vs 2 [6,7] rfl ?_
 refine Any.done ?_
 refine At.sub (st':=(6,.bool (a j k))::(5,pt b5)::Oh b1 bk bm bw bo J j) (cx.sub ⟨congrArg (λ z=>some (Value.bool z)) he,rfl,rfl,rfl,rfl,rfl,rfl,rfl,rfl,trivial⟩) ?_
 refine At.seq ?_
 refine At.rg [0] ?_
 refine At.yl rfl rfl rfl rfl rfl arV rfl (aK0 (F:=lY B Post bm bw bo N J a ho hJ hN) hB n) λ bg bp n js iK=>(?_:At (WJ (lY B Post bm bw bo N J a ho hJ hN) n k j (.ul js)) _ _ _ _ _) bg bp
 refine At.aV ?_
 refine At.seq ?_
 obtain ⟨pk,dO,tX,gf⟩:=aPP (a:=a) (js:=js) (k:=k) (j:=j) (by omega) (by omega)
 have l4:=akw a js
 show At _ _ _ [(bo,.cells (nN a js).toArray 145 (0,0))] _ _
 rw [akv]
 refine At.draw (n:=6) (is:=[0,1,2,3,4,5]) (many ((bo,.cells (List.toArray ([]++((s5 a js).map Value.bool++[]))) 145)::[]) [(5,[])]) mixed rfl (by decide +kernel) rfl rfl ?_
 refine Any.FQ (i:=0) [3,4,5] rfl rfl rfl (by decide +kernel) (aT rfl (bK (λ _ h=>(List.Sublist.subset (List.Sublist.cons _ (List.Sublist.refl _))) h))) (λ _ h=>(List.Sublist.subset (List.Sublist.cons _ (List.Sublist.refl _))) h) (λ R' H' hR hS=>Ox.sP rfl rfl aW (((Qz.le hR).sub (λ p h=>hS p ((λ _ h=>h) p h))).one (j:=0) rfl) rfl (.one rfl) ⟨rfl,rfl,rfl⟩) (.refl _) (by decide) (qG:=[1,2,3,4,5]) rfl ?_
 refine Any.FQ (i:=1) [4,5] rfl rfl rfl (by decide +kernel) (aT rfl (bK (λ _ h=>(List.Sublist.subset (List.Sublist.cons _ (List.Sublist.refl _))) h))) (λ _ h=>(List.Sublist.subset (List.Sublist.cons _ (List.Sublist.refl _))) h) (λ R' H' hR hS=>Ox.sP rfl rfl aW (((fl.le hR).sub (λ p h=>hS p ((λ _ h=>h) p h))).one (j:=0) rfl) rfl (.one rfl) ⟨rfl,rfl,rfl⟩) (.refl _) (by decide) (qG:=[2,3,4,5]) rfl ?_
 refine Any.vs 1 [2] rfl ?_
 refine Any.FQ (i:=3) [4,5] rfl rfl rfl (by decide +kernel) (aT rfl (bK (λ _ h=>(List.Sublist.subset (List.Sublist.cons _ (List.Sublist.refl _))) h))) (λ _ h=>(List.Sublist.subset (List.Sublist.cons _ (List.Sublist.refl _))) h) (λ R' H' hR hS=>Ox.RF rfl rfl rfl (yh xj l4 (by decide) tX) rfl (.one rfl) ⟨rfl,rfl,rfl⟩) (.refl _) (by decide) (qG:=[4,5]) rfl ?_
 refine Any.FQ (i:=4) [5] rfl rfl rfl (by decide +kernel) (aT rfl (bK (λ _ h=>(List.Sublist.subset (List.Sublist.cons _ (List.Sublist.refl _))) h))) (λ _ h=>(List.Sublist.subset (List.Sublist.cons _ (List.Sublist.refl _))) h) (λ R' H' hR hS=>Ox.RF rfl rfl rfl (pL rV (pP tX) gf) rfl (.one rfl) ⟨rfl,rfl,rfl⟩) (.refl _) (by decide) (qG:=[5]) rfl ?_
 refine Any.on 5 rfl rfl (bf.to (Ox.kM rfl rfl rfl iM rfl .here (Vg tX gf rfl) (Vi tX gf rfl) rfl (.refl _) ⟨aR.refl _,(dH rfl (λ _ h=>(List.Sublist.subset (List.Sublist.cons _ (List.Sublist.refl _))) h)),?_⟩))
 refine Any.done ?_
 rw [← aOn (a:=a) (by omega) (by omega) iK]
 refine At.rg [0] ?_
 have ey:i64 ((j:Int)+1)=((j+1:Nat):Int):=by rw [RB (by omega)]; omega
 refine At.yl rfl rfl rfl rfl rfl arW rfl (aQP (F:=lY B Post bm bw bo N J a ho hJ hN) (js:=js) (show j+1≤J by omega) n) λ bg bp=>⟨λ h n=>(?_:At (WJ (lY B Post bm bw bo N J a ho hJ hN) n k (j+1) .ld) _ _ _ _ _) bg bp,λ h n=>(?_:At (WJ (lY B Post bm bw bo N J a ho hJ hN) n k (j+1) .wv) _ _ _ _ _) bg bp⟩
 ·refine At.aV ?_
  refine At.bI ?_
  refine At.rg [0,1] ?_
  refine At.vs 2 rfl rfl ?_
  refine At.aV ?_
  refine At.inLoop ?_
  refine At.sub ?_ (again h n _ ⟨cO,fc,eE,fe,eV,ff,iX⟩ fl)
  exact cx.sub ⟨rfl,rfl,rfl,rfl,rfl,rfl,congrArg (λ z=>some (iv z)) ey,trivial⟩
 ·have hJe:j+1=J:=h
  refine At.aV ?_
  refine At.bI ?_
  refine At.rg [0,1] ?_
  refine At.vs 2 rfl rfl ?_
  refine At.aV ?_
  refine At.inLoop ?_
  refine At.sub (st':=Oh b1 bk bm bw bo J (j+1)) (cx.sub ⟨rfl,rfl,rfl,rfl,rfl,rfl,congrArg (λ z=>some (iv z)) ey,trivial⟩) ?_
  refine At.seq ?_
  refine At.rg [0] ?_
  refine At.vs 1 rfl rfl ?_
  refine At.aV ?_
  refine At.seq ?_
  refine At.eU rfl (by simp; omega) ?_
  refine At.cu rfl ?_
  refine At.toEnd rfl λ tmps ht=>?_
  exact Jd.unwind rfl func171 rfl rfl (ara (F:=lY B Post bm bw bo N J a ho hJ hN) (.inl rfl) (auX ht _) n)
theorem amz(hB:∀ w:World,B.os w.os→B.os w.later.os)(tO:J≤4)(hk:k < N)(ha:∀ j,j < J→ub x0 j k=some (a j k)):∀ (m j:Nat),J=j+m+1→∀ (n:Nat) (R:az),xf R b1 x0 v1 v2 v3 v4 v5 v6→aU R [] bk 0 [iv (k:Int)] →
  At (WJ (lY B Post bm bw bo N J a ho hJ hN) n k j .ld) (adq bw) R [] (Oh b1 bk bm bw bo J j) [.code HZ,.inLoop HZ,.inBlock 0]
 | 0,j,hm,n,R,hO,hc=>amA hB tO hk (by omega) (ha j (by omega)) (λ h=>by omega) n R hO hc
 | m+1,j,hm,n,R,hO,hc=>amA hB tO hk (by omega) (ha j (by omega)) (λ _ n R hO hc=>amz hB tO hk ha m (j+1) (by omega) n R hO hc) n R hO hc
theorem aRQ(hB:∀ w:World,B.os w.os→B.os w.later.os)(tO:J≤4)(DW:x0.book.aA.length=J)(hk:k < N)(ha:∀ j,j < J→ub x0 j k=some (a j k))(n:Nat){R:az}(hO:xf R b1 x0 v1 v2 v3 v4 v5 v6)(hc:aU R [] bk 0 [iv (k:Int)]) :
  Own prog B false (KW (FT (lY B Post bm bw bo N J a ho hJ hN)) n k 0 .ld) R [] (bc (Frame.enter prog 170 (#[]++#[pt bw,pt b1,pt bk,pt bm,pt bo]) .deferred) [AS prog]):=by
 refine Jd.enter (ab:=WJ (lY B Post bm bw bo N J a ho hJ hN) n k 0 .ld) (args:=[pt bw,pt b1,pt bk,pt bm,pt bo]) func170 rfl (m:=30) rfl rfl ?_
 refine At.seq ?_
 refine At.rg [0] ?_
 refine At.defer rfl rfl rfl rfl rfl rfl rfl (.Sp rfl) ?_
 refine At.aV ?_
 refine At.seq ?_
 refine At.rg [0,1,2,3,4,5] ?_
 refine At.vs 3 rfl rfl ?_
 refine At.jb rfl rfl rfl (Ox.sP rfl rfl iA (hO.c.any.one (j:=4) rfl) rfl (.put rfl) ?_)
 refine At.jb rfl rfl rfl (Ox.uf (K:=cp) (k:=4) (xs:=x0.book.aA) rfl rfl hO.h4 underlying25 rfl (.put rfl) ?_)
 refine At.vs 1 rfl rfl ?_
 refine At.aV ?_
 refine At.aZ ?_
 refine At.enterLoop ?_
 refine At.sub ?_ (amz (m:=J - 1) (j:=0) hB tO hk ha (by omega) n R hO hc)
 exact cx.sub ⟨rfl,rfl,rfl,rfl,rfl,by rw [← DW]; rfl,rfl,trivial⟩
noncomputable def HY:Code:=(yi (Tryz.f123.body.getD .skip)).getD .skip
abbrev Sb(b1 b2 bo bm bw:Nat):St:=[(1,pt b1),(2,pt b2),(3,pt bo),(4,pt bm),(5,pt bw)]
theorem alp{c:Ctx}(fw:c.n=20)(BK:c.kind = .normal)(BL:c.ro=none){b2:Nat}{H0:ah}{K:List Item}(hB:∀ w:World,B.os w.os→B.os w.later.os)(tO:J≤4)(DW:x0.book.aA.length=J)(ha:∀ j k,j < J→k < N→ub x0 j k=some (a j k)){r i n:Nat}{R':az}(hi:N=i+r+1)
  (next:∀ (n:Nat) (cY:az),aR R' cY→At (gF (lY B Post bm bw bo N J a ho hJ hN) n (lg r)) c cY H0 ((11,iv (N:Int))::(12,iv ((i+1:Nat):Int))::Sb b1 b2 bo bm bw) (.code HY :: .inLoop HY :: .inBlock 0::K))
  (hO:xf R' b1 x0 v1 v2 v3 v4 v5 v6) :
  At (gF (lY B Post bm bw bo N J a ho hJ hN) n (.ka r)) c R' H0 ((11,iv (N:Int))::(12,iv (i:Int))::Sb b1 b2 bo bm bw) (.code HY :: .inLoop HY :: .inBlock 0::K):=by
 obtain ⟨cf,ck,cr,cn,cd,ccs⟩:=c
 simp only at fw BK BL
 subst fw BK BL
 refine At.seq ?_
 refine At.rg [0] ?_
 refine At.vs 1 rfl rfl ?_
 refine At.aV ?_
 refine At.seq ?_
 refine At.fX rfl (by simp; omega) ?_
 refine At.skip ?_
 refine At.seq ?_
 refine At.aZ ?_
 refine At.seq ?_
 refine At.rg [0,1,2] ?_
 refine At.vs 1 rfl rfl ?_
 refine At.jb rfl rfl rfl (Ox.alloc (cs:=#[iv 0]) rfl Gz rfl λ b6 _ _=>⟨_,(.put rfl),?_⟩)
 refine At.jb rfl rfl rfl (Ox.kM (cs':=#[_]) rfl rfl rfl aW rfl .here rfl rfl rfl (.refl _) ?_)
 refine At.aV ?_
 refine At.rh (H2:=H0) (λ X=>X++H0) .id rfl (λ Rf vr hc6=>?_)
 replace hO:=hO.up vr
 refine At.seq ?_
 refine At.rg [0] ?_
 refine At.yl rfl rfl rfl rfl rfl agu rfl (aND (F:=lY B Post bm bw bo N J a ho hJ hN) r n) λ bg bp n=>(?_:At (gF (lY B Post bm bw bo N J a ho hJ hN) n (.go r)) _ _ _ _ _) bg bp
 refine At.aV ?_
 refine At.rg [0,1] ?_
 refine At.jb rfl rfl rfl (Ox.makeFunc (vs:=#[]) (us:=#[_,_,_,_,_]) rfl rfl rfl rfl (.put rfl) ?_)
 have ey:i64 ((i:Int)+1)=((i+1:Nat):Int):=by rw [RB (by omega)]; omega
 refine sM λ m hm=>KM.spawn (F:=FT (lY B Post bm bw bo N J a ho hJ hN)) (d:=⟨.fn (.func 170) #[pt bw,pt b1,pt b6,pt bm,pt bo],#[]⟩) rfl rfl rfl (aPs rfl rfl rfl) rfl rfl ?_ λ bg bp=>(?_:At (gF (lY B Post bm bw bo N J a ho hJ hN) m (lg r)) _ _ _ _ _) bg bp
 ·refine Own.child rfl (aQ4 arT) ?_
  have ei:N - (r+1)=i:=by omega
  show Own _ _ _ (KW _ m (N - (r+1)) 0 .ld) _ _ _
  rw [ei]
  exact aRQ (k:=i) hB tO DW (by omega) (λ j hj=>ha j i hj (by omega)) m hO hc6
 ·refine At.aV ?_
  refine At.bI ?_
  refine At.rg [0,1] ?_
  refine At.vs 2 rfl rfl ?_
  refine At.aV ?_
  refine At.inLoop ?_
  refine At.sub ?_ (next m Rf vr)
  exact cx.sub ⟨rfl,congrArg (λ z=>some (iv z)) ey,rfl,rfl,rfl,rfl,rfl,trivial⟩
theorem alo{c:Ctx}(fw:c.n=20)(BK:c.kind = .normal)(BL:c.ro=none){b2:Nat}{H0:ah}{K:List Item}(hB:∀ w:World,B.os w.os→B.os w.later.os)(tO:J≤4)(DW:x0.book.aA.length=J)(ha:∀ j k,j < J→k < N→ub x0 j k=some (a j k))
  (ah1:∀ (n:Nat) (R':az),aR R R'→At (gF (lY B Post bm bw bo N J a ho hJ hN) n .wa) c R' H0 (Sb b1 b2 bo bm bw) K):∀ (r i n:Nat) (R':az),N=i+r+1→aR R R'→xf R' b1 x0 v1 v2 v3 v4 v5 v6 →
  At (gF (lY B Post bm bw bo N J a ho hJ hN) n (.ka r)) c R' H0 ((11,iv (N:Int))::(12,iv (i:Int))::Sb b1 b2 bo bm bw) (.code HY :: .inLoop HY :: .inBlock 0::K)
 | 0,i,n,R',hi,hR,hO=>alp fw BK BL hB tO DW ha hi (λ n cY tP=>by
   obtain ⟨cf,ck,cr,cn,cd,ccs⟩:=c
   simp only at fw BK BL
   subst fw BK BL
   refine At.seq ?_
   refine At.rg [0] ?_
   refine At.vs 1 rfl rfl ?_
   refine At.aV ?_
   refine At.seq ?_
   refine At.eU rfl (by rw [decide_eq_false_iff_not]; omega) ?_
   refine At.cu rfl ?_
   refine At.sub ?_ (ah1 n cY (hR.trans tP))
   exact cx.sub ⟨rfl,rfl,rfl,rfl,rfl,trivial⟩) hO
 | r+1,i,n,R',hi,hR,hO=>alp fw BK BL hB tO DW ha hi (λ n cY tP=>alo fw BK BL hB tO DW ha ah1 r (i+1) n cY (by omega) (hR.trans tP) (hO.up tP)) hO
theorem aoW{x0:cI}{r:List Bool}(WG:x0.book.aA.length≤4)(KZ:x0.book.aB.length≤4)
  (hr:(((List.range 16).mapM λ (p:Nat)=>if p / 4 < x0.book.aA.length∧p % 4 < x0.book.aB.length then ub x0 (p / 4) (p % 4) else some false):Option (List Bool))=some r) :
  ∃ a:Nat→Nat→Bool,r.length=16∧(∀ i k,i < x0.book.aA.length→k < x0.book.aB.length→ub x0 i k=some (a i k))∧∀ js,(∀ k,k < x0.book.aB.length→js k=x0.book.aA.length)→nN a js=[]++(r.map Value.bool++[]):=by
 obtain ⟨hlen,vy⟩:=aj7 hr
 rw [List.length_range] at hlen
 have QD:∀ i k,i < 4→k < 4→∃ y,r[4 * i+k]? = some y∧(if i < x0.book.aA.length∧k < x0.book.aB.length then ub x0 i k else some false)=some y:=λ i k hi hk=>by
  obtain ⟨y,g1,g2⟩:=vy (4 * i+k) (4 * i+k) (List.getElem?_range (by omega))
  rw [show (4 * i+k) / 4=i by omega,show (4 * i+k) % 4=k by omega] at g2
  exact ⟨y,g1,g2⟩
 refine ⟨λ i k=>(r[4 * i+k]?).getD false,hlen,λ i k hi hk=>?_,λ js iK=>?_⟩
 ·obtain ⟨y,g1,g2⟩:=QD i k (by omega) (by omega)
  rw [if_pos ⟨hi,hk⟩] at g2
  rw [g2]
  show some y=some ((r[4 * i+k]?).getD false)
  rw [g1]; rfl
 ·apply List.ext_getElem?
  intro p
  rcases Nat.lt_or_ge p 16 with hp | hp
  ·rw [aco hp]
   obtain ⟨y,g1,g2⟩:=QD (p / 4) (p % 4) (by omega) (by omega)
   rw [show 4 * (p / 4)+p % 4=p by omega] at g1
   simp only [List.nil_append,List.append_nil,List.getElem?_map,show 4 * (p / 4)+p % 4=p by omega,g1,Option.map_some,nm]
   by_cases zt:p / 4 < x0.book.aA.length∧p % 4 < x0.book.aB.length
   ·rw [iK _ zt.2,fN zt.1,Bool.true_and]
   ·rw [if_neg zt] at g2
    rw [← av g2,Bool.and_false]
  ·rw [List.getElem?_eq_none (by simp [nN]; exact hp),List.getElem?_eq_none (by simp [hlen]; exact hp)]
theorem aoX(hB:∀ w:World,B.os w.os→B.os w.later.os):yX (Fu prog B Post):=by
 intro R H x0 v1 v2 v3 v4 v5 v6 h1 h2 h3 h4 h5 h6 r hr
 unfold yn at hr
 split at hr
 case isFalse=>cases hr
 rename_i hc
 obtain ⟨⟨WE,WG⟩,hN0,KZ⟩:=hc
 obtain ⟨a,hlen,ha,aAL⟩:=aoW WG KZ hr
 refine bd.oZ (args:=[.agg #[iv x0.book.Rest,v1,v2,v3,v4,v5,v6]]) func123 rfl (n:=20) rfl rfl λ fr cs hk=>?_
 refine At.seq ?_
 refine At.rg [0,1] ?_
 refine At.jb rfl rfl rfl (Ox.afk rfl rfl rfl λ b1 _ _=>⟨_,(.put rfl),?_⟩)
 refine At.jb rfl rfl rfl (Ox.alloc (cs:=#[.bool false,.bool false,.bool false,.bool false,.bool false,.bool false,.bool false,.bool false,.bool false,.bool false,.bool false,.bool false,.bool false,.bool false,.bool false,.bool false]) rfl iT rfl λ b2 _ _=>⟨_,(.put rfl),?_⟩)
 refine At.aV ?_
 refine At.seq ?_
 refine At.rg [0] ?_
 refine At.jb rfl rfl rfl (Ox.alloc (cs:=#[.bool false,.bool false,.bool false,.bool false,.bool false,.bool false,.bool false,.bool false,.bool false,.bool false,.bool false,.bool false,.bool false,.bool false,.bool false,.bool false]) rfl iT rfl λ b3 _ n3=>⟨_,(.put rfl),?_⟩)
 refine At.aV ?_
 refine At.seq ?_
 refine At.rg [0] ?_
 refine At.jb rfl rfl rfl (Ox.alloc (cs:=#[.int .i32 0,.int .u32 0]) rfl aRZ rfl λ b4 _ n4=>⟨_,(.put rfl),?_⟩)
 refine At.aV ?_
 refine At.seq ?_
 refine At.rg [0] ?_
 refine At.jb rfl rfl rfl (Ox.alloc (cs:=#[.int .u64 0,.int .u32 0]) rfl aR0 rfl λ b5 _ n5=>⟨_,(.put rfl),?_⟩)
 refine At.aV ?_
 have ho:b4≠b5∧b4≠b3∧b5≠b3:=⟨λ e=>by subst e; exact n5 _ (List.mem_cons_self),λ e=>by subst e; exact n4 _ (List.mem_cons_self),λ e=>by subst e; exact n5 _ (List.mem_cons_of_mem _ (List.mem_cons_self))⟩
 clear n3 n4 n5
 refine At.seq ?_
 refine At.seq ?_
 refine At.rg [0,1,2,3,4,5] ?_
 refine At.vs 3 rfl rfl ?_
 refine At.jb rfl rfl rfl (Ox.sP rfl rfl jV ((aU.box (L:=[iv x0.book.Rest,v1,v2,v3,v4,v5,v6]) (.tail _ (.tail _ (.tail _ (.tail _ (.head _)))))).one (j:=3) rfl) rfl (.put rfl) ?_)
 refine At.jb rfl rfl rfl (Ox.uf (K:=cb) (k:=2) (xs:=x0.book.aB) rfl rfl h3 underlying24 rfl (.put rfl) ?_)
 refine At.vs 1 rfl rfl ?_
 refine At.aV ?_
 refine At.aZ ?_
 refine At.rh (H2:=(b5,_)::(b4,_)::(b3,_)::(b2,_)::H) (λ X=>(b5,_)::(b4,_)::(b3,_)::(b2,_)::X++H) (.cons (.cons (.cons (.cons .id)))) rfl (λ R1 DX cO=>?_)
 have hO:xf R1 b1 x0 v1 v2 v3 v4 v5 v6:=⟨cO,h1.mono DX,h2.mono DX,h3.mono DX,h4.mono DX,h5.mono DX,h6.mono DX⟩
 refine At.enterLoop ?_
 refine At.perm (H':=(b3,_)::(b5,_)::(b4,_)::(b2,_)::H) ((List.Perm.swap _ _ _).trans (List.Perm.cons _ (List.Perm.swap _ _ _))) ?_
 have e0:Obj.cells (nN a λ _=>0).toArray 145 (0,0)=Obj.cells #[.bool false,.bool false,.bool false,.bool false,.bool false,.bool false,.bool false,.bool false,.bool false,.bool false,.bool false,.bool false,.bool false,.bool false,.bool false,.bool false] 145 (0,0):=by rw [aOp]; rfl
 rw [← e0]
 intro tmps ht
 refine jr.crowd (F:=lY B Post b4 b5 b3 x0.book.aB.length x0.book.aA.length a ho WE KZ) (r:=x0.book.aB.length - 1) rfl (show x0.book.aB.length=x0.book.aB.length - 1+1 by omega) λ n=>?_
 refine (?_:At (gF (lY B Post b4 b5 b3 x0.book.aB.length x0.book.aA.length a ho WE KZ) n (.ka (x0.book.aB.length - 1))) _ _ _ _ _) tmps ht
 refine At.sub ?_ (alo (c:=⟨123,.normal,none,20,[],fr::cs⟩) (b2:=b2) (R:=R1) rfl rfl rfl hB WG rfl ha (λ n R' K0=>?_) (x0.book.aB.length - 1) 0 n R1 (by omega) (aR.refl _) hO)
 ·exact cx.sub ⟨rfl,rfl,rfl,rfl,rfl,rfl,rfl,trivial⟩
 ·refine At.seq ?_
  refine At.rg [0] ?_
  refine At.yl rfl rfl rfl rfl rfl arX rfl (aRI (F:=lY B Post b4 b5 b3 x0.book.aB.length x0.book.aA.length a ho WE KZ) (Post:=Post) rfl n) λ bg bp js iK=>(?_:At (Fu prog B Post) _ _ _ _ _) bg bp
  refine At.aV ?_
  refine At.seq ?_
  show At _ _ _ ((b3,.cells (nN a js).toArray 145 (0,0))::_) _ _
  rw [aAL js iK]
  refine At.rg [0,1] ?_
  refine At.jb rfl rfl rfl (Ox.cG (vs:=_) rfl rfl db (by simp [hlen]) ((aU.box (.head _)).part (j:=0) (n:=16) (fE (by simp [hlen]))) rfl (.put rfl) ?_)
  refine At.jb rfl rfl rfl (Ox.gg (cs':=_) rfl rfl rfl db (by simp [hlen]) (fC cH (fC (ma λ _=>rfl) cH)) (.there .here) (by simp [nN]) (lR (by simp [hlen,nN])) rfl (.refl _) ?_)
  refine At.aV ?_
  exact At.FJ func123 (.agg rfl db (by simp [hlen]) (aU.box (.tail _ (.head _))) .nil) (J.drop (List.Sublist.cons _ (List.Sublist.cons _ (List.Sublist.refl _))) (hk _ _ _ ⟨DX.trans K0,rfl,hlen,rfl⟩))
end
open Go.ChangeShapes Go.WideShapes Go.ChangeAt Go.RowKit
theorem s9:gH prog 3 (CI .i64) 1:=gH.int (by kernel_rfl) underlying3
theorem aPn:gH prog 9 CS 1:=gH.str (by kernel_rfl) underlying9
def CBo:cM Bool:=λ _ x es=>es=[.bool x]
theorem aPj:gH prog 4 CBo 1:=⟨by kernel_rfl,λ W T enc sp held fuel cs x h=>by
 obtain ⟨b,rfl,_⟩:=DataW.trod_bool underlying4 h
 exact ⟨rfl,b,rfl⟩⟩
theorem aPi:gH prog 36 (fi (CI .i64) 1) 1:=gH.slice (by kernel_rfl) underlying36 (by decide) s9
theorem aPh:gH prog 29 (fi (fi (CI .i64) 1) 1) 1:=gH.slice (by kernel_rfl) underlying29 (by decide) aPi
theorem aPk:gH prog 41 cj 2:=⟨by kernel_rfl,λ W T enc sp held fuel cs x h=>by
 obtain ⟨xs,n,_,_,hl,hx,hf⟩:=DataW.trod_struct underlying41 h
 have hc:cs.length=2:=hl.trans (by kernel_rfl)
 match cs,hc with
 | [c0,c1],_ =>
  obtain ⟨a0,h0⟩:=s9.field [c0] hx (hf 0 _ rfl)
  obtain ⟨a1,h1⟩:=s9.field [c1] hx (hf 1 _ rfl)
  cases h0; cases h1
  exact ⟨rfl,⟨a0,a1⟩,rfl⟩⟩
theorem aPm:gH prog 64 cc 2:=⟨by kernel_rfl,λ W T enc sp held fuel cs x h=>by
 obtain ⟨xs,n,_,_,hl,hx,hf⟩:=DataW.trod_struct underlying64 h
 have hc:cs.length=2:=hl.trans (by kernel_rfl)
 match cs,hc with
 | [c0,c1],_ =>
  obtain ⟨a0,h0⟩:=s9.field [c0] hx (hf 0 _ rfl)
  obtain ⟨a1,h1⟩:=s9.field [c1] hx (hf 1 _ rfl)
  cases h0; cases h1
  exact ⟨rfl,⟨a0,a1⟩,rfl⟩⟩
theorem aPo:gH prog 93 cb 2:=⟨by kernel_rfl,λ W T enc sp held fuel cs x h=>by
 obtain ⟨xs,n,_,_,hl,hx,hf⟩:=DataW.trod_struct underlying93 h
 have hc:cs.length=2:=hl.trans (by kernel_rfl)
 match cs,hc with
 | [c0,c1],_ =>
  obtain ⟨a0,h0⟩:=aPn.field [c0] hx (hf 0 _ rfl)
  obtain ⟨a1,h1⟩:=s9.field [c1] hx (hf 1 _ rfl)
  cases h0; cases h1
  exact ⟨rfl,⟨a0,a1⟩,rfl⟩⟩
theorem aPp:gH prog 96 cp 4:=⟨by kernel_rfl,λ W T enc sp held fuel cs x h=>by
 obtain ⟨xs,n,_,_,hl,hx,hf⟩:=DataW.trod_struct underlying96 h
 have hc:cs.length=4:=hl.trans (by kernel_rfl)
 match cs,hc with
 | [c0,c1,c2,c3],_ =>
  obtain ⟨a0,h0⟩:=s9.field [c0] hx (hf 0 _ rfl)
  obtain ⟨a1,h1⟩:=s9.field [c1] hx (hf 1 _ rfl)
  obtain ⟨a2,h2⟩:=s9.field [c2] hx (hf 2 _ rfl)
  obtain ⟨a3,h3⟩:=s9.field [c3] hx (hf 3 _ rfl)
  cases h0; cases h1; cases h2; cases h3
  exact ⟨rfl,⟨a0,a1,a2,a3⟩,rfl⟩⟩
theorem aPl:gH prog 59 bV 3:=⟨by kernel_rfl,λ W T enc sp held fuel cs x h=>by
 obtain ⟨xs,n,_,_,hl,hx,hf⟩:=DataW.trod_struct underlying59 h
 have hc:cs.length=3:=hl.trans (by kernel_rfl)
 match cs,hc with
 | [c0,c1,c2],_ =>
  obtain ⟨a0,h0⟩:=s9.field [c0] hx (hf 0 _ rfl)
  obtain ⟨a1,h1⟩:=s9.field [c1] hx (hf 1 _ rfl)
  obtain ⟨a2,h2⟩:=aPj.field [c2] hx (hf 2 _ rfl)
  cases h0; cases h1; cases h2
  exact ⟨rfl,⟨a0,a1,a2⟩,rfl⟩⟩
theorem aPb:gH prog 22 (fi cc 2) 1:=gH.slice (by kernel_rfl) underlying22 (by decide) aPm
theorem aPc:gH prog 23 (fi cj 2) 1:=gH.slice (by kernel_rfl) underlying23 (by decide) aPk
theorem aPd:gH prog 24 (fi cb 2) 1:=gH.slice (by kernel_rfl) underlying24 (by decide) aPo
theorem aPe:gH prog 25 (fi cp 4) 1:=gH.slice (by kernel_rfl) underlying25 (by decide) aPp
theorem aPf:gH prog 26 (fi bV 3) 1:=gH.slice (by kernel_rfl) underlying26 (by decide) aPl
theorem aPg:gH prog 28 Ur 6:=⟨by kernel_rfl,λ W T enc sp held fuel cs x h=>by
 obtain ⟨xs,n,_,_,hl,hx,hf⟩:=DataW.trod_struct underlying28 h
 have hc:cs.length=6:=hl.trans (by kernel_rfl)
 match cs,hc with
 | [c0,c1,c2,c3,c4,c5],_ =>
  obtain ⟨a0,h0⟩:=s9.field [c0] hx (hf 0 _ rfl)
  obtain ⟨a1,v1,h1,g1⟩:=aPb.field [c1] hx (hf 1 _ rfl)
  obtain ⟨a2,v2,h2,g2⟩:=aPc.field [c2] hx (hf 2 _ rfl)
  obtain ⟨a3,v3,h3,g3⟩:=aPd.field [c3] hx (hf 3 _ rfl)
  obtain ⟨a4,v4,h4,g4⟩:=aPe.field [c4] hx (hf 4 _ rfl)
  obtain ⟨a5,v5,h5,g5⟩:=aPf.field [c5] hx (hf 5 _ rfl)
  cases h0; cases h1; cases h2; cases h3; cases h4; cases h5
  exact ⟨rfl,⟨a0,a1,a2,a3,a4,a5⟩,c1,c2,c3,c4,c5,g1,g2,g3,g4,g5,rfl⟩⟩
section
variable {W:World} {T:Type} {enc:TypeId × Value→T} {b0:Nat} {v:Value} {d:DataW T} {p:List MemPlace}
theorem apX(hv:Value.okWide prog W .any b0 28 v)(h:DataW.Trod enc prog W 0 (λ _=>true) true 28 v d p) :
  ∃ (x:an) (v1 v2 v3 v4 v5:Value),v = .agg #[iv x.Rest,v1,v2,v3,v4,v5]∧aa cc 2 (rq W) v1 x.Rows∧aa cj 2 (rq W) v2 x.aQ∧aa cb 2 (rq W) v3 x.aB∧aa cp 4 (rq W) v4 x.aA∧aa bV 3 (rq W) v5 x.bh:=by
 obtain ⟨cs,rfl,_⟩:=okWide_struct underlying28 hv
 obtain ⟨fuel,hf⟩:=h
 obtain ⟨_,x,v1,v2,v3,v4,v5,h1,h2,h3,h4,h5,e⟩:=aPg.rd _ _ _ _ _ _ _ _ hf
 exact ⟨x,v1,v2,v3,v4,v5,by rw [← Array.toArray_toList (xs:=cs),show cs.toList=_ from e],h1,h2,h3,h4,h5⟩
theorem apY(hv:Value.okWide prog W .any b0 29 v)(h:DataW.Trod enc prog W 0 (λ _=>true) true 29 v d p):∃ xs,aa (fi (CI .i64) 1) 1 (rq W) v xs:=by
 obtain ⟨a,len,cap,rfl⟩:=okWide_slice underlying29 hv
 obtain ⟨fuel,hf⟩:=h
 obtain ⟨_,x,v1,e,h1⟩:=aPh.rd _ _ _ _ _ _ _ _ hf
 cases e
 exact ⟨x,h1⟩
theorem Ve(hv:Value.okWide prog W .any b0 3 v)(h:DataW.Trod enc prog W 0 (λ _=>true) true 3 v d p):∃ x:Int,v=iv x ∧ -9223372036854775808≤x∧x≤9223372036854775807:=by
 obtain ⟨x,rfl,_,_,hw⟩:=open_int underlying3 hv h
 simp only [Lit.wf,jm,decide_eq_true_eq] at hw
 exact ⟨x,rfl,hw⟩
end
theorem auT:prog.globalNamed "lagan/stint.checks"=some 0:=by kernel_rfl
theorem aQy:(prog.globals[0]?).map (·.type)=some 180:=by kernel_rfl
abbrev M1:List (String × DataW Unit):=[("lagan/stint.checks",Rows.laid_lagan_stint_checks)]
theorem arb(os:Os)(args:Array Value):laidMetH prog M1 ((World.doorLaid prog 14 os).forCall (λ _ _=>0) ⟨#[],args,[]⟩).memory :=
 laidMetH_of_parts3 (fuel:=8) (laidMet_of_run' 8 (by kernel_rfl) (by kernel_rfl)) (by kernel_rfl) (by kernel_rfl)
theorem aNX{W:World}(h:laidMetH prog M1 W):jQ (rq W):=by
 obtain ⟨g,t,cs,fuel,p,hg,ht,hv,hd⟩:=h.funcs (n := "lagan/stint.checks") (List.mem_cons_self ..)
 obtain rfl:=j6 (auT.symm.trans hg)
 obtain rfl:=j6 (aQy.symm.trans ht)
 obtain ⟨xs,n,_,hx,hlen,hn,mq⟩:=DataW.trod_array underlying180 (show DataW.trod (funcToken prog) prog W 0 (λ _=>true) true fuel 180 cs.toList=some (.agg [.held [40,108,97,103,97,110,47,115,116,105,110,116,46,98,111,111,107,41,46,114,101,115,116],.held [40,108,97,103,97,110,47,115,116,105,110,116,46,98,111,111,107,41,46,116,97,98,108,101],.held [40,108,97,103,97,110,47,115,116,105,110,116,46,98,111,111,107,41,46,112,108,97,99,101,115],.held [40,108,97,103,97,110,47,115,116,105,110,116,46,98,111,111,107,41,46,109,101,110],.held [40,108,97,103,97,110,47,115,116,105,110,116,46,98,111,111,107,41,46,100,105,118,101,115],.held [40,108,97,103,97,110,47,115,116,105,110,116,46,98,111,111,107,41,46,115,111,117,110,100,105,110,103,115]],p) from hd)
 rw [show prog.cellsOf 125=1 by kernel_rfl] at mq
 have hl:cs.toList.length=6:=hlen.trans (by kernel_rfl)
 obtain ⟨cs⟩:=cs
 simp only at hl mq
 match xs,hn,cs,hl with
 | [x0,x1,x2,x3,x4,x5],_,[c0,c1,c2,c3,c4,c5],_ =>
  simp only [Prod.mk.injEq,DataW.agg.injEq,List.map_cons,List.map_nil,List.cons.injEq,and_true] at hx
  obtain ⟨⟨e0,e1,e2,e3,e4,e5⟩,_⟩:=hx
  obtain ⟨x0,q0⟩:=x0
  obtain ⟨x1,q1⟩:=x1
  obtain ⟨x2,q2⟩:=x2
  obtain ⟨x3,q3⟩:=x3
  obtain ⟨x4,q4⟩:=x4
  obtain ⟨x5,q5⟩:=x5
  simp only at e0 e1 e2 e3 e4 e5
  subst e0 e1 e2 e3 e4 e5
  obtain rfl:=func_of_trod (f0:=265) underlying125 (by kernel_rfl) (mq 0 (by decide))
  obtain rfl:=func_of_trod (f0:=266) underlying125 (by kernel_rfl) (mq 1 (by decide))
  obtain rfl:=func_of_trod (f0:=267) underlying125 (by kernel_rfl) (mq 2 (by decide))
  obtain rfl:=func_of_trod (f0:=268) underlying125 (by kernel_rfl) (mq 3 (by decide))
  obtain rfl:=func_of_trod (f0:=269) underlying125 (by kernel_rfl) (mq 4 (by decide))
  obtain rfl:=func_of_trod (f0:=270) underlying125 (by kernel_rfl) (mq 5 (by decide))
  intro j v hj
  rw [Nat.zero_add]
  refine aqQ ?_
  rw [World.var?_cell hg hv j]
  simpa using hj
end Go.Proofs.YtihapemckcdicaaGreatDoor
