/- What able does in company; the arguments of the statements. Conditions: none. -/
import Derived.Test.YtikficpdfaajlaaGreatDoorQSWStF
import Derived.Test.YtikficpdfaajlaaGreatDoorQSWLgE
import Derived.Test.YtikficpdfaajlaaGreatDoorQSWStW1
import Derived.Test.YtikficpdfaajlaaGreatDoorQSWStG
import Derived.Test.YtikficpdfaajlaaGreatDoorTie
import Derived.Stop.Joined
import Derived.LaidOnce
import Derived.ProofKit
import Derived.OpenShut
namespace Go.Proofs.YtikficpdfaajlaaGreatDoor
open Go.Lg Go.Proofs Go.Conc Go.ConcN Tryz
set_option maxRecDepth 100000
set_option maxHeartbeats 4000000
section
variable {B:Base} {R:aA} {H:ai} {Post:Value→World→Prop}
abbrev pt(b:Nat):Value:=.pointer (some ⟨b,0,none⟩)
def jk(a:Nat→Nat→Bool)(js:Nat→Nat):aW:=(List.range 16).map λ p=>decide (p / 4 < js (p % 4)) && a (p / 4) (p % 4)
theorem Fp(a:Nat→Nat→Bool)(js:Nat→Nat):gM a js=[]++((jk a js).map Value.bool++[]):=by simp [gM,jk]
theorem Fq(a:Nat→Nat→Bool)(js:Nat→Nat):(jk a js).length=16:=by simp [jk]
theorem QX{a:Nat→Nat→Bool}{js:Nat→Nat}{k j:Nat}(f:k < 4)(b:j < 4)(c:js k=j):gM a (ec js k (j+1))=[]++((fT 4 (jk a js) (j:Int) (k:Int) (a j k)).map Value.bool++[]):=by
 rw [QY f b c,Fp]
 simp only [fT,List.map_set,cI,List.nil_append,List.append_nil]
 rw [Nat.mul_comm]
theorem So{a:Nat→Nat→Bool}{js:Nat→Nat}{k j:Nat}(g:k < 4)(f:j < 4):∃ b c,eo 4 (jk a js) (j:Int)=some b∧idx b (k:Int)=some c:=by
 have h1:eo 4 (jk a js) (j:Int)=some (((jk a js).drop (j * 4)).take 4):=by
  unfold eo
  rw [if_pos ⟨by omega,by rw [Fq]; simp; omega⟩]
  simp
 have hl:=hA h1
 exact ⟨_,(((jk a js).drop (j * 4)).take 4)[k]'(by omega),h1,by rw [b9]; exact fy (by omega)⟩
noncomputable def fZ(B:Base)(Post:Value→World→Prop)(bm bw bo N J:Nat)(a:Nat→Nat→Bool)(ho:bm≠bw∧bm≠bo∧bw≠bo)(hJ:0 < J)(hN:N≤4):Fx :=
 { P:=prog,B:=B,bm:=bm,bw:=bw,bo:=bo,tm:=183,tw:=190,N:=N,J:=J,cont:=λ js=>.cells (gM a js).toArray 141 (0,0),ho:=ho,hJ:=hJ,hN:=hN,mj:=e4 prog B Post }
structure kY (R:aA) (b:Nat) (x:bU) (v1 v2 v3 v4 v5 v6:Value):Prop where
 c:aI R [] b 0 [iv x.book.Rest,v1,v2,v3,v4,v5,v6]
 h1:aa bQ 2 R v1 x.book.Rows
 h2:aa bd 2 R v2 x.book.aJ
 h3:aa bL 2 R v3 x.book.ay
 h4:aa bP 4 R v4 x.book.az
 h5:aa bG 3 R v5 x.book.a0
 h6:aa dI 3 R v6 x.cY
theorem kY.up{R R':aA}{b:Nat}{x:bU}{v1 v2 v3 v4 v5 v6:Value}(h:kY R b x v1 v2 v3 v4 v5 v6)(f:aK R R'):kY R' b x v1 v2 v3 v4 v5 v6 :=
 ⟨h.c.up f,h.h1.mono f,h.h2.mono f,h.h3.mono f,h.h4.mono f,h.h5.mono f,h.h6.mono f⟩
theorem EW{α β:Type}{f:α→Option β}:∀ {xs:List α} {ys:List β},xs.mapM f=some ys→ys.length=xs.length∧∀ (i:Nat) (x:α),xs[i]? = some x→∃ y,ys[i]? = some y∧f x=some y
 | [],ys,h=>by
  simp at h; subst h
  exact ⟨rfl,λ i x c=>by simp at c⟩
 | a::xs,ys,h=>by
  rw [List.mapM_cons] at h
  cases g:f a with
  | none=>rw [g] at h; simp at h
  | some b =>
   cases j:xs.mapM f with
   | none=>rw [g,j] at h; simp at h
   | some bs =>
    rw [g,j] at h
    simp at h
    subst h
    obtain ⟨h1,h2⟩:=EW j
    refine ⟨by simp [h1],λ i x c=>?_⟩
    cases i with
    | zero=>simp at c; subst c; exact ⟨b,rfl,g⟩
    | succ i=>exact h2 i x (by simpa using c)
noncomputable def pV:Code:=(lj (Tryz.f113.body.getD .skip)).getD .skip
variable {x0:bU} {v1 v2 v3 v4 v5 v6:Value} {bm bw bo N J:Nat} {a:Nat→Nat→Bool} {ho:bm≠bw∧bm≠bo∧bw≠bo} {hJ:0 < J} {hN:N≤4} {b1 bk k:Nat}
theorem L8{tmps:aU}{st:St}(b:cf 30 st tmps)(todo:List Item):Gone (aS (fa ⟨113,.deferred,none,30,[],[mI prog]⟩ tmps todo) [mI prog]) :=
 QJ.AS (J:=mq prog 0) func113 b rfl (.inr rfl) ⟨1,Rq⟩
noncomputable abbrev Ak (bw:Nat):Ctx:=⟨113,.deferred,none,30,[dcall 114 #[.pointer (some ⟨bw,0,none⟩)]],[mI prog]⟩
noncomputable abbrev tq (b1 bk bm bw bo J j:Nat):St:=[(0,pt bw),(1,pt b1),(2,pt bk),(3,pt bm),(4,pt bo),(11,iv (J:Int)),(12,iv (j:Int))]
theorem GI(ac:∀ w:World,B.os w.os→B.os w.later.os)(ap:J≤4)(au:k < N){j:Nat}(ar:j < J)(Y:iy x0 j k=some (a j k))
  (again:j+1 < J→∀ (n:Nat) (R:aA),kY R b1 x0 v1 v2 v3 v4 v5 v6→aI R [] bk 0 [iv (k:Int)]→U (WJ (fZ B Post bm bw bo N J a ho hJ hN) n k (j+1) .ld) (Ak bw) R [] (tq b1 bk bm bw bo J (j+1)) [.code pV,.inLoop pV,.inBlock 0])
  (n:Nat) (R:aA) (ad:kY R b1 x0 v1 v2 v3 v4 v5 v6) (G:aI R [] bk 0 [iv (k:Int)]):U (WJ (fZ B Post bm bw bo N J a ho hJ hN) n k j .ld) (Ak bw) R [] (tq b1 bk bm bw bo J j) [.code pV,.inLoop pV,.inBlock 0]:=by
 obtain ⟨o,s,A,C,D,E,g⟩:=ad
 refine U.seq ?_
 refine U.rg [0] ?_
 refine U.vs 1 rfl rfl ?_
 refine U.aP ?_
 refine U.seq ?_
 refine U.dF rfl (by simp; omega) ?_
 refine U.skip ?_
 refine U.seq ?_
 refine U.aT ?_
 refine U.seq ?_
 refine U.rg [0,1,2] ?_
 refine U.vs 1 rfl rfl ?_
 refine U.e2 rfl rfl rfl (Ox.alloc (cs:=#[iv 0]) rfl n0 rfl λ Z _ _=>⟨_,(.put rfl),?_⟩)
 refine U.e2 rfl rfl rfl (Ox.dR (cs':=#[_]) rfl rfl rfl aM rfl .here rfl rfl rfl (.refl _) ?_)
 refine U.aP ?_
 refine U.g7 (H2:=[]) (λ X=>X++[]) .id rfl (λ an m I=>?_)
 replace o:=o.up (H:=[]) m
 replace G:=G.up (H:=[]) m
 replace s:=s.mono m
 replace A:=A.mono m
 replace C:=C.mono m
 replace D:=D.mono m
 replace E:=E.mono m
 replace g:=g.mono m
 refine U.seq ?_
 obtain ⟨S,ak,he⟩:∃ S,kF x0 (λ y=>lW y x0 (k:Int) (j:Int))=some S∧(S == (x0.cY.length:Int))=a j k:=by
  unfold iy at Y
  obtain ⟨x,h1,h2⟩:=af Y
  exact ⟨x,h1,ax h2⟩
 refine U.dw dx mixed ?_
 refine Any.tk 0 rfl (λ _ h=>h) (λ R' H' b c=>Ox.bH (vs:=[_,_,_,_,_,_,_]) rfl rfl cK rfl (((o.le b).sub (λ p h=>c p ((λ _ h=>h) p h))).part (j:=0) (n:=7) rfl) rfl (.one rfl) ⟨rfl,rfl,rfl⟩) ?_
 refine Any.tk 1 rfl (λ _ h=>h) (λ R' H' b c=>Ox.makeFunc (vs:=#[]) (us:=#[_,_,_]) rfl rfl rfl rfl (.one rfl) ⟨rfl,rfl,rfl⟩) ?_
 refine Any.vs 1 [3] rfl ?_
 refine Any.tk 4 rfl (λ _ h=>h) (λ R' H' b c=>Ox.iA rfl rfl jj (((o.le b).sub (λ p h=>c p ((λ _ h=>h) p h))).one (j:=6) rfl) rfl (.one rfl) ⟨rfl,rfl,rfl⟩) ?_
 refine Any.tk 5 rfl (λ _ h=>h) (λ R' H' b c=>Ox.ht (K:=dI) (k:=3) (xs:=x0.cY) rfl rfl (g.mono b) underlying118 rfl (.one rfl) ⟨rfl,rfl,rfl⟩) ?_
 refine Any.cv 2 uE (vj x0 (λ y=>lW y x0 (k:Int) (j:Int)) s A C D E g ⟨115,#[],#[_,_,_],rfl,IN,λ R' H' b P y r va ab ag=>by obtain ⟨_,rfl,⟨am,rfl⟩⟩:=ab; exact (NY y x0 (k:Int) (j:Int) am ((o.le b).sub (λ p h=>P p ((λ _ h=>h) p h))) (s.mono b) (A.mono b) (C.mono b) (D.mono b) (E.mono b) (g.mono b) ((G.le b).sub (λ p h=>P p ((λ _ h=>h) p h))) ((I.le b).sub (λ p h=>P p ((λ _ h=>h) p h))) ag).mono λ _ _ _ ⟨h1,h2,h3⟩=>⟨h1 ▸ aK.refl _,h2.symm,h3⟩⟩ ak) ?_
 rintro _ ao _ ⟨f,rfl,rfl⟩
 replace s:=s.mono f
 replace A:=A.mono f
 replace C:=C.mono f
 replace D:=D.mono f
 replace E:=E.mono f
 replace g:=g.mono f
 replace o:=o.le f
 replace G:=G.le f
 replace I:=I.le f
 refine ⟨f,(Mv (λ _ h=>h)),?_⟩
 refine Any.vs 2 [6,7] rfl ?_
 refine Any.done ?_
 refine U.sub (st':=(6,.bool (a j k))::(5,pt Z)::tq b1 bk bm bw bo J j) (bN.sub ⟨congrArg (λ z=>some (Value.bool z)) he,rfl,rfl,rfl,rfl,rfl,rfl,rfl,rfl,trivial⟩) ?_
 refine U.seq ?_
 refine U.rg [0] ?_
 refine U.ll rfl rfl rfl rfl rfl IP rfl (NC (F:=fZ B Post bm bw bo N J a ho hJ hN) ac n) λ O L n js ae=>(?_:U (WJ (fZ B Post bm bw bo N J a ho hJ hN) n k j (.ul js)) _ _ _ _ _) O L
 refine U.aP ?_
 refine U.seq ?_
 obtain ⟨av,aw,M,Q⟩:=So (a:=a) (js:=js) (k:=k) (j:=j) (by omega) (by omega)
 have al:=Fq a js
 show U _ _ _ [(bo,.cells (gM a js).toArray 141 (0,0))] _ _
 rw [Fp]
 refine U.draw (n:=6) (is:=[0,1,2,3,4,5]) (many ((bo,.cells (List.toArray ([]++((jk a js).map Value.bool++[]))) 141)::[]) [(5,[])]) mixed rfl (by decide +kernel) rfl rfl ?_
 refine Any.ps (i:=0) [3,4,5] rfl rfl rfl (by decide +kernel) (aG rfl (a8 (λ _ h=>(List.Sublist.subset (List.Sublist.cons _ (List.Sublist.refl _))) h))) (λ _ h=>(List.Sublist.subset (List.Sublist.cons _ (List.Sublist.refl _))) h) (λ R' H' b c=>Ox.iA rfl rfl aM (((I.le b).sub (λ p h=>c p ((λ _ h=>h) p h))).one (j:=0) rfl) rfl (.one rfl) ⟨rfl,rfl,rfl⟩) (.refl _) (by decide) (hV:=[1,2,3,4,5]) rfl ?_
 refine Any.ps (i:=1) [4,5] rfl rfl rfl (by decide +kernel) (aG rfl (a8 (λ _ h=>(List.Sublist.subset (List.Sublist.cons _ (List.Sublist.refl _))) h))) (λ _ h=>(List.Sublist.subset (List.Sublist.cons _ (List.Sublist.refl _))) h) (λ R' H' b c=>Ox.iA rfl rfl aM (((G.le b).sub (λ p h=>c p ((λ _ h=>h) p h))).one (j:=0) rfl) rfl (.one rfl) ⟨rfl,rfl,rfl⟩) (.refl _) (by decide) (hV:=[2,3,4,5]) rfl ?_
 refine Any.vs 1 [2] rfl ?_
 refine Any.ps (i:=3) [4,5] rfl rfl rfl (by decide +kernel) (aG rfl (a8 (λ _ h=>(List.Sublist.subset (List.Sublist.cons _ (List.Sublist.refl _))) h))) (λ _ h=>(List.Sublist.subset (List.Sublist.cons _ (List.Sublist.refl _))) h) (λ R' H' b c=>Ox.uP rfl rfl rfl (lh kZ al (by decide) M) rfl (.one rfl) ⟨rfl,rfl,rfl⟩) (.refl _) (by decide) (hV:=[4,5]) rfl ?_
 refine Any.ps (i:=4) [5] rfl rfl rfl (by decide +kernel) (aG rfl (a8 (λ _ h=>(List.Sublist.subset (List.Sublist.cons _ (List.Sublist.refl _))) h))) (λ _ h=>(List.Sublist.subset (List.Sublist.cons _ (List.Sublist.refl _))) h) (λ R' H' b c=>Ox.uP rfl rfl rfl (gG iP (hA M) Q) rfl (.one rfl) ⟨rfl,rfl,rfl⟩) (.refl _) (by decide) (hV:=[5]) rfl ?_
 refine Any.on 5 rfl rfl (aQ.to (Ox.dR rfl rfl rfl eQ rfl .here (w8 M Q rfl) (w9 M Q rfl) rfl (.refl _) ⟨aK.refl _,(b3 rfl (λ _ h=>(List.Sublist.subset (List.Sublist.cons _ (List.Sublist.refl _))) h)),?_⟩))
 refine Any.done ?_
 rw [← QX (a:=a) (by omega) (by omega) ae]
 refine U.rg [0] ?_
 have V:i64 ((j:Int)+1)=((j+1:Nat):Int):=by rw [uM (by omega)]; omega
 refine U.ll rfl rfl rfl rfl rfl IQ rfl (Ti (F:=fZ B Post bm bw bo N J a ho hJ hN) (js:=js) (show j+1≤J by omega) n) λ O L=>⟨λ h n=>(?_:U (WJ (fZ B Post bm bw bo N J a ho hJ hN) n k (j+1) .ld) _ _ _ _ _) O L,λ h n=>(?_:U (WJ (fZ B Post bm bw bo N J a ho hJ hN) n k (j+1) .wv) _ _ _ _ _) O L⟩
 ·refine U.aP ?_
  refine U.bg ?_
  refine U.rg [0,1] ?_
  refine U.vs 2 rfl rfl ?_
  refine U.aP ?_
  refine U.inLoop ?_
  refine U.sub ?_ (again h n _ ⟨o,s,A,C,D,E,g⟩ G)
  exact bN.sub ⟨rfl,rfl,rfl,rfl,rfl,rfl,congrArg (λ z=>some (iv z)) V,trivial⟩
 ·have aq:j+1=J:=h
  refine U.aP ?_
  refine U.bg ?_
  refine U.rg [0,1] ?_
  refine U.vs 2 rfl rfl ?_
  refine U.aP ?_
  refine U.inLoop ?_
  refine U.sub (st':=tq b1 bk bm bw bo J (j+1)) (bN.sub ⟨rfl,rfl,rfl,rfl,rfl,rfl,congrArg (λ z=>some (iv z)) V,trivial⟩) ?_
  refine U.seq ?_
  refine U.rg [0] ?_
  refine U.vs 1 rfl rfl ?_
  refine U.aP ?_
  refine U.seq ?_
  refine U.cU rfl (by simp; omega) ?_
  refine U.bM rfl ?_
  refine U.toEnd rfl λ tmps ah=>?_
  exact Jd.unwind rfl func114 rfl rfl (Is (F:=fZ B Post bm bw bo N J a ho hJ hN) (.inl rfl) (L8 ah _) n)
theorem GH(f:∀ w:World,B.os w.os→B.os w.later.os)(g:J≤4)(o:k < N)(i:∀ j,j < J→iy x0 j k=some (a j k)):∀ (m j:Nat),J=j+m+1→∀ (n:Nat) (R:aA),kY R b1 x0 v1 v2 v3 v4 v5 v6→aI R [] bk 0 [iv (k:Int)] →
  U (WJ (fZ B Post bm bw bo N J a ho hJ hN) n k j .ld) (Ak bw) R [] (tq b1 bk bm bw bo J j) [.code pV,.inLoop pV,.inBlock 0]
 | 0,j,hm,n,R,b,c=>GI f g o (by omega) (i j (by omega)) (λ h=>by omega) n R b c
 | m+1,j,hm,n,R,b,c=>GI f g o (by omega) (i j (by omega)) (λ _ n R b c=>GH f g o i m (j+1) (by omega) n R b c) n R b c
theorem TM(f:∀ w:World,B.os w.os→B.os w.later.os)(g:J≤4)(i:x0.book.az.length=J)(y:k < N)(o:∀ j,j < J→iy x0 j k=some (a j k))(n:Nat){R:aA}(b:kY R b1 x0 v1 v2 v3 v4 v5 v6)(s:aI R [] bk 0 [iv (k:Int)]) :
  Own prog B false (KW (FT (fZ B Post bm bw bo N J a ho hJ hN)) n k 0 .ld) R [] (aS (Frame.enter prog 113 (#[]++#[pt bw,pt b1,pt bk,pt bm,pt bo]) .deferred) [mI prog]):=by
 refine Jd.enter (ae:=WJ (fZ B Post bm bw bo N J a ho hJ hN) n k 0 .ld) (args:=[pt bw,pt b1,pt bk,pt bm,pt bo]) func113 rfl (m:=30) rfl rfl ?_
 refine U.seq ?_
 refine U.rg [0] ?_
 refine U.defer rfl rfl rfl rfl rfl rfl rfl (.vB rfl) ?_
 refine U.aP ?_
 refine U.seq ?_
 refine U.rg [0,1,2,3,4,5] ?_
 refine U.vs 3 rfl rfl ?_
 refine U.e2 rfl rfl rfl (Ox.iA rfl rfl fu (b.c.any.one (j:=4) rfl) rfl (.put rfl) ?_)
 refine U.e2 rfl rfl rfl (Ox.ht (K:=bP) (k:=4) (xs:=x0.book.az) rfl rfl b.h4 underlying25 rfl (.put rfl) ?_)
 refine U.vs 1 rfl rfl ?_
 refine U.aP ?_
 refine U.aT ?_
 refine U.enterLoop ?_
 refine U.sub ?_ (GH (m:=J - 1) (j:=0) f g y o (by omega) n R b s)
 exact bN.sub ⟨rfl,rfl,rfl,rfl,rfl,by rw [← i]; rfl,rfl,trivial⟩
noncomputable def pW:Code:=(lj (Tryz.f77.body.getD .skip)).getD .skip
abbrev vn(b1 b2 bo bm bw:Nat):St:=[(1,pt b1),(2,pt b2),(3,pt bo),(4,pt bm),(5,pt bw)]
theorem F6{c:Ctx}(A:c.n=20)(y:c.kind = .normal)(C:c.ro=none){b2:Nat}{b:ai}{K:List Item}(L:∀ w:World,B.os w.os→B.os w.later.os)(M:J≤4)(O:x0.book.az.length=J)(P:∀ j k,j < J→k < N→iy x0 j k=some (a j k)){r i n:Nat}{R':aA}(hi:N=i+r+1)
  (next:∀ (n:Nat) (cc:aA),aK R' cc→U (dW (fZ B Post bm bw bo N J a ho hJ hN) n (fD r)) c cc b ((11,iv (N:Int))::(12,iv ((i+1:Nat):Int))::vn b1 b2 bo bm bw) (.code pW :: .inLoop pW :: .inBlock 0::K))
  (f:kY R' b1 x0 v1 v2 v3 v4 v5 v6) :
  U (dW (fZ B Post bm bw bo N J a ho hJ hN) n (.ka r)) c R' b ((11,iv (N:Int))::(12,iv (i:Int))::vn b1 b2 bo bm bw) (.code pW :: .inLoop pW :: .inBlock 0::K):=by
 obtain ⟨Z,ab,ad,ac,Y,V⟩:=c
 simp only at A y C
 subst A y C
 refine U.seq ?_
 refine U.rg [0] ?_
 refine U.vs 1 rfl rfl ?_
 refine U.aP ?_
 refine U.seq ?_
 refine U.dF rfl (by simp; omega) ?_
 refine U.skip ?_
 refine U.seq ?_
 refine U.aT ?_
 refine U.seq ?_
 refine U.rg [0,1,2] ?_
 refine U.vs 1 rfl rfl ?_
 refine U.e2 rfl rfl rfl (Ox.alloc (cs:=#[iv 0]) rfl n0 rfl λ E _ _=>⟨_,(.put rfl),?_⟩)
 refine U.e2 rfl rfl rfl (Ox.dR (cs':=#[_]) rfl rfl rfl aM rfl .here rfl rfl rfl (.refl _) ?_)
 refine U.aP ?_
 refine U.g7 (H2:=b) (λ X=>X++b) .id rfl (λ D s Q=>?_)
 replace f:=f.up s
 refine U.seq ?_
 refine U.rg [0] ?_
 refine U.ll rfl rfl rfl rfl rfl Ck rfl (Qc (F:=fZ B Post bm bw bo N J a ho hJ hN) r n) λ o g n=>(?_:U (dW (fZ B Post bm bw bo N J a ho hJ hN) n (.go r)) _ _ _ _ _) o g
 refine U.aP ?_
 refine U.rg [0,1] ?_
 refine U.e2 rfl rfl rfl (Ox.makeFunc (vs:=#[]) (us:=#[_,_,_,_,_]) rfl rfl rfl rfl (.put rfl) ?_)
 have G:i64 ((i:Int)+1)=((i+1:Nat):Int):=by rw [uM (by omega)]; omega
 refine sM λ m hm=>KM.spawn (F:=FT (fZ B Post bm bw bo N J a ho hJ hN)) (d:=⟨.fn (.func 113) #[pt bw,pt b1,pt E,pt bm,pt bo],#[]⟩) rfl rfl rfl (RO rfl rfl rfl) rfl rfl ?_ λ o g=>(?_:U (dW (fZ B Post bm bw bo N J a ho hJ hN) m (fD r)) _ _ _ _ _) o g
 ·refine Own.child rfl (Ty IM) ?_
  have I:N - (r+1)=i:=by omega
  show Own _ _ _ (KW _ m (N - (r+1)) 0 .ld) _ _ _
  rw [I]
  exact TM (k:=i) L M O (by omega) (λ j S=>P j i S (by omega)) m f Q
 ·refine U.aP ?_
  refine U.bg ?_
  refine U.rg [0,1] ?_
  refine U.vs 2 rfl rfl ?_
  refine U.aP ?_
  refine U.inLoop ?_
  refine U.sub ?_ (next m D s)
  exact bN.sub ⟨rfl,congrArg (λ z=>some (iv z)) G,rfl,rfl,rfl,rfl,rfl,trivial⟩
theorem F5{c:Ctx}(f:c.n=20)(b:c.kind = .normal)(g:c.ro=none){b2:Nat}{D:ai}{K:List Item}(s:∀ w:World,B.os w.os→B.os w.later.os)(y:J≤4)(z:x0.book.az.length=J)(C:∀ j k,j < J→k < N→iy x0 j k=some (a j k))
  (E:∀ (n:Nat) (R':aA),aK R R'→U (dW (fZ B Post bm bw bo N J a ho hJ hN) n .wa) c R' D (vn b1 b2 bo bm bw) K):∀ (r i n:Nat) (R':aA),N=i+r+1→aK R R'→kY R' b1 x0 v1 v2 v3 v4 v5 v6 →
  U (dW (fZ B Post bm bw bo N J a ho hJ hN) n (.ka r)) c R' D ((11,iv (N:Int))::(12,iv (i:Int))::vn b1 b2 bo bm bw) (.code pW :: .inLoop pW :: .inBlock 0::K)
 | 0,i,n,R',hi,A,m=>F6 f b g s y z C hi (λ n cc o=>by
   obtain ⟨I,L,O,M,G,F⟩:=c
   simp only at f b g
   subst f b g
   refine U.seq ?_
   refine U.rg [0] ?_
   refine U.vs 1 rfl rfl ?_
   refine U.aP ?_
   refine U.seq ?_
   refine U.cU rfl (by rw [decide_eq_false_iff_not]; omega) ?_
   refine U.bM rfl ?_
   refine U.sub ?_ (E n cc (A.trans o))
   exact bN.sub ⟨rfl,rfl,rfl,rfl,rfl,trivial⟩) m
 | r+1,i,n,R',hi,A,m=>F6 f b g s y z C hi (λ n cc o=>F5 f b g s y z C E r (i+1) n cc (by omega) (A.trans o) (m.up o)) m
theorem G5{x0:bU}{r:aW}(w:x0.book.az.length≤4)(z:x0.book.ay.length≤4)
  (s:(((List.range 16).mapM λ (p:Nat)=>if p / 4 < x0.book.az.length∧p % 4 < x0.book.ay.length then iy x0 (p / 4) (p % 4) else some false):Option aW)=some r) :
  ∃ a:Nat→Nat→Bool,r.length=16∧(∀ i k,i < x0.book.az.length→k < x0.book.ay.length→iy x0 i k=some (a i k))∧∀ js,(∀ k,k < x0.book.ay.length→js k=x0.book.az.length)→gM a js=[]++(r.map Value.bool++[]):=by
 obtain ⟨hlen,n⟩:=EW s
 rw [List.length_range] at hlen
 have j:∀ i k,i < 4→k < 4→∃ y,r[4 * i+k]? = some y∧(if i < x0.book.az.length∧k < x0.book.ay.length then iy x0 i k else some false)=some y:=λ i k hi m=>by
  obtain ⟨y,c,b⟩:=n (4 * i+k) (4 * i+k) (List.getElem?_range (by omega))
  rw [show (4 * i+k) / 4=i by omega,show (4 * i+k) % 4=k by omega] at b
  exact ⟨y,c,b⟩
 refine ⟨λ i k=>(r[4 * i+k]?).getD false,hlen,λ i k hi m=>?_,λ js o=>?_⟩
 ·obtain ⟨y,c,b⟩:=j i k (by omega) (by omega)
  rw [if_pos ⟨hi,m⟩] at b
  rw [b]
  show some y=some ((r[4 * i+k]?).getD false)
  rw [c]; rfl
 ·apply List.ext_getElem?
  intro p
  rcases Nat.lt_or_ge p 16 with f | f
  ·rw [zv f]
   obtain ⟨y,c,b⟩:=j (p / 4) (p % 4) (by omega) (by omega)
   rw [show 4 * (p / 4)+p % 4=p by omega] at c
   simp only [List.nil_append,List.append_nil,List.getElem?_map,show 4 * (p / 4)+p % 4=p by omega,c,Option.map_some,gP]
   by_cases g:p / 4 < x0.book.az.length∧p % 4 < x0.book.ay.length
   ·rw [o _ g.2,c7 g.1,Bool.true_and]
   ·rw [if_neg g] at b
    rw [← ax b,Bool.and_false]
  ·rw [List.getElem?_eq_none (by simp [gM]; exact f),List.getElem?_eq_none (by simp [hlen]; exact f)]
theorem G6(D:∀ w:World,B.os w.os→B.os w.later.os):j5 (pd prog B Post):=by
 intro R H x0 v1 v2 v3 v4 v5 v6 h1 h2 h3 h4 h5 h6 r o
 unfold jM at o
 split at o
 case isFalse=>cases o
 rename_i M
 obtain ⟨⟨s,z⟩,ac,m⟩:=M
 obtain ⟨a,hlen,I,S⟩:=G5 z m o
 refine aO.ha (args:=[.agg #[iv x0.book.Rest,v1,v2,v3,v4,v5,v6]]) func77 rfl (n:=20) rfl rfl λ fr cs Q=>?_
 refine U.seq ?_
 refine U.rg [0,1] ?_
 refine U.e2 rfl rfl rfl (Ox.AZ rfl rfl rfl λ b1 _ _=>⟨_,(.put rfl),?_⟩)
 refine U.e2 rfl rfl rfl (Ox.alloc (cs:=#[.bool false,.bool false,.bool false,.bool false,.bool false,.bool false,.bool false,.bool false,.bool false,.bool false,.bool false,.bool false,.bool false,.bool false,.bool false,.bool false]) rfl eT rfl λ b2 _ _=>⟨_,(.put rfl),?_⟩)
 refine U.aP ?_
 refine U.seq ?_
 refine U.rg [0] ?_
 refine U.e2 rfl rfl rfl (Ox.alloc (cs:=#[.bool false,.bool false,.bool false,.bool false,.bool false,.bool false,.bool false,.bool false,.bool false,.bool false,.bool false,.bool false,.bool false,.bool false,.bool false,.bool false]) rfl eT rfl λ b _ Z=>⟨_,(.put rfl),?_⟩)
 refine U.aP ?_
 refine U.seq ?_
 refine U.rg [0] ?_
 refine U.e2 rfl rfl rfl (Ox.alloc (cs:=#[.int .i32 0,.int .u32 0]) rfl TV rfl λ f _ A=>⟨_,(.put rfl),?_⟩)
 refine U.aP ?_
 refine U.seq ?_
 refine U.rg [0] ?_
 refine U.e2 rfl rfl rfl (Ox.alloc (cs:=#[.int .u64 0,.int .u32 0]) rfl TW rfl λ g _ y=>⟨_,(.put rfl),?_⟩)
 refine U.aP ?_
 have ho:f≠g∧f≠b∧g≠b:=⟨λ e=>by subst e; exact y _ (List.mem_cons_self),λ e=>by subst e; exact A _ (List.mem_cons_self),λ e=>by subst e; exact y _ (List.mem_cons_of_mem _ (List.mem_cons_self))⟩
 clear Z A y
 refine U.seq ?_
 refine U.seq ?_
 refine U.rg [0,1,2,3,4,5] ?_
 refine U.vs 3 rfl rfl ?_
 refine U.e2 rfl rfl rfl (Ox.iA rfl rfl fR ((aI.box (L:=[iv x0.book.Rest,v1,v2,v3,v4,v5,v6]) (.tail _ (.tail _ (.tail _ (.tail _ (.head _)))))).one (j:=3) rfl) rfl (.put rfl) ?_)
 refine U.e2 rfl rfl rfl (Ox.ht (K:=bL) (k:=2) (xs:=x0.book.ay) rfl rfl h3 underlying24 rfl (.put rfl) ?_)
 refine U.vs 1 rfl rfl ?_
 refine U.aP ?_
 refine U.aT ?_
 refine U.g7 (H2:=(g,_)::(f,_)::(b,_)::(b2,_)::H) (λ X=>(g,_)::(f,_)::(b,_)::(b2,_)::X++H) (.cons (.cons (.cons (.cons .id)))) rfl (λ R1 i O=>?_)
 have E:kY R1 b1 x0 v1 v2 v3 v4 v5 v6:=⟨O,h1.mono i,h2.mono i,h3.mono i,h4.mono i,h5.mono i,h6.mono i⟩
 refine U.enterLoop ?_
 refine U.perm (H':=(b,_)::(g,_)::(f,_)::(b2,_)::H) ((List.Perm.swap _ _ _).trans (List.Perm.cons _ (List.Perm.swap _ _ _))) ?_
 have C:Obj.cells (gM a λ _=>0).toArray 141 (0,0)=Obj.cells #[.bool false,.bool false,.bool false,.bool false,.bool false,.bool false,.bool false,.bool false,.bool false,.bool false,.bool false,.bool false,.bool false,.bool false,.bool false,.bool false] 141 (0,0):=by rw [QZ]; rfl
 rw [← C]
 intro tmps V
 refine e4.crowd (F:=fZ B Post f g b x0.book.ay.length x0.book.az.length a ho s m) (r:=x0.book.ay.length - 1) rfl (show x0.book.ay.length=x0.book.ay.length - 1+1 by omega) λ n=>?_
 refine (?_:U (dW (fZ B Post f g b x0.book.ay.length x0.book.az.length a ho s m) n (.ka (x0.book.ay.length - 1))) _ _ _ _ _) tmps V
 refine U.sub ?_ (F5 (c:=⟨77,.normal,none,20,[],fr::cs⟩) (b2:=b2) (R:=R1) rfl rfl rfl D z rfl I (λ n R' G=>?_) (x0.book.ay.length - 1) 0 n R1 (by omega) (aK.refl _) E)
 ·exact bN.sub ⟨rfl,rfl,rfl,rfl,rfl,rfl,rfl,trivial⟩
 ·refine U.seq ?_
  refine U.rg [0] ?_
  refine U.ll rfl rfl rfl rfl rfl IS rfl (TE (F:=fZ B Post f g b x0.book.ay.length x0.book.az.length a ho s m) (Post:=Post) rfl n) λ ab Y js P=>(?_:U (pd prog B Post) _ _ _ _ _) ab Y
  refine U.aP ?_
  refine U.seq ?_
  show U _ _ _ ((b,.cells (gM a js).toArray 141 (0,0))::_) _ _
  rw [S js P]
  refine U.rg [0,1] ?_
  refine U.e2 rfl rfl rfl (Ox.bH (vs:=_) rfl rfl cd (by simp [hlen]) ((aI.box (.head _)).part (j:=0) (n:=16) (cX (by simp [hlen]))) rfl (.put rfl) ?_)
  refine U.e2 rfl rfl rfl (Ox.dn (cs':=_) rfl rfl rfl cd (by simp [hlen]) (cG bE (cG (e0 λ _=>rfl) bE)) (.there .here) (by simp [gM]) (e9 (by simp [hlen,gM])) rfl (.refl _) ?_)
  refine U.aP ?_
  exact U.pq func77 (.agg rfl cd (by simp [hlen]) (aI.box (.tail _ (.head _))) .nil) (J.drop (List.Sublist.cons _ (List.Sublist.cons _ (List.Sublist.refl _))) (Q _ _ _ ⟨i.trans G,rfl,hlen,rfl⟩))
end
open Go.ChangeShapes Go.WideShapes Go.ChangeAt Go.RowKit
theorem gN:dT prog 3 (CI .i64) 1:=dT.int (by kernel_rfl) underlying3
theorem RI:dT prog 79 bQ 2:=⟨by kernel_rfl,λ W T enc sp held fuel cs x h=>by
 obtain ⟨xs,n,_,_,hl,c,b⟩:=DataW.trod_struct underlying79 h
 have j:cs.length=2:=hl.trans (by kernel_rfl)
 match cs,j with
 | [g,c1],_ =>
  obtain ⟨f,i⟩:=gN.field [g] c (b 0 _ rfl)
  obtain ⟨a1,h1⟩:=gN.field [c1] c (b 1 _ rfl)
  cases i; cases h1
  exact ⟨rfl,⟨f,a1⟩,rfl⟩⟩
theorem Ry:dT prog 22 (fz bQ 2) 1:=dT.slice (by kernel_rfl) underlying22 (by decide) RI
theorem Fy:dT prog 33 bd 2:=⟨by kernel_rfl,λ W T enc sp held fuel cs x h=>by
 obtain ⟨xs,n,_,_,hl,c,b⟩:=DataW.trod_struct underlying33 h
 have j:cs.length=2:=hl.trans (by kernel_rfl)
 match cs,j with
 | [g,c1],_ =>
  obtain ⟨f,i⟩:=gN.field [g] c (b 0 _ rfl)
  obtain ⟨a1,h1⟩:=gN.field [c1] c (b 1 _ rfl)
  cases i; cases h1
  exact ⟨rfl,⟨f,a1⟩,rfl⟩⟩
theorem Fw:dT prog 23 (fz bd 2) 1:=dT.slice (by kernel_rfl) underlying23 (by decide) Fy
theorem RJ:dT prog 9 CS 1:=dT.str (by kernel_rfl) underlying9
theorem Rv:dT prog 105 bL 2:=⟨by kernel_rfl,λ W T enc sp held fuel cs x h=>by
 obtain ⟨xs,n,_,_,hl,c,b⟩:=DataW.trod_struct underlying105 h
 have j:cs.length=2:=hl.trans (by kernel_rfl)
 match cs,j with
 | [g,c1],_ =>
  obtain ⟨f,i⟩:=RJ.field [g] c (b 0 _ rfl)
  obtain ⟨a1,h1⟩:=gN.field [c1] c (b 1 _ rfl)
  cases i; cases h1
  exact ⟨rfl,⟨f,a1⟩,rfl⟩⟩
theorem Rz:dT prog 24 (fz bL 2) 1:=dT.slice (by kernel_rfl) underlying24 (by decide) Rv
theorem Rw:dT prog 108 bP 4:=⟨by kernel_rfl,λ W T enc sp held fuel cs x h=>by
 obtain ⟨xs,n,_,_,hl,c,b⟩:=DataW.trod_struct underlying108 h
 have o:cs.length=4:=hl.trans (by kernel_rfl)
 match cs,o with
 | [j,c1,c2,c3],_ =>
  obtain ⟨f,m⟩:=gN.field [j] c (b 0 _ rfl)
  obtain ⟨a1,h1⟩:=gN.field [c1] c (b 1 _ rfl)
  obtain ⟨g,h2⟩:=gN.field [c2] c (b 2 _ rfl)
  obtain ⟨i,h3⟩:=gN.field [c3] c (b 3 _ rfl)
  cases m; cases h1; cases h2; cases h3
  exact ⟨rfl,⟨f,a1,g,i⟩,rfl⟩⟩
theorem RA:dT prog 25 (fz bP 4) 1:=dT.slice (by kernel_rfl) underlying25 (by decide) Rw
theorem Fz:dT prog 4 CB 1:=⟨by kernel_rfl,λ W T enc sp held fuel cs x h=>by
 obtain ⟨b,rfl,_⟩:=DataW.trod_bool underlying4 h
 exact ⟨rfl,b,rfl⟩⟩
theorem RH:dT prog 50 bG 3:=⟨by kernel_rfl,λ W T enc sp held fuel cs x h=>by
 obtain ⟨xs,n,_,_,hl,c,b⟩:=DataW.trod_struct underlying50 h
 have m:cs.length=3:=hl.trans (by kernel_rfl)
 match cs,m with
 | [i,c1,c2],_ =>
  obtain ⟨f,j⟩:=gN.field [i] c (b 0 _ rfl)
  obtain ⟨a1,h1⟩:=gN.field [c1] c (b 1 _ rfl)
  obtain ⟨g,h2⟩:=Fz.field [c2] c (b 2 _ rfl)
  cases j; cases h1; cases h2
  exact ⟨rfl,⟨f,a1,g⟩,rfl⟩⟩
theorem RD:dT prog 26 (fz bG 3) 1:=dT.slice (by kernel_rfl) underlying26 (by decide) RH
theorem RE:dT prog 28 wR 6:=⟨by kernel_rfl,λ W T enc sp held fuel cs x h=>by
 obtain ⟨xs,n,_,_,hl,c,b⟩:=DataW.trod_struct underlying28 h
 have E:cs.length=6:=hl.trans (by kernel_rfl)
 match cs,E with
 | [s,c1,c2,c3,c4,f],_ =>
  obtain ⟨g,D⟩:=gN.field [s] c (b 0 _ rfl)
  obtain ⟨a1,v1,h1,w⟩:=Ry.field [c1] c (b 1 _ rfl)
  obtain ⟨i,v2,h2,y⟩:=Fw.field [c2] c (b 2 _ rfl)
  obtain ⟨j,v3,h3,z⟩:=Rz.field [c3] c (b 3 _ rfl)
  obtain ⟨m,v4,h4,A⟩:=RA.field [c4] c (b 4 _ rfl)
  obtain ⟨o,v5,h5,C⟩:=RD.field [f] c (b 5 _ rfl)
  cases D; cases h1; cases h2; cases h3; cases h4; cases h5
  exact ⟨rfl,⟨g,a1,i,j,m,o⟩,c1,c2,c3,c4,f,w,y,z,A,C,rfl⟩⟩
theorem RK:dT prog 93 As 2:=⟨by kernel_rfl,λ W T enc sp held fuel cs x h=>by
 obtain ⟨xs,n,_,_,hl,c,b⟩:=DataW.trod_struct underlying93 h
 have j:cs.length=2:=hl.trans (by kernel_rfl)
 match cs,j with
 | [g,c1],_ =>
  obtain ⟨f,i⟩:=gN.field [g] c (b 0 _ rfl)
  obtain ⟨a1,h1⟩:=gN.field [c1] c (b 1 _ rfl)
  cases i; cases h1
  exact ⟨rfl,⟨f,a1⟩,rfl⟩⟩
theorem Rx:dT prog 111 ed 5:=⟨by kernel_rfl,λ W T enc sp held fuel cs x h=>by
 obtain ⟨xs,n,_,_,hl,c,b⟩:=DataW.trod_struct underlying111 h
 have o:cs.length=5:=hl.trans (by kernel_rfl)
 match cs,o with
 | [j,c1,c2,c3,c4],_ =>
  obtain ⟨f,m⟩:=RK.field [j,c1] c (b 0 _ rfl)
  obtain ⟨a1,h1⟩:=gN.field [c2] c (b 1 _ rfl)
  obtain ⟨g,h2⟩:=gN.field [c3] c (b 2 _ rfl)
  obtain ⟨i,h3⟩:=Fz.field [c4] c (b 3 _ rfl)
  cases m; cases h1; cases h2; cases h3
  exact ⟨rfl,⟨f,a1,g,i⟩,rfl⟩⟩
theorem RF:dT prog 29 (fz ed 5) 1:=dT.slice (by kernel_rfl) underlying29 (by decide) Rx
theorem RG:dT prog 31 wQ 5:=⟨by kernel_rfl,λ W T enc sp held fuel cs x h=>by
 obtain ⟨xs,n,_,_,hl,c,b⟩:=DataW.trod_struct underlying31 h
 have y:cs.length=5:=hl.trans (by kernel_rfl)
 match cs,y with
 | [m,c1,c2,c3,c4],_ =>
  obtain ⟨f,w⟩:=gN.field [m] c (b 0 _ rfl)
  obtain ⟨a1,h1⟩:=gN.field [c1] c (b 1 _ rfl)
  obtain ⟨g,h2⟩:=gN.field [c2] c (b 2 _ rfl)
  obtain ⟨i,v3,h3,o⟩:=Fw.field [c3] c (b 3 _ rfl)
  obtain ⟨j,v4,h4,s⟩:=RF.field [c4] c (b 4 _ rfl)
  cases w; cases h1; cases h2; cases h3; cases h4
  exact ⟨rfl,⟨f,a1,g,i,j⟩,c3,c4,o,s,rfl⟩⟩
section
variable {W:World} {T:Type} {enc:TypeId × Value→T} {b0:Nat} {v:Value} {d:DataW T} {p:List MemPlace}
theorem Hp(y:Value.okWide prog W .any b0 28 v)(h:DataW.Trod enc prog W 0 (λ _=>true) true 28 v d p):∃ (x:an) (b c f g i:Value),v = .agg #[iv x.Rest,b,c,f,g,i]∧aa bQ 2 (g8 W) b x.Rows∧aa bd 2 (g8 W) c x.aJ∧aa bL 2 (g8 W) f x.ay∧aa bP 4 (g8 W) g x.az∧aa bG 3 (g8 W) i x.a0:=by
 obtain ⟨cs,rfl,_⟩:=okWide_struct underlying28 y
 obtain ⟨fuel,j⟩:=h
 obtain ⟨_,x,b,c,f,g,i,m,n,o,s,w,e⟩:=RE.rd _ _ _ _ _ _ _ _ j
 exact ⟨x,b,c,f,g,i,by rw [← Array.toArray_toList (xs:=cs),show cs.toList=_ from e],m,n,o,s,w⟩
theorem Hq(j:Value.okWide prog W .any b0 31 v)(h:DataW.Trod enc prog W 0 (λ _=>true) true 31 v d p):∃ (x:bC) (b c:Value),v = .agg #[iv x.bK,iv x.bV,iv x.b8,b,c]∧aa bd 2 (g8 W) b x.a9∧aa ed 5 (g8 W) c x.bz:=by
 obtain ⟨cs,rfl,_⟩:=okWide_struct underlying31 j
 obtain ⟨fuel,f⟩:=h
 obtain ⟨_,x,b,c,g,i,e⟩:=RG.rd _ _ _ _ _ _ _ _ f
 exact ⟨x,b,c,by rw [← Array.toArray_toList (xs:=cs),show cs.toList=_ from e],g,i⟩
theorem rk(b:Value.okWide prog W .any b0 5 v)(h:DataW.Trod enc prog W 0 (λ _=>true) true 5 v d p):∃ x:Int,v = .int .u8 x∧0≤x∧x < 256:=by
 obtain ⟨x,rfl,_,_,hw⟩:=open_int underlying5 b h
 simp only [Lit.wf,cO,IntKind.min,IntKind.max,IntKind.signed,IntKind.bits] at hw
 simp at hw
 exact ⟨x,rfl,by omega,by omega⟩
theorem Hr(c:Value.okWide prog W .any b0 33 v)(h:DataW.Trod enc prog W 0 (λ _=>true) true 33 v d p):∃ (x:Reach),v = .agg #[iv x.aZ,iv x.bh]:=by
 obtain ⟨cs,rfl,_⟩:=okWide_struct underlying33 c
 obtain ⟨fuel,b⟩:=h
 obtain ⟨_,x,e⟩:=Fy.rd _ _ _ _ _ _ _ _ b
 exact ⟨x,by rw [← Array.toArray_toList (xs:=cs),show cs.toList=_ from e]⟩
end
theorem L3:prog.globalNamed "lagan/bearing.checks"=some 0:=by kernel_rfl
theorem S3:(prog.globals[0]?).map (·.type)=some 163:=by kernel_rfl
theorem L4:prog.globalNamed "lagan/stint.checks"=some 1:=by kernel_rfl
theorem S4:(prog.globals[1]?).map (·.type)=some 172:=by kernel_rfl
abbrev oD:List (String × DataW Unit):=[("lagan/bearing.checks",Rows.laid_lagan_bearing_checks),("lagan/stint.checks",Rows.laid_lagan_stint_checks)]
theorem It(os:Os)(args:aU):laidMetH prog oD ((World.doorLaid prog 14 os).forCall (λ _ _=>0) ⟨#[],args,[]⟩).memory :=
 laidMetH_of_parts3 (fuel:=8) (laidMet_of_run' 8 (by kernel_rfl) (by kernel_rfl)) (by kernel_rfl) (by kernel_rfl)
theorem QL{W:World}(h:laidMetH prog oD W):aI (g8 W) [] 0 0 [.func (.func 210) #[] #[],.func (.func 211) #[] #[],.func (.func 212) #[] #[]]:=by
 obtain ⟨g,t,cs,fuel,p,i,w,y,hd⟩:=h.funcs (n := "lagan/bearing.checks") (List.mem_cons_self ..)
 obtain rfl:=eI (L3.symm.trans i)
 obtain rfl:=eI (S3.symm.trans w)
 obtain ⟨xs,n,_,m,hlen,s,b⟩:=DataW.trod_array underlying163 (show DataW.trod (funcToken prog) prog W 0 (λ _=>true) true fuel 163 cs.toList=some (.agg [.held [40,108,97,103,97,110,47,98,101,97,114,105,110,103,46,98,111,111,107,41,46,99,104,97,114,116],.held [40,108,97,103,97,110,47,98,101,97,114,105,110,103,46,98,111,111,107,41,46,99,111,109,112,97,115,115,101,115],.held [40,108,97,103,97,110,47,98,101,97,114,105,110,103,46,98,111,111,107,41,46,119,105,116,110,101,115,115,101,115]],p) from hd)
 rw [show prog.cellsOf 91=1 by kernel_rfl] at b
 have hl:cs.toList.length=3:=hlen.trans (by kernel_rfl)
 obtain ⟨cs⟩:=cs
 simp only at hl b
 match xs,s,cs,hl with
 | [x0,x1,x2],_,[z,c1,c2],_ =>
  simp only [Prod.mk.injEq,DataW.agg.injEq,List.map_cons,List.map_nil,List.cons.injEq,and_true] at m
  obtain ⟨⟨c,e1,f⟩,_⟩:=m
  obtain ⟨x0,A⟩:=x0
  obtain ⟨x1,C⟩:=x1
  obtain ⟨x2,D⟩:=x2
  simp only at c e1 f
  subst c e1 f
  obtain rfl:=func_of_trod (f0:=210) underlying91 (by kernel_rfl) (b 0 (by decide))
  obtain rfl:=func_of_trod (f0:=211) underlying91 (by kernel_rfl) (b 1 (by decide))
  obtain rfl:=func_of_trod (f0:=212) underlying91 (by kernel_rfl) (b 2 (by decide))
  intro j v o
  rw [Nat.zero_add]
  refine BP ?_
  rw [World.var?_cell i y j]
  simpa using o
theorem QM{W:World}(h:laidMetH prog oD W):aI (g8 W) [] 1 0 [.func (.func 214) #[] #[],.func (.func 215) #[] #[],.func (.func 216) #[] #[],.func (.func 217) #[] #[],.func (.func 218) #[] #[],.func (.func 219) #[] #[]]:=by
 obtain ⟨g,t,cs,fuel,p,s,A,C,hd⟩:=h.funcs (n := "lagan/stint.checks") (List.mem_cons_of_mem _ (List.mem_cons_self ..))
 obtain rfl:=eI (L4.symm.trans s)
 obtain rfl:=eI (S4.symm.trans A)
 obtain ⟨xs,n,_,w,hlen,z,b⟩:=DataW.trod_array underlying172 (show DataW.trod (funcToken prog) prog W 0 (λ _=>true) true fuel 172 cs.toList=some (.agg [.held [40,108,97,103,97,110,47,115,116,105,110,116,46,98,111,111,107,41,46,114,101,115,116],.held [40,108,97,103,97,110,47,115,116,105,110,116,46,98,111,111,107,41,46,116,97,98,108,101],.held [40,108,97,103,97,110,47,115,116,105,110,116,46,98,111,111,107,41,46,112,108,97,99,101,115],.held [40,108,97,103,97,110,47,115,116,105,110,116,46,98,111,111,107,41,46,109,101,110],.held [40,108,97,103,97,110,47,115,116,105,110,116,46,98,111,111,107,41,46,100,105,118,101,115],.held [40,108,97,103,97,110,47,115,116,105,110,116,46,98,111,111,107,41,46,115,111,117,110,100,105,110,103,115]],p) from hd)
 rw [show prog.cellsOf 128=1 by kernel_rfl] at b
 have hl:cs.toList.length=6:=hlen.trans (by kernel_rfl)
 obtain ⟨cs⟩:=cs
 simp only at hl b
 match xs,z,cs,hl with
 | [x0,x1,x2,x3,x4,x5],_,[D,c1,c2,c3,c4,E],_ =>
  simp only [Prod.mk.injEq,DataW.agg.injEq,List.map_cons,List.map_nil,List.cons.injEq,and_true] at w
  obtain ⟨⟨c,e1,f,i,m,o⟩,_⟩:=w
  obtain ⟨x0,F⟩:=x0
  obtain ⟨x1,G⟩:=x1
  obtain ⟨x2,I⟩:=x2
  obtain ⟨x3,K⟩:=x3
  obtain ⟨x4,L⟩:=x4
  obtain ⟨x5,M⟩:=x5
  simp only at c e1 f i m o
  subst c e1 f i m o
  obtain rfl:=func_of_trod (f0:=214) underlying128 (by kernel_rfl) (b 0 (by decide))
  obtain rfl:=func_of_trod (f0:=215) underlying128 (by kernel_rfl) (b 1 (by decide))
  obtain rfl:=func_of_trod (f0:=216) underlying128 (by kernel_rfl) (b 2 (by decide))
  obtain rfl:=func_of_trod (f0:=217) underlying128 (by kernel_rfl) (b 3 (by decide))
  obtain rfl:=func_of_trod (f0:=218) underlying128 (by kernel_rfl) (b 4 (by decide))
  obtain rfl:=func_of_trod (f0:=219) underlying128 (by kernel_rfl) (b 5 (by decide))
  intro j v y
  rw [Nat.zero_add]
  refine BP ?_
  rw [World.var?_cell s C j]
  simpa using y
theorem QK{W:World}(h:laidMetH prog oD W):ez (g8 W):=⟨QL h,QM h⟩
end Go.Proofs.YtikficpdfaajlaaGreatDoor
