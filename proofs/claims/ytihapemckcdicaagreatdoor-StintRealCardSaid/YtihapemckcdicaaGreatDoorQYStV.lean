/- What able does in company; the arguments of the statements. Conditions: none. -/
import Derived.Test.YtihapemckcdicaaGreatDoorQYStF
import Derived.Test.YtihapemckcdicaaGreatDoorQYLgE
import Derived.Test.YtihapemckcdicaaGreatDoorQYStW1
import Derived.Test.YtihapemckcdicaaGreatDoorQYStG
import Derived.Test.YtihapemckcdicaaGreatDoorTie
import Derived.Stop.Joined
import Derived.LaidOnce
import Derived.ProofKit
import Derived.OpenShut
namespace Go.Proofs.YtihapemckcdicaaGreatDoor
open Go.Lg Go.Proofs Go.Conc Go.ConcN Tryz
set_option maxRecDepth 100000
set_option maxHeartbeats 4000000
section
variable {B:Base} {R:ax} {H:ai} {Post:Value→World→Prop}
abbrev pt(b:Nat):Value:=.pointer (some ⟨b,0,none⟩)
def ik(a:Nat→Nat→Bool)(js:Nat→Nat):List Bool:=(List.range 16).map λ p=>decide (p / 4 < js (p % 4)) && a (p / 4) (p % 4)
theorem Cs(a:Nat→Nat→Bool)(js:Nat→Nat):fZ a js=[]++((ik a js).map Value.bool++[]):=by simp [fZ,ik]
theorem Ct(a:Nat→Nat→Bool)(js:Nat→Nat):(ik a js).length=16:=by simp [ik]
theorem Nn{a:Nat→Nat→Bool}{js:Nat→Nat}{k j:Nat}(e:k < 4)(b:j < 4)(c:js k=j):fZ a (dx js k (j+1))=[]++((e9 4 (ik a js) (j:Int) (k:Int) (a j k)).map Value.bool++[]):=by
 rw [No e b c,Cs]
 simp only [e9,List.map_set,cp,List.nil_append,List.append_nil]
 rw [Nat.mul_comm]
theorem OL{a:Nat→Nat→Bool}{js:Nat→Nat}{k j:Nat}(f:k < 4)(e:j < 4):∃ b c,dF 4 (ik a js) (j:Int)=some b∧idx b (k:Int)=some c:=by
 have h1:dF 4 (ik a js) (j:Int)=some (((ik a js).drop (j * 4)).take 4):=by
  unfold dF
  rw [if_pos ⟨by omega,by rw [Ct]; simp; omega⟩]
  simp
 have hl:=gL h1
 exact ⟨_,(((ik a js).drop (j * 4)).take 4)[k]'(by omega),h1,by rw [bM]; exact ez (by omega)⟩
noncomputable def fo(B:Base)(Post:Value→World→Prop)(bm bw bo N J:Nat)(a:Nat→Nat→Bool)(ho:bm≠bw∧bm≠bo∧bw≠bo)(hJ:0 < J)(hN:N≤4):Fx :=
 { P:=prog,B:=B,bm:=bm,bw:=bw,bo:=bo,tm:=194,tw:=201,N:=N,J:=J,cont:=λ js=>.cells (fZ a js).toArray 145 (0,0),ho:=ho,hJ:=hJ,hN:=hN,mj:=eo prog B Post }
structure jP (R:ax) (b:Nat) (x:bF) (v1 v2 v3 v4 v5 v6:Value):Prop where
 c:aH R [] b 0 [iv x.book.Rest,v1,v2,v3,v4,v5,v6]
 h1:aa bt 2 R v1 x.book.Rows
 h2:aa bq 2 R v2 x.book.aD
 h3:aa bp 2 R v3 x.book.az
 h4:aa br 4 R v4 x.book.av
 h5:aa bg 3 R v5 x.book.aQ
 h6:aa c9 3 R v6 x.cG
theorem jP.up{R R':ax}{b:Nat}{x:bF}{v1 v2 v3 v4 v5 v6:Value}(h:jP R b x v1 v2 v3 v4 v5 v6)(e:aJ R R'):jP R' b x v1 v2 v3 v4 v5 v6 :=
 ⟨h.c.up e,h.h1.mono e,h.h2.mono e,h.h3.mono e,h.h4.mono e,h.h5.mono e,h.h6.mono e⟩
theorem B5{α β:Type}{f:α→Option β}:∀ {xs:List α} {ys:List β},xs.mapM f=some ys→ys.length=xs.length∧∀ (i:Nat) (x:α),xs[i]? = some x→∃ y,ys[i]? = some y∧f x=some y
 | [],ys,h=>by
  simp at h; subst h
  exact ⟨rfl,λ i x c=>by simp at c⟩
 | a::xs,ys,h=>by
  rw [List.mapM_cons] at h
  cases e:f a with
  | none=>rw [e] at h; simp at h
  | some b =>
   cases g:xs.mapM f with
   | none=>rw [e,g] at h; simp at h
   | some bs =>
    rw [e,g] at h
    simp at h
    subst h
    obtain ⟨h1,h2⟩:=B5 g
    refine ⟨by simp [h1],λ i x c=>?_⟩
    cases i with
    | zero=>simp at c; subst c; exact ⟨b,rfl,e⟩
    | succ i=>exact h2 i x (by simpa using c)
noncomputable def oE:Code:=(jY (Tryz.f170.body.getD .skip)).getD .skip
variable {x0:bF} {v1 v2 v3 v4 v5 v6:Value} {bm bw bo N J:Nat} {a:Nat→Nat→Bool} {ho:bm≠bw∧bm≠bo∧bw≠bo} {hJ:0 < J} {hN:N≤4} {b1 bk k:Nat}
theorem Ik{tmps:Array Value}{st:St}(b:bV 30 st tmps)(todo:List Item):Gone (aO (ew ⟨170,.deferred,none,30,[],[lI prog]⟩ tmps todo) [lI prog]) :=
 QJ.yv (J:=ll prog 0) func170 b rfl (.inr rfl) ⟨1,NO⟩
noncomputable abbrev ya (bw:Nat):Ctx:=⟨170,.deferred,none,30,[dcall 171 #[.pointer (some ⟨bw,0,none⟩)]],[lI prog]⟩
noncomputable abbrev rv (b1 bk bm bw bo J j:Nat):St:=[(0,pt bw),(1,pt b1),(2,pt bk),(3,pt bm),(4,pt bo),(11,iv (J:Int)),(12,iv (j:Int))]
theorem DI(S:∀ w:World,B.os w.os→B.os w.later.os)(ah:J≤4)(al:k < N){j:Nat}(ak:j < J)(O:hE x0 j k=some (a j k))
  (again:j+1 < J→∀ (n:Nat) (R:ax),jP R b1 x0 v1 v2 v3 v4 v5 v6→aH R [] bk 0 [iv (k:Int)]→U (WJ (fo B Post bm bw bo N J a ho hJ hN) n k (j+1) .ld) (ya bw) R [] (rv b1 bk bm bw bo J (j+1)) [.code oE,.inLoop oE,.inBlock 0])
  (n:Nat) (R:ax) (V:jP R b1 x0 v1 v2 v3 v4 v5 v6) (u:aH R [] bk 0 [iv (k:Int)]):U (WJ (fo B Post bm bw bo N J a ho hJ hN) n k j .ld) (ya bw) R [] (rv b1 bk bm bw bo J j) [.code oE,.inLoop oE,.inBlock 0]:=by
 obtain ⟨l,m,o,q,s,t,f⟩:=V
 refine U.seq ?_
 refine U.rg [0] ?_
 refine U.vs 1 rfl rfl ?_
 refine U.aK ?_
 refine U.seq ?_
 refine U.c5 rfl (by simp; omega) ?_
 refine U.skip ?_
 refine U.seq ?_
 refine U.aR ?_
 refine U.seq ?_
 refine U.rg [0,1,2] ?_
 refine U.vs 1 rfl rfl ?_
 refine U.eg rfl rfl rfl (Ox.alloc (cs:=#[iv 0]) rfl oc rfl λ P _ _=>⟨_,(.put rfl),?_⟩)
 refine U.eg rfl rfl rfl (Ox.eF (cs':=#[_]) rfl rfl rfl aL rfl .here rfl rfl rfl (.refl _) ?_)
 refine U.aK ?_
 refine U.hy (H2:=[]) (λ X=>X++[]) .id rfl (λ ae g A=>?_)
 replace l:=l.up (H:=[]) g
 replace u:=u.up (H:=[]) g
 replace m:=m.mono g
 replace o:=o.mono g
 replace q:=q.mono g
 replace s:=s.mono g
 replace t:=t.mono g
 replace f:=f.mono g
 refine U.seq ?_
 obtain ⟨L,ab,he⟩:∃ L,ju x0 (λ y=>kO y x0 (k:Int) (j:Int))=some L∧(L == (x0.cG.length:Int))=a j k:=by
  unfold hE at O
  obtain ⟨x,h1,h2⟩:=ag O
  exact ⟨x,h1,ay h2⟩
 refine U.dw dk mixed ?_
 refine Any.tk 0 rfl (λ _ h=>h) (λ R' H' b c=>Ox.bE (vs:=[_,_,_,_,_,_,_]) rfl rfl ck rfl (((l.le b).sub (λ p h=>c p ((λ _ h=>h) p h))).part (j:=0) (n:=7) rfl) rfl (.one rfl) ⟨rfl,rfl,rfl⟩) ?_
 refine Any.tk 1 rfl (λ _ h=>h) (λ R' H' b c=>Ox.makeFunc (vs:=#[]) (us:=#[_,_,_]) rfl rfl rfl rfl (.one rfl) ⟨rfl,rfl,rfl⟩) ?_
 refine Any.vs 1 [3] rfl ?_
 refine Any.tk 4 rfl (λ _ h=>h) (λ R' H' b c=>Ox.ia rfl rfl ij (((l.le b).sub (λ p h=>c p ((λ _ h=>h) p h))).one (j:=6) rfl) rfl (.one rfl) ⟨rfl,rfl,rfl⟩) ?_
 refine Any.tk 5 rfl (λ _ h=>h) (λ R' H' b c=>Ox.gX (K:=c9) (k:=3) (xs:=x0.cG) rfl rfl (f.mono b) underlying111 rfl (.one rfl) ⟨rfl,rfl,rfl⟩) ?_
 refine Any.cv 2 sw (ta x0 (λ y=>kO y x0 (k:Int) (j:Int)) m o q s t f ⟨172,#[],#[_,_,_],rfl,FZ,λ R' H' b G y r va Q Z=>by obtain ⟨_,rfl,⟨ad,rfl⟩⟩:=Q; exact (KT y x0 (k:Int) (j:Int) ad ((l.le b).sub (λ p h=>G p ((λ _ h=>h) p h))) (m.mono b) (o.mono b) (q.mono b) (s.mono b) (t.mono b) (f.mono b) ((u.le b).sub (λ p h=>G p ((λ _ h=>h) p h))) ((A.le b).sub (λ p h=>G p ((λ _ h=>h) p h))) Z).mono λ _ _ _ ⟨h1,h2,h3⟩=>⟨h1 ▸ aJ.refl _,h2.symm,h3⟩⟩ ab) ?_
 rintro _ af _ ⟨e,rfl,rfl⟩
 replace m:=m.mono e
 replace o:=o.mono e
 replace q:=q.mono e
 replace s:=s.mono e
 replace t:=t.mono e
 replace f:=f.mono e
 replace l:=l.le e
 replace u:=u.le e
 replace A:=A.le e
 refine ⟨e,(IK (λ _ h=>h)),?_⟩
 refine Any.vs 2 [6,7] rfl ?_
 refine Any.done ?_
 refine U.sub (st':=(6,.bool (a j k))::(5,pt P)::rv b1 bk bm bw bo J j) (bz.sub ⟨congrArg (λ z=>some (Value.bool z)) he,rfl,rfl,rfl,rfl,rfl,rfl,rfl,rfl,trivial⟩) ?_
 refine U.seq ?_
 refine U.rg [0] ?_
 refine U.jZ rfl rfl rfl rfl rfl F0 rfl (JS (F:=fo B Post bm bw bo N J a ho hJ hN) S n) λ E C n js Y=>(?_:U (WJ (fo B Post bm bw bo N J a ho hJ hN) n k j (.ul js)) _ _ _ _ _) E C
 refine U.aK ?_
 refine U.seq ?_
 obtain ⟨am,an,D,I⟩:=OL (a:=a) (js:=js) (k:=k) (j:=j) (by omega) (by omega)
 have ac:=Ct a js
 show U _ _ _ [(bo,.cells (fZ a js).toArray 145 (0,0))] _ _
 rw [Cs]
 refine U.draw (n:=6) (is:=[0,1,2,3,4,5]) (many ((bo,.cells (List.toArray ([]++((ik a js).map Value.bool++[]))) 145)::[]) [(5,[])]) mixed rfl (by decide +kernel) rfl rfl ?_
 refine Any.n6 (i:=0) [3,4,5] rfl rfl rfl (by decide +kernel) (aI rfl (a4 (λ _ h=>(List.Sublist.subset (List.Sublist.cons _ (List.Sublist.refl _))) h))) (λ _ h=>(List.Sublist.subset (List.Sublist.cons _ (List.Sublist.refl _))) h) (λ R' H' b c=>Ox.ia rfl rfl aL (((A.le b).sub (λ p h=>c p ((λ _ h=>h) p h))).one (j:=0) rfl) rfl (.one rfl) ⟨rfl,rfl,rfl⟩) (.refl _) (by decide) (g5:=[1,2,3,4,5]) rfl ?_
 refine Any.n6 (i:=1) [4,5] rfl rfl rfl (by decide +kernel) (aI rfl (a4 (λ _ h=>(List.Sublist.subset (List.Sublist.cons _ (List.Sublist.refl _))) h))) (λ _ h=>(List.Sublist.subset (List.Sublist.cons _ (List.Sublist.refl _))) h) (λ R' H' b c=>Ox.ia rfl rfl aL (((u.le b).sub (λ p h=>c p ((λ _ h=>h) p h))).one (j:=0) rfl) rfl (.one rfl) ⟨rfl,rfl,rfl⟩) (.refl _) (by decide) (g5:=[2,3,4,5]) rfl ?_
 refine Any.vs 1 [2] rfl ?_
 refine Any.n6 (i:=3) [4,5] rfl rfl rfl (by decide +kernel) (aI rfl (a4 (λ _ h=>(List.Sublist.subset (List.Sublist.cons _ (List.Sublist.refl _))) h))) (λ _ h=>(List.Sublist.subset (List.Sublist.cons _ (List.Sublist.refl _))) h) (λ R' H' b c=>Ox.sS rfl rfl rfl (jX jR ac (by decide) D) rfl (.one rfl) ⟨rfl,rfl,rfl⟩) (.refl _) (by decide) (g5:=[4,5]) rfl ?_
 refine Any.n6 (i:=4) [5] rfl rfl rfl (by decide +kernel) (aI rfl (a4 (λ _ h=>(List.Sublist.subset (List.Sublist.cons _ (List.Sublist.refl _))) h))) (λ _ h=>(List.Sublist.subset (List.Sublist.cons _ (List.Sublist.refl _))) h) (λ R' H' b c=>Ox.sS rfl rfl rfl (gF hU (gL D) I) rfl (.one rfl) ⟨rfl,rfl,rfl⟩) (.refl _) (by decide) (g5:=[5]) rfl ?_
 refine Any.on 5 rfl rfl (aS.to (Ox.eF rfl rfl rfl c6 rfl .here (uM D I rfl) (uO D I rfl) rfl (.refl _) ⟨aJ.refl _,(bZ rfl (λ _ h=>(List.Sublist.subset (List.Sublist.cons _ (List.Sublist.refl _))) h)),?_⟩))
 refine Any.done ?_
 rw [← Nn (a:=a) (by omega) (by omega) Y]
 refine U.rg [0] ?_
 have M:i64 ((j:Int)+1)=((j+1:Nat):Int):=by rw [sN (by omega)]; omega
 refine U.jZ rfl rfl rfl rfl rfl F1 rfl (PD (F:=fo B Post bm bw bo N J a ho hJ hN) (js:=js) (show j+1≤J by omega) n) λ E C=>⟨λ h n=>(?_:U (WJ (fo B Post bm bw bo N J a ho hJ hN) n k (j+1) .ld) _ _ _ _ _) E C,λ h n=>(?_:U (WJ (fo B Post bm bw bo N J a ho hJ hN) n k (j+1) .wv) _ _ _ _ _) E C⟩
 ·refine U.aK ?_
  refine U.a9 ?_
  refine U.rg [0,1] ?_
  refine U.vs 2 rfl rfl ?_
  refine U.aK ?_
  refine U.inLoop ?_
  refine U.sub ?_ (again h n _ ⟨l,m,o,q,s,t,f⟩ u)
  exact bz.sub ⟨rfl,rfl,rfl,rfl,rfl,rfl,congrArg (λ z=>some (iv z)) M,trivial⟩
 ·have aj:j+1=J:=h
  refine U.aK ?_
  refine U.a9 ?_
  refine U.rg [0,1] ?_
  refine U.vs 2 rfl rfl ?_
  refine U.aK ?_
  refine U.inLoop ?_
  refine U.sub (st':=rv b1 bk bm bw bo J (j+1)) (bz.sub ⟨rfl,rfl,rfl,rfl,rfl,rfl,congrArg (λ z=>some (iv z)) M,trivial⟩) ?_
  refine U.seq ?_
  refine U.rg [0] ?_
  refine U.vs 1 rfl rfl ?_
  refine U.aK ?_
  refine U.seq ?_
  refine U.cw rfl (by simp; omega) ?_
  refine U.bD rfl ?_
  refine U.toEnd rfl λ tmps aa=>?_
  exact Jd.unwind rfl func171 rfl rfl (Fb (F:=fo B Post bm bw bo N J a ho hJ hN) (.inl rfl) (Ik aa _) n)
theorem DH(e:∀ w:World,B.os w.os→B.os w.later.os)(f:J≤4)(i:k < N)(g:∀ j,j < J→hE x0 j k=some (a j k)):∀ (m j:Nat),J=j+m+1→∀ (n:Nat) (R:ax),jP R b1 x0 v1 v2 v3 v4 v5 v6→aH R [] bk 0 [iv (k:Int)] →
  U (WJ (fo B Post bm bw bo N J a ho hJ hN) n k j .ld) (ya bw) R [] (rv b1 bk bm bw bo J j) [.code oE,.inLoop oE,.inBlock 0]
 | 0,j,hm,n,R,b,c=>DI e f i (by omega) (g j (by omega)) (λ h=>by omega) n R b c
 | m+1,j,hm,n,R,b,c=>DI e f i (by omega) (g j (by omega)) (λ _ n R b c=>DH e f i g m (j+1) (by omega) n R b c) n R b c
theorem P9(e:∀ w:World,B.os w.os→B.os w.later.os)(f:J≤4)(g:x0.book.av.length=J)(l:k < N)(h:∀ j,j < J→hE x0 j k=some (a j k))(n:Nat){R:ax}(b:jP R b1 x0 v1 v2 v3 v4 v5 v6)(i:aH R [] bk 0 [iv (k:Int)]) :
  Own prog B false (KW (FT (fo B Post bm bw bo N J a ho hJ hN)) n k 0 .ld) R [] (aO (Frame.enter prog 170 (#[]++#[pt bw,pt b1,pt bk,pt bm,pt bo]) .deferred) [lI prog]):=by
 refine Jd.enter (ab:=WJ (fo B Post bm bw bo N J a ho hJ hN) n k 0 .ld) (args:=[pt bw,pt b1,pt bk,pt bm,pt bo]) func170 rfl (m:=30) rfl rfl ?_
 refine U.seq ?_
 refine U.rg [0] ?_
 refine U.defer rfl rfl rfl rfl rfl rfl rfl (.tH rfl) ?_
 refine U.aK ?_
 refine U.seq ?_
 refine U.rg [0,1,2,3,4,5] ?_
 refine U.vs 3 rfl rfl ?_
 refine U.eg rfl rfl rfl (Ox.ia rfl rfl dS (b.c.any.one (j:=4) rfl) rfl (.put rfl) ?_)
 refine U.eg rfl rfl rfl (Ox.gX (K:=br) (k:=4) (xs:=x0.book.av) rfl rfl b.h4 underlying25 rfl (.put rfl) ?_)
 refine U.vs 1 rfl rfl ?_
 refine U.aK ?_
 refine U.aR ?_
 refine U.enterLoop ?_
 refine U.sub ?_ (DH (m:=J - 1) (j:=0) e f l h (by omega) n R b i)
 exact bz.sub ⟨rfl,rfl,rfl,rfl,rfl,by rw [← g]; rfl,rfl,trivial⟩
noncomputable def oD:Code:=(jY (Tryz.f123.body.getD .skip)).getD .skip
abbrev tv(b1 b2 bo bm bw:Nat):St:=[(1,pt b1),(2,pt b2),(3,pt bo),(4,pt bm),(5,pt bw)]
theorem C5{c:Ctx}(o:c.n=20)(l:c.kind = .normal)(q:c.ro=none){b2:Nat}{b:ai}{K:List Item}(y:∀ w:World,B.os w.os→B.os w.later.os)(A:J≤4)(C:x0.book.av.length=J)(D:∀ j k,j < J→k < N→hE x0 j k=some (a j k)){r i n:Nat}{R':ax}(hi:N=i+r+1)
  (next:∀ (n:Nat) (bR:ax),aJ R' bR→U (dt (fo B Post bm bw bo N J a ho hJ hN) n (eZ r)) c bR b ((11,iv (N:Int))::(12,iv ((i+1:Nat):Int))::tv b1 b2 bo bm bw) (.code oD :: .inLoop oD :: .inBlock 0::K))
  (e:jP R' b1 x0 v1 v2 v3 v4 v5 v6) :
  U (dt (fo B Post bm bw bo N J a ho hJ hN) n (.ka r)) c R' b ((11,iv (N:Int))::(12,iv (i:Int))::tv b1 b2 bo bm bw) (.code oD :: .inLoop oD :: .inBlock 0::K):=by
 obtain ⟨M,O,Q,P,L,I⟩:=c
 simp only at o l q
 subst o l q
 refine U.seq ?_
 refine U.rg [0] ?_
 refine U.vs 1 rfl rfl ?_
 refine U.aK ?_
 refine U.seq ?_
 refine U.c5 rfl (by simp; omega) ?_
 refine U.skip ?_
 refine U.seq ?_
 refine U.aR ?_
 refine U.seq ?_
 refine U.rg [0,1,2] ?_
 refine U.vs 1 rfl rfl ?_
 refine U.eg rfl rfl rfl (Ox.alloc (cs:=#[iv 0]) rfl oc rfl λ t _ _=>⟨_,(.put rfl),?_⟩)
 refine U.eg rfl rfl rfl (Ox.eF (cs':=#[_]) rfl rfl rfl aL rfl .here rfl rfl rfl (.refl _) ?_)
 refine U.aK ?_
 refine U.hy (H2:=b) (λ X=>X++b) .id rfl (λ s h E=>?_)
 replace e:=e.up h
 refine U.seq ?_
 refine U.rg [0] ?_
 refine U.jZ rfl rfl rfl rfl rfl zM rfl (MK (F:=fo B Post bm bw bo N J a ho hJ hN) r n) λ g f n=>(?_:U (dt (fo B Post bm bw bo N J a ho hJ hN) n (.go r)) _ _ _ _ _) g f
 refine U.aK ?_
 refine U.rg [0,1] ?_
 refine U.eg rfl rfl rfl (Ox.makeFunc (vs:=#[]) (us:=#[_,_,_,_,_]) rfl rfl rfl rfl (.put rfl) ?_)
 have u:i64 ((i:Int)+1)=((i+1:Nat):Int):=by rw [sN (by omega)]; omega
 refine sM λ m hm=>KM.spawn (F:=FT (fo B Post bm bw bo N J a ho hJ hN)) (d:=⟨.fn (.func 170) #[pt bw,pt b1,pt t,pt bm,pt bo],#[]⟩) rfl rfl rfl (Od rfl rfl rfl) rfl rfl ?_ λ g f=>(?_:U (dt (fo B Post bm bw bo N J a ho hJ hN) m (eZ r)) _ _ _ _ _) g f
 ·refine Own.child rfl (PT FY) ?_
  have x:N - (r+1)=i:=by omega
  show Own _ _ _ (KW _ m (N - (r+1)) 0 .ld) _ _ _
  rw [x]
  exact P9 (k:=i) y A C (by omega) (λ j G=>D j i G (by omega)) m e E
 ·refine U.aK ?_
  refine U.a9 ?_
  refine U.rg [0,1] ?_
  refine U.vs 2 rfl rfl ?_
  refine U.aK ?_
  refine U.inLoop ?_
  refine U.sub ?_ (next m s h)
  exact bz.sub ⟨rfl,congrArg (λ z=>some (iv z)) u,rfl,rfl,rfl,rfl,rfl,trivial⟩
theorem C4{c:Ctx}(e:c.n=20)(b:c.kind = .normal)(f:c.ro=none){b2:Nat}{t:ai}{K:List Item}(l:∀ w:World,B.os w.os→B.os w.later.os)(m:J≤4)(o:x0.book.av.length=J)(s:∀ j k,j < J→k < N→hE x0 j k=some (a j k))
  (u:∀ (n:Nat) (R':ax),aJ R R'→U (dt (fo B Post bm bw bo N J a ho hJ hN) n .wa) c R' t (tv b1 b2 bo bm bw) K):∀ (r i n:Nat) (R':ax),N=i+r+1→aJ R R'→jP R' b1 x0 v1 v2 v3 v4 v5 v6 →
  U (dt (fo B Post bm bw bo N J a ho hJ hN) n (.ka r)) c R' t ((11,iv (N:Int))::(12,iv (i:Int))::tv b1 b2 bo bm bw) (.code oD :: .inLoop oD :: .inBlock 0::K)
 | 0,i,n,R',hi,q,g=>C5 e b f l m o s hi (λ n bR h=>by
   obtain ⟨z,A,D,C,y,x⟩:=c
   simp only at e b f
   subst e b f
   refine U.seq ?_
   refine U.rg [0] ?_
   refine U.vs 1 rfl rfl ?_
   refine U.aK ?_
   refine U.seq ?_
   refine U.cw rfl (by rw [decide_eq_false_iff_not]; omega) ?_
   refine U.bD rfl ?_
   refine U.sub ?_ (u n bR (q.trans h))
   exact bz.sub ⟨rfl,rfl,rfl,rfl,rfl,trivial⟩) g
 | r+1,i,n,R',hi,q,g=>C5 e b f l m o s hi (λ n bR h=>C4 e b f l m o s u r (i+1) n bR (by omega) (q.trans h) (g.up h)) g
theorem D6{x0:bF}{r:List Bool}(n:x0.book.av.length≤4)(o:x0.book.az.length≤4)
  (m:(((List.range 16).mapM λ (p:Nat)=>if p / 4 < x0.book.av.length∧p % 4 < x0.book.az.length then hE x0 (p / 4) (p % 4) else some false):Option (List Bool))=some r) :
  ∃ a:Nat→Nat→Bool,r.length=16∧(∀ i k,i < x0.book.av.length→k < x0.book.az.length→hE x0 i k=some (a i k))∧∀ js,(∀ k,k < x0.book.az.length→js k=x0.book.av.length)→fZ a js=[]++(r.map Value.bool++[]):=by
 obtain ⟨hlen,j⟩:=B5 m
 rw [List.length_range] at hlen
 have g:∀ i k,i < 4→k < 4→∃ y,r[4 * i+k]? = some y∧(if i < x0.book.av.length∧k < x0.book.az.length then hE x0 i k else some false)=some y:=λ i k hi h=>by
  obtain ⟨y,c,b⟩:=j (4 * i+k) (4 * i+k) (List.getElem?_range (by omega))
  rw [show (4 * i+k) / 4=i by omega,show (4 * i+k) % 4=k by omega] at b
  exact ⟨y,c,b⟩
 refine ⟨λ i k=>(r[4 * i+k]?).getD false,hlen,λ i k hi h=>?_,λ js l=>?_⟩
 ·obtain ⟨y,c,b⟩:=g i k (by omega) (by omega)
  rw [if_pos ⟨hi,h⟩] at b
  rw [b]
  show some y=some ((r[4 * i+k]?).getD false)
  rw [c]; rfl
 ·apply List.ext_getElem?
  intro p
  rcases Nat.lt_or_ge p 16 with e | e
  ·rw [xl e]
   obtain ⟨y,c,b⟩:=g (p / 4) (p % 4) (by omega) (by omega)
   rw [show 4 * (p / 4)+p % 4=p by omega] at c
   simp only [List.nil_append,List.append_nil,List.getElem?_map,show 4 * (p / 4)+p % 4=p by omega,c,Option.map_some,gh]
   by_cases f:p / 4 < x0.book.av.length∧p % 4 < x0.book.az.length
   ·rw [l _ f.2,de f.1,Bool.true_and]
   ·rw [if_neg f] at b
    rw [← ay b,Bool.and_false]
  ·rw [List.getElem?_eq_none (by simp [fZ]; exact e),List.getElem?_eq_none (by simp [hlen]; exact e)]
theorem D7(u:∀ w:World,B.os w.os→B.os w.later.os):kq (nV prog B Post):=by
 intro R H x0 v1 v2 v3 v4 v5 v6 h1 h2 h3 h4 h5 h6 r l
 unfold iF at l
 split at l
 case isFalse=>cases l
 rename_i A
 obtain ⟨⟨m,q⟩,Q,i⟩:=A
 obtain ⟨a,hlen,z,G⟩:=D6 q i l
 refine aP.gu (args:=[.agg #[iv x0.book.Rest,v1,v2,v3,v4,v5,v6]]) func123 rfl (n:=20) rfl rfl λ fr cs E=>?_
 refine U.seq ?_
 refine U.rg [0,1] ?_
 refine U.eg rfl rfl rfl (Ox.yB rfl rfl rfl λ b1 _ _=>⟨_,(.put rfl),?_⟩)
 refine U.eg rfl rfl rfl (Ox.alloc (cs:=#[.bool false,.bool false,.bool false,.bool false,.bool false,.bool false,.bool false,.bool false,.bool false,.bool false,.bool false,.bool false,.bool false,.bool false,.bool false,.bool false]) rfl ec rfl λ b2 _ _=>⟨_,(.put rfl),?_⟩)
 refine U.aK ?_
 refine U.seq ?_
 refine U.rg [0] ?_
 refine U.eg rfl rfl rfl (Ox.alloc (cs:=#[.bool false,.bool false,.bool false,.bool false,.bool false,.bool false,.bool false,.bool false,.bool false,.bool false,.bool false,.bool false,.bool false,.bool false,.bool false,.bool false]) rfl ec rfl λ b _ O=>⟨_,(.put rfl),?_⟩)
 refine U.aK ?_
 refine U.seq ?_
 refine U.rg [0] ?_
 refine U.eg rfl rfl rfl (Ox.alloc (cs:=#[.int .i32 0,.int .u32 0]) rfl Qg rfl λ f _ s=>⟨_,(.put rfl),?_⟩)
 refine U.aK ?_
 refine U.seq ?_
 refine U.rg [0] ?_
 refine U.eg rfl rfl rfl (Ox.alloc (cs:=#[.int .u64 0,.int .u32 0]) rfl Qh rfl λ g _ o=>⟨_,(.put rfl),?_⟩)
 refine U.aK ?_
 have ho:f≠g∧f≠b∧g≠b:=⟨λ e=>by subst e; exact o _ (List.mem_cons_self),λ e=>by subst e; exact s _ (List.mem_cons_self),λ e=>by subst e; exact o _ (List.mem_cons_of_mem _ (List.mem_cons_self))⟩
 clear O s o
 refine U.seq ?_
 refine U.seq ?_
 refine U.rg [0,1,2,3,4,5] ?_
 refine U.vs 3 rfl rfl ?_
 refine U.eg rfl rfl rfl (Ox.ia rfl rfl eD ((aH.box (L:=[iv x0.book.Rest,v1,v2,v3,v4,v5,v6]) (.tail _ (.tail _ (.tail _ (.tail _ (.head _)))))).one (j:=3) rfl) rfl (.put rfl) ?_)
 refine U.eg rfl rfl rfl (Ox.gX (K:=bp) (k:=2) (xs:=x0.book.az) rfl rfl h3 underlying24 rfl (.put rfl) ?_)
 refine U.vs 1 rfl rfl ?_
 refine U.aK ?_
 refine U.aR ?_
 refine U.hy (H2:=(g,_)::(f,_)::(b,_)::(b2,_)::H) (λ X=>(g,_)::(f,_)::(b,_)::(b2,_)::X++H) (.cons (.cons (.cons (.cons .id)))) rfl (λ R1 h C=>?_)
 have x:jP R1 b1 x0 v1 v2 v3 v4 v5 v6:=⟨C,h1.mono h,h2.mono h,h3.mono h,h4.mono h,h5.mono h,h6.mono h⟩
 refine U.enterLoop ?_
 refine U.perm (H':=(b,_)::(g,_)::(f,_)::(b2,_)::H) ((List.Perm.swap _ _ _).trans (List.Perm.cons _ (List.Perm.swap _ _ _))) ?_
 have t:Obj.cells (fZ a λ _=>0).toArray 145 (0,0)=Obj.cells #[.bool false,.bool false,.bool false,.bool false,.bool false,.bool false,.bool false,.bool false,.bool false,.bool false,.bool false,.bool false,.bool false,.bool false,.bool false,.bool false] 145 (0,0):=by rw [Np]; rfl
 rw [← t]
 intro tmps I
 refine eo.crowd (F:=fo B Post f g b x0.book.az.length x0.book.av.length a ho m i) (r:=x0.book.az.length - 1) rfl (show x0.book.az.length=x0.book.az.length - 1+1 by omega) λ n=>?_
 refine (?_:U (dt (fo B Post f g b x0.book.az.length x0.book.av.length a ho m i) n (.ka (x0.book.az.length - 1))) _ _ _ _ _) tmps I
 refine U.sub ?_ (C4 (c:=⟨123,.normal,none,20,[],fr::cs⟩) (b2:=b2) (R:=R1) rfl rfl rfl u q rfl z (λ n R' y=>?_) (x0.book.az.length - 1) 0 n R1 (by omega) (aJ.refl _) x)
 ·exact bz.sub ⟨rfl,rfl,rfl,rfl,rfl,rfl,rfl,trivial⟩
 ·refine U.seq ?_
  refine U.rg [0] ?_
  refine U.jZ rfl rfl rfl rfl rfl F2 rfl (P0 (F:=fo B Post f g b x0.book.az.length x0.book.av.length a ho m i) (Post:=Post) rfl n) λ P M js D=>(?_:U (nV prog B Post) _ _ _ _ _) P M
  refine U.aK ?_
  refine U.seq ?_
  show U _ _ _ ((b,.cells (fZ a js).toArray 145 (0,0))::_) _ _
  rw [G js D]
  refine U.rg [0,1] ?_
  refine U.eg rfl rfl rfl (Ox.bE (vs:=_) rfl rfl bU (by simp [hlen]) ((aH.box (.head _)).part (j:=0) (n:=16) (cD (by simp [hlen]))) rfl (.put rfl) ?_)
  refine U.eg rfl rfl rfl (Ox.cV (cs':=_) rfl rfl rfl bU (by simp [hlen]) (cx bB (cx (eT λ _=>rfl) bB)) (.there .here) (by simp [fZ]) (eE (by simp [hlen,fZ])) rfl (.refl _) ?_)
  refine U.aK ?_
  exact U.n2 func123 (.agg rfl bU (by simp [hlen]) (aH.box (.tail _ (.head _))) .nil) (J.drop (List.Sublist.cons _ (List.Sublist.cons _ (List.Sublist.refl _))) (E _ _ _ ⟨h.trans y,rfl,hlen,rfl⟩))
end
open Go.ChangeShapes Go.WideShapes Go.ChangeAt Go.RowKit
theorem iP:df prog 3 (CI .i64) 1:=df.int (by kernel_rfl) underlying3
theorem N8:df prog 9 CS 1:=df.str (by kernel_rfl) underlying9
def DV:bH Bool:=λ _ x es=>es=[.bool x]
theorem N3:df prog 4 DV 1:=⟨by kernel_rfl,λ W T enc sp held fuel cs x h=>by
 obtain ⟨b,rfl,_⟩:=DataW.trod_bool underlying4 h
 exact ⟨rfl,b,rfl⟩⟩
theorem N4:df prog 41 bq 2:=⟨by kernel_rfl,λ W T enc sp held fuel cs x h=>by
 obtain ⟨xs,n,_,_,hl,c,b⟩:=DataW.trod_struct underlying41 h
 have i:cs.length=2:=hl.trans (by kernel_rfl)
 match cs,i with
 | [f,c1],_ =>
  obtain ⟨e,g⟩:=iP.field [f] c (b 0 _ rfl)
  obtain ⟨a1,h1⟩:=iP.field [c1] c (b 1 _ rfl)
  cases g; cases h1
  exact ⟨rfl,⟨e,a1⟩,rfl⟩⟩
theorem N6:df prog 64 bt 2:=⟨by kernel_rfl,λ W T enc sp held fuel cs x h=>by
 obtain ⟨xs,n,_,_,hl,c,b⟩:=DataW.trod_struct underlying64 h
 have i:cs.length=2:=hl.trans (by kernel_rfl)
 match cs,i with
 | [f,c1],_ =>
  obtain ⟨e,g⟩:=iP.field [f] c (b 0 _ rfl)
  obtain ⟨a1,h1⟩:=iP.field [c1] c (b 1 _ rfl)
  cases g; cases h1
  exact ⟨rfl,⟨e,a1⟩,rfl⟩⟩
theorem N9:df prog 93 bp 2:=⟨by kernel_rfl,λ W T enc sp held fuel cs x h=>by
 obtain ⟨xs,n,_,_,hl,c,b⟩:=DataW.trod_struct underlying93 h
 have i:cs.length=2:=hl.trans (by kernel_rfl)
 match cs,i with
 | [f,c1],_ =>
  obtain ⟨e,g⟩:=N8.field [f] c (b 0 _ rfl)
  obtain ⟨a1,h1⟩:=iP.field [c1] c (b 1 _ rfl)
  cases g; cases h1
  exact ⟨rfl,⟨e,a1⟩,rfl⟩⟩
theorem Oa:df prog 96 br 4:=⟨by kernel_rfl,λ W T enc sp held fuel cs x h=>by
 obtain ⟨xs,n,_,_,hl,c,b⟩:=DataW.trod_struct underlying96 h
 have l:cs.length=4:=hl.trans (by kernel_rfl)
 match cs,l with
 | [i,c1,c2,c3],_ =>
  obtain ⟨e,j⟩:=iP.field [i] c (b 0 _ rfl)
  obtain ⟨a1,h1⟩:=iP.field [c1] c (b 1 _ rfl)
  obtain ⟨f,h2⟩:=iP.field [c2] c (b 2 _ rfl)
  obtain ⟨g,h3⟩:=iP.field [c3] c (b 3 _ rfl)
  cases j; cases h1; cases h2; cases h3
  exact ⟨rfl,⟨e,a1,f,g⟩,rfl⟩⟩
theorem N5:df prog 59 bg 3:=⟨by kernel_rfl,λ W T enc sp held fuel cs x h=>by
 obtain ⟨xs,n,_,_,hl,c,b⟩:=DataW.trod_struct underlying59 h
 have j:cs.length=3:=hl.trans (by kernel_rfl)
 match cs,j with
 | [g,c1,c2],_ =>
  obtain ⟨e,i⟩:=iP.field [g] c (b 0 _ rfl)
  obtain ⟨a1,h1⟩:=iP.field [c1] c (b 1 _ rfl)
  obtain ⟨f,h2⟩:=N3.field [c2] c (b 2 _ rfl)
  cases i; cases h1; cases h2
  exact ⟨rfl,⟨e,a1,f⟩,rfl⟩⟩
theorem NW:df prog 22 (ej bt 2) 1:=df.slice (by kernel_rfl) underlying22 (by decide) N6
theorem NY:df prog 23 (ej bq 2) 1:=df.slice (by kernel_rfl) underlying23 (by decide) N4
theorem NZ:df prog 24 (ej bp 2) 1:=df.slice (by kernel_rfl) underlying24 (by decide) N9
theorem N0:df prog 25 (ej br 4) 1:=df.slice (by kernel_rfl) underlying25 (by decide) Oa
theorem N1:df prog 26 (ej bg 3) 1:=df.slice (by kernel_rfl) underlying26 (by decide) N5
theorem N2:df prog 28 uA 6:=⟨by kernel_rfl,λ W T enc sp held fuel cs x h=>by
 obtain ⟨xs,n,_,_,hl,c,b⟩:=DataW.trod_struct underlying28 h
 have w:cs.length=6:=hl.trans (by kernel_rfl)
 match cs,w with
 | [m,c1,c2,c3,c4,e],_ =>
  obtain ⟨f,u⟩:=iP.field [m] c (b 0 _ rfl)
  obtain ⟨a1,v1,h1,o⟩:=NW.field [c1] c (b 1 _ rfl)
  obtain ⟨g,v2,h2,q⟩:=NY.field [c2] c (b 2 _ rfl)
  obtain ⟨i,v3,h3,r⟩:=NZ.field [c3] c (b 3 _ rfl)
  obtain ⟨j,v4,h4,s⟩:=N0.field [c4] c (b 4 _ rfl)
  obtain ⟨l,v5,h5,t⟩:=N1.field [e] c (b 5 _ rfl)
  cases u; cases h1; cases h2; cases h3; cases h4; cases h5
  exact ⟨rfl,⟨f,a1,g,i,j,l⟩,c1,c2,c3,c4,e,o,q,r,s,t,rfl⟩⟩
theorem NV:df prog 214 (CW .u16) 1:=df.ID (by kernel_rfl) underlying214
theorem N7:df prog 81 (ej (CW .u16) 1) 1:=df.slice (by kernel_rfl) underlying81 (by decide) NV
section
variable {W:World} {T:Type} {enc:TypeId × Value→T} {b0:Nat} {v:Value} {d:DataW T} {p:List MemPlace}
theorem En(c:Value.okWide prog W .any b0 28 v)(h:DataW.Trod enc prog W 0 (λ _=>true) true 28 v d p) :
  ∃ (x:aj) (v1 v2 v3 v4 v5:Value),v = .agg #[iv x.Rest,v1,v2,v3,v4,v5]∧aa bt 2 (hB W) v1 x.Rows∧aa bq 2 (hB W) v2 x.aD∧aa bp 2 (hB W) v3 x.az∧aa br 4 (hB W) v4 x.av∧aa bg 3 (hB W) v5 x.aQ:=by
 obtain ⟨cs,rfl,_⟩:=okWide_struct underlying28 c
 obtain ⟨fuel,b⟩:=h
 obtain ⟨_,x,v1,v2,v3,v4,v5,h1,h2,h3,h4,h5,e⟩:=N2.rd _ _ _ _ _ _ _ _ b
 exact ⟨x,v1,v2,v3,v4,v5,by rw [← Array.toArray_toList (xs:=cs),show cs.toList=_ from e],h1,h2,h3,h4,h5⟩
theorem Eo(f:Value.okWide prog W .any b0 81 v)(h:DataW.Trod enc prog W 0 (λ _=>true) true 81 v d p):∃ xs,aa (CI .u16) 1 (hB W) v xs∧∀ x∈xs,0≤x∧x≤65535:=by
 obtain ⟨a,len,cap,rfl⟩:=okWide_slice underlying81 f
 obtain ⟨fuel,c⟩:=h
 obtain ⟨_,x,v1,e,h1⟩:=N7.rd _ _ _ _ _ _ _ _ c
 cases e
 refine ⟨x,h1.P5 λ y es b=>b.1,λ y b=>?_⟩
 obtain ⟨_,_,h2⟩:=h1.each y b
 exact h2
theorem uK(b:Value.okWide prog W .any b0 5 v)(h:DataW.Trod enc prog W 0 (λ _=>true) true 5 v d p):∃ x:Int,v = .int .u8 x∧0≤x∧x < 256:=by
 obtain ⟨x,rfl,_,_,hw⟩:=open_int underlying5 b h
 simp only [Lit.wf,cM,IntKind.min,IntKind.max,IntKind.signed,IntKind.bits] at hw
 simp at hw
 exact ⟨x,rfl,by omega,by omega⟩
end
theorem Ic:prog.globalNamed "lagan/stint.checks"=some 0:=by kernel_rfl
theorem Pp:(prog.globals[0]?).map (·.type)=some 180:=by kernel_rfl
abbrev qo:List (String × DataW Unit):=[("lagan/stint.checks",Rows.laid_lagan_stint_checks)]
theorem Fc(os:Os)(args:Array Value):laidMetH prog qo ((World.doorLaid prog 14 os).forCall (λ _ _=>0) ⟨#[],args,[]⟩).memory :=
 laidMetH_of_parts3 (fuel:=8) (laidMet_of_run' 8 (by kernel_rfl) (by kernel_rfl)) (by kernel_rfl) (by kernel_rfl)
theorem Nd{W:World}(h:laidMetH prog qo W):ek (hB W):=by
 obtain ⟨g,t,cs,fuel,p,m,s,u,hd⟩:=h.funcs (n := "lagan/stint.checks") (List.mem_cons_self ..)
 obtain rfl:=ed (Ic.symm.trans m)
 obtain rfl:=ed (Pp.symm.trans s)
 obtain ⟨xs,n,_,o,hlen,r,b⟩:=DataW.trod_array underlying180 (show DataW.trod (funcToken prog) prog W 0 (λ _=>true) true fuel 180 cs.toList=some (.agg [.held [40,108,97,103,97,110,47,115,116,105,110,116,46,98,111,111,107,41,46,114,101,115,116],.held [40,108,97,103,97,110,47,115,116,105,110,116,46,98,111,111,107,41,46,116,97,98,108,101],.held [40,108,97,103,97,110,47,115,116,105,110,116,46,98,111,111,107,41,46,112,108,97,99,101,115],.held [40,108,97,103,97,110,47,115,116,105,110,116,46,98,111,111,107,41,46,109,101,110],.held [40,108,97,103,97,110,47,115,116,105,110,116,46,98,111,111,107,41,46,100,105,118,101,115],.held [40,108,97,103,97,110,47,115,116,105,110,116,46,98,111,111,107,41,46,115,111,117,110,100,105,110,103,115]],p) from hd)
 rw [show prog.cellsOf 125=1 by kernel_rfl] at b
 have hl:cs.toList.length=6:=hlen.trans (by kernel_rfl)
 obtain ⟨cs⟩:=cs
 simp only at hl b
 match xs,r,cs,hl with
 | [x0,x1,x2,x3,x4,x5],_,[w,c1,c2,c3,c4,x],_ =>
  simp only [Prod.mk.injEq,DataW.agg.injEq,List.map_cons,List.map_nil,List.cons.injEq,and_true] at o
  obtain ⟨⟨c,e1,e,f,i,l⟩,_⟩:=o
  obtain ⟨x0,y⟩:=x0
  obtain ⟨x1,z⟩:=x1
  obtain ⟨x2,A⟩:=x2
  obtain ⟨x3,C⟩:=x3
  obtain ⟨x4,D⟩:=x4
  obtain ⟨x5,E⟩:=x5
  simp only at c e1 e f i l
  subst c e1 e f i l
  obtain rfl:=func_of_trod (f0:=265) underlying125 (by kernel_rfl) (b 0 (by decide))
  obtain rfl:=func_of_trod (f0:=266) underlying125 (by kernel_rfl) (b 1 (by decide))
  obtain rfl:=func_of_trod (f0:=267) underlying125 (by kernel_rfl) (b 2 (by decide))
  obtain rfl:=func_of_trod (f0:=268) underlying125 (by kernel_rfl) (b 3 (by decide))
  obtain rfl:=func_of_trod (f0:=269) underlying125 (by kernel_rfl) (b 4 (by decide))
  obtain rfl:=func_of_trod (f0:=270) underlying125 (by kernel_rfl) (b 5 (by decide))
  intro j v q
  rw [Nat.zero_add]
  refine EO ?_
  rw [World.var?_cell m u j]
  simpa using q
end Go.Proofs.YtihapemckcdicaaGreatDoor
