/- What able does in company; the arguments of the statements. Conditions: none. -/
import Derived.Test.YtihapemckcdicaaGreatDoorQXStF
import Derived.Test.YtihapemckcdicaaGreatDoorQXLgE
import Derived.Test.YtihapemckcdicaaGreatDoorQXStW1
import Derived.Test.YtihapemckcdicaaGreatDoorQXStG
import Derived.Test.YtihapemckcdicaaGreatDoorTie
import Derived.Stop.Joined
import Derived.LaidOnce
import Derived.ProofKit
import Derived.OpenShut
namespace Go.Proofs.YtihapemckcdicaaGreatDoor
open Go.Lg Go.Proofs Go.Conc Go.ConcN Tryz
set_option maxRecDepth 100000
set_option maxHeartbeats 4000000
section
variable {B:Base} {R:az} {H:ah} {Post:Value→World→Prop}
abbrev pt(b:Nat):Value:=.pointer (some ⟨b,0,none⟩)
def s9(a:Nat→Nat→Bool)(js:Nat→Nat):List Bool:=(List.range 16).map λ p=>decide (p / 4 < js (p % 4)) && a (p / 4) (p % 4)
theorem ai8(a:Nat→Nat→Bool)(js:Nat→Nat):nL a js=[]++((s9 a js).map Value.bool++[]):=by simp [nL,s9]
theorem ai9(a:Nat→Nat→Bool)(js:Nat→Nat):(s9 a js).length=16:=by simp [s9]
theorem aLa{a:Nat→Nat→Bool}{js:Nat→Nat}{k j:Nat}(hk:k < 4)(hj:j < 4)(iT:js k=j):nL a (gS js k (j+1))=[]++((lS 4 (s9 a js) (j:Int) (k:Int) (a j k)).map Value.bool++[]):=by
 rw [aLb hk hj iT,ai8]
 simp only [lS,List.map_set,eH,List.nil_append,List.append_nil]
 rw [Nat.mul_comm]
theorem aME{a:Nat→Nat→Bool}{js:Nat→Nat}{k j:Nat}(hk:k < 4)(hj:j < 4):∃ pg eG,ib 4 (s9 a js) (j:Int)=some pg∧idx pg (k:Int)=some eG:=by
 have h1:ib 4 (s9 a js) (j:Int)=some (((s9 a js).drop (j * 4)).take 4):=by
  unfold ib
  rw [if_pos ⟨by omega,by rw [ai9]; simp; omega⟩]
  simp
 have hl:=pU h1
 exact ⟨_,(((s9 a js).drop (j * 4)).take 4)[k]'(by omega),h1,by rw [dD]; exact mN (by omega)⟩
noncomputable def l9(B:Base)(Post:Value→World→Prop)(bm bw bo N J:Nat)(a:Nat→Nat→Bool)(ho:bm≠bw∧bm≠bo∧bw≠bo)(hJ:0 < J)(hN:N≤4):Fx :=
 { P:=prog,B:=B,bm:=bm,bw:=bw,bo:=bo,tm:=194,tw:=201,N:=N,J:=J,cont:=λ js=>.cells (nL a js).toArray 145 (0,0),ho:=ho,hJ:=hJ,hN:=hN,mj:=jD prog B Post }
structure w7 (R:az) (b:Nat) (x:cD) (v1 v2 v3 v4 v5 v6:Value):Prop where
 c:aT R [] b 0 [iv x.book.Rest,v1,v2,v3,v4,v5,v6]
 h1:aa cq 2 R v1 x.book.Rows
 h2:aa cj 2 R v2 x.book.aK
 h3:aa cb 2 R v3 x.book.ax
 h4:aa cp 4 R v4 x.book.ay
 h5:aa bU 3 R v5 x.book.bg
 h6:aa gl 3 R v6 x.fH
theorem w7.up{R R':az}{b:Nat}{x:cD}{v1 v2 v3 v4 v5 v6:Value}(h:w7 R b x v1 v2 v3 v4 v5 v6)(hR:aS R R'):w7 R' b x v1 v2 v3 v4 v5 v6 :=
 ⟨h.c.up hR,h.h1.mono hR,h.h2.mono hR,h.h3.mono hR,h.h4.mono hR,h.h5.mono hR,h.h6.mono hR⟩
theorem aiI{α β:Type}{f:α→Option β}:∀ {xs:List α} {ys:List β},xs.mapM f=some ys→ys.length=xs.length∧∀ (i:Nat) (x:α),xs[i]? = some x→∃ y,ys[i]? = some y∧f x=some y
 | [],ys,h=>by
  simp at h; subst h
  exact ⟨rfl,λ i x hx=>by simp at hx⟩
 | a::xs,ys,h=>by
  rw [List.mapM_cons] at h
  cases ha:f a with
  | none=>rw [ha] at h; simp at h
  | some b =>
   cases hr:xs.mapM f with
   | none=>rw [ha,hr] at h; simp at h
   | some bs =>
    rw [ha,hr] at h
    simp at h
    subst h
    obtain ⟨h1,h2⟩:=aiI hr
    refine ⟨by simp [h1],λ i x hx=>?_⟩
    cases i with
    | zero=>simp at hx; subst hx; exact ⟨b,rfl,ha⟩
    | succ i=>exact h2 i x (by simpa using hx)
noncomputable def H4:Code:=(xY (Tryz.f170.body.getD .skip)).getD .skip
variable {x0:cD} {v1 v2 v3 v4 v5 v6:Value} {bm bw bo N J:Nat} {a:Nat→Nat→Bool} {ho:bm≠bw∧bm≠bo∧bw≠bo} {hJ:0 < J} {hN:N≤4} {b1 bk k:Nat}
theorem asT{tmps:Array Value}{st:St}(ht:dh 30 st tmps)(todo:List Item):Gone (aY (j0 ⟨170,.deferred,none,30,[],[AH prog]⟩ tmps todo) [AH prog]) :=
 QJ.adW (J:=Ae prog 0) func170 ht rfl (.inr rfl) ⟨1,aLS⟩
noncomputable abbrev aco (bw:Nat):Ctx:=⟨170,.deferred,none,30,[dcall 171 #[.pointer (some ⟨bw,0,none⟩)]],[AH prog]⟩
noncomputable abbrev Nw (b1 bk bm bw bo J j:Nat):St:=[(0,pt bw),(1,pt b1),(2,pt bk),(3,pt bm),(4,pt bo),(11,iv (J:Int)),(12,iv (j:Int))]
theorem ald(hB:∀ w:World,B.os w.os→B.os w.later.os)(tR:J≤4)(hk:k < N){j:Nat}(hj:j < J)(ha:rG x0 j k=some (a j k))
  (again:j+1 < J→∀ (n:Nat) (R:az),w7 R b1 x0 v1 v2 v3 v4 v5 v6→aT R [] bk 0 [iv (k:Int)]→At (WJ (l9 B Post bm bw bo N J a ho hJ hN) n k (j+1) .ld) (aco bw) R [] (Nw b1 bk bm bw bo J (j+1)) [.code H4,.inLoop H4,.inBlock 0])
  (n:Nat) (R:az) (hO:w7 R b1 x0 v1 v2 v3 v4 v5 v6) (fe:aT R [] bk 0 [iv (k:Int)]):At (WJ (l9 B Post bm bw bo N J a ho hJ hN) n k j .ld) (aco bw) R [] (Nw b1 bk bm bw bo J j) [.code H4,.inLoop H4,.inBlock 0]:=by
 obtain ⟨cT,cK,cG,cL,cI,cM,jm⟩:=hO
 refine At.seq ?_
 refine At.rg [0] ?_
 refine At.vs 1 rfl rfl ?_
 refine At.aV ?_
 refine At.seq ?_
 refine At.gb rfl (by simp; omega) ?_
 refine At.skip ?_
 refine At.seq ?_
 refine At.bf ?_
 refine At.seq ?_
 refine At.rg [0,1,2] ?_
 refine At.vs 1 rfl rfl ?_
 refine At.jv rfl rfl rfl (Ox.alloc (cs:=#[iv 0]) rfl GJ rfl λ b5 _ _=>⟨_,(.put rfl),?_⟩)
 refine At.jv rfl rfl rfl (Ox.j5 (cs':=#[_]) rfl rfl rfl bd rfl .here rfl rfl rfl (.refl _) ?_)
 refine At.aV ?_
 refine At.rv (H2:=[]) (λ X=>X++[]) .id rfl (λ Rf vp PQ=>?_)
 replace cT:=cT.up (H:=[]) vp
 replace fe:=fe.up (H:=[]) vp
 replace cK:=cK.mono vp
 replace cG:=cG.mono vp
 replace cL:=cL.mono vp
 replace cI:=cI.mono vp
 replace cM:=cM.mono vp
 replace jm:=jm.mono vp
 refine At.seq ?_
 obtain ⟨di,gF,he⟩:∃ di,vQ x0 (λ y=>zO y x0 (k:Int) (j:Int))=some di∧(di == (x0.fH.length:Int))=a j k:=by
  unfold rG at ha
  obtain ⟨x,h1,h2⟩:=ag ha
  exact ⟨x,h1,aA h2⟩
 refine At.dw gH mixed ?_
 refine Any.tk 0 rfl (λ _ h=>h) (λ R' H' hR hS=>Ox.cw (vs:=[_,_,_,_,_,_,_]) rfl rfl eB rfl (((cT.le hR).sub (λ p h=>hS p ((λ _ h=>h) p h))).part (j:=0) (n:=7) rfl) rfl (.one rfl) ⟨rfl,rfl,rfl⟩) ?_
 refine Any.tk 1 rfl (λ _ h=>h) (λ R' H' hR hS=>Ox.makeFunc (vs:=#[]) (us:=#[_,_,_]) rfl rfl rfl rfl (.one rfl) ⟨rfl,rfl,rfl⟩) ?_
 refine Any.vs 1 [3] rfl ?_
 refine Any.tk 4 rfl (λ _ h=>h) (λ R' H' hR hS=>Ox.sU rfl rfl s8 (((cT.le hR).sub (λ p h=>hS p ((λ _ h=>h) p h))).one (j:=6) rfl) rfl (.one rfl) ⟨rfl,rfl,rfl⟩) ?_
 refine Any.tk 5 rfl (λ _ h=>h) (λ R' H' hR hS=>Ox.sT (K:=gl) (k:=3) (xs:=x0.fH) rfl rfl (jm.mono hR) underlying111 rfl (.one rfl) ⟨rfl,rfl,rfl⟩) ?_
 refine Any.cv 2 O9 (Rl x0 (λ y=>zO y x0 (k:Int) (j:Int)) cK cG cL cI cM jm ⟨172,#[],#[_,_,_],rfl,ap1,λ R' H' hR hH y r va hA hr=>by obtain ⟨_,rfl,⟨vO,rfl⟩⟩:=hA; exact (aIR y x0 (k:Int) (j:Int) vO ((cT.le hR).sub (λ p h=>hH p ((λ _ h=>h) p h))) (cK.mono hR) (cG.mono hR) (cL.mono hR) (cI.mono hR) (cM.mono hR) (jm.mono hR) ((fe.le hR).sub (λ p h=>hH p ((λ _ h=>h) p h))) ((PQ.le hR).sub (λ p h=>hH p ((λ _ h=>h) p h))) hr).mono λ _ _ _ ⟨h1,h2,h3⟩=>⟨h1 ▸ aS.refl _,h2.symm,h3⟩⟩ gF) ?_
 rintro _ GU _ ⟨ix,rfl,rfl⟩
 replace cK:=cK.mono ix
 replace cG:=cG.mono ix
 replace cL:=cL.mono ix
 replace cI:=cI.mono ix
 replace cM:=cM.mono ix
 replace jm:=jm.mono ix
 replace cT:=cT.le ix
 replace fe:=fe.le ix
 replace PQ:=PQ.le ix
 refine ⟨ix,(aGN (λ _ h=>h)),?_⟩
 refine Any.vs 2 [6,7] rfl ?_
 refine Any.done ?_
 refine At.sub (st':=(6,.bool (a j k))::(5,pt b5)::Nw b1 bk bm bw bo J j) (cz.sub ⟨congrArg (λ z=>some (Value.bool z)) he,rfl,rfl,rfl,rfl,rfl,rfl,rfl,rfl,trivial⟩) ?_
 refine At.seq ?_
 refine At.rg [0] ?_
 refine At.xZ rfl rfl rfl rfl rfl ap2 rfl (aHT (F:=l9 B Post bm bw bo N J a ho hJ hN) hB n) λ aZ bn n js iT=>(?_:At (WJ (l9 B Post bm bw bo N J a ho hJ hN) n k j (.ul js)) _ _ _ _ _) aZ bn
 refine At.aV ?_
 refine At.seq ?_
 obtain ⟨pg,eG,ub,gQ⟩:=aME (a:=a) (js:=js) (k:=k) (j:=j) (by omega) (by omega)
 have l4:=ai9 a js
 show At _ _ _ [(bo,.cells (nL a js).toArray 145 (0,0))] _ _
 rw [ai8]
 refine At.draw (n:=6) (is:=[0,1,2,3,4,5]) (many ((bo,.cells (List.toArray ([]++((s9 a js).map Value.bool++[]))) 145)::[]) [(5,[])]) mixed rfl (by decide +kernel) rfl rfl ?_
 refine Any.F6 (i:=0) [3,4,5] rfl rfl rfl (by decide +kernel) (aR rfl (bE (λ _ h=>(List.Sublist.subset (List.Sublist.cons _ (List.Sublist.refl _))) h))) (λ _ h=>(List.Sublist.subset (List.Sublist.cons _ (List.Sublist.refl _))) h) (λ R' H' hR hS=>Ox.sU rfl rfl bd (((PQ.le hR).sub (λ p h=>hS p ((λ _ h=>h) p h))).one (j:=0) rfl) rfl (.one rfl) ⟨rfl,rfl,rfl⟩) (.refl _) (by decide) (qN:=[1,2,3,4,5]) rfl ?_
 refine Any.F6 (i:=1) [4,5] rfl rfl rfl (by decide +kernel) (aR rfl (bE (λ _ h=>(List.Sublist.subset (List.Sublist.cons _ (List.Sublist.refl _))) h))) (λ _ h=>(List.Sublist.subset (List.Sublist.cons _ (List.Sublist.refl _))) h) (λ R' H' hR hS=>Ox.sU rfl rfl bd (((fe.le hR).sub (λ p h=>hS p ((λ _ h=>h) p h))).one (j:=0) rfl) rfl (.one rfl) ⟨rfl,rfl,rfl⟩) (.refl _) (by decide) (qN:=[2,3,4,5]) rfl ?_
 refine Any.vs 1 [2] rfl ?_
 refine Any.F6 (i:=3) [4,5] rfl rfl rfl (by decide +kernel) (aR rfl (bE (λ _ h=>(List.Sublist.subset (List.Sublist.cons _ (List.Sublist.refl _))) h))) (λ _ h=>(List.Sublist.subset (List.Sublist.cons _ (List.Sublist.refl _))) h) (λ R' H' hR hS=>Ox.Q7 rfl rfl rfl (xW xe l4 (by decide) ub) rfl (.one rfl) ⟨rfl,rfl,rfl⟩) (.refl _) (by decide) (qN:=[4,5]) rfl ?_
 refine Any.F6 (i:=4) [5] rfl rfl rfl (by decide +kernel) (aR rfl (bE (λ _ h=>(List.Sublist.subset (List.Sublist.cons _ (List.Sublist.refl _))) h))) (λ _ h=>(List.Sublist.subset (List.Sublist.cons _ (List.Sublist.refl _))) h) (λ R' H' hR hS=>Ox.Q7 rfl rfl rfl (pM rX (pU ub) gQ) rfl (.one rfl) ⟨rfl,rfl,rfl⟩) (.refl _) (by decide) (qN:=[5]) rfl ?_
 refine Any.on 5 rfl rfl (bc.to (Ox.j5 rfl rfl rfl ju rfl .here (Us ub gQ rfl) (Uu ub gQ rfl) rfl (.refl _) ⟨aS.refl _,(df rfl (λ _ h=>(List.Sublist.subset (List.Sublist.cons _ (List.Sublist.refl _))) h)),?_⟩))
 refine Any.done ?_
 rw [← aLa (a:=a) (by omega) (by omega) iT]
 refine At.rg [0] ?_
 have eD:i64 ((j:Int)+1)=((j+1:Nat):Int):=by rw [Q4 (by omega)]; omega
 refine At.xZ rfl rfl rfl rfl rfl ap3 rfl (aNx (F:=l9 B Post bm bw bo N J a ho hJ hN) (js:=js) (show j+1≤J by omega) n) λ aZ bn=>⟨λ h n=>(?_:At (WJ (l9 B Post bm bw bo N J a ho hJ hN) n k (j+1) .ld) _ _ _ _ _) aZ bn,λ h n=>(?_:At (WJ (l9 B Post bm bw bo N J a ho hJ hN) n k (j+1) .wv) _ _ _ _ _) aZ bn⟩
 ·refine At.aV ?_
  refine At.bQ ?_
  refine At.rg [0,1] ?_
  refine At.vs 2 rfl rfl ?_
  refine At.aV ?_
  refine At.inLoop ?_
  refine At.sub ?_ (again h n _ ⟨cT,cK,cG,cL,cI,cM,jm⟩ fe)
  exact cz.sub ⟨rfl,rfl,rfl,rfl,rfl,rfl,congrArg (λ z=>some (iv z)) eD,trivial⟩
 ·have hJe:j+1=J:=h
  refine At.aV ?_
  refine At.bQ ?_
  refine At.rg [0,1] ?_
  refine At.vs 2 rfl rfl ?_
  refine At.aV ?_
  refine At.inLoop ?_
  refine At.sub (st':=Nw b1 bk bm bw bo J (j+1)) (cz.sub ⟨rfl,rfl,rfl,rfl,rfl,rfl,congrArg (λ z=>some (iv z)) eD,trivial⟩) ?_
  refine At.seq ?_
  refine At.rg [0] ?_
  refine At.vs 1 rfl rfl ?_
  refine At.aV ?_
  refine At.seq ?_
  refine At.eX rfl (by simp; omega) ?_
  refine At.cF rfl ?_
  refine At.toEnd rfl λ tmps ht=>?_
  exact Jd.unwind rfl func171 rfl rfl (apr (F:=l9 B Post bm bw bo N J a ho hJ hN) (.inl rfl) (asT ht _) n)
theorem alb(hB:∀ w:World,B.os w.os→B.os w.later.os)(tR:J≤4)(hk:k < N)(ha:∀ j,j < J→rG x0 j k=some (a j k)):∀ (m j:Nat),J=j+m+1→∀ (n:Nat) (R:az),w7 R b1 x0 v1 v2 v3 v4 v5 v6→aT R [] bk 0 [iv (k:Int)] →
  At (WJ (l9 B Post bm bw bo N J a ho hJ hN) n k j .ld) (aco bw) R [] (Nw b1 bk bm bw bo J j) [.code H4,.inLoop H4,.inBlock 0]
 | 0,j,hm,n,R,hO,hc=>ald hB tR hk (by omega) (ha j (by omega)) (λ h=>by omega) n R hO hc
 | m+1,j,hm,n,R,hO,hc=>ald hB tR hk (by omega) (ha j (by omega)) (λ _ n R hO hc=>alb hB tR hk ha m (j+1) (by omega) n R hO hc) n R hO hc
theorem aOv(hB:∀ w:World,B.os w.os→B.os w.later.os)(tR:J≤4)(DW:x0.book.ay.length=J)(hk:k < N)(ha:∀ j,j < J→rG x0 j k=some (a j k))(n:Nat){R:az}(hO:w7 R b1 x0 v1 v2 v3 v4 v5 v6)(hc:aT R [] bk 0 [iv (k:Int)]) :
  Own prog B false (KW (FT (l9 B Post bm bw bo N J a ho hJ hN)) n k 0 .ld) R [] (aY (Frame.enter prog 170 (#[]++#[pt bw,pt b1,pt bk,pt bm,pt bo]) .deferred) [AH prog]):=by
 refine Jd.enter (ab:=WJ (l9 B Post bm bw bo N J a ho hJ hN) n k 0 .ld) (args:=[pt bw,pt b1,pt bk,pt bm,pt bo]) func170 rfl (m:=30) rfl rfl ?_
 refine At.seq ?_
 refine At.rg [0] ?_
 refine At.defer rfl rfl rfl rfl rfl rfl rfl (.RQ rfl) ?_
 refine At.aV ?_
 refine At.seq ?_
 refine At.rg [0,1,2,3,4,5] ?_
 refine At.vs 3 rfl rfl ?_
 refine At.jv rfl rfl rfl (Ox.sU rfl rfl iK (hO.c.any.one (j:=4) rfl) rfl (.put rfl) ?_)
 refine At.jv rfl rfl rfl (Ox.sT (K:=cp) (k:=4) (xs:=x0.book.ay) rfl rfl hO.h4 underlying25 rfl (.put rfl) ?_)
 refine At.vs 1 rfl rfl ?_
 refine At.aV ?_
 refine At.bf ?_
 refine At.enterLoop ?_
 refine At.sub ?_ (alb (m:=J - 1) (j:=0) hB tR hk ha (by omega) n R hO hc)
 exact cz.sub ⟨rfl,rfl,rfl,rfl,rfl,by rw [← DW]; rfl,rfl,trivial⟩
noncomputable def H3:Code:=(xY (Tryz.f123.body.getD .skip)).getD .skip
abbrev RA(b1 b2 bo bm bw:Nat):St:=[(1,pt b1),(2,pt b2),(3,pt bo),(4,pt bm),(5,pt bw)]
theorem aj6{c:Ctx}(fC:c.n=20)(BG:c.kind = .normal)(BI:c.ro=none){b2:Nat}{H0:ah}{K:List Item}(hB:∀ w:World,B.os w.os→B.os w.later.os)(tR:J≤4)(DW:x0.book.ay.length=J)(ha:∀ j k,j < J→k < N→rG x0 j k=some (a j k)){r i n:Nat}{R':az}(hi:N=i+r+1)
  (next:∀ (n:Nat) (cZ:az),aS R' cZ→At (gM (l9 B Post bm bw bo N J a ho hJ hN) n (ln r)) c cZ H0 ((11,iv (N:Int))::(12,iv ((i+1:Nat):Int))::RA b1 b2 bo bm bw) (.code H3 :: .inLoop H3 :: .inBlock 0::K))
  (hO:w7 R' b1 x0 v1 v2 v3 v4 v5 v6) :
  At (gM (l9 B Post bm bw bo N J a ho hJ hN) n (.ka r)) c R' H0 ((11,iv (N:Int))::(12,iv (i:Int))::RA b1 b2 bo bm bw) (.code H3 :: .inLoop H3 :: .inBlock 0::K):=by
 obtain ⟨cf,ck,cr,cn,cd,ccs⟩:=c
 simp only at fC BG BI
 subst fC BG BI
 refine At.seq ?_
 refine At.rg [0] ?_
 refine At.vs 1 rfl rfl ?_
 refine At.aV ?_
 refine At.seq ?_
 refine At.gb rfl (by simp; omega) ?_
 refine At.skip ?_
 refine At.seq ?_
 refine At.bf ?_
 refine At.seq ?_
 refine At.rg [0,1,2] ?_
 refine At.vs 1 rfl rfl ?_
 refine At.jv rfl rfl rfl (Ox.alloc (cs:=#[iv 0]) rfl GJ rfl λ b6 _ _=>⟨_,(.put rfl),?_⟩)
 refine At.jv rfl rfl rfl (Ox.j5 (cs':=#[_]) rfl rfl rfl bd rfl .here rfl rfl rfl (.refl _) ?_)
 refine At.aV ?_
 refine At.rv (H2:=H0) (λ X=>X++H0) .id rfl (λ Rf vp hc6=>?_)
 replace hO:=hO.up vp
 refine At.seq ?_
 refine At.rg [0] ?_
 refine At.xZ rfl rfl rfl rfl rfl afe rfl (aKe (F:=l9 B Post bm bw bo N J a ho hJ hN) r n) λ aZ bn n=>(?_:At (gM (l9 B Post bm bw bo N J a ho hJ hN) n (.go r)) _ _ _ _ _) aZ bn
 refine At.aV ?_
 refine At.rg [0,1] ?_
 refine At.jv rfl rfl rfl (Ox.makeFunc (vs:=#[]) (us:=#[_,_,_,_,_]) rfl rfl rfl rfl (.put rfl) ?_)
 have eD:i64 ((i:Int)+1)=((i+1:Nat):Int):=by rw [Q4 (by omega)]; omega
 refine sM λ m hm=>KM.spawn (F:=FT (l9 B Post bm bw bo N J a ho hJ hN)) (d:=⟨.fn (.func 170) #[pt bw,pt b1,pt b6,pt bm,pt bo],#[]⟩) rfl rfl rfl (aMa rfl rfl rfl) rfl rfl ?_ λ aZ bn=>(?_:At (gM (l9 B Post bm bw bo N J a ho hJ hN) m (ln r)) _ _ _ _ _) aZ bn
 ·refine Own.child rfl (aNP ap0) ?_
  have ei:N - (r+1)=i:=by omega
  show Own _ _ _ (KW _ m (N - (r+1)) 0 .ld) _ _ _
  rw [ei]
  exact aOv (k:=i) hB tR DW (by omega) (λ j hj=>ha j i hj (by omega)) m hO hc6
 ·refine At.aV ?_
  refine At.bQ ?_
  refine At.rg [0,1] ?_
  refine At.vs 2 rfl rfl ?_
  refine At.aV ?_
  refine At.inLoop ?_
  refine At.sub ?_ (next m Rf vp)
  exact cz.sub ⟨rfl,congrArg (λ z=>some (iv z)) eD,rfl,rfl,rfl,rfl,rfl,trivial⟩
theorem aj5{c:Ctx}(fC:c.n=20)(BG:c.kind = .normal)(BI:c.ro=none){b2:Nat}{H0:ah}{K:List Item}(hB:∀ w:World,B.os w.os→B.os w.later.os)(tR:J≤4)(DW:x0.book.ay.length=J)(ha:∀ j k,j < J→k < N→rG x0 j k=some (a j k))
  (agJ:∀ (n:Nat) (R':az),aS R R'→At (gM (l9 B Post bm bw bo N J a ho hJ hN) n .wa) c R' H0 (RA b1 b2 bo bm bw) K):∀ (r i n:Nat) (R':az),N=i+r+1→aS R R'→w7 R' b1 x0 v1 v2 v3 v4 v5 v6 →
  At (gM (l9 B Post bm bw bo N J a ho hJ hN) n (.ka r)) c R' H0 ((11,iv (N:Int))::(12,iv (i:Int))::RA b1 b2 bo bm bw) (.code H3 :: .inLoop H3 :: .inBlock 0::K)
 | 0,i,n,R',hi,hR,hO=>aj6 fC BG BI hB tR DW ha hi (λ n cZ tS=>by
   obtain ⟨cf,ck,cr,cn,cd,ccs⟩:=c
   simp only at fC BG BI
   subst fC BG BI
   refine At.seq ?_
   refine At.rg [0] ?_
   refine At.vs 1 rfl rfl ?_
   refine At.aV ?_
   refine At.seq ?_
   refine At.eX rfl (by rw [decide_eq_false_iff_not]; omega) ?_
   refine At.cF rfl ?_
   refine At.sub ?_ (agJ n cZ (hR.trans tS))
   exact cz.sub ⟨rfl,rfl,rfl,rfl,rfl,trivial⟩) hO
 | r+1,i,n,R',hi,hR,hO=>aj6 fC BG BI hB tR DW ha hi (λ n cZ tS=>aj5 fC BG BI hB tR DW ha agJ r (i+1) n cZ (by omega) (hR.trans tS) (hO.up tS)) hO
theorem anm{x0:cD}{r:List Bool}(V2:x0.book.ay.length≤4)(KI:x0.book.ax.length≤4)
  (hr:(((List.range 16).mapM λ (p:Nat)=>if p / 4 < x0.book.ay.length∧p % 4 < x0.book.ax.length then rG x0 (p / 4) (p % 4) else some false):Option (List Bool))=some r) :
  ∃ a:Nat→Nat→Bool,r.length=16∧(∀ i k,i < x0.book.ay.length→k < x0.book.ax.length→rG x0 i k=some (a i k))∧∀ js,(∀ k,k < x0.book.ax.length→js k=x0.book.ay.length)→nL a js=[]++(r.map Value.bool++[]):=by
 obtain ⟨hlen,vx⟩:=aiI hr
 rw [List.length_range] at hlen
 have PT:∀ i k,i < 4→k < 4→∃ y,r[4 * i+k]? = some y∧(if i < x0.book.ay.length∧k < x0.book.ax.length then rG x0 i k else some false)=some y:=λ i k hi hk=>by
  obtain ⟨y,g1,g2⟩:=vx (4 * i+k) (4 * i+k) (List.getElem?_range (by omega))
  rw [show (4 * i+k) / 4=i by omega,show (4 * i+k) % 4=k by omega] at g2
  exact ⟨y,g1,g2⟩
 refine ⟨λ i k=>(r[4 * i+k]?).getD false,hlen,λ i k hi hk=>?_,λ js iT=>?_⟩
 ·obtain ⟨y,g1,g2⟩:=PT i k (by omega) (by omega)
  rw [if_pos ⟨hi,hk⟩] at g2
  rw [g2]
  show some y=some ((r[4 * i+k]?).getD false)
  rw [g1]; rfl
 ·apply List.ext_getElem?
  intro p
  rcases Nat.lt_or_ge p 16 with hp | hp
  ·rw [abl hp]
   obtain ⟨y,g1,g2⟩:=PT (p / 4) (p % 4) (by omega) (by omega)
   rw [show 4 * (p / 4)+p % 4=p by omega] at g1
   simp only [List.nil_append,List.append_nil,List.getElem?_map,show 4 * (p / 4)+p % 4=p by omega,g1,Option.map_some,oz]
   by_cases qy:p / 4 < x0.book.ay.length∧p % 4 < x0.book.ax.length
   ·rw [iT _ qy.2,gk qy.1,Bool.true_and]
   ·rw [if_neg qy] at g2
    rw [← aA g2,Bool.and_false]
  ·rw [List.getElem?_eq_none (by simp [nL]; exact hp),List.getElem?_eq_none (by simp [hlen]; exact hp)]
theorem ann(hB:∀ w:World,B.os w.os→B.os w.later.os):wZ (FE prog B Post):=by
 intro R H x0 v1 v2 v3 v4 v5 v6 h1 h2 h3 h4 h5 h6 r hr
 unfold um at hr
 split at hr
 case isFalse=>cases hr
 rename_i hc
 obtain ⟨⟨V1,V2⟩,hN0,KI⟩:=hc
 obtain ⟨a,hlen,ha,zh⟩:=anm V2 KI hr
 refine ba.oX (args:=[.agg #[iv x0.book.Rest,v1,v2,v3,v4,v5,v6]]) func123 rfl (n:=20) rfl rfl λ fr cs hk=>?_
 refine At.seq ?_
 refine At.rg [0,1] ?_
 refine At.jv rfl rfl rfl (Ox.ad3 rfl rfl rfl λ b1 _ _=>⟨_,(.put rfl),?_⟩)
 refine At.jv rfl rfl rfl (Ox.alloc (cs:=#[.bool false,.bool false,.bool false,.bool false,.bool false,.bool false,.bool false,.bool false,.bool false,.bool false,.bool false,.bool false,.bool false,.bool false,.bool false,.bool false]) rfl je rfl λ b2 _ _=>⟨_,(.put rfl),?_⟩)
 refine At.aV ?_
 refine At.seq ?_
 refine At.rg [0] ?_
 refine At.jv rfl rfl rfl (Ox.alloc (cs:=#[.bool false,.bool false,.bool false,.bool false,.bool false,.bool false,.bool false,.bool false,.bool false,.bool false,.bool false,.bool false,.bool false,.bool false,.bool false,.bool false]) rfl je rfl λ b3 _ n3=>⟨_,(.put rfl),?_⟩)
 refine At.aV ?_
 refine At.seq ?_
 refine At.rg [0] ?_
 refine At.jv rfl rfl rfl (Ox.alloc (cs:=#[.int .i32 0,.int .u32 0]) rfl aOF rfl λ b4 _ n4=>⟨_,(.put rfl),?_⟩)
 refine At.aV ?_
 refine At.seq ?_
 refine At.rg [0] ?_
 refine At.jv rfl rfl rfl (Ox.alloc (cs:=#[.int .u64 0,.int .u32 0]) rfl aOG rfl λ b5 _ n5=>⟨_,(.put rfl),?_⟩)
 refine At.aV ?_
 have ho:b4≠b5∧b4≠b3∧b5≠b3:=⟨λ e=>by subst e; exact n5 _ (List.mem_cons_self),λ e=>by subst e; exact n4 _ (List.mem_cons_self),λ e=>by subst e; exact n5 _ (List.mem_cons_of_mem _ (List.mem_cons_self))⟩
 clear n3 n4 n5
 refine At.seq ?_
 refine At.seq ?_
 refine At.rg [0,1,2,3,4,5] ?_
 refine At.vs 3 rfl rfl ?_
 refine At.jv rfl rfl rfl (Ox.sU rfl rfl jr ((aT.box (L:=[iv x0.book.Rest,v1,v2,v3,v4,v5,v6]) (.tail _ (.tail _ (.tail _ (.tail _ (.head _)))))).one (j:=3) rfl) rfl (.put rfl) ?_)
 refine At.jv rfl rfl rfl (Ox.sT (K:=cb) (k:=2) (xs:=x0.book.ax) rfl rfl h3 underlying24 rfl (.put rfl) ?_)
 refine At.vs 1 rfl rfl ?_
 refine At.aV ?_
 refine At.bf ?_
 refine At.rv (H2:=(b5,_)::(b4,_)::(b3,_)::(b2,_)::H) (λ X=>(b5,_)::(b4,_)::(b3,_)::(b2,_)::X++H) (.cons (.cons (.cons (.cons .id)))) rfl (λ R1 DY cT=>?_)
 have hO:w7 R1 b1 x0 v1 v2 v3 v4 v5 v6:=⟨cT,h1.mono DY,h2.mono DY,h3.mono DY,h4.mono DY,h5.mono DY,h6.mono DY⟩
 refine At.enterLoop ?_
 refine At.perm (H':=(b3,_)::(b5,_)::(b4,_)::(b2,_)::H) ((List.Perm.swap _ _ _).trans (List.Perm.cons _ (List.Perm.swap _ _ _))) ?_
 have e0:Obj.cells (nL a λ _=>0).toArray 145 (0,0)=Obj.cells #[.bool false,.bool false,.bool false,.bool false,.bool false,.bool false,.bool false,.bool false,.bool false,.bool false,.bool false,.bool false,.bool false,.bool false,.bool false,.bool false] 145 (0,0):=by rw [aLc]; rfl
 rw [← e0]
 intro tmps ht
 refine jD.crowd (F:=l9 B Post b4 b5 b3 x0.book.ax.length x0.book.ay.length a ho V1 KI) (r:=x0.book.ax.length - 1) rfl (show x0.book.ax.length=x0.book.ax.length - 1+1 by omega) λ n=>?_
 refine (?_:At (gM (l9 B Post b4 b5 b3 x0.book.ax.length x0.book.ay.length a ho V1 KI) n (.ka (x0.book.ax.length - 1))) _ _ _ _ _) tmps ht
 refine At.sub ?_ (aj5 (c:=⟨123,.normal,none,20,[],fr::cs⟩) (b2:=b2) (R:=R1) rfl rfl rfl hB V2 rfl ha (λ n R' KJ=>?_) (x0.book.ax.length - 1) 0 n R1 (by omega) (aS.refl _) hO)
 ·exact cz.sub ⟨rfl,rfl,rfl,rfl,rfl,rfl,rfl,trivial⟩
 ·refine At.seq ?_
  refine At.rg [0] ?_
  refine At.xZ rfl rfl rfl rfl rfl ap4 rfl (aOn (F:=l9 B Post b4 b5 b3 x0.book.ax.length x0.book.ay.length a ho V1 KI) (Post:=Post) rfl n) λ aZ bn js iT=>(?_:At (FE prog B Post) _ _ _ _ _) aZ bn
  refine At.aV ?_
  refine At.seq ?_
  show At _ _ _ ((b3,.cells (nL a js).toArray 145 (0,0))::_) _ _
  rw [zh js iT]
  refine At.rg [0,1] ?_
  refine At.jv rfl rfl rfl (Ox.cw (vs:=_) rfl rfl db (by simp [hlen]) ((aT.box (.head _)).part (j:=0) (n:=16) (fM (by simp [hlen]))) rfl (.put rfl) ?_)
  refine At.jv rfl rfl rfl (Ox.gR (cs':=_) rfl rfl rfl db (by simp [hlen]) (fK cJ (fK (mi λ _=>rfl) cJ)) (.there .here) (by simp [nL]) (lQ (by simp [hlen,nL])) rfl (.refl _) ?_)
  refine At.aV ?_
  exact At.FU func123 (.agg rfl db (by simp [hlen]) (aT.box (.tail _ (.head _))) .nil) (J.drop (List.Sublist.cons _ (List.Sublist.cons _ (List.Sublist.refl _))) (hk _ _ _ ⟨DY.trans KJ,rfl,hlen,rfl⟩))
end
open Go.ChangeShapes Go.WideShapes Go.ChangeAt Go.RowKit
theorem uF:iG prog 3 (CI .i64) 1:=iG.int (by kernel_rfl) underlying3
theorem aL5:iG prog 9 CS 1:=iG.str (by kernel_rfl) underlying9
def CBo:cQ Bool:=λ _ x es=>es=[.bool x]
theorem aL2:iG prog 4 CBo 1:=⟨by kernel_rfl,λ W T enc sp held fuel cs x h=>by
 obtain ⟨b,rfl,_⟩:=DataW.trod_bool underlying4 h
 exact ⟨rfl,b,rfl⟩⟩
theorem aL3:iG prog 41 cj 2:=⟨by kernel_rfl,λ W T enc sp held fuel cs x h=>by
 obtain ⟨xs,n,_,_,hl,hx,hf⟩:=DataW.trod_struct underlying41 h
 have hc:cs.length=2:=hl.trans (by kernel_rfl)
 match cs,hc with
 | [c0,c1],_ =>
  obtain ⟨a0,h0⟩:=uF.field [c0] hx (hf 0 _ rfl)
  obtain ⟨a1,h1⟩:=uF.field [c1] hx (hf 1 _ rfl)
  cases h0; cases h1
  exact ⟨rfl,⟨a0,a1⟩,rfl⟩⟩
theorem aL4:iG prog 64 cq 2:=⟨by kernel_rfl,λ W T enc sp held fuel cs x h=>by
 obtain ⟨xs,n,_,_,hl,hx,hf⟩:=DataW.trod_struct underlying64 h
 have hc:cs.length=2:=hl.trans (by kernel_rfl)
 match cs,hc with
 | [c0,c1],_ =>
  obtain ⟨a0,h0⟩:=uF.field [c0] hx (hf 0 _ rfl)
  obtain ⟨a1,h1⟩:=uF.field [c1] hx (hf 1 _ rfl)
  cases h0; cases h1
  exact ⟨rfl,⟨a0,a1⟩,rfl⟩⟩
theorem aL6:iG prog 93 cb 2:=⟨by kernel_rfl,λ W T enc sp held fuel cs x h=>by
 obtain ⟨xs,n,_,_,hl,hx,hf⟩:=DataW.trod_struct underlying93 h
 have hc:cs.length=2:=hl.trans (by kernel_rfl)
 match cs,hc with
 | [c0,c1],_ =>
  obtain ⟨a0,h0⟩:=aL5.field [c0] hx (hf 0 _ rfl)
  obtain ⟨a1,h1⟩:=uF.field [c1] hx (hf 1 _ rfl)
  cases h0; cases h1
  exact ⟨rfl,⟨a0,a1⟩,rfl⟩⟩
theorem aL7:iG prog 96 cp 4:=⟨by kernel_rfl,λ W T enc sp held fuel cs x h=>by
 obtain ⟨xs,n,_,_,hl,hx,hf⟩:=DataW.trod_struct underlying96 h
 have hc:cs.length=4:=hl.trans (by kernel_rfl)
 match cs,hc with
 | [c0,c1,c2,c3],_ =>
  obtain ⟨a0,h0⟩:=uF.field [c0] hx (hf 0 _ rfl)
  obtain ⟨a1,h1⟩:=uF.field [c1] hx (hf 1 _ rfl)
  obtain ⟨a2,h2⟩:=uF.field [c2] hx (hf 2 _ rfl)
  obtain ⟨a3,h3⟩:=uF.field [c3] hx (hf 3 _ rfl)
  cases h0; cases h1; cases h2; cases h3
  exact ⟨rfl,⟨a0,a1,a2,a3⟩,rfl⟩⟩
theorem ajC:iG prog 59 bU 3:=⟨by kernel_rfl,λ W T enc sp held fuel cs x h=>by
 obtain ⟨xs,n,_,_,hl,hx,hf⟩:=DataW.trod_struct underlying59 h
 have hc:cs.length=3:=hl.trans (by kernel_rfl)
 match cs,hc with
 | [c0,c1,c2],_ =>
  obtain ⟨a0,h0⟩:=uF.field [c0] hx (hf 0 _ rfl)
  obtain ⟨a1,h1⟩:=uF.field [c1] hx (hf 1 _ rfl)
  obtain ⟨a2,h2⟩:=aL2.field [c2] hx (hf 2 _ rfl)
  cases h0; cases h1; cases h2
  exact ⟨rfl,⟨a0,a1,a2⟩,rfl⟩⟩
theorem aLW:iG prog 22 (lC cq 2) 1:=iG.slice (by kernel_rfl) underlying22 (by decide) aL4
theorem aLX:iG prog 23 (lC cj 2) 1:=iG.slice (by kernel_rfl) underlying23 (by decide) aL3
theorem aLY:iG prog 24 (lC cb 2) 1:=iG.slice (by kernel_rfl) underlying24 (by decide) aL6
theorem aLZ:iG prog 25 (lC cp 4) 1:=iG.slice (by kernel_rfl) underlying25 (by decide) aL7
theorem aL0:iG prog 26 (lC bU 3) 1:=iG.slice (by kernel_rfl) underlying26 (by decide) ajC
theorem aL1:iG prog 28 TN 6:=⟨by kernel_rfl,λ W T enc sp held fuel cs x h=>by
 obtain ⟨xs,n,_,_,hl,hx,hf⟩:=DataW.trod_struct underlying28 h
 have hc:cs.length=6:=hl.trans (by kernel_rfl)
 match cs,hc with
 | [c0,c1,c2,c3,c4,c5],_ =>
  obtain ⟨a0,h0⟩:=uF.field [c0] hx (hf 0 _ rfl)
  obtain ⟨a1,v1,h1,g1⟩:=aLW.field [c1] hx (hf 1 _ rfl)
  obtain ⟨a2,v2,h2,g2⟩:=aLX.field [c2] hx (hf 2 _ rfl)
  obtain ⟨a3,v3,h3,g3⟩:=aLY.field [c3] hx (hf 3 _ rfl)
  obtain ⟨a4,v4,h4,g4⟩:=aLZ.field [c4] hx (hf 4 _ rfl)
  obtain ⟨a5,v5,h5,g5⟩:=aL0.field [c5] hx (hf 5 _ rfl)
  cases h0; cases h1; cases h2; cases h3; cases h4; cases h5
  exact ⟨rfl,⟨a0,a1,a2,a3,a4,a5⟩,c1,c2,c3,c4,c5,g1,g2,g3,g4,g5,rfl⟩⟩
section
variable {W:World} {T:Type} {enc:TypeId × Value→T} {b0:Nat} {v:Value} {d:DataW T} {p:List MemPlace}
theorem aoj(hv:Value.okWide prog W .any b0 28 v)(h:DataW.Trod enc prog W 0 (λ _=>true) true 28 v d p) :
  ∃ (x:aj) (v1 v2 v3 v4 v5:Value),v = .agg #[iv x.Rest,v1,v2,v3,v4,v5]∧aa cq 2 (sF W) v1 x.Rows∧aa cj 2 (sF W) v2 x.aK∧aa cb 2 (sF W) v3 x.ax∧aa cp 4 (sF W) v4 x.ay∧aa bU 3 (sF W) v5 x.bg:=by
 obtain ⟨cs,rfl,_⟩:=okWide_struct underlying28 hv
 obtain ⟨fuel,hf⟩:=h
 obtain ⟨_,x,v1,v2,v3,v4,v5,h1,h2,h3,h4,h5,e⟩:=aL1.rd _ _ _ _ _ _ _ _ hf
 exact ⟨x,v1,v2,v3,v4,v5,by rw [← Array.toArray_toList (xs:=cs),show cs.toList=_ from e],h1,h2,h3,h4,h5⟩
theorem Uq(hv:Value.okWide prog W .any b0 5 v)(h:DataW.Trod enc prog W 0 (λ _=>true) true 5 v d p):∃ x:Int,v = .int .u8 x∧0≤x∧x < 256:=by
 obtain ⟨x,rfl,_,_,hw⟩:=open_int underlying5 hv h
 simp only [Lit.wf,fF,IntKind.min,IntKind.max,IntKind.signed,IntKind.bits] at hw
 simp at hw
 exact ⟨x,rfl,by omega,by omega⟩
theorem aok(hv:Value.okWide prog W .any b0 59 v)(h:DataW.Trod enc prog W 0 (λ _=>true) true 59 v d p):∃ x:dp,v = .agg #[iv x.Place,iv x.iQ,.bool x.mO]:=by
 obtain ⟨cs,rfl,_⟩:=okWide_struct underlying59 hv
 obtain ⟨fuel,hf⟩:=h
 obtain ⟨_,x,e⟩:=ajC.rd _ _ _ _ _ _ _ _ hf
 exact ⟨x,by rw [← Array.toArray_toList (xs:=cs),show cs.toList=_ from e]⟩
end
theorem asQ:prog.globalNamed "lagan/stint.checks"=some 0:=by kernel_rfl
theorem aNj:(prog.globals[0]?).map (·.type)=some 180:=by kernel_rfl
abbrev Mq:List (String × DataW Unit):=[("lagan/stint.checks",Rows.laid_lagan_stint_checks)]
theorem aps(os:Os)(args:Array Value):laidMetH prog Mq ((World.doorLaid prog 14 os).forCall (λ _ _=>0) ⟨#[],args,[]⟩).memory :=
 laidMetH_of_parts3 (fuel:=8) (laidMet_of_run' 8 (by kernel_rfl) (by kernel_rfl)) (by kernel_rfl) (by kernel_rfl)
theorem aKJ{W:World}(h:laidMetH prog Mq W):jf (sF W):=by
 obtain ⟨g,t,cs,fuel,p,hg,ht,hv,hd⟩:=h.funcs (n := "lagan/stint.checks") (List.mem_cons_self ..)
 obtain rfl:=kz (asQ.symm.trans hg)
 obtain rfl:=kz (aNj.symm.trans ht)
 obtain ⟨xs,n,_,hx,hlen,hn,mE⟩:=DataW.trod_array underlying180 (show DataW.trod (funcToken prog) prog W 0 (λ _=>true) true fuel 180 cs.toList=some (.agg [.held [40,108,97,103,97,110,47,115,116,105,110,116,46,98,111,111,107,41,46,114,101,115,116],.held [40,108,97,103,97,110,47,115,116,105,110,116,46,98,111,111,107,41,46,116,97,98,108,101],.held [40,108,97,103,97,110,47,115,116,105,110,116,46,98,111,111,107,41,46,112,108,97,99,101,115],.held [40,108,97,103,97,110,47,115,116,105,110,116,46,98,111,111,107,41,46,109,101,110],.held [40,108,97,103,97,110,47,115,116,105,110,116,46,98,111,111,107,41,46,100,105,118,101,115],.held [40,108,97,103,97,110,47,115,116,105,110,116,46,98,111,111,107,41,46,115,111,117,110,100,105,110,103,115]],p) from hd)
 rw [show prog.cellsOf 125=1 by kernel_rfl] at mE
 have hl:cs.toList.length=6:=hlen.trans (by kernel_rfl)
 obtain ⟨cs⟩:=cs
 simp only at hl mE
 match xs,hn,cs,hl with
 | [x0,x1,x2,x3,x4,x5],_,[c0,c1,c2,c3,c4,c5],_ =>
  simp only [Prod.mk.injEq,DataW.agg.injEq,List.map_cons,List.map_nil,List.cons.injEq,and_true] at hx
  obtain ⟨⟨e0,e1,e2,e3,e4,e5⟩,_⟩:=hx
  obtain ⟨x0,q0⟩:=x0
  obtain ⟨x1,q1⟩:=x1
  obtain ⟨x2,q2⟩:=x2
  obtain ⟨x3,q3⟩:=x3
  obtain ⟨x4,q4⟩:=x4
  obtain ⟨x5,q5⟩:=x5
  simp only at e0 e1 e2 e3 e4 e5
  subst e0 e1 e2 e3 e4 e5
  obtain rfl:=func_of_trod (f0:=265) underlying125 (by kernel_rfl) (mE 0 (by decide))
  obtain rfl:=func_of_trod (f0:=266) underlying125 (by kernel_rfl) (mE 1 (by decide))
  obtain rfl:=func_of_trod (f0:=267) underlying125 (by kernel_rfl) (mE 2 (by decide))
  obtain rfl:=func_of_trod (f0:=268) underlying125 (by kernel_rfl) (mE 3 (by decide))
  obtain rfl:=func_of_trod (f0:=269) underlying125 (by kernel_rfl) (mE 4 (by decide))
  obtain rfl:=func_of_trod (f0:=270) underlying125 (by kernel_rfl) (mE 5 (by decide))
  intro j v hj
  rw [Nat.zero_add]
  refine ao8 ?_
  rw [World.var?_cell hg hv j]
  simpa using hj
end Go.Proofs.YtihapemckcdicaaGreatDoor
