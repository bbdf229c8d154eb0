/- Traces; goroutine 0 beside those that leave. Conditions: none. -/
import Derived.Test.YtihapemckcdicaaGreatDoorQDLgA
import Derived.Conc.CrowdTrace
import Derived.Conc.JoinTrace
import Derived.Conc.QuitsD
namespace Go.Lg
open Go.Conc
inductive Tree:Type 1
 | node (ι:Type) (f:ι→Tree):Tree
inductive E2:Tree→Tree→Prop
 | mk {ι:Type} (f:ι→Tree) (i:ι):E2 (f i) (.node ι f)
theorem E2.acc(t:Tree):Acc E2 t:=by
 induction t with
 | node ι f ih=>exact ⟨_,λ y h=>by cases h; exact ih _⟩
abbrev Ms:=Option Tree
inductive n8:Ms→Ms→Prop
 | some {a b:Tree}:E2 a b→n8 (some a) (some b)
 | none {b:Tree}:n8 none (some b)
theorem n8.V9:Acc n8 (Option.none:Ms):=⟨_,λ y h=>by cases h⟩
theorem n8.acc(m:Ms):Acc n8 m:=by
 cases m with
 | none=>exact n8.V9
 | some t =>
  have:=E2.acc t
  induction this with
  | intro t _ ih =>
   refine ⟨_,λ y h=>?_⟩
   cases h with
   | some h=>exact ih _ h
   | none=>exact n8.V9
inductive One {α:Type 1} (r:α→α→Prop):List α→List α→Prop
 | head {a b:α} {l:List α}:r a b→One r (a::l) (b::l)
 | tail {a:α} {l l':List α}:One r l l'→One r (a::l) (a::l')
theorem One.acc{α:Type 1}{r:α→α→Prop}(h:∀ a,Acc r a):∀ l:List α,Acc (One r) l
 | []=>⟨_,λ y h=>by cases h⟩
 | b::l=>by
  have hb:=h b
  have hl:=One.acc h l
  induction hb generalizing l with
  | intro b _ ihb =>
   induction hl with
   | intro l hl' SN =>
    refine ⟨_,λ y hy=>?_⟩
    cases hy with
    | head hr=>exact ihb _ hr _ ⟨_,hl'⟩
    | tail ho=>exact SN _ ho
theorem One.wf:WellFounded (One n8):=⟨One.acc n8.acc⟩
theorem One.set{α:Type 1}{r:α→α→Prop}:∀ {l:List α} {i:Nat} {a b:α},l[i]? = some b→r a b→One r (l.set i a) l
 | [],_,_,_,h,_=>by cases h
 | x::l,0,a,b,h,hr=>by cases h; exact .head hr
 | x::l,i+1,a,b,h,hr=>.tail (One.set (by simpa using h) hr)
def qg:Nat→Tree
 | 0=>.node Empty Empty.elim
 | n+1=>.node Unit λ _=>qg n
theorem aaz(n:Nat):n8 (some (qg n)) (some (qg (n+1))):=.some (.mk (λ _:Unit=>qg n) ())
section
variable (P:Program) (B:Base) (main:Bool) (K:av→ai→Goroutine→Prop)
def zv:Tree→av→ai→Goroutine→Prop
 | .node _ f=>λ R H g=>K R H g ∨
  (g.status = .running∧∀ w,Fits B R H w→∃ g' w' es R' H' i,stepG P main g w = .go g' w' es∧(∀ e∈es,gA R H w.heap.size w'.heap.size e)∧fw B R H w R' H' w'∧zv (f i) R' H' g') ∨
  (∃ R' H' i,(∀ w,Fits B R H w→fw B R H w R' H' w)∧zv (f i) R' H' g)
def Own(R:av)(H:ai)(g:Goroutine):Prop:=∃ T,zv P B main K T R H g
theorem Own.stop{R:av}{H:ai}{g:Goroutine}(h:K R H g):Own P B main K R H g:=⟨.node Empty Empty.elim,.inl h⟩
open Classical in
def HW:Jd P B main where
 J:=Own P B main K
 step:=by
  intro R H g hs h
  refine ⟨.node { x:av × ai × Goroutine // Own P B main K x.1 x.2.1 x.2.2 } (λ x=>x.2.choose),.inr (.inl ⟨hs,λ w hw=>?_⟩)⟩
  obtain ⟨g',w',es,R',H',h1,h2,h3,h4⟩:=h w hw
  exact ⟨g',w',es,R',H',⟨(R',H',g'),h4⟩,h1,h2,h3,Exists.choose_spec h4⟩
 ghost:=by
  intro R H R' H' g hg h
  exact ⟨.node Unit (λ _=>h.choose),.inr (.inr ⟨R',H',(),hg,h.choose_spec⟩)⟩
end
theorem nn{α:Type}{a:Option α}{u:α}{C:Prop}(h:a=none)(h':a=some u):C:=by rw [h] at h'; cases h'
structure Th where
 R:av
 H:ai
def fD(th:Nat→Option Th)(i:Nat)(x:Option Th):Nat→Option Th:=λ j=>if j=i then x else th j
theorem eR(th:Nat→Option Th)(i:Nat)(x:Option Th):fD th i x i=x:=by simp [fD]
theorem dT{th:Nat→Option Th}{i j:Nat}{x:Option Th}(h:j≠i):fD th i x j=th j:=by simp [fD,h]
structure eT (B:Base) (th:Nat→Option Th) (ch:ai) (w:World):Prop where
 fits:∀ i x,th i=some x→Fits B x.R x.H w
 apart:∀ i j x y,i≠j→th i=some x→th j=some y→∀ b o,(b,o)∈x.H→y.R b=none∧∀ o',(b,o') ∉ y.H
 mS:∀ c o,(c,o)∈ch→w.heap[c]? = some o
 lz:∀ c o,(c,o)∈ch→∀ i x,th i=some x→x.R c=none∧∀ o',(c,o') ∉ x.H
theorem Fits.at{B:Base}{R:av}{H:ai}{w:World}(h:Fits B R H w)(d:Nat):Fits B R H (w.at d):=⟨h.r,h.h,h.nd,h.dj,h.os,h.tape,h.out⟩
theorem eT.at{B:Base}{th:Nat→Option Th}{ch:ai}{w:World}(h:eT B th ch w)(d:Nat):eT B th ch (w.at d) :=
 ⟨λ i x hx=>(h.fits i x hx).at d,h.apart,h.mS,h.lz⟩
section
variable {B:Base} {th:Nat→Option Th} {ch:ai} {w w':World} {i:Nat} {R R':av} {H H':ai}
theorem eT.upd(h:eT B th ch w)(hi:th i=some ⟨R,H⟩)(hu:fw B R H w R' H' w'):eT B (fD th i (some ⟨R',H'⟩)) ch w':=by
 have AE {j:Nat} {y:Th} (hy:th j=some y):(∀ b o,y.R b=some o→b < w.heap.size)∧(∀ b o,(b,o)∈y.H→b < w.heap.size) :=
  ⟨λ b o x=>kP ((h.fits j y hy).r b o x),λ b o x=>kP ((h.fits j y hy).h b o x)⟩
 refine ⟨λ j y hy=>?_,λ j k x y mI hx hy b o hb=>?_,λ c o hc=>?_,λ c o hc j y hy=>?_⟩
 ·by_cases hj:j=i
  ·subst hj; rw [eR] at hy; cases hy; exact hu.fits
  ·rw [dT hj] at hy
   have hf:=h.fits j y hy
   have hl:=AE hy
   refine ⟨λ b o x=>?_,λ b o x=>?_,hf.nd,hf.dj,hu.fits.os,hu.fits.tape,hu.fits.out⟩
   ·rw [hu.same b (hl.1 b o x) λ o' eJ=>nn (h.apart i j _ _ (Ne.symm hj) hi hy b o' eJ).1 x]
    exact hf.r b o x
   ·rw [hu.same b (hl.2 b o x) λ o' eJ=>(h.apart i j _ _ (Ne.symm hj) hi hy b o' eJ).2 o x]
    exact hf.h b o x
 ·by_cases hj:j=i
  ·subst hj
   rw [eR] at hx; cases hx
   rw [dT (Ne.symm mI)] at hy
   rcases hu.wj b o hb with ⟨o',eJ⟩ | r9
   ·exact h.apart j k _ _ mI hi hy b o' eJ
   ·refine ⟨?_,λ o' eJ=>?_⟩
    ·cases hR:y.R b with
     | none=>rfl
     | some u=>have:=(AE hy).1 b u hR; omega
    ·have:=(AE hy).2 b o' eJ; omega
  ·rw [dT hj] at hx
   by_cases hk:k=i
   ·subst hk
    rw [eR] at hy; cases hy
    have bJ:=(AE hx).2 b o hb
    have lE:=h.apart j k _ _ mI hx hi b o hb
    refine ⟨?_,λ o' eJ=>?_⟩
    ·cases hR:R' b with
     | none=>simp [hR]
     | some u =>
      rcases hu.DJ b u hR with x | ⟨o',x⟩ | x
      ·exact nn lE.1 x
      ·exact absurd x (lE.2 o')
      ·omega
    ·rcases hu.wj b o' eJ with ⟨u,x⟩ | x
     ·exact lE.2 u x
     ·omega
   ·rw [dT hk] at hy
    exact h.apart j k _ _ mI hx hy b o hb
 ·have bJ:=kP (h.mS c o hc)
  rw [hu.same c bJ λ o' eJ=>(h.lz c o hc i _ hi).2 o' eJ]
  exact h.mS c o hc
 ·by_cases hj:j=i
  ·subst hj
   rw [eR] at hy; cases hy
   have bJ:=kP (h.mS c o hc)
   have lE:=h.lz c o hc j _ hi
   refine ⟨?_,λ o' eJ=>?_⟩
   ·cases hR:R' c with
    | none=>simp [hR]
    | some u =>
     rcases hu.DJ c u hR with x | ⟨o',x⟩ | x
     ·exact nn lE.1 x
     ·exact absurd x (lE.2 o')
     ·omega
   ·rcases hu.wj c o' eJ with ⟨u,x⟩ | x
    ·exact lE.2 u x
    ·omega
  ·rw [dT hj] at hy
   exact h.lz c o hc j y hy
theorem eT.drop(h:eT B th ch w):eT B (fD th i none) ch w:=by
 have key:∀ j y,fD th i none j=some y→th j=some y:=λ j y hy=>by
  by_cases hj:j=i
  ·subst hj; rw [eR] at hy; cases hy
  ·rwa [dT hj] at hy
 exact ⟨λ j y hy=>h.fits j y (key j y hy),λ j k x y mI hx hy=>h.apart j k x y mI (key j x hx) (key k y hy),h.mS,λ c o hc j y hy=>h.lz c o hc j y (key j y hy)⟩
theorem eT.add{c:Nat}(h:eT B th ch w)(hi:th i=some ⟨R,H⟩)(hR:aT R' R):eT B (fD th c (some ⟨R',[]⟩)) ch w:=by
 refine ⟨λ j y hy=>?_,λ j k x y mI hx hy b o hb=>?_,h.mS,λ a o ha j y hy=>?_⟩
 ·by_cases hj:j=c
  ·subst hj; rw [eR] at hy; cases hy
   have hf:=h.fits i _ hi
   exact ⟨λ b o x=>hf.r b o (hR b o x),λ b o x=>(by cases x),List.nodup_nil,λ b o x=>(by cases x),hf.os,hf.tape,hf.out⟩
  ·rw [dT hj] at hy; exact h.fits j y hy
 ·by_cases hj:j=c
  ·subst hj; rw [eR] at hx; cases hx; cases hb
  ·rw [dT hj] at hx
   by_cases hk:k=c
   ·subst hk
    rw [eR] at hy; cases hy
    refine ⟨?_,λ o' x=>by cases x⟩
    cases FP:R' b with
    | none=>simp [FP]
    | some u =>
     have YR:=hR b u FP
     by_cases fX:j=i
     ·subst fX
      rw [hi] at hx; cases hx
      exact nn ((h.fits j _ hi).dj b o hb) YR
     ·exact nn (h.apart j i _ _ fX hx hi b o hb).1 YR
   ·rw [dT hk] at hy; exact h.apart j k x y mI hx hy b o hb
 ·by_cases hj:j=c
  ·subst hj; rw [eR] at hy; cases hy
   refine ⟨?_,λ o' x=>by cases x⟩
   cases FP:R' a with
   | none=>simp [FP]
   | some u=>exact nn (h.lz a o ha i _ hi).1 (hR a u FP)
  ·rw [dT hj] at hy; exact h.lz a o ha j y hy
end
end Go.Lg
namespace Go.Lg
open Go.Conc
abbrev Kn(t:Trace)(g i:Nat):Prop:=Go.Conc.Knows t g i
def blk:Loc→Option Nat
 | .cell a=>some a.block
 | .obj r=>some r
 | _=>none
theorem axJ{x:MemAct}{a:Touch}{n b:Nat}(h:x.low n)(ht:x.touch? = some a)(hb:blk a.loc=some b):b < n:=by
 cases x with
 | access e =>
  simp only [MemAct.touch?,Option.some.injEq] at ht
  subst ht
  obtain ⟨loc,wr,sy⟩:=e
  cases loc <;> simp [blk] at hb <;> subst hb <;> exact h
 | mark m =>
  cases m <;> simp only [MemAct.touch?,Option.some.injEq,reduceCtorEq] at ht
  all_goals (subst ht; simp [blk] at hb; subst hb; exact h)
 | _=>simp [MemAct.touch?] at ht
def VQ(ch:ai)(R:av)(H:ai)(n:Nat)(a:Touch):Prop :=
 ∃ b,blk a.loc=some b∧((a.write=false∧∃ o,R b=some o)∨(∃ o,(b,o)∈H)∨n≤b∨(a.kind = .atomic∧∃ o,(b,o)∈ch))
theorem uL{t u:Trace}{k:Nat}{a:Touch}(h:touchAt (t++u) k=some a):(k < t.size∧touchAt t k=some a)∨(∃ op,(t++u)[k]? = some op∧op∈u∧op.act.touch? = some a):=by
 obtain ⟨x,hx,KQ⟩:=touch_of h
 rcases getElem?_append_cases hx with ⟨hk,ub⟩ | ⟨_,hxu⟩
 ·exact .inl ⟨hk,by rw [touchAt_of ub]; exact KQ⟩
 ·exact .inr ⟨x,hx,hxu,KQ⟩
theorem K6{t:Trace}{k b n:Nat}{a:Touch}(hl:∀ op∈t,op.act.low n)(h:touchAt t k=some a)(hb:blk a.loc=some b):b < n:=by
 obtain ⟨x,hx,KQ⟩:=touch_of h
 exact axJ (hl x (mem_of_getElem? hx)) KQ hb
section
variable {B:Base} {th:Nat→Option Th} {ch:ai} {cls:Option Nat} {w:World} {n n' i:Nat} {R R':av} {H H':ai} {t u:Trace}
theorem aaC{said:Bool}(h:¬ Race said t)(hu:∀ op∈u,op.act.touch? = none):¬ Race said (t++u):=by
 rintro ⟨i,j,sb,⟨a,b,ha,hb,hc⟩,n1,n2⟩
 rcases uL (u:=u) (a:=a) (k:=i) ha with ⟨hi,YX⟩ | ⟨op,_,h2,h3⟩
 ·rcases uL (u:=u) (a:=b) (k:=j) hb with ⟨hj,fQ⟩ | ⟨op,_,h2,h3⟩
  ·exact h ⟨i,j,sb,⟨a,b,YX,fQ,hc⟩,λ e=>n1 (hb_app u e),λ e=>n2 (hb_app u e)⟩
  ·rw [hu op h2] at h3; cases h3
 ·rw [hu op h2] at h3; cases h3
end
end Go.Lg
namespace Go.Lg
open Go.Conc
def cY:Nat→(Nat→Nat)→Nat
 | 0,_=>0
 | j+1,f=>cY j f+f j
theorem Ii{f g:Nat→Nat}:∀ {j:Nat},(∀ i,i < j→f i=g i)→cY j f=cY j g
 | 0,_=>rfl
 | j+1,h=>by rw [cY,cY,Ii (λ i hi=>h i (by omega)),h j (by omega)]
theorem Bo{f g:Nat→Nat}{i:Nat}:∀ {j:Nat},i < j→(∀ k,k≠i→g k=f k)→cY j g+f i=cY j f+g i
 | j+1,h,hg=>by
  rcases Nat.lt_or_ge i j with bJ | r9
  ·have:=Bo bJ hg
   simp only [cY,hg j (by omega)]
   omega
  ·obtain rfl:i=j:=by omega
   simp only [cY]
   rw [Ii (g:=f) (λ a ha=>hg a (by omega))]
   omega
section
variable (P:Program) (Post:Value→World→Prop)
def kL(m:Machine)(t:Trace):Prop:=∃ N last o w' t',runNT P (N+1) m t=(.ended o w',t')∧runN P N m = .next last∧step P last = .ended o w'∧Good P Post last o w' t'
variable {P Post}
theorem kL.step{m m':Machine}{t:Trace}{ops:Array MemOp}(hs:stepT P m=(.next m',ops))(h:kL P Post m' (t++ops)):kL P Post m t:=by
 obtain ⟨N,last,o,w',t',h1,h2,h3,h4⟩:=h
 exact ⟨N+1,last,o,w',t',by rw [runNT_succ_next hs]; exact h1,by rw [runN_succ_next hs]; exact h2,h3,h4⟩
theorem kL.end{m:Machine}{t:Trace}{o:Outcome}{w':World}{ops:Array MemOp}(hs:stepT P m=(.ended o w',ops))(h:Good P Post m o w' (t++ops)):kL P Post m t :=
 ⟨0,m,o,w',t++ops,by simp [runNT,hs],rfl,by simp [Go.step,hs],h⟩
end
theorem yC{g:Nat}{fn:FuncId}{pos:String}{es:Array Event}{op:MemOp}(h:op∈MemOp.ofEvents g fn pos es):∃ e∈es,op={ g,fn,pos,act:=.ofEvent e }:=by
 rw [ofEvents_eq] at h
 obtain ⟨e,he,rfl⟩:=Array.mem_map.1 h
 exact ⟨e,he,rfl⟩
section
variable {R:av} {H:ai} {n m:Nat} {e:Event} {ch:ai}
theorem aih{a:Touch}(h:gA R H n m e)(ht:(MemAct.ofEvent e).touch? = some a):VQ ch R H n a:=by
 obtain ⟨loc,wr,sy⟩:=e
 have key:∀ b,zA R H n wr b→((wr=false∧∃ o,R b=some o)∨(∃ o,(b,o)∈H)∨n≤b):=λ b hb=>by
  rcases hb with ⟨h1,h2⟩ | h2 | h2
  ·exact .inl ⟨h1,Option.isSome_iff_exists.1 h2⟩
  ·exact .inr (.inl h2)
  ·exact .inr (.inr h2)
 cases loc with
 | cell a' =>
  obtain ⟨h1,_,h3⟩:=h
  simp only at h1; subst h1
  have e1:MemAct.ofEvent ⟨.cell a',wr,false⟩ = .access ⟨.cell a',wr,false⟩:=by cases wr <;> rfl
  rw [e1] at ht
  simp only [MemAct.touch?,Option.some.injEq] at ht
  subst ht
  refine ⟨a'.block,rfl,?_⟩
  rcases key _ h3 with x | x | x
  ·exact .inl x
  ·exact .inr (.inl x)
  ·exact .inr (.inr (.inl x))
 | obj b =>
  obtain ⟨h1,_,h3⟩:=h
  simp only at h1; subst h1
  have e1:MemAct.ofEvent ⟨.obj b,wr,false⟩ = .access ⟨.obj b,wr,false⟩:=by cases wr <;> rfl
  rw [e1] at ht
  simp only [MemAct.touch?,Option.some.injEq] at ht
  subst ht
  refine ⟨b,rfl,?_⟩
  rcases key _ h3 with x | x | x
  ·exact .inl x
  ·exact .inr (.inl x)
  ·exact .inr (.inr (.inl x))
 | mark mk =>
  cases mk <;> simp [gA] at h
  cases wr <;> cases sy <;> simp [MemAct.ofEvent,MemAct.touch?] at ht
 | _=>simp [gA] at h
theorem aie(h:gA R H n m e):(MemAct.ofEvent e).low m:=by
 obtain ⟨loc,wr,sy⟩:=e
 cases loc with
 | cell a' =>
  obtain ⟨h1,h2,_⟩:=h
  simp only at h1; subst h1
  cases wr <;> exact h2
 | obj b =>
  obtain ⟨h1,h2,_⟩:=h
  simp only at h1; subst h1
  cases wr <;> exact h2
 | mark mk =>
  cases mk <;> simp [gA] at h
  cases wr <;> cases sy <;> trivial
 | _=>simp [gA] at h
theorem X9(h:gA R H n m e):∀ mk,MemAct.ofEvent e = .mark mk→Neutral mk:=by
 obtain ⟨loc,wr,sy⟩:=e
 intro mk hm
 cases loc with
 | cell a'=>obtain ⟨h1,_⟩:=h; simp only at h1; subst h1; cases wr <;> cases hm
 | obj b=>obtain ⟨h1,_⟩:=h; simp only at h1; subst h1; cases wr <;> cases hm
 | mark mk' =>
  cases mk' <;> simp [gA] at h
  cases wr <;> cases sy <;> (cases hm; rfl)
 | _=>simp [gA] at h
end
def only(x:Th):Nat→Option Th:=λ i=>if i=0 then some x else none
theorem LB(x y:Th):fD (only x) 0 (some y)=only y:=by funext i; unfold fD only; split <;> rfl
end Go.Lg
namespace Go.Lg
open Go.Conc Go.ConcN
def fS(f:Nat→Nat)(i x:Nat):Nat→Nat:=λ j=>if j=i then x else f j
theorem rA(f:Nat→Nat)(i x:Nat):fS f i x i=x:=by simp [fS]
theorem rz{f:Nat→Nat}{i j x:Nat}(h:j≠i):fS f i x j=f j:=by simp [fS,h]
theorem lO(f:Nat→Nat)(i:Nat):fS f i (f i)=f:=by funext j; unfold fS; split <;> simp [*]
def nh(f:Nat→Bool)(i:Nat)(x:Bool):Nat→Bool:=λ j=>if j=i then x else f j
theorem L9(f:Nat→Bool)(i:Nat)(x:Bool):nh f i x i=x:=by simp [nh]
theorem Ug{f:Nat→Bool}{i j:Nat}{x:Bool}(h:j≠i):nh f i x j=f j:=by simp [nh,h]
def xw(a:Option Addr)(t:Trace)(k:Nat):Prop:=∃ x p,a=some x∧t.act? p=some (.mark (.releaseMerge x))∧t.heard p∧Before t k p
theorem xw.app{a:Option Addr}{t:Trace}{k:Nat}(h:xw a t k)(u:Trace):xw a (t++u) k:=by
 obtain ⟨x,p,h1,h2,h3,h4⟩:=h
 have hp:=lt_of_act? h2
 exact ⟨x,p,h1,by rw [act?_old hp]; exact h2,(heard_old hp).2 h3,h4.app u⟩
structure cM (am aw:Option Addr) (th:Nat→Option Th) (mu:Nat→Bool) (dd:Nat→Nat) (sh:List Nat) (fr:Option Nat) (n:Nat) (t:Trace):Prop where
 own:∀ i x,th i=some x→∀ b o,(b,o)∈x.H→∀ k a,touchAt t k=some a→blk a.loc=some b→Kn t i k
 read:∀ i x,th i=some x→∀ b o,x.R b=some o→∀ k a,touchAt t k=some a→blk a.loc=some b→a.write=true→Kn t i k
 shr:∀ b,b∈sh→∀ k a,touchAt t k=some a→blk a.loc=some b→a.kind = .atomic∨(a.kind = .said∧Kn t 0 k)∨∀ i x,th i=some x→Kn t i k
 free:∀ b,fr=some b→∀ k a,touchAt t k=some a→blk a.loc=some b→(∀ i x,th i=some x→Kn t i k)∨xw am t k
 low:∀ op∈t,op.act.low n
 all:∀ k a,touchAt t k=some a→a.loc.isMemory=true→(a.kind ≠ .atomic∨t.heard k)→(∃ i x,th i=some x∧mu i=false∧Kn t i k)∨xw aw t k
 deaf:∀ i,Deaf t i=dd i
 norel:∀ a,NoRelease a t
 clean:∀ said,¬ Race said t
 pN:∀ k a,touchAt t k=some a→a.kind = .atomic→∀ b,blk a.loc=some b→(∀ i x,th i=some x→∀ o,(b,o) ∉ x.H)∧fr≠some b
def ae7(sh:List Nat)(i:Nat)(a:Touch):Prop:=∃ b,blk a.loc=some b∧b∈sh∧(a.kind = .atomic∨(a.kind = .said∧i=0))
section
variable {B:Base} {am aw:Option Addr} {th:Nat→Option Th} {mu:Nat→Bool} {dd:Nat→Nat} {sh:List Nat} {fr:Option Nat} {ch:ai} {w:World} {n n' i:Nat} {R R':av} {H H':ai} {t u:Trace}
theorem Tq(h:∀ a,NoRelease a t)(hr:∀ op∈u,∀ a,op.act ≠ .mark (.release a))(a:Addr):NoRelease a (t++u):=by
 intro k hk
 obtain ⟨op,ho,Zi⟩:=Option.map_eq_some_iff.1 hk
 rcases getElem?_append_cases ho with ⟨_,eJ⟩ | ⟨_,hu⟩
 ·exact h a k (by rw [Trace.act?,eJ]; simp [Zi])
 ·exact hr op hu a Zi
theorem XC(h:∀ i,Deaf t i=dd i)(hu:∀ op∈u,op.g=i){d':Nat}(hd:Deaf (t++u) i=d')(j:Nat):Deaf (t++u) j=fS dd i d' j:=by
 by_cases hj:j=i
 ·subst hj; rw [rA,hd]
 ·rw [rz hj,Deaf_other (g':=i) t (Ne.symm hj) u hu,h j]
theorem cM.app(hM:eT B th ch w)(hn:w.heap.size=n)(bh:∀ b,b∈sh→∃ o,(b,o)∈ch)(yg:∀ b,fr=some b→(∃ o,(b,o)∈ch)∧b ∉ sh)
  (h:cM am aw th mu dd sh fr n t) (hi:th i=some ⟨R,H⟩) (hu:∀ op∈u,op.g=i)
  (ht:∀ op∈u,∀ a,op.act.touch? = some a→(VQ [] R H n a∧a.kind ≠ .atomic)∨ae7 sh i a) (hl:∀ op∈u,op.act.low n') (hr:∀ op∈u,∀ a,op.act ≠ .mark (.release a))
  {d':Nat} (hd:Deaf (t++u) i=d') (hc:mu i=false∨∀ k a,t.size≤k→touchAt (t++u) k=some a→¬ (a.kind ≠ .atomic∨(t++u).heard k)) (hnn:n≤n')
  (hR:∀ b o,R' b=some o→R b=some o∨(∃ o',(b,o')∈H)∨n≤b) (hH:∀ b o,(b,o)∈H'→(∃ o',(b,o')∈H)∨n≤b) :
  cM am aw (fD th i (some ⟨R',H'⟩)) mu (fS dd i d') sh fr n' (t++u):=by
 have AE {j:Nat} {y:Th} (hy:th j=some y):(∀ b o,y.R b=some o→b < n)∧(∀ b o,(b,o)∈y.H→b < n) :=
  ⟨λ b o x=>hn ▸ kP ((hM.fits j y hy).r b o x),λ b o x=>hn ▸ kP ((hM.fits j y hy).h b o x)⟩
 have S5:∀ c o,(c,o)∈ch→c < n:=λ c o hc=>hn ▸ kP (hM.mS c o hc)
 have Ls:∀ k op,(t++u)[k]? = some op→op∈u→Kn (t++u) i k:=λ k op h1 h2=>by
  have:=knows_own h1; rwa [hu op h2] at this
 have D8:∀ {b j y},b∈sh→th j=some y→y.R b=none∧∀ o',(b,o') ∉ y.H:=λ {b j y} hb hy=>by
  obtain ⟨o,ho⟩:=bh b hb; exact hM.lz b o ho j y hy
 refine ⟨λ j y hy b o hb k a hk bB=>?_,λ j y hy b o hb k a hk bB ua=>?_,λ b hb k a hk bB=>?_,λ b hb k a hk bB=>?_,λ op an=>?_,λ k a hk hm eE=>?_,XC h.deaf hu hd,Tq h.norel hr,λ said=>?_,λ k a hk jq b bB=>?_⟩
 ·by_cases hj:j=i
  ·subst hj; rw [eR] at hy; cases hy
   rcases uL hk with ⟨_,dy⟩ | ⟨op,h1,h2,_⟩
   ·rcases hH b o hb with ⟨o',eJ⟩ | r9
    ·exact (h.own j _ hi b o' eJ k a dy bB).app u
    ·have:=K6 h.low dy bB; omega
   ·exact Ls k op h1 h2
  ·rw [dT hj] at hy
   rcases uL hk with ⟨_,dy⟩ | ⟨op,h1,h2,h3⟩
   ·exact (h.own j y hy b o hb k a dy bB).app u
   ·have lE:=hM.apart j i _ _ hj hy hi b o hb
    rcases ht op h2 a h3 with ⟨⟨b',fQ,vD⟩,_⟩ | ⟨b',fQ,hs,_⟩
    ·rw [bB] at fQ; cases fQ
     rcases vD with ⟨_,o',x⟩ | ⟨o',x⟩ | x | ⟨_,o',x⟩
     ·exact nn lE.1 x
     ·exact absurd x (lE.2 o')
     ·have:=(AE hy).2 b o hb; omega
     ·cases x
    ·rw [bB] at fQ; cases fQ
     exact absurd hb ((D8 hs hy).2 o)
 ·by_cases hj:j=i
  ·subst hj; rw [eR] at hy; cases hy
   rcases uL hk with ⟨_,dy⟩ | ⟨op,h1,h2,_⟩
   ·rcases hR b o hb with x | ⟨o',x⟩ | x
    ·exact (h.read j _ hi b o x k a dy bB ua).app u
    ·exact (h.own j _ hi b o' x k a dy bB).app u
    ·have:=K6 h.low dy bB; omega
   ·exact Ls k op h1 h2
  ·rw [dT hj] at hy
   rcases uL hk with ⟨_,dy⟩ | ⟨op,h1,h2,h3⟩
   ·exact (h.read j y hy b o hb k a dy bB ua).app u
   ·rcases ht op h2 a h3 with ⟨⟨b',fQ,vD⟩,_⟩ | ⟨b',fQ,hs,_⟩
    ·rw [bB] at fQ; cases fQ
     rcases vD with ⟨x,_⟩ | ⟨o',x⟩ | x | ⟨_,o',x⟩
     ·rw [ua] at x; cases x
     ·exact nn (hM.apart i j _ _ (Ne.symm hj) hi hy b o' x).1 hb
     ·have:=(AE hy).1 b o hb; omega
     ·cases x
    ·rw [bB] at fQ; cases fQ
     exact nn (D8 hs hy).1 hb
 ·rcases uL hk with ⟨_,dy⟩ | ⟨op,h1,h2,h3⟩
  ·refine (h.shr b hb k a dy bB).imp id (Or.imp (And.imp id (·.app u)) λ x j y hy=>?_)
   by_cases hj:j=i
   ·subst hj; exact (x j _ hi).app u
   ·rw [dT hj] at hy; exact (x j y hy).app u
  ·rcases ht op h2 a h3 with ⟨⟨b',fQ,vD⟩,_⟩ | ⟨b',fQ,hs,Kp⟩
   ·rw [bB] at fQ; cases fQ
    rcases vD with ⟨_,o',x⟩ | ⟨o',x⟩ | x | ⟨_,o',x⟩
    ·exact nn (D8 hb hi).1 x
    ·exact absurd x ((D8 hb hi).2 o')
    ·obtain ⟨o,ho⟩:=bh b hb; have:=S5 b o ho; omega
    ·cases x
   ·rcases Kp with x | ⟨x,rfl⟩
    ·exact .inl x
    ·exact .inr (.inl ⟨x,Ls k op h1 h2⟩)
 ·rcases uL hk with ⟨_,dy⟩ | ⟨op,h1,h2,h3⟩
  ·refine (h.free b hb k a dy bB).imp (λ x j y hy=>?_) (·.app u)
   by_cases hj:j=i
   ·subst hj; exact (x j _ hi).app u
   ·rw [dT hj] at hy; exact (x j y hy).app u
  ·obtain ⟨⟨o,ho⟩,hns⟩:=yg b hb
   rcases ht op h2 a h3 with ⟨⟨b',fQ,vD⟩,_⟩ | ⟨b',fQ,hs,_⟩
   ·rw [bB] at fQ; cases fQ
    rcases vD with ⟨_,o',x⟩ | ⟨o',x⟩ | x | ⟨_,o',x⟩
    ·exact nn (hM.lz b o ho i _ hi).1 x
    ·exact absurd x ((hM.lz b o ho i _ hi).2 o')
    ·have:=S5 b o ho; omega
    ·cases x
   ·rw [bB] at fQ; cases fQ
    exact absurd hs hns
 ·rcases Array.mem_append.1 an with x | x
  ·exact MemAct.low_mono hnn (h.low op x)
  ·exact hl op x
 ·rcases Nat.lt_or_ge k t.size with bJ | r9
  ·have dy:touchAt t k=some a:=by rw [← touchAt_old (u:=u) bJ]; exact hk
   refine (h.all k a dy hm (eE.imp id (heard_old bJ).1)).imp (λ ⟨j,y,hy,da,iS⟩=>?_) (·.app u)
   by_cases hj:j=i
   ·subst hj; exact ⟨j,_,eR _ _ _,da,iS.app u⟩
   ·exact ⟨j,y,by rw [dT hj]; exact hy,da,iS.app u⟩
  ·rcases hc with da | hc
   ·obtain ⟨op,h1,_⟩:=touch_of hk
    rcases getElem?_append_cases h1 with ⟨bJ,_⟩ | ⟨_,h2⟩
    ·omega
    ·exact .inl ⟨i,_,eR _ _ _,da,Ls k op h1 h2⟩
   ·exact absurd eE (hc k a r9 hk)
 ·refine noRace_append (h.clean said) hu λ k a hk op an b hb vD=>?_
  obtain ⟨Y8,l7,ua,Zl⟩:=vD
  rcases ht op an b hb with ⟨⟨bb,PH,pg⟩,_⟩ | ⟨bb,PH,hs,Kp⟩
  ·have bB:blk a.loc=some bb:=by rw [Y8]; exact PH
   rcases pg with ⟨x,o,ho⟩ | ⟨o,x⟩ | x | ⟨_,o,x⟩
   ·have tS:a.write=true:=by
     rcases ua with y | y
     ·exact y
     ·rw [x] at y; cases y
    exact h.read i _ hi bb o ho k a hk bB tS
   ·exact h.own i _ hi bb o x k a hk bB
   ·have:=K6 h.low hk bB; omega
   ·cases x
  ·have bB:blk a.loc=some bb:=by rw [Y8]; exact PH
   rcases h.shr bb hs k a hk bB with y | ⟨y,y'⟩ | y
   ·rcases Zl with z | z | ⟨_,z,_⟩
    ·rw [y] at z; cases z
    ·rcases Kp with x | ⟨x,_⟩ <;> (rw [x] at z; cases z)
    ·rw [y] at z; cases z
   ·rcases Kp with x | ⟨x,rfl⟩
    ·rcases Zl with z | z | ⟨_,_,z⟩
     ·rw [y] at z; cases z
     ·rw [x] at z; cases z
     ·rw [x] at z; cases z
    ·exact y'
   ·exact y i _ hi
 ·rcases uL hk with ⟨_,dy⟩ | ⟨op,h1,h2,h3⟩
  ·obtain ⟨z1,z2⟩:=h.pN k a dy jq b bB
   refine ⟨λ j y hy o ho=>?_,z2⟩
   by_cases hj:j=i
   ·subst hj; rw [eR] at hy; cases hy
    rcases hH b o ho with ⟨o',eJ⟩ | r9
    ·exact z1 j _ hi o' eJ
    ·have:=K6 h.low dy bB; omega
   ·rw [dT hj] at hy; exact z1 j y hy o ho
  ·rcases ht op h2 a h3 with ⟨_,hna⟩ | ⟨b',fQ,hs,_⟩
   ·exact absurd jq hna
   ·rw [bB] at fQ; cases fQ
    refine ⟨λ j y hy o ho=>?_,λ e=>(yg b e).2 hs⟩
    by_cases hj:j=i
    ·subst hj; rw [eR] at hy; cases hy
     rcases hH b o ho with ⟨o',eJ⟩ | r9
     ·exact (D8 hs hi).2 o' eJ
     ·obtain ⟨o2,ho2⟩:=bh b hs; have:=S5 b o2 ho2; omega
    ·rw [dT hj] at hy; exact (D8 hs hy).2 o ho
theorem Eb(hu:∀ op∈u,op.act.touch? = none){k:Nat}{a:Touch}(h:touchAt (t++u) k=some a):touchAt t k=some a:=by
 rcases uL h with ⟨_,x⟩ | ⟨op,_,h2,h3⟩
 ·exact x
 ·rw [hu op h2] at h3; cases h3
theorem cM.mute(h:cM am aw th mu dd sh fr n t)(hu:∀ op∈u,op.g=i)(hm:∀ op∈u,op.act.touch? = none)(hl:∀ op∈u,op.act.low n)(hr:∀ op∈u,∀ a,op.act ≠ .mark (.release a)){d':Nat}(hd:Deaf (t++u) i=d') :
  cM am aw th mu (fS dd i d') sh fr n (t++u):=by
 have old:∀ {k a},touchAt (t++u) k=some a→k < t.size∧touchAt t k=some a:=λ {k a} hk=>by
  have:=Eb hm hk
  obtain ⟨x,hx,_⟩:=touch_of this
  exact ⟨lt_size_of_getElem? hx,this⟩
 exact ⟨λ j y hy b o hb k a hk bB=>(h.own j y hy b o hb k a (old hk).2 bB).app u,λ j y hy b o hb k a hk bB ua=>(h.read j y hy b o hb k a (old hk).2 bB ua).app u,
  λ b hb k a hk bB=>(h.shr b hb k a (old hk).2 bB).imp id (Or.imp (And.imp id (·.app u)) λ x j y hy=>(x j y hy).app u),
  λ b hb k a hk bB=>(h.free b hb k a (old hk).2 bB).imp (λ x j y hy=>(x j y hy).app u) (·.app u),
  λ op an=>(Array.mem_append.1 an).elim (h.low op) (hl op),
  λ k a hk Gg eE=>(h.all k a (old hk).2 Gg (eE.imp id (heard_old (old hk).1).1)).imp (λ ⟨j,y,hy,da,iS⟩=>⟨j,y,hy,da,iS.app u⟩) (·.app u),
  XC h.deaf hu hd,Tq h.norel hr,λ said=>aaC (h.clean said) hm,λ k a hk=>h.pN k a (old hk).2⟩
theorem heard_new{y:MemOp}(h:∀ i,Deaf t i=dd i)(hd:dd y.g=0):(t++#[y]).heard t.size :=
 ⟨y.g,by simp [Trace.g?],by rw [deaf_old (Nat.le_refl _)]; exact (h y.g).trans hd⟩
theorem ZM{a:Addr}{y:MemOp}{k:Nat}(hd:∀ i,Deaf t i=dd i)(h0:dd y.g=0)(hn:∀ a,NoRelease a (t++#[y]))(hy:y.act = .mark (.acquire a))(h:xw (some a) t k):Kn (t++#[y]) y.g k:=by
 obtain ⟨x,p,e,h1,h2,h3⟩:=h
 cases e
 have hp:=lt_of_act? h1
 have hq:(t++#[y])[t.size]? = some y:=by simp
 have agI:HappensBefore (t++#[y]) p t.size:=.single (.inr ⟨.marked hp (.inr (by rw [act?_old hp]; exact h1)) (by rw [act?_of hq,hy]) (λ k _ _=>hn a k),(heard_old hp).2 h2,heard_new hd h0⟩)
 exact ⟨t.size,y,hq,rfl,.inr ((h3.app #[y]).hb agI)⟩
theorem Wt{a:Addr}{y:MemOp}{k:Nat}(hd:∀ i,Deaf t i=dd i)(h0:dd y.g=0)(hy:y.act = .mark (.releaseMerge a))(h:Kn t y.g k):xw (some a) (t++#[y]) k:=by
 have hq:(t++#[y])[t.size]? = some y:=by simp
 exact ⟨a,t.size,rfl,by rw [act?_of hq,hy],heard_new hd h0,.inr (Go.Conc.Knows.hb_new h (Nat.le_refl _) hq rfl)⟩
theorem wm{y op:MemOp}(h:op∈#[y]):op=y:=by simpa using h
theorem Lm{y:MemOp}{m:Mark}(hy:y.act = .mark m)(h1:∀ a,m ≠ .read a)(h2:∀ a,m ≠ .write a)(h3:∀ a,m ≠ .release a)(hl:(MemAct.mark m).low n) :
  (∀ op∈#[y],op.act.touch? = none)∧(∀ op∈#[y],op.act.low n)∧(∀ op∈#[y],∀ a,op.act ≠ .mark (.release a)):=by
 refine ⟨λ op an=>?_,λ op an=>?_,λ op an a=>?_⟩ <;> (rw [wm an,hy])
 ·cases m <;> first | rfl | exact absurd rfl (h1 _) | exact absurd rfl (h2 _)
 ·exact hl
 ·exact λ e=>h3 a (by cases e; rfl)
theorem JJ{y:MemOp}{m:Mark}(h:∀ i,Deaf t i=dd i)(hy:y.act = .mark m)(h1:m ≠ .disable)(h2:m ≠ .enable):Deaf (t++#[y]) y.g=dd y.g:=by
 rw [Deaf_push]
 unfold deafStep
 rw [hy]
 cases m <;> first | exact h y.g | exact absurd rfl h1 | exact absurd rfl h2
theorem cM.acquire{a:Addr}{b:Nat}{o:Obj}{y:MemOp}(h:cM (some a) aw th mu dd sh (some b) n t)(hi:th i=some ⟨R,H⟩)(hg:y.g=i)(hy:y.act = .mark (.acquire a))(h0:dd i=0)(hl:(MemAct.mark (.acquire a)).low n) :
  cM (some a) aw (fD th i (some ⟨R,(b,o)::H⟩)) mu dd sh none n (t++#[y]):=by
 subst hg
 obtain ⟨m1,m2,m3⟩:=Lm (n:=n) hy (by intro a e; cases e) (by intro a e; cases e) (by intro a e; cases e) hl
 have hb:=h.mute (i:=y.g) (λ op an=>by rw [wm an]) m1 m2 m3 (JJ h.deaf hy (by intro e; cases e) (by intro e; cases e))
 rw [lO] at hb
 have old:∀ {k a},touchAt (t++#[y]) k=some a→touchAt t k=some a:=λ {k a} hk=>Eb m1 hk
 refine ⟨λ j x hx c o' hc k a' hk bB=>?_,λ j x hx c o' hc k a' hk bB hw=>?_,λ c hc k a' hk bB=>?_,λ c hc=>(by cases hc),hb.low,λ k a' hk hm eE=>?_,hb.deaf,hb.norel,hb.clean,λ k a' hk jq c bB=>⟨λ j x hx o' hc=>?_,λ e=>by cases e⟩⟩
 rotate_right
 ·obtain ⟨z1,z2⟩:=hb.pN k a' hk jq c bB
  by_cases hj:j=y.g
  ·subst hj; rw [eR] at hx; cases hx
   rcases List.mem_cons.1 hc with e | hc
   ·cases e; exact z2 rfl
   ·exact z1 _ _ hi o' hc
  ·rw [dT hj] at hx; exact z1 j x hx o' hc
 ·by_cases hj:j=y.g
  ·subst hj; rw [eR] at hx; cases hx
   rcases List.mem_cons.1 hc with e | hc
   ·cases e
    rcases h.free _ rfl k a' (old hk) bB with x | x
    ·exact (x _ _ hi).app _
    ·exact ZM h.deaf h0 hb.norel hy x
   ·exact hb.own _ _ hi c o' hc k a' hk bB
  ·rw [dT hj] at hx; exact hb.own j x hx c o' hc k a' hk bB
 ·by_cases hj:j=y.g
  ·subst hj; rw [eR] at hx; cases hx; exact hb.read _ _ hi c o' hc k a' hk bB hw
  ·rw [dT hj] at hx; exact hb.read j x hx c o' hc k a' hk bB hw
 ·refine (hb.shr c hc k a' hk bB).imp id (Or.imp id λ z j x hx=>?_)
  by_cases hj:j=y.g
  ·subst hj; exact z _ _ hi
  ·rw [dT hj] at hx; exact z j x hx
 ·refine (hb.all k a' hk hm eE).imp (λ ⟨j,x,hx,da,iS⟩=>?_) id
  by_cases hj:j=y.g
  ·subst hj; exact ⟨_,_,eR _ _ _,da,iS⟩
  ·exact ⟨j,x,by rw [dT hj]; exact hx,da,iS⟩
theorem cM.release{a:Addr}{b:Nat}{o:Obj}{y:MemOp}(h:cM (some a) aw th mu dd sh none n t)(hi:th i=some ⟨R,H⟩)(zW:(b,o)∈H)(hH:∀ x∈H',x∈H)(hg:y.g=i)(hy:y.act = .mark (.releaseMerge a))(h0:dd i=0)(hl:(MemAct.mark (.releaseMerge a)).low n) :
  cM (some a) aw (fD th i (some ⟨R,H'⟩)) mu dd sh (some b) n (t++#[y]):=by
 subst hg
 obtain ⟨m1,m2,m3⟩:=Lm (n:=n) hy (by intro a e; cases e) (by intro a e; cases e) (by intro a e; cases e) hl
 have hb:=h.mute (i:=y.g) (λ op an=>by rw [wm an]) m1 m2 m3 (JJ h.deaf hy (by intro e; cases e) (by intro e; cases e))
 rw [lO] at hb
 have old:∀ {k a},touchAt (t++#[y]) k=some a→touchAt t k=some a:=λ {k a} hk=>Eb m1 hk
 refine ⟨λ j x hx c o' hc k a' hk bB=>?_,λ j x hx c o' hc k a' hk bB hw=>?_,λ c hc k a' hk bB=>?_,λ c hc k a' hk bB=>?_,hb.low,λ k a' hk hm eE=>?_,hb.deaf,hb.norel,hb.clean,λ k a' hk jq c bB=>⟨λ j x hx o' hc=>?_,λ e=>?_⟩⟩
 rotate_right 2
 ·obtain ⟨z1,z2⟩:=hb.pN k a' hk jq c bB
  by_cases hj:j=y.g
  ·subst hj; rw [eR] at hx; cases hx
   exact z1 _ _ hi o' (hH _ hc)
  ·rw [dT hj] at hx; exact z1 j x hx o' hc
 ·cases e; exact (hb.pN k a' hk jq _ bB).1 _ _ hi _ zW
 ·by_cases hj:j=y.g
  ·subst hj; rw [eR] at hx; cases hx
   exact hb.own _ _ hi c o' (hH _ hc) k a' hk bB
  ·rw [dT hj] at hx; exact hb.own j x hx c o' hc k a' hk bB
 ·by_cases hj:j=y.g
  ·subst hj; rw [eR] at hx; cases hx; exact hb.read _ _ hi c o' hc k a' hk bB hw
  ·rw [dT hj] at hx; exact hb.read j x hx c o' hc k a' hk bB hw
 ·refine (hb.shr c hc k a' hk bB).imp id (Or.imp id λ z j x hx=>?_)
  by_cases hj:j=y.g
  ·subst hj; exact z _ _ hi
  ·rw [dT hj] at hx; exact z j x hx
 ·cases hc
  exact .inr (Wt h.deaf h0 hy (h.own _ _ hi b o zW k a' (old hk) bB))
 ·refine (hb.all k a' hk hm eE).imp (λ ⟨j,x,hx,da,iS⟩=>?_) id
  by_cases hj:j=y.g
  ·subst hj; exact ⟨_,_,eR _ _ _,da,iS⟩
  ·exact ⟨j,x,by rw [dT hj]; exact hx,da,iS⟩
theorem cM.ayF{a:Addr}{y:MemOp}(h:cM am (some a) th mu dd sh fr n t)(hg:y.g=i)(hy:y.act = .mark (.releaseMerge a))(h0:dd i=0)(hl:(MemAct.mark (.releaseMerge a)).low n) :
  cM am (some a) th (nh mu i true) dd sh fr n (t++#[y]):=by
 subst hg
 obtain ⟨m1,m2,m3⟩:=Lm (n:=n) hy (by intro a e; cases e) (by intro a e; cases e) (by intro a e; cases e) hl
 have hb:=h.mute (i:=y.g) (λ op an=>by rw [wm an]) m1 m2 m3 (JJ h.deaf hy (by intro e; cases e) (by intro e; cases e))
 rw [lO] at hb
 have old:∀ {k a},touchAt (t++#[y]) k=some a→k < t.size∧touchAt t k=some a:=λ {k a} hk=>by
  have:=Eb m1 hk
  obtain ⟨x,hx,_⟩:=touch_of this
  exact ⟨lt_size_of_getElem? hx,this⟩
 refine ⟨hb.own,hb.read,hb.shr,hb.free,hb.low,λ k a' hk hm eE=>?_,hb.deaf,hb.norel,hb.clean,hb.pN⟩
 rcases h.all k a' (old hk).2 hm (eE.imp id (heard_old (old hk).1).1) with ⟨j,x,hx,da,iS⟩ | x
 ·by_cases hj:j=y.g
  ·subst hj; exact .inr (Wt h.deaf h0 hy iS)
  ·exact .inl ⟨j,x,hx,by rw [Ug hj]; exact da,iS.app _⟩
 ·exact .inr (x.app _)
theorem cM.die(h:cM am aw th mu dd sh fr n t)(hm:mu i=true):cM am aw (fD th i none) mu dd sh fr n t:=by
 have key:∀ j y,fD th i none j=some y→th j=some y:=λ j y hy=>by
  by_cases hj:j=i
  ·subst hj; rw [eR] at hy; cases hy
  ·rwa [dT hj] at hy
 refine ⟨λ j y hy=>h.own j y (key j y hy),λ j y hy=>h.read j y (key j y hy),λ b hb k a hk bB=>(h.shr b hb k a hk bB).imp id (Or.imp id λ z j y hy=>z j y (key j y hy)),λ b hb k a hk bB=>(h.free b hb k a hk bB).imp (λ z j y hy=>z j y (key j y hy)) id,h.low,λ k a hk Gg eE=>?_,h.deaf,h.norel,h.clean,λ k a hk jq b bB=>(h.pN k a hk jq b bB).imp (λ z j y hy=>z j y (key j y hy)) id⟩
 refine (h.all k a hk Gg eE).imp (λ ⟨j,y,hy,da,iS⟩=>⟨j,y,?_,da,iS⟩) id
 by_cases hj:j=i
 ·subst hj; rw [hm] at da; cases da
 ·rw [dT hj]; exact hy
theorem cM.spawn{c:Nat}{x y:MemOp}(h:cM am aw th mu dd sh fr n t)(hi:th 0=some ⟨R,H⟩)(hR:aT R' R)(hc:th c=none)(hx:x.g=0∧x.act = .go c)(hy:y.g=c∧y.act = .start)(h0:dd 0=0)(hdc:dd c=0)(eB:c≠0)(hmc:mu c=false) :
  cM am aw (fD th c (some ⟨R',[]⟩)) mu dd sh fr n (t++#[x,y]):=by
 have Gh:∀ op∈#[x,y],op=x∨op=y:=by intro op an; simpa using an
 have m1:∀ op∈#[x,y],op.act.touch? = none:=λ op an=>by
  rcases Gh op an with rfl | rfl
  ·rw [hx.2]; rfl
  ·rw [hy.2]; rfl
 have old:∀ {k a},touchAt (t++#[x,y]) k=some a→k < t.size∧touchAt t k=some a:=λ {k a} hk=>by
  have:=Eb m1 hk
  obtain ⟨x,hx,_⟩:=touch_of this
  exact ⟨lt_size_of_getElem? hx,this⟩
 have kn:∀ {k},Kn t 0 k→Kn (t++#[x,y]) c k:=λ hk=>fork_knows hx hy ((h.deaf 0).trans h0) ((h.deaf c).trans hdc) hk
 refine ⟨λ j z hz b o hb k a hk bB=>?_,λ j z hz b o hb k a hk bB hw=>?_,λ b hb k a hk bB=>?_,λ b hb k a hk bB=>?_,λ op an=>?_,λ k a hk hm eE=>?_,λ j=>?_,Tq h.norel λ op an a=>?_,λ said=>aaC (h.clean said) m1,λ k a hk jq b bB=>(h.pN k a (old hk).2 jq b bB).imp (λ z j y' oU o ho=>?_) id⟩
 ·by_cases hj:j=c
  ·subst hj; rw [eR] at hz; cases hz; cases hb
  ·rw [dT hj] at hz; exact (h.own j z hz b o hb k a (old hk).2 bB).app _
 ·by_cases hj:j=c
  ·subst hj; rw [eR] at hz; cases hz
   exact kn (h.read 0 _ hi b o (hR b o hb) k a (old hk).2 bB hw)
  ·rw [dT hj] at hz; exact (h.read j z hz b o hb k a (old hk).2 bB hw).app _
 ·refine (h.shr b hb k a (old hk).2 bB).imp id (Or.imp (And.imp id (·.app _)) λ z j y' oU=>?_)
  by_cases hj:j=c
  ·subst hj; exact kn (z 0 _ hi)
  ·rw [dT hj] at oU; exact (z j y' oU).app _
 ·refine (h.free b hb k a (old hk).2 bB).imp (λ z j y' oU=>?_) (·.app _)
  by_cases hj:j=c
  ·subst hj; exact kn (z 0 _ hi)
  ·rw [dT hj] at oU; exact (z j y' oU).app _
 ·rcases Array.mem_append.1 an with z | z
  ·exact h.low op z
  ·rcases Gh op z with rfl | rfl
   ·rw [hx.2]; trivial
   ·rw [hy.2]; trivial
 ·refine (h.all k a (old hk).2 hm (eE.imp id (heard_old (old hk).1).1)).imp (λ ⟨j,z,hz,da,iS⟩=>⟨j,z,?_,da,iS.app _⟩) (·.app _)
  rw [dT (λ e=>by subst e; rw [hc] at hz; cases hz)]; exact hz
 ·have e:t++#[x,y]=(t++#[x])++#[y]:=by apply Array.ext'; simp
  rw [e,Deaf_push,Deaf_push]
  unfold deafStep
  rw [hx.2,hy.2]
  exact h.deaf j
 ·rcases Gh op an with rfl | rfl
  ·rw [hx.2]; intro e; cases e
  ·rw [hy.2]; intro e; cases e
 ·by_cases hj:j=c
  ·subst hj; rw [eR] at oU; cases oU; cases ho
  ·rw [dT hj] at oU; exact z j y' oU o ho
end
section
variable {B:Base} {am aw:Option Addr} {mu:Nat→Bool} {dd:Nat→Nat} {sh:List Nat} {n:Nat} {R:av} {H H':ai} {t:Trace}
theorem cM.share{bs:List Nat}{b:Nat}(h:cM none none (only ⟨R,H⟩) mu dd [] none n t)(hs:∀ c∈b::bs,∃ o,(c,o)∈H)(hH:∀ x∈H',x∈H)(am aw:Option Addr):cM am aw (only ⟨R,H'⟩) mu dd bs (some b) n t:=by
 have o0:∀ {i x H1},only ⟨R,H1⟩ i=some x→i=0∧x=⟨R,H1⟩:=λ {i x H1} hx=>by
  unfold only at hx; split at hx
  ·cases hx; exact ⟨‹_›,rfl⟩
  ·cases hx
 refine ⟨λ i x hx c o hc k a hk bB=>?_,λ i x hx c o hc k a hk bB hw=>?_,λ c hc k a hk bB=>?_,λ c hc k a hk bB=>?_,h.low,λ k a hk hm eE=>?_,h.deaf,h.norel,h.clean,λ k a hk jq c bB=>⟨λ i x hx o ho=>?_,λ e=>?_⟩⟩
 ·obtain ⟨rfl,rfl⟩:=o0 hx; exact h.own 0 _ rfl c o (hH _ hc) k a hk bB
 ·obtain ⟨rfl,rfl⟩:=o0 hx; exact h.read 0 _ rfl c o hc k a hk bB hw
 ·obtain ⟨o,ho⟩:=hs c (List.mem_cons_of_mem _ hc)
  refine .inr (.inr λ i x hx=>?_)
  obtain ⟨rfl,rfl⟩:=o0 hx; exact h.own 0 _ rfl c o ho k a hk bB
 ·cases hc
  obtain ⟨o,ho⟩:=hs b (by simp)
  refine .inl λ i x hx=>?_
  obtain ⟨rfl,rfl⟩:=o0 hx; exact h.own 0 _ rfl b o ho k a hk bB
 ·rcases h.all k a hk hm eE with ⟨i,x,hx,da,iS⟩ | ⟨x,p,e,_⟩
  ·obtain ⟨rfl,rfl⟩:=o0 hx; exact .inl ⟨0,_,rfl,da,iS⟩
  ·cases e
 ·obtain ⟨rfl,rfl⟩:=o0 hx; exact (h.pN k a hk jq c bB).1 0 _ rfl o (hH _ ho)
 ·cases e
  obtain ⟨o,ho⟩:=hs b (by simp)
  exact (h.pN k a hk jq b bB).1 0 _ rfl o ho
theorem cM.ayr{a:Addr}{b:Nat}{o:Obj}{y:MemOp}(h:cM am (some a) (only ⟨R,H⟩) mu dd sh (some b) n t)(_:b < n)(hg:y.g=0)(hy:y.act = .mark (.acquire a))(h0:dd 0=0)(_:mu 0=false)(hl:(MemAct.mark (.acquire a)).low n) :
  cM none none (only ⟨R,(b,o)::H⟩) (λ _=>false) dd [] none n (t++#[y]):=by
 have o0:∀ {i x H1},only ⟨R,H1⟩ i=some x→i=0∧x=⟨R,H1⟩:=λ {i x H1} hx=>by
  unfold only at hx; split at hx
  ·cases hx; exact ⟨‹_›,rfl⟩
  ·cases hx
 obtain ⟨m1,m2,m3⟩:=Lm (n:=n) hy (by intro a e; cases e) (by intro a e; cases e) (by intro a e; cases e) hl
 have hB:=h.mute (i:=y.g) (λ op an=>by rw [wm an]) m1 m2 m3 (JJ h.deaf hy (by intro e; cases e) (by intro e; cases e))
 rw [lO] at hB
 have old:∀ {k a},touchAt (t++#[y]) k=some a→k < t.size∧touchAt t k=some a:=λ {k a} hk=>by
  have:=Eb m1 hk
  obtain ⟨x,hx,_⟩:=touch_of this
  exact ⟨lt_size_of_getElem? hx,this⟩
 have acq:∀ {k},xw (some a) t k→Kn (t++#[y]) 0 k:=λ {k} hk=>by
  have:=ZM h.deaf (by rw [hg]; exact h0) hB.norel hy hk
  rwa [hg] at this
 have ZK:∀ k x,touchAt (t++#[y]) k=some x→x.loc.isMemory=true→(x.kind ≠ .atomic∨(t++#[y]).heard k)→Kn (t++#[y]) 0 k:=λ k x hk hm eE=>by
  rcases h.all k x (old hk).2 hm (eE.imp id (heard_old (old hk).1).1) with ⟨i,z,hz,_,iS⟩ | z
  ·obtain ⟨rfl,rfl⟩:=o0 hz; exact iS.app _
  ·exact acq z
 refine ⟨λ i x hx c o' hc k a' hk bB=>?_,λ i x hx c o' hc k a' hk bB hw=>?_,λ c hc=>(by cases hc),λ c hc=>(by cases hc),hB.low,λ k a' hk hm eE=>.inl ⟨0,_,rfl,rfl,ZK k a' hk hm eE⟩,hB.deaf,hB.norel,hB.clean,λ k a' hk jq c bB=>⟨λ i x hx o' hc=>?_,λ e=>by cases e⟩⟩
 ·obtain ⟨rfl,rfl⟩:=o0 hx
  rcases List.mem_cons.1 hc with e | hc
  ·cases e
   refine ZK k a' hk ?_ (.inl λ e=>(h.pN k a' (old hk).2 e _ bB).2 rfl)
   obtain ⟨loc,wr,kd⟩:=a'
   cases loc <;> first | rfl | cases bB
  ·exact hB.own 0 _ rfl c o' hc k a' hk bB
 ·obtain ⟨rfl,rfl⟩:=o0 hx; exact hB.read 0 _ rfl c o' hc k a' hk bB hw
 ·obtain ⟨rfl,rfl⟩:=o0 hx
  rcases List.mem_cons.1 hc with e | hc
  ·cases e; exact (hB.pN k a' hk jq _ bB).2 rfl
  ·exact (hB.pN k a' hk jq c bB).1 0 _ rfl o' hc
theorem cM.handed(h:cM none none (only ⟨R,H⟩) mu dd [] none n t):t.HandedOver:=by
 intro i x hx eB ⟨a,ha,hm,eE⟩
 rcases h.all i a ha hm eE with ⟨j,y,hy,_,hk⟩ | ⟨_,_,e,_⟩
 ·have hj:j=0:=by
   unfold only at hy
   split at hy
   ·assumption
   ·cases hy
  subst hj
  obtain ⟨q,z,h1,h2,h3⟩:=hk
  refine ⟨q,by simp [Trace.g?,h1,h2],?_⟩
  rcases h3 with rfl | h3
  ·rw [show t.g? i=some z.g by simp [Trace.g?,h1],h2] at hx
   exact absurd (Option.some.inj hx).symm eB
  ·exact h3
 ·cases e
end
end Go.Lg
namespace Go.Lg
open Go.Conc Go.ConcN
section
variable {R:av} {H:ai} {n m:Nat} {e:Event}
theorem aid{a:Touch}(h:gA R H n m e)(ht:(MemAct.ofEvent e).touch? = some a):a.kind ≠ .atomic:=by
 obtain ⟨loc,wr,sy⟩:=e
 cases loc with
 | cell a' =>
  obtain ⟨h1,_⟩:=h
  simp only at h1; subst h1
  have e1:MemAct.ofEvent ⟨.cell a',wr,false⟩ = .access ⟨.cell a',wr,false⟩:=by cases wr <;> rfl
  rw [e1] at ht
  simp only [MemAct.touch?,Option.some.injEq] at ht
  subst ht; simp
 | obj b =>
  obtain ⟨h1,_⟩:=h
  simp only at h1; subst h1
  have e1:MemAct.ofEvent ⟨.obj b,wr,false⟩ = .access ⟨.obj b,wr,false⟩:=by cases wr <;> rfl
  rw [e1] at ht
  simp only [MemAct.touch?,Option.some.injEq] at ht
  subst ht; simp
 | mark mk =>
  cases mk <;> simp [gA] at h
  cases wr <;> cases sy <;> simp [MemAct.ofEvent,MemAct.touch?] at ht
 | _=>simp [gA] at h
theorem agy{g d:Nat}{u:List MemOp}(h:∀ op∈u,∀ mk,op.act = .mark mk→Neutral mk):u.foldl (deafStep g) d=d:=by
 induction u generalizing d with
 | nil=>rfl
 | cons y u ih =>
  have e:deafStep g d y=d:=by
   unfold deafStep
   split
   ·rename_i h'; exact absurd rfl ((h y (by simp) _ h').ne_disable)
   ·rename_i h'; exact absurd rfl ((h y (by simp) _ h').ne_enable)
   ·rfl
  rw [List.foldl_cons,e]
  exact ih λ op an=>h op (List.mem_cons_of_mem _ an)
theorem agx{i:Nat}{t:Trace}{es:Array Event}{fn:FuncId}{pos:String}(h:∀ e∈es,gA R H n m e):Deaf (t++MemOp.ofEvents i fn pos es) i=Deaf t i:=by
 have e:MemOp.ofEvents i fn pos es=(MemOp.ofEvents i fn pos es).toList.toArray:=by simp
 rw [e,Deaf_append]
 refine agy λ op an mk hm=>?_
 obtain ⟨e,he,rfl⟩:=yC (by simpa using an)
 exact X9 (h e he) mk hm
theorem aif(h:gA R H n m e)(a:Addr):MemAct.ofEvent e ≠ .mark (.release a):=by
 intro hm
 have:=X9 h _ hm
 cases this
end
section
variable {B:Base} {am aw:Option Addr} {th:Nat→Option Th} {mu:Nat→Bool} {dd:Nat→Nat} {sh:List Nat} {fr:Option Nat} {ch:ai} {w w':World} {i:Nat} {R R':av} {H H':ai} {t:Trace}
theorem HX(hM:eT B th ch w)(bh:∀ b,b∈sh→∃ o,(b,o)∈ch)(yg:∀ b,fr=some b→(∃ o,(b,o)∈ch)∧b ∉ sh)(h:cM am aw th mu dd sh fr w.heap.size t)(hi:th i=some ⟨R,H⟩)(_:mu i=false∨w'=w)
  {es:Array Event} (l5:∀ e∈es,gA R H w.heap.size w'.heap.size e) (hem:mu i=false∨es=#[]) (hu:fw B R H w R' H' w') (fn:FuncId) (pos:String) :
  eT B (fD th i (some ⟨R',H'⟩)) ch w'∧cM am aw (fD th i (some ⟨R',H'⟩)) mu dd sh fr w'.heap.size (t++MemOp.ofEvents i fn pos es):=by
 refine ⟨hM.upd hi hu,?_⟩
 have:=cM.app (u:=MemOp.ofEvents i fn pos es) (n':=w'.heap.size) (R':=R') (H':=H') hM rfl bh yg h hi (λ op an=>by obtain ⟨e,_,rfl⟩:=yC an; rfl)
  (λ op an a ha=>by obtain ⟨e,he,rfl⟩:=yC an; exact .inl ⟨aih (l5 e he) ha,aid (l5 e he) ha⟩) (λ op an=>by obtain ⟨e,he,rfl⟩:=yC an; exact aie (l5 e he))
  (λ op an a=>by obtain ⟨e,he,rfl⟩:=yC an; exact aif (l5 e he) a) (agx l5) ?_ hu.size hu.DJ hu.wj
 ·rwa [h.deaf i,lO] at this
 ·refine hem.imp id λ e=>?_
  subst e
  intro k a hk Ge
  rw [ofEvents_none,Array.append_empty] at Ge
  obtain ⟨x,hx,_⟩:=touch_of Ge
  have:=lt_size_of_getElem? hx
  omega
theorem YE(hM:eT B th ch w)(bh:∀ b,b∈sh→∃ o,(b,o)∈ch)(yg:∀ b,fr=some b→(∃ o,(b,o)∈ch)∧b ∉ sh)(h:cM am aw th mu dd sh fr w.heap.size t)(hi:th i=some ⟨R,H⟩)(hu:fw B R H w R' H' w) :
  eT B (fD th i (some ⟨R',H'⟩)) ch w∧cM am aw (fD th i (some ⟨R',H'⟩)) mu dd sh fr w.heap.size t:=by
 have:=HX (w':=w) (es:=#[]) hM bh yg h hi (.inr rfl) (by simp) (.inr rfl) hu 0 ""
 rw [ofEvents_none,Array.append_empty] at this
 exact this
end
theorem avk{i:Nat}{fn:FuncId}{pos:String}{es:Array Event}(h:∀ e∈es,Event.mute e=true){n:Nat} :
  (∀ op∈MemOp.ofEvents i fn pos es,op.g=i)∧(∀ op∈MemOp.ofEvents i fn pos es,op.act.touch? = none)∧(∀ op∈MemOp.ofEvents i fn pos es,op.act.low n)∧∀ op∈MemOp.ofEvents i fn pos es,∀ a,op.act ≠ .mark (.release a):=by
 have key:∀ e:Event,e.mute=true→MemAct.ofEvent e = .mark .disable∨MemAct.ofEvent e = .mark .enable:=by
  intro e he
  obtain ⟨loc,wr,sy⟩:=e
  cases loc with
  | mark m=>cases m <;> simp [Event.mute] at he <;> cases wr <;> cases sy <;> simp [MemAct.ofEvent]
  | _=>simp [Event.mute] at he
 have k2:∀ op∈MemOp.ofEvents i fn pos es,op.g=i∧(op.act = .mark .disable∨op.act = .mark .enable):=λ op an=>by
  obtain ⟨e,he,rfl⟩:=yC an; exact ⟨rfl,key e (h e he)⟩
 refine ⟨λ op an=>(k2 op an).1,λ op an=>?_,λ op an=>?_,λ op an a=>?_⟩ <;> rcases (k2 op an).2 with e | e <;> rw [e]
 ·rfl
 ·rfl
 ·trivial
 ·trivial
 ·intro x; cases x
 ·intro x; cases x
theorem cM.leaves{am aw:Option Addr}{th:Nat→Option Th}{mu:Nat→Bool}{dd:Nat→Nat}{sh:List Nat}{fr:Option Nat}{n i:Nat}{t:Trace}{es:Array Event}{fn:FuncId}{pos:String}(h:cM am aw th mu dd sh fr n t)(l5:∀ e∈es,Event.mute e=true) :
  cM am aw th mu (fS dd i (deafBehind (dd i) es)) sh fr n (t++MemOp.ofEvents i fn pos es):=by
 obtain ⟨h1,h2,h3,h4⟩:=avk (i:=i) (fn:=fn) (pos:=pos) l5 (n:=n)
 exact h.mute h1 h2 h3 h4 (by rw [Deaf_own,h.deaf i])
structure vi (P:Program) (B:Base) (R:av) (H:ai) (gs:Array Goroutine) (w:World) (t:Trace) (q dd:Nat→Nat):Prop where
 mem:eT B (only ⟨R,H⟩) [] w
 tr:cM none none (only ⟨R,H⟩) (λ _=>false) dd [] none w.heap.size t
 d0:dd 0=0
 dz:∀ i,gs.size≤i→dd i=0
 lv:∀ i g,0 < i→gs[i]? = some g→QuitsD P (q i) (dd i) g
section
variable (P:Program) (B:Base) (Post:Value→World→Prop)
def hU(R:av)(H:ai)(g:Goroutine):Prop:=∀ gs w sl t q dd,gs[0]? = some g→vi P B R H gs w t q dd→kL P Post (crowd gs w sl) t
end
section
variable {P:Program} {B:Base} {Post:Value→World→Prop} {R:av} {H:ai} {g:Goroutine}
theorem vi.fits{gs:Array Goroutine}{w:World}{t:Trace}{q dd:Nat→Nat}(h:vi P B R H gs w t q dd):Fits B R H w:=h.mem.fits 0 ⟨R,H⟩ rfl
theorem vi.at{gs:Array Goroutine}{w:World}{t:Trace}{q dd:Nat→Nat}(h:vi P B R H gs w t q dd)(d:Nat):vi P B R H gs (w.at d) t q dd:=⟨h.mem.at d,h.tr,h.d0,h.dz,h.lv⟩
theorem hU.pick(hs:g.status = .running)
  (h:∀ gs w sl py d t q dd,gs[0]? = some g→vi P B R H gs (w.at d) t q dd→stepT P (crowd gs w sl)=runT P (crowd gs (w.at d) py) 0→kL P Post (crowd gs w sl) t):hU P B Post R H g:=by
 have key:∀ M gs w sl t q dd,cY gs.size q≤M→gs[0]? = some g→vi P B R H gs w t q dd→kL P Post (crowd gs w sl) t:=by
  intro M
  induction M with
  | zero =>
   intro gs w sl t q dd hM h0 hA
   have tS:∀ x∈gs,awake x:=by
    intro x hx
    obtain ⟨i,hi,rfl⟩:=Array.mem_iff_getElem.1 hx
    rcases Nat.eq_zero_or_pos i with rfl | hF
    ·have:gs[0]=g:=by simpa [Array.getElem?_eq_getElem hi] using h0
     rw [this]; exact awake_of (.inl hs)
    ·exact awake_of ((hA.lv i _ hF (Array.getElem?_eq_getElem hi)).status.elim .inl λ x=>.inr (.inr x))
   obtain ⟨i,x,d,py,hi,hx,cJ⟩:=crowd_pick (P:=P) (w:=w) (sl:=sl) tS ⟨0,g,h0,hs⟩
   rcases Nat.eq_zero_or_pos i with rfl | hF
   ·exact h gs w sl py d t q dd h0 (hA.at d) cJ
   ·have hq:=hA.lv i x hF hi
    have bJ:i < gs.size:=(Array.getElem?_eq_some_iff.1 hi).1
    have hq0:q i=0:=by
     have h2:∀ (j:Nat),i < j→q i≤cY j q:=by
      intro j hj
      induction j with
      | zero=>omega
      | succ j ih =>
       rcases Nat.lt_or_ge i j with bJ | r9
       ·have:=ih bJ; simp only [cY]; omega
       ·obtain rfl:i=j:=by omega
        simp only [cY]; omega
     have:=h2 gs.size bJ
     omega
    rw [hq0] at hq
    rw [show x.status = .finished from hq.1] at hx; cases hx
  | succ M ih =>
   intro gs w sl t q dd hM h0 hA
   have tS:∀ x∈gs,awake x:=by
    intro x hx
    obtain ⟨i,hi,rfl⟩:=Array.mem_iff_getElem.1 hx
    rcases Nat.eq_zero_or_pos i with rfl | hF
    ·have:gs[0]=g:=by simpa [Array.getElem?_eq_getElem hi] using h0
     rw [this]; exact awake_of (.inl hs)
    ·exact awake_of ((hA.lv i _ hF (Array.getElem?_eq_getElem hi)).status.elim .inl λ x=>.inr (.inr x))
   obtain ⟨i,x,d,py,hi,hx,cJ⟩:=crowd_pick (P:=P) (w:=w) (sl:=sl) tS ⟨0,g,h0,hs⟩
   rcases Nat.eq_zero_or_pos i with rfl | hF
   ·exact h gs w sl py d t q dd h0 (hA.at d) cJ
   ·have hq:=hA.lv i x hF hi
    have vH:(i == 0)=false:=by simp; omega
    have bJ:i < gs.size:=(Array.getElem?_eq_some_iff.1 hi).1
    cases QB:q i with
    | zero=>rw [QB] at hq; rw [show x.status = .finished from hq.1] at hx; cases hx
    | succ k =>
     rw [QB] at hq
     rcases hq with hf | ⟨_,x',es,l5,aoH,hq'⟩
     ·rw [hf.1] at hx; cases hx
     have Gl:=runT_crowd_go (P:=P) (sl:=py) (i:=i) hi (by rw [vH]; exact aoH (w.at d))
     refine kL.step (cJ.trans Gl) ?_
     have fp:((gs.map (woken P x x' (w.at d))).setIfInBounds i x').size=gs.size:=by simp
     have aoI:=Bo (f:=q) (g:=λ j=>if j=i then k else q j) bJ (λ j hj=>by simp [hj])
     simp only [if_true,QB] at aoI
     refine ih _ _ _ _ (λ j=>if j=i then k else q j) (fS dd i (deafBehind (dd i) es)) (by rw [fp]; omega) ?_ ⟨(hA.at d).mem,hA.tr.leaves l5,?_,λ j hj=>?_,λ j y hj hy=>?_⟩
     ·have eB:i≠0:=by omega
      rw [Array.getElem?_setIfInBounds_ne eB,Array.getElem?_map,h0]
      simp [woken_run hs]
     ·rw [rz (by omega)]; exact hA.d0
     ·rw [fp] at hj; rw [rz (by omega)]; exact hA.dz j hj
     ·by_cases fX:i=j
      ·subst fX
       rw [Array.getElem?_setIfInBounds_self_of_lt (by simpa using bJ)] at hy
       obtain rfl:=Option.some.inj hy
       simpa [rA] using hq'
      ·rw [Array.getElem?_setIfInBounds_ne fX,Array.getElem?_map] at hy
       obtain ⟨z,hz,rfl⟩:=Option.map_eq_some_iff.1 hy
       have Zm:=hA.lv j z hj hz
       rw [woken_quitsD Zm,rz (Ne.symm fX)]
       simpa [Ne.symm fX] using Zm
 exact λ gs w sl t q dd h0 hA=>key _ gs w sl t q dd (Nat.le_refl _) h0 hA
theorem Tp{ch:ai}:∀ b,b∈([]:List Nat)→∃ o:Obj,(b,o)∈ch:=λ _ h=>by cases h
theorem To{ch:ai}:∀ b,(none:Option Nat)=some b→(∃ o:Obj,(b,o)∈ch)∧b ∉ ([]:List Nat):=λ _ h=>by cases h
theorem hU.step(hs:g.status = .running)(h:∀ w,Fits B R H w→∃ g' w' es R' H',stepG P true g w = .go g' w' es∧(∀ e∈es,gA R H w.heap.size w'.heap.size e)∧fw B R H w R' H' w'∧hU P B Post R' H' g'):hU P B Post R H g:=by
 refine hU.pick hs λ gs w sl py d t q dd h0 hA cJ=>?_
 obtain ⟨g',w',es,R',H',h1,h2,h3,h4⟩:=h _ hA.fits
 have Gl:=runT_crowd_go (P:=P) (sl:=py) (i:=0) h0 (show stepG P (0 == 0) g (w.at d)=_ from h1)
 refine kL.step (cJ.trans Gl) ?_
 have bJ:0 < gs.size:=(Array.getElem?_eq_some_iff.1 h0).1
 have cJ:=HX hA.mem Tp To hA.tr (i:=0) rfl (.inl rfl) h2 (.inl rfl) h3 g.frame.fn g.frame.place
 rw [LB] at cJ
 refine h4 _ _ _ _ q dd (by simp [bJ]) ⟨cJ.1,cJ.2,hA.d0,λ i hi=>hA.dz i (by simpa using hi),λ j x hj hx=>?_⟩
 have eB:0≠j:=by omega
 rw [Array.getElem?_setIfInBounds_ne eB,Array.getElem?_map] at hx
 obtain ⟨y,hy,rfl⟩:=Option.map_eq_some_iff.1 hx
 have hq:=hA.lv j y hj hy
 rw [woken_quitsD hq]
 exact hq
theorem hU.ghost{R':av}{H':ai}(hg:∀ w,Fits B R H w→fw B R H w R' H' w)(h:hU P B Post R' H' g):hU P B Post R H g:=by
 intro gs w sl t q dd h0 hA
 have cJ:=YE hA.mem Tp To hA.tr (i:=0) rfl (hg w hA.fits)
 rw [LB] at cJ
 exact h gs w sl t q dd h0 ⟨cJ.1,cJ.2,hA.d0,hA.dz,hA.lv⟩
def A6(P:Program)(B:Base)(Post:Value→World→Prop):Jd P B true:=⟨hU P B Post,hU.step,hU.ghost⟩
end
end Go.Lg
