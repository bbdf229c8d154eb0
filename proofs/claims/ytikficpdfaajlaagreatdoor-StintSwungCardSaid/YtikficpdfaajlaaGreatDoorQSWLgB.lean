/- Traces; goroutine 0 beside those that leave. Conditions: none. -/
import Derived.Test.YtikficpdfaajlaaGreatDoorQSWLgA
import Derived.Conc.CrowdTrace
import Derived.Conc.JoinTrace
import Derived.Conc.QuitsD
namespace Go.Lg
open Go.Conc
inductive Tree:Type 1
 | node (ι:Type) (f:ι→Tree):Tree
inductive q7:Tree→Tree→Prop
 | mk {ι:Type} (f:ι→Tree) (i:ι):q7 (f i) (.node ι f)
theorem q7.acc(t:Tree):Acc q7 t:=by
 induction t with
 | node ι f b=>exact ⟨_,λ y h=>by cases h; exact b _⟩
abbrev Ms:=Option Tree
inductive hI:Ms→Ms→Prop
 | some {a b:Tree}:q7 a b→hI (some a) (some b)
 | none {b:Tree}:hI none (some b)
theorem hI.AD:Acc hI (Option.none:Ms):=⟨_,λ y h=>by cases h⟩
theorem hI.acc(m:Ms):Acc hI m:=by
 cases m with
 | none=>exact hI.AD
 | some t =>
  have:=q7.acc t
  induction this with
  | intro t _ b =>
   refine ⟨_,λ y h=>?_⟩
   cases h with
   | some h=>exact b _ h
   | none=>exact hI.AD
inductive One {α:Type 1} (r:α→α→Prop):List α→List α→Prop
 | head {a b:α} {l:List α}:r a b→One r (a::l) (b::l)
 | tail {a:α} {l l':List α}:One r l l'→One r (a::l) (a::l')
theorem One.acc{α:Type 1}{r:α→α→Prop}(h:∀ a,Acc r a):∀ l:List α,Acc (One r) l
 | []=>⟨_,λ y h=>by cases h⟩
 | b::l=>by
  have hb:=h b
  have hl:=One.acc h l
  induction hb generalizing l with
  | intro b _ f =>
   induction hl with
   | intro l hl' j =>
    refine ⟨_,λ y d=>?_⟩
    cases d with
    | head c=>exact f _ c _ ⟨_,hl'⟩
    | tail ho=>exact j _ ho
theorem One.wf:WellFounded (One hI):=⟨One.acc hI.acc⟩
theorem One.set{α:Type 1}{r:α→α→Prop}:∀ {l:List α} {i:Nat} {a b:α},l[i]? = some b→r a b→One r (l.set i a) l
 | [],_,_,_,h,_=>by cases h
 | x::l,0,a,b,h,c=>by cases h; exact .head c
 | x::l,i+1,a,b,h,c=>.tail (One.set (by simpa using h) c)
def jh:Nat→Tree
 | 0=>.node Empty Empty.elim
 | n+1=>.node Unit λ _=>jh n
theorem E8(n:Nat):hI (some (jh n)) (some (jh (n+1))):=.some (.mk (λ _:Unit=>jh n) ())
section
variable (P:Program) (B:Base) (main:Bool) (K:aA→ai→Goroutine→Prop)
def n4:Tree→aA→ai→Goroutine→Prop
 | .node _ f=>λ R H g=>K R H g ∨
  (g.status = .running∧∀ w,Fits B R H w→∃ g' w' es R' H' i,stepG P main g w = .go g' w' es∧(∀ e∈es,eM R H w.heap.size w'.heap.size e)∧dN B R H w R' H' w'∧n4 (f i) R' H' g') ∨
  (∃ R' H' i,(∀ w,Fits B R H w→dN B R H w R' H' w)∧n4 (f i) R' H' g)
def Own(R:aA)(H:ai)(g:Goroutine):Prop:=∃ T,n4 P B main K T R H g
theorem Own.stop{R:aA}{H:ai}{g:Goroutine}(h:K R H g):Own P B main K R H g:=⟨.node Empty Empty.elim,.inl h⟩
open Classical in
def s4:Jd P B main where
 J:=Own P B main K
 step:=by
  intro R H g c h
  refine ⟨.node { x:aA × ai × Goroutine // Own P B main K x.1 x.2.1 x.2.2 } (λ x=>x.2.choose),.inr (.inl ⟨c,λ w hw=>?_⟩)⟩
  obtain ⟨g',w',es,R',H',h1,h2,h3,h4⟩:=h w hw
  exact ⟨g',w',es,R',H',⟨(R',H',g'),h4⟩,h1,h2,h3,Exists.choose_spec h4⟩
 ghost:=by
  intro R H R' H' g b h
  exact ⟨.node Unit (λ _=>h.choose),.inr (.inr ⟨R',H',(),b,h.choose_spec⟩)⟩
end
theorem nn{α:Type}{a:Option α}{u:α}{C:Prop}(h:a=none)(b:a=some u):C:=by rw [h] at b; cases b
structure Th where
 R:aA
 H:ai
def dS(th:Nat→Option Th)(i:Nat)(x:Option Th):Nat→Option Th:=λ j=>if j=i then x else th j
theorem dp(th:Nat→Option Th)(i:Nat)(x:Option Th):dS th i x i=x:=by simp [dS]
theorem cS{th:Nat→Option Th}{i j:Nat}{x:Option Th}(h:j≠i):dS th i x j=th j:=by simp [dS,h]
structure dq (B:Base) (th:Nat→Option Th) (ch:ai) (w:World):Prop where
 fits:∀ i x,th i=some x→Fits B x.R x.H w
 apart:∀ i j x y,i≠j→th i=some x→th j=some y→∀ b o,(b,o)∈x.H→y.R b=none∧∀ o',(b,o') ∉ y.H
 g6:∀ c o,(c,o)∈ch→w.heap[c]? = some o
 gq:∀ c o,(c,o)∈ch→∀ i x,th i=some x→x.R c=none∧∀ o',(c,o') ∉ x.H
theorem Fits.at{B:Base}{R:aA}{H:ai}{w:World}(h:Fits B R H w)(d:Nat):Fits B R H (w.at d):=⟨h.r,h.h,h.nd,h.dj,h.os,h.tape,h.out⟩
theorem dq.at{B:Base}{th:Nat→Option Th}{ch:ai}{w:World}(h:dq B th ch w)(d:Nat):dq B th ch (w.at d) :=
 ⟨λ i x b=>(h.fits i x b).at d,h.apart,h.g6,h.gq⟩
section
variable {B:Base} {th:Nat→Option Th} {ch:ai} {w w':World} {i:Nat} {R R':aA} {H H':ai}
theorem dq.upd(h:dq B th ch w)(hi:th i=some ⟨R,H⟩)(hu:dN B R H w R' H' w'):dq B (dS th i (some ⟨R',H'⟩)) ch w':=by
 have F {j:Nat} {y:Th} (d:th j=some y):(∀ b o,y.R b=some o→b < w.heap.size)∧(∀ b o,(b,o)∈y.H→b < w.heap.size) :=
  ⟨λ b o x=>gg ((h.fits j y d).r b o x),λ b o x=>gg ((h.fits j y d).h b o x)⟩
 refine ⟨λ j y d=>?_,λ j k x y E C d b o hb=>?_,λ c o A=>?_,λ c o A j y d=>?_⟩
 ·by_cases p:j=i
  ·subst p; rw [dp] at d; cases d; exact hu.fits
  ·rw [cS p] at d
   have D:=h.fits j y d
   have hl:=F d
   refine ⟨λ b o x=>?_,λ b o x=>?_,D.nd,D.dj,hu.fits.os,hu.fits.tape,hu.fits.out⟩
   ·rw [hu.same b (hl.1 b o x) λ o' f=>nn (h.apart i j _ _ (Ne.symm p) hi d b o' f).1 x]
    exact D.r b o x
   ·rw [hu.same b (hl.2 b o x) λ o' f=>(h.apart i j _ _ (Ne.symm p) hi d b o' f).2 o x]
    exact D.h b o x
 ·by_cases p:j=i
  ·subst p
   rw [dp] at C; cases C
   rw [cS (Ne.symm E)] at d
   rcases hu.mh b o hb with ⟨o',f⟩ | J
   ·exact h.apart j k _ _ E hi d b o' f
   ·refine ⟨?_,λ o' f=>?_⟩
    ·cases s:y.R b with
     | none=>rfl
     | some u=>have:=(F d).1 b u s; omega
    ·have:=(F d).2 b o' f; omega
  ·rw [cS p] at C
   by_cases I:k=i
   ·subst I
    rw [dp] at d; cases d
    have G:=(F C).2 b o hb
    have z:=h.apart j k _ _ E C hi b o hb
    refine ⟨?_,λ o' f=>?_⟩
    ·cases s:R' b with
     | none=>simp [s]
     | some u =>
      rcases hu.qJ b u s with x | ⟨o',x⟩ | x
      ·exact nn z.1 x
      ·exact absurd x (z.2 o')
      ·omega
    ·rcases hu.mh b o' f with ⟨u,x⟩ | x
     ·exact z.2 u x
     ·omega
   ·rw [cS I] at d
    exact h.apart j k _ _ E C d b o hb
 ·have G:=gg (h.g6 c o A)
  rw [hu.same c G λ o' f=>(h.gq c o A i _ hi).2 o' f]
  exact h.g6 c o A
 ·by_cases p:j=i
  ·subst p
   rw [dp] at d; cases d
   have G:=gg (h.g6 c o A)
   have z:=h.gq c o A j _ hi
   refine ⟨?_,λ o' f=>?_⟩
   ·cases s:R' c with
    | none=>simp [s]
    | some u =>
     rcases hu.qJ c u s with x | ⟨o',x⟩ | x
     ·exact nn z.1 x
     ·exact absurd x (z.2 o')
     ·omega
   ·rcases hu.mh c o' f with ⟨u,x⟩ | x
    ·exact z.2 u x
    ·omega
  ·rw [cS p] at d
   exact h.gq c o A j y d
theorem dq.drop(h:dq B th ch w):dq B (dS th i none) ch w:=by
 have key:∀ j y,dS th i none j=some y→th j=some y:=λ j y b=>by
  by_cases d:j=i
  ·subst d; rw [dp] at b; cases b
  ·rwa [cS d] at b
 exact ⟨λ j y b=>h.fits j y (key j y b),λ j k x y p s b=>h.apart j k x y p (key j x s) (key k y b),h.g6,λ c o f j y b=>h.gq c o f j y (key j y b)⟩
theorem dq.add{c:Nat}(h:dq B th ch w)(hi:th i=some ⟨R,H⟩)(A:aK R' R):dq B (dS th c (some ⟨R',[]⟩)) ch w:=by
 refine ⟨λ j y d=>?_,λ j k x y G p d b o hb=>?_,h.g6,λ a o D j y d=>?_⟩
 ·by_cases f:j=c
  ·subst f; rw [dp] at d; cases d
   have z:=h.fits i _ hi
   exact ⟨λ b o x=>z.r b o (A b o x),λ b o x=>(by cases x),List.nodup_nil,λ b o x=>(by cases x),z.os,z.tape,z.out⟩
  ·rw [cS f] at d; exact h.fits j y d
 ·by_cases f:j=c
  ·subst f; rw [dp] at p; cases p; cases hb
  ·rw [cS f] at p
   by_cases F:k=c
   ·subst F
    rw [dp] at d; cases d
    refine ⟨?_,λ o' x=>by cases x⟩
    cases s:R' b with
    | none=>simp [s]
    | some u =>
     have C:=A b u s
     by_cases E:j=i
     ·subst E
      rw [hi] at p; cases p
      exact nn ((h.fits j _ hi).dj b o hb) C
     ·exact nn (h.apart j i _ _ E p hi b o hb).1 C
   ·rw [cS F] at d; exact h.apart j k x y G p d b o hb
 ·by_cases f:j=c
  ·subst f; rw [dp] at d; cases d
   refine ⟨?_,λ o' x=>by cases x⟩
   cases s:R' a with
   | none=>simp [s]
   | some u=>exact nn (h.gq a o D i _ hi).1 (A a u s)
  ·rw [cS f] at d; exact h.gq a o D j y d
end
abbrev Kn(t:Trace)(g i:Nat):Prop:=Go.Conc.Knows t g i
def blk:Loc→Option Nat
 | .cell a=>some a.block
 | .obj r=>some r
 | _=>none
theorem Te{x:MemAct}{a:Touch}{n b:Nat}(h:x.low n)(c:x.touch? = some a)(hb:blk a.loc=some b):b < n:=by
 cases x with
 | access e =>
  simp only [MemAct.touch?,ey] at c
  subst c
  obtain ⟨loc,wr,d⟩:=e
  cases loc <;> simp [blk] at hb <;> subst hb <;> exact h
 | mark m =>
  cases m <;> simp only [MemAct.touch?,ey,reduceCtorEq] at c
  all_goals (subst c; simp [blk] at hb; subst hb; exact h)
 | _=>simp [MemAct.touch?] at c
def Ax(ch:ai)(R:aA)(H:ai)(n:Nat)(a:Touch):Prop :=
 ∃ b,blk a.loc=some b∧((a.write=false∧∃ o,R b=some o)∨(∃ o,(b,o)∈H)∨n≤b∨(a.kind = .atomic∧∃ o,(b,o)∈ch))
theorem lC{t u:Trace}{k:Nat}{a:Touch}(h:touchAt (t++u) k=some a):(k < t.size∧touchAt t k=some a)∨(∃ op,(t++u)[k]? = some op∧op∈u∧op.act.touch? = some a):=by
 obtain ⟨x,b,c⟩:=touch_of h
 rcases getElem?_append_cases b with ⟨d,f⟩ | ⟨_,j⟩
 ·exact .inl ⟨d,by rw [touchAt_of f]; exact c⟩
 ·exact .inr ⟨x,b,j,c⟩
theorem uY{t:Trace}{k b n:Nat}{a:Touch}(hl:∀ op∈t,op.act.low n)(h:touchAt t k=some a)(hb:blk a.loc=some b):b < n:=by
 obtain ⟨x,c,d⟩:=touch_of h
 exact Te (hl x (mem_of_getElem? c)) d hb
section
variable {B:Base} {th:Nat→Option Th} {ch:ai} {cls:Option Nat} {w:World} {n n' i:Nat} {R R':aA} {H H':ai} {t u:Trace}
theorem Fc{said:Bool}(h:¬ Race said t)(hu:∀ op∈u,op.act.touch? = none):¬ Race said (t++u):=by
 rintro ⟨i,j,p,⟨a,b,c,hb,o⟩,s,y⟩
 rcases lC (u:=u) (a:=a) (k:=i) c with ⟨hi,d⟩ | ⟨op,_,h2,h3⟩
 ·rcases lC (u:=u) (a:=b) (k:=j) hb with ⟨z,f⟩ | ⟨op,_,h2,h3⟩
  ·exact h ⟨i,j,p,⟨a,b,d,f,o⟩,λ e=>s (hb_app u e),λ e=>y (hb_app u e)⟩
  ·rw [hu op h2] at h3; cases h3
 ·rw [hu op h2] at h3; cases h3
end
def cu:Nat→(Nat→Nat)→Nat
 | 0,_=>0
 | j+1,f=>cu j f+f j
theorem tn{f g:Nat→Nat}:∀ {j:Nat},(∀ i,i < j→f i=g i)→cu j f=cu j g
 | 0,_=>rfl
 | j+1,h=>by rw [cu,cu,tn (λ i hi=>h i (by omega)),h j (by omega)]
theorem pr{f g:Nat→Nat}{i:Nat}:∀ {j:Nat},i < j→(∀ k,k≠i→g k=f k)→cu j g+f i=cu j f+g i
 | j+1,h,b=>by
  rcases Nat.lt_or_ge i j with c | o
  ·have:=pr c b
   simp only [cu,b j (by omega)]
   omega
  ·obtain rfl:i=j:=by omega
   simp only [cu]
   rw [tn (g:=f) (λ a d=>b a (by omega))]
   omega
section
variable (P:Program) (Post:Value→World→Prop)
def fY(m:Machine)(t:Trace):Prop:=∃ N last o w' t',runNT P (N+1) m t=(.ended o w',t')∧runN P N m = .next last∧step P last = .ended o w'∧Good P Post last o w' t'
variable {P Post}
theorem fY.step{m m':Machine}{t:Trace}{ops:Array MemOp}(b:stepT P m=(.next m',ops))(h:fY P Post m' (t++ops)):fY P Post m t:=by
 obtain ⟨N,last,o,w',t',h1,h2,h3,h4⟩:=h
 exact ⟨N+1,last,o,w',t',by rw [runNT_succ_next b]; exact h1,by rw [runN_succ_next b]; exact h2,h3,h4⟩
theorem fY.end{m:Machine}{t:Trace}{o:Outcome}{w':World}{ops:Array MemOp}(b:stepT P m=(.ended o w',ops))(h:Good P Post m o w' (t++ops)):fY P Post m t :=
 ⟨0,m,o,w',t++ops,by simp [runNT,b],rfl,by simp [Go.step,b],h⟩
end
theorem nB{g:Nat}{fn:FuncId}{pos:String}{es:Array Event}{op:MemOp}(h:op∈MemOp.ofEvents g fn pos es):∃ e∈es,op={ g,fn,pos,act:=.ofEvent e }:=by
 rw [ofEvents_eq] at h
 obtain ⟨e,he,rfl⟩:=Array.mem_map.1 h
 exact ⟨e,he,rfl⟩
section
variable {R:aA} {H:ai} {n m:Nat} {e:Event} {ch:ai}
theorem KE{a:Touch}(h:eM R H n m e)(c:(MemAct.ofEvent e).touch? = some a):Ax ch R H n a:=by
 obtain ⟨loc,wr,f⟩:=e
 have key:∀ b,n8 R H n wr b→((wr=false∧∃ o,R b=some o)∨(∃ o,(b,o)∈H)∨n≤b):=λ b hb=>by
  rcases hb with ⟨h1,h2⟩ | h2 | h2
  ·exact .inl ⟨h1,Option.isSome_iff_exists.1 h2⟩
  ·exact .inr (.inl h2)
  ·exact .inr (.inr h2)
 cases loc with
 | cell d =>
  obtain ⟨h1,_,h3⟩:=h
  simp only at h1; subst h1
  have e1:MemAct.ofEvent ⟨.cell d,wr,false⟩ = .access ⟨.cell d,wr,false⟩:=by cases wr <;> rfl
  rw [e1] at c
  simp only [MemAct.touch?,ey] at c
  subst c
  refine ⟨d.block,rfl,?_⟩
  rcases key _ h3 with x | x | x
  ·exact .inl x
  ·exact .inr (.inl x)
  ·exact .inr (.inr (.inl x))
 | obj b =>
  obtain ⟨h1,_,h3⟩:=h
  simp only at h1; subst h1
  have e1:MemAct.ofEvent ⟨.obj b,wr,false⟩ = .access ⟨.obj b,wr,false⟩:=by cases wr <;> rfl
  rw [e1] at c
  simp only [MemAct.touch?,ey] at c
  subst c
  refine ⟨b,rfl,?_⟩
  rcases key _ h3 with x | x | x
  ·exact .inl x
  ·exact .inr (.inl x)
  ·exact .inr (.inr (.inl x))
 | mark mk =>
  cases mk <;> simp [eM] at h
  cases wr <;> cases f <;> simp [MemAct.ofEvent,MemAct.touch?] at c
 | _=>simp [eM] at h
theorem KC(h:eM R H n m e):(MemAct.ofEvent e).low m:=by
 obtain ⟨loc,wr,c⟩:=e
 cases loc with
 | cell d =>
  obtain ⟨h1,h2,_⟩:=h
  simp only at h1; subst h1
  cases wr <;> exact h2
 | obj b =>
  obtain ⟨h1,h2,_⟩:=h
  simp only at h1; subst h1
  cases wr <;> exact h2
 | mark mk =>
  cases mk <;> simp [eM] at h
  cases wr <;> cases c <;> trivial
 | _=>simp [eM] at h
theorem CR(h:eM R H n m e):∀ mk,MemAct.ofEvent e = .mark mk→Neutral mk:=by
 obtain ⟨loc,wr,c⟩:=e
 intro mk hm
 cases loc with
 | cell d=>obtain ⟨h1,_⟩:=h; simp only at h1; subst h1; cases wr <;> cases hm
 | obj b=>obtain ⟨h1,_⟩:=h; simp only at h1; subst h1; cases wr <;> cases hm
 | mark mk' =>
  cases mk' <;> simp [eM] at h
  cases wr <;> cases c <;> (cases hm; rfl)
 | _=>simp [eM] at h
end
def only(x:Th):Nat→Option Th:=λ i=>if i=0 then some x else none
theorem vI(x y:Th):dS (only x) 0 (some y)=only y:=by funext i; unfold dS only; split <;> rfl
open Go.ConcN
def ec(f:Nat→Nat)(i x:Nat):Nat→Nat:=λ j=>if j=i then x else f j
theorem j2(f:Nat→Nat)(i x:Nat):ec f i x i=x:=by simp [ec]
theorem j1{f:Nat→Nat}{i j x:Nat}(h:j≠i):ec f i x j=f j:=by simp [ec,h]
theorem gA(f:Nat→Nat)(i:Nat):ec f i (f i)=f:=by funext j; unfold ec; split <;> simp [*]
def hg(f:Nat→Bool)(i:Nat)(x:Bool):Nat→Bool:=λ j=>if j=i then x else f j
theorem wE(f:Nat→Bool)(i:Nat)(x:Bool):hg f i x i=x:=by simp [hg]
theorem Ac{f:Nat→Bool}{i j:Nat}{x:Bool}(h:j≠i):hg f i x j=f j:=by simp [hg,h]
def mK(a:Option Addr)(t:Trace)(k:Nat):Prop:=∃ x p,a=some x∧t.act? p=some (.mark (.releaseMerge x))∧t.heard p∧Before t k p
theorem mK.app{a:Option Addr}{t:Trace}{k:Nat}(h:mK a t k)(u:Trace):mK a (t++u) k:=by
 obtain ⟨x,p,h1,h2,h3,h4⟩:=h
 have b:=lt_of_act? h2
 exact ⟨x,p,h1,by rw [act?_old b]; exact h2,(heard_old b).2 h3,h4.app u⟩
structure cl (am aw:Option Addr) (th:Nat→Option Th) (mu:Nat→Bool) (dd:Nat→Nat) (sh:List Nat) (fr:Option Nat) (n:Nat) (t:Trace):Prop where
 own:∀ i x,th i=some x→∀ b o,(b,o)∈x.H→∀ k a,touchAt t k=some a→blk a.loc=some b→Kn t i k
 read:∀ i x,th i=some x→∀ b o,x.R b=some o→∀ k a,touchAt t k=some a→blk a.loc=some b→a.write=true→Kn t i k
 shr:∀ b,b∈sh→∀ k a,touchAt t k=some a→blk a.loc=some b→a.kind = .atomic∨(a.kind = .said∧Kn t 0 k)∨∀ i x,th i=some x→Kn t i k
 free:∀ b,fr=some b→∀ k a,touchAt t k=some a→blk a.loc=some b→(∀ i x,th i=some x→Kn t i k)∨mK am t k
 low:∀ op∈t,op.act.low n
 all:∀ k a,touchAt t k=some a→a.loc.isMemory=true→(a.kind ≠ .atomic∨t.heard k)→(∃ i x,th i=some x∧mu i=false∧Kn t i k)∨mK aw t k
 deaf:∀ i,Deaf t i=dd i
 norel:∀ a,NoRelease a t
 clean:∀ said,¬ Race said t
 iR:∀ k a,touchAt t k=some a→a.kind = .atomic→∀ b,blk a.loc=some b→(∀ i x,th i=some x→∀ o,(b,o) ∉ x.H)∧fr≠some b
def G2(sh:List Nat)(i:Nat)(a:Touch):Prop:=∃ b,blk a.loc=some b∧b∈sh∧(a.kind = .atomic∨(a.kind = .said∧i=0))
section
variable {B:Base} {am aw:Option Addr} {th:Nat→Option Th} {mu:Nat→Bool} {dd:Nat→Nat} {sh:List Nat} {fr:Option Nat} {ch:ai} {w:World} {n n' i:Nat} {R R':aA} {H H':ai} {t u:Trace}
theorem zp(h:∀ a,NoRelease a t)(f:∀ op∈u,∀ a,op.act ≠ .mark (.release a))(a:Addr):NoRelease a (t++u):=by
 intro k c
 obtain ⟨op,ho,b⟩:=Option.map_eq_some_iff.1 c
 rcases getElem?_append_cases ho with ⟨_,d⟩ | ⟨_,hu⟩
 ·exact h a k (by rw [Trace.act?,d]; simp [b])
 ·exact f op hu a b
theorem B3(h:∀ i,Deaf t i=dd i)(hu:∀ op∈u,op.g=i){d':Nat}(hd:Deaf (t++u) i=d')(j:Nat):Deaf (t++u) j=ec dd i d' j:=by
 by_cases b:j=i
 ·subst b; rw [j2,hd]
 ·rw [j1 b,Deaf_other (g':=i) t (Ne.symm b) u hu,h j]
theorem cl.app(G:dq B th ch w)(Z:w.heap.size=n)(ac:∀ b,b∈sh→∃ o,(b,o)∈ch)(ah:∀ b,fr=some b→(∃ o,(b,o)∈ch)∧b ∉ sh)
  (h:cl am aw th mu dd sh fr n t) (hi:th i=some ⟨R,H⟩) (hu:∀ op∈u,op.g=i)
  (J:∀ op∈u,∀ a,op.act.touch? = some a→(Ax [] R H n a∧a.kind ≠ .atomic)∨G2 sh i a) (hl:∀ op∈u,op.act.low n') (az:∀ op∈u,∀ a,op.act ≠ .mark (.release a))
  {d':Nat} (hd:Deaf (t++u) i=d') (M:mu i=false∨∀ k a,t.size≤k→touchAt (t++u) k=some a→¬ (a.kind ≠ .atomic∨(t++u).heard k)) (av:n≤n')
  (ap:∀ b o,R' b=some o→R b=some o∨(∃ o',(b,o')∈H)∨n≤b) (V:∀ b o,(b,o)∈H'→(∃ o',(b,o')∈H)∨n≤b) :
  cl am aw (dS th i (some ⟨R',H'⟩)) mu (ec dd i d') sh fr n' (t++u):=by
 have ao {j:Nat} {y:Th} (d:th j=some y):(∀ b o,y.R b=some o→b < n)∧(∀ b o,(b,o)∈y.H→b < n) :=
  ⟨λ b o x=>Z ▸ gg ((G.fits j y d).r b o x),λ b o x=>Z ▸ gg ((G.fits j y d).h b o x)⟩
 have ad:∀ c o,(c,o)∈ch→c < n:=λ c o M=>Z ▸ gg (G.g6 c o M)
 have U:∀ k op,(t++u)[k]? = some op→op∈u→Kn (t++u) i k:=λ k op h1 h2=>by
  have:=knows_own h1; rwa [hu op h2] at this
 have L:∀ {b j y},b∈sh→th j=some y→y.R b=none∧∀ o',(b,o') ∉ y.H:=λ {b j y} hb d=>by
  obtain ⟨o,ho⟩:=ac b hb; exact G.gq b o ho j y d
 refine ⟨λ j y d b o hb k a A f=>?_,λ j y d b o hb k a A f O=>?_,λ b hb k a A f=>?_,λ b hb k a A f=>?_,λ op ab=>?_,λ k a A hm ag=>?_,B3 h.deaf hu hd,zp h.norel az,λ said=>?_,λ k a A af b f=>?_⟩
 ·by_cases s:j=i
  ·subst s; rw [dp] at d; cases d
   rcases lC A with ⟨_,C⟩ | ⟨op,h1,h2,_⟩
   ·rcases V b o hb with ⟨o',N⟩ | Q
    ·exact (h.own j _ hi b o' N k a C f).app u
    ·have:=uY h.low C f; omega
   ·exact U k op h1 h2
  ·rw [cS s] at d
   rcases lC A with ⟨_,C⟩ | ⟨op,h1,h2,h3⟩
   ·exact (h.own j y d b o hb k a C f).app u
   ·have ae:=G.apart j i _ _ s d hi b o hb
    rcases J op h2 a h3 with ⟨⟨F,p,E⟩,_⟩ | ⟨F,p,D,_⟩
    ·rw [f] at p; cases p
     rcases E with ⟨_,o',x⟩ | ⟨o',x⟩ | x | ⟨_,o',x⟩
     ·exact nn ae.1 x
     ·exact absurd x (ae.2 o')
     ·have:=(ao d).2 b o hb; omega
     ·cases x
    ·rw [f] at p; cases p
     exact absurd hb ((L D d).2 o)
 ·by_cases s:j=i
  ·subst s; rw [dp] at d; cases d
   rcases lC A with ⟨_,C⟩ | ⟨op,h1,h2,_⟩
   ·rcases ap b o hb with x | ⟨o',x⟩ | x
    ·exact (h.read j _ hi b o x k a C f O).app u
    ·exact (h.own j _ hi b o' x k a C f).app u
    ·have:=uY h.low C f; omega
   ·exact U k op h1 h2
  ·rw [cS s] at d
   rcases lC A with ⟨_,C⟩ | ⟨op,h1,h2,h3⟩
   ·exact (h.read j y d b o hb k a C f O).app u
   ·rcases J op h2 a h3 with ⟨⟨F,p,E⟩,_⟩ | ⟨F,p,D,_⟩
    ·rw [f] at p; cases p
     rcases E with ⟨x,_⟩ | ⟨o',x⟩ | x | ⟨_,o',x⟩
     ·rw [O] at x; cases x
     ·exact nn (G.apart i j _ _ (Ne.symm s) hi d b o' x).1 hb
     ·have:=(ao d).1 b o hb; omega
     ·cases x
    ·rw [f] at p; cases p
     exact nn (L D d).1 hb
 ·rcases lC A with ⟨_,C⟩ | ⟨op,h1,h2,h3⟩
  ·refine (h.shr b hb k a C f).imp id (Or.imp (And.imp id (·.app u)) λ x j y d=>?_)
   by_cases s:j=i
   ·subst s; exact (x j _ hi).app u
   ·rw [cS s] at d; exact (x j y d).app u
  ·rcases J op h2 a h3 with ⟨⟨F,p,E⟩,_⟩ | ⟨F,p,D,S⟩
   ·rw [f] at p; cases p
    rcases E with ⟨_,o',x⟩ | ⟨o',x⟩ | x | ⟨_,o',x⟩
    ·exact nn (L hb hi).1 x
    ·exact absurd x ((L hb hi).2 o')
    ·obtain ⟨o,ho⟩:=ac b hb; have:=ad b o ho; omega
    ·cases x
   ·rcases S with x | ⟨x,rfl⟩
    ·exact .inl x
    ·exact .inr (.inl ⟨x,U k op h1 h2⟩)
 ·rcases lC A with ⟨_,C⟩ | ⟨op,h1,h2,h3⟩
  ·refine (h.free b hb k a C f).imp (λ x j y d=>?_) (·.app u)
   by_cases s:j=i
   ·subst s; exact (x j _ hi).app u
   ·rw [cS s] at d; exact (x j y d).app u
  ·obtain ⟨⟨o,ho⟩,ax⟩:=ah b hb
   rcases J op h2 a h3 with ⟨⟨F,p,E⟩,_⟩ | ⟨F,p,D,_⟩
   ·rw [f] at p; cases p
    rcases E with ⟨_,o',x⟩ | ⟨o',x⟩ | x | ⟨_,o',x⟩
    ·exact nn (G.gq b o ho i _ hi).1 x
    ·exact absurd x ((G.gq b o ho i _ hi).2 o')
    ·have:=ad b o ho; omega
    ·cases x
   ·rw [f] at p; cases p
    exact absurd D ax
 ·rcases Array.mem_append.1 ab with x | x
  ·exact MemAct.low_mono av (h.low op x)
  ·exact hl op x
 ·rcases Nat.lt_or_ge k t.size with Y | Q
  ·have C:touchAt t k=some a:=by rw [← touchAt_old (u:=u) Y]; exact A
   refine (h.all k a C hm (ag.imp id (heard_old Y).1)).imp (λ ⟨j,y,d,T,ak⟩=>?_) (·.app u)
   by_cases s:j=i
   ·subst s; exact ⟨j,_,dp _ _ _,T,ak.app u⟩
   ·exact ⟨j,y,by rw [cS s]; exact d,T,ak.app u⟩
  ·rcases M with T | M
   ·obtain ⟨op,h1,_⟩:=touch_of A
    rcases getElem?_append_cases h1 with ⟨Y,_⟩ | ⟨_,h2⟩
    ·omega
    ·exact .inl ⟨i,_,dp _ _ _,T,U k op h1 h2⟩
   ·exact absurd ag (M k a Q A)
 ·refine noRace_append (h.clean said) hu λ k a A op ab b hb E=>?_
  obtain ⟨al,aD,O,an⟩:=E
  rcases J op ab b hb with ⟨⟨I,W,ar⟩,_⟩ | ⟨I,W,D,S⟩
  ·have f:blk a.loc=some I:=by rw [al]; exact W
   rcases ar with ⟨x,o,ho⟩ | ⟨o,x⟩ | x | ⟨_,o,x⟩
   ·have aq:a.write=true:=by
     rcases O with y | y
     ·exact y
     ·rw [x] at y; cases y
    exact h.read i _ hi I o ho k a A f aq
   ·exact h.own i _ hi I o x k a A f
   ·have:=uY h.low A f; omega
   ·cases x
  ·have f:blk a.loc=some I:=by rw [al]; exact W
   rcases h.shr I D k a A f with y | ⟨y,aC⟩ | y
   ·rcases an with z | z | ⟨_,z,_⟩
    ·rw [y] at z; cases z
    ·rcases S with x | ⟨x,_⟩ <;> (rw [x] at z; cases z)
    ·rw [y] at z; cases z
   ·rcases S with x | ⟨x,rfl⟩
    ·rcases an with z | z | ⟨_,_,z⟩
     ·rw [y] at z; cases z
     ·rw [x] at z; cases z
     ·rw [x] at z; cases z
    ·exact aC
   ·exact y i _ hi
 ·rcases lC A with ⟨_,C⟩ | ⟨op,h1,h2,h3⟩
  ·obtain ⟨z1,z2⟩:=h.iR k a C af b f
   refine ⟨λ j y d o ho=>?_,z2⟩
   by_cases s:j=i
   ·subst s; rw [dp] at d; cases d
    rcases V b o ho with ⟨o',N⟩ | Q
    ·exact z1 j _ hi o' N
    ·have:=uY h.low C f; omega
   ·rw [cS s] at d; exact z1 j y d o ho
  ·rcases J op h2 a h3 with ⟨_,au⟩ | ⟨F,p,D,_⟩
   ·exact absurd af au
   ·rw [f] at p; cases p
    refine ⟨λ j y d o ho=>?_,λ e=>(ah b e).2 D⟩
    by_cases s:j=i
    ·subst s; rw [dp] at d; cases d
     rcases V b o ho with ⟨o',N⟩ | Q
     ·exact (L D hi).2 o' N
     ·obtain ⟨aB,ay⟩:=ac b D; have:=ad b aB ay; omega
    ·rw [cS s] at d; exact (L D d).2 o ho
theorem qW(hu:∀ op∈u,op.act.touch? = none){k:Nat}{a:Touch}(h:touchAt (t++u) k=some a):touchAt t k=some a:=by
 rcases lC h with ⟨_,x⟩ | ⟨op,_,h2,h3⟩
 ·exact x
 ·rw [hu op h2] at h3; cases h3
theorem cl.mute(h:cl am aw th mu dd sh fr n t)(hu:∀ op∈u,op.g=i)(hm:∀ op∈u,op.act.touch? = none)(hl:∀ op∈u,op.act.low n)(D:∀ op∈u,∀ a,op.act ≠ .mark (.release a)){d':Nat}(hd:Deaf (t++u) i=d') :
  cl am aw th mu (ec dd i d') sh fr n (t++u):=by
 have old:∀ {k a},touchAt (t++u) k=some a→k < t.size∧touchAt t k=some a:=λ {k a} c=>by
  have:=qW hm c
  obtain ⟨x,F,_⟩:=touch_of this
  exact ⟨lt_size_of_getElem? F,this⟩
 exact ⟨λ j y d b o hb k a c f=>(h.own j y d b o hb k a (old c).2 f).app u,λ j y d b o hb k a c f E=>(h.read j y d b o hb k a (old c).2 f E).app u,
  λ b hb k a c f=>(h.shr b hb k a (old c).2 f).imp id (Or.imp (And.imp id (·.app u)) λ x j y d=>(x j y d).app u),
  λ b hb k a c f=>(h.free b hb k a (old c).2 f).imp (λ x j y d=>(x j y d).app u) (·.app u),
  λ op C=>(Array.mem_append.1 C).elim (h.low op) (hl op),
  λ k a c z p=>(h.all k a (old c).2 z (p.imp id (heard_old (old c).1).1)).imp (λ ⟨j,y,d,A,s⟩=>⟨j,y,d,A,s.app u⟩) (·.app u),
  B3 h.deaf hu hd,zp h.norel D,λ said=>Fc (h.clean said) hm,λ k a c=>h.iR k a (old c).2⟩
theorem heard_new{y:MemOp}(h:∀ i,Deaf t i=dd i)(hd:dd y.g=0):(t++#[y]).heard t.size :=
 ⟨y.g,by simp [Trace.g?],by rw [deaf_old (cq _)]; exact (h y.g).trans hd⟩
theorem Dp{a:Addr}{y:MemOp}{k:Nat}(hd:∀ i,Deaf t i=dd i)(f:dd y.g=0)(j:∀ a,NoRelease a (t++#[y]))(o:y.act = .mark (.acquire a))(h:mK (some a) t k):Kn (t++#[y]) y.g k:=by
 obtain ⟨x,p,e,h1,h2,h3⟩:=h
 cases e
 have b:=lt_of_act? h1
 have c:(t++#[y])[t.size]? = some y:=by simp
 have d:HappensBefore (t++#[y]) p t.size:=.single (.inr ⟨.marked b (.inr (by rw [act?_old b]; exact h1)) (by rw [act?_of c,o]) (λ k _ _=>j a k),(heard_old b).2 h2,heard_new hd f⟩)
 exact ⟨t.size,y,c,rfl,.inr ((h3.app #[y]).hb d)⟩
theorem AH{a:Addr}{y:MemOp}{k:Nat}(hd:∀ i,Deaf t i=dd i)(c:dd y.g=0)(d:y.act = .mark (.releaseMerge a))(h:Kn t y.g k):mK (some a) (t++#[y]) k:=by
 have b:(t++#[y])[t.size]? = some y:=by simp
 exact ⟨a,t.size,rfl,by rw [act?_of b,d],heard_new hd c,.inr (Go.Conc.Knows.hb_new h (cq _) b rfl)⟩
theorem mm{y op:MemOp}(h:op∈#[y]):op=y:=by simpa using h
theorem vo{y:MemOp}{m:Mark}(c:y.act = .mark m)(h1:∀ a,m ≠ .read a)(h2:∀ a,m ≠ .write a)(h3:∀ a,m ≠ .release a)(hl:(MemAct.mark m).low n) :
  (∀ op∈#[y],op.act.touch? = none)∧(∀ op∈#[y],op.act.low n)∧(∀ op∈#[y],∀ a,op.act ≠ .mark (.release a)):=by
 refine ⟨λ op b=>?_,λ op b=>?_,λ op b a=>?_⟩ <;> (rw [mm b,c])
 ·cases m <;> first | rfl | exact absurd rfl (h1 _) | exact absurd rfl (h2 _)
 ·exact hl
 ·exact λ e=>h3 a (by cases e; rfl)
theorem ug{y:MemOp}{m:Mark}(h:∀ i,Deaf t i=dd i)(b:y.act = .mark m)(h1:m ≠ .disable)(h2:m ≠ .enable):Deaf (t++#[y]) y.g=dd y.g:=by
 rw [Deaf_push]
 unfold deafStep
 rw [b]
 cases m <;> first | exact h y.g | exact absurd rfl h1 | exact absurd rfl h2
theorem cl.acquire{a:Addr}{b:Nat}{o:Obj}{y:MemOp}(h:cl (some a) aw th mu dd sh (some b) n t)(hi:th i=some ⟨R,H⟩)(L:y.g=i)(D:y.act = .mark (.acquire a))(G:dd i=0)(hl:(MemAct.mark (.acquire a)).low n) :
  cl (some a) aw (dS th i (some ⟨R,(b,o)::H⟩)) mu dd sh none n (t++#[y]):=by
 subst L
 obtain ⟨m1,N,m3⟩:=vo (n:=n) D (by intro a e; cases e) (by intro a e; cases e) (by intro a e; cases e) hl
 have hb:=h.mute (i:=y.g) (λ op M=>by rw [mm M]) m1 N m3 (ug h.deaf D (by intro e; cases e) (by intro e; cases e))
 rw [gA] at hb
 have old:∀ {k a},touchAt (t++#[y]) k=some a→touchAt t k=some a:=λ {k a} s=>qW m1 s
 refine ⟨λ j x d c o' f k A s C=>?_,λ j x d c o' f k A s C hw=>?_,λ c f k A s C=>?_,λ c f=>(by cases f),hb.low,λ k A s hm J=>?_,hb.deaf,hb.norel,hb.clean,λ k A s I c C=>⟨λ j x d o' f=>?_,λ e=>by cases e⟩⟩
 rotate_right
 ·obtain ⟨z1,z2⟩:=hb.iR k A s I c C
  by_cases p:j=y.g
  ·subst p; rw [dp] at d; cases d
   rcases c8.1 f with e | f
   ·cases e; exact z2 rfl
   ·exact z1 _ _ hi o' f
  ·rw [cS p] at d; exact z1 j x d o' f
 ·by_cases p:j=y.g
  ·subst p; rw [dp] at d; cases d
   rcases c8.1 f with e | f
   ·cases e
    rcases h.free _ rfl k A (old s) C with x | x
    ·exact (x _ _ hi).app _
    ·exact Dp h.deaf G hb.norel D x
   ·exact hb.own _ _ hi c o' f k A s C
  ·rw [cS p] at d; exact hb.own j x d c o' f k A s C
 ·by_cases p:j=y.g
  ·subst p; rw [dp] at d; cases d; exact hb.read _ _ hi c o' f k A s C hw
  ·rw [cS p] at d; exact hb.read j x d c o' f k A s C hw
 ·refine (hb.shr c f k A s C).imp id (Or.imp id λ z j x d=>?_)
  by_cases p:j=y.g
  ·subst p; exact z _ _ hi
  ·rw [cS p] at d; exact z j x d
 ·refine (hb.all k A s hm J).imp (λ ⟨j,x,d,F,E⟩=>?_) id
  by_cases p:j=y.g
  ·subst p; exact ⟨_,_,dp _ _ _,F,E⟩
  ·exact ⟨j,x,by rw [cS p]; exact d,F,E⟩
theorem cl.release{a:Addr}{b:Nat}{o:Obj}{y:MemOp}(h:cl (some a) aw th mu dd sh none n t)(hi:th i=some ⟨R,H⟩)(G:(b,o)∈H)(E:∀ x∈H',x∈H)(N:y.g=i)(D:y.act = .mark (.releaseMerge a))(L:dd i=0)(hl:(MemAct.mark (.releaseMerge a)).low n) :
  cl (some a) aw (dS th i (some ⟨R,H'⟩)) mu dd sh (some b) n (t++#[y]):=by
 subst N
 obtain ⟨m1,Q,m3⟩:=vo (n:=n) D (by intro a e; cases e) (by intro a e; cases e) (by intro a e; cases e) hl
 have hb:=h.mute (i:=y.g) (λ op O=>by rw [mm O]) m1 Q m3 (ug h.deaf D (by intro e; cases e) (by intro e; cases e))
 rw [gA] at hb
 have old:∀ {k a},touchAt (t++#[y]) k=some a→touchAt t k=some a:=λ {k a} f=>qW m1 f
 refine ⟨λ j x d c o' C k p f A=>?_,λ j x d c o' C k p f A hw=>?_,λ c C k p f A=>?_,λ c C k p f A=>?_,hb.low,λ k p f hm M=>?_,hb.deaf,hb.norel,hb.clean,λ k p f F c A=>⟨λ j x d o' C=>?_,λ e=>?_⟩⟩
 rotate_right 2
 ·obtain ⟨z1,z2⟩:=hb.iR k p f F c A
  by_cases s:j=y.g
  ·subst s; rw [dp] at d; cases d
   exact z1 _ _ hi o' (E _ C)
  ·rw [cS s] at d; exact z1 j x d o' C
 ·cases e; exact (hb.iR k p f F _ A).1 _ _ hi _ G
 ·by_cases s:j=y.g
  ·subst s; rw [dp] at d; cases d
   exact hb.own _ _ hi c o' (E _ C) k p f A
  ·rw [cS s] at d; exact hb.own j x d c o' C k p f A
 ·by_cases s:j=y.g
  ·subst s; rw [dp] at d; cases d; exact hb.read _ _ hi c o' C k p f A hw
  ·rw [cS s] at d; exact hb.read j x d c o' C k p f A hw
 ·refine (hb.shr c C k p f A).imp id (Or.imp id λ z j x d=>?_)
  by_cases s:j=y.g
  ·subst s; exact z _ _ hi
  ·rw [cS s] at d; exact z j x d
 ·cases C
  exact .inr (AH h.deaf L D (h.own _ _ hi b o G k p (old f) A))
 ·refine (hb.all k p f hm M).imp (λ ⟨j,x,d,J,I⟩=>?_) id
  by_cases s:j=y.g
  ·subst s; exact ⟨_,_,dp _ _ _,J,I⟩
  ·exact ⟨j,x,by rw [cS s]; exact d,J,I⟩
theorem cl.TR{a:Addr}{y:MemOp}(h:cl am (some a) th mu dd sh fr n t)(A:y.g=i)(d:y.act = .mark (.releaseMerge a))(s:dd i=0)(hl:(MemAct.mark (.releaseMerge a)).low n) :
  cl am (some a) th (hg mu i true) dd sh fr n (t++#[y]):=by
 subst A
 obtain ⟨m1,E,m3⟩:=vo (n:=n) d (by intro a e; cases e) (by intro a e; cases e) (by intro a e; cases e) hl
 have hb:=h.mute (i:=y.g) (λ op D=>by rw [mm D]) m1 E m3 (ug h.deaf d (by intro e; cases e) (by intro e; cases e))
 rw [gA] at hb
 have old:∀ {k a},touchAt (t++#[y]) k=some a→k < t.size∧touchAt t k=some a:=λ {k a} b=>by
  have:=qW m1 b
  obtain ⟨x,c,_⟩:=touch_of this
  exact ⟨lt_size_of_getElem? c,this⟩
 refine ⟨hb.own,hb.read,hb.shr,hb.free,hb.low,λ k p b hm z=>?_,hb.deaf,hb.norel,hb.clean,hb.iR⟩
 rcases h.all k p (old b).2 hm (z.imp id (heard_old (old b).1).1) with ⟨j,x,c,C,o⟩ | x
 ·by_cases f:j=y.g
  ·subst f; exact .inr (AH h.deaf s d o)
  ·exact .inl ⟨j,x,c,by rw [Ac f]; exact C,o.app _⟩
 ·exact .inr (x.app _)
theorem cl.die(h:cl am aw th mu dd sh fr n t)(hm:mu i=true):cl am aw (dS th i none) mu dd sh fr n t:=by
 have key:∀ j y,dS th i none j=some y→th j=some y:=λ j y c=>by
  by_cases o:j=i
  ·subst o; rw [dp] at c; cases c
  ·rwa [cS o] at c
 refine ⟨λ j y c=>h.own j y (key j y c),λ j y c=>h.read j y (key j y c),λ b hb k a d f=>(h.shr b hb k a d f).imp id (Or.imp id λ z j y c=>z j y (key j y c)),λ b hb k a d f=>(h.free b hb k a d f).imp (λ z j y c=>z j y (key j y c)) id,h.low,λ k a d D A=>?_,h.deaf,h.norel,h.clean,λ k a d s b f=>(h.iR k a d s b f).imp (λ z j y c=>z j y (key j y c)) id⟩
 refine (h.all k a d D A).imp (λ ⟨j,y,c,p,C⟩=>⟨j,y,?_,p,C⟩) id
 by_cases o:j=i
 ·subst o; rw [hm] at p; cases p
 ·rw [cS o]; exact c
theorem cl.spawn{c:Nat}{x y:MemOp}(h:cl am aw th mu dd sh fr n t)(hi:th 0=some ⟨R,H⟩)(J:aK R' R)(M:th c=none)(D:x.g=0∧x.act = .go c)(E:y.g=c∧y.act = .start)(I:dd 0=0)(O:dd c=0)(U:c≠0)(T:mu c=false) :
  cl am aw (dS th c (some ⟨R',[]⟩)) mu dd sh fr n (t++#[x,y]):=by
 have G:∀ op∈#[x,y],op=x∨op=y:=by intro op C; simpa using C
 have m1:∀ op∈#[x,y],op.act.touch? = none:=λ op C=>by
  rcases G op C with rfl | rfl
  ·rw [D.2]; rfl
  ·rw [E.2]; rfl
 have old:∀ {k a},touchAt (t++#[x,y]) k=some a→k < t.size∧touchAt t k=some a:=λ {k a} d=>by
  have:=qW m1 d
  obtain ⟨x,D,_⟩:=touch_of this
  exact ⟨lt_size_of_getElem? D,this⟩
 have kn:∀ {k},Kn t 0 k→Kn (t++#[x,y]) c k:=λ d=>fork_knows D E ((h.deaf 0).trans I) ((h.deaf c).trans O) d
 refine ⟨λ j z p b o hb k a d s=>?_,λ j z p b o hb k a d s hw=>?_,λ b hb k a d s=>?_,λ b hb k a d s=>?_,λ op C=>?_,λ k a d hm N=>?_,λ j=>?_,zp h.norel λ op C a=>?_,λ said=>Fc (h.clean said) m1,λ k a d L b s=>(h.iR k a (old d).2 L b s).imp (λ z j F A o ho=>?_) id⟩
 ·by_cases f:j=c
  ·subst f; rw [dp] at p; cases p; cases hb
  ·rw [cS f] at p; exact (h.own j z p b o hb k a (old d).2 s).app _
 ·by_cases f:j=c
  ·subst f; rw [dp] at p; cases p
   exact kn (h.read 0 _ hi b o (J b o hb) k a (old d).2 s hw)
  ·rw [cS f] at p; exact (h.read j z p b o hb k a (old d).2 s hw).app _
 ·refine (h.shr b hb k a (old d).2 s).imp id (Or.imp (And.imp id (·.app _)) λ z j F A=>?_)
  by_cases f:j=c
  ·subst f; exact kn (z 0 _ hi)
  ·rw [cS f] at A; exact (z j F A).app _
 ·refine (h.free b hb k a (old d).2 s).imp (λ z j F A=>?_) (·.app _)
  by_cases f:j=c
  ·subst f; exact kn (z 0 _ hi)
  ·rw [cS f] at A; exact (z j F A).app _
 ·rcases Array.mem_append.1 C with z | z
  ·exact h.low op z
  ·rcases G op z with rfl | rfl
   ·rw [D.2]; trivial
   ·rw [E.2]; trivial
 ·refine (h.all k a (old d).2 hm (N.imp id (heard_old (old d).1).1)).imp (λ ⟨j,z,p,S,Q⟩=>⟨j,z,?_,S,Q.app _⟩) (·.app _)
  rw [cS (λ e=>by subst e; rw [M] at p; cases p)]; exact p
 ·have e:t++#[x,y]=(t++#[x])++#[y]:=by apply Array.ext'; simp
  rw [e,Deaf_push,Deaf_push]
  unfold deafStep
  rw [D.2,E.2]
  exact h.deaf j
 ·rcases G op C with rfl | rfl
  ·rw [D.2]; intro e; cases e
  ·rw [E.2]; intro e; cases e
 ·by_cases f:j=c
  ·subst f; rw [dp] at A; cases A; cases ho
  ·rw [cS f] at A; exact z j F A o ho
end
section
variable {B:Base} {am aw:Option Addr} {mu:Nat→Bool} {dd:Nat→Nat} {sh:List Nat} {n:Nat} {R:aA} {H H':ai} {t:Trace}
theorem cl.share{bs:List Nat}{b:Nat}(h:cl none none (only ⟨R,H⟩) mu dd [] none n t)(z:∀ c∈b::bs,∃ o,(c,o)∈H)(A:∀ x∈H',x∈H)(am aw:Option Addr):cl am aw (only ⟨R,H'⟩) mu dd bs (some b) n t:=by
 have y:∀ {i x H1},only ⟨R,H1⟩ i=some x→i=0∧x=⟨R,H1⟩:=λ {i x H1} d=>by
  unfold only at d; split at d
  ·cases d; exact ⟨‹_›,rfl⟩
  ·cases d
 refine ⟨λ i x d c o s k a f j=>?_,λ i x d c o s k a f j hw=>?_,λ c s k a f j=>?_,λ c s k a f j=>?_,h.low,λ k a f hm D=>?_,h.deaf,h.norel,h.clean,λ k a f C c j=>⟨λ i x d o ho=>?_,λ e=>?_⟩⟩
 ·obtain ⟨rfl,rfl⟩:=y d; exact h.own 0 _ rfl c o (A _ s) k a f j
 ·obtain ⟨rfl,rfl⟩:=y d; exact h.read 0 _ rfl c o s k a f j hw
 ·obtain ⟨o,ho⟩:=z c (List.mem_cons_of_mem _ s)
  refine .inr (.inr λ i x d=>?_)
  obtain ⟨rfl,rfl⟩:=y d; exact h.own 0 _ rfl c o ho k a f j
 ·cases s
  obtain ⟨o,ho⟩:=z b (by simp)
  refine .inl λ i x d=>?_
  obtain ⟨rfl,rfl⟩:=y d; exact h.own 0 _ rfl b o ho k a f j
 ·rcases h.all k a f hm D with ⟨i,x,d,F,E⟩ | ⟨x,p,e,_⟩
  ·obtain ⟨rfl,rfl⟩:=y d; exact .inl ⟨0,_,rfl,F,E⟩
  ·cases e
 ·obtain ⟨rfl,rfl⟩:=y d; exact (h.iR k a f C c j).1 0 _ rfl o (A _ ho)
 ·cases e
  obtain ⟨o,ho⟩:=z b (by simp)
  exact (h.iR k a f C b j).1 0 _ rfl o ho
theorem cl.TA{a:Addr}{b:Nat}{o:Obj}{y:MemOp}(h:cl am (some a) (only ⟨R,H⟩) mu dd sh (some b) n t)(_:b < n)(G:y.g=0)(E:y.act = .mark (.acquire a))(J:dd 0=0)(_:mu 0=false)(hl:(MemAct.mark (.acquire a)).low n) :
  cl none none (only ⟨R,(b,o)::H⟩) (λ _=>false) dd [] none n (t++#[y]):=by
 have C:∀ {i x H1},only ⟨R,H1⟩ i=some x→i=0∧x=⟨R,H1⟩:=λ {i x H1} j=>by
  unfold only at j; split at j
  ·cases j; exact ⟨‹_›,rfl⟩
  ·cases j
 obtain ⟨m1,O,m3⟩:=vo (n:=n) E (by intro a e; cases e) (by intro a e; cases e) (by intro a e; cases e) hl
 have s:=h.mute (i:=y.g) (λ op M=>by rw [mm M]) m1 O m3 (ug h.deaf E (by intro e; cases e) (by intro e; cases e))
 rw [gA] at s
 have old:∀ {k a},touchAt (t++#[y]) k=some a→k < t.size∧touchAt t k=some a:=λ {k a} d=>by
  have:=qW m1 d
  obtain ⟨x,j,_⟩:=touch_of this
  exact ⟨lt_size_of_getElem? j,this⟩
 have acq:∀ {k},mK (some a) t k→Kn (t++#[y]) 0 k:=λ {k} d=>by
  have:=Dp h.deaf (by rw [G]; exact J) s.norel E d
  rwa [G] at this
 have I:∀ k x,touchAt (t++#[y]) k=some x→x.loc.isMemory=true→(x.kind ≠ .atomic∨(t++#[y]).heard k)→Kn (t++#[y]) 0 k:=λ k x d hm D=>by
  rcases h.all k x (old d).2 hm (D.imp id (heard_old (old d).1).1) with ⟨i,z,N,_,L⟩ | z
  ·obtain ⟨rfl,rfl⟩:=C N; exact L.app _
  ·exact acq z
 refine ⟨λ i x j c o' f k p d A=>?_,λ i x j c o' f k p d A hw=>?_,λ c f=>(by cases f),λ c f=>(by cases f),s.low,λ k p d hm D=>.inl ⟨0,_,rfl,rfl,I k p d hm D⟩,s.deaf,s.norel,s.clean,λ k p d F c A=>⟨λ i x j o' f=>?_,λ e=>by cases e⟩⟩
 ·obtain ⟨rfl,rfl⟩:=C j
  rcases c8.1 f with e | f
  ·cases e
   refine I k p d ?_ (.inl λ e=>(h.iR k p (old d).2 e _ A).2 rfl)
   obtain ⟨loc,wr,kd⟩:=p
   cases loc <;> first | rfl | cases A
  ·exact s.own 0 _ rfl c o' f k p d A
 ·obtain ⟨rfl,rfl⟩:=C j; exact s.read 0 _ rfl c o' f k p d A hw
 ·obtain ⟨rfl,rfl⟩:=C j
  rcases c8.1 f with e | f
  ·cases e; exact (s.iR k p d F _ A).2 rfl
  ·exact (s.iR k p d F c A).1 0 _ rfl o' f
theorem cl.handed(h:cl none none (only ⟨R,H⟩) mu dd [] none n t):t.HandedOver:=by
 intro i x c p ⟨a,d,hm,f⟩
 rcases h.all i a d hm f with ⟨j,y,b,_,o⟩ | ⟨_,_,e,_⟩
 ·have k:j=0:=by
   unfold only at b
   split at b
   ·assumption
   ·cases b
  subst k
  obtain ⟨q,z,h1,h2,h3⟩:=o
  refine ⟨q,by simp [Trace.g?,h1,h2],?_⟩
  rcases h3 with rfl | h3
  ·rw [show t.g? i=some z.g by simp [Trace.g?,h1],h2] at c
   exact absurd (eI c).symm p
  ·exact h3
 ·cases e
end
section
variable {R:aA} {H:ai} {n m:Nat} {e:Event}
theorem KB{a:Touch}(h:eM R H n m e)(c:(MemAct.ofEvent e).touch? = some a):a.kind ≠ .atomic:=by
 obtain ⟨loc,wr,f⟩:=e
 cases loc with
 | cell d =>
  obtain ⟨h1,_⟩:=h
  simp only at h1; subst h1
  have e1:MemAct.ofEvent ⟨.cell d,wr,false⟩ = .access ⟨.cell d,wr,false⟩:=by cases wr <;> rfl
  rw [e1] at c
  simp only [MemAct.touch?,ey] at c
  subst c; simp
 | obj b =>
  obtain ⟨h1,_⟩:=h
  simp only at h1; subst h1
  have e1:MemAct.ofEvent ⟨.obj b,wr,false⟩ = .access ⟨.obj b,wr,false⟩:=by cases wr <;> rfl
  rw [e1] at c
  simp only [MemAct.touch?,ey] at c
  subst c; simp
 | mark mk =>
  cases mk <;> simp [eM] at h
  cases wr <;> cases f <;> simp [MemAct.ofEvent,MemAct.touch?] at c
 | _=>simp [eM] at h
theorem Im{g d:Nat}{u:List MemOp}(h:∀ op∈u,∀ mk,op.act = .mark mk→Neutral mk):u.foldl (deafStep g) d=d:=by
 induction u generalizing d with
 | nil=>rfl
 | cons y u f =>
  have e:deafStep g d y=d:=by
   unfold deafStep
   split
   ·rename_i b; exact absurd rfl ((h y (by simp) _ b).ne_disable)
   ·rename_i b; exact absurd rfl ((h y (by simp) _ b).ne_enable)
   ·rfl
  rw [List.foldl_cons,e]
  exact f λ op c=>h op (List.mem_cons_of_mem _ c)
theorem Il{i:Nat}{t:Trace}{es:Array Event}{fn:FuncId}{pos:String}(h:∀ e∈es,eM R H n m e):Deaf (t++MemOp.ofEvents i fn pos es) i=Deaf t i:=by
 have e:MemOp.ofEvents i fn pos es=(MemOp.ofEvents i fn pos es).toList.toArray:=by simp
 rw [e,Deaf_append]
 refine Im λ op b mk hm=>?_
 obtain ⟨e,he,rfl⟩:=nB (by simpa using b)
 exact CR (h e he) mk hm
theorem KD(h:eM R H n m e)(a:Addr):MemAct.ofEvent e ≠ .mark (.release a):=by
 intro hm
 have:=CR h _ hm
 cases this
end
section
variable {B:Base} {am aw:Option Addr} {th:Nat→Option Th} {mu:Nat→Bool} {dd:Nat→Nat} {sh:List Nat} {fr:Option Nat} {ch:ai} {w w':World} {i:Nat} {R R':aA} {H H':ai} {t:Trace}
theorem s5(f:dq B th ch w)(z:∀ b,b∈sh→∃ o,(b,o)∈ch)(y:∀ b,fr=some b→(∃ o,(b,o)∈ch)∧b ∉ sh)(h:cl am aw th mu dd sh fr w.heap.size t)(hi:th i=some ⟨R,H⟩)(_:mu i=false∨w'=w)
  {es:Array Event} (d:∀ e∈es,eM R H w.heap.size w'.heap.size e) (s:mu i=false∨es=#[]) (hu:dN B R H w R' H' w') (fn:FuncId) (pos:String) :
  dq B (dS th i (some ⟨R',H'⟩)) ch w'∧cl am aw (dS th i (some ⟨R',H'⟩)) mu dd sh fr w'.heap.size (t++MemOp.ofEvents i fn pos es):=by
 refine ⟨f.upd hi hu,?_⟩
 have:=cl.app (u:=MemOp.ofEvents i fn pos es) (n':=w'.heap.size) (R':=R') (H':=H') f rfl z y h hi (λ op c=>by obtain ⟨e,_,rfl⟩:=nB c; rfl)
  (λ op c a j=>by obtain ⟨e,he,rfl⟩:=nB c; exact .inl ⟨KE (d e he) j,KB (d e he) j⟩) (λ op c=>by obtain ⟨e,he,rfl⟩:=nB c; exact KC (d e he))
  (λ op c a=>by obtain ⟨e,he,rfl⟩:=nB c; exact KD (d e he) a) (Il d) ?_ hu.size hu.qJ hu.mh
 ·rwa [h.deaf i,gA] at this
 ·refine s.imp id λ e=>?_
  subst e
  intro k a C p
  rw [ofEvents_none,Array.append_empty] at p
  obtain ⟨x,A,_⟩:=touch_of p
  have:=lt_size_of_getElem? A
  omega
theorem Dd(c:dq B th ch w)(f:∀ b,b∈sh→∃ o,(b,o)∈ch)(d:∀ b,fr=some b→(∃ o,(b,o)∈ch)∧b ∉ sh)(h:cl am aw th mu dd sh fr w.heap.size t)(hi:th i=some ⟨R,H⟩)(hu:dN B R H w R' H' w) :
  dq B (dS th i (some ⟨R',H'⟩)) ch w∧cl am aw (dS th i (some ⟨R',H'⟩)) mu dd sh fr w.heap.size t:=by
 have:=s5 (w':=w) (es:=#[]) c f d h hi (.inr rfl) (by simp) (.inr rfl) hu 0 ""
 rw [ofEvents_none,Array.append_empty] at this
 exact this
end
theorem Qx{i:Nat}{fn:FuncId}{pos:String}{es:Array Event}(h:∀ e∈es,Event.mute e=true){n:Nat} :
  (∀ op∈MemOp.ofEvents i fn pos es,op.g=i)∧(∀ op∈MemOp.ofEvents i fn pos es,op.act.touch? = none)∧(∀ op∈MemOp.ofEvents i fn pos es,op.act.low n)∧∀ op∈MemOp.ofEvents i fn pos es,∀ a,op.act ≠ .mark (.release a):=by
 have key:∀ e:Event,e.mute=true→MemAct.ofEvent e = .mark .disable∨MemAct.ofEvent e = .mark .enable:=by
  intro e he
  obtain ⟨loc,wr,c⟩:=e
  cases loc with
  | mark m=>cases m <;> simp [Event.mute] at he <;> cases wr <;> cases c <;> simp [MemAct.ofEvent]
  | _=>simp [Event.mute] at he
 have k2:∀ op∈MemOp.ofEvents i fn pos es,op.g=i∧(op.act = .mark .disable∨op.act = .mark .enable):=λ op b=>by
  obtain ⟨e,he,rfl⟩:=nB b; exact ⟨rfl,key e (h e he)⟩
 refine ⟨λ op b=>(k2 op b).1,λ op b=>?_,λ op b=>?_,λ op b a=>?_⟩ <;> rcases (k2 op b).2 with e | e <;> rw [e]
 ·rfl
 ·rfl
 ·trivial
 ·trivial
 ·intro x; cases x
 ·intro x; cases x
theorem cl.leaves{am aw:Option Addr}{th:Nat→Option Th}{mu:Nat→Bool}{dd:Nat→Nat}{sh:List Nat}{fr:Option Nat}{n i:Nat}{t:Trace}{es:Array Event}{fn:FuncId}{pos:String}(h:cl am aw th mu dd sh fr n t)(b:∀ e∈es,Event.mute e=true) :
  cl am aw th mu (ec dd i (deafBehind (dd i) es)) sh fr n (t++MemOp.ofEvents i fn pos es):=by
 obtain ⟨h1,h2,h3,h4⟩:=Qx (i:=i) (fn:=fn) (pos:=pos) b (n:=n)
 exact h.mute h1 h2 h3 h4 (by rw [Deaf_own,h.deaf i])
structure lK (P:Program) (B:Base) (R:aA) (H:ai) (gs:Array Goroutine) (w:World) (t:Trace) (q dd:Nat→Nat):Prop where
 mem:dq B (only ⟨R,H⟩) [] w
 tr:cl none none (only ⟨R,H⟩) (λ _=>false) dd [] none w.heap.size t
 d0:dd 0=0
 dz:∀ i,gs.size≤i→dd i=0
 lv:∀ i g,0 < i→gs[i]? = some g→QuitsD P (q i) (dd i) g
section
variable (P:Program) (B:Base) (Post:Value→World→Prop)
def e4(R:aA)(H:ai)(g:Goroutine):Prop:=∀ gs w sl t q dd,gs[0]? = some g→lK P B R H gs w t q dd→fY P Post (crowd gs w sl) t
end
section
variable {P:Program} {B:Base} {Post:Value→World→Prop} {R:aA} {H:ai} {g:Goroutine}
theorem lK.fits{gs:Array Goroutine}{w:World}{t:Trace}{q dd:Nat→Nat}(h:lK P B R H gs w t q dd):Fits B R H w:=h.mem.fits 0 ⟨R,H⟩ rfl
theorem lK.at{gs:Array Goroutine}{w:World}{t:Trace}{q dd:Nat→Nat}(h:lK P B R H gs w t q dd)(d:Nat):lK P B R H gs (w.at d) t q dd:=⟨h.mem.at d,h.tr,h.d0,h.dz,h.lv⟩
theorem e4.pick(E:g.status = .running)
  (h:∀ gs w sl D d t q dd,gs[0]? = some g→lK P B R H gs (w.at d) t q dd→stepT P (crowd gs w sl)=runT P (crowd gs (w.at d) D) 0→fY P Post (crowd gs w sl) t):e4 P B Post R H g:=by
 have key:∀ M gs w sl t q dd,cu gs.size q≤M→gs[0]? = some g→lK P B R H gs w t q dd→fY P Post (crowd gs w sl) t:=by
  intro M
  induction M with
  | zero =>
   intro gs w sl t q dd S o b
   have J:∀ x∈gs,awake x:=by
    intro x c
    obtain ⟨i,hi,rfl⟩:=Array.mem_iff_getElem.1 c
    rcases Nat.eq_zero_or_pos i with rfl | s
    ·have:gs[0]=g:=by simpa [h0 hi] using o
     rw [this]; exact awake_of (.inl E)
    ·exact awake_of ((b.lv i _ s (h0 hi)).status.elim .inl λ x=>.inr (.inr x))
   obtain ⟨i,x,d,D,hi,c,G⟩:=crowd_pick (P:=P) (w:=w) (sl:=sl) J ⟨0,g,o,E⟩
   rcases Nat.eq_zero_or_pos i with rfl | s
   ·exact h gs w sl D d t q dd o (b.at d) G
   ·have A:=b.lv i x s hi
    have C:i < gs.size:=(Array.getElem?_eq_some_iff.1 hi).1
    have Z:q i=0:=by
     have h2:∀ (j:Nat),i < j→q i≤cu j q:=by
      intro j p
      induction j with
      | zero=>omega
      | succ j N =>
       rcases Nat.lt_or_ge i j with C | af
       ·have:=N C; simp only [cu]; omega
       ·obtain rfl:i=j:=by omega
        simp only [cu]; omega
     have:=h2 gs.size C
     omega
    rw [Z] at A
    rw [show x.status = .finished from A.1] at c; cases c
  | succ M N =>
   intro gs w sl t q dd S o b
   have J:∀ x∈gs,awake x:=by
    intro x c
    obtain ⟨i,hi,rfl⟩:=Array.mem_iff_getElem.1 c
    rcases Nat.eq_zero_or_pos i with rfl | s
    ·have:gs[0]=g:=by simpa [h0 hi] using o
     rw [this]; exact awake_of (.inl E)
    ·exact awake_of ((b.lv i _ s (h0 hi)).status.elim .inl λ x=>.inr (.inr x))
   obtain ⟨i,x,d,D,hi,c,G⟩:=crowd_pick (P:=P) (w:=w) (sl:=sl) J ⟨0,g,o,E⟩
   rcases Nat.eq_zero_or_pos i with rfl | s
   ·exact h gs w sl D d t q dd o (b.at d) G
   ·have A:=b.lv i x s hi
    have V:(i == 0)=false:=by simp; omega
    have C:i < gs.size:=(Array.getElem?_eq_some_iff.1 hi).1
    cases L:q i with
    | zero=>rw [L] at A; rw [show x.status = .finished from A.1] at c; cases c
    | succ k =>
     rw [L] at A
     rcases A with U | ⟨_,x',es,T,ac,Y⟩
     ·rw [U.1] at c; cases c
     have ab:=runT_crowd_go (P:=P) (sl:=D) (i:=i) hi (by rw [V]; exact ac (w.at d))
     refine fY.step (G.trans ab) ?_
     have Q:((gs.map (woken P x x' (w.at d))).setIfInBounds i x').size=gs.size:=by simp
     have ad:=pr (f:=q) (g:=λ j=>if j=i then k else q j) C (λ j p=>by simp [p])
     simp only [if_true,L] at ad
     refine N _ _ _ _ (λ j=>if j=i then k else q j) (ec dd i (deafBehind (dd i) es)) (by rw [Q]; omega) ?_ ⟨(b.at d).mem,b.tr.leaves T,?_,λ j p=>?_,λ j y p I=>?_⟩
     ·have W:i≠0:=by omega
      rw [gB W,Array.getElem?_map,o]
      simp [woken_run E]
     ·rw [j1 (by omega)]; exact b.d0
     ·rw [Q] at p; rw [j1 (by omega)]; exact b.dz j p
     ·by_cases F:i=j
      ·subst F
       rw [j4 (by simpa using C)] at I
       obtain rfl:=eI I
       simpa [j2] using Y
      ·rw [gB F,Array.getElem?_map] at I
       obtain ⟨z,ae,rfl⟩:=Option.map_eq_some_iff.1 I
       have O:=b.lv j z p ae
       rw [woken_quitsD O,j1 (Ne.symm F)]
       simpa [Ne.symm F] using O
 exact λ gs w sl t q dd o b=>key _ gs w sl t q dd (cq _) o b
theorem zn{ch:ai}:∀ b,b∈([]:List Nat)→∃ o:Obj,(b,o)∈ch:=λ _ h=>by cases h
theorem zl{ch:ai}:∀ b,(none:Option Nat)=some b→(∃ o:Obj,(b,o)∈ch)∧b ∉ ([]:List Nat):=λ _ h=>by cases h
theorem e4.step(C:g.status = .running)(h:∀ w,Fits B R H w→∃ g' w' es R' H',stepG P true g w = .go g' w' es∧(∀ e∈es,eM R H w.heap.size w'.heap.size e)∧dN B R H w R' H' w'∧e4 P B Post R' H' g'):e4 P B Post R H g:=by
 refine e4.pick C λ gs w sl E d t q dd f b c=>?_
 obtain ⟨g',w',es,R',H',h1,h2,h3,h4⟩:=h _ b.fits
 have A:=runT_crowd_go (P:=P) (sl:=E) (i:=0) f (show stepG P (0 == 0) g (w.at d)=_ from h1)
 refine fY.step (c.trans A) ?_
 have s:0 < gs.size:=(Array.getElem?_eq_some_iff.1 f).1
 have c:=s5 b.mem zn zl b.tr (i:=0) rfl (.inl rfl) h2 (.inl rfl) h3 g.frame.fn g.frame.place
 rw [vI] at c
 refine h4 _ _ _ _ q dd (by simp [s]) ⟨c.1,c.2,b.d0,λ i hi=>b.dz i (by simpa using hi),λ j x p o=>?_⟩
 have z:0≠j:=by omega
 rw [gB z,Array.getElem?_map] at o
 obtain ⟨y,D,rfl⟩:=Option.map_eq_some_iff.1 o
 have k:=b.lv j y p D
 rw [woken_quitsD k]
 exact k
theorem e4.ghost{R':aA}{H':ai}(f:∀ w,Fits B R H w→dN B R H w R' H' w)(h:e4 P B Post R' H' g):e4 P B Post R H g:=by
 intro gs w sl t q dd d b
 have c:=Dd b.mem zn zl b.tr (i:=0) rfl (f w b.fits)
 rw [vI] at c
 exact h gs w sl t q dd d ⟨c.1,c.2,b.d0,b.dz,b.lv⟩
def pd(P:Program)(B:Base)(Post:Value→World→Prop):Jd P B true:=⟨e4 P B Post,e4.step,e4.ghost⟩
end
end Go.Lg
