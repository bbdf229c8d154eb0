/- Traces; goroutine 0 beside those that leave. Conditions: none. -/
import Derived.Test.YtihapemckcdicaaGreatDoorQYLgA
import Derived.Conc.CrowdTrace
import Derived.Conc.JoinTrace
import Derived.Conc.QuitsD
namespace Go.Lg
open Go.Conc
inductive Tree:Type 1
 | node (ι:Type) (f:ι→Tree):Tree
inductive pL:Tree→Tree→Prop
 | mk {ι:Type} (f:ι→Tree) (i:ι):pL (f i) (.node ι f)
theorem pL.acc(t:Tree):Acc pL t:=by
 induction t with
 | node ι f a=>exact ⟨_,λ y h=>by cases h; exact a _⟩
abbrev Ms:=Option Tree
inductive gR:Ms→Ms→Prop
 | some {a b:Tree}:pL a b→gR (some a) (some b)
 | none {b:Tree}:gR none (some b)
theorem gR.yl:Acc gR (Option.none:Ms):=⟨_,λ y h=>by cases h⟩
theorem gR.acc(m:Ms):Acc gR m:=by
 cases m with
 | none=>exact gR.yl
 | some t =>
  have:=pL.acc t
  induction this with
  | intro t _ a =>
   refine ⟨_,λ y h=>?_⟩
   cases h with
   | some h=>exact a _ h
   | none=>exact gR.yl
inductive One {α:Type 1} (r:α→α→Prop):List α→List α→Prop
 | head {a b:α} {l:List α}:r a b→One r (a::l) (b::l)
 | tail {a:α} {l l':List α}:One r l l'→One r (a::l) (a::l')
theorem One.acc{α:Type 1}{r:α→α→Prop}(h:∀ a,Acc r a):∀ l:List α,Acc (One r) l
 | []=>⟨_,λ y h=>by cases h⟩
 | b::l=>by
  have hb:=h b
  have hl:=One.acc h l
  induction hb generalizing l with
  | intro b _ f =>
   induction hl with
   | intro l hl' j =>
    refine ⟨_,λ y d=>?_⟩
    cases d with
    | head c=>exact f _ c _ ⟨_,hl'⟩
    | tail ho=>exact j _ ho
theorem One.wf:WellFounded (One gR):=⟨One.acc gR.acc⟩
theorem One.set{α:Type 1}{r:α→α→Prop}:∀ {l:List α} {i:Nat} {a b:α},l[i]? = some b→r a b→One r (l.set i a) l
 | [],_,_,_,h,_=>by cases h
 | x::l,0,a,b,h,c=>by cases h; exact .head c
 | x::l,i+1,a,b,h,c=>.tail (One.set (by simpa using h) c)
def ih:Nat→Tree
 | 0=>.node Empty Empty.elim
 | n+1=>.node Unit λ _=>ih n
theorem Cg(n:Nat):gR (some (ih n)) (some (ih (n+1))):=.some (.mk (λ _:Unit=>ih n) ())
section
variable (P:Program) (B:Base) (main:Bool) (K:ax→ai→Goroutine→Prop)
def mV:Tree→ax→ai→Goroutine→Prop
 | .node _ f=>λ R H g=>K R H g ∨
  (g.status = .running∧∀ w,Fits B R H w→∃ g' w' es R' H' i,stepG P main g w = .go g' w' es∧(∀ e∈es,dW R H w.heap.size w'.heap.size e)∧dg B R H w R' H' w'∧mV (f i) R' H' g') ∨
  (∃ R' H' i,(∀ w,Fits B R H w→dg B R H w R' H' w)∧mV (f i) R' H' g)
def Own(R:ax)(H:ai)(g:Goroutine):Prop:=∃ T,mV P B main K T R H g
theorem Own.stop{R:ax}{H:ai}{g:Goroutine}(h:K R H g):Own P B main K R H g:=⟨.node Empty Empty.elim,.inl h⟩
open Classical in
def q6:Jd P B main where
 J:=Own P B main K
 step:=by
  intro R H g b h
  refine ⟨.node { x:ax × ai × Goroutine // Own P B main K x.1 x.2.1 x.2.2 } (λ x=>x.2.choose),.inr (.inl ⟨b,λ w hw=>?_⟩)⟩
  obtain ⟨g',w',es,R',H',h1,h2,h3,h4⟩:=h w hw
  exact ⟨g',w',es,R',H',⟨(R',H',g'),h4⟩,h1,h2,h3,Exists.choose_spec h4⟩
 ghost:=by
  intro R H R' H' g a h
  exact ⟨.node Unit (λ _=>h.choose),.inr (.inr ⟨R',H',(),a,h.choose_spec⟩)⟩
end
theorem nn{α:Type}{a:Option α}{u:α}{C:Prop}(h:a=none)(b:a=some u):C:=by rw [h] at b; cases b
structure Th where
 R:ax
 H:ai
def dm(th:Nat→Option Th)(i:Nat)(x:Option Th):Nat→Option Th:=λ j=>if j=i then x else th j
theorem cQ(th:Nat→Option Th)(i:Nat)(x:Option Th):dm th i x i=x:=by simp [dm]
theorem cu{th:Nat→Option Th}{i j:Nat}{x:Option Th}(h:j≠i):dm th i x j=th j:=by simp [dm,h]
structure cR (B:Base) (th:Nat→Option Th) (ch:ai) (w:World):Prop where
 fits:∀ i x,th i=some x→Fits B x.R x.H w
 apart:∀ i j x y,i≠j→th i=some x→th j=some y→∀ b o,(b,o)∈x.H→y.R b=none∧∀ o',(b,o') ∉ y.H
 gn:∀ c o,(c,o)∈ch→w.heap[c]? = some o
 fC:∀ c o,(c,o)∈ch→∀ i x,th i=some x→x.R c=none∧∀ o',(c,o') ∉ x.H
theorem Fits.at{B:Base}{R:ax}{H:ai}{w:World}(h:Fits B R H w)(d:Nat):Fits B R H (w.at d):=⟨h.r,h.h,h.nd,h.dj,h.os,h.tape,h.out⟩
theorem cR.at{B:Base}{th:Nat→Option Th}{ch:ai}{w:World}(h:cR B th ch w)(d:Nat):cR B th ch (w.at d) :=
 ⟨λ i x a=>(h.fits i x a).at d,h.apart,h.gn,h.fC⟩
section
variable {B:Base} {th:Nat→Option Th} {ch:ai} {w w':World} {i:Nat} {R R':ax} {H H':ai}
theorem cR.upd(h:cR B th ch w)(hi:th i=some ⟨R,H⟩)(hu:dg B R H w R' H' w'):cR B (dm th i (some ⟨R',H'⟩)) ch w':=by
 have A {j:Nat} {y:Th} (a:th j=some y):(∀ b o,y.R b=some o→b < w.heap.size)∧(∀ b o,(b,o)∈y.H→b < w.heap.size) :=
  ⟨λ b o x=>ft ((h.fits j y a).r b o x),λ b o x=>ft ((h.fits j y a).h b o x)⟩
 refine ⟨λ j y a=>?_,λ j k x y z s a b o hb=>?_,λ c o q=>?_,λ c o q j y a=>?_⟩
 ·by_cases f:j=i
  ·subst f; rw [cQ] at a; cases a; exact hu.fits
  ·rw [cu f] at a
   have v:=h.fits j y a
   have hl:=A a
   refine ⟨λ b o x=>?_,λ b o x=>?_,v.nd,v.dj,hu.fits.os,hu.fits.tape,hu.fits.out⟩
   ·rw [hu.same b (hl.1 b o x) λ o' d=>nn (h.apart i j _ _ (Ne.symm f) hi a b o' d).1 x]
    exact v.r b o x
   ·rw [hu.same b (hl.2 b o x) λ o' d=>(h.apart i j _ _ (Ne.symm f) hi a b o' d).2 o x]
    exact v.h b o x
 ·by_cases f:j=i
  ·subst f
   rw [cQ] at s; cases s
   rw [cu (Ne.symm z)] at a
   rcases hu.lh b o hb with ⟨o',d⟩ | E
   ·exact h.apart j k _ _ z hi a b o' d
   ·refine ⟨?_,λ o' d=>?_⟩
    ·cases l:y.R b with
     | none=>rfl
     | some u=>have:=(A a).1 b u l; omega
    ·have:=(A a).2 b o' d; omega
  ·rw [cu f] at s
   by_cases D:k=i
   ·subst D
    rw [cQ] at a; cases a
    have C:=(A s).2 b o hb
    have p:=h.apart j k _ _ z s hi b o hb
    refine ⟨?_,λ o' d=>?_⟩
    ·cases l:R' b with
     | none=>simp [l]
     | some u =>
      rcases hu.pj b u l with x | ⟨o',x⟩ | x
      ·exact nn p.1 x
      ·exact absurd x (p.2 o')
      ·omega
    ·rcases hu.lh b o' d with ⟨u,x⟩ | x
     ·exact p.2 u x
     ·omega
   ·rw [cu D] at a
    exact h.apart j k _ _ z s a b o hb
 ·have C:=ft (h.gn c o q)
  rw [hu.same c C λ o' d=>(h.fC c o q i _ hi).2 o' d]
  exact h.gn c o q
 ·by_cases f:j=i
  ·subst f
   rw [cQ] at a; cases a
   have C:=ft (h.gn c o q)
   have p:=h.fC c o q j _ hi
   refine ⟨?_,λ o' d=>?_⟩
   ·cases l:R' c with
    | none=>simp [l]
    | some u =>
     rcases hu.pj c u l with x | ⟨o',x⟩ | x
     ·exact nn p.1 x
     ·exact absurd x (p.2 o')
     ·omega
   ·rcases hu.lh c o' d with ⟨u,x⟩ | x
    ·exact p.2 u x
    ·omega
  ·rw [cu f] at a
   exact h.fC c o q j y a
theorem cR.drop(h:cR B th ch w):cR B (dm th i none) ch w:=by
 have key:∀ j y,dm th i none j=some y→th j=some y:=λ j y a=>by
  by_cases b:j=i
  ·subst b; rw [cQ] at a; cases a
  ·rwa [cu b] at a
 exact ⟨λ j y a=>h.fits j y (key j y a),λ j k x y f l a=>h.apart j k x y f (key j x l) (key k y a),h.gn,λ c o d j y a=>h.fC c o d j y (key j y a)⟩
theorem cR.add{c:Nat}(h:cR B th ch w)(hi:th i=some ⟨R,H⟩)(s:aJ R' R):cR B (dm th c (some ⟨R',[]⟩)) ch w:=by
 refine ⟨λ j y d=>?_,λ j k x y D l d b o hb=>?_,h.gn,λ a o z j y d=>?_⟩
 ·by_cases f:j=c
  ·subst f; rw [cQ] at d; cases d
   have q:=h.fits i _ hi
   exact ⟨λ b o x=>q.r b o (s b o x),λ b o x=>(by cases x),List.nodup_nil,λ b o x=>(by cases x),q.os,q.tape,q.out⟩
  ·rw [cu f] at d; exact h.fits j y d
 ·by_cases f:j=c
  ·subst f; rw [cQ] at l; cases l; cases hb
  ·rw [cu f] at l
   by_cases C:k=c
   ·subst C
    rw [cQ] at d; cases d
    refine ⟨?_,λ o' x=>by cases x⟩
    cases p:R' b with
    | none=>simp [p]
    | some u =>
     have v:=s b u p
     by_cases A:j=i
     ·subst A
      rw [hi] at l; cases l
      exact nn ((h.fits j _ hi).dj b o hb) v
     ·exact nn (h.apart j i _ _ A l hi b o hb).1 v
   ·rw [cu C] at d; exact h.apart j k x y D l d b o hb
 ·by_cases f:j=c
  ·subst f; rw [cQ] at d; cases d
   refine ⟨?_,λ o' x=>by cases x⟩
   cases p:R' a with
   | none=>simp [p]
   | some u=>exact nn (h.fC a o z i _ hi).1 (s a u p)
  ·rw [cu f] at d; exact h.fC a o z j y d
end
abbrev Kn(t:Trace)(g i:Nat):Prop:=Go.Conc.Knows t g i
def blk:Loc→Option Nat
 | .cell a=>some a.block
 | .obj r=>some r
 | _=>none
theorem Pz{x:MemAct}{a:Touch}{n b:Nat}(h:x.low n)(c:x.touch? = some a)(hb:blk a.loc=some b):b < n:=by
 cases x with
 | access e =>
  simp only [MemAct.touch?,eh] at c
  subst c
  obtain ⟨loc,wr,d⟩:=e
  cases loc <;> simp [blk] at hb <;> subst hb <;> exact h
 | mark m =>
  cases m <;> simp only [MemAct.touch?,eh,reduceCtorEq] at c
  all_goals (subst c; simp [blk] at hb; subst hb; exact h)
 | _=>simp [MemAct.touch?] at c
def yh(ch:ai)(R:ax)(H:ai)(n:Nat)(a:Touch):Prop :=
 ∃ b,blk a.loc=some b∧((a.write=false∧∃ o,R b=some o)∨(∃ o,(b,o)∈H)∨n≤b∨(a.kind = .atomic∧∃ o,(b,o)∈ch))
theorem j8{t u:Trace}{k:Nat}{a:Touch}(h:touchAt (t++u) k=some a):(k < t.size∧touchAt t k=some a)∨(∃ op,(t++u)[k]? = some op∧op∈u∧op.act.touch? = some a):=by
 obtain ⟨x,b,c⟩:=touch_of h
 rcases getElem?_append_cases b with ⟨d,f⟩ | ⟨_,j⟩
 ·exact .inl ⟨d,by rw [touchAt_of f]; exact c⟩
 ·exact .inr ⟨x,b,j,c⟩
theorem s8{t:Trace}{k b n:Nat}{a:Touch}(hl:∀ op∈t,op.act.low n)(h:touchAt t k=some a)(hb:blk a.loc=some b):b < n:=by
 obtain ⟨x,c,d⟩:=touch_of h
 exact Pz (hl x (mem_of_getElem? c)) d hb
section
variable {B:Base} {th:Nat→Option Th} {ch:ai} {cls:Option Nat} {w:World} {n n' i:Nat} {R R':ax} {H H':ai} {t u:Trace}
theorem Cj{said:Bool}(h:¬ Race said t)(hu:∀ op∈u,op.act.touch? = none):¬ Race said (t++u):=by
 rintro ⟨i,j,o,⟨a,b,c,hb,l⟩,p,q⟩
 rcases j8 (u:=u) (a:=a) (k:=i) c with ⟨hi,d⟩ | ⟨op,_,h2,h3⟩
 ·rcases j8 (u:=u) (a:=b) (k:=j) hb with ⟨r,f⟩ | ⟨op,_,h2,h3⟩
  ·exact h ⟨i,j,o,⟨a,b,d,f,l⟩,λ e=>p (hb_app u e),λ e=>q (hb_app u e)⟩
  ·rw [hu op h2] at h3; cases h3
 ·rw [hu op h2] at h3; cases h3
end
def b4:Nat→(Nat→Nat)→Nat
 | 0,_=>0
 | j+1,f=>b4 j f+f j
theorem rp{f g:Nat→Nat}:∀ {j:Nat},(∀ i,i < j→f i=g i)→b4 j f=b4 j g
 | 0,_=>rfl
 | j+1,h=>by rw [b4,b4,rp (λ i hi=>h i (by omega)),h j (by omega)]
theorem n5{f g:Nat→Nat}{i:Nat}:∀ {j:Nat},i < j→(∀ k,k≠i→g k=f k)→b4 j g+f i=b4 j f+g i
 | j+1,h,b=>by
  rcases Nat.lt_or_ge i j with c | l
  ·have:=n5 c b
   simp only [b4,b j (by omega)]
   omega
  ·obtain rfl:i=j:=by omega
   simp only [b4]
   rw [rp (g:=f) (λ a d=>b a (by omega))]
   omega
section
variable (P:Program) (Post:Value→World→Prop)
def fl(m:Machine)(t:Trace):Prop:=∃ N last o w' t',runNT P (N+1) m t=(.ended o w',t')∧runN P N m = .next last∧step P last = .ended o w'∧Good P Post last o w' t'
variable {P Post}
theorem fl.step{m m':Machine}{t:Trace}{ops:Array MemOp}(a:stepT P m=(.next m',ops))(h:fl P Post m' (t++ops)):fl P Post m t:=by
 obtain ⟨N,last,o,w',t',h1,h2,h3,h4⟩:=h
 exact ⟨N+1,last,o,w',t',by rw [runNT_succ_next a]; exact h1,by rw [runN_succ_next a]; exact h2,h3,h4⟩
theorem fl.end{m:Machine}{t:Trace}{o:Outcome}{w':World}{ops:Array MemOp}(a:stepT P m=(.ended o w',ops))(h:Good P Post m o w' (t++ops)):fl P Post m t :=
 ⟨0,m,o,w',t++ops,by simp [runNT,a],rfl,by simp [Go.step,a],h⟩
end
theorem my{g:Nat}{fn:FuncId}{pos:String}{es:Array Event}{op:MemOp}(h:op∈MemOp.ofEvents g fn pos es):∃ e∈es,op={ g,fn,pos,act:=.ofEvent e }:=by
 rw [ofEvents_eq] at h
 obtain ⟨e,he,rfl⟩:=Array.mem_map.1 h
 exact ⟨e,he,rfl⟩
section
variable {R:ax} {H:ai} {n m:Nat} {e:Event} {ch:ai}
theorem Hj{a:Touch}(h:dW R H n m e)(c:(MemAct.ofEvent e).touch? = some a):yh ch R H n a:=by
 obtain ⟨loc,wr,f⟩:=e
 have key:∀ b,mZ R H n wr b→((wr=false∧∃ o,R b=some o)∨(∃ o,(b,o)∈H)∨n≤b):=λ b hb=>by
  rcases hb with ⟨h1,h2⟩ | h2 | h2
  ·exact .inl ⟨h1,Option.isSome_iff_exists.1 h2⟩
  ·exact .inr (.inl h2)
  ·exact .inr (.inr h2)
 cases loc with
 | cell d =>
  obtain ⟨h1,_,h3⟩:=h
  simp only at h1; subst h1
  have e1:MemAct.ofEvent ⟨.cell d,wr,false⟩ = .access ⟨.cell d,wr,false⟩:=by cases wr <;> rfl
  rw [e1] at c
  simp only [MemAct.touch?,eh] at c
  subst c
  refine ⟨d.block,rfl,?_⟩
  rcases key _ h3 with x | x | x
  ·exact .inl x
  ·exact .inr (.inl x)
  ·exact .inr (.inr (.inl x))
 | obj b =>
  obtain ⟨h1,_,h3⟩:=h
  simp only at h1; subst h1
  have e1:MemAct.ofEvent ⟨.obj b,wr,false⟩ = .access ⟨.obj b,wr,false⟩:=by cases wr <;> rfl
  rw [e1] at c
  simp only [MemAct.touch?,eh] at c
  subst c
  refine ⟨b,rfl,?_⟩
  rcases key _ h3 with x | x | x
  ·exact .inl x
  ·exact .inr (.inl x)
  ·exact .inr (.inr (.inl x))
 | mark mk =>
  cases mk <;> simp [dW] at h
  cases wr <;> cases f <;> simp [MemAct.ofEvent,MemAct.touch?] at c
 | _=>simp [dW] at h
theorem Hh(h:dW R H n m e):(MemAct.ofEvent e).low m:=by
 obtain ⟨loc,wr,a⟩:=e
 cases loc with
 | cell c =>
  obtain ⟨h1,h2,_⟩:=h
  simp only at h1; subst h1
  cases wr <;> exact h2
 | obj b =>
  obtain ⟨h1,h2,_⟩:=h
  simp only at h1; subst h1
  cases wr <;> exact h2
 | mark mk =>
  cases mk <;> simp [dW] at h
  cases wr <;> cases a <;> trivial
 | _=>simp [dW] at h
theorem Ag(h:dW R H n m e):∀ mk,MemAct.ofEvent e = .mark mk→Neutral mk:=by
 obtain ⟨loc,wr,a⟩:=e
 intro mk hm
 cases loc with
 | cell c=>obtain ⟨h1,_⟩:=h; simp only at h1; subst h1; cases wr <;> cases hm
 | obj b=>obtain ⟨h1,_⟩:=h; simp only at h1; subst h1; cases wr <;> cases hm
 | mark mk' =>
  cases mk' <;> simp [dW] at h
  cases wr <;> cases a <;> (cases hm; rfl)
 | _=>simp [dW] at h
end
def only(x:Th):Nat→Option Th:=λ i=>if i=0 then some x else none
theorem tO(x y:Th):dm (only x) 0 (some y)=only y:=by funext i; unfold dm only; split <;> rfl
open Go.ConcN
def dx(f:Nat→Nat)(i x:Nat):Nat→Nat:=λ j=>if j=i then x else f j
theorem iX(f:Nat→Nat)(i x:Nat):dx f i x i=x:=by simp [dx]
theorem iW{f:Nat→Nat}{i j x:Nat}(h:j≠i):dx f i x j=f j:=by simp [dx,h]
theorem fM(f:Nat→Nat)(i:Nat):dx f i (f i)=f:=by funext j; unfold dx; split <;> simp [*]
def gz(f:Nat→Bool)(i:Nat)(x:Bool):Nat→Bool:=λ j=>if j=i then x else f j
theorem um(f:Nat→Bool)(i:Nat)(x:Bool):gz f i x i=x:=by simp [gz]
theorem xS{f:Nat→Bool}{i j:Nat}{x:Bool}(h:j≠i):gz f i x j=f j:=by simp [gz,h]
def lK(a:Option Addr)(t:Trace)(k:Nat):Prop:=∃ x p,a=some x∧t.act? p=some (.mark (.releaseMerge x))∧t.heard p∧Before t k p
theorem lK.app{a:Option Addr}{t:Trace}{k:Nat}(h:lK a t k)(u:Trace):lK a (t++u) k:=by
 obtain ⟨x,p,h1,h2,h3,h4⟩:=h
 have b:=lt_of_act? h2
 exact ⟨x,p,h1,by rw [act?_old b]; exact h2,(heard_old b).2 h3,h4.app u⟩
structure bX (am aw:Option Addr) (th:Nat→Option Th) (mu:Nat→Bool) (dd:Nat→Nat) (sh:List Nat) (fr:Option Nat) (n:Nat) (t:Trace):Prop where
 own:∀ i x,th i=some x→∀ b o,(b,o)∈x.H→∀ k a,touchAt t k=some a→blk a.loc=some b→Kn t i k
 read:∀ i x,th i=some x→∀ b o,x.R b=some o→∀ k a,touchAt t k=some a→blk a.loc=some b→a.write=true→Kn t i k
 shr:∀ b,b∈sh→∀ k a,touchAt t k=some a→blk a.loc=some b→a.kind = .atomic∨(a.kind = .said∧Kn t 0 k)∨∀ i x,th i=some x→Kn t i k
 free:∀ b,fr=some b→∀ k a,touchAt t k=some a→blk a.loc=some b→(∀ i x,th i=some x→Kn t i k)∨lK am t k
 low:∀ op∈t,op.act.low n
 all:∀ k a,touchAt t k=some a→a.loc.isMemory=true→(a.kind ≠ .atomic∨t.heard k)→(∃ i x,th i=some x∧mu i=false∧Kn t i k)∨lK aw t k
 deaf:∀ i,Deaf t i=dd i
 norel:∀ a,NoRelease a t
 clean:∀ said,¬ Race said t
 hX:∀ k a,touchAt t k=some a→a.kind = .atomic→∀ b,blk a.loc=some b→(∀ i x,th i=some x→∀ o,(b,o) ∉ x.H)∧fr≠some b
def D4(sh:List Nat)(i:Nat)(a:Touch):Prop:=∃ b,blk a.loc=some b∧b∈sh∧(a.kind = .atomic∨(a.kind = .said∧i=0))
section
variable {B:Base} {am aw:Option Addr} {th:Nat→Option Th} {mu:Nat→Bool} {dd:Nat→Nat} {sh:List Nat} {fr:Option Nat} {ch:ai} {w:World} {n n' i:Nat} {R R':ax} {H H':ai} {t u:Trace}
theorem xf(h:∀ a,NoRelease a t)(f:∀ op∈u,∀ a,op.act ≠ .mark (.release a))(a:Addr):NoRelease a (t++u):=by
 intro k c
 obtain ⟨op,ho,b⟩:=Option.map_eq_some_iff.1 c
 rcases getElem?_append_cases ho with ⟨_,d⟩ | ⟨_,hu⟩
 ·exact h a k (by rw [Trace.act?,d]; simp [b])
 ·exact f op hu a b
theorem zr(h:∀ i,Deaf t i=dd i)(hu:∀ op∈u,op.g=i){d':Nat}(hd:Deaf (t++u) i=d')(j:Nat):Deaf (t++u) j=dx dd i d' j:=by
 by_cases a:j=i
 ·subst a; rw [iX,hd]
 ·rw [iW a,Deaf_other (g':=i) t (Ne.symm a) u hu,h j]
theorem bX.app(D:cR B th ch w)(V:w.heap.size=n)(X:∀ b,b∈sh→∃ o,(b,o)∈ch)(ac:∀ b,fr=some b→(∃ o,(b,o)∈ch)∧b ∉ sh)
  (h:bX am aw th mu dd sh fr n t) (hi:th i=some ⟨R,H⟩) (hu:∀ op∈u,op.g=i)
  (F:∀ op∈u,∀ a,op.act.touch? = some a→(yh [] R H n a∧a.kind ≠ .atomic)∨D4 sh i a) (hl:∀ op∈u,op.act.low n') (aq:∀ op∈u,∀ a,op.act ≠ .mark (.release a))
  {d':Nat} (hd:Deaf (t++u) i=d') (I:mu i=false∨∀ k a,t.size≤k→touchAt (t++u) k=some a→¬ (a.kind ≠ .atomic∨(t++u).heard k)) (an:n≤n')
  (ah:∀ b o,R' b=some o→R b=some o∨(∃ o',(b,o')∈H)∨n≤b) (S:∀ b o,(b,o)∈H'→(∃ o',(b,o')∈H)∨n≤b) :
  bX am aw (dm th i (some ⟨R',H'⟩)) mu (dx dd i d') sh fr n' (t++u):=by
 have ag {j:Nat} {y:Th} (d:th j=some y):(∀ b o,y.R b=some o→b < n)∧(∀ b o,(b,o)∈y.H→b < n) :=
  ⟨λ b o x=>V ▸ ft ((D.fits j y d).r b o x),λ b o x=>V ▸ ft ((D.fits j y d).h b o x)⟩
 have Y:∀ c o,(c,o)∈ch→c < n:=λ c o I=>V ▸ ft (D.gn c o I)
 have Q:∀ k op,(t++u)[k]? = some op→op∈u→Kn (t++u) i k:=λ k op h1 h2=>by
  have:=knows_own h1; rwa [hu op h2] at this
 have G:∀ {b j y},b∈sh→th j=some y→y.R b=none∧∀ o',(b,o') ∉ y.H:=λ {b j y} hb d=>by
  obtain ⟨o,ho⟩:=X b hb; exact D.fC b o ho j y d
 refine ⟨λ j y d b o hb k a q f=>?_,λ j y d b o hb k a q f L=>?_,λ b hb k a q f=>?_,λ b hb k a q f=>?_,λ op W=>?_,λ k a q hm ab=>?_,zr h.deaf hu hd,xf h.norel aq,λ said=>?_,λ k a q aa b f=>?_⟩
 ·by_cases p:j=i
  ·subst p; rw [cQ] at d; cases d
   rcases j8 q with ⟨_,s⟩ | ⟨op,h1,h2,_⟩
   ·rcases S b o hb with ⟨o',J⟩ | M
    ·exact (h.own j _ hi b o' J k a s f).app u
    ·have:=s8 h.low s f; omega
   ·exact Q k op h1 h2
  ·rw [cu p] at d
   rcases j8 q with ⟨_,s⟩ | ⟨op,h1,h2,h3⟩
   ·exact (h.own j y d b o hb k a s f).app u
   ·have Z:=D.apart j i _ _ p d hi b o hb
    rcases F op h2 a h3 with ⟨⟨C,l,A⟩,_⟩ | ⟨C,l,v,_⟩
    ·rw [f] at l; cases l
     rcases A with ⟨_,o',x⟩ | ⟨o',x⟩ | x | ⟨_,o',x⟩
     ·exact nn Z.1 x
     ·exact absurd x (Z.2 o')
     ·have:=(ag d).2 b o hb; omega
     ·cases x
    ·rw [f] at l; cases l
     exact absurd hb ((G v d).2 o)
 ·by_cases p:j=i
  ·subst p; rw [cQ] at d; cases d
   rcases j8 q with ⟨_,s⟩ | ⟨op,h1,h2,_⟩
   ·rcases ah b o hb with x | ⟨o',x⟩ | x
    ·exact (h.read j _ hi b o x k a s f L).app u
    ·exact (h.own j _ hi b o' x k a s f).app u
    ·have:=s8 h.low s f; omega
   ·exact Q k op h1 h2
  ·rw [cu p] at d
   rcases j8 q with ⟨_,s⟩ | ⟨op,h1,h2,h3⟩
   ·exact (h.read j y d b o hb k a s f L).app u
   ·rcases F op h2 a h3 with ⟨⟨C,l,A⟩,_⟩ | ⟨C,l,v,_⟩
    ·rw [f] at l; cases l
     rcases A with ⟨x,_⟩ | ⟨o',x⟩ | x | ⟨_,o',x⟩
     ·rw [L] at x; cases x
     ·exact nn (D.apart i j _ _ (Ne.symm p) hi d b o' x).1 hb
     ·have:=(ag d).1 b o hb; omega
     ·cases x
    ·rw [f] at l; cases l
     exact nn (G v d).1 hb
 ·rcases j8 q with ⟨_,s⟩ | ⟨op,h1,h2,h3⟩
  ·refine (h.shr b hb k a s f).imp id (Or.imp (And.imp id (·.app u)) λ x j y d=>?_)
   by_cases p:j=i
   ·subst p; exact (x j _ hi).app u
   ·rw [cu p] at d; exact (x j y d).app u
  ·rcases F op h2 a h3 with ⟨⟨C,l,A⟩,_⟩ | ⟨C,l,v,N⟩
   ·rw [f] at l; cases l
    rcases A with ⟨_,o',x⟩ | ⟨o',x⟩ | x | ⟨_,o',x⟩
    ·exact nn (G hb hi).1 x
    ·exact absurd x ((G hb hi).2 o')
    ·obtain ⟨o,ho⟩:=X b hb; have:=Y b o ho; omega
    ·cases x
   ·rcases N with x | ⟨x,rfl⟩
    ·exact .inl x
    ·exact .inr (.inl ⟨x,Q k op h1 h2⟩)
 ·rcases j8 q with ⟨_,s⟩ | ⟨op,h1,h2,h3⟩
  ·refine (h.free b hb k a s f).imp (λ x j y d=>?_) (·.app u)
   by_cases p:j=i
   ·subst p; exact (x j _ hi).app u
   ·rw [cu p] at d; exact (x j y d).app u
  ·obtain ⟨⟨o,ho⟩,ao⟩:=ac b hb
   rcases F op h2 a h3 with ⟨⟨C,l,A⟩,_⟩ | ⟨C,l,v,_⟩
   ·rw [f] at l; cases l
    rcases A with ⟨_,o',x⟩ | ⟨o',x⟩ | x | ⟨_,o',x⟩
    ·exact nn (D.fC b o ho i _ hi).1 x
    ·exact absurd x ((D.fC b o ho i _ hi).2 o')
    ·have:=Y b o ho; omega
    ·cases x
   ·rw [f] at l; cases l
    exact absurd v ao
 ·rcases Array.mem_append.1 W with x | x
  ·exact MemAct.low_mono an (h.low op x)
  ·exact hl op x
 ·rcases Nat.lt_or_ge k t.size with U | M
  ·have s:touchAt t k=some a:=by rw [← touchAt_old (u:=u) U]; exact q
   refine (h.all k a s hm (ab.imp id (heard_old U).1)).imp (λ ⟨j,y,d,O,ad⟩=>?_) (·.app u)
   by_cases p:j=i
   ·subst p; exact ⟨j,_,cQ _ _ _,O,ad.app u⟩
   ·exact ⟨j,y,by rw [cu p]; exact d,O,ad.app u⟩
  ·rcases I with O | I
   ·obtain ⟨op,h1,_⟩:=touch_of q
    rcases getElem?_append_cases h1 with ⟨U,_⟩ | ⟨_,h2⟩
    ·omega
    ·exact .inl ⟨i,_,cQ _ _ _,O,Q k op h1 h2⟩
   ·exact absurd ab (I k a M q)
 ·refine noRace_append (h.clean said) hu λ k a q op W b hb A=>?_
  obtain ⟨ae,av,L,af⟩:=A
  rcases F op W b hb with ⟨⟨E,T,ak⟩,_⟩ | ⟨E,T,v,N⟩
  ·have f:blk a.loc=some E:=by rw [ae]; exact T
   rcases ak with ⟨x,o,ho⟩ | ⟨o,x⟩ | x | ⟨_,o,x⟩
   ·have aj:a.write=true:=by
     rcases L with y | y
     ·exact y
     ·rw [x] at y; cases y
    exact h.read i _ hi E o ho k a q f aj
   ·exact h.own i _ hi E o x k a q f
   ·have:=s8 h.low q f; omega
   ·cases x
  ·have f:blk a.loc=some E:=by rw [ae]; exact T
   rcases h.shr E v k a q f with y | ⟨y,au⟩ | y
   ·rcases af with z | z | ⟨_,z,_⟩
    ·rw [y] at z; cases z
    ·rcases N with x | ⟨x,_⟩ <;> (rw [x] at z; cases z)
    ·rw [y] at z; cases z
   ·rcases N with x | ⟨x,rfl⟩
    ·rcases af with z | z | ⟨_,_,z⟩
     ·rw [y] at z; cases z
     ·rw [x] at z; cases z
     ·rw [x] at z; cases z
    ·exact au
   ·exact y i _ hi
 ·rcases j8 q with ⟨_,s⟩ | ⟨op,h1,h2,h3⟩
  ·obtain ⟨z1,z2⟩:=h.hX k a s aa b f
   refine ⟨λ j y d o ho=>?_,z2⟩
   by_cases p:j=i
   ·subst p; rw [cQ] at d; cases d
    rcases S b o ho with ⟨o',J⟩ | M
    ·exact z1 j _ hi o' J
    ·have:=s8 h.low s f; omega
   ·rw [cu p] at d; exact z1 j y d o ho
  ·rcases F op h2 a h3 with ⟨_,al⟩ | ⟨C,l,v,_⟩
   ·exact absurd aa al
   ·rw [f] at l; cases l
    refine ⟨λ j y d o ho=>?_,λ e=>(ac b e).2 v⟩
    by_cases p:j=i
    ·subst p; rw [cQ] at d; cases d
     rcases S b o ho with ⟨o',J⟩ | M
     ·exact (G v hi).2 o' J
     ·obtain ⟨ar,ap⟩:=X b v; have:=Y b ar ap; omega
    ·rw [cu p] at d; exact (G v d).2 o ho
theorem pA(hu:∀ op∈u,op.act.touch? = none){k:Nat}{a:Touch}(h:touchAt (t++u) k=some a):touchAt t k=some a:=by
 rcases j8 h with ⟨_,x⟩ | ⟨op,_,h2,h3⟩
 ·exact x
 ·rw [hu op h2] at h3; cases h3
theorem bX.mute(h:bX am aw th mu dd sh fr n t)(hu:∀ op∈u,op.g=i)(hm:∀ op∈u,op.act.touch? = none)(hl:∀ op∈u,op.act.low n)(v:∀ op∈u,∀ a,op.act ≠ .mark (.release a)){d':Nat}(hd:Deaf (t++u) i=d') :
  bX am aw th mu (dx dd i d') sh fr n (t++u):=by
 have old:∀ {k a},touchAt (t++u) k=some a→k < t.size∧touchAt t k=some a:=λ {k a} c=>by
  have:=pA hm c
  obtain ⟨x,A,_⟩:=touch_of this
  exact ⟨lt_size_of_getElem? A,this⟩
 exact ⟨λ j y d b o hb k a c f=>(h.own j y d b o hb k a (old c).2 f).app u,λ j y d b o hb k a c f z=>(h.read j y d b o hb k a (old c).2 f z).app u,
  λ b hb k a c f=>(h.shr b hb k a (old c).2 f).imp id (Or.imp (And.imp id (·.app u)) λ x j y d=>(x j y d).app u),
  λ b hb k a c f=>(h.free b hb k a (old c).2 f).imp (λ x j y d=>(x j y d).app u) (·.app u),
  λ op s=>(Array.mem_append.1 s).elim (h.low op) (hl op),
  λ k a c q l=>(h.all k a (old c).2 q (l.imp id (heard_old (old c).1).1)).imp (λ ⟨j,y,d,r,p⟩=>⟨j,y,d,r,p.app u⟩) (·.app u),
  zr h.deaf hu hd,xf h.norel v,λ said=>Cj (h.clean said) hm,λ k a c=>h.hX k a (old c).2⟩
theorem heard_new{y:MemOp}(h:∀ i,Deaf t i=dd i)(hd:dd y.g=0):(t++#[y]).heard t.size :=
 ⟨y.g,by simp [Trace.g?],by rw [deaf_old (b6 _)]; exact (h y.g).trans hd⟩
theorem AG{a:Addr}{y:MemOp}{k:Nat}(hd:∀ i,Deaf t i=dd i)(f:dd y.g=0)(j:∀ a,NoRelease a (t++#[y]))(l:y.act = .mark (.acquire a))(h:lK (some a) t k):Kn (t++#[y]) y.g k:=by
 obtain ⟨x,p,e,h1,h2,h3⟩:=h
 cases e
 have b:=lt_of_act? h1
 have c:(t++#[y])[t.size]? = some y:=by simp
 have d:HappensBefore (t++#[y]) p t.size:=.single (.inr ⟨.marked b (.inr (by rw [act?_old b]; exact h1)) (by rw [act?_of c,l]) (λ k _ _=>j a k),(heard_old b).2 h2,heard_new hd f⟩)
 exact ⟨t.size,y,c,rfl,.inr ((h3.app #[y]).hb d)⟩
theorem yp{a:Addr}{y:MemOp}{k:Nat}(hd:∀ i,Deaf t i=dd i)(c:dd y.g=0)(d:y.act = .mark (.releaseMerge a))(h:Kn t y.g k):lK (some a) (t++#[y]) k:=by
 have b:(t++#[y])[t.size]? = some y:=by simp
 exact ⟨a,t.size,rfl,by rw [act?_of b,d],heard_new hd c,.inr (Go.Conc.Knows.hb_new h (b6 _) b rfl)⟩
theorem lk{y op:MemOp}(h:op∈#[y]):op=y:=by simpa using h
theorem tx{y:MemOp}{m:Mark}(c:y.act = .mark m)(h1:∀ a,m ≠ .read a)(h2:∀ a,m ≠ .write a)(h3:∀ a,m ≠ .release a)(hl:(MemAct.mark m).low n) :
  (∀ op∈#[y],op.act.touch? = none)∧(∀ op∈#[y],op.act.low n)∧(∀ op∈#[y],∀ a,op.act ≠ .mark (.release a)):=by
 refine ⟨λ op b=>?_,λ op b=>?_,λ op b a=>?_⟩ <;> (rw [lk b,c])
 ·cases m <;> first | rfl | exact absurd rfl (h1 _) | exact absurd rfl (h2 _)
 ·exact hl
 ·exact λ e=>h3 a (by cases e; rfl)
theorem r7{y:MemOp}{m:Mark}(h:∀ i,Deaf t i=dd i)(a:y.act = .mark m)(h1:m ≠ .disable)(h2:m ≠ .enable):Deaf (t++#[y]) y.g=dd y.g:=by
 rw [Deaf_push]
 unfold deafStep
 rw [a]
 cases m <;> first | exact h y.g | exact absurd rfl h1 | exact absurd rfl h2
theorem bX.acquire{a:Addr}{b:Nat}{o:Obj}{y:MemOp}(h:bX (some a) aw th mu dd sh (some b) n t)(hi:th i=some ⟨R,H⟩)(F:y.g=i)(s:y.act = .mark (.acquire a))(C:dd i=0)(hl:(MemAct.mark (.acquire a)).low n) :
  bX (some a) aw (dm th i (some ⟨R,(b,o)::H⟩)) mu dd sh none n (t++#[y]):=by
 subst F
 obtain ⟨m1,I,J⟩:=tx (n:=n) s (by intro a e; cases e) (by intro a e; cases e) (by intro a e; cases e) hl
 have hb:=h.mute (i:=y.g) (λ op G=>by rw [lk G]) m1 I J (r7 h.deaf s (by intro e; cases e) (by intro e; cases e))
 rw [fM] at hb
 have old:∀ {k a},touchAt (t++#[y]) k=some a→touchAt t k=some a:=λ {k a} p=>pA m1 p
 refine ⟨λ j x d c o' f k q p r=>?_,λ j x d c o' f k q p r hw=>?_,λ c f k q p r=>?_,λ c f=>(by cases f),hb.low,λ k q p hm E=>?_,hb.deaf,hb.norel,hb.clean,λ k q p D c r=>⟨λ j x d o' f=>?_,λ e=>by cases e⟩⟩
 rotate_right
 ·obtain ⟨z1,z2⟩:=hb.hX k q p D c r
  by_cases l:j=y.g
  ·subst l; rw [cQ] at d; cases d
   rcases cJ.1 f with e | f
   ·cases e; exact z2 rfl
   ·exact z1 _ _ hi o' f
  ·rw [cu l] at d; exact z1 j x d o' f
 ·by_cases l:j=y.g
  ·subst l; rw [cQ] at d; cases d
   rcases cJ.1 f with e | f
   ·cases e
    rcases h.free _ rfl k q (old p) r with x | x
    ·exact (x _ _ hi).app _
    ·exact AG h.deaf C hb.norel s x
   ·exact hb.own _ _ hi c o' f k q p r
  ·rw [cu l] at d; exact hb.own j x d c o' f k q p r
 ·by_cases l:j=y.g
  ·subst l; rw [cQ] at d; cases d; exact hb.read _ _ hi c o' f k q p r hw
  ·rw [cu l] at d; exact hb.read j x d c o' f k q p r hw
 ·refine (hb.shr c f k q p r).imp id (Or.imp id λ z j x d=>?_)
  by_cases l:j=y.g
  ·subst l; exact z _ _ hi
  ·rw [cu l] at d; exact z j x d
 ·refine (hb.all k q p hm E).imp (λ ⟨j,x,d,A,v⟩=>?_) id
  by_cases l:j=y.g
  ·subst l; exact ⟨_,_,cQ _ _ _,A,v⟩
  ·exact ⟨j,x,by rw [cu l]; exact d,A,v⟩
theorem bX.release{a:Addr}{b:Nat}{o:Obj}{y:MemOp}(h:bX (some a) aw th mu dd sh none n t)(hi:th i=some ⟨R,H⟩)(C:(b,o)∈H)(v:∀ x∈H',x∈H)(I:y.g=i)(s:y.act = .mark (.releaseMerge a))(F:dd i=0)(hl:(MemAct.mark (.releaseMerge a)).low n) :
  bX (some a) aw (dm th i (some ⟨R,H'⟩)) mu dd sh (some b) n (t++#[y]):=by
 subst I
 obtain ⟨m1,L,M⟩:=tx (n:=n) s (by intro a e; cases e) (by intro a e; cases e) (by intro a e; cases e) hl
 have hb:=h.mute (i:=y.g) (λ op J=>by rw [lk J]) m1 L M (r7 h.deaf s (by intro e; cases e) (by intro e; cases e))
 rw [fM] at hb
 have old:∀ {k a},touchAt (t++#[y]) k=some a→touchAt t k=some a:=λ {k a} f=>pA m1 f
 refine ⟨λ j x d c o' r k l f q=>?_,λ j x d c o' r k l f q hw=>?_,λ c r k l f q=>?_,λ c r k l f q=>?_,hb.low,λ k l f hm G=>?_,hb.deaf,hb.norel,hb.clean,λ k l f A c q=>⟨λ j x d o' r=>?_,λ e=>?_⟩⟩
 rotate_right 2
 ·obtain ⟨z1,z2⟩:=hb.hX k l f A c q
  by_cases p:j=y.g
  ·subst p; rw [cQ] at d; cases d
   exact z1 _ _ hi o' (v _ r)
  ·rw [cu p] at d; exact z1 j x d o' r
 ·cases e; exact (hb.hX k l f A _ q).1 _ _ hi _ C
 ·by_cases p:j=y.g
  ·subst p; rw [cQ] at d; cases d
   exact hb.own _ _ hi c o' (v _ r) k l f q
  ·rw [cu p] at d; exact hb.own j x d c o' r k l f q
 ·by_cases p:j=y.g
  ·subst p; rw [cQ] at d; cases d; exact hb.read _ _ hi c o' r k l f q hw
  ·rw [cu p] at d; exact hb.read j x d c o' r k l f q hw
 ·refine (hb.shr c r k l f q).imp id (Or.imp id λ z j x d=>?_)
  by_cases p:j=y.g
  ·subst p; exact z _ _ hi
  ·rw [cu p] at d; exact z j x d
 ·cases r
  exact .inr (yp h.deaf F s (h.own _ _ hi b o C k l (old f) q))
 ·refine (hb.all k l f hm G).imp (λ ⟨j,x,d,E,D⟩=>?_) id
  by_cases p:j=y.g
  ·subst p; exact ⟨_,_,cQ _ _ _,E,D⟩
  ·exact ⟨j,x,by rw [cu p]; exact d,E,D⟩
theorem bX.Qc{a:Addr}{y:MemOp}(h:bX am (some a) th mu dd sh fr n t)(r:y.g=i)(d:y.act = .mark (.releaseMerge a))(p:dd i=0)(hl:(MemAct.mark (.releaseMerge a)).low n) :
  bX am (some a) th (gz mu i true) dd sh fr n (t++#[y]):=by
 subst r
 obtain ⟨m1,z,A⟩:=tx (n:=n) d (by intro a e; cases e) (by intro a e; cases e) (by intro a e; cases e) hl
 have hb:=h.mute (i:=y.g) (λ op v=>by rw [lk v]) m1 z A (r7 h.deaf d (by intro e; cases e) (by intro e; cases e))
 rw [fM] at hb
 have old:∀ {k a},touchAt (t++#[y]) k=some a→k < t.size∧touchAt t k=some a:=λ {k a} b=>by
  have:=pA m1 b
  obtain ⟨x,c,_⟩:=touch_of this
  exact ⟨lt_size_of_getElem? c,this⟩
 refine ⟨hb.own,hb.read,hb.shr,hb.free,hb.low,λ k o b hm q=>?_,hb.deaf,hb.norel,hb.clean,hb.hX⟩
 rcases h.all k o (old b).2 hm (q.imp id (heard_old (old b).1).1) with ⟨j,x,c,s,l⟩ | x
 ·by_cases f:j=y.g
  ·subst f; exact .inr (yp h.deaf p d l)
  ·exact .inl ⟨j,x,c,by rw [xS f]; exact s,l.app _⟩
 ·exact .inr (x.app _)
theorem bX.die(h:bX am aw th mu dd sh fr n t)(hm:mu i=true):bX am aw (dm th i none) mu dd sh fr n t:=by
 have key:∀ j y,dm th i none j=some y→th j=some y:=λ j y c=>by
  by_cases l:j=i
  ·subst l; rw [cQ] at c; cases c
  ·rwa [cu l] at c
 refine ⟨λ j y c=>h.own j y (key j y c),λ j y c=>h.read j y (key j y c),λ b hb k a d f=>(h.shr b hb k a d f).imp id (Or.imp id λ z j y c=>z j y (key j y c)),λ b hb k a d f=>(h.free b hb k a d f).imp (λ z j y c=>z j y (key j y c)) id,h.low,λ k a d s q=>?_,h.deaf,h.norel,h.clean,λ k a d p b f=>(h.hX k a d p b f).imp (λ z j y c=>z j y (key j y c)) id⟩
 refine (h.all k a d s q).imp (λ ⟨j,y,c,o,r⟩=>⟨j,y,?_,o,r⟩) id
 by_cases l:j=i
 ·subst l; rw [hm] at o; cases o
 ·rw [cu l]; exact c
theorem bX.spawn{c:Nat}{x y:MemOp}(h:bX am aw th mu dd sh fr n t)(hi:th 0=some ⟨R,H⟩)(E:aJ R' R)(G:th c=none)(s:x.g=0∧x.act = .go c)(v:y.g=c∧y.act = .start)(D:dd 0=0)(J:dd c=0)(O:c≠0)(N:mu c=false) :
  bX am aw (dm th c (some ⟨R',[]⟩)) mu dd sh fr n (t++#[x,y]):=by
 have C:∀ op∈#[x,y],op=x∨op=y:=by intro op r; simpa using r
 have m1:∀ op∈#[x,y],op.act.touch? = none:=λ op r=>by
  rcases C op r with rfl | rfl
  ·rw [s.2]; rfl
  ·rw [v.2]; rfl
 have old:∀ {k a},touchAt (t++#[x,y]) k=some a→k < t.size∧touchAt t k=some a:=λ {k a} d=>by
  have:=pA m1 d
  obtain ⟨x,s,_⟩:=touch_of this
  exact ⟨lt_size_of_getElem? s,this⟩
 have kn:∀ {k},Kn t 0 k→Kn (t++#[x,y]) c k:=λ d=>fork_knows s v ((h.deaf 0).trans D) ((h.deaf c).trans J) d
 refine ⟨λ j z l b o hb k a d p=>?_,λ j z l b o hb k a d p hw=>?_,λ b hb k a d p=>?_,λ b hb k a d p=>?_,λ op r=>?_,λ k a d hm I=>?_,λ j=>?_,xf h.norel λ op r a=>?_,λ said=>Cj (h.clean said) m1,λ k a d F b p=>(h.hX k a (old d).2 F b p).imp (λ z j A q o ho=>?_) id⟩
 ·by_cases f:j=c
  ·subst f; rw [cQ] at l; cases l; cases hb
  ·rw [cu f] at l; exact (h.own j z l b o hb k a (old d).2 p).app _
 ·by_cases f:j=c
  ·subst f; rw [cQ] at l; cases l
   exact kn (h.read 0 _ hi b o (E b o hb) k a (old d).2 p hw)
  ·rw [cu f] at l; exact (h.read j z l b o hb k a (old d).2 p hw).app _
 ·refine (h.shr b hb k a (old d).2 p).imp id (Or.imp (And.imp id (·.app _)) λ z j A q=>?_)
  by_cases f:j=c
  ·subst f; exact kn (z 0 _ hi)
  ·rw [cu f] at q; exact (z j A q).app _
 ·refine (h.free b hb k a (old d).2 p).imp (λ z j A q=>?_) (·.app _)
  by_cases f:j=c
  ·subst f; exact kn (z 0 _ hi)
  ·rw [cu f] at q; exact (z j A q).app _
 ·rcases Array.mem_append.1 r with z | z
  ·exact h.low op z
  ·rcases C op z with rfl | rfl
   ·rw [s.2]; trivial
   ·rw [v.2]; trivial
 ·refine (h.all k a (old d).2 hm (I.imp id (heard_old (old d).1).1)).imp (λ ⟨j,z,l,M,L⟩=>⟨j,z,?_,M,L.app _⟩) (·.app _)
  rw [cu (λ e=>by subst e; rw [G] at l; cases l)]; exact l
 ·have e:t++#[x,y]=(t++#[x])++#[y]:=by apply Array.ext'; simp
  rw [e,Deaf_push,Deaf_push]
  unfold deafStep
  rw [s.2,v.2]
  exact h.deaf j
 ·rcases C op r with rfl | rfl
  ·rw [s.2]; intro e; cases e
  ·rw [v.2]; intro e; cases e
 ·by_cases f:j=c
  ·subst f; rw [cQ] at q; cases q; cases ho
  ·rw [cu f] at q; exact z j A q o ho
end
section
variable {B:Base} {am aw:Option Addr} {mu:Nat→Bool} {dd:Nat→Nat} {sh:List Nat} {n:Nat} {R:ax} {H H':ai} {t:Trace}
theorem bX.share{bs:List Nat}{b:Nat}(h:bX none none (only ⟨R,H⟩) mu dd [] none n t)(r:∀ c∈b::bs,∃ o,(c,o)∈H)(s:∀ x∈H',x∈H)(am aw:Option Addr):bX am aw (only ⟨R,H'⟩) mu dd bs (some b) n t:=by
 have q:∀ {i x H1},only ⟨R,H1⟩ i=some x→i=0∧x=⟨R,H1⟩:=λ {i x H1} d=>by
  unfold only at d; split at d
  ·cases d; exact ⟨‹_›,rfl⟩
  ·cases d
 refine ⟨λ i x d c o l k a f j=>?_,λ i x d c o l k a f j hw=>?_,λ c l k a f j=>?_,λ c l k a f j=>?_,h.low,λ k a f hm y=>?_,h.deaf,h.norel,h.clean,λ k a f v c j=>⟨λ i x d o ho=>?_,λ e=>?_⟩⟩
 ·obtain ⟨rfl,rfl⟩:=q d; exact h.own 0 _ rfl c o (s _ l) k a f j
 ·obtain ⟨rfl,rfl⟩:=q d; exact h.read 0 _ rfl c o l k a f j hw
 ·obtain ⟨o,ho⟩:=r c (List.mem_cons_of_mem _ l)
  refine .inr (.inr λ i x d=>?_)
  obtain ⟨rfl,rfl⟩:=q d; exact h.own 0 _ rfl c o ho k a f j
 ·cases l
  obtain ⟨o,ho⟩:=r b (by simp)
  refine .inl λ i x d=>?_
  obtain ⟨rfl,rfl⟩:=q d; exact h.own 0 _ rfl b o ho k a f j
 ·rcases h.all k a f hm y with ⟨i,x,d,A,z⟩ | ⟨x,p,e,_⟩
  ·obtain ⟨rfl,rfl⟩:=q d; exact .inl ⟨0,_,rfl,A,z⟩
  ·cases e
 ·obtain ⟨rfl,rfl⟩:=q d; exact (h.hX k a f v c j).1 0 _ rfl o (s _ ho)
 ·cases e
  obtain ⟨o,ho⟩:=r b (by simp)
  exact (h.hX k a f v b j).1 0 _ rfl o ho
theorem bX.PV{a:Addr}{b:Nat}{o:Obj}{y:MemOp}(h:bX am (some a) (only ⟨R,H⟩) mu dd sh (some b) n t)(_:b < n)(C:y.g=0)(v:y.act = .mark (.acquire a))(E:dd 0=0)(_:mu 0=false)(hl:(MemAct.mark (.acquire a)).low n) :
  bX none none (only ⟨R,(b,o)::H⟩) (λ _=>false) dd [] none n (t++#[y]):=by
 have r:∀ {i x H1},only ⟨R,H1⟩ i=some x→i=0∧x=⟨R,H1⟩:=λ {i x H1} j=>by
  unfold only at j; split at j
  ·cases j; exact ⟨‹_›,rfl⟩
  ·cases j
 obtain ⟨m1,J,L⟩:=tx (n:=n) v (by intro a e; cases e) (by intro a e; cases e) (by intro a e; cases e) hl
 have p:=h.mute (i:=y.g) (λ op G=>by rw [lk G]) m1 J L (r7 h.deaf v (by intro e; cases e) (by intro e; cases e))
 rw [fM] at p
 have old:∀ {k a},touchAt (t++#[y]) k=some a→k < t.size∧touchAt t k=some a:=λ {k a} d=>by
  have:=pA m1 d
  obtain ⟨x,j,_⟩:=touch_of this
  exact ⟨lt_size_of_getElem? j,this⟩
 have acq:∀ {k},lK (some a) t k→Kn (t++#[y]) 0 k:=λ {k} d=>by
  have:=AG h.deaf (by rw [C]; exact E) p.norel v d
  rwa [C] at this
 have D:∀ k x,touchAt (t++#[y]) k=some x→x.loc.isMemory=true→(x.kind ≠ .atomic∨(t++#[y]).heard k)→Kn (t++#[y]) 0 k:=λ k x d hm s=>by
  rcases h.all k x (old d).2 hm (s.imp id (heard_old (old d).1).1) with ⟨i,z,I,_,F⟩ | z
  ·obtain ⟨rfl,rfl⟩:=r I; exact F.app _
  ·exact acq z
 refine ⟨λ i x j c o' f k l d q=>?_,λ i x j c o' f k l d q hw=>?_,λ c f=>(by cases f),λ c f=>(by cases f),p.low,λ k l d hm s=>.inl ⟨0,_,rfl,rfl,D k l d hm s⟩,p.deaf,p.norel,p.clean,λ k l d A c q=>⟨λ i x j o' f=>?_,λ e=>by cases e⟩⟩
 ·obtain ⟨rfl,rfl⟩:=r j
  rcases cJ.1 f with e | f
  ·cases e
   refine D k l d ?_ (.inl λ e=>(h.hX k l (old d).2 e _ q).2 rfl)
   obtain ⟨loc,wr,kd⟩:=l
   cases loc <;> first | rfl | cases q
  ·exact p.own 0 _ rfl c o' f k l d q
 ·obtain ⟨rfl,rfl⟩:=r j; exact p.read 0 _ rfl c o' f k l d q hw
 ·obtain ⟨rfl,rfl⟩:=r j
  rcases cJ.1 f with e | f
  ·cases e; exact (p.hX k l d A _ q).2 rfl
  ·exact (p.hX k l d A c q).1 0 _ rfl o' f
theorem bX.handed(h:bX none none (only ⟨R,H⟩) mu dd [] none n t):t.HandedOver:=by
 intro i x c o ⟨a,d,hm,f⟩
 rcases h.all i a d hm f with ⟨j,y,b,_,l⟩ | ⟨_,_,e,_⟩
 ·have k:j=0:=by
   unfold only at b
   split at b
   ·assumption
   ·cases b
  subst k
  obtain ⟨q,z,h1,h2,h3⟩:=l
  refine ⟨q,by simp [Trace.g?,h1,h2],?_⟩
  rcases h3 with rfl | h3
  ·rw [show t.g? i=some z.g by simp [Trace.g?,h1],h2] at c
   exact absurd (ed c).symm o
  ·exact h3
 ·cases e
end
section
variable {R:ax} {H:ai} {n m:Nat} {e:Event}
theorem Hg{a:Touch}(h:dW R H n m e)(c:(MemAct.ofEvent e).touch? = some a):a.kind ≠ .atomic:=by
 obtain ⟨loc,wr,f⟩:=e
 cases loc with
 | cell d =>
  obtain ⟨h1,_⟩:=h
  simp only at h1; subst h1
  have e1:MemAct.ofEvent ⟨.cell d,wr,false⟩ = .access ⟨.cell d,wr,false⟩:=by cases wr <;> rfl
  rw [e1] at c
  simp only [MemAct.touch?,eh] at c
  subst c; simp
 | obj b =>
  obtain ⟨h1,_⟩:=h
  simp only at h1; subst h1
  have e1:MemAct.ofEvent ⟨.obj b,wr,false⟩ = .access ⟨.obj b,wr,false⟩:=by cases wr <;> rfl
  rw [e1] at c
  simp only [MemAct.touch?,eh] at c
  subst c; simp
 | mark mk =>
  cases mk <;> simp [dW] at h
  cases wr <;> cases f <;> simp [MemAct.ofEvent,MemAct.touch?] at c
 | _=>simp [dW] at h
theorem E4{g d:Nat}{u:List MemOp}(h:∀ op∈u,∀ mk,op.act = .mark mk→Neutral mk):u.foldl (deafStep g) d=d:=by
 induction u generalizing d with
 | nil=>rfl
 | cons y u c =>
  have e:deafStep g d y=d:=by
   unfold deafStep
   split
   ·rename_i a; exact absurd rfl ((h y (by simp) _ a).ne_disable)
   ·rename_i a; exact absurd rfl ((h y (by simp) _ a).ne_enable)
   ·rfl
  rw [List.foldl_cons,e]
  exact c λ op b=>h op (List.mem_cons_of_mem _ b)
theorem E3{i:Nat}{t:Trace}{es:Array Event}{fn:FuncId}{pos:String}(h:∀ e∈es,dW R H n m e):Deaf (t++MemOp.ofEvents i fn pos es) i=Deaf t i:=by
 have e:MemOp.ofEvents i fn pos es=(MemOp.ofEvents i fn pos es).toList.toArray:=by simp
 rw [e,Deaf_append]
 refine E4 λ op a mk hm=>?_
 obtain ⟨e,he,rfl⟩:=my (by simpa using a)
 exact Ag (h e he) mk hm
theorem Hi(h:dW R H n m e)(a:Addr):MemAct.ofEvent e ≠ .mark (.release a):=by
 intro hm
 have:=Ag h _ hm
 cases this
end
section
variable {B:Base} {am aw:Option Addr} {th:Nat→Option Th} {mu:Nat→Bool} {dd:Nat→Nat} {sh:List Nat} {fr:Option Nat} {ch:ai} {w w':World} {i:Nat} {R R':ax} {H H':ai} {t:Trace}
theorem q7(f:cR B th ch w)(r:∀ b,b∈sh→∃ o,(b,o)∈ch)(q:∀ b,fr=some b→(∃ o,(b,o)∈ch)∧b ∉ sh)(h:bX am aw th mu dd sh fr w.heap.size t)(hi:th i=some ⟨R,H⟩)(_:mu i=false∨w'=w)
  {es:Array Event} (d:∀ e∈es,dW R H w.heap.size w'.heap.size e) (p:mu i=false∨es=#[]) (hu:dg B R H w R' H' w') (fn:FuncId) (pos:String) :
  cR B (dm th i (some ⟨R',H'⟩)) ch w'∧bX am aw (dm th i (some ⟨R',H'⟩)) mu dd sh fr w'.heap.size (t++MemOp.ofEvents i fn pos es):=by
 refine ⟨f.upd hi hu,?_⟩
 have:=bX.app (u:=MemOp.ofEvents i fn pos es) (n':=w'.heap.size) (R':=R') (H':=H') f rfl r q h hi (λ op c=>by obtain ⟨e,_,rfl⟩:=my c; rfl)
  (λ op c a j=>by obtain ⟨e,he,rfl⟩:=my c; exact .inl ⟨Hj (d e he) j,Hg (d e he) j⟩) (λ op c=>by obtain ⟨e,he,rfl⟩:=my c; exact Hh (d e he))
  (λ op c a=>by obtain ⟨e,he,rfl⟩:=my c; exact Hi (d e he) a) (E3 d) ?_ hu.size hu.pj hu.lh
 ·rwa [h.deaf i,fM] at this
 ·refine p.imp id λ e=>?_
  subst e
  intro k a v l
  rw [ofEvents_none,Array.append_empty] at l
  obtain ⟨x,s,_⟩:=touch_of l
  have:=lt_size_of_getElem? s
  omega
theorem Aw(a:cR B th ch w)(d:∀ b,b∈sh→∃ o,(b,o)∈ch)(c:∀ b,fr=some b→(∃ o,(b,o)∈ch)∧b ∉ sh)(h:bX am aw th mu dd sh fr w.heap.size t)(hi:th i=some ⟨R,H⟩)(hu:dg B R H w R' H' w) :
  cR B (dm th i (some ⟨R',H'⟩)) ch w∧bX am aw (dm th i (some ⟨R',H'⟩)) mu dd sh fr w.heap.size t:=by
 have:=q7 (w':=w) (es:=#[]) a d c h hi (.inr rfl) (by simp) (.inr rfl) hu 0 ""
 rw [ofEvents_none,Array.append_empty] at this
 exact this
end
theorem M1{i:Nat}{fn:FuncId}{pos:String}{es:Array Event}(h:∀ e∈es,Event.mute e=true){n:Nat} :
  (∀ op∈MemOp.ofEvents i fn pos es,op.g=i)∧(∀ op∈MemOp.ofEvents i fn pos es,op.act.touch? = none)∧(∀ op∈MemOp.ofEvents i fn pos es,op.act.low n)∧∀ op∈MemOp.ofEvents i fn pos es,∀ a,op.act ≠ .mark (.release a):=by
 have key:∀ e:Event,e.mute=true→MemAct.ofEvent e = .mark .disable∨MemAct.ofEvent e = .mark .enable:=by
  intro e he
  obtain ⟨loc,wr,c⟩:=e
  cases loc with
  | mark m=>cases m <;> simp [Event.mute] at he <;> cases wr <;> cases c <;> simp [MemAct.ofEvent]
  | _=>simp [Event.mute] at he
 have k2:∀ op∈MemOp.ofEvents i fn pos es,op.g=i∧(op.act = .mark .disable∨op.act = .mark .enable):=λ op b=>by
  obtain ⟨e,he,rfl⟩:=my b; exact ⟨rfl,key e (h e he)⟩
 refine ⟨λ op b=>(k2 op b).1,λ op b=>?_,λ op b=>?_,λ op b a=>?_⟩ <;> rcases (k2 op b).2 with e | e <;> rw [e]
 ·rfl
 ·rfl
 ·trivial
 ·trivial
 ·intro x; cases x
 ·intro x; cases x
theorem bX.leaves{am aw:Option Addr}{th:Nat→Option Th}{mu:Nat→Bool}{dd:Nat→Nat}{sh:List Nat}{fr:Option Nat}{n i:Nat}{t:Trace}{es:Array Event}{fn:FuncId}{pos:String}(h:bX am aw th mu dd sh fr n t)(a:∀ e∈es,Event.mute e=true) :
  bX am aw th mu (dx dd i (deafBehind (dd i) es)) sh fr n (t++MemOp.ofEvents i fn pos es):=by
 obtain ⟨h1,h2,h3,h4⟩:=M1 (i:=i) (fn:=fn) (pos:=pos) a (n:=n)
 exact h.mute h1 h2 h3 h4 (by rw [Deaf_own,h.deaf i])
structure kr (P:Program) (B:Base) (R:ax) (H:ai) (gs:Array Goroutine) (w:World) (t:Trace) (q dd:Nat→Nat):Prop where
 mem:cR B (only ⟨R,H⟩) [] w
 tr:bX none none (only ⟨R,H⟩) (λ _=>false) dd [] none w.heap.size t
 d0:dd 0=0
 dz:∀ i,gs.size≤i→dd i=0
 lv:∀ i g,0 < i→gs[i]? = some g→QuitsD P (q i) (dd i) g
section
variable (P:Program) (B:Base) (Post:Value→World→Prop)
def eo(R:ax)(H:ai)(g:Goroutine):Prop:=∀ gs w sl t q dd,gs[0]? = some g→kr P B R H gs w t q dd→fl P Post (crowd gs w sl) t
end
section
variable {P:Program} {B:Base} {Post:Value→World→Prop} {R:ax} {H:ai} {g:Goroutine}
theorem kr.fits{gs:Array Goroutine}{w:World}{t:Trace}{q dd:Nat→Nat}(h:kr P B R H gs w t q dd):Fits B R H w:=h.mem.fits 0 ⟨R,H⟩ rfl
theorem kr.at{gs:Array Goroutine}{w:World}{t:Trace}{q dd:Nat→Nat}(h:kr P B R H gs w t q dd)(d:Nat):kr P B R H gs (w.at d) t q dd:=⟨h.mem.at d,h.tr,h.d0,h.dz,h.lv⟩
theorem eo.pick(v:g.status = .running)
  (h:∀ gs w sl s d t q dd,gs[0]? = some g→kr P B R H gs (w.at d) t q dd→stepT P (crowd gs w sl)=runT P (crowd gs (w.at d) s) 0→fl P Post (crowd gs w sl) t):eo P B Post R H g:=by
 have key:∀ M gs w sl t q dd,b4 gs.size q≤M→gs[0]? = some g→kr P B R H gs w t q dd→fl P Post (crowd gs w sl) t:=by
  intro M
  induction M with
  | zero =>
   intro gs w sl t q dd L c a
   have E:∀ x∈gs,awake x:=by
    intro x b
    obtain ⟨i,hi,rfl⟩:=Array.mem_iff_getElem.1 b
    rcases Nat.eq_zero_or_pos i with rfl | o
    ·have:gs[0]=g:=by simpa [hc hi] using c
     rw [this]; exact awake_of (.inl v)
    ·exact awake_of ((a.lv i _ o (hc hi)).status.elim .inl λ x=>.inr (.inr x))
   obtain ⟨i,x,d,s,hi,b,C⟩:=crowd_pick (P:=P) (w:=w) (sl:=sl) E ⟨0,g,c,v⟩
   rcases Nat.eq_zero_or_pos i with rfl | o
   ·exact h gs w sl s d t q dd c (a.at d) C
   ·have p:=a.lv i x o hi
    have r:i < gs.size:=(Array.getElem?_eq_some_iff.1 hi).1
    have U:q i=0:=by
     have h2:∀ (j:Nat),i < j→q i≤b4 j q:=by
      intro j l
      induction j with
      | zero=>omega
      | succ j G =>
       rcases Nat.lt_or_ge i j with r | Z
       ·have:=G r; simp only [b4]; omega
       ·obtain rfl:i=j:=by omega
        simp only [b4]; omega
     have:=h2 gs.size r
     omega
    rw [U] at p
    rw [show x.status = .finished from p.1] at b; cases b
  | succ M G =>
   intro gs w sl t q dd L c a
   have E:∀ x∈gs,awake x:=by
    intro x b
    obtain ⟨i,hi,rfl⟩:=Array.mem_iff_getElem.1 b
    rcases Nat.eq_zero_or_pos i with rfl | o
    ·have:gs[0]=g:=by simpa [hc hi] using c
     rw [this]; exact awake_of (.inl v)
    ·exact awake_of ((a.lv i _ o (hc hi)).status.elim .inl λ x=>.inr (.inr x))
   obtain ⟨i,x,d,s,hi,b,C⟩:=crowd_pick (P:=P) (w:=w) (sl:=sl) E ⟨0,g,c,v⟩
   rcases Nat.eq_zero_or_pos i with rfl | o
   ·exact h gs w sl s d t q dd c (a.at d) C
   ·have p:=a.lv i x o hi
    have Q:(i == 0)=false:=by simp; omega
    have r:i < gs.size:=(Array.getElem?_eq_some_iff.1 hi).1
    cases F:q i with
    | zero=>rw [F] at p; rw [show x.status = .finished from p.1] at b; cases b
    | succ k =>
     rw [F] at p
     rcases p with O | ⟨_,x',es,N,W,T⟩
     ·rw [O.1] at b; cases b
     have V:=runT_crowd_go (P:=P) (sl:=s) (i:=i) hi (by rw [Q]; exact W (w.at d))
     refine fl.step (C.trans V) ?_
     have J:((gs.map (woken P x x' (w.at d))).setIfInBounds i x').size=gs.size:=by simp
     have X:=n5 (f:=q) (g:=λ j=>if j=i then k else q j) r (λ j l=>by simp [l])
     simp only [if_true,F] at X
     refine G _ _ _ _ (λ j=>if j=i then k else q j) (dx dd i (deafBehind (dd i) es)) (by rw [J]; omega) ?_ ⟨(a.at d).mem,a.tr.leaves N,?_,λ j l=>?_,λ j y l D=>?_⟩
     ·have S:i≠0:=by omega
      rw [fN S,Array.getElem?_map,c]
      simp [woken_run v]
     ·rw [iW (by omega)]; exact a.d0
     ·rw [J] at l; rw [iW (by omega)]; exact a.dz j l
     ·by_cases A:i=j
      ·subst A
       rw [iZ (by simpa using r)] at D
       obtain rfl:=ed D
       simpa [iX] using T
      ·rw [fN A,Array.getElem?_map] at D
       obtain ⟨z,Y,rfl⟩:=Option.map_eq_some_iff.1 D
       have I:=a.lv j z l Y
       rw [woken_quitsD I,iW (Ne.symm A)]
       simpa [Ne.symm A] using I
 exact λ gs w sl t q dd c a=>key _ gs w sl t q dd (b6 _) c a
theorem xe{ch:ai}:∀ b,b∈([]:List Nat)→∃ o:Obj,(b,o)∈ch:=λ _ h=>by cases h
theorem xd{ch:ai}:∀ b,(none:Option Nat)=some b→(∃ o:Obj,(b,o)∈ch)∧b ∉ ([]:List Nat):=λ _ h=>by cases h
theorem eo.step(s:g.status = .running)(h:∀ w,Fits B R H w→∃ g' w' es R' H',stepG P true g w = .go g' w' es∧(∀ e∈es,dW R H w.heap.size w'.heap.size e)∧dg B R H w R' H' w'∧eo P B Post R' H' g'):eo P B Post R H g:=by
 refine eo.pick s λ gs w sl z d t q dd c a b=>?_
 obtain ⟨g',w',es,R',H',h1,h2,h3,h4⟩:=h _ a.fits
 have r:=runT_crowd_go (P:=P) (sl:=z) (i:=0) c (show stepG P (0 == 0) g (w.at d)=_ from h1)
 refine fl.step (b.trans r) ?_
 have o:0 < gs.size:=(Array.getElem?_eq_some_iff.1 c).1
 have b:=q7 a.mem xe xd a.tr (i:=0) rfl (.inl rfl) h2 (.inl rfl) h3 g.frame.fn g.frame.place
 rw [tO] at b
 refine h4 _ _ _ _ q dd (by simp [o]) ⟨b.1,b.2,a.d0,λ i hi=>a.dz i (by simpa using hi),λ j x l k=>?_⟩
 have p:0≠j:=by omega
 rw [fN p,Array.getElem?_map] at k
 obtain ⟨y,v,rfl⟩:=Option.map_eq_some_iff.1 k
 have f:=a.lv j y l v
 rw [woken_quitsD f]
 exact f
theorem eo.ghost{R':ax}{H':ai}(d:∀ w,Fits B R H w→dg B R H w R' H' w)(h:eo P B Post R' H' g):eo P B Post R H g:=by
 intro gs w sl t q dd c a
 have b:=Aw a.mem xe xd a.tr (i:=0) rfl (d w a.fits)
 rw [tO] at b
 exact h gs w sl t q dd c ⟨b.1,b.2,a.d0,a.dz,a.lv⟩
def nV(P:Program)(B:Base)(Post:Value→World→Prop):Jd P B true:=⟨eo P B Post,eo.step,eo.ghost⟩
end
end Go.Lg
