/- Traces; goroutine 0 beside those that leave. Conditions: none. -/
import Derived.Test.YtihapemckcdicaaGreatDoorQELgA
import Derived.Conc.CrowdTrace
import Derived.Conc.JoinTrace
import Derived.Conc.QuitsD
namespace Go.Lg
open Go.Conc
inductive Tree:Type 1
 | node (ι:Type) (f:ι→Tree):Tree
inductive Ic:Tree→Tree→Prop
 | mk {ι:Type} (f:ι→Tree) (i:ι):Ic (f i) (.node ι f)
theorem Ic.acc(t:Tree):Acc Ic t:=by
 induction t with
 | node ι f ih=>exact ⟨_,λ y h=>by cases h; exact ih _⟩
abbrev Ms:=Option Tree
inductive pH:Ms→Ms→Prop
 | some {a b:Tree}:Ic a b→pH (some a) (some b)
 | none {b:Tree}:pH none (some b)
theorem pH.aaI:Acc pH (Option.none:Ms):=⟨_,λ y h=>by cases h⟩
theorem pH.acc(m:Ms):Acc pH m:=by
 cases m with
 | none=>exact pH.aaI
 | some t =>
  have:=Ic.acc t
  induction this with
  | intro t _ ih =>
   refine ⟨_,λ y h=>?_⟩
   cases h with
   | some h=>exact ih _ h
   | none=>exact pH.aaI
inductive One {α:Type 1} (r:α→α→Prop):List α→List α→Prop
 | head {a b:α} {l:List α}:r a b→One r (a::l) (b::l)
 | tail {a:α} {l l':List α}:One r l l'→One r (a::l) (a::l')
theorem One.acc{α:Type 1}{r:α→α→Prop}(h:∀ a,Acc r a):∀ l:List α,Acc (One r) l
 | []=>⟨_,λ y h=>by cases h⟩
 | b::l=>by
  have hb:=h b
  have hl:=One.acc h l
  induction hb generalizing l with
  | intro b _ ihb =>
   induction hl with
   | intro l hl' WK =>
    refine ⟨_,λ y hy=>?_⟩
    cases hy with
    | head hr=>exact ihb _ hr _ ⟨_,hl'⟩
    | tail ho=>exact WK _ ho
theorem One.wf:WellFounded (One pH):=⟨One.acc pH.acc⟩
theorem One.set{α:Type 1}{r:α→α→Prop}:∀ {l:List α} {i:Nat} {a b:α},l[i]? = some b→r a b→One r (l.set i a) l
 | [],_,_,_,h,_=>by cases h
 | x::l,0,a,b,h,hr=>by cases h; exact .head hr
 | x::l,i+1,a,b,h,hr=>.tail (One.set (by simpa using h) hr)
def rM:Nat→Tree
 | 0=>.node Empty Empty.elim
 | n+1=>.node Unit λ _=>rM n
theorem aeq(n:Nat):pH (some (rM n)) (some (rM (n+1))):=.some (.mk (λ _:Unit=>rM n) ())
section
variable (P:Program) (B:Base) (main:Bool) (K:az→an→Goroutine→Prop)
def BC:Tree→az→an→Goroutine→Prop
 | .node _ f=>λ R H g=>K R H g ∨
  (g.status = .running∧∀ w,Fits B R H w→∃ g' w' es R' H' i,stepG P main g w = .go g' w' es∧(∀ e∈es,iz R H w.heap.size w'.heap.size e)∧fP B R H w R' H' w'∧BC (f i) R' H' g') ∨
  (∃ R' H' i,(∀ w,Fits B R H w→fP B R H w R' H' w)∧BC (f i) R' H' g)
def Own(R:az)(H:an)(g:Goroutine):Prop:=∃ T,BC P B main K T R H g
theorem Own.stop{R:az}{H:an}{g:Goroutine}(h:K R H g):Own P B main K R H g:=⟨.node Empty Empty.elim,.inl h⟩
open Classical in
def KT:Jd P B main where
 J:=Own P B main K
 step:=by
  intro R H g hs h
  refine ⟨.node { x:az × an × Goroutine // Own P B main K x.1 x.2.1 x.2.2 } (λ x=>x.2.choose),.inr (.inl ⟨hs,λ w hw=>?_⟩)⟩
  obtain ⟨g',w',es,R',H',h1,h2,h3,h4⟩:=h w hw
  exact ⟨g',w',es,R',H',⟨(R',H',g'),h4⟩,h1,h2,h3,Exists.choose_spec h4⟩
 ghost:=by
  intro R H R' H' g hg h
  exact ⟨.node Unit (λ _=>h.choose),.inr (.inr ⟨R',H',(),hg,h.choose_spec⟩)⟩
end
theorem nn{α:Type}{a:Option α}{u:α}{C:Prop}(h:a=none)(h':a=some u):C:=by rw [h] at h'; cases h'
structure Th where
 R:az
 H:an
def fW(th:Nat→Option Th)(i:Nat)(x:Option Th):Nat→Option Th:=λ j=>if j=i then x else th j
theorem fl(th:Nat→Option Th)(i:Nat)(x:Option Th):fW th i x i=x:=by simp [fW]
theorem eo{th:Nat→Option Th}{i j:Nat}{x:Option Th}(h:j≠i):fW th i x j=th j:=by simp [fW,h]
structure fq (B:Base) (th:Nat→Option Th) (ch:an) (w:World):Prop where
 fits:∀ i x,th i=some x→Fits B x.R x.H w
 apart:∀ i j x y,i≠j→th i=some x→th j=some y→∀ b o,(b,o)∈x.H→y.R b=none∧∀ o',(b,o') ∉ y.H
 n9:∀ c o,(c,o)∈ch→w.heap[c]? = some o
 mA:∀ c o,(c,o)∈ch→∀ i x,th i=some x→x.R c=none∧∀ o',(c,o') ∉ x.H
theorem Fits.at{B:Base}{R:az}{H:an}{w:World}(h:Fits B R H w)(d:Nat):Fits B R H (w.at d):=⟨h.r,h.h,h.nd,h.dj,h.os,h.tape,h.out⟩
theorem fq.at{B:Base}{th:Nat→Option Th}{ch:an}{w:World}(h:fq B th ch w)(d:Nat):fq B th ch (w.at d) :=
 ⟨λ i x hx=>(h.fits i x hx).at d,h.apart,h.n9,h.mA⟩
section
variable {B:Base} {th:Nat→Option Th} {ch:an} {w w':World} {i:Nat} {R R':az} {H H':an}
theorem fq.upd(h:fq B th ch w)(hi:th i=some ⟨R,H⟩)(hu:fP B R H w R' H' w'):fq B (fW th i (some ⟨R',H'⟩)) ch w':=by
 have CL {j:Nat} {y:Th} (hy:th j=some y):(∀ b o,y.R b=some o→b < w.heap.size)∧(∀ b o,(b,o)∈y.H→b < w.heap.size) :=
  ⟨λ b o x=>lE ((h.fits j y hy).r b o x),λ b o x=>lE ((h.fits j y hy).h b o x)⟩
 refine ⟨λ j y hy=>?_,λ j k x y nk hx hy b o hb=>?_,λ c o hc=>?_,λ c o hc j y hy=>?_⟩
 ·by_cases hj:j=i
  ·subst hj; rw [fl] at hy; cases hy; exact hu.fits
  ·rw [eo hj] at hy
   have hf:=h.fits j y hy
   have hl:=CL hy
   refine ⟨λ b o x=>?_,λ b o x=>?_,hf.nd,hf.dj,hu.fits.os,hu.fits.tape,hu.fits.out⟩
   ·rw [hu.same b (hl.1 b o x) λ o' eN=>nn (h.apart i j _ _ (Ne.symm hj) hi hy b o' eN).1 x]
    exact hf.r b o x
   ·rw [hu.same b (hl.2 b o x) λ o' eN=>(h.apart i j _ _ (Ne.symm hj) hi hy b o' eN).2 o x]
    exact hf.h b o x
 ·by_cases hj:j=i
  ·subst hj
   rw [fl] at hx; cases hx
   rw [eo (Ne.symm nk)] at hy
   rcases hu.yv b o hb with ⟨o',eN⟩ | uy
   ·exact h.apart j k _ _ nk hi hy b o' eN
   ·refine ⟨?_,λ o' eN=>?_⟩
    ·cases hR:y.R b with
     | none=>rfl
     | some u=>have:=(CL hy).1 b u hR; omega
    ·have:=(CL hy).2 b o' eN; omega
  ·rw [eo hj] at hx
   by_cases hk:k=i
   ·subst hk
    rw [fl] at hy; cases hy
    have bK:=(CL hx).2 b o hb
    have kA:=h.apart j k _ _ nk hx hi b o hb
    refine ⟨?_,λ o' eN=>?_⟩
    ·cases hR:R' b with
     | none=>simp [hR]
     | some u =>
      rcases hu.Gb b u hR with x | ⟨o',x⟩ | x
      ·exact nn kA.1 x
      ·exact absurd x (kA.2 o')
      ·omega
    ·rcases hu.yv b o' eN with ⟨u,x⟩ | x
     ·exact kA.2 u x
     ·omega
   ·rw [eo hk] at hy
    exact h.apart j k _ _ nk hx hy b o hb
 ·have bK:=lE (h.n9 c o hc)
  rw [hu.same c bK λ o' eN=>(h.mA c o hc i _ hi).2 o' eN]
  exact h.n9 c o hc
 ·by_cases hj:j=i
  ·subst hj
   rw [fl] at hy; cases hy
   have bK:=lE (h.n9 c o hc)
   have kA:=h.mA c o hc j _ hi
   refine ⟨?_,λ o' eN=>?_⟩
   ·cases hR:R' c with
    | none=>simp [hR]
    | some u =>
     rcases hu.Gb c u hR with x | ⟨o',x⟩ | x
     ·exact nn kA.1 x
     ·exact absurd x (kA.2 o')
     ·omega
   ·rcases hu.yv c o' eN with ⟨u,x⟩ | x
    ·exact kA.2 u x
    ·omega
  ·rw [eo hj] at hy
   exact h.mA c o hc j y hy
theorem fq.drop(h:fq B th ch w):fq B (fW th i none) ch w:=by
 have key:∀ j y,fW th i none j=some y→th j=some y:=λ j y hy=>by
  by_cases hj:j=i
  ·subst hj; rw [fl] at hy; cases hy
  ·rwa [eo hj] at hy
 exact ⟨λ j y hy=>h.fits j y (key j y hy),λ j k x y nk hx hy=>h.apart j k x y nk (key j x hx) (key k y hy),h.n9,λ c o hc j y hy=>h.mA c o hc j y (key j y hy)⟩
theorem fq.add{c:Nat}(h:fq B th ch w)(hi:th i=some ⟨R,H⟩)(hR:aT R' R):fq B (fW th c (some ⟨R',[]⟩)) ch w:=by
 refine ⟨λ j y hy=>?_,λ j k x y nk hx hy b o hb=>?_,h.n9,λ a o ha j y hy=>?_⟩
 ·by_cases hj:j=c
  ·subst hj; rw [fl] at hy; cases hy
   have hf:=h.fits i _ hi
   exact ⟨λ b o x=>hf.r b o (hR b o x),λ b o x=>(by cases x),List.nodup_nil,λ b o x=>(by cases x),hf.os,hf.tape,hf.out⟩
  ·rw [eo hj] at hy; exact h.fits j y hy
 ·by_cases hj:j=c
  ·subst hj; rw [fl] at hx; cases hx; cases hb
  ·rw [eo hj] at hx
   by_cases hk:k=c
   ·subst hk
    rw [fl] at hy; cases hy
    refine ⟨?_,λ o' x=>by cases x⟩
    cases IV:R' b with
    | none=>simp [IV]
    | some u =>
     have hRu:=hR b u IV
     by_cases fZ:j=i
     ·subst fZ
      rw [hi] at hx; cases hx
      exact nn ((h.fits j _ hi).dj b o hb) hRu
     ·exact nn (h.apart j i _ _ fZ hx hi b o hb).1 hRu
   ·rw [eo hk] at hy; exact h.apart j k x y nk hx hy b o hb
 ·by_cases hj:j=c
  ·subst hj; rw [fl] at hy; cases hy
   refine ⟨?_,λ o' x=>by cases x⟩
   cases IV:R' a with
   | none=>simp [IV]
   | some u=>exact nn (h.mA a o ha i _ hi).1 (hR a u IV)
  ·rw [eo hj] at hy; exact h.mA a o ha j y hy
end
end Go.Lg
namespace Go.Lg
open Go.Conc
abbrev Kn(t:Trace)(g i:Nat):Prop:=Go.Conc.Knows t g i
def blk:Loc→Option Nat
 | .cell a=>some a.block
 | .obj r=>some r
 | _=>none
theorem aEc{x:MemAct}{a:Touch}{n b:Nat}(h:x.low n)(ht:x.touch? = some a)(hb:blk a.loc=some b):b < n:=by
 cases x with
 | access e =>
  simp only [MemAct.touch?,Option.some.injEq] at ht
  subst ht
  obtain ⟨loc,wr,sy⟩:=e
  cases loc <;> simp [blk] at hb <;> subst hb <;> exact h
 | mark m =>
  cases m <;> simp only [MemAct.touch?,Option.some.injEq,reduceCtorEq] at ht
  all_goals (subst ht; simp [blk] at hb; subst hb; exact h)
 | _=>simp [MemAct.touch?] at ht
def aaw(ch:an)(R:az)(H:an)(n:Nat)(a:Touch):Prop :=
 ∃ b,blk a.loc=some b∧((a.write=false∧∃ o,R b=some o)∨(∃ o,(b,o)∈H)∨n≤b∨(a.kind = .atomic∧∃ o,(b,o)∈ch))
theorem wY{t u:Trace}{k:Nat}{a:Touch}(h:touchAt (t++u) k=some a):(k < t.size∧touchAt t k=some a)∨(∃ op,(t++u)[k]? = some op∧op∈u∧op.act.touch? = some a):=by
 obtain ⟨x,hx,NV⟩:=touch_of h
 rcases getElem?_append_cases hx with ⟨hk,vA⟩ | ⟨_,hxu⟩
 ·exact .inl ⟨hk,by rw [touchAt_of vA]; exact NV⟩
 ·exact .inr ⟨x,hx,hxu,NV⟩
theorem Ob{t:Trace}{k b n:Nat}{a:Touch}(hl:∀ op∈t,op.act.low n)(h:touchAt t k=some a)(hb:blk a.loc=some b):b < n:=by
 obtain ⟨x,hx,NV⟩:=touch_of h
 exact aEc (hl x (mem_of_getElem? hx)) NV hb
section
variable {B:Base} {th:Nat→Option Th} {ch:an} {cls:Option Nat} {w:World} {n n' i:Nat} {R R':az} {H H':an} {t u:Trace}
theorem aet{said:Bool}(h:¬ Race said t)(hu:∀ op∈u,op.act.touch? = none):¬ Race said (t++u):=by
 rintro ⟨i,j,pn,⟨a,b,ha,hb,hc⟩,n1,n2⟩
 rcases wY (u:=u) (a:=a) (k:=i) ha with ⟨hi,ha'⟩ | ⟨op,_,h2,h3⟩
 ·rcases wY (u:=u) (a:=b) (k:=j) hb with ⟨hj,gh⟩ | ⟨op,_,h2,h3⟩
  ·exact h ⟨i,j,pn,⟨a,b,ha',gh,hc⟩,λ e=>n1 (hb_app u e),λ e=>n2 (hb_app u e)⟩
  ·rw [hu op h2] at h3; cases h3
 ·rw [hu op h2] at h3; cases h3
end
end Go.Lg
namespace Go.Lg
open Go.Conc
def dc:Nat→(Nat→Nat)→Nat
 | 0,_=>0
 | j+1,f=>dc j f+f j
theorem K6{f g:Nat→Nat}:∀ {j:Nat},(∀ i,i < j→f i=g i)→dc j f=dc j g
 | 0,_=>rfl
 | j+1,h=>by rw [dc,dc,K6 (λ i hi=>h i (by omega)),h j (by omega)]
theorem Du{f g:Nat→Nat}{i:Nat}:∀ {j:Nat},i < j→(∀ k,k≠i→g k=f k)→dc j g+f i=dc j f+g i
 | j+1,h,hg=>by
  rcases Nat.lt_or_ge i j with bK | uy
  ·have:=Du bK hg
   simp only [dc,hg j (by omega)]
   omega
  ·obtain rfl:i=j:=by omega
   simp only [dc]
   rw [K6 (g:=f) (λ a ha=>hg a (by omega))]
   omega
section
variable (P:Program) (Post:Value→World→Prop)
def lx(m:Machine)(t:Trace):Prop:=∃ N last o w' t',runNT P (N+1) m t=(.ended o w',t')∧runN P N m = .next last∧step P last = .ended o w'∧Good P Post last o w' t'
variable {P Post}
theorem lx.step{m m':Machine}{t:Trace}{ops:Array MemOp}(hs:stepT P m=(.next m',ops))(h:lx P Post m' (t++ops)):lx P Post m t:=by
 obtain ⟨N,last,o,w',t',h1,h2,h3,h4⟩:=h
 exact ⟨N+1,last,o,w',t',by rw [runNT_succ_next hs]; exact h1,by rw [runN_succ_next hs]; exact h2,h3,h4⟩
theorem lx.end{m:Machine}{t:Trace}{o:Outcome}{w':World}{ops:Array MemOp}(hs:stepT P m=(.ended o w',ops))(h:Good P Post m o w' (t++ops)):lx P Post m t :=
 ⟨0,m,o,w',t++ops,by simp [runNT,hs],rfl,by simp [Go.step,hs],h⟩
end
theorem AF{g:Nat}{fn:FuncId}{pos:String}{es:Array Event}{op:MemOp}(h:op∈MemOp.ofEvents g fn pos es):∃ e∈es,op={ g,fn,pos,act:=.ofEvent e }:=by
 rw [ofEvents_eq] at h
 obtain ⟨e,he,rfl⟩:=Array.mem_map.1 h
 exact ⟨e,he,rfl⟩
section
variable {R:az} {H:an} {n m:Nat} {e:Event} {ch:an}
theorem aop{a:Touch}(h:iz R H n m e)(ht:(MemAct.ofEvent e).touch? = some a):aaw ch R H n a:=by
 obtain ⟨loc,wr,sy⟩:=e
 have key:∀ b,BH R H n wr b→((wr=false∧∃ o,R b=some o)∨(∃ o,(b,o)∈H)∨n≤b):=λ b hb=>by
  rcases hb with ⟨h1,h2⟩ | h2 | h2
  ·exact .inl ⟨h1,Option.isSome_iff_exists.1 h2⟩
  ·exact .inr (.inl h2)
  ·exact .inr (.inr h2)
 cases loc with
 | cell a' =>
  obtain ⟨h1,_,h3⟩:=h
  simp only at h1; subst h1
  have e1:MemAct.ofEvent ⟨.cell a',wr,false⟩ = .access ⟨.cell a',wr,false⟩:=by cases wr <;> rfl
  rw [e1] at ht
  simp only [MemAct.touch?,Option.some.injEq] at ht
  subst ht
  refine ⟨a'.block,rfl,?_⟩
  rcases key _ h3 with x | x | x
  ·exact .inl x
  ·exact .inr (.inl x)
  ·exact .inr (.inr (.inl x))
 | obj b =>
  obtain ⟨h1,_,h3⟩:=h
  simp only at h1; subst h1
  have e1:MemAct.ofEvent ⟨.obj b,wr,false⟩ = .access ⟨.obj b,wr,false⟩:=by cases wr <;> rfl
  rw [e1] at ht
  simp only [MemAct.touch?,Option.some.injEq] at ht
  subst ht
  refine ⟨b,rfl,?_⟩
  rcases key _ h3 with x | x | x
  ·exact .inl x
  ·exact .inr (.inl x)
  ·exact .inr (.inr (.inl x))
 | mark mk =>
  cases mk <;> simp [iz] at h
  cases wr <;> cases sy <;> simp [MemAct.ofEvent,MemAct.touch?] at ht
 | _=>simp [iz] at h
theorem aon(h:iz R H n m e):(MemAct.ofEvent e).low m:=by
 obtain ⟨loc,wr,sy⟩:=e
 cases loc with
 | cell a' =>
  obtain ⟨h1,h2,_⟩:=h
  simp only at h1; subst h1
  cases wr <;> exact h2
 | obj b =>
  obtain ⟨h1,h2,_⟩:=h
  simp only at h1; subst h1
  cases wr <;> exact h2
 | mark mk =>
  cases mk <;> simp [iz] at h
  cases wr <;> cases sy <;> trivial
 | _=>simp [iz] at h
theorem aco(h:iz R H n m e):∀ mk,MemAct.ofEvent e = .mark mk→Neutral mk:=by
 obtain ⟨loc,wr,sy⟩:=e
 intro mk hm
 cases loc with
 | cell a'=>obtain ⟨h1,_⟩:=h; simp only at h1; subst h1; cases wr <;> cases hm
 | obj b=>obtain ⟨h1,_⟩:=h; simp only at h1; subst h1; cases wr <;> cases hm
 | mark mk' =>
  cases mk' <;> simp [iz] at h
  cases wr <;> cases sy <;> (cases hm; rfl)
 | _=>simp [iz] at h
end
def only(x:Th):Nat→Option Th:=λ i=>if i=0 then some x else none
theorem OF(x y:Th):fW (only x) 0 (some y)=only y:=by funext i; unfold fW only; split <;> rfl
end Go.Lg
namespace Go.Lg
open Go.Conc Go.ConcN
def gn(f:Nat→Nat)(i x:Nat):Nat→Nat:=λ j=>if j=i then x else f j
theorem ti(f:Nat→Nat)(i x:Nat):gn f i x i=x:=by simp [gn]
theorem tf{f:Nat→Nat}{i j x:Nat}(h:j≠i):gn f i x j=f j:=by simp [gn,h]
theorem mK(f:Nat→Nat)(i:Nat):gn f i (f i)=f:=by funext j; unfold gn; split <;> simp [*]
def oD(f:Nat→Bool)(i:Nat)(x:Bool):Nat→Bool:=λ j=>if j=i then x else f j
theorem Pe(f:Nat→Bool)(i:Nat)(x:Bool):oD f i x i=x:=by simp [oD]
theorem X4{f:Nat→Bool}{i j:Nat}{x:Bool}(h:j≠i):oD f i x j=f j:=by simp [oD,h]
def zE(a:Option Addr)(t:Trace)(k:Nat):Prop:=∃ x p,a=some x∧t.act? p=some (.mark (.releaseMerge x))∧t.heard p∧Before t k p
theorem zE.app{a:Option Addr}{t:Trace}{k:Nat}(h:zE a t k)(u:Trace):zE a (t++u) k:=by
 obtain ⟨x,p,h1,h2,h3,h4⟩:=h
 have hp:=lt_of_act? h2
 exact ⟨x,p,h1,by rw [act?_old hp]; exact h2,(heard_old hp).2 h3,h4.app u⟩
structure cQ (am aw:Option Addr) (th:Nat→Option Th) (mu:Nat→Bool) (dd:Nat→Nat) (sh:List Nat) (fr:Option Nat) (n:Nat) (t:Trace):Prop where
 own:∀ i x,th i=some x→∀ b o,(b,o)∈x.H→∀ k a,touchAt t k=some a→blk a.loc=some b→Kn t i k
 read:∀ i x,th i=some x→∀ b o,x.R b=some o→∀ k a,touchAt t k=some a→blk a.loc=some b→a.write=true→Kn t i k
 shr:∀ b,b∈sh→∀ k a,touchAt t k=some a→blk a.loc=some b→a.kind = .atomic∨(a.kind = .said∧Kn t 0 k)∨∀ i x,th i=some x→Kn t i k
 free:∀ b,fr=some b→∀ k a,touchAt t k=some a→blk a.loc=some b→(∀ i x,th i=some x→Kn t i k)∨zE am t k
 low:∀ op∈t,op.act.low n
 all:∀ k a,touchAt t k=some a→a.loc.isMemory=true→(a.kind ≠ .atomic∨t.heard k)→(∃ i x,th i=some x∧mu i=false∧Kn t i k)∨zE aw t k
 deaf:∀ i,Deaf t i=dd i
 norel:∀ a,NoRelease a t
 clean:∀ said,¬ Race said t
 ri:∀ k a,touchAt t k=some a→a.kind = .atomic→∀ b,blk a.loc=some b→(∀ i x,th i=some x→∀ o,(b,o) ∉ x.H)∧fr≠some b
def ali(sh:List Nat)(i:Nat)(a:Touch):Prop:=∃ b,blk a.loc=some b∧b∈sh∧(a.kind = .atomic∨(a.kind = .said∧i=0))
section
variable {B:Base} {am aw:Option Addr} {th:Nat→Option Th} {mu:Nat→Bool} {dd:Nat→Nat} {sh:List Nat} {fr:Option Nat} {ch:an} {w:World} {n n' i:Nat} {R R':az} {H H':an} {t u:Trace}
theorem Xk(h:∀ a,NoRelease a t)(hr:∀ op∈u,∀ a,op.act ≠ .mark (.release a))(a:Addr):NoRelease a (t++u):=by
 intro k hk
 obtain ⟨op,ho,hoa⟩:=Option.map_eq_some_iff.1 hk
 rcases getElem?_append_cases ho with ⟨_,eN⟩ | ⟨_,hu⟩
 ·exact h a k (by rw [Trace.act?,eN]; simp [hoa])
 ·exact hr op hu a hoa
theorem abU(h:∀ i,Deaf t i=dd i)(hu:∀ op∈u,op.g=i){d':Nat}(hd:Deaf (t++u) i=d')(j:Nat):Deaf (t++u) j=gn dd i d' j:=by
 by_cases hj:j=i
 ·subst hj; rw [ti,hd]
 ·rw [tf hj,Deaf_other (g':=i) t (Ne.symm hj) u hu,h j]
theorem cQ.app(hM:fq B th ch w)(hn:w.heap.size=n)(bf:∀ b,b∈sh→∃ o,(b,o)∈ch)(sf:∀ b,fr=some b→(∃ o,(b,o)∈ch)∧b ∉ sh)
  (h:cQ am aw th mu dd sh fr n t) (hi:th i=some ⟨R,H⟩) (hu:∀ op∈u,op.g=i)
  (ht:∀ op∈u,∀ a,op.act.touch? = some a→(aaw [] R H n a∧a.kind ≠ .atomic)∨ali sh i a) (hl:∀ op∈u,op.act.low n') (hr:∀ op∈u,∀ a,op.act ≠ .mark (.release a))
  {d':Nat} (hd:Deaf (t++u) i=d') (hc:mu i=false∨∀ k a,t.size≤k→touchAt (t++u) k=some a→¬ (a.kind ≠ .atomic∨(t++u).heard k)) (hnn:n≤n')
  (hR:∀ b o,R' b=some o→R b=some o∨(∃ o',(b,o')∈H)∨n≤b) (hH:∀ b o,(b,o)∈H'→(∃ o',(b,o')∈H)∨n≤b) :
  cQ am aw (fW th i (some ⟨R',H'⟩)) mu (gn dd i d') sh fr n' (t++u):=by
 have CL {j:Nat} {y:Th} (hy:th j=some y):(∀ b o,y.R b=some o→b < n)∧(∀ b o,(b,o)∈y.H→b < n) :=
  ⟨λ b o x=>hn ▸ lE ((hM.fits j y hy).r b o x),λ b o x=>hn ▸ lE ((hM.fits j y hy).h b o x)⟩
 have W0:∀ c o,(c,o)∈ch→c < n:=λ c o hc=>hn ▸ lE (hM.n9 c o hc)
 have Ov:∀ k op,(t++u)[k]? = some op→op∈u→Kn (t++u) i k:=λ k op h1 h2=>by
  have:=knows_own h1; rwa [hu op h2] at this
 have Gu:∀ {b j y},b∈sh→th j=some y→y.R b=none∧∀ o',(b,o') ∉ y.H:=λ {b j y} hb hy=>by
  obtain ⟨o,ho⟩:=bf b hb; exact hM.mA b o ho j y hy
 refine ⟨λ j y hy b o hb k a hk bJ=>?_,λ j y hy b o hb k a hk bJ wx=>?_,λ b hb k a hk bJ=>?_,λ b hb k a hk bJ=>?_,λ op au=>?_,λ k a hk hm eU=>?_,abU h.deaf hu hd,Xk h.norel hr,λ said=>?_,λ k a hk j0 b bJ=>?_⟩
 ·by_cases hj:j=i
  ·subst hj; rw [fl] at hy; cases hy
   rcases wY hk with ⟨_,cR⟩ | ⟨op,h1,h2,_⟩
   ·rcases hH b o hb with ⟨o',eN⟩ | uy
    ·exact (h.own j _ hi b o' eN k a cR bJ).app u
    ·have:=Ob h.low cR bJ; omega
   ·exact Ov k op h1 h2
  ·rw [eo hj] at hy
   rcases wY hk with ⟨_,cR⟩ | ⟨op,h1,h2,h3⟩
   ·exact (h.own j y hy b o hb k a cR bJ).app u
   ·have kA:=hM.apart j i _ _ hj hy hi b o hb
    rcases ht op h2 a h3 with ⟨⟨b',gh,xd⟩,_⟩ | ⟨b',gh,hs,_⟩
    ·rw [bJ] at gh; cases gh
     rcases xd with ⟨_,o',x⟩ | ⟨o',x⟩ | x | ⟨_,o',x⟩
     ·exact nn kA.1 x
     ·exact absurd x (kA.2 o')
     ·have:=(CL hy).2 b o hb; omega
     ·cases x
    ·rw [bJ] at gh; cases gh
     exact absurd hb ((Gu hs hy).2 o)
 ·by_cases hj:j=i
  ·subst hj; rw [fl] at hy; cases hy
   rcases wY hk with ⟨_,cR⟩ | ⟨op,h1,h2,_⟩
   ·rcases hR b o hb with x | ⟨o',x⟩ | x
    ·exact (h.read j _ hi b o x k a cR bJ wx).app u
    ·exact (h.own j _ hi b o' x k a cR bJ).app u
    ·have:=Ob h.low cR bJ; omega
   ·exact Ov k op h1 h2
  ·rw [eo hj] at hy
   rcases wY hk with ⟨_,cR⟩ | ⟨op,h1,h2,h3⟩
   ·exact (h.read j y hy b o hb k a cR bJ wx).app u
   ·rcases ht op h2 a h3 with ⟨⟨b',gh,xd⟩,_⟩ | ⟨b',gh,hs,_⟩
    ·rw [bJ] at gh; cases gh
     rcases xd with ⟨x,_⟩ | ⟨o',x⟩ | x | ⟨_,o',x⟩
     ·rw [wx] at x; cases x
     ·exact nn (hM.apart i j _ _ (Ne.symm hj) hi hy b o' x).1 hb
     ·have:=(CL hy).1 b o hb; omega
     ·cases x
    ·rw [bJ] at gh; cases gh
     exact nn (Gu hs hy).1 hb
 ·rcases wY hk with ⟨_,cR⟩ | ⟨op,h1,h2,h3⟩
  ·refine (h.shr b hb k a cR bJ).imp id (Or.imp (And.imp id (·.app u)) λ x j y hy=>?_)
   by_cases hj:j=i
   ·subst hj; exact (x j _ hi).app u
   ·rw [eo hj] at hy; exact (x j y hy).app u
  ·rcases ht op h2 a h3 with ⟨⟨b',gh,xd⟩,_⟩ | ⟨b',gh,hs,Nu⟩
   ·rw [bJ] at gh; cases gh
    rcases xd with ⟨_,o',x⟩ | ⟨o',x⟩ | x | ⟨_,o',x⟩
    ·exact nn (Gu hb hi).1 x
    ·exact absurd x ((Gu hb hi).2 o')
    ·obtain ⟨o,ho⟩:=bf b hb; have:=W0 b o ho; omega
    ·cases x
   ·rcases Nu with x | ⟨x,rfl⟩
    ·exact .inl x
    ·exact .inr (.inl ⟨x,Ov k op h1 h2⟩)
 ·rcases wY hk with ⟨_,cR⟩ | ⟨op,h1,h2,h3⟩
  ·refine (h.free b hb k a cR bJ).imp (λ x j y hy=>?_) (·.app u)
   by_cases hj:j=i
   ·subst hj; exact (x j _ hi).app u
   ·rw [eo hj] at hy; exact (x j y hy).app u
  ·obtain ⟨⟨o,ho⟩,hns⟩:=sf b hb
   rcases ht op h2 a h3 with ⟨⟨b',gh,xd⟩,_⟩ | ⟨b',gh,hs,_⟩
   ·rw [bJ] at gh; cases gh
    rcases xd with ⟨_,o',x⟩ | ⟨o',x⟩ | x | ⟨_,o',x⟩
    ·exact nn (hM.mA b o ho i _ hi).1 x
    ·exact absurd x ((hM.mA b o ho i _ hi).2 o')
    ·have:=W0 b o ho; omega
    ·cases x
   ·rw [bJ] at gh; cases gh
    exact absurd hs hns
 ·rcases Array.mem_append.1 au with x | x
  ·exact MemAct.low_mono hnn (h.low op x)
  ·exact hl op x
 ·rcases Nat.lt_or_ge k t.size with bK | uy
  ·have cR:touchAt t k=some a:=by rw [← touchAt_old (u:=u) bK]; exact hk
   refine (h.all k a cR hm (eU.imp id (heard_old bK).1)).imp (λ ⟨j,y,hy,dn,iO⟩=>?_) (·.app u)
   by_cases hj:j=i
   ·subst hj; exact ⟨j,_,fl _ _ _,dn,iO.app u⟩
   ·exact ⟨j,y,by rw [eo hj]; exact hy,dn,iO.app u⟩
  ·rcases hc with dn | hc
   ·obtain ⟨op,h1,_⟩:=touch_of hk
    rcases getElem?_append_cases h1 with ⟨bK,_⟩ | ⟨_,h2⟩
    ·omega
    ·exact .inl ⟨i,_,fl _ _ _,dn,Ov k op h1 h2⟩
   ·exact absurd eU (hc k a uy hk)
 ·refine noRace_append (h.clean said) hu λ k a hk op au b hb xd=>?_
  obtain ⟨adf,lS,wx,hpl⟩:=xd
  rcases ht op au b hb with ⟨⟨bb,TF,qE⟩,_⟩ | ⟨bb,TF,hs,Nu⟩
  ·have bJ:blk a.loc=some bb:=by rw [adf]; exact TF
   rcases qE with ⟨x,o,ho⟩ | ⟨o,x⟩ | x | ⟨_,o,x⟩
   ·have wh:a.write=true:=by
     rcases wx with y | y
     ·exact y
     ·rw [x] at y; cases y
    exact h.read i _ hi bb o ho k a hk bJ wh
   ·exact h.own i _ hi bb o x k a hk bJ
   ·have:=Ob h.low hk bJ; omega
   ·cases x
  ·have bJ:blk a.loc=some bb:=by rw [adf]; exact TF
   rcases h.shr bb hs k a hk bJ with y | ⟨y,y'⟩ | y
   ·rcases hpl with z | z | ⟨_,z,_⟩
    ·rw [y] at z; cases z
    ·rcases Nu with x | ⟨x,_⟩ <;> (rw [x] at z; cases z)
    ·rw [y] at z; cases z
   ·rcases Nu with x | ⟨x,rfl⟩
    ·rcases hpl with z | z | ⟨_,_,z⟩
     ·rw [y] at z; cases z
     ·rw [x] at z; cases z
     ·rw [x] at z; cases z
    ·exact y'
   ·exact y i _ hi
 ·rcases wY hk with ⟨_,cR⟩ | ⟨op,h1,h2,h3⟩
  ·obtain ⟨z1,z2⟩:=h.ri k a cR j0 b bJ
   refine ⟨λ j y hy o ho=>?_,z2⟩
   by_cases hj:j=i
   ·subst hj; rw [fl] at hy; cases hy
    rcases hH b o ho with ⟨o',eN⟩ | uy
    ·exact z1 j _ hi o' eN
    ·have:=Ob h.low cR bJ; omega
   ·rw [eo hj] at hy; exact z1 j y hy o ho
  ·rcases ht op h2 a h3 with ⟨_,hna⟩ | ⟨b',gh,hs,_⟩
   ·exact absurd j0 hna
   ·rw [bJ] at gh; cases gh
    refine ⟨λ j y hy o ho=>?_,λ e=>(sf b e).2 hs⟩
    by_cases hj:j=i
    ·subst hj; rw [fl] at hy; cases hy
     rcases hH b o ho with ⟨o',eN⟩ | uy
     ·exact (Gu hs hi).2 o' eN
     ·obtain ⟨o2,ho2⟩:=bf b hs; have:=W0 b o2 ho2; omega
    ·rw [eo hj] at hy; exact (Gu hs hy).2 o ho
theorem Gw(hu:∀ op∈u,op.act.touch? = none){k:Nat}{a:Touch}(h:touchAt (t++u) k=some a):touchAt t k=some a:=by
 rcases wY h with ⟨_,x⟩ | ⟨op,_,h2,h3⟩
 ·exact x
 ·rw [hu op h2] at h3; cases h3
theorem cQ.mute(h:cQ am aw th mu dd sh fr n t)(hu:∀ op∈u,op.g=i)(hm:∀ op∈u,op.act.touch? = none)(hl:∀ op∈u,op.act.low n)(hr:∀ op∈u,∀ a,op.act ≠ .mark (.release a)){d':Nat}(hd:Deaf (t++u) i=d') :
  cQ am aw th mu (gn dd i d') sh fr n (t++u):=by
 have old:∀ {k a},touchAt (t++u) k=some a→k < t.size∧touchAt t k=some a:=λ {k a} hk=>by
  have:=Gw hm hk
  obtain ⟨x,hx,_⟩:=touch_of this
  exact ⟨lt_size_of_getElem? hx,this⟩
 exact ⟨λ j y hy b o hb k a hk bJ=>(h.own j y hy b o hb k a (old hk).2 bJ).app u,λ j y hy b o hb k a hk bJ wx=>(h.read j y hy b o hb k a (old hk).2 bJ wx).app u,
  λ b hb k a hk bJ=>(h.shr b hb k a (old hk).2 bJ).imp id (Or.imp (And.imp id (·.app u)) λ x j y hy=>(x j y hy).app u),
  λ b hb k a hk bJ=>(h.free b hb k a (old hk).2 bJ).imp (λ x j y hy=>(x j y hy).app u) (·.app u),
  λ op au=>(Array.mem_append.1 au).elim (h.low op) (hl op),
  λ k a hk Jo eU=>(h.all k a (old hk).2 Jo (eU.imp id (heard_old (old hk).1).1)).imp (λ ⟨j,y,hy,dn,iO⟩=>⟨j,y,hy,dn,iO.app u⟩) (·.app u),
  abU h.deaf hu hd,Xk h.norel hr,λ said=>aet (h.clean said) hm,λ k a hk=>h.ri k a (old hk).2⟩
theorem heard_new{y:MemOp}(h:∀ i,Deaf t i=dd i)(hd:dd y.g=0):(t++#[y]).heard t.size :=
 ⟨y.g,by simp [Trace.g?],by rw [deaf_old (Nat.le_refl _)]; exact (h y.g).trans hd⟩
theorem adD{a:Addr}{y:MemOp}{k:Nat}(hd:∀ i,Deaf t i=dd i)(h0:dd y.g=0)(hn:∀ a,NoRelease a (t++#[y]))(hy:y.act = .mark (.acquire a))(h:zE (some a) t k):Kn (t++#[y]) y.g k:=by
 obtain ⟨x,p,e,h1,h2,h3⟩:=h
 cases e
 have hp:=lt_of_act? h1
 have hq:(t++#[y])[t.size]? = some y:=by simp
 have amW:HappensBefore (t++#[y]) p t.size:=.single (.inr ⟨.marked hp (.inr (by rw [act?_old hp]; exact h1)) (by rw [act?_of hq,hy]) (λ k _ _=>hn a k),(heard_old hp).2 h2,heard_new hd h0⟩)
 exact ⟨t.size,y,hq,rfl,.inr ((h3.app #[y]).hb amW)⟩
theorem aa2{a:Addr}{y:MemOp}{k:Nat}(hd:∀ i,Deaf t i=dd i)(h0:dd y.g=0)(hy:y.act = .mark (.releaseMerge a))(h:Kn t y.g k):zE (some a) (t++#[y]) k:=by
 have hq:(t++#[y])[t.size]? = some y:=by simp
 exact ⟨a,t.size,rfl,by rw [act?_of hq,hy],heard_new hd h0,.inr (Go.Conc.Knows.hb_new h (Nat.le_refl _) hq rfl)⟩
theorem yx{y op:MemOp}(h:op∈#[y]):op=y:=by simpa using h
theorem Oo{y:MemOp}{m:Mark}(hy:y.act = .mark m)(h1:∀ a,m ≠ .read a)(h2:∀ a,m ≠ .write a)(h3:∀ a,m ≠ .release a)(hl:(MemAct.mark m).low n) :
  (∀ op∈#[y],op.act.touch? = none)∧(∀ op∈#[y],op.act.low n)∧(∀ op∈#[y],∀ a,op.act ≠ .mark (.release a)):=by
 refine ⟨λ op au=>?_,λ op au=>?_,λ op au a=>?_⟩ <;> (rw [yx au,hy])
 ·cases m <;> first | rfl | exact absurd rfl (h1 _) | exact absurd rfl (h2 _)
 ·exact hl
 ·exact λ e=>h3 a (by cases e; rfl)
theorem MQ{y:MemOp}{m:Mark}(h:∀ i,Deaf t i=dd i)(hy:y.act = .mark m)(h1:m ≠ .disable)(h2:m ≠ .enable):Deaf (t++#[y]) y.g=dd y.g:=by
 rw [Deaf_push]
 unfold deafStep
 rw [hy]
 cases m <;> first | exact h y.g | exact absurd rfl h1 | exact absurd rfl h2
theorem cQ.acquire{a:Addr}{b:Nat}{o:Obj}{y:MemOp}(h:cQ (some a) aw th mu dd sh (some b) n t)(hi:th i=some ⟨R,H⟩)(hg:y.g=i)(hy:y.act = .mark (.acquire a))(h0:dd i=0)(hl:(MemAct.mark (.acquire a)).low n) :
  cQ (some a) aw (fW th i (some ⟨R,(b,o)::H⟩)) mu dd sh none n (t++#[y]):=by
 subst hg
 obtain ⟨m1,m2,m3⟩:=Oo (n:=n) hy (by intro a e; cases e) (by intro a e; cases e) (by intro a e; cases e) hl
 have hb:=h.mute (i:=y.g) (λ op au=>by rw [yx au]) m1 m2 m3 (MQ h.deaf hy (by intro e; cases e) (by intro e; cases e))
 rw [mK] at hb
 have old:∀ {k a},touchAt (t++#[y]) k=some a→touchAt t k=some a:=λ {k a} hk=>Gw m1 hk
 refine ⟨λ j x hx c o' hc k a' hk bJ=>?_,λ j x hx c o' hc k a' hk bJ hw=>?_,λ c hc k a' hk bJ=>?_,λ c hc=>(by cases hc),hb.low,λ k a' hk hm eU=>?_,hb.deaf,hb.norel,hb.clean,λ k a' hk j0 c bJ=>⟨λ j x hx o' hc=>?_,λ e=>by cases e⟩⟩
 rotate_right
 ·obtain ⟨z1,z2⟩:=hb.ri k a' hk j0 c bJ
  by_cases hj:j=y.g
  ·subst hj; rw [fl] at hx; cases hx
   rcases List.mem_cons.1 hc with e | hc
   ·cases e; exact z2 rfl
   ·exact z1 _ _ hi o' hc
  ·rw [eo hj] at hx; exact z1 j x hx o' hc
 ·by_cases hj:j=y.g
  ·subst hj; rw [fl] at hx; cases hx
   rcases List.mem_cons.1 hc with e | hc
   ·cases e
    rcases h.free _ rfl k a' (old hk) bJ with x | x
    ·exact (x _ _ hi).app _
    ·exact adD h.deaf h0 hb.norel hy x
   ·exact hb.own _ _ hi c o' hc k a' hk bJ
  ·rw [eo hj] at hx; exact hb.own j x hx c o' hc k a' hk bJ
 ·by_cases hj:j=y.g
  ·subst hj; rw [fl] at hx; cases hx; exact hb.read _ _ hi c o' hc k a' hk bJ hw
  ·rw [eo hj] at hx; exact hb.read j x hx c o' hc k a' hk bJ hw
 ·refine (hb.shr c hc k a' hk bJ).imp id (Or.imp id λ z j x hx=>?_)
  by_cases hj:j=y.g
  ·subst hj; exact z _ _ hi
  ·rw [eo hj] at hx; exact z j x hx
 ·refine (hb.all k a' hk hm eU).imp (λ ⟨j,x,hx,dn,iO⟩=>?_) id
  by_cases hj:j=y.g
  ·subst hj; exact ⟨_,_,fl _ _ _,dn,iO⟩
  ·exact ⟨j,x,by rw [eo hj]; exact hx,dn,iO⟩
theorem cQ.release{a:Addr}{b:Nat}{o:Obj}{y:MemOp}(h:cQ (some a) aw th mu dd sh none n t)(hi:th i=some ⟨R,H⟩)(Ca:(b,o)∈H)(hH:∀ x∈H',x∈H)(hg:y.g=i)(hy:y.act = .mark (.releaseMerge a))(h0:dd i=0)(hl:(MemAct.mark (.releaseMerge a)).low n) :
  cQ (some a) aw (fW th i (some ⟨R,H'⟩)) mu dd sh (some b) n (t++#[y]):=by
 subst hg
 obtain ⟨m1,m2,m3⟩:=Oo (n:=n) hy (by intro a e; cases e) (by intro a e; cases e) (by intro a e; cases e) hl
 have hb:=h.mute (i:=y.g) (λ op au=>by rw [yx au]) m1 m2 m3 (MQ h.deaf hy (by intro e; cases e) (by intro e; cases e))
 rw [mK] at hb
 have old:∀ {k a},touchAt (t++#[y]) k=some a→touchAt t k=some a:=λ {k a} hk=>Gw m1 hk
 refine ⟨λ j x hx c o' hc k a' hk bJ=>?_,λ j x hx c o' hc k a' hk bJ hw=>?_,λ c hc k a' hk bJ=>?_,λ c hc k a' hk bJ=>?_,hb.low,λ k a' hk hm eU=>?_,hb.deaf,hb.norel,hb.clean,λ k a' hk j0 c bJ=>⟨λ j x hx o' hc=>?_,λ e=>?_⟩⟩
 rotate_right 2
 ·obtain ⟨z1,z2⟩:=hb.ri k a' hk j0 c bJ
  by_cases hj:j=y.g
  ·subst hj; rw [fl] at hx; cases hx
   exact z1 _ _ hi o' (hH _ hc)
  ·rw [eo hj] at hx; exact z1 j x hx o' hc
 ·cases e; exact (hb.ri k a' hk j0 _ bJ).1 _ _ hi _ Ca
 ·by_cases hj:j=y.g
  ·subst hj; rw [fl] at hx; cases hx
   exact hb.own _ _ hi c o' (hH _ hc) k a' hk bJ
  ·rw [eo hj] at hx; exact hb.own j x hx c o' hc k a' hk bJ
 ·by_cases hj:j=y.g
  ·subst hj; rw [fl] at hx; cases hx; exact hb.read _ _ hi c o' hc k a' hk bJ hw
  ·rw [eo hj] at hx; exact hb.read j x hx c o' hc k a' hk bJ hw
 ·refine (hb.shr c hc k a' hk bJ).imp id (Or.imp id λ z j x hx=>?_)
  by_cases hj:j=y.g
  ·subst hj; exact z _ _ hi
  ·rw [eo hj] at hx; exact z j x hx
 ·cases hc
  exact .inr (aa2 h.deaf h0 hy (h.own _ _ hi b o Ca k a' (old hk) bJ))
 ·refine (hb.all k a' hk hm eU).imp (λ ⟨j,x,hx,dn,iO⟩=>?_) id
  by_cases hj:j=y.g
  ·subst hj; exact ⟨_,_,fl _ _ _,dn,iO⟩
  ·exact ⟨j,x,by rw [eo hj]; exact hx,dn,iO⟩
theorem cQ.aFe{a:Addr}{y:MemOp}(h:cQ am (some a) th mu dd sh fr n t)(hg:y.g=i)(hy:y.act = .mark (.releaseMerge a))(h0:dd i=0)(hl:(MemAct.mark (.releaseMerge a)).low n) :
  cQ am (some a) th (oD mu i true) dd sh fr n (t++#[y]):=by
 subst hg
 obtain ⟨m1,m2,m3⟩:=Oo (n:=n) hy (by intro a e; cases e) (by intro a e; cases e) (by intro a e; cases e) hl
 have hb:=h.mute (i:=y.g) (λ op au=>by rw [yx au]) m1 m2 m3 (MQ h.deaf hy (by intro e; cases e) (by intro e; cases e))
 rw [mK] at hb
 have old:∀ {k a},touchAt (t++#[y]) k=some a→k < t.size∧touchAt t k=some a:=λ {k a} hk=>by
  have:=Gw m1 hk
  obtain ⟨x,hx,_⟩:=touch_of this
  exact ⟨lt_size_of_getElem? hx,this⟩
 refine ⟨hb.own,hb.read,hb.shr,hb.free,hb.low,λ k a' hk hm eU=>?_,hb.deaf,hb.norel,hb.clean,hb.ri⟩
 rcases h.all k a' (old hk).2 hm (eU.imp id (heard_old (old hk).1).1) with ⟨j,x,hx,dn,iO⟩ | x
 ·by_cases hj:j=y.g
  ·subst hj; exact .inr (aa2 h.deaf h0 hy iO)
  ·exact .inl ⟨j,x,hx,by rw [X4 hj]; exact dn,iO.app _⟩
 ·exact .inr (x.app _)
theorem cQ.die(h:cQ am aw th mu dd sh fr n t)(hm:mu i=true):cQ am aw (fW th i none) mu dd sh fr n t:=by
 have key:∀ j y,fW th i none j=some y→th j=some y:=λ j y hy=>by
  by_cases hj:j=i
  ·subst hj; rw [fl] at hy; cases hy
  ·rwa [eo hj] at hy
 refine ⟨λ j y hy=>h.own j y (key j y hy),λ j y hy=>h.read j y (key j y hy),λ b hb k a hk bJ=>(h.shr b hb k a hk bJ).imp id (Or.imp id λ z j y hy=>z j y (key j y hy)),λ b hb k a hk bJ=>(h.free b hb k a hk bJ).imp (λ z j y hy=>z j y (key j y hy)) id,h.low,λ k a hk Jo eU=>?_,h.deaf,h.norel,h.clean,λ k a hk j0 b bJ=>(h.ri k a hk j0 b bJ).imp (λ z j y hy=>z j y (key j y hy)) id⟩
 refine (h.all k a hk Jo eU).imp (λ ⟨j,y,hy,dn,iO⟩=>⟨j,y,?_,dn,iO⟩) id
 by_cases hj:j=i
 ·subst hj; rw [hm] at dn; cases dn
 ·rw [eo hj]; exact hy
theorem cQ.spawn{c:Nat}{x y:MemOp}(h:cQ am aw th mu dd sh fr n t)(hi:th 0=some ⟨R,H⟩)(hR:aT R' R)(hc:th c=none)(hx:x.g=0∧x.act = .go c)(hy:y.g=c∧y.act = .start)(h0:dd 0=0)(hdc:dd c=0)(dU:c≠0)(hmc:mu c=false) :
  cQ am aw (fW th c (some ⟨R',[]⟩)) mu dd sh fr n (t++#[x,y]):=by
 have Jp:∀ op∈#[x,y],op=x∨op=y:=by intro op au; simpa using au
 have m1:∀ op∈#[x,y],op.act.touch? = none:=λ op au=>by
  rcases Jp op au with rfl | rfl
  ·rw [hx.2]; rfl
  ·rw [hy.2]; rfl
 have old:∀ {k a},touchAt (t++#[x,y]) k=some a→k < t.size∧touchAt t k=some a:=λ {k a} hk=>by
  have:=Gw m1 hk
  obtain ⟨x,hx,_⟩:=touch_of this
  exact ⟨lt_size_of_getElem? hx,this⟩
 have kn:∀ {k},Kn t 0 k→Kn (t++#[x,y]) c k:=λ hk=>fork_knows hx hy ((h.deaf 0).trans h0) ((h.deaf c).trans hdc) hk
 refine ⟨λ j z hz b o hb k a hk bJ=>?_,λ j z hz b o hb k a hk bJ hw=>?_,λ b hb k a hk bJ=>?_,λ b hb k a hk bJ=>?_,λ op au=>?_,λ k a hk hm eU=>?_,λ j=>?_,Xk h.norel λ op au a=>?_,λ said=>aet (h.clean said) m1,λ k a hk j0 b bJ=>(h.ri k a (old hk).2 j0 b bJ).imp (λ z j y' qW o ho=>?_) id⟩
 ·by_cases hj:j=c
  ·subst hj; rw [fl] at hz; cases hz; cases hb
  ·rw [eo hj] at hz; exact (h.own j z hz b o hb k a (old hk).2 bJ).app _
 ·by_cases hj:j=c
  ·subst hj; rw [fl] at hz; cases hz
   exact kn (h.read 0 _ hi b o (hR b o hb) k a (old hk).2 bJ hw)
  ·rw [eo hj] at hz; exact (h.read j z hz b o hb k a (old hk).2 bJ hw).app _
 ·refine (h.shr b hb k a (old hk).2 bJ).imp id (Or.imp (And.imp id (·.app _)) λ z j y' qW=>?_)
  by_cases hj:j=c
  ·subst hj; exact kn (z 0 _ hi)
  ·rw [eo hj] at qW; exact (z j y' qW).app _
 ·refine (h.free b hb k a (old hk).2 bJ).imp (λ z j y' qW=>?_) (·.app _)
  by_cases hj:j=c
  ·subst hj; exact kn (z 0 _ hi)
  ·rw [eo hj] at qW; exact (z j y' qW).app _
 ·rcases Array.mem_append.1 au with z | z
  ·exact h.low op z
  ·rcases Jp op z with rfl | rfl
   ·rw [hx.2]; trivial
   ·rw [hy.2]; trivial
 ·refine (h.all k a (old hk).2 hm (eU.imp id (heard_old (old hk).1).1)).imp (λ ⟨j,z,hz,dn,iO⟩=>⟨j,z,?_,dn,iO.app _⟩) (·.app _)
  rw [eo (λ e=>by subst e; rw [hc] at hz; cases hz)]; exact hz
 ·have e:t++#[x,y]=(t++#[x])++#[y]:=by apply Array.ext'; simp
  rw [e,Deaf_push,Deaf_push]
  unfold deafStep
  rw [hx.2,hy.2]
  exact h.deaf j
 ·rcases Jp op au with rfl | rfl
  ·rw [hx.2]; intro e; cases e
  ·rw [hy.2]; intro e; cases e
 ·by_cases hj:j=c
  ·subst hj; rw [fl] at qW; cases qW; cases ho
  ·rw [eo hj] at qW; exact z j y' qW o ho
end
section
variable {B:Base} {am aw:Option Addr} {mu:Nat→Bool} {dd:Nat→Nat} {sh:List Nat} {n:Nat} {R:az} {H H':an} {t:Trace}
theorem cQ.share{bs:List Nat}{b:Nat}(h:cQ none none (only ⟨R,H⟩) mu dd [] none n t)(hs:∀ c∈b::bs,∃ o,(c,o)∈H)(hH:∀ x∈H',x∈H)(am aw:Option Addr):cQ am aw (only ⟨R,H'⟩) mu dd bs (some b) n t:=by
 have o0:∀ {i x H1},only ⟨R,H1⟩ i=some x→i=0∧x=⟨R,H1⟩:=λ {i x H1} hx=>by
  unfold only at hx; split at hx
  ·cases hx; exact ⟨‹_›,rfl⟩
  ·cases hx
 refine ⟨λ i x hx c o hc k a hk bJ=>?_,λ i x hx c o hc k a hk bJ hw=>?_,λ c hc k a hk bJ=>?_,λ c hc k a hk bJ=>?_,h.low,λ k a hk hm eU=>?_,h.deaf,h.norel,h.clean,λ k a hk j0 c bJ=>⟨λ i x hx o ho=>?_,λ e=>?_⟩⟩
 ·obtain ⟨rfl,rfl⟩:=o0 hx; exact h.own 0 _ rfl c o (hH _ hc) k a hk bJ
 ·obtain ⟨rfl,rfl⟩:=o0 hx; exact h.read 0 _ rfl c o hc k a hk bJ hw
 ·obtain ⟨o,ho⟩:=hs c (List.mem_cons_of_mem _ hc)
  refine .inr (.inr λ i x hx=>?_)
  obtain ⟨rfl,rfl⟩:=o0 hx; exact h.own 0 _ rfl c o ho k a hk bJ
 ·cases hc
  obtain ⟨o,ho⟩:=hs b (by simp)
  refine .inl λ i x hx=>?_
  obtain ⟨rfl,rfl⟩:=o0 hx; exact h.own 0 _ rfl b o ho k a hk bJ
 ·rcases h.all k a hk hm eU with ⟨i,x,hx,dn,iO⟩ | ⟨x,p,e,_⟩
  ·obtain ⟨rfl,rfl⟩:=o0 hx; exact .inl ⟨0,_,rfl,dn,iO⟩
  ·cases e
 ·obtain ⟨rfl,rfl⟩:=o0 hx; exact (h.ri k a hk j0 c bJ).1 0 _ rfl o (hH _ ho)
 ·cases e
  obtain ⟨o,ho⟩:=hs b (by simp)
  exact (h.ri k a hk j0 b bJ).1 0 _ rfl o ho
theorem cQ.aEY{a:Addr}{b:Nat}{o:Obj}{y:MemOp}(h:cQ am (some a) (only ⟨R,H⟩) mu dd sh (some b) n t)(_:b < n)(hg:y.g=0)(hy:y.act = .mark (.acquire a))(h0:dd 0=0)(_:mu 0=false)(hl:(MemAct.mark (.acquire a)).low n) :
  cQ none none (only ⟨R,(b,o)::H⟩) (λ _=>false) dd [] none n (t++#[y]):=by
 have o0:∀ {i x H1},only ⟨R,H1⟩ i=some x→i=0∧x=⟨R,H1⟩:=λ {i x H1} hx=>by
  unfold only at hx; split at hx
  ·cases hx; exact ⟨‹_›,rfl⟩
  ·cases hx
 obtain ⟨m1,m2,m3⟩:=Oo (n:=n) hy (by intro a e; cases e) (by intro a e; cases e) (by intro a e; cases e) hl
 have hB:=h.mute (i:=y.g) (λ op au=>by rw [yx au]) m1 m2 m3 (MQ h.deaf hy (by intro e; cases e) (by intro e; cases e))
 rw [mK] at hB
 have old:∀ {k a},touchAt (t++#[y]) k=some a→k < t.size∧touchAt t k=some a:=λ {k a} hk=>by
  have:=Gw m1 hk
  obtain ⟨x,hx,_⟩:=touch_of this
  exact ⟨lt_size_of_getElem? hx,this⟩
 have acq:∀ {k},zE (some a) t k→Kn (t++#[y]) 0 k:=λ {k} hk=>by
  have:=adD h.deaf (by rw [hg]; exact h0) hB.norel hy hk
  rwa [hg] at this
 have adC:∀ k x,touchAt (t++#[y]) k=some x→x.loc.isMemory=true→(x.kind ≠ .atomic∨(t++#[y]).heard k)→Kn (t++#[y]) 0 k:=λ k x hk hm eU=>by
  rcases h.all k x (old hk).2 hm (eU.imp id (heard_old (old hk).1).1) with ⟨i,z,hz,_,iO⟩ | z
  ·obtain ⟨rfl,rfl⟩:=o0 hz; exact iO.app _
  ·exact acq z
 refine ⟨λ i x hx c o' hc k a' hk bJ=>?_,λ i x hx c o' hc k a' hk bJ hw=>?_,λ c hc=>(by cases hc),λ c hc=>(by cases hc),hB.low,λ k a' hk hm eU=>.inl ⟨0,_,rfl,rfl,adC k a' hk hm eU⟩,hB.deaf,hB.norel,hB.clean,λ k a' hk j0 c bJ=>⟨λ i x hx o' hc=>?_,λ e=>by cases e⟩⟩
 ·obtain ⟨rfl,rfl⟩:=o0 hx
  rcases List.mem_cons.1 hc with e | hc
  ·cases e
   refine adC k a' hk ?_ (.inl λ e=>(h.ri k a' (old hk).2 e _ bJ).2 rfl)
   obtain ⟨loc,wr,kd⟩:=a'
   cases loc <;> first | rfl | cases bJ
  ·exact hB.own 0 _ rfl c o' hc k a' hk bJ
 ·obtain ⟨rfl,rfl⟩:=o0 hx; exact hB.read 0 _ rfl c o' hc k a' hk bJ hw
 ·obtain ⟨rfl,rfl⟩:=o0 hx
  rcases List.mem_cons.1 hc with e | hc
  ·cases e; exact (hB.ri k a' hk j0 _ bJ).2 rfl
  ·exact (hB.ri k a' hk j0 c bJ).1 0 _ rfl o' hc
theorem cQ.handed(h:cQ none none (only ⟨R,H⟩) mu dd [] none n t):t.HandedOver:=by
 intro i x hx dU ⟨a,ha,hm,eU⟩
 rcases h.all i a ha hm eU with ⟨j,y,hy,_,hk⟩ | ⟨_,_,e,_⟩
 ·have hj:j=0:=by
   unfold only at hy
   split at hy
   ·assumption
   ·cases hy
  subst hj
  obtain ⟨q,z,h1,h2,h3⟩:=hk
  refine ⟨q,by simp [Trace.g?,h1,h2],?_⟩
  rcases h3 with rfl | h3
  ·rw [show t.g? i=some z.g by simp [Trace.g?,h1],h2] at hx
   exact absurd (Option.some.inj hx).symm dU
  ·exact h3
 ·cases e
end
end Go.Lg
namespace Go.Lg
open Go.Conc Go.ConcN
section
variable {R:az} {H:an} {n m:Nat} {e:Event}
theorem aom{a:Touch}(h:iz R H n m e)(ht:(MemAct.ofEvent e).touch? = some a):a.kind ≠ .atomic:=by
 obtain ⟨loc,wr,sy⟩:=e
 cases loc with
 | cell a' =>
  obtain ⟨h1,_⟩:=h
  simp only at h1; subst h1
  have e1:MemAct.ofEvent ⟨.cell a',wr,false⟩ = .access ⟨.cell a',wr,false⟩:=by cases wr <;> rfl
  rw [e1] at ht
  simp only [MemAct.touch?,Option.some.injEq] at ht
  subst ht; simp
 | obj b =>
  obtain ⟨h1,_⟩:=h
  simp only at h1; subst h1
  have e1:MemAct.ofEvent ⟨.obj b,wr,false⟩ = .access ⟨.obj b,wr,false⟩:=by cases wr <;> rfl
  rw [e1] at ht
  simp only [MemAct.touch?,Option.some.injEq] at ht
  subst ht; simp
 | mark mk =>
  cases mk <;> simp [iz] at h
  cases wr <;> cases sy <;> simp [MemAct.ofEvent,MemAct.touch?] at ht
 | _=>simp [iz] at h
theorem amN{g d:Nat}{u:List MemOp}(h:∀ op∈u,∀ mk,op.act = .mark mk→Neutral mk):u.foldl (deafStep g) d=d:=by
 induction u generalizing d with
 | nil=>rfl
 | cons y u ih =>
  have e:deafStep g d y=d:=by
   unfold deafStep
   split
   ·rename_i h'; exact absurd rfl ((h y (by simp) _ h').ne_disable)
   ·rename_i h'; exact absurd rfl ((h y (by simp) _ h').ne_enable)
   ·rfl
  rw [List.foldl_cons,e]
  exact ih λ op au=>h op (List.mem_cons_of_mem _ au)
theorem amM{i:Nat}{t:Trace}{es:Array Event}{fn:FuncId}{pos:String}(h:∀ e∈es,iz R H n m e):Deaf (t++MemOp.ofEvents i fn pos es) i=Deaf t i:=by
 have e:MemOp.ofEvents i fn pos es=(MemOp.ofEvents i fn pos es).toList.toArray:=by simp
 rw [e,Deaf_append]
 refine amN λ op au mk hm=>?_
 obtain ⟨e,he,rfl⟩:=AF (by simpa using au)
 exact aco (h e he) mk hm
theorem aoo(h:iz R H n m e)(a:Addr):MemAct.ofEvent e ≠ .mark (.release a):=by
 intro hm
 have:=aco h _ hm
 cases this
end
section
variable {B:Base} {am aw:Option Addr} {th:Nat→Option Th} {mu:Nat→Bool} {dd:Nat→Nat} {sh:List Nat} {fr:Option Nat} {ch:an} {w w':World} {i:Nat} {R R':az} {H H':an} {t:Trace}
theorem KU(hM:fq B th ch w)(bf:∀ b,b∈sh→∃ o,(b,o)∈ch)(sf:∀ b,fr=some b→(∃ o,(b,o)∈ch)∧b ∉ sh)(h:cQ am aw th mu dd sh fr w.heap.size t)(hi:th i=some ⟨R,H⟩)(_:mu i=false∨w'=w)
  {es:Array Event} (oe:∀ e∈es,iz R H w.heap.size w'.heap.size e) (hem:mu i=false∨es=#[]) (hu:fP B R H w R' H' w') (fn:FuncId) (pos:String) :
  fq B (fW th i (some ⟨R',H'⟩)) ch w'∧cQ am aw (fW th i (some ⟨R',H'⟩)) mu dd sh fr w'.heap.size (t++MemOp.ofEvents i fn pos es):=by
 refine ⟨hM.upd hi hu,?_⟩
 have:=cQ.app (u:=MemOp.ofEvents i fn pos es) (n':=w'.heap.size) (R':=R') (H':=H') hM rfl bf sf h hi (λ op au=>by obtain ⟨e,_,rfl⟩:=AF au; rfl)
  (λ op au a ha=>by obtain ⟨e,he,rfl⟩:=AF au; exact .inl ⟨aop (oe e he) ha,aom (oe e he) ha⟩) (λ op au=>by obtain ⟨e,he,rfl⟩:=AF au; exact aon (oe e he))
  (λ op au a=>by obtain ⟨e,he,rfl⟩:=AF au; exact aoo (oe e he) a) (amM oe) ?_ hu.size hu.Gb hu.yv
 ·rwa [h.deaf i,mK] at this
 ·refine hem.imp id λ e=>?_
  subst e
  intro k a hk Jk
  rw [ofEvents_none,Array.append_empty] at Jk
  obtain ⟨x,hx,_⟩:=touch_of Jk
  have:=lt_size_of_getElem? hx
  omega
theorem acS(hM:fq B th ch w)(bf:∀ b,b∈sh→∃ o,(b,o)∈ch)(sf:∀ b,fr=some b→(∃ o,(b,o)∈ch)∧b ∉ sh)(h:cQ am aw th mu dd sh fr w.heap.size t)(hi:th i=some ⟨R,H⟩)(hu:fP B R H w R' H' w) :
  fq B (fW th i (some ⟨R',H'⟩)) ch w∧cQ am aw (fW th i (some ⟨R',H'⟩)) mu dd sh fr w.heap.size t:=by
 have:=KU (w':=w) (es:=#[]) hM bf sf h hi (.inr rfl) (by simp) (.inr rfl) hu 0 ""
 rw [ofEvents_none,Array.append_empty] at this
 exact this
end
theorem aBy{i:Nat}{fn:FuncId}{pos:String}{es:Array Event}(h:∀ e∈es,Event.mute e=true){n:Nat} :
  (∀ op∈MemOp.ofEvents i fn pos es,op.g=i)∧(∀ op∈MemOp.ofEvents i fn pos es,op.act.touch? = none)∧(∀ op∈MemOp.ofEvents i fn pos es,op.act.low n)∧∀ op∈MemOp.ofEvents i fn pos es,∀ a,op.act ≠ .mark (.release a):=by
 have key:∀ e:Event,e.mute=true→MemAct.ofEvent e = .mark .disable∨MemAct.ofEvent e = .mark .enable:=by
  intro e he
  obtain ⟨loc,wr,sy⟩:=e
  cases loc with
  | mark m=>cases m <;> simp [Event.mute] at he <;> cases wr <;> cases sy <;> simp [MemAct.ofEvent]
  | _=>simp [Event.mute] at he
 have k2:∀ op∈MemOp.ofEvents i fn pos es,op.g=i∧(op.act = .mark .disable∨op.act = .mark .enable):=λ op au=>by
  obtain ⟨e,he,rfl⟩:=AF au; exact ⟨rfl,key e (h e he)⟩
 refine ⟨λ op au=>(k2 op au).1,λ op au=>?_,λ op au=>?_,λ op au a=>?_⟩ <;> rcases (k2 op au).2 with e | e <;> rw [e]
 ·rfl
 ·rfl
 ·trivial
 ·trivial
 ·intro x; cases x
 ·intro x; cases x
theorem cQ.leaves{am aw:Option Addr}{th:Nat→Option Th}{mu:Nat→Bool}{dd:Nat→Nat}{sh:List Nat}{fr:Option Nat}{n i:Nat}{t:Trace}{es:Array Event}{fn:FuncId}{pos:String}(h:cQ am aw th mu dd sh fr n t)(oe:∀ e∈es,Event.mute e=true) :
  cQ am aw th mu (gn dd i (deafBehind (dd i) es)) sh fr n (t++MemOp.ofEvents i fn pos es):=by
 obtain ⟨h1,h2,h3,h4⟩:=aBy (i:=i) (fn:=fn) (pos:=pos) oe (n:=n)
 exact h.mute h1 h2 h3 h4 (by rw [Deaf_own,h.deaf i])
structure xx (P:Program) (B:Base) (R:az) (H:an) (gs:Array Goroutine) (w:World) (t:Trace) (q dd:Nat→Nat):Prop where
 mem:fq B (only ⟨R,H⟩) [] w
 tr:cQ none none (only ⟨R,H⟩) (λ _=>false) dd [] none w.heap.size t
 d0:dd 0=0
 dz:∀ i,gs.size≤i→dd i=0
 lv:∀ i g,0 < i→gs[i]? = some g→QuitsD P (q i) (dd i) g
section
variable (P:Program) (B:Base) (Post:Value→World→Prop)
def jg(R:az)(H:an)(g:Goroutine):Prop:=∀ gs w sl t q dd,gs[0]? = some g→xx P B R H gs w t q dd→lx P Post (crowd gs w sl) t
end
section
variable {P:Program} {B:Base} {Post:Value→World→Prop} {R:az} {H:an} {g:Goroutine}
theorem xx.fits{gs:Array Goroutine}{w:World}{t:Trace}{q dd:Nat→Nat}(h:xx P B R H gs w t q dd):Fits B R H w:=h.mem.fits 0 ⟨R,H⟩ rfl
theorem xx.at{gs:Array Goroutine}{w:World}{t:Trace}{q dd:Nat→Nat}(h:xx P B R H gs w t q dd)(d:Nat):xx P B R H gs (w.at d) t q dd:=⟨h.mem.at d,h.tr,h.d0,h.dz,h.lv⟩
theorem jg.pick(hs:g.status = .running)
  (h:∀ gs w sl qM d t q dd,gs[0]? = some g→xx P B R H gs (w.at d) t q dd→stepT P (crowd gs w sl)=runT P (crowd gs (w.at d) qM) 0→lx P Post (crowd gs w sl) t):jg P B Post R H g:=by
 have key:∀ M gs w sl t q dd,dc gs.size q≤M→gs[0]? = some g→xx P B R H gs w t q dd→lx P Post (crowd gs w sl) t:=by
  intro M
  induction M with
  | zero =>
   intro gs w sl t q dd hM h0 hA
   have wh:∀ x∈gs,awake x:=by
    intro x hx
    obtain ⟨i,hi,rfl⟩:=Array.mem_iff_getElem.1 hx
    rcases Nat.eq_zero_or_pos i with rfl | iN
    ·have:gs[0]=g:=by simpa [Array.getElem?_eq_getElem hi] using h0
     rw [this]; exact awake_of (.inl hs)
    ·exact awake_of ((hA.lv i _ iN (Array.getElem?_eq_getElem hi)).status.elim .inl λ x=>.inr (.inr x))
   obtain ⟨i,x,d,qM,hi,hx,cG⟩:=crowd_pick (P:=P) (w:=w) (sl:=sl) wh ⟨0,g,h0,hs⟩
   rcases Nat.eq_zero_or_pos i with rfl | iN
   ·exact h gs w sl qM d t q dd h0 (hA.at d) cG
   ·have hq:=hA.lv i x iN hi
    have bK:i < gs.size:=(Array.getElem?_eq_some_iff.1 hi).1
    have hq0:q i=0:=by
     have h2:∀ (j:Nat),i < j→q i≤dc j q:=by
      intro j hj
      induction j with
      | zero=>omega
      | succ j ih =>
       rcases Nat.lt_or_ge i j with bK | uy
       ·have:=ih bK; simp only [dc]; omega
       ·obtain rfl:i=j:=by omega
        simp only [dc]; omega
     have:=h2 gs.size bK
     omega
    rw [hq0] at hq
    rw [show x.status = .finished from hq.1] at hx; cases hx
  | succ M ih =>
   intro gs w sl t q dd hM h0 hA
   have wh:∀ x∈gs,awake x:=by
    intro x hx
    obtain ⟨i,hi,rfl⟩:=Array.mem_iff_getElem.1 hx
    rcases Nat.eq_zero_or_pos i with rfl | iN
    ·have:gs[0]=g:=by simpa [Array.getElem?_eq_getElem hi] using h0
     rw [this]; exact awake_of (.inl hs)
    ·exact awake_of ((hA.lv i _ iN (Array.getElem?_eq_getElem hi)).status.elim .inl λ x=>.inr (.inr x))
   obtain ⟨i,x,d,qM,hi,hx,cG⟩:=crowd_pick (P:=P) (w:=w) (sl:=sl) wh ⟨0,g,h0,hs⟩
   rcases Nat.eq_zero_or_pos i with rfl | iN
   ·exact h gs w sl qM d t q dd h0 (hA.at d) cG
   ·have hq:=hA.lv i x iN hi
    have xW:(i == 0)=false:=by simp; omega
    have bK:i < gs.size:=(Array.getElem?_eq_some_iff.1 hi).1
    cases UI:q i with
    | zero=>rw [UI] at hq; rw [show x.status = .finished from hq.1] at hx; cases hx
    | succ k =>
     rw [UI] at hq
     rcases hq with hf | ⟨_,x',es,oe,avB,YX⟩
     ·rw [hf.1] at hx; cases hx
     have Jt:=runT_crowd_go (P:=P) (sl:=qM) (i:=i) hi (by rw [xW]; exact avB (w.at d))
     refine lx.step (cG.trans Jt) ?_
     have fN:((gs.map (woken P x x' (w.at d))).setIfInBounds i x').size=gs.size:=by simp
     have Zp:=Du (f:=q) (g:=λ j=>if j=i then k else q j) bK (λ j hj=>by simp [hj])
     simp only [if_true,UI] at Zp
     refine ih _ _ _ _ (λ j=>if j=i then k else q j) (gn dd i (deafBehind (dd i) es)) (by rw [fN]; omega) ?_ ⟨(hA.at d).mem,hA.tr.leaves oe,?_,λ j hj=>?_,λ j y hj hy=>?_⟩
     ·have dU:i≠0:=by omega
      rw [Array.getElem?_setIfInBounds_ne dU,Array.getElem?_map,h0]
      simp [woken_run hs]
     ·rw [tf (by omega)]; exact hA.d0
     ·rw [fN] at hj; rw [tf (by omega)]; exact hA.dz j hj
     ·by_cases fZ:i=j
      ·subst fZ
       rw [Array.getElem?_setIfInBounds_self_of_lt (by simpa using bK)] at hy
       obtain rfl:=Option.some.inj hy
       simpa [ti] using YX
      ·rw [Array.getElem?_setIfInBounds_ne fZ,Array.getElem?_map] at hy
       obtain ⟨z,hz,rfl⟩:=Option.map_eq_some_iff.1 hy
       have hqj:=hA.lv j z hj hz
       rw [woken_quitsD hqj,tf (Ne.symm fZ)]
       simpa [Ne.symm fZ] using hqj
 exact λ gs w sl t q dd h0 hA=>key _ gs w sl t q dd (Nat.le_refl _) h0 hA
theorem Xj{ch:an}:∀ b,b∈([]:List Nat)→∃ o:Obj,(b,o)∈ch:=λ _ h=>by cases h
theorem Xi{ch:an}:∀ b,(none:Option Nat)=some b→(∃ o:Obj,(b,o)∈ch)∧b ∉ ([]:List Nat):=λ _ h=>by cases h
theorem jg.step(hs:g.status = .running)(h:∀ w,Fits B R H w→∃ g' w' es R' H',stepG P true g w = .go g' w' es∧(∀ e∈es,iz R H w.heap.size w'.heap.size e)∧fP B R H w R' H' w'∧jg P B Post R' H' g'):jg P B Post R H g:=by
 refine jg.pick hs λ gs w sl qM d t q dd h0 hA cG=>?_
 obtain ⟨g',w',es,R',H',h1,h2,h3,h4⟩:=h _ hA.fits
 have Jt:=runT_crowd_go (P:=P) (sl:=qM) (i:=0) h0 (show stepG P (0 == 0) g (w.at d)=_ from h1)
 refine lx.step (cG.trans Jt) ?_
 have bK:0 < gs.size:=(Array.getElem?_eq_some_iff.1 h0).1
 have cG:=KU hA.mem Xj Xi hA.tr (i:=0) rfl (.inl rfl) h2 (.inl rfl) h3 g.frame.fn g.frame.place
 rw [OF] at cG
 refine h4 _ _ _ _ q dd (by simp [bK]) ⟨cG.1,cG.2,hA.d0,λ i hi=>hA.dz i (by simpa using hi),λ j x hj hx=>?_⟩
 have dU:0≠j:=by omega
 rw [Array.getElem?_setIfInBounds_ne dU,Array.getElem?_map] at hx
 obtain ⟨y,hy,rfl⟩:=Option.map_eq_some_iff.1 hx
 have hq:=hA.lv j y hj hy
 rw [woken_quitsD hq]
 exact hq
theorem jg.ghost{R':az}{H':an}(hg:∀ w,Fits B R H w→fP B R H w R' H' w)(h:jg P B Post R' H' g):jg P B Post R H g:=by
 intro gs w sl t q dd h0 hA
 have cG:=acS hA.mem Xj Xi hA.tr (i:=0) rfl (hg w hA.fits)
 rw [OF] at cG
 exact h gs w sl t q dd h0 ⟨cG.1,cG.2,hA.d0,hA.dz,hA.lv⟩
def Da(P:Program)(B:Base)(Post:Value→World→Prop):Jd P B true:=⟨jg P B Post,jg.step,jg.ghost⟩
end
end Go.Lg
