/- Traces; goroutine 0 beside those that leave. Conditions: none. -/
import Derived.Test.YtihapemckcdicaaGreatDoorQFLgA
import Derived.Conc.CrowdTrace
import Derived.Conc.JoinTrace
import Derived.Conc.QuitsD
namespace Go.Lg
open Go.Conc
inductive Tree:Type 1
 | node (ι:Type) (f:ι→Tree):Tree
inductive GG:Tree→Tree→Prop
 | mk {ι:Type} (f:ι→Tree) (i:ι):GG (f i) (.node ι f)
theorem GG.acc(t:Tree):Acc GG t:=by
 induction t with
 | node ι f ih=>exact ⟨_,λ y h=>by cases h; exact ih _⟩
abbrev Ms:=Option Tree
inductive oI:Ms→Ms→Prop
 | some {a b:Tree}:GG a b→oI (some a) (some b)
 | none {b:Tree}:oI none (some b)
theorem oI.YU:Acc oI (Option.none:Ms):=⟨_,λ y h=>by cases h⟩
theorem oI.acc(m:Ms):Acc oI m:=by
 cases m with
 | none=>exact oI.YU
 | some t =>
  have:=GG.acc t
  induction this with
  | intro t _ ih =>
   refine ⟨_,λ y h=>?_⟩
   cases h with
   | some h=>exact ih _ h
   | none=>exact oI.YU
inductive One {α:Type 1} (r:α→α→Prop):List α→List α→Prop
 | head {a b:α} {l:List α}:r a b→One r (a::l) (b::l)
 | tail {a:α} {l l':List α}:One r l l'→One r (a::l) (a::l')
theorem One.acc{α:Type 1}{r:α→α→Prop}(h:∀ a,Acc r a):∀ l:List α,Acc (One r) l
 | []=>⟨_,λ y h=>by cases h⟩
 | b::l=>by
  have hb:=h b
  have hl:=One.acc h l
  induction hb generalizing l with
  | intro b _ ihb =>
   induction hl with
   | intro l hl' VZ =>
    refine ⟨_,λ y hy=>?_⟩
    cases hy with
    | head hr=>exact ihb _ hr _ ⟨_,hl'⟩
    | tail ho=>exact VZ _ ho
theorem One.wf:WellFounded (One oI):=⟨One.acc oI.acc⟩
theorem One.set{α:Type 1}{r:α→α→Prop}:∀ {l:List α} {i:Nat} {a b:α},l[i]? = some b→r a b→One r (l.set i a) l
 | [],_,_,_,h,_=>by cases h
 | x::l,0,a,b,h,hr=>by cases h; exact .head hr
 | x::l,i+1,a,b,h,hr=>.tail (One.set (by simpa using h) hr)
def qN:Nat→Tree
 | 0=>.node Empty Empty.elim
 | n+1=>.node Unit λ _=>qN n
theorem adO(n:Nat):oI (some (qN n)) (some (qN (n+1))):=.some (.mk (λ _:Unit=>qN n) ())
section
variable (P:Program) (B:Base) (main:Bool) (K:ax→an→Goroutine→Prop)
def Az:Tree→ax→an→Goroutine→Prop
 | .node _ f=>λ R H g=>K R H g ∨
  (g.status = .running∧∀ w,Fits B R H w→∃ g' w' es R' H' i,stepG P main g w = .go g' w' es∧(∀ e∈es,gR R H w.heap.size w'.heap.size e)∧fF B R H w R' H' w'∧Az (f i) R' H' g') ∨
  (∃ R' H' i,(∀ w,Fits B R H w→fF B R H w R' H' w)∧Az (f i) R' H' g)
def Own(R:ax)(H:an)(g:Goroutine):Prop:=∃ T,Az P B main K T R H g
theorem Own.stop{R:ax}{H:an}{g:Goroutine}(h:K R H g):Own P B main K R H g:=⟨.node Empty Empty.elim,.inl h⟩
open Classical in
def JV:Jd P B main where
 J:=Own P B main K
 step:=by
  intro R H g hs h
  refine ⟨.node { x:ax × an × Goroutine // Own P B main K x.1 x.2.1 x.2.2 } (λ x=>x.2.choose),.inr (.inl ⟨hs,λ w hw=>?_⟩)⟩
  obtain ⟨g',w',es,R',H',h1,h2,h3,h4⟩:=h w hw
  exact ⟨g',w',es,R',H',⟨(R',H',g'),h4⟩,h1,h2,h3,Exists.choose_spec h4⟩
 ghost:=by
  intro R H R' H' g hg h
  exact ⟨.node Unit (λ _=>h.choose),.inr (.inr ⟨R',H',(),hg,h.choose_spec⟩)⟩
end
theorem nn{α:Type}{a:Option α}{u:α}{C:Prop}(h:a=none)(h':a=some u):C:=by rw [h] at h'; cases h'
structure Th where
 R:ax
 H:an
def fN(th:Nat→Option Th)(i:Nat)(x:Option Th):Nat→Option Th:=λ j=>if j=i then x else th j
theorem eY(th:Nat→Option Th)(i:Nat)(x:Option Th):fN th i x i=x:=by simp [fN]
theorem eA{th:Nat→Option Th}{i j:Nat}{x:Option Th}(h:j≠i):fN th i x j=th j:=by simp [fN,h]
structure fb (B:Base) (th:Nat→Option Th) (ch:an) (w:World):Prop where
 fits:∀ i x,th i=some x→Fits B x.R x.H w
 apart:∀ i j x y,i≠j→th i=some x→th j=some y→∀ b o,(b,o)∈x.H→y.R b=none∧∀ o',(b,o') ∉ y.H
 ny:∀ c o,(c,o)∈ch→w.heap[c]? = some o
 lU:∀ c o,(c,o)∈ch→∀ i x,th i=some x→x.R c=none∧∀ o',(c,o') ∉ x.H
theorem Fits.at{B:Base}{R:ax}{H:an}{w:World}(h:Fits B R H w)(d:Nat):Fits B R H (w.at d):=⟨h.r,h.h,h.nd,h.dj,h.os,h.tape,h.out⟩
theorem fb.at{B:Base}{th:Nat→Option Th}{ch:an}{w:World}(h:fb B th ch w)(d:Nat):fb B th ch (w.at d) :=
 ⟨λ i x hx=>(h.fits i x hx).at d,h.apart,h.ny,h.lU⟩
section
variable {B:Base} {th:Nat→Option Th} {ch:an} {w w':World} {i:Nat} {R R':ax} {H H':an}
theorem fb.upd(h:fb B th ch w)(hi:th i=some ⟨R,H⟩)(hu:fF B R H w R' H' w'):fb B (fN th i (some ⟨R',H'⟩)) ch w':=by
 have BW {j:Nat} {y:Th} (hy:th j=some y):(∀ b o,y.R b=some o→b < w.heap.size)∧(∀ b o,(b,o)∈y.H→b < w.heap.size) :=
  ⟨λ b o x=>lb ((h.fits j y hy).r b o x),λ b o x=>lb ((h.fits j y hy).h b o x)⟩
 refine ⟨λ j y hy=>?_,λ j k x y na hx hy b o hb=>?_,λ c o hc=>?_,λ c o hc j y hy=>?_⟩
 ·by_cases hj:j=i
  ·subst hj; rw [eY] at hy; cases hy; exact hu.fits
  ·rw [eA hj] at hy
   have hf:=h.fits j y hy
   have hl:=BW hy
   refine ⟨λ b o x=>?_,λ b o x=>?_,hf.nd,hf.dj,hu.fits.os,hu.fits.tape,hu.fits.out⟩
   ·rw [hu.same b (hl.1 b o x) λ o' eR=>nn (h.apart i j _ _ (Ne.symm hj) hi hy b o' eR).1 x]
    exact hf.r b o x
   ·rw [hu.same b (hl.2 b o x) λ o' eR=>(h.apart i j _ _ (Ne.symm hj) hi hy b o' eR).2 o x]
    exact hf.h b o x
 ·by_cases hj:j=i
  ·subst hj
   rw [eY] at hx; cases hx
   rw [eA (Ne.symm na)] at hy
   rcases hu.xB b o hb with ⟨o',eR⟩ | ti
   ·exact h.apart j k _ _ na hi hy b o' eR
   ·refine ⟨?_,λ o' eR=>?_⟩
    ·cases hR:y.R b with
     | none=>rfl
     | some u=>have:=(BW hy).1 b u hR; omega
    ·have:=(BW hy).2 b o' eR; omega
  ·rw [eA hj] at hx
   by_cases hk:k=i
   ·subst hk
    rw [eY] at hy; cases hy
    have bE:=(BW hx).2 b o hb
    have lY:=h.apart j k _ _ na hx hi b o hb
    refine ⟨?_,λ o' eR=>?_⟩
    ·cases hR:R' b with
     | none=>simp [hR]
     | some u =>
      rcases hu.Fs b u hR with x | ⟨o',x⟩ | x
      ·exact nn lY.1 x
      ·exact absurd x (lY.2 o')
      ·omega
    ·rcases hu.xB b o' eR with ⟨u,x⟩ | x
     ·exact lY.2 u x
     ·omega
   ·rw [eA hk] at hy
    exact h.apart j k _ _ na hx hy b o hb
 ·have bE:=lb (h.ny c o hc)
  rw [hu.same c bE λ o' eR=>(h.lU c o hc i _ hi).2 o' eR]
  exact h.ny c o hc
 ·by_cases hj:j=i
  ·subst hj
   rw [eY] at hy; cases hy
   have bE:=lb (h.ny c o hc)
   have lY:=h.lU c o hc j _ hi
   refine ⟨?_,λ o' eR=>?_⟩
   ·cases hR:R' c with
    | none=>simp [hR]
    | some u =>
     rcases hu.Fs c u hR with x | ⟨o',x⟩ | x
     ·exact nn lY.1 x
     ·exact absurd x (lY.2 o')
     ·omega
   ·rcases hu.xB c o' eR with ⟨u,x⟩ | x
    ·exact lY.2 u x
    ·omega
  ·rw [eA hj] at hy
   exact h.lU c o hc j y hy
theorem fb.drop(h:fb B th ch w):fb B (fN th i none) ch w:=by
 have key:∀ j y,fN th i none j=some y→th j=some y:=λ j y hy=>by
  by_cases hj:j=i
  ·subst hj; rw [eY] at hy; cases hy
  ·rwa [eA hj] at hy
 exact ⟨λ j y hy=>h.fits j y (key j y hy),λ j k x y na hx hy=>h.apart j k x y na (key j x hx) (key k y hy),h.ny,λ c o hc j y hy=>h.lU c o hc j y (key j y hy)⟩
theorem fb.add{c:Nat}(h:fb B th ch w)(hi:th i=some ⟨R,H⟩)(hR:aS R' R):fb B (fN th c (some ⟨R',[]⟩)) ch w:=by
 refine ⟨λ j y hy=>?_,λ j k x y na hx hy b o hb=>?_,h.ny,λ a o ha j y hy=>?_⟩
 ·by_cases hj:j=c
  ·subst hj; rw [eY] at hy; cases hy
   have hf:=h.fits i _ hi
   exact ⟨λ b o x=>hf.r b o (hR b o x),λ b o x=>(by cases x),List.nodup_nil,λ b o x=>(by cases x),hf.os,hf.tape,hf.out⟩
  ·rw [eA hj] at hy; exact h.fits j y hy
 ·by_cases hj:j=c
  ·subst hj; rw [eY] at hx; cases hx; cases hb
  ·rw [eA hj] at hx
   by_cases hk:k=c
   ·subst hk
    rw [eY] at hy; cases hy
    refine ⟨?_,λ o' x=>by cases x⟩
    cases Hx:R' b with
    | none=>simp [Hx]
    | some u =>
     have hRu:=hR b u Hx
     by_cases gj:j=i
     ·subst gj
      rw [hi] at hx; cases hx
      exact nn ((h.fits j _ hi).dj b o hb) hRu
     ·exact nn (h.apart j i _ _ gj hx hi b o hb).1 hRu
   ·rw [eA hk] at hy; exact h.apart j k x y na hx hy b o hb
 ·by_cases hj:j=c
  ·subst hj; rw [eY] at hy; cases hy
   refine ⟨?_,λ o' x=>by cases x⟩
   cases Hx:R' a with
   | none=>simp [Hx]
   | some u=>exact nn (h.lU a o ha i _ hi).1 (hR a u Hx)
  ·rw [eA hj] at hy; exact h.lU a o ha j y hy
end
end Go.Lg
namespace Go.Lg
open Go.Conc
abbrev Kn(t:Trace)(g i:Nat):Prop:=Go.Conc.Knows t g i
def blk:Loc→Option Nat
 | .cell a=>some a.block
 | .obj r=>some r
 | _=>none
theorem aEj{x:MemAct}{a:Touch}{n b:Nat}(h:x.low n)(ht:x.touch? = some a)(hb:blk a.loc=some b):b < n:=by
 cases x with
 | access e =>
  simp only [MemAct.touch?,Option.some.injEq] at ht
  subst ht
  obtain ⟨loc,wr,sy⟩:=e
  cases loc <;> simp [blk] at hb <;> subst hb <;> exact h
 | mark m =>
  cases m <;> simp only [MemAct.touch?,Option.some.injEq,reduceCtorEq] at ht
  all_goals (subst ht; simp [blk] at hb; subst hb; exact h)
 | _=>simp [MemAct.touch?] at ht
def YB(ch:an)(R:ax)(H:an)(n:Nat)(a:Touch):Prop :=
 ∃ b,blk a.loc=some b∧((a.write=false∧∃ o,R b=some o)∨(∃ o,(b,o)∈H)∨n≤b∨(a.kind = .atomic∧∃ o,(b,o)∈ch))
theorem vF{t u:Trace}{k:Nat}{a:Touch}(h:touchAt (t++u) k=some a):(k < t.size∧touchAt t k=some a)∨(∃ op,(t++u)[k]? = some op∧op∈u∧op.act.touch? = some a):=by
 obtain ⟨x,hx,MT⟩:=touch_of h
 rcases getElem?_append_cases hx with ⟨hk,zn⟩ | ⟨_,hxu⟩
 ·exact .inl ⟨hk,by rw [touchAt_of zn]; exact MT⟩
 ·exact .inr ⟨x,hx,hxu,MT⟩
theorem Nb{t:Trace}{k b n:Nat}{a:Touch}(hl:∀ op∈t,op.act.low n)(h:touchAt t k=some a)(hb:blk a.loc=some b):b < n:=by
 obtain ⟨x,hx,MT⟩:=touch_of h
 exact aEj (hl x (mem_of_getElem? hx)) MT hb
section
variable {B:Base} {th:Nat→Option Th} {ch:an} {cls:Option Nat} {w:World} {n n' i:Nat} {R R':ax} {H H':an} {t u:Trace}
theorem adR{said:Bool}(h:¬ Race said t)(hu:∀ op∈u,op.act.touch? = none):¬ Race said (t++u):=by
 rintro ⟨i,j,tn,⟨a,b,ha,hb,hc⟩,n1,n2⟩
 rcases vF (u:=u) (a:=a) (k:=i) ha with ⟨hi,ha'⟩ | ⟨op,_,h2,h3⟩
 ·rcases vF (u:=u) (a:=b) (k:=j) hb with ⟨hj,fY⟩ | ⟨op,_,h2,h3⟩
  ·exact h ⟨i,j,tn,⟨a,b,ha',fY,hc⟩,λ e=>n1 (hb_app u e),λ e=>n2 (hb_app u e)⟩
  ·rw [hu op h2] at h3; cases h3
 ·rw [hu op h2] at h3; cases h3
end
end Go.Lg
namespace Go.Lg
open Go.Conc
def c8:Nat→(Nat→Nat)→Nat
 | 0,_=>0
 | j+1,f=>c8 j f+f j
theorem Ka{f g:Nat→Nat}:∀ {j:Nat},(∀ i,i < j→f i=g i)→c8 j f=c8 j g
 | 0,_=>rfl
 | j+1,h=>by rw [c8,c8,Ka (λ i hi=>h i (by omega)),h j (by omega)]
theorem CW{f g:Nat→Nat}{i:Nat}:∀ {j:Nat},i < j→(∀ k,k≠i→g k=f k)→c8 j g+f i=c8 j f+g i
 | j+1,h,hg=>by
  rcases Nat.lt_or_ge i j with bE | ti
  ·have:=CW bE hg
   simp only [c8,hg j (by omega)]
   omega
  ·obtain rfl:i=j:=by omega
   simp only [c8]
   rw [Ka (g:=f) (λ a ha=>hg a (by omega))]
   omega
section
variable (P:Program) (Post:Value→World→Prop)
def kW(m:Machine)(t:Trace):Prop:=∃ N last o w' t',runNT P (N+1) m t=(.ended o w',t')∧runN P N m = .next last∧step P last = .ended o w'∧Good P Post last o w' t'
variable {P Post}
theorem kW.step{m m':Machine}{t:Trace}{ops:Array MemOp}(hs:stepT P m=(.next m',ops))(h:kW P Post m' (t++ops)):kW P Post m t:=by
 obtain ⟨N,last,o,w',t',h1,h2,h3,h4⟩:=h
 exact ⟨N+1,last,o,w',t',by rw [runNT_succ_next hs]; exact h1,by rw [runN_succ_next hs]; exact h2,h3,h4⟩
theorem kW.end{m:Machine}{t:Trace}{o:Outcome}{w':World}{ops:Array MemOp}(hs:stepT P m=(.ended o w',ops))(h:Good P Post m o w' (t++ops)):kW P Post m t :=
 ⟨0,m,o,w',t++ops,by simp [runNT,hs],rfl,by simp [Go.step,hs],h⟩
end
theorem zL{g:Nat}{fn:FuncId}{pos:String}{es:Array Event}{op:MemOp}(h:op∈MemOp.ofEvents g fn pos es):∃ e∈es,op={ g,fn,pos,act:=.ofEvent e }:=by
 rw [ofEvents_eq] at h
 obtain ⟨e,he,rfl⟩:=Array.mem_map.1 h
 exact ⟨e,he,rfl⟩
section
variable {R:ax} {H:an} {n m:Nat} {e:Event} {ch:an}
theorem als{a:Touch}(h:gR R H n m e)(ht:(MemAct.ofEvent e).touch? = some a):YB ch R H n a:=by
 obtain ⟨loc,wr,sy⟩:=e
 have key:∀ b,AF R H n wr b→((wr=false∧∃ o,R b=some o)∨(∃ o,(b,o)∈H)∨n≤b):=λ b hb=>by
  rcases hb with ⟨h1,h2⟩ | h2 | h2
  ·exact .inl ⟨h1,Option.isSome_iff_exists.1 h2⟩
  ·exact .inr (.inl h2)
  ·exact .inr (.inr h2)
 cases loc with
 | cell a' =>
  obtain ⟨h1,_,h3⟩:=h
  simp only at h1; subst h1
  have e1:MemAct.ofEvent ⟨.cell a',wr,false⟩ = .access ⟨.cell a',wr,false⟩:=by cases wr <;> rfl
  rw [e1] at ht
  simp only [MemAct.touch?,Option.some.injEq] at ht
  subst ht
  refine ⟨a'.block,rfl,?_⟩
  rcases key _ h3 with x | x | x
  ·exact .inl x
  ·exact .inr (.inl x)
  ·exact .inr (.inr (.inl x))
 | obj b =>
  obtain ⟨h1,_,h3⟩:=h
  simp only at h1; subst h1
  have e1:MemAct.ofEvent ⟨.obj b,wr,false⟩ = .access ⟨.obj b,wr,false⟩:=by cases wr <;> rfl
  rw [e1] at ht
  simp only [MemAct.touch?,Option.some.injEq] at ht
  subst ht
  refine ⟨b,rfl,?_⟩
  rcases key _ h3 with x | x | x
  ·exact .inl x
  ·exact .inr (.inl x)
  ·exact .inr (.inr (.inl x))
 | mark mk =>
  cases mk <;> simp [gR] at h
  cases wr <;> cases sy <;> simp [MemAct.ofEvent,MemAct.touch?] at ht
 | _=>simp [gR] at h
theorem alq(h:gR R H n m e):(MemAct.ofEvent e).low m:=by
 obtain ⟨loc,wr,sy⟩:=e
 cases loc with
 | cell a' =>
  obtain ⟨h1,h2,_⟩:=h
  simp only at h1; subst h1
  cases wr <;> exact h2
 | obj b =>
  obtain ⟨h1,h2,_⟩:=h
  simp only at h1; subst h1
  cases wr <;> exact h2
 | mark mk =>
  cases mk <;> simp [gR] at h
  cases wr <;> cases sy <;> trivial
 | _=>simp [gR] at h
theorem aa3(h:gR R H n m e):∀ mk,MemAct.ofEvent e = .mark mk→Neutral mk:=by
 obtain ⟨loc,wr,sy⟩:=e
 intro mk hm
 cases loc with
 | cell a'=>obtain ⟨h1,_⟩:=h; simp only at h1; subst h1; cases wr <;> cases hm
 | obj b=>obtain ⟨h1,_⟩:=h; simp only at h1; subst h1; cases wr <;> cases hm
 | mark mk' =>
  cases mk' <;> simp [gR] at h
  cases wr <;> cases sy <;> (cases hm; rfl)
 | _=>simp [gR] at h
end
def only(x:Th):Nat→Option Th:=λ i=>if i=0 then some x else none
theorem NG(x y:Th):fN (only x) 0 (some y)=only y:=by funext i; unfold fN only; split <;> rfl
end Go.Lg
namespace Go.Lg
open Go.Conc Go.ConcN
def gb(f:Nat→Nat)(i x:Nat):Nat→Nat:=λ j=>if j=i then x else f j
theorem sE(f:Nat→Nat)(i x:Nat):gb f i x i=x:=by simp [gb]
theorem sD{f:Nat→Nat}{i j x:Nat}(h:j≠i):gb f i x j=f j:=by simp [gb,h]
theorem me(f:Nat→Nat)(i:Nat):gb f i (f i)=f:=by funext j; unfold gb; split <;> simp [*]
def nR(f:Nat→Bool)(i:Nat)(x:Bool):Nat→Bool:=λ j=>if j=i then x else f j
theorem On(f:Nat→Bool)(i:Nat)(x:Bool):nR f i x i=x:=by simp [nR]
theorem Xx{f:Nat→Bool}{i j:Nat}{x:Bool}(h:j≠i):nR f i x j=f j:=by simp [nR,h]
def yz(a:Option Addr)(t:Trace)(k:Nat):Prop:=∃ x p,a=some x∧t.act? p=some (.mark (.releaseMerge x))∧t.heard p∧Before t k p
theorem yz.app{a:Option Addr}{t:Trace}{k:Nat}(h:yz a t k)(u:Trace):yz a (t++u) k:=by
 obtain ⟨x,p,h1,h2,h3,h4⟩:=h
 have hp:=lt_of_act? h2
 exact ⟨x,p,h1,by rw [act?_old hp]; exact h2,(heard_old hp).2 h3,h4.app u⟩
structure cS (am aw:Option Addr) (th:Nat→Option Th) (mu:Nat→Bool) (dd:Nat→Nat) (sh:List Nat) (fr:Option Nat) (n:Nat) (t:Trace):Prop where
 own:∀ i x,th i=some x→∀ b o,(b,o)∈x.H→∀ k a,touchAt t k=some a→blk a.loc=some b→Kn t i k
 read:∀ i x,th i=some x→∀ b o,x.R b=some o→∀ k a,touchAt t k=some a→blk a.loc=some b→a.write=true→Kn t i k
 shr:∀ b,b∈sh→∀ k a,touchAt t k=some a→blk a.loc=some b→a.kind = .atomic∨(a.kind = .said∧Kn t 0 k)∨∀ i x,th i=some x→Kn t i k
 free:∀ b,fr=some b→∀ k a,touchAt t k=some a→blk a.loc=some b→(∀ i x,th i=some x→Kn t i k)∨yz am t k
 low:∀ op∈t,op.act.low n
 all:∀ k a,touchAt t k=some a→a.loc.isMemory=true→(a.kind ≠ .atomic∨t.heard k)→(∃ i x,th i=some x∧mu i=false∧Kn t i k)∨yz aw t k
 deaf:∀ i,Deaf t i=dd i
 norel:∀ a,NoRelease a t
 clean:∀ said,¬ Race said t
 qh:∀ k a,touchAt t k=some a→a.kind = .atomic→∀ b,blk a.loc=some b→(∀ i x,th i=some x→∀ o,(b,o) ∉ x.H)∧fr≠some b
def ahV(sh:List Nat)(i:Nat)(a:Touch):Prop:=∃ b,blk a.loc=some b∧b∈sh∧(a.kind = .atomic∨(a.kind = .said∧i=0))
section
variable {B:Base} {am aw:Option Addr} {th:Nat→Option Th} {mu:Nat→Bool} {dd:Nat→Nat} {sh:List Nat} {fr:Option Nat} {ch:an} {w:World} {n n' i:Nat} {R R':ax} {H H':an} {t u:Trace}
theorem WL(h:∀ a,NoRelease a t)(hr:∀ op∈u,∀ a,op.act ≠ .mark (.release a))(a:Addr):NoRelease a (t++u):=by
 intro k hk
 obtain ⟨op,ho,hoa⟩:=Option.map_eq_some_iff.1 hk
 rcases getElem?_append_cases ho with ⟨_,eR⟩ | ⟨_,hu⟩
 ·exact h a k (by rw [Trace.act?,eR]; simp [hoa])
 ·exact hr op hu a hoa
theorem aaj(h:∀ i,Deaf t i=dd i)(hu:∀ op∈u,op.g=i){d':Nat}(hd:Deaf (t++u) i=d')(j:Nat):Deaf (t++u) j=gb dd i d' j:=by
 by_cases hj:j=i
 ·subst hj; rw [sE,hd]
 ·rw [sD hj,Deaf_other (g':=i) t (Ne.symm hj) u hu,h j]
theorem cS.app(hM:fb B th ch w)(hn:w.heap.size=n)(bg:∀ b,b∈sh→∃ o,(b,o)∈ch)(ze:∀ b,fr=some b→(∃ o,(b,o)∈ch)∧b ∉ sh)
  (h:cS am aw th mu dd sh fr n t) (hi:th i=some ⟨R,H⟩) (hu:∀ op∈u,op.g=i)
  (ht:∀ op∈u,∀ a,op.act.touch? = some a→(YB [] R H n a∧a.kind ≠ .atomic)∨ahV sh i a) (hl:∀ op∈u,op.act.low n') (hr:∀ op∈u,∀ a,op.act ≠ .mark (.release a))
  {d':Nat} (hd:Deaf (t++u) i=d') (hc:mu i=false∨∀ k a,t.size≤k→touchAt (t++u) k=some a→¬ (a.kind ≠ .atomic∨(t++u).heard k)) (hnn:n≤n')
  (hR:∀ b o,R' b=some o→R b=some o∨(∃ o',(b,o')∈H)∨n≤b) (hH:∀ b o,(b,o)∈H'→(∃ o',(b,o')∈H)∨n≤b) :
  cS am aw (fN th i (some ⟨R',H'⟩)) mu (gb dd i d') sh fr n' (t++u):=by
 have BW {j:Nat} {y:Th} (hy:th j=some y):(∀ b o,y.R b=some o→b < n)∧(∀ b o,(b,o)∈y.H→b < n) :=
  ⟨λ b o x=>hn ▸ lb ((hM.fits j y hy).r b o x),λ b o x=>hn ▸ lb ((hM.fits j y hy).h b o x)⟩
 have Wf:∀ c o,(c,o)∈ch→c < n:=λ c o hc=>hn ▸ lb (hM.ny c o hc)
 have Nx:∀ k op,(t++u)[k]? = some op→op∈u→Kn (t++u) i k:=λ k op h1 h2=>by
  have:=knows_own h1; rwa [hu op h2] at this
 have FW:∀ {b j y},b∈sh→th j=some y→y.R b=none∧∀ o',(b,o') ∉ y.H:=λ {b j y} hb hy=>by
  obtain ⟨o,ho⟩:=bg b hb; exact hM.lU b o ho j y hy
 refine ⟨λ j y hy b o hb k a hk bH=>?_,λ j y hy b o hb k a hk bH ve=>?_,λ b hb k a hk bH=>?_,λ b hb k a hk bH=>?_,λ op au=>?_,λ k a hk hm eP=>?_,aaj h.deaf hu hd,WL h.norel hr,λ said=>?_,λ k a hk jM b bH=>?_⟩
 ·by_cases hj:j=i
  ·subst hj; rw [eY] at hy; cases hy
   rcases vF hk with ⟨_,dI⟩ | ⟨op,h1,h2,_⟩
   ·rcases hH b o hb with ⟨o',eR⟩ | ti
    ·exact (h.own j _ hi b o' eR k a dI bH).app u
    ·have:=Nb h.low dI bH; omega
   ·exact Nx k op h1 h2
  ·rw [eA hj] at hy
   rcases vF hk with ⟨_,dI⟩ | ⟨op,h1,h2,h3⟩
   ·exact (h.own j y hy b o hb k a dI bH).app u
   ·have lY:=hM.apart j i _ _ hj hy hi b o hb
    rcases ht op h2 a h3 with ⟨⟨b',fY,oV⟩,_⟩ | ⟨b',fY,hs,_⟩
    ·rw [bH] at fY; cases fY
     rcases oV with ⟨_,o',x⟩ | ⟨o',x⟩ | x | ⟨_,o',x⟩
     ·exact nn lY.1 x
     ·exact absurd x (lY.2 o')
     ·have:=(BW hy).2 b o hb; omega
     ·cases x
    ·rw [bH] at fY; cases fY
     exact absurd hb ((FW hs hy).2 o)
 ·by_cases hj:j=i
  ·subst hj; rw [eY] at hy; cases hy
   rcases vF hk with ⟨_,dI⟩ | ⟨op,h1,h2,_⟩
   ·rcases hR b o hb with x | ⟨o',x⟩ | x
    ·exact (h.read j _ hi b o x k a dI bH ve).app u
    ·exact (h.own j _ hi b o' x k a dI bH).app u
    ·have:=Nb h.low dI bH; omega
   ·exact Nx k op h1 h2
  ·rw [eA hj] at hy
   rcases vF hk with ⟨_,dI⟩ | ⟨op,h1,h2,h3⟩
   ·exact (h.read j y hy b o hb k a dI bH ve).app u
   ·rcases ht op h2 a h3 with ⟨⟨b',fY,oV⟩,_⟩ | ⟨b',fY,hs,_⟩
    ·rw [bH] at fY; cases fY
     rcases oV with ⟨x,_⟩ | ⟨o',x⟩ | x | ⟨_,o',x⟩
     ·rw [ve] at x; cases x
     ·exact nn (hM.apart i j _ _ (Ne.symm hj) hi hy b o' x).1 hb
     ·have:=(BW hy).1 b o hb; omega
     ·cases x
    ·rw [bH] at fY; cases fY
     exact nn (FW hs hy).1 hb
 ·rcases vF hk with ⟨_,dI⟩ | ⟨op,h1,h2,h3⟩
  ·refine (h.shr b hb k a dI bH).imp id (Or.imp (And.imp id (·.app u)) λ x j y hy=>?_)
   by_cases hj:j=i
   ·subst hj; exact (x j _ hi).app u
   ·rw [eA hj] at hy; exact (x j y hy).app u
  ·rcases ht op h2 a h3 with ⟨⟨b',fY,oV⟩,_⟩ | ⟨b',fY,hs,Mr⟩
   ·rw [bH] at fY; cases fY
    rcases oV with ⟨_,o',x⟩ | ⟨o',x⟩ | x | ⟨_,o',x⟩
    ·exact nn (FW hb hi).1 x
    ·exact absurd x ((FW hb hi).2 o')
    ·obtain ⟨o,ho⟩:=bg b hb; have:=Wf b o ho; omega
    ·cases x
   ·rcases Mr with x | ⟨x,rfl⟩
    ·exact .inl x
    ·exact .inr (.inl ⟨x,Nx k op h1 h2⟩)
 ·rcases vF hk with ⟨_,dI⟩ | ⟨op,h1,h2,h3⟩
  ·refine (h.free b hb k a dI bH).imp (λ x j y hy=>?_) (·.app u)
   by_cases hj:j=i
   ·subst hj; exact (x j _ hi).app u
   ·rw [eA hj] at hy; exact (x j y hy).app u
  ·obtain ⟨⟨o,ho⟩,hns⟩:=ze b hb
   rcases ht op h2 a h3 with ⟨⟨b',fY,oV⟩,_⟩ | ⟨b',fY,hs,_⟩
   ·rw [bH] at fY; cases fY
    rcases oV with ⟨_,o',x⟩ | ⟨o',x⟩ | x | ⟨_,o',x⟩
    ·exact nn (hM.lU b o ho i _ hi).1 x
    ·exact absurd x ((hM.lU b o ho i _ hi).2 o')
    ·have:=Wf b o ho; omega
    ·cases x
   ·rw [bH] at fY; cases fY
    exact absurd hs hns
 ·rcases Array.mem_append.1 au with x | x
  ·exact MemAct.low_mono hnn (h.low op x)
  ·exact hl op x
 ·rcases Nat.lt_or_ge k t.size with bE | ti
  ·have dI:touchAt t k=some a:=by rw [← touchAt_old (u:=u) bE]; exact hk
   refine (h.all k a dI hm (eP.imp id (heard_old bE).1)).imp (λ ⟨j,y,hy,df,jq⟩=>?_) (·.app u)
   by_cases hj:j=i
   ·subst hj; exact ⟨j,_,eY _ _ _,df,jq.app u⟩
   ·exact ⟨j,y,by rw [eA hj]; exact hy,df,jq.app u⟩
  ·rcases hc with df | hc
   ·obtain ⟨op,h1,_⟩:=touch_of hk
    rcases getElem?_append_cases h1 with ⟨bE,_⟩ | ⟨_,h2⟩
    ·omega
    ·exact .inl ⟨i,_,eY _ _ _,df,Nx k op h1 h2⟩
   ·exact absurd eP (hc k a ti hk)
 ·refine noRace_append (h.clean said) hu λ k a hk op au b hb oV=>?_
  obtain ⟨abZ,mB,ve,SV⟩:=oV
  rcases ht op au b hb with ⟨⟨bb,RY,pP⟩,_⟩ | ⟨bb,RY,hs,Mr⟩
  ·have bH:blk a.loc=some bb:=by rw [abZ]; exact RY
   rcases pP with ⟨x,o,ho⟩ | ⟨o,x⟩ | x | ⟨_,o,x⟩
   ·have uZ:a.write=true:=by
     rcases ve with y | y
     ·exact y
     ·rw [x] at y; cases y
    exact h.read i _ hi bb o ho k a hk bH uZ
   ·exact h.own i _ hi bb o x k a hk bH
   ·have:=Nb h.low hk bH; omega
   ·cases x
  ·have bH:blk a.loc=some bb:=by rw [abZ]; exact RY
   rcases h.shr bb hs k a hk bH with y | ⟨y,y'⟩ | y
   ·rcases SV with z | z | ⟨_,z,_⟩
    ·rw [y] at z; cases z
    ·rcases Mr with x | ⟨x,_⟩ <;> (rw [x] at z; cases z)
    ·rw [y] at z; cases z
   ·rcases Mr with x | ⟨x,rfl⟩
    ·rcases SV with z | z | ⟨_,_,z⟩
     ·rw [y] at z; cases z
     ·rw [x] at z; cases z
     ·rw [x] at z; cases z
    ·exact y'
   ·exact y i _ hi
 ·rcases vF hk with ⟨_,dI⟩ | ⟨op,h1,h2,h3⟩
  ·obtain ⟨z1,z2⟩:=h.qh k a dI jM b bH
   refine ⟨λ j y hy o ho=>?_,z2⟩
   by_cases hj:j=i
   ·subst hj; rw [eY] at hy; cases hy
    rcases hH b o ho with ⟨o',eR⟩ | ti
    ·exact z1 j _ hi o' eR
    ·have:=Nb h.low dI bH; omega
   ·rw [eA hj] at hy; exact z1 j y hy o ho
  ·rcases ht op h2 a h3 with ⟨_,hna⟩ | ⟨b',fY,hs,_⟩
   ·exact absurd jM hna
   ·rw [bH] at fY; cases fY
    refine ⟨λ j y hy o ho=>?_,λ e=>(ze b e).2 hs⟩
    by_cases hj:j=i
    ·subst hj; rw [eY] at hy; cases hy
     rcases hH b o ho with ⟨o',eR⟩ | ti
     ·exact (FW hs hi).2 o' eR
     ·obtain ⟨o2,ho2⟩:=bg b hs; have:=Wf b o2 ho2; omega
    ·rw [eA hj] at hy; exact (FW hs hy).2 o ho
theorem FZ(hu:∀ op∈u,op.act.touch? = none){k:Nat}{a:Touch}(h:touchAt (t++u) k=some a):touchAt t k=some a:=by
 rcases vF h with ⟨_,x⟩ | ⟨op,_,h2,h3⟩
 ·exact x
 ·rw [hu op h2] at h3; cases h3
theorem cS.mute(h:cS am aw th mu dd sh fr n t)(hu:∀ op∈u,op.g=i)(hm:∀ op∈u,op.act.touch? = none)(hl:∀ op∈u,op.act.low n)(hr:∀ op∈u,∀ a,op.act ≠ .mark (.release a)){d':Nat}(hd:Deaf (t++u) i=d') :
  cS am aw th mu (gb dd i d') sh fr n (t++u):=by
 have old:∀ {k a},touchAt (t++u) k=some a→k < t.size∧touchAt t k=some a:=λ {k a} hk=>by
  have:=FZ hm hk
  obtain ⟨x,hx,_⟩:=touch_of this
  exact ⟨lt_size_of_getElem? hx,this⟩
 exact ⟨λ j y hy b o hb k a hk bH=>(h.own j y hy b o hb k a (old hk).2 bH).app u,λ j y hy b o hb k a hk bH ve=>(h.read j y hy b o hb k a (old hk).2 bH ve).app u,
  λ b hb k a hk bH=>(h.shr b hb k a (old hk).2 bH).imp id (Or.imp (And.imp id (·.app u)) λ x j y hy=>(x j y hy).app u),
  λ b hb k a hk bH=>(h.free b hb k a (old hk).2 bH).imp (λ x j y hy=>(x j y hy).app u) (·.app u),
  λ op au=>(Array.mem_append.1 au).elim (h.low op) (hl op),
  λ k a hk HY eP=>(h.all k a (old hk).2 HY (eP.imp id (heard_old (old hk).1).1)).imp (λ ⟨j,y,hy,df,jq⟩=>⟨j,y,hy,df,jq.app u⟩) (·.app u),
  aaj h.deaf hu hd,WL h.norel hr,λ said=>adR (h.clean said) hm,λ k a hk=>h.qh k a (old hk).2⟩
theorem heard_new{y:MemOp}(h:∀ i,Deaf t i=dd i)(hd:dd y.g=0):(t++#[y]).heard t.size :=
 ⟨y.g,by simp [Trace.g?],by rw [deaf_old (Nat.le_refl _)]; exact (h y.g).trans hd⟩
theorem acD{a:Addr}{y:MemOp}{k:Nat}(hd:∀ i,Deaf t i=dd i)(h0:dd y.g=0)(hn:∀ a,NoRelease a (t++#[y]))(hy:y.act = .mark (.acquire a))(h:yz (some a) t k):Kn (t++#[y]) y.g k:=by
 obtain ⟨x,p,e,h1,h2,h3⟩:=h
 cases e
 have hp:=lt_of_act? h1
 have hq:(t++#[y])[t.size]? = some y:=by simp
 have ajL:HappensBefore (t++#[y]) p t.size:=.single (.inr ⟨.marked hp (.inr (by rw [act?_old hp]; exact h1)) (by rw [act?_of hq,hy]) (λ k _ _=>hn a k),(heard_old hp).2 h2,heard_new hd h0⟩)
 exact ⟨t.size,y,hq,rfl,.inr ((h3.app #[y]).hb ajL)⟩
theorem Zd{a:Addr}{y:MemOp}{k:Nat}(hd:∀ i,Deaf t i=dd i)(h0:dd y.g=0)(hy:y.act = .mark (.releaseMerge a))(h:Kn t y.g k):yz (some a) (t++#[y]) k:=by
 have hq:(t++#[y])[t.size]? = some y:=by simp
 exact ⟨a,t.size,rfl,by rw [act?_of hq,hy],heard_new hd h0,.inr (Go.Conc.Knows.hb_new h (Nat.le_refl _) hq rfl)⟩
theorem xD{y op:MemOp}(h:op∈#[y]):op=y:=by simpa using h
theorem Np{y:MemOp}{m:Mark}(hy:y.act = .mark m)(h1:∀ a,m ≠ .read a)(h2:∀ a,m ≠ .write a)(h3:∀ a,m ≠ .release a)(hl:(MemAct.mark m).low n) :
  (∀ op∈#[y],op.act.touch? = none)∧(∀ op∈#[y],op.act.low n)∧(∀ op∈#[y],∀ a,op.act ≠ .mark (.release a)):=by
 refine ⟨λ op au=>?_,λ op au=>?_,λ op au a=>?_⟩ <;> (rw [xD au,hy])
 ·cases m <;> first | rfl | exact absurd rfl (h1 _) | exact absurd rfl (h2 _)
 ·exact hl
 ·exact λ e=>h3 a (by cases e; rfl)
theorem LI{y:MemOp}{m:Mark}(h:∀ i,Deaf t i=dd i)(hy:y.act = .mark m)(h1:m ≠ .disable)(h2:m ≠ .enable):Deaf (t++#[y]) y.g=dd y.g:=by
 rw [Deaf_push]
 unfold deafStep
 rw [hy]
 cases m <;> first | exact h y.g | exact absurd rfl h1 | exact absurd rfl h2
theorem cS.acquire{a:Addr}{b:Nat}{o:Obj}{y:MemOp}(h:cS (some a) aw th mu dd sh (some b) n t)(hi:th i=some ⟨R,H⟩)(hg:y.g=i)(hy:y.act = .mark (.acquire a))(h0:dd i=0)(hl:(MemAct.mark (.acquire a)).low n) :
  cS (some a) aw (fN th i (some ⟨R,(b,o)::H⟩)) mu dd sh none n (t++#[y]):=by
 subst hg
 obtain ⟨m1,m2,m3⟩:=Np (n:=n) hy (by intro a e; cases e) (by intro a e; cases e) (by intro a e; cases e) hl
 have hb:=h.mute (i:=y.g) (λ op au=>by rw [xD au]) m1 m2 m3 (LI h.deaf hy (by intro e; cases e) (by intro e; cases e))
 rw [me] at hb
 have old:∀ {k a},touchAt (t++#[y]) k=some a→touchAt t k=some a:=λ {k a} hk=>FZ m1 hk
 refine ⟨λ j x hx c o' hc k a' hk bH=>?_,λ j x hx c o' hc k a' hk bH hw=>?_,λ c hc k a' hk bH=>?_,λ c hc=>(by cases hc),hb.low,λ k a' hk hm eP=>?_,hb.deaf,hb.norel,hb.clean,λ k a' hk jM c bH=>⟨λ j x hx o' hc=>?_,λ e=>by cases e⟩⟩
 rotate_right
 ·obtain ⟨z1,z2⟩:=hb.qh k a' hk jM c bH
  by_cases hj:j=y.g
  ·subst hj; rw [eY] at hx; cases hx
   rcases List.mem_cons.1 hc with e | hc
   ·cases e; exact z2 rfl
   ·exact z1 _ _ hi o' hc
  ·rw [eA hj] at hx; exact z1 j x hx o' hc
 ·by_cases hj:j=y.g
  ·subst hj; rw [eY] at hx; cases hx
   rcases List.mem_cons.1 hc with e | hc
   ·cases e
    rcases h.free _ rfl k a' (old hk) bH with x | x
    ·exact (x _ _ hi).app _
    ·exact acD h.deaf h0 hb.norel hy x
   ·exact hb.own _ _ hi c o' hc k a' hk bH
  ·rw [eA hj] at hx; exact hb.own j x hx c o' hc k a' hk bH
 ·by_cases hj:j=y.g
  ·subst hj; rw [eY] at hx; cases hx; exact hb.read _ _ hi c o' hc k a' hk bH hw
  ·rw [eA hj] at hx; exact hb.read j x hx c o' hc k a' hk bH hw
 ·refine (hb.shr c hc k a' hk bH).imp id (Or.imp id λ z j x hx=>?_)
  by_cases hj:j=y.g
  ·subst hj; exact z _ _ hi
  ·rw [eA hj] at hx; exact z j x hx
 ·refine (hb.all k a' hk hm eP).imp (λ ⟨j,x,hx,df,jq⟩=>?_) id
  by_cases hj:j=y.g
  ·subst hj; exact ⟨_,_,eY _ _ _,df,jq⟩
  ·exact ⟨j,x,by rw [eA hj]; exact hx,df,jq⟩
theorem cS.release{a:Addr}{b:Nat}{o:Obj}{y:MemOp}(h:cS (some a) aw th mu dd sh none n t)(hi:th i=some ⟨R,H⟩)(Bb:(b,o)∈H)(hH:∀ x∈H',x∈H)(hg:y.g=i)(hy:y.act = .mark (.releaseMerge a))(h0:dd i=0)(hl:(MemAct.mark (.releaseMerge a)).low n) :
  cS (some a) aw (fN th i (some ⟨R,H'⟩)) mu dd sh (some b) n (t++#[y]):=by
 subst hg
 obtain ⟨m1,m2,m3⟩:=Np (n:=n) hy (by intro a e; cases e) (by intro a e; cases e) (by intro a e; cases e) hl
 have hb:=h.mute (i:=y.g) (λ op au=>by rw [xD au]) m1 m2 m3 (LI h.deaf hy (by intro e; cases e) (by intro e; cases e))
 rw [me] at hb
 have old:∀ {k a},touchAt (t++#[y]) k=some a→touchAt t k=some a:=λ {k a} hk=>FZ m1 hk
 refine ⟨λ j x hx c o' hc k a' hk bH=>?_,λ j x hx c o' hc k a' hk bH hw=>?_,λ c hc k a' hk bH=>?_,λ c hc k a' hk bH=>?_,hb.low,λ k a' hk hm eP=>?_,hb.deaf,hb.norel,hb.clean,λ k a' hk jM c bH=>⟨λ j x hx o' hc=>?_,λ e=>?_⟩⟩
 rotate_right 2
 ·obtain ⟨z1,z2⟩:=hb.qh k a' hk jM c bH
  by_cases hj:j=y.g
  ·subst hj; rw [eY] at hx; cases hx
   exact z1 _ _ hi o' (hH _ hc)
  ·rw [eA hj] at hx; exact z1 j x hx o' hc
 ·cases e; exact (hb.qh k a' hk jM _ bH).1 _ _ hi _ Bb
 ·by_cases hj:j=y.g
  ·subst hj; rw [eY] at hx; cases hx
   exact hb.own _ _ hi c o' (hH _ hc) k a' hk bH
  ·rw [eA hj] at hx; exact hb.own j x hx c o' hc k a' hk bH
 ·by_cases hj:j=y.g
  ·subst hj; rw [eY] at hx; cases hx; exact hb.read _ _ hi c o' hc k a' hk bH hw
  ·rw [eA hj] at hx; exact hb.read j x hx c o' hc k a' hk bH hw
 ·refine (hb.shr c hc k a' hk bH).imp id (Or.imp id λ z j x hx=>?_)
  by_cases hj:j=y.g
  ·subst hj; exact z _ _ hi
  ·rw [eA hj] at hx; exact z j x hx
 ·cases hc
  exact .inr (Zd h.deaf h0 hy (h.own _ _ hi b o Bb k a' (old hk) bH))
 ·refine (hb.all k a' hk hm eP).imp (λ ⟨j,x,hx,df,jq⟩=>?_) id
  by_cases hj:j=y.g
  ·subst hj; exact ⟨_,_,eY _ _ _,df,jq⟩
  ·exact ⟨j,x,by rw [eA hj]; exact hx,df,jq⟩
theorem cS.aFL{a:Addr}{y:MemOp}(h:cS am (some a) th mu dd sh fr n t)(hg:y.g=i)(hy:y.act = .mark (.releaseMerge a))(h0:dd i=0)(hl:(MemAct.mark (.releaseMerge a)).low n) :
  cS am (some a) th (nR mu i true) dd sh fr n (t++#[y]):=by
 subst hg
 obtain ⟨m1,m2,m3⟩:=Np (n:=n) hy (by intro a e; cases e) (by intro a e; cases e) (by intro a e; cases e) hl
 have hb:=h.mute (i:=y.g) (λ op au=>by rw [xD au]) m1 m2 m3 (LI h.deaf hy (by intro e; cases e) (by intro e; cases e))
 rw [me] at hb
 have old:∀ {k a},touchAt (t++#[y]) k=some a→k < t.size∧touchAt t k=some a:=λ {k a} hk=>by
  have:=FZ m1 hk
  obtain ⟨x,hx,_⟩:=touch_of this
  exact ⟨lt_size_of_getElem? hx,this⟩
 refine ⟨hb.own,hb.read,hb.shr,hb.free,hb.low,λ k a' hk hm eP=>?_,hb.deaf,hb.norel,hb.clean,hb.qh⟩
 rcases h.all k a' (old hk).2 hm (eP.imp id (heard_old (old hk).1).1) with ⟨j,x,hx,df,jq⟩ | x
 ·by_cases hj:j=y.g
  ·subst hj; exact .inr (Zd h.deaf h0 hy jq)
  ·exact .inl ⟨j,x,hx,by rw [Xx hj]; exact df,jq.app _⟩
 ·exact .inr (x.app _)
theorem cS.die(h:cS am aw th mu dd sh fr n t)(hm:mu i=true):cS am aw (fN th i none) mu dd sh fr n t:=by
 have key:∀ j y,fN th i none j=some y→th j=some y:=λ j y hy=>by
  by_cases hj:j=i
  ·subst hj; rw [eY] at hy; cases hy
  ·rwa [eA hj] at hy
 refine ⟨λ j y hy=>h.own j y (key j y hy),λ j y hy=>h.read j y (key j y hy),λ b hb k a hk bH=>(h.shr b hb k a hk bH).imp id (Or.imp id λ z j y hy=>z j y (key j y hy)),λ b hb k a hk bH=>(h.free b hb k a hk bH).imp (λ z j y hy=>z j y (key j y hy)) id,h.low,λ k a hk HY eP=>?_,h.deaf,h.norel,h.clean,λ k a hk jM b bH=>(h.qh k a hk jM b bH).imp (λ z j y hy=>z j y (key j y hy)) id⟩
 refine (h.all k a hk HY eP).imp (λ ⟨j,y,hy,df,jq⟩=>⟨j,y,?_,df,jq⟩) id
 by_cases hj:j=i
 ·subst hj; rw [hm] at df; cases df
 ·rw [eA hj]; exact hy
theorem cS.spawn{c:Nat}{x y:MemOp}(h:cS am aw th mu dd sh fr n t)(hi:th 0=some ⟨R,H⟩)(hR:aS R' R)(hc:th c=none)(hx:x.g=0∧x.act = .go c)(hy:y.g=c∧y.act = .start)(h0:dd 0=0)(hdc:dd c=0)(eH:c≠0)(hmc:mu c=false) :
  cS am aw (fN th c (some ⟨R',[]⟩)) mu dd sh fr n (t++#[x,y]):=by
 have HZ:∀ op∈#[x,y],op=x∨op=y:=by intro op au; simpa using au
 have m1:∀ op∈#[x,y],op.act.touch? = none:=λ op au=>by
  rcases HZ op au with rfl | rfl
  ·rw [hx.2]; rfl
  ·rw [hy.2]; rfl
 have old:∀ {k a},touchAt (t++#[x,y]) k=some a→k < t.size∧touchAt t k=some a:=λ {k a} hk=>by
  have:=FZ m1 hk
  obtain ⟨x,hx,_⟩:=touch_of this
  exact ⟨lt_size_of_getElem? hx,this⟩
 have kn:∀ {k},Kn t 0 k→Kn (t++#[x,y]) c k:=λ hk=>fork_knows hx hy ((h.deaf 0).trans h0) ((h.deaf c).trans hdc) hk
 refine ⟨λ j z hz b o hb k a hk bH=>?_,λ j z hz b o hb k a hk bH hw=>?_,λ b hb k a hk bH=>?_,λ b hb k a hk bH=>?_,λ op au=>?_,λ k a hk hm eP=>?_,λ j=>?_,WL h.norel λ op au a=>?_,λ said=>adR (h.clean said) m1,λ k a hk jM b bH=>(h.qh k a (old hk).2 jM b bH).imp (λ z j y' rR o ho=>?_) id⟩
 ·by_cases hj:j=c
  ·subst hj; rw [eY] at hz; cases hz; cases hb
  ·rw [eA hj] at hz; exact (h.own j z hz b o hb k a (old hk).2 bH).app _
 ·by_cases hj:j=c
  ·subst hj; rw [eY] at hz; cases hz
   exact kn (h.read 0 _ hi b o (hR b o hb) k a (old hk).2 bH hw)
  ·rw [eA hj] at hz; exact (h.read j z hz b o hb k a (old hk).2 bH hw).app _
 ·refine (h.shr b hb k a (old hk).2 bH).imp id (Or.imp (And.imp id (·.app _)) λ z j y' rR=>?_)
  by_cases hj:j=c
  ·subst hj; exact kn (z 0 _ hi)
  ·rw [eA hj] at rR; exact (z j y' rR).app _
 ·refine (h.free b hb k a (old hk).2 bH).imp (λ z j y' rR=>?_) (·.app _)
  by_cases hj:j=c
  ·subst hj; exact kn (z 0 _ hi)
  ·rw [eA hj] at rR; exact (z j y' rR).app _
 ·rcases Array.mem_append.1 au with z | z
  ·exact h.low op z
  ·rcases HZ op z with rfl | rfl
   ·rw [hx.2]; trivial
   ·rw [hy.2]; trivial
 ·refine (h.all k a (old hk).2 hm (eP.imp id (heard_old (old hk).1).1)).imp (λ ⟨j,z,hz,df,jq⟩=>⟨j,z,?_,df,jq.app _⟩) (·.app _)
  rw [eA (λ e=>by subst e; rw [hc] at hz; cases hz)]; exact hz
 ·have e:t++#[x,y]=(t++#[x])++#[y]:=by apply Array.ext'; simp
  rw [e,Deaf_push,Deaf_push]
  unfold deafStep
  rw [hx.2,hy.2]
  exact h.deaf j
 ·rcases HZ op au with rfl | rfl
  ·rw [hx.2]; intro e; cases e
  ·rw [hy.2]; intro e; cases e
 ·by_cases hj:j=c
  ·subst hj; rw [eY] at rR; cases rR; cases ho
  ·rw [eA hj] at rR; exact z j y' rR o ho
end
section
variable {B:Base} {am aw:Option Addr} {mu:Nat→Bool} {dd:Nat→Nat} {sh:List Nat} {n:Nat} {R:ax} {H H':an} {t:Trace}
theorem cS.share{bs:List Nat}{b:Nat}(h:cS none none (only ⟨R,H⟩) mu dd [] none n t)(hs:∀ c∈b::bs,∃ o,(c,o)∈H)(hH:∀ x∈H',x∈H)(am aw:Option Addr):cS am aw (only ⟨R,H'⟩) mu dd bs (some b) n t:=by
 have o0:∀ {i x H1},only ⟨R,H1⟩ i=some x→i=0∧x=⟨R,H1⟩:=λ {i x H1} hx=>by
  unfold only at hx; split at hx
  ·cases hx; exact ⟨‹_›,rfl⟩
  ·cases hx
 refine ⟨λ i x hx c o hc k a hk bH=>?_,λ i x hx c o hc k a hk bH hw=>?_,λ c hc k a hk bH=>?_,λ c hc k a hk bH=>?_,h.low,λ k a hk hm eP=>?_,h.deaf,h.norel,h.clean,λ k a hk jM c bH=>⟨λ i x hx o ho=>?_,λ e=>?_⟩⟩
 ·obtain ⟨rfl,rfl⟩:=o0 hx; exact h.own 0 _ rfl c o (hH _ hc) k a hk bH
 ·obtain ⟨rfl,rfl⟩:=o0 hx; exact h.read 0 _ rfl c o hc k a hk bH hw
 ·obtain ⟨o,ho⟩:=hs c (List.mem_cons_of_mem _ hc)
  refine .inr (.inr λ i x hx=>?_)
  obtain ⟨rfl,rfl⟩:=o0 hx; exact h.own 0 _ rfl c o ho k a hk bH
 ·cases hc
  obtain ⟨o,ho⟩:=hs b (by simp)
  refine .inl λ i x hx=>?_
  obtain ⟨rfl,rfl⟩:=o0 hx; exact h.own 0 _ rfl b o ho k a hk bH
 ·rcases h.all k a hk hm eP with ⟨i,x,hx,df,jq⟩ | ⟨x,p,e,_⟩
  ·obtain ⟨rfl,rfl⟩:=o0 hx; exact .inl ⟨0,_,rfl,df,jq⟩
  ·cases e
 ·obtain ⟨rfl,rfl⟩:=o0 hx; exact (h.qh k a hk jM c bH).1 0 _ rfl o (hH _ ho)
 ·cases e
  obtain ⟨o,ho⟩:=hs b (by simp)
  exact (h.qh k a hk jM b bH).1 0 _ rfl o ho
theorem cS.aFw{a:Addr}{b:Nat}{o:Obj}{y:MemOp}(h:cS am (some a) (only ⟨R,H⟩) mu dd sh (some b) n t)(_:b < n)(hg:y.g=0)(hy:y.act = .mark (.acquire a))(h0:dd 0=0)(_:mu 0=false)(hl:(MemAct.mark (.acquire a)).low n) :
  cS none none (only ⟨R,(b,o)::H⟩) (λ _=>false) dd [] none n (t++#[y]):=by
 have o0:∀ {i x H1},only ⟨R,H1⟩ i=some x→i=0∧x=⟨R,H1⟩:=λ {i x H1} hx=>by
  unfold only at hx; split at hx
  ·cases hx; exact ⟨‹_›,rfl⟩
  ·cases hx
 obtain ⟨m1,m2,m3⟩:=Np (n:=n) hy (by intro a e; cases e) (by intro a e; cases e) (by intro a e; cases e) hl
 have hB:=h.mute (i:=y.g) (λ op au=>by rw [xD au]) m1 m2 m3 (LI h.deaf hy (by intro e; cases e) (by intro e; cases e))
 rw [me] at hB
 have old:∀ {k a},touchAt (t++#[y]) k=some a→k < t.size∧touchAt t k=some a:=λ {k a} hk=>by
  have:=FZ m1 hk
  obtain ⟨x,hx,_⟩:=touch_of this
  exact ⟨lt_size_of_getElem? hx,this⟩
 have acq:∀ {k},yz (some a) t k→Kn (t++#[y]) 0 k:=λ {k} hk=>by
  have:=acD h.deaf (by rw [hg]; exact h0) hB.norel hy hk
  rwa [hg] at this
 have acC:∀ k x,touchAt (t++#[y]) k=some x→x.loc.isMemory=true→(x.kind ≠ .atomic∨(t++#[y]).heard k)→Kn (t++#[y]) 0 k:=λ k x hk hm eP=>by
  rcases h.all k x (old hk).2 hm (eP.imp id (heard_old (old hk).1).1) with ⟨i,z,hz,_,jq⟩ | z
  ·obtain ⟨rfl,rfl⟩:=o0 hz; exact jq.app _
  ·exact acq z
 refine ⟨λ i x hx c o' hc k a' hk bH=>?_,λ i x hx c o' hc k a' hk bH hw=>?_,λ c hc=>(by cases hc),λ c hc=>(by cases hc),hB.low,λ k a' hk hm eP=>.inl ⟨0,_,rfl,rfl,acC k a' hk hm eP⟩,hB.deaf,hB.norel,hB.clean,λ k a' hk jM c bH=>⟨λ i x hx o' hc=>?_,λ e=>by cases e⟩⟩
 ·obtain ⟨rfl,rfl⟩:=o0 hx
  rcases List.mem_cons.1 hc with e | hc
  ·cases e
   refine acC k a' hk ?_ (.inl λ e=>(h.qh k a' (old hk).2 e _ bH).2 rfl)
   obtain ⟨loc,wr,kd⟩:=a'
   cases loc <;> first | rfl | cases bH
  ·exact hB.own 0 _ rfl c o' hc k a' hk bH
 ·obtain ⟨rfl,rfl⟩:=o0 hx; exact hB.read 0 _ rfl c o' hc k a' hk bH hw
 ·obtain ⟨rfl,rfl⟩:=o0 hx
  rcases List.mem_cons.1 hc with e | hc
  ·cases e; exact (hB.qh k a' hk jM _ bH).2 rfl
  ·exact (hB.qh k a' hk jM c bH).1 0 _ rfl o' hc
theorem cS.handed(h:cS none none (only ⟨R,H⟩) mu dd [] none n t):t.HandedOver:=by
 intro i x hx eH ⟨a,ha,hm,eP⟩
 rcases h.all i a ha hm eP with ⟨j,y,hy,_,hk⟩ | ⟨_,_,e,_⟩
 ·have hj:j=0:=by
   unfold only at hy
   split at hy
   ·assumption
   ·cases hy
  subst hj
  obtain ⟨q,z,h1,h2,h3⟩:=hk
  refine ⟨q,by simp [Trace.g?,h1,h2],?_⟩
  rcases h3 with rfl | h3
  ·rw [show t.g? i=some z.g by simp [Trace.g?,h1],h2] at hx
   exact absurd (Option.some.inj hx).symm eH
  ·exact h3
 ·cases e
end
end Go.Lg
namespace Go.Lg
open Go.Conc Go.ConcN
section
variable {R:ax} {H:an} {n m:Nat} {e:Event}
theorem alp{a:Touch}(h:gR R H n m e)(ht:(MemAct.ofEvent e).touch? = some a):a.kind ≠ .atomic:=by
 obtain ⟨loc,wr,sy⟩:=e
 cases loc with
 | cell a' =>
  obtain ⟨h1,_⟩:=h
  simp only at h1; subst h1
  have e1:MemAct.ofEvent ⟨.cell a',wr,false⟩ = .access ⟨.cell a',wr,false⟩:=by cases wr <;> rfl
  rw [e1] at ht
  simp only [MemAct.touch?,Option.some.injEq] at ht
  subst ht; simp
 | obj b =>
  obtain ⟨h1,_⟩:=h
  simp only at h1; subst h1
  have e1:MemAct.ofEvent ⟨.obj b,wr,false⟩ = .access ⟨.obj b,wr,false⟩:=by cases wr <;> rfl
  rw [e1] at ht
  simp only [MemAct.touch?,Option.some.injEq] at ht
  subst ht; simp
 | mark mk =>
  cases mk <;> simp [gR] at h
  cases wr <;> cases sy <;> simp [MemAct.ofEvent,MemAct.touch?] at ht
 | _=>simp [gR] at h
theorem ajC{g d:Nat}{u:List MemOp}(h:∀ op∈u,∀ mk,op.act = .mark mk→Neutral mk):u.foldl (deafStep g) d=d:=by
 induction u generalizing d with
 | nil=>rfl
 | cons y u ih =>
  have e:deafStep g d y=d:=by
   unfold deafStep
   split
   ·rename_i h'; exact absurd rfl ((h y (by simp) _ h').ne_disable)
   ·rename_i h'; exact absurd rfl ((h y (by simp) _ h').ne_enable)
   ·rfl
  rw [List.foldl_cons,e]
  exact ih λ op au=>h op (List.mem_cons_of_mem _ au)
theorem ajB{i:Nat}{t:Trace}{es:Array Event}{fn:FuncId}{pos:String}(h:∀ e∈es,gR R H n m e):Deaf (t++MemOp.ofEvents i fn pos es) i=Deaf t i:=by
 have e:MemOp.ofEvents i fn pos es=(MemOp.ofEvents i fn pos es).toList.toArray:=by simp
 rw [e,Deaf_append]
 refine ajC λ op au mk hm=>?_
 obtain ⟨e,he,rfl⟩:=zL (by simpa using au)
 exact aa3 (h e he) mk hm
theorem alr(h:gR R H n m e)(a:Addr):MemAct.ofEvent e ≠ .mark (.release a):=by
 intro hm
 have:=aa3 h _ hm
 cases this
end
section
variable {B:Base} {am aw:Option Addr} {th:Nat→Option Th} {mu:Nat→Bool} {dd:Nat→Nat} {sh:List Nat} {fr:Option Nat} {ch:an} {w w':World} {i:Nat} {R R':ax} {H H':an} {t:Trace}
theorem JW(hM:fb B th ch w)(bg:∀ b,b∈sh→∃ o,(b,o)∈ch)(ze:∀ b,fr=some b→(∃ o,(b,o)∈ch)∧b ∉ sh)(h:cS am aw th mu dd sh fr w.heap.size t)(hi:th i=some ⟨R,H⟩)(_:mu i=false∨w'=w)
  {es:Array Event} (nF:∀ e∈es,gR R H w.heap.size w'.heap.size e) (hem:mu i=false∨es=#[]) (hu:fF B R H w R' H' w') (fn:FuncId) (pos:String) :
  fb B (fN th i (some ⟨R',H'⟩)) ch w'∧cS am aw (fN th i (some ⟨R',H'⟩)) mu dd sh fr w'.heap.size (t++MemOp.ofEvents i fn pos es):=by
 refine ⟨hM.upd hi hu,?_⟩
 have:=cS.app (u:=MemOp.ofEvents i fn pos es) (n':=w'.heap.size) (R':=R') (H':=H') hM rfl bg ze h hi (λ op au=>by obtain ⟨e,_,rfl⟩:=zL au; rfl)
  (λ op au a ha=>by obtain ⟨e,he,rfl⟩:=zL au; exact .inl ⟨als (nF e he) ha,alp (nF e he) ha⟩) (λ op au=>by obtain ⟨e,he,rfl⟩:=zL au; exact alq (nF e he))
  (λ op au a=>by obtain ⟨e,he,rfl⟩:=zL au; exact alr (nF e he) a) (ajB nF) ?_ hu.size hu.Fs hu.xB
 ·rwa [h.deaf i,me] at this
 ·refine hem.imp id λ e=>?_
  subst e
  intro k a hk HV
  rw [ofEvents_none,Array.append_empty] at HV
  obtain ⟨x,hx,_⟩:=touch_of HV
  have:=lt_size_of_getElem? hx
  omega
theorem abE(hM:fb B th ch w)(bg:∀ b,b∈sh→∃ o,(b,o)∈ch)(ze:∀ b,fr=some b→(∃ o,(b,o)∈ch)∧b ∉ sh)(h:cS am aw th mu dd sh fr w.heap.size t)(hi:th i=some ⟨R,H⟩)(hu:fF B R H w R' H' w) :
  fb B (fN th i (some ⟨R',H'⟩)) ch w∧cS am aw (fN th i (some ⟨R',H'⟩)) mu dd sh fr w.heap.size t:=by
 have:=JW (w':=w) (es:=#[]) hM bg ze h hi (.inr rfl) (by simp) (.inr rfl) hu 0 ""
 rw [ofEvents_none,Array.append_empty] at this
 exact this
end
theorem aBA{i:Nat}{fn:FuncId}{pos:String}{es:Array Event}(h:∀ e∈es,Event.mute e=true){n:Nat} :
  (∀ op∈MemOp.ofEvents i fn pos es,op.g=i)∧(∀ op∈MemOp.ofEvents i fn pos es,op.act.touch? = none)∧(∀ op∈MemOp.ofEvents i fn pos es,op.act.low n)∧∀ op∈MemOp.ofEvents i fn pos es,∀ a,op.act ≠ .mark (.release a):=by
 have key:∀ e:Event,e.mute=true→MemAct.ofEvent e = .mark .disable∨MemAct.ofEvent e = .mark .enable:=by
  intro e he
  obtain ⟨loc,wr,sy⟩:=e
  cases loc with
  | mark m=>cases m <;> simp [Event.mute] at he <;> cases wr <;> cases sy <;> simp [MemAct.ofEvent]
  | _=>simp [Event.mute] at he
 have k2:∀ op∈MemOp.ofEvents i fn pos es,op.g=i∧(op.act = .mark .disable∨op.act = .mark .enable):=λ op au=>by
  obtain ⟨e,he,rfl⟩:=zL au; exact ⟨rfl,key e (h e he)⟩
 refine ⟨λ op au=>(k2 op au).1,λ op au=>?_,λ op au=>?_,λ op au a=>?_⟩ <;> rcases (k2 op au).2 with e | e <;> rw [e]
 ·rfl
 ·rfl
 ·trivial
 ·trivial
 ·intro x; cases x
 ·intro x; cases x
theorem cS.leaves{am aw:Option Addr}{th:Nat→Option Th}{mu:Nat→Bool}{dd:Nat→Nat}{sh:List Nat}{fr:Option Nat}{n i:Nat}{t:Trace}{es:Array Event}{fn:FuncId}{pos:String}(h:cS am aw th mu dd sh fr n t)(nF:∀ e∈es,Event.mute e=true) :
  cS am aw th mu (gb dd i (deafBehind (dd i) es)) sh fr n (t++MemOp.ofEvents i fn pos es):=by
 obtain ⟨h1,h2,h3,h4⟩:=aBA (i:=i) (fn:=fn) (pos:=pos) nF (n:=n)
 exact h.mute h1 h2 h3 h4 (by rw [Deaf_own,h.deaf i])
structure v9 (P:Program) (B:Base) (R:ax) (H:an) (gs:Array Goroutine) (w:World) (t:Trace) (q dd:Nat→Nat):Prop where
 mem:fb B (only ⟨R,H⟩) [] w
 tr:cS none none (only ⟨R,H⟩) (λ _=>false) dd [] none w.heap.size t
 d0:dd 0=0
 dz:∀ i,gs.size≤i→dd i=0
 lv:∀ i g,0 < i→gs[i]? = some g→QuitsD P (q i) (dd i) g
section
variable (P:Program) (B:Base) (Post:Value→World→Prop)
def iB(R:ax)(H:an)(g:Goroutine):Prop:=∀ gs w sl t q dd,gs[0]? = some g→v9 P B R H gs w t q dd→kW P Post (crowd gs w sl) t
end
section
variable {P:Program} {B:Base} {Post:Value→World→Prop} {R:ax} {H:an} {g:Goroutine}
theorem v9.fits{gs:Array Goroutine}{w:World}{t:Trace}{q dd:Nat→Nat}(h:v9 P B R H gs w t q dd):Fits B R H w:=h.mem.fits 0 ⟨R,H⟩ rfl
theorem v9.at{gs:Array Goroutine}{w:World}{t:Trace}{q dd:Nat→Nat}(h:v9 P B R H gs w t q dd)(d:Nat):v9 P B R H gs (w.at d) t q dd:=⟨h.mem.at d,h.tr,h.d0,h.dz,h.lv⟩
theorem iB.pick(hs:g.status = .running)
  (h:∀ gs w sl p7 d t q dd,gs[0]? = some g→v9 P B R H gs (w.at d) t q dd→stepT P (crowd gs w sl)=runT P (crowd gs (w.at d) p7) 0→kW P Post (crowd gs w sl) t):iB P B Post R H g:=by
 have key:∀ M gs w sl t q dd,c8 gs.size q≤M→gs[0]? = some g→v9 P B R H gs w t q dd→kW P Post (crowd gs w sl) t:=by
  intro M
  induction M with
  | zero =>
   intro gs w sl t q dd hM h0 hA
   have uZ:∀ x∈gs,awake x:=by
    intro x hx
    obtain ⟨i,hi,rfl⟩:=Array.mem_iff_getElem.1 hx
    rcases Nat.eq_zero_or_pos i with rfl | iR
    ·have:gs[0]=g:=by simpa [Array.getElem?_eq_getElem hi] using h0
     rw [this]; exact awake_of (.inl hs)
    ·exact awake_of ((hA.lv i _ iR (Array.getElem?_eq_getElem hi)).status.elim .inl λ x=>.inr (.inr x))
   obtain ⟨i,x,d,p7,hi,hx,cL⟩:=crowd_pick (P:=P) (w:=w) (sl:=sl) uZ ⟨0,g,h0,hs⟩
   rcases Nat.eq_zero_or_pos i with rfl | iR
   ·exact h gs w sl p7 d t q dd h0 (hA.at d) cL
   ·have hq:=hA.lv i x iR hi
    have bE:i < gs.size:=(Array.getElem?_eq_some_iff.1 hi).1
    have hq0:q i=0:=by
     have h2:∀ (j:Nat),i < j→q i≤c8 j q:=by
      intro j hj
      induction j with
      | zero=>omega
      | succ j ih =>
       rcases Nat.lt_or_ge i j with bE | ti
       ·have:=ih bE; simp only [c8]; omega
       ·obtain rfl:i=j:=by omega
        simp only [c8]; omega
     have:=h2 gs.size bE
     omega
    rw [hq0] at hq
    rw [show x.status = .finished from hq.1] at hx; cases hx
  | succ M ih =>
   intro gs w sl t q dd hM h0 hA
   have uZ:∀ x∈gs,awake x:=by
    intro x hx
    obtain ⟨i,hi,rfl⟩:=Array.mem_iff_getElem.1 hx
    rcases Nat.eq_zero_or_pos i with rfl | iR
    ·have:gs[0]=g:=by simpa [Array.getElem?_eq_getElem hi] using h0
     rw [this]; exact awake_of (.inl hs)
    ·exact awake_of ((hA.lv i _ iR (Array.getElem?_eq_getElem hi)).status.elim .inl λ x=>.inr (.inr x))
   obtain ⟨i,x,d,p7,hi,hx,cL⟩:=crowd_pick (P:=P) (w:=w) (sl:=sl) uZ ⟨0,g,h0,hs⟩
   rcases Nat.eq_zero_or_pos i with rfl | iR
   ·exact h gs w sl p7 d t q dd h0 (hA.at d) cL
   ·have hq:=hA.lv i x iR hi
    have wR:(i == 0)=false:=by simp; omega
    have bE:i < gs.size:=(Array.getElem?_eq_some_iff.1 hi).1
    cases S4:q i with
    | zero=>rw [S4] at hq; rw [show x.status = .finished from hq.1] at hx; cases hx
    | succ k =>
     rw [S4] at hq
     rcases hq with hf | ⟨_,x',es,nF,ath,hq'⟩
     ·rw [hf.1] at hx; cases hx
     have H5:=runT_crowd_go (P:=P) (sl:=p7) (i:=i) hi (by rw [wR]; exact ath (w.at d))
     refine kW.step (cL.trans H5) ?_
     have fC:((gs.map (woken P x x' (w.at d))).setIfInBounds i x').size=gs.size:=by simp
     have ati:=CW (f:=q) (g:=λ j=>if j=i then k else q j) bE (λ j hj=>by simp [hj])
     simp only [if_true,S4] at ati
     refine ih _ _ _ _ (λ j=>if j=i then k else q j) (gb dd i (deafBehind (dd i) es)) (by rw [fC]; omega) ?_ ⟨(hA.at d).mem,hA.tr.leaves nF,?_,λ j hj=>?_,λ j y hj hy=>?_⟩
     ·have eH:i≠0:=by omega
      rw [Array.getElem?_setIfInBounds_ne eH,Array.getElem?_map,h0]
      simp [woken_run hs]
     ·rw [sD (by omega)]; exact hA.d0
     ·rw [fC] at hj; rw [sD (by omega)]; exact hA.dz j hj
     ·by_cases gj:i=j
      ·subst gj
       rw [Array.getElem?_setIfInBounds_self_of_lt (by simpa using bE)] at hy
       obtain rfl:=Option.some.inj hy
       simpa [sE] using hq'
      ·rw [Array.getElem?_setIfInBounds_ne gj,Array.getElem?_map] at hy
       obtain ⟨z,hz,rfl⟩:=Option.map_eq_some_iff.1 hy
       have hqj:=hA.lv j z hj hz
       rw [woken_quitsD hqj,sD (Ne.symm gj)]
       simpa [Ne.symm gj] using hqj
 exact λ gs w sl t q dd h0 hA=>key _ gs w sl t q dd (Nat.le_refl _) h0 hA
theorem WK{ch:an}:∀ b,b∈([]:List Nat)→∃ o:Obj,(b,o)∈ch:=λ _ h=>by cases h
theorem WI{ch:an}:∀ b,(none:Option Nat)=some b→(∃ o:Obj,(b,o)∈ch)∧b ∉ ([]:List Nat):=λ _ h=>by cases h
theorem iB.step(hs:g.status = .running)(h:∀ w,Fits B R H w→∃ g' w' es R' H',stepG P true g w = .go g' w' es∧(∀ e∈es,gR R H w.heap.size w'.heap.size e)∧fF B R H w R' H' w'∧iB P B Post R' H' g'):iB P B Post R H g:=by
 refine iB.pick hs λ gs w sl p7 d t q dd h0 hA cL=>?_
 obtain ⟨g',w',es,R',H',h1,h2,h3,h4⟩:=h _ hA.fits
 have H5:=runT_crowd_go (P:=P) (sl:=p7) (i:=0) h0 (show stepG P (0 == 0) g (w.at d)=_ from h1)
 refine kW.step (cL.trans H5) ?_
 have bE:0 < gs.size:=(Array.getElem?_eq_some_iff.1 h0).1
 have cL:=JW hA.mem WK WI hA.tr (i:=0) rfl (.inl rfl) h2 (.inl rfl) h3 g.frame.fn g.frame.place
 rw [NG] at cL
 refine h4 _ _ _ _ q dd (by simp [bE]) ⟨cL.1,cL.2,hA.d0,λ i hi=>hA.dz i (by simpa using hi),λ j x hj hx=>?_⟩
 have eH:0≠j:=by omega
 rw [Array.getElem?_setIfInBounds_ne eH,Array.getElem?_map] at hx
 obtain ⟨y,hy,rfl⟩:=Option.map_eq_some_iff.1 hx
 have hq:=hA.lv j y hj hy
 rw [woken_quitsD hq]
 exact hq
theorem iB.ghost{R':ax}{H':an}(hg:∀ w,Fits B R H w→fF B R H w R' H' w)(h:iB P B Post R' H' g):iB P B Post R H g:=by
 intro gs w sl t q dd h0 hA
 have cL:=abE hA.mem WK WI hA.tr (i:=0) rfl (hg w hA.fits)
 rw [NG] at cL
 exact h gs w sl t q dd h0 ⟨cL.1,cL.2,hA.d0,hA.dz,hA.lv⟩
def Cy(P:Program)(B:Base)(Post:Value→World→Prop):Jd P B true:=⟨iB P B Post,iB.step,iB.ghost⟩
end
end Go.Lg
