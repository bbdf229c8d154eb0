/- Traces; goroutine 0 beside those that leave. Conditions: none. -/
import Derived.Test.YtihapemckcdicaaGreatDoorQXLgA
import Derived.Conc.CrowdTrace
import Derived.Conc.JoinTrace
import Derived.Conc.QuitsD
namespace Go.Lg
open Go.Conc
inductive Tree:Type 1
 | node (ι:Type) (f:ι→Tree):Tree
inductive J0:Tree→Tree→Prop
 | mk {ι:Type} (f:ι→Tree) (i:ι):J0 (f i) (.node ι f)
theorem J0.acc(t:Tree):Acc J0 t:=by
 induction t with
 | node ι f ih=>exact ⟨_,λ y h=>by cases h; exact ih _⟩
abbrev Ms:=Option Tree
inductive qd:Ms→Ms→Prop
 | some {a b:Tree}:J0 a b→qd (some a) (some b)
 | none {b:Tree}:qd none (some b)
theorem qd.adr:Acc qd (Option.none:Ms):=⟨_,λ y h=>by cases h⟩
theorem qd.acc(m:Ms):Acc qd m:=by
 cases m with
 | none=>exact qd.adr
 | some t =>
  have:=J0.acc t
  induction this with
  | intro t _ ih =>
   refine ⟨_,λ y h=>?_⟩
   cases h with
   | some h=>exact ih _ h
   | none=>exact qd.adr
inductive One {α:Type 1} (r:α→α→Prop):List α→List α→Prop
 | head {a b:α} {l:List α}:r a b→One r (a::l) (b::l)
 | tail {a:α} {l l':List α}:One r l l'→One r (a::l) (a::l')
theorem One.acc{α:Type 1}{r:α→α→Prop}(h:∀ a,Acc r a):∀ l:List α,Acc (One r) l
 | []=>⟨_,λ y h=>by cases h⟩
 | b::l=>by
  have hb:=h b
  have hl:=One.acc h l
  induction hb generalizing l with
  | intro b _ ihb =>
   induction hl with
   | intro l hl' ihl =>
    refine ⟨_,λ y hy=>?_⟩
    cases hy with
    | head hr=>exact ihb _ hr _ ⟨_,hl'⟩
    | tail ho=>exact ihl _ ho
theorem One.wf:WellFounded (One qd):=⟨One.acc qd.acc⟩
theorem One.set{α:Type 1}{r:α→α→Prop}:∀ {l:List α} {i:Nat} {a b:α},l[i]? = some b→r a b→One r (l.set i a) l
 | [],_,_,_,h,_=>by cases h
 | x::l,0,a,b,h,hr=>by cases h; exact .head hr
 | x::l,i+1,a,b,h,hr=>.tail (One.set (by simpa using h) hr)
def s6:Nat→Tree
 | 0=>.node Empty Empty.elim
 | n+1=>.node Unit λ _=>s6 n
theorem aiS(n:Nat):qd (some (s6 n)) (some (s6 (n+1))):=.some (.mk (λ _:Unit=>s6 n) ())
section
variable (P:Program) (B:Base) (main:Bool) (K:az→ah→Goroutine→Prop)
def Dw:Tree→az→ah→Goroutine→Prop
 | .node _ f=>λ R H g=>K R H g ∨
  (g.status = .running∧∀ w,Fits B R H w→∃ g' w' es R' H' i,stepG P main g w = .go g' w' es∧(∀ e∈es,iP R H w.heap.size w'.heap.size e)∧gv B R H w R' H' w'∧Dw (f i) R' H' g') ∨
  (∃ R' H' i,(∀ w,Fits B R H w→gv B R H w R' H' w)∧Dw (f i) R' H' g)
def Own(R:az)(H:ah)(g:Goroutine):Prop:=∃ T,Dw P B main K T R H g
theorem Own.stop{R:az}{H:ah}{g:Goroutine}(h:K R H g):Own P B main K R H g:=⟨.node Empty Empty.elim,.inl h⟩
open Classical in
def M5:Jd P B main where
 J:=Own P B main K
 step:=by
  intro R H g hs h
  refine ⟨.node { x:az × ah × Goroutine // Own P B main K x.1 x.2.1 x.2.2 } (λ x=>x.2.choose),.inr (.inl ⟨hs,λ w hw=>?_⟩)⟩
  obtain ⟨g',w',es,R',H',h1,h2,h3,h4⟩:=h w hw
  exact ⟨g',w',es,R',H',⟨(R',H',g'),h4⟩,h1,h2,h3,Exists.choose_spec h4⟩
 ghost:=by
  intro R H R' H' g hg h
  exact ⟨.node Unit (λ _=>h.choose),.inr (.inr ⟨R',H',(),hg,h.choose_spec⟩)⟩
end
theorem nn{α:Type}{a:Option α}{u:α}{C:Prop}(h:a=none)(h':a=some u):C:=by rw [h] at h'; cases h'
structure Th where
 R:az
 H:ah
def gA(th:Nat→Option Th)(i:Nat)(x:Option Th):Nat→Option Th:=λ j=>if j=i then x else th j
theorem fQ(th:Nat→Option Th)(i:Nat)(x:Option Th):gA th i x i=x:=by simp [gA]
theorem eT{th:Nat→Option Th}{i j:Nat}{x:Option Th}(h:j≠i):gA th i x j=th j:=by simp [gA,h]
structure fS (B:Base) (th:Nat→Option Th) (ch:ah) (w:World):Prop where
 fits:∀ i x,th i=some x→Fits B x.R x.H w
 apart:∀ i j x y,i≠j→th i=some x→th j=some y→∀ b o,(b,o)∈x.H→y.R b=none∧∀ o',(b,o') ∉ y.H
 oF:∀ c o,(c,o)∈ch→w.heap[c]? = some o
 mS:∀ c o,(c,o)∈ch→∀ i x,th i=some x→x.R c=none∧∀ o',(c,o') ∉ x.H
theorem Fits.at{B:Base}{R:az}{H:ah}{w:World}(h:Fits B R H w)(d:Nat):Fits B R H (w.at d):=⟨h.r,h.h,h.nd,h.dj,h.os,h.tape,h.out⟩
theorem fS.at{B:Base}{th:Nat→Option Th}{ch:ah}{w:World}(h:fS B th ch w)(d:Nat):fS B th ch (w.at d) :=
 ⟨λ i x hx=>(h.fits i x hx).at d,h.apart,h.oF,h.mS⟩
section
variable {B:Base} {th:Nat→Option Th} {ch:ah} {w w':World} {i:Nat} {R R':az} {H H':ah}
theorem fS.upd(h:fS B th ch w)(hi:th i=some ⟨R,H⟩)(hu:gv B R H w R' H' w'):fS B (gA th i (some ⟨R',H'⟩)) ch w':=by
 have EW {j:Nat} {y:Th} (hy:th j=some y):(∀ b o,y.R b=some o→b < w.heap.size)∧(∀ b o,(b,o)∈y.H→b < w.heap.size) :=
  ⟨λ b o x=>mg ((h.fits j y hy).r b o x),λ b o x=>mg ((h.fits j y hy).h b o x)⟩
 refine ⟨λ j y hy=>?_,λ j k x y oe hx hy b o hb=>?_,λ c o hc=>?_,λ c o hc j y hy=>?_⟩
 ·by_cases hj:j=i
  ·subst hj; rw [fQ] at hy; cases hy; exact hu.fits
  ·rw [eT hj] at hy
   have hf:=h.fits j y hy
   have hl:=EW hy
   refine ⟨λ b o x=>?_,λ b o x=>?_,hf.nd,hf.dj,hu.fits.os,hu.fits.tape,hu.fits.out⟩
   ·rw [hu.same b (hl.1 b o x) λ o' fj=>nn (h.apart i j _ _ (Ne.symm hj) hi hy b o' fj).1 x]
    exact hf.r b o x
   ·rw [hu.same b (hl.2 b o x) λ o' fj=>(h.apart i j _ _ (Ne.symm hj) hi hy b o' fj).2 o x]
    exact hf.h b o x
 ·by_cases hj:j=i
  ·subst hj
   rw [fQ] at hx; cases hx
   rw [eT (Ne.symm oe)] at hy
   rcases hu.zU b o hb with ⟨o',fj⟩ | vw
   ·exact h.apart j k _ _ oe hi hy b o' fj
   ·refine ⟨?_,λ o' fj=>?_⟩
    ·cases hR:y.R b with
     | none=>rfl
     | some u=>have:=(EW hy).1 b u hR; omega
    ·have:=(EW hy).2 b o' fj; omega
  ·rw [eT hj] at hx
   by_cases hk:k=i
   ·subst hk
    rw [fQ] at hy; cases hy
    have bV:=(EW hx).2 b o hb
    have kJ:=h.apart j k _ _ oe hx hi b o hb
    refine ⟨?_,λ o' fj=>?_⟩
    ·cases hR:R' b with
     | none=>simp [hR]
     | some u =>
      rcases hu.Ix b u hR with x | ⟨o',x⟩ | x
      ·exact nn kJ.1 x
      ·exact absurd x (kJ.2 o')
      ·omega
    ·rcases hu.zU b o' fj with ⟨u,x⟩ | x
     ·exact kJ.2 u x
     ·omega
   ·rw [eT hk] at hy
    exact h.apart j k _ _ oe hx hy b o hb
 ·have bV:=mg (h.oF c o hc)
  rw [hu.same c bV λ o' fj=>(h.mS c o hc i _ hi).2 o' fj]
  exact h.oF c o hc
 ·by_cases hj:j=i
  ·subst hj
   rw [fQ] at hy; cases hy
   have bV:=mg (h.oF c o hc)
   have kJ:=h.mS c o hc j _ hi
   refine ⟨?_,λ o' fj=>?_⟩
   ·cases hR:R' c with
    | none=>simp [hR]
    | some u =>
     rcases hu.Ix c u hR with x | ⟨o',x⟩ | x
     ·exact nn kJ.1 x
     ·exact absurd x (kJ.2 o')
     ·omega
   ·rcases hu.zU c o' fj with ⟨u,x⟩ | x
    ·exact kJ.2 u x
    ·omega
  ·rw [eT hj] at hy
   exact h.mS c o hc j y hy
theorem fS.drop(h:fS B th ch w):fS B (gA th i none) ch w:=by
 have key:∀ j y,gA th i none j=some y→th j=some y:=λ j y hy=>by
  by_cases hj:j=i
  ·subst hj; rw [fQ] at hy; cases hy
  ·rwa [eT hj] at hy
 exact ⟨λ j y hy=>h.fits j y (key j y hy),λ j k x y oe hx hy=>h.apart j k x y oe (key j x hx) (key k y hy),h.oF,λ c o hc j y hy=>h.mS c o hc j y (key j y hy)⟩
theorem fS.add{c:Nat}(h:fS B th ch w)(hi:th i=some ⟨R,H⟩)(hR:aS R' R):fS B (gA th c (some ⟨R',[]⟩)) ch w:=by
 refine ⟨λ j y hy=>?_,λ j k x y oe hx hy b o hb=>?_,h.oF,λ a o ha j y hy=>?_⟩
 ·by_cases hj:j=c
  ·subst hj; rw [fQ] at hy; cases hy
   have hf:=h.fits i _ hi
   exact ⟨λ b o x=>hf.r b o (hR b o x),λ b o x=>(by cases x),List.nodup_nil,λ b o x=>(by cases x),hf.os,hf.tape,hf.out⟩
  ·rw [eT hj] at hy; exact h.fits j y hy
 ·by_cases hj:j=c
  ·subst hj; rw [fQ] at hx; cases hx; cases hb
  ·rw [eT hj] at hx
   by_cases hk:k=c
   ·subst hk
    rw [fQ] at hy; cases hy
    refine ⟨?_,λ o' x=>by cases x⟩
    cases KP:R' b with
    | none=>simp [KP]
    | some u =>
     have hRu:=hR b u KP
     by_cases gE:j=i
     ·subst gE
      rw [hi] at hx; cases hx
      exact nn ((h.fits j _ hi).dj b o hb) hRu
     ·exact nn (h.apart j i _ _ gE hx hi b o hb).1 hRu
   ·rw [eT hk] at hy; exact h.apart j k x y oe hx hy b o hb
 ·by_cases hj:j=c
  ·subst hj; rw [fQ] at hy; cases hy
   refine ⟨?_,λ o' x=>by cases x⟩
   cases KP:R' a with
   | none=>simp [KP]
   | some u=>exact nn (h.mS a o ha i _ hi).1 (hR a u KP)
  ·rw [eT hj] at hy; exact h.mS a o ha j y hy
end
abbrev Kn(t:Trace)(g i:Nat):Prop:=Go.Conc.Knows t g i
def blk:Loc→Option Nat
 | .cell a=>some a.block
 | .obj r=>some r
 | _=>none
theorem aNu{x:MemAct}{a:Touch}{n b:Nat}(h:x.low n)(ht:x.touch? = some a)(hb:blk a.loc=some b):b < n:=by
 cases x with
 | access e =>
  simp only [MemAct.touch?,j8] at ht
  subst ht
  obtain ⟨loc,wr,sy⟩:=e
  cases loc <;> simp [blk] at hb <;> subst hb <;> exact h
 | mark m =>
  cases m <;> simp only [MemAct.touch?,j8,reduceCtorEq] at ht
  all_goals (subst ht; simp [blk] at hb; subst hb; exact h)
 | _=>simp [MemAct.touch?] at ht
def adf(ch:ah)(R:az)(H:ah)(n:Nat)(a:Touch):Prop :=
 ∃ b,blk a.loc=some b∧((a.write=false∧∃ o,R b=some o)∨(∃ o,(b,o)∈H)∨n≤b∨(a.kind = .atomic∧∃ o,(b,o)∈ch))
theorem yl{t u:Trace}{k:Nat}{a:Touch}(h:touchAt (t++u) k=some a):(k < t.size∧touchAt t k=some a)∨(∃ op,(t++u)[k]? = some op∧op∈u∧op.act.touch? = some a):=by
 obtain ⟨x,hx,Q2⟩:=touch_of h
 rcases getElem?_append_cases hx with ⟨hk,B4⟩ | ⟨_,hxu⟩
 ·exact .inl ⟨hk,by rw [touchAt_of B4]; exact Q2⟩
 ·exact .inr ⟨x,hx,hxu,Q2⟩
theorem Ri{t:Trace}{k b n:Nat}{a:Touch}(hl:∀ op∈t,op.act.low n)(h:touchAt t k=some a)(hb:blk a.loc=some b):b < n:=by
 obtain ⟨x,hx,Q2⟩:=touch_of h
 exact aNu (hl x (mem_of_getElem? hx)) Q2 hb
section
variable {B:Base} {th:Nat→Option Th} {ch:ah} {cls:Option Nat} {w:World} {n n' i:Nat} {R R':az} {H H':ah} {t u:Trace}
theorem aiV{said:Bool}(h:¬ Race said t)(hu:∀ op∈u,op.act.touch? = none):¬ Race said (t++u):=by
 rintro ⟨i,j,gg,⟨a,b,ha,hb,hc⟩,n1,n2⟩
 rcases yl (u:=u) (a:=a) (k:=i) ha with ⟨hi,ha'⟩ | ⟨op,_,h2,h3⟩
 ·rcases yl (u:=u) (a:=b) (k:=j) hb with ⟨hj,gP⟩ | ⟨op,_,h2,h3⟩
  ·exact h ⟨i,j,gg,⟨a,b,ha',gP,hc⟩,λ e=>n1 (hb_app u e),λ e=>n2 (hb_app u e)⟩
  ·rw [hu op h2] at h3; cases h3
 ·rw [hu op h2] at h3; cases h3
end
def dE:Nat→(Nat→Nat)→Nat
 | 0,_=>0
 | j+1,f=>dE j f+f j
theorem Nn{f g:Nat→Nat}:∀ {j:Nat},(∀ i,i < j→f i=g i)→dE j f=dE j g
 | 0,_=>rfl
 | j+1,h=>by rw [dE,dE,Nn (λ i hi=>h i (by omega)),h j (by omega)]
theorem F5{f g:Nat→Nat}{i:Nat}:∀ {j:Nat},i < j→(∀ k,k≠i→g k=f k)→dE j g+f i=dE j f+g i
 | j+1,h,hg=>by
  rcases Nat.lt_or_ge i j with bV | vw
  ·have:=F5 bV hg
   simp only [dE,hg j (by omega)]
   omega
  ·obtain rfl:i=j:=by omega
   simp only [dE]
   rw [Nn (g:=f) (λ a ha=>hg a (by omega))]
   omega
section
variable (P:Program) (Post:Value→World→Prop)
def l8(m:Machine)(t:Trace):Prop:=∃ N last o w' t',runNT P (N+1) m t=(.ended o w',t')∧runN P N m = .next last∧step P last = .ended o w'∧Good P Post last o w' t'
variable {P Post}
theorem l8.step{m m':Machine}{t:Trace}{ops:Array MemOp}(hs:stepT P m=(.next m',ops))(h:l8 P Post m' (t++ops)):l8 P Post m t:=by
 obtain ⟨N,last,o,w',t',h1,h2,h3,h4⟩:=h
 exact ⟨N+1,last,o,w',t',by rw [runNT_succ_next hs]; exact h1,by rw [runN_succ_next hs]; exact h2,h3,h4⟩
theorem l8.end{m:Machine}{t:Trace}{o:Outcome}{w':World}{ops:Array MemOp}(hs:stepT P m=(.ended o w',ops))(h:Good P Post m o w' (t++ops)):l8 P Post m t :=
 ⟨0,m,o,w',t++ops,by simp [runNT,hs],rfl,by simp [Go.step,hs],h⟩
end
theorem Cz{g:Nat}{fn:FuncId}{pos:String}{es:Array Event}{op:MemOp}(h:op∈MemOp.ofEvents g fn pos es):∃ e∈es,op={ g,fn,pos,act:=.ofEvent e }:=by
 rw [ofEvents_eq] at h
 obtain ⟨e,he,rfl⟩:=Array.mem_map.1 h
 exact ⟨e,he,rfl⟩
section
variable {R:az} {H:ah} {n m:Nat} {e:Event} {ch:ah}
theorem ara{a:Touch}(h:iP R H n m e)(ht:(MemAct.ofEvent e).touch? = some a):adf ch R H n a:=by
 obtain ⟨loc,wr,sy⟩:=e
 have key:∀ b,DD R H n wr b→((wr=false∧∃ o,R b=some o)∨(∃ o,(b,o)∈H)∨n≤b):=λ b hb=>by
  rcases hb with ⟨h1,h2⟩ | h2 | h2
  ·exact .inl ⟨h1,Option.isSome_iff_exists.1 h2⟩
  ·exact .inr (.inl h2)
  ·exact .inr (.inr h2)
 cases loc with
 | cell a' =>
  obtain ⟨h1,_,h3⟩:=h
  simp only at h1; subst h1
  have e1:MemAct.ofEvent ⟨.cell a',wr,false⟩ = .access ⟨.cell a',wr,false⟩:=by cases wr <;> rfl
  rw [e1] at ht
  simp only [MemAct.touch?,j8] at ht
  subst ht
  refine ⟨a'.block,rfl,?_⟩
  rcases key _ h3 with x | x | x
  ·exact .inl x
  ·exact .inr (.inl x)
  ·exact .inr (.inr (.inl x))
 | obj b =>
  obtain ⟨h1,_,h3⟩:=h
  simp only at h1; subst h1
  have e1:MemAct.ofEvent ⟨.obj b,wr,false⟩ = .access ⟨.obj b,wr,false⟩:=by cases wr <;> rfl
  rw [e1] at ht
  simp only [MemAct.touch?,j8] at ht
  subst ht
  refine ⟨b,rfl,?_⟩
  rcases key _ h3 with x | x | x
  ·exact .inl x
  ·exact .inr (.inl x)
  ·exact .inr (.inr (.inl x))
 | mark mk =>
  cases mk <;> simp [iP] at h
  cases wr <;> cases sy <;> simp [MemAct.ofEvent,MemAct.touch?] at ht
 | _=>simp [iP] at h
theorem aq8(h:iP R H n m e):(MemAct.ofEvent e).low m:=by
 obtain ⟨loc,wr,sy⟩:=e
 cases loc with
 | cell a' =>
  obtain ⟨h1,h2,_⟩:=h
  simp only at h1; subst h1
  cases wr <;> exact h2
 | obj b =>
  obtain ⟨h1,h2,_⟩:=h
  simp only at h1; subst h1
  cases wr <;> exact h2
 | mark mk =>
  cases mk <;> simp [iP] at h
  cases wr <;> cases sy <;> trivial
 | _=>simp [iP] at h
theorem afv(h:iP R H n m e):∀ mk,MemAct.ofEvent e = .mark mk→Neutral mk:=by
 obtain ⟨loc,wr,sy⟩:=e
 intro mk hm
 cases loc with
 | cell a'=>obtain ⟨h1,_⟩:=h; simp only at h1; subst h1; cases wr <;> cases hm
 | obj b=>obtain ⟨h1,_⟩:=h; simp only at h1; subst h1; cases wr <;> cases hm
 | mark mk' =>
  cases mk' <;> simp [iP] at h
  cases wr <;> cases sy <;> (cases hm; rfl)
 | _=>simp [iP] at h
end
def only(x:Th):Nat→Option Th:=λ i=>if i=0 then some x else none
theorem RX(x y:Th):gA (only x) 0 (some y)=only y:=by funext i; unfold gA only; split <;> rfl
open Go.ConcN
def gS(f:Nat→Nat)(i x:Nat):Nat→Nat:=λ j=>if j=i then x else f j
theorem uO(f:Nat→Nat)(i x:Nat):gS f i x i=x:=by simp [gS]
theorem uN{f:Nat→Nat}{i j x:Nat}(h:j≠i):gS f i x j=f j:=by simp [gS,h]
theorem nj(f:Nat→Nat)(i:Nat):gS f i (f i)=f:=by funext j; unfold gS; split <;> simp [*]
def pa(f:Nat→Bool)(i:Nat)(x:Bool):Nat→Bool:=λ j=>if j=i then x else f j
theorem SK(f:Nat→Bool)(i:Nat)(x:Bool):pa f i x i=x:=by simp [pa]
theorem ab4{f:Nat→Bool}{i j:Nat}{x:Bool}(h:j≠i):pa f i x j=f j:=by simp [pa,h]
def AU(a:Option Addr)(t:Trace)(k:Nat):Prop:=∃ x p,a=some x∧t.act? p=some (.mark (.releaseMerge x))∧t.heard p∧Before t k p
theorem AU.app{a:Option Addr}{t:Trace}{k:Nat}(h:AU a t k)(u:Trace):AU a (t++u) k:=by
 obtain ⟨x,p,h1,h2,h3,h4⟩:=h
 have hp:=lt_of_act? h2
 exact ⟨x,p,h1,by rw [act?_old hp]; exact h2,(heard_old hp).2 h3,h4.app u⟩
structure dk (am aw:Option Addr) (th:Nat→Option Th) (mu:Nat→Bool) (dd:Nat→Nat) (sh:List Nat) (fr:Option Nat) (n:Nat) (t:Trace):Prop where
 own:∀ i x,th i=some x→∀ b o,(b,o)∈x.H→∀ k a,touchAt t k=some a→blk a.loc=some b→Kn t i k
 read:∀ i x,th i=some x→∀ b o,x.R b=some o→∀ k a,touchAt t k=some a→blk a.loc=some b→a.write=true→Kn t i k
 shr:∀ b,b∈sh→∀ k a,touchAt t k=some a→blk a.loc=some b→a.kind = .atomic∨(a.kind = .said∧Kn t 0 k)∨∀ i x,th i=some x→Kn t i k
 free:∀ b,fr=some b→∀ k a,touchAt t k=some a→blk a.loc=some b→(∀ i x,th i=some x→Kn t i k)∨AU am t k
 low:∀ op∈t,op.act.low n
 all:∀ k a,touchAt t k=some a→a.loc.isMemory=true→(a.kind ≠ .atomic∨t.heard k)→(∃ i x,th i=some x∧mu i=false∧Kn t i k)∨AU aw t k
 deaf:∀ i,Deaf t i=dd i
 norel:∀ a,NoRelease a t
 clean:∀ said,¬ Race said t
 rZ:∀ k a,touchAt t k=some a→a.kind = .atomic→∀ b,blk a.loc=some b→(∀ i x,th i=some x→∀ o,(b,o) ∉ x.H)∧fr≠some b
def anj(sh:List Nat)(i:Nat)(a:Touch):Prop:=∃ b,blk a.loc=some b∧b∈sh∧(a.kind = .atomic∨(a.kind = .said∧i=0))
section
variable {B:Base} {am aw:Option Addr} {th:Nat→Option Th} {mu:Nat→Bool} {dd:Nat→Nat} {sh:List Nat} {fr:Option Nat} {ch:ah} {w:World} {n n' i:Nat} {R R':az} {H H':ah} {t u:Trace}
theorem aa8(h:∀ a,NoRelease a t)(hr:∀ op∈u,∀ a,op.act ≠ .mark (.release a))(a:Addr):NoRelease a (t++u):=by
 intro k hk
 obtain ⟨op,ho,hoa⟩:=Option.map_eq_some_iff.1 hk
 rcases getElem?_append_cases ho with ⟨_,fj⟩ | ⟨_,hu⟩
 ·exact h a k (by rw [Trace.act?,fj]; simp [hoa])
 ·exact hr op hu a hoa
theorem aeN(h:∀ i,Deaf t i=dd i)(hu:∀ op∈u,op.g=i){d':Nat}(hd:Deaf (t++u) i=d')(j:Nat):Deaf (t++u) j=gS dd i d' j:=by
 by_cases hj:j=i
 ·subst hj; rw [uO,hd]
 ·rw [uN hj,Deaf_other (g':=i) t (Ne.symm hj) u hu,h j]
theorem dk.app(hM:fS B th ch w)(hn:w.heap.size=n)(bp:∀ b,b∈sh→∃ o,(b,o)∈ch)(sG:∀ b,fr=some b→(∃ o,(b,o)∈ch)∧b ∉ sh)
  (h:dk am aw th mu dd sh fr n t) (hi:th i=some ⟨R,H⟩) (hu:∀ op∈u,op.g=i)
  (ht:∀ op∈u,∀ a,op.act.touch? = some a→(adf [] R H n a∧a.kind ≠ .atomic)∨anj sh i a) (hl:∀ op∈u,op.act.low n') (hr:∀ op∈u,∀ a,op.act ≠ .mark (.release a))
  {d':Nat} (hd:Deaf (t++u) i=d') (hc:mu i=false∨∀ k a,t.size≤k→touchAt (t++u) k=some a→¬ (a.kind ≠ .atomic∨(t++u).heard k)) (hnn:n≤n')
  (hR:∀ b o,R' b=some o→R b=some o∨(∃ o',(b,o')∈H)∨n≤b) (hH:∀ b o,(b,o)∈H'→(∃ o',(b,o')∈H)∨n≤b) :
  dk am aw (gA th i (some ⟨R',H'⟩)) mu (gS dd i d') sh fr n' (t++u):=by
 have EW {j:Nat} {y:Th} (hy:th j=some y):(∀ b o,y.R b=some o→b < n)∧(∀ b o,(b,o)∈y.H→b < n) :=
  ⟨λ b o x=>hn ▸ mg ((hM.fits j y hy).r b o x),λ b o x=>hn ▸ mg ((hM.fits j y hy).h b o x)⟩
 have aaD:∀ c o,(c,o)∈ch→c < n:=λ c o hc=>hn ▸ mg (hM.oF c o hc)
 have RN:∀ k op,(t++u)[k]? = some op→op∈u→Kn (t++u) i k:=λ k op h1 h2=>by
  have:=knows_own h1; rwa [hu op h2] at this
 have I0:∀ {b j y},b∈sh→th j=some y→y.R b=none∧∀ o',(b,o') ∉ y.H:=λ {b j y} hb hy=>by
  obtain ⟨o,ho⟩:=bp b hb; exact hM.mS b o ho j y hy
 refine ⟨λ j y hy b o hb k a hk bJ=>?_,λ j y hy b o hb k a hk bJ xD=>?_,λ b hb k a hk bJ=>?_,λ b hb k a hk bJ=>?_,λ op an=>?_,λ k a hk hm fC=>?_,aeN h.deaf hu hd,aa8 h.norel hr,λ said=>?_,λ k a hk kK b bJ=>?_⟩
 ·by_cases hj:j=i
  ·subst hj; rw [fQ] at hy; cases hy
   rcases yl hk with ⟨_,ed⟩ | ⟨op,h1,h2,_⟩
   ·rcases hH b o hb with ⟨o',fj⟩ | vw
    ·exact (h.own j _ hi b o' fj k a ed bJ).app u
    ·have:=Ri h.low ed bJ; omega
   ·exact RN k op h1 h2
  ·rw [eT hj] at hy
   rcases yl hk with ⟨_,ed⟩ | ⟨op,h1,h2,h3⟩
   ·exact (h.own j y hy b o hb k a ed bJ).app u
   ·have kJ:=hM.apart j i _ _ hj hy hi b o hb
    rcases ht op h2 a h3 with ⟨⟨b',gP,vv⟩,_⟩ | ⟨b',gP,hs,_⟩
    ·rw [bJ] at gP; cases gP
     rcases vv with ⟨_,o',x⟩ | ⟨o',x⟩ | x | ⟨_,o',x⟩
     ·exact nn kJ.1 x
     ·exact absurd x (kJ.2 o')
     ·have:=(EW hy).2 b o hb; omega
     ·cases x
    ·rw [bJ] at gP; cases gP
     exact absurd hb ((I0 hs hy).2 o)
 ·by_cases hj:j=i
  ·subst hj; rw [fQ] at hy; cases hy
   rcases yl hk with ⟨_,ed⟩ | ⟨op,h1,h2,_⟩
   ·rcases hR b o hb with x | ⟨o',x⟩ | x
    ·exact (h.read j _ hi b o x k a ed bJ xD).app u
    ·exact (h.own j _ hi b o' x k a ed bJ).app u
    ·have:=Ri h.low ed bJ; omega
   ·exact RN k op h1 h2
  ·rw [eT hj] at hy
   rcases yl hk with ⟨_,ed⟩ | ⟨op,h1,h2,h3⟩
   ·exact (h.read j y hy b o hb k a ed bJ xD).app u
   ·rcases ht op h2 a h3 with ⟨⟨b',gP,vv⟩,_⟩ | ⟨b',gP,hs,_⟩
    ·rw [bJ] at gP; cases gP
     rcases vv with ⟨x,_⟩ | ⟨o',x⟩ | x | ⟨_,o',x⟩
     ·rw [xD] at x; cases x
     ·exact nn (hM.apart i j _ _ (Ne.symm hj) hi hy b o' x).1 hb
     ·have:=(EW hy).1 b o hb; omega
     ·cases x
    ·rw [bJ] at gP; cases gP
     exact nn (I0 hs hy).1 hb
 ·rcases yl hk with ⟨_,ed⟩ | ⟨op,h1,h2,h3⟩
  ·refine (h.shr b hb k a ed bJ).imp id (Or.imp (And.imp id (·.app u)) λ x j y hy=>?_)
   by_cases hj:j=i
   ·subst hj; exact (x j _ hi).app u
   ·rw [eT hj] at hy; exact (x j y hy).app u
  ·rcases ht op h2 a h3 with ⟨⟨b',gP,vv⟩,_⟩ | ⟨b',gP,hs,PY⟩
   ·rw [bJ] at gP; cases gP
    rcases vv with ⟨_,o',x⟩ | ⟨o',x⟩ | x | ⟨_,o',x⟩
    ·exact nn (I0 hb hi).1 x
    ·exact absurd x ((I0 hb hi).2 o')
    ·obtain ⟨o,ho⟩:=bp b hb; have:=aaD b o ho; omega
    ·cases x
   ·rcases PY with x | ⟨x,rfl⟩
    ·exact .inl x
    ·exact .inr (.inl ⟨x,RN k op h1 h2⟩)
 ·rcases yl hk with ⟨_,ed⟩ | ⟨op,h1,h2,h3⟩
  ·refine (h.free b hb k a ed bJ).imp (λ x j y hy=>?_) (·.app u)
   by_cases hj:j=i
   ·subst hj; exact (x j _ hi).app u
   ·rw [eT hj] at hy; exact (x j y hy).app u
  ·obtain ⟨⟨o,ho⟩,hns⟩:=sG b hb
   rcases ht op h2 a h3 with ⟨⟨b',gP,vv⟩,_⟩ | ⟨b',gP,hs,_⟩
   ·rw [bJ] at gP; cases gP
    rcases vv with ⟨_,o',x⟩ | ⟨o',x⟩ | x | ⟨_,o',x⟩
    ·exact nn (hM.mS b o ho i _ hi).1 x
    ·exact absurd x ((hM.mS b o ho i _ hi).2 o')
    ·have:=aaD b o ho; omega
    ·cases x
   ·rw [bJ] at gP; cases gP
    exact absurd hs hns
 ·rcases Array.mem_append.1 an with x | x
  ·exact MemAct.low_mono hnn (h.low op x)
  ·exact hl op x
 ·rcases Nat.lt_or_ge k t.size with bV | vw
  ·have ed:touchAt t k=some a:=by rw [← touchAt_old (u:=u) bV]; exact hk
   refine (h.all k a ed hm (fC.imp id (heard_old bV).1)).imp (λ ⟨j,y,hy,dM,iy⟩=>?_) (·.app u)
   by_cases hj:j=i
   ·subst hj; exact ⟨j,_,fQ _ _ _,dM,iy.app u⟩
   ·exact ⟨j,y,by rw [eT hj]; exact hy,dM,iy.app u⟩
  ·rcases hc with dM | hc
   ·obtain ⟨op,h1,_⟩:=touch_of hk
    rcases getElem?_append_cases h1 with ⟨bV,_⟩ | ⟨_,h2⟩
    ·omega
    ·exact .inl ⟨i,_,fQ _ _ _,dM,RN k op h1 h2⟩
   ·exact absurd fC (hc k a vw hk)
 ·refine noRace_append (h.clean said) hu λ k a hk op an b hb vv=>?_
  obtain ⟨agM,nD,xD,Qd⟩:=vv
  rcases ht op an b hb with ⟨⟨bb,Ww,pF⟩,_⟩ | ⟨bb,Ww,hs,PY⟩
  ·have bJ:blk a.loc=some bb:=by rw [agM]; exact Ww
   rcases pF with ⟨x,o,ho⟩ | ⟨o,x⟩ | x | ⟨_,o,x⟩
   ·have xu:a.write=true:=by
     rcases xD with y | y
     ·exact y
     ·rw [x] at y; cases y
    exact h.read i _ hi bb o ho k a hk bJ xu
   ·exact h.own i _ hi bb o x k a hk bJ
   ·have:=Ri h.low hk bJ; omega
   ·cases x
  ·have bJ:blk a.loc=some bb:=by rw [agM]; exact Ww
   rcases h.shr bb hs k a hk bJ with y | ⟨y,y'⟩ | y
   ·rcases Qd with z | z | ⟨_,z,_⟩
    ·rw [y] at z; cases z
    ·rcases PY with x | ⟨x,_⟩ <;> (rw [x] at z; cases z)
    ·rw [y] at z; cases z
   ·rcases PY with x | ⟨x,rfl⟩
    ·rcases Qd with z | z | ⟨_,_,z⟩
     ·rw [y] at z; cases z
     ·rw [x] at z; cases z
     ·rw [x] at z; cases z
    ·exact y'
   ·exact y i _ hi
 ·rcases yl hk with ⟨_,ed⟩ | ⟨op,h1,h2,h3⟩
  ·obtain ⟨z1,z2⟩:=h.rZ k a ed kK b bJ
   refine ⟨λ j y hy o ho=>?_,z2⟩
   by_cases hj:j=i
   ·subst hj; rw [fQ] at hy; cases hy
    rcases hH b o ho with ⟨o',fj⟩ | vw
    ·exact z1 j _ hi o' fj
    ·have:=Ri h.low ed bJ; omega
   ·rw [eT hj] at hy; exact z1 j y hy o ho
  ·rcases ht op h2 a h3 with ⟨_,hna⟩ | ⟨b',gP,hs,_⟩
   ·exact absurd kK hna
   ·rw [bJ] at gP; cases gP
    refine ⟨λ j y hy o ho=>?_,λ e=>(sG b e).2 hs⟩
    by_cases hj:j=i
    ·subst hj; rw [fQ] at hy; cases hy
     rcases hH b o ho with ⟨o',fj⟩ | vw
     ·exact (I0 hs hi).2 o' fj
     ·obtain ⟨o2,ho2⟩:=bp b hs; have:=aaD b o2 ho2; omega
    ·rw [eT hj] at hy; exact (I0 hs hy).2 o ho
theorem I5(hu:∀ op∈u,op.act.touch? = none){k:Nat}{a:Touch}(h:touchAt (t++u) k=some a):touchAt t k=some a:=by
 rcases yl h with ⟨_,x⟩ | ⟨op,_,h2,h3⟩
 ·exact x
 ·rw [hu op h2] at h3; cases h3
theorem dk.mute(h:dk am aw th mu dd sh fr n t)(hu:∀ op∈u,op.g=i)(hm:∀ op∈u,op.act.touch? = none)(hl:∀ op∈u,op.act.low n)(hr:∀ op∈u,∀ a,op.act ≠ .mark (.release a)){d':Nat}(hd:Deaf (t++u) i=d') :
  dk am aw th mu (gS dd i d') sh fr n (t++u):=by
 have old:∀ {k a},touchAt (t++u) k=some a→k < t.size∧touchAt t k=some a:=λ {k a} hk=>by
  have:=I5 hm hk
  obtain ⟨x,hx,_⟩:=touch_of this
  exact ⟨lt_size_of_getElem? hx,this⟩
 exact ⟨λ j y hy b o hb k a hk bJ=>(h.own j y hy b o hb k a (old hk).2 bJ).app u,λ j y hy b o hb k a hk bJ xD=>(h.read j y hy b o hb k a (old hk).2 bJ xD).app u,
  λ b hb k a hk bJ=>(h.shr b hb k a (old hk).2 bJ).imp id (Or.imp (And.imp id (·.app u)) λ x j y hy=>(x j y hy).app u),
  λ b hb k a hk bJ=>(h.free b hb k a (old hk).2 bJ).imp (λ x j y hy=>(x j y hy).app u) (·.app u),
  λ op an=>(Array.mem_append.1 an).elim (h.low op) (hl op),
  λ k a hk Lz fC=>(h.all k a (old hk).2 Lz (fC.imp id (heard_old (old hk).1).1)).imp (λ ⟨j,y,hy,dM,iy⟩=>⟨j,y,hy,dM,iy.app u⟩) (·.app u),
  aeN h.deaf hu hd,aa8 h.norel hr,λ said=>aiV (h.clean said) hm,λ k a hk=>h.rZ k a (old hk).2⟩
theorem heard_new{y:MemOp}(h:∀ i,Deaf t i=dd i)(hd:dd y.g=0):(t++#[y]).heard t.size :=
 ⟨y.g,by simp [Trace.g?],by rw [deaf_old (dr _)]; exact (h y.g).trans hd⟩
theorem ahu{a:Addr}{y:MemOp}{k:Nat}(hd:∀ i,Deaf t i=dd i)(h0:dd y.g=0)(hn:∀ a,NoRelease a (t++#[y]))(hy:y.act = .mark (.acquire a))(h:AU (some a) t k):Kn (t++#[y]) y.g k:=by
 obtain ⟨x,p,e,h1,h2,h3⟩:=h
 cases e
 have hp:=lt_of_act? h1
 have hq:(t++#[y])[t.size]? = some y:=by simp
 have apy:HappensBefore (t++#[y]) p t.size:=.single (.inr ⟨.marked hp (.inr (by rw [act?_old hp]; exact h1)) (by rw [act?_of hq,hy]) (λ k _ _=>hn a k),(heard_old hp).2 h2,heard_new hd h0⟩)
 exact ⟨t.size,y,hq,rfl,.inr ((h3.app #[y]).hb apy)⟩
theorem adL{a:Addr}{y:MemOp}{k:Nat}(hd:∀ i,Deaf t i=dd i)(h0:dd y.g=0)(hy:y.act = .mark (.releaseMerge a))(h:Kn t y.g k):AU (some a) (t++#[y]) k:=by
 have hq:(t++#[y])[t.size]? = some y:=by simp
 exact ⟨a,t.size,rfl,by rw [act?_of hq,hy],heard_new hd h0,.inr (Go.Conc.Knows.hb_new h (dr _) hq rfl)⟩
theorem zY{y op:MemOp}(h:op∈#[y]):op=y:=by simpa using h
theorem RD{y:MemOp}{m:Mark}(hy:y.act = .mark m)(h1:∀ a,m ≠ .read a)(h2:∀ a,m ≠ .write a)(h3:∀ a,m ≠ .release a)(hl:(MemAct.mark m).low n) :
  (∀ op∈#[y],op.act.touch? = none)∧(∀ op∈#[y],op.act.low n)∧(∀ op∈#[y],∀ a,op.act ≠ .mark (.release a)):=by
 refine ⟨λ op an=>?_,λ op an=>?_,λ op an a=>?_⟩ <;> (rw [zY an,hy])
 ·cases m <;> first | rfl | exact absurd rfl (h1 _) | exact absurd rfl (h2 _)
 ·exact hl
 ·exact λ e=>h3 a (by cases e; rfl)
theorem O1{y:MemOp}{m:Mark}(h:∀ i,Deaf t i=dd i)(hy:y.act = .mark m)(h1:m ≠ .disable)(h2:m ≠ .enable):Deaf (t++#[y]) y.g=dd y.g:=by
 rw [Deaf_push]
 unfold deafStep
 rw [hy]
 cases m <;> first | exact h y.g | exact absurd rfl h1 | exact absurd rfl h2
theorem dk.acquire{a:Addr}{b:Nat}{o:Obj}{y:MemOp}(h:dk (some a) aw th mu dd sh (some b) n t)(hi:th i=some ⟨R,H⟩)(hg:y.g=i)(hy:y.act = .mark (.acquire a))(h0:dd i=0)(hl:(MemAct.mark (.acquire a)).low n) :
  dk (some a) aw (gA th i (some ⟨R,(b,o)::H⟩)) mu dd sh none n (t++#[y]):=by
 subst hg
 obtain ⟨m1,m2,m3⟩:=RD (n:=n) hy (by intro a e; cases e) (by intro a e; cases e) (by intro a e; cases e) hl
 have hb:=h.mute (i:=y.g) (λ op an=>by rw [zY an]) m1 m2 m3 (O1 h.deaf hy (by intro e; cases e) (by intro e; cases e))
 rw [nj] at hb
 have old:∀ {k a},touchAt (t++#[y]) k=some a→touchAt t k=some a:=λ {k a} hk=>I5 m1 hk
 refine ⟨λ j x hx c o' hc k a' hk bJ=>?_,λ j x hx c o' hc k a' hk bJ hw=>?_,λ c hc k a' hk bJ=>?_,λ c hc=>(by cases hc),hb.low,λ k a' hk hm fC=>?_,hb.deaf,hb.norel,hb.clean,λ k a' hk kK c bJ=>⟨λ j x hx o' hc=>?_,λ e=>by cases e⟩⟩
 rotate_right
 ·obtain ⟨z1,z2⟩:=hb.rZ k a' hk kK c bJ
  by_cases hj:j=y.g
  ·subst hj; rw [fQ] at hx; cases hx
   rcases fy.1 hc with e | hc
   ·cases e; exact z2 rfl
   ·exact z1 _ _ hi o' hc
  ·rw [eT hj] at hx; exact z1 j x hx o' hc
 ·by_cases hj:j=y.g
  ·subst hj; rw [fQ] at hx; cases hx
   rcases fy.1 hc with e | hc
   ·cases e
    rcases h.free _ rfl k a' (old hk) bJ with x | x
    ·exact (x _ _ hi).app _
    ·exact ahu h.deaf h0 hb.norel hy x
   ·exact hb.own _ _ hi c o' hc k a' hk bJ
  ·rw [eT hj] at hx; exact hb.own j x hx c o' hc k a' hk bJ
 ·by_cases hj:j=y.g
  ·subst hj; rw [fQ] at hx; cases hx; exact hb.read _ _ hi c o' hc k a' hk bJ hw
  ·rw [eT hj] at hx; exact hb.read j x hx c o' hc k a' hk bJ hw
 ·refine (hb.shr c hc k a' hk bJ).imp id (Or.imp id λ z j x hx=>?_)
  by_cases hj:j=y.g
  ·subst hj; exact z _ _ hi
  ·rw [eT hj] at hx; exact z j x hx
 ·refine (hb.all k a' hk hm fC).imp (λ ⟨j,x,hx,dM,iy⟩=>?_) id
  by_cases hj:j=y.g
  ·subst hj; exact ⟨_,_,fQ _ _ _,dM,iy⟩
  ·exact ⟨j,x,by rw [eT hj]; exact hx,dM,iy⟩
theorem dk.release{a:Addr}{b:Nat}{o:Obj}{y:MemOp}(h:dk (some a) aw th mu dd sh none n t)(hi:th i=some ⟨R,H⟩)(Ec:(b,o)∈H)(hH:∀ x∈H',x∈H)(hg:y.g=i)(hy:y.act = .mark (.releaseMerge a))(h0:dd i=0)(hl:(MemAct.mark (.releaseMerge a)).low n) :
  dk (some a) aw (gA th i (some ⟨R,H'⟩)) mu dd sh (some b) n (t++#[y]):=by
 subst hg
 obtain ⟨m1,m2,m3⟩:=RD (n:=n) hy (by intro a e; cases e) (by intro a e; cases e) (by intro a e; cases e) hl
 have hb:=h.mute (i:=y.g) (λ op an=>by rw [zY an]) m1 m2 m3 (O1 h.deaf hy (by intro e; cases e) (by intro e; cases e))
 rw [nj] at hb
 have old:∀ {k a},touchAt (t++#[y]) k=some a→touchAt t k=some a:=λ {k a} hk=>I5 m1 hk
 refine ⟨λ j x hx c o' hc k a' hk bJ=>?_,λ j x hx c o' hc k a' hk bJ hw=>?_,λ c hc k a' hk bJ=>?_,λ c hc k a' hk bJ=>?_,hb.low,λ k a' hk hm fC=>?_,hb.deaf,hb.norel,hb.clean,λ k a' hk kK c bJ=>⟨λ j x hx o' hc=>?_,λ e=>?_⟩⟩
 rotate_right 2
 ·obtain ⟨z1,z2⟩:=hb.rZ k a' hk kK c bJ
  by_cases hj:j=y.g
  ·subst hj; rw [fQ] at hx; cases hx
   exact z1 _ _ hi o' (hH _ hc)
  ·rw [eT hj] at hx; exact z1 j x hx o' hc
 ·cases e; exact (hb.rZ k a' hk kK _ bJ).1 _ _ hi _ Ec
 ·by_cases hj:j=y.g
  ·subst hj; rw [fQ] at hx; cases hx
   exact hb.own _ _ hi c o' (hH _ hc) k a' hk bJ
  ·rw [eT hj] at hx; exact hb.own j x hx c o' hc k a' hk bJ
 ·by_cases hj:j=y.g
  ·subst hj; rw [fQ] at hx; cases hx; exact hb.read _ _ hi c o' hc k a' hk bJ hw
  ·rw [eT hj] at hx; exact hb.read j x hx c o' hc k a' hk bJ hw
 ·refine (hb.shr c hc k a' hk bJ).imp id (Or.imp id λ z j x hx=>?_)
  by_cases hj:j=y.g
  ·subst hj; exact z _ _ hi
  ·rw [eT hj] at hx; exact z j x hx
 ·cases hc
  exact .inr (adL h.deaf h0 hy (h.own _ _ hi b o Ec k a' (old hk) bJ))
 ·refine (hb.all k a' hk hm fC).imp (λ ⟨j,x,hx,dM,iy⟩=>?_) id
  by_cases hj:j=y.g
  ·subst hj; exact ⟨_,_,fQ _ _ _,dM,iy⟩
  ·exact ⟨j,x,by rw [eT hj]; exact hx,dM,iy⟩
theorem dk.aOy{a:Addr}{y:MemOp}(h:dk am (some a) th mu dd sh fr n t)(hg:y.g=i)(hy:y.act = .mark (.releaseMerge a))(h0:dd i=0)(hl:(MemAct.mark (.releaseMerge a)).low n) :
  dk am (some a) th (pa mu i true) dd sh fr n (t++#[y]):=by
 subst hg
 obtain ⟨m1,m2,m3⟩:=RD (n:=n) hy (by intro a e; cases e) (by intro a e; cases e) (by intro a e; cases e) hl
 have hb:=h.mute (i:=y.g) (λ op an=>by rw [zY an]) m1 m2 m3 (O1 h.deaf hy (by intro e; cases e) (by intro e; cases e))
 rw [nj] at hb
 have old:∀ {k a},touchAt (t++#[y]) k=some a→k < t.size∧touchAt t k=some a:=λ {k a} hk=>by
  have:=I5 m1 hk
  obtain ⟨x,hx,_⟩:=touch_of this
  exact ⟨lt_size_of_getElem? hx,this⟩
 refine ⟨hb.own,hb.read,hb.shr,hb.free,hb.low,λ k a' hk hm fC=>?_,hb.deaf,hb.norel,hb.clean,hb.rZ⟩
 rcases h.all k a' (old hk).2 hm (fC.imp id (heard_old (old hk).1).1) with ⟨j,x,hx,dM,iy⟩ | x
 ·by_cases hj:j=y.g
  ·subst hj; exact .inr (adL h.deaf h0 hy iy)
  ·exact .inl ⟨j,x,hx,by rw [ab4 hj]; exact dM,iy.app _⟩
 ·exact .inr (x.app _)
theorem dk.die(h:dk am aw th mu dd sh fr n t)(hm:mu i=true):dk am aw (gA th i none) mu dd sh fr n t:=by
 have key:∀ j y,gA th i none j=some y→th j=some y:=λ j y hy=>by
  by_cases hj:j=i
  ·subst hj; rw [fQ] at hy; cases hy
  ·rwa [eT hj] at hy
 refine ⟨λ j y hy=>h.own j y (key j y hy),λ j y hy=>h.read j y (key j y hy),λ b hb k a hk bJ=>(h.shr b hb k a hk bJ).imp id (Or.imp id λ z j y hy=>z j y (key j y hy)),λ b hb k a hk bJ=>(h.free b hb k a hk bJ).imp (λ z j y hy=>z j y (key j y hy)) id,h.low,λ k a hk Lz fC=>?_,h.deaf,h.norel,h.clean,λ k a hk kK b bJ=>(h.rZ k a hk kK b bJ).imp (λ z j y hy=>z j y (key j y hy)) id⟩
 refine (h.all k a hk Lz fC).imp (λ ⟨j,y,hy,dM,iy⟩=>⟨j,y,?_,dM,iy⟩) id
 by_cases hj:j=i
 ·subst hj; rw [hm] at dM; cases dM
 ·rw [eT hj]; exact hy
theorem dk.spawn{c:Nat}{x y:MemOp}(h:dk am aw th mu dd sh fr n t)(hi:th 0=some ⟨R,H⟩)(hR:aS R' R)(hc:th c=none)(hx:x.g=0∧x.act = .go c)(hy:y.g=c∧y.act = .start)(h0:dd 0=0)(hdc:dd c=0)(da:c≠0)(hmc:mu c=false) :
  dk am aw (gA th c (some ⟨R',[]⟩)) mu dd sh fr n (t++#[x,y]):=by
 have Hx:∀ op∈#[x,y],op=x∨op=y:=by intro op an; simpa using an
 have m1:∀ op∈#[x,y],op.act.touch? = none:=λ op an=>by
  rcases Hx op an with rfl | rfl
  ·rw [hx.2]; rfl
  ·rw [hy.2]; rfl
 have old:∀ {k a},touchAt (t++#[x,y]) k=some a→k < t.size∧touchAt t k=some a:=λ {k a} hk=>by
  have:=I5 m1 hk
  obtain ⟨x,hx,_⟩:=touch_of this
  exact ⟨lt_size_of_getElem? hx,this⟩
 have kn:∀ {k},Kn t 0 k→Kn (t++#[x,y]) c k:=λ hk=>fork_knows hx hy ((h.deaf 0).trans h0) ((h.deaf c).trans hdc) hk
 refine ⟨λ j z hz b o hb k a hk bJ=>?_,λ j z hz b o hb k a hk bJ hw=>?_,λ b hb k a hk bJ=>?_,λ b hb k a hk bJ=>?_,λ op an=>?_,λ k a hk hm fC=>?_,λ j=>?_,aa8 h.norel λ op an a=>?_,λ said=>aiV (h.clean said) m1,λ k a hk kK b bJ=>(h.rZ k a (old hk).2 kK b bJ).imp (λ z j y' ui o ho=>?_) id⟩
 ·by_cases hj:j=c
  ·subst hj; rw [fQ] at hz; cases hz; cases hb
  ·rw [eT hj] at hz; exact (h.own j z hz b o hb k a (old hk).2 bJ).app _
 ·by_cases hj:j=c
  ·subst hj; rw [fQ] at hz; cases hz
   exact kn (h.read 0 _ hi b o (hR b o hb) k a (old hk).2 bJ hw)
  ·rw [eT hj] at hz; exact (h.read j z hz b o hb k a (old hk).2 bJ hw).app _
 ·refine (h.shr b hb k a (old hk).2 bJ).imp id (Or.imp (And.imp id (·.app _)) λ z j y' ui=>?_)
  by_cases hj:j=c
  ·subst hj; exact kn (z 0 _ hi)
  ·rw [eT hj] at ui; exact (z j y' ui).app _
 ·refine (h.free b hb k a (old hk).2 bJ).imp (λ z j y' ui=>?_) (·.app _)
  by_cases hj:j=c
  ·subst hj; exact kn (z 0 _ hi)
  ·rw [eT hj] at ui; exact (z j y' ui).app _
 ·rcases Array.mem_append.1 an with z | z
  ·exact h.low op z
  ·rcases Hx op z with rfl | rfl
   ·rw [hx.2]; trivial
   ·rw [hy.2]; trivial
 ·refine (h.all k a (old hk).2 hm (fC.imp id (heard_old (old hk).1).1)).imp (λ ⟨j,z,hz,dM,iy⟩=>⟨j,z,?_,dM,iy.app _⟩) (·.app _)
  rw [eT (λ e=>by subst e; rw [hc] at hz; cases hz)]; exact hz
 ·have e:t++#[x,y]=(t++#[x])++#[y]:=by apply Array.ext'; simp
  rw [e,Deaf_push,Deaf_push]
  unfold deafStep
  rw [hx.2,hy.2]
  exact h.deaf j
 ·rcases Hx op an with rfl | rfl
  ·rw [hx.2]; intro e; cases e
  ·rw [hy.2]; intro e; cases e
 ·by_cases hj:j=c
  ·subst hj; rw [fQ] at ui; cases ui; cases ho
  ·rw [eT hj] at ui; exact z j y' ui o ho
end
section
variable {B:Base} {am aw:Option Addr} {mu:Nat→Bool} {dd:Nat→Nat} {sh:List Nat} {n:Nat} {R:az} {H H':ah} {t:Trace}
theorem dk.share{bs:List Nat}{b:Nat}(h:dk none none (only ⟨R,H⟩) mu dd [] none n t)(hs:∀ c∈b::bs,∃ o,(c,o)∈H)(hH:∀ x∈H',x∈H)(am aw:Option Addr):dk am aw (only ⟨R,H'⟩) mu dd bs (some b) n t:=by
 have o0:∀ {i x H1},only ⟨R,H1⟩ i=some x→i=0∧x=⟨R,H1⟩:=λ {i x H1} hx=>by
  unfold only at hx; split at hx
  ·cases hx; exact ⟨‹_›,rfl⟩
  ·cases hx
 refine ⟨λ i x hx c o hc k a hk bJ=>?_,λ i x hx c o hc k a hk bJ hw=>?_,λ c hc k a hk bJ=>?_,λ c hc k a hk bJ=>?_,h.low,λ k a hk hm fC=>?_,h.deaf,h.norel,h.clean,λ k a hk kK c bJ=>⟨λ i x hx o ho=>?_,λ e=>?_⟩⟩
 ·obtain ⟨rfl,rfl⟩:=o0 hx; exact h.own 0 _ rfl c o (hH _ hc) k a hk bJ
 ·obtain ⟨rfl,rfl⟩:=o0 hx; exact h.read 0 _ rfl c o hc k a hk bJ hw
 ·obtain ⟨o,ho⟩:=hs c (List.mem_cons_of_mem _ hc)
  refine .inr (.inr λ i x hx=>?_)
  obtain ⟨rfl,rfl⟩:=o0 hx; exact h.own 0 _ rfl c o ho k a hk bJ
 ·cases hc
  obtain ⟨o,ho⟩:=hs b (by simp)
  refine .inl λ i x hx=>?_
  obtain ⟨rfl,rfl⟩:=o0 hx; exact h.own 0 _ rfl b o ho k a hk bJ
 ·rcases h.all k a hk hm fC with ⟨i,x,hx,dM,iy⟩ | ⟨x,p,e,_⟩
  ·obtain ⟨rfl,rfl⟩:=o0 hx; exact .inl ⟨0,_,rfl,dM,iy⟩
  ·cases e
 ·obtain ⟨rfl,rfl⟩:=o0 hx; exact (h.rZ k a hk kK c bJ).1 0 _ rfl o (hH _ ho)
 ·cases e
  obtain ⟨o,ho⟩:=hs b (by simp)
  exact (h.rZ k a hk kK b bJ).1 0 _ rfl o ho
theorem dk.aOj{a:Addr}{b:Nat}{o:Obj}{y:MemOp}(h:dk am (some a) (only ⟨R,H⟩) mu dd sh (some b) n t)(_:b < n)(hg:y.g=0)(hy:y.act = .mark (.acquire a))(h0:dd 0=0)(_:mu 0=false)(hl:(MemAct.mark (.acquire a)).low n) :
  dk none none (only ⟨R,(b,o)::H⟩) (λ _=>false) dd [] none n (t++#[y]):=by
 have o0:∀ {i x H1},only ⟨R,H1⟩ i=some x→i=0∧x=⟨R,H1⟩:=λ {i x H1} hx=>by
  unfold only at hx; split at hx
  ·cases hx; exact ⟨‹_›,rfl⟩
  ·cases hx
 obtain ⟨m1,m2,m3⟩:=RD (n:=n) hy (by intro a e; cases e) (by intro a e; cases e) (by intro a e; cases e) hl
 have hB:=h.mute (i:=y.g) (λ op an=>by rw [zY an]) m1 m2 m3 (O1 h.deaf hy (by intro e; cases e) (by intro e; cases e))
 rw [nj] at hB
 have old:∀ {k a},touchAt (t++#[y]) k=some a→k < t.size∧touchAt t k=some a:=λ {k a} hk=>by
  have:=I5 m1 hk
  obtain ⟨x,hx,_⟩:=touch_of this
  exact ⟨lt_size_of_getElem? hx,this⟩
 have acq:∀ {k},AU (some a) t k→Kn (t++#[y]) 0 k:=λ {k} hk=>by
  have:=ahu h.deaf (by rw [hg]; exact h0) hB.norel hy hk
  rwa [hg] at this
 have aht:∀ k x,touchAt (t++#[y]) k=some x→x.loc.isMemory=true→(x.kind ≠ .atomic∨(t++#[y]).heard k)→Kn (t++#[y]) 0 k:=λ k x hk hm fC=>by
  rcases h.all k x (old hk).2 hm (fC.imp id (heard_old (old hk).1).1) with ⟨i,z,hz,_,iy⟩ | z
  ·obtain ⟨rfl,rfl⟩:=o0 hz; exact iy.app _
  ·exact acq z
 refine ⟨λ i x hx c o' hc k a' hk bJ=>?_,λ i x hx c o' hc k a' hk bJ hw=>?_,λ c hc=>(by cases hc),λ c hc=>(by cases hc),hB.low,λ k a' hk hm fC=>.inl ⟨0,_,rfl,rfl,aht k a' hk hm fC⟩,hB.deaf,hB.norel,hB.clean,λ k a' hk kK c bJ=>⟨λ i x hx o' hc=>?_,λ e=>by cases e⟩⟩
 ·obtain ⟨rfl,rfl⟩:=o0 hx
  rcases fy.1 hc with e | hc
  ·cases e
   refine aht k a' hk ?_ (.inl λ e=>(h.rZ k a' (old hk).2 e _ bJ).2 rfl)
   obtain ⟨loc,wr,kd⟩:=a'
   cases loc <;> first | rfl | cases bJ
  ·exact hB.own 0 _ rfl c o' hc k a' hk bJ
 ·obtain ⟨rfl,rfl⟩:=o0 hx; exact hB.read 0 _ rfl c o' hc k a' hk bJ hw
 ·obtain ⟨rfl,rfl⟩:=o0 hx
  rcases fy.1 hc with e | hc
  ·cases e; exact (hB.rZ k a' hk kK _ bJ).2 rfl
  ·exact (hB.rZ k a' hk kK c bJ).1 0 _ rfl o' hc
theorem dk.handed(h:dk none none (only ⟨R,H⟩) mu dd [] none n t):t.HandedOver:=by
 intro i x hx da ⟨a,ha,hm,fC⟩
 rcases h.all i a ha hm fC with ⟨j,y,hy,_,hk⟩ | ⟨_,_,e,_⟩
 ·have hj:j=0:=by
   unfold only at hy
   split at hy
   ·assumption
   ·cases hy
  subst hj
  obtain ⟨q,z,h1,h2,h3⟩:=hk
  refine ⟨q,by simp [Trace.g?,h1,h2],?_⟩
  rcases h3 with rfl | h3
  ·rw [show t.g? i=some z.g by simp [Trace.g?,h1],h2] at hx
   exact absurd (kz hx).symm da
  ·exact h3
 ·cases e
end
section
variable {R:az} {H:ah} {n m:Nat} {e:Event}
theorem aq7{a:Touch}(h:iP R H n m e)(ht:(MemAct.ofEvent e).touch? = some a):a.kind ≠ .atomic:=by
 obtain ⟨loc,wr,sy⟩:=e
 cases loc with
 | cell a' =>
  obtain ⟨h1,_⟩:=h
  simp only at h1; subst h1
  have e1:MemAct.ofEvent ⟨.cell a',wr,false⟩ = .access ⟨.cell a',wr,false⟩:=by cases wr <;> rfl
  rw [e1] at ht
  simp only [MemAct.touch?,j8] at ht
  subst ht; simp
 | obj b =>
  obtain ⟨h1,_⟩:=h
  simp only at h1; subst h1
  have e1:MemAct.ofEvent ⟨.obj b,wr,false⟩ = .access ⟨.obj b,wr,false⟩:=by cases wr <;> rfl
  rw [e1] at ht
  simp only [MemAct.touch?,j8] at ht
  subst ht; simp
 | mark mk =>
  cases mk <;> simp [iP] at h
  cases wr <;> cases sy <;> simp [MemAct.ofEvent,MemAct.touch?] at ht
 | _=>simp [iP] at h
theorem apl{g d:Nat}{u:List MemOp}(h:∀ op∈u,∀ mk,op.act = .mark mk→Neutral mk):u.foldl (deafStep g) d=d:=by
 induction u generalizing d with
 | nil=>rfl
 | cons y u ih =>
  have e:deafStep g d y=d:=by
   unfold deafStep
   split
   ·rename_i h'; exact absurd rfl ((h y (by simp) _ h').ne_disable)
   ·rename_i h'; exact absurd rfl ((h y (by simp) _ h').ne_enable)
   ·rfl
  rw [List.foldl_cons,e]
  exact ih λ op an=>h op (List.mem_cons_of_mem _ an)
theorem apk{i:Nat}{t:Trace}{es:Array Event}{fn:FuncId}{pos:String}(h:∀ e∈es,iP R H n m e):Deaf (t++MemOp.ofEvents i fn pos es) i=Deaf t i:=by
 have e:MemOp.ofEvents i fn pos es=(MemOp.ofEvents i fn pos es).toList.toArray:=by simp
 rw [e,Deaf_append]
 refine apl λ op an mk hm=>?_
 obtain ⟨e,he,rfl⟩:=Cz (by simpa using an)
 exact afv (h e he) mk hm
theorem aq9(h:iP R H n m e)(a:Addr):MemAct.ofEvent e ≠ .mark (.release a):=by
 intro hm
 have:=afv h _ hm
 cases this
end
section
variable {B:Base} {am aw:Option Addr} {th:Nat→Option Th} {mu:Nat→Bool} {dd:Nat→Nat} {sh:List Nat} {fr:Option Nat} {ch:ah} {w w':World} {i:Nat} {R R':az} {H H':ah} {t:Trace}
theorem M6(hM:fS B th ch w)(bp:∀ b,b∈sh→∃ o,(b,o)∈ch)(sG:∀ b,fr=some b→(∃ o,(b,o)∈ch)∧b ∉ sh)(h:dk am aw th mu dd sh fr w.heap.size t)(hi:th i=some ⟨R,H⟩)(_:mu i=false∨w'=w)
  {es:Array Event} (oN:∀ e∈es,iP R H w.heap.size w'.heap.size e) (hem:mu i=false∨es=#[]) (hu:gv B R H w R' H' w') (fn:FuncId) (pos:String) :
  fS B (gA th i (some ⟨R',H'⟩)) ch w'∧dk am aw (gA th i (some ⟨R',H'⟩)) mu dd sh fr w'.heap.size (t++MemOp.ofEvents i fn pos es):=by
 refine ⟨hM.upd hi hu,?_⟩
 have:=dk.app (u:=MemOp.ofEvents i fn pos es) (n':=w'.heap.size) (R':=R') (H':=H') hM rfl bp sG h hi (λ op an=>by obtain ⟨e,_,rfl⟩:=Cz an; rfl)
  (λ op an a ha=>by obtain ⟨e,he,rfl⟩:=Cz an; exact .inl ⟨ara (oN e he) ha,aq7 (oN e he) ha⟩) (λ op an=>by obtain ⟨e,he,rfl⟩:=Cz an; exact aq8 (oN e he))
  (λ op an a=>by obtain ⟨e,he,rfl⟩:=Cz an; exact aq9 (oN e he) a) (apk oN) ?_ hu.size hu.Ix hu.zU
 ·rwa [h.deaf i,nj] at this
 ·refine hem.imp id λ e=>?_
  subst e
  intro k a hk Lx
  rw [ofEvents_none,Array.append_empty] at Lx
  obtain ⟨x,hx,_⟩:=touch_of Lx
  have:=lt_size_of_getElem? hx
  omega
theorem agi(hM:fS B th ch w)(bp:∀ b,b∈sh→∃ o,(b,o)∈ch)(sG:∀ b,fr=some b→(∃ o,(b,o)∈ch)∧b ∉ sh)(h:dk am aw th mu dd sh fr w.heap.size t)(hi:th i=some ⟨R,H⟩)(hu:gv B R H w R' H' w) :
  fS B (gA th i (some ⟨R',H'⟩)) ch w∧dk am aw (gA th i (some ⟨R',H'⟩)) mu dd sh fr w.heap.size t:=by
 have:=M6 (w':=w) (es:=#[]) hM bp sG h hi (.inr rfl) (by simp) (.inr rfl) hu 0 ""
 rw [ofEvents_none,Array.append_empty] at this
 exact this
end
theorem aKx{i:Nat}{fn:FuncId}{pos:String}{es:Array Event}(h:∀ e∈es,Event.mute e=true){n:Nat} :
  (∀ op∈MemOp.ofEvents i fn pos es,op.g=i)∧(∀ op∈MemOp.ofEvents i fn pos es,op.act.touch? = none)∧(∀ op∈MemOp.ofEvents i fn pos es,op.act.low n)∧∀ op∈MemOp.ofEvents i fn pos es,∀ a,op.act ≠ .mark (.release a):=by
 have key:∀ e:Event,e.mute=true→MemAct.ofEvent e = .mark .disable∨MemAct.ofEvent e = .mark .enable:=by
  intro e he
  obtain ⟨loc,wr,sy⟩:=e
  cases loc with
  | mark m=>cases m <;> simp [Event.mute] at he <;> cases wr <;> cases sy <;> simp [MemAct.ofEvent]
  | _=>simp [Event.mute] at he
 have k2:∀ op∈MemOp.ofEvents i fn pos es,op.g=i∧(op.act = .mark .disable∨op.act = .mark .enable):=λ op an=>by
  obtain ⟨e,he,rfl⟩:=Cz an; exact ⟨rfl,key e (h e he)⟩
 refine ⟨λ op an=>(k2 op an).1,λ op an=>?_,λ op an=>?_,λ op an a=>?_⟩ <;> rcases (k2 op an).2 with e | e <;> rw [e]
 ·rfl
 ·rfl
 ·trivial
 ·trivial
 ·intro x; cases x
 ·intro x; cases x
theorem dk.leaves{am aw:Option Addr}{th:Nat→Option Th}{mu:Nat→Bool}{dd:Nat→Nat}{sh:List Nat}{fr:Option Nat}{n i:Nat}{t:Trace}{es:Array Event}{fn:FuncId}{pos:String}(h:dk am aw th mu dd sh fr n t)(oN:∀ e∈es,Event.mute e=true) :
  dk am aw th mu (gS dd i (deafBehind (dd i) es)) sh fr n (t++MemOp.ofEvents i fn pos es):=by
 obtain ⟨h1,h2,h3,h4⟩:=aKx (i:=i) (fn:=fn) (pos:=pos) oN (n:=n)
 exact h.mute h1 h2 h3 h4 (by rw [Deaf_own,h.deaf i])
structure yH (P:Program) (B:Base) (R:az) (H:ah) (gs:Array Goroutine) (w:World) (t:Trace) (q dd:Nat→Nat):Prop where
 mem:fS B (only ⟨R,H⟩) [] w
 tr:dk none none (only ⟨R,H⟩) (λ _=>false) dd [] none w.heap.size t
 d0:dd 0=0
 dz:∀ i,gs.size≤i→dd i=0
 lv:∀ i g,0 < i→gs[i]? = some g→QuitsD P (q i) (dd i) g
section
variable (P:Program) (B:Base) (Post:Value→World→Prop)
def jD(R:az)(H:ah)(g:Goroutine):Prop:=∀ gs w sl t q dd,gs[0]? = some g→yH P B R H gs w t q dd→l8 P Post (crowd gs w sl) t
end
section
variable {P:Program} {B:Base} {Post:Value→World→Prop} {R:az} {H:ah} {g:Goroutine}
theorem yH.fits{gs:Array Goroutine}{w:World}{t:Trace}{q dd:Nat→Nat}(h:yH P B R H gs w t q dd):Fits B R H w:=h.mem.fits 0 ⟨R,H⟩ rfl
theorem yH.at{gs:Array Goroutine}{w:World}{t:Trace}{q dd:Nat→Nat}(h:yH P B R H gs w t q dd)(d:Nat):yH P B R H gs (w.at d) t q dd:=⟨h.mem.at d,h.tr,h.d0,h.dz,h.lv⟩
theorem jD.pick(hs:g.status = .running)
  (h:∀ gs w sl rS d t q dd,gs[0]? = some g→yH P B R H gs (w.at d) t q dd→stepT P (crowd gs w sl)=runT P (crowd gs (w.at d) rS) 0→l8 P Post (crowd gs w sl) t):jD P B Post R H g:=by
 have key:∀ M gs w sl t q dd,dE gs.size q≤M→gs[0]? = some g→yH P B R H gs w t q dd→l8 P Post (crowd gs w sl) t:=by
  intro M
  induction M with
  | zero =>
   intro gs w sl t q dd hM h0 hA
   have xu:∀ x∈gs,awake x:=by
    intro x hx
    obtain ⟨i,hi,rfl⟩:=Array.mem_iff_getElem.1 hx
    rcases Nat.eq_zero_or_pos i with rfl | jS
    ·have:gs[0]=g:=by simpa [q6 hi] using h0
     rw [this]; exact awake_of (.inl hs)
    ·exact awake_of ((hA.lv i _ jS (q6 hi)).status.elim .inl λ x=>.inr (.inr x))
   obtain ⟨i,x,d,rS,hi,hx,de⟩:=crowd_pick (P:=P) (w:=w) (sl:=sl) xu ⟨0,g,h0,hs⟩
   rcases Nat.eq_zero_or_pos i with rfl | jS
   ·exact h gs w sl rS d t q dd h0 (hA.at d) de
   ·have hq:=hA.lv i x jS hi
    have bV:i < gs.size:=(Array.getElem?_eq_some_iff.1 hi).1
    have hq0:q i=0:=by
     have h2:∀ (j:Nat),i < j→q i≤dE j q:=by
      intro j hj
      induction j with
      | zero=>omega
      | succ j ih =>
       rcases Nat.lt_or_ge i j with bV | vw
       ·have:=ih bV; simp only [dE]; omega
       ·obtain rfl:i=j:=by omega
        simp only [dE]; omega
     have:=h2 gs.size bV
     omega
    rw [hq0] at hq
    rw [show x.status = .finished from hq.1] at hx; cases hx
  | succ M ih =>
   intro gs w sl t q dd hM h0 hA
   have xu:∀ x∈gs,awake x:=by
    intro x hx
    obtain ⟨i,hi,rfl⟩:=Array.mem_iff_getElem.1 hx
    rcases Nat.eq_zero_or_pos i with rfl | jS
    ·have:gs[0]=g:=by simpa [q6 hi] using h0
     rw [this]; exact awake_of (.inl hs)
    ·exact awake_of ((hA.lv i _ jS (q6 hi)).status.elim .inl λ x=>.inr (.inr x))
   obtain ⟨i,x,d,rS,hi,hx,de⟩:=crowd_pick (P:=P) (w:=w) (sl:=sl) xu ⟨0,g,h0,hs⟩
   rcases Nat.eq_zero_or_pos i with rfl | jS
   ·exact h gs w sl rS d t q dd h0 (hA.at d) de
   ·have hq:=hA.lv i x jS hi
    have vy:(i == 0)=false:=by simp; omega
    have bV:i < gs.size:=(Array.getElem?_eq_some_iff.1 hi).1
    cases XT:q i with
    | zero=>rw [XT] at hq; rw [show x.status = .finished from hq.1] at hx; cases hx
    | succ k =>
     rw [XT] at hq
     rcases hq with hf | ⟨_,x',es,oN,aBy,XM⟩
     ·rw [hf.1] at hx; cases hx
     have LC:=runT_crowd_go (P:=P) (sl:=rS) (i:=i) hi (by rw [vy]; exact aBy (w.at d))
     refine l8.step (de.trans LC) ?_
     have gp:((gs.map (woken P x x' (w.at d))).setIfInBounds i x').size=gs.size:=by simp
     have aBz:=F5 (f:=q) (g:=λ j=>if j=i then k else q j) bV (λ j hj=>by simp [hj])
     simp only [if_true,XT] at aBz
     refine ih _ _ _ _ (λ j=>if j=i then k else q j) (gS dd i (deafBehind (dd i) es)) (by rw [gp]; omega) ?_ ⟨(hA.at d).mem,hA.tr.leaves oN,?_,λ j hj=>?_,λ j y hj hy=>?_⟩
     ·have da:i≠0:=by omega
      rw [nq da,Array.getElem?_map,h0]
      simp [woken_run hs]
     ·rw [uN (by omega)]; exact hA.d0
     ·rw [gp] at hj; rw [uN (by omega)]; exact hA.dz j hj
     ·by_cases gE:i=j
      ·subst gE
       rw [uT (by simpa using bV)] at hy
       obtain rfl:=kz hy
       simpa [uO] using XM
      ·rw [nq gE,Array.getElem?_map] at hy
       obtain ⟨z,hz,rfl⟩:=Option.map_eq_some_iff.1 hy
       have hqj:=hA.lv j z hj hz
       rw [woken_quitsD hqj,uN (Ne.symm gE)]
       simpa [Ne.symm gE] using hqj
 exact λ gs w sl t q dd h0 hA=>key _ gs w sl t q dd (dr _) h0 hA
theorem aa7{ch:ah}:∀ b,b∈([]:List Nat)→∃ o:Obj,(b,o)∈ch:=λ _ h=>by cases h
theorem aa6{ch:ah}:∀ b,(none:Option Nat)=some b→(∃ o:Obj,(b,o)∈ch)∧b ∉ ([]:List Nat):=λ _ h=>by cases h
theorem jD.step(hs:g.status = .running)(h:∀ w,Fits B R H w→∃ g' w' es R' H',stepG P true g w = .go g' w' es∧(∀ e∈es,iP R H w.heap.size w'.heap.size e)∧gv B R H w R' H' w'∧jD P B Post R' H' g'):jD P B Post R H g:=by
 refine jD.pick hs λ gs w sl rS d t q dd h0 hA de=>?_
 obtain ⟨g',w',es,R',H',h1,h2,h3,h4⟩:=h _ hA.fits
 have LC:=runT_crowd_go (P:=P) (sl:=rS) (i:=0) h0 (show stepG P (0 == 0) g (w.at d)=_ from h1)
 refine l8.step (de.trans LC) ?_
 have bV:0 < gs.size:=(Array.getElem?_eq_some_iff.1 h0).1
 have de:=M6 hA.mem aa7 aa6 hA.tr (i:=0) rfl (.inl rfl) h2 (.inl rfl) h3 g.frame.fn g.frame.place
 rw [RX] at de
 refine h4 _ _ _ _ q dd (by simp [bV]) ⟨de.1,de.2,hA.d0,λ i hi=>hA.dz i (by simpa using hi),λ j x hj hx=>?_⟩
 have da:0≠j:=by omega
 rw [nq da,Array.getElem?_map] at hx
 obtain ⟨y,hy,rfl⟩:=Option.map_eq_some_iff.1 hx
 have hq:=hA.lv j y hj hy
 rw [woken_quitsD hq]
 exact hq
theorem jD.ghost{R':az}{H':ah}(hg:∀ w,Fits B R H w→gv B R H w R' H' w)(h:jD P B Post R' H' g):jD P B Post R H g:=by
 intro gs w sl t q dd h0 hA
 have de:=agi hA.mem aa7 aa6 hA.tr (i:=0) rfl (hg w hA.fits)
 rw [RX] at de
 exact h gs w sl t q dd h0 ⟨de.1,de.2,hA.d0,hA.dz,hA.lv⟩
def FE(P:Program)(B:Base)(Post:Value→World→Prop):Jd P B true:=⟨jD P B Post,jD.step,jD.ghost⟩
end
end Go.Lg
