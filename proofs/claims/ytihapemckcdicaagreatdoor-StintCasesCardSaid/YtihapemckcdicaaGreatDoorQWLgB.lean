/- Traces; goroutine 0 beside those that leave. Conditions: none. -/
import Derived.Test.YtihapemckcdicaaGreatDoorQWLgA
import Derived.Conc.CrowdTrace
import Derived.Conc.JoinTrace
import Derived.Conc.QuitsD
namespace Go.Lg
open Go.Conc
inductive Tree:Type 1
 | node (ι:Type) (f:ι→Tree):Tree
inductive J6:Tree→Tree→Prop
 | mk {ι:Type} (f:ι→Tree) (i:ι):J6 (f i) (.node ι f)
theorem J6.acc(t:Tree):Acc J6 t:=by
 induction t with
 | node ι f ih=>exact ⟨_,λ y h=>by cases h; exact ih _⟩
abbrev Ms:=Option Tree
inductive p9:Ms→Ms→Prop
 | some {a b:Tree}:J6 a b→p9 (some a) (some b)
 | none {b:Tree}:p9 none (some b)
theorem p9.aeA:Acc p9 (Option.none:Ms):=⟨_,λ y h=>by cases h⟩
theorem p9.acc(m:Ms):Acc p9 m:=by
 cases m with
 | none=>exact p9.aeA
 | some t =>
  have:=J6.acc t
  induction this with
  | intro t _ ih =>
   refine ⟨_,λ y h=>?_⟩
   cases h with
   | some h=>exact ih _ h
   | none=>exact p9.aeA
inductive One {α:Type 1} (r:α→α→Prop):List α→List α→Prop
 | head {a b:α} {l:List α}:r a b→One r (a::l) (b::l)
 | tail {a:α} {l l':List α}:One r l l'→One r (a::l) (a::l')
theorem One.acc{α:Type 1}{r:α→α→Prop}(h:∀ a,Acc r a):∀ l:List α,Acc (One r) l
 | []=>⟨_,λ y h=>by cases h⟩
 | b::l=>by
  have hb:=h b
  have hl:=One.acc h l
  induction hb generalizing l with
  | intro b _ ihb =>
   induction hl with
   | intro l hl' ihl =>
    refine ⟨_,λ y hy=>?_⟩
    cases hy with
    | head hr=>exact ihb _ hr _ ⟨_,hl'⟩
    | tail ho=>exact ihl _ ho
theorem One.wf:WellFounded (One p9):=⟨One.acc p9.acc⟩
theorem One.set{α:Type 1}{r:α→α→Prop}:∀ {l:List α} {i:Nat} {a b:α},l[i]? = some b→r a b→One r (l.set i a) l
 | [],_,_,_,h,_=>by cases h
 | x::l,0,a,b,h,hr=>by cases h; exact .head hr
 | x::l,i+1,a,b,h,hr=>.tail (One.set (by simpa using h) hr)
def sX:Nat→Tree
 | 0=>.node Empty Empty.elim
 | n+1=>.node Unit λ _=>sX n
theorem akd(n:Nat):p9 (some (sX n)) (some (sX (n+1))):=.some (.mk (λ _:Unit=>sX n) ())
section
variable (P:Program) (B:Base) (main:Bool) (K:az→ah→Goroutine→Prop)
def Dp:Tree→az→ah→Goroutine→Prop
 | .node _ f=>λ R H g=>K R H g ∨
  (g.status = .running∧∀ w,Fits B R H w→∃ g' w' es R' H' i,stepG P main g w = .go g' w' es∧(∀ e∈es,iG R H w.heap.size w'.heap.size e)∧gu B R H w R' H' w'∧Dp (f i) R' H' g') ∨
  (∃ R' H' i,(∀ w,Fits B R H w→gu B R H w R' H' w)∧Dp (f i) R' H' g)
def Own(R:az)(H:ah)(g:Goroutine):Prop:=∃ T,Dp P B main K T R H g
theorem Own.stop{R:az}{H:ah}{g:Goroutine}(h:K R H g):Own P B main K R H g:=⟨.node Empty Empty.elim,.inl h⟩
open Classical in
def NO:Jd P B main where
 J:=Own P B main K
 step:=by
  intro R H g hs h
  refine ⟨.node { x:az × ah × Goroutine // Own P B main K x.1 x.2.1 x.2.2 } (λ x=>x.2.choose),.inr (.inl ⟨hs,λ w hw=>?_⟩)⟩
  obtain ⟨g',w',es,R',H',h1,h2,h3,h4⟩:=h w hw
  exact ⟨g',w',es,R',H',⟨(R',H',g'),h4⟩,h1,h2,h3,Exists.choose_spec h4⟩
 ghost:=by
  intro R H R' H' g hg h
  exact ⟨.node Unit (λ _=>h.choose),.inr (.inr ⟨R',H',(),hg,h.choose_spec⟩)⟩
end
theorem nn{α:Type}{a:Option α}{u:α}{C:Prop}(h:a=none)(h':a=some u):C:=by rw [h] at h'; cases h'
structure Th where
 R:az
 H:ah
def gy(th:Nat→Option Th)(i:Nat)(x:Option Th):Nat→Option Th:=λ j=>if j=i then x else th j
theorem fM(th:Nat→Option Th)(i:Nat)(x:Option Th):gy th i x i=x:=by simp [gy]
theorem eQ{th:Nat→Option Th}{i j:Nat}{x:Option Th}(h:j≠i):gy th i x j=th j:=by simp [gy,h]
structure fO (B:Base) (th:Nat→Option Th) (ch:ah) (w:World):Prop where
 fits:∀ i x,th i=some x→Fits B x.R x.H w
 apart:∀ i j x y,i≠j→th i=some x→th j=some y→∀ b o,(b,o)∈x.H→y.R b=none∧∀ o',(b,o') ∉ y.H
 oH:∀ c o,(c,o)∈ch→w.heap[c]? = some o
 mN:∀ c o,(c,o)∈ch→∀ i x,th i=some x→x.R c=none∧∀ o',(c,o') ∉ x.H
theorem Fits.at{B:Base}{R:az}{H:ah}{w:World}(h:Fits B R H w)(d:Nat):Fits B R H (w.at d):=⟨h.r,h.h,h.nd,h.dj,h.os,h.tape,h.out⟩
theorem fO.at{B:Base}{th:Nat→Option Th}{ch:ah}{w:World}(h:fO B th ch w)(d:Nat):fO B th ch (w.at d) :=
 ⟨λ i x hx=>(h.fits i x hx).at d,h.apart,h.oH,h.mN⟩
section
variable {B:Base} {th:Nat→Option Th} {ch:ah} {w w':World} {i:Nat} {R R':az} {H H':ah}
theorem fO.upd(h:fO B th ch w)(hi:th i=some ⟨R,H⟩)(hu:gu B R H w R' H' w'):fO B (gy th i (some ⟨R',H'⟩)) ch w':=by
 have EO {j:Nat} {y:Th} (hy:th j=some y):(∀ b o,y.R b=some o→b < w.heap.size)∧(∀ b o,(b,o)∈y.H→b < w.heap.size) :=
  ⟨λ b o x=>l9 ((h.fits j y hy).r b o x),λ b o x=>l9 ((h.fits j y hy).h b o x)⟩
 refine ⟨λ j y hy=>?_,λ j k x y oq hx hy b o hb=>?_,λ c o hc=>?_,λ c o hc j y hy=>?_⟩
 ·by_cases hj:j=i
  ·subst hj; rw [fM] at hy; cases hy; exact hu.fits
  ·rw [eQ hj] at hy
   have hf:=h.fits j y hy
   have hl:=EO hy
   refine ⟨λ b o x=>?_,λ b o x=>?_,hf.nd,hf.dj,hu.fits.os,hu.fits.tape,hu.fits.out⟩
   ·rw [hu.same b (hl.1 b o x) λ o' fA=>nn (h.apart i j _ _ (Ne.symm hj) hi hy b o' fA).1 x]
    exact hf.r b o x
   ·rw [hu.same b (hl.2 b o x) λ o' fA=>(h.apart i j _ _ (Ne.symm hj) hi hy b o' fA).2 o x]
    exact hf.h b o x
 ·by_cases hj:j=i
  ·subst hj
   rw [fM] at hx; cases hx
   rw [eQ (Ne.symm oq)] at hy
   rcases hu.Aa b o hb with ⟨o',fA⟩ | tV
   ·exact h.apart j k _ _ oq hi hy b o' fA
   ·refine ⟨?_,λ o' fA=>?_⟩
    ·cases hR:y.R b with
     | none=>rfl
     | some u=>have:=(EO hy).1 b u hR; omega
    ·have:=(EO hy).2 b o' fA; omega
  ·rw [eQ hj] at hx
   by_cases hk:k=i
   ·subst hk
    rw [fM] at hy; cases hy
    have bS:=(EO hx).2 b o hb
    have l8:=h.apart j k _ _ oq hx hi b o hb
    refine ⟨?_,λ o' fA=>?_⟩
    ·cases hR:R' b with
     | none=>simp [hR]
     | some u =>
      rcases hu.IF b u hR with x | ⟨o',x⟩ | x
      ·exact nn l8.1 x
      ·exact absurd x (l8.2 o')
      ·omega
    ·rcases hu.Aa b o' fA with ⟨u,x⟩ | x
     ·exact l8.2 u x
     ·omega
   ·rw [eQ hk] at hy
    exact h.apart j k _ _ oq hx hy b o hb
 ·have bS:=l9 (h.oH c o hc)
  rw [hu.same c bS λ o' fA=>(h.mN c o hc i _ hi).2 o' fA]
  exact h.oH c o hc
 ·by_cases hj:j=i
  ·subst hj
   rw [fM] at hy; cases hy
   have bS:=l9 (h.oH c o hc)
   have l8:=h.mN c o hc j _ hi
   refine ⟨?_,λ o' fA=>?_⟩
   ·cases hR:R' c with
    | none=>simp [hR]
    | some u =>
     rcases hu.IF c u hR with x | ⟨o',x⟩ | x
     ·exact nn l8.1 x
     ·exact absurd x (l8.2 o')
     ·omega
   ·rcases hu.Aa c o' fA with ⟨u,x⟩ | x
    ·exact l8.2 u x
    ·omega
  ·rw [eQ hj] at hy
   exact h.mN c o hc j y hy
theorem fO.drop(h:fO B th ch w):fO B (gy th i none) ch w:=by
 have key:∀ j y,gy th i none j=some y→th j=some y:=λ j y hy=>by
  by_cases hj:j=i
  ·subst hj; rw [fM] at hy; cases hy
  ·rwa [eQ hj] at hy
 exact ⟨λ j y hy=>h.fits j y (key j y hy),λ j k x y oq hx hy=>h.apart j k x y oq (key j x hx) (key k y hy),h.oH,λ c o hc j y hy=>h.mN c o hc j y (key j y hy)⟩
theorem fO.add{c:Nat}(h:fO B th ch w)(hi:th i=some ⟨R,H⟩)(hR:aR R' R):fO B (gy th c (some ⟨R',[]⟩)) ch w:=by
 refine ⟨λ j y hy=>?_,λ j k x y oq hx hy b o hb=>?_,h.oH,λ a o ha j y hy=>?_⟩
 ·by_cases hj:j=c
  ·subst hj; rw [fM] at hy; cases hy
   have hf:=h.fits i _ hi
   exact ⟨λ b o x=>hf.r b o (hR b o x),λ b o x=>(by cases x),List.nodup_nil,λ b o x=>(by cases x),hf.os,hf.tape,hf.out⟩
  ·rw [eQ hj] at hy; exact h.fits j y hy
 ·by_cases hj:j=c
  ·subst hj; rw [fM] at hx; cases hx; cases hb
  ·rw [eQ hj] at hx
   by_cases hk:k=c
   ·subst hk
    rw [fM] at hy; cases hy
    refine ⟨?_,λ o' x=>by cases x⟩
    cases Lf:R' b with
    | none=>simp [Lf]
    | some u =>
     have hRu:=hR b u Lf
     by_cases gR:j=i
     ·subst gR
      rw [hi] at hx; cases hx
      exact nn ((h.fits j _ hi).dj b o hb) hRu
     ·exact nn (h.apart j i _ _ gR hx hi b o hb).1 hRu
   ·rw [eQ hk] at hy; exact h.apart j k x y oq hx hy b o hb
 ·by_cases hj:j=c
  ·subst hj; rw [fM] at hy; cases hy
   refine ⟨?_,λ o' x=>by cases x⟩
   cases Lf:R' a with
   | none=>simp [Lf]
   | some u=>exact nn (h.mN a o ha i _ hi).1 (hR a u Lf)
  ·rw [eQ hj] at hy; exact h.mN a o ha j y hy
end
abbrev Kn(t:Trace)(g i:Nat):Prop:=Go.Conc.Knows t g i
def blk:Loc→Option Nat
 | .cell a=>some a.block
 | .obj r=>some r
 | _=>none
theorem aQL{x:MemAct}{a:Touch}{n b:Nat}(h:x.low n)(ht:x.touch? = some a)(hb:blk a.loc=some b):b < n:=by
 cases x with
 | access e =>
  simp only [MemAct.touch?,jl] at ht
  subst ht
  obtain ⟨loc,wr,sy⟩:=e
  cases loc <;> simp [blk] at hb <;> subst hb <;> exact h
 | mark m =>
  cases m <;> simp only [MemAct.touch?,jl,reduceCtorEq] at ht
  all_goals (subst ht; simp [blk] at hb; subst hb; exact h)
 | _=>simp [MemAct.touch?] at ht
def aej(ch:ah)(R:az)(H:ah)(n:Nat)(a:Touch):Prop :=
 ∃ b,blk a.loc=some b∧((a.write=false∧∃ o,R b=some o)∨(∃ o,(b,o)∈H)∨n≤b∨(a.kind = .atomic∧∃ o,(b,o)∈ch))
theorem yt{t u:Trace}{k:Nat}{a:Touch}(h:touchAt (t++u) k=some a):(k < t.size∧touchAt t k=some a)∨(∃ op,(t++u)[k]? = some op∧op∈u∧op.act.touch? = some a):=by
 obtain ⟨x,hx,ry⟩:=touch_of h
 rcases getElem?_append_cases hx with ⟨hk,B6⟩ | ⟨_,hxu⟩
 ·exact .inl ⟨hk,by rw [touchAt_of B6]; exact ry⟩
 ·exact .inr ⟨x,hx,hxu,ry⟩
theorem RR{t:Trace}{k b n:Nat}{a:Touch}(hl:∀ op∈t,op.act.low n)(h:touchAt t k=some a)(hb:blk a.loc=some b):b < n:=by
 obtain ⟨x,hx,ry⟩:=touch_of h
 exact aQL (hl x (mem_of_getElem? hx)) ry hb
section
variable {B:Base} {th:Nat→Option Th} {ch:ah} {cls:Option Nat} {w:World} {n n' i:Nat} {R R':az} {H H':ah} {t u:Trace}
theorem akg{said:Bool}(h:¬ Race said t)(hu:∀ op∈u,op.act.touch? = none):¬ Race said (t++u):=by
 rintro ⟨i,j,fY,⟨a,b,ha,hb,hc⟩,n1,n2⟩
 rcases yt (u:=u) (a:=a) (k:=i) ha with ⟨hi,ha'⟩ | ⟨op,_,h2,h3⟩
 ·rcases yt (u:=u) (a:=b) (k:=j) hb with ⟨hj,gI⟩ | ⟨op,_,h2,h3⟩
  ·exact h ⟨i,j,fY,⟨a,b,ha',gI,hc⟩,λ e=>n1 (hb_app u e),λ e=>n2 (hb_app u e)⟩
  ·rw [hu op h2] at h3; cases h3
 ·rw [hu op h2] at h3; cases h3
end
def dA:Nat→(Nat→Nat)→Nat
 | 0,_=>0
 | j+1,f=>dA j f+f j
theorem N8{f g:Nat→Nat}:∀ {j:Nat},(∀ i,i < j→f i=g i)→dA j f=dA j g
 | 0,_=>rfl
 | j+1,h=>by rw [dA,dA,N8 (λ i hi=>h i (by omega)),h j (by omega)]
theorem FP{f g:Nat→Nat}{i:Nat}:∀ {j:Nat},i < j→(∀ k,k≠i→g k=f k)→dA j g+f i=dA j f+g i
 | j+1,h,hg=>by
  rcases Nat.lt_or_ge i j with bS | tV
  ·have:=FP bS hg
   simp only [dA,hg j (by omega)]
   omega
  ·obtain rfl:i=j:=by omega
   simp only [dA]
   rw [N8 (g:=f) (λ a ha=>hg a (by omega))]
   omega
section
variable (P:Program) (Post:Value→World→Prop)
def lX(m:Machine)(t:Trace):Prop:=∃ N last o w' t',runNT P (N+1) m t=(.ended o w',t')∧runN P N m = .next last∧step P last = .ended o w'∧Good P Post last o w' t'
variable {P Post}
theorem lX.step{m m':Machine}{t:Trace}{ops:Array MemOp}(hs:stepT P m=(.next m',ops))(h:lX P Post m' (t++ops)):lX P Post m t:=by
 obtain ⟨N,last,o,w',t',h1,h2,h3,h4⟩:=h
 exact ⟨N+1,last,o,w',t',by rw [runNT_succ_next hs]; exact h1,by rw [runN_succ_next hs]; exact h2,h3,h4⟩
theorem lX.end{m:Machine}{t:Trace}{o:Outcome}{w':World}{ops:Array MemOp}(hs:stepT P m=(.ended o w',ops))(h:Good P Post m o w' (t++ops)):lX P Post m t :=
 ⟨0,m,o,w',t++ops,by simp [runNT,hs],rfl,by simp [Go.step,hs],h⟩
end
theorem CD{g:Nat}{fn:FuncId}{pos:String}{es:Array Event}{op:MemOp}(h:op∈MemOp.ofEvents g fn pos es):∃ e∈es,op={ g,fn,pos,act:=.ofEvent e }:=by
 rw [ofEvents_eq] at h
 obtain ⟨e,he,rfl⟩:=Array.mem_map.1 h
 exact ⟨e,he,rfl⟩
section
variable {R:az} {H:ah} {n m:Nat} {e:Event} {ch:ah}
theorem as7{a:Touch}(h:iG R H n m e)(ht:(MemAct.ofEvent e).touch? = some a):aej ch R H n a:=by
 obtain ⟨loc,wr,sy⟩:=e
 have key:∀ b,Du R H n wr b→((wr=false∧∃ o,R b=some o)∨(∃ o,(b,o)∈H)∨n≤b):=λ b hb=>by
  rcases hb with ⟨h1,h2⟩ | h2 | h2
  ·exact .inl ⟨h1,Option.isSome_iff_exists.1 h2⟩
  ·exact .inr (.inl h2)
  ·exact .inr (.inr h2)
 cases loc with
 | cell a' =>
  obtain ⟨h1,_,h3⟩:=h
  simp only at h1; subst h1
  have e1:MemAct.ofEvent ⟨.cell a',wr,false⟩ = .access ⟨.cell a',wr,false⟩:=by cases wr <;> rfl
  rw [e1] at ht
  simp only [MemAct.touch?,jl] at ht
  subst ht
  refine ⟨a'.block,rfl,?_⟩
  rcases key _ h3 with x | x | x
  ·exact .inl x
  ·exact .inr (.inl x)
  ·exact .inr (.inr (.inl x))
 | obj b =>
  obtain ⟨h1,_,h3⟩:=h
  simp only at h1; subst h1
  have e1:MemAct.ofEvent ⟨.obj b,wr,false⟩ = .access ⟨.obj b,wr,false⟩:=by cases wr <;> rfl
  rw [e1] at ht
  simp only [MemAct.touch?,jl] at ht
  subst ht
  refine ⟨b,rfl,?_⟩
  rcases key _ h3 with x | x | x
  ·exact .inl x
  ·exact .inr (.inl x)
  ·exact .inr (.inr (.inl x))
 | mark mk =>
  cases mk <;> simp [iG] at h
  cases wr <;> cases sy <;> simp [MemAct.ofEvent,MemAct.touch?] at ht
 | _=>simp [iG] at h
theorem as5(h:iG R H n m e):(MemAct.ofEvent e).low m:=by
 obtain ⟨loc,wr,sy⟩:=e
 cases loc with
 | cell a' =>
  obtain ⟨h1,h2,_⟩:=h
  simp only at h1; subst h1
  cases wr <;> exact h2
 | obj b =>
  obtain ⟨h1,h2,_⟩:=h
  simp only at h1; subst h1
  cases wr <;> exact h2
 | mark mk =>
  cases mk <;> simp [iG] at h
  cases wr <;> cases sy <;> trivial
 | _=>simp [iG] at h
theorem agQ(h:iG R H n m e):∀ mk,MemAct.ofEvent e = .mark mk→Neutral mk:=by
 obtain ⟨loc,wr,sy⟩:=e
 intro mk hm
 cases loc with
 | cell a'=>obtain ⟨h1,_⟩:=h; simp only at h1; subst h1; cases wr <;> cases hm
 | obj b=>obtain ⟨h1,_⟩:=h; simp only at h1; subst h1; cases wr <;> cases hm
 | mark mk' =>
  cases mk' <;> simp [iG] at h
  cases wr <;> cases sy <;> (cases hm; rfl)
 | _=>simp [iG] at h
end
def only(x:Th):Nat→Option Th:=λ i=>if i=0 then some x else none
theorem Sw(x y:Th):gy (only x) 0 (some y)=only y:=by funext i; unfold gy only; split <;> rfl
open Go.ConcN
def gJ(f:Nat→Nat)(i x:Nat):Nat→Nat:=λ j=>if j=i then x else f j
theorem uN(f:Nat→Nat)(i x:Nat):gJ f i x i=x:=by simp [gJ]
theorem uM{f:Nat→Nat}{i j x:Nat}(h:j≠i):gJ f i x j=f j:=by simp [gJ,h]
theorem m9(f:Nat→Nat)(i:Nat):gJ f i (f i)=f:=by funext j; unfold gJ; split <;> simp [*]
def pe(f:Nat→Bool)(i:Nat)(x:Bool):Nat→Bool:=λ j=>if j=i then x else f j
theorem Te(f:Nat→Bool)(i:Nat)(x:Bool):pe f i x i=x:=by simp [pe]
theorem ac2{f:Nat→Bool}{i j:Nat}{x:Bool}(h:j≠i):pe f i x j=f j:=by simp [pe,h]
def Be(a:Option Addr)(t:Trace)(k:Nat):Prop:=∃ x p,a=some x∧t.act? p=some (.mark (.releaseMerge x))∧t.heard p∧Before t k p
theorem Be.app{a:Option Addr}{t:Trace}{k:Nat}(h:Be a t k)(u:Trace):Be a (t++u) k:=by
 obtain ⟨x,p,h1,h2,h3,h4⟩:=h
 have hp:=lt_of_act? h2
 exact ⟨x,p,h1,by rw [act?_old hp]; exact h2,(heard_old hp).2 h3,h4.app u⟩
structure dg (am aw:Option Addr) (th:Nat→Option Th) (mu:Nat→Bool) (dd:Nat→Nat) (sh:List Nat) (fr:Option Nat) (n:Nat) (t:Trace):Prop where
 own:∀ i x,th i=some x→∀ b o,(b,o)∈x.H→∀ k a,touchAt t k=some a→blk a.loc=some b→Kn t i k
 read:∀ i x,th i=some x→∀ b o,x.R b=some o→∀ k a,touchAt t k=some a→blk a.loc=some b→a.write=true→Kn t i k
 shr:∀ b,b∈sh→∀ k a,touchAt t k=some a→blk a.loc=some b→a.kind = .atomic∨(a.kind = .said∧Kn t 0 k)∨∀ i x,th i=some x→Kn t i k
 free:∀ b,fr=some b→∀ k a,touchAt t k=some a→blk a.loc=some b→(∀ i x,th i=some x→Kn t i k)∨Be am t k
 low:∀ op∈t,op.act.low n
 all:∀ k a,touchAt t k=some a→a.loc.isMemory=true→(a.kind ≠ .atomic∨t.heard k)→(∃ i x,th i=some x∧mu i=false∧Kn t i k)∨Be aw t k
 deaf:∀ i,Deaf t i=dd i
 norel:∀ a,NoRelease a t
 clean:∀ said,¬ Race said t
 rX:∀ k a,touchAt t k=some a→a.kind = .atomic→∀ b,blk a.loc=some b→(∀ i x,th i=some x→∀ o,(b,o) ∉ x.H)∧fr≠some b
def aoU(sh:List Nat)(i:Nat)(a:Touch):Prop:=∃ b,blk a.loc=some b∧b∈sh∧(a.kind = .atomic∨(a.kind = .said∧i=0))
section
variable {B:Base} {am aw:Option Addr} {th:Nat→Option Th} {mu:Nat→Bool} {dd:Nat→Nat} {sh:List Nat} {fr:Option Nat} {ch:ah} {w:World} {n n' i:Nat} {R R':az} {H H':ah} {t u:Trace}
theorem ab8(h:∀ a,NoRelease a t)(hr:∀ op∈u,∀ a,op.act ≠ .mark (.release a))(a:Addr):NoRelease a (t++u):=by
 intro k hk
 obtain ⟨op,ho,hoa⟩:=Option.map_eq_some_iff.1 hk
 rcases getElem?_append_cases ho with ⟨_,fA⟩ | ⟨_,hu⟩
 ·exact h a k (by rw [Trace.act?,fA]; simp [hoa])
 ·exact hr op hu a hoa
theorem af6(h:∀ i,Deaf t i=dd i)(hu:∀ op∈u,op.g=i){d':Nat}(hd:Deaf (t++u) i=d')(j:Nat):Deaf (t++u) j=gJ dd i d' j:=by
 by_cases hj:j=i
 ·subst hj; rw [uN,hd]
 ·rw [uM hj,Deaf_other (g':=i) t (Ne.symm hj) u hu,h j]
theorem dg.app(hM:fO B th ch w)(hn:w.heap.size=n)(br:∀ b,b∈sh→∃ o,(b,o)∈ch)(BM:∀ b,fr=some b→(∃ o,(b,o)∈ch)∧b ∉ sh)
  (h:dg am aw th mu dd sh fr n t) (hi:th i=some ⟨R,H⟩) (hu:∀ op∈u,op.g=i)
  (ht:∀ op∈u,∀ a,op.act.touch? = some a→(aej [] R H n a∧a.kind ≠ .atomic)∨aoU sh i a) (hl:∀ op∈u,op.act.low n') (hr:∀ op∈u,∀ a,op.act ≠ .mark (.release a))
  {d':Nat} (hd:Deaf (t++u) i=d') (hc:mu i=false∨∀ k a,t.size≤k→touchAt (t++u) k=some a→¬ (a.kind ≠ .atomic∨(t++u).heard k)) (hnn:n≤n')
  (hR:∀ b o,R' b=some o→R b=some o∨(∃ o',(b,o')∈H)∨n≤b) (hH:∀ b o,(b,o)∈H'→(∃ o',(b,o')∈H)∨n≤b) :
  dg am aw (gy th i (some ⟨R',H'⟩)) mu (gJ dd i d') sh fr n' (t++u):=by
 have EO {j:Nat} {y:Th} (hy:th j=some y):(∀ b o,y.R b=some o→b < n)∧(∀ b o,(b,o)∈y.H→b < n) :=
  ⟨λ b o x=>hn ▸ l9 ((hM.fits j y hy).r b o x),λ b o x=>hn ▸ l9 ((hM.fits j y hy).h b o x)⟩
 have abC:∀ c o,(c,o)∈ch→c < n:=λ c o hc=>hn ▸ l9 (hM.oH c o hc)
 have Sm:∀ k op,(t++u)[k]? = some op→op∈u→Kn (t++u) i k:=λ k op h1 h2=>by
  have:=knows_own h1; rwa [hu op h2] at this
 have Jb:∀ {b j y},b∈sh→th j=some y→y.R b=none∧∀ o',(b,o') ∉ y.H:=λ {b j y} hb hy=>by
  obtain ⟨o,ho⟩:=br b hb; exact hM.mN b o ho j y hy
 refine ⟨λ j y hy b o hb k a hk bN=>?_,λ j y hy b o hb k a hk bN xQ=>?_,λ b hb k a hk bN=>?_,λ b hb k a hk bN=>?_,λ op au=>?_,λ k a hk hm fw=>?_,af6 h.deaf hu hd,ab8 h.norel hr,λ said=>?_,λ k a hk kl b bN=>?_⟩
 ·by_cases hj:j=i
  ·subst hj; rw [fM] at hy; cases hy
   rcases yt hk with ⟨_,dP⟩ | ⟨op,h1,h2,_⟩
   ·rcases hH b o hb with ⟨o',fA⟩ | tV
    ·exact (h.own j _ hi b o' fA k a dP bN).app u
    ·have:=RR h.low dP bN; omega
   ·exact Sm k op h1 h2
  ·rw [eQ hj] at hy
   rcases yt hk with ⟨_,dP⟩ | ⟨op,h1,h2,h3⟩
   ·exact (h.own j y hy b o hb k a dP bN).app u
   ·have l8:=hM.apart j i _ _ hj hy hi b o hb
    rcases ht op h2 a h3 with ⟨⟨b',gI,zn⟩,_⟩ | ⟨b',gI,hs,_⟩
    ·rw [bN] at gI; cases gI
     rcases zn with ⟨_,o',x⟩ | ⟨o',x⟩ | x | ⟨_,o',x⟩
     ·exact nn l8.1 x
     ·exact absurd x (l8.2 o')
     ·have:=(EO hy).2 b o hb; omega
     ·cases x
    ·rw [bN] at gI; cases gI
     exact absurd hb ((Jb hs hy).2 o)
 ·by_cases hj:j=i
  ·subst hj; rw [fM] at hy; cases hy
   rcases yt hk with ⟨_,dP⟩ | ⟨op,h1,h2,_⟩
   ·rcases hR b o hb with x | ⟨o',x⟩ | x
    ·exact (h.read j _ hi b o x k a dP bN xQ).app u
    ·exact (h.own j _ hi b o' x k a dP bN).app u
    ·have:=RR h.low dP bN; omega
   ·exact Sm k op h1 h2
  ·rw [eQ hj] at hy
   rcases yt hk with ⟨_,dP⟩ | ⟨op,h1,h2,h3⟩
   ·exact (h.read j y hy b o hb k a dP bN xQ).app u
   ·rcases ht op h2 a h3 with ⟨⟨b',gI,zn⟩,_⟩ | ⟨b',gI,hs,_⟩
    ·rw [bN] at gI; cases gI
     rcases zn with ⟨x,_⟩ | ⟨o',x⟩ | x | ⟨_,o',x⟩
     ·rw [xQ] at x; cases x
     ·exact nn (hM.apart i j _ _ (Ne.symm hj) hi hy b o' x).1 hb
     ·have:=(EO hy).1 b o hb; omega
     ·cases x
    ·rw [bN] at gI; cases gI
     exact nn (Jb hs hy).1 hb
 ·rcases yt hk with ⟨_,dP⟩ | ⟨op,h1,h2,h3⟩
  ·refine (h.shr b hb k a dP bN).imp id (Or.imp (And.imp id (·.app u)) λ x j y hy=>?_)
   by_cases hj:j=i
   ·subst hj; exact (x j _ hi).app u
   ·rw [eQ hj] at hy; exact (x j y hy).app u
  ·rcases ht op h2 a h3 with ⟨⟨b',gI,zn⟩,_⟩ | ⟨b',gI,hs,QI⟩
   ·rw [bN] at gI; cases gI
    rcases zn with ⟨_,o',x⟩ | ⟨o',x⟩ | x | ⟨_,o',x⟩
    ·exact nn (Jb hb hi).1 x
    ·exact absurd x ((Jb hb hi).2 o')
    ·obtain ⟨o,ho⟩:=br b hb; have:=abC b o ho; omega
    ·cases x
   ·rcases QI with x | ⟨x,rfl⟩
    ·exact .inl x
    ·exact .inr (.inl ⟨x,Sm k op h1 h2⟩)
 ·rcases yt hk with ⟨_,dP⟩ | ⟨op,h1,h2,h3⟩
  ·refine (h.free b hb k a dP bN).imp (λ x j y hy=>?_) (·.app u)
   by_cases hj:j=i
   ·subst hj; exact (x j _ hi).app u
   ·rw [eQ hj] at hy; exact (x j y hy).app u
  ·obtain ⟨⟨o,ho⟩,hns⟩:=BM b hb
   rcases ht op h2 a h3 with ⟨⟨b',gI,zn⟩,_⟩ | ⟨b',gI,hs,_⟩
   ·rw [bN] at gI; cases gI
    rcases zn with ⟨_,o',x⟩ | ⟨o',x⟩ | x | ⟨_,o',x⟩
    ·exact nn (hM.mN b o ho i _ hi).1 x
    ·exact absurd x ((hM.mN b o ho i _ hi).2 o')
    ·have:=abC b o ho; omega
    ·cases x
   ·rw [bN] at gI; cases gI
    exact absurd hs hns
 ·rcases Array.mem_append.1 au with x | x
  ·exact MemAct.low_mono hnn (h.low op x)
  ·exact hl op x
 ·rcases Nat.lt_or_ge k t.size with bS | tV
  ·have dP:touchAt t k=some a:=by rw [← touchAt_old (u:=u) bS]; exact hk
   refine (h.all k a dP hm (fw.imp id (heard_old bS).1)).imp (λ ⟨j,y,hy,dJ,iZ⟩=>?_) (·.app u)
   by_cases hj:j=i
   ·subst hj; exact ⟨j,_,fM _ _ _,dJ,iZ.app u⟩
   ·exact ⟨j,y,by rw [eQ hj]; exact hy,dJ,iZ.app u⟩
  ·rcases hc with dJ | hc
   ·obtain ⟨op,h1,_⟩:=touch_of hk
    rcases getElem?_append_cases h1 with ⟨bS,_⟩ | ⟨_,h2⟩
    ·omega
    ·exact .inl ⟨i,_,fM _ _ _,dJ,Sm k op h1 h2⟩
   ·exact absurd fw (hc k a tV hk)
 ·refine noRace_append (h.clean said) hu λ k a hk op au b hb zn=>?_
  obtain ⟨ah4,nD,xQ,vD⟩:=zn
  rcases ht op au b hb with ⟨⟨bb,Xh,pF⟩,_⟩ | ⟨bb,Xh,hs,QI⟩
  ·have bN:blk a.loc=some bb:=by rw [ah4]; exact Xh
   rcases pF with ⟨x,o,ho⟩ | ⟨o,x⟩ | x | ⟨_,o,x⟩
   ·have xD:a.write=true:=by
     rcases xQ with y | y
     ·exact y
     ·rw [x] at y; cases y
    exact h.read i _ hi bb o ho k a hk bN xD
   ·exact h.own i _ hi bb o x k a hk bN
   ·have:=RR h.low hk bN; omega
   ·cases x
  ·have bN:blk a.loc=some bb:=by rw [ah4]; exact Xh
   rcases h.shr bb hs k a hk bN with y | ⟨y,y'⟩ | y
   ·rcases vD with z | z | ⟨_,z,_⟩
    ·rw [y] at z; cases z
    ·rcases QI with x | ⟨x,_⟩ <;> (rw [x] at z; cases z)
    ·rw [y] at z; cases z
   ·rcases QI with x | ⟨x,rfl⟩
    ·rcases vD with z | z | ⟨_,_,z⟩
     ·rw [y] at z; cases z
     ·rw [x] at z; cases z
     ·rw [x] at z; cases z
    ·exact y'
   ·exact y i _ hi
 ·rcases yt hk with ⟨_,dP⟩ | ⟨op,h1,h2,h3⟩
  ·obtain ⟨z1,z2⟩:=h.rX k a dP kl b bN
   refine ⟨λ j y hy o ho=>?_,z2⟩
   by_cases hj:j=i
   ·subst hj; rw [fM] at hy; cases hy
    rcases hH b o ho with ⟨o',fA⟩ | tV
    ·exact z1 j _ hi o' fA
    ·have:=RR h.low dP bN; omega
   ·rw [eQ hj] at hy; exact z1 j y hy o ho
  ·rcases ht op h2 a h3 with ⟨_,hna⟩ | ⟨b',gI,hs,_⟩
   ·exact absurd kl hna
   ·rw [bN] at gI; cases gI
    refine ⟨λ j y hy o ho=>?_,λ e=>(BM b e).2 hs⟩
    by_cases hj:j=i
    ·subst hj; rw [fM] at hy; cases hy
     rcases hH b o ho with ⟨o',fA⟩ | tV
     ·exact (Jb hs hi).2 o' fA
     ·obtain ⟨o2,ho2⟩:=br b hs; have:=abC b o2 ho2; omega
    ·rw [eQ hj] at hy; exact (Jb hs hy).2 o ho
theorem Ji(hu:∀ op∈u,op.act.touch? = none){k:Nat}{a:Touch}(h:touchAt (t++u) k=some a):touchAt t k=some a:=by
 rcases yt h with ⟨_,x⟩ | ⟨op,_,h2,h3⟩
 ·exact x
 ·rw [hu op h2] at h3; cases h3
theorem dg.mute(h:dg am aw th mu dd sh fr n t)(hu:∀ op∈u,op.g=i)(hm:∀ op∈u,op.act.touch? = none)(hl:∀ op∈u,op.act.low n)(hr:∀ op∈u,∀ a,op.act ≠ .mark (.release a)){d':Nat}(hd:Deaf (t++u) i=d') :
  dg am aw th mu (gJ dd i d') sh fr n (t++u):=by
 have old:∀ {k a},touchAt (t++u) k=some a→k < t.size∧touchAt t k=some a:=λ {k a} hk=>by
  have:=Ji hm hk
  obtain ⟨x,hx,_⟩:=touch_of this
  exact ⟨lt_size_of_getElem? hx,this⟩
 exact ⟨λ j y hy b o hb k a hk bN=>(h.own j y hy b o hb k a (old hk).2 bN).app u,λ j y hy b o hb k a hk bN xQ=>(h.read j y hy b o hb k a (old hk).2 bN xQ).app u,
  λ b hb k a hk bN=>(h.shr b hb k a (old hk).2 bN).imp id (Or.imp (And.imp id (·.app u)) λ x j y hy=>(x j y hy).app u),
  λ b hb k a hk bN=>(h.free b hb k a (old hk).2 bN).imp (λ x j y hy=>(x j y hy).app u) (·.app u),
  λ op au=>(Array.mem_append.1 au).elim (h.low op) (hl op),
  λ k a hk LU fw=>(h.all k a (old hk).2 LU (fw.imp id (heard_old (old hk).1).1)).imp (λ ⟨j,y,hy,dJ,iZ⟩=>⟨j,y,hy,dJ,iZ.app u⟩) (·.app u),
  af6 h.deaf hu hd,ab8 h.norel hr,λ said=>akg (h.clean said) hm,λ k a hk=>h.rX k a (old hk).2⟩
theorem heard_new{y:MemOp}(h:∀ i,Deaf t i=dd i)(hd:dd y.g=0):(t++#[y]).heard t.size :=
 ⟨y.g,by simp [Trace.g?],by rw [deaf_old (dD _)]; exact (h y.g).trans hd⟩
theorem aiV{a:Addr}{y:MemOp}{k:Nat}(hd:∀ i,Deaf t i=dd i)(h0:dd y.g=0)(hn:∀ a,NoRelease a (t++#[y]))(hy:y.act = .mark (.acquire a))(h:Be (some a) t k):Kn (t++#[y]) y.g k:=by
 obtain ⟨x,p,e,h1,h2,h3⟩:=h
 cases e
 have hp:=lt_of_act? h1
 have hq:(t++#[y])[t.size]? = some y:=by simp
 have arh:HappensBefore (t++#[y]) p t.size:=.single (.inr ⟨.marked hp (.inr (by rw [act?_old hp]; exact h1)) (by rw [act?_of hq,hy]) (λ k _ _=>hn a k),(heard_old hp).2 h2,heard_new hd h0⟩)
 exact ⟨t.size,y,hq,rfl,.inr ((h3.app #[y]).hb arh)⟩
theorem aeZ{a:Addr}{y:MemOp}{k:Nat}(hd:∀ i,Deaf t i=dd i)(h0:dd y.g=0)(hy:y.act = .mark (.releaseMerge a))(h:Kn t y.g k):Be (some a) (t++#[y]) k:=by
 have hq:(t++#[y])[t.size]? = some y:=by simp
 exact ⟨a,t.size,rfl,by rw [act?_of hq,hy],heard_new hd h0,.inr (Go.Conc.Knows.hb_new h (dD _) hq rfl)⟩
theorem Ad{y op:MemOp}(h:op∈#[y]):op=y:=by simpa using h
theorem Sc{y:MemOp}{m:Mark}(hy:y.act = .mark m)(h1:∀ a,m ≠ .read a)(h2:∀ a,m ≠ .write a)(h3:∀ a,m ≠ .release a)(hl:(MemAct.mark m).low n) :
  (∀ op∈#[y],op.act.touch? = none)∧(∀ op∈#[y],op.act.low n)∧(∀ op∈#[y],∀ a,op.act ≠ .mark (.release a)):=by
 refine ⟨λ op au=>?_,λ op au=>?_,λ op au a=>?_⟩ <;> (rw [Ad au,hy])
 ·cases m <;> first | rfl | exact absurd rfl (h1 _) | exact absurd rfl (h2 _)
 ·exact hl
 ·exact λ e=>h3 a (by cases e; rfl)
theorem PL{y:MemOp}{m:Mark}(h:∀ i,Deaf t i=dd i)(hy:y.act = .mark m)(h1:m ≠ .disable)(h2:m ≠ .enable):Deaf (t++#[y]) y.g=dd y.g:=by
 rw [Deaf_push]
 unfold deafStep
 rw [hy]
 cases m <;> first | exact h y.g | exact absurd rfl h1 | exact absurd rfl h2
theorem dg.acquire{a:Addr}{b:Nat}{o:Obj}{y:MemOp}(h:dg (some a) aw th mu dd sh (some b) n t)(hi:th i=some ⟨R,H⟩)(hg:y.g=i)(hy:y.act = .mark (.acquire a))(h0:dd i=0)(hl:(MemAct.mark (.acquire a)).low n) :
  dg (some a) aw (gy th i (some ⟨R,(b,o)::H⟩)) mu dd sh none n (t++#[y]):=by
 subst hg
 obtain ⟨m1,m2,m3⟩:=Sc (n:=n) hy (by intro a e; cases e) (by intro a e; cases e) (by intro a e; cases e) hl
 have hb:=h.mute (i:=y.g) (λ op au=>by rw [Ad au]) m1 m2 m3 (PL h.deaf hy (by intro e; cases e) (by intro e; cases e))
 rw [m9] at hb
 have old:∀ {k a},touchAt (t++#[y]) k=some a→touchAt t k=some a:=λ {k a} hk=>Ji m1 hk
 refine ⟨λ j x hx c o' hc k a' hk bN=>?_,λ j x hx c o' hc k a' hk bN hw=>?_,λ c hc k a' hk bN=>?_,λ c hc=>(by cases hc),hb.low,λ k a' hk hm fw=>?_,hb.deaf,hb.norel,hb.clean,λ k a' hk kl c bN=>⟨λ j x hx o' hc=>?_,λ e=>by cases e⟩⟩
 rotate_right
 ·obtain ⟨z1,z2⟩:=hb.rX k a' hk kl c bN
  by_cases hj:j=y.g
  ·subst hj; rw [fM] at hx; cases hx
   rcases fR.1 hc with e | hc
   ·cases e; exact z2 rfl
   ·exact z1 _ _ hi o' hc
  ·rw [eQ hj] at hx; exact z1 j x hx o' hc
 ·by_cases hj:j=y.g
  ·subst hj; rw [fM] at hx; cases hx
   rcases fR.1 hc with e | hc
   ·cases e
    rcases h.free _ rfl k a' (old hk) bN with x | x
    ·exact (x _ _ hi).app _
    ·exact aiV h.deaf h0 hb.norel hy x
   ·exact hb.own _ _ hi c o' hc k a' hk bN
  ·rw [eQ hj] at hx; exact hb.own j x hx c o' hc k a' hk bN
 ·by_cases hj:j=y.g
  ·subst hj; rw [fM] at hx; cases hx; exact hb.read _ _ hi c o' hc k a' hk bN hw
  ·rw [eQ hj] at hx; exact hb.read j x hx c o' hc k a' hk bN hw
 ·refine (hb.shr c hc k a' hk bN).imp id (Or.imp id λ z j x hx=>?_)
  by_cases hj:j=y.g
  ·subst hj; exact z _ _ hi
  ·rw [eQ hj] at hx; exact z j x hx
 ·refine (hb.all k a' hk hm fw).imp (λ ⟨j,x,hx,dJ,iZ⟩=>?_) id
  by_cases hj:j=y.g
  ·subst hj; exact ⟨_,_,fM _ _ _,dJ,iZ⟩
  ·exact ⟨j,x,by rw [eQ hj]; exact hx,dJ,iZ⟩
theorem dg.release{a:Addr}{b:Nat}{o:Obj}{y:MemOp}(h:dg (some a) aw th mu dd sh none n t)(hi:th i=some ⟨R,H⟩)(D8:(b,o)∈H)(hH:∀ x∈H',x∈H)(hg:y.g=i)(hy:y.act = .mark (.releaseMerge a))(h0:dd i=0)(hl:(MemAct.mark (.releaseMerge a)).low n) :
  dg (some a) aw (gy th i (some ⟨R,H'⟩)) mu dd sh (some b) n (t++#[y]):=by
 subst hg
 obtain ⟨m1,m2,m3⟩:=Sc (n:=n) hy (by intro a e; cases e) (by intro a e; cases e) (by intro a e; cases e) hl
 have hb:=h.mute (i:=y.g) (λ op au=>by rw [Ad au]) m1 m2 m3 (PL h.deaf hy (by intro e; cases e) (by intro e; cases e))
 rw [m9] at hb
 have old:∀ {k a},touchAt (t++#[y]) k=some a→touchAt t k=some a:=λ {k a} hk=>Ji m1 hk
 refine ⟨λ j x hx c o' hc k a' hk bN=>?_,λ j x hx c o' hc k a' hk bN hw=>?_,λ c hc k a' hk bN=>?_,λ c hc k a' hk bN=>?_,hb.low,λ k a' hk hm fw=>?_,hb.deaf,hb.norel,hb.clean,λ k a' hk kl c bN=>⟨λ j x hx o' hc=>?_,λ e=>?_⟩⟩
 rotate_right 2
 ·obtain ⟨z1,z2⟩:=hb.rX k a' hk kl c bN
  by_cases hj:j=y.g
  ·subst hj; rw [fM] at hx; cases hx
   exact z1 _ _ hi o' (hH _ hc)
  ·rw [eQ hj] at hx; exact z1 j x hx o' hc
 ·cases e; exact (hb.rX k a' hk kl _ bN).1 _ _ hi _ D8
 ·by_cases hj:j=y.g
  ·subst hj; rw [fM] at hx; cases hx
   exact hb.own _ _ hi c o' (hH _ hc) k a' hk bN
  ·rw [eQ hj] at hx; exact hb.own j x hx c o' hc k a' hk bN
 ·by_cases hj:j=y.g
  ·subst hj; rw [fM] at hx; cases hx; exact hb.read _ _ hi c o' hc k a' hk bN hw
  ·rw [eQ hj] at hx; exact hb.read j x hx c o' hc k a' hk bN hw
 ·refine (hb.shr c hc k a' hk bN).imp id (Or.imp id λ z j x hx=>?_)
  by_cases hj:j=y.g
  ·subst hj; exact z _ _ hi
  ·rw [eQ hj] at hx; exact z j x hx
 ·cases hc
  exact .inr (aeZ h.deaf h0 hy (h.own _ _ hi b o D8 k a' (old hk) bN))
 ·refine (hb.all k a' hk hm fw).imp (λ ⟨j,x,hx,dJ,iZ⟩=>?_) id
  by_cases hj:j=y.g
  ·subst hj; exact ⟨_,_,fM _ _ _,dJ,iZ⟩
  ·exact ⟨j,x,by rw [eQ hj]; exact hx,dJ,iZ⟩
theorem dg.aRS{a:Addr}{y:MemOp}(h:dg am (some a) th mu dd sh fr n t)(hg:y.g=i)(hy:y.act = .mark (.releaseMerge a))(h0:dd i=0)(hl:(MemAct.mark (.releaseMerge a)).low n) :
  dg am (some a) th (pe mu i true) dd sh fr n (t++#[y]):=by
 subst hg
 obtain ⟨m1,m2,m3⟩:=Sc (n:=n) hy (by intro a e; cases e) (by intro a e; cases e) (by intro a e; cases e) hl
 have hb:=h.mute (i:=y.g) (λ op au=>by rw [Ad au]) m1 m2 m3 (PL h.deaf hy (by intro e; cases e) (by intro e; cases e))
 rw [m9] at hb
 have old:∀ {k a},touchAt (t++#[y]) k=some a→k < t.size∧touchAt t k=some a:=λ {k a} hk=>by
  have:=Ji m1 hk
  obtain ⟨x,hx,_⟩:=touch_of this
  exact ⟨lt_size_of_getElem? hx,this⟩
 refine ⟨hb.own,hb.read,hb.shr,hb.free,hb.low,λ k a' hk hm fw=>?_,hb.deaf,hb.norel,hb.clean,hb.rX⟩
 rcases h.all k a' (old hk).2 hm (fw.imp id (heard_old (old hk).1).1) with ⟨j,x,hx,dJ,iZ⟩ | x
 ·by_cases hj:j=y.g
  ·subst hj; exact .inr (aeZ h.deaf h0 hy iZ)
  ·exact .inl ⟨j,x,hx,by rw [ac2 hj]; exact dJ,iZ.app _⟩
 ·exact .inr (x.app _)
theorem dg.die(h:dg am aw th mu dd sh fr n t)(hm:mu i=true):dg am aw (gy th i none) mu dd sh fr n t:=by
 have key:∀ j y,gy th i none j=some y→th j=some y:=λ j y hy=>by
  by_cases hj:j=i
  ·subst hj; rw [fM] at hy; cases hy
  ·rwa [eQ hj] at hy
 refine ⟨λ j y hy=>h.own j y (key j y hy),λ j y hy=>h.read j y (key j y hy),λ b hb k a hk bN=>(h.shr b hb k a hk bN).imp id (Or.imp id λ z j y hy=>z j y (key j y hy)),λ b hb k a hk bN=>(h.free b hb k a hk bN).imp (λ z j y hy=>z j y (key j y hy)) id,h.low,λ k a hk LU fw=>?_,h.deaf,h.norel,h.clean,λ k a hk kl b bN=>(h.rX k a hk kl b bN).imp (λ z j y hy=>z j y (key j y hy)) id⟩
 refine (h.all k a hk LU fw).imp (λ ⟨j,y,hy,dJ,iZ⟩=>⟨j,y,?_,dJ,iZ⟩) id
 by_cases hj:j=i
 ·subst hj; rw [hm] at dJ; cases dJ
 ·rw [eQ hj]; exact hy
theorem dg.spawn{c:Nat}{x y:MemOp}(h:dg am aw th mu dd sh fr n t)(hi:th 0=some ⟨R,H⟩)(hR:aR R' R)(hc:th c=none)(hx:x.g=0∧x.act = .go c)(hy:y.g=c∧y.act = .start)(h0:dd 0=0)(hdc:dd c=0)(cU:c≠0)(hmc:mu c=false) :
  dg am aw (gy th c (some ⟨R',[]⟩)) mu dd sh fr n (t++#[x,y]):=by
 have HB:∀ op∈#[x,y],op=x∨op=y:=by intro op au; simpa using au
 have m1:∀ op∈#[x,y],op.act.touch? = none:=λ op au=>by
  rcases HB op au with rfl | rfl
  ·rw [hx.2]; rfl
  ·rw [hy.2]; rfl
 have old:∀ {k a},touchAt (t++#[x,y]) k=some a→k < t.size∧touchAt t k=some a:=λ {k a} hk=>by
  have:=Ji m1 hk
  obtain ⟨x,hx,_⟩:=touch_of this
  exact ⟨lt_size_of_getElem? hx,this⟩
 have kn:∀ {k},Kn t 0 k→Kn (t++#[x,y]) c k:=λ hk=>fork_knows hx hy ((h.deaf 0).trans h0) ((h.deaf c).trans hdc) hk
 refine ⟨λ j z hz b o hb k a hk bN=>?_,λ j z hz b o hb k a hk bN hw=>?_,λ b hb k a hk bN=>?_,λ b hb k a hk bN=>?_,λ op au=>?_,λ k a hk hm fw=>?_,λ j=>?_,ab8 h.norel λ op au a=>?_,λ said=>akg (h.clean said) m1,λ k a hk kl b bN=>(h.rX k a (old hk).2 kl b bN).imp (λ z j y' ua o ho=>?_) id⟩
 ·by_cases hj:j=c
  ·subst hj; rw [fM] at hz; cases hz; cases hb
  ·rw [eQ hj] at hz; exact (h.own j z hz b o hb k a (old hk).2 bN).app _
 ·by_cases hj:j=c
  ·subst hj; rw [fM] at hz; cases hz
   exact kn (h.read 0 _ hi b o (hR b o hb) k a (old hk).2 bN hw)
  ·rw [eQ hj] at hz; exact (h.read j z hz b o hb k a (old hk).2 bN hw).app _
 ·refine (h.shr b hb k a (old hk).2 bN).imp id (Or.imp (And.imp id (·.app _)) λ z j y' ua=>?_)
  by_cases hj:j=c
  ·subst hj; exact kn (z 0 _ hi)
  ·rw [eQ hj] at ua; exact (z j y' ua).app _
 ·refine (h.free b hb k a (old hk).2 bN).imp (λ z j y' ua=>?_) (·.app _)
  by_cases hj:j=c
  ·subst hj; exact kn (z 0 _ hi)
  ·rw [eQ hj] at ua; exact (z j y' ua).app _
 ·rcases Array.mem_append.1 au with z | z
  ·exact h.low op z
  ·rcases HB op z with rfl | rfl
   ·rw [hx.2]; trivial
   ·rw [hy.2]; trivial
 ·refine (h.all k a (old hk).2 hm (fw.imp id (heard_old (old hk).1).1)).imp (λ ⟨j,z,hz,dJ,iZ⟩=>⟨j,z,?_,dJ,iZ.app _⟩) (·.app _)
  rw [eQ (λ e=>by subst e; rw [hc] at hz; cases hz)]; exact hz
 ·have e:t++#[x,y]=(t++#[x])++#[y]:=by apply Array.ext'; simp
  rw [e,Deaf_push,Deaf_push]
  unfold deafStep
  rw [hx.2,hy.2]
  exact h.deaf j
 ·rcases HB op au with rfl | rfl
  ·rw [hx.2]; intro e; cases e
  ·rw [hy.2]; intro e; cases e
 ·by_cases hj:j=c
  ·subst hj; rw [fM] at ua; cases ua; cases ho
  ·rw [eQ hj] at ua; exact z j y' ua o ho
end
section
variable {B:Base} {am aw:Option Addr} {mu:Nat→Bool} {dd:Nat→Nat} {sh:List Nat} {n:Nat} {R:az} {H H':ah} {t:Trace}
theorem dg.share{bs:List Nat}{b:Nat}(h:dg none none (only ⟨R,H⟩) mu dd [] none n t)(hs:∀ c∈b::bs,∃ o,(c,o)∈H)(hH:∀ x∈H',x∈H)(am aw:Option Addr):dg am aw (only ⟨R,H'⟩) mu dd bs (some b) n t:=by
 have o0:∀ {i x H1},only ⟨R,H1⟩ i=some x→i=0∧x=⟨R,H1⟩:=λ {i x H1} hx=>by
  unfold only at hx; split at hx
  ·cases hx; exact ⟨‹_›,rfl⟩
  ·cases hx
 refine ⟨λ i x hx c o hc k a hk bN=>?_,λ i x hx c o hc k a hk bN hw=>?_,λ c hc k a hk bN=>?_,λ c hc k a hk bN=>?_,h.low,λ k a hk hm fw=>?_,h.deaf,h.norel,h.clean,λ k a hk kl c bN=>⟨λ i x hx o ho=>?_,λ e=>?_⟩⟩
 ·obtain ⟨rfl,rfl⟩:=o0 hx; exact h.own 0 _ rfl c o (hH _ hc) k a hk bN
 ·obtain ⟨rfl,rfl⟩:=o0 hx; exact h.read 0 _ rfl c o hc k a hk bN hw
 ·obtain ⟨o,ho⟩:=hs c (List.mem_cons_of_mem _ hc)
  refine .inr (.inr λ i x hx=>?_)
  obtain ⟨rfl,rfl⟩:=o0 hx; exact h.own 0 _ rfl c o ho k a hk bN
 ·cases hc
  obtain ⟨o,ho⟩:=hs b (by simp)
  refine .inl λ i x hx=>?_
  obtain ⟨rfl,rfl⟩:=o0 hx; exact h.own 0 _ rfl b o ho k a hk bN
 ·rcases h.all k a hk hm fw with ⟨i,x,hx,dJ,iZ⟩ | ⟨x,p,e,_⟩
  ·obtain ⟨rfl,rfl⟩:=o0 hx; exact .inl ⟨0,_,rfl,dJ,iZ⟩
  ·cases e
 ·obtain ⟨rfl,rfl⟩:=o0 hx; exact (h.rX k a hk kl c bN).1 0 _ rfl o (hH _ ho)
 ·cases e
  obtain ⟨o,ho⟩:=hs b (by simp)
  exact (h.rX k a hk kl b bN).1 0 _ rfl o ho
theorem dg.aRE{a:Addr}{b:Nat}{o:Obj}{y:MemOp}(h:dg am (some a) (only ⟨R,H⟩) mu dd sh (some b) n t)(_:b < n)(hg:y.g=0)(hy:y.act = .mark (.acquire a))(h0:dd 0=0)(_:mu 0=false)(hl:(MemAct.mark (.acquire a)).low n) :
  dg none none (only ⟨R,(b,o)::H⟩) (λ _=>false) dd [] none n (t++#[y]):=by
 have o0:∀ {i x H1},only ⟨R,H1⟩ i=some x→i=0∧x=⟨R,H1⟩:=λ {i x H1} hx=>by
  unfold only at hx; split at hx
  ·cases hx; exact ⟨‹_›,rfl⟩
  ·cases hx
 obtain ⟨m1,m2,m3⟩:=Sc (n:=n) hy (by intro a e; cases e) (by intro a e; cases e) (by intro a e; cases e) hl
 have hB:=h.mute (i:=y.g) (λ op au=>by rw [Ad au]) m1 m2 m3 (PL h.deaf hy (by intro e; cases e) (by intro e; cases e))
 rw [m9] at hB
 have old:∀ {k a},touchAt (t++#[y]) k=some a→k < t.size∧touchAt t k=some a:=λ {k a} hk=>by
  have:=Ji m1 hk
  obtain ⟨x,hx,_⟩:=touch_of this
  exact ⟨lt_size_of_getElem? hx,this⟩
 have acq:∀ {k},Be (some a) t k→Kn (t++#[y]) 0 k:=λ {k} hk=>by
  have:=aiV h.deaf (by rw [hg]; exact h0) hB.norel hy hk
  rwa [hg] at this
 have aiU:∀ k x,touchAt (t++#[y]) k=some x→x.loc.isMemory=true→(x.kind ≠ .atomic∨(t++#[y]).heard k)→Kn (t++#[y]) 0 k:=λ k x hk hm fw=>by
  rcases h.all k x (old hk).2 hm (fw.imp id (heard_old (old hk).1).1) with ⟨i,z,hz,_,iZ⟩ | z
  ·obtain ⟨rfl,rfl⟩:=o0 hz; exact iZ.app _
  ·exact acq z
 refine ⟨λ i x hx c o' hc k a' hk bN=>?_,λ i x hx c o' hc k a' hk bN hw=>?_,λ c hc=>(by cases hc),λ c hc=>(by cases hc),hB.low,λ k a' hk hm fw=>.inl ⟨0,_,rfl,rfl,aiU k a' hk hm fw⟩,hB.deaf,hB.norel,hB.clean,λ k a' hk kl c bN=>⟨λ i x hx o' hc=>?_,λ e=>by cases e⟩⟩
 ·obtain ⟨rfl,rfl⟩:=o0 hx
  rcases fR.1 hc with e | hc
  ·cases e
   refine aiU k a' hk ?_ (.inl λ e=>(h.rX k a' (old hk).2 e _ bN).2 rfl)
   obtain ⟨loc,wr,kd⟩:=a'
   cases loc <;> first | rfl | cases bN
  ·exact hB.own 0 _ rfl c o' hc k a' hk bN
 ·obtain ⟨rfl,rfl⟩:=o0 hx; exact hB.read 0 _ rfl c o' hc k a' hk bN hw
 ·obtain ⟨rfl,rfl⟩:=o0 hx
  rcases fR.1 hc with e | hc
  ·cases e; exact (hB.rX k a' hk kl _ bN).2 rfl
  ·exact (hB.rX k a' hk kl c bN).1 0 _ rfl o' hc
theorem dg.handed(h:dg none none (only ⟨R,H⟩) mu dd [] none n t):t.HandedOver:=by
 intro i x hx cU ⟨a,ha,hm,fw⟩
 rcases h.all i a ha hm fw with ⟨j,y,hy,_,hk⟩ | ⟨_,_,e,_⟩
 ·have hj:j=0:=by
   unfold only at hy
   split at hy
   ·assumption
   ·cases hy
  subst hj
  obtain ⟨q,z,h1,h2,h3⟩:=hk
  refine ⟨q,by simp [Trace.g?,h1,h2],?_⟩
  rcases h3 with rfl | h3
  ·rw [show t.g? i=some z.g by simp [Trace.g?,h1],h2] at hx
   exact absurd (j6 hx).symm cU
  ·exact h3
 ·cases e
end
section
variable {R:az} {H:ah} {n m:Nat} {e:Event}
theorem as4{a:Touch}(h:iG R H n m e)(ht:(MemAct.ofEvent e).touch? = some a):a.kind ≠ .atomic:=by
 obtain ⟨loc,wr,sy⟩:=e
 cases loc with
 | cell a' =>
  obtain ⟨h1,_⟩:=h
  simp only at h1; subst h1
  have e1:MemAct.ofEvent ⟨.cell a',wr,false⟩ = .access ⟨.cell a',wr,false⟩:=by cases wr <;> rfl
  rw [e1] at ht
  simp only [MemAct.touch?,jl] at ht
  subst ht; simp
 | obj b =>
  obtain ⟨h1,_⟩:=h
  simp only at h1; subst h1
  have e1:MemAct.ofEvent ⟨.obj b,wr,false⟩ = .access ⟨.obj b,wr,false⟩:=by cases wr <;> rfl
  rw [e1] at ht
  simp only [MemAct.touch?,jl] at ht
  subst ht; simp
 | mark mk =>
  cases mk <;> simp [iG] at h
  cases wr <;> cases sy <;> simp [MemAct.ofEvent,MemAct.touch?] at ht
 | _=>simp [iG] at h
theorem aq3{g d:Nat}{u:List MemOp}(h:∀ op∈u,∀ mk,op.act = .mark mk→Neutral mk):u.foldl (deafStep g) d=d:=by
 induction u generalizing d with
 | nil=>rfl
 | cons y u ih =>
  have e:deafStep g d y=d:=by
   unfold deafStep
   split
   ·rename_i h'; exact absurd rfl ((h y (by simp) _ h').ne_disable)
   ·rename_i h'; exact absurd rfl ((h y (by simp) _ h').ne_enable)
   ·rfl
  rw [List.foldl_cons,e]
  exact ih λ op au=>h op (List.mem_cons_of_mem _ au)
theorem aq2{i:Nat}{t:Trace}{es:Array Event}{fn:FuncId}{pos:String}(h:∀ e∈es,iG R H n m e):Deaf (t++MemOp.ofEvents i fn pos es) i=Deaf t i:=by
 have e:MemOp.ofEvents i fn pos es=(MemOp.ofEvents i fn pos es).toList.toArray:=by simp
 rw [e,Deaf_append]
 refine aq3 λ op au mk hm=>?_
 obtain ⟨e,he,rfl⟩:=CD (by simpa using au)
 exact agQ (h e he) mk hm
theorem as6(h:iG R H n m e)(a:Addr):MemAct.ofEvent e ≠ .mark (.release a):=by
 intro hm
 have:=agQ h _ hm
 cases this
end
section
variable {B:Base} {am aw:Option Addr} {th:Nat→Option Th} {mu:Nat→Bool} {dd:Nat→Nat} {sh:List Nat} {fr:Option Nat} {ch:ah} {w w':World} {i:Nat} {R R':az} {H H':ah} {t:Trace}
theorem NQ(hM:fO B th ch w)(br:∀ b,b∈sh→∃ o,(b,o)∈ch)(BM:∀ b,fr=some b→(∃ o,(b,o)∈ch)∧b ∉ sh)(h:dg am aw th mu dd sh fr w.heap.size t)(hi:th i=some ⟨R,H⟩)(_:mu i=false∨w'=w)
  {es:Array Event} (oN:∀ e∈es,iG R H w.heap.size w'.heap.size e) (hem:mu i=false∨es=#[]) (hu:gu B R H w R' H' w') (fn:FuncId) (pos:String) :
  fO B (gy th i (some ⟨R',H'⟩)) ch w'∧dg am aw (gy th i (some ⟨R',H'⟩)) mu dd sh fr w'.heap.size (t++MemOp.ofEvents i fn pos es):=by
 refine ⟨hM.upd hi hu,?_⟩
 have:=dg.app (u:=MemOp.ofEvents i fn pos es) (n':=w'.heap.size) (R':=R') (H':=H') hM rfl br BM h hi (λ op au=>by obtain ⟨e,_,rfl⟩:=CD au; rfl)
  (λ op au a ha=>by obtain ⟨e,he,rfl⟩:=CD au; exact .inl ⟨as7 (oN e he) ha,as4 (oN e he) ha⟩) (λ op au=>by obtain ⟨e,he,rfl⟩:=CD au; exact as5 (oN e he))
  (λ op au a=>by obtain ⟨e,he,rfl⟩:=CD au; exact as6 (oN e he) a) (aq2 oN) ?_ hu.size hu.IF hu.Aa
 ·rwa [h.deaf i,m9] at this
 ·refine hem.imp id λ e=>?_
  subst e
  intro k a hk LQ
  rw [ofEvents_none,Array.append_empty] at LQ
  obtain ⟨x,hx,_⟩:=touch_of LQ
  have:=lt_size_of_getElem? hx
  omega
theorem ahA(hM:fO B th ch w)(br:∀ b,b∈sh→∃ o,(b,o)∈ch)(BM:∀ b,fr=some b→(∃ o,(b,o)∈ch)∧b ∉ sh)(h:dg am aw th mu dd sh fr w.heap.size t)(hi:th i=some ⟨R,H⟩)(hu:gu B R H w R' H' w) :
  fO B (gy th i (some ⟨R',H'⟩)) ch w∧dg am aw (gy th i (some ⟨R',H'⟩)) mu dd sh fr w.heap.size t:=by
 have:=NQ (w':=w) (es:=#[]) hM br BM h hi (.inr rfl) (by simp) (.inr rfl) hu 0 ""
 rw [ofEvents_none,Array.append_empty] at this
 exact this
end
theorem aNO{i:Nat}{fn:FuncId}{pos:String}{es:Array Event}(h:∀ e∈es,Event.mute e=true){n:Nat} :
  (∀ op∈MemOp.ofEvents i fn pos es,op.g=i)∧(∀ op∈MemOp.ofEvents i fn pos es,op.act.touch? = none)∧(∀ op∈MemOp.ofEvents i fn pos es,op.act.low n)∧∀ op∈MemOp.ofEvents i fn pos es,∀ a,op.act ≠ .mark (.release a):=by
 have key:∀ e:Event,e.mute=true→MemAct.ofEvent e = .mark .disable∨MemAct.ofEvent e = .mark .enable:=by
  intro e he
  obtain ⟨loc,wr,sy⟩:=e
  cases loc with
  | mark m=>cases m <;> simp [Event.mute] at he <;> cases wr <;> cases sy <;> simp [MemAct.ofEvent]
  | _=>simp [Event.mute] at he
 have k2:∀ op∈MemOp.ofEvents i fn pos es,op.g=i∧(op.act = .mark .disable∨op.act = .mark .enable):=λ op au=>by
  obtain ⟨e,he,rfl⟩:=CD au; exact ⟨rfl,key e (h e he)⟩
 refine ⟨λ op au=>(k2 op au).1,λ op au=>?_,λ op au=>?_,λ op au a=>?_⟩ <;> rcases (k2 op au).2 with e | e <;> rw [e]
 ·rfl
 ·rfl
 ·trivial
 ·trivial
 ·intro x; cases x
 ·intro x; cases x
theorem dg.leaves{am aw:Option Addr}{th:Nat→Option Th}{mu:Nat→Bool}{dd:Nat→Nat}{sh:List Nat}{fr:Option Nat}{n i:Nat}{t:Trace}{es:Array Event}{fn:FuncId}{pos:String}(h:dg am aw th mu dd sh fr n t)(oN:∀ e∈es,Event.mute e=true) :
  dg am aw th mu (gJ dd i (deafBehind (dd i) es)) sh fr n (t++MemOp.ofEvents i fn pos es):=by
 obtain ⟨h1,h2,h3,h4⟩:=aNO (i:=i) (fn:=fn) (pos:=pos) oN (n:=n)
 exact h.mute h1 h2 h3 h4 (by rw [Deaf_own,h.deaf i])
structure yY (P:Program) (B:Base) (R:az) (H:ah) (gs:Array Goroutine) (w:World) (t:Trace) (q dd:Nat→Nat):Prop where
 mem:fO B (only ⟨R,H⟩) [] w
 tr:dg none none (only ⟨R,H⟩) (λ _=>false) dd [] none w.heap.size t
 d0:dd 0=0
 dz:∀ i,gs.size≤i→dd i=0
 lv:∀ i g,0 < i→gs[i]? = some g→QuitsD P (q i) (dd i) g
section
variable (P:Program) (B:Base) (Post:Value→World→Prop)
def jr(R:az)(H:ah)(g:Goroutine):Prop:=∀ gs w sl t q dd,gs[0]? = some g→yY P B R H gs w t q dd→lX P Post (crowd gs w sl) t
end
section
variable {P:Program} {B:Base} {Post:Value→World→Prop} {R:az} {H:ah} {g:Goroutine}
theorem yY.fits{gs:Array Goroutine}{w:World}{t:Trace}{q dd:Nat→Nat}(h:yY P B R H gs w t q dd):Fits B R H w:=h.mem.fits 0 ⟨R,H⟩ rfl
theorem yY.at{gs:Array Goroutine}{w:World}{t:Trace}{q dd:Nat→Nat}(h:yY P B R H gs w t q dd)(d:Nat):yY P B R H gs (w.at d) t q dd:=⟨h.mem.at d,h.tr,h.d0,h.dz,h.lv⟩
theorem jr.pick(hs:g.status = .running)
  (h:∀ gs w sl rM d t q dd,gs[0]? = some g→yY P B R H gs (w.at d) t q dd→stepT P (crowd gs w sl)=runT P (crowd gs (w.at d) rM) 0→lX P Post (crowd gs w sl) t):jr P B Post R H g:=by
 have key:∀ M gs w sl t q dd,dA gs.size q≤M→gs[0]? = some g→yY P B R H gs w t q dd→lX P Post (crowd gs w sl) t:=by
  intro M
  induction M with
  | zero =>
   intro gs w sl t q dd hM h0 hA
   have xD:∀ x∈gs,awake x:=by
    intro x hx
    obtain ⟨i,hi,rfl⟩:=Array.mem_iff_getElem.1 hx
    rcases Nat.eq_zero_or_pos i with rfl | gS
    ·have:gs[0]=g:=by simpa [qT hi] using h0
     rw [this]; exact awake_of (.inl hs)
    ·exact awake_of ((hA.lv i _ gS (qT hi)).status.elim .inl λ x=>.inr (.inr x))
   obtain ⟨i,x,d,rM,hi,hx,dc⟩:=crowd_pick (P:=P) (w:=w) (sl:=sl) xD ⟨0,g,h0,hs⟩
   rcases Nat.eq_zero_or_pos i with rfl | gS
   ·exact h gs w sl rM d t q dd h0 (hA.at d) dc
   ·have hq:=hA.lv i x gS hi
    have bS:i < gs.size:=(Array.getElem?_eq_some_iff.1 hi).1
    have hq0:q i=0:=by
     have h2:∀ (j:Nat),i < j→q i≤dA j q:=by
      intro j hj
      induction j with
      | zero=>omega
      | succ j ih =>
       rcases Nat.lt_or_ge i j with bS | tV
       ·have:=ih bS; simp only [dA]; omega
       ·obtain rfl:i=j:=by omega
        simp only [dA]; omega
     have:=h2 gs.size bS
     omega
    rw [hq0] at hq
    rw [show x.status = .finished from hq.1] at hx; cases hx
  | succ M ih =>
   intro gs w sl t q dd hM h0 hA
   have xD:∀ x∈gs,awake x:=by
    intro x hx
    obtain ⟨i,hi,rfl⟩:=Array.mem_iff_getElem.1 hx
    rcases Nat.eq_zero_or_pos i with rfl | gS
    ·have:gs[0]=g:=by simpa [qT hi] using h0
     rw [this]; exact awake_of (.inl hs)
    ·exact awake_of ((hA.lv i _ gS (qT hi)).status.elim .inl λ x=>.inr (.inr x))
   obtain ⟨i,x,d,rM,hi,hx,dc⟩:=crowd_pick (P:=P) (w:=w) (sl:=sl) xD ⟨0,g,h0,hs⟩
   rcases Nat.eq_zero_or_pos i with rfl | gS
   ·exact h gs w sl rM d t q dd h0 (hA.at d) dc
   ·have hq:=hA.lv i x gS hi
    have vz:(i == 0)=false:=by simp; omega
    have bS:i < gs.size:=(Array.getElem?_eq_some_iff.1 hi).1
    cases YT:q i with
    | zero=>rw [YT] at hq; rw [show x.status = .finished from hq.1] at hx; cases hx
    | succ k =>
     rw [YT] at hq
     rcases hq with hf | ⟨_,x',es,oN,aEp,hq'⟩
     ·rw [hf.1] at hx; cases hx
     have L2:=runT_crowd_go (P:=P) (sl:=rM) (i:=i) hi (by rw [vz]; exact aEp (w.at d))
     refine lX.step (dc.trans L2) ?_
     have gm:((gs.map (woken P x x' (w.at d))).setIfInBounds i x').size=gs.size:=by simp
     have aEq:=FP (f:=q) (g:=λ j=>if j=i then k else q j) bS (λ j hj=>by simp [hj])
     simp only [if_true,YT] at aEq
     refine ih _ _ _ _ (λ j=>if j=i then k else q j) (gJ dd i (deafBehind (dd i) es)) (by rw [gm]; omega) ?_ ⟨(hA.at d).mem,hA.tr.leaves oN,?_,λ j hj=>?_,λ j y hj hy=>?_⟩
     ·have cU:i≠0:=by omega
      rw [nk cU,Array.getElem?_map,h0]
      simp [woken_run hs]
     ·rw [uM (by omega)]; exact hA.d0
     ·rw [gm] at hj; rw [uM (by omega)]; exact hA.dz j hj
     ·by_cases gR:i=j
      ·subst gR
       rw [u6 (by simpa using bS)] at hy
       obtain rfl:=j6 hy
       simpa [uN] using hq'
      ·rw [nk gR,Array.getElem?_map] at hy
       obtain ⟨z,hz,rfl⟩:=Option.map_eq_some_iff.1 hy
       have hqj:=hA.lv j z hj hz
       rw [woken_quitsD hqj,uM (Ne.symm gR)]
       simpa [Ne.symm gR] using hqj
 exact λ gs w sl t q dd h0 hA=>key _ gs w sl t q dd (dD _) h0 hA
theorem ab7{ch:ah}:∀ b,b∈([]:List Nat)→∃ o:Obj,(b,o)∈ch:=λ _ h=>by cases h
theorem ab6{ch:ah}:∀ b,(none:Option Nat)=some b→(∃ o:Obj,(b,o)∈ch)∧b ∉ ([]:List Nat):=λ _ h=>by cases h
theorem jr.step(hs:g.status = .running)(h:∀ w,Fits B R H w→∃ g' w' es R' H',stepG P true g w = .go g' w' es∧(∀ e∈es,iG R H w.heap.size w'.heap.size e)∧gu B R H w R' H' w'∧jr P B Post R' H' g'):jr P B Post R H g:=by
 refine jr.pick hs λ gs w sl rM d t q dd h0 hA dc=>?_
 obtain ⟨g',w',es,R',H',h1,h2,h3,h4⟩:=h _ hA.fits
 have L2:=runT_crowd_go (P:=P) (sl:=rM) (i:=0) h0 (show stepG P (0 == 0) g (w.at d)=_ from h1)
 refine lX.step (dc.trans L2) ?_
 have bS:0 < gs.size:=(Array.getElem?_eq_some_iff.1 h0).1
 have dc:=NQ hA.mem ab7 ab6 hA.tr (i:=0) rfl (.inl rfl) h2 (.inl rfl) h3 g.frame.fn g.frame.place
 rw [Sw] at dc
 refine h4 _ _ _ _ q dd (by simp [bS]) ⟨dc.1,dc.2,hA.d0,λ i hi=>hA.dz i (by simpa using hi),λ j x hj hx=>?_⟩
 have cU:0≠j:=by omega
 rw [nk cU,Array.getElem?_map] at hx
 obtain ⟨y,hy,rfl⟩:=Option.map_eq_some_iff.1 hx
 have hq:=hA.lv j y hj hy
 rw [woken_quitsD hq]
 exact hq
theorem jr.ghost{R':az}{H':ah}(hg:∀ w,Fits B R H w→gu B R H w R' H' w)(h:jr P B Post R' H' g):jr P B Post R H g:=by
 intro gs w sl t q dd h0 hA
 have dc:=ahA hA.mem ab7 ab6 hA.tr (i:=0) rfl (hg w hA.fits)
 rw [Sw] at dc
 exact h gs w sl t q dd h0 ⟨dc.1,dc.2,hA.d0,hA.dz,hA.lv⟩
def Fu(P:Program)(B:Base)(Post:Value→World→Prop):Jd P B true:=⟨jr P B Post,jr.step,jr.ghost⟩
end
end Go.Lg
