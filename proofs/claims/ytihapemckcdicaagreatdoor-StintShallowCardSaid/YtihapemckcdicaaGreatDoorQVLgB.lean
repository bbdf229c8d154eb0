/- Traces; goroutine 0 beside those that leave. Conditions: none. -/
import Derived.Test.YtihapemckcdicaaGreatDoorQVLgA
import Derived.Conc.CrowdTrace
import Derived.Conc.JoinTrace
import Derived.Conc.QuitsD
namespace Go.Lg
open Go.Conc
inductive Tree:Type 1
 | node (ι:Type) (f:ι→Tree):Tree
inductive Hc:Tree→Tree→Prop
 | mk {ι:Type} (f:ι→Tree) (i:ι):Hc (f i) (.node ι f)
theorem Hc.acc(t:Tree):Acc Hc t:=by
 induction t with
 | node ι f ih=>exact ⟨_,λ y h=>by cases h; exact ih _⟩
abbrev Ms:=Option Tree
inductive oN:Ms→Ms→Prop
 | some {a b:Tree}:Hc a b→oN (some a) (some b)
 | none {b:Tree}:oN none (some b)
theorem oN.ZH:Acc oN (Option.none:Ms):=⟨_,λ y h=>by cases h⟩
theorem oN.acc(m:Ms):Acc oN m:=by
 cases m with
 | none=>exact oN.ZH
 | some t =>
  have:=Hc.acc t
  induction this with
  | intro t _ ih =>
   refine ⟨_,λ y h=>?_⟩
   cases h with
   | some h=>exact ih _ h
   | none=>exact oN.ZH
inductive One {α:Type 1} (r:α→α→Prop):List α→List α→Prop
 | head {a b:α} {l:List α}:r a b→One r (a::l) (b::l)
 | tail {a:α} {l l':List α}:One r l l'→One r (a::l) (a::l')
theorem One.acc{α:Type 1}{r:α→α→Prop}(h:∀ a,Acc r a):∀ l:List α,Acc (One r) l
 | []=>⟨_,λ y h=>by cases h⟩
 | b::l=>by
  have hb:=h b
  have hl:=One.acc h l
  induction hb generalizing l with
  | intro b _ ihb =>
   induction hl with
   | intro l hl' Wt =>
    refine ⟨_,λ y hy=>?_⟩
    cases hy with
    | head hr=>exact ihb _ hr _ ⟨_,hl'⟩
    | tail ho=>exact Wt _ ho
theorem One.wf:WellFounded (One oN):=⟨One.acc oN.acc⟩
theorem One.set{α:Type 1}{r:α→α→Prop}:∀ {l:List α} {i:Nat} {a b:α},l[i]? = some b→r a b→One r (l.set i a) l
 | [],_,_,_,h,_=>by cases h
 | x::l,0,a,b,h,hr=>by cases h; exact .head hr
 | x::l,i+1,a,b,h,hr=>.tail (One.set (by simpa using h) hr)
def qX:Nat→Tree
 | 0=>.node Empty Empty.elim
 | n+1=>.node Unit λ _=>qX n
theorem aeH(n:Nat):oN (some (qX n)) (some (qX (n+1))):=.some (.mk (λ _:Unit=>qX n) ())
section
variable (P:Program) (B:Base) (main:Bool) (K:ax→aj→Goroutine→Prop)
def A0:Tree→ax→aj→Goroutine→Prop
 | .node _ f=>λ R H g=>K R H g ∨
  (g.status = .running∧∀ w,Fits B R H w→∃ g' w' es R' H' i,stepG P main g w = .go g' w' es∧(∀ e∈es,gQ R H w.heap.size w'.heap.size e)∧fK B R H w R' H' w'∧A0 (f i) R' H' g') ∨
  (∃ R' H' i,(∀ w,Fits B R H w→fK B R H w R' H' w)∧A0 (f i) R' H' g)
def Own(R:ax)(H:aj)(g:Goroutine):Prop:=∃ T,A0 P B main K T R H g
theorem Own.stop{R:ax}{H:aj}{g:Goroutine}(h:K R H g):Own P B main K R H g:=⟨.node Empty Empty.elim,.inl h⟩
open Classical in
def Kd:Jd P B main where
 J:=Own P B main K
 step:=by
  intro R H g hs h
  refine ⟨.node { x:ax × aj × Goroutine // Own P B main K x.1 x.2.1 x.2.2 } (λ x=>x.2.choose),.inr (.inl ⟨hs,λ w hw=>?_⟩)⟩
  obtain ⟨g',w',es,R',H',h1,h2,h3,h4⟩:=h w hw
  exact ⟨g',w',es,R',H',⟨(R',H',g'),h4⟩,h1,h2,h3,Exists.choose_spec h4⟩
 ghost:=by
  intro R H R' H' g hg h
  exact ⟨.node Unit (λ _=>h.choose),.inr (.inr ⟨R',H',(),hg,h.choose_spec⟩)⟩
end
theorem nn{α:Type}{a:Option α}{u:α}{C:Prop}(h:a=none)(h':a=some u):C:=by rw [h] at h'; cases h'
structure Th where
 R:ax
 H:aj
def fO(th:Nat→Option Th)(i:Nat)(x:Option Th):Nat→Option Th:=λ j=>if j=i then x else th j
theorem ff(th:Nat→Option Th)(i:Nat)(x:Option Th):fO th i x i=x:=by simp [fO]
theorem ey{th:Nat→Option Th}{i j:Nat}{x:Option Th}(h:j≠i):fO th i x j=th j:=by simp [fO,h]
structure fl (B:Base) (th:Nat→Option Th) (ch:aj) (w:World):Prop where
 fits:∀ i x,th i=some x→Fits B x.R x.H w
 apart:∀ i j x y,i≠j→th i=some x→th j=some y→∀ b o,(b,o)∈x.H→y.R b=none∧∀ o',(b,o') ∉ y.H
 ni:∀ c o,(c,o)∈ch→w.heap[c]? = some o
 lI:∀ c o,(c,o)∈ch→∀ i x,th i=some x→x.R c=none∧∀ o',(c,o') ∉ x.H
theorem Fits.at{B:Base}{R:ax}{H:aj}{w:World}(h:Fits B R H w)(d:Nat):Fits B R H (w.at d):=⟨h.r,h.h,h.nd,h.dj,h.os,h.tape,h.out⟩
theorem fl.at{B:Base}{th:Nat→Option Th}{ch:aj}{w:World}(h:fl B th ch w)(d:Nat):fl B th ch (w.at d) :=
 ⟨λ i x hx=>(h.fits i x hx).at d,h.apart,h.ni,h.lI⟩
section
variable {B:Base} {th:Nat→Option Th} {ch:aj} {w w':World} {i:Nat} {R R':ax} {H H':aj}
theorem fl.upd(h:fl B th ch w)(hi:th i=some ⟨R,H⟩)(hu:fK B R H w R' H' w'):fl B (fO th i (some ⟨R',H'⟩)) ch w':=by
 have Cj {j:Nat} {y:Th} (hy:th j=some y):(∀ b o,y.R b=some o→b < w.heap.size)∧(∀ b o,(b,o)∈y.H→b < w.heap.size) :=
  ⟨λ b o x=>k6 ((h.fits j y hy).r b o x),λ b o x=>k6 ((h.fits j y hy).h b o x)⟩
 refine ⟨λ j y hy=>?_,λ j k x y mY hx hy b o hb=>?_,λ c o hc=>?_,λ c o hc j y hy=>?_⟩
 ·by_cases hj:j=i
  ·subst hj; rw [ff] at hy; cases hy; exact hu.fits
  ·rw [ey hj] at hy
   have hf:=h.fits j y hy
   have hl:=Cj hy
   refine ⟨λ b o x=>?_,λ b o x=>?_,hf.nd,hf.dj,hu.fits.os,hu.fits.tape,hu.fits.out⟩
   ·rw [hu.same b (hl.1 b o x) λ o' eX=>nn (h.apart i j _ _ (Ne.symm hj) hi hy b o' eX).1 x]
    exact hf.r b o x
   ·rw [hu.same b (hl.2 b o x) λ o' eX=>(h.apart i j _ _ (Ne.symm hj) hi hy b o' eX).2 o x]
    exact hf.h b o x
 ·by_cases hj:j=i
  ·subst hj
   rw [ff] at hx; cases hx
   rw [ey (Ne.symm mY)] at hy
   rcases hu.xI b o hb with ⟨o',eX⟩ | tu
   ·exact h.apart j k _ _ mY hi hy b o' eX
   ·refine ⟨?_,λ o' eX=>?_⟩
    ·cases hR:y.R b with
     | none=>rfl
     | some u=>have:=(Cj hy).1 b u hR; omega
    ·have:=(Cj hy).2 b o' eX; omega
  ·rw [ey hj] at hx
   by_cases hk:k=i
   ·subst hk
    rw [ff] at hy; cases hy
    have bL:=(Cj hx).2 b o hb
    have kY:=h.apart j k _ _ mY hx hi b o hb
    refine ⟨?_,λ o' eX=>?_⟩
    ·cases hR:R' b with
     | none=>simp [hR]
     | some u =>
      rcases hu.FM b u hR with x | ⟨o',x⟩ | x
      ·exact nn kY.1 x
      ·exact absurd x (kY.2 o')
      ·omega
    ·rcases hu.xI b o' eX with ⟨u,x⟩ | x
     ·exact kY.2 u x
     ·omega
   ·rw [ey hk] at hy
    exact h.apart j k _ _ mY hx hy b o hb
 ·have bL:=k6 (h.ni c o hc)
  rw [hu.same c bL λ o' eX=>(h.lI c o hc i _ hi).2 o' eX]
  exact h.ni c o hc
 ·by_cases hj:j=i
  ·subst hj
   rw [ff] at hy; cases hy
   have bL:=k6 (h.ni c o hc)
   have kY:=h.lI c o hc j _ hi
   refine ⟨?_,λ o' eX=>?_⟩
   ·cases hR:R' c with
    | none=>simp [hR]
    | some u =>
     rcases hu.FM c u hR with x | ⟨o',x⟩ | x
     ·exact nn kY.1 x
     ·exact absurd x (kY.2 o')
     ·omega
   ·rcases hu.xI c o' eX with ⟨u,x⟩ | x
    ·exact kY.2 u x
    ·omega
  ·rw [ey hj] at hy
   exact h.lI c o hc j y hy
theorem fl.drop(h:fl B th ch w):fl B (fO th i none) ch w:=by
 have key:∀ j y,fO th i none j=some y→th j=some y:=λ j y hy=>by
  by_cases hj:j=i
  ·subst hj; rw [ff] at hy; cases hy
  ·rwa [ey hj] at hy
 exact ⟨λ j y hy=>h.fits j y (key j y hy),λ j k x y mY hx hy=>h.apart j k x y mY (key j x hx) (key k y hy),h.ni,λ c o hc j y hy=>h.lI c o hc j y (key j y hy)⟩
theorem fl.add{c:Nat}(h:fl B th ch w)(hi:th i=some ⟨R,H⟩)(hR:aQ R' R):fl B (fO th c (some ⟨R',[]⟩)) ch w:=by
 refine ⟨λ j y hy=>?_,λ j k x y mY hx hy b o hb=>?_,h.ni,λ a o ha j y hy=>?_⟩
 ·by_cases hj:j=c
  ·subst hj; rw [ff] at hy; cases hy
   have hf:=h.fits i _ hi
   exact ⟨λ b o x=>hf.r b o (hR b o x),λ b o x=>(by cases x),List.nodup_nil,λ b o x=>(by cases x),hf.os,hf.tape,hf.out⟩
  ·rw [ey hj] at hy; exact h.fits j y hy
 ·by_cases hj:j=c
  ·subst hj; rw [ff] at hx; cases hx; cases hb
  ·rw [ey hj] at hx
   by_cases hk:k=c
   ·subst hk
    rw [ff] at hy; cases hy
    refine ⟨?_,λ o' x=>by cases x⟩
    cases HV:R' b with
    | none=>simp [HV]
    | some u =>
     have hRu:=hR b u HV
     by_cases gi:j=i
     ·subst gi
      rw [hi] at hx; cases hx
      exact nn ((h.fits j _ hi).dj b o hb) hRu
     ·exact nn (h.apart j i _ _ gi hx hi b o hb).1 hRu
   ·rw [ey hk] at hy; exact h.apart j k x y mY hx hy b o hb
 ·by_cases hj:j=c
  ·subst hj; rw [ff] at hy; cases hy
   refine ⟨?_,λ o' x=>by cases x⟩
   cases HV:R' a with
   | none=>simp [HV]
   | some u=>exact nn (h.lI a o ha i _ hi).1 (hR a u HV)
  ·rw [ey hj] at hy; exact h.lI a o ha j y hy
end
end Go.Lg
namespace Go.Lg
open Go.Conc
abbrev Kn(t:Trace)(g i:Nat):Prop:=Go.Conc.Knows t g i
def blk:Loc→Option Nat
 | .cell a=>some a.block
 | .obj r=>some r
 | _=>none
theorem aHV{x:MemAct}{a:Touch}{n b:Nat}(h:x.low n)(ht:x.touch? = some a)(hb:blk a.loc=some b):b < n:=by
 cases x with
 | access e =>
  simp only [MemAct.touch?,Option.some.injEq] at ht
  subst ht
  obtain ⟨loc,wr,sy⟩:=e
  cases loc <;> simp [blk] at hb <;> subst hb <;> exact h
 | mark m =>
  cases m <;> simp only [MemAct.touch?,Option.some.injEq,reduceCtorEq] at ht
  all_goals (subst ht; simp [blk] at hb; subst hb; exact h)
 | _=>simp [MemAct.touch?] at ht
def Zp(ch:aj)(R:ax)(H:aj)(n:Nat)(a:Touch):Prop :=
 ∃ b,blk a.loc=some b∧((a.write=false∧∃ o,R b=some o)∨(∃ o,(b,o)∈H)∨n≤b∨(a.kind = .atomic∧∃ o,(b,o)∈ch))
theorem vN{t u:Trace}{k:Nat}{a:Touch}(h:touchAt (t++u) k=some a):(k < t.size∧touchAt t k=some a)∨(∃ op,(t++u)[k]? = some op∧op∈u∧op.act.touch? = some a):=by
 obtain ⟨x,hx,Ns⟩:=touch_of h
 rcases getElem?_append_cases hx with ⟨hk,zy⟩ | ⟨_,hxu⟩
 ·exact .inl ⟨hk,by rw [touchAt_of zy]; exact Ns⟩
 ·exact .inr ⟨x,hx,hxu,Ns⟩
theorem NH{t:Trace}{k b n:Nat}{a:Touch}(hl:∀ op∈t,op.act.low n)(h:touchAt t k=some a)(hb:blk a.loc=some b):b < n:=by
 obtain ⟨x,hx,Ns⟩:=touch_of h
 exact aHV (hl x (mem_of_getElem? hx)) Ns hb
section
variable {B:Base} {th:Nat→Option Th} {ch:aj} {cls:Option Nat} {w:World} {n n' i:Nat} {R R':ax} {H H':aj} {t u:Trace}
theorem aeK{said:Bool}(h:¬ Race said t)(hu:∀ op∈u,op.act.touch? = none):¬ Race said (t++u):=by
 rintro ⟨i,j,fC,⟨a,b,ha,hb,hc⟩,n1,n2⟩
 rcases vN (u:=u) (a:=a) (k:=i) ha with ⟨hi,ha'⟩ | ⟨op,_,h2,h3⟩
 ·rcases vN (u:=u) (a:=b) (k:=j) hb with ⟨hj,fV⟩ | ⟨op,_,h2,h3⟩
  ·exact h ⟨i,j,fC,⟨a,b,ha',fV,hc⟩,λ e=>n1 (hb_app u e),λ e=>n2 (hb_app u e)⟩
  ·rw [hu op h2] at h3; cases h3
 ·rw [hu op h2] at h3; cases h3
end
end Go.Lg
namespace Go.Lg
open Go.Conc
def df:Nat→(Nat→Nat)→Nat
 | 0,_=>0
 | j+1,f=>df j f+f j
theorem Kx{f g:Nat→Nat}:∀ {j:Nat},(∀ i,i < j→f i=g i)→df j f=df j g
 | 0,_=>rfl
 | j+1,h=>by rw [df,df,Kx (λ i hi=>h i (by omega)),h j (by omega)]
theorem Dc{f g:Nat→Nat}{i:Nat}:∀ {j:Nat},i < j→(∀ k,k≠i→g k=f k)→df j g+f i=df j f+g i
 | j+1,h,hg=>by
  rcases Nat.lt_or_ge i j with bL | tu
  ·have:=Dc bL hg
   simp only [df,hg j (by omega)]
   omega
  ·obtain rfl:i=j:=by omega
   simp only [df]
   rw [Kx (g:=f) (λ a ha=>hg a (by omega))]
   omega
section
variable (P:Program) (Post:Value→World→Prop)
def kQ(m:Machine)(t:Trace):Prop:=∃ N last o w' t',runNT P (N+1) m t=(.ended o w',t')∧runN P N m = .next last∧step P last = .ended o w'∧Good P Post last o w' t'
variable {P Post}
theorem kQ.step{m m':Machine}{t:Trace}{ops:Array MemOp}(hs:stepT P m=(.next m',ops))(h:kQ P Post m' (t++ops)):kQ P Post m t:=by
 obtain ⟨N,last,o,w',t',h1,h2,h3,h4⟩:=h
 exact ⟨N+1,last,o,w',t',by rw [runNT_succ_next hs]; exact h1,by rw [runN_succ_next hs]; exact h2,h3,h4⟩
theorem kQ.end{m:Machine}{t:Trace}{o:Outcome}{w':World}{ops:Array MemOp}(hs:stepT P m=(.ended o w',ops))(h:Good P Post m o w' (t++ops)):kQ P Post m t :=
 ⟨0,m,o,w',t++ops,by simp [runNT,hs],rfl,by simp [Go.step,hs],h⟩
end
theorem zZ{g:Nat}{fn:FuncId}{pos:String}{es:Array Event}{op:MemOp}(h:op∈MemOp.ofEvents g fn pos es):∃ e∈es,op={ g,fn,pos,act:=.ofEvent e }:=by
 rw [ofEvents_eq] at h
 obtain ⟨e,he,rfl⟩:=Array.mem_map.1 h
 exact ⟨e,he,rfl⟩
section
variable {R:ax} {H:aj} {n m:Nat} {e:Event} {ch:aj}
theorem amy{a:Touch}(h:gQ R H n m e)(ht:(MemAct.ofEvent e).touch? = some a):Zp ch R H n a:=by
 obtain ⟨loc,wr,sy⟩:=e
 have key:∀ b,A6 R H n wr b→((wr=false∧∃ o,R b=some o)∨(∃ o,(b,o)∈H)∨n≤b):=λ b hb=>by
  rcases hb with ⟨h1,h2⟩ | h2 | h2
  ·exact .inl ⟨h1,Option.isSome_iff_exists.1 h2⟩
  ·exact .inr (.inl h2)
  ·exact .inr (.inr h2)
 cases loc with
 | cell a' =>
  obtain ⟨h1,_,h3⟩:=h
  simp only at h1; subst h1
  have e1:MemAct.ofEvent ⟨.cell a',wr,false⟩ = .access ⟨.cell a',wr,false⟩:=by cases wr <;> rfl
  rw [e1] at ht
  simp only [MemAct.touch?,Option.some.injEq] at ht
  subst ht
  refine ⟨a'.block,rfl,?_⟩
  rcases key _ h3 with x | x | x
  ·exact .inl x
  ·exact .inr (.inl x)
  ·exact .inr (.inr (.inl x))
 | obj b =>
  obtain ⟨h1,_,h3⟩:=h
  simp only at h1; subst h1
  have e1:MemAct.ofEvent ⟨.obj b,wr,false⟩ = .access ⟨.obj b,wr,false⟩:=by cases wr <;> rfl
  rw [e1] at ht
  simp only [MemAct.touch?,Option.some.injEq] at ht
  subst ht
  refine ⟨b,rfl,?_⟩
  rcases key _ h3 with x | x | x
  ·exact .inl x
  ·exact .inr (.inl x)
  ·exact .inr (.inr (.inl x))
 | mark mk =>
  cases mk <;> simp [gQ] at h
  cases wr <;> cases sy <;> simp [MemAct.ofEvent,MemAct.touch?] at ht
 | _=>simp [gQ] at h
theorem amw(h:gQ R H n m e):(MemAct.ofEvent e).low m:=by
 obtain ⟨loc,wr,sy⟩:=e
 cases loc with
 | cell a' =>
  obtain ⟨h1,h2,_⟩:=h
  simp only at h1; subst h1
  cases wr <;> exact h2
 | obj b =>
  obtain ⟨h1,h2,_⟩:=h
  simp only at h1; subst h1
  cases wr <;> exact h2
 | mark mk =>
  cases mk <;> simp [gQ] at h
  cases wr <;> cases sy <;> trivial
 | _=>simp [gQ] at h
theorem abJ(h:gQ R H n m e):∀ mk,MemAct.ofEvent e = .mark mk→Neutral mk:=by
 obtain ⟨loc,wr,sy⟩:=e
 intro mk hm
 cases loc with
 | cell a'=>obtain ⟨h1,_⟩:=h; simp only at h1; subst h1; cases wr <;> cases hm
 | obj b=>obtain ⟨h1,_⟩:=h; simp only at h1; subst h1; cases wr <;> cases hm
 | mark mk' =>
  cases mk' <;> simp [gQ] at h
  cases wr <;> cases sy <;> (cases hm; rfl)
 | _=>simp [gQ] at h
end
def only(x:Th):Nat→Option Th:=λ i=>if i=0 then some x else none
theorem N9(x y:Th):fO (only x) 0 (some y)=only y:=by funext i; unfold fO only; split <;> rfl
end Go.Lg
namespace Go.Lg
open Go.Conc Go.ConcN
def fY(f:Nat→Nat)(i x:Nat):Nat→Nat:=λ j=>if j=i then x else f j
theorem sB(f:Nat→Nat)(i x:Nat):fY f i x i=x:=by simp [fY]
theorem sA{f:Nat→Nat}{i j x:Nat}(h:j≠i):fY f i x j=f j:=by simp [fY,h]
theorem l6(f:Nat→Nat)(i:Nat):fY f i (f i)=f:=by funext j; unfold fY; split <;> simp [*]
def nK(f:Nat→Bool)(i:Nat)(x:Bool):Nat→Bool:=λ j=>if j=i then x else f j
theorem OM(f:Nat→Bool)(i:Nat)(x:Bool):nK f i x i=x:=by simp [nK]
theorem X2{f:Nat→Bool}{i j:Nat}{x:Bool}(h:j≠i):nK f i x j=f j:=by simp [nK,h]
def yH(a:Option Addr)(t:Trace)(k:Nat):Prop:=∃ x p,a=some x∧t.act? p=some (.mark (.releaseMerge x))∧t.heard p∧Before t k p
theorem yH.app{a:Option Addr}{t:Trace}{k:Nat}(h:yH a t k)(u:Trace):yH a (t++u) k:=by
 obtain ⟨x,p,h1,h2,h3,h4⟩:=h
 have hp:=lt_of_act? h2
 exact ⟨x,p,h1,by rw [act?_old hp]; exact h2,(heard_old hp).2 h3,h4.app u⟩
structure cX (am aw:Option Addr) (th:Nat→Option Th) (mu:Nat→Bool) (dd:Nat→Nat) (sh:List Nat) (fr:Option Nat) (n:Nat) (t:Trace):Prop where
 own:∀ i x,th i=some x→∀ b o,(b,o)∈x.H→∀ k a,touchAt t k=some a→blk a.loc=some b→Kn t i k
 read:∀ i x,th i=some x→∀ b o,x.R b=some o→∀ k a,touchAt t k=some a→blk a.loc=some b→a.write=true→Kn t i k
 shr:∀ b,b∈sh→∀ k a,touchAt t k=some a→blk a.loc=some b→a.kind = .atomic∨(a.kind = .said∧Kn t 0 k)∨∀ i x,th i=some x→Kn t i k
 free:∀ b,fr=some b→∀ k a,touchAt t k=some a→blk a.loc=some b→(∀ i x,th i=some x→Kn t i k)∨yH am t k
 low:∀ op∈t,op.act.low n
 all:∀ k a,touchAt t k=some a→a.loc.isMemory=true→(a.kind ≠ .atomic∨t.heard k)→(∃ i x,th i=some x∧mu i=false∧Kn t i k)∨yH aw t k
 deaf:∀ i,Deaf t i=dd i
 norel:∀ a,NoRelease a t
 clean:∀ said,¬ Race said t
 qu:∀ k a,touchAt t k=some a→a.kind = .atomic→∀ b,blk a.loc=some b→(∀ i x,th i=some x→∀ o,(b,o) ∉ x.H)∧fr≠some b
def ai6(sh:List Nat)(i:Nat)(a:Touch):Prop:=∃ b,blk a.loc=some b∧b∈sh∧(a.kind = .atomic∨(a.kind = .said∧i=0))
section
variable {B:Base} {am aw:Option Addr} {th:Nat→Option Th} {mu:Nat→Bool} {dd:Nat→Nat} {sh:List Nat} {fr:Option Nat} {ch:aj} {w:World} {n n' i:Nat} {R R':ax} {H H':aj} {t u:Trace}
theorem Xc(h:∀ a,NoRelease a t)(hr:∀ op∈u,∀ a,op.act ≠ .mark (.release a))(a:Addr):NoRelease a (t++u):=by
 intro k hk
 obtain ⟨op,ho,hoa⟩:=Option.map_eq_some_iff.1 hk
 rcases getElem?_append_cases ho with ⟨_,eX⟩ | ⟨_,hu⟩
 ·exact h a k (by rw [Trace.act?,eX]; simp [hoa])
 ·exact hr op hu a hoa
theorem aa5(h:∀ i,Deaf t i=dd i)(hu:∀ op∈u,op.g=i){d':Nat}(hd:Deaf (t++u) i=d')(j:Nat):Deaf (t++u) j=fY dd i d' j:=by
 by_cases hj:j=i
 ·subst hj; rw [sB,hd]
 ·rw [sA hj,Deaf_other (g':=i) t (Ne.symm hj) u hu,h j]
theorem cX.app(hM:fl B th ch w)(hn:w.heap.size=n)(bn:∀ b,b∈sh→∃ o,(b,o)∈ch)(zj:∀ b,fr=some b→(∃ o,(b,o)∈ch)∧b ∉ sh)
  (h:cX am aw th mu dd sh fr n t) (hi:th i=some ⟨R,H⟩) (hu:∀ op∈u,op.g=i)
  (ht:∀ op∈u,∀ a,op.act.touch? = some a→(Zp [] R H n a∧a.kind ≠ .atomic)∨ai6 sh i a) (hl:∀ op∈u,op.act.low n') (hr:∀ op∈u,∀ a,op.act ≠ .mark (.release a))
  {d':Nat} (hd:Deaf (t++u) i=d') (hc:mu i=false∨∀ k a,t.size≤k→touchAt (t++u) k=some a→¬ (a.kind ≠ .atomic∨(t++u).heard k)) (hnn:n≤n')
  (hR:∀ b o,R' b=some o→R b=some o∨(∃ o',(b,o')∈H)∨n≤b) (hH:∀ b o,(b,o)∈H'→(∃ o',(b,o')∈H)∨n≤b) :
  cX am aw (fO th i (some ⟨R',H'⟩)) mu (fY dd i d') sh fr n' (t++u):=by
 have Cj {j:Nat} {y:Th} (hy:th j=some y):(∀ b o,y.R b=some o→b < n)∧(∀ b o,(b,o)∈y.H→b < n) :=
  ⟨λ b o x=>hn ▸ k6 ((hM.fits j y hy).r b o x),λ b o x=>hn ▸ k6 ((hM.fits j y hy).h b o x)⟩
 have WM:∀ c o,(c,o)∈ch→c < n:=λ c o hc=>hn ▸ k6 (hM.ni c o hc)
 have N0:∀ k op,(t++u)[k]? = some op→op∈u→Kn (t++u) i k:=λ k op h1 h2=>by
  have:=knows_own h1; rwa [hu op h2] at this
 have Gf:∀ {b j y},b∈sh→th j=some y→y.R b=none∧∀ o',(b,o') ∉ y.H:=λ {b j y} hb hy=>by
  obtain ⟨o,ho⟩:=bn b hb; exact hM.lI b o ho j y hy
 refine ⟨λ j y hy b o hb k a hk bE=>?_,λ j y hy b o hb k a hk bE vl=>?_,λ b hb k a hk bE=>?_,λ b hb k a hk bE=>?_,λ op ao=>?_,λ k a hk hm eV=>?_,aa5 h.deaf hu hd,Xc h.norel hr,λ said=>?_,λ k a hk jF b bE=>?_⟩
 ·by_cases hj:j=i
  ·subst hj; rw [ff] at hy; cases hy
   rcases vN hk with ⟨_,dM⟩ | ⟨op,h1,h2,_⟩
   ·rcases hH b o hb with ⟨o',eX⟩ | tu
    ·exact (h.own j _ hi b o' eX k a dM bE).app u
    ·have:=NH h.low dM bE; omega
   ·exact N0 k op h1 h2
  ·rw [ey hj] at hy
   rcases vN hk with ⟨_,dM⟩ | ⟨op,h1,h2,h3⟩
   ·exact (h.own j y hy b o hb k a dM bE).app u
   ·have kY:=hM.apart j i _ _ hj hy hi b o hb
    rcases ht op h2 a h3 with ⟨⟨b',fV,w6⟩,_⟩ | ⟨b',fV,hs,_⟩
    ·rw [bE] at fV; cases fV
     rcases w6 with ⟨_,o',x⟩ | ⟨o',x⟩ | x | ⟨_,o',x⟩
     ·exact nn kY.1 x
     ·exact absurd x (kY.2 o')
     ·have:=(Cj hy).2 b o hb; omega
     ·cases x
    ·rw [bE] at fV; cases fV
     exact absurd hb ((Gf hs hy).2 o)
 ·by_cases hj:j=i
  ·subst hj; rw [ff] at hy; cases hy
   rcases vN hk with ⟨_,dM⟩ | ⟨op,h1,h2,_⟩
   ·rcases hR b o hb with x | ⟨o',x⟩ | x
    ·exact (h.read j _ hi b o x k a dM bE vl).app u
    ·exact (h.own j _ hi b o' x k a dM bE).app u
    ·have:=NH h.low dM bE; omega
   ·exact N0 k op h1 h2
  ·rw [ey hj] at hy
   rcases vN hk with ⟨_,dM⟩ | ⟨op,h1,h2,h3⟩
   ·exact (h.read j y hy b o hb k a dM bE vl).app u
   ·rcases ht op h2 a h3 with ⟨⟨b',fV,w6⟩,_⟩ | ⟨b',fV,hs,_⟩
    ·rw [bE] at fV; cases fV
     rcases w6 with ⟨x,_⟩ | ⟨o',x⟩ | x | ⟨_,o',x⟩
     ·rw [vl] at x; cases x
     ·exact nn (hM.apart i j _ _ (Ne.symm hj) hi hy b o' x).1 hb
     ·have:=(Cj hy).1 b o hb; omega
     ·cases x
    ·rw [bE] at fV; cases fV
     exact nn (Gf hs hy).1 hb
 ·rcases vN hk with ⟨_,dM⟩ | ⟨op,h1,h2,h3⟩
  ·refine (h.shr b hb k a dM bE).imp id (Or.imp (And.imp id (·.app u)) λ x j y hy=>?_)
   by_cases hj:j=i
   ·subst hj; exact (x j _ hi).app u
   ·rw [ey hj] at hy; exact (x j y hy).app u
  ·rcases ht op h2 a h3 with ⟨⟨b',fV,w6⟩,_⟩ | ⟨b',fV,hs,MS⟩
   ·rw [bE] at fV; cases fV
    rcases w6 with ⟨_,o',x⟩ | ⟨o',x⟩ | x | ⟨_,o',x⟩
    ·exact nn (Gf hb hi).1 x
    ·exact absurd x ((Gf hb hi).2 o')
    ·obtain ⟨o,ho⟩:=bn b hb; have:=WM b o ho; omega
    ·cases x
   ·rcases MS with x | ⟨x,rfl⟩
    ·exact .inl x
    ·exact .inr (.inl ⟨x,N0 k op h1 h2⟩)
 ·rcases vN hk with ⟨_,dM⟩ | ⟨op,h1,h2,h3⟩
  ·refine (h.free b hb k a dM bE).imp (λ x j y hy=>?_) (·.app u)
   by_cases hj:j=i
   ·subst hj; exact (x j _ hi).app u
   ·rw [ey hj] at hy; exact (x j y hy).app u
  ·obtain ⟨⟨o,ho⟩,hns⟩:=zj b hb
   rcases ht op h2 a h3 with ⟨⟨b',fV,w6⟩,_⟩ | ⟨b',fV,hs,_⟩
   ·rw [bE] at fV; cases fV
    rcases w6 with ⟨_,o',x⟩ | ⟨o',x⟩ | x | ⟨_,o',x⟩
    ·exact nn (hM.lI b o ho i _ hi).1 x
    ·exact absurd x ((hM.lI b o ho i _ hi).2 o')
    ·have:=WM b o ho; omega
    ·cases x
   ·rw [bE] at fV; cases fV
    exact absurd hs hns
 ·rcases Array.mem_append.1 ao with x | x
  ·exact MemAct.low_mono hnn (h.low op x)
  ·exact hl op x
 ·rcases Nat.lt_or_ge k t.size with bL | tu
  ·have dM:touchAt t k=some a:=by rw [← touchAt_old (u:=u) bL]; exact hk
   refine (h.all k a dM hm (eV.imp id (heard_old bL).1)).imp (λ ⟨j,y,hy,dp,ik⟩=>?_) (·.app u)
   by_cases hj:j=i
   ·subst hj; exact ⟨j,_,ff _ _ _,dp,ik.app u⟩
   ·exact ⟨j,y,by rw [ey hj]; exact hy,dp,ik.app u⟩
  ·rcases hc with dp | hc
   ·obtain ⟨op,h1,_⟩:=touch_of hk
    rcases getElem?_append_cases h1 with ⟨bL,_⟩ | ⟨_,h2⟩
    ·omega
    ·exact .inl ⟨i,_,ff _ _ _,dp,N0 k op h1 h2⟩
   ·exact absurd eV (hc k a tu hk)
 ·refine noRace_append (h.clean said) hu λ k a hk op ao b hb w6=>?_
  obtain ⟨acW,mE,vl,Iy⟩:=w6
  rcases ht op ao b hb with ⟨⟨bb,Sx,pX⟩,_⟩ | ⟨bb,Sx,hs,MS⟩
  ·have bE:blk a.loc=some bb:=by rw [acW]; exact Sx
   rcases pX with ⟨x,o,ho⟩ | ⟨o,x⟩ | x | ⟨_,o,x⟩
   ·have ve:a.write=true:=by
     rcases vl with y | y
     ·exact y
     ·rw [x] at y; cases y
    exact h.read i _ hi bb o ho k a hk bE ve
   ·exact h.own i _ hi bb o x k a hk bE
   ·have:=NH h.low hk bE; omega
   ·cases x
  ·have bE:blk a.loc=some bb:=by rw [acW]; exact Sx
   rcases h.shr bb hs k a hk bE with y | ⟨y,y'⟩ | y
   ·rcases Iy with z | z | ⟨_,z,_⟩
    ·rw [y] at z; cases z
    ·rcases MS with x | ⟨x,_⟩ <;> (rw [x] at z; cases z)
    ·rw [y] at z; cases z
   ·rcases MS with x | ⟨x,rfl⟩
    ·rcases Iy with z | z | ⟨_,_,z⟩
     ·rw [y] at z; cases z
     ·rw [x] at z; cases z
     ·rw [x] at z; cases z
    ·exact y'
   ·exact y i _ hi
 ·rcases vN hk with ⟨_,dM⟩ | ⟨op,h1,h2,h3⟩
  ·obtain ⟨z1,z2⟩:=h.qu k a dM jF b bE
   refine ⟨λ j y hy o ho=>?_,z2⟩
   by_cases hj:j=i
   ·subst hj; rw [ff] at hy; cases hy
    rcases hH b o ho with ⟨o',eX⟩ | tu
    ·exact z1 j _ hi o' eX
    ·have:=NH h.low dM bE; omega
   ·rw [ey hj] at hy; exact z1 j y hy o ho
  ·rcases ht op h2 a h3 with ⟨_,hna⟩ | ⟨b',fV,hs,_⟩
   ·exact absurd jF hna
   ·rw [bE] at fV; cases fV
    refine ⟨λ j y hy o ho=>?_,λ e=>(zj b e).2 hs⟩
    by_cases hj:j=i
    ·subst hj; rw [ff] at hy; cases hy
     rcases hH b o ho with ⟨o',eX⟩ | tu
     ·exact (Gf hs hi).2 o' eX
     ·obtain ⟨o2,ho2⟩:=bn b hs; have:=WM b o2 ho2; omega
    ·rw [ey hj] at hy; exact (Gf hs hy).2 o ho
theorem Gh(hu:∀ op∈u,op.act.touch? = none){k:Nat}{a:Touch}(h:touchAt (t++u) k=some a):touchAt t k=some a:=by
 rcases vN h with ⟨_,x⟩ | ⟨op,_,h2,h3⟩
 ·exact x
 ·rw [hu op h2] at h3; cases h3
theorem cX.mute(h:cX am aw th mu dd sh fr n t)(hu:∀ op∈u,op.g=i)(hm:∀ op∈u,op.act.touch? = none)(hl:∀ op∈u,op.act.low n)(hr:∀ op∈u,∀ a,op.act ≠ .mark (.release a)){d':Nat}(hd:Deaf (t++u) i=d') :
  cX am aw th mu (fY dd i d') sh fr n (t++u):=by
 have old:∀ {k a},touchAt (t++u) k=some a→k < t.size∧touchAt t k=some a:=λ {k a} hk=>by
  have:=Gh hm hk
  obtain ⟨x,hx,_⟩:=touch_of this
  exact ⟨lt_size_of_getElem? hx,this⟩
 exact ⟨λ j y hy b o hb k a hk bE=>(h.own j y hy b o hb k a (old hk).2 bE).app u,λ j y hy b o hb k a hk bE vl=>(h.read j y hy b o hb k a (old hk).2 bE vl).app u,
  λ b hb k a hk bE=>(h.shr b hb k a (old hk).2 bE).imp id (Or.imp (And.imp id (·.app u)) λ x j y hy=>(x j y hy).app u),
  λ b hb k a hk bE=>(h.free b hb k a (old hk).2 bE).imp (λ x j y hy=>(x j y hy).app u) (·.app u),
  λ op ao=>(Array.mem_append.1 ao).elim (h.low op) (hl op),
  λ k a hk It eV=>(h.all k a (old hk).2 It (eV.imp id (heard_old (old hk).1).1)).imp (λ ⟨j,y,hy,dp,ik⟩=>⟨j,y,hy,dp,ik.app u⟩) (·.app u),
  aa5 h.deaf hu hd,Xc h.norel hr,λ said=>aeK (h.clean said) hm,λ k a hk=>h.qu k a (old hk).2⟩
theorem heard_new{y:MemOp}(h:∀ i,Deaf t i=dd i)(hd:dd y.g=0):(t++#[y]).heard t.size :=
 ⟨y.g,by simp [Trace.g?],by rw [deaf_old (Nat.le_refl _)]; exact (h y.g).trans hd⟩
theorem adL{a:Addr}{y:MemOp}{k:Nat}(hd:∀ i,Deaf t i=dd i)(h0:dd y.g=0)(hn:∀ a,NoRelease a (t++#[y]))(hy:y.act = .mark (.acquire a))(h:yH (some a) t k):Kn (t++#[y]) y.g k:=by
 obtain ⟨x,p,e,h1,h2,h3⟩:=h
 cases e
 have hp:=lt_of_act? h1
 have hq:(t++#[y])[t.size]? = some y:=by simp
 have akY:HappensBefore (t++#[y]) p t.size:=.single (.inr ⟨.marked hp (.inr (by rw [act?_old hp]; exact h1)) (by rw [act?_of hq,hy]) (λ k _ _=>hn a k),(heard_old hp).2 h2,heard_new hd h0⟩)
 exact ⟨t.size,y,hq,rfl,.inr ((h3.app #[y]).hb akY)⟩
theorem Z1{a:Addr}{y:MemOp}{k:Nat}(hd:∀ i,Deaf t i=dd i)(h0:dd y.g=0)(hy:y.act = .mark (.releaseMerge a))(h:Kn t y.g k):yH (some a) (t++#[y]) k:=by
 have hq:(t++#[y])[t.size]? = some y:=by simp
 exact ⟨a,t.size,rfl,by rw [act?_of hq,hy],heard_new hd h0,.inr (Go.Conc.Knows.hb_new h (Nat.le_refl _) hq rfl)⟩
theorem xL{y op:MemOp}(h:op∈#[y]):op=y:=by simpa using h
theorem NU{y:MemOp}{m:Mark}(hy:y.act = .mark m)(h1:∀ a,m ≠ .read a)(h2:∀ a,m ≠ .write a)(h3:∀ a,m ≠ .release a)(hl:(MemAct.mark m).low n) :
  (∀ op∈#[y],op.act.touch? = none)∧(∀ op∈#[y],op.act.low n)∧(∀ op∈#[y],∀ a,op.act ≠ .mark (.release a)):=by
 refine ⟨λ op ao=>?_,λ op ao=>?_,λ op ao a=>?_⟩ <;> (rw [xL ao,hy])
 ·cases m <;> first | rfl | exact absurd rfl (h1 _) | exact absurd rfl (h2 _)
 ·exact hl
 ·exact λ e=>h3 a (by cases e; rfl)
theorem Ma{y:MemOp}{m:Mark}(h:∀ i,Deaf t i=dd i)(hy:y.act = .mark m)(h1:m ≠ .disable)(h2:m ≠ .enable):Deaf (t++#[y]) y.g=dd y.g:=by
 rw [Deaf_push]
 unfold deafStep
 rw [hy]
 cases m <;> first | exact h y.g | exact absurd rfl h1 | exact absurd rfl h2
theorem cX.acquire{a:Addr}{b:Nat}{o:Obj}{y:MemOp}(h:cX (some a) aw th mu dd sh (some b) n t)(hi:th i=some ⟨R,H⟩)(hg:y.g=i)(hy:y.act = .mark (.acquire a))(h0:dd i=0)(hl:(MemAct.mark (.acquire a)).low n) :
  cX (some a) aw (fO th i (some ⟨R,(b,o)::H⟩)) mu dd sh none n (t++#[y]):=by
 subst hg
 obtain ⟨m1,m2,m3⟩:=NU (n:=n) hy (by intro a e; cases e) (by intro a e; cases e) (by intro a e; cases e) hl
 have hb:=h.mute (i:=y.g) (λ op ao=>by rw [xL ao]) m1 m2 m3 (Ma h.deaf hy (by intro e; cases e) (by intro e; cases e))
 rw [l6] at hb
 have old:∀ {k a},touchAt (t++#[y]) k=some a→touchAt t k=some a:=λ {k a} hk=>Gh m1 hk
 refine ⟨λ j x hx c o' hc k a' hk bE=>?_,λ j x hx c o' hc k a' hk bE hw=>?_,λ c hc k a' hk bE=>?_,λ c hc=>(by cases hc),hb.low,λ k a' hk hm eV=>?_,hb.deaf,hb.norel,hb.clean,λ k a' hk jF c bE=>⟨λ j x hx o' hc=>?_,λ e=>by cases e⟩⟩
 rotate_right
 ·obtain ⟨z1,z2⟩:=hb.qu k a' hk jF c bE
  by_cases hj:j=y.g
  ·subst hj; rw [ff] at hx; cases hx
   rcases List.mem_cons.1 hc with e | hc
   ·cases e; exact z2 rfl
   ·exact z1 _ _ hi o' hc
  ·rw [ey hj] at hx; exact z1 j x hx o' hc
 ·by_cases hj:j=y.g
  ·subst hj; rw [ff] at hx; cases hx
   rcases List.mem_cons.1 hc with e | hc
   ·cases e
    rcases h.free _ rfl k a' (old hk) bE with x | x
    ·exact (x _ _ hi).app _
    ·exact adL h.deaf h0 hb.norel hy x
   ·exact hb.own _ _ hi c o' hc k a' hk bE
  ·rw [ey hj] at hx; exact hb.own j x hx c o' hc k a' hk bE
 ·by_cases hj:j=y.g
  ·subst hj; rw [ff] at hx; cases hx; exact hb.read _ _ hi c o' hc k a' hk bE hw
  ·rw [ey hj] at hx; exact hb.read j x hx c o' hc k a' hk bE hw
 ·refine (hb.shr c hc k a' hk bE).imp id (Or.imp id λ z j x hx=>?_)
  by_cases hj:j=y.g
  ·subst hj; exact z _ _ hi
  ·rw [ey hj] at hx; exact z j x hx
 ·refine (hb.all k a' hk hm eV).imp (λ ⟨j,x,hx,dp,ik⟩=>?_) id
  by_cases hj:j=y.g
  ·subst hj; exact ⟨_,_,ff _ _ _,dp,ik⟩
  ·exact ⟨j,x,by rw [ey hj]; exact hx,dp,ik⟩
theorem cX.release{a:Addr}{b:Nat}{o:Obj}{y:MemOp}(h:cX (some a) aw th mu dd sh none n t)(hi:th i=some ⟨R,H⟩)(Bx:(b,o)∈H)(hH:∀ x∈H',x∈H)(hg:y.g=i)(hy:y.act = .mark (.releaseMerge a))(h0:dd i=0)(hl:(MemAct.mark (.releaseMerge a)).low n) :
  cX (some a) aw (fO th i (some ⟨R,H'⟩)) mu dd sh (some b) n (t++#[y]):=by
 subst hg
 obtain ⟨m1,m2,m3⟩:=NU (n:=n) hy (by intro a e; cases e) (by intro a e; cases e) (by intro a e; cases e) hl
 have hb:=h.mute (i:=y.g) (λ op ao=>by rw [xL ao]) m1 m2 m3 (Ma h.deaf hy (by intro e; cases e) (by intro e; cases e))
 rw [l6] at hb
 have old:∀ {k a},touchAt (t++#[y]) k=some a→touchAt t k=some a:=λ {k a} hk=>Gh m1 hk
 refine ⟨λ j x hx c o' hc k a' hk bE=>?_,λ j x hx c o' hc k a' hk bE hw=>?_,λ c hc k a' hk bE=>?_,λ c hc k a' hk bE=>?_,hb.low,λ k a' hk hm eV=>?_,hb.deaf,hb.norel,hb.clean,λ k a' hk jF c bE=>⟨λ j x hx o' hc=>?_,λ e=>?_⟩⟩
 rotate_right 2
 ·obtain ⟨z1,z2⟩:=hb.qu k a' hk jF c bE
  by_cases hj:j=y.g
  ·subst hj; rw [ff] at hx; cases hx
   exact z1 _ _ hi o' (hH _ hc)
  ·rw [ey hj] at hx; exact z1 j x hx o' hc
 ·cases e; exact (hb.qu k a' hk jF _ bE).1 _ _ hi _ Bx
 ·by_cases hj:j=y.g
  ·subst hj; rw [ff] at hx; cases hx
   exact hb.own _ _ hi c o' (hH _ hc) k a' hk bE
  ·rw [ey hj] at hx; exact hb.own j x hx c o' hc k a' hk bE
 ·by_cases hj:j=y.g
  ·subst hj; rw [ff] at hx; cases hx; exact hb.read _ _ hi c o' hc k a' hk bE hw
  ·rw [ey hj] at hx; exact hb.read j x hx c o' hc k a' hk bE hw
 ·refine (hb.shr c hc k a' hk bE).imp id (Or.imp id λ z j x hx=>?_)
  by_cases hj:j=y.g
  ·subst hj; exact z _ _ hi
  ·rw [ey hj] at hx; exact z j x hx
 ·cases hc
  exact .inr (Z1 h.deaf h0 hy (h.own _ _ hi b o Bx k a' (old hk) bE))
 ·refine (hb.all k a' hk hm eV).imp (λ ⟨j,x,hx,dp,ik⟩=>?_) id
  by_cases hj:j=y.g
  ·subst hj; exact ⟨_,_,ff _ _ _,dp,ik⟩
  ·exact ⟨j,x,by rw [ey hj]; exact hx,dp,ik⟩
theorem cX.aIQ{a:Addr}{y:MemOp}(h:cX am (some a) th mu dd sh fr n t)(hg:y.g=i)(hy:y.act = .mark (.releaseMerge a))(h0:dd i=0)(hl:(MemAct.mark (.releaseMerge a)).low n) :
  cX am (some a) th (nK mu i true) dd sh fr n (t++#[y]):=by
 subst hg
 obtain ⟨m1,m2,m3⟩:=NU (n:=n) hy (by intro a e; cases e) (by intro a e; cases e) (by intro a e; cases e) hl
 have hb:=h.mute (i:=y.g) (λ op ao=>by rw [xL ao]) m1 m2 m3 (Ma h.deaf hy (by intro e; cases e) (by intro e; cases e))
 rw [l6] at hb
 have old:∀ {k a},touchAt (t++#[y]) k=some a→k < t.size∧touchAt t k=some a:=λ {k a} hk=>by
  have:=Gh m1 hk
  obtain ⟨x,hx,_⟩:=touch_of this
  exact ⟨lt_size_of_getElem? hx,this⟩
 refine ⟨hb.own,hb.read,hb.shr,hb.free,hb.low,λ k a' hk hm eV=>?_,hb.deaf,hb.norel,hb.clean,hb.qu⟩
 rcases h.all k a' (old hk).2 hm (eV.imp id (heard_old (old hk).1).1) with ⟨j,x,hx,dp,ik⟩ | x
 ·by_cases hj:j=y.g
  ·subst hj; exact .inr (Z1 h.deaf h0 hy ik)
  ·exact .inl ⟨j,x,hx,by rw [X2 hj]; exact dp,ik.app _⟩
 ·exact .inr (x.app _)
theorem cX.die(h:cX am aw th mu dd sh fr n t)(hm:mu i=true):cX am aw (fO th i none) mu dd sh fr n t:=by
 have key:∀ j y,fO th i none j=some y→th j=some y:=λ j y hy=>by
  by_cases hj:j=i
  ·subst hj; rw [ff] at hy; cases hy
  ·rwa [ey hj] at hy
 refine ⟨λ j y hy=>h.own j y (key j y hy),λ j y hy=>h.read j y (key j y hy),λ b hb k a hk bE=>(h.shr b hb k a hk bE).imp id (Or.imp id λ z j y hy=>z j y (key j y hy)),λ b hb k a hk bE=>(h.free b hb k a hk bE).imp (λ z j y hy=>z j y (key j y hy)) id,h.low,λ k a hk It eV=>?_,h.deaf,h.norel,h.clean,λ k a hk jF b bE=>(h.qu k a hk jF b bE).imp (λ z j y hy=>z j y (key j y hy)) id⟩
 refine (h.all k a hk It eV).imp (λ ⟨j,y,hy,dp,ik⟩=>⟨j,y,?_,dp,ik⟩) id
 by_cases hj:j=i
 ·subst hj; rw [hm] at dp; cases dp
 ·rw [ey hj]; exact hy
theorem cX.spawn{c:Nat}{x y:MemOp}(h:cX am aw th mu dd sh fr n t)(hi:th 0=some ⟨R,H⟩)(hR:aQ R' R)(hc:th c=none)(hx:x.g=0∧x.act = .go c)(hy:y.g=c∧y.act = .start)(h0:dd 0=0)(hdc:dd c=0)(cT:c≠0)(hmc:mu c=false) :
  cX am aw (fO th c (some ⟨R',[]⟩)) mu dd sh fr n (t++#[x,y]):=by
 have EF:∀ op∈#[x,y],op=x∨op=y:=by intro op ao; simpa using ao
 have m1:∀ op∈#[x,y],op.act.touch? = none:=λ op ao=>by
  rcases EF op ao with rfl | rfl
  ·rw [hx.2]; rfl
  ·rw [hy.2]; rfl
 have old:∀ {k a},touchAt (t++#[x,y]) k=some a→k < t.size∧touchAt t k=some a:=λ {k a} hk=>by
  have:=Gh m1 hk
  obtain ⟨x,hx,_⟩:=touch_of this
  exact ⟨lt_size_of_getElem? hx,this⟩
 have kn:∀ {k},Kn t 0 k→Kn (t++#[x,y]) c k:=λ hk=>fork_knows hx hy ((h.deaf 0).trans h0) ((h.deaf c).trans hdc) hk
 refine ⟨λ j z hz b o hb k a hk bE=>?_,λ j z hz b o hb k a hk bE hw=>?_,λ b hb k a hk bE=>?_,λ b hb k a hk bE=>?_,λ op ao=>?_,λ k a hk hm eV=>?_,λ j=>?_,Xc h.norel λ op ao a=>?_,λ said=>aeK (h.clean said) m1,λ k a hk jF b bE=>(h.qu k a (old hk).2 jF b bE).imp (λ z j y' rQ o ho=>?_) id⟩
 ·by_cases hj:j=c
  ·subst hj; rw [ff] at hz; cases hz; cases hb
  ·rw [ey hj] at hz; exact (h.own j z hz b o hb k a (old hk).2 bE).app _
 ·by_cases hj:j=c
  ·subst hj; rw [ff] at hz; cases hz
   exact kn (h.read 0 _ hi b o (hR b o hb) k a (old hk).2 bE hw)
  ·rw [ey hj] at hz; exact (h.read j z hz b o hb k a (old hk).2 bE hw).app _
 ·refine (h.shr b hb k a (old hk).2 bE).imp id (Or.imp (And.imp id (·.app _)) λ z j y' rQ=>?_)
  by_cases hj:j=c
  ·subst hj; exact kn (z 0 _ hi)
  ·rw [ey hj] at rQ; exact (z j y' rQ).app _
 ·refine (h.free b hb k a (old hk).2 bE).imp (λ z j y' rQ=>?_) (·.app _)
  by_cases hj:j=c
  ·subst hj; exact kn (z 0 _ hi)
  ·rw [ey hj] at rQ; exact (z j y' rQ).app _
 ·rcases Array.mem_append.1 ao with z | z
  ·exact h.low op z
  ·rcases EF op z with rfl | rfl
   ·rw [hx.2]; trivial
   ·rw [hy.2]; trivial
 ·refine (h.all k a (old hk).2 hm (eV.imp id (heard_old (old hk).1).1)).imp (λ ⟨j,z,hz,dp,ik⟩=>⟨j,z,?_,dp,ik.app _⟩) (·.app _)
  rw [ey (λ e=>by subst e; rw [hc] at hz; cases hz)]; exact hz
 ·have e:t++#[x,y]=(t++#[x])++#[y]:=by apply Array.ext'; simp
  rw [e,Deaf_push,Deaf_push]
  unfold deafStep
  rw [hx.2,hy.2]
  exact h.deaf j
 ·rcases EF op ao with rfl | rfl
  ·rw [hx.2]; intro e; cases e
  ·rw [hy.2]; intro e; cases e
 ·by_cases hj:j=c
  ·subst hj; rw [ff] at rQ; cases rQ; cases ho
  ·rw [ey hj] at rQ; exact z j y' rQ o ho
end
section
variable {B:Base} {am aw:Option Addr} {mu:Nat→Bool} {dd:Nat→Nat} {sh:List Nat} {n:Nat} {R:ax} {H H':aj} {t:Trace}
theorem cX.share{bs:List Nat}{b:Nat}(h:cX none none (only ⟨R,H⟩) mu dd [] none n t)(hs:∀ c∈b::bs,∃ o,(c,o)∈H)(hH:∀ x∈H',x∈H)(am aw:Option Addr):cX am aw (only ⟨R,H'⟩) mu dd bs (some b) n t:=by
 have o0:∀ {i x H1},only ⟨R,H1⟩ i=some x→i=0∧x=⟨R,H1⟩:=λ {i x H1} hx=>by
  unfold only at hx; split at hx
  ·cases hx; exact ⟨‹_›,rfl⟩
  ·cases hx
 refine ⟨λ i x hx c o hc k a hk bE=>?_,λ i x hx c o hc k a hk bE hw=>?_,λ c hc k a hk bE=>?_,λ c hc k a hk bE=>?_,h.low,λ k a hk hm eV=>?_,h.deaf,h.norel,h.clean,λ k a hk jF c bE=>⟨λ i x hx o ho=>?_,λ e=>?_⟩⟩
 ·obtain ⟨rfl,rfl⟩:=o0 hx; exact h.own 0 _ rfl c o (hH _ hc) k a hk bE
 ·obtain ⟨rfl,rfl⟩:=o0 hx; exact h.read 0 _ rfl c o hc k a hk bE hw
 ·obtain ⟨o,ho⟩:=hs c (List.mem_cons_of_mem _ hc)
  refine .inr (.inr λ i x hx=>?_)
  obtain ⟨rfl,rfl⟩:=o0 hx; exact h.own 0 _ rfl c o ho k a hk bE
 ·cases hc
  obtain ⟨o,ho⟩:=hs b (by simp)
  refine .inl λ i x hx=>?_
  obtain ⟨rfl,rfl⟩:=o0 hx; exact h.own 0 _ rfl b o ho k a hk bE
 ·rcases h.all k a hk hm eV with ⟨i,x,hx,dp,ik⟩ | ⟨x,p,e,_⟩
  ·obtain ⟨rfl,rfl⟩:=o0 hx; exact .inl ⟨0,_,rfl,dp,ik⟩
  ·cases e
 ·obtain ⟨rfl,rfl⟩:=o0 hx; exact (h.qu k a hk jF c bE).1 0 _ rfl o (hH _ ho)
 ·cases e
  obtain ⟨o,ho⟩:=hs b (by simp)
  exact (h.qu k a hk jF b bE).1 0 _ rfl o ho
theorem cX.aIC{a:Addr}{b:Nat}{o:Obj}{y:MemOp}(h:cX am (some a) (only ⟨R,H⟩) mu dd sh (some b) n t)(_:b < n)(hg:y.g=0)(hy:y.act = .mark (.acquire a))(h0:dd 0=0)(_:mu 0=false)(hl:(MemAct.mark (.acquire a)).low n) :
  cX none none (only ⟨R,(b,o)::H⟩) (λ _=>false) dd [] none n (t++#[y]):=by
 have o0:∀ {i x H1},only ⟨R,H1⟩ i=some x→i=0∧x=⟨R,H1⟩:=λ {i x H1} hx=>by
  unfold only at hx; split at hx
  ·cases hx; exact ⟨‹_›,rfl⟩
  ·cases hx
 obtain ⟨m1,m2,m3⟩:=NU (n:=n) hy (by intro a e; cases e) (by intro a e; cases e) (by intro a e; cases e) hl
 have hB:=h.mute (i:=y.g) (λ op ao=>by rw [xL ao]) m1 m2 m3 (Ma h.deaf hy (by intro e; cases e) (by intro e; cases e))
 rw [l6] at hB
 have old:∀ {k a},touchAt (t++#[y]) k=some a→k < t.size∧touchAt t k=some a:=λ {k a} hk=>by
  have:=Gh m1 hk
  obtain ⟨x,hx,_⟩:=touch_of this
  exact ⟨lt_size_of_getElem? hx,this⟩
 have acq:∀ {k},yH (some a) t k→Kn (t++#[y]) 0 k:=λ {k} hk=>by
  have:=adL h.deaf (by rw [hg]; exact h0) hB.norel hy hk
  rwa [hg] at this
 have adK:∀ k x,touchAt (t++#[y]) k=some x→x.loc.isMemory=true→(x.kind ≠ .atomic∨(t++#[y]).heard k)→Kn (t++#[y]) 0 k:=λ k x hk hm eV=>by
  rcases h.all k x (old hk).2 hm (eV.imp id (heard_old (old hk).1).1) with ⟨i,z,hz,_,ik⟩ | z
  ·obtain ⟨rfl,rfl⟩:=o0 hz; exact ik.app _
  ·exact acq z
 refine ⟨λ i x hx c o' hc k a' hk bE=>?_,λ i x hx c o' hc k a' hk bE hw=>?_,λ c hc=>(by cases hc),λ c hc=>(by cases hc),hB.low,λ k a' hk hm eV=>.inl ⟨0,_,rfl,rfl,adK k a' hk hm eV⟩,hB.deaf,hB.norel,hB.clean,λ k a' hk jF c bE=>⟨λ i x hx o' hc=>?_,λ e=>by cases e⟩⟩
 ·obtain ⟨rfl,rfl⟩:=o0 hx
  rcases List.mem_cons.1 hc with e | hc
  ·cases e
   refine adK k a' hk ?_ (.inl λ e=>(h.qu k a' (old hk).2 e _ bE).2 rfl)
   obtain ⟨loc,wr,kd⟩:=a'
   cases loc <;> first | rfl | cases bE
  ·exact hB.own 0 _ rfl c o' hc k a' hk bE
 ·obtain ⟨rfl,rfl⟩:=o0 hx; exact hB.read 0 _ rfl c o' hc k a' hk bE hw
 ·obtain ⟨rfl,rfl⟩:=o0 hx
  rcases List.mem_cons.1 hc with e | hc
  ·cases e; exact (hB.qu k a' hk jF _ bE).2 rfl
  ·exact (hB.qu k a' hk jF c bE).1 0 _ rfl o' hc
theorem cX.handed(h:cX none none (only ⟨R,H⟩) mu dd [] none n t):t.HandedOver:=by
 intro i x hx cT ⟨a,ha,hm,eV⟩
 rcases h.all i a ha hm eV with ⟨j,y,hy,_,hk⟩ | ⟨_,_,e,_⟩
 ·have hj:j=0:=by
   unfold only at hy
   split at hy
   ·assumption
   ·cases hy
  subst hj
  obtain ⟨q,z,h1,h2,h3⟩:=hk
  refine ⟨q,by simp [Trace.g?,h1,h2],?_⟩
  rcases h3 with rfl | h3
  ·rw [show t.g? i=some z.g by simp [Trace.g?,h1],h2] at hx
   exact absurd (Option.some.inj hx).symm cT
  ·exact h3
 ·cases e
end
end Go.Lg
namespace Go.Lg
open Go.Conc Go.ConcN
section
variable {R:ax} {H:aj} {n m:Nat} {e:Event}
theorem amv{a:Touch}(h:gQ R H n m e)(ht:(MemAct.ofEvent e).touch? = some a):a.kind ≠ .atomic:=by
 obtain ⟨loc,wr,sy⟩:=e
 cases loc with
 | cell a' =>
  obtain ⟨h1,_⟩:=h
  simp only at h1; subst h1
  have e1:MemAct.ofEvent ⟨.cell a',wr,false⟩ = .access ⟨.cell a',wr,false⟩:=by cases wr <;> rfl
  rw [e1] at ht
  simp only [MemAct.touch?,Option.some.injEq] at ht
  subst ht; simp
 | obj b =>
  obtain ⟨h1,_⟩:=h
  simp only at h1; subst h1
  have e1:MemAct.ofEvent ⟨.obj b,wr,false⟩ = .access ⟨.obj b,wr,false⟩:=by cases wr <;> rfl
  rw [e1] at ht
  simp only [MemAct.touch?,Option.some.injEq] at ht
  subst ht; simp
 | mark mk =>
  cases mk <;> simp [gQ] at h
  cases wr <;> cases sy <;> simp [MemAct.ofEvent,MemAct.touch?] at ht
 | _=>simp [gQ] at h
theorem akM{g d:Nat}{u:List MemOp}(h:∀ op∈u,∀ mk,op.act = .mark mk→Neutral mk):u.foldl (deafStep g) d=d:=by
 induction u generalizing d with
 | nil=>rfl
 | cons y u ih =>
  have e:deafStep g d y=d:=by
   unfold deafStep
   split
   ·rename_i h'; exact absurd rfl ((h y (by simp) _ h').ne_disable)
   ·rename_i h'; exact absurd rfl ((h y (by simp) _ h').ne_enable)
   ·rfl
  rw [List.foldl_cons,e]
  exact ih λ op ao=>h op (List.mem_cons_of_mem _ ao)
theorem akL{i:Nat}{t:Trace}{es:Array Event}{fn:FuncId}{pos:String}(h:∀ e∈es,gQ R H n m e):Deaf (t++MemOp.ofEvents i fn pos es) i=Deaf t i:=by
 have e:MemOp.ofEvents i fn pos es=(MemOp.ofEvents i fn pos es).toList.toArray:=by simp
 rw [e,Deaf_append]
 refine akM λ op ao mk hm=>?_
 obtain ⟨e,he,rfl⟩:=zZ (by simpa using ao)
 exact abJ (h e he) mk hm
theorem amx(h:gQ R H n m e)(a:Addr):MemAct.ofEvent e ≠ .mark (.release a):=by
 intro hm
 have:=abJ h _ hm
 cases this
end
section
variable {B:Base} {am aw:Option Addr} {th:Nat→Option Th} {mu:Nat→Bool} {dd:Nat→Nat} {sh:List Nat} {fr:Option Nat} {ch:aj} {w w':World} {i:Nat} {R R':ax} {H H':aj} {t:Trace}
theorem Ke(hM:fl B th ch w)(bn:∀ b,b∈sh→∃ o,(b,o)∈ch)(zj:∀ b,fr=some b→(∃ o,(b,o)∈ch)∧b ∉ sh)(h:cX am aw th mu dd sh fr w.heap.size t)(hi:th i=some ⟨R,H⟩)(_:mu i=false∨w'=w)
  {es:Array Event} (ns:∀ e∈es,gQ R H w.heap.size w'.heap.size e) (hem:mu i=false∨es=#[]) (hu:fK B R H w R' H' w') (fn:FuncId) (pos:String) :
  fl B (fO th i (some ⟨R',H'⟩)) ch w'∧cX am aw (fO th i (some ⟨R',H'⟩)) mu dd sh fr w'.heap.size (t++MemOp.ofEvents i fn pos es):=by
 refine ⟨hM.upd hi hu,?_⟩
 have:=cX.app (u:=MemOp.ofEvents i fn pos es) (n':=w'.heap.size) (R':=R') (H':=H') hM rfl bn zj h hi (λ op ao=>by obtain ⟨e,_,rfl⟩:=zZ ao; rfl)
  (λ op ao a ha=>by obtain ⟨e,he,rfl⟩:=zZ ao; exact .inl ⟨amy (ns e he) ha,amv (ns e he) ha⟩) (λ op ao=>by obtain ⟨e,he,rfl⟩:=zZ ao; exact amw (ns e he))
  (λ op ao a=>by obtain ⟨e,he,rfl⟩:=zZ ao; exact amx (ns e he) a) (akL ns) ?_ hu.size hu.FM hu.xI
 ·rwa [h.deaf i,l6] at this
 ·refine hem.imp id λ e=>?_
  subst e
  intro k a hk Ir
  rw [ofEvents_none,Array.append_empty] at Ir
  obtain ⟨x,hx,_⟩:=touch_of Ir
  have:=lt_size_of_getElem? hx
  omega
theorem acv(hM:fl B th ch w)(bn:∀ b,b∈sh→∃ o,(b,o)∈ch)(zj:∀ b,fr=some b→(∃ o,(b,o)∈ch)∧b ∉ sh)(h:cX am aw th mu dd sh fr w.heap.size t)(hi:th i=some ⟨R,H⟩)(hu:fK B R H w R' H' w) :
  fl B (fO th i (some ⟨R',H'⟩)) ch w∧cX am aw (fO th i (some ⟨R',H'⟩)) mu dd sh fr w.heap.size t:=by
 have:=Ke (w':=w) (es:=#[]) hM bn zj h hi (.inr rfl) (by simp) (.inr rfl) hu 0 ""
 rw [ofEvents_none,Array.append_empty] at this
 exact this
end
theorem aFm{i:Nat}{fn:FuncId}{pos:String}{es:Array Event}(h:∀ e∈es,Event.mute e=true){n:Nat} :
  (∀ op∈MemOp.ofEvents i fn pos es,op.g=i)∧(∀ op∈MemOp.ofEvents i fn pos es,op.act.touch? = none)∧(∀ op∈MemOp.ofEvents i fn pos es,op.act.low n)∧∀ op∈MemOp.ofEvents i fn pos es,∀ a,op.act ≠ .mark (.release a):=by
 have key:∀ e:Event,e.mute=true→MemAct.ofEvent e = .mark .disable∨MemAct.ofEvent e = .mark .enable:=by
  intro e he
  obtain ⟨loc,wr,sy⟩:=e
  cases loc with
  | mark m=>cases m <;> simp [Event.mute] at he <;> cases wr <;> cases sy <;> simp [MemAct.ofEvent]
  | _=>simp [Event.mute] at he
 have k2:∀ op∈MemOp.ofEvents i fn pos es,op.g=i∧(op.act = .mark .disable∨op.act = .mark .enable):=λ op ao=>by
  obtain ⟨e,he,rfl⟩:=zZ ao; exact ⟨rfl,key e (h e he)⟩
 refine ⟨λ op ao=>(k2 op ao).1,λ op ao=>?_,λ op ao=>?_,λ op ao a=>?_⟩ <;> rcases (k2 op ao).2 with e | e <;> rw [e]
 ·rfl
 ·rfl
 ·trivial
 ·trivial
 ·intro x; cases x
 ·intro x; cases x
theorem cX.leaves{am aw:Option Addr}{th:Nat→Option Th}{mu:Nat→Bool}{dd:Nat→Nat}{sh:List Nat}{fr:Option Nat}{n i:Nat}{t:Trace}{es:Array Event}{fn:FuncId}{pos:String}(h:cX am aw th mu dd sh fr n t)(ns:∀ e∈es,Event.mute e=true) :
  cX am aw th mu (fY dd i (deafBehind (dd i) es)) sh fr n (t++MemOp.ofEvents i fn pos es):=by
 obtain ⟨h1,h2,h3,h4⟩:=aFm (i:=i) (fn:=fn) (pos:=pos) ns (n:=n)
 exact h.mute h1 h2 h3 h4 (by rw [Deaf_own,h.deaf i])
structure wC (P:Program) (B:Base) (R:ax) (H:aj) (gs:Array Goroutine) (w:World) (t:Trace) (q dd:Nat→Nat):Prop where
 mem:fl B (only ⟨R,H⟩) [] w
 tr:cX none none (only ⟨R,H⟩) (λ _=>false) dd [] none w.heap.size t
 d0:dd 0=0
 dz:∀ i,gs.size≤i→dd i=0
 lv:∀ i g,0 < i→gs[i]? = some g→QuitsD P (q i) (dd i) g
section
variable (P:Program) (B:Base) (Post:Value→World→Prop)
def iD(R:ax)(H:aj)(g:Goroutine):Prop:=∀ gs w sl t q dd,gs[0]? = some g→wC P B R H gs w t q dd→kQ P Post (crowd gs w sl) t
end
section
variable {P:Program} {B:Base} {Post:Value→World→Prop} {R:ax} {H:aj} {g:Goroutine}
theorem wC.fits{gs:Array Goroutine}{w:World}{t:Trace}{q dd:Nat→Nat}(h:wC P B R H gs w t q dd):Fits B R H w:=h.mem.fits 0 ⟨R,H⟩ rfl
theorem wC.at{gs:Array Goroutine}{w:World}{t:Trace}{q dd:Nat→Nat}(h:wC P B R H gs w t q dd)(d:Nat):wC P B R H gs (w.at d) t q dd:=⟨h.mem.at d,h.tr,h.d0,h.dz,h.lv⟩
theorem iD.pick(hs:g.status = .running)
  (h:∀ gs w sl qf d t q dd,gs[0]? = some g→wC P B R H gs (w.at d) t q dd→stepT P (crowd gs w sl)=runT P (crowd gs (w.at d) qf) 0→kQ P Post (crowd gs w sl) t):iD P B Post R H g:=by
 have key:∀ M gs w sl t q dd,df gs.size q≤M→gs[0]? = some g→wC P B R H gs w t q dd→kQ P Post (crowd gs w sl) t:=by
  intro M
  induction M with
  | zero =>
   intro gs w sl t q dd hM h0 hA
   have ve:∀ x∈gs,awake x:=by
    intro x hx
    obtain ⟨i,hi,rfl⟩:=Array.mem_iff_getElem.1 hx
    rcases Nat.eq_zero_or_pos i with rfl | gF
    ·have:gs[0]=g:=by simpa [Array.getElem?_eq_getElem hi] using h0
     rw [this]; exact awake_of (.inl hs)
    ·exact awake_of ((hA.lv i _ gF (Array.getElem?_eq_getElem hi)).status.elim .inl λ x=>.inr (.inr x))
   obtain ⟨i,x,d,qf,hi,hx,cQ⟩:=crowd_pick (P:=P) (w:=w) (sl:=sl) ve ⟨0,g,h0,hs⟩
   rcases Nat.eq_zero_or_pos i with rfl | gF
   ·exact h gs w sl qf d t q dd h0 (hA.at d) cQ
   ·have hq:=hA.lv i x gF hi
    have bL:i < gs.size:=(Array.getElem?_eq_some_iff.1 hi).1
    have hq0:q i=0:=by
     have h2:∀ (j:Nat),i < j→q i≤df j q:=by
      intro j hj
      induction j with
      | zero=>omega
      | succ j ih =>
       rcases Nat.lt_or_ge i j with bL | tu
       ·have:=ih bL; simp only [df]; omega
       ·obtain rfl:i=j:=by omega
        simp only [df]; omega
     have:=h2 gs.size bL
     omega
    rw [hq0] at hq
    rw [show x.status = .finished from hq.1] at hx; cases hx
  | succ M ih =>
   intro gs w sl t q dd hM h0 hA
   have ve:∀ x∈gs,awake x:=by
    intro x hx
    obtain ⟨i,hi,rfl⟩:=Array.mem_iff_getElem.1 hx
    rcases Nat.eq_zero_or_pos i with rfl | gF
    ·have:gs[0]=g:=by simpa [Array.getElem?_eq_getElem hi] using h0
     rw [this]; exact awake_of (.inl hs)
    ·exact awake_of ((hA.lv i _ gF (Array.getElem?_eq_getElem hi)).status.elim .inl λ x=>.inr (.inr x))
   obtain ⟨i,x,d,qf,hi,hx,cQ⟩:=crowd_pick (P:=P) (w:=w) (sl:=sl) ve ⟨0,g,h0,hs⟩
   rcases Nat.eq_zero_or_pos i with rfl | gF
   ·exact h gs w sl qf d t q dd h0 (hA.at d) cQ
   ·have hq:=hA.lv i x gF hi
    have tx:(i == 0)=false:=by simp; omega
    have bL:i < gs.size:=(Array.getElem?_eq_some_iff.1 hi).1
    cases TN:q i with
    | zero=>rw [TN] at hq; rw [show x.status = .finished from hq.1] at hx; cases hx
    | succ k =>
     rw [TN] at hq
     rcases hq with hf | ⟨_,x',es,ns,awe,hq'⟩
     ·rw [hf.1] at hx; cases hx
     have Iz:=runT_crowd_go (P:=P) (sl:=qf) (i:=i) hi (by rw [tx]; exact awe (w.at d))
     refine kQ.step (cQ.trans Iz) ?_
     have fH:((gs.map (woken P x x' (w.at d))).setIfInBounds i x').size=gs.size:=by simp
     have awf:=Dc (f:=q) (g:=λ j=>if j=i then k else q j) bL (λ j hj=>by simp [hj])
     simp only [if_true,TN] at awf
     refine ih _ _ _ _ (λ j=>if j=i then k else q j) (fY dd i (deafBehind (dd i) es)) (by rw [fH]; omega) ?_ ⟨(hA.at d).mem,hA.tr.leaves ns,?_,λ j hj=>?_,λ j y hj hy=>?_⟩
     ·have cT:i≠0:=by omega
      rw [Array.getElem?_setIfInBounds_ne cT,Array.getElem?_map,h0]
      simp [woken_run hs]
     ·rw [sA (by omega)]; exact hA.d0
     ·rw [fH] at hj; rw [sA (by omega)]; exact hA.dz j hj
     ·by_cases gi:i=j
      ·subst gi
       rw [Array.getElem?_setIfInBounds_self_of_lt (by simpa using bL)] at hy
       obtain rfl:=Option.some.inj hy
       simpa [sB] using hq'
      ·rw [Array.getElem?_setIfInBounds_ne gi,Array.getElem?_map] at hy
       obtain ⟨z,hz,rfl⟩:=Option.map_eq_some_iff.1 hy
       have hqj:=hA.lv j z hj hz
       rw [woken_quitsD hqj,sA (Ne.symm gi)]
       simpa [Ne.symm gi] using hqj
 exact λ gs w sl t q dd h0 hA=>key _ gs w sl t q dd (Nat.le_refl _) h0 hA
theorem Xb{ch:aj}:∀ b,b∈([]:List Nat)→∃ o:Obj,(b,o)∈ch:=λ _ h=>by cases h
theorem Xa{ch:aj}:∀ b,(none:Option Nat)=some b→(∃ o:Obj,(b,o)∈ch)∧b ∉ ([]:List Nat):=λ _ h=>by cases h
theorem iD.step(hs:g.status = .running)(h:∀ w,Fits B R H w→∃ g' w' es R' H',stepG P true g w = .go g' w' es∧(∀ e∈es,gQ R H w.heap.size w'.heap.size e)∧fK B R H w R' H' w'∧iD P B Post R' H' g'):iD P B Post R H g:=by
 refine iD.pick hs λ gs w sl qf d t q dd h0 hA cQ=>?_
 obtain ⟨g',w',es,R',H',h1,h2,h3,h4⟩:=h _ hA.fits
 have Iz:=runT_crowd_go (P:=P) (sl:=qf) (i:=0) h0 (show stepG P (0 == 0) g (w.at d)=_ from h1)
 refine kQ.step (cQ.trans Iz) ?_
 have bL:0 < gs.size:=(Array.getElem?_eq_some_iff.1 h0).1
 have cQ:=Ke hA.mem Xb Xa hA.tr (i:=0) rfl (.inl rfl) h2 (.inl rfl) h3 g.frame.fn g.frame.place
 rw [N9] at cQ
 refine h4 _ _ _ _ q dd (by simp [bL]) ⟨cQ.1,cQ.2,hA.d0,λ i hi=>hA.dz i (by simpa using hi),λ j x hj hx=>?_⟩
 have cT:0≠j:=by omega
 rw [Array.getElem?_setIfInBounds_ne cT,Array.getElem?_map] at hx
 obtain ⟨y,hy,rfl⟩:=Option.map_eq_some_iff.1 hx
 have hq:=hA.lv j y hj hy
 rw [woken_quitsD hq]
 exact hq
theorem iD.ghost{R':ax}{H':aj}(hg:∀ w,Fits B R H w→fK B R H w R' H' w)(h:iD P B Post R' H' g):iD P B Post R H g:=by
 intro gs w sl t q dd h0 hA
 have cQ:=acv hA.mem Xb Xa hA.tr (i:=0) rfl (hg w hA.fits)
 rw [N9] at cQ
 exact h gs w sl t q dd h0 ⟨cQ.1,cQ.2,hA.d0,hA.dz,hA.lv⟩
def CQ(P:Program)(B:Base)(Post:Value→World→Prop):Jd P B true:=⟨iD P B Post,iD.step,iD.ghost⟩
end
end Go.Lg
