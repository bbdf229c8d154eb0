/- Traces; goroutine 0 beside those that leave. Conditions: none. -/
import Derived.Test.YtihapemckcdicaaGreatDoorQHLgA
import Derived.Conc.CrowdTrace
import Derived.Conc.JoinTrace
import Derived.Conc.QuitsD
namespace Go.Lg
open Go.Conc
inductive Tree:Type 1
 | node (ι:Type) (f:ι→Tree):Tree
inductive IL:Tree→Tree→Prop
 | mk {ι:Type} (f:ι→Tree) (i:ι):IL (f i) (.node ι f)
theorem IL.acc(t:Tree):Acc IL t:=by
 induction t with
 | node ι f ih=>exact ⟨_,λ y h=>by cases h; exact ih _⟩
abbrev Ms:=Option Tree
inductive pN:Ms→Ms→Prop
 | some {a b:Tree}:IL a b→pN (some a) (some b)
 | none {b:Tree}:pN none (some b)
theorem pN.acZ:Acc pN (Option.none:Ms):=⟨_,λ y h=>by cases h⟩
theorem pN.acc(m:Ms):Acc pN m:=by
 cases m with
 | none=>exact pN.acZ
 | some t =>
  have:=IL.acc t
  induction this with
  | intro t _ ih =>
   refine ⟨_,λ y h=>?_⟩
   cases h with
   | some h=>exact ih _ h
   | none=>exact pN.acZ
inductive One {α:Type 1} (r:α→α→Prop):List α→List α→Prop
 | head {a b:α} {l:List α}:r a b→One r (a::l) (b::l)
 | tail {a:α} {l l':List α}:One r l l'→One r (a::l) (a::l')
theorem One.acc{α:Type 1}{r:α→α→Prop}(h:∀ a,Acc r a):∀ l:List α,Acc (One r) l
 | []=>⟨_,λ y h=>by cases h⟩
 | b::l=>by
  have hb:=h b
  have hl:=One.acc h l
  induction hb generalizing l with
  | intro b _ ihb =>
   induction hl with
   | intro l hl' Z2 =>
    refine ⟨_,λ y hy=>?_⟩
    cases hy with
    | head hr=>exact ihb _ hr _ ⟨_,hl'⟩
    | tail ho=>exact Z2 _ ho
theorem One.wf:WellFounded (One pN):=⟨One.acc pN.acc⟩
theorem One.set{α:Type 1}{r:α→α→Prop}:∀ {l:List α} {i:Nat} {a b:α},l[i]? = some b→r a b→One r (l.set i a) l
 | [],_,_,_,h,_=>by cases h
 | x::l,0,a,b,h,hr=>by cases h; exact .head hr
 | x::l,i+1,a,b,h,hr=>.tail (One.set (by simpa using h) hr)
def sx:Nat→Tree
 | 0=>.node Empty Empty.elim
 | n+1=>.node Unit λ _=>sx n
theorem ahZ(n:Nat):pN (some (sx n)) (some (sx (n+1))):=.some (.mk (λ _:Unit=>sx n) ())
section
variable (P:Program) (B:Base) (main:Bool) (K:az→ah→Goroutine→Prop)
def Ck:Tree→az→ah→Goroutine→Prop
 | .node _ f=>λ R H g=>K R H g ∨
  (g.status = .running∧∀ w,Fits B R H w→∃ g' w' es R' H' i,stepG P main g w = .go g' w' es∧(∀ e∈es,iD R H w.heap.size w'.heap.size e)∧gf B R H w R' H' w'∧Ck (f i) R' H' g') ∨
  (∃ R' H' i,(∀ w,Fits B R H w→gf B R H w R' H' w)∧Ck (f i) R' H' g)
def Own(R:az)(H:ah)(g:Goroutine):Prop:=∃ T,Ck P B main K T R H g
theorem Own.stop{R:az}{H:ah}{g:Goroutine}(h:K R H g):Own P B main K R H g:=⟨.node Empty Empty.elim,.inl h⟩
open Classical in
def Mz:Jd P B main where
 J:=Own P B main K
 step:=by
  intro R H g hs h
  refine ⟨.node { x:az × ah × Goroutine // Own P B main K x.1 x.2.1 x.2.2 } (λ x=>x.2.choose),.inr (.inl ⟨hs,λ w hw=>?_⟩)⟩
  obtain ⟨g',w',es,R',H',h1,h2,h3,h4⟩:=h w hw
  exact ⟨g',w',es,R',H',⟨(R',H',g'),h4⟩,h1,h2,h3,Exists.choose_spec h4⟩
 ghost:=by
  intro R H R' H' g hg h
  exact ⟨.node Unit (λ _=>h.choose),.inr (.inr ⟨R',H',(),hg,h.choose_spec⟩)⟩
end
theorem nn{α:Type}{a:Option α}{u:α}{C:Prop}(h:a=none)(h':a=some u):C:=by rw [h] at h'; cases h'
structure Th where
 R:az
 H:ah
def gp(th:Nat→Option Th)(i:Nat)(x:Option Th):Nat→Option Th:=λ j=>if j=i then x else th j
theorem fv(th:Nat→Option Th)(i:Nat)(x:Option Th):gp th i x i=x:=by simp [gp]
theorem eC{th:Nat→Option Th}{i j:Nat}{x:Option Th}(h:j≠i):gp th i x j=th j:=by simp [gp,h]
structure fA (B:Base) (th:Nat→Option Th) (ch:ah) (w:World):Prop where
 fits:∀ i x,th i=some x→Fits B x.R x.H w
 apart:∀ i j x y,i≠j→th i=some x→th j=some y→∀ b o,(b,o)∈x.H→y.R b=none∧∀ o',(b,o') ∉ y.H
 om:∀ c o,(c,o)∈ch→w.heap[c]? = some o
 mr:∀ c o,(c,o)∈ch→∀ i x,th i=some x→x.R c=none∧∀ o',(c,o') ∉ x.H
theorem Fits.at{B:Base}{R:az}{H:ah}{w:World}(h:Fits B R H w)(d:Nat):Fits B R H (w.at d):=⟨h.r,h.h,h.nd,h.dj,h.os,h.tape,h.out⟩
theorem fA.at{B:Base}{th:Nat→Option Th}{ch:ah}{w:World}(h:fA B th ch w)(d:Nat):fA B th ch (w.at d) :=
 ⟨λ i x hx=>(h.fits i x hx).at d,h.apart,h.om,h.mr⟩
section
variable {B:Base} {th:Nat→Option Th} {ch:ah} {w w':World} {i:Nat} {R R':az} {H H':ah}
theorem fA.upd(h:fA B th ch w)(hi:th i=some ⟨R,H⟩)(hu:gf B R H w R' H' w'):fA B (gp th i (some ⟨R',H'⟩)) ch w':=by
 have DY {j:Nat} {y:Th} (hy:th j=some y):(∀ b o,y.R b=some o→b < w.heap.size)∧(∀ b o,(b,o)∈y.H→b < w.heap.size) :=
  ⟨λ b o x=>lP ((h.fits j y hy).r b o x),λ b o x=>lP ((h.fits j y hy).h b o x)⟩
 refine ⟨λ j y hy=>?_,λ j k x y nW hx hy b o hb=>?_,λ c o hc=>?_,λ c o hc j y hy=>?_⟩
 ·by_cases hj:j=i
  ·subst hj; rw [fv] at hy; cases hy; exact hu.fits
  ·rw [eC hj] at hy
   have hf:=h.fits j y hy
   have hl:=DY hy
   refine ⟨λ b o x=>?_,λ b o x=>?_,hf.nd,hf.dj,hu.fits.os,hu.fits.tape,hu.fits.out⟩
   ·rw [hu.same b (hl.1 b o x) λ o' eX=>nn (h.apart i j _ _ (Ne.symm hj) hi hy b o' eX).1 x]
    exact hf.r b o x
   ·rw [hu.same b (hl.2 b o x) λ o' eX=>(h.apart i j _ _ (Ne.symm hj) hi hy b o' eX).2 o x]
    exact hf.h b o x
 ·by_cases hj:j=i
  ·subst hj
   rw [fv] at hx; cases hx
   rw [eC (Ne.symm nW)] at hy
   rcases hu.zu b o hb with ⟨o',eX⟩ | u9
   ·exact h.apart j k _ _ nW hi hy b o' eX
   ·refine ⟨?_,λ o' eX=>?_⟩
    ·cases hR:y.R b with
     | none=>rfl
     | some u=>have:=(DY hy).1 b u hR; omega
    ·have:=(DY hy).2 b o' eX; omega
  ·rw [eC hj] at hx
   by_cases hk:k=i
   ·subst hk
    rw [fv] at hy; cases hy
    have bK:=(DY hx).2 b o hb
    have lh:=h.apart j k _ _ nW hx hi b o hb
    refine ⟨?_,λ o' eX=>?_⟩
    ·cases hR:R' b with
     | none=>simp [hR]
     | some u =>
      rcases hu.Hh b u hR with x | ⟨o',x⟩ | x
      ·exact nn lh.1 x
      ·exact absurd x (lh.2 o')
      ·omega
    ·rcases hu.zu b o' eX with ⟨u,x⟩ | x
     ·exact lh.2 u x
     ·omega
   ·rw [eC hk] at hy
    exact h.apart j k _ _ nW hx hy b o hb
 ·have bK:=lP (h.om c o hc)
  rw [hu.same c bK λ o' eX=>(h.mr c o hc i _ hi).2 o' eX]
  exact h.om c o hc
 ·by_cases hj:j=i
  ·subst hj
   rw [fv] at hy; cases hy
   have bK:=lP (h.om c o hc)
   have lh:=h.mr c o hc j _ hi
   refine ⟨?_,λ o' eX=>?_⟩
   ·cases hR:R' c with
    | none=>simp [hR]
    | some u =>
     rcases hu.Hh c u hR with x | ⟨o',x⟩ | x
     ·exact nn lh.1 x
     ·exact absurd x (lh.2 o')
     ·omega
   ·rcases hu.zu c o' eX with ⟨u,x⟩ | x
    ·exact lh.2 u x
    ·omega
  ·rw [eC hj] at hy
   exact h.mr c o hc j y hy
theorem fA.drop(h:fA B th ch w):fA B (gp th i none) ch w:=by
 have key:∀ j y,gp th i none j=some y→th j=some y:=λ j y hy=>by
  by_cases hj:j=i
  ·subst hj; rw [fv] at hy; cases hy
  ·rwa [eC hj] at hy
 exact ⟨λ j y hy=>h.fits j y (key j y hy),λ j k x y nW hx hy=>h.apart j k x y nW (key j x hx) (key k y hy),h.om,λ c o hc j y hy=>h.mr c o hc j y (key j y hy)⟩
theorem fA.add{c:Nat}(h:fA B th ch w)(hi:th i=some ⟨R,H⟩)(hR:aO R' R):fA B (gp th c (some ⟨R',[]⟩)) ch w:=by
 refine ⟨λ j y hy=>?_,λ j k x y nW hx hy b o hb=>?_,h.om,λ a o ha j y hy=>?_⟩
 ·by_cases hj:j=c
  ·subst hj; rw [fv] at hy; cases hy
   have hf:=h.fits i _ hi
   exact ⟨λ b o x=>hf.r b o (hR b o x),λ b o x=>(by cases x),List.nodup_nil,λ b o x=>(by cases x),hf.os,hf.tape,hf.out⟩
  ·rw [eC hj] at hy; exact h.fits j y hy
 ·by_cases hj:j=c
  ·subst hj; rw [fv] at hx; cases hx; cases hb
  ·rw [eC hj] at hx
   by_cases hk:k=c
   ·subst hk
    rw [fv] at hy; cases hy
    refine ⟨?_,λ o' x=>by cases x⟩
    cases JF:R' b with
    | none=>simp [JF]
    | some u =>
     have hRu:=hR b u JF
     by_cases gw:j=i
     ·subst gw
      rw [hi] at hx; cases hx
      exact nn ((h.fits j _ hi).dj b o hb) hRu
     ·exact nn (h.apart j i _ _ gw hx hi b o hb).1 hRu
   ·rw [eC hk] at hy; exact h.apart j k x y nW hx hy b o hb
 ·by_cases hj:j=c
  ·subst hj; rw [fv] at hy; cases hy
   refine ⟨?_,λ o' x=>by cases x⟩
   cases JF:R' a with
   | none=>simp [JF]
   | some u=>exact nn (h.mr a o ha i _ hi).1 (hR a u JF)
  ·rw [eC hj] at hy; exact h.mr a o ha j y hy
end
abbrev Kn(t:Trace)(g i:Nat):Prop:=Go.Conc.Knows t g i
def blk:Loc→Option Nat
 | .cell a=>some a.block
 | .obj r=>some r
 | _=>none
theorem aJW{x:MemAct}{a:Touch}{n b:Nat}(h:x.low n)(ht:x.touch? = some a)(hb:blk a.loc=some b):b < n:=by
 cases x with
 | access e =>
  simp only [MemAct.touch?,iS] at ht
  subst ht
  obtain ⟨loc,wr,sy⟩:=e
  cases loc <;> simp [blk] at hb <;> subst hb <;> exact h
 | mark m =>
  cases m <;> simp only [MemAct.touch?,iS,reduceCtorEq] at ht
  all_goals (subst ht; simp [blk] at hb; subst hb; exact h)
 | _=>simp [MemAct.touch?] at ht
def acH(ch:ah)(R:az)(H:ah)(n:Nat)(a:Touch):Prop :=
 ∃ b,blk a.loc=some b∧((a.write=false∧∃ o,R b=some o)∨(∃ o,(b,o)∈H)∨n≤b∨(a.kind = .atomic∧∃ o,(b,o)∈ch))
theorem xQ{t u:Trace}{k:Nat}{a:Touch}(h:touchAt (t++u) k=some a):(k < t.size∧touchAt t k=some a)∨(∃ op,(t++u)[k]? = some op∧op∈u∧op.act.touch? = some a):=by
 obtain ⟨x,hx,Qa⟩:=touch_of h
 rcases getElem?_append_cases hx with ⟨hk,Bo⟩ | ⟨_,hxu⟩
 ·exact .inl ⟨hk,by rw [touchAt_of Bo]; exact Qa⟩
 ·exact .inr ⟨x,hx,hxu,Qa⟩
theorem Qr{t:Trace}{k b n:Nat}{a:Touch}(hl:∀ op∈t,op.act.low n)(h:touchAt t k=some a)(hb:blk a.loc=some b):b < n:=by
 obtain ⟨x,hx,Qa⟩:=touch_of h
 exact aJW (hl x (mem_of_getElem? hx)) Qa hb
section
variable {B:Base} {th:Nat→Option Th} {ch:ah} {cls:Option Nat} {w:World} {n n' i:Nat} {R R':az} {H H':ah} {t u:Trace}
theorem ah2{said:Bool}(h:¬ Race said t)(hu:∀ op∈u,op.act.touch? = none):¬ Race said (t++u):=by
 rintro ⟨i,j,rY,⟨a,b,ha,hb,hc⟩,n1,n2⟩
 rcases xQ (u:=u) (a:=a) (k:=i) ha with ⟨hi,ha'⟩ | ⟨op,_,h2,h3⟩
 ·rcases xQ (u:=u) (a:=b) (k:=j) hb with ⟨hj,gE⟩ | ⟨op,_,h2,h3⟩
  ·exact h ⟨i,j,rY,⟨a,b,ha',gE,hc⟩,λ e=>n1 (hb_app u e),λ e=>n2 (hb_app u e)⟩
  ·rw [hu op h2] at h3; cases h3
 ·rw [hu op h2] at h3; cases h3
end
def de:Nat→(Nat→Nat)→Nat
 | 0,_=>0
 | j+1,f=>de j f+f j
theorem MV{f g:Nat→Nat}:∀ {j:Nat},(∀ i,i < j→f i=g i)→de j f=de j g
 | 0,_=>rfl
 | j+1,h=>by rw [de,de,MV (λ i hi=>h i (by omega)),h j (by omega)]
theorem EM{f g:Nat→Nat}{i:Nat}:∀ {j:Nat},i < j→(∀ k,k≠i→g k=f k)→de j g+f i=de j f+g i
 | j+1,h,hg=>by
  rcases Nat.lt_or_ge i j with bK | u9
  ·have:=EM bK hg
   simp only [de,hg j (by omega)]
   omega
  ·obtain rfl:i=j:=by omega
   simp only [de]
   rw [MV (g:=f) (λ a ha=>hg a (by omega))]
   omega
section
variable (P:Program) (Post:Value→World→Prop)
def lF(m:Machine)(t:Trace):Prop:=∃ N last o w' t',runNT P (N+1) m t=(.ended o w',t')∧runN P N m = .next last∧step P last = .ended o w'∧Good P Post last o w' t'
variable {P Post}
theorem lF.step{m m':Machine}{t:Trace}{ops:Array MemOp}(hs:stepT P m=(.next m',ops))(h:lF P Post m' (t++ops)):lF P Post m t:=by
 obtain ⟨N,last,o,w',t',h1,h2,h3,h4⟩:=h
 exact ⟨N+1,last,o,w',t',by rw [runNT_succ_next hs]; exact h1,by rw [runN_succ_next hs]; exact h2,h3,h4⟩
theorem lF.end{m:Machine}{t:Trace}{o:Outcome}{w':World}{ops:Array MemOp}(hs:stepT P m=(.ended o w',ops))(h:Good P Post m o w' (t++ops)):lF P Post m t :=
 ⟨0,m,o,w',t++ops,by simp [runNT,hs],rfl,by simp [Go.step,hs],h⟩
end
theorem BF{g:Nat}{fn:FuncId}{pos:String}{es:Array Event}{op:MemOp}(h:op∈MemOp.ofEvents g fn pos es):∃ e∈es,op={ g,fn,pos,act:=.ofEvent e }:=by
 rw [ofEvents_eq] at h
 obtain ⟨e,he,rfl⟩:=Array.mem_map.1 h
 exact ⟨e,he,rfl⟩
section
variable {R:az} {H:ah} {n m:Nat} {e:Event} {ch:ah}
theorem aqr{a:Touch}(h:iD R H n m e)(ht:(MemAct.ofEvent e).touch? = some a):acH ch R H n a:=by
 obtain ⟨loc,wr,sy⟩:=e
 have key:∀ b,Cq R H n wr b→((wr=false∧∃ o,R b=some o)∨(∃ o,(b,o)∈H)∨n≤b):=λ b hb=>by
  rcases hb with ⟨h1,h2⟩ | h2 | h2
  ·exact .inl ⟨h1,Option.isSome_iff_exists.1 h2⟩
  ·exact .inr (.inl h2)
  ·exact .inr (.inr h2)
 cases loc with
 | cell a' =>
  obtain ⟨h1,_,h3⟩:=h
  simp only at h1; subst h1
  have e1:MemAct.ofEvent ⟨.cell a',wr,false⟩ = .access ⟨.cell a',wr,false⟩:=by cases wr <;> rfl
  rw [e1] at ht
  simp only [MemAct.touch?,iS] at ht
  subst ht
  refine ⟨a'.block,rfl,?_⟩
  rcases key _ h3 with x | x | x
  ·exact .inl x
  ·exact .inr (.inl x)
  ·exact .inr (.inr (.inl x))
 | obj b =>
  obtain ⟨h1,_,h3⟩:=h
  simp only at h1; subst h1
  have e1:MemAct.ofEvent ⟨.obj b,wr,false⟩ = .access ⟨.obj b,wr,false⟩:=by cases wr <;> rfl
  rw [e1] at ht
  simp only [MemAct.touch?,iS] at ht
  subst ht
  refine ⟨b,rfl,?_⟩
  rcases key _ h3 with x | x | x
  ·exact .inl x
  ·exact .inr (.inl x)
  ·exact .inr (.inr (.inl x))
 | mark mk =>
  cases mk <;> simp [iD] at h
  cases wr <;> cases sy <;> simp [MemAct.ofEvent,MemAct.touch?] at ht
 | _=>simp [iD] at h
theorem aqp(h:iD R H n m e):(MemAct.ofEvent e).low m:=by
 obtain ⟨loc,wr,sy⟩:=e
 cases loc with
 | cell a' =>
  obtain ⟨h1,h2,_⟩:=h
  simp only at h1; subst h1
  cases wr <;> exact h2
 | obj b =>
  obtain ⟨h1,h2,_⟩:=h
  simp only at h1; subst h1
  cases wr <;> exact h2
 | mark mk =>
  cases mk <;> simp [iD] at h
  cases wr <;> cases sy <;> trivial
 | _=>simp [iD] at h
theorem ae3(h:iD R H n m e):∀ mk,MemAct.ofEvent e = .mark mk→Neutral mk:=by
 obtain ⟨loc,wr,sy⟩:=e
 intro mk hm
 cases loc with
 | cell a'=>obtain ⟨h1,_⟩:=h; simp only at h1; subst h1; cases wr <;> cases hm
 | obj b=>obtain ⟨h1,_⟩:=h; simp only at h1; subst h1; cases wr <;> cases hm
 | mark mk' =>
  cases mk' <;> simp [iD] at h
  cases wr <;> cases sy <;> (cases hm; rfl)
 | _=>simp [iD] at h
end
def only(x:Th):Nat→Option Th:=λ i=>if i=0 then some x else none
theorem QZ(x y:Th):gp (only x) 0 (some y)=only y:=by funext i; unfold gp only; split <;> rfl
open Go.ConcN
def gG(f:Nat→Nat)(i x:Nat):Nat→Nat:=λ j=>if j=i then x else f j
theorem uj(f:Nat→Nat)(i x:Nat):gG f i x i=x:=by simp [gG]
theorem ui{f:Nat→Nat}{i j x:Nat}(h:j≠i):gG f i x j=f j:=by simp [gG,h]
theorem mO(f:Nat→Nat)(i:Nat):gG f i (f i)=f:=by funext j; unfold gG; split <;> simp [*]
def oM(f:Nat→Bool)(i:Nat)(x:Bool):Nat→Bool:=λ j=>if j=i then x else f j
theorem RN(f:Nat→Bool)(i:Nat)(x:Bool):oM f i x i=x:=by simp [oM]
theorem abH{f:Nat→Bool}{i j:Nat}{x:Bool}(h:j≠i):oM f i x j=f j:=by simp [oM,h]
def As(a:Option Addr)(t:Trace)(k:Nat):Prop:=∃ x p,a=some x∧t.act? p=some (.mark (.releaseMerge x))∧t.heard p∧Before t k p
theorem As.app{a:Option Addr}{t:Trace}{k:Nat}(h:As a t k)(u:Trace):As a (t++u) k:=by
 obtain ⟨x,p,h1,h2,h3,h4⟩:=h
 have hp:=lt_of_act? h2
 exact ⟨x,p,h1,by rw [act?_old hp]; exact h2,(heard_old hp).2 h3,h4.app u⟩
structure cY (am aw:Option Addr) (th:Nat→Option Th) (mu:Nat→Bool) (dd:Nat→Nat) (sh:List Nat) (fr:Option Nat) (n:Nat) (t:Trace):Prop where
 own:∀ i x,th i=some x→∀ b o,(b,o)∈x.H→∀ k a,touchAt t k=some a→blk a.loc=some b→Kn t i k
 read:∀ i x,th i=some x→∀ b o,x.R b=some o→∀ k a,touchAt t k=some a→blk a.loc=some b→a.write=true→Kn t i k
 shr:∀ b,b∈sh→∀ k a,touchAt t k=some a→blk a.loc=some b→a.kind = .atomic∨(a.kind = .said∧Kn t 0 k)∨∀ i x,th i=some x→Kn t i k
 free:∀ b,fr=some b→∀ k a,touchAt t k=some a→blk a.loc=some b→(∀ i x,th i=some x→Kn t i k)∨As am t k
 low:∀ op∈t,op.act.low n
 all:∀ k a,touchAt t k=some a→a.loc.isMemory=true→(a.kind ≠ .atomic∨t.heard k)→(∃ i x,th i=some x∧mu i=false∧Kn t i k)∨As aw t k
 deaf:∀ i,Deaf t i=dd i
 norel:∀ a,NoRelease a t
 clean:∀ said,¬ Race said t
 rE:∀ k a,touchAt t k=some a→a.kind = .atomic→∀ b,blk a.loc=some b→(∀ i x,th i=some x→∀ o,(b,o) ∉ x.H)∧fr≠some b
def amA(sh:List Nat)(i:Nat)(a:Touch):Prop:=∃ b,blk a.loc=some b∧b∈sh∧(a.kind = .atomic∨(a.kind = .said∧i=0))
section
variable {B:Base} {am aw:Option Addr} {th:Nat→Option Th} {mu:Nat→Bool} {dd:Nat→Nat} {sh:List Nat} {fr:Option Nat} {ch:ah} {w:World} {n n' i:Nat} {R R':az} {H H':ah} {t u:Trace}
theorem aaN(h:∀ a,NoRelease a t)(hr:∀ op∈u,∀ a,op.act ≠ .mark (.release a))(a:Addr):NoRelease a (t++u):=by
 intro k hk
 obtain ⟨op,ho,hoa⟩:=Option.map_eq_some_iff.1 hk
 rcases getElem?_append_cases ho with ⟨_,eX⟩ | ⟨_,hu⟩
 ·exact h a k (by rw [Trace.act?,eX]; simp [hoa])
 ·exact hr op hu a hoa
theorem aem(h:∀ i,Deaf t i=dd i)(hu:∀ op∈u,op.g=i){d':Nat}(hd:Deaf (t++u) i=d')(j:Nat):Deaf (t++u) j=gG dd i d' j:=by
 by_cases hj:j=i
 ·subst hj; rw [uj,hd]
 ·rw [ui hj,Deaf_other (g':=i) t (Ne.symm hj) u hu,h j]
theorem cY.app(hM:fA B th ch w)(hn:w.heap.size=n)(bp:∀ b,b∈sh→∃ o,(b,o)∈ch)(rX:∀ b,fr=some b→(∃ o,(b,o)∈ch)∧b ∉ sh)
  (h:cY am aw th mu dd sh fr n t) (hi:th i=some ⟨R,H⟩) (hu:∀ op∈u,op.g=i)
  (ht:∀ op∈u,∀ a,op.act.touch? = some a→(acH [] R H n a∧a.kind ≠ .atomic)∨amA sh i a) (hl:∀ op∈u,op.act.low n') (hr:∀ op∈u,∀ a,op.act ≠ .mark (.release a))
  {d':Nat} (hd:Deaf (t++u) i=d') (hc:mu i=false∨∀ k a,t.size≤k→touchAt (t++u) k=some a→¬ (a.kind ≠ .atomic∨(t++u).heard k)) (hnn:n≤n')
  (hR:∀ b o,R' b=some o→R b=some o∨(∃ o',(b,o')∈H)∨n≤b) (hH:∀ b o,(b,o)∈H'→(∃ o',(b,o')∈H)∨n≤b) :
  cY am aw (gp th i (some ⟨R',H'⟩)) mu (gG dd i d') sh fr n' (t++u):=by
 have DY {j:Nat} {y:Th} (hy:th j=some y):(∀ b o,y.R b=some o→b < n)∧(∀ b o,(b,o)∈y.H→b < n) :=
  ⟨λ b o x=>hn ▸ lP ((hM.fits j y hy).r b o x),λ b o x=>hn ▸ lP ((hM.fits j y hy).h b o x)⟩
 have aai:∀ c o,(c,o)∈ch→c < n:=λ c o hc=>hn ▸ lP (hM.om c o hc)
 have QQ:∀ k op,(t++u)[k]? = some op→op∈u→Kn (t++u) i k:=λ k op h1 h2=>by
  have:=knows_own h1; rwa [hu op h2] at this
 have HM:∀ {b j y},b∈sh→th j=some y→y.R b=none∧∀ o',(b,o') ∉ y.H:=λ {b j y} hb hy=>by
  obtain ⟨o,ho⟩:=bp b hb; exact hM.mr b o ho j y hy
 refine ⟨λ j y hy b o hb k a hk bP=>?_,λ j y hy b o hb k a hk bP xl=>?_,λ b hb k a hk bP=>?_,λ b hb k a hk bP=>?_,λ op au=>?_,λ k a hk hm fg=>?_,aem h.deaf hu hd,aaN h.norel hr,λ said=>?_,λ k a hk j4 b bP=>?_⟩
 ·by_cases hj:j=i
  ·subst hj; rw [fv] at hy; cases hy
   rcases xQ hk with ⟨_,dI⟩ | ⟨op,h1,h2,_⟩
   ·rcases hH b o hb with ⟨o',eX⟩ | u9
    ·exact (h.own j _ hi b o' eX k a dI bP).app u
    ·have:=Qr h.low dI bP; omega
   ·exact QQ k op h1 h2
  ·rw [eC hj] at hy
   rcases xQ hk with ⟨_,dI⟩ | ⟨op,h1,h2,h3⟩
   ·exact (h.own j y hy b o hb k a dI bP).app u
   ·have lh:=hM.apart j i _ _ hj hy hi b o hb
    rcases ht op h2 a h3 with ⟨⟨b',gE,lj⟩,_⟩ | ⟨b',gE,hs,_⟩
    ·rw [bP] at gE; cases gE
     rcases lj with ⟨_,o',x⟩ | ⟨o',x⟩ | x | ⟨_,o',x⟩
     ·exact nn lh.1 x
     ·exact absurd x (lh.2 o')
     ·have:=(DY hy).2 b o hb; omega
     ·cases x
    ·rw [bP] at gE; cases gE
     exact absurd hb ((HM hs hy).2 o)
 ·by_cases hj:j=i
  ·subst hj; rw [fv] at hy; cases hy
   rcases xQ hk with ⟨_,dI⟩ | ⟨op,h1,h2,_⟩
   ·rcases hR b o hb with x | ⟨o',x⟩ | x
    ·exact (h.read j _ hi b o x k a dI bP xl).app u
    ·exact (h.own j _ hi b o' x k a dI bP).app u
    ·have:=Qr h.low dI bP; omega
   ·exact QQ k op h1 h2
  ·rw [eC hj] at hy
   rcases xQ hk with ⟨_,dI⟩ | ⟨op,h1,h2,h3⟩
   ·exact (h.read j y hy b o hb k a dI bP xl).app u
   ·rcases ht op h2 a h3 with ⟨⟨b',gE,lj⟩,_⟩ | ⟨b',gE,hs,_⟩
    ·rw [bP] at gE; cases gE
     rcases lj with ⟨x,_⟩ | ⟨o',x⟩ | x | ⟨_,o',x⟩
     ·rw [xl] at x; cases x
     ·exact nn (hM.apart i j _ _ (Ne.symm hj) hi hy b o' x).1 hb
     ·have:=(DY hy).1 b o hb; omega
     ·cases x
    ·rw [bP] at gE; cases gE
     exact nn (HM hs hy).1 hb
 ·rcases xQ hk with ⟨_,dI⟩ | ⟨op,h1,h2,h3⟩
  ·refine (h.shr b hb k a dI bP).imp id (Or.imp (And.imp id (·.app u)) λ x j y hy=>?_)
   by_cases hj:j=i
   ·subst hj; exact (x j _ hi).app u
   ·rw [eC hj] at hy; exact (x j y hy).app u
  ·rcases ht op h2 a h3 with ⟨⟨b',gE,lj⟩,_⟩ | ⟨b',gE,hs,Pl⟩
   ·rw [bP] at gE; cases gE
    rcases lj with ⟨_,o',x⟩ | ⟨o',x⟩ | x | ⟨_,o',x⟩
    ·exact nn (HM hb hi).1 x
    ·exact absurd x ((HM hb hi).2 o')
    ·obtain ⟨o,ho⟩:=bp b hb; have:=aai b o ho; omega
    ·cases x
   ·rcases Pl with x | ⟨x,rfl⟩
    ·exact .inl x
    ·exact .inr (.inl ⟨x,QQ k op h1 h2⟩)
 ·rcases xQ hk with ⟨_,dI⟩ | ⟨op,h1,h2,h3⟩
  ·refine (h.free b hb k a dI bP).imp (λ x j y hy=>?_) (·.app u)
   by_cases hj:j=i
   ·subst hj; exact (x j _ hi).app u
   ·rw [eC hj] at hy; exact (x j y hy).app u
  ·obtain ⟨⟨o,ho⟩,hns⟩:=rX b hb
   rcases ht op h2 a h3 with ⟨⟨b',gE,lj⟩,_⟩ | ⟨b',gE,hs,_⟩
   ·rw [bP] at gE; cases gE
    rcases lj with ⟨_,o',x⟩ | ⟨o',x⟩ | x | ⟨_,o',x⟩
    ·exact nn (hM.mr b o ho i _ hi).1 x
    ·exact absurd x ((hM.mr b o ho i _ hi).2 o')
    ·have:=aai b o ho; omega
    ·cases x
   ·rw [bP] at gE; cases gE
    exact absurd hs hns
 ·rcases Array.mem_append.1 au with x | x
  ·exact MemAct.low_mono hnn (h.low op x)
  ·exact hl op x
 ·rcases Nat.lt_or_ge k t.size with bK | u9
  ·have dI:touchAt t k=some a:=by rw [← touchAt_old (u:=u) bK]; exact hk
   refine (h.all k a dI hm (fg.imp id (heard_old bK).1)).imp (λ ⟨j,y,hy,dq,iI⟩=>?_) (·.app u)
   by_cases hj:j=i
   ·subst hj; exact ⟨j,_,fv _ _ _,dq,iI.app u⟩
   ·exact ⟨j,y,by rw [eC hj]; exact hy,dq,iI.app u⟩
  ·rcases hc with dq | hc
   ·obtain ⟨op,h1,_⟩:=touch_of hk
    rcases getElem?_append_cases h1 with ⟨bK,_⟩ | ⟨_,h2⟩
    ·omega
    ·exact .inl ⟨i,_,fv _ _ _,dq,QQ k op h1 h2⟩
   ·exact absurd fg (hc k a u9 hk)
 ·refine noRace_append (h.clean said) hu λ k a hk op au b hb lj=>?_
  obtain ⟨af2,ix,xl,Bl⟩:=lj
  rcases ht op au b hb with ⟨⟨bb,VX,pb⟩,_⟩ | ⟨bb,VX,hs,Pl⟩
  ·have bP:blk a.loc=some bb:=by rw [af2]; exact VX
   rcases pb with ⟨x,o,ho⟩ | ⟨o,x⟩ | x | ⟨_,o,x⟩
   ·have xf:a.write=true:=by
     rcases xl with y | y
     ·exact y
     ·rw [x] at y; cases y
    exact h.read i _ hi bb o ho k a hk bP xf
   ·exact h.own i _ hi bb o x k a hk bP
   ·have:=Qr h.low hk bP; omega
   ·cases x
  ·have bP:blk a.loc=some bb:=by rw [af2]; exact VX
   rcases h.shr bb hs k a hk bP with y | ⟨y,y'⟩ | y
   ·rcases Bl with z | z | ⟨_,z,_⟩
    ·rw [y] at z; cases z
    ·rcases Pl with x | ⟨x,_⟩ <;> (rw [x] at z; cases z)
    ·rw [y] at z; cases z
   ·rcases Pl with x | ⟨x,rfl⟩
    ·rcases Bl with z | z | ⟨_,_,z⟩
     ·rw [y] at z; cases z
     ·rw [x] at z; cases z
     ·rw [x] at z; cases z
    ·exact y'
   ·exact y i _ hi
 ·rcases xQ hk with ⟨_,dI⟩ | ⟨op,h1,h2,h3⟩
  ·obtain ⟨z1,z2⟩:=h.rE k a dI j4 b bP
   refine ⟨λ j y hy o ho=>?_,z2⟩
   by_cases hj:j=i
   ·subst hj; rw [fv] at hy; cases hy
    rcases hH b o ho with ⟨o',eX⟩ | u9
    ·exact z1 j _ hi o' eX
    ·have:=Qr h.low dI bP; omega
   ·rw [eC hj] at hy; exact z1 j y hy o ho
  ·rcases ht op h2 a h3 with ⟨_,hna⟩ | ⟨b',gE,hs,_⟩
   ·exact absurd j4 hna
   ·rw [bP] at gE; cases gE
    refine ⟨λ j y hy o ho=>?_,λ e=>(rX b e).2 hs⟩
    by_cases hj:j=i
    ·subst hj; rw [fv] at hy; cases hy
     rcases hH b o ho with ⟨o',eX⟩ | u9
     ·exact (HM hs hi).2 o' eX
     ·obtain ⟨o2,ho2⟩:=bp b hs; have:=aai b o2 ho2; omega
    ·rw [eC hj] at hy; exact (HM hs hy).2 o ho
theorem HS(hu:∀ op∈u,op.act.touch? = none){k:Nat}{a:Touch}(h:touchAt (t++u) k=some a):touchAt t k=some a:=by
 rcases xQ h with ⟨_,x⟩ | ⟨op,_,h2,h3⟩
 ·exact x
 ·rw [hu op h2] at h3; cases h3
theorem cY.mute(h:cY am aw th mu dd sh fr n t)(hu:∀ op∈u,op.g=i)(hm:∀ op∈u,op.act.touch? = none)(hl:∀ op∈u,op.act.low n)(hr:∀ op∈u,∀ a,op.act ≠ .mark (.release a)){d':Nat}(hd:Deaf (t++u) i=d') :
  cY am aw th mu (gG dd i d') sh fr n (t++u):=by
 have old:∀ {k a},touchAt (t++u) k=some a→k < t.size∧touchAt t k=some a:=λ {k a} hk=>by
  have:=HS hm hk
  obtain ⟨x,hx,_⟩:=touch_of this
  exact ⟨lt_size_of_getElem? hx,this⟩
 exact ⟨λ j y hy b o hb k a hk bP=>(h.own j y hy b o hb k a (old hk).2 bP).app u,λ j y hy b o hb k a hk bP xl=>(h.read j y hy b o hb k a (old hk).2 bP xl).app u,
  λ b hb k a hk bP=>(h.shr b hb k a (old hk).2 bP).imp id (Or.imp (And.imp id (·.app u)) λ x j y hy=>(x j y hy).app u),
  λ b hb k a hk bP=>(h.free b hb k a (old hk).2 bP).imp (λ x j y hy=>(x j y hy).app u) (·.app u),
  λ op au=>(Array.mem_append.1 au).elim (h.low op) (hl op),
  λ k a hk Kk fg=>(h.all k a (old hk).2 Kk (fg.imp id (heard_old (old hk).1).1)).imp (λ ⟨j,y,hy,dq,iI⟩=>⟨j,y,hy,dq,iI.app u⟩) (·.app u),
  aem h.deaf hu hd,aaN h.norel hr,λ said=>ah2 (h.clean said) hm,λ k a hk=>h.rE k a (old hk).2⟩
theorem heard_new{y:MemOp}(h:∀ i,Deaf t i=dd i)(hd:dd y.g=0):(t++#[y]).heard t.size :=
 ⟨y.g,by simp [Trace.g?],by rw [deaf_old (eR _)]; exact (h y.g).trans hd⟩
theorem agP{a:Addr}{y:MemOp}{k:Nat}(hd:∀ i,Deaf t i=dd i)(h0:dd y.g=0)(hn:∀ a,NoRelease a (t++#[y]))(hy:y.act = .mark (.acquire a))(h:As (some a) t k):Kn (t++#[y]) y.g k:=by
 obtain ⟨x,p,e,h1,h2,h3⟩:=h
 cases e
 have hp:=lt_of_act? h1
 have hq:(t++#[y])[t.size]? = some y:=by simp
 have aoL:HappensBefore (t++#[y]) p t.size:=.single (.inr ⟨.marked hp (.inr (by rw [act?_old hp]; exact h1)) (by rw [act?_of hq,hy]) (λ k _ _=>hn a k),(heard_old hp).2 h2,heard_new hd h0⟩)
 exact ⟨t.size,y,hq,rfl,.inr ((h3.app #[y]).hb aoL)⟩
theorem adr{a:Addr}{y:MemOp}{k:Nat}(hd:∀ i,Deaf t i=dd i)(h0:dd y.g=0)(hy:y.act = .mark (.releaseMerge a))(h:Kn t y.g k):As (some a) (t++#[y]) k:=by
 have hq:(t++#[y])[t.size]? = some y:=by simp
 exact ⟨a,t.size,rfl,by rw [act?_of hq,hy],heard_new hd h0,.inr (Go.Conc.Knows.hb_new h (eR _) hq rfl)⟩
theorem zw{y op:MemOp}(h:op∈#[y]):op=y:=by simpa using h
theorem QF{y:MemOp}{m:Mark}(hy:y.act = .mark m)(h1:∀ a,m ≠ .read a)(h2:∀ a,m ≠ .write a)(h3:∀ a,m ≠ .release a)(hl:(MemAct.mark m).low n) :
  (∀ op∈#[y],op.act.touch? = none)∧(∀ op∈#[y],op.act.low n)∧(∀ op∈#[y],∀ a,op.act ≠ .mark (.release a)):=by
 refine ⟨λ op au=>?_,λ op au=>?_,λ op au a=>?_⟩ <;> (rw [zw au,hy])
 ·cases m <;> first | rfl | exact absurd rfl (h1 _) | exact absurd rfl (h2 _)
 ·exact hl
 ·exact λ e=>h3 a (by cases e; rfl)
theorem Oi{y:MemOp}{m:Mark}(h:∀ i,Deaf t i=dd i)(hy:y.act = .mark m)(h1:m ≠ .disable)(h2:m ≠ .enable):Deaf (t++#[y]) y.g=dd y.g:=by
 rw [Deaf_push]
 unfold deafStep
 rw [hy]
 cases m <;> first | exact h y.g | exact absurd rfl h1 | exact absurd rfl h2
theorem cY.acquire{a:Addr}{b:Nat}{o:Obj}{y:MemOp}(h:cY (some a) aw th mu dd sh (some b) n t)(hi:th i=some ⟨R,H⟩)(hg:y.g=i)(hy:y.act = .mark (.acquire a))(h0:dd i=0)(hl:(MemAct.mark (.acquire a)).low n) :
  cY (some a) aw (gp th i (some ⟨R,(b,o)::H⟩)) mu dd sh none n (t++#[y]):=by
 subst hg
 obtain ⟨m1,m2,m3⟩:=QF (n:=n) hy (by intro a e; cases e) (by intro a e; cases e) (by intro a e; cases e) hl
 have hb:=h.mute (i:=y.g) (λ op au=>by rw [zw au]) m1 m2 m3 (Oi h.deaf hy (by intro e; cases e) (by intro e; cases e))
 rw [mO] at hb
 have old:∀ {k a},touchAt (t++#[y]) k=some a→touchAt t k=some a:=λ {k a} hk=>HS m1 hk
 refine ⟨λ j x hx c o' hc k a' hk bP=>?_,λ j x hx c o' hc k a' hk bP hw=>?_,λ c hc k a' hk bP=>?_,λ c hc=>(by cases hc),hb.low,λ k a' hk hm fg=>?_,hb.deaf,hb.norel,hb.clean,λ k a' hk j4 c bP=>⟨λ j x hx o' hc=>?_,λ e=>by cases e⟩⟩
 rotate_right
 ·obtain ⟨z1,z2⟩:=hb.rE k a' hk j4 c bP
  by_cases hj:j=y.g
  ·subst hj; rw [fv] at hx; cases hx
   rcases fa.1 hc with e | hc
   ·cases e; exact z2 rfl
   ·exact z1 _ _ hi o' hc
  ·rw [eC hj] at hx; exact z1 j x hx o' hc
 ·by_cases hj:j=y.g
  ·subst hj; rw [fv] at hx; cases hx
   rcases fa.1 hc with e | hc
   ·cases e
    rcases h.free _ rfl k a' (old hk) bP with x | x
    ·exact (x _ _ hi).app _
    ·exact agP h.deaf h0 hb.norel hy x
   ·exact hb.own _ _ hi c o' hc k a' hk bP
  ·rw [eC hj] at hx; exact hb.own j x hx c o' hc k a' hk bP
 ·by_cases hj:j=y.g
  ·subst hj; rw [fv] at hx; cases hx; exact hb.read _ _ hi c o' hc k a' hk bP hw
  ·rw [eC hj] at hx; exact hb.read j x hx c o' hc k a' hk bP hw
 ·refine (hb.shr c hc k a' hk bP).imp id (Or.imp id λ z j x hx=>?_)
  by_cases hj:j=y.g
  ·subst hj; exact z _ _ hi
  ·rw [eC hj] at hx; exact z j x hx
 ·refine (hb.all k a' hk hm fg).imp (λ ⟨j,x,hx,dq,iI⟩=>?_) id
  by_cases hj:j=y.g
  ·subst hj; exact ⟨_,_,fv _ _ _,dq,iI⟩
  ·exact ⟨j,x,by rw [eC hj]; exact hx,dq,iI⟩
theorem cY.release{a:Addr}{b:Nat}{o:Obj}{y:MemOp}(h:cY (some a) aw th mu dd sh none n t)(hi:th i=some ⟨R,H⟩)(C6:(b,o)∈H)(hH:∀ x∈H',x∈H)(hg:y.g=i)(hy:y.act = .mark (.releaseMerge a))(h0:dd i=0)(hl:(MemAct.mark (.releaseMerge a)).low n) :
  cY (some a) aw (gp th i (some ⟨R,H'⟩)) mu dd sh (some b) n (t++#[y]):=by
 subst hg
 obtain ⟨m1,m2,m3⟩:=QF (n:=n) hy (by intro a e; cases e) (by intro a e; cases e) (by intro a e; cases e) hl
 have hb:=h.mute (i:=y.g) (λ op au=>by rw [zw au]) m1 m2 m3 (Oi h.deaf hy (by intro e; cases e) (by intro e; cases e))
 rw [mO] at hb
 have old:∀ {k a},touchAt (t++#[y]) k=some a→touchAt t k=some a:=λ {k a} hk=>HS m1 hk
 refine ⟨λ j x hx c o' hc k a' hk bP=>?_,λ j x hx c o' hc k a' hk bP hw=>?_,λ c hc k a' hk bP=>?_,λ c hc k a' hk bP=>?_,hb.low,λ k a' hk hm fg=>?_,hb.deaf,hb.norel,hb.clean,λ k a' hk j4 c bP=>⟨λ j x hx o' hc=>?_,λ e=>?_⟩⟩
 rotate_right 2
 ·obtain ⟨z1,z2⟩:=hb.rE k a' hk j4 c bP
  by_cases hj:j=y.g
  ·subst hj; rw [fv] at hx; cases hx
   exact z1 _ _ hi o' (hH _ hc)
  ·rw [eC hj] at hx; exact z1 j x hx o' hc
 ·cases e; exact (hb.rE k a' hk j4 _ bP).1 _ _ hi _ C6
 ·by_cases hj:j=y.g
  ·subst hj; rw [fv] at hx; cases hx
   exact hb.own _ _ hi c o' (hH _ hc) k a' hk bP
  ·rw [eC hj] at hx; exact hb.own j x hx c o' hc k a' hk bP
 ·by_cases hj:j=y.g
  ·subst hj; rw [fv] at hx; cases hx; exact hb.read _ _ hi c o' hc k a' hk bP hw
  ·rw [eC hj] at hx; exact hb.read j x hx c o' hc k a' hk bP hw
 ·refine (hb.shr c hc k a' hk bP).imp id (Or.imp id λ z j x hx=>?_)
  by_cases hj:j=y.g
  ·subst hj; exact z _ _ hi
  ·rw [eC hj] at hx; exact z j x hx
 ·cases hc
  exact .inr (adr h.deaf h0 hy (h.own _ _ hi b o C6 k a' (old hk) bP))
 ·refine (hb.all k a' hk hm fg).imp (λ ⟨j,x,hx,dq,iI⟩=>?_) id
  by_cases hj:j=y.g
  ·subst hj; exact ⟨_,_,fv _ _ _,dq,iI⟩
  ·exact ⟨j,x,by rw [eC hj]; exact hx,dq,iI⟩
theorem cY.aK8{a:Addr}{y:MemOp}(h:cY am (some a) th mu dd sh fr n t)(hg:y.g=i)(hy:y.act = .mark (.releaseMerge a))(h0:dd i=0)(hl:(MemAct.mark (.releaseMerge a)).low n) :
  cY am (some a) th (oM mu i true) dd sh fr n (t++#[y]):=by
 subst hg
 obtain ⟨m1,m2,m3⟩:=QF (n:=n) hy (by intro a e; cases e) (by intro a e; cases e) (by intro a e; cases e) hl
 have hb:=h.mute (i:=y.g) (λ op au=>by rw [zw au]) m1 m2 m3 (Oi h.deaf hy (by intro e; cases e) (by intro e; cases e))
 rw [mO] at hb
 have old:∀ {k a},touchAt (t++#[y]) k=some a→k < t.size∧touchAt t k=some a:=λ {k a} hk=>by
  have:=HS m1 hk
  obtain ⟨x,hx,_⟩:=touch_of this
  exact ⟨lt_size_of_getElem? hx,this⟩
 refine ⟨hb.own,hb.read,hb.shr,hb.free,hb.low,λ k a' hk hm fg=>?_,hb.deaf,hb.norel,hb.clean,hb.rE⟩
 rcases h.all k a' (old hk).2 hm (fg.imp id (heard_old (old hk).1).1) with ⟨j,x,hx,dq,iI⟩ | x
 ·by_cases hj:j=y.g
  ·subst hj; exact .inr (adr h.deaf h0 hy iI)
  ·exact .inl ⟨j,x,hx,by rw [abH hj]; exact dq,iI.app _⟩
 ·exact .inr (x.app _)
theorem cY.die(h:cY am aw th mu dd sh fr n t)(hm:mu i=true):cY am aw (gp th i none) mu dd sh fr n t:=by
 have key:∀ j y,gp th i none j=some y→th j=some y:=λ j y hy=>by
  by_cases hj:j=i
  ·subst hj; rw [fv] at hy; cases hy
  ·rwa [eC hj] at hy
 refine ⟨λ j y hy=>h.own j y (key j y hy),λ j y hy=>h.read j y (key j y hy),λ b hb k a hk bP=>(h.shr b hb k a hk bP).imp id (Or.imp id λ z j y hy=>z j y (key j y hy)),λ b hb k a hk bP=>(h.free b hb k a hk bP).imp (λ z j y hy=>z j y (key j y hy)) id,h.low,λ k a hk Kk fg=>?_,h.deaf,h.norel,h.clean,λ k a hk j4 b bP=>(h.rE k a hk j4 b bP).imp (λ z j y hy=>z j y (key j y hy)) id⟩
 refine (h.all k a hk Kk fg).imp (λ ⟨j,y,hy,dq,iI⟩=>⟨j,y,?_,dq,iI⟩) id
 by_cases hj:j=i
 ·subst hj; rw [hm] at dq; cases dq
 ·rw [eC hj]; exact hy
theorem cY.spawn{c:Nat}{x y:MemOp}(h:cY am aw th mu dd sh fr n t)(hi:th 0=some ⟨R,H⟩)(hR:aO R' R)(hc:th c=none)(hx:x.g=0∧x.act = .go c)(hy:y.g=c∧y.act = .start)(h0:dd 0=0)(hdc:dd c=0)(eP:c≠0)(hmc:mu c=false) :
  cY am aw (gp th c (some ⟨R',[]⟩)) mu dd sh fr n (t++#[x,y]):=by
 have Kl:∀ op∈#[x,y],op=x∨op=y:=by intro op au; simpa using au
 have m1:∀ op∈#[x,y],op.act.touch? = none:=λ op au=>by
  rcases Kl op au with rfl | rfl
  ·rw [hx.2]; rfl
  ·rw [hy.2]; rfl
 have old:∀ {k a},touchAt (t++#[x,y]) k=some a→k < t.size∧touchAt t k=some a:=λ {k a} hk=>by
  have:=HS m1 hk
  obtain ⟨x,hx,_⟩:=touch_of this
  exact ⟨lt_size_of_getElem? hx,this⟩
 have kn:∀ {k},Kn t 0 k→Kn (t++#[x,y]) c k:=λ hk=>fork_knows hx hy ((h.deaf 0).trans h0) ((h.deaf c).trans hdc) hk
 refine ⟨λ j z hz b o hb k a hk bP=>?_,λ j z hz b o hb k a hk bP hw=>?_,λ b hb k a hk bP=>?_,λ b hb k a hk bP=>?_,λ op au=>?_,λ k a hk hm fg=>?_,λ j=>?_,aaN h.norel λ op au a=>?_,λ said=>ah2 (h.clean said) m1,λ k a hk j4 b bP=>(h.rE k a (old hk).2 j4 b bP).imp (λ z j y' tB o ho=>?_) id⟩
 ·by_cases hj:j=c
  ·subst hj; rw [fv] at hz; cases hz; cases hb
  ·rw [eC hj] at hz; exact (h.own j z hz b o hb k a (old hk).2 bP).app _
 ·by_cases hj:j=c
  ·subst hj; rw [fv] at hz; cases hz
   exact kn (h.read 0 _ hi b o (hR b o hb) k a (old hk).2 bP hw)
  ·rw [eC hj] at hz; exact (h.read j z hz b o hb k a (old hk).2 bP hw).app _
 ·refine (h.shr b hb k a (old hk).2 bP).imp id (Or.imp (And.imp id (·.app _)) λ z j y' tB=>?_)
  by_cases hj:j=c
  ·subst hj; exact kn (z 0 _ hi)
  ·rw [eC hj] at tB; exact (z j y' tB).app _
 ·refine (h.free b hb k a (old hk).2 bP).imp (λ z j y' tB=>?_) (·.app _)
  by_cases hj:j=c
  ·subst hj; exact kn (z 0 _ hi)
  ·rw [eC hj] at tB; exact (z j y' tB).app _
 ·rcases Array.mem_append.1 au with z | z
  ·exact h.low op z
  ·rcases Kl op z with rfl | rfl
   ·rw [hx.2]; trivial
   ·rw [hy.2]; trivial
 ·refine (h.all k a (old hk).2 hm (fg.imp id (heard_old (old hk).1).1)).imp (λ ⟨j,z,hz,dq,iI⟩=>⟨j,z,?_,dq,iI.app _⟩) (·.app _)
  rw [eC (λ e=>by subst e; rw [hc] at hz; cases hz)]; exact hz
 ·have e:t++#[x,y]=(t++#[x])++#[y]:=by apply Array.ext'; simp
  rw [e,Deaf_push,Deaf_push]
  unfold deafStep
  rw [hx.2,hy.2]
  exact h.deaf j
 ·rcases Kl op au with rfl | rfl
  ·rw [hx.2]; intro e; cases e
  ·rw [hy.2]; intro e; cases e
 ·by_cases hj:j=c
  ·subst hj; rw [fv] at tB; cases tB; cases ho
  ·rw [eC hj] at tB; exact z j y' tB o ho
end
section
variable {B:Base} {am aw:Option Addr} {mu:Nat→Bool} {dd:Nat→Nat} {sh:List Nat} {n:Nat} {R:az} {H H':ah} {t:Trace}
theorem cY.share{bs:List Nat}{b:Nat}(h:cY none none (only ⟨R,H⟩) mu dd [] none n t)(hs:∀ c∈b::bs,∃ o,(c,o)∈H)(hH:∀ x∈H',x∈H)(am aw:Option Addr):cY am aw (only ⟨R,H'⟩) mu dd bs (some b) n t:=by
 have o0:∀ {i x H1},only ⟨R,H1⟩ i=some x→i=0∧x=⟨R,H1⟩:=λ {i x H1} hx=>by
  unfold only at hx; split at hx
  ·cases hx; exact ⟨‹_›,rfl⟩
  ·cases hx
 refine ⟨λ i x hx c o hc k a hk bP=>?_,λ i x hx c o hc k a hk bP hw=>?_,λ c hc k a hk bP=>?_,λ c hc k a hk bP=>?_,h.low,λ k a hk hm fg=>?_,h.deaf,h.norel,h.clean,λ k a hk j4 c bP=>⟨λ i x hx o ho=>?_,λ e=>?_⟩⟩
 ·obtain ⟨rfl,rfl⟩:=o0 hx; exact h.own 0 _ rfl c o (hH _ hc) k a hk bP
 ·obtain ⟨rfl,rfl⟩:=o0 hx; exact h.read 0 _ rfl c o hc k a hk bP hw
 ·obtain ⟨o,ho⟩:=hs c (List.mem_cons_of_mem _ hc)
  refine .inr (.inr λ i x hx=>?_)
  obtain ⟨rfl,rfl⟩:=o0 hx; exact h.own 0 _ rfl c o ho k a hk bP
 ·cases hc
  obtain ⟨o,ho⟩:=hs b (by simp)
  refine .inl λ i x hx=>?_
  obtain ⟨rfl,rfl⟩:=o0 hx; exact h.own 0 _ rfl b o ho k a hk bP
 ·rcases h.all k a hk hm fg with ⟨i,x,hx,dq,iI⟩ | ⟨x,p,e,_⟩
  ·obtain ⟨rfl,rfl⟩:=o0 hx; exact .inl ⟨0,_,rfl,dq,iI⟩
  ·cases e
 ·obtain ⟨rfl,rfl⟩:=o0 hx; exact (h.rE k a hk j4 c bP).1 0 _ rfl o (hH _ ho)
 ·cases e
  obtain ⟨o,ho⟩:=hs b (by simp)
  exact (h.rE k a hk j4 b bP).1 0 _ rfl o ho
theorem cY.aKS{a:Addr}{b:Nat}{o:Obj}{y:MemOp}(h:cY am (some a) (only ⟨R,H⟩) mu dd sh (some b) n t)(_:b < n)(hg:y.g=0)(hy:y.act = .mark (.acquire a))(h0:dd 0=0)(_:mu 0=false)(hl:(MemAct.mark (.acquire a)).low n) :
  cY none none (only ⟨R,(b,o)::H⟩) (λ _=>false) dd [] none n (t++#[y]):=by
 have o0:∀ {i x H1},only ⟨R,H1⟩ i=some x→i=0∧x=⟨R,H1⟩:=λ {i x H1} hx=>by
  unfold only at hx; split at hx
  ·cases hx; exact ⟨‹_›,rfl⟩
  ·cases hx
 obtain ⟨m1,m2,m3⟩:=QF (n:=n) hy (by intro a e; cases e) (by intro a e; cases e) (by intro a e; cases e) hl
 have hB:=h.mute (i:=y.g) (λ op au=>by rw [zw au]) m1 m2 m3 (Oi h.deaf hy (by intro e; cases e) (by intro e; cases e))
 rw [mO] at hB
 have old:∀ {k a},touchAt (t++#[y]) k=some a→k < t.size∧touchAt t k=some a:=λ {k a} hk=>by
  have:=HS m1 hk
  obtain ⟨x,hx,_⟩:=touch_of this
  exact ⟨lt_size_of_getElem? hx,this⟩
 have acq:∀ {k},As (some a) t k→Kn (t++#[y]) 0 k:=λ {k} hk=>by
  have:=agP h.deaf (by rw [hg]; exact h0) hB.norel hy hk
  rwa [hg] at this
 have agO:∀ k x,touchAt (t++#[y]) k=some x→x.loc.isMemory=true→(x.kind ≠ .atomic∨(t++#[y]).heard k)→Kn (t++#[y]) 0 k:=λ k x hk hm fg=>by
  rcases h.all k x (old hk).2 hm (fg.imp id (heard_old (old hk).1).1) with ⟨i,z,hz,_,iI⟩ | z
  ·obtain ⟨rfl,rfl⟩:=o0 hz; exact iI.app _
  ·exact acq z
 refine ⟨λ i x hx c o' hc k a' hk bP=>?_,λ i x hx c o' hc k a' hk bP hw=>?_,λ c hc=>(by cases hc),λ c hc=>(by cases hc),hB.low,λ k a' hk hm fg=>.inl ⟨0,_,rfl,rfl,agO k a' hk hm fg⟩,hB.deaf,hB.norel,hB.clean,λ k a' hk j4 c bP=>⟨λ i x hx o' hc=>?_,λ e=>by cases e⟩⟩
 ·obtain ⟨rfl,rfl⟩:=o0 hx
  rcases fa.1 hc with e | hc
  ·cases e
   refine agO k a' hk ?_ (.inl λ e=>(h.rE k a' (old hk).2 e _ bP).2 rfl)
   obtain ⟨loc,wr,kd⟩:=a'
   cases loc <;> first | rfl | cases bP
  ·exact hB.own 0 _ rfl c o' hc k a' hk bP
 ·obtain ⟨rfl,rfl⟩:=o0 hx; exact hB.read 0 _ rfl c o' hc k a' hk bP hw
 ·obtain ⟨rfl,rfl⟩:=o0 hx
  rcases fa.1 hc with e | hc
  ·cases e; exact (hB.rE k a' hk j4 _ bP).2 rfl
  ·exact (hB.rE k a' hk j4 c bP).1 0 _ rfl o' hc
theorem cY.handed(h:cY none none (only ⟨R,H⟩) mu dd [] none n t):t.HandedOver:=by
 intro i x hx eP ⟨a,ha,hm,fg⟩
 rcases h.all i a ha hm fg with ⟨j,y,hy,_,hk⟩ | ⟨_,_,e,_⟩
 ·have hj:j=0:=by
   unfold only at hy
   split at hy
   ·assumption
   ·cases hy
  subst hj
  obtain ⟨q,z,h1,h2,h3⟩:=hk
  refine ⟨q,by simp [Trace.g?,h1,h2],?_⟩
  rcases h3 with rfl | h3
  ·rw [show t.g? i=some z.g by simp [Trace.g?,h1],h2] at hx
   exact absurd (lV hx).symm eP
  ·exact h3
 ·cases e
end
section
variable {R:az} {H:ah} {n m:Nat} {e:Event}
theorem aqo{a:Touch}(h:iD R H n m e)(ht:(MemAct.ofEvent e).touch? = some a):a.kind ≠ .atomic:=by
 obtain ⟨loc,wr,sy⟩:=e
 cases loc with
 | cell a' =>
  obtain ⟨h1,_⟩:=h
  simp only at h1; subst h1
  have e1:MemAct.ofEvent ⟨.cell a',wr,false⟩ = .access ⟨.cell a',wr,false⟩:=by cases wr <;> rfl
  rw [e1] at ht
  simp only [MemAct.touch?,iS] at ht
  subst ht; simp
 | obj b =>
  obtain ⟨h1,_⟩:=h
  simp only at h1; subst h1
  have e1:MemAct.ofEvent ⟨.obj b,wr,false⟩ = .access ⟨.obj b,wr,false⟩:=by cases wr <;> rfl
  rw [e1] at ht
  simp only [MemAct.touch?,iS] at ht
  subst ht; simp
 | mark mk =>
  cases mk <;> simp [iD] at h
  cases wr <;> cases sy <;> simp [MemAct.ofEvent,MemAct.touch?] at ht
 | _=>simp [iD] at h
theorem aoA{g d:Nat}{u:List MemOp}(h:∀ op∈u,∀ mk,op.act = .mark mk→Neutral mk):u.foldl (deafStep g) d=d:=by
 induction u generalizing d with
 | nil=>rfl
 | cons y u ih =>
  have e:deafStep g d y=d:=by
   unfold deafStep
   split
   ·rename_i h'; exact absurd rfl ((h y (by simp) _ h').ne_disable)
   ·rename_i h'; exact absurd rfl ((h y (by simp) _ h').ne_enable)
   ·rfl
  rw [List.foldl_cons,e]
  exact ih λ op au=>h op (List.mem_cons_of_mem _ au)
theorem aoz{i:Nat}{t:Trace}{es:Array Event}{fn:FuncId}{pos:String}(h:∀ e∈es,iD R H n m e):Deaf (t++MemOp.ofEvents i fn pos es) i=Deaf t i:=by
 have e:MemOp.ofEvents i fn pos es=(MemOp.ofEvents i fn pos es).toList.toArray:=by simp
 rw [e,Deaf_append]
 refine aoA λ op au mk hm=>?_
 obtain ⟨e,he,rfl⟩:=BF (by simpa using au)
 exact ae3 (h e he) mk hm
theorem aqq(h:iD R H n m e)(a:Addr):MemAct.ofEvent e ≠ .mark (.release a):=by
 intro hm
 have:=ae3 h _ hm
 cases this
end
section
variable {B:Base} {am aw:Option Addr} {th:Nat→Option Th} {mu:Nat→Bool} {dd:Nat→Nat} {sh:List Nat} {fr:Option Nat} {ch:ah} {w w':World} {i:Nat} {R R':az} {H H':ah} {t:Trace}
theorem MA(hM:fA B th ch w)(bp:∀ b,b∈sh→∃ o,(b,o)∈ch)(rX:∀ b,fr=some b→(∃ o,(b,o)∈ch)∧b ∉ sh)(h:cY am aw th mu dd sh fr w.heap.size t)(hi:th i=some ⟨R,H⟩)(_:mu i=false∨w'=w)
  {es:Array Event} (ox:∀ e∈es,iD R H w.heap.size w'.heap.size e) (hem:mu i=false∨es=#[]) (hu:gf B R H w R' H' w') (fn:FuncId) (pos:String) :
  fA B (gp th i (some ⟨R',H'⟩)) ch w'∧cY am aw (gp th i (some ⟨R',H'⟩)) mu dd sh fr w'.heap.size (t++MemOp.ofEvents i fn pos es):=by
 refine ⟨hM.upd hi hu,?_⟩
 have:=cY.app (u:=MemOp.ofEvents i fn pos es) (n':=w'.heap.size) (R':=R') (H':=H') hM rfl bp rX h hi (λ op au=>by obtain ⟨e,_,rfl⟩:=BF au; rfl)
  (λ op au a ha=>by obtain ⟨e,he,rfl⟩:=BF au; exact .inl ⟨aqr (ox e he) ha,aqo (ox e he) ha⟩) (λ op au=>by obtain ⟨e,he,rfl⟩:=BF au; exact aqp (ox e he))
  (λ op au a=>by obtain ⟨e,he,rfl⟩:=BF au; exact aqq (ox e he) a) (aoz ox) ?_ hu.size hu.Hh hu.zu
 ·rwa [h.deaf i,mO] at this
 ·refine hem.imp id λ e=>?_
  subst e
  intro k a hk Kg
  rw [ofEvents_none,Array.append_empty] at Kg
  obtain ⟨x,hx,_⟩:=touch_of Kg
  have:=lt_size_of_getElem? hx
  omega
theorem afB(hM:fA B th ch w)(bp:∀ b,b∈sh→∃ o,(b,o)∈ch)(rX:∀ b,fr=some b→(∃ o,(b,o)∈ch)∧b ∉ sh)(h:cY am aw th mu dd sh fr w.heap.size t)(hi:th i=some ⟨R,H⟩)(hu:gf B R H w R' H' w) :
  fA B (gp th i (some ⟨R',H'⟩)) ch w∧cY am aw (gp th i (some ⟨R',H'⟩)) mu dd sh fr w.heap.size t:=by
 have:=MA (w':=w) (es:=#[]) hM bp rX h hi (.inr rfl) (by simp) (.inr rfl) hu 0 ""
 rw [ofEvents_none,Array.append_empty] at this
 exact this
end
theorem aGU{i:Nat}{fn:FuncId}{pos:String}{es:Array Event}(h:∀ e∈es,Event.mute e=true){n:Nat} :
  (∀ op∈MemOp.ofEvents i fn pos es,op.g=i)∧(∀ op∈MemOp.ofEvents i fn pos es,op.act.touch? = none)∧(∀ op∈MemOp.ofEvents i fn pos es,op.act.low n)∧∀ op∈MemOp.ofEvents i fn pos es,∀ a,op.act ≠ .mark (.release a):=by
 have key:∀ e:Event,e.mute=true→MemAct.ofEvent e = .mark .disable∨MemAct.ofEvent e = .mark .enable:=by
  intro e he
  obtain ⟨loc,wr,sy⟩:=e
  cases loc with
  | mark m=>cases m <;> simp [Event.mute] at he <;> cases wr <;> cases sy <;> simp [MemAct.ofEvent]
  | _=>simp [Event.mute] at he
 have k2:∀ op∈MemOp.ofEvents i fn pos es,op.g=i∧(op.act = .mark .disable∨op.act = .mark .enable):=λ op au=>by
  obtain ⟨e,he,rfl⟩:=BF au; exact ⟨rfl,key e (h e he)⟩
 refine ⟨λ op au=>(k2 op au).1,λ op au=>?_,λ op au=>?_,λ op au a=>?_⟩ <;> rcases (k2 op au).2 with e | e <;> rw [e]
 ·rfl
 ·rfl
 ·trivial
 ·trivial
 ·intro x; cases x
 ·intro x; cases x
theorem cY.leaves{am aw:Option Addr}{th:Nat→Option Th}{mu:Nat→Bool}{dd:Nat→Nat}{sh:List Nat}{fr:Option Nat}{n i:Nat}{t:Trace}{es:Array Event}{fn:FuncId}{pos:String}(h:cY am aw th mu dd sh fr n t)(ox:∀ e∈es,Event.mute e=true) :
  cY am aw th mu (gG dd i (deafBehind (dd i) es)) sh fr n (t++MemOp.ofEvents i fn pos es):=by
 obtain ⟨h1,h2,h3,h4⟩:=aGU (i:=i) (fn:=fn) (pos:=pos) ox (n:=n)
 exact h.mute h1 h2 h3 h4 (by rw [Deaf_own,h.deaf i])
structure yo (P:Program) (B:Base) (R:az) (H:ah) (gs:Array Goroutine) (w:World) (t:Trace) (q dd:Nat→Nat):Prop where
 mem:fA B (only ⟨R,H⟩) [] w
 tr:cY none none (only ⟨R,H⟩) (λ _=>false) dd [] none w.heap.size t
 d0:dd 0=0
 dz:∀ i,gs.size≤i→dd i=0
 lv:∀ i g,0 < i→gs[i]? = some g→QuitsD P (q i) (dd i) g
section
variable (P:Program) (B:Base) (Post:Value→World→Prop)
def jg(R:az)(H:ah)(g:Goroutine):Prop:=∀ gs w sl t q dd,gs[0]? = some g→yo P B R H gs w t q dd→lF P Post (crowd gs w sl) t
end
section
variable {P:Program} {B:Base} {Post:Value→World→Prop} {R:az} {H:ah} {g:Goroutine}
theorem yo.fits{gs:Array Goroutine}{w:World}{t:Trace}{q dd:Nat→Nat}(h:yo P B R H gs w t q dd):Fits B R H w:=h.mem.fits 0 ⟨R,H⟩ rfl
theorem yo.at{gs:Array Goroutine}{w:World}{t:Trace}{q dd:Nat→Nat}(h:yo P B R H gs w t q dd)(d:Nat):yo P B R H gs (w.at d) t q dd:=⟨h.mem.at d,h.tr,h.d0,h.dz,h.lv⟩
theorem jg.pick(hs:g.status = .running)
  (h:∀ gs w sl rq d t q dd,gs[0]? = some g→yo P B R H gs (w.at d) t q dd→stepT P (crowd gs w sl)=runT P (crowd gs (w.at d) rq) 0→lF P Post (crowd gs w sl) t):jg P B Post R H g:=by
 have key:∀ M gs w sl t q dd,de gs.size q≤M→gs[0]? = some g→yo P B R H gs w t q dd→lF P Post (crowd gs w sl) t:=by
  intro M
  induction M with
  | zero =>
   intro gs w sl t q dd hM h0 hA
   have xf:∀ x∈gs,awake x:=by
    intro x hx
    obtain ⟨i,hi,rfl⟩:=Array.mem_iff_getElem.1 hx
    rcases Nat.eq_zero_or_pos i with rfl | jv
    ·have:gs[0]=g:=by simpa [qG hi] using h0
     rw [this]; exact awake_of (.inl hs)
    ·exact awake_of ((hA.lv i _ jv (qG hi)).status.elim .inl λ x=>.inr (.inr x))
   obtain ⟨i,x,d,rq,hi,hx,cU⟩:=crowd_pick (P:=P) (w:=w) (sl:=sl) xf ⟨0,g,h0,hs⟩
   rcases Nat.eq_zero_or_pos i with rfl | jv
   ·exact h gs w sl rq d t q dd h0 (hA.at d) cU
   ·have hq:=hA.lv i x jv hi
    have bK:i < gs.size:=(Array.getElem?_eq_some_iff.1 hi).1
    have hq0:q i=0:=by
     have h2:∀ (j:Nat),i < j→q i≤de j q:=by
      intro j hj
      induction j with
      | zero=>omega
      | succ j ih =>
       rcases Nat.lt_or_ge i j with bK | u9
       ·have:=ih bK; simp only [de]; omega
       ·obtain rfl:i=j:=by omega
        simp only [de]; omega
     have:=h2 gs.size bK
     omega
    rw [hq0] at hq
    rw [show x.status = .finished from hq.1] at hx; cases hx
  | succ M ih =>
   intro gs w sl t q dd hM h0 hA
   have xf:∀ x∈gs,awake x:=by
    intro x hx
    obtain ⟨i,hi,rfl⟩:=Array.mem_iff_getElem.1 hx
    rcases Nat.eq_zero_or_pos i with rfl | jv
    ·have:gs[0]=g:=by simpa [qG hi] using h0
     rw [this]; exact awake_of (.inl hs)
    ·exact awake_of ((hA.lv i _ jv (qG hi)).status.elim .inl λ x=>.inr (.inr x))
   obtain ⟨i,x,d,rq,hi,hx,cU⟩:=crowd_pick (P:=P) (w:=w) (sl:=sl) xf ⟨0,g,h0,hs⟩
   rcases Nat.eq_zero_or_pos i with rfl | jv
   ·exact h gs w sl rq d t q dd h0 (hA.at d) cU
   ·have hq:=hA.lv i x jv hi
    have yO:(i == 0)=false:=by simp; omega
    have bK:i < gs.size:=(Array.getElem?_eq_some_iff.1 hi).1
    cases Xm:q i with
    | zero=>rw [Xm] at hq; rw [show x.status = .finished from hq.1] at hx; cases hx
    | succ k =>
     rw [Xm] at hq
     rcases hq with hf | ⟨_,x',es,ox,azd,Xf⟩
     ·rw [hf.1] at hx; cases hx
     have Kw:=runT_crowd_go (P:=P) (sl:=rq) (i:=i) hi (by rw [yO]; exact azd (w.at d))
     refine lF.step (cU.trans Kw) ?_
     have fX:((gs.map (woken P x x' (w.at d))).setIfInBounds i x').size=gs.size:=by simp
     have aze:=EM (f:=q) (g:=λ j=>if j=i then k else q j) bK (λ j hj=>by simp [hj])
     simp only [if_true,Xm] at aze
     refine ih _ _ _ _ (λ j=>if j=i then k else q j) (gG dd i (deafBehind (dd i) es)) (by rw [fX]; omega) ?_ ⟨(hA.at d).mem,hA.tr.leaves ox,?_,λ j hj=>?_,λ j y hj hy=>?_⟩
     ·have eP:i≠0:=by omega
      rw [mW eP,Array.getElem?_map,h0]
      simp [woken_run hs]
     ·rw [ui (by omega)]; exact hA.d0
     ·rw [fX] at hj; rw [ui (by omega)]; exact hA.dz j hj
     ·by_cases gw:i=j
      ·subst gw
       rw [uE (by simpa using bK)] at hy
       obtain rfl:=lV hy
       simpa [uj] using Xf
      ·rw [mW gw,Array.getElem?_map] at hy
       obtain ⟨z,hz,rfl⟩:=Option.map_eq_some_iff.1 hy
       have hqj:=hA.lv j z hj hz
       rw [woken_quitsD hqj,ui (Ne.symm gw)]
       simpa [Ne.symm gw] using hqj
 exact λ gs w sl t q dd h0 hA=>key _ gs w sl t q dd (eR _) h0 hA
theorem aaM{ch:ah}:∀ b,b∈([]:List Nat)→∃ o:Obj,(b,o)∈ch:=λ _ h=>by cases h
theorem aaL{ch:ah}:∀ b,(none:Option Nat)=some b→(∃ o:Obj,(b,o)∈ch)∧b ∉ ([]:List Nat):=λ _ h=>by cases h
theorem jg.step(hs:g.status = .running)(h:∀ w,Fits B R H w→∃ g' w' es R' H',stepG P true g w = .go g' w' es∧(∀ e∈es,iD R H w.heap.size w'.heap.size e)∧gf B R H w R' H' w'∧jg P B Post R' H' g'):jg P B Post R H g:=by
 refine jg.pick hs λ gs w sl rq d t q dd h0 hA cU=>?_
 obtain ⟨g',w',es,R',H',h1,h2,h3,h4⟩:=h _ hA.fits
 have Kw:=runT_crowd_go (P:=P) (sl:=rq) (i:=0) h0 (show stepG P (0 == 0) g (w.at d)=_ from h1)
 refine lF.step (cU.trans Kw) ?_
 have bK:0 < gs.size:=(Array.getElem?_eq_some_iff.1 h0).1
 have cU:=MA hA.mem aaM aaL hA.tr (i:=0) rfl (.inl rfl) h2 (.inl rfl) h3 g.frame.fn g.frame.place
 rw [QZ] at cU
 refine h4 _ _ _ _ q dd (by simp [bK]) ⟨cU.1,cU.2,hA.d0,λ i hi=>hA.dz i (by simpa using hi),λ j x hj hx=>?_⟩
 have eP:0≠j:=by omega
 rw [mW eP,Array.getElem?_map] at hx
 obtain ⟨y,hy,rfl⟩:=Option.map_eq_some_iff.1 hx
 have hq:=hA.lv j y hj hy
 rw [woken_quitsD hq]
 exact hq
theorem jg.ghost{R':az}{H':ah}(hg:∀ w,Fits B R H w→gf B R H w R' H' w)(h:jg P B Post R' H' g):jg P B Post R H g:=by
 intro gs w sl t q dd h0 hA
 have cU:=afB hA.mem aaM aaL hA.tr (i:=0) rfl (hg w hA.fits)
 rw [QZ] at cU
 exact h gs w sl t q dd h0 ⟨cU.1,cU.2,hA.d0,hA.dz,hA.lv⟩
def Ev(P:Program)(B:Base)(Post:Value→World→Prop):Jd P B true:=⟨jg P B Post,jg.step,jg.ghost⟩
end
end Go.Lg
