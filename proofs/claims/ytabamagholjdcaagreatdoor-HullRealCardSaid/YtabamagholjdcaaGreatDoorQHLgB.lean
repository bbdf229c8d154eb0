/- The machine of the workers of hull.reckon: it runs to its end. Conditions: none. -/
import Derived.Test.YtabamagholjdcaaGreatDoorQHLgA
import Derived.Conc.CrowdComm
namespace Go.Lg
open Go.Conc
inductive Tree:Type 1
 | node (ι:Type) (f:ι→Tree):Tree
inductive IH:Tree→Tree→Prop
 | mk {ι:Type} (f:ι→Tree) (i:ι):IH (f i) (.node ι f)
theorem IH.acc(t:Tree):Acc IH t:=by
 induction t with
 | node ι f ih=>exact ⟨_,λ y h=>by cases h; exact ih _⟩
abbrev Ms:=Option Tree
inductive oP:Ms→Ms→Prop
 | some {a b:Tree}:IH a b→oP (some a) (some b)
 | none {b:Tree}:oP none (some b)
theorem oP.ade:Acc oP (Option.none:Ms):=⟨_,λ y h=>by cases h⟩
theorem oP.acc(m:Ms):Acc oP m:=by
 cases m with
 | none=>exact oP.ade
 | some t =>
  have:=IH.acc t
  induction this with
  | intro t _ ih =>
   refine ⟨_,λ y h=>?_⟩
   cases h with
   | some h=>exact ih _ h
   | none=>exact oP.ade
inductive One {α:Type 1} (r:α→α→Prop):List α→List α→Prop
 | head {a b:α} {l:List α}:r a b→One r (a::l) (b::l)
 | tail {a:α} {l l':List α}:One r l l'→One r (a::l) (a::l')
theorem One.acc{α:Type 1}{r:α→α→Prop}(h:∀ a,Acc r a):∀ l:List α,Acc (One r) l
 | []=>⟨_,λ y h=>by cases h⟩
 | b::l=>by
  have hb:=h b
  have hl:=One.acc h l
  induction hb generalizing l with
  | intro b _ ihb =>
   induction hl with
   | intro l lx Zi =>
    refine ⟨_,λ y hy=>?_⟩
    cases hy with
    | head hr=>exact ihb _ hr _ ⟨_,lx⟩
    | tail ho=>exact Zi _ ho
theorem One.wf:WellFounded (One oP):=⟨One.acc oP.acc⟩
theorem One.set{α:Type 1}{r:α→α→Prop}:∀ {l:List α} {i:Nat} {a b:α},l[i]? = some b→r a b→One r (l.set i a) l
 | [],_,_,_,h,_=>by cases h
 | x::l,0,a,b,h,hr=>by cases h; exact .head hr
 | x::l,i+1,a,b,h,hr=>.tail (One.set (by simpa using h) hr)
def D1:Nat→Tree
 | 0=>.node Empty Empty.elim
 | n+1=>.node Unit λ _=>D1 n
theorem aJO(n:Nat):oP (some (D1 n)) (some (D1 (n+1))):=.some (.mk (λ _:Unit=>D1 n) ())
section
variable (P:Program) (B:Base) (main:Bool) (K:aE→an→Goroutine→Prop)
def za:Tree→aE→an→Goroutine→Prop
 | .node _ f=>λ R H g=>K R H g ∨
  (g.status = .running∧∀ w,Fits B R H w→∃ g' w' es R' H' i,stepG P main g w = .go g' w' es∧(∀ e∈es,ia R H w.heap.size w'.heap.size e)∧dU B R H w R' H' w'∧za (f i) R' H' g') ∨
  (∃ R' H' i,(∀ w,Fits B R H w→dU B R H w R' H' w)∧za (f i) R' H' g)
def Own(R:aE)(H:an)(g:Goroutine):Prop:=∃ T,za P B main K T R H g
theorem Own.stop{R:aE}{H:an}{g:Goroutine}(h:K R H g):Own P B main K R H g:=⟨.node Empty Empty.elim,.inl h⟩
open Classical in
def tK:Jd P B main where
 J:=Own P B main K
 step:=by
  intro R H g hs h
  refine ⟨.node { x:aE × an × Goroutine // Own P B main K x.1 x.2.1 x.2.2 } (λ x=>x.2.choose),.inr (.inl ⟨hs,λ w hw=>?_⟩)⟩
  obtain ⟨g',w',es,R',H',h1,h2,h3,h4⟩:=h w hw
  exact ⟨g',w',es,R',H',⟨(R',H',g'),h4⟩,h1,h2,h3,Exists.choose_spec h4⟩
 ghost:=by
  intro R H R' H' g hg h
  exact ⟨.node Unit (λ _=>h.choose),.inr (.inr ⟨R',H',(),hg,h.choose_spec⟩)⟩
end
theorem nn{α:Type}{a:Option α}{u:α}{C:Prop}(h:a=none)(h':a=some u):C:=by rw [h] at h'; cases h'
structure Th where
 R:aE
 H:an
def gN(th:Nat→Option Th)(i:Nat)(x:Option Th):Nat→Option Th:=λ j=>if j=i then x else th j
theorem iB(th:Nat→Option Th)(i:Nat)(x:Option Th):gN th i x i=x:=by simp [gN]
theorem fe{th:Nat→Option Th}{i j:Nat}{x:Option Th}(h:j≠i):gN th i x j=th j:=by simp [gN,h]
structure fE (B:Base) (th:Nat→Option Th) (ch:an) (w:World):Prop where
 fits:∀ i x,th i=some x→Fits B x.R x.H w
 apart:∀ i j x y,i≠j→th i=some x→th j=some y→∀ b o,(b,o)∈x.H→y.R b=none∧∀ o',(b,o') ∉ y.H
 qb:∀ c o,(c,o)∈ch→w.heap[c]? = some o
 oW:∀ c o,(c,o)∈ch→∀ i x,th i=some x→x.R c=none∧∀ o',(c,o') ∉ x.H
theorem Fits.at{B:Base}{R:aE}{H:an}{w:World}(h:Fits B R H w)(d:Nat):Fits B R H (w.at d):=⟨h.r,h.h,h.nd,h.dj,h.os,h.tape,h.out⟩
theorem fE.at{B:Base}{th:Nat→Option Th}{ch:an}{w:World}(h:fE B th ch w)(d:Nat):fE B th ch (w.at d) :=
 ⟨λ i x hx=>(h.fits i x hx).at d,h.apart,h.qb,h.oW⟩
section
variable {B:Base} {th:Nat→Option Th} {ch:an} {w w':World} {i:Nat} {R R':aE} {H H':an}
theorem fE.upd(h:fE B th ch w)(hi:th i=some ⟨R,H⟩)(hu:dU B R H w R' H' w'):fE B (gN th i (some ⟨R',H'⟩)) ch w':=by
 have Du {j:Nat} {y:Th} (hy:th j=some y):(∀ b o,y.R b=some o→b < w.heap.size)∧(∀ b o,(b,o)∈y.H→b < w.heap.size) :=
  ⟨λ b o x=>ir ((h.fits j y hy).r b o x),λ b o x=>ir ((h.fits j y hy).h b o x)⟩
 refine ⟨λ j y hy=>?_,λ j k x y k6 hx hy b o hb=>?_,λ c o hc=>?_,λ c o hc j y hy=>?_⟩
 ·by_cases hj:j=i
  ·subst hj; rw [iB] at hy; cases hy; exact hu.fits
  ·rw [fe hj] at hy
   have hf:=h.fits j y hy
   have hl:=Du hy
   refine ⟨λ b o x=>?_,λ b o x=>?_,hf.nd,hf.dj,hu.fits.os,hu.fits.tape,hu.fits.out⟩
   ·rw [hu.same b (hl.1 b o x) λ o' eC=>nn (h.apart i j _ _ (Ne.symm hj) hi hy b o' eC).1 x]
    exact hf.r b o x
   ·rw [hu.same b (hl.2 b o x) λ o' eC=>(h.apart i j _ _ (Ne.symm hj) hi hy b o' eC).2 o x]
    exact hf.h b o x
 ·by_cases hj:j=i
  ·subst hj
   rw [iB] at hx; cases hx
   rw [fe (Ne.symm k6)] at hy
   rcases hu.xL b o hb with ⟨o',eC⟩ | l3
   ·exact h.apart j k _ _ k6 hi hy b o' eC
   ·refine ⟨?_,λ o' eC=>?_⟩
    ·cases hR:y.R b with
     | none=>rfl
     | some u=>have:=(Du hy).1 b u hR; omega
    ·have:=(Du hy).2 b o' eC; omega
  ·rw [fe hj] at hx
   by_cases hk:k=i
   ·subst hk
    rw [iB] at hy; cases hy
    have br:=(Du hx).2 b o hb
    have ml:=h.apart j k _ _ k6 hx hi b o hb
    refine ⟨?_,λ o' eC=>?_⟩
    ·cases hR:R' b with
     | none=>simp [hR]
     | some u =>
      rcases hu.Gw b u hR with x | ⟨o',x⟩ | x
      ·exact nn ml.1 x
      ·exact absurd x (ml.2 o')
      ·omega
    ·rcases hu.xL b o' eC with ⟨u,x⟩ | x
     ·exact ml.2 u x
     ·omega
   ·rw [fe hk] at hy
    exact h.apart j k _ _ k6 hx hy b o hb
 ·have br:=ir (h.qb c o hc)
  rw [hu.same c br λ o' eC=>(h.oW c o hc i _ hi).2 o' eC]
  exact h.qb c o hc
 ·by_cases hj:j=i
  ·subst hj
   rw [iB] at hy; cases hy
   have br:=ir (h.qb c o hc)
   have ml:=h.oW c o hc j _ hi
   refine ⟨?_,λ o' eC=>?_⟩
   ·cases hR:R' c with
    | none=>simp [hR]
    | some u =>
     rcases hu.Gw c u hR with x | ⟨o',x⟩ | x
     ·exact nn ml.1 x
     ·exact absurd x (ml.2 o')
     ·omega
   ·rcases hu.xL c o' eC with ⟨u,x⟩ | x
    ·exact ml.2 u x
    ·omega
  ·rw [fe hj] at hy
   exact h.oW c o hc j y hy
theorem fE.drop(h:fE B th ch w):fE B (gN th i none) ch w:=by
 have key:∀ j y,gN th i none j=some y→th j=some y:=λ j y hy=>by
  by_cases hj:j=i
  ·subst hj; rw [iB] at hy; cases hy
  ·rwa [fe hj] at hy
 exact ⟨λ j y hy=>h.fits j y (key j y hy),λ j k x y k6 hx hy=>h.apart j k x y k6 (key j x hx) (key k y hy),h.qb,λ c o hc j y hy=>h.oW c o hc j y (key j y hy)⟩
theorem fE.add{c:Nat}(h:fE B th ch w)(hi:th i=some ⟨R,H⟩)(hR:aN R' R):fE B (gN th c (some ⟨R',[]⟩)) ch w:=by
 refine ⟨λ j y hy=>?_,λ j k x y k6 hx hy b o hb=>?_,h.qb,λ a o ha j y hy=>?_⟩
 ·by_cases hj:j=c
  ·subst hj; rw [iB] at hy; cases hy
   have hf:=h.fits i _ hi
   exact ⟨λ b o x=>hf.r b o (hR b o x),λ b o x=>(by cases x),List.nodup_nil,λ b o x=>(by cases x),hf.os,hf.tape,hf.out⟩
  ·rw [fe hj] at hy; exact h.fits j y hy
 ·by_cases hj:j=c
  ·subst hj; rw [iB] at hx; cases hx; cases hb
  ·rw [fe hj] at hx
   by_cases hk:k=c
   ·subst hk
    rw [iB] at hy; cases hy
    refine ⟨?_,λ o' x=>by cases x⟩
    cases Jc:R' b with
    | none=>simp [Jc]
    | some u =>
     have hRu:=hR b u Jc
     by_cases dA:j=i
     ·subst dA
      rw [hi] at hx; cases hx
      exact nn ((h.fits j _ hi).dj b o hb) hRu
     ·exact nn (h.apart j i _ _ dA hx hi b o hb).1 hRu
   ·rw [fe hk] at hy; exact h.apart j k x y k6 hx hy b o hb
 ·by_cases hj:j=c
  ·subst hj; rw [iB] at hy; cases hy
   refine ⟨?_,λ o' x=>by cases x⟩
   cases Jc:R' a with
   | none=>simp [Jc]
   | some u=>exact nn (h.oW a o ha i _ hi).1 (hR a u Jc)
  ·rw [fe hj] at hy; exact h.oW a o ha j y hy
end
end Go.Lg
namespace Go.Lg
open Go.Conc
abbrev Kn(t:Trace)(g i:Nat):Prop:=Go.Conc.Knows t g i
def blk:Loc→Option Nat
 | .cell a=>some a.block
 | .obj r=>some r
 | _=>none
structure ee (th:Nat→Option Th) (ch:an) (cls:Option Nat) (n:Nat) (t:Trace):Prop where
 own:∀ i x,th i=some x→∀ b o,(b,o)∈x.H→∀ k a,touchAt t k=some a→blk a.loc=some b→Kn t i k
 read:∀ i x,th i=some x→∀ b o,x.R b=some o→∀ k a,touchAt t k=some a→blk a.loc=some b→a.write=true→Kn t i k
 cY:∀ c o,(c,o)∈ch→∀ i x,th i=some x→∀ k a,touchAt t k=some a→blk a.loc=some c→a.kind = .atomic∨Kn t i k
 low:∀ op∈t,op.act.low n
 all:∀ k a,touchAt t k=some a→a.loc.isMemory=true→(∃ i x,th i=some x∧Kn t i k)∨(∃ c p,cls=some c∧t.act? p=some (.close c)∧Before t k p)
 clean:∀ said,¬ Race said t
 quiet:Wordless t
theorem aLT{x:MemAct}{a:Touch}{n b:Nat}(h:x.low n)(ht:x.touch? = some a)(hb:blk a.loc=some b):b < n:=by
 cases x with
 | access e =>
  simp only [MemAct.touch?,Option.some.injEq] at ht
  subst ht
  obtain ⟨loc,wr,sy⟩:=e
  cases loc <;> simp [blk] at hb <;> subst hb <;> exact h
 | mark m =>
  cases m <;> simp only [MemAct.touch?,Option.some.injEq,reduceCtorEq] at ht
  all_goals (subst ht; simp [blk] at hb; subst hb; exact h)
 | _=>simp [MemAct.touch?] at ht
def acT(ch:an)(R:aE)(H:an)(n:Nat)(a:Touch):Prop :=
 ∃ b,blk a.loc=some b∧((a.write=false∧∃ o,R b=some o)∨(∃ o,(b,o)∈H)∨n≤b∨(a.kind = .atomic∧∃ o,(b,o)∈ch))
theorem tG{t u:Trace}{k:Nat}{a:Touch}(h:touchAt (t++u) k=some a):(k < t.size∧touchAt t k=some a)∨(∃ op,(t++u)[k]? = some op∧op∈u∧op.act.touch? = some a):=by
 obtain ⟨x,hx,pc⟩:=touch_of h
 rcases getElem?_append_cases hx with ⟨hk,q8⟩ | ⟨_,hxu⟩
 ·exact .inl ⟨hk,by rw [touchAt_of q8]; exact pc⟩
 ·exact .inr ⟨x,hx,hxu,pc⟩
theorem Zy{t:Trace}{k b n:Nat}{a:Touch}(hl:∀ op∈t,op.act.low n)(h:touchAt t k=some a)(hb:blk a.loc=some b):b < n:=by
 obtain ⟨x,hx,pc⟩:=touch_of h
 exact aLT (hl x (mem_of_getElem? hx)) pc hb
section
variable {B:Base} {th:Nat→Option Th} {ch:an} {cls:Option Nat} {w:World} {n n' i:Nat} {R R':aE} {H H':an} {t u:Trace}
theorem TW{k:Nat}(h:∃ c p,cls=some c∧t.act? p=some (.close c)∧Before t k p):∃ c p,cls=some c∧(t++u).act? p=some (.close c)∧Before (t++u) k p:=by
 obtain ⟨c,p,h1,h2,h3⟩:=h
 exact ⟨c,p,h1,by rw [act?_old (lt_of_act? h2)]; exact h2,h3.app u⟩
theorem ee.app(hM:fE B th ch w)(hn:w.heap.size=n)(h:ee th ch cls n t)(hi:th i=some ⟨R,H⟩)(hu:∀ op∈u,op.g=i)
  (ht:∀ op∈u,∀ a,op.act.touch? = some a→acT ch R H n a) (hl:∀ op∈u,op.act.low n') (hw:Wordless u) (hnn:n≤n')
  (hR:∀ b o,R' b=some o→R b=some o∨(∃ o',(b,o')∈H)∨n≤b) (hH:∀ b o,(b,o)∈H'→(∃ o',(b,o')∈H)∨n≤b) :
  ee (gN th i (some ⟨R',H'⟩)) ch cls n' (t++u):=by
 have Du {j:Nat} {y:Th} (hy:th j=some y):(∀ b o,y.R b=some o→b < n)∧(∀ b o,(b,o)∈y.H→b < n) :=
  ⟨λ b o x=>hn ▸ ir ((hM.fits j y hy).r b o x),λ b o x=>hn ▸ ir ((hM.fits j y hy).h b o x)⟩
 have aH0:∀ c o,(c,o)∈ch→c < n:=λ c o hc=>hn ▸ ir (hM.qb c o hc)
 have Pt:∀ k op,(t++u)[k]? = some op→op∈u→Kn (t++u) i k:=λ k op h1 h2=>by
  have:=knows_own h1; rwa [hu op h2] at this
 refine ⟨λ j y hy b o hb k a hk cH=>?_,λ j y hy b o hb k a hk cH vk=>?_,λ c o hc j y hy k a hk cH=>?_,λ op aJ=>?_,λ k a hk hm=>?_,λ said=>?_,h.quiet.append hw⟩
 ·by_cases hj:j=i
  ·subst hj; rw [iB] at hy; cases hy
   rcases tG hk with ⟨_,eR⟩ | ⟨op,h1,h2,_⟩
   ·rcases hH b o hb with ⟨o',eC⟩ | l3
    ·exact (h.own j _ hi b o' eC k a eR cH).app u
    ·have:=Zy h.low eR cH; omega
   ·exact Pt k op h1 h2
  ·rw [fe hj] at hy
   rcases tG hk with ⟨_,eR⟩ | ⟨op,h1,h2,h3⟩
   ·exact (h.own j y hy b o hb k a eR cH).app u
   ·obtain ⟨b',lP,hc⟩:=ht op h2 a h3
    rw [cH] at lP; cases lP
    have ml:=hM.apart j i _ _ hj hy hi b o hb
    rcases hc with ⟨_,o',x⟩ | ⟨o',x⟩ | x | ⟨_,o',x⟩
    ·exact nn ml.1 x
    ·exact absurd x (ml.2 o')
    ·have:=(Du hy).2 b o hb; omega
    ·exact absurd hb ((hM.oW b o' x j y hy).2 o)
 ·by_cases hj:j=i
  ·subst hj; rw [iB] at hy; cases hy
   rcases tG hk with ⟨_,eR⟩ | ⟨op,h1,h2,_⟩
   ·rcases hR b o hb with x | ⟨o',x⟩ | x
    ·exact (h.read j _ hi b o x k a eR cH vk).app u
    ·exact (h.own j _ hi b o' x k a eR cH).app u
    ·have:=Zy h.low eR cH; omega
   ·exact Pt k op h1 h2
  ·rw [fe hj] at hy
   rcases tG hk with ⟨_,eR⟩ | ⟨op,h1,h2,h3⟩
   ·exact (h.read j y hy b o hb k a eR cH vk).app u
   ·obtain ⟨b',lP,hc⟩:=ht op h2 a h3
    rw [cH] at lP; cases lP
    rcases hc with ⟨x,_⟩ | ⟨o',x⟩ | x | ⟨_,o',x⟩
    ·rw [vk] at x; cases x
    ·exact nn (hM.apart i j _ _ (Ne.symm hj) hi hy b o' x).1 hb
    ·have:=(Du hy).1 b o hb; omega
    ·exact nn (hM.oW b o' x j y hy).1 hb
 ·by_cases hj:j=i
  ·subst hj
   rcases tG hk with ⟨_,eR⟩ | ⟨op,h1,h2,_⟩
   ·exact (h.cY c o hc j _ hi k a eR cH).imp id (·.app u)
   ·exact .inr (Pt k op h1 h2)
  ·rw [fe hj] at hy
   rcases tG hk with ⟨_,eR⟩ | ⟨op,h1,h2,h3⟩
   ·exact (h.cY c o hc j y hy k a eR cH).imp id (·.app u)
   ·obtain ⟨b',lP,pH⟩:=ht op h2 a h3
    rw [cH] at lP; cases lP
    rcases pH with ⟨_,o',x⟩ | ⟨o',x⟩ | x | ⟨x,_⟩
    ·exact nn (hM.oW c o hc i _ hi).1 x
    ·exact absurd x ((hM.oW c o hc i _ hi).2 o')
    ·have:=aH0 c o hc; omega
    ·exact .inl x
 ·rcases Array.mem_append.1 aJ with x | x
  ·exact MemAct.low_mono hnn (h.low op x)
  ·exact hl op x
 ·rcases tG hk with ⟨_,eR⟩ | ⟨op,h1,h2,_⟩
  ·rcases h.all k a eR hm with ⟨j,y,hy,jm⟩ | ga
   ·by_cases hj:j=i
    ·subst hj; exact .inl ⟨j,_,iB _ _ _,jm.app u⟩
    ·exact .inl ⟨j,y,by rw [fe hj]; exact hy,jm.app u⟩
   ·exact .inr (TW ga)
  ·exact .inl ⟨i,_,iB _ _ _,Pt k op h1 h2⟩
 ·refine noRace_append (h.clean said) hu λ k a hk op aJ b hb hc=>?_
  obtain ⟨axC,nO,vk,ES⟩:=hc
  obtain ⟨bb,hbb,o7⟩:=ht op aJ b hb
  have cH:blk a.loc=some bb:=by rw [axC]; exact hbb
  rcases o7 with ⟨x,o,ho⟩ | ⟨o,x⟩ | x | ⟨x,o,ho⟩
  ·have Jm:a.write=true:=by
    rcases vk with y | y
    ·exact y
    ·rw [x] at y; cases y
   exact h.read i _ hi bb o ho k a hk cH Jm
  ·exact h.own i _ hi bb o x k a hk cH
  ·have:=Zy h.low hk cH; omega
  ·rcases h.cY bb o ho i _ hi k a hk cH with y | y
   ·rcases ES with z | z | ⟨_,z,_⟩
    ·rw [y] at z; cases z
    ·rw [x] at z; cases z
    ·rw [y] at z; cases z
   ·exact y
theorem aJR{said:Bool}(h:¬ Race said t)(hu:∀ op∈u,op.act.touch? = none):¬ Race said (t++u):=by
 rintro ⟨i,j,ew,⟨a,b,ha,hb,hc⟩,n1,n2⟩
 rcases tG (u:=u) (a:=a) (k:=i) ha with ⟨hi,ha'⟩ | ⟨op,_,h2,h3⟩
 ·rcases tG (u:=u) (a:=b) (k:=j) hb with ⟨hj,lP⟩ | ⟨op,_,h2,h3⟩
  ·exact h ⟨i,j,ew,⟨a,b,ha',lP,hc⟩,λ e=>n1 (hb_app u e),λ e=>n2 (hb_app u e)⟩
  ·rw [hu op h2] at h3; cases h3
 ·rw [hu op h2] at h3; cases h3
theorem ee.mute(h:ee th ch cls n t)(hu:∀ op∈u,op.act.touch? = none)(hl:∀ op∈u,op.act.low n)(hw:Wordless u):ee th ch cls n (t++u):=by
 have old:∀ {k a},touchAt (t++u) k=some a→touchAt t k=some a:=λ {k a} hk=>by
  rcases tG hk with ⟨_,x⟩ | ⟨op,_,h2,h3⟩
  ·exact x
  ·rw [hu op h2] at h3; cases h3
 exact ⟨λ j y hy b o hb k a hk cH=>(h.own j y hy b o hb k a (old hk) cH).app u,λ j y hy b o hb k a hk cH vk=>(h.read j y hy b o hb k a (old hk) cH vk).app u,
  λ c o hc j y hy k a hk cH=>(h.cY c o hc j y hy k a (old hk) cH).imp id (·.app u),λ op aJ=>(Array.mem_append.1 aJ).elim (h.low op) (hl op),
  λ k a hk hm=>(h.all k a (old hk) hm).imp (λ ⟨j,y,hy,jm⟩=>⟨j,y,hy,jm.app u⟩) TW,λ said=>aJR (h.clean said) hu,h.quiet.append hw⟩
theorem aG7{g c:Nat}{x y:MemOp}(hw:Wordless (t++#[x,y]))(hx:x.g=g)(pc:x.act = .go c)(hy:y.g=c)(oq:y.act = .start){k:Nat}(h:Kn t g k):Kn (t++#[x,y]) c k:=by
 have e1:(t++#[x,y])[t.size]? = some x:=by simp
 have e2:(t++#[x,y])[t.size+1]? = some y:=by simp
 have h1:=Go.Conc.Knows.hb_new h (Nat.le_refl _) e1 hx
 exact ⟨t.size+1,y,e2,hy,.inr (h1.trans (.single (.inr ⟨.spawn (child:=c) (by rw [act?_of e1,pc]) (by rw [act?_of e2,oq]) (by simp [Trace.g?,hy]),hw.heard e1,hw.heard e2⟩)))⟩
theorem aG6{a b c s p q:Nat}{x y:MemOp}(hw:Wordless (t++u))(hp:t.size≤p)(h1:(t++u)[p]? = some x)(hx:x.g=a)(pc:x.act = .send c s)(h2:(t++u)[q]? = some y)(hy:y.g=b)(oq:y.act = .recvDone c s){k:Nat}(h:Kn t a k):Kn (t++u) b k:=by
 have e:=Go.Conc.Knows.hb_new h hp h1 hx
 exact ⟨q,y,h2,hy,.inr (e.trans (.single (.inr ⟨.handOver (c:=c) (k:=s) (by rw [act?_of h1,pc]) (by rw [act?_of h2,oq]),hw.heard h1,hw.heard h2⟩)))⟩
theorem aG5{b c p:Nat}{y:MemOp}(hw:Wordless (t++#[y]))(hp:t.act? p=some (.close c))(hy:y.g=b)(oq:y.act = .recvClosed c){k:Nat}(h:Before t k p):Kn (t++#[y]) b k:=by
 have e2:(t++#[y])[t.size]? = some y:=by simp
 obtain ⟨x,hx,_⟩:=Option.map_eq_some_iff.1 hp
 have q8:(t++#[y])[p]? = some x:=by rw [getElem?_append_old (lt_size_of_getElem? hx)]; exact hx
 exact ⟨t.size,y,e2,hy,.inr ((h.app #[y]).hb (.single (.inr ⟨.closed (c:=c) (by rw [act?_old (lt_of_act? hp)]; exact hp) (by rw [act?_of e2,oq]),hw.heard q8,hw.heard e2⟩)))⟩
end
end Go.Lg
namespace Go.Lg
open Go.Conc
def cX:Nat→(Nat→Nat)→Nat
 | 0,_=>0
 | j+1,f=>cX j f+f j
theorem AI{f g:Nat→Nat}:∀ {j:Nat},(∀ i,i < j→f i=g i)→cX j f=cX j g
 | 0,_=>rfl
 | j+1,h=>by rw [cX,cX,AI (λ i hi=>h i (by omega)),h j (by omega)]
theorem AJ{f g:Nat→Nat}{i:Nat}:∀ {j:Nat},i < j→(∀ k,k≠i→g k=f k)→cX j g+f i=cX j f+g i
 | j+1,h,hg=>by
  rcases Nat.lt_or_ge i j with br | l3
  ·have:=AJ br hg
   simp only [cX,hg j (by omega)]
   omega
  ·obtain rfl:i=j:=by omega
   simp only [cX]
   rw [AI (g:=f) (λ a ha=>hg a (by omega))]
   omega
section
variable (P:Program) (ck:Value→World→Prop)
def jT(m:Machine)(t:Trace):Prop:=∃ N last o w' t',runNT P (N+1) m t=(.ended o w',t')∧runN P N m = .next last∧step P last = .ended o w'∧Good P ck last o w' t'
variable {P ck}
theorem jT.step{m m':Machine}{t:Trace}{ops:Array MemOp}(hs:stepT P m=(.next m',ops))(h:jT P ck m' (t++ops)):jT P ck m t:=by
 obtain ⟨N,last,o,w',t',h1,h2,h3,h4⟩:=h
 exact ⟨N+1,last,o,w',t',by rw [runNT_succ_next hs]; exact h1,by rw [runN_succ_next hs]; exact h2,h3,h4⟩
theorem jT.end{m:Machine}{t:Trace}{o:Outcome}{w':World}{ops:Array MemOp}(hs:stepT P m=(.ended o w',ops))(h:Good P ck m o w' (t++ops)):jT P ck m t :=
 ⟨0,m,o,w',t++ops,by simp [runNT,hs],rfl,by simp [Go.step,hs],h⟩
end
theorem Pr{g:Nat}{fn:FuncId}{pos:String}{es:Array Event}{op:MemOp}(h:op∈MemOp.ofEvents g fn pos es):∃ e∈es,op={ g,fn,pos,act:=.ofEvent e }:=by
 rw [ofEvents_eq] at h
 obtain ⟨e,he,rfl⟩:=Array.mem_map.1 h
 exact ⟨e,he,rfl⟩
section
variable {R:aE} {H:an} {n m:Nat} {e:Event} {ch:an}
theorem aqr{a:Touch}(h:ia R H n m e)(ht:(MemAct.ofEvent e).touch? = some a):acT ch R H n a:=by
 obtain ⟨loc,wr,sy⟩:=e
 have key:∀ b,BP R H n wr b→((wr=false∧∃ o,R b=some o)∨(∃ o,(b,o)∈H)∨n≤b):=λ b hb=>by
  rcases hb with ⟨h1,h2⟩ | h2 | h2
  ·exact .inl ⟨h1,Option.isSome_iff_exists.1 h2⟩
  ·exact .inr (.inl h2)
  ·exact .inr (.inr h2)
 cases loc with
 | cell a' =>
  obtain ⟨h1,_,h3⟩:=h
  simp only at h1; subst h1
  have e1:MemAct.ofEvent ⟨.cell a',wr,false⟩ = .access ⟨.cell a',wr,false⟩:=by cases wr <;> rfl
  rw [e1] at ht
  simp only [MemAct.touch?,Option.some.injEq] at ht
  subst ht
  refine ⟨a'.block,rfl,?_⟩
  rcases key _ h3 with x | x | x
  ·exact .inl x
  ·exact .inr (.inl x)
  ·exact .inr (.inr (.inl x))
 | obj b =>
  obtain ⟨h1,_,h3⟩:=h
  simp only at h1; subst h1
  have e1:MemAct.ofEvent ⟨.obj b,wr,false⟩ = .access ⟨.obj b,wr,false⟩:=by cases wr <;> rfl
  rw [e1] at ht
  simp only [MemAct.touch?,Option.some.injEq] at ht
  subst ht
  refine ⟨b,rfl,?_⟩
  rcases key _ h3 with x | x | x
  ·exact .inl x
  ·exact .inr (.inl x)
  ·exact .inr (.inr (.inl x))
 | mark mk =>
  cases mk <;> simp [ia] at h
  cases wr <;> cases sy <;> simp [MemAct.ofEvent,MemAct.touch?] at ht
 | _=>simp [ia] at h
theorem aqq(h:ia R H n m e):(MemAct.ofEvent e).low m:=by
 obtain ⟨loc,wr,sy⟩:=e
 cases loc with
 | cell a' =>
  obtain ⟨h1,h2,_⟩:=h
  simp only at h1; subst h1
  cases wr <;> exact h2
 | obj b =>
  obtain ⟨h1,h2,_⟩:=h
  simp only at h1; subst h1
  cases wr <;> exact h2
 | mark mk =>
  cases mk <;> simp [ia] at h
  cases wr <;> cases sy <;> trivial
 | _=>simp [ia] at h
theorem aqs(h:ia R H n m e):∀ mk,MemAct.ofEvent e = .mark mk→Neutral mk:=by
 obtain ⟨loc,wr,sy⟩:=e
 intro mk hm
 cases loc with
 | cell a'=>obtain ⟨h1,_⟩:=h; simp only at h1; subst h1; cases wr <;> cases hm
 | obj b=>obtain ⟨h1,_⟩:=h; simp only at h1; subst h1; cases wr <;> cases hm
 | mark mk' =>
  cases mk' <;> simp [ia] at h
  cases wr <;> cases sy <;> (cases hm; rfl)
 | _=>simp [ia] at h
end
section
variable {B:Base} {th:Nat→Option Th} {ch:an} {cls:Option Nat} {w w':World} {i:Nat} {R R':aE} {H H':an} {t:Trace}
theorem PB(hM:fE B th ch w)(h:ee th ch cls w.heap.size t)(hi:th i=some ⟨R,H⟩){es:Array Event}(Cn:∀ e∈es,ia R H w.heap.size w'.heap.size e)(hu:dU B R H w R' H' w')(fn:FuncId)(pos:String) :
  fE B (gN th i (some ⟨R',H'⟩)) ch w'∧ee (gN th i (some ⟨R',H'⟩)) ch cls w'.heap.size (t++MemOp.ofEvents i fn pos es):=by
 refine ⟨hM.upd hi hu,ee.app hM rfl h hi ?_ ?_ ?_ ?_ hu.size hu.Gw hu.xL⟩
 ·intro op aJ; obtain ⟨e,_,rfl⟩:=Pr aJ; rfl
 ·intro op aJ a ha; obtain ⟨e,he,rfl⟩:=Pr aJ; exact aqr (Cn e he) ha
 ·intro op aJ; obtain ⟨e,he,rfl⟩:=Pr aJ; exact aqq (Cn e he)
 ·intro op aJ mk hm; obtain ⟨e,he,rfl⟩:=Pr aJ; exact aqs (Cn e he) mk hm
theorem ae0(hM:fE B th ch w)(h:ee th ch cls w.heap.size t)(hi:th i=some ⟨R,H⟩)(hu:dU B R H w R' H' w) :
  fE B (gN th i (some ⟨R',H'⟩)) ch w∧ee (gN th i (some ⟨R',H'⟩)) ch cls w.heap.size t:=by
 have:=PB (w':=w) (es:=#[]) hM h hi (by simp) hu 0 ""
 rw [ofEvents_none,Array.append_empty] at this
 exact this
end
def only(x:Th):Nat→Option Th:=λ i=>if i=0 then some x else none
theorem Z9(x y:Th):gN (only x) 0 (some y)=only y:=by funext i; unfold gN only; split <;> rfl
structure Alone (P:Program) (B:Base) (R:aE) (H:an) (gs:Array Goroutine) (w:World) (t:Trace) (q:Nat→Nat):Prop where
 mem:fE B (only ⟨R,H⟩) [] w
 tr:ee (only ⟨R,H⟩) [] none w.heap.size t
 lv:∀ i g,0 < i→gs[i]? = some g→QuitsIn P (q i) g
section
variable (P:Program) (B:Base) (ck:Value→World→Prop)
def MJ(R:aE)(H:an)(g:Goroutine):Prop:=∀ gs w sl t q,gs[0]? = some g→Alone P B R H gs w t q→jT P ck (crowd gs w sl) t
end
section
variable {P:Program} {B:Base} {ck:Value→World→Prop} {R:aE} {H:an} {g:Goroutine}
theorem Alone.fits{gs:Array Goroutine}{w:World}{t:Trace}{q:Nat→Nat}(h:Alone P B R H gs w t q):Fits B R H w:=h.mem.fits 0 ⟨R,H⟩ rfl
theorem Alone.at{gs:Array Goroutine}{w:World}{t:Trace}{q:Nat→Nat}(h:Alone P B R H gs w t q)(d:Nat):Alone P B R H gs (w.at d) t q:=⟨h.mem.at d,h.tr,h.lv⟩
theorem aiH{g g' b:Goroutine}{w':World}{k:Nat}(hB:QuitsIn P k b):woken P g g' w' b=b:=by
 unfold woken
 split
 ·exact again_running _ hB.status
 ·rfl
theorem MJ.pick(hs:g.status = .running)
  (h:∀ gs w sl py d t q,gs[0]? = some g→Alone P B R H gs (w.at d) t q→stepT P (crowd gs w sl)=runT P (crowd gs (w.at d) py) 0→jT P ck (crowd gs w sl) t):MJ P B ck R H g:=by
 have key:∀ M gs w sl t q,cX gs.size q≤M→gs[0]? = some g→Alone P B R H gs w t q→jT P ck (crowd gs w sl) t:=by
  intro M
  induction M with
  | zero =>
   intro gs w sl t q hM h0 hA
   have Jm:∀ x∈gs,awake x:=by
    intro x hx
    obtain ⟨i,hi,rfl⟩:=Array.mem_iff_getElem.1 hx
    rcases Nat.eq_zero_or_pos i with rfl | dg
    ·have:gs[0]=g:=by simpa [Array.getElem?_eq_getElem hi] using h0
     rw [this]; exact awake_of (.inl hs)
    ·exact awake_of ((hA.lv i _ dg (Array.getElem?_eq_getElem hi)).status.elim .inl λ x=>.inr (.inr x))
   obtain ⟨i,x,d,py,hi,hx,ct⟩:=crowd_pick (P:=P) (w:=w) (sl:=sl) Jm ⟨0,g,h0,hs⟩
   rcases Nat.eq_zero_or_pos i with rfl | dg
   ·exact h gs w sl py d t q h0 (hA.at d) ct
   ·have hq:=hA.lv i x dg hi
    have br:i < gs.size:=(Array.getElem?_eq_some_iff.1 hi).1
    have hq0:q i=0:=by
     have:=AJ (f:=q) (g:=λ k=>if k=i then q i+0 else q k) br (λ k hk=>by simp [hk])
     have h2:∀ (j:Nat),i < j→q i≤cX j q:=by
      intro j hj
      induction j with
      | zero=>omega
      | succ j ih =>
       rcases Nat.lt_or_ge i j with br | l3
       ·have:=ih br; simp only [cX]; omega
       ·obtain rfl:i=j:=by omega
        simp only [cX]; omega
     have:=h2 gs.size br
     omega
    rw [hq0] at hq
    rw [show x.status = .finished from hq] at hx; cases hx
  | succ M ih =>
   intro gs w sl t q hM h0 hA
   have Jm:∀ x∈gs,awake x:=by
    intro x hx
    obtain ⟨i,hi,rfl⟩:=Array.mem_iff_getElem.1 hx
    rcases Nat.eq_zero_or_pos i with rfl | dg
    ·have:gs[0]=g:=by simpa [Array.getElem?_eq_getElem hi] using h0
     rw [this]; exact awake_of (.inl hs)
    ·exact awake_of ((hA.lv i _ dg (Array.getElem?_eq_getElem hi)).status.elim .inl λ x=>.inr (.inr x))
   obtain ⟨i,x,d,py,hi,hx,ct⟩:=crowd_pick (P:=P) (w:=w) (sl:=sl) Jm ⟨0,g,h0,hs⟩
   rcases Nat.eq_zero_or_pos i with rfl | dg
   ·exact h gs w sl py d t q h0 (hA.at d) ct
   ·have hq:=hA.lv i x dg hi
    have kZ:(i == 0)=false:=by simp; omega
    have br:i < gs.size:=(Array.getElem?_eq_some_iff.1 hi).1
    cases WG:q i with
    | zero=>rw [WG] at hq; rw [show x.status = .finished from hq] at hx; cases hx
    | succ k =>
     rw [WG] at hq
     rcases hq with hf | ⟨_,x',aBE,hq'⟩
     ·rw [hf] at hx; cases hx
     have F2:=runT_crowd_go (P:=P) (sl:=py) (i:=i) hi (by rw [kZ]; exact aBE (w.at d))
     rw [ofEvents_none] at F2
     refine jT.step (ct.trans F2) ?_
     rw [Array.append_empty]
     have rF:((gs.map (woken P x x' (w.at d))).setIfInBounds i x').size=gs.size:=by simp
     have aBF:=AJ (f:=q) (g:=λ j=>if j=i then k else q j) br (λ j hj=>by simp [hj])
     simp only [if_true,WG] at aBF
     refine ih _ _ _ _ (λ j=>if j=i then k else q j) (by rw [rF]; omega) ?_ ⟨(hA.at d).mem,hA.tr,λ j y hj hy=>?_⟩
     ·have b7:i≠0:=by omega
      rw [Array.getElem?_setIfInBounds_ne b7,Array.getElem?_map,h0]
      simp [woken_run hs]
     ·by_cases dA:i=j
      ·subst dA
       rw [Array.getElem?_setIfInBounds_self_of_lt (by simpa using br)] at hy
       obtain rfl:=Option.some.inj hy
       simpa using hq'
      ·rw [Array.getElem?_setIfInBounds_ne dA,Array.getElem?_map] at hy
       obtain ⟨z,hz,rfl⟩:=Option.map_eq_some_iff.1 hy
       have hqj:=hA.lv j z hj hz
       rw [aiH hqj]
       simpa [Ne.symm dA] using hqj
 exact λ gs w sl t q h0 hA=>key _ gs w sl t q (Nat.le_refl _) h0 hA
theorem MJ.step(hs:g.status = .running)(h:∀ w,Fits B R H w→∃ g' w' es R' H',stepG P true g w = .go g' w' es∧(∀ e∈es,ia R H w.heap.size w'.heap.size e)∧dU B R H w R' H' w'∧MJ P B ck R' H' g'):MJ P B ck R H g:=by
 refine MJ.pick hs λ gs w sl py d t q h0 hA ct=>?_
 obtain ⟨g',w',es,R',H',h1,h2,h3,h4⟩:=h _ hA.fits
 have F2:=runT_crowd_go (P:=P) (sl:=py) (i:=0) h0 (show stepG P (0 == 0) g (w.at d)=_ from h1)
 refine jT.step (ct.trans F2) ?_
 have br:0 < gs.size:=(Array.getElem?_eq_some_iff.1 h0).1
 have ct:=PB hA.mem hA.tr (i:=0) rfl h2 h3 g.frame.fn g.frame.place
 rw [Z9] at ct
 refine h4 _ _ _ _ q (by simp [br]) ⟨ct.1,ct.2,λ j x hj hx=>?_⟩
 have b7:0≠j:=by omega
 rw [Array.getElem?_setIfInBounds_ne b7,Array.getElem?_map] at hx
 obtain ⟨y,hy,rfl⟩:=Option.map_eq_some_iff.1 hx
 have hq:=hA.lv j y hj hy
 rw [aiH hq]
 exact hq
theorem MJ.ghost{R':aE}{H':an}(hg:∀ w,Fits B R H w→dU B R H w R' H' w)(h:MJ P B ck R' H' g):MJ P B ck R H g:=by
 intro gs w sl t q h0 hA
 have ct:=ae0 hA.mem hA.tr (i:=0) rfl (hg w hA.fits)
 rw [Z9] at ct
 exact h gs w sl t q h0 ⟨ct.1,ct.2,hA.lv⟩
def K2(P:Program)(B:Base)(ck:Value→World→Prop):Jd P B true:=⟨MJ P B ck,MJ.step,MJ.ghost⟩
theorem handed{n:Nat}{t:Trace}(h:ee (only ⟨R,H⟩) [] none n t):t.HandedOver:=by
 intro i x hx b7 hc
 obtain ⟨a,ha,hm,_⟩:=hc
 rcases h.all i a ha hm with ⟨j,y,hy,hk⟩ | ⟨c,p,ga,_⟩
 ·have hj:j=0:=by
   unfold only at hy
   split at hy
   ·assumption
   ·cases hy
  subst hj
  obtain ⟨q,z,h1,h2,h3⟩:=hk
  refine ⟨q,by simp [Trace.g?,h1,h2],?_⟩
  rcases h3 with rfl | h3
  ·rw [show t.g? i=some z.g by simp [Trace.g?,h1],h2] at hx
   exact absurd (Option.some.inj hx).symm b7
  ·exact h3
 ·cases ga
end
end Go.Lg
namespace Go.Lg
open Go.Conc
section
variable {B:Base} {th:Nat→Option Th} {ch NR:an} {cls:Option Nat} {w:World} {n i:Nat} {R R':aE} {H:an} {t u:Trace}
theorem fE.ahG(h:fE B th ch w){c:Nat}{o o':Obj}(hc:(c,o)∈ch)(OE:∀ x y,(x,y)∈NR→(x=c∧y=o')∨(x≠c∧(x,y)∈ch)):fE B th NR { w with heap:=w.heap.setIfInBounds c o' }:=by
 have br:=ir (h.qb c o hc)
 have ne:∀ b,b≠c→(w.heap.setIfInBounds c o')[b]? = w.heap[b]? := λ b hb=>Array.getElem?_setIfInBounds_ne (Ne.symm hb)
 refine ⟨λ j x hx=>?_,h.apart,λ x y lR=>?_,λ x y lR j z hz=>?_⟩
 ·have hf:=h.fits j x hx
  have hcp:=h.oW c o hc j x hx
  refine ⟨λ b v hb=>?_,λ b v hb=>?_,hf.nd,hf.dj,hf.os,hf.tape,hf.out⟩
  ·show (w.heap.setIfInBounds c o')[b]? = _
   rw [ne b (λ e=>by subst e; exact nn hcp.1 hb)]; exact hf.r b v hb
  ·show (w.heap.setIfInBounds c o')[b]? = _
   rw [ne b (λ e=>by subst e; exact hcp.2 v hb)]; exact hf.h b v hb
 ·show (w.heap.setIfInBounds c o')[x]? = _
  rcases OE x y lR with ⟨rfl,rfl⟩ | ⟨b7,hm⟩
  ·rw [Array.getElem?_setIfInBounds_self_of_lt br]
  ·rw [ne x b7]; exact h.qb x y hm
 ·rcases OE x y lR with ⟨rfl,rfl⟩ | ⟨_,hm⟩
  ·exact h.oW x o hc j z hz
  ·exact h.oW x y hm j z hz
theorem ee.chs(h:ee th ch cls n t)(OE:∀ x y,(x,y)∈NR→∃ y',(x,y')∈ch):ee th NR cls n t :=
 ⟨h.own,h.read,λ c o hc=>(h.cY c _ (OE c o hc).choose_spec),h.low,h.all,h.clean,h.quiet⟩
theorem Lj(hu:∀ op∈u,op.act.touch? = none){k:Nat}{a:Touch}(h:touchAt (t++u) k=some a):touchAt t k=some a:=by
 rcases tG h with ⟨_,x⟩ | ⟨op,_,h2,h3⟩
 ·exact x
 ·rw [hu op h2] at h3; cases h3
theorem ee.aJL(h:ee th ch cls n t)(hu:∀ op∈u,op.act.touch? = none)(hl:∀ op∈u,op.act.low n)(hw:Wordless u){c:Nat}(hi:th i=some ⟨R,H⟩)(hR:aN R' R)(hc:th c=none)(hk:∀ k,Kn t i k→Kn (t++u) c k) :
  ee (gN th c (some ⟨R',[]⟩)) ch cls n (t++u):=by
 have hm:=h.mute hu hl hw
 refine ⟨λ j y hy b o hb k a ob cH=>?_,λ j y hy b o hb k a ob cH vk=>?_,λ d o hd j y hy k a ob cH=>?_,hm.low,λ k a ob mU=>?_,hm.clean,hm.quiet⟩
 ·by_cases hj:j=c
  ·subst hj; rw [iB] at hy; cases hy; cases hb
  ·rw [fe hj] at hy; exact hm.own j y hy b o hb k a ob cH
 ·by_cases hj:j=c
  ·subst hj; rw [iB] at hy; cases hy
   exact hk k (h.read i _ hi b o (hR b o hb) k a (Lj hu ob) cH vk)
  ·rw [fe hj] at hy; exact hm.read j y hy b o hb k a ob cH vk
 ·by_cases hj:j=c
  ·subst hj; rw [iB] at hy; cases hy
   exact (h.cY d o hd i _ hi k a (Lj hu ob) cH).imp id (hk k)
  ·rw [fe hj] at hy; exact hm.cY d o hd j y hy k a ob cH
 ·refine (hm.all k a ob mU).imp (λ ⟨j,y,hy,jm⟩=>⟨j,y,?_,jm⟩) id
  rw [fe (λ e=>by subst e; rw [hc] at hy; cases hy)]; exact hy
theorem ee.aJN(h:ee th ch cls n t)(hu:∀ op∈u,op.act.touch? = none)(hl:∀ op∈u,op.act.low n)(hw:Wordless u)(hk:∀ k,Kn t i k→∃ j y,j≠i∧th j=some y∧Kn (t++u) j k) :
  ee (gN th i none) ch cls n (t++u):=by
 have hm:=h.mute hu hl hw
 have key:∀ j y,gN th i none j=some y→th j=some y:=λ j y hy=>by
  by_cases hj:j=i
  ·subst hj; rw [iB] at hy; cases hy
  ·rwa [fe hj] at hy
 refine ⟨λ j y hy=>hm.own j y (key j y hy),λ j y hy=>hm.read j y (key j y hy),λ c o hc j y hy=>hm.cY c o hc j y (key j y hy),hm.low,λ k a ob mU=>?_,hm.clean,hm.quiet⟩
 rcases h.all k a (Lj hu ob) mU with ⟨j,y,hy,jm⟩ | x
 ·by_cases hj:j=i
  ·subst hj
   obtain ⟨j',y',h1,h2,h3⟩:=hk k jm
   exact .inl ⟨j',y',by rw [fe h1]; exact h2,h3⟩
  ·exact .inl ⟨j,y,by rw [fe hj]; exact hy,jm.app u⟩
 ·exact .inr (TW x)
theorem ee.aKS{x:Th}{c:Nat}{y:MemOp}(h:ee (only x) ch (some c) n t)(hy:y.g=0)(oq:y.act = .recvClosed c)(hc:c < n):ee (only x) [] none n (t++#[y]):=by
 have hu:∀ op∈#[y],op.act.touch? = none:=λ op aJ=>by simp at aJ; subst aJ; rw [oq]; rfl
 have hw:Wordless #[y]:=λ op aJ m hm=>by simp at aJ; subst aJ; rw [oq] at hm; cases hm
 have hm:=h.mute hu (λ op aJ=>by simp at aJ; subst aJ; rw [oq]; exact hc) hw
 refine ⟨hm.own,hm.read,λ c o hc=>(by cases hc),hm.low,λ k a ob nO=>?_,hm.clean,hm.quiet⟩
 rcases h.all k a (Lj hu ob) nO with ⟨j,z,hz,jm⟩ | ⟨c',p,h1,h2,h3⟩
 ·exact .inl ⟨j,z,hz,jm.app _⟩
 ·cases h1
  exact .inl ⟨0,x,rfl,aG5 hm.quiet h2 hy oq h3⟩
end
section
variable (P:Program) (B:Base) (main:Bool)
def E7(c:Nat)(v:Value)(Next:aE→an→Goroutine→Prop)(z:Value)(R:aE)(H:an)(g:Goroutine):Prop :=
 g.status = .running∧(∀ w,Fits B R H w→stepG P main g w = .comm (core g) #[scase c v z] true .send w #[])∧Next R H (Conc.served (core g) undef)
def AtR(c:Nat)(fl:Bool)(wH:Value→aE→an→Goroutine→Prop)(Nil:aE→an→Goroutine→Prop)(z:Value)(R:aE)(H:an)(g:Goroutine):Prop :=
 g.status = .running∧(∀ w,Fits B R H w→stepG P main g w = .comm (core g) #[rcase c z] true (.recv fl) w #[])∧(∀ v,wH v R H (Conc.served (core g) (recvd fl v true)))∧Nil R H (Conc.served (core g) (recvd fl z false))
def AtC(c:Nat)(R:aE)(H:an)(g:Goroutine):Prop :=
 g.status = .running∧mayWake P g=true∧∃ g' n,(∀ w s r tm,Fits B R H w→w.heap[c]? = some (.chan 0 #[] false s r tm)→stepG P false g w = .go g' (w.shut c s r tm) #[⟨.obj c,false,true⟩,⟨.obj c,true,true⟩])∧QuitsIn P n g'
def PkS(c:Nat)(v:Value)(Next:aE→an→Goroutine→Prop)(R:aE)(H:an)(g:Goroutine):Prop:=∃ g0 z,E7 P B main c v Next z R H g0∧g=parked (core g0) #[scase c v z] .send
def S3(c:Nat)(fl:Bool)(wH:Value→aE→an→Goroutine→Prop)(Nil:aE→an→Goroutine→Prop)(R:aE)(H:an)(g:Goroutine):Prop:=∃ g0 z,AtR P B main c fl wH Nil z R H g0∧g=parked (core g0) #[rcase c z] (.recv fl)
end
section
variable (P:Program) (B:Base) (cf cd:Nat) (bX:aE→an→Goroutine→Prop)
def Lv(_:aE)(_:an)(g:Goroutine):Prop:=∃ n,QuitsIn P n g
def y9(R:aE)(H:an)(g:Goroutine):Prop:=∃ z,E7 P B false cd (.bool true) (Lv P) z R H g
def W2:aE→an→Goroutine→Prop:=Own P B false (y9 P B cd)
def y8(v:Value)(R:aE)(H:an)(g:Goroutine):Prop:=∃ z,E7 P B false cf v (W2 P B cd) z R H g
def Sz(CK:aE→an→Goroutine→Prop)(_:Value)(R:aE)(H:an)(g:Goroutine):Prop:=Own P B false CK R H g
def Tt(_:aE)(_:an)(_:Goroutine):Prop:=True
def CK:Nat→aE→an→Goroutine→Prop
 | 0=>AtC P B cf
 | n+1=>λ R H g=>∃ z,AtR P B false cd false (Sz P B (CK n)) Tt z R H g
def M8(rem:List Value)(MK:List Value→aE→an→Goroutine→Prop)(v:Value)(R:aE)(H:an)(g:Goroutine):Prop:=∀ rest,rem.Perm (v::rest)→Own P B true (MK rest) R H g
def m9:Nat→List Value→aE→an→Goroutine→Prop
 | 0,_=>λ R H g=>∃ z,AtR P B true cf true (λ _=>Tt) bX z R H g
 | n+1,rem=>λ R H g=>∃ z,AtR P B true cf true (M8 P B rem (m9 n)) Tt z R H g
def rk:Nat→List Value→aE→an→Goroutine→Prop
 | 0,sp=>λ R H g=>g.status = .running∧∀ w,Fits B R H w→∃ g' child,stepG P true g w = .spawn g' child w #[]∧Own P B false (CK P B cf cd sp.length) R [] child∧Own P B true (m9 P B cf bX sp.length sp) R H g'
 | k+1,sp=>λ R H g=>g.status = .running∧∀ w,Fits B R H w→∃ g' child v,stepG P true g w = .spawn g' child w #[]∧Own P B false (y8 P B cf cd v) R [] child∧Own P B true (rk k (v::sp)) R H g'
end
inductive Dt:Type 1
 | lv (n:Nat)
 | w1 (v:Value) (m:Ms)
 | w2 (m:Ms)
 | cl (k:Nat) (m:Ms)
 | ms (k:Nat) (sp:List Value) (m:Ms)
 | mr (rem:List Value) (m:Ms)
def Dt.pg:Dt→Ms
 | .lv n=>some (D1 n)
 | .w1 _ m | .w2 m | .cl _ m | .ms _ _ m | .mr _ m=>m
def Dt.set:Dt→Ms→Dt
 | .lv n,_=>.lv n
 | .w1 v _,m=>.w1 v m
 | .w2 _,m=>.w2 m
 | .cl k _,m=>.cl k m
 | .ms k sp _,m=>.ms k sp m
 | .mr rem _,m=>.mr rem m
def Dt.eh:Dt→Nat
 | .lv _=>0
 | .w1 _ _=>2
 | .w2 _=>1
 | .cl k _=>k+1
 | .ms k sp _=>3 * k+2 * (k+sp.length)+3
 | .mr rem _=>rem.length+1
def Dt.act:Dt→Nat
 | .w1 _ _ | .w2 _=>1
 | _=>0
def Dt.kM:Dt→Option Value
 | .w1 v _=>some v
 | _=>none
def eZ(D:Nat→Dt):Nat→List Value
 | 0=>[]
 | n+1=>match (D n).kM with | some v=>v::eZ D n | none=>eZ D n
def cr(D:Nat→Dt)(i:Nat)(x:Dt):Nat→Dt:=λ j=>if j=i then x else D j
theorem cM(D:Nat→Dt)(i:Nat)(x:Dt):cr D i x i=x:=by simp [cr]
theorem bN{D:Nat→Dt}{i j:Nat}{x:Dt}(h:j≠i):cr D i x j=D j:=by simp [cr,h]
theorem tX(D:Nat→Dt)(n:Nat):eZ D (n+1)=(D n).kM.toList++eZ D n:=by
 simp only [eZ]
 cases (D n).kM <;> rfl
theorem Ee{D D':Nat→Dt}:∀ {n:Nat},(∀ i,i < n→(D' i).kM=(D i).kM)→eZ D' n=eZ D n
 | 0,_=>rfl
 | n+1,h=>by rw [tX,tX,h n (by omega),Ee (λ i hi=>h i (by omega))]
theorem aib{D D':Nat→Dt}{i:Nat}{v:Value}(hv:(D i).kM=some v)(h0:(D' i).kM=none)(b7:∀ j,j≠i→(D' j).kM=(D j).kM):∀ {n:Nat},i < n→(eZ D n).Perm (v::eZ D' n)
 | n+1,h=>by
  rcases Nat.lt_or_ge i n with br | l3
  ·have ih:=aib hv h0 b7 br
   rw [tX,tX,b7 n (by omega)]
   cases (D n).kM with
   | none=>exact ih
   | some u=>exact (List.Perm.cons u ih).trans (List.Perm.swap _ _ _)
  ·obtain rfl:i=n:=by omega
   rw [tX,tX,hv,h0,Ee (D:=D) (D':=D') λ j hj=>b7 j (by omega)]
   exact List.Perm.refl _
theorem aL5(d:Dt):d.kM.toList.length≤d.act:=by cases d <;> simp [Dt.kM,Dt.act]
theorem aaT{D:Nat→Dt}:∀ {n:Nat},(eZ D n).length≤cX n (λ i=>(D i).act)
 | 0=>by simp [eZ]
 | n+1=>by
  have ih:=aaT (D:=D) (n:=n)
  have:=aL5 (D n)
  rw [tX,List.length_append]
  simp only [cX]
  omega
theorem aia{D:Nat→Dt}:∀ {n:Nat},(∀ i m,i < n→D i ≠ .w2 m)→(eZ D n).length=cX n (λ i=>(D i).act)
 | 0,_=>by simp [eZ,cX]
 | n+1,hw=>by
  have ih:=aia (D:=D) (n:=n) λ i m hi=>hw i m (by omega)
  have:(D n).kM.toList.length=(D n).act:=by
   cases h:D n with
   | w2 m=>exact absurd h (hw n m (by omega))
   | _=>simp [Dt.kM,Dt.act]
  rw [tX,List.length_append]
  simp only [cX]
  omega
theorem adf{D:Nat→Dt}:∀ {n:Nat},cX n (λ i=>(D i).act)=0→∀ i,i < n→(D i).act=0
 | n+1,h,i,hi=>by
  simp only [cX] at h
  rcases Nat.lt_or_ge i n with br | l3
  ·exact adf (by omega) i br
  ·obtain rfl:i=n:=by omega
   omega
section
variable (P:Program) (B:Base) (cf cd:Nat) (bX:aE→an→Goroutine→Prop)
def IG(main:Bool)(K Pk:aE→an→Goroutine→Prop)(m:Ms)(x:Option Th)(g:Goroutine):Prop :=
 ∃ y:Th,x=some y∧((∃ T,m=some T∧za P B main K T y.R y.H g)∨(m=none∧Pk y.R y.H g))
def No(_:aE)(_:an)(_:Goroutine):Prop:=False
def PkC:Nat→aE→an→Goroutine→Prop
 | 0=>No
 | n+1=>S3 P B false cd false (Sz P B (CK P B cf cd n)) Tt
def Na:Nat→List Value→aE→an→Goroutine→Prop
 | 0,_=>S3 P B true cf true (λ _=>Tt) bX
 | n+1,rem=>S3 P B true cf true (M8 P B rem (m9 P B cf bX n)) Tt
def l9(i:Nat):Dt→Option Th→Goroutine→Prop
 | .lv n,x,g=>x=none∧QuitsIn P n g∧0 < i
 | .w1 v m,x,g=>IG P B false (y8 P B cf cd v) (PkS P B false cf v (W2 P B cd)) m x g∧0 < i
 | .w2 m,x,g=>IG P B false (y9 P B cd) (PkS P B false cd (.bool true) (Lv P)) m x g∧0 < i
 | .cl k m,x,g=>IG P B false (CK P B cf cd k) (PkC P B cf cd k) m x g∧0 < i
 | .ms k sp m,x,g=>IG P B true (rk P B cf cd bX k sp) No m x g∧i=0
 | .mr rem m,x,g=>IG P B true (m9 P B cf bX rem.length rem) (Na P B cf bX rem.length rem) m x g∧i=0
inductive Ph (cf:Nat) (n:Nat) (D:Nat→Dt):Bool→Option Nat→Prop
 | mK {k sp m}:D 0 = .ms k sp m→(eZ D n).Perm sp→(∀ i k m,D i ≠ .cl k m)→(∀ i m,D i ≠ .w2 m)→Ph cf n D false none
 | jM {rem m ic kc mc}:D 0 = .mr rem m→(eZ D n).Perm rem→ic < n→D ic = .cl kc mc→(∀ j k m,D j = .cl k m→j=ic)→kc=cX n (λ i=>(D i).act) →
   (m=none→∀ i v,D i ≠ .w1 v none)→(mc=none→∀ i,D i ≠ .w2 none)→Ph cf n D false none
 | closed {rem m}:D 0 = .mr rem m→(eZ D n).Perm rem→(∀ i k m,D i ≠ .cl k m)→(∀ i,(D i).act=0)→m≠none→Ph cf n D true (some cf)
structure PI (D:Nat→Dt) (th:Nat→Option Th) (cI:Bool) (cls:Option Nat) (s1 s2:Nat) (bO bZ:Bool) (gs:Array Goroutine) (w:World) (t:Trace):Prop where
 ne:cf≠cd
 mem:fE B th [(cf,.chan 0 #[] cI s1 s1 bO),(cd,.chan 0 #[] false s2 s2 bZ)] w
 tr:ee th [(cf,.chan 0 #[] cI s1 s1 bO),(cd,.chan 0 #[] false s2 s2 bZ)] cls w.heap.size t
 gM:∀ i g,gs[i]? = some g→l9 P B cf cd bX i (D i) (th i) g
 out:∀ i,gs.size≤i→th i=none∧D i = .lv 0
 ph:Ph cf gs.size D cI cls
 pos:0 < gs.size
end
end Go.Lg
namespace Go.Lg
open Go.Conc
def mu(D:Nat→Dt)(n:Nat):Nat × List Ms:=(cX n (λ i=>(D i).eh),(List.range n).map λ i=>(D i).pg)
def wO(a b:Nat × List Ms):Prop:=a.1 < b.1∨(a.1=b.1∧One oP a.2 b.2)
theorem wO.wf:WellFounded wO:=by
 have key:∀ p,∀ l,Acc wO (p,l):=by
  intro p
  induction p using Nat.strongRecOn with
  | ind p ihp =>
   intro l
   induction l using One.wf.induction with
   | _ l Zi =>
    refine ⟨_,λ y hy=>?_⟩
    obtain ⟨q,m⟩:=y
    rcases hy with h | ⟨h1,h2⟩
    ·exact ihp q h m
    ·simp only at h1; subst h1; exact Zi m h2
 exact ⟨λ ⟨p,l⟩=>key p l⟩
theorem DX{D:Nat→Dt}{n i:Nat}{x:Dt}{a b:Ms}(hi:i < n)(hb:(D i).pg=b)(ha:x.pg=a)(hl:oP a b)(hp:x.eh=(D i).eh):wO (mu (cr D i x) n) (mu D n):=by
 refine .inr ⟨?_,?_⟩
 ·show cX n (λ j=>(cr D i x j).eh)=cX n (λ j=>(D j).eh)
  have:=AJ (f:=λ j=>(D j).eh) (g:=λ j=>(cr D i x j).eh) hi (λ k hk=>by simp only [bN hk])
  simp only [cM] at this
  omega
 ·have e:(List.range n).map (λ j=>(cr D i x j).pg)=((List.range n).map λ j=>(D j).pg).set i a:=by
   apply List.ext_getElem?
   intro j
   rw [List.getElem?_set]
   by_cases hj:i=j
   ·subst hj; simp [hi,cM,ha]
   ·simp only [hj,if_false,List.getElem?_map]
    cases hr:(List.range n)[j]? with
    | none=>rfl
    | some k =>
     have hk:k=j:=by
      have:=List.getElem?_eq_some_iff.1 hr
      obtain ⟨_,h2⟩:=this
      simpa using h2.symm
     subst hk
     simp [bN (Ne.symm hj)]
  show One oP ((List.range n).map _) _
  rw [e]
  exact One.set (by simp [hi,hb]) hl
theorem K6{D:Nat→Dt}{n i j:Nat}{x y:Dt}(hi:i < n)(hj:j < n)(ew:j≠i)(hp:x.eh+y.eh < (D i).eh+(D j).eh):wO (mu (cr (cr D j y) i x) n) (mu D n):=by
 refine .inl ?_
 show cX n (λ k=>(cr (cr D j y) i x k).eh) < cX n (λ k=>(D k).eh)
 have h1:=AJ (f:=λ k=>(cr D j y k).eh) (g:=λ k=>(cr (cr D j y) i x k).eh) hi (λ k hk=>by simp only [bN hk])
 have h2:=AJ (f:=λ k=>(D k).eh) (g:=λ k=>(cr D j y k).eh) hj (λ k hk=>by simp only [bN hk])
 simp only [cM,bN (Ne.symm ew)] at h1 h2
 omega
theorem ag6{D:Nat→Dt}{n:Nat}{x y:Dt}(hn:0 < n)(hp:x.eh+y.eh < (D 0).eh):wO (mu (cr (cr D n y) 0 x) (n+1)) (mu D n):=by
 refine .inl ?_
 show cX (n+1) (λ k=>(cr (cr D n y) 0 x k).eh) < cX n (λ k=>(D k).eh)
 have h1:=AJ (f:=λ k=>(D k).eh) (g:=λ k=>(cr D 0 x k).eh) hn (λ k hk=>by simp only [bN hk])
 have h2:cX n (λ k=>(cr (cr D n y) 0 x k).eh)=cX n (λ k=>(cr D 0 x k).eh):=AI λ k hk=>by
  by_cases h0:k=0
  ·subst h0; rw [cM,cM]
  ·rw [bN h0,bN h0,bN (by omega)]
 simp only [cX,h2,bN (show n≠0 by omega),cM] at h1 ⊢
 omega
theorem za.rU{P:Program}{B:Base}{main:Bool}{K:aE→an→Goroutine→Prop}{T:Tree}{R:aE}{H:an}{g:Goroutine}(h:za P B main K T R H g)(hs:∀ R H g,K R H g→g.status = .running):g.status = .running:=by
 induction T generalizing R H g with
 | node ι f ih =>
  rcases h with h | ⟨h,_⟩ | ⟨R',H',i,_,h⟩
  ·exact hs _ _ _ h
  ·exact h
  ·exact ih i h
section
variable {P:Program} {B:Base} {cf cd:Nat} {bX:aE→an→Goroutine→Prop} {main:Bool}
theorem y8.run{v:Value}{R:aE}{H:an}{g:Goroutine}(h:y8 P B cf cd v R H g):g.status = .running:=by obtain ⟨_,h⟩:=h; exact h.1
theorem y9.run{R:aE}{H:an}{g:Goroutine}(h:y9 P B cd R H g):g.status = .running:=by obtain ⟨_,h⟩:=h; exact h.1
theorem CK.run{k:Nat}{R:aE}{H:an}{g:Goroutine}(h:CK P B cf cd k R H g):g.status = .running:=by
 cases k with
 | zero=>exact h.1
 | succ k=>obtain ⟨_,h⟩:=h; exact h.1
theorem rk.run{k:Nat}{sp:List Value}{R:aE}{H:an}{g:Goroutine}(h:rk P B cf cd bX k sp R H g):g.status = .running:=by
 cases k <;> exact h.1
theorem m9.run{k:Nat}{rem:List Value}{R:aE}{H:an}{g:Goroutine}(h:m9 P B cf bX k rem R H g):g.status = .running:=by
 cases k <;> (obtain ⟨_,h⟩:=h; exact h.1)
theorem l9.look{i:Nat}{d:Dt}{x:Option Th}{g:Goroutine}(h:l9 P B cf cd bX i d x g) :
  (g.status = .running∧∃ T,d.pg=some T)∨(g.status = .finished) ∨
  (∃ v g0 z,d = .w1 v none∧g=parked (core g0) #[scase cf v z] .send) ∨
  (∃ g0 z,d = .w2 none∧g=parked (core g0) #[scase cd (.bool true) z] .send) ∨
  (∃ k g0 z,d = .cl (k+1) none∧g=parked (core g0) #[rcase cd z] (.recv false)) ∨
  (∃ rem g0 z,d = .mr rem none∧g=parked (core g0) #[rcase cf z] (.recv true)):=by
 cases d with
 | lv n =>
  obtain ⟨_,h,_⟩:=h
  rcases h.status with h | h
  ·exact .inl ⟨h,_,rfl⟩
  ·exact .inr (.inl h)
 | w1 v m =>
  obtain ⟨⟨y,_,⟨T,rfl,h⟩ | ⟨rfl,g0,z,_,h⟩⟩,_⟩:=h
  ·exact .inl ⟨h.rU λ _ _ _=>y8.run,_,rfl⟩
  ·exact .inr (.inr (.inl ⟨v,g0,z,rfl,h⟩))
 | w2 m =>
  obtain ⟨⟨y,_,⟨T,rfl,h⟩ | ⟨rfl,g0,z,_,h⟩⟩,_⟩:=h
  ·exact .inl ⟨h.rU λ _ _ _=>y9.run,_,rfl⟩
  ·exact .inr (.inr (.inr (.inl ⟨g0,z,rfl,h⟩)))
 | cl k m =>
  obtain ⟨⟨y,_,⟨T,rfl,h⟩ | ⟨rfl,h⟩⟩,_⟩:=h
  ·exact .inl ⟨h.rU λ _ _ _=>CK.run,_,rfl⟩
  ·cases k with
   | zero=>exact h.elim
   | succ k=>obtain ⟨g0,z,_,h⟩:=h; exact .inr (.inr (.inr (.inr (.inl ⟨k,g0,z,rfl,h⟩))))
 | ms k sp m =>
  obtain ⟨⟨y,_,⟨T,rfl,h⟩ | ⟨rfl,h⟩⟩,_⟩:=h
  ·exact .inl ⟨h.rU λ _ _ _=>rk.run,_,rfl⟩
  ·exact h.elim
 | mr rem m =>
  obtain ⟨⟨y,_,⟨T,rfl,h⟩ | ⟨rfl,h⟩⟩,_⟩:=h
  ·exact .inl ⟨h.rU λ _ _ _=>m9.run,_,rfl⟩
  ·have:∃ g0 z,g=parked (core g0) #[rcase cf z] (.recv true):=by
    generalize rem.length=k at h
    cases k <;> (obtain ⟨g0,z,_,h⟩:=h; exact ⟨g0,z,h⟩)
   obtain ⟨g0,z,h⟩:=this
   exact .inr (.inr (.inr (.inr (.inr ⟨rem,g0,z,rfl,h⟩))))
theorem l9.offers{i:Nat}{d:Dt}{x:Option Th}{g:Goroutine}(h:l9 P B cf cd bX i d x g)(_:cf≠cd){c:Nat}{send:Bool}{k:Nat}(hk:k∈offersAt g c send) :
  k=0∧((c=cf∧send=true∧∃ v g0 z,d = .w1 v none∧g=parked (core g0) #[scase cf v z] .send) ∨
  (c=cd∧send=true∧∃ g0 z,d = .w2 none∧g=parked (core g0) #[scase cd (.bool true) z] .send) ∨
  (c=cd∧send=false∧∃ k g0 z,d = .cl (k+1) none∧g=parked (core g0) #[rcase cd z] (.recv false)) ∨
  (c=cf∧send=false∧∃ rem g0 z,d = .mr rem none∧g=parked (core g0) #[rcase cf z] (.recv true))):=by
 rcases h.look with ⟨h,_⟩ | h | ⟨v,g0,z,h1,h2⟩ | ⟨g0,z,h1,h2⟩ | ⟨k',g0,z,h1,h2⟩ | ⟨rem,g0,z,h1,h2⟩
 ·rw [offersAt_of_not_blocked (by rw [h]; intro e; cases e)] at hk; cases hk
 ·rw [offersAt_of_not_blocked (by rw [h]; intro e; cases e)] at hk; cases hk
 all_goals (subst h2; cases send)
 ·rw [offersAt_parked_send'] at hk; cases hk
 ·rw [offersAt_parked_send] at hk
  split at hk
  ·simp at hk; rename_i e; exact ⟨hk,.inl ⟨e.symm,rfl,v,g0,z,h1,rfl⟩⟩
  ·cases hk
 ·rw [offersAt_parked_send'] at hk; cases hk
 ·rw [offersAt_parked_send] at hk
  split at hk
  ·simp at hk; rename_i e; exact ⟨hk,.inr (.inl ⟨e.symm,rfl,g0,z,h1,rfl⟩)⟩
  ·cases hk
 ·rw [offersAt_parked_recv] at hk
  split at hk
  ·simp at hk; rename_i e; exact ⟨hk,.inr (.inr (.inl ⟨e.symm,rfl,k',g0,z,h1,rfl⟩))⟩
  ·cases hk
 ·rw [offersAt_parked_recv'] at hk; cases hk
 ·rw [offersAt_parked_recv] at hk
  split at hk
  ·simp at hk; rename_i e; exact ⟨hk,.inr (.inr (.inr ⟨e.symm,rfl,rem,g0,z,h1,rfl⟩))⟩
  ·cases hk
 ·rw [offersAt_parked_recv'] at hk; cases hk
theorem l9.awake{i:Nat}{d:Dt}{x:Option Th}{g:Goroutine}(h:l9 P B cf cd bX i d x g):awake g:=by
 rcases h.look with ⟨h,_⟩ | h | ⟨v,g0,z,h1,rfl⟩ | ⟨g0,z,h1,rfl⟩ | ⟨k',g0,z,h1,rfl⟩ | ⟨rem,g0,z,h1,rfl⟩
 ·exact awake_of (.inl h)
 ·exact awake_of (.inr (.inr h))
 all_goals exact awake_of (.inr (.inl rfl))
theorem l9.again{i:Nat}{d:Dt}{x:Option Th}{g a a':Goroutine}{w:World}{s1 s2:Nat}{bO bZ:Bool}(h:l9 P B cf cd bX i d x g)(h2:w.heap[cd]? = some (.chan 0 #[] false s2 s2 bZ))
  (h1:w.heap[cf]? = some (.chan 0 #[] false s1 s1 bO)∨((∀ v,d ≠ .w1 v none)∧∀ rem,d ≠ .mr rem none)):woken P a a' w g=g:=by
 unfold woken
 split
 ·rcases h.look with ⟨h,_⟩ | h | ⟨v,g0,z,e,rfl⟩ | ⟨g0,z,e,rfl⟩ | ⟨k',g0,z,e,rfl⟩ | ⟨rem,g0,z,e,rfl⟩
  ·exact again_running _ (.inl h)
  ·exact again_running _ (.inr h)
  ·rcases h1 with h1 | h1
   ·exact again_parked_open rfl h1
   ·exact absurd e (h1.1 v)
  ·exact again_parked_open rfl h2
  ·exact again_parked_open rfl h2
  ·rcases h1 with h1 | h1
   ·exact again_parked_open rfl h1
   ·exact absurd e (h1.2 rem)
 ·rfl
end
end Go.Lg
namespace Go.Lg
open Go.Conc
def Q(d d':Dt):Prop:=d'=d∨(∃ n n',d = .lv n∧d' = .lv n')∨(∃ T,d'=d.set (some T))
theorem Q.kM{d d':Dt}(h:Q d d'):d'.kM=d.kM:=by
 rcases h with rfl | ⟨n,n',rfl,rfl⟩ | ⟨T,rfl⟩
 ·rfl
 ·rfl
 ·cases d <;> rfl
theorem Q.act{d d':Dt}(h:Q d d'):d'.act=d.act:=by
 rcases h with rfl | ⟨n,n',rfl,rfl⟩ | ⟨T,rfl⟩
 ·rfl
 ·rfl
 ·cases d <;> rfl
theorem Q.cl{d d':Dt}(h:Q d d'){k:Nat}{m':Ms}(e:d' = .cl k m'):∃ m,d = .cl k m:=by
 rcases h with rfl | ⟨n,n',rfl,rfl⟩ | ⟨T,rfl⟩
 ·exact ⟨_,e⟩
 ·cases e
 ·cases d <;> simp [Dt.set] at e
  exact ⟨_,by rw [e.1]⟩
theorem Q.cl'{d d':Dt}(h:Q d d'){k:Nat}{m:Ms}(e:d = .cl k m):∃ m',d' = .cl k m'∧(m'=m∨m'≠none):=by
 subst e
 rcases h with rfl | ⟨n,n',h1,h2⟩ | ⟨T,rfl⟩
 ·exact ⟨_,rfl,.inl rfl⟩
 ·cases h1
 ·exact ⟨_,rfl,.inr (by simp)⟩
theorem Q.ms'{d d':Dt}(h:Q d d'){k:Nat}{sp:List Value}{m:Ms}(e:d = .ms k sp m):∃ m',d' = .ms k sp m':=by
 subst e
 rcases h with rfl | ⟨n,n',h1,h2⟩ | ⟨T,rfl⟩
 ·exact ⟨_,rfl⟩
 ·cases h1
 ·exact ⟨_,rfl⟩
theorem Q.mr'{d d':Dt}(h:Q d d'){rem:List Value}{m:Ms}(e:d = .mr rem m):∃ m',d' = .mr rem m'∧(m'=m∨m'≠none):=by
 subst e
 rcases h with rfl | ⟨n,n',h1,h2⟩ | ⟨T,rfl⟩
 ·exact ⟨_,rfl,.inl rfl⟩
 ·cases h1
 ·exact ⟨_,rfl,.inr (by simp)⟩
theorem Q.w1{d d':Dt}(h:Q d d'){v:Value}(e:d' = .w1 v none):d = .w1 v none:=by
 rcases h with rfl | ⟨n,n',rfl,rfl⟩ | ⟨T,rfl⟩
 ·exact e
 ·cases e
 ·cases d <;> simp [Dt.set] at e
theorem Q.w2{d d':Dt}(h:Q d d')(e:d' = .w2 none):d = .w2 none:=by
 rcases h with rfl | ⟨n,n',rfl,rfl⟩ | ⟨T,rfl⟩
 ·exact e
 ·cases e
 ·cases d <;> simp [Dt.set] at e
theorem Q.w2'{d d':Dt}(h:Q d d'){m:Ms}(e:d' = .w2 m):∃ m,d = .w2 m:=by
 rcases h with rfl | ⟨n,n',rfl,rfl⟩ | ⟨T,rfl⟩
 ·exact ⟨_,e⟩
 ·cases e
 ·cases d <;> simp [Dt.set] at e
  exact ⟨_,rfl⟩
theorem Q.upd{D:Nat→Dt}{i:Nat}{x:Dt}(h:Q (D i) x)(j:Nat):Q (D j) (cr D i x j):=by
 by_cases hj:j=i
 ·subst hj; rw [cM]; exact h
 ·rw [bN hj]; exact .inl rfl
theorem Ph.q{cf n:Nat}{D D':Nat→Dt}{cI:Bool}{cls:Option Nat}(h:Ph cf n D cI cls)(hq:∀ j,Q (D j) (D' j)):Ph cf n D' cI cls:=by
 have hv:eZ D' n=eZ D n:=Ee λ i _=>(hq i).kM
 have ha:cX n (λ i=>(D' i).act)=cX n (λ i=>(D i).act):=AI λ i _=>(hq i).act
 cases h with
 | mK h0 hp hc hw =>
  obtain ⟨m',o2⟩:=(hq 0).ms' h0
  exact .mK o2 (hv ▸ hp) (λ i k m e=>let ⟨_,e'⟩:=(hq i).cl e; hc i k _ e') (λ i m e=>let ⟨_,e'⟩:=(hq i).w2' e; hw i _ e')
 | @jM rem m ic kc mc h0 hp np eW kD hk ql pa =>
  obtain ⟨m',o2,mU⟩:=(hq 0).mr' h0
  obtain ⟨mc',aua,axG⟩:=(hq ic).cl' eW
  refine .jM o2 (hv ▸ hp) np aua (λ j k m e=>let ⟨_,e'⟩:=(hq j).cl e; kD j k _ e') (by rw [ha]; exact hk) (λ e i v e'=>?_) (λ e i e'=>?_)
  ·rcases mU with x | x
   ·exact ql (x ▸ e) i v ((hq i).w1 e')
   ·exact x e
  ·rcases axG with x | x
   ·exact pa (x ▸ e) i ((hq i).w2 e')
   ·exact x e
 | closed h0 hp hc o6 hm =>
  obtain ⟨m',o2,mU⟩:=(hq 0).mr' h0
  refine .closed o2 (hv ▸ hp) (λ i k m e=>let ⟨_,e'⟩:=(hq i).cl e; hc i k _ e') (λ i=>by rw [(hq i).act]; exact o6 i) ?_
  rcases mU with x | x
  ·rw [x]; exact hm
  ·exact x
section
variable {P:Program} {B:Base} {cf cd:Nat} {bX:aE→an→Goroutine→Prop} {D:Nat→Dt} {th:Nat→Option Th} {cI:Bool} {cls:Option Nat} {s1 s2:Nat} {bO bZ:Bool} {gs:Array Goroutine} {w:World} {sl:Option (Nat × Nat)} {t:Trace}
theorem PI.at(h:PI P B cf cd bX D th cI cls s1 s2 bO bZ gs w t)(d:Nat):PI P B cf cd bX D th cI cls s1 s2 bO bZ gs (w.at d) t :=
 ⟨h.ne,h.mem.at d,h.tr,h.gM,h.out,h.ph,h.pos⟩
theorem PI.l5(h:PI P B cf cd bX D th cI cls s1 s2 bO bZ gs w t):w.heap[cf]? = some (.chan 0 #[] cI s1 s1 bO):=h.mem.qb _ _ (by simp)
theorem PI.rA(h:PI P B cf cd bX D th cI cls s1 s2 bO bZ gs w t):w.heap[cd]? = some (.chan 0 #[] false s2 s2 bZ):=h.mem.qb _ _ (by simp)
theorem PI.aJQ(h:PI P B cf cd bX D th cI cls s1 s2 bO bZ gs w t){j:Nat}{x:Goroutine}(hj:gs[j]? = some x):cI=false∨((∀ v,D j ≠ .w1 v none)∧∀ rem,D j ≠ .mr rem none):=by
 have hs:=h.gM j x hj
 cases h.ph with
 | mK=>exact .inl rfl
 | jM=>exact .inl rfl
 | closed h0 hp hc o6 hm =>
  refine .inr ⟨λ v e=>?_,λ rem e=>?_⟩
  ·have:=o6 j; rw [e] at this; cases this
  ·rw [e] at hs
   have:j=0:=hs.2
   subst this
   rw [h0] at e; cases e; exact hm rfl
theorem PI.again(h:PI P B cf cd bX D th cI cls s1 s2 bO bZ gs w t){j3:Nat→Option Th}{w':World}(hm:fE B j3 [(cf,.chan 0 #[] cI s1 s1 bO),(cd,.chan 0 #[] false s2 s2 bZ)] w')
  {j:Nat} {x a a':Goroutine} (hj:gs[j]? = some x):woken P a a' w' x=x:=by
 refine (h.gM j x hj).again (hm.qb _ _ (by simp)) ?_ (s1:=s1) (s2:=s2) (bO:=bO) (bZ:=bZ)
 rcases h.aJQ hj with e | e
 ·subst e; exact .inl (hm.qb _ _ (by simp))
 ·exact .inr e
theorem rL{gs:Array Goroutine}{i:Nat}{g:Goroutine}(h:gs[i]? = some g):i < gs.size:=(Array.getElem?_eq_some_iff.1 h).1
theorem PI.one(h:PI P B cf cd bX D th cI cls s1 s2 bO bZ gs w t){i:Nat}(hi:i < gs.size){fF:Array Goroutine}{g':Goroutine}{w':World}{t':Trace}{j3:Nat→Option Th}{x:Dt}{iN:Bool}{oX:Option Nat}{s1' s2':Nat}
  (hz:fF.size=gs.size) (hg:fF[i]? = some g') (ho:∀ j,j≠i→fF[j]? = gs[j]?)
  (hm:fE B j3 [(cf,.chan 0 #[] iN s1' s1' bO),(cd,.chan 0 #[] false s2' s2' bZ)] w') (ht:ee j3 [(cf,.chan 0 #[] iN s1' s1' bO),(cd,.chan 0 #[] false s2' s2' bZ)] oX w'.heap.size t')
  (xp:∀ j,j≠i→j3 j=th j) (hs:l9 P B cf cd bX i x (j3 i) g') (zN:Ph cf gs.size (cr D i x) iN oX) :
  PI P B cf cd bX (cr D i x) j3 iN oX s1' s2' bO bZ fF w' t':=by
 refine ⟨h.ne,hm,ht,λ j y hj=>?_,λ j hj=>?_,hz ▸ zN,hz ▸ h.pos⟩
 ·by_cases dA:j=i
  ·subst dA
   rw [hg] at hj; cases hj
   rw [cM]; exact hs
  ·rw [ho j dA] at hj
   rw [bN dA,xp j dA]; exact h.gM j y hj
 ·have dA:j≠i:=by omega
  rw [bN dA,xp j dA]; exact h.out j (by omega)
theorem PI.two(h:PI P B cf cd bX D th cI cls s1 s2 bO bZ gs w t){i j:Nat}(hi:i < gs.size)(hj:j < gs.size)(ew:j≠i){gi gj:Goroutine}{w':World}{t':Trace}{j3:Nat→Option Th}{x y:Dt}{iN:Bool}{oX:Option Nat}{s1' s2':Nat}
  (hm:fE B j3 [(cf,.chan 0 #[] iN s1' s1' bO),(cd,.chan 0 #[] false s2' s2' bZ)] w') (ht:ee j3 [(cf,.chan 0 #[] iN s1' s1' bO),(cd,.chan 0 #[] false s2' s2' bZ)] oX w'.heap.size t')
  (xp:∀ k,k≠i→k≠j→j3 k=th k) (WR:l9 P B cf cd bX i x (j3 i) gi) (OV:l9 P B cf cd bX j y (j3 j) gj) (zN:Ph cf gs.size (cr (cr D j y) i x) iN oX) :
  PI P B cf cd bX (cr (cr D j y) i x) j3 iN oX s1' s2' bO bZ ((gs.setIfInBounds j gj).setIfInBounds i gi) w' t':=by
 refine ⟨h.ne,hm,ht,λ k z hk=>?_,λ k hk=>?_,by simpa using zN,by simpa using h.pos⟩
 ·by_cases zI:k=i
  ·subst zI
   rw [Array.getElem?_setIfInBounds_self_of_lt (by simpa using hi)] at hk; cases hk
   rw [cM]; exact WR
  ·rw [Array.getElem?_setIfInBounds_ne (Ne.symm zI)] at hk
   rw [bN zI]
   by_cases jG:k=j
   ·subst jG
    rw [Array.getElem?_setIfInBounds_self_of_lt hj] at hk; cases hk
    rw [cM]; exact OV
   ·rw [Array.getElem?_setIfInBounds_ne (Ne.symm jG)] at hk
    rw [bN jG,xp k zI jG]; exact h.gM k z hk
 ·have eR:gs.size≤k:=by simpa using hk
  rw [bN (by omega),bN (by omega),xp k (by omega) (by omega)]; exact h.out k eR
theorem PI.own(h:PI P B cf cd bX D th cI cls s1 s2 bO bZ gs w t){i:Nat}{g g':Goroutine}{R R':aE}{H H':an}{w':World}{es:Array Event}{T:Tree}(hi:gs[i]? = some g)(xp:th i=some ⟨R,H⟩)
  (ct:stepG P (i == 0) g w = .go g' w' es) (Cn:∀ e∈es,ia R H w.heap.size w'.heap.size e) (hu:dU B R H w R' H' w') (hs:l9 P B cf cd bX i ((D i).set (some T)) (some ⟨R',H'⟩) g') :
  ∃ fF ops,runT P (crowd gs w sl) i=(.next (crowd fF w' sl),ops)∧fF.size=gs.size∧PI P B cf cd bX (cr D i ((D i).set (some T))) (gN th i (some ⟨R',H'⟩)) cI cls s1 s2 bO bZ fF w' (t++ops):=by
 obtain ⟨hm,ht⟩:=PB h.mem h.tr xp Cn hu g.frame.fn g.frame.place
 have br:=rL hi
 refine ⟨_,_,runT_crowd_go (sl:=sl) hi ct,by simp,h.one br (by simp) (Array.getElem?_setIfInBounds_self_of_lt (by simpa using br)) (λ j hj=>?_) hm ht (λ j hj=>fe hj) (by rw [iB]; exact hs) (h.ph.q λ j=>Q.upd (.inr (.inr ⟨T,rfl⟩)) j)⟩
 rw [Array.getElem?_setIfInBounds_ne (Ne.symm hj),Array.getElem?_map]
 cases lQ:gs[j]? with
 | none=>rfl
 | some x=>rw [Option.map_some,h.again hm lQ]
theorem PI.quit(h:PI P B cf cd bX D th cI cls s1 s2 bO bZ gs w t){i n:Nat}{g g':Goroutine}(hi:gs[i]? = some g)(hd:D i = .lv (n+1))(ct:∀ w,stepG P false g w = .go g' w #[])(hq:QuitsIn P n g') :
  ∃ fF,runT P (crowd gs w sl) i=(.next (crowd fF w sl),#[])∧fF.size=gs.size∧PI P B cf cd bX (cr D i (.lv n)) th cI cls s1 s2 bO bZ fF w t:=by
 have br:=rL hi
 have hs:=h.gM i g hi
 rw [hd] at hs
 obtain ⟨hn,_,dg⟩:=hs
 have kZ:(i == 0)=false:=by simp; omega
 have fS:=runT_crowd_go (P:=P) (sl:=sl) (w:=w) hi (by rw [kZ]; exact ct w)
 rw [ofEvents_none] at fS
 refine ⟨_,fS,by simp,h.one br (by simp) (Array.getElem?_setIfInBounds_self_of_lt (by simpa using br)) (λ j hj=>?_) h.mem h.tr (λ j hj=>rfl) ⟨hn,hq,dg⟩ (h.ph.q λ j=>Q.upd (.inr (.inl ⟨_,_,hd,rfl⟩)) j)⟩
 rw [Array.getElem?_setIfInBounds_ne (Ne.symm hj),Array.getElem?_map]
 cases lQ:gs[j]? with
 | none=>rfl
 | some x=>rw [Option.map_some,h.again h.mem lQ]
theorem PI.part(h:PI P B cf cd bX D th cI cls s1 s2 bO bZ gs w t){i c j k:Nat}{send:Bool}(hp:(j,k)∈partners (gs.setIfInBounds i Go.Conc.ph) c send) :
  j≠i∧k=0∧∃ x,gs[j]? = some x∧((c=cf∧send=true∧∃ v g0 z,D j = .w1 v none∧x=parked (core g0) #[scase cf v z] .send) ∨
  (c=cd∧send=true∧∃ g0 z,D j = .w2 none∧x=parked (core g0) #[scase cd (.bool true) z] .send) ∨
  (c=cd∧send=false∧∃ k g0 z,D j = .cl (k+1) none∧x=parked (core g0) #[rcase cd z] (.recv false)) ∨
  (c=cf∧send=false∧∃ rem g0 z,D j = .mr rem none∧x=parked (core g0) #[rcase cf z] (.recv true))):=by
 obtain ⟨x,hx,hk⟩:=mem_partners.1 hp
 rcases getElem?_stand gs i j x hx with ⟨_,rfl⟩ | ⟨dA,hx⟩
 ·rw [offersAt_ph] at hk; cases hk
 ·obtain ⟨h0,hh⟩:=(h.gM j x hx).offers h.ne hk
  exact ⟨dA,h0,x,hx,hh⟩
theorem ZZ{a b c s cap n:Nat}{f1 f2:FuncId}{p1 p2:String}(hc:c < n) :
  (∀ op∈(#[⟨a,f1,p1,.send c s⟩,⟨b,f2,p2,.recv c s cap⟩,⟨a,f1,p1,.sendDone c s⟩,⟨b,f2,p2,.recvDone c s⟩]:Trace),op.act.touch? = none) ∧
  (∀ op∈(#[⟨a,f1,p1,.send c s⟩,⟨b,f2,p2,.recv c s cap⟩,⟨a,f1,p1,.sendDone c s⟩,⟨b,f2,p2,.recvDone c s⟩]:Trace),op.act.low n) ∧
  Wordless (#[⟨a,f1,p1,.send c s⟩,⟨b,f2,p2,.recv c s cap⟩,⟨a,f1,p1,.sendDone c s⟩,⟨b,f2,p2,.recvDone c s⟩]:Trace):=by
 refine ⟨λ op aJ=>?_,λ op aJ=>?_,λ op aJ m hm=>?_⟩
 all_goals (simp only [List.mem_toArray,List.mem_cons,List.not_mem_nil,or_false] at aJ)
 ·rcases aJ with rfl | rfl | rfl | rfl <;> rfl
 ·rcases aJ with rfl | rfl | rfl | rfl <;> exact hc
 ·rcases aJ with rfl | rfl | rfl | rfl <;> cases hm
theorem fE.aau{s1':Nat}(b7:cf≠cd)(h:fE B th [(cf,.chan 0 #[] cI s1 s1 bO),(cd,.chan 0 #[] false s2 s2 bZ)] w)(iN:Bool) :
  fE B th [(cf,.chan 0 #[] iN s1' s1' bO),(cd,.chan 0 #[] false s2 s2 bZ)] { w with heap:=w.heap.setIfInBounds cf (.chan 0 #[] iN s1' s1' bO) } :=
 h.ahG (c:=cf) (o:=.chan 0 #[] cI s1 s1 bO) (by simp) λ x y lR=>by
  simp only [List.mem_cons,List.not_mem_nil,or_false,Prod.mk.injEq] at lR ⊢
  rcases lR with ⟨rfl,rfl⟩ | ⟨rfl,rfl⟩
  ·exact .inl ⟨rfl,rfl⟩
  ·exact .inr ⟨Ne.symm b7,.inr ⟨rfl,rfl⟩⟩
theorem fE.aLd{s2':Nat}(b7:cf≠cd)(h:fE B th [(cf,.chan 0 #[] cI s1 s1 bO),(cd,.chan 0 #[] false s2 s2 bZ)] w) :
  fE B th [(cf,.chan 0 #[] cI s1 s1 bO),(cd,.chan 0 #[] false s2' s2' bZ)] { w with heap:=w.heap.setIfInBounds cd (.chan 0 #[] false s2' s2' bZ) } :=
 h.ahG (c:=cd) (o:=.chan 0 #[] false s2 s2 bZ) (by simp) λ x y lR=>by
  simp only [List.mem_cons,List.not_mem_nil,or_false,Prod.mk.injEq] at lR ⊢
  rcases lR with ⟨rfl,rfl⟩ | ⟨rfl,rfl⟩
  ·exact .inr ⟨b7,.inl ⟨rfl,rfl⟩⟩
  ·exact .inl ⟨rfl,rfl⟩
theorem ee.NT{n s1' s2':Nat}{iN:Bool}(h:ee th [(cf,.chan 0 #[] cI s1 s1 bO),(cd,.chan 0 #[] false s2 s2 bZ)] cls n t):ee th [(cf,.chan 0 #[] iN s1' s1' bO),(cd,.chan 0 #[] false s2' s2' bZ)] cls n t :=
 h.chs λ x y lR=>by
  simp only [List.mem_cons,List.not_mem_nil,or_false,Prod.mk.injEq] at lR
  rcases lR with ⟨rfl,rfl⟩ | ⟨rfl,rfl⟩
  ·exact ⟨_,by simp; exact .inl rfl⟩
  ·exact ⟨_,List.mem_cons_of_mem _ (List.mem_singleton.2 rfl)⟩
end
end Go.Lg
namespace Go.Lg
open Go.Conc
theorem xQ{a b:Goroutine}{cs cs':Array CommCase}{sh sh':CommShape}(h:parked a cs sh=parked b cs' sh'):cs=cs'∧sh=sh'∧∀ v,Conc.served a v=Conc.served b v:=by
 obtain ⟨f,c,s,d,o⟩:=a
 obtain ⟨f',c',s',d',o'⟩:=b
 simp only [parked,Goroutine.mk.injEq,Option.some.injEq,Prod.mk.injEq] at h
 obtain ⟨rfl,rfl,_,rfl,rfl,rfl⟩:=h
 exact ⟨rfl,rfl,λ _=>rfl⟩
section
variable {P:Program} {B:Base} {cf cd:Nat} {bX:aE→an→Goroutine→Prop} {D:Nat→Dt} {th:Nat→Option Th} {cI:Bool} {cls:Option Nat} {s1 s2:Nat} {bO bZ:Bool} {gs:Array Goroutine} {w:World} {sl:Option (Nat × Nat)} {t:Trace}
def Nx(P:Program)(B:Base)(cf cd:Nat)(bX:aE→an→Goroutine→Prop)(D:Nat→Dt)(bO bZ:Bool)(gs:Array Goroutine)(w:World)(sl:Option (Nat × Nat))(t:Trace)(i:Nat):Prop :=
 ∃ fF w' ops D' j3 iN oX s1' s2',runT P (crowd gs w sl) i=(.next (crowd fF w' sl),ops)∧wO (mu D' fF.size) (mu D gs.size)∧PI P B cf cd bX D' j3 iN oX s1' s2' bO bZ fF w' (t++ops)
theorem PI.D3(h:PI P B cf cd bX D th cI cls s1 s2 bO bZ gs w t){i:Nat}(ha:0 < (D i).act∨(∃ k m,D i = .cl k m)∨(∃ k sp m,D i = .ms k sp m)∧i=0):cI=false∧cls=none:=by
 cases h.ph with
 | mK=>exact ⟨rfl,rfl⟩
 | jM=>exact ⟨rfl,rfl⟩
 | closed h0 hp hc o6 hm =>
  rcases ha with ha | ⟨k,m,e⟩ | ⟨⟨k,sp,m,e⟩,rfl⟩
  ·rw [o6 i] at ha; cases ha
  ·exact absurd e (hc i k m)
  ·rw [h0] at e; cases e
theorem PI.there(h:PI P B cf cd bX D th cI cls s1 s2 bO bZ gs w t){i:Nat}(hd:∀ n,D i ≠ .lv n):∃ g,gs[i]? = some g:=by
 rcases Nat.lt_or_ge i gs.size with br | l3
 ·exact ⟨_,Array.getElem?_eq_getElem br⟩
 ·exact absurd (h.out i l3).2 (hd 0)
theorem PI.ahr(h:PI P B cf cd bX D th cI cls s1 s2 bO bZ gs w t){i:Nat}{rem:List Value}(hd:D i = .mr rem none) :
  i=0∧∃ g0 z y,gs[0]? = some (parked (core g0) #[rcase cf z] (.recv true))∧th 0=some y∧Na P B cf bX rem.length rem y.R y.H (parked (core g0) #[rcase cf z] (.recv true)):=by
 obtain ⟨g,hg⟩:=h.there (i:=i) (by rw [hd]; intro n e; cases e)
 have hs:=h.gM i g hg
 have hl:=hs.look
 rw [hd] at hs hl
 obtain ⟨⟨y,hy,⟨T,e,_⟩ | ⟨_,hp⟩⟩,rfl⟩:=hs
 ·cases e
 rcases hl with ⟨_,T,e⟩ | e | ⟨v,g0,z,e,_⟩ | ⟨g0,z,e,_⟩ | ⟨k,g0,z,e,_⟩ | ⟨ox,g0,z,e,rfl⟩
 ·cases e
 ·exfalso
  have:g.status = .blocked:=by
   generalize rem.length=k at hp
   cases k <;> (obtain ⟨g0,z,_,rfl⟩:=hp; rfl)
  rw [this] at e; cases e
 ·cases e
 ·cases e
 ·cases e
 ·exact ⟨rfl,g0,z,y,hg,hy,hp⟩
theorem PI.aah(h:PI P B cf cd bX D th cI cls s1 s2 bO bZ gs w t){i k:Nat}(hd:D i = .cl k none) :
  ∃ k',k=k'+1∧0 < i∧∃ g0 z y,gs[i]? = some (parked (core g0) #[rcase cd z] (.recv false))∧th i=some y∧AtR P B false cd false (Sz P B (CK P B cf cd k')) Tt z y.R y.H g0:=by
 obtain ⟨g,hg⟩:=h.there (i:=i) (by rw [hd]; intro n e; cases e)
 have hs:=h.gM i g hg
 rw [hd] at hs
 obtain ⟨⟨y,hy,⟨T,e,_⟩ | ⟨_,hp⟩⟩,dg⟩:=hs
 ·cases e
 cases k with
 | zero=>exact hp.elim
 | succ k=>obtain ⟨g0,z,ha,rfl⟩:=hp; exact ⟨k,rfl,dg,g0,z,y,hg,hy,ha⟩
theorem PI.ahs(h:PI P B cf cd bX D th cI cls s1 s2 bO bZ gs w t){i:Nat}{v:Value}(hd:D i = .w1 v none) :
  0 < i∧∃ g0 z y,gs[i]? = some (parked (core g0) #[scase cf v z] .send)∧th i=some y∧E7 P B false cf v (W2 P B cd) z y.R y.H g0:=by
 obtain ⟨g,hg⟩:=h.there (i:=i) (by rw [hd]; intro n e; cases e)
 have hs:=h.gM i g hg
 rw [hd] at hs
 obtain ⟨⟨y,hy,⟨T,e,_⟩ | ⟨_,g0,z,ha,rfl⟩⟩,dg⟩:=hs
 ·cases e
 exact ⟨dg,g0,z,y,hg,hy,ha⟩
theorem PI.aht(h:PI P B cf cd bX D th cI cls s1 s2 bO bZ gs w t){i:Nat}(hd:D i = .w2 none) :
  0 < i∧∃ g0 z y,gs[i]? = some (parked (core g0) #[scase cd (.bool true) z] .send)∧th i=some y∧E7 P B false cd (.bool true) (Lv P) z y.R y.H g0:=by
 obtain ⟨g,hg⟩:=h.there (i:=i) (by rw [hd]; intro n e; cases e)
 have hs:=h.gM i g hg
 rw [hd] at hs
 obtain ⟨⟨y,hy,⟨T,e,_⟩ | ⟨_,g0,z,ha,rfl⟩⟩,dg⟩:=hs
 ·cases e
 exact ⟨dg,g0,z,y,hg,hy,ha⟩
theorem Ps{i j c:Nat}{x:Goroutine}{send:Bool}(hj:gs[j]? = some x)(dA:j≠i)(hk:0∈offersAt x c send):partners (gs.setIfInBounds i Go.Conc.ph) c send≠[]:=by
 intro e
 have:(j,0)∈partners (gs.setIfInBounds i Go.Conc.ph) c send:=mem_partners.2 ⟨x,stand_get dA hj,hk⟩
 rw [e] at this; cases this
theorem vL{n i:Nat}{x:Dt}(hx:x.kM=(D i).kM):eZ (cr D i x) n=eZ D n:=Ee λ j _=>by
 by_cases hj:j=i
 ·subst hj; rw [cM,hx]
 ·rw [bN hj]
theorem wQ{n i:Nat}{x:Dt}(hx:x.act=(D i).act):cX n (λ j=>(cr D i x j).act)=cX n (λ j=>(D j).act):=AI λ j _=>by
 by_cases hj:j=i
 ·subst hj; rw [cM,hx]
 ·rw [bN hj]
theorem PI.ag3(h:PI P B cf cd bX D th cI cls s1 s2 bO bZ gs w t){j:Nat}{v:Value}{m mm:Ms}{rem:List Value}{y y0:Th}(hj:D j = .w1 v m)(h0:D 0 = .mr rem mm)(Dq:th j=some y)(tp:th 0=some y0){g0 gj:Goroutine}
  (hn:W2 P B cd y.R y.H gj) (hg:∀ k,rem.length=k+1→M8 P B rem (m9 P B cf bX k) v y0.R y0.H g0) {u:Trace} (hu:(∀ op∈u,op.act.touch? = none)∧(∀ op∈u,op.act.low w.heap.size)∧Wordless u) (d:Nat) :
  ∃ x0 xj,x0.eh+xj.eh < (D 0).eh+(D j).eh∧j≠0∧j < gs.size ∧
   PI P B cf cd bX (cr (cr D j xj) 0 x0) th cI cls (s1+1) s2 bO bZ ((gs.setIfInBounds j gj).setIfInBounds 0 g0) ((w.at d).setChan cf 0 #[] false (s1+1) (s1+1) bO) (t++u) ∧
   PI P B cf cd bX (cr (cr D 0 x0) j xj) th cI cls (s1+1) s2 bO bZ ((gs.setIfInBounds 0 g0).setIfInBounds j gj) ((w.at d).setChan cf 0 #[] false (s1+1) (s1+1) bO) (t++u):=by
 obtain ⟨rfl,rfl⟩:=h.D3 (i:=j) (.inl (by rw [hj]; exact Nat.one_pos))
 obtain ⟨x,hx⟩:=h.there (i:=j) (by rw [hj]; intro n e; cases e)
 have br:=rL hx
 have gf:j≠0:=by intro e; subst e; rw [h0] at hj; cases hj
 cases h.ph with
 | mK o2=>rw [h0] at o2; cases o2
 | @jM ox m' ic kc mc o2 hp np eW kD hk ql pa =>
  rw [h0] at o2; cases o2
  obtain ⟨T2,hT2⟩:=hn
  have hv:=aib (D:=D) (D':=cr D j (.w2 (some T2))) (i:=j) (v:=v) (by rw [hj]; rfl) (by rw [cM]; rfl) (λ k hk=>by rw [bN hk]) br
  have af2:=hp.symm.trans hv
  have hlen:=af2.length_eq
  simp only [List.length_cons] at hlen
  obtain ⟨T0,FT⟩:=hg _ hlen _ af2
  have afy:ic≠j:=by intro e; subst e; rw [hj] at eW; cases eW
  have OH:ic≠0:=by intro e; subst e; rw [h0] at eW; cases eW
  refine ⟨.mr (eZ (cr D j (.w2 (some T2))) gs.size) (some T0),.w2 (some T2),by rw [h0,hj]; simp only [Dt.eh]; omega,gf,br,?_,?_⟩
  ·have hm:=(h.mem.at d).aau (s1':=s1+1) h.ne false
   refine h.two h.pos br gf hm (show ee _ _ _ _ (t++u) from ?_) (λ _ _ _=>rfl) ⟨⟨y0,tp,.inl ⟨T0,rfl,FT⟩⟩,rfl⟩ ⟨⟨y,Dq,.inl ⟨T2,rfl,hT2⟩⟩,by omega⟩ ?_
   ·have:=(h.tr.mute hu.1 hu.2.1 hu.2.2).NT (s1':=s1+1) (s2':=s2) (iN:=false)
    simpa [World.setChan,World.at] using this
   ·refine .jM (ic:=ic) (kc:=kc) (mc:=mc) (cM _ _ _) ?_ np (by rw [bN OH,bN afy]; exact eW) (λ k k' m e=>?_) ?_ (λ e=>by cases e) (λ e k e'=>?_)
    ·rw [vL (by rw [bN (Ne.symm gf),h0]; rfl)]
    ·by_cases k7:k=0
     ·subst k7; rw [cM] at e; cases e
     ·rw [bN k7] at e
      by_cases jG:k=j
      ·subst jG; rw [cM] at e; cases e
      ·rw [bN jG] at e; exact kD k k' m e
    ·rw [wQ (by rw [bN (Ne.symm gf),h0]; rfl),wQ (by rw [hj]; rfl)]; exact hk
    ·by_cases k7:k=0
     ·subst k7; rw [cM] at e'; cases e'
     ·rw [bN k7] at e'
      by_cases jG:k=j
      ·subst jG; rw [cM] at e'; cases e'
      ·rw [bN jG] at e'; exact pa e k e'
  ·have hm:=(h.mem.at d).aau (s1':=s1+1) h.ne false
   refine h.two br h.pos (Ne.symm gf) hm (show ee _ _ _ _ (t++u) from ?_) (λ _ _ _=>rfl) ⟨⟨y,Dq,.inl ⟨T2,rfl,hT2⟩⟩,by omega⟩ ⟨⟨y0,tp,.inl ⟨T0,rfl,FT⟩⟩,rfl⟩ ?_
   ·have:=(h.tr.mute hu.1 hu.2.1 hu.2.2).NT (s1':=s1+1) (s2':=s2) (iN:=false)
    simpa [World.setChan,World.at] using this
   ·have ec:cr (cr D 0 (.mr (eZ (cr D j (.w2 (some T2))) gs.size) (some T0))) j (.w2 (some T2))=cr (cr D j (.w2 (some T2))) 0 (.mr (eZ (cr D j (.w2 (some T2))) gs.size) (some T0)):=by
     funext k
     by_cases k7:k=0
     ·subst k7; rw [bN (Ne.symm gf),cM,cM]
     ·rw [bN k7 (D:=cr D j _)]
      by_cases jG:k=j
      ·subst jG; rw [cM,cM]
      ·rw [bN jG,bN k7,bN jG]
    rw [ec]
    refine .jM (ic:=ic) (kc:=kc) (mc:=mc) (cM _ _ _) ?_ np (by rw [bN OH,bN afy]; exact eW) (λ k k' m e=>?_) ?_ (λ e=>by cases e) (λ e k e'=>?_)
    ·rw [vL (by rw [bN (Ne.symm gf),h0]; rfl)]
    ·by_cases k7:k=0
     ·subst k7; rw [cM] at e; cases e
     ·rw [bN k7] at e
      by_cases jG:k=j
      ·subst jG; rw [cM] at e; cases e
      ·rw [bN jG] at e; exact kD k k' m e
    ·rw [wQ (by rw [bN (Ne.symm gf),h0]; rfl),wQ (by rw [hj]; rfl)]; exact hk
    ·by_cases k7:k=0
     ·subst k7; rw [cM] at e'; cases e'
     ·rw [bN k7] at e'
      by_cases jG:k=j
      ·subst jG; rw [cM] at e'; cases e'
      ·rw [bN jG] at e'; exact pa e k e'
theorem PI.ag4(h:PI P B cf cd bX D th cI cls s1 s2 bO bZ gs w t){j ic k:Nat}{m mc:Ms}{y yc:Th}(hj:D j = .w2 m)(hc:D ic = .cl (k+1) mc)(Dq:th j=some y)(Zc:th ic=some yc){gc gj:Goroutine}
  (hn:Lv P y.R y.H gj) (hg:Own P B false (CK P B cf cd k) yc.R yc.H gc) {f1 f2:FuncId} {p1 p2:String} (d:Nat) :
  ∃ xc xj,xc.eh+xj.eh < (D ic).eh+(D j).eh∧j≠ic∧j < gs.size∧ic < gs.size ∧
   PI P B cf cd bX (cr (cr D j xj) ic xc) (gN th j none) cI cls s1 (s2+1) bO bZ ((gs.setIfInBounds j gj).setIfInBounds ic gc) ((w.at d).setChan cd 0 #[] false (s2+1) (s2+1) bZ) (t++#[⟨j,f1,p1,.send cd s2⟩,⟨ic,f2,p2,.recv cd s2 0⟩,⟨j,f1,p1,.sendDone cd s2⟩,⟨ic,f2,p2,.recvDone cd s2⟩]) ∧
   PI P B cf cd bX (cr (cr D ic xc) j xj) (gN th j none) cI cls s1 (s2+1) bO bZ ((gs.setIfInBounds ic gc).setIfInBounds j gj) ((w.at d).setChan cd 0 #[] false (s2+1) (s2+1) bZ) (t++#[⟨j,f1,p1,.send cd s2⟩,⟨ic,f2,p2,.recv cd s2 0⟩,⟨j,f1,p1,.sendDone cd s2⟩,⟨ic,f2,p2,.recvDone cd s2⟩]):=by
 obtain ⟨rfl,rfl⟩:=h.D3 (i:=j) (.inl (by rw [hj]; exact Nat.one_pos))
 obtain ⟨x,hx⟩:=h.there (i:=j) (by rw [hj]; intro n e; cases e)
 obtain ⟨xc,hxc⟩:=h.there (i:=ic) (by rw [hc]; intro n e; cases e)
 have br:=rL hx
 have Jv:=rL hxc
 have zE:j≠ic:=by intro e; subst e; rw [hc] at hj; cases hj
 have OV:=h.gM j x hx
 rw [hj] at OV
 have af4:=OV.2
 have OU:=h.gM ic xc hxc
 rw [hc] at OU
 have af3:=OU.2
 cases h.ph with
 | mK o2 hp ga hw=>exact absurd hj (hw j m)
 | @jM rem m' ic' kc mc' h0 hp np eW kD hk ql pa =>
  obtain rfl:=kD ic _ _ hc
  rw [hc] at eW; cases eW
  obtain ⟨n,hq⟩:=hn
  obtain ⟨T,hT⟩:=hg
  have hu:=ZZ (a:=j) (b:=ic) (c:=cd) (s:=s2) (cap:=0) (n:=w.heap.size) (f1:=f1) (f2:=f2) (p1:=p1) (p2:=p2) (ir h.rA)
  have htr:ee (gN th j none) [(cf,.chan 0 #[] false s1 s1 bO),(cd,.chan 0 #[] false (s2+1) (s2+1) bZ)] none w.heap.size (t++#[⟨j,f1,p1,.send cd s2⟩,⟨ic,f2,p2,.recv cd s2 0⟩,⟨j,f1,p1,.sendDone cd s2⟩,⟨ic,f2,p2,.recvDone cd s2⟩]):=by
   refine (h.tr.aJN (i:=j) hu.1 hu.2.1 hu.2.2 λ q hq=>⟨ic,yc,Ne.symm zE,Zc,?_⟩).NT
   exact aG6 (c:=cd) (s:=s2) (h.tr.quiet.append hu.2.2) (p:=t.size) (q:=t.size+3) (Nat.le_refl _) (by simp; rfl) rfl rfl (by simp; rfl) rfl rfl hq
  have hm:=((h.mem.at d).aLd (s2':=s2+1) h.ne).drop (i:=j)
  have zN:∀ D',(∀ k',k'≠ic→k'≠j→D' k'=D k')→D' ic = .cl k (some T)→D' j = .lv n→Ph cf gs.size D' false none:=by
   intro D' hD Of Og
   have hv:eZ D' gs.size=eZ D gs.size:=Ee λ i _=>by
    by_cases h1:i=ic
    ·subst h1; rw [Of,hc]; rfl
    ·by_cases h2:i=j
     ·subst h2; rw [Og,hj]; rfl
     ·rw [hD i h1 h2]
   have ha:cX gs.size (λ i=>(D' i).act)+1=cX gs.size (λ i=>(D i).act):=by
    have:=AJ (f:=λ i=>(D i).act) (g:=λ i=>(D' i).act) br (λ i hi=>by
     by_cases h1:i=ic
     ·subst h1; simp only [Of,hc]; rfl
     ·simp only [hD i h1 hi])
    have e1:(Dt.lv n).act=0:=rfl
    have e2:(Dt.w2 m).act=1:=rfl
    simp only [Og,hj,e1,e2] at this
    omega
   refine .jM (ic:=ic) (kc:=k) (mc:=some T) (by rw [hD 0 (by omega) (by omega)]; exact h0) (hv ▸ hp) np Of (λ i k' m e=>?_) (by omega) (λ e i v e'=>?_) (λ e=>by cases e)
   ·by_cases h1:i=ic
    ·exact h1
    ·by_cases h2:i=j
     ·subst h2; rw [Og] at e; cases e
     ·rw [hD i h1 h2] at e; exact kD i _ _ e
   ·by_cases h1:i=ic
    ·subst h1; rw [Of] at e'; cases e'
    ·by_cases h2:i=j
     ·subst h2; rw [Og] at e'; cases e'
     ·rw [hD i h1 h2] at e'; exact ql e i v e'
  refine ⟨.cl k (some T),.lv n,by rw [hj,hc]; simp only [Dt.eh]; omega,zE,br,Jv,?_,?_⟩
  ·refine h.two Jv br zE hm (show ee _ _ _ _ _ from by simpa [World.setChan,World.at] using htr) (λ i h1 h2=>fe h2) ⟨⟨yc,by rw [fe (Ne.symm zE)]; exact Zc,.inl ⟨T,rfl,hT⟩⟩,af3⟩ ⟨iB _ _ _,hq,af4⟩ ?_
   exact zN _ (λ i h1 h2=>by rw [bN h1,bN h2]) (cM _ _ _) (by rw [bN zE,cM])
  ·refine h.two br Jv (Ne.symm zE) hm (show ee _ _ _ _ _ from by simpa [World.setChan,World.at] using htr) (λ i h1 h2=>fe h1) ⟨iB _ _ _,hq,af4⟩ ⟨⟨yc,by rw [fe (Ne.symm zE)]; exact Zc,.inl ⟨T,rfl,hT⟩⟩,af3⟩ ?_
   exact zN _ (λ i h1 h2=>by rw [bN h2,bN h1]) (by rw [bN (Ne.symm zE),cM]) (cM _ _ _)
end
end Go.Lg
namespace Go.Lg
open Go.Conc
theorem ee.aJM{th:Nat→Option Th}{ch:an}{n i c:Nat}{t:Trace}{y:MemOp}(h:ee th ch none n t)(hy:y.g=i)(oq:y.act = .close c)(hc:c < n):ee (gN th i none) ch (some c) n (t++#[y]):=by
 have hu:∀ op∈#[y],op.act.touch? = none:=λ op aJ=>by simp at aJ; subst aJ; rw [oq]; rfl
 have hw:Wordless #[y]:=λ op aJ m hm=>by simp at aJ; subst aJ; rw [oq] at hm; cases hm
 have hm:=h.mute hu (λ op aJ=>by simp at aJ; subst aJ; rw [oq]; exact hc) hw
 have key:∀ j z,gN th i none j=some z→th j=some z:=λ j z hz=>by
  by_cases hj:j=i
  ·subst hj; rw [iB] at hz; cases hz
  ·rwa [fe hj] at hz
 refine ⟨λ j z hz=>hm.own j z (key j z hz),λ j z hz=>hm.read j z (key j z hz),λ c o hc j z hz=>hm.cY c o hc j z (key j z hz),hm.low,λ k a ob mU=>?_,hm.clean,hm.quiet⟩
 rcases h.all k a (Lj hu ob) mU with ⟨j,z,hz,jm⟩ | ⟨c',p,h1,_⟩
 ·by_cases hj:j=i
  ·subst hj
   have e2:(t++#[y])[t.size]? = some y:=by simp
   exact .inr ⟨c,t.size,rfl,by rw [act?_of e2,oq],.inr (jm.hb_new (Nat.le_refl _) e2 hy)⟩
  ·exact .inl ⟨j,z,by rw [fe hj]; exact hz,jm.app _⟩
 ·cases h1
theorem aLV{th:Nat→Option Th}{i:Nat}{x:Th}(h:th i=some x):gN th i (some x)=th:=by
 funext j
 by_cases hj:j=i
 ·subst hj; rw [iB,h]
 ·rw [fe hj]
section
variable {P:Program} {B:Base} {cf cd:Nat} {bX:aE→an→Goroutine→Prop} {D:Nat→Dt} {th:Nat→Option Th} {cI:Bool} {cls:Option Nat} {s1 s2:Nat} {bO bZ:Bool} {gs:Array Goroutine} {w:World} {sl:Option (Nat × Nat)} {t:Trace} {g:Goroutine} {y:Th}
theorem PI.aLH(h:PI P B cf cd bX D th cI cls s1 s2 bO bZ gs w t){i:Nat}{v:Value}{T:Tree}(hi:gs[i]? = some g)(hd:D i = .w1 v (some T))(dg:0 < i)(hy:th i=some y)(hk:y8 P B cf cd v y.R y.H g):Nx P B cf cd bX D bO bZ gs w sl t i:=by
 obtain ⟨rfl,rfl⟩:=h.D3 (i:=i) (.inl (by rw [hd]; exact Nat.one_pos))
 obtain ⟨z,fS,ct,Jw⟩:=hk
 have kZ:(i == 0)=false:=by simp; omega
 have od:stepG P (i == 0) g w = .comm (core g) #[scase cf v z] true .send w #[]:=by rw [kZ]; exact ct w (h.mem.fits i y hy)
 have br:=rL hi
 by_cases hp:partners (gs.setIfInBounds i Go.Conc.ph) cf false=[]
 ·have hr:=crowd_waits (sl:=sl) hi od (λ cc pH=>by simp at pH; subst pH; exact ways_send_none h.l5 (by simp) hp)
  rw [ofEvents_none] at hr
  refine ⟨_,_,_,cr D i (.w1 v none),th,false,none,s1,s2,hr,?_,?_⟩
  ·simpa using DX (x:=.w1 v none) br (by rw [hd]; rfl) rfl .none (by rw [hd]; rfl)
  ·refine h.one br (by simp) (Array.getElem?_setIfInBounds_self_of_lt br) (λ j hj=>Array.getElem?_setIfInBounds_ne (Ne.symm hj)) h.mem (by simpa using h.tr) (λ _ _=>rfl) ⟨⟨y,hy,.inr ⟨rfl,g,z,⟨fS,ct,Jw⟩,rfl⟩⟩,dg⟩ ?_
   have ev:eZ (cr D i (.w1 v none)) gs.size=eZ D gs.size:=vL (by rw [hd]; rfl)
   have ea:cX gs.size (λ j=>(cr D i (.w1 v none) j).act)=cX gs.size (λ j=>(D j).act):=wQ (by rw [hd]; rfl)
   cases h.ph with
   | mK h0 im ga hw =>
    refine .mK (by rw [bN (by omega)]; exact h0) (ev ▸ im) (λ j k m e=>?_) (λ j m e=>?_)
    ·by_cases hj:j=i
     ·subst hj; rw [cM] at e; cases e
     ·rw [bN hj] at e; exact ga j k m e
    ·by_cases hj:j=i
     ·subst hj; rw [cM] at e; cases e
     ·rw [bN hj] at e; exact hw j m e
   | @jM rem m ic kc mc h0 im np eW kD sV ql pa =>
    refine .jM (ic:=ic) (by rw [bN (by omega)]; exact h0) (ev ▸ im) np (by rw [bN (by intro e; subst e; rw [hd] at eW; cases eW)]; exact eW) (λ j k m e=>?_) (by rw [ea]; exact sV) (λ e=>?_) (λ e j e'=>?_)
    ·by_cases hj:j=i
     ·subst hj; rw [cM] at e; cases e
     ·rw [bN hj] at e; exact kD j k m e
    ·subst e
     obtain ⟨_,g0,z',y0,Co,_⟩:=h.ahr h0
     exact absurd hp (Ps Co (by omega) (by rw [offersAt_parked_recv]; simp))
    ·by_cases hj:j=i
     ·subst hj; rw [cM] at e'; cases e'
     ·rw [bN hj] at e'; exact pa e j e'
 ·obtain ⟨j,gj,zj,shj,d,dA,lQ,hr⟩:=crowd_send_meets_some (sl:=sl) hi od h.l5 hp (λ j k k6=>by
   obtain ⟨h1,h2,x,h3,h4⟩:=h.part k6
   rcases h4 with ⟨_,h4,_⟩ | ⟨_,h4,_⟩ | ⟨h4,_⟩ | ⟨_,_,rem,g0,z0,_,rfl⟩
   ·cases h4
   ·cases h4
   ·exact absurd h4 h.ne
   ·exact ⟨h2,h1,_,_,_,h3⟩)
  obtain ⟨_,CB⟩:=(h.gM j _ lQ).offers h.ne (c:=cf) (send:=false) (k:=0) (by rw [offersAt_parked_recv]; simp)
  rcases CB with ⟨_,h4,_⟩ | ⟨_,h4,_⟩ | ⟨h4,_⟩ | ⟨_,_,rem,g0,z0,sS,he⟩
  ·cases h4
  ·cases h4
  ·exact absurd h4 h.ne
  obtain ⟨_,pI,WQ⟩:=xQ he
  subst pI
  obtain ⟨rfl,zr,Q6,y0,sT,tp,qR⟩:=h.ahr sS
  rw [lQ] at sT
  obtain ⟨_,_,CH⟩:=xQ (Option.some.inj sT)
  rw [finishComm_recv,finishComm_send,ofEvents_none,CH] at hr
  have Wh:=h.ag3 (j:=i) (v:=v) hd sS hy tp (gj:=Conc.served (core g) undef) (g0:=Conc.served (core zr) (recvd true v true)) Jw (λ k hlen=>by
   have:Na P B cf bX (k+1) rem y0.R y0.H (parked (core zr) #[rcase cf Q6] (.recv true)):=hlen ▸ qR
   obtain ⟨g1,z1,ha,e1⟩:=this
   obtain ⟨_,_,vi⟩:=xQ e1
   rw [vi]; exact ha.2.2.1 v) (ZZ (a:=i) (b:=0) (s:=s1) (cap:=0) (f1:=(core g).frame.fn) (f2:=gj.frame.fn) (p1:=(core g).frame.place) (p2:=gj.frame.place) (ir h.l5)) d
  obtain ⟨x0,xj,WA,_,_,_,hP⟩:=Wh
  refine ⟨_,_,_,_,_,_,_,_,_,hr,?_,by simpa using hP⟩
  simpa using K6 (x:=xj) (y:=x0) br h.pos dA (by omega)
theorem PI.aLI(h:PI P B cf cd bX D th cI cls s1 s2 bO bZ gs w t){i:Nat}{T:Tree}(hi:gs[i]? = some g)(hd:D i = .w2 (some T))(dg:0 < i)(hy:th i=some y)(hk:y9 P B cd y.R y.H g):Nx P B cf cd bX D bO bZ gs w sl t i:=by
 obtain ⟨rfl,rfl⟩:=h.D3 (i:=i) (.inl (by rw [hd]; exact Nat.one_pos))
 obtain ⟨z,fS,ct,Jw⟩:=hk
 have kZ:(i == 0)=false:=by simp; omega
 have od:stepG P (i == 0) g w = .comm (core g) #[scase cd (.bool true) z] true .send w #[]:=by rw [kZ]; exact ct w (h.mem.fits i y hy)
 have br:=rL hi
 by_cases hp:partners (gs.setIfInBounds i Go.Conc.ph) cd false=[]
 ·have hr:=crowd_waits (sl:=sl) hi od (λ cc pH=>by simp at pH; subst pH; exact ways_send_none h.rA (by simp) hp)
  rw [ofEvents_none] at hr
  refine ⟨_,_,_,cr D i (.w2 none),th,false,none,s1,s2,hr,?_,?_⟩
  ·simpa using DX (x:=.w2 none) br (by rw [hd]; rfl) rfl .none (by rw [hd]; rfl)
  ·refine h.one br (by simp) (Array.getElem?_setIfInBounds_self_of_lt br) (λ j hj=>Array.getElem?_setIfInBounds_ne (Ne.symm hj)) h.mem (by simpa using h.tr) (λ _ _=>rfl) ⟨⟨y,hy,.inr ⟨rfl,g,z,⟨fS,ct,Jw⟩,rfl⟩⟩,dg⟩ ?_
   have ev:eZ (cr D i (.w2 none)) gs.size=eZ D gs.size:=vL (by rw [hd]; rfl)
   have ea:cX gs.size (λ j=>(cr D i (.w2 none) j).act)=cX gs.size (λ j=>(D j).act):=wQ (by rw [hd]; rfl)
   cases h.ph with
   | mK h0 im ga hw=>exact absurd hd (hw i _)
   | @jM rem m ic kc mc h0 im np eW kD sV ql pa =>
    refine .jM (ic:=ic) (by rw [bN (by omega)]; exact h0) (ev ▸ im) np (by rw [bN (by intro e; subst e; rw [hd] at eW; cases eW)]; exact eW) (λ j k m e=>?_) (by rw [ea]; exact sV) (λ e j v e'=>?_) (λ e=>?_)
    ·by_cases hj:j=i
     ·subst hj; rw [cM] at e; cases e
     ·rw [bN hj] at e; exact kD j k m e
    ·by_cases hj:j=i
     ·subst hj; rw [cM] at e'; cases e'
     ·rw [bN hj] at e'; exact ql e j v e'
    ·subst e
     obtain ⟨_,_,_,g0,z',y0,Co,_⟩:=h.aah eW
     exact absurd hp (Ps Co (by intro e; subst e; rw [hd] at eW; cases eW) (by rw [offersAt_parked_recv]; simp))
 ·obtain ⟨j,gj,zj,shj,d,dA,lQ,hr⟩:=crowd_send_meets_some (sl:=sl) hi od h.rA hp (λ j k k6=>by
   obtain ⟨h1,h2,x,h3,h4⟩:=h.part k6
   rcases h4 with ⟨_,h4,_⟩ | ⟨_,h4,_⟩ | ⟨_,_,rem,g0,z0,_,rfl⟩ | ⟨h4,_⟩
   ·cases h4
   ·cases h4
   ·exact ⟨h2,h1,_,_,_,h3⟩
   ·exact absurd h4.symm h.ne)
  obtain ⟨_,CB⟩:=(h.gM j _ lQ).offers h.ne (c:=cd) (send:=false) (k:=0) (by rw [offersAt_parked_recv]; simp)
  rcases CB with ⟨_,h4,_⟩ | ⟨_,h4,_⟩ | ⟨_,_,k',g0,z0,sS,he⟩ | ⟨h4,_⟩
  ·cases h4
  ·cases h4
  rotate_left
  ·exact absurd h4.symm h.ne
  obtain ⟨_,pI,WQ⟩:=xQ he
  subst pI
  obtain ⟨ot,aYX,_,zr,Q6,y0,sT,tp,ha⟩:=h.aah sS
  obtain rfl:k'=ot:=by omega
  rw [lQ] at sT
  obtain ⟨_,_,CH⟩:=xQ (Option.some.inj sT)
  rw [finishComm_recv,finishComm_send,ofEvents_none,CH] at hr
  obtain ⟨xc,xj,WA,_,_,Jv,_,hP⟩:=h.ag4 (j:=i) hd sS hy tp (gj:=Conc.served (core g) undef) (gc:=Conc.served (core zr) (recvd false (.bool true) true)) Jw (ha.2.2.1 _) (f1:=(core g).frame.fn) (f2:=gj.frame.fn) (p1:=(core g).frame.place) (p2:=gj.frame.place) d
  refine ⟨_,_,_,_,_,_,_,_,_,hr,?_,by simpa using hP⟩
  simpa using K6 (x:=xj) (y:=xc) br Jv dA (by omega)
theorem PI.aLC(h:PI P B cf cd bX D th cI cls s1 s2 bO bZ gs w t){i k:Nat}{T:Tree}(hi:gs[i]? = some g)(hd:D i = .cl (k+1) (some T))(dg:0 < i)(hy:th i=some y)(hk:CK P B cf cd (k+1) y.R y.H g):Nx P B cf cd bX D bO bZ gs w sl t i:=by
 obtain ⟨rfl,rfl⟩:=h.D3 (i:=i) (.inr (.inl ⟨_,_,hd⟩))
 obtain ⟨z,fS,ct,afx,Cu⟩:=hk
 have kZ:(i == 0)=false:=by simp; omega
 have od:stepG P (i == 0) g w = .comm (core g) #[rcase cd z] true (.recv false) w #[]:=by rw [kZ]; exact ct w (h.mem.fits i y hy)
 have br:=rL hi
 by_cases hp:partners (gs.setIfInBounds i Go.Conc.ph) cd true=[]
 ·have hr:=crowd_waits (sl:=sl) hi od (λ cc pH=>by simp at pH; subst pH; exact ways_recv_none h.rA hp)
  rw [ofEvents_none] at hr
  refine ⟨_,_,_,cr D i (.cl (k+1) none),th,false,none,s1,s2,hr,?_,?_⟩
  ·simpa using DX (x:=.cl (k+1) none) br (by rw [hd]; rfl) rfl .none (by rw [hd]; rfl)
  ·refine h.one br (by simp) (Array.getElem?_setIfInBounds_self_of_lt br) (λ j hj=>Array.getElem?_setIfInBounds_ne (Ne.symm hj)) h.mem (by simpa using h.tr) (λ _ _=>rfl) ⟨⟨y,hy,.inr ⟨rfl,g,z,⟨fS,ct,afx,Cu⟩,rfl⟩⟩,dg⟩ ?_
   have ev:eZ (cr D i (.cl (k+1) none)) gs.size=eZ D gs.size:=vL (by rw [hd]; rfl)
   have ea:cX gs.size (λ j=>(cr D i (.cl (k+1) none) j).act)=cX gs.size (λ j=>(D j).act):=wQ (by rw [hd]; rfl)
   cases h.ph with
   | mK h0 im ga hw=>exact absurd hd (ga i _ _)
   | @jM rem m ic kc mc h0 im np eW kD sV ql pa =>
    obtain rfl:=kD i _ _ hd
    rw [hd] at eW; cases eW
    refine .jM (ic:=i) (by rw [bN (by omega)]; exact h0) (ev ▸ im) np (cM _ _ _) (λ j k' m e=>?_) (by rw [ea]; exact sV) (λ e j v e'=>?_) (λ e j e'=>?_)
    ·by_cases hj:j=i
     ·exact hj
     ·rw [bN hj] at e; exact kD j k' m e
    ·by_cases hj:j=i
     ·subst hj; rw [cM] at e'; cases e'
     ·rw [bN hj] at e'; exact ql e j v e'
    ·by_cases hj:j=i
     ·subst hj; rw [cM] at e'; cases e'
     ·rw [bN hj] at e'
      obtain ⟨_,g0,z',y0,Co,_⟩:=h.aht e'
      exact absurd hp (Ps Co hj (by rw [offersAt_parked_send]; simp))
 ·obtain ⟨j,gj,vj,zj,shj,d,dA,lQ,hr⟩:=crowd_recv_meets_some (sl:=sl) hi od h.rA hp (λ j k k6=>by
   obtain ⟨h1,h2,x,h3,h4⟩:=h.part k6
   rcases h4 with ⟨h4,_⟩ | ⟨_,_,g0,z0,_,rfl⟩ | ⟨_,h4,_⟩ | ⟨h4,_⟩
   ·exact absurd h4.symm h.ne
   ·exact ⟨h2,h1,_,_,_,_,h3⟩
   ·cases h4
   ·exact absurd h4.symm h.ne)
  obtain ⟨_,CB⟩:=(h.gM j _ lQ).offers h.ne (c:=cd) (send:=true) (k:=0) (by rw [offersAt_parked_send]; simp)
  rcases CB with ⟨h4,_⟩ | ⟨_,_,g0,z0,sS,he⟩ | ⟨_,h4,_⟩ | ⟨h4,_⟩
  ·exact absurd h4.symm h.ne
  rotate_left
  ·cases h4
  ·exact absurd h4.symm h.ne
  obtain ⟨_,pI,WQ⟩:=xQ he
  subst pI
  obtain ⟨_,zr,Q6,yj,sT,Dq,ha⟩:=h.aht sS
  rw [lQ] at sT
  obtain ⟨_,_,CH⟩:=xQ (Option.some.inj sT)
  rw [finishComm_recv,finishComm_send,ofEvents_none,CH] at hr
  obtain ⟨xc,xj,WA,_,Wg,_,hP,_⟩:=h.ag4 (j:=j) sS hd Dq hy (gj:=Conc.served (core zr) undef) (gc:=Conc.served (core g) (recvd false vj true)) ha.2.2 (afx _) (f1:=gj.frame.fn) (f2:=(core g).frame.fn) (p1:=gj.frame.place) (p2:=(core g).frame.place) d
  refine ⟨_,_,_,_,_,_,_,_,_,hr,?_,by simpa using hP⟩
  simpa using K6 (x:=xc) (y:=xj) br Wg dA (by omega)
theorem PI.aLD(h:PI P B cf cd bX D th cI cls s1 s2 bO bZ gs w t){i:Nat}{T:Tree}(hi:gs[i]? = some g)(hd:D i = .cl 0 (some T))(dg:0 < i)(hy:th i=some y)(hk:CK P B cf cd 0 y.R y.H g):Nx P B cf cd bX D bO bZ gs w sl t i:=by
 obtain ⟨rfl,rfl⟩:=h.D3 (i:=i) (.inr (.inl ⟨_,_,hd⟩))
 obtain ⟨fS,hmw,g',n,ct,hq⟩:=hk
 have kZ:(i == 0)=false:=by simp; omega
 have br:=rL hi
 have od:=ct w s1 s1 bO (h.mem.fits i y hy) h.l5
 have hr:=runT_crowd_go (P:=P) (sl:=sl) hi (by rw [kZ]; exact od)
 cases h.ph with
 | mK h0 im ga hw=>exact absurd hd (ga i _ _)
 | @jM rem m ic kc mc h0 im np eW kD sV ql pa =>
  obtain rfl:=kD i _ _ hd
  rw [hd] at eW; cases eW
  have hz:=adf sV.symm
  have o6:∀ j,(D j).act=0:=λ j=>by
   rcases Nat.lt_or_ge j gs.size with hj | hj
   ·exact hz j hj
   ·rw [(h.out j hj).2]; rfl
  obtain ⟨x0,s8⟩:=h.there (i:=0) (by rw [h0]; intro n e; cases e)
  have H8:=h.gM 0 x0 s8
  rw [h0] at H8
  have hlen:rem.length=0:=by
   have h1:=im.length_eq
   have h2:=aaT (D:=D) (n:=gs.size)
   omega
  have Ck:(w.shut cf s1 s1 bO).heap[cf]? = some (.chan 0 #[] true s1 s1 bO):=by
   have:=ir h.l5
   simp [World.shut,this]
  obtain ⟨T0,azl⟩:∃ T0,l9 P B cf cd bX 0 (.mr rem (some T0)) (th 0) (woken P g g' (w.shut cf s1 s1 bO) x0):=by
   obtain ⟨⟨y0,tp,⟨T0,rfl,h1⟩ | ⟨rfl,h1⟩⟩,_⟩:=H8
   ·refine ⟨T0,⟨y0,tp,.inl ⟨T0,rfl,?_⟩⟩,rfl⟩
    unfold woken
    split
    ·rw [again_running _ (.inl (h1.rU λ _ _ _=>m9.run))]; exact h1
    ·exact h1
   ·refine ⟨.node Empty Empty.elim,⟨y0,tp,.inl ⟨_,rfl,.inl ?_⟩⟩,rfl⟩
    rw [hlen] at h1 ⊢
    obtain ⟨g0,z,ha,rfl⟩:=h1
    have L9:g'.status = .running∨g'.status = .finished:=hq.status
    have hw:woken P g g' (w.shut cf s1 s1 bO) (parked (core g0) #[rcase cf z] (.recv true))={ parked (core g0) #[rcase cf z] (.recv true) with status:=.running }:=by
     unfold woken
     rw [if_pos]
     ·exact again_parked_shut rfl Ck
     ·rcases L9 with e | e <;> simp [hmw,e]
    rw [hw]
    have asz:∀ v,Conc.served (core { parked (core g0) #[rcase cf z] (.recv true) with status:=.running }) v=Conc.served (core g0) v:=λ v=>rfl
    refine ⟨z,rfl,λ w hw=>?_,λ v=>?_,?_⟩
    ·exact (stepG_same rfl rfl rfl w).trans (ha.2.1 w hw)
    ·exact trivial
    ·rw [asz]; exact ha.2.2.2
  have asu:(gs.map (woken P g g' (w.shut cf s1 s1 bO))).setIfInBounds i g'=(gs.setIfInBounds 0 (woken P g g' (w.shut cf s1 s1 bO) x0)).setIfInBounds i g':=by
   apply Array.ext_getElem?
   intro k
   by_cases zI:k=i
   ·subst zI
    rw [Array.getElem?_setIfInBounds_self_of_lt (by simpa using br),Array.getElem?_setIfInBounds_self_of_lt (by simpa using br)]
   ·rw [Array.getElem?_setIfInBounds_ne (Ne.symm zI),Array.getElem?_setIfInBounds_ne (Ne.symm zI),Array.getElem?_map]
    by_cases k7:k=0
    ·subst k7
     rw [Array.getElem?_setIfInBounds_self_of_lt h.pos,s8]; rfl
    ·rw [Array.getElem?_setIfInBounds_ne (Ne.symm k7)]
     cases hgk:gs[k]? with
     | none=>rfl
     | some x =>
      rw [Option.map_some]
      congr 1
      have rA:(w.shut cf s1 s1 bO).heap[cd]? = some (.chan 0 #[] false s2 s2 bZ):=by
       rw [← h.rA]
       exact Array.getElem?_setIfInBounds_ne h.ne
      refine (h.gM k x hgk).again rA (.inr ⟨λ v e=>?_,λ rem e=>?_⟩) (s1:=s1) (bO:=bO)
      ·have:=o6 k; rw [e] at this; cases this
      ·have hsk:=h.gM k x hgk
       rw [e] at hsk
       exact k7 hsk.2
  rw [asu] at hr
  refine ⟨_,_,_,cr (cr D 0 (.mr rem (some T0))) i (.lv n),gN th i none,true,some cf,s1,s2,hr,?_,?_⟩
  ·simpa using K6 (x:=.lv n) (y:=.mr rem (some T0)) br h.pos (by omega) (by rw [hd,h0]; simp only [Dt.eh]; omega)
  ·have hm:=(h.mem.aau (s1':=s1) h.ne true).drop (i:=i)
   have afz:cf < w.heap.size:=ir h.l5
   have ht1:=ee.app (u:=#[(⟨i,g.frame.fn,g.frame.place,.access ⟨.obj cf,false,true⟩⟩:MemOp)]) h.mem rfl h.tr hy (R':=y.R) (H':=y.H) (n':=w.heap.size) (by simp)
    (λ op aJ a ha=>by
     simp at aJ; subst aJ
     simp [MemAct.touch?] at ha; subst ha
     exact ⟨cf,rfl,.inr (.inr (.inr ⟨rfl,_,List.mem_cons_self⟩))⟩)
    (λ op aJ=>by simp at aJ; subst aJ; exact afz) (λ op aJ m hm=>by simp at aJ; subst aJ; cases hm) (Nat.le_refl _) (λ b o x=>.inl x) (λ b o x=>.inl ⟨o,x⟩)
   rw [aLV hy] at ht1
   have ht2:=(ht1.aJM (y:=⟨i,g.frame.fn,g.frame.place,.close cf⟩) rfl rfl afz).NT (s1':=s1) (s2':=s2) (iN:=true)
   have ayc:t++MemOp.ofEvents i g.frame.fn g.frame.place #[⟨.obj cf,false,true⟩,⟨.obj cf,true,true⟩]=(t++#[(⟨i,g.frame.fn,g.frame.place,.access ⟨.obj cf,false,true⟩⟩:MemOp)])++#[⟨i,g.frame.fn,g.frame.place,.close cf⟩]:=by
    rw [ofEvents_eq,Array.append_assoc]; congr 1; simp [MemAct.ofEvent]
   rw [ayc]
   refine h.two br h.pos (by omega) hm (by simpa [World.shut] using ht2) (λ k h1 h2=>fe h1) ⟨iB _ _ _,hq,dg⟩ (by rw [fe (by omega)]; exact azl) ?_
   have JN:rem=[]:=List.length_eq_zero_iff.1 hlen
   refine .closed (rem:=rem) (m:=some T0) (by rw [bN (by omega),cM]) ?_ (λ j k m e=>?_) (λ j=>?_) (by simp)
   ·rw [vL (by rw [bN (by omega),hd]; rfl),vL (by rw [h0]; rfl)]; exact im
   ·by_cases hj:j=i
    ·subst hj; rw [cM] at e; cases e
    ·rw [bN hj] at e
     by_cases gf:j=0
     ·subst gf; rw [cM] at e; cases e
     ·rw [bN gf] at e; exact hj (kD j k m e)
   ·by_cases hj:j=i
    ·subst hj; rw [cM]; rfl
    ·rw [bN hj]
     by_cases gf:j=0
     ·subst gf; rw [cM]; rfl
     ·rw [bN gf]; exact o6 j
end
end Go.Lg
namespace Go.Lg
open Go.Conc
section
variable {P:Program} {B:Base} {cf cd:Nat} {bX:aE→an→Goroutine→Prop} {D:Nat→Dt} {th:Nat→Option Th} {cI:Bool} {cls:Option Nat} {s1 s2:Nat} {bO bZ:Bool} {gs:Array Goroutine} {w:World} {sl:Option (Nat × Nat)} {t:Trace} {g:Goroutine} {y:Th}
theorem PI.add(h:PI P B cf cd bX D th cI cls s1 s2 bO bZ gs w t){g' child:Goroutine}{x z:Dt}{f1 f2:FuncId}{p1 p2:String}(hy:th 0=some y)(hsx:l9 P B cf cd bX 0 x (some y) g')(rF:l9 P B cf cd bX gs.size z (some ⟨y.R,[]⟩) child)
  (zN:Ph cf (gs.size+1) (cr (cr D gs.size z) 0 x) cI cls) :
  PI P B cf cd bX (cr (cr D gs.size z) 0 x) (gN th gs.size (some ⟨y.R,[]⟩)) cI cls s1 s2 bO bZ ((gs.setIfInBounds 0 g').push child) w (t++#[⟨0,f1,p1,.go gs.size⟩,⟨gs.size,f2,p2,.start⟩]):=by
 have hn:=h.out gs.size (Nat.le_refl _)
 have h0n:(0:Nat)≠gs.size:=by have:=h.pos; omega
 have hu:∀ op∈(#[⟨0,f1,p1,.go gs.size⟩,⟨gs.size,f2,p2,.start⟩]:Trace),op.act.touch? = none:=λ op aJ=>by
  simp only [List.mem_toArray,List.mem_cons,List.not_mem_nil,or_false] at aJ
  rcases aJ with rfl | rfl <;> rfl
 have hl:∀ op∈(#[⟨0,f1,p1,.go gs.size⟩,⟨gs.size,f2,p2,.start⟩]:Trace),op.act.low w.heap.size:=λ op aJ=>by
  simp only [List.mem_toArray,List.mem_cons,List.not_mem_nil,or_false] at aJ
  rcases aJ with rfl | rfl <;> trivial
 have hw:Wordless (#[⟨0,f1,p1,.go gs.size⟩,⟨gs.size,f2,p2,.start⟩]:Trace):=λ op aJ m hm=>by
  simp only [List.mem_toArray,List.mem_cons,List.not_mem_nil,or_false] at aJ
  rcases aJ with rfl | rfl <;> cases hm
 refine ⟨h.ne,h.mem.add hy (λ _ _ e=>e),h.tr.aJL hu hl hw hy (λ _ _ e=>e) hn.1 (λ k hk=>aG7 (h.tr.quiet.append hw) rfl rfl rfl rfl hk),λ j v hj=>?_,λ j hj=>?_,by simpa using zN,by simp⟩
 ·rw [Array.getElem?_push] at hj
  split at hj
  ·rename_i e
   have e:j=gs.size:=by simpa using e
   cases hj; subst e
   rw [bN (Ne.symm h0n),cM,iB]; exact rF
  ·rename_i e
   have e:j≠gs.size:=by simpa using e
   by_cases gf:j=0
   ·subst gf
    rw [Array.getElem?_setIfInBounds_self_of_lt h.pos] at hj; cases hj
    rw [cM,fe h0n,hy]; exact hsx
   ·rw [Array.getElem?_setIfInBounds_ne (Ne.symm gf)] at hj
    rw [bN gf,bN e,fe e]; exact h.gM j v hj
 ·have xd:gs.size+1≤j:=by simpa using hj
  rw [bN (by omega),bN (by omega),fe (by omega)]; exact h.out j (by omega)
theorem PI.aLG(h:PI P B cf cd bX D th cI cls s1 s2 bO bZ gs w t){k:Nat}{sp:List Value}{T:Tree}(hi:gs[0]? = some g)(hd:D 0 = .ms k sp (some T))(hy:th 0=some y)(hk:rk P B cf cd bX k sp y.R y.H g):Nx P B cf cd bX D bO bZ gs w sl t 0:=by
 obtain ⟨rfl,rfl⟩:=h.D3 (i:=0) (.inr (.inr ⟨⟨_,_,_,hd⟩,rfl⟩))
 have dg:=h.pos
 cases h.ph with
 | jM h0=>rw [hd] at h0; cases h0
 | mK h0 im ga hw =>
  rw [hd] at h0; cases h0
  cases k with
  | succ k =>
   obtain ⟨fS,ct⟩:=hk
   obtain ⟨g',child,v,JO,⟨T1,Vi⟩,T0,FT⟩:=ct w (h.mem.fits 0 y hy)
   have hr:=runT_crowd_spawn (sl:=sl) hi (show stepG P (0 == 0) g w=_ from JO)
   rw [ofEvents_none] at hr
   refine ⟨_,_,_,_,_,false,none,s1,s2,hr,?_,h.add (x:=.ms k (v::sp) (some T0)) (z:=.w1 v (some T1)) hy ⟨⟨y,rfl,.inl ⟨T0,rfl,FT⟩⟩,rfl⟩ ⟨⟨_,rfl,.inl ⟨T1,rfl,Vi⟩⟩,dg⟩ ?_⟩
   ·simpa using ag6 (x:=.ms k (v::sp) (some T0)) (y:=.w1 v (some T1)) dg (by rw [hd]; simp only [Dt.eh,List.length_cons]; omega)
   ·refine .mK (cM _ _ _) ?_ (λ j k' m e=>?_) (λ j m e=>?_)
    ·rw [vL (by rw [bN (by omega),hd]; rfl),tX,cM,Ee (D:=D) (λ j hj=>by rw [bN (by omega)])]
     exact List.Perm.cons v im
    ·by_cases gf:j=0
     ·subst gf; rw [cM] at e; cases e
     ·rw [bN gf] at e
      by_cases zG:j=gs.size
      ·subst zG; rw [cM] at e; cases e
      ·rw [bN zG] at e; exact ga j k' m e
    ·by_cases gf:j=0
     ·subst gf; rw [cM] at e; cases e
     ·rw [bN gf] at e
      by_cases zG:j=gs.size
      ·subst zG; rw [cM] at e; cases e
      ·rw [bN zG] at e; exact hw j m e
  | zero =>
   obtain ⟨fS,ct⟩:=hk
   obtain ⟨g',child,JO,⟨T1,Vi⟩,T0,FT⟩:=ct w (h.mem.fits 0 y hy)
   have hr:=runT_crowd_spawn (sl:=sl) hi (show stepG P (0 == 0) g w=_ from JO)
   rw [ofEvents_none] at hr
   refine ⟨_,_,_,_,_,false,none,s1,s2,hr,?_,h.add (x:=.mr sp (some T0)) (z:=.cl sp.length (some T1)) hy ⟨⟨y,rfl,.inl ⟨T0,rfl,FT⟩⟩,rfl⟩ ⟨⟨_,rfl,.inl ⟨T1,rfl,Vi⟩⟩,dg⟩ ?_⟩
   ·simpa using ag6 (x:=.mr sp (some T0)) (y:=.cl sp.length (some T1)) dg (by rw [hd]; simp only [Dt.eh]; omega)
   ·have ev:eZ (cr (cr D gs.size (.cl sp.length (some T1))) 0 (.mr sp (some T0))) (gs.size+1)=eZ D gs.size:=by
     rw [vL (by rw [bN (by omega),hd]; rfl),tX,cM,Ee (D:=D) (λ j hj=>by rw [bN (by omega)])]
     rfl
    refine .jM (ic:=gs.size) (kc:=sp.length) (mc:=some T1) (cM _ _ _) (by rw [ev]; exact im) (by omega) (by rw [bN (by omega),cM]) (λ j k' m e=>?_) ?_ (λ e=>by cases e) (λ e=>by cases e)
    ·by_cases gf:j=0
     ·subst gf; rw [cM] at e; cases e
     ·rw [bN gf] at e
      by_cases zG:j=gs.size
      ·exact zG
      ·rw [bN zG] at e; exact absurd e (ga j k' m)
    ·rw [wQ (by rw [bN (by omega),hd]; rfl)]
     have e1:=aia (D:=D) (n:=gs.size) (λ i m _=>hw i m)
     have e2:=im.length_eq
     have e3:cX gs.size (λ j=>(cr D gs.size (.cl sp.length (some T1)) j).act)=cX gs.size (λ j=>(D j).act):=AI λ j hj=>by rw [bN (by omega)]
     have e4:(cr D gs.size (.cl sp.length (some T1)) gs.size).act=0:=by rw [cM]; rfl
     simp only [cX,e3,e4]
     omega
theorem aJV(h:PI P B cf cd bX D th cI cls s1 s2 bO bZ gs w t){i:Nat}(hz:∀ j,(D j).act=0):partners (gs.setIfInBounds i Go.Conc.ph) cf true=[]:=by
 apply List.eq_nil_iff_forall_not_mem.2
 rintro ⟨j,k⟩ hm
 obtain ⟨_,_,x,_,h4⟩:=h.part hm
 rcases h4 with ⟨_,_,v,g0,z,e,_⟩ | ⟨h4,_⟩ | ⟨_,h4,_⟩ | ⟨_,h4,_⟩
 ·have:=hz j; rw [e] at this; cases this
 ·exact h.ne h4
 ·cases h4
 ·cases h4
theorem PI.aLF(h:PI P B cf cd bX D th false none s1 s2 bO bZ gs w t){rem:List Value}{T:Tree}(hi:gs[0]? = some g)(hd:D 0 = .mr rem (some T))(hy:th 0=some y)(hk:m9 P B cf bX rem.length rem y.R y.H g):Nx P B cf cd bX D bO bZ gs w sl t 0:=by
 have dg:=h.pos
 obtain ⟨z,wH,Nil,eR,qR⟩:∃ z wH Nil,AtR P B true cf true wH Nil z y.R y.H g∧((∀ k,rem.length=k+1→∀ v,M8 P B rem (m9 P B cf bX k) v y.R y.H (Conc.served (core g) (recvd true v true)))∧Na P B cf bX rem.length rem y.R y.H (parked (core g) #[rcase cf z] (.recv true))):=by
  generalize rem.length=n at hk
  cases n with
  | zero=>obtain ⟨z,hk⟩:=hk; exact ⟨z,_,_,hk,λ k e=>(by cases e),g,z,hk,rfl⟩
  | succ n=>obtain ⟨z,hk⟩:=hk; exact ⟨z,_,_,hk,λ k e v=>(by cases e; exact hk.2.2.1 v),g,z,hk,rfl⟩
 have ct:stepG P (0 == 0) g w = .comm (core g) #[rcase cf z] true (.recv true) w #[]:=eR.2.1 w (h.mem.fits 0 y hy)
 by_cases hp:partners (gs.setIfInBounds 0 Go.Conc.ph) cf true=[]
 ·have hr:=crowd_waits (sl:=sl) hi ct (λ cc pH=>by simp at pH; subst pH; exact ways_recv_none h.l5 hp)
  rw [ofEvents_none] at hr
  refine ⟨_,_,_,cr D 0 (.mr rem none),th,false,none,s1,s2,hr,?_,?_⟩
  ·simpa using DX (x:=.mr rem none) dg (by rw [hd]; rfl) rfl .none (by rw [hd]; rfl)
  ·refine h.one dg (by simp) (Array.getElem?_setIfInBounds_self_of_lt dg) (λ j hj=>Array.getElem?_setIfInBounds_ne (Ne.symm hj)) h.mem (by simpa using h.tr) (λ _ _=>rfl) ⟨⟨y,hy,.inr ⟨rfl,qR.2⟩⟩,rfl⟩ ?_
   have ev:eZ (cr D 0 (.mr rem none)) gs.size=eZ D gs.size:=vL (by rw [hd]; rfl)
   have ea:cX gs.size (λ j=>(cr D 0 (.mr rem none) j).act)=cX gs.size (λ j=>(D j).act):=wQ (by rw [hd]; rfl)
   cases h.ph with
   | mK h0 im ga hw=>rw [hd] at h0; cases h0
   | @jM ox m ic kc mc h0 im np eW kD sV ql pa =>
    rw [hd] at h0; cases h0
    have OH:ic≠0:=by intro e; subst e; rw [hd] at eW; cases eW
    refine .jM (ic:=ic) (cM _ _ _) (ev ▸ im) np (by rw [bN OH]; exact eW) (λ j k' m e=>?_) (by rw [ea]; exact sV) (λ e j v e'=>?_) (λ e j e'=>?_)
    ·by_cases hj:j=0
     ·subst hj; rw [cM] at e; cases e
     ·rw [bN hj] at e; exact kD j k' m e
    ·by_cases hj:j=0
     ·subst hj; rw [cM] at e'; cases e'
     ·rw [bN hj] at e'
      obtain ⟨_,g0,z',y0,Co,_⟩:=h.ahs e'
      exact absurd hp (Ps Co hj (by rw [offersAt_parked_send]; simp))
    ·by_cases hj:j=0
     ·subst hj; rw [cM] at e'; cases e'
     ·rw [bN hj] at e'; exact pa e j e'
 ·obtain ⟨j,gj,vj,zj,shj,d,dA,lQ,hr⟩:=crowd_recv_meets_some (sl:=sl) hi ct h.l5 hp (λ j k k6=>by
   obtain ⟨h1,h2,x,h3,h4⟩:=h.part k6
   rcases h4 with ⟨_,_,v,g0,z0,_,rfl⟩ | ⟨h4,_⟩ | ⟨_,h4,_⟩ | ⟨_,h4,_⟩
   ·exact ⟨h2,h1,_,_,_,_,h3⟩
   ·exact absurd h4 h.ne
   ·cases h4
   ·cases h4)
  obtain ⟨_,CB⟩:=(h.gM j _ lQ).offers h.ne (c:=cf) (send:=true) (k:=0) (by rw [offersAt_parked_send]; simp)
  rcases CB with ⟨_,_,v,g0,z0,sS,he⟩ | ⟨h4,_⟩ | ⟨_,h4,_⟩ | ⟨_,h4,_⟩
  rotate_left
  ·exact absurd h4 h.ne
  ·cases h4
  ·cases h4
  obtain ⟨o7,pI,WQ⟩:=xQ he
  subst pI
  have hv:vj=v:=by
   have:scase cf vj zj=scase cf v z0:=by simpa using o7
   simp only [scase,CommCase.mk.injEq,Option.some.injEq] at this
   exact this.2.1
  subst hv
  obtain ⟨_,zr,Q6,yj,sT,Dq,ha⟩:=h.ahs sS
  rw [lQ] at sT
  obtain ⟨_,_,CH⟩:=xQ (Option.some.inj sT)
  rw [finishComm_recv,finishComm_send,ofEvents_none,CH] at hr
  have Wh:=h.ag3 (j:=j) (v:=vj) sS hd Dq hy (gj:=Conc.served (core zr) undef) (g0:=Conc.served (core g) (recvd true vj true)) ha.2.2 (λ k hlen=>qR.1 k hlen vj) (ZZ (a:=j) (b:=0) (s:=s1) (cap:=0) (f1:=gj.frame.fn) (f2:=(core g).frame.fn) (p1:=gj.frame.place) (p2:=(core g).frame.place) (ir h.l5)) d
  obtain ⟨x0,xj,WA,_,Wg,hP,_⟩:=Wh
  refine ⟨_,_,_,_,_,_,_,_,_,hr,?_,by simpa using hP⟩
  simpa using K6 (x:=x0) (y:=xj) dg Wg dA (by omega)
theorem PI.aLE(h:PI P B cf cd bX D th true cls s1 s2 bO bZ gs w t){rem:List Value}{T:Tree}(hi:gs[0]? = some g)(hd:D 0 = .mr rem (some T))(hy:th 0=some y)(hk:m9 P B cf bX rem.length rem y.R y.H g) :
  ∃ fF g' ops q,runT P (crowd gs w sl) 0=(.next (crowd fF w sl),ops)∧fF[0]? = some g'∧bX y.R y.H g'∧Alone P B y.R y.H fF w (t++ops) q:=by
 have dg:=h.pos
 have l5:=h.l5
 cases h.ph with
 | @closed ox m h0 im ga o6 hm =>
  rw [hd] at h0; cases h0
  have hlen:rem.length=0:=by
   have h1:=im.length_eq
   have h2:=aaT (D:=D) (n:=gs.size)
   have h3:cX gs.size (λ i=>(D i).act)=0:=by
    have e:cX gs.size (λ i=>(D i).act)=cX gs.size (λ _=>0):=AI λ i _=>o6 i
    rw [e]
    have:∀ n,cX n (λ _=>0)=0:=by intro n; induction n with | zero=>rfl | succ n ih=>simp only [cX,ih]
    exact this _
   omega
  rw [hlen] at hk
  obtain ⟨z,fS,ct,_,Cu⟩:=hk
  have hr:=crowd_recv_closed (sl:=sl) hi (show stepG P (0 == 0) g w=_ from ct w (h.mem.fits 0 y hy)) l5 (aJV h o6)
  rw [finishComm_recv,ofEvents_none] at hr
  have hlv:∀ i,i≠0→th i=none∧∃ n,D i = .lv n∧∀ x,gs[i]? = some x→QuitsIn P n x:=by
   intro i kZ
   rcases Nat.lt_or_ge i gs.size with br | l3
   ·have hx:=Array.getElem?_eq_getElem br
    have hs:=h.gM i _ hx
    cases jY:D i with
    | lv n=>rw [jY] at hs; exact ⟨hs.1,n,rfl,λ x q8=>by rw [hx] at q8; cases q8; exact hs.2.1⟩
    | w1 v m=>have:=o6 i; rw [jY] at this; cases this
    | w2 m=>have:=o6 i; rw [jY] at this; cases this
    | cl k m=>exact absurd jY (ga i k m)
    | ms k sp m=>rw [jY] at hs; exact absurd hs.2 kZ
    | mr r m=>rw [jY] at hs; exact absurd hs.2 kZ
   ·obtain ⟨h1,h2⟩:=h.out i l3
    exact ⟨h1,0,h2,λ x hx=>by rw [Array.getElem?_eq_none l3] at hx; cases hx⟩
  have xp:th=only y:=by
   funext i
   unfold only
   split
   ·rename_i e; subst e; exact hy
   ·rename_i e; exact (hlv i e).1
  have mU:=h.mem
  have zP:=h.tr
  rw [xp] at mU zP
  refine ⟨_,_,_,λ i=>match D i with | .lv n=>n | _=>0,hr,Array.getElem?_setIfInBounds_self_of_lt dg,Cu,⟨mU.fits,mU.apart,λ c o hc=>(by cases hc),λ c o hc=>(by cases hc)⟩,?_,λ i x kZ hx=>?_⟩
  ·exact (zP.aKS (y:=⟨0,(core g).frame.fn,(core g).frame.place,.recvClosed cf⟩) rfl rfl (ir l5)).chs (λ _ _ hc=>by cases hc)
  ·rw [Array.getElem?_setIfInBounds_ne (by omega)] at hx
   obtain ⟨_,n,e,hq⟩:=hlv i (by omega)
   simp only [e]
   exact hq x hx
theorem PI.ahK(h:PI P B cf cd bX D th cI cls s1 s2 bO bZ gs w t):∃ (i:Nat) (g:Goroutine),gs[i]? = some g∧g.status = .running:=by
 have key:∀ i,(∀ n,D i ≠ .lv n)→(D i).pg≠none→∃ (i:Nat) (g:Goroutine),gs[i]? = some g∧g.status = .running:=by
  intro i hl hm
  obtain ⟨g,hg⟩:=h.there hl
  refine ⟨i,g,hg,?_⟩
  have hs:=h.gM i g hg
  cases jY:D i with
  | lv n=>exact absurd jY (hl n)
  | w1 v m =>
   rw [jY] at hs hm
   obtain ⟨⟨y,_,⟨T,rfl,h⟩ | ⟨rfl,_⟩⟩,_⟩:=hs
   ·exact h.rU λ _ _ _=>y8.run
   ·exact absurd rfl hm
  | w2 m =>
   rw [jY] at hs hm
   obtain ⟨⟨y,_,⟨T,rfl,h⟩ | ⟨rfl,_⟩⟩,_⟩:=hs
   ·exact h.rU λ _ _ _=>y9.run
   ·exact absurd rfl hm
  | cl k m =>
   rw [jY] at hs hm
   obtain ⟨⟨y,_,⟨T,rfl,h⟩ | ⟨rfl,_⟩⟩,_⟩:=hs
   ·exact h.rU λ _ _ _=>CK.run
   ·exact absurd rfl hm
  | ms k sp m =>
   rw [jY] at hs hm
   obtain ⟨⟨y,_,⟨T,rfl,h⟩ | ⟨rfl,_⟩⟩,_⟩:=hs
   ·exact h.rU λ _ _ _=>rk.run
   ·exact absurd rfl hm
  | mr r m =>
   rw [jY] at hs hm
   obtain ⟨⟨y,_,⟨T,rfl,h⟩ | ⟨rfl,_⟩⟩,_⟩:=hs
   ·exact h.rU λ _ _ _=>m9.run
   ·exact absurd rfl hm
 cases h.ph with
 | @mK k sp m h0 im ga hw =>
  obtain ⟨g,hg⟩:=h.there (i:=0) (by rw [h0]; intro n e; cases e)
  have hs:=h.gM 0 g hg
  rw [h0] at hs
  obtain ⟨⟨y,_,⟨T,rfl,h⟩ | ⟨rfl,h⟩⟩,_⟩:=hs
  ·exact ⟨0,g,hg,h.rU λ _ _ _=>rk.run⟩
  ·exact h.elim
 | closed h0 im ga o6 hm=>exact key 0 (by rw [h0]; intro n e; cases e) (by rw [h0]; exact hm)
 | @jM rem m ic kc mc h0 im np eW kD sV ql pa =>
  cases m with
  | some T=>exact key 0 (by rw [h0]; intro n e; cases e) (by rw [h0]; simp [Dt.pg])
  | none =>
   cases mc with
   | some T=>exact key ic (by rw [eW]; intro n e; cases e) (by rw [eW]; simp [Dt.pg])
   | none =>
    obtain ⟨k',eR,_⟩:=h.aah eW
    have:∃ i,i < gs.size∧0 < (D i).act:=by
     apply Classical.byContradiction
     intro hn
     have hz:∀ i,i < gs.size→(D i).act=0:=λ i hi=>by
      have:¬ 0 < (D i).act:=λ hx=>hn ⟨i,hi,hx⟩
      omega
     have e:cX gs.size (λ i=>(D i).act)=cX gs.size (λ _=>0):=AI λ i hi=>hz i hi
     have o2:∀ n,cX n (λ _=>0)=0:=by intro n; induction n with | zero=>rfl | succ n ih=>simp only [cX,ih]
     rw [e,o2] at sV
     omega
    obtain ⟨i,hi,afm⟩:=this
    cases jY:D i with
    | w1 v m =>
     cases m with
     | some T=>exact key i (by rw [jY]; intro n e; cases e) (by rw [jY]; simp [Dt.pg])
     | none=>exact absurd jY (ql rfl i v)
    | w2 m =>
     cases m with
     | some T=>exact key i (by rw [jY]; intro n e; cases e) (by rw [jY]; simp [Dt.pg])
     | none=>exact absurd jY (pa rfl i)
    | _=>rw [jY] at afm; simp [Dt.act] at afm
end
section
variable {P:Program} {B:Base} {ck:Value→World→Prop} {cf cd:Nat} {bO bZ:Bool}
theorem ahF{d:Dt}{T T':Tree}(h:d.pg=some T)(hl:∀ n,d ≠ .lv n):(d.set (some T')).pg=some T'∧(d.set (some T')).eh=d.eh:=by
 cases d <;> first | exact absurd rfl (hl _) | exact ⟨rfl,rfl⟩
theorem PI.aKC:∀ (μ:Nat × List Ms) (gs:Array Goroutine) (w:World) (sl:Option (Nat × Nat)) (t:Trace) (D:Nat→Dt) (th:Nat→Option Th) (cI:Bool) (cls:Option Nat) (s1 s2:Nat),
  PI P B cf cd (MJ P B ck) D th cI cls s1 s2 bO bZ gs w t→mu D gs.size=μ→∀ i g,gs[i]? = some g→g.status = .running→∀ m0,stepT P m0=runT P (crowd gs w sl) i→jT P ck m0 t:=by
 intro μ
 induction μ using wO.wf.induction with
 | _ μ ih =>
  intro gs w sl t D th cI cls s1 s2 h hμ i g hi fS m0 FW
  subst hμ
  have next:∀ (fF:Array Goroutine) (w':World) (py:Option (Nat × Nat)) (t':Trace) (D':Nat→Dt) (j3:Nat→Option Th) (iN:Bool) (oX:Option Nat) (s1' s2':Nat),PI P B cf cd (MJ P B ck) D' j3 iN oX s1' s2' bO bZ fF w' t' →
    wO (mu D' fF.size) (mu D gs.size)→jT P ck (crowd fF w' py) t':=by
   intro fF w' py t' D' j3 iN oX s1' s2' h' hl
   obtain ⟨j,gj,d,aav,hj,WL,ct⟩:=crowd_pick (P:=P) (gs:=fF) (w:=w') (sl:=py) (λ x hx=>by
    obtain ⟨k,hk,rfl⟩:=Array.mem_iff_getElem.1 hx
    exact (h'.gM k _ (Array.getElem?_eq_getElem hk)).awake) h'.ahK
   exact ih _ hl fF (w'.at d) aav t' D' j3 iN oX s1' s2' (h'.at d) rfl j gj hj WL _ ct
  have nx:Nx P B cf cd (MJ P B ck) D bO bZ gs w sl t i→jT P ck m0 t:=by
   rintro ⟨fF,w',ops,D',j3,iN,oX,s1',s2',hr,hl,h'⟩
   exact jT.step (FW.trans hr) (next _ _ _ _ _ _ _ _ _ _ h' hl)
  have hs:=h.gM i g hi
  have br:=rL hi
  have go:∀ (main:Bool) (K:aE→an→Goroutine→Prop) (y:Th) (T:Tree),main=(i == 0)→(∀ n,D i ≠ .lv n)→(D i).pg=some T→th i=some y→za P B main K T y.R y.H g →
    (∀ T' (y':Th) g',za P B main K T' y'.R y'.H g'→l9 P B cf cd (MJ P B ck) i ((D i).set (some T')) (some y') g')→(K y.R y.H g→jT P ck m0 t)→jT P ck m0 t:=by
   rintro main K ⟨R,H⟩ ⟨ι,f⟩ axE hnl OL hy ayI af6 aBD
   rcases ayI with hk | ⟨_,ct⟩ | ⟨R',H',k,hgh,hk⟩
   ·exact aBD hk
   ·obtain ⟨g',w',es,R',H',k,h1,h2,h3,h4⟩:=ct w (h.mem.fits i _ hy)
    obtain ⟨fF,ops,hr,rF,hP⟩:=h.own (sl:=sl) (T:=f k) hi hy (axE ▸ h1) h2 h3 (af6 (f k) ⟨R',H'⟩ g' h4)
    obtain ⟨e1,e2⟩:=ahF (T':=f k) OL hnl
    exact jT.step (FW.trans hr) (next _ _ _ _ _ _ _ _ _ _ hP (by rw [rF]; exact DX br OL e1 (.some (.mk f k)) e2))
   ·obtain ⟨hm,ht⟩:=ae0 h.mem h.tr hy (hgh w (h.mem.fits i _ hy))
    obtain ⟨e1,e2⟩:=ahF (T':=f k) OL hnl
    refine ih _ (DX br OL e1 (.some (.mk f k)) e2) gs w sl t _ _ cI cls s1 s2 (h.one (w':=w) br rfl hi (λ _ _=>rfl) hm ht (λ j hj=>fe hj) (by rw [iB]; exact af6 (f k) ⟨R',H'⟩ g hk) (h.ph.q λ j=>Q.upd (.inr (.inr ⟨f k,rfl⟩)) j)) rfl i g hi fS m0 FW
  cases hd:D i with
  | lv n =>
   rw [hd] at hs
   obtain ⟨_,hq,_⟩:=hs
   cases n with
   | zero=>rw [show g.status = .finished from hq] at fS; cases fS
   | succ n =>
    rcases hq with e | ⟨_,g',ct,hq⟩
    ·rw [e] at fS; cases fS
    ·obtain ⟨fF,hr,rF,hP⟩:=h.quit (sl:=sl) hi hd ct hq
     refine jT.step (FW.trans hr) (next _ _ _ _ _ _ _ _ _ _ (by simpa using hP) ?_)
     rw [rF]
     exact DX (a:=some (D1 n)) (b:=some (D1 (n+1))) br (by rw [hd]; rfl) rfl (aJO n) (by rw [hd]; rfl)
  | w1 v m =>
   rw [hd] at hs
   obtain ⟨⟨y,hy,⟨T,rfl,ho⟩ | ⟨rfl,g0,z,_,rfl⟩⟩,dg⟩:=hs
   ·exact go false _ y T (by simp; omega) (by rw [hd]; intro n e; cases e) (by rw [hd]; rfl) hy ho (λ T' y' g' eC=>by rw [hd]; exact ⟨⟨y',rfl,.inl ⟨T',rfl,eC⟩⟩,dg⟩) (λ hk=>nx (h.aLH hi hd dg hy hk))
   ·cases fS
  | w2 m =>
   rw [hd] at hs
   obtain ⟨⟨y,hy,⟨T,rfl,ho⟩ | ⟨rfl,g0,z,_,rfl⟩⟩,dg⟩:=hs
   ·exact go false _ y T (by simp; omega) (by rw [hd]; intro n e; cases e) (by rw [hd]; rfl) hy ho (λ T' y' g' eC=>by rw [hd]; exact ⟨⟨y',rfl,.inl ⟨T',rfl,eC⟩⟩,dg⟩) (λ hk=>nx (h.aLI hi hd dg hy hk))
   ·cases fS
  | cl k m =>
   rw [hd] at hs
   obtain ⟨⟨y,hy,⟨T,rfl,ho⟩ | ⟨rfl,qR⟩⟩,dg⟩:=hs
   ·refine go false _ y T (by simp; omega) (by rw [hd]; intro n e; cases e) (by rw [hd]; rfl) hy ho (λ T' y' g' eC=>by rw [hd]; exact ⟨⟨y',rfl,.inl ⟨T',rfl,eC⟩⟩,dg⟩) (λ hk=>?_)
    cases k with
    | zero=>exact nx (h.aLD hi hd dg hy hk)
    | succ k=>exact nx (h.aLC hi hd dg hy hk)
   ·cases k with
    | zero=>exact qR.elim
    | succ k=>obtain ⟨g0,z,_,rfl⟩:=qR; cases fS
  | ms k sp m =>
   rw [hd] at hs
   obtain ⟨⟨y,hy,⟨T,rfl,ho⟩ | ⟨rfl,qR⟩⟩,rfl⟩:=hs
   ·exact go true _ y T rfl (by rw [hd]; intro n e; cases e) (by rw [hd]; rfl) hy ho (λ T' y' g' eC=>by rw [hd]; exact ⟨⟨y',rfl,.inl ⟨T',rfl,eC⟩⟩,rfl⟩) (λ hk=>nx (h.aLG hi hd hy hk))
   ·exact qR.elim
  | mr rem m =>
   rw [hd] at hs
   obtain ⟨⟨y,hy,⟨T,rfl,ho⟩ | ⟨rfl,qR⟩⟩,rfl⟩:=hs
   ·refine go true _ y T rfl (by rw [hd]; intro n e; cases e) (by rw [hd]; rfl) hy ho (λ T' y' g' eC=>by rw [hd]; exact ⟨⟨y',rfl,.inl ⟨T',rfl,eC⟩⟩,rfl⟩) (λ hk=>?_)
    cases cI with
    | false =>
     obtain rfl:cls=none:=by
      cases h.ph with
      | mK=>rfl
      | jM=>rfl
     exact nx (h.aLF hi hd hy hk)
    | true =>
     obtain ⟨fF,g',ops,q,hr,L9,hJ,hA⟩:=h.aLE (sl:=sl) hi hd hy hk
     exact jT.step (FW.trans hr) (hJ fF w sl _ q L9 hA)
   ·generalize rem.length=n at qR
    cases n <;> (obtain ⟨g0,z,_,rfl⟩:=qR; cases fS)
theorem PI.runs{gs:Array Goroutine}{w:World}{sl:Option (Nat × Nat)}{t:Trace}{D:Nat→Dt}{th:Nat→Option Th}{cI:Bool}{cls:Option Nat}{s1 s2:Nat}(h:PI P B cf cd (MJ P B ck) D th cI cls s1 s2 bO bZ gs w t):jT P ck (crowd gs w sl) t:=by
 obtain ⟨j,gj,d,aav,hj,WL,ct⟩:=crowd_pick (P:=P) (gs:=gs) (w:=w) (sl:=sl) (λ x hx=>by
  obtain ⟨k,hk,rfl⟩:=Array.mem_iff_getElem.1 hx
  exact (h.gM k _ (Array.getElem?_eq_getElem hk)).awake) h.ahK
 exact PI.aKC _ gs (w.at d) aav t D th cI cls s1 s2 (h.at d) rfl j gj hj WL _ ct
end
end Go.Lg
