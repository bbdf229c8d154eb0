/- The machine of the workers of hull.reckon: it runs to its end. Conditions: none. -/
import Derived.Test.YtoaoffinglajbaaGreatDoorQBLgA
import Derived.Conc.CrowdComm
namespace Go.Lg
open Go.Conc
inductive Tree:Type 1
 | node (ι:Type) (f:ι→Tree):Tree
inductive oM:Tree→Tree→Prop
 | mk {ι:Type} (f:ι→Tree) (i:ι):oM (f i) (.node ι f)
theorem oM.acc(t:Tree):Acc oM t:=by
 induction t with
 | node ι f d=>exact ⟨_,λ y h=>by cases h; exact d _⟩
abbrev Ms:=Option Tree
inductive g3:Ms→Ms→Prop
 | some {a b:Tree}:oM a b→g3 (some a) (some b)
 | none {b:Tree}:g3 none (some b)
theorem g3.vW:Acc g3 (Option.none:Ms):=⟨_,λ y h=>by cases h⟩
theorem g3.acc(m:Ms):Acc g3 m:=by
 cases m with
 | none=>exact g3.vW
 | some t =>
  have:=oM.acc t
  induction this with
  | intro t _ d =>
   refine ⟨_,λ y h=>?_⟩
   cases h with
   | some h=>exact d _ h
   | none=>exact g3.vW
inductive One {α:Type 1} (r:α→α→Prop):List α→List α→Prop
 | head {a b:α} {l:List α}:r a b→One r (a::l) (b::l)
 | tail {a:α} {l l':List α}:One r l l'→One r (a::l) (a::l')
theorem One.acc{α:Type 1}{r:α→α→Prop}(h:∀ a,Acc r a):∀ l:List α,Acc (One r) l
 | []=>⟨_,λ y h=>by cases h⟩
 | b::l=>by
  have hb:=h b
  have d:=One.acc h l
  induction hb generalizing l with
  | intro b _ C =>
   induction d with
   | intro l f E =>
    refine ⟨_,λ y A=>?_⟩
    cases A with
    | head z=>exact C _ z _ ⟨_,f⟩
    | tail s=>exact E _ s
theorem One.wf:WellFounded (One g3):=⟨One.acc g3.acc⟩
theorem One.set{α:Type 1}{r:α→α→Prop}:∀ {l:List α} {i:Nat} {a b:α},l[i]? = some b→r a b→One r (l.set i a) l
 | [],_,_,_,h,_=>by cases h
 | x::l,0,a,b,h,d=>by cases h; exact .head d
 | x::l,i+1,a,b,h,d=>.tail (One.set (by simpa using h) d)
def mT:Nat→Tree
 | 0=>.node Empty Empty.elim
 | n+1=>.node Unit λ _=>mT n
theorem JV(n:Nat):g3 (some (mT n)) (some (mT (n+1))):=.some (.mk (λ _:Unit=>mT n) ())
section
variable (P:Program) (B:Base) (main:Bool) (K:ay→aj→Goroutine→Prop)
def kB:Tree→ay→aj→Goroutine→Prop
 | .node _ f=>λ R H g=>K R H g ∨
  (g.status = .running∧∀ w,Fits B R H w→∃ g' w' es R' H' i,stepG P main g w = .go g' w' es∧(∀ e∈es,eP R H w.heap.size w'.heap.size e)∧c5 B R H w R' H' w'∧kB (f i) R' H' g') ∨
  (∃ R' H' i,(∀ w,Fits B R H w→c5 B R H w R' H' w)∧kB (f i) R' H' g)
def Own(R:ay)(H:aj)(g:Goroutine):Prop:=∃ T,kB P B main K T R H g
theorem Own.stop{R:ay}{H:aj}{g:Goroutine}(h:K R H g):Own P B main K R H g:=⟨.node Empty Empty.elim,.inl h⟩
open Classical in
def jb:Jd P B main where
 J:=Own P B main K
 step:=by
  intro R H g C h
  refine ⟨.node { x:ay × aj × Goroutine // Own P B main K x.1 x.2.1 x.2.2 } (λ x=>x.2.choose),.inr (.inl ⟨C,λ w hw=>?_⟩)⟩
  obtain ⟨g',w',es,R',H',f,s,z,d⟩:=h w hw
  exact ⟨g',w',es,R',H',⟨(R',H',g'),d⟩,f,s,z,Exists.choose_spec d⟩
 ghost:=by
  intro R H R' H' g A h
  exact ⟨.node Unit (λ _=>h.choose),.inr (.inr ⟨R',H',(),A,h.choose_spec⟩)⟩
end
theorem nn{α:Type}{a:Option α}{u:α}{C:Prop}(h:a=none)(d:a=some u):C:=by rw [h] at d; cases d
structure Th where
 R:ay
 H:aj
def eF(th:Nat→Option Th)(i:Nat)(x:Option Th):Nat→Option Th:=λ j=>if j=i then x else th j
theorem eS(th:Nat→Option Th)(i:Nat)(x:Option Th):eF th i x i=x:=by simp [eF]
theorem dK{th:Nat→Option Th}{i j:Nat}{x:Option Th}(h:j≠i):eF th i x j=th j:=by simp [eF,h]
structure dY (B:Base) (th:Nat→Option Th) (ch:aj) (w:World):Prop where
 fits:∀ i x,th i=some x→Fits B x.R x.H w
 apart:∀ i j x y,i≠j→th i=some x→th j=some y→∀ b o,(b,o)∈x.H→y.R b=none∧∀ o',(b,o') ∉ y.H
 hC:∀ c o,(c,o)∈ch→w.heap[c]? = some o
 g5:∀ c o,(c,o)∈ch→∀ i x,th i=some x→x.R c=none∧∀ o',(c,o') ∉ x.H
theorem Fits.at{B:Base}{R:ay}{H:aj}{w:World}(h:Fits B R H w)(d:Nat):Fits B R H (w.at d):=⟨h.r,h.h,h.nd,h.dj,h.os,h.tape,h.out⟩
theorem dY.at{B:Base}{th:Nat→Option Th}{ch:aj}{w:World}(h:dY B th ch w)(d:Nat):dY B th ch (w.at d) :=
 ⟨λ i x f=>(h.fits i x f).at d,h.apart,h.hC,h.g5⟩
section
variable {B:Base} {th:Nat→Option Th} {ch:aj} {w w':World} {i:Nat} {R R':ay} {H H':aj}
theorem dY.upd(h:dY B th ch w)(hi:th i=some ⟨R,H⟩)(hu:c5 B R H w R' H' w'):dY B (eF th i (some ⟨R',H'⟩)) ch w':=by
 have I {j:Nat} {y:Th} (d:th j=some y):(∀ b o,y.R b=some o→b < w.heap.size)∧(∀ b o,(b,o)∈y.H→b < w.heap.size) :=
  ⟨λ b o x=>eQ ((h.fits j y d).r b o x),λ b o x=>eQ ((h.fits j y d).h b o x)⟩
 refine ⟨λ j y d=>?_,λ j k x y G E d b o hb=>?_,λ c o C=>?_,λ c o C j y d=>?_⟩
 ·by_cases s:j=i
  ·subst s; rw [eS] at d; cases d; exact hu.fits
  ·rw [dK s] at d
   have F:=h.fits j y d
   have M:=I d
   refine ⟨λ b o x=>?_,λ b o x=>?_,F.nd,F.dj,hu.fits.os,hu.fits.tape,hu.fits.out⟩
   ·rw [hu.same b (M.1 b o x) λ o' f=>nn (h.apart i j _ _ (Ne.symm s) hi d b o' f).1 x]
    exact F.r b o x
   ·rw [hu.same b (M.2 b o x) λ o' f=>(h.apart i j _ _ (Ne.symm s) hi d b o' f).2 o x]
    exact F.h b o x
 ·by_cases s:j=i
  ·subst s
   rw [eS] at E; cases E
   rw [dK (Ne.symm G)] at d
   rcases hu.kh b o hb with ⟨o',f⟩ | N
   ·exact h.apart j k _ _ G hi d b o' f
   ·refine ⟨?_,λ o' f=>?_⟩
    ·cases z:y.R b with
     | none=>rfl
     | some u=>have:=(I d).1 b u z; omega
    ·have:=(I d).2 b o' f; omega
  ·rw [dK s] at E
   by_cases L:k=i
   ·subst L
    rw [eS] at d; cases d
    have J:=(I E).2 b o hb
    have A:=h.apart j k _ _ G E hi b o hb
    refine ⟨?_,λ o' f=>?_⟩
    ·cases z:R' b with
     | none=>simp [z]
     | some u =>
      rcases hu.oj b u z with x | ⟨o',x⟩ | x
      ·exact nn A.1 x
      ·exact absurd x (A.2 o')
      ·omega
    ·rcases hu.kh b o' f with ⟨u,x⟩ | x
     ·exact A.2 u x
     ·omega
   ·rw [dK L] at d
    exact h.apart j k _ _ G E d b o hb
 ·have J:=eQ (h.hC c o C)
  rw [hu.same c J λ o' f=>(h.g5 c o C i _ hi).2 o' f]
  exact h.hC c o C
 ·by_cases s:j=i
  ·subst s
   rw [eS] at d; cases d
   have J:=eQ (h.hC c o C)
   have A:=h.g5 c o C j _ hi
   refine ⟨?_,λ o' f=>?_⟩
   ·cases z:R' c with
    | none=>simp [z]
    | some u =>
     rcases hu.oj c u z with x | ⟨o',x⟩ | x
     ·exact nn A.1 x
     ·exact absurd x (A.2 o')
     ·omega
   ·rcases hu.kh c o' f with ⟨u,x⟩ | x
    ·exact A.2 u x
    ·omega
  ·rw [dK s] at d
   exact h.g5 c o C j y d
theorem dY.drop(h:dY B th ch w):dY B (eF th i none) ch w:=by
 have key:∀ j y,eF th i none j=some y→th j=some y:=λ j y d=>by
  by_cases f:j=i
  ·subst f; rw [eS] at d; cases d
  ·rwa [dK f] at d
 exact ⟨λ j y d=>h.fits j y (key j y d),λ j k x y z A d=>h.apart j k x y z (key j x A) (key k y d),h.hC,λ c o s j y d=>h.g5 c o s j y (key j y d)⟩
theorem dY.add{c:Nat}(h:dY B th ch w)(hi:th i=some ⟨R,H⟩)(C:aH R' R):dY B (eF th c (some ⟨R',[]⟩)) ch w:=by
 refine ⟨λ j y d=>?_,λ j k x y J s d b o hb=>?_,h.hC,λ a o F j y d=>?_⟩
 ·by_cases f:j=c
  ·subst f; rw [eS] at d; cases d
   have A:=h.fits i _ hi
   exact ⟨λ b o x=>A.r b o (C b o x),λ b o x=>(by cases x),List.nodup_nil,λ b o x=>(by cases x),A.os,A.tape,A.out⟩
  ·rw [dK f] at d; exact h.fits j y d
 ·by_cases f:j=c
  ·subst f; rw [eS] at s; cases s; cases hb
  ·rw [dK f] at s
   by_cases I:k=c
   ·subst I
    rw [eS] at d; cases d
    refine ⟨?_,λ o' x=>by cases x⟩
    cases z:R' b with
    | none=>simp [z]
    | some u =>
     have E:=C b u z
     by_cases G:j=i
     ·subst G
      rw [hi] at s; cases s
      exact nn ((h.fits j _ hi).dj b o hb) E
     ·exact nn (h.apart j i _ _ G s hi b o hb).1 E
   ·rw [dK I] at d; exact h.apart j k x y J s d b o hb
 ·by_cases f:j=c
  ·subst f; rw [eS] at d; cases d
   refine ⟨?_,λ o' x=>by cases x⟩
   cases z:R' a with
   | none=>simp [z]
   | some u=>exact nn (h.g5 a o F i _ hi).1 (C a u z)
  ·rw [dK f] at d; exact h.g5 a o F j y d
end
abbrev Kn(t:Trace)(g i:Nat):Prop:=Go.Conc.Knows t g i
def blk:Loc→Option Nat
 | .cell a=>some a.block
 | .obj r=>some r
 | _=>none
structure c9 (th:Nat→Option Th) (ch:aj) (cls:Option Nat) (n:Nat) (t:Trace):Prop where
 own:∀ i x,th i=some x→∀ b o,(b,o)∈x.H→∀ k a,touchAt t k=some a→blk a.loc=some b→Kn t i k
 read:∀ i x,th i=some x→∀ b o,x.R b=some o→∀ k a,touchAt t k=some a→blk a.loc=some b→a.write=true→Kn t i k
 cD:∀ c o,(c,o)∈ch→∀ i x,th i=some x→∀ k a,touchAt t k=some a→blk a.loc=some c→a.kind = .atomic∨Kn t i k
 low:∀ op∈t,op.act.low n
 all:∀ k a,touchAt t k=some a→a.loc.isMemory=true→(∃ i x,th i=some x∧Kn t i k)∨(∃ c p,cls=some c∧t.act? p=some (.close c)∧Before t k p)
 clean:∀ said,¬ Race said t
 quiet:Wordless t
theorem L6{x:MemAct}{a:Touch}{n b:Nat}(h:x.low n)(d:x.touch? = some a)(hb:blk a.loc=some b):b < n:=by
 cases x with
 | access e =>
  simp only [MemAct.touch?,eO] at d
  subst d
  obtain ⟨loc,wr,f⟩:=e
  cases loc <;> simp [blk] at hb <;> subst hb <;> exact h
 | mark m =>
  cases m <;> simp only [MemAct.touch?,eO,reduceCtorEq] at d
  all_goals (subst d; simp [blk] at hb; subst hb; exact h)
 | _=>simp [MemAct.touch?] at d
def vT(ch:aj)(R:ay)(H:aj)(n:Nat)(a:Touch):Prop :=
 ∃ b,blk a.loc=some b∧((a.write=false∧∃ o,R b=some o)∨(∃ o,(b,o)∈H)∨n≤b∨(a.kind = .atomic∧∃ o,(b,o)∈ch))
theorem iX{t u:Trace}{k:Nat}{a:Touch}(h:touchAt (t++u) k=some a):(k < t.size∧touchAt t k=some a)∨(∃ op,(t++u)[k]? = some op∧op∈u∧op.act.touch? = some a):=by
 obtain ⟨x,d,f⟩:=touch_of h
 rcases getElem?_append_cases d with ⟨s,z⟩ | ⟨_,A⟩
 ·exact .inl ⟨s,by rw [touchAt_of z]; exact f⟩
 ·exact .inr ⟨x,d,A,f⟩
theorem um{t:Trace}{k b n:Nat}{a:Touch}(d:∀ op∈t,op.act.low n)(h:touchAt t k=some a)(hb:blk a.loc=some b):b < n:=by
 obtain ⟨x,f,s⟩:=touch_of h
 exact L6 (d x (mem_of_getElem? f)) s hb
section
variable {B:Base} {th:Nat→Option Th} {ch:aj} {cls:Option Nat} {w:World} {n n' i:Nat} {R R':ay} {H H':aj} {t u:Trace}
theorem s6{k:Nat}(h:∃ c p,cls=some c∧t.act? p=some (.close c)∧Before t k p):∃ c p,cls=some c∧(t++u).act? p=some (.close c)∧Before (t++u) k p:=by
 obtain ⟨c,p,f,d,s⟩:=h
 exact ⟨c,p,f,by rw [act?_old (lt_of_act? d)]; exact d,s.app u⟩
theorem c9.app(I:dY B th ch w)(S:w.heap.size=n)(h:c9 th ch cls n t)(hi:th i=some ⟨R,H⟩)(hu:∀ op∈u,op.g=i)
  (O:∀ op∈u,∀ a,op.act.touch? = some a→vT ch R H n a) (ak:∀ op∈u,op.act.low n') (hw:Wordless u) (an:n≤n')
  (ab:∀ b o,R' b=some o→R b=some o∨(∃ o',(b,o')∈H)∨n≤b) (aa:∀ b o,(b,o)∈H'→(∃ o',(b,o')∈H)∨n≤b) :
  c9 (eF th i (some ⟨R',H'⟩)) ch cls n' (t++u):=by
 have Z {j:Nat} {y:Th} (d:th j=some y):(∀ b o,y.R b=some o→b < n)∧(∀ b o,(b,o)∈y.H→b < n) :=
  ⟨λ b o x=>S ▸ eQ ((I.fits j y d).r b o x),λ b o x=>S ▸ eQ ((I.fits j y d).h b o x)⟩
 have aq:∀ c o,(c,o)∈ch→c < n:=λ c o E=>S ▸ eQ (I.hC c o E)
 have Q:∀ k op,(t++u)[k]? = some op→op∈u→Kn (t++u) i k:=λ k op G A=>by
  have:=knows_own G; rwa [hu op A] at this
 refine ⟨λ j y d b o hb k a C f=>?_,λ j y d b o hb k a C f M=>?_,λ c o E j y d k a C f=>?_,λ op V=>?_,λ k a C hm=>?_,λ said=>?_,h.quiet.append hw⟩
 ·by_cases F:j=i
  ·subst F; rw [eS] at d; cases d
   rcases iX C with ⟨_,s⟩ | ⟨op,G,A,_⟩
   ·rcases aa b o hb with ⟨o',ao⟩ | ar
    ·exact (h.own j _ hi b o' ao k a s f).app u
    ·have:=um h.low s f; omega
   ·exact Q k op G A
  ·rw [dK F] at d
   rcases iX C with ⟨_,s⟩ | ⟨op,G,A,L⟩
   ·exact (h.own j y d b o hb k a s f).app u
   ·obtain ⟨b',J,E⟩:=O op A a L
    rw [f] at J; cases J
    have W:=I.apart j i _ _ F d hi b o hb
    rcases E with ⟨_,o',x⟩ | ⟨o',x⟩ | x | ⟨_,o',x⟩
    ·exact nn W.1 x
    ·exact absurd x (W.2 o')
    ·have:=(Z d).2 b o hb; omega
    ·exact absurd hb ((I.g5 b o' x j y d).2 o)
 ·by_cases F:j=i
  ·subst F; rw [eS] at d; cases d
   rcases iX C with ⟨_,s⟩ | ⟨op,G,A,_⟩
   ·rcases ab b o hb with x | ⟨o',x⟩ | x
    ·exact (h.read j _ hi b o x k a s f M).app u
    ·exact (h.own j _ hi b o' x k a s f).app u
    ·have:=um h.low s f; omega
   ·exact Q k op G A
  ·rw [dK F] at d
   rcases iX C with ⟨_,s⟩ | ⟨op,G,A,L⟩
   ·exact (h.read j y d b o hb k a s f M).app u
   ·obtain ⟨b',J,E⟩:=O op A a L
    rw [f] at J; cases J
    rcases E with ⟨x,_⟩ | ⟨o',x⟩ | x | ⟨_,o',x⟩
    ·rw [M] at x; cases x
    ·exact nn (I.apart i j _ _ (Ne.symm F) hi d b o' x).1 hb
    ·have:=(Z d).1 b o hb; omega
    ·exact nn (I.g5 b o' x j y d).1 hb
 ·by_cases F:j=i
  ·subst F
   rcases iX C with ⟨_,s⟩ | ⟨op,G,A,_⟩
   ·exact (h.cD c o E j _ hi k a s f).imp id (·.app u)
   ·exact .inr (Q k op G A)
  ·rw [dK F] at d
   rcases iX C with ⟨_,s⟩ | ⟨op,G,A,L⟩
   ·exact (h.cD c o E j y d k a s f).imp id (·.app u)
   ·obtain ⟨b',J,ae⟩:=O op A a L
    rw [f] at J; cases J
    rcases ae with ⟨_,o',x⟩ | ⟨o',x⟩ | x | ⟨x,_⟩
    ·exact nn (I.g5 c o E i _ hi).1 x
    ·exact absurd x ((I.g5 c o E i _ hi).2 o')
    ·have:=aq c o E; omega
    ·exact .inl x
 ·rcases Array.mem_append.1 V with x | x
  ·exact MemAct.low_mono an (h.low op x)
  ·exact ak op x
 ·rcases iX C with ⟨_,s⟩ | ⟨op,G,A,_⟩
  ·rcases h.all k a s hm with ⟨j,y,d,Y⟩ | af
   ·by_cases F:j=i
    ·subst F; exact .inl ⟨j,_,eS _ _ _,Y.app u⟩
    ·exact .inl ⟨j,y,by rw [dK F]; exact d,Y.app u⟩
   ·exact .inr (s6 af)
  ·exact .inl ⟨i,_,eS _ _ _,Q k op G A⟩
 ·refine noRace_append (h.clean said) hu λ k a C op V b hb E=>?_
  obtain ⟨am,au,M,ap⟩:=E
  obtain ⟨N,ad,ag⟩:=O op V b hb
  have f:blk a.loc=some N:=by rw [am]; exact ad
  rcases ag with ⟨x,o,T⟩ | ⟨o,x⟩ | x | ⟨x,o,T⟩
  ·have ac:a.write=true:=by
    rcases M with y | y
    ·exact y
    ·rw [x] at y; cases y
   exact h.read i _ hi N o T k a C f ac
  ·exact h.own i _ hi N o x k a C f
  ·have:=um h.low C f; omega
  ·rcases h.cD N o T i _ hi k a C f with y | y
   ·rcases ap with z | z | ⟨_,z,_⟩
    ·rw [y] at z; cases z
    ·rw [x] at z; cases z
    ·rw [y] at z; cases z
   ·exact y
theorem JZ{said:Bool}(h:¬ Race said t)(hu:∀ op∈u,op.act.touch? = none):¬ Race said (t++u):=by
 rintro ⟨i,j,E,⟨a,b,s,hb,C⟩,n1,F⟩
 rcases iX (u:=u) (a:=a) (k:=i) s with ⟨hi,z⟩ | ⟨op,_,f,d⟩
 ·rcases iX (u:=u) (a:=b) (k:=j) hb with ⟨G,A⟩ | ⟨op,_,f,d⟩
  ·exact h ⟨i,j,E,⟨a,b,z,A,C⟩,λ e=>n1 (hb_app u e),λ e=>F (hb_app u e)⟩
  ·rw [hu op f] at d; cases d
 ·rw [hu op f] at d; cases d
theorem c9.mute(h:c9 th ch cls n t)(hu:∀ op∈u,op.act.touch? = none)(F:∀ op∈u,op.act.low n)(hw:Wordless u):c9 th ch cls n (t++u):=by
 have old:∀ {k a},touchAt (t++u) k=some a→touchAt t k=some a:=λ {k a} d=>by
  rcases iX d with ⟨_,x⟩ | ⟨op,_,A,z⟩
  ·exact x
  ·rw [hu op A] at z; cases z
 exact ⟨λ j y f b o hb k a d s=>(h.own j y f b o hb k a (old d) s).app u,λ j y f b o hb k a d s I=>(h.read j y f b o hb k a (old d) s I).app u,
  λ c o C j y f k a d s=>(h.cD c o C j y f k a (old d) s).imp id (·.app u),λ op G=>(Array.mem_append.1 G).elim (h.low op) (F op),
  λ k a d hm=>(h.all k a (old d) hm).imp (λ ⟨j,y,f,E⟩=>⟨j,y,f,E.app u⟩) s6,λ said=>JZ (h.clean said) hu,h.quiet.append hw⟩
theorem FR{g c:Nat}{x y:MemOp}(hw:Wordless (t++#[x,y]))(z:x.g=g)(A:x.act = .go c)(f:y.g=c)(C:y.act = .start){k:Nat}(h:Kn t g k):Kn (t++#[x,y]) c k:=by
 have e1:(t++#[x,y])[t.size]? = some x:=by simp
 have d:(t++#[x,y])[t.size+1]? = some y:=by simp
 have s:=Go.Conc.Knows.hb_new h (ct _) e1 z
 exact ⟨t.size+1,y,d,f,.inr (s.trans (.single (.inr ⟨.spawn (child:=c) (by rw [act?_of e1,A]) (by rw [act?_of d,C]) (by simp [Trace.g?,f]),hw.heard e1,hw.heard d⟩)))⟩
theorem FQ{a b c s p q:Nat}{x y:MemOp}(hw:Wordless (t++u))(z:t.size≤p)(d:(t++u)[p]? = some x)(A:x.g=a)(C:x.act = .send c s)(f:(t++u)[q]? = some y)(E:y.g=b)(F:y.act = .recvDone c s){k:Nat}(h:Kn t a k):Kn (t++u) b k:=by
 have e:=Go.Conc.Knows.hb_new h z d A
 exact ⟨q,y,f,E,.inr (e.trans (.single (.inr ⟨.handOver (c:=c) (k:=s) (by rw [act?_of d,C]) (by rw [act?_of f,F]),hw.heard d,hw.heard f⟩)))⟩
theorem FP{b c p:Nat}{y:MemOp}(hw:Wordless (t++#[y]))(f:t.act? p=some (.close c))(A:y.g=b)(C:y.act = .recvClosed c){k:Nat}(h:Before t k p):Kn (t++#[y]) b k:=by
 have d:(t++#[y])[t.size]? = some y:=by simp
 obtain ⟨x,s,_⟩:=Option.map_eq_some_iff.1 f
 have z:(t++#[y])[p]? = some x:=by rw [getElem?_append_old (lt_size_of_getElem? s)]; exact s
 exact ⟨t.size,y,d,A,.inr ((h.app #[y]).hb (.single (.inr ⟨.closed (c:=c) (by rw [act?_old (lt_of_act? f)]; exact f) (by rw [act?_of d,C]),hw.heard z,hw.heard d⟩)))⟩
end
def cq:Nat→(Nat→Nat)→Nat
 | 0,_=>0
 | j+1,f=>cq j f+f j
theorem lJ{f g:Nat→Nat}:∀ {j:Nat},(∀ i,i < j→f i=g i)→cq j f=cq j g
 | 0,_=>rfl
 | j+1,h=>by rw [cq,cq,lJ (λ i hi=>h i (by omega)),h j (by omega)]
theorem lK{f g:Nat→Nat}{i:Nat}:∀ {j:Nat},i < j→(∀ k,k≠i→g k=f k)→cq j g+f i=cq j f+g i
 | j+1,h,d=>by
  rcases Nat.lt_or_ge i j with s | A
  ·have:=lK s d
   simp only [cq,d j (by omega)]
   omega
  ·obtain rfl:i=j:=by omega
   simp only [cq]
   rw [lJ (g:=f) (λ a z=>d a (by omega))]
   omega
section
variable (P:Program) (bP:Value→World→Prop)
def fg(m:Machine)(t:Trace):Prop:=∃ N last o w' d,runNT P (N+1) m t=(.ended o w',d)∧runN P N m = .next last∧step P last = .ended o w'∧Good P bP last o w' d
variable {P bP}
theorem fg.step{m f:Machine}{t:Trace}{ops:Array MemOp}(d:stepT P m=(.next f,ops))(h:fg P bP f (t++ops)):fg P bP m t:=by
 obtain ⟨N,last,o,w',E,s,z,A,C⟩:=h
 exact ⟨N+1,last,o,w',E,by rw [runNT_succ_next d]; exact s,by rw [runN_succ_next d]; exact z,A,C⟩
theorem fg.end{m:Machine}{t:Trace}{o:Outcome}{w':World}{ops:Array MemOp}(d:stepT P m=(.ended o w',ops))(h:Good P bP m o w' (t++ops)):fg P bP m t :=
 ⟨0,m,o,w',t++ops,by simp [runNT,d],rfl,by simp [Go.step,d],h⟩
end
theorem rI{g:Nat}{fn:FuncId}{pos:String}{es:Array Event}{op:MemOp}(h:op∈MemOp.ofEvents g fn pos es):∃ e∈es,op={ g,fn,pos,act:=.ofEvent e }:=by
 rw [ofEvents_eq] at h
 obtain ⟨e,he,rfl⟩:=Array.mem_map.1 h
 exact ⟨e,he,rfl⟩
section
variable {R:ay} {H:aj} {n m:Nat} {e:Event} {ch:aj}
theorem EA{a:Touch}(h:eP R H n m e)(f:(MemAct.ofEvent e).touch? = some a):vT ch R H n a:=by
 obtain ⟨loc,wr,C⟩:=e
 have key:∀ b,lR R H n wr b→((wr=false∧∃ o,R b=some o)∨(∃ o,(b,o)∈H)∨n≤b):=λ b hb=>by
  rcases hb with ⟨d,s⟩ | s | s
  ·exact .inl ⟨d,Option.isSome_iff_exists.1 s⟩
  ·exact .inr (.inl s)
  ·exact .inr (.inr s)
 cases loc with
 | cell z =>
  obtain ⟨d,_,A⟩:=h
  simp only at d; subst d
  have e1:MemAct.ofEvent ⟨.cell z,wr,false⟩ = .access ⟨.cell z,wr,false⟩:=by cases wr <;> rfl
  rw [e1] at f
  simp only [MemAct.touch?,eO] at f
  subst f
  refine ⟨z.block,rfl,?_⟩
  rcases key _ A with x | x | x
  ·exact .inl x
  ·exact .inr (.inl x)
  ·exact .inr (.inr (.inl x))
 | obj b =>
  obtain ⟨d,_,A⟩:=h
  simp only at d; subst d
  have e1:MemAct.ofEvent ⟨.obj b,wr,false⟩ = .access ⟨.obj b,wr,false⟩:=by cases wr <;> rfl
  rw [e1] at f
  simp only [MemAct.touch?,eO] at f
  subst f
  refine ⟨b,rfl,?_⟩
  rcases key _ A with x | x | x
  ·exact .inl x
  ·exact .inr (.inl x)
  ·exact .inr (.inr (.inl x))
 | mark mk =>
  cases mk <;> simp [eP] at h
  cases wr <;> cases C <;> simp [MemAct.ofEvent,MemAct.touch?] at f
 | _=>simp [eP] at h
theorem Ez(h:eP R H n m e):(MemAct.ofEvent e).low m:=by
 obtain ⟨loc,wr,s⟩:=e
 cases loc with
 | cell z =>
  obtain ⟨d,f,_⟩:=h
  simp only at d; subst d
  cases wr <;> exact f
 | obj b =>
  obtain ⟨d,f,_⟩:=h
  simp only at d; subst d
  cases wr <;> exact f
 | mark mk =>
  cases mk <;> simp [eP] at h
  cases wr <;> cases s <;> trivial
 | _=>simp [eP] at h
theorem EB(h:eP R H n m e):∀ mk,MemAct.ofEvent e = .mark mk→Neutral mk:=by
 obtain ⟨loc,wr,f⟩:=e
 intro mk hm
 cases loc with
 | cell s=>obtain ⟨d,_⟩:=h; simp only at d; subst d; cases wr <;> cases hm
 | obj b=>obtain ⟨d,_⟩:=h; simp only at d; subst d; cases wr <;> cases hm
 | mark mk' =>
  cases mk' <;> simp [eP] at h
  cases wr <;> cases f <;> (cases hm; rfl)
 | _=>simp [eP] at h
end
section
variable {B:Base} {th:Nat→Option Th} {ch:aj} {cls:Option Nat} {w w':World} {i:Nat} {R R':ay} {H H':aj} {t:Trace}
theorem rV(s:dY B th ch w)(h:c9 th ch cls w.heap.size t)(hi:th i=some ⟨R,H⟩){es:Array Event}(f:∀ e∈es,eP R H w.heap.size w'.heap.size e)(hu:c5 B R H w R' H' w')(fn:FuncId)(pos:String) :
  dY B (eF th i (some ⟨R',H'⟩)) ch w'∧c9 (eF th i (some ⟨R',H'⟩)) ch cls w'.heap.size (t++MemOp.ofEvents i fn pos es):=by
 refine ⟨s.upd hi hu,c9.app s rfl h hi ?_ ?_ ?_ ?_ hu.size hu.oj hu.kh⟩
 ·intro op d; obtain ⟨e,_,rfl⟩:=rI d; rfl
 ·intro op d a z; obtain ⟨e,he,rfl⟩:=rI d; exact EA (f e he) z
 ·intro op d; obtain ⟨e,he,rfl⟩:=rI d; exact Ez (f e he)
 ·intro op d mk hm; obtain ⟨e,he,rfl⟩:=rI d; exact EB (f e he) mk hm
theorem yf(d:dY B th ch w)(h:c9 th ch cls w.heap.size t)(hi:th i=some ⟨R,H⟩)(hu:c5 B R H w R' H' w) :
  dY B (eF th i (some ⟨R',H'⟩)) ch w∧c9 (eF th i (some ⟨R',H'⟩)) ch cls w.heap.size t:=by
 have:=rV (w':=w) (es:=#[]) d h hi (by simp) hu 0 ""
 rw [ofEvents_none,Array.append_empty] at this
 exact this
end
def only(x:Th):Nat→Option Th:=λ i=>if i=0 then some x else none
theorem vb(x y:Th):eF (only x) 0 (some y)=only y:=by funext i; unfold eF only; split <;> rfl
structure Alone (P:Program) (B:Base) (R:ay) (H:aj) (gs:Array Goroutine) (w:World) (t:Trace) (q:Nat→Nat):Prop where
 mem:dY B (only ⟨R,H⟩) [] w
 tr:c9 (only ⟨R,H⟩) [] none w.heap.size t
 lv:∀ i g,0 < i→gs[i]? = some g→QuitsIn P (q i) g
section
variable (P:Program) (B:Base) (bP:Value→World→Prop)
def MJ(R:ay)(H:aj)(g:Goroutine):Prop:=∀ gs w sl t q,gs[0]? = some g→Alone P B R H gs w t q→fg P bP (crowd gs w sl) t
end
section
variable {P:Program} {B:Base} {bP:Value→World→Prop} {R:ay} {H:aj} {g:Goroutine}
theorem Alone.fits{gs:Array Goroutine}{w:World}{t:Trace}{q:Nat→Nat}(h:Alone P B R H gs w t q):Fits B R H w:=h.mem.fits 0 ⟨R,H⟩ rfl
theorem Alone.at{gs:Array Goroutine}{w:World}{t:Trace}{q:Nat→Nat}(h:Alone P B R H gs w t q)(d:Nat):Alone P B R H gs (w.at d) t q:=⟨h.mem.at d,h.tr,h.lv⟩
theorem Br{g g' b:Goroutine}{w':World}{k:Nat}(d:QuitsIn P k b):woken P g g' w' b=b:=by
 unfold woken
 split
 ·exact again_running _ d.status
 ·rfl
theorem MJ.pick(J:g.status = .running)
  (h:∀ gs w sl I d t q,gs[0]? = some g→Alone P B R H gs (w.at d) t q→stepT P (crowd gs w sl)=runT P (crowd gs (w.at d) I) 0→fg P bP (crowd gs w sl) t):MJ P B bP R H g:=by
 have key:∀ M gs w sl t q,cq gs.size q≤M→gs[0]? = some g→Alone P B R H gs w t q→fg P bP (crowd gs w sl) t:=by
  intro M
  induction M with
  | zero =>
   intro gs w sl t q aa C s
   have Q:∀ x∈gs,awake x:=by
    intro x A
    obtain ⟨i,hi,rfl⟩:=Array.mem_iff_getElem.1 A
    rcases Nat.eq_zero_or_pos i with rfl | F
    ·have:gs[0]=g:=by simpa [hX hi] using C
     rw [this]; exact awake_of (.inl J)
    ·exact awake_of ((s.lv i _ F (hX hi)).status.elim .inl λ x=>.inr (.inr x))
   obtain ⟨i,x,d,I,hi,A,N⟩:=crowd_pick (P:=P) (w:=w) (sl:=sl) Q ⟨0,g,C,J⟩
   rcases Nat.eq_zero_or_pos i with rfl | F
   ·exact h gs w sl I d t q C (s.at d) N
   ·have G:=s.lv i x F hi
    have E:i < gs.size:=(Array.getElem?_eq_some_iff.1 hi).1
    have ag:q i=0:=by
     have:=lK (f:=q) (g:=λ k=>if k=i then q i+0 else q k) E (λ k ad=>by simp [ad])
     have Z:∀ (j:Nat),i < j→q i≤cq j q:=by
      intro j L
      induction j with
      | zero=>omega
      | succ j V =>
       rcases Nat.lt_or_ge i j with E | ap
       ·have:=V E; simp only [cq]; omega
       ·obtain rfl:i=j:=by omega
        simp only [cq]; omega
     have:=Z gs.size E
     omega
    rw [ag] at G
    rw [show x.status = .finished from G] at A; cases A
  | succ M V =>
   intro gs w sl t q aa C s
   have Q:∀ x∈gs,awake x:=by
    intro x A
    obtain ⟨i,hi,rfl⟩:=Array.mem_iff_getElem.1 A
    rcases Nat.eq_zero_or_pos i with rfl | F
    ·have:gs[0]=g:=by simpa [hX hi] using C
     rw [this]; exact awake_of (.inl J)
    ·exact awake_of ((s.lv i _ F (hX hi)).status.elim .inl λ x=>.inr (.inr x))
   obtain ⟨i,x,d,I,hi,A,N⟩:=crowd_pick (P:=P) (w:=w) (sl:=sl) Q ⟨0,g,C,J⟩
   rcases Nat.eq_zero_or_pos i with rfl | F
   ·exact h gs w sl I d t q C (s.at d) N
   ·have G:=s.lv i x F hi
    have ac:(i == 0)=false:=by simp; omega
    have E:i < gs.size:=(Array.getElem?_eq_some_iff.1 hi).1
    cases T:q i with
    | zero=>rw [T] at G; rw [show x.status = .finished from G] at A; cases A
    | succ k =>
     rw [T] at G
     rcases G with ab | ⟨_,x',ak,af⟩
     ·rw [ab] at A; cases A
     have Y:=runT_crowd_go (P:=P) (sl:=I) (i:=i) hi (by rw [ac]; exact ak (w.at d))
     rw [ofEvents_none] at Y
     refine fg.step (N.trans Y) ?_
     rw [Array.append_empty]
     have an:((gs.map (woken P x x' (w.at d))).setIfInBounds i x').size=gs.size:=by simp
     have am:=lK (f:=q) (g:=λ j=>if j=i then k else q j) E (λ j L=>by simp [L])
     simp only [if_true,T] at am
     refine V _ _ _ _ (λ j=>if j=i then k else q j) (by rw [an]; omega) ?_ ⟨(s.at d).mem,s.tr,λ j y L O=>?_⟩
     ·have ae:i≠0:=by omega
      rw [eG ae,Array.getElem?_map,C]
      simp [woken_run J]
     ·by_cases S:i=j
      ·subst S
       rw [fB (by simpa using E)] at O
       obtain rfl:=ey O
       simpa using af
      ·rw [eG S,Array.getElem?_map] at O
       obtain ⟨z,ao,rfl⟩:=Option.map_eq_some_iff.1 O
       have W:=s.lv j z L ao
       rw [Br W]
       simpa [Ne.symm S] using W
 exact λ gs w sl t q C s=>key _ gs w sl t q (ct _) C s
theorem MJ.step(O:g.status = .running)(h:∀ w,Fits B R H w→∃ g' w' es R' H',stepG P true g w = .go g' w' es∧(∀ e∈es,eP R H w.heap.size w'.heap.size e)∧c5 B R H w R' H' w'∧MJ P B bP R' H' g'):MJ P B bP R H g:=by
 refine MJ.pick O λ gs w sl S d t q z s f=>?_
 obtain ⟨g',w',es,R',H',E,F,G,I⟩:=h _ s.fits
 have N:=runT_crowd_go (P:=P) (sl:=S) (i:=0) z (show stepG P (0 == 0) g (w.at d)=_ from E)
 refine fg.step (f.trans N) ?_
 have L:0 < gs.size:=(Array.getElem?_eq_some_iff.1 z).1
 have f:=rV s.mem s.tr (i:=0) rfl F G g.frame.fn g.frame.place
 rw [vb] at f
 refine I _ _ _ _ q (by simp [L]) ⟨f.1,f.2,λ j x J C=>?_⟩
 have M:0≠j:=by omega
 rw [eG M,Array.getElem?_map] at C
 obtain ⟨y,Q,rfl⟩:=Option.map_eq_some_iff.1 C
 have A:=s.lv j y J Q
 rw [Br A]
 exact A
theorem MJ.ghost{R':ay}{H':aj}(z:∀ w,Fits B R H w→c5 B R H w R' H' w)(h:MJ P B bP R' H' g):MJ P B bP R H g:=by
 intro gs w sl t q s d
 have f:=yf d.mem d.tr (i:=0) rfl (z w d.fits)
 rw [vb] at f
 exact h gs w sl t q s ⟨f.1,f.2,d.lv⟩
def pW(P:Program)(B:Base)(bP:Value→World→Prop):Jd P B true:=⟨MJ P B bP,MJ.step,MJ.ghost⟩
theorem handed{n:Nat}{t:Trace}(h:c9 (only ⟨R,H⟩) [] none n t):t.HandedOver:=by
 intro i x C L F
 obtain ⟨a,E,hm,_⟩:=F
 rcases h.all i a E hm with ⟨j,y,f,J⟩ | ⟨c,p,G,_⟩
 ·have I:j=0:=by
   unfold only at f
   split at f
   ·assumption
   ·cases f
  subst I
  obtain ⟨q,z,s,A,d⟩:=J
  refine ⟨q,by simp [Trace.g?,s,A],?_⟩
  rcases d with rfl | d
  ·rw [show t.g? i=some z.g by simp [Trace.g?,s],A] at C
   exact absurd (ey C).symm L
  ·exact d
 ·cases G
end
section
variable {B:Base} {th:Nat→Option Th} {ch qS:aj} {cls:Option Nat} {w:World} {n i:Nat} {R R':ay} {H:aj} {t u:Trace}
theorem dY.Ax(h:dY B th ch w){c:Nat}{o o':Obj}(f:(c,o)∈ch)(A:∀ x y,(x,y)∈qS→(x=c∧y=o')∨(x≠c∧(x,y)∈ch)):dY B th qS { w with heap:=w.heap.setIfInBounds c o' }:=by
 have G:=eQ (h.hC c o f)
 have ne:∀ b,b≠c→(w.heap.setIfInBounds c o')[b]? = w.heap[b]? := λ b hb=>eG (Ne.symm hb)
 refine ⟨λ j x E=>?_,h.apart,λ x y s=>?_,λ x y s j z F=>?_⟩
 ·have d:=h.fits j x E
  have C:=h.g5 c o f j x E
  refine ⟨λ b v hb=>?_,λ b v hb=>?_,d.nd,d.dj,d.os,d.tape,d.out⟩
  ·show (w.heap.setIfInBounds c o')[b]? = _
   rw [ne b (λ e=>by subst e; exact nn C.1 hb)]; exact d.r b v hb
  ·show (w.heap.setIfInBounds c o')[b]? = _
   rw [ne b (λ e=>by subst e; exact C.2 v hb)]; exact d.h b v hb
 ·show (w.heap.setIfInBounds c o')[x]? = _
  rcases A x y s with ⟨rfl,rfl⟩ | ⟨I,hm⟩
  ·rw [fB G]
  ·rw [ne x I]; exact h.hC x y hm
 ·rcases A x y s with ⟨rfl,rfl⟩ | ⟨_,hm⟩
  ·exact h.g5 x o f j z F
  ·exact h.g5 x y hm j z F
theorem c9.xc(h:c9 th ch cls n t)(f:∀ x y,(x,y)∈qS→∃ s,(x,s)∈ch):c9 th qS cls n t :=
 ⟨h.own,h.read,λ c o d=>(h.cD c _ (f c o d).choose_spec),h.low,h.all,h.clean,h.quiet⟩
theorem qk(hu:∀ op∈u,op.act.touch? = none){k:Nat}{a:Touch}(h:touchAt (t++u) k=some a):touchAt t k=some a:=by
 rcases iX h with ⟨_,x⟩ | ⟨op,_,f,d⟩
 ·exact x
 ·rw [hu op f] at d; cases d
theorem c9.JQ(h:c9 th ch cls n t)(hu:∀ op∈u,op.act.touch? = none)(L:∀ op∈u,op.act.low n)(hw:Wordless u){c:Nat}(hi:th i=some ⟨R,H⟩)(G:aH R' R)(I:th c=none)(E:∀ k,Kn t i k→Kn (t++u) c k) :
  c9 (eF th c (some ⟨R',[]⟩)) ch cls n (t++u):=by
 have hm:=h.mute hu L hw
 refine ⟨λ j y f b o hb k a s A=>?_,λ j y f b o hb k a s A F=>?_,λ d o C j y f k a s A=>?_,hm.low,λ k a s M=>?_,hm.clean,hm.quiet⟩
 ·by_cases z:j=c
  ·subst z; rw [eS] at f; cases f; cases hb
  ·rw [dK z] at f; exact hm.own j y f b o hb k a s A
 ·by_cases z:j=c
  ·subst z; rw [eS] at f; cases f
   exact E k (h.read i _ hi b o (G b o hb) k a (qk hu s) A F)
  ·rw [dK z] at f; exact hm.read j y f b o hb k a s A F
 ·by_cases z:j=c
  ·subst z; rw [eS] at f; cases f
   exact (h.cD d o C i _ hi k a (qk hu s) A).imp id (E k)
  ·rw [dK z] at f; exact hm.cD d o C j y f k a s A
 ·refine (hm.all k a s M).imp (λ ⟨j,y,f,J⟩=>⟨j,y,?_,J⟩) id
  rw [dK (λ e=>by subst e; rw [I] at f; cases f)]; exact f
theorem c9.JS(h:c9 th ch cls n t)(hu:∀ op∈u,op.act.touch? = none)(I:∀ op∈u,op.act.low n)(hw:Wordless u)(F:∀ k,Kn t i k→∃ j y,j≠i∧th j=some y∧Kn (t++u) j k) :
  c9 (eF th i none) ch cls n (t++u):=by
 have hm:=h.mute hu I hw
 have key:∀ j y,eF th i none j=some y→th j=some y:=λ j y d=>by
  by_cases f:j=i
  ·subst f; rw [eS] at d; cases d
  ·rwa [dK f] at d
 refine ⟨λ j y d=>hm.own j y (key j y d),λ j y d=>hm.read j y (key j y d),λ c o E j y d=>hm.cD c o E j y (key j y d),hm.low,λ k a G J=>?_,hm.clean,hm.quiet⟩
 rcases h.all k a (qk hu G) J with ⟨j,y,d,s⟩ | x
 ·by_cases f:j=i
  ·subst f
   obtain ⟨L,M,z,A,C⟩:=F k s
   exact .inl ⟨L,M,by rw [dK z]; exact A,C⟩
  ·exact .inl ⟨j,y,by rw [dK f]; exact d,s.app u⟩
 ·exact .inr (s6 x)
theorem c9.KS{x:Th}{c:Nat}{y:MemOp}(h:c9 (only x) ch (some c) n t)(J:y.g=0)(f:y.act = .recvClosed c)(s:c < n):c9 (only x) [] none n (t++#[y]):=by
 have hu:∀ op∈#[y],op.act.touch? = none:=λ op d=>by simp at d; subst d; rw [f]; rfl
 have hw:Wordless #[y]:=λ op d m hm=>by simp at d; subst d; rw [f] at hm; cases hm
 have hm:=h.mute hu (λ op d=>by simp at d; subst d; rw [f]; exact s) hw
 refine ⟨hm.own,hm.read,λ c o s=>(by cases s),hm.low,λ k a F I=>?_,hm.clean,hm.quiet⟩
 rcases h.all k a (qk hu F) I with ⟨j,z,L,G⟩ | ⟨M,p,A,C,E⟩
 ·exact .inl ⟨j,z,L,G.app _⟩
 ·cases A
  exact .inl ⟨0,x,rfl,FP hm.quiet C J f E⟩
end
section
variable (P:Program) (B:Base) (main:Bool)
def m0(c:Nat)(v:Value)(Next:ay→aj→Goroutine→Prop)(z:Value)(R:ay)(H:aj)(g:Goroutine):Prop :=
 g.status = .running∧(∀ w,Fits B R H w→stepG P main g w = .comm (core g) #[scase c v z] true .send w #[])∧Next R H (Conc.served (core g) undef)
def AtR(c:Nat)(d:Bool)(f:Value→ay→aj→Goroutine→Prop)(Nil:ay→aj→Goroutine→Prop)(z:Value)(R:ay)(H:aj)(g:Goroutine):Prop :=
 g.status = .running∧(∀ w,Fits B R H w→stepG P main g w = .comm (core g) #[rcase c z] true (.recv d) w #[])∧(∀ v,f v R H (Conc.served (core g) (recvd d v true)))∧Nil R H (Conc.served (core g) (recvd d z false))
def vP(c:Nat)(R:ay)(H:aj)(g:Goroutine):Prop :=
 g.status = .running∧mayWake P g=true∧∃ g' n,(∀ w s r d,Fits B R H w→w.heap[c]? = some (.chan 0 #[] false s r d)→stepG P false g w = .go g' (w.shut c s r d) #[⟨.obj c,false,true⟩,⟨.obj c,true,true⟩])∧QuitsIn P n g'
def vU(c:Nat)(v:Value)(Next:ay→aj→Goroutine→Prop)(R:ay)(H:aj)(g:Goroutine):Prop:=∃ g0 z,m0 P B main c v Next z R H g0∧g=parked (core g0) #[scase c v z] .send
def sy(c:Nat)(d:Bool)(f:Value→ay→aj→Goroutine→Prop)(Nil:ay→aj→Goroutine→Prop)(R:ay)(H:aj)(g:Goroutine):Prop:=∃ g0 z,AtR P B main c d f Nil z R H g0∧g=parked (core g0) #[rcase c z] (.recv d)
end
section
variable (P:Program) (B:Base) (cf cd:Nat) (bL:ay→aj→Goroutine→Prop)
def Lv(_:ay)(_:aj)(g:Goroutine):Prop:=∃ n,QuitsIn P n g
def kz(R:ay)(H:aj)(g:Goroutine):Prop:=∃ z,m0 P B false cd (.bool true) (Lv P) z R H g
def W2:ay→aj→Goroutine→Prop:=Own P B false (kz P B cd)
def ky(v:Value)(R:ay)(H:aj)(g:Goroutine):Prop:=∃ z,m0 P B false cf v (W2 P B cd) z R H g
def sv(CK:ay→aj→Goroutine→Prop)(_:Value)(R:ay)(H:aj)(g:Goroutine):Prop:=Own P B false CK R H g
def Tt(_:ay)(_:aj)(_:Goroutine):Prop:=True
def CK:Nat→ay→aj→Goroutine→Prop
 | 0=>vP P B cf
 | n+1=>λ R H g=>∃ z,AtR P B false cd false (sv P B (CK n)) Tt z R H g
def qw(rem:List Value)(d:List Value→ay→aj→Goroutine→Prop)(v:Value)(R:ay)(H:aj)(g:Goroutine):Prop:=∀ rest,rem.Perm (v::rest)→Own P B true (d rest) R H g
def gr:Nat→List Value→ay→aj→Goroutine→Prop
 | 0,_=>λ R H g=>∃ z,AtR P B true cf true (λ _=>Tt) bL z R H g
 | n+1,rem=>λ R H g=>∃ z,AtR P B true cf true (qw P B rem (gr n)) Tt z R H g
def hZ:Nat→List Value→ay→aj→Goroutine→Prop
 | 0,sp=>λ R H g=>g.status = .running∧∀ w,Fits B R H w→∃ g' child,stepG P true g w = .spawn g' child w #[]∧Own P B false (CK P B cf cd sp.length) R [] child∧Own P B true (gr P B cf bL sp.length sp) R H g'
 | k+1,sp=>λ R H g=>g.status = .running∧∀ w,Fits B R H w→∃ g' child v,stepG P true g w = .spawn g' child w #[]∧Own P B false (ky P B cf cd v) R [] child∧Own P B true (hZ k (v::sp)) R H g'
end
inductive Dt:Type 1
 | lv (n:Nat)
 | w1 (v:Value) (m:Ms)
 | w2 (m:Ms)
 | cl (k:Nat) (m:Ms)
 | ms (k:Nat) (sp:List Value) (m:Ms)
 | mr (rem:List Value) (m:Ms)
def Dt.hk:Dt→Ms
 | .lv n=>some (mT n)
 | .w1 _ m | .w2 m | .cl _ m | .ms _ _ m | .mr _ m=>m
def Dt.set:Dt→Ms→Dt
 | .lv n,_=>.lv n
 | .w1 v _,m=>.w1 v m
 | .w2 _,m=>.w2 m
 | .cl k _,m=>.cl k m
 | .ms k sp _,m=>.ms k sp m
 | .mr rem _,m=>.mr rem m
def Dt.db:Dt→Nat
 | .lv _=>0
 | .w1 _ _=>2
 | .w2 _=>1
 | .cl k _=>k+1
 | .ms k sp _=>3 * k+2 * (k+sp.length)+3
 | .mr rem _=>rem.length+1
def Dt.act:Dt→Nat
 | .w1 _ _ | .w2 _=>1
 | _=>0
def Dt.fA:Dt→Option Value
 | .w1 v _=>some v
 | _=>none
def dF(D:Nat→Dt):Nat→List Value
 | 0=>[]
 | n+1=>match (D n).fA with | some v=>v::dF D n | none=>dF D n
def bS(D:Nat→Dt)(i:Nat)(x:Dt):Nat→Dt:=λ j=>if j=i then x else D j
theorem cc(D:Nat→Dt)(i:Nat)(x:Dt):bS D i x i=x:=by simp [bS]
theorem bG{D:Nat→Dt}{i j:Nat}{x:Dt}(h:j≠i):bS D i x j=D j:=by simp [bS,h]
theorem jh(D:Nat→Dt)(n:Nat):dF D (n+1)=(D n).fA.toList++dF D n:=by
 simp only [dF]
 cases (D n).fA <;> rfl
theorem mY{D D':Nat→Dt}:∀ {n:Nat},(∀ i,i < n→(D' i).fA=(D i).fA)→dF D' n=dF D n
 | 0,_=>rfl
 | n+1,h=>by rw [jh,jh,h n (by omega),mY (λ i hi=>h i (by omega))]
theorem Bl{D D':Nat→Dt}{i:Nat}{v:Value}(s:(D i).fA=some v)(f:(D' i).fA=none)(d:∀ j,j≠i→(D' j).fA=(D j).fA):∀ {n:Nat},i < n→(dF D n).Perm (v::dF D' n)
 | n+1,h=>by
  rcases Nat.lt_or_ge i n with A | C
  ·have z:=Bl s f d A
   rw [jh,jh,d n (by omega)]
   cases (D n).fA with
   | none=>exact z
   | some u=>exact (List.Perm.cons u z).trans (List.Perm.swap _ _ _)
  ·obtain rfl:i=n:=by omega
   rw [jh,jh,s,f,mY (D:=D) (D':=D') λ j E=>d j (by omega)]
   exact List.Perm.refl _
theorem Mj(d:Dt):d.fA.toList.length≤d.act:=by cases d <;> simp [Dt.fA,Dt.act]
theorem vG{D:Nat→Dt}:∀ {n:Nat},(dF D n).length≤cq n (λ i=>(D i).act)
 | 0=>by simp [dF]
 | n+1=>by
  have d:=vG (D:=D) (n:=n)
  have:=Mj (D n)
  rw [jh,ew]
  simp only [cq]
  omega
theorem Bj{D:Nat→Dt}:∀ {n:Nat},(∀ i m,i < n→D i ≠ .w2 m)→(dF D n).length=cq n (λ i=>(D i).act)
 | 0,_=>by simp [dF,cq]
 | n+1,hw=>by
  have d:=Bj (D:=D) (n:=n) λ i m hi=>hw i m (by omega)
  have:(D n).fA.toList.length=(D n).act:=by
   cases h:D n with
   | w2 m=>exact absurd h (hw n m (by omega))
   | _=>simp [Dt.fA,Dt.act]
  rw [jh,ew]
  simp only [cq]
  omega
theorem vX{D:Nat→Dt}:∀ {n:Nat},cq n (λ i=>(D i).act)=0→∀ i,i < n→(D i).act=0
 | n+1,h,i,hi=>by
  simp only [cq] at h
  rcases Nat.lt_or_ge i n with d | f
  ·exact vX (by omega) i d
  ·obtain rfl:i=n:=by omega
   omega
section
variable (P:Program) (B:Base) (cf cd:Nat) (bL:ay→aj→Goroutine→Prop)
def oL(main:Bool)(K d:ay→aj→Goroutine→Prop)(m:Ms)(x:Option Th)(g:Goroutine):Prop :=
 ∃ y:Th,x=some y∧((∃ T,m=some T∧kB P B main K T y.R y.H g)∨(m=none∧d y.R y.H g))
def No(_:ay)(_:aj)(_:Goroutine):Prop:=False
def BF:Nat→ay→aj→Goroutine→Prop
 | 0=>No
 | n+1=>sy P B false cd false (sv P B (CK P B cf cd n)) Tt
def qy:Nat→List Value→ay→aj→Goroutine→Prop
 | 0,_=>sy P B true cf true (λ _=>Tt) bL
 | n+1,rem=>sy P B true cf true (qw P B rem (gr P B cf bL n)) Tt
def fW(i:Nat):Dt→Option Th→Goroutine→Prop
 | .lv n,x,g=>x=none∧QuitsIn P n g∧0 < i
 | .w1 v m,x,g=>oL P B false (ky P B cf cd v) (vU P B false cf v (W2 P B cd)) m x g∧0 < i
 | .w2 m,x,g=>oL P B false (kz P B cd) (vU P B false cd (.bool true) (Lv P)) m x g∧0 < i
 | .cl k m,x,g=>oL P B false (CK P B cf cd k) (BF P B cf cd k) m x g∧0 < i
 | .ms k sp m,x,g=>oL P B true (hZ P B cf cd bL k sp) No m x g∧i=0
 | .mr rem m,x,g=>oL P B true (gr P B cf bL rem.length rem) (qy P B cf bL rem.length rem) m x g∧i=0
inductive Ph (cf:Nat) (n:Nat) (D:Nat→Dt):Bool→Option Nat→Prop
 | gm {k sp m}:D 0 = .ms k sp m→(dF D n).Perm sp→(∀ i k m,D i ≠ .cl k m)→(∀ i m,D i ≠ .w2 m)→Ph cf n D false none
 | ff {rem m ic kc mc}:D 0 = .mr rem m→(dF D n).Perm rem→ic < n→D ic = .cl kc mc→(∀ j k m,D j = .cl k m→j=ic)→kc=cq n (λ i=>(D i).act) →
   (m=none→∀ i v,D i ≠ .w1 v none)→(mc=none→∀ i,D i ≠ .w2 none)→Ph cf n D false none
 | closed {rem m}:D 0 = .mr rem m→(dF D n).Perm rem→(∀ i k m,D i ≠ .cl k m)→(∀ i,(D i).act=0)→m≠none→Ph cf n D true (some cf)
structure PI (D:Nat→Dt) (th:Nat→Option Th) (b6:Bool) (cls:Option Nat) (s1 s2:Nat) (bI bO:Bool) (gs:Array Goroutine) (w:World) (t:Trace):Prop where
 ne:cf≠cd
 mem:dY B th [(cf,.chan 0 #[] b6 s1 s1 bI),(cd,.chan 0 #[] false s2 s2 bO)] w
 tr:c9 th [(cf,.chan 0 #[] b6 s1 s1 bI),(cd,.chan 0 #[] false s2 s2 bO)] cls w.heap.size t
 eE:∀ i g,gs[i]? = some g→fW P B cf cd bL i (D i) (th i) g
 out:∀ i,gs.size≤i→th i=none∧D i = .lv 0
 ph:Ph cf gs.size D b6 cls
 pos:0 < gs.size
end
def mu(D:Nat→Dt)(n:Nat):Nat × List Ms:=(cq n (λ i=>(D i).db),(List.range n).map λ i=>(D i).hk)
def jL(a b:Nat × List Ms):Prop:=a.1 < b.1∨(a.1=b.1∧One g3 a.2 b.2)
theorem jL.wf:WellFounded jL:=by
 have key:∀ p,∀ l,Acc jL (p,l):=by
  intro p
  induction p using Nat.strongRecOn with
  | ind p A =>
   intro l
   induction l using One.wf.induction with
   | _ l z =>
    refine ⟨_,λ y s=>?_⟩
    obtain ⟨q,m⟩:=y
    rcases s with h | ⟨d,f⟩
    ·exact A q h m
    ·simp only at d; subst d; exact z m f
 exact ⟨λ ⟨p,l⟩=>key p l⟩
theorem mR{D:Nat→Dt}{n i:Nat}{x:Dt}{a b:Ms}(hi:i < n)(hb:(D i).hk=b)(A:x.hk=a)(C:g3 a b)(F:x.db=(D i).db):jL (mu (bS D i x) n) (mu D n):=by
 refine .inr ⟨?_,?_⟩
 ·show cq n (λ j=>(bS D i x j).db)=cq n (λ j=>(D j).db)
  have:=lK (f:=λ j=>(D j).db) (g:=λ j=>(bS D i x j).db) hi (λ k s=>by simp only [bG s])
  simp only [cc] at this
  omega
 ·have e:(List.range n).map (λ j=>(bS D i x j).hk)=((List.range n).map λ j=>(D j).hk).set i a:=by
   apply List.ext_getElem?
   intro j
   rw [List.getElem?_set]
   by_cases d:i=j
   ·subst d; simp [hi,cc,A]
   ·simp only [d,if_false,List.getElem?_map]
    cases E:(List.range n)[j]? with
    | none=>rfl
    | some k =>
     have s:k=j:=by
      have:=ep.1 E
      obtain ⟨_,z⟩:=this
      simpa using z.symm
     subst s
     simp [bG (Ne.symm d)]
  show One g3 ((List.range n).map _) _
  rw [e]
  exact One.set (by simp [hi,hb]) C
theorem p5{D:Nat→Dt}{n i j:Nat}{x y:Dt}(hi:i < n)(C:j < n)(A:j≠i)(E:x.db+y.db < (D i).db+(D j).db):jL (mu (bS (bS D j y) i x) n) (mu D n):=by
 refine .inl ?_
 show cq n (λ k=>(bS (bS D j y) i x k).db) < cq n (λ k=>(D k).db)
 have s:=lK (f:=λ k=>(bS D j y k).db) (g:=λ k=>(bS (bS D j y) i x k).db) hi (λ k d=>by simp only [bG d])
 have z:=lK (f:=λ k=>(D k).db) (g:=λ k=>(bS D j y k).db) C (λ k d=>by simp only [bG d])
 simp only [cc,bG (Ne.symm A)] at s z
 omega
theorem zO{D:Nat→Dt}{n:Nat}{x y:Dt}(C:0 < n)(E:x.db+y.db < (D 0).db):jL (mu (bS (bS D n y) 0 x) (n+1)) (mu D n):=by
 refine .inl ?_
 show cq (n+1) (λ k=>(bS (bS D n y) 0 x k).db) < cq n (λ k=>(D k).db)
 have z:=lK (f:=λ k=>(D k).db) (g:=λ k=>(bS D 0 x k).db) C (λ k s=>by simp only [bG s])
 have A:cq n (λ k=>(bS (bS D n y) 0 x k).db)=cq n (λ k=>(bS D 0 x k).db):=lJ λ k s=>by
  by_cases d:k=0
  ·subst d; rw [cc,cc]
  ·rw [bG d,bG d,bG (by omega)]
 simp only [cq,A,bG (show n≠0 by omega),cc] at z ⊢
 omega
theorem kB.iq{P:Program}{B:Base}{main:Bool}{K:ay→aj→Goroutine→Prop}{T:Tree}{R:ay}{H:aj}{g:Goroutine}(h:kB P B main K T R H g)(d:∀ R H g,K R H g→g.status = .running):g.status = .running:=by
 induction T generalizing R H g with
 | node ι f s =>
  rcases h with h | ⟨h,_⟩ | ⟨R',H',i,_,h⟩
  ·exact d _ _ _ h
  ·exact h
  ·exact s i h
section
variable {P:Program} {B:Base} {cf cd:Nat} {bL:ay→aj→Goroutine→Prop} {main:Bool}
theorem ky.run{v:Value}{R:ay}{H:aj}{g:Goroutine}(h:ky P B cf cd v R H g):g.status = .running:=by obtain ⟨_,h⟩:=h; exact h.1
theorem kz.run{R:ay}{H:aj}{g:Goroutine}(h:kz P B cd R H g):g.status = .running:=by obtain ⟨_,h⟩:=h; exact h.1
theorem CK.run{k:Nat}{R:ay}{H:aj}{g:Goroutine}(h:CK P B cf cd k R H g):g.status = .running:=by
 cases k with
 | zero=>exact h.1
 | succ k=>obtain ⟨_,h⟩:=h; exact h.1
theorem hZ.run{k:Nat}{sp:List Value}{R:ay}{H:aj}{g:Goroutine}(h:hZ P B cf cd bL k sp R H g):g.status = .running:=by
 cases k <;> exact h.1
theorem gr.run{k:Nat}{rem:List Value}{R:ay}{H:aj}{g:Goroutine}(h:gr P B cf bL k rem R H g):g.status = .running:=by
 cases k <;> (obtain ⟨_,h⟩:=h; exact h.1)
theorem fW.look{i:Nat}{d:Dt}{x:Option Th}{g:Goroutine}(h:fW P B cf cd bL i d x g) :
  (g.status = .running∧∃ T,d.hk=some T)∨(g.status = .finished) ∨
  (∃ v g0 z,d = .w1 v none∧g=parked (core g0) #[scase cf v z] .send) ∨
  (∃ g0 z,d = .w2 none∧g=parked (core g0) #[scase cd (.bool true) z] .send) ∨
  (∃ k g0 z,d = .cl (k+1) none∧g=parked (core g0) #[rcase cd z] (.recv false)) ∨
  (∃ rem g0 z,d = .mr rem none∧g=parked (core g0) #[rcase cf z] (.recv true)):=by
 cases d with
 | lv n =>
  obtain ⟨_,h,_⟩:=h
  rcases h.status with h | h
  ·exact .inl ⟨h,_,rfl⟩
  ·exact .inr (.inl h)
 | w1 v m =>
  obtain ⟨⟨y,_,⟨T,rfl,h⟩ | ⟨rfl,g0,z,_,h⟩⟩,_⟩:=h
  ·exact .inl ⟨h.iq λ _ _ _=>ky.run,_,rfl⟩
  ·exact .inr (.inr (.inl ⟨v,g0,z,rfl,h⟩))
 | w2 m =>
  obtain ⟨⟨y,_,⟨T,rfl,h⟩ | ⟨rfl,g0,z,_,h⟩⟩,_⟩:=h
  ·exact .inl ⟨h.iq λ _ _ _=>kz.run,_,rfl⟩
  ·exact .inr (.inr (.inr (.inl ⟨g0,z,rfl,h⟩)))
 | cl k m =>
  obtain ⟨⟨y,_,⟨T,rfl,h⟩ | ⟨rfl,h⟩⟩,_⟩:=h
  ·exact .inl ⟨h.iq λ _ _ _=>CK.run,_,rfl⟩
  ·cases k with
   | zero=>exact h.elim
   | succ k=>obtain ⟨g0,z,_,h⟩:=h; exact .inr (.inr (.inr (.inr (.inl ⟨k,g0,z,rfl,h⟩))))
 | ms k sp m =>
  obtain ⟨⟨y,_,⟨T,rfl,h⟩ | ⟨rfl,h⟩⟩,_⟩:=h
  ·exact .inl ⟨h.iq λ _ _ _=>hZ.run,_,rfl⟩
  ·exact h.elim
 | mr rem m =>
  obtain ⟨⟨y,_,⟨T,rfl,h⟩ | ⟨rfl,h⟩⟩,_⟩:=h
  ·exact .inl ⟨h.iq λ _ _ _=>gr.run,_,rfl⟩
  ·have:∃ g0 z,g=parked (core g0) #[rcase cf z] (.recv true):=by
    generalize rem.length=k at h
    cases k <;> (obtain ⟨g0,z,_,h⟩:=h; exact ⟨g0,z,h⟩)
   obtain ⟨g0,z,h⟩:=this
   exact .inr (.inr (.inr (.inr (.inr ⟨rem,g0,z,rfl,h⟩))))
theorem fW.offers{i:Nat}{d:Dt}{x:Option Th}{g:Goroutine}(h:fW P B cf cd bL i d x g)(_:cf≠cd){c:Nat}{send:Bool}{k:Nat}(f:k∈offersAt g c send) :
  k=0∧((c=cf∧send=true∧∃ v g0 z,d = .w1 v none∧g=parked (core g0) #[scase cf v z] .send) ∨
  (c=cd∧send=true∧∃ g0 z,d = .w2 none∧g=parked (core g0) #[scase cd (.bool true) z] .send) ∨
  (c=cd∧send=false∧∃ k g0 z,d = .cl (k+1) none∧g=parked (core g0) #[rcase cd z] (.recv false)) ∨
  (c=cf∧send=false∧∃ rem g0 z,d = .mr rem none∧g=parked (core g0) #[rcase cf z] (.recv true))):=by
 rcases h.look with ⟨h,_⟩ | h | ⟨v,g0,z,s,A⟩ | ⟨g0,z,s,A⟩ | ⟨C,g0,z,s,A⟩ | ⟨rem,g0,z,s,A⟩
 ·rw [offersAt_of_not_blocked (by rw [h]; intro e; cases e)] at f; cases f
 ·rw [offersAt_of_not_blocked (by rw [h]; intro e; cases e)] at f; cases f
 all_goals (subst A; cases send)
 ·rw [offersAt_parked_send'] at f; cases f
 ·rw [offersAt_parked_send] at f
  split at f
  ·simp at f; rename_i e; exact ⟨f,.inl ⟨e.symm,rfl,v,g0,z,s,rfl⟩⟩
  ·cases f
 ·rw [offersAt_parked_send'] at f; cases f
 ·rw [offersAt_parked_send] at f
  split at f
  ·simp at f; rename_i e; exact ⟨f,.inr (.inl ⟨e.symm,rfl,g0,z,s,rfl⟩)⟩
  ·cases f
 ·rw [offersAt_parked_recv] at f
  split at f
  ·simp at f; rename_i e; exact ⟨f,.inr (.inr (.inl ⟨e.symm,rfl,C,g0,z,s,rfl⟩))⟩
  ·cases f
 ·rw [offersAt_parked_recv'] at f; cases f
 ·rw [offersAt_parked_recv] at f
  split at f
  ·simp at f; rename_i e; exact ⟨f,.inr (.inr (.inr ⟨e.symm,rfl,rem,g0,z,s,rfl⟩))⟩
  ·cases f
 ·rw [offersAt_parked_recv'] at f; cases f
theorem fW.awake{i:Nat}{d:Dt}{x:Option Th}{g:Goroutine}(h:fW P B cf cd bL i d x g):awake g:=by
 rcases h.look with ⟨h,_⟩ | h | ⟨v,g0,z,f,rfl⟩ | ⟨g0,z,f,rfl⟩ | ⟨s,g0,z,f,rfl⟩ | ⟨rem,g0,z,f,rfl⟩
 ·exact awake_of (.inl h)
 ·exact awake_of (.inr (.inr h))
 all_goals exact awake_of (.inr (.inl rfl))
theorem fW.again{i:Nat}{d:Dt}{x:Option Th}{g a A:Goroutine}{w:World}{s1 s2:Nat}{bI bO:Bool}(h:fW P B cf cd bL i d x g)(s:w.heap[cd]? = some (.chan 0 #[] false s2 s2 bO))
  (f:w.heap[cf]? = some (.chan 0 #[] false s1 s1 bI)∨((∀ v,d ≠ .w1 v none)∧∀ rem,d ≠ .mr rem none)):woken P a A w g=g:=by
 unfold woken
 split
 ·rcases h.look with ⟨h,_⟩ | h | ⟨v,g0,z,e,rfl⟩ | ⟨g0,z,e,rfl⟩ | ⟨C,g0,z,e,rfl⟩ | ⟨rem,g0,z,e,rfl⟩
  ·exact again_running _ (.inl h)
  ·exact again_running _ (.inr h)
  ·rcases f with f | f
   ·exact again_parked_open rfl f
   ·exact absurd e (f.1 v)
  ·exact again_parked_open rfl s
  ·exact again_parked_open rfl s
  ·rcases f with f | f
   ·exact again_parked_open rfl f
   ·exact absurd e (f.2 rem)
 ·rfl
end
def Q(d f:Dt):Prop:=f=d∨(∃ n n',d = .lv n∧f = .lv n')∨(∃ T,f=d.set (some T))
theorem Q.fA{d f:Dt}(h:Q d f):f.fA=d.fA:=by
 rcases h with rfl | ⟨n,n',rfl,rfl⟩ | ⟨T,rfl⟩
 ·rfl
 ·rfl
 ·cases d <;> rfl
theorem Q.act{d f:Dt}(h:Q d f):f.act=d.act:=by
 rcases h with rfl | ⟨n,n',rfl,rfl⟩ | ⟨T,rfl⟩
 ·rfl
 ·rfl
 ·cases d <;> rfl
theorem Q.cl{d f:Dt}(h:Q d f){k:Nat}{s:Ms}(e:f = .cl k s):∃ m,d = .cl k m:=by
 rcases h with rfl | ⟨n,n',rfl,rfl⟩ | ⟨T,rfl⟩
 ·exact ⟨_,e⟩
 ·cases e
 ·cases d <;> simp [Dt.set] at e
  exact ⟨_,by rw [e.1]⟩
theorem Q.Cm{d s:Dt}(h:Q d s){k:Nat}{m:Ms}(e:d = .cl k m):∃ f,s = .cl k f∧(f=m∨f≠none):=by
 subst e
 rcases h with rfl | ⟨n,n',z,A⟩ | ⟨T,rfl⟩
 ·exact ⟨_,rfl,.inl rfl⟩
 ·cases z
 ·exact ⟨_,rfl,.inr (by simp)⟩
theorem Q.JP{d f:Dt}(h:Q d f){k:Nat}{sp:List Value}{m:Ms}(e:d = .ms k sp m):∃ z,f = .ms k sp z:=by
 subst e
 rcases h with rfl | ⟨n,n',s,A⟩ | ⟨T,rfl⟩
 ·exact ⟨_,rfl⟩
 ·cases s
 ·exact ⟨_,rfl⟩
theorem Q.zN{d s:Dt}(h:Q d s){rem:List Value}{m:Ms}(e:d = .mr rem m):∃ f,s = .mr rem f∧(f=m∨f≠none):=by
 subst e
 rcases h with rfl | ⟨n,n',z,A⟩ | ⟨T,rfl⟩
 ·exact ⟨_,rfl,.inl rfl⟩
 ·cases z
 ·exact ⟨_,rfl,.inr (by simp)⟩
theorem Q.w1{d f:Dt}(h:Q d f){v:Value}(e:f = .w1 v none):d = .w1 v none:=by
 rcases h with rfl | ⟨n,n',rfl,rfl⟩ | ⟨T,rfl⟩
 ·exact e
 ·cases e
 ·cases d <;> simp [Dt.set] at e
theorem Q.w2{d f:Dt}(h:Q d f)(e:f = .w2 none):d = .w2 none:=by
 rcases h with rfl | ⟨n,n',rfl,rfl⟩ | ⟨T,rfl⟩
 ·exact e
 ·cases e
 ·cases d <;> simp [Dt.set] at e
theorem Q.Mm{d f:Dt}(h:Q d f){m:Ms}(e:f = .w2 m):∃ m,d = .w2 m:=by
 rcases h with rfl | ⟨n,n',rfl,rfl⟩ | ⟨T,rfl⟩
 ·exact ⟨_,e⟩
 ·cases e
 ·cases d <;> simp [Dt.set] at e
  exact ⟨_,rfl⟩
theorem Q.upd{D:Nat→Dt}{i:Nat}{x:Dt}(h:Q (D i) x)(j:Nat):Q (D j) (bS D i x j):=by
 by_cases d:j=i
 ·subst d; rw [cc]; exact h
 ·rw [bG d]; exact .inl rfl
theorem Ph.q{cf n:Nat}{D D':Nat→Dt}{b6:Bool}{cls:Option Nat}(h:Ph cf n D b6 cls)(d:∀ j,Q (D j) (D' j)):Ph cf n D' b6 cls:=by
 have F:dF D' n=dF D n:=mY λ i _=>(d i).fA
 have I:cq n (λ i=>(D' i).act)=cq n (λ i=>(D i).act):=lJ λ i _=>(d i).act
 cases h with
 | gm s A C hw =>
  obtain ⟨G,z⟩:=(d 0).JP s
  exact .gm z (F ▸ A) (λ i k m e=>let ⟨_,f⟩:=(d i).cl e; C i k _ f) (λ i m e=>let ⟨_,f⟩:=(d i).Mm e; hw i _ f)
 | @ff rem m ic kc mc s A N L T O V W =>
  obtain ⟨G,z,E⟩:=(d 0).zN s
  obtain ⟨Y,M,S⟩:=(d ic).Cm L
  refine .ff z (F ▸ A) N M (λ j k m e=>let ⟨_,f⟩:=(d j).cl e; T j k _ f) (by rw [I]; exact O) (λ e i v f=>?_) (λ e i f=>?_)
  ·rcases E with x | x
   ·exact V (x ▸ e) i v ((d i).w1 f)
   ·exact x e
  ·rcases S with x | x
   ·exact W (x ▸ e) i ((d i).w2 f)
   ·exact x e
 | closed s A C J hm =>
  obtain ⟨G,z,E⟩:=(d 0).zN s
  refine .closed z (F ▸ A) (λ i k m e=>let ⟨_,f⟩:=(d i).cl e; C i k _ f) (λ i=>by rw [(d i).act]; exact J i) ?_
  rcases E with x | x
  ·rw [x]; exact hm
  ·exact x
section
variable {P:Program} {B:Base} {cf cd:Nat} {bL:ay→aj→Goroutine→Prop} {D:Nat→Dt} {th:Nat→Option Th} {b6:Bool} {cls:Option Nat} {s1 s2:Nat} {bI bO:Bool} {gs:Array Goroutine} {w:World} {sl:Option (Nat × Nat)} {t:Trace}
theorem PI.at(h:PI P B cf cd bL D th b6 cls s1 s2 bI bO gs w t)(d:Nat):PI P B cf cd bL D th b6 cls s1 s2 bI bO gs (w.at d) t :=
 ⟨h.ne,h.mem.at d,h.tr,h.eE,h.out,h.ph,h.pos⟩
theorem PI.ga(h:PI P B cf cd bL D th b6 cls s1 s2 bI bO gs w t):w.heap[cf]? = some (.chan 0 #[] b6 s1 s1 bI):=h.mem.hC _ _ (by simp)
theorem PI.h5(h:PI P B cf cd bL D th b6 cls s1 s2 bI bO gs w t):w.heap[cd]? = some (.chan 0 #[] false s2 s2 bO):=h.mem.hC _ _ (by simp)
theorem PI.JY(h:PI P B cf cd bL D th b6 cls s1 s2 bI bO gs w t){j:Nat}{x:Goroutine}(z:gs[j]? = some x):b6=false∨((∀ v,D j ≠ .w1 v none)∧∀ rem,D j ≠ .mr rem none):=by
 have d:=h.eE j x z
 cases h.ph with
 | gm=>exact .inl rfl
 | ff=>exact .inl rfl
 | closed f C A s hm =>
  refine .inr ⟨λ v e=>?_,λ rem e=>?_⟩
  ·have:=s j; rw [e] at this; cases this
  ·rw [e] at d
   have:j=0:=d.2
   subst this
   rw [f] at e; cases e; exact hm rfl
theorem PI.again(h:PI P B cf cd bL D th b6 cls s1 s2 bI bO gs w t){s:Nat→Option Th}{w':World}(hm:dY B s [(cf,.chan 0 #[] b6 s1 s1 bI),(cd,.chan 0 #[] false s2 s2 bO)] w')
  {j:Nat} {x a f:Goroutine} (d:gs[j]? = some x):woken P a f w' x=x:=by
 refine (h.eE j x d).again (hm.hC _ _ (by simp)) ?_ (s1:=s1) (s2:=s2) (bI:=bI) (bO:=bO)
 rcases h.JY d with e | e
 ·subst e; exact .inl (hm.hC _ _ (by simp))
 ·exact .inr e
theorem h7{gs:Array Goroutine}{i:Nat}{g:Goroutine}(h:gs[i]? = some g):i < gs.size:=(Array.getElem?_eq_some_iff.1 h).1
theorem PI.one(h:PI P B cf cd bL D th b6 cls s1 s2 bI bO gs w t){i:Nat}(hi:i < gs.size){z:Array Goroutine}{g':Goroutine}{w':World}{F:Trace}{s:Nat→Option Th}{x:Dt}{eV:Bool}{A:Option Nat}{s1' s2':Nat}
  (E:z.size=gs.size) (G:z[i]? = some g') (I:∀ j,j≠i→z[j]? = gs[j]?)
  (hm:dY B s [(cf,.chan 0 #[] eV s1' s1' bI),(cd,.chan 0 #[] false s2' s2' bO)] w') (M:c9 s [(cf,.chan 0 #[] eV s1' s1' bI),(cd,.chan 0 #[] false s2' s2' bO)] A w'.heap.size F)
  (C:∀ j,j≠i→s j=th j) (L:fW P B cf cd bL i x (s i) g') (J:Ph cf gs.size (bS D i x) eV A) :
  PI P B cf cd bL (bS D i x) s eV A s1' s2' bI bO z w' F:=by
 refine ⟨h.ne,hm,M,λ j y f=>?_,λ j f=>?_,E ▸ J,E ▸ h.pos⟩
 ·by_cases d:j=i
  ·subst d
   rw [G] at f; cases f
   rw [cc]; exact L
  ·rw [I j d] at f
   rw [bG d,C j d]; exact h.eE j y f
 ·have d:j≠i:=by omega
  rw [bG d,C j d]; exact h.out j (by omega)
theorem PI.two(h:PI P B cf cd bL D th b6 cls s1 s2 bI bO gs w t){i j:Nat}(hi:i < gs.size)(I:j < gs.size)(Q:j≠i){E gj:Goroutine}{w':World}{G:Trace}{f:Nat→Option Th}{x y:Dt}{eV:Bool}{C:Option Nat}{s1' s2':Nat}
  (hm:dY B f [(cf,.chan 0 #[] eV s1' s1' bI),(cd,.chan 0 #[] false s2' s2' bO)] w') (O:c9 f [(cf,.chan 0 #[] eV s1' s1' bI),(cd,.chan 0 #[] false s2' s2' bO)] C w'.heap.size G)
  (F:∀ k,k≠i→k≠j→f k=th k) (M:fW P B cf cd bL i x (f i) E) (N:fW P B cf cd bL j y (f j) gj) (L:Ph cf gs.size (bS (bS D j y) i x) eV C) :
  PI P B cf cd bL (bS (bS D j y) i x) f eV C s1' s2' bI bO ((gs.setIfInBounds j gj).setIfInBounds i E) w' G:=by
 refine ⟨h.ne,hm,O,λ k z d=>?_,λ k d=>?_,by simpa using L,by simpa using h.pos⟩
 ·by_cases s:k=i
  ·subst s
   rw [fB (by simpa using hi)] at d; cases d
   rw [cc]; exact M
  ·rw [eG (Ne.symm s)] at d
   rw [bG s]
   by_cases A:k=j
   ·subst A
    rw [fB I] at d; cases d
    rw [cc]; exact N
   ·rw [eG (Ne.symm A)] at d
    rw [bG A,F k s A]; exact h.eE k z d
 ·have J:gs.size≤k:=by simpa using d
  rw [bG (by omega),bG (by omega),F k (by omega) (by omega)]; exact h.out k J
theorem PI.own(h:PI P B cf cd bL D th b6 cls s1 s2 bI bO gs w t){i:Nat}{g g':Goroutine}{R R':ay}{H H':aj}{w':World}{es:Array Event}{T:Tree}(hi:gs[i]? = some g)(G:th i=some ⟨R,H⟩)
  (E:stepG P (i == 0) g w = .go g' w' es) (z:∀ e∈es,eP R H w.heap.size w'.heap.size e) (hu:c5 B R H w R' H' w') (C:fW P B cf cd bL i ((D i).set (some T)) (some ⟨R',H'⟩) g') :
  ∃ d ops,runT P (crowd gs w sl) i=(.next (crowd d w' sl),ops)∧d.size=gs.size∧PI P B cf cd bL (bS D i ((D i).set (some T))) (eF th i (some ⟨R',H'⟩)) b6 cls s1 s2 bI bO d w' (t++ops):=by
 obtain ⟨hm,F⟩:=rV h.mem h.tr G z hu g.frame.fn g.frame.place
 have s:=h7 hi
 refine ⟨_,_,runT_crowd_go (sl:=sl) hi E,by simp,h.one s (by simp) (fB (by simpa using s)) (λ j f=>?_) hm F (λ j f=>dK f) (by rw [eS]; exact C) (h.ph.q λ j=>Q.upd (.inr (.inr ⟨T,rfl⟩)) j)⟩
 rw [eG (Ne.symm f),Array.getElem?_map]
 cases A:gs[j]? with
 | none=>rfl
 | some x=>rw [Option.map_some,h.again hm A]
theorem PI.quit(h:PI P B cf cd bL D th b6 cls s1 s2 bI bO gs w t){i n:Nat}{g g':Goroutine}(hi:gs[i]? = some g)(f:D i = .lv (n+1))(L:∀ w,stepG P false g w = .go g' w #[])(J:QuitsIn P n g') :
  ∃ d,runT P (crowd gs w sl) i=(.next (crowd d w sl),#[])∧d.size=gs.size∧PI P B cf cd bL (bS D i (.lv n)) th b6 cls s1 s2 bI bO d w t:=by
 have z:=h7 hi
 have C:=h.eE i g hi
 rw [f] at C
 obtain ⟨G,_,I⟩:=C
 have F:(i == 0)=false:=by simp; omega
 have A:=runT_crowd_go (P:=P) (sl:=sl) (w:=w) hi (by rw [F]; exact L w)
 rw [ofEvents_none] at A
 refine ⟨_,A,by simp,h.one z (by simp) (fB (by simpa using z)) (λ j s=>?_) h.mem h.tr (λ j s=>rfl) ⟨G,J,I⟩ (h.ph.q λ j=>Q.upd (.inr (.inl ⟨_,_,f,rfl⟩)) j)⟩
 rw [eG (Ne.symm s),Array.getElem?_map]
 cases E:gs[j]? with
 | none=>rfl
 | some x=>rw [Option.map_some,h.again h.mem E]
theorem PI.part(h:PI P B cf cd bL D th b6 cls s1 s2 bI bO gs w t){i c j k:Nat}{send:Bool}(E:(j,k)∈partners (gs.setIfInBounds i Go.Conc.ph) c send) :
  j≠i∧k=0∧∃ x,gs[j]? = some x∧((c=cf∧send=true∧∃ v g0 z,D j = .w1 v none∧x=parked (core g0) #[scase cf v z] .send) ∨
  (c=cd∧send=true∧∃ g0 z,D j = .w2 none∧x=parked (core g0) #[scase cd (.bool true) z] .send) ∨
  (c=cd∧send=false∧∃ k g0 z,D j = .cl (k+1) none∧x=parked (core g0) #[rcase cd z] (.recv false)) ∨
  (c=cf∧send=false∧∃ rem g0 z,D j = .mr rem none∧x=parked (core g0) #[rcase cf z] (.recv true))):=by
 obtain ⟨x,d,f⟩:=mem_partners.1 E
 rcases getElem?_stand gs i j x d with ⟨_,rfl⟩ | ⟨C,d⟩
 ·rw [offersAt_ph] at f; cases f
 ·obtain ⟨s,A⟩:=(h.eE j x d).offers h.ne f
  exact ⟨C,s,x,d,A⟩
theorem uU{a b c s cap n:Nat}{f1 f2:FuncId}{p1 p2:String}(f:c < n) :
  (∀ op∈(#[⟨a,f1,p1,.send c s⟩,⟨b,f2,p2,.recv c s cap⟩,⟨a,f1,p1,.sendDone c s⟩,⟨b,f2,p2,.recvDone c s⟩]:Trace),op.act.touch? = none) ∧
  (∀ op∈(#[⟨a,f1,p1,.send c s⟩,⟨b,f2,p2,.recv c s cap⟩,⟨a,f1,p1,.sendDone c s⟩,⟨b,f2,p2,.recvDone c s⟩]:Trace),op.act.low n) ∧
  Wordless (#[⟨a,f1,p1,.send c s⟩,⟨b,f2,p2,.recv c s cap⟩,⟨a,f1,p1,.sendDone c s⟩,⟨b,f2,p2,.recvDone c s⟩]:Trace):=by
 refine ⟨λ op d=>?_,λ op d=>?_,λ op d m hm=>?_⟩
 all_goals (simp only [List.mem_toArray,cO,List.not_mem_nil,or_false] at d)
 ·rcases d with rfl | rfl | rfl | rfl <;> rfl
 ·rcases d with rfl | rfl | rfl | rfl <;> exact f
 ·rcases d with rfl | rfl | rfl | rfl <;> cases hm
theorem dY.vp{s1':Nat}(f:cf≠cd)(h:dY B th [(cf,.chan 0 #[] b6 s1 s1 bI),(cd,.chan 0 #[] false s2 s2 bO)] w)(eV:Bool) :
  dY B th [(cf,.chan 0 #[] eV s1' s1' bI),(cd,.chan 0 #[] false s2 s2 bO)] { w with heap:=w.heap.setIfInBounds cf (.chan 0 #[] eV s1' s1' bI) } :=
 h.Ax (c:=cf) (o:=.chan 0 #[] b6 s1 s1 bI) (by simp) λ x y d=>by
  simp only [cO,List.not_mem_nil,or_false,Prod.mk.injEq] at d ⊢
  rcases d with ⟨rfl,rfl⟩ | ⟨rfl,rfl⟩
  ·exact .inl ⟨rfl,rfl⟩
  ·exact .inr ⟨Ne.symm f,.inr ⟨rfl,rfl⟩⟩
theorem dY.Lt{s2':Nat}(f:cf≠cd)(h:dY B th [(cf,.chan 0 #[] b6 s1 s1 bI),(cd,.chan 0 #[] false s2 s2 bO)] w) :
  dY B th [(cf,.chan 0 #[] b6 s1 s1 bI),(cd,.chan 0 #[] false s2' s2' bO)] { w with heap:=w.heap.setIfInBounds cd (.chan 0 #[] false s2' s2' bO) } :=
 h.Ax (c:=cd) (o:=.chan 0 #[] false s2 s2 bO) (by simp) λ x y d=>by
  simp only [cO,List.not_mem_nil,or_false,Prod.mk.injEq] at d ⊢
  rcases d with ⟨rfl,rfl⟩ | ⟨rfl,rfl⟩
  ·exact .inr ⟨f,.inl ⟨rfl,rfl⟩⟩
  ·exact .inl ⟨rfl,rfl⟩
theorem c9.qU{n s1' s2':Nat}{eV:Bool}(h:c9 th [(cf,.chan 0 #[] b6 s1 s1 bI),(cd,.chan 0 #[] false s2 s2 bO)] cls n t):c9 th [(cf,.chan 0 #[] eV s1' s1' bI),(cd,.chan 0 #[] false s2' s2' bO)] cls n t :=
 h.xc λ x y d=>by
  simp only [cO,List.not_mem_nil,or_false,Prod.mk.injEq] at d
  rcases d with ⟨rfl,rfl⟩ | ⟨rfl,rfl⟩
  ·exact ⟨_,by simp; exact .inl rfl⟩
  ·exact ⟨_,List.mem_cons_of_mem _ (List.mem_singleton.2 rfl)⟩
end
theorem kj{a b:Goroutine}{cs cs':Array CommCase}{z A:CommShape}(h:parked a cs z=parked b cs' A):cs=cs'∧z=A∧∀ v,Conc.served a v=Conc.served b v:=by
 obtain ⟨f,c,s,d,o⟩:=a
 obtain ⟨F,C,s',E,o'⟩:=b
 simp only [parked,Goroutine.mk.injEq,eO,Prod.mk.injEq] at h
 obtain ⟨rfl,rfl,_,rfl,rfl,rfl⟩:=h
 exact ⟨rfl,rfl,λ _=>rfl⟩
section
variable {P:Program} {B:Base} {cf cd:Nat} {bL:ay→aj→Goroutine→Prop} {D:Nat→Dt} {th:Nat→Option Th} {b6:Bool} {cls:Option Nat} {s1 s2:Nat} {bI bO:Bool} {gs:Array Goroutine} {w:World} {sl:Option (Nat × Nat)} {t:Trace}
def Nx(P:Program)(B:Base)(cf cd:Nat)(bL:ay→aj→Goroutine→Prop)(D:Nat→Dt)(bI bO:Bool)(gs:Array Goroutine)(w:World)(sl:Option (Nat × Nat))(t:Trace)(i:Nat):Prop :=
 ∃ d w' ops D' s eV f s1' s2',runT P (crowd gs w sl) i=(.next (crowd d w' sl),ops)∧jL (mu D' d.size) (mu D gs.size)∧PI P B cf cd bL D' s eV f s1' s2' bI bO d w' (t++ops)
theorem PI.mV(h:PI P B cf cd bL D th b6 cls s1 s2 bI bO gs w t){i:Nat}(d:0 < (D i).act∨(∃ k m,D i = .cl k m)∨(∃ k sp m,D i = .ms k sp m)∧i=0):b6=false∧cls=none:=by
 cases h.ph with
 | gm=>exact ⟨rfl,rfl⟩
 | ff=>exact ⟨rfl,rfl⟩
 | closed f A z s hm =>
  rcases d with d | ⟨k,m,e⟩ | ⟨⟨k,sp,m,e⟩,rfl⟩
  ·rw [s i] at d; cases d
  ·exact absurd e (z i k m)
  ·rw [f] at e; cases e
theorem PI.there(h:PI P B cf cd bL D th b6 cls s1 s2 bI bO gs w t){i:Nat}(d:∀ n,D i ≠ .lv n):∃ g,gs[i]? = some g:=by
 rcases Nat.lt_or_ge i gs.size with s | f
 ·exact ⟨_,hX s⟩
 ·exact absurd (h.out i f).2 (d 0)
theorem PI.zY(h:PI P B cf cd bL D th b6 cls s1 s2 bI bO gs w t){i:Nat}{rem:List Value}(s:D i = .mr rem none) :
  i=0∧∃ g0 z y,gs[0]? = some (parked (core g0) #[rcase cf z] (.recv true))∧th 0=some y∧qy P B cf bL rem.length rem y.R y.H (parked (core g0) #[rcase cf z] (.recv true)):=by
 obtain ⟨g,A⟩:=h.there (i:=i) (by rw [s]; intro n e; cases e)
 have f:=h.eE i g A
 have C:=f.look
 rw [s] at f C
 obtain ⟨⟨y,E,⟨T,e,_⟩ | ⟨_,d⟩⟩,rfl⟩:=f
 ·cases e
 rcases C with ⟨_,T,e⟩ | e | ⟨v,g0,z,e,_⟩ | ⟨g0,z,e,_⟩ | ⟨k,g0,z,e,_⟩ | ⟨F,g0,z,e,rfl⟩
 ·cases e
 ·exfalso
  have:g.status = .blocked:=by
   generalize rem.length=k at d
   cases k <;> (obtain ⟨g0,z,_,rfl⟩:=d; rfl)
  rw [this] at e; cases e
 ·cases e
 ·cases e
 ·cases e
 ·exact ⟨rfl,g0,z,y,A,E,d⟩
theorem PI.vf(h:PI P B cf cd bL D th b6 cls s1 s2 bI bO gs w t){i k:Nat}(d:D i = .cl k none) :
  ∃ C,k=C+1∧0 < i∧∃ g0 z y,gs[i]? = some (parked (core g0) #[rcase cd z] (.recv false))∧th i=some y∧AtR P B false cd false (sv P B (CK P B cf cd C)) Tt z y.R y.H g0:=by
 obtain ⟨g,f⟩:=h.there (i:=i) (by rw [d]; intro n e; cases e)
 have A:=h.eE i g f
 rw [d] at A
 obtain ⟨⟨y,G,⟨T,e,_⟩ | ⟨_,s⟩⟩,F⟩:=A
 ·cases e
 cases k with
 | zero=>exact s.elim
 | succ k=>obtain ⟨g0,z,E,rfl⟩:=s; exact ⟨k,rfl,F,g0,z,y,f,G,E⟩
theorem PI.zZ(h:PI P B cf cd bL D th b6 cls s1 s2 bI bO gs w t){i:Nat}{v:Value}(d:D i = .w1 v none) :
  0 < i∧∃ g0 z y,gs[i]? = some (parked (core g0) #[scase cf v z] .send)∧th i=some y∧m0 P B false cf v (W2 P B cd) z y.R y.H g0:=by
 obtain ⟨g,f⟩:=h.there (i:=i) (by rw [d]; intro n e; cases e)
 have s:=h.eE i g f
 rw [d] at s
 obtain ⟨⟨y,E,⟨T,e,_⟩ | ⟨_,g0,z,A,rfl⟩⟩,C⟩:=s
 ·cases e
 exact ⟨C,g0,z,y,f,E,A⟩
theorem PI.z6(h:PI P B cf cd bL D th b6 cls s1 s2 bI bO gs w t){i:Nat}(d:D i = .w2 none) :
  0 < i∧∃ g0 z y,gs[i]? = some (parked (core g0) #[scase cd (.bool true) z] .send)∧th i=some y∧m0 P B false cd (.bool true) (Lv P) z y.R y.H g0:=by
 obtain ⟨g,f⟩:=h.there (i:=i) (by rw [d]; intro n e; cases e)
 have s:=h.eE i g f
 rw [d] at s
 obtain ⟨⟨y,E,⟨T,e,_⟩ | ⟨_,g0,z,A,rfl⟩⟩,C⟩:=s
 ·cases e
 exact ⟨C,g0,z,y,f,E,A⟩
theorem rJ{i j c:Nat}{x:Goroutine}{send:Bool}(d:gs[j]? = some x)(f:j≠i)(s:0∈offersAt x c send):partners (gs.setIfInBounds i Go.Conc.ph) c send≠[]:=by
 intro e
 have:(j,0)∈partners (gs.setIfInBounds i Go.Conc.ph) c send:=mem_partners.2 ⟨x,stand_get f d,s⟩
 rw [e] at this; cases this
theorem jK{n i:Nat}{x:Dt}(f:x.fA=(D i).fA):dF (bS D i x) n=dF D n:=mY λ j _=>by
 by_cases d:j=i
 ·subst d; rw [cc,f]
 ·rw [bG d]
theorem jO{n i:Nat}{x:Dt}(f:x.act=(D i).act):cq n (λ j=>(bS D i x j).act)=cq n (λ j=>(D j).act):=lJ λ j _=>by
 by_cases d:j=i
 ·subst d; rw [cc,f]
 ·rw [bG d]
theorem PI.zC(h:PI P B cf cd bL D th b6 cls s1 s2 bI bO gs w t){j:Nat}{v:Value}{m ap:Ms}{rem:List Value}{y L:Th}(E:D j = .w1 v m)(C:D 0 = .mr rem ap)(ae:th j=some y)(ad:th 0=some L){g0 gj:Goroutine}
  (ak:W2 P B cd y.R y.H gj) (ag:∀ k,rem.length=k+1→qw P B rem (gr P B cf bL k) v L.R L.H g0) {u:Trace} (hu:(∀ op∈u,op.act.touch? = none)∧(∀ op∈u,op.act.low w.heap.size)∧Wordless u) (d:Nat) :
  ∃ Q S,Q.db+S.db < (D 0).db+(D j).db∧j≠0∧j < gs.size ∧
   PI P B cf cd bL (bS (bS D j S) 0 Q) th b6 cls (s1+1) s2 bI bO ((gs.setIfInBounds j gj).setIfInBounds 0 g0) ((w.at d).setChan cf 0 #[] false (s1+1) (s1+1) bI) (t++u) ∧
   PI P B cf cd bL (bS (bS D 0 Q) j S) th b6 cls (s1+1) s2 bI bO ((gs.setIfInBounds 0 g0).setIfInBounds j gj) ((w.at d).setChan cf 0 #[] false (s1+1) (s1+1) bI) (t++u):=by
 obtain ⟨rfl,rfl⟩:=h.mV (i:=j) (.inl (by rw [E]; exact Nat.one_pos))
 obtain ⟨x,ao⟩:=h.there (i:=j) (by rw [E]; intro n e; cases e)
 have N:=h7 ao
 have F:j≠0:=by intro e; subst e; rw [C] at E; cases E
 cases h.ph with
 | gm J=>rw [C] at J; cases J
 | @ff au ar ic kc mc J am W G ab M aq ac =>
  rw [C] at J; cases J
  obtain ⟨A,V⟩:=ak
  have an:=Bl (D:=D) (D':=bS D j (.w2 (some A))) (i:=j) (v:=v) (by rw [E]; rfl) (by rw [cc]; rfl) (λ k M=>by rw [bG M]) N
  have aa:=am.symm.trans an
  have hlen:=aa.length_eq
  simp only [List.length_cons] at hlen
  obtain ⟨I,T⟩:=ag _ hlen _ aa
  have Z:ic≠j:=by intro e; subst e; rw [E] at G; cases G
  have Y:ic≠0:=by intro e; subst e; rw [C] at G; cases G
  refine ⟨.mr (dF (bS D j (.w2 (some A))) gs.size) (some I),.w2 (some A),by rw [C,E]; simp only [Dt.db]; omega,F,N,?_,?_⟩
  ·have hm:=(h.mem.at d).vp (s1':=s1+1) h.ne false
   refine h.two h.pos N F hm (show c9 _ _ _ _ (t++u) from ?_) (λ _ _ _=>rfl) ⟨⟨L,ad,.inl ⟨I,rfl,T⟩⟩,rfl⟩ ⟨⟨y,ae,.inl ⟨A,rfl,V⟩⟩,by omega⟩ ?_
   ·have:=(h.tr.mute hu.1 hu.2.1 hu.2.2).qU (s1':=s1+1) (s2':=s2) (eV:=false)
    simpa [World.setChan,World.at] using this
   ·refine .ff (ic:=ic) (kc:=kc) (mc:=mc) (cc _ _ _) ?_ W (by rw [bG Y,bG Z]; exact G) (λ k O m e=>?_) ?_ (λ e=>by cases e) (λ e k f=>?_)
    ·rw [jK (by rw [bG (Ne.symm F),C]; rfl)]
    ·by_cases s:k=0
     ·subst s; rw [cc] at e; cases e
     ·rw [bG s] at e
      by_cases z:k=j
      ·subst z; rw [cc] at e; cases e
      ·rw [bG z] at e; exact ab k O m e
    ·rw [jO (by rw [bG (Ne.symm F),C]; rfl),jO (by rw [E]; rfl)]; exact M
    ·by_cases s:k=0
     ·subst s; rw [cc] at f; cases f
     ·rw [bG s] at f
      by_cases z:k=j
      ·subst z; rw [cc] at f; cases f
      ·rw [bG z] at f; exact ac e k f
  ·have hm:=(h.mem.at d).vp (s1':=s1+1) h.ne false
   refine h.two N h.pos (Ne.symm F) hm (show c9 _ _ _ _ (t++u) from ?_) (λ _ _ _=>rfl) ⟨⟨y,ae,.inl ⟨A,rfl,V⟩⟩,by omega⟩ ⟨⟨L,ad,.inl ⟨I,rfl,T⟩⟩,rfl⟩ ?_
   ·have:=(h.tr.mute hu.1 hu.2.1 hu.2.2).qU (s1':=s1+1) (s2':=s2) (eV:=false)
    simpa [World.setChan,World.at] using this
   ·have af:bS (bS D 0 (.mr (dF (bS D j (.w2 (some A))) gs.size) (some I))) j (.w2 (some A))=bS (bS D j (.w2 (some A))) 0 (.mr (dF (bS D j (.w2 (some A))) gs.size) (some I)):=by
     funext k
     by_cases s:k=0
     ·subst s; rw [bG (Ne.symm F),cc,cc]
     ·rw [bG s (D:=bS D j _)]
      by_cases z:k=j
      ·subst z; rw [cc,cc]
      ·rw [bG z,bG s,bG z]
    rw [af]
    refine .ff (ic:=ic) (kc:=kc) (mc:=mc) (cc _ _ _) ?_ W (by rw [bG Y,bG Z]; exact G) (λ k O m e=>?_) ?_ (λ e=>by cases e) (λ e k f=>?_)
    ·rw [jK (by rw [bG (Ne.symm F),C]; rfl)]
    ·by_cases s:k=0
     ·subst s; rw [cc] at e; cases e
     ·rw [bG s] at e
      by_cases z:k=j
      ·subst z; rw [cc] at e; cases e
      ·rw [bG z] at e; exact ab k O m e
    ·rw [jO (by rw [bG (Ne.symm F),C]; rfl),jO (by rw [E]; rfl)]; exact M
    ·by_cases s:k=0
     ·subst s; rw [cc] at f; cases f
     ·rw [bG s] at f
      by_cases z:k=j
      ·subst z; rw [cc] at f; cases f
      ·rw [bG z] at f; exact ac e k f
theorem PI.zD(h:PI P B cf cd bL D th b6 cls s1 s2 bI bO gs w t){j ic k:Nat}{m mc:Ms}{y I:Th}(C:D j = .w2 m)(E:D ic = .cl (k+1) mc)(aG:th j=some y)(W:th ic=some I){gc gj:Goroutine}
  (av:Lv P y.R y.H gj) (ar:Own P B false (CK P B cf cd k) I.R I.H gc) {f1 f2:FuncId} {p1 p2:String} (d:Nat) :
  ∃ M Y,M.db+Y.db < (D ic).db+(D j).db∧j≠ic∧j < gs.size∧ic < gs.size ∧
   PI P B cf cd bL (bS (bS D j Y) ic M) (eF th j none) b6 cls s1 (s2+1) bI bO ((gs.setIfInBounds j gj).setIfInBounds ic gc) ((w.at d).setChan cd 0 #[] false (s2+1) (s2+1) bO) (t++#[⟨j,f1,p1,.send cd s2⟩,⟨ic,f2,p2,.recv cd s2 0⟩,⟨j,f1,p1,.sendDone cd s2⟩,⟨ic,f2,p2,.recvDone cd s2⟩]) ∧
   PI P B cf cd bL (bS (bS D ic M) j Y) (eF th j none) b6 cls s1 (s2+1) bI bO ((gs.setIfInBounds ic gc).setIfInBounds j gj) ((w.at d).setChan cd 0 #[] false (s2+1) (s2+1) bO) (t++#[⟨j,f1,p1,.send cd s2⟩,⟨ic,f2,p2,.recv cd s2 0⟩,⟨j,f1,p1,.sendDone cd s2⟩,⟨ic,f2,p2,.recvDone cd s2⟩]):=by
 obtain ⟨rfl,rfl⟩:=h.mV (i:=j) (.inl (by rw [C]; exact Nat.one_pos))
 obtain ⟨x,an⟩:=h.there (i:=j) (by rw [C]; intro n e; cases e)
 obtain ⟨M,ao⟩:=h.there (i:=ic) (by rw [E]; intro n e; cases e)
 have Q:=h7 an
 have V:=h7 ao
 have F:j≠ic:=by intro e; subst e; rw [E] at C; cases C
 have ag:=h.eE j x an
 rw [C] at ag
 have ae:=ag.2
 have af:=h.eE ic M ao
 rw [E] at af
 have ad:=af.2
 cases h.ph with
 | gm az ab aB hw=>exact absurd C (hw j m)
 | @ff rem aI aH kc aJ aq ab au aa am aC ax aF =>
  obtain rfl:=am ic _ _ E
  rw [E] at aa; cases aa
  obtain ⟨n,S⟩:=av
  obtain ⟨T,Z⟩:=ar
  have hu:=uU (a:=j) (b:=ic) (c:=cd) (s:=s2) (cap:=0) (n:=w.heap.size) (f1:=f1) (f2:=f2) (p1:=p1) (p2:=p2) (eQ h.h5)
  have ak:c9 (eF th j none) [(cf,.chan 0 #[] false s1 s1 bI),(cd,.chan 0 #[] false (s2+1) (s2+1) bO)] none w.heap.size (t++#[⟨j,f1,p1,.send cd s2⟩,⟨ic,f2,p2,.recv cd s2 0⟩,⟨j,f1,p1,.sendDone cd s2⟩,⟨ic,f2,p2,.recvDone cd s2⟩]):=by
   refine (h.tr.JS (i:=j) hu.1 hu.2.1 hu.2.2 λ q S=>⟨ic,I,Ne.symm F,W,?_⟩).qU
   exact FQ (c:=cd) (s:=s2) (h.tr.quiet.append hu.2.2) (p:=t.size) (q:=t.size+3) (ct _) (by simp; rfl) rfl rfl (by simp; rfl) rfl rfl S
  have hm:=((h.mem.at d).Lt (s2':=s2+1) h.ne).drop (i:=j)
  have ac:∀ D',(∀ L,L≠ic→L≠j→D' L=D L)→D' ic = .cl k (some T)→D' j = .lv n→Ph cf gs.size D' false none:=by
   intro D' J N O
   have aw:dF D' gs.size=dF D gs.size:=mY λ i _=>by
    by_cases z:i=ic
    ·subst z; rw [N,E]; rfl
    ·by_cases A:i=j
     ·subst A; rw [O,C]; rfl
     ·rw [J i z A]
   have aA:cq gs.size (λ i=>(D' i).act)+1=cq gs.size (λ i=>(D i).act):=by
    have:=lK (f:=λ i=>(D i).act) (g:=λ i=>(D' i).act) Q (λ i hi=>by
     by_cases z:i=ic
     ·subst z; simp only [N,E]; rfl
     ·simp only [J i z hi])
    have e1:(Dt.lv n).act=0:=rfl
    have ap:(Dt.w2 m).act=1:=rfl
    simp only [O,C,e1,ap] at this
    omega
   refine .ff (ic:=ic) (kc:=k) (mc:=some T) (by rw [J 0 (by omega) (by omega)]; exact aq) (aw ▸ ab) au N (λ i L m e=>?_) (by omega) (λ e i v G=>?_) (λ e=>by cases e)
   ·by_cases z:i=ic
    ·exact z
    ·by_cases A:i=j
     ·subst A; rw [O] at e; cases e
     ·rw [J i z A] at e; exact am i _ _ e
   ·by_cases z:i=ic
    ·subst z; rw [N] at G; cases G
    ·by_cases A:i=j
     ·subst A; rw [O] at G; cases G
     ·rw [J i z A] at G; exact ax e i v G
  refine ⟨.cl k (some T),.lv n,by rw [C,E]; simp only [Dt.db]; omega,F,Q,V,?_,?_⟩
  ·refine h.two V Q F hm (show c9 _ _ _ _ _ from by simpa [World.setChan,World.at] using ak) (λ i z A=>dK A) ⟨⟨I,by rw [dK (Ne.symm F)]; exact W,.inl ⟨T,rfl,Z⟩⟩,ad⟩ ⟨eS _ _ _,S,ae⟩ ?_
   exact ac _ (λ i z A=>by rw [bG z,bG A]) (cc _ _ _) (by rw [bG F,cc])
  ·refine h.two Q V (Ne.symm F) hm (show c9 _ _ _ _ _ from by simpa [World.setChan,World.at] using ak) (λ i z A=>dK z) ⟨eS _ _ _,S,ae⟩ ⟨⟨I,by rw [dK (Ne.symm F)]; exact W,.inl ⟨T,rfl,Z⟩⟩,ad⟩ ?_
   exact ac _ (λ i z A=>by rw [bG A,bG z]) (by rw [bG (Ne.symm F),cc]) (cc _ _ _)
end
theorem c9.JR{th:Nat→Option Th}{ch:aj}{n i c:Nat}{t:Trace}{y:MemOp}(h:c9 th ch none n t)(L:y.g=i)(A:y.act = .close c)(C:c < n):c9 (eF th i none) ch (some c) n (t++#[y]):=by
 have hu:∀ op∈#[y],op.act.touch? = none:=λ op f=>by simp at f; subst f; rw [A]; rfl
 have hw:Wordless #[y]:=λ op f m hm=>by simp at f; subst f; rw [A] at hm; cases hm
 have hm:=h.mute hu (λ op f=>by simp at f; subst f; rw [A]; exact C) hw
 have key:∀ j z,eF th i none j=some z→th j=some z:=λ j z d=>by
  by_cases s:j=i
  ·subst s; rw [eS] at d; cases d
  ·rwa [dK s] at d
 refine ⟨λ j z d=>hm.own j z (key j z d),λ j z d=>hm.read j z (key j z d),λ c o C j z d=>hm.cD c o C j z (key j z d),hm.low,λ k a I J=>?_,hm.clean,hm.quiet⟩
 rcases h.all k a (qk hu I) J with ⟨j,z,d,F⟩ | ⟨M,p,G,_⟩
 ·by_cases s:j=i
  ·subst s
   have E:(t++#[y])[t.size]? = some y:=by simp
   exact .inr ⟨c,t.size,rfl,by rw [act?_of E,A],.inr (F.hb_new (ct _) E L)⟩
  ·exact .inl ⟨j,z,by rw [dK s]; exact d,F.app _⟩
 ·cases G
theorem Mb{th:Nat→Option Th}{i:Nat}{x:Th}(h:th i=some x):eF th i (some x)=th:=by
 funext j
 by_cases d:j=i
 ·subst d; rw [eS,h]
 ·rw [dK d]
section
variable {P:Program} {B:Base} {cf cd:Nat} {bL:ay→aj→Goroutine→Prop} {D:Nat→Dt} {th:Nat→Option Th} {b6:Bool} {cls:Option Nat} {s1 s2:Nat} {bI bO:Bool} {gs:Array Goroutine} {w:World} {sl:Option (Nat × Nat)} {t:Trace} {g:Goroutine} {y:Th}
theorem PI.LP(h:PI P B cf cd bL D th b6 cls s1 s2 bI bO gs w t){i:Nat}{v:Value}{T:Tree}(hi:gs[i]? = some g)(C:D i = .w1 v (some T))(aB:0 < i)(N:th i=some y)(av:ky P B cf cd v y.R y.H g):Nx P B cf cd bL D bI bO gs w sl t i:=by
 obtain ⟨rfl,rfl⟩:=h.mV (i:=i) (.inl (by rw [C]; exact Nat.one_pos))
 obtain ⟨z,aC,ab,aa⟩:=av
 have ap:(i == 0)=false:=by simp; omega
 have ac:stepG P (i == 0) g w = .comm (core g) #[scase cf v z] true .send w #[]:=by rw [ap]; exact ab w (h.mem.fits i y N)
 have I:=h7 hi
 by_cases L:partners (gs.setIfInBounds i Go.Conc.ph) cf false=[]
 ·have E:=crowd_waits (sl:=sl) hi ac (λ aO V=>by simp at V; subst V; exact ways_send_none h.ga (by simp) L)
  rw [ofEvents_none] at E
  refine ⟨_,_,_,bS D i (.w1 v none),th,false,none,s1,s2,E,?_,?_⟩
  ·simpa using mR (x:=.w1 v none) I (by rw [C]; rfl) rfl .none (by rw [C]; rfl)
  ·refine h.one I (by simp) (fB I) (λ j A=>eG (Ne.symm A)) h.mem (by simpa using h.tr) (λ _ _=>rfl) ⟨⟨y,N,.inr ⟨rfl,g,z,⟨aC,ab,aa⟩,rfl⟩⟩,aB⟩ ?_
   have Q:dF (bS D i (.w1 v none)) gs.size=dF D gs.size:=jK (by rw [C]; rfl)
   have ad:cq gs.size (λ j=>(bS D i (.w1 v none) j).act)=cq gs.size (λ j=>(D j).act):=jO (by rw [C]; rfl)
   cases h.ph with
   | gm G M an hw =>
    refine .gm (by rw [bG (by omega)]; exact G) (Q ▸ M) (λ j k m e=>?_) (λ j m e=>?_)
    ·by_cases A:j=i
     ·subst A; rw [cc] at e; cases e
     ·rw [bG A] at e; exact an j k m e
    ·by_cases A:j=i
     ·subst A; rw [cc] at e; cases e
     ·rw [bG A] at e; exact hw j m e
   | @ff rem m ic kc mc G M aq J aI aw aU aJ =>
    refine .ff (ic:=ic) (by rw [bG (by omega)]; exact G) (Q ▸ M) aq (by rw [bG (by intro e; subst e; rw [C] at J; cases J)]; exact J) (λ j k m e=>?_) (by rw [ad]; exact aw) (λ e=>?_) (λ e j F=>?_)
    ·by_cases A:j=i
     ·subst A; rw [cc] at e; cases e
     ·rw [bG A] at e; exact aI j k m e
    ·subst e
     obtain ⟨_,g0,aY,O,ao,_⟩:=h.zY G
     exact absurd L (rJ ao (by omega) (by rw [offersAt_parked_recv]; simp))
    ·by_cases A:j=i
     ·subst A; rw [cc] at F; cases F
     ·rw [bG A] at F; exact aJ e j F
 ·obtain ⟨j,gj,a1,aV,d,ar,Z,E⟩:=crowd_send_meets_some (sl:=sl) hi ac h.ga L (λ j k au=>by
   obtain ⟨ae,af,x,ag,f⟩:=h.part au
   rcases f with ⟨_,f,_⟩ | ⟨_,f,_⟩ | ⟨f,_⟩ | ⟨_,_,rem,g0,z0,_,rfl⟩
   ·cases f
   ·cases f
   ·exact absurd f h.ne
   ·exact ⟨af,ae,_,_,_,ag⟩)
  obtain ⟨_,az⟩:=(h.eE j _ Z).offers h.ne (c:=cf) (send:=false) (k:=0) (by rw [offersAt_parked_recv]; simp)
  rcases az with ⟨_,f,_⟩ | ⟨_,f,_⟩ | ⟨f,_⟩ | ⟨_,_,rem,g0,z0,W,he⟩
  ·cases f
  ·cases f
  ·exact absurd f h.ne
  obtain ⟨_,aH,aT⟩:=kj he
  subst aH
  obtain ⟨rfl,S,aN,O,Y,aK,aA⟩:=h.zY W
  rw [Z] at Y
  obtain ⟨_,_,aG⟩:=kj (ey Y)
  rw [finishComm_recv,finishComm_send,ofEvents_none,aG] at E
  have ax:=h.zC (j:=i) (v:=v) C W N aK (gj:=Conc.served (core g) undef) (g0:=Conc.served (core S) (recvd true v true)) aa (λ k hlen=>by
   have:qy P B cf bL (k+1) rem O.R O.H (parked (core S) #[rcase cf aN] (.recv true)):=hlen ▸ aA
   obtain ⟨aP,z1,am,e1⟩:=this
   obtain ⟨_,_,aF⟩:=kj e1
   rw [aF]; exact am.2.2.1 v) (uU (a:=i) (b:=0) (s:=s1) (cap:=0) (f1:=(core g).frame.fn) (f2:=gj.frame.fn) (p1:=(core g).frame.place) (p2:=gj.frame.place) (eQ h.ga)) d
  obtain ⟨aL,aM,aR,_,_,_,ak⟩:=ax
  refine ⟨_,_,_,_,_,_,_,_,_,E,?_,by simpa using ak⟩
  simpa using p5 (x:=aM) (y:=aL) I h.pos ar (by omega)
theorem PI.LQ(h:PI P B cf cd bL D th b6 cls s1 s2 bI bO gs w t){i:Nat}{T:Tree}(hi:gs[i]? = some g)(s:D i = .w2 (some T))(aw:0 < i)(J:th i=some y)(aq:kz P B cd y.R y.H g):Nx P B cf cd bL D bI bO gs w sl t i:=by
 obtain ⟨rfl,rfl⟩:=h.mV (i:=i) (.inl (by rw [s]; exact Nat.one_pos))
 obtain ⟨z,ax,W,S⟩:=aq
 have am:(i == 0)=false:=by simp; omega
 have Y:stepG P (i == 0) g w = .comm (core g) #[scase cd (.bool true) z] true .send w #[]:=by rw [am]; exact W w (h.mem.fits i y J)
 have G:=h7 hi
 by_cases I:partners (gs.setIfInBounds i Go.Conc.ph) cd false=[]
 ·have E:=crowd_waits (sl:=sl) hi Y (λ aL M=>by simp at M; subst M; exact ways_send_none h.h5 (by simp) I)
  rw [ofEvents_none] at E
  refine ⟨_,_,_,bS D i (.w2 none),th,false,none,s1,s2,E,?_,?_⟩
  ·simpa using mR (x:=.w2 none) G (by rw [s]; rfl) rfl .none (by rw [s]; rfl)
  ·refine h.one G (by simp) (fB G) (λ j A=>eG (Ne.symm A)) h.mem (by simpa using h.tr) (λ _ _=>rfl) ⟨⟨y,J,.inr ⟨rfl,g,z,⟨ax,W,S⟩,rfl⟩⟩,aw⟩ ?_
   have aa:dF (bS D i (.w2 none)) gs.size=dF D gs.size:=jK (by rw [s]; rfl)
   have Z:cq gs.size (λ j=>(bS D i (.w2 none) j).act)=cq gs.size (λ j=>(D j).act):=jO (by rw [s]; rfl)
   cases h.ph with
   | gm L V aM hw=>exact absurd s (hw i _)
   | @ff rem m ic kc mc L V an C aB ar aC aR =>
    refine .ff (ic:=ic) (by rw [bG (by omega)]; exact L) (aa ▸ V) an (by rw [bG (by intro e; subst e; rw [s] at C; cases C)]; exact C) (λ j k m e=>?_) (by rw [Z]; exact ar) (λ e j v F=>?_) (λ e=>?_)
    ·by_cases A:j=i
     ·subst A; rw [cc] at e; cases e
     ·rw [bG A] at e; exact aB j k m e
    ·by_cases A:j=i
     ·subst A; rw [cc] at F; cases F
     ·rw [bG A] at F; exact aC e j v F
    ·subst e
     obtain ⟨_,_,_,g0,aU,aK,ak,_⟩:=h.vf C
     exact absurd I (rJ ak (by intro e; subst e; rw [s] at C; cases C) (by rw [offersAt_parked_recv]; simp))
 ·obtain ⟨j,gj,aY,aT,d,ao,Q,E⟩:=crowd_send_meets_some (sl:=sl) hi Y h.h5 I (λ j k ap=>by
   obtain ⟨ac,ad,x,ae,f⟩:=h.part ap
   rcases f with ⟨_,f,_⟩ | ⟨_,f,_⟩ | ⟨_,_,rem,g0,z0,_,rfl⟩ | ⟨f,_⟩
   ·cases f
   ·cases f
   ·exact ⟨ad,ac,_,_,_,ae⟩
   ·exact absurd f.symm h.ne)
  obtain ⟨_,av⟩:=(h.eE j _ Q).offers h.ne (c:=cd) (send:=false) (k:=0) (by rw [offersAt_parked_recv]; simp)
  rcases av with ⟨_,f,_⟩ | ⟨_,f,_⟩ | ⟨_,_,aG,g0,z0,N,he⟩ | ⟨f,_⟩
  ·cases f
  ·cases f
  rotate_left
  ·exact absurd f.symm h.ne
  obtain ⟨_,aA,aP⟩:=kj he
  subst aA
  obtain ⟨aH,aN,_,ab,aV,aK,O,aF,ag⟩:=h.vf N
  obtain rfl:aG=aH:=by omega
  rw [Q] at O
  obtain ⟨_,_,az⟩:=kj (ey O)
  rw [finishComm_recv,finishComm_send,ofEvents_none,az] at E
  obtain ⟨aI,aJ,aO,_,_,au,_,af⟩:=h.zD (j:=i) s N J aF (gj:=Conc.served (core g) undef) (gc:=Conc.served (core ab) (recvd false (.bool true) true)) S (ag.2.2.1 _) (f1:=(core g).frame.fn) (f2:=gj.frame.fn) (p1:=(core g).frame.place) (p2:=gj.frame.place) d
  refine ⟨_,_,_,_,_,_,_,_,_,E,?_,by simpa using af⟩
  simpa using p5 (x:=aJ) (y:=aI) G au ao (by omega)
theorem PI.LK(h:PI P B cf cd bL D th b6 cls s1 s2 bI bO gs w t){i k:Nat}{T:Tree}(hi:gs[i]? = some g)(C:D i = .cl (k+1) (some T))(aA:0 < i)(I:th i=some y)(au:CK P B cf cd (k+1) y.R y.H g):Nx P B cf cd bL D bI bO gs w sl t i:=by
 obtain ⟨rfl,rfl⟩:=h.mV (i:=i) (.inr (.inl ⟨_,_,C⟩))
 obtain ⟨z,aB,W,S,ax⟩:=au
 have ao:(i == 0)=false:=by simp; omega
 have Y:stepG P (i == 0) g w = .comm (core g) #[rcase cd z] true (.recv false) w #[]:=by rw [ao]; exact W w (h.mem.fits i y I)
 have F:=h7 hi
 by_cases G:partners (gs.setIfInBounds i Go.Conc.ph) cd true=[]
 ·have E:=crowd_waits (sl:=sl) hi Y (λ aM L=>by simp at L; subst L; exact ways_recv_none h.h5 G)
  rw [ofEvents_none] at E
  refine ⟨_,_,_,bS D i (.cl (k+1) none),th,false,none,s1,s2,E,?_,?_⟩
  ·simpa using mR (x:=.cl (k+1) none) F (by rw [C]; rfl) rfl .none (by rw [C]; rfl)
  ·refine h.one F (by simp) (fB F) (λ j s=>eG (Ne.symm s)) h.mem (by simpa using h.tr) (λ _ _=>rfl) ⟨⟨y,I,.inr ⟨rfl,g,z,⟨aB,W,S,ax⟩,rfl⟩⟩,aA⟩ ?_
   have ab:dF (bS D i (.cl (k+1) none)) gs.size=dF D gs.size:=jK (by rw [C]; rfl)
   have aa:cq gs.size (λ j=>(bS D i (.cl (k+1) none) j).act)=cq gs.size (λ j=>(D j).act):=jO (by rw [C]; rfl)
   cases h.ph with
   | gm J V am hw=>exact absurd C (am i _ _)
   | @ff rem m ic kc mc J V ap M Z av aG aP =>
    obtain rfl:=Z i _ _ C
    rw [C] at M; cases M
    refine .ff (ic:=i) (by rw [bG (by omega)]; exact J) (ab ▸ V) ap (cc _ _ _) (λ j aI m e=>?_) (by rw [aa]; exact av) (λ e j v A=>?_) (λ e j A=>?_)
    ·by_cases s:j=i
     ·exact s
     ·rw [bG s] at e; exact Z j aI m e
    ·by_cases s:j=i
     ·subst s; rw [cc] at A; cases A
     ·rw [bG s] at A; exact aG e j v A
    ·by_cases s:j=i
     ·subst s; rw [cc] at A; cases A
     ·rw [bG s] at A
      obtain ⟨_,g0,aV,aT,an,_⟩:=h.z6 A
      exact absurd G (rJ an s (by rw [offersAt_parked_send]; simp))
 ·obtain ⟨j,gj,aJ,a1,aR,d,aq,Q,E⟩:=crowd_recv_meets_some (sl:=sl) hi Y h.h5 G (λ j k ar=>by
   obtain ⟨ad,ae,x,af,f⟩:=h.part ar
   rcases f with ⟨f,_⟩ | ⟨_,_,g0,z0,_,rfl⟩ | ⟨_,f,_⟩ | ⟨f,_⟩
   ·exact absurd f.symm h.ne
   ·exact ⟨ae,ad,_,_,_,_,af⟩
   ·cases f
   ·exact absurd f.symm h.ne)
  obtain ⟨_,az⟩:=(h.eE j _ Q).offers h.ne (c:=cd) (send:=true) (k:=0) (by rw [offersAt_parked_send]; simp)
  rcases az with ⟨f,_⟩ | ⟨_,_,g0,z0,N,he⟩ | ⟨_,f,_⟩ | ⟨f,_⟩
  ·exact absurd f.symm h.ne
  rotate_left
  ·cases f
  ·exact absurd f.symm h.ne
  obtain ⟨_,aF,aO⟩:=kj he
  subst aF
  obtain ⟨_,ac,aY,aU,O,aH,ak⟩:=h.z6 N
  rw [Q] at O
  obtain ⟨_,_,aC⟩:=kj (ey O)
  rw [finishComm_recv,finishComm_send,ofEvents_none,aC] at E
  obtain ⟨aK,aL,aN,_,aw,_,ag,_⟩:=h.zD (j:=j) N C aH I (gj:=Conc.served (core ac) undef) (gc:=Conc.served (core g) (recvd false aJ true)) ak.2.2 (S _) (f1:=gj.frame.fn) (f2:=(core g).frame.fn) (p1:=gj.frame.place) (p2:=(core g).frame.place) d
  refine ⟨_,_,_,_,_,_,_,_,_,E,?_,by simpa using ag⟩
  simpa using p5 (x:=aK) (y:=aL) F aw aq (by omega)
theorem PI.LL(h:PI P B cf cd bL D th b6 cls s1 s2 bI bO gs w t){i:Nat}{T:Tree}(hi:gs[i]? = some g)(C:D i = .cl 0 (some T))(az:0 < i)(N:th i=some y)(au:CK P B cf cd 0 y.R y.H g):Nx P B cf cd bL D bI bO gs w sl t i:=by
 obtain ⟨rfl,rfl⟩:=h.mV (i:=i) (.inr (.inl ⟨_,_,C⟩))
 obtain ⟨aJ,aw,g',n,aB,Y⟩:=au
 have ar:(i == 0)=false:=by simp; omega
 have I:=h7 hi
 have aC:=aB w s1 s1 bI (h.mem.fits i y N) h.ga
 have Z:=runT_crowd_go (P:=P) (sl:=sl) hi (by rw [ar]; exact aC)
 cases h.ph with
 | gm E M ao hw=>exact absurd C (ao i _ _)
 | @ff rem m ic kc mc E M aH S ad av aK aL =>
  obtain rfl:=ad i _ _ C
  rw [C] at S; cases S
  have aG:=vX av.symm
  have Q:∀ j,(D j).act=0:=λ j=>by
   rcases Nat.lt_or_ge j gs.size with d | d
   ·exact aG j d
   ·rw [(h.out j d).2]; rfl
  obtain ⟨O,ae⟩:=h.there (i:=0) (by rw [E]; intro n e; cases e)
  have aa:=h.eE 0 O ae
  rw [E] at aa
  have hlen:rem.length=0:=by
   have f:=M.length_eq
   have ak:=vG (D:=D) (n:=gs.size)
   omega
  have an:(w.shut cf s1 s1 bI).heap[cf]? = some (.chan 0 #[] true s1 s1 bI):=by
   have:=eQ h.ga
   simp [World.shut,this]
  obtain ⟨s,aA⟩:∃ s,fW P B cf cd bL 0 (.mr rem (some s)) (th 0) (woken P g g' (w.shut cf s1 s1 bI) O):=by
   obtain ⟨⟨ag,af,⟨s,rfl,f⟩ | ⟨rfl,f⟩⟩,_⟩:=aa
   ·refine ⟨s,⟨ag,af,.inl ⟨s,rfl,?_⟩⟩,rfl⟩
    unfold woken
    split
    ·rw [again_running _ (.inl (f.iq λ _ _ _=>gr.run))]; exact f
    ·exact f
   ·refine ⟨.node Empty Empty.elim,⟨ag,af,.inl ⟨_,rfl,.inl ?_⟩⟩,rfl⟩
    rw [hlen] at f ⊢
    obtain ⟨g0,z,F,rfl⟩:=f
    have aq:g'.status = .running∨g'.status = .finished:=Y.status
    have hw:woken P g g' (w.shut cf s1 s1 bI) (parked (core g0) #[rcase cf z] (.recv true))={ parked (core g0) #[rcase cf z] (.recv true) with status:=.running }:=by
     unfold woken
     rw [if_pos]
     ·exact again_parked_shut rfl an
     ·rcases aq with e | e <;> simp [aw,e]
    rw [hw]
    have ap:∀ v,Conc.served (core { parked (core g0) #[rcase cf z] (.recv true) with status:=.running }) v=Conc.served (core g0) v:=λ v=>rfl
    refine ⟨z,rfl,λ w hw=>?_,λ v=>?_,?_⟩
    ·exact (stepG_same rfl rfl rfl w).trans (F.2.1 w hw)
    ·exact trivial
    ·rw [ap]; exact F.2.2.2
  have am:(gs.map (woken P g g' (w.shut cf s1 s1 bI))).setIfInBounds i g'=(gs.setIfInBounds 0 (woken P g g' (w.shut cf s1 s1 bI) O)).setIfInBounds i g':=by
   apply Array.ext_getElem?
   intro k
   by_cases L:k=i
   ·subst L
    rw [fB (by simpa using I),fB (by simpa using I)]
   ·rw [eG (Ne.symm L),eG (Ne.symm L),Array.getElem?_map]
    by_cases J:k=0
    ·subst J
     rw [fB h.pos,ae]; rfl
    ·rw [eG (Ne.symm J)]
     cases V:gs[k]? with
     | none=>rfl
     | some x =>
      rw [Option.map_some]
      congr 1
      have h5:(w.shut cf s1 s1 bI).heap[cd]? = some (.chan 0 #[] false s2 s2 bO):=by
       rw [← h.h5]
       exact eG h.ne
      refine (h.eE k x V).again h5 (.inr ⟨λ v e=>?_,λ rem e=>?_⟩) (s1:=s1) (bI:=bI)
      ·have:=Q k; rw [e] at this; cases this
      ·have ab:=h.eE k x V
       rw [e] at ab
       exact J ab.2
  rw [am] at Z
  refine ⟨_,_,_,bS (bS D 0 (.mr rem (some s))) i (.lv n),eF th i none,true,some cf,s1,s2,Z,?_,?_⟩
  ·simpa using p5 (x:=.lv n) (y:=.mr rem (some s)) I h.pos (by omega) (by rw [C,E]; simp only [Dt.db]; omega)
  ·have hm:=(h.mem.vp (s1':=s1) h.ne true).drop (i:=i)
   have W:cf < w.heap.size:=eQ h.ga
   have ac:=c9.app (u:=#[(⟨i,g.frame.fn,g.frame.place,.access ⟨.obj cf,false,true⟩⟩:MemOp)]) h.mem rfl h.tr N (R':=y.R) (H':=y.H) (n':=w.heap.size) (by simp)
    (λ op A a F=>by
     simp at A; subst A
     simp [MemAct.touch?] at F; subst F
     exact ⟨cf,rfl,.inr (.inr (.inr ⟨rfl,_,List.mem_cons_self⟩))⟩)
    (λ op A=>by simp at A; subst A; exact W) (λ op A m hm=>by simp at A; subst A; cases hm) (ct _) (λ b o x=>.inl x) (λ b o x=>.inl ⟨o,x⟩)
   rw [Mb N] at ac
   have aF:=(ac.JR (y:=⟨i,g.frame.fn,g.frame.place,.close cf⟩) rfl rfl W).qU (s1':=s1) (s2':=s2) (eV:=true)
   have ax:t++MemOp.ofEvents i g.frame.fn g.frame.place #[⟨.obj cf,false,true⟩,⟨.obj cf,true,true⟩]=(t++#[(⟨i,g.frame.fn,g.frame.place,.access ⟨.obj cf,false,true⟩⟩:MemOp)])++#[⟨i,g.frame.fn,g.frame.place,.close cf⟩]:=by
    rw [ofEvents_eq,Array.append_assoc]; congr 1; simp [MemAct.ofEvent]
   rw [ax]
   refine h.two I h.pos (by omega) hm (by simpa [World.shut] using aF) (λ k f ak=>dK f) ⟨eS _ _ _,Y,az⟩ (by rw [dK (by omega)]; exact aA) ?_
   have aI:rem=[]:=List.length_eq_zero_iff.1 hlen
   refine .closed (rem:=rem) (m:=some s) (by rw [bG (by omega),cc]) ?_ (λ j k m e=>?_) (λ j=>?_) (by simp)
   ·rw [jK (by rw [bG (by omega),C]; rfl),jK (by rw [E]; rfl)]; exact M
   ·by_cases d:j=i
    ·subst d; rw [cc] at e; cases e
    ·rw [bG d] at e
     by_cases G:j=0
     ·subst G; rw [cc] at e; cases e
     ·rw [bG G] at e; exact d (ad j k m e)
   ·by_cases d:j=i
    ·subst d; rw [cc]; rfl
    ·rw [bG d]
     by_cases G:j=0
     ·subst G; rw [cc]; rfl
     ·rw [bG G]; exact Q j
end
section
variable {P:Program} {B:Base} {cf cd:Nat} {bL:ay→aj→Goroutine→Prop} {D:Nat→Dt} {th:Nat→Option Th} {b6:Bool} {cls:Option Nat} {s1 s2:Nat} {bI bO:Bool} {gs:Array Goroutine} {w:World} {sl:Option (Nat × Nat)} {t:Trace} {g:Goroutine} {y:Th}
theorem PI.add(h:PI P B cf cd bL D th b6 cls s1 s2 bI bO gs w t){g' child:Goroutine}{x z:Dt}{f1 f2:FuncId}{p1 p2:String}(A:th 0=some y)(J:fW P B cf cd bL 0 x (some y) g')(L:fW P B cf cd bL gs.size z (some ⟨y.R,[]⟩) child)
  (I:Ph cf (gs.size+1) (bS (bS D gs.size z) 0 x) b6 cls) :
  PI P B cf cd bL (bS (bS D gs.size z) 0 x) (eF th gs.size (some ⟨y.R,[]⟩)) b6 cls s1 s2 bI bO ((gs.setIfInBounds 0 g').push child) w (t++#[⟨0,f1,p1,.go gs.size⟩,⟨gs.size,f2,p2,.start⟩]):=by
 have G:=h.out gs.size (ct _)
 have C:(0:Nat)≠gs.size:=by have:=h.pos; omega
 have hu:∀ op∈(#[⟨0,f1,p1,.go gs.size⟩,⟨gs.size,f2,p2,.start⟩]:Trace),op.act.touch? = none:=λ op f=>by
  simp only [List.mem_toArray,cO,List.not_mem_nil,or_false] at f
  rcases f with rfl | rfl <;> rfl
 have F:∀ op∈(#[⟨0,f1,p1,.go gs.size⟩,⟨gs.size,f2,p2,.start⟩]:Trace),op.act.low w.heap.size:=λ op f=>by
  simp only [List.mem_toArray,cO,List.not_mem_nil,or_false] at f
  rcases f with rfl | rfl <;> trivial
 have hw:Wordless (#[⟨0,f1,p1,.go gs.size⟩,⟨gs.size,f2,p2,.start⟩]:Trace):=λ op f m hm=>by
  simp only [List.mem_toArray,cO,List.not_mem_nil,or_false] at f
  rcases f with rfl | rfl <;> cases hm
 refine ⟨h.ne,h.mem.add A (λ _ _ e=>e),h.tr.JQ hu F hw A (λ _ _ e=>e) G.1 (λ k E=>FR (h.tr.quiet.append hw) rfl rfl rfl rfl E),λ j v d=>?_,λ j d=>?_,by simpa using I,by simp⟩
 ·rw [Array.getElem?_push] at d
  split at d
  ·rename_i e
   have e:j=gs.size:=by simpa using e
   cases d; subst e
   rw [bG (Ne.symm C),cc,eS]; exact L
  ·rename_i e
   have e:j≠gs.size:=by simpa using e
   by_cases s:j=0
   ·subst s
    rw [fB h.pos] at d; cases d
    rw [cc,dK C,A]; exact J
   ·rw [eG (Ne.symm s)] at d
    rw [bG s,bG e,dK e]; exact h.eE j v d
 ·have M:gs.size+1≤j:=by simpa using d
  rw [bG (by omega),bG (by omega),dK (by omega)]; exact h.out j (by omega)
theorem PI.LO(h:PI P B cf cd bL D th b6 cls s1 s2 bI bO gs w t){k:Nat}{sp:List Value}{T:Tree}(hi:gs[0]? = some g)(s:D 0 = .ms k sp (some T))(I:th 0=some y)(W:hZ P B cf cd bL k sp y.R y.H g):Nx P B cf cd bL D bI bO gs w sl t 0:=by
 obtain ⟨rfl,rfl⟩:=h.mV (i:=0) (.inr (.inr ⟨⟨_,_,_,s⟩,rfl⟩))
 have G:=h.pos
 cases h.ph with
 | ff E=>rw [s] at E; cases E
 | gm E M S hw =>
  rw [s] at E; cases E
  cases k with
  | succ k =>
   obtain ⟨ab,O⟩:=W
   obtain ⟨g',child,v,N,⟨d,L⟩,f,J⟩:=O w (h.mem.fits 0 y I)
   have F:=runT_crowd_spawn (sl:=sl) hi (show stepG P (0 == 0) g w=_ from N)
   rw [ofEvents_none] at F
   refine ⟨_,_,_,_,_,false,none,s1,s2,F,?_,h.add (x:=.ms k (v::sp) (some f)) (z:=.w1 v (some d)) I ⟨⟨y,rfl,.inl ⟨f,rfl,J⟩⟩,rfl⟩ ⟨⟨_,rfl,.inl ⟨d,rfl,L⟩⟩,G⟩ ?_⟩
   ·simpa using zO (x:=.ms k (v::sp) (some f)) (y:=.w1 v (some d)) G (by rw [s]; simp only [Dt.db,List.length_cons]; omega)
   ·refine .gm (cc _ _ _) ?_ (λ j Q m e=>?_) (λ j m e=>?_)
    ·rw [jK (by rw [bG (by omega),s]; rfl),jh,cc,mY (D:=D) (λ j V=>by rw [bG (by omega)])]
     exact List.Perm.cons v M
    ·by_cases A:j=0
     ·subst A; rw [cc] at e; cases e
     ·rw [bG A] at e
      by_cases C:j=gs.size
      ·subst C; rw [cc] at e; cases e
      ·rw [bG C] at e; exact S j Q m e
    ·by_cases A:j=0
     ·subst A; rw [cc] at e; cases e
     ·rw [bG A] at e
      by_cases C:j=gs.size
      ·subst C; rw [cc] at e; cases e
      ·rw [bG C] at e; exact hw j m e
  | zero =>
   obtain ⟨ab,O⟩:=W
   obtain ⟨g',child,N,⟨d,L⟩,f,J⟩:=O w (h.mem.fits 0 y I)
   have F:=runT_crowd_spawn (sl:=sl) hi (show stepG P (0 == 0) g w=_ from N)
   rw [ofEvents_none] at F
   refine ⟨_,_,_,_,_,false,none,s1,s2,F,?_,h.add (x:=.mr sp (some f)) (z:=.cl sp.length (some d)) I ⟨⟨y,rfl,.inl ⟨f,rfl,J⟩⟩,rfl⟩ ⟨⟨_,rfl,.inl ⟨d,rfl,L⟩⟩,G⟩ ?_⟩
   ·simpa using zO (x:=.mr sp (some f)) (y:=.cl sp.length (some d)) G (by rw [s]; simp only [Dt.db]; omega)
   ·have aa:dF (bS (bS D gs.size (.cl sp.length (some d))) 0 (.mr sp (some f))) (gs.size+1)=dF D gs.size:=by
     rw [jK (by rw [bG (by omega),s]; rfl),jh,cc,mY (D:=D) (λ j V=>by rw [bG (by omega)])]
     rfl
    refine .ff (ic:=gs.size) (kc:=sp.length) (mc:=some d) (cc _ _ _) (by rw [aa]; exact M) (by omega) (by rw [bG (by omega),cc]) (λ j Q m e=>?_) ?_ (λ e=>by cases e) (λ e=>by cases e)
    ·by_cases A:j=0
     ·subst A; rw [cc] at e; cases e
     ·rw [bG A] at e
      by_cases C:j=gs.size
      ·exact C
      ·rw [bG C] at e; exact absurd e (S j Q m)
    ·rw [jO (by rw [bG (by omega),s]; rfl)]
     have e1:=Bj (D:=D) (n:=gs.size) (λ i m _=>hw i m)
     have ac:=M.length_eq
     have Y:cq gs.size (λ j=>(bS D gs.size (.cl sp.length (some d)) j).act)=cq gs.size (λ j=>(D j).act):=lJ λ j V=>by rw [bG (by omega)]
     have Z:(bS D gs.size (.cl sp.length (some d)) gs.size).act=0:=by rw [cc]; rfl
     simp only [cq,Y,Z]
     omega
theorem J6(h:PI P B cf cd bL D th b6 cls s1 s2 bI bO gs w t){i:Nat}(f:∀ j,(D j).act=0):partners (gs.setIfInBounds i Go.Conc.ph) cf true=[]:=by
 apply List.eq_nil_iff_forall_not_mem.2
 rintro ⟨j,k⟩ hm
 obtain ⟨_,_,x,_,d⟩:=h.part hm
 rcases d with ⟨_,_,v,g0,z,e,_⟩ | ⟨d,_⟩ | ⟨_,d,_⟩ | ⟨_,d,_⟩
 ·have:=f j; rw [e] at this; cases this
 ·exact h.ne d
 ·cases d
 ·cases d
theorem PI.LN(h:PI P B cf cd bL D th false none s1 s2 bI bO gs w t){rem:List Value}{T:Tree}(hi:gs[0]? = some g)(F:D 0 = .mr rem (some T))(O:th 0=some y)(C:gr P B cf bL rem.length rem y.R y.H g):Nx P B cf cd bL D bI bO gs w sl t 0:=by
 have L:=h.pos
 obtain ⟨z,Q,Nil,aw,Z⟩:∃ z Q Nil,AtR P B true cf true Q Nil z y.R y.H g∧((∀ k,rem.length=k+1→∀ v,qw P B rem (gr P B cf bL k) v y.R y.H (Conc.served (core g) (recvd true v true)))∧qy P B cf bL rem.length rem y.R y.H (parked (core g) #[rcase cf z] (.recv true))):=by
  generalize rem.length=n at C
  cases n with
  | zero=>obtain ⟨z,C⟩:=C; exact ⟨z,_,_,C,λ k e=>(by cases e),g,z,C,rfl⟩
  | succ n=>obtain ⟨z,C⟩:=C; exact ⟨z,_,_,C,λ k e v=>(by cases e; exact C.2.2.1 v),g,z,C,rfl⟩
 have ab:stepG P (0 == 0) g w = .comm (core g) #[rcase cf z] true (.recv true) w #[]:=aw.2.1 w (h.mem.fits 0 y O)
 by_cases N:partners (gs.setIfInBounds 0 Go.Conc.ph) cf true=[]
 ·have I:=crowd_waits (sl:=sl) hi ab (λ aO S=>by simp at S; subst S; exact ways_recv_none h.ga N)
  rw [ofEvents_none] at I
  refine ⟨_,_,_,bS D 0 (.mr rem none),th,false,none,s1,s2,I,?_,?_⟩
  ·simpa using mR (x:=.mr rem none) L (by rw [F]; rfl) rfl .none (by rw [F]; rfl)
  ·refine h.one L (by simp) (fB L) (λ j A=>eG (Ne.symm A)) h.mem (by simpa using h.tr) (λ _ _=>rfl) ⟨⟨y,O,.inr ⟨rfl,Z.2⟩⟩,rfl⟩ ?_
   have ad:dF (bS D 0 (.mr rem none)) gs.size=dF D gs.size:=jK (by rw [F]; rfl)
   have ac:cq gs.size (λ j=>(bS D 0 (.mr rem none) j).act)=cq gs.size (λ j=>(D j).act):=jO (by rw [F]; rfl)
   cases h.ph with
   | gm G aa aP hw=>rw [F] at G; cases G
   | @ff aV m ic kc mc G aa aq M aG ax aU aI =>
    rw [F] at G; cases G
    have ar:ic≠0:=by intro e; subst e; rw [F] at M; cases M
    refine .ff (ic:=ic) (cc _ _ _) (ad ▸ aa) aq (by rw [bG ar]; exact M) (λ j aK m e=>?_) (by rw [ac]; exact ax) (λ e j v E=>?_) (λ e j E=>?_)
    ·by_cases A:j=0
     ·subst A; rw [cc] at e; cases e
     ·rw [bG A] at e; exact aG j aK m e
    ·by_cases A:j=0
     ·subst A; rw [cc] at E; cases E
     ·rw [bG A] at E
      obtain ⟨_,g0,a4,a1,ap,_⟩:=h.zZ E
      exact absurd N (rJ ap A (by rw [offersAt_parked_send]; simp))
    ·by_cases A:j=0
     ·subst A; rw [cc] at E; cases E
     ·rw [bG A] at E; exact aI e j E
 ·obtain ⟨j,gj,J,aN,aY,d,au,Y,I⟩:=crowd_recv_meets_some (sl:=sl) hi ab h.ga N (λ j k av=>by
   obtain ⟨af,ag,x,ak,f⟩:=h.part av
   rcases f with ⟨_,_,v,g0,z0,_,rfl⟩ | ⟨f,_⟩ | ⟨_,f,_⟩ | ⟨_,f,_⟩
   ·exact ⟨ag,af,_,_,_,_,ak⟩
   ·exact absurd f h.ne
   ·cases f
   ·cases f)
  obtain ⟨_,aB⟩:=(h.eE j _ Y).offers h.ne (c:=cf) (send:=true) (k:=0) (by rw [offersAt_parked_send]; simp)
  rcases aB with ⟨_,_,v,g0,z0,V,he⟩ | ⟨f,_⟩ | ⟨_,f,_⟩ | ⟨_,f,_⟩
  rotate_left
  ·exact absurd f h.ne
  ·cases f
  ·cases f
  obtain ⟨ao,aF,aT⟩:=kj he
  subst aF
  have aH:J=v:=by
   have:scase cf J aN=scase cf v z0:=by simpa using ao
   simp only [scase,CommCase.mk.injEq,eO] at this
   exact this.2.1
  subst aH
  obtain ⟨_,ae,a5,a2,W,aJ,an⟩:=h.zZ V
  rw [Y] at W
  obtain ⟨_,_,aC⟩:=kj (ey W)
  rw [finishComm_recv,finishComm_send,ofEvents_none,aC] at I
  have aA:=h.zC (j:=j) (v:=J) V F aJ O (gj:=Conc.served (core ae) undef) (g0:=Conc.served (core g) (recvd true J true)) an.2.2 (λ k hlen=>Z.1 k hlen J) (uU (a:=j) (b:=0) (s:=s1) (cap:=0) (f1:=gj.frame.fn) (f2:=(core g).frame.fn) (p1:=gj.frame.place) (p2:=(core g).frame.place) (eQ h.ga)) d
  obtain ⟨aL,aM,aR,_,az,am,_⟩:=aA
  refine ⟨_,_,_,_,_,_,_,_,_,I,?_,by simpa using am⟩
  simpa using p5 (x:=aL) (y:=aM) L az au (by omega)
theorem PI.LM(h:PI P B cf cd bL D th true cls s1 s2 bI bO gs w t){rem:List Value}{T:Tree}(hi:gs[0]? = some g)(Z:D 0 = .mr rem (some T))(W:th 0=some y)(N:gr P B cf bL rem.length rem y.R y.H g) :
  ∃ E g' ops q,runT P (crowd gs w sl) 0=(.next (crowd E w sl),ops)∧E[0]? = some g'∧bL y.R y.H g'∧Alone P B y.R y.H E w (t++ops) q:=by
 have ac:=h.pos
 have ga:=h.ga
 cases h.ph with
 | @closed ao m I ad Y C hm =>
  rw [Z] at I; cases I
  have hlen:rem.length=0:=by
   have J:=ad.length_eq
   have L:=vG (D:=D) (n:=gs.size)
   have am:cq gs.size (λ i=>(D i).act)=0:=by
    have e:cq gs.size (λ i=>(D i).act)=cq gs.size (λ _=>0):=lJ λ i _=>C i
    rw [e]
    have:∀ n,cq n (λ _=>0)=0:=by intro n; induction n with | zero=>rfl | succ n ak=>simp only [cq,ak]
    exact this _
   omega
  rw [hlen] at N
  obtain ⟨z,an,af,_,ab⟩:=N
  have Q:=crowd_recv_closed (sl:=sl) hi (show stepG P (0 == 0) g w=_ from af w (h.mem.fits 0 y W)) ga (J6 h C)
  rw [finishComm_recv,ofEvents_none] at Q
  have O:∀ i,i≠0→th i=none∧∃ n,D i = .lv n∧∀ x,gs[i]? = some x→QuitsIn P n x:=by
   intro i F
   rcases Nat.lt_or_ge i gs.size with aa | M
   ·have d:=hX aa
    have f:=h.eE i _ d
    cases s:D i with
    | lv n=>rw [s] at f; exact ⟨f.1,n,rfl,λ x V=>by rw [d] at V; cases V; exact f.2.1⟩
    | w1 v m=>have:=C i; rw [s] at this; cases this
    | w2 m=>have:=C i; rw [s] at this; cases this
    | cl k m=>exact absurd s (Y i k m)
    | ms k sp m=>rw [s] at f; exact absurd f.2 F
    | mr r m=>rw [s] at f; exact absurd f.2 F
   ·obtain ⟨J,L⟩:=h.out i M
    exact ⟨J,0,L,λ x d=>by rw [Array.getElem?_eq_none M] at d; cases d⟩
  have ag:th=only y:=by
   funext i
   unfold only
   split
   ·rename_i e; subst e; exact W
   ·rename_i e; exact (O i e).1
  have G:=h.mem
  have S:=h.tr
  rw [ag] at G S
  refine ⟨_,_,_,λ i=>match D i with | .lv n=>n | _=>0,Q,fB ac,ab,⟨G.fits,G.apart,λ c o A=>(by cases A),λ c o A=>(by cases A)⟩,?_,λ i x F d=>?_⟩
  ·exact (S.KS (y:=⟨0,(core g).frame.fn,(core g).frame.place,.recvClosed cf⟩) rfl rfl (eQ ga)).xc (λ _ _ A=>by cases A)
  ·rw [eG (by omega)] at d
   obtain ⟨_,n,e,ae⟩:=O i (by omega)
   simp only [e]
   exact ae x d
theorem PI.AF(h:PI P B cf cd bL D th b6 cls s1 s2 bI bO gs w t):∃ (i:Nat) (g:Goroutine),gs[i]? = some g∧g.status = .running:=by
 have key:∀ i,(∀ n,D i ≠ .lv n)→(D i).hk≠none→∃ (i:Nat) (g:Goroutine),gs[i]? = some g∧g.status = .running:=by
  intro i E hm
  obtain ⟨g,z⟩:=h.there E
  refine ⟨i,g,z,?_⟩
  have f:=h.eE i g z
  cases d:D i with
  | lv n=>exact absurd d (E n)
  | w1 v m =>
   rw [d] at f hm
   obtain ⟨⟨y,_,⟨T,rfl,h⟩ | ⟨rfl,_⟩⟩,_⟩:=f
   ·exact h.iq λ _ _ _=>ky.run
   ·exact absurd rfl hm
  | w2 m =>
   rw [d] at f hm
   obtain ⟨⟨y,_,⟨T,rfl,h⟩ | ⟨rfl,_⟩⟩,_⟩:=f
   ·exact h.iq λ _ _ _=>kz.run
   ·exact absurd rfl hm
  | cl k m =>
   rw [d] at f hm
   obtain ⟨⟨y,_,⟨T,rfl,h⟩ | ⟨rfl,_⟩⟩,_⟩:=f
   ·exact h.iq λ _ _ _=>CK.run
   ·exact absurd rfl hm
  | ms k sp m =>
   rw [d] at f hm
   obtain ⟨⟨y,_,⟨T,rfl,h⟩ | ⟨rfl,_⟩⟩,_⟩:=f
   ·exact h.iq λ _ _ _=>hZ.run
   ·exact absurd rfl hm
  | mr r m =>
   rw [d] at f hm
   obtain ⟨⟨y,_,⟨T,rfl,h⟩ | ⟨rfl,_⟩⟩,_⟩:=f
   ·exact h.iq λ _ _ _=>gr.run
   ·exact absurd rfl hm
 cases h.ph with
 | @gm k sp m s F I hw =>
  obtain ⟨g,z⟩:=h.there (i:=0) (by rw [s]; intro n e; cases e)
  have f:=h.eE 0 g z
  rw [s] at f
  obtain ⟨⟨y,_,⟨T,rfl,h⟩ | ⟨rfl,h⟩⟩,_⟩:=f
  ·exact ⟨0,g,z,h.iq λ _ _ _=>hZ.run⟩
  ·exact h.elim
 | closed s F I V hm=>exact key 0 (by rw [s]; intro n e; cases e) (by rw [s]; exact hm)
 | @ff rem m ic kc mc s F W A Z J M N =>
  cases m with
  | some T=>exact key 0 (by rw [s]; intro n e; cases e) (by rw [s]; simp [Dt.hk])
  | none =>
   cases mc with
   | some T=>exact key ic (by rw [A]; intro n e; cases e) (by rw [A]; simp [Dt.hk])
   | none =>
    obtain ⟨aa,Y,_⟩:=h.vf A
    have:∃ i,i < gs.size∧0 < (D i).act:=by
     apply Classical.byContradiction
     intro L
     have Q:∀ i,i < gs.size→(D i).act=0:=λ i hi=>by
      have:¬ 0 < (D i).act:=λ O=>L ⟨i,hi,O⟩
      omega
     have e:cq gs.size (λ i=>(D i).act)=cq gs.size (λ _=>0):=lJ λ i hi=>Q i hi
     have G:∀ n,cq n (λ _=>0)=0:=by intro n; induction n with | zero=>rfl | succ n S=>simp only [cq,S]
     rw [e,G] at J
     omega
    obtain ⟨i,hi,C⟩:=this
    cases d:D i with
    | w1 v m =>
     cases m with
     | some T=>exact key i (by rw [d]; intro n e; cases e) (by rw [d]; simp [Dt.hk])
     | none=>exact absurd d (M rfl i v)
    | w2 m =>
     cases m with
     | some T=>exact key i (by rw [d]; intro n e; cases e) (by rw [d]; simp [Dt.hk])
     | none=>exact absurd d (N rfl i)
    | _=>rw [d] at C; simp [Dt.act] at C
end
section
variable {P:Program} {B:Base} {bP:Value→World→Prop} {cf cd:Nat} {bI bO:Bool}
theorem Aw{d:Dt}{T T':Tree}(h:d.hk=some T)(f:∀ n,d ≠ .lv n):(d.set (some T')).hk=some T'∧(d.set (some T')).db=d.db:=by
 cases d <;> first | exact absurd rfl (f _) | exact ⟨rfl,rfl⟩
theorem PI.Kk:∀ (af:Nat × List Ms) (gs:Array Goroutine) (w:World) (sl:Option (Nat × Nat)) (t:Trace) (D:Nat→Dt) (th:Nat→Option Th) (b6:Bool) (cls:Option Nat) (s1 s2:Nat),
  PI P B cf cd (MJ P B bP) D th b6 cls s1 s2 bI bO gs w t→mu D gs.size=af→∀ i g,gs[i]? = some g→g.status = .running→∀ S,stepT P S=runT P (crowd gs w sl) i→fg P bP S t:=by
 intro af
 induction af using jL.wf.induction with
 | _ af au =>
  intro gs w sl t D th b6 cls s1 s2 h aM i g hi M S W
  subst aM
  have next:∀ (G:Array Goroutine) (w':World) (ap:Option (Nat × Nat)) (ad:Trace) (D':Nat→Dt) (ae:Nat→Option Th) (eV:Bool) (Z:Option Nat) (s1' s2':Nat),PI P B cf cd (MJ P B bP) D' ae eV Z s1' s2' bI bO G w' ad →
    jL (mu D' G.size) (mu D gs.size)→fg P bP (crowd G w' ap) ad:=by
   intro G w' ap ad D' ae eV Z s1' s2' V an
   obtain ⟨j,gj,d,aN,am,aI,Y⟩:=crowd_pick (P:=P) (gs:=G) (w:=w') (sl:=ap) (λ x aL=>by
    obtain ⟨k,C,rfl⟩:=Array.mem_iff_getElem.1 aL
    exact (V.eE k _ (hX C)).awake) V.AF
   exact au _ an G (w'.at d) aN ad D' ae eV Z s1' s2' (V.at d) rfl j gj am aI _ Y
  have nx:Nx P B cf cd (MJ P B bP) D bI bO gs w sl t i→fg P bP S t:=by
   rintro ⟨G,w',ops,D',ae,eV,Z,s1',s2',O,an,V⟩
   exact fg.step (W.trans O) (next _ _ _ _ _ _ _ _ _ _ V an)
  have F:=h.eE i g hi
  have aa:=h7 hi
  have go:∀ (main:Bool) (K:ay→aj→Goroutine→Prop) (y:Th) (T:Tree),main=(i == 0)→(∀ n,D i ≠ .lv n)→(D i).hk=some T→th i=some y→kB P B main K T y.R y.H g →
    (∀ T' (E:Th) g',kB P B main K T' E.R E.H g'→fW P B cf cd (MJ P B bP) i ((D i).set (some T')) (some E) g')→(K y.R y.H g→fg P bP S t)→fg P bP S t:=by
   rintro main K ⟨R,H⟩ ⟨ι,f⟩ aG aq ab A aH ar aJ
   rcases aH with C | ⟨_,Y⟩ | ⟨R',H',k,aF,C⟩
   ·exact aJ C
   ·obtain ⟨g',w',es,R',H',k,av,aw,ax,az⟩:=Y w (h.mem.fits i _ A)
    obtain ⟨G,ops,O,ao,ak⟩:=h.own (sl:=sl) (T:=f k) hi A (aG ▸ av) aw ax (ar (f k) ⟨R',H'⟩ g' az)
    obtain ⟨e1,ag⟩:=Aw (T':=f k) ab aq
    exact fg.step (W.trans O) (next _ _ _ _ _ _ _ _ _ _ ak (by rw [ao]; exact mR aa ab e1 (.some (.mk f k)) ag))
   ·obtain ⟨hm,aK⟩:=yf h.mem h.tr A (aF w (h.mem.fits i _ A))
    obtain ⟨e1,ag⟩:=Aw (T':=f k) ab aq
    refine au _ (mR aa ab e1 (.some (.mk f k)) ag) gs w sl t _ _ b6 cls s1 s2 (h.one (w':=w) aa rfl hi (λ _ _=>rfl) hm aK (λ j am=>dK am) (by rw [eS]; exact ar (f k) ⟨R',H'⟩ g C) (h.ph.q λ j=>Q.upd (.inr (.inr ⟨f k,rfl⟩)) j)) rfl i g hi M S W
  cases s:D i with
  | lv n =>
   rw [s] at F
   obtain ⟨_,ac,_⟩:=F
   cases n with
   | zero=>rw [show g.status = .finished from ac] at M; cases M
   | succ n =>
    rcases ac with e | ⟨_,g',Y,ac⟩
    ·rw [e] at M; cases M
    ·obtain ⟨G,O,ao,ak⟩:=h.quit (sl:=sl) hi s Y ac
     refine fg.step (W.trans O) (next _ _ _ _ _ _ _ _ _ _ (by simpa using ak) ?_)
     rw [ao]
     exact mR (a:=some (mT n)) (b:=some (mT (n+1))) aa (by rw [s]; rfl) rfl (JV n) (by rw [s]; rfl)
  | w1 v m =>
   rw [s] at F
   obtain ⟨⟨y,A,⟨T,rfl,I⟩ | ⟨rfl,g0,z,_,rfl⟩⟩,L⟩:=F
   ·exact go false _ y T (by simp; omega) (by rw [s]; intro n e; cases e) (by rw [s]; rfl) A I (λ T' E g' J=>by rw [s]; exact ⟨⟨E,rfl,.inl ⟨T',rfl,J⟩⟩,L⟩) (λ C=>nx (h.LP hi s L A C))
   ·cases M
  | w2 m =>
   rw [s] at F
   obtain ⟨⟨y,A,⟨T,rfl,I⟩ | ⟨rfl,g0,z,_,rfl⟩⟩,L⟩:=F
   ·exact go false _ y T (by simp; omega) (by rw [s]; intro n e; cases e) (by rw [s]; rfl) A I (λ T' E g' J=>by rw [s]; exact ⟨⟨E,rfl,.inl ⟨T',rfl,J⟩⟩,L⟩) (λ C=>nx (h.LQ hi s L A C))
   ·cases M
  | cl k m =>
   rw [s] at F
   obtain ⟨⟨y,A,⟨T,rfl,I⟩ | ⟨rfl,N⟩⟩,L⟩:=F
   ·refine go false _ y T (by simp; omega) (by rw [s]; intro n e; cases e) (by rw [s]; rfl) A I (λ T' E g' J=>by rw [s]; exact ⟨⟨E,rfl,.inl ⟨T',rfl,J⟩⟩,L⟩) (λ C=>?_)
    cases k with
    | zero=>exact nx (h.LL hi s L A C)
    | succ k=>exact nx (h.LK hi s L A C)
   ·cases k with
    | zero=>exact N.elim
    | succ k=>obtain ⟨g0,z,_,rfl⟩:=N; cases M
  | ms k sp m =>
   rw [s] at F
   obtain ⟨⟨y,A,⟨T,rfl,I⟩ | ⟨rfl,N⟩⟩,rfl⟩:=F
   ·exact go true _ y T rfl (by rw [s]; intro n e; cases e) (by rw [s]; rfl) A I (λ T' E g' J=>by rw [s]; exact ⟨⟨E,rfl,.inl ⟨T',rfl,J⟩⟩,rfl⟩) (λ C=>nx (h.LO hi s A C))
   ·exact N.elim
  | mr rem m =>
   rw [s] at F
   obtain ⟨⟨y,A,⟨T,rfl,I⟩ | ⟨rfl,N⟩⟩,rfl⟩:=F
   ·refine go true _ y T rfl (by rw [s]; intro n e; cases e) (by rw [s]; rfl) A I (λ T' E g' J=>by rw [s]; exact ⟨⟨E,rfl,.inl ⟨T',rfl,J⟩⟩,rfl⟩) (λ C=>?_)
    cases b6 with
    | false =>
     obtain rfl:cls=none:=by
      cases h.ph with
      | gm=>rfl
      | ff=>rfl
     exact nx (h.LN hi s A C)
    | true =>
     obtain ⟨G,g',ops,q,O,aC,aB,aA⟩:=h.LM (sl:=sl) hi s A C
     exact fg.step (W.trans O) (aB G w sl _ q aC aA)
   ·generalize rem.length=n at N
    cases n <;> (obtain ⟨g0,z,_,rfl⟩:=N; cases M)
theorem PI.runs{gs:Array Goroutine}{w:World}{sl:Option (Nat × Nat)}{t:Trace}{D:Nat→Dt}{th:Nat→Option Th}{b6:Bool}{cls:Option Nat}{s1 s2:Nat}(h:PI P B cf cd (MJ P B bP) D th b6 cls s1 s2 bI bO gs w t):fg P bP (crowd gs w sl) t:=by
 obtain ⟨j,gj,d,E,f,z,A⟩:=crowd_pick (P:=P) (gs:=gs) (w:=w) (sl:=sl) (λ x C=>by
  obtain ⟨k,s,rfl⟩:=Array.mem_iff_getElem.1 C
  exact (h.eE k _ (hX s)).awake) h.AF
 exact PI.Kk _ gs (w.at d) E t D th b6 cls s1 s2 (h.at d) rfl j gj f z _ A
end
end Go.Lg
