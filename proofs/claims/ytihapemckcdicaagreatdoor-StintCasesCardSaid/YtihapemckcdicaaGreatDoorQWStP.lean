/- Plain lists. Conditions: none. -/
import Derived.Test.YtihapemckcdicaaGreatDoorQWLgC
namespace Go.Lg
open Go.Conc
set_option maxRecDepth 10000
theorem zK{S O:Type}{body:S→Option (S ⊕ O)}(st:Nat→S)(n:Nat){o:O}(h:∀ i,i < n→body (st i)=some (.inl (st (i+1))))(hn:body (st n)=some (.inr o)):bD body (st 0)=some o:=by
 have key:∀ k,k≤n→bD body (st (n - k))=some o:=by
  intro k
  induction k with
  | zero=>intro _; exact lO hn
  | succ k ih =>
   intro hk
   rw [vX (h (n - (k+1)) (by omega)),show n - (k+1)+1=n - k by omega]
   exact ih (by omega)
 have:=key n (dD _)
 rwa [Nat.sub_self] at this
def eg{O:Type}(e:Nat→Option O):Nat→Nat→Option O
 | _,0=>none
 | i,k+1=>match e i with | some o=>some o | none=>eg e (i+1) k
def alw{S O:Type}(s:S):Option O→S ⊕ O
 | some o=>.inr o
 | none=>.inl s
theorem aje{S O:Type}{body:S→Option (S ⊕ O)}(st:Nat→S)(e:Nat→Option O)(i0 n:Nat){o:O}(h:∀ i,i0≤i→i < n→body (st i)=some (alw (st (i+1)) (e i)))(hn:body (st n)=some (.inr o))(h0:i0≤n):bD body (st i0)=some ((eg e i0 (n - i0)).getD o):=by
 have key:∀ k,k≤n - i0→bD body (st (n - k))=some ((eg e (n - k) k).getD o):=by
  intro k
  induction k with
  | zero=>intro _; exact lO hn
  | succ k ih =>
   intro hk
   have hb:=h (n - (k+1)) (by omega) (by omega)
   unfold eg
   cases he:e (n - (k+1)) with
   | some o' =>
    rw [he] at hb
    exact lO hb
   | none =>
    rw [he] at hb
    rw [vX hb,show n - (k+1)+1=n - k by omega]
    exact ih (by omega)
 have:=key (n - i0) (dD _)
 rwa [show n - (n - i0)=i0 by omega] at this
theorem aK2{S O:Type}{body:S→Option (S ⊕ O)}(st:Nat→S)(e:Nat→Option O)(n:Nat){o:O}(h:∀ i,i < n→body (st i)=some (alw (st (i+1)) (e i)))(hn:body (st n)=some (.inr o)):bD body (st 0)=some ((eg e 0 n).getD o):=by
 simpa using aje st e 0 n (λ i _ hi=>h i hi) hn (Nat.zero_le _)
theorem nX{O:Type}{e:Nat→Option O}:∀ {k i:Nat},eg e i k=none↔∀ j,i≤j→j < i+k→e j=none
 | 0,i=>by simp [eg]; omega
 | k+1,i=>by
  unfold eg
  cases he:e i with
  | some o=>simp; exact ⟨i,dD _,by omega,by rw [he]; simp⟩
  | none =>
   simp only
   rw [nX]
   constructor
   ·intro h j h1 h2
    by_cases hj:j=i
    ·subst hj; exact he
    ·exact h j (by omega) (by omega)
   ·intro h j h1 h2; exact h j (by omega) (by omega)
theorem r8{O:Type}{e:Nat→Option O}:∀ {k i:Nat} {o:O},eg e i k=some o→∃ j,i≤j∧j < i+k∧e j=some o∧∀ m,i≤m→m < j→e m=none
 | 0,i,o,h=>by cases h
 | k+1,i,o,h=>by
  unfold eg at h
  cases he:e i with
  | some o'=>rw [he] at h; cases h; exact ⟨i,dD _,by omega,he,λ m h1 h2=>by omega⟩
  | none =>
   rw [he] at h
   obtain ⟨j,h1,h2,h3,h4⟩:=r8 h
   refine ⟨j,by omega,by omega,h3,λ m Yy HB=>?_⟩
   by_cases hm:m=i
   ·subst hm; exact he
   ·exact h4 m (by omega) HB
@[simp] theorem bF {α:Type} {a b:Option α}:ae true a b=a:=rfl
@[simp] theorem bu {α:Type} {a b:Option α}:ae false a b=b:=rfl
@[simp] theorem cF {α:Type} (xs:List α) (k:Nat):idx xs (k:Int)=xs[k]? := by simp [idx]
theorem fZ{z:Int}(h1 : -4611686018427387904≤z)(h2:z≤4611686018427387904):i64 z=z:=RB (by omega)
theorem cR{i:Nat}(h:i≤1000000000):i64 ((i:Int)+1)=((i+1:Nat):Int):=by rw [fZ (by omega) (by omega)]; omega
theorem kE{i:Nat}(h:i≤1000000000)(h0:0 < i):i64 ((i:Int) - 1)=((i - 1:Nat):Int):=by rw [fZ (by omega) (by omega)]; omega
theorem VW{α:Type}{xs:List α}{k:Nat}(h:k≤xs.length):kQ xs 0 (k:Int)=some (xs.take k):=by simp [kQ,h]
theorem xi{α:Type}{xs ys:List α}(h:xs.length+ys.length≤16777216):gk xs ys=some (xs++ys):=by simp [gk,h]
def cS(n a c:Int):Bool:=decide (a≤n) && decide (n≤c)
def nth{α:Type}[Inhabited α](l:List α)(i:Nat):α:=l.getD i default
theorem bE{α:Type}[Inhabited α]{l:List α}{i:Nat}(h:i < l.length):l[i]? = some (nth l i):=by
 unfold nth
 rw [rS,lz h]; rfl
theorem ib{α:Type}[Inhabited α]{l:List α}{i:Nat}(h:i < l.length):nth l i∈l:=List.mem_of_getElem? (bE h)
theorem wA{α:Type}[Inhabited α]{l:List α}{x:α}(h:x∈l):∃ i,i < l.length∧nth l i=x:=by
 obtain ⟨i,hi,rfl⟩:=List.mem_iff_getElem.1 h
 refine ⟨i,hi,?_⟩
 have:=bE hi
 rw [lz hi] at this
 exact (j6 this).symm
theorem Sq{α:Type}[Inhabited α]{l m:List α}(h:l.length=m.length)(he:∀ i,i < l.length→nth l i=nth m i):l=m:=by
 apply List.ext_getElem?
 intro i
 by_cases hi:i < l.length
 ·rw [bE hi,bE (h ▸ hi),he i hi]
 ·rw [List.getElem?_eq_none (by omega),List.getElem?_eq_none (by omega)]
theorem sY{α:Type}[Inhabited α]{l:List α}{i k:Nat}(h:i < k):nth (l.take k) i=nth l i:=by
 unfold nth
 rw [rS,rS,List.getElem?_take_of_lt h]
theorem jK{S O β:Type}{body:S→Option (S ⊕ O)}{s:S}{o:O}{f:O→Option β}(h:bD body s=some o):(bD body s).bind f=f o:=by rw [h]; rfl
theorem dec_lt{i:Nat}{n:Nat}(h:i < n):decide ((i:Int) < (n:Int))=true:=by simpa using h
theorem fj{n:Nat}:decide ((n:Int) < (n:Int))=false:=by simp
theorem G7{i:Nat}(h:0 < i):decide ((i:Int) > 0)=true:=by simpa using h
theorem G6{i:Nat}(h:¬ 0 < i):decide ((i:Int) > 0)=false:=by simpa using h
theorem ark{O:Type}{f:Option O}{g:Unit→Option O}{d:O}(hd:g ()=some d):Sum.elim g (λ q=>some q) (((f.map Sum.inr).getD (.inl ())):Unit ⊕ O)=some (f.getD d):=by
 cases f with
 | none=>exact hd
 | some o=>rfl
theorem Ww{O Q:Type}(g:O→Q)(e:Nat→Option O):∀ (k i:Nat),eg (λ j=>(e j).map g) i k=(eg e i k).map g
 | 0,_=>rfl
 | k+1,i=>by
  unfold eg
  cases e i with
  | none=>exact Ww g e k (i+1)
  | some o=>rfl
theorem search{O:Type}{body:Int→Option (Int ⊕ (Unit ⊕ O))}(e:Nat→Option O)(i0 n:Nat){d:O}{g:Unit→Option O}(h:∀ i,i0≤i→i < n→body (i:Int)=some (match e i with | some o=>.inr (.inr o) | none=>.inl ((i+1:Nat):Int)))(hn:body (n:Int)=some (.inr (.inl ())))(h0:i0≤n)(hd:g ()=some d) :
  (bD body (i0:Int)).bind (Sum.elim g λ q=>some q)=some ((eg e i0 (n - i0)).getD d):=by
 refine (jK (aje (λ i=>(i:Int)) (λ i=>(e i).map Sum.inr) i0 n (o:=.inl ()) (λ i h1 h2=>?_) hn h0)).trans ?_
 ·rw [h i h1 h2]
  cases e i <;> rfl
 ·rw [Ww]
  exact ark hd
theorem rL{O:Type}{body:Int→Option (Int ⊕ (Unit ⊕ O))}(e:Nat→Option O)(n:Nat){d:O}{g:Unit→Option O}(h:∀ i,i < n→body (i:Int)=some (match e i with | some o=>.inr (.inr o) | none=>.inl ((i+1:Nat):Int)))(hn:body (n:Int)=some (.inr (.inl ())))(hd:g ()=some d) :
  (bD body 0).bind (Sum.elim g λ q=>some q)=some ((eg e 0 n).getD d):=search e 0 n (λ i _ hi=>h i hi) hn (Nat.zero_le _) hd
def py(l:List Int)(below:Int)(i:Nat):Option Int :=
 if cS (nth l i) 0 (below - 1)=false then some 6 else if 0 < i then (if nth l i≤nth l (i - 1) then some 7 else none) else none
def tL(l:List Int)(below:Int):Int:=(eg (py l below) 0 l.length).getD 0
theorem Qd{α:Type}[Inhabited α](p:α→Bool)(l:List α):(eg (λ i=>if p (nth l i) then some true else none) 0 l.length).getD false=l.any p:=by
 cases h:eg (λ i=>if p (nth l i) then some true else none) 0 l.length with
 | none =>
  rw [nX] at h
  symm
  rw [Option.getD_none,List.any_eq_false]
  intro x hx
  obtain ⟨i,hi,rfl⟩:=wA hx
  have:=h i (Nat.zero_le _) (by omega)
  simpa using this
 | some o =>
  obtain ⟨j,_,hj,he,_⟩:=r8 h
  split at he
  ·rename_i hp
   cases he
   symm
   rw [nm,List.any_eq_true]
   exact ⟨nth l j,ib (by omega),hp⟩
  ·cases he
theorem apN(l:List Int)(n:Int):(l.any λ x=>x == n)=l.contains n:=by
 rw [Bool.eq_iff_iff,List.any_eq_true,List.contains_iff_mem]
 constructor
 ·rintro ⟨x,hx,h⟩
  rw [beq_iff_eq] at h; subst h; exact hx
 ·intro h; exact ⟨n,h,by simp⟩
theorem auP{α:Type}[Inhabited α](p:α→Bool)(l:List α):decide ((eg (λ i=>if p (nth l i) then some (i:Int) else none) 0 l.length).getD (-1) ≥ 0)=l.any p:=by
 rw [← Qd p l]
 cases h:eg (λ i=>if p (nth l i) then some (i:Int) else none) 0 l.length with
 | none =>
  rw [nX] at h
  have:eg (λ i=>if p (nth l i) then some true else none) 0 l.length=none:=by
   rw [nX]
   intro j h1 h2
   have:=h j h1 h2
   cases hp:p (nth l j) with
   | true=>rw [hp] at this; cases this
   | false=>rfl
  rw [this]; rfl
 | some o =>
  obtain ⟨j,h1,h2,h3,h4⟩:=r8 h
  split at h3
  ·rename_i hp
   cases h3
   have:eg (λ i=>if p (nth l i) then some true else none) 0 l.length=some true:=by
    cases hf:eg (λ i=>if p (nth l i) then some true else none) 0 l.length with
    | none=>rw [nX] at hf; have:=hf j h1 h2; rw [if_pos hp] at this; cases this
    | some b =>
     obtain ⟨_,_,_,hb,_⟩:=r8 hf
     split at hb
     ·cases hb; rfl
     ·cases hb
   rw [this]
   simp
  ·cases h3
theorem S0{O:Type}{body:Int→Option (Int ⊕ (Unit ⊕ O))}(e:Nat→Option O)(n:Nat)(h:∀ i,i < n→body (i:Int)=some (match e i with | some o=>.inr (.inr o) | none=>.inl ((i+1:Nat):Int)))(hn:body (n:Int)=some (.inr (.inl ()))) :
  bD body 0=some (match eg e 0 n with | some o=>.inr o | none=>.inl ()):=by
 refine (aK2 (λ i=>(i:Int)) (λ i=>(e i).map Sum.inr) n (o:=.inl ()) (λ i hi=>?_) hn).trans ?_
 ·rw [h i hi]
  cases e i <;> rfl
 ·rw [Ww]
  cases eg e 0 n <;> rfl
theorem ahu{α O:Type}[Inhabited α](p:α→Bool)(c:O)(l:List α)(n:Nat)(hn:n≤l.length):eg (λ k=>if p (nth l k) then some c else none) 0 n=if (l.take n).any p then some c else none:=by
 cases h:eg (λ k=>if p (nth l k) then some c else none) 0 n with
 | none =>
  rw [nX] at h
  have:(l.take n).any p=false:=by
   rw [List.any_eq_false]
   intro x hx
   obtain ⟨i,hi,rfl⟩:=wA hx
   have oO:i < n:=by simp at hi; omega
   rw [sY oO]
   have:=h i (Nat.zero_le _) (by omega)
   simpa using this
  rw [this]; rfl
 | some o =>
  obtain ⟨j,_,hj,he,_⟩:=r8 h
  split at he
  ·rename_i hp
   cases he
   have:(l.take n).any p=true:=by
    rw [List.any_eq_true]
    refine ⟨nth l j,?_,hp⟩
    rw [← sY (l:=l) (show j < n by omega)]
    exact ib (by simp; omega)
   rw [this]; rfl
  ·cases he
def isLet(n:Int):Bool:=cS n 97 122
def zI(n:Int):Bool:=cS n 48 57
theorem S9(s:ByteArray):(iC s).length=s.size:=by simp [iC]
theorem alD{s:ByteArray}{i:Nat}(h:i < s.size):0≤nth (iC s) i∧nth (iC s) i < 256:=by
 have hm:nth (iC s) i∈iC s:=ib (by rw [S9]; exact h)
 unfold iC at hm
 obtain ⟨b,_,hb⟩:=List.mem_map.1 hm
 unfold iC
 rw [← hb]
 have:=b.toNat_lt
 omega
def oX(s:ByteArray)(i:Nat):Option Bool:=if isLet (nth (iC s) i)=false then (if i=0 then some false else if zI (nth (iC s) i)=false then some false else none) else none
def qs(s:ByteArray):Bool:=(eg (oX s) 0 s.size).getD (cS (s.size:Int) 1 12)
theorem aiZ{s:ByteArray}{k i:Nat}{o:Bool}(h:eg (oX s) i k=some o):o=false:=by
 obtain ⟨j,_,_,he,_⟩:=r8 h
 unfold oX at he
 split at he
 ·split at he
  ·cases he; rfl
  ·split at he
   ·cases he; rfl
   ·cases he
 ·cases he
theorem my{a:Int}(h:a≠0):(a != 0)=true:=by simpa using h
theorem iV{n a c:Int}:cS n a c=true↔a≤n∧n≤c:=by simp [cS]
theorem KS{e:Nat→Option Int}{n:Nat}(cU:∀ i,e i≠some 0)(h:(eg e 0 n).getD 0=0):∀ i,i < n→e i=none:=by
 cases hf:eg e 0 n with
 | none=>rw [nX] at hf; exact λ i hi=>hf i (Nat.zero_le _) (by omega)
 | some o =>
  rw [hf] at h
  obtain ⟨j,_,_,he,_⟩:=r8 hf
  have:o=0:=h
  subst this
  exact absurd he (cU j)
theorem aKX{n m:Nat}:((n:Int) != (m:Int))=decide (n≠m):=by
 by_cases h:n=m
 ·subst h; simp
 ·have:¬ (n:Int)=(m:Int):=by omega
  simp [h,this]
theorem aqV{l:List Int}{below:Int}(h:tL l below=0):∀ x∈l,0≤x∧x < below:=by
 intro x hx
 obtain ⟨i,hi,rfl⟩:=wA hx
 have:=KS (e:=py l below) (λ i=>by
  unfold py
  split
  ·intro e; cases e
  ·split
   ·split
    ·intro e; cases e
    ·intro e; cases e
   ·intro e; cases e) h i hi
 unfold py at this
 split at this
 ·cases this
 ·rename_i hb
  have hb:cS (nth l i) 0 (below - 1)=true:=by simpa using hb
  rw [iV] at hb
  omega
def qg{α S:Type}(ys:α→S→Option (S × Bool)):List α→S→Option (S × Bool)
 | [],s=>some (s,true)
 | a::l,s=>(ys a s).bind λ r=>if r.2=true then qg ys l r.1 else some (r.1,false)
theorem ahx{α S:Type}(ys:α→S→Option (S × Bool)):∀ (l m:List α) (s:S),qg ys (l++m) s=(qg ys l s).bind λ r=>if r.2=true then qg ys m r.1 else some (r.1,false)
 | [],_,_=>by simp [qg]
 | a::l,m,s=>by
  simp only [List.cons_append,qg]
  cases ys a s with
  | none=>rfl
  | some r =>
   simp only [aM]
   cases hr:r.2 with
   | true=>simp only [if_true]; exact ahx ys l m r.1
   | false=>simp
theorem ajh{α X:Type}{body:List α × X→Option ((List α × X) ⊕ List α)}(x:Nat→X)(yF:Nat→List α)(n m:Nat)(acc:List α)(hm:∀ j,j < n→(yF j).length≤m)
  (h:∀ j l,j < n→l.length≤acc.length+j * m→body (l,x j)=some (.inl (l++yF j,x (j+1)))) (hn:∀ l,body (l,x n)=some (.inr l)):bD body (acc,x 0)=some (acc++(List.range n).flatMap yF):=by
 have hl:∀ j,j≤n→((List.range j).flatMap yF).length≤j * m:=by
  intro j
  induction j with
  | zero=>intro _; simp
  | succ j ih =>
   intro hj
   have:=ih (by omega)
   have:=hm j (by omega)
   rw [List.range_succ,List.flatMap_append,kO,Nat.add_mul]
   simp only [List.flatMap_cons,List.flatMap_nil,List.append_nil]
   omega
 have:=zK (λ j=>(acc++(List.range j).flatMap yF,x j)) n (body:=body) (o:=acc++(List.range n).flatMap yF) (λ j hj=>?_) (hn _)
 ·simpa using this
 ·rw [h j _ hj (by rw [kO]; have:=hl j (by omega); omega),List.range_succ,List.flatMap_append]
  simp
theorem auQ{α β:Type}[Inhabited α](f:α→List β)(l:List α):(List.range l.length).flatMap (λ j=>f (nth l j))=l.flatMap f:=by
 have e:(List.range l.length).map (nth l)=l:=(Sq (by simp) (λ i hi=>by
  rw [List.length_map,List.length_range] at hi
  have h1:=bE (l:=(List.range l.length).map (nth l)) (i:=i) (by simpa using hi)
  simp only [List.getElem?_map,List.getElem?_range hi,Option.map_some,jl] at h1
  exact h1.symm))
 have h:((List.range l.length).map (nth l)).flatMap f=l.flatMap f:=by rw [e]
 rw [List.flatMap_map] at h
 exact h
theorem ahw{α β:Type}(f:α→β):∀ l:List α,l.flatMap (λ x=>[f x])=l.map f
 | []=>rfl
 | a::l=>by rw [List.flatMap_cons,ahw f l]; rfl
theorem aO2{i:Nat}(h:i≤5):3 ^ i≤243:=by
 match i,h with
 | 0,_=>decide
 | 1,_=>decide
 | 2,_=>decide
 | 3,_=>decide
 | 4,_=>decide
 | 5,_=>decide
theorem ahy{α S O:Type}{body:α→S→Option (S ⊕ O)}(I:Nat→S→Prop)(f:α→S→S):∀ (l:List α) (k:Nat) (s:S),I k s→(∀ j s a,j < k+l.length→I j s→a∈l→body a s=some (.inl (f a s))∧I (j+1) (f a s)) →
  qg (gV body) l (.inl s)=some (.inl (l.foldl (λ s a=>f a s) s),true)
 | [],_,_,_,_=>rfl
 | a::l,k,s,hI,h=>by
  obtain ⟨h1,h2⟩:=h k s a (by simp) hI (by simp)
  simp only [qg,gV,h1,Option.map_some,aM,Sum.isLeft_inl,if_true,List.foldl_cons]
  exact ahy I f l (k+1) _ h2 (λ j s a' hj hI ha=>h j s a' (by simp only [List.length_cons]; omega) hI (by simp [ha]))
theorem aiR{n:Nat}:(((n:Nat):Int) == 0)=(n == 0):=by
 rw [Bool.eq_iff_iff,beq_iff_eq,beq_iff_eq]
 omega
def Ek(n all:Nat):Int:=if n=0 then 2 else if n=all then 1 else 0
def DI(a c:List Int)(i:Nat):Option Bool:=if a.length≤i then some true else if nth a i < nth c i then some true else if nth a i > nth c i then some false else none
def G8(a c:List Int):Bool:=(eg (DI a c) 0 c.length).getD false
theorem ahv{α β:Type}(f:α→List β)(m:Nat)(h:∀ a,(f a).length≤m):∀ l:List α,(l.flatMap f).length≤l.length * m
 | []=>by simp
 | a::l=>by
  have:=ahv f m h l
  have:=h a
  simp only [List.flatMap_cons,kO,List.length_cons,Nat.add_mul,Nat.one_mul]
  omega
theorem aj8{w x:Int}:sU w [x]=max w x:=by
 show (if x > w then x else w)=_
 rw [Int.max_def]
 split <;> split <;> omega
theorem ae4:∀ (l m:List Int),l.Pairwise (· < ·)→m.Pairwise (· < ·)→(∀ x,x∈l↔x∈m)→l=m
 | [],[],_,_,_=>rfl
 | [],b::m,_,_,h=>by have:=(h b).2 (by simp); cases this
 | a::l,[],_,_,h=>by have:=(h a).1 (by simp); cases this
 | a::l,b::m,hl,hm,h=>by
  rw [List.pairwise_cons] at hl hm
  have bN:a=b:=by
   rcases fR.1 ((h a).1 (by simp)) with h1 | h1
   ·exact h1
   ·rcases fR.1 ((h b).2 (by simp)) with h2 | h2
    ·exact h2.symm
    ·have h3:=hm.1 a h1
     have h4:=hl.1 b h2
     omega
  subst bN
  rw [ae4 l m hl.2 hm.2 λ x=>?_]
  constructor
  ·intro hx
   rcases fR.1 ((h x).1 (by simp [hx])) with h1 | h1
   ·have:=hl.1 x hx; omega
   ·exact h1
  ·intro hx
   rcases fR.1 ((h x).2 (by simp [hx])) with h1 | h1
   ·have:=hm.1 x hx; omega
   ·exact h1
def mh(l:List Int):Nat→List Int
 | 0=>[]
 | k+1=>if k=0∨nth l k≠nth l (k - 1) then mh l k++[nth l k] else mh l k
theorem VZ(l:List Int):∀ (k:Nat) (x:Int),x∈mh l k↔∃ i,i < k∧nth l i=x
 | 0,x=>by simp [mh]
 | k+1,x=>by
  have ih:=VZ l k x
  simp only [mh]
  have h1:(∃ i,i < k+1∧nth l i=x)↔(∃ i,i < k∧nth l i=x)∨nth l k=x:=by
   constructor
   ·rintro ⟨i,hi,hx⟩
    by_cases XZ:i=k
    ·subst XZ; exact .inr hx
    ·exact .inl ⟨i,by omega,hx⟩
   ·rintro (⟨i,hi,hx⟩ | hx)
    ·exact ⟨i,by omega,hx⟩
    ·exact ⟨k,by omega,hx⟩
  rw [h1]
  split
  ·rw [List.mem_append,ih,List.mem_singleton]
   constructor <;> rintro (h | h) <;> simp [h]
  ·rename_i hn
   have hk:k≠0∧nth l k=nth l (k - 1):=by
    constructor
    ·exact λ h=>hn (.inl h)
    ·exact Classical.byContradiction λ h=>hn (.inr h)
   rw [ih]
   constructor
   ·exact .inl
   ·rintro (h | h)
    ·exact h
    ·exact ⟨k - 1,by omega,by rw [← hk.2,h]⟩
theorem aln{l:List Int}(hs:l.Pairwise (·≤·)){i j:Nat}(fY:i < j)(hj:j < l.length):nth l i≤nth l j:=by
 rw [List.pairwise_iff_getElem] at hs
 have h:=hs i j (by omega) hj fY
 have e1:=bE (show i < l.length by omega)
 have e2:=bE hj
 rw [lz (by omega)] at e1 e2
 rw [← j6 e1,← j6 e2]
 exact h
theorem af4{l:List Int}(hs:l.Pairwise (·≤·)):∀ k,k≤l.length→(mh l k).Pairwise (· < ·)
 | 0,_=>by simp [mh]
 | k+1,hk=>by
  have ih:=af4 hs k (by omega)
  simp only [mh]
  split
  ·rename_i h
   rw [List.pairwise_append]
   refine ⟨ih,by simp,λ x hx y hy=>?_⟩
   rw [List.mem_singleton] at hy
   subst hy
   obtain ⟨i,hi,rfl⟩:=(VZ l k x).1 hx
   rcases h with h | h
   ·omega
   ·have h1:=aln hs (show k - 1 < k by omega) (by omega)
    have h2:nth l i≤nth l (k - 1):=by
     rcases Nat.lt_or_ge i (k - 1) with h3 | h3
     ·exact aln hs h3 (by omega)
     ·rw [show i=k - 1 by omega]; exact Int.le_refl _
    omega
  ·exact ih
theorem VY{l:List Int}:∀ k,k≤l.length→(∀ i,1≤i→i < k→nth l i≠nth l (i - 1))→mh l k=l.take k
 | 0,_,_=>by simp [mh]
 | k+1,hk,h=>by
  rw [mh,if_pos (by
   by_cases h0:k=0
   ·exact .inl h0
   ·exact .inr (h k (by omega) (by omega))),VY k (by omega) (λ i h1 h2=>h i h1 (by omega)),List.take_add_one,bE (by omega)]
  rfl
theorem agc{m:List Int}{a i:Nat}(h:a+i < m.length):(m.drop a)[i]? = some (nth m (a+i)):=by
 rw [List.getElem?_drop,bE h]
theorem aNV{m:List Int}{w i:Nat}{x:Int}(h:w≠i):nth (m.set w x) i=nth m i:=by
 unfold nth
 rw [rS,rS,List.getElem?_set_ne h]
theorem take_set{m:List Int}{w:Nat}{x:Int}(h:w < m.length):(m.set w x).take (w+1)=m.take w++[x]:=by
 rw [List.take_add_one,List.getElem?_set_self h,List.take_set_of_le (dD _)]
 rfl
theorem Si{p:Int→Bool}{x:Int}:∀ {l:List Int},x∈l.takeWhile p→p x=true
 | [],h=>by cases h
 | a::l,h=>by
  by_cases ha:p a=true
  ·rw [List.takeWhile_cons_of_pos ha] at h
   rcases fR.1 h with rfl | h
   ·exact ha
   ·exact Si h
  ·rw [List.takeWhile_cons_of_neg ha] at h
   cases h
def qq(acc:List Int)(x:Int):List Int:=if x∈acc then acc else acc.takeWhile (λ y=>decide (y < x))++x::acc.dropWhile (λ y=>decide (y < x))
def kL(l:List Int):List Int:=l.foldl qq []
theorem aJL{acc:List Int}(h:acc.Pairwise (· < ·))(x:Int):(qq acc x).Pairwise (· < ·)∧∀ y,y∈qq acc x↔y∈acc∨y=x:=by
 unfold qq
 split
 ·rename_i hx
  refine ⟨h,λ y=>?_⟩
  constructor
  ·exact .inl
  ·rintro (h | rfl)
   ·exact h
   ·exact hx
 ·rename_i hx
  have e:acc=acc.takeWhile (λ y=>decide (y < x))++acc.dropWhile (λ y=>decide (y < x)):=(List.takeWhile_append_dropWhile).symm
  have h1:∀ y∈acc.takeWhile (λ y=>decide (y < x)),y < x:=λ y hy=>by simpa using Si hy
  have h2:∀ y∈acc.dropWhile (λ y=>decide (y < x)),x < y:=by
   intro y hy
   have hp:(acc.dropWhile (λ y=>decide (y < x))).Pairwise (· < ·):=List.Pairwise.sublist (List.dropWhile_sublist _) h
   cases hd:acc.dropWhile (λ y=>decide (y < x)) with
   | nil=>rw [hd] at hy; cases hy
   | cons a r =>
    have ha:¬ a < x:=by
     have:=List.head_dropWhile_not (λ y=>decide (y < x)) (l:=acc) (by rw [hd]; simp)
     simp only [hd,List.head_cons] at this
     simpa using this
    have D7:a≠x:=λ D7=>hx (by rw [← D7]; exact (List.dropWhile_sublist _).subset (by rw [hd]; simp))
    rw [hd] at hy hp
    rw [List.pairwise_cons] at hp
    rcases fR.1 hy with rfl | hy
    ·omega
    ·have:=hp.1 y hy; omega
  constructor
  ·rw [List.pairwise_append,List.pairwise_cons]
   refine ⟨List.Pairwise.sublist (List.takeWhile_sublist _) h,⟨h2,List.Pairwise.sublist (List.dropWhile_sublist _) h⟩,λ y hy z hz=>?_⟩
   have:=h1 y hy
   rcases fR.1 hz with rfl | hz
   ·exact this
   ·have:=h2 z hz; omega
  ·intro y
   rw [List.mem_append,fR]
   conv=>rhs; rw [e,List.mem_append]
   constructor
   ·rintro (h | h | h) <;> simp [h]
   ·rintro ((h | h) | h) <;> simp [h]
theorem S5:∀ (l acc:List Int),acc.Pairwise (· < ·)→(l.foldl qq acc).Pairwise (· < ·)∧∀ y,y∈l.foldl qq acc↔y∈acc∨y∈l
 | [],acc,h=>⟨h,λ y=>by simp⟩
 | x::l,acc,h=>by
  obtain ⟨h1,h2⟩:=aJL h x
  obtain ⟨h3,h4⟩:=S5 l (qq acc x) h1
  refine ⟨h3,λ y=>?_⟩
  rw [List.foldl_cons,h4,h2,fR]
  constructor
  ·rintro ((h | h) | h) <;> simp [h]
  ·rintro (h | h | h) <;> simp [h]
theorem S4(l:List Int):(kL l).Pairwise (· < ·):=(S5 l [] (by simp)).1
theorem Ft(l:List Int)(y:Int):y∈kL l↔y∈l:=by
 have:=(S5 l [] (by simp)).2 y
 simpa [kL] using this
theorem aJM(acc:List Int)(x:Int):(qq acc x).length≤acc.length+1:=by
 unfold qq
 split
 ·omega
 ·have:=congrArg List.length (List.takeWhile_append_dropWhile (p:=λ y=>decide (y < x)) (l:=acc))
  simp only [kO,List.length_cons] at this ⊢
  omega
theorem acN:∀ (l acc:List Int),(l.foldl qq acc).length≤acc.length+l.length
 | [],acc=>by simp
 | x::l,acc=>by
  have h1:=acN l (qq acc x)
  have h2:=aJM acc x
  rw [List.foldl_cons,List.length_cons]
  omega
theorem aQd(l:List Int):(kL l).length≤l.length:=by
 have:=acN l []
 simpa [kL] using this
theorem aQD(acc:List Int)(x:Int):acc.takeWhile (λ y=>decide (y < x))=acc.take (acc.takeWhile (λ y=>decide (y < x))).length∧acc.dropWhile (λ y=>decide (y < x))=acc.drop (acc.takeWhile (λ y=>decide (y < x))).length:=by
 have e:acc.takeWhile (λ y=>decide (y < x))++acc.dropWhile (λ y=>decide (y < x))=acc:=List.takeWhile_append_dropWhile
 have h1:(acc.takeWhile (λ y=>decide (y < x))++acc.dropWhile (λ y=>decide (y < x))).take (acc.takeWhile (λ y=>decide (y < x))).length=acc.takeWhile (λ y=>decide (y < x)):=List.take_left
 have h2:(acc.takeWhile (λ y=>decide (y < x))++acc.dropWhile (λ y=>decide (y < x))).drop (acc.takeWhile (λ y=>decide (y < x))).length=acc.dropWhile (λ y=>decide (y < x)):=List.drop_left
 rw [e] at h1 h2
 exact ⟨h1.symm,h2.symm⟩
theorem aNL{w x:Int}:CE w [x]=min w x:=by
 show (if x < w then x else w)=_
 rw [Int.min_def]
 split <;> split <;> omega
theorem aNU{α:Type}[Inhabited α]{m:List α}{w:Nat}{x:α}(h:w < m.length):nth (m.set w x) w=x:=by
 unfold nth
 rw [rS,List.getElem?_set_self h]
 rfl
theorem akk{α:Type}[Inhabited α]{m:List α}{w i:Nat}{x:α}(h:w≠i):nth (m.set w x) i=nth m i:=by
 unfold nth
 rw [rS,rS,List.getElem?_set_ne h]
section
variable {α:Type}
def lvl(ext:Nat→List α→List α):Nat→List (List α)
 | 0=>[[]]
 | i+1=>(lvl ext i).flatMap λ p=>(ext i p).map λ x=>p++[x]
def tree(ext:Nat→List α→List α):Nat→Nat→List α→List (List α)
 | 0,_,p=>[p]
 | j+1,i,p=>(ext i p).flatMap λ x=>tree ext j (i+1) (p++[x])
theorem ajn(ext:Nat→List α→List α):∀ j i,(lvl ext i).flatMap (tree ext j i)=lvl ext (i+j)
 | 0,i=>by simp [tree]
 | j+1,i=>by
  rw [show i+(j+1)=(i+1)+j by omega,← ajn ext j (i+1)]
  simp only [lvl,tree,List.flatMap_assoc,List.flatMap_map]
theorem aQM(ext:Nat→List α→List α)(n:Nat):tree ext n 0 []=lvl ext n:=by
 have:=ajn ext n 0
 rw [Nat.zero_add] at this
 rw [← this]
 simp [lvl]
theorem ab9[Inhabited α]{p q:List α}{i:Nat}(h:i < p.length):nth (p++q) i=nth p i:=by
 unfold nth
 rw [rS,rS,rR h]
theorem akj[Inhabited α]{p:List α}{x:α}:nth (p++[x]) p.length=x:=by
 unfold nth
 rw [rS,oz (dD _),Nat.sub_self]
 rfl
theorem aP5[Inhabited α]{r:List α}{n:Nat}(h:r.length=n+1):r=r.take n++[nth r n]:=by
 have h1:n < r.length:=by omega
 have h2:=List.take_succ_eq_append_getElem h1
 rw [List.take_of_length_le (by omega)] at h2
 have h3:=bE h1
 rw [lz h1] at h3
 rw [← j6 h3]
 exact h2
theorem Sg[Inhabited α]{ext:Nat→List α→List α}:∀ {n:Nat} {r:List α},r∈lvl ext n↔r.length=n∧∀ i,i < n→nth r i∈ext i (r.take i)
 | 0,r=>by
  simp only [lvl,List.mem_singleton]
  constructor
  ·rintro rfl; exact ⟨rfl,λ i hi=>by omega⟩
  ·rintro ⟨h,_⟩; exact List.length_eq_zero_iff.1 h
 | n+1,r=>by
  simp only [lvl,List.mem_flatMap,List.mem_map]
  constructor
  ·rintro ⟨p,hp,x,hx,rfl⟩
   obtain ⟨h1,h2⟩:=Sg.1 hp
   refine ⟨by simp [h1],λ i hi=>?_⟩
   by_cases zt:i < n
   ·rw [ab9 (by omega),List.take_append_of_le_length (by omega)]
    exact h2 i zt
   ·obtain rfl:i=p.length:=by omega
    rw [akj,List.take_append_of_le_length (dD _),List.take_length,h1]
    exact hx
  ·rintro ⟨h1,h2⟩
   refine ⟨r.take n,Sg.2 ⟨by simp; omega,λ i hi=>?_⟩,nth r n,h2 n (by omega),(aP5 h1).symm⟩
   rw [sY hi,List.take_take,Nat.min_eq_left (by omega)]
   exact h2 i (by omega)
def RN[Inhabited α](lt:α→α→Prop)(p q:List α):Prop:=∃ k,k < p.length∧k < q.length∧p.take k=q.take k∧lt (nth p k) (nth q k)
theorem aKZ[Inhabited α]{lt:α→α→Prop}(h:∀ x,¬ lt x x)(p:List α):¬ RN lt p p:=λ ⟨_,_,_,_,hk⟩=>h _ hk
theorem aKY[Inhabited α]{lt:α→α→Prop}(h:∀ x,¬ lt x x)(ha:∀ x y,lt x y→¬ lt y x){p q:List α}(h1:RN lt p q):¬ RN lt q p:=by
 obtain ⟨k,k1,k2,k3,k4⟩:=h1
 rintro ⟨m,m1,m2,m3,m4⟩
 rcases Nat.lt_trichotomy k m with LR | rfl | LR
 ·have e:nth p k=nth q k:=by rw [← sY (l:=p) LR,← sY (l:=q) LR,m3]
  rw [e] at k4
  exact h _ k4
 ·exact ha _ _ k4 m4
 ·have e:nth p m=nth q m:=by rw [← sY (l:=p) LR,← sY (l:=q) LR,k3]
  rw [e] at m4
  exact h _ m4
end
theorem aKW{α β:Type}{l:List α}{m:List β}(f:α→β)(hn:l.Nodup)(hi:∀ x∈l,∀ y∈l,f x=f y→x=y)(hm:∀ x∈l,f x∈m):l.length≤m.length:=by
 classical
 induction l generalizing m with
 | nil=>simp
 | cons a l ih =>
  rw [List.nodup_cons] at hn
  obtain ⟨s,t,rfl⟩:=List.append_of_mem (hm a (by simp))
  have:=ih (m:=s++t) hn.2 (λ x hx y hy=>hi x (by simp [hx]) y (by simp [hy])) (λ x hx=>by
   have h1:=hm x (by simp [hx])
   have h2:f x≠f a:=λ e=>hn.1 (hi x (by simp [hx]) a (by simp) e ▸ hx)
   simp only [List.mem_append,fR] at h1 ⊢
   rcases h1 with h1 | h1 | h1
   ·exact .inl h1
   ·exact absurd h1 h2
   ·exact .inr h1)
  simp only [kO,List.length_cons] at this ⊢
  omega
theorem aiP(x:Int):¬ x < x:=by omega
theorem aJK(x y:Int)(h:x < y):¬ y < x:=by omega
abbrev N2:List Int→List Int→Prop:=RN (· < ·)
def meet(c d:List Int):Bool:=c.any λ k=>d.contains k
theorem aNK{c d:List Int}:meet c d=true↔∃ k,k∈c∧k∈d:=by
 simp only [meet,List.any_eq_true,List.contains_iff_mem]
theorem aj9{c d:List Int}:meet c d=false↔∀ k,k∈c→k ∉ d:=by
 rw [← Bool.not_eq_true,aNK]
 exact ⟨λ h k h1 h2=>h ⟨k,h1,h2⟩,λ h ⟨k,h1,h2⟩=>h k h1 h2⟩
theorem alb(c:List Int):¬ N2 c c:=aKZ aiP c
theorem aPJ(c d:List Int)(h:N2 c d):¬ N2 d c:=aKY aiP aJK h
theorem Vj{l:List Int}(h:l.Pairwise (· < ·)){i j:Nat}(fY:i < j)(hj:j < l.length):nth l i < nth l j:=by
 rw [List.pairwise_iff_getElem] at h
 have:=h i j (by omega) hj fY
 have e1:=bE (l:=l) (i:=i) (by omega)
 have e2:=bE hj
 rw [lz (by omega)] at e1
 rw [lz hj] at e2
 rw [j6 e1,j6 e2] at this
 exact this
section
variable {α O:Type} [Inhabited α]
theorem ard{l:List α}{i:Nat}(h:i < l.length):l.drop i=nth l i::l.drop (i+1):=by
 rw [List.drop_eq_getElem_cons h]
 have h3:=bE h
 rw [lz h] at h3
 rw [j6 h3]
theorem ajf{l:List α}(p:α→Bool)(g:Nat→α→O){body:Int→Option (Int ⊕ (Unit ⊕ O))} (h:∀ i,i < l.length→body (i:Int)=some (if p (nth l i)=true then .inr (.inr (g i (nth l i))) else .inl ((i+1:Nat):Int)))
  (hn:body (l.length:Int)=some (.inr (.inl ()))) {o:Unit ⊕ O} (ho:(∀ i,i < l.length→p (nth l i)=true→(∀ j,j < i→p (nth l j)=false)→o = .inr (g i (nth l i)))∧((∀ x∈l,p x=false)→o = .inl ())):bD body 0=some o:=by
 have key:∀ k i,i+k=l.length→(∀ j,j < i→p (nth l j)=false)→bD body (i:Int)=some o:=by
  intro k
  induction k with
  | zero =>
   intro i hi hb
   obtain rfl:i=l.length:=by omega
   rw [ho.2 λ x hx=>by obtain ⟨j,hj,rfl⟩:=wA hx; exact hb j hj]
   exact lO hn
  | succ k ih =>
   intro i hi hb
   have Qy:=h i (by omega)
   cases hp:p (nth l i) with
   | true =>
    rw [hp,if_pos rfl] at Qy
    rw [ho.1 i (by omega) hp hb]
    exact lO Qy
   | false =>
    rw [hp,if_neg (by simp)] at Qy
    rw [vX Qy]
    exact ih (i+1) (by omega) λ j hj=>by
     by_cases e:j=i
     ·subst e; exact hp
     ·exact hb j (by omega)
 exact key l.length 0 (by omega) λ j hj=>by omega
theorem ajg{l:List α}(p:α→Bool)(g:α→O){body:Int→Option (Int ⊕ (Unit ⊕ O))} (h:∀ i,i < l.length→body (i:Int)=some (if p (nth l i)=true then .inr (.inr (g (nth l i))) else .inl ((i+1:Nat):Int)))
  (hn:body (l.length:Int)=some (.inr (.inl ()))):bD body 0=some (match l.find? p with | some x=>.inr (g x) | none=>.inl ()):=by
 refine ajf p (λ _ x=>g x) h hn ⟨λ i hi hp hb=>?_,λ hb=>?_⟩
 ·have:l.find? p=some (nth l i):=by
   rw [List.find?_eq_some_iff_append]
   refine ⟨hp,l.take i,l.drop (i+1),?_,λ x hx=>?_⟩
   ·rw [← ard hi,List.take_append_drop]
   ·obtain ⟨j,hj,rfl⟩:=wA hx
    have:j < i:=by simp at hj; omega
    rw [sY this,hb j this]; rfl
  rw [this]
 ·have:l.find? p=none:=by
   rw [List.find?_eq_none]
   intro x hx
   rw [hb x hx]; simp
  rw [this]
theorem RP{l:List α}(p:α→Bool)(c:O){body:Int→Option (Int ⊕ (Unit ⊕ O))}(h:∀ i,i < l.length→body (i:Int)=some (if p (nth l i)=true then .inl ((i+1:Nat):Int) else .inr (.inr c)))
  (hn:body (l.length:Int)=some (.inr (.inl ()))):bD body 0=some (if l.all p=true then .inl () else .inr c):=by
 refine ajf (λ x=>!p x) (λ _ _=>c) (λ i hi=>?_) hn ⟨λ i hi hp hb=>?_,λ hb=>?_⟩
 ·rw [h i hi]
  cases p (nth l i) <;> rfl
 ·rw [if_neg]
  intro ha
  rw [List.all_eq_true] at ha
  rw [ha _ (ib hi)] at hp
  cases hp
 ·rw [if_pos]
  rw [List.all_eq_true]
  intro x hx
  have:=hb x hx
  simpa using this
theorem zL{n:Nat}(p:Nat→Bool)(c:O){body:Int→Option (Int ⊕ (Unit ⊕ O))}(h:∀ i,i < n→body (i:Int)=some (if p i=true then .inl ((i+1:Nat):Int) else .inr (.inr c)))
  (hn:body (n:Int)=some (.inr (.inl ()))):bD body 0=some (if (List.range n).all p=true then .inl () else .inr c):=by
 have e:∀ i,i < n→nth (List.range n) i=i:=λ i hi=>by
  have:=bE (l:=List.range n) (i:=i) (by simpa using hi)
  rw [List.getElem?_range hi] at this
  exact (j6 this).symm
 refine RP (l:=List.range n) p c (λ i hi=>?_) (by rw [List.length_range]; exact hn)
 rw [List.length_range] at hi
 rw [h i hi,e i hi]
theorem abA{l:List α}(p:α→Bool){body:Int × Int→Option ((Int × Int) ⊕ Int)} (h:∀ i n:Nat,i < l.length→n≤i→body ((n:Int),(i:Int))=some (.inl (if p (nth l i)=true then ((n+1:Nat):Int) else (n:Int),((i+1:Nat):Int))))
  (hn:∀ n:Int,body (n,(l.length:Int))=some (.inr n)):bD body (0,0)=some ((l.filter p).length:Int):=by
 refine (zK (λ i=>((((l.take i).filter p).length:Int),(i:Int))) l.length (λ i hi=>?_) (hn _):bD body ((0:Int),(0:Int))=_).trans ?_
 ·have hl:((l.take i).filter p).length≤i:=Nat.le_trans (List.length_filter_le _ _) (by rw [jP]; omega)
  rw [h i _ hi hl]
  have:l.take (i+1)=l.take i++[nth l i]:=by
   rw [List.take_add_one,bE hi]; rfl
  rw [this,List.filter_append,kO]
  cases hp:p (nth l i) <;> simp [hp]
 ·rw [List.take_length]
theorem aK3{l:List α}(p:α→Bool)(_:l.length≤1000){body:List α × Int→Option ((List α × Int) ⊕ List α)} (h:∀ i acc,i < l.length→acc.length≤i→body (acc,(i:Int))=some (.inl (if p (nth l i)=true then acc++[nth l i] else acc,((i+1:Nat):Int))))
  (hn:∀ acc,body (acc,(l.length:Int))=some (.inr acc)):bD body ([],0)=some (l.filter p):=by
 refine (zK (λ i=>((l.take i).filter p,(i:Int))) l.length (λ i hi=>?_) (hn _):bD body ([],(0:Int))=_).trans ?_
 ·have hl:((l.take i).filter p).length≤i:=Nat.le_trans (List.length_filter_le _ _) (by rw [jP]; omega)
  rw [h i _ hi hl]
  have:l.take (i+1)=l.take i++[nth l i]:=by
   rw [List.take_add_one,bE hi]; rfl
  rw [this,List.filter_append]
  cases hp:p (nth l i) <;> simp [hp]
 ·rw [List.take_length]
end
end Go.Lg
