/- Plain lists. Conditions: none. -/
import Derived.Test.YtikficpdfaajlaaGreatDoorQSWLgC
namespace Go.Lg
open Go.Conc
set_option maxRecDepth 10000
theorem iB{S O:Type}{body:S→Option (S ⊕ O)}(st:Nat→S)(n:Nat){o:O}(h:∀ i,i < n→body (st i)=some (.inl (st (i+1))))(b:body (st n)=some (.inr o)):bb body (st 0)=some o:=by
 have key:∀ k,k≤n→bb body (st (n - k))=some o:=by
  intro k
  induction k with
  | zero=>intro _; exact gf b
  | succ k c =>
   intro d
   rw [kq (h (n - (k+1)) (by omega)),show n - (k+1)+1=n - k by omega]
   exact c (by omega)
 have:=key n (cq _)
 rwa [Nat.sub_self] at this
def de{O:Type}(e:Nat→Option O):Nat→Nat→Option O
 | _,0=>none
 | i,k+1=>match e i with | some o=>some o | none=>de e (i+1) k
def F9{S O:Type}(s:S):Option O→S ⊕ O
 | some o=>.inr o
 | none=>.inl s
theorem DW{S O:Type}{body:S→Option (S ⊕ O)}(st:Nat→S)(e:Nat→Option O)(i0 n:Nat){o:O}(h:∀ i,i0≤i→i < n→body (st i)=some (F9 (st (i+1)) (e i)))(b:body (st n)=some (.inr o))(d:i0≤n):bb body (st i0)=some ((de e i0 (n - i0)).getD o):=by
 have key:∀ k,k≤n - i0→bb body (st (n - k))=some ((de e (n - k) k).getD o):=by
  intro k
  induction k with
  | zero=>intro _; exact gf b
  | succ k c =>
   intro f
   have hb:=h (n - (k+1)) (by omega) (by omega)
   unfold de
   cases he:e (n - (k+1)) with
   | some o' =>
    rw [he] at hb
    exact gf hb
   | none =>
    rw [he] at hb
    rw [kq hb,show n - (k+1)+1=n - k by omega]
    exact c (by omega)
 have:=key (n - i0) (cq _)
 rwa [show n - (n - i0)=i0 by omega] at this
theorem NH{S O:Type}{body:S→Option (S ⊕ O)}(st:Nat→S)(e:Nat→Option O)(n:Nat){o:O}(h:∀ i,i < n→body (st i)=some (F9 (st (i+1)) (e i)))(b:body (st n)=some (.inr o)):bb body (st 0)=some ((de e 0 n).getD o):=by
 simpa using DW st e 0 n (λ i _ hi=>h i hi) b (Nat.zero_le _)
theorem iu{O:Type}{e:Nat→Option O}:∀ {k i:Nat},de e i k=none↔∀ j,i≤j→j < i+k→e j=none
 | 0,i=>by simp [de]; omega
 | k+1,i=>by
  unfold de
  cases he:e i with
  | some o=>simp; exact ⟨i,cq _,by omega,by rw [he]; simp⟩
  | none =>
   simp only
   rw [iu]
   constructor
   ·intro h j h1 h2
    by_cases b:j=i
    ·subst b; exact he
    ·exact h j (by omega) (by omega)
   ·intro h j h1 h2; exact h j (by omega) (by omega)
theorem lS{O:Type}{e:Nat→Option O}:∀ {k i:Nat} {o:O},de e i k=some o→∃ j,i≤j∧j < i+k∧e j=some o∧∀ m,i≤m→m < j→e m=none
 | 0,i,o,h=>by cases h
 | k+1,i,o,h=>by
  unfold de at h
  cases he:e i with
  | some o'=>rw [he] at h; cases h; exact ⟨i,cq _,by omega,he,λ m h1 h2=>by omega⟩
  | none =>
   rw [he] at h
   obtain ⟨j,h1,h2,h3,h4⟩:=lS h
   refine ⟨j,by omega,by omega,h3,λ m c b=>?_⟩
   by_cases hm:m=i
   ·subst hm; exact he
   ·exact h4 m (by omega) b
@[simp] theorem bf {α:Type} {a b:Option α}:ab true a b=a:=rfl
@[simp] theorem a3 {α:Type} {a b:Option α}:ab false a b=b:=rfl
@[simp] theorem b9 {α:Type} (xs:List α) (k:Nat):idx xs (k:Int)=xs[k]? := by simp [idx]
theorem c9{z:Int}(h1 : -4611686018427387904≤z)(h2:z≤4611686018427387904):i64 z=z:=uM (by omega)
theorem cj{i:Nat}(h:i≤1000000000):i64 ((i:Int)+1)=((i+1:Nat):Int):=by rw [c9 (by omega) (by omega)]; omega
theorem fB{i:Nat}(h:i≤1000000000)(b:0 < i):i64 ((i:Int) - 1)=((i - 1:Nat):Int):=by rw [c9 (by omega) (by omega)]; omega
theorem B0{α:Type}{xs:List α}{k:Nat}(h:k≤xs.length):fP xs 0 (k:Int)=some (xs.take k):=by simp [fP,h]
theorem jD{α:Type}{xs ys:List α}(h:xs.length+ys.length≤16777216):dO xs ys=some (xs++ys):=by simp [dO,h]
def bX(n a c:Int):Bool:=decide (a≤n) && decide (n≤c)
def nth{α:Type}[Inhabited α](l:List α)(i:Nat):α:=l.getD i default
theorem bl{α:Type}[Inhabited α]{l:List α}{i:Nat}(h:i < l.length):l[i]? = some (nth l i):=by
 unfold nth
 rw [hF,fy h]; rfl
theorem eJ{α:Type}[Inhabited α]{l:List α}{i:Nat}(h:i < l.length):nth l i∈l:=List.mem_of_getElem? (bl h)
theorem iI{α:Type}[Inhabited α]{l:List α}{x:α}(h:x∈l):∃ i,i < l.length∧nth l i=x:=by
 obtain ⟨i,hi,rfl⟩:=List.mem_iff_getElem.1 h
 refine ⟨i,hi,?_⟩
 have:=bl hi
 rw [fy hi] at this
 exact (eI this).symm
theorem Fe{α:Type}[Inhabited α]{l m:List α}(h:l.length=m.length)(he:∀ i,i < l.length→nth l i=nth m i):l=m:=by
 apply List.ext_getElem?
 intro i
 by_cases hi:i < l.length
 ·rw [bl hi,bl (h ▸ hi),he i hi]
 ·rw [List.getElem?_eq_none (by omega),List.getElem?_eq_none (by omega)]
theorem nD{α:Type}[Inhabited α]{l:List α}{i k:Nat}(h:i < k):nth (l.take k) i=nth l i:=by
 unfold nth
 rw [hF,hF,List.getElem?_take_of_lt h]
theorem eP{S O β:Type}{body:S→Option (S ⊕ O)}{s:S}{o:O}{f:O→Option β}(h:bb body s=some o):(bb body s).bind f=f o:=by rw [h]; rfl
theorem dec_lt{i:Nat}{n:Nat}(h:i < n):decide ((i:Int) < (n:Int))=true:=by simpa using h
theorem dX{n:Nat}:decide ((n:Int) < (n:Int))=false:=by simp
theorem xR{i:Nat}(h:0 < i):decide ((i:Int) > 0)=true:=by simpa using h
theorem xQ{i:Nat}(h:¬ 0 < i):decide ((i:Int) > 0)=false:=by simpa using h
theorem IE{O:Type}{f:Option O}{g:Unit→Option O}{d:O}(hd:g ()=some d):Sum.elim g (λ q=>some q) (((f.map Sum.inr).getD (.inl ())):Unit ⊕ O)=some (f.getD d):=by
 cases f with
 | none=>exact hd
 | some o=>rfl
theorem yy{O Q:Type}(g:O→Q)(e:Nat→Option O):∀ (k i:Nat),de (λ j=>(e j).map g) i k=(de e i k).map g
 | 0,_=>rfl
 | k+1,i=>by
  unfold de
  cases e i with
  | none=>exact yy g e k (i+1)
  | some o=>rfl
theorem search{O:Type}{body:Int→Option (Int ⊕ (Unit ⊕ O))}(e:Nat→Option O)(i0 n:Nat){d:O}{g:Unit→Option O}(h:∀ i,i0≤i→i < n→body (i:Int)=some (match e i with | some o=>.inr (.inr o) | none=>.inl ((i+1:Nat):Int)))(c:body (n:Int)=some (.inr (.inl ())))(b:i0≤n)(hd:g ()=some d) :
  (bb body (i0:Int)).bind (Sum.elim g λ q=>some q)=some ((de e i0 (n - i0)).getD d):=by
 refine (eP (DW (λ i=>(i:Int)) (λ i=>(e i).map Sum.inr) i0 n (o:=.inl ()) (λ i h1 h2=>?_) c b)).trans ?_
 ·rw [h i h1 h2]
  cases e i <;> rfl
 ·rw [yy]
  exact IE hd
theorem iK{O:Type}{body:Int→Option (Int ⊕ (Unit ⊕ O))}(e:Nat→Option O)(n:Nat){d:O}{g:Unit→Option O}(h:∀ i,i < n→body (i:Int)=some (match e i with | some o=>.inr (.inr o) | none=>.inl ((i+1:Nat):Int)))(b:body (n:Int)=some (.inr (.inl ())))(hd:g ()=some d) :
  (bb body 0).bind (Sum.elim g λ q=>some q)=some ((de e 0 n).getD d):=search e 0 n (λ i _ hi=>h i hi) b (Nat.zero_le _) hd
theorem yz{α:Type}[Inhabited α](p:α→Bool)(l:List α):(de (λ i=>if p (nth l i) then some true else none) 0 l.length).getD false=l.any p:=by
 cases h:de (λ i=>if p (nth l i) then some true else none) 0 l.length with
 | none =>
  rw [iu] at h
  symm
  rw [Option.getD_none,List.any_eq_false]
  intro x c
  obtain ⟨i,hi,rfl⟩:=iI c
  have:=h i (Nat.zero_le _) (by omega)
  simpa using this
 | some o =>
  obtain ⟨j,_,d,he,_⟩:=lS h
  split at he
  ·rename_i b
   cases he
   symm
   rw [gP,List.any_eq_true]
   exact ⟨nth l j,eJ (by omega),b⟩
  ·cases he
theorem Hd(l:ah)(n:Int):(l.any λ x=>x == n)=l.contains n:=by
 rw [Bool.eq_iff_iff,List.any_eq_true,List.contains_iff_mem]
 constructor
 ·rintro ⟨x,b,h⟩
  rw [beq_iff_eq] at h; subst h; exact b
 ·intro h; exact ⟨n,h,by simp⟩
theorem LU{α:Type}[Inhabited α](p:α→Bool)(l:List α):decide ((de (λ i=>if p (nth l i) then some (i:Int) else none) 0 l.length).getD (-1) ≥ 0)=l.any p:=by
 rw [← yz p l]
 cases h:de (λ i=>if p (nth l i) then some (i:Int) else none) 0 l.length with
 | none =>
  rw [iu] at h
  have:de (λ i=>if p (nth l i) then some true else none) 0 l.length=none:=by
   rw [iu]
   intro j h1 h2
   have:=h j h1 h2
   cases d:p (nth l j) with
   | true=>rw [d] at this; cases this
   | false=>rfl
  rw [this]; rfl
 | some o =>
  obtain ⟨j,h1,h2,h3,h4⟩:=lS h
  split at h3
  ·rename_i d
   cases h3
   have:de (λ i=>if p (nth l i) then some true else none) 0 l.length=some true:=by
    cases c:de (λ i=>if p (nth l i) then some true else none) 0 l.length with
    | none=>rw [iu] at c; have:=c j h1 h2; rw [if_pos d] at this; cases this
    | some b =>
     obtain ⟨_,_,_,hb,_⟩:=lS c
     split at hb
     ·cases hb; rfl
     ·cases hb
   rw [this]
   simp
  ·cases h3
theorem zM{O:Type}{body:Int→Option (Int ⊕ (Unit ⊕ O))}(e:Nat→Option O)(n:Nat)(h:∀ i,i < n→body (i:Int)=some (match e i with | some o=>.inr (.inr o) | none=>.inl ((i+1:Nat):Int)))(b:body (n:Int)=some (.inr (.inl ()))) :
  bb body 0=some (match de e 0 n with | some o=>.inr o | none=>.inl ()):=by
 refine (NH (λ i=>(i:Int)) (λ i=>(e i).map Sum.inr) n (o:=.inl ()) (λ i hi=>?_) b).trans ?_
 ·rw [h i hi]
  cases e i <;> rfl
 ·rw [yy]
  cases de e 0 n <;> rfl
theorem C6{α O:Type}[Inhabited α](p:α→Bool)(c:O)(l:List α)(n:Nat)(m:n≤l.length):de (λ k=>if p (nth l k) then some c else none) 0 n=if (l.take n).any p then some c else none:=by
 cases h:de (λ k=>if p (nth l k) then some c else none) 0 n with
 | none =>
  rw [iu] at h
  have:(l.take n).any p=false:=by
   rw [List.any_eq_false]
   intro x f
   obtain ⟨i,hi,rfl⟩:=iI f
   have b:i < n:=by simp at hi; omega
   rw [nD b]
   have:=h i (Nat.zero_le _) (by omega)
   simpa using this
  rw [this]; rfl
 | some o =>
  obtain ⟨j,_,g,he,_⟩:=lS h
  split at he
  ·rename_i d
   cases he
   have:(l.take n).any p=true:=by
    rw [List.any_eq_true]
    refine ⟨nth l j,?_,d⟩
    rw [← nD (l:=l) (show j < n by omega)]
    exact eJ (by simp; omega)
   rw [this]; rfl
  ·cases he
theorem collect{α:Type}{body:List α × Int→Option ((List α × Int) ⊕ List α)}(g:Nat→Option α)(n:Nat) (h:∀ i acc,i < n→acc.length≤i→body (acc,(i:Int))=some (.inl (acc++(g i).toList,((i+1:Nat):Int)))) (c:∀ acc,body (acc,(n:Int))=some (.inr acc)) :
  bb body ([],0)=some ((List.range n).filterMap g):=by
 refine (iB (λ i=>((List.range i).filterMap g,(i:Int))) n (λ i hi=>?_) (c _):bb body ([],(0:Int))=_)
 have hl:((List.range i).filterMap g).length≤i:=by
  have:=List.length_filterMap_le g (List.range i)
  simpa using this
 rw [h i _ hi hl,List.range_succ,List.filterMap_append,show List.filterMap g [i]=(g i).toList by cases b:g i <;> simp [b]]
def isLet(n:Int):Bool:=bX n 97 122
def lU(n:Int):Bool:=bX n 48 57
theorem wu(s:ByteArray):(eK s).length=s.size:=by simp [eK]
theorem Gf{s:ByteArray}{i:Nat}(h:i < s.size):0≤nth (eK s) i∧nth (eK s) i < 256:=by
 have hm:nth (eK s) i∈eK s:=eJ (by rw [wu]; exact h)
 unfold eK at hm
 obtain ⟨b,_,hb⟩:=List.mem_map.1 hm
 unfold eK
 rw [← hb]
 have:=b.toNat_lt
 omega
def g9(s:ByteArray)(i:Nat):a5:=if isLet (nth (eK s) i)=false then (if i=0 then some false else if lU (nth (eK s) i)=false then some false else none) else none
def hO(s:ByteArray):Bool:=(de (g9 s) 0 s.size).getD (bX (s.size:Int) 1 12)
theorem Ds{s:ByteArray}{k i:Nat}{o:Bool}(h:de (g9 s) i k=some o):o=false:=by
 obtain ⟨j,_,_,he,_⟩:=lS h
 unfold g9 at he
 split at he
 ·split at he
  ·cases he; rfl
  ·split at he
   ·cases he; rfl
   ·cases he
 ·cases he
theorem kL{a:Int}(h:a≠0):(a != 0)=true:=by simpa using h
theorem dE{n a c:Int}:bX n a c=true↔a≤n∧n≤c:=by simp [bX]
theorem rW{e:Nat→b5}{n:Nat}(c:∀ i,e i≠some 0)(h:(de e 0 n).getD 0=0):∀ i,i < n→e i=none:=by
 cases b:de e 0 n with
 | none=>rw [iu] at b; exact λ i hi=>b i (Nat.zero_le _) (by omega)
 | some o =>
  rw [b] at h
  obtain ⟨j,_,_,he,_⟩:=lS b
  have:o=0:=h
  subst this
  exact absurd he (c j)
theorem NA{n m:Nat}:((n:Int) != (m:Int))=decide (n≠m):=by
 by_cases h:n=m
 ·subst h; simp
 ·have:¬ (n:Int)=(m:Int):=by omega
  simp [h,this]
def di{α S:Type}(ys:α→S→Option (S × Bool)):List α→S→Option (S × Bool)
 | [],s=>some (s,true)
 | a::l,s=>(ys a s).bind λ r=>if r.2=true then di ys l r.1 else some (r.1,false)
theorem rR{α S:Type}(ys:α→S→Option (S × Bool)):∀ (l m:List α) (s:S),di ys (l++m) s=(di ys l s).bind λ r=>if r.2=true then di ys m r.1 else some (r.1,false)
 | [],_,_=>by simp [di]
 | a::l,m,s=>by
  simp only [List.cons_append,di]
  cases ys a s with
  | none=>rfl
  | some r =>
   simp only [aF]
   cases b:r.2 with
   | true=>simp only [if_true]; exact rR ys l m r.1
   | false=>simp
theorem NJ{α S X E:Type}{ys:α→S→Option (S × Bool)}{body:S × X→Option ((S × X) ⊕ (S ⊕ E))}(g:S→E)(x:Nat→X)(c:Nat→List α)(n:Nat)
  (h:∀ j s r,j < n→di ys (c j) s=some r→body (s,x j)=some (if r.2=true then .inl (r.1,x (j+1)) else .inr (.inr (g r.1)))) (d:∀ s,body (s,x n)=some (.inr (.inl s))) {s:S} {r:S × Bool}
  (b:di ys ((List.range n).flatMap c) s=some r):bb body (s,x 0)=some (if r.2=true then .inl r.1 else .inr (g r.1)):=by
 have key:∀ k,k≤n→∀ s,di ys ((List.range' (n - k) k).flatMap c) s=some r→bb body (s,x (n - k))=some (if r.2=true then .inl r.1 else .inr (g r.1)):=by
  intro k
  induction k with
  | zero =>
   intro _ s b
   simp only [List.range'_zero,List.flatMap_nil,di,ey] at b
   subst b
   exact gf (d s)
  | succ k i =>
   intro m s b
   have e:n - k=n - (k+1)+1:=by omega
   rw [List.range'_succ,List.flatMap_cons,rR] at b
   obtain ⟨q,f,b⟩:=af b
   have hb:=h (n - (k+1)) s q (by omega) f
   split at b
   ·rename_i h2
    rw [if_pos h2] at hb
    rw [kq hb,← e]
    exact i (by omega) _ (by rw [e]; exact b)
   ·rename_i h2
    rw [if_neg h2] at hb
    cases b
    rw [gf hb]
    simp
 have:=key n (cq n) s (by rw [Nat.sub_self,← List.range_eq_range']; exact b)
 rwa [Nat.sub_self] at this
theorem LW{α β:Type}(f:α→β):∀ l:List α,l.flatMap (λ x=>[f x])=l.map f
 | []=>rfl
 | a::l=>by rw [List.flatMap_cons,LW f l]; rfl
theorem rS{α S O:Type}{body:α→S→Option (S ⊕ O)}(I:Nat→S→Prop)(f:α→S→S):∀ (l:List α) (k:Nat) (s:S),I k s→(∀ j s a,j < k+l.length→I j s→a∈l→body a s=some (.inl (f a s))∧I (j+1) (f a s)) →
  di (dM body) l (.inl s)=some (.inl (l.foldl (λ s a=>f a s) s),true)
 | [],_,_,_,_=>rfl
 | a::l,k,s,b,h=>by
  obtain ⟨h1,h2⟩:=h k s a (by simp) b (by simp)
  simp only [di,dM,h1,Option.map_some,aF,Sum.isLeft_inl,if_true,List.foldl_cons]
  exact rS I f l (k+1) _ h2 (λ j s c g b d=>h j s c (by simp only [List.length_cons]; omega) b (by simp [d]))
def cB(n a:Nat):ah:=((List.range n).filter λ i=>a.testBit i).map λ (i:Nat)=>(i:Int)
def iz:ah→ah→Bool
 | [],[]=>false
 | [],_::_=>true
 | _::_,[]=>false
 | a::l,c::m=>decide (a < c) || (a == c && iz l m)
def iY(l m:ah):Bool:=decide (l.length < m.length) || (l.length == m.length && iz l m)
theorem Da{n:Nat}:∀ i,i < n→(2 ^ n - 1).testBit i=true:=λ i hi=>by rw [Nat.testBit_two_pow_sub_one]; simpa using hi
theorem zy{n:Nat}(h:n < 5):2 ^ n≤16:=by
 match n,h with
 | 0,_=>decide
 | 1,_=>decide
 | 2,_=>decide
 | 3,_=>decide
 | 4,_=>decide
theorem Mn{n:Nat}:(((n:Nat):Int) == 0)=(n == 0):=by
 rw [Bool.eq_iff_iff,beq_iff_eq,beq_iff_eq]
 omega
def gU(n all:Nat):Int:=if n=0 then 2 else if n=all then 1 else 0
theorem Df{α:Type}{p:α→Bool}{l:List α}(d:l≠[]):(gU (l.filter p).length l.length == 1)=decide (∀ c∈l,p c=true):=by
 rw [Bool.eq_iff_iff,decide_eq_true_eq,beq_iff_eq]
 unfold gU
 have hlen:0 < l.length:=List.length_pos_iff.2 d
 constructor
 ·intro h
  split at h
  ·cases h
  ·split at h
   ·rename_i h2
    intro c b
    exact (List.filter_eq_self.1 (List.Sublist.eq_of_length (List.filter_sublist) h2)) c b
   ·cases h
 ·intro h
  rw [List.filter_eq_self.2 h,if_neg (by omega),if_pos rfl]
theorem De{α:Type}{p:α→Bool}{l:List α}:(gU (l.filter p).length l.length == 2)=decide (∀ c∈l,p c=false):=by
 rw [Bool.eq_iff_iff,decide_eq_true_eq,beq_iff_eq]
 unfold gU
 constructor
 ·intro h
  split at h
  ·rename_i h1
   have:=List.filter_eq_nil_iff.1 (List.length_eq_zero_iff.1 h1)
   exact λ c b=>by simpa using this c b
  ·split at h <;> cases h
 ·intro h
  rw [List.filter_eq_nil_iff.2 (λ c b=>by simp [h c b])]
  rfl
theorem Ij{α:Type}{x:α}{l:List α}:fP (x::l) 1 ((x::l).length:Int)=some l:=by
 simp [fP]
 omega
theorem pS{α β:Type}(f:α→List β)(m:Nat)(h:∀ a,(f a).length≤m):∀ l:List α,(l.flatMap f).length≤l.length * m
 | []=>by simp
 | a::l=>by
  have:=pS f m h l
  have:=h a
  simp only [List.flatMap_cons,gi,List.length_cons,Nat.add_mul,Nat.one_mul]
  omega
theorem zh{w x:Int}:ei w [x]=max w x:=by
 show (if x > w then x else w)=_
 rw [Int.max_def]
 split <;> split <;> omega
theorem LQ{α:Type}(p:α→Bool)(l:List α):l.flatMap (λ a=>if p a=true then [a] else [])=l.filter p:=by
 induction l with
 | nil=>rfl
 | cons a l b =>
  rw [List.flatMap_cons,b,List.filter_cons]
  cases p a <;> simp
theorem rm:∀ (l m:ah),l.Pairwise (· < ·)→m.Pairwise (· < ·)→(∀ x,x∈l↔x∈m)→l=m
 | [],[],_,_,_=>rfl
 | [],b::m,_,_,h=>by have:=(h b).2 (by simp); cases this
 | a::l,[],_,_,h=>by have:=(h a).1 (by simp); cases this
 | a::l,b::m,hl,hm,h=>by
  rw [List.pairwise_cons] at hl hm
  have d:a=b:=by
   rcases c8.1 ((h a).1 (by simp)) with h1 | h1
   ·exact h1
   ·rcases c8.1 ((h b).2 (by simp)) with h2 | h2
    ·exact h2.symm
    ·have h3:=hm.1 a h1
     have h4:=hl.1 b h2
     omega
  subst d
  rw [rm l m hl.2 hm.2 λ x=>?_]
  constructor
  ·intro c
   rcases c8.1 ((h x).1 (by simp [c])) with h1 | h1
   ·have:=hl.1 x c; omega
   ·exact h1
  ·intro c
   rcases c8.1 ((h x).2 (by simp [c])) with h1 | h1
   ·have:=hm.1 x c; omega
   ·exact h1
def gl(l:ah):Nat→ah
 | 0=>[]
 | k+1=>if k=0∨nth l k≠nth l (k - 1) then gl l k++[nth l k] else gl l k
theorem xP(l:ah):∀ (k:Nat) (x:Int),x∈gl l k↔∃ i,i < k∧nth l i=x
 | 0,x=>by simp [gl]
 | k+1,x=>by
  have d:=xP l k x
  simp only [gl]
  have h1:(∃ i,i < k+1∧nth l i=x)↔(∃ i,i < k∧nth l i=x)∨nth l k=x:=by
   constructor
   ·rintro ⟨i,hi,b⟩
    by_cases f:i=k
    ·subst f; exact .inr b
    ·exact .inl ⟨i,by omega,b⟩
   ·rintro (⟨i,hi,b⟩ | b)
    ·exact ⟨i,by omega,b⟩
    ·exact ⟨k,by omega,b⟩
  rw [h1]
  split
  ·rw [List.mem_append,d,List.mem_singleton]
   constructor <;> rintro (h | h) <;> simp [h]
  ·rename_i c
   have g:k≠0∧nth l k=nth l (k - 1):=by
    constructor
    ·exact λ h=>c (.inl h)
    ·exact Classical.byContradiction λ h=>c (.inr h)
   rw [d]
   constructor
   ·exact .inl
   ·rintro (h | h)
    ·exact h
    ·exact ⟨k - 1,by omega,by rw [← g.2,h]⟩
theorem F4{l:ah}(d:l.Pairwise (·≤·)){i j:Nat}(f:i < j)(c:j < l.length):nth l i≤nth l j:=by
 rw [List.pairwise_iff_getElem] at d
 have h:=d i j (by omega) c f
 have e1:=bl (show i < l.length by omega)
 have b:=bl c
 rw [fy (by omega)] at e1 b
 rw [← eI e1,← eI b]
 exact h
theorem B1{l:ah}(b:l.Pairwise (·≤·)):∀ k,k≤l.length→(gl l k).Pairwise (· < ·)
 | 0,_=>by simp [gl]
 | k+1,g=>by
  have d:=B1 b k (by omega)
  simp only [gl]
  split
  ·rename_i h
   rw [List.pairwise_append]
   refine ⟨d,by simp,λ x f y c=>?_⟩
   rw [List.mem_singleton] at c
   subst c
   obtain ⟨i,hi,rfl⟩:=(xP l k x).1 f
   rcases h with h | h
   ·omega
   ·have h1:=F4 b (show k - 1 < k by omega) (by omega)
    have h2:nth l i≤nth l (k - 1):=by
     rcases Nat.lt_or_ge i (k - 1) with h3 | h3
     ·exact F4 b h3 (by omega)
     ·rw [show i=k - 1 by omega]; exact Int.le_refl _
    omega
  ·exact d
theorem xO{l:ah}:∀ k,k≤l.length→(∀ i,1≤i→i < k→nth l i≠nth l (i - 1))→gl l k=l.take k
 | 0,_,_=>by simp [gl]
 | k+1,c,h=>by
  rw [gl,if_pos (by
   by_cases b:k=0
   ·exact .inl b
   ·exact .inr (h k (by omega) (by omega))),xO k (by omega) (λ i h1 h2=>h i h1 (by omega)),List.take_add_one,bl (by omega)]
  rfl
theorem Ca{m:ah}{a i:Nat}(h:a+i < m.length):(m.drop a)[i]? = some (nth m (a+i)):=by
 rw [List.getElem?_drop,bl h]
theorem QH{m:ah}{w i:Nat}{x:Int}(h:w≠i):nth (m.set w x) i=nth m i:=by
 unfold nth
 rw [hF,hF,List.getElem?_set_ne h]
theorem take_set{m:ah}{w:Nat}{x:Int}(h:w < m.length):(m.set w x).take (w+1)=m.take w++[x]:=by
 rw [List.take_add_one,List.getElem?_set_self h,List.take_set_of_le (cq _)]
 rfl
theorem E1{p:Int→Bool}{x:Int}:∀ {l:ah},x∈l.takeWhile p→p x=true
 | [],h=>by cases h
 | a::l,h=>by
  by_cases b:p a=true
  ·rw [List.takeWhile_cons_of_pos b] at h
   rcases c8.1 h with rfl | h
   ·exact b
   ·exact E1 h
  ·rw [List.takeWhile_cons_of_neg b] at h
   cases h
def oA(acc:ah)(x:Int):ah:=if x∈acc then acc else acc.takeWhile (λ y=>decide (y < x))++x::acc.dropWhile (λ y=>decide (y < x))
def fE(l:ah):ah:=l.foldl oA []
theorem Ml{acc:ah}(h:acc.Pairwise (· < ·))(x:Int):(oA acc x).Pairwise (· < ·)∧∀ y,y∈oA acc x↔y∈acc∨y=x:=by
 unfold oA
 split
 ·rename_i d
  refine ⟨h,λ y=>?_⟩
  constructor
  ·exact .inl
  ·rintro (h | rfl)
   ·exact h
   ·exact d
 ·rename_i d
  have e:acc=acc.takeWhile (λ y=>decide (y < x))++acc.dropWhile (λ y=>decide (y < x)):=(List.takeWhile_append_dropWhile).symm
  have h1:∀ y∈acc.takeWhile (λ y=>decide (y < x)),y < x:=λ y b=>by simpa using E1 b
  have h2:∀ y∈acc.dropWhile (λ y=>decide (y < x)),x < y:=by
   intro y b
   have c:(acc.dropWhile (λ y=>decide (y < x))).Pairwise (· < ·):=List.Pairwise.sublist (List.dropWhile_sublist _) h
   cases hd:acc.dropWhile (λ y=>decide (y < x)) with
   | nil=>rw [hd] at b; cases b
   | cons a r =>
    have i:¬ a < x:=by
     have:=List.head_dropWhile_not (λ y=>decide (y < x)) (l:=acc) (by rw [hd]; simp)
     simp only [hd,List.head_cons] at this
     simpa using this
    have g:a≠x:=λ g=>d (by rw [← g]; exact (List.dropWhile_sublist _).subset (by rw [hd]; simp))
    rw [hd] at b c
    rw [List.pairwise_cons] at c
    rcases c8.1 b with rfl | b
    ·omega
    ·have:=c.1 y b; omega
  constructor
  ·rw [List.pairwise_append,List.pairwise_cons]
   refine ⟨List.Pairwise.sublist (List.takeWhile_sublist _) h,⟨h2,List.Pairwise.sublist (List.dropWhile_sublist _) h⟩,λ y b z f=>?_⟩
   have:=h1 y b
   rcases c8.1 f with rfl | f
   ·exact this
   ·have:=h2 z f; omega
  ·intro y
   rw [List.mem_append,c8]
   conv=>rhs; rw [e,List.mem_append]
   constructor
   ·rintro (h | h | h) <;> simp [h]
   ·rintro ((h | h) | h) <;> simp [h]
theorem zS:∀ (l acc:ah),acc.Pairwise (· < ·)→(l.foldl oA acc).Pairwise (· < ·)∧∀ y,y∈l.foldl oA acc↔y∈acc∨y∈l
 | [],acc,h=>⟨h,λ y=>by simp⟩
 | x::l,acc,h=>by
  obtain ⟨h1,h2⟩:=Ml h x
  obtain ⟨h3,h4⟩:=zS l (oA acc x) h1
  refine ⟨h3,λ y=>?_⟩
  rw [List.foldl_cons,h4,h2,c8]
  constructor
  ·rintro ((h | h) | h) <;> simp [h]
  ·rintro (h | h | h) <;> simp [h]
theorem qT(l:ah):(fE l).Pairwise (· < ·):=(zS l [] (by simp)).1
theorem jO(l:ah)(y:Int):y∈fE l↔y∈l:=by
 have:=(zS l [] (by simp)).2 y
 simpa [fE] using this
theorem Qu{w x:Int}:jQ w [x]=min w x:=by
 show (if x < w then x else w)=_
 rw [Int.min_def]
 split <;> split <;> omega
theorem sY{α:Type}[Inhabited α]{m:List α}{w:Nat}{x:α}(h:w < m.length):nth (m.set w x) w=x:=by
 unfold nth
 rw [hF,List.getElem?_set_self h]
 rfl
theorem pe{α:Type}[Inhabited α]{m:List α}{w i:Nat}{x:α}(h:w≠i):nth (m.set w x) i=nth m i:=by
 unfold nth
 rw [hF,hF,List.getElem?_set_ne h]
section
variable {α:Type}
def lvl(ext:Nat→List α→List α):Nat→List (List α)
 | 0=>[[]]
 | i+1=>(lvl ext i).flatMap λ p=>(ext i p).map λ x=>p++[x]
def tree(ext:Nat→List α→List α):Nat→Nat→List α→List (List α)
 | 0,_,p=>[p]
 | j+1,i,p=>(ext i p).flatMap λ x=>tree ext j (i+1) (p++[x])
theorem D7(ext:Nat→List α→List α):∀ j i,(lvl ext i).flatMap (tree ext j i)=lvl ext (i+j)
 | 0,i=>by simp [tree]
 | j+1,i=>by
  rw [show i+(j+1)=(i+1)+j by omega,← D7 ext j (i+1)]
  simp only [lvl,tree,List.flatMap_assoc,List.flatMap_map]
theorem wB(ext:Nat→List α→List α)(n:Nat):tree ext n 0 []=lvl ext n:=by
 have:=D7 ext n 0
 rw [Nat.zero_add] at this
 rw [← this]
 simp [lvl]
theorem kM[Inhabited α]{p q:List α}{i:Nat}(h:i < p.length):nth (p++q) i=nth p i:=by
 unfold nth
 rw [hF,hF,jw h]
theorem lD[Inhabited α]{p:List α}{x:α}:nth (p++[x]) p.length=x:=by
 unfold nth
 rw [hF,g1 (cq _),Nat.sub_self]
 rfl
theorem SM[Inhabited α]{r:List α}{n:Nat}(h:r.length=n+1):r=r.take n++[nth r n]:=by
 have h1:n < r.length:=by omega
 have h2:=List.take_succ_eq_append_getElem h1
 rw [List.take_of_length_le (by omega)] at h2
 have h3:=bl h1
 rw [fy h1] at h3
 rw [← eI h3]
 exact h2
theorem nA[Inhabited α]{ext:Nat→List α→List α}:∀ {n:Nat} {r:List α},r∈lvl ext n↔r.length=n∧∀ i,i < n→nth r i∈ext i (r.take i)
 | 0,r=>by
  simp only [lvl,List.mem_singleton]
  constructor
  ·rintro rfl; exact ⟨rfl,λ i hi=>by omega⟩
  ·rintro ⟨h,_⟩; exact List.length_eq_zero_iff.1 h
 | n+1,r=>by
  simp only [lvl,List.mem_flatMap,List.mem_map]
  constructor
  ·rintro ⟨p,c,x,d,rfl⟩
   obtain ⟨h1,h2⟩:=nA.1 c
   refine ⟨by simp [h1],λ i hi=>?_⟩
   by_cases b:i < n
   ·rw [kM (by omega),List.take_append_of_le_length (by omega)]
    exact h2 i b
   ·obtain rfl:i=p.length:=by omega
    rw [lD,List.take_append_of_le_length (cq _),List.take_length,h1]
    exact d
  ·rintro ⟨h1,h2⟩
   refine ⟨r.take n,nA.2 ⟨by simp; omega,λ i hi=>?_⟩,nth r n,h2 n (by omega),(SM h1).symm⟩
   rw [nD hi,List.take_take,Nat.min_eq_left (by omega)]
   exact h2 i (by omega)
def oE[Inhabited α](lt:α→α→Prop)(p q:List α):Prop:=∃ k,k < p.length∧k < q.length∧p.take k=q.take k∧lt (nth p k) (nth q k)
theorem yK[Inhabited α]{lt:α→α→Prop}(h:∀ x,¬ lt x x)(p:List α):¬ oE lt p p:=λ ⟨_,_,_,_,b⟩=>h _ b
theorem NB[Inhabited α]{lt:α→α→Prop}{p q:List α}(x y:α)(h:oE lt p q):oE lt (p++[x]) (q++[y]):=by
 obtain ⟨k,k1,k2,k3,k4⟩:=h
 refine ⟨k,by simp; omega,by simp; omega,?_,?_⟩
 ·rw [List.take_append_of_le_length (by omega),List.take_append_of_le_length (by omega),k3]
 ·rw [kM k1,kM k2]; exact k4
theorem uZ[Inhabited α]{lt:α→α→Prop}{ext:Nat→List α→List α}(h:∀ i p,(ext i p).Pairwise lt):∀ n,(lvl ext n).Pairwise (oE lt)
 | 0=>by simp [lvl]
 | n+1=>by
  simp only [lvl]
  rw [List.pairwise_flatMap]
  refine ⟨λ p j=>?_,(uZ h n).imp λ {p q} c x d y g=>?_⟩
  ·rw [List.pairwise_map]
   refine (h n p).imp λ {x y} f=>⟨p.length,by simp,by simp,?_,?_⟩
   ·rw [List.take_append_of_le_length (cq _),List.take_append_of_le_length (cq _)]
   ·rw [lD,lD]; exact f
  ·obtain ⟨a,_,rfl⟩:=List.mem_map.1 d
   obtain ⟨b,_,rfl⟩:=List.mem_map.1 g
   exact NB a b c
theorem zo{β:Type}{lt:β→β→Prop}(hi:∀ x,¬ lt x x){l:List β}(h:l.Pairwise lt):l.Nodup:=h.imp λ {x y} b e=>by subst e; exact hi x b
end
theorem r7{α β:Type}{l:List α}{m:List β}(f:α→β)(c:l.Nodup)(hi:∀ x∈l,∀ y∈l,f x=f y→x=y)(hm:∀ x∈l,f x∈m):l.length≤m.length:=by
 classical
 induction l generalizing m with
 | nil=>simp
 | cons a l g =>
  rw [List.nodup_cons] at c
  obtain ⟨s,t,rfl⟩:=List.append_of_mem (hm a (by simp))
  have:=g (m:=s++t) c.2 (λ x b y d=>hi x (by simp [b]) y (by simp [d])) (λ x b=>by
   have h1:=hm x (by simp [b])
   have h2:f x≠f a:=λ e=>c.1 (hi x (by simp [b]) a (by simp) e ▸ b)
   simp only [List.mem_append,c8] at h1 ⊢
   rcases h1 with h1 | h1 | h1
   ·exact .inl h1
   ·exact absurd h1 h2
   ·exact .inr h1)
  simp only [gi,List.length_cons] at this ⊢
  omega
def gY(n:Nat):ah:=(List.range n).map λ (i:Nat)=>(i:Int)
theorem E2{n:Nat}{x:Int}:x∈gY n↔0≤x∧x < (n:Int):=by
 simp only [gY,List.mem_map,List.mem_range]
 constructor
 ·rintro ⟨i,hi,rfl⟩; omega
 ·intro h; exact ⟨x.toNat,by omega,by omega⟩
theorem Tl(n:Nat):(gY n).Pairwise (· < ·):=by
 unfold gY
 rw [List.pairwise_map]
 exact List.pairwise_lt_range.imp λ h=>by omega
theorem Tm(n:Nat):gY (n+1)=gY n++[(n:Int)]:=by simp [gY,List.range_succ]
def pL(n:Nat)(ok:Nat→Bool)(p:ah):ah:=(gY n).filter λ k=>ok k.toNat && p.all λ x=>decide (x < k)
def mW(n eD:Nat)(ok:Nat→Bool):bB:=lvl (λ _ p=>pL n ok p) eD
theorem zi{n:Nat}{ok:Nat→Bool}{p:ah}{k:Int}:k∈pL n ok p↔(0≤k∧k < (n:Int))∧ok k.toNat=true∧∀ x∈p,x < k:=by
 simp only [pL,List.mem_filter,E2,cO,List.all_eq_true,decide_eq_true_eq]
theorem Qt{l:ah}{i:Nat}{x:Int}(h:x∈l.take i):∃ j,j < i∧j < l.length∧nth l j=x:=by
 obtain ⟨j,b,rfl⟩:=iI h
 rw [gO] at b
 exact ⟨j,by omega,by omega,(nD (by omega)).symm⟩
theorem nz{n eD:Nat}{ok:Nat→Bool}{c:ah}:c∈mW n eD ok↔c.length=eD∧c.Pairwise (· < ·)∧∀ k∈c,0≤k∧k < (n:Int)∧ok k.toNat=true:=by
 unfold mW
 rw [nA]
 constructor
 ·rintro ⟨h1,h2⟩
  refine ⟨h1,?_,λ k s=>?_⟩
  ·rw [List.pairwise_iff_getElem]
   intro i j hi b o
   have:=(zi.1 (h2 j (by omega))).2.2 (nth c i) (by rw [← nD (l:=c) o]; exact eJ (by simp; omega))
   have e1:=bl hi
   have d:=bl b
   rw [fy hi] at e1
   rw [fy b] at d
   rw [eI e1,eI d]
   exact this
  ·obtain ⟨i,hi,rfl⟩:=iI s
   obtain ⟨⟨f,g⟩,m,_⟩:=zi.1 (h2 i (by omega))
   exact ⟨f,g,m⟩
 ·rintro ⟨h1,h2,h3⟩
  refine ⟨h1,λ i hi=>?_⟩
  obtain ⟨f,g,m⟩:=h3 (nth c i) (eJ (by omega))
  refine zi.2 ⟨⟨f,g⟩,m,λ x w=>?_⟩
  obtain ⟨j,p,b,rfl⟩:=Qt w
  rw [List.pairwise_iff_getElem] at h2
  have:=h2 j i b (by omega) p
  have e1:=bl b
  have d:=bl (l:=c) (i:=i) (by omega)
  rw [fy b] at e1
  rw [fy (by omega)] at d
  rw [eI e1,eI d] at this
  exact this
theorem Di(x:Int):¬ x < x:=by omega
abbrev vV:ah→ah→Prop:=oE (· < ·)
theorem BZ(n eD:Nat)(ok:Nat→Bool):(mW n eD ok).Pairwise vV:=uZ (λ _ _=>(Tl n).filter _) eD
structure RB where
 n:Nat
 D:Nat
 eD:Nat→Nat
 ok:Nat→Nat→Bool
 ap:Nat→Nat→Bool
 out:Nat→Bool
def meet(c d:ah):Bool:=c.any λ k=>d.contains k
theorem Qq{c d:ah}:meet c d=true↔∃ k,k∈c∧k∈d:=by
 simp only [meet,List.any_eq_true,List.contains_iff_mem]
theorem Qr{c d:ah}:meet c d=false↔∀ k,k∈c→k ∉ d:=by
 rw [← Bool.not_eq_true,Qq]
 exact ⟨λ h k h1 h2=>h ⟨k,h1,h2⟩,λ h ⟨k,h1,h2⟩=>h k h1 h2⟩
def nK(A:RB)(p:bB)(i:Nat)(c:ah):Bool:=(List.range p.length).all λ j=>A.ap j i || !meet c (nth p j)
def jq(A:RB)(i:Nat)(p:bB):bB:=if A.out i=true then [[]] else (mW A.n (A.eD i) (A.ok i)).filter (nK A p i)
def hz(A:RB):List bB:=lvl (jq A) A.D
structure eV (A:RB) (r:bB):Prop where
 len:r.length=A.D
 out:∀ i,i < A.D→A.out i=true→nth r i=[]
 oj:∀ i,i < A.D→A.out i=false→nth r i∈mW A.n (A.eD i) (A.ok i)
 rest:∀ i j,i < A.D→j < i→A.ap j i=true∨meet (nth r i) (nth r j)=false
theorem FA{A:RB}{p:bB}{i:Nat}{c:ah}:nK A p i c=true↔∀ j,j < p.length→A.ap j i=true∨meet c (nth p j)=false:=by
 simp only [nK,List.all_eq_true,List.mem_range,Bool.or_eq_true,Bool.not_eq_true']
theorem vu{A:RB}{r:bB}:r∈hz A↔eV A r:=by
 unfold hz
 rw [nA]
 constructor
 ·rintro ⟨h1,h2⟩
  refine ⟨h1,λ i hi ho=>?_,λ i hi ho=>?_,λ i j hi b=>?_⟩
  ·have:=h2 i hi
   unfold jq at this
   rw [if_pos ho] at this
   simpa using this
  ·have:=h2 i hi
   unfold jq at this
   rw [if_neg (by simp [ho])] at this
   exact (List.mem_filter.1 this).1
  ·have:=h2 i hi
   unfold jq at this
   by_cases ho:A.out i=true
   ·rw [if_pos ho] at this
    right
    have e:nth r i=[]:=by simpa using this
    rw [e]; rfl
   ·rw [if_neg ho] at this
    have h3:=FA.1 (List.mem_filter.1 this).2 j (by simp; omega)
    rwa [nD b] at h3
 ·intro h
  refine ⟨h.len,λ i hi=>?_⟩
  unfold jq
  by_cases ho:A.out i=true
  ·rw [if_pos ho,h.out i hi ho]; simp
  ·rw [if_neg ho]
   refine List.mem_filter.2 ⟨h.oj i hi (by simpa using ho),FA.2 λ j b=>?_⟩
   rw [gO] at b
   rw [nD (by omega)]
   exact h.rest i j hi (by omega)
theorem Si(A:RB)(i:Nat)(p:bB):(jq A i p).Pairwise vV:=by
 unfold jq
 split
 ·simp
 ·exact (BZ _ _ _).filter _
theorem FP(c:ah):¬ vV c c:=yK Di c
abbrev FN:bB→bB→Prop:=oE vV
theorem Sc(r:bB):¬ FN r r:=yK FP r
theorem Sf(A:RB):(hz A).Pairwise FN:=uZ (Si A) A.D
theorem Se(A:RB):(hz A).Nodup:=zo Sc (Sf A)
structure Az (A C:RB):Prop where
 n:A.n≤C.n
 D:A.D=C.D
 eD:∀ i,i < A.D→A.eD i=C.eD i
 ok:∀ i k,i < A.D→k < A.n→A.ok i k=true→C.ok i k=true
 ap:∀ i j,i < A.D→j < i→A.ap j i=true→C.ap j i=true
 out:∀ i,i < A.D→A.out i=true→C.out i=true
 QW:∀ i,i < A.D→C.out i=true→A.out i=true
theorem eV.le{A C:RB}(h:Az A C){r:bB}(b:eV A r):eV C r:=by
 have g:=h.D
 refine ⟨b.len.trans g,λ i hi ho=>b.out i (by omega) (h.QW i (by omega) ho),λ i hi ho=>?_,λ i j hi c=>?_⟩
 ·have o:A.out i=false:=by
   cases e:A.out i with
   | false=>rfl
   | true=>rw [h.out i (by omega) e] at ho; cases ho
  obtain ⟨h1,h2,h3⟩:=nz.1 (b.oj i (by omega) o)
  have s:=h.n
  refine nz.2 ⟨by rw [h1,h.eD i (by omega)],h2,λ k m=>?_⟩
  obtain ⟨d,p,f⟩:=h3 k m
  exact ⟨d,by omega,h.ok i k.toNat (by omega) (by omega) f⟩
 ·rcases b.rest i j (by omega) c with h1 | h1
  ·exact .inl (h.ap i j (by omega) c h1)
  ·exact .inr h1
theorem EZ{n a:Nat}{k:Int}:k∈cB n a↔(0≤k∧k < (n:Int))∧a.testBit k.toNat=true:=by
 simp only [cB,List.mem_map,List.mem_filter,List.mem_range]
 constructor
 ·rintro ⟨i,⟨h1,h2⟩,rfl⟩; exact ⟨by omega,by simpa using h2⟩
 ·rintro ⟨h1,h2⟩; exact ⟨k.toNat,⟨by omega,h2⟩,by omega⟩
theorem Qj(n a:Nat):(cB n a).Pairwise (· < ·):=by
 unfold cB
 rw [List.pairwise_map]
 exact (List.pairwise_lt_range.filter _).imp λ h=>by omega
theorem EX(p:Nat→Bool):∀ n,∃ a,a < 2 ^ n∧∀ i,i < n→a.testBit i=p i
 | 0=>⟨0,by simp,λ i hi=>by omega⟩
 | n+1=>by
  obtain ⟨a,b,h⟩:=EX p n
  cases c:p n with
  | false =>
   refine ⟨a,by rw [Nat.pow_succ]; omega,λ i hi=>?_⟩
   by_cases e:i=n
   ·subst e; rw [c]; exact Nat.testBit_lt_two_pow b
   ·exact h i (by omega)
  | true =>
   refine ⟨2 ^ n+a,by rw [Nat.pow_succ]; omega,λ i hi=>?_⟩
   by_cases e:i=n
   ·subst e
    rw [c,Nat.testBit_two_pow_add_eq,Nat.testBit_lt_two_pow b]; rfl
   ·rw [Nat.testBit_two_pow_add_gt (by omega)]
    exact h i (by omega)
theorem Qo{n:Nat}{l:ah}(h:l.Pairwise (· < ·))(hb:∀ k∈l,0≤k∧k < (n:Int)):∃ a,a < 2 ^ n∧l=cB n a:=by
 obtain ⟨a,c,h1⟩:=EX (λ i=>l.contains (i:Int)) n
 refine ⟨a,c,rm _ _ h (Qj n a) λ k=>?_⟩
 rw [EZ]
 constructor
 ·intro b
  have h2:=hb k b
  refine ⟨h2,?_⟩
  rw [h1 _ (by omega),List.contains_iff_mem,Int.toNat_of_nonneg h2.1]
  exact b
 ·rintro ⟨h2,h3⟩
  rw [h1 _ (by omega),List.contains_iff_mem,Int.toNat_of_nonneg h2.1] at h3
  exact h3
theorem DO:∀ {a c d:ah},iz a c=true→iz c d=true→iz a d=true
 | [],_,[],h1,h2=>by cases ‹ah› <;> simp [iz] at h1 h2
 | [],_,_::_,_,_=>rfl
 | x::a,[],_,h1,_=>by simp [iz] at h1
 | x::a,y::c,[],_,h2=>by simp [iz] at h2
 | x::a,y::c,z::d,h1,h2=>by
  simp only [iz,Bool.or_eq_true,cO,decide_eq_true_eq,beq_iff_eq] at h1 h2 ⊢
  rcases h1 with h1 | ⟨h1,b⟩ <;> rcases h2 with h2 | ⟨h2,f⟩
  ·left; omega
  ·left; omega
  ·left; omega
  ·right; exact ⟨by omega,DO b f⟩
theorem DN:∀ a:ah,iz a a=false
 | []=>rfl
 | x::a=>by simp [iz,DN a]
theorem C3(a:ah):iY a a=false:=by simp [iY,DN]
theorem KR{a c d:ah}(h1:iY a c=true)(h2:iY c d=true):iY a d=true:=by
 simp only [iY,Bool.or_eq_true,cO,decide_eq_true_eq,beq_iff_eq] at h1 h2 ⊢
 rcases h1 with h1 | ⟨h1,b⟩ <;> rcases h2 with h2 | ⟨h2,f⟩
 ·left; omega
 ·left; omega
 ·left; omega
 ·right; exact ⟨by omega,DO b f⟩
structure aZ (n:Nat) (P:Nat→Bool) (l:ah):Prop where
 ex:∃ a,a < 2 ^ n∧P a=true∧l=cB n a
 min:∀ c,c < 2 ^ n→P c=true→iY (cB n c) l=false
theorem aZ.len{n:Nat}{P:Nat→Bool}{l:ah}(h:aZ n P l){c:Nat}(d:c < 2 ^ n)(b:P c=true):l.length≤(cB n c).length:=by
 have:=h.min c d b
 simp only [iY,Bool.or_eq_false_iff,decide_eq_false_iff_not] at this
 omega
def qU(n:Nat)(P:Nat→Bool)(s:ah × Bool)(a:Nat):ah × Bool:=if ((!s.2 || iY (cB n a) s.1) && P a)=true then (cB n a,true) else s
def df(n:Nat)(P:Nat→Bool):Nat→ah × Bool
 | 0=>([],false)
 | k+1=>qU n P (df n P k) k
theorem wc(n:Nat)(P:Nat→Bool):∀ k,((df n P k).2=false∧(df n P k).1=[]∧∀ a,a < k→P a=false) ∨
  ((df n P k).2=true∧(∃ a,a < k∧P a=true∧(df n P k).1=cB n a)∧∀ c,c < k→P c=true→iY (cB n c) (df n P k).1=false)
 | 0=>.inl ⟨rfl,rfl,λ a g=>by omega⟩
 | k+1=>by
  rcases wc n P k with ⟨h1,h2,h3⟩ | ⟨h1,⟨a,g,j,h2⟩,h3⟩
  ·cases f:P k with
   | false =>
    have e:df n P (k+1)=df n P k:=by simp [df,qU,f]
    rw [e]
    exact .inl ⟨h1,h2,λ a g=>by
     by_cases x:a=k
     ·subst x; exact f
     ·exact h3 a (by omega)⟩
   | true =>
    have e:df n P (k+1)=(cB n k,true):=by simp [df,qU,f,h1]
    rw [e]
    refine .inr ⟨rfl,⟨k,by omega,f,rfl⟩,λ c i b=>?_⟩
    by_cases x:c=k
    ·subst x; exact C3 _
    ·rw [h3 c (by omega)] at b; cases b
  ·cases d:(iY (cB n k) (df n P k).1 && P k) with
   | false =>
    have e:df n P (k+1)=df n P k:=by simp [df,qU,h1,d]
    rw [e]
    refine .inr ⟨h1,⟨a,by omega,j,h2⟩,λ c i b=>?_⟩
    by_cases x:c=k
    ·subst x; simpa [b] using d
    ·exact h3 c (by omega) b
   | true =>
    have e:df n P (k+1)=(cB n k,true):=by simp [df,qU,h1,d]
    rw [e]
    rw [cO] at d
    refine .inr ⟨rfl,⟨k,by omega,d.2,rfl⟩,λ c i b=>?_⟩
    by_cases x:c=k
    ·subst x; exact C3 _
    ·cases m:iY (cB n c) (cB n k) with
     | false=>rfl
     | true =>
      have:=h3 c (by omega) b
      rw [KR m d.1] at this
      cases this
theorem SL{n:Nat}{P:Nat→Bool}(h:∀ a,a < 2 ^ n→P a=false):df n P (2 ^ n)=([],false):=by
 rcases wc n P (2 ^ n) with ⟨h1,h2,_⟩ | ⟨_,⟨a,c,b,_⟩,_⟩
 ·exact Prod.ext h2 h1
 ·rw [h a c] at b; cases b
theorem F2{n:Nat}{P:Nat→Bool}{a:Nat}(b:a < 2 ^ n)(h:P a=true):(df n P (2 ^ n)).2=true∧aZ n P (df n P (2 ^ n)).1:=by
 rcases wc n P (2 ^ n) with ⟨_,_,h3⟩ | ⟨h1,h2,h3⟩
 ·rw [h3 a b] at h; cases h
 ·exact ⟨h1,⟨h2,h3⟩⟩
def RB.only(A:RB)(S:ah):RB:={ A with ok:=λ i k=>A.ok i k && S.contains (k:Int) }
def wJ(S:ah)(r:bB):Bool:=r.all λ c=>c.all λ k=>S.contains k
theorem QV{A:RB}{S:ah}{r:bB}:eV (A.only S) r↔eV A r∧wJ S r=true:=by
 constructor
 ·intro h
  have j:∀ i,i < A.D→A.out i=false→nth r i∈mW A.n (A.eD i) (A.ok i)∧∀ k∈nth r i,k∈S:=λ i hi ho=>by
   obtain ⟨h1,h2,h3⟩:=nz.1 (h.oj i hi ho)
   refine ⟨nz.2 ⟨h1,h2,λ k b=>?_⟩,λ k b=>?_⟩
   ·obtain ⟨f,g,d⟩:=h3 k b
    simp only [RB.only,cO] at d
    exact ⟨f,g,d.1⟩
   ·obtain ⟨f,g,d⟩:=h3 k b
    simp only [RB.only,cO,List.contains_iff_mem,Int.toNat_of_nonneg f] at d
    exact d.2
  refine ⟨⟨h.len,h.out,λ i hi ho=>(j i hi ho).1,h.rest⟩,?_⟩
  simp only [wJ,List.all_eq_true,List.contains_iff_mem]
  intro c m k b
  obtain ⟨i,hi,rfl⟩:=iI m
  have hl:r.length=A.D:=h.len
  cases ho:A.out i with
  | true=>rw [h.out i (show i < A.D by omega) ho] at b; cases b
  | false=>exact (j i (by omega) ho).2 k b
 ·rintro ⟨h,hw⟩
  simp only [wJ,List.all_eq_true,List.contains_iff_mem] at hw
  refine ⟨h.len,h.out,λ i hi ho=>?_,h.rest⟩
  obtain ⟨h1,h2,h3⟩:=nz.1 (h.oj i hi ho)
  refine nz.2 ⟨h1,h2,λ k b=>?_⟩
  obtain ⟨f,g,d⟩:=h3 k b
  refine ⟨f,g,?_⟩
  simp only [RB.only,cO,List.contains_iff_mem,Int.toNat_of_nonneg f]
  exact ⟨d,hw _ (eJ (by have:=h.len; show i < r.length; rw [this]; exact hi)) k b⟩
theorem AN{l:ah}(h:l.Pairwise (· < ·)){i j:Nat}(d:i < j)(b:j < l.length):nth l i < nth l j:=by
 rw [List.pairwise_iff_getElem] at h
 have:=h i j (by omega) b d
 have e1:=bl (l:=l) (i:=i) (by omega)
 have c:=bl b
 rw [fy (by omega)] at e1
 rw [fy b] at c
 rw [eI e1,eI c] at this
 exact this
def eH(t:Nat→Int)(r:bB)(k:Int):Nat→Int
 | 0=>0
 | i+1=>eH t r k i+if k∈nth r i then t i else 0
def kT(t:Nat→Int)(r:bB)(D:Nat):Nat→Int
 | 0=>0
 | k+1=>max (kT t r D k) (eH t r (k:Int) D)
theorem wK{t:Nat→Int}{r:bB}{D:Nat}{m:Int}:∀ {n:Nat},kT t r D n≤m↔0≤m∧∀ k:Nat,k < n→eH t r (k:Int) D≤m
 | 0=>by simp [kT]
 | n+1=>by
  simp only [kT]
  rw [show (max (kT t r D n) (eH t r (n:Int) D)≤m)↔(kT t r D n≤m∧eH t r (n:Int) D≤m) by omega,wK (n:=n)]
  constructor
  ·rintro ⟨⟨h1,h2⟩,h3⟩
   refine ⟨h1,λ k b=>?_⟩
   by_cases e:k=n
   ·subst e; exact h3
   ·exact h2 k (by omega)
  ·rintro ⟨h1,h2⟩
   exact ⟨⟨h1,λ k b=>h2 k (by omega)⟩,h2 n (by omega)⟩
theorem TN{t t':Nat→Int}{r r':bB}{D b n n':Nat}(h:∀ m,kT t r D n≤m↔kT t' r' b n'≤m):kT t r D n=kT t' r' b n':=by
 have h1:=(h _).1 (Int.le_refl _)
 have h2:=(h _).2 (Int.le_refl _)
 omega
theorem Gk{t t':Nat→Int}{r r':bB}{k c:Int}:∀ {D:Nat},(∀ i,i < D→t i=t' i∧(k∈nth r i↔c∈nth r' i))→eH t r k D=eH t' r' c D
 | 0,_=>rfl
 | D+1,h=>by
  simp only [eH]
  rw [Gk (D:=D) λ i hi=>h i (by omega),(h D (by omega)).1]
  congr 1
  by_cases b:k∈nth r D
  ·rw [if_pos b,if_pos ((h D (by omega)).2.1 b)]
  ·rw [if_neg b,if_neg λ e=>b ((h D (by omega)).2.2 e)]
theorem z6{t:Nat→Int}{r:bB}{k:Int}:∀ {D:Nat},(∀ i,i < D→k ∉ nth r i)→eH t r k D=0
 | 0,_=>rfl
 | D+1,h=>by simp only [eH,z6 (D:=D) λ i hi=>h i (by omega),if_neg (h D (by omega))]; rfl
def fA{α:Type}(w:α→Int):α→List α→α
 | x,[]=>x
 | x,y::l=>fA w (if w y < w x then y else x) l
section
variable {α O:Type} [Inhabited α]
theorem Iw{l:List α}{i:Nat}(h:i < l.length):l.drop i=nth l i::l.drop (i+1):=by
 rw [List.drop_eq_getElem_cons h]
 have h3:=bl h
 rw [fy h] at h3
 rw [eI h3]
theorem DX{l:List α}(p:α→Bool)(g:Nat→α→O){body:Int→Option (Int ⊕ (Unit ⊕ O))} (h:∀ i,i < l.length→body (i:Int)=some (if p (nth l i)=true then .inr (.inr (g i (nth l i))) else .inl ((i+1:Nat):Int)))
  (f:body (l.length:Int)=some (.inr (.inl ()))) {o:Unit ⊕ O} (ho:(∀ i,i < l.length→p (nth l i)=true→(∀ j,j < i→p (nth l j)=false)→o = .inr (g i (nth l i)))∧((∀ x∈l,p x=false)→o = .inl ())):bb body 0=some o:=by
 have key:∀ k i,i+k=l.length→(∀ j,j < i→p (nth l j)=false)→bb body (i:Int)=some o:=by
  intro k
  induction k with
  | zero =>
   intro i hi hb
   obtain rfl:i=l.length:=by omega
   rw [ho.2 λ x m=>by obtain ⟨j,d,rfl⟩:=iI m; exact hb j d]
   exact gf f
  | succ k n =>
   intro i hi hb
   have b:=h i (by omega)
   cases c:p (nth l i) with
   | true =>
    rw [c,if_pos rfl] at b
    rw [ho.1 i (by omega) c hb]
    exact gf b
   | false =>
    rw [c,if_neg (by simp)] at b
    rw [kq b]
    exact n (i+1) (by omega) λ j d=>by
     by_cases e:j=i
     ·subst e; exact c
     ·exact hb j (by omega)
 exact key l.length 0 (by omega) λ j d=>by omega
theorem NI{l:List α}(p:α→Bool)(g:α→O){body:Int→Option (Int ⊕ (Unit ⊕ O))} (h:∀ i,i < l.length→body (i:Int)=some (if p (nth l i)=true then .inr (.inr (g (nth l i))) else .inl ((i+1:Nat):Int)))
  (d:body (l.length:Int)=some (.inr (.inl ()))):bb body 0=some (match l.find? p with | some x=>.inr (g x) | none=>.inl ()):=by
 refine DX p (λ _ x=>g x) h d ⟨λ i hi f hb=>?_,λ hb=>?_⟩
 ·have:l.find? p=some (nth l i):=by
   rw [List.find?_eq_some_iff_append]
   refine ⟨f,l.take i,l.drop (i+1),?_,λ x b=>?_⟩
   ·rw [← Iw hi,List.take_append_drop]
   ·obtain ⟨j,c,rfl⟩:=iI b
    have:j < i:=by simp at c; omega
    rw [nD this,hb j this]; rfl
  rw [this]
 ·have:l.find? p=none:=by
   rw [List.find?_eq_none]
   intro x b
   rw [hb x b]; simp
  rw [this]
theorem DV{l:List α}(p:α→Bool)(c:O){body:Int→Option (Int ⊕ (Unit ⊕ O))}(h:∀ i,i < l.length→body (i:Int)=some (if p (nth l i)=true then .inl ((i+1:Nat):Int) else .inr (.inr c)))
  (f:body (l.length:Int)=some (.inr (.inl ()))):bb body 0=some (if l.all p=true then .inl () else .inr c):=by
 refine DX (λ x=>!p x) (λ _ _=>c) (λ i hi=>?_) f ⟨λ i hi d hb=>?_,λ hb=>?_⟩
 ·rw [h i hi]
  cases p (nth l i) <;> rfl
 ·rw [if_neg]
  intro b
  rw [List.all_eq_true] at b
  rw [b _ (eJ hi)] at d
  cases d
 ·rw [if_pos]
  rw [List.all_eq_true]
  intro x g
  have:=hb x g
  simpa using this
theorem DY{n:Nat}(p:Nat→Bool)(c:O){body:Int→Option (Int ⊕ (Unit ⊕ O))}(h:∀ i,i < n→body (i:Int)=some (if p i=true then .inl ((i+1:Nat):Int) else .inr (.inr c)))
  (b:body (n:Int)=some (.inr (.inl ()))):bb body 0=some (if (List.range n).all p=true then .inl () else .inr c):=by
 have e:∀ i,i < n→nth (List.range n) i=i:=λ i hi=>by
  have:=bl (l:=List.range n) (i:=i) (by simpa using hi)
  rw [List.getElem?_range hi] at this
  exact (eI this).symm
 refine DV (l:=List.range n) p c (λ i hi=>?_) (by rw [List.length_range]; exact b)
 rw [List.length_range] at hi
 rw [h i hi,e i hi]
theorem NG{l:List α}(p:α→Bool){body:Int × Int→Option ((Int × Int) ⊕ Int)} (h:∀ i n:Nat,i < l.length→n≤i→body ((n:Int),(i:Int))=some (.inl (if p (nth l i)=true then ((n+1:Nat):Int) else (n:Int),((i+1:Nat):Int))))
  (b:∀ n:Int,body (n,(l.length:Int))=some (.inr n)):bb body (0,0)=some ((l.filter p).length:Int):=by
 refine (iB (λ i=>((((l.take i).filter p).length:Int),(i:Int))) l.length (λ i hi=>?_) (b _):bb body ((0:Int),(0:Int))=_).trans ?_
 ·have hl:((l.take i).filter p).length≤i:=Nat.le_trans (List.length_filter_le _ _) (by rw [gO]; omega)
  rw [h i _ hi hl]
  have:l.take (i+1)=l.take i++[nth l i]:=by
   rw [List.take_add_one,bl hi]; rfl
  rw [this,List.filter_append,gi]
  cases c:p (nth l i) <;> simp [c]
 ·rw [List.take_length]
end
end Go.Lg
