/- Plain lists. Conditions: none. -/
import Derived.Test.YtihapemckcdicaaGreatDoorQYLgC
namespace Go.Lg
open Go.Conc
set_option maxRecDepth 10000
theorem jq{S O:Type}{body:S→Option (S ⊕ O)}(st:Nat→S)(n:Nat){o:O}(h:∀ i,i < n→body (st i)=some (.inl (st (i+1))))(a:body (st n)=some (.inr o)):a6 body (st 0)=some o:=by
 have key:∀ k,k≤n→a6 body (st (n - k))=some o:=by
  intro k
  induction k with
  | zero=>intro _; exact fF a
  | succ k b =>
   intro c
   rw [j1 (h (n - (k+1)) (by omega)),show n - (k+1)+1=n - k by omega]
   exact b (by omega)
 have:=key n (b6 _)
 rwa [Nat.sub_self] at this
def cE{O:Type}(e:Nat→Option O):Nat→Nat→Option O
 | _,0=>none
 | i,k+1=>match e i with | some o=>some o | none=>cE e (i+1) k
def C7{S O:Type}(s:S):Option O→S ⊕ O
 | some o=>.inr o
 | none=>.inl s
theorem Bd{S O:Type}{body:S→Option (S ⊕ O)}(st:Nat→S)(e:Nat→Option O)(i0 n:Nat){o:O}(h:∀ i,i0≤i→i < n→body (st i)=some (C7 (st (i+1)) (e i)))(a:body (st n)=some (.inr o))(c:i0≤n):a6 body (st i0)=some ((cE e i0 (n - i0)).getD o):=by
 have key:∀ k,k≤n - i0→a6 body (st (n - k))=some ((cE e (n - k) k).getD o):=by
  intro k
  induction k with
  | zero=>intro _; exact fF a
  | succ k b =>
   intro d
   have hb:=h (n - (k+1)) (by omega) (by omega)
   unfold cE
   cases he:e (n - (k+1)) with
   | some o' =>
    rw [he] at hb
    exact fF hb
   | none =>
    rw [he] at hb
    rw [j1 hb,show n - (k+1)+1=n - k by omega]
    exact b (by omega)
 have:=key (n - i0) (b6 _)
 rwa [show n - (n - i0)=i0 by omega] at this
theorem JW{S O:Type}{body:S→Option (S ⊕ O)}(st:Nat→S)(e:Nat→Option O)(n:Nat){o:O}(h:∀ i,i < n→body (st i)=some (C7 (st (i+1)) (e i)))(a:body (st n)=some (.inr o)):a6 body (st 0)=some ((cE e 0 n).getD o):=by
 simpa using Bd st e 0 n (λ i _ hi=>h i hi) a (Nat.zero_le _)
theorem iD{O:Type}{e:Nat→Option O}:∀ {k i:Nat},cE e i k=none↔∀ j,i≤j→j < i+k→e j=none
 | 0,i=>by simp [cE]; omega
 | k+1,i=>by
  unfold cE
  cases he:e i with
  | some o=>simp; exact ⟨i,b6 _,by omega,by rw [he]; simp⟩
  | none =>
   simp only
   rw [iD]
   constructor
   ·intro h j h1 h2
    by_cases a:j=i
    ·subst a; exact he
    ·exact h j (by omega) (by omega)
   ·intro h j h1 h2; exact h j (by omega) (by omega)
theorem l6{O:Type}{e:Nat→Option O}:∀ {k i:Nat} {o:O},cE e i k=some o→∃ j,i≤j∧j < i+k∧e j=some o∧∀ m,i≤m→m < j→e m=none
 | 0,i,o,h=>by cases h
 | k+1,i,o,h=>by
  unfold cE at h
  cases he:e i with
  | some o'=>rw [he] at h; cases h; exact ⟨i,b6 _,by omega,he,λ m h1 h2=>by omega⟩
  | none =>
   rw [he] at h
   obtain ⟨j,h1,h2,h3,h4⟩:=l6 h
   refine ⟨j,by omega,by omega,h3,λ m b a=>?_⟩
   by_cases hm:m=i
   ·subst hm; exact he
   ·exact h4 m (by omega) a
@[simp] theorem bc {α:Type} {a b:Option α}:af true a b=a:=rfl
@[simp] theorem a2 {α:Type} {a b:Option α}:af false a b=b:=rfl
@[simp] theorem bM {α:Type} (xs:List α) (k:Nat):idx xs (k:Int)=xs[k]? := by simp [idx]
theorem cH{z:Int}(h1 : -4611686018427387904≤z)(h2:z≤4611686018427387904):i64 z=z:=sN (by omega)
theorem bY{i:Nat}(h:i≤1000000000):i64 ((i:Int)+1)=((i+1:Nat):Int):=by rw [cH (by omega) (by omega)]; omega
theorem eW{i:Nat}(h:i≤1000000000)(a:0 < i):i64 ((i:Int) - 1)=((i - 1:Nat):Int):=by rw [cH (by omega) (by omega)]; omega
theorem zo{α:Type}{xs:List α}{k:Nat}(h:k≤xs.length):e7 xs 0 (k:Int)=some (xs.take k):=by simp [e7,h]
theorem lS{α:Type}{xs ys:List α}(h:xs.length+ys.length≤16777216):dD xs ys=some (xs++ys):=by simp [dD,h]
def bL(n a c:Int):Bool:=decide (a≤n) && decide (n≤c)
def nth{α:Type}[Inhabited α](l:List α)(i:Nat):α:=l.getD i default
theorem a5{α:Type}[Inhabited α]{l:List α}{i:Nat}(h:i < l.length):l[i]? = some (nth l i):=by
 unfold nth
 rw [ha,ez h]; rfl
theorem eC{α:Type}[Inhabited α]{l:List α}{i:Nat}(h:i < l.length):nth l i∈l:=List.mem_of_getElem? (a5 h)
theorem jE{α:Type}[Inhabited α]{l:List α}{x:α}(h:x∈l):∃ i,i < l.length∧nth l i=x:=by
 obtain ⟨i,hi,rfl⟩:=List.mem_iff_getElem.1 h
 refine ⟨i,hi,?_⟩
 have:=a5 hi
 rw [ez hi] at this
 exact (ed this).symm
theorem Ck{α:Type}[Inhabited α]{l m:List α}(h:l.length=m.length)(he:∀ i,i < l.length→nth l i=nth m i):l=m:=by
 apply List.ext_getElem?
 intro i
 by_cases hi:i < l.length
 ·rw [a5 hi,a5 (h ▸ hi),he i hi]
 ·rw [List.getElem?_eq_none (by omega),List.getElem?_eq_none (by omega)]
theorem mz{α:Type}[Inhabited α]{l:List α}{i k:Nat}(h:i < k):nth (l.take k) i=nth l i:=by
 unfold nth
 rw [ha,ha,List.getElem?_take_of_lt h]
theorem eN{S O β:Type}{body:S→Option (S ⊕ O)}{s:S}{o:O}{f:O→Option β}(h:a6 body s=some o):(a6 body s).bind f=f o:=by rw [h]; rfl
theorem dec_lt{i:Nat}{n:Nat}(h:i < n):decide ((i:Int) < (n:Int))=true:=by simpa using h
theorem dh{n:Nat}:decide ((n:Int) < (n:Int))=false:=by simp
theorem sa{i:Nat}(h:0 < i):decide ((i:Int) > 0)=true:=by simpa using h
theorem r9{i:Nat}(h:¬ 0 < i):decide ((i:Int) > 0)=false:=by simpa using h
theorem Fl{O:Type}{f:Option O}{g:Unit→Option O}{d:O}(hd:g ()=some d):Sum.elim g (λ q=>some q) (((f.map Sum.inr).getD (.inl ())):Unit ⊕ O)=some (f.getD d):=by
 cases f with
 | none=>exact hd
 | some o=>rfl
theorem vV{O Q:Type}(g:O→Q)(e:Nat→Option O):∀ (k i:Nat),cE (λ j=>(e j).map g) i k=(cE e i k).map g
 | 0,_=>rfl
 | k+1,i=>by
  unfold cE
  cases e i with
  | none=>exact vV g e k (i+1)
  | some o=>rfl
theorem search{O:Type}{body:Int→Option (Int ⊕ (Unit ⊕ O))}(e:Nat→Option O)(i0 n:Nat){d:O}{g:Unit→Option O}(h:∀ i,i0≤i→i < n→body (i:Int)=some (match e i with | some o=>.inr (.inr o) | none=>.inl ((i+1:Nat):Int)))(b:body (n:Int)=some (.inr (.inl ())))(a:i0≤n)(hd:g ()=some d) :
  (a6 body (i0:Int)).bind (Sum.elim g λ q=>some q)=some ((cE e i0 (n - i0)).getD d):=by
 refine (eN (Bd (λ i=>(i:Int)) (λ i=>(e i).map Sum.inr) i0 n (o:=.inl ()) (λ i h1 h2=>?_) b a)).trans ?_
 ·rw [h i h1 h2]
  cases e i <;> rfl
 ·rw [vV]
  exact Fl hd
theorem jK{O:Type}{body:Int→Option (Int ⊕ (Unit ⊕ O))}(e:Nat→Option O)(n:Nat){d:O}{g:Unit→Option O}(h:∀ i,i < n→body (i:Int)=some (match e i with | some o=>.inr (.inr o) | none=>.inl ((i+1:Nat):Int)))(a:body (n:Int)=some (.inr (.inl ())))(hd:g ()=some d) :
  (a6 body 0).bind (Sum.elim g λ q=>some q)=some ((cE e 0 n).getD d):=search e 0 n (λ i _ hi=>h i hi) a (Nat.zero_le _) hd
def rW(l:List Int)(below:Int)(i:Nat):Option Int :=
 if bL (nth l i) 0 (below - 1)=false then some 6 else if 0 < i then (if nth l i≤nth l (i - 1) then some 7 else none) else none
def vp(l:List Int)(below:Int):Int:=(cE (rW l below) 0 l.length).getD 0
theorem vX{α:Type}[Inhabited α](p:α→Bool)(l:List α):(cE (λ i=>if p (nth l i) then some true else none) 0 l.length).getD false=l.any p:=by
 cases h:cE (λ i=>if p (nth l i) then some true else none) 0 l.length with
 | none =>
  rw [iD] at h
  symm
  rw [Option.getD_none,List.any_eq_false]
  intro x b
  obtain ⟨i,hi,rfl⟩:=jE b
  have:=h i (Nat.zero_le _) (by omega)
  simpa using this
 | some o =>
  obtain ⟨j,_,c,he,_⟩:=l6 h
  split at he
  ·rename_i a
   cases he
   symm
   rw [gh,List.any_eq_true]
   exact ⟨nth l j,eC (by omega),a⟩
  ·cases he
theorem Ec(l:List Int)(n:Int):(l.any λ x=>x == n)=l.contains n:=by
 rw [Bool.eq_iff_iff,List.any_eq_true,List.contains_iff_mem]
 constructor
 ·rintro ⟨x,a,h⟩
  rw [beq_iff_eq] at h; subst h; exact a
 ·intro h; exact ⟨n,h,by simp⟩
theorem H5{α:Type}[Inhabited α](p:α→Bool)(l:List α):decide ((cE (λ i=>if p (nth l i) then some (i:Int) else none) 0 l.length).getD (-1) ≥ 0)=l.any p:=by
 rw [← vX p l]
 cases h:cE (λ i=>if p (nth l i) then some (i:Int) else none) 0 l.length with
 | none =>
  rw [iD] at h
  have:cE (λ i=>if p (nth l i) then some true else none) 0 l.length=none:=by
   rw [iD]
   intro j h1 h2
   have:=h j h1 h2
   cases c:p (nth l j) with
   | true=>rw [c] at this; cases this
   | false=>rfl
  rw [this]; rfl
 | some o =>
  obtain ⟨j,h1,h2,h3,h4⟩:=l6 h
  split at h3
  ·rename_i c
   cases h3
   have:cE (λ i=>if p (nth l i) then some true else none) 0 l.length=some true:=by
    cases a:cE (λ i=>if p (nth l i) then some true else none) 0 l.length with
    | none=>rw [iD] at a; have:=a j h1 h2; rw [if_pos c] at this; cases this
    | some b =>
     obtain ⟨_,_,_,hb,_⟩:=l6 a
     split at hb
     ·cases hb; rfl
     ·cases hb
   rw [this]
   simp
  ·cases h3
theorem xB{O:Type}{body:Int→Option (Int ⊕ (Unit ⊕ O))}(e:Nat→Option O)(n:Nat)(h:∀ i,i < n→body (i:Int)=some (match e i with | some o=>.inr (.inr o) | none=>.inl ((i+1:Nat):Int)))(a:body (n:Int)=some (.inr (.inl ()))) :
  a6 body 0=some (match cE e 0 n with | some o=>.inr o | none=>.inl ()):=by
 refine (JW (λ i=>(i:Int)) (λ i=>(e i).map Sum.inr) n (o:=.inl ()) (λ i hi=>?_) a).trans ?_
 ·rw [h i hi]
  cases e i <;> rfl
 ·rw [vV]
  cases cE e 0 n <;> rfl
theorem Ar{α O:Type}[Inhabited α](p:α→Bool)(c:O)(l:List α)(n:Nat)(f:n≤l.length):cE (λ k=>if p (nth l k) then some c else none) 0 n=if (l.take n).any p then some c else none:=by
 cases h:cE (λ k=>if p (nth l k) then some c else none) 0 n with
 | none =>
  rw [iD] at h
  have:(l.take n).any p=false:=by
   rw [List.any_eq_false]
   intro x d
   obtain ⟨i,hi,rfl⟩:=jE d
   have a:i < n:=by simp at hi; omega
   rw [mz a]
   have:=h i (Nat.zero_le _) (by omega)
   simpa using this
  rw [this]; rfl
 | some o =>
  obtain ⟨j,_,e,he,_⟩:=l6 h
  split at he
  ·rename_i b
   cases he
   have:(l.take n).any p=true:=by
    rw [List.any_eq_true]
    refine ⟨nth l j,?_,b⟩
    rw [← mz (l:=l) (show j < n by omega)]
    exact eC (by simp; omega)
   rw [this]; rfl
  ·cases he
def isLet(n:Int):Bool:=bL n 97 122
def kF(n:Int):Bool:=bL n 48 57
theorem uf(s:ByteArray):(dT s).length=s.size:=by simp [dT]
theorem De{s:ByteArray}{i:Nat}(h:i < s.size):0≤nth (dT s) i∧nth (dT s) i < 256:=by
 have hm:nth (dT s) i∈dT s:=eC (by rw [uf]; exact h)
 unfold dT at hm
 obtain ⟨b,_,hb⟩:=List.mem_map.1 hm
 unfold dT
 rw [← hb]
 have:=b.toNat_lt
 omega
def gq(s:ByteArray)(i:Nat):Option Bool:=if isLet (nth (dT s) i)=false then (if i=0 then some false else if kF (nth (dT s) i)=false then some false else none) else none
def gW(s:ByteArray):Bool:=(cE (gq s) 0 s.size).getD (bL (s.size:Int) 1 12)
theorem AJ{s:ByteArray}{k i:Nat}{o:Bool}(h:cE (gq s) i k=some o):o=false:=by
 obtain ⟨j,_,_,he,_⟩:=l6 h
 unfold gq at he
 split at he
 ·split at he
  ·cases he; rfl
  ·split at he
   ·cases he; rfl
   ·cases he
 ·cases he
theorem iN{a:Int}(h:a≠0):(a != 0)=true:=by simpa using h
theorem dL{n a c:Int}:bL n a c=true↔a≤n∧n≤c:=by simp [bL]
theorem sJ{e:Nat→Option Int}{n:Nat}(b:∀ i,e i≠some 0)(h:(cE e 0 n).getD 0=0):∀ i,i < n→e i=none:=by
 cases a:cE e 0 n with
 | none=>rw [iD] at a; exact λ i hi=>a i (Nat.zero_le _) (by omega)
 | some o =>
  rw [a] at h
  obtain ⟨j,_,_,he,_⟩:=l6 a
  have:o=0:=h
  subst this
  exact absurd he (b j)
theorem AW{n m:Nat}:((n:Int) != (m:Int))=decide (n≠m):=by
 by_cases h:n=m
 ·subst h; simp
 ·have:¬ (n:Int)=(m:Int):=by omega
  simp [h,this]
def dX{α S:Type}(ys:α→S→Option (S × Bool)):List α→S→Option (S × Bool)
 | [],s=>some (s,true)
 | a::l,s=>(ys a s).bind λ r=>if r.2=true then dX ys l r.1 else some (r.1,false)
theorem As{α S:Type}(ys:α→S→Option (S × Bool)):∀ (l m:List α) (s:S),dX ys (l++m) s=(dX ys l s).bind λ r=>if r.2=true then dX ys m r.1 else some (r.1,false)
 | [],_,_=>by simp [dX]
 | a::l,m,s=>by
  simp only [List.cons_append,dX]
  cases ys a s with
  | none=>rfl
  | some r =>
   simp only [aG]
   cases b:r.2 with
   | true=>simp only [if_true]; exact As ys l m r.1
   | false=>simp
theorem H6{α β:Type}(f:α→β):∀ l:List α,l.flatMap (λ x=>[f x])=l.map f
 | []=>rfl
 | a::l=>by rw [List.flatMap_cons,H6 f l]; rfl
theorem sH{α S O:Type}{body:α→S→Option (S ⊕ O)}(I:Nat→S→Prop)(f:α→S→S):∀ (l:List α) (k:Nat) (s:S),I k s→(∀ j s a,j < k+l.length→I j s→a∈l→body a s=some (.inl (f a s))∧I (j+1) (f a s)) →
  dX (cY body) l (.inl s)=some (.inl (l.foldl (λ s a=>f a s) s),true)
 | [],_,_,_,_=>rfl
 | a::l,k,s,b,h=>by
  obtain ⟨h1,h2⟩:=h k s a (by simp) b (by simp)
  simp only [dX,cY,h1,Option.map_some,aG,Sum.isLeft_inl,if_true,List.foldl_cons]
  exact sH I f l (k+1) _ h2 (λ j s c e b d=>h j s c (by simp only [List.length_cons]; omega) b (by simp [d]))
def b3(n a:Nat):List Int:=((List.range n).filter λ i=>a.testBit i).map λ (i:Nat)=>(i:Int)
def hF:List Int→List Int→Bool
 | [],[]=>false
 | [],_::_=>true
 | _::_,[]=>false
 | a::l,c::m=>decide (a < c) || (a == c && hF l m)
def ht(l m:List Int):Bool:=decide (l.length < m.length) || (l.length == m.length && hF l m)
theorem Cw{n:Nat}(h:n < 5):2 ^ n≤16:=by
 match n,h with
 | 0,_=>decide
 | 1,_=>decide
 | 2,_=>decide
 | 3,_=>decide
 | 4,_=>decide
theorem IE{n:Nat}:(((n:Nat):Int) == 0)=(n == 0):=by
 rw [Bool.eq_iff_iff,beq_iff_eq,beq_iff_eq]
 omega
def hD(n all:Nat):Int:=if n=0 then 2 else if n=all then 1 else 0
theorem sK{α:Type}{p:α→Bool}{l:List α}(b:l≠[]):(hD (l.filter p).length l.length == 1)=decide (∀ c∈l,p c=true):=by
 rw [Bool.eq_iff_iff,decide_eq_true_eq,beq_iff_eq]
 unfold hD
 have hlen:0 < l.length:=List.length_pos_iff.2 b
 constructor
 ·intro h
  split at h
  ·cases h
  ·split at h
   ·rename_i h2
    intro c a
    exact (List.filter_eq_self.1 (List.Sublist.eq_of_length (List.filter_sublist) h2)) c a
   ·cases h
 ·intro h
  rw [List.filter_eq_self.2 h,if_neg (by omega),if_pos rfl]
theorem Iv{α:Type}{p:α→Bool}{l:List α}:(hD (l.filter p).length l.length == 2)=decide (∀ c∈l,p c=false):=by
 rw [Bool.eq_iff_iff,decide_eq_true_eq,beq_iff_eq]
 unfold hD
 constructor
 ·intro h
  split at h
  ·rename_i h1
   have:=List.filter_eq_nil_iff.1 (List.length_eq_zero_iff.1 h1)
   exact λ c a=>by simpa using this c a
  ·split at h <;> cases h
 ·intro h
  rw [List.filter_eq_nil_iff.2 (λ c a=>by simp [h c a])]
  rfl
theorem E1{α:Type}{x:α}{l:List α}:e7 (x::l) 1 ((x::l).length:Int)=some l:=by
 simp [e7]
 omega
theorem vY{α β:Type}(f:α→List β)(m:Nat)(h:∀ a,(f a).length≤m):∀ l:List α,(l.flatMap f).length≤l.length * m
 | []=>by simp
 | a::l=>by
  have:=vY f m h l
  have:=h a
  simp only [List.flatMap_cons,fg,List.length_cons,Nat.add_mul,Nat.one_mul]
  omega
theorem B7{w x:Int}:jA w [x]=max w x:=by
 show (if x > w then x else w)=_
 rw [Int.max_def]
 split <;> split <;> omega
theorem H0{α:Type}(p:α→Bool)(l:List α):l.flatMap (λ a=>if p a=true then [a] else [])=l.filter p:=by
 induction l with
 | nil=>rfl
 | cons a l b =>
  rw [List.flatMap_cons,b,List.filter_cons]
  cases p a <;> simp
theorem rF:∀ (l m:List Int),l.Pairwise (· < ·)→m.Pairwise (· < ·)→(∀ x,x∈l↔x∈m)→l=m
 | [],[],_,_,_=>rfl
 | [],b::m,_,_,h=>by have:=(h b).2 (by simp); cases this
 | a::l,[],_,_,h=>by have:=(h a).1 (by simp); cases this
 | a::l,b::m,hl,hm,h=>by
  rw [List.pairwise_cons] at hl hm
  have d:a=b:=by
   rcases cJ.1 ((h a).1 (by simp)) with h1 | h1
   ·exact h1
   ·rcases cJ.1 ((h b).2 (by simp)) with h2 | h2
    ·exact h2.symm
    ·have h3:=hm.1 a h1
     have h4:=hl.1 b h2
     omega
  subst d
  rw [rF l m hl.2 hm.2 λ x=>?_]
  constructor
  ·intro c
   rcases cJ.1 ((h x).1 (by simp [c])) with h1 | h1
   ·have:=hl.1 x c; omega
   ·exact h1
  ·intro c
   rcases cJ.1 ((h x).2 (by simp [c])) with h1 | h1
   ·have:=hm.1 x c; omega
   ·exact h1
def fw(l:List Int):Nat→List Int
 | 0=>[]
 | k+1=>if k=0∨nth l k≠nth l (k - 1) then fw l k++[nth l k] else fw l k
theorem vu(l:List Int):∀ (k:Nat) (x:Int),x∈fw l k↔∃ i,i < k∧nth l i=x
 | 0,x=>by simp [fw]
 | k+1,x=>by
  have c:=vu l k x
  simp only [fw]
  have h1:(∃ i,i < k+1∧nth l i=x)↔(∃ i,i < k∧nth l i=x)∨nth l k=x:=by
   constructor
   ·rintro ⟨i,hi,a⟩
    by_cases d:i=k
    ·subst d; exact .inr a
    ·exact .inl ⟨i,by omega,a⟩
   ·rintro (⟨i,hi,a⟩ | a)
    ·exact ⟨i,by omega,a⟩
    ·exact ⟨k,by omega,a⟩
  rw [h1]
  split
  ·rw [List.mem_append,c,List.mem_singleton]
   constructor <;> rintro (h | h) <;> simp [h]
  ·rename_i b
   have e:k≠0∧nth l k=nth l (k - 1):=by
    constructor
    ·exact λ h=>b (.inl h)
    ·exact Classical.byContradiction λ h=>b (.inr h)
   rw [c]
   constructor
   ·exact .inl
   ·rintro (h | h)
    ·exact h
    ·exact ⟨k - 1,by omega,by rw [← e.2,h]⟩
theorem C3{l:List Int}(c:l.Pairwise (·≤·)){i j:Nat}(d:i < j)(b:j < l.length):nth l i≤nth l j:=by
 rw [List.pairwise_iff_getElem] at c
 have h:=c i j (by omega) b d
 have e1:=a5 (show i < l.length by omega)
 have a:=a5 b
 rw [ez (by omega)] at e1 a
 rw [← ed e1,← ed a]
 exact h
theorem zp{l:List Int}(a:l.Pairwise (·≤·)):∀ k,k≤l.length→(fw l k).Pairwise (· < ·)
 | 0,_=>by simp [fw]
 | k+1,e=>by
  have c:=zp a k (by omega)
  simp only [fw]
  split
  ·rename_i h
   rw [List.pairwise_append]
   refine ⟨c,by simp,λ x d y b=>?_⟩
   rw [List.mem_singleton] at b
   subst b
   obtain ⟨i,hi,rfl⟩:=(vu l k x).1 d
   rcases h with h | h
   ·omega
   ·have h1:=C3 a (show k - 1 < k by omega) (by omega)
    have h2:nth l i≤nth l (k - 1):=by
     rcases Nat.lt_or_ge i (k - 1) with h3 | h3
     ·exact C3 a h3 (by omega)
     ·rw [show i=k - 1 by omega]; exact Int.le_refl _
    omega
  ·exact c
theorem vt{l:List Int}:∀ k,k≤l.length→(∀ i,1≤i→i < k→nth l i≠nth l (i - 1))→fw l k=l.take k
 | 0,_,_=>by simp [fw]
 | k+1,b,h=>by
  rw [fw,if_pos (by
   by_cases a:k=0
   ·exact .inl a
   ·exact .inr (h k (by omega) (by omega))),vt k (by omega) (λ i h1 h2=>h i h1 (by omega)),List.take_add_one,a5 (by omega)]
  rfl
theorem zx{m:List Int}{a i:Nat}(h:a+i < m.length):(m.drop a)[i]? = some (nth m (a+i)):=by
 rw [List.getElem?_drop,a5 h]
theorem Nb{m:List Int}{w i:Nat}{x:Int}(h:w≠i):nth (m.set w x) i=nth m i:=by
 unfold nth
 rw [ha,ha,List.getElem?_set_ne h]
theorem take_set{m:List Int}{w:Nat}{x:Int}(h:w < m.length):(m.set w x).take (w+1)=m.take w++[x]:=by
 rw [List.take_add_one,List.getElem?_set_self h,List.take_set_of_le (b6 _)]
 rfl
theorem Cc{p:Int→Bool}{x:Int}:∀ {l:List Int},x∈l.takeWhile p→p x=true
 | [],h=>by cases h
 | a::l,h=>by
  by_cases b:p a=true
  ·rw [List.takeWhile_cons_of_pos b] at h
   rcases cJ.1 h with rfl | h
   ·exact b
   ·exact Cc h
  ·rw [List.takeWhile_cons_of_neg b] at h
   cases h
def jm(acc:List Int)(x:Int):List Int:=if x∈acc then acc else acc.takeWhile (λ y=>decide (y < x))++x::acc.dropWhile (λ y=>decide (y < x))
def fJ(l:List Int):List Int:=l.foldl jm []
theorem IA{acc:List Int}(h:acc.Pairwise (· < ·))(x:Int):(jm acc x).Pairwise (· < ·)∧∀ y,y∈jm acc x↔y∈acc∨y=x:=by
 unfold jm
 split
 ·rename_i d
  refine ⟨h,λ y=>?_⟩
  constructor
  ·exact .inl
  ·rintro (h | rfl)
   ·exact h
   ·exact d
 ·rename_i d
  have e:acc=acc.takeWhile (λ y=>decide (y < x))++acc.dropWhile (λ y=>decide (y < x)):=(List.takeWhile_append_dropWhile).symm
  have h1:∀ y∈acc.takeWhile (λ y=>decide (y < x)),y < x:=λ y b=>by simpa using Cc b
  have h2:∀ y∈acc.dropWhile (λ y=>decide (y < x)),x < y:=by
   intro y b
   have c:(acc.dropWhile (λ y=>decide (y < x))).Pairwise (· < ·):=List.Pairwise.sublist (List.dropWhile_sublist _) h
   cases hd:acc.dropWhile (λ y=>decide (y < x)) with
   | nil=>rw [hd] at b; cases b
   | cons a r =>
    have i:¬ a < x:=by
     have:=List.head_dropWhile_not (λ y=>decide (y < x)) (l:=acc) (by rw [hd]; simp)
     simp only [hd,List.head_cons] at this
     simpa using this
    have g:a≠x:=λ g=>d (by rw [← g]; exact (List.dropWhile_sublist _).subset (by rw [hd]; simp))
    rw [hd] at b c
    rw [List.pairwise_cons] at c
    rcases cJ.1 b with rfl | b
    ·omega
    ·have:=c.1 y b; omega
  constructor
  ·rw [List.pairwise_append,List.pairwise_cons]
   refine ⟨List.Pairwise.sublist (List.takeWhile_sublist _) h,⟨h2,List.Pairwise.sublist (List.dropWhile_sublist _) h⟩,λ y b z f=>?_⟩
   have:=h1 y b
   rcases cJ.1 f with rfl | f
   ·exact this
   ·have:=h2 z f; omega
  ·intro y
   rw [List.mem_append,cJ]
   conv=>rhs; rw [e,List.mem_append]
   constructor
   ·rintro (h | h | h) <;> simp [h]
   ·rintro ((h | h) | h) <;> simp [h]
theorem xF:∀ (l acc:List Int),acc.Pairwise (· < ·)→(l.foldl jm acc).Pairwise (· < ·)∧∀ y,y∈l.foldl jm acc↔y∈acc∨y∈l
 | [],acc,h=>⟨h,λ y=>by simp⟩
 | x::l,acc,h=>by
  obtain ⟨h1,h2⟩:=IA h x
  obtain ⟨h3,h4⟩:=xF l (jm acc x) h1
  refine ⟨h3,λ y=>?_⟩
  rw [List.foldl_cons,h4,h2,cJ]
  constructor
  ·rintro ((h | h) | h) <;> simp [h]
  ·rintro (h | h | h) <;> simp [h]
theorem tY(l:List Int):(fJ l).Pairwise (· < ·):=(xF l [] (by simp)).1
theorem nU(l:List Int)(y:Int):y∈fJ l↔y∈l:=by
 have:=(xF l [] (by simp)).2 y
 simpa [fJ] using this
theorem IB(acc:List Int)(x:Int):(jm acc x).length≤acc.length+1:=by
 unfold jm
 split
 ·omega
 ·have:=congrArg List.length (List.takeWhile_append_dropWhile (p:=λ y=>decide (y < x)) (l:=acc))
  simp only [fg,List.length_cons] at this ⊢
  omega
theorem C6:∀ (l acc:List Int),(l.foldl jm acc).length≤acc.length+l.length
 | [],acc=>by simp
 | x::l,acc=>by
  have h1:=C6 l (jm acc x)
  have h2:=IB acc x
  rw [List.foldl_cons,List.length_cons]
  omega
theorem Pg(l:List Int):(fJ l).length≤l.length:=by
 have:=C6 l []
 simpa [fJ] using this
theorem Na{α:Type}[Inhabited α]{m:List α}{w:Nat}{x:α}(h:w < m.length):nth (m.set w x) w=x:=by
 unfold nth
 rw [ha,List.getElem?_set_self h]
 rfl
theorem Cl{α:Type}[Inhabited α]{m:List α}{w i:Nat}{x:α}(h:w≠i):nth (m.set w x) i=nth m i:=by
 unfold nth
 rw [ha,ha,List.getElem?_set_ne h]
theorem ES{l:List Int}{P:Int}(h:l.Pairwise (· < ·))(c:∀ x∈l,0≤x∧x < P):vp l P=0:=by
 unfold vp
 rw [iD.2 λ i _ hi=>?_]
 ·rfl
 ·have hm:=c _ (eC (l:=l) (i:=i) (by omega))
  unfold rW
  rw [if_neg (by rw [Bool.not_eq_false,dL]; omega)]
  by_cases b:0 < i
  ·rw [if_pos b,if_neg]
   rw [List.pairwise_iff_getElem] at h
   have h3:=h (i - 1) i (by omega) (by omega) (by omega)
   have e1:=a5 (show i - 1 < l.length by omega)
   have a:=a5 (show i < l.length by omega)
   rw [ez (by omega)] at e1 a
   rw [ed e1,ed a] at h3
   omega
  ·rw [if_neg b]
section
variable {α:Type}
def lvl(ext:Nat→List α→List α):Nat→List (List α)
 | 0=>[[]]
 | i+1=>(lvl ext i).flatMap λ p=>(ext i p).map λ x=>p++[x]
def tree(ext:Nat→List α→List α):Nat→Nat→List α→List (List α)
 | 0,_,p=>[p]
 | j+1,i,p=>(ext i p).flatMap λ x=>tree ext j (i+1) (p++[x])
theorem Bm(ext:Nat→List α→List α):∀ j i,(lvl ext i).flatMap (tree ext j i)=lvl ext (i+j)
 | 0,i=>by simp [tree]
 | j+1,i=>by
  rw [show i+(j+1)=(i+1)+j by omega,← Bm ext j (i+1)]
  simp only [lvl,tree,List.flatMap_assoc,List.flatMap_map]
theorem xO(ext:Nat→List α→List α)(n:Nat):tree ext n 0 []=lvl ext n:=by
 have:=Bm ext n 0
 rw [Nat.zero_add] at this
 rw [← this]
 simp [lvl]
theorem j9[Inhabited α]{p q:List α}{i:Nat}(h:i < p.length):nth (p++q) i=nth p i:=by
 unfold nth
 rw [ha,ha,gg h]
theorem lj[Inhabited α]{p:List α}{x:α}:nth (p++[x]) p.length=x:=by
 unfold nth
 rw [ha,ff (b6 _),Nat.sub_self]
 rfl
theorem O7[Inhabited α]{r:List α}{n:Nat}(h:r.length=n+1):r=r.take n++[nth r n]:=by
 have h1:n < r.length:=by omega
 have h2:=List.take_succ_eq_append_getElem h1
 rw [List.take_of_length_le (by omega)] at h2
 have h3:=a5 h1
 rw [ez h1] at h3
 rw [← ed h3]
 exact h2
theorem q0[Inhabited α]{ext:Nat→List α→List α}:∀ {n:Nat} {r:List α},r∈lvl ext n↔r.length=n∧∀ i,i < n→nth r i∈ext i (r.take i)
 | 0,r=>by
  simp only [lvl,List.mem_singleton]
  constructor
  ·rintro rfl; exact ⟨rfl,λ i hi=>by omega⟩
  ·rintro ⟨h,_⟩; exact List.length_eq_zero_iff.1 h
 | n+1,r=>by
  simp only [lvl,List.mem_flatMap,List.mem_map]
  constructor
  ·rintro ⟨p,b,x,c,rfl⟩
   obtain ⟨h1,h2⟩:=q0.1 b
   refine ⟨by simp [h1],λ i hi=>?_⟩
   by_cases a:i < n
   ·rw [j9 (by omega),List.take_append_of_le_length (by omega)]
    exact h2 i a
   ·obtain rfl:i=p.length:=by omega
    rw [lj,List.take_append_of_le_length (b6 _),List.take_length,h1]
    exact c
  ·rintro ⟨h1,h2⟩
   refine ⟨r.take n,q0.2 ⟨by simp; omega,λ i hi=>?_⟩,nth r n,h2 n (by omega),(O7 h1).symm⟩
   rw [mz hi,List.take_take,Nat.min_eq_left (by omega)]
   exact h2 i (by omega)
def qq[Inhabited α](lt:α→α→Prop)(p q:List α):Prop:=∃ k,k < p.length∧k < q.length∧p.take k=q.take k∧lt (nth p k) (nth q k)
theorem JQ[Inhabited α]{lt:α→α→Prop}(h:∀ x,¬ lt x x)(p:List α):¬ qq lt p p:=λ ⟨_,_,_,_,a⟩=>h _ a
theorem JR[Inhabited α]{lt:α→α→Prop}{p q:List α}(x y:α)(h:qq lt p q):qq lt (p++[x]) (q++[y]):=by
 obtain ⟨k,k1,k2,k3,k4⟩:=h
 refine ⟨k,by simp; omega,by simp; omega,?_,?_⟩
 ·rw [List.take_append_of_le_length (by omega),List.take_append_of_le_length (by omega),k3]
 ·rw [j9 k1,j9 k2]; exact k4
theorem Bl[Inhabited α]{lt:α→α→Prop}{ext:Nat→List α→List α}(h:∀ i p,(ext i p).Pairwise lt):∀ n,(lvl ext n).Pairwise (qq lt)
 | 0=>by simp [lvl]
 | n+1=>by
  simp only [lvl]
  rw [List.pairwise_flatMap]
  refine ⟨λ p g=>?_,(Bl h n).imp λ {p q} c x d y f=>?_⟩
  ·rw [List.pairwise_map]
   refine (h n p).imp λ {x y} e=>⟨p.length,by simp,by simp,?_,?_⟩
   ·rw [List.take_append_of_le_length (b6 _),List.take_append_of_le_length (b6 _)]
   ·rw [lj,lj]; exact e
  ·obtain ⟨a,_,rfl⟩:=List.mem_map.1 d
   obtain ⟨b,_,rfl⟩:=List.mem_map.1 f
   exact JR a b c
theorem M8{β:Type}{lt:β→β→Prop}(hi:∀ x,¬ lt x x){l:List β}(h:l.Pairwise lt):l.Nodup:=h.imp λ {x y} a e=>by subst e; exact hi x a
end
theorem AV{α β:Type}{l:List α}{m:List β}(f:α→β)(c:l.Nodup)(hi:∀ x∈l,∀ y∈l,f x=f y→x=y)(hm:∀ x∈l,f x∈m):l.length≤m.length:=by
 classical
 induction l generalizing m with
 | nil=>simp
 | cons a l g =>
  rw [List.nodup_cons] at c
  obtain ⟨s,t,rfl⟩:=List.append_of_mem (hm a (by simp))
  have:=g (m:=s++t) c.2 (λ x b y d=>hi x (by simp [b]) y (by simp [d])) (λ x b=>by
   have h1:=hm x (by simp [b])
   have h2:f x≠f a:=λ e=>c.1 (hi x (by simp [b]) a (by simp) e ▸ b)
   simp only [List.mem_append,cJ] at h1 ⊢
   rcases h1 with h1 | h1 | h1
   ·exact .inl h1
   ·exact absurd h1 h2
   ·exact .inr h1)
  simp only [fg,List.length_cons] at this ⊢
  omega
def gP(n:Nat):List Int:=(List.range n).map λ (i:Nat)=>(i:Int)
theorem Cd{n:Nat}{x:Int}:x∈gP n↔0≤x∧x < (n:Int):=by
 simp only [gP,List.mem_map,List.mem_range]
 constructor
 ·rintro ⟨i,hi,rfl⟩; omega
 ·intro h; exact ⟨x.toNat,by omega,by omega⟩
theorem PG(n:Nat):(gP n).Pairwise (· < ·):=by
 unfold gP
 rw [List.pairwise_map]
 exact List.pairwise_lt_range.imp λ h=>by omega
theorem PH(n:Nat):gP (n+1)=gP n++[(n:Int)]:=by simp [gP,List.range_succ]
def ou(n:Nat)(ok:Nat→Bool)(p:List Int):List Int:=(gP n).filter λ k=>ok k.toNat && p.all λ x=>decide (x < k)
def m6(n dY:Nat)(ok:Nat→Bool):List (List Int):=lvl (λ _ p=>ou n ok p) dY
theorem xa{n:Nat}{ok:Nat→Bool}{p:List Int}{k:Int}:k∈ou n ok p↔(0≤k∧k < (n:Int))∧ok k.toNat=true∧∀ x∈p,x < k:=by
 simp only [ou,List.mem_filter,Cd,cM,List.all_eq_true,decide_eq_true_eq]
theorem MY{l:List Int}{i:Nat}{x:Int}(h:x∈l.take i):∃ j,j < i∧j < l.length∧nth l j=x:=by
 obtain ⟨j,a,rfl⟩:=jE h
 rw [fh] at a
 exact ⟨j,by omega,by omega,(mz (by omega)).symm⟩
theorem nT{n dY:Nat}{ok:Nat→Bool}{c:List Int}:c∈m6 n dY ok↔c.length=dY∧c.Pairwise (· < ·)∧∀ k∈c,0≤k∧k < (n:Int)∧ok k.toNat=true:=by
 unfold m6
 rw [q0]
 constructor
 ·rintro ⟨h1,h2⟩
  refine ⟨h1,?_,λ k m=>?_⟩
  ·rw [List.pairwise_iff_getElem]
   intro i j hi a g
   have:=(xa.1 (h2 j (by omega))).2.2 (nth c i) (by rw [← mz (l:=c) g]; exact eC (by simp; omega))
   have e1:=a5 hi
   have b:=a5 a
   rw [ez hi] at e1
   rw [ez a] at b
   rw [ed e1,ed b]
   exact this
  ·obtain ⟨i,hi,rfl⟩:=jE m
   obtain ⟨⟨d,e⟩,f,_⟩:=xa.1 (h2 i (by omega))
   exact ⟨d,e,f⟩
 ·rintro ⟨h1,h2,h3⟩
  refine ⟨h1,λ i hi=>?_⟩
  obtain ⟨d,e,f⟩:=h3 (nth c i) (eC (by omega))
  refine xa.2 ⟨⟨d,e⟩,f,λ x o=>?_⟩
  obtain ⟨j,h,a,rfl⟩:=MY o
  rw [List.pairwise_iff_getElem] at h2
  have:=h2 j i a (by omega) h
  have e1:=a5 a
  have b:=a5 (l:=c) (i:=i) (by omega)
  rw [ez a] at e1
  rw [ez (by omega)] at b
  rw [ed e1,ed b] at this
  exact this
theorem Iz(x:Int):¬ x < x:=by omega
abbrev CO:List Int→List Int→Prop:=qq (· < ·)
theorem EZ(n dY:Nat)(ok:Nat→Bool):(m6 n dY ok).Pairwise CO:=Bl (λ _ _=>(PG n).filter _) dY
structure RB where
 n:Nat
 D:Nat
 dY:Nat→Nat
 ok:Nat→Nat→Bool
 ap:Nat→Nat→Bool
 out:Nat→Bool
def meet(c d:List Int):Bool:=c.any λ k=>d.contains k
theorem MX{c d:List Int}:meet c d=true↔∃ k,k∈c∧k∈d:=by
 simp only [meet,List.any_eq_true,List.contains_iff_mem]
theorem B8{c d:List Int}:meet c d=false↔∀ k,k∈c→k ∉ d:=by
 rw [← Bool.not_eq_true,MX]
 exact ⟨λ h k h1 h2=>h ⟨k,h1,h2⟩,λ h ⟨k,h1,h2⟩=>h k h1 h2⟩
def mG(A:RB)(p:List (List Int))(i:Nat)(c:List Int):Bool:=(List.range p.length).all λ j=>A.ap j i || !meet c (nth p j)
def jJ(A:RB)(i:Nat)(p:List (List Int)):List (List Int):=if A.out i=true then [[]] else (m6 A.n (A.dY i) (A.ok i)).filter (mG A p i)
def hM(A:RB):List (List (List Int)):=lvl (jJ A) A.D
structure fA (A:RB) (r:List (List Int)):Prop where
 len:r.length=A.D
 out:∀ i,i < A.D→A.out i=true→nth r i=[]
 qa:∀ i,i < A.D→A.out i=false→nth r i∈m6 A.n (A.dY i) (A.ok i)
 rest:∀ i j,i < A.D→j < i→A.ap j i=true∨meet (nth r i) (nth r j)=false
theorem Cz{A:RB}{p:List (List Int)}{i:Nat}{c:List Int}:mG A p i c=true↔∀ j,j < p.length→A.ap j i=true∨meet c (nth p j)=false:=by
 simp only [mG,List.all_eq_true,List.mem_range,Bool.or_eq_true,Bool.not_eq_true']
theorem Cb{A:RB}{r:List (List Int)}:r∈hM A↔fA A r:=by
 unfold hM
 rw [q0]
 constructor
 ·rintro ⟨h1,h2⟩
  refine ⟨h1,λ i hi ho=>?_,λ i hi ho=>?_,λ i j hi a=>?_⟩
  ·have:=h2 i hi
   unfold jJ at this
   rw [if_pos ho] at this
   simpa using this
  ·have:=h2 i hi
   unfold jJ at this
   rw [if_neg (by simp [ho])] at this
   exact (List.mem_filter.1 this).1
  ·have:=h2 i hi
   unfold jJ at this
   by_cases ho:A.out i=true
   ·rw [if_pos ho] at this
    right
    have e:nth r i=[]:=by simpa using this
    rw [e]; rfl
   ·rw [if_neg ho] at this
    have h3:=Cz.1 (List.mem_filter.1 this).2 j (by simp; omega)
    rwa [mz a] at h3
 ·intro h
  refine ⟨h.len,λ i hi=>?_⟩
  unfold jJ
  by_cases ho:A.out i=true
  ·rw [if_pos ho,h.out i hi ho]; simp
  ·rw [if_neg ho]
   refine List.mem_filter.2 ⟨h.qa i hi (by simpa using ho),Cz.2 λ j a=>?_⟩
   rw [fh] at a
   rw [mz (by omega)]
   exact h.rest i j hi (by omega)
theorem OF(c:List Int):¬ CO c c:=JQ Iz c
structure D2 (A C:RB):Prop where
 n:A.n≤C.n
 D:A.D=C.D
 dY:∀ i,i < A.D→A.dY i=C.dY i
 ok:∀ i k,i < A.D→k < A.n→A.ok i k=true→C.ok i k=true
 ap:∀ i j,i < A.D→j < i→A.ap j i=true→C.ap j i=true
 out:∀ i,i < A.D→A.out i=true→C.out i=true
 Nm:∀ i,i < A.D→C.out i=true→A.out i=true
theorem fA.le{A C:RB}(h:D2 A C){r:List (List Int)}(a:fA A r):fA C r:=by
 have f:=h.D
 refine ⟨a.len.trans f,λ i hi ho=>a.out i (by omega) (h.Nm i (by omega) ho),λ i hi ho=>?_,λ i j hi b=>?_⟩
 ·have l:A.out i=false:=by
   cases e:A.out i with
   | false=>rfl
   | true=>rw [h.out i (by omega) e] at ho; cases ho
  obtain ⟨h1,h2,h3⟩:=nT.1 (a.qa i (by omega) l)
  have o:=h.n
  refine nT.2 ⟨by rw [h1,h.dY i (by omega)],h2,λ k g=>?_⟩
  obtain ⟨c,m,d⟩:=h3 k g
  exact ⟨c,by omega,h.ok i k.toNat (by omega) (by omega) d⟩
 ·rcases a.rest i j (by omega) b with h1 | h1
  ·exact .inl (h.ap i j (by omega) b h1)
  ·exact .inr h1
theorem B9{n a:Nat}{k:Int}:k∈b3 n a↔(0≤k∧k < (n:Int))∧a.testBit k.toNat=true:=by
 simp only [b3,List.mem_map,List.mem_filter,List.mem_range]
 constructor
 ·rintro ⟨i,⟨h1,h2⟩,rfl⟩; exact ⟨by omega,by simpa using h2⟩
 ·rintro ⟨h1,h2⟩; exact ⟨k.toNat,⟨by omega,h2⟩,by omega⟩
theorem MS(n a:Nat):(b3 n a).Pairwise (· < ·):=by
 unfold b3
 rw [List.pairwise_map]
 exact (List.pairwise_lt_range.filter _).imp λ h=>by omega
theorem B6(p:Nat→Bool):∀ n,∃ a,a < 2 ^ n∧∀ i,i < n→a.testBit i=p i
 | 0=>⟨0,by simp,λ i hi=>by omega⟩
 | n+1=>by
  obtain ⟨a,b,h⟩:=B6 p n
  cases c:p n with
  | false =>
   refine ⟨a,by rw [Nat.pow_succ]; omega,λ i hi=>?_⟩
   by_cases e:i=n
   ·subst e; rw [c]; exact Nat.testBit_lt_two_pow b
   ·exact h i (by omega)
  | true =>
   refine ⟨2 ^ n+a,by rw [Nat.pow_succ]; omega,λ i hi=>?_⟩
   by_cases e:i=n
   ·subst e
    rw [c,Nat.testBit_two_pow_add_eq,Nat.testBit_lt_two_pow b]; rfl
   ·rw [Nat.testBit_two_pow_add_gt (by omega)]
    exact h i (by omega)
theorem MV{n:Nat}{l:List Int}(h:l.Pairwise (· < ·))(hb:∀ k∈l,0≤k∧k < (n:Int)):∃ a,a < 2 ^ n∧l=b3 n a:=by
 obtain ⟨a,c,h1⟩:=B6 (λ i=>l.contains (i:Int)) n
 refine ⟨a,c,rF _ _ h (MS n a) λ k=>?_⟩
 rw [B9]
 constructor
 ·intro b
  have h2:=hb k b
  refine ⟨h2,?_⟩
  rw [h1 _ (by omega),List.contains_iff_mem,Int.toNat_of_nonneg h2.1]
  exact b
 ·rintro ⟨h2,h3⟩
  rw [h1 _ (by omega),List.contains_iff_mem,Int.toNat_of_nonneg h2.1] at h3
  exact h3
theorem AZ:∀ {a c d:List Int},hF a c=true→hF c d=true→hF a d=true
 | [],_,[],h1,h2=>by cases ‹List Int› <;> simp [hF] at h1 h2
 | [],_,_::_,_,_=>rfl
 | x::a,[],_,h1,_=>by simp [hF] at h1
 | x::a,y::c,[],_,h2=>by simp [hF] at h2
 | x::a,y::c,z::d,h1,h2=>by
  simp only [hF,Bool.or_eq_true,cM,decide_eq_true_eq,beq_iff_eq] at h1 h2 ⊢
  rcases h1 with h1 | ⟨h1,b⟩ <;> rcases h2 with h2 | ⟨h2,e⟩
  ·left; omega
  ·left; omega
  ·left; omega
  ·right; exact ⟨by omega,AZ b e⟩
theorem AY:∀ a:List Int,hF a a=false
 | []=>rfl
 | x::a=>by simp [hF,AY a]
theorem Ap(a:List Int):ht a a=false:=by simp [ht,AY]
theorem Hv{a c d:List Int}(h1:ht a c=true)(h2:ht c d=true):ht a d=true:=by
 simp only [ht,Bool.or_eq_true,cM,decide_eq_true_eq,beq_iff_eq] at h1 h2 ⊢
 rcases h1 with h1 | ⟨h1,b⟩ <;> rcases h2 with h2 | ⟨h2,e⟩
 ·left; omega
 ·left; omega
 ·left; omega
 ·right; exact ⟨by omega,AZ b e⟩
def py(n:Nat)(P:Nat→Bool)(s:List Int × Bool)(a:Nat):List Int × Bool:=if ((!s.2 || ht (b3 n a) s.1) && P a)=true then (b3 n a,true) else s
def ea(n:Nat)(P:Nat→Bool):Nat→List Int × Bool
 | 0=>([],false)
 | k+1=>py n P (ea n P k) k
theorem xD(n:Nat)(P:Nat→Bool):∀ k,((ea n P k).2=false∧(ea n P k).1=[]∧∀ a,a < k→P a=false) ∨
  ((ea n P k).2=true∧(∃ a,a < k∧P a=true∧(ea n P k).1=b3 n a)∧∀ c,c < k→P c=true→ht (b3 n c) (ea n P k).1=false)
 | 0=>.inl ⟨rfl,rfl,λ a g=>by omega⟩
 | k+1=>by
  rcases xD n P k with ⟨h1,h2,h3⟩ | ⟨h1,⟨a,g,i,h2⟩,h3⟩
  ·cases f:P k with
   | false =>
    have e:ea n P (k+1)=ea n P k:=by simp [ea,py,f]
    rw [e]
    exact .inl ⟨h1,h2,λ a g=>by
     by_cases x:a=k
     ·subst x; exact f
     ·exact h3 a (by omega)⟩
   | true =>
    have e:ea n P (k+1)=(b3 n k,true):=by simp [ea,py,f,h1]
    rw [e]
    refine .inr ⟨rfl,⟨k,by omega,f,rfl⟩,λ c h b=>?_⟩
    by_cases x:c=k
    ·subst x; exact Ap _
    ·rw [h3 c (by omega)] at b; cases b
  ·cases d:(ht (b3 n k) (ea n P k).1 && P k) with
   | false =>
    have e:ea n P (k+1)=ea n P k:=by simp [ea,py,h1,d]
    rw [e]
    refine .inr ⟨h1,⟨a,by omega,i,h2⟩,λ c h b=>?_⟩
    by_cases x:c=k
    ·subst x; simpa [b] using d
    ·exact h3 c (by omega) b
   | true =>
    have e:ea n P (k+1)=(b3 n k,true):=by simp [ea,py,h1,d]
    rw [e]
    rw [cM] at d
    refine .inr ⟨rfl,⟨k,by omega,d.2,rfl⟩,λ c h b=>?_⟩
    by_cases x:c=k
    ·subst x; exact Ap _
    ·cases j:ht (b3 n c) (b3 n k) with
     | false=>rfl
     | true =>
      have:=h3 c (by omega) b
      rw [Hv j d.1] at this
      cases this
theorem O6{n:Nat}{P:Nat→Bool}(h:∀ a,a < 2 ^ n→P a=false):ea n P (2 ^ n)=([],false):=by
 rcases xD n P (2 ^ n) with ⟨h1,h2,_⟩ | ⟨_,⟨a,c,b,_⟩,_⟩
 ·exact Prod.ext h2 h1
 ·rw [h a c] at b; cases b
theorem yu{l:List Int}(h:l.Pairwise (· < ·)){i j:Nat}(c:i < j)(a:j < l.length):nth l i < nth l j:=by
 rw [List.pairwise_iff_getElem] at h
 have:=h i j (by omega) a c
 have e1:=a5 (l:=l) (i:=i) (by omega)
 have b:=a5 a
 rw [ez (by omega)] at e1
 rw [ez a] at b
 rw [ed e1,ed b] at this
 exact this
def eH(t:Nat→Int)(r:List (List Int))(k:Int):Nat→Int
 | 0=>0
 | i+1=>eH t r k i+if k∈nth r i then t i else 0
def ob(t:Nat→Int)(r:List (List Int))(D:Nat):Nat→Int
 | 0=>0
 | k+1=>max (ob t r D k) (eH t r (k:Int) D)
theorem DJ{t:Nat→Int}{r:List (List Int)}{D:Nat}{m:Int}:∀ {n:Nat},ob t r D n≤m↔0≤m∧∀ k:Nat,k < n→eH t r (k:Int) D≤m
 | 0=>by simp [ob]
 | n+1=>by
  simp only [ob]
  rw [show (max (ob t r D n) (eH t r (n:Int) D)≤m)↔(ob t r D n≤m∧eH t r (n:Int) D≤m) by omega,DJ (n:=n)]
  constructor
  ·rintro ⟨⟨h1,h2⟩,h3⟩
   refine ⟨h1,λ k a=>?_⟩
   by_cases e:k=n
   ·subst e; exact h3
   ·exact h2 k (by omega)
  ·rintro ⟨h1,h2⟩
   exact ⟨⟨h1,λ k a=>h2 k (by omega)⟩,h2 n (by omega)⟩
theorem Di{t:Nat→Int}{r:List (List Int)}{k:Int}:∀ {D:Nat},(∀ i,i < D→k ∉ nth r i)→eH t r k D=0
 | 0,_=>rfl
 | D+1,h=>by simp only [eH,Di (D:=D) λ i hi=>h i (by omega),if_neg (h D (by omega))]; rfl
def fS{α:Type}(w:α→Int):α→List α→α
 | x,[]=>x
 | x,y::l=>fS w (if w y < w x then y else x) l
section
variable {α O:Type} [Inhabited α]
theorem Ff{l:List α}{i:Nat}(h:i < l.length):l.drop i=nth l i::l.drop (i+1):=by
 rw [List.drop_eq_getElem_cons h]
 have h3:=a5 h
 rw [ez h] at h3
 rw [ed h3]
theorem Be{l:List α}(p:α→Bool)(g:Nat→α→O){body:Int→Option (Int ⊕ (Unit ⊕ O))} (h:∀ i,i < l.length→body (i:Int)=some (if p (nth l i)=true then .inr (.inr (g i (nth l i))) else .inl ((i+1:Nat):Int)))
  (d:body (l.length:Int)=some (.inr (.inl ()))) {o:Unit ⊕ O} (ho:(∀ i,i < l.length→p (nth l i)=true→(∀ j,j < i→p (nth l j)=false)→o = .inr (g i (nth l i)))∧((∀ x∈l,p x=false)→o = .inl ())):a6 body 0=some o:=by
 have key:∀ k i,i+k=l.length→(∀ j,j < i→p (nth l j)=false)→a6 body (i:Int)=some o:=by
  intro k
  induction k with
  | zero =>
   intro i hi hb
   obtain rfl:i=l.length:=by omega
   rw [ho.2 λ x f=>by obtain ⟨j,c,rfl⟩:=jE f; exact hb j c]
   exact fF d
  | succ k m =>
   intro i hi hb
   have a:=h i (by omega)
   cases b:p (nth l i) with
   | true =>
    rw [b,if_pos rfl] at a
    rw [ho.1 i (by omega) b hb]
    exact fF a
   | false =>
    rw [b,if_neg (by simp)] at a
    rw [j1 a]
    exact m (i+1) (by omega) λ j c=>by
     by_cases e:j=i
     ·subst e; exact b
     ·exact hb j (by omega)
 exact key l.length 0 (by omega) λ j c=>by omega
theorem Bf{l:List α}(p:α→Bool)(g:α→O){body:Int→Option (Int ⊕ (Unit ⊕ O))} (h:∀ i,i < l.length→body (i:Int)=some (if p (nth l i)=true then .inr (.inr (g (nth l i))) else .inl ((i+1:Nat):Int)))
  (c:body (l.length:Int)=some (.inr (.inl ()))):a6 body 0=some (match l.find? p with | some x=>.inr (g x) | none=>.inl ()):=by
 refine Be p (λ _ x=>g x) h c ⟨λ i hi d hb=>?_,λ hb=>?_⟩
 ·have:l.find? p=some (nth l i):=by
   rw [List.find?_eq_some_iff_append]
   refine ⟨d,l.take i,l.drop (i+1),?_,λ x a=>?_⟩
   ·rw [← Ff hi,List.take_append_drop]
   ·obtain ⟨j,b,rfl⟩:=jE a
    have:j < i:=by simp at b; omega
    rw [mz this,hb j this]; rfl
  rw [this]
 ·have:l.find? p=none:=by
   rw [List.find?_eq_none]
   intro x a
   rw [hb x a]; simp
  rw [this]
theorem wC{l:List α}(p:α→Bool)(c:O){body:Int→Option (Int ⊕ (Unit ⊕ O))}(h:∀ i,i < l.length→body (i:Int)=some (if p (nth l i)=true then .inl ((i+1:Nat):Int) else .inr (.inr c)))
  (d:body (l.length:Int)=some (.inr (.inl ()))):a6 body 0=some (if l.all p=true then .inl () else .inr c):=by
 refine Be (λ x=>!p x) (λ _ _=>c) (λ i hi=>?_) d ⟨λ i hi b hb=>?_,λ hb=>?_⟩
 ·rw [h i hi]
  cases p (nth l i) <;> rfl
 ·rw [if_neg]
  intro a
  rw [List.all_eq_true] at a
  rw [a _ (eC hi)] at b
  cases b
 ·rw [if_pos]
  rw [List.all_eq_true]
  intro x e
  have:=hb x e
  simpa using this
theorem oF{n:Nat}(p:Nat→Bool)(c:O){body:Int→Option (Int ⊕ (Unit ⊕ O))}(h:∀ i,i < n→body (i:Int)=some (if p i=true then .inl ((i+1:Nat):Int) else .inr (.inr c)))
  (a:body (n:Int)=some (.inr (.inl ()))):a6 body 0=some (if (List.range n).all p=true then .inl () else .inr c):=by
 have e:∀ i,i < n→nth (List.range n) i=i:=λ i hi=>by
  have:=a5 (l:=List.range n) (i:=i) (by simpa using hi)
  rw [List.getElem?_range hi] at this
  exact (ed this).symm
 refine wC (l:=List.range n) p c (λ i hi=>?_) (by rw [List.length_range]; exact a)
 rw [List.length_range] at hi
 rw [h i hi,e i hi]
theorem JV{l:List α}(p:α→Bool){body:Int × Int→Option ((Int × Int) ⊕ Int)} (h:∀ i n:Nat,i < l.length→n≤i→body ((n:Int),(i:Int))=some (.inl (if p (nth l i)=true then ((n+1:Nat):Int) else (n:Int),((i+1:Nat):Int))))
  (a:∀ n:Int,body (n,(l.length:Int))=some (.inr n)):a6 body (0,0)=some ((l.filter p).length:Int):=by
 refine (jq (λ i=>((((l.take i).filter p).length:Int),(i:Int))) l.length (λ i hi=>?_) (a _):a6 body ((0:Int),(0:Int))=_).trans ?_
 ·have hl:((l.take i).filter p).length≤i:=Nat.le_trans (List.length_filter_le _ _) (by rw [fh]; omega)
  rw [h i _ hi hl]
  have:l.take (i+1)=l.take i++[nth l i]:=by
   rw [List.take_add_one,a5 hi]; rfl
  rw [this,List.filter_append,fg]
  cases b:p (nth l i) <;> simp [b]
 ·rw [List.take_length]
end
end Go.Lg
