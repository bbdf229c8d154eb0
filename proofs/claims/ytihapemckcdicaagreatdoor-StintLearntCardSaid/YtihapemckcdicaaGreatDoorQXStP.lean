/- Plain lists. Conditions: none. -/
import Derived.Test.YtihapemckcdicaaGreatDoorQXLgC
namespace Go.Lg
open Go.Conc
set_option maxRecDepth 10000
theorem ya{S O:Type}{body:S→Option (S ⊕ O)}(st:Nat→S)(n:Nat){o:O}(h:∀ i,i < n→body (st i)=some (.inl (st (i+1))))(hn:body (st n)=some (.inr o)):bH body (st 0)=some o:=by
 have key:∀ k,k≤n→bH body (st (n - k))=some o:=by
  intro k
  induction k with
  | zero=>intro _; exact om hn
  | succ k ih =>
   intro hk
   rw [zE (h (n - (k+1)) (by omega)),show n - (k+1)+1=n - k by omega]
   exact ih (by omega)
 have:=key n (dr _)
 rwa [Nat.sub_self] at this
def fJ{O:Type}(e:Nat→Option O):Nat→Nat→Option O
 | _,0=>none
 | i,k+1=>match e i with | some o=>some o | none=>fJ e (i+1) k
def aka{S O:Type}(s:S):Option O→S ⊕ O
 | some o=>.inr o
 | none=>.inl s
theorem ahT{S O:Type}{body:S→Option (S ⊕ O)}(st:Nat→S)(e:Nat→Option O)(i0 n:Nat){o:O}(h:∀ i,i0≤i→i < n→body (st i)=some (aka (st (i+1)) (e i)))(hn:body (st n)=some (.inr o))(h0:i0≤n):bH body (st i0)=some ((fJ e i0 (n - i0)).getD o):=by
 have key:∀ k,k≤n - i0→bH body (st (n - k))=some ((fJ e (n - k) k).getD o):=by
  intro k
  induction k with
  | zero=>intro _; exact om hn
  | succ k ih =>
   intro hk
   have hb:=h (n - (k+1)) (by omega) (by omega)
   unfold fJ
   cases he:e (n - (k+1)) with
   | some o' =>
    rw [he] at hb
    exact om hb
   | none =>
    rw [he] at hb
    rw [zE hb,show n - (k+1)+1=n - k by omega]
    exact ih (by omega)
 have:=key (n - i0) (dr _)
 rwa [show n - (n - i0)=i0 by omega] at this
theorem aHX{S O:Type}{body:S→Option (S ⊕ O)}(st:Nat→S)(e:Nat→Option O)(n:Nat){o:O}(h:∀ i,i < n→body (st i)=some (aka (st (i+1)) (e i)))(hn:body (st n)=some (.inr o)):bH body (st 0)=some ((fJ e 0 n).getD o):=by
 simpa using ahT st e 0 n (λ i _ hi=>h i hi) hn (Nat.zero_le _)
theorem vn{O:Type}{e:Nat→Option O}:∀ {k i:Nat},fJ e i k=none↔∀ j,i≤j→j < i+k→e j=none
 | 0,i=>by simp [fJ]; omega
 | k+1,i=>by
  unfold fJ
  cases he:e i with
  | some o=>simp; exact ⟨i,dr _,by omega,by rw [he]; simp⟩
  | none =>
   simp only
   rw [vn]
   constructor
   ·intro h j h1 h2
    by_cases hj:j=i
    ·subst hj; exact he
    ·exact h j (by omega) (by omega)
   ·intro h j h1 h2; exact h j (by omega) (by omega)
theorem Bs{O:Type}{e:Nat→Option O}:∀ {k i:Nat} {o:O},fJ e i k=some o→∃ j,i≤j∧j < i+k∧e j=some o∧∀ m,i≤m→m < j→e m=none
 | 0,i,o,h=>by cases h
 | k+1,i,o,h=>by
  unfold fJ at h
  cases he:e i with
  | some o'=>rw [he] at h; cases h; exact ⟨i,dr _,by omega,he,λ m h1 h2=>by omega⟩
  | none =>
   rw [he] at h
   obtain ⟨j,h1,h2,h3,h4⟩:=Bs h
   refine ⟨j,by omega,by omega,h3,λ m P2 Hx=>?_⟩
   by_cases hm:m=i
   ·subst hm; exact he
   ·exact h4 m (by omega) Hx
@[simp] theorem bR {α:Type} {a b:Option α}:af true a b=a:=rfl
@[simp] theorem bI {α:Type} {a b:Option α}:af false a b=b:=rfl
@[simp] theorem dD {α:Type} (xs:List α) (k:Nat):idx xs (k:Int)=xs[k]? := by simp [idx]
theorem gZ{z:Int}(h1 : -4611686018427387904≤z)(h2:z≤4611686018427387904):i64 z=z:=Q4 (by omega)
theorem dS{i:Nat}(h:i≤1000000000):i64 ((i:Int)+1)=((i+1:Nat):Int):=by rw [gZ (by omega) (by omega)]; omega
theorem mf{i:Nat}(h:i≤1000000000)(h0:0 < i):i64 ((i:Int) - 1)=((i - 1:Nat):Int):=by rw [gZ (by omega) (by omega)]; omega
theorem aeK{α:Type}{xs:List α}{k:Nat}(h:k≤xs.length):lH xs 0 (k:Int)=some (xs.take k):=by simp [lH,h]
theorem xd{α:Type}{xs ys:List α}(h:xs.length+ys.length≤16777216):ij xs ys=some (xs++ys):=by simp [ij,h]
def dc(n a c:Int):Bool:=decide (a≤n) && decide (n≤c)
def nth{α:Type}[Inhabited α](l:List α)(i:Nat):α:=l.getD i default
theorem bZ{α:Type}[Inhabited α]{l:List α}{i:Nat}(h:i < l.length):l[i]? = some (nth l i):=by
 unfold nth
 rw [qZ,mN h]; rfl
theorem nJ{α:Type}[Inhabited α]{l:List α}{i:Nat}(h:i < l.length):nth l i∈l:=List.mem_of_getElem? (bZ h)
theorem uB{α:Type}[Inhabited α]{l:List α}{x:α}(h:x∈l):∃ i,i < l.length∧nth l i=x:=by
 obtain ⟨i,hi,rfl⟩:=List.mem_iff_getElem.1 h
 refine ⟨i,hi,?_⟩
 have:=bZ hi
 rw [mN hi] at this
 exact (kz this).symm
theorem aKF{α:Type}[Inhabited α]{l m:List α}(h:l.length=m.length)(he:∀ i,i < l.length→nth l i=nth m i):l=m:=by
 apply List.ext_getElem?
 intro i
 by_cases hi:i < l.length
 ·rw [bZ hi,bZ (h ▸ hi),he i hi]
 ·rw [List.getElem?_eq_none (by omega),List.getElem?_eq_none (by omega)]
theorem CC{α:Type}[Inhabited α]{l:List α}{i k:Nat}(h:i < k):nth (l.take k) i=nth l i:=by
 unfold nth
 rw [qZ,qZ,List.getElem?_take_of_lt h]
theorem lO{S O β:Type}{body:S→Option (S ⊕ O)}{s:S}{o:O}{f:O→Option β}(h:bH body s=some o):(bH body s).bind f=f o:=by rw [h]; rfl
theorem dec_lt{i:Nat}{n:Nat}(h:i < n):decide ((i:Int) < (n:Int))=true:=by simpa using h
theorem jk{n:Nat}:decide ((n:Int) < (n:Int))=false:=by simp
theorem Vg{i:Nat}(h:0 < i):decide ((i:Int) > 0)=true:=by simpa using h
theorem Vf{i:Nat}(h:¬ 0 < i):decide ((i:Int) > 0)=false:=by simpa using h
theorem apC{O:Type}{f:Option O}{g:Unit→Option O}{d:O}(hd:g ()=some d):Sum.elim g (λ q=>some q) (((f.map Sum.inr).getD (.inl ())):Unit ⊕ O)=some (f.getD d):=by
 cases f with
 | none=>exact hd
 | some o=>rfl
theorem VU{O Q:Type}(g:O→Q)(e:Nat→Option O):∀ (k i:Nat),fJ (λ j=>(e j).map g) i k=(fJ e i k).map g
 | 0,_=>rfl
 | k+1,i=>by
  unfold fJ
  cases e i with
  | none=>exact VU g e k (i+1)
  | some o=>rfl
theorem search{O:Type}{body:Int→Option (Int ⊕ (Unit ⊕ O))}(e:Nat→Option O)(i0 n:Nat){d:O}{g:Unit→Option O}(h:∀ i,i0≤i→i < n→body (i:Int)=some (match e i with | some o=>.inr (.inr o) | none=>.inl ((i+1:Nat):Int)))(hn:body (n:Int)=some (.inr (.inl ())))(h0:i0≤n)(hd:g ()=some d) :
  (bH body (i0:Int)).bind (Sum.elim g λ q=>some q)=some ((fJ e i0 (n - i0)).getD d):=by
 refine (lO (ahT (λ i=>(i:Int)) (λ i=>(e i).map Sum.inr) i0 n (o:=.inl ()) (λ i h1 h2=>?_) hn h0)).trans ?_
 ·rw [h i h1 h2]
  cases e i <;> rfl
 ·rw [VU]
  exact apC hd
theorem yu{O:Type}{body:Int→Option (Int ⊕ (Unit ⊕ O))}(e:Nat→Option O)(n:Nat){d:O}{g:Unit→Option O}(h:∀ i,i < n→body (i:Int)=some (match e i with | some o=>.inr (.inr o) | none=>.inl ((i+1:Nat):Int)))(hn:body (n:Int)=some (.inr (.inl ())))(hd:g ()=some d) :
  (bH body 0).bind (Sum.elim g λ q=>some q)=some ((fJ e 0 n).getD d):=search e 0 n (λ i _ hi=>h i hi) hn (Nat.zero_le _) hd
theorem VV{α:Type}[Inhabited α](p:α→Bool)(l:List α):(fJ (λ i=>if p (nth l i) then some true else none) 0 l.length).getD false=l.any p:=by
 cases h:fJ (λ i=>if p (nth l i) then some true else none) 0 l.length with
 | none =>
  rw [vn] at h
  symm
  rw [Option.getD_none,List.any_eq_false]
  intro x hx
  obtain ⟨i,hi,rfl⟩:=uB hx
  have:=h i (Nat.zero_le _) (by omega)
  simpa using this
 | some o =>
  obtain ⟨j,_,hj,he,_⟩:=Bs h
  split at he
  ·rename_i hp
   cases he
   symm
   rw [oz,List.any_eq_true]
   exact ⟨nth l j,nJ (by omega),hp⟩
  ·cases he
theorem an9(l:List Int)(n:Int):(l.any λ x=>x == n)=l.contains n:=by
 rw [Bool.eq_iff_iff,List.any_eq_true,List.contains_iff_mem]
 constructor
 ·rintro ⟨x,hx,h⟩
  rw [beq_iff_eq] at h; subst h; exact hx
 ·intro h; exact ⟨n,h,by simp⟩
theorem asJ{α:Type}[Inhabited α](p:α→Bool)(l:List α):decide ((fJ (λ i=>if p (nth l i) then some (i:Int) else none) 0 l.length).getD (-1) ≥ 0)=l.any p:=by
 rw [← VV p l]
 cases h:fJ (λ i=>if p (nth l i) then some (i:Int) else none) 0 l.length with
 | none =>
  rw [vn] at h
  have:fJ (λ i=>if p (nth l i) then some true else none) 0 l.length=none:=by
   rw [vn]
   intro j h1 h2
   have:=h j h1 h2
   cases hp:p (nth l j) with
   | true=>rw [hp] at this; cases this
   | false=>rfl
  rw [this]; rfl
 | some o =>
  obtain ⟨j,h1,h2,h3,h4⟩:=Bs h
  split at h3
  ·rename_i hp
   cases h3
   have:fJ (λ i=>if p (nth l i) then some true else none) 0 l.length=some true:=by
    cases hf:fJ (λ i=>if p (nth l i) then some true else none) 0 l.length with
    | none=>rw [vn] at hf; have:=hf j h1 h2; rw [if_pos hp] at this; cases this
    | some b =>
     obtain ⟨_,_,_,hb,_⟩:=Bs hf
     split at hb
     ·cases hb; rfl
     ·cases hb
   rw [this]
   simp
  ·cases h3
theorem abJ{O:Type}{body:Int→Option (Int ⊕ (Unit ⊕ O))}(e:Nat→Option O)(n:Nat)(h:∀ i,i < n→body (i:Int)=some (match e i with | some o=>.inr (.inr o) | none=>.inl ((i+1:Nat):Int)))(hn:body (n:Int)=some (.inr (.inl ()))) :
  bH body 0=some (match fJ e 0 n with | some o=>.inr o | none=>.inl ()):=by
 refine (aHX (λ i=>(i:Int)) (λ i=>(e i).map Sum.inr) n (o:=.inl ()) (λ i hi=>?_) hn).trans ?_
 ·rw [h i hi]
  cases e i <;> rfl
 ·rw [VU]
  cases fJ e 0 n <;> rfl
theorem agb{α O:Type}[Inhabited α](p:α→Bool)(c:O)(l:List α)(n:Nat)(hn:n≤l.length):fJ (λ k=>if p (nth l k) then some c else none) 0 n=if (l.take n).any p then some c else none:=by
 cases h:fJ (λ k=>if p (nth l k) then some c else none) 0 n with
 | none =>
  rw [vn] at h
  have:(l.take n).any p=false:=by
   rw [List.any_eq_false]
   intro x hx
   obtain ⟨i,hi,rfl⟩:=uB hx
   have qx:i < n:=by simp at hi; omega
   rw [CC qx]
   have:=h i (Nat.zero_le _) (by omega)
   simpa using this
  rw [this]; rfl
 | some o =>
  obtain ⟨j,_,hj,he,_⟩:=Bs h
  split at he
  ·rename_i hp
   cases he
   have:(l.take n).any p=true:=by
    rw [List.any_eq_true]
    refine ⟨nth l j,?_,hp⟩
    rw [← CC (l:=l) (show j < n by omega)]
    exact nJ (by simp; omega)
   rw [this]; rfl
  ·cases he
def isLet(n:Int):Bool:=dc n 97 122
def zC(n:Int):Bool:=dc n 48 57
theorem SD(s:ByteArray):(iL s).length=s.size:=by simp [iL]
theorem akh{s:ByteArray}{i:Nat}(h:i < s.size):0≤nth (iL s) i∧nth (iL s) i < 256:=by
 have hm:nth (iL s) i∈iL s:=nJ (by rw [SD]; exact h)
 unfold iL at hm
 obtain ⟨b,_,hb⟩:=List.mem_map.1 hm
 unfold iL
 rw [← hb]
 have:=b.toNat_lt
 omega
def oT(s:ByteArray)(i:Nat):Option Bool:=if isLet (nth (iL s) i)=false then (if i=0 then some false else if zC (nth (iL s) i)=false then some false else none) else none
def qD(s:ByteArray):Bool:=(fJ (oT s) 0 s.size).getD (dc (s.size:Int) 1 12)
theorem ahy{s:ByteArray}{k i:Nat}{o:Bool}(h:fJ (oT s) i k=some o):o=false:=by
 obtain ⟨j,_,_,he,_⟩:=Bs h
 unfold oT at he
 split at he
 ·split at he
  ·cases he; rfl
  ·split at he
   ·cases he; rfl
   ·cases he
 ·cases he
theorem s7{a:Int}(h:a≠0):(a != 0)=true:=by simpa using h
theorem jH{n a c:Int}:dc n a c=true↔a≤n∧n≤c:=by simp [dc]
theorem Pu{e:Nat→Option Int}{n:Nat}(da:∀ i,e i≠some 0)(h:(fJ e 0 n).getD 0=0):∀ i,i < n→e i=none:=by
 cases hf:fJ e 0 n with
 | none=>rw [vn] at hf; exact λ i hi=>hf i (Nat.zero_le _) (by omega)
 | some o =>
  rw [hf] at h
  obtain ⟨j,_,_,he,_⟩:=Bs hf
  have:o=0:=h
  subst this
  exact absurd he (da j)
theorem aHR{n m:Nat}:((n:Int) != (m:Int))=decide (n≠m):=by
 by_cases h:n=m
 ·subst h; simp
 ·have:¬ (n:Int)=(m:Int):=by omega
  simp [h,this]
def kE{α S:Type}(ys:α→S→Option (S × Bool)):List α→S→Option (S × Bool)
 | [],s=>some (s,true)
 | a::l,s=>(ys a s).bind λ r=>if r.2=true then kE ys l r.1 else some (r.1,false)
theorem agc{α S:Type}(ys:α→S→Option (S × Bool)):∀ (l m:List α) (s:S),kE ys (l++m) s=(kE ys l s).bind λ r=>if r.2=true then kE ys m r.1 else some (r.1,false)
 | [],_,_=>by simp [kE]
 | a::l,m,s=>by
  simp only [List.cons_append,kE]
  cases ys a s with
  | none=>rfl
  | some r =>
   simp only [aU]
   cases hr:r.2 with
   | true=>simp only [if_true]; exact agc ys l m r.1
   | false=>simp
theorem asK{α β:Type}(f:α→β):∀ l:List α,l.flatMap (λ x=>[f x])=l.map f
 | []=>rfl
 | a::l=>by rw [List.flatMap_cons,asK f l]; rfl
theorem Pt{α S O:Type}{body:α→S→Option (S ⊕ O)}(I:Nat→S→Prop)(f:α→S→S):∀ (l:List α) (k:Nat) (s:S),I k s→(∀ j s a,j < k+l.length→I j s→a∈l→body a s=some (.inl (f a s))∧I (j+1) (f a s)) →
  kE (ic body) l (.inl s)=some (.inl (l.foldl (λ s a=>f a s) s),true)
 | [],_,_,_,_=>rfl
 | a::l,k,s,hI,h=>by
  obtain ⟨h1,h2⟩:=h k s a (by simp) hI (by simp)
  simp only [kE,ic,h1,Option.map_some,aU,Sum.isLeft_inl,if_true,List.foldl_cons]
  exact Pt I f l (k+1) _ h2 (λ j s a' hj hI ha=>h j s a' (by simp only [List.length_cons]; omega) hI (by simp [ha]))
def cX(n a:Nat):List Int:=((List.range n).filter λ i=>a.testBit i).map λ (i:Nat)=>(i:Int)
def rH:List Int→List Int→Bool
 | [],[]=>false
 | [],_::_=>true
 | _::_,[]=>false
 | a::l,c::m=>decide (a < c) || (a == c && rH l m)
def pz(l m:List Int):Bool:=decide (l.length < m.length) || (l.length == m.length && rH l m)
theorem age{n:Nat}:∀ i,i < n→(2 ^ n - 1).testBit i=true:=λ i hi=>by rw [Nat.testBit_two_pow_sub_one]; simpa using hi
theorem abu{n:Nat}(h:n < 5):2 ^ n≤16:=by
 match n,h with
 | 0,_=>decide
 | 1,_=>decide
 | 2,_=>decide
 | 3,_=>decide
 | 4,_=>decide
theorem aGJ{n:Nat}:(((n:Nat):Int) == 0)=(n == 0):=by
 rw [Bool.eq_iff_iff,beq_iff_eq,beq_iff_eq]
 omega
def og(n all:Nat):Int:=if n=0 then 2 else if n=all then 1 else 0
theorem ag1{α:Type}{p:α→Bool}{l:List α}(da:l≠[]):(og (l.filter p).length l.length == 1)=decide (∀ c∈l,p c=true):=by
 rw [Bool.eq_iff_iff,decide_eq_true_eq,beq_iff_eq]
 unfold og
 have hlen:0 < l.length:=List.length_pos_iff.2 da
 constructor
 ·intro h
  split at h
  ·cases h
  ·split at h
   ·rename_i h2
    intro c hc
    exact (List.filter_eq_self.1 (List.Sublist.eq_of_length (List.filter_sublist) h2)) c hc
   ·cases h
 ·intro h
  rw [List.filter_eq_self.2 h,if_neg (by omega),if_pos rfl]
theorem ag0{α:Type}{p:α→Bool}{l:List α}:(og (l.filter p).length l.length == 2)=decide (∀ c∈l,p c=false):=by
 rw [Bool.eq_iff_iff,decide_eq_true_eq,beq_iff_eq]
 unfold og
 constructor
 ·intro h
  split at h
  ·rename_i h1
   have:=List.filter_eq_nil_iff.1 (List.length_eq_zero_iff.1 h1)
   exact λ c hc=>by simpa using this c hc
  ·split at h <;> cases h
 ·intro h
  rw [List.filter_eq_nil_iff.2 (λ c hc=>by simp [h c hc])]
  rfl
theorem api{α:Type}{x:α}{l:List α}:lH (x::l) 1 ((x::l).length:Int)=some l:=by
 simp [lH]
 omega
theorem VW{α β:Type}(f:α→List β)(m:Nat)(h:∀ a,(f a).length≤m):∀ l:List α,(l.flatMap f).length≤l.length * m
 | []=>by simp
 | a::l=>by
  have:=VW f m h l
  have:=h a
  simp only [List.flatMap_cons,ns,List.length_cons,Nat.add_mul,Nat.one_mul]
  omega
theorem aiK{w x:Int}:vX w [x]=max w x:=by
 show (if x > w then x else w)=_
 rw [Int.max_def]
 split <;> split <;> omega
theorem asF{α:Type}(p:α→Bool)(l:List α):l.flatMap (λ a=>if p a=true then [a] else [])=l.filter p:=by
 induction l with
 | nil=>rfl
 | cons a l ih =>
  rw [List.flatMap_cons,ih,List.filter_cons]
  cases p a <;> simp
theorem Oy:∀ (l m:List Int),l.Pairwise (· < ·)→m.Pairwise (· < ·)→(∀ x,x∈l↔x∈m)→l=m
 | [],[],_,_,_=>rfl
 | [],b::m,_,_,h=>by have:=(h b).2 (by simp); cases this
 | a::l,[],_,_,h=>by have:=(h a).1 (by simp); cases this
 | a::l,b::m,hl,hm,h=>by
  rw [List.pairwise_cons] at hl hm
  have bJ:a=b:=by
   rcases fy.1 ((h a).1 (by simp)) with h1 | h1
   ·exact h1
   ·rcases fy.1 ((h b).2 (by simp)) with h2 | h2
    ·exact h2.symm
    ·have h3:=hm.1 a h1
     have h4:=hl.1 b h2
     omega
  subst bJ
  rw [Oy l m hl.2 hm.2 λ x=>?_]
  constructor
  ·intro hx
   rcases fy.1 ((h x).1 (by simp [hx])) with h1 | h1
   ·have:=hl.1 x hx; omega
   ·exact h1
  ·intro hx
   rcases fy.1 ((h x).2 (by simp [hx])) with h1 | h1
   ·have:=hm.1 x hx; omega
   ·exact h1
def mC(l:List Int):Nat→List Int
 | 0=>[]
 | k+1=>if k=0∨nth l k≠nth l (k - 1) then mC l k++[nth l k] else mC l k
theorem Ve(l:List Int):∀ (k:Nat) (x:Int),x∈mC l k↔∃ i,i < k∧nth l i=x
 | 0,x=>by simp [mC]
 | k+1,x=>by
  have ih:=Ve l k x
  simp only [mC]
  have h1:(∃ i,i < k+1∧nth l i=x)↔(∃ i,i < k∧nth l i=x)∨nth l k=x:=by
   constructor
   ·rintro ⟨i,hi,hx⟩
    by_cases W8:i=k
    ·subst W8; exact .inr hx
    ·exact .inl ⟨i,by omega,hx⟩
   ·rintro (⟨i,hi,hx⟩ | hx)
    ·exact ⟨i,by omega,hx⟩
    ·exact ⟨k,by omega,hx⟩
  rw [h1]
  split
  ·rw [List.mem_append,ih,List.mem_singleton]
   constructor <;> rintro (h | h) <;> simp [h]
  ·rename_i hn
   have hk:k≠0∧nth l k=nth l (k - 1):=by
    constructor
    ·exact λ h=>hn (.inl h)
    ·exact Classical.byContradiction λ h=>hn (.inr h)
   rw [ih]
   constructor
   ·exact .inl
   ·rintro (h | h)
    ·exact h
    ·exact ⟨k - 1,by omega,by rw [← hk.2,h]⟩
theorem aj3{l:List Int}(hs:l.Pairwise (·≤·)){i j:Nat}(gg:i < j)(hj:j < l.length):nth l i≤nth l j:=by
 rw [List.pairwise_iff_getElem] at hs
 have h:=hs i j (by omega) hj gg
 have e1:=bZ (show i < l.length by omega)
 have e2:=bZ hj
 rw [mN (by omega)] at e1 e2
 rw [← kz e1,← kz e2]
 exact h
theorem aeL{l:List Int}(hs:l.Pairwise (·≤·)):∀ k,k≤l.length→(mC l k).Pairwise (· < ·)
 | 0,_=>by simp [mC]
 | k+1,hk=>by
  have ih:=aeL hs k (by omega)
  simp only [mC]
  split
  ·rename_i h
   rw [List.pairwise_append]
   refine ⟨ih,by simp,λ x hx y hy=>?_⟩
   rw [List.mem_singleton] at hy
   subst hy
   obtain ⟨i,hi,rfl⟩:=(Ve l k x).1 hx
   rcases h with h | h
   ·omega
   ·have h1:=aj3 hs (show k - 1 < k by omega) (by omega)
    have h2:nth l i≤nth l (k - 1):=by
     rcases Nat.lt_or_ge i (k - 1) with h3 | h3
     ·exact aj3 hs h3 (by omega)
     ·rw [show i=k - 1 by omega]; exact Int.le_refl _
    omega
  ·exact ih
theorem Vd{l:List Int}:∀ k,k≤l.length→(∀ i,1≤i→i < k→nth l i≠nth l (i - 1))→mC l k=l.take k
 | 0,_,_=>by simp [mC]
 | k+1,hk,h=>by
  rw [mC,if_pos (by
   by_cases h0:k=0
   ·exact .inl h0
   ·exact .inr (h k (by omega) (by omega))),Vd k (by omega) (λ i h1 h2=>h i h1 (by omega)),List.take_add_one,bZ (by omega)]
  rfl
theorem aeV{m:List Int}{a i:Nat}(h:a+i < m.length):(m.drop a)[i]? = some (nth m (a+i)):=by
 rw [List.getElem?_drop,bZ h]
theorem aKH{m:List Int}{w i:Nat}{x:Int}(h:w≠i):nth (m.set w x) i=nth m i:=by
 unfold nth
 rw [qZ,qZ,List.getElem?_set_ne h]
theorem take_set{m:List Int}{w:Nat}{x:Int}(h:w < m.length):(m.set w x).take (w+1)=m.take w++[x]:=by
 rw [List.take_add_one,List.getElem?_set_self h,List.take_set_of_le (dr _)]
 rfl
theorem aiO{p:Int→Bool}{x:Int}:∀ {l:List Int},x∈l.takeWhile p→p x=true
 | [],h=>by cases h
 | a::l,h=>by
  by_cases ha:p a=true
  ·rw [List.takeWhile_cons_of_pos ha] at h
   rcases fy.1 h with rfl | h
   ·exact ha
   ·exact aiO h
  ·rw [List.takeWhile_cons_of_neg ha] at h
   cases h
def ER(acc:List Int)(x:Int):List Int:=if x∈acc then acc else acc.takeWhile (λ y=>decide (y < x))++x::acc.dropWhile (λ y=>decide (y < x))
def I2(l:List Int):List Int:=l.foldl ER []
theorem aGH{acc:List Int}(h:acc.Pairwise (· < ·))(x:Int):(ER acc x).Pairwise (· < ·)∧∀ y,y∈ER acc x↔y∈acc∨y=x:=by
 unfold ER
 split
 ·rename_i hx
  refine ⟨h,λ y=>?_⟩
  constructor
  ·exact .inl
  ·rintro (h | rfl)
   ·exact h
   ·exact hx
 ·rename_i hx
  have e:acc=acc.takeWhile (λ y=>decide (y < x))++acc.dropWhile (λ y=>decide (y < x)):=(List.takeWhile_append_dropWhile).symm
  have h1:∀ y∈acc.takeWhile (λ y=>decide (y < x)),y < x:=λ y hy=>by simpa using aiO hy
  have h2:∀ y∈acc.dropWhile (λ y=>decide (y < x)),x < y:=by
   intro y hy
   have hp:(acc.dropWhile (λ y=>decide (y < x))).Pairwise (· < ·):=List.Pairwise.sublist (List.dropWhile_sublist _) h
   cases hd:acc.dropWhile (λ y=>decide (y < x)) with
   | nil=>rw [hd] at hy; cases hy
   | cons a r =>
    have ha:¬ a < x:=by
     have:=List.head_dropWhile_not (λ y=>decide (y < x)) (l:=acc) (by rw [hd]; simp)
     simp only [hd,List.head_cons] at this
     simpa using this
    have hax:a≠x:=λ hax=>hx (by rw [← hax]; exact (List.dropWhile_sublist _).subset (by rw [hd]; simp))
    rw [hd] at hy hp
    rw [List.pairwise_cons] at hp
    rcases fy.1 hy with rfl | hy
    ·omega
    ·have:=hp.1 y hy; omega
  constructor
  ·rw [List.pairwise_append,List.pairwise_cons]
   refine ⟨List.Pairwise.sublist (List.takeWhile_sublist _) h,⟨h2,List.Pairwise.sublist (List.dropWhile_sublist _) h⟩,λ y hy z hz=>?_⟩
   have:=h1 y hy
   rcases fy.1 hz with rfl | hz
   ·exact this
   ·have:=h2 z hz; omega
  ·intro y
   rw [List.mem_append,fy]
   conv=>rhs; rw [e,List.mem_append]
   constructor
   ·rintro (h | h | h) <;> simp [h]
   ·rintro ((h | h) | h) <;> simp [h]
theorem abP:∀ (l acc:List Int),acc.Pairwise (· < ·)→(l.foldl ER acc).Pairwise (· < ·)∧∀ y,y∈l.foldl ER acc↔y∈acc∨y∈l
 | [],acc,h=>⟨h,λ y=>by simp⟩
 | x::l,acc,h=>by
  obtain ⟨h1,h2⟩:=aGH h x
  obtain ⟨h3,h4⟩:=abP l (ER acc x) h1
  refine ⟨h3,λ y=>?_⟩
  rw [List.foldl_cons,h4,h2,fy]
  constructor
  ·rintro ((h | h) | h) <;> simp [h]
  ·rintro (h | h | h) <;> simp [h]
theorem aj7(l:List Int):(I2 l).Pairwise (· < ·):=(abP l [] (by simp)).1
theorem aiN(l:List Int)(y:Int):y∈I2 l↔y∈l:=by
 have:=(abP l [] (by simp)).2 y
 simpa [I2] using this
theorem aKG{α:Type}[Inhabited α]{m:List α}{w:Nat}{x:α}(h:w < m.length):nth (m.set w x) w=x:=by
 unfold nth
 rw [qZ,List.getElem?_set_self h]
 rfl
theorem aiY{α:Type}[Inhabited α]{m:List α}{w i:Nat}{x:α}(h:w≠i):nth (m.set w x) i=nth m i:=by
 unfold nth
 rw [qZ,qZ,List.getElem?_set_ne h]
section
variable {α:Type}
def lvl(ext:Nat→List α→List α):Nat→List (List α)
 | 0=>[[]]
 | i+1=>(lvl ext i).flatMap λ p=>(ext i p).map λ x=>p++[x]
def tree(ext:Nat→List α→List α):Nat→Nat→List α→List (List α)
 | 0,_,p=>[p]
 | j+1,i,p=>(ext i p).flatMap λ x=>tree ext j (i+1) (p++[x])
theorem ahZ(ext:Nat→List α→List α):∀ j i,(lvl ext i).flatMap (tree ext j i)=lvl ext (i+j)
 | 0,i=>by simp [tree]
 | j+1,i=>by
  rw [show i+(j+1)=(i+1)+j by omega,← ahZ ext j (i+1)]
  simp only [lvl,tree,List.flatMap_assoc,List.flatMap_map]
theorem ab0(ext:Nat→List α→List α)(n:Nat):tree ext n 0 []=lvl ext n:=by
 have:=ahZ ext n 0
 rw [Nat.zero_add] at this
 rw [← this]
 simp [lvl]
theorem zW[Inhabited α]{p q:List α}{i:Nat}(h:i < p.length):nth (p++q) i=nth p i:=by
 unfold nth
 rw [qZ,qZ,uU h]
theorem zV[Inhabited α]{p:List α}{x:α}:nth (p++[x]) p.length=x:=by
 unfold nth
 rw [qZ,p9 (dr _),Nat.sub_self]
 rfl
theorem aMX[Inhabited α]{r:List α}{n:Nat}(h:r.length=n+1):r=r.take n++[nth r n]:=by
 have h1:n < r.length:=by omega
 have h2:=List.take_succ_eq_append_getElem h1
 rw [List.take_of_length_le (by omega)] at h2
 have h3:=bZ h1
 rw [mN h1] at h3
 rw [← kz h3]
 exact h2
theorem MY[Inhabited α]{ext:Nat→List α→List α}:∀ {n:Nat} {r:List α},r∈lvl ext n↔r.length=n∧∀ i,i < n→nth r i∈ext i (r.take i)
 | 0,r=>by
  simp only [lvl,List.mem_singleton]
  constructor
  ·rintro rfl; exact ⟨rfl,λ i hi=>by omega⟩
  ·rintro ⟨h,_⟩; exact List.length_eq_zero_iff.1 h
 | n+1,r=>by
  simp only [lvl,List.mem_flatMap,List.mem_map]
  constructor
  ·rintro ⟨p,hp,x,hx,rfl⟩
   obtain ⟨h1,h2⟩:=MY.1 hp
   refine ⟨by simp [h1],λ i hi=>?_⟩
   by_cases qy:i < n
   ·rw [zW (by omega),List.take_append_of_le_length (by omega)]
    exact h2 i qy
   ·obtain rfl:i=p.length:=by omega
    rw [zV,List.take_append_of_le_length (dr _),List.take_length,h1]
    exact hx
  ·rintro ⟨h1,h2⟩
   refine ⟨r.take n,MY.2 ⟨by simp; omega,λ i hi=>?_⟩,nth r n,h2 n (by omega),(aMX h1).symm⟩
   rw [CC hi,List.take_take,Nat.min_eq_left (by omega)]
   exact h2 i (by omega)
def HZ[Inhabited α](lt:α→α→Prop)(p q:List α):Prop:=∃ k,k < p.length∧k < q.length∧p.take k=q.take k∧lt (nth p k) (nth q k)
theorem ahN[Inhabited α]{lt:α→α→Prop}(h:∀ x,¬ lt x x)(p:List α):¬ HZ lt p p:=λ ⟨_,_,_,_,hk⟩=>h _ hk
theorem aHS[Inhabited α]{lt:α→α→Prop}{p q:List α}(x y:α)(h:HZ lt p q):HZ lt (p++[x]) (q++[y]):=by
 obtain ⟨k,k1,k2,k3,k4⟩:=h
 refine ⟨k,by simp; omega,by simp; omega,?_,?_⟩
 ·rw [List.take_append_of_le_length (by omega),List.take_append_of_le_length (by omega),k3]
 ·rw [zW k1,zW k2]; exact k4
theorem aaE[Inhabited α]{lt:α→α→Prop}{ext:Nat→List α→List α}(h:∀ i p,(ext i p).Pairwise lt):∀ n,(lvl ext n).Pairwise (HZ lt)
 | 0=>by simp [lvl]
 | n+1=>by
  simp only [lvl]
  rw [List.pairwise_flatMap]
  refine ⟨λ p hp=>?_,(aaE h n).imp λ {p q} XJ x hx y hy=>?_⟩
  ·rw [List.pairwise_map]
   refine (h n p).imp λ {x y} zA=>⟨p.length,by simp,by simp,?_,?_⟩
   ·rw [List.take_append_of_le_length (dr _),List.take_append_of_le_length (dr _)]
   ·rw [zV,zV]; exact zA
  ·obtain ⟨a,_,rfl⟩:=List.mem_map.1 hx
   obtain ⟨b,_,rfl⟩:=List.mem_map.1 hy
   exact aHS a b XJ
theorem aiW{β:Type}{lt:β→β→Prop}(hi:∀ x,¬ lt x x){l:List β}(h:l.Pairwise lt):l.Nodup:=h.imp λ {x y} zA e=>by subst e; exact hi x zA
end
theorem aaw{α β:Type}{l:List α}{m:List β}(f:α→β)(hn:l.Nodup)(hi:∀ x∈l,∀ y∈l,f x=f y→x=y)(hm:∀ x∈l,f x∈m):l.length≤m.length:=by
 classical
 induction l generalizing m with
 | nil=>simp
 | cons a l ih =>
  rw [List.nodup_cons] at hn
  obtain ⟨s,t,rfl⟩:=List.append_of_mem (hm a (by simp))
  have:=ih (m:=s++t) hn.2 (λ x hx y hy=>hi x (by simp [hx]) y (by simp [hy])) (λ x hx=>by
   have h1:=hm x (by simp [hx])
   have h2:f x≠f a:=λ e=>hn.1 (hi x (by simp [hx]) a (by simp) e ▸ hx)
   simp only [List.mem_append,fy] at h1 ⊢
   rcases h1 with h1 | h1 | h1
   ·exact .inl h1
   ·exact absurd h1 h2
   ·exact .inr h1)
  simp only [ns,List.length_cons] at this ⊢
  omega
def ou(n:Nat):List Int:=(List.range n).map λ (i:Nat)=>(i:Int)
theorem aiP{n:Nat}{x:Int}:x∈ou n↔0≤x∧x < (n:Int):=by
 simp only [ou,List.mem_map,List.mem_range]
 constructor
 ·rintro ⟨i,hi,rfl⟩; omega
 ·intro h; exact ⟨x.toNat,by omega,by omega⟩
theorem aNA(n:Nat):(ou n).Pairwise (· < ·):=by
 unfold ou
 rw [List.pairwise_map]
 exact List.pairwise_lt_range.imp λ h=>by omega
theorem aNB(n:Nat):ou (n+1)=ou n++[(n:Int)]:=by simp [ou,List.range_succ]
def Hb(n:Nat)(ok:Nat→Bool)(p:List Int):List Int:=(ou n).filter λ k=>ok k.toNat && p.all λ x=>decide (x < k)
def Bj(n iA:Nat)(ok:Nat→Bool):List (List Int):=lvl (λ _ p=>Hb n ok p) iA
theorem aa4{n:Nat}{ok:Nat→Bool}{p:List Int}{k:Int}:k∈Hb n ok p↔(0≤k∧k < (n:Int))∧ok k.toNat=true∧∀ x∈p,x < k:=by
 simp only [Hb,List.mem_filter,aiP,fF,List.all_eq_true,decide_eq_true_eq]
theorem aKu{l:List Int}{i:Nat}{x:Int}(h:x∈l.take i):∃ j,j < i∧j < l.length∧nth l j=x:=by
 obtain ⟨j,hj,rfl⟩:=uB h
 rw [nS] at hj
 exact ⟨j,by omega,by omega,(CC (by omega)).symm⟩
theorem Cy{n iA:Nat}{ok:Nat→Bool}{c:List Int}:c∈Bj n iA ok↔c.length=iA∧c.Pairwise (· < ·)∧∀ k∈c,0≤k∧k < (n:Int)∧ok k.toNat=true:=by
 unfold Bj
 rw [MY]
 constructor
 ·rintro ⟨h1,h2⟩
  refine ⟨h1,?_,λ k hk=>?_⟩
  ·rw [List.pairwise_iff_getElem]
   intro i j hi hj gg
   have:=(aa4.1 (h2 j (by omega))).2.2 (nth c i) (by rw [← CC (l:=c) gg]; exact nJ (by simp; omega))
   have e1:=bZ hi
   have e2:=bZ hj
   rw [mN hi] at e1
   rw [mN hj] at e2
   rw [kz e1,kz e2]
   exact this
  ·obtain ⟨i,hi,rfl⟩:=uB hk
   obtain ⟨⟨g1,g2⟩,g3,_⟩:=aa4.1 (h2 i (by omega))
   exact ⟨g1,g2,g3⟩
 ·rintro ⟨h1,h2,h3⟩
  refine ⟨h1,λ i hi=>?_⟩
  obtain ⟨g1,g2,g3⟩:=h3 (nth c i) (nJ (by omega))
  refine aa4.2 ⟨⟨g1,g2⟩,g3,λ x hx=>?_⟩
  obtain ⟨j,gE,hj,rfl⟩:=aKu hx
  rw [List.pairwise_iff_getElem] at h2
  have:=h2 j i hj (by omega) gE
  have e1:=bZ hj
  have e2:=bZ (l:=c) (i:=i) (by omega)
  rw [mN hj] at e1
  rw [mN (by omega)] at e2
  rw [kz e1,kz e2] at this
  exact this
theorem aGG(x:Int):¬ x < x:=by omega
abbrev Ss:List Int→List Int→Prop:=HZ (· < ·)
theorem aeJ(n iA:Nat)(ok:Nat→Bool):(Bj n iA ok).Pairwise Ss:=aaE (λ _ _=>(aNA n).filter _) iA
structure RB where
 n:Nat
 D:Nat
 iA:Nat→Nat
 ok:Nat→Nat→Bool
 ap:Nat→Nat→Bool
 out:Nat→Bool
def meet(c d:List Int):Bool:=c.any λ k=>d.contains k
theorem aKs{c d:List Int}:meet c d=true↔∃ k,k∈c∧k∈d:=by
 simp only [meet,List.any_eq_true,List.contains_iff_mem]
theorem aKt{c d:List Int}:meet c d=false↔∀ k,k∈c→k ∉ d:=by
 rw [← Bool.not_eq_true,aKs]
 exact ⟨λ h k h1 h2=>h ⟨k,h1,h2⟩,λ h ⟨k,h1,h2⟩=>h k h1 h2⟩
def CK(A:RB)(p:List (List Int))(i:Nat)(c:List Int):Bool:=(List.range p.length).all λ j=>A.ap j i || !meet c (nth p j)
def tf(A:RB)(i:Nat)(p:List (List Int)):List (List Int):=if A.out i=true then [[]] else (Bj A.n (A.iA i) (A.ok i)).filter (CK A p i)
def pS(A:RB):List (List (List Int)):=lvl (tf A) A.D
structure jg (A:RB) (r:List (List Int)):Prop where
 len:r.length=A.D
 out:∀ i,i < A.D→A.out i=true→nth r i=[]
 DK:∀ i,i < A.D→A.out i=false→nth r i∈Bj A.n (A.iA i) (A.ok i)
 rest:∀ i j,i < A.D→j < i→A.ap j i=true∨meet (nth r i) (nth r j)=false
theorem ajD{A:RB}{p:List (List Int)}{i:Nat}{c:List Int}:CK A p i c=true↔∀ j,j < p.length→A.ap j i=true∨meet c (nth p j)=false:=by
 simp only [CK,List.all_eq_true,List.mem_range,Bool.or_eq_true,Bool.not_eq_true']
theorem RI{A:RB}{r:List (List Int)}:r∈pS A↔jg A r:=by
 unfold pS
 rw [MY]
 constructor
 ·rintro ⟨h1,h2⟩
  refine ⟨h1,λ i hi ho=>?_,λ i hi ho=>?_,λ i j hi hj=>?_⟩
  ·have:=h2 i hi
   unfold tf at this
   rw [if_pos ho] at this
   simpa using this
  ·have:=h2 i hi
   unfold tf at this
   rw [if_neg (by simp [ho])] at this
   exact (List.mem_filter.1 this).1
  ·have:=h2 i hi
   unfold tf at this
   by_cases ho:A.out i=true
   ·rw [if_pos ho] at this
    right
    have e:nth r i=[]:=by simpa using this
    rw [e]; rfl
   ·rw [if_neg ho] at this
    have h3:=ajD.1 (List.mem_filter.1 this).2 j (by simp; omega)
    rwa [CC hj] at h3
 ·intro h
  refine ⟨h.len,λ i hi=>?_⟩
  unfold tf
  by_cases ho:A.out i=true
  ·rw [if_pos ho,h.out i hi ho]; simp
  ·rw [if_neg ho]
   refine List.mem_filter.2 ⟨h.DK i hi (by simpa using ho),ajD.2 λ j hj=>?_⟩
   rw [nS] at hj
   rw [CC (by omega)]
   exact h.rest i j hi (by omega)
theorem aMy(A:RB)(i:Nat)(p:List (List Int)):(tf A i p).Pairwise Ss:=by
 unfold tf
 split
 ·simp
 ·exact (aeJ _ _ _).filter _
theorem ajQ(c:List Int):¬ Ss c c:=ahN aGG c
abbrev ajO:List (List Int)→List (List Int)→Prop:=HZ Ss
theorem aMt(r:List (List Int)):¬ ajO r r:=ahN ajQ r
theorem aMw(A:RB):(pS A).Pairwise ajO:=aaE (aMy A) A.D
theorem aMv(A:RB):(pS A).Nodup:=aiW aMt (aMw A)
structure adj (A C:RB):Prop where
 n:A.n≤C.n
 D:A.D=C.D
 iA:∀ i,i < A.D→A.iA i=C.iA i
 ok:∀ i k,i < A.D→k < A.n→A.ok i k=true→C.ok i k=true
 ap:∀ i j,i < A.D→j < i→A.ap j i=true→C.ap j i=true
 out:∀ i,i < A.D→A.out i=true→C.out i=true
 aKR:∀ i,i < A.D→C.out i=true→A.out i=true
theorem jg.le{A C:RB}(h:adj A C){r:List (List Int)}(hr:jg A r):jg C r:=by
 have hD:=h.D
 refine ⟨hr.len.trans hD,λ i hi ho=>hr.out i (by omega) (h.aKR i (by omega) ho),λ i hi ho=>?_,λ i j hi hj=>?_⟩
 ·have fj:A.out i=false:=by
   cases e:A.out i with
   | false=>rfl
   | true=>rw [h.out i (by omega) e] at ho; cases ho
  obtain ⟨h1,h2,h3⟩:=Cy.1 (hr.DK i (by omega) fj)
  have hn:=h.n
  refine Cy.2 ⟨by rw [h1,h.iA i (by omega)],h2,λ k hk=>?_⟩
  obtain ⟨g1,g2,g3⟩:=h3 k hk
  exact ⟨g1,by omega,h.ok i k.toNat (by omega) (by omega) g3⟩
 ·rcases hr.rest i j (by omega) hj with h1 | h1
  ·exact .inl (h.ap i j (by omega) hj h1)
  ·exact .inr h1
theorem aiL{n a:Nat}{k:Int}:k∈cX n a↔(0≤k∧k < (n:Int))∧a.testBit k.toNat=true:=by
 simp only [cX,List.mem_map,List.mem_filter,List.mem_range]
 constructor
 ·rintro ⟨i,⟨h1,h2⟩,rfl⟩; exact ⟨by omega,by simpa using h2⟩
 ·rintro ⟨h1,h2⟩; exact ⟨k.toNat,⟨by omega,h2⟩,by omega⟩
theorem aKl(n a:Nat):(cX n a).Pairwise (· < ·):=by
 unfold cX
 rw [List.pairwise_map]
 exact (List.pairwise_lt_range.filter _).imp λ h=>by omega
theorem aiJ(p:Nat→Bool):∀ n,∃ a,a < 2 ^ n∧∀ i,i < n→a.testBit i=p i
 | 0=>⟨0,by simp,λ i hi=>by omega⟩
 | n+1=>by
  obtain ⟨a,ha,h⟩:=aiJ p n
  cases hp:p n with
  | false =>
   refine ⟨a,by rw [Nat.pow_succ]; omega,λ i hi=>?_⟩
   by_cases e:i=n
   ·subst e; rw [hp]; exact Nat.testBit_lt_two_pow ha
   ·exact h i (by omega)
  | true =>
   refine ⟨2 ^ n+a,by rw [Nat.pow_succ]; omega,λ i hi=>?_⟩
   by_cases e:i=n
   ·subst e
    rw [hp,Nat.testBit_two_pow_add_eq,Nat.testBit_lt_two_pow ha]; rfl
   ·rw [Nat.testBit_two_pow_add_gt (by omega)]
    exact h i (by omega)
theorem aKq{n:Nat}{l:List Int}(h:l.Pairwise (· < ·))(hb:∀ k∈l,0≤k∧k < (n:Int)):∃ a,a < 2 ^ n∧l=cX n a:=by
 obtain ⟨a,ha,h1⟩:=aiJ (λ i=>l.contains (i:Int)) n
 refine ⟨a,ha,Oy _ _ h (aKl n a) λ k=>?_⟩
 rw [aiL]
 constructor
 ·intro hk
  have h2:=hb k hk
  refine ⟨h2,?_⟩
  rw [h1 _ (by omega),List.contains_iff_mem,Int.toNat_of_nonneg h2.1]
  exact hk
 ·rintro ⟨h2,h3⟩
  rw [h1 _ (by omega),List.contains_iff_mem,Int.toNat_of_nonneg h2.1] at h3
  exact h3
theorem ahM:∀ {a c d:List Int},rH a c=true→rH c d=true→rH a d=true
 | [],_,[],h1,h2=>by cases ‹List Int› <;> simp [rH] at h1 h2
 | [],_,_::_,_,_=>rfl
 | x::a,[],_,h1,_=>by simp [rH] at h1
 | x::a,y::c,[],_,h2=>by simp [rH] at h2
 | x::a,y::c,z::d,h1,h2=>by
  simp only [rH,Bool.or_eq_true,fF,decide_eq_true_eq,beq_iff_eq] at h1 h2 ⊢
  rcases h1 with h1 | ⟨h1,g1⟩ <;> rcases h2 with h2 | ⟨h2,g2⟩
  ·left; omega
  ·left; omega
  ·left; omega
  ·right; exact ⟨by omega,ahM g1 g2⟩
theorem ahL:∀ a:List Int,rH a a=false
 | []=>rfl
 | x::a=>by simp [rH,ahL a]
theorem af9(a:List Int):pz a a=false:=by simp [pz,ahL]
theorem ar8{a c d:List Int}(h1:pz a c=true)(h2:pz c d=true):pz a d=true:=by
 simp only [pz,Bool.or_eq_true,fF,decide_eq_true_eq,beq_iff_eq] at h1 h2 ⊢
 rcases h1 with h1 | ⟨h1,g1⟩ <;> rcases h2 with h2 | ⟨h2,g2⟩
 ·left; omega
 ·left; omega
 ·left; omega
 ·right; exact ⟨by omega,ahM g1 g2⟩
structure c6 (n:Nat) (P:Nat→Bool) (l:List Int):Prop where
 ex:∃ a,a < 2 ^ n∧P a=true∧l=cX n a
 min:∀ c,c < 2 ^ n→P c=true→pz (cX n c) l=false
theorem c6.len{n:Nat}{P:Nat→Bool}{l:List Int}(h:c6 n P l){c:Nat}(hc:c < 2 ^ n)(hP:P c=true):l.length≤(cX n c).length:=by
 have:=h.min c hc hP
 simp only [pz,Bool.or_eq_false_iff,decide_eq_false_iff_not] at this
 omega
def I3(n:Nat)(P:Nat→Bool)(s:List Int × Bool)(a:Nat):List Int × Bool:=if ((!s.2 || pz (cX n a) s.1) && P a)=true then (cX n a,true) else s
def fE(n:Nat)(P:Nat→Bool):Nat→List Int × Bool
 | 0=>([],false)
 | k+1=>I3 n P (fE n P k) k
theorem Sx(n:Nat)(P:Nat→Bool):∀ k,((fE n P k).2=false∧(fE n P k).1=[]∧∀ a,a < k→P a=false) ∨
  ((fE n P k).2=true∧(∃ a,a < k∧P a=true∧(fE n P k).1=cX n a)∧∀ c,c < k→P c=true→pz (cX n c) (fE n P k).1=false)
 | 0=>.inl ⟨rfl,rfl,λ a ha=>by omega⟩
 | k+1=>by
  rcases Sx n P k with ⟨h1,h2,h3⟩ | ⟨h1,⟨a,ha,hP,h2⟩,h3⟩
  ·cases hk:P k with
   | false =>
    have e:fE n P (k+1)=fE n P k:=by simp [fE,I3,hk]
    rw [e]
    exact .inl ⟨h1,h2,λ a ha=>by
     by_cases x:a=k
     ·subst x; exact hk
     ·exact h3 a (by omega)⟩
   | true =>
    have e:fE n P (k+1)=(cX n k,true):=by simp [fE,I3,hk,h1]
    rw [e]
    refine .inr ⟨rfl,⟨k,by omega,hk,rfl⟩,λ c hc DX=>?_⟩
    by_cases x:c=k
    ·subst x; exact af9 _
    ·rw [h3 c (by omega)] at DX; cases DX
  ·cases hf:(pz (cX n k) (fE n P k).1 && P k) with
   | false =>
    have e:fE n P (k+1)=fE n P k:=by simp [fE,I3,h1,hf]
    rw [e]
    refine .inr ⟨h1,⟨a,by omega,hP,h2⟩,λ c hc DX=>?_⟩
    by_cases x:c=k
    ·subst x; simpa [DX] using hf
    ·exact h3 c (by omega) DX
   | true =>
    have e:fE n P (k+1)=(cX n k,true):=by simp [fE,I3,h1,hf]
    rw [e]
    rw [fF] at hf
    refine .inr ⟨rfl,⟨k,by omega,hf.2,rfl⟩,λ c hc DX=>?_⟩
    by_cases x:c=k
    ·subst x; exact af9 _
    ·cases hx:pz (cX n c) (cX n k) with
     | false=>rfl
     | true =>
      have:=h3 c (by omega) DX
      rw [ar8 hx hf.1] at this
      cases this
theorem aMW{n:Nat}{P:Nat→Bool}(h:∀ a,a < 2 ^ n→P a=false):fE n P (2 ^ n)=([],false):=by
 rcases Sx n P (2 ^ n) with ⟨h1,h2,_⟩ | ⟨_,⟨a,ha,hP,_⟩,_⟩
 ·exact Prod.ext h2 h1
 ·rw [h a ha] at hP; cases hP
theorem aj1{n:Nat}{P:Nat→Bool}{a:Nat}(ha:a < 2 ^ n)(h:P a=true):(fE n P (2 ^ n)).2=true∧c6 n P (fE n P (2 ^ n)).1:=by
 rcases Sx n P (2 ^ n) with ⟨_,_,h3⟩ | ⟨h1,h2,h3⟩
 ·rw [h3 a ha] at h; cases h
 ·exact ⟨h1,⟨h2,h3⟩⟩
def RB.only(A:RB)(S:List Int):RB:={ A with ok:=λ i k=>A.ok i k && S.contains (k:Int) }
def Tf(S:List Int)(r:List (List Int)):Bool:=r.all λ c=>c.all λ k=>S.contains k
theorem aKQ{A:RB}{S:List Int}{r:List (List Int)}:jg (A.only S) r↔jg A r∧Tf S r=true:=by
 constructor
 ·intro h
  have hc:∀ i,i < A.D→A.out i=false→nth r i∈Bj A.n (A.iA i) (A.ok i)∧∀ k∈nth r i,k∈S:=λ i hi ho=>by
   obtain ⟨h1,h2,h3⟩:=Cy.1 (h.DK i hi ho)
   refine ⟨Cy.2 ⟨h1,h2,λ k hk=>?_⟩,λ k hk=>?_⟩
   ·obtain ⟨g1,g2,g3⟩:=h3 k hk
    simp only [RB.only,fF] at g3
    exact ⟨g1,g2,g3.1⟩
   ·obtain ⟨g1,g2,g3⟩:=h3 k hk
    simp only [RB.only,fF,List.contains_iff_mem,Int.toNat_of_nonneg g1] at g3
    exact g3.2
  refine ⟨⟨h.len,h.out,λ i hi ho=>(hc i hi ho).1,h.rest⟩,?_⟩
  simp only [Tf,List.all_eq_true,List.contains_iff_mem]
  intro c BH k hk
  obtain ⟨i,hi,rfl⟩:=uB BH
  have hl:r.length=A.D:=h.len
  cases ho:A.out i with
  | true=>rw [h.out i (show i < A.D by omega) ho] at hk; cases hk
  | false=>exact (hc i (by omega) ho).2 k hk
 ·rintro ⟨h,hw⟩
  simp only [Tf,List.all_eq_true,List.contains_iff_mem] at hw
  refine ⟨h.len,h.out,λ i hi ho=>?_,h.rest⟩
  obtain ⟨h1,h2,h3⟩:=Cy.1 (h.DK i hi ho)
  refine Cy.2 ⟨h1,h2,λ k hk=>?_⟩
  obtain ⟨g1,g2,g3⟩:=h3 k hk
  refine ⟨g1,g2,?_⟩
  simp only [RB.only,fF,List.contains_iff_mem,Int.toNat_of_nonneg g1]
  exact ⟨g3,hw _ (nJ (by have:=h.len; show i < r.length; rw [this]; exact hi)) k hk⟩
def iD(t:Nat→Int)(r:List (List Int))(k:Int):Nat→Int
 | 0=>0
 | i+1=>iD t r k i+if k∈nth r i then t i else 0
def wQ(t:Nat→Int)(r:List (List Int))(D:Nat):Nat→Int
 | 0=>0
 | k+1=>max (wQ t r D k) (iD t r (k:Int) D)
theorem Tg{t:Nat→Int}{r:List (List Int)}{D:Nat}{m:Int}:∀ {n:Nat},wQ t r D n≤m↔0≤m∧∀ k:Nat,k < n→iD t r (k:Int) D≤m
 | 0=>by simp [wQ]
 | n+1=>by
  simp only [wQ]
  rw [show (max (wQ t r D n) (iD t r (n:Int) D)≤m)↔(wQ t r D n≤m∧iD t r (n:Int) D≤m) by omega,Tg (n:=n)]
  constructor
  ·rintro ⟨⟨h1,h2⟩,h3⟩
   refine ⟨h1,λ k hk=>?_⟩
   by_cases e:k=n
   ·subst e; exact h3
   ·exact h2 k (by omega)
  ·rintro ⟨h1,h2⟩
   exact ⟨⟨h1,λ k hk=>h2 k (by omega)⟩,h2 n (by omega)⟩
theorem aOw{t t':Nat→Int}{r r':List (List Int)}{D D' n n':Nat}(h:∀ m,wQ t r D n≤m↔wQ t' r' D' n'≤m):wQ t r D n=wQ t' r' D' n':=by
 have h1:=(h _).1 (Int.le_refl _)
 have h2:=(h _).2 (Int.le_refl _)
 omega
theorem akl{t t':Nat→Int}{r r':List (List Int)}{k k':Int}:∀ {D:Nat},(∀ i,i < D→t i=t' i∧(k∈nth r i↔k'∈nth r' i))→iD t r k D=iD t' r' k' D
 | 0,_=>rfl
 | D+1,h=>by
  simp only [iD]
  rw [akl (D:=D) λ i hi=>h i (by omega),(h D (by omega)).1]
  congr 1
  by_cases hk:k∈nth r D
  ·rw [if_pos hk,if_pos ((h D (by omega)).2.1 hk)]
  ·rw [if_neg hk,if_neg λ e=>hk ((h D (by omega)).2.2 e)]
theorem abY{t:Nat→Int}{r:List (List Int)}{k:Int}:∀ {D:Nat},(∀ i,i < D→k ∉ nth r i)→iD t r k D=0
 | 0,_=>rfl
 | D+1,h=>by simp only [iD,abY (D:=D) λ i hi=>h i (by omega),if_neg (h D (by omega))]; rfl
def kZ{α:Type}(w:α→Int):α→List α→α
 | x,[]=>x
 | x,y::l=>kZ w (if w y < w x then y else x) l
section
variable {α O:Type} [Inhabited α]
theorem apv{l:List α}{i:Nat}(h:i < l.length):l.drop i=nth l i::l.drop (i+1):=by
 rw [List.drop_eq_getElem_cons h]
 have h3:=bZ h
 rw [mN h] at h3
 rw [kz h3]
theorem ahU{l:List α}(p:α→Bool)(g:Nat→α→O){body:Int→Option (Int ⊕ (Unit ⊕ O))} (h:∀ i,i < l.length→body (i:Int)=some (if p (nth l i)=true then .inr (.inr (g i (nth l i))) else .inl ((i+1:Nat):Int)))
  (hn:body (l.length:Int)=some (.inr (.inl ()))) {o:Unit ⊕ O} (ho:(∀ i,i < l.length→p (nth l i)=true→(∀ j,j < i→p (nth l j)=false)→o = .inr (g i (nth l i)))∧((∀ x∈l,p x=false)→o = .inl ())):bH body 0=some o:=by
 have key:∀ k i,i+k=l.length→(∀ j,j < i→p (nth l j)=false)→bH body (i:Int)=some o:=by
  intro k
  induction k with
  | zero =>
   intro i hi hb
   obtain rfl:i=l.length:=by omega
   rw [ho.2 λ x hx=>by obtain ⟨j,hj,rfl⟩:=uB hx; exact hb j hj]
   exact om hn
  | succ k ih =>
   intro i hi hb
   have PO:=h i (by omega)
   cases hp:p (nth l i) with
   | true =>
    rw [hp,if_pos rfl] at PO
    rw [ho.1 i (by omega) hp hb]
    exact om PO
   | false =>
    rw [hp,if_neg (by simp)] at PO
    rw [zE PO]
    exact ih (i+1) (by omega) λ j hj=>by
     by_cases e:j=i
     ·subst e; exact hp
     ·exact hb j (by omega)
 exact key l.length 0 (by omega) λ j hj=>by omega
theorem aHY{l:List α}(p:α→Bool)(g:α→O){body:Int→Option (Int ⊕ (Unit ⊕ O))} (h:∀ i,i < l.length→body (i:Int)=some (if p (nth l i)=true then .inr (.inr (g (nth l i))) else .inl ((i+1:Nat):Int)))
  (hn:body (l.length:Int)=some (.inr (.inl ()))):bH body 0=some (match l.find? p with | some x=>.inr (g x) | none=>.inl ()):=by
 refine ahU p (λ _ x=>g x) h hn ⟨λ i hi hp hb=>?_,λ hb=>?_⟩
 ·have:l.find? p=some (nth l i):=by
   rw [List.find?_eq_some_iff_append]
   refine ⟨hp,l.take i,l.drop (i+1),?_,λ x hx=>?_⟩
   ·rw [← apv hi,List.take_append_drop]
   ·obtain ⟨j,hj,rfl⟩:=uB hx
    have:j < i:=by simp at hj; omega
    rw [CC this,hb j this]; rfl
  rw [this]
 ·have:l.find? p=none:=by
   rw [List.find?_eq_none]
   intro x hx
   rw [hb x hx]; simp
  rw [this]
theorem ahS{l:List α}(p:α→Bool)(c:O){body:Int→Option (Int ⊕ (Unit ⊕ O))}(h:∀ i,i < l.length→body (i:Int)=some (if p (nth l i)=true then .inl ((i+1:Nat):Int) else .inr (.inr c)))
  (hn:body (l.length:Int)=some (.inr (.inl ()))):bH body 0=some (if l.all p=true then .inl () else .inr c):=by
 refine ahU (λ x=>!p x) (λ _ _=>c) (λ i hi=>?_) hn ⟨λ i hi hp hb=>?_,λ hb=>?_⟩
 ·rw [h i hi]
  cases p (nth l i) <;> rfl
 ·rw [if_neg]
  intro ha
  rw [List.all_eq_true] at ha
  rw [ha _ (nJ hi)] at hp
  cases hp
 ·rw [if_pos]
  rw [List.all_eq_true]
  intro x hx
  have:=hb x hx
  simpa using this
theorem aaC{n:Nat}(p:Nat→Bool)(c:O){body:Int→Option (Int ⊕ (Unit ⊕ O))}(h:∀ i,i < n→body (i:Int)=some (if p i=true then .inl ((i+1:Nat):Int) else .inr (.inr c)))
  (hn:body (n:Int)=some (.inr (.inl ()))):bH body 0=some (if (List.range n).all p=true then .inl () else .inr c):=by
 have e:∀ i,i < n→nth (List.range n) i=i:=λ i hi=>by
  have:=bZ (l:=List.range n) (i:=i) (by simpa using hi)
  rw [List.getElem?_range hi] at this
  exact (kz this).symm
 refine ahS (l:=List.range n) p c (λ i hi=>?_) (by rw [List.length_range]; exact hn)
 rw [List.length_range] at hi
 rw [h i hi,e i hi]
theorem aHW{l:List α}(p:α→Bool){body:Int × Int→Option ((Int × Int) ⊕ Int)} (h:∀ i n:Nat,i < l.length→n≤i→body ((n:Int),(i:Int))=some (.inl (if p (nth l i)=true then ((n+1:Nat):Int) else (n:Int),((i+1:Nat):Int))))
  (hn:∀ n:Int,body (n,(l.length:Int))=some (.inr n)):bH body (0,0)=some ((l.filter p).length:Int):=by
 refine (ya (λ i=>((((l.take i).filter p).length:Int),(i:Int))) l.length (λ i hi=>?_) (hn _):bH body ((0:Int),(0:Int))=_).trans ?_
 ·have hl:((l.take i).filter p).length≤i:=Nat.le_trans (List.length_filter_le _ _) (by rw [nS]; omega)
  rw [h i _ hi hl]
  have:l.take (i+1)=l.take i++[nth l i]:=by
   rw [List.take_add_one,bZ hi]; rfl
  rw [this,List.filter_append,ns]
  cases hp:p (nth l i) <;> simp [hp]
 ·rw [List.take_length]
end
end Go.Lg
