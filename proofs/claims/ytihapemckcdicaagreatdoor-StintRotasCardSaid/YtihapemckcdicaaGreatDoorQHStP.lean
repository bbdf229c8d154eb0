/- Plain lists. Conditions: none. -/
import Derived.Test.YtihapemckcdicaaGreatDoorQHLgC
namespace Go.Lg
open Go.Conc
set_option maxRecDepth 10000
theorem nm{S O:Type}{body:S→Option (S ⊕ O)}(st:Nat→S)(n:Nat){o:O}(h:∀ i,i < n→body (st i)=some (.inl (st (i+1))))(hn:body (st n)=some (.inr o)):bE body (st 0)=some o:=by
 have key:∀ k,k≤n→bE body (st (n - k))=some o:=by
  intro k
  induction k with
  | zero=>intro _; exact vx hn
  | succ k ih =>
   intro hk
   rw [DW (h (n - (k+1)) (by omega)),show n - (k+1)+1=n - k by omega]
   exact ih (by omega)
 have:=key n (eR _)
 rwa [Nat.sub_self] at this
def ff{O:Type}(e:Nat→Option O):Nat→Nat→Option O
 | _,0=>none
 | i,k+1=>match e i with | some o=>some o | none=>ff e (i+1) k
def ajb{S O:Type}(s:S):Option O→S ⊕ O
 | some o=>.inr o
 | none=>.inl s
theorem ahb{S O:Type}{body:S→Option (S ⊕ O)}(st:Nat→S)(e:Nat→Option O)(i0 n:Nat){o:O}(h:∀ i,i0≤i→i < n→body (st i)=some (ajb (st (i+1)) (e i)))(hn:body (st n)=some (.inr o))(h0:i0≤n):bE body (st i0)=some ((ff e i0 (n - i0)).getD o):=by
 have key:∀ k,k≤n - i0→bE body (st (n - k))=some ((ff e (n - k) k).getD o):=by
  intro k
  induction k with
  | zero=>intro _; exact vx hn
  | succ k ih =>
   intro hk
   have hb:=h (n - (k+1)) (by omega) (by omega)
   unfold ff
   cases he:e (n - (k+1)) with
   | some o' =>
    rw [he] at hb
    exact vx hb
   | none =>
    rw [he] at hb
    rw [DW hb,show n - (k+1)+1=n - k by omega]
    exact ih (by omega)
 have:=key (n - i0) (eR _)
 rwa [show n - (n - i0)=i0 by omega] at this
theorem aEf{S O:Type}{body:S→Option (S ⊕ O)}(st:Nat→S)(e:Nat→Option O)(n:Nat){o:O}(h:∀ i,i < n→body (st i)=some (ajb (st (i+1)) (e i)))(hn:body (st n)=some (.inr o)):bE body (st 0)=some ((ff e 0 n).getD o):=by
 simpa using ahb st e 0 n (λ i _ hi=>h i hi) hn (Nat.zero_le _)
theorem tf{O:Type}{e:Nat→Option O}:∀ {k i:Nat},ff e i k=none↔∀ j,i≤j→j < i+k→e j=none
 | 0,i=>by simp [ff]; omega
 | k+1,i=>by
  unfold ff
  cases he:e i with
  | some o=>simp; exact ⟨i,eR _,by omega,by rw [he]; simp⟩
  | none =>
   simp only
   rw [tf]
   constructor
   ·intro h j h1 h2
    by_cases hj:j=i
    ·subst hj; exact he
    ·exact h j (by omega) (by omega)
   ·intro h j h1 h2; exact h j (by omega) (by omega)
theorem yC{O:Type}{e:Nat→Option O}:∀ {k i:Nat} {o:O},ff e i k=some o→∃ j,i≤j∧j < i+k∧e j=some o∧∀ m,i≤m→m < j→e m=none
 | 0,i,o,h=>by cases h
 | k+1,i,o,h=>by
  unfold ff at h
  cases he:e i with
  | some o'=>rw [he] at h; cases h; exact ⟨i,eR _,by omega,he,λ m h1 h2=>by omega⟩
  | none =>
   rw [he] at h
   obtain ⟨j,h1,h2,h3,h4⟩:=yC h
   refine ⟨j,by omega,by omega,h3,λ m hm1 Kl=>?_⟩
   by_cases hm:m=i
   ·subst hm; exact he
   ·exact h4 m (by omega) Kl
@[simp] theorem bT {α:Type} {a b:Option α}:af true a b=a:=rfl
@[simp] theorem bu {α:Type} {a b:Option α}:af false a b=b:=rfl
@[simp] theorem dG {α:Type} (xs:List α) (k:Nat):idx xs (k:Int)=xs[k]? := by simp [idx]
theorem mE{z:Int}(h1 : -4611686018427387904≤z)(h2:z≤4611686018427387904):i64 z=z:=Qc (by omega)
theorem dr{i:Nat}(h:i≤1000000000):i64 ((i:Int)+1)=((i+1:Nat):Int):=by rw [mE (by omega) (by omega)]; omega
theorem ZZ{i:Nat}(h:i≤1000000000)(h0:0 < i):i64 ((i:Int) - 1)=((i - 1:Nat):Int):=by rw [mE (by omega) (by omega)]; omega
theorem aek{α:Type}{xs:List α}{k:Nat}(h:k≤xs.length):kF xs 0 (k:Int)=some (xs.take k):=by simp [kF,h]
theorem pU{α:Type}{xs ys:List α}(h:xs.length+ys.length≤16777216):eV xs ys=some (xs++ys):=by simp [eV,h]
def dg(n a c:Int):Bool:=decide (a≤n) && decide (n≤c)
def nth{α:Type}[Inhabited α](l:List α)(i:Nat):α:=l.getD i default
theorem cw{α:Type}[Inhabited α]{l:List α}{i:Nat}(h:i < l.length):l[i]? = some (nth l i):=by
 unfold nth
 rw [uG,oa h]; rfl
theorem gS{α:Type}[Inhabited α]{l:List α}{i:Nat}(h:i < l.length):nth l i∈l:=List.mem_of_getElem? (cw h)
theorem vJ{α:Type}[Inhabited α]{l:List α}{x:α}(h:x∈l):∃ i,i < l.length∧nth l i=x:=by
 obtain ⟨i,hi,rfl⟩:=List.mem_iff_getElem.1 h
 refine ⟨i,hi,?_⟩
 have:=cw hi
 rw [oa hi] at this
 exact (lV this).symm
theorem QU{α:Type}[Inhabited α]{l m:List α}(h:l.length=m.length)(he:∀ i,i < l.length→nth l i=nth m i):l=m:=by
 apply List.ext_getElem?
 intro i
 by_cases hi:i < l.length
 ·rw [cw hi,cw (h ▸ hi),he i hi]
 ·rw [List.getElem?_eq_none (by omega),List.getElem?_eq_none (by omega)]
theorem oB{α:Type}[Inhabited α]{l:List α}{i k:Nat}(h:i < k):nth (l.take k) i=nth l i:=by
 unfold nth
 rw [uG,uG,List.getElem?_take_of_lt h]
theorem jA{S O β:Type}{body:S→Option (S ⊕ O)}{s:S}{o:O}{f:O→Option β}(h:bE body s=some o):(bE body s).bind f=f o:=by rw [h]; rfl
theorem dec_lt{i:Nat}{n:Nat}(h:i < n):decide ((i:Int) < (n:Int))=true:=by simpa using h
theorem eg{n:Nat}:decide ((n:Int) < (n:Int))=false:=by simp
theorem aeq{i:Nat}(h:0 < i):decide ((i:Int) > 0)=true:=by simpa using h
theorem aep{i:Nat}(h:¬ 0 < i):decide ((i:Int) > 0)=false:=by simpa using h
theorem aoO{O:Type}{f:Option O}{g:Unit→Option O}{d:O}(hd:g ()=some d):Sum.elim g (λ q=>some q) (((f.map Sum.inr).getD (.inl ())):Unit ⊕ O)=some (f.getD d):=by
 cases f with
 | none=>exact hd
 | some o=>rfl
theorem U7{O Q:Type}(g:O→Q)(e:Nat→Option O):∀ (k i:Nat),ff (λ j=>(e j).map g) i k=(ff e i k).map g
 | 0,_=>rfl
 | k+1,i=>by
  unfold ff
  cases e i with
  | none=>exact U7 g e k (i+1)
  | some o=>rfl
theorem search{O:Type}{body:Int→Option (Int ⊕ (Unit ⊕ O))}(e:Nat→Option O)(i0 n:Nat){d:O}{g:Unit→Option O}(h:∀ i,i0≤i→i < n→body (i:Int)=some (match e i with | some o=>.inr (.inr o) | none=>.inl ((i+1:Nat):Int)))(hn:body (n:Int)=some (.inr (.inl ())))(h0:i0≤n)(hd:g ()=some d) :
  (bE body (i0:Int)).bind (Sum.elim g λ q=>some q)=some ((ff e i0 (n - i0)).getD d):=by
 refine (jA (ahb (λ i=>(i:Int)) (λ i=>(e i).map Sum.inr) i0 n (o:=.inl ()) (λ i h1 h2=>?_) hn h0)).trans ?_
 ·rw [h i h1 h2]
  cases e i <;> rfl
 ·rw [U7]
  exact aoO hd
theorem vZ{O:Type}{body:Int→Option (Int ⊕ (Unit ⊕ O))}(e:Nat→Option O)(n:Nat){d:O}{g:Unit→Option O}(h:∀ i,i < n→body (i:Int)=some (match e i with | some o=>.inr (.inr o) | none=>.inl ((i+1:Nat):Int)))(hn:body (n:Int)=some (.inr (.inl ())))(hd:g ()=some d) :
  (bE body 0).bind (Sum.elim g λ q=>some q)=some ((ff e 0 n).getD d):=search e 0 n (λ i _ hi=>h i hi) hn (Nat.zero_le _) hd
theorem U8{α:Type}[Inhabited α](p:α→Bool)(l:List α):(ff (λ i=>if p (nth l i) then some true else none) 0 l.length).getD false=l.any p:=by
 cases h:ff (λ i=>if p (nth l i) then some true else none) 0 l.length with
 | none =>
  rw [tf] at h
  symm
  rw [Option.getD_none,List.any_eq_false]
  intro x hx
  obtain ⟨i,hi,rfl⟩:=vJ hx
  have:=h i (Nat.zero_le _) (by omega)
  simpa using this
 | some o =>
  obtain ⟨j,_,hj,he,_⟩:=yC h
  split at he
  ·rename_i hp
   cases he
   symm
   rw [oT,List.any_eq_true]
   exact ⟨nth l j,gS (by omega),hp⟩
  ·cases he
theorem ani(l:List Int)(n:Int):(l.any λ x=>x == n)=l.contains n:=by
 rw [Bool.eq_iff_iff,List.any_eq_true,List.contains_iff_mem]
 constructor
 ·rintro ⟨x,hx,h⟩
  rw [beq_iff_eq] at h; subst h; exact hx
 ·intro h; exact ⟨n,h,by simp⟩
theorem ar5{α:Type}[Inhabited α](p:α→Bool)(l:List α):decide ((ff (λ i=>if p (nth l i) then some (i:Int) else none) 0 l.length).getD (-1) ≥ 0)=l.any p:=by
 rw [← U8 p l]
 cases h:ff (λ i=>if p (nth l i) then some (i:Int) else none) 0 l.length with
 | none =>
  rw [tf] at h
  have:ff (λ i=>if p (nth l i) then some true else none) 0 l.length=none:=by
   rw [tf]
   intro j h1 h2
   have:=h j h1 h2
   cases hp:p (nth l j) with
   | true=>rw [hp] at this; cases this
   | false=>rfl
  rw [this]; rfl
 | some o =>
  obtain ⟨j,h1,h2,h3,h4⟩:=yC h
  split at h3
  ·rename_i hp
   cases h3
   have:ff (λ i=>if p (nth l i) then some true else none) 0 l.length=some true:=by
    cases hf:ff (λ i=>if p (nth l i) then some true else none) 0 l.length with
    | none=>rw [tf] at hf; have:=hf j h1 h2; rw [if_pos hp] at this; cases this
    | some b =>
     obtain ⟨_,_,_,hb,_⟩:=yC hf
     split at hb
     ·cases hb; rfl
     ·cases hb
   rw [this]
   simp
  ·cases h3
theorem abj{O:Type}{body:Int→Option (Int ⊕ (Unit ⊕ O))}(e:Nat→Option O)(n:Nat)(h:∀ i,i < n→body (i:Int)=some (match e i with | some o=>.inr (.inr o) | none=>.inl ((i+1:Nat):Int)))(hn:body (n:Int)=some (.inr (.inl ()))) :
  bE body 0=some (match ff e 0 n with | some o=>.inr o | none=>.inl ()):=by
 refine (aEf (λ i=>(i:Int)) (λ i=>(e i).map Sum.inr) n (o:=.inl ()) (λ i hi=>?_) hn).trans ?_
 ·rw [h i hi]
  cases e i <;> rfl
 ·rw [U7]
  cases ff e 0 n <;> rfl
theorem afu{α O:Type}[Inhabited α](p:α→Bool)(c:O)(l:List α)(n:Nat)(hn:n≤l.length):ff (λ k=>if p (nth l k) then some c else none) 0 n=if (l.take n).any p then some c else none:=by
 cases h:ff (λ k=>if p (nth l k) then some c else none) 0 n with
 | none =>
  rw [tf] at h
  have:(l.take n).any p=false:=by
   rw [List.any_eq_false]
   intro x hx
   obtain ⟨i,hi,rfl⟩:=vJ hx
   have qb:i < n:=by simp at hi; omega
   rw [oB qb]
   have:=h i (Nat.zero_le _) (by omega)
   simpa using this
  rw [this]; rfl
 | some o =>
  obtain ⟨j,_,hj,he,_⟩:=yC h
  split at he
  ·rename_i hp
   cases he
   have:(l.take n).any p=true:=by
    rw [List.any_eq_true]
    refine ⟨nth l j,?_,hp⟩
    rw [← oB (l:=l) (show j < n by omega)]
    exact gS (by simp; omega)
   rw [this]; rfl
  ·cases he
def isLet(n:Int):Bool:=dg n 97 122
def y8(n:Int):Bool:=dg n 48 57
theorem RG(s:ByteArray):(iB s).length=s.size:=by simp [iB]
theorem aji{s:ByteArray}{i:Nat}(h:i < s.size):0≤nth (iB s) i∧nth (iB s) i < 256:=by
 have hm:nth (iB s) i∈iB s:=gS (by rw [RG]; exact h)
 unfold iB at hm
 obtain ⟨b,_,hb⟩:=List.mem_map.1 hm
 unfold iB
 rw [← hb]
 have:=b.toNat_lt
 omega
def pn(s:ByteArray)(i:Nat):Option Bool:=if isLet (nth (iB s) i)=false then (if i=0 then some false else if y8 (nth (iB s) i)=false then some false else none) else none
def se(s:ByteArray):Bool:=(ff (pn s) 0 s.size).getD (dg (s.size:Int) 1 12)
theorem aDi{s:ByteArray}{k i:Nat}{o:Bool}(h:ff (pn s) i k=some o):o=false:=by
 obtain ⟨j,_,_,he,_⟩:=yC h
 unfold pn at he
 split at he
 ·split at he
  ·cases he; rfl
  ·split at he
   ·cases he; rfl
   ·cases he
 ·cases he
theorem qp{a:Int}(h:a≠0):(a != 0)=true:=by simpa using h
theorem lL{n a c:Int}:dg n a c=true↔a≤n∧n≤c:=by simp [dg]
theorem ON{e:Nat→Option Int}{n:Nat}(eP:∀ i,e i≠some 0)(h:(ff e 0 n).getD 0=0):∀ i,i < n→e i=none:=by
 cases hf:ff e 0 n with
 | none=>rw [tf] at hf; exact λ i hi=>hf i (Nat.zero_le _) (by omega)
 | some o =>
  rw [hf] at h
  obtain ⟨j,_,_,he,_⟩:=yC hf
  have:o=0:=h
  subst this
  exact absurd he (eP j)
theorem aEa{n m:Nat}:((n:Int) != (m:Int))=decide (n≠m):=by
 by_cases h:n=m
 ·subst h; simp
 ·have:¬ (n:Int)=(m:Int):=by omega
  simp [h,this]
def jH{α S:Type}(ys:α→S→Option (S × Bool)):List α→S→Option (S × Bool)
 | [],s=>some (s,true)
 | a::l,s=>(ys a s).bind λ r=>if r.2=true then jH ys l r.1 else some (r.1,false)
theorem afw{α S:Type}(ys:α→S→Option (S × Bool)):∀ (l m:List α) (s:S),jH ys (l++m) s=(jH ys l s).bind λ r=>if r.2=true then jH ys m r.1 else some (r.1,false)
 | [],_,_=>by simp [jH]
 | a::l,m,s=>by
  simp only [List.cons_append,jH]
  cases ys a s with
  | none=>rfl
  | some r =>
   simp only [aX]
   cases hr:r.2 with
   | true=>simp only [if_true]; exact afw ys l m r.1
   | false=>simp
theorem Qn{α X:Type}{body:List α × X→Option ((List α × X) ⊕ List α)}(x:Nat→X)(yc:Nat→List α)(n m:Nat)(acc:List α)(hm:∀ j,j < n→(yc j).length≤m)
  (h:∀ j l,j < n→l.length≤acc.length+j * m→body (l,x j)=some (.inl (l++yc j,x (j+1)))) (hn:∀ l,body (l,x n)=some (.inr l)):bE body (acc,x 0)=some (acc++(List.range n).flatMap yc):=by
 have hl:∀ j,j≤n→((List.range j).flatMap yc).length≤j * m:=by
  intro j
  induction j with
  | zero=>intro _; simp
  | succ j ih =>
   intro hj
   have:=ih (by omega)
   have:=hm j (by omega)
   rw [List.range_succ,List.flatMap_append,lU,Nat.add_mul]
   simp only [List.flatMap_cons,List.flatMap_nil,List.append_nil]
   omega
 have:=nm (λ j=>(acc++(List.range j).flatMap yc,x j)) n (body:=body) (o:=acc++(List.range n).flatMap yc) (λ j hj=>?_) (hn _)
 ·simpa using this
 ·rw [h j _ hj (by rw [lU]; have:=hl j (by omega); omega),List.range_succ,List.flatMap_append]
  simp
theorem Va{α β:Type}[Inhabited α](f:α→List β)(l:List α):(List.range l.length).flatMap (λ j=>f (nth l j))=l.flatMap f:=by
 have e:(List.range l.length).map (nth l)=l:=(QU (by simp) (λ i hi=>by
  rw [List.length_map,List.length_range] at hi
  have h1:=cw (l:=(List.range l.length).map (nth l)) (i:=i) (by simpa using hi)
  simp only [List.getElem?_map,List.getElem?_range hi,Option.map_some,iS] at h1
  exact h1.symm))
 have h:((List.range l.length).map (nth l)).flatMap f=l.flatMap f:=by rw [e]
 rw [List.flatMap_map] at h
 exact h
theorem afv{α β:Type}(f:α→β):∀ l:List α,l.flatMap (λ x=>[f x])=l.map f
 | []=>rfl
 | a::l=>by rw [List.flatMap_cons,afv f l]; rfl
theorem aH7{i:Nat}(h:i≤5):3 ^ i≤243:=by
 match i,h with
 | 0,_=>decide
 | 1,_=>decide
 | 2,_=>decide
 | 3,_=>decide
 | 4,_=>decide
 | 5,_=>decide
theorem OM{α S O:Type}{body:α→S→Option (S ⊕ O)}(I:Nat→S→Prop)(f:α→S→S):∀ (l:List α) (k:Nat) (s:S),I k s→(∀ j s a,j < k+l.length→I j s→a∈l→body a s=some (.inl (f a s))∧I (j+1) (f a s)) →
  jH (gm body) l (.inl s)=some (.inl (l.foldl (λ s a=>f a s) s),true)
 | [],_,_,_,_=>rfl
 | a::l,k,s,hI,h=>by
  obtain ⟨h1,h2⟩:=h k s a (by simp) hI (by simp)
  simp only [jH,gm,h1,Option.map_some,aX,Sum.isLeft_inl,if_true,List.foldl_cons]
  exact OM I f l (k+1) _ h2 (λ j s a' hj hI ha=>h j s a' (by simp only [List.length_cons]; omega) hI (by simp [ha]))
def bB(n a:Nat):List Int:=((List.range n).filter λ i=>a.testBit i).map λ (i:Nat)=>(i:Int)
def nj:List Int→List Int→Bool
 | [],[]=>false
 | [],_::_=>true
 | _::_,[]=>false
 | a::l,c::m=>decide (a < c) || (a == c && nj l m)
def iF(l m:List Int):Bool:=decide (l.length < m.length) || (l.length == m.length && nj l m)
theorem afy{n:Nat}:∀ i,i < n→(2 ^ n - 1).testBit i=true:=λ i hi=>by rw [Nat.testBit_two_pow_sub_one]; simpa using hi
theorem aa6{n:Nat}(h:n < 5):2 ^ n≤16:=by
 match n,h with
 | 0,_=>decide
 | 1,_=>decide
 | 2,_=>decide
 | 3,_=>decide
 | 4,_=>decide
def CF(a c:List Int)(i:Nat):Option Bool:=if a.length≤i then some true else if nth a i < nth c i then some true else if nth a i > nth c i then some false else none
def qP(a c:List Int):Bool:=(ff (CF a c) 0 c.length).getD false
theorem ar1{α:Type}(p:α→Bool)(l:List α):(l.filter λ x=>!p x).length+(l.filter p).length=l.length:=by
 induction l with
 | nil=>rfl
 | cons a l ih =>
  simp only [List.filter_cons,List.length_cons]
  cases p a <;> simp <;> omega
theorem aox{α:Type}{x:α}{l:List α}:kF (x::l) 1 ((x::l).length:Int)=some l:=by
 simp [kF]
 omega
theorem U9{α β:Type}(f:α→List β)(m:Nat)(h:∀ a,(f a).length≤m):∀ l:List α,(l.flatMap f).length≤l.length * m
 | []=>by simp
 | a::l=>by
  have:=U9 f m h l
  have:=h a
  simp only [List.flatMap_cons,lU,List.length_cons,Nat.add_mul,Nat.one_mul]
  omega
theorem ahS{w x:Int}:tJ w [x]=max w x:=by
 show (if x > w then x else w)=_
 rw [Int.max_def]
 split <;> split <;> omega
theorem afs{α:Type}(p:α→Bool)(l:List α):l.flatMap (λ a=>if p a=true then [a] else [])=l.filter p:=by
 induction l with
 | nil=>rfl
 | cons a l ih =>
  rw [List.flatMap_cons,ih,List.filter_cons]
  cases p a <;> simp
theorem NO:∀ (l m:List Int),l.Pairwise (· < ·)→m.Pairwise (· < ·)→(∀ x,x∈l↔x∈m)→l=m
 | [],[],_,_,_=>rfl
 | [],b::m,_,_,h=>by have:=(h b).2 (by simp); cases this
 | a::l,[],_,_,h=>by have:=(h a).1 (by simp); cases this
 | a::l,b::m,hl,hm,h=>by
  rw [List.pairwise_cons] at hl hm
  have bP:a=b:=by
   rcases fa.1 ((h a).1 (by simp)) with h1 | h1
   ·exact h1
   ·rcases fa.1 ((h b).2 (by simp)) with h2 | h2
    ·exact h2.symm
    ·have h3:=hm.1 a h1
     have h4:=hl.1 b h2
     omega
  subst bP
  rw [NO l m hl.2 hm.2 λ x=>?_]
  constructor
  ·intro hx
   rcases fa.1 ((h x).1 (by simp [hx])) with h1 | h1
   ·have:=hl.1 x hx; omega
   ·exact h1
  ·intro hx
   rcases fa.1 ((h x).2 (by simp [hx])) with h1 | h1
   ·have:=hm.1 x hx; omega
   ·exact h1
theorem aG2{α:Type}[Inhabited α]{m:List α}{w:Nat}{x:α}(h:w < m.length):nth (m.set w x) w=x:=by
 unfold nth
 rw [uG,List.getElem?_set_self h]
 rfl
theorem ah4{α:Type}[Inhabited α]{m:List α}{w i:Nat}{x:α}(h:w≠i):nth (m.set w x) i=nth m i:=by
 unfold nth
 rw [uG,uG,List.getElem?_set_ne h]
theorem all_congr{n:Nat}{f g:Nat→Bool}(h:∀ i,i < n→f i=g i):(List.range n).all f=(List.range n).all g:=by
 rw [Bool.eq_iff_iff,List.all_eq_true,List.all_eq_true]
 constructor
 ·intro k i hi; rw [← h i (List.mem_range.1 hi)]; exact k i hi
 ·intro k i hi; rw [h i (List.mem_range.1 hi)]; exact k i hi
section
variable {α:Type}
def lvl(ext:Nat→List α→List α):Nat→List (List α)
 | 0=>[[]]
 | i+1=>(lvl ext i).flatMap λ p=>(ext i p).map λ x=>p++[x]
def tree(ext:Nat→List α→List α):Nat→Nat→List α→List (List α)
 | 0,_,p=>[p]
 | j+1,i,p=>(ext i p).flatMap λ x=>tree ext j (i+1) (p++[x])
theorem ahh(ext:Nat→List α→List α):∀ j i,(lvl ext i).flatMap (tree ext j i)=lvl ext (i+j)
 | 0,i=>by simp [tree]
 | j+1,i=>by
  rw [show i+(j+1)=(i+1)+j by omega,← ahh ext j (i+1)]
  simp only [lvl,tree,List.flatMap_assoc,List.flatMap_map]
theorem abD(ext:Nat→List α→List α)(n:Nat):tree ext n 0 []=lvl ext n:=by
 have:=ahh ext n 0
 rw [Nat.zero_add] at this
 rw [← this]
 simp [lvl]
theorem sz[Inhabited α]{p q:List α}{i:Nat}(h:i < p.length):nth (p++q) i=nth p i:=by
 unfold nth
 rw [uG,uG,uF h]
theorem vI[Inhabited α]{p:List α}{x:α}:nth (p++[x]) p.length=x:=by
 unfold nth
 rw [uG,pI (eR _),Nat.sub_self]
 rfl
theorem aJj[Inhabited α]{r:List α}{n:Nat}(h:r.length=n+1):r=r.take n++[nth r n]:=by
 have h1:n < r.length:=by omega
 have h2:=List.take_succ_eq_append_getElem h1
 rw [List.take_of_length_le (by omega)] at h2
 have h3:=cw h1
 rw [oa h1] at h3
 rw [← lV h3]
 exact h2
theorem Es[Inhabited α]{ext:Nat→List α→List α}:∀ {n:Nat} {r:List α},r∈lvl ext n↔r.length=n∧∀ i,i < n→nth r i∈ext i (r.take i)
 | 0,r=>by
  simp only [lvl,List.mem_singleton]
  constructor
  ·rintro rfl; exact ⟨rfl,λ i hi=>by omega⟩
  ·rintro ⟨h,_⟩; exact List.length_eq_zero_iff.1 h
 | n+1,r=>by
  simp only [lvl,List.mem_flatMap,List.mem_map]
  constructor
  ·rintro ⟨p,hp,x,hx,rfl⟩
   obtain ⟨h1,h2⟩:=Es.1 hp
   refine ⟨by simp [h1],λ i hi=>?_⟩
   by_cases nV:i < n
   ·rw [sz (by omega),List.take_append_of_le_length (by omega)]
    exact h2 i nV
   ·obtain rfl:i=p.length:=by omega
    rw [vI,List.take_append_of_le_length (eR _),List.take_length,h1]
    exact hx
  ·rintro ⟨h1,h2⟩
   refine ⟨r.take n,Es.2 ⟨by simp; omega,λ i hi=>?_⟩,nth r n,h2 n (by omega),(aJj h1).symm⟩
   rw [oB hi,List.take_take,Nat.min_eq_left (by omega)]
   exact h2 i (by omega)
def Bu[Inhabited α](lt:α→α→Prop)(p q:List α):Prop:=∃ k,k < p.length∧k < q.length∧p.take k=q.take k∧lt (nth p k) (nth q k)
theorem ag6[Inhabited α]{lt:α→α→Prop}(h:∀ x,¬ lt x x)(p:List α):¬ Bu lt p p:=λ ⟨_,_,_,_,hk⟩=>h _ hk
theorem ag5[Inhabited α]{lt:α→α→Prop}(h:∀ x,¬ lt x x)(ha:∀ x y,lt x y→¬ lt y x){p q:List α}(h1:Bu lt p q):¬ Bu lt q p:=by
 obtain ⟨k,k1,k2,k3,k4⟩:=h1
 rintro ⟨m,m1,m2,m3,m4⟩
 rcases Nat.lt_trichotomy k m with Kh | rfl | Kh
 ·have e:nth p k=nth q k:=by rw [← oB (l:=p) Kh,← oB (l:=q) Kh,m3]
  rw [e] at k4
  exact h _ k4
 ·exact ha _ _ k4 m4
 ·have e:nth p m=nth q m:=by rw [← oB (l:=p) Kh,← oB (l:=q) Kh,k3]
  rw [e] at m4
  exact h _ m4
theorem aEb[Inhabited α]{lt:α→α→Prop}{p q:List α}(x y:α)(h:Bu lt p q):Bu lt (p++[x]) (q++[y]):=by
 obtain ⟨k,k1,k2,k3,k4⟩:=h
 refine ⟨k,by simp; omega,by simp; omega,?_,?_⟩
 ·rw [List.take_append_of_le_length (by omega),List.take_append_of_le_length (by omega),k3]
 ·rw [sz k1,sz k2]; exact k4
theorem aal[Inhabited α]{lt:α→α→Prop}{ext:Nat→List α→List α}(h:∀ i p,(ext i p).Pairwise lt):∀ n,(lvl ext n).Pairwise (Bu lt)
 | 0=>by simp [lvl]
 | n+1=>by
  simp only [lvl]
  rw [List.pairwise_flatMap]
  refine ⟨λ p hp=>?_,(aal h n).imp λ {p q} hpq x hx y hy=>?_⟩
  ·rw [List.pairwise_map]
   refine (h n p).imp λ {x y} ZT=>⟨p.length,by simp,by simp,?_,?_⟩
   ·rw [List.take_append_of_le_length (eR _),List.take_append_of_le_length (eR _)]
   ·rw [vI,vI]; exact ZT
  ·obtain ⟨a,_,rfl⟩:=List.mem_map.1 hx
   obtain ⟨b,_,rfl⟩:=List.mem_map.1 hy
   exact aEb a b hpq
theorem aG0{β:Type}{lt:β→β→Prop}(hi:∀ x,¬ lt x x){l:List β}(h:l.Pairwise lt):l.Nodup:=h.imp λ {x y} ZT e=>by subst e; exact hi x ZT
end
theorem aD9{α β:Type}{l:List α}{m:List β}(f:α→β)(hn:l.Nodup)(hi:∀ x∈l,∀ y∈l,f x=f y→x=y)(hm:∀ x∈l,f x∈m):l.length≤m.length:=by
 classical
 induction l generalizing m with
 | nil=>simp
 | cons a l ih =>
  rw [List.nodup_cons] at hn
  obtain ⟨s,t,rfl⟩:=List.append_of_mem (hm a (by simp))
  have:=ih (m:=s++t) hn.2 (λ x hx y hy=>hi x (by simp [hx]) y (by simp [hy])) (λ x hx=>by
   have h1:=hm x (by simp [hx])
   have h2:f x≠f a:=λ e=>hn.1 (hi x (by simp [hx]) a (by simp) e ▸ hx)
   simp only [List.mem_append,fa] at h1 ⊢
   rcases h1 with h1 | h1 | h1
   ·exact .inl h1
   ·exact absurd h1 h2
   ·exact .inr h1)
  simp only [lU,List.length_cons] at this ⊢
  omega
def iP(n:Nat):List Int:=(List.range n).map λ (i:Nat)=>(i:Int)
theorem aaJ{n:Nat}{x:Int}:x∈iP n↔0≤x∧x < (n:Int):=by
 simp only [iP,List.mem_map,List.mem_range]
 constructor
 ·rintro ⟨i,hi,rfl⟩; omega
 ·intro h; exact ⟨x.toNat,by omega,by omega⟩
theorem ajr(n:Nat):(iP n).length=n:=by simp [iP]
theorem ajs(n:Nat):(iP n).Pairwise (· < ·):=by
 unfold iP
 rw [List.pairwise_map]
 exact List.pairwise_lt_range.imp λ h=>by omega
theorem ajt(n:Nat):iP (n+1)=iP n++[(n:Int)]:=by simp [iP,List.range_succ]
def FM(n:Nat)(ok:Nat→Bool)(p:List Int):List Int:=(iP n).filter λ k=>ok k.toNat && p.all λ x=>decide (x < k)
def te(n iA:Nat)(ok:Nat→Bool):List (List Int):=lvl (λ _ p=>FM n ok p) iA
theorem aaH{n:Nat}{ok:Nat→Bool}{p:List Int}{k:Int}:k∈FM n ok p↔(0≤k∧k < (n:Int))∧ok k.toNat=true∧∀ x∈p,x < k:=by
 simp only [FM,List.mem_filter,aaJ,fy,List.all_eq_true,decide_eq_true_eq]
theorem aGR{l:List Int}{i:Nat}{x:Int}(h:x∈l.take i):∃ j,j < i∧j < l.length∧nth l j=x:=by
 obtain ⟨j,hj,rfl⟩:=vJ h
 rw [kT] at hj
 exact ⟨j,by omega,by omega,(oB (by omega)).symm⟩
theorem tK{n iA:Nat}{ok:Nat→Bool}{c:List Int}:c∈te n iA ok↔c.length=iA∧c.Pairwise (· < ·)∧∀ k∈c,0≤k∧k < (n:Int)∧ok k.toNat=true:=by
 unfold te
 rw [Es]
 constructor
 ·rintro ⟨h1,h2⟩
  refine ⟨h1,?_,λ k hk=>?_⟩
  ·rw [List.pairwise_iff_getElem]
   intro i j hi hj rY
   have:=(aaH.1 (h2 j (by omega))).2.2 (nth c i) (by rw [← oB (l:=c) rY]; exact gS (by simp; omega))
   have e1:=cw hi
   have e2:=cw hj
   rw [oa hi] at e1
   rw [oa hj] at e2
   rw [lV e1,lV e2]
   exact this
  ·obtain ⟨i,hi,rfl⟩:=vJ hk
   obtain ⟨⟨g1,g2⟩,g3,_⟩:=aaH.1 (h2 i (by omega))
   exact ⟨g1,g2,g3⟩
 ·rintro ⟨h1,h2,h3⟩
  refine ⟨h1,λ i hi=>?_⟩
  obtain ⟨g1,g2,g3⟩:=h3 (nth c i) (gS (by omega))
  refine aaH.2 ⟨⟨g1,g2⟩,g3,λ x hx=>?_⟩
  obtain ⟨j,gw,hj,rfl⟩:=aGR hx
  rw [List.pairwise_iff_getElem] at h2
  have:=h2 j i hj (by omega) gw
  have e1:=cw hj
  have e2:=cw (l:=c) (i:=i) (by omega)
  rw [oa hj] at e1
  rw [oa (by omega)] at e2
  rw [lV e1,lV e2] at this
  exact this
theorem agL(x:Int):¬ x < x:=by omega
theorem aDa(x y:Int)(h:x < y):¬ y < x:=by omega
abbrev nZ:List Int→List Int→Prop:=Bu (· < ·)
theorem UC(n iA:Nat)(ok:Nat→Bool):(te n iA ok).Pairwise nZ:=aal (λ _ _=>(ajs n).filter _) iA
structure RB where
 n:Nat
 D:Nat
 iA:Nat→Nat
 ok:Nat→Nat→Bool
 ap:Nat→Nat→Bool
 out:Nat→Bool
def meet(c d:List Int):Bool:=c.any λ k=>d.contains k
theorem aGP{c d:List Int}:meet c d=true↔∃ k,k∈c∧k∈d:=by
 simp only [meet,List.any_eq_true,List.contains_iff_mem]
theorem ahU{c d:List Int}:meet c d=false↔∀ k,k∈c→k ∉ d:=by
 rw [← Bool.not_eq_true,aGP]
 exact ⟨λ h k h1 h2=>h ⟨k,h1,h2⟩,λ h ⟨k,h1,h2⟩=>h k h1 h2⟩
def mG(A:RB)(p:List (List Int))(i:Nat)(c:List Int):Bool:=(List.range p.length).all λ j=>A.ap j i || !meet c (nth p j)
def fS(A:RB)(i:Nat)(p:List (List Int)):List (List Int):=if A.out i=true then [[]] else (te A.n (A.iA i) (A.ok i)).filter (mG A p i)
def kP(A:RB):List (List (List Int)):=lvl (fS A) A.D
structure il (A:RB) (r:List (List Int)):Prop where
 len:r.length=A.D
 out:∀ i,i < A.D→A.out i=true→nth r i=[]
 FL:∀ i,i < A.D→A.out i=false→nth r i∈te A.n (A.iA i) (A.ok i)
 rest:∀ i j,i < A.D→j < i→A.ap j i=true∨meet (nth r i) (nth r j)=false
theorem aiL{A:RB}{p:List (List Int)}{i:Nat}{c:List Int}:mG A p i c=true↔∀ j,j < p.length→A.ap j i=true∨meet c (nth p j)=false:=by
 simp only [mG,List.all_eq_true,List.mem_range,Bool.or_eq_true,Bool.not_eq_true']
theorem Et{A:RB}{r:List (List Int)}:r∈kP A↔il A r:=by
 unfold kP
 rw [Es]
 constructor
 ·rintro ⟨h1,h2⟩
  refine ⟨h1,λ i hi ho=>?_,λ i hi ho=>?_,λ i j hi hj=>?_⟩
  ·have:=h2 i hi
   unfold fS at this
   rw [if_pos ho] at this
   simpa using this
  ·have:=h2 i hi
   unfold fS at this
   rw [if_neg (by simp [ho])] at this
   exact (List.mem_filter.1 this).1
  ·have:=h2 i hi
   unfold fS at this
   by_cases ho:A.out i=true
   ·rw [if_pos ho] at this
    right
    have e:nth r i=[]:=by simpa using this
    rw [e]; rfl
   ·rw [if_neg ho] at this
    have h3:=aiL.1 (List.mem_filter.1 this).2 j (by simp; omega)
    rwa [oB hj] at h3
 ·intro h
  refine ⟨h.len,λ i hi=>?_⟩
  unfold fS
  by_cases ho:A.out i=true
  ·rw [if_pos ho,h.out i hi ho]; simp
  ·rw [if_neg ho]
   refine List.mem_filter.2 ⟨h.FL i hi (by simpa using ho),aiL.2 λ j hj=>?_⟩
   rw [kT] at hj
   rw [oB (by omega)]
   exact h.rest i j hi (by omega)
theorem aIV(A:RB)(i:Nat)(p:List (List Int)):(fS A i p).Pairwise nZ:=by
 unfold fS
 split
 ·simp
 ·exact (UC _ _ _).filter _
theorem HD(c:List Int):¬ nZ c c:=ag6 agL c
theorem abi(c d:List Int)(h:nZ c d):¬ nZ d c:=ag5 agL aDa h
abbrev Rv:List (List Int)→List (List Int)→Prop:=Bu nZ
theorem aIQ(r:List (List Int)):¬ Rv r r:=ag6 HD r
theorem aIP{r s:List (List Int)}(h:Rv r s):¬ Rv s r:=ag5 HD abi h
theorem aiV(A:RB):(kP A).Pairwise Rv:=aal (aIV A) A.D
structure amj (A C:RB):Prop where
 n:A.n≤C.n
 D:A.D=C.D
 iA:∀ i,i < A.D→A.iA i=C.iA i
 ok:∀ i k,i < A.D→k < A.n→A.ok i k=true→C.ok i k=true
 ap:∀ i j,i < A.D→j < i→A.ap j i=true→C.ap j i=true
 out:∀ i,i < A.D→A.out i=true→C.out i=true
 aHc:∀ i,i < A.D→C.out i=true→A.out i=true
theorem il.le{A C:RB}(h:amj A C){r:List (List Int)}(hr:il A r):il C r:=by
 have hD:=h.D
 refine ⟨hr.len.trans hD,λ i hi ho=>hr.out i (by omega) (h.aHc i (by omega) ho),λ i hi ho=>?_,λ i j hi hj=>?_⟩
 ·have eX:A.out i=false:=by
   cases e:A.out i with
   | false=>rfl
   | true=>rw [h.out i (by omega) e] at ho; cases ho
  obtain ⟨h1,h2,h3⟩:=tK.1 (hr.FL i (by omega) eX)
  have hn:=h.n
  refine tK.2 ⟨by rw [h1,h.iA i (by omega)],h2,λ k hk=>?_⟩
  obtain ⟨g1,g2,g3⟩:=h3 k hk
  exact ⟨g1,by omega,h.ok i k.toNat (by omega) (by omega) g3⟩
 ·rcases hr.rest i j (by omega) hj with h1 | h1
  ·exact .inl (h.ap i j (by omega) hj h1)
  ·exact .inr h1
theorem aaI{n a:Nat}{k:Int}:k∈bB n a↔(0≤k∧k < (n:Int))∧a.testBit k.toNat=true:=by
 simp only [bB,List.mem_map,List.mem_filter,List.mem_range]
 constructor
 ·rintro ⟨i,⟨h1,h2⟩,rfl⟩; exact ⟨by omega,by simpa using h2⟩
 ·rintro ⟨h1,h2⟩; exact ⟨k.toNat,⟨by omega,h2⟩,by omega⟩
theorem aaG(n a:Nat):(bB n a).Pairwise (· < ·):=by
 unfold bB
 rw [List.pairwise_map]
 exact (List.pairwise_lt_range.filter _).imp λ h=>by omega
theorem ahQ(p:Nat→Bool):∀ n,∃ a,a < 2 ^ n∧∀ i,i < n→a.testBit i=p i
 | 0=>⟨0,by simp,λ i hi=>by omega⟩
 | n+1=>by
  obtain ⟨a,ha,h⟩:=ahQ p n
  cases hp:p n with
  | false =>
   refine ⟨a,by rw [Nat.pow_succ]; omega,λ i hi=>?_⟩
   by_cases e:i=n
   ·subst e; rw [hp]; exact Nat.testBit_lt_two_pow ha
   ·exact h i (by omega)
  | true =>
   refine ⟨2 ^ n+a,by rw [Nat.pow_succ]; omega,λ i hi=>?_⟩
   by_cases e:i=n
   ·subst e
    rw [hp,Nat.testBit_two_pow_add_eq,Nat.testBit_lt_two_pow ha]; rfl
   ·rw [Nat.testBit_two_pow_add_gt (by omega)]
    exact h i (by omega)
theorem ahR{n:Nat}{l:List Int}(h:l.Pairwise (· < ·))(hb:∀ k∈l,0≤k∧k < (n:Int)):∃ a,a < 2 ^ n∧l=bB n a:=by
 obtain ⟨a,ha,h1⟩:=ahQ (λ i=>l.contains (i:Int)) n
 refine ⟨a,ha,NO _ _ h (aaG n a) λ k=>?_⟩
 rw [aaI]
 constructor
 ·intro hk
  have h2:=hb k hk
  refine ⟨h2,?_⟩
  rw [h1 _ (by omega),List.contains_iff_mem,Int.toNat_of_nonneg h2.1]
  exact hk
 ·rintro ⟨h2,h3⟩
  rw [h1 _ (by omega),List.contains_iff_mem,Int.toNat_of_nonneg h2.1] at h3
  exact h3
theorem ag3:∀ {a c d:List Int},nj a c=true→nj c d=true→nj a d=true
 | [],_,[],h1,h2=>by cases ‹List Int› <;> simp [nj] at h1 h2
 | [],_,_::_,_,_=>rfl
 | x::a,[],_,h1,_=>by simp [nj] at h1
 | x::a,y::c,[],_,h2=>by simp [nj] at h2
 | x::a,y::c,z::d,h1,h2=>by
  simp only [nj,Bool.or_eq_true,fy,decide_eq_true_eq,beq_iff_eq] at h1 h2 ⊢
  rcases h1 with h1 | ⟨h1,g1⟩ <;> rcases h2 with h2 | ⟨h2,g2⟩
  ·left; omega
  ·left; omega
  ·left; omega
  ·right; exact ⟨by omega,ag3 g1 g2⟩
theorem ag2:∀ a:List Int,nj a a=false
 | []=>rfl
 | x::a=>by simp [nj,ag2 a]
theorem ag4:∀ {a c:List Int},nj a c=false→nj c a=false→a=c
 | [],[],_,_=>rfl
 | [],_::_,h,_=>by simp [nj] at h
 | _::_,[],_,h=>by simp [nj] at h
 | x::a,y::c,h1,h2=>by
  simp only [nj,Bool.or_eq_false_iff,Bool.and_eq_false_iff,decide_eq_false_iff_not,beq_eq_false_iff_ne] at h1 h2
  have e:x=y:=by omega
  subst e
  have g1:=h1.2.resolve_left (by simp)
  have g2:=h2.2.resolve_left (by simp)
  rw [ag4 g1 g2]
theorem Js(a:List Int):iF a a=false:=by simp [iF,ag2]
theorem U6{a c d:List Int}(h1:iF a c=true)(h2:iF c d=true):iF a d=true:=by
 simp only [iF,Bool.or_eq_true,fy,decide_eq_true_eq,beq_iff_eq] at h1 h2 ⊢
 rcases h1 with h1 | ⟨h1,g1⟩ <;> rcases h2 with h2 | ⟨h2,g2⟩
 ·left; omega
 ·left; omega
 ·left; omega
 ·right; exact ⟨by omega,ag3 g1 g2⟩
theorem arv{a c:List Int}(h1:iF a c=false)(h2:iF c a=false):a=c:=by
 simp only [iF,Bool.or_eq_false_iff,Bool.and_eq_false_iff,decide_eq_false_iff_not,beq_eq_false_iff_ne] at h1 h2
 have e:a.length=c.length:=by omega
 exact ag4 (h1.2.resolve_left (by simpa using e)) (h2.2.resolve_left (by simpa using e.symm))
structure cz (n:Nat) (P:Nat→Bool) (l:List Int):Prop where
 ex:∃ a,a < 2 ^ n∧P a=true∧l=bB n a
 min:∀ c,c < 2 ^ n→P c=true→iF (bB n c) l=false
theorem cz.uniq{n:Nat}{P:Nat→Bool}{l m:List Int}(h:cz n P l)(h':cz n P m):l=m:=by
 obtain ⟨a,h1,h2,rfl⟩:=h.ex
 obtain ⟨c,h3,h4,rfl⟩:=h'.ex
 exact arv (h'.min a h1 h2) (h.min c h3 h4)
def HQ(n:Nat)(P:Nat→Bool)(s:List Int × Bool)(a:Nat):List Int × Bool:=if ((!s.2 || iF (bB n a) s.1) && P a)=true then (bB n a,true) else s
def fM(n:Nat)(P:Nat→Bool):Nat→List Int × Bool
 | 0=>([],false)
 | k+1=>HQ n P (fM n P k) k
theorem MR(n:Nat)(P:Nat→Bool):∀ k,((fM n P k).2=false∧(fM n P k).1=[]∧∀ a,a < k→P a=false) ∨
  ((fM n P k).2=true∧(∃ a,a < k∧P a=true∧(fM n P k).1=bB n a)∧∀ c,c < k→P c=true→iF (bB n c) (fM n P k).1=false)
 | 0=>.inl ⟨rfl,rfl,λ a ha=>by omega⟩
 | k+1=>by
  rcases MR n P k with ⟨h1,h2,h3⟩ | ⟨h1,⟨a,ha,hP,h2⟩,h3⟩
  ·cases hk:P k with
   | false =>
    have e:fM n P (k+1)=fM n P k:=by simp [fM,HQ,hk]
    rw [e]
    exact .inl ⟨h1,h2,λ a ha=>by
     by_cases x:a=k
     ·subst x; exact hk
     ·exact h3 a (by omega)⟩
   | true =>
    have e:fM n P (k+1)=(bB n k,true):=by simp [fM,HQ,hk,h1]
    rw [e]
    refine .inr ⟨rfl,⟨k,by omega,hk,rfl⟩,λ c hc pZ=>?_⟩
    by_cases x:c=k
    ·subst x; exact Js _
    ·rw [h3 c (by omega)] at pZ; cases pZ
  ·cases hf:(iF (bB n k) (fM n P k).1 && P k) with
   | false =>
    have e:fM n P (k+1)=fM n P k:=by simp [fM,HQ,h1,hf]
    rw [e]
    refine .inr ⟨h1,⟨a,by omega,hP,h2⟩,λ c hc pZ=>?_⟩
    by_cases x:c=k
    ·subst x; simpa [pZ] using hf
    ·exact h3 c (by omega) pZ
   | true =>
    have e:fM n P (k+1)=(bB n k,true):=by simp [fM,HQ,h1,hf]
    rw [e]
    rw [fy] at hf
    refine .inr ⟨rfl,⟨k,by omega,hf.2,rfl⟩,λ c hc pZ=>?_⟩
    by_cases x:c=k
    ·subst x; exact Js _
    ·cases hx:iF (bB n c) (bB n k) with
     | false=>rfl
     | true =>
      have:=h3 c (by omega) pZ
      rw [U6 hx hf.1] at this
      cases this
theorem aJi{n:Nat}{P:Nat→Bool}(h:∀ a,a < 2 ^ n→P a=false):fM n P (2 ^ n)=([],false):=by
 rcases MR n P (2 ^ n) with ⟨h1,h2,_⟩ | ⟨_,⟨a,ha,hP,_⟩,_⟩
 ·exact Prod.ext h2 h1
 ·rw [h a ha] at hP; cases hP
theorem ai4{n:Nat}{P:Nat→Bool}{a:Nat}(ha:a < 2 ^ n)(h:P a=true):(fM n P (2 ^ n)).2=true∧cz n P (fM n P (2 ^ n)).1:=by
 rcases MR n P (2 ^ n) with ⟨_,_,h3⟩ | ⟨h1,h2,h3⟩
 ·rw [h3 a ha] at h; cases h
 ·exact ⟨h1,⟨h2,h3⟩⟩
def RB.only(A:RB)(S:List Int):RB:={ A with ok:=λ i k=>A.ok i k && S.contains (k:Int) }
def wu(S:List Int)(r:List (List Int)):Bool:=r.all λ c=>c.all λ k=>S.contains k
theorem aHb{A:RB}{S:List Int}{r:List (List Int)}:il (A.only S) r↔il A r∧wu S r=true:=by
 constructor
 ·intro h
  have hc:∀ i,i < A.D→A.out i=false→nth r i∈te A.n (A.iA i) (A.ok i)∧∀ k∈nth r i,k∈S:=λ i hi ho=>by
   obtain ⟨h1,h2,h3⟩:=tK.1 (h.FL i hi ho)
   refine ⟨tK.2 ⟨h1,h2,λ k hk=>?_⟩,λ k hk=>?_⟩
   ·obtain ⟨g1,g2,g3⟩:=h3 k hk
    simp only [RB.only,fy] at g3
    exact ⟨g1,g2,g3.1⟩
   ·obtain ⟨g1,g2,g3⟩:=h3 k hk
    simp only [RB.only,fy,List.contains_iff_mem,Int.toNat_of_nonneg g1] at g3
    exact g3.2
  refine ⟨⟨h.len,h.out,λ i hi ho=>(hc i hi ho).1,h.rest⟩,?_⟩
  simp only [wu,List.all_eq_true,List.contains_iff_mem]
  intro c Be k hk
  obtain ⟨i,hi,rfl⟩:=vJ Be
  have hl:r.length=A.D:=h.len
  cases ho:A.out i with
  | true=>rw [h.out i (show i < A.D by omega) ho] at hk; cases hk
  | false=>exact (hc i (by omega) ho).2 k hk
 ·rintro ⟨h,hw⟩
  simp only [wu,List.all_eq_true,List.contains_iff_mem] at hw
  refine ⟨h.len,h.out,λ i hi ho=>?_,h.rest⟩
  obtain ⟨h1,h2,h3⟩:=tK.1 (h.FL i hi ho)
  refine tK.2 ⟨h1,h2,λ k hk=>?_⟩
  obtain ⟨g1,g2,g3⟩:=h3 k hk
  refine ⟨g1,g2,?_⟩
  simp only [RB.only,fy,List.contains_iff_mem,Int.toNat_of_nonneg g1]
  exact ⟨g3,hw _ (gS (by have:=h.len; show i < r.length; rw [this]; exact hi)) k hk⟩
def ij(t:Nat→Int)(r:List (List Int))(k:Int):Nat→Int
 | 0=>0
 | i+1=>ij t r k i+if k∈nth r i then t i else 0
def yf(t:Nat→Int)(r:List (List Int))(D:Nat):Nat→Int
 | 0=>0
 | k+1=>max (yf t r D k) (ij t r (k:Int) D)
theorem akn{t:Nat→Int}{r:List (List Int)}{D:Nat}{m:Int}:∀ {n:Nat},yf t r D n≤m↔0≤m∧∀ k:Nat,k < n→ij t r (k:Int) D≤m
 | 0=>by simp [yf]
 | n+1=>by
  simp only [yf]
  rw [show (max (yf t r D n) (ij t r (n:Int) D)≤m)↔(yf t r D n≤m∧ij t r (n:Int) D≤m) by omega,akn (n:=n)]
  constructor
  ·rintro ⟨⟨h1,h2⟩,h3⟩
   refine ⟨h1,λ k hk=>?_⟩
   by_cases e:k=n
   ·subst e; exact h3
   ·exact h2 k (by omega)
  ·rintro ⟨h1,h2⟩
   exact ⟨⟨h1,λ k hk=>h2 k (by omega)⟩,h2 n (by omega)⟩
theorem ajl{t:Nat→Int}{r:List (List Int)}{k:Int}:∀ {D:Nat},(∀ i,i < D→k ∉ nth r i)→ij t r k D=0
 | 0,_=>rfl
 | D+1,h=>by simp only [ij,ajl (D:=D) λ i hi=>h i (by omega),if_neg (h D (by omega))]; rfl
def jG{α:Type}(w:α→Int):α→List α→α
 | x,[]=>x
 | x,y::l=>jG w (if w y < w x then y else x) l
section
variable {α O:Type} [Inhabited α]
theorem aoI{l:List α}{i:Nat}(h:i < l.length):l.drop i=nth l i::l.drop (i+1):=by
 rw [List.drop_eq_getElem_cons h]
 have h3:=cw h
 rw [oa h] at h3
 rw [lV h3]
theorem ahc{l:List α}(p:α→Bool)(g:Nat→α→O){body:Int→Option (Int ⊕ (Unit ⊕ O))} (h:∀ i,i < l.length→body (i:Int)=some (if p (nth l i)=true then .inr (.inr (g i (nth l i))) else .inl ((i+1:Nat):Int)))
  (hn:body (l.length:Int)=some (.inr (.inl ()))) {o:Unit ⊕ O} (ho:(∀ i,i < l.length→p (nth l i)=true→(∀ j,j < i→p (nth l j)=false)→o = .inr (g i (nth l i)))∧((∀ x∈l,p x=false)→o = .inl ())):bE body 0=some o:=by
 have key:∀ k i,i+k=l.length→(∀ j,j < i→p (nth l j)=false)→bE body (i:Int)=some o:=by
  intro k
  induction k with
  | zero =>
   intro i hi hb
   obtain rfl:i=l.length:=by omega
   rw [ho.2 λ x hx=>by obtain ⟨j,hj,rfl⟩:=vJ hx; exact hb j hj]
   exact vx hn
  | succ k ih =>
   intro i hi hb
   have JU:=h i (by omega)
   cases hp:p (nth l i) with
   | true =>
    rw [hp,if_pos rfl] at JU
    rw [ho.1 i (by omega) hp hb]
    exact vx JU
   | false =>
    rw [hp,if_neg (by simp)] at JU
    rw [DW JU]
    exact ih (i+1) (by omega) λ j hj=>by
     by_cases e:j=i
     ·subst e; exact hp
     ·exact hb j (by omega)
 exact key l.length 0 (by omega) λ j hj=>by omega
theorem ahd{l:List α}(p:α→Bool)(g:α→O){body:Int→Option (Int ⊕ (Unit ⊕ O))} (h:∀ i,i < l.length→body (i:Int)=some (if p (nth l i)=true then .inr (.inr (g (nth l i))) else .inl ((i+1:Nat):Int)))
  (hn:body (l.length:Int)=some (.inr (.inl ()))):bE body 0=some (match l.find? p with | some x=>.inr (g x) | none=>.inl ()):=by
 refine ahc p (λ _ x=>g x) h hn ⟨λ i hi hp hb=>?_,λ hb=>?_⟩
 ·have:l.find? p=some (nth l i):=by
   rw [List.find?_eq_some_iff_append]
   refine ⟨hp,l.take i,l.drop (i+1),?_,λ x hx=>?_⟩
   ·rw [← aoI hi,List.take_append_drop]
   ·obtain ⟨j,hj,rfl⟩:=vJ hx
    have:j < i:=by simp at hj; omega
    rw [oB this,hb j this]; rfl
  rw [this]
 ·have:l.find? p=none:=by
   rw [List.find?_eq_none]
   intro x hx
   rw [hb x hx]; simp
  rw [this]
theorem DX{l:List α}(p:α→Bool)(c:O){body:Int→Option (Int ⊕ (Unit ⊕ O))}(h:∀ i,i < l.length→body (i:Int)=some (if p (nth l i)=true then .inl ((i+1:Nat):Int) else .inr (.inr c)))
  (hn:body (l.length:Int)=some (.inr (.inl ()))):bE body 0=some (if l.all p=true then .inl () else .inr c):=by
 refine ahc (λ x=>!p x) (λ _ _=>c) (λ i hi=>?_) hn ⟨λ i hi hp hb=>?_,λ hb=>?_⟩
 ·rw [h i hi]
  cases p (nth l i) <;> rfl
 ·rw [if_neg]
  intro ha
  rw [List.all_eq_true] at ha
  rw [ha _ (gS hi)] at hp
  cases hp
 ·rw [if_pos]
  rw [List.all_eq_true]
  intro x hx
  have:=hb x hx
  simpa using this
theorem Qp{n:Nat}(p:Nat→Bool)(c:O){body:Int→Option (Int ⊕ (Unit ⊕ O))}(h:∀ i,i < n→body (i:Int)=some (if p i=true then .inl ((i+1:Nat):Int) else .inr (.inr c)))
  (hn:body (n:Int)=some (.inr (.inl ()))):bE body 0=some (if (List.range n).all p=true then .inl () else .inr c):=by
 have e:∀ i,i < n→nth (List.range n) i=i:=λ i hi=>by
  have:=cw (l:=List.range n) (i:=i) (by simpa using hi)
  rw [List.getElem?_range hi] at this
  exact (lV this).symm
 refine DX (l:=List.range n) p c (λ i hi=>?_) (by rw [List.length_range]; exact hn)
 rw [List.length_range] at hi
 rw [h i hi,e i hi]
theorem aEe{l:List α}(p:α→Bool){body:Int × Int→Option ((Int × Int) ⊕ Int)} (h:∀ i n:Nat,i < l.length→n≤i→body ((n:Int),(i:Int))=some (.inl (if p (nth l i)=true then ((n+1:Nat):Int) else (n:Int),((i+1:Nat):Int))))
  (hn:∀ n:Int,body (n,(l.length:Int))=some (.inr n)):bE body (0,0)=some ((l.filter p).length:Int):=by
 refine (nm (λ i=>((((l.take i).filter p).length:Int),(i:Int))) l.length (λ i hi=>?_) (hn _):bE body ((0:Int),(0:Int))=_).trans ?_
 ·have hl:((l.take i).filter p).length≤i:=Nat.le_trans (List.length_filter_le _ _) (by rw [kT]; omega)
  rw [h i _ hi hl]
  have:l.take (i+1)=l.take i++[nth l i]:=by
   rw [List.take_add_one,cw hi]; rfl
  rw [this,List.filter_append,lU]
  cases hp:p (nth l i) <;> simp [hp]
 ·rw [List.take_length]
theorem aEg{l:List α}(p:α→Bool)(_:l.length≤1000){body:List α × Int→Option ((List α × Int) ⊕ List α)} (h:∀ i acc,i < l.length→acc.length≤i→body (acc,(i:Int))=some (.inl (if p (nth l i)=true then acc++[nth l i] else acc,((i+1:Nat):Int))))
  (hn:∀ acc,body (acc,(l.length:Int))=some (.inr acc)):bE body ([],0)=some (l.filter p):=by
 refine (nm (λ i=>((l.take i).filter p,(i:Int))) l.length (λ i hi=>?_) (hn _):bE body ([],(0:Int))=_).trans ?_
 ·have hl:((l.take i).filter p).length≤i:=Nat.le_trans (List.length_filter_le _ _) (by rw [kT]; omega)
  rw [h i _ hi hl]
  have:l.take (i+1)=l.take i++[nth l i]:=by
   rw [List.take_add_one,cw hi]; rfl
  rw [this,List.filter_append]
  cases hp:p (nth l i) <;> simp [hp]
 ·rw [List.take_length]
end
end Go.Lg
