/- Plain lists. Conditions: none. -/
import Derived.Test.YtihapemckcdicaaGreatDoorQFLgC
namespace Go.Lg
open Go.Conc
set_option maxRecDepth 10000
theorem tL{S O:Type}{body:S→Option (S ⊕ O)}(st:Nat→S)(n:Nat){o:O}(h:∀ i,i < n→body (st i)=some (.inl (st (i+1))))(hn:body (st n)=some (.inr o)):bD body (st 0)=some o:=by
 have key:∀ k,k≤n→bD body (st (n - k))=some o:=by
  intro k
  induction k with
  | zero=>intro _; exact vz hn
  | succ k ih =>
   intro hk
   rw [EH (h (n - (k+1)) (by omega)),show n - (k+1)+1=n - k by omega]
   exact ih (by omega)
 have:=key n (Nat.le_refl _)
 rwa [Nat.sub_self] at this
def eL{O:Type}(e:Nat→Option O):Nat→Nat→Option O
 | _,0=>none
 | i,k+1=>match e i with | some o=>some o | none=>eL e (i+1) k
def aeP{S O:Type}(s:S):Option O→S ⊕ O
 | some o=>.inr o
 | none=>.inl s
theorem ac0{S O:Type}{body:S→Option (S ⊕ O)}(st:Nat→S)(e:Nat→Option O)(i0 n:Nat){o:O}(h:∀ i,i0≤i→i < n→body (st i)=some (aeP (st (i+1)) (e i)))(hn:body (st n)=some (.inr o))(h0:i0≤n):bD body (st i0)=some ((eL e i0 (n - i0)).getD o):=by
 have key:∀ k,k≤n - i0→bD body (st (n - k))=some ((eL e (n - k) k).getD o):=by
  intro k
  induction k with
  | zero=>intro _; exact vz hn
  | succ k ih =>
   intro hk
   have hb:=h (n - (k+1)) (by omega) (by omega)
   unfold eL
   cases he:e (n - (k+1)) with
   | some o' =>
    rw [he] at hb
    exact vz hb
   | none =>
    rw [he] at hb
    rw [EH hb,show n - (k+1)+1=n - k by omega]
    exact ih (by omega)
 have:=key (n - i0) (Nat.le_refl _)
 rwa [show n - (n - i0)=i0 by omega] at this
theorem ay6{S O:Type}{body:S→Option (S ⊕ O)}(st:Nat→S)(e:Nat→Option O)(n:Nat){o:O}(h:∀ i,i < n→body (st i)=some (aeP (st (i+1)) (e i)))(hn:body (st n)=some (.inr o)):bD body (st 0)=some ((eL e 0 n).getD o):=by
 simpa using ac0 st e 0 n (λ i _ hi=>h i hi) hn (Nat.zero_le _)
theorem rI{O:Type}{e:Nat→Option O}:∀ {k i:Nat},eL e i k=none↔∀ j,i≤j→j < i+k→e j=none
 | 0,i=>by simp [eL]; omega
 | k+1,i=>by
  unfold eL
  cases he:e i with
  | some o=>simp; exact ⟨i,Nat.le_refl _,by omega,by rw [he]; simp⟩
  | none =>
   simp only
   rw [rI]
   constructor
   ·intro h j h1 h2
    by_cases hj:j=i
    ·subst hj; exact he
    ·exact h j (by omega) (by omega)
   ·intro h j h1 h2; exact h j (by omega) (by omega)
theorem wB{O:Type}{e:Nat→Option O}:∀ {k i:Nat} {o:O},eL e i k=some o→∃ j,i≤j∧j < i+k∧e j=some o∧∀ m,i≤m→m < j→e m=none
 | 0,i,o,h=>by cases h
 | k+1,i,o,h=>by
  unfold eL at h
  cases he:e i with
  | some o'=>rw [he] at h; cases h; exact ⟨i,Nat.le_refl _,by omega,he,λ m h1 h2=>by omega⟩
  | none =>
   rw [he] at h
   obtain ⟨j,h1,h2,h3,h4⟩:=wB h
   refine ⟨j,by omega,by omega,h3,λ m hm1 HZ=>?_⟩
   by_cases hm:m=i
   ·subst hm; exact he
   ·exact h4 m (by omega) HZ
@[simp] theorem b9 {α:Type} {a b:Option α}:ag true a b=a:=rfl
@[simp] theorem bI {α:Type} {a b:Option α}:ag false a b=b:=rfl
@[simp] theorem fZ {α:Type} (xs:List α) (k:Nat):idx xs (k:Int)=xs[k]? := by simp [idx]
theorem rS{z:Int}(h1 : -4611686018427387904≤z)(h2:z≤4611686018427387904):i64 z=z:=MV (by omega)
theorem fH{i:Nat}(h:i≤1000000000):i64 ((i:Int)+1)=((i+1:Nat):Int):=by rw [rS (by omega) (by omega)]; omega
theorem acy{i:Nat}(h:i≤1000000000)(h0:0 < i):i64 ((i:Int) - 1)=((i - 1:Nat):Int):=by rw [rS (by omega) (by omega)]; omega
theorem ajz{α:Type}{xs:List α}{k:Nat}(h:k≤xs.length):oN xs 0 (k:Int)=some (xs.take k):=by simp [oN,h]
theorem kF{α:Type}{xs ys:List α}(h:xs.length+ys.length≤16777216):eJ xs ys=some (xs++ys):=by simp [eJ,h]
def cD(n a c:Int):Bool:=decide (a≤n) && decide (n≤c)
def nth{α:Type}[Inhabited α](l:List α)(i:Nat):α:=l.getD i default
theorem dQ{α:Type}[Inhabited α]{l:List α}{i:Nat}(h:i < l.length):l[i]? = some (nth l i):=by
 unfold nth
 rw [List.getD_eq_getElem?_getD,List.getElem?_eq_getElem h]; rfl
theorem l8{α:Type}[Inhabited α]{l:List α}{i:Nat}(h:i < l.length):nth l i∈l:=List.mem_of_getElem? (dQ h)
theorem zO{α:Type}[Inhabited α]{l:List α}{x:α}(h:x∈l):∃ i,i < l.length∧nth l i=x:=by
 obtain ⟨i,hi,rfl⟩:=List.mem_iff_getElem.1 h
 refine ⟨i,hi,?_⟩
 have:=dQ hi
 rw [List.getElem?_eq_getElem hi] at this
 exact (Option.some.inj this).symm
theorem JR{α:Type}[Inhabited α]{l m:List α}(h:l.length=m.length)(he:∀ i,i < l.length→nth l i=nth m i):l=m:=by
 apply List.ext_getElem?
 intro i
 by_cases hi:i < l.length
 ·rw [dQ hi,dQ (h ▸ hi),he i hi]
 ·rw [List.getElem?_eq_none (by omega),List.getElem?_eq_none (by omega)]
theorem vG{α:Type}[Inhabited α]{l:List α}{i k:Nat}(h:i < k):nth (l.take k) i=nth l i:=by
 unfold nth
 rw [List.getD_eq_getElem?_getD,List.getD_eq_getElem?_getD,List.getElem?_take_of_lt h]
theorem oq{S O β:Type}{body:S→Option (S ⊕ O)}{s:S}{o:O}{f:O→Option β}(h:bD body s=some o):(bD body s).bind f=f o:=by rw [h]; rfl
theorem dec_lt{i:Nat}{n:Nat}(h:i < n):decide ((i:Int) < (n:Int))=true:=by simpa using h
theorem gB{n:Nat}:decide ((n:Int) < (n:Int))=false:=by simp
theorem aan{i:Nat}(h:0 < i):decide ((i:Int) > 0)=true:=by simpa using h
theorem aam{i:Nat}(h:¬ 0 < i):decide ((i:Int) > 0)=false:=by simpa using h
theorem ajO{O:Type}{f:Option O}{g:Unit→Option O}{d:O}(hd:g ()=some d):Sum.elim g (λ q=>some q) (((f.map Sum.inr).getD (.inl ())):Unit ⊕ O)=some (f.getD d):=by
 cases f with
 | none=>exact hd
 | some o=>rfl
theorem Rn{O Q:Type}(g:O→Q)(e:Nat→Option O):∀ (k i:Nat),eL (λ j=>(e j).map g) i k=(eL e i k).map g
 | 0,_=>rfl
 | k+1,i=>by
  unfold eL
  cases e i with
  | none=>exact Rn g e k (i+1)
  | some o=>rfl
theorem search{O:Type}{body:Int→Option (Int ⊕ (Unit ⊕ O))}(e:Nat→Option O)(i0 n:Nat){d:O}{g:Unit→Option O}(h:∀ i,i0≤i→i < n→body (i:Int)=some (match e i with | some o=>.inr (.inr o) | none=>.inl ((i+1:Nat):Int)))(hn:body (n:Int)=some (.inr (.inl ())))(h0:i0≤n)(hd:g ()=some d) :
  (bD body (i0:Int)).bind (Sum.elim g λ q=>some q)=some ((eL e i0 (n - i0)).getD d):=by
 refine (oq (ac0 (λ i=>(i:Int)) (λ i=>(e i).map Sum.inr) i0 n (o:=.inl ()) (λ i h1 h2=>?_) hn h0)).trans ?_
 ·rw [h i h1 h2]
  cases e i <;> rfl
 ·rw [Rn]
  exact ajO hd
theorem vO{O:Type}{body:Int→Option (Int ⊕ (Unit ⊕ O))}(e:Nat→Option O)(n:Nat){d:O}{g:Unit→Option O}(h:∀ i,i < n→body (i:Int)=some (match e i with | some o=>.inr (.inr o) | none=>.inl ((i+1:Nat):Int)))(hn:body (n:Int)=some (.inr (.inl ())))(hd:g ()=some d) :
  (bD body 0).bind (Sum.elim g λ q=>some q)=some ((eL e 0 n).getD d):=search e 0 n (λ i _ hi=>h i hi) hn (Nat.zero_le _) hd
theorem abw{α:Type}[Inhabited α](p:α→Bool)(l:List α):(eL (λ i=>if p (nth l i) then some true else none) 0 l.length).getD false=l.any p:=by
 cases h:eL (λ i=>if p (nth l i) then some true else none) 0 l.length with
 | none =>
  rw [rI] at h
  symm
  rw [Option.getD_none,List.any_eq_false]
  intro x hx
  obtain ⟨i,hi,rfl⟩:=zO hx
  have:=h i (Nat.zero_le _) (by omega)
  simpa using this
 | some o =>
  obtain ⟨j,_,hj,he,_⟩:=wB h
  split at he
  ·rename_i hp
   cases he
   symm
   rw [Option.getD_some,List.any_eq_true]
   exact ⟨nth l j,l8 (by omega),hp⟩
  ·cases he
theorem amV{α:Type}[Inhabited α](p:α→Bool)(l:List α):decide ((eL (λ i=>if p (nth l i) then some (i:Int) else none) 0 l.length).getD (-1) ≥ 0)=l.any p:=by
 rw [← abw p l]
 cases h:eL (λ i=>if p (nth l i) then some (i:Int) else none) 0 l.length with
 | none =>
  rw [rI] at h
  have:eL (λ i=>if p (nth l i) then some true else none) 0 l.length=none:=by
   rw [rI]
   intro j h1 h2
   have:=h j h1 h2
   cases hp:p (nth l j) with
   | true=>rw [hp] at this; cases this
   | false=>rfl
  rw [this]; rfl
 | some o =>
  obtain ⟨j,h1,h2,h3,h4⟩:=wB h
  split at h3
  ·rename_i hp
   cases h3
   have:eL (λ i=>if p (nth l i) then some true else none) 0 l.length=some true:=by
    cases hf:eL (λ i=>if p (nth l i) then some true else none) 0 l.length with
    | none=>rw [rI] at hf; have:=hf j h1 h2; rw [if_pos hp] at this; cases this
    | some b =>
     obtain ⟨_,_,_,hb,_⟩:=wB hf
     split at hb
     ·cases hb; rfl
     ·cases hb
   rw [this]
   simp
  ·cases h3
theorem Xg{O:Type}{body:Int→Option (Int ⊕ (Unit ⊕ O))}(e:Nat→Option O)(n:Nat)(h:∀ i,i < n→body (i:Int)=some (match e i with | some o=>.inr (.inr o) | none=>.inl ((i+1:Nat):Int)))(hn:body (n:Int)=some (.inr (.inl ()))) :
  bD body 0=some (match eL e 0 n with | some o=>.inr o | none=>.inl ()):=by
 refine (ay6 (λ i=>(i:Int)) (λ i=>(e i).map Sum.inr) n (o:=.inl ()) (λ i hi=>?_) hn).trans ?_
 ·rw [h i hi]
  cases e i <;> rfl
 ·rw [Rn]
  cases eL e 0 n <;> rfl
theorem abx{α O:Type}[Inhabited α](p:α→Bool)(c:O)(l:List α)(n:Nat)(hn:n≤l.length):eL (λ k=>if p (nth l k) then some c else none) 0 n=if (l.take n).any p then some c else none:=by
 cases h:eL (λ k=>if p (nth l k) then some c else none) 0 n with
 | none =>
  rw [rI] at h
  have:(l.take n).any p=false:=by
   rw [List.any_eq_false]
   intro x hx
   obtain ⟨i,hi,rfl⟩:=zO hx
   have oY:i < n:=by simp at hi; omega
   rw [vG oY]
   have:=h i (Nat.zero_le _) (by omega)
   simpa using this
  rw [this]; rfl
 | some o =>
  obtain ⟨j,_,hj,he,_⟩:=wB h
  split at he
  ·rename_i hp
   cases he
   have:(l.take n).any p=true:=by
    rw [List.any_eq_true]
    refine ⟨nth l j,?_,hp⟩
    rw [← vG (l:=l) (show j < n by omega)]
    exact l8 (by simp; omega)
   rw [this]; rfl
  ·cases he
def isLet(n:Int):Bool:=cD n 97 122
def xp(n:Int):Bool:=cD n 48 57
theorem Og(s:ByteArray):(gP s).length=s.size:=by simp [gP]
theorem aeW{s:ByteArray}{i:Nat}(h:i < s.size):0≤nth (gP s) i∧nth (gP s) i < 256:=by
 have hm:nth (gP s) i∈gP s:=l8 (by rw [Og]; exact h)
 unfold gP at hm
 obtain ⟨b,_,hb⟩:=List.mem_map.1 hm
 unfold gP
 rw [← hb]
 have:=b.toNat_lt
 omega
def nK(s:ByteArray)(i:Nat):Option Bool:=if isLet (nth (gP s) i)=false then (if i=0 then some false else if xp (nth (gP s) i)=false then some false else none) else none
def o6(s:ByteArray):Bool:=(eL (nK s) 0 s.size).getD (cD (s.size:Int) 1 12)
theorem acH{s:ByteArray}{k i:Nat}{o:Bool}(h:eL (nK s) i k=some o):o=false:=by
 obtain ⟨j,_,_,he,_⟩:=wB h
 unfold nK at he
 split at he
 ·split at he
  ·cases he; rfl
  ·split at he
   ·cases he; rfl
   ·cases he
 ·cases he
theorem pb{a:Int}(h:a≠0):(a != 0)=true:=by simpa using h
theorem iE{n a c:Int}:cD n a c=true↔a≤n∧n≤c:=by simp [cD]
theorem L5{e:Nat→Option Int}{n:Nat}(eH:∀ i,e i≠some 0)(h:(eL e 0 n).getD 0=0):∀ i,i < n→e i=none:=by
 cases hf:eL e 0 n with
 | none=>rw [rI] at hf; exact λ i hi=>hf i (Nat.zero_le _) (by omega)
 | some o =>
  rw [hf] at h
  obtain ⟨j,_,_,he,_⟩:=wB hf
  have:o=0:=h
  subst this
  exact absurd he (eH j)
def oQ{α S:Type}(ys:α→S→Option (S × Bool)):List α→S→Option (S × Bool)
 | [],s=>some (s,true)
 | a::l,s=>(ys a s).bind λ r=>if r.2=true then oQ ys l r.1 else some (r.1,false)
theorem abA{α S:Type}(ys:α→S→Option (S × Bool)):∀ (l m:List α) (s:S),oQ ys (l++m) s=(oQ ys l s).bind λ r=>if r.2=true then oQ ys m r.1 else some (r.1,false)
 | [],_,_=>by simp [oQ]
 | a::l,m,s=>by
  simp only [List.cons_append,oQ]
  cases ys a s with
  | none=>rfl
  | some r =>
   simp only [Option.bind_some]
   cases hr:r.2 with
   | true=>simp only [if_true]; exact abA ys l m r.1
   | false=>simp
theorem ac3{α X:Type}{body:List α × X→Option ((List α × X) ⊕ List α)}(x:Nat→X)(vP:Nat→List α)(n m:Nat)(acc:List α)(hm:∀ j,j < n→(vP j).length≤m)
  (h:∀ j l,j < n→l.length≤acc.length+j * m→body (l,x j)=some (.inl (l++vP j,x (j+1)))) (hn:∀ l,body (l,x n)=some (.inr l)):bD body (acc,x 0)=some (acc++(List.range n).flatMap vP):=by
 have hl:∀ j,j≤n→((List.range j).flatMap vP).length≤j * m:=by
  intro j
  induction j with
  | zero=>intro _; simp
  | succ j ih =>
   intro hj
   have:=ih (by omega)
   have:=hm j (by omega)
   rw [List.range_succ,List.flatMap_append,List.length_append,Nat.add_mul]
   simp only [List.flatMap_cons,List.flatMap_nil,List.append_nil]
   omega
 have:=tL (λ j=>(acc++(List.range j).flatMap vP,x j)) n (body:=body) (o:=acc++(List.range n).flatMap vP) (λ j hj=>?_) (hn _)
 ·simpa using this
 ·rw [h j _ hj (by rw [List.length_append]; have:=hl j (by omega); omega),List.range_succ,List.flatMap_append]
  simp
theorem amW{α β:Type}[Inhabited α](f:α→List β)(l:List α):(List.range l.length).flatMap (λ j=>f (nth l j))=l.flatMap f:=by
 have e:(List.range l.length).map (nth l)=l:=(JR (by simp) (λ i hi=>by
  rw [List.length_map,List.length_range] at hi
  have h1:=dQ (l:=(List.range l.length).map (nth l)) (i:=i) (by simpa using hi)
  simp only [List.getElem?_map,List.getElem?_range hi,Option.map_some,Option.some.injEq] at h1
  exact h1.symm))
 have h:((List.range l.length).map (nth l)).flatMap f=l.flatMap f:=by rw [e]
 rw [List.flatMap_map] at h
 exact h
theorem abz{α β:Type}(f:α→β):∀ l:List α,l.flatMap (λ x=>[f x])=l.map f
 | []=>rfl
 | a::l=>by rw [List.flatMap_cons,abz f l]; rfl
theorem aCz{i:Nat}(h:i≤5):3 ^ i≤243:=by
 match i,h with
 | 0,_=>decide
 | 1,_=>decide
 | 2,_=>decide
 | 3,_=>decide
 | 4,_=>decide
 | 5,_=>decide
theorem abB{α S O:Type}{body:α→S→Option (S ⊕ O)}(I:Nat→S→Prop)(f:α→S→S):∀ (l:List α) (k:Nat) (s:S),I k s→(∀ j s a,j < k+l.length→I j s→a∈l→body a s=some (.inl (f a s))∧I (j+1) (f a s)) →
  oQ (gm body) l (.inl s)=some (.inl (l.foldl (λ s a=>f a s) s),true)
 | [],_,_,_,_=>rfl
 | a::l,k,s,hI,h=>by
  obtain ⟨h1,h2⟩:=h k s a (by simp) hI (by simp)
  simp only [oQ,gm,h1,Option.map_some,Option.bind_some,Sum.isLeft_inl,if_true,List.foldl_cons]
  exact abB I f l (k+1) _ h2 (λ j s a' hj hI ha=>h j s a' (by simp only [List.length_cons]; omega) hI (by simp [ha]))
def cp(n a:Nat):List Int:=((List.range n).filter λ i=>a.testBit i).map λ (i:Nat)=>(i:Int)
def mG:List Int→List Int→Bool
 | [],[]=>false
 | [],_::_=>true
 | _::_,[]=>false
 | a::l,c::m=>decide (a < c) || (a == c && mG l m)
def lq(l m:List Int):Bool:=decide (l.length < m.length) || (l.length == m.length && mG l m)
theorem abD{n:Nat}:∀ i,i < n→(2 ^ n - 1).testBit i=true:=λ i hi=>by rw [Nat.testBit_two_pow_sub_one]; simpa using hi
theorem aCA{n:Nat}(h:n < 5):2 ^ n≤16:=by
 match n,h with
 | 0,_=>decide
 | 1,_=>decide
 | 2,_=>decide
 | 3,_=>decide
 | 4,_=>decide
def AP(a c:List Int)(i:Nat):Option Bool:=if a.length≤i then some true else if nth a i < nth c i then some true else if nth a i > nth c i then some false else none
def DX(a c:List Int):Bool:=(eL (AP a c) 0 c.length).getD false
theorem aby{α β:Type}(f:α→List β)(m:Nat)(h:∀ a,(f a).length≤m):∀ l:List α,(l.flatMap f).length≤l.length * m
 | []=>by simp
 | a::l=>by
  have:=aby f m h l
  have:=h a
  simp only [List.flatMap_cons,List.length_append,List.length_cons,Nat.add_mul,Nat.one_mul]
  omega
theorem adK{w x:Int}:pX w [x]=max w x:=by
 show (if x > w then x else w)=_
 rw [Int.max_def]
 split <;> split <;> omega
theorem Fo{w x:Int}:vE w [x]=min w x:=by
 show (if x < w then x else w)=_
 rw [Int.min_def]
 split <;> split <;> omega
theorem aBH{α:Type}[Inhabited α]{m:List α}{w:Nat}{x:α}(h:w < m.length):nth (m.set w x) w=x:=by
 unfold nth
 rw [List.getD_eq_getElem?_getD,List.getElem?_set_self h]
 rfl
theorem adU{α:Type}[Inhabited α]{m:List α}{w i:Nat}{x:α}(h:w≠i):nth (m.set w x) i=nth m i:=by
 unfold nth
 rw [List.getD_eq_getElem?_getD,List.getD_eq_getElem?_getD,List.getElem?_set_ne h]
end Go.Lg
namespace Go.Lg
open Go.Conc
section
variable {α:Type}
def lvl(ext:Nat→List α→List α):Nat→List (List α)
 | 0=>[[]]
 | i+1=>(lvl ext i).flatMap λ p=>(ext i p).map λ x=>p++[x]
def tree(ext:Nat→List α→List α):Nat→Nat→List α→List (List α)
 | 0,_,p=>[p]
 | j+1,i,p=>(ext i p).flatMap λ x=>tree ext j (i+1) (p++[x])
theorem ac8(ext:Nat→List α→List α):∀ j i,(lvl ext i).flatMap (tree ext j i)=lvl ext (i+j)
 | 0,i=>by simp [tree]
 | j+1,i=>by
  rw [show i+(j+1)=(i+1)+j by omega,← ac8 ext j (i+1)]
  simp only [lvl,tree,List.flatMap_assoc,List.flatMap_map]
theorem aEk(ext:Nat→List α→List α)(n:Nat):tree ext n 0 []=lvl ext n:=by
 have:=ac8 ext n 0
 rw [Nat.zero_add] at this
 rw [← this]
 simp [lvl]
theorem WM[Inhabited α]{p q:List α}{i:Nat}(h:i < p.length):nth (p++q) i=nth p i:=by
 unfold nth
 rw [List.getD_eq_getElem?_getD,List.getD_eq_getElem?_getD,List.getElem?_append_left h]
theorem adT[Inhabited α]{p:List α}{x:α}:nth (p++[x]) p.length=x:=by
 unfold nth
 rw [List.getD_eq_getElem?_getD,List.getElem?_append_right (Nat.le_refl _),Nat.sub_self]
 rfl
theorem aDD[Inhabited α]{r:List α}{n:Nat}(h:r.length=n+1):r=r.take n++[nth r n]:=by
 have h1:n < r.length:=by omega
 have h2:=List.take_succ_eq_append_getElem h1
 rw [List.take_of_length_le (by omega)] at h2
 have h3:=dQ h1
 rw [List.getElem?_eq_getElem h1] at h3
 rw [← Option.some.inj h3]
 exact h2
theorem Nt[Inhabited α]{ext:Nat→List α→List α}:∀ {n:Nat} {r:List α},r∈lvl ext n↔r.length=n∧∀ i,i < n→nth r i∈ext i (r.take i)
 | 0,r=>by
  simp only [lvl,List.mem_singleton]
  constructor
  ·rintro rfl; exact ⟨rfl,λ i hi=>by omega⟩
  ·rintro ⟨h,_⟩; exact List.length_eq_zero_iff.1 h
 | n+1,r=>by
  simp only [lvl,List.mem_flatMap,List.mem_map]
  constructor
  ·rintro ⟨p,hp,x,hx,rfl⟩
   obtain ⟨h1,h2⟩:=Nt.1 hp
   refine ⟨by simp [h1],λ i hi=>?_⟩
   by_cases wS:i < n
   ·rw [WM (by omega),List.take_append_of_le_length (by omega)]
    exact h2 i wS
   ·obtain rfl:i=p.length:=by omega
    rw [adT,List.take_append_of_le_length (Nat.le_refl _),List.take_length,h1]
    exact hx
  ·rintro ⟨h1,h2⟩
   refine ⟨r.take n,Nt.2 ⟨by simp; omega,λ i hi=>?_⟩,nth r n,h2 n (by omega),(aDD h1).symm⟩
   rw [vG hi,List.take_take,Nat.min_eq_left (by omega)]
   exact h2 i (by omega)
def M7[Inhabited α](lt:α→α→Prop)(p q:List α):Prop:=∃ k,k < p.length∧k < q.length∧p.take k=q.take k∧lt (nth p k) (nth q k)
theorem ay2[Inhabited α]{lt:α→α→Prop}(h:∀ x,¬ lt x x)(p:List α):¬ M7 lt p p:=λ ⟨_,_,_,_,hk⟩=>h _ hk
theorem ay1[Inhabited α]{lt:α→α→Prop}(h:∀ x,¬ lt x x)(ha:∀ x y,lt x y→¬ lt y x){p q:List α}(h1:M7 lt p q):¬ M7 lt q p:=by
 obtain ⟨k,k1,k2,k3,k4⟩:=h1
 rintro ⟨m,m1,m2,m3,m4⟩
 rcases Nat.lt_trichotomy k m with HW | rfl | HW
 ·have e:nth p k=nth q k:=by rw [← vG (l:=p) HW,← vG (l:=q) HW,m3]
  rw [e] at k4
  exact h _ k4
 ·exact ha _ _ k4 m4
 ·have e:nth p m=nth q m:=by rw [← vG (l:=p) HW,← vG (l:=q) HW,k3]
  rw [e] at m4
  exact h _ m4
end
end Go.Lg
namespace Go.Lg
open Go.Conc
def sF(n:Nat):List Int:=(List.range n).map λ (i:Nat)=>(i:Int)
theorem aEp(n:Nat):(sF n).length=n:=by simp [sF]
theorem aEq(n:Nat):sF (n+1)=sF n++[(n:Int)]:=by simp [sF,List.range_succ]
theorem acA(x:Int):¬ x < x:=by omega
theorem ax5(x y:Int)(h:x < y):¬ y < x:=by omega
abbrev J5:List Int→List Int→Prop:=M7 (· < ·)
theorem aeC(c:List Int):¬ J5 c c:=ay2 acA c
theorem aDe(c d:List Int)(h:J5 c d):¬ J5 d c:=ay1 acA ax5 h
end Go.Lg
namespace Go.Lg
open Go.Conc
theorem aBw{n a:Nat}{k:Int}:k∈cp n a↔(0≤k∧k < (n:Int))∧a.testBit k.toNat=true:=by
 simp only [cp,List.mem_map,List.mem_filter,List.mem_range]
 constructor
 ·rintro ⟨i,⟨h1,h2⟩,rfl⟩; exact ⟨by omega,by simpa using h2⟩
 ·rintro ⟨h1,h2⟩; exact ⟨k.toNat,⟨by omega,h2⟩,by omega⟩
theorem aBt(p:Nat→Bool):∀ n,∃ a,a < 2 ^ n∧∀ i,i < n→a.testBit i=p i
 | 0=>⟨0,by simp,λ i hi=>by omega⟩
 | n+1=>by
  obtain ⟨a,ha,h⟩:=aBt p n
  cases hp:p n with
  | false =>
   refine ⟨a,by rw [Nat.pow_succ]; omega,λ i hi=>?_⟩
   by_cases e:i=n
   ·subst e; rw [hp]; exact Nat.testBit_lt_two_pow ha
   ·exact h i (by omega)
  | true =>
   refine ⟨2 ^ n+a,by rw [Nat.pow_succ]; omega,λ i hi=>?_⟩
   by_cases e:i=n
   ·subst e
    rw [hp,Nat.testBit_two_pow_add_eq,Nat.testBit_lt_two_pow ha]; rfl
   ·rw [Nat.testBit_two_pow_add_gt (by omega)]
    exact h i (by omega)
theorem acS:∀ {a c d:List Int},mG a c=true→mG c d=true→mG a d=true
 | [],_,[],h1,h2=>by cases ‹List Int› <;> simp [mG] at h1 h2
 | [],_,_::_,_,_=>rfl
 | x::a,[],_,h1,_=>by simp [mG] at h1
 | x::a,y::c,[],_,h2=>by simp [mG] at h2
 | x::a,y::c,z::d,h1,h2=>by
  simp only [mG,Bool.or_eq_true,Bool.and_eq_true,decide_eq_true_eq,beq_iff_eq] at h1 h2 ⊢
  rcases h1 with h1 | ⟨h1,g1⟩ <;> rcases h2 with h2 | ⟨h2,g2⟩
  ·left; omega
  ·left; omega
  ·left; omega
  ·right; exact ⟨by omega,acS g1 g2⟩
theorem acR:∀ a:List Int,mG a a=false
 | []=>rfl
 | x::a=>by simp [mG,acR a]
theorem acT:∀ {a c:List Int},mG a c=false→mG c a=false→a=c
 | [],[],_,_=>rfl
 | [],_::_,h,_=>by simp [mG] at h
 | _::_,[],_,h=>by simp [mG] at h
 | x::a,y::c,h1,h2=>by
  simp only [mG,Bool.or_eq_false_iff,Bool.and_eq_false_iff,decide_eq_false_iff_not,beq_eq_false_iff_ne] at h1 h2
  have e:x=y:=by omega
  subst e
  have g1:=h1.2.resolve_left (by simp)
  have g2:=h2.2.resolve_left (by simp)
  rw [acT g1 g2]
theorem Rm(a:List Int):lq a a=false:=by simp [lq,acR]
theorem abu{a c d:List Int}(h1:lq a c=true)(h2:lq c d=true):lq a d=true:=by
 simp only [lq,Bool.or_eq_true,Bool.and_eq_true,decide_eq_true_eq,beq_iff_eq] at h1 h2 ⊢
 rcases h1 with h1 | ⟨h1,g1⟩ <;> rcases h2 with h2 | ⟨h2,g2⟩
 ·left; omega
 ·left; omega
 ·left; omega
 ·right; exact ⟨by omega,acS g1 g2⟩
theorem amn{a c:List Int}(h1:lq a c=false)(h2:lq c a=false):a=c:=by
 simp only [lq,Bool.or_eq_false_iff,Bool.and_eq_false_iff,decide_eq_false_iff_not,beq_eq_false_iff_ne] at h1 h2
 have e:a.length=c.length:=by omega
 exact acT (h1.2.resolve_left (by simpa using e)) (h2.2.resolve_left (by simpa using e.symm))
structure cj (n:Nat) (P:Nat→Bool) (l:List Int):Prop where
 ex:∃ a,a < 2 ^ n∧P a=true∧l=cp n a
 min:∀ c,c < 2 ^ n→P c=true→lq (cp n c) l=false
theorem cj.uniq{n:Nat}{P:Nat→Bool}{l m:List Int}(h:cj n P l)(h':cj n P m):l=m:=by
 obtain ⟨a,h1,h2,rfl⟩:=h.ex
 obtain ⟨c,h3,h4,rfl⟩:=h'.ex
 exact amn (h'.min a h1 h2) (h.min c h3 h4)
def FY(n:Nat)(P:Nat→Bool)(s:List Int × Bool)(a:Nat):List Int × Bool:=if ((!s.2 || lq (cp n a) s.1) && P a)=true then (cp n a,true) else s
def gH(n:Nat)(P:Nat→Bool):Nat→List Int × Bool
 | 0=>([],false)
 | k+1=>FY n P (gH n P k) k
theorem N9(n:Nat)(P:Nat→Bool):∀ k,((gH n P k).2=false∧(gH n P k).1=[]∧∀ a,a < k→P a=false) ∨
  ((gH n P k).2=true∧(∃ a,a < k∧P a=true∧(gH n P k).1=cp n a)∧∀ c,c < k→P c=true→lq (cp n c) (gH n P k).1=false)
 | 0=>.inl ⟨rfl,rfl,λ a ha=>by omega⟩
 | k+1=>by
  rcases N9 n P k with ⟨h1,h2,h3⟩ | ⟨h1,⟨a,ha,hP,h2⟩,h3⟩
  ·cases hk:P k with
   | false =>
    have e:gH n P (k+1)=gH n P k:=by simp [gH,FY,hk]
    rw [e]
    exact .inl ⟨h1,h2,λ a ha=>by
     by_cases x:a=k
     ·subst x; exact hk
     ·exact h3 a (by omega)⟩
   | true =>
    have e:gH n P (k+1)=(cp n k,true):=by simp [gH,FY,hk,h1]
    rw [e]
    refine .inr ⟨rfl,⟨k,by omega,hk,rfl⟩,λ c hc ql=>?_⟩
    by_cases x:c=k
    ·subst x; exact Rm _
    ·rw [h3 c (by omega)] at ql; cases ql
  ·cases hf:(lq (cp n k) (gH n P k).1 && P k) with
   | false =>
    have e:gH n P (k+1)=gH n P k:=by simp [gH,FY,h1,hf]
    rw [e]
    refine .inr ⟨h1,⟨a,by omega,hP,h2⟩,λ c hc ql=>?_⟩
    by_cases x:c=k
    ·subst x; simpa [ql] using hf
    ·exact h3 c (by omega) ql
   | true =>
    have e:gH n P (k+1)=(cp n k,true):=by simp [gH,FY,h1,hf]
    rw [e]
    rw [Bool.and_eq_true] at hf
    refine .inr ⟨rfl,⟨k,by omega,hf.2,rfl⟩,λ c hc ql=>?_⟩
    by_cases x:c=k
    ·subst x; exact Rm _
    ·cases hx:lq (cp n c) (cp n k) with
     | false=>rfl
     | true =>
      have:=h3 c (by omega) ql
      rw [abu hx hf.1] at this
      cases this
theorem aDB{n:Nat}{P:Nat→Bool}(h:∀ a,a < 2 ^ n→P a=false):gH n P (2 ^ n)=([],false):=by
 rcases N9 n P (2 ^ n) with ⟨h1,h2,_⟩ | ⟨_,⟨a,ha,hP,_⟩,_⟩
 ·exact Prod.ext h2 h1
 ·rw [h a ha] at hP; cases hP
theorem aDC{n:Nat}{P:Nat→Bool}{a:Nat}(ha:a < 2 ^ n)(h:P a=true):(gH n P (2 ^ n)).2=true∧cj n P (gH n P (2 ^ n)).1:=by
 rcases N9 n P (2 ^ n) with ⟨_,_,h3⟩ | ⟨h1,h2,h3⟩
 ·rw [h3 a ha] at h; cases h
 ·exact ⟨h1,⟨h2,h3⟩⟩
end Go.Lg
namespace Go.Lg
open Go.Conc
section
variable {α O:Type} [Inhabited α]
theorem aar{l:List α}{i:Nat}(h:i < l.length):l.drop i=nth l i::l.drop (i+1):=by
 rw [List.drop_eq_getElem_cons h]
 have h3:=dQ h
 rw [List.getElem?_eq_getElem h] at h3
 rw [Option.some.inj h3]
theorem ac1{l:List α}(p:α→Bool)(g:Nat→α→O){body:Int→Option (Int ⊕ (Unit ⊕ O))} (h:∀ i,i < l.length→body (i:Int)=some (if p (nth l i)=true then .inr (.inr (g i (nth l i))) else .inl ((i+1:Nat):Int)))
  (hn:body (l.length:Int)=some (.inr (.inl ()))) {o:Unit ⊕ O} (ho:(∀ i,i < l.length→p (nth l i)=true→(∀ j,j < i→p (nth l j)=false)→o = .inr (g i (nth l i)))∧((∀ x∈l,p x=false)→o = .inl ())):bD body 0=some o:=by
 have key:∀ k i,i+k=l.length→(∀ j,j < i→p (nth l j)=false)→bD body (i:Int)=some o:=by
  intro k
  induction k with
  | zero =>
   intro i hi hb
   obtain rfl:i=l.length:=by omega
   rw [ho.2 λ x hx=>by obtain ⟨j,hj,rfl⟩:=zO hx; exact hb j hj]
   exact vz hn
  | succ k ih =>
   intro i hi hb
   have Mh:=h i (by omega)
   cases hp:p (nth l i) with
   | true =>
    rw [hp,if_pos rfl] at Mh
    rw [ho.1 i (by omega) hp hb]
    exact vz Mh
   | false =>
    rw [hp,if_neg (by simp)] at Mh
    rw [EH Mh]
    exact ih (i+1) (by omega) λ j hj=>by
     by_cases e:j=i
     ·subst e; exact hp
     ·exact hb j (by omega)
 exact key l.length 0 (by omega) λ j hj=>by omega
theorem ac2{l:List α}(p:α→Bool)(g:α→O){body:Int→Option (Int ⊕ (Unit ⊕ O))} (h:∀ i,i < l.length→body (i:Int)=some (if p (nth l i)=true then .inr (.inr (g (nth l i))) else .inl ((i+1:Nat):Int)))
  (hn:body (l.length:Int)=some (.inr (.inl ()))):bD body 0=some (match l.find? p with | some x=>.inr (g x) | none=>.inl ()):=by
 refine ac1 p (λ _ x=>g x) h hn ⟨λ i hi hp hb=>?_,λ hb=>?_⟩
 ·have:l.find? p=some (nth l i):=by
   rw [List.find?_eq_some_iff_append]
   refine ⟨hp,l.take i,l.drop (i+1),?_,λ x hx=>?_⟩
   ·rw [← aar hi,List.take_append_drop]
   ·obtain ⟨j,hj,rfl⟩:=zO hx
    have:j < i:=by simp at hj; omega
    rw [vG this,hb j this]; rfl
  rw [this]
 ·have:l.find? p=none:=by
   rw [List.find?_eq_none]
   intro x hx
   rw [hb x hx]; simp
  rw [this]
theorem acY{l:List α}(p:α→Bool)(c:O){body:Int→Option (Int ⊕ (Unit ⊕ O))}(h:∀ i,i < l.length→body (i:Int)=some (if p (nth l i)=true then .inl ((i+1:Nat):Int) else .inr (.inr c)))
  (hn:body (l.length:Int)=some (.inr (.inl ()))):bD body 0=some (if l.all p=true then .inl () else .inr c):=by
 refine ac1 (λ x=>!p x) (λ _ _=>c) (λ i hi=>?_) hn ⟨λ i hi hp hb=>?_,λ hb=>?_⟩
 ·rw [h i hi]
  cases p (nth l i) <;> rfl
 ·rw [if_neg]
  intro ha
  rw [List.all_eq_true] at ha
  rw [ha _ (l8 hi)] at hp
  cases hp
 ·rw [if_pos]
  rw [List.all_eq_true]
  intro x hx
  have:=hb x hx
  simpa using this
theorem ay8{n:Nat}(p:Nat→Bool)(c:O){body:Int→Option (Int ⊕ (Unit ⊕ O))}(h:∀ i,i < n→body (i:Int)=some (if p i=true then .inl ((i+1:Nat):Int) else .inr (.inr c)))
  (hn:body (n:Int)=some (.inr (.inl ()))):bD body 0=some (if (List.range n).all p=true then .inl () else .inr c):=by
 have e:∀ i,i < n→nth (List.range n) i=i:=λ i hi=>by
  have:=dQ (l:=List.range n) (i:=i) (by simpa using hi)
  rw [List.getElem?_range hi] at this
  exact (Option.some.inj this).symm
 refine acY (l:=List.range n) p c (λ i hi=>?_) (by rw [List.length_range]; exact hn)
 rw [List.length_range] at hi
 rw [h i hi,e i hi]
theorem ay5{l:List α}(p:α→Bool){body:Int × Int→Option ((Int × Int) ⊕ Int)} (h:∀ i n:Nat,i < l.length→n≤i→body ((n:Int),(i:Int))=some (.inl (if p (nth l i)=true then ((n+1:Nat):Int) else (n:Int),((i+1:Nat):Int))))
  (hn:∀ n:Int,body (n,(l.length:Int))=some (.inr n)):bD body (0,0)=some ((l.filter p).length:Int):=by
 refine (tL (λ i=>((((l.take i).filter p).length:Int),(i:Int))) l.length (λ i hi=>?_) (hn _):bD body ((0:Int),(0:Int))=_).trans ?_
 ·have hl:((l.take i).filter p).length≤i:=Nat.le_trans (List.length_filter_le _ _) (by rw [List.length_take]; omega)
  rw [h i _ hi hl]
  have:l.take (i+1)=l.take i++[nth l i]:=by
   rw [List.take_add_one,dQ hi]; rfl
  rw [this,List.filter_append,List.length_append]
  cases hp:p (nth l i) <;> simp [hp]
 ·rw [List.take_length]
theorem ay7{l:List α}(p:α→Bool)(_:l.length≤1000){body:List α × Int→Option ((List α × Int) ⊕ List α)} (h:∀ i acc,i < l.length→acc.length≤i→body (acc,(i:Int))=some (.inl (if p (nth l i)=true then acc++[nth l i] else acc,((i+1:Nat):Int))))
  (hn:∀ acc,body (acc,(l.length:Int))=some (.inr acc)):bD body ([],0)=some (l.filter p):=by
 refine (tL (λ i=>((l.take i).filter p,(i:Int))) l.length (λ i hi=>?_) (hn _):bD body ([],(0:Int))=_).trans ?_
 ·have hl:((l.take i).filter p).length≤i:=Nat.le_trans (List.length_filter_le _ _) (by rw [List.length_take]; omega)
  rw [h i _ hi hl]
  have:l.take (i+1)=l.take i++[nth l i]:=by
   rw [List.take_add_one,dQ hi]; rfl
  rw [this,List.filter_append]
  cases hp:p (nth l i) <;> simp [hp]
 ·rw [List.take_length]
end
end Go.Lg
