/- Plain lists. Conditions: none. -/
import Derived.Test.YtihapemckcdicaaGreatDoorQDLgC
namespace Go.Lg
open Go.Conc
set_option maxRecDepth 10000
theorem S4{S O:Type}{body:S→Option (S ⊕ O)}(st:Nat→S)(n:Nat){o:O}(h:∀ i,i < n→body (st i)=some (.inl (st (i+1))))(hn:body (st n)=some (.inr o)):bN body (st 0)=some o:=by
 have key:∀ k,k≤n→bN body (st (n - k))=some o:=by
  intro k
  induction k with
  | zero=>intro _; exact yq hn
  | succ k ih =>
   intro hk
   rw [Hl (h (n - (k+1)) (by omega)),show n - (k+1)+1=n - k by omega]
   exact ih (by omega)
 have:=key n (Nat.le_refl _)
 rwa [Nat.sub_self] at this
def eH{O:Type}(e:Nat→Option O):Nat→Nat→Option O
 | _,0=>none
 | i,k+1=>match e i with | some o=>some o | none=>eH e (i+1) k
def abz{S O:Type}(s:S):Option O→S ⊕ O
 | some o=>.inr o
 | none=>.inl s
theorem Z3{S O:Type}{body:S→Option (S ⊕ O)}(st:Nat→S)(e:Nat→Option O)(i0 n:Nat){o:O}(h:∀ i,i0≤i→i < n→body (st i)=some (abz (st (i+1)) (e i)))(hn:body (st n)=some (.inr o))(h0:i0≤n):bN body (st i0)=some ((eH e i0 (n - i0)).getD o):=by
 have key:∀ k,k≤n - i0→bN body (st (n - k))=some ((eH e (n - k) k).getD o):=by
  intro k
  induction k with
  | zero=>intro _; exact yq hn
  | succ k ih =>
   intro hk
   have hb:=h (n - (k+1)) (by omega) (by omega)
   unfold eH
   cases he:e (n - (k+1)) with
   | some o' =>
    rw [he] at hb
    exact yq hb
   | none =>
    rw [he] at hb
    rw [Hl hb,show n - (k+1)+1=n - k by omega]
    exact ih (by omega)
 have:=key (n - i0) (Nat.le_refl _)
 rwa [show n - (n - i0)=i0 by omega] at this
theorem ath{S O:Type}{body:S→Option (S ⊕ O)}(st:Nat→S)(e:Nat→Option O)(n:Nat){o:O}(h:∀ i,i < n→body (st i)=some (abz (st (i+1)) (e i)))(hn:body (st n)=some (.inr o)):bN body (st 0)=some ((eH e 0 n).getD o):=by
 simpa using Z3 st e 0 n (λ i _ hi=>h i hi) hn (Nat.zero_le _)
theorem qO{O:Type}{e:Nat→Option O}:∀ {k i:Nat},eH e i k=none↔∀ j,i≤j→j < i+k→e j=none
 | 0,i=>by simp [eH]; omega
 | k+1,i=>by
  unfold eH
  cases he:e i with
  | some o=>simp; exact ⟨i,Nat.le_refl _,by omega,by rw [he]; simp⟩
  | none =>
   simp only
   rw [qO]
   constructor
   ·intro h j h1 h2
    by_cases hj:j=i
    ·subst hj; exact he
    ·exact h j (by omega) (by omega)
   ·intro h j h1 h2; exact h j (by omega) (by omega)
theorem xV{O:Type}{e:Nat→Option O}:∀ {k i:Nat} {o:O},eH e i k=some o→∃ j,i≤j∧j < i+k∧e j=some o∧∀ m,i≤m→m < j→e m=none
 | 0,i,o,h=>by cases h
 | k+1,i,o,h=>by
  unfold eH at h
  cases he:e i with
  | some o'=>rw [he] at h; cases h; exact ⟨i,Nat.le_refl _,by omega,he,λ m h1 h2=>by omega⟩
  | none =>
   rw [he] at h
   obtain ⟨j,h1,h2,h3,h4⟩:=xV h
   refine ⟨j,by omega,by omega,h3,λ m hm1 Gh=>?_⟩
   by_cases hm:m=i
   ·subst hm; exact he
   ·exact h4 m (by omega) Gh
@[simp] theorem fc {α:Type} {a b:Option α}:ag true a b=a:=rfl
@[simp] theorem dn {α:Type} {a b:Option α}:ag false a b=b:=rfl
@[simp] theorem j4 {α:Type} (xs:List α) (k:Nat):idx xs (k:Int)=xs[k]? := by simp [idx]
theorem pG{z:Int}(h1 : -4611686018427387904≤z)(h2:z≤4611686018427387904):i64 z=z:=KS (by omega)
theorem mb{i:Nat}(h:i≤1000000000):i64 ((i:Int)+1)=((i+1:Nat):Int):=by rw [pG (by omega) (by omega)]; omega
theorem Vm{i:Nat}(h:i≤1000000000)(h0:0 < i):i64 ((i:Int) - 1)=((i - 1:Nat):Int):=by rw [pG (by omega) (by omega)]; omega
theorem agv{α:Type}{xs:List α}{k:Nat}(h:k≤xs.length):od xs 0 (k:Int)=some (xs.take k):=by simp [od,h]
theorem U2{α:Type}{xs ys:List α}(h:xs.length+ys.length≤16777216):gb xs ys=some (xs++ys):=by simp [gb,h]
def cw(n a c:Int):Bool:=decide (a≤n) && decide (n≤c)
def nth{α:Type}[Inhabited α](l:List α)(i:Nat):α:=l.getD i default
theorem fh{α:Type}[Inhabited α]{l:List α}{i:Nat}(h:i < l.length):l[i]? = some (nth l i):=by
 unfold nth
 rw [List.getD_eq_getElem?_getD,List.getElem?_eq_getElem h]; rfl
theorem pr{α:Type}[Inhabited α]{l:List α}{i:Nat}(h:i < l.length):nth l i∈l:=List.mem_of_getElem? (fh h)
theorem yE{α:Type}[Inhabited α]{l:List α}{x:α}(h:x∈l):∃ i,i < l.length∧nth l i=x:=by
 obtain ⟨i,hi,rfl⟩:=List.mem_iff_getElem.1 h
 refine ⟨i,hi,?_⟩
 have:=fh hi
 rw [List.getElem?_eq_getElem hi] at this
 exact (Option.some.inj this).symm
theorem adH{α:Type}[Inhabited α]{l m:List α}(h:l.length=m.length)(he:∀ i,i < l.length→nth l i=nth m i):l=m:=by
 apply List.ext_getElem?
 intro i
 by_cases hi:i < l.length
 ·rw [fh hi,fh (h ▸ hi),he i hi]
 ·rw [List.getElem?_eq_none (by omega),List.getElem?_eq_none (by omega)]
theorem Lw{α:Type}[Inhabited α]{l:List α}{i k:Nat}(h:i < k):nth (l.take k) i=nth l i:=by
 unfold nth
 rw [List.getD_eq_getElem?_getD,List.getD_eq_getElem?_getD,List.getElem?_take_of_lt h]
theorem S3{S O β:Type}{body:S→Option (S ⊕ O)}{s:S}{o:O}{f:O→Option β}(h:bN body s=some o):(bN body s).bind f=f o:=by rw [h]; rfl
theorem dec_lt{i:Nat}{n:Nat}(h:i < n):decide ((i:Int) < (n:Int))=true:=by simpa using h
theorem mL{n:Nat}:decide ((n:Int) < (n:Int))=false:=by simp
theorem U7{i:Nat}(h:0 < i):decide ((i:Int) > 0)=true:=by simpa using h
theorem U6{i:Nat}(h:¬ 0 < i):decide ((i:Int) > 0)=false:=by simpa using h
theorem agL{O:Type}{f:Option O}{g:Unit→Option O}{d:O}(hd:g ()=some d):Sum.elim g (λ q=>some q) (((f.map Sum.inr).getD (.inl ())):Unit ⊕ O)=some (f.getD d):=by
 cases f with
 | none=>exact hd
 | some o=>rfl
theorem Pd{O Q:Type}(g:O→Q)(e:Nat→Option O):∀ (k i:Nat),eH (λ j=>(e j).map g) i k=(eH e i k).map g
 | 0,_=>rfl
 | k+1,i=>by
  unfold eH
  cases e i with
  | none=>exact Pd g e k (i+1)
  | some o=>rfl
theorem search{O:Type}{body:Int→Option (Int ⊕ (Unit ⊕ O))}(e:Nat→Option O)(i0 n:Nat){d:O}{g:Unit→Option O}(h:∀ i,i0≤i→i < n→body (i:Int)=some (match e i with | some o=>.inr (.inr o) | none=>.inl ((i+1:Nat):Int)))(hn:body (n:Int)=some (.inr (.inl ())))(h0:i0≤n)(hd:g ()=some d) :
  (bN body (i0:Int)).bind (Sum.elim g λ q=>some q)=some ((eH e i0 (n - i0)).getD d):=by
 refine (S3 (Z3 (λ i=>(i:Int)) (λ i=>(e i).map Sum.inr) i0 n (o:=.inl ()) (λ i h1 h2=>?_) hn h0)).trans ?_
 ·rw [h i h1 h2]
  cases e i <;> rfl
 ·rw [Pd]
  exact agL hd
theorem vf{O:Type}{body:Int→Option (Int ⊕ (Unit ⊕ O))}(e:Nat→Option O)(n:Nat){d:O}{g:Unit→Option O}(h:∀ i,i < n→body (i:Int)=some (match e i with | some o=>.inr (.inr o) | none=>.inl ((i+1:Nat):Int)))(hn:body (n:Int)=some (.inr (.inl ())))(hd:g ()=some d) :
  (bN body 0).bind (Sum.elim g λ q=>some q)=some ((eH e 0 n).getD d):=search e 0 n (λ i _ hi=>h i hi) hn (Nat.zero_le _) hd
def UU(l:List Int)(below:Int)(i:Nat):Option Int :=
 if cw (nth l i) 0 (below - 1)=false then some 6 else if 0 < i then (if nth l i≤nth l (i - 1) then some 7 else none) else none
def UW(l:List Int)(below:Int):Int:=(eH (UU l below) 0 l.length).getD 0
theorem YA{α:Type}[Inhabited α](p:α→Bool)(l:List α):(eH (λ i=>if p (nth l i) then some true else none) 0 l.length).getD false=l.any p:=by
 cases h:eH (λ i=>if p (nth l i) then some true else none) 0 l.length with
 | none =>
  rw [qO] at h
  symm
  rw [Option.getD_none,List.any_eq_false]
  intro x hx
  obtain ⟨i,hi,rfl⟩:=yE hx
  have:=h i (Nat.zero_le _) (by omega)
  simpa using this
 | some o =>
  obtain ⟨j,_,hj,he,_⟩:=xV h
  split at he
  ·rename_i hp
   cases he
   symm
   rw [Option.getD_some,List.any_eq_true]
   exact ⟨nth l j,pr (by omega),hp⟩
  ·cases he
theorem ajz{α:Type}[Inhabited α](p:α→Bool)(l:List α):decide ((eH (λ i=>if p (nth l i) then some (i:Int) else none) 0 l.length).getD (-1) ≥ 0)=l.any p:=by
 rw [← YA p l]
 cases h:eH (λ i=>if p (nth l i) then some (i:Int) else none) 0 l.length with
 | none =>
  rw [qO] at h
  have:eH (λ i=>if p (nth l i) then some true else none) 0 l.length=none:=by
   rw [qO]
   intro j h1 h2
   have:=h j h1 h2
   cases hp:p (nth l j) with
   | true=>rw [hp] at this; cases this
   | false=>rfl
  rw [this]; rfl
 | some o =>
  obtain ⟨j,h1,h2,h3,h4⟩:=xV h
  split at h3
  ·rename_i hp
   cases h3
   have:eH (λ i=>if p (nth l i) then some true else none) 0 l.length=some true:=by
    cases hf:eH (λ i=>if p (nth l i) then some true else none) 0 l.length with
    | none=>rw [qO] at hf; have:=hf j h1 h2; rw [if_pos hp] at this; cases this
    | some b =>
     obtain ⟨_,_,_,hb,_⟩:=xV hf
     split at hb
     ·cases hb; rfl
     ·cases hb
   rw [this]
   simp
  ·cases h3
theorem TU{O:Type}{body:Int→Option (Int ⊕ (Unit ⊕ O))}(e:Nat→Option O)(n:Nat)(h:∀ i,i < n→body (i:Int)=some (match e i with | some o=>.inr (.inr o) | none=>.inl ((i+1:Nat):Int)))(hn:body (n:Int)=some (.inr (.inl ()))) :
  bN body 0=some (match eH e 0 n with | some o=>.inr o | none=>.inl ()):=by
 refine (ath (λ i=>(i:Int)) (λ i=>(e i).map Sum.inr) n (o:=.inl ()) (λ i hi=>?_) hn).trans ?_
 ·rw [h i hi]
  cases e i <;> rfl
 ·rw [Pd]
  cases eH e 0 n <;> rfl
theorem YB{α O:Type}[Inhabited α](p:α→Bool)(c:O)(l:List α)(n:Nat)(hn:n≤l.length):eH (λ k=>if p (nth l k) then some c else none) 0 n=if (l.take n).any p then some c else none:=by
 cases h:eH (λ k=>if p (nth l k) then some c else none) 0 n with
 | none =>
  rw [qO] at h
  have:(l.take n).any p=false:=by
   rw [List.any_eq_false]
   intro x hx
   obtain ⟨i,hi,rfl⟩:=yE hx
   have oz:i < n:=by simp at hi; omega
   rw [Lw oz]
   have:=h i (Nat.zero_le _) (by omega)
   simpa using this
  rw [this]; rfl
 | some o =>
  obtain ⟨j,_,hj,he,_⟩:=xV h
  split at he
  ·rename_i hp
   cases he
   have:(l.take n).any p=true:=by
    rw [List.any_eq_true]
    refine ⟨nth l j,?_,hp⟩
    rw [← Lw (l:=l) (show j < n by omega)]
    exact pr (by simp; omega)
   rw [this]; rfl
  ·cases he
def isLet(n:Int):Bool:=cw n 97 122
def v8(n:Int):Bool:=cw n 48 57
theorem L2(s:ByteArray):(gx s).length=s.size:=by simp [gx]
theorem abG{s:ByteArray}{i:Nat}(h:i < s.size):0≤nth (gx s) i∧nth (gx s) i < 256:=by
 have hm:nth (gx s) i∈gx s:=pr (by rw [L2]; exact h)
 unfold gx at hm
 obtain ⟨b,_,hb⟩:=List.mem_map.1 hm
 unfold gx
 rw [← hb]
 have:=b.toNat_lt
 omega
def np(s:ByteArray)(i:Nat):Option Bool:=if isLet (nth (gx s) i)=false then (if i=0 then some false else if v8 (nth (gx s) i)=false then some false else none) else none
def pH(s:ByteArray):Bool:=(eH (np s) 0 s.size).getD (cw (s.size:Int) 1 12)
theorem adE{s:ByteArray}{k i:Nat}{o:Bool}(h:eH (np s) i k=some o):o=false:=by
 obtain ⟨j,_,_,he,_⟩:=xV h
 unfold np at he
 split at he
 ·split at he
  ·cases he; rfl
  ·split at he
   ·cases he; rfl
   ·cases he
 ·cases he
theorem IU{a:Int}(h:a≠0):(a != 0)=true:=by simpa using h
theorem jd{n a c:Int}:cw n a c=true↔a≤n∧n≤c:=by simp [cw]
theorem J5{e:Nat→Option Int}{n:Nat}(eB:∀ i,e i≠some 0)(h:(eH e 0 n).getD 0=0):∀ i,i < n→e i=none:=by
 cases hf:eH e 0 n with
 | none=>rw [qO] at hf; exact λ i hi=>hf i (Nat.zero_le _) (by omega)
 | some o =>
  rw [hf] at h
  obtain ⟨j,_,_,he,_⟩:=xV hf
  have:o=0:=h
  subst this
  exact absurd he (eB j)
theorem ate{n m:Nat}:((n:Int) != (m:Int))=decide (n≠m):=by
 by_cases h:n=m
 ·subst h; simp
 ·have:¬ (n:Int)=(m:Int):=by omega
  simp [h,this]
def nC{α S:Type}(ys:α→S→Option (S × Bool)):List α→S→Option (S × Bool)
 | [],s=>some (s,true)
 | a::l,s=>(ys a s).bind λ r=>if r.2=true then nC ys l r.1 else some (r.1,false)
theorem YC{α S:Type}(ys:α→S→Option (S × Bool)):∀ (l m:List α) (s:S),nC ys (l++m) s=(nC ys l s).bind λ r=>if r.2=true then nC ys m r.1 else some (r.1,false)
 | [],_,_=>by simp [nC]
 | a::l,m,s=>by
  simp only [List.cons_append,nC]
  cases ys a s with
  | none=>rfl
  | some r =>
   simp only [Option.bind_some]
   cases hr:r.2 with
   | true=>simp only [if_true]; exact YC ys l m r.1
   | false=>simp
theorem ajA{α β:Type}(f:α→β):∀ l:List α,l.flatMap (λ x=>[f x])=l.map f
 | []=>rfl
 | a::l=>by rw [List.flatMap_cons,ajA f l]; rfl
theorem adj{α S O:Type}{body:α→S→Option (S ⊕ O)}(I:Nat→S→Prop)(f:α→S→S):∀ (l:List α) (k:Nat) (s:S),I k s→(∀ j s a,j < k+l.length→I j s→a∈l→body a s=some (.inl (f a s))∧I (j+1) (f a s)) →
  nC (fB body) l (.inl s)=some (.inl (l.foldl (λ s a=>f a s) s),true)
 | [],_,_,_,_=>rfl
 | a::l,k,s,hI,h=>by
  obtain ⟨h1,h2⟩:=h k s a (by simp) hI (by simp)
  simp only [nC,fB,h1,Option.map_some,Option.bind_some,Sum.isLeft_inl,if_true,List.foldl_cons]
  exact adj I f l (k+1) _ h2 (λ j s a' hj hI ha=>h j s a' (by simp only [List.length_cons]; omega) hI (by simp [ha]))
def eX(n a:Nat):List Int:=((List.range n).filter λ i=>a.testBit i).map λ (i:Nat)=>(i:Int)
def qZ:List Int→List Int→Bool
 | [],[]=>false
 | [],_::_=>true
 | _::_,[]=>false
 | a::l,c::m=>decide (a < c) || (a == c && qZ l m)
def qA(l m:List Int):Bool:=decide (l.length < m.length) || (l.length == m.length && qZ l m)
theorem azA{n:Nat}:∀ i,i < n→(2 ^ n - 1).testBit i=true:=λ i hi=>by rw [Nat.testBit_two_pow_sub_one]; simpa using hi
theorem az5{n:Nat}(h:n < 5):2 ^ n≤16:=by
 match n,h with
 | 0,_=>decide
 | 1,_=>decide
 | 2,_=>decide
 | 3,_=>decide
 | 4,_=>decide
theorem ayX{n:Nat}:(((n:Nat):Int) == 0)=(n == 0):=by
 rw [Bool.eq_iff_iff,beq_iff_eq,beq_iff_eq]
 omega
theorem az1(n:Nat):eX n 0=[]:=by simp [eX]
theorem azz{α:Type}(p:α→Bool)(l:List α):(l.filter λ x=>!p x).length+(l.filter p).length=l.length:=by
 induction l with
 | nil=>rfl
 | cons a l ih =>
  simp only [List.filter_cons,List.length_cons]
  cases p a <;> simp <;> omega
theorem adi{α β:Type}(f:α→List β)(m:Nat)(h:∀ a,(f a).length≤m):∀ l:List α,(l.flatMap f).length≤l.length * m
 | []=>by simp
 | a::l=>by
  have:=adi f m h l
  have:=h a
  simp only [List.flatMap_cons,List.length_append,List.length_cons,Nat.add_mul,Nat.one_mul]
  omega
theorem ay6{w x:Int}:oE w [x]=max w x:=by
 show (if x > w then x else w)=_
 rw [Int.max_def]
 split <;> split <;> omega
theorem avq{α:Type}[Inhabited α]{m:List α}{w:Nat}{x:α}(h:w < m.length):nth (m.set w x) w=x:=by
 unfold nth
 rw [List.getD_eq_getElem?_getD,List.getElem?_set_self h]
 rfl
theorem aaF{α:Type}[Inhabited α]{m:List α}{w i:Nat}{x:α}(h:w≠i):nth (m.set w x) i=nth m i:=by
 unfold nth
 rw [List.getD_eq_getElem?_getD,List.getD_eq_getElem?_getD,List.getElem?_set_ne h]
theorem azq{l:List Int}{P:Int}(h:l.Pairwise (· < ·))(hp:∀ x∈l,0≤x∧x < P):UW l P=0:=by
 unfold UW
 rw [qO.2 λ i _ hi=>?_]
 ·rfl
 ·have hm:=hp _ (pr (l:=l) (i:=i) (by omega))
  unfold UU
  rw [if_neg (by rw [Bool.not_eq_false,jd]; omega)]
  by_cases h0:0 < i
  ·rw [if_pos h0,if_neg]
   rw [List.pairwise_iff_getElem] at h
   have h3:=h (i - 1) i (by omega) (by omega) (by omega)
   have e1:=fh (show i - 1 < l.length by omega)
   have e2:=fh (show i < l.length by omega)
   rw [List.getElem?_eq_getElem (by omega)] at e1 e2
   rw [Option.some.inj e1,Option.some.inj e2] at h3
   omega
  ·rw [if_neg h0]
theorem az4{α β:Type}[Inhabited α][Inhabited β](f:α→β){l:List α}{i:Nat}(h:i < l.length):nth (l.map f) i=f (nth l i):=by
 have h1:=fh (l:=l.map f) (i:=i) (by simpa using h)
 rw [List.getElem?_map,fh h] at h1
 exact (Option.some.inj h1).symm
end Go.Lg
namespace Go.Lg
open Go.Conc
section
variable {α:Type}
def lvl(ext:Nat→List α→List α):Nat→List (List α)
 | 0=>[[]]
 | i+1=>(lvl ext i).flatMap λ p=>(ext i p).map λ x=>p++[x]
def tree(ext:Nat→List α→List α):Nat→Nat→List α→List (List α)
 | 0,_,p=>[p]
 | j+1,i,p=>(ext i p).flatMap λ x=>tree ext j (i+1) (p++[x])
theorem Z8(ext:Nat→List α→List α):∀ j i,(lvl ext i).flatMap (tree ext j i)=lvl ext (i+j)
 | 0,i=>by simp [tree]
 | j+1,i=>by
  rw [show i+(j+1)=(i+1)+j by omega,← Z8 ext j (i+1)]
  simp only [lvl,tree,List.flatMap_assoc,List.flatMap_map]
theorem axK(ext:Nat→List α→List α)(n:Nat):tree ext n 0 []=lvl ext n:=by
 have:=Z8 ext n 0
 rw [Nat.zero_add] at this
 rw [← this]
 simp [lvl]
theorem Ts[Inhabited α]{p q:List α}{i:Nat}(h:i < p.length):nth (p++q) i=nth p i:=by
 unfold nth
 rw [List.getD_eq_getElem?_getD,List.getD_eq_getElem?_getD,List.getElem?_append_left h]
theorem aaE[Inhabited α]{p:List α}{x:α}:nth (p++[x]) p.length=x:=by
 unfold nth
 rw [List.getD_eq_getElem?_getD,List.getElem?_append_right (Nat.le_refl _),Nat.sub_self]
 rfl
theorem aw7[Inhabited α]{r:List α}{n:Nat}(h:r.length=n+1):r=r.take n++[nth r n]:=by
 have h1:n < r.length:=by omega
 have h2:=List.take_succ_eq_append_getElem h1
 rw [List.take_of_length_le (by omega)] at h2
 have h3:=fh h1
 rw [List.getElem?_eq_getElem h1] at h3
 rw [← Option.some.inj h3]
 exact h2
theorem Tl[Inhabited α]{ext:Nat→List α→List α}:∀ {n:Nat} {r:List α},r∈lvl ext n↔r.length=n∧∀ i,i < n→nth r i∈ext i (r.take i)
 | 0,r=>by
  simp only [lvl,List.mem_singleton]
  constructor
  ·rintro rfl; exact ⟨rfl,λ i hi=>by omega⟩
  ·rintro ⟨h,_⟩; exact List.length_eq_zero_iff.1 h
 | n+1,r=>by
  simp only [lvl,List.mem_flatMap,List.mem_map]
  constructor
  ·rintro ⟨p,hp,x,hx,rfl⟩
   obtain ⟨h1,h2⟩:=Tl.1 hp
   refine ⟨by simp [h1],λ i hi=>?_⟩
   by_cases xi:i < n
   ·rw [Ts (by omega),List.take_append_of_le_length (by omega)]
    exact h2 i xi
   ·obtain rfl:i=p.length:=by omega
    rw [aaE,List.take_append_of_le_length (Nat.le_refl _),List.take_length,h1]
    exact hx
  ·rintro ⟨h1,h2⟩
   refine ⟨r.take n,Tl.2 ⟨by simp; omega,λ i hi=>?_⟩,nth r n,h2 n (by omega),(aw7 h1).symm⟩
   rw [Lw hi,List.take_take,Nat.min_eq_left (by omega)]
   exact h2 i (by omega)
end
end Go.Lg
namespace Go.Lg
open Go.Conc
theorem az3{n a:Nat}{k:Int}:k∈eX n a↔(0≤k∧k < (n:Int))∧a.testBit k.toNat=true:=by
 simp only [eX,List.mem_map,List.mem_filter,List.mem_range]
 constructor
 ·rintro ⟨i,⟨h1,h2⟩,rfl⟩; exact ⟨by omega,by simpa using h2⟩
 ·rintro ⟨h1,h2⟩; exact ⟨k.toNat,⟨by omega,h2⟩,by omega⟩
theorem az2(n a:Nat):(eX n a).Pairwise (· < ·):=by
 unfold eX
 rw [List.pairwise_map]
 exact (List.pairwise_lt_range.filter _).imp λ h=>by omega
theorem avd(p:Nat→Bool):∀ n,∃ a,a < 2 ^ n∧∀ i,i < n→a.testBit i=p i
 | 0=>⟨0,by simp,λ i hi=>by omega⟩
 | n+1=>by
  obtain ⟨a,ha,h⟩:=avd p n
  cases hp:p n with
  | false =>
   refine ⟨a,by rw [Nat.pow_succ]; omega,λ i hi=>?_⟩
   by_cases e:i=n
   ·subst e; rw [hp]; exact Nat.testBit_lt_two_pow ha
   ·exact h i (by omega)
  | true =>
   refine ⟨2 ^ n+a,by rw [Nat.pow_succ]; omega,λ i hi=>?_⟩
   by_cases e:i=n
   ·subst e
    rw [hp,Nat.testBit_two_pow_add_eq,Nat.testBit_lt_two_pow ha]; rfl
   ·rw [Nat.testBit_two_pow_add_gt (by omega)]
    exact h i (by omega)
theorem ZY:∀ {a c d:List Int},qZ a c=true→qZ c d=true→qZ a d=true
 | [],_,[],h1,h2=>by cases ‹List Int› <;> simp [qZ] at h1 h2
 | [],_,_::_,_,_=>rfl
 | x::a,[],_,h1,_=>by simp [qZ] at h1
 | x::a,y::c,[],_,h2=>by simp [qZ] at h2
 | x::a,y::c,z::d,h1,h2=>by
  simp only [qZ,Bool.or_eq_true,Bool.and_eq_true,decide_eq_true_eq,beq_iff_eq] at h1 h2 ⊢
  rcases h1 with h1 | ⟨h1,g1⟩ <;> rcases h2 with h2 | ⟨h2,g2⟩
  ·left; omega
  ·left; omega
  ·left; omega
  ·right; exact ⟨by omega,ZY g1 g2⟩
theorem ZX:∀ a:List Int,qZ a a=false
 | []=>rfl
 | x::a=>by simp [qZ,ZX a]
theorem Yy(a:List Int):qA a a=false:=by simp [qA,ZX]
theorem ai1{a c d:List Int}(h1:qA a c=true)(h2:qA c d=true):qA a d=true:=by
 simp only [qA,Bool.or_eq_true,Bool.and_eq_true,decide_eq_true_eq,beq_iff_eq] at h1 h2 ⊢
 rcases h1 with h1 | ⟨h1,g1⟩ <;> rcases h2 with h2 | ⟨h2,g2⟩
 ·left; omega
 ·left; omega
 ·left; omega
 ·right; exact ⟨by omega,ZY g1 g2⟩
structure cH (n:Nat) (P:Nat→Bool) (l:List Int):Prop where
 ex:∃ a,a < 2 ^ n∧P a=true∧l=eX n a
 min:∀ c,c < 2 ^ n→P c=true→qA (eX n c) l=false
def ED(n:Nat)(P:Nat→Bool)(s:List Int × Bool)(a:Nat):List Int × Bool:=if ((!s.2 || qA (eX n a) s.1) && P a)=true then (eX n a,true) else s
def j3(n:Nat)(P:Nat→Bool):Nat→List Int × Bool
 | 0=>([],false)
 | k+1=>ED n P (j3 n P k) k
theorem Nk(n:Nat)(P:Nat→Bool):∀ k,((j3 n P k).2=false∧(j3 n P k).1=[]∧∀ a,a < k→P a=false) ∨
  ((j3 n P k).2=true∧(∃ a,a < k∧P a=true∧(j3 n P k).1=eX n a)∧∀ c,c < k→P c=true→qA (eX n c) (j3 n P k).1=false)
 | 0=>.inl ⟨rfl,rfl,λ a ha=>by omega⟩
 | k+1=>by
  rcases Nk n P k with ⟨h1,h2,h3⟩ | ⟨h1,⟨a,ha,hP,h2⟩,h3⟩
  ·cases hk:P k with
   | false =>
    have e:j3 n P (k+1)=j3 n P k:=by simp [j3,ED,hk]
    rw [e]
    exact .inl ⟨h1,h2,λ a ha=>by
     by_cases x:a=k
     ·subst x; exact hk
     ·exact h3 a (by omega)⟩
   | true =>
    have e:j3 n P (k+1)=(eX n k,true):=by simp [j3,ED,hk,h1]
    rw [e]
    refine .inr ⟨rfl,⟨k,by omega,hk,rfl⟩,λ c hc zO=>?_⟩
    by_cases x:c=k
    ·subst x; exact Yy _
    ·rw [h3 c (by omega)] at zO; cases zO
  ·cases hf:(qA (eX n k) (j3 n P k).1 && P k) with
   | false =>
    have e:j3 n P (k+1)=j3 n P k:=by simp [j3,ED,h1,hf]
    rw [e]
    refine .inr ⟨h1,⟨a,by omega,hP,h2⟩,λ c hc zO=>?_⟩
    by_cases x:c=k
    ·subst x; simpa [zO] using hf
    ·exact h3 c (by omega) zO
   | true =>
    have e:j3 n P (k+1)=(eX n k,true):=by simp [j3,ED,h1,hf]
    rw [e]
    rw [Bool.and_eq_true] at hf
    refine .inr ⟨rfl,⟨k,by omega,hf.2,rfl⟩,λ c hc zO=>?_⟩
    by_cases x:c=k
    ·subst x; exact Yy _
    ·cases hx:qA (eX n c) (eX n k) with
     | false=>rfl
     | true =>
      have:=h3 c (by omega) zO
      rw [ai1 hx hf.1] at this
      cases this
theorem aAa{n:Nat}{P:Nat→Bool}(h:∀ a,a < 2 ^ n→P a=false):j3 n P (2 ^ n)=([],false):=by
 rcases Nk n P (2 ^ n) with ⟨h1,h2,_⟩ | ⟨_,⟨a,ha,hP,_⟩,_⟩
 ·exact Prod.ext h2 h1
 ·rw [h a ha] at hP; cases hP
theorem aAb{n:Nat}{P:Nat→Bool}{a:Nat}(ha:a < 2 ^ n)(h:P a=true):(j3 n P (2 ^ n)).2=true∧cH n P (j3 n P (2 ^ n)).1:=by
 rcases Nk n P (2 ^ n) with ⟨_,_,h3⟩ | ⟨h1,h2,h3⟩
 ·rw [h3 a ha] at h; cases h
 ·exact ⟨h1,⟨h2,h3⟩⟩
end Go.Lg
namespace Go.Lg
open Go.Conc
section
variable {α O:Type} [Inhabited α]
theorem agF{l:List α}{i:Nat}(h:i < l.length):l.drop i=nth l i::l.drop (i+1):=by
 rw [List.drop_eq_getElem_cons h]
 have h3:=fh h
 rw [List.getElem?_eq_getElem h] at h3
 rw [Option.some.inj h3]
theorem Z4{l:List α}(p:α→Bool)(g:Nat→α→O){body:Int→Option (Int ⊕ (Unit ⊕ O))} (h:∀ i,i < l.length→body (i:Int)=some (if p (nth l i)=true then .inr (.inr (g i (nth l i))) else .inl ((i+1:Nat):Int)))
  (hn:body (l.length:Int)=some (.inr (.inl ()))) {o:Unit ⊕ O} (ho:(∀ i,i < l.length→p (nth l i)=true→(∀ j,j < i→p (nth l j)=false)→o = .inr (g i (nth l i)))∧((∀ x∈l,p x=false)→o = .inl ())):bN body 0=some o:=by
 have key:∀ k i,i+k=l.length→(∀ j,j < i→p (nth l j)=false)→bN body (i:Int)=some o:=by
  intro k
  induction k with
  | zero =>
   intro i hi hb
   obtain rfl:i=l.length:=by omega
   rw [ho.2 λ x hx=>by obtain ⟨j,hj,rfl⟩:=yE hx; exact hb j hj]
   exact yq hn
  | succ k ih =>
   intro i hi hb
   have Kh:=h i (by omega)
   cases hp:p (nth l i) with
   | true =>
    rw [hp,if_pos rfl] at Kh
    rw [ho.1 i (by omega) hp hb]
    exact yq Kh
   | false =>
    rw [hp,if_neg (by simp)] at Kh
    rw [Hl Kh]
    exact ih (i+1) (by omega) λ j hj=>by
     by_cases e:j=i
     ·subst e; exact hp
     ·exact hb j (by omega)
 exact key l.length 0 (by omega) λ j hj=>by omega
theorem ay0{l:List α}(p:α→Bool)(g:α→O){body:Int→Option (Int ⊕ (Unit ⊕ O))} (h:∀ i,i < l.length→body (i:Int)=some (if p (nth l i)=true then .inr (.inr (g (nth l i))) else .inl ((i+1:Nat):Int)))
  (hn:body (l.length:Int)=some (.inr (.inl ()))):bN body 0=some (match l.find? p with | some x=>.inr (g x) | none=>.inl ()):=by
 refine Z4 p (λ _ x=>g x) h hn ⟨λ i hi hp hb=>?_,λ hb=>?_⟩
 ·have:l.find? p=some (nth l i):=by
   rw [List.find?_eq_some_iff_append]
   refine ⟨hp,l.take i,l.drop (i+1),?_,λ x hx=>?_⟩
   ·rw [← agF hi,List.take_append_drop]
   ·obtain ⟨j,hj,rfl⟩:=yE hx
    have:j < i:=by simp at hj; omega
    rw [Lw this,hb j this]; rfl
  rw [this]
 ·have:l.find? p=none:=by
   rw [List.find?_eq_none]
   intro x hx
   rw [hb x hx]; simp
  rw [this]
theorem adF{l:List α}(p:α→Bool)(c:O){body:Int→Option (Int ⊕ (Unit ⊕ O))}(h:∀ i,i < l.length→body (i:Int)=some (if p (nth l i)=true then .inl ((i+1:Nat):Int) else .inr (.inr c)))
  (hn:body (l.length:Int)=some (.inr (.inl ()))):bN body 0=some (if l.all p=true then .inl () else .inr c):=by
 refine Z4 (λ x=>!p x) (λ _ _=>c) (λ i hi=>?_) hn ⟨λ i hi hp hb=>?_,λ hb=>?_⟩
 ·rw [h i hi]
  cases p (nth l i) <;> rfl
 ·rw [if_neg]
  intro ha
  rw [List.all_eq_true] at ha
  rw [ha _ (pr hi)] at hp
  cases hp
 ·rw [if_pos]
  rw [List.all_eq_true]
  intro x hx
  have:=hb x hx
  simpa using this
theorem ay1{n:Nat}(p:Nat→Bool)(c:O){body:Int→Option (Int ⊕ (Unit ⊕ O))}(h:∀ i,i < n→body (i:Int)=some (if p i=true then .inl ((i+1:Nat):Int) else .inr (.inr c)))
  (hn:body (n:Int)=some (.inr (.inl ()))):bN body 0=some (if (List.range n).all p=true then .inl () else .inr c):=by
 have e:∀ i,i < n→nth (List.range n) i=i:=λ i hi=>by
  have:=fh (l:=List.range n) (i:=i) (by simpa using hi)
  rw [List.getElem?_range hi] at this
  exact (Option.some.inj this).symm
 refine adF (l:=List.range n) p c (λ i hi=>?_) (by rw [List.length_range]; exact hn)
 rw [List.length_range] at hi
 rw [h i hi,e i hi]
theorem azS{l:List α}(p:α→Bool){body:Int × Int→Option ((Int × Int) ⊕ Int)} (h:∀ i n:Nat,i < l.length→n≤i→body ((n:Int),(i:Int))=some (.inl (if p (nth l i)=true then ((n+1:Nat):Int) else (n:Int),((i+1:Nat):Int))))
  (hn:∀ n:Int,body (n,(l.length:Int))=some (.inr n)):bN body (0,0)=some ((l.filter p).length:Int):=by
 refine (S4 (λ i=>((((l.take i).filter p).length:Int),(i:Int))) l.length (λ i hi=>?_) (hn _):bN body ((0:Int),(0:Int))=_).trans ?_
 ·have hl:((l.take i).filter p).length≤i:=Nat.le_trans (List.length_filter_le _ _) (by rw [List.length_take]; omega)
  rw [h i _ hi hl]
  have:l.take (i+1)=l.take i++[nth l i]:=by
   rw [List.take_add_one,fh hi]; rfl
  rw [this,List.filter_append,List.length_append]
  cases hp:p (nth l i) <;> simp [hp]
 ·rw [List.take_length]
end
end Go.Lg
