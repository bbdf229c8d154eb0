/- Plain lists. Conditions: none. -/
import Derived.Test.YtihapemckcdicaaGreatDoorQELgC
namespace Go.Lg
open Go.Conc
set_option maxRecDepth 10000
theorem CK{S O:Type}{body:S→Option (S ⊕ O)}(st:Nat→S)(n:Nat){o:O}(h:∀ i,i < n→body (st i)=some (.inl (st (i+1))))(hn:body (st n)=some (.inr o)):bC body (st 0)=some o:=by
 have key:∀ k,k≤n→bC body (st (n - k))=some o:=by
  intro k
  induction k with
  | zero=>intro _; exact za hn
  | succ k ih =>
   intro hk
   rw [Hq (h (n - (k+1)) (by omega)),show n - (k+1)+1=n - k by omega]
   exact ih (by omega)
 have:=key n (Nat.le_refl _)
 rwa [Nat.sub_self] at this
def eI{O:Type}(e:Nat→Option O):Nat→Nat→Option O
 | _,0=>none
 | i,k+1=>match e i with | some o=>some o | none=>eI e (i+1) k
def afn{S O:Type}(s:S):Option O→S ⊕ O
 | some o=>.inr o
 | none=>.inl s
theorem adX{S O:Type}{body:S→Option (S ⊕ O)}(st:Nat→S)(e:Nat→Option O)(i0 n:Nat){o:O}(h:∀ i,i0≤i→i < n→body (st i)=some (afn (st (i+1)) (e i)))(hn:body (st n)=some (.inr o))(h0:i0≤n):bC body (st i0)=some ((eI e i0 (n - i0)).getD o):=by
 have key:∀ k,k≤n - i0→bC body (st (n - k))=some ((eI e (n - k) k).getD o):=by
  intro k
  induction k with
  | zero=>intro _; exact za hn
  | succ k ih =>
   intro hk
   have hb:=h (n - (k+1)) (by omega) (by omega)
   unfold eI
   cases he:e (n - (k+1)) with
   | some o' =>
    rw [he] at hb
    exact za hb
   | none =>
    rw [he] at hb
    rw [Hq hb,show n - (k+1)+1=n - k by omega]
    exact ih (by omega)
 have:=key (n - i0) (Nat.le_refl _)
 rwa [show n - (n - i0)=i0 by omega] at this
theorem azI{S O:Type}{body:S→Option (S ⊕ O)}(st:Nat→S)(e:Nat→Option O)(n:Nat){o:O}(h:∀ i,i < n→body (st i)=some (afn (st (i+1)) (e i)))(hn:body (st n)=some (.inr o)):bC body (st 0)=some ((eI e 0 n).getD o):=by
 simpa using adX st e 0 n (λ i _ hi=>h i hi) hn (Nat.zero_le _)
theorem apL{O:Type}{e e':Nat→Option O}:∀ (k i:Nat),(∀ j,i≤j→j < i+k→e j=e' j)→eI e i k=eI e' i k
 | 0,_,_=>rfl
 | k+1,i,h=>by
  unfold eI
  rw [h i (Nat.le_refl _) (by omega),apL k (i+1) (λ j h1 h2=>h j (by omega) (by omega))]
theorem se{O:Type}{e:Nat→Option O}:∀ {k i:Nat},eI e i k=none↔∀ j,i≤j→j < i+k→e j=none
 | 0,i=>by simp [eI]; omega
 | k+1,i=>by
  unfold eI
  cases he:e i with
  | some o=>simp; exact ⟨i,Nat.le_refl _,by omega,by rw [he]; simp⟩
  | none =>
   simp only
   rw [se]
   constructor
   ·intro h j h1 h2
    by_cases hj:j=i
    ·subst hj; exact he
    ·exact h j (by omega) (by omega)
   ·intro h j h1 h2; exact h j (by omega) (by omega)
theorem zv{O:Type}{e:Nat→Option O}:∀ {k i:Nat} {o:O},eI e i k=some o→∃ j,i≤j∧j < i+k∧e j=some o∧∀ m,i≤m→m < j→e m=none
 | 0,i,o,h=>by cases h
 | k+1,i,o,h=>by
  unfold eI at h
  cases he:e i with
  | some o'=>rw [he] at h; cases h; exact ⟨i,Nat.le_refl _,by omega,he,λ m h1 h2=>by omega⟩
  | none =>
   rw [he] at h
   obtain ⟨j,h1,h2,h3,h4⟩:=zv h
   refine ⟨j,by omega,by omega,h3,λ m hm1 Jp=>?_⟩
   by_cases hm:m=i
   ·subst hm; exact he
   ·exact h4 m (by omega) Jp
@[simp] theorem cV {α:Type} {a b:Option α}:aa true a b=a:=rfl
@[simp] theorem b8 {α:Type} {a b:Option α}:aa false a b=b:=rfl
@[simp] theorem fJ {α:Type} (xs:List α) (k:Nat):idx xs (k:Int)=xs[k]? := by simp [idx]
theorem oq{z:Int}(h1 : -4611686018427387904≤z)(h2:z≤4611686018427387904):i64 z=z:=NY (by omega)
theorem fY{i:Nat}(h:i≤1000000000):i64 ((i:Int)+1)=((i+1:Nat):Int):=by rw [oq (by omega) (by omega)]; omega
theorem Qx{i:Nat}(h:i≤1000000000)(h0:0 < i):i64 ((i:Int) - 1)=((i - 1:Nat):Int):=by rw [oq (by omega) (by omega)]; omega
theorem amK{α:Type}{xs:List α}{k:Nat}(h:k≤xs.length):nN xs 0 (k:Int)=some (xs.take k):=by simp [nN,h]
theorem Ho{α:Type}{xs ys:List α}(h:xs.length+ys.length≤16777216):eW xs ys=some (xs++ys):=by simp [eW,h]
def cL(n a c:Int):Bool:=decide (a≤n) && decide (n≤c)
def nth{α:Type}[Inhabited α](l:List α)(i:Nat):α:=l.getD i default
theorem df{α:Type}[Inhabited α]{l:List α}{i:Nat}(h:i < l.length):l[i]? = some (nth l i):=by
 unfold nth
 rw [List.getD_eq_getElem?_getD,List.getElem?_eq_getElem h]; rfl
theorem ko{α:Type}[Inhabited α]{l:List α}{i:Nat}(h:i < l.length):nth l i∈l:=List.mem_of_getElem? (df h)
theorem ss{α:Type}[Inhabited α]{l:List α}{x:α}(h:x∈l):∃ i,i < l.length∧nth l i=x:=by
 obtain ⟨i,hi,rfl⟩:=List.mem_iff_getElem.1 h
 refine ⟨i,hi,?_⟩
 have:=df hi
 rw [List.getElem?_eq_getElem hi] at this
 exact (Option.some.inj this).symm
theorem ZH{α:Type}[Inhabited α]{l m:List α}(h:l.length=m.length)(he:∀ i,i < l.length→nth l i=nth m i):l=m:=by
 apply List.ext_getElem?
 intro i
 by_cases hi:i < l.length
 ·rw [df hi,df (h ▸ hi),he i hi]
 ·rw [List.getElem?_eq_none (by omega),List.getElem?_eq_none (by omega)]
theorem qP{α:Type}[Inhabited α]{l:List α}{i k:Nat}(h:i < k):nth (l.take k) i=nth l i:=by
 unfold nth
 rw [List.getD_eq_getElem?_getD,List.getD_eq_getElem?_getD,List.getElem?_take_of_lt h]
theorem xg{S O β:Type}{body:S→Option (S ⊕ O)}{s:S}{o:O}{f:O→Option β}(h:bC body s=some o):(bC body s).bind f=f o:=by rw [h]; rfl
theorem dec_lt{i:Nat}{n:Nat}(h:i < n):decide ((i:Int) < (n:Int))=true:=by simpa using h
theorem ja{n:Nat}:decide ((n:Int) < (n:Int))=false:=by simp
theorem YT{i:Nat}(h:0 < i):decide ((i:Int) > 0)=true:=by simpa using h
theorem YS{i:Nat}(h:¬ 0 < i):decide ((i:Int) > 0)=false:=by simpa using h
theorem amZ{O:Type}{f:Option O}{g:Unit→Option O}{d:O}(hd:g ()=some d):Sum.elim g (λ q=>some q) (((f.map Sum.inr).getD (.inl ())):Unit ⊕ O)=some (f.getD d):=by
 cases f with
 | none=>exact hd
 | some o=>rfl
theorem Td{O Q:Type}(g:O→Q)(e:Nat→Option O):∀ (k i:Nat),eI (λ j=>(e j).map g) i k=(eI e i k).map g
 | 0,_=>rfl
 | k+1,i=>by
  unfold eI
  cases e i with
  | none=>exact Td g e k (i+1)
  | some o=>rfl
theorem search{O:Type}{body:Int→Option (Int ⊕ (Unit ⊕ O))}(e:Nat→Option O)(i0 n:Nat){d:O}{g:Unit→Option O}(h:∀ i,i0≤i→i < n→body (i:Int)=some (match e i with | some o=>.inr (.inr o) | none=>.inl ((i+1:Nat):Int)))(hn:body (n:Int)=some (.inr (.inl ())))(h0:i0≤n)(hd:g ()=some d) :
  (bC body (i0:Int)).bind (Sum.elim g λ q=>some q)=some ((eI e i0 (n - i0)).getD d):=by
 refine (xg (adX (λ i=>(i:Int)) (λ i=>(e i).map Sum.inr) i0 n (o:=.inl ()) (λ i h1 h2=>?_) hn h0)).trans ?_
 ·rw [h i h1 h2]
  cases e i <;> rfl
 ·rw [Td]
  exact amZ hd
theorem vK{O:Type}{body:Int→Option (Int ⊕ (Unit ⊕ O))}(e:Nat→Option O)(n:Nat){d:O}{g:Unit→Option O}(h:∀ i,i < n→body (i:Int)=some (match e i with | some o=>.inr (.inr o) | none=>.inl ((i+1:Nat):Int)))(hn:body (n:Int)=some (.inr (.inl ())))(hd:g ()=some d) :
  (bC body 0).bind (Sum.elim g λ q=>some q)=some ((eI e 0 n).getD d):=search e 0 n (λ i _ hi=>h i hi) hn (Nat.zero_le _) hd
def YG(l:List Int)(below:Int)(i:Nat):Option Int :=
 if cL (nth l i) 0 (below - 1)=false then some 6 else if 0 < i then (if nth l i≤nth l (i - 1) then some 7 else none) else none
def YR(l:List Int)(below:Int):Int:=(eI (YG l below) 0 l.length).getD 0
theorem Zo{α:Type}[Inhabited α](p:α→Bool)(l:List α):(eI (λ i=>if p (nth l i) then some true else none) 0 l.length).getD false=l.any p:=by
 cases h:eI (λ i=>if p (nth l i) then some true else none) 0 l.length with
 | none =>
  rw [se] at h
  symm
  rw [Option.getD_none,List.any_eq_false]
  intro x hx
  obtain ⟨i,hi,rfl⟩:=ss hx
  have:=h i (Nat.zero_le _) (by omega)
  simpa using this
 | some o =>
  obtain ⟨j,_,hj,he,_⟩:=zv h
  split at he
  ·rename_i hp
   cases he
   symm
   rw [Option.getD_some,List.any_eq_true]
   exact ⟨nth l j,ko (by omega),hp⟩
  ·cases he
theorem aGy(l:List Int)(n:Int):(l.any λ x=>x == n)=l.contains n:=by
 rw [Bool.eq_iff_iff,List.any_eq_true,List.contains_iff_mem]
 constructor
 ·rintro ⟨x,hx,h⟩
  rw [beq_iff_eq] at h; subst h; exact hx
 ·intro h; exact ⟨n,h,by simp⟩
theorem apN{α:Type}[Inhabited α](p:α→Bool)(l:List α):decide ((eI (λ i=>if p (nth l i) then some (i:Int) else none) 0 l.length).getD (-1) ≥ 0)=l.any p:=by
 rw [← Zo p l]
 cases h:eI (λ i=>if p (nth l i) then some (i:Int) else none) 0 l.length with
 | none =>
  rw [se] at h
  have:eI (λ i=>if p (nth l i) then some true else none) 0 l.length=none:=by
   rw [se]
   intro j h1 h2
   have:=h j h1 h2
   cases hp:p (nth l j) with
   | true=>rw [hp] at this; cases this
   | false=>rfl
  rw [this]; rfl
 | some o =>
  obtain ⟨j,h1,h2,h3,h4⟩:=zv h
  split at h3
  ·rename_i hp
   cases h3
   have:eI (λ i=>if p (nth l i) then some true else none) 0 l.length=some true:=by
    cases hf:eI (λ i=>if p (nth l i) then some true else none) 0 l.length with
    | none=>rw [se] at hf; have:=hf j h1 h2; rw [if_pos hp] at this; cases this
    | some b =>
     obtain ⟨_,_,_,hb,_⟩:=zv hf
     split at hb
     ·cases hb; rfl
     ·cases hb
   rw [this]
   simp
  ·cases h3
theorem XK{O:Type}{body:Int→Option (Int ⊕ (Unit ⊕ O))}(e:Nat→Option O)(n:Nat)(h:∀ i,i < n→body (i:Int)=some (match e i with | some o=>.inr (.inr o) | none=>.inl ((i+1:Nat):Int)))(hn:body (n:Int)=some (.inr (.inl ()))) :
  bC body 0=some (match eI e 0 n with | some o=>.inr o | none=>.inl ()):=by
 refine (azI (λ i=>(i:Int)) (λ i=>(e i).map Sum.inr) n (o:=.inl ()) (λ i hi=>?_) hn).trans ?_
 ·rw [h i hi]
  cases e i <;> rfl
 ·rw [Td]
  cases eI e 0 n <;> rfl
theorem acP{α O:Type}[Inhabited α](p:α→Bool)(c:O)(l:List α)(n:Nat)(hn:n≤l.length):eI (λ k=>if p (nth l k) then some c else none) 0 n=if (l.take n).any p then some c else none:=by
 cases h:eI (λ k=>if p (nth l k) then some c else none) 0 n with
 | none =>
  rw [se] at h
  have:(l.take n).any p=false:=by
   rw [List.any_eq_false]
   intro x hx
   obtain ⟨i,hi,rfl⟩:=ss hx
   have iB:i < n:=by simp at hi; omega
   rw [qP iB]
   have:=h i (Nat.zero_le _) (by omega)
   simpa using this
  rw [this]; rfl
 | some o =>
  obtain ⟨j,_,hj,he,_⟩:=zv h
  split at he
  ·rename_i hp
   cases he
   have:(l.take n).any p=true:=by
    rw [List.any_eq_true]
    refine ⟨nth l j,?_,hp⟩
    rw [← qP (l:=l) (show j < n by omega)]
    exact ko (by simp; omega)
   rw [this]; rfl
  ·cases he
def isLet(n:Int):Bool:=cL n 97 122
def yo(n:Int):Bool:=cL n 48 57
theorem O7(s:ByteArray):(im s).length=s.size:=by simp [im]
theorem afu{s:ByteArray}{i:Nat}(h:i < s.size):0≤nth (im s) i∧nth (im s) i < 256:=by
 have hm:nth (im s) i∈im s:=ko (by rw [O7]; exact h)
 unfold im at hm
 obtain ⟨b,_,hb⟩:=List.mem_map.1 hm
 unfold im
 rw [← hb]
 have:=b.toNat_lt
 omega
def ov(s:ByteArray)(i:Nat):Option Bool:=if isLet (nth (im s) i)=false then (if i=0 then some false else if yo (nth (im s) i)=false then some false else none) else none
def pY(s:ByteArray):Bool:=(eI (ov s) 0 s.size).getD (cL (s.size:Int) 1 12)
theorem adH{s:ByteArray}{k i:Nat}{o:Bool}(h:eI (ov s) i k=some o):o=false:=by
 obtain ⟨j,_,_,he,_⟩:=zv h
 unfold ov at he
 split at he
 ·split at he
  ·cases he; rfl
  ·split at he
   ·cases he; rfl
   ·cases he
 ·cases he
theorem D3{a:Int}(h:a≠0):(a != 0)=true:=by simpa using h
theorem jN{n a c:Int}:cL n a c=true↔a≤n∧n≤c:=by simp [cL]
theorem Ng{e:Nat→Option Int}{n:Nat}(dU:∀ i,e i≠some 0)(h:(eI e 0 n).getD 0=0):∀ i,i < n→e i=none:=by
 cases hf:eI e 0 n with
 | none=>rw [se] at hf; exact λ i hi=>hf i (Nat.zero_le _) (by omega)
 | some o =>
  rw [hf] at h
  obtain ⟨j,_,_,he,_⟩:=zv hf
  have:o=0:=h
  subst this
  exact absurd he (dU j)
theorem azB{n m:Nat}:((n:Int) != (m:Int))=decide (n≠m):=by
 by_cases h:n=m
 ·subst h; simp
 ·have:¬ (n:Int)=(m:Int):=by omega
  simp [h,this]
def kQ{α S:Type}(ys:α→S→Option (S × Bool)):List α→S→Option (S × Bool)
 | [],s=>some (s,true)
 | a::l,s=>(ys a s).bind λ r=>if r.2=true then kQ ys l r.1 else some (r.1,false)
theorem acQ{α S:Type}(ys:α→S→Option (S × Bool)):∀ (l m:List α) (s:S),kQ ys (l++m) s=(kQ ys l s).bind λ r=>if r.2=true then kQ ys m r.1 else some (r.1,false)
 | [],_,_=>by simp [kQ]
 | a::l,m,s=>by
  simp only [List.cons_append,kQ]
  cases ys a s with
  | none=>rfl
  | some r =>
   simp only [Option.bind_some]
   cases hr:r.2 with
   | true=>simp only [if_true]; exact acQ ys l m r.1
   | false=>simp
theorem apO{α β:Type}(f:α→β):∀ l:List α,l.flatMap (λ x=>[f x])=l.map f
 | []=>rfl
 | a::l=>by rw [List.flatMap_cons,apO f l]; rfl
theorem QN{α S O:Type}{body:α→S→Option (S ⊕ O)}(I:Nat→S→Prop)(f:α→S→S):∀ (l:List α) (k:Nat) (s:S),I k s→(∀ j s a,j < k+l.length→I j s→a∈l→body a s=some (.inl (f a s))∧I (j+1) (f a s)) →
  kQ (gu body) l (.inl s)=some (.inl (l.foldl (λ s a=>f a s) s),true)
 | [],_,_,_,_=>rfl
 | a::l,k,s,hI,h=>by
  obtain ⟨h1,h2⟩:=h k s a (by simp) hI (by simp)
  simp only [kQ,gu,h1,Option.map_some,Option.bind_some,Sum.isLeft_inl,if_true,List.foldl_cons]
  exact QN I f l (k+1) _ h2 (λ j s a' hj hI ha=>h j s a' (by simp only [List.length_cons]; omega) hI (by simp [ha]))
def cJ(n a:Nat):List Int:=((List.range n).filter λ i=>a.testBit i).map λ (i:Nat)=>(i:Int)
def nu:List Int→List Int→Bool
 | [],[]=>false
 | [],_::_=>true
 | _::_,[]=>false
 | a::l,c::m=>decide (a < c) || (a == c && nu l m)
def pr(l m:List Int):Bool:=decide (l.length < m.length) || (l.length == m.length && nu l m)
theorem aFx{n:Nat}:∀ i,i < n→(2 ^ n - 1).testBit i=true:=λ i hi=>by rw [Nat.testBit_two_pow_sub_one]; simpa using hi
theorem Z6{n:Nat}(h:n < 5):2 ^ n≤16:=by
 match n,h with
 | 0,_=>decide
 | 1,_=>decide
 | 2,_=>decide
 | 3,_=>decide
 | 4,_=>decide
theorem aFG{n:Nat}:(((n:Nat):Int) == 0)=(n == 0):=by
 rw [Bool.eq_iff_iff,beq_iff_eq,beq_iff_eq]
 omega
theorem aIs(n:Nat):cJ n 0=[]:=by simp [cJ]
def G2(n all:Nat):Int:=if n=0 then 2 else if n=all then 1 else 0
theorem aFF{α:Type}{p:α→Bool}{l:List α}(dU:l≠[]):(G2 (l.filter p).length l.length == 1)=decide (∀ c∈l,p c=true):=by
 rw [Bool.eq_iff_iff,decide_eq_true_eq,beq_iff_eq]
 unfold G2
 have hlen:0 < l.length:=List.length_pos_iff.2 dU
 constructor
 ·intro h
  split at h
  ·cases h
  ·split at h
   ·rename_i h2
    intro c hc
    exact (List.filter_eq_self.1 (List.Sublist.eq_of_length (List.filter_sublist) h2)) c hc
   ·cases h
 ·intro h
  rw [List.filter_eq_self.2 h,if_neg (by omega),if_pos rfl]
def agK(a c:List Int)(i:Nat):Option Bool:=if a.length≤i then some true else if nth a i < nth c i then some true else if nth a i > nth c i then some false else none
def ajB(a c:List Int):Bool:=(eI (agK a c) 0 c.length).getD false
theorem aHh{α:Type}{p:α→Bool}{l:List α}:(G2 (l.filter p).length l.length == 2)=decide (∀ c∈l,p c=false):=by
 rw [Bool.eq_iff_iff,decide_eq_true_eq,beq_iff_eq]
 unfold G2
 constructor
 ·intro h
  split at h
  ·rename_i h1
   have:=List.filter_eq_nil_iff.1 (List.length_eq_zero_iff.1 h1)
   exact λ c hc=>by simpa using this c hc
  ·split at h <;> cases h
 ·intro h
  rw [List.filter_eq_nil_iff.2 (λ c hc=>by simp [h c hc])]
  rfl
theorem aH8{α:Type}(p:α→Bool)(l:List α):(l.filter λ x=>!p x).length+(l.filter p).length=l.length:=by
 induction l with
 | nil=>rfl
 | cons a l ih =>
  simp only [List.filter_cons,List.length_cons]
  cases p a <;> simp <;> omega
theorem aGz{α:Type}{x:α}{l:List α}:nN (x::l) 1 ((x::l).length:Int)=some l:=by
 simp [nN]
 omega
theorem YH{α β:Type}(f:α→List β)(m:Nat)(h:∀ a,(f a).length≤m):∀ l:List α,(l.flatMap f).length≤l.length * m
 | []=>by simp
 | a::l=>by
  have:=YH f m h l
  have:=h a
  simp only [List.flatMap_cons,List.length_append,List.length_cons,Nat.add_mul,Nat.one_mul]
  omega
theorem aFJ{w x:Int}:r9 w [x]=max w x:=by
 show (if x > w then x else w)=_
 rw [Int.max_def]
 split <;> split <;> omega
theorem aFw{α:Type}(p:α→Bool)(l:List α):l.flatMap (λ a=>if p a=true then [a] else [])=l.filter p:=by
 induction l with
 | nil=>rfl
 | cons a l ih =>
  rw [List.flatMap_cons,ih,List.filter_cons]
  cases p a <;> simp
theorem YP:∀ (l m:List Int),l.Pairwise (· < ·)→m.Pairwise (· < ·)→(∀ x,x∈l↔x∈m)→l=m
 | [],[],_,_,_=>rfl
 | [],b::m,_,_,h=>by have:=(h b).2 (by simp); cases this
 | a::l,[],_,_,h=>by have:=(h a).1 (by simp); cases this
 | a::l,b::m,hl,hm,h=>by
  rw [List.pairwise_cons] at hl hm
  have bJ:a=b:=by
   rcases List.mem_cons.1 ((h a).1 (by simp)) with h1 | h1
   ·exact h1
   ·rcases List.mem_cons.1 ((h b).2 (by simp)) with h2 | h2
    ·exact h2.symm
    ·have h3:=hm.1 a h1
     have h4:=hl.1 b h2
     omega
  subst bJ
  rw [YP l m hl.2 hm.2 λ x=>?_]
  constructor
  ·intro hx
   rcases List.mem_cons.1 ((h x).1 (by simp [hx])) with h1 | h1
   ·have:=hl.1 x hx; omega
   ·exact h1
  ·intro hx
   rcases List.mem_cons.1 ((h x).2 (by simp [hx])) with h1 | h1
   ·have:=hm.1 x hx; omega
   ·exact h1
theorem aBv{w x:Int}:xq w [x]=min w x:=by
 show (if x < w then x else w)=_
 rw [Int.min_def]
 split <;> split <;> omega
theorem aBE{α:Type}[Inhabited α]{m:List α}{w:Nat}{x:α}(h:w < m.length):nth (m.set w x) w=x:=by
 unfold nth
 rw [List.getD_eq_getElem?_getD,List.getElem?_set_self h]
 rfl
theorem aev{α:Type}[Inhabited α]{m:List α}{w i:Nat}{x:α}(h:w≠i):nth (m.set w x) i=nth m i:=by
 unfold nth
 rw [List.getD_eq_getElem?_getD,List.getD_eq_getElem?_getD,List.getElem?_set_ne h]
theorem ajx:∀ (l:List Int) (a c:Int),l.Pairwise (· < ·)→(∀ x∈l,a≤x∧x≤c)→(l.length:Int)≤max 0 (c+1 - a)
 | [],_,_,_,_=>by simp; omega
 | x::l,a,c,h,hm=>by
  rw [List.pairwise_cons] at h
  have hx:=hm x (by simp)
  have:=ajx l (x+1) c h.2 λ y hy=>by
   have:=h.1 y hy
   have:=hm y (by simp [hy])
   omega
  rw [List.length_cons]
  omega
theorem aGn{l:List Int}{P:Int}(h:l.Pairwise (· < ·))(hp:∀ x∈l,0≤x∧x < P):YR l P=0:=by
 unfold YR
 rw [se.2 λ i _ hi=>?_]
 ·rfl
 ·have hm:=hp _ (ko (l:=l) (i:=i) (by omega))
  unfold YG
  rw [if_neg (by rw [Bool.not_eq_false,jN]; omega)]
  by_cases h0:0 < i
  ·rw [if_pos h0,if_neg]
   rw [List.pairwise_iff_getElem] at h
   have h3:=h (i - 1) i (by omega) (by omega) (by omega)
   have e1:=df (show i - 1 < l.length by omega)
   have e2:=df (show i < l.length by omega)
   rw [List.getElem?_eq_getElem (by omega)] at e1 e2
   rw [Option.some.inj e1,Option.some.inj e2] at h3
   omega
  ·rw [if_neg h0]
theorem aGR{α β:Type}[Inhabited α][Inhabited β](f:α→β){l:List α}{i:Nat}(h:i < l.length):nth (l.map f) i=f (nth l i):=by
 have h1:=df (l:=l.map f) (i:=i) (by simpa using h)
 rw [List.getElem?_map,df h] at h1
 exact (Option.some.inj h1).symm
end Go.Lg
namespace Go.Lg
open Go.Conc
section
variable {α:Type}
def lvl(ext:Nat→List α→List α):Nat→List (List α)
 | 0=>[[]]
 | i+1=>(lvl ext i).flatMap λ p=>(ext i p).map λ x=>p++[x]
def tree(ext:Nat→List α→List α):Nat→Nat→List α→List (List α)
 | 0,_,p=>[p]
 | j+1,i,p=>(ext i p).flatMap λ x=>tree ext j (i+1) (p++[x])
theorem ad3(ext:Nat→List α→List α):∀ j i,(lvl ext i).flatMap (tree ext j i)=lvl ext (i+j)
 | 0,i=>by simp [tree]
 | j+1,i=>by
  rw [show i+(j+1)=(i+1)+j by omega,← ad3 ext j (i+1)]
  simp only [lvl,tree,List.flatMap_assoc,List.flatMap_map]
theorem Y2(ext:Nat→List α→List α)(n:Nat):tree ext n 0 []=lvl ext n:=by
 have:=ad3 ext n 0
 rw [Nat.zero_add] at this
 rw [← this]
 simp [lvl]
theorem zc[Inhabited α]{p q:List α}{i:Nat}(h:i < p.length):nth (p++q) i=nth p i:=by
 unfold nth
 rw [List.getD_eq_getElem?_getD,List.getD_eq_getElem?_getD,List.getElem?_append_left h]
theorem zn[Inhabited α]{p:List α}{x:α}:nth (p++[x]) p.length=x:=by
 unfold nth
 rw [List.getD_eq_getElem?_getD,List.getElem?_append_right (Nat.le_refl _),Nat.sub_self]
 rfl
theorem aDA[Inhabited α]{r:List α}{n:Nat}(h:r.length=n+1):r=r.take n++[nth r n]:=by
 have h1:n < r.length:=by omega
 have h2:=List.take_succ_eq_append_getElem h1
 rw [List.take_of_length_le (by omega)] at h2
 have h3:=df h1
 rw [List.getElem?_eq_getElem h1] at h3
 rw [← Option.some.inj h3]
 exact h2
theorem KN[Inhabited α]{ext:Nat→List α→List α}:∀ {n:Nat} {r:List α},r∈lvl ext n↔r.length=n∧∀ i,i < n→nth r i∈ext i (r.take i)
 | 0,r=>by
  simp only [lvl,List.mem_singleton]
  constructor
  ·rintro rfl; exact ⟨rfl,λ i hi=>by omega⟩
  ·rintro ⟨h,_⟩; exact List.length_eq_zero_iff.1 h
 | n+1,r=>by
  simp only [lvl,List.mem_flatMap,List.mem_map]
  constructor
  ·rintro ⟨p,hp,x,hx,rfl⟩
   obtain ⟨h1,h2⟩:=KN.1 hp
   refine ⟨by simp [h1],λ i hi=>?_⟩
   by_cases mE:i < n
   ·rw [zc (by omega),List.take_append_of_le_length (by omega)]
    exact h2 i mE
   ·obtain rfl:i=p.length:=by omega
    rw [zn,List.take_append_of_le_length (Nat.le_refl _),List.take_length,h1]
    exact hx
  ·rintro ⟨h1,h2⟩
   refine ⟨r.take n,KN.2 ⟨by simp; omega,λ i hi=>?_⟩,nth r n,h2 n (by omega),(aDA h1).symm⟩
   rw [qP hi,List.take_take,Nat.min_eq_left (by omega)]
   exact h2 i (by omega)
def Au[Inhabited α](lt:α→α→Prop)(p q:List α):Prop:=∃ k,k < p.length∧k < q.length∧p.take k=q.take k∧lt (nth p k) (nth q k)
theorem adS[Inhabited α]{lt:α→α→Prop}(h:∀ x,¬ lt x x)(p:List α):¬ Au lt p p:=λ ⟨_,_,_,_,hk⟩=>h _ hk
theorem adR[Inhabited α]{lt:α→α→Prop}(h:∀ x,¬ lt x x)(ha:∀ x y,lt x y→¬ lt y x){p q:List α}(h1:Au lt p q):¬ Au lt q p:=by
 obtain ⟨k,k1,k2,k3,k4⟩:=h1
 rintro ⟨m,m1,m2,m3,m4⟩
 rcases Nat.lt_trichotomy k m with Jl | rfl | Jl
 ·have e:nth p k=nth q k:=by rw [← qP (l:=p) Jl,← qP (l:=q) Jl,m3]
  rw [e] at k4
  exact h _ k4
 ·exact ha _ _ k4 m4
 ·have e:nth p m=nth q m:=by rw [← qP (l:=p) Jl,← qP (l:=q) Jl,k3]
  rw [e] at m4
  exact h _ m4
theorem azD[Inhabited α]{lt:α→α→Prop}{p q:List α}(x y:α)(h:Au lt p q):Au lt (p++[x]) (q++[y]):=by
 obtain ⟨k,k1,k2,k3,k4⟩:=h
 refine ⟨k,by simp; omega,by simp; omega,?_,?_⟩
 ·rw [List.take_append_of_le_length (by omega),List.take_append_of_le_length (by omega),k3]
 ·rw [zc k1,zc k2]; exact k4
theorem W1[Inhabited α]{lt:α→α→Prop}{ext:Nat→List α→List α}(h:∀ i p,(ext i p).Pairwise lt):∀ n,(lvl ext n).Pairwise (Au lt)
 | 0=>by simp [lvl]
 | n+1=>by
  simp only [lvl]
  rw [List.pairwise_flatMap]
  refine ⟨λ p hp=>?_,(W1 h n).imp λ {p q} hpq x hx y hy=>?_⟩
  ·rw [List.pairwise_map]
   refine (h n p).imp λ {x y} LI=>⟨p.length,by simp,by simp,?_,?_⟩
   ·rw [List.take_append_of_le_length (Nat.le_refl _),List.take_append_of_le_length (Nat.le_refl _)]
   ·rw [zn,zn]; exact LI
  ·obtain ⟨a,_,rfl⟩:=List.mem_map.1 hx
   obtain ⟨b,_,rfl⟩:=List.mem_map.1 hy
   exact azD a b hpq
theorem agS{β:Type}{lt:β→β→Prop}(hi:∀ x,¬ lt x x){l:List β}(h:l.Pairwise lt):l.Nodup:=h.imp λ {x y} LI e=>by subst e; exact hi x LI
end
theorem ajj{α β:Type}{l:List α}{m:List β}(f:α→β)(hn:l.Nodup)(hi:∀ x∈l,∀ y∈l,f x=f y→x=y)(hm:∀ x∈l,f x∈m):l.length≤m.length:=by
 classical
 induction l generalizing m with
 | nil=>simp
 | cons a l ih =>
  rw [List.nodup_cons] at hn
  obtain ⟨s,t,rfl⟩:=List.append_of_mem (hm a (by simp))
  have:=ih (m:=s++t) hn.2 (λ x hx y hy=>hi x (by simp [hx]) y (by simp [hy])) (λ x hx=>by
   have h1:=hm x (by simp [hx])
   have h2:f x≠f a:=λ e=>hn.1 (hi x (by simp [hx]) a (by simp) e ▸ hx)
   simp only [List.mem_append,List.mem_cons] at h1 ⊢
   rcases h1 with h1 | h1 | h1
   ·exact .inl h1
   ·exact absurd h1 h2
   ·exact .inr h1)
  simp only [List.length_append,List.length_cons] at this ⊢
  omega
end Go.Lg
namespace Go.Lg
open Go.Conc
def ny(n:Nat):List Int:=(List.range n).map λ (i:Nat)=>(i:Int)
theorem ZG{n:Nat}{x:Int}:x∈ny n↔0≤x∧x < (n:Int):=by
 simp only [ny,List.mem_map,List.mem_range]
 constructor
 ·rintro ⟨i,hi,rfl⟩; omega
 ·intro h; exact ⟨x.toNat,by omega,by omega⟩
theorem aGY(n:Nat):(ny n).length=n:=by simp [ny]
theorem ajs(n:Nat):(ny n).Pairwise (· < ·):=by
 unfold ny
 rw [List.pairwise_map]
 exact List.pairwise_lt_range.imp λ h=>by omega
theorem aEh(n:Nat):ny (n+1)=ny n++[(n:Int)]:=by simp [ny,List.range_succ]
def G0(n:Nat)(ok:Nat→Bool)(p:List Int):List Int:=(ny n).filter λ k=>ok k.toNat && p.all λ x=>decide (x < k)
def A6(n need:Nat)(ok:Nat→Bool):List (List Int):=lvl (λ _ p=>G0 n ok p) need
theorem Xf{n:Nat}{ok:Nat→Bool}{p:List Int}{k:Int}:k∈G0 n ok p↔(0≤k∧k < (n:Int))∧ok k.toNat=true∧∀ x∈p,x < k:=by
 simp only [G0,List.mem_filter,ZG,Bool.and_eq_true,List.all_eq_true,decide_eq_true_eq]
theorem ajL{l:List Int}{i:Nat}{x:Int}(h:x∈l.take i):∃ j,j < i∧j < l.length∧nth l j=x:=by
 obtain ⟨j,hj,rfl⟩:=ss h
 rw [List.length_take] at hj
 exact ⟨j,by omega,by omega,(qP (by omega)).symm⟩
theorem qX{n need:Nat}{ok:Nat→Bool}{c:List Int}:c∈A6 n need ok↔c.length=need∧c.Pairwise (· < ·)∧∀ k∈c,0≤k∧k < (n:Int)∧ok k.toNat=true:=by
 unfold A6
 rw [KN]
 constructor
 ·rintro ⟨h1,h2⟩
  refine ⟨h1,?_,λ k hk=>?_⟩
  ·rw [List.pairwise_iff_getElem]
   intro i j hi hj pn
   have:=(Xf.1 (h2 j (by omega))).2.2 (nth c i) (by rw [← qP (l:=c) pn]; exact ko (by simp; omega))
   have e1:=df hi
   have e2:=df hj
   rw [List.getElem?_eq_getElem hi] at e1
   rw [List.getElem?_eq_getElem hj] at e2
   rw [Option.some.inj e1,Option.some.inj e2]
   exact this
  ·obtain ⟨i,hi,rfl⟩:=ss hk
   obtain ⟨⟨g1,g2⟩,g3,_⟩:=Xf.1 (h2 i (by omega))
   exact ⟨g1,g2,g3⟩
 ·rintro ⟨h1,h2,h3⟩
  refine ⟨h1,λ i hi=>?_⟩
  obtain ⟨g1,g2,g3⟩:=h3 (nth c i) (ko (by omega))
  refine Xf.2 ⟨⟨g1,g2⟩,g3,λ x hx=>?_⟩
  obtain ⟨j,fZ,hj,rfl⟩:=ajL hx
  rw [List.pairwise_iff_getElem] at h2
  have:=h2 j i hj (by omega) fZ
  have e1:=df hj
  have e2:=df (l:=c) (i:=i) (by omega)
  rw [List.getElem?_eq_getElem hj] at e1
  rw [List.getElem?_eq_getElem (by omega)] at e2
  rw [Option.some.inj e1,Option.some.inj e2] at this
  exact this
theorem adA(x:Int):¬ x < x:=by omega
theorem ayH(x y:Int)(h:x < y):¬ y < x:=by omega
abbrev D4:List Int→List Int→Prop:=Au (· < ·)
theorem agJ(n need:Nat)(ok:Nat→Bool):(A6 n need ok).Pairwise D4:=W1 (λ _ _=>(ajs n).filter _) need
structure RB where
 n:Nat
 D:Nat
 need:Nat→Nat
 ok:Nat→Nat→Bool
 ap:Nat→Nat→Bool
 out:Nat→Bool
def meet(c d:List Int):Bool:=c.any λ k=>d.contains k
theorem aBt{c d:List Int}:meet c d=true↔∃ k,k∈c∧k∈d:=by
 simp only [meet,List.any_eq_true,List.contains_iff_mem]
theorem Ei{c d:List Int}:meet c d=false↔∀ k,k∈c→k ∉ d:=by
 rw [← Bool.not_eq_true,aBt]
 exact ⟨λ h k h1 h2=>h ⟨k,h1,h2⟩,λ h ⟨k,h1,h2⟩=>h k h1 h2⟩
def Bi(A:RB)(p:List (List Int))(i:Nat)(c:List Int):Bool:=(List.range p.length).all λ j=>A.ap j i || !meet c (nth p j)
def sw(A:RB)(i:Nat)(p:List (List Int)):List (List Int):=if A.out i=true then [[]] else (A6 A.n (A.need i) (A.ok i)).filter (Bi A p i)
def r7(A:RB):List (List (List Int)):=lvl (sw A) A.D
structure gi (A:RB) (r:List (List Int)):Prop where
 len:r.length=A.D
 out:∀ i,i < A.D→A.out i=true→nth r i=[]
 vB:∀ i,i < A.D→A.out i=false→nth r i∈A6 A.n (A.need i) (A.ok i)
 rest:∀ i j,i < A.D→j < i→A.ap j i=true∨meet (nth r i) (nth r j)=false
theorem ae7{A:RB}{p:List (List Int)}{i:Nat}{c:List Int}:Bi A p i c=true↔∀ j,j < p.length→A.ap j i=true∨meet c (nth p j)=false:=by
 simp only [Bi,List.all_eq_true,List.mem_range,Bool.or_eq_true,Bool.not_eq_true']
theorem Zs{A:RB}{r:List (List Int)}:r∈r7 A↔gi A r:=by
 unfold r7
 rw [KN]
 constructor
 ·rintro ⟨h1,h2⟩
  refine ⟨h1,λ i hi ho=>?_,λ i hi ho=>?_,λ i j hi hj=>?_⟩
  ·have:=h2 i hi
   unfold sw at this
   rw [if_pos ho] at this
   simpa using this
  ·have:=h2 i hi
   unfold sw at this
   rw [if_neg (by simp [ho])] at this
   exact (List.mem_filter.1 this).1
  ·have:=h2 i hi
   unfold sw at this
   by_cases ho:A.out i=true
   ·rw [if_pos ho] at this
    right
    have e:nth r i=[]:=by simpa using this
    rw [e]; rfl
   ·rw [if_neg ho] at this
    have h3:=ae7.1 (List.mem_filter.1 this).2 j (by simp; omega)
    rwa [qP hj] at h3
 ·intro h
  refine ⟨h.len,λ i hi=>?_⟩
  unfold sw
  by_cases ho:A.out i=true
  ·rw [if_pos ho,h.out i hi ho]; simp
  ·rw [if_neg ho]
   refine List.mem_filter.2 ⟨h.vB i hi (by simpa using ho),ae7.2 λ j hj=>?_⟩
   rw [List.length_take] at hj
   rw [qP (by omega)]
   exact h.rest i j hi (by omega)
theorem aDf(A:RB)(i:Nat)(p:List (List Int)):(sw A i p).Pairwise D4:=by
 unfold sw
 split
 ·simp
 ·exact (agJ _ _ _).filter _
theorem Re(c:List Int):¬ D4 c c:=adS adA c
theorem ajS(c d:List Int)(h:D4 c d):¬ D4 d c:=adR adA ayH h
abbrev D9:List (List Int)→List (List Int)→Prop:=Au D4
theorem afa(r:List (List Int)):¬ D9 r r:=adS Re r
theorem ajQ{r s:List (List Int)}(h:D9 r s):¬ D9 s r:=adR Re ajS h
theorem ajR(A:RB):(r7 A).Pairwise D9:=W1 (aDf A) A.D
theorem aGT(A:RB):(r7 A).Nodup:=agS afa (ajR A)
structure ahJ (A C:RB):Prop where
 n:A.n≤C.n
 D:A.D=C.D
 need:∀ i,i < A.D→A.need i=C.need i
 ok:∀ i k,i < A.D→k < A.n→A.ok i k=true→C.ok i k=true
 ap:∀ i j,i < A.D→j < i→A.ap j i=true→C.ap j i=true
 out:∀ i,i < A.D→A.out i=true→C.out i=true
 aBO:∀ i,i < A.D→C.out i=true→A.out i=true
theorem gi.le{A C:RB}(h:ahJ A C){r:List (List Int)}(hr:gi A r):gi C r:=by
 have hD:=h.D
 refine ⟨hr.len.trans hD,λ i hi ho=>hr.out i (by omega) (h.aBO i (by omega) ho),λ i hi ho=>?_,λ i j hi hj=>?_⟩
 ·have eN:A.out i=false:=by
   cases e:A.out i with
   | false=>rfl
   | true=>rw [h.out i (by omega) e] at ho; cases ho
  obtain ⟨h1,h2,h3⟩:=qX.1 (hr.vB i (by omega) eN)
  have hn:=h.n
  refine qX.2 ⟨by rw [h1,h.need i (by omega)],h2,λ k hk=>?_⟩
  obtain ⟨g1,g2,g3⟩:=h3 k hk
  exact ⟨g1,by omega,h.ok i k.toNat (by omega) (by omega) g3⟩
 ·rcases hr.rest i j (by omega) hj with h1 | h1
  ·exact .inl (h.ap i j (by omega) hj h1)
  ·exact .inr h1
theorem aHg{l:List (List (List Int))}{p:List (List Int)}{r:List (List Int)}(hs:(p::l).Pairwise D9)(hr:r∈p::l):¬ D9 r p:=by
 rw [List.pairwise_cons] at hs
 rcases List.mem_cons.1 hr with rfl | hr
 ·exact afa r
 ·exact ajQ (hs.1 r hr)
end Go.Lg
namespace Go.Lg
open Go.Conc
theorem aen{n a:Nat}{k:Int}:k∈cJ n a↔(0≤k∧k < (n:Int))∧a.testBit k.toNat=true:=by
 simp only [cJ,List.mem_map,List.mem_filter,List.mem_range]
 constructor
 ·rintro ⟨i,⟨h1,h2⟩,rfl⟩; exact ⟨by omega,by simpa using h2⟩
 ·rintro ⟨h1,h2⟩; exact ⟨k.toNat,⟨by omega,h2⟩,by omega⟩
theorem Z4(n a:Nat):(cJ n a).Pairwise (· < ·):=by
 unfold cJ
 rw [List.pairwise_map]
 exact (List.pairwise_lt_range.filter _).imp λ h=>by omega
theorem Z5(p:Nat→Bool):∀ n,∃ a,a < 2 ^ n∧∀ i,i < n→a.testBit i=p i
 | 0=>⟨0,by simp,λ i hi=>by omega⟩
 | n+1=>by
  obtain ⟨a,ha,h⟩:=Z5 p n
  cases hp:p n with
  | false =>
   refine ⟨a,by rw [Nat.pow_succ]; omega,λ i hi=>?_⟩
   by_cases e:i=n
   ·subst e; rw [hp]; exact Nat.testBit_lt_two_pow ha
   ·exact h i (by omega)
  | true =>
   refine ⟨2 ^ n+a,by rw [Nat.pow_succ]; omega,λ i hi=>?_⟩
   by_cases e:i=n
   ·subst e
    rw [hp,Nat.testBit_two_pow_add_eq,Nat.testBit_lt_two_pow ha]; rfl
   ·rw [Nat.testBit_two_pow_add_gt (by omega)]
    exact h i (by omega)
theorem aBs{n:Nat}{l:List Int}(h:l.Pairwise (· < ·))(hb:∀ k∈l,0≤k∧k < (n:Int)):∃ a,a < 2 ^ n∧l=cJ n a:=by
 obtain ⟨a,ha,h1⟩:=Z5 (λ i=>l.contains (i:Int)) n
 refine ⟨a,ha,YP _ _ h (Z4 n a) λ k=>?_⟩
 rw [aen]
 constructor
 ·intro hk
  have h2:=hb k hk
  refine ⟨h2,?_⟩
  rw [h1 _ (by omega),List.contains_iff_mem,Int.toNat_of_nonneg h2.1]
  exact hk
 ·rintro ⟨h2,h3⟩
  rw [h1 _ (by omega),List.contains_iff_mem,Int.toNat_of_nonneg h2.1] at h3
  exact h3
theorem adQ:∀ {a c d:List Int},nu a c=true→nu c d=true→nu a d=true
 | [],_,[],h1,h2=>by cases ‹List Int› <;> simp [nu] at h1 h2
 | [],_,_::_,_,_=>rfl
 | x::a,[],_,h1,_=>by simp [nu] at h1
 | x::a,y::c,[],_,h2=>by simp [nu] at h2
 | x::a,y::c,z::d,h1,h2=>by
  simp only [nu,Bool.or_eq_true,Bool.and_eq_true,decide_eq_true_eq,beq_iff_eq] at h1 h2 ⊢
  rcases h1 with h1 | ⟨h1,g1⟩ <;> rcases h2 with h2 | ⟨h2,g2⟩
  ·left; omega
  ·left; omega
  ·left; omega
  ·right; exact ⟨by omega,adQ g1 g2⟩
theorem adP:∀ a:List Int,nu a a=false
 | []=>rfl
 | x::a=>by simp [nu,adP a]
theorem azC:∀ {a c:List Int},nu a c=false→nu c a=false→a=c
 | [],[],_,_=>rfl
 | [],_::_,h,_=>by simp [nu] at h
 | _::_,[],_,h=>by simp [nu] at h
 | x::a,y::c,h1,h2=>by
  simp only [nu,Bool.or_eq_false_iff,Bool.and_eq_false_iff,decide_eq_false_iff_not,beq_eq_false_iff_ne] at h1 h2
  have e:x=y:=by omega
  subst e
  have g1:=h1.2.resolve_left (by simp)
  have g2:=h2.2.resolve_left (by simp)
  rw [azC g1 g2]
theorem acN(a:List Int):pr a a=false:=by simp [pr,adP]
theorem apc{a c d:List Int}(h1:pr a c=true)(h2:pr c d=true):pr a d=true:=by
 simp only [pr,Bool.or_eq_true,Bool.and_eq_true,decide_eq_true_eq,beq_iff_eq] at h1 h2 ⊢
 rcases h1 with h1 | ⟨h1,g1⟩ <;> rcases h2 with h2 | ⟨h2,g2⟩
 ·left; omega
 ·left; omega
 ·left; omega
 ·right; exact ⟨by omega,adQ g1 g2⟩
structure cI (n:Nat) (P:Nat→Bool) (l:List Int):Prop where
 ex:∃ a,a < 2 ^ n∧P a=true∧l=cJ n a
 min:∀ c,c < 2 ^ n→P c=true→pr (cJ n c) l=false
theorem cI.len{n:Nat}{P:Nat→Bool}{l:List Int}(h:cI n P l){c:Nat}(hc:c < 2 ^ n)(hP:P c=true):l.length≤(cJ n c).length:=by
 have:=h.min c hc hP
 simp only [pr,Bool.or_eq_false_iff,decide_eq_false_iff_not] at this
 omega
def GY(n:Nat)(P:Nat→Bool)(s:List Int × Bool)(a:Nat):List Int × Bool:=if ((!s.2 || pr (cJ n a) s.1) && P a)=true then (cJ n a,true) else s
def gS(n:Nat)(P:Nat→Bool):Nat→List Int × Bool
 | 0=>([],false)
 | k+1=>GY n P (gS n P k) k
theorem Qc(n:Nat)(P:Nat→Bool):∀ k,((gS n P k).2=false∧(gS n P k).1=[]∧∀ a,a < k→P a=false) ∨
  ((gS n P k).2=true∧(∃ a,a < k∧P a=true∧(gS n P k).1=cJ n a)∧∀ c,c < k→P c=true→pr (cJ n c) (gS n P k).1=false)
 | 0=>.inl ⟨rfl,rfl,λ a ha=>by omega⟩
 | k+1=>by
  rcases Qc n P k with ⟨h1,h2,h3⟩ | ⟨h1,⟨a,ha,hP,h2⟩,h3⟩
  ·cases hk:P k with
   | false =>
    have e:gS n P (k+1)=gS n P k:=by simp [gS,GY,hk]
    rw [e]
    exact .inl ⟨h1,h2,λ a ha=>by
     by_cases x:a=k
     ·subst x; exact hk
     ·exact h3 a (by omega)⟩
   | true =>
    have e:gS n P (k+1)=(cJ n k,true):=by simp [gS,GY,hk,h1]
    rw [e]
    refine .inr ⟨rfl,⟨k,by omega,hk,rfl⟩,λ c hc B1=>?_⟩
    by_cases x:c=k
    ·subst x; exact acN _
    ·rw [h3 c (by omega)] at B1; cases B1
  ·cases hf:(pr (cJ n k) (gS n P k).1 && P k) with
   | false =>
    have e:gS n P (k+1)=gS n P k:=by simp [gS,GY,h1,hf]
    rw [e]
    refine .inr ⟨h1,⟨a,by omega,hP,h2⟩,λ c hc B1=>?_⟩
    by_cases x:c=k
    ·subst x; simpa [B1] using hf
    ·exact h3 c (by omega) B1
   | true =>
    have e:gS n P (k+1)=(cJ n k,true):=by simp [gS,GY,h1,hf]
    rw [e]
    rw [Bool.and_eq_true] at hf
    refine .inr ⟨rfl,⟨k,by omega,hf.2,rfl⟩,λ c hc B1=>?_⟩
    by_cases x:c=k
    ·subst x; exact acN _
    ·cases hx:pr (cJ n c) (cJ n k) with
     | false=>rfl
     | true =>
      have:=h3 c (by omega) B1
      rw [apc hx hf.1] at this
      cases this
theorem aHy{n:Nat}{P:Nat→Bool}(h:∀ a,a < 2 ^ n→P a=false):gS n P (2 ^ n)=([],false):=by
 rcases Qc n P (2 ^ n) with ⟨h1,h2,_⟩ | ⟨_,⟨a,ha,hP,_⟩,_⟩
 ·exact Prod.ext h2 h1
 ·rw [h a ha] at hP; cases hP
theorem aFL{n:Nat}{P:Nat→Bool}{a:Nat}(ha:a < 2 ^ n)(h:P a=true):(gS n P (2 ^ n)).2=true∧cI n P (gS n P (2 ^ n)).1:=by
 rcases Qc n P (2 ^ n) with ⟨_,_,h3⟩ | ⟨h1,h2,h3⟩
 ·rw [h3 a ha] at h; cases h
 ·exact ⟨h1,⟨h2,h3⟩⟩
end Go.Lg
namespace Go.Lg
open Go.Conc
theorem OA{r:List (List Int)}{f:List Int→List Int}{i:Nat}(h:i < r.length):nth (r.map f) i=f (nth r i):=by
 have h1:=df (l:=r.map f) (i:=i) (by simpa using h)
 rw [List.getElem?_map,df h] at h1
 exact (Option.some.inj h1).symm
theorem gi.ae6{A C:RB}{r:List (List Int)}(f:Int→Int)(hD:A.D=C.D)(Qj:∀ i,i < A.D→A.need i=C.need i)(kA:∀ i j,i < A.D→j < i→A.ap j i=true→C.ap j i=true)(rZ:∀ i,i < A.D→A.out i=C.out i)
  (hm:∀ i j,i < A.D→j < A.D→∀ k∈nth r i,∀ k'∈nth r j,k < k'→f k < f k') (hf:∀ i,i < A.D→A.out i=false→∀ k∈nth r i,0≤f k∧f k < (C.n:Int)∧C.ok i (f k).toNat=true) (hr:gi A r):gi C (r.map λ c=>c.map f):=by
 have hl:=hr.len
 refine ⟨by simp [hl,hD],λ i hi ho=>?_,λ i hi ho=>?_,λ i j hi hj=>?_⟩
 ·rw [OA (by omega),hr.out i (by omega) (by rw [rZ i (by omega)]; exact ho)]; rfl
 ·have eN:A.out i=false:=by rw [rZ i (by omega)]; exact ho
  obtain ⟨h1,h2,h3⟩:=qX.1 (hr.vB i (by omega) eN)
  rw [OA (by omega)]
  refine qX.2 ⟨by rw [List.length_map,h1,Qj i (by omega)],?_,λ k hk=>?_⟩
  ·rw [List.pairwise_map]
   exact h2.imp_of_mem λ {a c} ha hc hac=>hm i i (by omega) (by omega) a ha c hc hac
  ·obtain ⟨k',cR,rfl⟩:=List.mem_map.1 hk
   exact hf i (by omega) eN k' cR
 ·rcases hr.rest i j (by omega) hj with h1 | h1
  ·exact .inl (kA i j (by omega) hj h1)
  ·right
   rw [OA (by omega),OA (by omega),Ei]
   rintro x hx vA
   obtain ⟨k,hk,rfl⟩:=List.mem_map.1 hx
   obtain ⟨k',cR,e⟩:=List.mem_map.1 vA
   have dU:k≠k':=λ e=>by subst e; exact Ei.1 h1 k hk cR
   rcases Int.lt_or_gt_of_ne dU with h | h
   ·have:=hm i j (by omega) (by omega) k hk k' cR h; omega
   ·have:=hm j i (by omega) (by omega) k' cR k hk h; omega
def RB.only(A:RB)(S:List Int):RB:={ A with ok:=λ i k=>A.ok i k && S.contains (k:Int) }
def Ea(S:List Int)(r:List (List Int)):Bool:=r.all λ c=>c.all λ k=>S.contains k
theorem aHr{A:RB}{S:List Int}{r:List (List Int)}:gi (A.only S) r↔gi A r∧Ea S r=true:=by
 constructor
 ·intro h
  have hc:∀ i,i < A.D→A.out i=false→nth r i∈A6 A.n (A.need i) (A.ok i)∧∀ k∈nth r i,k∈S:=λ i hi ho=>by
   obtain ⟨h1,h2,h3⟩:=qX.1 (h.vB i hi ho)
   refine ⟨qX.2 ⟨h1,h2,λ k hk=>?_⟩,λ k hk=>?_⟩
   ·obtain ⟨g1,g2,g3⟩:=h3 k hk
    simp only [RB.only,Bool.and_eq_true] at g3
    exact ⟨g1,g2,g3.1⟩
   ·obtain ⟨g1,g2,g3⟩:=h3 k hk
    simp only [RB.only,Bool.and_eq_true,List.contains_iff_mem,Int.toNat_of_nonneg g1] at g3
    exact g3.2
  refine ⟨⟨h.len,h.out,λ i hi ho=>(hc i hi ho).1,h.rest⟩,?_⟩
  simp only [Ea,List.all_eq_true,List.contains_iff_mem]
  intro c Ag k hk
  obtain ⟨i,hi,rfl⟩:=ss Ag
  have hl:r.length=A.D:=h.len
  cases ho:A.out i with
  | true=>rw [h.out i (show i < A.D by omega) ho] at hk; cases hk
  | false=>exact (hc i (by omega) ho).2 k hk
 ·rintro ⟨h,hw⟩
  simp only [Ea,List.all_eq_true,List.contains_iff_mem] at hw
  refine ⟨h.len,h.out,λ i hi ho=>?_,h.rest⟩
  obtain ⟨h1,h2,h3⟩:=qX.1 (h.vB i hi ho)
  refine qX.2 ⟨h1,h2,λ k hk=>?_⟩
  obtain ⟨g1,g2,g3⟩:=h3 k hk
  refine ⟨g1,g2,?_⟩
  simp only [RB.only,Bool.and_eq_true,List.contains_iff_mem,Int.toNat_of_nonneg g1]
  exact ⟨g3,hw _ (ko (by have:=h.len; show i < r.length; rw [this]; exact hi)) k hk⟩
def RB.QG(A:RB)(l:List Int):RB:={ A with n:=l.length,ok:=λ i k=>A.ok i (nth l k).toNat }
theorem Qz{l:List Int}(h:l.Pairwise (· < ·)){i j:Nat}(pn:i < j)(hj:j < l.length):nth l i < nth l j:=by
 rw [List.pairwise_iff_getElem] at h
 have:=h i j (by omega) hj pn
 have e1:=df (l:=l) (i:=i) (by omega)
 have e2:=df hj
 rw [List.getElem?_eq_getElem (by omega)] at e1
 rw [List.getElem?_eq_getElem hj] at e2
 rw [Option.some.inj e1,Option.some.inj e2] at this
 exact this
theorem aa7{l:List Int}(h:l.Pairwise (· < ·)){x y:Int}(hx:x∈l)(hy:y∈l)(LI:x < y):l.idxOf x < l.idxOf y:=by
 have h1:=List.idxOf_lt_length_of_mem hx
 have h2:=List.idxOf_lt_length_of_mem hy
 have e:∀ z,z∈l→nth l (l.idxOf z)=z:=λ z hz=>by
  have h3:=List.idxOf_lt_length_of_mem hz
  have e1:=df h3
  rw [List.getElem?_eq_getElem h3,List.getElem_idxOf] at e1
  exact (Option.some.inj e1).symm
 rcases Nat.lt_trichotomy (l.idxOf x) (l.idxOf y) with h3 | h3 | h3
 ·exact h3
 ·have:=e x hx; rw [h3,e y hy] at this; omega
 ·have:=Qz h h3 h1; rw [e x hx,e y hy] at this; omega
theorem N0{l:List Int}{z:Int}(hz:z∈l):nth l (l.idxOf z)=z:=by
 have h3:=List.idxOf_lt_length_of_mem hz
 have e1:=df h3
 rw [List.getElem?_eq_getElem h3,List.getElem_idxOf] at e1
 exact (Option.some.inj e1).symm
theorem SO{A:RB}{r:List (List Int)}(h:gi A r){i:Nat}(hi:i < A.D){k:Int}(hk:k∈nth r i):A.out i=false∧0≤k∧k < (A.n:Int)∧A.ok i k.toNat=true:=by
 cases ho:A.out i with
 | true=>rw [h.out i hi ho] at hk; cases hk
 | false =>
  obtain ⟨_,_,h3⟩:=qX.1 (h.vB i hi ho)
  exact ⟨rfl,h3 k hk⟩
theorem aIt{A:RB}{l:List Int}(hl:l.Pairwise (· < ·))(hb:∀ k∈l,0≤k∧k < (A.n:Int)):(∃ r,gi (A.QG l) r)↔∃ r,gi A r∧Ea l r=true:=by
 constructor
 ·rintro ⟨r,h⟩
  have mE:∀ i,i < A.D→∀ k∈nth r i,0≤k∧k.toNat < l.length:=λ i hi k hk=>by
   obtain ⟨_,g1,g2,_⟩:=SO h hi hk
   have g2':k < (l.length:Int):=g2
   exact ⟨g1,by omega⟩
  refine ⟨r.map λ c=>c.map λ k=>nth l k.toNat,gi.ae6 (A:=A.QG l) (C:=A) _ rfl (λ _ _=>rfl) (λ _ _ _ _ h=>h) (λ _ _=>rfl) (λ i j hi hj k hk k' cR Nv=>?_) (λ i hi ho k hk=>?_) h,?_⟩
  ·have:=mE i hi k hk
   have:=mE j hj k' cR
   exact Qz hl (by omega) (by omega)
  ·obtain ⟨_,g1,g2,g3⟩:=SO h hi hk
   have h2:=mE i hi k hk
   have h3:=hb _ (ko h2.2)
   exact ⟨h3.1,h3.2,g3⟩
  ·simp only [Ea,List.all_eq_true,List.contains_iff_mem,List.mem_map]
   rintro c ⟨c0,hc0,rfl⟩ k hk
   obtain ⟨k0,Lw,rfl⟩:=List.mem_map.1 hk
   obtain ⟨i,hi,rfl⟩:=ss hc0
   have hl':r.length=A.D:=h.len
   exact ko (mE i (by omega) k0 Lw).2
 ·rintro ⟨r,h,hw⟩
  simp only [Ea,List.all_eq_true,List.contains_iff_mem] at hw
  have mE:∀ i,i < A.D→∀ k∈nth r i,k∈l:=λ i hi k hk=>hw _ (ko (by have:=h.len; omega)) k hk
  refine ⟨r.map λ c=>c.map λ k=>(l.idxOf k:Int),gi.ae6 (A:=A) (C:=A.QG l) _ rfl (λ _ _=>rfl) (λ _ _ _ _ h=>h) (λ _ _=>rfl) (λ i j hi hj k hk k' cR Nv=>?_) (λ i hi ho k hk=>?_) h⟩
  ·have:=aa7 hl (mE i hi k hk) (mE j hj k' cR) Nv
   omega
  ·have h1:=List.idxOf_lt_length_of_mem (mE i hi k hk)
   obtain ⟨_,g1,g2,g3⟩:=SO h hi hk
   refine ⟨by omega,by show ((l.idxOf k:Nat):Int) < (l.length:Int); omega,?_⟩
   show A.ok i (nth l ((l.idxOf k:Nat):Int).toNat).toNat=true
   rw [Int.toNat_natCast,N0 (mE i hi k hk)]
   exact g3
def RB.LO(A:RB)(ks:List Int):RB:={ n:=A.n,D:=ks.length,need:=λ i=>A.need (nth ks i).toNat,ok:=λ i=>A.ok (nth ks i).toNat,ap:=λ j i=>A.ap (nth ks j).toNat (nth ks i).toNat,out:=λ _=>false }
def RB.jO(A:RB)(ks:List Int):RB:={ A with out:=λ i=>!ks.contains (i:Int) }
theorem Xl{α:Type}[Inhabited α]{n i:Nat}{f:Nat→α}(h:i < n):nth ((List.range n).map f) i=f i:=by
 have h1:=df (l:=(List.range n).map f) (i:=i) (by simpa using h)
 simp only [List.getElem?_map,List.getElem?_range h,Option.map_some,Option.some.injEq] at h1
 exact h1.symm
theorem aIo{A:RB}{ks:List Int}(hl:ks.Pairwise (· < ·))(hb:∀ k∈ks,0≤k∧k < (A.D:Int)):(∃ r,gi (A.LO ks) r)↔∃ r,gi (A.jO ks) r:=by
 constructor
 ·rintro ⟨r,h⟩
  have hl':r.length=ks.length:=h.len
  have Al:∀ i,i < A.D→nth ((List.range A.D).map λ (i:Nat)=>if (i:Int)∈ks then nth r (ks.idxOf (i:Int)) else []) i=if (i:Int)∈ks then nth r (ks.idxOf (i:Int)) else []:=λ i hi=>Xl hi
  refine ⟨(List.range A.D).map λ (i:Nat)=>if (i:Int)∈ks then nth r (ks.idxOf (i:Int)) else [],⟨by simp [RB.jO],λ i hi ho=>?_,λ i hi ho=>?_,λ i j hi hj=>?_⟩⟩
  ·rw [Al i hi,if_neg]
   simpa [RB.jO,List.contains_iff_mem] using ho
  ·have hm:(i:Int)∈ks:=by simpa [RB.jO,List.contains_iff_mem] using ho
   have h1:=List.idxOf_lt_length_of_mem hm
   rw [Al i hi,if_pos hm]
   have:=h.vB (ks.idxOf (i:Int)) h1 rfl
   simp only [RB.LO,N0 hm,Int.toNat_natCast] at this
   exact this
  ·have iB:i < A.D:=hi
   rw [Al i iB,Al j (by omega)]
   by_cases hm:(i:Int)∈ks
   ·by_cases og:(j:Int)∈ks
    ·rw [if_pos hm,if_pos og]
     have h1:=List.idxOf_lt_length_of_mem hm
     have:=h.rest (ks.idxOf (i:Int)) (ks.idxOf (j:Int)) h1 (aa7 hl og hm (by omega))
     simp only [RB.LO,N0 hm,N0 og,Int.toNat_natCast] at this
     exact this
    ·rw [if_neg og]
     exact .inr (Ei.2 λ k _ h=>by cases h)
   ·rw [if_neg hm]
    exact .inr rfl
 ·rintro ⟨r,h⟩
  have hl':r.length=A.D:=h.len
  have bK:∀ i,i < ks.length→(nth ks i).toNat < A.D∧((nth ks i).toNat:Int)=nth ks i:=λ i hi=>by
   have:=hb _ (ko hi)
   omega
  have rZ:∀ i,i < ks.length→(A.jO ks).out (nth ks i).toNat=false:=λ i hi=>by
   show (!ks.contains ((nth ks i).toNat:Int))=false
   rw [(bK i hi).2]
   simp [ko hi]
  have Al:∀ i,i < ks.length→nth ((List.range ks.length).map λ i=>nth r (nth ks i).toNat) i=nth r (nth ks i).toNat:=λ i hi=>Xl hi
  refine ⟨(List.range ks.length).map λ i=>nth r (nth ks i).toNat,⟨by simp [RB.LO],λ i hi ho=>(by cases ho),λ i hi ho=>?_,λ i j hi hj=>?_⟩⟩
  ·rw [Al i hi]
   exact h.vB _ (bK i hi).1 (rZ i hi)
  ·have iB:i < ks.length:=hi
   rw [Al i iB,Al j (by omega)]
   have:=Qz hl hj iB
   have h1:=bK i iB
   have h2:=bK j (by omega)
   exact h.rest _ _ h1.1 (by omega)
def ib(t:Nat→Int)(r:List (List Int))(k:Int):Nat→Int
 | 0=>0
 | i+1=>ib t r k i+if k∈nth r i then t i else 0
def r6(t:Nat→Int)(r:List (List Int))(D:Nat):Nat→Int
 | 0=>0
 | k+1=>max (r6 t r D k) (ib t r (k:Int) D)
theorem Qd{t:Nat→Int}{r:List (List Int)}{D:Nat}{m:Int}:∀ {n:Nat},r6 t r D n≤m↔0≤m∧∀ k:Nat,k < n→ib t r (k:Int) D≤m
 | 0=>by simp [r6]
 | n+1=>by
  simp only [r6]
  rw [show (max (r6 t r D n) (ib t r (n:Int) D)≤m)↔(r6 t r D n≤m∧ib t r (n:Int) D≤m) by omega,Qd (n:=n)]
  constructor
  ·rintro ⟨⟨h1,h2⟩,h3⟩
   refine ⟨h1,λ k hk=>?_⟩
   by_cases e:k=n
   ·subst e; exact h3
   ·exact h2 k (by omega)
  ·rintro ⟨h1,h2⟩
   exact ⟨⟨h1,λ k hk=>h2 k (by omega)⟩,h2 n (by omega)⟩
theorem ajV{t t':Nat→Int}{r r':List (List Int)}{D D' n n':Nat}(h:∀ m,r6 t r D n≤m↔r6 t' r' D' n'≤m):r6 t r D n=r6 t' r' D' n':=by
 have h1:=(h _).1 (Int.le_refl _)
 have h2:=(h _).2 (Int.le_refl _)
 omega
theorem ajT{t t':Nat→Int}{r r':List (List Int)}{k k':Int}:∀ {D:Nat},(∀ i,i < D→t i=t' i∧(k∈nth r i↔k'∈nth r' i))→ib t r k D=ib t' r' k' D
 | 0,_=>rfl
 | D+1,h=>by
  simp only [ib]
  rw [ajT (D:=D) λ i hi=>h i (by omega),(h D (by omega)).1]
  congr 1
  by_cases hk:k∈nth r D
  ·rw [if_pos hk,if_pos ((h D (by omega)).2.1 hk)]
  ·rw [if_neg hk,if_neg λ e=>hk ((h D (by omega)).2.2 e)]
theorem ahG{t:Nat→Int}{r:List (List Int)}{k:Int}:∀ {D:Nat},(∀ i,i < D→k ∉ nth r i)→ib t r k D=0
 | 0,_=>rfl
 | D+1,h=>by simp only [ib,ahG (D:=D) λ i hi=>h i (by omega),if_neg (h D (by omega))]; rfl
def nK{α:Type}(w:α→Int):α→List α→α
 | x,[]=>x
 | x,y::l=>nK w (if w y < w x then y else x) l
theorem ZN{α:Type}(w:α→Int){lt:α→α→Prop}(ht:∀ x y z,lt x y→lt y z→lt x z):∀ (l:List α) (x:α),(x::l).Pairwise lt→nK w x l∈x::l∧∀ y∈x::l,w (nK w x l)≤w y∧(w y=w (nK w x l)→y=nK w x l∨lt (nK w x l) y)
 | [],x,_=>⟨by simp [nK],λ y hy=>by simp at hy; subst hy; exact ⟨Int.le_refl _,λ _=>.inl rfl⟩⟩
 | z::l,x,h=>by
  rw [List.pairwise_cons] at h
  have hz:=h.2
  rw [List.pairwise_cons] at hz
  simp only [nK]
  by_cases hw:w z < w x
  ·rw [if_pos hw]
   obtain ⟨g1,g2⟩:=ZN w ht l z h.2
   refine ⟨List.mem_cons_of_mem _ g1,λ y hy=>?_⟩
   rcases List.mem_cons.1 hy with rfl | hy
   ·have:=(g2 z (by simp)).1
    exact ⟨by omega,λ e=>by omega⟩
   ·exact g2 y hy
  ·rw [if_neg hw]
   have hx:(x::l).Pairwise lt:=List.pairwise_cons.2 ⟨λ y hy=>h.1 y (by simp [hy]),hz.2⟩
   obtain ⟨g1,g2⟩:=ZN w ht l x hx
   refine ⟨?_,λ y hy=>?_⟩
   ·rcases List.mem_cons.1 g1 with h1 | h1
    ·rw [h1]; simp
    ·simp [h1]
   ·rcases List.mem_cons.1 hy with rfl | hy
    ·exact g2 y (by simp)
    ·rcases List.mem_cons.1 hy with rfl | hy
     ·have h3:=g2 x (by simp)
      refine ⟨by omega,λ e=>?_⟩
      have h4:=h3.2 (by omega)
      rcases h4 with h4 | h4
      ·right; rw [← h4]; exact h.1 y (by simp)
      ·right; exact ht _ _ _ h4 (h.1 y (by simp))
     ·exact g2 y (by simp [hy])
end Go.Lg
namespace Go.Lg
open Go.Conc
def RB.Q5(A:RB):RB:={ n:=A.n,D:=A.D,need:=λ i=>A.need (A.D - 1 - i),ok:=λ i k=>A.ok (A.D - 1 - i) (A.n - 1 - k),ap:=λ j i=>A.ap (A.D - 1 - i) (A.D - 1 - j),out:=λ i=>A.out (A.D - 1 - i) }
def tM(n:Nat)(c:List Int):List Int:=(c.map λ k=>(n:Int) - 1 - k).reverse
def xe(n D:Nat)(r:List (List Int)):List (List Int):=(List.range D).map λ i=>tM n (nth r (D - 1 - i))
theorem LB{n:Nat}{c:List Int}{k:Int}:k∈tM n c↔(n:Int) - 1 - k∈c:=by
 simp only [tM,List.mem_reverse,List.mem_map]
 constructor
 ·rintro ⟨x,hx,rfl⟩; rwa [show (n:Int) - 1 - ((n:Int) - 1 - x)=x by omega]
 ·intro h; exact ⟨_,h,by omega⟩
theorem aiB(n:Nat)(c:List Int):(tM n c).length=c.length:=by simp [tM]
theorem aiA{n:Nat}{c:List Int}(h:c.Pairwise (· < ·)):(tM n c).Pairwise (· < ·):=by
 unfold tM
 rw [List.pairwise_reverse,List.pairwise_map]
 exact h.imp λ h=>by omega
theorem flip_flip(n:Nat)(c:List Int):tM n (tM n c)=c:=by
 unfold tM
 rw [List.map_reverse,List.reverse_reverse,List.map_map]
 conv=>rhs; rw [← List.map_id c]
 refine List.map_congr_left λ k _=>?_
 simp only [Function.comp,id]
 omega
theorem C9{n D i:Nat}{r:List (List Int)}(h:i < D):nth (xe n D r) i=tM n (nth r (D - 1 - i)):=Xl h
theorem aHq{n D:Nat}{r:List (List Int)}(h:r.length=D):xe n D (xe n D r)=r:=by
 refine ZH (by simp [xe,h]) λ i hi=>?_
 have iB:i < D:=by simpa [xe] using hi
 rw [C9 iB,C9 (by omega),flip_flip,show D - 1 - (D - 1 - i)=i by omega]
theorem gi.Q5{A:RB}{r:List (List Int)}(h:gi A r):gi A.Q5 (xe A.n A.D r):=by
 refine ⟨by simp [xe,RB.Q5],λ i hi ho=>?_,λ i hi ho=>?_,λ i j hi hj=>?_⟩
 ·have iB:i < A.D:=hi
  rw [C9 iB,h.out _ (by omega) ho]; rfl
 ·have iB:i < A.D:=hi
  rw [C9 iB]
  obtain ⟨h1,h2,h3⟩:=qX.1 (h.vB (A.D - 1 - i) (by omega) ho)
  refine qX.2 ⟨by rw [aiB,h1]; rfl,aiA h2,λ k hk=>?_⟩
  obtain ⟨g1,g2,g3⟩:=h3 _ (LB.1 hk)
  refine ⟨by omega,by show k < (A.n:Int); omega,?_⟩
  show A.ok (A.D - 1 - i) (A.n - 1 - k.toNat)=true
  rw [show A.n - 1 - k.toNat=((A.n:Int) - 1 - k).toNat by omega]
  exact g3
 ·have iB:i < A.D:=hi
  rw [C9 iB,C9 (by omega)]
  rcases h.rest (A.D - 1 - j) (A.D - 1 - i) (by omega) (by omega) with h1 | h1
  ·exact .inl h1
  ·refine .inr (Ei.2 λ k hk cR=>?_)
   exact Ei.1 h1 _ (LB.1 cR) (LB.1 hk)
theorem afy(t:Nat→Int)(r:List (List Int))(k:Int):∀ D,ib t r k (D+1)=(if k∈nth r 0 then t 0 else 0)+ib (λ i=>t (i+1)) (r.drop 1) k D
 | 0=>by simp [ib]
 | D+1=>by
  have ih:=afy t r k D
  have e:nth (r.drop 1) D=nth r (D+1):=by
   unfold nth
   rw [List.getD_eq_getElem?_getD,List.getD_eq_getElem?_getD,List.getElem?_drop,Nat.add_comm]
  rw [show ib t r k (D+1+1)=ib t r k (D+1)+if k∈nth r (D+1) then t (D+1) else 0 from rfl,ih]
  simp only [ib,e]
  omega
theorem afx:∀ {D:Nat} {t t':Nat→Int} {r r':List (List Int)} {k k':Int},(∀ i,i < D→t i=t' (D - 1 - i)∧(k∈nth r i↔k'∈nth r' (D - 1 - i)))→ib t r k D=ib t' r' k' D
 | 0,_,_,_,_,_,_,_=>rfl
 | D+1,t,t',r,r',k,k',h=>by
  rw [afy t' r' k' D]
  have h0:=h D (by omega)
  rw [show D+1 - 1 - D=0 by omega] at h0
  have ih:=afx (D:=D) (t:=t) (t':=λ i=>t' (i+1)) (r:=r) (r':=r'.drop 1) (k:=k) (k':=k') λ i hi=>by
   have h1:=h i (by omega)
   have e:nth (r'.drop 1) (D - 1 - i)=nth r' (D+1 - 1 - i):=by
    unfold nth
    rw [List.getD_eq_getElem?_getD,List.getD_eq_getElem?_getD,List.getElem?_drop,show 1+(D - 1 - i)=D+1 - 1 - i by omega]
   refine ⟨?_,?_⟩
   ·rw [h1.1]
    show t' (D+1 - 1 - i)=t' (D - 1 - i+1)
    congr 1
    omega
   ·rw [e]; exact h1.2
  simp only [ib]
  rw [ih,h0.1]
  have e2:(if k∈nth r D then t' 0 else 0)=(if k'∈nth r' 0 then t' 0 else 0):=by
   by_cases hk:k∈nth r D
   ·rw [if_pos hk,if_pos (h0.2.1 hk)]
   ·rw [if_neg hk,if_neg λ e=>hk (h0.2.2 e)]
  rw [e2]
  omega
theorem aIL{t t':Nat→Int}{n D:Nat}{r:List (List Int)}(ht:∀ i,i < D→t' i=t (D - 1 - i)):r6 t' (xe n D r) D n=r6 t r D n:=by
 have key:∀ k:Nat,k < n→ib t r (k:Int) D=ib t' (xe n D r) (((n - 1 - k:Nat)):Int) D:=λ k hk=>by
  refine afx λ i hi=>⟨?_,?_⟩
  ·rw [ht _ (by omega),show D - 1 - (D - 1 - i)=i by omega]
  ·rw [C9 (by omega),LB,show D - 1 - (D - 1 - i)=i by omega,show (n:Int) - 1 - ((n - 1 - k:Nat):Int)=(k:Int) by omega]
 refine ajV λ m=>?_
 rw [Qd,Qd]
 refine and_congr_right λ _=>⟨λ h k hk=>?_,λ h k hk=>?_⟩
 ·rw [key k hk]; exact h _ (by omega)
 ·have:=h (n - 1 - k) (by omega)
  rw [key _ (by omega),show n - 1 - (n - 1 - k)=k by omega] at this
  exact this
end Go.Lg
namespace Go.Lg
open Go.Conc
section
variable {α O:Type} [Inhabited α]
theorem ajA{l:List α}{i:Nat}(h:i < l.length):l.drop i=nth l i::l.drop (i+1):=by
 rw [List.drop_eq_getElem_cons h]
 have h3:=df h
 rw [List.getElem?_eq_getElem h] at h3
 rw [Option.some.inj h3]
theorem adY{l:List α}(p:α→Bool)(g:Nat→α→O){body:Int→Option (Int ⊕ (Unit ⊕ O))} (h:∀ i,i < l.length→body (i:Int)=some (if p (nth l i)=true then .inr (.inr (g i (nth l i))) else .inl ((i+1:Nat):Int)))
  (hn:body (l.length:Int)=some (.inr (.inl ()))) {o:Unit ⊕ O} (ho:(∀ i,i < l.length→p (nth l i)=true→(∀ j,j < i→p (nth l j)=false)→o = .inr (g i (nth l i)))∧((∀ x∈l,p x=false)→o = .inl ())):bC body 0=some o:=by
 have key:∀ k i,i+k=l.length→(∀ j,j < i→p (nth l j)=false)→bC body (i:Int)=some o:=by
  intro k
  induction k with
  | zero =>
   intro i hi hb
   obtain rfl:i=l.length:=by omega
   rw [ho.2 λ x hx=>by obtain ⟨j,hj,rfl⟩:=ss hx; exact hb j hj]
   exact za hn
  | succ k ih =>
   intro i hi hb
   have No:=h i (by omega)
   cases hp:p (nth l i) with
   | true =>
    rw [hp,if_pos rfl] at No
    rw [ho.1 i (by omega) hp hb]
    exact za No
   | false =>
    rw [hp,if_neg (by simp)] at No
    rw [Hq No]
    exact ih (i+1) (by omega) λ j hj=>by
     by_cases e:j=i
     ·subst e; exact hp
     ·exact hb j (by omega)
 exact key l.length 0 (by omega) λ j hj=>by omega
theorem adZ{l:List α}(p:α→Bool)(g:α→O){body:Int→Option (Int ⊕ (Unit ⊕ O))} (h:∀ i,i < l.length→body (i:Int)=some (if p (nth l i)=true then .inr (.inr (g (nth l i))) else .inl ((i+1:Nat):Int)))
  (hn:body (l.length:Int)=some (.inr (.inl ()))):bC body 0=some (match l.find? p with | some x=>.inr (g x) | none=>.inl ()):=by
 refine adY p (λ _ x=>g x) h hn ⟨λ i hi hp hb=>?_,λ hb=>?_⟩
 ·have:l.find? p=some (nth l i):=by
   rw [List.find?_eq_some_iff_append]
   refine ⟨hp,l.take i,l.drop (i+1),?_,λ x hx=>?_⟩
   ·rw [← ajA hi,List.take_append_drop]
   ·obtain ⟨j,hj,rfl⟩:=ss hx
    have:j < i:=by simp at hj; omega
    rw [qP this,hb j this]; rfl
  rw [this]
 ·have:l.find? p=none:=by
   rw [List.find?_eq_none]
   intro x hx
   rw [hb x hx]; simp
  rw [this]
theorem azG{l:List α}(p:α→Bool)(c:O){body:Int→Option (Int ⊕ (Unit ⊕ O))}(h:∀ i,i < l.length→body (i:Int)=some (if p (nth l i)=true then .inl ((i+1:Nat):Int) else .inr (.inr c)))
  (hn:body (l.length:Int)=some (.inr (.inl ()))):bC body 0=some (if l.all p=true then .inl () else .inr c):=by
 refine adY (λ x=>!p x) (λ _ _=>c) (λ i hi=>?_) hn ⟨λ i hi hp hb=>?_,λ hb=>?_⟩
 ·rw [h i hi]
  cases p (nth l i) <;> rfl
 ·rw [if_neg]
  intro ha
  rw [List.all_eq_true] at ha
  rw [ha _ (ko hi)] at hp
  cases hp
 ·rw [if_pos]
  rw [List.all_eq_true]
  intro x hx
  have:=hb x hx
  simpa using this
theorem LP{n:Nat}(p:Nat→Bool)(c:O){body:Int→Option (Int ⊕ (Unit ⊕ O))}(h:∀ i,i < n→body (i:Int)=some (if p i=true then .inl ((i+1:Nat):Int) else .inr (.inr c)))
  (hn:body (n:Int)=some (.inr (.inl ()))):bC body 0=some (if (List.range n).all p=true then .inl () else .inr c):=by
 have e:∀ i,i < n→nth (List.range n) i=i:=λ i hi=>by
  have:=df (l:=List.range n) (i:=i) (by simpa using hi)
  rw [List.getElem?_range hi] at this
  exact (Option.some.inj this).symm
 refine azG (l:=List.range n) p c (λ i hi=>?_) (by rw [List.length_range]; exact hn)
 rw [List.length_range] at hi
 rw [h i hi,e i hi]
theorem azH{l:List α}(p:α→Bool){body:Int × Int→Option ((Int × Int) ⊕ Int)} (h:∀ i n:Nat,i < l.length→n≤i→body ((n:Int),(i:Int))=some (.inl (if p (nth l i)=true then ((n+1:Nat):Int) else (n:Int),((i+1:Nat):Int))))
  (hn:∀ n:Int,body (n,(l.length:Int))=some (.inr n)):bC body (0,0)=some ((l.filter p).length:Int):=by
 refine (CK (λ i=>((((l.take i).filter p).length:Int),(i:Int))) l.length (λ i hi=>?_) (hn _):bC body ((0:Int),(0:Int))=_).trans ?_
 ·have hl:((l.take i).filter p).length≤i:=Nat.le_trans (List.length_filter_le _ _) (by rw [List.length_take]; omega)
  rw [h i _ hi hl]
  have:l.take (i+1)=l.take i++[nth l i]:=by
   rw [List.take_add_one,df hi]; rfl
  rw [this,List.filter_append,List.length_append]
  cases hp:p (nth l i) <;> simp [hp]
 ·rw [List.take_length]
end
end Go.Lg
