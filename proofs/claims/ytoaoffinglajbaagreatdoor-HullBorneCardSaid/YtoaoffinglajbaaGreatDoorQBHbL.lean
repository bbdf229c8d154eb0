/- Plain laws of chapter 6. Conditions: none. -/
import Derived.Test.YtoaoffinglajbaaGreatDoorQBHbC
import Derived.Test.YtoaoffinglajbaaGreatDoorQBHbM
namespace Go.Proofs.YtoaoffinglajbaaGreatDoor
open Go.Lg Go.Proofs
set_option maxRecDepth 10000
theorem gD{S O:Type}{body:S→Option (S ⊕ O)}(st:Nat→S)(n:Nat){o:O}(h:∀ i,i < n→body (st i)=some (.inl (st (i+1))))(d:body (st n)=some (.inr o)):a1 body (st 0)=some o:=by
 have key:∀ k,k≤n→a1 body (st (n - k))=some o:=by
  intro k
  induction k with
  | zero=>intro _; exact dO d
  | succ k f =>
   intro g
   rw [gC (h (n - (k+1)) (by omega)),show n - (k+1)+1=n - k by omega]
   exact f (by omega)
 have:=key n (ct _)
 rwa [Nat.sub_self] at this
def ck{O:Type}(e:Nat→Option O):Nat→Nat→Option O
 | _,0=>none
 | i,k+1=>match e i with | some o=>some o | none=>ck e (i+1) k
def r4{S O:Type}(s:S):Option O→S ⊕ O
 | some o=>.inr o
 | none=>.inl s
theorem rp{S O:Type}{body:S→Option (S ⊕ O)}(st:Nat→S)(e:Nat→Option O)(i0 n:Nat){o:O}(h:∀ i,i0≤i→i < n→body (st i)=some (r4 (st (i+1)) (e i)))(d:body (st n)=some (.inr o))(g:i0≤n):a1 body (st i0)=some ((ck e i0 (n - i0)).getD o):=by
 have key:∀ k,k≤n - i0→a1 body (st (n - k))=some ((ck e (n - k) k).getD o):=by
  intro k
  induction k with
  | zero=>intro _; exact dO d
  | succ k f =>
   intro m
   have hb:=h (n - (k+1)) (by omega) (by omega)
   unfold ck
   cases he:e (n - (k+1)) with
   | some o' =>
    rw [he] at hb
    exact dO hb
   | none =>
    rw [he] at hb
    rw [gC hb,show n - (k+1)+1=n - k by omega]
    exact f (by omega)
 have:=key (n - i0) (ct _)
 rwa [show n - (n - i0)=i0 by omega] at this
theorem GR{S O:Type}{body:S→Option (S ⊕ O)}(st:Nat→S)(e:Nat→Option O)(n:Nat){o:O}(h:∀ i,i < n→body (st i)=some (r4 (st (i+1)) (e i)))(d:body (st n)=some (.inr o)):a1 body (st 0)=some ((ck e 0 n).getD o):=by
 simpa using rp st e 0 n (λ i _ hi=>h i hi) d (Nat.zero_le _)
theorem gP{O:Type}{e:Nat→Option O}:∀ {k i:Nat},ck e i k=none↔∀ j,i≤j→j < i+k→e j=none
 | 0,i=>by simp [ck]; omega
 | k+1,i=>by
  unfold ck
  cases he:e i with
  | some o=>simp; exact ⟨i,ct _,by omega,by rw [he]; simp⟩
  | none =>
   simp only
   rw [gP]
   constructor
   ·intro h j d f
    by_cases g:j=i
    ·subst g; exact he
    ·exact h j (by omega) (by omega)
   ·intro h j d f; exact h j (by omega) (by omega)
theorem hF{O:Type}{e:Nat→Option O}:∀ {k i:Nat} {o:O},ck e i k=some o→∃ j,i≤j∧j < i+k∧e j=some o∧∀ m,i≤m→m < j→e m=none
 | 0,i,o,h=>by cases h
 | k+1,i,o,h=>by
  unfold ck at h
  cases he:e i with
  | some o'=>rw [he] at h; cases h; exact ⟨i,ct _,by omega,he,λ m d f=>by omega⟩
  | none =>
   rw [he] at h
   obtain ⟨j,d,f,g,s⟩:=hF h
   refine ⟨j,by omega,by omega,g,λ m z y=>?_⟩
   by_cases hm:m=i
   ·subst hm; exact he
   ·exact s m (by omega) y
@[simp] theorem a3 {α:Type} {a b:Option α}:ab true a b=a:=rfl
@[simp] theorem aS {α:Type} {a b:Option α}:ab false a b=b:=rfl
@[simp] theorem bD {α:Type} (xs:List α) (k:Nat):idx xs (k:Int)=xs[k]? := by simp [idx]
theorem bZ{z:Int}(d : -4611686018427387904≤z)(f:z≤4611686018427387904):i64 z=z:=rf (by omega)
theorem bN{i:Nat}(h:i≤1000000000):i64 ((i:Int)+1)=((i+1:Nat):Int):=by rw [bZ (by omega) (by omega)]; omega
theorem e7{i:Nat}(h:i≤1000000000)(d:0 < i):i64 ((i:Int) - 1)=((i - 1:Nat):Int):=by rw [bZ (by omega) (by omega)]; omega
theorem oZ{α:Type}{xs:List α}{k:Nat}(h:k≤xs.length):fw xs 0 (k:Int)=some (xs.take k):=by simp [fw,h]
theorem eU{α:Type}{xs ys:List α}(h:xs.length+ys.length≤16777216):cu xs ys=some (xs++ys):=by simp [cu,h]
def b1(n a c:Int):Bool:=decide (a≤n) && decide (n≤c)
theorem kM(n a c:Int):gd n a c=some (b1 n a c):=by
 unfold gd b1
 cases decide (a≤n) <;> rfl
theorem jv(n a c:Int):en n a c=some (b1 n a c):=by
 unfold en b1
 cases decide (a≤n) <;> rfl
def gV(x:Reach)(a c:Int):Bool:=decide (a≤x.ai) && (decide (x.ai≤x.ak) && decide (x.ak≤c))
theorem zh(x:Reach)(a c:Int):jz x a c=some (gV x a c):=by
 unfold jz gV
 cases decide (a≤x.ai) <;> cases decide (x.ai≤x.ak) <;> rfl
def gZ(x:Reach)(w:Int):Bool:=decide (x.ak - x.ai < w)
theorem Bp{x:Reach}{a c:Int}(d : -1000000≤a)(f:c≤1000000)(h:gV x a c=true):i64 (x.ak - x.ai)=x.ak - x.ai:=by
 simp only [gV,dn,decide_eq_true_eq] at h
 exact bZ (by omega) (by omega)
theorem zs{x:Reach}{a c w:Int}(m : -1000000≤a)(s:c≤1000000):j9 x a c w=some (gV x a c && gZ x w):=by
 unfold j9 gV gZ
 by_cases d:a≤x.ai
 ·by_cases f:x.ai≤x.ak
  ·by_cases g:x.ak≤c
   ·simp [d,f,g,bZ (z:=x.ak - x.ai) (by omega) (by omega)]
   ·simp [d,f,g]
  ·simp [d,f]
 ·simp [d]
def nth{α:Type}[Inhabited α](l:List α)(i:Nat):α:=l.getD i default
theorem a6{α:Type}[Inhabited α]{l:List α}{i:Nat}(h:i < l.length):l[i]? = some (nth l i):=by
 unfold nth
 rw [fq,e3 h]; rfl
theorem dk{α:Type}[Inhabited α]{l:List α}{i:Nat}(h:i < l.length):nth l i∈l:=List.mem_of_getElem? (a6 h)
theorem hR{α:Type}[Inhabited α]{l:List α}{x:α}(h:x∈l):∃ i,i < l.length∧nth l i=x:=by
 obtain ⟨i,hi,rfl⟩:=List.mem_iff_getElem.1 h
 refine ⟨i,hi,?_⟩
 have:=a6 hi
 rw [e3 hi] at this
 exact (ey this).symm
theorem u1{α:Type}[Inhabited α]{l m:List α}(h:l.length=m.length)(he:∀ i,i < l.length→nth l i=nth m i):l=m:=by
 apply List.ext_getElem?
 intro i
 by_cases hi:i < l.length
 ·rw [a6 hi,a6 (h ▸ hi),he i hi]
 ·rw [List.getElem?_eq_none (by omega),List.getElem?_eq_none (by omega)]
theorem rP{α:Type}[Inhabited α]{l:List α}{i k:Nat}(h:i < k):nth (l.take k) i=nth l i:=by
 unfold nth
 rw [fq,fq,List.getElem?_take_of_lt h]
instance:Inhabited cA:=⟨⟨⟨#[]⟩,0,⟨0,0⟩,[]⟩⟩
instance:Inhabited bU:=⟨⟨0,0⟩⟩
theorem dh{S O β:Type}{body:S→Option (S ⊕ O)}{s:S}{o:O}{f:O→Option β}(h:a1 body s=some o):(a1 body s).bind f=f o:=by rw [h]; rfl
theorem dec_lt{i:Nat}{n:Nat}(h:i < n):decide ((i:Int) < (n:Int))=true:=by simpa using h
theorem Cs{i:Nat}{n:Nat}(h:i≤n):decide ((i:Int)≤(n:Int))=true:=by simpa using h
theorem cP{n:Nat}:decide ((n:Int) < (n:Int))=false:=by simp
theorem Ct{n:Nat}:decide (((n+1:Nat):Int)≤(n:Int))=false:=by simp; omega
theorem td{i:Nat}(h:0 < i):decide ((i:Int) > 0)=true:=by simpa using h
theorem qZ{i:Nat}(h:¬ 0 < i):decide ((i:Int) > 0)=false:=by simpa using h
theorem tg{O:Type}{f:Option O}{g:Unit→Option O}{d:O}(m:g ()=some d):Sum.elim g (λ q=>some q) (((f.map Sum.inr).getD (.inl ())):Unit ⊕ O)=some (f.getD d):=by
 cases f with
 | none=>exact m
 | some o=>rfl
theorem nu{O Q:Type}(g:O→Q)(e:Nat→Option O):∀ (k i:Nat),ck (λ j=>(e j).map g) i k=(ck e i k).map g
 | 0,_=>rfl
 | k+1,i=>by
  unfold ck
  cases e i with
  | none=>exact nu g e k (i+1)
  | some o=>rfl
theorem search{O:Type}{body:Int→Option (Int ⊕ (Unit ⊕ O))}(e:Nat→Option O)(i0 n:Nat){d:O}{g:Unit→Option O}(h:∀ i,i0≤i→i < n→body (i:Int)=some (match e i with | some o=>.inr (.inr o) | none=>.inl ((i+1:Nat):Int)))(z:body (n:Int)=some (.inr (.inl ())))(f:i0≤n)(y:g ()=some d) :
  (a1 body (i0:Int)).bind (Sum.elim g λ q=>some q)=some ((ck e i0 (n - i0)).getD d):=by
 refine (dh (rp (λ i=>(i:Int)) (λ i=>(e i).map Sum.inr) i0 n (o:=.inl ()) (λ i m s=>?_) z f)).trans ?_
 ·rw [h i m s]
  cases e i <;> rfl
 ·rw [nu]
  exact tg y
theorem fl{O:Type}{body:Int→Option (Int ⊕ (Unit ⊕ O))}(e:Nat→Option O)(n:Nat){d:O}{g:Unit→Option O}(h:∀ i,i < n→body (i:Int)=some (match e i with | some o=>.inr (.inr o) | none=>.inl ((i+1:Nat):Int)))(m:body (n:Int)=some (.inr (.inl ())))(f:g ()=some d) :
  (a1 body 0).bind (Sum.elim g λ q=>some q)=some ((ck e 0 n).getD d):=search e 0 n (λ i _ hi=>h i hi) m (Nat.zero_le _) f
def kE(l:List Int)(below:Int)(i:Nat):Option Int :=
 if b1 (nth l i) 0 (below - 1)=false then some 6 else if 0 < i then (if nth l i≤nth l (i - 1) then some 7 else none) else none
def fY(l:List Int)(below:Int):Int:=(ck (kE l below) 0 l.length).getD 0
theorem zj{l:List Int}{below:Int}(s:l.length≤1000)(g:0≤below)(m:below≤1000):j7 l below=some (fY l below):=by
 unfold j7
 refine fl (kE l below) l.length (λ i hi=>?_) (by simp only [cP,aS]) rfl
 simp only [dec_lt hi,a3,bD,a6 hi,aD,kM,bZ (z:=below - 1) (by omega) (by omega),bN (i:=i) (by omega)]
 unfold kE
 cases b1 (nth l i) 0 (below - 1) with
 | false=>rfl
 | true =>
  by_cases d:0 < i
  ·simp only [td d,Bool.not_true,aS,a3,e7 (i:=i) (by omega) d,bD,a6 (show i - 1 < l.length by omega),aD,d,if_true,ji,if_false]
   by_cases f:nth l i≤nth l (i - 1) <;> simp [f]
  ·simp [d]
theorem G0{l:List Int}{below:Int}(s:l.length≤1000)(g:0≤below)(m:below≤1000):pk l below=some (fY l below):=by
 unfold pk
 refine fl (kE l below) l.length (λ i hi=>?_) (by simp only [cP,aS]) rfl
 simp only [dec_lt hi,a3,bD,a6 hi,aD,jv,bZ (z:=below - 1) (by omega) (by omega),bN (i:=i) (by omega)]
 unfold kE
 cases b1 (nth l i) 0 (below - 1) with
 | false=>rfl
 | true =>
  by_cases d:0 < i
  ·simp only [td d,Bool.not_true,aS,a3,e7 (i:=i) (by omega) d,bD,a6 (show i - 1 < l.length by omega),aD,d,if_true,ji,if_false]
   by_cases f:nth l i≤nth l (i - 1) <;> simp [f]
  ·simp [d]
theorem o7{α:Type}[Inhabited α](p:α→Bool)(l:List α):(ck (λ i=>if p (nth l i) then some true else none) 0 l.length).getD false=l.any p:=by
 cases h:ck (λ i=>if p (nth l i) then some true else none) 0 l.length with
 | none =>
  rw [gP] at h
  symm
  rw [Option.getD_none,List.any_eq_false]
  intro x f
  obtain ⟨i,hi,rfl⟩:=hR f
  have:=h i (Nat.zero_le _) (by omega)
  simpa using this
 | some o =>
  obtain ⟨j,_,g,he,_⟩:=hF h
  split at he
  ·rename_i d
   cases he
   symm
   rw [hs,List.any_eq_true]
   exact ⟨nth l j,dk (by omega),d⟩
  ·cases he
theorem BP(l:List Int)(n:Int):(l.any λ x=>n == x)=l.contains n:=by
 rw [Bool.eq_iff_iff,List.any_eq_true,List.contains_iff_mem]
 constructor
 ·rintro ⟨x,d,h⟩
  rw [beq_iff_eq] at h; subst h; exact d
 ·intro h; exact ⟨n,h,by simp⟩
theorem sC(l:List Int)(n:Int):(l.any λ x=>x == n)=l.contains n:=by
 rw [Bool.eq_iff_iff,List.any_eq_true,List.contains_iff_mem]
 constructor
 ·rintro ⟨x,d,h⟩
  rw [beq_iff_eq] at h; subst h; exact d
 ·intro h; exact ⟨n,h,by simp⟩
theorem nG{l:List Int}{n:Int}(f:l.length≤1000):gE l n=some (l.contains n):=by
 unfold gE
 refine (fl (λ i=>if (nth l i == n) then some true else none) l.length (d:=false) (λ i hi=>?_) (by simp only [cP,aS]) rfl).trans ?_
 ·simp only [dec_lt hi,a3,bD,a6 hi,aD,bN (i:=i) (by omega)]
  cases nth l i == n <;> rfl
 ·rw [o7 (λ x=>x == n) l]
  rw [sC]
theorem q7{α:Type}[Inhabited α](p:α→Bool)(l:List α):decide ((ck (λ i=>if p (nth l i) then some (i:Int) else none) 0 l.length).getD (-1) ≥ 0)=l.any p:=by
 rw [← o7 p l]
 cases h:ck (λ i=>if p (nth l i) then some (i:Int) else none) 0 l.length with
 | none =>
  rw [gP] at h
  have:ck (λ i=>if p (nth l i) then some true else none) 0 l.length=none:=by
   rw [gP]
   intro j d f
   have:=h j d f
   cases s:p (nth l j) with
   | true=>rw [s] at this; cases this
   | false=>rfl
  rw [this]; rfl
 | some o =>
  obtain ⟨j,d,f,g,y⟩:=hF h
  split at g
  ·rename_i s
   cases g
   have:ck (λ i=>if p (nth l i) then some true else none) 0 l.length=some true:=by
    cases m:ck (λ i=>if p (nth l i) then some true else none) 0 l.length with
    | none=>rw [gP] at m; have:=m j d f; rw [if_pos s] at this; cases this
    | some b =>
     obtain ⟨_,_,_,hb,_⟩:=hF m
     split at hb
     ·cases hb; rfl
     ·cases hb
   rw [this]
   simp
  ·cases g
theorem HZ{l:List Int}{n:Int}(f:l.length≤1000):mn l n=some (l.contains n):=by
 unfold mn nO
 rw [fl (λ i=>if (n == nth l i) then some (i:Int) else none) l.length (d:=(-1)) (λ i hi=>?_) (by simp only [cP,aS]) rfl]
 ·rw [aD,q7 (λ x=>n == x) l]
  rw [BP]
 ·simp only [dec_lt hi,a3,bD,a6 hi,aD,bN (i:=i) (by omega)]
  cases n == nth l i <;> rfl
theorem G4{l:List Int}{f:Int→Option Bool}{p:Int→Bool}(m:l.length≤1000)(g:∀ x∈l,f x=some (p x)):kN l f=some (l.any p):=by
 unfold kN nJ
 rw [fl (λ i=>if p (nth l i) then some (i:Int) else none) l.length (d:=(-1)) (λ i hi=>?_) (by simp only [cP,aS]) rfl]
 ·rw [aD,q7 p l]
 ·simp only [dec_lt hi,a3,bD,a6 hi,aD,g _ (dk hi),bN (i:=i) (by omega)]
  cases p (nth l i) <;> rfl
theorem Iy{l:List cA}{f:cA→Option Bool}{p:cA→Bool}(m:l.length≤1000)(g:∀ x∈l,f x=some (p x)):mD l f=some (l.any p):=by
 unfold mD nP
 rw [fl (λ i=>if p (nth l i) then some (i:Int) else none) l.length (d:=(-1)) (λ i hi=>?_) (by simp only [cP,aS]) rfl]
 ·rw [aD,q7 p l]
 ·simp only [dec_lt hi,a3,bD,a6 hi,aD,g _ (dk hi),bN (i:=i) (by omega)]
  cases p (nth l i) <;> rfl
theorem Hm{l:List bU}{f:bU→Option Bool}{p:bU→Bool}(m:l.length≤1000)(g:∀ x∈l,f x=some (p x)):mg l f=some (l.any p):=by
 unfold mg nN
 rw [fl (λ i=>if p (nth l i) then some (i:Int) else none) l.length (d:=(-1)) (λ i hi=>?_) (by simp only [cP,aS]) rfl]
 ·rw [aD,q7 p l]
 ·simp only [dec_lt hi,a3,bD,a6 hi,aD,g _ (dk hi),bN (i:=i) (by omega)]
  cases p (nth l i) <;> rfl
theorem Li{O:Type}{body:Int→Option (Int ⊕ (Unit ⊕ O))}(e:Nat→Option O)(n:Nat)(h:∀ i,i < n→body (i:Int)=some (match e i with | some o=>.inr (.inr o) | none=>.inl ((i+1:Nat):Int)))(d:body (n:Int)=some (.inr (.inl ()))) :
  a1 body 0=some (match ck e 0 n with | some o=>.inr o | none=>.inl ()):=by
 refine (GR (λ i=>(i:Int)) (λ i=>(e i).map Sum.inr) n (o:=.inl ()) (λ i hi=>?_) d).trans ?_
 ·rw [h i hi]
  cases e i <;> rfl
 ·rw [nu]
  cases ck e 0 n <;> rfl
theorem Fj{α O:Type}[Inhabited α](p:α→Bool)(c:O)(l:List α)(n:Nat)(s:n≤l.length):ck (λ k=>if p (nth l k) then some c else none) 0 n=if (l.take n).any p then some c else none:=by
 cases h:ck (λ k=>if p (nth l k) then some c else none) 0 n with
 | none =>
  rw [gP] at h
  have:(l.take n).any p=false:=by
   rw [List.any_eq_false]
   intro x g
   obtain ⟨i,hi,rfl⟩:=hR g
   have d:i < n:=by simp at hi; omega
   rw [rP d]
   have:=h i (Nat.zero_le _) (by omega)
   simpa using this
  rw [this]; rfl
 | some o =>
  obtain ⟨j,_,m,he,_⟩:=hF h
  split at he
  ·rename_i f
   cases he
   have:(l.take n).any p=true:=by
    rw [List.any_eq_true]
    refine ⟨nth l j,?_,f⟩
    rw [← rP (l:=l) (show j < n by omega)]
    exact dk (by simp; omega)
   rw [this]; rfl
  ·cases he
theorem collect{α:Type}{body:List α × Int→Option ((List α × Int) ⊕ List α)}(g:Nat→Option α)(n:Nat) (h:∀ i acc,i < n→acc.length≤i→body (acc,(i:Int))=some (.inl (acc++(g i).toList,((i+1:Nat):Int)))) (m:∀ acc,body (acc,(n:Int))=some (.inr acc)) :
  a1 body ([],0)=some ((List.range n).filterMap g):=by
 refine (gD (λ i=>((List.range i).filterMap g,(i:Int))) n (λ i hi=>?_) (m _):a1 body ([],(0:Int))=_)
 have f:((List.range i).filterMap g).length≤i:=by
  have:=List.length_filterMap_le g (List.range i)
  simpa using this
 rw [h i _ hi f,List.range_succ,List.filterMap_append,show List.filterMap g [i]=(g i).toList by cases d:g i <;> simp [d]]
structure Small (b:an):Prop where
 pieces:b.ao.length≤20
 out:b.Out.length≤20
 pa:b.aV.length≤20
 each:∀ p∈b.ao,p.Name.size≤100∧p.On.length≤20
def l4(b:an):Bool :=
 decide (20 < b.ao.length) || (decide (20 < b.Out.length) || (decide (20 < b.aV.length) || b.ao.any λ p=>decide (100 < p.Name.size) || decide (20 < p.On.length)))
theorem l2{n m:Nat}:decide ((n:Int) > (m:Int))=decide (m < n):=by
 by_cases h:m < n <;> simp [h]
theorem IC(b:an):pG b=some (l4 b):=by
 unfold pG l4
 have e1:decide ((b.ao.length:Int) > 20)=decide (20 < b.ao.length):=l2 (m:=20)
 have y:decide ((b.Out.length:Int) > 20)=decide (20 < b.Out.length):=l2 (m:=20)
 have z:decide ((b.aV.length:Int) > 20)=decide (20 < b.aV.length):=l2 (m:=20)
 rw [e1,y,z]
 by_cases f:20 < b.ao.length
 ·simp [f]
 by_cases g:20 < b.Out.length
 ·simp [f,g]
 by_cases s:20 < b.aV.length
 ·simp [f,g,s]
 simp only [f,g,s,decide_false,aS,aD,Bool.false_or]
 rw [fl (λ i=>if (decide (100 < (nth b.ao i).Name.size) || decide (20 < (nth b.ao i).On.length)) then some true else none) b.ao.length (d:=false) (λ i hi=>?_) (by simp only [cP,aS]) rfl]
 ·rw [o7 (λ p:cA=>decide (100 < p.Name.size) || decide (20 < p.On.length)) b.ao]
 ·have f1:decide (((nth b.ao i).Name.size:Int) > 100)=decide (100 < (nth b.ao i).Name.size):=l2 (m:=100)
  have f2:decide (((nth b.ao i).On.length:Int) > 20)=decide (20 < (nth b.ao i).On.length):=l2 (m:=20)
  simp only [dec_lt hi,a3,bD,a6 hi,aD,f1,f2,bN (i:=i) (by omega)]
  cases decide (100 < (nth b.ao i).Name.size) <;> cases decide (20 < (nth b.ao i).On.length) <;> rfl
theorem yh{b:an}(h:l4 b=false):Small b:=by
 simp only [l4,Bool.or_eq_false_iff,decide_eq_false_iff_not,List.any_eq_false,Bool.not_eq_true] at h
 obtain ⟨g,m,s,d⟩:=h
 refine ⟨by omega,by omega,by omega,λ p f=>?_⟩
 have:=d p f
 omega
def isLet(n:Int):Bool:=b1 n 97 122
def pc(n:Int):Bool:=b1 n 48 57
theorem r5(s:ByteArray):(ee s).length=s.size:=by simp [ee]
theorem vu{s:ByteArray}{i:Nat}(h:i < s.size):0≤nth (ee s) i∧nth (ee s) i < 256:=by
 have hm:nth (ee s) i∈ee s:=dk (by rw [r5]; exact h)
 unfold ee at hm
 obtain ⟨b,_,hb⟩:=List.mem_map.1 hm
 unfold ee
 rw [← hb]
 have:=b.toNat_lt
 omega
def hH(s:ByteArray)(i:Nat):Option Bool:=if isLet (nth (ee s) i)=false then (if i=0 then some false else if pc (nth (ee s) i)=false then some false else none) else none
def l7(s:ByteArray):Bool:=(ck (hH s) 0 s.size).getD (b1 (s.size:Int) 1 12)
theorem Iw{s:ByteArray}(y:s.size≤1000):mC s=some (l7 s):=by
 unfold mC l7
 have e:=r5 s
 rw [e]
 refine fl (hH s) s.size (λ i hi=>?_) (by simp only [cP,aS]) (by rw [kM]; rfl)
 have f:i < (ee s).length:=by omega
 obtain ⟨g,m⟩:=vu hi
 simp only [dec_lt hi,a3,bD,a6 f,aD,kM,bZ (z:=nth (ee s) i) (by omega) (by omega),bN (i:=i) (by omega)]
 unfold hH isLet pc
 cases b1 (nth (ee s) i) 97 122 with
 | true=>rfl
 | false =>
  by_cases d:i=0
  ·subst d; rfl
  ·have:((i:Int) == 0)=false:=by simpa using d
   simp only [this,Bool.not_false,a3,aS,d,if_false,if_true]
   cases b1 (nth (ee s) i) 48 57 <;> rfl
theorem yY{n:Int}(d:0≤n)(f:n < 256):mf n=some (isLet n):=by unfold mf isLet; rw [bZ (by omega) (by omega),jv]; rfl
theorem Hj{n:Int}(d:0≤n)(f:n < 256):nI n=some (pc n):=by unfold nI pc; rw [bZ (by omega) (by omega),jv]; rfl
theorem FT{s:ByteArray}{k i:Nat}{o:Bool}(h:ck (hH s) i k=some o):o=false:=by
 obtain ⟨j,_,_,he,_⟩:=hF h
 unfold hH at he
 split at he
 ·split at he
  ·cases he; rfl
  ·split at he
   ·cases he; rfl
   ·cases he
 ·cases he
theorem GY{s:ByteArray}(O:s.size≤1000):pj s=some (l7 s):=by
 unfold pj l7
 rw [jv,aD]
 cases hb:b1 (s.size:Int) 1 12 with
 | false =>
  simp only [Bool.not_false,a3,aD]
  congr 1
  cases C:ck (hH s) 0 s.size with
  | none=>rfl
  | some o=>rw [FT C]; rfl
 | true =>
  have B:1≤s.size:=by
   simp only [b1,dn,decide_eq_true_eq] at hb
   omega
  have D:0 < (ee s).length:=by rw [r5]; omega
  obtain ⟨y,z⟩:=vu (s:=s) (i:=0) (by omega)
  have G:jf s 0=some (nth (ee s) 0):=by unfold jf; rw [← a6 D]; exact bD _ 0
  simp only [Bool.not_true,aS,G,aD,yY y z]
  have hu:ck (hH s) 0 s.size=match hH s 0 with | some o=>some o | none=>ck (hH s) 1 (s.size - 1):=by
   obtain ⟨k,F⟩:∃ k,s.size=k+1:=⟨s.size - 1,by omega⟩
   rw [F]
   simp only [ck,Nat.add_sub_cancel,Nat.zero_add]
   cases hH s 0 <;> rfl
  rw [hu]
  unfold hH
  cases N:isLet (nth (ee s) 0) with
  | false=>rfl
  | true =>
   simp only [Bool.not_true,aS,ji,if_false]
   have m:=search (body:=λ (f:Int) =>
    ab (decide (f < (s.size:Int)))
    ((jf s f).bind λ I =>
    (mf I).bind λ J =>
    ab (!J)
    ((jf s f).bind λ K =>
    (nI K).bind λ L =>
    ab (!L)
    (some (.inr (.inr false)))
    (some (.inl (i64 (f+1)))))
    (some (.inl (i64 (f+1)))))
    (some (.inr (.inl ())))) (hH s) 1 s.size (d:=true) (g:=λ _=>some true) (λ i M hi=>?_) (by simp only [cP,aS]) B rfl
   ·exact m
   ·have E:i < (ee s).length:=by rw [r5]; exact hi
    obtain ⟨k1,k2⟩:=vu hi
    have H:jf s (i:Int)=some (nth (ee s) i):=by unfold jf; rw [← a6 E]; exact bD _ i
    simp only [dec_lt hi,a3,H,aD,yY k1 k2,Hj k1 k2,bN (i:=i) (by omega)]
    have A:i≠0:=by omega
    unfold hH
    cases isLet (nth (ee s) i) with
    | true=>rfl
    | false =>
     simp only [Bool.not_false,a3,A,if_false,if_true]
     cases pc (nth (ee s) i) <;> rfl
def lH(p q:cA):Bool:=q.Name.toList == p.Name.toList
def kl(b:an)(i:Nat):Option Int :=
 if l7 (nth b.ao i).Name=false then some 4
 else if (b.ao.take i).any (lH (nth b.ao i))=true then some 5
 else if (b1 (nth b.ao i).dR (-9) 9 && (gV (nth b.ao i).Weight 1 99 && gZ (nth b.ao i).Weight 3))=false then some 1
 else if fY (nth b.ao i).On (i:Int)≠0 then some (fY (nth b.ao i).On (i:Int)) else none
def ik(b:an):Int:=if b1 (b.ao.length:Int) 1 5=false then 2 else (ck (kl b) 0 b.ao.length).getD 0
theorem Io{b:an}(h:Small b):mz b=some (ik b):=by
 unfold mz ik
 rw [kM,aD]
 cases b1 (b.ao.length:Int) 1 5 with
 | false=>rfl
 | true =>
  simp only [Bool.not_true,aS,ji,if_false]
  have s:=h.pieces
  refine fl (kl b) b.ao.length (λ i hi=>?_) (by simp only [cP,aS]) rfl
  obtain ⟨g,m⟩:=h.each _ (dk hi)
  simp only [dec_lt hi,a3,bD,a6 hi,aD,Iw (show (nth b.ao i).Name.size≤1000 by omega),oZ (show i≤b.ao.length by omega),zs (x:=(nth b.ao i).Weight) (a:=1) (c:=99) (w:=3) (by omega) (by omega),kM,
   Iy (l:=b.ao.take i) (f:=λ y=>mE y (nth b.ao i)) (p:=lH (nth b.ao i)) (by simp; omega) (λ x _=>rfl),zj (l:=(nth b.ao i).On) (below:=(i:Int)) (by omega) (by omega) (by omega),bN (i:=i) (by omega)]
  unfold kl
  cases l7 (nth b.ao i).Name with
  | false=>rfl
  | true =>
   cases (b.ao.take i).any (lH (nth b.ao i)) with
   | true=>rfl
   | false =>
    cases b1 (nth b.ao i).dR (-9) 9 with
    | false=>rfl
    | true =>
     cases (gV (nth b.ao i).Weight 1 99 && gZ (nth b.ao i).Weight 3) with
     | false=>rfl
     | true =>
      by_cases d:fY (nth b.ao i).On (i:Int)=0
      ·simp [d]
      ·have:(fY (nth b.ao i).On (i:Int) != 0)=true:=by simpa using d
       simp [d,this]
theorem I3{b:an}(h:Small b):pN b=some (ik b):=by
 unfold pN ik
 rw [jv,aD]
 cases b1 (b.ao.length:Int) 1 5 with
 | false=>rfl
 | true =>
  simp only [Bool.not_true,aS,ji,if_false]
  have z:=h.pieces
  refine fl (kl b) b.ao.length (λ i hi=>?_) (by simp only [cP,aS]) rfl
  obtain ⟨s,y⟩:=h.each _ (dk hi)
  simp only [dec_lt hi,a3,bD,a6 hi,aD,GY (show (nth b.ao i).Name.size≤1000 by omega)]
  rw [Li (λ k=>if lH (nth b.ao i) (nth b.ao k) then some (5:Int) else none) i (λ k g=>?_) (by simp only [cP,aS])]
  ·rw [Fj (lH (nth b.ao i)) (5:Int) b.ao i (by omega)]
   simp only [zh,jv,aD,G0 (l:=(nth b.ao i).On) (below:=(i:Int)) (by omega) (by omega) (by omega),bN (i:=i) (by omega)]
   unfold kl
   cases l7 (nth b.ao i).Name with
   | false=>rfl
   | true =>
    cases (b.ao.take i).any (lH (nth b.ao i)) with
    | true=>rfl
    | false =>
     cases b1 (nth b.ao i).dR (-9) 9 with
     | false=>rfl
     | true =>
      cases m:gV (nth b.ao i).Weight 1 99 with
      | false=>rfl
      | true =>
       have hw:decide (i64 ((nth b.ao i).Weight.ak - (nth b.ao i).Weight.ai) ≥ 3)=!gZ (nth b.ao i).Weight 3:=by
        rw [Bp (by omega) (by omega) m]
        unfold gZ
        by_cases f:(nth b.ao i).Weight.ak - (nth b.ao i).Weight.ai < 3
        ·simp [f]
        ·simp [f]; omega
       simp only [Bool.not_true,aS,Sum.elim_inl,aD,hw,gq,if_false,Bool.true_and,ji]
       cases gZ (nth b.ao i).Weight 3 with
       | false=>rfl
       | true =>
        by_cases d:fY (nth b.ao i).On (i:Int)=0
        ·simp [d]
        ·have:(fY (nth b.ao i).On (i:Int) != 0)=true:=by simpa using d
         simp [d,this]
  ·simp only [dec_lt g,a3,bD,a6 (show k < b.ao.length by omega),aD,bN (i:=k) (by omega)]
   rw [show ((nth b.ao k).Name.toList == (nth b.ao i).Name.toList)=lH (nth b.ao i) (nth b.ao k) from rfl]
   cases lH (nth b.ao i) (nth b.ao k) <;> rfl
def bY(out:List Int):List Bool:=(List.range 5).map λ (i:Nat)=>out.contains (i:Int)
theorem yi:bY []=[false,false,false,false,false]:=rfl
theorem FA(out:List Int):(bY out).length=5:=by simp [bY]
def hx(l:List Int):Prop:=∀ x∈l,0≤x∧x < 5
theorem pb(out:List Int){p:Int}(f:0≤p)(g:p < 5):idx (bY out) p=some (out.contains p):=by
 obtain ⟨k,rfl⟩:∃ k:Nat,p=(k:Int):=⟨p.toNat,by omega⟩
 have d:k < 5:=by omega
 rw [bD]
 simp [bY,d]
theorem FB(out:List Int){p:Int}(g:0≤p)(m:p < 5):(bY out).set p.toNat true=bY (out++[p]):=by
 obtain ⟨k,rfl⟩:∃ k:Nat,p=(k:Int):=⟨p.toNat,by omega⟩
 have f:k < 5:=by omega
 apply List.ext_getElem?
 intro i
 rw [cm,List.getElem?_set]
 by_cases hi:i < 5
 ·by_cases d:k=i
  ·subst d
   simp [bY,f]
  ·have:¬ (i:Int)=(k:Int):=by omega
   simp [bY,hi,d,this]
 ·rw [if_neg (by omega)]
  simp [bY,hi]
theorem rE{l out:List Int}(m:hx l)(s:l.length≤1000):e9 (bY out) l=some (bY (out++l)):=by
 unfold e9
 refine (dh (o:=bY (out++l)) ?_).trans rfl
 have g:((0:Int),bY out)=(λ i:Nat=>((i:Int),bY (out++l.take i))) 0:=by simp
 rw [g]
 refine gD (λ i:Nat=>((i:Int),bY (out++l.take i))) l.length (λ i hi=>?_) ?_
 ·obtain ⟨d,f⟩:=m _ (dk hi)
  simp only [dec_lt hi,a3,bD,a6 hi,aD,pb _ d f,FB _ d f,bN (i:=i) (by omega)]
  rw [List.append_assoc,List.take_add_one,a6 hi]
  rfl
 ·simp only [cP,aS,List.take_length]
theorem pP{l:List Int}(d:hx l)(f:l.length≤1000):e9 [false,false,false,false,false] l=some (bY l):=by
 have:=rE (out:=[]) d f
 rwa [List.nil_append,yi] at this
def hV(b:an)(p:Int)(i:Nat):Bool:=(nth b.ao i).On.contains p
def fv(b:an)(out:List Int)(p:Int):Bool:=!out.contains p && (List.range b.ao.length).all λ (i:Nat)=>out.contains (i:Int) || !hV b p i
theorem yc(p:Nat→Bool)(n:Nat):(ck (λ i=>if p i=true then some false else none) 0 n).getD true=(List.range n).all λ i=>!p i:=by
 cases h:ck (λ i=>if p i=true then some false else none) 0 n with
 | none =>
  rw [gP] at h
  symm
  rw [Option.getD_none,List.all_eq_true]
  intro i hi
  have f:i < n:=by simpa using hi
  have:=h i (Nat.zero_le _) (by omega)
  simpa using this
 | some o =>
  obtain ⟨j,_,g,he,_⟩:=hF h
  split at he
  ·rename_i d
   cases he
   symm
   rw [hs,List.all_eq_false]
   exact ⟨j,by simp; omega,by simp [d]⟩
  ·cases he
theorem yO{b:an}(h:Small b){out:List Int}{p:Int}(f:out.length≤1000):md b out p=some (fv b out p):=by
 unfold md fv
 have m:=h.pieces
 rw [nG f,aD]
 cases out.contains p with
 | true=>rfl
 | false =>
  rw [aS,Bool.not_false,Bool.true_and]
  rw [fl (λ i=>if (!(out.contains (i:Int)) && hV b p i)=true then some false else none) b.ao.length (d:=true) (λ i hi=>?_) (by simp only [cP,aS]) rfl]
  ·rw [yc]
   congr 1
   congr 1
   funext i
   cases out.contains (i:Int) <;> simp
  ·obtain ⟨_,g⟩:=h.each _ (dk hi)
   simp only [dec_lt hi,a3,bD,a6 hi,aD,nG f,nG (l:=(nth b.ao i).On) (n:=p) (by omega),bN (i:=i) (by omega)]
   rw [show (nth b.ao i).On.contains p=hV b p i from rfl]
   cases out.contains (i:Int) with
   | true=>rfl
   | false=>cases hV b p i <;> rfl
theorem Hv{b:an}(h:Small b)(p:Int):mi b p=some ((List.range b.ao.length).filterMap λ i=>if hV b p i=true then some (i:Int) else none):=by
 unfold mi
 have g:=h.pieces
 rw [collect (λ i=>if hV b p i=true then some (i:Int) else none) b.ao.length (λ i acc hi d=>?_) (λ acc=>by simp only [cP,aS])]
 ·rfl
 ·obtain ⟨_,f⟩:=h.each _ (dk hi)
  simp only [dec_lt hi,a3,bD,a6 hi,aD,HZ (l:=(nth b.ao i).On) (n:=p) (by omega),bN (i:=i) (by omega)]
  rw [show (nth b.ao i).On.contains p=hV b p i from rfl]
  cases hV b p i with
  | true=>simp [eU (xs:=acc) (ys:=[(i:Int)]) (by simp; omega)]
  | false=>simp
theorem yT{b:an}(h:Small b)(y:b.ao.length≤5){out:List Int}{p:Int}(m:0≤p)(s:p < 5):j0 b (bY out) p=some (fv b out p):=by
 unfold j0 fv
 rw [pb out m s,aD]
 cases out.contains p with
 | true=>rfl
 | false =>
  rw [Bool.not_false,a3,Hv h,aD,G4 (p:=λ n=>!out.contains n) (l:=(List.range b.ao.length).filterMap λ i=>if hV b p i=true then some (i:Int) else none) (by
   have:=List.length_filterMap_le (λ i=>if hV b p i=true then some (i:Int) else none) (List.range b.ao.length)
   simp at this; omega) (λ x d=>?_)]
  ·rw [aD,Bool.true_and]
   congr 1
   rw [Bool.eq_iff_iff,Bool.not_eq_true',List.any_eq_false,List.all_eq_true]
   constructor
   ·intro f i hi
    cases g:hV b p i with
    | false=>simp
    | true =>
     have:=f (i:Int) (List.mem_filterMap.2 ⟨i,hi,by rw [g]; rfl⟩)
     simpa using this
   ·intro f x d
    obtain ⟨i,hi,d⟩:=List.mem_filterMap.1 d
    split at d
    ·rename_i g
     cases d
     have:=f i hi
     rw [g] at this
     simpa using this
    ·cases d
  ·obtain ⟨i,hi,d⟩:=List.mem_filterMap.1 d
   have z:i < b.ao.length:=by simpa using hi
   split at d
   ·cases d
    unfold mj
    rw [pb out (by omega) (by omega)]; rfl
   ·cases d
def fG(b:an)(p:Int):Bool:=b1 p 0 ((b.ao.length:Int) - 1)
theorem zm{b:an}(h:Small b)(p:Int):jA b p=some (fG b p):=by
 unfold jA fG
 have:=h.pieces
 rw [kM,bZ (by omega) (by omega)]; rfl
theorem G2{b:an}(h:Small b)(p:Int):nC b p=some (fG b p):=by
 unfold nC fG
 have:=h.pieces
 rw [jv,bZ (by omega) (by omega)]; rfl
theorem jr{b:an}{p:Int}:fG b p=true↔0≤p∧p < (b.ao.length:Int):=by
 simp only [fG,b1,dn,decide_eq_true_eq]
 omega
def l9(b:an)(out:List Int)(p:Int):Option Int :=
 if fG b p=false then some 6 else if out.contains p=true then some 5 else if fv b out p=false then some 7 else none
def dU(b:an):List Int→List Int→Int
 | _,[]=>0
 | out,p::r=>match l9 b out p with | some h=>h | none=>dU b (out++[p]) r
theorem I5{b:an}(h:Small b){out l:List Int}(N:out.length≤100)(M:l.length≤100):pO b out l=some (dU b out l):=by
 unfold pO
 rw [eU (by simp; omega),aD,List.nil_append]
 have key:∀ k,k≤l.length→∀ acc:List Int,acc.length+k≤400→(a1 (λ (d:((List Int) × Int)) =>
   ab (decide (d.2 < (l.length:Int)))
   ((idx l d.2).bind λ C =>
   (nC b C).bind λ D =>
   ab (!D)
   (some (.inr (.inr 6)))
   ((idx l d.2).bind λ E =>
   (gE d.1 E).bind λ F =>
   ab F
   (some (.inr (.inr 5)))
   ((idx l d.2).bind λ G =>
   (md b d.1 G).bind λ H =>
   ab (!H)
   (some (.inr (.inr 7)))
   ((idx l d.2).bind λ I =>
   (cu d.1 [I]).bind λ J =>
   some (.inl (J,i64 (d.2+1)))))))
   (some (.inr (.inl ())))) (acc,((l.length - k:Nat):Int))).bind (Sum.elim (λ (_:Unit)=>some 0) (λ (q:Int)=>some q))=some (dU b acc (l.drop (l.length - k))):=by
  intro k
  induction k with
  | zero =>
   intro _ acc _
   rw [Nat.sub_zero,List.drop_length,dO (o:=.inl ()) (by simp only [cP,aS])]
   rfl
  | succ k B =>
   intro L acc K
   have hi:l.length - (k+1) < l.length:=by omega
   have A:l.drop (l.length - (k+1))=nth l (l.length - (k+1))::l.drop (l.length - k):=by
    rw [List.drop_eq_getElem_cons hi,show l.length - (k+1)+1=l.length - k by omega]
    congr 1
    have:=a6 hi
    rw [e3 hi] at this
    exact ey this
   rw [A]
   unfold dU l9
   have f:=G2 h (nth l (l.length - (k+1)))
   have m:=nG (l:=acc) (n:=nth l (l.length - (k+1))) (by omega)
   have y:=yO h (out:=acc) (p:=nth l (l.length - (k+1))) (by omega)
   cases g:fG b (nth l (l.length - (k+1))) with
   | false =>
    rw [dO (o:=.inr 6) (by simp only [dec_lt hi,a3,bD,a6 hi,aD,f,g,Bool.not_false])]
    rfl
   | true =>
    cases s:acc.contains (nth l (l.length - (k+1))) with
    | true =>
     rw [dO (o:=.inr 5) (by simp only [dec_lt hi,a3,aS,bD,a6 hi,aD,f,g,m,s,Bool.not_true])]
     rfl
    | false =>
     cases z:fv b acc (nth l (l.length - (k+1))) with
     | false =>
      rw [dO (o:=.inr 7) (by simp only [dec_lt hi,a3,aS,bD,a6 hi,aD,f,g,m,s,y,z,Bool.not_true,Bool.not_false])]
      rfl
     | true =>
      rw [gC (s':=(acc++[nth l (l.length - (k+1))],((l.length - k:Nat):Int))) (by
       simp only [dec_lt hi,a3,aS,bD,a6 hi,aD,f,g,m,s,y,z,Bool.not_true,eU (xs:=acc) (ys:=[nth l (l.length - (k+1))]) (by simp; omega),bN (i:=l.length - (k+1)) (by omega),show l.length - (k+1)+1=l.length - k by omega])]
      rw [B (by omega) _ (by simp; omega)]
      rfl
 have:=key l.length (ct _) out (by omega)
 rw [Nat.sub_self,List.drop_zero] at this
 exact this
theorem zr{b:an}(h:Small b)(F:b.ao.length≤5){l:List Int}(R:l.length≤100):∀ (out:List Int),∃ g,j8 b (bY out) l=some (g,dU b out l)∧(dU b out l=0→g=bY (out++l)∧hx l):=by
 unfold j8
 have key:∀ k,k≤l.length→∀ acc:List Int,∃ g,(a1 (λ (d:(Int × (List Bool))) =>
   ab (decide (d.1 < (l.length:Int)))
   ((idx l d.1).bind λ z =>
   (jA b z).bind λ L =>
   ab (!L)
   (some (.inr (.inr (d.2,6))))
   ((idx d.2 z).bind λ M =>
   ab M
   (some (.inr (.inr (d.2,5))))
   ((j0 b d.2 z).bind λ N =>
   ab (!N)
   (some (.inr (.inr (d.2,7))))
   ((e9 d.2 [z]).bind λ O =>
   some (.inl (i64 (d.1+1),O))))))
   (some (.inr (.inl d.2)))) (((l.length - k:Nat):Int),bY acc)).bind (Sum.elim (λ (K:(List Bool)) =>
   some (K,0)) (λ (q:(List Bool) × Int)=>some q))=some (g,dU b acc (l.drop (l.length - k)))∧(dU b acc (l.drop (l.length - k))=0→g=bY (acc++l.drop (l.length - k))∧hx (l.drop (l.length - k))):=by
  intro k
  induction k with
  | zero =>
   intro _ acc
   refine ⟨bY acc,?_,λ _=>?_⟩
   ·rw [Nat.sub_zero,List.drop_length,dO (o:=.inl (bY acc)) (by simp only [cP,aS])]
    rfl
   ·rw [Nat.sub_zero,List.drop_length,List.append_nil]
    exact ⟨rfl,λ x f=>by cases f⟩
  | succ k J =>
   intro Q acc
   have hi:l.length - (k+1) < l.length:=by omega
   have G:l.drop (l.length - (k+1))=nth l (l.length - (k+1))::l.drop (l.length - k):=by
    rw [List.drop_eq_getElem_cons hi,show l.length - (k+1)+1=l.length - k by omega]
    congr 1
    have:=a6 hi
    rw [e3 hi] at this
    exact ey this
   rw [G]
   unfold dU l9
   have s:=zm h (nth l (l.length - (k+1)))
   cases m:fG b (nth l (l.length - (k+1))) with
   | false =>
    rw [dO (o:=.inr (bY acc,6)) (by simp only [dec_lt hi,a3,bD,a6 hi,aD,s,m,Bool.not_false])]
    exact ⟨_,rfl,λ e=>by cases e⟩
   | true =>
    obtain ⟨g0,P⟩:=jr.1 m
    have y:nth l (l.length - (k+1)) < 5:=by omega
    have A:=pb acc g0 y
    have C:=yT h F (out:=acc) g0 y
    cases B:acc.contains (nth l (l.length - (k+1))) with
    | true =>
     rw [dO (o:=.inr (bY acc,5)) (by simp only [dec_lt hi,a3,aS,bD,a6 hi,aD,s,m,A,B,Bool.not_true])]
     exact ⟨_,rfl,λ e=>by cases e⟩
    | false =>
     cases D:fv b acc (nth l (l.length - (k+1))) with
     | false =>
      rw [dO (o:=.inr (bY acc,7)) (by simp only [dec_lt hi,a3,aS,bD,a6 hi,aD,s,m,A,B,C,D,Bool.not_true,Bool.not_false])]
      exact ⟨_,rfl,λ e=>by cases e⟩
     | true =>
      have E:=rE (out:=acc) (l:=[nth l (l.length - (k+1))]) (λ x f=>by simp at f; subst f; exact ⟨g0,y⟩) (by simp)
      rw [gC (s':=(((l.length - k:Nat):Int),bY (acc++[nth l (l.length - (k+1))]))) (by
       simp only [dec_lt hi,a3,aS,bD,a6 hi,aD,s,m,A,B,C,D,E,Bool.not_true,bN (i:=l.length - (k+1)) (by omega),show l.length - (k+1)+1=l.length - k by omega])]
      obtain ⟨g,H,I⟩:=J (by omega) (acc++[nth l (l.length - (k+1))])
      refine ⟨g,H,λ e=>?_⟩
      obtain ⟨k1,k2⟩:=I e
      refine ⟨by rw [k1,List.append_assoc]; rfl,λ x f=>?_⟩
      rcases cO.1 f with rfl | f
      ·exact ⟨g0,y⟩
      ·exact k2 x f
 intro out
 have:=key l.length (ct _) out
 rw [Nat.sub_self,List.drop_zero] at this
 exact this
def kJ(b:an)(i:Nat):Option Int:=if b1 (nth b.aV i).cT 0 (b.Out.length:Int)=false then some 6 else if b1 (nth b.aV i).dZ 0 2=false then some 1 else none
def ny(b:an):Int:=if 4 < b.aV.length then 2 else (ck (kJ b) 0 b.aV.length).getD 0
theorem Iu{b:an}(h:Small b):mB b=some (ny b):=by
 unfold mB ny
 have B:decide ((b.aV.length:Int) > 4)=decide (4 < b.aV.length):=l2 (m:=4)
 have C:=h.pa
 rw [B]
 by_cases y:4 < b.aV.length
 ·simp [y]
 simp only [y,decide_false,aS,if_false]
 refine fl (kJ b) b.aV.length (λ i hi=>?_) (by simp only [cP,aS]) rfl
 simp only [dec_lt hi,a3,bD,a6 hi,aD,kM,bN (i:=i) (by omega)]
 unfold kJ
 cases b1 (nth b.aV i).cT 0 (b.Out.length:Int) with
 | false=>rfl
 | true =>
  simp only [Bool.not_true,aS,ji,if_false]
  generalize (nth b.aV i).dZ=s
  by_cases d:s=0
  ·subst d; rfl
  by_cases f:s=1
  ·subst f; rfl
  by_cases g:s=2
  ·subst g; rfl
  have:b1 s 0 2=false:=by
   cases hb:b1 s 0 2 with
   | false=>rfl
   | true =>
    simp only [b1,dn,decide_eq_true_eq] at hb
    omega
  have z:(s == 0)=false:=by simpa using d
  have e1:(s == 1)=false:=by simpa using f
  have A:(s == 2)=false:=by simpa using g
  rw [z,e1,A,this]
  rfl
def ot(b:an):Int:=dU b [] b.Out
def l5(b:an):Bool:=b1 b.ax 0 9999 && (gV b.ad (-999) 999 && gZ b.ad 3)
def cD(b:an):Int:=if l5 b=false then 1 else if ik b≠0 then ik b else if ot b≠0 then ot b else ny b
theorem Il(b:an):my b=some (if l5 b=false then 1 else 0):=by
 unfold my l5
 rw [kM,aD,zs (by omega) (by omega)]
 cases b1 b.ax 0 9999 with
 | false=>rfl
 | true=>cases gV b.ad (-999) 999 && gZ b.ad 3 <;> rfl
theorem zX{b:an}(h:ik b=0):1≤b.ao.length∧b.ao.length≤5:=by
 unfold ik at h
 split at h
 ·cases h
 ·rename_i hb
  simp only [b1,Bool.and_eq_false_iff,decide_eq_false_iff_not,not_or,Decidable.not_not] at hb
  omega
theorem gg{a:Int}(h:a≠0):(a != 0)=true:=by simpa using h
theorem Iq{b:an}(h:Small b)(f:b.ao.length≤5):mA b=some (ot b):=by
 unfold mA
 have:=h.out
 obtain ⟨g,d,_⟩:=zr h f (l:=b.Out) (by omega) []
 rw [yi] at d
 rw [d]; rfl
theorem zi{b:an}(h:Small b):gF b=some (cD b):=by
 unfold gF cD
 rw [show (⟨b.ax,⟨b.ad.ai,b.ad.ak⟩,b.ao,b.Out,b.aV⟩:an)=b from rfl,Il,aD]
 cases l5 b with
 | false=>rfl
 | true =>
  rw [if_neg (by decide),Io h]
  by_cases d:ik b=0
  ·obtain ⟨_,m⟩:=zX d
   rw [Iq h m,Iu h]
   by_cases f:ot b=0
   ·by_cases g:ny b=0
    ·simp [d,f,g]
    ·simp [d,f,gg g]
   ·simp [d,f,gg f]
  ·simp [d,gg d]
theorem uw{b:an}(h:Small b):mm b=some (cD b):=by
 unfold mm cD l5
 rw [jv,aD,zh,I3 h,I5 h (by simp) (by have:=h.out; omega)]
 cases b1 b.ax 0 9999 with
 | false=>rfl
 | true =>
  cases A:gV b.ad (-999) 999 with
  | false=>rfl
  | true =>
   have hw:decide (i64 (b.ad.ak - b.ad.ai) ≥ 3)=!gZ b.ad 3:=by
    rw [Bp (by omega) (by omega) A]
    unfold gZ
    by_cases y:b.ad.ak - b.ad.ai < 3
    ·simp [y]
    ·simp [y]; omega
   simp only [Bool.not_true,aS,aD,hw,Bool.true_and]
   cases gZ b.ad 3 with
   | false=>rfl
   | true =>
    simp only [Bool.not_true,aS,ji,if_false]
    by_cases f:ik b=0
    ·by_cases d:ot b=0
     ·have g:dU b [] b.Out=0:=d
      have z:decide ((b.aV.length:Int) > 4)=decide (4 < b.aV.length):=l2 (m:=4)
      have B:=h.pa
      simp only [f,d,g,bne_self_eq_false,aS,ne_eq,eW,if_false,z]
      unfold ny
      by_cases s:4 < b.aV.length
      ·simp [s]
      simp only [s,decide_false,aS,if_false]
      refine fl (kJ b) b.aV.length (λ i hi=>?_) (by simp only [cP,aS]) rfl
      simp only [dec_lt hi,a3,bD,a6 hi,aD,jv,bN (i:=i) (by omega)]
      unfold kJ
      cases b1 (nth b.aV i).cT 0 (b.Out.length:Int) with
      | false=>rfl
      | true=>cases b1 (nth b.aV i).dZ 0 2 <;> rfl
     ·have g:dU b [] b.Out≠0:=d
      simp only [f,bne_self_eq_false,aS,ne_eq,eW,if_false,gg g,a3]
      rw [if_pos d]
      rfl
    ·simp [f,gg f]
structure BD (b:an) (i:Nat):Prop where
 arm : -9≤(nth b.ao i).dR∧(nth b.ao i).dR≤9
 weight:1≤(nth b.ao i).Weight.ai∧(nth b.ao i).Weight.ai≤(nth b.ao i).Weight.ak∧(nth b.ao i).Weight.ak≤99∧(nth b.ao i).Weight.ak - (nth b.ao i).Weight.ai < 3
 on:fY (nth b.ao i).On (i:Int)=0
structure Valid (b:an):Prop where
 small:Small b
 mb:0≤b.ax∧b.ax≤9999
 eb : -999≤b.ad.ai∧b.ad.ai≤b.ad.ak∧b.ad.ak≤999∧b.ad.ak - b.ad.ai < 3
 n1:1≤b.ao.length
 n5:b.ao.length≤5
 each:∀ i,i < b.ao.length→BD b i
 out:dU b [] b.Out=0
 pa:b.aV.length≤4
 yk:∀ x∈b.aV,0≤x.cT∧x.cT≤(b.Out.length:Int)∧0≤x.dZ∧x.dZ≤2
theorem fu{n a c:Int}:b1 n a c=true↔a≤n∧n≤c:=by simp [b1]
theorem Ad{x:Reach}{a c:Int}:gV x a c=true↔a≤x.ai∧x.ai≤x.ak∧x.ak≤c:=by simp [gV]
theorem Bq{x:Reach}{w:Int}:gZ x w=true↔x.ak - x.ai < w:=by simp [gZ]
theorem o9{e:Nat→Option Int}{n:Nat}(f:∀ i,e i≠some 0)(h:(ck e 0 n).getD 0=0):∀ i,i < n→e i=none:=by
 cases d:ck e 0 n with
 | none=>rw [gP] at d; exact λ i hi=>d i (Nat.zero_le _) (by omega)
 | some o =>
  rw [d] at h
  obtain ⟨j,_,_,he,_⟩:=hF d
  have:o=0:=h
  subst this
  exact absurd he (f j)
theorem Kl{b:an}(i:Nat):kl b i≠some 0:=by
 unfold kl
 split
 ·intro e; cases e
 ·split
  ·intro e; cases e
  ·split
   ·intro e; cases e
   ·split
    ·rename_i h; intro e; injection e with e; exact h e
    ·intro e; cases e
theorem FD{b:an}(i:Nat):kJ b i≠some 0:=by
 unfold kJ
 split
 ·intro e; cases e
 ·split
  ·intro e; cases e
  ·intro e; cases e
theorem jg{b:an}(C:Small b)(h:cD b=0):Valid b:=by
 unfold cD at h
 split at h
 ·cases h
 rename_i f
 have f:l5 b=true:=by simpa using f
 split at h
 ·rename_i d; exact absurd h d
 rename_i d
 have d:ik b=0:=by simpa using d
 split at h
 ·rename_i g; exact absurd h g
 rename_i g
 have g:ot b=0:=by simpa using g
 unfold l5 at f
 simp only [dn,fu,Ad,Bq] at f
 obtain ⟨s,m,y⟩:=f
 obtain ⟨n1,n5⟩:=zX d
 have B:∀ i,i < b.ao.length→kl b i=none:=by
  unfold ik at d
  split at d
  ·cases d
  ·exact o9 Kl d
 unfold ny at h
 split at h
 ·cases h
 rename_i E
 have A:=o9 FD h
 refine ⟨C,s,⟨m.1,m.2.1,m.2.2,y⟩,n1,n5,λ i hi=>?_,g,by omega,λ x D=>?_⟩
 ·have:=B i hi
  unfold kl at this
  split at this
  ·cases this
  split at this
  ·cases this
  split at this
  ·cases this
  rename_i hb
  have hb:(b1 (nth b.ao i).dR (-9) 9 && (gV (nth b.ao i).Weight 1 99 && gZ (nth b.ao i).Weight 3))=true:=by simpa using hb
  simp only [dn,fu,Ad,Bq] at hb
  split at this
  ·cases this
  rename_i z
  exact ⟨hb.1,⟨hb.2.1.1,hb.2.1.2.1,hb.2.1.2.2,hb.2.2⟩,by simpa using z⟩
 ·obtain ⟨i,hi,rfl⟩:=hR D
  have:=A i hi
  unfold kJ at this
  split at this
  ·cases this
  rename_i k1
  split at this
  ·cases this
  rename_i k2
  have k1:b1 (nth b.aV i).cT 0 (b.Out.length:Int)=true:=by simpa using k1
  have k2:b1 (nth b.aV i).dZ 0 2=true:=by simpa using k2
  rw [fu] at k1 k2
  exact ⟨k1.1,k1.2,k2.1,k2.2⟩
theorem nz{b:an}{out:List Int}{p:Int}{r:List Int}:dU b out (p::r)=0↔fG b p=true∧out.contains p=false∧fv b out p=true∧dU b (out++[p]) r=0:=by
 conv=>lhs; unfold dU l9
 cases fG b p <;> cases out.contains p <;> cases fv b out p <;> simp
theorem rn{b:an}:∀ {l out:List Int},dU b out l=0→∀ x∈l,fG b x=true
 | [],_,_,x,d=>by cases d
 | p::r,out,h,x,d=>by
  obtain ⟨f,_,_,g⟩:=nz.1 h
  rcases cO.1 d with rfl | d
  ·exact f
  ·exact rn g x d
theorem FG{b:an}(f:b.ao.length≤5){l:List Int}(h:∀ x∈l,fG b x=true):hx l:=λ x d=>by
 have:=jr.1 (h x d)
 omega
theorem Valid.rh{b:an}(h:Valid b):hx b.Out:=FG h.n5 (rn h.out)
def fb(b:an)(ba:Int)(ws out:List Int):Nat→Int
 | 0=>ba
 | i+1=>if out.contains (i:Int) then fb b ba ws out i else fb b ba ws out i+(nth b.ao i).dR * nth ws i
def gT(b:an)(ba:Int)(ws out:List Int):Int:=fb b ba ws out b.ao.length
structure hv (b:an) (ba:Int) (ws:List Int):Prop where
 ba : -999≤ba∧ba≤999
 len:b.ao.length≤ws.length
 each:∀ i,i < b.ao.length→0≤nth ws i∧nth ws i≤99
theorem uW{a w:Int}(f : -9≤a)(g:a≤9)(d:0≤w)(m:w≤99) : -891≤a * w∧a * w≤891:=by
 constructor
 ·have : -9 * w≤a * w:=Int.mul_le_mul_of_nonneg_right f d
  omega
 ·have:a * w≤9 * w:=Int.mul_le_mul_of_nonneg_right g d
  omega
theorem rL{b:an}(g:Valid b){ba:Int}{ws out:List Int}(d:hv b ba ws):∀ i,i≤b.ao.length → -(999+891 * (i:Int))≤fb b ba ws out i∧fb b ba ws out i≤999+891 * (i:Int)
 | 0,_=>by have:=d.ba; simp only [fb]; omega
 | i+1,hi=>by
  have m:=rL g d (out:=out) i (by omega)
  have f:=(g.each i (by omega)).arm
  have hw:=d.each i (by omega)
  have hm:=uW f.1 f.2 hw.1 hw.2
  unfold fb
  split
  ·push_cast; omega
  ·push_cast; omega
theorem rM{b:an}(d:Valid b){ba:Int}{ws out:List Int}(f:hv b ba ws) : -6000≤gT b ba ws out∧gT b ba ws out≤6000:=by
 have:=rL d f (out:=out) _ (ct _)
 have:=d.n5
 unfold gT
 omega
theorem zk{b:an}(f:Valid b){ba:Int}{ws out:List Int}(d:hv b ba ws):hj b ⟨ba,ws⟩ (bY out)=some (gT b ba ws out):=by
 unfold hj
 have m:=f.n5
 refine (dh (o:=gT b ba ws out) (gD (λ i=>(fb b ba ws out i,(i:Int))) b.ao.length (λ i hi=>?_) ?_:a1 _ (ba,(0:Int))=_)).trans rfl
 ·have g:=(f.each i hi).arm
  have hw:=d.each i hi
  have hm:=uW g.1 g.2 hw.1 hw.2
  have hb:=rL f d (out:=out) i (by omega)
  have s:=d.len
  simp only [dec_lt hi,a3,bD,a6 hi,a6 (show i < ws.length by omega),aD,pb out (p:=(i:Int)) (by omega) (by omega),bN (i:=i) (by omega),bZ (z:=(nth b.ao i).dR * nth ws i) (by omega) (by omega),bZ (z:=fb b ba ws out i+(nth b.ao i).dR * nth ws i) (by omega) (by omega)]
  conv=>rhs; unfold fb
  cases out.contains (i:Int) <;> rfl
 ·simp only [cP,aS]; rfl
theorem zf{b:an}(f:Valid b){ba:Int}{ws out:List Int}(d:hv b ba ws)(m:out.length≤1000):n4 b ⟨ba,ws⟩ out=some (gT b ba ws out):=by
 unfold n4
 have s:=f.n5
 refine (dh (o:=gT b ba ws out) (gD (λ i=>(fb b ba ws out i,(i:Int))) b.ao.length (λ i hi=>?_) ?_:a1 _ (ba,(0:Int))=_)).trans rfl
 ·have g:=(f.each i hi).arm
  have hw:=d.each i hi
  have hm:=uW g.1 g.2 hw.1 hw.2
  have hb:=rL f d (out:=out) i (by omega)
  have y:=d.len
  simp only [dec_lt hi,a3,bD,a6 hi,a6 (show i < ws.length by omega),aD,nG m,bN (i:=i) (by omega),bZ (z:=(nth b.ao i).dR * nth ws i) (by omega) (by omega),bZ (z:=fb b ba ws out i+(nth b.ao i).dR * nth ws i) (by omega) (by omega)]
  conv=>rhs; unfold fb
  cases out.contains (i:Int) <;> rfl
 ·simp only [cP,aS]; rfl
theorem uV{b:an}{ba:Int}{ws m out g:List Int}:∀ n,(∀ i,i < n→nth ws i=nth m i)→(∀ i:Nat,i < n→out.contains (i:Int)=g.contains (i:Int))→fb b ba ws out n=fb b ba m g n
 | 0,_,_=>rfl
 | n+1,d,f=>by
  unfold fb
  rw [d n (by omega),f n (by omega),uV n (λ i hi=>d i (by omega)) (λ i hi=>f i (by omega))]
def gG(b:an)(m:Int):Bool:=decide (m > b.ax) || decide (m < -b.ax)
def jd(m:Int):Int:=if m > 0 then 2 else if m < 0 then 1 else 0
theorem JI{m:Int}(d : -1000000≤m)(f:m≤1000000):cy m [i64 (0 - m)]=if -m > m then -m else m:=by
 rw [bZ (by omega) (by omega),show (0 - m) = -m by omega]
 rfl
theorem zq{b:an}{m:Int}(f : -1000000≤m)(g:m≤1000000):jB b m=some (gG b m):=by
 unfold jB gG
 rw [JI f g]
 congr 1
 by_cases h : -m > m
 ·rw [if_pos h]
  by_cases d : -m > b.ax
  ·simp [d,show m < -b.ax by omega]
  ·simp [d,show ¬ m < -b.ax by omega,show ¬ m > b.ax by omega]
 ·rw [if_neg h]
  by_cases d:m > b.ax
  ·simp [d]
  ·simp [d,show ¬ m < -b.ax by omega]
theorem Hp(m:Int):mh m=some (jd m):=by
 unfold mh jd
 by_cases d:m > 0
 ·simp [d]
 ·by_cases f:m < 0 <;> simp [d,f]
theorem I1(m:Int):pM m=some (jd m):=by
 unfold pM jd
 by_cases d:m > 0
 ·simp [d]
 ·by_cases f:m < 0 <;> simp [d,f]
def mo(b:an)(ba:Int)(ws:List Int)(n:Nat):Int:=gT b ba ws (b.Out.take n)
def e0(b:an)(ba:Int)(ws:List Int):Bool:=((List.range (b.Out.length+1)).all λ n=>!gG b (mo b ba ws n)) && b.aV.all λ x=>jd (mo b ba ws x.cT.toNat) == x.dZ
theorem FH{l:List Int}(h:hx l)(n:Nat):hx (l.take n):=λ x d=>h x (List.mem_of_mem_take d)
theorem G7{b:an}(g:Valid b){ba:Int}{ws:List Int}(B:hv b ba ws):kO b ⟨ba,ws⟩=some (e0 b ba ws):=by
 unfold kO
 have G:=g.small.out
 have F:=g.pa
 rw [bN (i:=b.Out.length) (by omega)]
 rw [fl (λ n=>if (gG b (mo b ba ws n) || b.aV.any λ x=>x.cT == (n:Int) && x.dZ != jd (mo b ba ws n))=true then some false else none) (b.Out.length+1) (d:=true) (λ n z=>?_) (by simp only [cP,aS]) rfl]
 ·rw [yc]
  congr 1
  unfold e0
  rw [Bool.eq_iff_iff]
  simp only [List.all_eq_true,List.mem_range,dn,Bool.not_eq_true',Bool.or_eq_false_iff,List.any_eq_false]
  constructor
  ·intro h
   refine ⟨λ n z=>(h n z).1,λ x s=>?_⟩
   obtain ⟨k1,k2,_⟩:=g.yk x s
   have:=(h x.cT.toNat (by omega)).2 x s
   have e:((x.cT.toNat:Nat):Int)=x.cT:=Int.toNat_of_nonneg k1
   rw [e] at this
   rw [beq_iff_eq]
   exact Classical.byContradiction λ E=>this ⟨by simp,by simpa using λ s=>E s.symm⟩
  ·rintro ⟨C,D⟩ n z
   refine ⟨C n z,λ x s=>?_⟩
   have:=D x s
   by_cases A:x.cT=(n:Int)
   ·rw [A,cm,beq_iff_eq] at this
    simp only [A,this,bne_self_eq_false,gq,and_false,not_false_eq_true]
   ·simp [A]
 ·have hb:=rM g B (out:=b.Out.take n)
  simp only [dec_lt z,a3,oZ (show n≤b.Out.length by omega),aD,pP (FH g.rh n) (by simp; omega),zk g B,zq (b:=b) (m:=gT b ba ws (b.Out.take n)) (by omega) (by omega),bN (i:=n) (by omega),
   Hm (l:=b.aV) (f:=λ y=>kS y (n:Int) (gT b ba ws (b.Out.take n))) (p:=λ x=>x.cT == (n:Int) && x.dZ != jd (mo b ba ws n)) (by omega) (λ x _=>by
    unfold kS mo
    rw [Hp]
    cases x.cT == (n:Int) <;> rfl)]
  rw [show gG b (gT b ba ws (b.Out.take n))=gG b (mo b ba ws n) from rfl]
  cases gG b (mo b ba ws n) with
  | true=>rfl
  | false =>
   cases b.aV.any λ x=>x.cT == (n:Int) && x.dZ != jd (mo b ba ws n) <;> rfl
theorem GN{n m:Nat}:((n:Int) != (m:Int))=decide (n≠m):=by
 by_cases h:n=m
 ·subst h; simp
 ·have:¬ (n:Int)=(m:Int):=by omega
  simp [h,this]
theorem u0{ws:List Int}{i:Nat}(h:i < ws.length)(d:ws.length≤5):nth (c8 [0,0,0,0,0] ws) i=nth ws i:=by
 unfold c8 nth
 rw [fq,fq,fU (by simp; omega),List.getElem?_take_of_lt (by simp; omega)]
theorem qW{ws:List Int}(d:ws.length≤5):(c8 [0,0,0,0,0] ws).length=5:=by
 unfold c8
 simp only [ew,gK,List.length_drop,List.length_cons,List.length_nil]
 omega
theorem xk{b:an}(f:Valid b){ba:Int}{ws:List Int}(g:ws.length=b.ao.length)(d:hv b ba ws):hv b ba (c8 [0,0,0,0,0] ws):=by
 have:=f.n5
 refine ⟨d.ba,by rw [qW (by omega)]; omega,λ i hi=>?_⟩
 rw [u0 (by omega) (by omega)]
 exact d.each i hi
theorem zL{b:an}(d:Valid b){ba:Int}{ws out:List Int}(f:ws.length=b.ao.length):gT b ba (c8 [0,0,0,0,0] ws) out=gT b ba ws out:=by
 have:=d.n5
 exact uV _ (λ i hi=>u0 (by omega) (by omega)) (λ _ _=>rfl)
theorem Lj{b:an}(f:Valid b){ba:Int}{ws:List Int}(d:ws.length=b.ao.length):e0 b ba (c8 [0,0,0,0,0] ws)=e0 b ba ws:=by
 unfold e0 mo
 simp only [zL f d]
theorem xg{l:List Int}{below:Int}(h:fY l below=0):∀ x∈l,0≤x∧x < below:=by
 intro x d
 obtain ⟨i,hi,rfl⟩:=hR d
 have:=o9 (e:=kE l below) (λ i=>by
  unfold kE
  split
  ·intro e; cases e
  ·split
   ·split
    ·intro e; cases e
    ·intro e; cases e
   ·intro e; cases e) h i hi
 unfold kE at this
 split at this
 ·cases this
 ·rename_i hb
  have hb:b1 (nth l i) 0 (below - 1)=true:=by simpa using hb
  rw [fu] at hb
  omega
def ef(b:an)(out:List Int):List Int:=(List.range b.ao.length).filterMap λ (i:Nat)=>if fv b out (i:Int)=true then some (i:Int) else none
theorem tU(b:an)(out:List Int):(ef b out).length≤b.ao.length:=by
 have:=List.length_filterMap_le (λ i:Nat=>if fv b out (i:Int)=true then some (i:Int) else none) (List.range b.ao.length)
 simpa [ef] using this
theorem Jl{b:an}(d:Valid b)(out:List Int):jC b (bY out)=some (ef b out):=by
 unfold jC
 have f:=d.n5
 rw [collect (λ i:Nat=>if fv b out (i:Int)=true then some (i:Int) else none) b.ao.length (λ i acc hi g=>?_) (λ acc=>by simp only [cP,aS])]
 ·rfl
 ·simp only [dec_lt hi,a3,aD,yT d.small f (out:=out) (p:=(i:Int)) (by omega) (by omega),bN (i:=i) (by omega)]
  cases fv b out (i:Int) with
  | true=>simp [eU (xs:=acc) (ys:=[(i:Int)]) (by simp; omega)]
  | false=>simp
theorem Ja{b:an}(d:Small b){out:List Int}(f:out.length≤1000):n7 b out=some (ef b out):=by
 unfold n7
 have m:=d.pieces
 rw [collect (λ i:Nat=>if fv b out (i:Int)=true then some (i:Int) else none) b.ao.length (λ i acc hi g=>?_) (λ acc=>by simp only [cP,aS])]
 ·rfl
 ·simp only [dec_lt hi,a3,aD,yO d (p:=(i:Int)) f,bN (i:=i) (by omega)]
  cases fv b out (i:Int) with
  | true=>simp [eU (xs:=acc) (ys:=[(i:Int)]) (by simp; omega)]
  | false=>simp
set_option maxRecDepth 1000000 in
theorem IX(b:an):m4 b=some (!l4 b && (cD b == 0)):=by
 unfold m4
 rw [IC,aD]
 cases d:l4 b with
 | true=>rfl
 | false=>rw [uw (yh d)]; rfl
def fy(l:List Int)(k:Nat):Int:=if k < l.length then nth l k else 0
def nb(l:List Int):Prop:=∀ x∈l,0≤x∧x≤65535
theorem qa{l:List Int}(h:nb l)(k:Nat):0≤fy l k∧fy l k≤65535:=by
 unfold fy
 split
 ·rename_i d; exact h _ (dk d)
 ·omega
theorem uE{l:List Int}(h:nb l)(k:Nat):ll l (k:Int)=some (fy l k):=by
 unfold ll fy
 by_cases d:k < l.length
 ·have:=h _ (dk d)
  rw [dec_lt d,a3,bD,a6 d,aD,if_pos d,bZ (by omega) (by omega)]
 ·rw [if_neg d,show decide ((k:Int) < (l.length:Int))=false by simp; omega,aS]
theorem sb{a m:Int}(d:0≤a)(hm:0 < m):0≤a.tmod m∧a.tmod m < m:=⟨Int.tmod_nonneg m d,Int.tmod_lt_of_pos a hm⟩
def cx{α S:Type}(ys:α→S→Option (S × Bool)):List α→S→Option (S × Bool)
 | [],s=>some (s,true)
 | a::l,s=>(ys a s).bind λ r=>if r.2=true then cx ys l r.1 else some (r.1,false)
theorem l3{α S:Type}(ys:α→S→Option (S × Bool)):∀ (l m:List α) (s:S),cx ys (l++m) s=(cx ys l s).bind λ r=>if r.2=true then cx ys m r.1 else some (r.1,false)
 | [],_,_=>by simp [cx]
 | a::l,m,s=>by
  simp only [List.cons_append,cx]
  cases ys a s with
  | none=>rfl
  | some r =>
   simp only [aD]
   cases d:r.2 with
   | true=>simp only [if_true]; exact l3 ys l m r.1
   | false=>simp
theorem nB{α S X E:Type}{ys:α→S→Option (S × Bool)}{body:S × X→Option ((S × X) ⊕ (S ⊕ E))}(g:S→E)(x:Nat→X)(m:Nat→List α)(n:Nat)
  (h:∀ j s r,j < n→cx ys (m j) s=some r→body (s,x j)=some (if r.2=true then .inl (r.1,x (j+1)) else .inr (.inr (g r.1)))) (y:∀ s,body (s,x n)=some (.inr (.inl s))) {s:S} {r:S × Bool}
  (d:cx ys ((List.range n).flatMap m) s=some r):a1 body (s,x 0)=some (if r.2=true then .inl r.1 else .inr (g r.1)):=by
 have key:∀ k,k≤n→∀ s,cx ys ((List.range' (n - k) k).flatMap m) s=some r→a1 body (s,x (n - k))=some (if r.2=true then .inl r.1 else .inr (g r.1)):=by
  intro k
  induction k with
  | zero =>
   intro _ s d
   simp only [List.range'_zero,List.flatMap_nil,cx,eO] at d
   subst d
   exact dO (y s)
  | succ k A =>
   intro B s d
   have e:n - k=n - (k+1)+1:=by omega
   rw [List.range'_succ,List.flatMap_cons,l3] at d
   obtain ⟨q,z,d⟩:=ae d
   have hb:=h (n - (k+1)) s q (by omega) z
   split at d
   ·rename_i f
    rw [if_pos f] at hb
    rw [gC hb,← e]
    exact A (by omega) _ (by rw [e]; exact d)
   ·rename_i f
    rw [if_neg f] at hb
    cases d
    rw [dO hb]
    simp
 have:=key n (ct n) s (by rw [Nat.sub_self,← List.range_eq_range']; exact d)
 rwa [Nat.sub_self] at this
def fP(x:Reach):List Int:=(List.range (x.ak+1 - x.ai).toNat).map λ (j:Nat)=>x.ai+(j:Int)
theorem pZ{x:Reach}{n:Int}:n∈fP x↔x.ai≤n∧n≤x.ak:=by
 simp only [fP,List.mem_map,List.mem_range]
 constructor
 ·rintro ⟨j,d,rfl⟩; omega
 ·intro h; exact ⟨(n - x.ai).toNat,by omega,by omega⟩
theorem Ap{x:Reach}(h:x.ak - x.ai < 3):(fP x).length≤3:=by simp [fP]; omega
def fR(b:an):Nat→Nat→List (List Int)
 | 0,_=>[[]]
 | j+1,i=>(fP (nth b.ao i).Weight).flatMap λ n=>(fR b j (i+1)).map (n::·)
def jH(b:an):Nat→List (List Int)
 | 0=>[[]]
 | i+1=>(jH b i).flatMap λ a=>(fP (nth b.ao i).Weight).map λ n=>a++[n]
def g4(b:an):List (List Int):=fR b b.ao.length 0
theorem z9(b:an):∀ j i,(jH b i).flatMap (λ a=>(fR b j i).map (a++·))=jH b (i+j)
 | 0,i=>by simp [fR]
 | j+1,i=>by
  rw [show i+(j+1)=i+1+j by omega,← z9 b j (i+1)]
  simp only [jH,fR,List.map_flatMap,List.flatMap_assoc,List.map_map,List.flatMap_map]
  congr 1
  funext a
  congr 1
  funext n
  congr 1
  funext l
  simp
theorem Kq(b:an):jH b b.ao.length=g4 b:=by
 have:=z9 b b.ao.length 0
 rw [Nat.zero_add] at this
 rw [← this]
 simp [jH,g4]
theorem AP(b:an):∀ j i l,l∈fR b j i→l.length=j∧∀ k,k < j→(nth b.ao (i+k)).Weight.ai≤nth l k∧nth l k≤(nth b.ao (i+k)).Weight.ak
 | 0,_,l,h=>by simp [fR] at h; subst h; exact ⟨rfl,λ k g=>by omega⟩
 | j+1,i,l,h=>by
  simp only [fR,List.mem_flatMap,List.mem_map] at h
  obtain ⟨n,s,m,hm,rfl⟩:=h
  obtain ⟨d,f⟩:=AP b j (i+1) m hm
  refine ⟨by simp [d],λ k g=>?_⟩
  cases k with
  | zero=>exact pZ.1 s
  | succ k =>
   have:=f k (by omega)
   rw [show i+1+k=i+(k+1) by omega] at this
   exact this
theorem BN{b:an}{l:List Int}(h:l∈g4 b):l.length=b.ao.length∧∀ k,k < b.ao.length→(nth b.ao k).Weight.ai≤nth l k∧nth l k≤(nth b.ao k).Weight.ak:=by
 have:=AP b b.ao.length 0 l h
 simpa using this
def bn(b:an):List dq:=(fP b.ad).flatMap λ n=>((g4 b).filter (e0 b n)).map λ w=>⟨n,w⟩
abbrev Z5:List Int:=[0,0,0,0,0]
def gy(c:dq):bm:=⟨c.ad,c8 Z5 c.eJ⟩
theorem Ls{pre:List Int}(h:pre.length < 5)(n:Int):(c8 Z5 pre).set pre.length n=c8 Z5 (pre++[n])∧∀ m:Int,(c8 Z5 (pre++[m])).set pre.length n=c8 Z5 (pre++[n]):=by
 match pre,h with
 | [],_=>exact ⟨rfl,λ _=>rfl⟩
 | [_],_=>exact ⟨rfl,λ _=>rfl⟩
 | [_,_],_=>exact ⟨rfl,λ _=>rfl⟩
 | [_,_,_],_=>exact ⟨rfl,λ _=>rfl⟩
 | [_,_,_,_],_=>exact ⟨rfl,λ _=>rfl⟩
def qv(l:List Int):Prop:=∀ i,i < l.length→0≤nth l i∧nth l i≤99
theorem FI{l:List Int}{n:Int}(h:qv l)(f:0≤n)(g:n≤99):qv (l++[n]):=λ i hi=>by
 simp only [ew,List.length_cons,List.length_nil] at hi
 by_cases d:i < l.length
 ·rw [show nth (l++[n]) i=nth l i by unfold nth; rw [fq,fq,fU d]]
  exact h i d
 ·rw [show nth (l++[n]) i=n by unfold nth; rw [fq,fC (by omega),show i - l.length=0 by omega]; rfl]
  exact ⟨f,g⟩
theorem Fo{b:an}{ba:Int}{w:List Int}(hb : -999≤ba∧ba≤999)(d:w.length=b.ao.length)(h:qv w):hv b ba w:=⟨hb,by omega,λ i hi=>h i (by omega)⟩
theorem yR{b:an}(m:Valid b){S:Type}(ys:bm→S→Option (S × Bool)){ba:Int}(hb : -999≤ba∧ba≤999):∀ (j k:Nat) (pre:List Int) (s:S) (r:S × Bool),pre.length+j=b.ao.length→j < k→qv pre →
  cx ys ((((fR b j pre.length).map (pre++·)).filter (e0 b ba)).map λ w=>gy ⟨ba,w⟩) s=some r→iQ ys k ⟨ba,c8 Z5 pre⟩ (pre.length:Int) b s=some r
 | 0,0,_,_,_,_,A,_,_=>by omega
 | 0,k+1,pre,s,r,g,_,z,d=>by
  rw [Nat.add_zero] at g
  unfold iQ
  have G:=Fo hb g z
  rw [show ((pre.length:Int) == (b.ao.length:Int))=true by rw [g]; simp,a3,G7 m (xk m g G),Lj m g,aD]
  simp only [fR,List.map_cons,List.map_nil,List.append_nil] at d
  cases y:e0 b ba pre with
  | true =>
   simp only [List.filter_cons,y,if_true,List.filter_nil,List.map_cons,List.map_nil,cx] at d
   obtain ⟨q,B,d⟩:=ae d
   rw [show ys ⟨ba,c8 Z5 pre⟩ s=some q from B]
   simp only [Bool.not_true,aS,aD]
   split at d
   ·rename_i f; cases d; rw [f]
   ·rename_i f; cases d; simp at f; rw [f]
  | false =>
   simp [y,cx] at d
   subst d
   rfl
 | j+1,0,_,_,_,_,A,_,_=>by omega
 | j+1,k+1,pre,s,r,g,A,z,d=>by
  unfold iQ
  have H:=m.n5
  have hw:=(m.each pre.length (by omega)).weight
  rw [show ((pre.length:Int) == (b.ao.length:Int))=false by simp; omega,aS,bD,a6 (by omega),aD]
  generalize F:(nth b.ao pre.length).Weight=X at hw
  have D:(X.ai,c8 Z5 pre)=(λ q:Nat=>(X.ai+(q:Int),if q=0 then c8 Z5 pre else c8 Z5 (pre++[X.ai+((q - 1:Nat):Int)]))) 0:=by simp
  rw [D]
  refine (dh (nB (ys:=ys) (E:=S × Bool) (λ s=>(s,false)) (λ q:Nat=>(X.ai+(q:Int),if q=0 then c8 Z5 pre else c8 Z5 (pre++[X.ai+((q - 1:Nat):Int)])))
    (λ q=>(((fR b j (pre.length+1)).map ((pre++[X.ai+(q:Int)])++·)).filter (e0 b ba)).map λ w=>gy ⟨ba,w⟩) (X.ak+1 - X.ai).toNat (λ q s r B d=>?_) (λ s=>?_) (s:=s) (r:=r) ?_)).trans ?_
  rotate_right
  ·cases f:r.2 with
   | true=>simp only [if_true,Sum.elim_inl]; rw [← f]
   | false=>simp only [gq,if_false,Sum.elim_inr]; rw [← f]
  ·have jX:(if q=0 then c8 Z5 pre else c8 Z5 (pre++[X.ai+((q - 1:Nat):Int)])).set pre.length (X.ai+(q:Int))=c8 Z5 (pre++[X.ai+(q:Int)]):=by
    have y:=Ls (pre:=pre) (by omega) (X.ai+(q:Int))
    split
    ·exact y.1
    ·exact y.2 _
   have hlen:(if q=0 then c8 Z5 pre else c8 Z5 (pre++[X.ai+((q - 1:Nat):Int)])).length=5:=by
    split
    ·exact qW (by omega)
    ·exact qW (by simp; omega)
   have C:=yR m ys hb j k (pre++[X.ai+(q:Int)]) s r (by simp; omega) (by omega) (FI z (by omega) (by omega)) (by simpa using d)
   simp only [ew,List.length_cons,List.length_nil,Nat.zero_add] at C
   simp only [show decide (X.ai+(q:Int)≤X.ak)=true by simp; omega,a3,bD,cm,bN (i:=pre.length) (by omega),jX]
   rw [a6 (by rw [hlen]; omega),aD,C,aD]
   have e1:i64 (X.ai+(q:Int)+1)=X.ai+((q+1:Nat):Int):=by rw [bZ (by omega) (by omega)]; omega
   cases r.2 with
   | true=>simp [e1,aS]
   | false=>simp [a3]
  ·simp only [show decide (X.ai+(((X.ak+1 - X.ai).toNat:Nat):Int)≤X.ak)=false by simp; omega,aS]
  ·rw [← d]
   congr 1
   simp only [fR,F,fP,List.flatMap_map,List.map_flatMap,List.filter_flatMap,List.map_map]
   congr 1
   funext q
   congr 2
   congr 1
   funext l
   simp
theorem zl{b:an}(f:Valid b){S:Type}(ys:bm→S→Option (S × Bool)){s:S}{r:S × Bool}(d:cx ys ((bn b).map gy) s=some r):hN ys b s=some r.1:=by
 unfold hN
 have A:=f.n5
 have hw:=f.eb
 generalize y:b.ad=X at hw
 have g:X.ai=(λ q:Nat=>X.ai+(q:Int)) 0:=by simp
 rw [g]
 refine (dh (nB (ys:=ys) (E:=S) (λ s=>s) (λ q:Nat=>X.ai+(q:Int)) (λ q=>((g4 b).filter (e0 b (X.ai+(q:Int)))).map λ w=>gy ⟨X.ai+(q:Int),w⟩) (X.ak+1 - X.ai).toNat (λ q s r B d=>?_) (λ s=>?_) (s:=s) (r:=r) ?_)).trans ?_
 rotate_right
 ·cases z:r.2 with
  | true=>simp
  | false=>simp
 ·have h:=yR f ys (ba:=X.ai+(q:Int)) (by omega) b.ao.length 9 [] s r (by simp) (by omega) (λ i hi=>by simp at hi) (by simpa [g4] using d)
  have m:iQ ys 9 ⟨X.ai+(q:Int),[0,0,0,0,0]⟩ 0 b s=some r:=h
  have e1:i64 (X.ai+(q:Int)+1)=X.ai+((q+1:Nat):Int):=by rw [bZ (by omega) (by omega)]; omega
  simp only [show decide (X.ai+(q:Int)≤X.ak)=true by simp; omega,a3,m,aD,e1]
  cases r.2 with
  | true=>simp [aS]
  | false=>simp [a3]
 ·simp only [show decide (X.ai+(((X.ak+1 - X.ai).toNat:Nat):Int)≤X.ak)=false by simp; omega,aS]
 ·rw [← d]
  congr 1
  simp only [bn,y,fP,List.flatMap_map,List.map_flatMap,List.map_map]
  rfl
theorem z8{b:an}(d:Valid b):∀ i,i≤b.ao.length→(jH b i).length≤3 ^ i
 | 0,_=>by simp [jH]
 | i+1,hi=>by
  have f:=z8 d i (by omega)
  have g:=Ap (d.each i (by omega)).weight.2.2.2
  have key:∀ l:List (List Int),(l.flatMap λ a=>(fP (nth b.ao i).Weight).map λ n=>a++[n]).length≤l.length * 3:=by
   intro l
   induction l with
   | nil=>simp
   | cons a l f=>simp only [List.flatMap_cons,ew,List.length_map,List.length_cons]; omega
  have:=key (jH b i)
  simp only [jH]
  rw [Nat.pow_succ]
  omega
theorem Fq{α β:Type}[Inhabited α](f:α→List β)(l:List α):(List.range l.length).flatMap (λ j=>f (nth l j))=l.flatMap f:=by
 have e:(List.range l.length).map (nth l)=l:=(u1 (by simp) (λ i hi=>by
  rw [List.length_map,List.length_range] at hi
  have d:=a6 (l:=(List.range l.length).map (nth l)) (i:=i) (by simpa using hi)
  simp only [List.getElem?_map,List.getElem?_range hi,Option.map_some,eO] at d
  exact d.symm))
 have h:((List.range l.length).map (nth l)).flatMap f=l.flatMap f:=by rw [e]
 rw [List.flatMap_map] at h
 exact h
theorem re{α β:Type}(f:α→β):∀ l:List α,l.flatMap (λ x=>[f x])=l.map f
 | []=>rfl
 | a::l=>by rw [List.flatMap_cons,re f l]; rfl
theorem Ko{i:Nat}(h:i≤5):3 ^ i≤243:=by
 match i,h with
 | 0,_=>decide
 | 1,_=>decide
 | 2,_=>decide
 | 3,_=>decide
 | 4,_=>decide
 | 5,_=>decide
theorem nv{α S O:Type}{body:α→S→Option (S ⊕ O)}(I:Nat→S→Prop)(f:α→S→S):∀ (l:List α) (k:Nat) (s:S),I k s→(∀ j s a,j < k+l.length→I j s→a∈l→body a s=some (.inl (f a s))∧I (j+1) (f a s)) →
  cx (cp body) l (.inl s)=some (.inl (l.foldl (λ s a=>f a s) s),true)
 | [],_,_,_,_=>rfl
 | a::l,k,s,d,h=>by
  obtain ⟨m,y⟩:=h k s a (by simp) d (by simp)
  simp only [cx,cp,m,Option.map_some,aD,Sum.isLeft_inl,if_true,List.foldl_cons]
  exact nv I f l (k+1) _ y (λ j s g A d z=>h j s g (by simp only [List.length_cons]; omega) d (by simp [z]))
theorem BM{b:an}(d:Valid b):(g4 b).length≤243:=by
 rw [← Kq]
 exact Nat.le_trans (z8 d _ (ct _)) (Ko d.n5)
theorem jQ{b:an}(d:Valid b):(bn b).length≤729:=by
 have f:=BM d
 have g:=Ap d.eb.2.2.2
 have key:∀ l:List Int,(l.flatMap λ n=>((g4 b).filter (e0 b n)).map λ w=>(⟨n,w⟩:dq)).length≤l.length * 243:=by
  intro l
  induction l with
  | nil=>simp
  | cons a l m =>
   have:=List.length_filter_le (e0 b a) (g4 b)
   simp only [List.flatMap_cons,ew,List.length_map,List.length_cons]
   omega
 have:=key (fP b.ad)
 unfold bn
 omega
def nj(b:an):Int × Int:=if cD b≠0 then (0,cD b) else ((bn b).length,0)
theorem y4{b:an}(f:Small b):iT b=some (nj b):=by
 unfold iT nj
 rw [zi f,aD]
 by_cases d:cD b=0
 ·have g:=jg f d
  have z:=jQ g
  simp only [d,bne_self_eq_false,aS,ne_eq,eW,if_false]
  rw [show (⟨b.ax,⟨b.ad.ai,b.ad.ak⟩,b.ao,b.Out,b.aV⟩:an)=b from rfl]
  rw [zl g _ (r:=(.inl ((((bn b).map gy).foldl (λ (s:Int) _=>s+1) 0)),true)) (nv (λ k s=>s=(k:Int)) (λ _ s=>s+1) _ 0 0 rfl (λ j s a m f _=>by
   subst f
   simp only [List.length_map] at m
   rw [bN (i:=j) (by omega)]
   exact ⟨rfl,rfl⟩))]
  have key:∀ (l:List bm) (s:Int),l.foldl (λ s _=>s+1) s=s+l.length:=by
   intro l
   induction l with
   | nil=>simp
   | cons a l y=>intro s; rw [List.foldl_cons,y]; simp; omega
  rw [aD,Sum.elim_inl,key]
  simp
 ·simp only [d,ne_eq,not_false_eq_true,if_true,gg d,a3]
theorem G8{b:an}(d:Valid b):me (λ y s=>hN y b s)=some ((bn b).map gy):=by
 unfold me nK
 have z:=jQ d
 have key:∀ (l a:List bm),l.foldl (λ s c=>s++[c]) a=a++l:=by
  intro l
  induction l with
  | nil=>simp
  | cons c l m=>intro a; rw [List.foldl_cons,m]; simp
 dsimp only
 rw [zl d _ (r:=(.inl ((((bn b).map gy).foldl (λ (s:List bm) c=>s++[c]) [])),true)) (nv (λ k s=>s.length=k) (λ c s=>s++[c]) _ 0 [] rfl (λ j s a f g _=>by
  simp only [List.length_map] at f
  rw [eU (by simp; omega)]
  exact ⟨rfl,by simp [g]⟩))]
 rw [key]
 rfl
def uX:cN:=⟨⟨0,⟨0,0⟩,[],[],[]⟩,[],gh⟩
def oo(b:an)(own:Int):cN × Int :=
 if cD b≠0 then (uX,cD b) else if own≠0 then (uX,own) else if bn b=[] then (uX,9) else (⟨b,(bn b).map gy,[]⟩,0)
theorem rF{b:an}(m:Small b){f:an→Option Int}{own:Int}(s:cD b=0→f b=some own):gR b f=some (oo b own):=by
 unfold gR oo
 rw [zi m,aD]
 by_cases d:cD b=0
 ·have y:=jg m d
  simp only [d,bne_self_eq_false,aS,ne_eq,eW,if_false,s d,aD]
  by_cases g:own=0
  ·simp only [g,bne_self_eq_false,aS,eW,if_false,G8 y,aD,List.length_map]
   cases z:bn b with
   | nil=>rfl
   | cons c l =>
    rw [if_neg (by simp),show ((((c::l).length:Nat):Int) == 0)=false by simp; omega,aS]
  ·simp only [g,not_false_eq_true,if_true,gg g,a3]
   rfl
 ·simp only [d,ne_eq,not_false_eq_true,if_true,gg d,a3]
  rfl
end Go.Proofs.YtoaoffinglajbaaGreatDoor
