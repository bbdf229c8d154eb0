/- Plain lists. Conditions: none. -/
import Derived.Test.YtoaoffinglajbaaGreatDoorQBLgC
namespace Go.Lg
open Go.Conc
set_option maxRecDepth 10000
theorem gD{S O:Type}{body:S→Option (S ⊕ O)}(st:Nat→S)(n:Nat){o:O}(h:∀ i,i < n→body (st i)=some (.inl (st (i+1))))(d:body (st n)=some (.inr o)):a1 body (st 0)=some o:=by
 have key:∀ k,k≤n→a1 body (st (n - k))=some o:=by
  intro k
  induction k with
  | zero=>intro _; exact dO d
  | succ k f =>
   intro g
   rw [gC (h (n - (k+1)) (by omega)),show n - (k+1)+1=n - k by omega]
   exact f (by omega)
 have:=key n (ct _)
 rwa [Nat.sub_self] at this
def ck{O:Type}(e:Nat→Option O):Nat→Nat→Option O
 | _,0=>none
 | i,k+1=>match e i with | some o=>some o | none=>ck e (i+1) k
def r4{S O:Type}(s:S):Option O→S ⊕ O
 | some o=>.inr o
 | none=>.inl s
theorem rp{S O:Type}{body:S→Option (S ⊕ O)}(st:Nat→S)(e:Nat→Option O)(i0 n:Nat){o:O}(h:∀ i,i0≤i→i < n→body (st i)=some (r4 (st (i+1)) (e i)))(d:body (st n)=some (.inr o))(g:i0≤n):a1 body (st i0)=some ((ck e i0 (n - i0)).getD o):=by
 have key:∀ k,k≤n - i0→a1 body (st (n - k))=some ((ck e (n - k) k).getD o):=by
  intro k
  induction k with
  | zero=>intro _; exact dO d
  | succ k f =>
   intro m
   have hb:=h (n - (k+1)) (by omega) (by omega)
   unfold ck
   cases he:e (n - (k+1)) with
   | some o' =>
    rw [he] at hb
    exact dO hb
   | none =>
    rw [he] at hb
    rw [gC hb,show n - (k+1)+1=n - k by omega]
    exact f (by omega)
 have:=key (n - i0) (ct _)
 rwa [show n - (n - i0)=i0 by omega] at this
theorem gP{O:Type}{e:Nat→Option O}:∀ {k i:Nat},ck e i k=none↔∀ j,i≤j→j < i+k→e j=none
 | 0,i=>by simp [ck]; omega
 | k+1,i=>by
  unfold ck
  cases he:e i with
  | some o=>simp; exact ⟨i,ct _,by omega,by rw [he]; simp⟩
  | none =>
   simp only
   rw [gP]
   constructor
   ·intro h j d f
    by_cases g:j=i
    ·subst g; exact he
    ·exact h j (by omega) (by omega)
   ·intro h j d f; exact h j (by omega) (by omega)
theorem hF{O:Type}{e:Nat→Option O}:∀ {k i:Nat} {o:O},ck e i k=some o→∃ j,i≤j∧j < i+k∧e j=some o∧∀ m,i≤m→m < j→e m=none
 | 0,i,o,h=>by cases h
 | k+1,i,o,h=>by
  unfold ck at h
  cases he:e i with
  | some o'=>rw [he] at h; cases h; exact ⟨i,ct _,by omega,he,λ m d f=>by omega⟩
  | none =>
   rw [he] at h
   obtain ⟨j,d,f,g,s⟩:=hF h
   refine ⟨j,by omega,by omega,g,λ m z y=>?_⟩
   by_cases hm:m=i
   ·subst hm; exact he
   ·exact s m (by omega) y
@[simp] theorem a3 {α:Type} {a b:Option α}:ab true a b=a:=rfl
@[simp] theorem aS {α:Type} {a b:Option α}:ab false a b=b:=rfl
@[simp] theorem bD {α:Type} (xs:List α) (k:Nat):idx xs (k:Int)=xs[k]? := by simp [idx]
theorem bZ{z:Int}(d : -4611686018427387904≤z)(f:z≤4611686018427387904):i64 z=z:=rf (by omega)
theorem bN{i:Nat}(h:i≤1000000000):i64 ((i:Int)+1)=((i+1:Nat):Int):=by rw [bZ (by omega) (by omega)]; omega
theorem eU{α:Type}{xs ys:List α}(h:xs.length+ys.length≤16777216):cu xs ys=some (xs++ys):=by simp [cu,h]
def b1(n a c:Int):Bool:=decide (a≤n) && decide (n≤c)
def nth{α:Type}[Inhabited α](l:List α)(i:Nat):α:=l.getD i default
theorem a6{α:Type}[Inhabited α]{l:List α}{i:Nat}(h:i < l.length):l[i]? = some (nth l i):=by
 unfold nth
 rw [fq,e3 h]; rfl
theorem dk{α:Type}[Inhabited α]{l:List α}{i:Nat}(h:i < l.length):nth l i∈l:=List.mem_of_getElem? (a6 h)
theorem hR{α:Type}[Inhabited α]{l:List α}{x:α}(h:x∈l):∃ i,i < l.length∧nth l i=x:=by
 obtain ⟨i,hi,rfl⟩:=List.mem_iff_getElem.1 h
 refine ⟨i,hi,?_⟩
 have:=a6 hi
 rw [e3 hi] at this
 exact (ey this).symm
theorem u1{α:Type}[Inhabited α]{l m:List α}(h:l.length=m.length)(he:∀ i,i < l.length→nth l i=nth m i):l=m:=by
 apply List.ext_getElem?
 intro i
 by_cases hi:i < l.length
 ·rw [a6 hi,a6 (h ▸ hi),he i hi]
 ·rw [List.getElem?_eq_none (by omega),List.getElem?_eq_none (by omega)]
theorem rP{α:Type}[Inhabited α]{l:List α}{i k:Nat}(h:i < k):nth (l.take k) i=nth l i:=by
 unfold nth
 rw [fq,fq,List.getElem?_take_of_lt h]
theorem dh{S O β:Type}{body:S→Option (S ⊕ O)}{s:S}{o:O}{f:O→Option β}(h:a1 body s=some o):(a1 body s).bind f=f o:=by rw [h]; rfl
theorem dec_lt{i:Nat}{n:Nat}(h:i < n):decide ((i:Int) < (n:Int))=true:=by simpa using h
theorem cP{n:Nat}:decide ((n:Int) < (n:Int))=false:=by simp
theorem qZ{i:Nat}(h:¬ 0 < i):decide ((i:Int) > 0)=false:=by simpa using h
theorem tg{O:Type}{f:Option O}{g:Unit→Option O}{d:O}(m:g ()=some d):Sum.elim g (λ q=>some q) (((f.map Sum.inr).getD (.inl ())):Unit ⊕ O)=some (f.getD d):=by
 cases f with
 | none=>exact m
 | some o=>rfl
theorem nu{O Q:Type}(g:O→Q)(e:Nat→Option O):∀ (k i:Nat),ck (λ j=>(e j).map g) i k=(ck e i k).map g
 | 0,_=>rfl
 | k+1,i=>by
  unfold ck
  cases e i with
  | none=>exact nu g e k (i+1)
  | some o=>rfl
theorem search{O:Type}{body:Int→Option (Int ⊕ (Unit ⊕ O))}(e:Nat→Option O)(i0 n:Nat){d:O}{g:Unit→Option O}(h:∀ i,i0≤i→i < n→body (i:Int)=some (match e i with | some o=>.inr (.inr o) | none=>.inl ((i+1:Nat):Int)))(z:body (n:Int)=some (.inr (.inl ())))(f:i0≤n)(y:g ()=some d) :
  (a1 body (i0:Int)).bind (Sum.elim g λ q=>some q)=some ((ck e i0 (n - i0)).getD d):=by
 refine (dh (rp (λ i=>(i:Int)) (λ i=>(e i).map Sum.inr) i0 n (o:=.inl ()) (λ i m s=>?_) z f)).trans ?_
 ·rw [h i m s]
  cases e i <;> rfl
 ·rw [nu]
  exact tg y
theorem fl{O:Type}{body:Int→Option (Int ⊕ (Unit ⊕ O))}(e:Nat→Option O)(n:Nat){d:O}{g:Unit→Option O}(h:∀ i,i < n→body (i:Int)=some (match e i with | some o=>.inr (.inr o) | none=>.inl ((i+1:Nat):Int)))(m:body (n:Int)=some (.inr (.inl ())))(f:g ()=some d) :
  (a1 body 0).bind (Sum.elim g λ q=>some q)=some ((ck e 0 n).getD d):=search e 0 n (λ i _ hi=>h i hi) m (Nat.zero_le _) f
theorem o7{α:Type}[Inhabited α](p:α→Bool)(l:List α):(ck (λ i=>if p (nth l i) then some true else none) 0 l.length).getD false=l.any p:=by
 cases h:ck (λ i=>if p (nth l i) then some true else none) 0 l.length with
 | none =>
  rw [gP] at h
  symm
  rw [Option.getD_none,List.any_eq_false]
  intro x f
  obtain ⟨i,hi,rfl⟩:=hR f
  have:=h i (Nat.zero_le _) (by omega)
  simpa using this
 | some o =>
  obtain ⟨j,_,g,he,_⟩:=hF h
  split at he
  ·rename_i d
   cases he
   symm
   rw [hs,List.any_eq_true]
   exact ⟨nth l j,dk (by omega),d⟩
  ·cases he
theorem sC(l:List Int)(n:Int):(l.any λ x=>x == n)=l.contains n:=by
 rw [Bool.eq_iff_iff,List.any_eq_true,List.contains_iff_mem]
 constructor
 ·rintro ⟨x,d,h⟩
  rw [beq_iff_eq] at h; subst h; exact d
 ·intro h; exact ⟨n,h,by simp⟩
theorem collect{α:Type}{body:List α × Int→Option ((List α × Int) ⊕ List α)}(g:Nat→Option α)(n:Nat) (h:∀ i acc,i < n→acc.length≤i→body (acc,(i:Int))=some (.inl (acc++(g i).toList,((i+1:Nat):Int)))) (m:∀ acc,body (acc,(n:Int))=some (.inr acc)) :
  a1 body ([],0)=some ((List.range n).filterMap g):=by
 refine (gD (λ i=>((List.range i).filterMap g,(i:Int))) n (λ i hi=>?_) (m _):a1 body ([],(0:Int))=_)
 have f:((List.range i).filterMap g).length≤i:=by
  have:=List.length_filterMap_le g (List.range i)
  simpa using this
 rw [h i _ hi f,List.range_succ,List.filterMap_append,show List.filterMap g [i]=(g i).toList by cases d:g i <;> simp [d]]
theorem fu{n a c:Int}:b1 n a c=true↔a≤n∧n≤c:=by simp [b1]
theorem o9{e:Nat→Option Int}{n:Nat}(f:∀ i,e i≠some 0)(h:(ck e 0 n).getD 0=0):∀ i,i < n→e i=none:=by
 cases d:ck e 0 n with
 | none=>rw [gP] at d; exact λ i hi=>d i (Nat.zero_le _) (by omega)
 | some o =>
  rw [d] at h
  obtain ⟨j,_,_,he,_⟩:=hF d
  have:o=0:=h
  subst this
  exact absurd he (f j)
def cx{α S:Type}(ys:α→S→Option (S × Bool)):List α→S→Option (S × Bool)
 | [],s=>some (s,true)
 | a::l,s=>(ys a s).bind λ r=>if r.2=true then cx ys l r.1 else some (r.1,false)
theorem l3{α S:Type}(ys:α→S→Option (S × Bool)):∀ (l m:List α) (s:S),cx ys (l++m) s=(cx ys l s).bind λ r=>if r.2=true then cx ys m r.1 else some (r.1,false)
 | [],_,_=>by simp [cx]
 | a::l,m,s=>by
  simp only [List.cons_append,cx]
  cases ys a s with
  | none=>rfl
  | some r =>
   simp only [aD]
   cases d:r.2 with
   | true=>simp only [if_true]; exact l3 ys l m r.1
   | false=>simp
theorem nB{α S X E:Type}{ys:α→S→Option (S × Bool)}{body:S × X→Option ((S × X) ⊕ (S ⊕ E))}(g:S→E)(x:Nat→X)(m:Nat→List α)(n:Nat)
  (h:∀ j s r,j < n→cx ys (m j) s=some r→body (s,x j)=some (if r.2=true then .inl (r.1,x (j+1)) else .inr (.inr (g r.1)))) (y:∀ s,body (s,x n)=some (.inr (.inl s))) {s:S} {r:S × Bool}
  (d:cx ys ((List.range n).flatMap m) s=some r):a1 body (s,x 0)=some (if r.2=true then .inl r.1 else .inr (g r.1)):=by
 have key:∀ k,k≤n→∀ s,cx ys ((List.range' (n - k) k).flatMap m) s=some r→a1 body (s,x (n - k))=some (if r.2=true then .inl r.1 else .inr (g r.1)):=by
  intro k
  induction k with
  | zero =>
   intro _ s d
   simp only [List.range'_zero,List.flatMap_nil,cx,eO] at d
   subst d
   exact dO (y s)
  | succ k A =>
   intro B s d
   have e:n - k=n - (k+1)+1:=by omega
   rw [List.range'_succ,List.flatMap_cons,l3] at d
   obtain ⟨q,z,d⟩:=ae d
   have hb:=h (n - (k+1)) s q (by omega) z
   split at d
   ·rename_i f
    rw [if_pos f] at hb
    rw [gC hb,← e]
    exact A (by omega) _ (by rw [e]; exact d)
   ·rename_i f
    rw [if_neg f] at hb
    cases d
    rw [dO hb]
    simp
 have:=key n (ct n) s (by rw [Nat.sub_self,← List.range_eq_range']; exact d)
 rwa [Nat.sub_self] at this
theorem re{α β:Type}(f:α→β):∀ l:List α,l.flatMap (λ x=>[f x])=l.map f
 | []=>rfl
 | a::l=>by rw [List.flatMap_cons,re f l]; rfl
theorem nv{α S O:Type}{body:α→S→Option (S ⊕ O)}(I:Nat→S→Prop)(f:α→S→S):∀ (l:List α) (k:Nat) (s:S),I k s→(∀ j s a,j < k+l.length→I j s→a∈l→body a s=some (.inl (f a s))∧I (j+1) (f a s)) →
  cx (cp body) l (.inl s)=some (.inl (l.foldl (λ s a=>f a s) s),true)
 | [],_,_,_,_=>rfl
 | a::l,k,s,d,h=>by
  obtain ⟨m,y⟩:=h k s a (by simp) d (by simp)
  simp only [cx,cp,m,Option.map_some,aD,Sum.isLeft_inl,if_true,List.foldl_cons]
  exact nv I f l (k+1) _ y (λ j s g A d z=>h j s g (by simp only [List.length_cons]; omega) d (by simp [z]))
theorem q9{α β:Type}(f:α→List β)(m:Nat)(h:∀ a,(f a).length≤m):∀ l:List α,(l.flatMap f).length≤l.length * m
 | []=>by simp
 | a::l=>by
  have:=q9 f m h l
  have:=h a
  simp only [List.flatMap_cons,ew,List.length_cons,Nat.add_mul,Nat.one_mul]
  omega
theorem JJ{w x:Int}:cy w [x]=max w x:=by
 show (if x > w then x else w)=_
 rw [Int.max_def]
 split <;> split <;> omega
theorem oV:∀ (l m:List Int),l.Pairwise (· < ·)→m.Pairwise (· < ·)→(∀ x,x∈l↔x∈m)→l=m
 | [],[],_,_,_=>rfl
 | [],b::m,_,_,h=>by have:=(h b).2 (by simp); cases this
 | a::l,[],_,_,h=>by have:=(h a).1 (by simp); cases this
 | a::l,b::m,g,hm,h=>by
  rw [List.pairwise_cons] at g hm
  have y:a=b:=by
   rcases cO.1 ((h a).1 (by simp)) with d | d
   ·exact d
   ·rcases cO.1 ((h b).2 (by simp)) with s | s
    ·exact s.symm
    ·have z:=hm.1 a d
     have A:=g.1 b s
     omega
  subst y
  rw [oV l m g.2 hm.2 λ x=>?_]
  constructor
  ·intro f
   rcases cO.1 ((h x).1 (by simp [f])) with d | d
   ·have:=g.1 x f; omega
   ·exact d
  ·intro f
   rcases cO.1 ((h x).2 (by simp [f])) with d | d
   ·have:=hm.1 x f; omega
   ·exact d
theorem JK{w x:Int}:gf w [x]=min w x:=by
 show (if x < w then x else w)=_
 rw [Int.min_def]
 split <;> split <;> omega
theorem rO{α:Type}[Inhabited α]{m:List α}{w:Nat}{x:α}(h:w < m.length):nth (m.set w x) w=x:=by
 unfold nth
 rw [fq,List.getElem?_set_self h]
 rfl
theorem p7{α:Type}[Inhabited α]{m:List α}{w i:Nat}{x:α}(h:w≠i):nth (m.set w x) i=nth m i:=by
 unfold nth
 rw [fq,fq,List.getElem?_set_ne h]
section
variable {α:Type}
def lvl(ext:Nat→List α→List α):Nat→List (List α)
 | 0=>[[]]
 | i+1=>(lvl ext i).flatMap λ p=>(ext i p).map λ x=>p++[x]
def tree(ext:Nat→List α→List α):Nat→Nat→List α→List (List α)
 | 0,_,p=>[p]
 | j+1,i,p=>(ext i p).flatMap λ x=>tree ext j (i+1) (p++[x])
theorem yN(ext:Nat→List α→List α):∀ j i,(lvl ext i).flatMap (tree ext j i)=lvl ext (i+j)
 | 0,i=>by simp [tree]
 | j+1,i=>by
  rw [show i+(j+1)=(i+1)+j by omega,← yN ext j (i+1)]
  simp only [lvl,tree,List.flatMap_assoc,List.flatMap_map]
theorem L7(ext:Nat→List α→List α)(n:Nat):tree ext n 0 []=lvl ext n:=by
 have:=yN ext n 0
 rw [Nat.zero_add] at this
 rw [← this]
 simp [lvl]
theorem rN[Inhabited α]{p q:List α}{i:Nat}(h:i < p.length):nth (p++q) i=nth p i:=by
 unfold nth
 rw [fq,fq,fU h]
theorem uZ[Inhabited α]{p:List α}{x:α}:nth (p++[x]) p.length=x:=by
 unfold nth
 rw [fq,fC (ct _),Nat.sub_self]
 rfl
theorem LC[Inhabited α]{r:List α}{n:Nat}(h:r.length=n+1):r=r.take n++[nth r n]:=by
 have d:n < r.length:=by omega
 have f:=List.take_succ_eq_append_getElem d
 rw [List.take_of_length_le (by omega)] at f
 have g:=a6 d
 rw [e3 d] at g
 rw [← ey g]
 exact f
theorem rH[Inhabited α]{ext:Nat→List α→List α}:∀ {n:Nat} {r:List α},r∈lvl ext n↔r.length=n∧∀ i,i < n→nth r i∈ext i (r.take i)
 | 0,r=>by
  simp only [lvl,List.mem_singleton]
  constructor
  ·rintro rfl; exact ⟨rfl,λ i hi=>by omega⟩
  ·rintro ⟨h,_⟩; exact List.length_eq_zero_iff.1 h
 | n+1,r=>by
  simp only [lvl,List.mem_flatMap,List.mem_map]
  constructor
  ·rintro ⟨p,m,x,s,rfl⟩
   obtain ⟨d,f⟩:=rH.1 m
   refine ⟨by simp [d],λ i hi=>?_⟩
   by_cases g:i < n
   ·rw [rN (by omega),List.take_append_of_le_length (by omega)]
    exact f i g
   ·obtain rfl:i=p.length:=by omega
    rw [uZ,List.take_append_of_le_length (ct _),List.take_length,d]
    exact s
  ·rintro ⟨d,f⟩
   refine ⟨r.take n,rH.2 ⟨by simp; omega,λ i hi=>?_⟩,nth r n,f n (by omega),(LC d).symm⟩
   rw [rP hi,List.take_take,Nat.min_eq_left (by omega)]
   exact f i (by omega)
end
end Go.Lg
