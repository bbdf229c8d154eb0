/- Plain lists. Conditions: none. -/
import Derived.Test.YtihapemckcdicaaGreatDoorQVLgC
namespace Go.Lg
open Go.Conc
set_option maxRecDepth 10000
theorem aDe{S O:Type}{body:S→Option (S ⊕ O)}(st:Nat→S)(n:Nat){o:O}(h:∀ i,i < n→body (st i)=some (.inl (st (i+1))))(hn:body (st n)=some (.inr o)):bH body (st 0)=some o:=by
 have key:∀ k,k≤n→bH body (st (n - k))=some o:=by
  intro k
  induction k with
  | zero=>intro _; exact lR hn
  | succ k ih =>
   intro hk
   rw [vF (h (n - (k+1)) (by omega)),show n - (k+1)+1=n - k by omega]
   exact ih (by omega)
 have:=key n (Nat.le_refl _)
 rwa [Nat.sub_self] at this
def eZ{O:Type}(e:Nat→Option O):Nat→Nat→Option O
 | _,0=>none
 | i,k+1=>match e i with | some o=>some o | none=>eZ e (i+1) k
def afH{S O:Type}(s:S):Option O→S ⊕ O
 | some o=>.inr o
 | none=>.inl s
theorem ad3{S O:Type}{body:S→Option (S ⊕ O)}(st:Nat→S)(e:Nat→Option O)(i0 n:Nat){o:O}(h:∀ i,i0≤i→i < n→body (st i)=some (afH (st (i+1)) (e i)))(hn:body (st n)=some (.inr o))(h0:i0≤n):bH body (st i0)=some ((eZ e i0 (n - i0)).getD o):=by
 have key:∀ k,k≤n - i0→bH body (st (n - k))=some ((eZ e (n - k) k).getD o):=by
  intro k
  induction k with
  | zero=>intro _; exact lR hn
  | succ k ih =>
   intro hk
   have hb:=h (n - (k+1)) (by omega) (by omega)
   unfold eZ
   cases he:e (n - (k+1)) with
   | some o' =>
    rw [he] at hb
    exact lR hb
   | none =>
    rw [he] at hb
    rw [vF hb,show n - (k+1)+1=n - k by omega]
    exact ih (by omega)
 have:=key (n - i0) (Nat.le_refl _)
 rwa [show n - (n - i0)=i0 by omega] at this
theorem aDc{S O:Type}{body:S→Option (S ⊕ O)}(st:Nat→S)(e:Nat→Option O)(n:Nat){o:O}(h:∀ i,i < n→body (st i)=some (afH (st (i+1)) (e i)))(hn:body (st n)=some (.inr o)):bH body (st 0)=some ((eZ e 0 n).getD o):=by
 simpa using ad3 st e 0 n (λ i _ hi=>h i hi) hn (Nat.zero_le _)
theorem tf{O:Type}{e:Nat→Option O}:∀ {k i:Nat},eZ e i k=none↔∀ j,i≤j→j < i+k→e j=none
 | 0,i=>by simp [eZ]; omega
 | k+1,i=>by
  unfold eZ
  cases he:e i with
  | some o=>simp; exact ⟨i,Nat.le_refl _,by omega,by rw [he]; simp⟩
  | none =>
   simp only
   rw [tf]
   constructor
   ·intro h j h1 h2
    by_cases hj:j=i
    ·subst hj; exact he
    ·exact h j (by omega) (by omega)
   ·intro h j h1 h2; exact h j (by omega) (by omega)
theorem y4{O:Type}{e:Nat→Option O}:∀ {k i:Nat} {o:O},eZ e i k=some o→∃ j,i≤j∧j < i+k∧e j=some o∧∀ m,i≤m→m < j→e m=none
 | 0,i,o,h=>by cases h
 | k+1,i,o,h=>by
  unfold eZ at h
  cases he:e i with
  | some o'=>rw [he] at h; cases h; exact ⟨i,Nat.le_refl _,by omega,he,λ m h1 h2=>by omega⟩
  | none =>
   rw [he] at h
   obtain ⟨j,h1,h2,h3,h4⟩:=y4 h
   refine ⟨j,by omega,by omega,h3,λ m Tt EF=>?_⟩
   by_cases hm:m=i
   ·subst hm; exact he
   ·exact h4 m (by omega) EF
@[simp] theorem cJ {α:Type} {a b:Option α}:af true a b=a:=rfl
@[simp] theorem cD {α:Type} {a b:Option α}:af false a b=b:=rfl
@[simp] theorem dT {α:Type} (xs:List α) (k:Nat):idx xs (k:Int)=xs[k]? := by simp [idx]
theorem gB{z:Int}(h1 : -4611686018427387904≤z)(h2:z≤4611686018427387904):i64 z=z:=Nu (by omega)
theorem fy{i:Nat}(h:i≤1000000000):i64 ((i:Int)+1)=((i+1:Nat):Int):=by rw [gB (by omega) (by omega)]; omega
theorem kO{i:Nat}(h:i≤1000000000)(h0:0 < i):i64 ((i:Int) - 1)=((i - 1:Nat):Int):=by rw [gB (by omega) (by omega)]; omega
theorem aa2{α:Type}{xs:List α}{k:Nat}(h:k≤xs.length):lK xs 0 (k:Int)=some (xs.take k):=by simp [lK,h]
theorem QD{α:Type}{xs ys:List α}(h:xs.length+ys.length≤16777216):gR xs ys=some (xs++ys):=by simp [gR,h]
def c7(n a c:Int):Bool:=decide (a≤n) && decide (n≤c)
def nth{α:Type}[Inhabited α](l:List α)(i:Nat):α:=l.getD i default
theorem cp{α:Type}[Inhabited α]{l:List α}{i:Nat}(h:i < l.length):l[i]? = some (nth l i):=by
 unfold nth
 rw [List.getD_eq_getElem?_getD,List.getElem?_eq_getElem h]; rfl
theorem qn{α:Type}[Inhabited α]{l:List α}{i:Nat}(h:i < l.length):nth l i∈l:=List.mem_of_getElem? (cp h)
theorem xJ{α:Type}[Inhabited α]{l:List α}{x:α}(h:x∈l):∃ i,i < l.length∧nth l i=x:=by
 obtain ⟨i,hi,rfl⟩:=List.mem_iff_getElem.1 h
 refine ⟨i,hi,?_⟩
 have:=cp hi
 rw [List.getElem?_eq_getElem hi] at this
 exact (Option.some.inj this).symm
theorem aFt{α:Type}[Inhabited α]{l m:List α}(h:l.length=m.length)(he:∀ i,i < l.length→nth l i=nth m i):l=m:=by
 apply List.ext_getElem?
 intro i
 by_cases hi:i < l.length
 ·rw [cp hi,cp (h ▸ hi),he i hi]
 ·rw [List.getElem?_eq_none (by omega),List.getElem?_eq_none (by omega)]
theorem N4{α:Type}[Inhabited α]{l:List α}{i k:Nat}(h:i < k):nth (l.take k) i=nth l i:=by
 unfold nth
 rw [List.getD_eq_getElem?_getD,List.getD_eq_getElem?_getD,List.getElem?_take_of_lt h]
theorem ql{S O β:Type}{body:S→Option (S ⊕ O)}{s:S}{o:O}{f:O→Option β}(h:bH body s=some o):(bH body s).bind f=f o:=by rw [h]; rfl
theorem dec_lt{i:Nat}{n:Nat}(h:i < n):decide ((i:Int) < (n:Int))=true:=by simpa using h
theorem oI{n:Nat}:decide ((n:Int) < (n:Int))=false:=by simp
theorem Rp{i:Nat}(h:0 < i):decide ((i:Int) > 0)=true:=by simpa using h
theorem Ro{i:Nat}(h:¬ 0 < i):decide ((i:Int) > 0)=false:=by simpa using h
theorem ak1{O:Type}{f:Option O}{g:Unit→Option O}{d:O}(hd:g ()=some d):Sum.elim g (λ q=>some q) (((f.map Sum.inr).getD (.inl ())):Unit ⊕ O)=some (f.getD d):=by
 cases f with
 | none=>exact hd
 | some o=>rfl
theorem RV{O Q:Type}(g:O→Q)(e:Nat→Option O):∀ (k i:Nat),eZ (λ j=>(e j).map g) i k=(eZ e i k).map g
 | 0,_=>rfl
 | k+1,i=>by
  unfold eZ
  cases e i with
  | none=>exact RV g e k (i+1)
  | some o=>rfl
theorem search{O:Type}{body:Int→Option (Int ⊕ (Unit ⊕ O))}(e:Nat→Option O)(i0 n:Nat){d:O}{g:Unit→Option O}(h:∀ i,i0≤i→i < n→body (i:Int)=some (match e i with | some o=>.inr (.inr o) | none=>.inl ((i+1:Nat):Int)))(hn:body (n:Int)=some (.inr (.inl ())))(h0:i0≤n)(hd:g ()=some d) :
  (bH body (i0:Int)).bind (Sum.elim g λ q=>some q)=some ((eZ e i0 (n - i0)).getD d):=by
 refine (ql (ad3 (λ i=>(i:Int)) (λ i=>(e i).map Sum.inr) i0 n (o:=.inl ()) (λ i h1 h2=>?_) hn h0)).trans ?_
 ·rw [h i h1 h2]
  cases e i <;> rfl
 ·rw [RV]
  exact ak1 hd
theorem wo{O:Type}{body:Int→Option (Int ⊕ (Unit ⊕ O))}(e:Nat→Option O)(n:Nat){d:O}{g:Unit→Option O}(h:∀ i,i < n→body (i:Int)=some (match e i with | some o=>.inr (.inr o) | none=>.inl ((i+1:Nat):Int)))(hn:body (n:Int)=some (.inr (.inl ())))(hd:g ()=some d) :
  (bH body 0).bind (Sum.elim g λ q=>some q)=some ((eZ e 0 n).getD d):=search e 0 n (λ i _ hi=>h i hi) hn (Nat.zero_le _) hd
theorem YY{α:Type}[Inhabited α](p:α→Bool)(l:List α):(eZ (λ i=>if p (nth l i) then some true else none) 0 l.length).getD false=l.any p:=by
 cases h:eZ (λ i=>if p (nth l i) then some true else none) 0 l.length with
 | none =>
  rw [tf] at h
  symm
  rw [Option.getD_none,List.any_eq_false]
  intro x hx
  obtain ⟨i,hi,rfl⟩:=xJ hx
  have:=h i (Nat.zero_le _) (by omega)
  simpa using this
 | some o =>
  obtain ⟨j,_,hj,he,_⟩:=y4 h
  split at he
  ·rename_i hp
   cases he
   symm
   rw [Option.getD_some,List.any_eq_true]
   exact ⟨nth l j,qn (by omega),hp⟩
  ·cases he
theorem aJa(l:List Int)(n:Int):(l.any λ x=>x == n)=l.contains n:=by
 rw [Bool.eq_iff_iff,List.any_eq_true,List.contains_iff_mem]
 constructor
 ·rintro ⟨x,hx,h⟩
  rw [beq_iff_eq] at h; subst h; exact hx
 ·intro h; exact ⟨n,h,by simp⟩
theorem anW{α:Type}[Inhabited α](p:α→Bool)(l:List α):decide ((eZ (λ i=>if p (nth l i) then some (i:Int) else none) 0 l.length).getD (-1) ≥ 0)=l.any p:=by
 rw [← YY p l]
 cases h:eZ (λ i=>if p (nth l i) then some (i:Int) else none) 0 l.length with
 | none =>
  rw [tf] at h
  have:eZ (λ i=>if p (nth l i) then some true else none) 0 l.length=none:=by
   rw [tf]
   intro j h1 h2
   have:=h j h1 h2
   cases hp:p (nth l j) with
   | true=>rw [hp] at this; cases this
   | false=>rfl
  rw [this]; rfl
 | some o =>
  obtain ⟨j,h1,h2,h3,h4⟩:=y4 h
  split at h3
  ·rename_i hp
   cases h3
   have:eZ (λ i=>if p (nth l i) then some true else none) 0 l.length=some true:=by
    cases hf:eZ (λ i=>if p (nth l i) then some true else none) 0 l.length with
    | none=>rw [tf] at hf; have:=hf j h1 h2; rw [if_pos hp] at this; cases this
    | some b =>
     obtain ⟨_,_,_,hb,_⟩:=y4 hf
     split at hb
     ·cases hb; rfl
     ·cases hb
   rw [this]
   simp
  ·cases h3
theorem XG{O:Type}{body:Int→Option (Int ⊕ (Unit ⊕ O))}(e:Nat→Option O)(n:Nat)(h:∀ i,i < n→body (i:Int)=some (match e i with | some o=>.inr (.inr o) | none=>.inl ((i+1:Nat):Int)))(hn:body (n:Int)=some (.inr (.inl ()))) :
  bH body 0=some (match eZ e 0 n with | some o=>.inr o | none=>.inl ()):=by
 refine (aDc (λ i=>(i:Int)) (λ i=>(e i).map Sum.inr) n (o:=.inl ()) (λ i hi=>?_) hn).trans ?_
 ·rw [h i hi]
  cases e i <;> rfl
 ·rw [RV]
  cases eZ e 0 n <;> rfl
theorem aco{α O:Type}[Inhabited α](p:α→Bool)(c:O)(l:List α)(n:Nat)(hn:n≤l.length):eZ (λ k=>if p (nth l k) then some c else none) 0 n=if (l.take n).any p then some c else none:=by
 cases h:eZ (λ k=>if p (nth l k) then some c else none) 0 n with
 | none =>
  rw [tf] at h
  have:(l.take n).any p=false:=by
   rw [List.any_eq_false]
   intro x hx
   obtain ⟨i,hi,rfl⟩:=xJ hx
   have o6:i < n:=by simp at hi; omega
   rw [N4 o6]
   have:=h i (Nat.zero_le _) (by omega)
   simpa using this
  rw [this]; rfl
 | some o =>
  obtain ⟨j,_,hj,he,_⟩:=y4 h
  split at he
  ·rename_i hp
   cases he
   have:(l.take n).any p=true:=by
    rw [List.any_eq_true]
    refine ⟨nth l j,?_,hp⟩
    rw [← N4 (l:=l) (show j < n by omega)]
    exact qn (by simp; omega)
   rw [this]; rfl
  ·cases he
def isLet(n:Int):Bool:=c7 n 97 122
def xv(n:Int):Bool:=c7 n 48 57
theorem OG(s:ByteArray):(gN s).length=s.size:=by simp [gN]
theorem afO{s:ByteArray}{i:Nat}(h:i < s.size):0≤nth (gN s) i∧nth (gN s) i < 256:=by
 have hm:nth (gN s) i∈gN s:=qn (by rw [OG]; exact h)
 unfold gN at hm
 obtain ⟨b,_,hb⟩:=List.mem_map.1 hm
 unfold gN
 rw [← hb]
 have:=b.toNat_lt
 omega
def nS(s:ByteArray)(i:Nat):Option Bool:=if isLet (nth (gN s) i)=false then (if i=0 then some false else if xv (nth (gN s) i)=false then some false else none) else none
def p5(s:ByteArray):Bool:=(eZ (nS s) 0 s.size).getD (c7 (s.size:Int) 1 12)
theorem ahx{s:ByteArray}{k i:Nat}{o:Bool}(h:eZ (nS s) i k=some o):o=false:=by
 obtain ⟨j,_,_,he,_⟩:=y4 h
 unfold nS at he
 split at he
 ·split at he
  ·cases he; rfl
  ·split at he
   ·cases he; rfl
   ·cases he
 ·cases he
theorem GL{a:Int}(h:a≠0):(a != 0)=true:=by simpa using h
theorem jV{n a c:Int}:c7 n a c=true↔a≤n∧n≤c:=by simp [c7]
theorem MC{e:Nat→Option Int}{n:Nat}(cT:∀ i,e i≠some 0)(h:(eZ e 0 n).getD 0=0):∀ i,i < n→e i=none:=by
 cases hf:eZ e 0 n with
 | none=>rw [tf] at hf; exact λ i hi=>hf i (Nat.zero_le _) (by omega)
 | some o =>
  rw [hf] at h
  obtain ⟨j,_,_,he,_⟩:=y4 hf
  have:o=0:=h
  subst this
  exact absurd he (cT j)
def oU{α S:Type}(ys:α→S→Option (S × Bool)):List α→S→Option (S × Bool)
 | [],s=>some (s,true)
 | a::l,s=>(ys a s).bind λ r=>if r.2=true then oU ys l r.1 else some (r.1,false)
theorem acr{α S:Type}(ys:α→S→Option (S × Bool)):∀ (l m:List α) (s:S),oU ys (l++m) s=(oU ys l s).bind λ r=>if r.2=true then oU ys m r.1 else some (r.1,false)
 | [],_,_=>by simp [oU]
 | a::l,m,s=>by
  simp only [List.cons_append,oU]
  cases ys a s with
  | none=>rfl
  | some r =>
   simp only [Option.bind_some]
   cases hr:r.2 with
   | true=>simp only [if_true]; exact acr ys l m r.1
   | false=>simp
theorem anX{α β:Type}(f:α→β):∀ l:List α,l.flatMap (λ x=>[f x])=l.map f
 | []=>rfl
 | a::l=>by rw [List.flatMap_cons,anX f l]; rfl
theorem acs{α S O:Type}{body:α→S→Option (S ⊕ O)}(I:Nat→S→Prop)(f:α→S→S):∀ (l:List α) (k:Nat) (s:S),I k s→(∀ j s a,j < k+l.length→I j s→a∈l→body a s=some (.inl (f a s))∧I (j+1) (f a s)) →
  oU (gk body) l (.inl s)=some (.inl (l.foldl (λ s a=>f a s) s),true)
 | [],_,_,_,_=>rfl
 | a::l,k,s,hI,h=>by
  obtain ⟨h1,h2⟩:=h k s a (by simp) hI (by simp)
  simp only [oU,gk,h1,Option.map_some,Option.bind_some,Sum.isLeft_inl,if_true,List.foldl_cons]
  exact acs I f l (k+1) _ h2 (λ j s a' hj hI ha=>h j s a' (by simp only [List.length_cons]; omega) hI (by simp [ha]))
theorem acp{α β:Type}(f:α→List β)(m:Nat)(h:∀ a,(f a).length≤m):∀ l:List α,(l.flatMap f).length≤l.length * m
 | []=>by simp
 | a::l=>by
  have:=acp f m h l
  have:=h a
  simp only [List.flatMap_cons,List.length_append,List.length_cons,Nat.add_mul,Nat.one_mul]
  omega
theorem aJr{w x:Int}:qm w [x]=max w x:=by
 show (if x > w then x else w)=_
 rw [Int.max_def]
 split <;> split <;> omega
theorem Z7:∀ (l m:List Int),l.Pairwise (· < ·)→m.Pairwise (· < ·)→(∀ x,x∈l↔x∈m)→l=m
 | [],[],_,_,_=>rfl
 | [],b::m,_,_,h=>by have:=(h b).2 (by simp); cases this
 | a::l,[],_,_,h=>by have:=(h a).1 (by simp); cases this
 | a::l,b::m,hl,hm,h=>by
  rw [List.pairwise_cons] at hl hm
  have bE:a=b:=by
   rcases List.mem_cons.1 ((h a).1 (by simp)) with h1 | h1
   ·exact h1
   ·rcases List.mem_cons.1 ((h b).2 (by simp)) with h2 | h2
    ·exact h2.symm
    ·have h3:=hm.1 a h1
     have h4:=hl.1 b h2
     omega
  subst bE
  rw [Z7 l m hl.2 hm.2 λ x=>?_]
  constructor
  ·intro hx
   rcases List.mem_cons.1 ((h x).1 (by simp [hx])) with h1 | h1
   ·have:=hl.1 x hx; omega
   ·exact h1
  ·intro hx
   rcases List.mem_cons.1 ((h x).2 (by simp [hx])) with h1 | h1
   ·have:=hm.1 x hx; omega
   ·exact h1
def lg(l:List Int):Nat→List Int
 | 0=>[]
 | k+1=>if k=0∨nth l k≠nth l (k - 1) then lg l k++[nth l k] else lg l k
theorem Rn(l:List Int):∀ (k:Nat) (x:Int),x∈lg l k↔∃ i,i < k∧nth l i=x
 | 0,x=>by simp [lg]
 | k+1,x=>by
  have ih:=Rn l k x
  simp only [lg]
  have h1:(∃ i,i < k+1∧nth l i=x)↔(∃ i,i < k∧nth l i=x)∨nth l k=x:=by
   constructor
   ·rintro ⟨i,hi,hx⟩
    by_cases S5:i=k
    ·subst S5; exact .inr hx
    ·exact .inl ⟨i,by omega,hx⟩
   ·rintro (⟨i,hi,hx⟩ | hx)
    ·exact ⟨i,by omega,hx⟩
    ·exact ⟨k,by omega,hx⟩
  rw [h1]
  split
  ·rw [List.mem_append,ih,List.mem_singleton]
   constructor <;> rintro (h | h) <;> simp [h]
  ·rename_i hn
   have hk:k≠0∧nth l k=nth l (k - 1):=by
    constructor
    ·exact λ h=>hn (.inl h)
    ·exact Classical.byContradiction λ h=>hn (.inr h)
   rw [ih]
   constructor
   ·exact .inl
   ·rintro (h | h)
    ·exact h
    ·exact ⟨k - 1,by omega,by rw [← hk.2,h]⟩
theorem afB{l:List Int}(hs:l.Pairwise (·≤·)){i j:Nat}(fC:i < j)(hj:j < l.length):nth l i≤nth l j:=by
 rw [List.pairwise_iff_getElem] at hs
 have h:=hs i j (by omega) hj fC
 have e1:=cp (show i < l.length by omega)
 have e2:=cp hj
 rw [List.getElem?_eq_getElem (by omega)] at e1 e2
 rw [← Option.some.inj e1,← Option.some.inj e2]
 exact h
theorem aa3{l:List Int}(hs:l.Pairwise (·≤·)):∀ k,k≤l.length→(lg l k).Pairwise (· < ·)
 | 0,_=>by simp [lg]
 | k+1,hk=>by
  have ih:=aa3 hs k (by omega)
  simp only [lg]
  split
  ·rename_i h
   rw [List.pairwise_append]
   refine ⟨ih,by simp,λ x hx y hy=>?_⟩
   rw [List.mem_singleton] at hy
   subst hy
   obtain ⟨i,hi,rfl⟩:=(Rn l k x).1 hx
   rcases h with h | h
   ·omega
   ·have h1:=afB hs (show k - 1 < k by omega) (by omega)
    have h2:nth l i≤nth l (k - 1):=by
     rcases Nat.lt_or_ge i (k - 1) with h3 | h3
     ·exact afB hs h3 (by omega)
     ·rw [show i=k - 1 by omega]; exact Int.le_refl _
    omega
  ·exact ih
theorem Rm{l:List Int}:∀ k,k≤l.length→(∀ i,1≤i→i < k→nth l i≠nth l (i - 1))→lg l k=l.take k
 | 0,_,_=>by simp [lg]
 | k+1,hk,h=>by
  rw [lg,if_pos (by
   by_cases h0:k=0
   ·exact .inl h0
   ·exact .inr (h k (by omega) (by omega))),Rm k (by omega) (λ i h1 h2=>h i h1 (by omega)),List.take_add_one,cp (by omega)]
  rfl
theorem abc{m:List Int}{a i:Nat}(h:a+i < m.length):(m.drop a)[i]? = some (nth m (a+i)):=by
 rw [List.getElem?_drop,cp h]
theorem aFv{m:List Int}{w i:Nat}{x:Int}(h:w≠i):nth (m.set w x) i=nth m i:=by
 unfold nth
 rw [List.getD_eq_getElem?_getD,List.getD_eq_getElem?_getD,List.getElem?_set_ne h]
theorem take_set{m:List Int}{w:Nat}{x:Int}(h:w < m.length):(m.set w x).take (w+1)=m.take w++[x]:=by
 rw [List.take_add_one,List.getElem?_set_self h,List.take_set_of_le (Nat.le_refl _)]
 rfl
theorem aeE{p:Int→Bool}{x:Int}:∀ {l:List Int},x∈l.takeWhile p→p x=true
 | [],h=>by cases h
 | a::l,h=>by
  by_cases ha:p a=true
  ·rw [List.takeWhile_cons_of_pos ha] at h
   rcases List.mem_cons.1 h with rfl | h
   ·exact ha
   ·exact aeE h
  ·rw [List.takeWhile_cons_of_neg ha] at h
   cases h
def tS(acc:List Int)(x:Int):List Int:=if x∈acc then acc else acc.takeWhile (λ y=>decide (y < x))++x::acc.dropWhile (λ y=>decide (y < x))
def qh(l:List Int):List Int:=l.foldl tS []
theorem aB1{acc:List Int}(h:acc.Pairwise (· < ·))(x:Int):(tS acc x).Pairwise (· < ·)∧∀ y,y∈tS acc x↔y∈acc∨y=x:=by
 unfold tS
 split
 ·rename_i hx
  refine ⟨h,λ y=>?_⟩
  constructor
  ·exact .inl
  ·rintro (h | rfl)
   ·exact h
   ·exact hx
 ·rename_i hx
  have e:acc=acc.takeWhile (λ y=>decide (y < x))++acc.dropWhile (λ y=>decide (y < x)):=(List.takeWhile_append_dropWhile).symm
  have h1:∀ y∈acc.takeWhile (λ y=>decide (y < x)),y < x:=λ y hy=>by simpa using aeE hy
  have h2:∀ y∈acc.dropWhile (λ y=>decide (y < x)),x < y:=by
   intro y hy
   have hp:(acc.dropWhile (λ y=>decide (y < x))).Pairwise (· < ·):=List.Pairwise.sublist (List.dropWhile_sublist _) h
   cases hd:acc.dropWhile (λ y=>decide (y < x)) with
   | nil=>rw [hd] at hy; cases hy
   | cons a r =>
    have ha:¬ a < x:=by
     have:=List.head_dropWhile_not (λ y=>decide (y < x)) (l:=acc) (by rw [hd]; simp)
     simp only [hd,List.head_cons] at this
     simpa using this
    have hax:a≠x:=λ hax=>hx (by rw [← hax]; exact (List.dropWhile_sublist _).subset (by rw [hd]; simp))
    rw [hd] at hy hp
    rw [List.pairwise_cons] at hp
    rcases List.mem_cons.1 hy with rfl | hy
    ·omega
    ·have:=hp.1 y hy; omega
  constructor
  ·rw [List.pairwise_append,List.pairwise_cons]
   refine ⟨List.Pairwise.sublist (List.takeWhile_sublist _) h,⟨h2,List.Pairwise.sublist (List.dropWhile_sublist _) h⟩,λ y hy z hz=>?_⟩
   have:=h1 y hy
   rcases List.mem_cons.1 hz with rfl | hz
   ·exact this
   ·have:=h2 z hz; omega
  ·intro y
   rw [List.mem_append,List.mem_cons]
   conv=>rhs; rw [e,List.mem_append]
   constructor
   ·rintro (h | h | h) <;> simp [h]
   ·rintro ((h | h) | h) <;> simp [h]
theorem XN:∀ (l acc:List Int),acc.Pairwise (· < ·)→(l.foldl tS acc).Pairwise (· < ·)∧∀ y,y∈l.foldl tS acc↔y∈acc∨y∈l
 | [],acc,h=>⟨h,λ y=>by simp⟩
 | x::l,acc,h=>by
  obtain ⟨h1,h2⟩:=aB1 h x
  obtain ⟨h3,h4⟩:=XN l (tS acc x) h1
  refine ⟨h3,λ y=>?_⟩
  rw [List.foldl_cons,h4,h2,List.mem_cons]
  constructor
  ·rintro ((h | h) | h) <;> simp [h]
  ·rintro (h | h | h) <;> simp [h]
theorem XM(l:List Int):(qh l).Pairwise (· < ·):=(XN l [] (by simp)).1
theorem La(l:List Int)(y:Int):y∈qh l↔y∈l:=by
 have:=(XN l [] (by simp)).2 y
 simpa [qh] using this
theorem aB2(acc:List Int)(x:Int):(tS acc x).length≤acc.length+1:=by
 unfold tS
 split
 ·omega
 ·have:=congrArg List.length (List.takeWhile_append_dropWhile (p:=λ y=>decide (y < x)) (l:=acc))
  simp only [List.length_append,List.length_cons] at this ⊢
  omega
theorem afE:∀ (l acc:List Int),(l.foldl tS acc).length≤acc.length+l.length
 | [],acc=>by simp
 | x::l,acc=>by
  have h1:=afE l (tS acc x)
  have h2:=aB2 acc x
  rw [List.foldl_cons,List.length_cons]
  omega
theorem aJy(l:List Int):(qh l).length≤l.length:=by
 have:=afE l []
 simpa [qh] using this
theorem aJs{w x:Int}:AP w [x]=min w x:=by
 show (if x < w then x else w)=_
 rw [Int.min_def]
 split <;> split <;> omega
theorem aFu{α:Type}[Inhabited α]{m:List α}{w:Nat}{x:α}(h:w < m.length):nth (m.set w x) w=x:=by
 unfold nth
 rw [List.getD_eq_getElem?_getD,List.getElem?_set_self h]
 rfl
theorem aeN{α:Type}[Inhabited α]{m:List α}{w i:Nat}{x:α}(h:w≠i):nth (m.set w x) i=nth m i:=by
 unfold nth
 rw [List.getD_eq_getElem?_getD,List.getD_eq_getElem?_getD,List.getElem?_set_ne h]
end Go.Lg
namespace Go.Lg
open Go.Conc
section
variable {α:Type}
def lvl(ext:Nat→List α→List α):Nat→List (List α)
 | 0=>[[]]
 | i+1=>(lvl ext i).flatMap λ p=>(ext i p).map λ x=>p++[x]
def tree(ext:Nat→List α→List α):Nat→Nat→List α→List (List α)
 | 0,_,p=>[p]
 | j+1,i,p=>(ext i p).flatMap λ x=>tree ext j (i+1) (p++[x])
theorem ad9(ext:Nat→List α→List α):∀ j i,(lvl ext i).flatMap (tree ext j i)=lvl ext (i+j)
 | 0,i=>by simp [tree]
 | j+1,i=>by
  rw [show i+(j+1)=(i+1)+j by omega,← ad9 ext j (i+1)]
  simp only [lvl,tree,List.flatMap_assoc,List.flatMap_map]
theorem aHW(ext:Nat→List α→List α)(n:Nat):tree ext n 0 []=lvl ext n:=by
 have:=ad9 ext n 0
 rw [Nat.zero_add] at this
 rw [← this]
 simp [lvl]
theorem Xd[Inhabited α]{p q:List α}{i:Nat}(h:i < p.length):nth (p++q) i=nth p i:=by
 unfold nth
 rw [List.getD_eq_getElem?_getD,List.getD_eq_getElem?_getD,List.getElem?_append_left h]
theorem aeM[Inhabited α]{p:List α}{x:α}:nth (p++[x]) p.length=x:=by
 unfold nth
 rw [List.getD_eq_getElem?_getD,List.getElem?_append_right (Nat.le_refl _),Nat.sub_self]
 rfl
theorem aHk[Inhabited α]{r:List α}{n:Nat}(h:r.length=n+1):r=r.take n++[nth r n]:=by
 have h1:n < r.length:=by omega
 have h2:=List.take_succ_eq_append_getElem h1
 rw [List.take_of_length_le (by omega)] at h2
 have h3:=cp h1
 rw [List.getElem?_eq_getElem h1] at h3
 rw [← Option.some.inj h3]
 exact h2
theorem W7[Inhabited α]{ext:Nat→List α→List α}:∀ {n:Nat} {r:List α},r∈lvl ext n↔r.length=n∧∀ i,i < n→nth r i∈ext i (r.take i)
 | 0,r=>by
  simp only [lvl,List.mem_singleton]
  constructor
  ·rintro rfl; exact ⟨rfl,λ i hi=>by omega⟩
  ·rintro ⟨h,_⟩; exact List.length_eq_zero_iff.1 h
 | n+1,r=>by
  simp only [lvl,List.mem_flatMap,List.mem_map]
  constructor
  ·rintro ⟨p,hp,x,hx,rfl⟩
   obtain ⟨h1,h2⟩:=W7.1 hp
   refine ⟨by simp [h1],λ i hi=>?_⟩
   by_cases BC:i < n
   ·rw [Xd (by omega),List.take_append_of_le_length (by omega)]
    exact h2 i BC
   ·obtain rfl:i=p.length:=by omega
    rw [aeM,List.take_append_of_le_length (Nat.le_refl _),List.take_length,h1]
    exact hx
  ·rintro ⟨h1,h2⟩
   refine ⟨r.take n,W7.2 ⟨by simp; omega,λ i hi=>?_⟩,nth r n,h2 n (by omega),(aHk h1).symm⟩
   rw [N4 hi,List.take_take,Nat.min_eq_left (by omega)]
   exact h2 i (by omega)
end
theorem aC9{α β:Type}{l:List α}{m:List β}(f:α→β)(hn:l.Nodup)(hi:∀ x∈l,∀ y∈l,f x=f y→x=y)(hm:∀ x∈l,f x∈m):l.length≤m.length:=by
 classical
 induction l generalizing m with
 | nil=>simp
 | cons a l ih =>
  rw [List.nodup_cons] at hn
  obtain ⟨s,t,rfl⟩:=List.append_of_mem (hm a (by simp))
  have:=ih (m:=s++t) hn.2 (λ x hx y hy=>hi x (by simp [hx]) y (by simp [hy])) (λ x hx=>by
   have h1:=hm x (by simp [hx])
   have h2:f x≠f a:=λ e=>hn.1 (hi x (by simp [hx]) a (by simp) e ▸ hx)
   simp only [List.mem_append,List.mem_cons] at h1 ⊢
   rcases h1 with h1 | h1 | h1
   ·exact .inl h1
   ·exact absurd h1 h2
   ·exact .inr h1)
  simp only [List.length_append,List.length_cons] at this ⊢
  omega
end Go.Lg
namespace Go.Lg
open Go.Conc
theorem ajX{l:List Int}(h:l.Pairwise (· < ·)){i j:Nat}(fC:i < j)(hj:j < l.length):nth l i < nth l j:=by
 rw [List.pairwise_iff_getElem] at h
 have:=h i j (by omega) hj fC
 have e1:=cp (l:=l) (i:=i) (by omega)
 have e2:=cp hj
 rw [List.getElem?_eq_getElem (by omega)] at e1
 rw [List.getElem?_eq_getElem hj] at e2
 rw [Option.some.inj e1,Option.some.inj e2] at this
 exact this
end Go.Lg
namespace Go.Lg
open Go.Conc
section
variable {α O:Type} [Inhabited α]
theorem akV{l:List α}{i:Nat}(h:i < l.length):l.drop i=nth l i::l.drop (i+1):=by
 rw [List.drop_eq_getElem_cons h]
 have h3:=cp h
 rw [List.getElem?_eq_getElem h] at h3
 rw [Option.some.inj h3]
theorem aDd{l:List α}(p:α→Bool)(g:Nat→α→O){body:Int→Option (Int ⊕ (Unit ⊕ O))} (h:∀ i,i < l.length→body (i:Int)=some (if p (nth l i)=true then .inr (.inr (g i (nth l i))) else .inl ((i+1:Nat):Int)))
  (hn:body (l.length:Int)=some (.inr (.inl ()))) {o:Unit ⊕ O} (ho:(∀ i,i < l.length→p (nth l i)=true→(∀ j,j < i→p (nth l j)=false)→o = .inr (g i (nth l i)))∧((∀ x∈l,p x=false)→o = .inl ())):bH body 0=some o:=by
 have key:∀ k i,i+k=l.length→(∀ j,j < i→p (nth l j)=false)→bH body (i:Int)=some o:=by
  intro k
  induction k with
  | zero =>
   intro i hi hb
   obtain rfl:i=l.length:=by omega
   rw [ho.2 λ x hx=>by obtain ⟨j,hj,rfl⟩:=xJ hx; exact hb j hj]
   exact lR hn
  | succ k ih =>
   intro i hi hb
   have MK:=h i (by omega)
   cases hp:p (nth l i) with
   | true =>
    rw [hp,if_pos rfl] at MK
    rw [ho.1 i (by omega) hp hb]
    exact lR MK
   | false =>
    rw [hp,if_neg (by simp)] at MK
    rw [vF MK]
    exact ih (i+1) (by omega) λ j hj=>by
     by_cases e:j=i
     ·subst e; exact hp
     ·exact hb j (by omega)
 exact key l.length 0 (by omega) λ j hj=>by omega
theorem aJm{l:List α}(p:α→Bool)(g:α→O){body:Int→Option (Int ⊕ (Unit ⊕ O))} (h:∀ i,i < l.length→body (i:Int)=some (if p (nth l i)=true then .inr (.inr (g (nth l i))) else .inl ((i+1:Nat):Int)))
  (hn:body (l.length:Int)=some (.inr (.inl ()))):bH body 0=some (match l.find? p with | some x=>.inr (g x) | none=>.inl ()):=by
 refine aDd p (λ _ x=>g x) h hn ⟨λ i hi hp hb=>?_,λ hb=>?_⟩
 ·have:l.find? p=some (nth l i):=by
   rw [List.find?_eq_some_iff_append]
   refine ⟨hp,l.take i,l.drop (i+1),?_,λ x hx=>?_⟩
   ·rw [← akV hi,List.take_append_drop]
   ·obtain ⟨j,hj,rfl⟩:=xJ hx
    have:j < i:=by simp at hj; omega
    rw [N4 this,hb j this]; rfl
  rw [this]
 ·have:l.find? p=none:=by
   rw [List.find?_eq_none]
   intro x hx
   rw [hb x hx]; simp
  rw [this]
end
end Go.Lg
