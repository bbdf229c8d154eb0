/- Plain laws of chapter 6. Conditions: none. -/
import Derived.Test.YtabamagholjdcaaGreatDoorQHHuC
import Derived.Test.YtabamagholjdcaaGreatDoorQHHuM
namespace Go.Proofs.YtabamagholjdcaaGreatDoor
open Go.Lg Go.Proofs
set_option maxRecDepth 10000
theorem tv{S O:Type}{body:S→Option (S ⊕ O)}(st:Nat→S)(n:Nat){o:O}(h:∀ i,i < n→body (st i)=some (.inl (st (i+1))))(hn:body (st n)=some (.inr o)):bd body (st 0)=some o:=by
 have key:∀ k,k≤n→bd body (st (n - k))=some o:=by
  intro k
  induction k with
  | zero=>intro _; exact gW hn
  | succ k ih =>
   intro hk
   rw [si (h (n - (k+1)) (by omega)),show n - (k+1)+1=n - k by omega]
   exact ih (by omega)
 have:=key n (Nat.le_refl _)
 rwa [Nat.sub_self] at this
def ez{O:Type}(e:Nat→Option O):Nat→Nat→Option O
 | _,0=>none
 | i,k+1=>match e i with | some o=>some o | none=>ez e (i+1) k
def ahS{S O:Type}(s:S):Option O→S ⊕ O
 | some o=>.inr o
 | none=>.inl s
theorem agD{S O:Type}{body:S→Option (S ⊕ O)}(st:Nat→S)(e:Nat→Option O)(i0 n:Nat){o:O}(h:∀ i,i0≤i→i < n→body (st i)=some (ahS (st (i+1)) (e i)))(hn:body (st n)=some (.inr o))(h0:i0≤n):bd body (st i0)=some ((ez e i0 (n - i0)).getD o):=by
 have key:∀ k,k≤n - i0→bd body (st (n - k))=some ((ez e (n - k) k).getD o):=by
  intro k
  induction k with
  | zero=>intro _; exact gW hn
  | succ k ih =>
   intro hk
   have hb:=h (n - (k+1)) (by omega) (by omega)
   unfold ez
   cases he:e (n - (k+1)) with
   | some o' =>
    rw [he] at hb
    exact gW hb
   | none =>
    rw [he] at hb
    rw [si hb,show n - (k+1)+1=n - k by omega]
    exact ih (by omega)
 have:=key (n - i0) (Nat.le_refl _)
 rwa [show n - (n - i0)=i0 by omega] at this
theorem aHZ{S O:Type}{body:S→Option (S ⊕ O)}(st:Nat→S)(e:Nat→Option O)(n:Nat){o:O}(h:∀ i,i < n→body (st i)=some (ahS (st (i+1)) (e i)))(hn:body (st n)=some (.inr o)):bd body (st 0)=some ((ez e 0 n).getD o):=by
 simpa using agD st e 0 n (λ i _ hi=>h i hi) hn (Nat.zero_le _)
theorem uZ{O:Type}{e:Nat→Option O}:∀ {k i:Nat},ez e i k=none↔∀ j,i≤j→j < i+k→e j=none
 | 0,i=>by simp [ez]; omega
 | k+1,i=>by
  unfold ez
  cases he:e i with
  | some o=>simp; exact ⟨i,Nat.le_refl _,by omega,by rw [he]; simp⟩
  | none =>
   simp only
   rw [uZ]
   constructor
   ·intro h j h1 h2
    by_cases hj:j=i
    ·subst hj; exact he
    ·exact h j (by omega) (by omega)
   ·intro h j h1 h2; exact h j (by omega) (by omega)
theorem yA{O:Type}{e:Nat→Option O}:∀ {k i:Nat} {o:O},ez e i k=some o→∃ j,i≤j∧j < i+k∧e j=some o∧∀ m,i≤m→m < j→e m=none
 | 0,i,o,h=>by cases h
 | k+1,i,o,h=>by
  unfold ez at h
  cases he:e i with
  | some o'=>rw [he] at h; cases h; exact ⟨i,Nat.le_refl _,by omega,he,λ m h1 h2=>by omega⟩
  | none =>
   rw [he] at h
   obtain ⟨j,h1,h2,h3,h4⟩:=yA h
   refine ⟨j,by omega,by omega,h3,λ m OJ Me=>?_⟩
   by_cases hm:m=i
   ·subst hm; exact he
   ·exact h4 m (by omega) Me
@[simp] theorem bw {α:Type} {a b:Option α}:ae true a b=a:=rfl
@[simp] theorem bm {α:Type} {a b:Option α}:ae false a b=b:=rfl
@[simp] theorem cj {α:Type} (xs:List α) (k:Nat):idx xs (k:Int)=xs[k]? := by simp [idx]
theorem dR{z:Int}(h1 : -4611686018427387904≤z)(h2:z≤4611686018427387904):i64 z=z:=Zg (by omega)
theorem cK{i:Nat}(h:i≤1000000000):i64 ((i:Int)+1)=((i+1:Nat):Int):=by rw [dR (by omega) (by omega)]; omega
theorem jJ{i:Nat}(h:i≤1000000000)(h0:0 < i):i64 ((i:Int) - 1)=((i - 1:Nat):Int):=by rw [dR (by omega) (by omega)]; omega
theorem Md{α:Type}{xs:List α}{k:Nat}(h:k≤xs.length):gQ xs 0 (k:Int)=some (xs.take k):=by simp [gQ,h]
theorem mb{α:Type}{xs ys:List α}(h:xs.length+ys.length≤16777216):cV xs ys=some (xs++ys):=by simp [cV,h]
def dO(n a c:Int):Bool:=decide (a≤n) && decide (n≤c)
theorem yF(n a c:Int):mA n a c=some (dO n a c):=by
 unfold mA dO
 cases decide (a≤n) <;> rfl
theorem wh(n a c:Int):lp n a c=some (dO n a c):=by
 unfold lp dO
 cases decide (a≤n) <;> rfl
def mX(x:Reach)(a c:Int):Bool:=decide (a≤x.ai) && (decide (x.ai≤x.ak) && decide (x.ak≤c))
theorem agL(x:Reach)(a c:Int):Gg x a c=some (mX x a c):=by
 unfold Gg mX
 cases decide (a≤x.ai) <;> cases decide (x.ai≤x.ak) <;> rfl
def nM(x:Reach)(w:Int):Bool:=decide (x.ak - x.ai < w)
theorem aiG{x:Reach}{a c:Int}(ha : -1000000≤a)(hc:c≤1000000)(h:mX x a c=true):i64 (x.ak - x.ai)=x.ak - x.ai:=by
 simp only [mX,Bool.and_eq_true,decide_eq_true_eq] at h
 exact dR (by omega) (by omega)
theorem aco{x:Reach}{a c w:Int}(ha : -1000000≤a)(hc:c≤1000000):xC x a c w=some (mX x a c && nM x w):=by
 unfold xC mX nM
 by_cases h1:a≤x.ai
 ·by_cases h2:x.ai≤x.ak
  ·by_cases h3:x.ak≤c
   ·simp [h1,h2,h3,dR (z:=x.ak - x.ai) (by omega) (by omega)]
   ·simp [h1,h2,h3]
  ·simp [h1,h2]
 ·simp [h1]
def nth{α:Type}[Inhabited α](l:List α)(i:Nat):α:=l.getD i default
theorem bz{α:Type}[Inhabited α]{l:List α}{i:Nat}(h:i < l.length):l[i]? = some (nth l i):=by
 unfold nth
 rw [List.getD_eq_getElem?_getD,List.getElem?_eq_getElem h]; rfl
theorem iZ{α:Type}[Inhabited α]{l:List α}{i:Nat}(h:i < l.length):nth l i∈l:=List.mem_of_getElem? (bz h)
theorem Bp{α:Type}[Inhabited α]{l:List α}{x:α}(h:x∈l):∃ i,i < l.length∧nth l i=x:=by
 obtain ⟨i,hi,rfl⟩:=List.mem_iff_getElem.1 h
 refine ⟨i,hi,?_⟩
 have:=bz hi
 rw [List.getElem?_eq_getElem hi] at this
 exact (Option.some.inj this).symm
theorem alF{α:Type}[Inhabited α]{l m:List α}(h:l.length=m.length)(he:∀ i,i < l.length→nth l i=nth m i):l=m:=by
 apply List.ext_getElem?
 intro i
 by_cases hi:i < l.length
 ·rw [bz hi,bz (h ▸ hi),he i hi]
 ·rw [List.getElem?_eq_none (by omega),List.getElem?_eq_none (by omega)]
theorem abS{α:Type}[Inhabited α]{l:List α}{i k:Nat}(h:i < k):nth (l.take k) i=nth l i:=by
 unfold nth
 rw [List.getD_eq_getElem?_getD,List.getD_eq_getElem?_getD,List.getElem?_take_of_lt h]
instance:Inhabited cE:=⟨⟨⟨#[]⟩,0,⟨0,0⟩,[]⟩⟩
instance:Inhabited bV:=⟨⟨0,0⟩⟩
theorem gp{S O β:Type}{body:S→Option (S ⊕ O)}{s:S}{o:O}{f:O→Option β}(h:bd body s=some o):(bd body s).bind f=f o:=by rw [h]; rfl
theorem dec_lt{i:Nat}{n:Nat}(h:i < n):decide ((i:Int) < (n:Int))=true:=by simpa using h
theorem a55{i:Nat}{n:Nat}(h:i≤n):decide ((i:Int)≤(n:Int))=true:=by simpa using h
theorem fh{n:Nat}:decide ((n:Int) < (n:Int))=false:=by simp
theorem a56{n:Nat}:decide (((n+1:Nat):Int)≤(n:Int))=false:=by simp; omega
theorem T4{i:Nat}(h:0 < i):decide ((i:Int) > 0)=true:=by simpa using h
theorem apf{i:Nat}(h:¬ 0 < i):decide ((i:Int) > 0)=false:=by simpa using h
theorem apl{O:Type}{f:Option O}{g:Unit→Option O}{d:O}(hd:g ()=some d):Sum.elim g (λ q=>some q) (((f.map Sum.inr).getD (.inl ())):Unit ⊕ O)=some (f.getD d):=by
 cases f with
 | none=>exact hd
 | some o=>rfl
theorem UD{O Q:Type}(g:O→Q)(e:Nat→Option O):∀ (k i:Nat),ez (λ j=>(e j).map g) i k=(ez e i k).map g
 | 0,_=>rfl
 | k+1,i=>by
  unfold ez
  cases e i with
  | none=>exact UD g e k (i+1)
  | some o=>rfl
theorem search{O:Type}{body:Int→Option (Int ⊕ (Unit ⊕ O))}(e:Nat→Option O)(i0 n:Nat){d:O}{g:Unit→Option O}(h:∀ i,i0≤i→i < n→body (i:Int)=some (match e i with | some o=>.inr (.inr o) | none=>.inl ((i+1:Nat):Int)))(hn:body (n:Int)=some (.inr (.inl ())))(h0:i0≤n)(hd:g ()=some d) :
  (bd body (i0:Int)).bind (Sum.elim g λ q=>some q)=some ((ez e i0 (n - i0)).getD d):=by
 refine (gp (agD (λ i=>(i:Int)) (λ i=>(e i).map Sum.inr) i0 n (o:=.inl ()) (λ i h1 h2=>?_) hn h0)).trans ?_
 ·rw [h i h1 h2]
  cases e i <;> rfl
 ·rw [UD]
  exact apl hd
theorem nB{O:Type}{body:Int→Option (Int ⊕ (Unit ⊕ O))}(e:Nat→Option O)(n:Nat){d:O}{g:Unit→Option O}(h:∀ i,i < n→body (i:Int)=some (match e i with | some o=>.inr (.inr o) | none=>.inl ((i+1:Nat):Int)))(hn:body (n:Int)=some (.inr (.inl ())))(hd:g ()=some d) :
  (bd body 0).bind (Sum.elim g λ q=>some q)=some ((ez e 0 n).getD d):=search e 0 n (λ i _ hi=>h i hi) hn (Nat.zero_le _) hd
def yz(l:List Int)(below:Int)(i:Nat):Option Int :=
 if dO (nth l i) 0 (below - 1)=false then some 6 else if 0 < i then (if nth l i≤nth l (i - 1) then some 7 else none) else none
def kQ(l:List Int)(below:Int):Int:=(ez (yz l below) 0 l.length).getD 0
theorem abQ{l:List Int}{below:Int}(hl:l.length≤1000)(h0:0≤below)(h1:below≤1000):xE l below=some (kQ l below):=by
 unfold xE
 refine nB (yz l below) l.length (λ i hi=>?_) (by simp only [fh,bm]) rfl
 simp only [dec_lt hi,bw,cj,bz hi,Option.bind_some,yF,dR (z:=below - 1) (by omega) (by omega),cK (i:=i) (by omega)]
 unfold yz
 cases dO (nth l i) 0 (below - 1) with
 | false=>rfl
 | true =>
  by_cases hp:0 < i
  ·simp only [T4 hp,Bool.not_true,bm,bw,jJ (i:=i) (by omega) hp,cj,bz (show i - 1 < l.length by omega),Option.bind_some,hp,if_true,Bool.true_eq_false,if_false]
   by_cases hc:nth l i≤nth l (i - 1) <;> simp [hc]
  ·simp [hp]
theorem ak3{l:List Int}{below:Int}(hl:l.length≤1000)(h0:0≤below)(h1:below≤1000):DW l below=some (kQ l below):=by
 unfold DW
 refine nB (yz l below) l.length (λ i hi=>?_) (by simp only [fh,bm]) rfl
 simp only [dec_lt hi,bw,cj,bz hi,Option.bind_some,wh,dR (z:=below - 1) (by omega) (by omega),cK (i:=i) (by omega)]
 unfold yz
 cases dO (nth l i) 0 (below - 1) with
 | false=>rfl
 | true =>
  by_cases hp:0 < i
  ·simp only [T4 hp,Bool.not_true,bm,bw,jJ (i:=i) (by omega) hp,cj,bz (show i - 1 < l.length by omega),Option.bind_some,hp,if_true,Bool.true_eq_false,if_false]
   by_cases hc:nth l i≤nth l (i - 1) <;> simp [hc]
  ·simp [hp]
theorem UE{α:Type}[Inhabited α](p:α→Bool)(l:List α):(ez (λ i=>if p (nth l i) then some true else none) 0 l.length).getD false=l.any p:=by
 cases h:ez (λ i=>if p (nth l i) then some true else none) 0 l.length with
 | none =>
  rw [uZ] at h
  symm
  rw [Option.getD_none,List.any_eq_false]
  intro x hx
  obtain ⟨i,hi,rfl⟩:=Bp hx
  have:=h i (Nat.zero_le _) (by omega)
  simpa using this
 | some o =>
  obtain ⟨j,_,hj,he,_⟩:=yA h
  split at he
  ·rename_i hp
   cases he
   symm
   rw [Option.getD_some,List.any_eq_true]
   exact ⟨nth l j,iZ (by omega),hp⟩
  ·cases he
theorem aot(l:List Int)(n:Int):(l.any λ x=>n == x)=l.contains n:=by
 rw [Bool.eq_iff_iff,List.any_eq_true,List.contains_iff_mem]
 constructor
 ·rintro ⟨x,hx,h⟩
  rw [beq_iff_eq] at h; subst h; exact hx
 ·intro h; exact ⟨n,h,by simp⟩
theorem aos(l:List Int)(n:Int):(l.any λ x=>x == n)=l.contains n:=by
 rw [Bool.eq_iff_iff,List.any_eq_true,List.contains_iff_mem]
 constructor
 ·rintro ⟨x,hx,h⟩
  rw [beq_iff_eq] at h; subst h; exact hx
 ·intro h; exact ⟨n,h,by simp⟩
theorem KZ{l:List Int}{n:Int}(hl:l.length≤1000):nP l n=some (l.contains n):=by
 unfold nP
 refine (nB (λ i=>if (nth l i == n) then some true else none) l.length (d:=false) (λ i hi=>?_) (by simp only [fh,bm]) rfl).trans ?_
 ·simp only [dec_lt hi,bw,cj,bz hi,Option.bind_some,cK (i:=i) (by omega)]
  cases nth l i == n <;> rfl
 ·rw [UE (λ x=>x == n) l]
  rw [aos]
theorem Od{α:Type}[Inhabited α](p:α→Bool)(l:List α):decide ((ez (λ i=>if p (nth l i) then some (i:Int) else none) 0 l.length).getD (-1) ≥ 0)=l.any p:=by
 rw [← UE p l]
 cases h:ez (λ i=>if p (nth l i) then some (i:Int) else none) 0 l.length with
 | none =>
  rw [uZ] at h
  have:ez (λ i=>if p (nth l i) then some true else none) 0 l.length=none:=by
   rw [uZ]
   intro j h1 h2
   have:=h j h1 h2
   cases hp:p (nth l j) with
   | true=>rw [hp] at this; cases this
   | false=>rfl
  rw [this]; rfl
 | some o =>
  obtain ⟨j,h1,h2,h3,h4⟩:=yA h
  split at h3
  ·rename_i hp
   cases h3
   have:ez (λ i=>if p (nth l i) then some true else none) 0 l.length=some true:=by
    cases hf:ez (λ i=>if p (nth l i) then some true else none) 0 l.length with
    | none=>rw [uZ] at hf; have:=hf j h1 h2; rw [if_pos hp] at this; cases this
    | some b =>
     obtain ⟨_,_,_,hb,_⟩:=yA hf
     split at hb
     ·cases hb; rfl
     ·cases hb
   rw [this]
   simp
  ·cases h3
theorem aIN{l:List Int}{n:Int}(hl:l.length≤1000):DK l n=some (l.contains n):=by
 unfold DK Gp
 rw [nB (λ i=>if (n == nth l i) then some (i:Int) else none) l.length (d:=(-1)) (λ i hi=>?_) (by simp only [fh,bm]) rfl]
 ·rw [Option.bind_some,Od (λ x=>n == x) l]
  rw [aot]
 ·simp only [dec_lt hi,bw,cj,bz hi,Option.bind_some,cK (i:=i) (by omega)]
  cases n == nth l i <;> rfl
theorem alA{l:List Int}{f:Int→Option Bool}{p:Int→Bool}(hl:l.length≤1000)(hf:∀ x∈l,f x=some (p x)):Ab l f=some (l.any p):=by
 unfold Ab Gk
 rw [nB (λ i=>if p (nth l i) then some (i:Int) else none) l.length (d:=(-1)) (λ i hi=>?_) (by simp only [fh,bm]) rfl]
 ·rw [Option.bind_some,Od p l]
 ·simp only [dec_lt hi,bw,cj,bz hi,Option.bind_some,hf _ (iZ hi),cK (i:=i) (by omega)]
  cases p (nth l i) <;> rfl
theorem aJl{l:List cE}{f:cE→Option Bool}{p:cE→Bool}(hl:l.length≤1000)(hf:∀ x∈l,f x=some (p x)):DT l f=some (l.any p):=by
 unfold DT Gr
 rw [nB (λ i=>if p (nth l i) then some (i:Int) else none) l.length (d:=(-1)) (λ i hi=>?_) (by simp only [fh,bm]) rfl]
 ·rw [Option.bind_some,Od p l]
 ·simp only [dec_lt hi,bw,cj,bz hi,Option.bind_some,hf _ (iZ hi),cK (i:=i) (by omega)]
  cases p (nth l i) <;> rfl
theorem aIy{l:List bV}{f:bV→Option Bool}{p:bV→Bool}(hl:l.length≤1000)(hf:∀ x∈l,f x=some (p x)):DF l f=some (l.any p):=by
 unfold DF Gm
 rw [nB (λ i=>if p (nth l i) then some (i:Int) else none) l.length (d:=(-1)) (λ i hi=>?_) (by simp only [fh,bm]) rfl]
 ·rw [Option.bind_some,Od p l]
 ·simp only [dec_lt hi,bw,cj,bz hi,Option.bind_some,hf _ (iZ hi),cK (i:=i) (by omega)]
  cases p (nth l i) <;> rfl
end Go.Proofs.YtabamagholjdcaaGreatDoor
namespace Go.Proofs.YtabamagholjdcaaGreatDoor
open Go.Lg Go.Proofs
set_option maxRecDepth 10000
theorem alI{O:Type}{body:Int→Option (Int ⊕ (Unit ⊕ O))}(e:Nat→Option O)(n:Nat)(h:∀ i,i < n→body (i:Int)=some (match e i with | some o=>.inr (.inr o) | none=>.inl ((i+1:Nat):Int)))(hn:body (n:Int)=some (.inr (.inl ()))) :
  bd body 0=some (match ez e 0 n with | some o=>.inr o | none=>.inl ()):=by
 refine (aHZ (λ i=>(i:Int)) (λ i=>(e i).map Sum.inr) n (o:=.inl ()) (λ i hi=>?_) hn).trans ?_
 ·rw [h i hi]
  cases e i <;> rfl
 ·rw [UD]
  cases ez e 0 n <;> rfl
theorem ary{α O:Type}[Inhabited α](p:α→Bool)(c:O)(l:List α)(n:Nat)(hn:n≤l.length):ez (λ k=>if p (nth l k) then some c else none) 0 n=if (l.take n).any p then some c else none:=by
 cases h:ez (λ k=>if p (nth l k) then some c else none) 0 n with
 | none =>
  rw [uZ] at h
  have:(l.take n).any p=false:=by
   rw [List.any_eq_false]
   intro x hx
   obtain ⟨i,hi,rfl⟩:=Bp hx
   have rB:i < n:=by simp at hi; omega
   rw [abS rB]
   have:=h i (Nat.zero_le _) (by omega)
   simpa using this
  rw [this]; rfl
 | some o =>
  obtain ⟨j,_,hj,he,_⟩:=yA h
  split at he
  ·rename_i hp
   cases he
   have:(l.take n).any p=true:=by
    rw [List.any_eq_true]
    refine ⟨nth l j,?_,hp⟩
    rw [← abS (l:=l) (show j < n by omega)]
    exact iZ (by simp; omega)
   rw [this]; rfl
  ·cases he
theorem collect{α:Type}{body:List α × Int→Option ((List α × Int) ⊕ List α)}(g:Nat→Option α)(n:Nat) (h:∀ i acc,i < n→acc.length≤i→body (acc,(i:Int))=some (.inl (acc++(g i).toList,((i+1:Nat):Int)))) (hn:∀ acc,body (acc,(n:Int))=some (.inr acc)) :
  bd body ([],0)=some ((List.range n).filterMap g):=by
 refine (tv (λ i=>((List.range i).filterMap g,(i:Int))) n (λ i hi=>?_) (hn _):bd body ([],(0:Int))=_)
 have hl:((List.range i).filterMap g).length≤i:=by
  have:=List.length_filterMap_le g (List.range i)
  simpa using this
 rw [h i _ hi hl,List.range_succ,List.filterMap_append,show List.filterMap g [i]=(g i).toList by cases hg:g i <;> simp [hg]]
structure Small (b:aj):Prop where
 pieces:b.ao.length≤20
 out:b.Out.length≤20
 EM:b.aT.length≤20
 each:∀ p∈b.ao,p.Name.size≤100∧p.On.length≤20
def EL(b:aj):Bool :=
 decide (20 < b.ao.length) || (decide (20 < b.Out.length) || (decide (20 < b.aT.length) || b.ao.any λ p=>decide (100 < p.Name.size) || decide (20 < p.On.length)))
theorem BZ{n m:Nat}:decide ((n:Int) > (m:Int))=decide (m < n):=by
 by_cases h:m < n <;> simp [h]
theorem aI6(b:aj):Gn b=some (EL b):=by
 unfold Gn EL
 have e1:decide ((b.ao.length:Int) > 20)=decide (20 < b.ao.length):=BZ (m:=20)
 have e2:decide ((b.Out.length:Int) > 20)=decide (20 < b.Out.length):=BZ (m:=20)
 have e3:decide ((b.aT.length:Int) > 20)=decide (20 < b.aT.length):=BZ (m:=20)
 rw [e1,e2,e3]
 by_cases h1:20 < b.ao.length
 ·simp [h1]
 by_cases h2:20 < b.Out.length
 ·simp [h1,h2]
 by_cases h3:20 < b.aT.length
 ·simp [h1,h2,h3]
 simp only [h1,h2,h3,decide_false,bm,Option.bind_some,Bool.false_or]
 rw [nB (λ i=>if (decide (100 < (nth b.ao i).Name.size) || decide (20 < (nth b.ao i).On.length)) then some true else none) b.ao.length (d:=false) (λ i hi=>?_) (by simp only [fh,bm]) rfl]
 ·rw [UE (λ p:cE=>decide (100 < p.Name.size) || decide (20 < p.On.length)) b.ao]
 ·have f1:decide (((nth b.ao i).Name.size:Int) > 100)=decide (100 < (nth b.ao i).Name.size):=BZ (m:=100)
  have f2:decide (((nth b.ao i).On.length:Int) > 20)=decide (20 < (nth b.ao i).On.length):=BZ (m:=20)
  simp only [dec_lt hi,bw,cj,bz hi,Option.bind_some,f1,f2,cK (i:=i) (by omega)]
  cases decide (100 < (nth b.ao i).Name.size) <;> cases decide (20 < (nth b.ao i).On.length) <;> rfl
theorem ajg{b:aj}(h:EL b=false):Small b:=by
 simp only [EL,Bool.or_eq_false_iff,decide_eq_false_iff_not,List.any_eq_false,Bool.not_eq_true] at h
 obtain ⟨h1,h2,h3,h4⟩:=h
 refine ⟨by omega,by omega,by omega,λ p hp=>?_⟩
 have:=h4 p hp
 omega
def isLet(n:Int):Bool:=dO n 97 122
def KI(n:Int):Bool:=dO n 48 57
theorem P8(s:ByteArray):(fI s).length=s.size:=by simp [fI]
theorem aaF{s:ByteArray}{i:Nat}(h:i < s.size):0≤nth (fI s) i∧nth (fI s) i < 256:=by
 have hm:nth (fI s) i∈fI s:=iZ (by rw [P8]; exact h)
 unfold fI at hm
 obtain ⟨b,_,hb⟩:=List.mem_map.1 hm
 unfold fI
 rw [← hb]
 have:=b.toNat_lt
 omega
def qB(s:ByteArray)(i:Nat):Option Bool:=if isLet (nth (fI s) i)=false then (if i=0 then some false else if KI (nth (fI s) i)=false then some false else none) else none
def Bu(s:ByteArray):Bool:=(ez (qB s) 0 s.size).getD (dO (s.size:Int) 1 12)
theorem aJj{s:ByteArray}(hs:s.size≤1000):DS s=some (Bu s):=by
 unfold DS Bu
 have e:=P8 s
 rw [e]
 refine nB (qB s) s.size (λ i hi=>?_) (by simp only [fh,bm]) (by rw [yF]; rfl)
 have rB:i < (fI s).length:=by omega
 obtain ⟨h1,h2⟩:=aaF hi
 simp only [dec_lt hi,bw,cj,bz rB,Option.bind_some,yF,dR (z:=nth (fI s) i) (by omega) (by omega),cK (i:=i) (by omega)]
 unfold qB isLet KI
 cases dO (nth (fI s) i) 97 122 with
 | true=>rfl
 | false =>
  by_cases h0:i=0
  ·subst h0; rfl
  ·have:((i:Int) == 0)=false:=by simpa using h0
   simp only [this,Bool.not_false,bw,bm,h0,if_false,if_true]
   cases dO (nth (fI s) i) 48 57 <;> rfl
theorem agW{n:Int}(h1:0≤n)(h2:n < 256):DJ n=some (isLet n):=by unfold DJ isLet; rw [dR (by omega) (by omega),wh]; rfl
theorem aIK{n:Int}(h1:0≤n)(h2:n < 256):Gl n=some (KI n):=by unfold Gl KI; rw [dR (by omega) (by omega),wh]; rfl
theorem aG8{s:ByteArray}{k i:Nat}{o:Bool}(h:ez (qB s) i k=some o):o=false:=by
 obtain ⟨j,_,_,he,_⟩:=yA h
 unfold qB at he
 split at he
 ·split at he
  ·cases he; rfl
  ·split at he
   ·cases he; rfl
   ·cases he
 ·cases he
theorem aIw{s:ByteArray}(hs:s.size≤1000):KW s=some (Bu s):=by
 unfold KW Bu
 rw [wh,Option.bind_some]
 cases hb:dO (s.size:Int) 1 12 with
 | false =>
  simp only [Bool.not_false,bw,Option.bind_some]
  congr 1
  cases hf:ez (qB s) 0 s.size with
  | none=>rfl
  | some o=>rw [aG8 hf]; rfl
 | true =>
  have h1:1≤s.size:=by
   simp only [dO,Bool.and_eq_true,decide_eq_true_eq] at hb
   omega
  have rB:0 < (fI s).length:=by rw [P8]; omega
  obtain ⟨g1,g2⟩:=aaF (s:=s) (i:=0) (by omega)
  have H8:tW s 0=some (nth (fI s) 0):=by unfold tW; rw [← bz rB]; exact cj _ 0
  simp only [Bool.not_true,bm,H8,Option.bind_some,agW g1 g2]
  have hu:ez (qB s) 0 s.size=match qB s 0 with | some o=>some o | none=>ez (qB s) 1 (s.size - 1):=by
   obtain ⟨k,hk⟩:∃ k,s.size=k+1:=⟨s.size - 1,by omega⟩
   rw [hk]
   simp only [ez,Nat.add_sub_cancel,Nat.zero_add]
   cases qB s 0 <;> rfl
  rw [hu]
  unfold qB
  cases hl:isLet (nth (fI s) 0) with
  | false=>rfl
  | true =>
   simp only [Bool.not_true,bm,Bool.true_eq_false,if_false]
   have e2:=search (body:=λ (pv:Int) =>
    ae (decide (pv < (s.size:Int)))
    ((tW s pv).bind λ jx =>
    (DJ jx).bind λ pU =>
    ae (!pU)
    ((tW s pv).bind λ l7 =>
    (Gl l7).bind λ wC =>
    ae (!wC)
    (some (.inr (.inr false)))
    (some (.inl (i64 (pv+1)))))
    (some (.inl (i64 (pv+1)))))
    (some (.inr (.inl ())))) (qB s) 1 s.size (d:=true) (g:=λ _=>some true) (λ i hi1 hi=>?_) (by simp only [fh,bm]) h1 rfl
   ·exact e2
   ·have EN:i < (fI s).length:=by rw [P8]; exact hi
    obtain ⟨k1,k2⟩:=aaF hi
    have WR:tW s (i:Int)=some (nth (fI s) i):=by unfold tW; rw [← bz EN]; exact cj _ i
    simp only [dec_lt hi,bw,WR,Option.bind_some,agW k1 k2,aIK k1 k2,cK (i:=i) (by omega)]
    have h0:i≠0:=by omega
    unfold qB
    cases isLet (nth (fI s) i) with
    | true=>rfl
    | false =>
     simp only [Bool.not_false,bw,h0,if_false,if_true]
     cases KI (nth (fI s) i) <;> rfl
def wA(p q:cE):Bool:=q.Name.toList == p.Name.toList
def wy(b:aj)(i:Nat):Option Int :=
 if Bu (nth b.ao i).Name=false then some 4
 else if (b.ao.take i).any (wA (nth b.ao i))=true then some 5
 else if (dO (nth b.ao i).dJ (-9) 9 && (mX (nth b.ao i).Weight 1 99 && nM (nth b.ao i).Weight 3))=false then some 1
 else if kQ (nth b.ao i).On (i:Int)≠0 then some (kQ (nth b.ao i).On (i:Int)) else none
def oF(b:aj):Int:=if dO (b.ao.length:Int) 1 5=false then 2 else (ez (wy b) 0 b.ao.length).getD 0
theorem aJd{b:aj}(h:Small b):DO b=some (oF b):=by
 unfold DO oF
 rw [yF,Option.bind_some]
 cases dO (b.ao.length:Int) 1 5 with
 | false=>rfl
 | true =>
  simp only [Bool.not_true,bm,Bool.true_eq_false,if_false]
  have hp:=h.pieces
  refine nB (wy b) b.ao.length (λ i hi=>?_) (by simp only [fh,bm]) rfl
  obtain ⟨hn,ho⟩:=h.each _ (iZ hi)
  simp only [dec_lt hi,bw,cj,bz hi,Option.bind_some,aJj (show (nth b.ao i).Name.size≤1000 by omega),Md (show i≤b.ao.length by omega),aco (x:=(nth b.ao i).Weight) (a:=1) (c:=99) (w:=3) (by omega) (by omega),yF,
   aJl (l:=b.ao.take i) (f:=λ y=>DU y (nth b.ao i)) (p:=wA (nth b.ao i)) (by simp; omega) (λ x _=>rfl),abQ (l:=(nth b.ao i).On) (below:=(i:Int)) (by omega) (by omega) (by omega),cK (i:=i) (by omega)]
  unfold wy
  cases Bu (nth b.ao i).Name with
  | false=>rfl
  | true =>
   cases (b.ao.take i).any (wA (nth b.ao i)) with
   | true=>rfl
   | false =>
    cases dO (nth b.ao i).dJ (-9) 9 with
    | false=>rfl
    | true =>
     cases (mX (nth b.ao i).Weight 1 99 && nM (nth b.ao i).Weight 3) with
     | false=>rfl
     | true =>
      by_cases hc:kQ (nth b.ao i).On (i:Int)=0
      ·simp [hc]
      ·have:(kQ (nth b.ao i).On (i:Int) != 0)=true:=by simpa using hc
       simp [hc,this]
theorem aIf{b:aj}(h:Small b):KU b=some (oF b):=by
 unfold KU oF
 rw [wh,Option.bind_some]
 cases dO (b.ao.length:Int) 1 5 with
 | false=>rfl
 | true =>
  simp only [Bool.not_true,bm,Bool.true_eq_false,if_false]
  have hp:=h.pieces
  refine nB (wy b) b.ao.length (λ i hi=>?_) (by simp only [fh,bm]) rfl
  obtain ⟨hn,ho⟩:=h.each _ (iZ hi)
  simp only [dec_lt hi,bw,cj,bz hi,Option.bind_some,aIw (show (nth b.ao i).Name.size≤1000 by omega)]
  rw [alI (λ k=>if wA (nth b.ao i) (nth b.ao k) then some (5:Int) else none) i (λ k hk=>?_) (by simp only [fh,bm])]
  ·rw [ary (wA (nth b.ao i)) (5:Int) b.ao i (by omega)]
   simp only [agL,wh,Option.bind_some,ak3 (l:=(nth b.ao i).On) (below:=(i:Int)) (by omega) (by omega) (by omega),cK (i:=i) (by omega)]
   unfold wy
   cases Bu (nth b.ao i).Name with
   | false=>rfl
   | true =>
    cases (b.ao.take i).any (wA (nth b.ao i)) with
    | true=>rfl
    | false =>
     cases dO (nth b.ao i).dJ (-9) 9 with
     | false=>rfl
     | true =>
      cases hr:mX (nth b.ao i).Weight 1 99 with
      | false=>rfl
      | true =>
       have hw:decide (i64 ((nth b.ao i).Weight.ak - (nth b.ao i).Weight.ai) ≥ 3)=!nM (nth b.ao i).Weight 3:=by
        rw [aiG (by omega) (by omega) hr]
        unfold nM
        by_cases hx:(nth b.ao i).Weight.ak - (nth b.ao i).Weight.ai < 3
        ·simp [hx]
        ·simp [hx]; omega
       simp only [Bool.not_true,bm,Sum.elim_inl,Option.bind_some,hw,Bool.false_eq_true,if_false,Bool.true_and,Bool.true_eq_false]
       cases nM (nth b.ao i).Weight 3 with
       | false=>rfl
       | true =>
        by_cases hc:kQ (nth b.ao i).On (i:Int)=0
        ·simp [hc]
        ·have:(kQ (nth b.ao i).On (i:Int) != 0)=true:=by simpa using hc
         simp [hc,this]
  ·simp only [dec_lt hk,bw,cj,bz (show k < b.ao.length by omega),Option.bind_some,cK (i:=k) (by omega)]
   rw [show ((nth b.ao k).Name.toList == (nth b.ao i).Name.toList)=wA (nth b.ao i) (nth b.ao k) from rfl]
   cases wA (nth b.ao i) (nth b.ao k) <;> rfl
end Go.Proofs.YtabamagholjdcaaGreatDoor
namespace Go.Proofs.YtabamagholjdcaaGreatDoor
open Go.Lg Go.Proofs
set_option maxRecDepth 10000
def c7(out:List Int):List Bool:=(List.range 5).map λ (i:Nat)=>out.contains (i:Int)
theorem ae1:c7 []=[false,false,false,false,false]:=rfl
def qU(l:List Int):Prop:=∀ x∈l,0≤x∧x < 5
theorem KH(out:List Int){p:Int}(h0:0≤p)(h5:p < 5):idx (c7 out) p=some (out.contains p):=by
 obtain ⟨k,rfl⟩:∃ k:Nat,p=(k:Int):=⟨p.toNat,by omega⟩
 have hk:k < 5:=by omega
 rw [cj]
 simp [c7,hk]
theorem arH(out:List Int){p:Int}(h0:0≤p)(h5:p < 5):(c7 out).set p.toNat true=c7 (out++[p]):=by
 obtain ⟨k,rfl⟩:∃ k:Nat,p=(k:Int):=⟨p.toNat,by omega⟩
 have hk:k < 5:=by omega
 apply List.ext_getElem?
 intro i
 rw [Int.toNat_natCast,List.getElem?_set]
 by_cases hi:i < 5
 ·by_cases zD:k=i
  ·subst zD
   simp [c7,hk]
  ·have:¬ (i:Int)=(k:Int):=by omega
   simp [c7,hi,zD,this]
 ·rw [if_neg (by omega)]
  simp [c7,hi]
theorem Si{l out:List Int}(hl:qU l)(hn:l.length≤1000):jK (c7 out) l=some (c7 (out++l)):=by
 unfold jK
 refine (gp (o:=c7 (out++l)) ?_).trans rfl
 have e0:((0:Int),c7 out)=(λ i:Nat=>((i:Int),c7 (out++l.take i))) 0:=by simp
 rw [e0]
 refine tv (λ i:Nat=>((i:Int),c7 (out++l.take i))) l.length (λ i hi=>?_) ?_
 ·obtain ⟨h0,h5⟩:=hl _ (iZ hi)
  simp only [dec_lt hi,bw,cj,bz hi,Option.bind_some,KH _ h0 h5,arH _ h0 h5,cK (i:=i) (by omega)]
  rw [List.append_assoc,List.take_add_one,bz hi]
  rfl
 ·simp only [fh,bm,List.take_length]
theorem Mc{l:List Int}(hl:qU l)(hn:l.length≤1000):jK [false,false,false,false,false] l=some (c7 l):=by
 have:=Si (out:=[]) hl hn
 rwa [List.nil_append,ae1] at this
def pJ(b:aj)(p:Int)(i:Nat):Bool:=(nth b.ao i).On.contains p
def lq(b:aj)(out:List Int)(p:Int):Bool:=!out.contains p && (List.range b.ao.length).all λ (i:Nat)=>out.contains (i:Int) || !pJ b p i
theorem ab2(p:Nat→Bool)(n:Nat):(ez (λ i=>if p i=true then some false else none) 0 n).getD true=(List.range n).all λ i=>!p i:=by
 cases h:ez (λ i=>if p i=true then some false else none) 0 n with
 | none =>
  rw [uZ] at h
  symm
  rw [Option.getD_none,List.all_eq_true]
  intro i hi
  have rB:i < n:=by simpa using hi
  have:=h i (Nat.zero_le _) (by omega)
  simpa using this
 | some o =>
  obtain ⟨j,_,hj,he,_⟩:=yA h
  split at he
  ·rename_i hp
   cases he
   symm
   rw [Option.getD_some,List.all_eq_false]
   exact ⟨j,by simp; omega,by simp [hp]⟩
  ·cases he
theorem ajB{b:aj}(h:Small b){out:List Int}{p:Int}(ho:out.length≤1000):DE b out p=some (lq b out p):=by
 unfold DE lq
 have hp:=h.pieces
 rw [KZ ho,Option.bind_some]
 cases out.contains p with
 | true=>rfl
 | false =>
  rw [bm,Bool.not_false,Bool.true_and]
  rw [nB (λ i=>if (!(out.contains (i:Int)) && pJ b p i)=true then some false else none) b.ao.length (d:=true) (λ i hi=>?_) (by simp only [fh,bm]) rfl]
  ·rw [ab2]
   congr 1
   congr 1
   funext i
   cases out.contains (i:Int) <;> simp
  ·obtain ⟨_,hon⟩:=h.each _ (iZ hi)
   simp only [dec_lt hi,bw,cj,bz hi,Option.bind_some,KZ ho,KZ (l:=(nth b.ao i).On) (n:=p) (by omega),cK (i:=i) (by omega)]
   rw [show (nth b.ao i).On.contains p=pJ b p i from rfl]
   cases out.contains (i:Int) with
   | true=>rfl
   | false=>cases pJ b p i <;> rfl
theorem aIE{b:aj}(h:Small b)(p:Int):DH b p=some ((List.range b.ao.length).filterMap λ i=>if pJ b p i=true then some (i:Int) else none):=by
 unfold DH
 have hp:=h.pieces
 rw [collect (λ i=>if pJ b p i=true then some (i:Int) else none) b.ao.length (λ i acc hi LY=>?_) (λ acc=>by simp only [fh,bm])]
 ·rfl
 ·obtain ⟨_,hon⟩:=h.each _ (iZ hi)
  simp only [dec_lt hi,bw,cj,bz hi,Option.bind_some,aIN (l:=(nth b.ao i).On) (n:=p) (by omega),cK (i:=i) (by omega)]
  rw [show (nth b.ao i).On.contains p=pJ b p i from rfl]
  cases pJ b p i with
  | true=>simp [mb (xs:=acc) (ys:=[(i:Int)]) (by simp; omega)]
  | false=>simp
theorem ajZ{b:aj}(h:Small b)(h5:b.ao.length≤5){out:List Int}{p:Int}(hp0:0≤p)(Wy:p < 5):xG b (c7 out) p=some (lq b out p):=by
 unfold xG lq
 rw [KH out hp0 Wy,Option.bind_some]
 cases out.contains p with
 | true=>rfl
 | false =>
  rw [Bool.not_false,bw,aIE h,Option.bind_some,alA (p:=λ n=>!out.contains n) (l:=(List.range b.ao.length).filterMap λ i=>if pJ b p i=true then some (i:Int) else none) (by
   have:=List.length_filterMap_le (λ i=>if pJ b p i=true then some (i:Int) else none) (List.range b.ao.length)
   simp at this; omega) (λ x hx=>?_)]
  ·rw [Option.bind_some,Bool.true_and]
   congr 1
   rw [Bool.eq_iff_iff,Bool.not_eq_true',List.any_eq_false,List.all_eq_true]
   constructor
   ·intro hh i hi
    cases hr:pJ b p i with
    | false=>simp
    | true =>
     have:=hh (i:Int) (List.mem_filterMap.2 ⟨i,hi,by rw [hr]; rfl⟩)
     simpa using this
   ·intro hh x hx
    obtain ⟨i,hi,hx⟩:=List.mem_filterMap.1 hx
    split at hx
    ·rename_i hr
     cases hx
     have:=hh i hi
     rw [hr] at this
     simpa using this
    ·cases hx
  ·obtain ⟨i,hi,hx⟩:=List.mem_filterMap.1 hx
   have rB:i < b.ao.length:=by simpa using hi
   split at hx
   ·cases hx
    unfold DI
    rw [KH out (by omega) (by omega)]; rfl
   ·cases hx
def ln(b:aj)(p:Int):Bool:=dO p 0 ((b.ao.length:Int) - 1)
theorem agI{b:aj}(h:Small b)(p:Int):vx b p=some (ln b p):=by
 unfold vx ln
 have:=h.pieces
 rw [yF,dR (by omega) (by omega)]; rfl
theorem alw{b:aj}(h:Small b)(p:Int):Dy b p=some (ln b p):=by
 unfold Dy ln
 have:=h.pieces
 rw [wh,dR (by omega) (by omega)]; rfl
theorem yE{b:aj}{p:Int}:ln b p=true↔0≤p∧p < (b.ao.length:Int):=by
 simp only [ln,dO,Bool.and_eq_true,decide_eq_true_eq]
 omega
def EH(b:aj)(out:List Int)(p:Int):Option Int :=
 if ln b p=false then some 6 else if out.contains p=true then some 5 else if lq b out p=false then some 7 else none
def gx(b:aj):List Int→List Int→Int
 | _,[]=>0
 | out,p::r=>match EH b out p with | some h=>h | none=>gx b (out++[p]) r
theorem alx{b:aj}(h:Small b){out l:List Int}(ho:out.length≤100)(hl:l.length≤100):Gh b out l=some (gx b out l):=by
 unfold Gh
 rw [mb (by simp; omega),Option.bind_some,List.nil_append]
 have key:∀ k,k≤l.length→∀ acc:List Int,acc.length+k≤400→(bd (λ (iy:((List Int) × Int)) =>
   ae (decide (iy.2 < (l.length:Int)))
   ((idx l iy.2).bind λ yV =>
   (Dy b yV).bind λ EP =>
   ae (!EP)
   (some (.inr (.inr 6)))
   ((idx l iy.2).bind λ j8 =>
   (nP iy.1 j8).bind λ mM =>
   ae mM
   (some (.inr (.inr 5)))
   ((idx l iy.2).bind λ LJ =>
   (DE b iy.1 LJ).bind λ E3 =>
   ae (!E3)
   (some (.inr (.inr 7)))
   ((idx l iy.2).bind λ iD =>
   (cV iy.1 [iD]).bind λ QL =>
   some (.inl (QL,i64 (iy.2+1)))))))
   (some (.inr (.inl ())))) (acc,((l.length - k:Nat):Int))).bind (Sum.elim (λ (_:Unit)=>some 0) (λ (q:Int)=>some q))=some (gx b acc (l.drop (l.length - k))):=by
  intro k
  induction k with
  | zero =>
   intro _ acc _
   rw [Nat.sub_zero,List.drop_length,gW (o:=.inl ()) (by simp only [fh,bm])]
   rfl
  | succ k ih =>
   intro hk acc LY
   have hi:l.length - (k+1) < l.length:=by omega
   have hd:l.drop (l.length - (k+1))=nth l (l.length - (k+1))::l.drop (l.length - k):=by
    rw [List.drop_eq_getElem_cons hi,show l.length - (k+1)+1=l.length - k by omega]
    congr 1
    have:=bz hi
    rw [List.getElem?_eq_getElem hi] at this
    exact Option.some.inj this
   rw [hd]
   unfold gx EH
   have N0:=alw h (nth l (l.length - (k+1)))
   have T6:=KZ (l:=acc) (n:=nth l (l.length - (k+1))) (by omega)
   have ad8:=ajB h (out:=acc) (p:=nth l (l.length - (k+1))) (by omega)
   cases h1:ln b (nth l (l.length - (k+1))) with
   | false =>
    rw [gW (o:=.inr 6) (by simp only [dec_lt hi,bw,cj,bz hi,Option.bind_some,N0,h1,Bool.not_false])]
    rfl
   | true =>
    cases h2:acc.contains (nth l (l.length - (k+1))) with
    | true =>
     rw [gW (o:=.inr 5) (by simp only [dec_lt hi,bw,bm,cj,bz hi,Option.bind_some,N0,h1,T6,h2,Bool.not_true])]
     rfl
    | false =>
     cases h3:lq b acc (nth l (l.length - (k+1))) with
     | false =>
      rw [gW (o:=.inr 7) (by simp only [dec_lt hi,bw,bm,cj,bz hi,Option.bind_some,N0,h1,T6,h2,ad8,h3,Bool.not_true,Bool.not_false])]
      rfl
     | true =>
      rw [si (s':=(acc++[nth l (l.length - (k+1))],((l.length - k:Nat):Int))) (by
       simp only [dec_lt hi,bw,bm,cj,bz hi,Option.bind_some,N0,h1,T6,h2,ad8,h3,Bool.not_true,mb (xs:=acc) (ys:=[nth l (l.length - (k+1))]) (by simp; omega),cK (i:=l.length - (k+1)) (by omega),show l.length - (k+1)+1=l.length - k by omega])]
      rw [ih (by omega) _ (by simp; omega)]
      rfl
 have:=key l.length (Nat.le_refl _) out (by omega)
 rw [Nat.sub_self,List.drop_zero] at this
 exact this
theorem aj1{b:aj}(h:Small b)(h5:b.ao.length≤5){l:List Int}(hl:l.length≤100):∀ (out:List Int),∃ g,xK b (c7 out) l=some (g,gx b out l)∧(gx b out l=0→g=c7 (out++l)∧qU l):=by
 unfold xK
 have key:∀ k,k≤l.length→∀ acc:List Int,∃ g,(bd (λ (gy:(Int × (List Bool))) =>
   ae (decide (gy.1 < (l.length:Int)))
   ((idx l gy.1).bind λ iD =>
   (vx b iD).bind λ En =>
   ae (!En)
   (some (.inr (.inr (gy.2,6))))
   ((idx gy.2 iD).bind λ LK =>
   ae LK
   (some (.inr (.inr (gy.2,5))))
   ((xG b gy.2 iD).bind λ vT =>
   ae (!vT)
   (some (.inr (.inr (gy.2,7))))
   ((jK gy.2 [iD]).bind λ E4 =>
   some (.inl (i64 (gy.1+1),E4))))))
   (some (.inr (.inl gy.2)))) (((l.length - k:Nat):Int),c7 acc)).bind (Sum.elim (λ (D7:(List Bool)) =>
   some (D7,0)) (λ (q:(List Bool) × Int)=>some q))=some (g,gx b acc (l.drop (l.length - k)))∧(gx b acc (l.drop (l.length - k))=0→g=c7 (acc++l.drop (l.length - k))∧qU (l.drop (l.length - k))):=by
  intro k
  induction k with
  | zero =>
   intro _ acc
   refine ⟨c7 acc,?_,λ _=>?_⟩
   ·rw [Nat.sub_zero,List.drop_length,gW (o:=.inl (c7 acc)) (by simp only [fh,bm])]
    rfl
   ·rw [Nat.sub_zero,List.drop_length,List.append_nil]
    exact ⟨rfl,λ x hx=>by cases hx⟩
  | succ k ih =>
   intro hk acc
   have hi:l.length - (k+1) < l.length:=by omega
   have hd:l.drop (l.length - (k+1))=nth l (l.length - (k+1))::l.drop (l.length - k):=by
    rw [List.drop_eq_getElem_cons hi,show l.length - (k+1)+1=l.length - k by omega]
    congr 1
    have:=bz hi
    rw [List.getElem?_eq_getElem hi] at this
    exact Option.some.inj this
   rw [hd]
   unfold gx EH
   have NZ:=agI h (nth l (l.length - (k+1)))
   cases h1:ln b (nth l (l.length - (k+1))) with
   | false =>
    rw [gW (o:=.inr (c7 acc,6)) (by simp only [dec_lt hi,bw,cj,bz hi,Option.bind_some,NZ,h1,Bool.not_false])]
    exact ⟨_,rfl,λ e=>by cases e⟩
   | true =>
    obtain ⟨g0,g1⟩:=yE.1 h1
    have g5:nth l (l.length - (k+1)) < 5:=by omega
    have T7:=KH acc g0 g5
    have ad7:=ajZ h h5 (out:=acc) g0 g5
    cases h2:acc.contains (nth l (l.length - (k+1))) with
    | true =>
     rw [gW (o:=.inr (c7 acc,5)) (by simp only [dec_lt hi,bw,bm,cj,bz hi,Option.bind_some,NZ,h1,T7,h2,Bool.not_true])]
     exact ⟨_,rfl,λ e=>by cases e⟩
    | false =>
     cases h3:lq b acc (nth l (l.length - (k+1))) with
     | false =>
      rw [gW (o:=.inr (c7 acc,7)) (by simp only [dec_lt hi,bw,bm,cj,bz hi,Option.bind_some,NZ,h1,T7,h2,ad7,h3,Bool.not_true,Bool.not_false])]
      exact ⟨_,rfl,λ e=>by cases e⟩
     | true =>
      have e93:=Si (out:=acc) (l:=[nth l (l.length - (k+1))]) (λ x hx=>by simp at hx; subst hx; exact ⟨g0,g5⟩) (by simp)
      rw [si (s':=(((l.length - k:Nat):Int),c7 (acc++[nth l (l.length - (k+1))]))) (by
       simp only [dec_lt hi,bw,bm,cj,bz hi,Option.bind_some,NZ,h1,T7,h2,ad7,h3,e93,Bool.not_true,cK (i:=l.length - (k+1)) (by omega),show l.length - (k+1)+1=l.length - k by omega])]
      obtain ⟨g,hg1,hg2⟩:=ih (by omega) (acc++[nth l (l.length - (k+1))])
      refine ⟨g,hg1,λ e=>?_⟩
      obtain ⟨k1,k2⟩:=hg2 e
      refine ⟨by rw [k1,List.append_assoc]; rfl,λ x hx=>?_⟩
      rcases List.mem_cons.1 hx with rfl | hx
      ·exact ⟨g0,g5⟩
      ·exact k2 x hx
 intro out
 have:=key l.length (Nat.le_refl _) out
 rw [Nat.sub_self,List.drop_zero] at this
 exact this
def yB(b:aj)(i:Nat):Option Int:=if dO (nth b.aT i).dd 0 (b.Out.length:Int)=false then some 6 else if dO (nth b.aT i).dM 0 2=false then some 1 else none
def Br(b:aj):Int:=if 4 < b.aT.length then 2 else (ez (yB b) 0 b.aT.length).getD 0
theorem aJh{b:aj}(h:Small b):DR b=some (Br b):=by
 unfold DR Br
 have e3:decide ((b.aT.length:Int) > 4)=decide (4 < b.aT.length):=BZ (m:=4)
 have hh:=h.EM
 rw [e3]
 by_cases h4:4 < b.aT.length
 ·simp [h4]
 simp only [h4,decide_false,bm,if_false]
 refine nB (yB b) b.aT.length (λ i hi=>?_) (by simp only [fh,bm]) rfl
 simp only [dec_lt hi,bw,cj,bz hi,Option.bind_some,yF,cK (i:=i) (by omega)]
 unfold yB
 cases dO (nth b.aT i).dd 0 (b.Out.length:Int) with
 | false=>rfl
 | true =>
  simp only [Bool.not_true,bm,Bool.true_eq_false,if_false]
  generalize (nth b.aT i).dM=s
  by_cases h0:s=0
  ·subst h0; rfl
  by_cases h1:s=1
  ·subst h1; rfl
  by_cases h2:s=2
  ·subst h2; rfl
  have:dO s 0 2=false:=by
   cases hb:dO s 0 2 with
   | false=>rfl
   | true =>
    simp only [dO,Bool.and_eq_true,decide_eq_true_eq] at hb
    omega
  have e0:(s == 0)=false:=by simpa using h0
  have e1:(s == 1)=false:=by simpa using h1
  have e2:(s == 2)=false:=by simpa using h2
  rw [e0,e1,e2,this]
  rfl
def yt(b:aj):Int:=gx b [] b.Out
def yD(b:aj):Bool:=dO b.aB 0 9999 && (mX b.aa (-999) 999 && nM b.aa 3)
def cY(b:aj):Int:=if yD b=false then 1 else if oF b≠0 then oF b else if yt b≠0 then yt b else Br b
theorem aJb(b:aj):DN b=some (if yD b=false then 1 else 0):=by
 unfold DN yD
 rw [yF,Option.bind_some,aco (by omega) (by omega)]
 cases dO b.aB 0 9999 with
 | false=>rfl
 | true=>cases mX b.aa (-999) 999 && nM b.aa 3 <;> rfl
theorem ahq{b:aj}(h:oF b=0):1≤b.ao.length∧b.ao.length≤5:=by
 unfold oF at h
 split at h
 ·cases h
 ·rename_i hb
  simp only [dO,Bool.and_eq_false_iff,decide_eq_false_iff_not,not_or,Decidable.not_not] at hb
  omega
theorem ly{a:Int}(h:a≠0):(a != 0)=true:=by simpa using h
theorem aJf{b:aj}(h:Small b)(h5:b.ao.length≤5):DQ b=some (yt b):=by
 unfold DQ
 have:=h.out
 obtain ⟨g,hg,_⟩:=aj1 h h5 (l:=b.Out) (by omega) []
 rw [ae1] at hg
 rw [hg]; rfl
theorem ZV{b:aj}(h:Small b):mB b=some (cY b):=by
 unfold mB cY
 rw [show (⟨b.aB,⟨b.aa.ai,b.aa.ak⟩,b.ao,b.Out,b.aT⟩:aj)=b from rfl,aJb,Option.bind_some]
 cases yD b with
 | false=>rfl
 | true =>
  rw [if_neg (by decide),aJd h]
  by_cases hp:oF b=0
  ·obtain ⟨_,h5⟩:=ahq hp
   rw [aJf h h5,aJh h]
   by_cases ho:yt b=0
   ·by_cases hh:Br b=0
    ·simp [hp,ho,hh]
    ·simp [hp,ho,ly hh]
   ·simp [hp,ho,ly ho]
  ·simp [hp,ly hp]
theorem ajD{b:aj}(h:Small b):uF b=some (cY b):=by
 unfold uF cY yD
 rw [wh,Option.bind_some,agL,aIf h,alx h (by simp) (by have:=h.out; omega)]
 cases dO b.aB 0 9999 with
 | false=>rfl
 | true =>
  cases hr:mX b.aa (-999) 999 with
  | false=>rfl
  | true =>
   have hw:decide (i64 (b.aa.ak - b.aa.ai) ≥ 3)=!nM b.aa 3:=by
    rw [aiG (by omega) (by omega) hr]
    unfold nM
    by_cases hx:b.aa.ak - b.aa.ai < 3
    ·simp [hx]
    ·simp [hx]; omega
   simp only [Bool.not_true,bm,Option.bind_some,hw,Bool.true_and]
   cases nM b.aa 3 with
   | false=>rfl
   | true =>
    simp only [Bool.not_true,bm,Bool.true_eq_false,if_false]
    by_cases hp:oF b=0
    ·by_cases ho:yt b=0
     ·have eC:gx b [] b.Out=0:=ho
      have e3:decide ((b.aT.length:Int) > 4)=decide (4 < b.aT.length):=BZ (m:=4)
      have hh:=h.EM
      simp only [hp,ho,eC,bne_self_eq_false,bm,ne_eq,not_true_eq_false,if_false,e3]
      unfold Br
      by_cases h4:4 < b.aT.length
      ·simp [h4]
      simp only [h4,decide_false,bm,if_false]
      refine nB (yB b) b.aT.length (λ i hi=>?_) (by simp only [fh,bm]) rfl
      simp only [dec_lt hi,bw,cj,bz hi,Option.bind_some,wh,cK (i:=i) (by omega)]
      unfold yB
      cases dO (nth b.aT i).dd 0 (b.Out.length:Int) with
      | false=>rfl
      | true=>cases dO (nth b.aT i).dM 0 2 <;> rfl
     ·have eC:gx b [] b.Out≠0:=ho
      simp only [hp,bne_self_eq_false,bm,ne_eq,not_true_eq_false,if_false,ly eC,bw]
      rw [if_pos ho]
      rfl
    ·simp [hp,ly hp]
end Go.Proofs.YtabamagholjdcaaGreatDoor
namespace Go.Proofs.YtabamagholjdcaaGreatDoor
open Go.Lg Go.Proofs
set_option maxRecDepth 10000
structure am8 (b:aj) (i:Nat):Prop where
 arm : -9≤(nth b.ao i).dJ∧(nth b.ao i).dJ≤9
 weight:1≤(nth b.ao i).Weight.ai∧(nth b.ao i).Weight.ai≤(nth b.ao i).Weight.ak∧(nth b.ao i).Weight.ak≤99∧(nth b.ao i).Weight.ak - (nth b.ao i).Weight.ai < 3
 on:kQ (nth b.ao i).On (i:Int)=0
structure Valid (b:aj):Prop where
 small:Small b
 agA:0≤b.aB∧b.aB≤9999
 df : -999≤b.aa.ai∧b.aa.ai≤b.aa.ak∧b.aa.ak≤999∧b.aa.ak - b.aa.ai < 3
 n1:1≤b.ao.length
 n5:b.ao.length≤5
 each:∀ i,i < b.ao.length→am8 b i
 out:gx b [] b.Out=0
 EM:b.aT.length≤4
 ack:∀ x∈b.aT,0≤x.dd∧x.dd≤(b.Out.length:Int)∧0≤x.dM∧x.dM≤2
theorem yL{n a c:Int}:dO n a c=true↔a≤n∧n≤c:=by simp [dO]
theorem abC{x:Reach}{a c:Int}:mX x a c=true↔a≤x.ai∧x.ai≤x.ak∧x.ak≤c:=by simp [mX]
theorem abV{x:Reach}{w:Int}:nM x w=true↔x.ak - x.ai < w:=by simp [nM]
theorem RI{e:Nat→Option Int}{n:Nat}(b7:∀ i,e i≠some 0)(h:(ez e 0 n).getD 0=0):∀ i,i < n→e i=none:=by
 cases hf:ez e 0 n with
 | none=>rw [uZ] at hf; exact λ i hi=>hf i (Nat.zero_le _) (by omega)
 | some o =>
  rw [hf] at h
  obtain ⟨j,_,_,he,_⟩:=yA hf
  have:o=0:=h
  subst this
  exact absurd he (b7 j)
theorem ak7{b:aj}(i:Nat):wy b i≠some 0:=by
 unfold wy
 split
 ·intro e; cases e
 ·split
  ·intro e; cases e
  ·split
   ·intro e; cases e
   ·split
    ·rename_i h; intro e; injection e with e; exact h e
    ·intro e; cases e
theorem aud{b:aj}(i:Nat):yB b i≠some 0:=by
 unfold yB
 split
 ·intro e; cases e
 ·split
  ·intro e; cases e
  ·intro e; cases e
theorem r7{b:aj}(hs:Small b)(h:cY b=0):Valid b:=by
 unfold cY at h
 split at h
 ·cases h
 rename_i h1
 have h1:yD b=true:=by simpa using h1
 split at h
 ·rename_i h2; exact absurd h h2
 rename_i h2
 have h2:oF b=0:=by simpa using h2
 split at h
 ·rename_i h3; exact absurd h h3
 rename_i h3
 have h3:yt b=0:=by simpa using h3
 unfold yD at h1
 simp only [Bool.and_eq_true,yL,abC,abV] at h1
 obtain ⟨g1,g2,g3⟩:=h1
 obtain ⟨n1,n5⟩:=ahq h2
 have hp:∀ i,i < b.ao.length→wy b i=none:=by
  unfold oF at h2
  split at h2
  ·cases h2
  ·exact RI ak7 h2
 unfold Br at h
 split at h
 ·cases h
 rename_i h4
 have hh:=RI aud h
 refine ⟨hs,g1,⟨g2.1,g2.2.1,g2.2.2,g3⟩,n1,n5,λ i hi=>?_,h3,by omega,λ x hx=>?_⟩
 ·have:=hp i hi
  unfold wy at this
  split at this
  ·cases this
  split at this
  ·cases this
  split at this
  ·cases this
  rename_i hb
  have hb:(dO (nth b.ao i).dJ (-9) 9 && (mX (nth b.ao i).Weight 1 99 && nM (nth b.ao i).Weight 3))=true:=by simpa using hb
  simp only [Bool.and_eq_true,yL,abC,abV] at hb
  split at this
  ·cases this
  rename_i hc
  exact ⟨hb.1,⟨hb.2.1.1,hb.2.1.2.1,hb.2.1.2.2,hb.2.2⟩,by simpa using hc⟩
 ·obtain ⟨i,hi,rfl⟩:=Bp hx
  have:=hh i hi
  unfold yB at this
  split at this
  ·cases this
  rename_i k1
  split at this
  ·cases this
  rename_i k2
  have k1:dO (nth b.aT i).dd 0 (b.Out.length:Int)=true:=by simpa using k1
  have k2:dO (nth b.aT i).dM 0 2=true:=by simpa using k2
  rw [yL] at k1 k2
  exact ⟨k1.1,k1.2,k2.1,k2.2⟩
theorem KO{b:aj}{out:List Int}{p:Int}{r:List Int}:gx b out (p::r)=0↔ln b p=true∧out.contains p=false∧lq b out p=true∧gx b (out++[p]) r=0:=by
 conv=>lhs; unfold gx EH
 cases ln b p <;> cases out.contains p <;> cases lq b out p <;> simp
theorem Rq{b:aj}:∀ {l out:List Int},gx b out l=0→∀ x∈l,ln b x=true
 | [],_,_,x,hx=>by cases hx
 | p::r,out,h,x,hx=>by
  obtain ⟨h1,_,_,h4⟩:=KO.1 h
  rcases List.mem_cons.1 hx with rfl | hx
  ·exact h1
  ·exact Rq h4 x hx
theorem aGW{b:aj}(h5:b.ao.length≤5){l:List Int}(h:∀ x∈l,ln b x=true):qU l:=λ x hx=>by
 have:=yE.1 (h x hx)
 omega
theorem Valid.Zj{b:aj}(h:Valid b):qU b.Out:=aGW h.n5 (Rq h.out)
def mV(b:aj)(bI:Int)(ws out:List Int):Nat→Int
 | 0=>bI
 | i+1=>if out.contains (i:Int) then mV b bI ws out i else mV b bI ws out i+(nth b.ao i).dJ * nth ws i
def oE(b:aj)(bI:Int)(ws out:List Int):Int:=mV b bI ws out b.ao.length
structure uI (b:aj) (bI:Int) (ws:List Int):Prop where
 bI : -999≤bI∧bI≤999
 len:b.ao.length≤ws.length
 each:∀ i,i < b.ao.length→0≤nth ws i∧nth ws i≤99
theorem ab8{a w:Int}(h1 : -9≤a)(h2:a≤9)(h3:0≤w)(h4:w≤99) : -891≤a * w∧a * w≤891:=by
 constructor
 ·have : -9 * w≤a * w:=Int.mul_le_mul_of_nonneg_right h1 h3
  omega
 ·have:a * w≤9 * w:=Int.mul_le_mul_of_nonneg_right h2 h3
  omega
theorem Sk{b:aj}(hv:Valid b){bI:Int}{ws out:List Int}(hf:uI b bI ws):∀ i,i≤b.ao.length → -(999+891 * (i:Int))≤mV b bI ws out i∧mV b bI ws out i≤999+891 * (i:Int)
 | 0,_=>by have:=hf.bI; simp only [mV]; omega
 | i+1,hi=>by
  have ih:=Sk hv hf (out:=out) i (by omega)
  have hp:=(hv.each i (by omega)).arm
  have hw:=hf.each i (by omega)
  have hm:=ab8 hp.1 hp.2 hw.1 hw.2
  unfold mV
  split
  ·push_cast; omega
  ·push_cast; omega
theorem abR{b:aj}(hv:Valid b){bI:Int}{ws out:List Int}(hf:uI b bI ws) : -6000≤oE b bI ws out∧oE b bI ws out≤6000:=by
 have:=Sk hv hf (out:=out) _ (Nat.le_refl _)
 have:=hv.n5
 unfold oE
 omega
theorem acn{b:aj}(hv:Valid b){bI:Int}{ws out:List Int}(hf:uI b bI ws):pM b ⟨bI,ws⟩ (c7 out)=some (oE b bI ws out):=by
 unfold pM
 have h5:=hv.n5
 refine (gp (o:=oE b bI ws out) (tv (λ i=>(mV b bI ws out i,(i:Int))) b.ao.length (λ i hi=>?_) ?_:bd _ (bI,(0:Int))=_)).trans rfl
 ·have hp:=(hv.each i hi).arm
  have hw:=hf.each i hi
  have hm:=ab8 hp.1 hp.2 hw.1 hw.2
  have hb:=Sk hv hf (out:=out) i (by omega)
  have hl:=hf.len
  simp only [dec_lt hi,bw,cj,bz hi,bz (show i < ws.length by omega),Option.bind_some,KH out (p:=(i:Int)) (by omega) (by omega),cK (i:=i) (by omega),dR (z:=(nth b.ao i).dJ * nth ws i) (by omega) (by omega),dR (z:=mV b bI ws out i+(nth b.ao i).dJ * nth ws i) (by omega) (by omega)]
  conv=>rhs; unfold mV
  cases out.contains (i:Int) <;> rfl
 ·simp only [fh,bm]; rfl
theorem aOw{b:aj}(hv:Valid b){bI:Int}{ws out:List Int}(hf:uI b bI ws)(ho:out.length≤1000):uD b ⟨bI,ws⟩ out=some (oE b bI ws out):=by
 unfold uD
 have h5:=hv.n5
 refine (gp (o:=oE b bI ws out) (tv (λ i=>(mV b bI ws out i,(i:Int))) b.ao.length (λ i hi=>?_) ?_:bd _ (bI,(0:Int))=_)).trans rfl
 ·have hp:=(hv.each i hi).arm
  have hw:=hf.each i hi
  have hm:=ab8 hp.1 hp.2 hw.1 hw.2
  have hb:=Sk hv hf (out:=out) i (by omega)
  have hl:=hf.len
  simp only [dec_lt hi,bw,cj,bz hi,bz (show i < ws.length by omega),Option.bind_some,KZ ho,cK (i:=i) (by omega),dR (z:=(nth b.ao i).dJ * nth ws i) (by omega) (by omega),dR (z:=mV b bI ws out i+(nth b.ao i).dJ * nth ws i) (by omega) (by omega)]
  conv=>rhs; unfold mV
  cases out.contains (i:Int) <;> rfl
 ·simp only [fh,bm]; rfl
theorem abA{b:aj}{bI:Int}{ws ws' out E1:List Int}:∀ n,(∀ i,i < n→nth ws i=nth ws' i)→(∀ i:Nat,i < n→out.contains (i:Int)=E1.contains (i:Int))→mV b bI ws out n=mV b bI ws' E1 n
 | 0,_,_=>rfl
 | n+1,h1,h2=>by
  unfold mV
  rw [h1 n (by omega),h2 n (by omega),abA n (λ i hi=>h1 i (by omega)) (λ i hi=>h2 i (by omega))]
def lY(b:aj)(m:Int):Bool:=decide (m > b.aB) || decide (m < -b.aB)
def wB(m:Int):Int:=if m > 0 then 2 else if m < 0 then 1 else 0
theorem aJI{m:Int}(h1 : -1000000≤m)(h2:m≤1000000):fH m [i64 (0 - m)]=if -m > m then -m else m:=by
 rw [dR (by omega) (by omega),show (0 - m) = -m by omega]
 rfl
theorem agG{b:aj}{m:Int}(h1 : -1000000≤m)(h2:m≤1000000):wj b m=some (lY b m):=by
 unfold wj lY
 rw [aJI h1 h2]
 congr 1
 by_cases h : -m > m
 ·rw [if_pos h]
  by_cases h3 : -m > b.aB
  ·simp [h3,show m < -b.aB by omega]
  ·simp [h3,show ¬ m < -b.aB by omega,show ¬ m > b.aB by omega]
 ·rw [if_neg h]
  by_cases h3:m > b.aB
  ·simp [h3]
  ·simp [h3,show ¬ m < -b.aB by omega]
theorem aIB(m:Int):DG m=some (wB m):=by
 unfold DG wB
 by_cases h1:m > 0
 ·simp [h1]
 ·by_cases h2:m < 0 <;> simp [h1,h2]
theorem a6U(m:Int):L1 m=some (wB m):=by
 unfold L1 wB
 by_cases h1:m > 0
 ·simp [h1]
 ·by_cases h2:m < 0 <;> simp [h1,h2]
def mo(b:aj)(bI:Int)(ws:List Int)(n:Nat):Int:=oE b bI ws (b.Out.take n)
def lh(b:aj)(bI:Int)(ws:List Int):Bool:=((List.range (b.Out.length+1)).all λ n=>!lY b (mo b bI ws n)) && b.aT.all λ x=>wB (mo b bI ws x.dd.toNat) == x.dM
theorem aGX{l:List Int}(h:qU l)(n:Nat):qU (l.take n):=λ x hx=>h x (List.mem_of_mem_take hx)
theorem aly{b:aj}(hv:Valid b){bI:Int}{ws:List Int}(hf:uI b bI ws):xF b ⟨bI,ws⟩=some (lh b bI ws):=by
 unfold xF
 have ho:=hv.small.out
 have hhl:=hv.EM
 rw [cK (i:=b.Out.length) (by omega)]
 rw [nB (λ n=>if (lY b (mo b bI ws n) || b.aT.any λ x=>x.dd == (n:Int) && x.dM != wB (mo b bI ws n))=true then some false else none) (b.Out.length+1) (d:=true) (λ n hn=>?_) (by simp only [fh,bm]) rfl]
 ·rw [ab2]
  congr 1
  unfold lh
  rw [Bool.eq_iff_iff]
  simp only [List.all_eq_true,List.mem_range,Bool.and_eq_true,Bool.not_eq_true',Bool.or_eq_false_iff,List.any_eq_false]
  constructor
  ·intro h
   refine ⟨λ n hn=>(h n hn).1,λ x hx=>?_⟩
   obtain ⟨k1,k2,_⟩:=hv.ack x hx
   have:=(h x.dd.toNat (by omega)).2 x hx
   have e:((x.dd.toNat:Nat):Int)=x.dd:=Int.toNat_of_nonneg k1
   rw [e] at this
   rw [beq_iff_eq]
   exact Classical.byContradiction λ b7=>this ⟨by simp,by simpa using λ hx=>b7 hx.symm⟩
  ·rintro ⟨h1,h2⟩ n hn
   refine ⟨h1 n hn,λ x hx=>?_⟩
   have:=h2 x hx
   by_cases Za:x.dd=(n:Int)
   ·rw [Za,Int.toNat_natCast,beq_iff_eq] at this
    simp only [Za,this,bne_self_eq_false,Bool.false_eq_true,and_false,not_false_eq_true]
   ·simp [Za]
 ·have hb:=abR hv hf (out:=b.Out.take n)
  simp only [dec_lt hn,bw,Md (show n≤b.Out.length by omega),Option.bind_some,Mc (aGX hv.Zj n) (by simp; omega),acn hv hf,agG (b:=b) (m:=oE b bI ws (b.Out.take n)) (by omega) (by omega),cK (i:=n) (by omega),
   aIy (l:=b.aT) (f:=λ y=>Ac y (n:Int) (oE b bI ws (b.Out.take n))) (p:=λ x=>x.dd == (n:Int) && x.dM != wB (mo b bI ws n)) (by omega) (λ x _=>by
    unfold Ac mo
    rw [aIB]
    cases x.dd == (n:Int) <;> rfl)]
  rw [show lY b (oE b bI ws (b.Out.take n))=lY b (mo b bI ws n) from rfl]
  cases lY b (mo b bI ws n) with
  | true=>rfl
  | false =>
   cases b.aT.any λ x=>x.dd == (n:Int) && x.dM != wB (mo b bI ws n) <;> rfl
def acg(b:aj)(c:cR):Int :=
 if dO c.aa (-999) 999=false then 1 else if c.eU.length≠b.ao.length then 2 else if (c.eU.any λ n=>!dO n 0 99)=true then 1 else 0
theorem aOu{n m:Nat}:((n:Int) != (m:Int))=decide (n≠m):=by
 by_cases h:n=m
 ·subst h; simp
 ·have:¬ (n:Int)=(m:Int):=by omega
  simp [h,this]
theorem a7K{b:aj}{c:cR}(hc:c.eU.length≤100):∃ k,ET b c=some (k,acg b c)∧(acg b c=0→k=⟨c.aa,fC [0,0,0,0,0] c.eU⟩):=by
 unfold ET acg
 rw [yF,Option.bind_some,aOu]
 cases dO c.aa (-999) 999 with
 | false=>exact ⟨_,rfl,λ e=>by cases e⟩
 | true =>
  by_cases hl:c.eU.length=b.ao.length
  ·simp only [hl,ne_eq,not_true_eq_false,decide_false,Bool.not_true,bm,Bool.true_eq_false,if_false]
   rw [alA (l:=c.eU) (f:=λ y=>EV y) (p:=λ n=>!dO n 0 99) (by omega) (λ x _=>by unfold EV; rw [yF]; rfl),Option.bind_some]
   cases c.eU.any λ n=>!dO n 0 99 with
   | true=>exact ⟨_,rfl,λ e=>by cases e⟩
   | false=>exact ⟨_,rfl,λ _=>rfl⟩
  ·simp only [hl,ne_eq,not_false_eq_true,decide_true,Bool.not_true,bm,bw,Bool.true_eq_false,if_false,if_true]
   exact ⟨_,rfl,λ e=>by cases e⟩
theorem a7u{b:aj}(_:Valid b){c:cR}(h:acg b c=0):c.eU.length=b.ao.length∧uI b c.aa c.eU:=by
 unfold acg at h
 split at h
 ·cases h
 rename_i h1
 split at h
 ·cases h
 rename_i h2
 split at h
 ·cases h
 rename_i h3
 have h1:dO c.aa (-999) 999=true:=by simpa using h1
 have h2:c.eU.length=b.ao.length:=by simpa using h2
 rw [yL] at h1
 refine ⟨h2,h1,by omega,λ i hi=>?_⟩
 have h3:(c.eU.any λ n=>!dO n 0 99)=false:=by simpa using h3
 rw [List.any_eq_false] at h3
 have:=h3 _ (iZ (show i < c.eU.length by omega))
 have:dO (nth c.eU i) 0 99=true:=by simpa using this
 rwa [yL] at this
theorem Sw{ws:List Int}{i:Nat}(h:i < ws.length)(h5:ws.length≤5):nth (fC [0,0,0,0,0] ws) i=nth ws i:=by
 unfold fC nth
 rw [List.getD_eq_getElem?_getD,List.getD_eq_getElem?_getD,List.getElem?_append_left (by simp; omega),List.getElem?_take_of_lt (by simp; omega)]
theorem NV{ws:List Int}(h5:ws.length≤5):(fC [0,0,0,0,0] ws).length=5:=by
 unfold fC
 simp only [List.length_append,List.length_take,List.length_drop,List.length_cons,List.length_nil]
 omega
theorem abY{b:aj}(hv:Valid b){bI:Int}{ws:List Int}(hl:ws.length=b.ao.length)(hf:uI b bI ws):uI b bI (fC [0,0,0,0,0] ws):=by
 have:=hv.n5
 refine ⟨hf.bI,by rw [NV (by omega)]; omega,λ i hi=>?_⟩
 rw [Sw (by omega) (by omega)]
 exact hf.each i hi
theorem acs{b:aj}(hv:Valid b){bI:Int}{ws out:List Int}(hl:ws.length=b.ao.length):oE b bI (fC [0,0,0,0,0] ws) out=oE b bI ws out:=by
 have:=hv.n5
 exact abA _ (λ i hi=>Sw (by omega) (by omega)) (λ _ _=>rfl)
theorem alJ{b:aj}(hv:Valid b){bI:Int}{ws:List Int}(hl:ws.length=b.ao.length):lh b bI (fC [0,0,0,0,0] ws)=lh b bI ws:=by
 unfold lh mo
 simp only [acs hv hl]
theorem abX{l:List Int}{below:Int}(h:kQ l below=0):∀ x∈l,0≤x∧x < below:=by
 intro x hx
 obtain ⟨i,hi,rfl⟩:=Bp hx
 have:=RI (e:=yz l below) (λ i=>by
  unfold yz
  split
  ·intro e; cases e
  ·split
   ·split
    ·intro e; cases e
    ·intro e; cases e
   ·intro e; cases e) h i hi
 unfold yz at this
 split at this
 ·cases this
 ·rename_i hb
  have hb:dO (nth l i) 0 (below - 1)=true:=by simpa using hb
  rw [yL] at hb
  omega
def aPC(b:aj)(c:cR)(out:List Int):Int × Int :=
 if cY b≠0 then (0,cY b) else if acg b c≠0 then (0,acg b c) else if kQ out (b.ao.length:Int)≠0 then (0,kQ out (b.ao.length:Int)) else (oE b c.aa c.eU out,0)
theorem a7Q{b:aj}(hs:Small b){c:cR}{out:List Int}(hc:c.eU.length≤20)(ho:out.length≤20):yH b c out=some (aPC b c out):=by
 unfold yH aPC
 have hp:=hs.pieces
 rw [ZV hs,Option.bind_some]
 by_cases h1:cY b=0
 ·have hv:=r7 hs h1
  obtain ⟨k,hk1,hk2⟩:=a7K (b:=b) (c:=c) (by omega)
  rw [hk1,abQ (by omega) (by omega) (by omega)]
  by_cases h2:acg b c=0
  ·obtain ⟨hl,hf⟩:=a7u hv h2
   have hkk:=hk2 h2
   subst hkk
   by_cases h3:kQ out (b.ao.length:Int)=0
   ·have v9:qU out:=λ x hx=>by have:=abX h3 x hx; have:=hv.n5; omega
    simp only [h1,h2,h3,bne_self_eq_false,bm,Option.bind_some,ne_eq,not_true_eq_false,if_false,Mc v9 (by omega),acn hv (abY hv hl hf),acs hv hl]
   ·simp only [h1,h2,h3,bne_self_eq_false,bm,Option.bind_some,ne_eq,not_true_eq_false,not_false_eq_true,if_true,if_false,ly h3,bw]
  ·simp only [h1,h2,bne_self_eq_false,bm,Option.bind_some,ne_eq,not_true_eq_false,not_false_eq_true,if_true,if_false,ly h2,bw]
 ·simp only [h1,ne_eq,not_false_eq_true,if_true,ly h1,bw]
end Go.Proofs.YtabamagholjdcaaGreatDoor
namespace Go.Proofs.YtabamagholjdcaaGreatDoor
open Go.Lg Go.Proofs
set_option maxRecDepth 10000
def ju(b:aj)(out:List Int):List Int:=(List.range b.ao.length).filterMap λ (i:Nat)=>if lq b out (i:Int)=true then some (i:Int) else none
theorem ajN(b:aj)(out:List Int):(ju b out).length≤b.ao.length:=by
 have:=List.length_filterMap_le (λ i:Nat=>if lq b out (i:Int)=true then some (i:Int) else none) (List.range b.ao.length)
 simpa [ju] using this
theorem aOg{b:aj}(hs:Small b){out:List Int}(ho:out.length≤1000):HX b out=some (ju b out):=by
 unfold HX
 have hp:=hs.pieces
 rw [collect (λ i:Nat=>if lq b out (i:Int)=true then some (i:Int) else none) b.ao.length (λ i acc hi LY=>?_) (λ acc=>by simp only [fh,bm])]
 ·rfl
 ·simp only [dec_lt hi,bw,Option.bind_some,ajB hs (p:=(i:Int)) ho,cK (i:=i) (by omega)]
  cases lq b out (i:Int) with
  | true=>simp [mb (xs:=acc) (ys:=[(i:Int)]) (by simp; omega)]
  | false=>simp
theorem a53{x a c:Int}(h:a≤c):(j7 (fH x [a]) [c]=x)↔dO x a c=true:=by
 rw [yL]
 have hm:fH x [a]=if a > x then a else x:=rfl
 have hd:(a > x∧fH x [a]=a)∨(¬ a > x∧fH x [a]=x):=by
  by_cases h1:a > x
  ·left; rw [hm,if_pos h1]; exact ⟨h1,rfl⟩
  ·right; rw [hm,if_neg h1]; exact ⟨h1,rfl⟩
 generalize fH x [a]=d at hd
 have hn:j7 d [c]=if c < d then c else d:=rfl
 rw [hn]
 by_cases h2:c < d
 ·rw [if_pos h2]; omega
 ·rw [if_neg h2]; omega
def aOt(b:aj)(bI:Int)(ws:List Int):Bool:=dO bI b.aa.ai b.aa.ak && (List.range b.ao.length).all λ i=>dO (nth ws i) (nth b.ao i).Weight.ai (nth b.ao i).Weight.ak
def aZX(b:aj)(c:cR):Bool × Int :=
 if cY b≠0 then (false,cY b) else if acg b c≠0 then (false,acg b c) else if aOt b c.aa c.eU=true then (lh b c.aa c.eU,0) else (false,0)
def aXF(b:aj)(cw:List Int)(j:Nat):Int:=j7 (fH (nth cw j) [(nth b.ao j).Weight.ai]) [(nth b.ao j).Weight.ak]
def acu(b:aj)(cw:List Int)(i:Nat):List Int:=(List.range 5).map λ j=>if j < i then aXF b cw j else 0
theorem a0d(b:aj)(cw:List Int)(i:Nat):(acu b cw i).length=5:=by simp [acu]
theorem baU(b:aj)(cw:List Int){i:Nat}(h:i < 5):(acu b cw i).set i (aXF b cw i)=acu b cw (i+1):=by
 apply List.ext_getElem?
 intro j
 rw [List.getElem?_set]
 by_cases hj:j < 5
 ·by_cases ew:i=j
  ·subst ew
   simp [acu,hj]
  ·simp only [ew,if_false,acu,List.getElem?_map,List.getElem?_range hj,Option.map_some]
   by_cases h1:j < i
   ·simp [h1,show j < i+1 by omega]
   ·simp [h1,show ¬ j < i+1 by omega]
 ·rw [if_neg (by omega)]
  simp [acu,hj]
theorem a70(b:aj)(cw:List Int){i j:Nat}(h:j < 5):nth (acu b cw i) j=if j < i then aXF b cw j else 0:=by
 have:=bz (l:=acu b cw i) (i:=j) (by rw [a0d]; exact h)
 simp only [acu,List.getElem?_map,List.getElem?_range h,Option.map_some,Option.some.injEq] at this
 exact this.symm
theorem baL{b:aj}(hs:Small b){c:cR}(hc:c.eU.length≤20):Sh b c=some (aZX b c):=by
 unfold Sh aZX
 rw [ZV hs,Option.bind_some]
 by_cases h1:cY b=0
 ·have hv:=r7 hs h1
  have h5:=hv.n5
  obtain ⟨k,hk1,hk2⟩:=a7K (b:=b) (c:=c) (by omega)
  rw [hk1]
  by_cases h2:acg b c=0
  ·obtain ⟨hl,hf⟩:=a7u hv h2
   have hkk:=hk2 h2
   subst hkk
   have ga:=NV (ws:=c.eU) (by omega)
   simp only [h1,h2,bne_self_eq_false,bm,Option.bind_some,ne_eq,not_true_eq_false,if_false]
   refine (gp (o:=acu b (fC [0,0,0,0,0] c.eU) b.ao.length) ?_).trans ?_
   rotate_left
   ·have a9r:(RG (⟨j7 (fH c.aa [b.aa.ai]) [b.aa.ak],acu b (fC [0,0,0,0,0] c.eU) b.ao.length⟩:bt) (⟨c.aa,fC [0,0,0,0,0] c.eU⟩:bt) == true)=aOt b c.aa c.eU:=by
     rw [Bool.eq_iff_iff]
     unfold RG aOt
     simp only [Bool.and_true,beq_true,Bool.and_eq_true,beq_iff_eq,a53 hv.df.2.1,List.all_eq_true,List.mem_range]
     refine and_congr_right λ _=>?_
     constructor
     ·intro he i hi
      have h3:=a70 b (fC [0,0,0,0,0] c.eU) (i:=b.ao.length) (j:=i) (by omega)
      rw [he,if_pos hi] at h3
      have h4:=(a53 (hv.each i hi).weight.2.1).1 h3.symm
      rwa [Sw (by omega) (by omega)] at h4
     ·intro he
      refine alF (by rw [a0d,ga]) λ i hi=>?_
      rw [a0d] at hi
      rw [a70 _ _ hi]
      by_cases h3:i < b.ao.length
      ·rw [if_pos h3]
       refine (a53 (hv.each i h3).weight.2.1).2 ?_
       rw [Sw (by omega) (by omega)]
       exact he i h3
      ·rw [if_neg h3]
       unfold fC nth
       rw [List.getD_eq_getElem?_getD,List.getElem?_append_right (by simp; omega),List.getElem?_drop]
       have EN:c.eU.length+(i - (c.eU.take [0,0,0,0,(0:Int)].length).length) < 5:=by simp; omega
       generalize c.eU.length+(i - (c.eU.take [0,0,0,0,(0:Int)].length).length)=j at EN
       match j,EN with
       | 0,_=>rfl
       | 1,_=>rfl
       | 2,_=>rfl
       | 3,_=>rfl
       | 4,_=>rfl
    rw [a9r]
    cases aOt b c.aa c.eU with
    | true =>
     rw [bw,aly hv (abY hv hl hf),alJ hv hl]
     rfl
    | false=>rfl
   have e0:((0:Int),[0,0,0,0,(0:Int)])=(λ i:Nat=>((i:Int),acu b (fC [0,0,0,0,0] c.eU) i)) 0:=rfl
   rw [e0]
   refine tv (λ i:Nat=>((i:Int),acu b (fC [0,0,0,0,0] c.eU) i)) b.ao.length (λ i hi=>?_) ?_
   ·simp only [dec_lt hi,bw,cj,bz hi,bz (l:=fC [0,0,0,0,0] c.eU) (i:=i) (by omega),bz (l:=acu b (fC [0,0,0,0,0] c.eU) i) (i:=i) (by rw [a0d]; omega),Option.bind_some,Int.toNat_natCast,cK (i:=i) (by omega)]
    rw [show j7 (fH (nth (fC [0,0,0,0,0] c.eU) i) [(nth b.ao i).Weight.ai]) [(nth b.ao i).Weight.ak]=aXF b (fC [0,0,0,0,0] c.eU) i from rfl,baU _ _ (by omega)]
   ·simp only [fh,bm]
  ·simp only [h1,h2,bne_self_eq_false,bm,Option.bind_some,ne_eq,not_true_eq_false,not_false_eq_true,if_true,if_false,ly h2,bw]
 ·simp only [h1,ne_eq,not_false_eq_true,if_true,ly h1,bw]
end Go.Proofs.YtabamagholjdcaaGreatDoor
namespace Go.Proofs.YtabamagholjdcaaGreatDoor
open Go.Lg Go.Proofs
set_option maxRecDepth 10000
set_option maxRecDepth 1000000 in
theorem aOb(b:aj):A5 b=some (!EL b && (cY b == 0)):=by
 unfold A5
 rw [aI6,Option.bind_some]
 cases hg:EL b with
 | true=>rfl
 | false=>rw [ajD (ajg hg)]; rfl
def Av(l:List Int)(k:Nat):Int:=if k < l.length then nth l k else 0
def RF(l:List Int):Prop:=∀ x∈l,0≤x∧x≤65535
theorem ak6{l:List Int}(h:RF l)(k:Nat):0≤Av l k∧Av l k≤65535:=by
 unfold Av
 split
 ·rename_i hk; exact h _ (iZ hk)
 ·omega
theorem aJt{l:List Int}(h:RF l)(k:Nat):Bo l (k:Int)=some (Av l k):=by
 unfold Bo Av
 by_cases hk:k < l.length
 ·have:=h _ (iZ hk)
  rw [dec_lt hk,bw,cj,bz hk,Option.bind_some,if_pos hk,dR (by omega) (by omega)]
 ·rw [if_neg hk,show decide ((k:Int) < (l.length:Int))=false by simp; omega,bm]
theorem a4e{a m:Int}(ha:0≤a)(hm:0 < m):0≤a.tmod m∧a.tmod m < m:=⟨Int.tmod_nonneg m ha,Int.tmod_lt_of_pos a hm⟩
end Go.Proofs.YtabamagholjdcaaGreatDoor
namespace Go.Proofs.YtabamagholjdcaaGreatDoor
open Go.Lg Go.Proofs
set_option maxRecDepth 10000
def hF{α S:Type}(ys:α→S→Option (S × Bool)):List α→S→Option (S × Bool)
 | [],s=>some (s,true)
 | a::l,s=>(ys a s).bind λ r=>if r.2=true then hF ys l r.1 else some (r.1,false)
theorem aeZ{α S:Type}(ys:α→S→Option (S × Bool)):∀ (l m:List α) (s:S),hF ys (l++m) s=(hF ys l s).bind λ r=>if r.2=true then hF ys m r.1 else some (r.1,false)
 | [],_,_=>by simp [hF]
 | a::l,m,s=>by
  simp only [List.cons_append,hF]
  cases ys a s with
  | none=>rfl
  | some r =>
   simp only [Option.bind_some]
   cases hr:r.2 with
   | true=>simp only [if_true]; exact aeZ ys l m r.1
   | false=>simp
theorem RX{α S X E:Type}{ys:α→S→Option (S × Bool)}{body:S × X→Option ((S × X) ⊕ (S ⊕ E))}(g:S→E)(x:Nat→X)(HB:Nat→List α)(n:Nat)
  (h:∀ j s r,j < n→hF ys (HB j) s=some r→body (s,x j)=some (if r.2=true then .inl (r.1,x (j+1)) else .inr (.inr (g r.1)))) (hn:∀ s,body (s,x n)=some (.inr (.inl s))) {s:S} {r:S × Bool}
  (hr:hF ys ((List.range n).flatMap HB) s=some r):bd body (s,x 0)=some (if r.2=true then .inl r.1 else .inr (g r.1)):=by
 have key:∀ k,k≤n→∀ s,hF ys ((List.range' (n - k) k).flatMap HB) s=some r→bd body (s,x (n - k))=some (if r.2=true then .inl r.1 else .inr (g r.1)):=by
  intro k
  induction k with
  | zero =>
   intro _ s hr
   simp only [List.range'_zero,List.flatMap_nil,hF,Option.some.injEq] at hr
   subst hr
   exact gW (hn s)
  | succ k ih =>
   intro hk s hr
   have e:n - k=n - (k+1)+1:=by omega
   rw [List.range'_succ,List.flatMap_cons,aeZ] at hr
   obtain ⟨q,hq,hr⟩:=af hr
   have hb:=h (n - (k+1)) s q (by omega) hq
   split at hr
   ·rename_i h2
    rw [if_pos h2] at hb
    rw [si hb,← e]
    exact ih (by omega) _ (by rw [e]; exact hr)
   ·rename_i h2
    rw [if_neg h2] at hb
    cases hr
    rw [gW hb]
    simp
 have:=key n (Nat.le_refl n) s (by rw [Nat.sub_self,← List.range_eq_range']; exact hr)
 rwa [Nat.sub_self] at this
theorem aOv{α X:Type}{body:List α × X→Option ((List α × X) ⊕ List α)}(x:Nat→X)(HB:Nat→List α)(n m:Nat)(acc:List α)(hm:∀ j,j < n→(HB j).length≤m)
  (h:∀ j l,j < n→l.length≤acc.length+j * m→body (l,x j)=some (.inl (l++HB j,x (j+1)))) (hn:∀ l,body (l,x n)=some (.inr l)):bd body (acc,x 0)=some (acc++(List.range n).flatMap HB):=by
 have hl:∀ j,j≤n→((List.range j).flatMap HB).length≤j * m:=by
  intro j
  induction j with
  | zero=>intro _; simp
  | succ j ih =>
   intro hj
   have:=ih (by omega)
   have:=hm j (by omega)
   rw [List.range_succ,List.flatMap_append,List.length_append,Nat.add_mul]
   simp only [List.flatMap_cons,List.flatMap_nil,List.append_nil]
   omega
 have:=tv (λ j=>(acc++(List.range j).flatMap HB,x j)) n (body:=body) (o:=acc++(List.range n).flatMap HB) (λ j hj=>?_) (hn _)
 ·simpa using this
 ·rw [h j _ hj (by rw [List.length_append]; have:=hl j (by omega); omega),List.range_succ,List.flatMap_append]
  simp
def nN(x:Reach):List Int:=(List.range (x.ak+1 - x.ai).toNat).map λ (j:Nat)=>x.ai+(j:Int)
theorem L5{x:Reach}{n:Int}:n∈nN x↔x.ai≤n∧n≤x.ak:=by
 simp only [nN,List.mem_map,List.mem_range]
 constructor
 ·rintro ⟨j,hj,rfl⟩; omega
 ·intro h; exact ⟨(n - x.ai).toNat,by omega,by omega⟩
theorem acw{x:Reach}(h:x.ak - x.ai < 3):(nN x).length≤3:=by simp [nN]; omega
def mY(b:aj):Nat→Nat→List (List Int)
 | 0,_=>[[]]
 | j+1,i=>(nN (nth b.ao i).Weight).flatMap λ n=>(mY b j (i+1)).map (n::·)
def pS(b:aj):Nat→List (List Int)
 | 0=>[[]]
 | i+1=>(pS b i).flatMap λ a=>(nN (nth b.ao i).Weight).map λ n=>a++[n]
def oL(b:aj):List (List Int):=mY b b.ao.length 0
theorem ahu(b:aj):∀ j i,(pS b i).flatMap (λ a=>(mY b j i).map (a++·))=pS b (i+j)
 | 0,i=>by simp [mY]
 | j+1,i=>by
  rw [show i+(j+1)=i+1+j by omega,← ahu b j (i+1)]
  simp only [pS,mY,List.map_flatMap,List.flatMap_assoc,List.map_map,List.flatMap_map]
  congr 1
  funext a
  congr 1
  funext n
  congr 1
  funext l
  simp
theorem ak9(b:aj):pS b b.ao.length=oL b:=by
 have:=ahu b b.ao.length 0
 rw [Nat.zero_add] at this
 rw [← this]
 simp [pS,oL]
theorem ahV(b:aj):∀ j i l,l∈mY b j i→l.length=j∧∀ k,k < j→(nth b.ao (i+k)).Weight.ai≤nth l k∧nth l k≤(nth b.ao (i+k)).Weight.ak
 | 0,_,l,h=>by simp [mY] at h; subst h; exact ⟨rfl,λ k hk=>by omega⟩
 | j+1,i,l,h=>by
  simp only [mY,List.mem_flatMap,List.mem_map] at h
  obtain ⟨n,hn,m,hm,rfl⟩:=h
  obtain ⟨h1,h2⟩:=ahV b j (i+1) m hm
  refine ⟨by simp [h1],λ k hk=>?_⟩
  cases k with
  | zero=>exact L5.1 hn
  | succ k =>
   have:=h2 k (by omega)
   rw [show i+1+k=i+(k+1) by omega] at this
   exact this
theorem ajd{b:aj}{l:List Int}(h:l∈oL b):l.length=b.ao.length∧∀ k,k < b.ao.length→(nth b.ao k).Weight.ai≤nth l k∧nth l k≤(nth b.ao k).Weight.ak:=by
 have:=ahV b b.ao.length 0 l h
 simpa using this
def bJ(b:aj):List cR:=(nN b.aa).flatMap λ n=>((oL b).filter (lh b n)).map λ w=>⟨n,w⟩
abbrev Z5:List Int:=[0,0,0,0,0]
def mS(c:cR):bt:=⟨c.aa,fC Z5 c.eU⟩
theorem aLc{pre:List Int}(h:pre.length < 5)(n:Int):(fC Z5 pre).set pre.length n=fC Z5 (pre++[n])∧∀ m:Int,(fC Z5 (pre++[m])).set pre.length n=fC Z5 (pre++[n]):=by
 match pre,h with
 | [],_=>exact ⟨rfl,λ _=>rfl⟩
 | [_],_=>exact ⟨rfl,λ _=>rfl⟩
 | [_,_],_=>exact ⟨rfl,λ _=>rfl⟩
 | [_,_,_],_=>exact ⟨rfl,λ _=>rfl⟩
 | [_,_,_,_],_=>exact ⟨rfl,λ _=>rfl⟩
def M7(l:List Int):Prop:=∀ i,i < l.length→0≤nth l i∧nth l i≤99
theorem aGY{l:List Int}{n:Int}(h:M7 l)(h0:0≤n)(h9:n≤99):M7 (l++[n]):=λ i hi=>by
 simp only [List.length_append,List.length_cons,List.length_nil] at hi
 by_cases hl:i < l.length
 ·rw [show nth (l++[n]) i=nth l i by unfold nth; rw [List.getD_eq_getElem?_getD,List.getD_eq_getElem?_getD,List.getElem?_append_left hl]]
  exact h i hl
 ·rw [show nth (l++[n]) i=n by unfold nth; rw [List.getD_eq_getElem?_getD,List.getElem?_append_right (by omega),show i - l.length=0 by omega]; rfl]
  exact ⟨h0,h9⟩
theorem arz{b:aj}{bI:Int}{w:List Int}(hb : -999≤bI∧bI≤999)(hl:w.length=b.ao.length)(h:M7 w):uI b bI w:=⟨hb,by omega,λ i hi=>h i (by omega)⟩
theorem agT{b:aj}(hv:Valid b){S:Type}(ys:bt→S→Option (S × Bool)){bI:Int}(hb : -999≤bI∧bI≤999):∀ (j k:Nat) (pre:List Int) (s:S) (r:S × Bool),pre.length+j=b.ao.length→j < k→M7 pre →
  hF ys ((((mY b j pre.length).map (pre++·)).filter (lh b bI)).map λ w=>mS ⟨bI,w⟩) s=some r→tz ys k ⟨bI,fC Z5 pre⟩ (pre.length:Int) b s=some r
 | 0,0,_,_,_,_,hk,_,_=>by omega
 | 0,k+1,pre,s,r,hl,_,v9,hr=>by
  rw [Nat.add_zero] at hl
  unfold tz
  have hf:=arz hb hl v9
  rw [show ((pre.length:Int) == (b.ao.length:Int))=true by rw [hl]; simp,bw,aly hv (abY hv hl hf),alJ hv hl,Option.bind_some]
  simp only [mY,List.map_cons,List.map_nil,List.append_nil] at hr
  cases hs:lh b bI pre with
  | true =>
   simp only [List.filter_cons,hs,if_true,List.filter_nil,List.map_cons,List.map_nil,hF] at hr
   obtain ⟨q,hq,hr⟩:=af hr
   rw [show ys ⟨bI,fC Z5 pre⟩ s=some q from hq]
   simp only [Bool.not_true,bm,Option.bind_some]
   split at hr
   ·rename_i h2; cases hr; rw [h2]
   ·rename_i h2; cases hr; simp at h2; rw [h2]
  | false =>
   simp [hs,hF] at hr
   subst hr
   rfl
 | j+1,0,_,_,_,_,hk,_,_=>by omega
 | j+1,k+1,pre,s,r,hl,hk,v9,hr=>by
  unfold tz
  have h5:=hv.n5
  have hw:=(hv.each pre.length (by omega)).weight
  rw [show ((pre.length:Int) == (b.ao.length:Int))=false by simp; omega,bm,cj,bz (by omega),Option.bind_some]
  generalize hX:(nth b.ao pre.length).Weight=X at hw
  have e0:(X.ai,fC Z5 pre)=(λ q:Nat=>(X.ai+(q:Int),if q=0 then fC Z5 pre else fC Z5 (pre++[X.ai+((q - 1:Nat):Int)]))) 0:=by simp
  rw [e0]
  refine (gp (RX (ys:=ys) (E:=S × Bool) (λ s=>(s,false)) (λ q:Nat=>(X.ai+(q:Int),if q=0 then fC Z5 pre else fC Z5 (pre++[X.ai+((q - 1:Nat):Int)])))
    (λ q=>(((mY b j (pre.length+1)).map ((pre++[X.ai+(q:Int)])++·)).filter (lh b bI)).map λ w=>mS ⟨bI,w⟩) (X.ak+1 - X.ai).toNat (λ q s r hq hr=>?_) (λ s=>?_) (s:=s) (r:=r) ?_)).trans ?_
  rotate_right
  ·cases h2:r.2 with
   | true=>simp only [if_true,Sum.elim_inl]; rw [← h2]
   | false=>simp only [Bool.false_eq_true,if_false,Sum.elim_inr]; rw [← h2]
  ·have yO:(if q=0 then fC Z5 pre else fC Z5 (pre++[X.ai+((q - 1:Nat):Int)])).set pre.length (X.ai+(q:Int))=fC Z5 (pre++[X.ai+(q:Int)]):=by
    have hs:=aLc (pre:=pre) (by omega) (X.ai+(q:Int))
    split
    ·exact hs.1
    ·exact hs.2 _
   have hlen:(if q=0 then fC Z5 pre else fC Z5 (pre++[X.ai+((q - 1:Nat):Int)])).length=5:=by
    split
    ·exact NV (by omega)
    ·exact NV (by simp; omega)
   have ih:=agT hv ys hb j k (pre++[X.ai+(q:Int)]) s r (by simp; omega) (by omega) (aGY v9 (by omega) (by omega)) (by simpa using hr)
   simp only [List.length_append,List.length_cons,List.length_nil,Nat.zero_add] at ih
   simp only [show decide (X.ai+(q:Int)≤X.ak)=true by simp; omega,bw,cj,Int.toNat_natCast,cK (i:=pre.length) (by omega),yO]
   rw [bz (by rw [hlen]; omega),Option.bind_some,ih,Option.bind_some]
   have e1:i64 (X.ai+(q:Int)+1)=X.ai+((q+1:Nat):Int):=by rw [dR (by omega) (by omega)]; omega
   cases r.2 with
   | true=>simp [e1,bm]
   | false=>simp [bw]
  ·simp only [show decide (X.ai+(((X.ak+1 - X.ai).toNat:Nat):Int)≤X.ak)=false by simp; omega,bm]
  ·rw [← hr]
   congr 1
   simp only [mY,hX,nN,List.flatMap_map,List.map_flatMap,List.filter_flatMap,List.map_map]
   congr 1
   funext q
   congr 2
   congr 1
   funext l
   simp
theorem abP{b:aj}(hv:Valid b){S:Type}(ys:bt→S→Option (S × Bool)){s:S}{r:S × Bool}(hr:hF ys ((bJ b).map mS) s=some r):qE ys b s=some r.1:=by
 unfold qE
 have h5:=hv.n5
 have hw:=hv.df
 generalize hX:b.aa=X at hw
 have e0:X.ai=(λ q:Nat=>X.ai+(q:Int)) 0:=by simp
 rw [e0]
 refine (gp (RX (ys:=ys) (E:=S) (λ s=>s) (λ q:Nat=>X.ai+(q:Int)) (λ q=>((oL b).filter (lh b (X.ai+(q:Int)))).map λ w=>mS ⟨X.ai+(q:Int),w⟩) (X.ak+1 - X.ai).toNat (λ q s r hq hr=>?_) (λ s=>?_) (s:=s) (r:=r) ?_)).trans ?_
 rotate_right
 ·cases h2:r.2 with
  | true=>simp
  | false=>simp
 ·have h:=agT hv ys (bI:=X.ai+(q:Int)) (by omega) b.ao.length 9 [] s r (by simp) (by omega) (λ i hi=>by simp at hi) (by simpa [oL] using hr)
  have h':tz ys 9 ⟨X.ai+(q:Int),[0,0,0,0,0]⟩ 0 b s=some r:=h
  have e1:i64 (X.ai+(q:Int)+1)=X.ai+((q+1:Nat):Int):=by rw [dR (by omega) (by omega)]; omega
  simp only [show decide (X.ai+(q:Int)≤X.ak)=true by simp; omega,bw,h',Option.bind_some,e1]
  cases r.2 with
  | true=>simp [bm]
  | false=>simp [bw]
 ·simp only [show decide (X.ai+(((X.ak+1 - X.ai).toNat:Nat):Int)≤X.ak)=false by simp; omega,bm]
 ·rw [← hr]
  congr 1
  simp only [bJ,hX,nN,List.flatMap_map,List.map_flatMap,List.map_map]
  rfl
theorem acv{b:aj}(hv:Valid b):∀ i,i≤b.ao.length→(pS b i).length≤3 ^ i
 | 0,_=>by simp [pS]
 | i+1,hi=>by
  have ih:=acv hv i (by omega)
  have hr:=acw (hv.each i (by omega)).weight.2.2.2
  have key:∀ l:List (List Int),(l.flatMap λ a=>(nN (nth b.ao i).Weight).map λ n=>a++[n]).length≤l.length * 3:=by
   intro l
   induction l with
   | nil=>simp
   | cons a l ih=>simp only [List.flatMap_cons,List.length_append,List.length_map,List.length_cons]; omega
  have:=key (pS b i)
  simp only [pS]
  rw [Nat.pow_succ]
  omega
theorem aeY{α β:Type}(f:α→β):∀ l:List α,l.flatMap (λ x=>[f x])=l.map f
 | []=>rfl
 | a::l=>by rw [List.flatMap_cons,aeY f l]; rfl
theorem ak8{i:Nat}(h:i≤5):3 ^ i≤243:=by
 match i,h with
 | 0,_=>decide
 | 1,_=>decide
 | 2,_=>decide
 | 3,_=>decide
 | 4,_=>decide
 | 5,_=>decide
end Go.Proofs.YtabamagholjdcaaGreatDoor
namespace Go.Proofs.YtabamagholjdcaaGreatDoor
open Go.Lg Go.Proofs
set_option maxRecDepth 10000
theorem abx{α S O:Type}{body:α→S→Option (S ⊕ O)}(I:Nat→S→Prop)(f:α→S→S):∀ (l:List α) (k:Nat) (s:S),I k s→(∀ j s a,j < k+l.length→I j s→a∈l→body a s=some (.inl (f a s))∧I (j+1) (f a s)) →
  hF (dq body) l (.inl s)=some (.inl (l.foldl (λ s a=>f a s) s),true)
 | [],_,_,_,_=>rfl
 | a::l,k,s,hI,h=>by
  obtain ⟨h1,h2⟩:=h k s a (by simp) hI (by simp)
  simp only [hF,dq,h1,Option.map_some,Option.bind_some,Sum.isLeft_inl,if_true,List.foldl_cons]
  exact abx I f l (k+1) _ h2 (λ j s a' hj hI ha=>h j s a' (by simp only [List.length_cons]; omega) hI (by simp [ha]))
def Ra(b:aj):Bool:=!(bJ b).isEmpty
theorem aoq{b:aj}(hv:Valid b):(oL b).length≤243:=by
 rw [← ak9]
 exact Nat.le_trans (acv hv _ (Nat.le_refl _)) (ak8 hv.n5)
theorem A7{b:aj}(hv:Valid b):(bJ b).length≤729:=by
 have h1:=aoq hv
 have h2:=acw hv.df.2.2.2
 have key:∀ l:List Int,(l.flatMap λ n=>((oL b).filter (lh b n)).map λ w=>(⟨n,w⟩:cR)).length≤l.length * 243:=by
  intro l
  induction l with
  | nil=>simp
  | cons a l ih =>
   have:=List.length_filter_le (lh b a) (oL b)
   simp only [List.flatMap_cons,List.length_append,List.length_map,List.length_cons]
   omega
 have:=key (nN b.aa)
 unfold bJ
 omega
theorem aZ5{b:aj}(hv:Valid b):A0 b=some (Ra b):=by
 unfold A0 Ra
 cases hc:bJ b with
 | nil =>
  rw [abP hv _ (r:=(.inl (),true)) (by rw [hc]; rfl)]
  rfl
 | cons c l =>
  rw [abP hv _ (r:=(.inr (),false)) (by rw [hc]; rfl)]
  rfl
def NQ(b:aj):Int × Int:=if cY b≠0 then (0,cY b) else ((bJ b).length,0)
theorem aJs{b:aj}(hs:Small b):oI b=some (NQ b):=by
 unfold oI NQ
 rw [ZV hs,Option.bind_some]
 by_cases h1:cY b=0
 ·have hv:=r7 hs h1
  have hl:=A7 hv
  simp only [h1,bne_self_eq_false,bm,ne_eq,not_true_eq_false,if_false]
  rw [show (⟨b.aB,⟨b.aa.ai,b.aa.ak⟩,b.ao,b.Out,b.aT⟩:aj)=b from rfl]
  rw [abP hv _ (r:=(.inl ((((bJ b).map mS).foldl (λ (s:Int) _=>s+1) 0)),true)) (abx (λ k s=>s=(k:Int)) (λ _ s=>s+1) _ 0 0 rfl (λ j s a hj hs _=>by
   subst hs
   simp only [List.length_map] at hj
   rw [cK (i:=j) (by omega)]
   exact ⟨rfl,rfl⟩))]
  have key:∀ (l:List bt) (s:Int),l.foldl (λ s _=>s+1) s=s+l.length:=by
   intro l
   induction l with
   | nil=>simp
   | cons a l ih=>intro s; rw [List.foldl_cons,ih]; simp; omega
  rw [Option.bind_some,Sum.elim_inl,key]
  simp
 ·simp only [h1,ne_eq,not_false_eq_true,if_true,ly h1,bw]
theorem aIm{b:aj}(hv:Valid b):DD (λ y s=>qE y b s)=some ((bJ b).map mS):=by
 unfold DD Gj
 have hl:=A7 hv
 have key:∀ (l a:List bt),l.foldl (λ s c=>s++[c]) a=a++l:=by
  intro l
  induction l with
  | nil=>simp
  | cons c l ih=>intro a; rw [List.foldl_cons,ih]; simp
 dsimp only
 rw [abP hv _ (r:=(.inl ((((bJ b).map mS).foldl (λ (s:List bt) c=>s++[c]) [])),true)) (abx (λ k s=>s.length=k) (λ c s=>s++[c]) _ 0 [] rfl (λ j s a hj hs _=>by
  simp only [List.length_map] at hj
  rw [mb (by simp; omega)]
  exact ⟨rfl,by simp [hs]⟩))]
 rw [key]
 rfl
def Z2:di:=⟨⟨0,⟨0,0⟩,[],[],[]⟩,[],mD⟩
def EZ(b:aj)(own:Int):di × Int :=
 if cY b≠0 then (Z2,cY b) else if own≠0 then (Z2,own) else if bJ b=[] then (Z2,9) else (⟨b,(bJ b).map mS,[]⟩,0)
theorem My{b:aj}(hs:Small b){f:aj→Option Int}{own:Int}(hf:cY b=0→f b=some own):nv b f=some (EZ b own):=by
 unfold nv EZ
 rw [ZV hs,Option.bind_some]
 by_cases h1:cY b=0
 ·have hv:=r7 hs h1
  simp only [h1,bne_self_eq_false,bm,ne_eq,not_true_eq_false,if_false,hf h1,Option.bind_some]
  by_cases h2:own=0
  ·simp only [h2,bne_self_eq_false,bm,not_true_eq_false,if_false,aIm hv,Option.bind_some,List.length_map]
   cases hc:bJ b with
   | nil=>rfl
   | cons c l =>
    rw [if_neg (by simp),show ((((c::l).length:Nat):Int) == 0)=false by simp; omega,bm]
  ·simp only [h2,not_false_eq_true,if_true,ly h2,bw]
   rfl
 ·simp only [h1,ne_eq,not_false_eq_true,if_true,ly h1,bw]
  rfl
end Go.Proofs.YtabamagholjdcaaGreatDoor
