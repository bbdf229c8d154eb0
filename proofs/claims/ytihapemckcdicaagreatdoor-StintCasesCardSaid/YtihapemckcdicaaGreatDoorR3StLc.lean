/- Plain laws of chapter 5, with what is sorted. Conditions: none. -/
import Derived.Test.YtihapemckcdicaaGreatDoorQWStC
import Derived.Test.YtihapemckcdicaaGreatDoorR3StL
import Derived.Sort.AssemblyPlain
namespace Go.Proofs.YtihapemckcdicaaGreatDoor
open Go.Lg Go.Proofs
set_option maxRecDepth 10000
set_option maxRecDepth 1000000 in
theorem aLw{b:an}(hv:Valid b){r:List (List Int)}(hl:r.length≤b.aA.length)(hr:∀ i,i < r.length→(nth r i).length≤1000):H4 b r=some ((List.range r.length).all (yA b r)):=by
 have hd:=hv.d4
 unfold H4
 rw [zL (n:=r.length) (yA b r) false (λ i hi=>?_) (by simp only [fj,bu])]
 ·cases (List.range r.length).all (yA b r) <;> rfl
 ·simp only [dec_lt hi,bF]
  rw [zL (n:=i) (λ j=>mK b j i || !meet (nth r i) (nth r j)) false (λ j hj=>?_) (by simp only [fj,bu])]
  ·unfold yA
   cases (List.range i).all λ j=>mK b j i || !meet (nth r i) (nth r j) with
   | true=>simp only [if_true,aM,Sum.elim_inl,cR (i:=i) (by omega)]
   | false=>rfl
  ·simp only [dec_lt hj,bF]
   rw [RP (l:=nth r i) (λ k=>!(nth r j).contains k || mK b j i) false (λ q hq=>?_) (by simp only [cF,bE hi,aM,fj,bu])]
   ·have e:((nth r i).all λ k=>!(nth r j).contains k || mK b j i)=(mK b j i || !meet (nth r i) (nth r j)):=by
     cases ha:mK b j i with
     | true=>simp
     | false =>
      rw [Bool.eq_iff_iff,Bool.false_or,Bool.not_eq_true',aj9,List.all_eq_true]
      constructor
      ·intro h k hk c
       have:=h k hk
       simp [c] at this
      ·intro h k hk
       have:=h k hk
       simpa using this
    rw [e]
    cases (mK b j i || !meet (nth r i) (nth r j)) with
    | true=>simp only [if_true,aM,Sum.elim_inl,cR (i:=j) (by omega)]
    | false=>rfl
   ·simp only [cF,bE hi,bE (show j < r.length by omega),aM,dec_lt hq,bF,bE hq,aNr (hr j (by omega)),cR (i:=q) (by have:=hr i hi; omega),aLR hv (show i < b.aA.length by omega) (show j < b.aA.length by omega),apP b i j]
    cases (nth r j).contains (nth (nth r i) q) with
    | false=>rfl
    | true=>cases mK b j i <;> rfl
open Go.Sort
theorem abB{S O:Type}{body:S→Option (S ⊕ O)}(I:S→Prop)(μ:S→Nat){Q:O→Prop}(h:∀ s,I s→(∃ s',body s=some (.inl s')∧I s'∧μ s' < μ s)∨∃ o,body s=some (.inr o)∧Q o):∀ s,I s→∃ o,bD body s=some o∧Q o:=by
 have key:∀ n s,μ s≤n→I s→∃ o,bD body s=some o∧Q o:=by
  intro n
  induction n with
  | zero =>
   intro s hn hI
   rcases h s hI with ⟨s',_,_,c⟩ | ⟨o,hb,hq⟩
   ·omega
   ·exact ⟨o,lO hb,hq⟩
  | succ n ih =>
   intro s hn hI
   rcases h s hI with ⟨s',hb,b,c⟩ | ⟨o,hb,hq⟩
   ·obtain ⟨o,ho,hq⟩:=ih s' (by omega) b
    exact ⟨o,by rw [vX hb,ho],hq⟩
   ·exact ⟨o,lO hb,hq⟩
 exact λ s hI=>key _ s (dD _) hI
theorem rz{S O β:Type}{body:S→Option (S ⊕ O)}{f:O→Option β}{P:β→Prop}(I:S→Prop)(μ:S→Nat)(Q:O→Prop){s:S}(hI:I s)(hf:∀ o,Q o→∃ b,f o=some b∧P b)(h:∀ s,I s→(∃ s',body s=some (.inl s')∧I s'∧μ s' < μ s)∨∃ o,body s=some (.inr o)∧Q o):∃ b,(bD body s).bind f=some b∧P b:=by
 obtain ⟨o,ho,hq⟩:=abB I μ h s hI
 rw [jK ho]
 exact hf o hq
theorem rC(x y:Int):gT x y=some (ltInt x y):=by
 unfold gT zW
 simp only [aM,dn,bu]
 rfl
theorem l5(l:List Int)(i:Nat):l.toArray[i]! = nth l i:=by
 unfold nth
 simp only [List.getElem!_toArray,List.getElem!_eq_getElem?_getD,rS]
def kN(l:List Int)(i j:Nat):List Int:=(l.set i (nth l j)).set j (nth l i)
theorem pS(l:List Int)(i j:Nat):(kN l i j).toArray=swp l.toArray i j:=by
 unfold kN swp
 rw [l5,l5]
 simp
theorem pd(l:List Int)(i j:Nat):(kN l i j).length=l.length:=by simp [kN]
theorem pQ{l:List Int}{i j:Nat}{x:Int}(h:j < l.length):(l.set i x)[j]? = some (nth (l.set i x) j):=bE (by simpa using h)
theorem sL{i j:Nat}(h:i≤1000000000)(hj:j≤i):i64 ((i:Int) - (j:Int))=((i - j:Nat):Int):=by rw [fZ (by omega) (by omega)]; omega
theorem yg{i j:Nat}(h:i≤1000000000)(hj:j≤1000000000):i64 ((i:Int)+(j:Int))=((i+j:Nat):Int):=by rw [fZ (by omega) (by omega)]; omega
theorem aiN{i:Nat}(h:i≤1000000000):i64 (((i+1:Nat):Int) - 1)=(i:Int):=by rw [fZ (by omega) (by omega)]; omega
theorem q7{i j:Nat}:decide ((i:Int) < (j:Int))=decide (i < j):=by simp
theorem PM{i j:Nat}:decide ((i:Int) > (j:Int))=decide (i > j):=by simp
theorem G5{i j:Nat}:decide ((i:Int)≤(j:Int))=decide (i≤j):=by simp
theorem KA{i j:Nat}:decide ((i:Int) ≥ (j:Int))=decide (i ≥ j):=by simp
abbrev lB(l:List Int):Prop:=l.length≤1000000
theorem ajK{l:List Int}{a b:Nat}(hl:lB l)(z:a≤b)(hb:b≤l.length):∃ l',Cv l a b=some l'∧l'.toArray=insertionSort ltInt l.toArray a b:=by
 unfold Cv insertionSort
 have hB:=hl
 unfold lB at hB
 rw [cR (by omega)]
 refine rz (λ s=>∃ (m:List Int) (i:Nat),s=(m,(i:Int))∧m.length=l.length∧insOuter ltInt a b i m.toArray=insOuter ltInt a b (a+1) l.toArray) (λ s=>b - s.2.toNat)
  (λ o=>o.toArray=insOuter ltInt a b (a+1) l.toArray) ⟨l,a+1,rfl,rfl,rfl⟩ (λ o hq=>⟨o,rfl,hq⟩) ?_
 ·rintro _ ⟨m,i,rfl,hm,hT⟩
  rw [insOuter] at hT
  by_cases hi:i < b
  ·rw [if_pos hi] at hT
   left
   obtain ⟨p,hp,r,hpq⟩:=abB (S:=List Int × Int) (O:=List Int) (body:=λ (fp:((List Int) × Int)) =>
    (((ae (decide (fp.2 > (a:Int)))
    ((idx fp.1 fp.2).bind λ g =>
    (idx fp.1 (i64 (fp.2 - 1))).bind λ k =>
    (gT g k).bind λ n =>
    some n)
    (some false)):Option Bool)).bind (λ (f:Bool) =>
    ae f
    ((idx fp.1 (i64 (fp.2 - 1))).bind λ xa =>
    (idx fp.1 fp.2).bind λ d =>
    (idx fp.1 fp.2).bind λ y =>
    (idx (fp.1.set fp.2.toNat xa) (i64 (fp.2 - 1))).bind λ w =>
    some (.inl ((fp.1.set fp.2.toNat xa).set (i64 (fp.2 - 1)).toNat d,i64 (fp.2 - 1))))
    (some (.inr fp.1)))) (λ s=>∃ (q:List Int) (j:Nat),s=(q,(j:Int))∧q.length=l.length∧j < q.length∧insInner ltInt a j q.toArray=insInner ltInt a i m.toArray) (λ s=>s.2.toNat)
    (Q:=λ o=>o.length=l.length∧o.toArray=insInner ltInt a i m.toArray) (by
     rintro _ ⟨q,j,rfl,hq,hj,c⟩
     cases j with
     | zero =>
      right
      refine ⟨q,?_,hq,c⟩
      rw [show decide (((0:Nat):Int) > (a:Int))=false by simp]
      rfl
     | succ j =>
      rw [insInner] at c
      dsimp only
      rw [PM,aiN (by omega)]
      simp only [cF,bE hj,bE (show j < q.length by omega),aM,rC,eD,pQ (show j < q.length by omega)]
      rw [l5,l5] at c
      by_cases hc:j+1 > a∧ltInt (nth q (j+1)) (nth q j)=true
      ·left
       rw [if_pos (by simp [hc.1,hc.2])] at c
       refine ⟨(kN q (j+1) j,(j:Int)),?_,⟨_,j,rfl,by rw [pd]; exact hq,by rw [pd]; omega,by rw [pS]; exact c⟩,by simp only [eD]; omega⟩
       rw [fN hc.1,bF,aM,hc.2]
       rfl
      ·right
       rw [if_neg (by simpa using hc)] at c
       refine ⟨q,?_,hq,c⟩
       by_cases h1:j+1 > a
       ·have h2:ltInt (nth q (j+1)) (nth q j)=false:=by simpa [h1] using hc
        rw [fN h1,bF,aM,h2]
        rfl
       ·rw [gE h1]
        rfl) (m,(i:Int)) ⟨m,i,rfl,hm,by omega,rfl⟩
   refine ⟨(p,((i+1:Nat):Int)),?_,⟨p,i+1,rfl,r,by rw [hpq]; exact hT⟩,by simp only [eD]; omega⟩
   dsimp only
   rw [q7,fN hi,bF,jK hp,cR (by omega)]
  ·rw [if_neg hi] at hT
   right
   refine ⟨m,?_,hT⟩
   dsimp only
   rw [q7,gE hi,bu]
theorem aMu{l:List Int}{a b:Nat}(hl:lB l)(d:a < b)(hb:b≤l.length):∃ l',zU l a b=some l'∧l'.toArray=reverseRange l.toArray a b:=by
 unfold zU reverseRange
 have hB:=hl
 unfold lB at hB
 rw [show i64 ((b:Int) - 1)=((b - 1:Nat):Int) from kE (by omega) (by omega)]
 refine rz (λ s=>∃ (m:List Int) (i j:Nat),s=(m,(i:Int),(j:Int))∧m.length=l.length∧j < b∧reverseLoop i j m.toArray=reverseLoop a (b - 1) l.toArray) (λ s=>s.2.2.toNat - s.2.1.toNat)
  (λ o=>o.toArray=reverseLoop a (b - 1) l.toArray) ⟨l,a,b - 1,rfl,rfl,by omega,rfl⟩ (λ o hq=>⟨o,rfl,hq⟩) ?_
 ·rintro _ ⟨m,i,j,rfl,hm,hj,hT⟩
  rw [reverseLoop] at hT
  dsimp only
  rw [q7]
  by_cases c:i < j
  ·rw [if_pos c] at hT
   left
   refine ⟨(kN m i j,((i+1:Nat):Int),((j - 1:Nat):Int)),?_,⟨_,i+1,j - 1,rfl,by rw [pd]; exact hm,by omega,by rw [pS]; exact hT⟩,by simp only [eD]; omega⟩
   rw [fN c,bF]
   simp only [cF,bE (show i < m.length by omega),bE (show j < m.length by omega),aM,eD,pQ (show j < m.length by omega),cR (i:=i) (by omega),kE (i:=j) (by omega) (by omega)]
   rfl
  ·rw [if_neg c] at hT
   right
   exact ⟨m,by rw [gE c]; rfl,hT⟩
theorem ajM{l:List Int}{r hi first:Nat}(hl:lB l)(hb:first+hi≤l.length)(hr:r≤1000000):∃ l',CA l r hi first=some l'∧l'.length=l.length∧l'.toArray=siftDown ltInt hi first r l.toArray:=by
 unfold CA
 have hB:=hl
 unfold lB at hB
 refine rz (λ s=>∃ (m:List Int) (q:Nat),s=(m,(q:Int))∧m.length=l.length∧q≤1000000∧siftDown ltInt hi first q m.toArray=siftDown ltInt hi first r l.toArray) (λ s=>hi - s.2.toNat)
  (λ o=>∃ m:List Int,(o = .inl m∨o = .inr m)∧m.length=l.length∧m.toArray=siftDown ltInt hi first r l.toArray) ⟨l,r,rfl,rfl,hr,rfl⟩ (λ o hq=>?_) ?_
 ·obtain ⟨m,hm,hml,b⟩:=hq
  rcases hm with rfl | rfl
  ·exact ⟨m,rfl,hml,b⟩
  ·exact ⟨m,rfl,hml,b⟩
 ·rintro _ ⟨m,q,rfl,hm,j,hT⟩
  rw [siftDown] at hT
  dsimp only
  have e1:i64 (i64 (2 * (q:Int))+1)=((2 * q+1:Nat):Int):=by rw [fZ (z:=2 * (q:Int)) (by omega) (by omega),fZ (by omega) (by omega)]; omega
  have e2:i64 (((2 * q+1:Nat):Int)+1)=((2 * q+2:Nat):Int):=by rw [fZ (by omega) (by omega)]; omega
  rw [e1,e2,KA,q7]
  by_cases h1:2 * q+1 ≥ hi
  ·rw [dif_pos h1] at hT
   right
   exact ⟨.inl m,by rw [fN h1]; rfl,m,.inl rfl,hm,hT⟩
  ·rw [dif_neg h1] at hT
   rw [gE h1,bu]
   have f1:i64 ((first:Int)+((2 * q+1:Nat):Int))=((first+(2 * q+1):Nat):Int):=yg (by omega) (by omega)
   have f2:i64 (((first+(2 * q+1):Nat):Int)+1)=((first+(2 * q+1)+1:Nat):Int):=cR (by omega)
   have f3:i64 ((first:Int)+(q:Int))=((first+q:Nat):Int):=yg (by omega) (by omega)
   have f4:i64 ((first:Int)+((2 * q+2:Nat):Int))=((first+(2 * q+2):Nat):Int):=yg (by omega) (by omega)
   rw [f1,f2,f3]
   simp only [l5] at hT
   have g0:m[first+q]? = some (nth m (first+q)):=bE (by omega)
   have g1:m[first+(2 * q+1)]? = some (nth m (first+(2 * q+1))):=bE (by omega)
   by_cases hc:(decide (2 * q+1+1 < hi) && ltInt (nth m (first+(2 * q+1))) (nth m (first+(2 * q+1)+1)))=true
   ·rw [if_pos hc] at hT
    simp only [jm,decide_eq_true_eq] at hc
    have g2:m[first+(2 * q+1)+1]? = some (nth m (first+(2 * q+1)+1)):=bE (by omega)
    have g:m[first+(2 * q+2)]? = some (nth m (first+(2 * q+2))):=bE (by omega)
    rw [fN (show 2 * q+2 < hi by omega),bF]
    simp only [cF,g1,g2,aM,rC,hc.2,bF,f4,g0,g]
    cases hx:ltInt (nth m (first+q)) (nth m (first+(2 * q+2))) with
    | false =>
     rw [hx] at hT
     right
     exact ⟨.inr m,rfl,m,.inr rfl,hm,by simpa using hT⟩
    | true =>
     rw [hx] at hT
     simp only [ek,oA,if_false] at hT
     rw [dif_pos (by omega)] at hT
     left
     refine ⟨(kN m (first+q) (first+(2 * q+2)),((2 * q+2:Nat):Int)),?_,⟨_,2 * q+2,rfl,by rw [pd]; exact hm,by omega,by rw [pS]; exact hT⟩,by simp only [eD]; omega⟩
     simp only [ek,bu,eD,pQ (show first+(2 * q+2) < m.length by omega),aM]
     rfl
   ·rw [if_neg hc] at hT
    have hp:(ae (decide (2 * q+2 < hi)) ((idx m ((first+(2 * q+1):Nat):Int)).bind λ d=>(idx m ((first+(2 * q+1)+1:Nat):Int)).bind λ c=>(gT d c).bind λ f=>some f) (some false):Option Bool)=some false:=by
     by_cases h2:2 * q+2 < hi
     ·have g2:m[first+(2 * q+1)+1]? = some (nth m (first+(2 * q+1)+1)):=bE (by omega)
      rw [fN h2,bF]
      simp only [cF,g1,g2,aM,rC]
      have i:2 * q+1+1 < hi:=h2
      simpa [i] using hc
     ·rw [gE h2,bu]
    rw [hp]
    simp only [cF,aM,bu,f1,g0,g1,rC]
    cases hx:ltInt (nth m (first+q)) (nth m (first+(2 * q+1))) with
    | false =>
     rw [hx] at hT
     right
     exact ⟨.inr m,rfl,m,.inr rfl,hm,by simpa using hT⟩
    | true =>
     rw [hx] at hT
     simp only [ek,oA,if_false] at hT
     left
     refine ⟨(kN m (first+q) (first+(2 * q+1)),((2 * q+1:Nat):Int)),?_,⟨_,2 * q+1,rfl,by rw [pd]; exact hm,by omega,by rw [pS]; exact hT⟩,by simp only [eD]; omega⟩
     simp only [ek,bu,eD,pQ (show first+(2 * q+1) < m.length by omega),aM]
     rfl
theorem aMo{l:List Int}{a b:Nat}(hl:lB l)(j:a < b)(hb:b≤l.length):∃ l',Cw l a b=some l'∧l'.toArray=heapSort ltInt l.toArray a b:=by
 unfold Cw heapSort
 have hB:=hl
 unfold lB at hB
 have e0:i64 ((b:Int) - (a:Int))=((b - a:Nat):Int):=sL (by omega) (by omega)
 have e1:i64 (((b - a:Nat):Int) - 1)=((b - a - 1:Nat):Int):=kE (by omega) (by omega)
 have e2:o7 ((b - a - 1:Nat):Int) 2=some (((b - a - 1) / 2:Nat):Int):=by
  unfold o7
  rw [if_neg (by omega),show (2:Int)=((2:Nat):Int) from rfl,← Int.ofNat_tdiv,fZ (by omega) (by omega)]
 rw [e0,e1,e2,aM]
 generalize hn:b - a=n
 have i:0 < n:=by omega
 refine rz (λ s=>∃ (m:List Int) (k:Nat),s=(m,(k:Int) - 1)∧m.length=l.length∧k≤1000000∧heapBuild ltInt n a k m.toArray=heapBuild ltInt n a ((n - 1) / 2+1) l.toArray) (λ s=>(s.2+1).toNat)
  (λ o=>o.length=l.length∧o.toArray=heapBuild ltInt n a ((n - 1) / 2+1) l.toArray) ⟨l,(n - 1) / 2+1,by simp,rfl,by omega,rfl⟩ (λ m hq=>?_) ?_
 ·obtain ⟨hm,g⟩:=hq
  have e3:(((n - 1:Nat):Int))=(n:Int) - 1:=by omega
  rw [e3,← g]
  refine rz (λ s=>∃ (q:List Int) (k:Nat),s=(q,(k:Int) - 1)∧q.length=l.length∧k≤n∧heapPop ltInt a k q.toArray=heapPop ltInt a n m.toArray) (λ s=>(s.2+1).toNat)
   (λ o=>o.toArray=heapPop ltInt a n m.toArray) ⟨m,n,rfl,hm,by omega,rfl⟩ (λ o hq=>⟨o,rfl,hq⟩) ?_
  rintro _ ⟨q,k,rfl,hq,hk,hT⟩
  dsimp only
  cases k with
  | zero =>
   right
   exact ⟨q,by rw [show decide (((0:Nat):Int) - 1 ≥ 0)=false by simp]; rfl,hT⟩
  | succ k =>
   left
   have c:((k+1:Nat):Int) - 1=(k:Int):=by omega
   have f1:i64 ((a:Int)+(k:Int))=((a+k:Nat):Int):=yg (by omega) (by omega)
   rw [heapPop,← pS] at hT
   obtain ⟨t,ht,f,d⟩:=ajM (l:=kN q a (a+k)) (r:=0) (hi:=k) (first:=a) (by unfold lB; rw [pd]; omega) (by rw [pd]; omega) (by omega)
   rw [pd] at f
   rw [← d] at hT
   refine ⟨(t,(k:Int) - 1),?_,⟨t,k,rfl,by omega,by omega,hT⟩,by simp only []; omega⟩
   rw [c,show decide ((k:Int) ≥ 0)=true by simp,bF]
   simp only [f1,cF,bE (show a < q.length by omega),bE (show a+k < q.length by omega),aM,eD,pQ (show a+k < q.length by omega)]
   rw [show ((q.set a (nth q (a+k))).set (a+k) (nth q a))=kN q a (a+k) from rfl,show (0:Int)=((0:Nat):Int) from rfl,ht,aM,fZ (by omega) (by omega)]
 ·rintro _ ⟨m,k,rfl,hm,hk,hT⟩
  dsimp only
  cases k with
  | zero =>
   right
   exact ⟨m,by rw [show decide (((0:Nat):Int) - 1 ≥ 0)=false by simp]; rfl,hm,hT⟩
  | succ k =>
   left
   have c:((k+1:Nat):Int) - 1=(k:Int):=by omega
   rw [heapBuild] at hT
   obtain ⟨t,ht,f,d⟩:=ajM (l:=m) (r:=k) (hi:=n) (first:=a) (by unfold lB; omega) (by omega) (by omega)
   rw [← d] at hT
   refine ⟨(t,(k:Int) - 1),?_,⟨t,k,rfl,by omega,by omega,hT⟩,by simp only []; omega⟩
   rw [c,show decide ((k:Int) ≥ 0)=true by simp,bF,ht,aM,fZ (by omega) (by omega)]
theorem ald{body:Int→Option (Int ⊕ Int)}{d:Array Int}{p:Int→Bool}{J:Nat}(h:∀ k:Nat,body (k:Int)=if (decide (k≤J) && p d[k]!)=true then some (.inl ((k+1:Nat):Int)) else some (.inr (k:Int)))(i:Nat):bD body (i:Int)=some ((scanUp p d J i:Nat):Int):=by
 have key:∀ n i:Nat,J+1 - i≤n→bD body (i:Int)=some ((scanUp p d J i:Nat):Int):=by
  intro n
  induction n with
  | zero =>
   intro i hn
   have hc:¬ (decide (i≤J) && p d[i]!)=true:=by simp; omega
   rw [scanUp,if_neg hc]
   exact lO (by rw [h,if_neg hc])
  | succ n ih =>
   intro i hn
   rw [scanUp]
   by_cases hc:(decide (i≤J) && p d[i]!)=true
   ·rw [if_pos hc]
    have hi:i≤J:=by simp at hc; exact hc.1
    rw [vX (s':=((i+1:Nat):Int)) (by rw [h,if_pos hc])]
    exact ih (i+1) (by omega)
   ·rw [if_neg hc]
    exact lO (by rw [h,if_neg hc])
 exact key _ i (dD _)
theorem acI{body:Int→Option (Int ⊕ Int)}{d:Array Int}{p:Int→Bool}{i:Nat}{J:Nat}(hi:0 < i)(h:∀ k:Nat,k≤J→body (k:Int)=if (decide (i≤k) && p d[k]!)=true then some (.inl ((k:Int) - 1)) else some (.inr (k:Int))):∀ j:Nat,j≤J→bD body (j:Int)=some ((scanDown p d i j:Nat):Int)
 | 0,hj=>by
  rw [scanDown]
  refine lO ?_
  rw [h 0 hj,if_neg (by simp; omega)]
 | j+1,hj=>by
  rw [scanDown]
  by_cases hc:(decide (i≤j+1) && p d[j+1]!)=true
  ·rw [if_pos hc,vX (s':=(j:Int)) (by rw [h _ hj,if_pos hc]; congr 2; omega)]
   exact acI hi h j (by omega)
  ·rw [if_neg hc]
   refine lO ?_
   rw [h _ hj,if_neg hc]
theorem acH{p:Int→Bool}{d:Array Int}{i j:Nat}(h:i≤j+1):i≤scanUp p d j i∧scanUp p d j i≤j+1:=by
 obtain ⟨h1,h2,_⟩:=scanUp_spec p d j _ i rfl
 exact ⟨h1,h2 h⟩
theorem V0(p:Int→Bool)(d:Array Int)(i j:Nat):scanDown p d i j≤j:=(scanDown_spec p d i j).1
theorem acJ{p q:Int→Bool}(hq:∀ x,q x=!p x){d:Array Int}{i j:Nat}(hi:0 < i)(h:¬ scanUp p d j i > scanDown q d (scanUp p d j i) j):scanUp p d j i < scanDown q d (scanUp p d j i) j:=by
 obtain ⟨u1,_,_,u4⟩:=scanUp_spec p d j _ i rfl
 obtain ⟨d1,_,_,d4⟩:=scanDown_spec q d (scanUp p d j i) j
 generalize scanUp p d j i=i2 at *
 generalize scanDown q d i2 j=j2 at *
 rcases Nat.lt_or_ge i2 j2 with h1 | h1
 ·exact h1
 ·have e:i2=j2:=by omega
  subst e
  have h2:=u4 (by omega)
  have h3:=d4 (by omega) (by omega)
  rw [hq,h2] at h3
  cases h3
theorem aMC{l:List Int}{a b p:Nat}(hl:lB l)(H:a≤p)(hpb:p < b)(hb:b≤l.length):∃ l',Cz l a b p=some (l',(((partition ltInt l.toArray a b p).1:Nat):Int),(partition ltInt l.toArray a b p).2.1)∧l'.toArray=(partition ltInt l.toArray a b p).2.2:=by
 unfold Cz partition
 have hB:=hl
 unfold lB at hB
 simp only [cF,bE (show p < l.length by omega),bE (show a < l.length by omega),aM,eD,pQ (show p < l.length by omega)]
 rw [show ((l.set a (nth l p)).set p (nth l a))=kN l a p from rfl]
 generalize hD:kN l a p=D
 have n:D.length=l.length:=by rw [← hD,pd]
 rw [← pS,hD]
 have B:D[a]? = some (nth D a):=bE (by omega)
 have eb:i64 ((b:Int) - 1)=((b - 1:Nat):Int):=kE (by omega) (by omega)
 rw [eb,cR (i:=a) (by omega)]
 have up:∀ (m:List Int) (J i:Nat),m.length=l.length→J < b→bD (λ (s:Int) =>
   ae (decide (s≤(J:Int)))
   ((idx m s).bind λ x=>(m[a]?).bind λ y=>(gT x y).bind λ c=>ae c (some (.inl (i64 (s+1)))) (some (.inr s)))
   (some (.inr s)):Int→Option (Int ⊕ Int)) (i:Int)=some ((scanUp (λ x=>ltInt x m.toArray[a]!) m.toArray J i:Nat):Int):=λ m J i hm hJ=>ald (λ k=>by
  rw [G5,l5,l5]
  by_cases hk:k≤J
  ·simp only [fN hk,bF,cF,bE (show k < m.length by omega),bE (show a < m.length by omega),aM,rC,Bool.true_and,cR (i:=k) (by omega)]
   cases ltInt (nth m k) (nth m a) <;> rfl
  ·simp [hk]) i
 have w:∀ (m:List Int) (i j:Nat),m.length=l.length→0 < i→j < b→bD (λ (s:Int) =>
   ae (decide ((i:Int)≤s))
   ((idx m s).bind λ x=>(m[a]?).bind λ y=>(gT x y).bind λ c=>ae (!c) (some (.inl (i64 (s - 1)))) (some (.inr s)))
   (some (.inr s)):Int→Option (Int ⊕ Int)) (j:Int)=some ((scanDown (λ x=>!ltInt x m.toArray[a]!) m.toArray i j:Nat):Int):=λ m i j hm hi hj=>acI (J:=j) hi (λ k hkj=>by
  rw [G5,l5,l5]
  by_cases hk:i≤k
  ·simp only [fN hk,bF,cF,bE (show k < m.length by omega),bE (show a < m.length by omega),aM,rC,Bool.true_and,fZ (z:=(k:Int) - 1) (by omega) (by omega)]
   cases ltInt (nth m k) (nth m a) <;> rfl
  ·simp [hk]) j (dD _)
 rw [jK (up D (b - 1) (a+1) n (by omega))]
 have f:=acJ (p:=λ x=>ltInt x D.toArray[a]!) (q:=λ x=>!ltInt x D.toArray[a]!) (λ _=>rfl) (d:=D.toArray) (i:=a+1) (j:=b - 1) (by omega)
 have hu:=acH (p:=λ x=>ltInt x D.toArray[a]!) (d:=D.toArray) (i:=a+1) (j:=b - 1) (by omega)
 generalize scanUp (λ x=>ltInt x D.toArray[a]!) D.toArray (b - 1) (a+1)=i at hu f
 rw [jK (w D i (b - 1) n (by omega) (by omega))]
 have hd:=V0 (λ x=>!ltInt x D.toArray[a]!) D.toArray i (b - 1)
 have r:=(scanDown_spec (λ x=>!ltInt x D.toArray[a]!) D.toArray i (b - 1)).2.1 (by omega)
 generalize scanDown (λ x=>!ltInt x D.toArray[a]!) D.toArray i (b - 1)=j at hd r f
 rw [PM]
 have A:D[j]? = some (nth D j):=bE (by omega)
 by_cases g:i > j
 ·simp only [g,decide_true,bF,if_true,cF,B,A,aM,eD,pQ (show a < D.length by omega)]
  exact ⟨kN D j a,rfl,pS _ _ _⟩
 ·have C:D[i]? = some (nth D i):=bE (by omega)
  have f:=f g
  simp only [g,decide_false,bu,if_false,cF,A,C,aM,eD,pQ (show j < D.length by omega),cR (i:=i) (by omega),kE (i:=j) (by omega) (by omega)]
  rw [show ((D.set i (nth D j)).set j (nth D i))=kN D i j from rfl,← pS]
  generalize hT:partLoop ltInt a (i+1) (j - 1) (kN D i j).toArray=T
  suffices hx:∃ z:List Int × Int × Bool,_=some z∧(z.2=(((T.1:Nat):Int),false)∧z.1.toArray=swp T.2 T.1 a) by
   obtain ⟨z,hz,h1,h2⟩:=hx
   exact ⟨z.1,by rw [← h1]; exact hz,h2⟩
  refine rz (λ s=>∃ (m:List Int) (i j:Nat),s=(m,(i:Int),(j:Int))∧m.length=l.length∧a < i∧i≤j+1∧j < b∧partLoop ltInt a i j m.toArray=T) (λ s=>s.2.2.toNat+1 - s.2.1.toNat)
   (λ o=>∃ m:List Int,o=(m,((T.1:Nat):Int))∧m.length=l.length∧m.toArray=T.2∧T.1 < l.length) ⟨_,i+1,j - 1,rfl,by rw [pd]; exact n,by omega,by omega,by omega,hT⟩ (λ o ho=>?_) ?_
  ·obtain ⟨m,rfl,hm,F,G⟩:=ho
   simp only [cF,bE (show a < m.length by omega),bE (show T.1 < m.length by omega),aM,eD,pQ (show a < m.length by omega)]
   exact ⟨(kN m T.1 a,_),rfl,rfl,by rw [pS,F]⟩
  ·rintro _ ⟨m,i,j,rfl,hm,hi,E,hj,hT⟩
   rw [partLoop_eq] at hT
   dsimp only
   rw [jK (up m j i hm hj)]
   have f:=acJ (p:=λ x=>ltInt x m.toArray[a]!) (q:=λ x=>!ltInt x m.toArray[a]!) (λ _=>rfl) (d:=m.toArray) (i:=i) (j:=j) (by omega)
   have hu:=acH (p:=λ x=>ltInt x m.toArray[a]!) (d:=m.toArray) (i:=i) (j:=j) E
   generalize scanUp (λ x=>ltInt x m.toArray[a]!) m.toArray j i=i2 at hu hT f
   rw [jK (w m i2 j hm (by omega) hj)]
   have hd:=V0 (λ x=>!ltInt x m.toArray[a]!) m.toArray i2 j
   have r:=(scanDown_spec (λ x=>!ltInt x m.toArray[a]!) m.toArray i2 j).2.1 (by omega)
   generalize scanDown (λ x=>!ltInt x m.toArray[a]!) m.toArray i2 j=j2 at hd r hT f
   rw [PM]
   by_cases g:i2 > j2
   ·rw [if_pos g] at hT
    right
    rw [fN g]
    subst hT
    exact ⟨(m,(j2:Int)),rfl,m,rfl,hm,rfl,by show j2 < _; omega⟩
   ·rw [if_neg g,← pS] at hT
    have f:=f g
    left
    rw [gE g,bu]
    refine ⟨(kN m i2 j2,((i2+1:Nat):Int),((j2 - 1:Nat):Int)),?_,⟨_,i2+1,j2 - 1,rfl,by rw [pd]; exact hm,by omega,by omega,by omega,hT⟩,by simp only [eD]; omega⟩
    simp only [cF,bE (show i2 < m.length by omega),bE (show j2 < m.length by omega),aM,eD,pQ (show j2 < m.length by omega),cR (i:=i2) (by omega),kE (i:=j2) (by omega) (by omega)]
    rfl
theorem aMA{l:List Int}{a b p:Nat}(hl:lB l)(C:a≤p)(hpb:p < b)(hb:b≤l.length):∃ l',Cy l a b p=some (l',(((partitionEqual ltInt l.toArray a b p).1:Nat):Int))∧l'.toArray=(partitionEqual ltInt l.toArray a b p).2:=by
 unfold Cy partitionEqual
 have hB:=hl
 unfold lB at hB
 simp only [cF,bE (show p < l.length by omega),bE (show a < l.length by omega),aM,eD,pQ (show p < l.length by omega)]
 rw [show ((l.set a (nth l p)).set p (nth l a))=kN l a p from rfl]
 generalize hD:kN l a p=D
 have n:D.length=l.length:=by rw [← hD,pd]
 rw [← pS,hD]
 have eb:i64 ((b:Int) - 1)=((b - 1:Nat):Int):=kE (by omega) (by omega)
 rw [eb,cR (i:=a) (by omega)]
 have up:∀ (m:List Int) (J i:Nat),m.length=l.length→J < b→bD (λ (s:Int) =>
   ae (decide (s≤(J:Int)))
   ((m[a]?).bind λ y=>(idx m s).bind λ x=>(gT y x).bind λ c=>ae (!c) (some (.inl (i64 (s+1)))) (some (.inr s)))
   (some (.inr s)):Int→Option (Int ⊕ Int)) (i:Int)=some ((scanUp (λ x=>!ltInt m.toArray[a]! x) m.toArray J i:Nat):Int):=λ m J i hm hJ=>ald (λ k=>by
  rw [G5,l5,l5]
  by_cases hk:k≤J
  ·simp only [fN hk,bF,cF,bE (show k < m.length by omega),bE (show a < m.length by omega),aM,rC,Bool.true_and,cR (i:=k) (by omega)]
   cases ltInt (nth m a) (nth m k) <;> rfl
  ·simp [hk]) i
 have w:∀ (m:List Int) (i j:Nat),m.length=l.length→0 < i→j < b→bD (λ (s:Int) =>
   ae (decide ((i:Int)≤s))
   ((m[a]?).bind λ y=>(idx m s).bind λ x=>(gT y x).bind λ c=>ae c (some (.inl (i64 (s - 1)))) (some (.inr s)))
   (some (.inr s)):Int→Option (Int ⊕ Int)) (j:Int)=some ((scanDown (λ x=>ltInt m.toArray[a]! x) m.toArray i j:Nat):Int):=λ m i j hm hi hj=>acI (J:=j) hi (λ k hkj=>by
  rw [G5,l5,l5]
  by_cases hk:i≤k
  ·simp only [fN hk,bF,cF,bE (show k < m.length by omega),bE (show a < m.length by omega),aM,rC,Bool.true_and,fZ (z:=(k:Int) - 1) (by omega) (by omega)]
   cases ltInt (nth m a) (nth m k) <;> rfl
  ·simp [hk]) j (dD _)
 generalize hT:partEqLoop ltInt a (a+1) (b - 1) D.toArray=T
 suffices hx:∃ z:List Int × Int,_=some z∧(z.2=((T.1:Nat):Int)∧z.1.toArray=T.2) by
  obtain ⟨z,hz,h1,h2⟩:=hx
  exact ⟨z.1,by rw [← h1]; exact hz,h2⟩
 refine rz (λ s=>∃ (m:List Int) (i j:Nat),s=(m,(i:Int),(j:Int))∧m.length=l.length∧a < i∧i≤j+1∧j < b∧partEqLoop ltInt a i j m.toArray=T) (λ s=>s.2.2.toNat+1 - s.2.1.toNat)
  (λ o=>∃ m:List Int,o=(m,((T.1:Nat):Int))∧m.toArray=T.2) ⟨_,a+1,b - 1,rfl,n,by omega,by omega,by omega,hT⟩ (λ o ho=>?_) ?_
 ·obtain ⟨m,rfl,B⟩:=ho
  exact ⟨_,rfl,rfl,B⟩
 ·rintro _ ⟨m,i,j,rfl,hm,hi,A,hj,hT⟩
  rw [partEqLoop_eq] at hT
  dsimp only
  rw [jK (up m j i hm hj)]
  have g:=acJ (p:=λ x=>!ltInt m.toArray[a]! x) (q:=λ x=>ltInt m.toArray[a]! x) (λ _=>by simp) (d:=m.toArray) (i:=i) (j:=j) (by omega)
  have hu:=acH (p:=λ x=>!ltInt m.toArray[a]! x) (d:=m.toArray) (i:=i) (j:=j) A
  generalize scanUp (λ x=>!ltInt m.toArray[a]! x) m.toArray j i=i2 at hu hT g
  rw [jK (w m i2 j hm (by omega) hj)]
  have hd:=V0 (λ x=>ltInt m.toArray[a]! x) m.toArray i2 j
  have r:=(scanDown_spec (λ x=>ltInt m.toArray[a]! x) m.toArray i2 j).2.1 (by omega)
  generalize scanDown (λ x=>ltInt m.toArray[a]! x) m.toArray i2 j=j2 at hd r hT g
  rw [PM]
  by_cases f:i2 > j2
  ·rw [if_pos f] at hT
   right
   rw [fN f]
   subst hT
   exact ⟨(m,(i2:Int)),rfl,m,rfl,rfl⟩
  ·rw [if_neg f,← pS] at hT
   have g:=g f
   left
   rw [gE f,bu]
   refine ⟨(kN m i2 j2,((i2+1:Nat):Int),((j2 - 1:Nat):Int)),?_,⟨_,i2+1,j2 - 1,rfl,by rw [pd]; exact hm,by omega,by omega,by omega,hT⟩,by simp only [eD]; omega⟩
   simp only [cF,bE (show i2 < m.length by omega),bE (show j2 < m.length by omega),aM,eD,pQ (show j2 < m.length by omega),cR (i:=i2) (by omega),kE (i:=j2) (by omega) (by omega)]
   rfl
theorem aMy{l:List Int}{a b:Nat}(hl:lB l)(an:a < b)(hb:b≤l.length):∃ l',yp l a b=some (l',(partialInsertionSort ltInt l.toArray a b).2)∧l'.toArray=(partialInsertionSort ltInt l.toArray a b).1:=by
 unfold yp partialInsertionSort
 have hB:=hl
 unfold lB at hB
 generalize hT:partialIns ltInt a b 5 (a+1) l.toArray=T
 suffices hx:∃ z:List Int × Bool,_=some z∧(z.2=T.2∧z.1.toArray=T.1) by
  obtain ⟨z,hz,h1,h2⟩:=hx
  exact ⟨z.1,by rw [← h1]; exact hz,h2⟩
 rw [cR (i:=a) (by omega)]
 refine rz (λ s=>∃ (m:List Int) (i k:Nat),s=(m,(i:Int),((5 - k:Nat):Int))∧k≤5∧m.length=l.length∧a < i∧i≤b∧partialIns ltInt a b k i m.toArray=T) (λ s=>5 - s.2.2.toNat)
  (λ o=>∃ m:List Int,(o = .inl m∧T.2=false∨o = .inr (m,T.2))∧m.toArray=T.1) ⟨l,a+1,5,rfl,dD _,rfl,by omega,by omega,hT⟩ (λ o ho=>?_) ?_
 ·obtain ⟨m,ho,R⟩:=ho
  rcases ho with ⟨rfl,h2⟩ | rfl
  ·exact ⟨(m,false),rfl,h2.symm,R⟩
  ·exact ⟨(m,T.2),rfl,rfl,R⟩
 ·rintro _ ⟨m,i,k,rfl,ao,hm,af,r,hT⟩
  dsimp only
  cases k with
  | zero =>
   rw [partialIns] at hT
   subst hT
   right
   exact ⟨.inl m,rfl,m,.inl ⟨rfl,rfl⟩,rfl⟩
  | succ k =>
   rw [partialIns] at hT
   rw [show decide (((5 - (k+1):Nat):Int) < 5)=true by simp; omega,bF]
   have ak:∀ i:Nat,a < i→i≤b→bD (λ (g:Int) =>
     ae (decide (g < (b:Int)))
     ((idx m g).bind λ E =>
     (idx m (i64 (g - 1))).bind λ F =>
     (gT E F).bind λ G =>
     ae (!G)
     (some (.inl (i64 (g+1))))
     (some (.inr g)))
     (some (.inr g)):Int→Option (Int ⊕ Int)) (i:Int)=some ((scanSorted ltInt m.toArray b i:Nat):Int)∧i≤scanSorted ltInt m.toArray b i∧scanSorted ltInt m.toArray b i≤b:=by
    have key:∀ n i:Nat,b - i≤n→a < i→i≤b→bD (λ (g:Int) =>
      ae (decide (g < (b:Int)))
      ((idx m g).bind λ E =>
      (idx m (i64 (g - 1))).bind λ F =>
      (gT E F).bind λ G =>
      ae (!G)
      (some (.inl (i64 (g+1))))
      (some (.inr g)))
      (some (.inr g)):Int→Option (Int ⊕ Int)) (i:Int)=some ((scanSorted ltInt m.toArray b i:Nat):Int)∧i≤scanSorted ltInt m.toArray b i∧scanSorted ltInt m.toArray b i≤b:=by
     intro n
     induction n with
     | zero =>
      intro i hn hi r
      have:¬ i < b:=by omega
      rw [scanSorted,if_neg (by simp [this])]
      exact ⟨lO (by rw [q7,gE this,bu]),dD _,r⟩
     | succ n ih =>
      intro i hn hi r
      rw [scanSorted,l5,l5]
      by_cases h1:i < b
      ·have g1:m[i]? = some (nth m i):=bE (by omega)
       have g2:m[i - 1]? = some (nth m (i - 1)):=bE (by omega)
       cases hx:ltInt (nth m i) (nth m (i - 1)) with
       | true =>
        rw [if_neg (by simp)]
        refine ⟨lO ?_,dD _,r⟩
        simp only [q7,fN h1,bF,kE (i:=i) (by omega) (by omega),cF,g1,g2,aM,rC,hx,ek,bu]
       | false =>
        rw [if_pos (by simp [h1])]
        obtain ⟨q1,P,K⟩:=ih (i+1) (by omega) (by omega) (by omega)
        refine ⟨?_,by omega,K⟩
        rw [vX (s':=((i+1:Nat):Int)) (by simp only [q7,fN h1,bF,kE (i:=i) (by omega) (by omega),cF,g1,g2,aM,rC,hx,Bool.not_false,cR (i:=i) (by omega)])]
        exact q1
      ·rw [if_neg (by simp [h1])]
       exact ⟨lO (by rw [q7,gE h1,bu]),dD _,r⟩
    exact λ i hi r=>key _ i (dD _) hi r
   obtain ⟨q1,P,K⟩:=ak i af r
   rw [jK q1]
   generalize scanSorted ltInt m.toArray b i=i2 at P K hT
   dsimp only at hT ⊢
   rw [show (((i2:Nat):Int) == ((b:Nat):Int))=decide (i2=b) by rw [Bool.eq_iff_iff,beq_iff_eq,decide_eq_true_eq]; omega]
   by_cases h1:i2=b
   ·rw [if_pos h1] at hT
    subst hT
    right
    exact ⟨.inr (m,true),by rw [fN h1]; rfl,m,.inr rfl,rfl⟩
   ·rw [if_neg h1] at hT
    rw [gE h1,bu,sL (i:=b) (j:=a) (by omega) (by omega),show decide (((b - a:Nat):Int) < 50)=decide (b - a < 50) from q7 (j:=50)]
    by_cases h2:b - a < 50
    ·rw [if_pos h2] at hT
     subst hT
     right
     exact ⟨.inr (m,false),by rw [fN h2]; rfl,m,.inr rfl,rfl⟩
    ·rw [if_neg h2] at hT
     rw [gE h2,bu]
     left
     have g1:m[i2]? = some (nth m i2):=bE (by omega)
     have g2:m[i2 - 1]? = some (nth m (i2 - 1)):=bE (by omega)
     simp only [kE (i:=i2) (by omega) (by omega),cF,g1,g2,aM,eD,pQ (show i2 - 1 < m.length by omega)]
     rw [show ((m.set i2 (nth m (i2 - 1))).set (i2 - 1) (nth m i2))=kN m i2 (i2 - 1) from rfl]
     rw [← pS] at hT
     generalize hS:kN m i2 (i2 - 1)=S at hT
     have N:S.length=l.length:=by rw [← hS,pd]; exact hm
     have ad:∃ D:List Int,((((ae (decide (i64 ((i2:Int) - (a:Int)) ≥ 2))
       ((bD (O:=(List Int)) (λ (d:((List Int) × Int)) =>
       ae (decide (d.2 ≥ 1))
       ((idx d.1 d.2).bind λ W =>
       (idx d.1 (i64 (d.2 - 1))).bind λ X =>
       (gT W X).bind λ Z =>
       ae (!Z)
       (some (.inr d.1))
       ((idx d.1 (i64 (d.2 - 1))).bind λ M =>
       (idx d.1 d.2).bind λ Y =>
       (idx d.1 d.2).bind λ al =>
       (idx (d.1.set d.2.toNat M) (i64 (d.2 - 1))).bind λ am =>
       some (.inl ((d.1.set d.2.toNat M).set (i64 (d.2 - 1)).toNat Y,i64 (d.2 - 1)))))
       (some (.inr d.1))) (S,((i2 - 1:Nat):Int))).bind (λ (V:(List Int)) =>
       some V))
       (some S)):Option (List Int)))=some D)∧D.length=l.length∧D.toArray=if i2 - a ≥ 2 then shiftDown ltInt (i2 - 1) S.toArray else S.toArray:=by
      rw [sL (i:=i2) (j:=a) (by omega) (by omega),show decide (((i2 - a:Nat):Int) ≥ 2)=decide (i2 - a ≥ 2) from KA (j:=2)]
      by_cases h3:i2 - a ≥ 2
      ·rw [fN h3,bF,if_pos h3]
       refine rz (λ s=>∃ (q:List Int) (j:Nat),s=(q,(j:Int))∧q.length=l.length∧j < l.length∧shiftDown ltInt j q.toArray=shiftDown ltInt (i2 - 1) S.toArray) (λ s=>s.2.toNat)
        (λ o=>o.length=l.length∧o.toArray=shiftDown ltInt (i2 - 1) S.toArray) ⟨S,i2 - 1,rfl,N,by omega,rfl⟩ (λ o ho=>⟨o,rfl,ho⟩) ?_
       rintro _ ⟨q,j,rfl,hq,hj,f⟩
       dsimp only
       cases j with
       | zero=>right; exact ⟨q,rfl,hq,f⟩
       | succ j =>
        rw [shiftDown,l5,l5] at f
        rw [show decide (((j+1:Nat):Int) ≥ 1)=true by simp; omega,bF,aiN (by omega)]
        simp only [cF,bE (show j+1 < q.length by omega),bE (show j < q.length by omega),aM,rC,eD,pQ (show j < q.length by omega)]
        cases hx:ltInt (nth q (j+1)) (nth q j) with
        | false=>rw [hx] at f; right; exact ⟨q,rfl,hq,by simpa using f⟩
        | true =>
         rw [hx] at f
         simp only [ek,oA,if_false] at f
         left
         exact ⟨(kN q (j+1) j,(j:Int)),rfl,⟨_,j,rfl,by rw [pd]; exact hq,by omega,by rw [pS]; exact f⟩,by simp only [eD]; omega⟩
      ·rw [gE h3,bu,if_neg h3]
       exact ⟨S,rfl,N,rfl⟩
     obtain ⟨D,ah,L,aj⟩:=ad
     rw [ah,aM]
     rw [← aj] at hT
     have U:∃ p:List Int,p.length=l.length∧p.toArray=(if b - i2 ≥ 2 then shiftUp ltInt b (i2+1) D.toArray else D.toArray)∧(b - i2 ≥ 2→bD (O:=(List Int)) (λ (c:((List Int) × Int)) =>
       ae (decide (c.2 < (b:Int)))
       ((idx c.1 c.2).bind λ A =>
       (idx c.1 (i64 (c.2 - 1))).bind λ B =>
       (gT A B).bind λ H =>
       ae (!H)
       (some (.inr c.1))
       ((idx c.1 (i64 (c.2 - 1))).bind λ y =>
       (idx c.1 c.2).bind λ C =>
       (idx c.1 c.2).bind λ ab =>
       (idx (c.1.set c.2.toNat y) (i64 (c.2 - 1))).bind λ ac =>
       some (.inl ((c.1.set c.2.toNat y).set (i64 (c.2 - 1)).toNat C,i64 (c.2+1)))))
       (some (.inr c.1))) (D,((i2+1:Nat):Int))=some p):=by
      by_cases h3:b - i2 ≥ 2
      ·rw [if_pos h3]
       obtain ⟨p,J,I,w⟩:=abB (S:=List Int × Int) (O:=List Int) (body:=λ (c:((List Int) × Int)) =>
        ae (decide (c.2 < (b:Int)))
        ((idx c.1 c.2).bind λ A =>
        (idx c.1 (i64 (c.2 - 1))).bind λ B =>
        (gT A B).bind λ H =>
        ae (!H)
        (some (.inr c.1))
        ((idx c.1 (i64 (c.2 - 1))).bind λ y =>
        (idx c.1 c.2).bind λ C =>
        (idx c.1 c.2).bind λ ab =>
        (idx (c.1.set c.2.toNat y) (i64 (c.2 - 1))).bind λ ac =>
        some (.inl ((c.1.set c.2.toNat y).set (i64 (c.2 - 1)).toNat C,i64 (c.2+1)))))
        (some (.inr c.1))) (λ s=>∃ (q:List Int) (j:Nat),s=(q,(j:Int))∧q.length=l.length∧0 < j∧shiftUp ltInt b j q.toArray=shiftUp ltInt b (i2+1) D.toArray) (λ s=>b - s.2.toNat)
        (Q:=λ o=>o.length=l.length∧o.toArray=shiftUp ltInt b (i2+1) D.toArray) (by
         rintro _ ⟨q,j,rfl,hq,hj,f⟩
         rw [shiftUp] at f
         dsimp only
         rw [q7]
         by_cases h4:j < b
         ·rw [if_pos h4,l5,l5] at f
          rw [fN h4,bF,kE (i:=j) (by omega) hj]
          simp only [cF,bE (show j < q.length by omega),bE (show j - 1 < q.length by omega),aM,rC,eD,pQ (show j - 1 < q.length by omega),cR (i:=j) (by omega)]
          cases hx:ltInt (nth q j) (nth q (j - 1)) with
          | false=>rw [hx] at f; right; exact ⟨q,rfl,hq,by simpa using f⟩
          | true =>
           rw [hx] at f
           simp only [ek,oA,if_false] at f
           left
           exact ⟨(kN q j (j - 1),((j+1:Nat):Int)),rfl,⟨_,j+1,rfl,by rw [pd]; exact hq,by omega,by rw [pS]; exact f⟩,by simp only [eD]; omega⟩
         ·rw [if_neg h4] at f
          right
          exact ⟨q,by rw [gE h4,bu],hq,f⟩) (D,((i2+1:Nat):Int)) ⟨D,i2+1,rfl,L,by omega,rfl⟩
       exact ⟨p,I,w,λ _=>J⟩
      ·rw [if_neg h3]
       exact ⟨D,L,rfl,λ h=>absurd h h3⟩
     obtain ⟨p,I,w,J⟩:=U
     rw [← w] at hT
     refine ⟨(p,(i2:Int),((5 - k:Nat):Int)),?_,⟨p,i2,k,rfl,by omega,I,by omega,by omega,hT⟩,by simp only [eD]; omega⟩
     have ag:i64 (((5 - (k+1):Nat):Int)+1)=((5 - k:Nat):Int):=by rw [fZ (by omega) (by omega)]; omega
     rw [sL (i:=b) (j:=i2) (by omega) (by omega),show decide (((b - i2:Nat):Int) ≥ 2)=decide (b - i2 ≥ 2) from KA (j:=2),cR (i:=i2) (by omega),ag]
     by_cases h3:b - i2 ≥ 2
     ·rw [fN h3,bF,jK (J h3)]
     ·rw [gE h3,bu]
      rw [if_neg h3] at w
      rw [show p=D from by simpa using w]
theorem amC(z:Int):IntKind.wrap .u64 z=z.emod 18446744073709551616:=by
 simp [IntKind.wrap,IntKind.bits,IntKind.signed]
 rfl
theorem amD(z:Int):0≤IntKind.wrap .u64 z∧IntKind.wrap .u64 z < 18446744073709551616:=by
 rw [amC]
 exact ⟨Int.emod_nonneg _ (by omega),Int.emod_lt_of_pos _ (by omega)⟩
theorem amE{z:Int}(h0:0≤z)(h1:z < 18446744073709551616):IntKind.wrap .u64 z=z:=by
 rw [amC]
 exact Int.emod_eq_of_lt h0 h1
theorem alg{a b:Int}(hb:0≤b):∃ z,Ay .u64 a b=some z∧0≤z∧z < 18446744073709551616:=by
 unfold Ay
 rw [if_neg (by omega)]
 exact ⟨_,rfl,amD _⟩
theorem aP0{a b:Int}(hb:0≤b):∃ z,mD .u64 a b=some z:=by
 unfold mD
 rw [if_neg (by omega)]
 exact ⟨_,rfl⟩
theorem adZ(a b:Int):∃ z,fT .xor .u64 a b=some z∧0≤z∧z < 18446744073709551616:=⟨_,rfl,amD _⟩
theorem aMH(x:Int):∃ y,E5 x=some (y,y)∧0≤y∧y < 18446744073709551616:=by
 unfold E5
 obtain ⟨a,ha,_⟩:=alg (a:=x) (b:=13) (by omega)
 rw [ha,aM]
 obtain ⟨c,hc,_⟩:=adZ x a
 rw [hc,aM]
 obtain ⟨d,hd⟩:=aP0 (a:=c) (b:=7) (by omega)
 rw [hd,aM]
 obtain ⟨e,he,_⟩:=adZ c d
 rw [he,aM]
 obtain ⟨f,hf,_⟩:=alg (a:=e) (b:=17) (by omega)
 rw [hf,aM]
 obtain ⟨g,hg,h0,h1⟩:=adZ e f
 rw [hg,aM]
 exact ⟨g,rfl,h0,h1⟩
theorem apM{a m:Int}(hm:0≤m)(b:m < 18446744073709551616):∃ z:Nat,fT .and .u64 a m=some (z:Int)∧(z:Int)≤m:=by
 unfold fT
 simp only
 have h1:(BitVec.ofInt IntKind.u64.bits a &&& BitVec.ofInt IntKind.u64.bits m).toNat≤(BitVec.ofInt IntKind.u64.bits m).toNat:=by
  rw [BitVec.toNat_and]
  exact Nat.and_le_right
 have h2:(BitVec.ofInt IntKind.u64.bits m).toNat=m.toNat:=by
  rw [BitVec.toNat_ofInt]
  have:((2 ^ IntKind.u64.bits:Nat):Int)=18446744073709551616:=by decide
  rw [this,Int.emod_eq_of_lt hm b]
 rw [h2] at h1
 generalize (BitVec.ofInt IntKind.u64.bits a &&& BitVec.ofInt IntKind.u64.bits m).toNat=z at h1
 exact ⟨z,by rw [amE (by omega) (by omega)],by omega⟩
def ai8(n:Nat):Bool:=(match Vz (IntKind.wrap .u64 (n:Int)) with | some k=>decide (0≤k) && decide (k≤64) | none=>false) && (decide (n < 8) || match VE (n:Int) with | some M=>decide ((n:Int) < M) && decide (M≤2 * (n:Int)) | none=>false)
set_option maxRecDepth 1000000 in
theorem aKV:((List.range 1024).all ai8)=true:=by decide +kernel
theorem ai9{n:Nat}(h:n < 1024):(∃ k:Nat,Cu (IntKind.wrap .u64 (n:Int))=some (k:Int)∧k≤64)∧(8≤n→∃ M:Nat,E4 (n:Int)=some (M:Int)∧n < M∧M≤2 * n):=by
 have:=aKV
 rw [List.all_eq_true] at this
 have h1:=this n (List.mem_range.2 h)
 simp only [ai8,jm,Bool.or_eq_true,decide_eq_true_eq] at h1
 obtain ⟨h1,h2⟩:=h1
 constructor
 ·cases hc:Vz (IntKind.wrap .u64 (n:Int)) with
  | none=>rw [hc] at h1; cases h1
  | some k =>
   rw [hc] at h1
   simp only [jm,decide_eq_true_eq] at h1
   exact ⟨k.toNat,by rw [Int.toNat_of_nonneg h1.1]; exact aKf _ _ hc,by omega⟩
 ·intro h8
  rcases h2 with h2 | h2
  ·omega
  ·cases hc:VE (n:Int) with
   | none=>rw [hc] at h2; cases h2
   | some M =>
    rw [hc] at h2
    simp only [jm,decide_eq_true_eq] at h2
    exact ⟨M.toNat,by rw [Int.toNat_of_nonneg (by omega)]; exact aKs _ _ hc,by omega,by omega⟩
theorem acz{n d:Nat}(h:n≤1000000000)(hd:0 < d):o7 (n:Int) (d:Int)=some ((n / d:Nat):Int):=by
 unfold o7
 have:=Nat.div_le_self n d
 rw [if_neg (by omega),← Int.ofNat_tdiv]
 generalize n / d=q at this
 rw [fZ (by omega) (by omega)]
abbrev nq(l:List Int):Prop:=l.length≤1000
theorem aMr{l:List Int}{a b:Nat}(hl:nq l)(q:a≤b)(hb:b≤l.length):∃ l',zT l a b=some l'∧PermIn a b l.toArray l'.toArray:=by
 unfold zT
 have hB:=hl
 unfold nq at hB
 rw [sL (i:=b) (j:=a) (by omega) (by omega),show decide (((b - a:Nat):Int) ≥ 8)=decide (b - a ≥ 8) from KA (j:=8)]
 by_cases h8:b - a ≥ 8
 case neg=>exact ⟨l,by rw [gE h8,bu],permIn_refl _ _ _⟩
 rw [fN h8,bF]
 obtain ⟨M,hM,w,A⟩:=(ai9 (n:=b - a) (by omega)).2 h8
 have f:o7 ((b - a:Nat):Int) 4=some (((b - a) / 4:Nat):Int):=acz (d:=4) (by omega) (by omega)
 rw [hM,aM,f,aM]
 have e1:i64 ((((b - a) / 4:Nat):Int) * 2)=(((b - a) / 4 * 2:Nat):Int):=by rw [fZ (by omega) (by omega)]; omega
 rw [e1,yg (i:=a) (j:=(b - a) / 4 * 2) (by omega) (by omega),kE (i:=a+(b - a) / 4 * 2) (by omega) (by omega)]
 refine rz (λ s=>∃ (m:List Int) (i:Nat) (r:Int),s=(m,(i:Int),r)∧a≤i∧m.length=l.length∧PermIn a b l.toArray m.toArray) (λ s=>b - s.2.1.toNat)
  (λ o=>PermIn a b l.toArray o.toArray) ⟨l,a+(b - a) / 4 * 2 - 1,_,rfl,by omega,rfl,permIn_refl _ _ _⟩ (λ o ho=>⟨o,rfl,ho⟩) ?_
 rintro _ ⟨m,i,r,rfl,g,hm,hP⟩
 dsimp only
 rw [aM,e1,yg (i:=a) (j:=(b - a) / 4 * 2) (by omega) (by omega),cR (i:=a+(b - a) / 4 * 2) (by omega),amE (z:=(M:Int) - 1) (by omega) (by omega),G5]
 by_cases hi:i≤a+(b - a) / 4 * 2+1
 ·left
  rw [fN hi,bF]
  obtain ⟨y,hy,_⟩:=aMH r
  rw [hy,aM]
  obtain ⟨z,hz,B⟩:=apM (a:=y) (m:=(M:Int) - 1) (by omega) (by omega)
  rw [hz,aM,fZ (z:=(z:Int)) (by omega) (by omega),KA]
  have k:∃ t:Nat,t < b - a∧(((ae (decide (z ≥ b - a)) (some (i64 ((z:Int) - ((b - a:Nat):Int)))) (some (z:Int))):Option Int))=some (t:Int):=by
   by_cases c:z ≥ b - a
   ·exact ⟨z - (b - a),by omega,by rw [fN c,bF,sL (by omega) c]⟩
   ·exact ⟨z,by omega,by rw [gE c,bu]⟩
  obtain ⟨t,ht,p⟩:=k
  rw [p,aM,yg (i:=a) (j:=t) (by omega) (by omega)]
  refine ⟨(kN m i (a+t),((i+1:Nat):Int),y),?_,⟨_,i+1,y,rfl,by omega,by rw [pd]; exact hm,?_⟩,by simp only [eD]; omega⟩
  ·simp only [cF,bE (show i < m.length by omega),bE (show a+t < m.length by omega),aM,eD,pQ (show a+t < m.length by omega),cR (i:=i) (by omega)]
   rfl
  ·rw [pS]
   exact permIn_trans _ _ _ a b hP (swp_permIn _ a b i (a+t) g (by omega) (by omega) (by omega) (by simp; omega))
 ·right
  exact ⟨m,by rw [gE hi,bu],hP⟩
theorem R5{l:List Int}{i j:Nat}(hi:i < l.length)(hj:j < l.length)(s:Int):∃ s',uk l i j s=some (s',(i:Int),(j:Int))∨uk l i j s=some (s',(j:Int),(i:Int)):=by
 unfold uk
 simp only [cF,bE hi,bE hj,aM,rC]
 cases ltInt (nth l j) (nth l i) with
 | true=>exact ⟨_,.inr rfl⟩
 | false=>exact ⟨_,.inl rfl⟩
theorem abU{l:List Int}{i j k:Nat}(hi:i < l.length)(hj:j < l.length)(hk:k < l.length)(s:Int):∃ (s':Int) (p:Nat),wm l i j k s=some (s',(p:Int))∧(p=i∨p=j∨p=k):=by
 unfold wm
 have key:∀ (x y:Nat) (s:Int),x < l.length→y < l.length→(x=i∨x=j)→(y=i∨y=j)→∃ (s':Int) (p:Nat),((uk l (y:Int) (k:Int) s).bind λ b=>(uk l (x:Int) b.2.1 b.1).bind λ c=>some (c.1,c.2.2))=some (s',(p:Int))∧(p=i∨p=j∨p=k):=by
  intro x y s hx hy f d
  obtain ⟨t,ht | ht⟩:=R5 hy hk s
  ·rw [ht,aM]
   obtain ⟨u,hu | hu⟩:=R5 hx hy t
   ·exact ⟨u,y,by rw [hu]; rfl,by omega⟩
   ·exact ⟨u,x,by rw [hu]; rfl,by omega⟩
  ·rw [ht,aM]
   obtain ⟨u,hu | hu⟩:=R5 hx hk t
   ·exact ⟨u,k,by rw [hu]; rfl,by omega⟩
   ·exact ⟨u,x,by rw [hu]; rfl,by omega⟩
 obtain ⟨t,ht | ht⟩:=R5 hi hj s
 ·rw [ht,aM]
  exact key i j t hi hj (.inl rfl) (.inr rfl)
 ·rw [ht,aM]
  exact key j i t hj hi (.inr rfl) (.inl rfl)
theorem abS{l:List Int}{i:Nat}(b:0 < i)(hi:i+1 < l.length)(hl:nq l)(s:Int):∃ (s':Int) (p:Nat),uj l i s=some (s',(p:Int))∧i - 1≤p∧p≤i+1:=by
 unfold uj
 unfold nq at hl
 rw [kE (i:=i) (by omega) b,cR (i:=i) (by omega)]
 obtain ⟨t,p,hp,c⟩:=abU (l:=l) (i:=i - 1) (j:=i) (k:=i+1) (by omega) (by omega) hi s
 exact ⟨t,p,by rw [hp]; rfl,by omega,by omega⟩
theorem aMt{l:List Int}{a b:Nat}(hl:nq l)(A:a+12 < b)(hb:b≤l.length):∃ (p:Nat) (h:Int),Cx l a b=some ((p:Int),h)∧a≤p∧p < b:=by
 unfold Cx
 have hB:=hl
 unfold nq at hB
 have w:o7 ((b - a:Nat):Int) 4=some (((b - a) / 4:Nat):Int):=acz (d:=4) (by omega) (by omega)
 rw [sL (i:=b) (j:=a) (by omega) (by omega),w]
 simp only [aM]
 have e1:i64 ((((b - a) / 4:Nat):Int) * 1)=(((b - a) / 4:Nat):Int):=by rw [fZ (by omega) (by omega)]; omega
 have e2:i64 ((((b - a) / 4:Nat):Int) * 2)=(((b - a) / 4 * 2:Nat):Int):=by rw [fZ (by omega) (by omega)]; omega
 have e3:i64 ((((b - a) / 4:Nat):Int) * 3)=(((b - a) / 4 * 3:Nat):Int):=by rw [fZ (by omega) (by omega)]; omega
 rw [e1,e2,e3,yg (i:=a) (by omega) (by omega),yg (i:=a) (by omega) (by omega),yg (i:=a) (by omega) (by omega),show decide (((b - a:Nat):Int) ≥ 8)=true by simp; omega,bF]
 have hq:∃ (p:Nat) (h:Int),(((ae (decide (((b - a:Nat):Int) ≥ 50))
   ((uj l ((a+(b - a) / 4:Nat):Int) 0).bind λ o =>
   (uj l ((a+(b - a) / 4 * 2:Nat):Int) o.1).bind λ q =>
   (uj l ((a+(b - a) / 4 * 3:Nat):Int) q.1).bind λ r =>
   (wm l o.2 q.2 r.2 r.1).bind λ n =>
   some (n.2,n.1))
   ((wm l ((a+(b - a) / 4:Nat):Int) ((a+(b - a) / 4 * 2:Nat):Int) ((a+(b - a) / 4 * 3:Nat):Int) 0).bind λ s =>
   some (s.2,s.1))):Option (Int × Int)))=some ((p:Int),h)∧a≤p∧p < b:=by
  by_cases B:b - a ≥ 50
  ·rw [show decide (((b - a:Nat):Int) ≥ 50)=true by simp; omega,bF]
   obtain ⟨s1,p1,q1,r1,C⟩:=abS (l:=l) (i:=a+(b - a) / 4) (by omega) (by omega) hl 0
   rw [q1,aM]
   obtain ⟨s2,p2,y,r2,D⟩:=abS (l:=l) (i:=a+(b - a) / 4 * 2) (by omega) (by omega) hl s1
   rw [y,aM]
   obtain ⟨s3,p3,z,r3,E⟩:=abS (l:=l) (i:=a+(b - a) / 4 * 3) (by omega) (by omega) hl s2
   rw [z,aM]
   obtain ⟨m,p4,g,r4⟩:=abU (l:=l) (i:=p1) (j:=p2) (k:=p3) (by omega) (by omega) (by omega) s3
   exact ⟨p4,m,by rw [g]; rfl,by omega,by omega⟩
  ·rw [show decide (((b - a:Nat):Int) ≥ 50)=false by simp; omega,bu]
   obtain ⟨m,p4,g,r4⟩:=abU (l:=l) (i:=a+(b - a) / 4) (j:=a+(b - a) / 4 * 2) (k:=a+(b - a) / 4 * 3) (by omega) (by omega) (by omega) 0
   exact ⟨p4,m,by rw [g]; rfl,by omega,by omega⟩
 obtain ⟨p,h,hp,c,f⟩:=hq
 rw [hp,aM]
 cases h == 0 with
 | true=>exact ⟨p,1,rfl,c,f⟩
 | false =>
  cases h == 12 with
  | true=>exact ⟨p,2,rfl,c,f⟩
  | false=>exact ⟨p,0,rfl,c,f⟩
abbrev SI(a b:Nat)(d:Array Int):Prop:=SortedIn ltInt a b d
theorem aOV:∀ (k:Nat) (l:List Int) (a b r:Nat),nq l→r≤100→a≤b→b≤l.length→b - a≤12 * 2 ^ k→Below ltInt a b l.toArray→∃ l',wj (k+1) l a b r=some l'∧PermIn a b l.toArray l'.toArray∧SI a b l'.toArray:=by
 intro k
 induction k with
 | zero =>
  intro l a b r hl W E hb hk hB
  have hl':=hl
  unfold nq at hl'
  obtain ⟨t,ht,f⟩:=ajK (l:=l) (a:=a) (b:=b) (by unfold lB; omega) E hb
  obtain ⟨h1,h2⟩:=insertionSort_holds swo_ltInt l.toArray a b E (by simpa using hb)
  rw [← f] at h1 h2
  refine ⟨t,?_,h1,h2⟩
  rw [wj]
  rw [jK (o:=t) (lO ?_)]
  dsimp only
  rw [sL (i:=b) (j:=a) (by omega) (by omega),show decide (((b - a:Nat):Int)≤12)=true by simp; omega,bF,ht]
  rfl
 | succ k ih =>
  intro l a b r hl W E hb hk hB
  have hl':=hl
  unfold nq at hl'
  rw [wj]
  refine rz (λ s=>∃ (m:List Int) (x y lm:Nat) (wb wp:Bool),s=(m,(x:Int),(y:Int),(lm:Int),wb,wp)∧m.length=l.length∧x≤y∧y≤l.length∧lm≤100∧y - x≤12 * 2 ^ (k+1)∧Below ltInt x y m.toArray∧∀ R,PermIn x y m.toArray R→SI x y R→PermIn a b l.toArray R∧SI a b R) (λ s=>s.2.2.1.toNat - s.2.1.toNat)
   (λ o=>PermIn a b l.toArray o.toArray∧SI a b o.toArray) ⟨l,a,b,r,true,true,rfl,rfl,E,hb,W,hk,hB,λ R h1 h2=>⟨h1,h2⟩⟩ (λ o ho=>⟨o,rfl,ho⟩) ?_
  rintro _ ⟨m,x,y,lm,wb,wp,rfl,hm,w,hy,aD,hk,hB,hR⟩
  dsimp only
  have ah:m.toArray.size=l.length:=by simpa using hm
  rw [sL (i:=y) (j:=x) (by omega) (by omega),show decide (((y - x:Nat):Int)≤12)=decide (y - x≤12) from G5 (j:=12)]
  by_cases T:y - x≤12
  ·right
   obtain ⟨t,ht,f⟩:=ajK (l:=m) (a:=x) (b:=y) (by unfold lB; omega) w (by omega)
   obtain ⟨h1,h2⟩:=insertionSort_holds swo_ltInt m.toArray x y w (by omega)
   rw [← f] at h1 h2
   exact ⟨t,by rw [fN T,bF,ht]; rfl,hR _ h1 h2⟩
  rw [gE T,bu,show (((lm:Nat):Int) == 0)=decide (lm=0) by rw [Bool.eq_iff_iff,beq_iff_eq,decide_eq_true_eq]; omega]
  by_cases ad:lm=0
  ·right
   obtain ⟨t,ht,f⟩:=aMo (l:=m) (a:=x) (b:=y) (by unfold lB; omega) (by omega) (by omega)
   obtain ⟨h1,h2⟩:=heapSort_holds swo_ltInt m.toArray x y w (by omega)
   rw [← f] at h1 h2
   exact ⟨t,by rw [fN ad,bF,ht]; rfl,hR _ h1 h2⟩
  rw [gE ad,bu]
  have az:∃ (m1:List Int) (g:Nat),(((ae (!wb)
    ((zT m (x:Int) (y:Int)).bind λ al =>
    some (al,i64 ((lm:Int) - 1)))
    (some (m,(lm:Int)))):Option ((List Int) × Int)))=some (m1,(g:Int))∧g≤lm∧PermIn x y m.toArray m1.toArray:=by
   cases wb with
   | true=>exact ⟨m,lm,rfl,dD _,permIn_refl _ _ _⟩
   | false =>
    obtain ⟨t,ht,ay⟩:=aMr (l:=m) (a:=x) (b:=y) (by unfold nq; omega) w (by omega)
    refine ⟨t,lm - 1,?_,by omega,ay⟩
    rw [Bool.not_false,bF,ht,aM,kE (i:=lm) (by omega) (by omega)]
  obtain ⟨m1,g,e1,aC,K⟩:=az
  rw [e1,aM]
  have X:m1.toArray.size=l.length:=by rw [K.1,ah]
  have aB:m1.length=l.length:=by simpa using X
  have av:=hB.perm (by omega) K
  obtain ⟨p,h,e2,U,an⟩:=aMt (l:=m1) (a:=x) (b:=y) (by unfold nq; omega) (by omega) (by omega)
  dsimp only
  rw [e2,aM]
  have ao:∃ (m2:List Int) (p2:Nat) (h2:Int),(((ae (h == 2)
    ((zU m1 (x:Int) (y:Int)).bind λ ag =>
    some (ag,i64 ((i64 ((y:Int) - 1)) - (i64 ((p:Int) - (x:Int)))),1))
    (some (m1,(p:Int),h))):Option ((List Int) × Int × Int)))=some (m2,(p2:Int),h2)∧x≤p2∧p2 < y∧PermIn x y m1.toArray m2.toArray:=by
   cases h == 2 with
   | false=>exact ⟨m1,p,h,rfl,U,an,permIn_refl _ _ _⟩
   | true =>
    obtain ⟨t,ht,f⟩:=aMu (l:=m1) (a:=x) (b:=y) (by unfold lB; omega) (by omega) (by omega)
    have hr:=reverseRange_holds m1.toArray x y w (by omega)
    rw [← f] at hr
    refine ⟨t,(y - 1) - (p - x),1,?_,by omega,by omega,hr⟩
    rw [bF,ht,aM,kE (i:=y) (by omega) (by omega),sL (i:=p) (j:=x) (by omega) U,sL (i:=y - 1) (j:=p - x) (by omega) (by omega)]
  obtain ⟨m2,p2,h2,e3,F,C,L⟩:=ao
  rw [e3,aM]
  have Y:m2.toArray.size=l.length:=by rw [L.1,X]
  have aA:m2.length=l.length:=by simpa using Y
  have ab:=av.perm (by omega) L
  have ar:=permIn_trans _ _ _ x y K L
  dsimp only
  have aw:∃ c:Bool,((((ae wb (ae wp (some (h2 == 1)) (some false)) (some false)):Option Bool))=some c):=by
   cases wb with
   | false=>exact ⟨false,rfl⟩
   | true =>
    cases wp with
    | false=>exact ⟨false,rfl⟩
    | true=>exact ⟨_,rfl⟩
  obtain ⟨c,ec⟩:=aw
  rw [ec,aM]
  have O:∃ m3:List Int,PermIn x y m2.toArray m3.toArray∧((((ae c
    ((yp m2 (x:Int) (y:Int)).bind λ n =>
    ae n.2
    (some (.inr n.1))
    (some (.inl n.1)))
    (some (.inl m2))):Option ((List Int) ⊕ (List Int))))=some (.inr m3)∧SI x y m3.toArray∨(((ae c
    ((yp m2 (x:Int) (y:Int)).bind λ n =>
    ae n.2
    (some (.inr n.1))
    (some (.inl n.1)))
    (some (.inl m2))):Option ((List Int) ⊕ (List Int))))=some (.inl m3)):=by
   cases c with
   | false=>exact ⟨m2,permIn_refl _ _ _,.inr rfl⟩
   | true =>
    obtain ⟨t,ht,f⟩:=aMy (l:=m2) (a:=x) (b:=y) (by unfold lB; omega) (by omega) (by omega)
    have S:=partialInsertionSort_holds swo_ltInt m2.toArray x y (by omega) (by omega) ab
    rw [← f] at S
    refine ⟨t,S.1,?_⟩
    rw [bF,ht,aM]
    cases fl:(partialInsertionSort ltInt m2.toArray x y).2 with
    | true=>exact .inl ⟨rfl,S.2 fl⟩
    | false=>exact .inr rfl
  obtain ⟨m3,M,O⟩:=O
  have D:=permIn_trans _ _ _ x y ar M
  have aq:m3.toArray.size=l.length:=by rw [M.1,Y]
  have aF:m3.length=l.length:=by simpa using aq
  have ac:=ab.perm (by omega) M
  rcases O with ⟨P,hS⟩ | P
  ·right
   rw [P]
   exact ⟨m3,rfl,hR _ D hS⟩
  rw [P,aM,Sum.elim_inl]
  have ax:(((ae (decide ((x:Int) > 0))
    ((idx m3 (i64 ((x:Int) - 1))).bind λ aj =>
    (idx m3 (p2:Int)).bind λ ak =>
    (gT aj ak).bind λ am =>
    some (!am))
    (some false)):Option Bool))=some (decide (0 < x) && !ltInt m3.toArray[x - 1]! m3.toArray[p2]!):=by
   by_cases B:0 < x
   ·simp only [G7 B,bF,kE (i:=x) (by omega) B,cF,bE (show x - 1 < m3.length by omega),bE (show p2 < m3.length by omega),aM,rC,fN B,Bool.true_and,l5]
   ·simp only [G6 B,bu,gE B,Bool.false_and]
  rw [ax,aM]
  by_cases q:(decide (0 < x) && !ltInt m3.toArray[x - 1]! m3.toArray[p2]!)=true
  ·left
   obtain ⟨t,ht,f⟩:=aMA (l:=m3) (a:=x) (b:=y) (p:=p2) (by unfold lB; omega) F C (by omega)
   rw [q,bF,ht,aM]
   simp only [jm,decide_eq_true_eq,Bool.not_eq_true'] at q
   have af:=round_eq swo_ltInt (partitionEqual_holds ltInt) (d3:=m3.toArray) (d4:=t.toArray) (mid:=(partitionEqual ltInt m3.toArray x y p2).1) q.1 F C (by omega) ac q.2 (by rw [f])
   generalize (partitionEqual ltInt m3.toArray x y p2).1=mid at af
   obtain ⟨g1,g2,g3,g4,Q⟩:=af
   have V:t.length=l.length:=by
    have:t.toArray.size=t.length:=by simp
    omega
   exact ⟨_,rfl,⟨t,mid,y,g,wb,wp,rfl,V,g2,hy,by omega,by omega,g4,λ R r1 r2=>by
    obtain ⟨q1,A⟩:=Q R r1 r2
    exact hR R (permIn_trans _ _ _ x y D q1) A⟩,by simp only [eD]; omega⟩
  ·have q:(decide (0 < x) && !ltInt m3.toArray[x - 1]! m3.toArray[p2]!)=false:=by simpa using q
   left
   obtain ⟨t,ht,f⟩:=aMC (l:=m3) (a:=x) (b:=y) (p:=p2) (by unfold lB; omega) F C (by omega)
   rw [q,bu,ht,aM,show o7 ((y - x:Nat):Int) 8=some (((y - x) / 8:Nat):Int) from acz (d:=8) (by omega) (by omega),aM]
   have N:=round_part swo_ltInt (partition_holds ltInt) (d3:=m3.toArray) (d4:=t.toArray) (mid:=(partition ltInt m3.toArray x y p2).1) (ap:=(partition ltInt m3.toArray x y p2).2.1) F C (by omega) ac (by rw [f])
   generalize (partition ltInt m3.toArray x y p2).1=mid at N
   generalize (partition ltInt m3.toArray x y p2).2.1=ap at N
   obtain ⟨g1,g2,g3,g4,Q,au,g7⟩:=N
   have V:t.length=l.length:=by
    have:t.toArray.size=t.length:=by simp
    omega
   dsimp only
   rw [sL (i:=mid) (j:=x) (by omega) g1,sL (i:=y) (j:=mid) (by omega) (by omega),q7,cR (i:=mid) (by omega)]
   have aE:2 ^ (k+1)=2 * 2 ^ k:=by rw [Nat.pow_succ]; omega
   by_cases Z:mid - x < y - mid
   ·obtain ⟨u,hu,z,I⟩:=ih t x mid g (by unfold nq; omega) (by omega) g1 (by omega) (by omega) g4
    rw [fN Z,bF,hu,aM]
    obtain ⟨J,H⟩:=au _ z I
    have G:u.length=l.length:=by
     have h1:u.toArray.size=u.length:=by simp
     have h2:=z.1
     omega
    exact ⟨_,rfl,⟨u,mid+1,y,g,_,_,rfl,G,by omega,hy,by omega,by omega,J,λ R r1 r2=>by
     obtain ⟨q1,A⟩:=H R r1 r2
     exact hR R (permIn_trans _ _ _ x y D q1) A⟩,by simp only [eD]; omega⟩
   ·obtain ⟨u,hu,z,I⟩:=ih t (mid+1) y g (by unfold nq; omega) (by omega) (by omega) (by omega) (by omega) Q
    rw [gE Z,bu,hu,aM]
    obtain ⟨J,H⟩:=g7 _ z I
    have G:u.length=l.length:=by
     have h1:u.toArray.size=u.length:=by simp
     have h2:=z.1
     omega
    exact ⟨_,rfl,⟨u,x,mid,g,_,_,rfl,G,g1,by omega,by omega,by omega,J,λ R r1 r2=>by
     obtain ⟨q1,A⟩:=H R r1 r2
     exact hR R (permIn_trans _ _ _ x y D q1) A⟩,by simp only [eD]; omega⟩
theorem aLY{l:List Int}(hl:nq l):∃ l',Cr l=some l'∧l'.Perm l∧l'.Pairwise (·≤·):=by
 have hl':=hl
 unfold nq at hl'
 obtain ⟨⟨k,hk,c⟩,_⟩:=ai9 (n:=l.length) (by omega)
 obtain ⟨t,ht,h1,h2⟩:=aOV 11 l 0 l.length k hl (by omega) (Nat.zero_le _) (dD _) (by omega) (.inl rfl)
 unfold Cr
 rw [hk,aM]
 refine ⟨t,by rw [show (0:Int)=((0:Nat):Int) from rfl,ht]; rfl,?_,?_⟩
 ·have h3:=h1.2.2
  have hts:t.length=l.length:=by have:=h1.1; simpa using this
  rw [show t.toArray.extract 0 l.length=t.toArray by rw [← hts]; simp,show l.toArray.extract 0 l.length=l.toArray by simp] at h3
  simpa using h3
 ·have hts:t.length=l.length:=by have:=h1.1; simpa using this
  rw [List.pairwise_iff_getElem]
  intro i j hi hj b
  have h4:=h2 i j (Nat.zero_le _) b (by omega)
  rw [l5,l5] at h4
  have e1:=bE hi
  have e2:=bE hj
  rw [lz hi] at e1
  rw [lz hj] at e2
  rw [j6 e1,j6 e2]
  unfold ltInt at h4
  have:=of_decide_eq_false h4
  omega
theorem aL0{l:List Int}(hl:nq l)(hs:l.Pairwise (·≤·)):∃ d,Cs l=some d∧d.Pairwise (· < ·)∧∀ x,x∈d↔x∈l:=by
 have hB:=hl
 unfold nq at hB
 have A:(mh l l.length).Pairwise (· < ·)∧∀ x,x∈mh l l.length↔x∈l:=by
  refine ⟨af4 hs _ (dD _),λ x=>?_⟩
  rw [VZ]
  constructor
  ·rintro ⟨i,hi,rfl⟩; exact ib hi
  ·intro hx; exact wA hx
 unfold Cs
 rw [show decide ((l.length:Int) < 2)=decide (l.length < 2) from q7 (j:=2)]
 by_cases h2:l.length < 2
 ·rw [fN h2,bF]
  refine ⟨l,rfl,?_,λ _=>Iff.rfl⟩
  match l,h2 with
  | [],_=>simp
  | [_],_=>simp
  | _::_::r,h=>exact absurd h (by simp only [List.length_cons]; omega)
 rw [gE h2,bu]
 suffices hx:∃ z:List Int,_=some z∧z=mh l l.length by
  obtain ⟨z,hz,rfl⟩:=hx
  exact ⟨_,hz,A⟩
 refine rz (λ s=>∃ k:Nat,s=(k:Int)∧1≤k∧k≤l.length∧∀ i,1≤i→i < k→nth l i≠nth l (i - 1)) (λ s=>l.length - s.toNat) (λ o=>o = .inl ()∧(∀ i,1≤i→i < l.length→nth l i≠nth l (i - 1))∨o = .inr (mh l l.length)) ⟨1,rfl,dD _,by omega,λ i h1 h2=>by omega⟩ (λ o ho=>?_) ?_
 ·rcases ho with ⟨rfl,h⟩ | rfl
  ·exact ⟨l,rfl,by rw [VY _ (dD _) h,List.take_length]⟩
  ·exact ⟨_,rfl,rfl⟩
 ·rintro _ ⟨k,rfl,p,y,hk⟩
  rw [q7]
  by_cases f:k < l.length
  ·rw [fN f,bF,kE (i:=k) (by omega) p]
   simp only [cF,bE f,bE (show k - 1 < l.length by omega),aM]
   by_cases hd:nth l k=nth l (k - 1)
   ·right
    rw [show (nth l k == nth l (k - 1))=true by simpa using hd,bF,show kQ l (k:Int) (l.length:Int)=some (l.drop k) by simp [kQ]; omega,aM]
    suffices hx:∃ z:Int ⊕ (Unit ⊕ List Int),_=some z∧z = .inr (.inr (mh l l.length)) by
     obtain ⟨z,hz,rfl⟩:=hx
     exact ⟨_,hz,.inr rfl⟩
    refine rz (λ s=>∃ (m:List Int) (w q:Nat),s=(m,(w:Int),(q:Int))∧m.length=l.length∧1≤q∧w+1≤k+q∧k+q≤l.length∧(∀ i,k+q - 1≤i→nth m i=nth l i)∧m.take w=mh l (k+q)) (λ s=>l.length - s.2.2.toNat)
     (λ o=>∃ (m:List Int) (w:Nat),o=(m,(w:Int))∧m.length=l.length∧w≤l.length∧m.take w=mh l l.length) ⟨l,k,1,rfl,rfl,dD _,by omega,by omega,λ _ _=>rfl,by
      rw [mh,if_neg (λ h=>h.elim (λ h=>by omega) (λ h=>h hd))]
      exact (VY k y hk).symm⟩ (λ o ho=>?_) ?_
    ·obtain ⟨m,w,rfl,hm,hw,ht⟩:=ho
     dsimp only
     rw [eD,show kQ m (w:Int) (m.length:Int)=some (m.drop w) by simp [kQ]; omega,aM,show kQ (rZ m w) 0 (w:Int)=some (m.take w) from by
      have B:(rZ m w).length=m.length:=by simp [rZ]; omega
      have:(rZ m w).take w=m.take w:=by
       unfold rZ
       rw [List.take_append_of_le_length (by simp; omega),List.take_take,Nat.min_self]
      rw [← this]
      exact VW (by omega),aM,ht]
     exact ⟨_,rfl,rfl⟩
    ·rintro _ ⟨m,w,q,rfl,hm,E,D,C,b,ht⟩
     dsimp only
     rw [eD,List.length_drop,hm,q7]
     by_cases g:q < l.length - k
     ·left
      rw [fN g,bF,kE (i:=q) (by omega) (by omega)]
      simp only [cF,agc (m:=m) (a:=k) (i:=q) (by omega),agc (m:=m) (a:=k) (i:=q - 1) (by omega),aM]
      rw [b (k+q) (by omega),show k+(q - 1)=k+q - 1 by omega,b (k+q - 1) (by omega)]
      by_cases c:nth l (k+q)=nth l (k+q - 1)
      ·rw [show (nth l (k+q) != nth l (k+q - 1))=false by simpa using c,bu,cR (i:=q) (by omega)]
       refine ⟨_,rfl,⟨m,w,q+1,rfl,hm,by omega,by omega,by omega,λ i hi=>b i (by omega),?_⟩,by simp only [eD]; omega⟩
       rw [ht,show k+(q+1)=(k+q)+1 by omega,mh,if_neg (λ h=>h.elim (λ h=>by omega) (λ h=>h c))]
      ·rw [show (nth l (k+q) != nth l (k+q - 1))=true by simpa using c,bF]
       simp only [bE (show w < m.length by omega),aM,cR (i:=q) (by omega),cR (i:=w) (by omega),eD]
       refine ⟨_,rfl,⟨m.set w (nth l (k+q)),w+1,q+1,rfl,by simpa using hm,by omega,by omega,by omega,λ i hi=>?_,?_⟩,by simp only [eD]; omega⟩
       ·rw [aNV (by omega)]; exact b i (by omega)
       ·rw [take_set (by omega),ht,show k+(q+1)=(k+q)+1 by omega,mh,if_pos (.inr c)]
     ·right
      rw [gE g,bu]
      exact ⟨(m,(w:Int)),rfl,m,w,rfl,hm,by omega,by rw [ht,show k+q=l.length by omega]⟩
   ·left
    rw [show (nth l k == nth l (k - 1))=false by simpa using hd,bu,cR (i:=k) (by omega)]
    refine ⟨_,rfl,⟨k+1,rfl,by omega,by omega,λ i h1 h2=>?_⟩,by simp only [eD]; omega⟩
    by_cases n:i=k
    ·subst n; exact hd
    ·exact hk i h1 (by omega)
  ·right
   rw [gE f,bu]
   exact ⟨.inl (),rfl,.inl ⟨rfl,λ i h1 h2=>hk i h1 (by omega)⟩⟩
theorem ajp{l:List Int}(hl:l.length≤100000):M8 l=some (kL l):=by
 unfold M8
 refine (jK (o:=kL l) ?_).trans rfl
 have e0:(([]:List Int),(0:Int))=(λ q:Nat=>((l.take q).foldl qq [],(q:Int))) 0:=rfl
 rw [e0]
 refine zK (λ q:Nat=>((l.take q).foldl qq [],(q:Int))) l.length (λ q hq=>?_) (by simp only [fj,bu,List.take_length]; rfl)
 have k:=(S5 (l.take q) [] (by simp)).1
 have m:=acN (l.take q) []
 rw [List.take_succ_eq_append_getElem hq,List.foldl_append]
 generalize (l.take q).foldl qq []=acc at k m
 simp only [List.length_nil,jP] at m
 have hx:l[q]? = some l[q]:=lz hq
 generalize l[q]=x at hx
 simp only [List.foldl_cons,List.foldl_nil,dec_lt hq,bF,cF,hx]
 have C:bD (O:=Int) (λ (b:Int) =>
   ae (decide (b < (acc.length:Int)))
   ((idx acc b).bind λ g =>
   (some x).bind λ j =>
   ae (decide (g < j))
   (some (.inl (i64 (b+1))))
   (some (.inr b)))
   (some (.inr b)):Int→Option (Int ⊕ Int)) 0=some (((acc.takeWhile (λ y=>decide (y < x))).length:Nat):Int):=by
  have key:∀ (r pre:List Int),acc=pre++r→bD (O:=Int) (λ (b:Int) =>
    ae (decide (b < (acc.length:Int)))
    ((idx acc b).bind λ g =>
    (some x).bind λ j =>
    ae (decide (g < j))
    (some (.inl (i64 (b+1))))
    (some (.inr b)))
    (some (.inr b)):Int→Option (Int ⊕ Int)) (pre.length:Int)=some (((pre.length+(r.takeWhile (λ y=>decide (y < x))).length:Nat)):Int):=by
   intro r
   induction r with
   | nil =>
    intro pre he
    rw [List.append_nil] at he
    subst he
    exact lO (by simp only [fj,bu]; simp)
   | cons a r ih =>
    intro pre he
    have hlen:pre.length < acc.length:=by rw [he]; simp
    have n:acc[pre.length]? = some a:=by rw [he]; simp
    by_cases f:a < x
    ·have w:(pre++[a]).length=pre.length+1:=by simp
     rw [vX (s':=(((pre++[a]).length:Nat):Int)) (by simp only [dec_lt hlen,bF,cF,n,aM,fN f,cR (i:=pre.length) (by omega),w])]
     rw [ih (pre++[a]) (by simp [he]),List.takeWhile_cons_of_pos (by simpa using f)]
     congr 1
     simp only [kO,List.length_cons,List.length_nil]
     omega
    ·rw [List.takeWhile_cons_of_neg (by simpa using f)]
     exact lO (by simp only [dec_lt hlen,bF,cF,n,aM,gE f,bu]; simp)
  have:=key acc [] rfl
  simpa using this
 rw [jK C]
 have d:=aQD acc x
 have A:(acc.takeWhile (λ y=>decide (y < x))).length≤acc.length:=(List.takeWhile_sublist _).length_le
 generalize hp:(acc.takeWhile (λ y=>decide (y < x))).length=p at A d
 simp only [aM]
 have zt:(((ae (((p:Nat):Int) == (acc.length:Int)) (some true) ((idx acc (p:Int)).bind λ B=>some (B != x))):Option Bool))=some (decide (x ∉ acc)):=by
  rw [cF]
  by_cases s:p=acc.length
  ·have D:x ∉ acc:=λ hx=>by
    have e:acc.takeWhile (λ y=>decide (y < x))=acc:=by rw [d.1,s,List.take_length]
    have:=Si (p:=λ y=>decide (y < x)) (l:=acc) (x:=x) (by rw [e]; exact hx)
    simp at this
   rw [show (((p:Nat):Int) == (acc.length:Int))=true by simp [s],bF,fN D]
  ·rw [show (((p:Nat):Int) == (acc.length:Int))=false by simp; omega,bu,bE (show p < acc.length by omega),aM]
   congr 1
   have hnp:¬ nth acc p < x:=by
    have hd:acc.dropWhile (λ y=>decide (y < x))=nth acc p::acc.drop (p+1):=by
     rw [d.2,List.drop_eq_getElem_cons (show p < acc.length by omega)]
     congr 1
     have:=bE (show p < acc.length by omega)
     rw [lz (by omega)] at this
     exact j6 this
    have:=List.head_dropWhile_not (λ y=>decide (y < x)) (l:=acc) (by rw [hd]; simp)
    simp only [hd,List.head_cons] at this
    simpa using this
   by_cases c:nth acc p=x
   ·rw [show (nth acc p != x)=false by simpa using c,gE (by rw [← c]; simpa using ib (show p < acc.length by omega))]
   ·rw [show (nth acc p != x)=true by simpa using c,fN]
    intro hx
    obtain ⟨i,hi,z⟩:=wA hx
    rcases Nat.lt_trichotomy i p with h | h | h
    ·have hm:nth acc i∈acc.takeWhile (λ y=>decide (y < x)):=by
      rw [d.1,← sY (l:=acc) h]
      exact ib (by simp; omega)
     have:=Si hm
     simp at this
     omega
    ·subst h; exact c z
    ·rw [List.pairwise_iff_getElem] at k
     have h3:=k p i (by omega) hi h
     have e1:=bE (show p < acc.length by omega)
     have e2:=bE hi
     rw [lz (by omega)] at e1 e2
     rw [j6 e1,j6 e2] at h3
     omega
 rw [zt,aM]
 unfold qq
 by_cases c:x∈acc
 ·rw [gE (by simpa using c),bu,if_pos c,cR (i:=q) (by omega)]
 ·rw [fN c,bF,if_neg c,VW (by omega),aM,xi (by simp; omega),aM,List.nil_append,xi (by simp; omega),aM,show kQ acc (p:Int) (acc.length:Int)=some (acc.drop p) by simp [kQ]; omega,aM,xi (by simp; omega),aM,cR (i:=q) (by omega),d.1,d.2]
  simp
theorem aj2{b:an}(hv:Valid b){f:bH→Option Int}{g:List Int→Int}(hf:∀ c∈cz b,f (nP c)=some (g c)):CC (rG b) f=some (kL ((cz b).map g)):=by
 unfold CC
 have j:=Bu hv
 rw [show (rG b).fH=(cz b).map nP from rfl]
 refine (jK (o:=(cz b).map g) ?_).trans ?_
 ·have e0:(([]:List Int),(0:Int))=(λ q:Nat=>(((cz b).take q).map g,(q:Int))) 0:=rfl
  rw [e0]
  refine zK (λ q:Nat=>(((cz b).take q).map g,(q:Int))) (cz b).length (λ q hq=>?_) (by simp only [List.length_map,fj,bu,List.take_length])
  have hc:(cz b)[q]∈cz b:=List.getElem_mem hq
  simp only [List.length_map,dec_lt hq,bF,cF,List.getElem?_map,lz hq,Option.map_some,aM,hf _ hc,cR (i:=q) (by omega)]
  rw [xi (by simp; omega),aM,List.take_succ_eq_append_getElem hq,List.map_append]
  rfl
 ·obtain ⟨t,ht,hp,hs⟩:=aLY (l:=(cz b).map g) (by unfold nq; rw [List.length_map]; omega)
  obtain ⟨d,hd,h1,h2⟩:=aL0 (l:=t) (by unfold nq; rw [hp.length_eq,List.length_map]; omega) hs
  rw [ht,aM,hd,aM,ae4 d (kL ((cz b).map g)) h1 (S4 _) λ x=>by rw [h2,hp.mem_iff,Ft]]
theorem Sf{α:Type}[Inhabited α]{l:List α}{x:α}(h:x∈l):∃ j,j < l.length∧nth l j=x:=by
 obtain ⟨j,hj,rfl⟩:=List.mem_iff_getElem.1 h
 have e:=bE hj
 rw [lz hj,jl] at e
 exact ⟨j,hj,e.symm⟩
theorem acO{l:List Int}(h:l≠[]):0 < (kL l).length:=by
 obtain ⟨x,hx⟩:=List.exists_mem_of_ne_nil l h
 exact List.length_pos_of_mem ((Ft l x).2 hx)
theorem aQb{l:List Int}(h:l≠[]):nth (kL l) 0∈l∧∀ x∈l,nth (kL l) 0≤x:=by
 refine ⟨(Ft _ _).1 (ib (acO h)),λ x hx=>?_⟩
 obtain ⟨j,hj,rfl⟩:=Sf ((Ft _ _).2 hx)
 rcases Nat.eq_zero_or_pos j with rfl | h0
 ·exact Int.le_refl _
 ·have:=Vj (S4 l) h0 hj
  omega
theorem aQc{l:List Int}(h:l≠[]):nth (kL l) ((kL l).length - 1)∈l∧∀ x∈l,x≤nth (kL l) ((kL l).length - 1):=by
 have hp:=acO h
 refine ⟨(Ft _ _).1 (ib (by omega)),λ x hx=>?_⟩
 obtain ⟨j,hj,rfl⟩:=Sf ((Ft _ _).2 hx)
 rcases Nat.lt_or_ge j ((kL l).length - 1) with h0 | h0
 ·have:=Vj (S4 l) h0 (show (kL l).length - 1 < (kL l).length by omega)
  omega
 ·rw [show j=(kL l).length - 1 by omega]
  exact Int.le_refl _
def pO(b:an)(n:Int):Int:=if ou b n=false then 6 else 0
theorem ajG{b:an}(hs:b.aQ.length≤1000)(n:Int):rA b n=some (pO b n):=by
 unfold rA
 rw [EU hs]
 rfl
theorem aj4(b:an)(n:Int):um (ou b n)=some (pO b n):=by
 unfold um pO
 cases ou b n <;> rfl
theorem aJO{b:an}{n:Int}:ou b n=true↔∃ i:Nat,n=(i:Int)∧i < b.aQ.length:=by
 unfold ou
 rw [iV]
 constructor
 ·intro h; exact ⟨n.toNat,by omega,by omega⟩
 ·rintro ⟨i,rfl,hi⟩; omega
theorem NP{b:an}{n:Int}(h:pO b n=0):∃ i:Nat,n=(i:Int)∧i < b.aQ.length:=by
 refine aJO.1 ?_
 unfold pO at h
 cases hi:ou b n with
 | true=>rfl
 | false=>rw [hi] at h; cases h
abbrev KB(b:an)(i:Nat):List Int:=kL ((cz b).map λ c=>nth c i)
def DH(b:an)(n:Int):List Int × Int:=if iI b (pO b n)≠0 then ([],iI b (pO b n)) else (KB b n.toNat,0)
theorem aML{b:an}(hs:Small b)(n:Int):zX b n=some (DH b n):=by
 have hp:=hs.places
 unfold zX DH CB
 rw [aM,ab3 hs (own:=pO b n) (λ _=>ajG (by omega) n),aM]
 unfold yv
 by_cases h:iI b (pO b n)=0
 ·obtain ⟨hv,ho,hc⟩:=KH h
  obtain ⟨i,rfl,hi⟩:=NP ho
  simp only [h,ne_eq,jo,if_false,dn,bu]
  rw [aj2 hv (g:=λ c=>nth c i) (λ c hc=>by unfold Fq; rw [ado hv (z9.1 hc).1.1 hi]; rfl)]
  rfl
 ·simp only [h,ne_eq,ew,if_true,my h,bF]
theorem aMV{b:an}(hs:Small b)(n:Int):Nv b n=some (DH b n):=by
 unfold Nv DH
 rw [RU hs,aM,aj4,aM,z8 hs,aM]
 unfold yj
 by_cases h:iI b (pO b n)=0
 ·obtain ⟨hv,ho,hc⟩:=KH h
  obtain ⟨i,rfl,hi⟩:=NP ho
  have d:=Bu hv
  simp only [h,ne_eq,jo,if_false]
  rw [jK (o:=(cz b).map λ c=>nth c i) ?_]
  ·rw [ajp (by rw [List.length_map]; omega)]
   rfl
  ·have e0:(([]:List Int),(0:Int))=(λ q:Nat=>(((cz b).take q).map λ c=>nth c i,(q:Int))) 0:=rfl
   rw [e0]
   refine zK (λ q:Nat=>(((cz b).take q).map λ c=>nth c i,(q:Int))) (cz b).length (λ q hq=>?_) (by simp only [fj,bu,List.take_length])
   have hl:=(z9.1 (ib hq)).1.1
   have et:(cz b).take (q+1)=(cz b).take q++[nth (cz b) q]:=by rw [List.take_add_one,bE hq]; rfl
   simp only [dec_lt hq,bF,cF,bE hq,aM,bE (show i < (nth (cz b) q).length by omega),cR (i:=q) (by omega)]
   rw [xi (by simp; omega),aM,et,List.map_append]
   rfl
 ·simp only [h,ne_eq,ew,if_true]
  rw [jK (o:=([]:List Int)) (lO rfl),ajp (by simp)]
  rfl
abbrev Jf(b:an)(i:Nat):List Int:=kL ((cz b).map λ c=>mF b (nth c i))
def S7(b:an)(n:Int):Reach × Int:=if iI b (pO b n)≠0 then (⟨0,0⟩,iI b (pO b n)) else (⟨nth (Jf b n.toNat) 0,nth (Jf b n.toNat) ((Jf b n.toNat).length - 1)⟩,0)
theorem aNc{b:an}(hs:Small b)(n:Int):zY b n=some (S7 b n):=by
 have hp:=hs.places
 have hr:=hs.rows
 unfold zY S7 CB
 rw [aM,ab3 hs (own:=pO b n) (λ _=>ajG (by omega) n),aM]
 unfold yv
 by_cases h:iI b (pO b n)=0
 ·obtain ⟨hv,ho,hc⟩:=KH h
  obtain ⟨i,rfl,hi⟩:=NP ho
  have j:=Bu hv
  have f:(cz b).map (λ c=>mF b (nth c i))≠[]:=by simpa using hc
  have d:=acO f
  have hle:=aQd ((cz b).map λ c=>mF b (nth c i))
  rw [List.length_map] at hle
  simp only [h,ne_eq,jo,if_false,dn,bu]
  rw [aj2 hv (g:=λ c=>mF b (nth c i)) (λ c hc=>by unfold ET; rw [ado hv (z9.1 hc).1.1 hi,aM,show (rG b).book=b from rfl,ajr hr]; rfl),aM]
  rw [show (0:Int)=((0:Nat):Int) from rfl,cF,bE d,aM,kE (by omega) d,cF,bE (by omega),aM]
  rfl
 ·simp only [h,ne_eq,ew,if_true,my h,bF]
theorem aNd{b:an}(hs:Small b)(n:Int):Nz b n=some (S7 b n):=by
 have hr:=hs.rows
 unfold Nz S7
 rw [RU hs,aM,aj4,aM,z8 hs,aM]
 unfold yj
 by_cases h:iI b (pO b n)=0
 ·obtain ⟨hv,ho,hc⟩:=KH h
  obtain ⟨i,rfl,hi⟩:=NP ho
  have A:=Bu hv
  have p:0 < (cz b).length:=List.length_pos_iff.2 hc
  have m:(cz b).map (λ c=>mF b (nth c i))≠[]:=by simpa using hc
  have hlen:∀ q,q < (cz b).length→i < (nth (cz b) q).length:=λ q hq=>by have:=(z9.1 (ib hq)).1.1; omega
  simp only [h,ne_eq,jo,if_false,dn,bu]
  rw [show (0:Int)=((0:Nat):Int) from rfl,cF,bE p,aM,cF,bE (hlen 0 p),aM,abI hr,aM]
  have main:=aji (S:=Int × Int × Int) (O:=Int × Int) (body:=λ (d:(Int × Int × Int)) =>
 ae (decide (d.1 < ((cz b).length:Int)))
 ((idx (cz b) d.1).bind λ w =>
 (idx w (i:Int)).bind λ r =>
 (Ci b r).bind λ tz =>
 some (.inl (i64 (d.1+1),CE d.2.1 [tz],sU d.2.2 [tz])))
 (some (.inr (d.2.1,d.2.2)))) ((cz b).length - 1) (λ q s=>s.1=((q+1:Nat):Int)∧((∃ j,j < q+1∧s.2.1=mF b (nth (nth (cz b) j) i))∧∀ j,j < q+1→s.2.1≤mF b (nth (nth (cz b) j) i))∧(∃ j,j < q+1∧s.2.2=mF b (nth (nth (cz b) j) i))∧∀ j,j < q+1→mF b (nth (nth (cz b) j) i)≤s.2.2)
   (λ o=>o=(nth (Jf b i) 0,nth (Jf b i) ((Jf b i).length - 1))) (λ q s hq hI=>?_) (λ s hI=>?_) ((cz b).length - 1) 0 (1,mF b (nth (nth (cz b) 0) i),mF b (nth (nth (cz b) 0) i)) (by omega) ⟨rfl,⟨⟨0,by omega,rfl⟩,λ j hj=>by rw [show j=0 by omega]; exact Int.le_refl _⟩,⟨0,by omega,rfl⟩,λ j hj=>by rw [show j=0 by omega]; exact Int.le_refl _⟩
  ·obtain ⟨o,ho,rfl⟩:=main
   rw [jK ho]
   rfl
  ·left
   obtain ⟨x,lo,g⟩:=s
   obtain ⟨rfl,⟨⟨j1,y,e1⟩,h1⟩,⟨j2,hj2,e2⟩,h2⟩:=hI
   simp only at e1 h1 e2 h2
   have k:q+1 < (cz b).length:=by omega
   simp only [dec_lt k,bF,cF,bE k,aM,bE (hlen _ k),abI hr,aNL,aj8,cR (i:=q+1) (by omega)]
   refine ⟨_,rfl,rfl,⟨?_,λ j hj=>?_⟩,?_,λ j hj=>?_⟩
   ·simp only
    by_cases hm:lo≤mF b (nth (nth (cz b) (q+1)) i)
    ·exact ⟨j1,by omega,by omega⟩
    ·exact ⟨q+1,by omega,by omega⟩
   ·simp only
    rcases Nat.lt_or_ge j (q+1) with f | f
    ·have:=h1 j f; omega
    ·rw [show j=q+1 by omega]; omega
   ·simp only
    by_cases hm:mF b (nth (nth (cz b) (q+1)) i)≤g
    ·exact ⟨j2,by omega,by omega⟩
    ·exact ⟨q+1,by omega,by omega⟩
   ·simp only
    rcases Nat.lt_or_ge j (q+1) with f | f
    ·have:=h2 j f; omega
    ·rw [show j=q+1 by omega]; omega
  ·obtain ⟨x,lo,g⟩:=s
   obtain ⟨rfl,⟨⟨j1,y,e1⟩,h1⟩,⟨j2,hj2,e2⟩,h2⟩:=hI
   simp only at e1 h1 e2 h2
   have hx:(((cz b).length - 1+1:Nat):Int)=((cz b).length:Int):=by omega
   refine ⟨(lo,g),by simp only [hx,fj,bu],?_⟩
   obtain ⟨f1,f2⟩:=aQb m
   obtain ⟨l1,l2⟩:=aQc m
   obtain ⟨c1,z,f1⟩:=List.mem_map.1 f1
   obtain ⟨c2,fl,l1⟩:=List.mem_map.1 l1
   obtain ⟨k1,C,rfl⟩:=Sf z
   obtain ⟨k2,B,rfl⟩:=Sf fl
   have g1:=f2 _ (List.mem_map.2 ⟨_,ib (show j1 < (cz b).length by omega),rfl⟩)
   have g2:=h1 k1 (by omega)
   have g3:=l2 _ (List.mem_map.2 ⟨_,ib (show j2 < (cz b).length by omega),rfl⟩)
   have g4:=h2 k2 (by omega)
   rw [f1] at g2
   rw [l1] at g4
   rw [← e1] at g1
   rw [← e2] at g3
   exact Prod.ext (by show lo=nth (kL ((cz b).map λ c=>mF b (nth c i))) 0; omega) (by show g=nth (kL ((cz b).map λ c=>mF b (nth c i))) ((kL ((cz b).map λ c=>mF b (nth c i))).length - 1); omega)
 ·simp only [h,ne_eq,ew,if_true,my h,bF]
theorem aq7{b:an}{i:Nat}{k:Int}:k∈KB b i↔∃ c∈cz b,nth c i=k:=by
 unfold KB
 rw [Ft,List.mem_map]
theorem aq5{b:an}{i:Nat}(hi:i < b.aQ.length){k:Int}(h:k∈KB b i):(nth b.aQ i).cQ≤k∧k≤(nth b.aQ i).dE:=by
 obtain ⟨c,hc,rfl⟩:=aq7.1 h
 exact (z9.1 hc).1.2 i hi
theorem aq6{b:an}(hv:Valid b){i:Nat}(hi:i < b.aQ.length):(KB b i).length≤3:=by
 have hp:=hv.each hi
 refine Nat.le_trans (aKW (m:=ta (nth b.aQ i)) id ((S4 _).imp λ h=>by omega) (λ x _ y _ h=>h) λ c hc=>?_) (acE hp.2.2.2)
 exact aka.2 (aq5 hi hc)
theorem aNg{b:an}(hs:Small b)(k i:Int):NA b k i=some (Sd b k i):=by
 unfold NA Sd
 rw [aLm hs,aM]
 by_cases h1:gl b=0
 ·have hv:=tn.1 h1
  have j:=Bu hv
  have d:yj b 6=([],6):=by unfold yj iI; simp [h1]
  have f6:um false=some 6:=rfl
  rw [if_neg (show ¬ gl b≠0 by simpa using h1)]
  cases hk:vV b k with
  | false =>
   rw [bu,f6,aM,z8 hs,d]
   rfl
  | true =>
   rw [bF,ajw hs,aM]
   cases hi:vU b i with
   | false =>
    rw [f6,aM,z8 hs,d]
    rfl
   | true =>
    obtain ⟨k',rfl,f⟩:=aiT.1 hk
    obtain ⟨i',rfl,g⟩:=aiS.1 hi
    rw [show um true=some 0 from rfl,aM,z8 hs]
    unfold yj
    rw [Wo hv]
    by_cases hc:cz b=[]
    ·rw [if_pos hc,if_pos hc]
     rfl
    ·rw [if_neg hc,if_neg hc]
     simp only [ne_eq,jo,if_false,Bool.and_self,nU,aM,dn,bu]
     rw [jK (o:=(((cz b).filter λ c=>lQ b c k' i').length:Int)) (abA (l:=cz b) (λ c=>lQ b c k' i') (λ q n hq hn=>?_) (λ n=>by simp only [fj,bu]))]
     ·rw [ajx]
      rfl
     ·simp only [dec_lt hq,bF,cF,bE hq,aM,ajX hv (z9.1 (ib hq)).1.1 f g,cR (i:=q) (by omega),cR (i:=n) (by omega)]
      cases lQ b (nth (cz b) q) k' i' <;> rfl
 ·have e:∀ own,yj b own=([],gl b):=λ own=>by unfold yj iI; simp [h1]
  have f6:um false=some 6:=rfl
  have f0:um true=some 0:=rfl
  rw [if_pos h1]
  cases vV b k with
  | false =>
   rw [bu,f6,aM,z8 hs,e,aM,aM]
   simp only [my h1,bF]
  | true =>
   rw [bF,ajw hs,aM]
   cases vU b i with
   | false =>
    rw [f6,aM,z8 hs,e,aM,aM]
    simp only [my h1,bF]
   | true =>
    rw [f0,aM,z8 hs,e,aM,aM]
    simp only [my h1,bF]
def qE(b:an)(r:List (List Int))(i:Nat):Option Int :=
 if ((nth r i).length:Int)≠(nth b.aA i).aB then some 2 else if tL (nth r i) b.aB.length≠0 then some (tL (nth r i) b.aB.length) else none
def qF(b:an)(r:List (List Int)):Int:=if r.length≠b.aA.length then 2 else (eg (qE b r) 0 r.length).getD 0
theorem aqU{l:List Int}{n:Int}(h:tL l n=0):l.Pairwise (· < ·):=by
 have hn:∀ j,j < l.length→py l n j=none:=by
  unfold tL at h
  cases hf:eg (py l n) 0 l.length with
  | none=>exact λ j hj=>nX.1 hf j (by omega) (by omega)
  | some o =>
   rw [hf] at h
   obtain ⟨j,_,_,he,_⟩:=r8 hf
   unfold py at he
   simp only [nm] at h
   subst h
   split at he
   ·cases he
   ·split at he
    ·split at he <;> cases he
    ·cases he
 have hc:∀ j,0 < j→j < l.length→nth l (j - 1) < nth l j:=λ j h0 hj=>by
  have:=hn j hj
  unfold py at this
  rw [if_pos h0] at this
  split at this
  ·cases this
  ·split at this
   ·cases this
   ·omega
 have key:∀ d i,i+d+1 < l.length→nth l i < nth l (i+d+1):=by
  intro d
  induction d with
  | zero=>intro i hi; exact hc (i+1) (by omega) hi
  | succ d ih =>
   intro i hi
   have h1:=ih i (by omega)
   have h2:=hc (i+(d+1)+1) (by omega) hi
   rw [show i+(d+1)+1 - 1=i+d+1 by omega] at h2
   omega
 rw [List.pairwise_iff_getElem]
 intro i j hi hj b
 have e:∀ k (hk:k < l.length),l[k]=nth l k:=λ k hk=>by
  have:=bE hk
  rw [lz hk] at this
  exact j6 this
 rw [e i hi,e j hj]
 have:=key (j - i - 1) i (by omega)
 rwa [show i+(j - i - 1)+1=j by omega] at this
theorem ak3{b:an}{r:List (List Int)}{i:Nat}(h:qE b r i=none):((nth r i).length:Int)=(nth b.aA i).aB∧(nth r i).Pairwise (· < ·)∧∀ k∈nth r i,0≤k∧k < (b.aB.length:Int):=by
 unfold qE at h
 split at h
 ·cases h
 ·rename_i h1
  split at h
  ·cases h
  ·rename_i h2
   have h2:tL (nth r i) b.aB.length=0:=by simpa using h2
   exact ⟨by simpa using h1,aqU h2,aqV h2⟩
theorem ak2{b:an}{r:List (List Int)}(h:qF b r=0):Bl b r:=by
 unfold qF at h
 split at h
 ·cases h
 ·rename_i hl
  have hl:r.length=b.aA.length:=by simpa using hl
  refine ⟨hl,λ i hi=>ak3 ?_⟩
  cases hf:eg (qE b r) 0 r.length with
  | none=>exact nX.1 hf i (by omega) (by omega)
  | some o =>
   rw [hf] at h
   simp only [nm] at h
   subst h
   obtain ⟨j,_,_,he,_⟩:=r8 hf
   unfold qE at he
   split at he
   ·cases he
   ·split at he
    ·rename_i h2
     simp only [jl] at he
     exact absurd he h2
    ·cases he
theorem aNx{b:an}(hv:Valid b){r:List (List Int)}(hr:∀ c∈r,c.length≤20):NG b r=some (qF b r):=by
 have j:=hv.m4
 have f:=hv.d4
 unfold NG qF
 by_cases hl:r.length=b.aA.length
 ·rw [show ((r.length:Int) != (b.aA.length:Int))=false by simp [hl],bu,if_neg (by simpa using hl)]
  refine rL (qE b r) r.length (λ i hi=>?_) (by simp only [fj,bu]) rfl
  have d:i < b.aA.length:=by omega
  have g:=hr _ (ib hi)
  simp only [dec_lt hi,bF,cF,bE hi,bE d,aM,aNu (l:=nth r i) (below:=(b.aB.length:Int)) (by omega) (by omega) (by omega),cR (i:=i) (by omega)]
  unfold qE
  by_cases h1:((nth r i).length:Int)=(nth b.aA i).aB
  ·rw [show (((nth r i).length:Int) != (nth b.aA i).aB)=false by simp [h1],bu,if_neg (by simpa using h1)]
   by_cases h2:tL (nth r i) b.aB.length=0
   ·rw [h2]; rfl
   ·rw [my h2,bF,if_pos h2]
  ·rw [show (((nth r i).length:Int) != (nth b.aA i).aB)=true by simpa using h1,bF,if_pos h1]
 ·rw [show ((r.length:Int) != (b.aA.length:Int))=true by simp; omega,bF,if_pos hl]
theorem Wx{O:Type}{e:Nat→Option O}{n i:Nat}{o:O}(hb:∀ j,j < i→e j=none)(hi:i < n)(ho:e i=some o):eg e 0 n=some o:=by
 cases hf:eg e 0 n with
 | none=>have:=nX.1 hf i (by omega) (by omega); rw [this] at ho; cases ho
 | some x =>
  obtain ⟨j,_,hj,he,hm⟩:=r8 hf
  rcases Nat.lt_trichotomy j i with h | h | h
  ·rw [hb j h] at he; cases he
  ·rw [h,ho] at he; rw [← he]
  ·rw [hm i (by omega) h] at ho; cases ho
theorem aqT{l:List Int}{n:Int}{j:Nat}{z:Int}(h:py l n j=some z):z≠0:=by
 unfold py at h
 split at h
 ·cases h; decide
 ·split at h
  ·split at h
   ·cases h; decide
   ·cases h
  ·cases h
theorem aPK{g:List Bool}(hg:g.length=16){i:Nat}(hi:i < 4):iB 4 g (i:Int)=some ((g.drop (i * 4)).take 4):=by
 unfold iB
 rw [eD,if_pos (by omega)]
theorem aLq{b:an}(hv:Valid b){r:List (List Int)}(hr:∀ c∈r,c.length≤20):∃ y,zO b r=some y∧y.2=qF b r:=by
 have A:=hv.m4
 have n:=hv.d4
 unfold zO qF
 by_cases hl:r.length=b.aA.length
 case neg =>
  rw [show ((r.length:Int) != (b.aA.length:Int))=true by simp; omega,bF,if_pos hl]
  exact ⟨_,rfl,rfl⟩
 rw [show ((r.length:Int) != (b.aA.length:Int))=false by simp [hl],bu,if_neg (by simpa using hl)]
 refine rz (λ s=>∃ i:Nat,s.1=(i:Int)∧i≤r.length∧s.2.length=16∧∀ j,j < i→qE b r j=none) (λ s=>r.length - s.1.toNat) (λ o=>match o with | .inl _=>eg (qE b r) 0 r.length=none | .inr q=>eg (qE b r) 0 r.length=some q.2) ⟨0,rfl,by omega,rfl,by simp⟩ (λ o ho=>?_) (λ s hI=>?_)
 ·cases o with
  | inl g=>exact ⟨_,rfl,by rw [ho]; rfl⟩
  | inr q=>exact ⟨_,rfl,by rw [ho]; rfl⟩
 obtain ⟨x,g⟩:=s
 obtain ⟨i,rfl,hi,hg,hb⟩:=hI
 simp only at hg
 rcases Nat.lt_or_ge i r.length with d | B
 case inr =>
  right
  obtain rfl:i=r.length:=by omega
  exact ⟨.inl g,by simp only [fj,bu],nX.2 λ j _ hj=>hb j (by omega)⟩
 have f:i < b.aA.length:=by omega
 have p:=hr _ (ib d)
 simp only [dec_lt d,bF,cF,bE d,bE f,aM]
 by_cases h1:((nth r i).length:Int)=(nth b.aA i).aB
 case neg =>
  right
  rw [show (((nth r i).length:Int) != (nth b.aA i).aB)=true by simpa using h1,bF]
  exact ⟨_,rfl,Wx hb d (by unfold qE; rw [if_pos h1])⟩
 rw [show (((nth r i).length:Int) != (nth b.aA i).aB)=false by simp [h1],bu]
 rw [S0 (λ k=>(py (nth r i) b.aB.length k).map λ z=>(Uq,z)) (nth r i).length (λ k hk=>?_) (by simp only [fj,bu])]
 ·cases hf:eg (λ k=>(py (nth r i) b.aB.length k).map λ z=>(Uq,z)) 0 (nth r i).length with
  | none =>
   have hn:∀ k,k < (nth r i).length→py (nth r i) b.aB.length k=none:=λ k hk=>by
    have:=nX.1 hf k (by omega) (by omega)
    simpa using this
   have h0:tL (nth r i) b.aB.length=0:=by
    unfold tL
    rw [nX.2 λ k _ hk=>hn k (by omega)]
    rfl
   have hp:qE b r i=none:=by
    unfold qE
    rw [if_neg (by simpa using h1),if_neg (by simpa using h0)]
   obtain ⟨_,ha,hc⟩:=ak3 hp
   left
   simp only [aM,Sum.elim_inl,ajB (c:=nth r i) (by omega) (λ k hk=>by have:=hc k hk; omega),aPK hg (show i < 4 by omega),cR (i:=i) (by omega)]
   refine ⟨_,rfl,⟨i+1,rfl,by omega,?_,λ j hj=>?_⟩,by simp only [eD]; omega⟩
   ·have w:=KR (nth r i)
    unfold C4
    rw [eD]
    simp only [kO,jP,List.length_drop]
    omega
   ·rcases Nat.lt_or_ge j i with h | h
    ·exact hb j h
    ·rw [show j=i by omega]; exact hp
  | some o =>
   obtain ⟨j,_,hj,he,hm⟩:=r8 hf
   rw [Option.map_eq_some_iff] at he
   obtain ⟨z,hz,rfl⟩:=he
   have h0:tL (nth r i) b.aB.length=z:=by
    unfold tL
    rw [Wx (λ k hk=>by have:=hm k (by omega) hk; simpa using this) (by omega) hz]
    rfl
   have hp:qE b r i=some z:=by
    unfold qE
    rw [if_neg (by simpa using h1),if_pos (by rw [h0]; exact aqT hz),h0]
   right
   exact ⟨_,rfl,Wx hb d hp⟩
 ·simp only [dec_lt hk,bF,cF,bE hk,aM,EU (m:=b.aB.length) (by omega),cR (i:=k) (by omega)]
  unfold py
  cases cS (nth (nth r i) k) 0 ((b.aB.length:Int) - 1) with
  | false=>rfl
  | true =>
   simp only [nU,if_false,dn,bu]
   by_cases hp:0 < k
   ·simp only [G7 hp,bF,kE (i:=k) (by omega) hp,cF,bE (show k - 1 < (nth r i).length by omega),aM,hp,if_true]
    by_cases hc:nth (nth r i) k≤nth (nth r i) (k - 1) <;> simp [hc,bF,bu]
   ·simp [hp,bu]
def Qf(b:an)(r:List (List Int)):Int × Int:=if gl b≠0 then (0,gl b) else if qF b r≠0 then (0,qF b r) else if cz b=[] then (0,9) else (Qe b r,0)
theorem aNi{b:an}(hs:Small b){r:List (List Int)}(hr:∀ c∈r,c.length≤20):m32 b r=some (Qf b r):=by
 unfold Qf
 by_cases h:gl b=0
 ·have hv:=tn.1 h
  rw [if_neg (by simpa using h)]
  by_cases hp:qF b r=0
  ·rw [if_neg (by simpa using hp),aNj hv (ak2 hp)]
  ·rw [if_pos hp]
   obtain ⟨⟨g,z⟩,hg,hz⟩:=aLq hv hr
   simp only at hz
   unfold m32
   rw [abK hs (g':=g) (own:=qF b r) (λ _=>by unfold Cl; rw [hg,aM,hz]),aM,if_neg (show ¬ gl b≠0 by simp [h])]
   have he:iI b (qF b r)=qF b r:=by unfold iI; simp [h,hp]
   unfold yv
   rw [he,if_pos hp]
   simp only [my hp,bF]
 ·rw [if_pos h]
  unfold m32
  rw [abK hs (g':=[]) (own:=0) (λ h2=>absurd h2 h),aM,if_pos h]
  simp only [my h,bF]
theorem aLy{b:an}(hv:Valid b){r:List (List Int)}(h:Bl b r){c:List Int}(hc:c.length=b.aQ.length):Nb b c r=some (y9 b c r):=by
 have hd:=hv.d4
 have hl:=h.len
 unfold Nb y9
 rw [← hl,zL (n:=r.length) (λ i=>(nth r i).all λ k=>lQ b c k.toNat i) false (λ i hi=>?_) (by simp only [fj,bu])]
 ·cases (List.range r.length).all λ i=>(nth r i).all λ k=>lQ b c k.toNat i <;> rfl
 ·simp only [dec_lt hi,bF]
  have hrl:=h.rl hv i (by omega)
  rw [RP (l:=nth r i) (λ k=>lQ b c k.toNat i) false (λ q hq=>?_) (by simp only [cF,bE hi,aM,fj,bu])]
  ·cases (nth r i).all λ k=>lQ b c k.toNat i with
   | true=>simp only [if_true,aM,Sum.elim_inl,cR (i:=i) (by omega)]
   | false=>rfl
  ·have hk:=(h.row i (by omega)).2.2 _ (ib hq)
   have e:Fp b c (nth (nth r i) q) (i:Int)=some (lQ b c (nth (nth r i) q).toNat i):=by
    have:=ajX hv hc (k:=(nth (nth r i) q).toNat) (i:=i) (by omega) (by omega)
    rwa [Int.toNat_of_nonneg hk.1] at this
   simp only [cF,bE hi,aM,dec_lt hq,bF,bE hq,e,cR (i:=q) (by omega)]
   cases lQ b c (nth (nth r i) q).toNat i <;> rfl
theorem aNk{b:an}(hs:Small b){r:List (List Int)}(hr:∀ c∈r,c.length≤20):NB b r=some (Qf b r):=by
 unfold NB Qf
 rw [abY hs,aM]
 by_cases h:gl b=0
 ·have hv:=tn.1 h
  have f:=Bu hv
  rw [if_neg (by simpa using h),h]
  simp only [dn,bu]
  rw [aNx hv hr,aM,z8 hs,aM]
  unfold yj
  by_cases hp:qF b r=0
  ·have d:=ak2 hp
   have hl:=d.len
   rw [hp,Wo hv]
   by_cases hc:cz b=[]
   ·rw [if_pos hc,if_pos hc]
    rfl
   ·rw [if_neg hc,if_neg hc]
    simp only [ne_eq,jo,if_false,dn,bu]
    rw [jK (o:=(((cz b).filter λ c=>FI b r && y9 b c r).length:Int)) (abA (l:=cz b) (λ c=>FI b r && y9 b c r) (λ q n hq hn=>?_) (λ n=>by simp only [fj,bu]))]
    ·rw [ajx]
     unfold Qe
     cases FI b r with
     | true=>simp
     | false=>simp [Ek]
    ·have e:H4 b r=some (FI b r):=by
      rw [aLw hv (by omega) (λ i hi=>d.rl hv i (by omega)),hl]
      rfl
     simp only [dec_lt hq,bF,e,aM,cF,bE hq,aLy hv d (z9.1 (ib hq)).1.1,cR (i:=q) (by omega),cR (i:=n) (by omega)]
     cases FI b r with
     | false=>rfl
     | true=>cases y9 b (nth (cz b) q) r <;> rfl
  ·have he:iI b (qF b r)=qF b r:=by unfold iI; simp [h,hp]
   rw [he,if_pos hp,if_pos hp]
   simp only [my hp,bF]
 ·rw [my h,bF,if_pos h]
def Qg(r:List (List Int)):Bool:=decide (20 < r.length) || r.any λ c=>decide (20 < c.length)
theorem aMw(r:List (List Int)):Nq r=some (Qg r):=by
 unfold Nq Qg
 have e1:decide ((r.length:Int) > 20)=decide (20 < r.length):=xr (m:=20)
 rw [e1]
 by_cases h1:20 < r.length
 ·simp [h1,bF]
 simp only [h1,decide_false,bu,Bool.false_or]
 rw [rL (λ i=>if decide (20 < (nth r i).length) then some true else none) r.length (d:=false) (λ i hi=>?_) (by simp only [fj,bu]) rfl]
 ·rw [Qd (λ c:List Int=>decide (20 < c.length)) r]
 ·have f1:decide (((nth r i).length:Int) > 20)=decide (20 < (nth r i).length):=xr (m:=20)
  simp only [dec_lt hi,bF,cF,bE hi,aM,f1,cR (i:=i) (by omega)]
  cases decide (20 < (nth r i).length) <;> rfl
theorem aJU(b:an)(x k i:Int)(r:List (List Int)):m3 b x k i r=some true:=by
 unfold m3
 rw [aMh,aPF,aM]
 cases hg:KU b with
 | true=>rfl
 | false =>
 have hs:=auZ hg
 rw [bu,aMw,aM,aM]
 cases d:Qg r with
 | true=>rfl
 | false =>
 have hr:∀ c∈r,c.length≤20:=λ c hc=>by
  unfold Qg at d
  rw [Bool.or_eq_false_iff,List.any_eq_false] at d
  have:=d.2 c hc
  simpa using this
 have f:(DH b x).1.length≤1000:=by
  unfold DH
  by_cases h:iI b (pO b x)=0
  ·obtain ⟨hv,ho,hc⟩:=KH h
   obtain ⟨j,rfl,hj⟩:=NP ho
   have:=aq6 hv hj
   rw [if_neg (by simpa using h)]
   simp only [eD]
   omega
  ·rw [if_pos h]; simp
 rw [bu,aMI hs,aMJ hs,aML hs,aMV hs,aNc hs,aNd hs,aNf hs,aNg hs,aNi hs hr,aNk hs hr]
 simp only [aM,dn,bu,aNb (a:=(DH b x).1) rfl f,decide_true,ek,beq_self_eq_true,bF,KF,Bool.and_self]
end Go.Proofs.YtihapemckcdicaaGreatDoor
