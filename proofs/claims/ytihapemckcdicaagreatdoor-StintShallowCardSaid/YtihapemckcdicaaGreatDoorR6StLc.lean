/- Plain laws of chapter 5, with what is sorted. Conditions: none. -/
import Derived.Test.YtihapemckcdicaaGreatDoorQVStC
import Derived.Test.YtihapemckcdicaaGreatDoorR6StLb
import Derived.Sort.AssemblyPlain
namespace Go.Proofs.YtihapemckcdicaaGreatDoor
open Go.Lg Go.Proofs Go.Sort
set_option maxRecDepth 10000
theorem WL{S O:Type}{body:S→Option (S ⊕ O)}(I:S→Prop)(μ:S→Nat){Q:O→Prop}(h:∀ s,I s→(∃ s',body s=some (.inl s')∧I s'∧μ s' < μ s)∨∃ o,body s=some (.inr o)∧Q o):∀ s,I s→∃ o,bH body s=some o∧Q o:=by
 have key:∀ n s,μ s≤n→I s→∃ o,bH body s=some o∧Q o:=by
  intro n
  induction n with
  | zero =>
   intro s hn hI
   rcases h s hI with ⟨s',_,_,bL⟩ | ⟨o,hb,hq⟩
   ·omega
   ·exact ⟨o,lR hb,hq⟩
  | succ n ih =>
   intro s hn hI
   rcases h s hI with ⟨s',hb,HO,bL⟩ | ⟨o,hb,hq⟩
   ·obtain ⟨o,ho,hq⟩:=ih s' (by omega) HO
    exact ⟨o,by rw [vF hb,ho],hq⟩
   ·exact ⟨o,lR hb,hq⟩
 exact λ s hI=>key _ s (Nat.le_refl _) hI
theorem qR{S O β:Type}{body:S→Option (S ⊕ O)}{f:O→Option β}{P:β→Prop}(I:S→Prop)(μ:S→Nat)(Q:O→Prop){s:S}(hI:I s)(hf:∀ o,Q o→∃ b,f o=some b∧P b)(h:∀ s,I s→(∃ s',body s=some (.inl s')∧I s'∧μ s' < μ s)∨∃ o,body s=some (.inr o)∧Q o):∃ b,(bH body s).bind f=some b∧P b:=by
 obtain ⟨o,ho,hq⟩:=WL I μ h s hI
 rw [ql ho]
 exact hf o hq
theorem p8(x y:Int):gj x y=some (ltInt x y):=by
 unfold gj xD
 simp only [Option.bind_some,bne_self_eq_false,cD]
 rfl
theorem kS(l:List Int)(i:Nat):l.toArray[i]! = nth l i:=by
 unfold nth
 simp only [List.getElem!_toArray,List.getElem!_eq_getElem?_getD,List.getD_eq_getElem?_getD]
def jU(l:List Int)(i j:Nat):List Int:=(l.set i (nth l j)).set j (nth l i)
theorem oC(l:List Int)(i j:Nat):(jU l i j).toArray=swp l.toArray i j:=by
 unfold jU swp
 rw [kS,kS]
 simp
theorem nJ(l:List Int)(i j:Nat):(jU l i j).length=l.length:=by simp [jU]
theorem oB{l:List Int}{i j:Nat}{x:Int}(h:j < l.length):(l.set i x)[j]? = some (nth (l.set i x) j):=cp (by simpa using h)
theorem qO{i j:Nat}(h:i≤1000000000)(hj:j≤i):i64 ((i:Int) - (j:Int))=((i - j:Nat):Int):=by rw [gB (by omega) (by omega)]; omega
theorem vB{i j:Nat}(h:i≤1000000000)(hj:j≤1000000000):i64 ((i:Int)+(j:Int))=((i+j:Nat):Int):=by rw [gB (by omega) (by omega)]; omega
theorem adG{i:Nat}(h:i≤1000000000):i64 (((i+1:Nat):Int) - 1)=(i:Int):=by rw [gB (by omega) (by omega)]; omega
theorem pN{i j:Nat}:decide ((i:Int) < (j:Int))=decide (i < j):=by simp
theorem Mb{i j:Nat}:decide ((i:Int) > (j:Int))=decide (i > j):=by simp
theorem El{i j:Nat}:decide ((i:Int)≤(j:Int))=decide (i≤j):=by simp
theorem HG{i j:Nat}:decide ((i:Int) ≥ (j:Int))=decide (i ≥ j):=by simp
abbrev kr(l:List Int):Prop:=l.length≤1000000
theorem aeo{l:List Int}{a b:Nat}(hl:kr l)(bE:a≤b)(hb:b≤l.length):∃ l',zQ l a b=some l'∧l'.toArray=insertionSort ltInt l.toArray a b:=by
 unfold zQ insertionSort
 have hB:=hl
 unfold kr at hB
 rw [fy (by omega)]
 refine qR (λ s=>∃ (m:List Int) (i:Nat),s=(m,(i:Int))∧m.length=l.length∧insOuter ltInt a b i m.toArray=insOuter ltInt a b (a+1) l.toArray) (λ s=>b - s.2.toNat)
  (λ o=>o.toArray=insOuter ltInt a b (a+1) l.toArray) ⟨l,a+1,rfl,rfl,rfl⟩ (λ o hq=>⟨o,rfl,hq⟩) ?_
 ·rintro _ ⟨m,i,rfl,hm,hT⟩
  rw [insOuter] at hT
  by_cases hi:i < b
  ·rw [if_pos hi] at hT
   left
   obtain ⟨p,hp,Iy,hpq⟩:=WL (S:=List Int × Int) (O:=List Int) (body:=λ (eR:((List Int) × Int)) =>
    (((af (decide (eR.2 > (a:Int)))
    ((idx eR.1 eR.2).bind λ KS =>
    (idx eR.1 (i64 (eR.2 - 1))).bind λ KT =>
    (gj KS KT).bind λ Py =>
    some Py)
    (some false)):Option Bool)).bind (λ (F2:Bool) =>
    af F2
    ((idx eR.1 (i64 (eR.2 - 1))).bind λ uI =>
    (idx eR.1 eR.2).bind λ AI =>
    (idx eR.1 eR.2).bind λ YJ =>
    (idx (eR.1.set eR.2.toNat uI) (i64 (eR.2 - 1))).bind λ AJ =>
    some (.inl ((eR.1.set eR.2.toNat uI).set (i64 (eR.2 - 1)).toNat AI,i64 (eR.2 - 1))))
    (some (.inr eR.1)))) (λ s=>∃ (q:List Int) (j:Nat),s=(q,(j:Int))∧q.length=l.length∧j < q.length∧insInner ltInt a j q.toArray=insInner ltInt a i m.toArray) (λ s=>s.2.toNat)
    (Q:=λ o=>o.length=l.length∧o.toArray=insInner ltInt a i m.toArray) (by
     rintro _ ⟨q,j,rfl,hq,hj,iM⟩
     cases j with
     | zero =>
      right
      refine ⟨q,?_,hq,iM⟩
      rw [show decide (((0:Nat):Int) > (a:Int))=false by simp]
      rfl
     | succ j =>
      rw [insInner] at iM
      dsimp only
      rw [Mb,adG (by omega)]
      simp only [dT,cp hj,cp (show j < q.length by omega),Option.bind_some,p8,Int.toNat_natCast,oB (show j < q.length by omega)]
      rw [kS,kS] at iM
      by_cases hc:j+1 > a∧ltInt (nth q (j+1)) (nth q j)=true
      ·left
       rw [if_pos (by simp [hc.1,hc.2])] at iM
       refine ⟨(jU q (j+1) j,(j:Int)),?_,⟨_,j,rfl,by rw [nJ]; exact hq,by rw [nJ]; omega,by rw [oC]; exact iM⟩,by simp only [Int.toNat_natCast]; omega⟩
       rw [decide_eq_true hc.1,cJ,Option.bind_some,hc.2]
       rfl
      ·right
       rw [if_neg (by simpa using hc)] at iM
       refine ⟨q,?_,hq,iM⟩
       by_cases h1:j+1 > a
       ·have h2:ltInt (nth q (j+1)) (nth q j)=false:=by simpa [h1] using hc
        rw [decide_eq_true h1,cJ,Option.bind_some,h2]
        rfl
       ·rw [decide_eq_false h1]
        rfl) (m,(i:Int)) ⟨m,i,rfl,hm,by omega,rfl⟩
   refine ⟨(p,((i+1:Nat):Int)),?_,⟨p,i+1,rfl,Iy,by rw [hpq]; exact hT⟩,by simp only [Int.toNat_natCast]; omega⟩
   dsimp only
   rw [pN,decide_eq_true hi,cJ,ql hp,fy (by omega)]
  ·rw [if_neg hi] at hT
   right
   refine ⟨m,?_,hT⟩
   dsimp only
   rw [pN,decide_eq_false hi,cD]
theorem aEo{l:List Int}{a b:Nat}(hl:kr l)(bE:a < b)(hb:b≤l.length):∃ l',xC l a b=some l'∧l'.toArray=reverseRange l.toArray a b:=by
 unfold xC reverseRange
 have hB:=hl
 unfold kr at hB
 rw [show i64 ((b:Int) - 1)=((b - 1:Nat):Int) from kO (by omega) (by omega)]
 refine qR (λ s=>∃ (m:List Int) (i j:Nat),s=(m,(i:Int),(j:Int))∧m.length=l.length∧j < b∧reverseLoop i j m.toArray=reverseLoop a (b - 1) l.toArray) (λ s=>s.2.2.toNat - s.2.1.toNat)
  (λ o=>o.toArray=reverseLoop a (b - 1) l.toArray) ⟨l,a,b - 1,rfl,rfl,by omega,rfl⟩ (λ o hq=>⟨o,rfl,hq⟩) ?_
 ·rintro _ ⟨m,i,j,rfl,hm,hj,hT⟩
  rw [reverseLoop] at hT
  dsimp only
  rw [pN]
  by_cases fC:i < j
  ·rw [if_pos fC] at hT
   left
   refine ⟨(jU m i j,((i+1:Nat):Int),((j - 1:Nat):Int)),?_,⟨_,i+1,j - 1,rfl,by rw [nJ]; exact hm,by omega,by rw [oC]; exact hT⟩,by simp only [Int.toNat_natCast]; omega⟩
   rw [decide_eq_true fC,cJ]
   simp only [dT,cp (show i < m.length by omega),cp (show j < m.length by omega),Option.bind_some,Int.toNat_natCast,oB (show j < m.length by omega),fy (i:=i) (by omega),kO (i:=j) (by omega) (by omega)]
   rfl
  ·rw [if_neg fC] at hT
   right
   exact ⟨m,by rw [decide_eq_false fC]; rfl,hT⟩
theorem aep{l:List Int}{r hi first:Nat}(hl:kr l)(hb:first+hi≤l.length)(hr:r≤1000000):∃ l',zV l r hi first=some l'∧l'.length=l.length∧l'.toArray=siftDown ltInt hi first r l.toArray:=by
 unfold zV
 have hB:=hl
 unfold kr at hB
 refine qR (λ s=>∃ (m:List Int) (q:Nat),s=(m,(q:Int))∧m.length=l.length∧q≤1000000∧siftDown ltInt hi first q m.toArray=siftDown ltInt hi first r l.toArray) (λ s=>hi - s.2.toNat)
  (λ o=>∃ m:List Int,(o = .inl m∨o = .inr m)∧m.length=l.length∧m.toArray=siftDown ltInt hi first r l.toArray) ⟨l,r,rfl,rfl,hr,rfl⟩ (λ o hq=>?_) ?_
 ·obtain ⟨m,hm,hml,tA⟩:=hq
  rcases hm with rfl | rfl
  ·exact ⟨m,rfl,hml,tA⟩
  ·exact ⟨m,rfl,hml,tA⟩
 ·rintro _ ⟨m,q,rfl,hm,EK,hT⟩
  rw [siftDown] at hT
  dsimp only
  have e1:i64 (i64 (2 * (q:Int))+1)=((2 * q+1:Nat):Int):=by rw [gB (z:=2 * (q:Int)) (by omega) (by omega),gB (by omega) (by omega)]; omega
  have e2:i64 (((2 * q+1:Nat):Int)+1)=((2 * q+2:Nat):Int):=by rw [gB (by omega) (by omega)]; omega
  rw [e1,e2,HG,pN]
  by_cases h1:2 * q+1 ≥ hi
  ·rw [dif_pos h1] at hT
   right
   exact ⟨.inl m,by rw [decide_eq_true h1]; rfl,m,.inl rfl,hm,hT⟩
  ·rw [dif_neg h1] at hT
   rw [decide_eq_false h1,cD]
   have f1:i64 ((first:Int)+((2 * q+1:Nat):Int))=((first+(2 * q+1):Nat):Int):=vB (by omega) (by omega)
   have f2:i64 (((first+(2 * q+1):Nat):Int)+1)=((first+(2 * q+1)+1:Nat):Int):=fy (by omega)
   have f3:i64 ((first:Int)+(q:Int))=((first+q:Nat):Int):=vB (by omega) (by omega)
   have f4:i64 ((first:Int)+((2 * q+2:Nat):Int))=((first+(2 * q+2):Nat):Int):=vB (by omega) (by omega)
   rw [f1,f2,f3]
   simp only [kS] at hT
   have g0:m[first+q]? = some (nth m (first+q)):=cp (by omega)
   have g1:m[first+(2 * q+1)]? = some (nth m (first+(2 * q+1))):=cp (by omega)
   by_cases hc:(decide (2 * q+1+1 < hi) && ltInt (nth m (first+(2 * q+1))) (nth m (first+(2 * q+1)+1)))=true
   ·rw [if_pos hc] at hT
    simp only [Bool.and_eq_true,decide_eq_true_eq] at hc
    have g2:m[first+(2 * q+1)+1]? = some (nth m (first+(2 * q+1)+1)):=cp (by omega)
    have g2':m[first+(2 * q+2)]? = some (nth m (first+(2 * q+2))):=cp (by omega)
    rw [decide_eq_true (show 2 * q+2 < hi by omega),cJ]
    simp only [dT,g1,g2,Option.bind_some,p8,hc.2,cJ,f4,g0,g2']
    cases hx:ltInt (nth m (first+q)) (nth m (first+(2 * q+2))) with
    | false =>
     rw [hx] at hT
     right
     exact ⟨.inr m,rfl,m,.inr rfl,hm,by simpa using hT⟩
    | true =>
     rw [hx] at hT
     simp only [Bool.not_true,Bool.false_eq_true,if_false] at hT
     rw [dif_pos (by omega)] at hT
     left
     refine ⟨(jU m (first+q) (first+(2 * q+2)),((2 * q+2:Nat):Int)),?_,⟨_,2 * q+2,rfl,by rw [nJ]; exact hm,by omega,by rw [oC]; exact hT⟩,by simp only [Int.toNat_natCast]; omega⟩
     simp only [Bool.not_true,cD,Int.toNat_natCast,oB (show first+(2 * q+2) < m.length by omega),Option.bind_some]
     rfl
   ·rw [if_neg hc] at hT
    have hp:(af (decide (2 * q+2 < hi)) ((idx m ((first+(2 * q+1):Nat):Int)).bind λ sK=>(idx m ((first+(2 * q+1)+1:Nat):Int)).bind λ AF=>(gj sK AF).bind λ Po=>some Po) (some false):Option Bool)=some false:=by
     by_cases h2:2 * q+2 < hi
     ·have g2:m[first+(2 * q+1)+1]? = some (nth m (first+(2 * q+1)+1)):=cp (by omega)
      rw [decide_eq_true h2,cJ]
      simp only [dT,g1,g2,Option.bind_some,p8]
      have h2':2 * q+1+1 < hi:=h2
      simpa [h2'] using hc
     ·rw [decide_eq_false h2,cD]
    rw [hp]
    simp only [dT,Option.bind_some,cD,f1,g0,g1,p8]
    cases hx:ltInt (nth m (first+q)) (nth m (first+(2 * q+1))) with
    | false =>
     rw [hx] at hT
     right
     exact ⟨.inr m,rfl,m,.inr rfl,hm,by simpa using hT⟩
    | true =>
     rw [hx] at hT
     simp only [Bool.not_true,Bool.false_eq_true,if_false] at hT
     left
     refine ⟨(jU m (first+q) (first+(2 * q+1)),((2 * q+1:Nat):Int)),?_,⟨_,2 * q+1,rfl,by rw [nJ]; exact hm,by omega,by rw [oC]; exact hT⟩,by simp only [Int.toNat_natCast]; omega⟩
     simp only [Bool.not_true,cD,Int.toNat_natCast,oB (show first+(2 * q+1) < m.length by omega),Option.bind_some]
     rfl
theorem aEi{l:List Int}{a b:Nat}(hl:kr l)(bE:a < b)(hb:b≤l.length):∃ l',zR l a b=some l'∧l'.toArray=heapSort ltInt l.toArray a b:=by
 unfold zR heapSort
 have hB:=hl
 unfold kr at hB
 have e0:i64 ((b:Int) - (a:Int))=((b - a:Nat):Int):=qO (by omega) (by omega)
 have e1:i64 (((b - a:Nat):Int) - 1)=((b - a - 1:Nat):Int):=kO (by omega) (by omega)
 have e2:nD ((b - a - 1:Nat):Int) 2=some (((b - a - 1) / 2:Nat):Int):=by
  unfold nD
  rw [if_neg (by omega),show (2:Int)=((2:Nat):Int) from rfl,← Int.ofNat_tdiv,gB (by omega) (by omega)]
 rw [e0,e1,e2,Option.bind_some]
 generalize hn:b - a=n
 have BD:0 < n:=by omega
 refine qR (λ s=>∃ (m:List Int) (k:Nat),s=(m,(k:Int) - 1)∧m.length=l.length∧k≤1000000∧heapBuild ltInt n a k m.toArray=heapBuild ltInt n a ((n - 1) / 2+1) l.toArray) (λ s=>(s.2+1).toNat)
  (λ o=>o.length=l.length∧o.toArray=heapBuild ltInt n a ((n - 1) / 2+1) l.toArray) ⟨l,(n - 1) / 2+1,by simp,rfl,by omega,rfl⟩ (λ m hq=>?_) ?_
 ·obtain ⟨hm,tA⟩:=hq
  have e3:(((n - 1:Nat):Int))=(n:Int) - 1:=by omega
  rw [e3,← tA]
  refine qR (λ s=>∃ (q:List Int) (k:Nat),s=(q,(k:Int) - 1)∧q.length=l.length∧k≤n∧heapPop ltInt a k q.toArray=heapPop ltInt a n m.toArray) (λ s=>(s.2+1).toNat)
   (λ o=>o.toArray=heapPop ltInt a n m.toArray) ⟨m,n,rfl,hm,by omega,rfl⟩ (λ o hq=>⟨o,rfl,hq⟩) ?_
  rintro _ ⟨q,k,rfl,hq,hk,hT⟩
  dsimp only
  cases k with
  | zero =>
   right
   exact ⟨q,by rw [show decide (((0:Nat):Int) - 1 ≥ 0)=false by simp]; rfl,hT⟩
  | succ k =>
   left
   have e4:((k+1:Nat):Int) - 1=(k:Int):=by omega
   have f1:i64 ((a:Int)+(k:Int))=((a+k:Nat):Int):=vB (by omega) (by omega)
   rw [heapPop,← oC] at hT
   obtain ⟨t,ht,I9,nv⟩:=aep (l:=jU q a (a+k)) (r:=0) (hi:=k) (first:=a) (by unfold kr; rw [nJ]; omega) (by rw [nJ]; omega) (by omega)
   rw [nJ] at I9
   rw [← nv] at hT
   refine ⟨(t,(k:Int) - 1),?_,⟨t,k,rfl,by omega,by omega,hT⟩,by simp only []; omega⟩
   rw [e4,show decide ((k:Int) ≥ 0)=true by simp,cJ]
   simp only [f1,dT,cp (show a < q.length by omega),cp (show a+k < q.length by omega),Option.bind_some,Int.toNat_natCast,oB (show a+k < q.length by omega)]
   rw [show ((q.set a (nth q (a+k))).set (a+k) (nth q a))=jU q a (a+k) from rfl,show (0:Int)=((0:Nat):Int) from rfl,ht,Option.bind_some,gB (by omega) (by omega)]
 ·rintro _ ⟨m,k,rfl,hm,hk,hT⟩
  dsimp only
  cases k with
  | zero =>
   right
   exact ⟨m,by rw [show decide (((0:Nat):Int) - 1 ≥ 0)=false by simp]; rfl,hm,hT⟩
  | succ k =>
   left
   have e4:((k+1:Nat):Int) - 1=(k:Int):=by omega
   rw [heapBuild] at hT
   obtain ⟨t,ht,I9,nv⟩:=aep (l:=m) (r:=k) (hi:=n) (first:=a) (by unfold kr; omega) (by omega) (by omega)
   rw [← nv] at hT
   refine ⟨(t,(k:Int) - 1),?_,⟨t,k,rfl,by omega,by omega,hT⟩,by simp only []; omega⟩
   rw [e4,show decide ((k:Int) ≥ 0)=true by simp,cJ,ht,Option.bind_some,gB (by omega) (by omega)]
theorem afs{body:Int→Option (Int ⊕ Int)}{d:Array Int}{p:Int→Bool}{J:Nat}(h:∀ k:Nat,body (k:Int)=if (decide (k≤J) && p d[k]!)=true then some (.inl ((k+1:Nat):Int)) else some (.inr (k:Int)))(i:Nat):bH body (i:Int)=some ((scanUp p d J i:Nat):Int):=by
 have key:∀ n i:Nat,J+1 - i≤n→bH body (i:Int)=some ((scanUp p d J i:Nat):Int):=by
  intro n
  induction n with
  | zero =>
   intro i hn
   have hc:¬ (decide (i≤J) && p d[i]!)=true:=by simp; omega
   rw [scanUp,if_neg hc]
   exact lR (by rw [h,if_neg hc])
  | succ n ih =>
   intro i hn
   rw [scanUp]
   by_cases hc:(decide (i≤J) && p d[i]!)=true
   ·rw [if_pos hc]
    have hi:i≤J:=by simp at hc; exact hc.1
    rw [vF (s':=((i+1:Nat):Int)) (by rw [h,if_pos hc])]
    exact ih (i+1) (by omega)
   ·rw [if_neg hc]
    exact lR (by rw [h,if_neg hc])
 exact key _ i (Nat.le_refl _)
theorem XE{body:Int→Option (Int ⊕ Int)}{d:Array Int}{p:Int→Bool}{i:Nat}{J:Nat}(hi:0 < i)(h:∀ k:Nat,k≤J→body (k:Int)=if (decide (i≤k) && p d[k]!)=true then some (.inl ((k:Int) - 1)) else some (.inr (k:Int))):∀ j:Nat,j≤J→bH body (j:Int)=some ((scanDown p d i j:Nat):Int)
 | 0,hj=>by
  rw [scanDown]
  refine lR ?_
  rw [h 0 hj,if_neg (by simp; omega)]
 | j+1,hj=>by
  rw [scanDown]
  by_cases hc:(decide (i≤j+1) && p d[j+1]!)=true
  ·rw [if_pos hc,vF (s':=(j:Int)) (by rw [h _ hj,if_pos hc]; congr 2; omega)]
   exact XE hi h j (by omega)
  ·rw [if_neg hc]
   refine lR ?_
   rw [h _ hj,if_neg hc]
theorem XD{p:Int→Bool}{d:Array Int}{i j:Nat}(h:i≤j+1):i≤scanUp p d j i∧scanUp p d j i≤j+1:=by
 obtain ⟨h1,h2,_⟩:=scanUp_spec p d j _ i rfl
 exact ⟨h1,h2 h⟩
theorem Rq(p:Int→Bool)(d:Array Int)(i j:Nat):scanDown p d i j≤j:=(scanDown_spec p d i j).1
theorem XF{p q:Int→Bool}(hq:∀ x,q x=!p x){d:Array Int}{i j:Nat}(hi:0 < i)(h:¬ scanUp p d j i > scanDown q d (scanUp p d j i) j):scanUp p d j i < scanDown q d (scanUp p d j i) j:=by
 obtain ⟨u1,_,_,u4⟩:=scanUp_spec p d j _ i rfl
 obtain ⟨d1,_,_,d4⟩:=scanDown_spec q d (scanUp p d j i) j
 generalize scanUp p d j i=i2 at *
 generalize scanDown q d i2 j=j2 at *
 rcases Nat.lt_or_ge i2 j2 with h1 | h1
 ·exact h1
 ·have e:i2=j2:=by omega
  subst e
  have h2:=u4 (by omega)
  have h3:=d4 (by omega) (by omega)
  rw [hq,h2] at h3
  cases h3
theorem aEu{l:List Int}{a b p:Nat}(hl:kr l)(kY:a≤p)(hpb:p < b)(hb:b≤l.length):∃ l',zU l a b p=some (l',(((partition ltInt l.toArray a b p).1:Nat):Int),(partition ltInt l.toArray a b p).2.1)∧l'.toArray=(partition ltInt l.toArray a b p).2.2:=by
 unfold zU partition
 have hB:=hl
 unfold kr at hB
 simp only [dT,cp (show p < l.length by omega),cp (show a < l.length by omega),Option.bind_some,Int.toNat_natCast,oB (show p < l.length by omega)]
 rw [show ((l.set a (nth l p)).set p (nth l a))=jU l a p from rfl]
 generalize hD:jU l a p=D
 have y6:D.length=l.length:=by rw [← hD,nJ]
 rw [← oC,hD]
 have hga:D[a]? = some (nth D a):=cp (by omega)
 have eb:i64 ((b:Int) - 1)=((b - 1:Nat):Int):=kO (by omega) (by omega)
 rw [eb,fy (i:=a) (by omega)]
 have up:∀ (m:List Int) (J i:Nat),m.length=l.length→J < b→bH (λ (s:Int) =>
   af (decide (s≤(J:Int)))
   ((idx m s).bind λ x=>(m[a]?).bind λ y=>(gj x y).bind λ c=>af c (some (.inl (i64 (s+1)))) (some (.inr s)))
   (some (.inr s)):Int→Option (Int ⊕ Int)) (i:Int)=some ((scanUp (λ x=>ltInt x m.toArray[a]!) m.toArray J i:Nat):Int):=λ m J i hm hJ=>afs (λ k=>by
  rw [El,kS,kS]
  by_cases hk:k≤J
  ·simp only [decide_eq_true hk,cJ,dT,cp (show k < m.length by omega),cp (show a < m.length by omega),Option.bind_some,p8,Bool.true_and,fy (i:=k) (by omega)]
   cases ltInt (nth m k) (nth m a) <;> rfl
  ·simp [hk]) i
 have dn:∀ (m:List Int) (i j:Nat),m.length=l.length→0 < i→j < b→bH (λ (s:Int) =>
   af (decide ((i:Int)≤s))
   ((idx m s).bind λ x=>(m[a]?).bind λ y=>(gj x y).bind λ c=>af (!c) (some (.inl (i64 (s - 1)))) (some (.inr s)))
   (some (.inr s)):Int→Option (Int ⊕ Int)) (j:Int)=some ((scanDown (λ x=>!ltInt x m.toArray[a]!) m.toArray i j:Nat):Int):=λ m i j hm hi hj=>XE (J:=j) hi (λ k hkj=>by
  rw [El,kS,kS]
  by_cases hk:i≤k
  ·simp only [decide_eq_true hk,cJ,dT,cp (show k < m.length by omega),cp (show a < m.length by omega),Option.bind_some,p8,Bool.true_and,gB (z:=(k:Int) - 1) (by omega) (by omega)]
   cases ltInt (nth m k) (nth m a) <;> rfl
  ·simp [hk]) j (Nat.le_refl _)
 rw [ql (up D (b - 1) (a+1) y6 (by omega))]
 have cT:=XF (p:=λ x=>ltInt x D.toArray[a]!) (q:=λ x=>!ltInt x D.toArray[a]!) (λ _=>rfl) (d:=D.toArray) (i:=a+1) (j:=b - 1) (by omega)
 have hu:=XD (p:=λ x=>ltInt x D.toArray[a]!) (d:=D.toArray) (i:=a+1) (j:=b - 1) (by omega)
 generalize scanUp (λ x=>ltInt x D.toArray[a]!) D.toArray (b - 1) (a+1)=i at hu cT
 rw [ql (dn D i (b - 1) y6 (by omega) (by omega))]
 have hd:=Rq (λ x=>!ltInt x D.toArray[a]!) D.toArray i (b - 1)
 have Bz:=(scanDown_spec (λ x=>!ltInt x D.toArray[a]!) D.toArray i (b - 1)).2.1 (by omega)
 generalize scanDown (λ x=>!ltInt x D.toArray[a]!) D.toArray i (b - 1)=j at hd Bz cT
 rw [Mb]
 have hgj:D[j]? = some (nth D j):=cp (by omega)
 by_cases fC:i > j
 ·simp only [fC,decide_true,cJ,if_true,dT,hga,hgj,Option.bind_some,Int.toNat_natCast,oB (show a < D.length by omega)]
  exact ⟨jU D j a,rfl,oC _ _ _⟩
 ·have S4:D[i]? = some (nth D i):=cp (by omega)
  have cT:=cT fC
  simp only [fC,decide_false,cD,if_false,dT,hgj,S4,Option.bind_some,Int.toNat_natCast,oB (show j < D.length by omega),fy (i:=i) (by omega),kO (i:=j) (by omega) (by omega)]
  rw [show ((D.set i (nth D j)).set j (nth D i))=jU D i j from rfl,← oC]
  generalize hT:partLoop ltInt a (i+1) (j - 1) (jU D i j).toArray=T
  suffices hx:∃ z:List Int × Int × Bool,_=some z∧(z.2=(((T.1:Nat):Int),false)∧z.1.toArray=swp T.2 T.1 a) by
   obtain ⟨z,hz,h1,h2⟩:=hx
   exact ⟨z.1,by rw [← h1]; exact hz,h2⟩
  refine qR (λ s=>∃ (m:List Int) (i j:Nat),s=(m,(i:Int),(j:Int))∧m.length=l.length∧a < i∧i≤j+1∧j < b∧partLoop ltInt a i j m.toArray=T) (λ s=>s.2.2.toNat+1 - s.2.1.toNat)
   (λ o=>∃ m:List Int,o=(m,((T.1:Nat):Int))∧m.length=l.length∧m.toArray=T.2∧T.1 < l.length) ⟨_,i+1,j - 1,rfl,by rw [nJ]; exact y6,by omega,by omega,by omega,hT⟩ (λ o ho=>?_) ?_
  ·obtain ⟨m,rfl,hm,tA,bL⟩:=ho
   simp only [dT,cp (show a < m.length by omega),cp (show T.1 < m.length by omega),Option.bind_some,Int.toNat_natCast,oB (show a < m.length by omega)]
   exact ⟨(jU m T.1 a,_),rfl,rfl,by rw [oC,tA]⟩
  ·rintro _ ⟨m,i,j,rfl,hm,hi,Ik,hj,hT⟩
   rw [partLoop_eq] at hT
   dsimp only
   rw [ql (up m j i hm hj)]
   have cT:=XF (p:=λ x=>ltInt x m.toArray[a]!) (q:=λ x=>!ltInt x m.toArray[a]!) (λ _=>rfl) (d:=m.toArray) (i:=i) (j:=j) (by omega)
   have hu:=XD (p:=λ x=>ltInt x m.toArray[a]!) (d:=m.toArray) (i:=i) (j:=j) Ik
   generalize scanUp (λ x=>ltInt x m.toArray[a]!) m.toArray j i=i2 at hu hT cT
   rw [ql (dn m i2 j hm (by omega) hj)]
   have hd:=Rq (λ x=>!ltInt x m.toArray[a]!) m.toArray i2 j
   have Bz:=(scanDown_spec (λ x=>!ltInt x m.toArray[a]!) m.toArray i2 j).2.1 (by omega)
   generalize scanDown (λ x=>!ltInt x m.toArray[a]!) m.toArray i2 j=j2 at hd Bz hT cT
   rw [Mb]
   by_cases fC:i2 > j2
   ·rw [if_pos fC] at hT
    right
    rw [decide_eq_true fC]
    subst hT
    exact ⟨(m,(j2:Int)),rfl,m,rfl,hm,rfl,by show j2 < _; omega⟩
   ·rw [if_neg fC,← oC] at hT
    have cT:=cT fC
    left
    rw [decide_eq_false fC,cD]
    refine ⟨(jU m i2 j2,((i2+1:Nat):Int),((j2 - 1:Nat):Int)),?_,⟨_,i2+1,j2 - 1,rfl,by rw [nJ]; exact hm,by omega,by omega,by omega,hT⟩,by simp only [Int.toNat_natCast]; omega⟩
    simp only [dT,cp (show i2 < m.length by omega),cp (show j2 < m.length by omega),Option.bind_some,Int.toNat_natCast,oB (show j2 < m.length by omega),fy (i:=i2) (by omega),kO (i:=j2) (by omega) (by omega)]
    rfl
theorem aEs{l:List Int}{a b p:Nat}(hl:kr l)(kY:a≤p)(hpb:p < b)(hb:b≤l.length):∃ l',zT l a b p=some (l',(((partitionEqual ltInt l.toArray a b p).1:Nat):Int))∧l'.toArray=(partitionEqual ltInt l.toArray a b p).2:=by
 unfold zT partitionEqual
 have hB:=hl
 unfold kr at hB
 simp only [dT,cp (show p < l.length by omega),cp (show a < l.length by omega),Option.bind_some,Int.toNat_natCast,oB (show p < l.length by omega)]
 rw [show ((l.set a (nth l p)).set p (nth l a))=jU l a p from rfl]
 generalize hD:jU l a p=D
 have y6:D.length=l.length:=by rw [← hD,nJ]
 rw [← oC,hD]
 have eb:i64 ((b:Int) - 1)=((b - 1:Nat):Int):=kO (by omega) (by omega)
 rw [eb,fy (i:=a) (by omega)]
 have up:∀ (m:List Int) (J i:Nat),m.length=l.length→J < b→bH (λ (s:Int) =>
   af (decide (s≤(J:Int)))
   ((m[a]?).bind λ y=>(idx m s).bind λ x=>(gj y x).bind λ c=>af (!c) (some (.inl (i64 (s+1)))) (some (.inr s)))
   (some (.inr s)):Int→Option (Int ⊕ Int)) (i:Int)=some ((scanUp (λ x=>!ltInt m.toArray[a]! x) m.toArray J i:Nat):Int):=λ m J i hm hJ=>afs (λ k=>by
  rw [El,kS,kS]
  by_cases hk:k≤J
  ·simp only [decide_eq_true hk,cJ,dT,cp (show k < m.length by omega),cp (show a < m.length by omega),Option.bind_some,p8,Bool.true_and,fy (i:=k) (by omega)]
   cases ltInt (nth m a) (nth m k) <;> rfl
  ·simp [hk]) i
 have dn:∀ (m:List Int) (i j:Nat),m.length=l.length→0 < i→j < b→bH (λ (s:Int) =>
   af (decide ((i:Int)≤s))
   ((m[a]?).bind λ y=>(idx m s).bind λ x=>(gj y x).bind λ c=>af c (some (.inl (i64 (s - 1)))) (some (.inr s)))
   (some (.inr s)):Int→Option (Int ⊕ Int)) (j:Int)=some ((scanDown (λ x=>ltInt m.toArray[a]! x) m.toArray i j:Nat):Int):=λ m i j hm hi hj=>XE (J:=j) hi (λ k hkj=>by
  rw [El,kS,kS]
  by_cases hk:i≤k
  ·simp only [decide_eq_true hk,cJ,dT,cp (show k < m.length by omega),cp (show a < m.length by omega),Option.bind_some,p8,Bool.true_and,gB (z:=(k:Int) - 1) (by omega) (by omega)]
   cases ltInt (nth m a) (nth m k) <;> rfl
  ·simp [hk]) j (Nat.le_refl _)
 generalize hT:partEqLoop ltInt a (a+1) (b - 1) D.toArray=T
 suffices hx:∃ z:List Int × Int,_=some z∧(z.2=((T.1:Nat):Int)∧z.1.toArray=T.2) by
  obtain ⟨z,hz,h1,h2⟩:=hx
  exact ⟨z.1,by rw [← h1]; exact hz,h2⟩
 refine qR (λ s=>∃ (m:List Int) (i j:Nat),s=(m,(i:Int),(j:Int))∧m.length=l.length∧a < i∧i≤j+1∧j < b∧partEqLoop ltInt a i j m.toArray=T) (λ s=>s.2.2.toNat+1 - s.2.1.toNat)
  (λ o=>∃ m:List Int,o=(m,((T.1:Nat):Int))∧m.toArray=T.2) ⟨_,a+1,b - 1,rfl,y6,by omega,by omega,by omega,hT⟩ (λ o ho=>?_) ?_
 ·obtain ⟨m,rfl,tA⟩:=ho
  exact ⟨_,rfl,rfl,tA⟩
 ·rintro _ ⟨m,i,j,rfl,hm,hi,Ik,hj,hT⟩
  rw [partEqLoop_eq] at hT
  dsimp only
  rw [ql (up m j i hm hj)]
  have cT:=XF (p:=λ x=>!ltInt m.toArray[a]! x) (q:=λ x=>ltInt m.toArray[a]! x) (λ _=>by simp) (d:=m.toArray) (i:=i) (j:=j) (by omega)
  have hu:=XD (p:=λ x=>!ltInt m.toArray[a]! x) (d:=m.toArray) (i:=i) (j:=j) Ik
  generalize scanUp (λ x=>!ltInt m.toArray[a]! x) m.toArray j i=i2 at hu hT cT
  rw [ql (dn m i2 j hm (by omega) hj)]
  have hd:=Rq (λ x=>ltInt m.toArray[a]! x) m.toArray i2 j
  have Bz:=(scanDown_spec (λ x=>ltInt m.toArray[a]! x) m.toArray i2 j).2.1 (by omega)
  generalize scanDown (λ x=>ltInt m.toArray[a]! x) m.toArray i2 j=j2 at hd Bz hT cT
  rw [Mb]
  by_cases fC:i2 > j2
  ·rw [if_pos fC] at hT
   right
   rw [decide_eq_true fC]
   subst hT
   exact ⟨(m,(i2:Int)),rfl,m,rfl,rfl⟩
  ·rw [if_neg fC,← oC] at hT
   have cT:=cT fC
   left
   rw [decide_eq_false fC,cD]
   refine ⟨(jU m i2 j2,((i2+1:Nat):Int),((j2 - 1:Nat):Int)),?_,⟨_,i2+1,j2 - 1,rfl,by rw [nJ]; exact hm,by omega,by omega,by omega,hT⟩,by simp only [Int.toNat_natCast]; omega⟩
   simp only [dT,cp (show i2 < m.length by omega),cp (show j2 < m.length by omega),Option.bind_some,Int.toNat_natCast,oB (show j2 < m.length by omega),fy (i:=i2) (by omega),kO (i:=j2) (by omega) (by omega)]
   rfl
end Go.Proofs.YtihapemckcdicaaGreatDoor
namespace Go.Proofs.YtihapemckcdicaaGreatDoor
open Go.Lg Go.Proofs Go.Sort
set_option maxRecDepth 10000
theorem aEq{l:List Int}{a b:Nat}(hl:kr l)(bE:a < b)(hb:b≤l.length):∃ l',vI l a b=some (l',(partialInsertionSort ltInt l.toArray a b).2)∧l'.toArray=(partialInsertionSort ltInt l.toArray a b).1:=by
 unfold vI partialInsertionSort
 have hB:=hl
 unfold kr at hB
 generalize hT:partialIns ltInt a b 5 (a+1) l.toArray=T
 suffices hx:∃ z:List Int × Bool,_=some z∧(z.2=T.2∧z.1.toArray=T.1) by
  obtain ⟨z,hz,h1,h2⟩:=hx
  exact ⟨z.1,by rw [← h1]; exact hz,h2⟩
 rw [fy (i:=a) (by omega)]
 refine qR (λ s=>∃ (m:List Int) (i k:Nat),s=(m,(i:Int),((5 - k:Nat):Int))∧k≤5∧m.length=l.length∧a < i∧i≤b∧partialIns ltInt a b k i m.toArray=T) (λ s=>5 - s.2.2.toNat)
  (λ o=>∃ m:List Int,(o = .inl m∧T.2=false∨o = .inr (m,T.2))∧m.toArray=T.1) ⟨l,a+1,5,rfl,Nat.le_refl _,rfl,by omega,by omega,hT⟩ (λ o ho=>?_) ?_
 ·obtain ⟨m,ho,tA⟩:=ho
  rcases ho with ⟨rfl,h2⟩ | rfl
  ·exact ⟨(m,false),rfl,h2.symm,tA⟩
  ·exact ⟨(m,T.2),rfl,rfl,tA⟩
 ·rintro _ ⟨m,i,k,rfl,hk5,hm,Sw,zk,hT⟩
  dsimp only
  cases k with
  | zero =>
   rw [partialIns] at hT
   subst hT
   right
   exact ⟨.inl m,rfl,m,.inl ⟨rfl,rfl⟩,rfl⟩
  | succ k =>
   rw [partialIns] at hT
   rw [show decide (((5 - (k+1):Nat):Int) < 5)=true by simp; omega,cJ]
   have hsc:∀ i:Nat,a < i→i≤b→bH (λ (kL:Int) =>
     af (decide (kL < (b:Int)))
     ((idx m kL).bind λ DR =>
     (idx m (i64 (kL - 1))).bind λ DS =>
     (gj DR DS).bind λ GH =>
     af (!GH)
     (some (.inl (i64 (kL+1))))
     (some (.inr kL)))
     (some (.inr kL)):Int→Option (Int ⊕ Int)) (i:Int)=some ((scanSorted ltInt m.toArray b i:Nat):Int)∧i≤scanSorted ltInt m.toArray b i∧scanSorted ltInt m.toArray b i≤b:=by
    have key:∀ n i:Nat,b - i≤n→a < i→i≤b→bH (λ (kL:Int) =>
      af (decide (kL < (b:Int)))
      ((idx m kL).bind λ DR =>
      (idx m (i64 (kL - 1))).bind λ DS =>
      (gj DR DS).bind λ GH =>
      af (!GH)
      (some (.inl (i64 (kL+1))))
      (some (.inr kL)))
      (some (.inr kL)):Int→Option (Int ⊕ Int)) (i:Int)=some ((scanSorted ltInt m.toArray b i:Nat):Int)∧i≤scanSorted ltInt m.toArray b i∧scanSorted ltInt m.toArray b i≤b:=by
     intro n
     induction n with
     | zero =>
      intro i hn hi zk
      have:¬ i < b:=by omega
      rw [scanSorted,if_neg (by simp [this])]
      exact ⟨lR (by rw [pN,decide_eq_false this,cD]),Nat.le_refl _,zk⟩
     | succ n ih =>
      intro i hn hi zk
      rw [scanSorted,kS,kS]
      by_cases h1:i < b
      ·have g1:m[i]? = some (nth m i):=cp (by omega)
       have g2:m[i - 1]? = some (nth m (i - 1)):=cp (by omega)
       cases hx:ltInt (nth m i) (nth m (i - 1)) with
       | true =>
        rw [if_neg (by simp)]
        refine ⟨lR ?_,Nat.le_refl _,zk⟩
        simp only [pN,decide_eq_true h1,cJ,kO (i:=i) (by omega) (by omega),dT,g1,g2,Option.bind_some,p8,hx,Bool.not_true,cD]
       | false =>
        rw [if_pos (by simp [h1])]
        obtain ⟨q1,q2,q3⟩:=ih (i+1) (by omega) (by omega) (by omega)
        refine ⟨?_,by omega,q3⟩
        rw [vF (s':=((i+1:Nat):Int)) (by simp only [pN,decide_eq_true h1,cJ,kO (i:=i) (by omega) (by omega),dT,g1,g2,Option.bind_some,p8,hx,Bool.not_false,fy (i:=i) (by omega)])]
        exact q1
      ·rw [if_neg (by simp [h1])]
       exact ⟨lR (by rw [pN,decide_eq_false h1,cD]),Nat.le_refl _,zk⟩
    exact λ i hi zk=>key _ i (Nat.le_refl _) hi zk
   obtain ⟨q1,q2,q3⟩:=hsc i Sw zk
   rw [ql q1]
   generalize scanSorted ltInt m.toArray b i=i2 at q2 q3 hT
   dsimp only at hT ⊢
   rw [show (((i2:Nat):Int) == ((b:Nat):Int))=decide (i2=b) by rw [Bool.eq_iff_iff,beq_iff_eq,decide_eq_true_eq]; omega]
   by_cases h1:i2=b
   ·rw [if_pos h1] at hT
    subst hT
    right
    exact ⟨.inr (m,true),by rw [decide_eq_true h1]; rfl,m,.inr rfl,rfl⟩
   ·rw [if_neg h1] at hT
    rw [decide_eq_false h1,cD,qO (i:=b) (j:=a) (by omega) (by omega),show decide (((b - a:Nat):Int) < 50)=decide (b - a < 50) from pN (j:=50)]
    by_cases h2:b - a < 50
    ·rw [if_pos h2] at hT
     subst hT
     right
     exact ⟨.inr (m,false),by rw [decide_eq_true h2]; rfl,m,.inr rfl,rfl⟩
    ·rw [if_neg h2] at hT
     rw [decide_eq_false h2,cD]
     left
     have g1:m[i2]? = some (nth m i2):=cp (by omega)
     have g2:m[i2 - 1]? = some (nth m (i2 - 1)):=cp (by omega)
     simp only [kO (i:=i2) (by omega) (by omega),dT,g1,g2,Option.bind_some,Int.toNat_natCast,oB (show i2 - 1 < m.length by omega)]
     rw [show ((m.set i2 (nth m (i2 - 1))).set (i2 - 1) (nth m i2))=jU m i2 (i2 - 1) from rfl]
     rw [← oC] at hT
     generalize hS:jU m i2 (i2 - 1)=S at hT
     have hSl:S.length=l.length:=by rw [← hS,nJ]; exact hm
     have SS:∃ D:List Int,((((af (decide (i64 ((i2:Int) - (a:Int)) ≥ 2))
       ((bH (O:=(List Int)) (λ (eP:((List Int) × Int)) =>
       af (decide (eP.2 ≥ 1))
       ((idx eP.1 eP.2).bind λ KF =>
       (idx eP.1 (i64 (eP.2 - 1))).bind λ KG =>
       (gj KF KG).bind λ Pk =>
       af (!Pk)
       (some (.inr eP.1))
       ((idx eP.1 (i64 (eP.2 - 1))).bind λ Dn =>
       (idx eP.1 eP.2).bind λ KH =>
       (idx eP.1 eP.2).bind λ Ym =>
       (idx (eP.1.set eP.2.toNat Dn) (i64 (eP.2 - 1))).bind λ Yn =>
       some (.inl ((eP.1.set eP.2.toNat Dn).set (i64 (eP.2 - 1)).toNat KH,i64 (eP.2 - 1)))))
       (some (.inr eP.1))) (S,((i2 - 1:Nat):Int))).bind (λ (F7:(List Int)) =>
       some F7))
       (some S)):Option (List Int)))=some D)∧D.length=l.length∧D.toArray=if i2 - a ≥ 2 then shiftDown ltInt (i2 - 1) S.toArray else S.toArray:=by
      rw [qO (i:=i2) (j:=a) (by omega) (by omega),show decide (((i2 - a:Nat):Int) ≥ 2)=decide (i2 - a ≥ 2) from HG (j:=2)]
      by_cases h3:i2 - a ≥ 2
      ·rw [decide_eq_true h3,cJ,if_pos h3]
       refine qR (λ s=>∃ (q:List Int) (j:Nat),s=(q,(j:Int))∧q.length=l.length∧j < l.length∧shiftDown ltInt j q.toArray=shiftDown ltInt (i2 - 1) S.toArray) (λ s=>s.2.toNat)
        (λ o=>o.length=l.length∧o.toArray=shiftDown ltInt (i2 - 1) S.toArray) ⟨S,i2 - 1,rfl,hSl,by omega,rfl⟩ (λ o ho=>⟨o,rfl,ho⟩) ?_
       rintro _ ⟨q,j,rfl,hq,hj,iM⟩
       dsimp only
       cases j with
       | zero=>right; exact ⟨q,rfl,hq,iM⟩
       | succ j =>
        rw [shiftDown,kS,kS] at iM
        rw [show decide (((j+1:Nat):Int) ≥ 1)=true by simp; omega,cJ,adG (by omega)]
        simp only [dT,cp (show j+1 < q.length by omega),cp (show j < q.length by omega),Option.bind_some,p8,Int.toNat_natCast,oB (show j < q.length by omega)]
        cases hx:ltInt (nth q (j+1)) (nth q j) with
        | false=>rw [hx] at iM; right; exact ⟨q,rfl,hq,by simpa using iM⟩
        | true =>
         rw [hx] at iM
         simp only [Bool.not_true,Bool.false_eq_true,if_false] at iM
         left
         exact ⟨(jU q (j+1) j,(j:Int)),rfl,⟨_,j,rfl,by rw [nJ]; exact hq,by omega,by rw [oC]; exact iM⟩,by simp only [Int.toNat_natCast]; omega⟩
      ·rw [decide_eq_false h3,cD,if_neg h3]
       exact ⟨S,rfl,hSl,rfl⟩
     obtain ⟨D,hD1,y6,hDa⟩:=SS
     rw [hD1,Option.bind_some]
     rw [← hDa] at hT
     have Bz:∃ U:List Int,U.length=l.length∧U.toArray=(if b - i2 ≥ 2 then shiftUp ltInt b (i2+1) D.toArray else D.toArray)∧(b - i2 ≥ 2→bH (O:=(List Int)) (λ (cZ:((List Int) × Int)) =>
       af (decide (cZ.2 < (b:Int)))
       ((idx cZ.1 cZ.2).bind λ Dq =>
       (idx cZ.1 (i64 (cZ.2 - 1))).bind λ Dr =>
       (gj Dq Dr).bind λ Gp =>
       af (!Gp)
       (some (.inr cZ.1))
       ((idx cZ.1 (i64 (cZ.2 - 1))).bind λ vW =>
       (idx cZ.1 cZ.2).bind λ Ds =>
       (idx cZ.1 cZ.2).bind λ Pl =>
       (idx (cZ.1.set cZ.2.toNat vW) (i64 (cZ.2 - 1))).bind λ Pm =>
       some (.inl ((cZ.1.set cZ.2.toNat vW).set (i64 (cZ.2 - 1)).toNat Ds,i64 (cZ.2+1)))))
       (some (.inr cZ.1))) (D,((i2+1:Nat):Int))=some U):=by
      by_cases h3:b - i2 ≥ 2
      ·rw [if_pos h3]
       obtain ⟨U,hU,Sv,H7⟩:=WL (S:=List Int × Int) (O:=List Int) (body:=λ (cZ:((List Int) × Int)) =>
        af (decide (cZ.2 < (b:Int)))
        ((idx cZ.1 cZ.2).bind λ Dq =>
        (idx cZ.1 (i64 (cZ.2 - 1))).bind λ Dr =>
        (gj Dq Dr).bind λ Gp =>
        af (!Gp)
        (some (.inr cZ.1))
        ((idx cZ.1 (i64 (cZ.2 - 1))).bind λ vW =>
        (idx cZ.1 cZ.2).bind λ Ds =>
        (idx cZ.1 cZ.2).bind λ Pl =>
        (idx (cZ.1.set cZ.2.toNat vW) (i64 (cZ.2 - 1))).bind λ Pm =>
        some (.inl ((cZ.1.set cZ.2.toNat vW).set (i64 (cZ.2 - 1)).toNat Ds,i64 (cZ.2+1)))))
        (some (.inr cZ.1))) (λ s=>∃ (q:List Int) (j:Nat),s=(q,(j:Int))∧q.length=l.length∧0 < j∧shiftUp ltInt b j q.toArray=shiftUp ltInt b (i2+1) D.toArray) (λ s=>b - s.2.toNat)
        (Q:=λ o=>o.length=l.length∧o.toArray=shiftUp ltInt b (i2+1) D.toArray) (by
         rintro _ ⟨q,j,rfl,hq,hj,iM⟩
         rw [shiftUp] at iM
         dsimp only
         rw [pN]
         by_cases h4:j < b
         ·rw [if_pos h4,kS,kS] at iM
          rw [decide_eq_true h4,cJ,kO (i:=j) (by omega) hj]
          simp only [dT,cp (show j < q.length by omega),cp (show j - 1 < q.length by omega),Option.bind_some,p8,Int.toNat_natCast,oB (show j - 1 < q.length by omega),fy (i:=j) (by omega)]
          cases hx:ltInt (nth q j) (nth q (j - 1)) with
          | false=>rw [hx] at iM; right; exact ⟨q,rfl,hq,by simpa using iM⟩
          | true =>
           rw [hx] at iM
           simp only [Bool.not_true,Bool.false_eq_true,if_false] at iM
           left
           exact ⟨(jU q j (j - 1),((j+1:Nat):Int)),rfl,⟨_,j+1,rfl,by rw [nJ]; exact hq,by omega,by rw [oC]; exact iM⟩,by simp only [Int.toNat_natCast]; omega⟩
         ·rw [if_neg h4] at iM
          right
          exact ⟨q,by rw [decide_eq_false h4,cD],hq,iM⟩) (D,((i2+1:Nat):Int)) ⟨D,i2+1,rfl,y6,by omega,rfl⟩
       exact ⟨U,Sv,H7,λ _=>hU⟩
      ·rw [if_neg h3]
       exact ⟨D,y6,rfl,λ h=>absurd h h3⟩
     obtain ⟨U,Sv,H7,hU⟩:=Bz
     rw [← H7] at hT
     refine ⟨(U,(i2:Int),((5 - k:Nat):Int)),?_,⟨U,i2,k,rfl,by omega,Sv,by omega,by omega,hT⟩,by simp only [Int.toNat_natCast]; omega⟩
     have ek:i64 (((5 - (k+1):Nat):Int)+1)=((5 - k:Nat):Int):=by rw [gB (by omega) (by omega)]; omega
     rw [qO (i:=b) (j:=i2) (by omega) (by omega),show decide (((b - i2:Nat):Int) ≥ 2)=decide (b - i2 ≥ 2) from HG (j:=2),fy (i:=i2) (by omega),ek]
     by_cases h3:b - i2 ≥ 2
     ·rw [decide_eq_true h3,cJ,ql (hU h3)]
     ·rw [decide_eq_false h3,cD]
      rw [if_neg h3] at H7
      rw [show U=D from by simpa using H7]
theorem agJ(z:Int):IntKind.wrap .u64 z=z.emod 18446744073709551616:=by
 simp [IntKind.wrap,IntKind.bits,IntKind.signed]
 rfl
theorem agK(z:Int):0≤IntKind.wrap .u64 z∧IntKind.wrap .u64 z < 18446744073709551616:=by
 rw [agJ]
 exact ⟨Int.emod_nonneg _ (by omega),Int.emod_lt_of_pos _ (by omega)⟩
theorem agL{z:Int}(h0:0≤z)(h1:z < 18446744073709551616):IntKind.wrap .u64 z=z:=by
 rw [agJ]
 exact Int.emod_eq_of_lt h0 h1
theorem afv{a b:Int}(hb:0≤b):∃ z,yc .u64 a b=some z∧0≤z∧z < 18446744073709551616:=by
 unfold yc
 rw [if_neg (by omega)]
 exact ⟨_,rfl,agK _⟩
theorem aHf{a b:Int}(hb:0≤b):∃ z,lB .u64 a b=some z:=by
 unfold lB
 rw [if_neg (by omega)]
 exact ⟨_,rfl⟩
theorem YS(a b:Int):∃ z,fv .xor .u64 a b=some z∧0≤z∧z < 18446744073709551616:=⟨_,rfl,agK _⟩
theorem aEz(x:Int):∃ y,Cz x=some (y,y)∧0≤y∧y < 18446744073709551616:=by
 unfold Cz
 obtain ⟨a,ha,_⟩:=afv (a:=x) (b:=13) (by omega)
 rw [ha,Option.bind_some]
 obtain ⟨c,hc,_⟩:=YS x a
 rw [hc,Option.bind_some]
 obtain ⟨d,hd⟩:=aHf (a:=c) (b:=7) (by omega)
 rw [hd,Option.bind_some]
 obtain ⟨e,he,_⟩:=YS c d
 rw [he,Option.bind_some]
 obtain ⟨f,hf,_⟩:=afv (a:=e) (b:=17) (by omega)
 rw [hf,Option.bind_some]
 obtain ⟨g,hg,h0,h1⟩:=YS e f
 rw [hg,Option.bind_some]
 exact ⟨g,rfl,h0,h1⟩
theorem ajM{a m:Int}(hm:0≤m)(Tt:m < 18446744073709551616):∃ z:Nat,fv .and .u64 a m=some (z:Int)∧(z:Int)≤m:=by
 unfold fv
 simp only
 have h1:(BitVec.ofInt IntKind.u64.bits a &&& BitVec.ofInt IntKind.u64.bits m).toNat≤(BitVec.ofInt IntKind.u64.bits m).toNat:=by
  rw [BitVec.toNat_and]
  exact Nat.and_le_right
 have h2:(BitVec.ofInt IntKind.u64.bits m).toNat=m.toNat:=by
  rw [BitVec.toNat_ofInt]
  have:((2 ^ IntKind.u64.bits:Nat):Int)=18446744073709551616:=by decide
  rw [this,Int.emod_eq_of_lt hm Tt]
 rw [h2] at h1
 generalize (BitVec.ofInt IntKind.u64.bits a &&& BitVec.ofInt IntKind.u64.bits m).toNat=z at h1
 exact ⟨z,by rw [agL (by omega) (by omega)],by omega⟩
def adX(n:Nat):Bool:=(match QZ (IntKind.wrap .u64 (n:Int)) with | some k=>decide (0≤k) && decide (k≤64) | none=>false) && (decide (n < 8) || match Q3 (n:Int) with | some M=>decide ((n:Int) < M) && decide (M≤2 * (n:Int)) | none=>false)
set_option maxRecDepth 1000000 in
theorem aC8:((List.range 1024).all adX)=true:=by decide +kernel
theorem adY{n:Nat}(h:n < 1024):(∃ k:Nat,zP (IntKind.wrap .u64 (n:Int))=some (k:Int)∧k≤64)∧(8≤n→∃ M:Nat,Cy (n:Int)=some (M:Int)∧n < M∧M≤2 * n):=by
 have:=aC8
 rw [List.all_eq_true] at this
 have h1:=this n (List.mem_range.2 h)
 simp only [adX,Bool.and_eq_true,Bool.or_eq_true,decide_eq_true_eq] at h1
 obtain ⟨h1,h2⟩:=h1
 constructor
 ·cases hc:QZ (IntKind.wrap .u64 (n:Int)) with
  | none=>rw [hc] at h1; cases h1
  | some k =>
   rw [hc] at h1
   simp only [Bool.and_eq_true,decide_eq_true_eq] at h1
   exact ⟨k.toNat,by rw [Int.toNat_of_nonneg h1.1]; exact aCs _ _ hc,by omega⟩
 ·intro h8
  rcases h2 with h2 | h2
  ·omega
  ·cases hc:Q3 (n:Int) with
   | none=>rw [hc] at h2; cases h2
   | some M =>
    rw [hc] at h2
    simp only [Bool.and_eq_true,decide_eq_true_eq] at h2
    exact ⟨M.toNat,by rw [Int.toNat_of_nonneg (by omega)]; exact aCF _ _ hc,by omega,by omega⟩
theorem Xz{n d:Nat}(h:n≤1000000000)(hd:0 < d):nD (n:Int) (d:Int)=some ((n / d:Nat):Int):=by
 unfold nD
 have:=Nat.div_le_self n d
 rw [if_neg (by omega),← Int.ofNat_tdiv]
 generalize n / d=q at this
 rw [gB (by omega) (by omega)]
abbrev mh(l:List Int):Prop:=l.length≤1000
theorem aEl{l:List Int}{a b:Nat}(hl:mh l)(bE:a≤b)(hb:b≤l.length):∃ l',xB l a b=some l'∧PermIn a b l.toArray l'.toArray:=by
 unfold xB
 have hB:=hl
 unfold mh at hB
 rw [qO (i:=b) (j:=a) (by omega) (by omega),show decide (((b - a:Nat):Int) ≥ 8)=decide (b - a ≥ 8) from HG (j:=8)]
 by_cases h8:b - a ≥ 8
 case neg=>exact ⟨l,by rw [decide_eq_false h8,cD],permIn_refl _ _ _⟩
 rw [decide_eq_true h8,cJ]
 obtain ⟨M,hM,hM1,hM2⟩:=(adY (n:=b - a) (by omega)).2 h8
 have RJ:nD ((b - a:Nat):Int) 4=some (((b - a) / 4:Nat):Int):=Xz (d:=4) (by omega) (by omega)
 rw [hM,Option.bind_some,RJ,Option.bind_some]
 have e1:i64 ((((b - a) / 4:Nat):Int) * 2)=(((b - a) / 4 * 2:Nat):Int):=by rw [gB (by omega) (by omega)]; omega
 rw [e1,vB (i:=a) (j:=(b - a) / 4 * 2) (by omega) (by omega),kO (i:=a+(b - a) / 4 * 2) (by omega) (by omega)]
 refine qR (λ s=>∃ (m:List Int) (i:Nat) (r:Int),s=(m,(i:Int),r)∧a≤i∧m.length=l.length∧PermIn a b l.toArray m.toArray) (λ s=>b - s.2.1.toNat)
  (λ o=>PermIn a b l.toArray o.toArray) ⟨l,a+(b - a) / 4 * 2 - 1,_,rfl,by omega,rfl,permIn_refl _ _ _⟩ (λ o ho=>⟨o,rfl,ho⟩) ?_
 rintro _ ⟨m,i,r,rfl,Sw,hm,hP⟩
 dsimp only
 rw [Option.bind_some,e1,vB (i:=a) (j:=(b - a) / 4 * 2) (by omega) (by omega),fy (i:=a+(b - a) / 4 * 2) (by omega),agL (z:=(M:Int) - 1) (by omega) (by omega),El]
 by_cases hi:i≤a+(b - a) / 4 * 2+1
 ·left
  rw [decide_eq_true hi,cJ]
  obtain ⟨y,hy,_⟩:=aEz r
  rw [hy,Option.bind_some]
  obtain ⟨z,hz,hzM⟩:=ajM (a:=y) (m:=(M:Int) - 1) (by omega) (by omega)
  rw [hz,Option.bind_some,gB (z:=(z:Int)) (by omega) (by omega),HG]
  have as6:∃ t:Nat,t < b - a∧(((af (decide (z ≥ b - a)) (some (i64 ((z:Int) - ((b - a:Nat):Int)))) (some (z:Int))):Option Int))=some (t:Int):=by
   by_cases Wp:z ≥ b - a
   ·exact ⟨z - (b - a),by omega,by rw [decide_eq_true Wp,cJ,qO (by omega) Wp]⟩
   ·exact ⟨z,by omega,by rw [decide_eq_false Wp,cD]⟩
  obtain ⟨t,ht,hte⟩:=as6
  rw [hte,Option.bind_some,vB (i:=a) (j:=t) (by omega) (by omega)]
  refine ⟨(jU m i (a+t),((i+1:Nat):Int),y),?_,⟨_,i+1,y,rfl,by omega,by rw [nJ]; exact hm,?_⟩,by simp only [Int.toNat_natCast]; omega⟩
  ·simp only [dT,cp (show i < m.length by omega),cp (show a+t < m.length by omega),Option.bind_some,Int.toNat_natCast,oB (show a+t < m.length by omega),fy (i:=i) (by omega)]
   rfl
  ·rw [oC]
   exact permIn_trans _ _ _ a b hP (swp_permIn _ a b i (a+t) Sw (by omega) (by omega) (by omega) (by simp; omega))
 ·right
  exact ⟨m,by rw [decide_eq_false hi,cD],hP⟩
theorem NO{l:List Int}{i j:Nat}(hi:i < l.length)(hj:j < l.length)(s:Int):∃ s',rW l i j s=some (s',(i:Int),(j:Int))∨rW l i j s=some (s',(j:Int),(i:Int)):=by
 unfold rW
 simp only [dT,cp hi,cp hj,Option.bind_some,p8]
 cases ltInt (nth l j) (nth l i) with
 | true=>exact ⟨_,.inr rfl⟩
 | false=>exact ⟨_,.inl rfl⟩
theorem W1{l:List Int}{i j k:Nat}(hi:i < l.length)(hj:j < l.length)(hk:k < l.length)(s:Int):∃ (s':Int) (p:Nat),tX l i j k s=some (s',(p:Int))∧(p=i∨p=j∨p=k):=by
 unfold tX
 have key:∀ (x y:Nat) (s:Int),x < l.length→y < l.length→(x=i∨x=j)→(y=i∨y=j)→∃ (s':Int) (p:Nat),((rW l (y:Int) (k:Int) s).bind λ ju=>(rW l (x:Int) ju.2.1 ju.1).bind λ jv=>some (jv.1,jv.2.2))=some (s',(p:Int))∧(p=i∨p=j∨p=k):=by
  intro x y s hx hy gA hy1
  obtain ⟨t,ht | ht⟩:=NO hy hk s
  ·rw [ht,Option.bind_some]
   obtain ⟨u,hu | hu⟩:=NO hx hy t
   ·exact ⟨u,y,by rw [hu]; rfl,by omega⟩
   ·exact ⟨u,x,by rw [hu]; rfl,by omega⟩
  ·rw [ht,Option.bind_some]
   obtain ⟨u,hu | hu⟩:=NO hx hk t
   ·exact ⟨u,k,by rw [hu]; rfl,by omega⟩
   ·exact ⟨u,x,by rw [hu]; rfl,by omega⟩
 obtain ⟨t,ht | ht⟩:=NO hi hj s
 ·rw [ht,Option.bind_some]
  exact key i j t hi hj (.inl rfl) (.inr rfl)
 ·rw [ht,Option.bind_some]
  exact key j i t hj hi (.inr rfl) (.inl rfl)
theorem WZ{l:List Int}{i:Nat}(tx:0 < i)(hi:i+1 < l.length)(hl:mh l)(s:Int):∃ (s':Int) (p:Nat),rV l i s=some (s',(p:Int))∧i - 1≤p∧p≤i+1:=by
 unfold rV
 unfold mh at hl
 rw [kO (i:=i) (by omega) tx,fy (i:=i) (by omega)]
 obtain ⟨t,p,hp,zv⟩:=W1 (l:=l) (i:=i - 1) (j:=i) (k:=i+1) (by omega) (by omega) hi s
 exact ⟨t,p,by rw [hp]; rfl,by omega,by omega⟩
theorem aEn{l:List Int}{a b:Nat}(hl:mh l)(bE:a+12 < b)(hb:b≤l.length):∃ (p:Nat) (h:Int),zS l a b=some ((p:Int),h)∧a≤p∧p < b:=by
 unfold zS
 have hB:=hl
 unfold mh at hB
 have RJ:nD ((b - a:Nat):Int) 4=some (((b - a) / 4:Nat):Int):=Xz (d:=4) (by omega) (by omega)
 rw [qO (i:=b) (j:=a) (by omega) (by omega),RJ]
 simp only [Option.bind_some]
 have e1:i64 ((((b - a) / 4:Nat):Int) * 1)=(((b - a) / 4:Nat):Int):=by rw [gB (by omega) (by omega)]; omega
 have e2:i64 ((((b - a) / 4:Nat):Int) * 2)=(((b - a) / 4 * 2:Nat):Int):=by rw [gB (by omega) (by omega)]; omega
 have e3:i64 ((((b - a) / 4:Nat):Int) * 3)=(((b - a) / 4 * 3:Nat):Int):=by rw [gB (by omega) (by omega)]; omega
 rw [e1,e2,e3,vB (i:=a) (by omega) (by omega),vB (i:=a) (by omega) (by omega),vB (i:=a) (by omega) (by omega),show decide (((b - a:Nat):Int) ≥ 8)=true by simp; omega,cJ]
 have hq:∃ (p:Nat) (h:Int),(((af (decide (((b - a:Nat):Int) ≥ 50))
   ((rV l ((a+(b - a) / 4:Nat):Int) 0).bind λ jb =>
   (rV l ((a+(b - a) / 4 * 2:Nat):Int) jb.1).bind λ hZ =>
   (rV l ((a+(b - a) / 4 * 3:Nat):Int) hZ.1).bind λ sL =>
   (tX l jb.2 hZ.2 sL.2 sL.1).bind λ GD =>
   some (GD.2,GD.1))
   ((tX l ((a+(b - a) / 4:Nat):Int) ((a+(b - a) / 4 * 2:Nat):Int) ((a+(b - a) / 4 * 3:Nat):Int) 0).bind λ GF =>
   some (GF.2,GF.1))):Option (Int × Int)))=some ((p:Int),h)∧a≤p∧p < b:=by
  by_cases h50:b - a ≥ 50
  ·rw [show decide (((b - a:Nat):Int) ≥ 50)=true by simp; omega,cJ]
   obtain ⟨s1,p1,q1,r1,r1'⟩:=WZ (l:=l) (i:=a+(b - a) / 4) (by omega) (by omega) hl 0
   rw [q1,Option.bind_some]
   obtain ⟨s2,p2,q2,r2,r2'⟩:=WZ (l:=l) (i:=a+(b - a) / 4 * 2) (by omega) (by omega) hl s1
   rw [q2,Option.bind_some]
   obtain ⟨s3,p3,q3,r3,r3'⟩:=WZ (l:=l) (i:=a+(b - a) / 4 * 3) (by omega) (by omega) hl s2
   rw [q3,Option.bind_some]
   obtain ⟨s4,p4,q4,r4⟩:=W1 (l:=l) (i:=p1) (j:=p2) (k:=p3) (by omega) (by omega) (by omega) s3
   exact ⟨p4,s4,by rw [q4]; rfl,by omega,by omega⟩
  ·rw [show decide (((b - a:Nat):Int) ≥ 50)=false by simp; omega,cD]
   obtain ⟨s4,p4,q4,r4⟩:=W1 (l:=l) (i:=a+(b - a) / 4) (j:=a+(b - a) / 4 * 2) (k:=a+(b - a) / 4 * 3) (by omega) (by omega) (by omega) 0
   exact ⟨p4,s4,by rw [q4]; rfl,by omega,by omega⟩
 obtain ⟨p,h,hp,zv,Ix⟩:=hq
 rw [hp,Option.bind_some]
 cases h == 0 with
 | true=>exact ⟨p,1,rfl,zv,Ix⟩
 | false =>
  cases h == 12 with
  | true=>exact ⟨p,2,rfl,zv,Ix⟩
  | false=>exact ⟨p,0,rfl,zv,Ix⟩
abbrev SI(a b:Nat)(d:Array Int):Prop:=SortedIn ltInt a b d
theorem aGg:∀ (k:Nat) (l:List Int) (a b JG:Nat),mh l→JG≤100→a≤b→b≤l.length→b - a≤12 * 2 ^ k→Below ltInt a b l.toArray→∃ l',tW (k+1) l a b JG=some l'∧PermIn a b l.toArray l'.toArray∧SI a b l'.toArray:=by
 intro k
 induction k with
 | zero =>
  intro l a b JG hl acV bE hb hk hB
  have hl':=hl
  unfold mh at hl'
  obtain ⟨t,ht,nv⟩:=aeo (l:=l) (a:=a) (b:=b) (by unfold kr; omega) bE hb
  obtain ⟨h1,h2⟩:=insertionSort_holds swo_ltInt l.toArray a b bE (by simpa using hb)
  rw [← nv] at h1 h2
  refine ⟨t,?_,h1,h2⟩
  rw [tW]
  rw [ql (o:=t) (lR ?_)]
  dsimp only
  rw [qO (i:=b) (j:=a) (by omega) (by omega),show decide (((b - a:Nat):Int)≤12)=true by simp; omega,cJ,ht]
  rfl
 | succ k ih =>
  intro l a b JG hl acV bE hb hk hB
  have hl':=hl
  unfold mh at hl'
  rw [tW]
  refine qR (λ s=>∃ (m:List Int) (x y lm:Nat) (wb wp:Bool),s=(m,(x:Int),(y:Int),(lm:Int),wb,wp)∧m.length=l.length∧x≤y∧y≤l.length∧lm≤100∧y - x≤12 * 2 ^ (k+1)∧Below ltInt x y m.toArray∧∀ R,PermIn x y m.toArray R→SI x y R→PermIn a b l.toArray R∧SI a b R) (λ s=>s.2.2.1.toNat - s.2.1.toNat)
   (λ o=>PermIn a b l.toArray o.toArray∧SI a b o.toArray) ⟨l,a,b,JG,true,true,rfl,rfl,bE,hb,acV,hk,hB,λ R h1 h2=>⟨h1,h2⟩⟩ (λ o ho=>⟨o,rfl,ho⟩) ?_
  rintro _ ⟨m,x,y,lm,wb,wp,rfl,hm,JC,hy,aSh,hk,hB,hR⟩
  dsimp only
  have zp:m.toArray.size=l.length:=by simpa using hm
  rw [qO (i:=y) (j:=x) (by omega) (by omega),show decide (((y - x:Nat):Int)≤12)=decide (y - x≤12) from El (j:=12)]
  by_cases y5:y - x≤12
  ·right
   obtain ⟨t,ht,nv⟩:=aeo (l:=m) (a:=x) (b:=y) (by unfold kr; omega) JC (by omega)
   obtain ⟨h1,h2⟩:=insertionSort_holds swo_ltInt m.toArray x y JC (by omega)
   rw [← nv] at h1 h2
   exact ⟨t,by rw [decide_eq_true y5,cJ,ht]; rfl,hR _ h1 h2⟩
  rw [decide_eq_false y5,cD,show (((lm:Nat):Int) == 0)=decide (lm=0) by rw [Bool.eq_iff_iff,beq_iff_eq,decide_eq_true_eq]; omega]
  by_cases hlm:lm=0
  ·right
   obtain ⟨t,ht,nv⟩:=aEi (l:=m) (a:=x) (b:=y) (by unfold kr; omega) (by omega) (by omega)
   obtain ⟨h1,h2⟩:=heapSort_holds swo_ltInt m.toArray x y JC (by omega)
   rw [← nv] at h1 h2
   exact ⟨t,by rw [decide_eq_true hlm,cJ,ht]; rfl,hR _ h1 h2⟩
  rw [decide_eq_false hlm,cD]
  have o8:∃ (m1:List Int) (zD:Nat),(((af (!wb)
    ((xB m (x:Int) (y:Int)).bind λ Gy =>
    some (Gy,i64 ((lm:Int) - 1)))
    (some (m,(lm:Int)))):Option ((List Int) × Int)))=some (m1,(zD:Int))∧zD≤lm∧PermIn x y m.toArray m1.toArray:=by
   cases wb with
   | true=>exact ⟨m,lm,rfl,Nat.le_refl _,permIn_refl _ _ _⟩
   | false =>
    obtain ⟨t,ht,htp⟩:=aEl (l:=m) (a:=x) (b:=y) (by unfold mh; omega) JC (by omega)
    refine ⟨t,lm - 1,?_,by omega,htp⟩
    rw [Bool.not_false,cJ,ht,Option.bind_some,kO (i:=lm) (by omega) (by omega)]
  obtain ⟨m1,zD,e1,aSg,Sg⟩:=o8
  rw [e1,Option.bind_some]
  have acY:m1.toArray.size=l.length:=by rw [Sg.1,zp]
  have Tt:m1.length=l.length:=by simpa using acY
  have hB1:=hB.perm (by omega) Sg
  obtain ⟨p,h,e2,zv,Ix⟩:=aEn (l:=m1) (a:=x) (b:=y) (by unfold mh; omega) (by omega) (by omega)
  dsimp only
  rw [e2,Option.bind_some]
  have TS:∃ (m2:List Int) (p2:Nat) (h2:Int),(((af (h == 2)
    ((xC m1 (x:Int) (y:Int)).bind λ yB =>
    some (yB,i64 ((i64 ((y:Int) - 1)) - (i64 ((p:Int) - (x:Int)))),1))
    (some (m1,(p:Int),h))):Option ((List Int) × Int × Int)))=some (m2,(p2:Int),h2)∧x≤p2∧p2 < y∧PermIn x y m1.toArray m2.toArray:=by
   cases h == 2 with
   | false=>exact ⟨m1,p,h,rfl,zv,Ix,permIn_refl _ _ _⟩
   | true =>
    obtain ⟨t,ht,nv⟩:=aEo (l:=m1) (a:=x) (b:=y) (by unfold kr; omega) (by omega) (by omega)
    have hr:=reverseRange_holds m1.toArray x y JC (by omega)
    rw [← nv] at hr
    refine ⟨t,(y - 1) - (p - x),1,?_,by omega,by omega,hr⟩
    rw [cJ,ht,Option.bind_some,kO (i:=y) (by omega) (by omega),qO (i:=p) (j:=x) (by omega) zv,qO (i:=y - 1) (j:=p - x) (by omega) (by omega)]
  obtain ⟨m2,p2,h2,e3,EK,M6,Si⟩:=TS
  rw [e3,Option.bind_some]
  have acZ:m2.toArray.size=l.length:=by rw [Si.1,acY]
  have EF:m2.length=l.length:=by simpa using acZ
  have hB2:=hB1.perm (by omega) Si
  have aom:=permIn_trans _ _ _ x y Sg Si
  dsimp only
  have hs3:∃ c:Bool,((((af wb (af wp (some (h2 == 1)) (some false)) (some false)):Option Bool))=some c):=by
   cases wb with
   | false=>exact ⟨false,rfl⟩
   | true =>
    cases wp with
    | false=>exact ⟨false,rfl⟩
    | true=>exact ⟨_,rfl⟩
  obtain ⟨c,ec⟩:=hs3
  rw [ec,Option.bind_some]
  have TT:∃ m3:List Int,PermIn x y m2.toArray m3.toArray∧((((af c
    ((vI m2 (x:Int) (y:Int)).bind λ oF =>
    af oF.2
    (some (.inr oF.1))
    (some (.inl oF.1)))
    (some (.inl m2))):Option ((List Int) ⊕ (List Int))))=some (.inr m3)∧SI x y m3.toArray∨(((af c
    ((vI m2 (x:Int) (y:Int)).bind λ oF =>
    af oF.2
    (some (.inr oF.1))
    (some (.inl oF.1)))
    (some (.inl m2))):Option ((List Int) ⊕ (List Int))))=some (.inl m3)):=by
   cases c with
   | false=>exact ⟨m2,permIn_refl _ _ _,.inr rfl⟩
   | true =>
    obtain ⟨t,ht,nv⟩:=aEq (l:=m2) (a:=x) (b:=y) (by unfold kr; omega) (by omega) (by omega)
    have o7:=partialInsertionSort_holds swo_ltInt m2.toArray x y (by omega) (by omega) hB2
    rw [← nv] at o7
    refine ⟨t,o7.1,?_⟩
    rw [cJ,ht,Option.bind_some]
    cases eU:(partialInsertionSort ltInt m2.toArray x y).2 with
    | true=>exact .inl ⟨rfl,o7.2 eU⟩
    | false=>exact .inr rfl
  obtain ⟨m3,Sj,TT⟩:=TT
  have ME:=permIn_trans _ _ _ x y aom Sj
  have asL:m3.toArray.size=l.length:=by rw [Sj.1,acZ]
  have hm3:m3.length=l.length:=by simpa using asL
  have hB3:=hB2.perm (by omega) Sj
  rcases TT with ⟨e4,hS⟩ | e4
  ·right
   rw [e4]
   exact ⟨m3,rfl,hR _ ME hS⟩
  rw [e4,Option.bind_some,Sum.elim_inl]
  have hs5:(((af (decide ((x:Int) > 0))
    ((idx m3 (i64 ((x:Int) - 1))).bind λ DN =>
    (idx m3 (p2:Int)).bind λ DO =>
    (gj DN DO).bind λ GA =>
    some (!GA))
    (some false)):Option Bool))=some (decide (0 < x) && !ltInt m3.toArray[x - 1]! m3.toArray[p2]!):=by
   by_cases qK:0 < x
   ·simp only [Rp qK,cJ,kO (i:=x) (by omega) qK,dT,cp (show x - 1 < m3.length by omega),cp (show p2 < m3.length by omega),Option.bind_some,p8,decide_eq_true qK,Bool.true_and,kS]
   ·simp only [Ro qK,cD,decide_eq_false qK,Bool.false_and]
  rw [hs5,Option.bind_some]
  by_cases BI:(decide (0 < x) && !ltInt m3.toArray[x - 1]! m3.toArray[p2]!)=true
  ·left
   obtain ⟨t,ht,nv⟩:=aEs (l:=m3) (a:=x) (b:=y) (p:=p2) (by unfold kr; omega) EK M6 (by omega)
   rw [BI,cJ,ht,Option.bind_some]
   simp only [Bool.and_eq_true,decide_eq_true_eq,Bool.not_eq_true'] at BI
   have hre:=round_eq swo_ltInt (partitionEqual_holds ltInt) (d3:=m3.toArray) (d4:=t.toArray) (mid:=(partitionEqual ltInt m3.toArray x y p2).1) BI.1 EK M6 (by omega) hB3 BI.2 (by rw [nv])
   generalize (partitionEqual ltInt m3.toArray x y p2).1=mid at hre
   obtain ⟨g1,g2,g3,g4,g5⟩:=hre
   have I9:t.length=l.length:=by
    have:t.toArray.size=t.length:=by simp
    omega
   exact ⟨_,rfl,⟨t,mid,y,zD,wb,wp,rfl,I9,g2,hy,by omega,by omega,g4,λ R r1 r2=>by
    obtain ⟨q1,q2⟩:=g5 R r1 r2
    exact hR R (permIn_trans _ _ _ x y ME q1) q2⟩,by simp only [Int.toNat_natCast]; omega⟩
  ·have BI:(decide (0 < x) && !ltInt m3.toArray[x - 1]! m3.toArray[p2]!)=false:=by simpa using BI
   left
   obtain ⟨t,ht,nv⟩:=aEu (l:=m3) (a:=x) (b:=y) (p:=p2) (by unfold kr; omega) EK M6 (by omega)
   rw [BI,cD,ht,Option.bind_some,show nD ((y - x:Nat):Int) 8=some (((y - x) / 8:Nat):Int) from Xz (d:=8) (by omega) (by omega),Option.bind_some]
   have TR:=round_part swo_ltInt (partition_holds ltInt) (d3:=m3.toArray) (d4:=t.toArray) (mid:=(partition ltInt m3.toArray x y p2).1) (ap:=(partition ltInt m3.toArray x y p2).2.1) EK M6 (by omega) hB3 (by rw [nv])
   generalize (partition ltInt m3.toArray x y p2).1=mid at TR
   generalize (partition ltInt m3.toArray x y p2).2.1=ap at TR
   obtain ⟨g1,g2,g3,g4,g5,g6,g7⟩:=TR
   have I9:t.length=l.length:=by
    have:t.toArray.size=t.length:=by simp
    omega
   dsimp only
   rw [qO (i:=mid) (j:=x) (by omega) g1,qO (i:=y) (j:=mid) (by omega) (by omega),pN,fy (i:=mid) (by omega)]
   have h2k:2 ^ (k+1)=2 * 2 ^ k:=by rw [Nat.pow_succ]; omega
   by_cases bL:mid - x < y - mid
   ·obtain ⟨u,hu,Ja,Jb⟩:=ih t x mid zD (by unfold mh; omega) (by omega) g1 (by omega) (by omega) g4
    rw [decide_eq_true bL,cJ,hu,Option.bind_some]
    obtain ⟨R3,Ij⟩:=g6 _ Ja Jb
    have B0:u.length=l.length:=by
     have h1:u.toArray.size=u.length:=by simp
     have h2:=Ja.1
     omega
    exact ⟨_,rfl,⟨u,mid+1,y,zD,_,_,rfl,B0,by omega,hy,by omega,by omega,R3,λ R r1 r2=>by
     obtain ⟨q1,q2⟩:=Ij R r1 r2
     exact hR R (permIn_trans _ _ _ x y ME q1) q2⟩,by simp only [Int.toNat_natCast]; omega⟩
   ·obtain ⟨u,hu,Ja,Jb⟩:=ih t (mid+1) y zD (by unfold mh; omega) (by omega) (by omega) (by omega) (by omega) g5
    rw [decide_eq_false bL,cD,hu,Option.bind_some]
    obtain ⟨R3,Ij⟩:=g7 _ Ja Jb
    have B0:u.length=l.length:=by
     have h1:u.toArray.size=u.length:=by simp
     have h2:=Ja.1
     omega
    exact ⟨_,rfl,⟨u,x,mid,zD,_,_,rfl,B0,g1,by omega,by omega,by omega,R3,λ R r1 r2=>by
     obtain ⟨q1,q2⟩:=Ij R r1 r2
     exact hR R (permIn_trans _ _ _ x y ME q1) q2⟩,by simp only [Int.toNat_natCast]; omega⟩
theorem aDS{l:List Int}(hl:mh l):∃ l',zM l=some l'∧l'.Perm l∧l'.Pairwise (·≤·):=by
 have hl':=hl
 unfold mh at hl'
 obtain ⟨⟨k,hk,Tp⟩,_⟩:=adY (n:=l.length) (by omega)
 obtain ⟨t,ht,h1,h2⟩:=aGg 11 l 0 l.length k hl (by omega) (Nat.zero_le _) (Nat.le_refl _) (by omega) (.inl rfl)
 unfold zM
 rw [hk,Option.bind_some]
 refine ⟨t,by rw [show (0:Int)=((0:Nat):Int) from rfl,ht]; rfl,?_,?_⟩
 ·have h3:=h1.2.2
  have hts:t.length=l.length:=by have:=h1.1; simpa using this
  rw [show t.toArray.extract 0 l.length=t.toArray by rw [← hts]; simp,show l.toArray.extract 0 l.length=l.toArray by simp] at h3
  simpa using h3
 ·have hts:t.length=l.length:=by have:=h1.1; simpa using this
  rw [List.pairwise_iff_getElem]
  intro i j hi hj fC
  have h4:=h2 i j (Nat.zero_le _) fC (by omega)
  rw [kS,kS] at h4
  have e1:=cp hi
  have e2:=cp hj
  rw [List.getElem?_eq_getElem hi] at e1
  rw [List.getElem?_eq_getElem hj] at e2
  rw [Option.some.inj e1,Option.some.inj e2]
  unfold ltInt at h4
  have:=of_decide_eq_false h4
  omega
end Go.Proofs.YtihapemckcdicaaGreatDoor
namespace Go.Proofs.YtihapemckcdicaaGreatDoor
open Go.Lg Go.Proofs Go.Sort
set_option maxRecDepth 10000
theorem aDU{l:List Int}(hl:mh l)(hs:l.Pairwise (·≤·)):∃ d,zN l=some d∧d.Pairwise (· < ·)∧∀ x,x∈d↔x∈l:=by
 have hB:=hl
 unfold mh at hB
 have iT:(lg l l.length).Pairwise (· < ·)∧∀ x,x∈lg l l.length↔x∈l:=by
  refine ⟨aa3 hs _ (Nat.le_refl _),λ x=>?_⟩
  rw [Rn]
  constructor
  ·rintro ⟨i,hi,rfl⟩; exact qn hi
  ·intro hx; exact xJ hx
 unfold zN
 rw [show decide ((l.length:Int) < 2)=decide (l.length < 2) from pN (j:=2)]
 by_cases h2:l.length < 2
 ·rw [decide_eq_true h2,cJ]
  refine ⟨l,rfl,?_,λ _=>Iff.rfl⟩
  match l,h2 with
  | [],_=>simp
  | [_],_=>simp
  | _::_::r,h=>exact absurd h (by simp only [List.length_cons]; omega)
 rw [decide_eq_false h2,cD]
 suffices hx:∃ z:List Int,_=some z∧z=lg l l.length by
  obtain ⟨z,hz,rfl⟩:=hx
  exact ⟨_,hz,iT⟩
 refine qR (λ s=>∃ k:Nat,s=(k:Int)∧1≤k∧k≤l.length∧∀ i,1≤i→i < k→nth l i≠nth l (i - 1)) (λ s=>l.length - s.toNat) (λ o=>o = .inl ()∧(∀ i,1≤i→i < l.length→nth l i≠nth l (i - 1))∨o = .inr (lg l l.length)) ⟨1,rfl,Nat.le_refl _,by omega,λ i h1 h2=>by omega⟩ (λ o ho=>?_) ?_
 ·rcases ho with ⟨rfl,h⟩ | rfl
  ·exact ⟨l,rfl,by rw [Rm _ (Nat.le_refl _) h,List.take_length]⟩
  ·exact ⟨_,rfl,rfl⟩
 ·rintro _ ⟨k,rfl,Tp,ik,hk⟩
  rw [pN]
  by_cases Tq:k < l.length
  ·rw [decide_eq_true Tq,cJ,kO (i:=k) (by omega) Tp]
   simp only [dT,cp Tq,cp (show k - 1 < l.length by omega),Option.bind_some]
   by_cases hd:nth l k=nth l (k - 1)
   ·right
    rw [show (nth l k == nth l (k - 1))=true by simpa using hd,cJ,show lK l (k:Int) (l.length:Int)=some (l.drop k) by simp [lK]; omega,Option.bind_some]
    suffices hx:∃ z:Int ⊕ (Unit ⊕ List Int),_=some z∧z = .inr (.inr (lg l l.length)) by
     obtain ⟨z,hz,rfl⟩:=hx
     exact ⟨_,hz,.inr rfl⟩
    refine qR (λ s=>∃ (m:List Int) (w q:Nat),s=(m,(w:Int),(q:Int))∧m.length=l.length∧1≤q∧w+1≤k+q∧k+q≤l.length∧(∀ i,k+q - 1≤i→nth m i=nth l i)∧m.take w=lg l (k+q)) (λ s=>l.length - s.2.2.toNat)
     (λ o=>∃ (m:List Int) (w:Nat),o=(m,(w:Int))∧m.length=l.length∧w≤l.length∧m.take w=lg l l.length) ⟨l,k,1,rfl,rfl,Nat.le_refl _,by omega,by omega,λ _ _=>rfl,by
      rw [lg,if_neg (λ h=>h.elim (λ h=>by omega) (λ h=>h hd))]
      exact (Rm k ik hk).symm⟩ (λ o ho=>?_) ?_
    ·obtain ⟨m,w,rfl,hm,hw,ht⟩:=ho
     dsimp only
     rw [Int.toNat_natCast,show lK m (w:Int) (m.length:Int)=some (m.drop w) by simp [lK]; omega,Option.bind_some,show lK (qy m w) 0 (w:Int)=some (m.take w) from by
      have PQ:(qy m w).length=m.length:=by simp [qy]; omega
      have:(qy m w).take w=m.take w:=by
       unfold qy
       rw [List.take_append_of_le_length (by simp; omega),List.take_take,Nat.min_self]
      rw [← this]
      exact aa2 (by omega),Option.bind_some,ht]
     exact ⟨_,rfl,rfl⟩
    ·rintro _ ⟨m,w,q,rfl,hm,EK,Vt,hkq,EG,ht⟩
     dsimp only
     rw [Int.toNat_natCast,List.length_drop,hm,pN]
     by_cases hql:q < l.length - k
     ·left
      rw [decide_eq_true hql,cJ,kO (i:=q) (by omega) (by omega)]
      simp only [dT,abc (m:=m) (a:=k) (i:=q) (by omega),abc (m:=m) (a:=k) (i:=q - 1) (by omega),Option.bind_some]
      rw [EG (k+q) (by omega),show k+(q - 1)=k+q - 1 by omega,EG (k+q - 1) (by omega)]
      by_cases cT:nth l (k+q)=nth l (k+q - 1)
      ·rw [show (nth l (k+q) != nth l (k+q - 1))=false by simpa using cT,cD,fy (i:=q) (by omega)]
       refine ⟨_,rfl,⟨m,w,q+1,rfl,hm,by omega,by omega,by omega,λ i hi=>EG i (by omega),?_⟩,by simp only [Int.toNat_natCast]; omega⟩
       rw [ht,show k+(q+1)=(k+q)+1 by omega,lg,if_neg (λ h=>h.elim (λ h=>by omega) (λ h=>h cT))]
      ·rw [show (nth l (k+q) != nth l (k+q - 1))=true by simpa using cT,cJ]
       simp only [cp (show w < m.length by omega),Option.bind_some,fy (i:=q) (by omega),fy (i:=w) (by omega),Int.toNat_natCast]
       refine ⟨_,rfl,⟨m.set w (nth l (k+q)),w+1,q+1,rfl,by simpa using hm,by omega,by omega,by omega,λ i hi=>?_,?_⟩,by simp only [Int.toNat_natCast]; omega⟩
       ·rw [aFv (by omega)]; exact EG i (by omega)
       ·rw [take_set (by omega),ht,show k+(q+1)=(k+q)+1 by omega,lg,if_pos (.inr cT)]
     ·right
      rw [decide_eq_false hql,cD]
      exact ⟨(m,(w:Int)),rfl,m,w,rfl,hm,by omega,by rw [ht,show k+q=l.length by omega]⟩
   ·left
    rw [show (nth l k == nth l (k - 1))=false by simpa using hd,cD,fy (i:=k) (by omega)]
    refine ⟨_,rfl,⟨k+1,rfl,by omega,by omega,λ i h1 h2=>?_⟩,by simp only [Int.toNat_natCast]; omega⟩
    by_cases S5:i=k
    ·subst S5; exact hd
    ·exact hk i h1 (by omega)
  ·right
   rw [decide_eq_false Tq,cD]
   exact ⟨.inl (),rfl,.inl ⟨rfl,λ i h1 h2=>hk i h1 (by omega)⟩⟩
end Go.Proofs.YtihapemckcdicaaGreatDoor
namespace Go.Proofs.YtihapemckcdicaaGreatDoor
open Go.Lg Go.Proofs
set_option maxRecDepth 10000
theorem ahD{b:ay}(hv:Valid b){f:bz→Option Int}{g:List Int→Int}(hf:∀ c∈fi b,f (rl c)=some (g c)):zY (Lb b) f=some (qh ((fi b).map g)):=by
 unfold zY
 have PQ:=PO hv
 rw [show (Lb b).fb=(fi b).map rl from rfl]
 refine (ql (o:=(fi b).map g) ?_).trans ?_
 ·have e0:(([]:List Int),(0:Int))=(λ q:Nat=>(((fi b).take q).map g,(q:Int))) 0:=rfl
  rw [e0]
  refine aDe (λ q:Nat=>(((fi b).take q).map g,(q:Int))) (fi b).length (λ q hq=>?_) (by simp only [List.length_map,oI,cD,List.take_length])
  have hc:(fi b)[q]∈fi b:=List.getElem_mem hq
  simp only [List.length_map,dec_lt hq,cJ,dT,List.getElem?_map,List.getElem?_eq_getElem hq,Option.map_some,Option.bind_some,hf _ hc,fy (i:=q) (by omega)]
  rw [QD (by simp; omega),Option.bind_some,List.take_succ_eq_append_getElem hq,List.map_append]
  rfl
 ·obtain ⟨t,ht,hp,hs⟩:=aDS (l:=(fi b).map g) (by unfold mh; rw [List.length_map]; omega)
  obtain ⟨d,hd,h1,h2⟩:=aDU (l:=t) (by unfold mh; rw [hp.length_eq,List.length_map]; omega) hs
  rw [ht,Option.bind_some,hd,Option.bind_some,Z7 d (qh ((fi b).map g)) h1 (XM _) λ x=>by rw [h2,hp.mem_iff,La]]
theorem ahE{α:Type}[Inhabited α]{l:List α}{x:α}(h:x∈l):∃ j,j < l.length∧nth l j=x:=by
 obtain ⟨j,hj,rfl⟩:=List.mem_iff_getElem.1 h
 have e:=cp hj
 rw [List.getElem?_eq_getElem hj,Option.some.injEq] at e
 exact ⟨j,hj,e.symm⟩
theorem ahH{l:List Int}(h:l≠[]):0 < (qh l).length:=by
 obtain ⟨x,hx⟩:=List.exists_mem_of_ne_nil l h
 exact List.length_pos_of_mem ((La l x).2 hx)
theorem aJw{l:List Int}(h:l≠[]):nth (qh l) 0∈l∧∀ x∈l,nth (qh l) 0≤x:=by
 refine ⟨(La _ _).1 (qn (ahH h)),λ x hx=>?_⟩
 obtain ⟨j,hj,rfl⟩:=ahE ((La _ _).2 hx)
 rcases Nat.eq_zero_or_pos j with rfl | h0
 ·exact Int.le_refl _
 ·have:=ajX (XM l) h0 hj
  omega
theorem aJx{l:List Int}(h:l≠[]):nth (qh l) ((qh l).length - 1)∈l∧∀ x∈l,x≤nth (qh l) ((qh l).length - 1):=by
 have hp:=ahH h
 refine ⟨(La _ _).1 (qn (by omega)),λ x hx=>?_⟩
 obtain ⟨j,hj,rfl⟩:=ahE ((La _ _).2 hx)
 rcases Nat.lt_or_ge j ((qh l).length - 1) with h0 | h0
 ·have:=ajX (XM l) h0 (show (qh l).length - 1 < (qh l).length by omega)
  omega
 ·rw [show j=(qh l).length - 1 by omega]
  exact Int.le_refl _
def ug(b:ay)(n:Int):Int:=if ov b n=false then 6 else 0
theorem ahy{b:ay}(hs:b.aE.length≤1000)(n:Int):p6 b n=some (ug b n):=by
 unfold p6
 rw [WR hs]
 rfl
theorem adJ{b:ay}{n:Int}:ov b n=true↔∃ i:Nat,n=(i:Int)∧i < b.aE.length:=by
 unfold ov
 rw [jV]
 constructor
 ·intro h; exact ⟨n.toNat,by omega,by omega⟩
 ·rintro ⟨i,rfl,hi⟩; omega
theorem ahF{b:ay}{n:Int}(h:ug b n=0):∃ i:Nat,n=(i:Int)∧i < b.aE.length:=by
 refine adJ.1 ?_
 unfold ug at h
 cases hi:ov b n with
 | true=>rfl
 | false=>rw [hi] at h; cases h
theorem aeZ{b:ay}{i:Nat}(h:i < b.aE.length):ug b (i:Int)=0:=by
 unfold ug
 rw [adJ.2 ⟨i,rfl,h⟩]
 rfl
abbrev mP(b:ay)(i:Nat):List Int:=qh ((fi b).map λ c=>nth c i)
def Md(b:ay)(n:Int):List Int × Int:=if sN b (ug b n)≠0 then ([],sN b (ug b n)) else (mP b n.toNat,0)
theorem aEA{b:ay}(hs:Small b)(n:Int):vK b n=some (Md b n):=by
 have hp:=hs.places
 unfold vK Md AO
 rw [Option.bind_some,ahC hs (own:=ug b n) (λ _=>ahy (by omega) n),Option.bind_some]
 unfold PS
 by_cases h:sN b (ug b n)=0
 ·obtain ⟨hv,ho,hc⟩:=aht h
  obtain ⟨i,rfl,hi⟩:=ahF ho
  simp only [h,ne_eq,not_true_eq_false,if_false,bne_self_eq_false,cD]
  rw [ahD hv (g:=λ c=>nth c i) (λ c hc=>by unfold CO; rw [ahL hv (PR.1 hc).1.1 hi]; rfl)]
  rfl
 ·simp only [h,ne_eq,not_false_eq_true,if_true,GL h,cJ]
theorem akP{b:ay}(hv:Valid b){i:Nat}(hi:i < b.aE.length):Md b (i:Int)=(mP b i,if fi b=[] then 9 else 0):=by
 unfold Md
 rw [aeZ hi,abI hv]
 by_cases hc:fi b=[]
 ·rw [if_pos hc,if_pos (by decide)]
  unfold mP
  rw [hc]
  rfl
 ·simp only [hc,if_false]
  rfl
abbrev OD(b:ay)(i:Nat):List Int:=qh ((fi b).map λ c=>wu b (nth c i))
def Y8(b:ay)(n:Int):Reach × Int:=if sN b (ug b n)≠0 then (⟨0,0⟩,sN b (ug b n)) else (⟨nth (OD b n.toNat) 0,nth (OD b n.toNat) ((OD b n.toNat).length - 1)⟩,0)
theorem aTw{b:ay}(hs:Small b)(n:Int):zW b n=some (Y8 b n):=by
 have hp:=hs.places
 have hr:=hs.rows
 unfold zW Y8 AO
 rw [Option.bind_some,ahC hs (own:=ug b n) (λ _=>ahy (by omega) n),Option.bind_some]
 unfold PS
 by_cases h:sN b (ug b n)=0
 ·obtain ⟨hv,ho,hc⟩:=aht h
  obtain ⟨i,rfl,hi⟩:=ahF ho
  have PQ:=PO hv
  have cT:(fi b).map (λ c=>wu b (nth c i))≠[]:=by simpa using hc
  have gF:=ahH cT
  have hle:=aJy ((fi b).map λ c=>wu b (nth c i))
  rw [List.length_map] at hle
  simp only [h,ne_eq,not_true_eq_false,if_false,bne_self_eq_false,cD]
  rw [ahD hv (g:=λ c=>wu b (nth c i)) (λ c hc=>by unfold DV; rw [ahL hv (PR.1 hc).1.1 hi,Option.bind_some,show (Lb b).book=b from rfl,aJn hr]; rfl),Option.bind_some]
  rw [show (0:Int)=((0:Nat):Int) from rfl,dT,cp gF,Option.bind_some,kO (by omega) gF,dT,cp (by omega),Option.bind_some]
  rfl
 ·simp only [h,ne_eq,not_false_eq_true,if_true,GL h,cJ]
theorem aW4{b:ay}(hv:Valid b){i:Nat}(hi:i < b.aE.length)(hc:fi b≠[]):Y8 b (i:Int)=(⟨nth (OD b i) 0,nth (OD b i) ((OD b i).length - 1)⟩,0):=by
 unfold Y8
 rw [aeZ hi,abI hv,if_neg hc]
 rfl
end Go.Proofs.YtihapemckcdicaaGreatDoor
namespace Go.Proofs.YtihapemckcdicaaGreatDoor
open Go.Lg Go.Proofs
set_option maxRecDepth 10000
theorem ahp{b:ay}{i:Nat}{k:Int}:k∈mP b i↔∃ c∈fi b,nth c i=k:=by
 unfold mP
 rw [La,List.mem_map]
theorem aa9{b:ay}{i:Nat}(hi:i < b.aE.length){k:Int}(h:k∈mP b i):(nth b.aE i).cF≤k∧k≤(nth b.aE i).dq:=by
 obtain ⟨c,hc,rfl⟩:=ahp.1 h
 exact (PR.1 hc).1.2 i hi
theorem akO{b:ay}(hv:Valid b){i:Nat}(hi:i < b.aE.length):(mP b i).length≤3:=by
 have hp:=hv.each hi
 refine Nat.le_trans (aC9 (m:=C9 (nth b.aE i)) id ((XM _).imp λ h=>by omega) (λ x _ y _ h=>h) λ c hc=>?_) (afr hp.2.2.2)
 exact aeD.2 (aa9 hi hc)
theorem aHB(l:List fh)(n:Int):(OE l n=0∧∀ r∈l,r.dU < n)∨∃ r∈l,n≤r.dU∧OE l n=r.eQ:=by
 unfold OE
 cases he:l.find? (λ r=>decide (n≤r.dU)) with
 | none =>
  refine .inl ⟨rfl,λ r hr=>?_⟩
  have:=List.find?_eq_none.1 he r hr
  simp at this
  omega
 | some r =>
  refine .inr ⟨r,List.mem_of_find?_eq_some he,?_,rfl⟩
  have:=List.find?_some he
  simpa using this
theorem aJB{n m:Int}(h:n≤m):∀ {l:List fh},l.Pairwise Zw→(∀ r∈l,0≤r.eQ)→OE l m≤OE l n
 | [],_,_=>Int.le_refl _
 | r::l,hp,h0=>by
  rw [List.pairwise_cons] at hp
  rw [aJC,aJC]
  have ih:=aJB h hp.2 λ q hq=>h0 q (by simp [hq])
  by_cases h1:m≤r.dU
  ·rw [if_pos h1,if_pos (by omega)]; exact Int.le_refl _
  ·rw [if_neg h1]
   by_cases h2:n≤r.dU
   ·rw [if_pos h2]
    rcases aHB l m with ⟨e,_⟩ | ⟨q,hq,_,e⟩
    ·rw [e]; exact h0 r (by simp)
    ·rw [e]; exact (hp.1 q hq).2
   ·rw [if_neg h2]; exact ih
theorem aHC{b:ay}(hv:Valid b){n m:Int}(h:n≤m):wu b m≤wu b n :=
 aJB h (aJe.1 hv.YU) λ r hr=>by have:=(hv.row r hr).stay; omega
theorem aTl{l:List fh}(hp:l.Pairwise Zw){r:fh}(hr:r∈l):r.dU≤(nth l (l.length - 1)).dU:=by
 obtain ⟨j,hj,rfl⟩:=ahE hr
 rcases Nat.lt_or_ge j (l.length - 1) with h | h
 ·have e:∀ k (hk:k < l.length),l[k]=nth l k:=λ k hk=>by
   have:=cp hk
   rw [List.getElem?_eq_getElem hk] at this
   exact Option.some.inj this
  have:=List.pairwise_iff_getElem.1 hp j (l.length - 1) hj (by omega) h
  rw [e _ hj,e _ (show l.length - 1 < l.length by omega)] at this
  have:=this.1
  omega
 ·rw [show j=l.length - 1 by omega]
  exact Int.le_refl _
theorem aJD{b:ay}(hv:Valid b)(n:Int):(wu b n == 0)=decide (n > (nth b.Rows (b.Rows.length - 1)).dU):=by
 have h1:=hv.r1
 rw [Bool.eq_iff_iff,beq_iff_eq,decide_eq_true_eq]
 rcases aHB b.Rows n with ⟨e,h⟩ | ⟨r,hr,hd,e⟩
 ·exact ⟨λ _=>h _ (qn (by omega)),λ _=>e⟩
 ·have:=aTl (aJe.1 hv.YU) hr
  have h2:=(hv.row r hr).stay
  exact ⟨λ h=>by rw [aW3] at h; omega,λ h=>by omega⟩
theorem ahJ{b:ay}(hv:Valid b){n:Int}(h1:1≤n)(h2:n≤30):ahI b n=(wu b n,0):=by
 unfold ahI
 rw [GM.2 hv,jV.2 ⟨h1,h2⟩]
 rfl
theorem aTn(b:ay)(x y z:Int)(hx:0≤x∧x < 256)(hy:0≤y∧y < 256)(hz:0≤z∧z < 256):m6 b x y z=some true:=by
 unfold m6
 rw [aE2,aGW,Option.bind_some]
 cases hg:Bm b with
 | true=>rfl
 | false =>
 by_cases h1:lJ b=0
 case neg =>
  have:(lJ b == 0)=false:=by simpa using h1
  rw [this]
  rfl
 have hs:=acw hg
 have hv:=GM.1 h1
 have zv:=hv.p1
 have hp3:=hv.p3
 have hr1:=hv.r1
 have hr4:=hv.r4
 have h27:=PO hv
 simp only [h1,Bool.not_false,beq_self_eq_true,Bool.and_true,Bool.not_true,cD,Option.bind_some]
 have hX:x.toNat % 30 < 30:=Nat.mod_lt _ (by omega)
 have hY:y.toNat % 30 < 30:=Nat.mod_lt _ (by omega)
 have hi:z.toNat % b.aE.length < b.aE.length:=Nat.mod_lt _ (by omega)
 rw [show (30:Int)=((30:Nat):Int) from rfl,afn hx.1 hx.2 (by omega),Option.bind_some,afn hy.1 hy.2 (by omega),Option.bind_some,afn hz.1 hz.2 (by omega)]
 generalize x.toNat % 30=X at hX ⊢
 generalize y.toNat % 30=Y at hY ⊢
 generalize z.toNat % b.aE.length=i at hi ⊢
 have Iy:=hv.each hi
 rw [gB (z:=1+(X:Int)) (by omega) (by omega),gB (z:=1+(Y:Int)) (by omega) (by omega),aJs,aJr]
 have hn:1≤min (1+(X:Int)) (1+(Y:Int))∧min (1+(X:Int)) (1+(Y:Int))≤30:=by omega
 have hm:1≤max (1+(X:Int)) (1+(Y:Int))∧max (1+(X:Int)) (1+(Y:Int))≤30:=by omega
 have hnm:min (1+(X:Int)) (1+(Y:Int))≤max (1+(X:Int)) (1+(Y:Int)):=by omega
 generalize min (1+(X:Int)) (1+(Y:Int))=n at hn hnm ⊢
 generalize max (1+(X:Int)) (1+(Y:Int))=m at hm hnm ⊢
 rw [ahA hs,ahJ hv hn.1 hn.2,Option.bind_some,ahA hs,ahJ hv hm.1 hm.2,Option.bind_some]
 have K8:=aHC hv hnm
 simp only [bne_self_eq_false,cD,show decide (wu b n < wu b m)=false by simp; omega]
 rw [kO (by omega) (by omega),dT,cp (show b.Rows.length - 1 < b.Rows.length by omega)]
 simp only [Option.bind_some,aJD hv m,beq_self_eq_true,Bool.not_true,cD]
 have main:=ad4 (S:=Bool × Int) (O:=Bool) (body:=λ (sO:(Bool × Int)) =>
 af (decide (sO.2 < (b.Rows.length:Int)))
 (af sO.1
 (some (.inl (true,i64 (sO.2+1))))
 ((idx b.Rows sO.2).bind λ GN =>
 some (.inl (wu b m == GN.eQ,i64 (sO.2+1)))))
 (some (.inr sO.1))) b.Rows.length (λ q s=>s.2=(q:Int)∧(wu b m=0∨(∃ j,j < q∧wu b m=(nth b.Rows j).eQ)→s.1=true)) (λ o=>o=true) (λ q s hq hI=>?_) (λ s hI=>?_) b.Rows.length 0 (decide (m > (nth b.Rows (b.Rows.length - 1)).dU),0) (by omega) ⟨rfl,λ h=>by
  rcases h with h | ⟨j,hj,_⟩
  ·rw [← aJD hv m,h]; rfl
  ·omega⟩
 ·obtain ⟨o,ho,rfl⟩:=main
  rw [ql ho,aEA hs,akP hv hi,Option.bind_some,aTw hs,Option.bind_some]
  by_cases hc:fi b=[]
  ·have e1:Y8 b (i:Int)=(⟨0,0⟩,9):=by
    unfold Y8
    rw [aeZ hi,abI hv,if_pos hc]
    rfl
   have e2:mP b i=[]:=by unfold mP; rw [hc]; rfl
   rw [if_pos hc,e1,e2]
   rfl
  ·rw [if_neg hc,aW4 hv hi hc]
   have cT:(fi b).map (λ c=>nth c i)≠[]:=by simpa using hc
   have aJl:(fi b).map (λ c=>wu b (nth c i))≠[]:=by simpa using hc
   have gF:0 < (mP b i).length:=ahH cT
   have kZ:=akO hv hi
   have b1:=aa9 hi (qn gF)
   have b2:=aa9 hi (qn (show (mP b i).length - 1 < (mP b i).length by omega))
   simp only [Bool.not_true,cD,bne_self_eq_false,Option.bind_some,show (((mP b i).length:Int) == 0)=false by rw [beq_eq_false_iff_ne]; omega]
   rw [show idx (mP b i) 0=some (nth (mP b i) 0) from (dT _ 0).trans (cp gF),Option.bind_some,ahA hs,ahJ hv (n:=nth (mP b i) 0) (by omega) (by omega),Option.bind_some,kO (by omega) gF,dT,cp (show (mP b i).length - 1 < (mP b i).length by omega),Option.bind_some,ahA hs,ahJ hv (n:=nth (mP b i) ((mP b i).length - 1)) (by omega) (by omega),Option.bind_some]
   obtain ⟨f1,f2⟩:=aJw cT
   obtain ⟨l1,l2⟩:=aJx cT
   obtain ⟨g1,g2⟩:=aJw aJl
   obtain ⟨k1,k2⟩:=aJx aJl
   obtain ⟨c1,cC,f1⟩:=List.mem_map.1 f1
   obtain ⟨c2,eU,l1⟩:=List.mem_map.1 l1
   obtain ⟨c3,eW,g1⟩:=List.mem_map.1 g1
   obtain ⟨c4,mC,k1⟩:=List.mem_map.1 k1
   have q1:=g2 _ (List.mem_map.2 ⟨c2,eU,rfl⟩)
   have q2:=k2 _ (List.mem_map.2 ⟨c1,cC,rfl⟩)
   have q3:=aHC hv (l2 _ (List.mem_map.2 ⟨c3,eW,rfl⟩))
   have q4:=aHC hv (f2 _ (List.mem_map.2 ⟨c4,mC,rfl⟩))
   rw [l1] at q1
   rw [f1] at q2
   rw [g1] at q3
   rw [k1] at q4
   have r1:nth (OD b i) 0=wu b (nth (mP b i) ((mP b i).length - 1)):=Int.le_antisymm q1 q3
   have r2:nth (OD b i) ((OD b i).length - 1)=wu b (nth (mP b i) 0):=Int.le_antisymm q4 q2
   simp only [beq_self_eq_true,cJ,yF,Option.bind_some,r1,r2]
   simp [K5,cJ]
 ·left
  obtain ⟨is,k⟩:=s
  obtain ⟨rfl,hI⟩:=hI
  simp only at hI
  simp only [dec_lt hq,cJ,dT,cp hq,Option.bind_some,fy (i:=q) (by omega)]
  cases is with
  | true=>exact ⟨_,rfl,rfl,λ _=>rfl⟩
  | false =>
   refine ⟨_,rfl,rfl,λ h=>?_⟩
   simp only
   rcases h with h | ⟨j,hj,h⟩
   ·have:=hI (.inl h); cases this
   ·rcases Nat.lt_or_ge j q with h5 | h5
    ·have:=hI (.inr ⟨j,h5,h⟩); cases this
    ·rw [show q=j by omega,h]; simp
 ·obtain ⟨is,k⟩:=s
  obtain ⟨rfl,hI⟩:=hI
  refine ⟨is,by simp only [oI,cD],hI ?_⟩
  rcases aHB b.Rows m with ⟨e,_⟩ | ⟨r,hr,_,e⟩
  ·exact .inl e
  ·obtain ⟨j,hj,rfl⟩:=ahE hr
   exact .inr ⟨j,hj,e⟩
end Go.Proofs.YtihapemckcdicaaGreatDoor
