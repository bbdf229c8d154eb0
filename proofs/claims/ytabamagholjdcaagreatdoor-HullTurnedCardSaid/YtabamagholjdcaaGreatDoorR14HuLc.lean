/- Plain laws of chapter 6, with what is sorted. Conditions: none. -/
import Derived.Test.YtabamagholjdcaaGreatDoorR14HuLb
import Derived.Test.YtabamagholjdcaaGreatDoorQHHuC
import Derived.Test.YtabamagholjdcaaGreatDoorR14HuL
import Derived.Sort.AssemblyPlain
namespace Go.Proofs.YtabamagholjdcaaGreatDoor
open Go.Lg Go.Proofs Go.Sort
set_option maxRecDepth 10000
theorem Zx{S O:Type}{body:S→Option (S ⊕ O)}(I:S→Prop)(μ:S→Nat){Q:O→Prop}(h:∀ s,I s→(∃ s',body s=some (.inl s')∧I s'∧μ s' < μ s)∨∃ o,body s=some (.inr o)∧Q o):∀ s,I s→∃ o,bd body s=some o∧Q o:=by
 have key:∀ n s,μ s≤n→I s→∃ o,bd body s=some o∧Q o:=by
  intro n
  induction n with
  | zero =>
   intro s hn hI
   rcases h s hI with ⟨s',_,_,br⟩ | ⟨o,hb,hq⟩
   ·omega
   ·exact ⟨o,gW hb,hq⟩
  | succ n ih =>
   intro s hn hI
   rcases h s hI with ⟨s',hb,UP,br⟩ | ⟨o,hb,hq⟩
   ·obtain ⟨o,ho,hq⟩:=ih s' (by omega) UP
    exact ⟨o,by rw [si hb,ho],hq⟩
   ·exact ⟨o,gW hb,hq⟩
 exact λ s hI=>key _ s (Nat.le_refl _) hI
theorem qD{S O β:Type}{body:S→Option (S ⊕ O)}{f:O→Option β}{P:β→Prop}(I:S→Prop)(μ:S→Nat)(Q:O→Prop){s:S}(hI:I s)(hf:∀ o,Q o→∃ b,f o=some b∧P b)(h:∀ s,I s→(∃ s',body s=some (.inl s')∧I s'∧μ s' < μ s)∨∃ o,body s=some (.inr o)∧Q o):∃ b,(bd body s).bind f=some b∧P b:=by
 obtain ⟨o,ho,hq⟩:=Zx I μ h s hI
 rw [gp ho]
 exact hf o hq
theorem pd(x y:Int):fB x y=some (ltInt x y):=by
 unfold fB xH
 simp only [Option.bind_some,bne_self_eq_false,bm]
 rfl
theorem jz(l:List Int)(i:Nat):l.toArray[i]! = nth l i:=by
 unfold nth
 simp only [List.getElem!_toArray,List.getElem!_eq_getElem?_getD,List.getD_eq_getElem?_getD]
def iA(l:List Int)(i j:Nat):List Int:=(l.set i (nth l j)).set j (nth l i)
theorem nD(l:List Int)(i j:Nat):(iA l i j).toArray=swp l.toArray i j:=by
 unfold iA swp
 rw [jz,jz]
 simp
theorem mL(l:List Int)(i j:Nat):(iA l i j).length=l.length:=by simp [iA]
theorem nC{l:List Int}{i j:Nat}{x:Int}(h:j < l.length):(l.set i x)[j]? = some (nth (l.set i x) j):=bz (by simpa using h)
theorem qA{i j:Nat}(h:i≤1000000000)(hj:j≤i):i64 ((i:Int) - (j:Int))=((i - j:Nat):Int):=by rw [dR (by omega) (by omega)]; omega
theorem vw{i j:Nat}(h:i≤1000000000)(hj:j≤1000000000):i64 ((i:Int)+(j:Int))=((i+j:Nat):Int):=by rw [dR (by omega) (by omega)]; omega
theorem agl{i:Nat}(h:i≤1000000000):i64 (((i+1:Nat):Int) - 1)=(i:Int):=by rw [dR (by omega) (by omega)]; omega
theorem oY{i j:Nat}:decide ((i:Int) < (j:Int))=decide (i < j):=by simp
theorem NW{i j:Nat}:decide ((i:Int) > (j:Int))=decide (i > j):=by simp
theorem FD{i j:Nat}:decide ((i:Int)≤(j:Int))=decide (i≤j):=by simp
theorem I1{i j:Nat}:decide ((i:Int) ≥ (j:Int))=decide (i ≥ j):=by simp
abbrev ja(l:List Int):Prop:=l.length≤1000000
theorem agY{l:List Int}{a b:Nat}(hl:ja l)(cH:a≤b)(hb:b≤l.length):∃ l',Ae l a b=some l'∧l'.toArray=insertionSort ltInt l.toArray a b:=by
 unfold Ae insertionSort
 have hB:=hl
 unfold ja at hB
 rw [cK (by omega)]
 refine qD (λ s=>∃ (m:List Int) (i:Nat),s=(m,(i:Int))∧m.length=l.length∧insOuter ltInt a b i m.toArray=insOuter ltInt a b (a+1) l.toArray) (λ s=>b - s.2.toNat)
  (λ o=>o.toArray=insOuter ltInt a b (a+1) l.toArray) ⟨l,a+1,rfl,rfl,rfl⟩ (λ o hq=>⟨o,rfl,hq⟩) ?_
 ·rintro _ ⟨m,i,rfl,hm,hT⟩
  rw [insOuter] at hT
  by_cases hi:i < b
  ·rw [if_pos hi] at hT
   left
   obtain ⟨p,hp,ES,hpq⟩:=Zx (S:=List Int × Int) (O:=List Int) (body:=λ (dG:((List Int) × Int)) =>
    (((ae (decide (dG.2 > (a:Int)))
    ((idx dG.1 dG.2).bind λ LP =>
    (idx dG.1 (i64 (dG.2 - 1))).bind λ AW =>
    (fB LP AW).bind λ QX =>
    some QX)
    (some false)):Option Bool)).bind (λ (GH:Bool) =>
    ae GH
    ((idx dG.1 (i64 (dG.2 - 1))).bind λ pF =>
    (idx dG.1 dG.2).bind λ uh =>
    (idx dG.1 dG.2).bind λ abk =>
    (idx (dG.1.set dG.2.toNat pF) (i64 (dG.2 - 1))).bind λ ai0 =>
    some (.inl ((dG.1.set dG.2.toNat pF).set (i64 (dG.2 - 1)).toNat uh,i64 (dG.2 - 1))))
    (some (.inr dG.1)))) (λ s=>∃ (q:List Int) (j:Nat),s=(q,(j:Int))∧q.length=l.length∧j < q.length∧insInner ltInt a j q.toArray=insInner ltInt a i m.toArray) (λ s=>s.2.toNat)
    (Q:=λ o=>o.length=l.length∧o.toArray=insInner ltInt a i m.toArray) (by
     rintro _ ⟨q,j,rfl,hq,hj,il⟩
     cases j with
     | zero =>
      right
      refine ⟨q,?_,hq,il⟩
      rw [show decide (((0:Nat):Int) > (a:Int))=false by simp]
      rfl
     | succ j =>
      rw [insInner] at il
      dsimp only
      rw [NW,agl (by omega)]
      simp only [cj,bz hj,bz (show j < q.length by omega),Option.bind_some,pd,Int.toNat_natCast,nC (show j < q.length by omega)]
      rw [jz,jz] at il
      by_cases hc:j+1 > a∧ltInt (nth q (j+1)) (nth q j)=true
      ·left
       rw [if_pos (by simp [hc.1,hc.2])] at il
       refine ⟨(iA q (j+1) j,(j:Int)),?_,⟨_,j,rfl,by rw [mL]; exact hq,by rw [mL]; omega,by rw [nD]; exact il⟩,by simp only [Int.toNat_natCast]; omega⟩
       rw [decide_eq_true hc.1,bw,Option.bind_some,hc.2]
       rfl
      ·right
       rw [if_neg (by simpa using hc)] at il
       refine ⟨q,?_,hq,il⟩
       by_cases h1:j+1 > a
       ·have h2:ltInt (nth q (j+1)) (nth q j)=false:=by simpa [h1] using hc
        rw [decide_eq_true h1,bw,Option.bind_some,h2]
        rfl
       ·rw [decide_eq_false h1]
        rfl) (m,(i:Int)) ⟨m,i,rfl,hm,by omega,rfl⟩
   refine ⟨(p,((i+1:Nat):Int)),?_,⟨p,i+1,rfl,ES,by rw [hpq]; exact hT⟩,by simp only [Int.toNat_natCast]; omega⟩
   dsimp only
   rw [oY,decide_eq_true hi,bw,gp hp,cK (by omega)]
  ·rw [if_neg hi] at hT
   right
   refine ⟨m,?_,hT⟩
   dsimp only
   rw [oY,decide_eq_false hi,bm]
theorem aIW{l:List Int}{a b:Nat}(hl:ja l)(cH:a < b)(hb:b≤l.length):∃ l',xJ l a b=some l'∧l'.toArray=reverseRange l.toArray a b:=by
 unfold xJ reverseRange
 have hB:=hl
 unfold ja at hB
 rw [show i64 ((b:Int) - 1)=((b - 1:Nat):Int) from jJ (by omega) (by omega)]
 refine qD (λ s=>∃ (m:List Int) (i j:Nat),s=(m,(i:Int),(j:Int))∧m.length=l.length∧j < b∧reverseLoop i j m.toArray=reverseLoop a (b - 1) l.toArray) (λ s=>s.2.2.toNat - s.2.1.toNat)
  (λ o=>o.toArray=reverseLoop a (b - 1) l.toArray) ⟨l,a,b - 1,rfl,rfl,by omega,rfl⟩ (λ o hq=>⟨o,rfl,hq⟩) ?_
 ·rintro _ ⟨m,i,j,rfl,hm,hj,hT⟩
  rw [reverseLoop] at hT
  dsimp only
  rw [oY]
  by_cases ew:i < j
  ·rw [if_pos ew] at hT
   left
   refine ⟨(iA m i j,((i+1:Nat):Int),((j - 1:Nat):Int)),?_,⟨_,i+1,j - 1,rfl,by rw [mL]; exact hm,by omega,by rw [nD]; exact hT⟩,by simp only [Int.toNat_natCast]; omega⟩
   rw [decide_eq_true ew,bw]
   simp only [cj,bz (show i < m.length by omega),bz (show j < m.length by omega),Option.bind_some,Int.toNat_natCast,nC (show j < m.length by omega),cK (i:=i) (by omega),jJ (i:=j) (by omega) (by omega)]
   rfl
  ·rw [if_neg ew] at hT
   right
   exact ⟨m,by rw [decide_eq_false ew]; rfl,hT⟩
theorem agZ{l:List Int}{r hi first:Nat}(hl:ja l)(hb:first+hi≤l.length)(hr:r≤1000000):∃ l',Aj l r hi first=some l'∧l'.length=l.length∧l'.toArray=siftDown ltInt hi first r l.toArray:=by
 unfold Aj
 have hB:=hl
 unfold ja at hB
 refine qD (λ s=>∃ (m:List Int) (q:Nat),s=(m,(q:Int))∧m.length=l.length∧q≤1000000∧siftDown ltInt hi first q m.toArray=siftDown ltInt hi first r l.toArray) (λ s=>hi - s.2.toNat)
  (λ o=>∃ m:List Int,(o = .inl m∨o = .inr m)∧m.length=l.length∧m.toArray=siftDown ltInt hi first r l.toArray) ⟨l,r,rfl,rfl,hr,rfl⟩ (λ o hq=>?_) ?_
 ·obtain ⟨m,hm,rD,sW⟩:=hq
  rcases hm with rfl | rfl
  ·exact ⟨m,rfl,rD,sW⟩
  ·exact ⟨m,rfl,rD,sW⟩
 ·rintro _ ⟨m,q,rfl,hm,zO,hT⟩
  rw [siftDown] at hT
  dsimp only
  have e1:i64 (i64 (2 * (q:Int))+1)=((2 * q+1:Nat):Int):=by rw [dR (z:=2 * (q:Int)) (by omega) (by omega),dR (by omega) (by omega)]; omega
  have e2:i64 (((2 * q+1:Nat):Int)+1)=((2 * q+2:Nat):Int):=by rw [dR (by omega) (by omega)]; omega
  rw [e1,e2,I1,oY]
  by_cases h1:2 * q+1 ≥ hi
  ·rw [dif_pos h1] at hT
   right
   exact ⟨.inl m,by rw [decide_eq_true h1]; rfl,m,.inl rfl,hm,hT⟩
  ·rw [dif_neg h1] at hT
   rw [decide_eq_false h1,bm]
   have f1:i64 ((first:Int)+((2 * q+1:Nat):Int))=((first+(2 * q+1):Nat):Int):=vw (by omega) (by omega)
   have f2:i64 (((first+(2 * q+1):Nat):Int)+1)=((first+(2 * q+1)+1:Nat):Int):=cK (by omega)
   have f3:i64 ((first:Int)+(q:Int))=((first+q:Nat):Int):=vw (by omega) (by omega)
   have f4:i64 ((first:Int)+((2 * q+2:Nat):Int))=((first+(2 * q+2):Nat):Int):=vw (by omega) (by omega)
   rw [f1,f2,f3]
   simp only [jz] at hT
   have g0:m[first+q]? = some (nth m (first+q)):=bz (by omega)
   have g1:m[first+(2 * q+1)]? = some (nth m (first+(2 * q+1))):=bz (by omega)
   by_cases hc:(decide (2 * q+1+1 < hi) && ltInt (nth m (first+(2 * q+1))) (nth m (first+(2 * q+1)+1)))=true
   ·rw [if_pos hc] at hT
    simp only [Bool.and_eq_true,decide_eq_true_eq] at hc
    have g2:m[first+(2 * q+1)+1]? = some (nth m (first+(2 * q+1)+1)):=bz (by omega)
    have g2':m[first+(2 * q+2)]? = some (nth m (first+(2 * q+2))):=bz (by omega)
    rw [decide_eq_true (show 2 * q+2 < hi by omega),bw]
    simp only [cj,g1,g2,Option.bind_some,pd,hc.2,bw,f4,g0,g2']
    cases hx:ltInt (nth m (first+q)) (nth m (first+(2 * q+2))) with
    | false =>
     rw [hx] at hT
     right
     exact ⟨.inr m,rfl,m,.inr rfl,hm,by simpa using hT⟩
    | true =>
     rw [hx] at hT
     simp only [Bool.not_true,Bool.false_eq_true,if_false] at hT
     rw [dif_pos (by omega)] at hT
     left
     refine ⟨(iA m (first+q) (first+(2 * q+2)),((2 * q+2:Nat):Int)),?_,⟨_,2 * q+2,rfl,by rw [mL]; exact hm,by omega,by rw [nD]; exact hT⟩,by simp only [Int.toNat_natCast]; omega⟩
     simp only [Bool.not_true,bm,Int.toNat_natCast,nC (show first+(2 * q+2) < m.length by omega),Option.bind_some]
     rfl
   ·rw [if_neg hc] at hT
    have hp:(ae (decide (2 * q+2 < hi)) ((idx m ((first+(2 * q+1):Nat):Int)).bind λ vT=>(idx m ((first+(2 * q+1)+1:Nat):Int)).bind λ uG=>(fB vT uG).bind λ Eo=>some Eo) (some false):Option Bool)=some false:=by
     by_cases h2:2 * q+2 < hi
     ·have g2:m[first+(2 * q+1)+1]? = some (nth m (first+(2 * q+1)+1)):=bz (by omega)
      rw [decide_eq_true h2,bw]
      simp only [cj,g1,g2,Option.bind_some,pd]
      have h2':2 * q+1+1 < hi:=h2
      simpa [h2'] using hc
     ·rw [decide_eq_false h2,bm]
    rw [hp]
    simp only [cj,Option.bind_some,bm,f1,g0,g1,pd]
    cases hx:ltInt (nth m (first+q)) (nth m (first+(2 * q+1))) with
    | false =>
     rw [hx] at hT
     right
     exact ⟨.inr m,rfl,m,.inr rfl,hm,by simpa using hT⟩
    | true =>
     rw [hx] at hT
     simp only [Bool.not_true,Bool.false_eq_true,if_false] at hT
     left
     refine ⟨(iA m (first+q) (first+(2 * q+1)),((2 * q+1:Nat):Int)),?_,⟨_,2 * q+1,rfl,by rw [mL]; exact hm,by omega,by rw [nD]; exact hT⟩,by simp only [Int.toNat_natCast]; omega⟩
     simp only [Bool.not_true,bm,Int.toNat_natCast,nC (show first+(2 * q+1) < m.length by omega),Option.bind_some]
     rfl
end Go.Proofs.YtabamagholjdcaaGreatDoor
namespace Go.Proofs.YtabamagholjdcaaGreatDoor
open Go.Lg Go.Proofs Go.Sort
set_option maxRecDepth 10000
theorem aIQ{l:List Int}{a b:Nat}(hl:ja l)(cH:a < b)(hb:b≤l.length):∃ l',Af l a b=some l'∧l'.toArray=heapSort ltInt l.toArray a b:=by
 unfold Af heapSort
 have hB:=hl
 unfold ja at hB
 have e0:i64 ((b:Int) - (a:Int))=((b - a:Nat):Int):=qA (by omega) (by omega)
 have e1:i64 (((b - a:Nat):Int) - 1)=((b - a - 1:Nat):Int):=jJ (by omega) (by omega)
 have e2:mF ((b - a - 1:Nat):Int) 2=some (((b - a - 1) / 2:Nat):Int):=by
  unfold mF
  rw [if_neg (by omega),show (2:Int)=((2:Nat):Int) from rfl,← Int.ofNat_tdiv,dR (by omega) (by omega)]
 rw [e0,e1,e2,Option.bind_some]
 generalize hn:b - a=n
 have hn0:0 < n:=by omega
 refine qD (λ s=>∃ (m:List Int) (k:Nat),s=(m,(k:Int) - 1)∧m.length=l.length∧k≤1000000∧heapBuild ltInt n a k m.toArray=heapBuild ltInt n a ((n - 1) / 2+1) l.toArray) (λ s=>(s.2+1).toNat)
  (λ o=>o.length=l.length∧o.toArray=heapBuild ltInt n a ((n - 1) / 2+1) l.toArray) ⟨l,(n - 1) / 2+1,by simp,rfl,by omega,rfl⟩ (λ m hq=>?_) ?_
 ·obtain ⟨hm,sW⟩:=hq
  have e3:(((n - 1:Nat):Int))=(n:Int) - 1:=by omega
  rw [e3,← sW]
  refine qD (λ s=>∃ (q:List Int) (k:Nat),s=(q,(k:Int) - 1)∧q.length=l.length∧k≤n∧heapPop ltInt a k q.toArray=heapPop ltInt a n m.toArray) (λ s=>(s.2+1).toNat)
   (λ o=>o.toArray=heapPop ltInt a n m.toArray) ⟨m,n,rfl,hm,by omega,rfl⟩ (λ o hq=>⟨o,rfl,hq⟩) ?_
  rintro _ ⟨q,k,rfl,hq,hk,hT⟩
  dsimp only
  cases k with
  | zero =>
   right
   exact ⟨q,by rw [show decide (((0:Nat):Int) - 1 ≥ 0)=false by simp]; rfl,hT⟩
  | succ k =>
   left
   have e4:((k+1:Nat):Int) - 1=(k:Int):=by omega
   have f1:i64 ((a:Int)+(k:Int))=((a+k:Nat):Int):=vw (by omega) (by omega)
   rw [heapPop,← nD] at hT
   obtain ⟨t,ht,Ki,mx⟩:=agZ (l:=iA q a (a+k)) (r:=0) (hi:=k) (first:=a) (by unfold ja; rw [mL]; omega) (by rw [mL]; omega) (by omega)
   rw [mL] at Ki
   rw [← mx] at hT
   refine ⟨(t,(k:Int) - 1),?_,⟨t,k,rfl,by omega,by omega,hT⟩,by simp only []; omega⟩
   rw [e4,show decide ((k:Int) ≥ 0)=true by simp,bw]
   simp only [f1,cj,bz (show a < q.length by omega),bz (show a+k < q.length by omega),Option.bind_some,Int.toNat_natCast,nC (show a+k < q.length by omega)]
   rw [show ((q.set a (nth q (a+k))).set (a+k) (nth q a))=iA q a (a+k) from rfl,show (0:Int)=((0:Nat):Int) from rfl,ht,Option.bind_some,dR (by omega) (by omega)]
 ·rintro _ ⟨m,k,rfl,hm,hk,hT⟩
  dsimp only
  cases k with
  | zero =>
   right
   exact ⟨m,by rw [show decide (((0:Nat):Int) - 1 ≥ 0)=false by simp]; rfl,hm,hT⟩
  | succ k =>
   left
   have e4:((k+1:Nat):Int) - 1=(k:Int):=by omega
   rw [heapBuild] at hT
   obtain ⟨t,ht,Ki,mx⟩:=agZ (l:=m) (r:=k) (hi:=n) (first:=a) (by unfold ja; omega) (by omega) (by omega)
   rw [← mx] at hT
   refine ⟨(t,(k:Int) - 1),?_,⟨t,k,rfl,by omega,by omega,hT⟩,by simp only []; omega⟩
   rw [e4,show decide ((k:Int) ≥ 0)=true by simp,bw,ht,Option.bind_some,dR (by omega) (by omega)]
theorem ahD{body:Int→Option (Int ⊕ Int)}{d:Array Int}{p:Int→Bool}{J:Nat}(h:∀ k:Nat,body (k:Int)=if (decide (k≤J) && p d[k]!)=true then some (.inl ((k+1:Nat):Int)) else some (.inr (k:Int)))(i:Nat):bd body (i:Int)=some ((scanUp p d J i:Nat):Int):=by
 have key:∀ n i:Nat,J+1 - i≤n→bd body (i:Int)=some ((scanUp p d J i:Nat):Int):=by
  intro n
  induction n with
  | zero =>
   intro i hn
   have hc:¬ (decide (i≤J) && p d[i]!)=true:=by simp; omega
   rw [scanUp,if_neg hc]
   exact gW (by rw [h,if_neg hc])
  | succ n ih =>
   intro i hn
   rw [scanUp]
   by_cases hc:(decide (i≤J) && p d[i]!)=true
   ·rw [if_pos hc]
    have hi:i≤J:=by simp at hc; exact hc.1
    rw [si (s':=((i+1:Nat):Int)) (by rw [h,if_pos hc])]
    exact ih (i+1) (by omega)
   ·rw [if_neg hc]
    exact gW (by rw [h,if_neg hc])
 exact key _ i (Nat.le_refl _)
theorem aas{body:Int→Option (Int ⊕ Int)}{d:Array Int}{p:Int→Bool}{i:Nat}{J:Nat}(hi:0 < i)(h:∀ k:Nat,k≤J→body (k:Int)=if (decide (i≤k) && p d[k]!)=true then some (.inl ((k:Int) - 1)) else some (.inr (k:Int))):∀ j:Nat,j≤J→bd body (j:Int)=some ((scanDown p d i j:Nat):Int)
 | 0,hj=>by
  rw [scanDown]
  refine gW ?_
  rw [h 0 hj,if_neg (by simp; omega)]
 | j+1,hj=>by
  rw [scanDown]
  by_cases hc:(decide (i≤j+1) && p d[j+1]!)=true
  ·rw [if_pos hc,si (s':=(j:Int)) (by rw [h _ hj,if_pos hc]; congr 2; omega)]
   exact aas hi h j (by omega)
  ·rw [if_neg hc]
   refine gW ?_
   rw [h _ hj,if_neg hc]
theorem aar{p:Int→Bool}{d:Array Int}{i j:Nat}(h:i≤j+1):i≤scanUp p d j i∧scanUp p d j i≤j+1:=by
 obtain ⟨h1,h2,_⟩:=scanUp_spec p d j _ i rfl
 exact ⟨h1,h2 h⟩
theorem T5(p:Int→Bool)(d:Array Int)(i j:Nat):scanDown p d i j≤j:=(scanDown_spec p d i j).1
theorem aat{p q:Int→Bool}(hq:∀ x,q x=!p x){d:Array Int}{i j:Nat}(hi:0 < i)(h:¬ scanUp p d j i > scanDown q d (scanUp p d j i) j):scanUp p d j i < scanDown q d (scanUp p d j i) j:=by
 obtain ⟨u1,_,_,u4⟩:=scanUp_spec p d j _ i rfl
 obtain ⟨d1,_,_,d4⟩:=scanDown_spec q d (scanUp p d j i) j
 generalize scanUp p d j i=i2 at *
 generalize scanDown q d i2 j=j2 at *
 rcases Nat.lt_or_ge i2 j2 with h1 | h1
 ·exact h1
 ·have e:i2=j2:=by omega
  subst e
  have h2:=u4 (by omega)
  have h3:=d4 (by omega) (by omega)
  rw [hq,h2] at h3
  cases h3
theorem aI2{l:List Int}{a b p:Nat}(hl:ja l)(ml:a≤p)(hpb:p < b)(hb:b≤l.length):∃ l',Ai l a b p=some (l',(((partition ltInt l.toArray a b p).1:Nat):Int),(partition ltInt l.toArray a b p).2.1)∧l'.toArray=(partition ltInt l.toArray a b p).2.2:=by
 unfold Ai partition
 have hB:=hl
 unfold ja at hB
 simp only [cj,bz (show p < l.length by omega),bz (show a < l.length by omega),Option.bind_some,Int.toNat_natCast,nC (show p < l.length by omega)]
 rw [show ((l.set a (nth l p)).set p (nth l a))=iA l a p from rfl]
 generalize hD:iA l a p=D
 have zt:D.length=l.length:=by rw [← hD,mL]
 rw [← nD,hD]
 have hga:D[a]? = some (nth D a):=bz (by omega)
 have eb:i64 ((b:Int) - 1)=((b - 1:Nat):Int):=jJ (by omega) (by omega)
 rw [eb,cK (i:=a) (by omega)]
 have up:∀ (m:List Int) (J i:Nat),m.length=l.length→J < b→bd (λ (s:Int) =>
   ae (decide (s≤(J:Int)))
   ((idx m s).bind λ x=>(m[a]?).bind λ y=>(fB x y).bind λ c=>ae c (some (.inl (i64 (s+1)))) (some (.inr s)))
   (some (.inr s)):Int→Option (Int ⊕ Int)) (i:Int)=some ((scanUp (λ x=>ltInt x m.toArray[a]!) m.toArray J i:Nat):Int):=λ m J i hm hJ=>ahD (λ k=>by
  rw [FD,jz,jz]
  by_cases hk:k≤J
  ·simp only [decide_eq_true hk,bw,cj,bz (show k < m.length by omega),bz (show a < m.length by omega),Option.bind_some,pd,Bool.true_and,cK (i:=k) (by omega)]
   cases ltInt (nth m k) (nth m a) <;> rfl
  ·simp [hk]) i
 have dn:∀ (m:List Int) (i j:Nat),m.length=l.length→0 < i→j < b→bd (λ (s:Int) =>
   ae (decide ((i:Int)≤s))
   ((idx m s).bind λ x=>(m[a]?).bind λ y=>(fB x y).bind λ c=>ae (!c) (some (.inl (i64 (s - 1)))) (some (.inr s)))
   (some (.inr s)):Int→Option (Int ⊕ Int)) (j:Int)=some ((scanDown (λ x=>!ltInt x m.toArray[a]!) m.toArray i j:Nat):Int):=λ m i j hm hi hj=>aas (J:=j) hi (λ k jG=>by
  rw [FD,jz,jz]
  by_cases hk:i≤k
  ·simp only [decide_eq_true hk,bw,cj,bz (show k < m.length by omega),bz (show a < m.length by omega),Option.bind_some,pd,Bool.true_and,dR (z:=(k:Int) - 1) (by omega) (by omega)]
   cases ltInt (nth m k) (nth m a) <;> rfl
  ·simp [hk]) j (Nat.le_refl _)
 rw [gp (up D (b - 1) (a+1) zt (by omega))]
 have b7:=aat (p:=λ x=>ltInt x D.toArray[a]!) (q:=λ x=>!ltInt x D.toArray[a]!) (λ _=>rfl) (d:=D.toArray) (i:=a+1) (j:=b - 1) (by omega)
 have hu:=aar (p:=λ x=>ltInt x D.toArray[a]!) (d:=D.toArray) (i:=a+1) (j:=b - 1) (by omega)
 generalize scanUp (λ x=>ltInt x D.toArray[a]!) D.toArray (b - 1) (a+1)=i at hu b7
 rw [gp (dn D i (b - 1) zt (by omega) (by omega))]
 have hd:=T5 (λ x=>!ltInt x D.toArray[a]!) D.toArray i (b - 1)
 have Cm:=(scanDown_spec (λ x=>!ltInt x D.toArray[a]!) D.toArray i (b - 1)).2.1 (by omega)
 generalize scanDown (λ x=>!ltInt x D.toArray[a]!) D.toArray i (b - 1)=j at hd Cm b7
 rw [NW]
 have lQ:D[j]? = some (nth D j):=bz (by omega)
 by_cases ew:i > j
 ·simp only [ew,decide_true,bw,if_true,cj,hga,lQ,Option.bind_some,Int.toNat_natCast,nC (show a < D.length by omega)]
  exact ⟨iA D j a,rfl,nD _ _ _⟩
 ·have hgi:D[i]? = some (nth D i):=bz (by omega)
  have b7:=b7 ew
  simp only [ew,decide_false,bm,if_false,cj,lQ,hgi,Option.bind_some,Int.toNat_natCast,nC (show j < D.length by omega),cK (i:=i) (by omega),jJ (i:=j) (by omega) (by omega)]
  rw [show ((D.set i (nth D j)).set j (nth D i))=iA D i j from rfl,← nD]
  generalize hT:partLoop ltInt a (i+1) (j - 1) (iA D i j).toArray=T
  suffices hx:∃ z:List Int × Int × Bool,_=some z∧(z.2=(((T.1:Nat):Int),false)∧z.1.toArray=swp T.2 T.1 a) by
   obtain ⟨z,hz,h1,h2⟩:=hx
   exact ⟨z.1,by rw [← h1]; exact hz,h2⟩
  refine qD (λ s=>∃ (m:List Int) (i j:Nat),s=(m,(i:Int),(j:Int))∧m.length=l.length∧a < i∧i≤j+1∧j < b∧partLoop ltInt a i j m.toArray=T) (λ s=>s.2.2.toNat+1 - s.2.1.toNat)
   (λ o=>∃ m:List Int,o=(m,((T.1:Nat):Int))∧m.length=l.length∧m.toArray=T.2∧T.1 < l.length) ⟨_,i+1,j - 1,rfl,by rw [mL]; exact zt,by omega,by omega,by omega,hT⟩ (λ o ho=>?_) ?_
  ·obtain ⟨m,rfl,hm,sW,br⟩:=ho
   simp only [cj,bz (show a < m.length by omega),bz (show T.1 < m.length by omega),Option.bind_some,Int.toNat_natCast,nC (show a < m.length by omega)]
   exact ⟨(iA m T.1 a,_),rfl,rfl,by rw [nD,sW]⟩
  ·rintro _ ⟨m,i,j,rfl,hm,hi,EN,hj,hT⟩
   rw [partLoop_eq] at hT
   dsimp only
   rw [gp (up m j i hm hj)]
   have b7:=aat (p:=λ x=>ltInt x m.toArray[a]!) (q:=λ x=>!ltInt x m.toArray[a]!) (λ _=>rfl) (d:=m.toArray) (i:=i) (j:=j) (by omega)
   have hu:=aar (p:=λ x=>ltInt x m.toArray[a]!) (d:=m.toArray) (i:=i) (j:=j) EN
   generalize scanUp (λ x=>ltInt x m.toArray[a]!) m.toArray j i=i2 at hu hT b7
   rw [gp (dn m i2 j hm (by omega) hj)]
   have hd:=T5 (λ x=>!ltInt x m.toArray[a]!) m.toArray i2 j
   have Cm:=(scanDown_spec (λ x=>!ltInt x m.toArray[a]!) m.toArray i2 j).2.1 (by omega)
   generalize scanDown (λ x=>!ltInt x m.toArray[a]!) m.toArray i2 j=j2 at hd Cm hT b7
   rw [NW]
   by_cases ew:i2 > j2
   ·rw [if_pos ew] at hT
    right
    rw [decide_eq_true ew]
    subst hT
    exact ⟨(m,(j2:Int)),rfl,m,rfl,hm,rfl,by show j2 < _; omega⟩
   ·rw [if_neg ew,← nD] at hT
    have b7:=b7 ew
    left
    rw [decide_eq_false ew,bm]
    refine ⟨(iA m i2 j2,((i2+1:Nat):Int),((j2 - 1:Nat):Int)),?_,⟨_,i2+1,j2 - 1,rfl,by rw [mL]; exact hm,by omega,by omega,by omega,hT⟩,by simp only [Int.toNat_natCast]; omega⟩
    simp only [cj,bz (show i2 < m.length by omega),bz (show j2 < m.length by omega),Option.bind_some,Int.toNat_natCast,nC (show j2 < m.length by omega),cK (i:=i2) (by omega),jJ (i:=j2) (by omega) (by omega)]
    rfl
theorem aI0{l:List Int}{a b p:Nat}(hl:ja l)(ml:a≤p)(hpb:p < b)(hb:b≤l.length):∃ l',Ah l a b p=some (l',(((partitionEqual ltInt l.toArray a b p).1:Nat):Int))∧l'.toArray=(partitionEqual ltInt l.toArray a b p).2:=by
 unfold Ah partitionEqual
 have hB:=hl
 unfold ja at hB
 simp only [cj,bz (show p < l.length by omega),bz (show a < l.length by omega),Option.bind_some,Int.toNat_natCast,nC (show p < l.length by omega)]
 rw [show ((l.set a (nth l p)).set p (nth l a))=iA l a p from rfl]
 generalize hD:iA l a p=D
 have zt:D.length=l.length:=by rw [← hD,mL]
 rw [← nD,hD]
 have eb:i64 ((b:Int) - 1)=((b - 1:Nat):Int):=jJ (by omega) (by omega)
 rw [eb,cK (i:=a) (by omega)]
 have up:∀ (m:List Int) (J i:Nat),m.length=l.length→J < b→bd (λ (s:Int) =>
   ae (decide (s≤(J:Int)))
   ((m[a]?).bind λ y=>(idx m s).bind λ x=>(fB y x).bind λ c=>ae (!c) (some (.inl (i64 (s+1)))) (some (.inr s)))
   (some (.inr s)):Int→Option (Int ⊕ Int)) (i:Int)=some ((scanUp (λ x=>!ltInt m.toArray[a]! x) m.toArray J i:Nat):Int):=λ m J i hm hJ=>ahD (λ k=>by
  rw [FD,jz,jz]
  by_cases hk:k≤J
  ·simp only [decide_eq_true hk,bw,cj,bz (show k < m.length by omega),bz (show a < m.length by omega),Option.bind_some,pd,Bool.true_and,cK (i:=k) (by omega)]
   cases ltInt (nth m a) (nth m k) <;> rfl
  ·simp [hk]) i
 have dn:∀ (m:List Int) (i j:Nat),m.length=l.length→0 < i→j < b→bd (λ (s:Int) =>
   ae (decide ((i:Int)≤s))
   ((m[a]?).bind λ y=>(idx m s).bind λ x=>(fB y x).bind λ c=>ae c (some (.inl (i64 (s - 1)))) (some (.inr s)))
   (some (.inr s)):Int→Option (Int ⊕ Int)) (j:Int)=some ((scanDown (λ x=>ltInt m.toArray[a]! x) m.toArray i j:Nat):Int):=λ m i j hm hi hj=>aas (J:=j) hi (λ k jG=>by
  rw [FD,jz,jz]
  by_cases hk:i≤k
  ·simp only [decide_eq_true hk,bw,cj,bz (show k < m.length by omega),bz (show a < m.length by omega),Option.bind_some,pd,Bool.true_and,dR (z:=(k:Int) - 1) (by omega) (by omega)]
   cases ltInt (nth m a) (nth m k) <;> rfl
  ·simp [hk]) j (Nat.le_refl _)
 generalize hT:partEqLoop ltInt a (a+1) (b - 1) D.toArray=T
 suffices hx:∃ z:List Int × Int,_=some z∧(z.2=((T.1:Nat):Int)∧z.1.toArray=T.2) by
  obtain ⟨z,hz,h1,h2⟩:=hx
  exact ⟨z.1,by rw [← h1]; exact hz,h2⟩
 refine qD (λ s=>∃ (m:List Int) (i j:Nat),s=(m,(i:Int),(j:Int))∧m.length=l.length∧a < i∧i≤j+1∧j < b∧partEqLoop ltInt a i j m.toArray=T) (λ s=>s.2.2.toNat+1 - s.2.1.toNat)
  (λ o=>∃ m:List Int,o=(m,((T.1:Nat):Int))∧m.toArray=T.2) ⟨_,a+1,b - 1,rfl,zt,by omega,by omega,by omega,hT⟩ (λ o ho=>?_) ?_
 ·obtain ⟨m,rfl,sW⟩:=ho
  exact ⟨_,rfl,rfl,sW⟩
 ·rintro _ ⟨m,i,j,rfl,hm,hi,EN,hj,hT⟩
  rw [partEqLoop_eq] at hT
  dsimp only
  rw [gp (up m j i hm hj)]
  have b7:=aat (p:=λ x=>!ltInt m.toArray[a]! x) (q:=λ x=>ltInt m.toArray[a]! x) (λ _=>by simp) (d:=m.toArray) (i:=i) (j:=j) (by omega)
  have hu:=aar (p:=λ x=>!ltInt m.toArray[a]! x) (d:=m.toArray) (i:=i) (j:=j) EN
  generalize scanUp (λ x=>!ltInt m.toArray[a]! x) m.toArray j i=i2 at hu hT b7
  rw [gp (dn m i2 j hm (by omega) hj)]
  have hd:=T5 (λ x=>ltInt m.toArray[a]! x) m.toArray i2 j
  have Cm:=(scanDown_spec (λ x=>ltInt m.toArray[a]! x) m.toArray i2 j).2.1 (by omega)
  generalize scanDown (λ x=>ltInt m.toArray[a]! x) m.toArray i2 j=j2 at hd Cm hT b7
  rw [NW]
  by_cases ew:i2 > j2
  ·rw [if_pos ew] at hT
   right
   rw [decide_eq_true ew]
   subst hT
   exact ⟨(m,(i2:Int)),rfl,m,rfl,rfl⟩
  ·rw [if_neg ew,← nD] at hT
   have b7:=b7 ew
   left
   rw [decide_eq_false ew,bm]
   refine ⟨(iA m i2 j2,((i2+1:Nat):Int),((j2 - 1:Nat):Int)),?_,⟨_,i2+1,j2 - 1,rfl,by rw [mL]; exact hm,by omega,by omega,by omega,hT⟩,by simp only [Int.toNat_natCast]; omega⟩
   simp only [cj,bz (show i2 < m.length by omega),bz (show j2 < m.length by omega),Option.bind_some,Int.toNat_natCast,nC (show j2 < m.length by omega),cK (i:=i2) (by omega),jJ (i:=j2) (by omega) (by omega)]
   rfl
end Go.Proofs.YtabamagholjdcaaGreatDoor
namespace Go.Proofs.YtabamagholjdcaaGreatDoor
open Go.Lg Go.Proofs Go.Sort
set_option maxRecDepth 10000
theorem aIY{l:List Int}{a b:Nat}(hl:ja l)(cH:a < b)(hb:b≤l.length):∃ l',vy l a b=some (l',(partialInsertionSort ltInt l.toArray a b).2)∧l'.toArray=(partialInsertionSort ltInt l.toArray a b).1:=by
 unfold vy partialInsertionSort
 have hB:=hl
 unfold ja at hB
 generalize hT:partialIns ltInt a b 5 (a+1) l.toArray=T
 suffices hx:∃ z:List Int × Bool,_=some z∧(z.2=T.2∧z.1.toArray=T.1) by
  obtain ⟨z,hz,h1,h2⟩:=hx
  exact ⟨z.1,by rw [← h1]; exact hz,h2⟩
 rw [cK (i:=a) (by omega)]
 refine qD (λ s=>∃ (m:List Int) (i k:Nat),s=(m,(i:Int),((5 - k:Nat):Int))∧k≤5∧m.length=l.length∧a < i∧i≤b∧partialIns ltInt a b k i m.toArray=T) (λ s=>5 - s.2.2.toNat)
  (λ o=>∃ m:List Int,(o = .inl m∧T.2=false∨o = .inr (m,T.2))∧m.toArray=T.1) ⟨l,a+1,5,rfl,Nat.le_refl _,rfl,by omega,by omega,hT⟩ (λ o ho=>?_) ?_
 ·obtain ⟨m,ho,sW⟩:=ho
  rcases ho with ⟨rfl,h2⟩ | rfl
  ·exact ⟨(m,false),rfl,h2.symm,sW⟩
  ·exact ⟨(m,T.2),rfl,rfl,sW⟩
 ·rintro _ ⟨m,i,k,rfl,hk5,hm,Vk,zC,hT⟩
  dsimp only
  cases k with
  | zero =>
   rw [partialIns] at hT
   subst hT
   right
   exact ⟨.inl m,rfl,m,.inl ⟨rfl,rfl⟩,rfl⟩
  | succ k =>
   rw [partialIns] at hT
   rw [show decide (((5 - (k+1):Nat):Int) < 5)=true by simp; omega,bw]
   have OU:∀ i:Nat,a < i→i≤b→bd (λ (jr:Int) =>
     ae (decide (jr < (b:Int)))
     ((idx m jr).bind λ EC =>
     (idx m (i64 (jr - 1))).bind λ ED =>
     (fB EC ED).bind λ Hu =>
     ae (!Hu)
     (some (.inl (i64 (jr+1))))
     (some (.inr jr)))
     (some (.inr jr)):Int→Option (Int ⊕ Int)) (i:Int)=some ((scanSorted ltInt m.toArray b i:Nat):Int)∧i≤scanSorted ltInt m.toArray b i∧scanSorted ltInt m.toArray b i≤b:=by
    have key:∀ n i:Nat,b - i≤n→a < i→i≤b→bd (λ (jr:Int) =>
      ae (decide (jr < (b:Int)))
      ((idx m jr).bind λ EC =>
      (idx m (i64 (jr - 1))).bind λ ED =>
      (fB EC ED).bind λ Hu =>
      ae (!Hu)
      (some (.inl (i64 (jr+1))))
      (some (.inr jr)))
      (some (.inr jr)):Int→Option (Int ⊕ Int)) (i:Int)=some ((scanSorted ltInt m.toArray b i:Nat):Int)∧i≤scanSorted ltInt m.toArray b i∧scanSorted ltInt m.toArray b i≤b:=by
     intro n
     induction n with
     | zero =>
      intro i hn hi zC
      have:¬ i < b:=by omega
      rw [scanSorted,if_neg (by simp [this])]
      exact ⟨gW (by rw [oY,decide_eq_false this,bm]),Nat.le_refl _,zC⟩
     | succ n ih =>
      intro i hn hi zC
      rw [scanSorted,jz,jz]
      by_cases h1:i < b
      ·have g1:m[i]? = some (nth m i):=bz (by omega)
       have g2:m[i - 1]? = some (nth m (i - 1)):=bz (by omega)
       cases hx:ltInt (nth m i) (nth m (i - 1)) with
       | true =>
        rw [if_neg (by simp)]
        refine ⟨gW ?_,Nat.le_refl _,zC⟩
        simp only [oY,decide_eq_true h1,bw,jJ (i:=i) (by omega) (by omega),cj,g1,g2,Option.bind_some,pd,hx,Bool.not_true,bm]
       | false =>
        rw [if_pos (by simp [h1])]
        obtain ⟨q1,q2,q3⟩:=ih (i+1) (by omega) (by omega) (by omega)
        refine ⟨?_,by omega,q3⟩
        rw [si (s':=((i+1:Nat):Int)) (by simp only [oY,decide_eq_true h1,bw,jJ (i:=i) (by omega) (by omega),cj,g1,g2,Option.bind_some,pd,hx,Bool.not_false,cK (i:=i) (by omega)])]
        exact q1
      ·rw [if_neg (by simp [h1])]
       exact ⟨gW (by rw [oY,decide_eq_false h1,bm]),Nat.le_refl _,zC⟩
    exact λ i hi zC=>key _ i (Nat.le_refl _) hi zC
   obtain ⟨q1,q2,q3⟩:=OU i Vk zC
   rw [gp q1]
   generalize scanSorted ltInt m.toArray b i=i2 at q2 q3 hT
   dsimp only at hT ⊢
   rw [show (((i2:Nat):Int) == ((b:Nat):Int))=decide (i2=b) by rw [Bool.eq_iff_iff,beq_iff_eq,decide_eq_true_eq]; omega]
   by_cases h1:i2=b
   ·rw [if_pos h1] at hT
    subst hT
    right
    exact ⟨.inr (m,true),by rw [decide_eq_true h1]; rfl,m,.inr rfl,rfl⟩
   ·rw [if_neg h1] at hT
    rw [decide_eq_false h1,bm,qA (i:=b) (j:=a) (by omega) (by omega),show decide (((b - a:Nat):Int) < 50)=decide (b - a < 50) from oY (j:=50)]
    by_cases h2:b - a < 50
    ·rw [if_pos h2] at hT
     subst hT
     right
     exact ⟨.inr (m,false),by rw [decide_eq_true h2]; rfl,m,.inr rfl,rfl⟩
    ·rw [if_neg h2] at hT
     rw [decide_eq_false h2,bm]
     left
     have g1:m[i2]? = some (nth m i2):=bz (by omega)
     have g2:m[i2 - 1]? = some (nth m (i2 - 1)):=bz (by omega)
     simp only [jJ (i:=i2) (by omega) (by omega),cj,g1,g2,Option.bind_some,Int.toNat_natCast,nC (show i2 - 1 < m.length by omega)]
     rw [show ((m.set i2 (nth m (i2 - 1))).set (i2 - 1) (nth m i2))=iA m i2 (i2 - 1) from rfl]
     rw [← nD] at hT
     generalize hS:iA m i2 (i2 - 1)=S at hT
     have hSl:S.length=l.length:=by rw [← hS,mL]; exact hm
     have hd1:∃ D:List Int,((((ae (decide (i64 ((i2:Int) - (a:Int)) ≥ 2))
       ((bd (O:=(List Int)) (λ (dy:((List Int) × Int)) =>
       ae (decide (dy.2 ≥ 1))
       ((idx dy.1 dy.2).bind λ LF =>
       (idx dy.1 (i64 (dy.2 - 1))).bind λ LG =>
       (fB LF LG).bind λ QG =>
       ae (!QG)
       (some (.inr dy.1))
       ((idx dy.1 (i64 (dy.2 - 1))).bind λ Ei =>
       (idx dy.1 dy.2).bind λ LH =>
       (idx dy.1 dy.2).bind λ aa2 =>
       (idx (dy.1.set dy.2.toNat Ei) (i64 (dy.2 - 1))).bind λ aa3 =>
       some (.inl ((dy.1.set dy.2.toNat Ei).set (i64 (dy.2 - 1)).toNat LH,i64 (dy.2 - 1)))))
       (some (.inr dy.1))) (S,((i2 - 1:Nat):Int))).bind (λ (GN:(List Int)) =>
       some GN))
       (some S)):Option (List Int)))=some D)∧D.length=l.length∧D.toArray=if i2 - a ≥ 2 then shiftDown ltInt (i2 - 1) S.toArray else S.toArray:=by
      rw [qA (i:=i2) (j:=a) (by omega) (by omega),show decide (((i2 - a:Nat):Int) ≥ 2)=decide (i2 - a ≥ 2) from I1 (j:=2)]
      by_cases h3:i2 - a ≥ 2
      ·rw [decide_eq_true h3,bw,if_pos h3]
       refine qD (λ s=>∃ (q:List Int) (j:Nat),s=(q,(j:Int))∧q.length=l.length∧j < l.length∧shiftDown ltInt j q.toArray=shiftDown ltInt (i2 - 1) S.toArray) (λ s=>s.2.toNat)
        (λ o=>o.length=l.length∧o.toArray=shiftDown ltInt (i2 - 1) S.toArray) ⟨S,i2 - 1,rfl,hSl,by omega,rfl⟩ (λ o ho=>⟨o,rfl,ho⟩) ?_
       rintro _ ⟨q,j,rfl,hq,hj,il⟩
       dsimp only
       cases j with
       | zero=>right; exact ⟨q,rfl,hq,il⟩
       | succ j =>
        rw [shiftDown,jz,jz] at il
        rw [show decide (((j+1:Nat):Int) ≥ 1)=true by simp; omega,bw,agl (by omega)]
        simp only [cj,bz (show j+1 < q.length by omega),bz (show j < q.length by omega),Option.bind_some,pd,Int.toNat_natCast,nC (show j < q.length by omega)]
        cases hx:ltInt (nth q (j+1)) (nth q j) with
        | false=>rw [hx] at il; right; exact ⟨q,rfl,hq,by simpa using il⟩
        | true =>
         rw [hx] at il
         simp only [Bool.not_true,Bool.false_eq_true,if_false] at il
         left
         exact ⟨(iA q (j+1) j,(j:Int)),rfl,⟨_,j,rfl,by rw [mL]; exact hq,by omega,by rw [nD]; exact il⟩,by simp only [Int.toNat_natCast]; omega⟩
      ·rw [decide_eq_false h3,bm,if_neg h3]
       exact ⟨S,rfl,hSl,rfl⟩
     obtain ⟨D,hD1,zt,hDa⟩:=hd1
     rw [hD1,Option.bind_some]
     rw [← hDa] at hT
     have Cm:∃ U:List Int,U.length=l.length∧U.toArray=(if b - i2 ≥ 2 then shiftUp ltInt b (i2+1) D.toArray else D.toArray)∧(b - i2 ≥ 2→bd (O:=(List Int)) (λ (cz:((List Int) × Int)) =>
       ae (decide (cz.2 < (b:Int)))
       ((idx cz.1 cz.2).bind λ Ej =>
       (idx cz.1 (i64 (cz.2 - 1))).bind λ Ek =>
       (fB Ej Ek).bind λ He =>
       ae (!He)
       (some (.inr cz.1))
       ((idx cz.1 (i64 (cz.2 - 1))).bind λ vS =>
       (idx cz.1 cz.2).bind λ El =>
       (idx cz.1 cz.2).bind λ QH =>
       (idx (cz.1.set cz.2.toNat vS) (i64 (cz.2 - 1))).bind λ QI =>
       some (.inl ((cz.1.set cz.2.toNat vS).set (i64 (cz.2 - 1)).toNat El,i64 (cz.2+1)))))
       (some (.inr cz.1))) (D,((i2+1:Nat):Int))=some U):=by
      by_cases h3:b - i2 ≥ 2
      ·rw [if_pos h3]
       obtain ⟨U,hU,Vj,Jk⟩:=Zx (S:=List Int × Int) (O:=List Int) (body:=λ (cz:((List Int) × Int)) =>
        ae (decide (cz.2 < (b:Int)))
        ((idx cz.1 cz.2).bind λ Ej =>
        (idx cz.1 (i64 (cz.2 - 1))).bind λ Ek =>
        (fB Ej Ek).bind λ He =>
        ae (!He)
        (some (.inr cz.1))
        ((idx cz.1 (i64 (cz.2 - 1))).bind λ vS =>
        (idx cz.1 cz.2).bind λ El =>
        (idx cz.1 cz.2).bind λ QH =>
        (idx (cz.1.set cz.2.toNat vS) (i64 (cz.2 - 1))).bind λ QI =>
        some (.inl ((cz.1.set cz.2.toNat vS).set (i64 (cz.2 - 1)).toNat El,i64 (cz.2+1)))))
        (some (.inr cz.1))) (λ s=>∃ (q:List Int) (j:Nat),s=(q,(j:Int))∧q.length=l.length∧0 < j∧shiftUp ltInt b j q.toArray=shiftUp ltInt b (i2+1) D.toArray) (λ s=>b - s.2.toNat)
        (Q:=λ o=>o.length=l.length∧o.toArray=shiftUp ltInt b (i2+1) D.toArray) (by
         rintro _ ⟨q,j,rfl,hq,hj,il⟩
         rw [shiftUp] at il
         dsimp only
         rw [oY]
         by_cases h4:j < b
         ·rw [if_pos h4,jz,jz] at il
          rw [decide_eq_true h4,bw,jJ (i:=j) (by omega) hj]
          simp only [cj,bz (show j < q.length by omega),bz (show j - 1 < q.length by omega),Option.bind_some,pd,Int.toNat_natCast,nC (show j - 1 < q.length by omega),cK (i:=j) (by omega)]
          cases hx:ltInt (nth q j) (nth q (j - 1)) with
          | false=>rw [hx] at il; right; exact ⟨q,rfl,hq,by simpa using il⟩
          | true =>
           rw [hx] at il
           simp only [Bool.not_true,Bool.false_eq_true,if_false] at il
           left
           exact ⟨(iA q j (j - 1),((j+1:Nat):Int)),rfl,⟨_,j+1,rfl,by rw [mL]; exact hq,by omega,by rw [nD]; exact il⟩,by simp only [Int.toNat_natCast]; omega⟩
         ·rw [if_neg h4] at il
          right
          exact ⟨q,by rw [decide_eq_false h4,bm],hq,il⟩) (D,((i2+1:Nat):Int)) ⟨D,i2+1,rfl,zt,by omega,rfl⟩
       exact ⟨U,Vj,Jk,λ _=>hU⟩
      ·rw [if_neg h3]
       exact ⟨D,zt,rfl,λ h=>absurd h h3⟩
     obtain ⟨U,Vj,Jk,hU⟩:=Cm
     rw [← Jk] at hT
     refine ⟨(U,(i2:Int),((5 - k:Nat):Int)),?_,⟨U,i2,k,rfl,by omega,Vj,by omega,by omega,hT⟩,by simp only [Int.toNat_natCast]; omega⟩
     have ek:i64 (((5 - (k+1):Nat):Int)+1)=((5 - k:Nat):Int):=by rw [dR (by omega) (by omega)]; omega
     rw [qA (i:=b) (j:=i2) (by omega) (by omega),show decide (((b - i2:Nat):Int) ≥ 2)=decide (b - i2 ≥ 2) from I1 (j:=2),cK (i:=i2) (by omega),ek]
     by_cases h3:b - i2 ≥ 2
     ·rw [decide_eq_true h3,bw,gp (hU h3)]
     ·rw [decide_eq_false h3,bm]
      rw [if_neg h3] at Jk
      rw [show U=D from by simpa using Jk]
end Go.Proofs.YtabamagholjdcaaGreatDoor
namespace Go.Proofs.YtabamagholjdcaaGreatDoor
open Go.Lg Go.Proofs Go.Sort
set_option maxRecDepth 10000
theorem aiI(z:Int):IntKind.wrap .u64 z=z.emod 18446744073709551616:=by
 simp [IntKind.wrap,IntKind.bits,IntKind.signed]
 rfl
theorem aiJ(z:Int):0≤IntKind.wrap .u64 z∧IntKind.wrap .u64 z < 18446744073709551616:=by
 rw [aiI]
 exact ⟨Int.emod_nonneg _ (by omega),Int.emod_lt_of_pos _ (by omega)⟩
theorem aiK{z:Int}(h0:0≤z)(h1:z < 18446744073709551616):IntKind.wrap .u64 z=z:=by
 rw [aiI]
 exact Int.emod_eq_of_lt h0 h1
theorem ahI{a b:Int}(hb:0≤b):∃ z,se .u64 a b=some z∧0≤z∧z < 18446744073709551616:=by
 unfold se
 rw [if_neg (by omega)]
 exact ⟨_,rfl,aiJ _⟩
theorem aLe{a b:Int}(hb:0≤b):∃ z,qV .u64 a b=some z:=by
 unfold qV
 rw [if_neg (by omega)]
 exact ⟨_,rfl⟩
theorem abt(a b:Int):∃ z,pL .xor .u64 a b=some z∧0≤z∧z < 18446744073709551616:=⟨_,rfl,aiJ _⟩
theorem aI9(x:Int):∃ y,DM x=some (y,y)∧0≤y∧y < 18446744073709551616:=by
 unfold DM
 obtain ⟨a,ha,_⟩:=ahI (a:=x) (b:=13) (by omega)
 rw [ha,Option.bind_some]
 obtain ⟨c,hc,_⟩:=abt x a
 rw [hc,Option.bind_some]
 obtain ⟨d,hd⟩:=aLe (a:=c) (b:=7) (by omega)
 rw [hd,Option.bind_some]
 obtain ⟨e,he,_⟩:=abt c d
 rw [he,Option.bind_some]
 obtain ⟨f,hf,_⟩:=ahI (a:=e) (b:=17) (by omega)
 rw [hf,Option.bind_some]
 obtain ⟨g,hg,h0,h1⟩:=abt e f
 rw [hg,Option.bind_some]
 exact ⟨g,rfl,h0,h1⟩
theorem aor{a m:Int}(hm:0≤m)(OJ:m < 18446744073709551616):∃ z:Nat,pL .and .u64 a m=some (z:Int)∧(z:Int)≤m:=by
 unfold pL
 simp only
 have h1:(BitVec.ofInt IntKind.u64.bits a &&& BitVec.ofInt IntKind.u64.bits m).toNat≤(BitVec.ofInt IntKind.u64.bits m).toNat:=by
  rw [BitVec.toNat_and]
  exact Nat.and_le_right
 have h2:(BitVec.ofInt IntKind.u64.bits m).toNat=m.toNat:=by
  rw [BitVec.toNat_ofInt]
  have:((2 ^ IntKind.u64.bits:Nat):Int)=18446744073709551616:=by decide
  rw [this,Int.emod_eq_of_lt hm OJ]
 rw [h2] at h1
 generalize (BitVec.ofInt IntKind.u64.bits a &&& BitVec.ofInt IntKind.u64.bits m).toNat=z at h1
 exact ⟨z,by rw [aiK (by omega) (by omega)],by omega⟩
def agy(n:Nat):Bool:=(match TM (IntKind.wrap .u64 (n:Int)) with | some k=>decide (0≤k) && decide (k≤64) | none=>false) && (decide (n < 8) || match TP (n:Int) with | some M=>decide ((n:Int) < M) && decide (M≤2 * (n:Int)) | none=>false)
set_option maxRecDepth 1000000 in
theorem aHX:((List.range 1024).all agy)=true:=by decide +kernel
theorem agz{n:Nat}(h:n < 1024):(∃ k:Nat,Ad (IntKind.wrap .u64 (n:Int))=some (k:Int)∧k≤64)∧(8≤n→∃ M:Nat,DL (n:Int)=some (M:Int)∧n < M∧M≤2 * n):=by
 have:=aHX
 rw [List.all_eq_true] at this
 have h1:=this n (List.mem_range.2 h)
 simp only [agy,Bool.and_eq_true,Bool.or_eq_true,decide_eq_true_eq] at h1
 obtain ⟨h1,h2⟩:=h1
 constructor
 ·cases hc:TM (IntKind.wrap .u64 (n:Int)) with
  | none=>rw [hc] at h1; cases h1
  | some k =>
   rw [hc] at h1
   simp only [Bool.and_eq_true,decide_eq_true_eq] at h1
   exact ⟨k.toNat,by rw [Int.toNat_of_nonneg h1.1]; exact aHi _ _ hc,by omega⟩
 ·intro h8
  rcases h2 with h2 | h2
  ·omega
  ·cases hc:TP (n:Int) with
   | none=>rw [hc] at h2; cases h2
   | some M =>
    rw [hc] at h2
    simp only [Bool.and_eq_true,decide_eq_true_eq] at h2
    exact ⟨M.toNat,by rw [Int.toNat_of_nonneg (by omega)]; exact aHv _ _ hc,by omega,by omega⟩
theorem aak{n d:Nat}(h:n≤1000000000)(hd:0 < d):mF (n:Int) (d:Int)=some ((n / d:Nat):Int):=by
 unfold mF
 have:=Nat.div_le_self n d
 rw [if_neg (by omega),← Int.ofNat_tdiv]
 generalize n / d=q at this
 rw [dR (by omega) (by omega)]
abbrev kT(l:List Int):Prop:=l.length≤1000
theorem aIT{l:List Int}{a b:Nat}(hl:kT l)(cH:a≤b)(hb:b≤l.length):∃ l',xI l a b=some l'∧PermIn a b l.toArray l'.toArray:=by
 unfold xI
 have hB:=hl
 unfold kT at hB
 rw [qA (i:=b) (j:=a) (by omega) (by omega),show decide (((b - a:Nat):Int) ≥ 8)=decide (b - a ≥ 8) from I1 (j:=8)]
 by_cases h8:b - a ≥ 8
 case neg=>exact ⟨l,by rw [decide_eq_false h8,bm],permIn_refl _ _ _⟩
 rw [decide_eq_true h8,bw]
 obtain ⟨M,hM,hM1,hM2⟩:=(agz (n:=b - a) (by omega)).2 h8
 have Uu:mF ((b - a:Nat):Int) 4=some (((b - a) / 4:Nat):Int):=aak (d:=4) (by omega) (by omega)
 rw [hM,Option.bind_some,Uu,Option.bind_some]
 have e1:i64 ((((b - a) / 4:Nat):Int) * 2)=(((b - a) / 4 * 2:Nat):Int):=by rw [dR (by omega) (by omega)]; omega
 rw [e1,vw (i:=a) (j:=(b - a) / 4 * 2) (by omega) (by omega),jJ (i:=a+(b - a) / 4 * 2) (by omega) (by omega)]
 refine qD (λ s=>∃ (m:List Int) (i:Nat) (r:Int),s=(m,(i:Int),r)∧a≤i∧m.length=l.length∧PermIn a b l.toArray m.toArray) (λ s=>b - s.2.1.toNat)
  (λ o=>PermIn a b l.toArray o.toArray) ⟨l,a+(b - a) / 4 * 2 - 1,_,rfl,by omega,rfl,permIn_refl _ _ _⟩ (λ o ho=>⟨o,rfl,ho⟩) ?_
 rintro _ ⟨m,i,r,rfl,Vk,hm,hP⟩
 dsimp only
 rw [Option.bind_some,e1,vw (i:=a) (j:=(b - a) / 4 * 2) (by omega) (by omega),cK (i:=a+(b - a) / 4 * 2) (by omega),aiK (z:=(M:Int) - 1) (by omega) (by omega),FD]
 by_cases hi:i≤a+(b - a) / 4 * 2+1
 ·left
  rw [decide_eq_true hi,bw]
  obtain ⟨y,hy,_⟩:=aI9 r
  rw [hy,Option.bind_some]
  obtain ⟨z,hz,hzM⟩:=aor (a:=y) (m:=(M:Int) - 1) (by omega) (by omega)
  rw [hz,Option.bind_some,dR (z:=(z:Int)) (by omega) (by omega),I1]
  have ayd:∃ t:Nat,t < b - a∧(((ae (decide (z ≥ b - a)) (some (i64 ((z:Int) - ((b - a:Nat):Int)))) (some (z:Int))):Option Int))=some (t:Int):=by
   by_cases Ze:z ≥ b - a
   ·exact ⟨z - (b - a),by omega,by rw [decide_eq_true Ze,bw,qA (by omega) Ze]⟩
   ·exact ⟨z,by omega,by rw [decide_eq_false Ze,bm]⟩
  obtain ⟨t,ht,hte⟩:=ayd
  rw [hte,Option.bind_some,vw (i:=a) (j:=t) (by omega) (by omega)]
  refine ⟨(iA m i (a+t),((i+1:Nat):Int),y),?_,⟨_,i+1,y,rfl,by omega,by rw [mL]; exact hm,?_⟩,by simp only [Int.toNat_natCast]; omega⟩
  ·simp only [cj,bz (show i < m.length by omega),bz (show a+t < m.length by omega),Option.bind_some,Int.toNat_natCast,nC (show a+t < m.length by omega),cK (i:=i) (by omega)]
   rfl
  ·rw [nD]
   exact permIn_trans _ _ _ a b hP (swp_permIn _ a b i (a+t) Vk (by omega) (by omega) (by omega) (by simp; omega))
 ·right
  exact ⟨m,by rw [decide_eq_false hi,bm],hP⟩
theorem Pm{l:List Int}{i j:Nat}(hi:i < l.length)(hj:j < l.length)(s:Int):∃ s',rO l i j s=some (s',(i:Int),(j:Int))∨rO l i j s=some (s',(j:Int),(i:Int)):=by
 unfold rO
 simp only [cj,bz hi,bz hj,Option.bind_some,pd]
 cases ltInt (nth l j) (nth l i) with
 | true=>exact ⟨_,.inr rfl⟩
 | false=>exact ⟨_,.inl rfl⟩
theorem ZR{l:List Int}{i j k:Nat}(hi:i < l.length)(hj:j < l.length)(hk:k < l.length)(s:Int):∃ (s':Int) (p:Nat),tB l i j k s=some (s',(p:Int))∧(p=i∨p=j∨p=k):=by
 unfold tB
 have key:∀ (x y:Nat) (s:Int),x < l.length→y < l.length→(x=i∨x=j)→(y=i∨y=j)→∃ (s':Int) (p:Nat),((rO l (y:Int) (k:Int) s).bind λ gZ=>(rO l (x:Int) gZ.2.1 gZ.1).bind λ fg=>some (fg.1,fg.2.2))=some (s',(p:Int))∧(p=i∨p=j∨p=k):=by
  intro x y s hx hy gV hy1
  obtain ⟨t,ht | ht⟩:=Pm hy hk s
  ·rw [ht,Option.bind_some]
   obtain ⟨u,hu | hu⟩:=Pm hx hy t
   ·exact ⟨u,y,by rw [hu]; rfl,by omega⟩
   ·exact ⟨u,x,by rw [hu]; rfl,by omega⟩
  ·rw [ht,Option.bind_some]
   obtain ⟨u,hu | hu⟩:=Pm hx hk t
   ·exact ⟨u,k,by rw [hu]; rfl,by omega⟩
   ·exact ⟨u,x,by rw [hu]; rfl,by omega⟩
 obtain ⟨t,ht | ht⟩:=Pm hi hj s
 ·rw [ht,Option.bind_some]
  exact key i j t hi hj (.inl rfl) (.inr rfl)
 ·rw [ht,Option.bind_some]
  exact key j i t hj hi (.inr rfl) (.inl rfl)
theorem ZP{l:List Int}{i:Nat}(kZ:0 < i)(hi:i+1 < l.length)(hl:kT l)(s:Int):∃ (s':Int) (p:Nat),rN l i s=some (s',(p:Int))∧i - 1≤p∧p≤i+1:=by
 unfold rN
 unfold kT at hl
 rw [jJ (i:=i) (by omega) kZ,cK (i:=i) (by omega)]
 obtain ⟨t,p,hp,CF⟩:=ZR (l:=l) (i:=i - 1) (j:=i) (k:=i+1) (by omega) (by omega) hi s
 exact ⟨t,p,by rw [hp]; rfl,by omega,by omega⟩
theorem aIV{l:List Int}{a b:Nat}(hl:kT l)(cH:a+12 < b)(hb:b≤l.length):∃ (p:Nat) (h:Int),Ag l a b=some ((p:Int),h)∧a≤p∧p < b:=by
 unfold Ag
 have hB:=hl
 unfold kT at hB
 have Uu:mF ((b - a:Nat):Int) 4=some (((b - a) / 4:Nat):Int):=aak (d:=4) (by omega) (by omega)
 rw [qA (i:=b) (j:=a) (by omega) (by omega),Uu]
 simp only [Option.bind_some]
 have e1:i64 ((((b - a) / 4:Nat):Int) * 1)=(((b - a) / 4:Nat):Int):=by rw [dR (by omega) (by omega)]; omega
 have e2:i64 ((((b - a) / 4:Nat):Int) * 2)=(((b - a) / 4 * 2:Nat):Int):=by rw [dR (by omega) (by omega)]; omega
 have e3:i64 ((((b - a) / 4:Nat):Int) * 3)=(((b - a) / 4 * 3:Nat):Int):=by rw [dR (by omega) (by omega)]; omega
 rw [e1,e2,e3,vw (i:=a) (by omega) (by omega),vw (i:=a) (by omega) (by omega),vw (i:=a) (by omega) (by omega),show decide (((b - a:Nat):Int) ≥ 8)=true by simp; omega,bw]
 have hq:∃ (p:Nat) (h:Int),(((ae (decide (((b - a:Nat):Int) ≥ 50))
   ((rN l ((a+(b - a) / 4:Nat):Int) 0).bind λ ey =>
   (rN l ((a+(b - a) / 4 * 2:Nat):Int) ey.1).bind λ eM =>
   (rN l ((a+(b - a) / 4 * 3:Nat):Int) eM.1).bind λ dP =>
   (tB l ey.2 eM.2 dP.2 dP.1).bind λ gD =>
   some (gD.2,gD.1))
   ((tB l ((a+(b - a) / 4:Nat):Int) ((a+(b - a) / 4 * 2:Nat):Int) ((a+(b - a) / 4 * 3:Nat):Int) 0).bind λ kg =>
   some (kg.2,kg.1))):Option (Int × Int)))=some ((p:Int),h)∧a≤p∧p < b:=by
  by_cases h50:b - a ≥ 50
  ·rw [show decide (((b - a:Nat):Int) ≥ 50)=true by simp; omega,bw]
   obtain ⟨s1,p1,q1,r1,r1'⟩:=ZP (l:=l) (i:=a+(b - a) / 4) (by omega) (by omega) hl 0
   rw [q1,Option.bind_some]
   obtain ⟨s2,p2,q2,r2,r2'⟩:=ZP (l:=l) (i:=a+(b - a) / 4 * 2) (by omega) (by omega) hl s1
   rw [q2,Option.bind_some]
   obtain ⟨s3,p3,q3,r3,r3'⟩:=ZP (l:=l) (i:=a+(b - a) / 4 * 3) (by omega) (by omega) hl s2
   rw [q3,Option.bind_some]
   obtain ⟨s4,p4,q4,r4⟩:=ZR (l:=l) (i:=p1) (j:=p2) (k:=p3) (by omega) (by omega) (by omega) s3
   exact ⟨p4,s4,by rw [q4]; rfl,by omega,by omega⟩
  ·rw [show decide (((b - a:Nat):Int) ≥ 50)=false by simp; omega,bm]
   obtain ⟨s4,p4,q4,r4⟩:=ZR (l:=l) (i:=a+(b - a) / 4) (j:=a+(b - a) / 4 * 2) (k:=a+(b - a) / 4 * 3) (by omega) (by omega) (by omega) 0
   exact ⟨p4,s4,by rw [q4]; rfl,by omega,by omega⟩
 obtain ⟨p,h,hp,CF,JK⟩:=hq
 rw [hp,Option.bind_some]
 cases h == 0 with
 | true=>exact ⟨p,1,rfl,CF,JK⟩
 | false =>
  cases h == 12 with
  | true=>exact ⟨p,2,rfl,CF,JK⟩
  | false=>exact ⟨p,0,rfl,CF,JK⟩
abbrev SI(a b:Nat)(d:Array Int):Prop:=SortedIn ltInt a b d
theorem aKz:∀ (k:Nat) (l:List Int) (a b A3:Nat),kT l→A3≤100→a≤b→b≤l.length→b - a≤12 * 2 ^ k→Below ltInt a b l.toArray→∃ l',tA (k+1) l a b A3=some l'∧PermIn a b l.toArray l'.toArray∧SI a b l'.toArray:=by
 intro k
 induction k with
 | zero =>
  intro l a b A3 hl abJ cH hb hk hB
  have lx:=hl
  unfold kT at lx
  obtain ⟨t,ht,mx⟩:=agY (l:=l) (a:=a) (b:=b) (by unfold ja; omega) cH hb
  obtain ⟨h1,h2⟩:=insertionSort_holds swo_ltInt l.toArray a b cH (by simpa using hb)
  rw [← mx] at h1 h2
  refine ⟨t,?_,h1,h2⟩
  rw [tA]
  rw [gp (o:=t) (gW ?_)]
  dsimp only
  rw [qA (i:=b) (j:=a) (by omega) (by omega),show decide (((b - a:Nat):Int)≤12)=true by simp; omega,bw,ht]
  rfl
 | succ k ih =>
  intro l a b A3 hl abJ cH hb hk hB
  have lx:=hl
  unfold kT at lx
  rw [tA]
  refine qD (λ s=>∃ (m:List Int) (x y lm:Nat) (wb wp:Bool),s=(m,(x:Int),(y:Int),(lm:Int),wb,wp)∧m.length=l.length∧x≤y∧y≤l.length∧lm≤100∧y - x≤12 * 2 ^ (k+1)∧Below ltInt x y m.toArray∧∀ R,PermIn x y m.toArray R→SI x y R→PermIn a b l.toArray R∧SI a b R) (λ s=>s.2.2.1.toNat - s.2.1.toNat)
   (λ o=>PermIn a b l.toArray o.toArray∧SI a b o.toArray) ⟨l,a,b,A3,true,true,rfl,rfl,cH,hb,abJ,hk,hB,λ R h1 h2=>⟨h1,h2⟩⟩ (λ o ho=>⟨o,rfl,ho⟩) ?_
  rintro _ ⟨m,x,y,lm,wb,wp,rfl,hm,lR,hy,aYZ,hk,hB,hR⟩
  dsimp only
  have hms:m.toArray.size=l.length:=by simpa using hm
  rw [qA (i:=y) (j:=x) (by omega) (by omega),show decide (((y - x:Nat):Int)≤12)=decide (y - x≤12) from FD (j:=12)]
  by_cases h12:y - x≤12
  ·right
   obtain ⟨t,ht,mx⟩:=agY (l:=m) (a:=x) (b:=y) (by unfold ja; omega) lR (by omega)
   obtain ⟨h1,h2⟩:=insertionSort_holds swo_ltInt m.toArray x y lR (by omega)
   rw [← mx] at h1 h2
   exact ⟨t,by rw [decide_eq_true h12,bw,ht]; rfl,hR _ h1 h2⟩
  rw [decide_eq_false h12,bm,show (((lm:Nat):Int) == 0)=decide (lm=0) by rw [Bool.eq_iff_iff,beq_iff_eq,decide_eq_true_eq]; omega]
  by_cases hlm:lm=0
  ·right
   obtain ⟨t,ht,mx⟩:=aIQ (l:=m) (a:=x) (b:=y) (by unfold ja; omega) (by omega) (by omega)
   obtain ⟨h1,h2⟩:=heapSort_holds swo_ltInt m.toArray x y lR (by omega)
   rw [← mx] at h1 h2
   exact ⟨t,by rw [decide_eq_true hlm,bw,ht]; rfl,hR _ h1 h2⟩
  rw [decide_eq_false hlm,bm]
  have vi:∃ (m1:List Int) (zX:Nat),(((ae (!wb)
    ((xI m (x:Int) (y:Int)).bind λ ui =>
    some (ui,i64 ((lm:Int) - 1)))
    (some (m,(lm:Int)))):Option ((List Int) × Int)))=some (m1,(zX:Int))∧zX≤lm∧PermIn x y m.toArray m1.toArray:=by
   cases wb with
   | true=>exact ⟨m,lm,rfl,Nat.le_refl _,permIn_refl _ _ _⟩
   | false =>
    obtain ⟨t,ht,htp⟩:=aIT (l:=m) (a:=x) (b:=y) (by unfold kT; omega) lR (by omega)
    refine ⟨t,lm - 1,?_,by omega,htp⟩
    rw [Bool.not_false,bw,ht,Option.bind_some,jJ (i:=lm) (by omega) (by omega)]
  obtain ⟨m1,zX,e1,aYY,UR⟩:=vi
  rw [e1,Option.bind_some]
  have afB:m1.toArray.size=l.length:=by rw [UR.1,hms]
  have OJ:m1.length=l.length:=by simpa using afB
  have hB1:=hB.perm (by omega) UR
  obtain ⟨p,h,e2,CF,JK⟩:=aIV (l:=m1) (a:=x) (b:=y) (by unfold kT; omega) (by omega) (by omega)
  dsimp only
  rw [e2,Option.bind_some]
  have WN:∃ (m2:List Int) (p2:Nat) (h2:Int),(((ae (h == 2)
    ((xJ m1 (x:Int) (y:Int)).bind λ yn =>
    some (yn,i64 ((i64 ((y:Int) - 1)) - (i64 ((p:Int) - (x:Int)))),1))
    (some (m1,(p:Int),h))):Option ((List Int) × Int × Int)))=some (m2,(p2:Int),h2)∧x≤p2∧p2 < y∧PermIn x y m1.toArray m2.toArray:=by
   cases h == 2 with
   | false=>exact ⟨m1,p,h,rfl,CF,JK,permIn_refl _ _ _⟩
   | true =>
    obtain ⟨t,ht,mx⟩:=aIW (l:=m1) (a:=x) (b:=y) (by unfold ja; omega) (by omega) (by omega)
    have hr:=reverseRange_holds m1.toArray x y lR (by omega)
    rw [← mx] at hr
    refine ⟨t,(y - 1) - (p - x),1,?_,by omega,by omega,hr⟩
    rw [bw,ht,Option.bind_some,jJ (i:=y) (by omega) (by omega),qA (i:=p) (j:=x) (by omega) CF,qA (i:=y - 1) (j:=p - x) (by omega) (by omega)]
  obtain ⟨m2,p2,h2,e3,zO,JM,US⟩:=WN
  rw [e3,Option.bind_some]
  have afC:m2.toArray.size=l.length:=by rw [US.1,afB]
  have Me:m2.length=l.length:=by simpa using afC
  have hB2:=hB1.perm (by omega) US
  have arW:=permIn_trans _ _ _ x y UR US
  dsimp only
  have hs3:∃ c:Bool,((((ae wb (ae wp (some (h2 == 1)) (some false)) (some false)):Option Bool))=some c):=by
   cases wb with
   | false=>exact ⟨false,rfl⟩
   | true =>
    cases wp with
    | false=>exact ⟨false,rfl⟩
    | true=>exact ⟨_,rfl⟩
  obtain ⟨c,ec⟩:=hs3
  rw [ec,Option.bind_some]
  have WO:∃ m3:List Int,PermIn x y m2.toArray m3.toArray∧((((ae c
    ((vy m2 (x:Int) (y:Int)).bind λ nI =>
    ae nI.2
    (some (.inr nI.1))
    (some (.inl nI.1)))
    (some (.inl m2))):Option ((List Int) ⊕ (List Int))))=some (.inr m3)∧SI x y m3.toArray∨(((ae c
    ((vy m2 (x:Int) (y:Int)).bind λ nI =>
    ae nI.2
    (some (.inr nI.1))
    (some (.inl nI.1)))
    (some (.inl m2))):Option ((List Int) ⊕ (List Int))))=some (.inl m3)):=by
   cases c with
   | false=>exact ⟨m2,permIn_refl _ _ _,.inr rfl⟩
   | true =>
    obtain ⟨t,ht,mx⟩:=aIY (l:=m2) (a:=x) (b:=y) (by unfold ja; omega) (by omega) (by omega)
    have F0:=partialInsertionSort_holds swo_ltInt m2.toArray x y (by omega) (by omega) hB2
    rw [← mx] at F0
    refine ⟨t,F0.1,?_⟩
    rw [bw,ht,Option.bind_some]
    cases bD:(partialInsertionSort ltInt m2.toArray x y).2 with
    | true=>exact .inl ⟨rfl,F0.2 bD⟩
    | false=>exact .inr rfl
  obtain ⟨m3,UT,WO⟩:=WO
  have Oj:=permIn_trans _ _ _ x y arW UT
  have axD:m3.toArray.size=l.length:=by rw [UT.1,afC]
  have hm3:m3.length=l.length:=by simpa using axD
  have hB3:=hB2.perm (by omega) UT
  rcases WO with ⟨e4,hS⟩ | e4
  ·right
   rw [e4]
   exact ⟨m3,rfl,hR _ Oj hS⟩
  rw [e4,Option.bind_some,Sum.elim_inl]
  have hs5:(((ae (decide ((x:Int) > 0))
    ((idx m3 (i64 ((x:Int) - 1))).bind λ EA =>
    (idx m3 (p2:Int)).bind λ EB =>
    (fB EA EB).bind λ Hp =>
    some (!Hp))
    (some false)):Option Bool))=some (decide (0 < x) && !ltInt m3.toArray[x - 1]! m3.toArray[p2]!):=by
   by_cases s8:0 < x
   ·simp only [T4 s8,bw,jJ (i:=x) (by omega) s8,cj,bz (show x - 1 < m3.length by omega),bz (show p2 < m3.length by omega),Option.bind_some,pd,decide_eq_true s8,Bool.true_and,jz]
   ·simp only [apf s8,bm,decide_eq_false s8,Bool.false_and]
  rw [hs5,Option.bind_some]
  by_cases yp:(decide (0 < x) && !ltInt m3.toArray[x - 1]! m3.toArray[p2]!)=true
  ·left
   obtain ⟨t,ht,mx⟩:=aI0 (l:=m3) (a:=x) (b:=y) (p:=p2) (by unfold ja; omega) zO JM (by omega)
   rw [yp,bw,ht,Option.bind_some]
   simp only [Bool.and_eq_true,decide_eq_true_eq,Bool.not_eq_true'] at yp
   have hre:=round_eq swo_ltInt (partitionEqual_holds ltInt) (d3:=m3.toArray) (d4:=t.toArray) (mid:=(partitionEqual ltInt m3.toArray x y p2).1) yp.1 zO JM (by omega) hB3 yp.2 (by rw [mx])
   generalize (partitionEqual ltInt m3.toArray x y p2).1=mid at hre
   obtain ⟨g1,g2,g3,g4,g5⟩:=hre
   have Ki:t.length=l.length:=by
    have:t.toArray.size=t.length:=by simp
    omega
   exact ⟨_,rfl,⟨t,mid,y,zX,wb,wp,rfl,Ki,g2,hy,by omega,by omega,g4,λ R r1 r2=>by
    obtain ⟨q1,q2⟩:=g5 R r1 r2
    exact hR R (permIn_trans _ _ _ x y Oj q1) q2⟩,by simp only [Int.toNat_natCast]; omega⟩
  ·have yp:(decide (0 < x) && !ltInt m3.toArray[x - 1]! m3.toArray[p2]!)=false:=by simpa using yp
   left
   obtain ⟨t,ht,mx⟩:=aI2 (l:=m3) (a:=x) (b:=y) (p:=p2) (by unfold ja; omega) zO JM (by omega)
   rw [yp,bm,ht,Option.bind_some,show mF ((y - x:Nat):Int) 8=some (((y - x) / 8:Nat):Int) from aak (d:=8) (by omega) (by omega),Option.bind_some]
   have WM:=round_part swo_ltInt (partition_holds ltInt) (d3:=m3.toArray) (d4:=t.toArray) (mid:=(partition ltInt m3.toArray x y p2).1) (ap:=(partition ltInt m3.toArray x y p2).2.1) zO JM (by omega) hB3 (by rw [mx])
   generalize (partition ltInt m3.toArray x y p2).1=mid at WM
   generalize (partition ltInt m3.toArray x y p2).2.1=ap at WM
   obtain ⟨g1,g2,g3,g4,g5,g6,g7⟩:=WM
   have Ki:t.length=l.length:=by
    have:t.toArray.size=t.length:=by simp
    omega
   dsimp only
   rw [qA (i:=mid) (j:=x) (by omega) g1,qA (i:=y) (j:=mid) (by omega) (by omega),oY,cK (i:=mid) (by omega)]
   have h2k:2 ^ (k+1)=2 * 2 ^ k:=by rw [Nat.pow_succ]; omega
   by_cases br:mid - x < y - mid
   ·obtain ⟨u,hu,Kj,Kk⟩:=ih t x mid zX (by unfold kT; omega) (by omega) g1 (by omega) (by omega) g4
    rw [decide_eq_true br,bw,hu,Option.bind_some]
    obtain ⟨UI,VP⟩:=g6 _ Kj Kk
    have Ye:u.length=l.length:=by
     have h1:u.toArray.size=u.length:=by simp
     have h2:=Kj.1
     omega
    exact ⟨_,rfl,⟨u,mid+1,y,zX,_,_,rfl,Ye,by omega,hy,by omega,by omega,UI,λ R r1 r2=>by
     obtain ⟨q1,q2⟩:=VP R r1 r2
     exact hR R (permIn_trans _ _ _ x y Oj q1) q2⟩,by simp only [Int.toNat_natCast]; omega⟩
   ·obtain ⟨u,hu,Kj,Kk⟩:=ih t (mid+1) y zX (by unfold kT; omega) (by omega) (by omega) (by omega) (by omega) g5
    rw [decide_eq_false br,bm,hu,Option.bind_some]
    obtain ⟨UI,VP⟩:=g7 _ Kj Kk
    have Ye:u.length=l.length:=by
     have h1:u.toArray.size=u.length:=by simp
     have h2:=Kj.1
     omega
    exact ⟨_,rfl,⟨u,x,mid,zX,_,_,rfl,Ye,g1,by omega,by omega,by omega,UI,λ R r1 r2=>by
     obtain ⟨q1,q2⟩:=VP R r1 r2
     exact hR R (permIn_trans _ _ _ x y Oj q1) q2⟩,by simp only [Int.toNat_natCast]; omega⟩
theorem aIr{l:List Int}(hl:kT l):∃ l',z9 l=some l'∧l'.Perm l∧l'.Pairwise (·≤·):=by
 have lx:=hl
 unfold kT at lx
 obtain ⟨⟨k,hk,hk1⟩,_⟩:=agz (n:=l.length) (by omega)
 obtain ⟨t,ht,h1,h2⟩:=aKz 11 l 0 l.length k hl (by omega) (Nat.zero_le _) (Nat.le_refl _) (by omega) (.inl rfl)
 unfold z9
 rw [hk,Option.bind_some]
 refine ⟨t,by rw [show (0:Int)=((0:Nat):Int) from rfl,ht]; rfl,?_,?_⟩
 ·have h3:=h1.2.2
  have hts:t.length=l.length:=by have:=h1.1; simpa using this
  rw [show t.toArray.extract 0 l.length=t.toArray by rw [← hts]; simp,show l.toArray.extract 0 l.length=l.toArray by simp] at h3
  simpa using h3
 ·have hts:t.length=l.length:=by have:=h1.1; simpa using this
  rw [List.pairwise_iff_getElem]
  intro i j hi hj ew
  have h4:=h2 i j (Nat.zero_le _) ew (by omega)
  rw [jz,jz] at h4
  have e1:=bz hi
  have e2:=bz hj
  rw [List.getElem?_eq_getElem hi] at e1
  rw [List.getElem?_eq_getElem hj] at e2
  rw [Option.some.inj e1,Option.some.inj e2]
  unfold ltInt at h4
  have:=of_decide_eq_false h4
  omega
end Go.Proofs.YtabamagholjdcaaGreatDoor
namespace Go.Proofs.YtabamagholjdcaaGreatDoor
open Go.Lg Go.Proofs
set_option maxRecDepth 10000
theorem abv:∀ (l m:List Int),l.Pairwise (· < ·)→m.Pairwise (· < ·)→(∀ x,x∈l↔x∈m)→l=m
 | [],[],_,_,_=>rfl
 | [],b::m,_,_,h=>by have:=(h b).2 (by simp); cases this
 | a::l,[],_,_,h=>by have:=(h a).1 (by simp); cases this
 | a::l,b::m,hl,hm,h=>by
  rw [List.pairwise_cons] at hl hm
  have cH:a=b:=by
   rcases List.mem_cons.1 ((h a).1 (by simp)) with h1 | h1
   ·exact h1
   ·rcases List.mem_cons.1 ((h b).2 (by simp)) with h2 | h2
    ·exact h2.symm
    ·have h3:=hm.1 a h1
     have h4:=hl.1 b h2
     omega
  subst cH
  rw [abv l m hl.2 hm.2 λ x=>?_]
  constructor
  ·intro hx
   rcases List.mem_cons.1 ((h x).1 (by simp [hx])) with h1 | h1
   ·have:=hl.1 x hx; omega
   ·exact h1
  ·intro hx
   rcases List.mem_cons.1 ((h x).2 (by simp [hx])) with h1 | h1
   ·have:=hm.1 x hx; omega
   ·exact h1
def jV(l:List Int):Nat→List Int
 | 0=>[]
 | k+1=>if k=0∨nth l k≠nth l (k - 1) then jV l k++[nth l k] else jV l k
theorem T3(l:List Int):∀ (k:Nat) (x:Int),x∈jV l k↔∃ i,i < k∧nth l i=x
 | 0,x=>by simp [jV]
 | k+1,x=>by
  have ih:=T3 l k x
  simp only [jV]
  have h1:(∃ i,i < k+1∧nth l i=x)↔(∃ i,i < k∧nth l i=x)∨nth l k=x:=by
   constructor
   ·rintro ⟨i,hi,hx⟩
    by_cases zD:i=k
    ·subst zD; exact .inr hx
    ·exact .inl ⟨i,by omega,hx⟩
   ·rintro (⟨i,hi,hx⟩ | hx)
    ·exact ⟨i,by omega,hx⟩
    ·exact ⟨k,by omega,hx⟩
  rw [h1]
  split
  ·rw [List.mem_append,ih,List.mem_singleton]
   constructor <;> rintro (h | h) <;> simp [h]
  ·rename_i hn
   have hk:k≠0∧nth l k=nth l (k - 1):=by
    constructor
    ·exact λ h=>hn (.inl h)
    ·exact Classical.byContradiction λ h=>hn (.inr h)
   rw [ih]
   constructor
   ·exact .inl
   ·rintro (h | h)
    ·exact h
    ·exact ⟨k - 1,by omega,by rw [← hk.2,h]⟩
theorem aaw{l:List Int}(hs:l.Pairwise (·≤·)){i j:Nat}(ew:i < j)(hj:j < l.length):nth l i≤nth l j:=by
 rw [List.pairwise_iff_getElem] at hs
 have h:=hs i j (by omega) hj ew
 have e1:=bz (show i < l.length by omega)
 have e2:=bz hj
 rw [List.getElem?_eq_getElem (by omega)] at e1 e2
 rw [← Option.some.inj e1,← Option.some.inj e2]
 exact h
theorem ad4{l:List Int}(hs:l.Pairwise (·≤·)):∀ k,k≤l.length→(jV l k).Pairwise (· < ·)
 | 0,_=>by simp [jV]
 | k+1,hk=>by
  have ih:=ad4 hs k (by omega)
  simp only [jV]
  split
  ·rename_i h
   rw [List.pairwise_append]
   refine ⟨ih,by simp,λ x hx y hy=>?_⟩
   rw [List.mem_singleton] at hy
   subst hy
   obtain ⟨i,hi,rfl⟩:=(T3 l k x).1 hx
   rcases h with h | h
   ·omega
   ·have h1:=aaw hs (show k - 1 < k by omega) (by omega)
    have h2:nth l i≤nth l (k - 1):=by
     rcases Nat.lt_or_ge i (k - 1) with h3 | h3
     ·exact aaw hs h3 (by omega)
     ·rw [show i=k - 1 by omega]; exact Int.le_refl _
    omega
  ·exact ih
theorem TZ{l:List Int}:∀ k,k≤l.length→(∀ i,1≤i→i < k→nth l i≠nth l (i - 1))→jV l k=l.take k
 | 0,_,_=>by simp [jV]
 | k+1,hk,h=>by
  rw [jV,if_pos (by
   by_cases h0:k=0
   ·exact .inl h0
   ·exact .inr (h k (by omega) (by omega))),TZ k (by omega) (λ i h1 h2=>h i h1 (by omega)),List.take_add_one,bz (by omega)]
  rfl
theorem ad6{m:List Int}{a i:Nat}(h:a+i < m.length):(m.drop a)[i]? = some (nth m (a+i)):=by
 rw [List.getElem?_drop,bz h]
theorem aJS{m:List Int}{w i:Nat}{x:Int}(h:w≠i):nth (m.set w x) i=nth m i:=by
 unfold nth
 rw [List.getD_eq_getElem?_getD,List.getD_eq_getElem?_getD,List.getElem?_set_ne h]
theorem take_set{m:List Int}{w:Nat}{x:Int}(h:w < m.length):(m.set w x).take (w+1)=m.take w++[x]:=by
 rw [List.take_add_one,List.getElem?_set_self h,List.take_set_of_le (Nat.le_refl _)]
 rfl
theorem aIt{l:List Int}(hl:kT l)(hs:l.Pairwise (·≤·)):∃ d,Aa l=some d∧d.Pairwise (· < ·)∧∀ x,x∈d↔x∈l:=by
 have hB:=hl
 unfold kT at hB
 have hdd:(jV l l.length).Pairwise (· < ·)∧∀ x,x∈jV l l.length↔x∈l:=by
  refine ⟨ad4 hs _ (Nat.le_refl _),λ x=>?_⟩
  rw [T3]
  constructor
  ·rintro ⟨i,hi,rfl⟩; exact iZ hi
  ·intro hx; exact Bp hx
 unfold Aa
 rw [show decide ((l.length:Int) < 2)=decide (l.length < 2) from oY (j:=2)]
 by_cases h2:l.length < 2
 ·rw [decide_eq_true h2,bw]
  refine ⟨l,rfl,?_,λ _=>Iff.rfl⟩
  match l,h2 with
  | [],_=>simp
  | [_],_=>simp
  | _::_::r,h=>exact absurd h (by simp only [List.length_cons]; omega)
 rw [decide_eq_false h2,bm]
 suffices hx:∃ z:List Int,_=some z∧z=jV l l.length by
  obtain ⟨z,hz,rfl⟩:=hx
  exact ⟨_,hz,hdd⟩
 refine qD (λ s=>∃ k:Nat,s=(k:Int)∧1≤k∧k≤l.length∧∀ i,1≤i→i < k→nth l i≠nth l (i - 1)) (λ s=>l.length - s.toNat) (λ o=>o = .inl ()∧(∀ i,1≤i→i < l.length→nth l i≠nth l (i - 1))∨o = .inr (jV l l.length)) ⟨1,rfl,Nat.le_refl _,by omega,λ i h1 h2=>by omega⟩ (λ o ho=>?_) ?_
 ·rcases ho with ⟨rfl,h⟩ | rfl
  ·exact ⟨l,rfl,by rw [TZ _ (Nat.le_refl _) h,List.take_length]⟩
  ·exact ⟨_,rfl,rfl⟩
 ·rintro _ ⟨k,rfl,hk1,jm,hk⟩
  rw [oY]
  by_cases Wc:k < l.length
  ·rw [decide_eq_true Wc,bw,jJ (i:=k) (by omega) hk1]
   simp only [cj,bz Wc,bz (show k - 1 < l.length by omega),Option.bind_some]
   by_cases hd:nth l k=nth l (k - 1)
   ·right
    rw [show (nth l k == nth l (k - 1))=true by simpa using hd,bw,show gQ l (k:Int) (l.length:Int)=some (l.drop k) by simp [gQ]; omega,Option.bind_some]
    suffices hx:∃ z:Int ⊕ (Unit ⊕ List Int),_=some z∧z = .inr (.inr (jV l l.length)) by
     obtain ⟨z,hz,rfl⟩:=hx
     exact ⟨_,hz,.inr rfl⟩
    refine qD (λ s=>∃ (m:List Int) (w q:Nat),s=(m,(w:Int),(q:Int))∧m.length=l.length∧1≤q∧w+1≤k+q∧k+q≤l.length∧(∀ i,k+q - 1≤i→nth m i=nth l i)∧m.take w=jV l (k+q)) (λ s=>l.length - s.2.2.toNat)
     (λ o=>∃ (m:List Int) (w:Nat),o=(m,(w:Int))∧m.length=l.length∧w≤l.length∧m.take w=jV l l.length) ⟨l,k,1,rfl,rfl,Nat.le_refl _,by omega,by omega,λ _ _=>rfl,by
      rw [jV,if_neg (λ h=>h.elim (λ h=>by omega) (λ h=>h hd))]
      exact (TZ k jm hk).symm⟩ (λ o ho=>?_) ?_
    ·obtain ⟨m,w,rfl,hm,hw,ht⟩:=ho
     dsimp only
     rw [Int.toNat_natCast,show gQ m (w:Int) (m.length:Int)=some (m.drop w) by simp [gQ]; omega,Option.bind_some,show gQ (qc m w) 0 (w:Int)=some (m.take w) from by
      have ga:(qc m w).length=m.length:=by simp [qc]; omega
      have:(qc m w).take w=m.take w:=by
       unfold qc
       rw [List.take_append_of_le_length (by simp; omega),List.take_take,Nat.min_self]
      rw [← this]
      exact Md (by omega),Option.bind_some,ht]
     exact ⟨_,rfl,rfl⟩
    ·rintro _ ⟨m,w,q,rfl,hm,zO,hwq,hkq,OK,ht⟩
     dsimp only
     rw [Int.toNat_natCast,List.length_drop,hm,oY]
     by_cases Mf:q < l.length - k
     ·left
      rw [decide_eq_true Mf,bw,jJ (i:=q) (by omega) (by omega)]
      simp only [cj,ad6 (m:=m) (a:=k) (i:=q) (by omega),ad6 (m:=m) (a:=k) (i:=q - 1) (by omega),Option.bind_some]
      rw [OK (k+q) (by omega),show k+(q - 1)=k+q - 1 by omega,OK (k+q - 1) (by omega)]
      by_cases b7:nth l (k+q)=nth l (k+q - 1)
      ·rw [show (nth l (k+q) != nth l (k+q - 1))=false by simpa using b7,bm,cK (i:=q) (by omega)]
       refine ⟨_,rfl,⟨m,w,q+1,rfl,hm,by omega,by omega,by omega,λ i hi=>OK i (by omega),?_⟩,by simp only [Int.toNat_natCast]; omega⟩
       rw [ht,show k+(q+1)=(k+q)+1 by omega,jV,if_neg (λ h=>h.elim (λ h=>by omega) (λ h=>h b7))]
      ·rw [show (nth l (k+q) != nth l (k+q - 1))=true by simpa using b7,bw]
       simp only [bz (show w < m.length by omega),Option.bind_some,cK (i:=q) (by omega),cK (i:=w) (by omega),Int.toNat_natCast]
       refine ⟨_,rfl,⟨m.set w (nth l (k+q)),w+1,q+1,rfl,by simpa using hm,by omega,by omega,by omega,λ i hi=>?_,?_⟩,by simp only [Int.toNat_natCast]; omega⟩
       ·rw [aJS (by omega)]; exact OK i (by omega)
       ·rw [take_set (by omega),ht,show k+(q+1)=(k+q)+1 by omega,jV,if_pos (.inr b7)]
     ·right
      rw [decide_eq_false Mf,bm]
      exact ⟨(m,(w:Int)),rfl,m,w,rfl,hm,by omega,by rw [ht,show k+q=l.length by omega]⟩
   ·left
    rw [show (nth l k == nth l (k - 1))=false by simpa using hd,bm,cK (i:=k) (by omega)]
    refine ⟨_,rfl,⟨k+1,rfl,by omega,by omega,λ i h1 h2=>?_⟩,by simp only [Int.toNat_natCast]; omega⟩
    by_cases zD:i=k
    ·subst zD; exact hd
    ·exact hk i h1 (by omega)
  ·right
   rw [decide_eq_false Wc,bm]
   exact ⟨.inl (),rfl,.inl ⟨rfl,λ i h1 h2=>hk i h1 (by omega)⟩⟩
theorem Sv{p:Int→Bool}{x:Int}:∀ {l:List Int},x∈l.takeWhile p→p x=true
 | [],h=>by cases h
 | a::l,h=>by
  by_cases ha:p a=true
  ·rw [List.takeWhile_cons_of_pos ha] at h
   rcases List.mem_cons.1 h with rfl | h
   ·exact ha
   ·exact Sv h
  ·rw [List.takeWhile_cons_of_neg ha] at h
   cases h
def pP(acc:List Int)(x:Int):List Int:=if x∈acc then acc else acc.takeWhile (λ y=>decide (y < x))++x::acc.dropWhile (λ y=>decide (y < x))
def jw(l:List Int):List Int:=l.foldl pP []
theorem aGZ{acc:List Int}(h:acc.Pairwise (· < ·))(x:Int):(pP acc x).Pairwise (· < ·)∧∀ y,y∈pP acc x↔y∈acc∨y=x:=by
 unfold pP
 split
 ·rename_i hx
  refine ⟨h,λ y=>?_⟩
  constructor
  ·exact .inl
  ·rintro (h | rfl)
   ·exact h
   ·exact hx
 ·rename_i hx
  have e:acc=acc.takeWhile (λ y=>decide (y < x))++acc.dropWhile (λ y=>decide (y < x)):=(List.takeWhile_append_dropWhile).symm
  have h1:∀ y∈acc.takeWhile (λ y=>decide (y < x)),y < x:=λ y hy=>by simpa using Sv hy
  have h2:∀ y∈acc.dropWhile (λ y=>decide (y < x)),x < y:=by
   intro y hy
   have hp:(acc.dropWhile (λ y=>decide (y < x))).Pairwise (· < ·):=List.Pairwise.sublist (List.dropWhile_sublist _) h
   cases hd:acc.dropWhile (λ y=>decide (y < x)) with
   | nil=>rw [hd] at hy; cases hy
   | cons a r =>
    have ha:¬ a < x:=by
     have:=List.head_dropWhile_not (λ y=>decide (y < x)) (l:=acc) (by rw [hd]; simp)
     simp only [hd,List.head_cons] at this
     simpa using this
    have Jn:a≠x:=λ Jn=>hx (by rw [← Jn]; exact (List.dropWhile_sublist _).subset (by rw [hd]; simp))
    rw [hd] at hy hp
    rw [List.pairwise_cons] at hp
    rcases List.mem_cons.1 hy with rfl | hy
    ·omega
    ·have:=hp.1 y hy; omega
  constructor
  ·rw [List.pairwise_append,List.pairwise_cons]
   refine ⟨List.Pairwise.sublist (List.takeWhile_sublist _) h,⟨h2,List.Pairwise.sublist (List.dropWhile_sublist _) h⟩,λ y hy z hz=>?_⟩
   have:=h1 y hy
   rcases List.mem_cons.1 hz with rfl | hz
   ·exact this
   ·have:=h2 z hz; omega
  ·intro y
   rw [List.mem_append,List.mem_cons]
   conv=>rhs; rw [e,List.mem_append]
   constructor
   ·rintro (h | h | h) <;> simp [h]
   ·rintro ((h | h) | h) <;> simp [h]
theorem RD:∀ (l acc:List Int),acc.Pairwise (· < ·)→(l.foldl pP acc).Pairwise (· < ·)∧∀ y,y∈l.foldl pP acc↔y∈acc∨y∈l
 | [],acc,h=>⟨h,λ y=>by simp⟩
 | x::l,acc,h=>by
  obtain ⟨h1,h2⟩:=aGZ h x
  obtain ⟨h3,h4⟩:=RD l (pP acc x) h1
  refine ⟨h3,λ y=>?_⟩
  rw [List.foldl_cons,h4,h2,List.mem_cons]
  constructor
  ·rintro ((h | h) | h) <;> simp [h]
  ·rintro (h | h | h) <;> simp [h]
theorem Rs(l:List Int):(jw l).Pairwise (· < ·):=(RD l [] (by simp)).1
theorem HY(l:List Int)(y:Int):y∈jw l↔y∈l:=by
 have:=(RD l [] (by simp)).2 y
 simpa [jw] using this
theorem aG0(acc:List Int)(x:Int):(pP acc x).length≤acc.length+1:=by
 unfold pP
 split
 ·omega
 ·have:=congrArg List.length (List.takeWhile_append_dropWhile (p:=λ y=>decide (y < x)) (l:=acc))
  simp only [List.length_append,List.length_cons] at this ⊢
  omega
theorem abU:∀ (l acc:List Int),(l.foldl pP acc).length≤acc.length+l.length
 | [],acc=>by simp
 | x::l,acc=>by
  have h1:=abU l (pP acc x)
  have h2:=aG0 acc x
  rw [List.foldl_cons,List.length_cons]
  omega
theorem abD(l:List Int):(jw l).length≤l.length:=by
 have:=abU l []
 simpa [jw] using this
theorem acp{b:aj}(hv:Valid b){f:bt→Option Int}{g:cR→Int}(hf:∀ c∈bJ b,f (mS c)=some (g c)):xD (RB b) f=some (jw ((bJ b).map g)):=by
 unfold xD
 have ga:=A7 hv
 refine (gp (o:=(bJ b).map g) ?_).trans ?_
 ·have e0:(([]:List Int),(0:Int))=(λ q:Nat=>(((bJ b).take q).map g,(q:Int))) 0:=rfl
  rw [e0]
  refine tv (λ q:Nat=>(((bJ b).take q).map g,(q:Int))) (bJ b).length (λ q hq=>?_) (by simp only [List.length_map,fh,bm,List.take_length])
  have hc:(bJ b)[q]∈bJ b:=List.getElem_mem hq
  simp only [List.length_map,dec_lt hq,bw,cj,List.getElem?_map,List.getElem?_eq_getElem hq,Option.map_some,Option.bind_some,hf _ hc,cK (i:=q) (by omega)]
  rw [mb (by simp; omega),Option.bind_some,List.take_succ_eq_append_getElem hq,List.map_append]
  rfl
 ·obtain ⟨t,ht,hp,hs⟩:=aIr (l:=(bJ b).map g) (by unfold kT; rw [List.length_map]; omega)
  obtain ⟨d,hd,h1,h2⟩:=aIt (l:=t) (by unfold kT; rw [hp.length_eq,List.length_map]; omega) hs
  rw [ht,Option.bind_some,hd,Option.bind_some,abv d (jw ((bJ b).map g)) h1 (Rs _) λ x=>by rw [h2,hp.mem_iff,HY]]
end Go.Proofs.YtabamagholjdcaaGreatDoor
namespace Go.Proofs.YtabamagholjdcaaGreatDoor
open Go.Lg Go.Proofs
set_option maxRecDepth 10000
def Sl(b:aj)(p:Nat):List Int:=jw ((bJ b).map λ c=>nth c.eU p)
def Mm(b:aj)(p:Int):List Int × Int:=if cY b≠0 then ([],cY b) else if ln b p=false then ([],6) else if bJ b=[] then ([],9) else (Sl b p.toNat,0)
theorem aJr{b:aj}(hs:Small b)(p:Int):pN b p=some (Mm b p):=by
 unfold pN Mm
 rw [My hs (own:=if ln b p=false then 6 else 0) (λ _=>by
  unfold EI
  rw [agI hs,Option.bind_some]
  cases ln b p <;> rfl),Option.bind_some]
 unfold EZ
 by_cases h1:cY b=0
 ·have hv:=r7 hs h1
  have h5:=hv.n5
  simp only [h1,ne_eq,not_true_eq_false,if_false]
  cases hp:ln b p with
  | false=>rfl
  | true =>
   simp only [Bool.true_eq_false,if_false,not_true_eq_false]
   by_cases h3:bJ b=[]
   ·rw [if_pos h3,if_pos h3]; rfl
   ·rw [if_neg h3,if_neg h3]
    simp only [bne_self_eq_false,bm]
    have F0:=yE.1 hp
    rw [acp hv (g:=λ c=>nth c.eU p.toNat) (λ c hc=>?_)]
    ·rfl
    ·obtain ⟨k,rfl⟩:∃ k:Nat,p=(k:Int):=⟨p.toNat,by omega⟩
     have hl:=(Q8 hv hc).1
     unfold EJ mS
     rw [cj,bz (by rw [NV (by omega)]; omega),Option.bind_some,Sw (by omega) (by omega),Int.toNat_natCast]
 ·simp only [h1,ne_eq,not_false_eq_true,if_true,ly h1,bw]
theorem aoA{l:List Int}(h:l.Pairwise (· < ·))(b7:l≠[]):nth l 0∈l∧nth l (l.length - 1)∈l∧∀ x∈l,nth l 0≤x∧x≤nth l (l.length - 1):=by
 have hl:=List.length_pos_iff.2 b7
 refine ⟨iZ hl,iZ (by omega),λ x hx=>?_⟩
 obtain ⟨i,hi,rfl⟩:=Bp hx
 have hle:∀ i j,i≤j→j < l.length→nth l i≤nth l j:=λ i j ew hj=>by
  rcases Nat.lt_or_ge i j with h1 | h1
  ·exact aaw (h.imp (λ h=>by omega)) h1 hj
  ·rw [show i=j by omega]; exact Int.le_refl _
 exact ⟨hle 0 i (by omega) hi,hle i _ (by omega) (by omega)⟩
def tD(b:aj)(out:List Int):List Int:=jw ((bJ b).map λ c=>eF b c out)
def rK(b:aj)(out:List Int):Int:=nth (tD b out) 0
def rC(b:aj)(out:List Int):Int:=nth (tD b out) ((tD b out).length - 1)
theorem ag5{b:aj}{out:List Int}(h3:bJ b≠[]):tD b out≠[]:=by
 intro h
 cases hc:bJ b with
 | nil=>exact h3 hc
 | cons c l =>
  have:=(HY ((bJ b).map λ c=>eF b c out) (eF b c out)).2 (by rw [hc]; simp)
  unfold tD at h
  rw [h] at this
  cases this
theorem ajE{b:aj}{out:List Int}(h3:bJ b≠[]):(∃ c∈bJ b,eF b c out=rK b out)∧(∃ c∈bJ b,eF b c out=rC b out)∧∀ c∈bJ b,rK b out≤eF b c out∧eF b c out≤rC b out:=by
 obtain ⟨h1,h2,h4⟩:=aoA (Rs ((bJ b).map λ c=>eF b c out)) (ag5 h3)
 have hm:∀ x,x∈jw ((bJ b).map λ c=>eF b c out)↔∃ c∈bJ b,eF b c out=x:=λ x=>by rw [HY,List.mem_map]
 exact ⟨(hm _).1 h1,(hm _).1 h2,λ c hc=>h4 _ ((hm _).2 ⟨c,hc,rfl⟩)⟩
def Bx(b:aj)(out:List Int):Reach × Int :=
 if cY b≠0 then (⟨0,0⟩,cY b) else if kQ out (b.ao.length:Int)≠0 then (⟨0,0⟩,kQ out (b.ao.length:Int)) else if bJ b=[] then (⟨0,0⟩,9) else (⟨rK b out,rC b out⟩,0)
theorem ak4{b:aj}(hs:Small b){out:List Int}(ho:out.length≤100):ov b out=some (Bx b out):=by
 have hp:=hs.pieces
 unfold ov Bx Bj
 rw [Option.bind_some,My hs (own:=kQ out (b.ao.length:Int)) (λ _=>by unfold pQ; rw [abQ (by omega) (by omega) (by omega)]; rfl),Option.bind_some]
 unfold EZ
 by_cases h1:cY b=0
 ·have hv:=r7 hs h1
  have h5:=hv.n5
  have ga:=A7 hv
  simp only [h1,ne_eq,not_true_eq_false,if_false]
  by_cases h2:kQ out (b.ao.length:Int)=0
  ·simp only [h2,not_true_eq_false,if_false]
   by_cases h3:bJ b=[]
   ·rw [if_pos h3,if_pos h3]; rfl
   ·rw [if_neg h3,if_neg h3]
    simp only [bne_self_eq_false,bm]
    have v9:qU out:=λ x hx=>by have:=abX h2 x hx; omega
    rw [acp hv (g:=λ c=>eF b c out) (λ c hc=>by
     unfold Dz
     rw [Mc v9 (by omega),Option.bind_some]
     dsimp only
     rw [abO hv hc]
     rfl),Option.bind_some]
    have b7:=ag5 (out:=out) h3
    have hl:=List.length_pos_iff.2 b7
    have hle:=abD ((bJ b).map λ c=>eF b c out)
    rw [List.length_map] at hle
    rw [show jw ((bJ b).map λ c=>eF b c out)=tD b out from rfl] at hle ⊢
    rw [jJ (i:=(tD b out).length) (by omega) hl,cj,bz (show (tD b out).length - 1 < (tD b out).length by omega),show idx (tD b out) 0=some (nth (tD b out) 0) from bz hl]
    rfl
  ·simp only [h2,not_false_eq_true,if_true,ly h2,bw]
 ·simp only [h1,ne_eq,not_false_eq_true,if_true,ly h1,bw]
theorem a7d{b:aj}(hs:Small b)(p:Int):(Mm b p).1.length≤1000000:=by
 unfold Mm
 by_cases h1:cY b=0
 ·have:=A7 (r7 hs h1)
  have h2:=abD ((bJ b).map λ c=>nth c.eU p.toNat)
  rw [List.length_map] at h2
  rw [if_neg (by simpa using h1)]
  split
  ·simp
  ·split
   ·simp
   ·show (jw _).length≤_; omega
 ·rw [if_pos h1]; simp
end Go.Proofs.YtabamagholjdcaaGreatDoor
namespace Go.Proofs.YtabamagholjdcaaGreatDoor
open Go.Lg Go.Proofs
set_option maxRecDepth 10000
def aNL(x P:Nat):Bool:=match c49 (x:Int) (P:Int) with
 | some out=>kQ out P == 0 && decide (out.length≤20)
 | none=>false
set_option maxRecDepth 1000000 in
theorem aPO:((List.range 256).all λ x=>(List.range 6).all λ P=>aNL x P)=true:=by decide +kernel
theorem aPN{x P:Nat}(hx:x < 256)(hP:P < 6):∃ out,yv (x:Int) (P:Int)=some out∧kQ out (P:Int)=0∧out.length≤20:=by
 have h:=aPO
 rw [List.all_eq_true] at h
 have h:=h x (List.mem_range.2 hx)
 rw [List.all_eq_true] at h
 have h:=h P (List.mem_range.2 hP)
 unfold aNL at h
 cases hc:c49 (x:Int) (P:Int) with
 | none=>rw [hc] at h; cases h
 | some out =>
  rw [hc] at h
  simp only [Bool.and_eq_true,beq_iff_eq,decide_eq_true_eq] at h
  exact ⟨out,aN8 _ _ _ hc,h.1,h.2⟩
end Go.Proofs.YtabamagholjdcaaGreatDoor
namespace Go.Proofs.YtabamagholjdcaaGreatDoor
open Go.Lg Go.Proofs
set_option maxRecDepth 10000
def tP(q:cE):cE:=⟨q.Name,-q.dJ,⟨q.Weight.ai,q.Weight.ak⟩,q.On⟩
def tH(x:bV):bV:=⟨x.dd,if x.dM=0 then 0 else 3 - x.dM⟩
def pK(b:aj):aj:=⟨b.aB,⟨-b.aa.ak,-b.aa.ai⟩,b.ao.map tP,b.Out,b.aT.map tH⟩
def neg(c:cR):cR:=⟨-c.aa,c.eU⟩
theorem a72{α β:Type}[Inhabited α][Inhabited β](f:α→β){l:List α}{i:Nat}(h:i < l.length):nth (l.map f) i=f (nth l i):=by
 have h1:=bz (l:=l.map f) (i:=i) (by simpa using h)
 rw [List.getElem?_map,bz h] at h1
 exact (Option.some.inj h1).symm
theorem all_congr{n:Nat}{f g:Nat→Bool}(h:∀ i,i < n→f i=g i):(List.range n).all f=(List.range n).all g:=by
 rw [Bool.eq_iff_iff,List.all_eq_true,List.all_eq_true]
 constructor
 ·intro k i hi; rw [← h i (List.mem_range.1 hi)]; exact k i hi
 ·intro k i hi; rw [h i (List.mem_range.1 hi)]; exact k i hi
section
variable {b:aj}
theorem alb:(pK b).ao.length=b.ao.length:=by simp [pK]
theorem aPT{i:Nat}(h:i < b.ao.length):nth (pK b).ao i=tP (nth b.ao i):=a72 tP h
theorem bbm(hs:Small b):Small (pK b):=⟨by rw [alb]; exact hs.pieces,hs.out,by show (b.aT.map tH).length≤20; rw [List.length_map]; exact hs.EM,λ p hp=>by
 obtain ⟨q,hq,rfl⟩:=List.mem_map.1 (show p∈b.ao.map tP from hp)
 exact hs.each q hq⟩
theorem a7V(bI:Int)(ws out:List Int):∀ n,n≤b.ao.length→mV (pK b) (-bI) ws out n = -mV b bI ws out n
 | 0,_=>rfl
 | n+1,h=>by
  have ih:=a7V bI ws out n (by omega)
  simp only [mV,ih,aPT (show n < b.ao.length by omega),tP]
  split
  ·rfl
  ·rw [Int.neg_mul]; omega
theorem a7Y(bI:Int)(ws out:List Int):oE (pK b) (-bI) ws out = -oE b bI ws out:=by
 unfold oE
 rw [alb]
 exact a7V bI ws out _ (Nat.le_refl _)
theorem aZ9(c:cR)(out:List Int):eF (pK b) (neg c) out = -eF b c out:=a7Y _ _ _
theorem baP(bI:Int)(ws:List Int)(n:Nat):mo (pK b) (-bI) ws n = -mo b bI ws n:=a7Y _ _ _
theorem a8i(m:Int):lY (pK b) (-m)=lY b m:=by
 unfold lY
 rw [show (pK b).aB=b.aB from rfl,Bool.eq_iff_iff]
 simp only [Bool.or_eq_true,decide_eq_true_eq]
 omega
theorem bbl{m s:Int}(h0:0≤s)(h2:s≤2):(wB (-m) == (if s=0 then 0 else 3 - s))=(wB m == s):=by
 rw [Bool.eq_iff_iff,beq_iff_eq,beq_iff_eq]
 unfold wB
 by_cases h:m > 0
 ·rw [if_neg (by omega),if_pos (by omega),if_pos h]
  split <;> omega
 ·rw [if_neg h]
  by_cases h':m < 0
  ·rw [if_pos (by omega),if_pos h']
   split <;> omega
  ·rw [if_neg (by omega),if_neg (by omega),if_neg h']
   split <;> omega
theorem bbg(hv:Valid b)(bI:Int)(ws:List Int):lh (pK b) (-bI) ws=lh b bI ws:=by
 unfold lh
 simp only [baP,a8i]
 congr 1
 show (b.aT.map tH).all _=_
 rw [List.all_map,Bool.eq_iff_iff,List.all_eq_true,List.all_eq_true]
 have key:∀ x∈b.aT,(wB (-mo b bI ws (tH x).dd.toNat) == (tH x).dM)=(wB (mo b bI ws x.dd.toNat) == x.dM):=λ x hx=>by
  obtain ⟨_,_,h3,h4⟩:=hv.ack x hx
  exact bbl h3 h4
 constructor
 ·intro k x hx; rw [← key x hx]; exact k x hx
 ·intro k x hx
  have:=k x hx
  rw [← key x hx] at this
  exact this
theorem ba7(p:Int){i:Nat}(h:i < b.ao.length):pJ (pK b) p i=pJ b p i:=by
 unfold pJ
 rw [aPT h]
 rfl
theorem a7s(out:List Int)(p:Int):lq (pK b) out p=lq b out p:=by
 unfold lq
 rw [alb]
 congr 1
 exact all_congr λ i hi=>by rw [ba7 p hi]
theorem a6R:∀ (l out:List Int),gx (pK b) out l=gx b out l
 | [],_=>rfl
 | p::l,out=>by
  unfold gx
  have:EH (pK b) out p=EH b out p:=by
   unfold EH ln
   rw [alb,a7s]
  rw [this]
  cases EH b out p with
  | some h=>rfl
  | none=>exact a6R l _
theorem a82(out:List Int):ju (pK b) out=ju b out:=by
 unfold ju
 rw [alb]
 congr 1
 funext i
 rw [a7s]
theorem a79:∀ (j:Nat) (out pre:List Int),q9 (pK b) j out pre=q9 b j out pre
 | 0,_,_=>rfl
 | j+1,out,pre=>by simp only [q9,a82,a79 j]
theorem a62:Ao (pK b)=Ao b:=by
 unfold Ao
 rw [a79,alb]
 rfl
theorem a8n:∀ j i,i+j≤b.ao.length→mY (pK b) j i=mY b j i
 | 0,_,_=>rfl
 | j+1,i,h=>by
  simp only [mY,a8n j (i+1) (by omega),aPT (show i < b.ao.length by omega)]
  rfl
theorem a8C:oL (pK b)=oL b:=by
 unfold oL
 rw [alb]
 exact a8n _ 0 (by omega)
theorem aOo(hs:Small b)(h:cY b=0):cY (pK b)=0:=by
 have hv:=r7 hs h
 have hb:=hv.df
 have e:cY (pK b)=if yD (pK b)=false then 1 else if oF (pK b)≠0 then oF (pK b) else if yt (pK b)≠0 then yt (pK b) else Br (pK b):=rfl
 have hok:yD (pK b)=true:=by
  unfold yD
  simp only [Bool.and_eq_true,yL,abC,abV]
  refine ⟨hv.agA,⟨?_,?_,?_⟩,?_⟩ <;> simp only [pK] <;> omega
 have ho:yt (pK b)=0:=by
  unfold yt
  rw [a6R]
  exact hv.out
 have hp:oF (pK b)=0:=by
  have hp:oF b=0:=by
   unfold cY at h
   split at h
   ·cases h
   ·split at h
    ·rename_i h2; exact absurd h h2
    ·rename_i h2; simpa using h2
  unfold oF at hp ⊢
  rw [alb]
  split at hp
  ·cases hp
  ·rename_i hb
   rw [if_neg hb]
   have uC:=RI (λ i=>ak7 i) hp
   rw [uZ.2 λ i _ hi=>?_]
   ·rfl
   ·have hi:i < b.ao.length:=by omega
    have h1:=uC i hi
    have a6a:((pK b).ao.take i).any (wA (nth (pK b).ao i))=(b.ao.take i).any (wA (nth b.ao i)):=by
     rw [aPT hi]
     show ((b.ao.map tP).take i).any _=_
     rw [← List.map_take,List.any_map]
     rfl
    unfold wy at h1 ⊢
    rw [a6a,aPT hi]
    split at h1
    ·cases h1
    ·rename_i q1
     rw [if_neg (show ¬Bu (tP (nth b.ao i)).Name=false from q1)]
     split at h1
     ·cases h1
     ·rename_i q2
      rw [if_neg q2]
      split at h1
      ·cases h1
      ·rename_i q3
       have q4:¬(dO (tP (nth b.ao i)).dJ (-9) 9 && (mX (tP (nth b.ao i)).Weight 1 99 && nM (tP (nth b.ao i)).Weight 3))=false:=by
        simp only [Bool.not_eq_false,Bool.and_eq_true,yL] at q3 ⊢
        obtain ⟨⟨a1,a2⟩,a3⟩:=q3
        refine ⟨⟨?_,?_⟩,a3⟩ <;> simp only [tP] <;> omega
       rw [if_neg q4]
       exact h1
 have hh:Br (pK b)=0:=by
  have h4:=hv.EM
  unfold Br
  have hl:(pK b).aT.length=b.aT.length:=by simp [pK]
  rw [hl,if_neg (by omega),uZ.2 λ i _ hi=>?_]
  ·rfl
  ·have hi:i < b.aT.length:=by omega
   have hx:=hv.ack _ (iZ hi)
   have e:nth (pK b).aT i=tH (nth b.aT i):=a72 tH hi
   unfold yB
   rw [e]
   have q1:¬dO (tH (nth b.aT i)).dd 0 ((pK b).Out.length:Int)=false:=by
    simp only [Bool.not_eq_false,yL]
    exact ⟨hx.1,hx.2.1⟩
   have q2:¬dO (tH (nth b.aT i)).dM 0 2=false:=by
    simp only [Bool.not_eq_false,yL,tH]
    split <;> omega
   rw [if_neg q1,if_neg q2]
 rw [e,hok,ho,hp,hh]
 rfl
theorem a8h(y:Reach):(nN y).Pairwise (· < ·):=by
 unfold nN
 rw [List.pairwise_map]
 exact (List.pairwise_lt_range (n:=(y.ak+1 - y.ai).toNat)).imp (λ h=>by omega)
theorem bba:(nN (pK b).aa).Perm ((nN b.aa).map λ n=>-n):=by
 have h1:(nN (pK b).aa).Nodup:=(a8h _).imp λ h=>by omega
 have h2:((nN b.aa).map λ n=>-n).Nodup:=by
  unfold List.Nodup
  rw [List.pairwise_map]
  exact (a8h _).imp λ h=>by omega
 rw [List.perm_ext_iff_of_nodup h1 h2]
 intro n
 rw [L5,List.mem_map]
 constructor
 ·rintro ⟨k1,k2⟩
  exact ⟨-n,L5.2 (by simp only [pK] at k1 k2; omega),by omega⟩
 ·rintro ⟨m,hm,rfl⟩
  have:=L5.1 hm
  simp only [pK]
  omega
theorem a52(hv:Valid b):(bJ (pK b)).Perm ((bJ b).map neg):=by
 unfold bJ
 refine (bba.flatMap_right _).trans ?_
 rw [List.flatMap_map,List.map_flatMap,a8C]
 have:∀ n,((oL b).filter (lh (pK b) (-n))).map (λ w=>(⟨-n,w⟩:cR))=(((oL b).filter (lh b n)).map λ w=>(⟨n,w⟩:cR)).map neg:=λ n=>by
  rw [List.map_map,show lh (pK b) (-n)=lh b n from funext λ w=>bbg hv n w]
  rfl
 simp only [this]
 exact .refl _
theorem aPB(hv:Valid b){c:cR}:c∈bJ (pK b)↔∃ d∈bJ b,neg d=c:=by
 rw [(a52 hv).mem_iff,List.mem_map]
theorem a0e(hv:Valid b){c:cR}(h:c∈bJ b):neg c∈bJ (pK b):=(aPB hv).2 ⟨c,h,rfl⟩
theorem a6Q(hv:Valid b):(bJ (pK b)).length=(bJ b).length:=by rw [(a52 hv).length_eq,List.length_map]
theorem aNI(hv:Valid b):bJ (pK b)=[]↔bJ b=[]:=by
 rw [← List.length_eq_zero_iff,a6Q hv,List.length_eq_zero_iff]
theorem a7l(m:Int):ER (-m)=ER m:=by
 unfold ER
 split <;> split <;> omega
theorem bbE(hv:Valid b)(out:List Int):oG (pK b) out=oG b out:=by
 have key:∀ k,0≤k→(oG (pK b) out≤k↔oG b out≤k):=λ k hk=>by
  rw [aNO _ _ _ hk,aNO _ _ _ hk]
  constructor
  ·intro h c hc
   have:=h _ (a0e hv hc)
   rwa [aZ9,a7l] at this
  ·intro h c hc
   obtain ⟨d,hd,rfl⟩:=(aPB hv).1 hc
   rw [aZ9,a7l]
   exact h d hd
 exact Int.le_antisymm ((key _ (a5z _ _)).2 (Int.le_refl _)) ((key _ (a5z _ _)).1 (Int.le_refl _))
theorem a8s(hv:Valid b)(o:List Int):r8 (pK b) o=r8 b o:=by
 unfold r8
 rw [show oG (pK b)=oG b from funext λ g=>bbE hv g]
 rfl
theorem bbd(o:List Int)(c:cR):EO (pK b) o (neg c)=EO b o c:=by
 unfold EO
 simp only [aZ9,a8i]
 rfl
theorem a8E{l m:List Int}(h:∀ x,x∈l↔x∈m):jw l=jw m:=abv _ _ (Rs _) (Rs _) λ x=>by rw [HY,HY]; exact h x
theorem bbA(hv:Valid b)(k:Nat):Sl (pK b) k=Sl b k:=by
 refine a8E λ x=>?_
 rw [List.mem_map,List.mem_map]
 constructor
 ·rintro ⟨c,hc,rfl⟩
  obtain ⟨d,hd,rfl⟩:=(aPB hv).1 hc
  exact ⟨d,hd,rfl⟩
 ·rintro ⟨d,hd,rfl⟩
  exact ⟨neg d,a0e hv hd,rfl⟩
theorem a8V(hv:Valid b)(h3:bJ b≠[])(out:List Int):rK (pK b) out = -rC b out∧rC (pK b) out = -rK b out:=by
 have h3':bJ (pK b)≠[]:=λ h=>h3 ((aNI hv).1 h)
 obtain ⟨⟨c1,k1,e1⟩,⟨c2,k2,e2⟩,q⟩:=ajE (out:=out) h3
 obtain ⟨⟨d1,j1,f1⟩,⟨d2,j2,f2⟩,p⟩:=ajE (out:=out) h3'
 obtain ⟨g1,i1,rfl⟩:=(aPB hv).1 j1
 obtain ⟨g2,i2,rfl⟩:=(aPB hv).1 j2
 have a1:=p _ (a0e hv k1)
 have a2:=p _ (a0e hv k2)
 have a3:=q _ i1
 have a4:=q _ i2
 rw [aZ9] at a1 a2 f1 f2
 omega
theorem bbB(hv:Valid b)(h1:cY b=0)(p:Int):Mm (pK b) p=Mm b p:=by
 have h2:=aOo hv.small h1
 unfold Mm
 simp only [h1,h2,ne_eq,not_true_eq_false,if_false,aNI hv,bbA hv]
 unfold ln
 rw [alb]
theorem bbc(hv:Valid b)(h1:cY b=0){o:List Int}(ho:Ord b o):abT (pK b) o=abT b o:=by
 have h2:=aOo hv.small h1
 have eC:Ord (pK b) o:=⟨by rw [a6R]; exact ho.lift,by rw [alb]; exact ho.len⟩
 by_cases h3:bJ b=[]
 ·have h3':=(aNI hv).2 h3
  unfold abT
  simp only [h1,h2,alH.2 ho,alH.2 eC,h3,h3',ne_eq,not_true_eq_false,if_false,if_true]
 ·have h3':bJ (pK b)≠[]:=λ h=>h3 ((aNI hv).1 h)
  rw [aOi h1 h3 ho,aOi h2 h3' eC,a6Q hv,((a52 hv).filter _).length_eq,List.filter_map,List.length_map]
  congr 4
  funext c
  exact bbd o c
theorem a74(hv:Valid b):L6 (pK b)=L6 b:=funext λ o=>by
 unfold L6
 rw [a8s hv]
 rfl
theorem a8Z(hv:Valid b)(h1:cY b=0):aNW (pK b)=aNW b:=by
 have h2:=aOo hv.small h1
 unfold aNW aYl
 simp only [h1,h2,aNI hv,a62,a74 hv]
theorem baY(hv:Valid b)(h1:cY b=0):aj2 (pK b)=aj2 b:=by
 have h2:=aOo hv.small h1
 unfold aj2
 simp only [h1,h2,aNI hv,a62,a74 hv]
theorem bbn(hv:Valid b)(h1:cY b=0):akc (pK b)=akc b:=by
 have h2:=aOo hv.small h1
 have:cQ (pK b)=cQ b:=by
  funext t o
  unfold cQ
  rw [a8s hv]
 unfold akc HK
 simp only [h1,h2,aNI hv,a62,this]
theorem baF(hv:Valid b):Sb b=some (pK b):=by
 have hb:=hv.df
 have h5:=hv.n5
 have h4:=hv.EM
 unfold Sb uB
 rw [dR (z:=0 - b.aa.ak) (by omega) (by omega),dR (z:=0 - b.aa.ai) (by omega) (by omega),Option.bind_some]
 rw [gp (o:=b.ao.map tP) ?_]
 ·rw [gp (o:=b.aT.map tH) ?_]
  ·simp only [pK,show 0 - b.aa.ak = -b.aa.ak by omega,show 0 - b.aa.ai = -b.aa.ai by omega]
  ·have e0:((0:Int),([]:List bV))=(λ q:Nat=>((q:Int),(b.aT.take q).map tH)) 0:=rfl
   rw [e0]
   refine tv (λ q:Nat=>((q:Int),(b.aT.take q).map tH)) b.aT.length (λ q hq=>?_) (by simp only [fh,bm,List.take_length])
   have hx:=hv.ack _ (iZ hq)
   have e1:b.aT[q]=nth b.aT q:=by rw [← List.getElem?_eq_some_iff.1 (bz hq) |>.2]
   have a9A:(ae ((nth b.aT q).dM != 0) (some (i64 (3 - (nth b.aT q).dM))) (some (nth b.aT q).dM):Option Int)=some (tH (nth b.aT q)).dM:=by
    by_cases h:(nth b.aT q).dM=0
    ·rw [show ((nth b.aT q).dM != 0)=false by simpa using h,bm]
     simp [tH,h]
    ·rw [ly h,bw,dR (by omega) (by omega)]
     simp only [tH,if_neg h]
   simp only [dec_lt hq,bw,cj,bz hq,Option.bind_some,a9A,cK (i:=q) (by omega)]
   rw [mb (by simp; omega),Option.bind_some,List.take_succ_eq_append_getElem hq,List.map_append,e1]
   rfl
 ·have e0:((0:Int),([]:List cE))=(λ q:Nat=>((q:Int),(b.ao.take q).map tP)) 0:=rfl
  rw [e0]
  refine tv (λ q:Nat=>((q:Int),(b.ao.take q).map tP)) b.ao.length (λ q hq=>?_) (by simp only [fh,bm,List.take_length])
  have ha:=(hv.each q hq).arm
  have e1:b.ao[q]=nth b.ao q:=by rw [← List.getElem?_eq_some_iff.1 (bz hq) |>.2]
  simp only [dec_lt hq,bw,cj,bz hq,Option.bind_some,dR (z:=0 - (nth b.ao q).dJ) (by omega) (by omega),cK (i:=q) (by omega)]
  rw [mb (by simp; omega),Option.bind_some,List.take_succ_eq_append_getElem hq,List.map_append,e1]
  simp only [List.map_cons,List.map_nil,tP,show 0 - (nth b.ao q).dJ = -(nth b.ao q).dJ by omega]
end
theorem bam(b:aj)(l:List Int)(x y:Nat)(hl:RF l)(hx:x < 256)(hy:y < 256):m14 b l x y=some true:=by
 unfold m14
 rw [aOb,aK0,Option.bind_some]
 cases hg:EL b with
 | true=>rfl
 | false =>
 by_cases h1:cY b=0
 case neg =>
  have:(cY b == 0)=false:=by simpa using h1
  rw [this]
  rfl
 have hs:=ajg hg
 have hv:=r7 hs h1
 have H7:=bbm hs
 have h2:=aOo hs h1
 have h5:=hv.n5
 have hn1:=hv.n1
 obtain ⟨out,aNy,hoc,hol⟩:=aPN (x:=x) (P:=b.ao.length) hx (by omega)
 obtain ⟨o,aN1,HF⟩:=aOc hs hv hl
 have a9v:=ab9 hv HF
 have ep:i64 (y:Int)=(y:Int):=dR (by omega) (by omega)
 have er:q6 (y:Int) (b.ao.length:Int)=some ((y % b.ao.length:Nat):Int):=by
  unfold q6
  rw [if_neg (by omega),Int.ofNat_tmod]
 generalize y % b.ao.length=k at er
 have g1:NQ (pK b)=NQ b:=by unfold NQ; simp only [h1,h2,a6Q hv]
 have g1':(NQ b).2=0:=by unfold NQ; simp [h1]
 have hwl:=a7d hs (k:Int)
 have Me:(Bx (pK b) out).2=(Bx b out).2∧(Bx (pK b) out).1=⟨-(Bx b out).1.ak,-(Bx b out).1.ai⟩ ∧ -10000≤(Bx b out).1.ak∧(Bx b out).1.ak≤10000 ∧ -10000≤(Bx b out).1.ai∧(Bx b out).1.ai≤10000:=by
  unfold Bx
  rw [alb]
  simp only [h1,h2,hoc,ne_eq,not_true_eq_false,if_false,aNI hv]
  by_cases h3:bJ b=[]
  ·simp [h3]
  ·simp only [if_neg h3]
   obtain ⟨e1,e2⟩:=a8V hv h3 out
   obtain ⟨⟨c1,k1,q1⟩,⟨c2,k2,q2⟩,_⟩:=ajE (out:=out) h3
   have b1:=abB hv k1 out
   have b2:=abB hv k2 out
   rw [e1,e2]
   refine ⟨by trivial,by trivial,?_,?_,?_,?_⟩ <;> omega
 obtain ⟨m1,m2,m3,m4,m5,m6⟩:=Me
 have hf:(aNW b).1.length≤1000000:=by
  unfold aNW
  split
  ·simp
  ·split
   ·simp
   ·cases hfs:aYl b with
    | none=>simp
    | some f =>
     have nO:f∈Ao b:=List.mem_of_find?_eq_some hfs
     have:=ab9 hv (alG hv nO)
     simp only []
     omega
 have ct:(akc b).1.length≤1000000:=by
  unfold akc
  split
  ·simp
  ·split
   ·simp
   ·have:=ab9 hv (alG hv (a50 b).1)
    simp only []
    omega
 simp only [h1,Bool.not_false,beq_self_eq_true,Bool.and_true,Bool.not_true,bm,bw,baF hv,aNy,Option.bind_some,aN1,ep,er,aJs hs,aJs H7,g1,g1',aJr hs,aJr H7,bbB hv h1,ak4 hs (out:=out) (by omega),ak4 H7 (out:=out) (by omega),aOa hs (o:=o) (by omega),aOa H7 (o:=o) (by omega),bbc hv h1 HF,bne_self_eq_false,m1,aJp hwl,uB,m2,show 0 - (Bx b out).1.ak = -(Bx b out).1.ak by omega,show 0 - (Bx b out).1.ai = -(Bx b out).1.ai by omega,dR (z:=-(Bx b out).1.ak) (by omega) (by omega),dR (z:=-(Bx b out).1.ai) (by omega) (by omega),aOs,a7N hs,a7N H7,aZ6 hs,aZ6 H7,aPm hs,aPm H7,a8Z hv h1,bbn hv h1,baY hv h1,aJp hf,aJp ct]
end Go.Proofs.YtabamagholjdcaaGreatDoor
