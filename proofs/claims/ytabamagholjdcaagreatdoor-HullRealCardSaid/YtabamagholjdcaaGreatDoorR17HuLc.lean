/- Plain laws of chapter 6, with what is sorted. Conditions: none. -/
import Derived.Test.YtabamagholjdcaaGreatDoorR17HuLb
import Derived.Test.YtabamagholjdcaaGreatDoorQHHuC
import Derived.Test.YtabamagholjdcaaGreatDoorR17HuL
import Derived.Sort.AssemblyPlain
namespace Go.Proofs.YtabamagholjdcaaGreatDoor
open Go.Lg Go.Proofs Go.Sort
set_option maxRecDepth 10000
theorem Zx{S O:Type}{body:S→Option (S ⊕ O)}(I:S→Prop)(μ:S→Nat){Q:O→Prop}(h:∀ s,I s→(∃ s',body s=some (.inl s')∧I s'∧μ s' < μ s)∨∃ o,body s=some (.inr o)∧Q o):∀ s,I s→∃ o,bd body s=some o∧Q o:=by
 have key:∀ n s,μ s≤n→I s→∃ o,bd body s=some o∧Q o:=by
  intro n
  induction n with
  | zero =>
   intro s hn hI
   rcases h s hI with ⟨s',_,_,br⟩ | ⟨o,hb,hq⟩
   ·omega
   ·exact ⟨o,gW hb,hq⟩
  | succ n ih =>
   intro s hn hI
   rcases h s hI with ⟨s',hb,UP,br⟩ | ⟨o,hb,hq⟩
   ·obtain ⟨o,ho,hq⟩:=ih s' (by omega) UP
    exact ⟨o,by rw [si hb,ho],hq⟩
   ·exact ⟨o,gW hb,hq⟩
 exact λ s hI=>key _ s (Nat.le_refl _) hI
theorem qD{S O β:Type}{body:S→Option (S ⊕ O)}{f:O→Option β}{P:β→Prop}(I:S→Prop)(μ:S→Nat)(Q:O→Prop){s:S}(hI:I s)(hf:∀ o,Q o→∃ b,f o=some b∧P b)(h:∀ s,I s→(∃ s',body s=some (.inl s')∧I s'∧μ s' < μ s)∨∃ o,body s=some (.inr o)∧Q o):∃ b,(bd body s).bind f=some b∧P b:=by
 obtain ⟨o,ho,hq⟩:=Zx I μ h s hI
 rw [gp ho]
 exact hf o hq
theorem pd(x y:Int):fB x y=some (ltInt x y):=by
 unfold fB xH
 simp only [Option.bind_some,bne_self_eq_false,bm]
 rfl
theorem jz(l:List Int)(i:Nat):l.toArray[i]! = nth l i:=by
 unfold nth
 simp only [List.getElem!_toArray,List.getElem!_eq_getElem?_getD,List.getD_eq_getElem?_getD]
def iA(l:List Int)(i j:Nat):List Int:=(l.set i (nth l j)).set j (nth l i)
theorem nD(l:List Int)(i j:Nat):(iA l i j).toArray=swp l.toArray i j:=by
 unfold iA swp
 rw [jz,jz]
 simp
theorem mL(l:List Int)(i j:Nat):(iA l i j).length=l.length:=by simp [iA]
theorem nC{l:List Int}{i j:Nat}{x:Int}(h:j < l.length):(l.set i x)[j]? = some (nth (l.set i x) j):=bz (by simpa using h)
theorem qA{i j:Nat}(h:i≤1000000000)(hj:j≤i):i64 ((i:Int) - (j:Int))=((i - j:Nat):Int):=by rw [dR (by omega) (by omega)]; omega
theorem vw{i j:Nat}(h:i≤1000000000)(hj:j≤1000000000):i64 ((i:Int)+(j:Int))=((i+j:Nat):Int):=by rw [dR (by omega) (by omega)]; omega
theorem agl{i:Nat}(h:i≤1000000000):i64 (((i+1:Nat):Int) - 1)=(i:Int):=by rw [dR (by omega) (by omega)]; omega
theorem oY{i j:Nat}:decide ((i:Int) < (j:Int))=decide (i < j):=by simp
theorem NW{i j:Nat}:decide ((i:Int) > (j:Int))=decide (i > j):=by simp
theorem FD{i j:Nat}:decide ((i:Int)≤(j:Int))=decide (i≤j):=by simp
theorem I1{i j:Nat}:decide ((i:Int) ≥ (j:Int))=decide (i ≥ j):=by simp
abbrev ja(l:List Int):Prop:=l.length≤1000000
theorem agY{l:List Int}{a b:Nat}(hl:ja l)(cH:a≤b)(hb:b≤l.length):∃ l',Ae l a b=some l'∧l'.toArray=insertionSort ltInt l.toArray a b:=by
 unfold Ae insertionSort
 have hB:=hl
 unfold ja at hB
 rw [cK (by omega)]
 refine qD (λ s=>∃ (m:List Int) (i:Nat),s=(m,(i:Int))∧m.length=l.length∧insOuter ltInt a b i m.toArray=insOuter ltInt a b (a+1) l.toArray) (λ s=>b - s.2.toNat)
  (λ o=>o.toArray=insOuter ltInt a b (a+1) l.toArray) ⟨l,a+1,rfl,rfl,rfl⟩ (λ o hq=>⟨o,rfl,hq⟩) ?_
 ·rintro _ ⟨m,i,rfl,hm,hT⟩
  rw [insOuter] at hT
  by_cases hi:i < b
  ·rw [if_pos hi] at hT
   left
   obtain ⟨p,hp,ES,hpq⟩:=Zx (S:=List Int × Int) (O:=List Int) (body:=λ (dG:((List Int) × Int)) =>
    (((ae (decide (dG.2 > (a:Int)))
    ((idx dG.1 dG.2).bind λ LP =>
    (idx dG.1 (i64 (dG.2 - 1))).bind λ AW =>
    (fB LP AW).bind λ QX =>
    some QX)
    (some false)):Option Bool)).bind (λ (GH:Bool) =>
    ae GH
    ((idx dG.1 (i64 (dG.2 - 1))).bind λ pF =>
    (idx dG.1 dG.2).bind λ uh =>
    (idx dG.1 dG.2).bind λ abk =>
    (idx (dG.1.set dG.2.toNat pF) (i64 (dG.2 - 1))).bind λ ai0 =>
    some (.inl ((dG.1.set dG.2.toNat pF).set (i64 (dG.2 - 1)).toNat uh,i64 (dG.2 - 1))))
    (some (.inr dG.1)))) (λ s=>∃ (q:List Int) (j:Nat),s=(q,(j:Int))∧q.length=l.length∧j < q.length∧insInner ltInt a j q.toArray=insInner ltInt a i m.toArray) (λ s=>s.2.toNat)
    (Q:=λ o=>o.length=l.length∧o.toArray=insInner ltInt a i m.toArray) (by
     rintro _ ⟨q,j,rfl,hq,hj,il⟩
     cases j with
     | zero =>
      right
      refine ⟨q,?_,hq,il⟩
      rw [show decide (((0:Nat):Int) > (a:Int))=false by simp]
      rfl
     | succ j =>
      rw [insInner] at il
      dsimp only
      rw [NW,agl (by omega)]
      simp only [cj,bz hj,bz (show j < q.length by omega),Option.bind_some,pd,Int.toNat_natCast,nC (show j < q.length by omega)]
      rw [jz,jz] at il
      by_cases hc:j+1 > a∧ltInt (nth q (j+1)) (nth q j)=true
      ·left
       rw [if_pos (by simp [hc.1,hc.2])] at il
       refine ⟨(iA q (j+1) j,(j:Int)),?_,⟨_,j,rfl,by rw [mL]; exact hq,by rw [mL]; omega,by rw [nD]; exact il⟩,by simp only [Int.toNat_natCast]; omega⟩
       rw [decide_eq_true hc.1,bw,Option.bind_some,hc.2]
       rfl
      ·right
       rw [if_neg (by simpa using hc)] at il
       refine ⟨q,?_,hq,il⟩
       by_cases h1:j+1 > a
       ·have h2:ltInt (nth q (j+1)) (nth q j)=false:=by simpa [h1] using hc
        rw [decide_eq_true h1,bw,Option.bind_some,h2]
        rfl
       ·rw [decide_eq_false h1]
        rfl) (m,(i:Int)) ⟨m,i,rfl,hm,by omega,rfl⟩
   refine ⟨(p,((i+1:Nat):Int)),?_,⟨p,i+1,rfl,ES,by rw [hpq]; exact hT⟩,by simp only [Int.toNat_natCast]; omega⟩
   dsimp only
   rw [oY,decide_eq_true hi,bw,gp hp,cK (by omega)]
  ·rw [if_neg hi] at hT
   right
   refine ⟨m,?_,hT⟩
   dsimp only
   rw [oY,decide_eq_false hi,bm]
theorem aIW{l:List Int}{a b:Nat}(hl:ja l)(cH:a < b)(hb:b≤l.length):∃ l',xJ l a b=some l'∧l'.toArray=reverseRange l.toArray a b:=by
 unfold xJ reverseRange
 have hB:=hl
 unfold ja at hB
 rw [show i64 ((b:Int) - 1)=((b - 1:Nat):Int) from jJ (by omega) (by omega)]
 refine qD (λ s=>∃ (m:List Int) (i j:Nat),s=(m,(i:Int),(j:Int))∧m.length=l.length∧j < b∧reverseLoop i j m.toArray=reverseLoop a (b - 1) l.toArray) (λ s=>s.2.2.toNat - s.2.1.toNat)
  (λ o=>o.toArray=reverseLoop a (b - 1) l.toArray) ⟨l,a,b - 1,rfl,rfl,by omega,rfl⟩ (λ o hq=>⟨o,rfl,hq⟩) ?_
 ·rintro _ ⟨m,i,j,rfl,hm,hj,hT⟩
  rw [reverseLoop] at hT
  dsimp only
  rw [oY]
  by_cases ew:i < j
  ·rw [if_pos ew] at hT
   left
   refine ⟨(iA m i j,((i+1:Nat):Int),((j - 1:Nat):Int)),?_,⟨_,i+1,j - 1,rfl,by rw [mL]; exact hm,by omega,by rw [nD]; exact hT⟩,by simp only [Int.toNat_natCast]; omega⟩
   rw [decide_eq_true ew,bw]
   simp only [cj,bz (show i < m.length by omega),bz (show j < m.length by omega),Option.bind_some,Int.toNat_natCast,nC (show j < m.length by omega),cK (i:=i) (by omega),jJ (i:=j) (by omega) (by omega)]
   rfl
  ·rw [if_neg ew] at hT
   right
   exact ⟨m,by rw [decide_eq_false ew]; rfl,hT⟩
theorem agZ{l:List Int}{r hi first:Nat}(hl:ja l)(hb:first+hi≤l.length)(hr:r≤1000000):∃ l',Aj l r hi first=some l'∧l'.length=l.length∧l'.toArray=siftDown ltInt hi first r l.toArray:=by
 unfold Aj
 have hB:=hl
 unfold ja at hB
 refine qD (λ s=>∃ (m:List Int) (q:Nat),s=(m,(q:Int))∧m.length=l.length∧q≤1000000∧siftDown ltInt hi first q m.toArray=siftDown ltInt hi first r l.toArray) (λ s=>hi - s.2.toNat)
  (λ o=>∃ m:List Int,(o = .inl m∨o = .inr m)∧m.length=l.length∧m.toArray=siftDown ltInt hi first r l.toArray) ⟨l,r,rfl,rfl,hr,rfl⟩ (λ o hq=>?_) ?_
 ·obtain ⟨m,hm,rD,sW⟩:=hq
  rcases hm with rfl | rfl
  ·exact ⟨m,rfl,rD,sW⟩
  ·exact ⟨m,rfl,rD,sW⟩
 ·rintro _ ⟨m,q,rfl,hm,zO,hT⟩
  rw [siftDown] at hT
  dsimp only
  have e1:i64 (i64 (2 * (q:Int))+1)=((2 * q+1:Nat):Int):=by rw [dR (z:=2 * (q:Int)) (by omega) (by omega),dR (by omega) (by omega)]; omega
  have e2:i64 (((2 * q+1:Nat):Int)+1)=((2 * q+2:Nat):Int):=by rw [dR (by omega) (by omega)]; omega
  rw [e1,e2,I1,oY]
  by_cases h1:2 * q+1 ≥ hi
  ·rw [dif_pos h1] at hT
   right
   exact ⟨.inl m,by rw [decide_eq_true h1]; rfl,m,.inl rfl,hm,hT⟩
  ·rw [dif_neg h1] at hT
   rw [decide_eq_false h1,bm]
   have f1:i64 ((first:Int)+((2 * q+1:Nat):Int))=((first+(2 * q+1):Nat):Int):=vw (by omega) (by omega)
   have f2:i64 (((first+(2 * q+1):Nat):Int)+1)=((first+(2 * q+1)+1:Nat):Int):=cK (by omega)
   have f3:i64 ((first:Int)+(q:Int))=((first+q:Nat):Int):=vw (by omega) (by omega)
   have f4:i64 ((first:Int)+((2 * q+2:Nat):Int))=((first+(2 * q+2):Nat):Int):=vw (by omega) (by omega)
   rw [f1,f2,f3]
   simp only [jz] at hT
   have g0:m[first+q]? = some (nth m (first+q)):=bz (by omega)
   have g1:m[first+(2 * q+1)]? = some (nth m (first+(2 * q+1))):=bz (by omega)
   by_cases hc:(decide (2 * q+1+1 < hi) && ltInt (nth m (first+(2 * q+1))) (nth m (first+(2 * q+1)+1)))=true
   ·rw [if_pos hc] at hT
    simp only [Bool.and_eq_true,decide_eq_true_eq] at hc
    have g2:m[first+(2 * q+1)+1]? = some (nth m (first+(2 * q+1)+1)):=bz (by omega)
    have g2':m[first+(2 * q+2)]? = some (nth m (first+(2 * q+2))):=bz (by omega)
    rw [decide_eq_true (show 2 * q+2 < hi by omega),bw]
    simp only [cj,g1,g2,Option.bind_some,pd,hc.2,bw,f4,g0,g2']
    cases hx:ltInt (nth m (first+q)) (nth m (first+(2 * q+2))) with
    | false =>
     rw [hx] at hT
     right
     exact ⟨.inr m,rfl,m,.inr rfl,hm,by simpa using hT⟩
    | true =>
     rw [hx] at hT
     simp only [Bool.not_true,Bool.false_eq_true,if_false] at hT
     rw [dif_pos (by omega)] at hT
     left
     refine ⟨(iA m (first+q) (first+(2 * q+2)),((2 * q+2:Nat):Int)),?_,⟨_,2 * q+2,rfl,by rw [mL]; exact hm,by omega,by rw [nD]; exact hT⟩,by simp only [Int.toNat_natCast]; omega⟩
     simp only [Bool.not_true,bm,Int.toNat_natCast,nC (show first+(2 * q+2) < m.length by omega),Option.bind_some]
     rfl
   ·rw [if_neg hc] at hT
    have hp:(ae (decide (2 * q+2 < hi)) ((idx m ((first+(2 * q+1):Nat):Int)).bind λ vT=>(idx m ((first+(2 * q+1)+1:Nat):Int)).bind λ uG=>(fB vT uG).bind λ Eo=>some Eo) (some false):Option Bool)=some false:=by
     by_cases h2:2 * q+2 < hi
     ·have g2:m[first+(2 * q+1)+1]? = some (nth m (first+(2 * q+1)+1)):=bz (by omega)
      rw [decide_eq_true h2,bw]
      simp only [cj,g1,g2,Option.bind_some,pd]
      have h2':2 * q+1+1 < hi:=h2
      simpa [h2'] using hc
     ·rw [decide_eq_false h2,bm]
    rw [hp]
    simp only [cj,Option.bind_some,bm,f1,g0,g1,pd]
    cases hx:ltInt (nth m (first+q)) (nth m (first+(2 * q+1))) with
    | false =>
     rw [hx] at hT
     right
     exact ⟨.inr m,rfl,m,.inr rfl,hm,by simpa using hT⟩
    | true =>
     rw [hx] at hT
     simp only [Bool.not_true,Bool.false_eq_true,if_false] at hT
     left
     refine ⟨(iA m (first+q) (first+(2 * q+1)),((2 * q+1:Nat):Int)),?_,⟨_,2 * q+1,rfl,by rw [mL]; exact hm,by omega,by rw [nD]; exact hT⟩,by simp only [Int.toNat_natCast]; omega⟩
     simp only [Bool.not_true,bm,Int.toNat_natCast,nC (show first+(2 * q+1) < m.length by omega),Option.bind_some]
     rfl
end Go.Proofs.YtabamagholjdcaaGreatDoor
namespace Go.Proofs.YtabamagholjdcaaGreatDoor
open Go.Lg Go.Proofs Go.Sort
set_option maxRecDepth 10000
theorem aIQ{l:List Int}{a b:Nat}(hl:ja l)(cH:a < b)(hb:b≤l.length):∃ l',Af l a b=some l'∧l'.toArray=heapSort ltInt l.toArray a b:=by
 unfold Af heapSort
 have hB:=hl
 unfold ja at hB
 have e0:i64 ((b:Int) - (a:Int))=((b - a:Nat):Int):=qA (by omega) (by omega)
 have e1:i64 (((b - a:Nat):Int) - 1)=((b - a - 1:Nat):Int):=jJ (by omega) (by omega)
 have e2:mF ((b - a - 1:Nat):Int) 2=some (((b - a - 1) / 2:Nat):Int):=by
  unfold mF
  rw [if_neg (by omega),show (2:Int)=((2:Nat):Int) from rfl,← Int.ofNat_tdiv,dR (by omega) (by omega)]
 rw [e0,e1,e2,Option.bind_some]
 generalize hn:b - a=n
 have hn0:0 < n:=by omega
 refine qD (λ s=>∃ (m:List Int) (k:Nat),s=(m,(k:Int) - 1)∧m.length=l.length∧k≤1000000∧heapBuild ltInt n a k m.toArray=heapBuild ltInt n a ((n - 1) / 2+1) l.toArray) (λ s=>(s.2+1).toNat)
  (λ o=>o.length=l.length∧o.toArray=heapBuild ltInt n a ((n - 1) / 2+1) l.toArray) ⟨l,(n - 1) / 2+1,by simp,rfl,by omega,rfl⟩ (λ m hq=>?_) ?_
 ·obtain ⟨hm,sW⟩:=hq
  have e3:(((n - 1:Nat):Int))=(n:Int) - 1:=by omega
  rw [e3,← sW]
  refine qD (λ s=>∃ (q:List Int) (k:Nat),s=(q,(k:Int) - 1)∧q.length=l.length∧k≤n∧heapPop ltInt a k q.toArray=heapPop ltInt a n m.toArray) (λ s=>(s.2+1).toNat)
   (λ o=>o.toArray=heapPop ltInt a n m.toArray) ⟨m,n,rfl,hm,by omega,rfl⟩ (λ o hq=>⟨o,rfl,hq⟩) ?_
  rintro _ ⟨q,k,rfl,hq,hk,hT⟩
  dsimp only
  cases k with
  | zero =>
   right
   exact ⟨q,by rw [show decide (((0:Nat):Int) - 1 ≥ 0)=false by simp]; rfl,hT⟩
  | succ k =>
   left
   have e4:((k+1:Nat):Int) - 1=(k:Int):=by omega
   have f1:i64 ((a:Int)+(k:Int))=((a+k:Nat):Int):=vw (by omega) (by omega)
   rw [heapPop,← nD] at hT
   obtain ⟨t,ht,Ki,mx⟩:=agZ (l:=iA q a (a+k)) (r:=0) (hi:=k) (first:=a) (by unfold ja; rw [mL]; omega) (by rw [mL]; omega) (by omega)
   rw [mL] at Ki
   rw [← mx] at hT
   refine ⟨(t,(k:Int) - 1),?_,⟨t,k,rfl,by omega,by omega,hT⟩,by simp only []; omega⟩
   rw [e4,show decide ((k:Int) ≥ 0)=true by simp,bw]
   simp only [f1,cj,bz (show a < q.length by omega),bz (show a+k < q.length by omega),Option.bind_some,Int.toNat_natCast,nC (show a+k < q.length by omega)]
   rw [show ((q.set a (nth q (a+k))).set (a+k) (nth q a))=iA q a (a+k) from rfl,show (0:Int)=((0:Nat):Int) from rfl,ht,Option.bind_some,dR (by omega) (by omega)]
 ·rintro _ ⟨m,k,rfl,hm,hk,hT⟩
  dsimp only
  cases k with
  | zero =>
   right
   exact ⟨m,by rw [show decide (((0:Nat):Int) - 1 ≥ 0)=false by simp]; rfl,hm,hT⟩
  | succ k =>
   left
   have e4:((k+1:Nat):Int) - 1=(k:Int):=by omega
   rw [heapBuild] at hT
   obtain ⟨t,ht,Ki,mx⟩:=agZ (l:=m) (r:=k) (hi:=n) (first:=a) (by unfold ja; omega) (by omega) (by omega)
   rw [← mx] at hT
   refine ⟨(t,(k:Int) - 1),?_,⟨t,k,rfl,by omega,by omega,hT⟩,by simp only []; omega⟩
   rw [e4,show decide ((k:Int) ≥ 0)=true by simp,bw,ht,Option.bind_some,dR (by omega) (by omega)]
theorem ahD{body:Int→Option (Int ⊕ Int)}{d:Array Int}{p:Int→Bool}{J:Nat}(h:∀ k:Nat,body (k:Int)=if (decide (k≤J) && p d[k]!)=true then some (.inl ((k+1:Nat):Int)) else some (.inr (k:Int)))(i:Nat):bd body (i:Int)=some ((scanUp p d J i:Nat):Int):=by
 have key:∀ n i:Nat,J+1 - i≤n→bd body (i:Int)=some ((scanUp p d J i:Nat):Int):=by
  intro n
  induction n with
  | zero =>
   intro i hn
   have hc:¬ (decide (i≤J) && p d[i]!)=true:=by simp; omega
   rw [scanUp,if_neg hc]
   exact gW (by rw [h,if_neg hc])
  | succ n ih =>
   intro i hn
   rw [scanUp]
   by_cases hc:(decide (i≤J) && p d[i]!)=true
   ·rw [if_pos hc]
    have hi:i≤J:=by simp at hc; exact hc.1
    rw [si (s':=((i+1:Nat):Int)) (by rw [h,if_pos hc])]
    exact ih (i+1) (by omega)
   ·rw [if_neg hc]
    exact gW (by rw [h,if_neg hc])
 exact key _ i (Nat.le_refl _)
theorem aas{body:Int→Option (Int ⊕ Int)}{d:Array Int}{p:Int→Bool}{i:Nat}{J:Nat}(hi:0 < i)(h:∀ k:Nat,k≤J→body (k:Int)=if (decide (i≤k) && p d[k]!)=true then some (.inl ((k:Int) - 1)) else some (.inr (k:Int))):∀ j:Nat,j≤J→bd body (j:Int)=some ((scanDown p d i j:Nat):Int)
 | 0,hj=>by
  rw [scanDown]
  refine gW ?_
  rw [h 0 hj,if_neg (by simp; omega)]
 | j+1,hj=>by
  rw [scanDown]
  by_cases hc:(decide (i≤j+1) && p d[j+1]!)=true
  ·rw [if_pos hc,si (s':=(j:Int)) (by rw [h _ hj,if_pos hc]; congr 2; omega)]
   exact aas hi h j (by omega)
  ·rw [if_neg hc]
   refine gW ?_
   rw [h _ hj,if_neg hc]
theorem aar{p:Int→Bool}{d:Array Int}{i j:Nat}(h:i≤j+1):i≤scanUp p d j i∧scanUp p d j i≤j+1:=by
 obtain ⟨h1,h2,_⟩:=scanUp_spec p d j _ i rfl
 exact ⟨h1,h2 h⟩
theorem T5(p:Int→Bool)(d:Array Int)(i j:Nat):scanDown p d i j≤j:=(scanDown_spec p d i j).1
theorem aat{p q:Int→Bool}(hq:∀ x,q x=!p x){d:Array Int}{i j:Nat}(hi:0 < i)(h:¬ scanUp p d j i > scanDown q d (scanUp p d j i) j):scanUp p d j i < scanDown q d (scanUp p d j i) j:=by
 obtain ⟨u1,_,_,u4⟩:=scanUp_spec p d j _ i rfl
 obtain ⟨d1,_,_,d4⟩:=scanDown_spec q d (scanUp p d j i) j
 generalize scanUp p d j i=i2 at *
 generalize scanDown q d i2 j=j2 at *
 rcases Nat.lt_or_ge i2 j2 with h1 | h1
 ·exact h1
 ·have e:i2=j2:=by omega
  subst e
  have h2:=u4 (by omega)
  have h3:=d4 (by omega) (by omega)
  rw [hq,h2] at h3
  cases h3
theorem aI2{l:List Int}{a b p:Nat}(hl:ja l)(ml:a≤p)(hpb:p < b)(hb:b≤l.length):∃ l',Ai l a b p=some (l',(((partition ltInt l.toArray a b p).1:Nat):Int),(partition ltInt l.toArray a b p).2.1)∧l'.toArray=(partition ltInt l.toArray a b p).2.2:=by
 unfold Ai partition
 have hB:=hl
 unfold ja at hB
 simp only [cj,bz (show p < l.length by omega),bz (show a < l.length by omega),Option.bind_some,Int.toNat_natCast,nC (show p < l.length by omega)]
 rw [show ((l.set a (nth l p)).set p (nth l a))=iA l a p from rfl]
 generalize hD:iA l a p=D
 have zt:D.length=l.length:=by rw [← hD,mL]
 rw [← nD,hD]
 have hga:D[a]? = some (nth D a):=bz (by omega)
 have eb:i64 ((b:Int) - 1)=((b - 1:Nat):Int):=jJ (by omega) (by omega)
 rw [eb,cK (i:=a) (by omega)]
 have up:∀ (m:List Int) (J i:Nat),m.length=l.length→J < b→bd (λ (s:Int) =>
   ae (decide (s≤(J:Int)))
   ((idx m s).bind λ x=>(m[a]?).bind λ y=>(fB x y).bind λ c=>ae c (some (.inl (i64 (s+1)))) (some (.inr s)))
   (some (.inr s)):Int→Option (Int ⊕ Int)) (i:Int)=some ((scanUp (λ x=>ltInt x m.toArray[a]!) m.toArray J i:Nat):Int):=λ m J i hm hJ=>ahD (λ k=>by
  rw [FD,jz,jz]
  by_cases hk:k≤J
  ·simp only [decide_eq_true hk,bw,cj,bz (show k < m.length by omega),bz (show a < m.length by omega),Option.bind_some,pd,Bool.true_and,cK (i:=k) (by omega)]
   cases ltInt (nth m k) (nth m a) <;> rfl
  ·simp [hk]) i
 have dn:∀ (m:List Int) (i j:Nat),m.length=l.length→0 < i→j < b→bd (λ (s:Int) =>
   ae (decide ((i:Int)≤s))
   ((idx m s).bind λ x=>(m[a]?).bind λ y=>(fB x y).bind λ c=>ae (!c) (some (.inl (i64 (s - 1)))) (some (.inr s)))
   (some (.inr s)):Int→Option (Int ⊕ Int)) (j:Int)=some ((scanDown (λ x=>!ltInt x m.toArray[a]!) m.toArray i j:Nat):Int):=λ m i j hm hi hj=>aas (J:=j) hi (λ k jG=>by
  rw [FD,jz,jz]
  by_cases hk:i≤k
  ·simp only [decide_eq_true hk,bw,cj,bz (show k < m.length by omega),bz (show a < m.length by omega),Option.bind_some,pd,Bool.true_and,dR (z:=(k:Int) - 1) (by omega) (by omega)]
   cases ltInt (nth m k) (nth m a) <;> rfl
  ·simp [hk]) j (Nat.le_refl _)
 rw [gp (up D (b - 1) (a+1) zt (by omega))]
 have b7:=aat (p:=λ x=>ltInt x D.toArray[a]!) (q:=λ x=>!ltInt x D.toArray[a]!) (λ _=>rfl) (d:=D.toArray) (i:=a+1) (j:=b - 1) (by omega)
 have hu:=aar (p:=λ x=>ltInt x D.toArray[a]!) (d:=D.toArray) (i:=a+1) (j:=b - 1) (by omega)
 generalize scanUp (λ x=>ltInt x D.toArray[a]!) D.toArray (b - 1) (a+1)=i at hu b7
 rw [gp (dn D i (b - 1) zt (by omega) (by omega))]
 have hd:=T5 (λ x=>!ltInt x D.toArray[a]!) D.toArray i (b - 1)
 have Cm:=(scanDown_spec (λ x=>!ltInt x D.toArray[a]!) D.toArray i (b - 1)).2.1 (by omega)
 generalize scanDown (λ x=>!ltInt x D.toArray[a]!) D.toArray i (b - 1)=j at hd Cm b7
 rw [NW]
 have lQ:D[j]? = some (nth D j):=bz (by omega)
 by_cases ew:i > j
 ·simp only [ew,decide_true,bw,if_true,cj,hga,lQ,Option.bind_some,Int.toNat_natCast,nC (show a < D.length by omega)]
  exact ⟨iA D j a,rfl,nD _ _ _⟩
 ·have hgi:D[i]? = some (nth D i):=bz (by omega)
  have b7:=b7 ew
  simp only [ew,decide_false,bm,if_false,cj,lQ,hgi,Option.bind_some,Int.toNat_natCast,nC (show j < D.length by omega),cK (i:=i) (by omega),jJ (i:=j) (by omega) (by omega)]
  rw [show ((D.set i (nth D j)).set j (nth D i))=iA D i j from rfl,← nD]
  generalize hT:partLoop ltInt a (i+1) (j - 1) (iA D i j).toArray=T
  suffices hx:∃ z:List Int × Int × Bool,_=some z∧(z.2=(((T.1:Nat):Int),false)∧z.1.toArray=swp T.2 T.1 a) by
   obtain ⟨z,hz,h1,h2⟩:=hx
   exact ⟨z.1,by rw [← h1]; exact hz,h2⟩
  refine qD (λ s=>∃ (m:List Int) (i j:Nat),s=(m,(i:Int),(j:Int))∧m.length=l.length∧a < i∧i≤j+1∧j < b∧partLoop ltInt a i j m.toArray=T) (λ s=>s.2.2.toNat+1 - s.2.1.toNat)
   (λ o=>∃ m:List Int,o=(m,((T.1:Nat):Int))∧m.length=l.length∧m.toArray=T.2∧T.1 < l.length) ⟨_,i+1,j - 1,rfl,by rw [mL]; exact zt,by omega,by omega,by omega,hT⟩ (λ o ho=>?_) ?_
  ·obtain ⟨m,rfl,hm,sW,br⟩:=ho
   simp only [cj,bz (show a < m.length by omega),bz (show T.1 < m.length by omega),Option.bind_some,Int.toNat_natCast,nC (show a < m.length by omega)]
   exact ⟨(iA m T.1 a,_),rfl,rfl,by rw [nD,sW]⟩
  ·rintro _ ⟨m,i,j,rfl,hm,hi,EN,hj,hT⟩
   rw [partLoop_eq] at hT
   dsimp only
   rw [gp (up m j i hm hj)]
   have b7:=aat (p:=λ x=>ltInt x m.toArray[a]!) (q:=λ x=>!ltInt x m.toArray[a]!) (λ _=>rfl) (d:=m.toArray) (i:=i) (j:=j) (by omega)
   have hu:=aar (p:=λ x=>ltInt x m.toArray[a]!) (d:=m.toArray) (i:=i) (j:=j) EN
   generalize scanUp (λ x=>ltInt x m.toArray[a]!) m.toArray j i=i2 at hu hT b7
   rw [gp (dn m i2 j hm (by omega) hj)]
   have hd:=T5 (λ x=>!ltInt x m.toArray[a]!) m.toArray i2 j
   have Cm:=(scanDown_spec (λ x=>!ltInt x m.toArray[a]!) m.toArray i2 j).2.1 (by omega)
   generalize scanDown (λ x=>!ltInt x m.toArray[a]!) m.toArray i2 j=j2 at hd Cm hT b7
   rw [NW]
   by_cases ew:i2 > j2
   ·rw [if_pos ew] at hT
    right
    rw [decide_eq_true ew]
    subst hT
    exact ⟨(m,(j2:Int)),rfl,m,rfl,hm,rfl,by show j2 < _; omega⟩
   ·rw [if_neg ew,← nD] at hT
    have b7:=b7 ew
    left
    rw [decide_eq_false ew,bm]
    refine ⟨(iA m i2 j2,((i2+1:Nat):Int),((j2 - 1:Nat):Int)),?_,⟨_,i2+1,j2 - 1,rfl,by rw [mL]; exact hm,by omega,by omega,by omega,hT⟩,by simp only [Int.toNat_natCast]; omega⟩
    simp only [cj,bz (show i2 < m.length by omega),bz (show j2 < m.length by omega),Option.bind_some,Int.toNat_natCast,nC (show j2 < m.length by omega),cK (i:=i2) (by omega),jJ (i:=j2) (by omega) (by omega)]
    rfl
theorem aI0{l:List Int}{a b p:Nat}(hl:ja l)(ml:a≤p)(hpb:p < b)(hb:b≤l.length):∃ l',Ah l a b p=some (l',(((partitionEqual ltInt l.toArray a b p).1:Nat):Int))∧l'.toArray=(partitionEqual ltInt l.toArray a b p).2:=by
 unfold Ah partitionEqual
 have hB:=hl
 unfold ja at hB
 simp only [cj,bz (show p < l.length by omega),bz (show a < l.length by omega),Option.bind_some,Int.toNat_natCast,nC (show p < l.length by omega)]
 rw [show ((l.set a (nth l p)).set p (nth l a))=iA l a p from rfl]
 generalize hD:iA l a p=D
 have zt:D.length=l.length:=by rw [← hD,mL]
 rw [← nD,hD]
 have eb:i64 ((b:Int) - 1)=((b - 1:Nat):Int):=jJ (by omega) (by omega)
 rw [eb,cK (i:=a) (by omega)]
 have up:∀ (m:List Int) (J i:Nat),m.length=l.length→J < b→bd (λ (s:Int) =>
   ae (decide (s≤(J:Int)))
   ((m[a]?).bind λ y=>(idx m s).bind λ x=>(fB y x).bind λ c=>ae (!c) (some (.inl (i64 (s+1)))) (some (.inr s)))
   (some (.inr s)):Int→Option (Int ⊕ Int)) (i:Int)=some ((scanUp (λ x=>!ltInt m.toArray[a]! x) m.toArray J i:Nat):Int):=λ m J i hm hJ=>ahD (λ k=>by
  rw [FD,jz,jz]
  by_cases hk:k≤J
  ·simp only [decide_eq_true hk,bw,cj,bz (show k < m.length by omega),bz (show a < m.length by omega),Option.bind_some,pd,Bool.true_and,cK (i:=k) (by omega)]
   cases ltInt (nth m a) (nth m k) <;> rfl
  ·simp [hk]) i
 have dn:∀ (m:List Int) (i j:Nat),m.length=l.length→0 < i→j < b→bd (λ (s:Int) =>
   ae (decide ((i:Int)≤s))
   ((m[a]?).bind λ y=>(idx m s).bind λ x=>(fB y x).bind λ c=>ae c (some (.inl (i64 (s - 1)))) (some (.inr s)))
   (some (.inr s)):Int→Option (Int ⊕ Int)) (j:Int)=some ((scanDown (λ x=>ltInt m.toArray[a]! x) m.toArray i j:Nat):Int):=λ m i j hm hi hj=>aas (J:=j) hi (λ k jG=>by
  rw [FD,jz,jz]
  by_cases hk:i≤k
  ·simp only [decide_eq_true hk,bw,cj,bz (show k < m.length by omega),bz (show a < m.length by omega),Option.bind_some,pd,Bool.true_and,dR (z:=(k:Int) - 1) (by omega) (by omega)]
   cases ltInt (nth m a) (nth m k) <;> rfl
  ·simp [hk]) j (Nat.le_refl _)
 generalize hT:partEqLoop ltInt a (a+1) (b - 1) D.toArray=T
 suffices hx:∃ z:List Int × Int,_=some z∧(z.2=((T.1:Nat):Int)∧z.1.toArray=T.2) by
  obtain ⟨z,hz,h1,h2⟩:=hx
  exact ⟨z.1,by rw [← h1]; exact hz,h2⟩
 refine qD (λ s=>∃ (m:List Int) (i j:Nat),s=(m,(i:Int),(j:Int))∧m.length=l.length∧a < i∧i≤j+1∧j < b∧partEqLoop ltInt a i j m.toArray=T) (λ s=>s.2.2.toNat+1 - s.2.1.toNat)
  (λ o=>∃ m:List Int,o=(m,((T.1:Nat):Int))∧m.toArray=T.2) ⟨_,a+1,b - 1,rfl,zt,by omega,by omega,by omega,hT⟩ (λ o ho=>?_) ?_
 ·obtain ⟨m,rfl,sW⟩:=ho
  exact ⟨_,rfl,rfl,sW⟩
 ·rintro _ ⟨m,i,j,rfl,hm,hi,EN,hj,hT⟩
  rw [partEqLoop_eq] at hT
  dsimp only
  rw [gp (up m j i hm hj)]
  have b7:=aat (p:=λ x=>!ltInt m.toArray[a]! x) (q:=λ x=>ltInt m.toArray[a]! x) (λ _=>by simp) (d:=m.toArray) (i:=i) (j:=j) (by omega)
  have hu:=aar (p:=λ x=>!ltInt m.toArray[a]! x) (d:=m.toArray) (i:=i) (j:=j) EN
  generalize scanUp (λ x=>!ltInt m.toArray[a]! x) m.toArray j i=i2 at hu hT b7
  rw [gp (dn m i2 j hm (by omega) hj)]
  have hd:=T5 (λ x=>ltInt m.toArray[a]! x) m.toArray i2 j
  have Cm:=(scanDown_spec (λ x=>ltInt m.toArray[a]! x) m.toArray i2 j).2.1 (by omega)
  generalize scanDown (λ x=>ltInt m.toArray[a]! x) m.toArray i2 j=j2 at hd Cm hT b7
  rw [NW]
  by_cases ew:i2 > j2
  ·rw [if_pos ew] at hT
   right
   rw [decide_eq_true ew]
   subst hT
   exact ⟨(m,(i2:Int)),rfl,m,rfl,rfl⟩
  ·rw [if_neg ew,← nD] at hT
   have b7:=b7 ew
   left
   rw [decide_eq_false ew,bm]
   refine ⟨(iA m i2 j2,((i2+1:Nat):Int),((j2 - 1:Nat):Int)),?_,⟨_,i2+1,j2 - 1,rfl,by rw [mL]; exact hm,by omega,by omega,by omega,hT⟩,by simp only [Int.toNat_natCast]; omega⟩
   simp only [cj,bz (show i2 < m.length by omega),bz (show j2 < m.length by omega),Option.bind_some,Int.toNat_natCast,nC (show j2 < m.length by omega),cK (i:=i2) (by omega),jJ (i:=j2) (by omega) (by omega)]
   rfl
end Go.Proofs.YtabamagholjdcaaGreatDoor
namespace Go.Proofs.YtabamagholjdcaaGreatDoor
open Go.Lg Go.Proofs Go.Sort
set_option maxRecDepth 10000
theorem aIY{l:List Int}{a b:Nat}(hl:ja l)(cH:a < b)(hb:b≤l.length):∃ l',vy l a b=some (l',(partialInsertionSort ltInt l.toArray a b).2)∧l'.toArray=(partialInsertionSort ltInt l.toArray a b).1:=by
 unfold vy partialInsertionSort
 have hB:=hl
 unfold ja at hB
 generalize hT:partialIns ltInt a b 5 (a+1) l.toArray=T
 suffices hx:∃ z:List Int × Bool,_=some z∧(z.2=T.2∧z.1.toArray=T.1) by
  obtain ⟨z,hz,h1,h2⟩:=hx
  exact ⟨z.1,by rw [← h1]; exact hz,h2⟩
 rw [cK (i:=a) (by omega)]
 refine qD (λ s=>∃ (m:List Int) (i k:Nat),s=(m,(i:Int),((5 - k:Nat):Int))∧k≤5∧m.length=l.length∧a < i∧i≤b∧partialIns ltInt a b k i m.toArray=T) (λ s=>5 - s.2.2.toNat)
  (λ o=>∃ m:List Int,(o = .inl m∧T.2=false∨o = .inr (m,T.2))∧m.toArray=T.1) ⟨l,a+1,5,rfl,Nat.le_refl _,rfl,by omega,by omega,hT⟩ (λ o ho=>?_) ?_
 ·obtain ⟨m,ho,sW⟩:=ho
  rcases ho with ⟨rfl,h2⟩ | rfl
  ·exact ⟨(m,false),rfl,h2.symm,sW⟩
  ·exact ⟨(m,T.2),rfl,rfl,sW⟩
 ·rintro _ ⟨m,i,k,rfl,hk5,hm,Vk,zC,hT⟩
  dsimp only
  cases k with
  | zero =>
   rw [partialIns] at hT
   subst hT
   right
   exact ⟨.inl m,rfl,m,.inl ⟨rfl,rfl⟩,rfl⟩
  | succ k =>
   rw [partialIns] at hT
   rw [show decide (((5 - (k+1):Nat):Int) < 5)=true by simp; omega,bw]
   have OU:∀ i:Nat,a < i→i≤b→bd (λ (jr:Int) =>
     ae (decide (jr < (b:Int)))
     ((idx m jr).bind λ EC =>
     (idx m (i64 (jr - 1))).bind λ ED =>
     (fB EC ED).bind λ Hu =>
     ae (!Hu)
     (some (.inl (i64 (jr+1))))
     (some (.inr jr)))
     (some (.inr jr)):Int→Option (Int ⊕ Int)) (i:Int)=some ((scanSorted ltInt m.toArray b i:Nat):Int)∧i≤scanSorted ltInt m.toArray b i∧scanSorted ltInt m.toArray b i≤b:=by
    have key:∀ n i:Nat,b - i≤n→a < i→i≤b→bd (λ (jr:Int) =>
      ae (decide (jr < (b:Int)))
      ((idx m jr).bind λ EC =>
      (idx m (i64 (jr - 1))).bind λ ED =>
      (fB EC ED).bind λ Hu =>
      ae (!Hu)
      (some (.inl (i64 (jr+1))))
      (some (.inr jr)))
      (some (.inr jr)):Int→Option (Int ⊕ Int)) (i:Int)=some ((scanSorted ltInt m.toArray b i:Nat):Int)∧i≤scanSorted ltInt m.toArray b i∧scanSorted ltInt m.toArray b i≤b:=by
     intro n
     induction n with
     | zero =>
      intro i hn hi zC
      have:¬ i < b:=by omega
      rw [scanSorted,if_neg (by simp [this])]
      exact ⟨gW (by rw [oY,decide_eq_false this,bm]),Nat.le_refl _,zC⟩
     | succ n ih =>
      intro i hn hi zC
      rw [scanSorted,jz,jz]
      by_cases h1:i < b
      ·have g1:m[i]? = some (nth m i):=bz (by omega)
       have g2:m[i - 1]? = some (nth m (i - 1)):=bz (by omega)
       cases hx:ltInt (nth m i) (nth m (i - 1)) with
       | true =>
        rw [if_neg (by simp)]
        refine ⟨gW ?_,Nat.le_refl _,zC⟩
        simp only [oY,decide_eq_true h1,bw,jJ (i:=i) (by omega) (by omega),cj,g1,g2,Option.bind_some,pd,hx,Bool.not_true,bm]
       | false =>
        rw [if_pos (by simp [h1])]
        obtain ⟨q1,q2,q3⟩:=ih (i+1) (by omega) (by omega) (by omega)
        refine ⟨?_,by omega,q3⟩
        rw [si (s':=((i+1:Nat):Int)) (by simp only [oY,decide_eq_true h1,bw,jJ (i:=i) (by omega) (by omega),cj,g1,g2,Option.bind_some,pd,hx,Bool.not_false,cK (i:=i) (by omega)])]
        exact q1
      ·rw [if_neg (by simp [h1])]
       exact ⟨gW (by rw [oY,decide_eq_false h1,bm]),Nat.le_refl _,zC⟩
    exact λ i hi zC=>key _ i (Nat.le_refl _) hi zC
   obtain ⟨q1,q2,q3⟩:=OU i Vk zC
   rw [gp q1]
   generalize scanSorted ltInt m.toArray b i=i2 at q2 q3 hT
   dsimp only at hT ⊢
   rw [show (((i2:Nat):Int) == ((b:Nat):Int))=decide (i2=b) by rw [Bool.eq_iff_iff,beq_iff_eq,decide_eq_true_eq]; omega]
   by_cases h1:i2=b
   ·rw [if_pos h1] at hT
    subst hT
    right
    exact ⟨.inr (m,true),by rw [decide_eq_true h1]; rfl,m,.inr rfl,rfl⟩
   ·rw [if_neg h1] at hT
    rw [decide_eq_false h1,bm,qA (i:=b) (j:=a) (by omega) (by omega),show decide (((b - a:Nat):Int) < 50)=decide (b - a < 50) from oY (j:=50)]
    by_cases h2:b - a < 50
    ·rw [if_pos h2] at hT
     subst hT
     right
     exact ⟨.inr (m,false),by rw [decide_eq_true h2]; rfl,m,.inr rfl,rfl⟩
    ·rw [if_neg h2] at hT
     rw [decide_eq_false h2,bm]
     left
     have g1:m[i2]? = some (nth m i2):=bz (by omega)
     have g2:m[i2 - 1]? = some (nth m (i2 - 1)):=bz (by omega)
     simp only [jJ (i:=i2) (by omega) (by omega),cj,g1,g2,Option.bind_some,Int.toNat_natCast,nC (show i2 - 1 < m.length by omega)]
     rw [show ((m.set i2 (nth m (i2 - 1))).set (i2 - 1) (nth m i2))=iA m i2 (i2 - 1) from rfl]
     rw [← nD] at hT
     generalize hS:iA m i2 (i2 - 1)=S at hT
     have hSl:S.length=l.length:=by rw [← hS,mL]; exact hm
     have hd1:∃ D:List Int,((((ae (decide (i64 ((i2:Int) - (a:Int)) ≥ 2))
       ((bd (O:=(List Int)) (λ (dy:((List Int) × Int)) =>
       ae (decide (dy.2 ≥ 1))
       ((idx dy.1 dy.2).bind λ LF =>
       (idx dy.1 (i64 (dy.2 - 1))).bind λ LG =>
       (fB LF LG).bind λ QG =>
       ae (!QG)
       (some (.inr dy.1))
       ((idx dy.1 (i64 (dy.2 - 1))).bind λ Ei =>
       (idx dy.1 dy.2).bind λ LH =>
       (idx dy.1 dy.2).bind λ aa2 =>
       (idx (dy.1.set dy.2.toNat Ei) (i64 (dy.2 - 1))).bind λ aa3 =>
       some (.inl ((dy.1.set dy.2.toNat Ei).set (i64 (dy.2 - 1)).toNat LH,i64 (dy.2 - 1)))))
       (some (.inr dy.1))) (S,((i2 - 1:Nat):Int))).bind (λ (GN:(List Int)) =>
       some GN))
       (some S)):Option (List Int)))=some D)∧D.length=l.length∧D.toArray=if i2 - a ≥ 2 then shiftDown ltInt (i2 - 1) S.toArray else S.toArray:=by
      rw [qA (i:=i2) (j:=a) (by omega) (by omega),show decide (((i2 - a:Nat):Int) ≥ 2)=decide (i2 - a ≥ 2) from I1 (j:=2)]
      by_cases h3:i2 - a ≥ 2
      ·rw [decide_eq_true h3,bw,if_pos h3]
       refine qD (λ s=>∃ (q:List Int) (j:Nat),s=(q,(j:Int))∧q.length=l.length∧j < l.length∧shiftDown ltInt j q.toArray=shiftDown ltInt (i2 - 1) S.toArray) (λ s=>s.2.toNat)
        (λ o=>o.length=l.length∧o.toArray=shiftDown ltInt (i2 - 1) S.toArray) ⟨S,i2 - 1,rfl,hSl,by omega,rfl⟩ (λ o ho=>⟨o,rfl,ho⟩) ?_
       rintro _ ⟨q,j,rfl,hq,hj,il⟩
       dsimp only
       cases j with
       | zero=>right; exact ⟨q,rfl,hq,il⟩
       | succ j =>
        rw [shiftDown,jz,jz] at il
        rw [show decide (((j+1:Nat):Int) ≥ 1)=true by simp; omega,bw,agl (by omega)]
        simp only [cj,bz (show j+1 < q.length by omega),bz (show j < q.length by omega),Option.bind_some,pd,Int.toNat_natCast,nC (show j < q.length by omega)]
        cases hx:ltInt (nth q (j+1)) (nth q j) with
        | false=>rw [hx] at il; right; exact ⟨q,rfl,hq,by simpa using il⟩
        | true =>
         rw [hx] at il
         simp only [Bool.not_true,Bool.false_eq_true,if_false] at il
         left
         exact ⟨(iA q (j+1) j,(j:Int)),rfl,⟨_,j,rfl,by rw [mL]; exact hq,by omega,by rw [nD]; exact il⟩,by simp only [Int.toNat_natCast]; omega⟩
      ·rw [decide_eq_false h3,bm,if_neg h3]
       exact ⟨S,rfl,hSl,rfl⟩
     obtain ⟨D,hD1,zt,hDa⟩:=hd1
     rw [hD1,Option.bind_some]
     rw [← hDa] at hT
     have Cm:∃ U:List Int,U.length=l.length∧U.toArray=(if b - i2 ≥ 2 then shiftUp ltInt b (i2+1) D.toArray else D.toArray)∧(b - i2 ≥ 2→bd (O:=(List Int)) (λ (cz:((List Int) × Int)) =>
       ae (decide (cz.2 < (b:Int)))
       ((idx cz.1 cz.2).bind λ Ej =>
       (idx cz.1 (i64 (cz.2 - 1))).bind λ Ek =>
       (fB Ej Ek).bind λ He =>
       ae (!He)
       (some (.inr cz.1))
       ((idx cz.1 (i64 (cz.2 - 1))).bind λ vS =>
       (idx cz.1 cz.2).bind λ El =>
       (idx cz.1 cz.2).bind λ QH =>
       (idx (cz.1.set cz.2.toNat vS) (i64 (cz.2 - 1))).bind λ QI =>
       some (.inl ((cz.1.set cz.2.toNat vS).set (i64 (cz.2 - 1)).toNat El,i64 (cz.2+1)))))
       (some (.inr cz.1))) (D,((i2+1:Nat):Int))=some U):=by
      by_cases h3:b - i2 ≥ 2
      ·rw [if_pos h3]
       obtain ⟨U,hU,Vj,Jk⟩:=Zx (S:=List Int × Int) (O:=List Int) (body:=λ (cz:((List Int) × Int)) =>
        ae (decide (cz.2 < (b:Int)))
        ((idx cz.1 cz.2).bind λ Ej =>
        (idx cz.1 (i64 (cz.2 - 1))).bind λ Ek =>
        (fB Ej Ek).bind λ He =>
        ae (!He)
        (some (.inr cz.1))
        ((idx cz.1 (i64 (cz.2 - 1))).bind λ vS =>
        (idx cz.1 cz.2).bind λ El =>
        (idx cz.1 cz.2).bind λ QH =>
        (idx (cz.1.set cz.2.toNat vS) (i64 (cz.2 - 1))).bind λ QI =>
        some (.inl ((cz.1.set cz.2.toNat vS).set (i64 (cz.2 - 1)).toNat El,i64 (cz.2+1)))))
        (some (.inr cz.1))) (λ s=>∃ (q:List Int) (j:Nat),s=(q,(j:Int))∧q.length=l.length∧0 < j∧shiftUp ltInt b j q.toArray=shiftUp ltInt b (i2+1) D.toArray) (λ s=>b - s.2.toNat)
        (Q:=λ o=>o.length=l.length∧o.toArray=shiftUp ltInt b (i2+1) D.toArray) (by
         rintro _ ⟨q,j,rfl,hq,hj,il⟩
         rw [shiftUp] at il
         dsimp only
         rw [oY]
         by_cases h4:j < b
         ·rw [if_pos h4,jz,jz] at il
          rw [decide_eq_true h4,bw,jJ (i:=j) (by omega) hj]
          simp only [cj,bz (show j < q.length by omega),bz (show j - 1 < q.length by omega),Option.bind_some,pd,Int.toNat_natCast,nC (show j - 1 < q.length by omega),cK (i:=j) (by omega)]
          cases hx:ltInt (nth q j) (nth q (j - 1)) with
          | false=>rw [hx] at il; right; exact ⟨q,rfl,hq,by simpa using il⟩
          | true =>
           rw [hx] at il
           simp only [Bool.not_true,Bool.false_eq_true,if_false] at il
           left
           exact ⟨(iA q j (j - 1),((j+1:Nat):Int)),rfl,⟨_,j+1,rfl,by rw [mL]; exact hq,by omega,by rw [nD]; exact il⟩,by simp only [Int.toNat_natCast]; omega⟩
         ·rw [if_neg h4] at il
          right
          exact ⟨q,by rw [decide_eq_false h4,bm],hq,il⟩) (D,((i2+1:Nat):Int)) ⟨D,i2+1,rfl,zt,by omega,rfl⟩
       exact ⟨U,Vj,Jk,λ _=>hU⟩
      ·rw [if_neg h3]
       exact ⟨D,zt,rfl,λ h=>absurd h h3⟩
     obtain ⟨U,Vj,Jk,hU⟩:=Cm
     rw [← Jk] at hT
     refine ⟨(U,(i2:Int),((5 - k:Nat):Int)),?_,⟨U,i2,k,rfl,by omega,Vj,by omega,by omega,hT⟩,by simp only [Int.toNat_natCast]; omega⟩
     have ek:i64 (((5 - (k+1):Nat):Int)+1)=((5 - k:Nat):Int):=by rw [dR (by omega) (by omega)]; omega
     rw [qA (i:=b) (j:=i2) (by omega) (by omega),show decide (((b - i2:Nat):Int) ≥ 2)=decide (b - i2 ≥ 2) from I1 (j:=2),cK (i:=i2) (by omega),ek]
     by_cases h3:b - i2 ≥ 2
     ·rw [decide_eq_true h3,bw,gp (hU h3)]
     ·rw [decide_eq_false h3,bm]
      rw [if_neg h3] at Jk
      rw [show U=D from by simpa using Jk]
end Go.Proofs.YtabamagholjdcaaGreatDoor
namespace Go.Proofs.YtabamagholjdcaaGreatDoor
open Go.Lg Go.Proofs Go.Sort
set_option maxRecDepth 10000
theorem aiI(z:Int):IntKind.wrap .u64 z=z.emod 18446744073709551616:=by
 simp [IntKind.wrap,IntKind.bits,IntKind.signed]
 rfl
theorem aiJ(z:Int):0≤IntKind.wrap .u64 z∧IntKind.wrap .u64 z < 18446744073709551616:=by
 rw [aiI]
 exact ⟨Int.emod_nonneg _ (by omega),Int.emod_lt_of_pos _ (by omega)⟩
theorem aiK{z:Int}(h0:0≤z)(h1:z < 18446744073709551616):IntKind.wrap .u64 z=z:=by
 rw [aiI]
 exact Int.emod_eq_of_lt h0 h1
theorem ahI{a b:Int}(hb:0≤b):∃ z,se .u64 a b=some z∧0≤z∧z < 18446744073709551616:=by
 unfold se
 rw [if_neg (by omega)]
 exact ⟨_,rfl,aiJ _⟩
theorem aLe{a b:Int}(hb:0≤b):∃ z,qV .u64 a b=some z:=by
 unfold qV
 rw [if_neg (by omega)]
 exact ⟨_,rfl⟩
theorem abt(a b:Int):∃ z,pL .xor .u64 a b=some z∧0≤z∧z < 18446744073709551616:=⟨_,rfl,aiJ _⟩
theorem aI9(x:Int):∃ y,DM x=some (y,y)∧0≤y∧y < 18446744073709551616:=by
 unfold DM
 obtain ⟨a,ha,_⟩:=ahI (a:=x) (b:=13) (by omega)
 rw [ha,Option.bind_some]
 obtain ⟨c,hc,_⟩:=abt x a
 rw [hc,Option.bind_some]
 obtain ⟨d,hd⟩:=aLe (a:=c) (b:=7) (by omega)
 rw [hd,Option.bind_some]
 obtain ⟨e,he,_⟩:=abt c d
 rw [he,Option.bind_some]
 obtain ⟨f,hf,_⟩:=ahI (a:=e) (b:=17) (by omega)
 rw [hf,Option.bind_some]
 obtain ⟨g,hg,h0,h1⟩:=abt e f
 rw [hg,Option.bind_some]
 exact ⟨g,rfl,h0,h1⟩
theorem aor{a m:Int}(hm:0≤m)(OJ:m < 18446744073709551616):∃ z:Nat,pL .and .u64 a m=some (z:Int)∧(z:Int)≤m:=by
 unfold pL
 simp only
 have h1:(BitVec.ofInt IntKind.u64.bits a &&& BitVec.ofInt IntKind.u64.bits m).toNat≤(BitVec.ofInt IntKind.u64.bits m).toNat:=by
  rw [BitVec.toNat_and]
  exact Nat.and_le_right
 have h2:(BitVec.ofInt IntKind.u64.bits m).toNat=m.toNat:=by
  rw [BitVec.toNat_ofInt]
  have:((2 ^ IntKind.u64.bits:Nat):Int)=18446744073709551616:=by decide
  rw [this,Int.emod_eq_of_lt hm OJ]
 rw [h2] at h1
 generalize (BitVec.ofInt IntKind.u64.bits a &&& BitVec.ofInt IntKind.u64.bits m).toNat=z at h1
 exact ⟨z,by rw [aiK (by omega) (by omega)],by omega⟩
def agy(n:Nat):Bool:=(match TM (IntKind.wrap .u64 (n:Int)) with | some k=>decide (0≤k) && decide (k≤64) | none=>false) && (decide (n < 8) || match TP (n:Int) with | some M=>decide ((n:Int) < M) && decide (M≤2 * (n:Int)) | none=>false)
set_option maxRecDepth 1000000 in
theorem aHX:((List.range 1024).all agy)=true:=by decide +kernel
theorem agz{n:Nat}(h:n < 1024):(∃ k:Nat,Ad (IntKind.wrap .u64 (n:Int))=some (k:Int)∧k≤64)∧(8≤n→∃ M:Nat,DL (n:Int)=some (M:Int)∧n < M∧M≤2 * n):=by
 have:=aHX
 rw [List.all_eq_true] at this
 have h1:=this n (List.mem_range.2 h)
 simp only [agy,Bool.and_eq_true,Bool.or_eq_true,decide_eq_true_eq] at h1
 obtain ⟨h1,h2⟩:=h1
 constructor
 ·cases hc:TM (IntKind.wrap .u64 (n:Int)) with
  | none=>rw [hc] at h1; cases h1
  | some k =>
   rw [hc] at h1
   simp only [Bool.and_eq_true,decide_eq_true_eq] at h1
   exact ⟨k.toNat,by rw [Int.toNat_of_nonneg h1.1]; exact aHi _ _ hc,by omega⟩
 ·intro h8
  rcases h2 with h2 | h2
  ·omega
  ·cases hc:TP (n:Int) with
   | none=>rw [hc] at h2; cases h2
   | some M =>
    rw [hc] at h2
    simp only [Bool.and_eq_true,decide_eq_true_eq] at h2
    exact ⟨M.toNat,by rw [Int.toNat_of_nonneg (by omega)]; exact aHv _ _ hc,by omega,by omega⟩
theorem aak{n d:Nat}(h:n≤1000000000)(hd:0 < d):mF (n:Int) (d:Int)=some ((n / d:Nat):Int):=by
 unfold mF
 have:=Nat.div_le_self n d
 rw [if_neg (by omega),← Int.ofNat_tdiv]
 generalize n / d=q at this
 rw [dR (by omega) (by omega)]
abbrev kT(l:List Int):Prop:=l.length≤1000
theorem aIT{l:List Int}{a b:Nat}(hl:kT l)(cH:a≤b)(hb:b≤l.length):∃ l',xI l a b=some l'∧PermIn a b l.toArray l'.toArray:=by
 unfold xI
 have hB:=hl
 unfold kT at hB
 rw [qA (i:=b) (j:=a) (by omega) (by omega),show decide (((b - a:Nat):Int) ≥ 8)=decide (b - a ≥ 8) from I1 (j:=8)]
 by_cases h8:b - a ≥ 8
 case neg=>exact ⟨l,by rw [decide_eq_false h8,bm],permIn_refl _ _ _⟩
 rw [decide_eq_true h8,bw]
 obtain ⟨M,hM,hM1,hM2⟩:=(agz (n:=b - a) (by omega)).2 h8
 have Uu:mF ((b - a:Nat):Int) 4=some (((b - a) / 4:Nat):Int):=aak (d:=4) (by omega) (by omega)
 rw [hM,Option.bind_some,Uu,Option.bind_some]
 have e1:i64 ((((b - a) / 4:Nat):Int) * 2)=(((b - a) / 4 * 2:Nat):Int):=by rw [dR (by omega) (by omega)]; omega
 rw [e1,vw (i:=a) (j:=(b - a) / 4 * 2) (by omega) (by omega),jJ (i:=a+(b - a) / 4 * 2) (by omega) (by omega)]
 refine qD (λ s=>∃ (m:List Int) (i:Nat) (r:Int),s=(m,(i:Int),r)∧a≤i∧m.length=l.length∧PermIn a b l.toArray m.toArray) (λ s=>b - s.2.1.toNat)
  (λ o=>PermIn a b l.toArray o.toArray) ⟨l,a+(b - a) / 4 * 2 - 1,_,rfl,by omega,rfl,permIn_refl _ _ _⟩ (λ o ho=>⟨o,rfl,ho⟩) ?_
 rintro _ ⟨m,i,r,rfl,Vk,hm,hP⟩
 dsimp only
 rw [Option.bind_some,e1,vw (i:=a) (j:=(b - a) / 4 * 2) (by omega) (by omega),cK (i:=a+(b - a) / 4 * 2) (by omega),aiK (z:=(M:Int) - 1) (by omega) (by omega),FD]
 by_cases hi:i≤a+(b - a) / 4 * 2+1
 ·left
  rw [decide_eq_true hi,bw]
  obtain ⟨y,hy,_⟩:=aI9 r
  rw [hy,Option.bind_some]
  obtain ⟨z,hz,hzM⟩:=aor (a:=y) (m:=(M:Int) - 1) (by omega) (by omega)
  rw [hz,Option.bind_some,dR (z:=(z:Int)) (by omega) (by omega),I1]
  have ayd:∃ t:Nat,t < b - a∧(((ae (decide (z ≥ b - a)) (some (i64 ((z:Int) - ((b - a:Nat):Int)))) (some (z:Int))):Option Int))=some (t:Int):=by
   by_cases Ze:z ≥ b - a
   ·exact ⟨z - (b - a),by omega,by rw [decide_eq_true Ze,bw,qA (by omega) Ze]⟩
   ·exact ⟨z,by omega,by rw [decide_eq_false Ze,bm]⟩
  obtain ⟨t,ht,hte⟩:=ayd
  rw [hte,Option.bind_some,vw (i:=a) (j:=t) (by omega) (by omega)]
  refine ⟨(iA m i (a+t),((i+1:Nat):Int),y),?_,⟨_,i+1,y,rfl,by omega,by rw [mL]; exact hm,?_⟩,by simp only [Int.toNat_natCast]; omega⟩
  ·simp only [cj,bz (show i < m.length by omega),bz (show a+t < m.length by omega),Option.bind_some,Int.toNat_natCast,nC (show a+t < m.length by omega),cK (i:=i) (by omega)]
   rfl
  ·rw [nD]
   exact permIn_trans _ _ _ a b hP (swp_permIn _ a b i (a+t) Vk (by omega) (by omega) (by omega) (by simp; omega))
 ·right
  exact ⟨m,by rw [decide_eq_false hi,bm],hP⟩
theorem Pm{l:List Int}{i j:Nat}(hi:i < l.length)(hj:j < l.length)(s:Int):∃ s',rO l i j s=some (s',(i:Int),(j:Int))∨rO l i j s=some (s',(j:Int),(i:Int)):=by
 unfold rO
 simp only [cj,bz hi,bz hj,Option.bind_some,pd]
 cases ltInt (nth l j) (nth l i) with
 | true=>exact ⟨_,.inr rfl⟩
 | false=>exact ⟨_,.inl rfl⟩
theorem ZR{l:List Int}{i j k:Nat}(hi:i < l.length)(hj:j < l.length)(hk:k < l.length)(s:Int):∃ (s':Int) (p:Nat),tB l i j k s=some (s',(p:Int))∧(p=i∨p=j∨p=k):=by
 unfold tB
 have key:∀ (x y:Nat) (s:Int),x < l.length→y < l.length→(x=i∨x=j)→(y=i∨y=j)→∃ (s':Int) (p:Nat),((rO l (y:Int) (k:Int) s).bind λ gZ=>(rO l (x:Int) gZ.2.1 gZ.1).bind λ fg=>some (fg.1,fg.2.2))=some (s',(p:Int))∧(p=i∨p=j∨p=k):=by
  intro x y s hx hy gV hy1
  obtain ⟨t,ht | ht⟩:=Pm hy hk s
  ·rw [ht,Option.bind_some]
   obtain ⟨u,hu | hu⟩:=Pm hx hy t
   ·exact ⟨u,y,by rw [hu]; rfl,by omega⟩
   ·exact ⟨u,x,by rw [hu]; rfl,by omega⟩
  ·rw [ht,Option.bind_some]
   obtain ⟨u,hu | hu⟩:=Pm hx hk t
   ·exact ⟨u,k,by rw [hu]; rfl,by omega⟩
   ·exact ⟨u,x,by rw [hu]; rfl,by omega⟩
 obtain ⟨t,ht | ht⟩:=Pm hi hj s
 ·rw [ht,Option.bind_some]
  exact key i j t hi hj (.inl rfl) (.inr rfl)
 ·rw [ht,Option.bind_some]
  exact key j i t hj hi (.inr rfl) (.inl rfl)
theorem ZP{l:List Int}{i:Nat}(kZ:0 < i)(hi:i+1 < l.length)(hl:kT l)(s:Int):∃ (s':Int) (p:Nat),rN l i s=some (s',(p:Int))∧i - 1≤p∧p≤i+1:=by
 unfold rN
 unfold kT at hl
 rw [jJ (i:=i) (by omega) kZ,cK (i:=i) (by omega)]
 obtain ⟨t,p,hp,CF⟩:=ZR (l:=l) (i:=i - 1) (j:=i) (k:=i+1) (by omega) (by omega) hi s
 exact ⟨t,p,by rw [hp]; rfl,by omega,by omega⟩
theorem aIV{l:List Int}{a b:Nat}(hl:kT l)(cH:a+12 < b)(hb:b≤l.length):∃ (p:Nat) (h:Int),Ag l a b=some ((p:Int),h)∧a≤p∧p < b:=by
 unfold Ag
 have hB:=hl
 unfold kT at hB
 have Uu:mF ((b - a:Nat):Int) 4=some (((b - a) / 4:Nat):Int):=aak (d:=4) (by omega) (by omega)
 rw [qA (i:=b) (j:=a) (by omega) (by omega),Uu]
 simp only [Option.bind_some]
 have e1:i64 ((((b - a) / 4:Nat):Int) * 1)=(((b - a) / 4:Nat):Int):=by rw [dR (by omega) (by omega)]; omega
 have e2:i64 ((((b - a) / 4:Nat):Int) * 2)=(((b - a) / 4 * 2:Nat):Int):=by rw [dR (by omega) (by omega)]; omega
 have e3:i64 ((((b - a) / 4:Nat):Int) * 3)=(((b - a) / 4 * 3:Nat):Int):=by rw [dR (by omega) (by omega)]; omega
 rw [e1,e2,e3,vw (i:=a) (by omega) (by omega),vw (i:=a) (by omega) (by omega),vw (i:=a) (by omega) (by omega),show decide (((b - a:Nat):Int) ≥ 8)=true by simp; omega,bw]
 have hq:∃ (p:Nat) (h:Int),(((ae (decide (((b - a:Nat):Int) ≥ 50))
   ((rN l ((a+(b - a) / 4:Nat):Int) 0).bind λ ey =>
   (rN l ((a+(b - a) / 4 * 2:Nat):Int) ey.1).bind λ eM =>
   (rN l ((a+(b - a) / 4 * 3:Nat):Int) eM.1).bind λ dP =>
   (tB l ey.2 eM.2 dP.2 dP.1).bind λ gD =>
   some (gD.2,gD.1))
   ((tB l ((a+(b - a) / 4:Nat):Int) ((a+(b - a) / 4 * 2:Nat):Int) ((a+(b - a) / 4 * 3:Nat):Int) 0).bind λ kg =>
   some (kg.2,kg.1))):Option (Int × Int)))=some ((p:Int),h)∧a≤p∧p < b:=by
  by_cases h50:b - a ≥ 50
  ·rw [show decide (((b - a:Nat):Int) ≥ 50)=true by simp; omega,bw]
   obtain ⟨s1,p1,q1,r1,r1'⟩:=ZP (l:=l) (i:=a+(b - a) / 4) (by omega) (by omega) hl 0
   rw [q1,Option.bind_some]
   obtain ⟨s2,p2,q2,r2,r2'⟩:=ZP (l:=l) (i:=a+(b - a) / 4 * 2) (by omega) (by omega) hl s1
   rw [q2,Option.bind_some]
   obtain ⟨s3,p3,q3,r3,r3'⟩:=ZP (l:=l) (i:=a+(b - a) / 4 * 3) (by omega) (by omega) hl s2
   rw [q3,Option.bind_some]
   obtain ⟨s4,p4,q4,r4⟩:=ZR (l:=l) (i:=p1) (j:=p2) (k:=p3) (by omega) (by omega) (by omega) s3
   exact ⟨p4,s4,by rw [q4]; rfl,by omega,by omega⟩
  ·rw [show decide (((b - a:Nat):Int) ≥ 50)=false by simp; omega,bm]
   obtain ⟨s4,p4,q4,r4⟩:=ZR (l:=l) (i:=a+(b - a) / 4) (j:=a+(b - a) / 4 * 2) (k:=a+(b - a) / 4 * 3) (by omega) (by omega) (by omega) 0
   exact ⟨p4,s4,by rw [q4]; rfl,by omega,by omega⟩
 obtain ⟨p,h,hp,CF,JK⟩:=hq
 rw [hp,Option.bind_some]
 cases h == 0 with
 | true=>exact ⟨p,1,rfl,CF,JK⟩
 | false =>
  cases h == 12 with
  | true=>exact ⟨p,2,rfl,CF,JK⟩
  | false=>exact ⟨p,0,rfl,CF,JK⟩
abbrev SI(a b:Nat)(d:Array Int):Prop:=SortedIn ltInt a b d
theorem aKz:∀ (k:Nat) (l:List Int) (a b A3:Nat),kT l→A3≤100→a≤b→b≤l.length→b - a≤12 * 2 ^ k→Below ltInt a b l.toArray→∃ l',tA (k+1) l a b A3=some l'∧PermIn a b l.toArray l'.toArray∧SI a b l'.toArray:=by
 intro k
 induction k with
 | zero =>
  intro l a b A3 hl abJ cH hb hk hB
  have lx:=hl
  unfold kT at lx
  obtain ⟨t,ht,mx⟩:=agY (l:=l) (a:=a) (b:=b) (by unfold ja; omega) cH hb
  obtain ⟨h1,h2⟩:=insertionSort_holds swo_ltInt l.toArray a b cH (by simpa using hb)
  rw [← mx] at h1 h2
  refine ⟨t,?_,h1,h2⟩
  rw [tA]
  rw [gp (o:=t) (gW ?_)]
  dsimp only
  rw [qA (i:=b) (j:=a) (by omega) (by omega),show decide (((b - a:Nat):Int)≤12)=true by simp; omega,bw,ht]
  rfl
 | succ k ih =>
  intro l a b A3 hl abJ cH hb hk hB
  have lx:=hl
  unfold kT at lx
  rw [tA]
  refine qD (λ s=>∃ (m:List Int) (x y lm:Nat) (wb wp:Bool),s=(m,(x:Int),(y:Int),(lm:Int),wb,wp)∧m.length=l.length∧x≤y∧y≤l.length∧lm≤100∧y - x≤12 * 2 ^ (k+1)∧Below ltInt x y m.toArray∧∀ R,PermIn x y m.toArray R→SI x y R→PermIn a b l.toArray R∧SI a b R) (λ s=>s.2.2.1.toNat - s.2.1.toNat)
   (λ o=>PermIn a b l.toArray o.toArray∧SI a b o.toArray) ⟨l,a,b,A3,true,true,rfl,rfl,cH,hb,abJ,hk,hB,λ R h1 h2=>⟨h1,h2⟩⟩ (λ o ho=>⟨o,rfl,ho⟩) ?_
  rintro _ ⟨m,x,y,lm,wb,wp,rfl,hm,lR,hy,aYZ,hk,hB,hR⟩
  dsimp only
  have hms:m.toArray.size=l.length:=by simpa using hm
  rw [qA (i:=y) (j:=x) (by omega) (by omega),show decide (((y - x:Nat):Int)≤12)=decide (y - x≤12) from FD (j:=12)]
  by_cases h12:y - x≤12
  ·right
   obtain ⟨t,ht,mx⟩:=agY (l:=m) (a:=x) (b:=y) (by unfold ja; omega) lR (by omega)
   obtain ⟨h1,h2⟩:=insertionSort_holds swo_ltInt m.toArray x y lR (by omega)
   rw [← mx] at h1 h2
   exact ⟨t,by rw [decide_eq_true h12,bw,ht]; rfl,hR _ h1 h2⟩
  rw [decide_eq_false h12,bm,show (((lm:Nat):Int) == 0)=decide (lm=0) by rw [Bool.eq_iff_iff,beq_iff_eq,decide_eq_true_eq]; omega]
  by_cases hlm:lm=0
  ·right
   obtain ⟨t,ht,mx⟩:=aIQ (l:=m) (a:=x) (b:=y) (by unfold ja; omega) (by omega) (by omega)
   obtain ⟨h1,h2⟩:=heapSort_holds swo_ltInt m.toArray x y lR (by omega)
   rw [← mx] at h1 h2
   exact ⟨t,by rw [decide_eq_true hlm,bw,ht]; rfl,hR _ h1 h2⟩
  rw [decide_eq_false hlm,bm]
  have vi:∃ (m1:List Int) (zX:Nat),(((ae (!wb)
    ((xI m (x:Int) (y:Int)).bind λ ui =>
    some (ui,i64 ((lm:Int) - 1)))
    (some (m,(lm:Int)))):Option ((List Int) × Int)))=some (m1,(zX:Int))∧zX≤lm∧PermIn x y m.toArray m1.toArray:=by
   cases wb with
   | true=>exact ⟨m,lm,rfl,Nat.le_refl _,permIn_refl _ _ _⟩
   | false =>
    obtain ⟨t,ht,htp⟩:=aIT (l:=m) (a:=x) (b:=y) (by unfold kT; omega) lR (by omega)
    refine ⟨t,lm - 1,?_,by omega,htp⟩
    rw [Bool.not_false,bw,ht,Option.bind_some,jJ (i:=lm) (by omega) (by omega)]
  obtain ⟨m1,zX,e1,aYY,UR⟩:=vi
  rw [e1,Option.bind_some]
  have afB:m1.toArray.size=l.length:=by rw [UR.1,hms]
  have OJ:m1.length=l.length:=by simpa using afB
  have hB1:=hB.perm (by omega) UR
  obtain ⟨p,h,e2,CF,JK⟩:=aIV (l:=m1) (a:=x) (b:=y) (by unfold kT; omega) (by omega) (by omega)
  dsimp only
  rw [e2,Option.bind_some]
  have WN:∃ (m2:List Int) (p2:Nat) (h2:Int),(((ae (h == 2)
    ((xJ m1 (x:Int) (y:Int)).bind λ yn =>
    some (yn,i64 ((i64 ((y:Int) - 1)) - (i64 ((p:Int) - (x:Int)))),1))
    (some (m1,(p:Int),h))):Option ((List Int) × Int × Int)))=some (m2,(p2:Int),h2)∧x≤p2∧p2 < y∧PermIn x y m1.toArray m2.toArray:=by
   cases h == 2 with
   | false=>exact ⟨m1,p,h,rfl,CF,JK,permIn_refl _ _ _⟩
   | true =>
    obtain ⟨t,ht,mx⟩:=aIW (l:=m1) (a:=x) (b:=y) (by unfold ja; omega) (by omega) (by omega)
    have hr:=reverseRange_holds m1.toArray x y lR (by omega)
    rw [← mx] at hr
    refine ⟨t,(y - 1) - (p - x),1,?_,by omega,by omega,hr⟩
    rw [bw,ht,Option.bind_some,jJ (i:=y) (by omega) (by omega),qA (i:=p) (j:=x) (by omega) CF,qA (i:=y - 1) (j:=p - x) (by omega) (by omega)]
  obtain ⟨m2,p2,h2,e3,zO,JM,US⟩:=WN
  rw [e3,Option.bind_some]
  have afC:m2.toArray.size=l.length:=by rw [US.1,afB]
  have Me:m2.length=l.length:=by simpa using afC
  have hB2:=hB1.perm (by omega) US
  have arW:=permIn_trans _ _ _ x y UR US
  dsimp only
  have hs3:∃ c:Bool,((((ae wb (ae wp (some (h2 == 1)) (some false)) (some false)):Option Bool))=some c):=by
   cases wb with
   | false=>exact ⟨false,rfl⟩
   | true =>
    cases wp with
    | false=>exact ⟨false,rfl⟩
    | true=>exact ⟨_,rfl⟩
  obtain ⟨c,ec⟩:=hs3
  rw [ec,Option.bind_some]
  have WO:∃ m3:List Int,PermIn x y m2.toArray m3.toArray∧((((ae c
    ((vy m2 (x:Int) (y:Int)).bind λ nI =>
    ae nI.2
    (some (.inr nI.1))
    (some (.inl nI.1)))
    (some (.inl m2))):Option ((List Int) ⊕ (List Int))))=some (.inr m3)∧SI x y m3.toArray∨(((ae c
    ((vy m2 (x:Int) (y:Int)).bind λ nI =>
    ae nI.2
    (some (.inr nI.1))
    (some (.inl nI.1)))
    (some (.inl m2))):Option ((List Int) ⊕ (List Int))))=some (.inl m3)):=by
   cases c with
   | false=>exact ⟨m2,permIn_refl _ _ _,.inr rfl⟩
   | true =>
    obtain ⟨t,ht,mx⟩:=aIY (l:=m2) (a:=x) (b:=y) (by unfold ja; omega) (by omega) (by omega)
    have F0:=partialInsertionSort_holds swo_ltInt m2.toArray x y (by omega) (by omega) hB2
    rw [← mx] at F0
    refine ⟨t,F0.1,?_⟩
    rw [bw,ht,Option.bind_some]
    cases bD:(partialInsertionSort ltInt m2.toArray x y).2 with
    | true=>exact .inl ⟨rfl,F0.2 bD⟩
    | false=>exact .inr rfl
  obtain ⟨m3,UT,WO⟩:=WO
  have Oj:=permIn_trans _ _ _ x y arW UT
  have axD:m3.toArray.size=l.length:=by rw [UT.1,afC]
  have hm3:m3.length=l.length:=by simpa using axD
  have hB3:=hB2.perm (by omega) UT
  rcases WO with ⟨e4,hS⟩ | e4
  ·right
   rw [e4]
   exact ⟨m3,rfl,hR _ Oj hS⟩
  rw [e4,Option.bind_some,Sum.elim_inl]
  have hs5:(((ae (decide ((x:Int) > 0))
    ((idx m3 (i64 ((x:Int) - 1))).bind λ EA =>
    (idx m3 (p2:Int)).bind λ EB =>
    (fB EA EB).bind λ Hp =>
    some (!Hp))
    (some false)):Option Bool))=some (decide (0 < x) && !ltInt m3.toArray[x - 1]! m3.toArray[p2]!):=by
   by_cases s8:0 < x
   ·simp only [T4 s8,bw,jJ (i:=x) (by omega) s8,cj,bz (show x - 1 < m3.length by omega),bz (show p2 < m3.length by omega),Option.bind_some,pd,decide_eq_true s8,Bool.true_and,jz]
   ·simp only [apf s8,bm,decide_eq_false s8,Bool.false_and]
  rw [hs5,Option.bind_some]
  by_cases yp:(decide (0 < x) && !ltInt m3.toArray[x - 1]! m3.toArray[p2]!)=true
  ·left
   obtain ⟨t,ht,mx⟩:=aI0 (l:=m3) (a:=x) (b:=y) (p:=p2) (by unfold ja; omega) zO JM (by omega)
   rw [yp,bw,ht,Option.bind_some]
   simp only [Bool.and_eq_true,decide_eq_true_eq,Bool.not_eq_true'] at yp
   have hre:=round_eq swo_ltInt (partitionEqual_holds ltInt) (d3:=m3.toArray) (d4:=t.toArray) (mid:=(partitionEqual ltInt m3.toArray x y p2).1) yp.1 zO JM (by omega) hB3 yp.2 (by rw [mx])
   generalize (partitionEqual ltInt m3.toArray x y p2).1=mid at hre
   obtain ⟨g1,g2,g3,g4,g5⟩:=hre
   have Ki:t.length=l.length:=by
    have:t.toArray.size=t.length:=by simp
    omega
   exact ⟨_,rfl,⟨t,mid,y,zX,wb,wp,rfl,Ki,g2,hy,by omega,by omega,g4,λ R r1 r2=>by
    obtain ⟨q1,q2⟩:=g5 R r1 r2
    exact hR R (permIn_trans _ _ _ x y Oj q1) q2⟩,by simp only [Int.toNat_natCast]; omega⟩
  ·have yp:(decide (0 < x) && !ltInt m3.toArray[x - 1]! m3.toArray[p2]!)=false:=by simpa using yp
   left
   obtain ⟨t,ht,mx⟩:=aI2 (l:=m3) (a:=x) (b:=y) (p:=p2) (by unfold ja; omega) zO JM (by omega)
   rw [yp,bm,ht,Option.bind_some,show mF ((y - x:Nat):Int) 8=some (((y - x) / 8:Nat):Int) from aak (d:=8) (by omega) (by omega),Option.bind_some]
   have WM:=round_part swo_ltInt (partition_holds ltInt) (d3:=m3.toArray) (d4:=t.toArray) (mid:=(partition ltInt m3.toArray x y p2).1) (ap:=(partition ltInt m3.toArray x y p2).2.1) zO JM (by omega) hB3 (by rw [mx])
   generalize (partition ltInt m3.toArray x y p2).1=mid at WM
   generalize (partition ltInt m3.toArray x y p2).2.1=ap at WM
   obtain ⟨g1,g2,g3,g4,g5,g6,g7⟩:=WM
   have Ki:t.length=l.length:=by
    have:t.toArray.size=t.length:=by simp
    omega
   dsimp only
   rw [qA (i:=mid) (j:=x) (by omega) g1,qA (i:=y) (j:=mid) (by omega) (by omega),oY,cK (i:=mid) (by omega)]
   have h2k:2 ^ (k+1)=2 * 2 ^ k:=by rw [Nat.pow_succ]; omega
   by_cases br:mid - x < y - mid
   ·obtain ⟨u,hu,Kj,Kk⟩:=ih t x mid zX (by unfold kT; omega) (by omega) g1 (by omega) (by omega) g4
    rw [decide_eq_true br,bw,hu,Option.bind_some]
    obtain ⟨UI,VP⟩:=g6 _ Kj Kk
    have Ye:u.length=l.length:=by
     have h1:u.toArray.size=u.length:=by simp
     have h2:=Kj.1
     omega
    exact ⟨_,rfl,⟨u,mid+1,y,zX,_,_,rfl,Ye,by omega,hy,by omega,by omega,UI,λ R r1 r2=>by
     obtain ⟨q1,q2⟩:=VP R r1 r2
     exact hR R (permIn_trans _ _ _ x y Oj q1) q2⟩,by simp only [Int.toNat_natCast]; omega⟩
   ·obtain ⟨u,hu,Kj,Kk⟩:=ih t (mid+1) y zX (by unfold kT; omega) (by omega) (by omega) (by omega) (by omega) g5
    rw [decide_eq_false br,bm,hu,Option.bind_some]
    obtain ⟨UI,VP⟩:=g7 _ Kj Kk
    have Ye:u.length=l.length:=by
     have h1:u.toArray.size=u.length:=by simp
     have h2:=Kj.1
     omega
    exact ⟨_,rfl,⟨u,x,mid,zX,_,_,rfl,Ye,g1,by omega,by omega,by omega,UI,λ R r1 r2=>by
     obtain ⟨q1,q2⟩:=VP R r1 r2
     exact hR R (permIn_trans _ _ _ x y Oj q1) q2⟩,by simp only [Int.toNat_natCast]; omega⟩
theorem aIr{l:List Int}(hl:kT l):∃ l',z9 l=some l'∧l'.Perm l∧l'.Pairwise (·≤·):=by
 have lx:=hl
 unfold kT at lx
 obtain ⟨⟨k,hk,hk1⟩,_⟩:=agz (n:=l.length) (by omega)
 obtain ⟨t,ht,h1,h2⟩:=aKz 11 l 0 l.length k hl (by omega) (Nat.zero_le _) (Nat.le_refl _) (by omega) (.inl rfl)
 unfold z9
 rw [hk,Option.bind_some]
 refine ⟨t,by rw [show (0:Int)=((0:Nat):Int) from rfl,ht]; rfl,?_,?_⟩
 ·have h3:=h1.2.2
  have hts:t.length=l.length:=by have:=h1.1; simpa using this
  rw [show t.toArray.extract 0 l.length=t.toArray by rw [← hts]; simp,show l.toArray.extract 0 l.length=l.toArray by simp] at h3
  simpa using h3
 ·have hts:t.length=l.length:=by have:=h1.1; simpa using this
  rw [List.pairwise_iff_getElem]
  intro i j hi hj ew
  have h4:=h2 i j (Nat.zero_le _) ew (by omega)
  rw [jz,jz] at h4
  have e1:=bz hi
  have e2:=bz hj
  rw [List.getElem?_eq_getElem hi] at e1
  rw [List.getElem?_eq_getElem hj] at e2
  rw [Option.some.inj e1,Option.some.inj e2]
  unfold ltInt at h4
  have:=of_decide_eq_false h4
  omega
end Go.Proofs.YtabamagholjdcaaGreatDoor
namespace Go.Proofs.YtabamagholjdcaaGreatDoor
open Go.Lg Go.Proofs
set_option maxRecDepth 10000
theorem abv:∀ (l m:List Int),l.Pairwise (· < ·)→m.Pairwise (· < ·)→(∀ x,x∈l↔x∈m)→l=m
 | [],[],_,_,_=>rfl
 | [],b::m,_,_,h=>by have:=(h b).2 (by simp); cases this
 | a::l,[],_,_,h=>by have:=(h a).1 (by simp); cases this
 | a::l,b::m,hl,hm,h=>by
  rw [List.pairwise_cons] at hl hm
  have cH:a=b:=by
   rcases List.mem_cons.1 ((h a).1 (by simp)) with h1 | h1
   ·exact h1
   ·rcases List.mem_cons.1 ((h b).2 (by simp)) with h2 | h2
    ·exact h2.symm
    ·have h3:=hm.1 a h1
     have h4:=hl.1 b h2
     omega
  subst cH
  rw [abv l m hl.2 hm.2 λ x=>?_]
  constructor
  ·intro hx
   rcases List.mem_cons.1 ((h x).1 (by simp [hx])) with h1 | h1
   ·have:=hl.1 x hx; omega
   ·exact h1
  ·intro hx
   rcases List.mem_cons.1 ((h x).2 (by simp [hx])) with h1 | h1
   ·have:=hm.1 x hx; omega
   ·exact h1
def jV(l:List Int):Nat→List Int
 | 0=>[]
 | k+1=>if k=0∨nth l k≠nth l (k - 1) then jV l k++[nth l k] else jV l k
theorem T3(l:List Int):∀ (k:Nat) (x:Int),x∈jV l k↔∃ i,i < k∧nth l i=x
 | 0,x=>by simp [jV]
 | k+1,x=>by
  have ih:=T3 l k x
  simp only [jV]
  have h1:(∃ i,i < k+1∧nth l i=x)↔(∃ i,i < k∧nth l i=x)∨nth l k=x:=by
   constructor
   ·rintro ⟨i,hi,hx⟩
    by_cases zD:i=k
    ·subst zD; exact .inr hx
    ·exact .inl ⟨i,by omega,hx⟩
   ·rintro (⟨i,hi,hx⟩ | hx)
    ·exact ⟨i,by omega,hx⟩
    ·exact ⟨k,by omega,hx⟩
  rw [h1]
  split
  ·rw [List.mem_append,ih,List.mem_singleton]
   constructor <;> rintro (h | h) <;> simp [h]
  ·rename_i hn
   have hk:k≠0∧nth l k=nth l (k - 1):=by
    constructor
    ·exact λ h=>hn (.inl h)
    ·exact Classical.byContradiction λ h=>hn (.inr h)
   rw [ih]
   constructor
   ·exact .inl
   ·rintro (h | h)
    ·exact h
    ·exact ⟨k - 1,by omega,by rw [← hk.2,h]⟩
theorem aaw{l:List Int}(hs:l.Pairwise (·≤·)){i j:Nat}(ew:i < j)(hj:j < l.length):nth l i≤nth l j:=by
 rw [List.pairwise_iff_getElem] at hs
 have h:=hs i j (by omega) hj ew
 have e1:=bz (show i < l.length by omega)
 have e2:=bz hj
 rw [List.getElem?_eq_getElem (by omega)] at e1 e2
 rw [← Option.some.inj e1,← Option.some.inj e2]
 exact h
theorem ad4{l:List Int}(hs:l.Pairwise (·≤·)):∀ k,k≤l.length→(jV l k).Pairwise (· < ·)
 | 0,_=>by simp [jV]
 | k+1,hk=>by
  have ih:=ad4 hs k (by omega)
  simp only [jV]
  split
  ·rename_i h
   rw [List.pairwise_append]
   refine ⟨ih,by simp,λ x hx y hy=>?_⟩
   rw [List.mem_singleton] at hy
   subst hy
   obtain ⟨i,hi,rfl⟩:=(T3 l k x).1 hx
   rcases h with h | h
   ·omega
   ·have h1:=aaw hs (show k - 1 < k by omega) (by omega)
    have h2:nth l i≤nth l (k - 1):=by
     rcases Nat.lt_or_ge i (k - 1) with h3 | h3
     ·exact aaw hs h3 (by omega)
     ·rw [show i=k - 1 by omega]; exact Int.le_refl _
    omega
  ·exact ih
theorem TZ{l:List Int}:∀ k,k≤l.length→(∀ i,1≤i→i < k→nth l i≠nth l (i - 1))→jV l k=l.take k
 | 0,_,_=>by simp [jV]
 | k+1,hk,h=>by
  rw [jV,if_pos (by
   by_cases h0:k=0
   ·exact .inl h0
   ·exact .inr (h k (by omega) (by omega))),TZ k (by omega) (λ i h1 h2=>h i h1 (by omega)),List.take_add_one,bz (by omega)]
  rfl
theorem ad6{m:List Int}{a i:Nat}(h:a+i < m.length):(m.drop a)[i]? = some (nth m (a+i)):=by
 rw [List.getElem?_drop,bz h]
theorem aJS{m:List Int}{w i:Nat}{x:Int}(h:w≠i):nth (m.set w x) i=nth m i:=by
 unfold nth
 rw [List.getD_eq_getElem?_getD,List.getD_eq_getElem?_getD,List.getElem?_set_ne h]
theorem take_set{m:List Int}{w:Nat}{x:Int}(h:w < m.length):(m.set w x).take (w+1)=m.take w++[x]:=by
 rw [List.take_add_one,List.getElem?_set_self h,List.take_set_of_le (Nat.le_refl _)]
 rfl
theorem aIt{l:List Int}(hl:kT l)(hs:l.Pairwise (·≤·)):∃ d,Aa l=some d∧d.Pairwise (· < ·)∧∀ x,x∈d↔x∈l:=by
 have hB:=hl
 unfold kT at hB
 have hdd:(jV l l.length).Pairwise (· < ·)∧∀ x,x∈jV l l.length↔x∈l:=by
  refine ⟨ad4 hs _ (Nat.le_refl _),λ x=>?_⟩
  rw [T3]
  constructor
  ·rintro ⟨i,hi,rfl⟩; exact iZ hi
  ·intro hx; exact Bp hx
 unfold Aa
 rw [show decide ((l.length:Int) < 2)=decide (l.length < 2) from oY (j:=2)]
 by_cases h2:l.length < 2
 ·rw [decide_eq_true h2,bw]
  refine ⟨l,rfl,?_,λ _=>Iff.rfl⟩
  match l,h2 with
  | [],_=>simp
  | [_],_=>simp
  | _::_::r,h=>exact absurd h (by simp only [List.length_cons]; omega)
 rw [decide_eq_false h2,bm]
 suffices hx:∃ z:List Int,_=some z∧z=jV l l.length by
  obtain ⟨z,hz,rfl⟩:=hx
  exact ⟨_,hz,hdd⟩
 refine qD (λ s=>∃ k:Nat,s=(k:Int)∧1≤k∧k≤l.length∧∀ i,1≤i→i < k→nth l i≠nth l (i - 1)) (λ s=>l.length - s.toNat) (λ o=>o = .inl ()∧(∀ i,1≤i→i < l.length→nth l i≠nth l (i - 1))∨o = .inr (jV l l.length)) ⟨1,rfl,Nat.le_refl _,by omega,λ i h1 h2=>by omega⟩ (λ o ho=>?_) ?_
 ·rcases ho with ⟨rfl,h⟩ | rfl
  ·exact ⟨l,rfl,by rw [TZ _ (Nat.le_refl _) h,List.take_length]⟩
  ·exact ⟨_,rfl,rfl⟩
 ·rintro _ ⟨k,rfl,hk1,jm,hk⟩
  rw [oY]
  by_cases Wc:k < l.length
  ·rw [decide_eq_true Wc,bw,jJ (i:=k) (by omega) hk1]
   simp only [cj,bz Wc,bz (show k - 1 < l.length by omega),Option.bind_some]
   by_cases hd:nth l k=nth l (k - 1)
   ·right
    rw [show (nth l k == nth l (k - 1))=true by simpa using hd,bw,show gQ l (k:Int) (l.length:Int)=some (l.drop k) by simp [gQ]; omega,Option.bind_some]
    suffices hx:∃ z:Int ⊕ (Unit ⊕ List Int),_=some z∧z = .inr (.inr (jV l l.length)) by
     obtain ⟨z,hz,rfl⟩:=hx
     exact ⟨_,hz,.inr rfl⟩
    refine qD (λ s=>∃ (m:List Int) (w q:Nat),s=(m,(w:Int),(q:Int))∧m.length=l.length∧1≤q∧w+1≤k+q∧k+q≤l.length∧(∀ i,k+q - 1≤i→nth m i=nth l i)∧m.take w=jV l (k+q)) (λ s=>l.length - s.2.2.toNat)
     (λ o=>∃ (m:List Int) (w:Nat),o=(m,(w:Int))∧m.length=l.length∧w≤l.length∧m.take w=jV l l.length) ⟨l,k,1,rfl,rfl,Nat.le_refl _,by omega,by omega,λ _ _=>rfl,by
      rw [jV,if_neg (λ h=>h.elim (λ h=>by omega) (λ h=>h hd))]
      exact (TZ k jm hk).symm⟩ (λ o ho=>?_) ?_
    ·obtain ⟨m,w,rfl,hm,hw,ht⟩:=ho
     dsimp only
     rw [Int.toNat_natCast,show gQ m (w:Int) (m.length:Int)=some (m.drop w) by simp [gQ]; omega,Option.bind_some,show gQ (qc m w) 0 (w:Int)=some (m.take w) from by
      have ga:(qc m w).length=m.length:=by simp [qc]; omega
      have:(qc m w).take w=m.take w:=by
       unfold qc
       rw [List.take_append_of_le_length (by simp; omega),List.take_take,Nat.min_self]
      rw [← this]
      exact Md (by omega),Option.bind_some,ht]
     exact ⟨_,rfl,rfl⟩
    ·rintro _ ⟨m,w,q,rfl,hm,zO,hwq,hkq,OK,ht⟩
     dsimp only
     rw [Int.toNat_natCast,List.length_drop,hm,oY]
     by_cases Mf:q < l.length - k
     ·left
      rw [decide_eq_true Mf,bw,jJ (i:=q) (by omega) (by omega)]
      simp only [cj,ad6 (m:=m) (a:=k) (i:=q) (by omega),ad6 (m:=m) (a:=k) (i:=q - 1) (by omega),Option.bind_some]
      rw [OK (k+q) (by omega),show k+(q - 1)=k+q - 1 by omega,OK (k+q - 1) (by omega)]
      by_cases b7:nth l (k+q)=nth l (k+q - 1)
      ·rw [show (nth l (k+q) != nth l (k+q - 1))=false by simpa using b7,bm,cK (i:=q) (by omega)]
       refine ⟨_,rfl,⟨m,w,q+1,rfl,hm,by omega,by omega,by omega,λ i hi=>OK i (by omega),?_⟩,by simp only [Int.toNat_natCast]; omega⟩
       rw [ht,show k+(q+1)=(k+q)+1 by omega,jV,if_neg (λ h=>h.elim (λ h=>by omega) (λ h=>h b7))]
      ·rw [show (nth l (k+q) != nth l (k+q - 1))=true by simpa using b7,bw]
       simp only [bz (show w < m.length by omega),Option.bind_some,cK (i:=q) (by omega),cK (i:=w) (by omega),Int.toNat_natCast]
       refine ⟨_,rfl,⟨m.set w (nth l (k+q)),w+1,q+1,rfl,by simpa using hm,by omega,by omega,by omega,λ i hi=>?_,?_⟩,by simp only [Int.toNat_natCast]; omega⟩
       ·rw [aJS (by omega)]; exact OK i (by omega)
       ·rw [take_set (by omega),ht,show k+(q+1)=(k+q)+1 by omega,jV,if_pos (.inr b7)]
     ·right
      rw [decide_eq_false Mf,bm]
      exact ⟨(m,(w:Int)),rfl,m,w,rfl,hm,by omega,by rw [ht,show k+q=l.length by omega]⟩
   ·left
    rw [show (nth l k == nth l (k - 1))=false by simpa using hd,bm,cK (i:=k) (by omega)]
    refine ⟨_,rfl,⟨k+1,rfl,by omega,by omega,λ i h1 h2=>?_⟩,by simp only [Int.toNat_natCast]; omega⟩
    by_cases zD:i=k
    ·subst zD; exact hd
    ·exact hk i h1 (by omega)
  ·right
   rw [decide_eq_false Wc,bm]
   exact ⟨.inl (),rfl,.inl ⟨rfl,λ i h1 h2=>hk i h1 (by omega)⟩⟩
theorem Sv{p:Int→Bool}{x:Int}:∀ {l:List Int},x∈l.takeWhile p→p x=true
 | [],h=>by cases h
 | a::l,h=>by
  by_cases ha:p a=true
  ·rw [List.takeWhile_cons_of_pos ha] at h
   rcases List.mem_cons.1 h with rfl | h
   ·exact ha
   ·exact Sv h
  ·rw [List.takeWhile_cons_of_neg ha] at h
   cases h
def pP(acc:List Int)(x:Int):List Int:=if x∈acc then acc else acc.takeWhile (λ y=>decide (y < x))++x::acc.dropWhile (λ y=>decide (y < x))
def jw(l:List Int):List Int:=l.foldl pP []
theorem aGZ{acc:List Int}(h:acc.Pairwise (· < ·))(x:Int):(pP acc x).Pairwise (· < ·)∧∀ y,y∈pP acc x↔y∈acc∨y=x:=by
 unfold pP
 split
 ·rename_i hx
  refine ⟨h,λ y=>?_⟩
  constructor
  ·exact .inl
  ·rintro (h | rfl)
   ·exact h
   ·exact hx
 ·rename_i hx
  have e:acc=acc.takeWhile (λ y=>decide (y < x))++acc.dropWhile (λ y=>decide (y < x)):=(List.takeWhile_append_dropWhile).symm
  have h1:∀ y∈acc.takeWhile (λ y=>decide (y < x)),y < x:=λ y hy=>by simpa using Sv hy
  have h2:∀ y∈acc.dropWhile (λ y=>decide (y < x)),x < y:=by
   intro y hy
   have hp:(acc.dropWhile (λ y=>decide (y < x))).Pairwise (· < ·):=List.Pairwise.sublist (List.dropWhile_sublist _) h
   cases hd:acc.dropWhile (λ y=>decide (y < x)) with
   | nil=>rw [hd] at hy; cases hy
   | cons a r =>
    have ha:¬ a < x:=by
     have:=List.head_dropWhile_not (λ y=>decide (y < x)) (l:=acc) (by rw [hd]; simp)
     simp only [hd,List.head_cons] at this
     simpa using this
    have Jn:a≠x:=λ Jn=>hx (by rw [← Jn]; exact (List.dropWhile_sublist _).subset (by rw [hd]; simp))
    rw [hd] at hy hp
    rw [List.pairwise_cons] at hp
    rcases List.mem_cons.1 hy with rfl | hy
    ·omega
    ·have:=hp.1 y hy; omega
  constructor
  ·rw [List.pairwise_append,List.pairwise_cons]
   refine ⟨List.Pairwise.sublist (List.takeWhile_sublist _) h,⟨h2,List.Pairwise.sublist (List.dropWhile_sublist _) h⟩,λ y hy z hz=>?_⟩
   have:=h1 y hy
   rcases List.mem_cons.1 hz with rfl | hz
   ·exact this
   ·have:=h2 z hz; omega
  ·intro y
   rw [List.mem_append,List.mem_cons]
   conv=>rhs; rw [e,List.mem_append]
   constructor
   ·rintro (h | h | h) <;> simp [h]
   ·rintro ((h | h) | h) <;> simp [h]
theorem RD:∀ (l acc:List Int),acc.Pairwise (· < ·)→(l.foldl pP acc).Pairwise (· < ·)∧∀ y,y∈l.foldl pP acc↔y∈acc∨y∈l
 | [],acc,h=>⟨h,λ y=>by simp⟩
 | x::l,acc,h=>by
  obtain ⟨h1,h2⟩:=aGZ h x
  obtain ⟨h3,h4⟩:=RD l (pP acc x) h1
  refine ⟨h3,λ y=>?_⟩
  rw [List.foldl_cons,h4,h2,List.mem_cons]
  constructor
  ·rintro ((h | h) | h) <;> simp [h]
  ·rintro (h | h | h) <;> simp [h]
theorem Rs(l:List Int):(jw l).Pairwise (· < ·):=(RD l [] (by simp)).1
theorem HY(l:List Int)(y:Int):y∈jw l↔y∈l:=by
 have:=(RD l [] (by simp)).2 y
 simpa [jw] using this
theorem aG0(acc:List Int)(x:Int):(pP acc x).length≤acc.length+1:=by
 unfold pP
 split
 ·omega
 ·have:=congrArg List.length (List.takeWhile_append_dropWhile (p:=λ y=>decide (y < x)) (l:=acc))
  simp only [List.length_append,List.length_cons] at this ⊢
  omega
theorem abU:∀ (l acc:List Int),(l.foldl pP acc).length≤acc.length+l.length
 | [],acc=>by simp
 | x::l,acc=>by
  have h1:=abU l (pP acc x)
  have h2:=aG0 acc x
  rw [List.foldl_cons,List.length_cons]
  omega
theorem abD(l:List Int):(jw l).length≤l.length:=by
 have:=abU l []
 simpa [jw] using this
theorem aPS(acc:List Int)(x:Int):acc.takeWhile (λ y=>decide (y < x))=acc.take (acc.takeWhile (λ y=>decide (y < x))).length∧acc.dropWhile (λ y=>decide (y < x))=acc.drop (acc.takeWhile (λ y=>decide (y < x))).length:=by
 have e:acc.takeWhile (λ y=>decide (y < x))++acc.dropWhile (λ y=>decide (y < x))=acc:=List.takeWhile_append_dropWhile
 have h1:(acc.takeWhile (λ y=>decide (y < x))++acc.dropWhile (λ y=>decide (y < x))).take (acc.takeWhile (λ y=>decide (y < x))).length=acc.takeWhile (λ y=>decide (y < x)):=List.take_left
 have h2:(acc.takeWhile (λ y=>decide (y < x))++acc.dropWhile (λ y=>decide (y < x))).drop (acc.takeWhile (λ y=>decide (y < x))).length=acc.dropWhile (λ y=>decide (y < x)):=List.drop_left
 rw [e] at h1 h2
 exact ⟨h1.symm,h2.symm⟩
theorem ak1{l:List Int}(hl:l.length≤100000):wD l=some (jw l):=by
 unfold wD
 refine (gp (o:=jw l) ?_).trans rfl
 have e0:(([]:List Int),(0:Int))=(λ q:Nat=>((l.take q).foldl pP [],(q:Int))) 0:=rfl
 rw [e0]
 refine tv (λ q:Nat=>((l.take q).foldl pP [],(q:Int))) l.length (λ q hq=>?_) (by simp only [fh,bm,List.take_length]; rfl)
 have LY:=(RD (l.take q) [] (by simp)).1
 have hal:=abU (l.take q) []
 rw [List.take_succ_eq_append_getElem hq,List.foldl_append]
 generalize (l.take q).foldl pP []=acc at LY hal
 simp only [List.length_nil,List.length_take] at hal
 have hx:l[q]? = some l[q]:=List.getElem?_eq_getElem hq
 generalize l[q]=x at hx
 simp only [List.foldl_cons,List.foldl_nil,dec_lt hq,bw,cj,hx]
 have ES:bd (O:=Int) (λ (nS:Int) =>
   ae (decide (nS < (acc.length:Int)))
   ((idx acc nS).bind λ H3 =>
   (some x).bind λ Mt =>
   ae (decide (H3 < Mt))
   (some (.inl (i64 (nS+1))))
   (some (.inr nS)))
   (some (.inr nS)):Int→Option (Int ⊕ Int)) 0=some (((acc.takeWhile (λ y=>decide (y < x))).length:Nat):Int):=by
  have key:∀ (r pre:List Int),acc=pre++r→bd (O:=Int) (λ (nS:Int) =>
    ae (decide (nS < (acc.length:Int)))
    ((idx acc nS).bind λ H3 =>
    (some x).bind λ Mt =>
    ae (decide (H3 < Mt))
    (some (.inl (i64 (nS+1))))
    (some (.inr nS)))
    (some (.inr nS)):Int→Option (Int ⊕ Int)) (pre.length:Int)=some (((pre.length+(r.takeWhile (λ y=>decide (y < x))).length:Nat)):Int):=by
   intro r
   induction r with
   | nil =>
    intro pre he
    rw [List.append_nil] at he
    subst he
    exact gW (by simp only [fh,bm]; simp)
   | cons a r ih =>
    intro pre he
    have hlen:pre.length < acc.length:=by rw [he]; simp
    have hga:acc[pre.length]? = some a:=by rw [he]; simp
    by_cases Jn:a < x
    ·have H6:(pre++[a]).length=pre.length+1:=by simp
     rw [si (s':=(((pre++[a]).length:Nat):Int)) (by simp only [dec_lt hlen,bw,cj,hga,Option.bind_some,decide_eq_true Jn,cK (i:=pre.length) (by omega),H6])]
     rw [ih (pre++[a]) (by simp [he]),List.takeWhile_cons_of_pos (by simpa using Jn)]
     congr 1
     simp only [List.length_append,List.length_cons,List.length_nil]
     omega
    ·rw [List.takeWhile_cons_of_neg (by simpa using Jn)]
     exact gW (by simp only [dec_lt hlen,bw,cj,hga,Option.bind_some,decide_eq_false Jn,bm]; simp)
  have:=key acc [] rfl
  simpa using this
 rw [gp ES]
 have Sp:=aPS acc x
 have hlw:(acc.takeWhile (λ y=>decide (y < x))).length≤acc.length:=(List.takeWhile_sublist _).length_le
 generalize hp:(acc.takeWhile (λ y=>decide (y < x))).length=p at hlw Sp
 simp only [Option.bind_some]
 have v9:(((ae (((p:Nat):Int) == (acc.length:Int)) (some true) ((idx acc (p:Int)).bind λ iH=>some (iH != x))):Option Bool))=some (decide (x ∉ acc)):=by
  rw [cj]
  by_cases yp:p=acc.length
  ·have hnx:x ∉ acc:=λ hx=>by
    have e:acc.takeWhile (λ y=>decide (y < x))=acc:=by rw [Sp.1,yp,List.take_length]
    have:=Sv (p:=λ y=>decide (y < x)) (l:=acc) (x:=x) (by rw [e]; exact hx)
    simp at this
   rw [show (((p:Nat):Int) == (acc.length:Int))=true by simp [yp],bw,decide_eq_true hnx]
  ·rw [show (((p:Nat):Int) == (acc.length:Int))=false by simp; omega,bm,bz (show p < acc.length by omega),Option.bind_some]
   congr 1
   have hnp:¬ nth acc p < x:=by
    have hd:acc.dropWhile (λ y=>decide (y < x))=nth acc p::acc.drop (p+1):=by
     rw [Sp.2,List.drop_eq_getElem_cons (show p < acc.length by omega)]
     congr 1
     have:=bz (show p < acc.length by omega)
     rw [List.getElem?_eq_getElem (by omega)] at this
     exact Option.some.inj this
    have:=List.head_dropWhile_not (λ y=>decide (y < x)) (l:=acc) (by rw [hd]; simp)
    simp only [hd,List.head_cons] at this
    simpa using this
   by_cases pc:nth acc p=x
   ·rw [show (nth acc p != x)=false by simpa using pc,decide_eq_false (by rw [← pc]; simpa using iZ (show p < acc.length by omega))]
   ·rw [show (nth acc p != x)=true by simpa using pc,decide_eq_true]
    intro hx
    obtain ⟨i,hi,hix⟩:=Bp hx
    rcases Nat.lt_trichotomy i p with h | h | h
    ·have hm:nth acc i∈acc.takeWhile (λ y=>decide (y < x)):=by
      rw [Sp.1,← abS (l:=acc) h]
      exact iZ (by simp; omega)
     have:=Sv hm
     simp at this
     omega
    ·subst h; exact pc hix
    ·rw [List.pairwise_iff_getElem] at LY
     have h3:=LY p i (by omega) hi h
     have e1:=bz (show p < acc.length by omega)
     have e2:=bz hi
     rw [List.getElem?_eq_getElem (by omega)] at e1 e2
     rw [Option.some.inj e1,Option.some.inj e2] at h3
     omega
 rw [v9,Option.bind_some]
 unfold pP
 by_cases pc:x∈acc
 ·rw [decide_eq_false (by simpa using pc),bm,if_pos pc,cK (i:=q) (by omega)]
 ·rw [decide_eq_true pc,bw,if_neg pc,Md (by omega),Option.bind_some,mb (by simp; omega),Option.bind_some,List.nil_append,mb (by simp; omega),Option.bind_some,show gQ acc (p:Int) (acc.length:Int)=some (acc.drop p) by simp [gQ]; omega,Option.bind_some,mb (by simp; omega),Option.bind_some,cK (i:=q) (by omega),Sp.1,Sp.2]
  simp
theorem acp{b:aj}(hv:Valid b){f:bt→Option Int}{g:cR→Int}(hf:∀ c∈bJ b,f (mS c)=some (g c)):xD (RB b) f=some (jw ((bJ b).map g)):=by
 unfold xD
 have ga:=A7 hv
 refine (gp (o:=(bJ b).map g) ?_).trans ?_
 ·have e0:(([]:List Int),(0:Int))=(λ q:Nat=>(((bJ b).take q).map g,(q:Int))) 0:=rfl
  rw [e0]
  refine tv (λ q:Nat=>(((bJ b).take q).map g,(q:Int))) (bJ b).length (λ q hq=>?_) (by simp only [List.length_map,fh,bm,List.take_length])
  have hc:(bJ b)[q]∈bJ b:=List.getElem_mem hq
  simp only [List.length_map,dec_lt hq,bw,cj,List.getElem?_map,List.getElem?_eq_getElem hq,Option.map_some,Option.bind_some,hf _ hc,cK (i:=q) (by omega)]
  rw [mb (by simp; omega),Option.bind_some,List.take_succ_eq_append_getElem hq,List.map_append]
  rfl
 ·obtain ⟨t,ht,hp,hs⟩:=aIr (l:=(bJ b).map g) (by unfold kT; rw [List.length_map]; omega)
  obtain ⟨d,hd,h1,h2⟩:=aIt (l:=t) (by unfold kT; rw [hp.length_eq,List.length_map]; omega) hs
  rw [ht,Option.bind_some,hd,Option.bind_some,abv d (jw ((bJ b).map g)) h1 (Rs _) λ x=>by rw [h2,hp.mem_iff,HY]]
end Go.Proofs.YtabamagholjdcaaGreatDoor
namespace Go.Proofs.YtabamagholjdcaaGreatDoor
open Go.Lg Go.Proofs
set_option maxRecDepth 10000
def Sl(b:aj)(p:Nat):List Int:=jw ((bJ b).map λ c=>nth c.eU p)
def Mm(b:aj)(p:Int):List Int × Int:=if cY b≠0 then ([],cY b) else if ln b p=false then ([],6) else if bJ b=[] then ([],9) else (Sl b p.toNat,0)
theorem aJr{b:aj}(hs:Small b)(p:Int):pN b p=some (Mm b p):=by
 unfold pN Mm
 rw [My hs (own:=if ln b p=false then 6 else 0) (λ _=>by
  unfold EI
  rw [agI hs,Option.bind_some]
  cases ln b p <;> rfl),Option.bind_some]
 unfold EZ
 by_cases h1:cY b=0
 ·have hv:=r7 hs h1
  have h5:=hv.n5
  simp only [h1,ne_eq,not_true_eq_false,if_false]
  cases hp:ln b p with
  | false=>rfl
  | true =>
   simp only [Bool.true_eq_false,if_false,not_true_eq_false]
   by_cases h3:bJ b=[]
   ·rw [if_pos h3,if_pos h3]; rfl
   ·rw [if_neg h3,if_neg h3]
    simp only [bne_self_eq_false,bm]
    have F0:=yE.1 hp
    rw [acp hv (g:=λ c=>nth c.eU p.toNat) (λ c hc=>?_)]
    ·rfl
    ·obtain ⟨k,rfl⟩:∃ k:Nat,p=(k:Int):=⟨p.toNat,by omega⟩
     have hl:=(Q8 hv hc).1
     unfold EJ mS
     rw [cj,bz (by rw [NV (by omega)]; omega),Option.bind_some,Sw (by omega) (by omega),Int.toNat_natCast]
 ·simp only [h1,ne_eq,not_false_eq_true,if_true,ly h1,bw]
def aNp(b:aj):List Int:=jw ((bJ b).map λ c=>c.aa)
def aki(b:aj):List Int × Int:=if cY b≠0 then ([],cY b) else if bJ b=[] then ([],9) else (aNp b,0)
theorem a6W{b:aj}(hs:Small b):L4 b=some (aki b):=by
 unfold L4 aki
 rw [My hs (own:=0) (λ _=>ak5 b),Option.bind_some]
 unfold EZ
 by_cases h1:cY b=0
 ·have hv:=r7 hs h1
  simp only [h1,ne_eq,not_true_eq_false,if_false]
  by_cases h3:bJ b=[]
  ·rw [if_pos h3,if_pos h3]; rfl
  ·rw [if_neg h3,if_neg h3]
   simp only [bne_self_eq_false,bm]
   rw [acp hv (g:=λ c=>c.aa) (λ c hc=>rfl)]
   rfl
 ·simp only [h1,ne_eq,not_false_eq_true,if_true,ly h1,bw]
theorem aoA{l:List Int}(h:l.Pairwise (· < ·))(b7:l≠[]):nth l 0∈l∧nth l (l.length - 1)∈l∧∀ x∈l,nth l 0≤x∧x≤nth l (l.length - 1):=by
 have hl:=List.length_pos_iff.2 b7
 refine ⟨iZ hl,iZ (by omega),λ x hx=>?_⟩
 obtain ⟨i,hi,rfl⟩:=Bp hx
 have hle:∀ i j,i≤j→j < l.length→nth l i≤nth l j:=λ i j ew hj=>by
  rcases Nat.lt_or_ge i j with h1 | h1
  ·exact aaw (h.imp (λ h=>by omega)) h1 hj
  ·rw [show i=j by omega]; exact Int.le_refl _
 exact ⟨hle 0 i (by omega) hi,hle i _ (by omega) (by omega)⟩
def tD(b:aj)(out:List Int):List Int:=jw ((bJ b).map λ c=>eF b c out)
def rK(b:aj)(out:List Int):Int:=nth (tD b out) 0
def rC(b:aj)(out:List Int):Int:=nth (tD b out) ((tD b out).length - 1)
theorem ag5{b:aj}{out:List Int}(h3:bJ b≠[]):tD b out≠[]:=by
 intro h
 cases hc:bJ b with
 | nil=>exact h3 hc
 | cons c l =>
  have:=(HY ((bJ b).map λ c=>eF b c out) (eF b c out)).2 (by rw [hc]; simp)
  unfold tD at h
  rw [h] at this
  cases this
theorem ajE{b:aj}{out:List Int}(h3:bJ b≠[]):(∃ c∈bJ b,eF b c out=rK b out)∧(∃ c∈bJ b,eF b c out=rC b out)∧∀ c∈bJ b,rK b out≤eF b c out∧eF b c out≤rC b out:=by
 obtain ⟨h1,h2,h4⟩:=aoA (Rs ((bJ b).map λ c=>eF b c out)) (ag5 h3)
 have hm:∀ x,x∈jw ((bJ b).map λ c=>eF b c out)↔∃ c∈bJ b,eF b c out=x:=λ x=>by rw [HY,List.mem_map]
 exact ⟨(hm _).1 h1,(hm _).1 h2,λ c hc=>h4 _ ((hm _).2 ⟨c,hc,rfl⟩)⟩
def Bx(b:aj)(out:List Int):Reach × Int :=
 if cY b≠0 then (⟨0,0⟩,cY b) else if kQ out (b.ao.length:Int)≠0 then (⟨0,0⟩,kQ out (b.ao.length:Int)) else if bJ b=[] then (⟨0,0⟩,9) else (⟨rK b out,rC b out⟩,0)
theorem ak4{b:aj}(hs:Small b){out:List Int}(ho:out.length≤100):ov b out=some (Bx b out):=by
 have hp:=hs.pieces
 unfold ov Bx Bj
 rw [Option.bind_some,My hs (own:=kQ out (b.ao.length:Int)) (λ _=>by unfold pQ; rw [abQ (by omega) (by omega) (by omega)]; rfl),Option.bind_some]
 unfold EZ
 by_cases h1:cY b=0
 ·have hv:=r7 hs h1
  have h5:=hv.n5
  have ga:=A7 hv
  simp only [h1,ne_eq,not_true_eq_false,if_false]
  by_cases h2:kQ out (b.ao.length:Int)=0
  ·simp only [h2,not_true_eq_false,if_false]
   by_cases h3:bJ b=[]
   ·rw [if_pos h3,if_pos h3]; rfl
   ·rw [if_neg h3,if_neg h3]
    simp only [bne_self_eq_false,bm]
    have v9:qU out:=λ x hx=>by have:=abX h2 x hx; omega
    rw [acp hv (g:=λ c=>eF b c out) (λ c hc=>by
     unfold Dz
     rw [Mc v9 (by omega),Option.bind_some]
     dsimp only
     rw [abO hv hc]
     rfl),Option.bind_some]
    have b7:=ag5 (out:=out) h3
    have hl:=List.length_pos_iff.2 b7
    have hle:=abD ((bJ b).map λ c=>eF b c out)
    rw [List.length_map] at hle
    rw [show jw ((bJ b).map λ c=>eF b c out)=tD b out from rfl] at hle ⊢
    rw [jJ (i:=(tD b out).length) (by omega) hl,cj,bz (show (tD b out).length - 1 < (tD b out).length by omega),show idx (tD b out) 0=some (nth (tD b out) 0) from bz hl]
    rfl
  ·simp only [h2,not_false_eq_true,if_true,ly h2,bw]
 ·simp only [h1,ne_eq,not_false_eq_true,if_true,ly h1,bw]
end Go.Proofs.YtabamagholjdcaaGreatDoor
namespace Go.Proofs.YtabamagholjdcaaGreatDoor
open Go.Lg Go.Proofs
set_option maxRecDepth 10000
theorem a8M{b:aj}{c:cR}(hc:c∈bJ b){k:Nat}(hk:k < b.ao.length):(nth b.ao k).Weight.ai≤nth c.eU k∧nth c.eU k≤(nth b.ao k).Weight.ak:=(ajd (akj hc).1).2 k hk
end Go.Proofs.YtabamagholjdcaaGreatDoor
namespace Go.Proofs.YtabamagholjdcaaGreatDoor
open Go.Lg Go.Proofs
set_option maxRecDepth 10000
theorem a7n:∀ (l:List Int) (a c:Int),l.Pairwise (· < ·)→(∀ x∈l,a≤x∧x≤c)→(l.length:Int)≤max 0 (c+1 - a)
 | [],_,_,_,_=>by simp; omega
 | x::l,a,c,h,hm=>by
  rw [List.pairwise_cons] at h
  have hx:=hm x (by simp)
  have:=a7n l (x+1) c h.2 λ y hy=>by
   have:=h.1 y hy
   have:=hm y (by simp [hy])
   omega
  rw [List.length_cons]
  omega
theorem bbz{b:aj}(hv:Valid b){k:Nat}(hk:k < b.ao.length):(Sl b k).length≤3:=by
 have hW:=(hv.each k hk).weight
 have:=a7n (Sl b k) (nth b.ao k).Weight.ai (nth b.ao k).Weight.ak (Rs _) λ x hx=>by
  unfold Sl at hx
  rw [HY,List.mem_map] at hx
  obtain ⟨c,hc,rfl⟩:=hx
  exact a8M hc hk
 omega
end Go.Proofs.YtabamagholjdcaaGreatDoor
namespace Go.Proofs.YtabamagholjdcaaGreatDoor
open Go.Lg Go.Proofs
set_option maxRecDepth 10000
def aNL(x P:Nat):Bool:=match c49 (x:Int) (P:Int) with
 | some out=>kQ out P == 0 && decide (out.length≤20)
 | none=>false
set_option maxRecDepth 1000000 in
theorem aPO:((List.range 256).all λ x=>(List.range 6).all λ P=>aNL x P)=true:=by decide +kernel
theorem aPN{x P:Nat}(hx:x < 256)(hP:P < 6):∃ out,yv (x:Int) (P:Int)=some out∧kQ out (P:Int)=0∧out.length≤20:=by
 have h:=aPO
 rw [List.all_eq_true] at h
 have h:=h x (List.mem_range.2 hx)
 rw [List.all_eq_true] at h
 have h:=h P (List.mem_range.2 hP)
 unfold aNL at h
 cases hc:c49 (x:Int) (P:Int) with
 | none=>rw [hc] at h; cases h
 | some out =>
  rw [hc] at h
  simp only [Bool.and_eq_true,beq_iff_eq,decide_eq_true_eq] at h
  exact ⟨out,aN8 _ _ _ hc,h.1,h.2⟩
end Go.Proofs.YtabamagholjdcaaGreatDoor
namespace Go.Proofs.YtabamagholjdcaaGreatDoor
open Go.Lg Go.Proofs
set_option maxRecDepth 10000
theorem a54{l:List Int}{P:Int}(h:l.Pairwise (· < ·))(hp:∀ x∈l,0≤x∧x < P):kQ l P=0:=by
 unfold kQ
 rw [uZ.2 λ i _ hi=>?_]
 ·rfl
 ·have hm:=hp _ (iZ (l:=l) (i:=i) (by omega))
  unfold yz
  rw [if_neg (by rw [Bool.not_eq_false,yL]; omega)]
  by_cases h0:0 < i
  ·rw [if_pos h0,if_neg]
   rw [List.pairwise_iff_getElem] at h
   have h3:=h (i - 1) i (by omega) (by omega) (by omega)
   have e1:=bz (show i - 1 < l.length by omega)
   have e2:=bz (show i < l.length by omega)
   rw [List.getElem?_eq_getElem (by omega)] at e1 e2
   rw [Option.some.inj e1,Option.some.inj e2] at h3
   omega
  ·rw [if_neg h0]
theorem a64{b:aj}{g:List Int}(h:LU b g):kQ (jw g) (b.ao.length:Int)=0:=a54 (Rs g) λ x hx=>h x ((HY g x).1 hx)
theorem a65(g:List Int)(x:Int):(jw g).contains x=g.contains x:=by
 rw [Bool.eq_iff_iff,List.contains_iff_mem,List.contains_iff_mem,HY]
theorem a66(g:List Int)(x:Int):jw (jw g++[x])=jw (g++[x]):=abv _ _ (Rs _) (Rs _) λ y=>by simp [HY]
theorem aZ8(b:aj)(c:cR)(g:List Int):eF b c (jw g)=eF b c g:=aNH λ i _=>a65 g i
theorem a6N{b:aj}{l m:List Int}(h:LU b l)(g:LU b m):LU b (l++m):=λ x hx=>by
 rcases List.mem_append.1 hx with h1 | h1
 ·exact h x h1
 ·exact g x h1
theorem a6O{b:aj}(hv:Valid b):LU b b.Out:=λ x hx=>by
 have:=yE.1 (Rq hv.out x hx)
 omega
end Go.Proofs.YtabamagholjdcaaGreatDoor
namespace Go.Proofs.YtabamagholjdcaaGreatDoor
open Go.Lg Go.Proofs
set_option maxRecDepth 10000
theorem a7S{α:Type}{p:α→Bool}{l:List α}{c:α}(hc:c∈l):HA (yC (l.filter p).length l.length) (p c)=some true:=by
 have b7:l≠[]:=λ h=>by rw [h] at hc; cases hc
 have h1:=aZx (p:=p) b7
 have h2:=aZw (p:=p) (l:=l)
 have h3:yC (l.filter p).length l.length=0∨yC (l.filter p).length l.length=1∨yC (l.filter p).length l.length=2:=by
  unfold yC
  split
  ·simp
  ·split <;> simp
 unfold HA
 rcases h3 with h | h | h
 ·rw [h]; rfl
 ·rw [h] at h1 ⊢
  have:∀ c∈l,p c=true:=of_decide_eq_true h1.symm
  rw [this c hc]; rfl
 ·rw [h] at h2 ⊢
  have:∀ c∈l,p c=false:=of_decide_eq_true h2.symm
  rw [this c hc]; rfl
def ajG(b:aj)(l:List Int)(n:Nat):List Int:=(List.range n).map λ i=>(nth b.ao i).Weight.ai+(Av l (1+i)).tmod ((nth b.ao i).Weight.ak - (nth b.ao i).Weight.ai+1)
theorem ba5(b:aj)(l:List Int)(n:Nat):ajG b l (n+1)=ajG b l n++[(nth b.ao n).Weight.ai+(Av l (1+n)).tmod ((nth b.ao n).Weight.ak - (nth b.ao n).Weight.ai+1)]:=by simp [ajG,List.range_succ]
theorem a8g(b:aj)(l:List Int)(n:Nat):(ajG b l n).length=n:=by simp [ajG]
theorem ba4(b:aj)(l:List Int){i n:Nat}(h:i < n):nth (ajG b l n) i=(nth b.ao i).Weight.ai+(Av l (1+i)).tmod ((nth b.ao i).Weight.ak - (nth b.ao i).Weight.ai+1):=by
 simp [nth,ajG,h]
def aPG(b:aj)(l:List Int):Int:=b.aa.ai+(Av l 0).tmod (b.aa.ak - b.aa.ai+1)
theorem baM{b:aj}(hv:Valid b){l:List Int}(hl:RF l):Ry b l=some ⟨aPG b l,ajG b l b.ao.length⟩:=by
 have hb:=hv.df
 have h5:=hv.n5
 have p0:=ak6 hl 0
 have t0:=a4e (a:=Av l 0) (m:=b.aa.ak - b.aa.ai+1) p0.1 (by omega)
 unfold Ry
 rw [show (0:Int)=((0:Nat):Int) from rfl,aJt hl,Option.bind_some,dR (z:=b.aa.ak - b.aa.ai) (by omega) (by omega),dR (z:=b.aa.ak - b.aa.ai+1) (by omega) (by omega)]
 have er:q6 (Av l 0) (b.aa.ak - b.aa.ai+1)=some ((Av l 0).tmod (b.aa.ak - b.aa.ai+1)):=by
  unfold q6
  rw [if_neg (by omega)]
 rw [er,Option.bind_some,dR (z:=b.aa.ai+_) (by omega) (by omega)]
 refine (gp (o:=ajG b l b.ao.length) ?_).trans rfl
 have e0:(((0:Nat):Int),([]:List Int))=(λ q:Nat=>((q:Int),ajG b l q)) 0:=rfl
 rw [e0]
 refine tv (λ q:Nat=>((q:Int),ajG b l q)) b.ao.length (λ q hq=>?_) (by simp only [fh,bm])
 have hw:=(hv.each q hq).weight
 have pq:=ak6 hl (1+q)
 have tq:=a4e (a:=Av l (1+q)) (m:=(nth b.ao q).Weight.ak - (nth b.ao q).Weight.ai+1) pq.1 (by omega)
 have er:q6 (Av l (1+q)) ((nth b.ao q).Weight.ak - (nth b.ao q).Weight.ai+1)=some ((Av l (1+q)).tmod ((nth b.ao q).Weight.ak - (nth b.ao q).Weight.ai+1)):=by
  unfold q6
  rw [if_neg (by omega)]
 have eq1:i64 (1+(q:Int))=((1+q:Nat):Int):=by rw [dR (by omega) (by omega)]; omega
 simp only [dec_lt hq,bw,cj,bz hq,Option.bind_some,eq1,aJt hl,dR (z:=(nth b.ao q).Weight.ak - (nth b.ao q).Weight.ai) (by omega) (by omega),dR (z:=(nth b.ao q).Weight.ak - (nth b.ao q).Weight.ai+1) (by omega) (by omega),er,dR (z:=(nth b.ao q).Weight.ai+(Av l (1+q)).tmod ((nth b.ao q).Weight.ak - (nth b.ao q).Weight.ai+1)) (by omega) (by omega),cK (i:=q) (by omega)]
 rw [mb (by simp [a8g]; omega),Option.bind_some,ba5]
theorem ba6{b:aj}(hv:Valid b){l:List Int}(hl:RF l):b.aa.ai≤aPG b l∧aPG b l≤b.aa.ak∧∀ i,i < b.ao.length→(nth b.ao i).Weight.ai≤nth (ajG b l b.ao.length) i∧nth (ajG b l b.ao.length) i≤(nth b.ao i).Weight.ak:=by
 have hb:=hv.df
 have t0:=a4e (a:=Av l 0) (m:=b.aa.ak - b.aa.ai+1) (ak6 hl 0).1 (by omega)
 refine ⟨by unfold aPG; omega,by unfold aPG; omega,λ i hi=>?_⟩
 have hw:=(hv.each i hi).weight
 have ti:=a4e (a:=Av l (1+i)) (m:=(nth b.ao i).Weight.ak - (nth b.ao i).Weight.ai+1) (ak6 hl (1+i)).1 (by omega)
 rw [ba4 b l hi]
 omega
theorem a80{b:aj}(hv:Valid b){bI:Int}{ws:List Int}(hl:ws.length=b.ao.length)(h1:b.aa.ai≤bI)(h2:bI≤b.aa.ak)(h:∀ i,i < b.ao.length→(nth b.ao i).Weight.ai≤nth ws i∧nth ws i≤(nth b.ao i).Weight.ak):uI b bI ws:=by
 have hb:=hv.df
 refine ⟨by omega,by omega,λ i hi=>?_⟩
 have hw:=(hv.each i hi).weight
 have:=h i hi
 omega
theorem a8l(b:aj):∀ (j i:Nat) (l:List Int),l.length=j→(∀ k,k < j→(nth b.ao (i+k)).Weight.ai≤nth l k∧nth l k≤(nth b.ao (i+k)).Weight.ak)→l∈mY b j i
 | 0,_,l,hl,_=>by
  have:l=[]:=List.eq_nil_of_length_eq_zero hl
  rw [this]
  simp [mY]
 | j+1,i,l,hl,h=>by
  cases l with
  | nil=>simp at hl
  | cons x t =>
   simp only [mY,List.mem_flatMap,List.mem_map]
   refine ⟨x,L5.2 ?_,t,a8l b j (i+1) t (by simpa using hl) (λ k hk=>?_),rfl⟩
   ·have:=h 0 (by omega)
    simpa [nth] using this
   ·have:=h (k+1) (by omega)
    rw [show i+1+k=i+(k+1) by omega]
    simpa [nth] using this
def alM(b:aj)(A3:Int)(hs:List bV):aj:=⟨A3,⟨b.aa.ai,b.aa.ak⟩,b.ao,b.Out,hs⟩
theorem a7U(b:aj)(A3:Int)(hs:List bV)(bI:Int)(ws out:List Int):∀ n,mV (alM b A3 hs) bI ws out n=mV b bI ws out n
 | 0=>rfl
 | n+1=>by
  have:=a7U b A3 hs bI ws out n
  simp only [mV,this]
  rfl
theorem a7T(b:aj)(A3:Int)(hs:List bV)(bI:Int)(ws:List Int)(n:Nat):mo (alM b A3 hs) bI ws n=mo b bI ws n:=a7U b A3 hs bI ws _ _
def ajA(b:aj)(bI:Int)(ws:List Int)(n:Nat):Int:=(List.range n).foldl (λ m i=>max m (ER (mo b bI ws i))) b.aB
theorem a7H(b:aj)(bI:Int)(ws:List Int)(n:Nat):ajA b bI ws (n+1)=max (ajA b bI ws n) (ER (mo b bI ws n)):=by simp [ajA,List.range_succ]
def aue(b:aj)(bI:Int)(ws:List Int):List bV:=b.aT.map λ x=>⟨x.dd,wB (mo b bI ws x.dd.toNat)⟩
theorem a6T{b:aj}(hv:Valid b){bI:Int}{ws:List Int}(hf:uI b bI ws):∀ n,0≤ajA b bI ws n∧ajA b bI ws n≤9999∧∀ i,i < n→ER (mo b bI ws i)≤ajA b bI ws n
 | 0=>⟨hv.agA.1,hv.agA.2,λ i hi=>by omega⟩
 | n+1=>by
  obtain ⟨h1,h2,h3⟩:=a6T hv hf n
  have hm:=abR hv hf (out:=b.Out.take n)
  have ha:ER (mo b bI ws n)≤9999:=by unfold mo ER; split <;> omega
  rw [a7H]
  refine ⟨by omega,by omega,λ i hi=>?_⟩
  by_cases h:i=n
  ·subst h; omega
  ·have:=h3 i (by omega); omega
theorem baN{b:aj}(hv:Valid b){bI:Int}{ws:List Int}(hf:uI b bI ws):RA b ⟨bI,ws⟩=some (alM b (ajA b bI ws (b.Out.length+1)) (aue b bI ws)):=by
 unfold RA
 have ho:=hv.small.out
 have hh:=hv.EM
 rw [gp (o:=ajA b bI ws (b.Out.length+1)) ?_]
 ·rw [gp (o:=aue b bI ws) ?_]
  ·rfl
  ·have e0:((0:Int),([]:List bV))=(λ q:Nat=>((q:Int),(b.aT.take q).map λ x=>(⟨x.dd,wB (mo b bI ws x.dd.toNat)⟩:bV))) 0:=rfl
   rw [e0]
   refine tv (λ q:Nat=>((q:Int),(b.aT.take q).map λ x=>(⟨x.dd,wB (mo b bI ws x.dd.toNat)⟩:bV))) b.aT.length (λ q hq=>?_) (by simp only [fh,bm,List.take_length,aue])
   have hx:=hv.ack _ (iZ hq)
   obtain ⟨a,ha⟩:∃ a:Nat,(nth b.aT q).dd=(a:Int):=⟨(nth b.aT q).dd.toNat,by omega⟩
   have e1:b.aT[q]=nth b.aT q:=by rw [← List.getElem?_eq_some_iff.1 (bz hq) |>.2]
   simp only [dec_lt hq,bw,cj,bz hq,Option.bind_some,ha,Md (show a≤b.Out.length by omega),aOw hv hf (out:=b.Out.take a) (by simp; omega),a6U,cK (i:=q) (by omega)]
   rw [mb (by simp; omega),Option.bind_some,List.take_succ_eq_append_getElem hq,List.map_append,e1]
   simp only [List.map_cons,List.map_nil,ha,Int.toNat_natCast,mo]
 ·have e0:((0:Int),b.aB)=(λ q:Nat=>((q:Int),ajA b bI ws q)) 0:=rfl
  rw [e0]
  refine tv (λ q:Nat=>((q:Int),ajA b bI ws q)) (b.Out.length+1) (λ q hq=>?_) (by simp only [a56,bm])
  have hm:=abR hv hf (out:=b.Out.take q)
  have hq':q≤b.Out.length:=by omega
  simp only [a55 hq',bw,Md hq',Option.bind_some,aOw hv hf (out:=b.Out.take q) (by simp; omega),cK (i:=q) (by omega),a7H,aOh (a6T hv hf q).1 (show -1000000≤oE b bI ws (b.Out.take q) by omega) (by omega)]
  rfl
theorem bbf{b:aj}(hv:Valid b){bI:Int}{ws:List Int}(hf:uI b bI ws):lh (alM b (ajA b bI ws (b.Out.length+1)) (aue b bI ws)) bI ws=true:=by
 unfold lh
 rw [Bool.and_eq_true,List.all_eq_true,List.all_eq_true]
 constructor
 ·intro n hn
  rw [List.mem_range] at hn
  have:=(a6T hv hf (b.Out.length+1)).2.2 n hn
  rw [bbb,a7T]
  exact decide_eq_true this
 ·intro x hx
  simp only [alM,aue,List.mem_map] at hx
  obtain ⟨y,hy,rfl⟩:=hx
  rw [a7T]
  simp
theorem a8K{b:aj}(_:Valid b){c:cR}(hl:c.eU.length=b.ao.length)(h1:b.aa.ai≤c.aa)(h2:c.aa≤b.aa.ak)(h:∀ i,i < b.ao.length→(nth b.ao i).Weight.ai≤nth c.eU i∧nth c.eU i≤(nth b.ao i).Weight.ak)(hc:lh b c.aa c.eU=true):c∈bJ b:=by
 unfold bJ
 rw [List.mem_flatMap]
 refine ⟨c.aa,L5.2 ⟨h1,h2⟩,?_⟩
 rw [List.mem_map]
 refine ⟨c.eU,List.mem_filter.2 ⟨?_,hc⟩,rfl⟩
 exact a8l b _ 0 _ hl λ k hk=>by rw [Nat.zero_add]; exact h k hk
theorem baj{b:aj}(hv:Valid b)(h1:cY b=0){c:cR}(hc:c∈bJ b):aZX b c=(true,0):=by
 obtain ⟨hl,hf⟩:=Q8 hv hc
 obtain ⟨hw,hb1,hb2,aPa⟩:=akj hc
 have hb:=hf.bI
 have hH:acg b c=0:=by
  unfold acg
  rw [if_neg (by rw [yL.2 hb]; simp),if_neg (by simpa using hl),if_neg]
  simp only [List.any_eq_true,not_exists,not_and,Bool.not_eq_true',Bool.not_eq_false]
  intro x hx
  obtain ⟨i,hi,rfl⟩:=Bp hx
  exact yL.2 (hf.each i (by omega))
 have hr:aOt b c.aa c.eU=true:=by
  unfold aOt
  rw [Bool.and_eq_true,List.all_eq_true]
  refine ⟨yL.2 ⟨hb1,hb2⟩,λ i hi=>yL.2 ((ajd hw).2 i (List.mem_range.1 hi))⟩
 unfold aZX
 rw [if_neg (by simpa using h1),if_neg (by simpa using hH),if_pos hr,aPa]
theorem a7X{b:aj}(hv:Valid b)(h1:cY b=0){c:cR}(hc:c∈bJ b){out:List Int}(ho:kQ out (b.ao.length:Int)=0):aPC b c out=(eF b c out,0):=by
 obtain ⟨hl,hf⟩:=Q8 hv hc
 have hb:=hf.bI
 have hH:acg b c=0:=by
  unfold acg
  rw [if_neg (by rw [yL.2 hb]; simp),if_neg (by simpa using hl),if_neg]
  simp only [List.any_eq_true,not_exists,not_and,Bool.not_eq_true',Bool.not_eq_false]
  intro x hx
  obtain ⟨i,hi,rfl⟩:=Bp hx
  exact yL.2 (hf.each i (by omega))
 unfold aPC
 rw [if_neg (by simpa using h1),if_neg (by simpa using hH),if_neg (by simpa using ho)]
 rfl
theorem bao(b0:aj)(l:List Int)(x y:Nat)(hl:RF l)(hx:x < 256)(hy:y < 256):m17 b0 l x y=some true:=by
 unfold m17
 rw [aOb,aK0,Option.bind_some]
 cases hg:EL b0 with
 | true=>rfl
 | false =>
 by_cases h1:cY b0=0
 case neg =>
  have:(cY b0 == 0)=false:=by simpa using h1
  rw [this]
  rfl
 have H8:=ajg hg
 have hv0:=r7 H8 h1
 obtain ⟨c,h84,hwl,r1,r2,r3⟩:∃ c:cR,Ry b0 l=some c∧c.eU.length=b0.ao.length∧b0.aa.ai≤c.aa∧c.aa≤b0.aa.ak∧∀ i,i < b0.ao.length→(nth b0.ao i).Weight.ai≤nth c.eU i∧nth c.eU i≤(nth b0.ao i).Weight.ak :=
  ⟨_,baM hv0 hl,a8g b0 l b0.ao.length,ba6 hv0 hl⟩
 have hf0:=a80 hv0 hwl r1 r2 r3
 have h85:RA b0 c=some (alM b0 (ajA b0 c.aa c.eU (b0.Out.length+1)) (aue b0 c.aa c.eU)):=baN hv0 hf0
 have aPa:=bbf hv0 hf0
 have hhl:(aue b0 c.aa c.eU).length=b0.aT.length:=by simp [aue]
 simp only [h1,Bool.not_false,beq_self_eq_true,Bool.and_true,Bool.not_true,bm,h84,h85,Option.bind_some]
 generalize aue b0 c.aa c.eU=H7 at aPa hhl
 generalize ajA b0 c.aa c.eU (b0.Out.length+1)=A3 at aPa
 have hsm:Small (alM b0 A3 H7):=⟨H8.pieces,H8.out,by show H7.length≤20; have:=H8.EM; omega,H8.each⟩
 rw [ajD hsm,Option.bind_some]
 by_cases h2:cY (alM b0 A3 H7)=0
 case neg =>
  rw [ly h2]
  rfl
 have hv:=r7 hsm h2
 have hc:c∈bJ (alM b0 A3 H7):=a8K hv hwl r1 r2 r3 aPa
 generalize alM b0 A3 H7=b at h2 hv hc hsm
 have h5:=hv.n5
 have hn1:=hv.n1
 have h3:bJ b≠[]:=λ h=>by rw [h] at hc; cases hc
 have hlen:=List.length_pos_iff.2 h3
 obtain ⟨ga,l5⟩:=Q8 hv hc
 obtain ⟨out,aNy,hoc,hol⟩:=aPN (x:=x) (P:=b.ao.length) hx (by omega)
 obtain ⟨o,aN1,HF⟩:=aOc hsm hv hl
 have a9v:=ab9 hv HF
 have ep:i64 (y:Int)=(y:Int):=dR (by omega) (by omega)
 have er:q6 (y:Int) (b.ao.length:Int)=some ((y % b.ao.length:Nat):Int):=by
  unfold q6
  rw [if_neg (by omega),Int.ofNat_tmod]
 have hk:y % b.ao.length < b.ao.length:=Nat.mod_lt _ (by omega)
 generalize y % b.ao.length=k at hk er
 have F0:ln b (k:Int)=true:=yE.2 (by omega)
 obtain ⟨cl,hh,h31,a9k⟩:=bay hsm h2
 have hC:Ra b=true:=by unfold Ra; rw [Bool.not_eq_true']; cases pH:bJ b with
  | nil=>exact absurd pH h3
  | cons _ _=>rfl
 obtain ⟨rfl,rfl⟩:=a9k.a8Y hC
 have g1:NQ b=(((bJ b).length:Int),0):=by unfold NQ; simp [h2]
 have g2:Bx b out=(⟨rK b out,rC b out⟩,0):=by unfold Bx; simp [h2,hoc,h3]
 have g3:aK1 b out=(yC ((bJ b).filter λ c=>lY b (eF b c out)).length (bJ b).length,0):=by unfold aK1; simp [h2,hoc,h3]
 have g4:Mm b (k:Int)=(Sl b k,0):=by
  unfold Mm
  simp only [h2,ne_eq,not_true_eq_false,if_false,F0,Bool.true_eq_false,Int.toNat_natCast,if_neg h3]
 have g5:aki b=(aNp b,0):=by unfold aki; simp [h2,h3]
 have g6:=aOi h2 h3 HF
 have abJ:=hv.agA
 have hmb:=abB hv hc out
 have hme:=(ajE (out:=out) h3).2.2 c hc
 have h58:lp (eF b c out) (rK b out) (rC b out)=some true:=by
  rw [wh]
  congr 1
  exact yL.2 hme
 have hrl:=a7S (p:=λ c=>lY b (eF b c out)) hc
 have hsf:=a7S (p:=EO b o) hc
 have hkw:idx c.eU (k:Int)=some (nth c.eU k):=by rw [cj,bz (by omega)]
 have h47:nP (Sl b k) (nth c.eU k)=some true:=by
  rw [KZ (by have:=bbz hv hk; omega)]
  congr 1
  rw [List.contains_iff_mem]
  unfold Sl
  rw [HY,List.mem_map]
  exact ⟨c,hc,rfl⟩
 have a85:nP (aNp b) c.aa=some true:=by
  have hbl:(aNp b).length≤1000:=by
   have h:=abD ((bJ b).map λ c=>c.aa)
   rw [List.length_map] at h
   have:=A7 hv
   unfold aNp
   omega
  rw [KZ hbl]
  congr 1
  rw [List.contains_iff_mem]
  unfold aNp
  rw [HY,List.mem_map]
  exact ⟨c,hc,rfl⟩
 have a8W:i64 (0 - b.aB) = -b.aB:=by rw [dR (by omega) (by omega)]; omega
 have hlc:decide (((bJ b).length:Int) < 1)=false:=by simp; omega
 simp only [h2,bne_self_eq_false,bm,aNy,Option.bind_some,aN1,ep,er,baL hsm (c:=c) (by omega),baj hv h2 hc,aJs hsm,g1,a7Q hsm (c:=c) (out:=out) (by omega) hol,a7X hv h2 hc hoc,ak4 hsm (out:=out) (by omega),g2,a6V hsm (out:=out) (by omega),g3,aJr hsm,g4,a6W hsm,g5,h31,aOa hsm (o:=o) (by omega),g6,Bool.not_true,hlc,h58,a8W,hkw,h47,a85]
 have a7D:(ae (decide (eF b c out > b.aB)) ((HA (yC ((bJ b).filter λ c=>lY b (eF b c out)).length (bJ b).length) true).bind λ akg=>ae (!akg) (some true) (some (decide ((([]:List Int).length:Int) > 0)))) ((HA (yC ((bJ b).filter λ c=>lY b (eF b c out)).length (bJ b).length) (decide (eF b c out < -b.aB))).bind λ HI=>ae (!HI) (some true) (some (decide ((([]:List Int).length:Int) > 0)))))=some false:=by
  by_cases hgt:eF b c out > b.aB
  ·have:lY b (eF b c out)=true:=by unfold lY; simp [hgt]
   rw [this] at hrl
   rw [decide_eq_true hgt,bw,hrl]
   rfl
  ·have:lY b (eF b c out)=decide (eF b c out < -b.aB):=by unfold lY; simp [hgt]
   rw [this] at hrl
   rw [decide_eq_false hgt,bm,hrl]
   rfl
 simp only [List.length_nil] at a7D ⊢
 rw [a7D,Option.bind_some,bm,ak1 (by have:=a0g hv; omega),Option.bind_some]
 have hoP:=a6O hv
 have a9w:=HF.isP
 have bcG:=a0g hv
 rw [gp (o:=Sum.inl (EO b o c)) ?_]
 ·simp only [Sum.elim_inl,hsf,Option.bind_some,bw]
 have e0:(true,jw b.Out,(0:Int))=(λ q:Nat=>((List.range q).all (λ i=>!lY b (eF b c (b.Out++o.take (i+1)))),jw (b.Out++o.take q),(q:Int))) 0:=by simp
 rw [e0]
 refine tv (λ q:Nat=>((List.range q).all (λ i=>!lY b (eF b c (b.Out++o.take (i+1)))),jw (b.Out++o.take q),(q:Int))) o.length (λ q hq=>?_) (by
  simp only [fh,bm]
  congr 3
  unfold EO wS
  rw [List.all_map]
  rfl)
 have hsl:=abD (b.Out++o.take q)
 have bcI:(jw (b.Out++o.take q)).length≤10:=by rw [List.length_append,List.length_take] at hsl; omega
 have hsn:jw (jw (b.Out++o.take q)++[nth o q])=jw (b.Out++o.take (q+1)):=by
  rw [a66,List.append_assoc]
  congr 2
  rw [List.take_succ_eq_append_getElem hq,← List.getElem?_eq_some_iff.1 (bz hq) |>.2]
 have a7E:(jw (b.Out++o.take (q+1))).length≤10:=by
  have h:=abD (b.Out++o.take (q+1))
  rw [List.length_append,List.length_take] at h
  omega
 have hP:LU b (b.Out++o.take (q+1)):=a6N hoP λ x hx=>a9w x (List.mem_of_mem_take hx)
 have hmo:aPC b c (jw (b.Out++o.take (q+1)))=(eF b c (b.Out++o.take (q+1)),0):=by
  rw [a7X hv h2 hc (a64 hP),aZ8]
 have a6b:lp (eF b c (b.Out++o.take (q+1))) (-b.aB) b.aB=some (!lY b (eF b c (b.Out++o.take (q+1)))):=by
  rw [wh]
  congr 1
  rw [Bool.eq_iff_iff,yL]
  unfold lY
  simp
  omega
 simp only [dec_lt hq,bw,mb (xs:=([]:List Int)) (ys:=jw (b.Out++o.take q)) (by simp; omega),List.nil_append,Option.bind_some,cj,bz hq,mb (xs:=jw (b.Out++o.take q)) (ys:=[nth o q]) (by simp; omega),ak1 (l:=jw (b.Out++o.take q)++[nth o q]) (by simp; omega),hsn,a7Q hsm (c:=c) (out:=jw (b.Out++o.take (q+1))) (by omega) (by omega),hmo,bne_self_eq_false,bm,a6b,cK (i:=q) (by omega),List.range_succ,List.all_append,List.all_cons,List.all_nil,Bool.and_true]
 cases (List.range q).all (λ i=>!lY b (eF b c (b.Out++o.take (i+1)))) <;> rfl
end Go.Proofs.YtabamagholjdcaaGreatDoor
