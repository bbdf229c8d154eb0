/- Plain laws of chapter 5, with what is sorted. Conditions: none. -/
import Derived.Test.YtikficpdfaajlaaGreatDoorQSWStC
import Derived.Test.YtikficpdfaajlaaGreatDoorQSWStL
import Derived.Sort.AssemblyPlain
namespace Go.Proofs.YtikficpdfaajlaaGreatDoor
open Go.Lg Go.Proofs
set_option maxRecDepth 10000
theorem Ua(c:ah):meet [] c=false:=rfl
open Go.Sort
theorem yQ{S O:Type}{body:S→Option (S ⊕ O)}(I:S→Prop)(d:S→Nat){Q:O→Prop}(h:∀ s,I s→(∃ s',body s=some (.inl s')∧I s'∧d s' < d s)∨∃ o,body s=some (.inr o)∧Q o):∀ s,I s→∃ o,bb body s=some o∧Q o:=by
 have key:∀ n s,d s≤n→I s→∃ o,bb body s=some o∧Q o:=by
  intro n
  induction n with
  | zero =>
   intro s i b
   rcases h s b with ⟨s',_,_,g⟩ | ⟨o,hb,c⟩
   ·omega
   ·exact ⟨o,gf hb,c⟩
  | succ n j =>
   intro s i b
   rcases h s b with ⟨s',hb,f,g⟩ | ⟨o,hb,c⟩
   ·obtain ⟨o,ho,c⟩:=j s' (by omega) f
    exact ⟨o,by rw [kq hb,ho],c⟩
   ·exact ⟨o,gf hb,c⟩
 exact λ s b=>key _ s (cq _) b
theorem jb{S O β:Type}{body:S→Option (S ⊕ O)}{f:O→Option β}{P:β→Prop}(I:S→Prop)(c:S→Nat)(Q:O→Prop){s:S}(d:I s)(g:∀ o,Q o→∃ b,f o=some b∧P b)(h:∀ s,I s→(∃ s',body s=some (.inl s')∧I s'∧c s' < c s)∨∃ o,body s=some (.inr o)∧Q o):∃ b,(bb body s).bind f=some b∧P b:=by
 obtain ⟨o,ho,i⟩:=yQ I c h s d
 rw [eP ho]
 exact g o i
theorem iD(x y:Int):eh x y=some (ltInt x y):=by
 unfold eh lZ
 simp only [aF,bne_self_eq_false,a3]
 rfl
theorem ga(l:ah)(i:Nat):l.toArray[i]! = nth l i:=by
 unfold nth
 simp only [List.getElem!_toArray,List.getElem!_eq_getElem?_getD,hF]
def fx(l:ah)(i j:Nat):ah:=(l.set i (nth l j)).set j (nth l i)
theorem hD(l:ah)(i j:Nat):(fx l i j).toArray=swp l.toArray i j:=by
 unfold fx swp
 rw [ga,ga]
 simp
theorem hf(l:ah)(i j:Nat):(fx l i j).length=l.length:=by simp [fx]
theorem hB{l:ah}{i j:Nat}{x:Int}(h:j < l.length):(l.set i x)[j]? = some (nth (l.set i x) j):=bl (by simpa using h)
theorem ja{i j:Nat}(h:i≤1000000000)(b:j≤i):i64 ((i:Int) - (j:Int))=((i - j:Nat):Int):=by rw [c9 (by omega) (by omega)]; omega
theorem lg{i j:Nat}(h:i≤1000000000)(b:j≤1000000000):i64 ((i:Int)+(j:Int))=((i+j:Nat):Int):=by rw [c9 (by omega) (by omega)]; omega
theorem Dg{i:Nat}(h:i≤1000000000):i64 (((i+1:Nat):Int) - 1)=(i:Int):=by rw [c9 (by omega) (by omega)]; omega
theorem ik{i j:Nat}:decide ((i:Int) < (j:Int))=decide (i < j):=by simp
theorem uh{i j:Nat}:decide ((i:Int) > (j:Int))=decide (i > j):=by simp
theorem pM{i j:Nat}:decide ((i:Int)≤(j:Int))=decide (i≤j):=by simp
theorem rJ{i j:Nat}:decide ((i:Int) ≥ (j:Int))=decide (i ≥ j):=by simp
abbrev fI(l:ah):Prop:=l.length≤1000000
theorem Ec{l:ah}{a b:Nat}(hl:fI l)(H:a≤b)(hb:b≤l.length):∃ l',nh l a b=some l'∧l'.toArray=insertionSort ltInt l.toArray a b:=by
 unfold nh insertionSort
 have w:=hl
 unfold fI at w
 rw [cj (by omega)]
 refine jb (λ s=>∃ (m:ah) (i:Nat),s=(m,(i:Int))∧m.length=l.length∧insOuter ltInt a b i m.toArray=insOuter ltInt a b (a+1) l.toArray) (λ s=>b - s.2.toNat)
  (λ o=>o.toArray=insOuter ltInt a b (a+1) l.toArray) ⟨l,a+1,rfl,rfl,rfl⟩ (λ o k=>⟨o,rfl,k⟩) ?_
 ·rintro _ ⟨m,i,rfl,hm,g⟩
  rw [insOuter] at g
  by_cases hi:i < b
  ·rw [if_pos hi] at g
   left
   obtain ⟨p,z,A,B⟩:=yQ (S:=ah × Int) (O:=ah) (body:=λ (c:(ah × Int)) =>
    (((ab (decide (c.2 > (a:Int)))
    ((idx c.1 c.2).bind λ D =>
    (idx c.1 (i64 (c.2 - 1))).bind λ E =>
    (eh D E).bind λ F =>
    some F)
    (some false)):a5)).bind (λ (C:Bool) =>
    ab C
    ((idx c.1 (i64 (c.2 - 1))).bind λ n =>
    (idx c.1 c.2).bind λ G =>
    (idx c.1 c.2).bind λ I =>
    (idx (c.1.set c.2.toNat n) (i64 (c.2 - 1))).bind λ J =>
    some (.inl ((c.1.set c.2.toNat n).set (i64 (c.2 - 1)).toNat G,i64 (c.2 - 1))))
    (some (.inr c.1)))) (λ s=>∃ (q:ah) (j:Nat),s=(q,(j:Int))∧q.length=l.length∧j < q.length∧insInner ltInt a j q.toArray=insInner ltInt a i m.toArray) (λ s=>s.2.toNat)
    (Q:=λ o=>o.length=l.length∧o.toArray=insInner ltInt a i m.toArray) (by
     rintro _ ⟨q,j,rfl,k,y,d⟩
     cases j with
     | zero =>
      right
      refine ⟨q,?_,k,d⟩
      rw [show decide (((0:Nat):Int) > (a:Int))=false by simp]
      rfl
     | succ j =>
      rw [insInner] at d
      dsimp only
      rw [uh,Dg (by omega)]
      simp only [b9,bl y,bl (show j < q.length by omega),aF,iD,cI,hB (show j < q.length by omega)]
      rw [ga,ga] at d
      by_cases f:j+1 > a∧ltInt (nth q (j+1)) (nth q j)=true
      ·left
       rw [if_pos (by simp [f.1,f.2])] at d
       refine ⟨(fx q (j+1) j,(j:Int)),?_,⟨_,j,rfl,by rw [hf]; exact k,by rw [hf]; omega,by rw [hD]; exact d⟩,by simp only [cI]; omega⟩
       rw [c7 f.1,bf,aF,f.2]
       rfl
      ·right
       rw [if_neg (by simpa using f)] at d
       refine ⟨q,?_,k,d⟩
       by_cases h1:j+1 > a
       ·have h2:ltInt (nth q (j+1)) (nth q j)=false:=by simpa [h1] using f
        rw [c7 h1,bf,aF,h2]
        rfl
       ·rw [dH h1]
        rfl) (m,(i:Int)) ⟨m,i,rfl,hm,by omega,rfl⟩
   refine ⟨(p,((i+1:Nat):Int)),?_,⟨p,i+1,rfl,A,by rw [B]; exact g⟩,by simp only [cI]; omega⟩
   dsimp only
   rw [ik,c7 hi,bf,eP z,cj (by omega)]
  ·rw [if_neg hi] at g
   right
   refine ⟨m,?_,g⟩
   dsimp only
   rw [ik,dH hi,a3]
theorem Oh{l:ah}{a b:Nat}(hl:fI l)(k:a < b)(hb:b≤l.length):∃ l',lY l a b=some l'∧l'.toArray=reverseRange l.toArray a b:=by
 unfold lY reverseRange
 have f:=hl
 unfold fI at f
 rw [show i64 ((b:Int) - 1)=((b - 1:Nat):Int) from fB (by omega) (by omega)]
 refine jb (λ s=>∃ (m:ah) (i j:Nat),s=(m,(i:Int),(j:Int))∧m.length=l.length∧j < b∧reverseLoop i j m.toArray=reverseLoop a (b - 1) l.toArray) (λ s=>s.2.2.toNat - s.2.1.toNat)
  (λ o=>o.toArray=reverseLoop a (b - 1) l.toArray) ⟨l,a,b - 1,rfl,rfl,by omega,rfl⟩ (λ o g=>⟨o,rfl,g⟩) ?_
 ·rintro _ ⟨m,i,j,rfl,hm,n,c⟩
  rw [reverseLoop] at c
  dsimp only
  rw [ik]
  by_cases d:i < j
  ·rw [if_pos d] at c
   left
   refine ⟨(fx m i j,((i+1:Nat):Int),((j - 1:Nat):Int)),?_,⟨_,i+1,j - 1,rfl,by rw [hf]; exact hm,by omega,by rw [hD]; exact c⟩,by simp only [cI]; omega⟩
   rw [c7 d,bf]
   simp only [b9,bl (show i < m.length by omega),bl (show j < m.length by omega),aF,cI,hB (show j < m.length by omega),cj (i:=i) (by omega),fB (i:=j) (by omega) (by omega)]
   rfl
  ·rw [if_neg d] at c
   right
   exact ⟨m,by rw [dH d]; rfl,c⟩
theorem Eg{l:ah}{r hi first:Nat}(hl:fI l)(hb:first+hi≤l.length)(C:r≤1000000):∃ l',np l r hi first=some l'∧l'.length=l.length∧l'.toArray=siftDown ltInt hi first r l.toArray:=by
 unfold np
 have y:=hl
 unfold fI at y
 refine jb (λ s=>∃ (m:ah) (q:Nat),s=(m,(q:Int))∧m.length=l.length∧q≤1000000∧siftDown ltInt hi first q m.toArray=siftDown ltInt hi first r l.toArray) (λ s=>hi - s.2.toNat)
  (λ o=>∃ m:ah,(o = .inl m∨o = .inr m)∧m.length=l.length∧m.toArray=siftDown ltInt hi first r l.toArray) ⟨l,r,rfl,rfl,C,rfl⟩ (λ o B=>?_) ?_
 ·obtain ⟨m,hm,k,j⟩:=B
  rcases hm with rfl | rfl
  ·exact ⟨m,rfl,k,j⟩
  ·exact ⟨m,rfl,k,j⟩
 ·rintro _ ⟨m,q,rfl,hm,G,b⟩
  rw [siftDown] at b
  dsimp only
  have e1:i64 (i64 (2 * (q:Int))+1)=((2 * q+1:Nat):Int):=by rw [c9 (z:=2 * (q:Int)) (by omega) (by omega),c9 (by omega) (by omega)]; omega
  have n:i64 (((2 * q+1:Nat):Int)+1)=((2 * q+2:Nat):Int):=by rw [c9 (by omega) (by omega)]; omega
  rw [e1,n,rJ,ik]
  by_cases h1:2 * q+1 ≥ hi
  ·rw [dif_pos h1] at b
   right
   exact ⟨.inl m,by rw [c7 h1]; rfl,m,.inl rfl,hm,b⟩
  ·rw [dif_neg h1] at b
   rw [dH h1,a3]
   have f1:i64 ((first:Int)+((2 * q+1:Nat):Int))=((first+(2 * q+1):Nat):Int):=lg (by omega) (by omega)
   have f2:i64 (((first+(2 * q+1):Nat):Int)+1)=((first+(2 * q+1)+1:Nat):Int):=cj (by omega)
   have f3:i64 ((first:Int)+(q:Int))=((first+q:Nat):Int):=lg (by omega) (by omega)
   have f4:i64 ((first:Int)+((2 * q+2:Nat):Int))=((first+(2 * q+2):Nat):Int):=lg (by omega) (by omega)
   rw [f1,f2,f3]
   simp only [ga] at b
   have i:m[first+q]? = some (nth m (first+q)):=bl (by omega)
   have f:m[first+(2 * q+1)]? = some (nth m (first+(2 * q+1))):=bl (by omega)
   by_cases c:(decide (2 * q+1+1 < hi) && ltInt (nth m (first+(2 * q+1))) (nth m (first+(2 * q+1)+1)))=true
   ·rw [if_pos c] at b
    simp only [cO,decide_eq_true_eq] at c
    have g:m[first+(2 * q+1)+1]? = some (nth m (first+(2 * q+1)+1)):=bl (by omega)
    have p:m[first+(2 * q+2)]? = some (nth m (first+(2 * q+2))):=bl (by omega)
    rw [c7 (show 2 * q+2 < hi by omega),bf]
    simp only [b9,f,g,aF,iD,c.2,bf,f4,i,p]
    cases d:ltInt (nth m (first+q)) (nth m (first+(2 * q+2))) with
    | false =>
     rw [d] at b
     right
     exact ⟨.inr m,rfl,m,.inr rfl,hm,by simpa using b⟩
    | true =>
     rw [d] at b
     simp only [Bool.not_true,fc,if_false] at b
     rw [dif_pos (by omega)] at b
     left
     refine ⟨(fx m (first+q) (first+(2 * q+2)),((2 * q+2:Nat):Int)),?_,⟨_,2 * q+2,rfl,by rw [hf]; exact hm,by omega,by rw [hD]; exact b⟩,by simp only [cI]; omega⟩
     simp only [Bool.not_true,a3,cI,hB (show first+(2 * q+2) < m.length by omega),aF]
     rfl
   ·rw [if_neg c] at b
    have A:(ab (decide (2 * q+2 < hi)) ((idx m ((first+(2 * q+1):Nat):Int)).bind λ D=>(idx m ((first+(2 * q+1)+1:Nat):Int)).bind λ E=>(eh D E).bind λ F=>some F) (some false):a5)=some false:=by
     by_cases h2:2 * q+2 < hi
     ·have g:m[first+(2 * q+1)+1]? = some (nth m (first+(2 * q+1)+1)):=bl (by omega)
      rw [c7 h2,bf]
      simp only [b9,f,g,aF,iD]
      have w:2 * q+1+1 < hi:=h2
      simpa [w] using c
     ·rw [dH h2,a3]
    rw [A]
    simp only [b9,aF,a3,f1,i,f,iD]
    cases d:ltInt (nth m (first+q)) (nth m (first+(2 * q+1))) with
    | false =>
     rw [d] at b
     right
     exact ⟨.inr m,rfl,m,.inr rfl,hm,by simpa using b⟩
    | true =>
     rw [d] at b
     simp only [Bool.not_true,fc,if_false] at b
     left
     refine ⟨(fx m (first+q) (first+(2 * q+1)),((2 * q+1:Nat):Int)),?_,⟨_,2 * q+1,rfl,by rw [hf]; exact hm,by omega,by rw [hD]; exact b⟩,by simp only [cI]; omega⟩
     simp only [Bool.not_true,a3,cI,hB (show first+(2 * q+1) < m.length by omega),aF]
     rfl
theorem Ob{l:ah}{a b:Nat}(hl:fI l)(C:a < b)(hb:b≤l.length):∃ l',ni l a b=some l'∧l'.toArray=heapSort ltInt l.toArray a b:=by
 unfold ni heapSort
 have z:=hl
 unfold fI at z
 have p:i64 ((b:Int) - (a:Int))=((b - a:Nat):Int):=ja (by omega) (by omega)
 have e1:i64 (((b - a:Nat):Int) - 1)=((b - a - 1:Nat):Int):=fB (by omega) (by omega)
 have w:gp ((b - a - 1:Nat):Int) 2=some (((b - a - 1) / 2:Nat):Int):=by
  unfold gp
  rw [if_neg (by omega),show (2:Int)=((2:Nat):Int) from rfl,← Int.ofNat_tdiv,c9 (by omega) (by omega)]
 rw [p,e1,w,aF]
 generalize D:b - a=n
 have E:0 < n:=by omega
 refine jb (λ s=>∃ (m:ah) (k:Nat),s=(m,(k:Int) - 1)∧m.length=l.length∧k≤1000000∧heapBuild ltInt n a k m.toArray=heapBuild ltInt n a ((n - 1) / 2+1) l.toArray) (λ s=>(s.2+1).toNat)
  (λ o=>o.length=l.length∧o.toArray=heapBuild ltInt n a ((n - 1) / 2+1) l.toArray) ⟨l,(n - 1) / 2+1,by simp,rfl,by omega,rfl⟩ (λ m d=>?_) ?_
 ·obtain ⟨hm,B⟩:=d
  have y:(((n - 1:Nat):Int))=(n:Int) - 1:=by omega
  rw [y,← B]
  refine jb (λ s=>∃ (q:ah) (k:Nat),s=(q,(k:Int) - 1)∧q.length=l.length∧k≤n∧heapPop ltInt a k q.toArray=heapPop ltInt a n m.toArray) (λ s=>(s.2+1).toNat)
   (λ o=>o.toArray=heapPop ltInt a n m.toArray) ⟨m,n,rfl,hm,by omega,rfl⟩ (λ o d=>⟨o,rfl,d⟩) ?_
  rintro _ ⟨q,k,rfl,d,A,c⟩
  dsimp only
  cases k with
  | zero =>
   right
   exact ⟨q,by rw [show decide (((0:Nat):Int) - 1 ≥ 0)=false by simp]; rfl,c⟩
  | succ k =>
   left
   have f:((k+1:Nat):Int) - 1=(k:Int):=by omega
   have f1:i64 ((a:Int)+(k:Int))=((a+k:Nat):Int):=lg (by omega) (by omega)
   rw [heapPop,← hD] at c
   obtain ⟨t,g,j,i⟩:=Eg (l:=fx q a (a+k)) (r:=0) (hi:=k) (first:=a) (by unfold fI; rw [hf]; omega) (by rw [hf]; omega) (by omega)
   rw [hf] at j
   rw [← i] at c
   refine ⟨(t,(k:Int) - 1),?_,⟨t,k,rfl,by omega,by omega,c⟩,by simp only []; omega⟩
   rw [f,show decide ((k:Int) ≥ 0)=true by simp,bf]
   simp only [f1,b9,bl (show a < q.length by omega),bl (show a+k < q.length by omega),aF,cI,hB (show a+k < q.length by omega)]
   rw [show ((q.set a (nth q (a+k))).set (a+k) (nth q a))=fx q a (a+k) from rfl,show (0:Int)=((0:Nat):Int) from rfl,g,aF,c9 (by omega) (by omega)]
 ·rintro _ ⟨m,k,rfl,hm,A,c⟩
  dsimp only
  cases k with
  | zero =>
   right
   exact ⟨m,by rw [show decide (((0:Nat):Int) - 1 ≥ 0)=false by simp]; rfl,hm,c⟩
  | succ k =>
   left
   have f:((k+1:Nat):Int) - 1=(k:Int):=by omega
   rw [heapBuild] at c
   obtain ⟨t,g,j,i⟩:=Eg (l:=m) (r:=k) (hi:=n) (first:=a) (by unfold fI; omega) (by omega) (by omega)
   rw [← i] at c
   refine ⟨(t,(k:Int) - 1),?_,⟨t,k,rfl,by omega,by omega,c⟩,by simp only []; omega⟩
   rw [f,show decide ((k:Int) ≥ 0)=true by simp,bf,g,aF,c9 (by omega) (by omega)]
theorem FQ{body:Int→Option (Int ⊕ Int)}{d:Array Int}{p:Int→Bool}{J:Nat}(h:∀ k:Nat,body (k:Int)=if (decide (k≤J) && p d[k]!)=true then some (.inl ((k+1:Nat):Int)) else some (.inr (k:Int)))(i:Nat):bb body (i:Int)=some ((scanUp p d J i:Nat):Int):=by
 have key:∀ n i:Nat,J+1 - i≤n→bb body (i:Int)=some ((scanUp p d J i:Nat):Int):=by
  intro n
  induction n with
  | zero =>
   intro i c
   have b:¬ (decide (i≤J) && p d[i]!)=true:=by simp; omega
   rw [scanUp,if_neg b]
   exact gf (by rw [h,if_neg b])
  | succ n f =>
   intro i c
   rw [scanUp]
   by_cases b:(decide (i≤J) && p d[i]!)=true
   ·rw [if_pos b]
    have hi:i≤J:=by simp at b; exact b.1
    rw [kq (s':=((i+1:Nat):Int)) (by rw [h,if_pos b])]
    exact f (i+1) (by omega)
   ·rw [if_neg b]
    exact gf (by rw [h,if_neg b])
 exact key _ i (cq _)
theorem zK{body:Int→Option (Int ⊕ Int)}{d:Array Int}{p:Int→Bool}{i:Nat}{J:Nat}(hi:0 < i)(h:∀ k:Nat,k≤J→body (k:Int)=if (decide (i≤k) && p d[k]!)=true then some (.inl ((k:Int) - 1)) else some (.inr (k:Int))):∀ j:Nat,j≤J→bb body (j:Int)=some ((scanDown p d i j:Nat):Int)
 | 0,c=>by
  rw [scanDown]
  refine gf ?_
  rw [h 0 c,if_neg (by simp; omega)]
 | j+1,c=>by
  rw [scanDown]
  by_cases b:(decide (i≤j+1) && p d[j+1]!)=true
  ·rw [if_pos b,kq (s':=(j:Int)) (by rw [h _ c,if_pos b]; congr 2; omega)]
   exact zK hi h j (by omega)
  ·rw [if_neg b]
   refine gf ?_
   rw [h _ c,if_neg b]
theorem zJ{p:Int→Bool}{d:Array Int}{i j:Nat}(h:i≤j+1):i≤scanUp p d j i∧scanUp p d j i≤j+1:=by
 obtain ⟨h1,h2,_⟩:=scanUp_spec p d j _ i rfl
 exact ⟨h1,h2 h⟩
theorem xV(p:Int→Bool)(d:Array Int)(i j:Nat):scanDown p d i j≤j:=(scanDown_spec p d i j).1
theorem zL{p q:Int→Bool}(c:∀ x,q x=!p x){d:Array Int}{i j:Nat}(hi:0 < i)(h:¬ scanUp p d j i > scanDown q d (scanUp p d j i) j):scanUp p d j i < scanDown q d (scanUp p d j i) j:=by
 obtain ⟨g,_,_,f⟩:=scanUp_spec p d j _ i rfl
 obtain ⟨d1,_,_,d4⟩:=scanDown_spec q d (scanUp p d j i) j
 generalize scanUp p d j i=i2 at *
 generalize scanDown q d i2 j=b at *
 rcases Nat.lt_or_ge i2 b with h1 | h1
 ·exact h1
 ·have e:i2=b:=by omega
  subst e
  have h2:=f (by omega)
  have h3:=d4 (by omega) (by omega)
  rw [c,h2] at h3
  cases h3
theorem Oo{l:ah}{a b p:Nat}(hl:fI l)(R:a≤p)(V:p < b)(hb:b≤l.length):∃ l',nm l a b p=some (l',(((partition ltInt l.toArray a b p).1:Nat):Int),(partition ltInt l.toArray a b p).2.1)∧l'.toArray=(partition ltInt l.toArray a b p).2.2:=by
 unfold nm partition
 have K:=hl
 unfold fI at K
 simp only [b9,bl (show p < l.length by omega),bl (show a < l.length by omega),aF,cI,hB (show p < l.length by omega)]
 rw [show ((l.set a (nth l p)).set p (nth l a))=fx l a p from rfl]
 generalize G:fx l a p=D
 have B:D.length=l.length:=by rw [← G,hf]
 rw [← hD,G]
 have L:D[a]? = some (nth D a):=bl (by omega)
 have I:i64 ((b:Int) - 1)=((b - 1:Nat):Int):=fB (by omega) (by omega)
 rw [I,cj (i:=a) (by omega)]
 have up:∀ (m:ah) (J i:Nat),m.length=l.length→J < b→bb (λ (s:Int) =>
   ab (decide (s≤(J:Int)))
   ((idx m s).bind λ x=>(m[a]?).bind λ y=>(eh x y).bind λ c=>ab c (some (.inl (i64 (s+1)))) (some (.inr s)))
   (some (.inr s)):Int→Option (Int ⊕ Int)) (i:Int)=some ((scanUp (λ x=>ltInt x m.toArray[a]!) m.toArray J i:Nat):Int):=λ m J i hm hJ=>FQ (λ k=>by
  rw [pM,ga,ga]
  by_cases A:k≤J
  ·simp only [c7 A,bf,b9,bl (show k < m.length by omega),bl (show a < m.length by omega),aF,iD,Bool.true_and,cj (i:=k) (by omega)]
   cases ltInt (nth m k) (nth m a) <;> rfl
  ·simp [A]) i
 have F:∀ (m:ah) (i j:Nat),m.length=l.length→0 < i→j < b→bb (λ (s:Int) =>
   ab (decide ((i:Int)≤s))
   ((idx m s).bind λ x=>(m[a]?).bind λ y=>(eh x y).bind λ c=>ab (!c) (some (.inl (i64 (s - 1)))) (some (.inr s)))
   (some (.inr s)):Int→Option (Int ⊕ Int)) (j:Int)=some ((scanDown (λ x=>!ltInt x m.toArray[a]!) m.toArray i j:Nat):Int):=λ m i j hm hi E=>zK (J:=j) hi (λ k S=>by
  rw [pM,ga,ga]
  by_cases A:i≤k
  ·simp only [c7 A,bf,b9,bl (show k < m.length by omega),bl (show a < m.length by omega),aF,iD,Bool.true_and,c9 (z:=(k:Int) - 1) (by omega) (by omega)]
   cases ltInt (nth m k) (nth m a) <;> rfl
  ·simp [A]) j (cq _)
 rw [eP (up D (b - 1) (a+1) B (by omega))]
 have n:=zL (p:=λ x=>ltInt x D.toArray[a]!) (q:=λ x=>!ltInt x D.toArray[a]!) (λ _=>rfl) (d:=D.toArray) (i:=a+1) (j:=b - 1) (by omega)
 have hu:=zJ (p:=λ x=>ltInt x D.toArray[a]!) (d:=D.toArray) (i:=a+1) (j:=b - 1) (by omega)
 generalize scanUp (λ x=>ltInt x D.toArray[a]!) D.toArray (b - 1) (a+1)=i at hu n
 rw [eP (F D i (b - 1) B (by omega) (by omega))]
 have hd:=xV (λ x=>!ltInt x D.toArray[a]!) D.toArray i (b - 1)
 have C:=(scanDown_spec (λ x=>!ltInt x D.toArray[a]!) D.toArray i (b - 1)).2.1 (by omega)
 generalize scanDown (λ x=>!ltInt x D.toArray[a]!) D.toArray i (b - 1)=j at hd C n
 rw [uh]
 have H:D[j]? = some (nth D j):=bl (by omega)
 by_cases g:i > j
 ·simp only [g,decide_true,bf,if_true,b9,L,H,aF,cI,hB (show a < D.length by omega)]
  exact ⟨fx D j a,rfl,hD _ _ _⟩
 ·have M:D[i]? = some (nth D i):=bl (by omega)
  have n:=n g
  simp only [g,decide_false,a3,if_false,b9,H,M,aF,cI,hB (show j < D.length by omega),cj (i:=i) (by omega),fB (i:=j) (by omega) (by omega)]
  rw [show ((D.set i (nth D j)).set j (nth D i))=fx D i j from rfl,← hD]
  generalize f:partLoop ltInt a (i+1) (j - 1) (fx D i j).toArray=T
  suffices P:∃ z:ah × Int × Bool,_=some z∧(z.2=(((T.1:Nat):Int),false)∧z.1.toArray=swp T.2 T.1 a) by
   obtain ⟨z,Q,h1,h2⟩:=P
   exact ⟨z.1,by rw [← h1]; exact Q,h2⟩
  refine jb (λ s=>∃ (m:ah) (i j:Nat),s=(m,(i:Int),(j:Int))∧m.length=l.length∧a < i∧i≤j+1∧j < b∧partLoop ltInt a i j m.toArray=T) (λ s=>s.2.2.toNat+1 - s.2.1.toNat)
   (λ o=>∃ m:ah,o=(m,((T.1:Nat):Int))∧m.length=l.length∧m.toArray=T.2∧T.1 < l.length) ⟨_,i+1,j - 1,rfl,by rw [hf]; exact B,by omega,by omega,by omega,f⟩ (λ o ho=>?_) ?_
  ·obtain ⟨m,rfl,hm,O,U⟩:=ho
   simp only [b9,bl (show a < m.length by omega),bl (show T.1 < m.length by omega),aF,cI,hB (show a < m.length by omega)]
   exact ⟨(fx m T.1 a,_),rfl,rfl,by rw [hD,O]⟩
  ·rintro _ ⟨m,i,j,rfl,hm,hi,N,E,f⟩
   rw [partLoop_eq] at f
   dsimp only
   rw [eP (up m j i hm E)]
   have n:=zL (p:=λ x=>ltInt x m.toArray[a]!) (q:=λ x=>!ltInt x m.toArray[a]!) (λ _=>rfl) (d:=m.toArray) (i:=i) (j:=j) (by omega)
   have hu:=zJ (p:=λ x=>ltInt x m.toArray[a]!) (d:=m.toArray) (i:=i) (j:=j) N
   generalize scanUp (λ x=>ltInt x m.toArray[a]!) m.toArray j i=i2 at hu f n
   rw [eP (F m i2 j hm (by omega) E)]
   have hd:=xV (λ x=>!ltInt x m.toArray[a]!) m.toArray i2 j
   have C:=(scanDown_spec (λ x=>!ltInt x m.toArray[a]!) m.toArray i2 j).2.1 (by omega)
   generalize scanDown (λ x=>!ltInt x m.toArray[a]!) m.toArray i2 j=w at hd C f n
   rw [uh]
   by_cases g:i2 > w
   ·rw [if_pos g] at f
    right
    rw [c7 g]
    subst f
    exact ⟨(m,(w:Int)),rfl,m,rfl,hm,rfl,by show w < _; omega⟩
   ·rw [if_neg g,← hD] at f
    have n:=n g
    left
    rw [dH g,a3]
    refine ⟨(fx m i2 w,((i2+1:Nat):Int),((w - 1:Nat):Int)),?_,⟨_,i2+1,w - 1,rfl,by rw [hf]; exact hm,by omega,by omega,by omega,f⟩,by simp only [cI]; omega⟩
    simp only [b9,bl (show i2 < m.length by omega),bl (show w < m.length by omega),aF,cI,hB (show w < m.length by omega),cj (i:=i2) (by omega),fB (i:=w) (by omega) (by omega)]
    rfl
theorem Om{l:ah}{a b p:Nat}(hl:fI l)(O:a≤p)(Q:p < b)(hb:b≤l.length):∃ l',nk l a b p=some (l',(((partitionEqual ltInt l.toArray a b p).1:Nat):Int))∧l'.toArray=(partitionEqual ltInt l.toArray a b p).2:=by
 unfold nk partitionEqual
 have G:=hl
 unfold fI at G
 simp only [b9,bl (show p < l.length by omega),bl (show a < l.length by omega),aF,cI,hB (show p < l.length by omega)]
 rw [show ((l.set a (nth l p)).set p (nth l a))=fx l a p from rfl]
 generalize C:fx l a p=D
 have H:D.length=l.length:=by rw [← C,hf]
 rw [← hD,C]
 have F:i64 ((b:Int) - 1)=((b - 1:Nat):Int):=fB (by omega) (by omega)
 rw [F,cj (i:=a) (by omega)]
 have up:∀ (m:ah) (J i:Nat),m.length=l.length→J < b→bb (λ (s:Int) =>
   ab (decide (s≤(J:Int)))
   ((m[a]?).bind λ y=>(idx m s).bind λ x=>(eh y x).bind λ c=>ab (!c) (some (.inl (i64 (s+1)))) (some (.inr s)))
   (some (.inr s)):Int→Option (Int ⊕ Int)) (i:Int)=some ((scanUp (λ x=>!ltInt m.toArray[a]! x) m.toArray J i:Nat):Int):=λ m J i hm hJ=>FQ (λ k=>by
  rw [pM,ga,ga]
  by_cases w:k≤J
  ·simp only [c7 w,bf,b9,bl (show k < m.length by omega),bl (show a < m.length by omega),aF,iD,Bool.true_and,cj (i:=k) (by omega)]
   cases ltInt (nth m a) (nth m k) <;> rfl
  ·simp [w]) i
 have E:∀ (m:ah) (i j:Nat),m.length=l.length→0 < i→j < b→bb (λ (s:Int) =>
   ab (decide ((i:Int)≤s))
   ((m[a]?).bind λ y=>(idx m s).bind λ x=>(eh y x).bind λ c=>ab c (some (.inl (i64 (s - 1)))) (some (.inr s)))
   (some (.inr s)):Int→Option (Int ⊕ Int)) (j:Int)=some ((scanDown (λ x=>ltInt m.toArray[a]! x) m.toArray i j:Nat):Int):=λ m i j hm hi B=>zK (J:=j) hi (λ k P=>by
  rw [pM,ga,ga]
  by_cases w:i≤k
  ·simp only [c7 w,bf,b9,bl (show k < m.length by omega),bl (show a < m.length by omega),aF,iD,Bool.true_and,c9 (z:=(k:Int) - 1) (by omega) (by omega)]
   cases ltInt (nth m a) (nth m k) <;> rfl
  ·simp [w]) j (cq _)
 generalize f:partEqLoop ltInt a (a+1) (b - 1) D.toArray=T
 suffices M:∃ z:ah × Int,_=some z∧(z.2=((T.1:Nat):Int)∧z.1.toArray=T.2) by
  obtain ⟨z,N,h1,h2⟩:=M
  exact ⟨z.1,by rw [← h1]; exact N,h2⟩
 refine jb (λ s=>∃ (m:ah) (i j:Nat),s=(m,(i:Int),(j:Int))∧m.length=l.length∧a < i∧i≤j+1∧j < b∧partEqLoop ltInt a i j m.toArray=T) (λ s=>s.2.2.toNat+1 - s.2.1.toNat)
  (λ o=>∃ m:ah,o=(m,((T.1:Nat):Int))∧m.toArray=T.2) ⟨_,a+1,b - 1,rfl,H,by omega,by omega,by omega,f⟩ (λ o ho=>?_) ?_
 ·obtain ⟨m,rfl,L⟩:=ho
  exact ⟨_,rfl,rfl,L⟩
 ·rintro _ ⟨m,i,j,rfl,hm,hi,K,B,f⟩
  rw [partEqLoop_eq] at f
  dsimp only
  rw [eP (up m j i hm B)]
  have A:=zL (p:=λ x=>!ltInt m.toArray[a]! x) (q:=λ x=>ltInt m.toArray[a]! x) (λ _=>by simp) (d:=m.toArray) (i:=i) (j:=j) (by omega)
  have hu:=zJ (p:=λ x=>!ltInt m.toArray[a]! x) (d:=m.toArray) (i:=i) (j:=j) K
  generalize scanUp (λ x=>!ltInt m.toArray[a]! x) m.toArray j i=i2 at hu f A
  rw [eP (E m i2 j hm (by omega) B)]
  have hd:=xV (λ x=>ltInt m.toArray[a]! x) m.toArray i2 j
  have I:=(scanDown_spec (λ x=>ltInt m.toArray[a]! x) m.toArray i2 j).2.1 (by omega)
  generalize scanDown (λ x=>ltInt m.toArray[a]! x) m.toArray i2 j=g at hd I f A
  rw [uh]
  by_cases n:i2 > g
  ·rw [if_pos n] at f
   right
   rw [c7 n]
   subst f
   exact ⟨(m,(i2:Int)),rfl,m,rfl,rfl⟩
  ·rw [if_neg n,← hD] at f
   have A:=A n
   left
   rw [dH n,a3]
   refine ⟨(fx m i2 g,((i2+1:Nat):Int),((g - 1:Nat):Int)),?_,⟨_,i2+1,g - 1,rfl,by rw [hf]; exact hm,by omega,by omega,by omega,f⟩,by simp only [cI]; omega⟩
   simp only [b9,bl (show i2 < m.length by omega),bl (show g < m.length by omega),aF,cI,hB (show g < m.length by omega),cj (i:=i2) (by omega),fB (i:=g) (by omega) (by omega)]
   rfl
theorem Oj{l:ah}{a b:Nat}(hl:fI l)(aC:a < b)(hb:b≤l.length):∃ l',ln l a b=some (l',(partialInsertionSort ltInt l.toArray a b).2)∧l'.toArray=(partialInsertionSort ltInt l.toArray a b).1:=by
 unfold ln partialInsertionSort
 have ag:=hl
 unfold fI at ag
 generalize f:partialIns ltInt a b 5 (a+1) l.toArray=T
 suffices w:∃ z:ah × Bool,_=some z∧(z.2=T.2∧z.1.toArray=T.1) by
  obtain ⟨z,ar,h1,h2⟩:=w
  exact ⟨z.1,by rw [← h1]; exact ar,h2⟩
 rw [cj (i:=a) (by omega)]
 refine jb (λ s=>∃ (m:ah) (i k:Nat),s=(m,(i:Int),((5 - k:Nat):Int))∧k≤5∧m.length=l.length∧a < i∧i≤b∧partialIns ltInt a b k i m.toArray=T) (λ s=>5 - s.2.2.toNat)
  (λ o=>∃ m:ah,(o = .inl m∧T.2=false∨o = .inr (m,T.2))∧m.toArray=T.1) ⟨l,a+1,5,rfl,cq _,rfl,by omega,by omega,f⟩ (λ o ho=>?_) ?_
 ·obtain ⟨m,ho,ac⟩:=ho
  rcases ho with ⟨rfl,h2⟩ | rfl
  ·exact ⟨(m,false),rfl,h2.symm,ac⟩
  ·exact ⟨(m,T.2),rfl,rfl,ac⟩
 ·rintro _ ⟨m,i,k,rfl,aD,hm,am,A,f⟩
  dsimp only
  cases k with
  | zero =>
   rw [partialIns] at f
   subst f
   right
   exact ⟨.inl m,rfl,m,.inl ⟨rfl,rfl⟩,rfl⟩
  | succ k =>
   rw [partialIns] at f
   rw [show decide (((5 - (k+1):Nat):Int) < 5)=true by simp; omega,bf]
   have aq:∀ i:Nat,a < i→i≤b→bb (λ (p:Int) =>
     ab (decide (p < (b:Int)))
     ((idx m p).bind λ R =>
     (idx m (i64 (p - 1))).bind λ U =>
     (eh R U).bind λ V =>
     ab (!V)
     (some (.inl (i64 (p+1))))
     (some (.inr p)))
     (some (.inr p)):Int→Option (Int ⊕ Int)) (i:Int)=some ((scanSorted ltInt m.toArray b i:Nat):Int)∧i≤scanSorted ltInt m.toArray b i∧scanSorted ltInt m.toArray b i≤b:=by
    have key:∀ n i:Nat,b - i≤n→a < i→i≤b→bb (λ (p:Int) =>
      ab (decide (p < (b:Int)))
      ((idx m p).bind λ R =>
      (idx m (i64 (p - 1))).bind λ U =>
      (eh R U).bind λ V =>
      ab (!V)
      (some (.inl (i64 (p+1))))
      (some (.inr p)))
      (some (.inr p)):Int→Option (Int ⊕ Int)) (i:Int)=some ((scanSorted ltInt m.toArray b i:Nat):Int)∧i≤scanSorted ltInt m.toArray b i∧scanSorted ltInt m.toArray b i≤b:=by
     intro n
     induction n with
     | zero =>
      intro i ap hi A
      have:¬ i < b:=by omega
      rw [scanSorted,if_neg (by simp [this])]
      exact ⟨gf (by rw [ik,dH this,a3]),cq _,A⟩
     | succ n au =>
      intro i ap hi A
      rw [scanSorted,ga,ga]
      by_cases h1:i < b
      ·have F:m[i]? = some (nth m i):=bl (by omega)
       have G:m[i - 1]? = some (nth m (i - 1)):=bl (by omega)
       cases w:ltInt (nth m i) (nth m (i - 1)) with
       | true =>
        rw [if_neg (by simp)]
        refine ⟨gf ?_,cq _,A⟩
        simp only [ik,c7 h1,bf,fB (i:=i) (by omega) (by omega),b9,F,G,aF,iD,w,Bool.not_true,a3]
       | false =>
        rw [if_pos (by simp [h1])]
        obtain ⟨J,ad,K⟩:=au (i+1) (by omega) (by omega) (by omega)
        refine ⟨?_,by omega,K⟩
        rw [kq (s':=((i+1:Nat):Int)) (by simp only [ik,c7 h1,bf,fB (i:=i) (by omega) (by omega),b9,F,G,aF,iD,w,Bool.not_false,cj (i:=i) (by omega)])]
        exact J
      ·rw [if_neg (by simp [h1])]
       exact ⟨gf (by rw [ik,dH h1,a3]),cq _,A⟩
    exact λ i hi A=>key _ i (cq _) hi A
   obtain ⟨J,ad,K⟩:=aq i am A
   rw [eP J]
   generalize scanSorted ltInt m.toArray b i=i2 at ad K f
   dsimp only at f ⊢
   rw [show (((i2:Nat):Int) == ((b:Nat):Int))=decide (i2=b) by rw [Bool.eq_iff_iff,beq_iff_eq,decide_eq_true_eq]; omega]
   by_cases h1:i2=b
   ·rw [if_pos h1] at f
    subst f
    right
    exact ⟨.inr (m,true),by rw [c7 h1]; rfl,m,.inr rfl,rfl⟩
   ·rw [if_neg h1] at f
    rw [dH h1,a3,ja (i:=b) (j:=a) (by omega) (by omega),show decide (((b - a:Nat):Int) < 50)=decide (b - a < 50) from ik (j:=50)]
    by_cases h2:b - a < 50
    ·rw [if_pos h2] at f
     subst f
     right
     exact ⟨.inr (m,false),by rw [c7 h2]; rfl,m,.inr rfl,rfl⟩
    ·rw [if_neg h2] at f
     rw [dH h2,a3]
     left
     have F:m[i2]? = some (nth m i2):=bl (by omega)
     have G:m[i2 - 1]? = some (nth m (i2 - 1)):=bl (by omega)
     simp only [fB (i:=i2) (by omega) (by omega),b9,F,G,aF,cI,hB (show i2 - 1 < m.length by omega)]
     rw [show ((m.set i2 (nth m (i2 - 1))).set (i2 - 1) (nth m i2))=fx m i2 (i2 - 1) from rfl]
     rw [← hD] at f
     generalize al:fx m i2 (i2 - 1)=S at f
     have Y:S.length=l.length:=by rw [← al,hf]; exact hm
     have an:∃ D:ah,((((ab (decide (i64 ((i2:Int) - (a:Int)) ≥ 2))
       ((bb (O:=ah) (λ (d:(ah × Int)) =>
       ab (decide (d.2 ≥ 1))
       ((idx d.1 d.2).bind λ aw =>
       (idx d.1 (i64 (d.2 - 1))).bind λ ax =>
       (eh aw ax).bind λ ay =>
       ab (!ay)
       (some (.inr d.1))
       ((idx d.1 (i64 (d.2 - 1))).bind λ ae =>
       (idx d.1 d.2).bind λ az =>
       (idx d.1 d.2).bind λ aE =>
       (idx (d.1.set d.2.toNat ae) (i64 (d.2 - 1))).bind λ aG =>
       some (.inl ((d.1.set d.2.toNat ae).set (i64 (d.2 - 1)).toNat az,i64 (d.2 - 1)))))
       (some (.inr d.1))) (S,((i2 - 1:Nat):Int))).bind (λ (av:ah) =>
       some av))
       (some S)):Option ah))=some D)∧D.length=l.length∧D.toArray=if i2 - a ≥ 2 then shiftDown ltInt (i2 - 1) S.toArray else S.toArray:=by
      rw [ja (i:=i2) (j:=a) (by omega) (by omega),show decide (((i2 - a:Nat):Int) ≥ 2)=decide (i2 - a ≥ 2) from rJ (j:=2)]
      by_cases h3:i2 - a ≥ 2
      ·rw [c7 h3,bf,if_pos h3]
       refine jb (λ s=>∃ (q:ah) (j:Nat),s=(q,(j:Int))∧q.length=l.length∧j < l.length∧shiftDown ltInt j q.toArray=shiftDown ltInt (i2 - 1) S.toArray) (λ s=>s.2.toNat)
        (λ o=>o.length=l.length∧o.toArray=shiftDown ltInt (i2 - 1) S.toArray) ⟨S,i2 - 1,rfl,Y,by omega,rfl⟩ (λ o ho=>⟨o,rfl,ho⟩) ?_
       rintro _ ⟨q,j,rfl,B,Z,g⟩
       dsimp only
       cases j with
       | zero=>right; exact ⟨q,rfl,B,g⟩
       | succ j =>
        rw [shiftDown,ga,ga] at g
        rw [show decide (((j+1:Nat):Int) ≥ 1)=true by simp; omega,bf,Dg (by omega)]
        simp only [b9,bl (show j+1 < q.length by omega),bl (show j < q.length by omega),aF,iD,cI,hB (show j < q.length by omega)]
        cases w:ltInt (nth q (j+1)) (nth q j) with
        | false=>rw [w] at g; right; exact ⟨q,rfl,B,by simpa using g⟩
        | true =>
         rw [w] at g
         simp only [Bool.not_true,fc,if_false] at g
         left
         exact ⟨(fx q (j+1) j,(j:Int)),rfl,⟨_,j,rfl,by rw [hf]; exact B,by omega,by rw [hD]; exact g⟩,by simp only [cI]; omega⟩
      ·rw [dH h3,a3,if_neg h3]
       exact ⟨S,rfl,Y,rfl⟩
     obtain ⟨D,ai,W,ak⟩:=an
     rw [ai,aF]
     rw [← ak] at f
     have ao:∃ y:ah,y.length=l.length∧y.toArray=(if b - i2 ≥ 2 then shiftUp ltInt b (i2+1) D.toArray else D.toArray)∧(b - i2 ≥ 2→bb (O:=ah) (λ (c:(ah × Int)) =>
       ab (decide (c.2 < (b:Int)))
       ((idx c.1 c.2).bind λ L =>
       (idx c.1 (i64 (c.2 - 1))).bind λ M =>
       (eh L M).bind λ N =>
       ab (!N)
       (some (.inr c.1))
       ((idx c.1 (i64 (c.2 - 1))).bind λ E =>
       (idx c.1 c.2).bind λ P =>
       (idx c.1 c.2).bind λ aA =>
       (idx (c.1.set c.2.toNat E) (i64 (c.2 - 1))).bind λ aB =>
       some (.inl ((c.1.set c.2.toNat E).set (i64 (c.2 - 1)).toNat P,i64 (c.2+1)))))
       (some (.inr c.1))) (D,((i2+1:Nat):Int))=some y):=by
      by_cases h3:b - i2 ≥ 2
      ·rw [if_pos h3]
       obtain ⟨y,H,I,C⟩:=yQ (S:=ah × Int) (O:=ah) (body:=λ (c:(ah × Int)) =>
        ab (decide (c.2 < (b:Int)))
        ((idx c.1 c.2).bind λ L =>
        (idx c.1 (i64 (c.2 - 1))).bind λ M =>
        (eh L M).bind λ N =>
        ab (!N)
        (some (.inr c.1))
        ((idx c.1 (i64 (c.2 - 1))).bind λ E =>
        (idx c.1 c.2).bind λ P =>
        (idx c.1 c.2).bind λ aA =>
        (idx (c.1.set c.2.toNat E) (i64 (c.2 - 1))).bind λ aB =>
        some (.inl ((c.1.set c.2.toNat E).set (i64 (c.2 - 1)).toNat P,i64 (c.2+1)))))
        (some (.inr c.1))) (λ s=>∃ (q:ah) (j:Nat),s=(q,(j:Int))∧q.length=l.length∧0 < j∧shiftUp ltInt b j q.toArray=shiftUp ltInt b (i2+1) D.toArray) (λ s=>b - s.2.toNat)
        (Q:=λ o=>o.length=l.length∧o.toArray=shiftUp ltInt b (i2+1) D.toArray) (by
         rintro _ ⟨q,j,rfl,B,Z,g⟩
         rw [shiftUp] at g
         dsimp only
         rw [ik]
         by_cases h4:j < b
         ·rw [if_pos h4,ga,ga] at g
          rw [c7 h4,bf,fB (i:=j) (by omega) Z]
          simp only [b9,bl (show j < q.length by omega),bl (show j - 1 < q.length by omega),aF,iD,cI,hB (show j - 1 < q.length by omega),cj (i:=j) (by omega)]
          cases w:ltInt (nth q j) (nth q (j - 1)) with
          | false=>rw [w] at g; right; exact ⟨q,rfl,B,by simpa using g⟩
          | true =>
           rw [w] at g
           simp only [Bool.not_true,fc,if_false] at g
           left
           exact ⟨(fx q j (j - 1),((j+1:Nat):Int)),rfl,⟨_,j+1,rfl,by rw [hf]; exact B,by omega,by rw [hD]; exact g⟩,by simp only [cI]; omega⟩
         ·rw [if_neg h4] at g
          right
          exact ⟨q,by rw [dH h4,a3],B,g⟩) (D,((i2+1:Nat):Int)) ⟨D,i2+1,rfl,W,by omega,rfl⟩
       exact ⟨y,I,C,λ _=>H⟩
      ·rw [if_neg h3]
       exact ⟨D,W,rfl,λ h=>absurd h h3⟩
     obtain ⟨y,I,C,H⟩:=ao
     rw [← C] at f
     refine ⟨(y,(i2:Int),((5 - k:Nat):Int)),?_,⟨y,i2,k,rfl,by omega,I,by omega,by omega,f⟩,by simp only [cI]; omega⟩
     have af:i64 (((5 - (k+1):Nat):Int)+1)=((5 - k:Nat):Int):=by rw [c9 (by omega) (by omega)]; omega
     rw [ja (i:=b) (j:=i2) (by omega) (by omega),show decide (((b - i2:Nat):Int) ≥ 2)=decide (b - i2 ≥ 2) from rJ (j:=2),cj (i:=i2) (by omega),af]
     by_cases h3:b - i2 ≥ 2
     ·rw [c7 h3,bf,eP (H h3)]
     ·rw [dH h3,a3]
      rw [if_neg h3] at C
      rw [show y=D from by simpa using C]
theorem GJ(z:Int):IntKind.wrap .u64 z=z.emod 18446744073709551616:=by
 simp [IntKind.wrap,IntKind.bits,IntKind.signed]
 rfl
theorem GK(z:Int):0≤IntKind.wrap .u64 z∧IntKind.wrap .u64 z < 18446744073709551616:=by
 rw [GJ]
 exact ⟨Int.emod_nonneg _ (by omega),Int.emod_lt_of_pos _ (by omega)⟩
theorem Al{z:Int}(b:0≤z)(h1:z < 18446744073709551616):IntKind.wrap .u64 z=z:=by
 rw [GJ]
 exact Int.emod_eq_of_lt b h1
theorem FX{a b:Int}(hb:0≤b):∃ z,gX .u64 a b=some z∧0≤z∧z < 18446744073709551616:=by
 unfold gX
 rw [if_neg (by omega)]
 exact ⟨_,rfl,GK _⟩
theorem SD{a b:Int}(hb:0≤b):∃ z,eR .u64 a b=some z:=by
 unfold eR
 rw [if_neg (by omega)]
 exact ⟨_,rfl⟩
theorem Am(a b:Int):∃ z,cC .xor .u64 a b=some z∧0≤z∧z < 18446744073709551616:=⟨_,rfl,GK _⟩
theorem OJ(x:Int):∃ y,oN x=some (y,y)∧0≤y∧y < 18446744073709551616:=by
 unfold oN
 obtain ⟨a,j,_⟩:=FX (a:=x) (b:=13) (by omega)
 rw [j,aF]
 obtain ⟨c,k,_⟩:=Am x a
 rw [k,aF]
 obtain ⟨d,hd⟩:=SD (a:=c) (b:=7) (by omega)
 rw [hd,aF]
 obtain ⟨e,he,_⟩:=Am c d
 rw [he,aF]
 obtain ⟨f,m,_⟩:=FX (a:=e) (b:=17) (by omega)
 rw [m,aF]
 obtain ⟨g,n,i,h1⟩:=Am e f
 rw [n,aF]
 exact ⟨g,rfl,i,h1⟩
theorem Hc{a m:Int}(hm:0≤m)(b:m < 18446744073709551616):∃ z:Nat,cC .and .u64 a m=some (z:Int)∧(z:Int)≤m:=by
 unfold cC
 simp only
 have h1:(BitVec.ofInt IntKind.u64.bits a &&& BitVec.ofInt IntKind.u64.bits m).toNat≤(BitVec.ofInt IntKind.u64.bits m).toNat:=by
  rw [BitVec.toNat_and]
  exact Nat.and_le_right
 have h2:(BitVec.ofInt IntKind.u64.bits m).toNat=m.toNat:=by
  rw [BitVec.toNat_ofInt]
  have:((2 ^ IntKind.u64.bits:Nat):Int)=18446744073709551616:=by decide
  rw [this,Int.emod_eq_of_lt hm b]
 rw [h2] at h1
 generalize (BitVec.ofInt IntKind.u64.bits a &&& BitVec.ofInt IntKind.u64.bits m).toNat=z at h1
 exact ⟨z,by rw [Al (by omega) (by omega)],by omega⟩
def DI(n:Nat):Bool:=(match rv (IntKind.wrap .u64 (n:Int)) with | some k=>decide (0≤k) && decide (k≤64) | none=>false) && (decide (n < 8) || match ry (n:Int) with | some M=>decide ((n:Int) < M) && decide (M≤2 * (n:Int)) | none=>false)
set_option maxRecDepth 1000000 in
theorem Ny:((List.range 256).all DI)=true:=by decide +kernel
def DJ(q:Nat):Bool:=decide (q=0) || ((match rv (IntKind.wrap .u64 ((256 * q:Nat):Int)) with | some k=>decide (0≤k) && decide (k≤64) | none=>false) && (match ry ((256 * q:Nat):Int) with | some M=>decide (256 * ((q:Int)+1)≤M) && decide (M≤512 * (q:Int)) | none=>false))
set_option maxRecDepth 1000000 in
theorem Nz:((List.range 256).all DJ)=true:=by decide +kernel
theorem SC(k:Nat):eR .u64 (k:Int) 8=some ((k / 256:Nat):Int):=by
 unfold eR
 rw [if_neg (by decide),show ((2:Int) ^ min (8:Int).toNat IntKind.u64.bits)=256 by decide,Int.fdiv_eq_ediv_of_nonneg _ (by decide)]
 rfl
theorem DL{n:Nat}(h1:256≤n)(h:n < 65536):ky (IntKind.wrap .u64 (n:Int))=ky (IntKind.wrap .u64 ((256 * (n / 256):Nat):Int)):=by
 have h2:256≤256 * (n / 256):=by omega
 have h3:256 * (n / 256) < 65536:=by omega
 have h4:256 * (n / 256) / 256=n / 256:=by omega
 generalize 256 * (n / 256)=q at h2 h3 h4
 have e1:∀ k:Nat,k < 65536→IntKind.wrap .u64 (k:Int)=(k:Int):=λ k b=>Al (by omega) (by omega)
 have c:∀ k:Nat,k < 65536→decide ((k:Int) ≥ 4294967296)=false:=λ k b=>by simp; omega
 have d:∀ k:Nat,k < 65536→decide ((k:Int) ≥ 65536)=false:=λ k b=>by simp; omega
 have f:∀ k:Nat,256≤k→decide ((k:Int) ≥ 256)=true:=λ k b=>by simp; omega
 rw [e1 n h,e1 q h3]
 unfold ky qb
 simp only [c n h,c q h3,d n h,d q h3,f n h1,f q h2,a3,bf,aF,SC,h4]
theorem DK{n:Nat}(h:n < 65536):(∃ k:Nat,ky (IntKind.wrap .u64 (n:Int))=some (k:Int)∧k≤64)∧(8≤n→∃ M:Nat,lp (n:Int)=some (M:Int)∧n < M∧M≤2 * n):=by
 rcases Nat.lt_or_ge n 256 with c | c
 ·have:=Ny
  rw [List.all_eq_true] at this
  have h1:=this n (List.mem_range.2 c)
  simp only [DI,cO,Bool.or_eq_true,decide_eq_true_eq] at h1
  obtain ⟨h1,h2⟩:=h1
  constructor
  ·cases b:rv (IntKind.wrap .u64 (n:Int)) with
   | none=>rw [b] at h1; cases h1
   | some k =>
    rw [b] at h1
    simp only [cO,decide_eq_true_eq] at h1
    exact ⟨k.toNat,by rw [Int.toNat_of_nonneg h1.1]; exact Du _ _ b,by omega⟩
  ·intro d
   rcases h2 with h2 | h2
   ·omega
   ·cases b:ry (n:Int) with
    | none=>rw [b] at h2; cases h2
    | some M =>
     rw [b] at h2
     simp only [cO,decide_eq_true_eq] at h2
     exact ⟨M.toNat,by rw [Int.toNat_of_nonneg (by omega)]; exact Dy _ _ b,by omega,by omega⟩
 ·have:=Nz
  rw [List.all_eq_true] at this
  have h1:=this (n / 256) (List.mem_range.2 (by omega))
  simp only [DJ,cO,Bool.or_eq_true,decide_eq_true_eq] at h1
  rcases h1 with h1 | ⟨h1,h2⟩
  ·omega
  ·have e:lp (n:Int)=lp ((256 * (n / 256):Nat):Int):=by unfold lp; rw [DL c h]
   rw [DL c h,e]
   constructor
   ·cases b:rv (IntKind.wrap .u64 ((256 * (n / 256):Nat):Int)) with
    | none=>rw [b] at h1; cases h1
    | some k =>
     rw [b] at h1
     simp only [cO,decide_eq_true_eq] at h1
     exact ⟨k.toNat,by rw [Int.toNat_of_nonneg h1.1]; exact Du _ _ b,by omega⟩
   ·intro d
    cases b:ry ((256 * (n / 256):Nat):Int) with
    | none=>rw [b] at h2; cases h2
    | some M =>
     rw [b] at h2
     simp only [cO,decide_eq_true_eq] at h2
     exact ⟨M.toNat,by rw [Int.toNat_of_nonneg (by omega)]; exact Dy _ _ b,by omega,by omega⟩
theorem zB{n d:Nat}(h:n≤1000000000)(hd:0 < d):gp (n:Int) (d:Int)=some ((n / d:Nat):Int):=by
 unfold gp
 have:=Nat.div_le_self n d
 rw [if_neg (by omega),← Int.ofNat_tdiv]
 generalize n / d=q at this
 rw [c9 (by omega) (by omega)]
abbrev gj(l:ah):Prop:=l.length≤50000
theorem Oe{l:ah}{a b:Nat}(hl:gj l)(H:a≤b)(hb:b≤l.length):∃ l',lX l a b=some l'∧PermIn a b l.toArray l'.toArray:=by
 unfold lX
 have p:=hl
 unfold gj at p
 rw [ja (i:=b) (j:=a) (by omega) (by omega),show decide (((b - a:Nat):Int) ≥ 8)=decide (b - a ≥ 8) from rJ (j:=8)]
 by_cases c:b - a ≥ 8
 case neg=>exact ⟨l,by rw [dH c,a3],permIn_refl _ _ _⟩
 rw [c7 c,bf]
 obtain ⟨M,w,F,G⟩:=(DK (n:=b - a) (by omega)).2 c
 have k:gp ((b - a:Nat):Int) 4=some (((b - a) / 4:Nat):Int):=zB (d:=4) (by omega) (by omega)
 rw [w,aF,k,aF]
 have e1:i64 ((((b - a) / 4:Nat):Int) * 2)=(((b - a) / 4 * 2:Nat):Int):=by rw [c9 (by omega) (by omega)]; omega
 rw [e1,lg (i:=a) (j:=(b - a) / 4 * 2) (by omega) (by omega),fB (i:=a+(b - a) / 4 * 2) (by omega) (by omega)]
 refine jb (λ s=>∃ (m:ah) (i:Nat) (r:Int),s=(m,(i:Int),r)∧a≤i∧m.length=l.length∧PermIn a b l.toArray m.toArray) (λ s=>b - s.2.1.toNat)
  (λ o=>PermIn a b l.toArray o.toArray) ⟨l,a+(b - a) / 4 * 2 - 1,_,rfl,by omega,rfl,permIn_refl _ _ _⟩ (λ o ho=>⟨o,rfl,ho⟩) ?_
 rintro _ ⟨m,i,r,rfl,A,hm,g⟩
 dsimp only
 rw [aF,e1,lg (i:=a) (j:=(b - a) / 4 * 2) (by omega) (by omega),cj (i:=a+(b - a) / 4 * 2) (by omega),Al (z:=(M:Int) - 1) (by omega) (by omega),pM]
 by_cases hi:i≤a+(b - a) / 4 * 2+1
 ·left
  rw [c7 hi,bf]
  obtain ⟨y,D,_⟩:=OJ r
  rw [D,aF]
  obtain ⟨z,E,J⟩:=Hc (a:=y) (m:=(M:Int) - 1) (by omega) (by omega)
  rw [E,aF,c9 (z:=(z:Int)) (by omega) (by omega),rJ]
  have B:∃ t:Nat,t < b - a∧(((ab (decide (z ≥ b - a)) (some (i64 ((z:Int) - ((b - a:Nat):Int)))) (some (z:Int))):b5))=some (t:Int):=by
   by_cases f:z ≥ b - a
   ·exact ⟨z - (b - a),by omega,by rw [c7 f,bf,ja (by omega) f]⟩
   ·exact ⟨z,by omega,by rw [dH f,a3]⟩
  obtain ⟨t,I,C⟩:=B
  rw [C,aF,lg (i:=a) (j:=t) (by omega) (by omega)]
  refine ⟨(fx m i (a+t),((i+1:Nat):Int),y),?_,⟨_,i+1,y,rfl,by omega,by rw [hf]; exact hm,?_⟩,by simp only [cI]; omega⟩
  ·simp only [b9,bl (show i < m.length by omega),bl (show a+t < m.length by omega),aF,cI,hB (show a+t < m.length by omega),cj (i:=i) (by omega)]
   rfl
  ·rw [hD]
   exact permIn_trans _ _ _ a b g (swp_permIn _ a b i (a+t) A (by omega) (by omega) (by omega) (by simp; omega))
 ·right
  exact ⟨m,by rw [dH hi,a3],g⟩
theorem u6{l:ah}{i j:Nat}(hi:i < l.length)(b:j < l.length)(s:Int):∃ s',jK l i j s=some (s',(i:Int),(j:Int))∨jK l i j s=some (s',(j:Int),(i:Int)):=by
 unfold jK
 simp only [b9,bl hi,bl b,aF,iD]
 cases ltInt (nth l j) (nth l i) with
 | true=>exact ⟨_,.inr rfl⟩
 | false=>exact ⟨_,.inl rfl⟩
theorem yW{l:ah}{i j k:Nat}(hi:i < l.length)(c:j < l.length)(d:k < l.length)(s:Int):∃ (s':Int) (p:Nat),kz l i j k s=some (s',(p:Int))∧(p=i∨p=j∨p=k):=by
 unfold kz
 have key:∀ (x y:Nat) (s:Int),x < l.length→y < l.length→(x=i∨x=j)→(y=i∨y=j)→∃ (s':Int) (p:Nat),((jK l (y:Int) (k:Int) s).bind λ m=>(jK l (x:Int) m.2.1 m.1).bind λ n=>some (n.1,n.2.2))=some (s',(p:Int))∧(p=i∨p=j∨p=k):=by
  intro x y s f g o w
  obtain ⟨t,b | b⟩:=u6 g d s
  ·rw [b,aF]
   obtain ⟨u,hu | hu⟩:=u6 f g t
   ·exact ⟨u,y,by rw [hu]; rfl,by omega⟩
   ·exact ⟨u,x,by rw [hu]; rfl,by omega⟩
  ·rw [b,aF]
   obtain ⟨u,hu | hu⟩:=u6 f d t
   ·exact ⟨u,k,by rw [hu]; rfl,by omega⟩
   ·exact ⟨u,x,by rw [hu]; rfl,by omega⟩
 obtain ⟨t,b | b⟩:=u6 hi c s
 ·rw [b,aF]
  exact key i j t hi c (.inl rfl) (.inr rfl)
 ·rw [b,aF]
  exact key j i t c hi (.inr rfl) (.inl rfl)
theorem yU{l:ah}{i:Nat}(b:0 < i)(hi:i+1 < l.length)(hl:gj l)(s:Int):∃ (s':Int) (p:Nat),jJ l i s=some (s',(p:Int))∧i - 1≤p∧p≤i+1:=by
 unfold jJ
 unfold gj at hl
 rw [fB (i:=i) (by omega) b,cj (i:=i) (by omega)]
 obtain ⟨t,p,c,d⟩:=yW (l:=l) (i:=i - 1) (j:=i) (k:=i+1) (by omega) (by omega) hi s
 exact ⟨t,p,by rw [c]; rfl,by omega,by omega⟩
theorem Og{l:ah}{a b:Nat}(hl:gj l)(J:a+12 < b)(hb:b≤l.length):∃ (p:Nat) (h:Int),nj l a b=some ((p:Int),h)∧a≤p∧p < b:=by
 unfold nj
 have C:=hl
 unfold gj at C
 have B:gp ((b - a:Nat):Int) 4=some (((b - a) / 4:Nat):Int):=zB (d:=4) (by omega) (by omega)
 rw [ja (i:=b) (j:=a) (by omega) (by omega),B]
 simp only [aF]
 have e1:i64 ((((b - a) / 4:Nat):Int) * 1)=(((b - a) / 4:Nat):Int):=by rw [c9 (by omega) (by omega)]; omega
 have z:i64 ((((b - a) / 4:Nat):Int) * 2)=(((b - a) / 4 * 2:Nat):Int):=by rw [c9 (by omega) (by omega)]; omega
 have A:i64 ((((b - a) / 4:Nat):Int) * 3)=(((b - a) / 4 * 3:Nat):Int):=by rw [c9 (by omega) (by omega)]; omega
 rw [e1,z,A,lg (i:=a) (by omega) (by omega),lg (i:=a) (by omega) (by omega),lg (i:=a) (by omega) (by omega),show decide (((b - a:Nat):Int) ≥ 8)=true by simp; omega,bf]
 have E:∃ (p:Nat) (h:Int),(((ab (decide (((b - a:Nat):Int) ≥ 50))
   ((jJ l ((a+(b - a) / 4:Nat):Int) 0).bind λ n =>
   (jJ l ((a+(b - a) / 4 * 2:Nat):Int) n.1).bind λ o =>
   (jJ l ((a+(b - a) / 4 * 3:Nat):Int) o.1).bind λ s =>
   (kz l n.2 o.2 s.2 s.1).bind λ w =>
   some (w.2,w.1))
   ((kz l ((a+(b - a) / 4:Nat):Int) ((a+(b - a) / 4 * 2:Nat):Int) ((a+(b - a) / 4 * 3:Nat):Int) 0).bind λ y =>
   some (y.2,y.1))):Option (Int × Int)))=some ((p:Int),h)∧a≤p∧p < b:=by
  by_cases I:b - a ≥ 50
  ·rw [show decide (((b - a:Nat):Int) ≥ 50)=true by simp; omega,bf]
   obtain ⟨s1,p1,F,r1,K⟩:=yU (l:=l) (i:=a+(b - a) / 4) (by omega) (by omega) hl 0
   rw [F,aF]
   obtain ⟨s2,p2,G,r2,L⟩:=yU (l:=l) (i:=a+(b - a) / 4 * 2) (by omega) (by omega) hl s1
   rw [G,aF]
   obtain ⟨s3,p3,H,r3,M⟩:=yU (l:=l) (i:=a+(b - a) / 4 * 3) (by omega) (by omega) hl s2
   rw [H,aF]
   obtain ⟨m,p4,g,r4⟩:=yW (l:=l) (i:=p1) (j:=p2) (k:=p3) (by omega) (by omega) (by omega) s3
   exact ⟨p4,m,by rw [g]; rfl,by omega,by omega⟩
  ·rw [show decide (((b - a:Nat):Int) ≥ 50)=false by simp; omega,a3]
   obtain ⟨m,p4,g,r4⟩:=yW (l:=l) (i:=a+(b - a) / 4) (j:=a+(b - a) / 4 * 2) (k:=a+(b - a) / 4 * 3) (by omega) (by omega) (by omega) 0
   exact ⟨p4,m,by rw [g]; rfl,by omega,by omega⟩
 obtain ⟨p,h,D,c,f⟩:=E
 rw [D,aF]
 cases h == 0 with
 | true=>exact ⟨p,1,rfl,c,f⟩
 | false =>
  cases h == 12 with
  | true=>exact ⟨p,2,rfl,c,f⟩
  | false=>exact ⟨p,0,rfl,c,f⟩
abbrev SI(a b:Nat)(d:Array Int):Prop:=SortedIn ltInt a b d
theorem Rd:∀ (k:Nat) (l:ah) (a b G:Nat),gj l→G≤100→a≤b→b≤l.length→b - a≤12 * 2 ^ k→Below ltInt a b l.toArray→∃ l',kx (k+1) l a b G=some l'∧PermIn a b l.toArray l'.toArray∧SI a b l'.toArray:=by
 intro k
 induction k with
 | zero =>
  intro l a b G hl an M hb Z K
  have hl':=hl
  unfold gj at hl'
  obtain ⟨t,f,n⟩:=Ec (l:=l) (a:=a) (b:=b) (by unfold fI; omega) M hb
  obtain ⟨h1,h2⟩:=insertionSort_holds swo_ltInt l.toArray a b M (by simpa using hb)
  rw [← n] at h1 h2
  refine ⟨t,?_,h1,h2⟩
  rw [kx]
  rw [eP (o:=t) (gf ?_)]
  dsimp only
  rw [ja (i:=b) (j:=a) (by omega) (by omega),show decide (((b - a:Nat):Int)≤12)=true by simp; omega,bf,f]
  rfl
 | succ k aA =>
  intro l a b G hl an M hb Z K
  have hl':=hl
  unfold gj at hl'
  rw [kx]
  refine jb (λ s=>∃ (m:ah) (x y lm:Nat) (A wp:Bool),s=(m,(x:Int),(y:Int),(lm:Int),A,wp)∧m.length=l.length∧x≤y∧y≤l.length∧lm≤100∧y - x≤12 * 2 ^ (k+1)∧Below ltInt x y m.toArray∧∀ R,PermIn x y m.toArray R→SI x y R→PermIn a b l.toArray R∧SI a b R) (λ s=>s.2.2.1.toNat - s.2.1.toNat)
   (λ o=>PermIn a b l.toArray o.toArray∧SI a b o.toArray) ⟨l,a,b,G,true,true,rfl,rfl,M,hb,an,Z,K,λ R h1 h2=>⟨h1,h2⟩⟩ (λ o ho=>⟨o,rfl,ho⟩) ?_
  rintro _ ⟨m,x,y,lm,A,wp,rfl,hm,F,az,a4,Z,K,C⟩
  dsimp only
  have aO:m.toArray.size=l.length:=by simpa using hm
  rw [ja (i:=y) (j:=x) (by omega) (by omega),show decide (((y - x:Nat):Int)≤12)=decide (y - x≤12) from pM (j:=12)]
  by_cases ak:y - x≤12
  ·right
   obtain ⟨t,f,n⟩:=Ec (l:=m) (a:=x) (b:=y) (by unfold fI; omega) F (by omega)
   obtain ⟨h1,h2⟩:=insertionSort_holds swo_ltInt m.toArray x y F (by omega)
   rw [← n] at h1 h2
   exact ⟨t,by rw [c7 ak,bf,f]; rfl,C _ h1 h2⟩
  rw [dH ak,a3,show (((lm:Nat):Int) == 0)=decide (lm=0) by rw [Bool.eq_iff_iff,beq_iff_eq,decide_eq_true_eq]; omega]
  by_cases ao:lm=0
  ·right
   obtain ⟨t,f,n⟩:=Ob (l:=m) (a:=x) (b:=y) (by unfold fI; omega) (by omega) (by omega)
   obtain ⟨h1,h2⟩:=heapSort_holds swo_ltInt m.toArray x y F (by omega)
   rw [← n] at h1 h2
   exact ⟨t,by rw [c7 ao,bf,f]; rfl,C _ h1 h2⟩
  rw [dH ao,a3]
  have aQ:∃ (m1:ah) (w:Nat),(((ab (!A)
    ((lX m (x:Int) (y:Int)).bind λ aV =>
    some (aV,i64 ((lm:Int) - 1)))
    (some (m,(lm:Int)))):Option (ah × Int)))=some (m1,(w:Int))∧w≤lm∧PermIn x y m.toArray m1.toArray:=by
   cases A with
   | true=>exact ⟨m,lm,rfl,cq _,permIn_refl _ _ _⟩
   | false =>
    obtain ⟨t,f,aU⟩:=Oe (l:=m) (a:=x) (b:=y) (by unfold gj; omega) F (by omega)
    refine ⟨t,lm - 1,?_,by omega,aU⟩
    rw [Bool.not_false,bf,f,aF,fB (i:=lm) (by omega) (by omega)]
  obtain ⟨m1,w,e1,a2,U⟩:=aQ
  rw [e1,aF]
  have ar:m1.toArray.size=l.length:=by rw [U.1,aO]
  have a6:m1.length=l.length:=by simpa using ar
  have aI:=K.perm (by omega) U
  obtain ⟨p,h,aB,av,aP⟩:=Og (l:=m1) (a:=x) (b:=y) (by unfold gj; omega) (by omega) (by omega)
  dsimp only
  rw [aB,aF]
  have aR:∃ (g:ah) (p2:Nat) (h2:Int),(((ab (h == 2)
    ((lY m1 (x:Int) (y:Int)).bind λ aW =>
    some (aW,i64 ((i64 ((y:Int) - 1)) - (i64 ((p:Int) - (x:Int)))),1))
    (some (m1,(p:Int),h))):Option (ah × Int × Int)))=some (g,(p2:Int),h2)∧x≤p2∧p2 < y∧PermIn x y m1.toArray g.toArray:=by
   cases h == 2 with
   | false=>exact ⟨m1,p,h,rfl,av,aP,permIn_refl _ _ _⟩
   | true =>
    obtain ⟨t,f,n⟩:=Oh (l:=m1) (a:=x) (b:=y) (by unfold fI; omega) (by omega) (by omega)
    have aw:=reverseRange_holds m1.toArray x y F (by omega)
    rw [← n] at aw
    refine ⟨t,(y - 1) - (p - x),1,?_,by omega,by omega,aw⟩
    rw [bf,f,aF,fB (i:=y) (by omega) (by omega),ja (i:=p) (j:=x) (by omega) av,ja (i:=y - 1) (j:=p - x) (by omega) (by omega)]
  obtain ⟨g,p2,h2,aC,N,O,V⟩:=aR
  rw [aC,aF]
  have au:g.toArray.size=l.length:=by rw [V.1,ar]
  have a8:g.length=l.length:=by simpa using au
  have al:=aI.perm (by omega) V
  have aJ:=permIn_trans _ _ _ x y U V
  dsimp only
  have aS:∃ c:Bool,((((ab A (ab wp (some (h2 == 1)) (some false)) (some false)):a5))=some c):=by
   cases A with
   | false=>exact ⟨false,rfl⟩
   | true =>
    cases wp with
    | false=>exact ⟨false,rfl⟩
    | true=>exact ⟨_,rfl⟩
  obtain ⟨c,aD⟩:=aS
  rw [aD,aF]
  have ae:∃ m3:ah,PermIn x y g.toArray m3.toArray∧((((ab c
    ((ln g (x:Int) (y:Int)).bind λ B =>
    ab B.2
    (some (.inr B.1))
    (some (.inl B.1)))
    (some (.inl g))):Option (ah ⊕ ah)))=some (.inr m3)∧SI x y m3.toArray∨(((ab c
    ((ln g (x:Int) (y:Int)).bind λ B =>
    ab B.2
    (some (.inr B.1))
    (some (.inl B.1)))
    (some (.inl g))):Option (ah ⊕ ah)))=some (.inl m3)):=by
   cases c with
   | false=>exact ⟨g,permIn_refl _ _ _,.inr rfl⟩
   | true =>
    obtain ⟨t,f,n⟩:=Oj (l:=g) (a:=x) (b:=y) (by unfold fI; omega) (by omega) (by omega)
    have ac:=partialInsertionSort_holds swo_ltInt g.toArray x y (by omega) (by omega) al
    rw [← n] at ac
    refine ⟨t,ac.1,?_⟩
    rw [bf,f,aF]
    cases aM:(partialInsertionSort ltInt g.toArray x y).2 with
    | true=>exact .inl ⟨rfl,ac.2 aM⟩
    | false=>exact .inr rfl
  obtain ⟨m3,W,ae⟩:=ae
  have L:=permIn_trans _ _ _ x y aJ W
  have aN:m3.toArray.size=l.length:=by rw [W.1,au]
  have a9:m3.length=l.length:=by simpa using aN
  have am:=al.perm (by omega) W
  rcases ae with ⟨P,aK⟩ | P
  ·right
   rw [P]
   exact ⟨m3,rfl,C _ L aK⟩
  rw [P,aF,Sum.elim_inl]
  have aT:(((ab (decide ((x:Int) > 0))
    ((idx m3 (i64 ((x:Int) - 1))).bind λ aX =>
    (idx m3 (p2:Int)).bind λ aY =>
    (eh aX aY).bind λ a0 =>
    some (!a0))
    (some false)):a5))=some (decide (0 < x) && !ltInt m3.toArray[x - 1]! m3.toArray[p2]!):=by
   by_cases E:0 < x
   ·simp only [xR E,bf,fB (i:=x) (by omega) E,b9,bl (show x - 1 < m3.length by omega),bl (show p2 < m3.length by omega),aF,iD,c7 E,Bool.true_and,ga]
   ·simp only [xQ E,a3,dH E,Bool.false_and]
  rw [aT,aF]
  by_cases z:(decide (0 < x) && !ltInt m3.toArray[x - 1]! m3.toArray[p2]!)=true
  ·left
   obtain ⟨t,f,n⟩:=Om (l:=m3) (a:=x) (b:=y) (p:=p2) (by unfold fI; omega) N O (by omega)
   rw [z,bf,f,aF]
   simp only [cO,decide_eq_true_eq,Bool.not_eq_true'] at z
   have ax:=round_eq swo_ltInt (partitionEqual_holds ltInt) (d3:=m3.toArray) (d4:=t.toArray) (mid:=(partitionEqual ltInt m3.toArray x y p2).1) z.1 N O (by omega) am z.2 (by rw [n])
   generalize (partitionEqual ltInt m3.toArray x y p2).1=mid at ax
   obtain ⟨J,ai,aE,Q,S⟩:=ax
   have ay:t.length=l.length:=by
    have:t.toArray.size=t.length:=by simp
    omega
   exact ⟨_,rfl,⟨t,mid,y,w,A,wp,rfl,ay,ai,az,by omega,by omega,Q,λ R r1 r2=>by
    obtain ⟨H,I⟩:=S R r1 r2
    exact C R (permIn_trans _ _ _ x y L H) I⟩,by simp only [cI]; omega⟩
  ·have z:(decide (0 < x) && !ltInt m3.toArray[x - 1]! m3.toArray[p2]!)=false:=by simpa using z
   left
   obtain ⟨t,f,n⟩:=Oo (l:=m3) (a:=x) (b:=y) (p:=p2) (by unfold fI; omega) N O (by omega)
   rw [z,a3,f,aF,show gp ((y - x:Nat):Int) 8=some (((y - x) / 8:Nat):Int) from zB (d:=8) (by omega) (by omega),aF]
   have ad:=round_part swo_ltInt (partition_holds ltInt) (d3:=m3.toArray) (d4:=t.toArray) (mid:=(partition ltInt m3.toArray x y p2).1) (ap:=(partition ltInt m3.toArray x y p2).2.1) N O (by omega) am (by rw [n])
   generalize (partition ltInt m3.toArray x y p2).1=mid at ad
   generalize (partition ltInt m3.toArray x y p2).2.1=ap at ad
   obtain ⟨J,ai,aE,Q,S,aG,aH⟩:=ad
   have ay:t.length=l.length:=by
    have:t.toArray.size=t.length:=by simp
    omega
   dsimp only
   rw [ja (i:=mid) (j:=x) (by omega) J,ja (i:=y) (j:=mid) (by omega) (by omega),ik,cj (i:=mid) (by omega)]
   have a1:2 ^ (k+1)=2 * 2 ^ k:=by rw [Nat.pow_succ]; omega
   by_cases aq:mid - x < y - mid
   ·obtain ⟨u,hu,D,af⟩:=aA t x mid w (by unfold gj; omega) (by omega) J (by omega) (by omega) Q
    rw [c7 aq,bf,hu,aF]
    obtain ⟨T,Y⟩:=aG _ D af
    have ag:u.length=l.length:=by
     have h1:u.toArray.size=u.length:=by simp
     have h2:=D.1
     omega
    exact ⟨_,rfl,⟨u,mid+1,y,w,_,_,rfl,ag,by omega,az,by omega,by omega,T,λ R r1 r2=>by
     obtain ⟨H,I⟩:=Y R r1 r2
     exact C R (permIn_trans _ _ _ x y L H) I⟩,by simp only [cI]; omega⟩
   ·obtain ⟨u,hu,D,af⟩:=aA t (mid+1) y w (by unfold gj; omega) (by omega) (by omega) (by omega) (by omega) S
    rw [dH aq,a3,hu,aF]
    obtain ⟨T,Y⟩:=aH _ D af
    have ag:u.length=l.length:=by
     have h1:u.toArray.size=u.length:=by simp
     have h2:=D.1
     omega
    exact ⟨_,rfl,⟨u,x,mid,w,_,_,rfl,ag,J,by omega,by omega,by omega,T,λ R r1 r2=>by
     obtain ⟨H,I⟩:=Y R r1 r2
     exact C R (permIn_trans _ _ _ x y L H) I⟩,by simp only [cI]; omega⟩
theorem Ex{l:ah}(hl:gj l):∃ l',l3 l=some l'∧l'.Perm l∧l'.Pairwise (·≤·):=by
 have hl':=hl
 unfold gj at hl'
 obtain ⟨⟨k,g,o⟩,_⟩:=DK (n:=l.length) (by omega)
 obtain ⟨t,m,h1,h2⟩:=Rd 15 l 0 l.length k hl (by omega) (Nat.zero_le _) (cq _) (by omega) (.inl rfl)
 unfold l3
 rw [g,aF]
 refine ⟨t,by rw [show (0:Int)=((0:Nat):Int) from rfl,m]; rfl,?_,?_⟩
 ·have h3:=h1.2.2
  have d:t.length=l.length:=by have:=h1.1; simpa using this
  rw [show t.toArray.extract 0 l.length=t.toArray by rw [← d]; simp,show l.toArray.extract 0 l.length=l.toArray by simp] at h3
  simpa using h3
 ·have d:t.length=l.length:=by have:=h1.1; simpa using this
  rw [List.pairwise_iff_getElem]
  intro i j hi c f
  have h4:=h2 i j (Nat.zero_le _) f (by omega)
  rw [ga,ga] at h4
  have e1:=bl hi
  have b:=bl c
  rw [fy hi] at e1
  rw [fy c] at b
  rw [eI e1,eI b]
  unfold ltInt at h4
  have:=of_decide_eq_false h4
  omega
theorem Ez{l:ah}(hl:gj l)(G:l.Pairwise (·≤·)):∃ d,l4 l=some d∧d.Pairwise (· < ·)∧∀ x,x∈d↔x∈l:=by
 have B:=hl
 unfold gj at B
 have C:(gl l l.length).Pairwise (· < ·)∧∀ x,x∈gl l l.length↔x∈l:=by
  refine ⟨B1 G _ (cq _),λ x=>?_⟩
  rw [xP]
  constructor
  ·rintro ⟨i,hi,rfl⟩; exact eJ hi
  ·intro c; exact iI c
 unfold l4
 rw [show decide ((l.length:Int) < 2)=decide (l.length < 2) from ik (j:=2)]
 by_cases h2:l.length < 2
 ·rw [c7 h2,bf]
  refine ⟨l,rfl,?_,λ _=>Iff.rfl⟩
  match l,h2 with
  | [],_=>simp
  | [_],_=>simp
  | _::_::r,h=>exact absurd h (by simp only [List.length_cons]; omega)
 rw [dH h2,a3]
 suffices c:∃ z:ah,_=some z∧z=gl l l.length by
  obtain ⟨z,y,rfl⟩:=c
  exact ⟨_,y,C⟩
 refine jb (λ s=>∃ k:Nat,s=(k:Int)∧1≤k∧k≤l.length∧∀ i,1≤i→i < k→nth l i≠nth l (i - 1)) (λ s=>l.length - s.toNat) (λ o=>o = .inl ()∧(∀ i,1≤i→i < l.length→nth l i≠nth l (i - 1))∨o = .inr (gl l l.length)) ⟨1,rfl,cq _,by omega,λ i h1 h2=>by omega⟩ (λ o ho=>?_) ?_
 ·rcases ho with ⟨rfl,h⟩ | rfl
  ·exact ⟨l,rfl,by rw [xO _ (cq _) h,List.take_length]⟩
  ·exact ⟨_,rfl,rfl⟩
 ·rintro _ ⟨k,rfl,E,F,n⟩
  rw [ik]
  by_cases p:k < l.length
  ·rw [c7 p,bf,fB (i:=k) (by omega) E]
   simp only [b9,bl p,bl (show k - 1 < l.length by omega),aF]
   by_cases hd:nth l k=nth l (k - 1)
   ·right
    rw [show (nth l k == nth l (k - 1))=true by simpa using hd,bf,show fP l (k:Int) (l.length:Int)=some (l.drop k) by simp [fP]; omega,aF]
    suffices c:∃ z:Int ⊕ (Unit ⊕ ah),_=some z∧z = .inr (.inr (gl l l.length)) by
     obtain ⟨z,y,rfl⟩:=c
     exact ⟨_,y,.inr rfl⟩
    refine jb (λ s=>∃ (m:ah) (w q:Nat),s=(m,(w:Int),(q:Int))∧m.length=l.length∧1≤q∧w+1≤k+q∧k+q≤l.length∧(∀ i,k+q - 1≤i→nth m i=nth l i)∧m.take w=gl l (k+q)) (λ s=>l.length - s.2.2.toNat)
     (λ o=>∃ (m:ah) (w:Nat),o=(m,(w:Int))∧m.length=l.length∧w≤l.length∧m.take w=gl l l.length) ⟨l,k,1,rfl,rfl,cq _,by omega,by omega,λ _ _=>rfl,by
      rw [gl,if_neg (λ h=>h.elim (λ h=>by omega) (λ h=>h hd))]
      exact (xO k F n).symm⟩ (λ o ho=>?_) ?_
    ·obtain ⟨m,w,rfl,hm,hw,b⟩:=ho
     dsimp only
     rw [cI,show fP m (w:Int) (m.length:Int)=some (m.drop w) by simp [fP]; omega,aF,show fP (iU m w) 0 (w:Int)=some (m.take w) from by
      have H:(iU m w).length=m.length:=by simp [iU]; omega
      have:(iU m w).take w=m.take w:=by
       unfold iU
       rw [List.take_append_of_le_length (by simp; omega),List.take_take,Nat.min_self]
      rw [← this]
      exact B0 (by omega),aF,b]
     exact ⟨_,rfl,rfl⟩
    ·rintro _ ⟨m,w,q,rfl,hm,J,K,I,f,b⟩
     dsimp only
     rw [cI,List.length_drop,hm,ik]
     by_cases A:q < l.length - k
     ·left
      rw [c7 A,bf,fB (i:=q) (by omega) (by omega)]
      simp only [b9,Ca (m:=m) (a:=k) (i:=q) (by omega),Ca (m:=m) (a:=k) (i:=q - 1) (by omega),aF]
      rw [f (k+q) (by omega),show k+(q - 1)=k+q - 1 by omega,f (k+q - 1) (by omega)]
      by_cases g:nth l (k+q)=nth l (k+q - 1)
      ·rw [show (nth l (k+q) != nth l (k+q - 1))=false by simpa using g,a3,cj (i:=q) (by omega)]
       refine ⟨_,rfl,⟨m,w,q+1,rfl,hm,by omega,by omega,by omega,λ i hi=>f i (by omega),?_⟩,by simp only [cI]; omega⟩
       rw [b,show k+(q+1)=(k+q)+1 by omega,gl,if_neg (λ h=>h.elim (λ h=>by omega) (λ h=>h g))]
      ·rw [show (nth l (k+q) != nth l (k+q - 1))=true by simpa using g,bf]
       simp only [bl (show w < m.length by omega),aF,cj (i:=q) (by omega),cj (i:=w) (by omega),cI]
       refine ⟨_,rfl,⟨m.set w (nth l (k+q)),w+1,q+1,rfl,by simpa using hm,by omega,by omega,by omega,λ i hi=>?_,?_⟩,by simp only [cI]; omega⟩
       ·rw [QH (by omega)]; exact f i (by omega)
       ·rw [take_set (by omega),b,show k+(q+1)=(k+q)+1 by omega,gl,if_pos (.inr g)]
     ·right
      rw [dH A,a3]
      exact ⟨(m,(w:Int)),rfl,m,w,rfl,hm,by omega,by rw [b,show k+q=l.length by omega]⟩
   ·left
    rw [show (nth l k == nth l (k - 1))=false by simpa using hd,a3,cj (i:=k) (by omega)]
    refine ⟨_,rfl,⟨k+1,rfl,by omega,by omega,λ i h1 h2=>?_⟩,by simp only [cI]; omega⟩
    by_cases D:i=k
    ·subst D; exact hd
    ·exact n i h1 (by omega)
  ·right
   rw [dH p,a3]
   exact ⟨.inl (),rfl,.inl ⟨rfl,λ i h1 h2=>n i h1 (by omega)⟩⟩
theorem PF{b:an}(y:Valid b){f:bc→b5}{g:ah→Int}(p:∀ c∈b7 b,f (gZ c)=some (g c)):nq (ek b) f=some (fE ((b7 b).map g)):=by
 unfold nq
 have z:=tY y
 rw [show (ek b).cY=(b7 b).map gZ from rfl]
 refine (eP (o:=(b7 b).map g) ?_).trans ?_
 ·have m:(([]:ah),(0:Int))=(λ q:Nat=>(((b7 b).take q).map g,(q:Int))) 0:=rfl
  rw [m]
  refine iB (λ q:Nat=>(((b7 b).take q).map g,(q:Int))) (b7 b).length (λ q j=>?_) (by simp only [List.length_map,dX,a3,List.take_length])
  have n:(b7 b)[q]∈b7 b:=List.getElem_mem j
  simp only [List.length_map,dec_lt j,bf,b9,List.getElem?_map,fy j,Option.map_some,aF,p _ n,cj (i:=q) (by omega)]
  rw [jD (by simp; omega),aF,List.take_succ_eq_append_getElem j,List.map_append]
  rfl
 ·obtain ⟨t,w,k,s⟩:=Ex (l:=(b7 b).map g) (by unfold gj; rw [List.length_map]; omega)
  obtain ⟨d,hd,h1,h2⟩:=Ez (l:=t) (by unfold gj; rw [k.length_eq,List.length_map]; omega) s
  rw [w,aF,hd,aF,rm d (fE ((b7 b).map g)) h1 (qT _) λ x=>by rw [h2,k.mem_iff,jO]]
theorem EY{α:Type}[Inhabited α]{l:List α}{x:α}(h:x∈l):∃ j,j < l.length∧nth l j=x:=by
 obtain ⟨j,b,rfl⟩:=List.mem_iff_getElem.1 h
 have e:=bl b
 rw [fy b,ey] at e
 exact ⟨j,b,e.symm⟩
theorem wi{l:ah}(h:l≠[]):0 < (fE l).length:=by
 obtain ⟨x,b⟩:=List.exists_mem_of_ne_nil l h
 exact List.length_pos_of_mem ((jO l x).2 b)
theorem F7{l:ah}(h:l≠[]):nth (fE l) 0∈l∧∀ x∈l,nth (fE l) 0≤x:=by
 refine ⟨(jO _ _).1 (eJ (wi h)),λ x d=>?_⟩
 obtain ⟨j,c,rfl⟩:=EY ((jO _ _).2 d)
 rcases Nat.eq_zero_or_pos j with rfl | b
 ·exact Int.le_refl _
 ·have:=AN (qT l) b c
  omega
theorem F8{l:ah}(h:l≠[]):nth (fE l) ((fE l).length - 1)∈l∧∀ x∈l,x≤nth (fE l) ((fE l).length - 1):=by
 have f:=wi h
 refine ⟨(jO _ _).1 (eJ (by omega)),λ x c=>?_⟩
 obtain ⟨j,d,rfl⟩:=EY ((jO _ _).2 c)
 rcases Nat.lt_or_ge j ((fE l).length - 1) with b | b
 ·have:=AN (qT l) b (show (fE l).length - 1 < (fE l).length by omega)
  omega
 ·rw [show j=(fE l).length - 1 by omega]
  exact Int.le_refl _
def mo(b:an)(n:Int):Int:=if hs b n=false then 6 else 0
theorem NT{b:an}(c:b.aJ.length≤1000)(n:Int):iC b n=some (mo b n):=by
 unfold iC
 rw [sI c]
 rfl
theorem Dm{b:an}{n:Int}:hs b n=true↔∃ i:Nat,n=(i:Int)∧i < b.aJ.length:=by
 unfold hs
 rw [dE]
 constructor
 ·intro h; exact ⟨n.toNat,by omega,by omega⟩
 ·rintro ⟨i,rfl,hi⟩; omega
theorem Q1{b:an}{n:Int}(h:mo b n=0):∃ i:Nat,n=(i:Int)∧i < b.aJ.length:=by
 refine Dm.1 ?_
 unfold mo at h
 cases hi:hs b n with
 | true=>rfl
 | false=>rw [hi] at h; cases h
theorem Q2{b:an}{i:Nat}(h:i < b.aJ.length):mo b (i:Int)=0:=by
 unfold mo
 rw [Dm.2 ⟨i,rfl,h⟩]
 rfl
abbrev kj(b:an)(i:Nat):ah:=fE ((b7 b).map λ c=>nth c i)
def ui(b:an)(n:Int):ah × Int:=if eY b (mo b n)≠0 then ([],eY b (mo b n)) else (kj b n.toNat,0)
theorem Ek{b:an}(f:Small b)(n:Int):lu b n=some (ui b n):=by
 have k:=f.places
 unfold lu ui o2
 rw [aF,qy f (own:=mo b n) (λ _=>NT (by omega) n),aF]
 unfold nH
 by_cases h:eY b (mo b n)=0
 ·obtain ⟨j,ho,d⟩:=rP h
  obtain ⟨i,rfl,hi⟩:=Q1 ho
  simp only [h,ne_eq,fW,if_false,bne_self_eq_false,a3]
  rw [PF j (g:=λ c=>nth c i) (λ c d=>by unfold o3; rw [GF j (qE.1 d).1.1 hi]; rfl)]
  rfl
 ·simp only [h,ne_eq,not_false_eq_true,if_true,kL h,bf]
theorem B8{b:an}(d:Valid b){i:Nat}(hi:i < b.aJ.length):ui b (i:Int)=(kj b i,if b7 b=[] then 9 else 0):=by
 unfold ui
 rw [Q2 hi,Ky d]
 by_cases c:b7 b=[]
 ·rw [if_pos c,if_pos (by decide)]
  unfold kj
  rw [c]
  rfl
 ·simp only [c,if_false]
  rfl
theorem xS{b:an}{i:Nat}{k:Int}:k∈kj b i↔∃ c∈b7 b,nth c i=k:=by
 unfold kj
 rw [jO,List.mem_map]
theorem Ip{b:an}{i:Nat}(hi:i < b.aJ.length){k:Int}(h:k∈kj b i):(nth b.aJ i).aZ≤k∧k≤(nth b.aJ i).bh:=by
 obtain ⟨c,d,rfl⟩:=xS.1 h
 exact (qE.1 d).1.2 i hi
theorem B7{b:an}(g:Valid b){i:Nat}(hi:i < b.aJ.length):(kj b i).length≤3:=by
 have f:=g.each hi
 refine Nat.le_trans (r7 (m:=my (nth b.aJ i)) id ((qT _).imp λ h=>by omega) (λ x _ y _ h=>h) λ c d=>?_) (FI f.2.2.2)
 exact E0.2 (Ip hi d)
theorem EA{l m:ah}(hl:l.length≤1000)(hm:m.length≤1000):o0 l m=some (l.all λ x=>m.contains x):=by
 unfold o0
 rw [DV (l:=l) (λ x=>m.contains x) false (λ i hi=>?_) (by simp only [dX,a3])]
 ·cases l.all λ x=>m.contains x <;> rfl
 ·simp only [dec_lt hi,bf,b9,bl hi,aF,NM hm,cj (i:=i) (by omega)]
  cases m.contains (nth l i) <;> rfl
theorem hk.iV{a c:an}(h:hk a c)(f:a.ay.length=c.ay.length){x:Nat}(b:Go.Proofs.YtikficpdfaajlaaGreatDoor.iV a x=true):Go.Proofs.YtikficpdfaajlaaGreatDoor.iV c x=true:=by
 have b:e7 a (dZ (cB a.ay.length x)) 0=true:=b
 show e7 c (dZ (cB c.ay.length x)) 0=true
 rw [uK] at b ⊢
 obtain ⟨r,d⟩:=b
 rw [zC h.va.m4] at d
 refine ⟨r,(zC h.vc.m4).2 ⟨eV.le h.le d.1,?_⟩⟩
 rw [← f]
 exact d.2
theorem hk.oj{a c:an}(h:hk a c)(b:a.ay.length=c.ay.length)(i:e7 a (eW a) 0=true):e7 c (eW c) 0=true∧(df c.ay.length (Go.Proofs.YtikficpdfaajlaaGreatDoor.iV c) (2 ^ c.ay.length)).1.length≤(df a.ay.length (Go.Proofs.YtikficpdfaajlaaGreatDoor.iV a) (2 ^ a.ay.length)).1.length:=by
 obtain ⟨x,j,g,e⟩:=(rF i).2.ex
 have d:=h.iV b g
 have f:e7 c (eW c) 0=true:=goes_mono h.vc d
 refine ⟨f,?_⟩
 rw [e]
 have:=(rF f).2.len (by rw [← b]; exact j) d
 rwa [b]
theorem Mg{p:ah→Bool}{l m:bB}(hm:∀ c∈m,c∈l)(f:m≠[]):(gU (l.filter p).length l.length != 0)=true→gU (l.filter p).length l.length=gU (m.filter p).length m.length:=by
 intro h
 have hl:l≠[]:=λ e=>by
  obtain ⟨c,b⟩:=List.exists_mem_of_ne_nil _ f
  have:=hm c b
  rw [e] at this
  cases this
 have s1:=Df (p:=p) hl
 have s2:=Df (p:=p) f
 have d:=De (p:=p) (l:=l)
 have g:=De (p:=p) (l:=m)
 by_cases h2:gU (l.filter p).length l.length=2
 ·rw [h2,beq_self_eq_true] at d
  have d:=of_decide_eq_true d.symm
  rw [c7 (λ c b=>d c (hm c b)),beq_iff_eq] at g
  rw [h2,g]
 ·by_cases h1:gU (l.filter p).length l.length=1
  ·rw [h1,beq_self_eq_true] at s1
   have s1:=of_decide_eq_true s1.symm
   rw [c7 (λ c b=>s1 c (hm c b)),beq_iff_eq] at s2
   rw [h1,s2]
  ·exfalso
   unfold gU at h h1 h2
   split at h
   ·rename_i e; rw [if_pos e] at h2; exact h2 rfl
   ·rename_i e
    rw [if_neg e] at h1
    split at h
    ·rename_i i; rw [if_pos i] at h1; exact h1 rfl
    ·cases h
end Go.Proofs.YtikficpdfaajlaaGreatDoor
