/- Plain laws of chapter 6, with what is sorted. Conditions: none. -/
import Derived.Test.YtoaoffinglajbaaGreatDoorQBHbLb
import Derived.Test.YtoaoffinglajbaaGreatDoorQBHbC
import Derived.Test.YtoaoffinglajbaaGreatDoorQBHbL
import Derived.Sort.AssemblyPlain
namespace Go.Proofs.YtoaoffinglajbaaGreatDoor
open Go.Lg Go.Proofs Go.Sort
set_option maxRecDepth 10000
theorem uk{S O:Type}{body:S→Option (S ⊕ O)}(I:S→Prop)(g:S→Nat){Q:O→Prop}(h:∀ s,I s→(∃ s',body s=some (.inl s')∧I s'∧g s' < g s)∨∃ o,body s=some (.inr o)∧Q o):∀ s,I s→∃ o,a1 body s=some o∧Q o:=by
 have key:∀ n s,g s≤n→I s→∃ o,a1 body s=some o∧Q o:=by
  intro n
  induction n with
  | zero =>
   intro s z d
   rcases h s d with ⟨s',_,_,y⟩ | ⟨o,hb,f⟩
   ·omega
   ·exact ⟨o,dO hb,f⟩
  | succ n B =>
   intro s z d
   rcases h s d with ⟨s',hb,m,y⟩ | ⟨o,hb,f⟩
   ·obtain ⟨o,A,f⟩:=B s' (by omega) m
    exact ⟨o,by rw [gC hb,A],f⟩
   ·exact ⟨o,dO hb,f⟩
 exact λ s d=>key _ s (ct _) d
theorem hJ{S O β:Type}{body:S→Option (S ⊕ O)}{f:O→Option β}{P:β→Prop}(I:S→Prop)(d:S→Nat)(Q:O→Prop){s:S}(g:I s)(m:∀ o,Q o→∃ b,f o=some b∧P b)(h:∀ s,I s→(∃ s',body s=some (.inl s')∧I s'∧d s' < d s)∨∃ o,body s=some (.inr o)∧Q o):∃ b,(a1 body s).bind f=some b∧P b:=by
 obtain ⟨o,y,z⟩:=uk I d h s g
 rw [dh y]
 exact m o z
theorem hg(x y:Int):dV x y=some (ltInt x y):=by
 unfold dV j5
 simp only [aD,bne_self_eq_false,aS]
 rfl
theorem e5(l:List Int)(i:Nat):l.toArray[i]! = nth l i:=by
 unfold nth
 simp only [List.getElem!_toArray,List.getElem!_eq_getElem?_getD,fq]
def eR(l:List Int)(i j:Nat):List Int:=(l.set i (nth l j)).set j (nth l i)
theorem gI(l:List Int)(i j:Nat):(eR l i j).toArray=swp l.toArray i j:=by
 unfold eR swp
 rw [e5,e5]
 simp
theorem gn(l:List Int)(i j:Nat):(eR l i j).length=l.length:=by simp [eR]
theorem gH{l:List Int}{i j:Nat}{x:Int}(h:j < l.length):(l.set i x)[j]? = some (nth (l.set i x) j):=a6 (by simpa using h)
theorem hG{i j:Nat}(h:i≤1000000000)(d:j≤i):i64 ((i:Int) - (j:Int))=((i - j:Nat):Int):=by rw [bZ (by omega) (by omega)]; omega
theorem jq{i j:Nat}(h:i≤1000000000)(d:j≤1000000000):i64 ((i:Int)+(j:Int))=((i+j:Nat):Int):=by rw [bZ (by omega) (by omega)]; omega
theorem yn{i:Nat}(h:i≤1000000000):i64 (((i+1:Nat):Int) - 1)=(i:Int):=by rw [bZ (by omega) (by omega)]; omega
theorem g6{i j:Nat}:decide ((i:Int) < (j:Int))=decide (i < j):=by simp
theorem qY{i j:Nat}:decide ((i:Int) > (j:Int))=decide (i > j):=by simp
theorem nq{i j:Nat}:decide ((i:Int)≤(j:Int))=decide (i≤j):=by simp
theorem o0{i j:Nat}:decide ((i:Int) ≥ (j:Int))=decide (i ≥ j):=by simp
abbrev eX(l:List Int):Prop:=l.length≤1000000
theorem y1{l:List Int}{a b:Nat}(F:eX l)(P:a≤b)(hb:b≤l.length):∃ l',kV l a b=some l'∧l'.toArray=insertionSort ltInt l.toArray a b:=by
 unfold kV insertionSort
 have D:=F
 unfold eX at D
 rw [bN (by omega)]
 refine hJ (λ s=>∃ (m:List Int) (i:Nat),s=(m,(i:Int))∧m.length=l.length∧insOuter ltInt a b i m.toArray=insOuter ltInt a b (a+1) l.toArray) (λ s=>b - s.2.toNat)
  (λ o=>o.toArray=insOuter ltInt a b (a+1) l.toArray) ⟨l,a+1,rfl,rfl,rfl⟩ (λ o z=>⟨o,rfl,z⟩) ?_
 ·rintro _ ⟨m,i,rfl,hm,y⟩
  rw [insOuter] at y
  by_cases hi:i < b
  ·rw [if_pos hi] at y
   left
   obtain ⟨p,G,H,I⟩:=uk (S:=List Int × Int) (O:=List Int) (body:=λ (d:((List Int) × Int)) =>
    (((ab (decide (d.2 > (a:Int)))
    ((idx d.1 d.2).bind λ K =>
    (idx d.1 (i64 (d.2 - 1))).bind λ L =>
    (dV K L).bind λ M =>
    some M)
    (some false)):Option Bool)).bind (λ (J:Bool) =>
    ab J
    ((idx d.1 (i64 (d.2 - 1))).bind λ B =>
    (idx d.1 d.2).bind λ N =>
    (idx d.1 d.2).bind λ R =>
    (idx (d.1.set d.2.toNat B) (i64 (d.2 - 1))).bind λ T =>
    some (.inl ((d.1.set d.2.toNat B).set (i64 (d.2 - 1)).toNat N,i64 (d.2 - 1))))
    (some (.inr d.1)))) (λ s=>∃ (q:List Int) (j:Nat),s=(q,(j:Int))∧q.length=l.length∧j < q.length∧insInner ltInt a j q.toArray=insInner ltInt a i m.toArray) (λ s=>s.2.toNat)
    (Q:=λ o=>o.length=l.length∧o.toArray=insInner ltInt a i m.toArray) (by
     rintro _ ⟨q,j,rfl,z,E,f⟩
     cases j with
     | zero =>
      right
      refine ⟨q,?_,z,f⟩
      rw [show decide (((0:Nat):Int) > (a:Int))=false by simp]
      rfl
     | succ j =>
      rw [insInner] at f
      dsimp only
      rw [qY,yn (by omega)]
      simp only [bD,a6 E,a6 (show j < q.length by omega),aD,hg,cm,gH (show j < q.length by omega)]
      rw [e5,e5] at f
      by_cases g:j+1 > a∧ltInt (nth q (j+1)) (nth q j)=true
      ·left
       rw [if_pos (by simp [g.1,g.2])] at f
       refine ⟨(eR q (j+1) j,(j:Int)),?_,⟨_,j,rfl,by rw [gn]; exact z,by rw [gn]; omega,by rw [gI]; exact f⟩,by simp only [cm]; omega⟩
       rw [cr g.1,a3,aD,g.2]
       rfl
      ·right
       rw [if_neg (by simpa using g)] at f
       refine ⟨q,?_,z,f⟩
       by_cases A:j+1 > a
       ·have C:ltInt (nth q (j+1)) (nth q j)=false:=by simpa [A] using g
        rw [cr A,a3,aD,C]
        rfl
       ·rw [cY A]
        rfl) (m,(i:Int)) ⟨m,i,rfl,hm,by omega,rfl⟩
   refine ⟨(p,((i+1:Nat):Int)),?_,⟨p,i+1,rfl,H,by rw [I]; exact y⟩,by simp only [cm]; omega⟩
   dsimp only
   rw [g6,cr hi,a3,dh G,bN (by omega)]
  ·rw [if_neg hi] at y
   right
   refine ⟨m,?_,y⟩
   dsimp only
   rw [g6,cY hi,aS]
theorem HO{l:List Int}{a b:Nat}(y:eX l)(A:a < b)(hb:b≤l.length):∃ l',j4 l a b=some l'∧l'.toArray=reverseRange l.toArray a b:=by
 unfold j4 reverseRange
 have g:=y
 unfold eX at g
 rw [show i64 ((b:Int) - 1)=((b - 1:Nat):Int) from e7 (by omega) (by omega)]
 refine hJ (λ s=>∃ (m:List Int) (i j:Nat),s=(m,(i:Int),(j:Int))∧m.length=l.length∧j < b∧reverseLoop i j m.toArray=reverseLoop a (b - 1) l.toArray) (λ s=>s.2.2.toNat - s.2.1.toNat)
  (λ o=>o.toArray=reverseLoop a (b - 1) l.toArray) ⟨l,a,b - 1,rfl,rfl,by omega,rfl⟩ (λ o z=>⟨o,rfl,z⟩) ?_
 ·rintro _ ⟨m,i,j,rfl,hm,B,d⟩
  rw [reverseLoop] at d
  dsimp only
  rw [g6]
  by_cases f:i < j
  ·rw [if_pos f] at d
   left
   refine ⟨(eR m i j,((i+1:Nat):Int),((j - 1:Nat):Int)),?_,⟨_,i+1,j - 1,rfl,by rw [gn]; exact hm,by omega,by rw [gI]; exact d⟩,by simp only [cm]; omega⟩
   rw [cr f,a3]
   simp only [bD,a6 (show i < m.length by omega),a6 (show j < m.length by omega),aD,cm,gH (show j < m.length by omega),bN (i:=i) (by omega),e7 (i:=j) (by omega) (by omega)]
   rfl
  ·rw [if_neg f] at d
   right
   exact ⟨m,by rw [cY f]; rfl,d⟩
theorem y2{l:List Int}{r hi first:Nat}(J:eX l)(hb:first+hi≤l.length)(M:r≤1000000):∃ l',la l r hi first=some l'∧l'.length=l.length∧l'.toArray=siftDown ltInt hi first r l.toArray:=by
 unfold la
 have I:=J
 unfold eX at I
 refine hJ (λ s=>∃ (m:List Int) (q:Nat),s=(m,(q:Int))∧m.length=l.length∧q≤1000000∧siftDown ltInt hi first q m.toArray=siftDown ltInt hi first r l.toArray) (λ s=>hi - s.2.toNat)
  (λ o=>∃ m:List Int,(o = .inl m∨o = .inr m)∧m.length=l.length∧m.toArray=siftDown ltInt hi first r l.toArray) ⟨l,r,rfl,rfl,M,rfl⟩ (λ o L=>?_) ?_
 ·obtain ⟨m,hm,E,D⟩:=L
  rcases hm with rfl | rfl
  ·exact ⟨m,rfl,E,D⟩
  ·exact ⟨m,rfl,E,D⟩
 ·rintro _ ⟨m,q,rfl,hm,Q,d⟩
  rw [siftDown] at d
  dsimp only
  have e1:i64 (i64 (2 * (q:Int))+1)=((2 * q+1:Nat):Int):=by rw [bZ (z:=2 * (q:Int)) (by omega) (by omega),bZ (by omega) (by omega)]; omega
  have F:i64 (((2 * q+1:Nat):Int)+1)=((2 * q+2:Nat):Int):=by rw [bZ (by omega) (by omega)]; omega
  rw [e1,F,o0,g6]
  by_cases y:2 * q+1 ≥ hi
  ·rw [dif_pos y] at d
   right
   exact ⟨.inl m,by rw [cr y]; rfl,m,.inl rfl,hm,d⟩
  ·rw [dif_neg y] at d
   rw [cY y,aS]
   have f1:i64 ((first:Int)+((2 * q+1:Nat):Int))=((first+(2 * q+1):Nat):Int):=jq (by omega) (by omega)
   have f2:i64 (((first+(2 * q+1):Nat):Int)+1)=((first+(2 * q+1)+1:Nat):Int):=bN (by omega)
   have f3:i64 ((first:Int)+(q:Int))=((first+q:Nat):Int):=jq (by omega) (by omega)
   have f4:i64 ((first:Int)+((2 * q+2:Nat):Int))=((first+(2 * q+2):Nat):Int):=jq (by omega) (by omega)
   rw [f1,f2,f3]
   simp only [e5] at d
   have g0:m[first+q]? = some (nth m (first+q)):=a6 (by omega)
   have A:m[first+(2 * q+1)]? = some (nth m (first+(2 * q+1))):=a6 (by omega)
   by_cases f:(decide (2 * q+1+1 < hi) && ltInt (nth m (first+(2 * q+1))) (nth m (first+(2 * q+1)+1)))=true
   ·rw [if_pos f] at d
    simp only [dn,decide_eq_true_eq] at f
    have B:m[first+(2 * q+1)+1]? = some (nth m (first+(2 * q+1)+1)):=a6 (by omega)
    have G:m[first+(2 * q+2)]? = some (nth m (first+(2 * q+2))):=a6 (by omega)
    rw [cr (show 2 * q+2 < hi by omega),a3]
    simp only [bD,A,B,aD,hg,f.2,a3,f4,g0,G]
    cases g:ltInt (nth m (first+q)) (nth m (first+(2 * q+2))) with
    | false =>
     rw [g] at d
     right
     exact ⟨.inr m,rfl,m,.inr rfl,hm,by simpa using d⟩
    | true =>
     rw [g] at d
     simp only [Bool.not_true,gq,if_false] at d
     rw [dif_pos (by omega)] at d
     left
     refine ⟨(eR m (first+q) (first+(2 * q+2)),((2 * q+2:Nat):Int)),?_,⟨_,2 * q+2,rfl,by rw [gn]; exact hm,by omega,by rw [gI]; exact d⟩,by simp only [cm]; omega⟩
     simp only [Bool.not_true,aS,cm,gH (show first+(2 * q+2) < m.length by omega),aD]
     rfl
   ·rw [if_neg f] at d
    have K:(ab (decide (2 * q+2 < hi)) ((idx m ((first+(2 * q+1):Nat):Int)).bind λ N=>(idx m ((first+(2 * q+1)+1:Nat):Int)).bind λ O=>(dV N O).bind λ P=>some P) (some false):Option Bool)=some false:=by
     by_cases C:2 * q+2 < hi
     ·have B:m[first+(2 * q+1)+1]? = some (nth m (first+(2 * q+1)+1)):=a6 (by omega)
      rw [cr C,a3]
      simp only [bD,A,B,aD,hg]
      have H:2 * q+1+1 < hi:=C
      simpa [H] using f
     ·rw [cY C,aS]
    rw [K]
    simp only [bD,aD,aS,f1,g0,A,hg]
    cases g:ltInt (nth m (first+q)) (nth m (first+(2 * q+1))) with
    | false =>
     rw [g] at d
     right
     exact ⟨.inr m,rfl,m,.inr rfl,hm,by simpa using d⟩
    | true =>
     rw [g] at d
     simp only [Bool.not_true,gq,if_false] at d
     left
     refine ⟨(eR m (first+q) (first+(2 * q+1)),((2 * q+1:Nat):Int)),?_,⟨_,2 * q+1,rfl,by rw [gn]; exact hm,by omega,by rw [gI]; exact d⟩,by simp only [cm]; omega⟩
     simp only [Bool.not_true,aS,cm,gH (show first+(2 * q+1) < m.length by omega),aD]
     rfl
theorem HI{l:List Int}{a b:Nat}(G:eX l)(I:a < b)(hb:b≤l.length):∃ l',kW l a b=some l'∧l'.toArray=heapSort ltInt l.toArray a b:=by
 unfold kW heapSort
 have E:=G
 unfold eX at E
 have B:i64 ((b:Int) - (a:Int))=((b - a:Nat):Int):=hG (by omega) (by omega)
 have e1:i64 (((b - a:Nat):Int) - 1)=((b - a - 1:Nat):Int):=e7 (by omega) (by omega)
 have C:fe ((b - a - 1:Nat):Int) 2=some (((b - a - 1) / 2:Nat):Int):=by
  unfold fe
  rw [if_neg (by omega),show (2:Int)=((2:Nat):Int) from rfl,← Int.ofNat_tdiv,bZ (by omega) (by omega)]
 rw [B,e1,C,aD]
 generalize J:b - a=n
 have K:0 < n:=by omega
 refine hJ (λ s=>∃ (m:List Int) (k:Nat),s=(m,(k:Int) - 1)∧m.length=l.length∧k≤1000000∧heapBuild ltInt n a k m.toArray=heapBuild ltInt n a ((n - 1) / 2+1) l.toArray) (λ s=>(s.2+1).toNat)
  (λ o=>o.length=l.length∧o.toArray=heapBuild ltInt n a ((n - 1) / 2+1) l.toArray) ⟨l,(n - 1) / 2+1,by simp,rfl,by omega,rfl⟩ (λ m f=>?_) ?_
 ·obtain ⟨hm,H⟩:=f
  have D:(((n - 1:Nat):Int))=(n:Int) - 1:=by omega
  rw [D,← H]
  refine hJ (λ s=>∃ (q:List Int) (k:Nat),s=(q,(k:Int) - 1)∧q.length=l.length∧k≤n∧heapPop ltInt a k q.toArray=heapPop ltInt a n m.toArray) (λ s=>(s.2+1).toNat)
   (λ o=>o.toArray=heapPop ltInt a n m.toArray) ⟨m,n,rfl,hm,by omega,rfl⟩ (λ o f=>⟨o,rfl,f⟩) ?_
  rintro _ ⟨q,k,rfl,f,F,d⟩
  dsimp only
  cases k with
  | zero =>
   right
   exact ⟨q,by rw [show decide (((0:Nat):Int) - 1 ≥ 0)=false by simp]; rfl,d⟩
  | succ k =>
   left
   have g:((k+1:Nat):Int) - 1=(k:Int):=by omega
   have f1:i64 ((a:Int)+(k:Int))=((a+k:Nat):Int):=jq (by omega) (by omega)
   rw [heapPop,← gI] at d
   obtain ⟨t,y,A,z⟩:=y2 (l:=eR q a (a+k)) (r:=0) (hi:=k) (first:=a) (by unfold eX; rw [gn]; omega) (by rw [gn]; omega) (by omega)
   rw [gn] at A
   rw [← z] at d
   refine ⟨(t,(k:Int) - 1),?_,⟨t,k,rfl,by omega,by omega,d⟩,by simp only []; omega⟩
   rw [g,show decide ((k:Int) ≥ 0)=true by simp,a3]
   simp only [f1,bD,a6 (show a < q.length by omega),a6 (show a+k < q.length by omega),aD,cm,gH (show a+k < q.length by omega)]
   rw [show ((q.set a (nth q (a+k))).set (a+k) (nth q a))=eR q a (a+k) from rfl,show (0:Int)=((0:Nat):Int) from rfl,y,aD,bZ (by omega) (by omega)]
 ·rintro _ ⟨m,k,rfl,hm,F,d⟩
  dsimp only
  cases k with
  | zero =>
   right
   exact ⟨m,by rw [show decide (((0:Nat):Int) - 1 ≥ 0)=false by simp]; rfl,hm,d⟩
  | succ k =>
   left
   have g:((k+1:Nat):Int) - 1=(k:Int):=by omega
   rw [heapBuild] at d
   obtain ⟨t,y,A,z⟩:=y2 (l:=m) (r:=k) (hi:=n) (first:=a) (by unfold eX; omega) (by omega) (by omega)
   rw [← z] at d
   refine ⟨(t,(k:Int) - 1),?_,⟨t,k,rfl,by omega,by omega,d⟩,by simp only []; omega⟩
   rw [g,show decide ((k:Int) ≥ 0)=true by simp,a3,y,aD,bZ (by omega) (by omega)]
theorem Ar{body:Int→Option (Int ⊕ Int)}{d:Array Int}{p:Int→Bool}{J:Nat}(h:∀ k:Nat,body (k:Int)=if (decide (k≤J) && p d[k]!)=true then some (.inl ((k+1:Nat):Int)) else some (.inr (k:Int)))(i:Nat):a1 body (i:Int)=some ((scanUp p d J i:Nat):Int):=by
 have key:∀ n i:Nat,J+1 - i≤n→a1 body (i:Int)=some ((scanUp p d J i:Nat):Int):=by
  intro n
  induction n with
  | zero =>
   intro i g
   have f:¬ (decide (i≤J) && p d[i]!)=true:=by simp; omega
   rw [scanUp,if_neg f]
   exact dO (by rw [h,if_neg f])
  | succ n m =>
   intro i g
   rw [scanUp]
   by_cases f:(decide (i≤J) && p d[i]!)=true
   ·rw [if_pos f]
    have hi:i≤J:=by simp at f; exact f.1
    rw [gC (s':=((i+1:Nat):Int)) (by rw [h,if_pos f])]
    exact m (i+1) (by omega)
   ·rw [if_neg f]
    exact dO (by rw [h,if_neg f])
 exact key _ i (ct _)
theorem vn{body:Int→Option (Int ⊕ Int)}{d:Array Int}{p:Int→Bool}{i:Nat}{J:Nat}(hi:0 < i)(h:∀ k:Nat,k≤J→body (k:Int)=if (decide (i≤k) && p d[k]!)=true then some (.inl ((k:Int) - 1)) else some (.inr (k:Int))):∀ j:Nat,j≤J→a1 body (j:Int)=some ((scanDown p d i j:Nat):Int)
 | 0,g=>by
  rw [scanDown]
  refine dO ?_
  rw [h 0 g,if_neg (by simp; omega)]
 | j+1,g=>by
  rw [scanDown]
  by_cases f:(decide (i≤j+1) && p d[j+1]!)=true
  ·rw [if_pos f,gC (s':=(j:Int)) (by rw [h _ g,if_pos f]; congr 2; omega)]
   exact vn hi h j (by omega)
  ·rw [if_neg f]
   refine dO ?_
   rw [h _ g,if_neg f]
theorem vm{p:Int→Bool}{d:Array Int}{i j:Nat}(h:i≤j+1):i≤scanUp p d j i∧scanUp p d j i≤j+1:=by
 obtain ⟨f,g,_⟩:=scanUp_spec p d j _ i rfl
 exact ⟨f,g h⟩
theorem te(p:Int→Bool)(d:Array Int)(i j:Nat):scanDown p d i j≤j:=(scanDown_spec p d i j).1
theorem vo{p q:Int→Bool}(y:∀ x,q x=!p x){d:Array Int}{i j:Nat}(hi:0 < i)(h:¬ scanUp p d j i > scanDown q d (scanUp p d j i) j):scanUp p d j i < scanDown q d (scanUp p d j i) j:=by
 obtain ⟨A,_,_,z⟩:=scanUp_spec p d j _ i rfl
 obtain ⟨d1,_,_,d4⟩:=scanDown_spec q d (scanUp p d j i) j
 generalize scanUp p d j i=i2 at *
 generalize scanDown q d i2 j=m at *
 rcases Nat.lt_or_ge i2 m with f | f
 ·exact f
 ·have e:i2=m:=by omega
  subst e
  have s:=z (by omega)
  have g:=d4 (by omega) (by omega)
  rw [y,s] at g
  cases g
theorem HU{l:List Int}{a b p:Nat}(V:eX l)(ad:a≤p)(ag:p < b)(hb:b≤l.length):∃ l',k0 l a b p=some (l',(((partition ltInt l.toArray a b p).1:Nat):Int),(partition ltInt l.toArray a b p).2.1)∧l'.toArray=(partition ltInt l.toArray a b p).2.2:=by
 unfold k0 partition
 have P:=V
 unfold eX at P
 simp only [bD,a6 (show p < l.length by omega),a6 (show a < l.length by omega),aD,cm,gH (show p < l.length by omega)]
 rw [show ((l.set a (nth l p)).set p (nth l a))=eR l a p from rfl]
 generalize K:eR l a p=D
 have E:D.length=l.length:=by rw [← K,gn]
 rw [← gI,K]
 have Q:D[a]? = some (nth D a):=a6 (by omega)
 have M:i64 ((b:Int) - 1)=((b - 1:Nat):Int):=e7 (by omega) (by omega)
 rw [M,bN (i:=a) (by omega)]
 have up:∀ (m:List Int) (J i:Nat),m.length=l.length→J < b→a1 (λ (s:Int) =>
   ab (decide (s≤(J:Int)))
   ((idx m s).bind λ x=>(m[a]?).bind λ y=>(dV x y).bind λ c=>ab c (some (.inl (i64 (s+1)))) (some (.inr s)))
   (some (.inr s)):Int→Option (Int ⊕ Int)) (i:Int)=some ((scanUp (λ x=>ltInt x m.toArray[a]!) m.toArray J i:Nat):Int):=λ m J i hm ac=>Ar (λ k=>by
  rw [nq,e5,e5]
  by_cases C:k≤J
  ·simp only [cr C,a3,bD,a6 (show k < m.length by omega),a6 (show a < m.length by omega),aD,hg,Bool.true_and,bN (i:=k) (by omega)]
   cases ltInt (nth m k) (nth m a) <;> rfl
  ·simp [C]) i
 have I:∀ (m:List Int) (i j:Nat),m.length=l.length→0 < i→j < b→a1 (λ (s:Int) =>
   ab (decide ((i:Int)≤s))
   ((idx m s).bind λ x=>(m[a]?).bind λ y=>(dV x y).bind λ c=>ab (!c) (some (.inl (i64 (s - 1)))) (some (.inr s)))
   (some (.inr s)):Int→Option (Int ⊕ Int)) (j:Int)=some ((scanDown (λ x=>!ltInt x m.toArray[a]!) m.toArray i j:Nat):Int):=λ m i j hm hi H=>vn (J:=j) hi (λ k ae=>by
  rw [nq,e5,e5]
  by_cases C:i≤k
  ·simp only [cr C,a3,bD,a6 (show k < m.length by omega),a6 (show a < m.length by omega),aD,hg,Bool.true_and,bZ (z:=(k:Int) - 1) (by omega) (by omega)]
   cases ltInt (nth m k) (nth m a) <;> rfl
  ·simp [C]) j (ct _)
 rw [dh (up D (b - 1) (a+1) E (by omega))]
 have A:=vo (p:=λ x=>ltInt x D.toArray[a]!) (q:=λ x=>!ltInt x D.toArray[a]!) (λ _=>rfl) (d:=D.toArray) (i:=a+1) (j:=b - 1) (by omega)
 have hu:=vm (p:=λ x=>ltInt x D.toArray[a]!) (d:=D.toArray) (i:=a+1) (j:=b - 1) (by omega)
 generalize scanUp (λ x=>ltInt x D.toArray[a]!) D.toArray (b - 1) (a+1)=i at hu A
 rw [dh (I D i (b - 1) E (by omega) (by omega))]
 have F:=te (λ x=>!ltInt x D.toArray[a]!) D.toArray i (b - 1)
 have G:=(scanDown_spec (λ x=>!ltInt x D.toArray[a]!) D.toArray i (b - 1)).2.1 (by omega)
 generalize scanDown (λ x=>!ltInt x D.toArray[a]!) D.toArray i (b - 1)=j at F G A
 rw [qY]
 have L:D[j]? = some (nth D j):=a6 (by omega)
 by_cases g:i > j
 ·simp only [g,decide_true,a3,if_true,bD,Q,L,aD,cm,gH (show a < D.length by omega)]
  exact ⟨eR D j a,rfl,gI _ _ _⟩
 ·have R:D[i]? = some (nth D i):=a6 (by omega)
  have A:=A g
  simp only [g,decide_false,aS,if_false,bD,L,R,aD,cm,gH (show j < D.length by omega),bN (i:=i) (by omega),e7 (i:=j) (by omega) (by omega)]
  rw [show ((D.set i (nth D j)).set j (nth D i))=eR D i j from rfl,← gI]
  generalize f:partLoop ltInt a (i+1) (j - 1) (eR D i j).toArray=T
  suffices Z:∃ z:List Int × Int × Bool,_=some z∧(z.2=(((T.1:Nat):Int),false)∧z.1.toArray=swp T.2 T.1 a) by
   obtain ⟨z,aa,N,O⟩:=Z
   exact ⟨z.1,by rw [← N]; exact aa,O⟩
  refine hJ (λ s=>∃ (m:List Int) (i j:Nat),s=(m,(i:Int),(j:Int))∧m.length=l.length∧a < i∧i≤j+1∧j < b∧partLoop ltInt a i j m.toArray=T) (λ s=>s.2.2.toNat+1 - s.2.1.toNat)
   (λ o=>∃ m:List Int,o=(m,((T.1:Nat):Int))∧m.length=l.length∧m.toArray=T.2∧T.1 < l.length) ⟨_,i+1,j - 1,rfl,by rw [gn]; exact E,by omega,by omega,by omega,f⟩ (λ o Y=>?_) ?_
  ·obtain ⟨m,rfl,hm,W,af⟩:=Y
   simp only [bD,a6 (show a < m.length by omega),a6 (show T.1 < m.length by omega),aD,cm,gH (show a < m.length by omega)]
   exact ⟨(eR m T.1 a,_),rfl,rfl,by rw [gI,W]⟩
  ·rintro _ ⟨m,i,j,rfl,hm,hi,S,H,f⟩
   rw [partLoop_eq] at f
   dsimp only
   rw [dh (up m j i hm H)]
   have A:=vo (p:=λ x=>ltInt x m.toArray[a]!) (q:=λ x=>!ltInt x m.toArray[a]!) (λ _=>rfl) (d:=m.toArray) (i:=i) (j:=j) (by omega)
   have hu:=vm (p:=λ x=>ltInt x m.toArray[a]!) (d:=m.toArray) (i:=i) (j:=j) S
   generalize scanUp (λ x=>ltInt x m.toArray[a]!) m.toArray j i=i2 at hu f A
   rw [dh (I m i2 j hm (by omega) H)]
   have F:=te (λ x=>!ltInt x m.toArray[a]!) m.toArray i2 j
   have G:=(scanDown_spec (λ x=>!ltInt x m.toArray[a]!) m.toArray i2 j).2.1 (by omega)
   generalize scanDown (λ x=>!ltInt x m.toArray[a]!) m.toArray i2 j=B at F G f A
   rw [qY]
   by_cases g:i2 > B
   ·rw [if_pos g] at f
    right
    rw [cr g]
    subst f
    exact ⟨(m,(B:Int)),rfl,m,rfl,hm,rfl,by show B < _; omega⟩
   ·rw [if_neg g,← gI] at f
    have A:=A g
    left
    rw [cY g,aS]
    refine ⟨(eR m i2 B,((i2+1:Nat):Int),((B - 1:Nat):Int)),?_,⟨_,i2+1,B - 1,rfl,by rw [gn]; exact hm,by omega,by omega,by omega,f⟩,by simp only [cm]; omega⟩
    simp only [bD,a6 (show i2 < m.length by omega),a6 (show B < m.length by omega),aD,cm,gH (show B < m.length by omega),bN (i:=i2) (by omega),e7 (i:=B) (by omega) (by omega)]
    rfl
theorem HS{l:List Int}{a b p:Nat}(Q:eX l)(Z:a≤p)(ac:p < b)(hb:b≤l.length):∃ l',kZ l a b p=some (l',(((partitionEqual ltInt l.toArray a b p).1:Nat):Int))∧l'.toArray=(partitionEqual ltInt l.toArray a b p).2:=by
 unfold kZ partitionEqual
 have L:=Q
 unfold eX at L
 simp only [bD,a6 (show p < l.length by omega),a6 (show a < l.length by omega),aD,cm,gH (show p < l.length by omega)]
 rw [show ((l.set a (nth l p)).set p (nth l a))=eR l a p from rfl]
 generalize F:eR l a p=D
 have M:D.length=l.length:=by rw [← F,gn]
 rw [← gI,F]
 have H:i64 ((b:Int) - 1)=((b - 1:Nat):Int):=e7 (by omega) (by omega)
 rw [H,bN (i:=a) (by omega)]
 have up:∀ (m:List Int) (J i:Nat),m.length=l.length→J < b→a1 (λ (s:Int) =>
   ab (decide (s≤(J:Int)))
   ((m[a]?).bind λ y=>(idx m s).bind λ x=>(dV y x).bind λ c=>ab (!c) (some (.inl (i64 (s+1)))) (some (.inr s)))
   (some (.inr s)):Int→Option (Int ⊕ Int)) (i:Int)=some ((scanUp (λ x=>!ltInt m.toArray[a]! x) m.toArray J i:Nat):Int):=λ m J i hm Y=>Ar (λ k=>by
  rw [nq,e5,e5]
  by_cases B:k≤J
  ·simp only [cr B,a3,bD,a6 (show k < m.length by omega),a6 (show a < m.length by omega),aD,hg,Bool.true_and,bN (i:=k) (by omega)]
   cases ltInt (nth m a) (nth m k) <;> rfl
  ·simp [B]) i
 have G:∀ (m:List Int) (i j:Nat),m.length=l.length→0 < i→j < b→a1 (λ (s:Int) =>
   ab (decide ((i:Int)≤s))
   ((m[a]?).bind λ y=>(idx m s).bind λ x=>(dV y x).bind λ c=>ab c (some (.inl (i64 (s - 1)))) (some (.inr s)))
   (some (.inr s)):Int→Option (Int ⊕ Int)) (j:Int)=some ((scanDown (λ x=>ltInt m.toArray[a]! x) m.toArray i j:Nat):Int):=λ m i j hm hi E=>vn (J:=j) hi (λ k aa=>by
  rw [nq,e5,e5]
  by_cases B:i≤k
  ·simp only [cr B,a3,bD,a6 (show k < m.length by omega),a6 (show a < m.length by omega),aD,hg,Bool.true_and,bZ (z:=(k:Int) - 1) (by omega) (by omega)]
   cases ltInt (nth m a) (nth m k) <;> rfl
  ·simp [B]) j (ct _)
 generalize f:partEqLoop ltInt a (a+1) (b - 1) D.toArray=T
 suffices V:∃ z:List Int × Int,_=some z∧(z.2=((T.1:Nat):Int)∧z.1.toArray=T.2) by
  obtain ⟨z,W,I,K⟩:=V
  exact ⟨z.1,by rw [← I]; exact W,K⟩
 refine hJ (λ s=>∃ (m:List Int) (i j:Nat),s=(m,(i:Int),(j:Int))∧m.length=l.length∧a < i∧i≤j+1∧j < b∧partEqLoop ltInt a i j m.toArray=T) (λ s=>s.2.2.toNat+1 - s.2.1.toNat)
  (λ o=>∃ m:List Int,o=(m,((T.1:Nat):Int))∧m.toArray=T.2) ⟨_,a+1,b - 1,rfl,M,by omega,by omega,by omega,f⟩ (λ o S=>?_) ?_
 ·obtain ⟨m,rfl,R⟩:=S
  exact ⟨_,rfl,rfl,R⟩
 ·rintro _ ⟨m,i,j,rfl,hm,hi,P,E,f⟩
  rw [partEqLoop_eq] at f
  dsimp only
  rw [dh (up m j i hm E)]
  have C:=vo (p:=λ x=>!ltInt m.toArray[a]! x) (q:=λ x=>ltInt m.toArray[a]! x) (λ _=>by simp) (d:=m.toArray) (i:=i) (j:=j) (by omega)
  have hu:=vm (p:=λ x=>!ltInt m.toArray[a]! x) (d:=m.toArray) (i:=i) (j:=j) P
  generalize scanUp (λ x=>!ltInt m.toArray[a]! x) m.toArray j i=i2 at hu f C
  rw [dh (G m i2 j hm (by omega) E)]
  have N:=te (λ x=>ltInt m.toArray[a]! x) m.toArray i2 j
  have O:=(scanDown_spec (λ x=>ltInt m.toArray[a]! x) m.toArray i2 j).2.1 (by omega)
  generalize scanDown (λ x=>ltInt m.toArray[a]! x) m.toArray i2 j=g at N O f C
  rw [qY]
  by_cases A:i2 > g
  ·rw [if_pos A] at f
   right
   rw [cr A]
   subst f
   exact ⟨(m,(i2:Int)),rfl,m,rfl,rfl⟩
  ·rw [if_neg A,← gI] at f
   have C:=C A
   left
   rw [cY A,aS]
   refine ⟨(eR m i2 g,((i2+1:Nat):Int),((g - 1:Nat):Int)),?_,⟨_,i2+1,g - 1,rfl,by rw [gn]; exact hm,by omega,by omega,by omega,f⟩,by simp only [cm]; omega⟩
   simp only [bD,a6 (show i2 < m.length by omega),a6 (show g < m.length by omega),aD,cm,gH (show g < m.length by omega),bN (i:=i2) (by omega),e7 (i:=g) (by omega) (by omega)]
   rfl
theorem HQ{l:List Int}{a b:Nat}(aB:eX l)(aP:a < b)(hb:b≤l.length):∃ l',jw l a b=some (l',(partialInsertionSort ltInt l.toArray a b).2)∧l'.toArray=(partialInsertionSort ltInt l.toArray a b).1:=by
 unfold jw partialInsertionSort
 have au:=aB
 unfold eX at au
 generalize g:partialIns ltInt a b 5 (a+1) l.toArray=T
 suffices E:∃ z:List Int × Bool,_=some z∧(z.2=T.2∧z.1.toArray=T.1) by
  obtain ⟨z,aG,C,G⟩:=E
  exact ⟨z.1,by rw [← C]; exact aG,G⟩
 rw [bN (i:=a) (by omega)]
 refine hJ (λ s=>∃ (m:List Int) (i k:Nat),s=(m,(i:Int),((5 - k:Nat):Int))∧k≤5∧m.length=l.length∧a < i∧i≤b∧partialIns ltInt a b k i m.toArray=T) (λ s=>5 - s.2.2.toNat)
  (λ o=>∃ m:List Int,(o = .inl m∧T.2=false∨o = .inr (m,T.2))∧m.toArray=T.1) ⟨l,a+1,5,rfl,ct _,rfl,by omega,by omega,g⟩ (λ o K=>?_) ?_
 ·obtain ⟨m,K,ao⟩:=K
  rcases K with ⟨rfl,G⟩ | rfl
  ·exact ⟨(m,false),rfl,G.symm,ao⟩
  ·exact ⟨(m,T.2),rfl,rfl,ao⟩
 ·rintro _ ⟨m,i,k,rfl,aR,hm,ay,H,g⟩
  dsimp only
  cases k with
  | zero =>
   rw [partialIns] at g
   subst g
   right
   exact ⟨.inl m,rfl,m,.inl ⟨rfl,rfl⟩,rfl⟩
  | succ k =>
   rw [partialIns] at g
   rw [show decide (((5 - (k+1):Nat):Int) < 5)=true by simp; omega,a3]
   have aF:∀ i:Nat,a < i→i≤b→a1 (λ (B:Int) =>
     ab (decide (B < (b:Int)))
     ((idx m B).bind λ ae =>
     (idx m (i64 (B - 1))).bind λ af =>
     (dV ae af).bind λ ag =>
     ab (!ag)
     (some (.inl (i64 (B+1))))
     (some (.inr B)))
     (some (.inr B)):Int→Option (Int ⊕ Int)) (i:Int)=some ((scanSorted ltInt m.toArray b i:Nat):Int)∧i≤scanSorted ltInt m.toArray b i∧scanSorted ltInt m.toArray b i≤b:=by
    have key:∀ n i:Nat,b - i≤n→a < i→i≤b→a1 (λ (B:Int) =>
      ab (decide (B < (b:Int)))
      ((idx m B).bind λ ae =>
      (idx m (i64 (B - 1))).bind λ af =>
      (dV ae af).bind λ ag =>
      ab (!ag)
      (some (.inl (i64 (B+1))))
      (some (.inr B)))
      (some (.inr B)):Int→Option (Int ⊕ Int)) (i:Int)=some ((scanSorted ltInt m.toArray b i:Nat):Int)∧i≤scanSorted ltInt m.toArray b i∧scanSorted ltInt m.toArray b i≤b:=by
     intro n
     induction n with
     | zero =>
      intro i aC hi H
      have:¬ i < b:=by omega
      rw [scanSorted,if_neg (by simp [this])]
      exact ⟨dO (by rw [g6,cY this,aS]),ct _,H⟩
     | succ n aH =>
      intro i aC hi H
      rw [scanSorted,e5,e5]
      by_cases C:i < b
      ·have M:m[i]? = some (nth m i):=a6 (by omega)
       have N:m[i - 1]? = some (nth m (i - 1)):=a6 (by omega)
       cases E:ltInt (nth m i) (nth m (i - 1)) with
       | true =>
        rw [if_neg (by simp)]
        refine ⟨dO ?_,ct _,H⟩
        simp only [g6,cr C,a3,e7 (i:=i) (by omega) (by omega),bD,M,N,aD,hg,E,Bool.not_true,aS]
       | false =>
        rw [if_pos (by simp [C])]
        obtain ⟨W,ap,Y⟩:=aH (i+1) (by omega) (by omega) (by omega)
        refine ⟨?_,by omega,Y⟩
        rw [gC (s':=((i+1:Nat):Int)) (by simp only [g6,cr C,a3,e7 (i:=i) (by omega) (by omega),bD,M,N,aD,hg,E,Bool.not_false,bN (i:=i) (by omega)])]
        exact W
      ·rw [if_neg (by simp [C])]
       exact ⟨dO (by rw [g6,cY C,aS]),ct _,H⟩
    exact λ i hi H=>key _ i (ct _) hi H
   obtain ⟨W,ap,Y⟩:=aF i ay H
   rw [dh W]
   generalize scanSorted ltInt m.toArray b i=i2 at ap Y g
   dsimp only at g ⊢
   rw [show (((i2:Nat):Int) == ((b:Nat):Int))=decide (i2=b) by rw [Bool.eq_iff_iff,beq_iff_eq,decide_eq_true_eq]; omega]
   by_cases C:i2=b
   ·rw [if_pos C] at g
    subst g
    right
    exact ⟨.inr (m,true),by rw [cr C]; rfl,m,.inr rfl,rfl⟩
   ·rw [if_neg C] at g
    rw [cY C,aS,hG (i:=b) (j:=a) (by omega) (by omega),show decide (((b - a:Nat):Int) < 50)=decide (b - a < 50) from g6 (j:=50)]
    by_cases G:b - a < 50
    ·rw [if_pos G] at g
     subst g
     right
     exact ⟨.inr (m,false),by rw [cr G]; rfl,m,.inr rfl,rfl⟩
    ·rw [if_neg G] at g
     rw [cY G,aS]
     left
     have M:m[i2]? = some (nth m i2):=a6 (by omega)
     have N:m[i2 - 1]? = some (nth m (i2 - 1)):=a6 (by omega)
     simp only [e7 (i:=i2) (by omega) (by omega),bD,M,N,aD,cm,gH (show i2 - 1 < m.length by omega)]
     rw [show ((m.set i2 (nth m (i2 - 1))).set (i2 - 1) (nth m i2))=eR m i2 (i2 - 1) from rfl]
     rw [← gI] at g
     generalize ax:eR m i2 (i2 - 1)=S at g
     have ak:S.length=l.length:=by rw [← ax,gn]; exact hm
     have az:∃ D:List Int,((((ab (decide (i64 ((i2:Int) - (a:Int)) ≥ 2))
       ((a1 (O:=(List Int)) (λ (f:((List Int) × Int)) =>
       ab (decide (f.2 ≥ 1))
       ((idx f.1 f.2).bind λ aJ =>
       (idx f.1 (i64 (f.2 - 1))).bind λ aK =>
       (dV aJ aK).bind λ aL =>
       ab (!aL)
       (some (.inr f.1))
       ((idx f.1 (i64 (f.2 - 1))).bind λ aq =>
       (idx f.1 f.2).bind λ aM =>
       (idx f.1 f.2).bind λ aT =>
       (idx (f.1.set f.2.toNat aq) (i64 (f.2 - 1))).bind λ aU =>
       some (.inl ((f.1.set f.2.toNat aq).set (i64 (f.2 - 1)).toNat aM,i64 (f.2 - 1)))))
       (some (.inr f.1))) (S,((i2 - 1:Nat):Int))).bind (λ (aI:(List Int)) =>
       some aI))
       (some S)):Option (List Int)))=some D)∧D.length=l.length∧D.toArray=if i2 - a ≥ 2 then shiftDown ltInt (i2 - 1) S.toArray else S.toArray:=by
      rw [hG (i:=i2) (j:=a) (by omega) (by omega),show decide (((i2 - a:Nat):Int) ≥ 2)=decide (i2 - a ≥ 2) from o0 (j:=2)]
      by_cases A:i2 - a ≥ 2
      ·rw [cr A,a3,if_pos A]
       refine hJ (λ s=>∃ (q:List Int) (j:Nat),s=(q,(j:Int))∧q.length=l.length∧j < l.length∧shiftDown ltInt j q.toArray=shiftDown ltInt (i2 - 1) S.toArray) (λ s=>s.2.toNat)
        (λ o=>o.length=l.length∧o.toArray=shiftDown ltInt (i2 - 1) S.toArray) ⟨S,i2 - 1,rfl,ak,by omega,rfl⟩ (λ o K=>⟨o,rfl,K⟩) ?_
       rintro _ ⟨q,j,rfl,I,am,y⟩
       dsimp only
       cases j with
       | zero=>right; exact ⟨q,rfl,I,y⟩
       | succ j =>
        rw [shiftDown,e5,e5] at y
        rw [show decide (((j+1:Nat):Int) ≥ 1)=true by simp; omega,a3,yn (by omega)]
        simp only [bD,a6 (show j+1 < q.length by omega),a6 (show j < q.length by omega),aD,hg,cm,gH (show j < q.length by omega)]
        cases E:ltInt (nth q (j+1)) (nth q j) with
        | false=>rw [E] at y; right; exact ⟨q,rfl,I,by simpa using y⟩
        | true =>
         rw [E] at y
         simp only [Bool.not_true,gq,if_false] at y
         left
         exact ⟨(eR q (j+1) j,(j:Int)),rfl,⟨_,j,rfl,by rw [gn]; exact I,by omega,by rw [gI]; exact y⟩,by simp only [cm]; omega⟩
      ·rw [cY A,aS,if_neg A]
       exact ⟨S,rfl,ak,rfl⟩
     obtain ⟨D,av,aj,aw⟩:=az
     rw [av,aD]
     rw [← aw] at g
     have aA:∃ F:List Int,F.length=l.length∧F.toArray=(if b - i2 ≥ 2 then shiftUp ltInt b (i2+1) D.toArray else D.toArray)∧(b - i2 ≥ 2→a1 (O:=(List Int)) (λ (d:((List Int) × Int)) =>
       ab (decide (d.2 < (b:Int)))
       ((idx d.1 d.2).bind λ Z =>
       (idx d.1 (i64 (d.2 - 1))).bind λ aa =>
       (dV Z aa).bind λ ac =>
       ab (!ac)
       (some (.inr d.1))
       ((idx d.1 (i64 (d.2 - 1))).bind λ L =>
       (idx d.1 d.2).bind λ ad =>
       (idx d.1 d.2).bind λ aN =>
       (idx (d.1.set d.2.toNat L) (i64 (d.2 - 1))).bind λ aO =>
       some (.inl ((d.1.set d.2.toNat L).set (i64 (d.2 - 1)).toNat ad,i64 (d.2+1)))))
       (some (.inr d.1))) (D,((i2+1:Nat):Int))=some F):=by
      by_cases A:b - i2 ≥ 2
      ·rw [if_pos A]
       obtain ⟨F,R,V,J⟩:=uk (S:=List Int × Int) (O:=List Int) (body:=λ (d:((List Int) × Int)) =>
        ab (decide (d.2 < (b:Int)))
        ((idx d.1 d.2).bind λ Z =>
        (idx d.1 (i64 (d.2 - 1))).bind λ aa =>
        (dV Z aa).bind λ ac =>
        ab (!ac)
        (some (.inr d.1))
        ((idx d.1 (i64 (d.2 - 1))).bind λ L =>
        (idx d.1 d.2).bind λ ad =>
        (idx d.1 d.2).bind λ aN =>
        (idx (d.1.set d.2.toNat L) (i64 (d.2 - 1))).bind λ aO =>
        some (.inl ((d.1.set d.2.toNat L).set (i64 (d.2 - 1)).toNat ad,i64 (d.2+1)))))
        (some (.inr d.1))) (λ s=>∃ (q:List Int) (j:Nat),s=(q,(j:Int))∧q.length=l.length∧0 < j∧shiftUp ltInt b j q.toArray=shiftUp ltInt b (i2+1) D.toArray) (λ s=>b - s.2.toNat)
        (Q:=λ o=>o.length=l.length∧o.toArray=shiftUp ltInt b (i2+1) D.toArray) (by
         rintro _ ⟨q,j,rfl,I,am,y⟩
         rw [shiftUp] at y
         dsimp only
         rw [g6]
         by_cases P:j < b
         ·rw [if_pos P,e5,e5] at y
          rw [cr P,a3,e7 (i:=j) (by omega) am]
          simp only [bD,a6 (show j < q.length by omega),a6 (show j - 1 < q.length by omega),aD,hg,cm,gH (show j - 1 < q.length by omega),bN (i:=j) (by omega)]
          cases E:ltInt (nth q j) (nth q (j - 1)) with
          | false=>rw [E] at y; right; exact ⟨q,rfl,I,by simpa using y⟩
          | true =>
           rw [E] at y
           simp only [Bool.not_true,gq,if_false] at y
           left
           exact ⟨(eR q j (j - 1),((j+1:Nat):Int)),rfl,⟨_,j+1,rfl,by rw [gn]; exact I,by omega,by rw [gI]; exact y⟩,by simp only [cm]; omega⟩
         ·rw [if_neg P] at y
          right
          exact ⟨q,by rw [cY P,aS],I,y⟩) (D,((i2+1:Nat):Int)) ⟨D,i2+1,rfl,aj,by omega,rfl⟩
       exact ⟨F,V,J,λ _=>R⟩
      ·rw [if_neg A]
       exact ⟨D,aj,rfl,λ h=>absurd h A⟩
     obtain ⟨F,V,J,R⟩:=aA
     rw [← J] at g
     refine ⟨(F,(i2:Int),((5 - k:Nat):Int)),?_,⟨F,i2,k,rfl,by omega,V,by omega,by omega,g⟩,by simp only [cm]; omega⟩
     have ar:i64 (((5 - (k+1):Nat):Int)+1)=((5 - k:Nat):Int):=by rw [bZ (by omega) (by omega)]; omega
     rw [hG (i:=b) (j:=i2) (by omega) (by omega),show decide (((b - i2:Nat):Int) ≥ 2)=decide (b - i2 ≥ 2) from o0 (j:=2),bN (i:=i2) (by omega),ar]
     by_cases A:b - i2 ≥ 2
     ·rw [cr A,a3,dh (R A)]
     ·rw [cY A,aS]
      rw [if_neg A] at J
      rw [show F=D from by simpa using J]
theorem Bt(z:Int):IntKind.wrap .u64 z=z.emod 18446744073709551616:=by
 simp [IntKind.wrap,IntKind.bits,IntKind.signed]
 rfl
theorem Bu(z:Int):0≤IntKind.wrap .u64 z∧IntKind.wrap .u64 z < 18446744073709551616:=by
 rw [Bt]
 exact ⟨Int.emod_nonneg _ (by omega),Int.emod_lt_of_pos _ (by omega)⟩
theorem Bv{z:Int}(d:0≤z)(f:z < 18446744073709551616):IntKind.wrap .u64 z=z:=by
 rw [Bt]
 exact Int.emod_eq_of_lt d f
theorem Az{a b:Int}(hb:0≤b):∃ z,fK .u64 a b=some z∧0≤z∧z < 18446744073709551616:=by
 unfold fK
 rw [if_neg (by omega)]
 exact ⟨_,rfl,Bu _⟩
theorem Lu{a b:Int}(hb:0≤b):∃ z,fo .u64 a b=some z:=by
 unfold fo
 rw [if_neg (by omega)]
 exact ⟨_,rfl⟩
theorem vI(a b:Int):∃ z,dB .xor .u64 a b=some z∧0≤z∧z < 18446744073709551616:=⟨_,rfl,Bu _⟩
theorem H7(x:Int):∃ y,mv x=some (y,y)∧0≤y∧y < 18446744073709551616:=by
 unfold mv
 obtain ⟨a,z,_⟩:=Az (a:=x) (b:=13) (by omega)
 rw [z,aD]
 obtain ⟨c,A,_⟩:=vI x a
 rw [A,aD]
 obtain ⟨d,B⟩:=Lu (a:=c) (b:=7) (by omega)
 rw [B,aD]
 obtain ⟨e,he,_⟩:=vI c d
 rw [he,aD]
 obtain ⟨f,C,_⟩:=Az (a:=e) (b:=17) (by omega)
 rw [C,aD]
 obtain ⟨g,D,m,s⟩:=vI e f
 rw [D,aD]
 exact ⟨g,rfl,m,s⟩
theorem BO{a m:Int}(hm:0≤m)(g:m < 18446744073709551616):∃ z:Nat,dB .and .u64 a m=some (z:Int)∧(z:Int)≤m:=by
 unfold dB
 simp only
 have d:(BitVec.ofInt IntKind.u64.bits a &&& BitVec.ofInt IntKind.u64.bits m).toNat≤(BitVec.ofInt IntKind.u64.bits m).toNat:=by
  rw [BitVec.toNat_and]
  exact Nat.and_le_right
 have f:(BitVec.ofInt IntKind.u64.bits m).toNat=m.toNat:=by
  rw [BitVec.toNat_ofInt]
  have:((2 ^ IntKind.u64.bits:Nat):Int)=18446744073709551616:=by decide
  rw [this,Int.emod_eq_of_lt hm g]
 rw [f] at d
 generalize (BitVec.ofInt IntKind.u64.bits a &&& BitVec.ofInt IntKind.u64.bits m).toNat=z at d
 exact ⟨z,by rw [Bv (by omega) (by omega)],by omega⟩
def yD(n:Nat):Bool:=(match sR (IntKind.wrap .u64 (n:Int)) with | some k=>decide (0≤k) && decide (k≤64) | none=>false) && (decide (n < 8) || match sT (n:Int) with | some M=>decide ((n:Int) < M) && decide (M≤2 * (n:Int)) | none=>false)
set_option maxRecDepth 1000000 in
theorem GM:((List.range 1024).all yD)=true:=by decide +kernel
theorem yE{n:Nat}(h:n < 1024):(∃ k:Nat,kT (IntKind.wrap .u64 (n:Int))=some (k:Int)∧k≤64)∧(8≤n→∃ M:Nat,mq (n:Int)=some (M:Int)∧n < M∧M≤2 * n):=by
 have:=GM
 rw [List.all_eq_true] at this
 have d:=this n (List.mem_range.2 h)
 simp only [yD,dn,Bool.or_eq_true,decide_eq_true_eq] at d
 obtain ⟨d,f⟩:=d
 constructor
 ·cases g:sR (IntKind.wrap .u64 (n:Int)) with
  | none=>rw [g] at d; cases d
  | some k =>
   rw [g] at d
   simp only [dn,decide_eq_true_eq] at d
   exact ⟨k.toNat,by rw [Int.toNat_of_nonneg d.1]; exact F3 _ _ g,by omega⟩
 ·intro m
  rcases f with f | f
  ·omega
  ·cases g:sT (n:Int) with
   | none=>rw [g] at f; cases f
   | some M =>
    rw [g] at f
    simp only [dn,decide_eq_true_eq] at f
    exact ⟨M.toNat,by rw [Int.toNat_of_nonneg (by omega)]; exact Ge _ _ g,by omega,by omega⟩
theorem vi{n d:Nat}(h:n≤1000000000)(f:0 < d):fe (n:Int) (d:Int)=some ((n / d:Nat):Int):=by
 unfold fe
 have:=Nat.div_le_self n d
 rw [if_neg (by omega),← Int.ofNat_tdiv]
 generalize n / d=q at this
 rw [bZ (by omega) (by omega)]
abbrev fD(l:List Int):Prop:=l.length≤1000
theorem HL{l:List Int}{a b:Nat}(F:fD l)(O:a≤b)(hb:b≤l.length):∃ l',j3 l a b=some l'∧PermIn a b l.toArray l'.toArray:=by
 unfold j3
 have C:=F
 unfold fD at C
 rw [hG (i:=b) (j:=a) (by omega) (by omega),show decide (((b - a:Nat):Int) ≥ 8)=decide (b - a ≥ 8) from o0 (j:=8)]
 by_cases f:b - a ≥ 8
 case neg=>exact ⟨l,by rw [cY f,aS],permIn_refl _ _ _⟩
 rw [cr f,a3]
 obtain ⟨M,D,L,N⟩:=(yE (n:=b - a) (by omega)).2 f
 have B:fe ((b - a:Nat):Int) 4=some (((b - a) / 4:Nat):Int):=vi (d:=4) (by omega) (by omega)
 rw [D,aD,B,aD]
 have e1:i64 ((((b - a) / 4:Nat):Int) * 2)=(((b - a) / 4 * 2:Nat):Int):=by rw [bZ (by omega) (by omega)]; omega
 rw [e1,jq (i:=a) (j:=(b - a) / 4 * 2) (by omega) (by omega),e7 (i:=a+(b - a) / 4 * 2) (by omega) (by omega)]
 refine hJ (λ s=>∃ (m:List Int) (i:Nat) (r:Int),s=(m,(i:Int),r)∧a≤i∧m.length=l.length∧PermIn a b l.toArray m.toArray) (λ s=>b - s.2.1.toNat)
  (λ o=>PermIn a b l.toArray o.toArray) ⟨l,a+(b - a) / 4 * 2 - 1,_,rfl,by omega,rfl,permIn_refl _ _ _⟩ (λ o G=>⟨o,rfl,G⟩) ?_
 rintro _ ⟨m,i,r,rfl,E,hm,A⟩
 dsimp only
 rw [aD,e1,jq (i:=a) (j:=(b - a) / 4 * 2) (by omega) (by omega),bN (i:=a+(b - a) / 4 * 2) (by omega),Bv (z:=(M:Int) - 1) (by omega) (by omega),nq]
 by_cases hi:i≤a+(b - a) / 4 * 2+1
 ·left
  rw [cr hi,a3]
  obtain ⟨y,J,_⟩:=H7 r
  rw [J,aD]
  obtain ⟨z,K,Q⟩:=BO (a:=y) (m:=(M:Int) - 1) (by omega) (by omega)
  rw [K,aD,bZ (z:=(z:Int)) (by omega) (by omega),o0]
  have H:∃ t:Nat,t < b - a∧(((ab (decide (z ≥ b - a)) (some (i64 ((z:Int) - ((b - a:Nat):Int)))) (some (z:Int))):Option Int))=some (t:Int):=by
   by_cases g:z ≥ b - a
   ·exact ⟨z - (b - a),by omega,by rw [cr g,a3,hG (by omega) g]⟩
   ·exact ⟨z,by omega,by rw [cY g,aS]⟩
  obtain ⟨t,P,I⟩:=H
  rw [I,aD,jq (i:=a) (j:=t) (by omega) (by omega)]
  refine ⟨(eR m i (a+t),((i+1:Nat):Int),y),?_,⟨_,i+1,y,rfl,by omega,by rw [gn]; exact hm,?_⟩,by simp only [cm]; omega⟩
  ·simp only [bD,a6 (show i < m.length by omega),a6 (show a+t < m.length by omega),aD,cm,gH (show a+t < m.length by omega),bN (i:=i) (by omega)]
   rfl
  ·rw [gI]
   exact permIn_trans _ _ _ a b A (swp_permIn _ a b i (a+t) E (by omega) (by omega) (by omega) (by simp; omega))
 ·right
  exact ⟨m,by rw [cY hi,aS],A⟩
theorem ru{l:List Int}{i j:Nat}(hi:i < l.length)(d:j < l.length)(s:Int):∃ s',h9 l i j s=some (s',(i:Int),(j:Int))∨h9 l i j s=some (s',(j:Int),(i:Int)):=by
 unfold h9
 simp only [bD,a6 hi,a6 d,aD,hg]
 cases ltInt (nth l j) (nth l i) with
 | true=>exact ⟨_,.inr rfl⟩
 | false=>exact ⟨_,.inl rfl⟩
theorem uv{l:List Int}{i j k:Nat}(hi:i < l.length)(f:j < l.length)(g:k < l.length)(s:Int):∃ (s':Int) (p:Nat),iS l i j k s=some (s',(p:Int))∧(p=i∨p=j∨p=k):=by
 unfold iS
 have key:∀ (x y:Nat) (s:Int),x < l.length→y < l.length→(x=i∨x=j)→(y=i∨y=j)→∃ (s':Int) (p:Nat),((h9 l (y:Int) (k:Int) s).bind λ A=>(h9 l (x:Int) A.2.1 A.1).bind λ B=>some (B.1,B.2.2))=some (s',(p:Int))∧(p=i∨p=j∨p=k):=by
  intro x y s m z C D
  obtain ⟨t,d | d⟩:=ru z g s
  ·rw [d,aD]
   obtain ⟨u,hu | hu⟩:=ru m z t
   ·exact ⟨u,y,by rw [hu]; rfl,by omega⟩
   ·exact ⟨u,x,by rw [hu]; rfl,by omega⟩
  ·rw [d,aD]
   obtain ⟨u,hu | hu⟩:=ru m g t
   ·exact ⟨u,k,by rw [hu]; rfl,by omega⟩
   ·exact ⟨u,x,by rw [hu]; rfl,by omega⟩
 obtain ⟨t,d | d⟩:=ru hi f s
 ·rw [d,aD]
  exact key i j t hi f (.inl rfl) (.inr rfl)
 ·rw [d,aD]
  exact key j i t f hi (.inr rfl) (.inl rfl)
theorem ur{l:List Int}{i:Nat}(d:0 < i)(hi:i+1 < l.length)(f:fD l)(s:Int):∃ (s':Int) (p:Nat),h8 l i s=some (s',(p:Int))∧i - 1≤p∧p≤i+1:=by
 unfold h8
 unfold fD at f
 rw [e7 (i:=i) (by omega) d,bN (i:=i) (by omega)]
 obtain ⟨t,p,g,m⟩:=uv (l:=l) (i:=i - 1) (j:=i) (k:=i+1) (by omega) (by omega) hi s
 exact ⟨t,p,by rw [g]; rfl,by omega,by omega⟩
theorem HN{l:List Int}{a b:Nat}(f:fD l)(Q:a+12 < b)(hb:b≤l.length):∃ (p:Nat) (h:Int),kY l a b=some ((p:Int),h)∧a≤p∧p < b:=by
 unfold kY
 have H:=f
 unfold fD at H
 have G:fe ((b - a:Nat):Int) 4=some (((b - a) / 4:Nat):Int):=vi (d:=4) (by omega) (by omega)
 rw [hG (i:=b) (j:=a) (by omega) (by omega),G]
 simp only [aD]
 have e1:i64 ((((b - a) / 4:Nat):Int) * 1)=(((b - a) / 4:Nat):Int):=by rw [bZ (by omega) (by omega)]; omega
 have E:i64 ((((b - a) / 4:Nat):Int) * 2)=(((b - a) / 4 * 2:Nat):Int):=by rw [bZ (by omega) (by omega)]; omega
 have F:i64 ((((b - a) / 4:Nat):Int) * 3)=(((b - a) / 4 * 3:Nat):Int):=by rw [bZ (by omega) (by omega)]; omega
 rw [e1,E,F,jq (i:=a) (by omega) (by omega),jq (i:=a) (by omega) (by omega),jq (i:=a) (by omega) (by omega),show decide (((b - a:Nat):Int) ≥ 8)=true by simp; omega,a3]
 have J:∃ (p:Nat) (h:Int),(((ab (decide (((b - a:Nat):Int) ≥ 50))
   ((h8 l ((a+(b - a) / 4:Nat):Int) 0).bind λ z =>
   (h8 l ((a+(b - a) / 4 * 2:Nat):Int) z.1).bind λ A =>
   (h8 l ((a+(b - a) / 4 * 3:Nat):Int) A.1).bind λ B =>
   (iS l z.2 A.2 B.2 B.1).bind λ C =>
   some (C.2,C.1))
   ((iS l ((a+(b - a) / 4:Nat):Int) ((a+(b - a) / 4 * 2:Nat):Int) ((a+(b - a) / 4 * 3:Nat):Int) 0).bind λ D =>
   some (D.2,D.1))):Option (Int × Int)))=some ((p:Int),h)∧a≤p∧p < b:=by
  by_cases P:b - a ≥ 50
  ·rw [show decide (((b - a:Nat):Int) ≥ 50)=true by simp; omega,a3]
   obtain ⟨s1,p1,K,R,S⟩:=ur (l:=l) (i:=a+(b - a) / 4) (by omega) (by omega) f 0
   rw [K,aD]
   obtain ⟨s2,p2,L,T,V⟩:=ur (l:=l) (i:=a+(b - a) / 4 * 2) (by omega) (by omega) f s1
   rw [L,aD]
   obtain ⟨O,p3,M,W,Y⟩:=ur (l:=l) (i:=a+(b - a) / 4 * 3) (by omega) (by omega) f s2
   rw [M,aD]
   obtain ⟨y,p4,s,N⟩:=uv (l:=l) (i:=p1) (j:=p2) (k:=p3) (by omega) (by omega) (by omega) O
   exact ⟨p4,y,by rw [s]; rfl,by omega,by omega⟩
  ·rw [show decide (((b - a:Nat):Int) ≥ 50)=false by simp; omega,aS]
   obtain ⟨y,p4,s,N⟩:=uv (l:=l) (i:=a+(b - a) / 4) (j:=a+(b - a) / 4 * 2) (k:=a+(b - a) / 4 * 3) (by omega) (by omega) (by omega) 0
   exact ⟨p4,y,by rw [s]; rfl,by omega,by omega⟩
 obtain ⟨p,h,I,g,m⟩:=J
 rw [I,aD]
 cases h == 0 with
 | true=>exact ⟨p,1,rfl,g,m⟩
 | false =>
  cases h == 12 with
  | true=>exact ⟨p,2,rfl,g,m⟩
  | false=>exact ⟨p,0,rfl,g,m⟩
abbrev SI(a b:Nat)(d:Array Int):Prop:=SortedIn ltInt a b d
theorem Kh:∀ (k:Nat) (l:List Int) (a b L:Nat),fD l→L≤100→a≤b→b≤l.length→b - a≤12 * 2 ^ k→Below ltInt a b l.toArray→∃ l',iR (k+1) l a b L=some l'∧PermIn a b l.toArray l'.toArray∧SI a b l'.toArray:=by
 intro k
 induction k with
 | zero =>
  intro l a b L am aB V hb ak S
  have ao:=am
  unfold fD at ao
  obtain ⟨t,g,A⟩:=y1 (l:=l) (a:=a) (b:=b) (by unfold eX; omega) V hb
  obtain ⟨B,f⟩:=insertionSort_holds swo_ltInt l.toArray a b V (by simpa using hb)
  rw [← A] at B f
  refine ⟨t,?_,B,f⟩
  rw [iR]
  rw [dh (o:=t) (dO ?_)]
  dsimp only
  rw [hG (i:=b) (j:=a) (by omega) (by omega),show decide (((b - a:Nat):Int)≤12)=true by simp; omega,a3,g]
  rfl
 | succ k aN =>
  intro l a b L am aB V hb ak S
  have ao:=am
  unfold fD at ao
  rw [iR]
  refine hJ (λ s=>∃ (m:List Int) (x y lm:Nat) (F wp:Bool),s=(m,(x:Int),(y:Int),(lm:Int),F,wp)∧m.length=l.length∧x≤y∧y≤l.length∧lm≤100∧y - x≤12 * 2 ^ (k+1)∧Below ltInt x y m.toArray∧∀ R,PermIn x y m.toArray R→SI x y R→PermIn a b l.toArray R∧SI a b R) (λ s=>s.2.2.1.toNat - s.2.1.toNat)
   (λ o=>PermIn a b l.toArray o.toArray∧SI a b o.toArray) ⟨l,a,b,L,true,true,rfl,rfl,V,hb,aB,ak,S,λ R B f=>⟨B,f⟩⟩ (λ o a8=>⟨o,rfl,a8⟩) ?_
  rintro _ ⟨m,x,y,lm,F,wp,rfl,hm,K,aM,bp,ak,S,H⟩
  dsimp only
  have a7:m.toArray.size=l.length:=by simpa using hm
  rw [hG (i:=y) (j:=x) (by omega) (by omega),show decide (((y - x:Nat):Int)≤12)=decide (y - x≤12) from nq (j:=12)]
  by_cases ay:y - x≤12
  ·right
   obtain ⟨t,g,A⟩:=y1 (l:=m) (a:=x) (b:=y) (by unfold eX; omega) K (by omega)
   obtain ⟨B,f⟩:=insertionSort_holds swo_ltInt m.toArray x y K (by omega)
   rw [← A] at B f
   exact ⟨t,by rw [cr ay,a3,g]; rfl,H _ B f⟩
  rw [cY ay,aS,show (((lm:Nat):Int) == 0)=decide (lm=0) by rw [Bool.eq_iff_iff,beq_iff_eq,decide_eq_true_eq]; omega]
  by_cases aC:lm=0
  ·right
   obtain ⟨t,g,A⟩:=HI (l:=m) (a:=x) (b:=y) (by unfold eX; omega) (by omega) (by omega)
   obtain ⟨B,f⟩:=heapSort_holds swo_ltInt m.toArray x y K (by omega)
   rw [← A] at B f
   exact ⟨t,by rw [cr aC,a3,g]; rfl,H _ B f⟩
  rw [cY aC,aS]
  have ba:∃ (C:List Int) (D:Nat),(((ab (!F)
    ((j3 m (x:Int) (y:Int)).bind λ bg =>
    some (bg,i64 ((lm:Int) - 1)))
    (some (m,(lm:Int)))):Option ((List Int) × Int)))=some (C,(D:Int))∧D≤lm∧PermIn x y m.toArray C.toArray:=by
   cases F with
   | true=>exact ⟨m,lm,rfl,ct _,permIn_refl _ _ _⟩
   | false =>
    obtain ⟨t,g,bf⟩:=HL (l:=m) (a:=x) (b:=y) (by unfold fD; omega) K (by omega)
    refine ⟨t,lm - 1,?_,by omega,bf⟩
    rw [Bool.not_false,a3,g,aD,e7 (i:=lm) (by omega) (by omega)]
  obtain ⟨C,D,e1,bo,ae⟩:=ba
  rw [e1,aD]
  have aG:C.toArray.size=l.length:=by rw [ae.1,a7]
  have bq:C.length=l.length:=by simpa using aG
  have aY:=S.perm (by omega) ae
  obtain ⟨p,h,aO,aI,a9⟩:=HN (l:=C) (a:=x) (b:=y) (by unfold fD; omega) (by omega) (by omega)
  dsimp only
  rw [aO,aD]
  have bb:∃ (z:List Int) (p2:Nat) (f:Int),(((ab (h == 2)
    ((j4 C (x:Int) (y:Int)).bind λ bh =>
    some (bh,i64 ((i64 ((y:Int) - 1)) - (i64 ((p:Int) - (x:Int)))),1))
    (some (C,(p:Int),h))):Option ((List Int) × Int × Int)))=some (z,(p2:Int),f)∧x≤p2∧p2 < y∧PermIn x y C.toArray z.toArray:=by
   cases h == 2 with
   | false=>exact ⟨C,p,h,rfl,aI,a9,permIn_refl _ _ _⟩
   | true =>
    obtain ⟨t,g,A⟩:=HO (l:=C) (a:=x) (b:=y) (by unfold eX; omega) (by omega) (by omega)
    have aJ:=reverseRange_holds C.toArray x y K (by omega)
    rw [← A] at aJ
    refine ⟨t,(y - 1) - (p - x),1,?_,by omega,by omega,aJ⟩
    rw [a3,g,aD,e7 (i:=y) (by omega) (by omega),hG (i:=p) (j:=x) (by omega) aI,hG (i:=y - 1) (j:=p - x) (by omega) (by omega)]
  obtain ⟨z,p2,f,aP,W,Y,af⟩:=bb
  rw [aP,aD]
  have aH:z.toArray.size=l.length:=by rw [af.1,aG]
  have br:z.length=l.length:=by simpa using aH
  have az:=aY.perm (by omega) af
  have a1:=permIn_trans _ _ _ x y ae af
  dsimp only
  have bd:∃ c:Bool,((((ab F (ab wp (some (f == 1)) (some false)) (some false)):Option Bool))=some c):=by
   cases F with
   | false=>exact ⟨false,rfl⟩
   | true =>
    cases wp with
    | false=>exact ⟨false,rfl⟩
    | true=>exact ⟨_,rfl⟩
  obtain ⟨c,aR⟩:=bd
  rw [aR,aD]
  have au:∃ m3:List Int,PermIn x y z.toArray m3.toArray∧((((ab c
    ((jw z (x:Int) (y:Int)).bind λ G =>
    ab G.2
    (some (.inr G.1))
    (some (.inl G.1)))
    (some (.inl z))):Option ((List Int) ⊕ (List Int))))=some (.inr m3)∧SI x y m3.toArray∨(((ab c
    ((jw z (x:Int) (y:Int)).bind λ G =>
    ab G.2
    (some (.inr G.1))
    (some (.inl G.1)))
    (some (.inl z))):Option ((List Int) ⊕ (List Int))))=some (.inl m3)):=by
   cases c with
   | false=>exact ⟨z,permIn_refl _ _ _,.inr rfl⟩
   | true =>
    obtain ⟨t,g,A⟩:=HQ (l:=z) (a:=x) (b:=y) (by unfold eX; omega) (by omega) (by omega)
    have aq:=partialInsertionSort_holds swo_ltInt z.toArray x y (by omega) (by omega) az
    rw [← A] at aq
    refine ⟨t,aq.1,?_⟩
    rw [a3,g,aD]
    cases a4:(partialInsertionSort ltInt z.toArray x y).2 with
    | true=>exact .inl ⟨rfl,aq.2 a4⟩
    | false=>exact .inr rfl
  obtain ⟨m3,ag,au⟩:=au
  have T:=permIn_trans _ _ _ x y a1 ag
  have a5:m3.toArray.size=l.length:=by rw [ag.1,aH]
  have bs:m3.length=l.length:=by simpa using a5
  have aA:=az.perm (by omega) ag
  rcases au with ⟨Z,a2⟩ | Z
  ·right
   rw [Z]
   exact ⟨m3,rfl,H _ T a2⟩
  rw [Z,aD,Sum.elim_inl]
  have be:(((ab (decide ((x:Int) > 0))
    ((idx m3 (i64 ((x:Int) - 1))).bind λ bi =>
    (idx m3 (p2:Int)).bind λ bk =>
    (dV bi bk).bind λ bm =>
    some (!bm))
    (some false)):Option Bool))=some (decide (0 < x) && !ltInt m3.toArray[x - 1]! m3.toArray[p2]!):=by
   by_cases J:0 < x
   ·simp only [td J,a3,e7 (i:=x) (by omega) J,bD,a6 (show x - 1 < m3.length by omega),a6 (show p2 < m3.length by omega),aD,hg,cr J,Bool.true_and,e5]
   ·simp only [qZ J,aS,cY J,Bool.false_and]
  rw [be,aD]
  by_cases E:(decide (0 < x) && !ltInt m3.toArray[x - 1]! m3.toArray[p2]!)=true
  ·left
   obtain ⟨t,g,A⟩:=HS (l:=m3) (a:=x) (b:=y) (p:=p2) (by unfold eX; omega) W Y (by omega)
   rw [E,a3,g,aD]
   simp only [dn,decide_eq_true_eq,Bool.not_eq_true'] at E
   have aK:=round_eq swo_ltInt (partitionEqual_holds ltInt) (d3:=m3.toArray) (d4:=t.toArray) (mid:=(partitionEqual ltInt m3.toArray x y p2).1) E.1 W Y (by omega) aA E.2 (by rw [A])
   generalize (partitionEqual ltInt m3.toArray x y p2).1=mid at aK
   obtain ⟨Q,ax,aT,aa,ac⟩:=aK
   have aL:t.length=l.length:=by
    have:t.toArray.size=t.length:=by simp
    omega
   exact ⟨_,rfl,⟨t,mid,y,D,F,wp,rfl,aL,ax,aM,by omega,by omega,aa,λ R O P=>by
    obtain ⟨M,N⟩:=ac R O P
    exact H R (permIn_trans _ _ _ x y T M) N⟩,by simp only [cm]; omega⟩
  ·have E:(decide (0 < x) && !ltInt m3.toArray[x - 1]! m3.toArray[p2]!)=false:=by simpa using E
   left
   obtain ⟨t,g,A⟩:=HU (l:=m3) (a:=x) (b:=y) (p:=p2) (by unfold eX; omega) W Y (by omega)
   rw [E,aS,g,aD,show fe ((y - x:Nat):Int) 8=some (((y - x) / 8:Nat):Int) from vi (d:=8) (by omega) (by omega),aD]
   have ar:=round_part swo_ltInt (partition_holds ltInt) (d3:=m3.toArray) (d4:=t.toArray) (mid:=(partition ltInt m3.toArray x y p2).1) (ap:=(partition ltInt m3.toArray x y p2).2.1) W Y (by omega) aA (by rw [A])
   generalize (partition ltInt m3.toArray x y p2).1=mid at ar
   generalize (partition ltInt m3.toArray x y p2).2.1=ap at ar
   obtain ⟨Q,ax,aT,aa,ac,aU,aV⟩:=ar
   have aL:t.length=l.length:=by
    have:t.toArray.size=t.length:=by simp
    omega
   dsimp only
   rw [hG (i:=mid) (j:=x) (by omega) Q,hG (i:=y) (j:=mid) (by omega) (by omega),g6,bN (i:=mid) (by omega)]
   have bn:2 ^ (k+1)=2 * 2 ^ k:=by rw [Nat.pow_succ]; omega
   by_cases aF:mid - x < y - mid
   ·obtain ⟨u,hu,I,av⟩:=aN t x mid D (by unfold fD; omega) (by omega) Q (by omega) (by omega) aa
    rw [cr aF,a3,hu,aD]
    obtain ⟨ad,aj⟩:=aU _ I av
    have aw:u.length=l.length:=by
     have B:u.toArray.size=u.length:=by simp
     have f:=I.1
     omega
    exact ⟨_,rfl,⟨u,mid+1,y,D,_,_,rfl,aw,by omega,aM,by omega,by omega,ad,λ R O P=>by
     obtain ⟨M,N⟩:=aj R O P
     exact H R (permIn_trans _ _ _ x y T M) N⟩,by simp only [cm]; omega⟩
   ·obtain ⟨u,hu,I,av⟩:=aN t (mid+1) y D (by unfold fD; omega) (by omega) (by omega) (by omega) (by omega) ac
    rw [cY aF,aS,hu,aD]
    obtain ⟨ad,aj⟩:=aV _ I av
    have aw:u.length=l.length:=by
     have B:u.toArray.size=u.length:=by simp
     have f:=I.1
     omega
    exact ⟨_,rfl,⟨u,x,mid,D,_,_,rfl,aw,Q,by omega,by omega,by omega,ad,λ R O P=>by
     obtain ⟨M,N⟩:=aj R O P
     exact H R (permIn_trans _ _ _ x y T M) N⟩,by simp only [cm]; omega⟩
theorem Hb{l:List Int}(y:fD l):∃ l',kP l=some l'∧l'.Perm l∧l'.Pairwise (·≤·):=by
 have D:=y
 unfold fD at D
 obtain ⟨⟨k,C,F⟩,_⟩:=yE (n:=l.length) (by omega)
 obtain ⟨t,E,d,A⟩:=Kh 11 l 0 l.length k y (by omega) (Nat.zero_le _) (ct _) (by omega) (.inl rfl)
 unfold kP
 rw [C,aD]
 refine ⟨t,by rw [show (0:Int)=((0:Nat):Int) from rfl,E]; rfl,?_,?_⟩
 ·have m:=d.2.2
  have z:t.length=l.length:=by have:=d.1; simpa using this
  rw [show t.toArray.extract 0 l.length=t.toArray by rw [← z]; simp,show l.toArray.extract 0 l.length=l.toArray by simp] at m
  simpa using m
 ·have z:t.length=l.length:=by have:=d.1; simpa using this
  rw [List.pairwise_iff_getElem]
  intro i j hi s B
  have f:=A i j (Nat.zero_le _) B (by omega)
  rw [e5,e5] at f
  have e1:=a6 hi
  have g:=a6 s
  rw [e3 hi] at e1
  rw [e3 s] at g
  rw [ey e1,ey g]
  unfold ltInt at f
  have:=of_decide_eq_false f
  omega
theorem oV:∀ (l m:List Int),l.Pairwise (· < ·)→m.Pairwise (· < ·)→(∀ x,x∈l↔x∈m)→l=m
 | [],[],_,_,_=>rfl
 | [],b::m,_,_,h=>by have:=(h b).2 (by simp); cases this
 | a::l,[],_,_,h=>by have:=(h a).1 (by simp); cases this
 | a::l,b::m,g,hm,h=>by
  rw [List.pairwise_cons] at g hm
  have y:a=b:=by
   rcases cO.1 ((h a).1 (by simp)) with d | d
   ·exact d
   ·rcases cO.1 ((h b).2 (by simp)) with s | s
    ·exact s.symm
    ·have z:=hm.1 a d
     have A:=g.1 b s
     omega
  subst y
  rw [oV l m g.2 hm.2 λ x=>?_]
  constructor
  ·intro f
   rcases cO.1 ((h x).1 (by simp [f])) with d | d
   ·have:=g.1 x f; omega
   ·exact d
  ·intro f
   rcases cO.1 ((h x).2 (by simp [f])) with d | d
   ·have:=hm.1 x f; omega
   ·exact d
def fh(l:List Int):Nat→List Int
 | 0=>[]
 | k+1=>if k=0∨nth l k≠nth l (k - 1) then fh l k++[nth l k] else fh l k
theorem tc(l:List Int):∀ (k:Nat) (x:Int),x∈fh l k↔∃ i,i < k∧nth l i=x
 | 0,x=>by simp [fh]
 | k+1,x=>by
  have g:=tc l k x
  simp only [fh]
  have m:(∃ i,i < k+1∧nth l i=x)↔(∃ i,i < k∧nth l i=x)∨nth l k=x:=by
   constructor
   ·rintro ⟨i,hi,d⟩
    by_cases s:i=k
    ·subst s; exact .inr d
    ·exact .inl ⟨i,by omega,d⟩
   ·rintro (⟨i,hi,d⟩ | d)
    ·exact ⟨i,by omega,d⟩
    ·exact ⟨k,by omega,d⟩
  rw [m]
  split
  ·rw [List.mem_append,g,List.mem_singleton]
   constructor <;> rintro (h | h) <;> simp [h]
  ·rename_i f
   have y:k≠0∧nth l k=nth l (k - 1):=by
    constructor
    ·exact λ h=>f (.inl h)
    ·exact Classical.byContradiction λ h=>f (.inr h)
   rw [g]
   constructor
   ·exact .inl
   ·rintro (h | h)
    ·exact h
    ·exact ⟨k - 1,by omega,by rw [← y.2,h]⟩
theorem vq{l:List Int}(g:l.Pairwise (·≤·)){i j:Nat}(m:i < j)(f:j < l.length):nth l i≤nth l j:=by
 rw [List.pairwise_iff_getElem] at g
 have h:=g i j (by omega) f m
 have e1:=a6 (show i < l.length by omega)
 have d:=a6 f
 rw [e3 (by omega)] at e1 d
 rw [← ey e1,← ey d]
 exact h
theorem xl{l:List Int}(d:l.Pairwise (·≤·)):∀ k,k≤l.length→(fh l k).Pairwise (· < ·)
 | 0,_=>by simp [fh]
 | k+1,B=>by
  have m:=xl d k (by omega)
  simp only [fh]
  split
  ·rename_i h
   rw [List.pairwise_append]
   refine ⟨m,by simp,λ x s y g=>?_⟩
   rw [List.mem_singleton] at g
   subst g
   obtain ⟨i,hi,rfl⟩:=(tc l k x).1 s
   rcases h with h | h
   ·omega
   ·have z:=vq d (show k - 1 < k by omega) (by omega)
    have A:nth l i≤nth l (k - 1):=by
     rcases Nat.lt_or_ge i (k - 1) with f | f
     ·exact vq d f (by omega)
     ·rw [show i=k - 1 by omega]; exact Int.le_refl _
    omega
  ·exact m
theorem tb{l:List Int}:∀ k,k≤l.length→(∀ i,1≤i→i < k→nth l i≠nth l (i - 1))→fh l k=l.take k
 | 0,_,_=>by simp [fh]
 | k+1,m,h=>by
  rw [fh,if_pos (by
   by_cases d:k=0
   ·exact .inl d
   ·exact .inr (h k (by omega) (by omega))),tb k (by omega) (λ i f g=>h i f (by omega)),List.take_add_one,a6 (by omega)]
  rfl
theorem xn{m:List Int}{a i:Nat}(h:a+i < m.length):(m.drop a)[i]? = some (nth m (a+i)):=by
 rw [List.getElem?_drop,a6 h]
theorem J1{m:List Int}{w i:Nat}{x:Int}(h:w≠i):nth (m.set w x) i=nth m i:=by
 unfold nth
 rw [fq,fq,List.getElem?_set_ne h]
theorem take_set{m:List Int}{w:Nat}{x:Int}(h:w < m.length):(m.set w x).take (w+1)=m.take w++[x]:=by
 rw [List.take_add_one,List.getElem?_set_self h,List.take_set_of_le (ct _)]
 rfl
theorem Hd{l:List Int}(O:fD l)(P:l.Pairwise (·≤·)):∃ d,kQ l=some d∧d.Pairwise (· < ·)∧∀ x,x∈d↔x∈l:=by
 have J:=O
 unfold fD at J
 have K:(fh l l.length).Pairwise (· < ·)∧∀ x,x∈fh l l.length↔x∈l:=by
  refine ⟨xl P _ (ct _),λ x=>?_⟩
  rw [tc]
  constructor
  ·rintro ⟨i,hi,rfl⟩; exact dk hi
  ·intro y; exact hR y
 unfold kQ
 rw [show decide ((l.length:Int) < 2)=decide (l.length < 2) from g6 (j:=2)]
 by_cases f:l.length < 2
 ·rw [cr f,a3]
  refine ⟨l,rfl,?_,λ _=>Iff.rfl⟩
  match l,f with
  | [],_=>simp
  | [_],_=>simp
  | _::_::r,h=>exact absurd h (by simp only [List.length_cons]; omega)
 rw [cY f,aS]
 suffices y:∃ z:List Int,_=some z∧z=fh l l.length by
  obtain ⟨z,H,rfl⟩:=y
  exact ⟨_,H,K⟩
 refine hJ (λ s=>∃ k:Nat,s=(k:Int)∧1≤k∧k≤l.length∧∀ i,1≤i→i < k→nth l i≠nth l (i - 1)) (λ s=>l.length - s.toNat) (λ o=>o = .inl ()∧(∀ i,1≤i→i < l.length→nth l i≠nth l (i - 1))∨o = .inr (fh l l.length)) ⟨1,rfl,ct _,by omega,λ i A f=>by omega⟩ (λ o G=>?_) ?_
 ·rcases G with ⟨rfl,h⟩ | rfl
  ·exact ⟨l,rfl,by rw [tb _ (ct _) h,List.take_length]⟩
  ·exact ⟨_,rfl,rfl⟩
 ·rintro _ ⟨k,rfl,M,N,E⟩
  rw [g6]
  by_cases F:k < l.length
  ·rw [cr F,a3,e7 (i:=k) (by omega) M]
   simp only [bD,a6 F,a6 (show k - 1 < l.length by omega),aD]
   by_cases B:nth l k=nth l (k - 1)
   ·right
    rw [show (nth l k == nth l (k - 1))=true by simpa using B,a3,show fw l (k:Int) (l.length:Int)=some (l.drop k) by simp [fw]; omega,aD]
    suffices y:∃ z:Int ⊕ (Unit ⊕ List Int),_=some z∧z = .inr (.inr (fh l l.length)) by
     obtain ⟨z,H,rfl⟩:=y
     exact ⟨_,H,.inr rfl⟩
    refine hJ (λ s=>∃ (m:List Int) (w q:Nat),s=(m,(w:Int),(q:Int))∧m.length=l.length∧1≤q∧w+1≤k+q∧k+q≤l.length∧(∀ i,k+q - 1≤i→nth m i=nth l i)∧m.take w=fh l (k+q)) (λ s=>l.length - s.2.2.toNat)
     (λ o=>∃ (m:List Int) (w:Nat),o=(m,(w:Int))∧m.length=l.length∧w≤l.length∧m.take w=fh l l.length) ⟨l,k,1,rfl,rfl,ct _,by omega,by omega,λ _ _=>rfl,by
      rw [fh,if_neg (λ h=>h.elim (λ h=>by omega) (λ h=>h B))]
      exact (tb k N E).symm⟩ (λ o G=>?_) ?_
    ·obtain ⟨m,w,rfl,hm,hw,g⟩:=G
     dsimp only
     rw [cm,show fw m (w:Int) (m.length:Int)=some (m.drop w) by simp [fw]; omega,aD,show fw (hD m w) 0 (w:Int)=some (m.take w) from by
      have Q:(hD m w).length=m.length:=by simp [hD]; omega
      have:(hD m w).take w=m.take w:=by
       unfold hD
       rw [List.take_append_of_le_length (by simp; omega),List.take_take,Nat.min_self]
      rw [← this]
      exact oZ (by omega),aD,g]
     exact ⟨_,rfl,rfl⟩
    ·rintro _ ⟨m,w,q,rfl,hm,S,T,R,C,g⟩
     dsimp only
     rw [cm,List.length_drop,hm,g6]
     by_cases I:q < l.length - k
     ·left
      rw [cr I,a3,e7 (i:=q) (by omega) (by omega)]
      simp only [bD,xn (m:=m) (a:=k) (i:=q) (by omega),xn (m:=m) (a:=k) (i:=q - 1) (by omega),aD]
      rw [C (k+q) (by omega),show k+(q - 1)=k+q - 1 by omega,C (k+q - 1) (by omega)]
      by_cases D:nth l (k+q)=nth l (k+q - 1)
      ·rw [show (nth l (k+q) != nth l (k+q - 1))=false by simpa using D,aS,bN (i:=q) (by omega)]
       refine ⟨_,rfl,⟨m,w,q+1,rfl,hm,by omega,by omega,by omega,λ i hi=>C i (by omega),?_⟩,by simp only [cm]; omega⟩
       rw [g,show k+(q+1)=(k+q)+1 by omega,fh,if_neg (λ h=>h.elim (λ h=>by omega) (λ h=>h D))]
      ·rw [show (nth l (k+q) != nth l (k+q - 1))=true by simpa using D,a3]
       simp only [a6 (show w < m.length by omega),aD,bN (i:=q) (by omega),bN (i:=w) (by omega),cm]
       refine ⟨_,rfl,⟨m.set w (nth l (k+q)),w+1,q+1,rfl,by simpa using hm,by omega,by omega,by omega,λ i hi=>?_,?_⟩,by simp only [cm]; omega⟩
       ·rw [J1 (by omega)]; exact C i (by omega)
       ·rw [take_set (by omega),g,show k+(q+1)=(k+q)+1 by omega,fh,if_pos (.inr D)]
     ·right
      rw [cY I,aS]
      exact ⟨(m,(w:Int)),rfl,m,w,rfl,hm,by omega,by rw [g,show k+q=l.length by omega]⟩
   ·left
    rw [show (nth l k == nth l (k - 1))=false by simpa using B,aS,bN (i:=k) (by omega)]
    refine ⟨_,rfl,⟨k+1,rfl,by omega,by omega,λ i A f=>?_⟩,by simp only [cm]; omega⟩
    by_cases L:i=k
    ·subst L; exact B
    ·exact E i A (by omega)
  ·right
   rw [cY F,aS]
   exact ⟨.inl (),rfl,.inl ⟨rfl,λ i A f=>E i A (by omega)⟩⟩
theorem zF{p:Int→Bool}{x:Int}:∀ {l:List Int},x∈l.takeWhile p→p x=true
 | [],h=>by cases h
 | a::l,h=>by
  by_cases d:p a=true
  ·rw [List.takeWhile_cons_of_pos d] at h
   rcases cO.1 h with rfl | h
   ·exact d
   ·exact zF h
  ·rw [List.takeWhile_cons_of_neg d] at h
   cases h
def iL(acc:List Int)(x:Int):List Int:=if x∈acc then acc else acc.takeWhile (λ y=>decide (y < x))++x::acc.dropWhile (λ y=>decide (y < x))
def il(l:List Int):List Int:=l.foldl iL []
theorem FJ{acc:List Int}(h:acc.Pairwise (· < ·))(x:Int):(iL acc x).Pairwise (· < ·)∧∀ y,y∈iL acc x↔y∈acc∨y=x:=by
 unfold iL
 split
 ·rename_i m
  refine ⟨h,λ y=>?_⟩
  constructor
  ·exact .inl
  ·rintro (h | rfl)
   ·exact h
   ·exact m
 ·rename_i m
  have e:acc=acc.takeWhile (λ y=>decide (y < x))++acc.dropWhile (λ y=>decide (y < x)):=(List.takeWhile_append_dropWhile).symm
  have C:∀ y∈acc.takeWhile (λ y=>decide (y < x)),y < x:=λ y d=>by simpa using zF d
  have A:∀ y∈acc.dropWhile (λ y=>decide (y < x)),x < y:=by
   intro y d
   have g:(acc.dropWhile (λ y=>decide (y < x))).Pairwise (· < ·):=List.Pairwise.sublist (List.dropWhile_sublist _) h
   cases f:acc.dropWhile (λ y=>decide (y < x)) with
   | nil=>rw [f] at d; cases d
   | cons a r =>
    have D:¬ a < x:=by
     have:=List.head_dropWhile_not (λ y=>decide (y < x)) (l:=acc) (by rw [f]; simp)
     simp only [f,List.head_cons] at this
     simpa using this
    have B:a≠x:=λ B=>m (by rw [← B]; exact (List.dropWhile_sublist _).subset (by rw [f]; simp))
    rw [f] at d g
    rw [List.pairwise_cons] at g
    rcases cO.1 d with rfl | d
    ·omega
    ·have:=g.1 y d; omega
  constructor
  ·rw [List.pairwise_append,List.pairwise_cons]
   refine ⟨List.Pairwise.sublist (List.takeWhile_sublist _) h,⟨A,List.Pairwise.sublist (List.dropWhile_sublist _) h⟩,λ y d z s=>?_⟩
   have:=C y d
   rcases cO.1 s with rfl | s
   ·exact this
   ·have:=A z s; omega
  ·intro y
   rw [List.mem_append,cO]
   conv=>rhs; rw [e,List.mem_append]
   constructor
   ·rintro (h | h | h) <;> simp [h]
   ·rintro ((h | h) | h) <;> simp [h]
theorem vr:∀ (l acc:List Int),acc.Pairwise (· < ·)→(l.foldl iL acc).Pairwise (· < ·)∧∀ y,y∈l.foldl iL acc↔y∈acc∨y∈l
 | [],acc,h=>⟨h,λ y=>by simp⟩
 | x::l,acc,h=>by
  obtain ⟨d,f⟩:=FJ h x
  obtain ⟨g,m⟩:=vr l (iL acc x) d
  refine ⟨g,λ y=>?_⟩
  rw [List.foldl_cons,m,f,cO]
  constructor
  ·rintro ((h | h) | h) <;> simp [h]
  ·rintro (h | h | h) <;> simp [h]
theorem AH(l:List Int):(il l).Pairwise (· < ·):=(vr l [] (by simp)).1
theorem rK(l:List Int)(y:Int):y∈il l↔y∈l:=by
 have:=(vr l [] (by simp)).2 y
 simpa [il] using this
theorem FK(acc:List Int)(x:Int):(iL acc x).length≤acc.length+1:=by
 unfold iL
 split
 ·omega
 ·have:=congrArg List.length (List.takeWhile_append_dropWhile (p:=λ y=>decide (y < x)) (l:=acc))
  simp only [ew,List.length_cons] at this ⊢
  omega
theorem AJ:∀ (l acc:List Int),(l.foldl iL acc).length≤acc.length+l.length
 | [],acc=>by simp
 | x::l,acc=>by
  have d:=AJ l (iL acc x)
  have f:=FK acc x
  rw [List.foldl_cons,List.length_cons]
  omega
theorem AI(l:List Int):(il l).length≤l.length:=by
 have:=AJ l []
 simpa [il] using this
theorem zn{b:an}(G:Valid b){f:bm→Option Int}{g:dq→Int}(D:∀ c∈bn b,f (gy c)=some (g c)):lp (p8 b) f=some (il ((bn b).map g)):=by
 unfold lp
 have H:=jQ G
 refine (dh (o:=(bn b).map g) ?_).trans ?_
 ·have y:(([]:List Int),(0:Int))=(λ q:Nat=>(((bn b).take q).map g,(q:Int))) 0:=rfl
  rw [y]
  refine gD (λ q:Nat=>(((bn b).take q).map g,(q:Int))) (bn b).length (λ q m=>?_) (by simp only [List.length_map,cP,aS,List.take_length])
  have B:(bn b)[q]∈bn b:=List.getElem_mem m
  simp only [List.length_map,dec_lt m,a3,bD,List.getElem?_map,e3 m,Option.map_some,aD,D _ B,bN (i:=q) (by omega)]
  rw [eU (by simp; omega),aD,List.take_succ_eq_append_getElem m,List.map_append]
  rfl
 ·obtain ⟨t,F,s,E⟩:=Hb (l:=(bn b).map g) (by unfold fD; rw [List.length_map]; omega)
  obtain ⟨d,C,z,A⟩:=Hd (l:=t) (by unfold fD; rw [s.length_eq,List.length_map]; omega) E
  rw [F,aD,C,aD,oV d (il ((bn b).map g)) z (AH _) λ x=>by rw [A,s.mem_iff,rK]]
def mZ(b:an)(p:Nat):List Int:=il ((bn b).map λ c=>nth c.eJ p)
def oA(b:an)(p:Int):List Int × Int:=if cD b≠0 then ([],cD b) else if fG b p=false then ([],6) else if bn b=[] then ([],9) else (mZ b p.toNat,0)
theorem y5{b:an}(m:Small b)(p:Int):jx b p=some (oA b p):=by
 unfold jx oA
 rw [rF m (own:=if fG b p=false then 6 else 0) (λ _=>by
  unfold mH
  rw [zm m,aD]
  cases fG b p <;> rfl),aD]
 unfold oo
 by_cases d:cD b=0
 ·have s:=jg m d
  have A:=s.n5
  simp only [d,ne_eq,eW,if_false]
  cases z:fG b p with
  | false=>rfl
  | true =>
   simp only [ji,if_false,eW]
   by_cases f:bn b=[]
   ·rw [if_pos f,if_pos f]; rfl
   ·rw [if_neg f,if_neg f]
    simp only [bne_self_eq_false,aS]
    have C:=jr.1 z
    rw [zn s (g:=λ c=>nth c.eJ p.toNat) (λ c y=>?_)]
    ·rfl
    ·obtain ⟨k,rfl⟩:∃ k:Nat,p=(k:Int):=⟨p.toNat,by omega⟩
     have B:=(s4 s y).1
     unfold mI gy
     rw [bD,a6 (by rw [qW (by omega)]; omega),aD,u0 (by omega) (by omega),cm]
 ·simp only [d,ne_eq,not_false_eq_true,if_true,gg d,a3]
theorem B1{l:List Int}(h:l.Pairwise (· < ·))(m:l≠[]):nth l 0∈l∧nth l (l.length - 1)∈l∧∀ x∈l,nth l 0≤x∧x≤nth l (l.length - 1):=by
 have g:=List.length_pos_iff.2 m
 refine ⟨dk g,dk (by omega),λ x s=>?_⟩
 obtain ⟨i,hi,rfl⟩:=hR s
 have hle:∀ i j,i≤j→j < l.length→nth l i≤nth l j:=λ i j y f=>by
  rcases Nat.lt_or_ge i j with d | d
  ·exact vq (h.imp (λ h=>by omega)) d f
  ·rw [show i=j by omega]; exact Int.le_refl _
 exact ⟨hle 0 i (by omega) hi,hle i _ (by omega) (by omega)⟩
def iV(b:an)(out:List Int):List Int:=il ((bn b).map λ c=>dP b c out)
def hd(b:an)(out:List Int):Int:=nth (iV b out) 0
def ha(b:an)(out:List Int):Int:=nth (iV b out) ((iV b out).length - 1)
theorem zH{b:an}{out:List Int}(f:bn b≠[]):iV b out≠[]:=by
 intro h
 cases d:bn b with
 | nil=>exact f d
 | cons c l =>
  have:=(rK ((bn b).map λ c=>dP b c out) (dP b c out)).2 (by rw [d]; simp)
  unfold iV at h
  rw [h] at this
  cases this
theorem zK{b:an}{out:List Int}(g:bn b≠[]):(∃ c∈bn b,dP b c out=hd b out)∧(∃ c∈bn b,dP b c out=ha b out)∧∀ c∈bn b,hd b out≤dP b c out∧dP b c out≤ha b out:=by
 obtain ⟨d,f,m⟩:=B1 (AH ((bn b).map λ c=>dP b c out)) (zH g)
 have hm:∀ x,x∈il ((bn b).map λ c=>dP b c out)↔∃ c∈bn b,dP b c out=x:=λ x=>by rw [rK,List.mem_map]
 exact ⟨(hm _).1 d,(hm _).1 f,λ c s=>m _ ((hm _).2 ⟨c,s,rfl⟩)⟩
def oh(b:an)(out:List Int):Reach × Int :=
 if cD b≠0 then (⟨0,0⟩,cD b) else if fY out (b.ao.length:Int)≠0 then (⟨0,0⟩,fY out (b.ao.length:Int)) else if bn b=[] then (⟨0,0⟩,9) else (⟨hd b out,ha b out⟩,0)
theorem y6{b:an}(y:Small b){out:List Int}(G:out.length≤100):jy b out=some (oh b out):=by
 have H:=y.pieces
 unfold jy oh mJ
 rw [aD,rF y (own:=fY out (b.ao.length:Int)) (λ _=>by unfold hL; rw [zj (by omega) (by omega) (by omega)]; rfl),aD]
 unfold oo
 by_cases f:cD b=0
 ·have s:=jg y f
  have E:=s.n5
  have F:=jQ s
  simp only [f,ne_eq,eW,if_false]
  by_cases m:fY out (b.ao.length:Int)=0
  ·simp only [m,eW,if_false]
   by_cases d:bn b=[]
   ·rw [if_pos d,if_pos d]; rfl
   ·rw [if_neg d,if_neg d]
    simp only [bne_self_eq_false,aS]
    have B:hx out:=λ x D=>by have:=xg m x D; omega
    rw [zn s (g:=λ c=>dP b c out) (λ c A=>by
     unfold mK
     rw [pP B (by omega),aD]
     dsimp only
     rw [uH s A]
     rfl),aD]
    have C:=zH (out:=out) d
    have z:=List.length_pos_iff.2 C
    have hle:=AI ((bn b).map λ c=>dP b c out)
    rw [List.length_map] at hle
    rw [show il ((bn b).map λ c=>dP b c out)=iV b out from rfl] at hle ⊢
    rw [e7 (i:=(iV b out).length) (by omega) z,bD,a6 (show (iV b out).length - 1 < (iV b out).length by omega),show idx (iV b out) 0=some (nth (iV b out) 0) from a6 z]
    rfl
  ·simp only [m,not_false_eq_true,if_true,gg m,a3]
 ·simp only [f,ne_eq,not_false_eq_true,if_true,gg f,a3]
def AE(x P:Nat):Bool:=match sU (x:Int) (P:Int) with
 | some out=>fY out P == 0 && decide (out.length≤20)
 | none=>false
set_option maxRecDepth 1000000 in
theorem LF:((List.range 256).all λ x=>(List.range 6).all λ P=>AE x P)=true:=by decide +kernel
theorem LD{x P:Nat}(g:x < 256)(f:P < 6):∃ out,mx (x:Int) (P:Int)=some out∧fY out (P:Int)=0∧out.length≤20:=by
 have h:=LF
 rw [List.all_eq_true] at h
 have h:=h x (List.mem_range.2 g)
 rw [List.all_eq_true] at h
 have h:=h P (List.mem_range.2 f)
 unfold AE at h
 cases d:sU (x:Int) (P:Int) with
 | none=>rw [d] at h; cases h
 | some out =>
  rw [d] at h
  simp only [dn,beq_iff_eq,decide_eq_true_eq] at h
  exact ⟨out,Gf _ _ _ d,h.1,h.2⟩
structure jM (b b':an):Prop where
 mb:b'.ax=b.ax
 out:b'.Out=b.Out
 len:b'.ao.length=b.ao.length
 dP:∀ c out,dP b' c out=dP b c out
 sub:∀ c∈bn b',c∈bn b
 num:(bn b').length≤(bn b).length
 Ke:ja b'=ja b
 lift:∀ l out,dU b' out l=dU b out l
theorem filter_mono{α:Type}{p q:α→Bool}(h:∀ x,p x=true→q x=true):∀ l:List α,(l.filter p).length≤(l.filter q).length
 | []=>ct _
 | a::l=>by
  have f:=filter_mono h l
  rw [List.filter_cons,List.filter_cons]
  cases d:p a with
  | true=>rw [h a d]; simpa using f
  | false =>
   cases q a <;> simp <;> omega
theorem I8{l m:List Int}(d:l.length≤1000)(hm:m.length≤1000)(h:∀ x∈l,x∈m):n6 l m=some true:=by
 unfold n6
 refine (dh (o:=Sum.inl ()) ?_).trans rfl
 refine gD (λ i:Nat=>(i:Int)) l.length (λ i hi=>?_) (by simp only [cP,aS])
 have:=h _ (dk hi)
 simp only [dec_lt hi,a3,bD,a6 hi,aD,nG hm,show m.contains (nth l i)=true by simpa using this,Bool.not_true,aS,bN (i:=i) (by omega)]
section
variable {b b':an}
theorem jM.Mo(f:jM b b')(o:List Int):oC b' o≤oC b o:=by
 have d:0≤oC b o:=tS _ _ _
 have hb:gO b' o=gO b o:=by unfold gO; rw [f.out]
 rw [vH _ _ _ d]
 intro g m
 rw [hb] at m
 rw [Bs _ _ _ d]
 intro c s
 rw [f.dP]
 exact (Bs b g _ d).1 ((vH b o _ d).1 (Int.le_refl _) g m) c (f.sub c s)
theorem jM.safe(d:jM b b')(o:List Int)(c:dq):fj b' o c=fj b o c:=by
 have hb:gO b' o=gO b o:=by unfold gO; rw [d.out]
 have f:gG b'=gG b:=by funext m; unfold gG; rw [d.mb]
 unfold fj
 rw [hb,f]
 congr 1
 funext g
 rw [d.dP]
theorem jM.ord(d:jM b b'){o:List Int}(h:Ord b o):Ord b' o:=⟨by rw [d.out,d.lift]; exact h.lift,by rw [d.out,d.len]; exact h.len⟩
theorem jM.better(d:jM b b')(B:Small b)(C:Small b')(y:cD b=0)(z:cD b'=0)(f:bn b'≠[]){out o:List Int}(J:fY out (b.ao.length:Int)=0)(ax:out.length≤20)(G:Ord b o){k:Nat}(av:k < b.ao.length):py b b' out o (k:Int)=some true:=by
 have H:=jg B y
 have K:=jg C z
 have ar:=jQ H
 have au:=jQ K
 have ab:=d.ord G
 have ay:=zT H G
 have A:bn b≠[]:=λ h=>by
  cases m:bn b' with
  | nil=>exact f m
  | cons c l =>
   have:=d.sub c (by rw [m]; simp)
   rw [h] at this
   cases this
 have ad:fG b (k:Int)=true:=jr.2 (by omega)
 have ae:fG b' (k:Int)=true:=jr.2 (by rw [d.len]; omega)
 have Q:nj b=(((bn b).length:Int),0):=by unfold nj; simp [y]
 have R:nj b'=(((bn b').length:Int),0):=by unfold nj; simp [z]
 have O:oA b (k:Int)=(mZ b k,0):=by
  unfold oA
  simp only [y,ne_eq,eW,if_false,ad,ji,cm,if_neg A]
 have P:oA b' (k:Int)=(mZ b' k,0):=by
  unfold oA
  simp only [z,ne_eq,eW,if_false,ae,ji,cm,if_neg f]
 have S:oh b out=(⟨hd b out,ha b out⟩,0):=by unfold oh; simp [y,J,A]
 have T:oh b' out=(⟨hd b' out,ha b' out⟩,0):=by unfold oh; rw [d.len]; simp [z,J,f]
 have M:oq b=((((ja b).filter (hS b)).length:Int),0):=by unfold oq; simp [y,A]
 have N:oq b'=((((ja b).filter (hS b')).length:Int),0):=by unfold oq; rw [d.Ke]; simp [z,f]
 have L:∀ x:an,Valid x→(mZ x k).length≤1000:=λ x E=>by
  have g:=jQ E
  have:=AI ((bn x).map λ c=>nth c.eJ k)
  rw [List.length_map] at this
  show (il _).length≤_
  omega
 have aa:n6 (mZ b' k) (mZ b k)=some true:=I8 (L _ K) (L _ H) λ x E=>by
  unfold mZ at E ⊢
  rw [rK,List.mem_map] at E ⊢
  obtain ⟨c,m,rfl⟩:=E
  exact ⟨c,d.sub c m,rfl⟩
 obtain ⟨⟨c1,I,aj⟩,⟨c2,Y,ak⟩,am⟩:=zK (b:=b') (out:=out) f
 obtain ⟨_,_,p3⟩:=zK (b:=b) (out:=out) A
 have ap:=p3 c1 (d.sub c1 I)
 have aq:=p3 c2 (d.sub c2 Y)
 have V:=am c1 I
 rw [d.dP] at aj ak V
 have aw:=List.length_pos_iff.2 f
 have W:en ((bn b').length:Int) 1 ((bn b).length:Int)=some true:=by
  rw [jv]
  congr 1
  rw [fu]
  have:=d.num
  omega
 have af:=Aq y A G
 have ag:=Aq z f ab
 have az:(λ c=>fj b' o c)=λ c=>fj b o c:=by funext c; exact d.safe o c
 have ac:decide ((((ja b).filter (hS b)).length:Int)≤(((ja b).filter (hS b')).length:Int))=true:=by
  rw [decide_eq_true_eq]
  have:=filter_mono (p:=hS b) (q:=hS b') (λ o h=>by
   unfold hS at h ⊢
   rw [decide_eq_true_eq] at h ⊢
   have:=d.Mo o
   rw [d.mb]
   omega) (ja b)
  omega
 unfold py
 simp only [y4 B,y4 C,y5 B,y5 C,y6 B (out:=out) (by omega),y6 C (out:=out) (by omega),y8 B (o:=o) (by omega),y8 C (o:=o) (by omega),y9 B,y9 C,aD,Q,R,O,P,S,T,M,N,af,ag,bne_self_eq_false,aS,W,a3,aa,
  show decide (hd b out≤hd b' out)=true from cr (by omega),show decide (hd b' out≤ha b' out)=true from cr (by omega),show decide (ha b' out≤ha b out)=true from cr (by omega),ac]
 by_cases hu:gb ((bn b).filter (fj b o)).length (bn b).length=0
 ·rw [hu]; rfl
 ·rw [show (gb ((bn b).filter (fj b o)).length (bn b).length == 0)=false by simpa using hu,aS]
  have heq:gb ((bn b).filter (fj b o)).length (bn b).length=gb ((bn b').filter (fj b' o)).length (bn b').length:=by
   have Z:gb ((bn b).filter (fj b o)).length (bn b).length=1∨gb ((bn b).filter (fj b o)).length (bn b).length=2:=by
    unfold gb at hu ⊢
    split
    ·exact .inr rfl
    ·rename_i s
     rw [if_neg s] at hu
     split
     ·exact .inl rfl
     ·rename_i g
      rw [if_neg g] at hu
      exact absurd rfl hu
   rcases Z with s | s
   ·have g:=ym (p:=fj b o) A
    rw [s] at g
    have F:=of_decide_eq_true g.symm
    have D:=ym (p:=fj b' o) f
    rw [cr (λ c m=>by rw [d.safe]; exact F c (d.sub c m)),beq_iff_eq] at D
    rw [s,D]
   ·have g:=yl (p:=fj b o) (l:=bn b)
    rw [s] at g
    have F:=of_decide_eq_true g.symm
    have D:=yl (p:=fj b' o) (l:=bn b')
    rw [cr (λ c m=>by rw [d.safe]; exact F c (d.sub c m)),beq_iff_eq] at D
    rw [s,D]
  rw [show (gb ((bn b).filter (fj b o)).length (bn b).length == gb ((bn b').filter (fj b' o)).length (bn b').length)=true by rw [heq]; simp,a3]
end
def fO(b:an)(l:List Int)(n:Nat):List Int:=(List.range n).map λ i=>(nth b.ao i).Weight.ai+(fy l (1+i)).tmod ((nth b.ao i).Weight.ak - (nth b.ao i).Weight.ai+1)
theorem KO(b:an)(l:List Int)(n:Nat):fO b l (n+1)=fO b l n++[(nth b.ao n).Weight.ai+(fy l (1+n)).tmod ((nth b.ao n).Weight.ak - (nth b.ao n).Weight.ai+1)]:=by simp [fO,List.range_succ]
theorem Af(b:an)(l:List Int)(n:Nat):(fO b l n).length=n:=by simp [fO]
theorem KN(b:an)(l:List Int){i n:Nat}(h:i < n):nth (fO b l n) i=(nth b.ao i).Weight.ai+(fy l (1+i)).tmod ((nth b.ao i).Weight.ak - (nth b.ao i).Weight.ai+1):=by
 simp [nth,fO,h]
def qc(b:an)(l:List Int):Int:=b.ad.ai+(fy l 0).tmod (b.ad.ak - b.ad.ai+1)
theorem HF{b:an}(g:Valid b){l:List Int}(d:nb l):pq b l=some ⟨qc b l,fO b l b.ao.length⟩:=by
 have hb:=g.eb
 have C:=g.n5
 have A:=qa d 0
 have t0:=sb (a:=fy l 0) (m:=b.ad.ak - b.ad.ai+1) A.1 (by omega)
 unfold pq
 rw [show (0:Int)=((0:Nat):Int) from rfl,uE d,aD,bZ (z:=b.ad.ak - b.ad.ai) (by omega) (by omega),bZ (z:=b.ad.ak - b.ad.ai+1) (by omega) (by omega)]
 have er:ec (fy l 0) (b.ad.ak - b.ad.ai+1)=some ((fy l 0).tmod (b.ad.ak - b.ad.ai+1)):=by
  unfold ec
  rw [if_neg (by omega)]
 rw [er,aD,bZ (z:=b.ad.ai+_) (by omega) (by omega)]
 refine (dh (o:=fO b l b.ao.length) ?_).trans rfl
 have s:(((0:Nat):Int),([]:List Int))=(λ q:Nat=>((q:Int),fO b l q)) 0:=rfl
 rw [s]
 refine gD (λ q:Nat=>((q:Int),fO b l q)) b.ao.length (λ q f=>?_) (by simp only [cP,aS])
 have hw:=(g.each q f).weight
 have B:=qa d (1+q)
 have D:=sb (a:=fy l (1+q)) (m:=(nth b.ao q).Weight.ak - (nth b.ao q).Weight.ai+1) B.1 (by omega)
 have er:ec (fy l (1+q)) ((nth b.ao q).Weight.ak - (nth b.ao q).Weight.ai+1)=some ((fy l (1+q)).tmod ((nth b.ao q).Weight.ak - (nth b.ao q).Weight.ai+1)):=by
  unfold ec
  rw [if_neg (by omega)]
 have y:i64 (1+(q:Int))=((1+q:Nat):Int):=by rw [bZ (by omega) (by omega)]; omega
 simp only [dec_lt f,a3,bD,a6 f,aD,y,uE d,bZ (z:=(nth b.ao q).Weight.ak - (nth b.ao q).Weight.ai) (by omega) (by omega),bZ (z:=(nth b.ao q).Weight.ak - (nth b.ao q).Weight.ai+1) (by omega) (by omega),er,bZ (z:=(nth b.ao q).Weight.ai+(fy l (1+q)).tmod ((nth b.ao q).Weight.ak - (nth b.ao q).Weight.ai+1)) (by omega) (by omega),bN (i:=q) (by omega)]
 rw [eU (by simp [Af]; omega),aD,KO]
theorem KP{b:an}(f:Valid b){l:List Int}(d:nb l):b.ad.ai≤qc b l∧qc b l≤b.ad.ak∧∀ i,i < b.ao.length→(nth b.ao i).Weight.ai≤nth (fO b l b.ao.length) i∧nth (fO b l b.ao.length) i≤(nth b.ao i).Weight.ak:=by
 have hb:=f.eb
 have t0:=sb (a:=fy l 0) (m:=b.ad.ak - b.ad.ai+1) (qa d 0).1 (by omega)
 refine ⟨by unfold qc; omega,by unfold qc; omega,λ i hi=>?_⟩
 have hw:=(f.each i hi).weight
 have g:=sb (a:=fy l (1+i)) (m:=(nth b.ao i).Weight.ak - (nth b.ao i).Weight.ai+1) (qa d (1+i)).1 (by omega)
 rw [KN b l hi]
 omega
theorem Fp{b:an}(d:Valid b){ba:Int}{ws:List Int}(m:ws.length=b.ao.length)(f:b.ad.ai≤ba)(g:ba≤b.ad.ak)(h:∀ i,i < b.ao.length→(nth b.ao i).Weight.ai≤nth ws i∧nth ws i≤(nth b.ao i).Weight.ak):hv b ba ws:=by
 have hb:=d.eb
 refine ⟨by omega,by omega,λ i hi=>?_⟩
 have hw:=(d.each i hi).weight
 have:=h i hi
 omega
theorem AO(b:an):∀ (j i:Nat) (l:List Int),l.length=j→(∀ k,k < j→(nth b.ao (i+k)).Weight.ai≤nth l k∧nth l k≤(nth b.ao (i+k)).Weight.ak)→l∈fR b j i
 | 0,_,l,d,_=>by
  have:l=[]:=List.eq_nil_of_length_eq_zero d
  rw [this]
  simp [fR]
 | j+1,i,l,d,h=>by
  cases l with
  | nil=>simp at d
  | cons x t =>
   simp only [fR,List.mem_flatMap,List.mem_map]
   refine ⟨x,pZ.2 ?_,t,AO b j (i+1) t (by simpa using d) (λ k f=>?_),rfl⟩
   ·have:=h 0 (by omega)
    simpa [nth] using this
   ·have:=h (k+1) (by omega)
    rw [show i+1+k=i+(k+1) by omega]
    simpa [nth] using this
def oy(b:an)(f:Int)(d:List bU):an:=⟨f,⟨b.ad.ai,b.ad.ak⟩,b.ao,b.Out,d⟩
theorem zI(b:an)(f:Int)(d:List bU)(ba:Int)(ws out:List Int):∀ n,fb (oy b f d) ba ws out n=fb b ba ws out n
 | 0=>rfl
 | n+1=>by
  have:=zI b f d ba ws out n
  simp only [fb,this]
  rfl
theorem zG(b:an)(f:Int)(d:List bU)(ba:Int)(ws:List Int)(n:Nat):mo (oy b f d) ba ws n=mo b ba ws n:=zI b f d ba ws _ _
def hc(b:an)(ba:Int)(ws:List Int)(n:Nat):Int:=(List.range n).foldl (λ m i=>max m (hy (mo b ba ws i))) b.ax
theorem yH(b:an)(ba:Int)(ws:List Int)(n:Nat):hc b ba ws (n+1)=max (hc b ba ws n) (hy (mo b ba ws n)):=by simp [hc,List.range_succ]
def nw(b:an)(ba:Int)(ws:List Int):List bU:=b.aV.map λ x=>⟨x.cT,jd (mo b ba ws x.cT.toNat)⟩
theorem ue{b:an}(d:Valid b){ba:Int}{ws:List Int}(f:hv b ba ws):∀ n,0≤hc b ba ws n∧hc b ba ws n≤9999∧∀ i,i < n→hy (mo b ba ws i)≤hc b ba ws n
 | 0=>⟨d.mb.1,d.mb.2,λ i hi=>by omega⟩
 | n+1=>by
  obtain ⟨m,s,g⟩:=ue d f n
  have hm:=rM d f (out:=b.Out.take n)
  have y:hy (mo b ba ws n)≤9999:=by unfold mo hy; split <;> omega
  rw [yH]
  refine ⟨by omega,by omega,λ i hi=>?_⟩
  by_cases h:i=n
  ·subst h; omega
  ·have:=g i (by omega); omega
theorem HW{b:an}(d:Valid b){ba:Int}{ws:List Int}(g:hv b ba ws):pv b ⟨ba,ws⟩=some (oy b (hc b ba ws (b.Out.length+1)) (nw b ba ws)):=by
 unfold pv
 have A:=d.small.out
 have z:=d.pa
 rw [dh (o:=hc b ba ws (b.Out.length+1)) ?_]
 ·rw [dh (o:=nw b ba ws) ?_]
  ·rfl
  ·have m:((0:Int),([]:List bU))=(λ q:Nat=>((q:Int),(b.aV.take q).map λ x=>(⟨x.cT,jd (mo b ba ws x.cT.toNat)⟩:bU))) 0:=rfl
   rw [m]
   refine gD (λ q:Nat=>((q:Int),(b.aV.take q).map λ x=>(⟨x.cT,jd (mo b ba ws x.cT.toNat)⟩:bU))) b.aV.length (λ q f=>?_) (by simp only [cP,aS,List.take_length,nw])
   have B:=d.yk _ (dk f)
   obtain ⟨a,s⟩:∃ a:Nat,(nth b.aV q).cT=(a:Int):=⟨(nth b.aV q).cT.toNat,by omega⟩
   have e1:b.aV[q]=nth b.aV q:=by rw [← ep.1 (a6 f) |>.2]
   simp only [dec_lt f,a3,bD,a6 f,aD,s,oZ (show a≤b.Out.length by omega),zf d g (out:=b.Out.take a) (by simp; omega),I1,bN (i:=q) (by omega)]
   rw [eU (by simp; omega),aD,List.take_succ_eq_append_getElem f,List.map_append,e1]
   simp only [List.map_cons,List.map_nil,s,cm,mo]
 ·have m:((0:Int),b.ax)=(λ q:Nat=>((q:Int),hc b ba ws q)) 0:=rfl
  rw [m]
  refine gD (λ q:Nat=>((q:Int),hc b ba ws q)) (b.Out.length+1) (λ q f=>?_) (by simp only [Ct,aS])
  have hm:=rM d g (out:=b.Out.take q)
  have y:q≤b.Out.length:=by omega
  simp only [Cs y,a3,oZ y,aD,zf d g (out:=b.Out.take q) (by simp; omega),bN (i:=q) (by omega),yH,zB (ue d g q).1 (show -1000000≤gT b ba ws (b.Out.take q) by omega) (by omega)]
  rfl
theorem Lk{b:an}(m:Valid b){ba:Int}{ws:List Int}(g:hv b ba ws):e0 (oy b (hc b ba ws (b.Out.length+1)) (nw b ba ws)) ba ws=true:=by
 unfold e0
 rw [dn,List.all_eq_true,List.all_eq_true]
 constructor
 ·intro n d
  rw [List.mem_range] at d
  have:=(ue m g (b.Out.length+1)).2.2 n d
  rw [Le,zG]
  exact cr this
 ·intro x f
  simp only [oy,nw,List.mem_map] at f
  obtain ⟨y,s,rfl⟩:=f
  rw [zG]
  simp
theorem Cl{b:an}(_:Valid b){c:dq}(s:c.eJ.length=b.ao.length)(d:b.ad.ai≤c.ad)(f:c.ad≤b.ad.ak)(h:∀ i,i < b.ao.length→(nth b.ao i).Weight.ai≤nth c.eJ i∧nth c.eJ i≤(nth b.ao i).Weight.ak)(g:e0 b c.ad c.eJ=true):c∈bn b:=by
 unfold bn
 rw [List.mem_flatMap]
 refine ⟨c.ad,pZ.2 ⟨d,f⟩,?_⟩
 rw [List.mem_map]
 refine ⟨c.eJ,List.mem_filter.2 ⟨?_,g⟩,rfl⟩
 exact AO b _ 0 _ s λ k m=>by rw [Nat.zero_add]; exact h k m
end Go.Proofs.YtoaoffinglajbaaGreatDoor
