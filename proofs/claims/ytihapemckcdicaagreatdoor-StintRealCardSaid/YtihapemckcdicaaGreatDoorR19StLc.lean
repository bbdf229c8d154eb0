/- Plain laws of chapter 5, with what is sorted. Conditions: none. -/
import Derived.Test.YtihapemckcdicaaGreatDoorQYStC
import Derived.Test.YtihapemckcdicaaGreatDoorR19StL
import Derived.Sort.AssemblyPlain
namespace Go.Proofs.YtihapemckcdicaaGreatDoor
open Go.Lg Go.Proofs
set_option maxRecDepth 10000
set_option maxRecDepth 1000000 in
theorem J9{b:aj}(f:Valid b){r:List (List Int)}(hl:r.length≤b.av.length)(d:∀ i,i < r.length→(nth r i).length≤1000):oH b r=some ((List.range r.length).all (pq b r)):=by
 have hd:=f.d4
 unfold oH
 rw [oF (n:=r.length) (pq b r) false (λ i hi=>?_) (by simp only [dh,a2])]
 ·cases (List.range r.length).all (pq b r) <;> rfl
 ·simp only [dec_lt hi,bc]
  rw [oF (n:=i) (λ j=>fq b j i || !meet (nth r i) (nth r j)) false (λ j g=>?_) (by simp only [dh,a2])]
  ·unfold pq
   cases (List.range i).all λ j=>fq b j i || !meet (nth r i) (nth r j) with
   | true=>simp only [if_true,aG,Sum.elim_inl,bY (i:=i) (by omega)]
   | false=>rfl
  ·simp only [dec_lt g,bc]
   rw [wC (l:=nth r i) (λ k=>!(nth r j).contains k || fq b j i) false (λ q c=>?_) (by simp only [bM,a5 hi,aG,dh,a2])]
   ·have e:((nth r i).all λ k=>!(nth r j).contains k || fq b j i)=(fq b j i || !meet (nth r i) (nth r j)):=by
     cases o:fq b j i with
     | true=>simp
     | false =>
      rw [Bool.eq_iff_iff,Bool.false_or,Bool.not_eq_true',B8,List.all_eq_true]
      constructor
      ·intro h k a m
       have:=h k a
       simp [m] at this
      ·intro h k a
       have:=h k a
       simpa using this
    rw [e]
    cases (fq b j i || !meet (nth r i) (nth r j)) with
    | true=>simp only [if_true,aG,Sum.elim_inl,bY (i:=j) (by omega)]
    | false=>rfl
   ·simp only [bM,a5 hi,a5 (show j < r.length by omega),aG,dec_lt c,bc,a5 c,BS (d j (by omega)),bY (i:=q) (by have:=d i hi; omega),KD f (show i < b.av.length by omega) (show j < b.av.length by omega),Ee b i j]
    cases (nth r j).contains (nth (nth r i) q) with
    | false=>rfl
    | true=>cases fq b j i <;> rfl
theorem Qp(c:List Int):meet [] c=false:=rfl
open Go.Sort
theorem wE{S O:Type}{body:S→Option (S ⊕ O)}(I:S→Prop)(c:S→Nat){Q:O→Prop}(h:∀ s,I s→(∃ s',body s=some (.inl s')∧I s'∧c s' < c s)∨∃ o,body s=some (.inr o)∧Q o):∀ s,I s→∃ o,a6 body s=some o∧Q o:=by
 have key:∀ n s,c s≤n→I s→∃ o,a6 body s=some o∧Q o:=by
  intro n
  induction n with
  | zero =>
   intro s f a
   rcases h s a with ⟨s',_,_,e⟩ | ⟨o,hb,b⟩
   ·omega
   ·exact ⟨o,fF hb,b⟩
  | succ n g =>
   intro s f a
   rcases h s a with ⟨s',hb,d,e⟩ | ⟨o,hb,b⟩
   ·obtain ⟨o,ho,b⟩:=g s' (by omega) d
    exact ⟨o,by rw [j1 hb,ho],b⟩
   ·exact ⟨o,fF hb,b⟩
 exact λ s a=>key _ s (b6 _) a
theorem ib{S O β:Type}{body:S→Option (S ⊕ O)}{f:O→Option β}{P:β→Prop}(I:S→Prop)(a:S→Nat)(Q:O→Prop){s:S}(c:I s)(d:∀ o,Q o→∃ b,f o=some b∧P b)(h:∀ s,I s→(∃ s',body s=some (.inl s')∧I s'∧a s' < a s)∨∃ o,body s=some (.inr o)∧Q o):∃ b,(a6 body s).bind f=some b∧P b:=by
 obtain ⟨o,ho,e⟩:=wE I a h s c
 rw [eN ho]
 exact d o e
theorem hH(x y:Int):dE x y=some (ltInt x y):=by
 unfold dE kS
 simp only [aG,bne_self_eq_false,a2]
 rfl
theorem fs(l:List Int)(i:Nat):l.toArray[i]! = nth l i:=by
 unfold nth
 simp only [List.getElem!_toArray,List.getElem!_eq_getElem?_getD,ha]
def eV(l:List Int)(i j:Nat):List Int:=(l.set i (nth l j)).set j (nth l i)
theorem gN(l:List Int)(i j:Nat):(eV l i j).toArray=swp l.toArray i j:=by
 unfold eV swp
 rw [fs,fs]
 simp
theorem gy(l:List Int)(i j:Nat):(eV l i j).length=l.length:=by simp [eV]
theorem gM{l:List Int}{i j:Nat}{x:Int}(h:j < l.length):(l.set i x)[j]? = some (nth (l.set i x) j):=a5 (by simpa using h)
theorem h9{i j:Nat}(h:i≤1000000000)(a:j≤i):i64 ((i:Int) - (j:Int))=((i - j:Nat):Int):=by rw [cH (by omega) (by omega)]; omega
theorem jW{i j:Nat}(h:i≤1000000000)(a:j≤1000000000):i64 ((i:Int)+(j:Int))=((i+j:Nat):Int):=by rw [cH (by omega) (by omega)]; omega
theorem Ay{i:Nat}(h:i≤1000000000):i64 (((i+1:Nat):Int) - 1)=(i:Int):=by rw [cH (by omega) (by omega)]; omega
theorem hp{i j:Nat}:decide ((i:Int) < (j:Int))=decide (i < j):=by simp
theorem r8{i j:Nat}:decide ((i:Int) > (j:Int))=decide (i > j):=by simp
theorem ov{i j:Nat}:decide ((i:Int)≤(j:Int))=decide (i≤j):=by simp
theorem qe{i j:Nat}:decide ((i:Int) ≥ (j:Int))=decide (i ≥ j):=by simp
abbrev e4(l:List Int):Prop:=l.length≤1000000
theorem BG{l:List Int}{a b:Nat}(hl:e4 l)(A:a≤b)(hb:b≤l.length):∃ l',mf l a b=some l'∧l'.toArray=insertionSort ltInt l.toArray a b:=by
 unfold mf insertionSort
 have k:=hl
 unfold e4 at k
 rw [bY (by omega)]
 refine ib (λ s=>∃ (m:List Int) (i:Nat),s=(m,(i:Int))∧m.length=l.length∧insOuter ltInt a b i m.toArray=insOuter ltInt a b (a+1) l.toArray) (λ s=>b - s.2.toNat)
  (λ o=>o.toArray=insOuter ltInt a b (a+1) l.toArray) ⟨l,a+1,rfl,rfl,rfl⟩ (λ o g=>⟨o,rfl,g⟩) ?_
 ·rintro _ ⟨m,i,rfl,hm,f⟩
  rw [insOuter] at f
  by_cases hi:i < b
  ·rw [if_pos hi] at f
   left
   obtain ⟨p,r,t,u⟩:=wE (S:=List Int × Int) (O:=List Int) (body:=λ (c:((List Int) × Int)) =>
    (((af (decide (c.2 > (a:Int)))
    ((idx c.1 c.2).bind λ w =>
    (idx c.1 (i64 (c.2 - 1))).bind λ x =>
    (dE w x).bind λ y =>
    some y)
    (some false)):Option Bool)).bind (λ (v:Bool) =>
    af v
    ((idx c.1 (i64 (c.2 - 1))).bind λ h =>
    (idx c.1 c.2).bind λ z =>
    (idx c.1 c.2).bind λ B =>
    (idx (c.1.set c.2.toNat h) (i64 (c.2 - 1))).bind λ C =>
    some (.inl ((c.1.set c.2.toNat h).set (i64 (c.2 - 1)).toNat z,i64 (c.2 - 1))))
    (some (.inr c.1)))) (λ s=>∃ (q:List Int) (j:Nat),s=(q,(j:Int))∧q.length=l.length∧j < q.length∧insInner ltInt a j q.toArray=insInner ltInt a i m.toArray) (λ s=>s.2.toNat)
    (Q:=λ o=>o.length=l.length∧o.toArray=insInner ltInt a i m.toArray) (by
     rintro _ ⟨q,j,rfl,g,n,d⟩
     cases j with
     | zero =>
      right
      refine ⟨q,?_,g,d⟩
      rw [show decide (((0:Nat):Int) > (a:Int))=false by simp]
      rfl
     | succ j =>
      rw [insInner] at d
      dsimp only
      rw [r8,Ay (by omega)]
      simp only [bM,a5 n,a5 (show j < q.length by omega),aG,hH,cp,gM (show j < q.length by omega)]
      rw [fs,fs] at d
      by_cases e:j+1 > a∧ltInt (nth q (j+1)) (nth q j)=true
      ·left
       rw [if_pos (by simp [e.1,e.2])] at d
       refine ⟨(eV q (j+1) j,(j:Int)),?_,⟨_,j,rfl,by rw [gy]; exact g,by rw [gy]; omega,by rw [gN]; exact d⟩,by simp only [cp]; omega⟩
       rw [de e.1,bc,aG,e.2]
       rfl
      ·right
       rw [if_neg (by simpa using e)] at d
       refine ⟨q,?_,g,d⟩
       by_cases h1:j+1 > a
       ·have h2:ltInt (nth q (j+1)) (nth q j)=false:=by simpa [h1] using e
        rw [de h1,bc,aG,h2]
        rfl
       ·rw [dV h1]
        rfl) (m,(i:Int)) ⟨m,i,rfl,hm,by omega,rfl⟩
   refine ⟨(p,((i+1:Nat):Int)),?_,⟨p,i+1,rfl,t,by rw [u]; exact f⟩,by simp only [cp]; omega⟩
   dsimp only
   rw [hp,de hi,bc,eN r,bY (by omega)]
  ·rw [if_neg hi] at f
   right
   refine ⟨m,?_,f⟩
   dsimp only
   rw [hp,dV hi,a2]
theorem LA{l:List Int}{a b:Nat}(hl:e4 l)(g:a < b)(hb:b≤l.length):∃ l',kQ l a b=some l'∧l'.toArray=reverseRange l.toArray a b:=by
 unfold kQ reverseRange
 have e:=hl
 unfold e4 at e
 rw [show i64 ((b:Int) - 1)=((b - 1:Nat):Int) from eW (by omega) (by omega)]
 refine ib (λ s=>∃ (m:List Int) (i j:Nat),s=(m,(i:Int),(j:Int))∧m.length=l.length∧j < b∧reverseLoop i j m.toArray=reverseLoop a (b - 1) l.toArray) (λ s=>s.2.2.toNat - s.2.1.toNat)
  (λ o=>o.toArray=reverseLoop a (b - 1) l.toArray) ⟨l,a,b - 1,rfl,rfl,by omega,rfl⟩ (λ o f=>⟨o,rfl,f⟩) ?_
 ·rintro _ ⟨m,i,j,rfl,hm,h,c⟩
  rw [reverseLoop] at c
  dsimp only
  rw [hp]
  by_cases d:i < j
  ·rw [if_pos d] at c
   left
   refine ⟨(eV m i j,((i+1:Nat):Int),((j - 1:Nat):Int)),?_,⟨_,i+1,j - 1,rfl,by rw [gy]; exact hm,by omega,by rw [gN]; exact c⟩,by simp only [cp]; omega⟩
   rw [de d,bc]
   simp only [bM,a5 (show i < m.length by omega),a5 (show j < m.length by omega),aG,cp,gM (show j < m.length by omega),bY (i:=i) (by omega),eW (i:=j) (by omega) (by omega)]
   rfl
  ·rw [if_neg d] at c
   right
   exact ⟨m,by rw [dV d]; rfl,c⟩
theorem BH{l:List Int}{r hi first:Nat}(hl:e4 l)(hb:first+hi≤l.length)(u:r≤1000000):∃ l',mo l r hi first=some l'∧l'.length=l.length∧l'.toArray=siftDown ltInt hi first r l.toArray:=by
 unfold mo
 have n:=hl
 unfold e4 at n
 refine ib (λ s=>∃ (m:List Int) (q:Nat),s=(m,(q:Int))∧m.length=l.length∧q≤1000000∧siftDown ltInt hi first q m.toArray=siftDown ltInt hi first r l.toArray) (λ s=>hi - s.2.toNat)
  (λ o=>∃ m:List Int,(o = .inl m∨o = .inr m)∧m.length=l.length∧m.toArray=siftDown ltInt hi first r l.toArray) ⟨l,r,rfl,rfl,u,rfl⟩ (λ o t=>?_) ?_
 ·obtain ⟨m,hm,h,g⟩:=t
  rcases hm with rfl | rfl
  ·exact ⟨m,rfl,h,g⟩
  ·exact ⟨m,rfl,h,g⟩
 ·rintro _ ⟨m,q,rfl,hm,y,a⟩
  rw [siftDown] at a
  dsimp only
  have e1:i64 (i64 (2 * (q:Int))+1)=((2 * q+1:Nat):Int):=by rw [cH (z:=2 * (q:Int)) (by omega) (by omega),cH (by omega) (by omega)]; omega
  have i:i64 (((2 * q+1:Nat):Int)+1)=((2 * q+2:Nat):Int):=by rw [cH (by omega) (by omega)]; omega
  rw [e1,i,qe,hp]
  by_cases h1:2 * q+1 ≥ hi
  ·rw [dif_pos h1] at a
   right
   exact ⟨.inl m,by rw [de h1]; rfl,m,.inl rfl,hm,a⟩
  ·rw [dif_neg h1] at a
   rw [dV h1,a2]
   have f1:i64 ((first:Int)+((2 * q+1:Nat):Int))=((first+(2 * q+1):Nat):Int):=jW (by omega) (by omega)
   have f2:i64 (((first+(2 * q+1):Nat):Int)+1)=((first+(2 * q+1)+1:Nat):Int):=bY (by omega)
   have f3:i64 ((first:Int)+(q:Int))=((first+q:Nat):Int):=jW (by omega) (by omega)
   have f4:i64 ((first:Int)+((2 * q+2:Nat):Int))=((first+(2 * q+2):Nat):Int):=jW (by omega) (by omega)
   rw [f1,f2,f3]
   simp only [fs] at a
   have f:m[first+q]? = some (nth m (first+q)):=a5 (by omega)
   have d:m[first+(2 * q+1)]? = some (nth m (first+(2 * q+1))):=a5 (by omega)
   by_cases b:(decide (2 * q+1+1 < hi) && ltInt (nth m (first+(2 * q+1))) (nth m (first+(2 * q+1)+1)))=true
   ·rw [if_pos b] at a
    simp only [cM,decide_eq_true_eq] at b
    have e:m[first+(2 * q+1)+1]? = some (nth m (first+(2 * q+1)+1)):=a5 (by omega)
    have j:m[first+(2 * q+2)]? = some (nth m (first+(2 * q+2))):=a5 (by omega)
    rw [de (show 2 * q+2 < hi by omega),bc]
    simp only [bM,d,e,aG,hH,b.2,bc,f4,f,j]
    cases c:ltInt (nth m (first+q)) (nth m (first+(2 * q+2))) with
    | false =>
     rw [c] at a
     right
     exact ⟨.inr m,rfl,m,.inr rfl,hm,by simpa using a⟩
    | true =>
     rw [c] at a
     simp only [Bool.not_true,fi,if_false] at a
     rw [dif_pos (by omega)] at a
     left
     refine ⟨(eV m (first+q) (first+(2 * q+2)),((2 * q+2:Nat):Int)),?_,⟨_,2 * q+2,rfl,by rw [gy]; exact hm,by omega,by rw [gN]; exact a⟩,by simp only [cp]; omega⟩
     simp only [Bool.not_true,a2,cp,gM (show first+(2 * q+2) < m.length by omega),aG]
     rfl
   ·rw [if_neg b] at a
    have p:(af (decide (2 * q+2 < hi)) ((idx m ((first+(2 * q+1):Nat):Int)).bind λ v=>(idx m ((first+(2 * q+1)+1:Nat):Int)).bind λ w=>(dE v w).bind λ x=>some x) (some false):Option Bool)=some false:=by
     by_cases h2:2 * q+2 < hi
     ·have e:m[first+(2 * q+1)+1]? = some (nth m (first+(2 * q+1)+1)):=a5 (by omega)
      rw [de h2,bc]
      simp only [bM,d,e,aG,hH]
      have k:2 * q+1+1 < hi:=h2
      simpa [k] using b
     ·rw [dV h2,a2]
    rw [p]
    simp only [bM,aG,a2,f1,f,d,hH]
    cases c:ltInt (nth m (first+q)) (nth m (first+(2 * q+1))) with
    | false =>
     rw [c] at a
     right
     exact ⟨.inr m,rfl,m,.inr rfl,hm,by simpa using a⟩
    | true =>
     rw [c] at a
     simp only [Bool.not_true,fi,if_false] at a
     left
     refine ⟨(eV m (first+q) (first+(2 * q+1)),((2 * q+1:Nat):Int)),?_,⟨_,2 * q+1,rfl,by rw [gy]; exact hm,by omega,by rw [gN]; exact a⟩,by simp only [cp]; omega⟩
     simp only [Bool.not_true,a2,cp,gM (show first+(2 * q+1) < m.length by omega),aG]
     rfl
theorem Lu{l:List Int}{a b:Nat}(hl:e4 l)(x:a < b)(hb:b≤l.length):∃ l',mg l a b=some l'∧l'.toArray=heapSort ltInt l.toArray a b:=by
 unfold mg heapSort
 have u:=hl
 unfold e4 at u
 have i:i64 ((b:Int) - (a:Int))=((b - a:Nat):Int):=h9 (by omega) (by omega)
 have e1:i64 (((b - a:Nat):Int) - 1)=((b - a - 1:Nat):Int):=eW (by omega) (by omega)
 have j:gv ((b - a - 1:Nat):Int) 2=some (((b - a - 1) / 2:Nat):Int):=by
  unfold gv
  rw [if_neg (by omega),show (2:Int)=((2:Nat):Int) from rfl,← Int.ofNat_tdiv,cH (by omega) (by omega)]
 rw [i,e1,j,aG]
 generalize y:b - a=n
 have z:0 < n:=by omega
 refine ib (λ s=>∃ (m:List Int) (k:Nat),s=(m,(k:Int) - 1)∧m.length=l.length∧k≤1000000∧heapBuild ltInt n a k m.toArray=heapBuild ltInt n a ((n - 1) / 2+1) l.toArray) (λ s=>(s.2+1).toNat)
  (λ o=>o.length=l.length∧o.toArray=heapBuild ltInt n a ((n - 1) / 2+1) l.toArray) ⟨l,(n - 1) / 2+1,by simp,rfl,by omega,rfl⟩ (λ m d=>?_) ?_
 ·obtain ⟨hm,w⟩:=d
  have p:(((n - 1:Nat):Int))=(n:Int) - 1:=by omega
  rw [p,← w]
  refine ib (λ s=>∃ (q:List Int) (k:Nat),s=(q,(k:Int) - 1)∧q.length=l.length∧k≤n∧heapPop ltInt a k q.toArray=heapPop ltInt a n m.toArray) (λ s=>(s.2+1).toNat)
   (λ o=>o.toArray=heapPop ltInt a n m.toArray) ⟨m,n,rfl,hm,by omega,rfl⟩ (λ o d=>⟨o,rfl,d⟩) ?_
  rintro _ ⟨q,k,rfl,d,v,c⟩
  dsimp only
  cases k with
  | zero =>
   right
   exact ⟨q,by rw [show decide (((0:Nat):Int) - 1 ≥ 0)=false by simp]; rfl,c⟩
  | succ k =>
   left
   have e:((k+1:Nat):Int) - 1=(k:Int):=by omega
   have f1:i64 ((a:Int)+(k:Int))=((a+k:Nat):Int):=jW (by omega) (by omega)
   rw [heapPop,← gN] at c
   obtain ⟨t,f,h,g⟩:=BH (l:=eV q a (a+k)) (r:=0) (hi:=k) (first:=a) (by unfold e4; rw [gy]; omega) (by rw [gy]; omega) (by omega)
   rw [gy] at h
   rw [← g] at c
   refine ⟨(t,(k:Int) - 1),?_,⟨t,k,rfl,by omega,by omega,c⟩,by simp only []; omega⟩
   rw [e,show decide ((k:Int) ≥ 0)=true by simp,bc]
   simp only [f1,bM,a5 (show a < q.length by omega),a5 (show a+k < q.length by omega),aG,cp,gM (show a+k < q.length by omega)]
   rw [show ((q.set a (nth q (a+k))).set (a+k) (nth q a))=eV q a (a+k) from rfl,show (0:Int)=((0:Nat):Int) from rfl,f,aG,cH (by omega) (by omega)]
 ·rintro _ ⟨m,k,rfl,hm,v,c⟩
  dsimp only
  cases k with
  | zero =>
   right
   exact ⟨m,by rw [show decide (((0:Nat):Int) - 1 ≥ 0)=false by simp]; rfl,hm,c⟩
  | succ k =>
   left
   have e:((k+1:Nat):Int) - 1=(k:Int):=by omega
   rw [heapBuild] at c
   obtain ⟨t,f,h,g⟩:=BH (l:=m) (r:=k) (hi:=n) (first:=a) (by unfold e4; omega) (by omega) (by omega)
   rw [← g] at c
   refine ⟨(t,(k:Int) - 1),?_,⟨t,k,rfl,by omega,by omega,c⟩,by simp only []; omega⟩
   rw [e,show decide ((k:Int) ≥ 0)=true by simp,bc,f,aG,cH (by omega) (by omega)]
theorem CP{body:Int→Option (Int ⊕ Int)}{d:Array Int}{p:Int→Bool}{J:Nat}(h:∀ k:Nat,body (k:Int)=if (decide (k≤J) && p d[k]!)=true then some (.inl ((k+1:Nat):Int)) else some (.inr (k:Int)))(i:Nat):a6 body (i:Int)=some ((scanUp p d J i:Nat):Int):=by
 have key:∀ n i:Nat,J+1 - i≤n→a6 body (i:Int)=some ((scanUp p d J i:Nat):Int):=by
  intro n
  induction n with
  | zero =>
   intro i b
   have a:¬ (decide (i≤J) && p d[i]!)=true:=by simp; omega
   rw [scanUp,if_neg a]
   exact fF (by rw [h,if_neg a])
  | succ n c =>
   intro i b
   rw [scanUp]
   by_cases a:(decide (i≤J) && p d[i]!)=true
   ·rw [if_pos a]
    have hi:i≤J:=by simp at a; exact a.1
    rw [j1 (s':=((i+1:Nat):Int)) (by rw [h,if_pos a])]
    exact c (i+1) (by omega)
   ·rw [if_neg a]
    exact fF (by rw [h,if_neg a])
 exact key _ i (b6 _)
theorem xz{body:Int→Option (Int ⊕ Int)}{d:Array Int}{p:Int→Bool}{i:Nat}{J:Nat}(hi:0 < i)(h:∀ k:Nat,k≤J→body (k:Int)=if (decide (i≤k) && p d[k]!)=true then some (.inl ((k:Int) - 1)) else some (.inr (k:Int))):∀ j:Nat,j≤J→a6 body (j:Int)=some ((scanDown p d i j:Nat):Int)
 | 0,b=>by
  rw [scanDown]
  refine fF ?_
  rw [h 0 b,if_neg (by simp; omega)]
 | j+1,b=>by
  rw [scanDown]
  by_cases a:(decide (i≤j+1) && p d[j+1]!)=true
  ·rw [if_pos a,j1 (s':=(j:Int)) (by rw [h _ b,if_pos a]; congr 2; omega)]
   exact xz hi h j (by omega)
  ·rw [if_neg a]
   refine fF ?_
   rw [h _ b,if_neg a]
theorem xy{p:Int→Bool}{d:Array Int}{i j:Nat}(h:i≤j+1):i≤scanUp p d j i∧scanUp p d j i≤j+1:=by
 obtain ⟨h1,h2,_⟩:=scanUp_spec p d j _ i rfl
 exact ⟨h1,h2 h⟩
theorem vx(p:Int→Bool)(d:Array Int)(i j:Nat):scanDown p d i j≤j:=(scanDown_spec p d i j).1
theorem xA{p q:Int→Bool}(b:∀ x,q x=!p x){d:Array Int}{i j:Nat}(hi:0 < i)(h:¬ scanUp p d j i > scanDown q d (scanUp p d j i) j):scanUp p d j i < scanDown q d (scanUp p d j i) j:=by
 obtain ⟨f,_,_,c⟩:=scanUp_spec p d j _ i rfl
 obtain ⟨d1,_,_,d4⟩:=scanDown_spec q d (scanUp p d j i) j
 generalize scanUp p d j i=i2 at *
 generalize scanDown q d i2 j=a at *
 rcases Nat.lt_or_ge i2 a with h1 | h1
 ·exact h1
 ·have e:i2=a:=by omega
  subst e
  have h2:=c (by omega)
  have h3:=d4 (by omega) (by omega)
  rw [b,h2] at h3
  cases h3
theorem LH{l:List Int}{a b p:Nat}(hl:e4 l)(L:a≤p)(O:p < b)(hb:b≤l.length):∃ l',mm l a b p=some (l',(((partition ltInt l.toArray a b p).1:Nat):Int),(partition ltInt l.toArray a b p).2.1)∧l'.toArray=(partition ltInt l.toArray a b p).2.2:=by
 unfold mm partition
 have C:=hl
 unfold e4 at C
 simp only [bM,a5 (show p < l.length by omega),a5 (show a < l.length by omega),aG,cp,gM (show p < l.length by omega)]
 rw [show ((l.set a (nth l p)).set p (nth l a))=eV l a p from rfl]
 generalize w:eV l a p=D
 have r:D.length=l.length:=by rw [← w,gy]
 rw [← gN,w]
 have E:D[a]? = some (nth D a):=a5 (by omega)
 have B:i64 ((b:Int) - 1)=((b - 1:Nat):Int):=eW (by omega) (by omega)
 rw [B,bY (i:=a) (by omega)]
 have up:∀ (m:List Int) (J i:Nat),m.length=l.length→J < b→a6 (λ (s:Int) =>
   af (decide (s≤(J:Int)))
   ((idx m s).bind λ x=>(m[a]?).bind λ y=>(dE x y).bind λ c=>af c (some (.inl (i64 (s+1)))) (some (.inr s)))
   (some (.inr s)):Int→Option (Int ⊕ Int)) (i:Int)=some ((scanUp (λ x=>ltInt x m.toArray[a]!) m.toArray J i:Nat):Int):=λ m J i hm hJ=>CP (λ k=>by
  rw [ov,fs,fs]
  by_cases n:k≤J
  ·simp only [de n,bc,bM,a5 (show k < m.length by omega),a5 (show a < m.length by omega),aG,hH,Bool.true_and,bY (i:=k) (by omega)]
   cases ltInt (nth m k) (nth m a) <;> rfl
  ·simp [n]) i
 have v:∀ (m:List Int) (i j:Nat),m.length=l.length→0 < i→j < b→a6 (λ (s:Int) =>
   af (decide ((i:Int)≤s))
   ((idx m s).bind λ x=>(m[a]?).bind λ y=>(dE x y).bind λ c=>af (!c) (some (.inl (i64 (s - 1)))) (some (.inr s)))
   (some (.inr s)):Int→Option (Int ⊕ Int)) (j:Int)=some ((scanDown (λ x=>!ltInt x m.toArray[a]!) m.toArray i j:Nat):Int):=λ m i j hm hi u=>xz (J:=j) hi (λ k M=>by
  rw [ov,fs,fs]
  by_cases n:i≤k
  ·simp only [de n,bc,bM,a5 (show k < m.length by omega),a5 (show a < m.length by omega),aG,hH,Bool.true_and,cH (z:=(k:Int) - 1) (by omega) (by omega)]
   cases ltInt (nth m k) (nth m a) <;> rfl
  ·simp [n]) j (b6 _)
 rw [eN (up D (b - 1) (a+1) r (by omega))]
 have g:=xA (p:=λ x=>ltInt x D.toArray[a]!) (q:=λ x=>!ltInt x D.toArray[a]!) (λ _=>rfl) (d:=D.toArray) (i:=a+1) (j:=b - 1) (by omega)
 have hu:=xy (p:=λ x=>ltInt x D.toArray[a]!) (d:=D.toArray) (i:=a+1) (j:=b - 1) (by omega)
 generalize scanUp (λ x=>ltInt x D.toArray[a]!) D.toArray (b - 1) (a+1)=i at hu g
 rw [eN (v D i (b - 1) r (by omega) (by omega))]
 have hd:=vx (λ x=>!ltInt x D.toArray[a]!) D.toArray i (b - 1)
 have t:=(scanDown_spec (λ x=>!ltInt x D.toArray[a]!) D.toArray i (b - 1)).2.1 (by omega)
 generalize scanDown (λ x=>!ltInt x D.toArray[a]!) D.toArray i (b - 1)=j at hd t g
 rw [r8]
 have A:D[j]? = some (nth D j):=a5 (by omega)
 by_cases f:i > j
 ·simp only [f,decide_true,bc,if_true,bM,E,A,aG,cp,gM (show a < D.length by omega)]
  exact ⟨eV D j a,rfl,gN _ _ _⟩
 ·have F:D[i]? = some (nth D i):=a5 (by omega)
  have g:=g f
  simp only [f,decide_false,a2,if_false,bM,A,F,aG,cp,gM (show j < D.length by omega),bY (i:=i) (by omega),eW (i:=j) (by omega) (by omega)]
  rw [show ((D.set i (nth D j)).set j (nth D i))=eV D i j from rfl,← gN]
  generalize e:partLoop ltInt a (i+1) (j - 1) (eV D i j).toArray=T
  suffices I:∃ z:List Int × Int × Bool,_=some z∧(z.2=(((T.1:Nat):Int),false)∧z.1.toArray=swp T.2 T.1 a) by
   obtain ⟨z,K,h1,h2⟩:=I
   exact ⟨z.1,by rw [← h1]; exact K,h2⟩
  refine ib (λ s=>∃ (m:List Int) (i j:Nat),s=(m,(i:Int),(j:Int))∧m.length=l.length∧a < i∧i≤j+1∧j < b∧partLoop ltInt a i j m.toArray=T) (λ s=>s.2.2.toNat+1 - s.2.1.toNat)
   (λ o=>∃ m:List Int,o=(m,((T.1:Nat):Int))∧m.length=l.length∧m.toArray=T.2∧T.1 < l.length) ⟨_,i+1,j - 1,rfl,by rw [gy]; exact r,by omega,by omega,by omega,e⟩ (λ o ho=>?_) ?_
  ·obtain ⟨m,rfl,hm,H,N⟩:=ho
   simp only [bM,a5 (show a < m.length by omega),a5 (show T.1 < m.length by omega),aG,cp,gM (show a < m.length by omega)]
   exact ⟨(eV m T.1 a,_),rfl,rfl,by rw [gN,H]⟩
  ·rintro _ ⟨m,i,j,rfl,hm,hi,G,u,e⟩
   rw [partLoop_eq] at e
   dsimp only
   rw [eN (up m j i hm u)]
   have g:=xA (p:=λ x=>ltInt x m.toArray[a]!) (q:=λ x=>!ltInt x m.toArray[a]!) (λ _=>rfl) (d:=m.toArray) (i:=i) (j:=j) (by omega)
   have hu:=xy (p:=λ x=>ltInt x m.toArray[a]!) (d:=m.toArray) (i:=i) (j:=j) G
   generalize scanUp (λ x=>ltInt x m.toArray[a]!) m.toArray j i=i2 at hu e g
   rw [eN (v m i2 j hm (by omega) u)]
   have hd:=vx (λ x=>!ltInt x m.toArray[a]!) m.toArray i2 j
   have t:=(scanDown_spec (λ x=>!ltInt x m.toArray[a]!) m.toArray i2 j).2.1 (by omega)
   generalize scanDown (λ x=>!ltInt x m.toArray[a]!) m.toArray i2 j=h at hd t e g
   rw [r8]
   by_cases f:i2 > h
   ·rw [if_pos f] at e
    right
    rw [de f]
    subst e
    exact ⟨(m,(h:Int)),rfl,m,rfl,hm,rfl,by show h < _; omega⟩
   ·rw [if_neg f,← gN] at e
    have g:=g f
    left
    rw [dV f,a2]
    refine ⟨(eV m i2 h,((i2+1:Nat):Int),((h - 1:Nat):Int)),?_,⟨_,i2+1,h - 1,rfl,by rw [gy]; exact hm,by omega,by omega,by omega,e⟩,by simp only [cp]; omega⟩
    simp only [bM,a5 (show i2 < m.length by omega),a5 (show h < m.length by omega),aG,cp,gM (show h < m.length by omega),bY (i:=i2) (by omega),eW (i:=h) (by omega) (by omega)]
    rfl
theorem LF{l:List Int}{a b p:Nat}(hl:e4 l)(H:a≤p)(K:p < b)(hb:b≤l.length):∃ l',ml l a b p=some (l',(((partitionEqual ltInt l.toArray a b p).1:Nat):Int))∧l'.toArray=(partitionEqual ltInt l.toArray a b p).2:=by
 unfold ml partitionEqual
 have w:=hl
 unfold e4 at w
 simp only [bM,a5 (show p < l.length by omega),a5 (show a < l.length by omega),aG,cp,gM (show p < l.length by omega)]
 rw [show ((l.set a (nth l p)).set p (nth l a))=eV l a p from rfl]
 generalize t:eV l a p=D
 have A:D.length=l.length:=by rw [← t,gy]
 rw [← gN,t]
 have v:i64 ((b:Int) - 1)=((b - 1:Nat):Int):=eW (by omega) (by omega)
 rw [v,bY (i:=a) (by omega)]
 have up:∀ (m:List Int) (J i:Nat),m.length=l.length→J < b→a6 (λ (s:Int) =>
   af (decide (s≤(J:Int)))
   ((m[a]?).bind λ y=>(idx m s).bind λ x=>(dE y x).bind λ c=>af (!c) (some (.inl (i64 (s+1)))) (some (.inr s)))
   (some (.inr s)):Int→Option (Int ⊕ Int)) (i:Int)=some ((scanUp (λ x=>!ltInt m.toArray[a]! x) m.toArray J i:Nat):Int):=λ m J i hm hJ=>CP (λ k=>by
  rw [ov,fs,fs]
  by_cases h:k≤J
  ·simp only [de h,bc,bM,a5 (show k < m.length by omega),a5 (show a < m.length by omega),aG,hH,Bool.true_and,bY (i:=k) (by omega)]
   cases ltInt (nth m a) (nth m k) <;> rfl
  ·simp [h]) i
 have u:∀ (m:List Int) (i j:Nat),m.length=l.length→0 < i→j < b→a6 (λ (s:Int) =>
   af (decide ((i:Int)≤s))
   ((m[a]?).bind λ y=>(idx m s).bind λ x=>(dE y x).bind λ c=>af c (some (.inl (i64 (s - 1)))) (some (.inr s)))
   (some (.inr s)):Int→Option (Int ⊕ Int)) (j:Int)=some ((scanDown (λ x=>ltInt m.toArray[a]! x) m.toArray i j:Nat):Int):=λ m i j hm hi r=>xz (J:=j) hi (λ k I=>by
  rw [ov,fs,fs]
  by_cases h:i≤k
  ·simp only [de h,bc,bM,a5 (show k < m.length by omega),a5 (show a < m.length by omega),aG,hH,Bool.true_and,cH (z:=(k:Int) - 1) (by omega) (by omega)]
   cases ltInt (nth m a) (nth m k) <;> rfl
  ·simp [h]) j (b6 _)
 generalize e:partEqLoop ltInt a (a+1) (b - 1) D.toArray=T
 suffices F:∃ z:List Int × Int,_=some z∧(z.2=((T.1:Nat):Int)∧z.1.toArray=T.2) by
  obtain ⟨z,G,h1,h2⟩:=F
  exact ⟨z.1,by rw [← h1]; exact G,h2⟩
 refine ib (λ s=>∃ (m:List Int) (i j:Nat),s=(m,(i:Int),(j:Int))∧m.length=l.length∧a < i∧i≤j+1∧j < b∧partEqLoop ltInt a i j m.toArray=T) (λ s=>s.2.2.toNat+1 - s.2.1.toNat)
  (λ o=>∃ m:List Int,o=(m,((T.1:Nat):Int))∧m.toArray=T.2) ⟨_,a+1,b - 1,rfl,A,by omega,by omega,by omega,e⟩ (λ o ho=>?_) ?_
 ·obtain ⟨m,rfl,E⟩:=ho
  exact ⟨_,rfl,rfl,E⟩
 ·rintro _ ⟨m,i,j,rfl,hm,hi,C,r,e⟩
  rw [partEqLoop_eq] at e
  dsimp only
  rw [eN (up m j i hm r)]
  have n:=xA (p:=λ x=>!ltInt m.toArray[a]! x) (q:=λ x=>ltInt m.toArray[a]! x) (λ _=>by simp) (d:=m.toArray) (i:=i) (j:=j) (by omega)
  have hu:=xy (p:=λ x=>!ltInt m.toArray[a]! x) (d:=m.toArray) (i:=i) (j:=j) C
  generalize scanUp (λ x=>!ltInt m.toArray[a]! x) m.toArray j i=i2 at hu e n
  rw [eN (u m i2 j hm (by omega) r)]
  have hd:=vx (λ x=>ltInt m.toArray[a]! x) m.toArray i2 j
  have B:=(scanDown_spec (λ x=>ltInt m.toArray[a]! x) m.toArray i2 j).2.1 (by omega)
  generalize scanDown (λ x=>ltInt m.toArray[a]! x) m.toArray i2 j=f at hd B e n
  rw [r8]
  by_cases g:i2 > f
  ·rw [if_pos g] at e
   right
   rw [de g]
   subst e
   exact ⟨(m,(i2:Int)),rfl,m,rfl,rfl⟩
  ·rw [if_neg g,← gN] at e
   have n:=n g
   left
   rw [dV g,a2]
   refine ⟨(eV m i2 f,((i2+1:Nat):Int),((f - 1:Nat):Int)),?_,⟨_,i2+1,f - 1,rfl,by rw [gy]; exact hm,by omega,by omega,by omega,e⟩,by simp only [cp]; omega⟩
   simp only [bM,a5 (show i2 < m.length by omega),a5 (show f < m.length by omega),aG,cp,gM (show f < m.length by omega),bY (i:=i2) (by omega),eW (i:=f) (by omega) (by omega)]
   rfl
theorem LC{l:List Int}{a b:Nat}(hl:e4 l)(aq:a < b)(hb:b≤l.length):∃ l',j4 l a b=some (l',(partialInsertionSort ltInt l.toArray a b).2)∧l'.toArray=(partialInsertionSort ltInt l.toArray a b).1:=by
 unfold j4 partialInsertionSort
 have X:=hl
 unfold e4 at X
 generalize e:partialIns ltInt a b 5 (a+1) l.toArray=T
 suffices p:∃ z:List Int × Bool,_=some z∧(z.2=T.2∧z.1.toArray=T.1) by
  obtain ⟨z,ah,h1,h2⟩:=p
  exact ⟨z.1,by rw [← h1]; exact ah,h2⟩
 rw [bY (i:=a) (by omega)]
 refine ib (λ s=>∃ (m:List Int) (i k:Nat),s=(m,(i:Int),((5 - k:Nat):Int))∧k≤5∧m.length=l.length∧a < i∧i≤b∧partialIns ltInt a b k i m.toArray=T) (λ s=>5 - s.2.2.toNat)
  (λ o=>∃ m:List Int,(o = .inl m∧T.2=false∨o = .inr (m,T.2))∧m.toArray=T.1) ⟨l,a+1,5,rfl,b6 _,rfl,by omega,by omega,e⟩ (λ o ho=>?_) ?_
 ·obtain ⟨m,ho,R⟩:=ho
  rcases ho with ⟨rfl,h2⟩ | rfl
  ·exact ⟨(m,false),rfl,h2.symm,R⟩
  ·exact ⟨(m,T.2),rfl,rfl,R⟩
 ·rintro _ ⟨m,i,k,rfl,ar,hm,ab,t,e⟩
  dsimp only
  cases k with
  | zero =>
   rw [partialIns] at e
   subst e
   right
   exact ⟨.inl m,rfl,m,.inl ⟨rfl,rfl⟩,rfl⟩
  | succ k =>
   rw [partialIns] at e
   rw [show decide (((5 - (k+1):Nat):Int) < 5)=true by simp; omega,bc]
   have ag:∀ i:Nat,a < i→i≤b→a6 (λ (g:Int) =>
     af (decide (g < (b:Int)))
     ((idx m g).bind λ J =>
     (idx m (i64 (g - 1))).bind λ K =>
     (dE J K).bind λ L =>
     af (!L)
     (some (.inl (i64 (g+1))))
     (some (.inr g)))
     (some (.inr g)):Int→Option (Int ⊕ Int)) (i:Int)=some ((scanSorted ltInt m.toArray b i:Nat):Int)∧i≤scanSorted ltInt m.toArray b i∧scanSorted ltInt m.toArray b i≤b:=by
    have key:∀ n i:Nat,b - i≤n→a < i→i≤b→a6 (λ (g:Int) =>
      af (decide (g < (b:Int)))
      ((idx m g).bind λ J =>
      (idx m (i64 (g - 1))).bind λ K =>
      (dE J K).bind λ L =>
      af (!L)
      (some (.inl (i64 (g+1))))
      (some (.inr g)))
      (some (.inr g)):Int→Option (Int ⊕ Int)) (i:Int)=some ((scanSorted ltInt m.toArray b i:Nat):Int)∧i≤scanSorted ltInt m.toArray b i∧scanSorted ltInt m.toArray b i≤b:=by
     intro n
     induction n with
     | zero =>
      intro i ae hi t
      have:¬ i < b:=by omega
      rw [scanSorted,if_neg (by simp [this])]
      exact ⟨fF (by rw [hp,dV this,a2]),b6 _,t⟩
     | succ n ai =>
      intro i ae hi t
      rw [scanSorted,fs,fs]
      by_cases h1:i < b
      ·have x:m[i]? = some (nth m i):=a5 (by omega)
       have y:m[i - 1]? = some (nth m (i - 1)):=a5 (by omega)
       cases p:ltInt (nth m i) (nth m (i - 1)) with
       | true =>
        rw [if_neg (by simp)]
        refine ⟨fF ?_,b6 _,t⟩
        simp only [hp,de h1,bc,eW (i:=i) (by omega) (by omega),bM,x,y,aG,hH,p,Bool.not_true,a2]
       | false =>
        rw [if_pos (by simp [h1])]
        obtain ⟨C,U,E⟩:=ai (i+1) (by omega) (by omega) (by omega)
        refine ⟨?_,by omega,E⟩
        rw [j1 (s':=((i+1:Nat):Int)) (by simp only [hp,de h1,bc,eW (i:=i) (by omega) (by omega),bM,x,y,aG,hH,p,Bool.not_false,bY (i:=i) (by omega)])]
        exact C
      ·rw [if_neg (by simp [h1])]
       exact ⟨fF (by rw [hp,dV h1,a2]),b6 _,t⟩
    exact λ i hi t=>key _ i (b6 _) hi t
   obtain ⟨C,U,E⟩:=ag i ab t
   rw [eN C]
   generalize scanSorted ltInt m.toArray b i=i2 at U E e
   dsimp only at e ⊢
   rw [show (((i2:Nat):Int) == ((b:Nat):Int))=decide (i2=b) by rw [Bool.eq_iff_iff,beq_iff_eq,decide_eq_true_eq]; omega]
   by_cases h1:i2=b
   ·rw [if_pos h1] at e
    subst e
    right
    exact ⟨.inr (m,true),by rw [de h1]; rfl,m,.inr rfl,rfl⟩
   ·rw [if_neg h1] at e
    rw [dV h1,a2,h9 (i:=b) (j:=a) (by omega) (by omega),show decide (((b - a:Nat):Int) < 50)=decide (b - a < 50) from hp (j:=50)]
    by_cases h2:b - a < 50
    ·rw [if_pos h2] at e
     subst e
     right
     exact ⟨.inr (m,false),by rw [de h2]; rfl,m,.inr rfl,rfl⟩
    ·rw [if_neg h2] at e
     rw [dV h2,a2]
     left
     have x:m[i2]? = some (nth m i2):=a5 (by omega)
     have y:m[i2 - 1]? = some (nth m (i2 - 1)):=a5 (by omega)
     simp only [eW (i:=i2) (by omega) (by omega),bM,x,y,aG,cp,gM (show i2 - 1 < m.length by omega)]
     rw [show ((m.set i2 (nth m (i2 - 1))).set (i2 - 1) (nth m i2))=eV m i2 (i2 - 1) from rfl]
     rw [← gN] at e
     generalize aa:eV m i2 (i2 - 1)=S at e
     have N:S.length=l.length:=by rw [← aa,gy]; exact hm
     have ac:∃ D:List Int,((((af (decide (i64 ((i2:Int) - (a:Int)) ≥ 2))
       ((a6 (O:=(List Int)) (λ (d:((List Int) × Int)) =>
       af (decide (d.2 ≥ 1))
       ((idx d.1 d.2).bind λ ak =>
       (idx d.1 (i64 (d.2 - 1))).bind λ al =>
       (dE ak al).bind λ am =>
       af (!am)
       (some (.inr d.1))
       ((idx d.1 (i64 (d.2 - 1))).bind λ V =>
       (idx d.1 d.2).bind λ an =>
       (idx d.1 d.2).bind λ au =>
       (idx (d.1.set d.2.toNat V) (i64 (d.2 - 1))).bind λ av =>
       some (.inl ((d.1.set d.2.toNat V).set (i64 (d.2 - 1)).toNat an,i64 (d.2 - 1)))))
       (some (.inr d.1))) (S,((i2 - 1:Nat):Int))).bind (λ (aj:(List Int)) =>
       some aj))
       (some S)):Option (List Int)))=some D)∧D.length=l.length∧D.toArray=if i2 - a ≥ 2 then shiftDown ltInt (i2 - 1) S.toArray else S.toArray:=by
      rw [h9 (i:=i2) (j:=a) (by omega) (by omega),show decide (((i2 - a:Nat):Int) ≥ 2)=decide (i2 - a ≥ 2) from qe (j:=2)]
      by_cases h3:i2 - a ≥ 2
      ·rw [de h3,bc,if_pos h3]
       refine ib (λ s=>∃ (q:List Int) (j:Nat),s=(q,(j:Int))∧q.length=l.length∧j < l.length∧shiftDown ltInt j q.toArray=shiftDown ltInt (i2 - 1) S.toArray) (λ s=>s.2.toNat)
        (λ o=>o.length=l.length∧o.toArray=shiftDown ltInt (i2 - 1) S.toArray) ⟨S,i2 - 1,rfl,N,by omega,rfl⟩ (λ o ho=>⟨o,rfl,ho⟩) ?_
       rintro _ ⟨q,j,rfl,u,P,f⟩
       dsimp only
       cases j with
       | zero=>right; exact ⟨q,rfl,u,f⟩
       | succ j =>
        rw [shiftDown,fs,fs] at f
        rw [show decide (((j+1:Nat):Int) ≥ 1)=true by simp; omega,bc,Ay (by omega)]
        simp only [bM,a5 (show j+1 < q.length by omega),a5 (show j < q.length by omega),aG,hH,cp,gM (show j < q.length by omega)]
        cases p:ltInt (nth q (j+1)) (nth q j) with
        | false=>rw [p] at f; right; exact ⟨q,rfl,u,by simpa using f⟩
        | true =>
         rw [p] at f
         simp only [Bool.not_true,fi,if_false] at f
         left
         exact ⟨(eV q (j+1) j,(j:Int)),rfl,⟨_,j,rfl,by rw [gy]; exact u,by omega,by rw [gN]; exact f⟩,by simp only [cp]; omega⟩
      ·rw [dV h3,a2,if_neg h3]
       exact ⟨S,rfl,N,rfl⟩
     obtain ⟨D,Y,M,Z⟩:=ac
     rw [Y,aG]
     rw [← Z] at e
     have ad:∃ r:List Int,r.length=l.length∧r.toArray=(if b - i2 ≥ 2 then shiftUp ltInt b (i2+1) D.toArray else D.toArray)∧(b - i2 ≥ 2→a6 (O:=(List Int)) (λ (c:((List Int) × Int)) =>
       af (decide (c.2 < (b:Int)))
       ((idx c.1 c.2).bind λ F =>
       (idx c.1 (i64 (c.2 - 1))).bind λ G =>
       (dE F G).bind λ H =>
       af (!H)
       (some (.inr c.1))
       ((idx c.1 (i64 (c.2 - 1))).bind λ w =>
       (idx c.1 c.2).bind λ I =>
       (idx c.1 c.2).bind λ ao =>
       (idx (c.1.set c.2.toNat w) (i64 (c.2 - 1))).bind λ ap =>
       some (.inl ((c.1.set c.2.toNat w).set (i64 (c.2 - 1)).toNat I,i64 (c.2+1)))))
       (some (.inr c.1))) (D,((i2+1:Nat):Int))=some r):=by
      by_cases h3:b - i2 ≥ 2
      ·rw [if_pos h3]
       obtain ⟨r,A,B,v⟩:=wE (S:=List Int × Int) (O:=List Int) (body:=λ (c:((List Int) × Int)) =>
        af (decide (c.2 < (b:Int)))
        ((idx c.1 c.2).bind λ F =>
        (idx c.1 (i64 (c.2 - 1))).bind λ G =>
        (dE F G).bind λ H =>
        af (!H)
        (some (.inr c.1))
        ((idx c.1 (i64 (c.2 - 1))).bind λ w =>
        (idx c.1 c.2).bind λ I =>
        (idx c.1 c.2).bind λ ao =>
        (idx (c.1.set c.2.toNat w) (i64 (c.2 - 1))).bind λ ap =>
        some (.inl ((c.1.set c.2.toNat w).set (i64 (c.2 - 1)).toNat I,i64 (c.2+1)))))
        (some (.inr c.1))) (λ s=>∃ (q:List Int) (j:Nat),s=(q,(j:Int))∧q.length=l.length∧0 < j∧shiftUp ltInt b j q.toArray=shiftUp ltInt b (i2+1) D.toArray) (λ s=>b - s.2.toNat)
        (Q:=λ o=>o.length=l.length∧o.toArray=shiftUp ltInt b (i2+1) D.toArray) (by
         rintro _ ⟨q,j,rfl,u,P,f⟩
         rw [shiftUp] at f
         dsimp only
         rw [hp]
         by_cases h4:j < b
         ·rw [if_pos h4,fs,fs] at f
          rw [de h4,bc,eW (i:=j) (by omega) P]
          simp only [bM,a5 (show j < q.length by omega),a5 (show j - 1 < q.length by omega),aG,hH,cp,gM (show j - 1 < q.length by omega),bY (i:=j) (by omega)]
          cases p:ltInt (nth q j) (nth q (j - 1)) with
          | false=>rw [p] at f; right; exact ⟨q,rfl,u,by simpa using f⟩
          | true =>
           rw [p] at f
           simp only [Bool.not_true,fi,if_false] at f
           left
           exact ⟨(eV q j (j - 1),((j+1:Nat):Int)),rfl,⟨_,j+1,rfl,by rw [gy]; exact u,by omega,by rw [gN]; exact f⟩,by simp only [cp]; omega⟩
         ·rw [if_neg h4] at f
          right
          exact ⟨q,by rw [dV h4,a2],u,f⟩) (D,((i2+1:Nat):Int)) ⟨D,i2+1,rfl,M,by omega,rfl⟩
       exact ⟨r,B,v,λ _=>A⟩
      ·rw [if_neg h3]
       exact ⟨D,M,rfl,λ h=>absurd h h3⟩
     obtain ⟨r,B,v,A⟩:=ad
     rw [← v] at e
     refine ⟨(r,(i2:Int),((5 - k:Nat):Int)),?_,⟨r,i2,k,rfl,by omega,B,by omega,by omega,e⟩,by simp only [cp]; omega⟩
     have W:i64 (((5 - (k+1):Nat):Int)+1)=((5 - k:Nat):Int):=by rw [cH (by omega) (by omega)]; omega
     rw [h9 (i:=b) (j:=i2) (by omega) (by omega),show decide (((b - i2:Nat):Int) ≥ 2)=decide (b - i2 ≥ 2) from qe (j:=2),bY (i:=i2) (by omega),W]
     by_cases h3:b - i2 ≥ 2
     ·rw [de h3,bc,eN (A h3)]
     ·rw [dV h3,a2]
      rw [if_neg h3] at v
      rw [show r=D from by simpa using v]
theorem DK(z:Int):IntKind.wrap .u64 z=z.emod 18446744073709551616:=by
 simp [IntKind.wrap,IntKind.bits,IntKind.signed]
 rfl
theorem DL(z:Int):0≤IntKind.wrap .u64 z∧IntKind.wrap .u64 z < 18446744073709551616:=by
 rw [DK]
 exact ⟨Int.emod_nonneg _ (by omega),Int.emod_lt_of_pos _ (by omega)⟩
theorem DN{z:Int}(a:0≤z)(h1:z < 18446744073709551616):IntKind.wrap .u64 z=z:=by
 rw [DK]
 exact Int.emod_eq_of_lt a h1
theorem CV{a b:Int}(hb:0≤b):∃ z,jL .u64 a b=some z∧0≤z∧z < 18446744073709551616:=by
 unfold jL
 rw [if_neg (by omega)]
 exact ⟨_,rfl,DL _⟩
theorem OY{a b:Int}(hb:0≤b):∃ z,fa .u64 a b=some z:=by
 unfold fa
 rw [if_neg (by omega)]
 exact ⟨_,rfl⟩
theorem yb(a b:Int):∃ z,cO .xor .u64 a b=some z∧0≤z∧z < 18446744073709551616:=⟨_,rfl,DL _⟩
theorem LM(x:Int):∃ y,nE x=some (y,y)∧0≤y∧y < 18446744073709551616:=by
 unfold nE
 obtain ⟨a,i,_⟩:=CV (a:=x) (b:=13) (by omega)
 rw [i,aG]
 obtain ⟨c,j,_⟩:=yb x a
 rw [j,aG]
 obtain ⟨d,hd⟩:=OY (a:=c) (b:=7) (by omega)
 rw [hd,aG]
 obtain ⟨e,he,_⟩:=yb c d
 rw [he,aG]
 obtain ⟨f,k,_⟩:=CV (a:=e) (b:=17) (by omega)
 rw [k,aG]
 obtain ⟨g,l,h,h1⟩:=yb e f
 rw [l,aG]
 exact ⟨g,rfl,h,h1⟩
theorem Eb{a m:Int}(hm:0≤m)(b:m < 18446744073709551616):∃ z:Nat,cO .and .u64 a m=some (z:Int)∧(z:Int)≤m:=by
 unfold cO
 simp only
 have h1:(BitVec.ofInt IntKind.u64.bits a &&& BitVec.ofInt IntKind.u64.bits m).toNat≤(BitVec.ofInt IntKind.u64.bits m).toNat:=by
  rw [BitVec.toNat_and]
  exact Nat.and_le_right
 have h2:(BitVec.ofInt IntKind.u64.bits m).toNat=m.toNat:=by
  rw [BitVec.toNat_ofInt]
  have:((2 ^ IntKind.u64.bits:Nat):Int)=18446744073709551616:=by decide
  rw [this,Int.emod_eq_of_lt hm b]
 rw [h2] at h1
 generalize (BitVec.ofInt IntKind.u64.bits a &&& BitVec.ofInt IntKind.u64.bits m).toNat=z at h1
 exact ⟨z,by rw [DN (by omega) (by omega)],by omega⟩
def AU(n:Nat):Bool:=(match u3 (IntKind.wrap .u64 (n:Int)) with | some k=>decide (0≤k) && decide (k≤64) | none=>false) && (decide (n < 8) || match u7 (n:Int) with | some M=>decide ((n:Int) < M) && decide (M≤2 * (n:Int)) | none=>false)
set_option maxRecDepth 1000000 in
theorem JP:((List.range 1024).all AU)=true:=by decide +kernel
theorem AX{n:Nat}(h:n < 1024):(∃ k:Nat,me (IntKind.wrap .u64 (n:Int))=some (k:Int)∧k≤64)∧(8≤n→∃ M:Nat,nD (n:Int)=some (M:Int)∧n < M∧M≤2 * n):=by
 have:=JP
 rw [List.all_eq_true] at this
 have h1:=this n (List.mem_range.2 h)
 simp only [AU,cM,Bool.or_eq_true,decide_eq_true_eq] at h1
 obtain ⟨h1,h2⟩:=h1
 constructor
 ·cases a:u3 (IntKind.wrap .u64 (n:Int)) with
  | none=>rw [a] at h1; cases h1
  | some k =>
   rw [a] at h1
   simp only [cM,decide_eq_true_eq] at h1
   exact ⟨k.toNat,by rw [Int.toNat_of_nonneg h1.1]; exact I6 _ _ a,by omega⟩
 ·intro b
  rcases h2 with h2 | h2
  ·omega
  ·cases a:u7 (n:Int) with
   | none=>rw [a] at h2; cases h2
   | some M =>
    rw [a] at h2
    simp only [cM,decide_eq_true_eq] at h2
    exact ⟨M.toNat,by rw [Int.toNat_of_nonneg (by omega)]; exact Jk _ _ a,by omega,by omega⟩
theorem xq{n d:Nat}(h:n≤1000000000)(hd:0 < d):gv (n:Int) (d:Int)=some ((n / d:Nat):Int):=by
 unfold gv
 have:=Nat.div_le_self n d
 rw [if_neg (by omega),← Int.ofNat_tdiv]
 generalize n / d=q at this
 rw [cH (by omega) (by omega)]
abbrev fP(l:List Int):Prop:=l.length≤1000
theorem Lx{l:List Int}{a b:Nat}(hl:fP l)(B:a≤b)(hb:b≤l.length):∃ l',kP l a b=some l'∧PermIn a b l.toArray l'.toArray:=by
 unfold kP
 have h:=hl
 unfold fP at h
 rw [h9 (i:=b) (j:=a) (by omega) (by omega),show decide (((b - a:Nat):Int) ≥ 8)=decide (b - a ≥ 8) from qe (j:=8)]
 by_cases c:b - a ≥ 8
 case neg=>exact ⟨l,by rw [dV c,a2],permIn_refl _ _ _⟩
 rw [de c,bc]
 obtain ⟨M,k,x,A⟩:=(AX (n:=b - a) (by omega)).2 c
 have g:gv ((b - a:Nat):Int) 4=some (((b - a) / 4:Nat):Int):=xq (d:=4) (by omega) (by omega)
 rw [k,aG,g,aG]
 have e1:i64 ((((b - a) / 4:Nat):Int) * 2)=(((b - a) / 4 * 2:Nat):Int):=by rw [cH (by omega) (by omega)]; omega
 rw [e1,jW (i:=a) (j:=(b - a) / 4 * 2) (by omega) (by omega),eW (i:=a+(b - a) / 4 * 2) (by omega) (by omega)]
 refine ib (λ s=>∃ (m:List Int) (i:Nat) (r:Int),s=(m,(i:Int),r)∧a≤i∧m.length=l.length∧PermIn a b l.toArray m.toArray) (λ s=>b - s.2.1.toNat)
  (λ o=>PermIn a b l.toArray o.toArray) ⟨l,a+(b - a) / 4 * 2 - 1,_,rfl,by omega,rfl,permIn_refl _ _ _⟩ (λ o ho=>⟨o,rfl,ho⟩) ?_
 rintro _ ⟨m,i,r,rfl,p,hm,f⟩
 dsimp only
 rw [aG,e1,jW (i:=a) (j:=(b - a) / 4 * 2) (by omega) (by omega),bY (i:=a+(b - a) / 4 * 2) (by omega),DN (z:=(M:Int) - 1) (by omega) (by omega),ov]
 by_cases hi:i≤a+(b - a) / 4 * 2+1
 ·left
  rw [de hi,bc]
  obtain ⟨y,v,_⟩:=LM r
  rw [v,aG]
  obtain ⟨z,w,D⟩:=Eb (a:=y) (m:=(M:Int) - 1) (by omega) (by omega)
  rw [w,aG,cH (z:=(z:Int)) (by omega) (by omega),qe]
  have q:∃ t:Nat,t < b - a∧(((af (decide (z ≥ b - a)) (some (i64 ((z:Int) - ((b - a:Nat):Int)))) (some (z:Int))):Option Int))=some (t:Int):=by
   by_cases e:z ≥ b - a
   ·exact ⟨z - (b - a),by omega,by rw [de e,bc,h9 (by omega) e]⟩
   ·exact ⟨z,by omega,by rw [dV e,a2]⟩
  obtain ⟨t,C,u⟩:=q
  rw [u,aG,jW (i:=a) (j:=t) (by omega) (by omega)]
  refine ⟨(eV m i (a+t),((i+1:Nat):Int),y),?_,⟨_,i+1,y,rfl,by omega,by rw [gy]; exact hm,?_⟩,by simp only [cp]; omega⟩
  ·simp only [bM,a5 (show i < m.length by omega),a5 (show a+t < m.length by omega),aG,cp,gM (show a+t < m.length by omega),bY (i:=i) (by omega)]
   rfl
  ·rw [gN]
   exact permIn_trans _ _ _ a b f (swp_permIn _ a b i (a+t) p (by omega) (by omega) (by omega) (by simp; omega))
 ·right
  exact ⟨m,by rw [dV hi,a2],f⟩
theorem tj{l:List Int}{i j:Nat}(hi:i < l.length)(a:j < l.length)(s:Int):∃ s',iI l i j s=some (s',(i:Int),(j:Int))∨iI l i j s=some (s',(j:Int),(i:Int)):=by
 unfold iI
 simp only [bM,a5 hi,a5 a,aG,hH]
 cases ltInt (nth l j) (nth l i) with
 | true=>exact ⟨_,.inr rfl⟩
 | false=>exact ⟨_,.inl rfl⟩
theorem wX{l:List Int}{i j k:Nat}(hi:i < l.length)(b:j < l.length)(c:k < l.length)(s:Int):∃ (s':Int) (p:Nat),jy l i j k s=some (s',(p:Int))∧(p=i∨p=j∨p=k):=by
 unfold jy
 have key:∀ (x y:Nat) (s:Int),x < l.length→y < l.length→(x=i∨x=j)→(y=i∨y=j)→∃ (s':Int) (p:Nat),((iI l (y:Int) (k:Int) s).bind λ f=>(iI l (x:Int) f.2.1 f.1).bind λ g=>some (g.1,g.2.2))=some (s',(p:Int))∧(p=i∨p=j∨p=k):=by
  intro x y s d e h m
  obtain ⟨t,a | a⟩:=tj e c s
  ·rw [a,aG]
   obtain ⟨u,hu | hu⟩:=tj d e t
   ·exact ⟨u,y,by rw [hu]; rfl,by omega⟩
   ·exact ⟨u,x,by rw [hu]; rfl,by omega⟩
  ·rw [a,aG]
   obtain ⟨u,hu | hu⟩:=tj d c t
   ·exact ⟨u,k,by rw [hu]; rfl,by omega⟩
   ·exact ⟨u,x,by rw [hu]; rfl,by omega⟩
 obtain ⟨t,a | a⟩:=tj hi b s
 ·rw [a,aG]
  exact key i j t hi b (.inl rfl) (.inr rfl)
 ·rw [a,aG]
  exact key j i t b hi (.inr rfl) (.inl rfl)
theorem wT{l:List Int}{i:Nat}(a:0 < i)(hi:i+1 < l.length)(hl:fP l)(s:Int):∃ (s':Int) (p:Nat),iH l i s=some (s',(p:Int))∧i - 1≤p∧p≤i+1:=by
 unfold iH
 unfold fP at hl
 rw [eW (i:=i) (by omega) a,bY (i:=i) (by omega)]
 obtain ⟨t,p,b,c⟩:=wX (l:=l) (i:=i - 1) (j:=i) (k:=i+1) (by omega) (by omega) hi s
 exact ⟨t,p,by rw [b]; rfl,by omega,by omega⟩
theorem Lz{l:List Int}{a b:Nat}(hl:fP l)(C:a+12 < b)(hb:b≤l.length):∃ (p:Nat) (h:Int),mh l a b=some ((p:Int),h)∧a≤p∧p < b:=by
 unfold mh
 have v:=hl
 unfold fP at v
 have u:gv ((b - a:Nat):Int) 4=some (((b - a) / 4:Nat):Int):=xq (d:=4) (by omega) (by omega)
 rw [h9 (i:=b) (j:=a) (by omega) (by omega),u]
 simp only [aG]
 have e1:i64 ((((b - a) / 4:Nat):Int) * 1)=(((b - a) / 4:Nat):Int):=by rw [cH (by omega) (by omega)]; omega
 have s:i64 ((((b - a) / 4:Nat):Int) * 2)=(((b - a) / 4 * 2:Nat):Int):=by rw [cH (by omega) (by omega)]; omega
 have t:i64 ((((b - a) / 4:Nat):Int) * 3)=(((b - a) / 4 * 3:Nat):Int):=by rw [cH (by omega) (by omega)]; omega
 rw [e1,s,t,jW (i:=a) (by omega) (by omega),jW (i:=a) (by omega) (by omega),jW (i:=a) (by omega) (by omega),show decide (((b - a:Nat):Int) ≥ 8)=true by simp; omega,bc]
 have x:∃ (p:Nat) (h:Int),(((af (decide (((b - a:Nat):Int) ≥ 50))
   ((iH l ((a+(b - a) / 4:Nat):Int) 0).bind λ m =>
   (iH l ((a+(b - a) / 4 * 2:Nat):Int) m.1).bind λ n =>
   (iH l ((a+(b - a) / 4 * 3:Nat):Int) n.1).bind λ o =>
   (jy l m.2 n.2 o.2 o.1).bind λ q =>
   some (q.2,q.1))
   ((jy l ((a+(b - a) / 4:Nat):Int) ((a+(b - a) / 4 * 2:Nat):Int) ((a+(b - a) / 4 * 3:Nat):Int) 0).bind λ r =>
   some (r.2,r.1))):Option (Int × Int)))=some ((p:Int),h)∧a≤p∧p < b:=by
  by_cases B:b - a ≥ 50
  ·rw [show decide (((b - a:Nat):Int) ≥ 50)=true by simp; omega,bc]
   obtain ⟨s1,p1,y,r1,D⟩:=wT (l:=l) (i:=a+(b - a) / 4) (by omega) (by omega) hl 0
   rw [y,aG]
   obtain ⟨s2,p2,z,r2,E⟩:=wT (l:=l) (i:=a+(b - a) / 4 * 2) (by omega) (by omega) hl s1
   rw [z,aG]
   obtain ⟨s3,p3,A,r3,F⟩:=wT (l:=l) (i:=a+(b - a) / 4 * 3) (by omega) (by omega) hl s2
   rw [A,aG]
   obtain ⟨g,p4,f,r4⟩:=wX (l:=l) (i:=p1) (j:=p2) (k:=p3) (by omega) (by omega) (by omega) s3
   exact ⟨p4,g,by rw [f]; rfl,by omega,by omega⟩
  ·rw [show decide (((b - a:Nat):Int) ≥ 50)=false by simp; omega,a2]
   obtain ⟨g,p4,f,r4⟩:=wX (l:=l) (i:=a+(b - a) / 4) (j:=a+(b - a) / 4 * 2) (k:=a+(b - a) / 4 * 3) (by omega) (by omega) (by omega) 0
   exact ⟨p4,g,by rw [f]; rfl,by omega,by omega⟩
 obtain ⟨p,h,w,c,e⟩:=x
 rw [w,aG]
 cases h == 0 with
 | true=>exact ⟨p,1,rfl,c,e⟩
 | false =>
  cases h == 12 with
  | true=>exact ⟨p,2,rfl,c,e⟩
  | false=>exact ⟨p,0,rfl,c,e⟩
abbrev SI(a b:Nat)(d:Array Int):Prop:=SortedIn ltInt a b d
theorem NB:∀ (k:Nat) (l:List Int) (a b D:Nat),fP l→D≤100→a≤b→b≤l.length→b - a≤12 * 2 ^ k→Below ltInt a b l.toArray→∃ l',jx (k+1) l a b D=some l'∧PermIn a b l.toArray l'.toArray∧SI a b l'.toArray:=by
 intro k
 induction k with
 | zero =>
  intro l a b D hl ag J hb V H
  have hl':=hl
  unfold fP at hl'
  obtain ⟨t,f,n⟩:=BG (l:=l) (a:=a) (b:=b) (by unfold e4; omega) J hb
  obtain ⟨h1,h2⟩:=insertionSort_holds swo_ltInt l.toArray a b J (by simpa using hb)
  rw [← n] at h1 h2
  refine ⟨t,?_,h1,h2⟩
  rw [jx]
  rw [eN (o:=t) (fF ?_)]
  dsimp only
  rw [h9 (i:=b) (j:=a) (by omega) (by omega),show decide (((b - a:Nat):Int)≤12)=true by simp; omega,bc,f]
  rfl
 | succ k ar =>
  intro l a b D hl ag J hb V H
  have hl':=hl
  unfold fP at hl'
  rw [jx]
  refine ib (λ s=>∃ (m:List Int) (x y lm:Nat) (v wp:Bool),s=(m,(x:Int),(y:Int),(lm:Int),v,wp)∧m.length=l.length∧x≤y∧y≤l.length∧lm≤100∧y - x≤12 * 2 ^ (k+1)∧Below ltInt x y m.toArray∧∀ R,PermIn x y m.toArray R→SI x y R→PermIn a b l.toArray R∧SI a b R) (λ s=>s.2.2.1.toNat - s.2.1.toNat)
   (λ o=>PermIn a b l.toArray o.toArray∧SI a b o.toArray) ⟨l,a,b,D,true,true,rfl,rfl,J,hb,ag,V,H,λ R h1 h2=>⟨h1,h2⟩⟩ (λ o ho=>⟨o,rfl,ho⟩) ?_
  rintro _ ⟨m,x,y,lm,v,wp,rfl,hm,C,aq,aU,V,H,z⟩
  dsimp only
  have aF:m.toArray.size=l.length:=by simpa using hm
  rw [h9 (i:=y) (j:=x) (by omega) (by omega),show decide (((y - x:Nat):Int)≤12)=decide (y - x≤12) from ov (j:=12)]
  by_cases ac:y - x≤12
  ·right
   obtain ⟨t,f,n⟩:=BG (l:=m) (a:=x) (b:=y) (by unfold e4; omega) C (by omega)
   obtain ⟨h1,h2⟩:=insertionSort_holds swo_ltInt m.toArray x y C (by omega)
   rw [← n] at h1 h2
   exact ⟨t,by rw [de ac,bc,f]; rfl,z _ h1 h2⟩
  rw [dV ac,a2,show (((lm:Nat):Int) == 0)=decide (lm=0) by rw [Bool.eq_iff_iff,beq_iff_eq,decide_eq_true_eq]; omega]
  by_cases ah:lm=0
  ·right
   obtain ⟨t,f,n⟩:=Lu (l:=m) (a:=x) (b:=y) (by unfold e4; omega) (by omega) (by omega)
   obtain ⟨h1,h2⟩:=heapSort_holds swo_ltInt m.toArray x y C (by omega)
   rw [← n] at h1 h2
   exact ⟨t,by rw [de ah,bc,f]; rfl,z _ h1 h2⟩
  rw [dV ah,a2]
  have aI:∃ (m1:List Int) (q:Nat),(((af (!v)
    ((kP m (x:Int) (y:Int)).bind λ aN =>
    some (aN,i64 ((lm:Int) - 1)))
    (some (m,(lm:Int)))):Option ((List Int) × Int)))=some (m1,(q:Int))∧q≤lm∧PermIn x y m.toArray m1.toArray:=by
   cases v with
   | true=>exact ⟨m,lm,rfl,b6 _,permIn_refl _ _ _⟩
   | false =>
    obtain ⟨t,f,aM⟩:=Lx (l:=m) (a:=x) (b:=y) (by unfold fP; omega) C (by omega)
    refine ⟨t,lm - 1,?_,by omega,aM⟩
    rw [Bool.not_false,bc,f,aG,eW (i:=lm) (by omega) (by omega)]
  obtain ⟨m1,q,e1,aT,Q⟩:=aI
  rw [e1,aG]
  have aj:m1.toArray.size=l.length:=by rw [Q.1,aF]
  have aV:m1.length=l.length:=by simpa using aj
  have aA:=H.perm (by omega) Q
  obtain ⟨p,h,au,al,aH⟩:=Lz (l:=m1) (a:=x) (b:=y) (by unfold fP; omega) (by omega) (by omega)
  dsimp only
  rw [au,aG]
  have aJ:∃ (g:List Int) (p2:Nat) (h2:Int),(((af (h == 2)
    ((kQ m1 (x:Int) (y:Int)).bind λ aO =>
    some (aO,i64 ((i64 ((y:Int) - 1)) - (i64 ((p:Int) - (x:Int)))),1))
    (some (m1,(p:Int),h))):Option ((List Int) × Int × Int)))=some (g,(p2:Int),h2)∧x≤p2∧p2 < y∧PermIn x y m1.toArray g.toArray:=by
   cases h == 2 with
   | false=>exact ⟨m1,p,h,rfl,al,aH,permIn_refl _ _ _⟩
   | true =>
    obtain ⟨t,f,n⟩:=LA (l:=m1) (a:=x) (b:=y) (by unfold e4; omega) (by omega) (by omega)
    have am:=reverseRange_holds m1.toArray x y C (by omega)
    rw [← n] at am
    refine ⟨t,(y - 1) - (p - x),1,?_,by omega,by omega,am⟩
    rw [bc,f,aG,eW (i:=y) (by omega) (by omega),h9 (i:=p) (j:=x) (by omega) al,h9 (i:=y - 1) (j:=p - x) (by omega) (by omega)]
  obtain ⟨g,p2,h2,av,K,L,S⟩:=aJ
  rw [av,aG]
  have ak:g.toArray.size=l.length:=by rw [S.1,aj]
  have aW:g.length=l.length:=by simpa using ak
  have ad:=aA.perm (by omega) S
  have aB:=permIn_trans _ _ _ x y Q S
  dsimp only
  have aK:∃ c:Bool,((((af v (af wp (some (h2 == 1)) (some false)) (some false)):Option Bool))=some c):=by
   cases v with
   | false=>exact ⟨false,rfl⟩
   | true =>
    cases wp with
    | false=>exact ⟨false,rfl⟩
    | true=>exact ⟨_,rfl⟩
  obtain ⟨c,aw⟩:=aK
  rw [aw,aG]
  have Y:∃ e:List Int,PermIn x y g.toArray e.toArray∧((((af c
    ((j4 g (x:Int) (y:Int)).bind λ w =>
    af w.2
    (some (.inr w.1))
    (some (.inl w.1)))
    (some (.inl g))):Option ((List Int) ⊕ (List Int))))=some (.inr e)∧SI x y e.toArray∨(((af c
    ((j4 g (x:Int) (y:Int)).bind λ w =>
    af w.2
    (some (.inr w.1))
    (some (.inl w.1)))
    (some (.inl g))):Option ((List Int) ⊕ (List Int))))=some (.inl e)):=by
   cases c with
   | false=>exact ⟨g,permIn_refl _ _ _,.inr rfl⟩
   | true =>
    obtain ⟨t,f,n⟩:=LC (l:=g) (a:=x) (b:=y) (by unfold e4; omega) (by omega) (by omega)
    have W:=partialInsertionSort_holds swo_ltInt g.toArray x y (by omega) (by omega) ad
    rw [← n] at W
    refine ⟨t,W.1,?_⟩
    rw [bc,f,aG]
    cases aD:(partialInsertionSort ltInt g.toArray x y).2 with
    | true=>exact .inl ⟨rfl,W.2 aD⟩
    | false=>exact .inr rfl
  obtain ⟨e,T,Y⟩:=Y
  have I:=permIn_trans _ _ _ x y aB T
  have aE:e.toArray.size=l.length:=by rw [T.1,ak]
  have aX:e.length=l.length:=by simpa using aE
  have ae:=ad.perm (by omega) T
  rcases Y with ⟨M,aC⟩ | M
  ·right
   rw [M]
   exact ⟨e,rfl,z _ I aC⟩
  rw [M,aG,Sum.elim_inl]
  have aL:(((af (decide ((x:Int) > 0))
    ((idx e (i64 ((x:Int) - 1))).bind λ aP =>
    (idx e (p2:Int)).bind λ aQ =>
    (dE aP aQ).bind λ aR =>
    some (!aR))
    (some false)):Option Bool))=some (decide (0 < x) && !ltInt e.toArray[x - 1]! e.toArray[p2]!):=by
   by_cases B:0 < x
   ·simp only [sa B,bc,eW (i:=x) (by omega) B,bM,a5 (show x - 1 < e.length by omega),a5 (show p2 < e.length by omega),aG,hH,de B,Bool.true_and,fs]
   ·simp only [r9 B,a2,dV B,Bool.false_and]
  rw [aL,aG]
  by_cases r:(decide (0 < x) && !ltInt e.toArray[x - 1]! e.toArray[p2]!)=true
  ·left
   obtain ⟨t,f,n⟩:=LF (l:=e) (a:=x) (b:=y) (p:=p2) (by unfold e4; omega) K L (by omega)
   rw [r,bc,f,aG]
   simp only [cM,decide_eq_true_eq,Bool.not_eq_true'] at r
   have an:=round_eq swo_ltInt (partitionEqual_holds ltInt) (d3:=e.toArray) (d4:=t.toArray) (mid:=(partitionEqual ltInt e.toArray x y p2).1) r.1 K L (by omega) ae r.2 (by rw [n])
   generalize (partitionEqual ltInt e.toArray x y p2).1=mid at an
   obtain ⟨G,ab,ax,N,O⟩:=an
   have ao:t.length=l.length:=by
    have:t.toArray.size=t.length:=by simp
    omega
   exact ⟨_,rfl,⟨t,mid,y,q,v,wp,rfl,ao,ab,aq,by omega,by omega,N,λ R r1 r2=>by
    obtain ⟨E,F⟩:=O R r1 r2
    exact z R (permIn_trans _ _ _ x y I E) F⟩,by simp only [cp]; omega⟩
  ·have r:(decide (0 < x) && !ltInt e.toArray[x - 1]! e.toArray[p2]!)=false:=by simpa using r
   left
   obtain ⟨t,f,n⟩:=LH (l:=e) (a:=x) (b:=y) (p:=p2) (by unfold e4; omega) K L (by omega)
   rw [r,a2,f,aG,show gv ((y - x:Nat):Int) 8=some (((y - x) / 8:Nat):Int) from xq (d:=8) (by omega) (by omega),aG]
   have X:=round_part swo_ltInt (partition_holds ltInt) (d3:=e.toArray) (d4:=t.toArray) (mid:=(partition ltInt e.toArray x y p2).1) (ap:=(partition ltInt e.toArray x y p2).2.1) K L (by omega) ae (by rw [n])
   generalize (partition ltInt e.toArray x y p2).1=mid at X
   generalize (partition ltInt e.toArray x y p2).2.1=ap at X
   obtain ⟨G,ab,ax,N,O,ay,az⟩:=X
   have ao:t.length=l.length:=by
    have:t.toArray.size=t.length:=by simp
    omega
   dsimp only
   rw [h9 (i:=mid) (j:=x) (by omega) G,h9 (i:=y) (j:=mid) (by omega) (by omega),hp,bY (i:=mid) (by omega)]
   have aS:2 ^ (k+1)=2 * 2 ^ k:=by rw [Nat.pow_succ]; omega
   by_cases ai:mid - x < y - mid
   ·obtain ⟨u,hu,A,Z⟩:=ar t x mid q (by unfold fP; omega) (by omega) G (by omega) (by omega) N
    rw [de ai,bc,hu,aG]
    obtain ⟨P,U⟩:=ay _ A Z
    have aa:u.length=l.length:=by
     have h1:u.toArray.size=u.length:=by simp
     have h2:=A.1
     omega
    exact ⟨_,rfl,⟨u,mid+1,y,q,_,_,rfl,aa,by omega,aq,by omega,by omega,P,λ R r1 r2=>by
     obtain ⟨E,F⟩:=U R r1 r2
     exact z R (permIn_trans _ _ _ x y I E) F⟩,by simp only [cp]; omega⟩
   ·obtain ⟨u,hu,A,Z⟩:=ar t (mid+1) y q (by unfold fP; omega) (by omega) (by omega) (by omega) (by omega) O
    rw [dV ai,a2,hu,aG]
    obtain ⟨P,U⟩:=az _ A Z
    have aa:u.length=l.length:=by
     have h1:u.toArray.size=u.length:=by simp
     have h2:=A.1
     omega
    exact ⟨_,rfl,⟨u,x,mid,q,_,_,rfl,aa,G,by omega,by omega,by omega,P,λ R r1 r2=>by
     obtain ⟨E,F⟩:=U R r1 r2
     exact z R (permIn_trans _ _ _ x y I E) F⟩,by simp only [cp]; omega⟩
theorem KO{l:List Int}(hl:fP l):∃ l',mb l=some l'∧l'.Perm l∧l'.Pairwise (·≤·):=by
 have hl':=hl
 unfold fP at hl'
 obtain ⟨⟨k,e,g⟩,_⟩:=AX (n:=l.length) (by omega)
 obtain ⟨t,f,h1,h2⟩:=NB 11 l 0 l.length k hl (by omega) (Nat.zero_le _) (b6 _) (by omega) (.inl rfl)
 unfold mb
 rw [e,aG]
 refine ⟨t,by rw [show (0:Int)=((0:Nat):Int) from rfl,f]; rfl,?_,?_⟩
 ·have h3:=h1.2.2
  have c:t.length=l.length:=by have:=h1.1; simpa using this
  rw [show t.toArray.extract 0 l.length=t.toArray by rw [← c]; simp,show l.toArray.extract 0 l.length=l.toArray by simp] at h3
  simpa using h3
 ·have c:t.length=l.length:=by have:=h1.1; simpa using this
  rw [List.pairwise_iff_getElem]
  intro i j hi b d
  have h4:=h2 i j (Nat.zero_le _) d (by omega)
  rw [fs,fs] at h4
  have e1:=a5 hi
  have a:=a5 b
  rw [ez hi] at e1
  rw [ez b] at a
  rw [ed e1,ed a]
  unfold ltInt at h4
  have:=of_decide_eq_false h4
  omega
theorem KQ{l:List Int}(hl:fP l)(C:l.Pairwise (·≤·)):∃ d,mc l=some d∧d.Pairwise (· < ·)∧∀ x,x∈d↔x∈l:=by
 have u:=hl
 unfold fP at u
 have v:(fw l l.length).Pairwise (· < ·)∧∀ x,x∈fw l l.length↔x∈l:=by
  refine ⟨zp C _ (b6 _),λ x=>?_⟩
  rw [vu]
  constructor
  ·rintro ⟨i,hi,rfl⟩; exact eC hi
  ·intro c; exact jE c
 unfold mc
 rw [show decide ((l.length:Int) < 2)=decide (l.length < 2) from hp (j:=2)]
 by_cases h2:l.length < 2
 ·rw [de h2,bc]
  refine ⟨l,rfl,?_,λ _=>Iff.rfl⟩
  match l,h2 with
  | [],_=>simp
  | [_],_=>simp
  | _::_::r,h=>exact absurd h (by simp only [List.length_cons]; omega)
 rw [dV h2,a2]
 suffices c:∃ z:List Int,_=some z∧z=fw l l.length by
  obtain ⟨z,p,rfl⟩:=c
  exact ⟨_,p,v⟩
 refine ib (λ s=>∃ k:Nat,s=(k:Int)∧1≤k∧k≤l.length∧∀ i,1≤i→i < k→nth l i≠nth l (i - 1)) (λ s=>l.length - s.toNat) (λ o=>o = .inl ()∧(∀ i,1≤i→i < l.length→nth l i≠nth l (i - 1))∨o = .inr (fw l l.length)) ⟨1,rfl,b6 _,by omega,λ i h1 h2=>by omega⟩ (λ o ho=>?_) ?_
 ·rcases ho with ⟨rfl,h⟩ | rfl
  ·exact ⟨l,rfl,by rw [vt _ (b6 _) h,List.take_length]⟩
  ·exact ⟨_,rfl,rfl⟩
 ·rintro _ ⟨k,rfl,A,B,g⟩
  rw [hp]
  by_cases n:k < l.length
  ·rw [de n,bc,eW (i:=k) (by omega) A]
   simp only [bM,a5 n,a5 (show k - 1 < l.length by omega),aG]
   by_cases hd:nth l k=nth l (k - 1)
   ·right
    rw [show (nth l k == nth l (k - 1))=true by simpa using hd,bc,show e7 l (k:Int) (l.length:Int)=some (l.drop k) by simp [e7]; omega,aG]
    suffices c:∃ z:Int ⊕ (Unit ⊕ List Int),_=some z∧z = .inr (.inr (fw l l.length)) by
     obtain ⟨z,p,rfl⟩:=c
     exact ⟨_,p,.inr rfl⟩
    refine ib (λ s=>∃ (m:List Int) (w q:Nat),s=(m,(w:Int),(q:Int))∧m.length=l.length∧1≤q∧w+1≤k+q∧k+q≤l.length∧(∀ i,k+q - 1≤i→nth m i=nth l i)∧m.take w=fw l (k+q)) (λ s=>l.length - s.2.2.toNat)
     (λ o=>∃ (m:List Int) (w:Nat),o=(m,(w:Int))∧m.length=l.length∧w≤l.length∧m.take w=fw l l.length) ⟨l,k,1,rfl,rfl,b6 _,by omega,by omega,λ _ _=>rfl,by
      rw [fw,if_neg (λ h=>h.elim (λ h=>by omega) (λ h=>h hd))]
      exact (vt k B g).symm⟩ (λ o ho=>?_) ?_
    ·obtain ⟨m,w,rfl,hm,hw,b⟩:=ho
     dsimp only
     rw [cp,show e7 m (w:Int) (m.length:Int)=some (m.drop w) by simp [e7]; omega,aG,show e7 (hZ m w) 0 (w:Int)=some (m.take w) from by
      have D:(hZ m w).length=m.length:=by simp [hZ]; omega
      have:(hZ m w).take w=m.take w:=by
       unfold hZ
       rw [List.take_append_of_le_length (by simp; omega),List.take_take,Nat.min_self]
      rw [← this]
      exact zo (by omega),aG,b]
     exact ⟨_,rfl,rfl⟩
    ·rintro _ ⟨m,w,q,rfl,hm,F,G,E,e,b⟩
     dsimp only
     rw [cp,List.length_drop,hm,hp]
     by_cases t:q < l.length - k
     ·left
      rw [de t,bc,eW (i:=q) (by omega) (by omega)]
      simp only [bM,zx (m:=m) (a:=k) (i:=q) (by omega),zx (m:=m) (a:=k) (i:=q - 1) (by omega),aG]
      rw [e (k+q) (by omega),show k+(q - 1)=k+q - 1 by omega,e (k+q - 1) (by omega)]
      by_cases f:nth l (k+q)=nth l (k+q - 1)
      ·rw [show (nth l (k+q) != nth l (k+q - 1))=false by simpa using f,a2,bY (i:=q) (by omega)]
       refine ⟨_,rfl,⟨m,w,q+1,rfl,hm,by omega,by omega,by omega,λ i hi=>e i (by omega),?_⟩,by simp only [cp]; omega⟩
       rw [b,show k+(q+1)=(k+q)+1 by omega,fw,if_neg (λ h=>h.elim (λ h=>by omega) (λ h=>h f))]
      ·rw [show (nth l (k+q) != nth l (k+q - 1))=true by simpa using f,bc]
       simp only [a5 (show w < m.length by omega),aG,bY (i:=q) (by omega),bY (i:=w) (by omega),cp]
       refine ⟨_,rfl,⟨m.set w (nth l (k+q)),w+1,q+1,rfl,by simpa using hm,by omega,by omega,by omega,λ i hi=>?_,?_⟩,by simp only [cp]; omega⟩
       ·rw [Nb (by omega)]; exact e i (by omega)
       ·rw [take_set (by omega),b,show k+(q+1)=(k+q)+1 by omega,fw,if_pos (.inr f)]
     ·right
      rw [dV t,a2]
      exact ⟨(m,(w:Int)),rfl,m,w,rfl,hm,by omega,by rw [b,show k+q=l.length by omega]⟩
   ·left
    rw [show (nth l k == nth l (k - 1))=false by simpa using hd,a2,bY (i:=k) (by omega)]
    refine ⟨_,rfl,⟨k+1,rfl,by omega,by omega,λ i h1 h2=>?_⟩,by simp only [cp]; omega⟩
    by_cases y:i=k
    ·subst y; exact hd
    ·exact g i h1 (by omega)
  ·right
   rw [dV n,a2]
   exact ⟨.inl (),rfl,.inl ⟨rfl,λ i h1 h2=>g i h1 (by omega)⟩⟩
theorem B1{b:aj}(p:Valid b){f:aY→Option Int}{g:List Int→Int}(k:∀ c∈bP b,f (fc c)=some (g c)):mx (dI b) f=some (fJ ((bP b).map g)):=by
 unfold mx
 have r:=p5 p
 rw [show (dI b).cG=(bP b).map fc from rfl]
 refine (eN (o:=(bP b).map g) ?_).trans ?_
 ·have h:(([]:List Int),(0:Int))=(λ q:Nat=>(((bP b).take q).map g,(q:Int))) 0:=rfl
  rw [h]
  refine jq (λ q:Nat=>(((bP b).take q).map g,(q:Int))) (bP b).length (λ q a=>?_) (by simp only [List.length_map,dh,a2,List.take_length])
  have j:(bP b)[q]∈bP b:=List.getElem_mem a
  simp only [List.length_map,dec_lt a,bc,bM,List.getElem?_map,ez a,Option.map_some,aG,k _ j,bY (i:=q) (by omega)]
  rw [lS (by simp; omega),aG,List.take_succ_eq_append_getElem a,List.map_append]
  rfl
 ·obtain ⟨t,n,e,m⟩:=KO (l:=(bP b).map g) (by unfold fP; rw [List.length_map]; omega)
  obtain ⟨d,hd,h1,h2⟩:=KQ (l:=t) (by unfold fP; rw [e.length_eq,List.length_map]; omega) m
  rw [n,aG,hd,aG,rF d (fJ ((bP b).map g)) h1 (tY _) λ x=>by rw [h2,e.mem_iff,nU]]
theorem w9{α:Type}[Inhabited α]{l:List α}{x:α}(h:x∈l):∃ j,j < l.length∧nth l j=x:=by
 obtain ⟨j,a,rfl⟩:=List.mem_iff_getElem.1 h
 have e:=a5 a
 rw [ez a,eh] at e
 exact ⟨j,a,e.symm⟩
theorem xG{l:List Int}(h:l≠[]):0 < (fJ l).length:=by
 obtain ⟨x,a⟩:=List.exists_mem_of_ne_nil l h
 exact List.length_pos_of_mem ((nU l x).2 a)
theorem Pe{l:List Int}(h:l≠[]):nth (fJ l) 0∈l∧∀ x∈l,nth (fJ l) 0≤x:=by
 refine ⟨(nU _ _).1 (eC (xG h)),λ x c=>?_⟩
 obtain ⟨j,b,rfl⟩:=w9 ((nU _ _).2 c)
 rcases Nat.eq_zero_or_pos j with rfl | a
 ·exact Int.le_refl _
 ·have:=yu (tY l) a b
  omega
theorem Pf{l:List Int}(h:l≠[]):nth (fJ l) ((fJ l).length - 1)∈l∧∀ x∈l,x≤nth (fJ l) ((fJ l).length - 1):=by
 have d:=xG h
 refine ⟨(nU _ _).1 (eC (by omega)),λ x b=>?_⟩
 obtain ⟨j,c,rfl⟩:=w9 ((nU _ _).2 b)
 rcases Nat.lt_or_ge j ((fJ l).length - 1) with a | a
 ·have:=yu (tY l) a (show (fJ l).length - 1 < (fJ l).length by omega)
  omega
 ·rw [show j=(fJ l).length - 1 by omega]
  exact Int.le_refl _
def il(b:aj)(n:Int):Int:=if gG b n=false then 6 else 0
theorem BC{b:aj}(a:b.aD.length≤1000)(n:Int):hG b n=some (il b n):=by
 unfold hG
 rw [qu a]
 rfl
theorem AE{b:aj}{n:Int}:gG b n=true↔∃ i:Nat,n=(i:Int)∧i < b.aD.length:=by
 unfold gG
 rw [dL]
 constructor
 ·intro h; exact ⟨n.toNat,by omega,by omega⟩
 ·rintro ⟨i,rfl,hi⟩; omega
theorem Cu{b:aj}{n:Int}(h:il b n=0):∃ i:Nat,n=(i:Int)∧i < b.aD.length:=by
 refine AE.1 ?_
 unfold il at h
 cases hi:gG b n with
 | true=>rfl
 | false=>rw [hi] at h; cases h
theorem Cv{b:aj}{i:Nat}(h:i < b.aD.length):il b (i:Int)=0:=by
 unfold il
 rw [AE.2 ⟨i,rfl,h⟩]
 rfl
abbrev kC(b:aj)(i:Nat):List Int:=fJ ((bP b).map λ c=>nth c i)
def sb(b:aj)(n:Int):List Int × Int:=if eB b (il b n)≠0 then ([],eB b (il b n)) else (kC b n.toNat,0)
theorem LO{b:aj}(d:Small b)(n:Int):kT b n=some (sb b n):=by
 have f:=d.places
 unfold kT sb mw
 rw [aG,pb d (own:=il b n) (λ _=>BC (by omega) n),aG]
 unfold mC
 by_cases h:eB b (il b n)=0
 ·obtain ⟨e,ho,a⟩:=qk h
  obtain ⟨i,rfl,hi⟩:=Cu ho
  simp only [h,ne_eq,eK,if_false,bne_self_eq_false,a2]
  rw [B1 e (g:=λ c=>nth c i) (λ c a=>by unfold nR; rw [xY e (jB.1 a).1.1 hi]; rfl)]
  rfl
 ·simp only [h,ne_eq,not_false_eq_true,if_true,iN h,bc]
theorem E8{b:aj}(c:Valid b){i:Nat}(hi:i < b.aD.length):sb b (i:Int)=(kC b i,if bP b=[] then 9 else 0):=by
 unfold sb
 rw [Cv hi,Af c]
 by_cases a:bP b=[]
 ·rw [if_pos a,if_pos (by decide)]
  unfold kC
  rw [a]
  rfl
 ·simp only [a,if_false]
  rfl
abbrev lD(b:aj)(i:Nat):List Int:=fJ ((bP b).map λ c=>ir b (nth c i))
def ub(b:aj)(n:Int):Reach × Int:=if eB b (il b n)≠0 then (⟨0,0⟩,eB b (il b n)) else (⟨nth (lD b n.toNat) 0,nth (lD b n.toNat) ((lD b n.toNat).length - 1)⟩,0)
theorem Md{b:aj}(d:Small b)(n:Int):kV b n=some (ub b n):=by
 have m:=d.places
 have k:=d.rows
 unfold kV ub mw
 rw [aG,pb d (own:=il b n) (λ _=>BC (by omega) n),aG]
 unfold mC
 by_cases h:eB b (il b n)=0
 ·obtain ⟨e,ho,a⟩:=qk h
  obtain ⟨i,rfl,hi⟩:=Cu ho
  have l:=p5 e
  have j:(bP b).map (λ c=>ir b (nth c i))≠[]:=by simpa using a
  have f:=xG j
  have hle:=Pg ((bP b).map λ c=>ir b (nth c i))
  rw [List.length_map] at hle
  simp only [h,ne_eq,eK,if_false,bne_self_eq_false,a2]
  rw [B1 e (g:=λ c=>ir b (nth c i)) (λ c a=>by unfold nk; rw [xY e (jB.1 a).1.1 hi,aG,show (dI b).book=b from rfl,wF k]; rfl),aG]
  rw [show (0:Int)=((0:Nat):Int) from rfl,bM,a5 f,aG,eW (by omega) f,bM,a5 (by omega),aG]
  rfl
 ·simp only [h,ne_eq,not_false_eq_true,if_true,iN h,bc]
theorem Pk{b:aj}(c:Valid b){i:Nat}(hi:i < b.aD.length)(a:bP b≠[]):ub b (i:Int)=(⟨nth (lD b i) 0,nth (lD b i) ((lD b i).length - 1)⟩,0):=by
 unfold ub
 rw [Cv hi,Af c,if_neg a]
 rfl
theorem zv{b:aj}{i:Nat}{k:Int}:k∈kC b i↔∃ c∈bP b,nth c i=k:=by
 unfold kC
 rw [nU,List.mem_map]
theorem E6{b:aj}{i:Nat}(hi:i < b.aD.length){k:Int}(h:k∈kC b i):(nth b.aD i).bJ≤k∧k≤(nth b.aD i).bT:=by
 obtain ⟨c,a,rfl⟩:=zv.1 h
 exact (jB.1 a).1.2 i hi
theorem E7{b:aj}(e:Valid b){i:Nat}(hi:i < b.aD.length):(kC b i).length≤3:=by
 have d:=e.each hi
 refine Nat.le_trans (AV (m:=n4 (nth b.aD i)) id ((tY _).imp λ h=>by omega) (λ x _ y _ h=>h) λ c a=>?_) (CH d.2.2.2)
 exact Ca.2 (E6 hi a)
theorem Pj{b:aj}(a:Valid b){n:Int}(h1:1≤n)(h2:n≤30):ua b n=(ir b n,0):=by
 unfold ua
 rw [iw.2 a,dL.2 ⟨h1,h2⟩]
 rfl
theorem Kb{b:aj}(d:Valid b){r:List (List Int)}(h:mW b r){c:List Int}(f:c.length=b.aD.length):wI b c r=some (pO b c r):=by
 have hd:=d.d4
 have hl:=h.len
 unfold wI pO
 rw [← hl,oF (n:=r.length) (λ i=>(nth r i).all λ k=>fW b c k.toNat i) false (λ i hi=>?_) (by simp only [dh,a2])]
 ·cases (List.range r.length).all λ i=>(nth r i).all λ k=>fW b c k.toNat i <;> rfl
 ·simp only [dec_lt hi,bc]
  have j:=h.rl d i (by omega)
  rw [wC (l:=nth r i) (λ k=>fW b c k.toNat i) false (λ q a=>?_) (by simp only [bM,a5 hi,aG,dh,a2])]
  ·cases (nth r i).all λ k=>fW b c k.toNat i with
   | true=>simp only [if_true,aG,Sum.elim_inl,bY (i:=i) (by omega)]
   | false=>rfl
  ·have g:=(h.row i (by omega)).2.2 _ (eC a)
   have e:mr b c (nth (nth r i) q) (i:Int)=some (fW b c (nth (nth r i) q).toNat i):=by
    have:=BV d f (k:=(nth (nth r i) q).toNat) (i:=i) (by omega) (by omega)
    rwa [Int.toNat_of_nonneg g.1] at this
   simp only [bM,a5 hi,aG,dec_lt a,bc,a5 a,e,bY (i:=q) (by omega)]
   cases fW b c (nth (nth r i) q).toNat i <;> rfl
theorem Kv{l:List Int}(hl:∀ v∈l,0≤v∧v≤65535){i:Nat}(hi:i < 4):∃ z,oM l (i:Int)=some z∧0≤z∧z≤65535:=by
 unfold oM
 rw [gJ,aG]
 by_cases h4:4≤l.length
 ·cases bL (i:Int) 0 (i64 ((l.length:Int) - 1)) with
  | false=>exact ⟨0,rfl,by omega,by omega⟩
  | true =>
   have a:=hl _ (eC (show i < l.length by omega))
   rw [bc,bM,a5 (show i < l.length by omega),aG,cH (by omega) (by omega)]
   exact ⟨_,rfl,a⟩
 ·rw [cH (by omega) (by omega)]
  cases h:bL (i:Int) 0 ((l.length:Int) - 1) with
  | false=>exact ⟨0,rfl,by omega,by omega⟩
  | true =>
   rw [dL] at h
   have a:=hl _ (eC (show i < l.length by omega))
   rw [bc,bM,a5 (show i < l.length by omega),aG,cH (by omega) (by omega)]
   exact ⟨_,rfl,a⟩
theorem KF{x:Reach}(h:1≤x.bJ∧x.bJ≤x.bT∧x.bT≤30∧x.bT - x.bJ < 3){z:Int}(a:0≤z)(_:z≤65535):∃ n,oO x z=some n∧x.bJ≤n∧n≤x.bT:=by
 unfold oO
 rw [cH (z:=x.bT - x.bJ) (by omega) (by omega),cH (by omega) (by omega)]
 unfold lp
 rw [if_neg (by omega),aG]
 have b:=Int.tmod_nonneg (x.bT - x.bJ+1) a
 have c:=Int.tmod_lt_of_pos z (show 0 < x.bT - x.bJ+1 by omega)
 rw [cH (by omega) (by omega)]
 exact ⟨_,rfl,by omega,by omega⟩
theorem MB{b:aj}(k:Valid b){l:List Int}(hl:∀ v∈l,0≤v∧v≤65535):∃ d,qV b l=some d∧d.length=b.aD.length∧∀ i,i < b.aD.length→(nth b.aD i).bJ≤nth d i∧nth d i≤(nth b.aD i).bT:=by
 have B:=k.p3
 unfold qV
 have main:=Bg (S:=List Int × Int) (O:=List Int) (body:=λ (a:((List Int) × Int)) =>
 af (decide (a.2 < (b.aD.length:Int)))
 ((idx b.aD a.2).bind λ u =>
 (oM l a.2).bind λ w =>
 (oO u w).bind λ y =>
 (dD a.1 [y]).bind λ A =>
 some (.inl (A,i64 (a.2+1))))
 (some (.inr a.1))) b.aD.length (λ q s=>s.2=(q:Int)∧s.1.length=q∧∀ i,i < q→(nth b.aD i).bJ≤nth s.1 i∧nth s.1 i≤(nth b.aD i).bT)
  (λ o=>o.length=b.aD.length∧∀ i,i < b.aD.length→(nth b.aD i).bJ≤nth o i∧nth o i≤(nth b.aD i).bT) (λ q s j g=>?_) (λ s g=>?_) b.aD.length 0 ([],0) (by omega) ⟨rfl,rfl,by simp⟩
 ·obtain ⟨o,ho,h1,h2⟩:=main
  exact ⟨o,by rw [eN ho],h1,h2⟩
 ·left
  obtain ⟨d,x⟩:=s
  obtain ⟨rfl,c,f⟩:=g
  simp only at c f
  obtain ⟨z,p,z0,z1⟩:=Kv hl (i:=q) (by omega)
  obtain ⟨n,m,r,t⟩:=KF (k.each j) z0 z1
  simp only [dec_lt j,bc,bM,a5 j,aG,p,m,bY (i:=q) (by omega)]
  rw [lS (by simp only [List.length_cons,List.length_nil]; omega),aG]
  refine ⟨_,rfl,rfl,by simp [c],λ i hi=>?_⟩
  rcases Nat.lt_or_ge i q with h | h
  ·rw [j9 (by omega)]; exact f i h
  ·obtain rfl:i=q:=by omega
   have e:nth (d++[n]) i=n:=by
    have h2:=a5 (l:=d++[n]) (i:=i) (by simp; omega)
    rw [ff (by omega),show i - d.length=0 by omega] at h2
    simpa using h2.symm
   rw [e]
   exact ⟨r,t⟩
 ·obtain ⟨d,x⟩:=s
  obtain ⟨rfl,c,f⟩:=g
  exact ⟨d,by simp only [dh,a2],c,f⟩
def rq(b:aj)(d:List Int):aj:=lH b (b.aQ.map λ s=>⟨s.Place,s.dJ,decide (nth d s.Place.toNat≤s.dJ)⟩)
theorem MD{b:aj}(a:Valid b){d:List Int}(hd:d.length=b.aD.length):qW b d=some (rq b d):=by
 have h3:=a.s3
 unfold qW
 refine (eN (o:=b.aQ.map λ s=>(⟨s.Place,s.dJ,decide (nth d s.Place.toNat≤s.dJ)⟩:b7)) ?_).trans rfl
 have c:((0:Int),([]:List b7))=(λ i:Nat=>((i:Int),(b.aQ.take i).map λ s=>(⟨s.Place,s.dJ,decide (nth d s.Place.toNat≤s.dJ)⟩:b7))) 0:=rfl
 rw [c]
 refine jq (λ i:Nat=>((i:Int),(b.aQ.take i).map λ s=>(⟨s.Place,s.dJ,decide (nth d s.Place.toNat≤s.dJ)⟩:b7))) b.aQ.length (λ i hi=>?_) (by simp only [dh,a2,List.take_length])
 have e:=(a.sound _ (eC hi)).place
 simp only [dec_lt hi,bc,bM,a5 hi,aG,sP e.1 (show (nth b.aQ i).Place < (d.length:Int) by omega),bY (i:=i) (by omega)]
 rw [lS (by simp; omega),aG,List.take_add_one,a5 hi]
 simp
theorem Valid.true{b:aj}(a:Valid b)(d:List Int):Valid (rq b d) :=
 a.lH (by simpa using a.s3) λ s e=>by
  obtain ⟨r,c,rfl⟩:=List.mem_map.1 e
  exact ⟨(a.sound r c).place,(a.sound r c).line⟩
theorem PB{b:aj}{d:List Int}(hd:d.length=b.aD.length)(a:∀ i,i < b.aD.length→(nth b.aD i).bJ≤nth d i∧nth d i≤(nth b.aD i).bT):d∈bP (rq b d):=by
 refine jB.2 ⟨⟨hd,a⟩,?_⟩
 unfold mI
 rw [List.all_eq_true]
 intro s c
 obtain ⟨r,e,rfl⟩:=List.mem_map.1 (show s∈b.aQ.map _ from c)
 simp
theorem BX{b:aj}(a:Valid b){d:List Int}(hd:d∈bP b){r:List (List Int)}(k:r∈gx b):o9 b d r=some true:=by
 have f:=OA a k
 have hl:=f.len
 have j:bP b≠[]:=λ e=>by rw [e] at hd; cases hd
 have c:=(Il a j f).2 k
 unfold vZ at c
 by_cases h:pr b r=true
 ·rw [if_pos h,sK j,decide_eq_true_eq] at c
  have g:=Kb a f (jB.1 hd).1.1
  rw [c d hd] at g
  unfold wI at g
  have e:oH b r=some (pr b r):=by
   rw [J9 a (by omega) (λ i hi=>f.rl a i (by omega)),hl]
   rfl
  unfold o9
  rw [Mx a f,aG]
  simp only [bne_self_eq_false,a2,e,h,aG,Bool.not_true]
  exact g
 ·rw [if_neg h] at c
  cases c
theorem MF{p:List Int→Bool}{l:List (List Int)}{d:List Int}(hd:d∈l):qX (hD (l.filter p).length l.length) (p d)=some true:=by
 have g:l≠[]:=λ e=>by rw [e] at hd; cases hd
 have s1:=sK (p:=p) g
 have b:=Iv (p:=p) (l:=l)
 unfold qX
 by_cases a:hD (l.filter p).length l.length=0
 ·rw [a]; rfl
 rw [show (hD (l.filter p).length l.length == 0)=false by simpa using a,a2,s1]
 by_cases h1:∀ c∈l,p c=true
 ·rw [de h1,h1 d hd]; rfl
 ·have h2:hD (l.filter p).length l.length=2:=by
   rw [dV h1,beq_eq_false_iff_ne] at s1
   unfold hD at a s1 ⊢
   split
   ·rfl
   ·rename_i e
    rw [if_neg e] at a s1
    split at s1
    ·exact absurd rfl s1
    ·rename_i f
     rw [if_neg f] at a
     exact absurd rfl a
  rw [h2,beq_self_eq_true] at b
  have b:=of_decide_eq_true b.symm
  rw [dV h1,b d hd]
  rfl
theorem IM(b:aj)(l:List Int)(x y z:Int)(hl:∀ v∈l,0≤v∧v≤65535)(D:0≤x∧x < 256)(E:0≤y∧y < 256)(F:0≤z∧z < 256):tg b l x y z=some true:=by
 unfold tg
 rw [Mk,Ow,aG]
 cases aa:nb b with
 | true=>rfl
 | false =>
 by_cases h1:dM b=0
 case neg =>
  have:(dM b == 0)=false:=by simpa using h1
  rw [this]
  rfl
 have A:=iw.1 h1
 obtain ⟨d,hd,h,M⟩:=MB A hl
 have a:=A.true d
 have S:=a.p1
 have U:=a.p3
 have Q:=a.m1
 have L:=a.d1
 have f:=PB h M
 have I:=MD A h
 have h:d.length=(rq b d).aD.length:=h
 simp only [h1,Bool.not_false,beq_self_eq_true,Bool.and_true,Bool.not_true,a2,hd,aG,I]
 generalize rq b d=t at a S U Q L f h ⊢
 have g:=a.sm
 have X:=p5 a
 have o:bP t≠[]:=λ e=>by rw [e] at f; cases f
 have ac:=List.length_pos_iff.2 o
 have N:jV t=true:=Ax.2 ⟨d,f⟩
 have H:eB t 0=0:=Hc a rfl o
 rw [xt D.1 D.2 (by omega),aG,xt E.1 E.2 (by omega),aG,xt F.1 F.2 (by omega),aG]
 have hi:x.toNat % t.aD.length < t.aD.length:=Nat.mod_lt _ (by omega)
 have u:y.toNat % t.az.length < t.az.length:=Nat.mod_lt _ (by omega)
 have s:z.toNat % t.av.length < t.av.length:=Nat.mod_lt _ (by omega)
 generalize x.toNat % t.aD.length=i at hi ⊢
 generalize y.toNat % t.az.length=k at u ⊢
 generalize z.toNat % t.av.length=j at s ⊢
 have ab:=a.each hi
 have Y:=(jB.1 f).1.2 i hi
 have O:sV t d=(true,0):=by
  unfold sV
  rw [if_neg (by simp [iw.2 a]),if_neg (by simpa using h),if_neg ?_]
  ·rw [List.contains_iff_mem.2 f]
  ·rw [Bool.not_eq_true,List.any_eq_false]
   intro v V
   obtain ⟨q,ad,rfl⟩:=w9 V
   have ae:=(jB.1 f).1.2 q (by omega)
   have af:=a.each (i:=q) (by omega)
   rw [dL.2 (show (1:Int)≤nth d q∧nth d q≤30 by omega)]
   simp
 have R:tA t (k:Int) (j:Int)=(hD ((bP t).filter λ w=>fW t w k j).length (bP t).length,0):=by
  unfold tA
  rw [iw.2 a,AD.2 ⟨k,rfl,u⟩,AB.2 ⟨j,rfl,s⟩]
  simp [o]
 have K:(kC t i).contains (nth d i)=true:=List.contains_iff_mem.2 (zv.2 ⟨d,f,rfl⟩)
 have Z:=E7 a hi
 have B:(bP t).map (λ c=>ir t (nth c i))≠[]:=by simpa using o
 have f2:=(Pe B).2 _ (List.mem_map.2 ⟨d,f,rfl⟩)
 have W:=(Pf B).2 _ (List.mem_map.2 ⟨d,f,rfl⟩)
 rw [Mz g (by omega),O,LN g,EN a,Mr a,EP N,LO g,E8 a hi,Md g,Pk a hi o,Me g,R,bM,a5 (show i < d.length by omega),aG]
 have J:bL (ir t (nth d i)) (nth (lD t i) 0) (nth (lD t i) ((lD t i).length - 1))=true:=dL.2 ⟨f2,W⟩
 have P:decide (((bP t).length:Int) < 1)=false:=by simp; omega
 simp only [aG,Mm g,Pj a (n:=nth d i) (by omega) (by omega),if_neg o,bne_self_eq_false,a2,Bool.not_true,P,List.length_nil,Int.natCast_zero,show decide ((0:Int) > 0)=false from rfl,BS (show (kC t i).length≤1000 by omega),K,gJ,J,BV a (jB.1 f).1.1 u s,MF (p:=λ w=>fW t w k j) f]
 rw [Mf g,Mg g,Mi g]
 unfold xw vW vU
 rw [H]
 simp only [ne_eq,eK,if_false,aG,bne_self_eq_false,a2]
 cases C:gx t with
 | nil=>rfl
 | cons r m =>
  have T:decide ((((r::m).length:Nat):Int) > 0)=true:=by simp
  have e1:=BX a f (show r∈gx t by rw [C]; simp)
  have G:=BX a f (show fS (j0 t) r m∈gx t by rw [C]; exact uS _ _ _)
  simp only [T,beq_self_eq_true,Bool.not_true,a2,aG,e1,G,bc,bne_self_eq_false]
end Go.Proofs.YtihapemckcdicaaGreatDoor
