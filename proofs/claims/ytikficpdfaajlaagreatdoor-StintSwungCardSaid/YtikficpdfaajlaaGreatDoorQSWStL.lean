/- Plain laws of chapter 5. Conditions: none. -/
import Derived.Test.YtikficpdfaajlaaGreatDoorQSWStP
import Derived.Test.YtikficpdfaajlaaGreatDoorQSWStC
import Derived.Test.YtikficpdfaajlaaGreatDoorQSWStM
namespace Go.Proofs.YtikficpdfaajlaaGreatDoor
open Go.Lg Go.Proofs
set_option maxRecDepth 10000
def lG(x:Reach)(a c:Int):Bool:=decide (a≤x.aZ) && (decide (x.aZ≤x.bh) && decide (x.bh≤c))
def nY(x:Reach)(w:Int):Bool:=decide (x.bh - x.aZ < w)
theorem TJ{x:Reach}{a c:Int}(b : -1000000≤a)(d:c≤1000000)(h:lG x a c=true):i64 (x.bh - x.aZ)=x.bh - x.aZ:=by
 simp only [lG,cO,decide_eq_true_eq] at h
 exact c9 (by omega) (by omega)
theorem Ru{x:Reach}{a c:Int}:lG x a c=true↔a≤x.aZ∧x.aZ≤x.bh∧x.bh≤c:=by simp [lG]
theorem TK{x:Reach}{w:Int}:nY x w=true↔x.bh - x.aZ < w:=by simp [nY]
def my(x:Reach):ah:=(List.range (x.bh+1 - x.aZ).toNat).map λ (j:Nat)=>x.aZ+(j:Int)
theorem E0{x:Reach}{n:Int}:n∈my x↔x.aZ≤n∧n≤x.bh:=by
 simp only [my,List.mem_map,List.mem_range]
 constructor
 ·rintro ⟨j,b,rfl⟩; omega
 ·intro h; exact ⟨(n - x.aZ).toNat,by omega,by omega⟩
theorem FI{x:Reach}(h:x.bh - x.aZ < 3):(my x).length≤3:=by simp [my]; omega
theorem Sa(y:Reach):(my y).Pairwise (· < ·):=by
 unfold my
 rw [List.pairwise_map]
 exact (List.pairwise_lt_range (n:=(y.bh+1 - y.aZ).toNat)).imp (λ h=>by omega)
instance:Inhabited dJ:=⟨⟨0,0⟩⟩
instance:Inhabited Reach:=⟨⟨0,0⟩⟩
instance:Inhabited dk:=⟨⟨⟨#[]⟩,0⟩⟩
instance:Inhabited gD:=⟨⟨0,0,0,0⟩⟩
instance:Inhabited c5:=⟨⟨0,0,false⟩⟩
instance:Inhabited bc:=⟨⟨[0,0,0]⟩⟩
theorem lz(n a c:Int):fC n a c=some (bX n a c):=by
 unfold fC bX
 cases decide (a≤n) <;> rfl
theorem iF(n a c:Int):eC n a c=some (bX n a c):=by
 unfold eC bX
 cases decide (a≤n) <;> rfl
theorem Pw(x:Reach)(a c:Int):l5 x a c=some (lG x a c):=by
 unfold l5 lG
 cases decide (a≤x.aZ) <;> cases decide (x.aZ≤x.bh) <;> rfl
theorem O8{x:Reach}{a c w:Int}(b : -1000000≤a)(d:c≤1000000):oX x a c w=some (lG x a c && nY x w):=by
 unfold oX lG nY
 by_cases h1:a≤x.aZ
 ·by_cases h2:x.aZ≤x.bh
  ·by_cases h3:x.bh≤c
   ·simp [h1,h2,h3,c9 (z:=x.bh - x.aZ) (by omega) (by omega)]
   ·simp [h1,h2,h3]
  ·simp [h1,h2]
 ·simp [h1]
theorem xK{α:Type}[Inhabited α]{l:List α}{f:α→a5}{p:α→Bool}(hl:l.length≤1000)(c:∀ x∈l,f x=some (p x)):((bb (O:=(Unit ⊕ Int)) (λ (b:Int) =>
 ab (decide (b < (l.length:Int)))
 ((idx l b).bind λ j =>
 (f j).bind λ k =>
 ab k
 (some (.inr (.inr b)))
 (some (.inl (i64 (b+1)))))
 (some (.inr (.inl ())))) 0).bind (Sum.elim (λ (_:Unit) =>
 some (-1))
  (λ q=>some q))).bind (λ g=>some (decide (g ≥ 0)))=some (l.any p):=by
 rw [iK (λ i=>if p (nth l i) then some (i:Int) else none) l.length (d:=(-1)) (λ i hi=>?_) (by simp only [dX,a3]) rfl]
 ·rw [aF,LU p l]
 ·simp only [dec_lt hi,bf,b9,bl hi,aF,c _ (eJ hi),cj (i:=i) (by omega)]
  cases p (nth l i) <;> rfl
theorem O5{l:List Reach}{f:Reach→a5}{p:Reach→Bool}(hl:l.length≤1000)(b:∀ x∈l,f x=some (p x)):qi l f=some (l.any p):=xK hl b
theorem Pd{l:List dk}{f:dk→a5}{p:dk→Bool}(hl:l.length≤1000)(b:∀ x∈l,f x=some (p x)):qj l f=some (l.any p):=xK hl b
theorem Oy{l:List c5}{f:c5→a5}{p:c5→Bool}(hl:l.length≤1000)(b:∀ x∈l,f x=some (p x)):qd l f=some (l.any p):=xK hl b
theorem NM{l:ah}{n:Int}(hl:l.length≤1000):sa l n=some (l.contains n):=by
 unfold sa
 refine (iK (λ i=>if (nth l i == n) then some true else none) l.length (d:=false) (λ i hi=>?_) (by simp only [dX,a3]) rfl).trans ?_
 ·simp only [dec_lt hi,bf,b9,bl hi,aF,cj (i:=i) (by omega)]
  cases nth l i == n <;> rfl
 ·rw [yz (λ x=>x == n) l]
  rw [Hd]
structure Small (b:an):Prop where
 rows:b.Rows.length≤20
 places:b.aJ.length≤20
 kJ:b.ay.length≤20
 xU:b.az.length≤20
 SO:b.a0.length≤20
 each:∀ p∈b.ay,p.Name.size≤100
def oz(b:an):Bool :=
 decide (20 < b.Rows.length) || (decide (20 < b.aJ.length) || (decide (20 < b.ay.length) || (decide (20 < b.az.length) || (decide (20 < b.a0.length) || b.ay.any λ p=>decide (100 < p.Name.size)))))
theorem mX{n m:Nat}:decide ((n:Int) > (m:Int))=decide (m < n):=by
 by_cases h:m < n <;> simp [h]
theorem NV(b:an):r9 b=some (oz b):=by
 unfold r9 oz
 have e1:decide ((b.Rows.length:Int) > 20)=decide (20 < b.Rows.length):=mX (m:=20)
 have c:decide ((b.aJ.length:Int) > 20)=decide (20 < b.aJ.length):=mX (m:=20)
 have f:decide ((b.ay.length:Int) > 20)=decide (20 < b.ay.length):=mX (m:=20)
 have g:decide ((b.az.length:Int) > 20)=decide (20 < b.az.length):=mX (m:=20)
 have j:decide ((b.a0.length:Int) > 20)=decide (20 < b.a0.length):=mX (m:=20)
 rw [e1,c,f,g,j]
 by_cases h1:20 < b.Rows.length
 ·simp [h1]
 by_cases h2:20 < b.aJ.length
 ·simp [h1,h2]
 by_cases h3:20 < b.ay.length
 ·simp [h1,h2,h3]
 by_cases h4:20 < b.az.length
 ·simp [h1,h2,h3,h4]
 by_cases h5:20 < b.a0.length
 ·simp [h1,h2,h3,h4,h5]
 simp only [h1,h2,h3,h4,h5,decide_false,a3,aF,Bool.false_or]
 rw [iK (λ i=>if decide (100 < (nth b.ay i).Name.size) then some true else none) b.ay.length (d:=false) (λ i hi=>?_) (by simp only [dX,a3]) rfl]
 ·rw [yz (λ p:dk=>decide (100 < p.Name.size)) b.ay]
 ·have f1:decide (((nth b.ay i).Name.size:Int) > 100)=decide (100 < (nth b.ay i).Name.size):=mX (m:=100)
  simp only [dec_lt hi,bf,b9,bl hi,aF,f1,cj (i:=i) (by omega)]
  cases decide (100 < (nth b.ay i).Name.size) <;> rfl
theorem Mc{b:an}(h:oz b=false):Small b:=by
 simp only [oz,Bool.or_eq_false_iff,decide_eq_false_iff_not,List.any_eq_false,decide_eq_true_eq] at h
 obtain ⟨h1,h2,h3,h4,h5,h6⟩:=h
 exact ⟨by omega,by omega,by omega,by omega,by omega,λ p c=>by have:=h6 p c; omega⟩
theorem Ed{n:Int}(h1:0≤n)(h2:n < 256):oJ n=some (isLet n):=by unfold oJ isLet; rw [c9 (by omega) (by omega),iF]; rfl
theorem Ov{n:Int}(h1:0≤n)(h2:n < 256):qc n=some (lU n):=by unfold qc lU; rw [c9 (by omega) (by omega),iF]; rfl
theorem NO{s:ByteArray}(G:s.size≤1000):sb s=some (hO s):=by
 unfold sb hO
 rw [iF,aF]
 cases hb:bX (s.size:Int) 1 12 with
 | false =>
  simp only [Bool.not_false,bf,aF]
  congr 1
  cases n:de (g9 s) 0 s.size with
  | none=>rfl
  | some o=>rw [Ds n]; rfl
 | true =>
  have h1:1≤s.size:=by
   simp only [bX,cO,decide_eq_true_eq] at hb
   omega
  have p:0 < (eK s).length:=by rw [wu]; omega
  obtain ⟨f,j⟩:=Gf (s:=s) (i:=0) (by omega)
  have z:kR s 0=some (nth (eK s) 0):=by unfold kR; rw [← bl p]; exact b9 _ 0
  simp only [Bool.not_true,a3,z,aF,Ed f j]
  have hu:de (g9 s) 0 s.size=match g9 s 0 with | some o=>some o | none=>de (g9 s) 1 (s.size - 1):=by
   obtain ⟨k,y⟩:∃ k,s.size=k+1:=⟨s.size - 1,by omega⟩
   rw [y]
   simp only [de,Nat.add_sub_cancel,Nat.zero_add]
   cases g9 s 0 <;> rfl
  rw [hu]
  unfold g9
  cases hl:isLet (nth (eK s) 0) with
  | false=>rfl
  | true =>
   simp only [Bool.not_true,a3,h7,if_false]
   have c:=search (body:=λ (b:Int) =>
    ab (decide (b < (s.size:Int)))
    ((kR s b).bind λ B =>
    (oJ B).bind λ C =>
    ab (!C)
    ((kR s b).bind λ D =>
    (qc D).bind λ E =>
    ab (!E)
    (some (.inr (.inr false)))
    (some (.inl (i64 (b+1)))))
    (some (.inl (i64 (b+1)))))
    (some (.inr (.inl ())))) (g9 s) 1 s.size (d:=true) (g:=λ _=>some true) (λ i F hi=>?_) (by simp only [dX,a3]) h1 rfl
   ·exact c
   ·have w:i < (eK s).length:=by rw [wu]; exact hi
    obtain ⟨k1,k2⟩:=Gf hi
    have A:kR s (i:Int)=some (nth (eK s) i):=by unfold kR; rw [← bl w]; exact b9 _ i
    simp only [dec_lt hi,bf,A,aF,Ed k1 k2,Ov k1 k2,cj (i:=i) (by omega)]
    have m:i≠0:=by omega
    unfold g9
    cases isLet (nth (eK s) i) with
    | true=>rfl
    | false =>
     simp only [Bool.not_false,bf,m,if_false,if_true]
     cases lU (nth (eK s) i) <;> rfl
theorem Pa(s:ByteArray):sC s=some (hO s):=rfl
def mz(b:an)(i:Nat):b5 :=
 if (bX (nth b.Rows i).db 1 30 && bX (nth b.Rows i).dr 1 60)=false then some 1
 else if 0 < i then (if (nth b.Rows i).db≤(nth b.Rows (i - 1)).db then some 7 else if (nth b.Rows i).dr > (nth b.Rows (i - 1)).dr then some 7 else none) else none
def jV(b:an):Int:=if bX (b.Rows.length:Int) 1 4=false then 2 else (de (mz b) 0 b.Rows.length).getD 0
def kO(x:Reach):Bool:=lG x 1 30 && nY x 3
def jl(b:an):Int:=if bX (b.aJ.length:Int) 1 3=false then 2 else if b.aJ.any (λ x=>!kO x)=true then 1 else 0
def mB(p q:dk):Bool:=q.Name.toList == p.Name.toList
def lB(b:an)(i:Nat):b5 :=
 if hO (nth b.ay i).Name=false then some 4 else if (b.ay.take i).any (mB (nth b.ay i))=true then some 5 else if bX (nth b.ay i).hH 1 30=false then some 1 else none
def jP(b:an):Int:=if bX (b.ay.length:Int) 1 4=false then 2 else (de (lB b) 0 b.ay.length).getD 0
def hs(b:an)(n:Int):Bool:=bX n 0 ((b.aJ.length:Int) - 1)
def kl(b:an)(i:Nat):b5 :=
 if hs b (nth b.az i).Place=false then some 6 else if (bX (nth b.az i).fH 0 200 && (bX (nth b.az i).eN 1 60 && bX (nth b.az i).ay 1 3))=false then some 1 else none
def lb(b:an):Int:=if bX (b.az.length:Int) 1 4=false then 2 else (de (kl b) 0 b.az.length).getD 0
def mC(b:an)(i:Nat):b5 :=
 if hs b (nth b.a0 i).Place=false then some 6 else if bX (nth b.a0 i).g3 0 30=false then some 1 else none
def nU(b:an):Int:=if 3 < b.a0.length then 2 else (de (mC b) 0 b.a0.length).getD 0
def fi(b:an):Int:=if bX b.Rest 0 60=false then 1 else if jV b≠0 then jV b else if jl b≠0 then jl b else if jP b≠0 then jP b else if lb b≠0 then lb b else nU b
theorem sI{n:Int}{m:Nat}(hm:m≤1000):m64 n (m:Int)=some (if bX n 0 ((m:Int) - 1)=false then 6 else 0):=by
 unfold m64
 rw [lz,aF,c9 (by omega) (by omega)]
 cases bX n 0 ((m:Int) - 1) <;> rfl
theorem OT{b:an}(h:Small b):oP b=some (jV b):=by
 unfold oP jV
 have f:=h.rows
 rw [lz,aF]
 cases bX (b.Rows.length:Int) 1 4 with
 | false=>rfl
 | true =>
  simp only [Bool.not_true,a3,h7,if_false]
  refine iK (mz b) b.Rows.length (λ i hi=>?_) (by simp only [dX,a3]) rfl
  simp only [dec_lt hi,bf,b9,bl hi,aF,lz,cj (i:=i) (by omega)]
  unfold mz
  cases bX (nth b.Rows i).db 1 30 with
  | false=>rfl
  | true =>
   cases bX (nth b.Rows i).dr 1 60 with
   | false=>rfl
   | true =>
    by_cases c:0 < i
    ·simp only [xR c,Bool.not_true,a3,bf,fB (i:=i) (by omega) c,b9,bl (show i - 1 < b.Rows.length by omega),aF,c,if_true,Bool.and_self,h7,if_false]
     by_cases d:(nth b.Rows i).db≤(nth b.Rows (i - 1)).db
     ·simp [d]
     ·by_cases hd:(nth b.Rows i).dr > (nth b.Rows (i - 1)).dr
      ·simp [d,hd]
      ·simp [d,hd]
    ·simp [c]
theorem Ps{b:an}(h:Small b):sG b=some (if bX b.Rest 0 60=false then 1 else jV b):=by
 unfold sG jV
 have f:=h.rows
 rw [iF,aF]
 cases bX b.Rest 0 60 with
 | false=>rfl
 | true =>
 simp only [Bool.not_true,a3,h7,if_false]
 rw [iF,aF]
 cases bX (b.Rows.length:Int) 1 4 with
 | false=>rfl
 | true =>
  simp only [Bool.not_true,a3,h7,if_false]
  refine iK (mz b) b.Rows.length (λ i hi=>?_) (by simp only [dX,a3]) rfl
  simp only [dec_lt hi,bf,b9,bl hi,aF,iF,cj (i:=i) (by omega)]
  unfold mz
  cases bX (nth b.Rows i).db 1 30 with
  | false=>rfl
  | true =>
   cases bX (nth b.Rows i).dr 1 60 with
   | false=>rfl
   | true =>
    by_cases c:0 < i
    ·simp only [xR c,Bool.not_true,a3,bf,fB (i:=i) (by omega) c,b9,bl (show i - 1 < b.Rows.length by omega),aF,c,if_true,Bool.and_self,h7,if_false]
     by_cases d:(nth b.Rows i).db≤(nth b.Rows (i - 1)).db
     ·simp [d]
     ·by_cases hd:(nth b.Rows i).dr > (nth b.Rows (i - 1)).dr
      ·simp [d,hd]
      ·simp [d,hd]
    ·simp [c]
theorem OW{b:an}(h:Small b):oQ b=some (jl b):=by
 unfold oQ jl
 rw [lz,aF]
 cases bX (b.aJ.length:Int) 1 3 with
 | false=>rfl
 | true =>
  have c:=h.places
  simp only [Bool.not_true,a3,h7,if_false]
  rw [O5 (p:=λ x=>!kO x) (by omega) (λ x _=>by unfold oV kO; rw [O8 (by omega) (by omega)]; rfl),aF]
  cases b.aJ.any λ x=>!kO x <;> rfl
theorem OY{b:an}(h:Small b):oR b=some (jP b):=by
 unfold oR jP
 rw [lz,aF]
 cases bX (b.ay.length:Int) 1 4 with
 | false=>rfl
 | true =>
  have c:=h.kJ
  simp only [Bool.not_true,a3,h7,if_false]
  refine iK (lB b) b.ay.length (λ i hi=>?_) (by simp only [dX,a3]) rfl
  simp only [dec_lt hi,bf,b9,bl hi,aF,Pa,B0 (show i≤b.ay.length by omega),lz,
   Pd (l:=b.ay.take i) (f:=λ y=>oY y (nth b.ay i)) (p:=mB (nth b.ay i)) (by simp; omega) (λ x _=>rfl),cj (i:=i) (by omega)]
  unfold lB
  cases hO (nth b.ay i).Name with
  | false=>rfl
  | true =>
   cases (b.ay.take i).any (mB (nth b.ay i)) with
   | true=>rfl
   | false=>cases bX (nth b.ay i).hH 1 30 <;> rfl
theorem Pu{b:an}(h:Small b):sH b=some (if jl b≠0 then jl b else jP b):=by
 unfold sH jl
 rw [iF,aF]
 cases bX (b.aJ.length:Int) 1 3 with
 | false=>rfl
 | true =>
  have j:=h.places
  simp only [Bool.not_true,a3,h7,if_false]
  rw [zM (λ i=>if (λ x=>!kO x) (nth b.aJ i) then some (1:Int) else none) b.aJ.length (λ i hi=>?_) (by simp only [dX,a3])]
  ·rw [C6 (λ x=>!kO x) (1:Int) b.aJ b.aJ.length (cq _),List.take_length]
   cases b.aJ.any λ x=>!kO x with
   | true=>rfl
   | false =>
    simp only [fc,if_false,aF,Sum.elim_inl,ne_eq,fW]
    unfold jP
    rw [iF,aF]
    cases bX (b.ay.length:Int) 1 4 with
    | false=>rfl
    | true =>
     have hm:=h.kJ
     simp only [Bool.not_true,a3,h7,if_false]
     refine iK (lB b) b.ay.length (λ i hi=>?_) (by simp only [dX,a3]) rfl
     have g:=h.each _ (eJ hi)
     simp only [dec_lt hi,bf,b9,bl hi,aF,NO (show (nth b.ay i).Name.size≤1000 by omega)]
     rw [zM (λ k=>if mB (nth b.ay i) (nth b.ay k) then some (5:Int) else none) i (λ k f=>?_) (by simp only [dX,a3])]
     ·rw [C6 (mB (nth b.ay i)) (5:Int) b.ay i (by omega)]
      simp only [iF,aF,cj (i:=i) (by omega)]
      unfold lB
      cases hO (nth b.ay i).Name with
      | false=>rfl
      | true =>
       cases (b.ay.take i).any (mB (nth b.ay i)) with
       | true=>rfl
       | false=>cases bX (nth b.ay i).hH 1 30 <;> rfl
     ·simp only [dec_lt f,bf,b9,bl (show k < b.ay.length by omega),aF,cj (i:=k) (by omega)]
      rw [show ((nth b.ay k).Name.toList == (nth b.ay i).Name.toList)=mB (nth b.ay i) (nth b.ay k) from rfl]
      cases mB (nth b.ay i) (nth b.ay k) <;> rfl
  ·simp only [dec_lt hi,bf,b9,bl hi,aF,Pw,cj (i:=i) (by omega)]
   unfold kO
   by_cases d:lG (nth b.aJ i) 1 30=true
   ·have hw:decide (i64 ((nth b.aJ i).bh - (nth b.aJ i).aZ) ≥ 3)=!nY (nth b.aJ i) 3:=by
     rw [TJ (by omega) (by omega) d]
     unfold nY
     by_cases c:(nth b.aJ i).bh - (nth b.aJ i).aZ < 3
     ·simp [c]
     ·simp [c]; omega
    rw [hw]
    by_cases c:nY (nth b.aJ i) 3=true
    ·simp [d,c,a3]
    ·simp [d,c,a3,bf]
   ·simp [d,bf]
theorem O0{b:an}(h:Small b):oT b=some (lb b):=by
 unfold oT lb
 rw [lz,aF]
 cases bX (b.az.length:Int) 1 4 with
 | false=>rfl
 | true =>
  have c:=h.places
  have hd:=h.xU
  simp only [Bool.not_true,a3,h7,if_false]
  refine iK (kl b) b.az.length (λ i hi=>?_) (by simp only [dX,a3]) rfl
  simp only [dec_lt hi,bf,b9,bl hi,aF,sI (show b.aJ.length≤1000 by omega),lz,cj (i:=i) (by omega)]
  unfold kl hs
  cases bX (nth b.az i).Place 0 ((b.aJ.length:Int) - 1) with
  | false=>rfl
  | true=>cases bX (nth b.az i).fH 0 200 <;> cases bX (nth b.az i).eN 1 60 <;> cases bX (nth b.az i).ay 1 3 <;> rfl
theorem O2{b:an}(h:Small b):oU b=some (nU b):=by
 unfold oU nU
 have e:decide ((b.a0.length:Int) > 3)=decide (3 < b.a0.length):=mX (m:=3)
 rw [e]
 by_cases h3:3 < b.a0.length
 ·simp [h3]
 have c:=h.places
 simp only [h3,decide_false,a3,if_false]
 refine iK (mC b) b.a0.length (λ i hi=>?_) (by simp only [dX,a3]) rfl
 simp only [dec_lt hi,bf,b9,bl hi,aF,sI (show b.aJ.length≤1000 by omega),lz,cj (i:=i) (by omega)]
 unfold mC hs
 cases bX (nth b.a0 i).Place 0 ((b.aJ.length:Int) - 1) with
 | false=>rfl
 | true=>cases bX (nth b.a0 i).g3 0 30 <;> rfl
theorem E9{z:Int}{a c:b5}:ab (z != 0) a c=if z≠0 then a else c:=by
 by_cases h:z=0
 ·subst h; rfl
 ·rw [if_pos h,kL h]; rfl
theorem EF{b:an}(h:Small b):iG b=some (fi b):=by
 unfold iG fi
 rw [show (⟨b.Rest,b.Rows,b.aJ,b.ay,b.az,b.a0⟩:an)=b from rfl]
 unfold qg
 rw [lz,aF]
 cases bX b.Rest 0 60 with
 | false=>rfl
 | true =>
  simp only [Bool.not_true,a3,aF,OT h,OW h,OY h,O0 h,O2 h,E9,h7,if_false]
  by_cases h1:jV b=0
  ·by_cases h2:jl b=0
   ·by_cases h3:jP b=0
    ·by_cases h4:lb b=0
     ·by_cases h5:nU b=0
      ·simp [h1,h2,h3,h4,h5]
      ·simp [h1,h2,h3,h4,h5]
     ·simp [h1,h2,h3,h4]
    ·simp [h1,h2,h3]
   ·simp [h1,h2]
  ·simp [h1]
theorem EC{b:an}{n:Int}(h:Small b):qt b n=some (hs b n):=by
 unfold qt hs
 have c:=h.places
 rw [iF,c9 (by omega) (by omega)]
 rfl
theorem yR{b:an}(h:Small b):oG b=some (fi b):=by
 unfold oG fi
 rw [Ps h,aF]
 cases bX b.Rest 0 60 with
 | false=>rfl
 | true =>
  have d:=h.places
  have hd:=h.xU
  have f:=h.SO
  simp only [h7,if_false,Pu h,aF,E9]
  by_cases h1:jV b=0
  ·by_cases h2:jl b=0
   ·by_cases h3:jP b=0
    ·simp only [h1,h2,h3,ne_eq,fW,if_false]
     unfold lb
     rw [iF,aF]
     cases bX (b.az.length:Int) 1 4 with
     | false=>rfl
     | true =>
      simp only [Bool.not_true,a3,h7,if_false]
      rw [zM (kl b) b.az.length (λ i hi=>?_) (by simp only [dX,a3])]
      ·cases c:de (kl b) 0 b.az.length with
       | some o =>
        simp only [aF,Sum.elim_inr,gP]
        rw [if_pos]
        rintro rfl
        obtain ⟨j,_,_,he,_⟩:=lS c
        unfold kl at he
        split at he
        ·cases he
        ·split at he <;> cases he
       | none =>
        simp only [aF,Sum.elim_inl,Option.getD_none,fW,if_false]
        unfold nU
        have e:decide ((b.a0.length:Int) > 3)=decide (3 < b.a0.length):=mX (m:=3)
        rw [e]
        by_cases h3:3 < b.a0.length
        ·simp [h3]
        simp only [h3,decide_false,a3,if_false]
        refine iK (mC b) b.a0.length (λ i hi=>?_) (by simp only [dX,a3]) rfl
        simp only [dec_lt hi,bf,b9,bl hi,aF,EC h,iF,cj (i:=i) (by omega)]
        unfold mC
        cases hs b (nth b.a0 i).Place with
        | false=>rfl
        | true=>cases bX (nth b.a0 i).g3 0 30 <;> rfl
      ·simp only [dec_lt hi,bf,b9,bl hi,aF,EC h,iF,cj (i:=i) (by omega)]
       unfold kl
       cases hs b (nth b.az i).Place with
       | false=>rfl
       | true=>cases bX (nth b.az i).fH 0 200 <;> cases bX (nth b.az i).eN 1 60 <;> cases bX (nth b.az i).ay 1 3 <;> rfl
    ·simp [h1,h2,h3]
   ·simp [h1,h2]
  ·simp [h1]
theorem Px(b:an):m4 b=some (!oz b && (fi b == 0)):=by
 unfold m4
 rw [NV,aF]
 cases c:oz b with
 | true=>rfl
 | false=>rw [Bool.not_false,bf,yR (Mc c)]; rfl
structure G1 (r:dJ):Prop where
 depth:1≤r.db∧r.db≤30
 stay:1≤r.dr∧r.dr≤60
structure Au (P:Nat) (d:gD):Prop where
 place:0≤d.Place∧d.Place < (P:Int)
 xf:0≤d.fH∧d.fH≤200
 nW:1≤d.eN∧d.eN≤60
 kJ:1≤d.ay∧d.ay≤3
structure G3 (P:Nat) (s:c5):Prop where
 place:0≤s.Place∧s.Place < (P:Int)
 line:0≤s.g3∧s.g3≤30
structure Valid (b:an):Prop where
 rest:0≤b.Rest∧b.Rest≤60
 r1:1≤b.Rows.length
 r4:b.Rows.length≤4
 row:∀ r∈b.Rows,G1 r
 BT:∀ i,0 < i→i < b.Rows.length→(nth b.Rows (i - 1)).db < (nth b.Rows i).db∧(nth b.Rows i).dr≤(nth b.Rows (i - 1)).dr
 p1:1≤b.aJ.length
 p3:b.aJ.length≤3
 place:∀ x∈b.aJ,1≤x.aZ∧x.aZ≤x.bh∧x.bh≤30∧x.bh - x.aZ < 3
 m1:1≤b.ay.length
 m4:b.ay.length≤4
 zd:∀ m∈b.ay,hO m.Name=true∧1≤m.hH∧m.hH≤30
 names:∀ i,i < b.ay.length→(b.ay.take i).any (mB (nth b.ay i))=false
 d1:1≤b.az.length
 d4:b.az.length≤4
 xT:∀ d∈b.az,Au b.aJ.length d
 s3:b.a0.length≤3
 sound:∀ s∈b.a0,G3 b.aJ.length s
theorem Sg{b:an}(i:Nat):mz b i≠some 0:=by
 unfold mz
 intro h
 repeat' split at h
 all_goals cases h
theorem Qf{b:an}(i:Nat):lB b i≠some 0:=by
 unfold lB
 intro h
 repeat' split at h
 all_goals cases h
theorem Ir{b:an}(i:Nat):kl b i≠some 0:=by
 unfold kl
 intro h
 repeat' split at h
 all_goals cases h
theorem SN{b:an}(i:Nat):mC b i≠some 0:=by
 unfold mC
 intro h
 repeat' split at h
 all_goals cases h
theorem zI{b:an}{i:Nat}:mz b i=none↔((1≤(nth b.Rows i).db∧(nth b.Rows i).db≤30)∧(1≤(nth b.Rows i).dr∧(nth b.Rows i).dr≤60))∧(0 < i→(nth b.Rows (i - 1)).db < (nth b.Rows i).db∧(nth b.Rows i).dr≤(nth b.Rows (i - 1)).dr):=by
 unfold mz
 by_cases h1:(bX (nth b.Rows i).db 1 30 && bX (nth b.Rows i).dr 1 60)=false
 ·rw [if_pos h1]
  simp only [reduceCtorEq,false_iff]
  rintro ⟨⟨h2,h3⟩,_⟩
  rw [dE.2 h2,dE.2 h3] at h1
  cases h1
 ·rw [if_neg h1]
  simp only [Bool.not_eq_false,cO,dE] at h1
  by_cases c:0 < i
  ·rw [if_pos c]
   constructor
   ·intro h
    split at h
    ·cases h
    ·split at h
     ·cases h
     ·exact ⟨h1,λ _=>by omega⟩
   ·rintro ⟨_,h2⟩
    have:=h2 c
    rw [if_neg (by omega),if_neg (by omega)]
  ·rw [if_neg c]
   exact ⟨λ _=>⟨h1,λ h=>absurd h c⟩,λ _=>rfl⟩
theorem Fl{x:Reach}:kO x=true↔1≤x.aZ∧x.aZ≤x.bh∧x.bh≤30∧x.bh - x.aZ < 3:=by
 unfold kO
 rw [cO,Ru,TK]
 omega
theorem kS{b:an}:fi b=0↔Valid b:=by
 constructor
 ·intro h
  unfold fi at h
  by_cases h1:bX b.Rest 0 60=false
  ·rw [if_pos h1] at h; cases h
  rw [if_neg h1] at h
  by_cases h2:jV b=0
  case neg=>rw [if_pos h2] at h; exact absurd h h2
  rw [if_neg (by simpa using h2)] at h
  by_cases h3:jl b=0
  case neg=>rw [if_pos h3] at h; exact absurd h h3
  rw [if_neg (by simpa using h3)] at h
  by_cases h4:jP b=0
  case neg=>rw [if_pos h4] at h; exact absurd h h4
  rw [if_neg (by simpa using h4)] at h
  by_cases h5:lb b=0
  case neg=>rw [if_pos h5] at h; exact absurd h h5
  rw [if_neg (by simpa using h5)] at h
  unfold jV at h2
  unfold jl at h3
  unfold jP at h4
  unfold lb at h5
  unfold nU at h
  split at h2
  ·cases h2
  rename_i y
  split at h3
  ·cases h3
  rename_i z
  split at h3
  ·cases h3
  rename_i k3
  split at h4
  ·cases h4
  rename_i A
  split at h5
  ·cases h5
  rename_i B
  split at h
  ·cases h
  rename_i D
  simp only [Bool.not_eq_false,dE] at h1 y z A B
  have r:=rW Sg h2
  have m:=rW Qf h4
  have d:=rW Ir h5
  have s:=rW SN h
  refine ⟨h1,by omega,by omega,λ x c=>?_,λ i j hi=>(zI.1 (r i hi)).2 j,by omega,by omega,λ x c=>?_,by omega,by omega,λ x c=>?_,λ i hi=>?_,by omega,by omega,λ x c=>?_,by omega,λ x c=>?_⟩
  ·obtain ⟨i,hi,rfl⟩:=iI c
   obtain ⟨⟨g,f⟩,_⟩:=zI.1 (r i hi)
   exact ⟨g,f⟩
  ·have:b.aJ.any (λ x=>!kO x)=false:=by simpa using k3
   rw [List.any_eq_false] at this
   have:=this x c
   exact Fl.1 (by simpa using this)
  ·obtain ⟨i,hi,rfl⟩:=iI c
   have:=m i hi
   unfold lB at this
   split at this
   ·cases this
   ·split at this
    ·cases this
    ·split at this
     ·cases this
     ·rename_i g f k
      rw [Bool.not_eq_false,dE] at k
      exact ⟨by simpa using g,k⟩
  ·have:=m i hi
   unfold lB at this
   split at this
   ·cases this
   ·split at this
    ·cases this
    ·rename_i g f
     simpa using f
  ·obtain ⟨i,hi,rfl⟩:=iI c
   have:=d i hi
   unfold kl hs at this
   split at this
   ·cases this
   ·split at this
    ·cases this
    ·rename_i g f
     rw [Bool.not_eq_false,dE] at g
     rw [Bool.not_eq_false,cO,cO,dE,dE,dE] at f
     exact ⟨by omega,f.1,f.2.1,f.2.2⟩
  ·obtain ⟨i,hi,rfl⟩:=iI c
   have:=s i hi
   unfold mC hs at this
   split at this
   ·cases this
   ·split at this
    ·cases this
    ·rename_i g f
     rw [Bool.not_eq_false,dE] at g f
     exact ⟨by omega,f⟩
 ·intro h
  have e1:jV b=0:=by
   unfold jV
   have E:=h.r1
   have F:=h.r4
   rw [if_neg (by rw [Bool.not_eq_false,dE]; omega),iu.2 λ i _ hi=>?_]
   ·rfl
   ·have c:=h.row _ (eJ (l:=b.Rows) (i:=i) (by omega))
    exact zI.2 ⟨⟨c.depth,c.stay⟩,λ j=>h.BT i j (by omega)⟩
  have n:jl b=0:=by
   unfold jl
   have h1:=h.p1
   have h3:=h.p3
   rw [if_neg (by rw [Bool.not_eq_false,dE]; omega),if_neg]
   rw [Bool.not_eq_true,List.any_eq_false]
   intro x c
   simpa using Fl.2 (h.place x c)
  have o:jP b=0:=by
   unfold jP
   have h1:=h.m1
   have h4:=h.m4
   rw [if_neg (by rw [Bool.not_eq_false,dE]; omega),iu.2 λ i _ hi=>?_]
   ·rfl
   ·have c:=h.zd _ (eJ (l:=b.ay) (i:=i) (by omega))
    unfold lB
    rw [if_neg (by simp [c.1]),if_neg (by rw [h.names i (by omega)]; simp),if_neg (by rw [Bool.not_eq_false,dE]; exact c.2)]
  have p:lb b=0:=by
   unfold lb
   have h1:=h.d1
   have h4:=h.d4
   rw [if_neg (by rw [Bool.not_eq_false,dE]; omega),iu.2 λ i _ hi=>?_]
   ·rfl
   ·have c:=h.xT _ (eJ (l:=b.az) (i:=i) (by omega))
    have C:=c.place
    unfold kl hs
    rw [if_neg (by rw [Bool.not_eq_false,dE]; omega),if_neg]
    rw [Bool.not_eq_false,cO,cO,dE,dE,dE]
    exact ⟨c.xf,c.nW,c.kJ⟩
  have w:nU b=0:=by
   unfold nU
   have h3:=h.s3
   rw [if_neg (by omega),iu.2 λ i _ hi=>?_]
   ·rfl
   ·have c:=h.sound _ (eJ (l:=b.a0) (i:=i) (by omega))
    have C:=c.place
    unfold mC hs
    rw [if_neg (by rw [Bool.not_eq_false,dE]; omega),if_neg (by rw [Bool.not_eq_false,dE]; exact c.line)]
  unfold fi
  rw [if_neg (by rw [Bool.not_eq_false,dE]; exact h.rest)]
  simp [e1,n,o,p,w]
theorem Valid.small{b:an}(h:Valid b)(c:∀ p∈b.ay,p.Name.size≤100):Small b:=by
 have h1:=h.r4
 have h2:=h.p3
 have h3:=h.m4
 have h4:=h.d4
 have h5:=h.s3
 exact ⟨by omega,by omega,by omega,by omega,by omega,c⟩
theorem Mw{s:ByteArray}(h:hO s=true):s.size≤12:=by
 unfold hO at h
 cases b:de (g9 s) 0 s.size with
 | some o =>
  rw [b,gP] at h
  rw [Ds b] at h
  cases h
 | none =>
  rw [b,Option.getD_none,dE] at h
  omega
theorem Valid.sm{b:an}(h:Valid b):Small b:=h.small λ p c=>by have:=Mw (h.zd p c).1; omega
theorem Valid.each{b:an}(h:Valid b){i:Nat}(hi:i < b.aJ.length):1≤(nth b.aJ i).aZ∧(nth b.aJ i).aZ≤(nth b.aJ i).bh∧(nth b.aJ i).bh≤30∧(nth b.aJ i).bh - (nth b.aJ i).aZ < 3:=h.place _ (eJ hi)
theorem Mi{α:Type}[Inhabited α]{l:List α}{n:Int}(b:0≤n)(h:n < (l.length:Int)):idx l n=some (nth l n.toNat):=by
 unfold idx
 rw [if_pos b]
 exact bl (by omega)
def nN(b:an)(w:ah):Bool:=b.a0.all λ s=>decide (nth w s.Place.toNat≤s.g3) == s.mL
abbrev oy(b:an):Nat→ah→ah:=λ i _=>my (nth b.aJ i)
def b7(b:an):bB:=(lvl (oy b) b.aJ.length).filter (nN b)
theorem qE{b:an}{c:ah}:c∈b7 b↔(c.length=b.aJ.length∧∀ i,i < b.aJ.length→(nth b.aJ i).aZ≤nth c i∧nth c i≤(nth b.aJ i).bh)∧nN b c=true:=by
 unfold b7
 rw [List.mem_filter,nA]
 simp only [oy,E0]
theorem H7(b:an):(b7 b).Pairwise (oE (· < ·)):=(uZ (λ _ _=>Sa _) _).filter _
theorem H6(b:an):(b7 b).Nodup:=zo (yK Di) (H7 b)
def gZ(c:ah):bc:=⟨hq [0,0,0] c⟩
theorem BX{c:ah}(h:c.length≤3):(hq [0,0,0] c).length=3∧(∀ i,i < c.length→nth (hq [0,0,0] c) i=nth c i)∧∀ i,c.length≤i→i < 3→nth (hq [0,0,0] c) i=0:=by
 match c,h with
 | [],_=>exact ⟨rfl,λ i hi=>by simp at hi,λ i _ hi=>by match i,hi with | 0,_=>rfl | 1,_=>rfl | 2,_=>rfl⟩
 | [_],_=>exact ⟨rfl,λ i hi=>by match i,hi with | 0,_=>rfl,λ i h1 hi=>by match i,h1,hi with | 1,_,_=>rfl | 2,_,_=>rfl⟩
 | [_,_],_=>exact ⟨rfl,λ i hi=>by match i,hi with | 0,_=>rfl | 1,_=>rfl,λ i h1 hi=>by match i,h1,hi with | 2,_,_=>rfl⟩
 | [_,_,_],_=>exact ⟨rfl,λ i hi=>by match i,hi with | 0,_=>rfl | 1,_=>rfl | 2,_=>rfl,λ i h1 hi=>by simp at h1; omega⟩
structure iO (P:Nat) (pre w:ah):Prop where
 len:w.length=3
 pre:∀ i,i < pre.length→nth w i=nth pre i
 rest:∀ i,P≤i→i < 3→nth w i=0
theorem iO.gZ{P:Nat}{pre w:ah}(h:iO P pre w)(b:pre.length=P)(h3:P≤3):w=hq [0,0,0] pre:=by
 obtain ⟨h1,h2,h4⟩:=BX (c:=pre) (by omega)
 refine Fe (by rw [h.len,h1]) λ i hi=>?_
 by_cases hl:i < pre.length
 ·rw [h.pre i hl,h2 i hl]
 ·rw [h.rest i (by omega) (by rw [← h.len]; exact hi),h4 i (by omega) (by rw [← h.len]; exact hi)]
theorem iO.set{P:Nat}{pre w:ah}(h:iO P pre w)(b:pre.length < P)(h3:P≤3)(n:Int):iO P (pre++[n]) (w.set pre.length n):=by
 have hl:=h.len
 refine ⟨by simpa using hl,λ i hi=>?_,λ i h1 h2=>?_⟩
 ·by_cases e:i=pre.length
  ·subst e
   rw [sY (by omega),lD]
  ·rw [pe (by omega)]
   simp only [gi,List.length_cons,List.length_nil] at hi
   rw [kM (by omega)]
   exact h.pre i (by omega)
 ·rw [pe (by omega)]
  exact h.rest i h1 h2
theorem iO.back{P:Nat}{pre w:ah}{n:Int}(h:iO P (pre++[n]) w):iO P pre w:=⟨h.len,λ i hi=>by rw [h.pre i (by simp; omega),kM hi],h.rest⟩
theorem NS{b:an}(d:Valid b){c:ah}{w:bc}(hw:∀ i,i < b.aJ.length→nth w.deep i=nth c i)(hl:w.deep.length=3):ng b w=some (nN b c):=by
 unfold ng
 have h3:=d.s3
 have g:=d.p3
 rw [Oy (p:=λ s=>!(decide (nth c s.Place.toNat≤s.g3) == s.mL)) (by omega) (λ s f=>?_),aF]
 ·unfold nN
  congr 1
  rw [List.not_any_eq_all_not]
  congr 1
  funext s
  simp
 ·have:=(d.sound s f).place
  unfold oK
  rw [Mi this.1 (by omega),aF,hw _ (by omega)]
theorem yP{α S X O:Type}{ys:α→S→Option (S × Bool)}{body:S × X→Option ((S × X) ⊕ O)}(d:Nat→List α)(n:Nat)(I:Nat→X→Prop)(F Q:S→O→Prop)
  (h:∀ j s x r,j < n→I j x→di ys (d j) s=some r→if r.2=true then ∃ x',body (s,x)=some (.inl (r.1,x'))∧I (j+1) x' else ∃ o,body (s,x)=some (.inr o)∧Q r.1 o) (f:∀ s x,I n x→∃ o,body (s,x)=some (.inr o)∧F s o) :
  ∀ (k j:Nat) (s:S) (x:X) (r:S × Bool),j+k=n→I j x→di ys ((List.range' j k).flatMap d) s=some r→∃ o,bb body (s,x)=some o∧if r.2=true then F r.1 o else Q r.1 o
 | 0,j,s,x,r,g,c,b=>by
  simp only [List.range'_zero,List.flatMap_nil,di,ey] at b
  subst b
  obtain rfl:j=n:=by omega
  obtain ⟨o,h1,h2⟩:=f s x c
  exact ⟨o,gf h1,by simpa using h2⟩
 | k+1,j,s,x,r,g,c,b=>by
  rw [List.range'_succ,List.flatMap_cons,rR] at b
  obtain ⟨q,i,b⟩:=af b
  have hb:=h j s x q (by omega) c i
  split at b
  ·rename_i h2
   rw [if_pos h2] at hb
   obtain ⟨x',h3,h4⟩:=hb
   rw [kq h3]
   exact yP d n I F Q h f k (j+1) q.1 x' r (by omega) h4 b
  ·rename_i h2
   rw [if_neg h2] at hb
   obtain ⟨o,h3,h4⟩:=hb
   cases b
   exact ⟨o,gf h3,by simpa using h4⟩
theorem D9{b:an}(p:Valid b){S:Type}(ys:bc→S→Option (S × Bool)):∀ (j k:Nat) (pre:ah) (w:bc) (s:S) (r:S × Bool),pre.length+j=b.aJ.length→j < k→iO b.aJ.length pre w.deep →
  di ys (((tree (oy b) j pre.length pre).filter (nN b)).map gZ) s=some r→∃ w',jd ys k (pre.length:Int) b w s=some (r.1,(w',r.2))∧iO b.aJ.length pre w'.deep
 | _,0,_,_,_,_,_,F,_,_=>by omega
 | 0,k+1,pre,w,s,r,hl,_,hw,g=>by
  rw [Nat.add_zero] at hl
  have h3:=p.p3
  unfold jd
  rw [show ((pre.length:Int) == (b.aJ.length:Int))=true by rw [hl]; simp,bf,NS (c:=pre) p (λ i hi=>hw.pre i (by omega)) hw.len,aF]
  simp only [tree] at g
  have D:w=gZ pre:=by
   obtain ⟨d⟩:=w
   exact congrArg bc.mk (hw.gZ hl h3)
  refine ⟨w,?_,hw⟩
  cases y:nN b pre with
  | true =>
   simp only [List.filter_cons,y,if_true,List.filter_nil,List.map_cons,List.map_nil,di] at g
   obtain ⟨q,B,g⟩:=af g
   rw [← D] at B
   simp only [Bool.not_true,a3,B,aF]
   split at g
   ·rename_i h2; cases g; rw [h2]
   ·rename_i h2; cases g; simp at h2; rw [h2]
  | false =>
   simp [y,di] at g
   subst g
   rfl
 | j+1,k+1,pre,w,s,r,hl,F,hw,g=>by
  have h3:=p.p3
  have G:=p.each (i:=pre.length) (by omega)
  unfold jd
  rw [show ((pre.length:Int) == (b.aJ.length:Int))=false by simp; omega,a3,b9,bl (by omega),aF]
  generalize E:nth b.aJ pre.length=X at G
  refine Exists.elim (yP (ys:=ys) (S:=S) (X:=Int × ah) (O:=(S × ah) ⊕ (S × (bc × Bool))) (body:=λ (f:(S × Int × ah)) =>
   (some X:Option Reach).bind λ C =>
   ab (decide (f.2.1≤C.bh))
   ((idx f.2.2 (pre.length:Int)).bind λ H =>
   (jd ys k (i64 ((pre.length:Int)+1)) b (⟨f.2.2.set (pre.length:Int).toNat f.2.1⟩:bc) f.1).bind λ m =>
   ab (!m.2.2)
   (some (.inr (.inr (m.1,(m.2.1,false)))))
   (some (.inl (m.1,i64 (f.2.1+1),m.2.1.deep))))
   (some (.inr (.inl (f.1,f.2.2)))))
   (λ q=>((tree (oy b) j (pre.length+1) (pre++[X.aZ+(q:Int)])).filter (nN b)).map gZ) (X.bh+1 - X.aZ).toNat (λ q x=>x.1=X.aZ+(q:Int)∧iO b.aJ.length pre x.2)
   (λ s o=>∃ d,o = .inl (s,d)∧iO b.aJ.length pre d) (λ s o=>∃ w',o = .inr (s,(w',false))∧iO b.aJ.length pre w'.deep)
   (λ q s x r B z g=>?_) (λ s x z=>?_) (X.bh+1 - X.aZ).toNat 0 s (X.aZ,w.deep) r (by omega) ⟨by simp,hw⟩ ?_) ?_
  ·obtain ⟨n,d⟩:=x
   obtain ⟨rfl,hd⟩:=z
   have y:=hd.set (n:=X.aZ+(q:Int)) (by omega) h3
   obtain ⟨w',h1,h2⟩:=D9 p ys j k (pre++[X.aZ+(q:Int)]) ⟨d.set pre.length (X.aZ+(q:Int))⟩ s r (by simp; omega) (by omega) y (by simpa using g)
   have I:d.length=3:=hd.len
   simp only [gi,List.length_cons,List.length_nil,Nat.zero_add] at h1
   simp only [aF,show decide (X.aZ+(q:Int)≤X.bh)=true by simp; omega,bf,b9,bl (show pre.length < d.length by omega),cI,cj (i:=pre.length) (by omega),h1]
   have e1:i64 (X.aZ+(q:Int)+1)=X.aZ+((q+1:Nat):Int):=by rw [c9 (by omega) (by omega)]; omega
   cases J:r.2 with
   | true=>exact ⟨(X.aZ+((q+1:Nat):Int),w'.deep),by simp [e1,a3],rfl,h2.back⟩
   | false=>exact ⟨.inr (r.1,(w',false)),by simp [bf],w',rfl,h2.back⟩
  ·obtain ⟨n,d⟩:=x
   obtain ⟨rfl,hd⟩:=z
   refine ⟨.inl (s,d),?_,d,rfl,hd⟩
   simp only [aF,show decide (X.aZ+(((X.bh+1 - X.aZ).toNat:Nat):Int)≤X.bh)=false by simp; omega,a3]
  ·rw [← g,← List.range_eq_range']
   congr 1
   simp only [tree,oy,E,my,List.flatMap_map,List.map_flatMap,List.filter_flatMap]
  ·rintro o ⟨ho,A⟩
   rw [show (bb (O:=((S × ah) ⊕ (S × (bc × Bool)))) (λ (f:(S × Int × ah)) =>
    (some X:Option Reach).bind λ C =>
    ab (decide (f.2.1≤C.bh))
    ((idx f.2.2 (pre.length:Int)).bind λ H =>
    (jd ys k (i64 ((pre.length:Int)+1)) b (⟨f.2.2.set (pre.length:Int).toNat f.2.1⟩:bc) f.1).bind λ m =>
    ab (!m.2.2)
    (some (.inr (.inr (m.1,(m.2.1,false)))))
    (some (.inl (m.1,i64 (f.2.1+1),m.2.1.deep))))
    (some (.inr (.inl (f.1,f.2.2))))) (s,X.aZ,w.deep))=some o from ho,aF]
   split at A
   ·rename_i h2
    obtain ⟨d,rfl,hd⟩:=A
    exact ⟨⟨d⟩,by simp [h2],hd⟩
   ·rename_i h2
    obtain ⟨w',rfl,hd⟩:=A
    exact ⟨w',by simp at h2; simp [h2],hd⟩
theorem PD{b:an}(c:Valid b){S:Type}(ys:bc→S→Option (S × Bool)){s:S}{r:S × Bool}(f:di ys ((b7 b).map gZ) s=some r):hR ys b s=some r.1:=by
 have h3:=c.p3
 unfold hR
 obtain ⟨w',h1,_⟩:=D9 c ys b.aJ.length 9 [] ⟨[0,0,0]⟩ s r (by simp) (by omega) ⟨rfl,λ i hi=>by simp at hi,λ i _ hi=>by match i,hi with | 0,_=>rfl | 1,_=>rfl | 2,_=>rfl⟩ (by rw [← f]; unfold b7; simp only [List.length_nil]; rw [wB])
 have d:jd ys 9 0 b ⟨[0,0,0]⟩ s=some (r.1,(w',r.2)):=h1
 rw [d]
 rfl
theorem D5{b:an}(c:Valid b):∀ i,i≤b.aJ.length→(lvl (oy b) i).length≤3 ^ i
 | 0,_=>by simp [lvl]
 | i+1,h=>by
  have f:=D5 c i (by omega)
  have d:=FI (c.each (i:=i) (by omega)).2.2.2
  simp only [lvl]
  refine Nat.le_trans (pS _ 3 (λ a=>?_) _) ?_
  ·simpa using d
  ·rw [Nat.pow_succ]; omega
theorem Hb{b:an}(c:Valid b):(lvl (oy b) b.aJ.length).length≤27:=by
 refine Nat.le_trans (D5 c _ (cq _)) ?_
 have h1:=c.p1
 have h3:=c.p3
 match b.aJ.length,h1,h3 with
 | 1,_,_=>decide
 | 2,_,_=>decide
 | 3,_,_=>decide
theorem tY{b:an}(c:Valid b):(b7 b).length≤27:=Nat.le_trans (List.length_filter_le _ _) (Hb c)
theorem EG{b:an}(d:Valid b):l6 (λ y s=>hR y b s)=some ((b7 b).map gZ):=by
 unfold l6 pX
 have hl:=tY d
 have key:∀ (l a:List bc),l.foldl (λ s c=>s++[c]) a=a++l:=by
  intro l
  induction l with
  | nil=>simp
  | cons c l i=>intro a; rw [List.foldl_cons,i]; simp
 dsimp only
 rw [PD d _ (r:=(.inl ((((b7 b).map gZ).foldl (λ (s:List bc) c=>s++[c]) [])),true)) (rS (λ k s=>s.length=k) (λ c s=>s++[c]) _ 0 [] rfl (λ j s a f g _=>by
  simp only [List.length_map] at f
  rw [jD (by simp; omega)]
  exact ⟨rfl,by simp [g]⟩))]
 rw [key]
 rfl
def tZ(b:an):Int × Int:=if fi b≠0 then (0,fi b) else ((b7 b).length,0)
theorem BO{b:an}(c:Valid b):tZ b=(((b7 b).length:Int),0):=by
 unfold tZ
 simp [kS.2 c]
theorem Ej{b:an}(c:Small b):lq b=some (tZ b):=by
 unfold lq tZ
 rw [EF c,aF]
 by_cases h1:fi b=0
 ·have d:=kS.1 h1
  simp only [h1,bne_self_eq_false,a3,ne_eq,fW,if_false]
  rw [show (⟨b.Rest,b.Rows,b.aJ,b.ay,b.az,b.a0⟩:an)=b from rfl,EG d,aF,List.length_map]
 ·simp only [h1,ne_eq,not_false_eq_true,if_true,kL h1,bf]
def QF:bU:=⟨⟨0,[],[],[],[],[]⟩,[]⟩
def ek(b:an):bU:=⟨b,(b7 b).map gZ⟩
def eY(b:an)(own:Int):Int:=if fi b≠0 then fi b else if own≠0 then own else if b7 b=[] then 9 else 0
theorem rP{b:an}{own:Int}(h:eY b own=0):Valid b∧own=0∧b7 b≠[]:=by
 unfold eY at h
 split at h
 ·rename_i h1; exact absurd h h1
 ·rename_i h1
  split at h
  ·rename_i h2; exact absurd h h2
  ·rename_i h2
   split at h
   ·cases h
   ·rename_i h3; exact ⟨kS.1 (by simpa using h1),by simpa using h2,h3⟩
theorem CQ{b:an}{own:Int}(c:Valid b)(h2:own=0)(h3:b7 b≠[]):eY b own=0:=by
 unfold eY
 simp [kS.2 c,h2,h3]
def nH(b:an)(own:Int):bU × Int:=if eY b own≠0 then (QF,eY b own) else (ek b,0)
theorem qy{b:an}(i:Small b){f:an→b5}{own:Int}(g:fi b=0→f b=some own):hS b f=some (nH b own):=by
 unfold hS nH eY
 rw [EF i,aF]
 by_cases h1:fi b=0
 ·have j:=kS.1 h1
  simp only [h1,bne_self_eq_false,a3,ne_eq,fW,if_false,g h1,aF]
  by_cases h2:own=0
  ·simp only [h2,bne_self_eq_false,a3,fW,if_false,EG j,aF,List.length_map]
   cases d:b7 b with
   | nil=>rfl
   | cons c l =>
    rw [if_neg (by simp),show ((((c::l).length:Nat):Int) == 0)=false by simp; omega,a3]
    unfold ek
    rw [d]
  ·simp only [h2,not_false_eq_true,if_true,kL h2,bf]
   rfl
 ·simp only [h1,ne_eq,not_false_eq_true,if_true,kL h1,bf]
  rfl
def zT(b:an)(n:Int):Int:=match b.Rows.find? (λ r=>decide (n≤r.db)) with | some r=>r.dr | none=>0
theorem PC{b:an}(c:b.Rows.length≤20)(n:Int):lA b n=some (zT b n):=by
 unfold lA zT
 rw [NI (l:=b.Rows) (λ r=>decide (n≤r.db)) (λ r=>r.dr) (λ i hi=>?_) (by simp only [dX,a3])]
 ·cases b.Rows.find? (λ r=>decide (n≤r.db)) <;> rfl
 ·simp only [dec_lt hi,bf,b9,bl hi,aF,cj (i:=i) (by omega)]
  cases decide (n≤(nth b.Rows i).db) <;> rfl
def tC(b:an)(i j:Nat):Bool:=decide ((nth b.az i).fH+(nth b.az i).eN+b.Rest≤(nth b.az j).fH)
def mR(b:an)(i j:Nat):Bool:=tC b i j || tC b j i
theorem Valid.dv{b:an}(h:Valid b){i:Nat}(hi:i < b.az.length):Au b.aJ.length (nth b.az i):=h.xT _ (eJ hi)
theorem He{b:an}(c:Valid b){i:Nat}(hi:i < b.az.length):mR b i i=false:=by
 have:=c.dv hi
 have h2:=this.nW
 have h3:=c.rest
 simp [mR,tC]
 omega
theorem PL{b:an}(c:Valid b){i j:Nat}(hi:i < b.az.length)(d:j < b.az.length):nu b (i:Int) (j:Int)=some (mR b i j):=by
 have h1:=(c.dv hi).xf
 have h2:=(c.dv hi).nW
 have h3:=(c.dv d).xf
 have h4:=(c.dv d).nW
 have h5:=c.rest
 unfold nu
 simp only [b9,bl hi,bl d,aF]
 rw [c9 (z:=(nth b.az i).fH+(nth b.az i).eN) (by omega) (by omega),c9 (by omega) (by omega),c9 (z:=(nth b.az j).fH+(nth b.az j).eN) (by omega) (by omega),c9 (by omega) (by omega),NA]
 by_cases e:i=j
 ·subst e
  rw [He c hi]
  simp [a3]
 ·simp only [e,ne_eq,not_false_eq_true,decide_true,bf,mR,tC,ge_iff_le]
  cases decide ((nth b.az i).fH+(nth b.az i).eN+b.Rest≤(nth b.az j).fH) <;> rfl
def oB(b:an)(n:Int):Bool:=bX n 0 ((b.az.length:Int) - 1)
def oC(b:an)(n:Int):Bool:=bX n 0 ((b.ay.length:Int) - 1)
theorem Dk{b:an}{n:Int}:oB b n=true↔∃ i:Nat,n=(i:Int)∧i < b.az.length:=by
 unfold oB
 rw [dE]
 constructor
 ·intro h; exact ⟨n.toNat,by omega,by omega⟩
 ·rintro ⟨i,rfl,h⟩; omega
theorem Dl{b:an}{n:Int}:oC b n=true↔∃ i:Nat,n=(i:Int)∧i < b.ay.length:=by
 unfold oC
 rw [dE]
 constructor
 ·intro h; exact ⟨n.toNat,by omega,by omega⟩
 ·rintro ⟨i,rfl,h⟩; omega
def hx(n a:Nat):Bool:=xE a == some (cB n a) && decide ((cB n a).length≤4)
def Fj(n a c:Nat):Bool:=(match tR (cB n a) (cB n c) with | some z=>decide (z < 0) == iz (cB n a) (cB n c) | none=>false)
set_option maxRecDepth 1000000 in
theorem vp:((List.range 5).all λ n=>gX .i64 1 n == some ((2 ^ n:Nat):Int) && (List.range (2 ^ n)).all λ a=>hx n a && (List.range (2 ^ n)).all λ c=>Fj n a c)=true:=by decide +kernel
set_option maxRecDepth 1000000 in
theorem SA{n:Nat}(h:n < 5):gX .i64 1 (n:Int)=some ((2 ^ n:Nat):Int):=by
 have:=vp
 simp only [List.all_eq_true,List.mem_range,cO,beq_iff_eq] at this
 exact (this n h).1
theorem ET{n a:Nat}(h:n < 5)(b:a < 2 ^ n):me a=some (cB n a):=by
 have:=vp
 simp only [List.all_eq_true,List.mem_range,cO,beq_iff_eq] at this
 have h1:=((this n h).2 a b).1
 simp only [hx,cO,beq_iff_eq] at h1
 exact DF _ _ h1.1
theorem Qn{n a:Nat}(h:n < 5)(b:a < 2 ^ n):(cB n a).length≤4:=by
 have:=vp
 simp only [List.all_eq_true,List.mem_range,cO,beq_iff_eq] at this
 have h1:=((this n h).2 a b).1
 simp only [hx,cO,beq_iff_eq,decide_eq_true_eq] at h1
 exact h1.2
theorem Qk{n a c:Nat}(h:n < 5)(f:a < 2 ^ n)(g:c < 2 ^ n):∃ z,oH (cB n a) (cB n c)=some z∧decide (z < 0)=iz (cB n a) (cB n c):=by
 have:=vp
 simp only [List.all_eq_true,List.mem_range,cO,beq_iff_eq] at this
 have h1:=((this n h).2 a f).2 c g
 simp only [Fj] at h1
 have b:=h1
 cases d:tR (cB n a) (cB n c) with
 | none=>rw [d] at b; cases b
 | some z=>rw [d] at b; exact ⟨z,Dw _ _ _ d,by simpa using b⟩
theorem SK{n:Nat}{P:Nat→Bool}:∀ {k:Nat},(df n P k).2=true→∃ c,c < k∧(df n P k).1=cB n c:=by
 intro k h
 rcases wc n P k with ⟨h1,_⟩ | ⟨_,⟨a,b,_,he⟩,_⟩
 ·rw [h1] at h; cases h
 ·exact ⟨a,b,he⟩
theorem ER{n:Nat}(g:n < 5){f:Int→a5}{P:Nat→Bool}(s:∀ a:Nat,a < 2 ^ n→f (a:Int)=some (P a)):mb (n:Int) f=some (df n P (2 ^ n)):=by
 have B:=zy g
 unfold mb
 rw [SA g,aF]
 rw [eP (o:=df n P (2 ^ n)) ?_]
 have k:(([]:ah),false,(0:Int))=(λ i:Nat=>((df n P i).1,(df n P i).2,(i:Int))) 0:=rfl
 rw [k]
 refine iB (λ i:Nat=>((df n P i).1,(df n P i).2,(i:Int))) (2 ^ n) (λ i hi=>?_) (by simp only [dX,a3])
 simp only [dec_lt hi,bf,ET g hi,aF,s i hi,cj (i:=i) (by omega),df,qU]
 cases b:(df n P i).2 with
 | false=>cases P i <;> simp [bf,a3,b]
 | true =>
  obtain ⟨c,A,d⟩:=SK b
  obtain ⟨z,w,y⟩:=Qk g hi (by omega:c < 2 ^ n)
  simp only [d,Bool.not_true,a3,w,aF,y,Bool.false_or,iY]
  by_cases h1:(cB n i).length < (cB n c).length
  ·have j:decide (((cB n i).length:Int) < ((cB n c).length:Int))=true:=dec_lt h1
   simp only [j,bf,h1,decide_true,Bool.true_or,Bool.true_and,aF]
   cases P i <;> simp [bf,a3,b,d]
  ·have j:decide (((cB n i).length:Int) < ((cB n c).length:Int))=false:=by simpa using h1
   simp only [j,a3,h1,decide_false,Bool.false_or]
   by_cases h2:(cB n i).length=(cB n c).length
   ·rw [h2]
    simp only [beq_self_eq_true,bf,Bool.true_and]
    cases iz (cB n i) (cB n c) with
    | true =>
     simp only [bf,Bool.true_and,aF]
     cases P i <;> simp [bf,a3,b,d]
    | false=>simp [a3,b,d]
   ·have m:(((cB n i).length:Int) == ((cB n c).length:Int))=false:=by simpa using (by omega:¬ ((cB n i).length:Int)=((cB n c).length:Int))
    have p:((cB n i).length == (cB n c).length)=false:=by simpa using h2
    simp [m,p,a3,b,d]
theorem Qm{n a:Nat}{k:Int}(h:k∈cB n a):0≤k∧k < (n:Int):=(EZ.1 h).1
theorem EJ{b:an}(g:Valid b){f:bc→a5}{p:ah→Bool}(d:∀ c∈b7 b,f (gZ c)=some (p c)):kF (ek b) f=some (((b7 b).filter p).length:Int):=by
 have j:=tY g
 unfold kF ek
 simp only [List.length_map]
 rw [eP (o:=(((b7 b).filter p).length:Int)) (NG (l:=b7 b) p (λ i n hi k=>?_) (λ n=>by simp only [dX,a3]))]
 have e:((b7 b).map gZ)[i]? = some (gZ (nth (b7 b) i)):=by rw [List.getElem?_map,bl hi]; rfl
 simp only [dec_lt hi,bf,b9,e,aF,d _ (eJ hi),cj (i:=i) (by omega),cj (i:=n) (by omega)]
 cases p (nth (b7 b) i) <;> rfl
theorem PJ{b:an}{n:Nat}:l7 (ek b) (n:Int)=some (gU n (b7 b).length):=by
 unfold l7 ek gU
 simp only [List.length_map,Mn]
 by_cases h:n=0
 ·simp [h,bf]
 ·have e:((n:Int) == ((b7 b).length:Int))=decide (n=(b7 b).length):=by rw [Bool.eq_iff_iff,beq_iff_eq,decide_eq_true_iff]; omega
  rw [e,if_neg h,show (n == 0)=false by simpa using h,a3]
  by_cases h2:n=(b7 b).length
  ·rw [if_pos h2,c7 h2,bf]
  ·rw [if_neg h2,dH h2,a3]
theorem GF{b:an}(d:Valid b){c:ah}(f:c.length=b.aJ.length){i:Nat}(hi:i < b.aJ.length):idx (gZ c).deep (i:Int)=some (nth c i):=by
 have h3:=d.p3
 have h:=BX (c:=c) (by omega)
 rw [b9,bl (l:=(gZ c).deep) (show i < (hq [0,0,0] c).length by omega)]
 exact congrArg some (h.2.1 i (by omega))
set_option maxRecDepth 1000000 in
theorem ta{x:Int}{n:Nat}(b:0≤x)(h:x < 256)(c:0 < n):hy (i64 x) (n:Int)=some ((x.toNat % n:Nat):Int):=by
 rw [c9 (by omega) (by omega)]
 unfold hy
 obtain ⟨m,rfl⟩:=Int.eq_ofNat_of_zero_le b
 rw [if_neg (by omega),cI,Int.ofNat_tmod]
def dZ(c:ah):aW:=(List.range 4).map λ (k:Nat)=>c.contains (k:Int)
def cV(r:bB):aW:=(List.range 16).map λ p=>(nth r (p / 4)).contains ((p % 4:Nat):Int)
theorem zG(r:bB):(cV r).length=16:=by simp [cV]
theorem FM(r:bB){p:Nat}(b:p < 16):(cV r)[p]? = some ((nth r (p / 4)).contains ((p % 4:Nat):Int)):=by
 unfold cV
 rw [List.getElem?_map,List.getElem?_range b]
 rfl
theorem nb(c:ah){k:Nat}(b:k < 4):idx (dZ c) (k:Int)=some (c.contains (k:Int)):=by
 unfold dZ
 rw [b9,List.getElem?_map,List.getElem?_range b]
 rfl
theorem tb(r:bB){i:Nat}(hi:i < 4):eo 4 (cV r) (i:Int)=some (dZ (nth r i)):=by
 match i,hi with
 | 0,_=>rfl
 | 1,_=>rfl
 | 2,_=>rfl
 | 3,_=>rfl
theorem Sb{r r':bB}(h:∀ i k:Nat,i < 4→k < 4→(nth r i).contains (k:Int)=(nth r' i).contains (k:Int)):cV r=cV r':=by
 unfold cV
 refine List.map_congr_left λ p b=>?_
 rw [List.mem_range] at b
 exact h (p / 4) (p % 4) (by omega) (by omega)
theorem FV{r r':bB}{i k:Nat}(_:i < 4)(d:k < 4){x:Bool}(h:∀ j m:Nat,j < 4→m < 4→(nth r' j).contains (m:Int)=if j=i∧m=k then x else (nth r j).contains (m:Int)):fT 4 (cV r) (i:Int) (k:Int) x=cV r':=by
 unfold fT
 rw [cI,cI]
 refine List.ext_getElem? λ p=>?_
 by_cases b:p < 16
 ·rw [List.getElem?_set,FM r' b,FM r b,zG,h (p / 4) (p % 4) (by omega) (by omega)]
  by_cases e:i * 4+k=p
  ·rw [if_pos e,if_pos (by omega),if_pos ⟨by omega,by omega⟩]
  ·rw [if_neg e,if_neg (λ c=>e (by omega))]
 ·rw [List.getElem?_eq_none (by rw [List.length_set,zG]; omega),List.getElem?_eq_none (by rw [zG]; omega)]
theorem FO(p:bB):cV (p++[[]])=cV p:=Sb λ i k _ _=>by
 by_cases h:i < p.length
 ·rw [kM h]
 ·have e1:nth p i=[]:=by unfold nth; rw [hF,List.getElem?_eq_none (by omega)]; rfl
  have b:nth (p++[[]]) i=[]:=by
   by_cases h2:i=p.length
   ·subst h2; exact lD
   ·unfold nth; rw [hF,List.getElem?_eq_none (by simp; omega)]; rfl
  rw [e1,b]
def gv(b:an)(c:ah)(k i:Nat):Bool:=decide (nth c (nth b.az i).Place.toNat≤(nth b.ay k).hH) && decide ((nth b.az i).eN≤zT b (nth c (nth b.az i).Place.toNat))
theorem EK{b:an}(d:Valid b){c:ah}(f:c.length=b.aJ.length){k i:Nat}(g:k < b.ay.length)(hi:i < b.az.length):l8 b (gZ c) (k:Int) (i:Int)=some (gv b c k i):=by
 have j:=(d.dv hi).place
 unfold l8 gv
 have e:idx (gZ c).deep (nth b.az i).Place=some (nth c (nth b.az i).Place.toNat):=by
  have:=GF d f (i:=(nth b.az i).Place.toNat) (by omega)
  rwa [Int.toNat_of_nonneg j.1] at this
 simp only [b9,bl hi,bl g,aF,e,PC (show b.Rows.length≤20 by have:=d.r4; omega)]
 cases decide (nth c (nth b.az i).Place.toNat≤(nth b.ay k).hH) <;> rfl
def hp(b:an)(i k:Nat):Bool:=(b7 b).all λ c=>gv b c k i
def hL(b:an):aW:=(List.range 16).map λ p=>if p / 4 < b.az.length∧p % 4 < b.ay.length then hp b (p / 4) (p % 4) else false
theorem Mo{b:an}(d:Valid b){i k:Nat}(hi:i < b.az.length)(g:k < b.ay.length):iy (ek b) i k=some (hp b i k):=by
 unfold iy
 rw [EJ d (p:=λ c=>gv b c k i) (λ c f=>by unfold lW; rw [show (ek b).book=b from rfl,EK d (qE.1 f).1.1 g hi]; rfl),aF]
 congr 1
 rw [show ((ek b).cY.length:Int)=((b7 b).length:Int) by simp [ek],Bool.eq_iff_iff,beq_iff_eq]
 unfold hp
 rw [List.all_eq_true]
 constructor
 ·intro h
  have h:((b7 b).filter λ c=>gv b c k i).length=(b7 b).length:=by omega
  rw [List.length_filter_eq_length_iff] at h
  exact h
 ·intro h
  have:((b7 b).filter λ c=>gv b c k i).length=(b7 b).length:=List.length_filter_eq_length_iff.2 h
  omega
theorem mapM_some{α β:Type}{f:α→Option β}{g:α→β}:∀ {l:List α},(∀ x∈l,f x=some (g x))→l.mapM f=some (l.map g)
 | [],_=>rfl
 | a::l,h=>by
  rw [List.mapM_cons,h a (by simp),mapM_some λ x b=>h x (by simp [b])]
  rfl
theorem vl{b:an}(c:Valid b):jM (ek b)=some (hL b):=by
 unfold jM hL
 rw [show (ek b).book=b from rfl,if_pos ⟨⟨c.d1,c.d4⟩,c.m1,c.m4⟩]
 refine mapM_some λ p _=>?_
 by_cases h:p / 4 < b.az.length∧p % 4 < b.ay.length
 ·rw [if_pos h,if_pos h,Mo c h.1 h.2]
 ·rw [if_neg h,if_neg h]
theorem G4{b:an}{i:Nat}(hi:i < 4):∃ g,eo 4 (hL b) (i:Int)=some g∧∀ k:Nat,k < 4→idx g (k:Int)=some (if i < b.az.length∧k < b.ay.length then hp b i k else false):=by
 have e:eo 4 (hL b) (i:Int)=some ((List.range 4).map λ k=>if i < b.az.length∧k < b.ay.length then hp b i k else false):=by
  match i,hi with
  | 0,_=>rfl
  | 1,_=>rfl
  | 2,_=>rfl
  | 3,_=>rfl
 refine ⟨_,e,λ k c=>?_⟩
 rw [b9,List.getElem?_map,List.getElem?_range c]
 rfl
def dh(b:an)(g:aW)(o:Nat):RB:=⟨b.ay.length,b.az.length,λ i=>(nth b.az i).ay.toNat,λ i k=>nth g k && hp b i k,mR b,λ i=>o.testBit i⟩
set_option maxRecDepth 1000000 in
theorem HZ:((List.range 16).all λ x=>(List.range 5).all λ i=>((eR .i64 x i).bind λ y=>cC .and .i64 y 1) == some (if x.testBit i then 1 else 0))=true:=by decide +kernel
theorem HX{x i:Nat}(h:x < 16)(hi:i < 5):(eR .i64 (x:Int) (i:Int)).bind (λ y=>cC .and .i64 y 1)=some (if x.testBit i then 1 else 0):=by
 have:=HZ
 simp only [List.all_eq_true,List.mem_range,beq_iff_eq] at this
 exact this x h i hi
theorem PO{b:an}(f:Valid b){pre:bB}{c:ah}(hi:pre.length < b.az.length)(p:∀ k∈c,0≤k∧k < (b.ay.length:Int))(g:aW)(o:Nat):l9 b (cV (pre++[c])) (pre.length:Int)=some (nK (dh b g o) pre pre.length c):=by
 have hd:=f.d4
 have hm:=f.m4
 unfold l9 nK
 rw [DY (n:=pre.length) (λ j=>(dh b g o).ap j pre.length || !meet c (nth pre j)) false (λ j m=>?_) (by simp only [dX,a3])]
 ·cases (List.range pre.length).all λ j=>(dh b g o).ap j pre.length || !meet c (nth pre j) <;> rfl
 ·simp only [dec_lt m,bf,PL f (show j < b.az.length by omega) hi,aF,show (dh b g o).ap j pre.length=mR b j pre.length from rfl]
  cases mR b j pre.length with
  | true=>simp only [bf,Bool.true_or,if_true,cj (i:=j) (by omega)]
  | false =>
   simp only [a3,Bool.false_or]
   rw [DY (n:=b.ay.length) (λ k=>!((nth pre j).contains (k:Int) && c.contains (k:Int))) false (λ k d=>?_) (by simp only [dX,a3])]
   ·have e:((List.range b.ay.length).all λ k=>!((nth pre j).contains (k:Int) && c.contains (k:Int)))=!meet c (nth pre j):=by
     rw [Bool.eq_iff_iff,Bool.not_eq_true',Qr,List.all_eq_true]
     constructor
     ·intro h k d s
      have hb:=p k d
      have:=h k.toNat (by rw [List.mem_range]; omega)
      rw [Int.toNat_of_nonneg hb.1] at this
      simp [d,s] at this
     ·intro h k _
      rw [Bool.not_eq_true',Bool.and_eq_false_iff]
      by_cases d:(k:Int)∈c
      ·exact .inl (by have:=h _ d; simpa using this)
      ·exact .inr (by simpa using d)
    rw [e]
    cases meet c (nth pre j) with
    | true=>rfl
    | false=>simp only [Bool.not_false,if_true,aF,Sum.elim_inl,cj (i:=j) (by omega)]
   ·simp only [dec_lt d,bf,tb _ (show j < 4 by omega),tb _ (show pre.length < 4 by omega),aF,nb _ (show k < 4 by omega),kM m,lD,cj (i:=k) (by omega)]
    cases (nth pre j).contains (k:Int) <;> cases c.contains (k:Int) <;> rfl
theorem Rt{β:Type}(n b:Nat)(h:b≤n)(p:Nat→Bool)(f:Nat→List β):((List.range n).filter λ m=>p m && decide (b≤m)).flatMap f=(List.range (n - b)).flatMap λ j=>if p (b+j)=true then f (b+j) else []:=by
 obtain ⟨d,rfl⟩:∃ d,n=b+d:=⟨n - b,by omega⟩
 rw [List.range_add,List.filter_append,List.flatMap_append]
 have e1:((List.range b).filter λ m=>p m && decide (b≤m))=[]:=by
  rw [List.filter_eq_nil_iff]
  intro m hm
  rw [List.mem_range] at hm
  simp only [cO,decide_eq_true_eq,not_and]
  omega
 rw [e1,List.flatMap_nil,List.nil_append,Nat.add_sub_cancel_left,List.filter_map,List.flatMap_map,← LQ]
 rw [List.flatMap_assoc]
 congr 1
 funext j
 simp only [Function.comp_apply,Nat.le_add_right,decide_true,Bool.and_true]
 cases p (b+j) <;> simp
def mN(c:ah)(b:Nat):Prop:=∀ m:Nat,(c.all λ x=>decide (x < (m:Int)))=decide (b≤m)
theorem L0:mN [] 0:=λ m=>by simp
theorem mN.snoc{c:ah}{b k:Nat}(h:mN c b)(d:b≤k):mN (c++[(k:Int)]) (k+1):=λ m=>by
 rw [List.all_append,h m,Bool.eq_iff_iff]
 simp only [List.all_cons,List.all_nil,Bool.and_true,cO,decide_eq_true_eq]
 omega
abbrev Ie(A:RB)(i:Nat):Nat→ah→ah:=λ _ p=>pL A.n (A.ok i) p
theorem Ig{A:RB}{i:Nat}{c:ah}{b:Nat}(d:mN c b)(h:b≤A.n){β:Type}(f:Int→List β):(pL A.n (A.ok i) c).flatMap f=(List.range (A.n - b)).flatMap λ j=>if A.ok i (b+j)=true then f ((b+j:Nat):Int) else []:=by
 unfold pL gY
 rw [List.filter_map,List.flatMap_map,← Rt A.n b h (A.ok i) λ m=>f (m:Int)]
 congr 1
 refine List.filter_congr λ m _=>?_
 simp only [Function.comp_apply,cI,d m]
def lF(A:RB)(d:Nat)(pre:bB)(left:Nat)(c:ah):cM :=
 (((tree (Ie A pre.length) left c.length c).filter (nK A pre pre.length)).flatMap λ c'=>tree (jq A) d (pre.length+1) (pre++[c'])).map cV
def iZ(A:RB)(d:Nat)(pre:bB):cM:=(tree (jq A) d pre.length pre).map cV
theorem L2{A:RB}{d:Nat}{pre:bB}(h:A.out pre.length=true):iZ A (d+1) pre=iZ A d (pre++[[]]):=by
 unfold iZ
 simp only [tree,jq,h,if_true,List.flatMap_cons,List.flatMap_nil,List.append_nil,gi,List.length_cons,List.length_nil]
theorem L1{A:RB}{d:Nat}{pre:bB}(h:A.out pre.length=false):iZ A (d+1) pre=lF A d pre (A.eD pre.length) []:=by
 unfold iZ lF
 simp only [tree,jq,h,fc,if_false,List.length_nil]
 rw [wB]
 rfl
theorem Rb{A:RB}{d:Nat}{pre:bB}{c:ah}:lF A d pre 0 c=if nK A pre pre.length c=true then iZ A d (pre++[c]) else []:=by
 unfold lF iZ
 simp only [tree,List.filter_cons,List.filter_nil,gi,List.length_cons,List.length_nil]
 split <;> simp
theorem Rc{A:RB}{d:Nat}{pre:bB}{c:ah}{left b:Nat}(f:mN c b)(h:b≤A.n):lF A d pre (left+1) c=(List.range (A.n - b)).flatMap λ j=>if A.ok pre.length (b+j)=true then lF A d pre left (c++[((b+j:Nat):Int)]) else []:=by
 unfold lF
 simp only [tree]
 rw [Ig (A:=A) (i:=pre.length) f h]
 simp only [List.filter_flatMap,List.flatMap_assoc,List.map_flatMap]
 congr 1
 funext j
 split <;> simp
theorem OF{b:an}(G:Valid b){g:aW}(aw:g.length=4){o:Nat}(ho:o < 16){S:Type}(ys:aW→S→Option (S × Bool)):∀ d:Nat,
  (∀ (pre:bB) (f:Nat) (s:S) (r:S × Bool),pre.length+d=b.az.length→5 * d < f→di ys (iZ (dh b g o) d pre) s=some r→(fo ys f).1 (cV pre) (pre.length:Int) (ek b) (o:Int) g (hL b) s=some r) ∧
  (∀ (left:Nat) (pre:bB) (c:ah) (p f:Nat) (s:S) (r:S × Bool),pre.length+d+1=b.az.length→5 * d+left+1 < f→mN c p→p≤b.ay.length→(∀ k∈c,0≤k∧k < (b.ay.length:Int))→left≤3→di ys (lF (dh b g o) d pre left c) s=some r →
   (fo ys f).2 (cV (pre++[c])) (pre.length:Int) (p:Int) (left:Int) (ek b) (o:Int) g (hL b) s=some r):=by
 have hd:=G.d4
 have hm:=G.m4
 have two:∀ d:Nat,(∀ (pre:bB) (f:Nat) (s:S) (r:S × Bool),pre.length+d=b.az.length→5 * d < f→di ys (iZ (dh b g o) d pre) s=some r→(fo ys f).1 (cV pre) (pre.length:Int) (ek b) (o:Int) g (hL b) s=some r) →
   (∀ (left:Nat) (pre:bB) (c:ah) (p f:Nat) (s:S) (r:S × Bool),pre.length+d+1=b.az.length→5 * d+left+1 < f→mN c p→p≤b.ay.length→(∀ k∈c,0≤k∧k < (b.ay.length:Int))→left≤3→di ys (lF (dh b g o) d pre left c) s=some r →
   (fo ys f).2 (cV (pre++[c])) (pre.length:Int) (p:Int) (left:Int) (ek b) (o:Int) g (hL b) s=some r):=by
  intro d one left
  induction left with
  | zero =>
   intro pre c p f s r hl L E R J _ w
   obtain ⟨f,rfl⟩:∃ C,f=C+1:=⟨f - 1,by omega⟩
   unfold fo
   simp only [Int.natCast_zero,beq_self_eq_true,bf]
   rw [show (ek b).book=b from rfl,PO G (by omega) J g o,aF]
   rw [Rb] at w
   cases W:nK (dh b g o) pre pre.length c with
   | false =>
    rw [W] at w
    simp only [fc,if_false,di,ey] at w
    subst w
    rfl
   | true =>
    rw [W,if_pos rfl] at w
    have:=one (pre++[c]) f s r (by simp; omega) (by omega) w
    rw [show (((pre++[c]).length:Nat):Int)=((pre.length+1:Nat):Int) by simp] at this
    simp only [Bool.not_true,a3,cj (i:=pre.length) (by omega),this,aF]
  | succ left H =>
   intro pre c p f s r hl L E R J h3 w
   obtain ⟨f,rfl⟩:∃ C,f=C+1:=⟨f - 1,by omega⟩
   unfold fo
   simp only [show (((left+1:Nat):Int) == 0)=false by simp; omega,a3,show (ek b).book=b from rfl]
   rw [Rc (A:=dh b g o) E R,List.range_eq_range'] at w
   obtain ⟨av,ac,Z⟩:=G4 (b:=b) (i:=pre.length) (by omega)
   refine Exists.elim (yP (ys:=ys) (S:=S) (X:=Int × aW) (O:=S ⊕ (S × Bool)) (λ j=>if (dh b g o).ok pre.length (p+j)=true then lF (dh b g o) d pre left (c++[((p+j:Nat):Int)]) else []) ((dh b g o).n - p)
    (λ j x=>x=(((p+j:Nat):Int),cV (pre++[c]))) (λ s o=>o = .inl s) (λ s o=>o = .inr (s,false)) (body:=λ (B:(S × Int × aW)) =>
  ab (decide (B.2.1 < (b.ay.length:Int)))
  (((((idx g B.2.1).bind λ ap =>
  ab (!ap)
  (some true)
  ((eo 4 (hL b) (pre.length:Int)).bind λ aq =>
  (idx aq B.2.1).bind λ ar =>
  some (!ar))):a5)).bind (λ (al:Bool) =>
  ab al
  (some (.inl (B.1,i64 (B.2.1+1),B.2.2)))
  ((eo 4 B.2.2 (pre.length:Int)).bind λ au =>
  (idx au B.2.1).bind λ aE =>
  ((fo ys f).2 (fT 4 B.2.2 (pre.length:Int) B.2.1 true) (pre.length:Int) (i64 (B.2.1+1)) (i64 (((left+1:Nat):Int) - 1)) (ek b) (o:Int) g (hL b) B.1).bind λ N =>
  ab (!N.2)
  (some (.inr (.inr (N.1,false))))
  ((eo 4 (fT 4 B.2.2 (pre.length:Int) B.2.1 true) (pre.length:Int)).bind λ ao =>
  (idx ao B.2.1).bind λ aD =>
  some (.inl (N.1,i64 (B.2.1+1),fT 4 (fT 4 B.2.2 (pre.length:Int) B.2.1 true) (pre.length:Int) B.2.1 false))))))
  (some (.inr (.inl B.1)))) (λ j s x r ax I w=>?_) (λ s x I=>?_) ((dh b g o).n - p) 0 s ((p:Int),cV (pre++[c])) r (by omega) rfl w) ?_
   ·subst I
    have T:p+j < b.ay.length:=by have:(dh b g o).n=b.ay.length:=rfl; omega
    have Y:idx g ((p+j:Nat):Int)=some (nth g (p+j)):=by rw [b9]; exact bl (by omega)
    have Q:=Z (p+j) (by omega)
    rw [if_pos ⟨by omega,T⟩] at Q
    have U:(dh b g o).ok pre.length (p+j)=(nth g (p+j) && hp b pre.length (p+j)):=rfl
    simp only [dec_lt T,bf,Y,aF,ac,Q,cj (i:=p+j) (by omega)]
    cases D:(nth g (p+j) && hp b pre.length (p+j)) with
    | false =>
     rw [U,D] at w
     simp only [fc,if_false,di,ey] at w
     subst w
     simp only [if_true]
     refine ⟨_,?_,rfl⟩
     rw [Bool.and_eq_false_iff] at D
     rcases D with h | h
     ·rw [h]; rfl
     ·rw [h]
      cases nth g (p+j) <;> rfl
    | true =>
     rw [U,D,if_pos rfl] at w
     rw [cO] at D
     have ae:¬ ((p+j:Nat):Int)∈c:=λ ad=>by
      have:=E (p+j)
      rw [c7 (by omega:p≤p+j),List.all_eq_true] at this
      have:=this _ ad
      simp at this
     have cont:∀ j' m:Nat,(nth (pre++[c++[((p+j:Nat):Int)]]) j').contains (m:Int)=if j'=pre.length∧m=p+j then true else (nth (pre++[c]) j').contains (m:Int):=by
      intro j' m
      by_cases e:j'=pre.length
      ·subst e
       rw [lD,lD]
       by_cases em:m=p+j
       ·rw [if_pos ⟨rfl,em⟩,em]; simp
       ·rw [if_neg (λ h=>em h.2),Bool.eq_iff_iff,List.contains_iff_mem,List.contains_iff_mem,List.mem_append,List.mem_singleton]
        exact ⟨λ h=>h.resolve_right (by omega),.inl⟩
      ·rw [if_neg (λ h=>e h.1)]
       by_cases P:j' < pre.length
       ·rw [kM P,kM P]
       ·have q:∀ z:ah,nth (pre++[z]) j'=[]:=λ z=>by unfold nth; rw [hF,List.getElem?_eq_none (by simp; omega)]; rfl
        rw [q,q]
     have s1:fT 4 (cV (pre++[c])) (pre.length:Int) ((p+j:Nat):Int) true=cV (pre++[c++[((p+j:Nat):Int)]]):=FV (by omega) (by omega) λ j' m _ _=>cont j' m
     have s2:fT 4 (cV (pre++[c++[((p+j:Nat):Int)]])) (pre.length:Int) ((p+j:Nat):Int) false=cV (pre++[c]):=FV (by omega) (by omega) λ j' m _ _=>by
      rw [cont j' m]
      by_cases e:j'=pre.length∧m=p+j
      ·rw [if_pos e,e.1,e.2,lD]
       simpa using ae
      ·rw [if_neg e,if_neg e]
     have ai:=H pre (c++[((p+j:Nat):Int)]) (p+j+1) f s r hl (by omega) (E.snoc (by omega)) (by omega) (λ k F=>by
      rw [List.mem_append,List.mem_singleton] at F
      rcases F with F | rfl
      ·exact J k F
      ·omega) (by omega) w
     simp only [D.1,D.2,Bool.not_true,a3,aF,tb _ (show pre.length < 4 by omega),nb _ (show p+j < 4 by omega),s1,fB (i:=left+1) (by omega) (by omega),Nat.add_sub_cancel,ai,s2]
     cases aB:r.2 with
     | true=>exact ⟨(((p+(j+1):Nat):Int),cV (pre++[c])),by simp only [Bool.not_true,a3,Nat.add_assoc],rfl⟩
     | false=>exact ⟨.inr (r.1,false),by simp only [Bool.not_false,bf],rfl⟩
   ·subst I
    refine ⟨.inl s,?_,rfl⟩
    rw [show p+((dh b g o).n - p)=b.ay.length from by have:(dh b g o).n=b.ay.length:=rfl; omega]
    simp only [dX,a3]
   ·rintro q ⟨M,K⟩
    have ag:=M
    refine (eP ag).trans ?_
    split at K
    ·rename_i h2; subst K
     obtain ⟨r1,r2⟩:=r
     simp only at h2
     subst h2
     rfl
    ·rename_i h2; subst K
     obtain ⟨r1,r2⟩:=r
     simp only [Bool.not_eq_true] at h2
     subst h2
     rfl
 intro d
 induction d with
 | zero =>
  have one:∀ (pre:bB) (f:Nat) (s:S) (r:S × Bool),pre.length+0=b.az.length→5 * 0 < f→di ys (iZ (dh b g o) 0 pre) s=some r→(fo ys f).1 (cV pre) (pre.length:Int) (ek b) (o:Int) g (hL b) s=some r:=by
   intro pre f s r hl L w
   obtain ⟨f,rfl⟩:∃ C,f=C+1:=⟨f - 1,by omega⟩
   simp only [iZ,tree,List.map_cons,List.map_nil,di] at w
   obtain ⟨q,M,w⟩:=af w
   unfold fo
   simp only
   rw [show (ek b).book=b from rfl,show ((pre.length:Int) == (b.az.length:Int))=true by simp; omega,bf,M,aF]
   obtain ⟨aC,am⟩:=q
   cases am <;> simpa using w
  exact ⟨one,two 0 one⟩
 | succ d H =>
  have one:∀ (pre:bB) (f:Nat) (s:S) (r:S × Bool),pre.length+(d+1)=b.az.length→5 * (d+1) < f→di ys (iZ (dh b g o) (d+1) pre) s=some r→(fo ys f).1 (cV pre) (pre.length:Int) (ek b) (o:Int) g (hL b) s=some r:=by
   intro pre f s r hl L w
   obtain ⟨f,rfl⟩:∃ C,f=C+1:=⟨f - 1,by omega⟩
   have hi:pre.length < b.az.length:=by omega
   have hb:=HX (x:=o) (i:=pre.length) ho (by omega)
   obtain ⟨y,ak,hb⟩:=af hb
   unfold fo
   simp only
   rw [show (ek b).book=b from rfl,show ((pre.length:Int) == (b.az.length:Int))=false by simp; omega,a3,ak,aF,hb,aF]
   cases V:o.testBit pre.length with
   | true =>
    rw [L2 (A:=dh b g o) V] at w
    have:=H.1 (pre++[[]]) f s r (by simp; omega) (by omega) w
    rw [FO,show (pre++[([]:ah)]).length=pre.length+1 by simp] at this
    simp only [if_true,beq_self_eq_true,bf,cj (i:=pre.length) (by omega),this,aF]
   | false =>
    rw [L1 (A:=dh b g o) V] at w
    have aA:=(G.dv hi).kJ
    have:=H.2 (nth b.az pre.length).ay.toNat pre [] 0 f s r (by omega) (by omega) L0 (by omega) (by simp) (by omega) w
    rw [FO,Int.toNat_of_nonneg (by omega)] at this
    simp only [fc,if_false,show ((0:Int) == 1)=false from rfl,a3,b9,bl hi,aF]
    rw [show ((0:Nat):Int)=0 from rfl] at this
    rw [this]
    rfl
  exact ⟨one,two (d+1) one⟩
theorem Ih{n eD:Nat}{ok:Nat→Bool}(g:n≤4):(mW n eD ok).length≤16:=by
 have h:=r7 (l:=mW n eD ok) (m:=(List.range (2 ^ n)).map (cB n)) id (zo FP (BZ n eD ok)) (λ x _ y _ h=>h) (λ c f=>by
  have h1:=nz.1 f
  obtain ⟨a,d,e⟩:=Qo h1.2.1 (λ k b=>⟨(h1.2.2 k b).1,(h1.2.2 k b).2.1⟩)
  exact List.mem_map.2 ⟨a,List.mem_range.2 d,e.symm⟩)
 rw [List.length_map,List.length_range] at h
 exact Nat.le_trans h (zy (by omega))
theorem D4{α:Type}{ext:Nat→List α→List α}{m:Nat}(h:∀ i p,(ext i p).length≤m):∀ n,(lvl ext n).length≤m ^ n
 | 0=>by simp [lvl]
 | n+1=>by
  have b:=D4 h n
  simp only [lvl]
  refine Nat.le_trans (pS _ m (λ a=>by rw [List.length_map]; exact h _ _) _) ?_
  rw [Nat.pow_succ]
  exact Nat.mul_le_mul_right m b
theorem Sd{A:RB}(b:A.n≤4)(hd:A.D≤4):(hz A).length≤65536:=by
 refine Nat.le_trans (D4 (m:=16) (λ i p=>?_) A.D) ?_
 ·unfold jq
  split
  ·simp
  ·exact Nat.le_trans (List.length_filter_le _ _) (Ih b)
 ·calc 16 ^ A.D≤16 ^ 4:=Nat.pow_le_pow_right (by omega) hd
   _=65536:=by decide
theorem u1{b:an}(c:Valid b){g:aW}(d:g.length=4){o:Nat}(ho:o < 16){S:Type}(ys:aW→S→Option (S × Bool)){s:S}{r:S × Bool}(f:di ys ((hz (dh b g o)).map cV) s=some r) :
  hQ ys (ek b) (o:Int) g (hL b) s=some r.1:=by
 unfold hQ
 have h:=(OF c d ho ys b.az.length).1 [] 40 s r (by simp) (by have:=c.d4; omega) (by
  unfold iZ
  rw [List.length_nil,show tree (jq (dh b g o)) b.az.length 0 []=hz (dh b g o) from wB _ _]
  exact f)
 have e:cV []=[false,false,false,false,false,false,false,false,false,false,false,false,false,false,false,false]:=rfl
 rw [List.length_nil,Int.natCast_zero,e] at h
 rw [h]
 rfl
def eW(b:an):aW:=dZ (gY b.ay.length)
theorem tB(b:an):(eW b).length=4:=by simp [eW,dZ]
theorem rV(c:ah):(dZ c).length=4:=by simp [dZ]
theorem Db(c:ah){k:Nat}(b:k < 4):nth (dZ c) k=c.contains (k:Int):=by
 have h:=nb c b
 rw [b9] at h
 rw [bl (by rw [rV]; exact b)] at h
 exact eI h
theorem Dc{c:ah}{k:Nat}(b:k < 4):(dZ c).set k true=dZ (c++[(k:Int)]):=by
 refine List.ext_getElem? λ p=>?_
 by_cases f:p < 4
 ·rw [List.getElem?_set,rV]
  have e:∀ d:ah,(dZ d)[p]? = some (d.contains (p:Int)):=λ d=>by have:=nb d f; rwa [b9] at this
  rw [e,e]
  by_cases h:k=p
  ·subst h
   rw [if_pos rfl,if_pos b]
   simp
  ·rw [if_neg h]
   congr 1
   rw [Bool.eq_iff_iff,List.contains_iff_mem,List.contains_iff_mem,List.mem_append,List.mem_singleton]
   exact ⟨.inl,λ h2=>h2.resolve_right (by omega)⟩
 ·rw [List.getElem?_eq_none (by rw [List.length_set,rV]; omega),List.getElem?_eq_none (by rw [rV]; omega)]
theorem PZ{c:ah}(hl:c.length≤100)(f:∀ k∈c,0≤k∧k < 4):mc c=some (dZ c):=by
 unfold mc
 refine (eP (o:=dZ c) ?_).trans rfl
 have d:((0:Int),[false,false,false,false])=(λ i:Nat=>((i:Int),dZ (c.take i))) 0:=rfl
 rw [d]
 refine iB (λ i:Nat=>((i:Int),dZ (c.take i))) c.length (λ i hi=>?_) (by simp only [dX,a3,List.take_length])
 have hm:=f _ (eJ hi)
 have e:c.take (i+1)=c.take i++[nth c i]:=by rw [List.take_add_one,bl hi]; rfl
 generalize nth c i=x at hm e
 obtain ⟨k,rfl⟩:=Int.eq_ofNat_of_zero_le hm.1
 have g:c[i]? = some (k:Int):=by
  have h2:=congrArg List.getLast? e
  rw [List.getLast?_append] at h2
  rw [List.take_add_one] at e
  have:=List.append_cancel_left e
  cases h3:c[i]? with
  | none=>rw [h3] at this; cases this
  | some y=>rw [h3] at this; simpa using this
 simp only [dec_lt hi,bf,b9,g,aF,cj (i:=i) (by omega),cI]
 have b:k < 4:=by omega
 have:=nb (c.take i) b
 rw [b9] at this
 rw [this,aF,Dc b,← e]
theorem vm{b:an}(d:Valid b):kH b=some (eW b):=by
 have hm:=d.m4
 unfold kH eW
 refine (eP (o:=dZ (gY b.ay.length)) ?_).trans rfl
 have c:((0:Int),[false,false,false,false])=(λ i:Nat=>((i:Int),dZ (gY i))) 0:=rfl
 rw [c]
 refine iB (λ i:Nat=>((i:Int),dZ (gY i))) b.ay.length (λ i hi=>?_) (by simp only [dX,a3])
 have:=nb (gY i) (show i < 4 by omega)
 simp only [dec_lt hi,bf,this,aF,cj (i:=i) (by omega),cI,Dc (show i < 4 by omega),Tm]
theorem Sm{c:ah}{n:Nat}(f:n≤4)(b:c.Pairwise (· < ·))(d:∀ k∈c,0≤k∧k < (n:Int)):((List.range 4).filter λ k=>c.contains ((k:Nat):Int)).map (λ (k:Nat)=>(k:Int))=c:=by
 refine rm _ _ ?_ b λ x=>?_
 ·rw [List.pairwise_map]
  exact (List.pairwise_lt_range.filter _).imp λ h=>by omega
 ·simp only [List.mem_map,List.mem_filter,List.mem_range,List.contains_iff_mem]
  constructor
  ·rintro ⟨k,⟨_,h⟩,rfl⟩; exact h
  ·intro h; have:=d x h; exact ⟨x.toNat,⟨by omega,by rwa [Int.toNat_of_nonneg this.1]⟩,Int.toNat_of_nonneg this.1⟩
structure q5 (b:an) (r:bB):Prop where
 len:r.length=b.az.length
 row:∀ i,i < b.az.length→(nth r i).Pairwise (· < ·)∧∀ k∈nth r i,0≤k∧k < (b.ay.length:Int)
theorem eV.rows{b:an}{g:aW}{o:Nat}{r:bB}(h:eV (dh b g o) r):q5 b r:=⟨h.len,λ i hi=>by
 cases ho:(dh b g o).out i with
 | true=>rw [h.out i hi ho]; exact ⟨.nil,by simp⟩
 | false =>
  have:=nz.1 (h.oj i hi ho)
  exact ⟨this.2.1,λ k c=>⟨(this.2.2 k c).1,(this.2.2 k c).2.1⟩⟩⟩
theorem PR{b:an}(g:Valid b){r:bB}(c:q5 b r):nv b (cV r)=some r:=by
 have hd:=g.d4
 have hm:=g.m4
 unfold nv
 refine (eP (o:=r) ?_).trans rfl
 have j:(([]:bB),(0:Int))=(λ i:Nat=>(r.take i,(i:Int))) 0:=rfl
 rw [j]
 refine iB (λ i:Nat=>(r.take i,(i:Int))) b.az.length (λ i hi=>?_) (by simp only [dX,a3,← c.len,List.take_length])
 have d:=c.row i hi
 have hl:=c.len
 simp only [dec_lt hi,bf,tb _ (show i < 4 by omega),aF,cj (i:=i) (by omega)]
 rw [eP (o:=nth r i) ?_]
 ·rw [jD (by rw [gO]; simp only [List.length_cons,List.length_nil]; omega),aF,List.take_add_one,bl (by omega)]
  rfl
 ·have n:(([]:ah),(0:Int))=(λ k:Nat=>(((List.range k).filter λ k=>(nth r i).contains ((k:Nat):Int)).map (λ (k:Nat)=>(k:Int)),(k:Int))) 0:=rfl
  rw [n]
  refine iB (λ k:Nat=>(((List.range k).filter λ k=>(nth r i).contains ((k:Nat):Int)).map (λ (k:Nat)=>(k:Int)),(k:Int))) 4 (λ k m=>?_) ?_
  ·have p:((List.range k).filter λ k=>(nth r i).contains ((k:Nat):Int)).length≤k:=Nat.le_trans (List.length_filter_le _ _) (by simp)
   simp only [show decide ((k:Int) < 4)=true by simp; omega,bf,nb _ m,aF,cj (i:=k) (by omega),List.range_succ,List.filter_append,List.map_append]
   cases f:(nth r i).contains (k:Int) with
   | true =>
    rw [bf,jD (by rw [List.length_map]; simp only [List.length_cons,List.length_nil]; omega),aF]
    simp only [List.filter_cons,f,if_true,List.filter_nil,List.map_cons,List.map_nil]
   | false =>
    simp only [a3,List.filter_cons,f,fc,if_false,List.filter_nil,List.map_nil,List.append_nil]
  ·rw [show decide (((4:Nat):Int) < 4)=false from rfl,a3,Sm hm d.1 d.2]
abbrev gh(b:an):List bB:=hz (dh b (eW b) 0)
theorem zF{b:an}(c:Valid b)(g:aW)(o:Nat):(hz (dh b g o)).length≤65536:=Sd c.m4 c.d4
theorem FK{b:an}{g:aW}{o:Nat}{r:bB}(h:r∈hz (dh b g o)):q5 b r:=eV.rows (vu.1 h)
def zH(b:an):Int × Int:=if eY b 0≠0 then (0,eY b 0) else ((gh b).length,0)
theorem En{b:an}(d:Small b):kC b=some (zH b):=by
 unfold kC zH
 rw [qy d (own:=0) (λ _=>rfl),aF]
 unfold nH
 by_cases h:eY b 0=0
 ·obtain ⟨c,_,_⟩:=rP h
  have hl:=zF c (eW b) 0
  simp only [h,ne_eq,fW,if_false,bne_self_eq_false,a3,vl c,show (ek b).book=b from rfl,vm c,kG,aF]
  rw [show (0:Int)=((0:Nat):Int) from rfl,u1 c (tB b) (by omega) _ (r:=(.inl ((((gh b).map cV).foldl (λ (s:Int) _=>s+1) 0)),true)) (rS (λ k s=>s=(k:Int)) (λ _ s=>s+1) _ 0 _ rfl (λ j s a f d _=>by
   subst d
   simp only [List.length_map] at f
   rw [cj (i:=j) (by omega)]
   exact ⟨rfl,rfl⟩))]
  have key:∀ (l:cM) (s:Int),l.foldl (λ s _=>s+1) s=s+l.length:=by
   intro l
   induction l with
   | nil=>simp
   | cons a l g=>intro s; rw [List.foldl_cons,g]; simp; omega
  rw [aF,Sum.elim_inl,key,List.length_map]
  simp
 ·simp only [h,ne_eq,not_false_eq_true,if_true,kL h,bf]
def e7(b:an)(g:aW)(o:Nat):Bool:=!(hz (dh b g o)).isEmpty
theorem zb{b:an}(f:Valid b){g:aW}(d:g.length=4){o:Nat}(ho:o < 16):mf (ek b) (hL b) g (o:Int)=some (e7 b g o):=by
 unfold mf e7
 simp only [kG,aF]
 cases c:hz (dh b g o) with
 | nil =>
  rw [u1 f d ho _ (r:=(.inl (),true)) (by rw [c]; rfl)]
  rfl
 | cons r l =>
  rw [u1 f d ho _ (r:=(.inr (),false)) (by rw [c]; rfl)]
  rfl
def xM(b:an):ah × Bool × Int:=if eY b 0≠0 then ([],false,eY b 0) else ((df b.ay.length (λ a=>e7 b (dZ (cB b.ay.length a)) 0) (2 ^ b.ay.length)).1,(df b.ay.length (λ a=>e7 b (dZ (cB b.ay.length a)) 0) (2 ^ b.ay.length)).2,0)
theorem Ep{b:an}(i:Small b):ly b=some (xM b):=by
 unfold ly xM
 rw [qy i (own:=0) (λ _=>rfl),aF]
 unfold nH
 by_cases h:eY b 0=0
 ·obtain ⟨c,_,_⟩:=rP h
  have hm:=c.m4
  simp only [h,ne_eq,fW,if_false,bne_self_eq_false,a3,vl c,show (ek b).book=b from rfl,vm c,aF]
  rw [ER (P:=λ a=>e7 b (dZ (cB b.ay.length a)) 0) (by omega) (λ a d=>?_),aF]
  unfold o9
  rw [ET (n:=b.ay.length) (by omega) d,aF,PZ (by have:=Qn (n:=b.ay.length) (by omega) d; omega) (λ k g=>by have:=Qm g; omega),aF,show (0:Int)=((0:Nat):Int) from rfl,zb c (rV _) (by omega),aF]
  cases f:e7 b (dZ (cB b.ay.length a)) 0 with
  | true=>rfl
  | false =>
   rw [a3]
   cases he:rN (dZ (cB b.ay.length a)) (eW b) with
   | false=>rfl
   | true =>
    have he:dZ (cB b.ay.length a)=eW b:=by simpa [rN] using he
    rw [show (true == true)=true from rfl,bf,zb c (tB b) (by omega),← he,f]
    rfl
 ·simp only [h,ne_eq,not_false_eq_true,if_true,kL h,bf]
def xW(b:an):ah × Int:=if eY b 0≠0 then ([],eY b 0) else ((df b.az.length (λ a=>e7 b (eW b) a) (2 ^ b.az.length)).1,0)
theorem Er{b:an}(d:Small b):kD b=some (xW b):=by
 unfold kD xW
 rw [qy d (own:=0) (λ _=>rfl),aF]
 unfold nH
 by_cases h:eY b 0=0
 ·obtain ⟨c,_,_⟩:=rP h
  have hd:=c.d4
  have g:=zy (n:=b.az.length) (by omega)
  simp only [h,ne_eq,fW,if_false,bne_self_eq_false,a3,vl c,show (ek b).book=b from rfl,vm c,aF]
  rw [ER (P:=λ a=>e7 b (eW b) a) (by omega) (λ a f=>?_),aF]
  unfold pa
  rw [zb c (tB b) (by omega)]
  rfl
 ·simp only [h,ne_eq,not_false_eq_true,if_true,kL h,bf]
def jm(b:an):RB:=⟨b.ay.length,b.az.length,λ i=>(nth b.az i).ay.toNat,hp b,mR b,λ _=>false⟩
theorem eV.same{A C:RB}(p:A.n=C.n)(d:A.D=C.D)(m:∀ i,i < A.D→A.eD i=C.eD i)(o:∀ i k,i < A.D→k < A.n→A.ok i k=C.ok i k)(f:∀ i j,i < A.D→j < i→A.ap j i=C.ap j i∧A.ap i j=C.ap i j)(b:∀ i,i < A.D→A.out i=C.out i){r:bB}:eV A r↔eV C r:=by
 constructor
 ·intro h
  exact eV.le ⟨by omega,d,m,λ i k hi g h=>by rw [← o i k hi g]; exact h,λ i j hi c h=>by rw [← (f i j hi c).1]; exact h,λ i hi h=>by rw [← b i hi]; exact h,λ i hi h=>by rw [b i hi]; exact h⟩ h
 ·intro h
  exact eV.le ⟨by omega,d.symm,λ i hi=>(m i (by omega)).symm,λ i k hi g h=>by rw [o i k (by omega) (by omega)]; exact h,λ i j hi c h=>by rw [(f i j (by omega) c).1]; exact h,λ i hi h=>by rw [b i (by omega)]; exact h,λ i hi h=>by rw [← b i (by omega)]; exact h⟩ h
theorem uK{b:an}{g:aW}{o:Nat}:e7 b g o=true↔∃ r,eV (dh b g o) r:=by
 unfold e7
 rw [Bool.not_eq_true',List.isEmpty_eq_false_iff_exists_mem]
 exact ⟨λ ⟨r,h⟩=>⟨r,vu.1 h⟩,λ ⟨r,h⟩=>⟨r,vu.2 h⟩⟩
theorem zC{b:an}(hm:b.ay.length≤4){l:ah}{r:bB}:eV (dh b (dZ l) 0) r↔eV (jm b) r∧wJ l r=true:=by
 rw [← QV]
 refine eV.same (A:=dh b (dZ l) 0) (C:=(jm b).only l) rfl rfl (λ _ _=>rfl) (λ i k _ c=>?_) (λ _ _ _ _=>⟨rfl,rfl⟩) (λ i _=>by simp [dh,RB.only,jm])
 show (nth (dZ l) k && hp b i k)=(hp b i k && l.contains (k:Int))
 rw [Db l (show k < 4 by have:(dh b (dZ l) 0).n=b.ay.length:=rfl; omega),Bool.and_comm]
theorem vP{b:an}(hm:b.ay.length≤4){o:Nat}{r:bB}:eV (dh b (eW b) o) r↔eV { jm b with out:=λ i=>o.testBit i } r:=by
 refine eV.same (A:=dh b (eW b) o) (C:={ jm b with out:=λ i=>o.testBit i }) rfl rfl (λ _ _=>rfl) (λ i k _ c=>?_) (λ _ _ _ _=>⟨rfl,rfl⟩) (λ i _=>rfl)
 show (nth (dZ (gY b.ay.length)) k && hp b i k)=hp b i k
 have d:k < b.ay.length:=c
 rw [Db _ (by omega),show (gY b.ay.length).contains (k:Int)=true by rw [List.contains_iff_mem,E2]; omega,Bool.true_and]
theorem Fv{b:an}(hm:b.ay.length≤4){r:bB}:eV (dh b (eW b) 0) r↔eV (jm b) r:=by
 rw [vP hm]
 exact eV.same (A:={ jm b with out:=λ i=>(0:Nat).testBit i }) (C:=jm b) rfl rfl (λ _ _=>rfl) (λ _ _ _ _=>rfl) (λ _ _ _ _=>⟨rfl,rfl⟩) (λ i _=>by simp [jm])
theorem Ky{b:an}(c:Valid b):eY b 0=if b7 b=[] then 9 else 0:=by unfold eY; simp [kS.2 c]
theorem Ql{n:Nat}:cB n (2 ^ n - 1)=gY n:=by
 unfold cB gY
 rw [List.filter_eq_self.2 λ i hi=>Da i (List.mem_range.1 hi)]
set_option maxRecDepth 1000000 in
theorem goes_mono{b:an}(c:Valid b){l:ah}(h:e7 b (dZ l) 0=true):e7 b (eW b) 0=true:=by
 rw [uK] at h ⊢
 obtain ⟨r,h⟩:=h
 exact ⟨r,(Fv c.m4).2 ((zC c.m4).1 h).1⟩
abbrev iV(b:an)(a:Nat):Bool:=e7 b (dZ (cB b.ay.length a)) 0
theorem BY{b:an}(d:Valid b)(h:e7 b (eW b) 0=false):df b.ay.length (iV b) (2 ^ b.ay.length)=([],false) :=
 SL λ a _=>by
  cases c:iV b a with
  | false=>rfl
  | true=>rw [goes_mono d c] at h; cases h
theorem rF{b:an}(h:e7 b (eW b) 0=true):(df b.ay.length (iV b) (2 ^ b.ay.length)).2=true∧aZ b.ay.length (iV b) (df b.ay.length (iV b) (2 ^ b.ay.length)).1:=by
 have c:=Nat.two_pow_pos b.ay.length
 refine F2 (a:=2 ^ b.ay.length - 1) (by omega) ?_
 show e7 b (dZ (cB b.ay.length (2 ^ b.ay.length - 1))) 0=true
 rw [Ql]
 exact h
abbrev mZ(b:an)(a:Nat):Bool:=e7 b (eW b) a
theorem Iv{b:an}(c:Valid b):mZ b (2 ^ b.az.length - 1)=true:=by
 rw [uK]
 refine ⟨List.replicate b.az.length [],?_⟩
 rw [vP c.m4]
 have e:∀ i,i < b.az.length→nth (List.replicate b.az.length ([]:ah)) i=[]:=λ i hi=>by
  have:=bl (l:=List.replicate b.az.length ([]:ah)) (i:=i) (by simpa using hi)
  rw [List.getElem?_replicate,if_pos hi] at this
  exact (eI this).symm
 refine ⟨by simp [jm],λ i hi _=>e i hi,λ i hi ho=>?_,λ i j hi d=>.inr ?_⟩
 ·have:(2 ^ b.az.length - 1).testBit i=true:=Da i hi
  have ho:(2 ^ b.az.length - 1).testBit i=false:=ho
  rw [this] at ho
  cases ho
 ·rw [e i hi]; rfl
theorem Cb{b:an}(c:Valid b):aZ b.az.length (mZ b) (df b.az.length (mZ b) (2 ^ b.az.length)).1 :=
 (F2 (a:=2 ^ b.az.length - 1) (by have:=Nat.two_pow_pos b.az.length; omega) (Iv c)).2
def cH(b:an)(i:Nat):Int:=(nth b.az i).eN
abbrev gu(b:an)(r:bB):Int:=kT (cH b) r b.az.length b.ay.length
def hT(f:Int→Int):Int:=max (max (max (max 0 (f 0)) (f 1)) (f 2)) (f 3)
def dV(t:Nat→Int)(r:bB)(i k:Nat):Int→Int:=λ a=>eH t r a i+if (0≤a∧a < (k:Int))∧a∈nth r i then t i else 0
theorem Qp{f:Int→Int}{k:Nat}(c:k < 4){z:Int}(b:f k≤z):hT (gy f k z)=max (hT f) z:=by
 match k,c with
 | 0,_=>simp only [hT,gy] at b ⊢; simp; simp at b; omega
 | 1,_=>simp only [hT,gy] at b ⊢; simp; simp at b; omega
 | 2,_=>simp only [hT,gy] at b ⊢; simp; simp at b; omega
 | 3,_=>simp only [hT,gy] at b ⊢; simp; simp at b; omega
theorem Gj{b:an}(c:Valid b)(r:bB)(k:Int):∀ i,i≤b.az.length→0≤eH (cH b) r k i∧eH (cH b) r k i≤60 * i
 | 0,_=>by simp [eH]
 | i+1,h=>by
  have f:=Gj c r k i (by omega)
  have d:=(c.dv (i:=i) (by omega)).nW
  simp only [eH]
  have:cH b i=(nth b.az i).eN:=rfl
  split <;> omega
theorem EO{b:an}(n:Valid b){r:bB}(w:q5 b r):ma b (cV r)=some (gu b r):=by
 have hd:=n.d4
 have hm:=n.m4
 unfold ma
 have D:∀ i,i < b.az.length→1≤cH b i∧cH b i≤60:=λ i hi=>(n.dv hi).nW
 have fin:hT (dV (cH b) r b.az.length 0)=gu b r:=by
  have e:∀ a:Int,dV (cH b) r b.az.length 0 a=eH (cH b) r a b.az.length:=λ a=>by
   unfold dV
   rw [if_neg (by omega)]
   omega
  have z:∀ k:Nat,b.ay.length≤k→eH (cH b) r (k:Int) b.az.length=0:=λ k g=>z6 λ i hi C=>by
   have:=(w.row i hi).2 _ C
   omega
  have key:∀ m,gu b r≤m↔0≤m∧eH (cH b) r 0 b.az.length≤m∧eH (cH b) r 1 b.az.length≤m∧eH (cH b) r 2 b.az.length≤m∧eH (cH b) r 3 b.az.length≤m:=λ m=>by
   rw [wK]
   have q:∀ k:Nat,0≤m→(∀ j:Nat,j < b.ay.length→eH (cH b) r (j:Int) b.az.length≤m)→eH (cH b) r (k:Int) b.az.length≤m:=λ k c h=>by
    by_cases g:k < b.ay.length
    ·exact h k g
    ·rw [z k (by omega)]; exact c
   constructor
   ·rintro ⟨c,h⟩
    exact ⟨c,q 0 c h,q 1 c h,q 2 c h,q 3 c h⟩
   ·rintro ⟨c,h1,h2,h3,h4⟩
    refine ⟨c,λ k g=>?_⟩
    match k,(show k < 4 by omega) with
    | 0,_=>exact h1
    | 1,_=>exact h2
    | 2,_=>exact h3
    | 3,_=>exact h4
  unfold hT
  rw [e,e,e,e]
  have k1:=(key (gu b r)).1 (Int.le_refl _)
  have k2:=(key (max (max (max (max 0 (eH (cH b) r 0 b.az.length)) (eH (cH b) r 1 b.az.length)) (eH (cH b) r 2 b.az.length)) (eH (cH b) r 3 b.az.length))).2 (by omega)
  omega
 rw [← fin]
 refine (eP (o:=hT (dV (cH b) r b.az.length 0)) ?_).trans rfl
 have y:((λ _=>0:Int→Int),(0:Int),(0:Int))=(λ i:Nat=>(dV (cH b) r i 0,hT (dV (cH b) r i 0),(i:Int))) 0:=by
  have:dV (cH b) r 0 0=λ _=>0:=by
   funext a
   unfold dV
   rw [if_neg (by omega)]
   rfl
  simp only [this]
  rfl
 rw [y]
 refine iB (λ i:Nat=>(dV (cH b) r i 0,hT (dV (cH b) r i 0),(i:Int))) b.az.length (λ i hi=>?_) (by simp only [dX,a3])
 have hb:=λ a=>Gj n r a i (by omega)
 have G:=D i hi
 simp only [dec_lt hi,bf,b9,bl hi,aF,tb _ (show i < 4 by omega),cj (i:=i) (by omega)]
 have nx:dV (cH b) r i 4=dV (cH b) r (i+1) 0:=by
  funext a
  unfold dV
  simp only [eH]
  rw [if_neg (show ¬((0≤a∧a < ((0:Nat):Int))∧a∈nth r (i+1)) by omega)]
  by_cases d:a∈nth r i
  ·have:=(w.row i hi).2 a d
   rw [if_pos ⟨⟨by omega,by omega⟩,d⟩,if_pos d]
   omega
  ·rw [if_neg (λ h=>d h.2),if_neg d]
   omega
 rw [eP (o:=(dV (cH b) r (i+1) 0,hT (dV (cH b) r (i+1) 0))) ?_]
 have E:(dV (cH b) r i 0,hT (dV (cH b) r i 0),(0:Int))=(λ k:Nat=>(dV (cH b) r i k,hT (dV (cH b) r i k),(k:Int))) 0:=rfl
 rw [E]
 refine iB (λ k:Nat=>(dV (cH b) r i k,hT (dV (cH b) r i k),(k:Int))) 4 (λ k g=>?_) ?_
 ·simp only [show decide ((k:Int) < 4)=true by simp; omega,bf,nb _ g,aF,cj (i:=k) (by omega)]
  have s:dV (cH b) r i k (k:Int)=eH (cH b) r (k:Int) i:=by
   unfold dV
   rw [if_neg (λ h=>by omega)]
   omega
  have F:=hb (k:Int)
  cases p:(nth r i).contains (k:Int) with
  | true =>
   rw [List.contains_iff_mem] at p
   have e1:gy (dV (cH b) r i k) (k:Int) (dV (cH b) r i k (k:Int)+cH b i)=dV (cH b) r i (k+1):=by
    funext a
    unfold gy
    by_cases d:a=(k:Int)
    ·subst d
     rw [if_pos rfl,s]
     unfold dV
     rw [if_pos ⟨⟨by omega,by omega⟩,p⟩]
    ·rw [if_neg d]
     unfold dV
     congr 1
     by_cases h2:(0≤a∧a < (k:Int))∧a∈nth r i
     ·rw [if_pos h2,if_pos ⟨⟨h2.1.1,by omega⟩,h2.2⟩]
     ·rw [if_neg h2,if_neg (λ h3=>h2 ⟨⟨h3.1.1,by omega⟩,h3.2⟩)]
   have A:i64 (dV (cH b) r i k (k:Int)+(nth b.az i).eN)=dV (cH b) r i k (k:Int)+cH b i:=by
    rw [s,c9 (by have:cH b i=(nth b.az i).eN:=rfl; omega) (by have:cH b i=(nth b.az i).eN:=rfl; omega)]
    rfl
   rw [bf,A,e1,zh]
   congr 2
   have:=Qp (f:=dV (cH b) r i k) g (z:=dV (cH b) r i k (k:Int)+cH b i) (by omega)
   rw [e1] at this
   rw [this]
   congr 2
   rw [← e1]
   unfold gy
   rw [if_pos rfl]
  | false =>
   have B:¬ (k:Int)∈nth r i:=λ h=>by rw [← List.contains_iff_mem,p] at h; cases h
   have e1:dV (cH b) r i (k+1)=dV (cH b) r i k:=by
    funext a
    unfold dV
    congr 1
    by_cases h2:(0≤a∧a < (k:Int))∧a∈nth r i
    ·rw [if_pos h2,if_pos ⟨⟨h2.1.1,by omega⟩,h2.2⟩]
    ·rw [if_neg h2,if_neg (λ h3=>h2 ⟨⟨h3.1.1,by
      have:a≠(k:Int):=λ e=>B (e ▸ h3.2)
      omega⟩,h3.2⟩)]
   rw [a3,e1]
 ·rw [show decide (((4:Nat):Int) < 4)=false from rfl,a3,nx]
theorem PV{f:aW→b5}{w:bB→Int}:∀ (l:List bB) (x:bB),(∀ y∈x::l,f (cV y)=some (w y))→l.length≤70000→o8 f ((x::l).map cV)=some (cV (fA w x l)):=by
 intro l x c hl
 unfold o8
 rw [show idx ((x::l).map cV) 0=some (cV x) from rfl,aF]
 rw [show fP ((x::l).map cV) 1 (((x::l).map cV).length:Int)=some (l.map cV) from Ij,aF]
 refine (eP (o:=cV (fA w x l)) ?_).trans rfl
 have d:((0:Int),cV x)=(λ i:Nat=>((i:Int),cV (fA w x (l.take i)))) 0:=rfl
 rw [d]
 have sn:∀ (l:List bB) (x y:bB),fA w x (l++[y])=if w y < w (fA w x l) then y else fA w x l:=by
  intro l
  induction l with
  | nil=>intro x y; rfl
  | cons z l b=>intro x y; exact b _ y
 have mem:∀ (l:List bB) (x:bB),fA w x l∈x::l:=by
  intro l
  induction l with
  | nil=>intro x; simp [fA]
  | cons z l b =>
   intro x
   simp only [fA]
   have:=b (if w z < w x then z else x)
   rcases c8.1 this with h | h
   ·rw [h]; split <;> simp
   ·simp [h]
 have g:(l.map cV).length=l.length:=List.length_map _
 refine (congrArg (λ z=>bb _ z) rfl).trans ?_
 rw [g]
 refine iB (λ i:Nat=>((i:Int),cV (fA w x (l.take i)))) l.length (λ i hi=>?_) (by simp only [dX,a3,List.take_length])
 have e:(l.map cV)[i]? = some (cV (nth l i)):=by rw [List.getElem?_map,bl hi]; rfl
 have hb:fA w x (l.take i)∈x::l:=by
  rcases c8.1 (mem (l.take i) x) with h | h
  ·rw [h]; simp
  ·exact List.mem_cons_of_mem _ (List.mem_of_mem_take h)
 simp only [dec_lt hi,bf,b9,e,aF,c _ (List.mem_cons_of_mem _ (eJ hi)),c _ hb,cj (i:=i) (by omega)]
 have et:l.take (i+1)=l.take i++[nth l i]:=by rw [List.take_add_one,bl hi]; rfl
 rw [et,sn]
 by_cases hw:w (nth l i) < w (fA w x (l.take i))
 ·rw [c7 hw,bf,if_pos hw]
 ·rw [dH hw,a3,if_neg hw]
theorem PT{b:an}(d:Valid b){g:aW}(f:g.length=4){o:Nat}(ho:o < 16):o7 (λ y s=>hQ y (ek b) (o:Int) g (hL b) s)=some ((hz (dh b g o)).map cV):=by
 unfold o7 p0
 have hl:=zF d g o
 have key:∀ (l a:cM),l.foldl (λ s c=>s++[c]) a=a++l:=by
  intro l
  induction l with
  | nil=>simp
  | cons c l n=>intro a; rw [List.foldl_cons,n]; simp
 dsimp only
 rw [u1 d f ho _ (r:=(.inl ((((hz (dh b g o)).map cV).foldl (λ (s:cM) c=>s++[c]) [])),true)) (rS (λ k s=>s.length=k) (λ c s=>s++[c]) _ 0 [] rfl (λ j s a i m _=>by
  simp only [List.length_map] at i
  rw [jD (by simp; omega)]
  exact ⟨rfl,by simp [m]⟩))]
 rw [key]
 rfl
def yx(b:an):bB × Int × Bool × Int:=if eY b 0≠0 then ([],0,false,eY b 0) else match gh b with | []=>([],0,false,0) | r::l=>(fA (gu b) r l,gu b (fA (gu b) r l),true,0)
theorem xg{α:Type}(w:α→Int):∀ (l:List α) (x:α),fA w x l∈x::l
 | [],x=>by simp [fA]
 | z::l,x=>by
  simp only [fA]
  rcases c8.1 (xg w l (if w z < w x then z else x)) with h | h
  ·rw [h]; split <;> simp
  ·simp [h]
theorem Eo{b:an}(k:Small b):lx b=some (yx b):=by
 unfold lx yx
 rw [qy k (own:=0) (λ _=>rfl),aF]
 unfold nH
 by_cases h:eY b 0=0
 ·obtain ⟨c,_,_⟩:=rP h
  have hl:=zF c (eW b) 0
  simp only [h,ne_eq,fW,if_false,bne_self_eq_false,a3,vl c,show (ek b).book=b from rfl,vm c,kG,aF]
  have f:=PT c (tB b) (o:=0) (by omega)
  rw [show ((0:Nat):Int)=0 from rfl] at f
  rw [f,aF,List.length_map]
  have d:∀ r∈gh b,q5 b r:=λ r j=>FK j
  rw [show hz (dh b (eW b) 0)=gh b from rfl] at hl ⊢
  cases i:gh b with
  | nil=>rfl
  | cons r l =>
   rw [i] at hl d
   simp only [List.length_cons] at hl
   rw [show ((((r::l).length:Nat):Int) == 0)=false by simp; omega,a3]
   rw [PV (w:=gu b) l r (λ y m=>EO c (d y m)) (by omega),aF]
   have g:=d _ (xg (gu b) l r)
   rw [PR c g,aF,EO c g,aF]
 ·simp only [h,ne_eq,not_false_eq_true,if_true,kL h,bf]
def vq(b:an)(k i:Int):Int × Int:=if fi b≠0 then (0,fi b) else if (oC b k && oB b i)=false then (0,6) else if b7 b=[] then (0,9) else (gU ((b7 b).filter λ c=>gv b c k.toNat i.toNat).length (b7 b).length,0)
theorem El{b:an}(g:Small b)(k i:Int):jL b k i=some (vq b k i):=by
 have z:=g.kJ
 have y:=g.xU
 unfold jL vq
 have s:ns b k i=some (if (oC b k && oB b i)=false then 6 else 0):=by
  unfold ns
  rw [sI (m:=b.ay.length) (by omega),aF,sI (m:=b.az.length) (by omega),aF,zh]
  have e1:oC b k=bX k 0 ((b.ay.length:Int) - 1):=rfl
  have n:oB b i=bX i 0 ((b.az.length:Int) - 1):=rfl
  rw [e1,n]
  cases bX k 0 ((b.ay.length:Int) - 1) <;> cases bX i 0 ((b.az.length:Int) - 1) <;> rfl
 rw [qy g (own:=if (oC b k && oB b i)=false then 6 else 0) (λ _=>s),aF]
 unfold nH eY
 by_cases h1:fi b=0
 ·have j:=kS.1 h1
  rw [if_neg (show ¬ fi b≠0 by simpa using h1),if_neg (show ¬ fi b≠0 by simpa using h1)]
  cases f:(oC b k && oB b i) with
  | false=>rfl
  | true =>
   rw [cO] at f
   obtain ⟨w,rfl,o⟩:=Dl.1 f.1
   obtain ⟨i',rfl,hi⟩:=Dk.1 f.2
   simp only [h7,if_false,ne_eq,fW]
   by_cases d:b7 b=[]
   ·rw [if_pos d,if_pos d]; rfl
   ·rw [if_neg d,if_neg d]
    simp only [fW,if_false,bne_self_eq_false,a3]
    rw [EJ j (p:=λ c=>gv b c w i') (λ c d=>by unfold o4; rw [show (ek b).book=b from rfl,EK j (qE.1 d).1.1 o hi]; rfl),aF,PJ]
    rfl
 ·rw [if_pos h1,if_pos h1]
  simp only [h1,ne_eq,not_false_eq_true,if_true,kL h1,bf]
theorem AW{α:Type}(w:α→Int):∀ (l:List α) (x:α),∀ y∈x::l,w (fA w x l)≤w y
 | [],x,y,b=>by simp at b; subst b; exact Int.le_refl _
 | z::l,x,y,b=>by
  simp only [fA]
  have d:=AW w l (if w z < w x then z else x)
  have c:=d _ (List.mem_cons_self ..)
  rcases c8.1 b with rfl | b
  ·split at c <;> rename_i h <;> simp only [h,if_true,if_false] at c ⊢ <;> omega
  ·rcases c8.1 b with rfl | b
   ·split at c <;> rename_i h <;> simp only [h,if_true,if_false] at c ⊢ <;> omega
   ·exact d y (List.mem_cons_of_mem _ b)
theorem FJ{b:an}(c:Valid b){r:bB}:r∈gh b↔eV (jm b) r:=by
 rw [show gh b=hz (dh b (eW b) 0) from rfl,vu,Fv c.m4]
structure hk (a c:an):Prop where
 va:Valid a
 vc:Valid c
 case:b7 a=[]↔b7 c=[]
 le:Az (jm a) (jm c)
 nW:∀ i,i < a.az.length→cH a i=cH c i
theorem hk.FL{a c:an}(h:hk a c){r:bB}(b:r∈gh a):r∈gh c:=(FJ h.vc).2 (eV.le h.le ((FJ h.va).1 b))
theorem hk.many{a c:an}(h:hk a c):(gh a).length≤(gh c).length :=
 r7 id (Se _) (λ _ _ _ _ e=>e) λ _ b=>h.FL b
theorem hk.ND{a c:an}(h:hk a c){r:bB}(p:r∈gh a):gu a r=gu c r:=by
 have s:=FK p
 have f:a.az.length=c.az.length:=h.le.D
 have w:a.ay.length≤c.ay.length:=h.le.n
 have d:∀ k:Int,eH (cH a) r k a.az.length=eH (cH c) r k c.az.length:=λ k=>by
  rw [← f]
  exact Gk λ i hi=>⟨h.nW i hi,Iff.rfl⟩
 refine TN λ m=>?_
 rw [wK,wK]
 constructor
 ·rintro ⟨b,h1⟩
  refine ⟨b,λ k j=>?_⟩
  rw [← d]
  by_cases o:k < a.ay.length
  ·exact h1 k o
  ·rw [z6 λ i hi g=>by have:=(s.row i hi).2 _ g; omega]
   exact b
 ·rintro ⟨b,h1⟩
  exact ⟨b,λ k j=>by rw [d]; exact h1 k (by omega)⟩
theorem hk.fair{a c:an}(h:hk a c)(_:eY a 0=0){r:bB}{l:List bB}(d:gh a=r::l):∃ q m,gh c=q::m∧gu c (fA (gu c) q m)≤gu a (fA (gu a) r l):=by
 have hb:=xg (gu a) l r
 rw [← d] at hb
 have b:=h.FL hb
 cases he:gh c with
 | nil=>rw [he] at b; cases b
 | cons q m =>
  rw [he] at b
  refine ⟨q,m,rfl,?_⟩
  rw [h.ND hb]
  exact AW _ _ _ _ b
theorem hk.drop{a c:an}(h:hk a c):(df c.az.length (mZ c) (2 ^ c.az.length)).1.length≤(df a.az.length (mZ a) (2 ^ a.az.length)).1.length:=by
 obtain ⟨x,g,d,e⟩:=(Cb h.va).ex
 have b:a.az.length=c.az.length:=h.le.D
 rw [e]
 have:mZ c x=true:=by
  rw [uK] at d ⊢
  obtain ⟨r,f⟩:=d
  refine ⟨r,(vP h.vc.m4).2 (eV.le ?_ ((vP h.va.m4).1 f))⟩
  exact ⟨h.le.n,h.le.D,h.le.eD,h.le.ok,h.le.ap,λ _ _ h=>h,λ _ _ h=>h⟩
 have:=(Cb h.vc).len (by rw [← b]; exact g) this
 rwa [b]
end Go.Proofs.YtikficpdfaajlaaGreatDoor
