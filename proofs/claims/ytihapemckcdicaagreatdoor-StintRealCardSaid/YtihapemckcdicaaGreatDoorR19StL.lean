/- Plain laws of chapter 5. Conditions: none. -/
import Derived.Test.YtihapemckcdicaaGreatDoorQYStP
import Derived.Test.YtihapemckcdicaaGreatDoorQYStC
import Derived.Test.YtihapemckcdicaaGreatDoorQYStM
namespace Go.Proofs.YtihapemckcdicaaGreatDoor
open Go.Lg Go.Proofs
set_option maxRecDepth 10000
def kj(x:Reach)(a c:Int):Bool:=decide (a≤x.bJ) && (decide (x.bJ≤x.bT) && decide (x.bT≤c))
def mR(x:Reach)(w:Int):Bool:=decide (x.bT - x.bJ < w)
theorem P6{x:Reach}{a c:Int}(b : -1000000≤a)(d:c≤1000000)(h:kj x a c=true):i64 (x.bT - x.bJ)=x.bT - x.bJ:=by
 simp only [kj,cM,decide_eq_true_eq] at h
 exact cH (by omega) (by omega)
theorem NU{x:Reach}{a c:Int}:kj x a c=true↔a≤x.bJ∧x.bJ≤x.bT∧x.bT≤c:=by simp [kj]
theorem P7{x:Reach}{w:Int}:mR x w=true↔x.bT - x.bJ < w:=by simp [mR]
def n4(x:Reach):List Int:=(List.range (x.bT+1 - x.bJ).toNat).map λ (j:Nat)=>x.bJ+(j:Int)
theorem Ca{x:Reach}{n:Int}:n∈n4 x↔x.bJ≤n∧n≤x.bT:=by
 simp only [n4,List.mem_map,List.mem_range]
 constructor
 ·rintro ⟨j,a,rfl⟩; omega
 ·intro h; exact ⟨(n - x.bJ).toNat,by omega,by omega⟩
theorem CH{x:Reach}(h:x.bT - x.bJ < 3):(n4 x).length≤3:=by simp [n4]; omega
instance:Inhabited da:=⟨⟨0,0⟩⟩
instance:Inhabited Reach:=⟨⟨0,0⟩⟩
instance:Inhabited cN:=⟨⟨⟨#[]⟩,0⟩⟩
instance:Inhabited fR:=⟨⟨0,0,0,0⟩⟩
instance:Inhabited b7:=⟨⟨0,0,false⟩⟩
instance:Inhabited aY:=⟨⟨[0,0,0]⟩⟩
theorem iG(n a c:Int):eP n a c=some (bL n a c):=by
 unfold eP bL
 cases decide (a≤n) <;> rfl
theorem gJ(n a c:Int):e8 n a c=some (bL n a c):=by
 unfold e8 bL
 cases decide (a≤n) <;> rfl
theorem La(x:Reach)(a c:Int):qE x a c=some (kj x a c):=by
 unfold qE kj
 cases decide (a≤x.bJ) <;> cases decide (x.bJ≤x.bT) <;> rfl
theorem L4{x:Reach}{a c w:Int}(b : -1000000≤a)(d:c≤1000000):nM x a c w=some (kj x a c && mR x w):=by
 unfold nM kj mR
 by_cases h1:a≤x.bJ
 ·by_cases h2:x.bJ≤x.bT
  ·by_cases h3:x.bT≤c
   ·simp [h1,h2,h3,cH (z:=x.bT - x.bJ) (by omega) (by omega)]
   ·simp [h1,h2,h3]
  ·simp [h1,h2]
 ·simp [h1]
theorem rZ{α:Type}[Inhabited α]{l:List α}{f:α→Option Bool}{p:α→Bool}(hl:l.length≤1000)(b:∀ x∈l,f x=some (p x)):((a6 (O:=(Unit ⊕ Int)) (λ (a:Int) =>
 af (decide (a < (l.length:Int)))
 ((idx l a).bind λ e =>
 (f e).bind λ g =>
 af g
 (some (.inr (.inr a)))
 (some (.inl (i64 (a+1)))))
 (some (.inr (.inl ())))) 0).bind (Sum.elim (λ (_:Unit) =>
 some (-1))
  (λ q=>some q))).bind (λ c=>some (decide (c ≥ 0)))=some (l.any p):=by
 rw [jK (λ i=>if p (nth l i) then some (i:Int) else none) l.length (d:=(-1)) (λ i hi=>?_) (by simp only [dh,a2]) rfl]
 ·rw [aG,H5 p l]
 ·simp only [dec_lt hi,bc,bM,a5 hi,aG,b _ (eC hi),bY (i:=i) (by omega)]
  cases p (nth l i) <;> rfl
theorem L1{l:List Reach}{f:Reach→Option Bool}{p:Reach→Bool}(hl:l.length≤1000)(a:∀ x∈l,f x=some (p x)):o2 l f=some (l.any p):=rZ hl a
theorem L8{l:List cN}{f:cN→Option Bool}{p:cN→Bool}(hl:l.length≤1000)(a:∀ x∈l,f x=some (p x)):o3 l f=some (l.any p):=rZ hl a
theorem Lh{l:List b7}{f:b7→Option Bool}{p:b7→Bool}(hl:l.length≤1000)(a:∀ x∈l,f x=some (p x)):oZ l f=some (l.any p):=rZ hl a
theorem Kz{l:List Int}{f:Int→Option Bool}{p:Int→Bool}(hl:l.length≤1000)(a:∀ x∈l,f x=some (p x)):tc l f=some (l.any p):=rZ hl a
theorem BS{l:List Int}{n:Int}(hl:l.length≤1000):o5 l n=some (l.contains n):=by
 unfold o5
 refine (jK (λ i=>if (nth l i == n) then some true else none) l.length (d:=false) (λ i hi=>?_) (by simp only [dh,a2]) rfl).trans ?_
 ·simp only [dec_lt hi,bc,bM,a5 hi,aG,bY (i:=i) (by omega)]
  cases nth l i == n <;> rfl
 ·rw [vX (λ x=>x == n) l]
  rw [Ec]
structure Small (b:aj):Prop where
 rows:b.Rows.length≤20
 places:b.aD.length≤20
 hK:b.az.length≤20
 vw:b.av.length≤20
 O9:b.aQ.length≤20
 each:∀ p∈b.az,p.Name.size≤100
def nb(b:aj):Bool :=
 decide (20 < b.Rows.length) || (decide (20 < b.aD.length) || (decide (20 < b.az.length) || (decide (20 < b.av.length) || (decide (20 < b.aQ.length) || b.az.any λ p=>decide (100 < p.Name.size)))))
theorem lW{n m:Nat}:decide ((n:Int) > (m:Int))=decide (m < n):=by
 by_cases h:m < n <;> simp [h]
theorem Lm(b:aj):qG b=some (nb b):=by
 unfold qG nb
 have e1:decide ((b.Rows.length:Int) > 20)=decide (20 < b.Rows.length):=lW (m:=20)
 have a:decide ((b.aD.length:Int) > 20)=decide (20 < b.aD.length):=lW (m:=20)
 have c:decide ((b.az.length:Int) > 20)=decide (20 < b.az.length):=lW (m:=20)
 have e:decide ((b.av.length:Int) > 20)=decide (20 < b.av.length):=lW (m:=20)
 have f:decide ((b.aQ.length:Int) > 20)=decide (20 < b.aQ.length):=lW (m:=20)
 rw [e1,a,c,e,f]
 by_cases h1:20 < b.Rows.length
 ·simp [h1]
 by_cases h2:20 < b.aD.length
 ·simp [h1,h2]
 by_cases h3:20 < b.az.length
 ·simp [h1,h2,h3]
 by_cases h4:20 < b.av.length
 ·simp [h1,h2,h3,h4]
 by_cases h5:20 < b.aQ.length
 ·simp [h1,h2,h3,h4,h5]
 simp only [h1,h2,h3,h4,h5,decide_false,a2,aG,Bool.false_or]
 rw [jK (λ i=>if decide (100 < (nth b.az i).Name.size) then some true else none) b.az.length (d:=false) (λ i hi=>?_) (by simp only [dh,a2]) rfl]
 ·rw [vX (λ p:cN=>decide (100 < p.Name.size)) b.az]
 ·have f1:decide (((nth b.az i).Name.size:Int) > 100)=decide (100 < (nth b.az i).Name.size):=lW (m:=100)
  simp only [dec_lt hi,bc,bM,a5 hi,aG,f1,bY (i:=i) (by omega)]
  cases decide (100 < (nth b.az i).Name.size) <;> rfl
theorem Iq{b:aj}(h:nb b=false):Small b:=by
 simp only [nb,Bool.or_eq_false_iff,decide_eq_false_iff_not,List.any_eq_false,decide_eq_true_eq] at h
 obtain ⟨h1,h2,h3,h4,h5,h6⟩:=h
 exact ⟨by omega,by omega,by omega,by omega,by omega,λ p a=>by have:=h6 p a; omega⟩
theorem BE{n:Int}(h1:0≤n)(h2:n < 256):nC n=some (isLet n):=by unfold nC isLet; rw [cH (by omega) (by omega),gJ]; rfl
theorem Lq{n:Int}(h1:0≤n)(h2:n < 256):o0 n=some (kF n):=by unfold o0 kF; rw [cH (by omega) (by omega),gJ]; rfl
theorem Ld{s:ByteArray}(w:s.size≤1000):qF s=some (gW s):=by
 unfold qF gW
 rw [gJ,aG]
 cases hb:bL (s.size:Int) 1 12 with
 | false =>
  simp only [Bool.not_false,bc,aG]
  congr 1
  cases h:cE (gq s) 0 s.size with
  | none=>rfl
  | some o=>rw [AJ h]; rfl
 | true =>
  have h1:1≤s.size:=by
   simp only [bL,cM,decide_eq_true_eq] at hb
   omega
  have j:0 < (dT s).length:=by rw [uf]; omega
  obtain ⟨c,e⟩:=De (s:=s) (i:=0) (by omega)
  have n:jM s 0=some (nth (dT s) 0):=by unfold jM; rw [← a5 j]; exact bM _ 0
  simp only [Bool.not_true,a2,n,aG,BE c e]
  have hu:cE (gq s) 0 s.size=match gq s 0 with | some o=>some o | none=>cE (gq s) 1 (s.size - 1):=by
   obtain ⟨k,m⟩:∃ k,s.size=k+1:=⟨s.size - 1,by omega⟩
   rw [m]
   simp only [cE,Nat.add_sub_cancel,Nat.zero_add]
   cases gq s 0 <;> rfl
  rw [hu]
  unfold gq
  cases hl:isLet (nth (dT s) 0) with
  | false=>rfl
  | true =>
   simp only [Bool.not_true,a2,gQ,if_false]
   have b:=search (body:=λ (a:Int) =>
    af (decide (a < (s.size:Int)))
    ((jM s a).bind λ q =>
    (nC q).bind λ r =>
    af (!r)
    ((jM s a).bind λ t =>
    (o0 t).bind λ u =>
    af (!u)
    (some (.inr (.inr false)))
    (some (.inl (i64 (a+1)))))
    (some (.inl (i64 (a+1)))))
    (some (.inr (.inl ())))) (gq s) 1 s.size (d:=true) (g:=λ _=>some true) (λ i v hi=>?_) (by simp only [dh,a2]) h1 rfl
   ·exact b
   ·have l:i < (dT s).length:=by rw [uf]; exact hi
    obtain ⟨k1,k2⟩:=De hi
    have p:jM s (i:Int)=some (nth (dT s) i):=by unfold jM; rw [← a5 l]; exact bM _ i
    simp only [dec_lt hi,bc,p,aG,BE k1 k2,Lq k1 k2,bY (i:=i) (by omega)]
    have f:i≠0:=by omega
    unfold gq
    cases isLet (nth (dT s) i) with
    | true=>rfl
    | false =>
     simp only [Bool.not_false,bc,f,if_false,if_true]
     cases kF (nth (dT s) i) <;> rfl
theorem L6(s:ByteArray):qK s=some (gW s):=rfl
def ly(b:aj)(i:Nat):Option Int :=
 if (bL (nth b.Rows i).cB 1 30 && bL (nth b.Rows i).cK 1 60)=false then some 1
 else if 0 < i then (if (nth b.Rows i).cB≤(nth b.Rows (i - 1)).cB then some 7 else if (nth b.Rows i).cK > (nth b.Rows (i - 1)).cK then some 7 else none) else none
def iQ(b:aj):Int:=if bL (b.Rows.length:Int) 1 4=false then 2 else (cE (ly b) 0 b.Rows.length).getD 0
def jG(x:Reach):Bool:=kj x 1 30 && mR x 3
def im(b:aj):Int:=if bL (b.aD.length:Int) 1 3=false then 2 else if b.aD.any (λ x=>!jG x)=true then 1 else 0
def lA(p q:cN):Bool:=q.Name.toList == p.Name.toList
def j7(b:aj)(i:Nat):Option Int :=
 if gW (nth b.az i).Name=false then some 4 else if (b.az.take i).any (lA (nth b.az i))=true then some 5 else if bL (nth b.az i).gj 1 30=false then some 1 else none
def iJ(b:aj):Int:=if bL (b.az.length:Int) 1 4=false then 2 else (cE (j7 b) 0 b.az.length).getD 0
def gG(b:aj)(n:Int):Bool:=bL n 0 ((b.aD.length:Int) - 1)
def jk(b:aj)(i:Nat):Option Int :=
 if gG b (nth b.av i).Place=false then some 6 else if (bL (nth b.av i).dy 0 200 && (bL (nth b.av i).db 1 60 && bL (nth b.av i).az 1 3))=false then some 1 else none
def jT(b:aj):Int:=if bL (b.av.length:Int) 1 4=false then 2 else (cE (jk b) 0 b.av.length).getD 0
def lB(b:aj)(i:Nat):Option Int :=
 if gG b (nth b.aQ i).Place=false then some 6 else if bL (nth b.aQ i).dJ 0 30=false then some 1 else none
def mN(b:aj):Int:=if 3 < b.aQ.length then 2 else (cE (lB b) 0 b.aQ.length).getD 0
def dM(b:aj):Int:=if bL b.Rest 0 60=false then 1 else if iQ b≠0 then iQ b else if im b≠0 then im b else if iJ b≠0 then iJ b else if jT b≠0 then jT b else mN b
theorem qu{n:Int}{m:Nat}(hm:m≤1000):gY n (m:Int)=some (if bL n 0 ((m:Int) - 1)=false then 6 else 0):=by
 unfold gY
 rw [iG,aG,cH (by omega) (by omega)]
 cases bL n 0 ((m:Int) - 1) <;> rfl
theorem LQ{b:aj}(h:Small b):nF b=some (iQ b):=by
 unfold nF iQ
 have d:=h.rows
 rw [iG,aG]
 cases bL (b.Rows.length:Int) 1 4 with
 | false=>rfl
 | true =>
  simp only [Bool.not_true,a2,gQ,if_false]
  refine jK (ly b) b.Rows.length (λ i hi=>?_) (by simp only [dh,a2]) rfl
  simp only [dec_lt hi,bc,bM,a5 hi,aG,iG,bY (i:=i) (by omega)]
  unfold ly
  cases bL (nth b.Rows i).cB 1 30 with
  | false=>rfl
  | true =>
   cases bL (nth b.Rows i).cK 1 60 with
   | false=>rfl
   | true =>
    by_cases a:0 < i
    ·simp only [sa a,Bool.not_true,a2,bc,eW (i:=i) (by omega) a,bM,a5 (show i - 1 < b.Rows.length by omega),aG,a,if_true,Bool.and_self,gQ,if_false]
     by_cases c:(nth b.Rows i).cB≤(nth b.Rows (i - 1)).cB
     ·simp [c]
     ·by_cases hd:(nth b.Rows i).cK > (nth b.Rows (i - 1)).cK
      ·simp [c,hd]
      ·simp [c,hd]
    ·simp [a]
theorem Kk{b:aj}(h:Small b):qA b=some (if bL b.Rest 0 60=false then 1 else iQ b):=by
 unfold qA iQ
 have d:=h.rows
 rw [gJ,aG]
 cases bL b.Rest 0 60 with
 | false=>rfl
 | true =>
 simp only [Bool.not_true,a2,gQ,if_false]
 rw [gJ,aG]
 cases bL (b.Rows.length:Int) 1 4 with
 | false=>rfl
 | true =>
  simp only [Bool.not_true,a2,gQ,if_false]
  refine jK (ly b) b.Rows.length (λ i hi=>?_) (by simp only [dh,a2]) rfl
  simp only [dec_lt hi,bc,bM,a5 hi,aG,gJ,bY (i:=i) (by omega)]
  unfold ly
  cases bL (nth b.Rows i).cB 1 30 with
  | false=>rfl
  | true =>
   cases bL (nth b.Rows i).cK 1 60 with
   | false=>rfl
   | true =>
    by_cases a:0 < i
    ·simp only [sa a,Bool.not_true,a2,bc,eW (i:=i) (by omega) a,bM,a5 (show i - 1 < b.Rows.length by omega),aG,a,if_true,Bool.and_self,gQ,if_false]
     by_cases c:(nth b.Rows i).cB≤(nth b.Rows (i - 1)).cB
     ·simp [c]
     ·by_cases hd:(nth b.Rows i).cK > (nth b.Rows (i - 1)).cK
      ·simp [c,hd]
      ·simp [c,hd]
    ·simp [a]
theorem LS{b:aj}(h:Small b):nG b=some (im b):=by
 unfold nG im
 rw [iG,aG]
 cases bL (b.aD.length:Int) 1 3 with
 | false=>rfl
 | true =>
  have a:=h.places
  simp only [Bool.not_true,a2,gQ,if_false]
  rw [L1 (p:=λ x=>!jG x) (by omega) (λ x _=>by unfold nL jG; rw [L4 (by omega) (by omega)]; rfl),aG]
  cases b.aD.any λ x=>!jG x <;> rfl
theorem LV{b:aj}(h:Small b):nH b=some (iJ b):=by
 unfold nH iJ
 rw [iG,aG]
 cases bL (b.az.length:Int) 1 4 with
 | false=>rfl
 | true =>
  have a:=h.hK
  simp only [Bool.not_true,a2,gQ,if_false]
  refine jK (j7 b) b.az.length (λ i hi=>?_) (by simp only [dh,a2]) rfl
  simp only [dec_lt hi,bc,bM,a5 hi,aG,L6,zo (show i≤b.az.length by omega),iG,
   L8 (l:=b.az.take i) (f:=λ y=>nN y (nth b.az i)) (p:=lA (nth b.az i)) (by simp; omega) (λ x _=>rfl),bY (i:=i) (by omega)]
  unfold j7
  cases gW (nth b.az i).Name with
  | false=>rfl
  | true =>
   cases (b.az.take i).any (lA (nth b.az i)) with
   | true=>rfl
   | false=>cases bL (nth b.az i).gj 1 30 <;> rfl
theorem Km{b:aj}(h:Small b):qB b=some (if im b≠0 then im b else iJ b):=by
 unfold qB im
 rw [gJ,aG]
 cases bL (b.aD.length:Int) 1 3 with
 | false=>rfl
 | true =>
  have f:=h.places
  simp only [Bool.not_true,a2,gQ,if_false]
  rw [xB (λ i=>if (λ x=>!jG x) (nth b.aD i) then some (1:Int) else none) b.aD.length (λ i hi=>?_) (by simp only [dh,a2])]
  ·rw [Ar (λ x=>!jG x) (1:Int) b.aD b.aD.length (b6 _),List.take_length]
   cases b.aD.any λ x=>!jG x with
   | true=>rfl
   | false =>
    simp only [fi,if_false,aG,Sum.elim_inl,ne_eq,eK]
    unfold iJ
    rw [gJ,aG]
    cases bL (b.az.length:Int) 1 4 with
    | false=>rfl
    | true =>
     have hm:=h.hK
     simp only [Bool.not_true,a2,gQ,if_false]
     refine jK (j7 b) b.az.length (λ i hi=>?_) (by simp only [dh,a2]) rfl
     have e:=h.each _ (eC hi)
     simp only [dec_lt hi,bc,bM,a5 hi,aG,Ld (show (nth b.az i).Name.size≤1000 by omega)]
     rw [xB (λ k=>if lA (nth b.az i) (nth b.az k) then some (5:Int) else none) i (λ k d=>?_) (by simp only [dh,a2])]
     ·rw [Ar (lA (nth b.az i)) (5:Int) b.az i (by omega)]
      simp only [gJ,aG,bY (i:=i) (by omega)]
      unfold j7
      cases gW (nth b.az i).Name with
      | false=>rfl
      | true =>
       cases (b.az.take i).any (lA (nth b.az i)) with
       | true=>rfl
       | false=>cases bL (nth b.az i).gj 1 30 <;> rfl
     ·simp only [dec_lt d,bc,bM,a5 (show k < b.az.length by omega),aG,bY (i:=k) (by omega)]
      rw [show ((nth b.az k).Name.toList == (nth b.az i).Name.toList)=lA (nth b.az i) (nth b.az k) from rfl]
      cases lA (nth b.az i) (nth b.az k) <;> rfl
  ·simp only [dec_lt hi,bc,bM,a5 hi,aG,La,bY (i:=i) (by omega)]
   unfold jG
   by_cases c:kj (nth b.aD i) 1 30=true
   ·have hw:decide (i64 ((nth b.aD i).bT - (nth b.aD i).bJ) ≥ 3)=!mR (nth b.aD i) 3:=by
     rw [P6 (by omega) (by omega) c]
     unfold mR
     by_cases a:(nth b.aD i).bT - (nth b.aD i).bJ < 3
     ·simp [a]
     ·simp [a]; omega
    rw [hw]
    by_cases a:mR (nth b.aD i) 3=true
    ·simp [c,a,a2]
    ·simp [c,a,a2,bc]
   ·simp [c,bc]
theorem LX{b:aj}(h:Small b):nI b=some (jT b):=by
 unfold nI jT
 rw [iG,aG]
 cases bL (b.av.length:Int) 1 4 with
 | false=>rfl
 | true =>
  have a:=h.places
  have hd:=h.vw
  simp only [Bool.not_true,a2,gQ,if_false]
  refine jK (jk b) b.av.length (λ i hi=>?_) (by simp only [dh,a2]) rfl
  simp only [dec_lt hi,bc,bM,a5 hi,aG,qu (show b.aD.length≤1000 by omega),iG,bY (i:=i) (by omega)]
  unfold jk gG
  cases bL (nth b.av i).Place 0 ((b.aD.length:Int) - 1) with
  | false=>rfl
  | true=>cases bL (nth b.av i).dy 0 200 <;> cases bL (nth b.av i).db 1 60 <;> cases bL (nth b.av i).az 1 3 <;> rfl
theorem LZ{b:aj}(h:Small b):nK b=some (mN b):=by
 unfold nK mN
 have e:decide ((b.aQ.length:Int) > 3)=decide (3 < b.aQ.length):=lW (m:=3)
 rw [e]
 by_cases h3:3 < b.aQ.length
 ·simp [h3]
 have a:=h.places
 simp only [h3,decide_false,a2,if_false]
 refine jK (lB b) b.aQ.length (λ i hi=>?_) (by simp only [dh,a2]) rfl
 simp only [dec_lt hi,bc,bM,a5 hi,aG,qu (show b.aD.length≤1000 by omega),iG,bY (i:=i) (by omega)]
 unfold lB gG
 cases bL (nth b.aQ i).Place 0 ((b.aD.length:Int) - 1) with
 | false=>rfl
 | true=>cases bL (nth b.aQ i).dJ 0 30 <;> rfl
theorem Ch{z:Int}{a c:Option Int}:af (z != 0) a c=if z≠0 then a else c:=by
 by_cases h:z=0
 ·subst h; rfl
 ·rw [if_pos h,iN h]; rfl
theorem qU{b:aj}(h:Small b):g0 b=some (dM b):=by
 unfold g0 dM
 rw [show (⟨b.Rest,b.Rows,b.aD,b.az,b.av,b.aQ⟩:aj)=b from rfl]
 unfold o1
 rw [iG,aG]
 cases bL b.Rest 0 60 with
 | false=>rfl
 | true =>
  simp only [Bool.not_true,a2,aG,LQ h,LS h,LV h,LX h,LZ h,Ch,gQ,if_false]
  by_cases h1:iQ b=0
  ·by_cases h2:im b=0
   ·by_cases h3:iJ b=0
    ·by_cases h4:jT b=0
     ·by_cases h5:mN b=0
      ·simp [h1,h2,h3,h4,h5]
      ·simp [h1,h2,h3,h4,h5]
     ·simp [h1,h2,h3,h4]
    ·simp [h1,h2,h3]
   ·simp [h1,h2]
  ·simp [h1]
theorem Bn{b:aj}{n:Int}(h:Small b):oG b n=some (gG b n):=by
 unfold oG gG
 have a:=h.places
 rw [gJ,cH (by omega) (by omega)]
 rfl
theorem Mo{b:aj}(h:Small b):qQ b=some (dM b):=by
 unfold qQ dM
 rw [Kk h,aG]
 cases bL b.Rest 0 60 with
 | false=>rfl
 | true =>
  have c:=h.places
  have hd:=h.vw
  have d:=h.O9
  simp only [gQ,if_false,Km h,aG,Ch]
  by_cases h1:iQ b=0
  ·by_cases h2:im b=0
   ·by_cases h3:iJ b=0
    ·simp only [h1,h2,h3,ne_eq,eK,if_false]
     unfold jT
     rw [gJ,aG]
     cases bL (b.av.length:Int) 1 4 with
     | false=>rfl
     | true =>
      simp only [Bool.not_true,a2,gQ,if_false]
      rw [xB (jk b) b.av.length (λ i hi=>?_) (by simp only [dh,a2])]
      ·cases a:cE (jk b) 0 b.av.length with
       | some o =>
        simp only [aG,Sum.elim_inr,gh]
        rw [if_pos]
        rintro rfl
        obtain ⟨j,_,_,he,_⟩:=l6 a
        unfold jk at he
        split at he
        ·cases he
        ·split at he <;> cases he
       | none =>
        simp only [aG,Sum.elim_inl,Option.getD_none,eK,if_false]
        unfold mN
        have e:decide ((b.aQ.length:Int) > 3)=decide (3 < b.aQ.length):=lW (m:=3)
        rw [e]
        by_cases h3:3 < b.aQ.length
        ·simp [h3]
        simp only [h3,decide_false,a2,if_false]
        refine jK (lB b) b.aQ.length (λ i hi=>?_) (by simp only [dh,a2]) rfl
        simp only [dec_lt hi,bc,bM,a5 hi,aG,Bn h,gJ,bY (i:=i) (by omega)]
        unfold lB
        cases gG b (nth b.aQ i).Place with
        | false=>rfl
        | true=>cases bL (nth b.aQ i).dJ 0 30 <;> rfl
      ·simp only [dec_lt hi,bc,bM,a5 hi,aG,Bn h,gJ,bY (i:=i) (by omega)]
       unfold jk
       cases gG b (nth b.av i).Place with
       | false=>rfl
       | true=>cases bL (nth b.av i).dy 0 200 <;> cases bL (nth b.av i).db 1 60 <;> cases bL (nth b.av i).az 1 3 <;> rfl
    ·simp [h1,h2,h3]
   ·simp [h1,h2]
  ·simp [h1]
theorem Mk(b:aj):qO b=some (!nb b && (dM b == 0)):=by
 unfold qO
 rw [Lm,aG]
 cases a:nb b with
 | true=>rfl
 | false=>rw [Bool.not_false,bc,Mo (Iq a)]; rfl
structure D3 (r:da):Prop where
 depth:1≤r.cB∧r.cB≤30
 stay:1≤r.cK∧r.cK≤60
structure ye (P:Nat) (d:fR):Prop where
 place:0≤d.Place∧d.Place < (P:Int)
 pY:0≤d.dy∧d.dy≤200
 mP:1≤d.db∧d.db≤60
 hK:1≤d.az∧d.az≤3
structure yj (P:Nat) (s:b7):Prop where
 place:0≤s.Place∧s.Place < (P:Int)
 line:0≤s.dJ∧s.dJ≤30
structure Valid (b:aj):Prop where
 rest:0≤b.Rest∧b.Rest≤60
 r1:1≤b.Rows.length
 r4:b.Rows.length≤4
 row:∀ r∈b.Rows,D3 r
 zj:∀ i,0 < i→i < b.Rows.length→(nth b.Rows (i - 1)).cB < (nth b.Rows i).cB∧(nth b.Rows i).cK≤(nth b.Rows (i - 1)).cK
 p1:1≤b.aD.length
 p3:b.aD.length≤3
 place:∀ x∈b.aD,1≤x.bJ∧x.bJ≤x.bT∧x.bT≤30∧x.bT - x.bJ < 3
 m1:1≤b.az.length
 m4:b.az.length≤4
 w6:∀ m∈b.az,gW m.Name=true∧1≤m.gj∧m.gj≤30
 names:∀ i,i < b.az.length→(b.az.take i).any (lA (nth b.az i))=false
 d1:1≤b.av.length
 d4:b.av.length≤4
 vv:∀ d∈b.av,ye b.aD.length d
 s3:b.aQ.length≤3
 sound:∀ s∈b.aQ,yj b.aD.length s
theorem OE{b:aj}(i:Nat):ly b i≠some 0:=by
 unfold ly
 intro h
 repeat' split at h
 all_goals cases h
theorem MO{b:aj}(i:Nat):j7 b i≠some 0:=by
 unfold j7
 intro h
 repeat' split at h
 all_goals cases h
theorem Fa{b:aj}(i:Nat):jk b i≠some 0:=by
 unfold jk
 intro h
 repeat' split at h
 all_goals cases h
theorem O8{b:aj}(i:Nat):lB b i≠some 0:=by
 unfold lB
 intro h
 repeat' split at h
 all_goals cases h
theorem xx{b:aj}{i:Nat}:ly b i=none↔((1≤(nth b.Rows i).cB∧(nth b.Rows i).cB≤30)∧(1≤(nth b.Rows i).cK∧(nth b.Rows i).cK≤60))∧(0 < i→(nth b.Rows (i - 1)).cB < (nth b.Rows i).cB∧(nth b.Rows i).cK≤(nth b.Rows (i - 1)).cK):=by
 unfold ly
 by_cases h1:(bL (nth b.Rows i).cB 1 30 && bL (nth b.Rows i).cK 1 60)=false
 ·rw [if_pos h1]
  simp only [reduceCtorEq,false_iff]
  rintro ⟨⟨h2,h3⟩,_⟩
  rw [dL.2 h2,dL.2 h3] at h1
  cases h1
 ·rw [if_neg h1]
  simp only [Bool.not_eq_false,cM,dL] at h1
  by_cases a:0 < i
  ·rw [if_pos a]
   constructor
   ·intro h
    split at h
    ·cases h
    ·split at h
     ·cases h
     ·exact ⟨h1,λ _=>by omega⟩
   ·rintro ⟨_,h2⟩
    have:=h2 a
    rw [if_neg (by omega),if_neg (by omega)]
  ·rw [if_neg a]
   exact ⟨λ _=>⟨h1,λ h=>absurd h a⟩,λ _=>rfl⟩
theorem Cq{x:Reach}:jG x=true↔1≤x.bJ∧x.bJ≤x.bT∧x.bT≤30∧x.bT - x.bJ < 3:=by
 unfold jG
 rw [cM,NU,P7]
 omega
theorem iw{b:aj}:dM b=0↔Valid b:=by
 constructor
 ·intro h
  unfold dM at h
  by_cases h1:bL b.Rest 0 60=false
  ·rw [if_pos h1] at h; cases h
  rw [if_neg h1] at h
  by_cases h2:iQ b=0
  case neg=>rw [if_pos h2] at h; exact absurd h h2
  rw [if_neg (by simpa using h2)] at h
  by_cases h3:im b=0
  case neg=>rw [if_pos h3] at h; exact absurd h h3
  rw [if_neg (by simpa using h3)] at h
  by_cases h4:iJ b=0
  case neg=>rw [if_pos h4] at h; exact absurd h h4
  rw [if_neg (by simpa using h4)] at h
  by_cases h5:jT b=0
  case neg=>rw [if_pos h5] at h; exact absurd h h5
  rw [if_neg (by simpa using h5)] at h
  unfold iQ at h2
  unfold im at h3
  unfold iJ at h4
  unfold jT at h5
  unfold mN at h
  split at h2
  ·cases h2
  rename_i p
  split at h3
  ·cases h3
  rename_i q
  split at h3
  ·cases h3
  rename_i k3
  split at h4
  ·cases h4
  rename_i t
  split at h5
  ·cases h5
  rename_i u
  split at h
  ·cases h
  rename_i w
  simp only [Bool.not_eq_false,dL] at h1 p q t u
  have r:=sJ OE h2
  have m:=sJ MO h4
  have d:=sJ Fa h5
  have s:=sJ O8 h
  refine ⟨h1,by omega,by omega,λ x a=>?_,λ i f hi=>(xx.1 (r i hi)).2 f,by omega,by omega,λ x a=>?_,by omega,by omega,λ x a=>?_,λ i hi=>?_,by omega,by omega,λ x a=>?_,by omega,λ x a=>?_⟩
  ·obtain ⟨i,hi,rfl⟩:=jE a
   obtain ⟨⟨e,c⟩,_⟩:=xx.1 (r i hi)
   exact ⟨e,c⟩
  ·have:b.aD.any (λ x=>!jG x)=false:=by simpa using k3
   rw [List.any_eq_false] at this
   have:=this x a
   exact Cq.1 (by simpa using this)
  ·obtain ⟨i,hi,rfl⟩:=jE a
   have:=m i hi
   unfold j7 at this
   split at this
   ·cases this
   ·split at this
    ·cases this
    ·split at this
     ·cases this
     ·rename_i e c g
      rw [Bool.not_eq_false,dL] at g
      exact ⟨by simpa using e,g⟩
  ·have:=m i hi
   unfold j7 at this
   split at this
   ·cases this
   ·split at this
    ·cases this
    ·rename_i e c
     simpa using c
  ·obtain ⟨i,hi,rfl⟩:=jE a
   have:=d i hi
   unfold jk gG at this
   split at this
   ·cases this
   ·split at this
    ·cases this
    ·rename_i e c
     rw [Bool.not_eq_false,dL] at e
     rw [Bool.not_eq_false,cM,cM,dL,dL,dL] at c
     exact ⟨by omega,c.1,c.2.1,c.2.2⟩
  ·obtain ⟨i,hi,rfl⟩:=jE a
   have:=s i hi
   unfold lB gG at this
   split at this
   ·cases this
   ·split at this
    ·cases this
    ·rename_i e c
     rw [Bool.not_eq_false,dL] at e c
     exact ⟨by omega,c⟩
 ·intro h
  have e1:iQ b=0:=by
   unfold iQ
   have y:=h.r1
   have z:=h.r4
   rw [if_neg (by rw [Bool.not_eq_false,dL]; omega),iD.2 λ i _ hi=>?_]
   ·rfl
   ·have a:=h.row _ (eC (l:=b.Rows) (i:=i) (by omega))
    exact xx.2 ⟨⟨a.depth,a.stay⟩,λ f=>h.zj i f (by omega)⟩
  have j:im b=0:=by
   unfold im
   have h1:=h.p1
   have h3:=h.p3
   rw [if_neg (by rw [Bool.not_eq_false,dL]; omega),if_neg]
   rw [Bool.not_eq_true,List.any_eq_false]
   intro x a
   simpa using Cq.2 (h.place x a)
  have k:iJ b=0:=by
   unfold iJ
   have h1:=h.m1
   have h4:=h.m4
   rw [if_neg (by rw [Bool.not_eq_false,dL]; omega),iD.2 λ i _ hi=>?_]
   ·rfl
   ·have a:=h.w6 _ (eC (l:=b.az) (i:=i) (by omega))
    unfold j7
    rw [if_neg (by simp [a.1]),if_neg (by rw [h.names i (by omega)]; simp),if_neg (by rw [Bool.not_eq_false,dL]; exact a.2)]
  have n:jT b=0:=by
   unfold jT
   have h1:=h.d1
   have h4:=h.d4
   rw [if_neg (by rw [Bool.not_eq_false,dL]; omega),iD.2 λ i _ hi=>?_]
   ·rfl
   ·have a:=h.vv _ (eC (l:=b.av) (i:=i) (by omega))
    have v:=a.place
    unfold jk gG
    rw [if_neg (by rw [Bool.not_eq_false,dL]; omega),if_neg]
    rw [Bool.not_eq_false,cM,cM,dL,dL,dL]
    exact ⟨a.pY,a.mP,a.hK⟩
  have o:mN b=0:=by
   unfold mN
   have h3:=h.s3
   rw [if_neg (by omega),iD.2 λ i _ hi=>?_]
   ·rfl
   ·have a:=h.sound _ (eC (l:=b.aQ) (i:=i) (by omega))
    have v:=a.place
    unfold lB gG
    rw [if_neg (by rw [Bool.not_eq_false,dL]; omega),if_neg (by rw [Bool.not_eq_false,dL]; exact a.line)]
  unfold dM
  rw [if_neg (by rw [Bool.not_eq_false,dL]; exact h.rest)]
  simp [e1,j,k,n,o]
theorem Valid.small{b:aj}(h:Valid b)(a:∀ p∈b.az,p.Name.size≤100):Small b:=by
 have h1:=h.r4
 have h2:=h.p3
 have h3:=h.m4
 have h4:=h.d4
 have h5:=h.s3
 exact ⟨by omega,by omega,by omega,by omega,by omega,a⟩
theorem IL{s:ByteArray}(h:gW s=true):s.size≤12:=by
 unfold gW at h
 cases a:cE (gq s) 0 s.size with
 | some o =>
  rw [a,gh] at h
  rw [AJ a] at h
  cases h
 | none =>
  rw [a,Option.getD_none,dL] at h
  omega
theorem Valid.sm{b:aj}(h:Valid b):Small b:=h.small λ p a=>by have:=IL (h.w6 p a).1; omega
theorem Valid.each{b:aj}(h:Valid b){i:Nat}(hi:i < b.aD.length):1≤(nth b.aD i).bJ∧(nth b.aD i).bJ≤(nth b.aD i).bT∧(nth b.aD i).bT≤30∧(nth b.aD i).bT - (nth b.aD i).bJ < 3:=h.place _ (eC hi)
theorem sP{α:Type}[Inhabited α]{l:List α}{n:Int}(a:0≤n)(h:n < (l.length:Int)):idx l n=some (nth l n.toNat):=by
 unfold idx
 rw [if_pos a]
 exact a5 (by omega)
def mI(b:aj)(w:List Int):Bool:=b.aQ.all λ s=>decide (nth w s.Place.toNat≤s.dJ) == s.jO
abbrev l5(b:aj):Nat→List Int→List Int:=λ i _=>n4 (nth b.aD i)
def bP(b:aj):List (List Int):=(lvl (l5 b) b.aD.length).filter (mI b)
theorem jB{b:aj}{c:List Int}:c∈bP b↔(c.length=b.aD.length∧∀ i,i < b.aD.length→(nth b.aD i).bJ≤nth c i∧nth c i≤(nth b.aD i).bT)∧mI b c=true:=by
 unfold bP
 rw [List.mem_filter,q0]
 simp only [l5,Ca]
def fc(c:List Int):aY:=⟨gB [0,0,0] c⟩
theorem r6{c:List Int}(h:c.length≤3):(gB [0,0,0] c).length=3∧(∀ i,i < c.length→nth (gB [0,0,0] c) i=nth c i)∧∀ i,c.length≤i→i < 3→nth (gB [0,0,0] c) i=0:=by
 match c,h with
 | [],_=>exact ⟨rfl,λ i hi=>by simp at hi,λ i _ hi=>by match i,hi with | 0,_=>rfl | 1,_=>rfl | 2,_=>rfl⟩
 | [_],_=>exact ⟨rfl,λ i hi=>by match i,hi with | 0,_=>rfl,λ i h1 hi=>by match i,h1,hi with | 1,_,_=>rfl | 2,_,_=>rfl⟩
 | [_,_],_=>exact ⟨rfl,λ i hi=>by match i,hi with | 0,_=>rfl | 1,_=>rfl,λ i h1 hi=>by match i,h1,hi with | 2,_,_=>rfl⟩
 | [_,_,_],_=>exact ⟨rfl,λ i hi=>by match i,hi with | 0,_=>rfl | 1,_=>rfl | 2,_=>rfl,λ i h1 hi=>by simp at h1; omega⟩
structure hR (P:Nat) (pre w:List Int):Prop where
 len:w.length=3
 pre:∀ i,i < pre.length→nth w i=nth pre i
 rest:∀ i,P≤i→i < 3→nth w i=0
theorem hR.fc{P:Nat}{pre w:List Int}(h:hR P pre w)(a:pre.length=P)(h3:P≤3):w=gB [0,0,0] pre:=by
 obtain ⟨h1,h2,h4⟩:=r6 (c:=pre) (by omega)
 refine Ck (by rw [h.len,h1]) λ i hi=>?_
 by_cases hl:i < pre.length
 ·rw [h.pre i hl,h2 i hl]
 ·rw [h.rest i (by omega) (by rw [← h.len]; exact hi),h4 i (by omega) (by rw [← h.len]; exact hi)]
theorem hR.set{P:Nat}{pre w:List Int}(h:hR P pre w)(a:pre.length < P)(h3:P≤3)(n:Int):hR P (pre++[n]) (w.set pre.length n):=by
 have hl:=h.len
 refine ⟨by simpa using hl,λ i hi=>?_,λ i h1 h2=>?_⟩
 ·by_cases e:i=pre.length
  ·subst e
   rw [Na (by omega),lj]
  ·rw [Cl (by omega)]
   simp only [fg,List.length_cons,List.length_nil] at hi
   rw [j9 (by omega)]
   exact h.pre i (by omega)
 ·rw [Cl (by omega)]
  exact h.rest i h1 h2
theorem hR.back{P:Nat}{pre w:List Int}{n:Int}(h:hR P (pre++[n]) w):hR P pre w:=⟨h.len,λ i hi=>by rw [h.pre i (by simp; omega),j9 hi],h.rest⟩
theorem KL{b:aj}(a:Valid b){c:List Int}{w:aY}(hw:∀ i,i < b.aD.length→nth w.deep i=nth c i)(hl:w.deep.length=3):ma b w=some (mI b c):=by
 unfold ma
 have h3:=a.s3
 have e:=a.p3
 rw [Lh (p:=λ s=>!(decide (nth c s.Place.toNat≤s.dJ) == s.jO)) (by omega) (λ s d=>?_),aG]
 ·unfold mI
  congr 1
  rw [List.not_any_eq_all_not]
  congr 1
  funext s
  simp
 ·have:=(a.sound s d).place
  unfold nB
  rw [sP this.1 (by omega),aG,hw _ (by omega)]
theorem wD{α S X O:Type}{ys:α→S→Option (S × Bool)}{body:S × X→Option ((S × X) ⊕ O)}(c:Nat→List α)(n:Nat)(I:Nat→X→Prop)(F Q:S→O→Prop)
  (h:∀ j s x r,j < n→I j x→dX ys (c j) s=some r→if r.2=true then ∃ x',body (s,x)=some (.inl (r.1,x'))∧I (j+1) x' else ∃ o,body (s,x)=some (.inr o)∧Q r.1 o) (d:∀ s x,I n x→∃ o,body (s,x)=some (.inr o)∧F s o) :
  ∀ (k j:Nat) (s:S) (x:X) (r:S × Bool),j+k=n→I j x→dX ys ((List.range' j k).flatMap c) s=some r→∃ o,a6 body (s,x)=some o∧if r.2=true then F r.1 o else Q r.1 o
 | 0,j,s,x,r,e,b,a=>by
  simp only [List.range'_zero,List.flatMap_nil,dX,eh] at a
  subst a
  obtain rfl:j=n:=by omega
  obtain ⟨o,h1,h2⟩:=d s x b
  exact ⟨o,fF h1,by simpa using h2⟩
 | k+1,j,s,x,r,e,b,a=>by
  rw [List.range'_succ,List.flatMap_cons,As] at a
  obtain ⟨q,f,a⟩:=ag a
  have hb:=h j s x q (by omega) b f
  split at a
  ·rename_i h2
   rw [if_pos h2] at hb
   obtain ⟨x',h3,h4⟩:=hb
   rw [j1 h3]
   exact wD c n I F Q h d k (j+1) q.1 x' r (by omega) h4 a
  ·rename_i h2
   rw [if_neg h2] at hb
   obtain ⟨o,h3,h4⟩:=hb
   cases a
   exact ⟨o,fF h3,by simpa using h4⟩
theorem BA{b:aj}(g:Valid b){S:Type}(ys:aY→S→Option (S × Bool)):∀ (j k:Nat) (pre:List Int) (w:aY) (s:S) (r:S × Bool),pre.length+j=b.aD.length→j < k→hR b.aD.length pre w.deep →
  dX ys (((tree (l5 b) j pre.length pre).filter (mI b)).map fc) s=some r→∃ w',ie ys k (pre.length:Int) b w s=some (r.1,(w',r.2))∧hR b.aD.length pre w'.deep
 | _,0,_,_,_,_,_,y,_,_=>by omega
 | 0,k+1,pre,w,s,r,hl,_,hw,e=>by
  rw [Nat.add_zero] at hl
  have h3:=g.p3
  unfold ie
  rw [show ((pre.length:Int) == (b.aD.length:Int))=true by rw [hl]; simp,bc,KL (c:=pre) g (λ i hi=>hw.pre i (by omega)) hw.len,aG]
  simp only [tree] at e
  have u:w=fc pre:=by
   obtain ⟨d⟩:=w
   exact congrArg aY.mk (hw.fc hl h3)
  refine ⟨w,?_,hw⟩
  cases h:mI b pre with
  | true =>
   simp only [List.filter_cons,h,if_true,List.filter_nil,List.map_cons,List.map_nil,dX] at e
   obtain ⟨q,p,e⟩:=ag e
   rw [← u] at p
   simp only [Bool.not_true,a2,p,aG]
   split at e
   ·rename_i h2; cases e; rw [h2]
   ·rename_i h2; cases e; simp at h2; rw [h2]
  | false =>
   simp [h,dX] at e
   subst e
   rfl
 | j+1,k+1,pre,w,s,r,hl,y,hw,e=>by
  have h3:=g.p3
  have z:=g.each (i:=pre.length) (by omega)
  unfold ie
  rw [show ((pre.length:Int) == (b.aD.length:Int))=false by simp; omega,a2,bM,a5 (by omega),aG]
  generalize v:nth b.aD pre.length=X at z
  refine Exists.elim (wD (ys:=ys) (S:=S) (X:=Int × List Int) (O:=(S × List Int) ⊕ (S × (aY × Bool))) (body:=λ (a:(S × Int × (List Int))) =>
   (some X:Option Reach).bind λ t =>
   af (decide (a.2.1≤t.bT))
   ((idx a.2.2 (pre.length:Int)).bind λ A =>
   (ie ys k (i64 ((pre.length:Int)+1)) b (⟨a.2.2.set (pre.length:Int).toNat a.2.1⟩:aY) a.1).bind λ f =>
   af (!f.2.2)
   (some (.inr (.inr (f.1,(f.2.1,false)))))
   (some (.inl (f.1,i64 (a.2.1+1),f.2.1.deep))))
   (some (.inr (.inl (a.1,a.2.2)))))
   (λ q=>((tree (l5 b) j (pre.length+1) (pre++[X.bJ+(q:Int)])).filter (mI b)).map fc) (X.bT+1 - X.bJ).toNat (λ q x=>x.1=X.bJ+(q:Int)∧hR b.aD.length pre x.2)
   (λ s o=>∃ d,o = .inl (s,d)∧hR b.aD.length pre d) (λ s o=>∃ w',o = .inr (s,(w',false))∧hR b.aD.length pre w'.deep)
   (λ q s x r p l e=>?_) (λ s x l=>?_) (X.bT+1 - X.bJ).toNat 0 s (X.bJ,w.deep) r (by omega) ⟨by simp,hw⟩ ?_) ?_
  ·obtain ⟨n,d⟩:=x
   obtain ⟨rfl,hd⟩:=l
   have h:=hd.set (n:=X.bJ+(q:Int)) (by omega) h3
   obtain ⟨w',h1,h2⟩:=BA g ys j k (pre++[X.bJ+(q:Int)]) ⟨d.set pre.length (X.bJ+(q:Int))⟩ s r (by simp; omega) (by omega) h (by simpa using e)
   have B:d.length=3:=hd.len
   simp only [fg,List.length_cons,List.length_nil,Nat.zero_add] at h1
   simp only [aG,show decide (X.bJ+(q:Int)≤X.bT)=true by simp; omega,bc,bM,a5 (show pre.length < d.length by omega),cp,bY (i:=pre.length) (by omega),h1]
   have e1:i64 (X.bJ+(q:Int)+1)=X.bJ+((q+1:Nat):Int):=by rw [cH (by omega) (by omega)]; omega
   cases C:r.2 with
   | true=>exact ⟨(X.bJ+((q+1:Nat):Int),w'.deep),by simp [e1,a2],rfl,h2.back⟩
   | false=>exact ⟨.inr (r.1,(w',false)),by simp [bc],w',rfl,h2.back⟩
  ·obtain ⟨n,d⟩:=x
   obtain ⟨rfl,hd⟩:=l
   refine ⟨.inl (s,d),?_,d,rfl,hd⟩
   simp only [aG,show decide (X.bJ+(((X.bT+1 - X.bJ).toNat:Nat):Int)≤X.bT)=false by simp; omega,a2]
  ·rw [← e,← List.range_eq_range']
   congr 1
   simp only [tree,l5,v,n4,List.flatMap_map,List.map_flatMap,List.filter_flatMap]
  ·rintro o ⟨ho,m⟩
   rw [show (a6 (O:=((S × (List Int)) ⊕ (S × (aY × Bool)))) (λ (a:(S × Int × (List Int))) =>
    (some X:Option Reach).bind λ t =>
    af (decide (a.2.1≤t.bT))
    ((idx a.2.2 (pre.length:Int)).bind λ A =>
    (ie ys k (i64 ((pre.length:Int)+1)) b (⟨a.2.2.set (pre.length:Int).toNat a.2.1⟩:aY) a.1).bind λ f =>
    af (!f.2.2)
    (some (.inr (.inr (f.1,(f.2.1,false)))))
    (some (.inl (f.1,i64 (a.2.1+1),f.2.1.deep))))
    (some (.inr (.inl (a.1,a.2.2))))) (s,X.bJ,w.deep))=some o from ho,aG]
   split at m
   ·rename_i h2
    obtain ⟨d,rfl,hd⟩:=m
    exact ⟨⟨d⟩,by simp [h2],hd⟩
   ·rename_i h2
    obtain ⟨w',rfl,hd⟩:=m
    exact ⟨w',by simp at h2; simp [h2],hd⟩
theorem tt{b:aj}(a:Valid b){S:Type}(ys:aY→S→Option (S × Bool)){s:S}{r:S × Bool}(d:dX ys ((bP b).map fc) s=some r):gr ys b s=some r.1:=by
 have h3:=a.p3
 unfold gr
 obtain ⟨w',h1,_⟩:=BA a ys b.aD.length 9 [] ⟨[0,0,0]⟩ s r (by simp) (by omega) ⟨rfl,λ i hi=>by simp at hi,λ i _ hi=>by match i,hi with | 0,_=>rfl | 1,_=>rfl | 2,_=>rfl⟩ (by rw [← d]; unfold bP; simp only [List.length_nil]; rw [xO])
 have c:ie ys 9 0 b ⟨[0,0,0]⟩ s=some (r.1,(w',r.2)):=h1
 rw [c]
 rfl
theorem Bj{b:aj}(c:Valid b):∀ i,i≤b.aD.length→(lvl (l5 b) i).length≤3 ^ i
 | 0,_=>by simp [lvl]
 | i+1,h=>by
  have e:=Bj c i (by omega)
  have d:=CH (c.each (i:=i) (by omega)).2.2.2
  simp only [lvl]
  refine Nat.le_trans (vY _ 3 (λ a=>?_) _) ?_
  ·simpa using d
  ·rw [Nat.pow_succ]; omega
theorem Ea{b:aj}(a:Valid b):(lvl (l5 b) b.aD.length).length≤27:=by
 refine Nat.le_trans (Bj a _ (b6 _)) ?_
 have h1:=a.p1
 have h3:=a.p3
 match b.aD.length,h1,h3 with
 | 1,_,_=>decide
 | 2,_,_=>decide
 | 3,_,_=>decide
theorem p5{b:aj}(a:Valid b):(bP b).length≤27:=Nat.le_trans (List.length_filter_le _ _) (Ea a)
theorem B0{b:aj}(d:Valid b):lb (λ y s=>gr y b s)=some ((bP b).map fc):=by
 unfold lb oQ
 have hl:=p5 d
 have key:∀ (l a:List aY),l.foldl (λ s c=>s++[c]) a=a++l:=by
  intro l
  induction l with
  | nil=>simp
  | cons c l g=>intro a; rw [List.foldl_cons,g]; simp
 dsimp only
 rw [tt d _ (r:=(.inl ((((bP b).map fc).foldl (λ (s:List aY) c=>s++[c]) [])),true)) (sH (λ k s=>s.length=k) (λ c s=>s++[c]) _ 0 [] rfl (λ j s a e f _=>by
  simp only [List.length_map] at e
  rw [lS (by simp; omega)]
  exact ⟨rfl,by simp [f]⟩))]
 rw [key]
 rfl
def jV(b:aj):Bool:=!(bP b).isEmpty
theorem Ks{b:aj}(d:Valid b):nz b=some (jV b):=by
 unfold nz jV
 cases a:bP b with
 | nil =>
  rw [tt d _ (r:=(.inl (),true)) (by rw [a]; rfl)]
  rfl
 | cons c l =>
  rw [tt d _ (r:=(.inr (),false)) (by rw [a]; rfl)]
  rfl
def rT(b:aj):Int × Int:=if dM b≠0 then (0,dM b) else ((bP b).length,0)
theorem EN{b:aj}(a:Valid b):rT b=(((bP b).length:Int),0):=by
 unfold rT
 simp [iw.2 a]
theorem LN{b:aj}(a:Small b):kR b=some (rT b):=by
 unfold kR rT
 rw [qU a,aG]
 by_cases h1:dM b=0
 ·have c:=iw.1 h1
  simp only [h1,bne_self_eq_false,a2,ne_eq,eK,if_false]
  rw [show (⟨b.Rest,b.Rows,b.aD,b.az,b.av,b.aQ⟩:aj)=b from rfl,B0 c,aG,List.length_map]
 ·simp only [h1,ne_eq,not_false_eq_true,if_true,iN h1,bc]
def M9:bF:=⟨⟨0,[],[],[],[],[]⟩,[]⟩
def dI(b:aj):bF:=⟨b,(bP b).map fc⟩
def eB(b:aj)(own:Int):Int:=if dM b≠0 then dM b else if own≠0 then own else if bP b=[] then 9 else 0
theorem qk{b:aj}{own:Int}(h:eB b own=0):Valid b∧own=0∧bP b≠[]:=by
 unfold eB at h
 split at h
 ·rename_i h1; exact absurd h h1
 ·rename_i h1
  split at h
  ·rename_i h2; exact absurd h h2
  ·rename_i h2
   split at h
   ·cases h
   ·rename_i h3; exact ⟨iw.1 (by simpa using h1),by simpa using h2,h3⟩
theorem Hc{b:aj}{own:Int}(a:Valid b)(h2:own=0)(h3:bP b≠[]):eB b own=0:=by
 unfold eB
 simp [iw.2 a,h2,h3]
def mC(b:aj)(own:Int):bF × Int:=if eB b own≠0 then (M9,eB b own) else (dI b,0)
theorem pb{b:aj}(e:Small b){f:aj→Option Int}{own:Int}(d:dM b=0→f b=some own):g1 b f=some (mC b own):=by
 unfold g1 mC eB
 rw [qU e,aG]
 by_cases h1:dM b=0
 ·have g:=iw.1 h1
  simp only [h1,bne_self_eq_false,a2,ne_eq,eK,if_false,d h1,aG]
  by_cases h2:own=0
  ·simp only [h2,bne_self_eq_false,a2,eK,if_false,B0 g,aG,List.length_map]
   cases a:bP b with
   | nil=>rfl
   | cons c l =>
    rw [if_neg (by simp),show ((((c::l).length:Nat):Int) == 0)=false by simp; omega,a2]
    unfold dI
    rw [a]
  ·simp only [h2,not_false_eq_true,if_true,iN h2,bc]
   rfl
 ·simp only [h1,ne_eq,not_false_eq_true,if_true,iN h1,bc]
  rfl
def ir(b:aj)(n:Int):Int:=match b.Rows.find? (λ r=>decide (n≤r.cB)) with | some r=>r.cK | none=>0
theorem wF{b:aj}(a:b.Rows.length≤20)(n:Int):j2 b n=some (ir b n):=by
 unfold j2 ir
 rw [Bf (l:=b.Rows) (λ r=>decide (n≤r.cB)) (λ r=>r.cK) (λ i hi=>?_) (by simp only [dh,a2])]
 ·cases b.Rows.find? (λ r=>decide (n≤r.cB)) <;> rfl
 ·simp only [dec_lt hi,bc,bM,a5 hi,aG,bY (i:=i) (by omega)]
  cases decide (n≤(nth b.Rows i).cB) <;> rfl
theorem JZ{b:aj}(a:b.Rows.length≤20)(n:Int):qt b n=some (ir b n):=by
 unfold qt ir
 rw [Bf (l:=b.Rows) (λ r=>decide (n≤r.cB)) (λ r=>r.cK) (λ i hi=>?_) (by simp only [dh,a2])]
 ·cases b.Rows.find? (λ r=>decide (n≤r.cB)) <;> rfl
 ·simp only [dec_lt hi,bc,bM,a5 hi,aG,bY (i:=i) (by omega),ge_iff_le]
  cases decide (n≤(nth b.Rows i).cB) <;> rfl
def ua(b:aj)(n:Int):Int × Int:=if dM b≠0 then (0,dM b) else if bL n 1 30=false then (0,1) else (ir b n,0)
theorem Mm{b:aj}(a:Small b)(n:Int):j6 b n=some (ua b n):=by
 unfold j6 ua
 rw [qU a,aG]
 by_cases h1:dM b=0
 ·simp only [h1,bne_self_eq_false,a2,ne_eq,eK,if_false,iG,aG,wF a.rows]
  cases bL n 1 30 <;> rfl
 ·simp only [h1,ne_eq,not_false_eq_true,if_true,iN h1,bc]
def pP(b:aj)(i j:Nat):Bool:=decide ((nth b.av i).dy+(nth b.av i).db+b.Rest≤(nth b.av j).dy)
def fq(b:aj)(i j:Nat):Bool:=pP b i j || pP b j i
theorem Ee(b:aj)(i j:Nat):fq b i j=fq b j i:=Bool.or_comm _ _
theorem Valid.dv{b:aj}(h:Valid b){i:Nat}(hi:i < b.av.length):ye b.aD.length (nth b.av i):=h.vv _ (eC hi)
theorem Ed{b:aj}(a:Valid b){i:Nat}(hi:i < b.av.length):fq b i i=false:=by
 have:=a.dv hi
 have h2:=this.mP
 have h3:=a.rest
 simp [fq,pP]
 omega
theorem Kx{b:aj}(a:Valid b){i j:Nat}(hi:i < b.av.length)(c:j < b.av.length):l9 b (i:Int) (j:Int)=some (fq b i j):=by
 have h1:=(a.dv hi).pY
 have h2:=(a.dv hi).mP
 have h3:=(a.dv c).pY
 have h4:=(a.dv c).mP
 have h5:=a.rest
 unfold l9
 simp only [bM,a5 hi,a5 c,aG]
 rw [cH (z:=(nth b.av i).dy+(nth b.av i).db) (by omega) (by omega),cH (by omega) (by omega),cH (z:=(nth b.av j).dy+(nth b.av j).db) (by omega) (by omega),cH (by omega) (by omega),AW]
 by_cases e:i=j
 ·subst e
  rw [Ed a hi]
  simp [a2]
 ·simp only [e,ne_eq,not_false_eq_true,decide_true,bc,fq,pP,ge_iff_le]
  cases decide ((nth b.av i).dy+(nth b.av i).db+b.Rest≤(nth b.av j).dy) <;> rfl
theorem KD{b:aj}(a:Valid b){i j:Nat}(hi:i < b.av.length)(c:j < b.av.length):qD b (i:Int) (j:Int)=some (fq b i j):=by
 have h1:=(a.dv hi).pY
 have h2:=(a.dv hi).mP
 have h3:=(a.dv c).pY
 have h4:=(a.dv c).mP
 have h5:=a.rest
 unfold qD
 simp only [bM,a5 hi,a5 c,aG]
 rw [cH (z:=(nth b.av i).dy+(nth b.av i).db) (by omega) (by omega),cH (by omega) (by omega),cH (z:=(nth b.av j).dy+(nth b.av j).db) (by omega) (by omega),cH (by omega) (by omega)]
 simp only [fq,pP,ge_iff_le]
 cases decide ((nth b.av i).dy+(nth b.av i).db+b.Rest≤(nth b.av j).dy) <;> rfl
def ng(b:aj)(n:Int):Bool:=bL n 0 ((b.av.length:Int) - 1)
def nh(b:aj)(n:Int):Bool:=bL n 0 ((b.az.length:Int) - 1)
theorem AB{b:aj}{n:Int}:ng b n=true↔∃ i:Nat,n=(i:Int)∧i < b.av.length:=by
 unfold ng
 rw [dL]
 constructor
 ·intro h; exact ⟨n.toNat,by omega,by omega⟩
 ·rintro ⟨i,rfl,h⟩; omega
theorem AD{b:aj}{n:Int}:nh b n=true↔∃ i:Nat,n=(i:Int)∧i < b.az.length:=by
 unfold nh
 rw [dL]
 constructor
 ·intro h; exact ⟨n.toNat,by omega,by omega⟩
 ·rintro ⟨i,rfl,h⟩; omega
theorem Au{α:Type}(q:α→Bool):∀ l:List α,dX (cY λ (x:α) (_:Unit)=>(af (q x == true) (some (.inr ())) (some (.inl ())):Option (Unit ⊕ Unit))) l (.inl ())=some (if l.any q=true then (.inr (),false) else (.inl (),true))
 | []=>rfl
 | a::l=>by
  cases h:q a with
  | true=>simp [dX,cY,h,bc]
  | false =>
   have:=Au q l
   simp only [dX,cY,h,List.any_cons,Bool.false_or]
   rw [show (false == true)=false from rfl,a2]
   exact this
theorem DF{c d:List Int}(h1:c.length=d.length)(h3:c.length≤3):l4 (fc c) (fc d)=true↔c=d:=by
 constructor
 ·intro h
  have h:gB [0,0,0] c=gB [0,0,0] d:=by simpa [l4,fc] using h
  have a:=r6 h3
  have hd:=r6 (c:=d) (by omega)
  refine Ck h1 λ i hi=>?_
  rw [← a.2.1 i hi,h,hd.2.1 i (by omega)]
 ·rintro rfl; simp [l4]
def sV(b:aj)(c:List Int):Bool × Int :=
 if dM b≠0 then (false,dM b) else if c.length≠b.aD.length then (false,2) else if (c.any λ x=>!bL x 1 30)=true then (false,1) else ((bP b).contains c,0)
theorem Mz{b:aj}(g:Small b){c:List Int}(_:c.length≤20):qT b c=some (sV b c):=by
 unfold qT sV
 rw [qU g,aG]
 by_cases h1:dM b=0
 ·have a:=iw.1 h1
  have h3:=a.p3
  simp only [h1,bne_self_eq_false,a2,ne_eq,eK,if_false,AW]
  by_cases h2:c.length=b.aD.length
  ·simp only [h2,eK,decide_false,a2,if_false,td,aG]
   rw [Kz (p:=λ x=>!bL x 1 30) (by omega) (λ x _=>by unfold qC; rw [iG]; rfl),aG]
   cases c.any λ x=>!bL x 1 30 with
   | true=>rfl
   | false =>
    rw [a2,show (⟨b.Rest,b.Rows,b.aD,b.az,b.av,b.aQ⟩:aj)=b from rfl]
    rw [tt a _ (Au (λ x:aY=>l4 x ⟨gB [0,0,0] c⟩) _)]
    have e:((bP b).map fc).any (λ x:aY=>l4 x ⟨gB [0,0,0] c⟩)=(bP b).contains c:=by
     rw [Bool.eq_iff_iff,List.any_eq_true,List.contains_iff_mem]
     constructor
     ·rintro ⟨x,h,he⟩
      obtain ⟨d,hd,rfl⟩:=List.mem_map.1 h
      have i:=(jB.1 hd).1.1
      rwa [← (DF (c:=d) (d:=c) (by omega) (by omega)).1 he]
     ·intro f
      exact ⟨fc c,List.mem_map.2 ⟨c,f,rfl⟩,(DF rfl (by omega)).2 rfl⟩
    rw [e]
    cases (bP b).contains c <;> rfl
  ·simp [h2,bc]
 ·simp only [h1,ne_eq,not_false_eq_true,if_true,iN h1,bc]
theorem Mt{l:List Int}{below:Int}(hl:l.length≤1000)(c:0≤below)(h1:below≤1000):qR l below=some (vp l below):=by
 unfold qR
 refine jK (rW l below) l.length (λ i hi=>?_) (by simp only [dh,a2]) rfl
 simp only [dec_lt hi,bc,bM,a5 hi,aG,gJ,cH (z:=below - 1) (by omega) (by omega),bY (i:=i) (by omega)]
 unfold rW
 cases bL (nth l i) 0 (below - 1) with
 | false=>rfl
 | true =>
  by_cases a:0 < i
  ·simp only [sa a,Bool.not_true,a2,bc,eW (i:=i) (by omega) a,bM,a5 (show i - 1 < l.length by omega),aG,a,if_true,gQ,if_false]
   by_cases b:nth l i≤nth l (i - 1) <;> simp [b]
  ·simp [a]
def gK(n a:Nat):Bool:=uZ a == some (b3 n a) && decide ((b3 n a).length≤4) &&
  ((List.range (b3 n a).length).all λ i=>match EL (b3 n a) i with | some l=>(List.range (2 ^ n)).any λ c=>l == b3 n c && ht l (b3 n a) | none=>false)
def Cp(n a c:Nat):Bool:=zd (b3 n a) (b3 n c) == some (ht (b3 n a) (b3 n c)) && (match rM (b3 n a) (b3 n c) with | some z=>decide (z < 0) == hF (b3 n a) (b3 n c) | none=>false)
set_option maxRecDepth 1000000 in
theorem tz:((List.range 5).all λ n=>jL .i64 1 n == some ((2 ^ n:Nat):Int) && (List.range (2 ^ n)).all λ a=>gK n a && (List.range (2 ^ n)).all λ c=>Cp n a c)=true:=by decide +kernel
set_option maxRecDepth 1000000 in
theorem OX{n:Nat}(h:n < 5):jL .i64 1 (n:Int)=some ((2 ^ n:Nat):Int):=by
 have:=tz
 simp only [List.all_eq_true,List.mem_range,cM,beq_iff_eq] at this
 exact (this n h).1
theorem By{n a:Nat}(h:n < 5)(b:a < 2 ^ n):kN a=some (b3 n a):=by
 have:=tz
 simp only [List.all_eq_true,List.mem_range,cM,beq_iff_eq] at this
 have h1:=((this n h).2 a b).1
 simp only [gK,cM,beq_iff_eq] at h1
 exact AK _ _ h1.1.1
theorem MU{n a:Nat}(h:n < 5)(b:a < 2 ^ n):(b3 n a).length≤4:=by
 have:=tz
 simp only [List.all_eq_true,List.mem_range,cM,beq_iff_eq] at this
 have h1:=((this n h).2 a b).1
 simp only [gK,cM,beq_iff_eq,decide_eq_true_eq] at h1
 exact h1.1.2
theorem MT{n a c:Nat}(h:n < 5)(e:a < 2 ^ n)(f:c < 2 ^ n):tp (b3 n a) (b3 n c)=some (ht (b3 n a) (b3 n c))∧∃ z,nA (b3 n a) (b3 n c)=some z∧decide (z < 0)=hF (b3 n a) (b3 n c):=by
 have:=tz
 simp only [List.all_eq_true,List.mem_range,cM,beq_iff_eq] at this
 have h1:=((this n h).2 a e).2 c f
 simp only [Cp,cM,beq_iff_eq] at h1
 refine ⟨JG _ _ _ h1.1,?_⟩
 have b:=h1.2
 cases d:rM (b3 n a) (b3 n c) with
 | none=>rw [d] at b; cases b
 | some z=>rw [d] at b; exact ⟨z,AN _ _ _ d,by simpa using b⟩
theorem O5{n:Nat}{P:Nat→Bool}:∀ {k:Nat},(ea n P k).2=true→∃ c,c < k∧(ea n P k).1=b3 n c:=by
 intro k h
 rcases xD n P k with ⟨h1,_⟩ | ⟨_,⟨a,b,_,he⟩,_⟩
 ·rw [h1] at h; cases h
 ·exact ⟨a,b,he⟩
theorem Kg{n:Nat}(e:n < 5){f:Int→Option Bool}{P:Nat→Bool}(l:∀ a:Nat,a < 2 ^ n→f (a:Int)=some (P a)):kM (n:Int) f=some (ea n P (2 ^ n)):=by
 have r:=Cw e
 unfold kM
 rw [OX e,aG]
 rw [eN (o:=ea n P (2 ^ n)) ?_]
 have h:(([]:List Int),false,(0:Int))=(λ i:Nat=>((ea n P i).1,(ea n P i).2,(i:Int))) 0:=rfl
 rw [h]
 refine jq (λ i:Nat=>((ea n P i).1,(ea n P i).2,(i:Int))) (2 ^ n) (λ i hi=>?_) (by simp only [dh,a2])
 simp only [dec_lt hi,bc,By e hi,aG,l i hi,bY (i:=i) (by omega),ea,py]
 cases b:(ea n P i).2 with
 | false=>cases P i <;> simp [bc,a2,b]
 | true =>
  obtain ⟨c,q,d⟩:=O5 b
  obtain ⟨z,m,p⟩:=(MT e hi (by omega:c < 2 ^ n)).2
  simp only [d,Bool.not_true,a2,m,aG,p,Bool.false_or,ht]
  by_cases h1:(b3 n i).length < (b3 n c).length
  ·have g:decide (((b3 n i).length:Int) < ((b3 n c).length:Int))=true:=dec_lt h1
   simp only [g,bc,h1,decide_true,Bool.true_or,Bool.true_and,aG]
   cases P i <;> simp [bc,a2,b,d]
  ·have g:decide (((b3 n i).length:Int) < ((b3 n c).length:Int))=false:=by simpa using h1
   simp only [g,a2,h1,decide_false,Bool.false_or]
   by_cases h2:(b3 n i).length=(b3 n c).length
   ·rw [h2]
    simp only [beq_self_eq_true,bc,Bool.true_and]
    cases hF (b3 n i) (b3 n c) with
    | true =>
     simp only [bc,Bool.true_and,aG]
     cases P i <;> simp [bc,a2,b,d]
    | false=>simp [a2,b,d]
   ·have j:(((b3 n i).length:Int) == ((b3 n c).length:Int))=false:=by simpa using (by omega:¬ ((b3 n i).length:Int)=((b3 n c).length:Int))
    have k:((b3 n i).length == (b3 n c).length)=false:=by simpa using h2
    simp [j,k,a2,b,d]
def lH(b:aj)(l:List b7):aj:=⟨b.Rest,b.Rows,b.aD,b.az,b.av,l⟩
def tM(b:aj)(a:List Int):aj:=lH b (a.map λ k=>nth b.aQ k.toNat)
theorem Valid.lH{b:aj}(h:Valid b){l:List b7}(hl:l.length≤3)(a:∀ s∈l,yj b.aD.length s):Valid (lH b l) :=
 ⟨h.rest,h.r1,h.r4,h.row,h.zj,h.p1,h.p3,h.place,h.m1,h.m4,h.w6,h.names,h.d1,h.d4,h.vv,hl,a⟩
theorem EM(b:aj)(l:List b7):bP (lH b l)=(lvl (l5 b) b.aD.length).filter λ c=>l.all λ s=>decide (nth c s.Place.toNat≤s.dJ) == s.jO:=rfl
theorem Ax{b:aj}:jV b=true↔∃ c,c∈bP b:=by
 unfold jV
 rw [Bool.not_eq_true',List.isEmpty_eq_false_iff_exists_mem]
theorem Is{b:aj}{l m:List b7}(hm:∀ x∈l,x∈m)(h:jV (lH b m)=true):jV (lH b l)=true:=by
 rw [Ax] at h ⊢
 obtain ⟨c,h⟩:=h
 refine ⟨c,?_⟩
 rw [EM,List.mem_filter] at h ⊢
 refine ⟨h.1,?_⟩
 have h2:=h.2
 rw [List.all_eq_true] at h2 ⊢
 exact λ x a=>h2 x (hm x a)
theorem w8{n a:Nat}{k:Int}(h:k∈b3 n a):0≤k∧k < (n:Int):=(B9.1 h).1
theorem Cr{b:aj}{a:List Int}(c:∀ k∈a,0≤k∧k < (b.aQ.length:Int)):∀ s∈a.map (λ k=>nth b.aQ k.toNat),s∈b.aQ:=by
 intro s e
 obtain ⟨k,d,rfl⟩:=List.mem_map.1 e
 have:=c k d
 exact eC (by omega)
theorem Kq{b:aj}(f:b.aQ.length < 5){a:Nat}(d:a < 2 ^ b.aQ.length):ny b (a:Int)=some (tM b (b3 b.aQ.length a)):=by
 unfold ny
 rw [By f d,aG]
 have hlen:=MU f d
 have e:∀ k∈b3 b.aQ.length a,0≤k∧k < (b.aQ.length:Int):=λ k h=>w8 h
 generalize b3 b.aQ.length a=c at hlen e
 refine (eN (o:=c.map λ k=>nth b.aQ k.toNat) ?_).trans rfl
 have g:(([]:List b7),(0:Int))=(λ i:Nat=>((c.take i).map λ k=>nth b.aQ k.toNat,(i:Int))) 0:=rfl
 rw [g]
 refine jq (λ i:Nat=>((c.take i).map λ k=>nth b.aQ k.toNat,(i:Int))) c.length (λ i hi=>?_) ?_
 ·have hm:=e _ (eC hi)
  simp only [dec_lt hi,bc,bM,a5 hi,aG,sP hm.1 hm.2,bY (i:=i) (by omega)]
  rw [lS (by simp; omega),aG,List.take_add_one,a5 hi]
  simp
 ·simp only [dh,a2,List.take_length]
theorem Valid.only{b:aj}(h:Valid b){a:Nat}(_:a < 2 ^ b.aQ.length):Valid (tM b (b3 b.aQ.length a)):=by
 have h3:=h.s3
 refine h.lH ?_ λ s d=>h.sound s (Cr (λ k c=>w8 c) s d)
 rw [List.length_map]
 unfold b3
 rw [List.length_map]
 exact Nat.le_trans (List.length_filter_le _ _) (by simpa using h3)
def xg(b:aj)(a:Nat):Bool:=!jV (tM b (b3 b.aQ.length a))
def vo(b:aj):List Int:=(ea b.aQ.length (xg b) (2 ^ b.aQ.length)).1
theorem Mr{b:aj}(c:Valid b):kZ b=some (vo b,0):=by
 have h3:=c.s3
 unfold kZ
 rw [qU c.sm,iw.2 c,aG]
 simp only [bne_self_eq_false,a2]
 rw [Kg (P:=xg b) (by omega) (λ a d=>?_),aG]
 ·rfl
 ·unfold nv
  rw [Kq (by omega) d,aG,Ks (c.only d)]
  rfl
theorem EP{b:aj}(h:jV b=true):vo b=[]:=by
 unfold vo
 rw [O6 λ a d=>?_]
 unfold xg
 rw [show jV (tM b (b3 b.aQ.length a))=true from Is (m:=b.aQ) (Cr λ k c=>w8 c) h]
 rfl
theorem Br{b:aj}(d:Valid b){f:aY→Option Bool}{p:List Int→Bool}(a:∀ c∈bP b,f (fc c)=some (p c)):ju (dI b) f=some (((bP b).filter p).length:Int):=by
 have g:=p5 d
 unfold ju dI
 simp only [List.length_map]
 rw [eN (o:=(((bP b).filter p).length:Int)) (JV (l:=bP b) p (λ i n hi h=>?_) (λ n=>by simp only [dh,a2]))]
 have e:((bP b).map fc)[i]? = some (fc (nth (bP b) i)):=by rw [List.getElem?_map,a5 hi]; rfl
 simp only [dec_lt hi,bc,bM,e,aG,a _ (eC hi),bY (i:=i) (by omega),bY (i:=n) (by omega)]
 cases p (nth (bP b) i) <;> rfl
theorem J2{b:aj}{n:Nat}:kH (dI b) (n:Int)=some (hD n (bP b).length):=by
 unfold kH dI hD
 simp only [List.length_map,IE]
 by_cases h:n=0
 ·simp [h,bc]
 ·have e:((n:Int) == ((bP b).length:Int))=decide (n=(bP b).length):=by rw [Bool.eq_iff_iff,beq_iff_eq,decide_eq_true_iff]; omega
  rw [e,if_neg h,show (n == 0)=false by simpa using h,a2]
  by_cases h2:n=(bP b).length
  ·rw [if_pos h2,de h2,bc]
  ·rw [if_neg h2,dV h2,a2]
theorem xY{b:aj}(a:Valid b){c:List Int}(d:c.length=b.aD.length){i:Nat}(hi:i < b.aD.length):idx (fc c).deep (i:Int)=some (nth c i):=by
 have h3:=a.p3
 have h:=r6 (c:=c) (by omega)
 rw [bM,a5 (l:=(fc c).deep) (show i < (gB [0,0,0] c).length by omega)]
 exact congrArg some (h.2.1 i (by omega))
set_option maxRecDepth 1000000 in
theorem xt{x:Int}{n:Nat}(a:0≤x)(h:x < 256)(b:0 < n):lp (i64 x) (n:Int)=some ((x.toNat % n:Nat):Int):=by
 rw [cH (by omega) (by omega)]
 unfold lp
 obtain ⟨m,rfl⟩:=Int.eq_ofNat_of_zero_le a
 rw [if_neg (by omega),cp,Int.ofNat_tmod]
def gV(c:List Int):List Bool:=(List.range 4).map λ (k:Nat)=>c.contains (k:Int)
def cz(r:List (List Int)):List Bool:=(List.range 16).map λ p=>(nth r (p / 4)).contains ((p % 4:Nat):Int)
theorem xv(r:List (List Int)):(cz r).length=16:=by simp [cz]
theorem CL(r:List (List Int)){p:Nat}(a:p < 16):(cz r)[p]? = some ((nth r (p / 4)).contains ((p % 4:Nat):Int)):=by
 unfold cz
 rw [List.getElem?_map,List.getElem?_range a]
 rfl
theorem na(c:List Int){k:Nat}(a:k < 4):idx (gV c) (k:Int)=some (c.contains (k:Int)):=by
 unfold gV
 rw [bM,List.getElem?_map,List.getElem?_range a]
 rfl
theorem rh(r:List (List Int)){i:Nat}(hi:i < 4):dF 4 (cz r) (i:Int)=some (gV (nth r i)):=by
 match i,hi with
 | 0,_=>rfl
 | 1,_=>rfl
 | 2,_=>rfl
 | 3,_=>rfl
theorem OB{r r':List (List Int)}(h:∀ i k:Nat,i < 4→k < 4→(nth r i).contains (k:Int)=(nth r' i).contains (k:Int)):cz r=cz r':=by
 unfold cz
 refine List.map_congr_left λ p a=>?_
 rw [List.mem_range] at a
 exact h (p / 4) (p % 4) (by omega) (by omega)
theorem CR{r r':List (List Int)}{i k:Nat}(_:i < 4)(c:k < 4){x:Bool}(h:∀ j m:Nat,j < 4→m < 4→(nth r' j).contains (m:Int)=if j=i∧m=k then x else (nth r j).contains (m:Int)):e9 4 (cz r) (i:Int) (k:Int) x=cz r':=by
 unfold e9
 rw [cp,cp]
 refine List.ext_getElem? λ p=>?_
 by_cases a:p < 16
 ·rw [List.getElem?_set,CL r' a,CL r a,xv,h (p / 4) (p % 4) (by omega) (by omega)]
  by_cases e:i * 4+k=p
  ·rw [if_pos e,if_pos (by omega),if_pos ⟨by omega,by omega⟩]
  ·rw [if_neg e,if_neg (λ b=>e (by omega))]
 ·rw [List.getElem?_eq_none (by rw [List.length_set,xv]; omega),List.getElem?_eq_none (by rw [xv]; omega)]
theorem CN(p:List (List Int)):cz (p++[[]])=cz p:=OB λ i k _ _=>by
 by_cases h:i < p.length
 ·rw [j9 h]
 ·have e1:nth p i=[]:=by unfold nth; rw [ha,List.getElem?_eq_none (by omega)]; rfl
  have a:nth (p++[[]]) i=[]:=by
   by_cases h2:i=p.length
   ·subst h2; exact lj
   ·unfold nth; rw [ha,List.getElem?_eq_none (by simp; omega)]; rfl
  rw [e1,a]
def fW(b:aj)(c:List Int)(k i:Nat):Bool:=decide (nth c (nth b.av i).Place.toNat≤(nth b.az k).gj) && decide ((nth b.av i).db≤ir b (nth c (nth b.av i).Place.toNat))
theorem Bs{b:aj}(a:Valid b){c:List Int}(d:c.length=b.aD.length){k i:Nat}(f:k < b.az.length)(hi:i < b.av.length):kJ b (fc c) (k:Int) (i:Int)=some (fW b c k i):=by
 have g:=(a.dv hi).place
 unfold kJ fW
 have e:idx (fc c).deep (nth b.av i).Place=some (nth c (nth b.av i).Place.toNat):=by
  have:=xY a d (i:=(nth b.av i).Place.toNat) (by omega)
  rwa [Int.toNat_of_nonneg g.1] at this
 simp only [bM,a5 hi,a5 f,aG,e,wF (show b.Rows.length≤20 by have:=a.r4; omega)]
 cases decide (nth c (nth b.av i).Place.toNat≤(nth b.az k).gj) <;> rfl
theorem BV{b:aj}(a:Valid b){c:List Int}(g:c.length=b.aD.length){k i:Nat}(d:k < b.az.length)(hi:i < b.av.length):mr b c (k:Int) (i:Int)=some (fW b c k i):=by
 have f:=(a.dv hi).place
 unfold mr fW
 have e:idx c (nth b.av i).Place=some (nth c (nth b.av i).Place.toNat):=sP f.1 (by omega)
 simp only [bM,a5 hi,a5 d,aG,e,JZ (show b.Rows.length≤20 by have:=a.r4; omega)]
 cases decide (nth c (nth b.av i).Place.toNat≤(nth b.az k).gj) <;> rfl
def hS(b:aj)(i k:Nat):Bool:=(bP b).all λ c=>fW b c k i
def hh(b:aj):List Bool:=(List.range 16).map λ p=>if p / 4 < b.av.length∧p % 4 < b.az.length then hS b (p / 4) (p % 4) else false
theorem IF{b:aj}(a:Valid b){i k:Nat}(hi:i < b.av.length)(e:k < b.az.length):hE (dI b) i k=some (hS b i k):=by
 unfold hE
 rw [Br a (p:=λ c=>fW b c k i) (λ c d=>by unfold kO; rw [show (dI b).book=b from rfl,Bs a (jB.1 d).1.1 e hi]; rfl),aG]
 congr 1
 rw [show ((dI b).cG.length:Int)=((bP b).length:Int) by simp [dI],Bool.eq_iff_iff,beq_iff_eq]
 unfold hS
 rw [List.all_eq_true]
 constructor
 ·intro h
  have h:((bP b).filter λ c=>fW b c k i).length=(bP b).length:=by omega
  rw [List.length_filter_eq_length_iff] at h
  exact h
 ·intro h
  have:((bP b).filter λ c=>fW b c k i).length=(bP b).length:=List.length_filter_eq_length_iff.2 h
  omega
theorem mapM_some{α β:Type}{f:α→Option β}{g:α→β}:∀ {l:List α},(∀ x∈l,f x=some (g x))→l.mapM f=some (l.map g)
 | [],_=>rfl
 | a::l,h=>by
  rw [List.mapM_cons,h a (by simp),mapM_some λ x b=>h x (by simp [b])]
  rfl
theorem wJ{b:aj}(a:Valid b):iF (dI b)=some (hh b):=by
 unfold iF hh
 rw [show (dI b).book=b from rfl,if_pos ⟨⟨a.d1,a.d4⟩,a.m1,a.m4⟩]
 refine mapM_some λ p _=>?_
 by_cases h:p / 4 < b.av.length∧p % 4 < b.az.length
 ·rw [if_pos h,if_pos h,IF a h.1 h.2]
 ·rw [if_neg h,if_neg h]
theorem D5{b:aj}{i:Nat}(hi:i < 4):∃ g,dF 4 (hh b) (i:Int)=some g∧∀ k:Nat,k < 4→idx g (k:Int)=some (if i < b.av.length∧k < b.az.length then hS b i k else false):=by
 have e:dF 4 (hh b) (i:Int)=some ((List.range 4).map λ k=>if i < b.av.length∧k < b.az.length then hS b i k else false):=by
  match i,hi with
  | 0,_=>rfl
  | 1,_=>rfl
  | 2,_=>rfl
  | 3,_=>rfl
 refine ⟨_,e,λ k a=>?_⟩
 rw [bM,List.getElem?_map,List.getElem?_range a]
 rfl
def c8(b:aj)(g:List Bool)(o:Nat):RB:=⟨b.az.length,b.av.length,λ i=>(nth b.av i).az.toNat,λ i k=>nth g k && hS b i k,fq b,λ i=>o.testBit i⟩
set_option maxRecDepth 1000000 in
theorem EH:((List.range 16).all λ x=>(List.range 5).all λ i=>((fa .i64 x i).bind λ y=>cO .and .i64 y 1) == some (if x.testBit i then 1 else 0))=true:=by decide +kernel
theorem EG{x i:Nat}(h:x < 16)(hi:i < 5):(fa .i64 (x:Int) (i:Int)).bind (λ y=>cO .and .i64 y 1)=some (if x.testBit i then 1 else 0):=by
 have:=EH
 simp only [List.all_eq_true,List.mem_range,beq_iff_eq] at this
 exact this x h i hi
theorem J7{b:aj}(d:Valid b){pre:List (List Int)}{c:List Int}(hi:pre.length < b.av.length)(l:∀ k∈c,0≤k∧k < (b.az.length:Int))(g:List Bool)(o:Nat):kK b (cz (pre++[c])) (pre.length:Int)=some (mG (c8 b g o) pre pre.length c):=by
 have hd:=d.d4
 have hm:=d.m4
 unfold kK mG
 rw [oF (n:=pre.length) (λ j=>(c8 b g o).ap j pre.length || !meet c (nth pre j)) false (λ j f=>?_) (by simp only [dh,a2])]
 ·cases (List.range pre.length).all λ j=>(c8 b g o).ap j pre.length || !meet c (nth pre j) <;> rfl
 ·simp only [dec_lt f,bc,Kx d (show j < b.av.length by omega) hi,aG,show (c8 b g o).ap j pre.length=fq b j pre.length from rfl]
  cases fq b j pre.length with
  | true=>simp only [bc,Bool.true_or,if_true,bY (i:=j) (by omega)]
  | false =>
   simp only [a2,Bool.false_or]
   rw [oF (n:=b.az.length) (λ k=>!((nth pre j).contains (k:Int) && c.contains (k:Int))) false (λ k a=>?_) (by simp only [dh,a2])]
   ·have e:((List.range b.az.length).all λ k=>!((nth pre j).contains (k:Int) && c.contains (k:Int)))=!meet c (nth pre j):=by
     rw [Bool.eq_iff_iff,Bool.not_eq_true',B8,List.all_eq_true]
     constructor
     ·intro h k a m
      have hb:=l k a
      have:=h k.toNat (by rw [List.mem_range]; omega)
      rw [Int.toNat_of_nonneg hb.1] at this
      simp [a,m] at this
     ·intro h k _
      rw [Bool.not_eq_true',Bool.and_eq_false_iff]
      by_cases a:(k:Int)∈c
      ·exact .inl (by have:=h _ a; simpa using this)
      ·exact .inr (by simpa using a)
    rw [e]
    cases meet c (nth pre j) with
    | true=>rfl
    | false=>simp only [Bool.not_false,if_true,aG,Sum.elim_inl,bY (i:=j) (by omega)]
   ·simp only [dec_lt a,bc,rh _ (show j < 4 by omega),rh _ (show pre.length < 4 by omega),aG,na _ (show k < 4 by omega),j9 f,lj,bY (i:=k) (by omega)]
    cases (nth pre j).contains (k:Int) <;> cases c.contains (k:Int) <;> rfl
theorem NR{β:Type}(n a:Nat)(h:a≤n)(p:Nat→Bool)(f:Nat→List β):((List.range n).filter λ m=>p m && decide (a≤m)).flatMap f=(List.range (n - a)).flatMap λ j=>if p (a+j)=true then f (a+j) else []:=by
 obtain ⟨d,rfl⟩:∃ d,n=a+d:=⟨n - a,by omega⟩
 rw [List.range_add,List.filter_append,List.flatMap_append]
 have e1:((List.range a).filter λ m=>p m && decide (a≤m))=[]:=by
  rw [List.filter_eq_nil_iff]
  intro m hm
  rw [List.mem_range] at hm
  simp only [cM,decide_eq_true_eq,not_and]
  omega
 rw [e1,List.flatMap_nil,List.nil_append,Nat.add_sub_cancel_left,List.filter_map,List.flatMap_map,← H0]
 rw [List.flatMap_assoc]
 congr 1
 funext j
 simp only [Function.comp_apply,Nat.le_add_right,decide_true,Bool.and_true]
 cases p (a+j) <;> simp
def lM(c:List Int)(a:Nat):Prop:=∀ m:Nat,(c.all λ x=>decide (x < (m:Int)))=decide (a≤m)
theorem H9:lM [] 0:=λ m=>by simp
theorem lM.snoc{c:List Int}{a k:Nat}(h:lM c a)(b:a≤k):lM (c++[(k:Int)]) (k+1):=λ m=>by
 rw [List.all_append,h m,Bool.eq_iff_iff]
 simp only [List.all_cons,List.all_nil,Bool.and_true,cM,decide_eq_true_eq]
 omega
abbrev EW(A:RB)(i:Nat):Nat→List Int→List Int:=λ _ p=>ou A.n (A.ok i) p
theorem EX{A:RB}{i:Nat}{c:List Int}{a:Nat}(b:lM c a)(h:a≤A.n){β:Type}(f:Int→List β):(ou A.n (A.ok i) c).flatMap f=(List.range (A.n - a)).flatMap λ j=>if A.ok i (a+j)=true then f ((a+j:Nat):Int) else []:=by
 unfold ou gP
 rw [List.filter_map,List.flatMap_map,← NR A.n a h (A.ok i) λ m=>f (m:Int)]
 congr 1
 refine List.filter_congr λ m _=>?_
 simp only [Function.comp_apply,cp,b m]
def kh(A:RB)(d:Nat)(pre:List (List Int))(left:Nat)(c:List Int):List (List Bool) :=
 (((tree (EW A pre.length) left c.length c).filter (mG A pre pre.length)).flatMap λ c'=>tree (jJ A) d (pre.length+1) (pre++[c'])).map cz
def h8(A:RB)(d:Nat)(pre:List (List Int)):List (List Bool):=(tree (jJ A) d pre.length pre).map cz
theorem Ib{A:RB}{d:Nat}{pre:List (List Int)}(h:A.out pre.length=true):h8 A (d+1) pre=h8 A d (pre++[[]]):=by
 unfold h8
 simp only [tree,jJ,h,if_true,List.flatMap_cons,List.flatMap_nil,List.append_nil,fg,List.length_cons,List.length_nil]
theorem Ia{A:RB}{d:Nat}{pre:List (List Int)}(h:A.out pre.length=false):h8 A (d+1) pre=kh A d pre (A.dY pre.length) []:=by
 unfold h8 kh
 simp only [tree,jJ,h,fi,if_false,List.length_nil]
 rw [xO]
 rfl
theorem Nz{A:RB}{d:Nat}{pre:List (List Int)}{c:List Int}:kh A d pre 0 c=if mG A pre pre.length c=true then h8 A d (pre++[c]) else []:=by
 unfold kh h8
 simp only [tree,List.filter_cons,List.filter_nil,fg,List.length_cons,List.length_nil]
 split <;> simp
theorem NA{A:RB}{d:Nat}{pre:List (List Int)}{c:List Int}{left a:Nat}(b:lM c a)(h:a≤A.n):kh A d pre (left+1) c=(List.range (A.n - a)).flatMap λ j=>if A.ok pre.length (a+j)=true then kh A d pre left (c++[((a+j:Nat):Int)]) else []:=by
 unfold kh
 simp only [tree]
 rw [EX (A:=A) (i:=pre.length) b h]
 simp only [List.filter_flatMap,List.flatMap_assoc,List.map_flatMap]
 congr 1
 funext j
 split <;> simp
theorem KR{b:aj}(B:Valid b){g:List Bool}(am:g.length=4){o:Nat}(ho:o < 16){S:Type}(ys:List Bool→S→Option (S × Bool)):∀ d:Nat,
  (∀ (pre:List (List Int)) (f:Nat) (s:S) (r:S × Bool),pre.length+d=b.av.length→5 * d < f→dX ys (h8 (c8 b g o) d pre) s=some r→(eQ ys f).1 (cz pre) (pre.length:Int) (dI b) (o:Int) g (hh b) s=some r) ∧
  (∀ (left:Nat) (pre:List (List Int)) (c:List Int) (a f:Nat) (s:S) (r:S × Bool),pre.length+d+1=b.av.length→5 * d+left+1 < f→lM c a→a≤b.az.length→(∀ k∈c,0≤k∧k < (b.az.length:Int))→left≤3→dX ys (kh (c8 b g o) d pre left c) s=some r →
   (eQ ys f).2 (cz (pre++[c])) (pre.length:Int) (a:Int) (left:Int) (dI b) (o:Int) g (hh b) s=some r):=by
 have hd:=B.d4
 have hm:=B.m4
 have two:∀ d:Nat,(∀ (pre:List (List Int)) (f:Nat) (s:S) (r:S × Bool),pre.length+d=b.av.length→5 * d < f→dX ys (h8 (c8 b g o) d pre) s=some r→(eQ ys f).1 (cz pre) (pre.length:Int) (dI b) (o:Int) g (hh b) s=some r) →
   (∀ (left:Nat) (pre:List (List Int)) (c:List Int) (a f:Nat) (s:S) (r:S × Bool),pre.length+d+1=b.av.length→5 * d+left+1 < f→lM c a→a≤b.az.length→(∀ k∈c,0≤k∧k < (b.az.length:Int))→left≤3→dX ys (kh (c8 b g o) d pre left c) s=some r →
   (eQ ys f).2 (cz (pre++[c])) (pre.length:Int) (a:Int) (left:Int) (dI b) (o:Int) g (hh b) s=some r):=by
  intro d one left
  induction left with
  | zero =>
   intro pre c a f s r hl G v L E _ l
   obtain ⟨f,rfl⟩:∃ t,f=t+1:=⟨f - 1,by omega⟩
   unfold eQ
   simp only [Int.natCast_zero,beq_self_eq_true,bc]
   rw [show (dI b).book=b from rfl,J7 B (by omega) E g o,aG]
   rw [Nz] at l
   cases Q:mG (c8 b g o) pre pre.length c with
   | false =>
    rw [Q] at l
    simp only [fi,if_false,dX,eh] at l
    subst l
    rfl
   | true =>
    rw [Q,if_pos rfl] at l
    have:=one (pre++[c]) f s r (by simp; omega) (by omega) l
    rw [show (((pre++[c]).length:Nat):Int)=((pre.length+1:Nat):Int) by simp] at this
    simp only [Bool.not_true,a2,bY (i:=pre.length) (by omega),this,aG]
  | succ left C =>
   intro pre c a f s r hl G v L E h3 l
   obtain ⟨f,rfl⟩:∃ t,f=t+1:=⟨f - 1,by omega⟩
   unfold eQ
   simp only [show (((left+1:Nat):Int) == 0)=false by simp; omega,a2,show (dI b).book=b from rfl]
   rw [NA (A:=c8 b g o) v L,List.range_eq_range'] at l
   obtain ⟨al,U,T⟩:=D5 (b:=b) (i:=pre.length) (by omega)
   refine Exists.elim (wD (ys:=ys) (S:=S) (X:=Int × List Bool) (O:=S ⊕ (S × Bool)) (λ j=>if (c8 b g o).ok pre.length (a+j)=true then kh (c8 b g o) d pre left (c++[((a+j:Nat):Int)]) else []) ((c8 b g o).n - a)
    (λ j x=>x=(((a+j:Nat):Int),cz (pre++[c]))) (λ s o=>o = .inl s) (λ s o=>o = .inr (s,false)) (body:=λ (p:(S × Int × (List Bool))) =>
  af (decide (p.2.1 < (b.az.length:Int)))
  (((((idx g p.2.1).bind λ ae =>
  af (!ae)
  (some true)
  ((dF 4 (hh b) (pre.length:Int)).bind λ ah =>
  (idx ah p.2.1).bind λ ai =>
  some (!ai))):Option Bool)).bind (λ (ab:Bool) =>
  af ab
  (some (.inl (p.1,i64 (p.2.1+1),p.2.2)))
  ((dF 4 p.2.2 (pre.length:Int)).bind λ ak =>
  (idx ak p.2.1).bind λ au =>
  ((eQ ys f).2 (e9 4 p.2.2 (pre.length:Int) p.2.1 true) (pre.length:Int) (i64 (p.2.1+1)) (i64 (((left+1:Nat):Int) - 1)) (dI b) (o:Int) g (hh b) p.1).bind λ I =>
  af (!I.2)
  (some (.inr (.inr (I.1,false))))
  ((dF 4 (e9 4 p.2.2 (pre.length:Int) p.2.1 true) (pre.length:Int)).bind λ ad =>
  (idx ad p.2.1).bind λ ar =>
  some (.inl (I.1,i64 (p.2.1+1),e9 4 (e9 4 p.2.2 (pre.length:Int) p.2.1 true) (pre.length:Int) p.2.1 false))))))
  (some (.inr (.inl p.1)))) (λ j s x r an D l=>?_) (λ s x D=>?_) ((c8 b g o).n - a) 0 s ((a:Int),cz (pre++[c])) r (by omega) rfl l) ?_
   ·subst D
    have M:a+j < b.az.length:=by have:(c8 b g o).n=b.az.length:=rfl; omega
    have R:idx g ((a+j:Nat):Int)=some (nth g (a+j)):=by rw [bM]; exact a5 (by omega)
    have K:=T (a+j) (by omega)
    rw [if_pos ⟨by omega,M⟩] at K
    have N:(c8 b g o).ok pre.length (a+j)=(nth g (a+j) && hS b pre.length (a+j)):=rfl
    simp only [dec_lt M,bc,R,aG,U,K,bY (i:=a+j) (by omega)]
    cases u:(nth g (a+j) && hS b pre.length (a+j)) with
    | false =>
     rw [N,u] at l
     simp only [fi,if_false,dX,eh] at l
     subst l
     simp only [if_true]
     refine ⟨_,?_,rfl⟩
     rw [Bool.and_eq_false_iff] at u
     rcases u with h | h
     ·rw [h]; rfl
     ·rw [h]
      cases nth g (a+j) <;> rfl
    | true =>
     rw [N,u,if_pos rfl] at l
     rw [cM] at u
     have W:¬ ((a+j:Nat):Int)∈c:=λ V=>by
      have:=v (a+j)
      rw [de (by omega:a≤a+j),List.all_eq_true] at this
      have:=this _ V
      simp at this
     have cont:∀ j' m:Nat,(nth (pre++[c++[((a+j:Nat):Int)]]) j').contains (m:Int)=if j'=pre.length∧m=a+j then true else (nth (pre++[c]) j').contains (m:Int):=by
      intro j' m
      by_cases e:j'=pre.length
      ·subst e
       rw [lj,lj]
       by_cases em:m=a+j
       ·rw [if_pos ⟨rfl,em⟩,em]; simp
       ·rw [if_neg (λ h=>em h.2),Bool.eq_iff_iff,List.contains_iff_mem,List.contains_iff_mem,List.mem_append,List.mem_singleton]
        exact ⟨λ h=>h.resolve_right (by omega),.inl⟩
      ·rw [if_neg (λ h=>e h.1)]
       by_cases J:j' < pre.length
       ·rw [j9 J,j9 J]
       ·have q:∀ z:List Int,nth (pre++[z]) j'=[]:=λ z=>by unfold nth; rw [ha,List.getElem?_eq_none (by simp; omega)]; rfl
        rw [q,q]
     have s1:e9 4 (cz (pre++[c])) (pre.length:Int) ((a+j:Nat):Int) true=cz (pre++[c++[((a+j:Nat):Int)]]):=CR (by omega) (by omega) λ j' m _ _=>cont j' m
     have s2:e9 4 (cz (pre++[c++[((a+j:Nat):Int)]])) (pre.length:Int) ((a+j:Nat):Int) false=cz (pre++[c]):=CR (by omega) (by omega) λ j' m _ _=>by
      rw [cont j' m]
      by_cases e:j'=pre.length∧m=a+j
      ·rw [if_pos e,e.1,e.2,lj]
       simpa using W
      ·rw [if_neg e,if_neg e]
     have Z:=C pre (c++[((a+j:Nat):Int)]) (a+j+1) f s r hl (by omega) (v.snoc (by omega)) (by omega) (λ k w=>by
      rw [List.mem_append,List.mem_singleton] at w
      rcases w with w | rfl
      ·exact E k w
      ·omega) (by omega) l
     simp only [u.1,u.2,Bool.not_true,a2,aG,rh _ (show pre.length < 4 by omega),na _ (show a+j < 4 by omega),s1,eW (i:=left+1) (by omega) (by omega),Nat.add_sub_cancel,Z,s2]
     cases ap:r.2 with
     | true=>exact ⟨(((a+(j+1):Nat):Int),cz (pre++[c])),by simp only [Bool.not_true,a2,Nat.add_assoc],rfl⟩
     | false=>exact ⟨.inr (r.1,false),by simp only [Bool.not_false,bc],rfl⟩
   ·subst D
    refine ⟨.inl s,?_,rfl⟩
    rw [show a+((c8 b g o).n - a)=b.az.length from by have:(c8 b g o).n=b.az.length:=rfl; omega]
    simp only [dh,a2]
   ·rintro q ⟨H,F⟩
    have Y:=H
    refine (eN Y).trans ?_
    split at F
    ·rename_i h2; subst F
     obtain ⟨r1,r2⟩:=r
     simp only at h2
     subst h2
     rfl
    ·rename_i h2; subst F
     obtain ⟨r1,r2⟩:=r
     simp only [Bool.not_eq_true] at h2
     subst h2
     rfl
 intro d
 induction d with
 | zero =>
  have one:∀ (pre:List (List Int)) (f:Nat) (s:S) (r:S × Bool),pre.length+0=b.av.length→5 * 0 < f→dX ys (h8 (c8 b g o) 0 pre) s=some r→(eQ ys f).1 (cz pre) (pre.length:Int) (dI b) (o:Int) g (hh b) s=some r:=by
   intro pre f s r hl G l
   obtain ⟨f,rfl⟩:∃ t,f=t+1:=⟨f - 1,by omega⟩
   simp only [h8,tree,List.map_cons,List.map_nil,dX] at l
   obtain ⟨q,H,l⟩:=ag l
   unfold eQ
   simp only
   rw [show (dI b).book=b from rfl,show ((pre.length:Int) == (b.av.length:Int))=true by simp; omega,bc,H,aG]
   obtain ⟨aq,ac⟩:=q
   cases ac <;> simpa using l
  exact ⟨one,two 0 one⟩
 | succ d C =>
  have one:∀ (pre:List (List Int)) (f:Nat) (s:S) (r:S × Bool),pre.length+(d+1)=b.av.length→5 * (d+1) < f→dX ys (h8 (c8 b g o) (d+1) pre) s=some r→(eQ ys f).1 (cz pre) (pre.length:Int) (dI b) (o:Int) g (hh b) s=some r:=by
   intro pre f s r hl G l
   obtain ⟨f,rfl⟩:∃ t,f=t+1:=⟨f - 1,by omega⟩
   have hi:pre.length < b.av.length:=by omega
   have hb:=EG (x:=o) (i:=pre.length) ho (by omega)
   obtain ⟨y,aa,hb⟩:=ag hb
   unfold eQ
   simp only
   rw [show (dI b).book=b from rfl,show ((pre.length:Int) == (b.av.length:Int))=false by simp; omega,a2,aa,aG,hb,aG]
   cases P:o.testBit pre.length with
   | true =>
    rw [Ib (A:=c8 b g o) P] at l
    have:=C.1 (pre++[[]]) f s r (by simp; omega) (by omega) l
    rw [CN,show (pre++[([]:List Int)]).length=pre.length+1 by simp] at this
    simp only [if_true,beq_self_eq_true,bc,bY (i:=pre.length) (by omega),this,aG]
   | false =>
    rw [Ia (A:=c8 b g o) P] at l
    have ao:=(B.dv hi).hK
    have:=C.2 (nth b.av pre.length).az.toNat pre [] 0 f s r (by omega) (by omega) H9 (by omega) (by simp) (by omega) l
    rw [CN,Int.toNat_of_nonneg (by omega)] at this
    simp only [fi,if_false,show ((0:Int) == 1)=false from rfl,a2,bM,a5 hi,aG]
    rw [show ((0:Nat):Int)=0 from rfl] at this
    rw [this]
    rfl
  exact ⟨one,two (d+1) one⟩
theorem EY{n dY:Nat}{ok:Nat→Bool}(g:n≤4):(m6 n dY ok).length≤16:=by
 have h:=AV (l:=m6 n dY ok) (m:=(List.range (2 ^ n)).map (b3 n)) id (M8 OF (EZ n dY ok)) (λ x _ y _ h=>h) (λ c f=>by
  have h1:=nT.1 f
  obtain ⟨a,d,e⟩:=MV h1.2.1 (λ k b=>⟨(h1.2.2 k b).1,(h1.2.2 k b).2.1⟩)
  exact List.mem_map.2 ⟨a,List.mem_range.2 d,e.symm⟩)
 rw [List.length_map,List.length_range] at h
 exact Nat.le_trans h (Cw (by omega))
theorem Bi{α:Type}{ext:Nat→List α→List α}{m:Nat}(h:∀ i p,(ext i p).length≤m):∀ n,(lvl ext n).length≤m ^ n
 | 0=>by simp [lvl]
 | n+1=>by
  have b:=Bi h n
  simp only [lvl]
  refine Nat.le_trans (vY _ m (λ a=>by rw [List.length_map]; exact h _ _) _) ?_
  rw [Nat.pow_succ]
  exact Nat.mul_le_mul_right m b
theorem OC{A:RB}(a:A.n≤4)(hd:A.D≤4):(hM A).length≤65536:=by
 refine Nat.le_trans (Bi (m:=16) (λ i p=>?_) A.D) ?_
 ·unfold jJ
  split
  ·simp
  ·exact Nat.le_trans (List.length_filter_le _ _) (EY a)
 ·calc 16 ^ A.D≤16 ^ 4:=Nat.pow_le_pow_right (by omega) hd
   _=65536:=by decide
theorem te{b:aj}(a:Valid b){g:List Bool}(c:g.length=4){o:Nat}(ho:o < 16){S:Type}(ys:List Bool→S→Option (S × Bool)){s:S}{r:S × Bool}(d:dX ys ((hM (c8 b g o)).map cz) s=some r) :
  gZ ys (dI b) (o:Int) g (hh b) s=some r.1:=by
 unfold gZ
 have h:=(KR a c ho ys b.av.length).1 [] 40 s r (by simp) (by have:=a.d4; omega) (by
  unfold h8
  rw [List.length_nil,show tree (jJ (c8 b g o)) b.av.length 0 []=hM (c8 b g o) from xO _ _]
  exact d)
 have e:cz []=[false,false,false,false,false,false,false,false,false,false,false,false,false,false,false,false]:=rfl
 rw [List.length_nil,Int.natCast_zero,e] at h
 rw [h]
 rfl
def hj(b:aj):List Bool:=gV (gP b.az.length)
theorem rC(b:aj):(hj b).length=4:=by simp [hj,gV]
theorem sI(c:List Int):(gV c).length=4:=by simp [gV]
theorem Ie(c:List Int){k:Nat}(a:k < 4):nth (gV c) k=c.contains (k:Int):=by
 have h:=na c a
 rw [bM] at h
 rw [a5 (by rw [sI]; exact a)] at h
 exact ed h
theorem Ig{c:List Int}{k:Nat}(a:k < 4):(gV c).set k true=gV (c++[(k:Int)]):=by
 refine List.ext_getElem? λ p=>?_
 by_cases b:p < 4
 ·rw [List.getElem?_set,sI]
  have e:∀ d:List Int,(gV d)[p]? = some (d.contains (p:Int)):=λ d=>by have:=na d b; rwa [bM] at this
  rw [e,e]
  by_cases h:k=p
  ·subst h
   rw [if_pos rfl,if_pos a]
   simp
  ·rw [if_neg h]
   congr 1
   rw [Bool.eq_iff_iff,List.contains_iff_mem,List.contains_iff_mem,List.mem_append,List.mem_singleton]
   exact ⟨.inl,λ h2=>h2.resolve_right (by omega)⟩
 ·rw [List.getElem?_eq_none (by rw [List.length_set,sI]; omega),List.getElem?_eq_none (by rw [sI]; omega)]
theorem wK{b:aj}(c:Valid b):jw b=some (hj b):=by
 have hm:=c.m4
 unfold jw hj
 refine (eN (o:=gV (gP b.az.length)) ?_).trans rfl
 have a:((0:Int),[false,false,false,false])=(λ i:Nat=>((i:Int),gV (gP i))) 0:=rfl
 rw [a]
 refine jq (λ i:Nat=>((i:Int),gV (gP i))) b.az.length (λ i hi=>?_) (by simp only [dh,a2])
 have:=na (gP i) (show i < 4 by omega)
 simp only [dec_lt hi,bc,this,aG,bY (i:=i) (by omega),cp,Ig (show i < 4 by omega),PH]
theorem OJ{c:List Int}{n:Nat}(d:n≤4)(a:c.Pairwise (· < ·))(b:∀ k∈c,0≤k∧k < (n:Int)):((List.range 4).filter λ k=>c.contains ((k:Nat):Int)).map (λ (k:Nat)=>(k:Int))=c:=by
 refine rF _ _ ?_ a λ x=>?_
 ·rw [List.pairwise_map]
  exact (List.pairwise_lt_range.filter _).imp λ h=>by omega
 ·simp only [List.mem_map,List.mem_filter,List.mem_range,List.contains_iff_mem]
  constructor
  ·rintro ⟨k,⟨_,h⟩,rfl⟩; exact h
  ·intro h; have:=b x h; exact ⟨x.toNat,⟨by omega,by rwa [Int.toNat_of_nonneg this.1]⟩,Int.toNat_of_nonneg this.1⟩
structure pJ (b:aj) (r:List (List Int)):Prop where
 len:r.length=b.av.length
 row:∀ i,i < b.av.length→(nth r i).Pairwise (· < ·)∧∀ k∈nth r i,0≤k∧k < (b.az.length:Int)
theorem fA.rows{b:aj}{g:List Bool}{o:Nat}{r:List (List Int)}(h:fA (c8 b g o) r):pJ b r:=⟨h.len,λ i hi=>by
 cases ho:(c8 b g o).out i with
 | true=>rw [h.out i hi ho]; exact ⟨.nil,by simp⟩
 | false =>
  have:=nT.1 (h.qa i hi ho)
  exact ⟨this.2.1,λ k a=>⟨(this.2.2 k a).1,(this.2.2 k a).2.1⟩⟩⟩
theorem Bt{b:aj}(e:Valid b){r:List (List Int)}(a:pJ b r):j3 b (cz r)=some r:=by
 have hd:=e.d4
 have hm:=e.m4
 unfold j3
 refine (eN (o:=r) ?_).trans rfl
 have f:(([]:List (List Int)),(0:Int))=(λ i:Nat=>(r.take i,(i:Int))) 0:=rfl
 rw [f]
 refine jq (λ i:Nat=>(r.take i,(i:Int))) b.av.length (λ i hi=>?_) (by simp only [dh,a2,← a.len,List.take_length])
 have c:=a.row i hi
 have hl:=a.len
 simp only [dec_lt hi,bc,rh _ (show i < 4 by omega),aG,bY (i:=i) (by omega)]
 rw [eN (o:=nth r i) ?_]
 ·rw [lS (by rw [fh]; simp only [List.length_cons,List.length_nil]; omega),aG,List.take_add_one,a5 (by omega)]
  rfl
 ·have h:(([]:List Int),(0:Int))=(λ k:Nat=>(((List.range k).filter λ k=>(nth r i).contains ((k:Nat):Int)).map (λ (k:Nat)=>(k:Int)),(k:Int))) 0:=rfl
  rw [h]
  refine jq (λ k:Nat=>(((List.range k).filter λ k=>(nth r i).contains ((k:Nat):Int)).map (λ (k:Nat)=>(k:Int)),(k:Int))) 4 (λ k g=>?_) ?_
  ·have j:((List.range k).filter λ k=>(nth r i).contains ((k:Nat):Int)).length≤k:=Nat.le_trans (List.length_filter_le _ _) (by simp)
   simp only [show decide ((k:Int) < 4)=true by simp; omega,bc,na _ g,aG,bY (i:=k) (by omega),List.range_succ,List.filter_append,List.map_append]
   cases d:(nth r i).contains (k:Int) with
   | true =>
    rw [bc,lS (by rw [List.length_map]; simp only [List.length_cons,List.length_nil]; omega),aG]
    simp only [List.filter_cons,d,if_true,List.filter_nil,List.map_cons,List.map_nil]
   | false =>
    simp only [a2,List.filter_cons,d,fi,if_false,List.filter_nil,List.map_nil,List.append_nil]
  ·rw [show decide (((4:Nat):Int) < 4)=false from rfl,a2,OJ hm c.1 c.2]
abbrev gx(b:aj):List (List (List Int)):=hM (c8 b (hj b) 0)
theorem xu{b:aj}(a:Valid b)(g:List Bool)(o:Nat):(hM (c8 b g o)).length≤65536:=OC a.m4 a.d4
theorem CK{b:aj}{g:List Bool}{o:Nat}{r:List (List Int)}(h:r∈hM (c8 b g o)):pJ b r:=fA.rows (Cb.1 h)
def xw(b:aj):Int × Int:=if eB b 0≠0 then (0,eB b 0) else ((gx b).length,0)
theorem Mf{b:aj}(d:Small b):j5 b=some (xw b):=by
 unfold j5 xw
 rw [pb d (own:=0) (λ _=>rfl),aG]
 unfold mC
 by_cases h:eB b 0=0
 ·obtain ⟨c,_,_⟩:=qk h
  have hl:=xu c (hj b) 0
  simp only [h,ne_eq,eK,if_false,bne_self_eq_false,a2,wJ c,show (dI b).book=b from rfl,wK c,jv,aG]
  rw [show (0:Int)=((0:Nat):Int) from rfl,te c (rC b) (by omega) _ (r:=(.inl ((((gx b).map cz).foldl (λ (s:Int) _=>s+1) 0)),true)) (sH (λ k s=>s=(k:Int)) (λ _ s=>s+1) _ 0 _ rfl (λ j s a e d _=>by
   subst d
   simp only [List.length_map] at e
   rw [bY (i:=j) (by omega)]
   exact ⟨rfl,rfl⟩))]
  have key:∀ (l:List (List Bool)) (s:Int),l.foldl (λ s _=>s+1) s=s+l.length:=by
   intro l
   induction l with
   | nil=>simp
   | cons a l f=>intro s; rw [List.foldl_cons,f]; simp; omega
  rw [aG,Sum.elim_inl,key,List.length_map]
  simp
 ·simp only [h,ne_eq,not_false_eq_true,if_true,iN h,bc]
def vW(b:aj):List (List Int) × Bool × Int:=if eB b 0≠0 then ([],false,eB b 0) else match gx b with | []=>([],false,0) | r::_=>(r,true,0)
theorem Mg{b:aj}(f:Small b):kW b=some (vW b):=by
 unfold kW vW
 rw [pb f (own:=0) (λ _=>rfl),aG]
 unfold mC
 by_cases h:eB b 0=0
 ·obtain ⟨a,_,_⟩:=qk h
  simp only [h,ne_eq,eK,if_false,bne_self_eq_false,a2,wJ a,show (dI b).book=b from rfl,wK a,jv,aG]
  cases c:gx b with
  | nil =>
   have:=te a (rC b) (o:=0) (by omega) (cY (λ (d:(List Bool)) (g:Unit)=>(((j3 b d).bind λ e=>some (.inr e)):Option (Unit ⊕ (List (List Int)))))) (s:=.inl ()) (r:=(.inl (),true)) (by rw [show hM (c8 b (hj b) 0)=[] from c]; rfl)
   rw [show (0:Int)=((0:Nat):Int) from rfl,this]
   rfl
  | cons r l =>
   have:=te a (rC b) (o:=0) (by omega) (cY (λ (d:(List Bool)) (g:Unit)=>(((j3 b d).bind λ e=>some (.inr e)):Option (Unit ⊕ (List (List Int)))))) (s:=.inl ()) (r:=(.inr r,false)) (by
    rw [show hM (c8 b (hj b) 0)=r::l from c]
    simp only [List.map_cons,dX,cY]
    rw [Bt a (CK (show r∈gx b by rw [c]; simp))]
    rfl)
   rw [show (0:Int)=((0:Nat):Int) from rfl,this]
   rfl
 ·simp only [h,ne_eq,not_false_eq_true,if_true,iN h,bc]
def mF(b:aj):RB:=⟨b.az.length,b.av.length,λ i=>(nth b.av i).az.toNat,hS b,fq b,λ _=>false⟩
theorem fA.same{A C:RB}(l:A.n=C.n)(c:A.D=C.D)(f:∀ i,i < A.D→A.dY i=C.dY i)(g:∀ i k,i < A.D→k < A.n→A.ok i k=C.ok i k)(d:∀ i j,i < A.D→j < i→A.ap j i=C.ap j i∧A.ap i j=C.ap i j)(a:∀ i,i < A.D→A.out i=C.out i){r:List (List Int)}:fA A r↔fA C r:=by
 constructor
 ·intro h
  exact fA.le ⟨by omega,c,f,λ i k hi e h=>by rw [← g i k hi e]; exact h,λ i j hi b h=>by rw [← (d i j hi b).1]; exact h,λ i hi h=>by rw [← a i hi]; exact h,λ i hi h=>by rw [a i hi]; exact h⟩ h
 ·intro h
  exact fA.le ⟨by omega,c.symm,λ i hi=>(f i (by omega)).symm,λ i k hi e h=>by rw [g i k (by omega) (by omega)]; exact h,λ i j hi b h=>by rw [(d i j (by omega) b).1]; exact h,λ i hi h=>by rw [a i (by omega)]; exact h,λ i hi h=>by rw [← a i (by omega)]; exact h⟩ h
theorem NS{b:aj}(hm:b.az.length≤4){o:Nat}{r:List (List Int)}:fA (c8 b (hj b) o) r↔fA { mF b with out:=λ i=>o.testBit i } r:=by
 refine fA.same (A:=c8 b (hj b) o) (C:={ mF b with out:=λ i=>o.testBit i }) rfl rfl (λ _ _=>rfl) (λ i k _ a=>?_) (λ _ _ _ _=>⟨rfl,rfl⟩) (λ i _=>rfl)
 show (nth (gV (gP b.az.length)) k && hS b i k)=hS b i k
 have c:k < b.az.length:=a
 rw [Ie _ (by omega),show (gP b.az.length).contains (k:Int)=true by rw [List.contains_iff_mem,Cd]; omega,Bool.true_and]
theorem NT{b:aj}(hm:b.az.length≤4){r:List (List Int)}:fA (c8 b (hj b) 0) r↔fA (mF b) r:=by
 rw [NS hm]
 exact fA.same (A:={ mF b with out:=λ i=>(0:Nat).testBit i }) (C:=mF b) rfl rfl (λ _ _=>rfl) (λ _ _ _ _=>rfl) (λ _ _ _ _=>⟨rfl,rfl⟩) (λ i _=>by simp [mF])
theorem Af{b:aj}(a:Valid b):eB b 0=if bP b=[] then 9 else 0:=by unfold eB; simp [iw.2 a]
def cn(b:aj)(i:Nat):Int:=(nth b.av i).db
abbrev j0(b:aj)(r:List (List Int)):Int:=ob (cn b) r b.av.length b.az.length
def g2(f:Int→Int):Int:=max (max (max (max 0 (f 0)) (f 1)) (f 2)) (f 3)
def dr(t:Nat→Int)(r:List (List Int))(i k:Nat):Int→Int:=λ a=>eH t r a i+if (0≤a∧a < (k:Int))∧a∈nth r i then t i else 0
theorem MW{f:Int→Int}{k:Nat}(b:k < 4){z:Int}(a:f k≤z):g2 (fK f k z)=max (g2 f) z:=by
 match k,b with
 | 0,_=>simp only [g2,fK] at a ⊢; simp; simp at a; omega
 | 1,_=>simp only [g2,fK] at a ⊢; simp; simp at a; omega
 | 2,_=>simp only [g2,fK] at a ⊢; simp; simp at a; omega
 | 3,_=>simp only [g2,fK] at a ⊢; simp; simp at a; omega
theorem Dh{b:aj}(a:Valid b)(r:List (List Int))(k:Int):∀ i,i≤b.av.length→0≤eH (cn b) r k i∧eH (cn b) r k i≤60 * i
 | 0,_=>by simp [eH]
 | i+1,h=>by
  have d:=Dh a r k i (by omega)
  have c:=(a.dv (i:=i) (by omega)).mP
  simp only [eH]
  have:cn b i=(nth b.av i).db:=rfl
  split <;> omega
theorem Bv{b:aj}(l:Valid b){r:List (List Int)}(s:pJ b r):kL b (cz r)=some (j0 b r):=by
 have hd:=l.d4
 have hm:=l.m4
 unfold kL
 have x:∀ i,i < b.av.length→1≤cn b i∧cn b i≤60:=λ i hi=>(l.dv hi).mP
 have fin:g2 (dr (cn b) r b.av.length 0)=j0 b r:=by
  have e:∀ a:Int,dr (cn b) r b.av.length 0 a=eH (cn b) r a b.av.length:=λ a=>by
   unfold dr
   rw [if_neg (by omega)]
   omega
  have z:∀ k:Nat,b.az.length≤k→eH (cn b) r (k:Int) b.av.length=0:=λ k g=>Di λ i hi w=>by
   have:=(s.row i hi).2 _ w
   omega
  have key:∀ m,j0 b r≤m↔0≤m∧eH (cn b) r 0 b.av.length≤m∧eH (cn b) r 1 b.av.length≤m∧eH (cn b) r 2 b.av.length≤m∧eH (cn b) r 3 b.av.length≤m:=λ m=>by
   rw [DJ]
   have q:∀ k:Nat,0≤m→(∀ j:Nat,j < b.az.length→eH (cn b) r (j:Int) b.av.length≤m)→eH (cn b) r (k:Int) b.av.length≤m:=λ k c h=>by
    by_cases g:k < b.az.length
    ·exact h k g
    ·rw [z k (by omega)]; exact c
   constructor
   ·rintro ⟨c,h⟩
    exact ⟨c,q 0 c h,q 1 c h,q 2 c h,q 3 c h⟩
   ·rintro ⟨c,h1,h2,h3,h4⟩
    refine ⟨c,λ k g=>?_⟩
    match k,(show k < 4 by omega) with
    | 0,_=>exact h1
    | 1,_=>exact h2
    | 2,_=>exact h3
    | 3,_=>exact h4
  unfold g2
  rw [e,e,e,e]
  have k1:=(key (j0 b r)).1 (Int.le_refl _)
  have k2:=(key (max (max (max (max 0 (eH (cn b) r 0 b.av.length)) (eH (cn b) r 1 b.av.length)) (eH (cn b) r 2 b.av.length)) (eH (cn b) r 3 b.av.length))).2 (by omega)
  omega
 rw [← fin]
 refine (eN (o:=g2 (dr (cn b) r b.av.length 0)) ?_).trans rfl
 have t:((λ _=>0:Int→Int),(0:Int),(0:Int))=(λ i:Nat=>(dr (cn b) r i 0,g2 (dr (cn b) r i 0),(i:Int))) 0:=by
  have:dr (cn b) r 0 0=λ _=>0:=by
   funext a
   unfold dr
   rw [if_neg (by omega)]
   rfl
  simp only [this]
  rfl
 rw [t]
 refine jq (λ i:Nat=>(dr (cn b) r i 0,g2 (dr (cn b) r i 0),(i:Int))) b.av.length (λ i hi=>?_) (by simp only [dh,a2])
 have hb:=λ a=>Dh l r a i (by omega)
 have B:=x i hi
 simp only [dec_lt hi,bc,bM,a5 hi,aG,rh _ (show i < 4 by omega),bY (i:=i) (by omega)]
 have nx:dr (cn b) r i 4=dr (cn b) r (i+1) 0:=by
  funext a
  unfold dr
  simp only [eH]
  rw [if_neg (show ¬((0≤a∧a < ((0:Nat):Int))∧a∈nth r (i+1)) by omega)]
  by_cases d:a∈nth r i
  ·have:=(s.row i hi).2 a d
   rw [if_pos ⟨⟨by omega,by omega⟩,d⟩,if_pos d]
   omega
  ·rw [if_neg (λ h=>d h.2),if_neg d]
   omega
 rw [eN (o:=(dr (cn b) r (i+1) 0,g2 (dr (cn b) r (i+1) 0))) ?_]
 have y:(dr (cn b) r i 0,g2 (dr (cn b) r i 0),(0:Int))=(λ k:Nat=>(dr (cn b) r i k,g2 (dr (cn b) r i k),(k:Int))) 0:=rfl
 rw [y]
 refine jq (λ k:Nat=>(dr (cn b) r i k,g2 (dr (cn b) r i k),(k:Int))) 4 (λ k g=>?_) ?_
 ·simp only [show decide ((k:Int) < 4)=true by simp; omega,bc,na _ g,aG,bY (i:=k) (by omega)]
  have p:dr (cn b) r i k (k:Int)=eH (cn b) r (k:Int) i:=by
   unfold dr
   rw [if_neg (λ h=>by omega)]
   omega
  have A:=hb (k:Int)
  cases n:(nth r i).contains (k:Int) with
  | true =>
   rw [List.contains_iff_mem] at n
   have e1:fK (dr (cn b) r i k) (k:Int) (dr (cn b) r i k (k:Int)+cn b i)=dr (cn b) r i (k+1):=by
    funext a
    unfold fK
    by_cases d:a=(k:Int)
    ·subst d
     rw [if_pos rfl,p]
     unfold dr
     rw [if_pos ⟨⟨by omega,by omega⟩,n⟩]
    ·rw [if_neg d]
     unfold dr
     congr 1
     by_cases h2:(0≤a∧a < (k:Int))∧a∈nth r i
     ·rw [if_pos h2,if_pos ⟨⟨h2.1.1,by omega⟩,h2.2⟩]
     ·rw [if_neg h2,if_neg (λ h3=>h2 ⟨⟨h3.1.1,by omega⟩,h3.2⟩)]
   have u:i64 (dr (cn b) r i k (k:Int)+(nth b.av i).db)=dr (cn b) r i k (k:Int)+cn b i:=by
    rw [p,cH (by have:cn b i=(nth b.av i).db:=rfl; omega) (by have:cn b i=(nth b.av i).db:=rfl; omega)]
    rfl
   rw [bc,u,e1,B7]
   congr 2
   have:=MW (f:=dr (cn b) r i k) g (z:=dr (cn b) r i k (k:Int)+cn b i) (by omega)
   rw [e1] at this
   rw [this]
   congr 2
   rw [← e1]
   unfold fK
   rw [if_pos rfl]
  | false =>
   have v:¬ (k:Int)∈nth r i:=λ h=>by rw [← List.contains_iff_mem,n] at h; cases h
   have e1:dr (cn b) r i (k+1)=dr (cn b) r i k:=by
    funext a
    unfold dr
    congr 1
    by_cases h2:(0≤a∧a < (k:Int))∧a∈nth r i
    ·rw [if_pos h2,if_pos ⟨⟨h2.1.1,by omega⟩,h2.2⟩]
    ·rw [if_neg h2,if_neg (λ h3=>h2 ⟨⟨h3.1.1,by
      have:a≠(k:Int):=λ e=>v (e ▸ h3.2)
      omega⟩,h3.2⟩)]
   rw [a2,e1]
 ·rw [show decide (((4:Nat):Int) < 4)=false from rfl,a2,nx]
theorem Ke{f:List Bool→Option Int}{w:List (List Int)→Int}:∀ (l:List (List (List Int))) (x:List (List Int)),(∀ y∈x::l,f (cz y)=some (w y))→l.length≤70000→ns f ((x::l).map cz)=some (cz (fS w x l)):=by
 intro l x b hl
 unfold ns
 rw [show idx ((x::l).map cz) 0=some (cz x) from rfl,aG]
 rw [show e7 ((x::l).map cz) 1 (((x::l).map cz).length:Int)=some (l.map cz) from E1,aG]
 refine (eN (o:=cz (fS w x l)) ?_).trans rfl
 have c:((0:Int),cz x)=(λ i:Nat=>((i:Int),cz (fS w x (l.take i)))) 0:=rfl
 rw [c]
 have sn:∀ (l:List (List (List Int))) (x y:List (List Int)),fS w x (l++[y])=if w y < w (fS w x l) then y else fS w x l:=by
  intro l
  induction l with
  | nil=>intro x y; rfl
  | cons z l a=>intro x y; exact a _ y
 have mem:∀ (l:List (List (List Int))) (x:List (List Int)),fS w x l∈x::l:=by
  intro l
  induction l with
  | nil=>intro x; simp [fS]
  | cons z l a =>
   intro x
   simp only [fS]
   have:=a (if w z < w x then z else x)
   rcases cJ.1 this with h | h
   ·rw [h]; split <;> simp
   ·simp [h]
 have d:(l.map cz).length=l.length:=List.length_map _
 refine (congrArg (λ z=>a6 _ z) rfl).trans ?_
 rw [d]
 refine jq (λ i:Nat=>((i:Int),cz (fS w x (l.take i)))) l.length (λ i hi=>?_) (by simp only [dh,a2,List.take_length])
 have e:(l.map cz)[i]? = some (cz (nth l i)):=by rw [List.getElem?_map,a5 hi]; rfl
 have hb:fS w x (l.take i)∈x::l:=by
  rcases cJ.1 (mem (l.take i) x) with h | h
  ·rw [h]; simp
  ·exact List.mem_cons_of_mem _ (List.mem_of_mem_take h)
 simp only [dec_lt hi,bc,bM,e,aG,b _ (List.mem_cons_of_mem _ (eC hi)),b _ hb,bY (i:=i) (by omega)]
 have et:l.take (i+1)=l.take i++[nth l i]:=by rw [List.take_add_one,a5 hi]; rfl
 rw [et,sn]
 by_cases hw:w (nth l i) < w (fS w x (l.take i))
 ·rw [de hw,bc,if_pos hw]
 ·rw [dV hw,a2,if_neg hw]
theorem Kc{b:aj}(d:Valid b){g:List Bool}(e:g.length=4){o:Nat}(ho:o < 16):nq (λ y s=>gZ y (dI b) (o:Int) g (hh b) s)=some ((hM (c8 b g o)).map cz):=by
 unfold nq oT
 have hl:=xu d g o
 have key:∀ (l a:List (List Bool)),l.foldl (λ s c=>s++[c]) a=a++l:=by
  intro l
  induction l with
  | nil=>simp
  | cons c l i=>intro a; rw [List.foldl_cons,i]; simp
 dsimp only
 rw [te d e ho _ (r:=(.inl ((((hM (c8 b g o)).map cz).foldl (λ (s:List (List Bool)) c=>s++[c]) [])),true)) (sH (λ k s=>s.length=k) (λ c s=>s++[c]) _ 0 [] rfl (λ j s a f h _=>by
  simp only [List.length_map] at f
  rw [lS (by simp; omega)]
  exact ⟨rfl,by simp [h]⟩))]
 rw [key]
 rfl
def vU(b:aj):List (List Int) × Int × Bool × Int:=if eB b 0≠0 then ([],0,false,eB b 0) else match gx b with | []=>([],0,false,0) | r::l=>(fS (j0 b) r l,j0 b (fS (j0 b) r l),true,0)
theorem uS{α:Type}(w:α→Int):∀ (l:List α) (x:α),fS w x l∈x::l
 | [],x=>by simp [fS]
 | z::l,x=>by
  simp only [fS]
  rcases cJ.1 (uS w l (if w z < w x then z else x)) with h | h
  ·rw [h]; split <;> simp
  ·simp [h]
theorem Mi{b:aj}(i:Small b):kY b=some (vU b):=by
 unfold kY vU
 rw [pb i (own:=0) (λ _=>rfl),aG]
 unfold mC
 by_cases h:eB b 0=0
 ·obtain ⟨a,_,_⟩:=qk h
  have hl:=xu a (hj b) 0
  simp only [h,ne_eq,eK,if_false,bne_self_eq_false,a2,wJ a,show (dI b).book=b from rfl,wK a,jv,aG]
  have d:=Kc a (rC b) (o:=0) (by omega)
  rw [show ((0:Nat):Int)=0 from rfl] at d
  rw [d,aG,List.length_map]
  have c:∀ r∈gx b,pJ b r:=λ r g=>CK g
  rw [show hM (c8 b (hj b) 0)=gx b from rfl] at hl ⊢
  cases f:gx b with
  | nil=>rfl
  | cons r l =>
   rw [f] at hl c
   simp only [List.length_cons] at hl
   rw [show ((((r::l).length:Nat):Int) == 0)=false by simp; omega,a2]
   rw [Ke (w:=j0 b) l r (λ y j=>Bv a (c y j)) (by omega),aG]
   have e:=c _ (uS (j0 b) l r)
   rw [Bt a e,aG,Bv a e,aG]
 ·simp only [h,ne_eq,not_false_eq_true,if_true,iN h,bc]
def tA(b:aj)(k i:Int):Int × Int:=if dM b≠0 then (0,dM b) else if (nh b k && ng b i)=false then (0,6) else if bP b=[] then (0,9) else (hD ((bP b).filter λ c=>fW b c k.toNat i.toNat).length (bP b).length,0)
theorem Me{b:aj}(e:Small b)(k i:Int):jz b k i=some (tA b k i):=by
 have o:=e.hK
 have n:=e.vw
 unfold jz tA
 have j:l7 b k i=some (if (nh b k && ng b i)=false then 6 else 0):=by
  unfold l7
  rw [qu (m:=b.az.length) (by omega),aG,qu (m:=b.av.length) (by omega),aG,B7]
  have e1:nh b k=bL k 0 ((b.az.length:Int) - 1):=rfl
  have g:ng b i=bL i 0 ((b.av.length:Int) - 1):=rfl
  rw [e1,g]
  cases bL k 0 ((b.az.length:Int) - 1) <;> cases bL i 0 ((b.av.length:Int) - 1) <;> rfl
 rw [pb e (own:=if (nh b k && ng b i)=false then 6 else 0) (λ _=>j),aG]
 unfold mC eB
 by_cases h1:dM b=0
 ·have f:=iw.1 h1
  rw [if_neg (show ¬ dM b≠0 by simpa using h1),if_neg (show ¬ dM b≠0 by simpa using h1)]
  cases d:(nh b k && ng b i) with
  | false=>rfl
  | true =>
   rw [cM] at d
   obtain ⟨l,rfl,h⟩:=AD.1 d.1
   obtain ⟨i',rfl,hi⟩:=AB.1 d.2
   simp only [gQ,if_false,ne_eq,eK]
   by_cases a:bP b=[]
   ·rw [if_pos a,if_pos a]; rfl
   ·rw [if_neg a,if_neg a]
    simp only [eK,if_false,bne_self_eq_false,a2]
    rw [Br f (p:=λ c=>fW b c l i') (λ c a=>by unfold nm; rw [show (dI b).book=b from rfl,Bs f (jB.1 a).1.1 h hi]; rfl),aG,J2]
    rfl
 ·rw [if_pos h1,if_pos h1]
  simp only [h1,ne_eq,not_false_eq_true,if_true,iN h1,bc]
theorem CJ{b:aj}(a:Valid b){r:List (List Int)}:r∈gx b↔fA (mF b) r:=by
 rw [show gx b=hM (c8 b (hj b) 0) from rfl,Cb,NT a.m4]
theorem Bg{S O:Type}{body:S→Option (S ⊕ O)}(n:Nat)(I:Nat→S→Prop)(Q:O→Prop)(h:∀ i s,i < n→I i s→(∃ s',body s=some (.inl s')∧I (i+1) s')∨∃ o,body s=some (.inr o)∧Q o)(b:∀ s,I n s→∃ o,body s=some (.inr o)∧Q o) :
  ∀ (k i:Nat) (s:S),i+k=n→I i s→∃ o,a6 body s=some o∧Q o
 | 0,i,s,hi,a=>by
  obtain rfl:i=n:=by omega
  obtain ⟨o,h1,h2⟩:=b s a
  exact ⟨o,fF h1,h2⟩
 | k+1,i,s,hi,a=>by
  rcases h i s (by omega) a with ⟨s',h1,h2⟩ | ⟨o,h1,h2⟩
  ·obtain ⟨o,h3,h4⟩:=Bg n I Q h b k (i+1) s' (by omega) h2
   exact ⟨o,by rw [j1 h1,h3],h4⟩
  ·exact ⟨o,fF h1,h2⟩
structure mW (b:aj) (r:List (List Int)):Prop where
 len:r.length=b.av.length
 row:∀ i,i < b.av.length→((nth r i).length:Int)=(nth b.av i).az∧(nth r i).Pairwise (· < ·)∧∀ k∈nth r i,0≤k∧k < (b.az.length:Int)
theorem OD{b:aj}(c:Valid b){r:List (List Int)}(h:fA (mF b) r):mW b r:=⟨h.len,λ i hi=>by
 have h1:=nT.1 (h.qa i hi rfl)
 have hm:=(c.dv hi).hK
 have h2:(nth r i).length=(nth b.av i).az.toNat:=h1.1
 exact ⟨by omega,h1.2.1,λ k a=>⟨(h1.2.2 k a).1,(h1.2.2 k a).2.1⟩⟩⟩
theorem Mx{b:aj}(c:Valid b){r:List (List Int)}(h:mW b r):qS b r=some 0:=by
 have e:=c.m4
 have d:=c.d4
 have hl:=h.len
 unfold qS
 rw [show ((r.length:Int) != (b.av.length:Int))=false by simp [hl],a2]
 rw [oF (n:=r.length) (λ _=>true) (0:Int) (λ i hi=>?_) (by simp only [dh,a2])]
 ·rw [show ((List.range r.length).all λ _=>true)=true by simp]; rfl
 ·have a:i < b.av.length:=by omega
  obtain ⟨h1,h2,h3⟩:=h.row i a
  have f:=(c.dv a).hK
  simp only [dec_lt hi,bc,bM,a5 hi,a5 a,aG,show (((nth r i).length:Int) != (nth b.av i).az)=false by simp [h1],a2,Mt (l:=nth r i) (below:=(b.az.length:Int)) (by omega) (by omega) (by omega),ES h2 h3,bne_self_eq_false,bY (i:=i) (by omega),if_true]
def pq(b:aj)(r:List (List Int))(i:Nat):Bool:=(List.range i).all λ j=>fq b j i || !meet (nth r i) (nth r j)
def pr(b:aj)(r:List (List Int)):Bool:=(List.range b.av.length).all (pq b r)
def pO(b:aj)(c:List Int)(r:List (List Int)):Bool:=(List.range b.av.length).all λ i=>(nth r i).all λ k=>fW b c k.toNat i
def vZ(b:aj)(r:List (List Int)):Int:=if pr b r=true then hD ((bP b).filter λ c=>pO b c r).length (bP b).length else 2
theorem Il{b:aj}(n:Valid b)(m:bP b≠[]){r:List (List Int)}(h:mW b r):(vZ b r == 1)=true↔r∈gx b:=by
 rw [CJ n]
 unfold vZ
 have rest:pr b r=true↔∀ i j,i < b.av.length→j < i→fq b j i=true∨meet (nth r i) (nth r j)=false:=by
  unfold pr pq
  simp only [List.all_eq_true,List.mem_range,Bool.or_eq_true,Bool.not_eq_true']
  exact ⟨λ h i j hi d=>h i hi j d,λ h i hi j d=>h i j hi d⟩
 have allow:(∀ c∈bP b,pO b c r=true)↔∀ i,i < b.av.length→∀ k∈nth r i,hS b i k.toNat=true:=by
  unfold pO hS
  simp only [List.all_eq_true,List.mem_range]
  exact ⟨λ h i hi k a c f=>h c f i hi k a,λ h c f i hi k a=>h i hi k a c f⟩
 constructor
 ·intro e
  by_cases l:pr b r=true
  ·rw [if_pos l,sK m,decide_eq_true_eq] at e
   refine ⟨h.len,λ i _ ho=>(by cases ho),λ i hi _=>nT.2 ⟨?_,(h.row i hi).2.1,λ k a=>⟨((h.row i hi).2.2 k a).1,((h.row i hi).2.2 k a).2,(allow.1 e) i hi k a⟩⟩,λ i j hi d=>rest.1 l i j hi d⟩
   have h1:=(h.row i hi).1
   show (nth r i).length=(nth b.av i).az.toNat
   omega
  ·rw [if_neg l] at e
   cases e
 ·intro hi
  rw [if_pos (rest.2 λ i j g d=>hi.rest i j g d),sK m,decide_eq_true_eq]
  exact allow.2 λ i g k a=>((nT.1 (hi.qa i g rfl)).2.2 k a).2.2
theorem mW.rl{b:aj}(a:Valid b){r:List (List Int)}(h:mW b r):∀ i,i < b.av.length→(nth r i).length≤1000:=λ i hi=>by
 have h1:=(h.row i hi).1
 have h3:=(a.dv hi).hK
 omega
theorem OA{b:aj}(a:Valid b){r:List (List Int)}(h:r∈gx b):mW b r:=OD a ((CJ a).1 h)
end Go.Proofs.YtihapemckcdicaaGreatDoor
