/- Plain laws of chapter 5. Conditions: none. -/
import Derived.Test.YtihapemckcdicaaGreatDoorQWStP
import Derived.Test.YtihapemckcdicaaGreatDoorQWStC
import Derived.Test.YtihapemckcdicaaGreatDoorQWStM
namespace Go.Proofs.YtihapemckcdicaaGreatDoor
open Go.Lg Go.Proofs
set_option maxRecDepth 10000
theorem dn{α:Type}[BEq α][LawfulBEq α](a:α):(a != a)=false:=bne_self_eq_false a
theorem ek:(!true)=false:=rfl
theorem ew:(¬False)=True:=not_false_eq_true
def yz(x:Reach)(a c:Int):Bool:=decide (a≤x.cQ) && (decide (x.cQ≤x.dE) && decide (x.dE≤c))
def Db(x:Reach)(w:Int):Bool:=decide (x.dE - x.cQ < w)
theorem aRN{x:Reach}{a c:Int}(ha : -1000000≤a)(hc:c≤1000000)(h:yz x a c=true):i64 (x.dE - x.cQ)=x.dE - x.cQ:=by
 simp only [yz,jm,decide_eq_true_eq] at h
 exact fZ (by omega) (by omega)
theorem aPa{x:Reach}{a c:Int}:yz x a c=true↔a≤x.cQ∧x.cQ≤x.dE∧x.dE≤c:=by simp [yz]
theorem aRO{x:Reach}{w:Int}:Db x w=true↔x.dE - x.cQ < w:=by simp [Db]
def ta(x:Reach):List Int:=(List.range (x.dE+1 - x.cQ).toNat).map λ (j:Nat)=>x.cQ+(j:Int)
theorem aka{x:Reach}{n:Int}:n∈ta x↔x.cQ≤n∧n≤x.dE:=by
 simp only [ta,List.mem_map,List.mem_range]
 constructor
 ·rintro ⟨j,hj,rfl⟩; omega
 ·intro h; exact ⟨(n - x.cQ).toNat,by omega,by omega⟩
theorem acE{x:Reach}(h:x.dE - x.cQ < 3):(ta x).length≤3:=by simp [ta]; omega
instance:Inhabited gj:=⟨⟨0,0⟩⟩
instance:Inhabited Reach:=⟨⟨0,0⟩⟩
instance:Inhabited fK:=⟨⟨⟨#[]⟩,0⟩⟩
instance:Inhabited nu:=⟨⟨0,0,0,0⟩⟩
instance:Inhabited fg:=⟨⟨0,0,false⟩⟩
instance:Inhabited bH:=⟨⟨[0,0,0]⟩⟩
theorem yo(n a c:Int):kZ n a c=some (cS n a c):=by
 unfold kZ cS
 cases decide (a≤n) <;> rfl
theorem pN(n a c:Int):lP n a c=some (cS n a c):=by
 unfold lP cS
 cases decide (a≤n) <;> rfl
theorem aL9(x:Reach)(a c:Int):Nn x a c=some (yz x a c):=by
 unfold Nn yz
 cases decide (a≤x.cQ) <;> cases decide (x.cQ≤x.dE) <;> rfl
theorem aM2{x:Reach}{a c w:Int}(ha : -1000000≤a)(hc:c≤1000000):Fc x a c w=some (yz x a c && Db x w):=by
 unfold Fc yz Db
 by_cases h1:a≤x.cQ
 ·by_cases h2:x.cQ≤x.dE
  ·by_cases h3:x.dE≤c
   ·simp [h1,h2,h3,fZ (z:=x.dE - x.cQ) (by omega) (by omega)]
   ·simp [h1,h2,h3]
  ·simp [h1,h2]
 ·simp [h1]
theorem VV{α:Type}[Inhabited α]{l:List α}{f:α→Option Bool}{p:α→Bool}(hl:l.length≤1000)(hf:∀ x∈l,f x=some (p x)):((bD (O:=(Unit ⊕ Int)) (λ (b:Int) =>
 ae (decide (b < (l.length:Int)))
 ((idx l b).bind λ c =>
 (f c).bind λ g =>
 ae g
 (some (.inr (.inr b)))
 (some (.inl (i64 (b+1)))))
 (some (.inr (.inl ())))) 0).bind (Sum.elim (λ (_:Unit) =>
 some (-1))
  (λ q=>some q))).bind (λ df=>some (decide (df ≥ 0)))=some (l.any p):=by
 rw [rL (λ i=>if p (nth l i) then some (i:Int) else none) l.length (d:=(-1)) (λ i hi=>?_) (by simp only [fj,bu]) rfl]
 ·rw [aM,auP p l]
 ·simp only [dec_lt hi,bF,cF,bE hi,aM,hf _ (ib hi),cR (i:=i) (by omega)]
  cases p (nth l i) <;> rfl
theorem aMZ{l:List Reach}{f:Reach→Option Bool}{p:Reach→Bool}(hl:l.length≤1000)(hf:∀ x∈l,f x=some (p x)):Iq l f=some (l.any p):=VV hl hf
theorem aM6{l:List fK}{f:fK→Option Bool}{p:fK→Bool}(hl:l.length≤1000)(hf:∀ x∈l,f x=some (p x)):Ir l f=some (l.any p):=VV hl hf
theorem aMd{l:List fg}{f:fg→Option Bool}{p:fg→Bool}(hl:l.length≤1000)(hf:∀ x∈l,f x=some (p x)):Im l f=some (l.any p):=VV hl hf
theorem aNr{l:List Int}{n:Int}(hl:l.length≤1000):ND l n=some (l.contains n):=by
 unfold ND
 refine (rL (λ i=>if (nth l i == n) then some true else none) l.length (d:=false) (λ i hi=>?_) (by simp only [fj,bu]) rfl).trans ?_
 ·simp only [dec_lt hi,bF,cF,bE hi,aM,cR (i:=i) (by omega)]
  cases nth l i == n <;> rfl
 ·rw [Qd (λ x=>x == n) l]
  rw [apN]
structure Small (b:an):Prop where
 rows:b.Rows.length≤20
 places:b.aQ.length≤20
 sV:b.aB.length≤20
 PO:b.aA.length≤20
 aP7:b.bh.length≤20
 each:∀ p∈b.aB,p.Name.size≤100
def KU(b:an):Bool :=
 decide (20 < b.Rows.length) || (decide (20 < b.aQ.length) || (decide (20 < b.aB.length) || (decide (20 < b.aA.length) || (decide (20 < b.bh.length) || b.aB.any λ p=>decide (100 < p.Name.size)))))
theorem xr{n m:Nat}:decide ((n:Int) > (m:Int))=decide (m < n):=by
 by_cases h:m < n <;> simp [h]
theorem aMh(b:an):Np b=some (KU b):=by
 unfold Np KU
 have e1:decide ((b.Rows.length:Int) > 20)=decide (20 < b.Rows.length):=xr (m:=20)
 have e2:decide ((b.aQ.length:Int) > 20)=decide (20 < b.aQ.length):=xr (m:=20)
 have e3:decide ((b.aB.length:Int) > 20)=decide (20 < b.aB.length):=xr (m:=20)
 have c:decide ((b.aA.length:Int) > 20)=decide (20 < b.aA.length):=xr (m:=20)
 have f:decide ((b.bh.length:Int) > 20)=decide (20 < b.bh.length):=xr (m:=20)
 rw [e1,e2,e3,c,f]
 by_cases h1:20 < b.Rows.length
 ·simp [h1]
 by_cases h2:20 < b.aQ.length
 ·simp [h1,h2]
 by_cases h3:20 < b.aB.length
 ·simp [h1,h2,h3]
 by_cases h4:20 < b.aA.length
 ·simp [h1,h2,h3,h4]
 by_cases h5:20 < b.bh.length
 ·simp [h1,h2,h3,h4,h5]
 simp only [h1,h2,h3,h4,h5,decide_false,bu,aM,Bool.false_or]
 rw [rL (λ i=>if decide (100 < (nth b.aB i).Name.size) then some true else none) b.aB.length (d:=false) (λ i hi=>?_) (by simp only [fj,bu]) rfl]
 ·rw [Qd (λ p:fK=>decide (100 < p.Name.size)) b.aB]
 ·have f1:decide (((nth b.aB i).Name.size:Int) > 100)=decide (100 < (nth b.aB i).Name.size):=xr (m:=100)
  simp only [dec_lt hi,bF,cF,bE hi,aM,f1,cR (i:=i) (by omega)]
  cases decide (100 < (nth b.aB i).Name.size) <;> rfl
theorem auZ{b:an}(h:KU b=false):Small b:=by
 simp only [KU,Bool.or_eq_false_iff,decide_eq_false_iff_not,List.any_eq_false,decide_eq_true_eq] at h
 obtain ⟨h1,h2,h3,h4,h5,h6⟩:=h
 exact ⟨by omega,by omega,by omega,by omega,by omega,λ p hp=>by have:=h6 p hp; omega⟩
theorem ajI{n:Int}(h1:0≤n)(h2:n < 256):E2 n=some (isLet n):=by unfold E2 isLet; rw [fZ (by omega) (by omega),pN]; rfl
theorem aMk{n:Int}(h1:0≤n)(h2:n < 256):Io n=some (zI n):=by unfold Io zI; rw [fZ (by omega) (by omega),pN]; rfl
theorem aMb{s:ByteArray}(hs:s.size≤1000):No s=some (qs s):=by
 unfold No qs
 rw [pN,aM]
 cases hb:cS (s.size:Int) 1 12 with
 | false =>
  simp only [Bool.not_false,bF,aM]
  congr 1
  cases hf:eg (oX s) 0 s.size with
  | none=>rfl
  | some o=>rw [aiZ hf]; rfl
 | true =>
  have h1:1≤s.size:=by
   simp only [cS,jm,decide_eq_true_eq] at hb
   omega
  have m:0 < (iC s).length:=by rw [S9]; omega
  obtain ⟨g1,g2⟩:=alD (s:=s) (i:=0) (by omega)
  have c:wU s 0=some (nth (iC s) 0):=by unfold wU; rw [← bE m]; exact cF _ 0
  simp only [ek,bu,c,aM,ajI g1 g2]
  have hu:eg (oX s) 0 s.size=match oX s 0 with | some o=>some o | none=>eg (oX s) 1 (s.size - 1):=by
   obtain ⟨k,hk⟩:∃ k,s.size=k+1:=⟨s.size - 1,by omega⟩
   rw [hk]
   simp only [eg,Nat.add_sub_cancel,Nat.zero_add]
   cases oX s 0 <;> rfl
  rw [hu]
  unfold oX
  cases hl:isLet (nth (iC s) 0) with
  | false=>rfl
  | true =>
   simp only [ek,bu,nU,if_false]
   have e2:=search (body:=λ (b:Int) =>
    ae (decide (b < (s.size:Int)))
    ((wU s b).bind λ p =>
    (E2 p).bind λ j =>
    ae (!j)
    ((wU s b).bind λ f =>
    (Io f).bind λ q =>
    ae (!q)
    (some (.inr (.inr false)))
    (some (.inl (i64 (b+1)))))
    (some (.inl (i64 (b+1)))))
    (some (.inr (.inl ())))) (oX s) 1 s.size (d:=true) (g:=λ _=>some true) (λ i hi1 hi=>?_) (by simp only [fj,bu]) h1 rfl
   ·exact e2
   ·have n:i < (iC s).length:=by rw [S9]; exact hi
    obtain ⟨k1,k2⟩:=alD hi
    have hsi:wU s (i:Int)=some (nth (iC s) i):=by unfold wU; rw [← bE n]; exact cF _ i
    simp only [dec_lt hi,bF,hsi,aM,ajI k1 k2,aMk k1 k2,cR (i:=i) (by omega)]
    have h0:i≠0:=by omega
    unfold oX
    cases isLet (nth (iC s) i) with
    | true=>rfl
    | false =>
     simp only [Bool.not_false,bF,h0,if_false,if_true]
     cases zI (nth (iC s) i) <;> rfl
theorem aM4(s:ByteArray):Nw s=some (qs s):=rfl
def As(b:an)(i:Nat):Option Int :=
 if (cS (nth b.Rows i).eX 1 30 && cS (nth b.Rows i).fG 1 60)=false then some 1
 else if 0 < i then (if (nth b.Rows i).eX≤(nth b.Rows (i - 1)).eX then some 7 else if (nth b.Rows i).fG > (nth b.Rows (i - 1)).fG then some 7 else none) else none
def uC(b:an):Int:=if cS (b.Rows.length:Int) 1 4=false then 2 else (eg (As b) 0 b.Rows.length).getD 0
def wC(x:Reach):Bool:=yz x 1 30 && Db x 3
def s8(b:an):Int:=if cS (b.aQ.length:Int) 1 3=false then 2 else if b.aQ.any (λ x=>!wC x)=true then 1 else 0
def Ax(p q:fK):Bool:=q.Name.toList == p.Name.toList
def yr(b:an)(i:Nat):Option Int :=
 if qs (nth b.aB i).Name=false then some 4 else if (b.aB.take i).any (Ax (nth b.aB i))=true then some 5 else if cS (nth b.aB i).oC 1 30=false then some 1 else none
def uo(b:an):Int:=if cS (b.aB.length:Int) 1 4=false then 2 else (eg (yr b) 0 b.aB.length).getD 0
def ou(b:an)(n:Int):Bool:=cS n 0 ((b.aQ.length:Int) - 1)
def vm(b:an)(i:Nat):Option Int :=
 if ou b (nth b.aA i).Place=false then some 6 else if (cS (nth b.aA i).gM 0 200 && (cS (nth b.aA i).gZ 1 60 && cS (nth b.aA i).aB 1 3))=false then some 1 else none
def xt(b:an):Int:=if cS (b.aA.length:Int) 1 4=false then 2 else (eg (vm b) 0 b.aA.length).getD 0
def Az(b:an)(i:Nat):Option Int :=
 if ou b (nth b.bh i).Place=false then some 6 else if cS (nth b.bh i).mg 0 30=false then some 1 else none
def C7(b:an):Int:=if 3 < b.bh.length then 2 else (eg (Az b) 0 b.bh.length).getD 0
def gl(b:an):Int:=if cS b.Rest 0 60=false then 1 else if uC b≠0 then uC b else if s8 b≠0 then s8 b else if uo b≠0 then uo b else if xt b≠0 then xt b else C7 b
theorem EU{n:Int}{m:Nat}(hm:m≤1000):qu n (m:Int)=some (if cS n 0 ((m:Int) - 1)=false then 6 else 0):=by
 unfold qu
 rw [yo,aM,fZ (by omega) (by omega)]
 cases cS n 0 ((m:Int) - 1) <;> rfl
theorem aMN{b:an}(h:Small b):E6 b=some (uC b):=by
 unfold E6 uC
 have hr:=h.rows
 rw [yo,aM]
 cases cS (b.Rows.length:Int) 1 4 with
 | false=>rfl
 | true =>
  simp only [ek,bu,nU,if_false]
  refine rL (As b) b.Rows.length (λ i hi=>?_) (by simp only [fj,bu]) rfl
  simp only [dec_lt hi,bF,cF,bE hi,aM,yo,cR (i:=i) (by omega)]
  unfold As
  cases cS (nth b.Rows i).eX 1 30 with
  | false=>rfl
  | true =>
   cases cS (nth b.Rows i).fG 1 60 with
   | false=>rfl
   | true =>
    by_cases hp:0 < i
    ·simp only [G7 hp,ek,bu,bF,kE (i:=i) (by omega) hp,cF,bE (show i - 1 < b.Rows.length by omega),aM,hp,if_true,Bool.and_self,nU,if_false]
     by_cases hc:(nth b.Rows i).eX≤(nth b.Rows (i - 1)).eX
     ·simp [hc]
     ·by_cases hd:(nth b.Rows i).fG > (nth b.Rows (i - 1)).fG
      ·simp [hc,hd]
      ·simp [hc,hd]
    ·simp [hp]
theorem aLF{b:an}(h:Small b):Ng b=some (if cS b.Rest 0 60=false then 1 else uC b):=by
 unfold Ng uC
 have hr:=h.rows
 rw [pN,aM]
 cases cS b.Rest 0 60 with
 | false=>rfl
 | true =>
 simp only [ek,bu,nU,if_false]
 rw [pN,aM]
 cases cS (b.Rows.length:Int) 1 4 with
 | false=>rfl
 | true =>
  simp only [ek,bu,nU,if_false]
  refine rL (As b) b.Rows.length (λ i hi=>?_) (by simp only [fj,bu]) rfl
  simp only [dec_lt hi,bF,cF,bE hi,aM,pN,cR (i:=i) (by omega)]
  unfold As
  cases cS (nth b.Rows i).eX 1 30 with
  | false=>rfl
  | true =>
   cases cS (nth b.Rows i).fG 1 60 with
   | false=>rfl
   | true =>
    by_cases hp:0 < i
    ·simp only [G7 hp,ek,bu,bF,kE (i:=i) (by omega) hp,cF,bE (show i - 1 < b.Rows.length by omega),aM,hp,if_true,Bool.and_self,nU,if_false]
     by_cases hc:(nth b.Rows i).eX≤(nth b.Rows (i - 1)).eX
     ·simp [hc]
     ·by_cases hd:(nth b.Rows i).fG > (nth b.Rows (i - 1)).fG
      ·simp [hc,hd]
      ·simp [hc,hd]
    ·simp [hp]
theorem aMP{b:an}(h:Small b):E7 b=some (s8 b):=by
 unfold E7 s8
 rw [yo,aM]
 cases cS (b.aQ.length:Int) 1 3 with
 | false=>rfl
 | true =>
  have hp:=h.places
  simp only [ek,bu,nU,if_false]
  rw [aMZ (p:=λ x=>!wC x) (by omega) (λ x _=>by unfold Fb wC; rw [aM2 (by omega) (by omega)]; rfl),aM]
  cases b.aQ.any λ x=>!wC x <;> rfl
theorem aMR{b:an}(h:Small b):E8 b=some (uo b):=by
 unfold E8 uo
 rw [yo,aM]
 cases cS (b.aB.length:Int) 1 4 with
 | false=>rfl
 | true =>
  have hp:=h.sV
  simp only [ek,bu,nU,if_false]
  refine rL (yr b) b.aB.length (λ i hi=>?_) (by simp only [fj,bu]) rfl
  simp only [dec_lt hi,bF,cF,bE hi,aM,aM4,VW (show i≤b.aB.length by omega),yo,
   aM6 (l:=b.aB.take i) (f:=λ y=>Fe y (nth b.aB i)) (p:=Ax (nth b.aB i)) (by simp; omega) (λ x _=>rfl),cR (i:=i) (by omega)]
  unfold yr
  cases qs (nth b.aB i).Name with
  | false=>rfl
  | true =>
   cases (b.aB.take i).any (Ax (nth b.aB i)) with
   | true=>rfl
   | false=>cases cS (nth b.aB i).oC 1 30 <;> rfl
theorem aLH{b:an}(h:Small b):Nh b=some (if s8 b≠0 then s8 b else uo b):=by
 unfold Nh s8
 rw [pN,aM]
 cases cS (b.aQ.length:Int) 1 3 with
 | false=>rfl
 | true =>
  have hp:=h.places
  simp only [ek,bu,nU,if_false]
  rw [S0 (λ i=>if (λ x=>!wC x) (nth b.aQ i) then some (1:Int) else none) b.aQ.length (λ i hi=>?_) (by simp only [fj,bu])]
  ·rw [ahu (λ x=>!wC x) (1:Int) b.aQ b.aQ.length (dD _),List.take_length]
   cases b.aQ.any λ x=>!wC x with
   | true=>rfl
   | false =>
    simp only [oA,if_false,aM,Sum.elim_inl,ne_eq,jo]
    unfold uo
    rw [pN,aM]
    cases cS (b.aB.length:Int) 1 4 with
    | false=>rfl
    | true =>
     have hm:=h.sV
     simp only [ek,bu,nU,if_false]
     refine rL (yr b) b.aB.length (λ i hi=>?_) (by simp only [fj,bu]) rfl
     have hn:=h.each _ (ib hi)
     simp only [dec_lt hi,bF,cF,bE hi,aM,aMb (show (nth b.aB i).Name.size≤1000 by omega)]
     rw [S0 (λ k=>if Ax (nth b.aB i) (nth b.aB k) then some (5:Int) else none) i (λ k hk=>?_) (by simp only [fj,bu])]
     ·rw [ahu (Ax (nth b.aB i)) (5:Int) b.aB i (by omega)]
      simp only [pN,aM,cR (i:=i) (by omega)]
      unfold yr
      cases qs (nth b.aB i).Name with
      | false=>rfl
      | true =>
       cases (b.aB.take i).any (Ax (nth b.aB i)) with
       | true=>rfl
       | false=>cases cS (nth b.aB i).oC 1 30 <;> rfl
     ·simp only [dec_lt hk,bF,cF,bE (show k < b.aB.length by omega),aM,cR (i:=k) (by omega)]
      rw [show ((nth b.aB k).Name.toList == (nth b.aB i).Name.toList)=Ax (nth b.aB i) (nth b.aB k) from rfl]
      cases Ax (nth b.aB i) (nth b.aB k) <;> rfl
  ·simp only [dec_lt hi,bF,cF,bE hi,aM,aL9,cR (i:=i) (by omega)]
   unfold wC
   by_cases hr:yz (nth b.aQ i) 1 30=true
   ·have hw:decide (i64 ((nth b.aQ i).dE - (nth b.aQ i).cQ) ≥ 3)=!Db (nth b.aQ i) 3:=by
     rw [aRN (by omega) (by omega) hr]
     unfold Db
     by_cases hx:(nth b.aQ i).dE - (nth b.aQ i).cQ < 3
     ·simp [hx]
     ·simp [hx]; omega
    rw [hw]
    by_cases hx:Db (nth b.aQ i) 3=true
    ·simp [hr,hx,bu]
    ·simp [hr,hx,bu,bF]
   ·simp [hr,bF]
theorem aMT{b:an}(h:Small b):E9 b=some (xt b):=by
 unfold E9 xt
 rw [yo,aM]
 cases cS (b.aA.length:Int) 1 4 with
 | false=>rfl
 | true =>
  have hp:=h.places
  have hd:=h.PO
  simp only [ek,bu,nU,if_false]
  refine rL (vm b) b.aA.length (λ i hi=>?_) (by simp only [fj,bu]) rfl
  simp only [dec_lt hi,bF,cF,bE hi,aM,EU (show b.aQ.length≤1000 by omega),yo,cR (i:=i) (by omega)]
  unfold vm ou
  cases cS (nth b.aA i).Place 0 ((b.aQ.length:Int) - 1) with
  | false=>rfl
  | true=>cases cS (nth b.aA i).gM 0 200 <;> cases cS (nth b.aA i).gZ 1 60 <;> cases cS (nth b.aA i).aB 1 3 <;> rfl
theorem aMX{b:an}(h:Small b):Fa b=some (C7 b):=by
 unfold Fa C7
 have e:decide ((b.bh.length:Int) > 3)=decide (3 < b.bh.length):=xr (m:=3)
 rw [e]
 by_cases h3:3 < b.bh.length
 ·simp [h3]
 have hp:=h.places
 simp only [h3,decide_false,bu,if_false]
 refine rL (Az b) b.bh.length (λ i hi=>?_) (by simp only [fj,bu]) rfl
 simp only [dec_lt hi,bF,cF,bE hi,aM,EU (show b.aQ.length≤1000 by omega),yo,cR (i:=i) (by omega)]
 unfold Az ou
 cases cS (nth b.bh i).Place 0 ((b.aQ.length:Int) - 1) with
 | false=>rfl
 | true=>cases cS (nth b.bh i).mg 0 30 <;> rfl
theorem ake{z:Int}{a c:Option Int}:ae (z != 0) a c=if z≠0 then a else c:=by
 by_cases h:z=0
 ·subst h; rfl
 ·rw [if_pos h,my h]; rfl
theorem ab0{b:an}(h:Small b):rE b=some (gl b):=by
 unfold rE gl
 rw [show (⟨b.Rest,b.Rows,b.aQ,b.aB,b.aA,b.bh⟩:an)=b from rfl]
 unfold Ip
 rw [yo,aM]
 cases cS b.Rest 0 60 with
 | false=>rfl
 | true =>
  simp only [ek,bu,aM,aMN h,aMP h,aMR h,aMT h,aMX h,ake,nU,if_false]
  by_cases h1:uC b=0
  ·by_cases h2:s8 b=0
   ·by_cases h3:uo b=0
    ·by_cases h4:xt b=0
     ·by_cases h5:C7 b=0
      ·simp [h1,h2,h3,h4,h5]
      ·simp [h1,h2,h3,h4,h5]
     ·simp [h1,h2,h3,h4]
    ·simp [h1,h2,h3]
   ·simp [h1,h2]
  ·simp [h1]
theorem RU{b:an}{n:Int}(h:Small b):Cg b n=some (ou b n):=by
 unfold Cg ou
 have hp:=h.places
 rw [pN,fZ (by omega) (by omega)]
 rfl
theorem abY{b:an}(h:Small b):Fl b=some (gl b):=by
 unfold Fl gl
 rw [aLF h,aM]
 cases cS b.Rest 0 60 with
 | false=>rfl
 | true =>
  have hp:=h.places
  have hd:=h.PO
  have hs:=h.aP7
  simp only [nU,if_false,aLH h,aM,ake]
  by_cases h1:uC b=0
  ·by_cases h2:s8 b=0
   ·by_cases h3:uo b=0
    ·simp only [h1,h2,h3,ne_eq,jo,if_false]
     unfold xt
     rw [pN,aM]
     cases cS (b.aA.length:Int) 1 4 with
     | false=>rfl
     | true =>
      simp only [ek,bu,nU,if_false]
      rw [S0 (vm b) b.aA.length (λ i hi=>?_) (by simp only [fj,bu])]
      ·cases hf:eg (vm b) 0 b.aA.length with
       | some o =>
        simp only [aM,Sum.elim_inr,nm]
        rw [if_pos]
        rintro rfl
        obtain ⟨j,_,_,he,_⟩:=r8 hf
        unfold vm at he
        split at he
        ·cases he
        ·split at he <;> cases he
       | none =>
        simp only [aM,Sum.elim_inl,Option.getD_none,jo,if_false]
        unfold C7
        have e:decide ((b.bh.length:Int) > 3)=decide (3 < b.bh.length):=xr (m:=3)
        rw [e]
        by_cases h3:3 < b.bh.length
        ·simp [h3]
        simp only [h3,decide_false,bu,if_false]
        refine rL (Az b) b.bh.length (λ i hi=>?_) (by simp only [fj,bu]) rfl
        simp only [dec_lt hi,bF,cF,bE hi,aM,RU h,pN,cR (i:=i) (by omega)]
        unfold Az
        cases ou b (nth b.bh i).Place with
        | false=>rfl
        | true=>cases cS (nth b.bh i).mg 0 30 <;> rfl
      ·simp only [dec_lt hi,bF,cF,bE hi,aM,RU h,pN,cR (i:=i) (by omega)]
       unfold vm
       cases ou b (nth b.aA i).Place with
       | false=>rfl
       | true=>cases cS (nth b.aA i).gM 0 200 <;> cases cS (nth b.aA i).gZ 1 60 <;> cases cS (nth b.aA i).aB 1 3 <;> rfl
    ·simp [h1,h2,h3]
   ·simp [h1,h2]
  ·simp [h1]
structure aoN (r:gj):Prop where
 depth:1≤r.eX∧r.eX≤30
 stay:1≤r.fG∧r.fG≤60
structure ad2 (P:Nat) (d:nu):Prop where
 place:0≤d.Place∧d.Place < (P:Int)
 Ko:0≤d.gM∧d.gM≤200
 Jh:1≤d.gZ∧d.gZ≤60
 sV:1≤d.aB∧d.aB≤3
structure aoV (P:Nat) (s:fg):Prop where
 place:0≤s.Place∧s.Place < (P:Int)
 line:0≤s.mg∧s.mg≤30
structure Valid (b:an):Prop where
 rest:0≤b.Rest∧b.Rest≤60
 r1:1≤b.Rows.length
 r4:b.Rows.length≤4
 row:∀ r∈b.Rows,aoN r
 aqS:∀ i,0 < i→i < b.Rows.length→(nth b.Rows (i - 1)).eX < (nth b.Rows i).eX∧(nth b.Rows i).fG≤(nth b.Rows (i - 1)).fG
 p1:1≤b.aQ.length
 p3:b.aQ.length≤3
 place:∀ x∈b.aQ,1≤x.cQ∧x.cQ≤x.dE∧x.dE≤30∧x.dE - x.cQ < 3
 m1:1≤b.aB.length
 m4:b.aB.length≤4
 man:∀ m∈b.aB,qs m.Name=true∧1≤m.oC∧m.oC≤30
 names:∀ i,i < b.aB.length→(b.aB.take i).any (Ax (nth b.aB i))=false
 d1:1≤b.aA.length
 d4:b.aA.length≤4
 agb:∀ d∈b.aA,ad2 b.aQ.length d
 s3:b.bh.length≤3
 sound:∀ s∈b.bh,aoV b.aQ.length s
theorem aPI{b:an}(i:Nat):As b i≠some 0:=by
 unfold As
 intro h
 repeat' split at h
 all_goals cases h
theorem aNG{b:an}(i:Nat):yr b i≠some 0:=by
 unfold yr
 intro h
 repeat' split at h
 all_goals cases h
theorem aq9{b:an}(i:Nat):vm b i≠some 0:=by
 unfold vm
 intro h
 repeat' split at h
 all_goals cases h
theorem aP6{b:an}(i:Nat):Az b i≠some 0:=by
 unfold Az
 intro h
 repeat' split at h
 all_goals cases h
theorem acG{b:an}{i:Nat}:As b i=none↔((1≤(nth b.Rows i).eX∧(nth b.Rows i).eX≤30)∧(1≤(nth b.Rows i).fG∧(nth b.Rows i).fG≤60))∧(0 < i→(nth b.Rows (i - 1)).eX < (nth b.Rows i).eX∧(nth b.Rows i).fG≤(nth b.Rows (i - 1)).fG):=by
 unfold As
 by_cases h1:(cS (nth b.Rows i).eX 1 30 && cS (nth b.Rows i).fG 1 60)=false
 ·rw [if_pos h1]
  simp only [reduceCtorEq,false_iff]
  rintro ⟨⟨h2,h3⟩,_⟩
  rw [iV.2 h2,iV.2 h3] at h1
  cases h1
 ·rw [if_neg h1]
  simp only [Bool.not_eq_false,jm,iV] at h1
  by_cases h0:0 < i
  ·rw [if_pos h0]
   constructor
   ·intro h
    split at h
    ·cases h
    ·split at h
     ·cases h
     ·exact ⟨h1,λ _=>by omega⟩
   ·rintro ⟨_,h2⟩
    have:=h2 h0
    rw [if_neg (by omega),if_neg (by omega)]
  ·rw [if_neg h0]
   exact ⟨λ _=>⟨h1,λ h=>absurd h h0⟩,λ _=>rfl⟩
theorem akn{x:Reach}:wC x=true↔1≤x.cQ∧x.cQ≤x.dE∧x.dE≤30∧x.dE - x.cQ < 3:=by
 unfold wC
 rw [jm,aPa,aRO]
 omega
theorem tn{b:an}:gl b=0↔Valid b:=by
 constructor
 ·intro h
  unfold gl at h
  by_cases h1:cS b.Rest 0 60=false
  ·rw [if_pos h1] at h; cases h
  rw [if_neg h1] at h
  by_cases h2:uC b=0
  case neg=>rw [if_pos h2] at h; exact absurd h h2
  rw [if_neg (by simpa using h2)] at h
  by_cases h3:s8 b=0
  case neg=>rw [if_pos h3] at h; exact absurd h h3
  rw [if_neg (by simpa using h3)] at h
  by_cases h4:uo b=0
  case neg=>rw [if_pos h4] at h; exact absurd h h4
  rw [if_neg (by simpa using h4)] at h
  by_cases h5:xt b=0
  case neg=>rw [if_pos h5] at h; exact absurd h h5
  rw [if_neg (by simpa using h5)] at h
  unfold uC at h2
  unfold s8 at h3
  unfold uo at h4
  unfold xt at h5
  unfold C7 at h
  split at h2
  ·cases h2
  rename_i g2
  split at h3
  ·cases h3
  rename_i g3
  split at h3
  ·cases h3
  rename_i k3
  split at h4
  ·cases h4
  rename_i g4
  split at h5
  ·cases h5
  rename_i k
  split at h
  ·cases h
  rename_i n
  simp only [Bool.not_eq_false,iV] at h1 g2 g3 g4 k
  have r:=KS aPI h2
  have m:=KS aNG h4
  have d:=KS aq9 h5
  have s:=KS aP6 h
  refine ⟨h1,by omega,by omega,λ x hx=>?_,λ i h0 hi=>(acG.1 (r i hi)).2 h0,by omega,by omega,λ x hx=>?_,by omega,by omega,λ x hx=>?_,λ i hi=>?_,by omega,by omega,λ x hx=>?_,by omega,λ x hx=>?_⟩
  ·obtain ⟨i,hi,rfl⟩:=wA hx
   obtain ⟨⟨q1,c⟩,_⟩:=acG.1 (r i hi)
   exact ⟨q1,c⟩
  ·have:b.aQ.any (λ x=>!wC x)=false:=by simpa using k3
   rw [List.any_eq_false] at this
   have:=this x hx
   exact akn.1 (by simpa using this)
  ·obtain ⟨i,hi,rfl⟩:=wA hx
   have:=m i hi
   unfold yr at this
   split at this
   ·cases this
   ·split at this
    ·cases this
    ·split at this
     ·cases this
     ·rename_i q1 c f
      rw [Bool.not_eq_false,iV] at f
      exact ⟨by simpa using q1,f⟩
  ·have:=m i hi
   unfold yr at this
   split at this
   ·cases this
   ·split at this
    ·cases this
    ·rename_i q1 c
     simpa using c
  ·obtain ⟨i,hi,rfl⟩:=wA hx
   have:=d i hi
   unfold vm ou at this
   split at this
   ·cases this
   ·split at this
    ·cases this
    ·rename_i q1 c
     rw [Bool.not_eq_false,iV] at q1
     rw [Bool.not_eq_false,jm,jm,iV,iV,iV] at c
     exact ⟨by omega,c.1,c.2.1,c.2.2⟩
  ·obtain ⟨i,hi,rfl⟩:=wA hx
   have:=s i hi
   unfold Az ou at this
   split at this
   ·cases this
   ·split at this
    ·cases this
    ·rename_i q1 c
     rw [Bool.not_eq_false,iV] at q1 c
     exact ⟨by omega,c⟩
 ·intro h
  have e1:uC b=0:=by
   unfold uC
   have o:=h.r1
   have p:=h.r4
   rw [if_neg (by rw [Bool.not_eq_false,iV]; omega),nX.2 λ i _ hi=>?_]
   ·rfl
   ·have hx:=h.row _ (ib (l:=b.Rows) (i:=i) (by omega))
    exact acG.2 ⟨⟨hx.depth,hx.stay⟩,λ h0=>h.aqS i h0 (by omega)⟩
  have e2:s8 b=0:=by
   unfold s8
   have h1:=h.p1
   have h3:=h.p3
   rw [if_neg (by rw [Bool.not_eq_false,iV]; omega),if_neg]
   rw [Bool.not_eq_true,List.any_eq_false]
   intro x hx
   simpa using akn.2 (h.place x hx)
  have e3:uo b=0:=by
   unfold uo
   have h1:=h.m1
   have h4:=h.m4
   rw [if_neg (by rw [Bool.not_eq_false,iV]; omega),nX.2 λ i _ hi=>?_]
   ·rfl
   ·have hx:=h.man _ (ib (l:=b.aB) (i:=i) (by omega))
    unfold yr
    rw [if_neg (by simp [hx.1]),if_neg (by rw [h.names i (by omega)]; simp),if_neg (by rw [Bool.not_eq_false,iV]; exact hx.2)]
  have g:xt b=0:=by
   unfold xt
   have h1:=h.d1
   have h4:=h.d4
   rw [if_neg (by rw [Bool.not_eq_false,iV]; omega),nX.2 λ i _ hi=>?_]
   ·rfl
   ·have hx:=h.agb _ (ib (l:=b.aA) (i:=i) (by omega))
    have hp:=hx.place
    unfold vm ou
    rw [if_neg (by rw [Bool.not_eq_false,iV]; omega),if_neg]
    rw [Bool.not_eq_false,jm,jm,iV,iV,iV]
    exact ⟨hx.Ko,hx.Jh,hx.sV⟩
  have j:C7 b=0:=by
   unfold C7
   have h3:=h.s3
   rw [if_neg (by omega),nX.2 λ i _ hi=>?_]
   ·rfl
   ·have hx:=h.sound _ (ib (l:=b.bh) (i:=i) (by omega))
    have hp:=hx.place
    unfold Az ou
    rw [if_neg (by rw [Bool.not_eq_false,iV]; omega),if_neg (by rw [Bool.not_eq_false,iV]; exact hx.line)]
  unfold gl
  rw [if_neg (by rw [Bool.not_eq_false,iV]; exact h.rest)]
  simp [e1,e2,e3,g,j]
theorem Valid.small{b:an}(h:Valid b)(hn:∀ p∈b.aB,p.Name.size≤100):Small b:=by
 have h1:=h.r4
 have h2:=h.p3
 have h3:=h.m4
 have h4:=h.d4
 have h5:=h.s3
 exact ⟨by omega,by omega,by omega,by omega,by omega,hn⟩
theorem aJT{s:ByteArray}(h:qs s=true):s.size≤12:=by
 unfold qs at h
 cases hf:eg (oX s) 0 s.size with
 | some o =>
  rw [hf,nm] at h
  rw [aiZ hf] at h
  cases h
 | none =>
  rw [hf,Option.getD_none,iV] at h
  omega
theorem Valid.sm{b:an}(h:Valid b):Small b:=h.small λ p hp=>by have:=aJT (h.man p hp).1; omega
theorem Valid.each{b:an}(h:Valid b){i:Nat}(hi:i < b.aQ.length):1≤(nth b.aQ i).cQ∧(nth b.aQ i).cQ≤(nth b.aQ i).dE∧(nth b.aQ i).dE≤30∧(nth b.aQ i).dE - (nth b.aQ i).cQ < 3:=h.place _ (ib hi)
theorem abl{α:Type}[Inhabited α]{l:List α}{n:Int}(h0:0≤n)(h:n < (l.length:Int)):idx l n=some (nth l n.toNat):=by
 unfold idx
 rw [if_pos h0]
 exact bE (by omega)
def wH(b:an)(w:List Int):Bool:=b.bh.all λ s=>decide (nth w s.Place.toNat≤s.mg) == s.tC
abbrev kS(b:an):Nat→List Int→List Int:=λ i _=>ta (nth b.aQ i)
def cz(b:an):List (List Int):=(lvl (kS b) b.aQ.length).filter (wH b)
theorem z9{b:an}{c:List Int}:c∈cz b↔(c.length=b.aQ.length∧∀ i,i < b.aQ.length→(nth b.aQ i).cQ≤nth c i∧nth c i≤(nth b.aQ i).dE)∧wH b c=true:=by
 unfold cz
 rw [List.mem_filter,Sg]
 simp only [kS,aka]
def nP(c:List Int):bH:=⟨G4 [0,0,0] c⟩
theorem af3{c:List Int}(h:c.length≤3):(G4 [0,0,0] c).length=3∧(∀ i,i < c.length→nth (G4 [0,0,0] c) i=nth c i)∧∀ i,c.length≤i→i < 3→nth (G4 [0,0,0] c) i=0:=by
 match c,h with
 | [],_=>exact ⟨rfl,λ i hi=>by simp at hi,λ i _ hi=>by match i,hi with | 0,_=>rfl | 1,_=>rfl | 2,_=>rfl⟩
 | [_],_=>exact ⟨rfl,λ i hi=>by match i,hi with | 0,_=>rfl,λ i h1 hi=>by match i,h1,hi with | 1,_,_=>rfl | 2,_,_=>rfl⟩
 | [_,_],_=>exact ⟨rfl,λ i hi=>by match i,hi with | 0,_=>rfl | 1,_=>rfl,λ i h1 hi=>by match i,h1,hi with | 2,_,_=>rfl⟩
 | [_,_,_],_=>exact ⟨rfl,λ i hi=>by match i,hi with | 0,_=>rfl | 1,_=>rfl | 2,_=>rfl,λ i h1 hi=>by simp at h1; omega⟩
structure rU (P:Nat) (pre w:List Int):Prop where
 len:w.length=3
 pre:∀ i,i < pre.length→nth w i=nth pre i
 rest:∀ i,P≤i→i < 3→nth w i=0
theorem rU.nP{P:Nat}{pre w:List Int}(h:rU P pre w)(hp:pre.length=P)(h3:P≤3):w=G4 [0,0,0] pre:=by
 obtain ⟨h1,h2,h4⟩:=af3 (c:=pre) (by omega)
 refine Sq (by rw [h.len,h1]) λ i hi=>?_
 by_cases hl:i < pre.length
 ·rw [h.pre i hl,h2 i hl]
 ·rw [h.rest i (by omega) (by rw [← h.len]; exact hi),h4 i (by omega) (by rw [← h.len]; exact hi)]
theorem rU.set{P:Nat}{pre w:List Int}(h:rU P pre w)(hp:pre.length < P)(h3:P≤3)(n:Int):rU P (pre++[n]) (w.set pre.length n):=by
 have hl:=h.len
 refine ⟨by simpa using hl,λ i hi=>?_,λ i h1 h2=>?_⟩
 ·by_cases e:i=pre.length
  ·subst e
   rw [aNU (by omega),akj]
  ·rw [akk (by omega)]
   simp only [kO,List.length_cons,List.length_nil] at hi
   rw [ab9 (by omega)]
   exact h.pre i (by omega)
 ·rw [akk (by omega)]
  exact h.rest i h1 h2
theorem rU.back{P:Nat}{pre w:List Int}{n:Int}(h:rU P (pre++[n]) w):rU P pre w:=⟨h.len,λ i hi=>by rw [h.pre i (by simp; omega),ab9 hi],h.rest⟩
theorem aLW{b:an}(hv:Valid b){c:List Int}{w:bH}(hw:∀ i,i < b.aQ.length→nth w.deep i=nth c i)(hl:w.deep.length=3):Cq b w=some (wH b c):=by
 unfold Cq
 have h3:=hv.s3
 have hp:=hv.p3
 rw [aMd (p:=λ s=>!(decide (nth c s.Place.toNat≤s.mg) == s.tC)) (by omega) (λ s hs=>?_),aM]
 ·unfold wH
  congr 1
  rw [List.not_any_eq_all_not]
  congr 1
  funext s
  simp
 ·have:=(hv.sound s hs).place
  unfold E1
  rw [abl this.1 (by omega),aM,hw _ (by omega)]
theorem ajj{α S X O:Type}{ys:α→S→Option (S × Bool)}{body:S × X→Option ((S × X) ⊕ O)}(b:Nat→List α)(n:Nat)(I:Nat→X→Prop)(F Q:S→O→Prop)
  (h:∀ j s x r,j < n→I j x→qg ys (b j) s=some r→if r.2=true then ∃ x',body (s,x)=some (.inl (r.1,x'))∧I (j+1) x' else ∃ o,body (s,x)=some (.inr o)∧Q r.1 o) (hn:∀ s x,I n x→∃ o,body (s,x)=some (.inr o)∧F s o) :
  ∀ (k j:Nat) (s:S) (x:X) (r:S × Bool),j+k=n→I j x→qg ys ((List.range' j k).flatMap b) s=some r→∃ o,bD body (s,x)=some o∧if r.2=true then F r.1 o else Q r.1 o
 | 0,j,s,x,r,hj,hI,hr=>by
  simp only [List.range'_zero,List.flatMap_nil,qg,jl] at hr
  subst hr
  obtain rfl:j=n:=by omega
  obtain ⟨o,h1,h2⟩:=hn s x hI
  exact ⟨o,lO h1,by simpa using h2⟩
 | k+1,j,s,x,r,hj,hI,hr=>by
  rw [List.range'_succ,List.flatMap_cons,ahx] at hr
  obtain ⟨q,hq,hr⟩:=ag hr
  have hb:=h j s x q (by omega) hI hq
  split at hr
  ·rename_i h2
   rw [if_pos h2] at hb
   obtain ⟨x',h3,h4⟩:=hb
   rw [vX h3]
   exact ajj b n I F Q h hn k (j+1) q.1 x' r (by omega) h4 hr
  ·rename_i h2
   rw [if_neg h2] at hb
   obtain ⟨o,h3,h4⟩:=hb
   cases hr
   exact ⟨o,lO h3,by simpa using h4⟩
theorem ajE{b:an}(hv:Valid b){S:Type}(ys:bH→S→Option (S × Bool)):∀ (j k:Nat) (pre:List Int) (w:bH) (s:S) (r:S × Bool),pre.length+j=b.aQ.length→j < k→rU b.aQ.length pre w.deep →
  qg ys (((tree (kS b) j pre.length pre).filter (wH b)).map nP) s=some r→∃ w',sS ys k (pre.length:Int) b w s=some (r.1,(w',r.2))∧rU b.aQ.length pre w'.deep
 | _,0,_,_,_,_,_,hk,_,_=>by omega
 | 0,k+1,pre,w,s,r,hl,_,hw,hr=>by
  rw [Nat.add_zero] at hl
  have h3:=hv.p3
  unfold sS
  rw [show ((pre.length:Int) == (b.aQ.length:Int))=true by rw [hl]; simp,bF,aLW (c:=pre) hv (λ i hi=>hw.pre i (by omega)) hw.len,aM]
  simp only [tree] at hr
  have m:w=nP pre:=by
   obtain ⟨d⟩:=w
   exact congrArg bH.mk (hw.nP hl h3)
  refine ⟨w,?_,hw⟩
  cases hs:wH b pre with
  | true =>
   simp only [List.filter_cons,hs,if_true,List.filter_nil,List.map_cons,List.map_nil,qg] at hr
   obtain ⟨q,hq,hr⟩:=ag hr
   rw [← m] at hq
   simp only [ek,bu,hq,aM]
   split at hr
   ·rename_i h2; cases hr; rw [h2]
   ·rename_i h2; cases hr; simp at h2; rw [h2]
  | false =>
   simp [hs,qg] at hr
   subst hr
   rfl
 | j+1,k+1,pre,w,s,r,hl,hk,hw,hr=>by
  have h3:=hv.p3
  have hx:=hv.each (i:=pre.length) (by omega)
  unfold sS
  rw [show ((pre.length:Int) == (b.aQ.length:Int))=false by simp; omega,bu,cF,bE (by omega),aM]
  generalize hX:nth b.aQ pre.length=X at hx
  refine Exists.elim (ajj (ys:=ys) (S:=S) (X:=Int × List Int) (O:=(S × List Int) ⊕ (S × (bH × Bool))) (body:=λ (f:(S × Int × (List Int))) =>
   (some X:Option Reach).bind λ ft =>
   ae (decide (f.2.1≤ft.dE))
   ((idx f.2.2 (pre.length:Int)).bind λ p =>
   (sS ys k (i64 ((pre.length:Int)+1)) b (⟨f.2.2.set (pre.length:Int).toNat f.2.1⟩:bH) f.1).bind λ g =>
   ae (!g.2.2)
   (some (.inr (.inr (g.1,(g.2.1,false)))))
   (some (.inl (g.1,i64 (f.2.1+1),g.2.1.deep))))
   (some (.inr (.inl (f.1,f.2.2)))))
   (λ q=>((tree (kS b) j (pre.length+1) (pre++[X.cQ+(q:Int)])).filter (wH b)).map nP) (X.dE+1 - X.cQ).toNat (λ q x=>x.1=X.cQ+(q:Int)∧rU b.aQ.length pre x.2)
   (λ s o=>∃ d,o = .inl (s,d)∧rU b.aQ.length pre d) (λ s o=>∃ w',o = .inr (s,(w',false))∧rU b.aQ.length pre w'.deep)
   (λ q s x r hq hI hr=>?_) (λ s x hI=>?_) (X.dE+1 - X.cQ).toNat 0 s (X.cQ,w.deep) r (by omega) ⟨by simp,hw⟩ ?_) ?_
  ·obtain ⟨n,d⟩:=x
   obtain ⟨rfl,hd⟩:=hI
   have hs:=hd.set (n:=X.cQ+(q:Int)) (by omega) h3
   obtain ⟨w',h1,h2⟩:=ajE hv ys j k (pre++[X.cQ+(q:Int)]) ⟨d.set pre.length (X.cQ+(q:Int))⟩ s r (by simp; omega) (by omega) hs (by simpa using hr)
   have y:d.length=3:=hd.len
   simp only [kO,List.length_cons,List.length_nil,Nat.zero_add] at h1
   simp only [aM,show decide (X.cQ+(q:Int)≤X.dE)=true by simp; omega,bF,cF,bE (show pre.length < d.length by omega),eD,cR (i:=pre.length) (by omega),h1]
   have e1:i64 (X.cQ+(q:Int)+1)=X.cQ+((q+1:Nat):Int):=by rw [fZ (by omega) (by omega)]; omega
   cases z:r.2 with
   | true=>exact ⟨(X.cQ+((q+1:Nat):Int),w'.deep),by simp [e1,bu],rfl,h2.back⟩
   | false=>exact ⟨.inr (r.1,(w',false)),by simp [bF],w',rfl,h2.back⟩
  ·obtain ⟨n,d⟩:=x
   obtain ⟨rfl,hd⟩:=hI
   refine ⟨.inl (s,d),?_,d,rfl,hd⟩
   simp only [aM,show decide (X.cQ+(((X.dE+1 - X.cQ).toNat:Nat):Int)≤X.dE)=false by simp; omega,bu]
  ·rw [← hr,← List.range_eq_range']
   congr 1
   simp only [tree,kS,hX,ta,List.flatMap_map,List.map_flatMap,List.filter_flatMap]
  ·rintro o ⟨ho,hc⟩
   rw [show (bD (O:=((S × (List Int)) ⊕ (S × (bH × Bool)))) (λ (f:(S × Int × (List Int))) =>
    (some X:Option Reach).bind λ ft =>
    ae (decide (f.2.1≤ft.dE))
    ((idx f.2.2 (pre.length:Int)).bind λ p =>
    (sS ys k (i64 ((pre.length:Int)+1)) b (⟨f.2.2.set (pre.length:Int).toNat f.2.1⟩:bH) f.1).bind λ g =>
    ae (!g.2.2)
    (some (.inr (.inr (g.1,(g.2.1,false)))))
    (some (.inl (g.1,i64 (f.2.1+1),g.2.1.deep))))
    (some (.inr (.inl (f.1,f.2.2))))) (s,X.cQ,w.deep))=some o from ho,aM]
   split at hc
   ·rename_i h2
    obtain ⟨d,rfl,hd⟩:=hc
    exact ⟨⟨d⟩,by simp [h2],hd⟩
   ·rename_i h2
    obtain ⟨w',rfl,hd⟩:=hc
    exact ⟨w',by simp at h2; simp [h2],hd⟩
theorem aNB{b:an}(hv:Valid b){S:Type}(ys:bH→S→Option (S × Bool)){s:S}{r:S × Bool}(hr:qg ys ((cz b).map nP) s=some r):qw ys b s=some r.1:=by
 have h3:=hv.p3
 unfold qw
 obtain ⟨w',h1,_⟩:=ajE hv ys b.aQ.length 9 [] ⟨[0,0,0]⟩ s r (by simp) (by omega) ⟨rfl,λ i hi=>by simp at hi,λ i _ hi=>by match i,hi with | 0,_=>rfl | 1,_=>rfl | 2,_=>rfl⟩ (by rw [← hr]; unfold cz; simp only [List.length_nil]; rw [aQM])
 have c:sS ys 9 0 b ⟨[0,0,0]⟩ s=some (r.1,(w',r.2)):=h1
 rw [c]
 rfl
theorem abD{b:an}(hv:Valid b):∀ i,i≤b.aQ.length→(lvl (kS b) i).length≤3 ^ i
 | 0,_=>by simp [lvl]
 | i+1,h=>by
  have ih:=abD hv i (by omega)
  have hx:=acE (hv.each (i:=i) (by omega)).2.2.2
  simp only [lvl]
  refine Nat.le_trans (ahv _ 3 (λ a=>?_) _) ?_
  ·simpa using hx
  ·rw [Nat.pow_succ]; omega
theorem ae1{b:an}(hv:Valid b):(lvl (kS b) b.aQ.length).length≤27:=by
 refine Nat.le_trans (abD hv _ (dD _)) ?_
 have h1:=hv.p1
 have h3:=hv.p3
 match b.aQ.length,h1,h3 with
 | 1,_,_=>decide
 | 2,_,_=>decide
 | 3,_,_=>decide
theorem Bu{b:an}(hv:Valid b):(cz b).length≤27:=Nat.le_trans (List.length_filter_le _ _) (ae1 hv)
theorem ab1{b:an}(hv:Valid b):z6 (λ y s=>qw y b s)=some ((cz b).map nP):=by
 unfold z6 Ie
 have hl:=Bu hv
 have key:∀ (l a:List bH),l.foldl (λ s c=>s++[c]) a=a++l:=by
  intro l
  induction l with
  | nil=>simp
  | cons c l ih=>intro a; rw [List.foldl_cons,ih]; simp
 dsimp only
 rw [aNB hv _ (r:=(.inl ((((cz b).map nP).foldl (λ (s:List bH) c=>s++[c]) [])),true)) (ahy (λ k s=>s.length=k) (λ c s=>s++[c]) _ 0 [] rfl (λ j s a hj hs _=>by
  simp only [List.length_map] at hj
  rw [xi (by simp; omega)]
  exact ⟨rfl,by simp [hs]⟩))]
 rw [key]
 rfl
def PH(b:an):Int × Int:=if gl b≠0 then (0,gl b) else ((cz b).length,0)
theorem aMI{b:an}(hs:Small b):zV b=some (PH b):=by
 unfold zV PH
 rw [ab0 hs,aM]
 by_cases h1:gl b=0
 ·have hv:=tn.1 h1
  simp only [h1,dn,bu,ne_eq,jo,if_false]
  rw [show (⟨b.Rest,b.Rows,b.aQ,b.aB,b.aA,b.bh⟩:an)=b from rfl,ab1 hv,aM,List.length_map]
 ·simp only [h1,ne_eq,ew,if_true,my h1,bF]
def akh:cI:=⟨⟨0,[],[],[],[],[]⟩,[]⟩
def rG(b:an):cI:=⟨b,(cz b).map nP⟩
def iI(b:an)(own:Int):Int:=if gl b≠0 then gl b else if own≠0 then own else if cz b=[] then 9 else 0
theorem KH{b:an}{own:Int}(h:iI b own=0):Valid b∧own=0∧cz b≠[]:=by
 unfold iI at h
 split at h
 ·rename_i h1; exact absurd h h1
 ·rename_i h1
  split at h
  ·rename_i h2; exact absurd h h2
  ·rename_i h2
   split at h
   ·cases h
   ·rename_i h3; exact ⟨tn.1 (by simpa using h1),by simpa using h2,h3⟩
theorem as3{b:an}{own:Int}(hv:Valid b)(h2:own=0)(h3:cz b≠[]):iI b own=0:=by
 unfold iI
 simp [tn.2 hv,h2,h3]
def yv(b:an)(own:Int):cI × Int:=if iI b own≠0 then (akh,iI b own) else (rG b,0)
theorem ab3{b:an}(hs:Small b){f:an→Option Int}{own:Int}(hf:gl b=0→f b=some own):qx b f=some (yv b own):=by
 unfold qx yv iI
 rw [ab0 hs,aM]
 by_cases h1:gl b=0
 ·have hv:=tn.1 h1
  simp only [h1,dn,bu,ne_eq,jo,if_false,hf h1,aM]
  by_cases h2:own=0
  ·simp only [h2,dn,bu,jo,if_false,ab1 hv,aM,List.length_map]
   cases hc:cz b with
   | nil=>rfl
   | cons c l =>
    rw [if_neg (by simp),show ((((c::l).length:Nat):Int) == 0)=false by simp; omega,bu]
    unfold rG
    rw [hc]
  ·simp only [h2,ew,if_true,my h2,bF]
   rfl
 ·simp only [h1,ne_eq,ew,if_true,my h1,bF]
  rfl
theorem abK{b:an}(hs:Small b){x:List (List Int)}{g g':List Bool}{own:Int}(hf:gl b=0→Cl b x g=some (g',own)):EV b x g=some (if gl b≠0 then (g,akh,gl b) else (g',yv b own)):=by
 unfold EV yv iI
 rw [ab0 hs,aM]
 by_cases h1:gl b=0
 ·have hv:=tn.1 h1
  simp only [h1,dn,bu,ne_eq,jo,if_false,hf h1,aM]
  by_cases h2:own=0
  ·simp only [h2,dn,bu,jo,if_false,ab1 hv,aM,List.length_map]
   cases hc:cz b with
   | nil=>rfl
   | cons c l =>
    rw [if_neg (by simp),show ((((c::l).length:Nat):Int) == 0)=false by simp; omega,bu]
    unfold rG
    rw [hc]
  ·simp only [h2,ew,if_true,my h2,bF]
   rfl
 ·simp only [h1,ne_eq,ew,if_true,my h1,bF]
  rfl
theorem aLP{b:an}(hv:Valid b){c:List Int}(hc:c.length=b.aQ.length):Nk b c=some (wH b c):=by
 unfold Nk
 have hs:=hv.s3
 rw [RP (l:=b.bh) (λ s=>decide (nth c s.Place.toNat≤s.mg) == s.tC) false (λ i hi=>?_) (by simp only [fj,bu])]
 ·unfold wH
  cases h:b.bh.all λ s=>decide (nth c s.Place.toNat≤s.mg) == s.tC <;> simp
 ·have hp:=(hv.sound _ (ib hi)).place
  simp only [dec_lt hi,bF,cF,bE hi,aM,abl hp.1 (show (nth b.bh i).Place < (c.length:Int) by omega),cR (i:=i) (by omega)]
  cases decide (nth c (nth b.bh i).Place.toNat≤(nth b.bh i).mg) == (nth b.bh i).tC <;> rfl
theorem ajm{b:an}{i:Nat}{p:List Int}(h:p∈lvl (kS b) i):p.length=i:=(Sg.1 h).1
theorem aj0{b:an}(hv:Valid b):IA b=some (cz b):=by
 unfold IA
 have hlen:=abD hv
 have f:=ae1 hv
 have h3:=hv.p3
 refine (jK (o:=lvl (kS b) b.aQ.length) ?_).trans ?_
 ·have e0:([[]],(0:Int))=(λ i:Nat=>(lvl (kS b) i,(i:Int))) 0:=rfl
  rw [e0]
  refine zK (λ i:Nat=>(lvl (kS b) i,(i:Int))) b.aQ.length (λ i hi=>?_) (by simp only [fj,bu])
  have hw:=hv.each hi
  have k:=hlen i (by omega)
  have g:=aO2 (i:=i) (by omega)
  simp only [dec_lt hi,bF]
  rw [jK (o:=lvl (kS b) (i+1)) ?_,cR (i:=i) (by omega)]
  have q0:([],(0:Int))=(λ a:List (List Int)=>(a,((λ j:Nat=>(j:Int)) 0))) []:=rfl
  rw [q0,show lvl (kS b) (i+1)=[]++(List.range (lvl (kS b) i).length).flatMap (λ j=>(ta (nth b.aQ i)).map λ n=>nth (lvl (kS b) i) j++[n]) by rw [List.nil_append,auQ (λ a=>(ta (nth b.aQ i)).map λ n=>a++[n])]; rfl]
  refine ajh (λ j:Nat=>(j:Int)) (λ j=>(ta (nth b.aQ i)).map λ n=>nth (lvl (kS b) i) j++[n]) (lvl (kS b) i).length 3 [] (λ j _=>by rw [List.length_map]; exact acE hw.2.2.2) (λ j l hj hl=>?_) (λ l=>by simp only [fj,bu])
  have c:=ajm (ib hj)
  simp only [dec_lt hj,bF,cF,bE hi,bE hj,aM]
  generalize nth b.aQ i=X at hw
  rw [jK (o:=l++(ta X).map λ n=>nth (lvl (kS b) i) j++[n]) ?_,cR (i:=j) (by omega)]
  have q1:X.cQ=(λ q:Nat=>X.cQ+(q:Int)) 0:=by simp
  have d:(ta X).map (λ n=>nth (lvl (kS b) i) j++[n])=(List.range (X.dE+1 - X.cQ).toNat).flatMap (λ (q:Nat)=>[nth (lvl (kS b) i) j++[X.cQ+(q:Int)]]):=by
   rw [ahw (λ q:Nat=>nth (lvl (kS b) i) j++[X.cQ+(q:Int)])]
   simp only [ta,List.map_map]
   rfl
  rw [q1,d]
  refine ajh (λ q:Nat=>X.cQ+(q:Int)) (λ q=>[nth (lvl (kS b) i) j++[X.cQ+(q:Int)]]) (X.dE+1 - X.cQ).toNat 1 l (λ q _=>by simp) (λ q l' hq hl'=>?_) (λ l'=>?_)
  ·have e1:i64 (X.cQ+(q:Int)+1)=X.cQ+((q+1:Nat):Int):=by rw [fZ (by omega) (by omega)]; omega
   simp only [List.length_nil] at hl
   simp only [show decide (X.cQ+(q:Int)≤X.dE)=true by simp; omega,bF,e1]
   rw [xi (by simp [c]; omega),aM,xi (by simp [c]; omega),aM,xi (by simp; omega),aM]
   simp
  ·simp only [show decide (X.cQ+(((X.dE+1 - X.cQ).toNat:Nat):Int)≤X.dE)=false by simp; omega,bu]
 ·rw [jK (o:=cz b) ?_]
  refine aK3 (l:=lvl (kS b) b.aQ.length) (wH b) (by omega) (λ i acc hi ha=>?_) (λ acc=>by simp only [fj,bu])
  have c:=ajm (ib hi)
  simp only [dec_lt hi,bF,cF,bE hi,aM,aLP hv c,cR (i:=i) (by omega)]
  cases wH b (nth (lvl (kS b) b.aQ.length) i) with
  | true=>rw [bF,xi (by simp; omega)]; rfl
  | false=>rfl
theorem aMJ{b:an}(hs:Small b):Nu b=some (PH b):=by
 unfold Nu PH
 rw [abY hs,aM]
 by_cases h1:gl b=0
 ·have hv:=tn.1 h1
  simp only [h1,dn,bu,ne_eq,jo,if_false,aj0 hv,aM]
 ·simp only [h1,ne_eq,ew,if_true,my h1,bF]
def yj(b:an)(own:Int):List (List Int) × Int:=if iI b own≠0 then ([],iI b own) else (cz b,0)
theorem z8{b:an}(hs:Small b)(own:Int):z7 b own=some (yj b own):=by
 unfold z7 yj iI
 rw [abY hs,aM]
 by_cases h1:gl b=0
 ·have hv:=tn.1 h1
  simp only [h1,dn,bu,ne_eq,jo,if_false]
  by_cases h2:own=0
  ·simp only [h2,dn,bu,jo,if_false,aj0 hv,aM]
   cases hc:cz b with
   | nil=>rfl
   | cons c l =>
    rw [if_neg (by simp),show ((((c::l).length:Nat):Int) == 0)=false by simp; omega,bu]
  ·simp only [h2,ew,if_true,my h2,bF]
 ·simp only [h1,ne_eq,ew,if_true,my h1,bF]
def mF(b:an)(n:Int):Int:=match b.Rows.find? (λ r=>decide (n≤r.eX)) with | some r=>r.fG | none=>0
theorem ajr{b:an}(hs:b.Rows.length≤20)(n:Int):ym b n=some (mF b n):=by
 unfold ym mF
 rw [ajg (l:=b.Rows) (λ r=>decide (n≤r.eX)) (λ r=>r.fG) (λ i hi=>?_) (by simp only [fj,bu])]
 ·cases b.Rows.find? (λ r=>decide (n≤r.eX)) <;> rfl
 ·simp only [dec_lt hi,bF,cF,bE hi,aM,cR (i:=i) (by omega)]
  cases decide (n≤(nth b.Rows i).eX) <;> rfl
theorem abI{b:an}(hs:b.Rows.length≤20)(n:Int):Ci b n=some (mF b n):=by
 unfold Ci mF
 rw [ajg (l:=b.Rows) (λ r=>decide (n≤r.eX)) (λ r=>r.fG) (λ i hi=>?_) (by simp only [fj,bu])]
 ·cases b.Rows.find? (λ r=>decide (n≤r.eX)) <;> rfl
 ·simp only [dec_lt hi,bF,cF,bE hi,aM,cR (i:=i) (by omega),ge_iff_le]
  cases decide (n≤(nth b.Rows i).eX) <;> rfl
def Kd(b:an)(i j:Nat):Bool:=decide ((nth b.aA i).gM+(nth b.aA i).gZ+b.Rest≤(nth b.aA j).gM)
def mK(b:an)(i j:Nat):Bool:=Kd b i j || Kd b j i
theorem apP(b:an)(i j:Nat):mK b i j=mK b j i:=Bool.or_comm _ _
theorem Valid.dv{b:an}(h:Valid b){i:Nat}(hi:i < b.aA.length):ad2 b.aQ.length (nth b.aA i):=h.agb _ (ib hi)
theorem apO{b:an}(hv:Valid b){i:Nat}(hi:i < b.aA.length):mK b i i=false:=by
 have:=hv.dv hi
 have h2:=this.Jh
 have h3:=hv.rest
 simp [mK,Kd]
 omega
theorem aLN{b:an}(hv:Valid b){i j:Nat}(hi:i < b.aA.length)(hj:j < b.aA.length):Cp b (i:Int) (j:Int)=some (mK b i j):=by
 have h1:=(hv.dv hi).Ko
 have h2:=(hv.dv hi).Jh
 have h3:=(hv.dv hj).Ko
 have h4:=(hv.dv hj).Jh
 have h5:=hv.rest
 unfold Cp
 simp only [cF,bE hi,bE hj,aM]
 rw [fZ (z:=(nth b.aA i).gM+(nth b.aA i).gZ) (by omega) (by omega),fZ (by omega) (by omega),fZ (z:=(nth b.aA j).gM+(nth b.aA j).gZ) (by omega) (by omega),fZ (by omega) (by omega),aKX]
 by_cases e:i=j
 ·subst e
  rw [apO hv hi]
  simp [bu]
 ·simp only [e,ne_eq,ew,decide_true,bF,mK,Kd,ge_iff_le]
  cases decide ((nth b.aA i).gM+(nth b.aA i).gZ+b.Rest≤(nth b.aA j).gM) <;> rfl
theorem aLR{b:an}(hv:Valid b){i j:Nat}(hi:i < b.aA.length)(hj:j < b.aA.length):Nl b (i:Int) (j:Int)=some (mK b i j):=by
 have h1:=(hv.dv hi).Ko
 have h2:=(hv.dv hi).Jh
 have h3:=(hv.dv hj).Ko
 have h4:=(hv.dv hj).Jh
 have h5:=hv.rest
 unfold Nl
 simp only [cF,bE hi,bE hj,aM]
 rw [fZ (z:=(nth b.aA i).gM+(nth b.aA i).gZ) (by omega) (by omega),fZ (by omega) (by omega),fZ (z:=(nth b.aA j).gM+(nth b.aA j).gZ) (by omega) (by omega),fZ (by omega) (by omega)]
 simp only [mK,Kd,ge_iff_le]
 cases decide ((nth b.aA i).gM+(nth b.aA i).gZ+b.Rest≤(nth b.aA j).gM) <;> rfl
def vU(b:an)(n:Int):Bool:=cS n 0 ((b.aA.length:Int) - 1)
def vV(b:an)(n:Int):Bool:=cS n 0 ((b.aB.length:Int) - 1)
theorem aiS{b:an}{n:Int}:vU b n=true↔∃ i:Nat,n=(i:Int)∧i < b.aA.length:=by
 unfold vU
 rw [iV]
 constructor
 ·intro h; exact ⟨n.toNat,by omega,by omega⟩
 ·rintro ⟨i,rfl,h⟩; omega
theorem aiT{b:an}{n:Int}:vV b n=true↔∃ i:Nat,n=(i:Int)∧i < b.aB.length:=by
 unfold vV
 rw [iV]
 constructor
 ·intro h; exact ⟨n.toNat,by omega,by omega⟩
 ·rintro ⟨i,rfl,h⟩; omega
theorem aLm{b:an}(hs:Small b)(n:Int):M9 b n=some (vV b n):=by
 have:=hs.sV
 unfold M9 vV
 rw [pN,aM,fZ (by omega) (by omega)]
theorem ajw{b:an}(hs:Small b)(n:Int):Na b n=some (vU b n):=by
 have:=hs.PO
 unfold Na vU
 rw [pN,aM,fZ (by omega) (by omega)]
theorem aNu{l:List Int}{below:Int}(hl:l.length≤1000)(h0:0≤below)(h1:below≤1000):NF l below=some (tL l below):=by
 unfold NF
 refine rL (py l below) l.length (λ i hi=>?_) (by simp only [fj,bu]) rfl
 simp only [dec_lt hi,bF,cF,bE hi,aM,pN,fZ (z:=below - 1) (by omega) (by omega),cR (i:=i) (by omega)]
 unfold py
 cases cS (nth l i) 0 (below - 1) with
 | false=>rfl
 | true =>
  by_cases hp:0 < i
  ·simp only [G7 hp,ek,bu,bF,kE (i:=i) (by omega) hp,cF,bE (show i - 1 < l.length by omega),aM,hp,if_true,nU,if_false]
   by_cases hc:nth l i≤nth l (i - 1) <;> simp [hc]
  ·simp [hp]
theorem aju{b:an}(hv:Valid b){f:bH→Option Bool}{p:List Int→Bool}(hf:∀ c∈cz b,f (nP c)=some (p c)):wi (rG b) f=some (((cz b).filter p).length:Int):=by
 have d:=Bu hv
 unfold wi rG
 simp only [List.length_map]
 rw [jK (o:=(((cz b).filter p).length:Int)) (abA (l:=cz b) p (λ i n hi hn=>?_) (λ n=>by simp only [fj,bu]))]
 have e:((cz b).map nP)[i]? = some (nP (nth (cz b) i)):=by rw [List.getElem?_map,bE hi]; rfl
 simp only [dec_lt hi,bF,cF,e,aM,hf _ (ib hi),cR (i:=i) (by omega),cR (i:=n) (by omega)]
 cases p (nth (cz b) i) <;> rfl
theorem ajs{b:an}{n:Nat}:zM (rG b) (n:Int)=some (Ek n (cz b).length):=by
 unfold zM rG Ek
 simp only [List.length_map,aiR]
 by_cases h:n=0
 ·simp [h,bF]
 ·have e:((n:Int) == ((cz b).length:Int))=decide (n=(cz b).length):=by rw [Bool.eq_iff_iff,beq_iff_eq,decide_eq_true_iff]; omega
  rw [e,if_neg h,show (n == 0)=false by simpa using h,bu]
  by_cases h2:n=(cz b).length
  ·rw [if_pos h2,fN h2,bF]
  ·rw [if_neg h2,gE h2,bu]
theorem ajx{n m:Nat}:H3 (n:Int) (m:Int)=some (Ek n m):=by
 unfold H3 Ek
 rw [aiR]
 by_cases h:n=0
 ·simp [h,bF]
 ·have e:((n:Int) == (m:Int))=decide (n=m):=by rw [Bool.eq_iff_iff,beq_iff_eq,decide_eq_true_iff]; omega
  rw [e,if_neg h,show (n == 0)=false by simpa using h,bu]
  by_cases h2:n=m
  ·rw [if_pos h2,fN h2,bF]
  ·rw [if_neg h2,gE h2,bu]
theorem ado{b:an}(hv:Valid b){c:List Int}(hc:c.length=b.aQ.length){i:Nat}(hi:i < b.aQ.length):idx (nP c).deep (i:Int)=some (nth c i):=by
 have h3:=hv.p3
 have h:=af3 (c:=c) (by omega)
 rw [cF,bE (l:=(nP c).deep) (show i < (G4 [0,0,0] c).length by omega)]
 exact congrArg some (h.2.1 i (by omega))
def tM(c:List Int):List Bool:=(List.range 4).map λ (k:Nat)=>c.contains (k:Int)
def tc(r:List (List Int)):List Bool:=(List.range 16).map λ p=>(nth r (p / 4)).contains ((p % 4:Nat):Int)
theorem ala(r:List (List Int)):(tc r).length=16:=by simp [tc]
theorem acF(r:List (List Int)){p:Nat}(hp:p < 16):(tc r)[p]? = some ((nth r (p / 4)).contains ((p % 4:Nat):Int)):=by
 unfold tc
 rw [List.getElem?_map,List.getElem?_range hp]
 rfl
theorem KQ(c:List Int){k:Nat}(hk:k < 4):idx (tM c) (k:Int)=some (c.contains (k:Int)):=by
 unfold tM
 rw [cF,List.getElem?_map,List.getElem?_range hk]
 rfl
theorem SY(r:List (List Int)){i:Nat}(hi:i < 4):iB 4 (tc r) (i:Int)=some (tM (nth r i)):=by
 match i,hi with
 | 0,_=>rfl
 | 1,_=>rfl
 | 2,_=>rfl
 | 3,_=>rfl
def lQ(b:an)(c:List Int)(k i:Nat):Bool:=decide (nth c (nth b.aA i).Place.toNat≤(nth b.aB k).oC) && decide ((nth b.aA i).gZ≤mF b (nth c (nth b.aA i).Place.toNat))
theorem ajv{b:an}(hv:Valid b){c:List Int}(hc:c.length=b.aQ.length){k i:Nat}(hk:k < b.aB.length)(hi:i < b.aA.length):zN b (nP c) (k:Int) (i:Int)=some (lQ b c k i):=by
 have hp:=(hv.dv hi).place
 unfold zN lQ
 have e:idx (nP c).deep (nth b.aA i).Place=some (nth c (nth b.aA i).Place.toNat):=by
  have:=ado hv hc (i:=(nth b.aA i).Place.toNat) (by omega)
  rwa [Int.toNat_of_nonneg hp.1] at this
 simp only [cF,bE hi,bE hk,aM,e,ajr (show b.Rows.length≤20 by have:=hv.r4; omega)]
 cases decide (nth c (nth b.aA i).Place.toNat≤(nth b.aB k).oC) <;> rfl
theorem ajX{b:an}(hv:Valid b){c:List Int}(hc:c.length=b.aQ.length){k i:Nat}(hk:k < b.aB.length)(hi:i < b.aA.length):Fp b c (k:Int) (i:Int)=some (lQ b c k i):=by
 have hp:=(hv.dv hi).place
 unfold Fp lQ
 have e:idx c (nth b.aA i).Place=some (nth c (nth b.aA i).Place.toNat):=abl hp.1 (by omega)
 simp only [cF,bE hi,bE hk,aM,e,abI (show b.Rows.length≤20 by have:=hv.r4; omega)]
 cases decide (nth c (nth b.aA i).Place.toNat≤(nth b.aB k).oC) <;> rfl
theorem KR(c:List Int):(tM c).length=4:=by simp [tM]
theorem auU{c:List Int}{k:Nat}(hk:k < 4):(tM c).set k true=tM (c++[(k:Int)]):=by
 refine List.ext_getElem? λ p=>?_
 by_cases hp:p < 4
 ·rw [List.getElem?_set,KR]
  have e:∀ d:List Int,(tM d)[p]? = some (d.contains (p:Int)):=λ d=>by have:=KQ d hp; rwa [cF] at this
  rw [e,e]
  by_cases h:k=p
  ·subst h
   rw [if_pos rfl,if_pos hk]
   simp
  ·rw [if_neg h]
   congr 1
   rw [Bool.eq_iff_iff,List.contains_iff_mem,List.contains_iff_mem,List.mem_append,List.mem_singleton]
   exact ⟨.inl,λ h2=>h2.resolve_right (by omega)⟩
 ·rw [List.getElem?_eq_none (by rw [List.length_set,KR]; omega),List.getElem?_eq_none (by rw [KR]; omega)]
theorem ajB{c:List Int}(hl:c.length≤100)(hc:∀ k∈c,0≤k∧k < 4):zS c=some (tM c):=by
 unfold zS
 refine (jK (o:=tM c) ?_).trans rfl
 have e0:((0:Int),[false,false,false,false])=(λ i:Nat=>((i:Int),tM (c.take i))) 0:=rfl
 rw [e0]
 refine zK (λ i:Nat=>((i:Int),tM (c.take i))) c.length (λ i hi=>?_) (by simp only [fj,bu,List.take_length])
 have hm:=hc _ (ib hi)
 have e:c.take (i+1)=c.take i++[nth c i]:=by rw [List.take_add_one,bE hi]; rfl
 generalize nth c i=x at hm e
 obtain ⟨k,rfl⟩:=Int.eq_ofNat_of_zero_le hm.1
 have hx:c[i]? = some (k:Int):=by
  have h2:=congrArg List.getLast? e
  rw [List.getLast?_append] at h2
  rw [List.take_add_one] at e
  have:=List.append_cancel_left e
  cases h3:c[i]? with
  | none=>rw [h3] at this; cases this
  | some y=>rw [h3] at this; simpa using this
 simp only [dec_lt hi,bF,cF,hx,aM,cR (i:=i) (by omega),eD]
 have hk:k < 4:=by omega
 have:=KQ (c.take i) hk
 rw [cF] at this
 rw [this,aM,auU hk,← e]
structure aes (b:an) (r:List (List Int)):Prop where
 len:r.length=b.aA.length
 row:∀ i,i < b.aA.length→(nth r i).Pairwise (· < ·)∧∀ k∈nth r i,0≤k∧k < (b.aB.length:Int)
theorem Wo{b:an}(hv:Valid b):iI b 0=if cz b=[] then 9 else 0:=by unfold iI; simp [tn.2 hv]
def Sd(b:an)(k i:Int):Int × Int:=if gl b≠0 then (0,gl b) else if (vV b k && vU b i)=false then (0,6) else if cz b=[] then (0,9) else (Ek ((cz b).filter λ c=>lQ b c k.toNat i.toNat).length (cz b).length,0)
theorem aNf{b:an}(hs:Small b)(k i:Int):wo b k i=some (Sd b k i):=by
 have g:=hs.sV
 have j:=hs.PO
 unfold wo Sd
 have f:Cj b k i=some (if (vV b k && vU b i)=false then 6 else 0):=by
  unfold Cj
  rw [EU (m:=b.aB.length) (by omega),aM,EU (m:=b.aA.length) (by omega),aM,aj8]
  have e1:vV b k=cS k 0 ((b.aB.length:Int) - 1):=rfl
  have e2:vU b i=cS i 0 ((b.aA.length:Int) - 1):=rfl
  rw [e1,e2]
  cases cS k 0 ((b.aB.length:Int) - 1) <;> cases cS i 0 ((b.aA.length:Int) - 1) <;> rfl
 rw [ab3 hs (own:=if (vV b k && vU b i)=false then 6 else 0) (λ _=>f),aM]
 unfold yv iI
 by_cases h1:gl b=0
 ·have hv:=tn.1 h1
  rw [if_neg (show ¬ gl b≠0 by simpa using h1),if_neg (show ¬ gl b≠0 by simpa using h1)]
  cases d:(vV b k && vU b i) with
  | false=>rfl
  | true =>
   rw [jm] at d
   obtain ⟨k',rfl,hk⟩:=aiT.1 d.1
   obtain ⟨i',rfl,hi⟩:=aiS.1 d.2
   simp only [nU,if_false,ne_eq,jo]
   by_cases hc:cz b=[]
   ·rw [if_pos hc,if_pos hc]; rfl
   ·rw [if_neg hc,if_neg hc]
    simp only [jo,if_false,dn,bu]
    rw [aju hv (p:=λ c=>lQ b c k' i') (λ c hc=>by unfold EW; rw [show (rG b).book=b from rfl,ajv hv (z9.1 hc).1.1 hk hi]; rfl),aM,ajs]
    rfl
 ·rw [if_pos h1,if_pos h1]
  simp only [h1,ne_eq,ew,if_true,my h1,bF]
theorem aji{S O:Type}{body:S→Option (S ⊕ O)}(n:Nat)(I:Nat→S→Prop)(Q:O→Prop)(h:∀ i s,i < n→I i s→(∃ s',body s=some (.inl s')∧I (i+1) s')∨∃ o,body s=some (.inr o)∧Q o)(hn:∀ s,I n s→∃ o,body s=some (.inr o)∧Q o) :
  ∀ (k i:Nat) (s:S),i+k=n→I i s→∃ o,bD body s=some o∧Q o
 | 0,i,s,hi,hI=>by
  obtain rfl:i=n:=by omega
  obtain ⟨o,h1,h2⟩:=hn s hI
  exact ⟨o,lO h1,h2⟩
 | k+1,i,s,hi,hI=>by
  rcases h i s (by omega) hI with ⟨s',h1,h2⟩ | ⟨o,h1,h2⟩
  ·obtain ⟨o,h3,h4⟩:=aji n I Q h hn k (i+1) s' (by omega) h2
   exact ⟨o,by rw [vX h1,h3],h4⟩
  ·exact ⟨o,lO h1,h2⟩
structure Bl (b:an) (r:List (List Int)):Prop where
 len:r.length=b.aA.length
 row:∀ i,i < b.aA.length→((nth r i).length:Int)=(nth b.aA i).aB∧(nth r i).Pairwise (· < ·)∧∀ k∈nth r i,0≤k∧k < (b.aB.length:Int)
theorem Bl.rows{b:an}{r:List (List Int)}(h:Bl b r):aes b r:=⟨h.len,λ i hi=>(h.row i hi).2⟩
abbrev Uq:List Bool:=[false,false,false,false,false,false,false,false,false,false,false,false,false,false,false,false]
theorem aLs{b:an}(hv:Valid b){r:List (List Int)}(h:Bl b r):zO b r=some (tc r,0):=by
 have z:=hv.m4
 have w:=hv.d4
 have hl:=h.len
 unfold zO
 rw [show ((r.length:Int) != (b.aA.length:Int))=false by simp [hl],bu]
 refine (jK (o:=Sum.inl (tc r)) ?_).trans rfl
 have e0:((0:Int),Uq)=(λ i:Nat=>((i:Int),tc (r.take i))) 0:=rfl
 rw [e0]
 refine zK (λ i:Nat=>((i:Int),tc (r.take i))) r.length (λ i hi=>?_) (by simp only [fj,bu,List.take_length])
 have f:i < b.aA.length:=by omega
 obtain ⟨h1,h2,h3⟩:=h.row i f
 have y:=(hv.dv f).sV
 simp only [dec_lt hi,bF,cF,bE hi,bE f,aM,show (((nth r i).length:Int) != (nth b.aA i).aB)=false by simp [h1],bu]
 rw [zL (n:=(nth r i).length) (λ _=>true) (Uq,(0:Int)) (λ k hk=>?_) (by simp only [fj,bu])]
 ·rw [show ((List.range (nth r i).length).all λ _=>true)=true by simp]
  simp only [if_true,aM,Sum.elim_inl,ajB (c:=nth r i) (by omega) (λ k hk=>by have:=h3 k hk; omega),SY _ (show i < 4 by omega),cR (i:=i) (by omega)]
  congr 3
  refine List.ext_getElem? λ p=>?_
  unfold C4
  rw [eD]
  have hg:=KR (nth r i)
  have hrl:=ala (r.take i)
  have s:∀ j,nth (r.take (i+1)) j=if j < i then nth r j else if j=i then nth r i else []:=λ j=>by
   by_cases hj:j < i+1
   ·rw [sY hj]
    by_cases h5:j < i
    ·rw [if_pos h5]
    ·rw [if_neg h5,if_pos (by omega),show j=i by omega]
   ·rw [if_neg (by omega),if_neg (by omega)]
    unfold nth
    rw [rS,List.getElem?_eq_none (by rw [jP]; omega)]
    rfl
  have g:∀ j,nth (r.take i) j=if j < i then nth r j else []:=λ j=>by
   by_cases hj:j < i
   ·rw [sY hj,if_pos hj]
   ·rw [if_neg hj]
    unfold nth
    rw [rS,List.getElem?_eq_none (by rw [jP]; omega)]
    rfl
  by_cases hp:p < 16
  ·rw [acF _ hp,s]
   by_cases c1:p < i * 4
   ·rw [rR (by rw [jP]; omega),List.getElem?_take_of_lt c1,acF _ hp,g,if_pos (by omega),if_pos (by omega)]
   ·have q:((tc (r.take i)).take (i * 4)).length=i * 4:=by rw [jP]; omega
    rw [oz (by omega),q]
    by_cases c2:p < i * 4+4
    ·rw [rR (by omega)]
     have:=KQ (nth r i) (k:=p - i * 4) (by omega)
     rw [cF] at this
     rw [this,if_neg (by omega),if_pos (by omega),show p % 4=p - i * 4 by omega]
    ·rw [oz (by omega),List.getElem?_drop,hg,show i * 4+4+(p - i * 4 - 4)=p by omega,acF _ hp,g,if_neg (by omega),if_neg (by omega),if_neg (by omega)]
  ·rw [List.getElem?_eq_none (by rw [kO,kO,jP,List.length_drop]; omega),List.getElem?_eq_none (by rw [ala]; omega)]
 ·have hx:=h3 _ (ib hk)
  have hb:cS (nth (nth r i) k) 0 ((b.aB.length:Int) - 1)=true:=iV.2 (by omega)
  simp only [dec_lt hk,bF,cF,bE hk,aM,EU (m:=b.aB.length) (by omega),hb,nU,if_false,dn,bu,if_true]
  by_cases d:0 < k
  ·have:=Vj h2 (i:=k - 1) (j:=k) (by omega) hk
   rw [G7 d,bF,kE (i:=k) (by omega) d,cF,bE (show k - 1 < (nth r i).length by omega),aM,show decide (nth (nth r i) k≤nth (nth r i) (k - 1))=false by simp; omega,aM,bu,cR (i:=k) (by omega)]
  ·rw [G6 d,bu,aM,bu,cR (i:=k) (by omega)]
def yA(b:an)(r:List (List Int))(i:Nat):Bool:=(List.range i).all λ j=>mK b j i || !meet (nth r i) (nth r j)
def FI(b:an)(r:List (List Int)):Bool:=(List.range b.aA.length).all (yA b r)
theorem aLt{b:an}(hv:Valid b){r:List (List Int)}{i:Nat}(hi:i < b.aA.length)(hc:∀ k∈nth r i,0≤k∧k < (b.aB.length:Int)):zP b (tc r) (i:Int)=some (yA b r i):=by
 have hd:=hv.d4
 have hm:=hv.m4
 unfold zP yA
 rw [zL (n:=i) (λ j=>mK b j i || !meet (nth r i) (nth r j)) false (λ j hj=>?_) (by simp only [fj,bu])]
 ·cases (List.range i).all λ j=>mK b j i || !meet (nth r i) (nth r j) <;> rfl
 ·simp only [dec_lt hj,bF,aLN hv (show j < b.aA.length by omega) hi,aM]
  cases mK b j i with
  | true=>simp only [bF,Bool.true_or,if_true,cR (i:=j) (by omega)]
  | false =>
   simp only [bu,Bool.false_or]
   rw [zL (n:=b.aB.length) (λ k=>!((nth r j).contains (k:Int) && (nth r i).contains (k:Int))) false (λ k hk=>?_) (by simp only [fj,bu])]
   ·have e:((List.range b.aB.length).all λ k=>!((nth r j).contains (k:Int) && (nth r i).contains (k:Int)))=!meet (nth r i) (nth r j):=by
     rw [Bool.eq_iff_iff,Bool.not_eq_true',aj9,List.all_eq_true]
     constructor
     ·intro h k hk c
      have hb:=hc k hk
      have:=h k.toNat (by rw [List.mem_range]; omega)
      rw [Int.toNat_of_nonneg hb.1] at this
      simp [hk,c] at this
     ·intro h k _
      rw [Bool.not_eq_true',Bool.and_eq_false_iff]
      by_cases hk:(k:Int)∈nth r i
      ·exact .inl (by have:=h _ hk; simpa using this)
      ·exact .inr (by simpa using hk)
    rw [e]
    cases meet (nth r i) (nth r j) with
    | true=>rfl
    | false=>simp only [Bool.not_false,if_true,aM,Sum.elim_inl,cR (i:=j) (by omega)]
   ·simp only [dec_lt hk,bF,SY _ (show j < 4 by omega),SY _ (show i < 4 by omega),aM,KQ _ (show k < 4 by omega),cR (i:=k) (by omega)]
    cases (nth r j).contains (k:Int) <;> cases (nth r i).contains (k:Int) <;> rfl
def y9(b:an)(c:List Int)(r:List (List Int)):Bool:=(List.range b.aA.length).all λ i=>(nth r i).all λ k=>lQ b c k.toNat i
theorem aLu{b:an}(hv:Valid b){r:List (List Int)}(hr:aes b r){c:List Int}(hc:c.length=b.aQ.length):zQ (nP c) b (tc r) (rG b)=some (y9 b c r):=by
 have hd:=hv.d4
 have hm:=hv.m4
 unfold zQ y9
 rw [zL (n:=b.aA.length) (λ i=>(nth r i).all λ k=>lQ b c k.toNat i) false (λ i hi=>?_) (by simp only [fj,bu])]
 ·cases (List.range b.aA.length).all λ i=>(nth r i).all λ k=>lQ b c k.toNat i <;> rfl
 ·simp only [dec_lt hi,bF,SY _ (show i < 4 by omega),aM]
  rw [zL (n:=4) (λ k=>!(nth r i).contains (k:Int) || lQ b c k i) false (λ k hk=>?_) (by rw [show decide (((4:Nat):Int) < 4)=false from rfl,bu])]
  ·have e:((List.range 4).all λ k=>!(nth r i).contains ((k:Nat):Int) || lQ b c k i)=(nth r i).all λ k=>lQ b c k.toNat i:=by
    rw [Bool.eq_iff_iff,List.all_eq_true,List.all_eq_true]
    constructor
    ·intro h k hk
     have hb:=(hr.row i hi).2 k hk
     have:=h k.toNat (by rw [List.mem_range]; omega)
     rw [Int.toNat_of_nonneg hb.1] at this
     simpa [hk] using this
    ·intro h k _
     cases hk:(nth r i).contains (k:Int) with
     | false=>rfl
     | true =>
      rw [List.contains_iff_mem] at hk
      simpa using h _ hk
   rw [e]
   cases (nth r i).all λ k=>lQ b c k.toNat i with
   | true=>simp only [if_true,aM,Sum.elim_inl,cR (i:=i) (by omega)]
   | false=>rfl
  ·simp only [show decide ((k:Int) < 4)=true by simp; omega,bF,KQ _ hk,aM]
   cases hkc:(nth r i).contains (k:Int) with
   | false=>simp only [bu,Bool.not_false,Bool.true_or,if_true,cR (i:=k) (by omega)]
   | true =>
    rw [List.contains_iff_mem] at hkc
    have hb:=(hr.row i hi).2 _ hkc
    rw [bF,show (rG b).book=b from rfl,ajv hv hc (show k < b.aB.length by omega) hi,aM]
    cases lQ b c k i with
    | true=>simp only [ek,bu,Bool.or_true,if_true,cR (i:=k) (by omega)]
    | false=>rfl
def Qe(b:an)(r:List (List Int)):Int:=if FI b r=true then Ek ((cz b).filter λ c=>y9 b c r).length (cz b).length else 2
theorem aNj{b:an}(hv:Valid b){r:List (List Int)}(h:Bl b r):m32 b r=some (if cz b=[] then (0,9) else (Qe b r,0)):=by
 have hd:=hv.d4
 unfold m32
 rw [abK hv.sm (g':=tc r) (own:=0) (λ _=>by unfold Cl; rw [aLs hv h]; rfl),aM,if_neg (show ¬ gl b≠0 by simp [tn.2 hv])]
 by_cases hc:cz b=[]
 ·rw [if_pos hc]
  unfold yv
  rw [Wo hv,if_pos hc]
  rfl
 ·rw [if_neg hc]
  unfold yv Qe FI
  rw [as3 hv rfl hc]
  simp only [ne_eq,jo,if_false,dn,bu]
  rw [zL (n:=b.aA.length) (yA b r) (2,0) (λ i hi=>?_) (by simp only [fj,bu])]
  ·cases (List.range b.aA.length).all (yA b r) with
   | false=>rfl
   | true =>
    simp only [if_true,aM,Sum.elim_inl]
    rw [aju hv (p:=λ c=>y9 b c r) (λ c hc=>aLu hv h.rows (z9.1 hc).1.1),aM,ajs]
    rfl
  ·simp only [dec_lt hi,bF,show (rG b).book=b from rfl,aLt hv hi (h.rows.row i hi).2,aM,cR (i:=i) (by omega)]
   cases yA b r i <;> rfl
theorem abH{a c:List Int}(ha:a.length≤1000)(_:c.length≤1000):Ch a c=some (G8 a c):=by
 unfold Ch G8
 refine (rL (DI a c) c.length (d:=false) (λ i hi=>?_) (by simp only [fj,bu]) rfl)
 simp only [dec_lt hi,bF,cF,bE hi]
 unfold DI
 by_cases h1:a.length≤i
 ·rw [show decide ((i:Int) ≥ (a.length:Int))=true by simp; omega,bF,if_pos h1]
  rfl
 ·rw [show decide ((i:Int) ≥ (a.length:Int))=false by simp; omega,bu,if_neg h1]
  simp only [bE (show i < a.length by omega),aM]
  by_cases h2:nth a i < nth c i
  ·rw [fN h2,if_pos h2]; rfl
  ·rw [gE h2,if_neg h2,bu]
   by_cases h3:nth a i > nth c i
   ·rw [fN h3,if_pos h3]; rfl
   ·rw [gE h3,if_neg h3,bu,cR (i:=i) (by omega)]
theorem aQE{α:Type}[Inhabited α]{a c:List α}{k:Nat}(ha:k≤a.length)(hc:k≤c.length)(h:∀ m,m < k→nth a m=nth c m):a.take k=c.take k :=
 Sq (by rw [jP,jP]; omega) λ i hi=>by
  rw [jP] at hi
  rw [sY (by omega),sY (by omega)]
  exact h i (by omega)
theorem age{a c:List Int}(h:a.length=c.length):(G8 a c=true∧N2 a c)∨(G8 a c=false∧N2 c a)∨(G8 a c=false∧a=c):=by
 unfold G8
 cases he:eg (DI a c) 0 c.length with
 | none =>
  rw [nX] at he
  refine .inr (.inr ⟨rfl,Sq h λ i hi=>?_⟩)
  have:=he i (by omega) (by omega)
  unfold DI at this
  rw [if_neg (by omega)] at this
  split at this
  ·cases this
  ·split at this
   ·cases this
   ·omega
 | some o =>
  obtain ⟨j,_,hj,b,hb⟩:=r8 he
  have heq:∀ m,m < j→nth a m=nth c m:=λ m hm=>by
   have:=hb m (by omega) hm
   unfold DI at this
   rw [if_neg (by omega)] at this
   split at this
   ·cases this
   ·split at this
    ·cases this
    ·omega
  have ht:=aQE (a:=a) (c:=c) (k:=j) (by omega) (by omega) heq
  unfold DI at b
  rw [if_neg (by omega)] at b
  split at b
  ·rename_i d
   cases b
   exact .inl ⟨rfl,j,by omega,by omega,ht,d⟩
  ·split at b
   ·rename_i hgt
    cases b
    exact .inr (.inl ⟨rfl,j,by omega,by omega,ht.symm,hgt⟩)
   ·cases b
theorem aNb{a c:List Int}(h:a.length=c.length)(ha:a.length≤1000):yq a c=some (decide (a=c)):=by
 unfold yq
 rw [abH ha (by omega),aM]
 rcases age h with ⟨e,hl⟩ | ⟨e,hl⟩ | ⟨e,rfl⟩
 ·rw [e]
  have:a≠c:=λ hh=>alb a (by rw [← hh] at hl; exact hl)
  rw [gE this]
  rfl
 ·rw [e,Bool.not_false,bF,abH (by omega) ha,aM]
  have b:a≠c:=λ hh=>alb a (by rw [← hh] at hl; exact hl)
  rw [gE b]
  rcases age h.symm with ⟨e2,_⟩ | ⟨_,d⟩ | ⟨_,e3⟩
  ·rw [e2]; rfl
  ·exact absurd d (aPJ _ _ hl)
  ·exact absurd e3.symm b
 ·rw [e,Bool.not_false,bF,abH ha ha,e,fN rfl]
  rfl
theorem Bl.rl{b:an}(hv:Valid b){r:List (List Int)}(h:Bl b r):∀ i,i < b.aA.length→(nth r i).length≤1000:=λ i hi=>by
 have h1:=(h.row i hi).1
 have h3:=(hv.dv hi).sV
 omega
end Go.Proofs.YtihapemckcdicaaGreatDoor
