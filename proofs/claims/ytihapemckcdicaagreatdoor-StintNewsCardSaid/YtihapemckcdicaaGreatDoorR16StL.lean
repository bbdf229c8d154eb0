/- Plain laws of chapter 5. Conditions: none. -/
import Derived.Test.YtihapemckcdicaaGreatDoorQFStP
import Derived.Test.YtihapemckcdicaaGreatDoorQFStC
import Derived.Test.YtihapemckcdicaaGreatDoorQFStM
namespace Go.Proofs.YtihapemckcdicaaGreatDoor
open Go.Lg Go.Proofs
set_option maxRecDepth 10000
def vL(x:Reach)(a c:Int):Bool:=decide (a≤x.cj) && (decide (x.cj≤x.dh) && decide (x.dh≤c))
def Ah(x:Reach)(w:Int):Bool:=decide (x.dh - x.cj < w)
theorem aFG{x:Reach}{a c:Int}(ha : -1000000≤a)(hc:c≤1000000)(h:vL x a c=true):i64 (x.dh - x.cj)=x.dh - x.cj:=by
 simp only [vL,Bool.and_eq_true,decide_eq_true_eq] at h
 exact rS (by omega) (by omega)
theorem aCI{x:Reach}{a c:Int}:vL x a c=true↔a≤x.cj∧x.cj≤x.dh∧x.dh≤c:=by simp [vL]
theorem aFH{x:Reach}{w:Int}:Ah x w=true↔x.dh - x.cj < w:=by simp [Ah]
def sf(x:Reach):List Int:=(List.range (x.dh+1 - x.cj).toNat).map λ (j:Nat)=>x.cj+(j:Int)
theorem aBx{x:Reach}{n:Int}:n∈sf x↔x.cj≤n∧n≤x.dh:=by
 simp only [sf,List.mem_map,List.mem_range]
 constructor
 ·rintro ⟨j,hj,rfl⟩; omega
 ·intro h; exact ⟨(n - x.cj).toNat,by omega,by omega⟩
theorem aeB{x:Reach}(h:x.dh - x.cj < 3):(sf x).length≤3:=by simp [sf]; omega
instance:Inhabited da:=⟨⟨0,0⟩⟩
instance:Inhabited Reach:=⟨⟨0,0⟩⟩
instance:Inhabited eQ:=⟨⟨⟨#[]⟩,0⟩⟩
instance:Inhabited ll:=⟨⟨0,0,0,0⟩⟩
instance:Inhabited cz:=⟨⟨0,0,false⟩⟩
instance:Inhabited bt:=⟨⟨[0,0,0]⟩⟩
theorem qJ(n a c:Int):ko n a c=some (cD n a c):=by
 unfold ko cD
 cases decide (a≤n) <;> rfl
theorem pV(n a c:Int):lf n a c=some (cD n a c):=by
 unfold lf cD
 cases decide (a≤n) <;> rfl
theorem az9(x:Reach)(a c:Int):Jt x a c=some (vL x a c):=by
 unfold Jt vL
 cases decide (a≤x.cj) <;> cases decide (x.cj≤x.dh) <;> rfl
theorem aAH{x:Reach}{a c w:Int}(ha : -1000000≤a)(hc:c≤1000000):Cr x a c w=some (vL x a c && Ah x w):=by
 unfold Cr vL Ah
 by_cases h1:a≤x.cj
 ·by_cases h2:x.cj≤x.dh
  ·by_cases h3:x.dh≤c
   ·simp [h1,h2,h3,rS (z:=x.dh - x.cj) (by omega) (by omega)]
   ·simp [h1,h2,h3]
  ·simp [h1,h2]
 ·simp [h1]
theorem QQ{α:Type}[Inhabited α]{l:List α}{f:α→Option Bool}{p:α→Bool}(hl:l.length≤1000)(hf:∀ x∈l,f x=some (p x)):((bD (O:=(Unit ⊕ Int)) (λ (cT:Int) =>
 ag (decide (cT < (l.length:Int)))
 ((idx l cT).bind λ kA =>
 (f kA).bind λ kR =>
 ag kR
 (some (.inr (.inr cT)))
 (some (.inl (i64 (cT+1)))))
 (some (.inr (.inl ())))) 0).bind (Sum.elim (λ (_:Unit) =>
 some (-1))
  (λ q=>some q))).bind (λ c9=>some (decide (c9 ≥ 0)))=some (l.any p):=by
 rw [vO (λ i=>if p (nth l i) then some (i:Int) else none) l.length (d:=(-1)) (λ i hi=>?_) (by simp only [gB,bI]) rfl]
 ·rw [Option.bind_some,amV p l]
 ·simp only [dec_lt hi,b9,fZ,dQ hi,Option.bind_some,hf _ (l8 hi),fH (i:=i) (by omega)]
  cases p (nth l i) <;> rfl
theorem aAE{l:List Reach}{f:Reach→Option Bool}{p:Reach→Bool}(hl:l.length≤1000)(hf:∀ x∈l,f x=some (p x)):E5 l f=some (l.any p):=QQ hl hf
theorem aAL{l:List eQ}{f:eQ→Option Bool}{p:eQ→Bool}(hl:l.length≤1000)(hf:∀ x∈l,f x=some (p x)):E6 l f=some (l.any p):=QQ hl hf
theorem aAd{l:List cz}{f:cz→Option Bool}{p:cz→Bool}(hl:l.length≤1000)(hf:∀ x∈l,f x=some (p x)):EY l f=some (l.any p):=QQ hl hf
structure Small (b:ao):Prop where
 rows:b.Rows.length≤20
 places:b.aO.length≤20
 qM:b.aH.length≤20
 DW:b.aR.length≤20
 Oa:b.aN.length≤20
 each:∀ p∈b.aH,p.Name.size≤100
def Hn(b:ao):Bool :=
 decide (20 < b.Rows.length) || (decide (20 < b.aO.length) || (decide (20 < b.aH.length) || (decide (20 < b.aR.length) || (decide (20 < b.aN.length) || b.aH.any λ p=>decide (100 < p.Name.size)))))
theorem uN{n m:Nat}:decide ((n:Int) > (m:Int))=decide (m < n):=by
 by_cases h:m < n <;> simp [h]
theorem aAi(b:ao):Jw b=some (Hn b):=by
 unfold Jw Hn
 have e1:decide ((b.Rows.length:Int) > 20)=decide (20 < b.Rows.length):=uN (m:=20)
 have e2:decide ((b.aO.length:Int) > 20)=decide (20 < b.aO.length):=uN (m:=20)
 have e3:decide ((b.aH.length:Int) > 20)=decide (20 < b.aH.length):=uN (m:=20)
 have e4:decide ((b.aR.length:Int) > 20)=decide (20 < b.aR.length):=uN (m:=20)
 have e5:decide ((b.aN.length:Int) > 20)=decide (20 < b.aN.length):=uN (m:=20)
 rw [e1,e2,e3,e4,e5]
 by_cases h1:20 < b.Rows.length
 ·simp [h1]
 by_cases h2:20 < b.aO.length
 ·simp [h1,h2]
 by_cases h3:20 < b.aH.length
 ·simp [h1,h2,h3]
 by_cases h4:20 < b.aR.length
 ·simp [h1,h2,h3,h4]
 by_cases h5:20 < b.aN.length
 ·simp [h1,h2,h3,h4,h5]
 simp only [h1,h2,h3,h4,h5,decide_false,bI,Option.bind_some,Bool.false_or]
 rw [vO (λ i=>if decide (100 < (nth b.aH i).Name.size) then some true else none) b.aH.length (d:=false) (λ i hi=>?_) (by simp only [gB,bI]) rfl]
 ·rw [abw (λ p:eQ=>decide (100 < p.Name.size)) b.aH]
 ·have f1:decide (((nth b.aH i).Name.size:Int) > 100)=decide (100 < (nth b.aH i).Name.size):=uN (m:=100)
  simp only [dec_lt hi,b9,fZ,dQ hi,Option.bind_some,f1,fH (i:=i) (by omega)]
  cases decide (100 < (nth b.aH i).Name.size) <;> rfl
theorem am7{b:ao}(h:Hn b=false):Small b:=by
 simp only [Hn,Bool.or_eq_false_iff,decide_eq_false_iff_not,List.any_eq_false,decide_eq_true_eq] at h
 obtain ⟨h1,h2,h3,h4,h5,h6⟩:=h
 exact ⟨by omega,by omega,by omega,by omega,by omega,λ p hp=>by have:=h6 p hp; omega⟩
theorem adp{n:Int}(h1:0≤n)(h2:n < 256):Ci n=some (isLet n):=by unfold Ci isLet; rw [rS (by omega) (by omega),pV]; rfl
theorem aAl{n:Int}(h1:0≤n)(h2:n < 256):E1 n=some (xp n):=by unfold E1 xp; rw [rS (by omega) (by omega),pV]; rfl
theorem aAb{s:ByteArray}(hs:s.size≤1000):Ju s=some (o6 s):=by
 unfold Ju o6
 rw [pV,Option.bind_some]
 cases hb:cD (s.size:Int) 1 12 with
 | false =>
  simp only [Bool.not_false,b9,Option.bind_some]
  congr 1
  cases hf:eL (nK s) 0 s.size with
  | none=>rfl
  | some o=>rw [acH hf]; rfl
 | true =>
  have h1:1≤s.size:=by
   simp only [cD,Bool.and_eq_true,decide_eq_true_eq] at hb
   omega
  have oY:0 < (gP s).length:=by rw [Og]; omega
  obtain ⟨g1,g2⟩:=aeW (s:=s) (i:=0) (by omega)
  have Eo:uk s 0=some (nth (gP s) 0):=by unfold uk; rw [← dQ oY]; exact fZ _ 0
  simp only [Bool.not_true,bI,Eo,Option.bind_some,adp g1 g2]
  have hu:eL (nK s) 0 s.size=match nK s 0 with | some o=>some o | none=>eL (nK s) 1 (s.size - 1):=by
   obtain ⟨k,hk⟩:∃ k,s.size=k+1:=⟨s.size - 1,by omega⟩
   rw [hk]
   simp only [eL,Nat.add_sub_cancel,Nat.zero_add]
   cases nK s 0 <;> rfl
  rw [hu]
  unfold nK
  cases hl:isLet (nth (gP s) 0) with
  | false=>rfl
  | true =>
   simp only [Bool.not_true,bI,Bool.true_eq_false,if_false]
   have e2:=search (body:=λ (p6:Int) =>
    ag (decide (p6 < (s.size:Int)))
    ((uk s p6).bind λ qd =>
    (Ci qd).bind λ mR =>
    ag (!mR)
    ((uk s p6).bind λ je =>
    (E1 je).bind λ pz =>
    ag (!pz)
    (some (.inr (.inr false)))
    (some (.inl (i64 (p6+1)))))
    (some (.inl (i64 (p6+1)))))
    (some (.inr (.inl ())))) (nK s) 1 s.size (d:=true) (g:=λ _=>some true) (λ i hi1 hi=>?_) (by simp only [gB,bI]) h1 rfl
   ·exact e2
   ·have hi2:i < (gP s).length:=by rw [Og]; exact hi
    obtain ⟨k1,k2⟩:=aeW hi
    have hsi:uk s (i:Int)=some (nth (gP s) i):=by unfold uk; rw [← dQ hi2]; exact fZ _ i
    simp only [dec_lt hi,b9,hsi,Option.bind_some,adp k1 k2,aAl k1 k2,fH (i:=i) (by omega)]
    have h0:i≠0:=by omega
    unfold nK
    cases isLet (nth (gP s) i) with
    | true=>rfl
    | false =>
     simp only [Bool.not_false,b9,h0,if_false,if_true]
     cases xp (nth (gP s) i) <;> rfl
theorem aAJ(s:ByteArray):JC s=some (o6 s):=rfl
def xS(b:ao)(i:Nat):Option Int :=
 if (cD (nth b.Rows i).cF 1 30 && cD (nth b.Rows i).dS 1 60)=false then some 1
 else if 0 < i then (if (nth b.Rows i).cF≤(nth b.Rows (i - 1)).cF then some 7 else if (nth b.Rows i).dS > (nth b.Rows (i - 1)).dS then some 7 else none) else none
def si(b:ao):Int:=if cD (b.Rows.length:Int) 1 4=false then 2 else (eL (xS b) 0 b.Rows.length).getD 0
def tU(x:Reach):Bool:=vL x 1 30 && Ah x 3
def qU(b:ao):Int:=if cD (b.aO.length:Int) 1 3=false then 2 else if b.aO.any (λ x=>!tU x)=true then 1 else 0
def xW(p q:eQ):Bool:=q.Name.toList == p.Name.toList
def vD(b:ao)(i:Nat):Option Int :=
 if o6 (nth b.aH i).Name=false then some 4 else if (b.aH.take i).any (xW (nth b.aH i))=true then some 5 else if cD (nth b.aH i).np 1 30=false then some 1 else none
def r6(b:ao):Int:=if cD (b.aH.length:Int) 1 4=false then 2 else (eL (vD b) 0 b.aH.length).getD 0
def rU(b:ao)(n:Int):Bool:=cD n 0 ((b.aO.length:Int) - 1)
def sZ(b:ao)(i:Nat):Option Int :=
 if rU b (nth b.aR i).Place=false then some 6 else if (cD (nth b.aR i).lj 0 200 && (cD (nth b.aR i).kD 1 60 && cD (nth b.aR i).aH 1 3))=false then some 1 else none
def uO(b:ao):Int:=if cD (b.aR.length:Int) 1 4=false then 2 else (eL (sZ b) 0 b.aR.length).getD 0
def xZ(b:ao)(i:Nat):Option Int :=
 if rU b (nth b.aN i).Place=false then some 6 else if cD (nth b.aN i).fW 0 30=false then some 1 else none
def Ac(b:ao):Int:=if 3 < b.aN.length then 2 else (eL (xZ b) 0 b.aN.length).getD 0
def gr(b:ao):Int:=if cD b.Rest 0 60=false then 1 else if si b≠0 then si b else if qU b≠0 then qU b else if r6 b≠0 then r6 b else if uO b≠0 then uO b else Ac b
theorem ade{n:Int}{m:Nat}(hm:m≤1000):o7 n (m:Int)=some (if cD n 0 ((m:Int) - 1)=false then 6 else 0):=by
 unfold o7
 rw [qJ,Option.bind_some,rS (by omega) (by omega)]
 cases cD n 0 ((m:Int) - 1) <;> rfl
theorem aAu{b:ao}(h:Small b):Ck b=some (si b):=by
 unfold Ck si
 have hr:=h.rows
 rw [qJ,Option.bind_some]
 cases cD (b.Rows.length:Int) 1 4 with
 | false=>rfl
 | true =>
  simp only [Bool.not_true,bI,Bool.true_eq_false,if_false]
  refine vO (xS b) b.Rows.length (λ i hi=>?_) (by simp only [gB,bI]) rfl
  simp only [dec_lt hi,b9,fZ,dQ hi,Option.bind_some,qJ,fH (i:=i) (by omega)]
  unfold xS
  cases cD (nth b.Rows i).cF 1 30 with
  | false=>rfl
  | true =>
   cases cD (nth b.Rows i).dS 1 60 with
   | false=>rfl
   | true =>
    by_cases hp:0 < i
    ·simp only [aan hp,Bool.not_true,bI,b9,acy (i:=i) (by omega) hp,fZ,dQ (show i - 1 < b.Rows.length by omega),Option.bind_some,hp,if_true,Bool.and_self,Bool.true_eq_false,if_false]
     by_cases hc:(nth b.Rows i).cF≤(nth b.Rows (i - 1)).cF
     ·simp [hc]
     ·by_cases hd:(nth b.Rows i).dS > (nth b.Rows (i - 1)).dS
      ·simp [hc,hd]
      ·simp [hc,hd]
    ·simp [hp]
theorem azG{b:ao}(h:Small b):Jp b=some (if cD b.Rest 0 60=false then 1 else si b):=by
 unfold Jp si
 have hr:=h.rows
 rw [pV,Option.bind_some]
 cases cD b.Rest 0 60 with
 | false=>rfl
 | true =>
 simp only [Bool.not_true,bI,Bool.true_eq_false,if_false]
 rw [pV,Option.bind_some]
 cases cD (b.Rows.length:Int) 1 4 with
 | false=>rfl
 | true =>
  simp only [Bool.not_true,bI,Bool.true_eq_false,if_false]
  refine vO (xS b) b.Rows.length (λ i hi=>?_) (by simp only [gB,bI]) rfl
  simp only [dec_lt hi,b9,fZ,dQ hi,Option.bind_some,pV,fH (i:=i) (by omega)]
  unfold xS
  cases cD (nth b.Rows i).cF 1 30 with
  | false=>rfl
  | true =>
   cases cD (nth b.Rows i).dS 1 60 with
   | false=>rfl
   | true =>
    by_cases hp:0 < i
    ·simp only [aan hp,Bool.not_true,bI,b9,acy (i:=i) (by omega) hp,fZ,dQ (show i - 1 < b.Rows.length by omega),Option.bind_some,hp,if_true,Bool.and_self,Bool.true_eq_false,if_false]
     by_cases hc:(nth b.Rows i).cF≤(nth b.Rows (i - 1)).cF
     ·simp [hc]
     ·by_cases hd:(nth b.Rows i).dS > (nth b.Rows (i - 1)).dS
      ·simp [hc,hd]
      ·simp [hc,hd]
    ·simp [hp]
theorem aAw{b:ao}(h:Small b):Cl b=some (qU b):=by
 unfold Cl qU
 rw [qJ,Option.bind_some]
 cases cD (b.aO.length:Int) 1 3 with
 | false=>rfl
 | true =>
  have hp:=h.places
  simp only [Bool.not_true,bI,Bool.true_eq_false,if_false]
  rw [aAE (p:=λ x=>!tU x) (by omega) (λ x _=>by unfold Cq tU; rw [aAH (by omega) (by omega)]; rfl),Option.bind_some]
  cases b.aO.any λ x=>!tU x <;> rfl
theorem aAy{b:ao}(h:Small b):Cm b=some (r6 b):=by
 unfold Cm r6
 rw [qJ,Option.bind_some]
 cases cD (b.aH.length:Int) 1 4 with
 | false=>rfl
 | true =>
  have hp:=h.qM
  simp only [Bool.not_true,bI,Bool.true_eq_false,if_false]
  refine vO (vD b) b.aH.length (λ i hi=>?_) (by simp only [gB,bI]) rfl
  simp only [dec_lt hi,b9,fZ,dQ hi,Option.bind_some,aAJ,ajz (show i≤b.aH.length by omega),qJ,
   aAL (l:=b.aH.take i) (f:=λ y=>Cs y (nth b.aH i)) (p:=xW (nth b.aH i)) (by simp; omega) (λ x _=>rfl),fH (i:=i) (by omega)]
  unfold vD
  cases o6 (nth b.aH i).Name with
  | false=>rfl
  | true =>
   cases (b.aH.take i).any (xW (nth b.aH i)) with
   | true=>rfl
   | false=>cases cD (nth b.aH i).np 1 30 <;> rfl
theorem azI{b:ao}(h:Small b):Jq b=some (if qU b≠0 then qU b else r6 b):=by
 unfold Jq qU
 rw [pV,Option.bind_some]
 cases cD (b.aO.length:Int) 1 3 with
 | false=>rfl
 | true =>
  have hp:=h.places
  simp only [Bool.not_true,bI,Bool.true_eq_false,if_false]
  rw [Xg (λ i=>if (λ x=>!tU x) (nth b.aO i) then some (1:Int) else none) b.aO.length (λ i hi=>?_) (by simp only [gB,bI])]
  ·rw [abx (λ x=>!tU x) (1:Int) b.aO b.aO.length (Nat.le_refl _),List.take_length]
   cases b.aO.any λ x=>!tU x with
   | true=>rfl
   | false =>
    simp only [Bool.false_eq_true,if_false,Option.bind_some,Sum.elim_inl,ne_eq,not_true_eq_false]
    unfold r6
    rw [pV,Option.bind_some]
    cases cD (b.aH.length:Int) 1 4 with
    | false=>rfl
    | true =>
     have hm:=h.qM
     simp only [Bool.not_true,bI,Bool.true_eq_false,if_false]
     refine vO (vD b) b.aH.length (λ i hi=>?_) (by simp only [gB,bI]) rfl
     have hn:=h.each _ (l8 hi)
     simp only [dec_lt hi,b9,fZ,dQ hi,Option.bind_some,aAb (show (nth b.aH i).Name.size≤1000 by omega)]
     rw [Xg (λ k=>if xW (nth b.aH i) (nth b.aH k) then some (5:Int) else none) i (λ k hk=>?_) (by simp only [gB,bI])]
     ·rw [abx (xW (nth b.aH i)) (5:Int) b.aH i (by omega)]
      simp only [pV,Option.bind_some,fH (i:=i) (by omega)]
      unfold vD
      cases o6 (nth b.aH i).Name with
      | false=>rfl
      | true =>
       cases (b.aH.take i).any (xW (nth b.aH i)) with
       | true=>rfl
       | false=>cases cD (nth b.aH i).np 1 30 <;> rfl
     ·simp only [dec_lt hk,b9,fZ,dQ (show k < b.aH.length by omega),Option.bind_some,fH (i:=k) (by omega)]
      rw [show ((nth b.aH k).Name.toList == (nth b.aH i).Name.toList)=xW (nth b.aH i) (nth b.aH k) from rfl]
      cases xW (nth b.aH i) (nth b.aH k) <;> rfl
  ·simp only [dec_lt hi,b9,fZ,dQ hi,Option.bind_some,az9,fH (i:=i) (by omega)]
   unfold tU
   by_cases hr:vL (nth b.aO i) 1 30=true
   ·have hw:decide (i64 ((nth b.aO i).dh - (nth b.aO i).cj) ≥ 3)=!Ah (nth b.aO i) 3:=by
     rw [aFG (by omega) (by omega) hr]
     unfold Ah
     by_cases hx:(nth b.aO i).dh - (nth b.aO i).cj < 3
     ·simp [hx]
     ·simp [hx]; omega
    rw [hw]
    by_cases hx:Ah (nth b.aO i) 3=true
    ·simp [hr,hx,bI]
    ·simp [hr,hx,bI,b9]
   ·simp [hr,b9]
theorem aAA{b:ao}(h:Small b):Co b=some (uO b):=by
 unfold Co uO
 rw [qJ,Option.bind_some]
 cases cD (b.aR.length:Int) 1 4 with
 | false=>rfl
 | true =>
  have hp:=h.places
  have hd:=h.DW
  simp only [Bool.not_true,bI,Bool.true_eq_false,if_false]
  refine vO (sZ b) b.aR.length (λ i hi=>?_) (by simp only [gB,bI]) rfl
  simp only [dec_lt hi,b9,fZ,dQ hi,Option.bind_some,ade (show b.aO.length≤1000 by omega),qJ,fH (i:=i) (by omega)]
  unfold sZ rU
  cases cD (nth b.aR i).Place 0 ((b.aO.length:Int) - 1) with
  | false=>rfl
  | true=>cases cD (nth b.aR i).lj 0 200 <;> cases cD (nth b.aR i).kD 1 60 <;> cases cD (nth b.aR i).aH 1 3 <;> rfl
theorem aAC{b:ao}(h:Small b):Cp b=some (Ac b):=by
 unfold Cp Ac
 have e:decide ((b.aN.length:Int) > 3)=decide (3 < b.aN.length):=uN (m:=3)
 rw [e]
 by_cases h3:3 < b.aN.length
 ·simp [h3]
 have hp:=h.places
 simp only [h3,decide_false,bI,if_false]
 refine vO (xZ b) b.aN.length (λ i hi=>?_) (by simp only [gB,bI]) rfl
 simp only [dec_lt hi,b9,fZ,dQ hi,Option.bind_some,ade (show b.aO.length≤1000 by omega),qJ,fH (i:=i) (by omega)]
 unfold xZ rU
 cases cD (nth b.aN i).Place 0 ((b.aO.length:Int) - 1) with
 | false=>rfl
 | true=>cases cD (nth b.aN i).fW 0 30 <;> rfl
theorem adP{z:Int}{a c:Option Int}:ag (z != 0) a c=if z≠0 then a else c:=by
 by_cases h:z=0
 ·subst h; rfl
 ·rw [if_pos h,pb h]; rfl
theorem zI{b:ao}(h:Small b):o8 b=some (gr b):=by
 unfold o8 gr
 rw [show (⟨b.Rest,b.Rows,b.aO,b.aH,b.aR,b.aN⟩:ao)=b from rfl]
 unfold E4
 rw [qJ,Option.bind_some]
 cases cD b.Rest 0 60 with
 | false=>rfl
 | true =>
  simp only [Bool.not_true,bI,Option.bind_some,aAu h,aAw h,aAy h,aAA h,aAC h,adP,Bool.true_eq_false,if_false]
  by_cases h1:si b=0
  ·by_cases h2:qU b=0
   ·by_cases h3:r6 b=0
    ·by_cases h4:uO b=0
     ·by_cases h5:Ac b=0
      ·simp [h1,h2,h3,h4,h5]
      ·simp [h1,h2,h3,h4,h5]
     ·simp [h1,h2,h3,h4]
    ·simp [h1,h2,h3]
   ·simp [h1,h2]
  ·simp [h1]
theorem ada{b:ao}{n:Int}(h:Small b):EJ b n=some (rU b n):=by
 unfold EJ rU
 have hp:=h.places
 rw [pV,rS (by omega) (by omega)]
 rfl
theorem Nk{b:ao}(h:Small b):zG b=some (gr b):=by
 unfold zG gr
 rw [azG h,Option.bind_some]
 cases cD b.Rest 0 60 with
 | false=>rfl
 | true =>
  have hp:=h.places
  have hd:=h.DW
  have hs:=h.Oa
  simp only [Bool.true_eq_false,if_false,azI h,Option.bind_some,adP]
  by_cases h1:si b=0
  ·by_cases h2:qU b=0
   ·by_cases h3:r6 b=0
    ·simp only [h1,h2,h3,ne_eq,not_true_eq_false,if_false]
     unfold uO
     rw [pV,Option.bind_some]
     cases cD (b.aR.length:Int) 1 4 with
     | false=>rfl
     | true =>
      simp only [Bool.not_true,bI,Bool.true_eq_false,if_false]
      rw [Xg (sZ b) b.aR.length (λ i hi=>?_) (by simp only [gB,bI])]
      ·cases hf:eL (sZ b) 0 b.aR.length with
       | some o =>
        simp only [Option.bind_some,Sum.elim_inr,Option.getD_some]
        rw [if_pos]
        rintro rfl
        obtain ⟨j,_,_,he,_⟩:=wB hf
        unfold sZ at he
        split at he
        ·cases he
        ·split at he <;> cases he
       | none =>
        simp only [Option.bind_some,Sum.elim_inl,Option.getD_none,not_true_eq_false,if_false]
        unfold Ac
        have e:decide ((b.aN.length:Int) > 3)=decide (3 < b.aN.length):=uN (m:=3)
        rw [e]
        by_cases h3:3 < b.aN.length
        ·simp [h3]
        simp only [h3,decide_false,bI,if_false]
        refine vO (xZ b) b.aN.length (λ i hi=>?_) (by simp only [gB,bI]) rfl
        simp only [dec_lt hi,b9,fZ,dQ hi,Option.bind_some,ada h,pV,fH (i:=i) (by omega)]
        unfold xZ
        cases rU b (nth b.aN i).Place with
        | false=>rfl
        | true=>cases cD (nth b.aN i).fW 0 30 <;> rfl
      ·simp only [dec_lt hi,b9,fZ,dQ hi,Option.bind_some,ada h,pV,fH (i:=i) (by omega)]
       unfold sZ
       cases rU b (nth b.aR i).Place with
       | false=>rfl
       | true=>cases cD (nth b.aR i).lj 0 200 <;> cases cD (nth b.aR i).kD 1 60 <;> cases cD (nth b.aR i).aH 1 3 <;> rfl
    ·simp [h1,h2,h3]
   ·simp [h1,h2]
  ·simp [h1]
end Go.Proofs.YtihapemckcdicaaGreatDoor
namespace Go.Proofs.YtihapemckcdicaaGreatDoor
open Go.Lg Go.Proofs
set_option maxRecDepth 10000
structure ahL (r:da):Prop where
 depth:1≤r.cF∧r.cF≤30
 stay:1≤r.dS∧r.dS≤60
structure agH (P:Nat) (d:ll):Prop where
 place:0≤d.Place∧d.Place < (P:Int)
 beg:0≤d.lj∧d.lj≤200
 aEe:1≤d.kD∧d.kD≤60
 qM:1≤d.aH∧d.aH≤3
structure YR (P:Nat) (s:cz):Prop where
 place:0≤s.Place∧s.Place < (P:Int)
 line:0≤s.fW∧s.fW≤30
structure Valid (b:ao):Prop where
 rest:0≤b.Rest∧b.Rest≤60
 r1:1≤b.Rows.length
 r4:b.Rows.length≤4
 row:∀ r∈b.Rows,ahL r
 aac:∀ i,0 < i→i < b.Rows.length→(nth b.Rows (i - 1)).cF < (nth b.Rows i).cF∧(nth b.Rows i).dS≤(nth b.Rows (i - 1)).dS
 p1:1≤b.aO.length
 p3:b.aO.length≤3
 place:∀ x∈b.aO,1≤x.cj∧x.cj≤x.dh∧x.dh≤30∧x.dh - x.cj < 3
 m1:1≤b.aH.length
 m4:b.aH.length≤4
 WB:∀ m∈b.aH,o6 m.Name=true∧1≤m.np∧m.np≤30
 names:∀ i,i < b.aH.length→(b.aH.take i).any (xW (nth b.aH i))=false
 d1:1≤b.aR.length
 d4:b.aR.length≤4
 aaq:∀ d∈b.aR,agH b.aO.length d
 s3:b.aN.length≤3
 sound:∀ s∈b.aN,YR b.aO.length s
theorem aDd{b:ao}(i:Nat):xS b i≠some 0:=by
 unfold xS
 intro h
 repeat' split at h
 all_goals cases h
theorem aBp{b:ao}(i:Nat):vD b i≠some 0:=by
 unfold vD
 intro h
 repeat' split at h
 all_goals cases h
theorem ajF{b:ao}(i:Nat):sZ b i≠some 0:=by
 unfold sZ
 intro h
 repeat' split at h
 all_goals cases h
theorem aDE{b:ao}(i:Nat):xZ b i≠some 0:=by
 unfold xZ
 intro h
 repeat' split at h
 all_goals cases h
theorem Xf{b:ao}{i:Nat}:xS b i=none↔((1≤(nth b.Rows i).cF∧(nth b.Rows i).cF≤30)∧(1≤(nth b.Rows i).dS∧(nth b.Rows i).dS≤60))∧(0 < i→(nth b.Rows (i - 1)).cF < (nth b.Rows i).cF∧(nth b.Rows i).dS≤(nth b.Rows (i - 1)).dS):=by
 unfold xS
 by_cases h1:(cD (nth b.Rows i).cF 1 30 && cD (nth b.Rows i).dS 1 60)=false
 ·rw [if_pos h1]
  simp only [reduceCtorEq,false_iff]
  rintro ⟨⟨h2,h3⟩,_⟩
  rw [iE.2 h2,iE.2 h3] at h1
  cases h1
 ·rw [if_neg h1]
  simp only [Bool.not_eq_false,Bool.and_eq_true,iE] at h1
  by_cases h0:0 < i
  ·rw [if_pos h0]
   constructor
   ·intro h
    split at h
    ·cases h
    ·split at h
     ·cases h
     ·exact ⟨h1,λ _=>by omega⟩
   ·rintro ⟨_,h2⟩
    have:=h2 h0
    rw [if_neg (by omega),if_neg (by omega)]
  ·rw [if_neg h0]
   exact ⟨λ _=>⟨h1,λ h=>absurd h h0⟩,λ _=>rfl⟩
theorem adX{x:Reach}:tU x=true↔1≤x.cj∧x.cj≤x.dh∧x.dh≤30∧x.dh - x.cj < 3:=by
 unfold tU
 rw [Bool.and_eq_true,aCI,aFH]
 omega
theorem oz{b:ao}:gr b=0↔Valid b:=by
 constructor
 ·intro h
  unfold gr at h
  by_cases h1:cD b.Rest 0 60=false
  ·rw [if_pos h1] at h; cases h
  rw [if_neg h1] at h
  by_cases h2:si b=0
  case neg=>rw [if_pos h2] at h; exact absurd h h2
  rw [if_neg (by simpa using h2)] at h
  by_cases h3:qU b=0
  case neg=>rw [if_pos h3] at h; exact absurd h h3
  rw [if_neg (by simpa using h3)] at h
  by_cases h4:r6 b=0
  case neg=>rw [if_pos h4] at h; exact absurd h h4
  rw [if_neg (by simpa using h4)] at h
  by_cases h5:uO b=0
  case neg=>rw [if_pos h5] at h; exact absurd h h5
  rw [if_neg (by simpa using h5)] at h
  unfold si at h2
  unfold qU at h3
  unfold r6 at h4
  unfold uO at h5
  unfold Ac at h
  split at h2
  ·cases h2
  rename_i g2
  split at h3
  ·cases h3
  rename_i g3
  split at h3
  ·cases h3
  rename_i k3
  split at h4
  ·cases h4
  rename_i g4
  split at h5
  ·cases h5
  rename_i g5
  split at h
  ·cases h
  rename_i g6
  simp only [Bool.not_eq_false,iE] at h1 g2 g3 g4 g5
  have r:=L5 aDd h2
  have m:=L5 aBp h4
  have d:=L5 ajF h5
  have s:=L5 aDE h
  refine ⟨h1,by omega,by omega,λ x hx=>?_,λ i h0 hi=>(Xf.1 (r i hi)).2 h0,by omega,by omega,λ x hx=>?_,by omega,by omega,λ x hx=>?_,λ i hi=>?_,by omega,by omega,λ x hx=>?_,by omega,λ x hx=>?_⟩
  ·obtain ⟨i,hi,rfl⟩:=zO hx
   obtain ⟨⟨q1,q2⟩,_⟩:=Xf.1 (r i hi)
   exact ⟨q1,q2⟩
  ·have:b.aO.any (λ x=>!tU x)=false:=by simpa using k3
   rw [List.any_eq_false] at this
   have:=this x hx
   exact adX.1 (by simpa using this)
  ·obtain ⟨i,hi,rfl⟩:=zO hx
   have:=m i hi
   unfold vD at this
   split at this
   ·cases this
   ·split at this
    ·cases this
    ·split at this
     ·cases this
     ·rename_i q1 q2 q3
      rw [Bool.not_eq_false,iE] at q3
      exact ⟨by simpa using q1,q3⟩
  ·have:=m i hi
   unfold vD at this
   split at this
   ·cases this
   ·split at this
    ·cases this
    ·rename_i q1 q2
     simpa using q2
  ·obtain ⟨i,hi,rfl⟩:=zO hx
   have:=d i hi
   unfold sZ rU at this
   split at this
   ·cases this
   ·split at this
    ·cases this
    ·rename_i q1 q2
     rw [Bool.not_eq_false,iE] at q1
     rw [Bool.not_eq_false,Bool.and_eq_true,Bool.and_eq_true,iE,iE,iE] at q2
     exact ⟨by omega,q2.1,q2.2.1,q2.2.2⟩
  ·obtain ⟨i,hi,rfl⟩:=zO hx
   have:=s i hi
   unfold xZ rU at this
   split at this
   ·cases this
   ·split at this
    ·cases this
    ·rename_i q1 q2
     rw [Bool.not_eq_false,iE] at q1 q2
     exact ⟨by omega,q2⟩
 ·intro h
  have e1:si b=0:=by
   unfold si
   have hr1:=h.r1
   have hr4:=h.r4
   rw [if_neg (by rw [Bool.not_eq_false,iE]; omega),rI.2 λ i _ hi=>?_]
   ·rfl
   ·have hx:=h.row _ (l8 (l:=b.Rows) (i:=i) (by omega))
    exact Xf.2 ⟨⟨hx.depth,hx.stay⟩,λ h0=>h.aac i h0 (by omega)⟩
  have e2:qU b=0:=by
   unfold qU
   have h1:=h.p1
   have h3:=h.p3
   rw [if_neg (by rw [Bool.not_eq_false,iE]; omega),if_neg]
   rw [Bool.not_eq_true,List.any_eq_false]
   intro x hx
   simpa using adX.2 (h.place x hx)
  have e3:r6 b=0:=by
   unfold r6
   have h1:=h.m1
   have h4:=h.m4
   rw [if_neg (by rw [Bool.not_eq_false,iE]; omega),rI.2 λ i _ hi=>?_]
   ·rfl
   ·have hx:=h.WB _ (l8 (l:=b.aH) (i:=i) (by omega))
    unfold vD
    rw [if_neg (by simp [hx.1]),if_neg (by rw [h.names i (by omega)]; simp),if_neg (by rw [Bool.not_eq_false,iE]; exact hx.2)]
  have e4:uO b=0:=by
   unfold uO
   have h1:=h.d1
   have h4:=h.d4
   rw [if_neg (by rw [Bool.not_eq_false,iE]; omega),rI.2 λ i _ hi=>?_]
   ·rfl
   ·have hx:=h.aaq _ (l8 (l:=b.aR) (i:=i) (by omega))
    have hp:=hx.place
    unfold sZ rU
    rw [if_neg (by rw [Bool.not_eq_false,iE]; omega),if_neg]
    rw [Bool.not_eq_false,Bool.and_eq_true,Bool.and_eq_true,iE,iE,iE]
    exact ⟨hx.beg,hx.aEe,hx.qM⟩
  have e5:Ac b=0:=by
   unfold Ac
   have h3:=h.s3
   rw [if_neg (by omega),rI.2 λ i _ hi=>?_]
   ·rfl
   ·have hx:=h.sound _ (l8 (l:=b.aN) (i:=i) (by omega))
    have hp:=hx.place
    unfold xZ rU
    rw [if_neg (by rw [Bool.not_eq_false,iE]; omega),if_neg (by rw [Bool.not_eq_false,iE]; exact hx.line)]
  unfold gr
  rw [if_neg (by rw [Bool.not_eq_false,iE]; exact h.rest)]
  simp [e1,e2,e3,e4,e5]
theorem Valid.small{b:ao}(h:Valid b)(hn:∀ p∈b.aH,p.Name.size≤100):Small b:=by
 have h1:=h.r4
 have h2:=h.p3
 have h3:=h.m4
 have h4:=h.d4
 have h5:=h.s3
 exact ⟨by omega,by omega,by omega,by omega,by omega,hn⟩
theorem aya{s:ByteArray}(h:o6 s=true):s.size≤12:=by
 unfold o6 at h
 cases hf:eL (nK s) 0 s.size with
 | some o =>
  rw [hf,Option.getD_some] at h
  rw [acH hf] at h
  cases h
 | none =>
  rw [hf,Option.getD_none,iE] at h
  omega
theorem Valid.sm{b:ao}(h:Valid b):Small b:=h.small λ p hp=>by have:=aya (h.WB p hp).1; omega
theorem Valid.each{b:ao}(h:Valid b){i:Nat}(hi:i < b.aO.length):1≤(nth b.aO i).cj∧(nth b.aO i).cj≤(nth b.aO i).dh∧(nth b.aO i).dh≤30∧(nth b.aO i).dh - (nth b.aO i).cj < 3:=h.place _ (l8 hi)
theorem MX{α:Type}[Inhabited α]{l:List α}{n:Int}(h0:0≤n)(h:n < (l.length:Int)):idx l n=some (nth l n.toNat):=by
 unfold idx
 rw [if_pos h0]
 exact dQ (by omega)
def tY(b:ao)(w:List Int):Bool:=b.aN.all λ s=>decide (nth w s.Place.toNat≤s.fW) == s.jC
abbrev jG(b:ao):Nat→List Int→List Int:=λ i _=>sf (nth b.aO i)
def dm(b:ao):List (List Int):=(lvl (jG b) b.aO.length).filter (tY b)
theorem adL{b:ao}{c:List Int}:c∈dm b↔(c.length=b.aO.length∧∀ i,i < b.aO.length→(nth b.aO i).cj≤nth c i∧nth c i≤(nth b.aO i).dh)∧tY b c=true:=by
 unfold dm
 rw [List.mem_filter,Nt]
 simp only [jG,aBx]
def p9(c:List Int):bt:=⟨DV [0,0,0] c⟩
theorem aah{c:List Int}(h:c.length≤3):(DV [0,0,0] c).length=3∧(∀ i,i < c.length→nth (DV [0,0,0] c) i=nth c i)∧∀ i,c.length≤i→i < 3→nth (DV [0,0,0] c) i=0:=by
 match c,h with
 | [],_=>exact ⟨rfl,λ i hi=>by simp at hi,λ i _ hi=>by match i,hi with | 0,_=>rfl | 1,_=>rfl | 2,_=>rfl⟩
 | [_],_=>exact ⟨rfl,λ i hi=>by match i,hi with | 0,_=>rfl,λ i h1 hi=>by match i,h1,hi with | 1,_,_=>rfl | 2,_,_=>rfl⟩
 | [_,_],_=>exact ⟨rfl,λ i hi=>by match i,hi with | 0,_=>rfl | 1,_=>rfl,λ i h1 hi=>by match i,h1,hi with | 2,_,_=>rfl⟩
 | [_,_,_],_=>exact ⟨rfl,λ i hi=>by match i,hi with | 0,_=>rfl | 1,_=>rfl | 2,_=>rfl,λ i h1 hi=>by simp at h1; omega⟩
structure qe (P:Nat) (pre w:List Int):Prop where
 len:w.length=3
 pre:∀ i,i < pre.length→nth w i=nth pre i
 rest:∀ i,P≤i→i < 3→nth w i=0
theorem qe.p9{P:Nat}{pre w:List Int}(h:qe P pre w)(hp:pre.length=P)(h3:P≤3):w=DV [0,0,0] pre:=by
 obtain ⟨h1,h2,h4⟩:=aah (c:=pre) (by omega)
 refine JR (by rw [h.len,h1]) λ i hi=>?_
 by_cases hl:i < pre.length
 ·rw [h.pre i hl,h2 i hl]
 ·rw [h.rest i (by omega) (by rw [← h.len]; exact hi),h4 i (by omega) (by rw [← h.len]; exact hi)]
theorem qe.set{P:Nat}{pre w:List Int}(h:qe P pre w)(hp:pre.length < P)(h3:P≤3)(n:Int):qe P (pre++[n]) (w.set pre.length n):=by
 have hl:=h.len
 refine ⟨by simpa using hl,λ i hi=>?_,λ i h1 h2=>?_⟩
 ·by_cases e:i=pre.length
  ·subst e
   rw [aBH (by omega),adT]
  ·rw [adU (by omega)]
   simp only [List.length_append,List.length_cons,List.length_nil] at hi
   rw [WM (by omega)]
   exact h.pre i (by omega)
 ·rw [adU (by omega)]
  exact h.rest i h1 h2
theorem qe.back{P:Nat}{pre w:List Int}{n:Int}(h:qe P (pre++[n]) w):qe P pre w:=⟨h.len,λ i hi=>by rw [h.pre i (by simp; omega),WM hi],h.rest⟩
theorem azX{b:ao}(hv:Valid b){c:List Int}{w:bt}(hw:∀ i,i < b.aO.length→nth w.deep i=nth c i)(hl:w.deep.length=3):zC b w=some (tY b c):=by
 unfold zC
 have h3:=hv.s3
 have hp:=hv.p3
 rw [aAd (p:=λ s=>!(decide (nth c s.Place.toNat≤s.fW) == s.jC)) (by omega) (λ s hs=>?_),Option.bind_some]
 ·unfold tY
  congr 1
  rw [List.not_any_eq_all_not]
  congr 1
  funext s
  simp
 ·have:=(hv.sound s hs).place
  unfold Ch
  rw [MX this.1 (by omega),Option.bind_some,hw _ (by omega)]
theorem ac4{α S X O:Type}{ys:α→S→Option (S × Bool)}{body:S × X→Option ((S × X) ⊕ O)}(vP:Nat→List α)(n:Nat)(I:Nat→X→Prop)(F Q:S→O→Prop)
  (h:∀ j s x r,j < n→I j x→oQ ys (vP j) s=some r→if r.2=true then ∃ x',body (s,x)=some (.inl (r.1,x'))∧I (j+1) x' else ∃ o,body (s,x)=some (.inr o)∧Q r.1 o) (hn:∀ s x,I n x→∃ o,body (s,x)=some (.inr o)∧F s o) :
  ∀ (k j:Nat) (s:S) (x:X) (r:S × Bool),j+k=n→I j x→oQ ys ((List.range' j k).flatMap vP) s=some r→∃ o,bD body (s,x)=some o∧if r.2=true then F r.1 o else Q r.1 o
 | 0,j,s,x,r,hj,hI,hr=>by
  simp only [List.range'_zero,List.flatMap_nil,oQ,Option.some.injEq] at hr
  subst hr
  obtain rfl:j=n:=by omega
  obtain ⟨o,h1,h2⟩:=hn s x hI
  exact ⟨o,vz h1,by simpa using h2⟩
 | k+1,j,s,x,r,hj,hI,hr=>by
  rw [List.range'_succ,List.flatMap_cons,abA] at hr
  obtain ⟨q,hq,hr⟩:=aj hr
  have hb:=h j s x q (by omega) hI hq
  split at hr
  ·rename_i h2
   rw [if_pos h2] at hb
   obtain ⟨x',h3,h4⟩:=hb
   rw [EH h3]
   exact ac4 vP n I F Q h hn k (j+1) q.1 x' r (by omega) h4 hr
  ·rename_i h2
   rw [if_neg h2] at hb
   obtain ⟨o,h3,h4⟩:=hb
   cases hr
   exact ⟨o,vz h3,by simpa using h4⟩
theorem adn{b:ao}(hv:Valid b){S:Type}(ys:bt→S→Option (S × Bool)):∀ (j k:Nat) (pre:List Int) (w:bt) (s:S) (r:S × Bool),pre.length+j=b.aO.length→j < k→qe b.aO.length pre w.deep →
  oQ ys (((tree (jG b) j pre.length pre).filter (tY b)).map p9) s=some r→∃ w',qK ys k (pre.length:Int) b w s=some (r.1,(w',r.2))∧qe b.aO.length pre w'.deep
 | _,0,_,_,_,_,_,hk,_,_=>by omega
 | 0,k+1,pre,w,s,r,hl,_,hw,hr=>by
  rw [Nat.add_zero] at hl
  have h3:=hv.p3
  unfold qK
  rw [show ((pre.length:Int) == (b.aO.length:Int))=true by rw [hl]; simp,b9,azX (c:=pre) hv (λ i hi=>hw.pre i (by omega)) hw.len,Option.bind_some]
  simp only [tree] at hr
  have ew:w=p9 pre:=by
   obtain ⟨d⟩:=w
   exact congrArg bt.mk (hw.p9 hl h3)
  refine ⟨w,?_,hw⟩
  cases hs:tY b pre with
  | true =>
   simp only [List.filter_cons,hs,if_true,List.filter_nil,List.map_cons,List.map_nil,oQ] at hr
   obtain ⟨q,hq,hr⟩:=aj hr
   rw [← ew] at hq
   simp only [Bool.not_true,bI,hq,Option.bind_some]
   split at hr
   ·rename_i h2; cases hr; rw [h2]
   ·rename_i h2; cases hr; simp at h2; rw [h2]
  | false =>
   simp [hs,oQ] at hr
   subst hr
   rfl
 | j+1,k+1,pre,w,s,r,hl,hk,hw,hr=>by
  have h3:=hv.p3
  have hx:=hv.each (i:=pre.length) (by omega)
  unfold qK
  rw [show ((pre.length:Int) == (b.aO.length:Int))=false by simp; omega,bI,fZ,dQ (by omega),Option.bind_some]
  generalize hX:nth b.aO pre.length=X at hx
  refine Exists.elim (ac4 (ys:=ys) (S:=S) (X:=Int × List Int) (O:=(S × List Int) ⊕ (S × (bt × Bool))) (body:=λ (bS:(S × Int × (List Int))) =>
   (some X:Option Reach).bind λ eT =>
   ag (decide (bS.2.1≤eT.dh))
   ((idx bS.2.2 (pre.length:Int)).bind λ nj =>
   (qK ys k (i64 ((pre.length:Int)+1)) b (⟨bS.2.2.set (pre.length:Int).toNat bS.2.1⟩:bt) bS.1).bind λ ic =>
   ag (!ic.2.2)
   (some (.inr (.inr (ic.1,(ic.2.1,false)))))
   (some (.inl (ic.1,i64 (bS.2.1+1),ic.2.1.deep))))
   (some (.inr (.inl (bS.1,bS.2.2)))))
   (λ q=>((tree (jG b) j (pre.length+1) (pre++[X.cj+(q:Int)])).filter (tY b)).map p9) (X.dh+1 - X.cj).toNat (λ q x=>x.1=X.cj+(q:Int)∧qe b.aO.length pre x.2)
   (λ s o=>∃ d,o = .inl (s,d)∧qe b.aO.length pre d) (λ s o=>∃ w',o = .inr (s,(w',false))∧qe b.aO.length pre w'.deep)
   (λ q s x r hq hI hr=>?_) (λ s x hI=>?_) (X.dh+1 - X.cj).toNat 0 s (X.cj,w.deep) r (by omega) ⟨by simp,hw⟩ ?_) ?_
  ·obtain ⟨n,d⟩:=x
   obtain ⟨rfl,hd⟩:=hI
   have hs:=hd.set (n:=X.cj+(q:Int)) (by omega) h3
   obtain ⟨w',h1,h2⟩:=adn hv ys j k (pre++[X.cj+(q:Int)]) ⟨d.set pre.length (X.cj+(q:Int))⟩ s r (by simp; omega) (by omega) hs (by simpa using hr)
   have hl3:d.length=3:=hd.len
   simp only [List.length_append,List.length_cons,List.length_nil,Nat.zero_add] at h1
   simp only [Option.bind_some,show decide (X.cj+(q:Int)≤X.dh)=true by simp; omega,b9,fZ,dQ (show pre.length < d.length by omega),Int.toNat_natCast,fH (i:=pre.length) (by omega),h1]
   have e1:i64 (X.cj+(q:Int)+1)=X.cj+((q+1:Nat):Int):=by rw [rS (by omega) (by omega)]; omega
   cases hr2:r.2 with
   | true=>exact ⟨(X.cj+((q+1:Nat):Int),w'.deep),by simp [e1,bI],rfl,h2.back⟩
   | false=>exact ⟨.inr (r.1,(w',false)),by simp [b9],w',rfl,h2.back⟩
  ·obtain ⟨n,d⟩:=x
   obtain ⟨rfl,hd⟩:=hI
   refine ⟨.inl (s,d),?_,d,rfl,hd⟩
   simp only [Option.bind_some,show decide (X.cj+(((X.dh+1 - X.cj).toNat:Nat):Int)≤X.dh)=false by simp; omega,bI]
  ·rw [← hr,← List.range_eq_range']
   congr 1
   simp only [tree,jG,hX,sf,List.flatMap_map,List.map_flatMap,List.filter_flatMap]
  ·rintro o ⟨ho,hc⟩
   rw [show (bD (O:=((S × (List Int)) ⊕ (S × (bt × Bool)))) (λ (bS:(S × Int × (List Int))) =>
    (some X:Option Reach).bind λ eT =>
    ag (decide (bS.2.1≤eT.dh))
    ((idx bS.2.2 (pre.length:Int)).bind λ nj =>
    (qK ys k (i64 ((pre.length:Int)+1)) b (⟨bS.2.2.set (pre.length:Int).toNat bS.2.1⟩:bt) bS.1).bind λ ic =>
    ag (!ic.2.2)
    (some (.inr (.inr (ic.1,(ic.2.1,false)))))
    (some (.inl (ic.1,i64 (bS.2.1+1),ic.2.1.deep))))
    (some (.inr (.inl (bS.1,bS.2.2))))) (s,X.cj,w.deep))=some o from ho,Option.bind_some]
   split at hc
   ·rename_i h2
    obtain ⟨d,rfl,hd⟩:=hc
    exact ⟨⟨d⟩,by simp [h2],hd⟩
   ·rename_i h2
    obtain ⟨w',rfl,hd⟩:=hc
    exact ⟨w',by simp at h2; simp [h2],hd⟩
theorem Wx{b:ao}(hv:Valid b){S:Type}(ys:bt→S→Option (S × Bool)){s:S}{r:S × Bool}(hr:oQ ys ((dm b).map p9) s=some r):o9 ys b s=some r.1:=by
 have h3:=hv.p3
 unfold o9
 obtain ⟨w',h1,_⟩:=adn hv ys b.aO.length 9 [] ⟨[0,0,0]⟩ s r (by simp) (by omega) ⟨rfl,λ i hi=>by simp at hi,λ i _ hi=>by match i,hi with | 0,_=>rfl | 1,_=>rfl | 2,_=>rfl⟩ (by rw [← hr]; unfold dm; simp only [List.length_nil]; rw [aEk])
 have uT:qK ys 9 0 b ⟨[0,0,0]⟩ s=some (r.1,(w',r.2)):=h1
 rw [uT]
 rfl
end Go.Proofs.YtihapemckcdicaaGreatDoor
namespace Go.Proofs.YtihapemckcdicaaGreatDoor
open Go.Lg Go.Proofs
set_option maxRecDepth 10000
theorem Wg{b:ao}(hv:Valid b):∀ i,i≤b.aO.length→(lvl (jG b) i).length≤3 ^ i
 | 0,_=>by simp [lvl]
 | i+1,h=>by
  have ih:=Wg hv i (by omega)
  have hx:=aeB (hv.each (i:=i) (by omega)).2.2.2
  simp only [lvl]
  refine Nat.le_trans (aby _ 3 (λ a=>?_) _) ?_
  ·simpa using hx
  ·rw [Nat.pow_succ]; omega
theorem Zf{b:ao}(hv:Valid b):(lvl (jG b) b.aO.length).length≤27:=by
 refine Nat.le_trans (Wg hv _ (Nat.le_refl _)) ?_
 have h1:=hv.p1
 have h3:=hv.p3
 match b.aO.length,h1,h3 with
 | 1,_,_=>decide
 | 2,_,_=>decide
 | 3,_,_=>decide
theorem LD{b:ao}(hv:Valid b):(dm b).length≤27:=Nat.le_trans (List.length_filter_le _ _) (Zf hv)
theorem aBk{b:ao}(hv:Valid b):xz (λ y s=>o9 y b s)=some ((dm b).map p9):=by
 unfold xz EU
 have hl:=LD hv
 have key:∀ (l a:List bt),l.foldl (λ s c=>s++[c]) a=a++l:=by
  intro l
  induction l with
  | nil=>simp
  | cons c l ih=>intro a; rw [List.foldl_cons,ih]; simp
 dsimp only
 rw [Wx hv _ (r:=(.inl ((((dm b).map p9).foldl (λ (s:List bt) c=>s++[c]) [])),true)) (abB (λ k s=>s.length=k) (λ c s=>s++[c]) _ 0 [] rfl (λ j s a hj hs _=>by
  simp only [List.length_map] at hj
  rw [kF (by simp; omega)]
  exact ⟨rfl,by simp [hs]⟩))]
 rw [key]
 rfl
def nE(b:ao):Bool:=!(dm b).isEmpty
theorem azN{b:ao}(hv:Valid b):Cb b=some (nE b):=by
 unfold Cb nE
 cases hc:dm b with
 | nil =>
  rw [Wx hv _ (r:=(.inl (),true)) (by rw [hc]; rfl)]
  rfl
 | cons c l =>
  rw [Wx hv _ (r:=(.inr (),false)) (by rw [hc]; rfl)]
  rfl
def aBG:b8:=⟨⟨0,[],[],[],[],[]⟩,[]⟩
def CE(b:ao):b8:=⟨b,(dm b).map p9⟩
def j3(b:ao)(own:Int):Int:=if gr b≠0 then gr b else if own≠0 then own else if dm b=[] then 9 else 0
theorem alm{b:ao}{own:Int}(h:j3 b own=0):Valid b∧own=0∧dm b≠[]:=by
 unfold j3 at h
 split at h
 ·rename_i h1; exact absurd h h1
 ·rename_i h1
  split at h
  ·rename_i h2; exact absurd h h2
  ·rename_i h2
   split at h
   ·cases h
   ·rename_i h3; exact ⟨oz.1 (by simpa using h1),by simpa using h2,h3⟩
theorem aln{b:ao}{own:Int}(hv:Valid b)(h2:own=0)(h3:dm b≠[]):j3 b own=0:=by
 unfold j3
 simp [oz.2 hv,h2,h3]
def Fy(b:ao)(own:Int):b8 × Int:=if j3 b own≠0 then (aBG,j3 b own) else (CE b,0)
theorem WA{b:ao}(hs:Small b){f:ao→Option Int}{own:Int}(hf:gr b=0→f b=some own):ou b f=some (Fy b own):=by
 unfold ou Fy j3
 rw [zI hs,Option.bind_some]
 by_cases h1:gr b=0
 ·have hv:=oz.1 h1
  simp only [h1,bne_self_eq_false,bI,ne_eq,not_true_eq_false,if_false,hf h1,Option.bind_some]
  by_cases h2:own=0
  ·simp only [h2,bne_self_eq_false,bI,not_true_eq_false,if_false,aBk hv,Option.bind_some,List.length_map]
   cases hc:dm b with
   | nil=>rfl
   | cons c l =>
    rw [if_neg (by simp),show ((((c::l).length:Nat):Int) == 0)=false by simp; omega,bI]
    unfold CE
    rw [hc]
  ·simp only [h2,not_false_eq_true,if_true,pb h2,b9]
   rfl
 ·simp only [h1,ne_eq,not_false_eq_true,if_true,pb h1,b9]
  rfl
theorem azS{b:ao}(hv:Valid b){c:List Int}(hc:c.length=b.aO.length):Jr b c=some (tY b c):=by
 unfold Jr
 have hs:=hv.s3
 rw [acY (l:=b.aN) (λ s=>decide (nth c s.Place.toNat≤s.fW) == s.jC) false (λ i hi=>?_) (by simp only [gB,bI])]
 ·unfold tY
  cases h:b.aN.all λ s=>decide (nth c s.Place.toNat≤s.fW) == s.jC <;> simp
 ·have hp:=(hv.sound _ (l8 hi)).place
  simp only [dec_lt hi,b9,fZ,dQ hi,Option.bind_some,MX hp.1 (show (nth b.aN i).Place < (c.length:Int) by omega),fH (i:=i) (by omega)]
  cases decide (nth c (nth b.aN i).Place.toNat≤(nth b.aN i).fW) == (nth b.aN i).jC <;> rfl
theorem ac7{b:ao}{i:Nat}{p:List Int}(h:p∈lvl (jG b) i):p.length=i:=(Nt.1 h).1
theorem Wy{b:ao}(hv:Valid b):zK b=some (dm b):=by
 unfold zK
 have hlen:=Wg hv
 have Rp:=Zf hv
 have h3:=hv.p3
 refine (oq (o:=lvl (jG b) b.aO.length) ?_).trans ?_
 ·have e0:([[]],(0:Int))=(λ i:Nat=>(lvl (jG b) i,(i:Int))) 0:=rfl
  rw [e0]
  refine tL (λ i:Nat=>(lvl (jG b) i,(i:Int))) b.aO.length (λ i hi=>?_) (by simp only [gB,bI])
  have hw:=hv.each hi
  have SV:=hlen i (by omega)
  have hp3:=aCz (i:=i) (by omega)
  simp only [dec_lt hi,b9]
  rw [oq (o:=lvl (jG b) (i+1)) ?_,fH (i:=i) (by omega)]
  have q0:([],(0:Int))=(λ a:List (List Int)=>(a,((λ j:Nat=>(j:Int)) 0))) []:=rfl
  rw [q0,show lvl (jG b) (i+1)=[]++(List.range (lvl (jG b) i).length).flatMap (λ j=>(sf (nth b.aO i)).map λ n=>nth (lvl (jG b) i) j++[n]) by rw [List.nil_append,amW (λ a=>(sf (nth b.aO i)).map λ n=>a++[n])]; rfl]
  refine ac3 (λ j:Nat=>(j:Int)) (λ j=>(sf (nth b.aO i)).map λ n=>nth (lvl (jG b) i) j++[n]) (lvl (jG b) i).length 3 [] (λ j _=>by rw [List.length_map]; exact aeB hw.2.2.2) (λ j l hj hl=>?_) (λ l=>by simp only [gB,bI])
  have HF:=ac7 (l8 hj)
  simp only [dec_lt hj,b9,fZ,dQ hi,dQ hj,Option.bind_some]
  generalize nth b.aO i=X at hw
  rw [oq (o:=l++(sf X).map λ n=>nth (lvl (jG b) i) j++[n]) ?_,fH (i:=j) (by omega)]
  have q1:X.cj=(λ q:Nat=>X.cj+(q:Int)) 0:=by simp
  have q2:(sf X).map (λ n=>nth (lvl (jG b) i) j++[n])=(List.range (X.dh+1 - X.cj).toNat).flatMap (λ (q:Nat)=>[nth (lvl (jG b) i) j++[X.cj+(q:Int)]]):=by
   rw [abz (λ q:Nat=>nth (lvl (jG b) i) j++[X.cj+(q:Int)])]
   simp only [sf,List.map_map]
   rfl
  rw [q1,q2]
  refine ac3 (λ q:Nat=>X.cj+(q:Int)) (λ q=>[nth (lvl (jG b) i) j++[X.cj+(q:Int)]]) (X.dh+1 - X.cj).toNat 1 l (λ q _=>by simp) (λ q l' hq hl'=>?_) (λ l'=>?_)
  ·have e1:i64 (X.cj+(q:Int)+1)=X.cj+((q+1:Nat):Int):=by rw [rS (by omega) (by omega)]; omega
   simp only [List.length_nil] at hl
   simp only [show decide (X.cj+(q:Int)≤X.dh)=true by simp; omega,b9,e1]
   rw [kF (by simp [HF]; omega),Option.bind_some,kF (by simp [HF]; omega),Option.bind_some,kF (by simp; omega),Option.bind_some]
   simp
  ·simp only [show decide (X.cj+(((X.dh+1 - X.cj).toNat:Nat):Int)≤X.dh)=false by simp; omega,bI]
 ·rw [oq (o:=dm b) ?_]
  refine ay7 (l:=lvl (jG b) b.aO.length) (tY b) (by omega) (λ i acc hi ha=>?_) (λ acc=>by simp only [gB,bI])
  have HF:=ac7 (l8 hi)
  simp only [dec_lt hi,b9,fZ,dQ hi,Option.bind_some,azS hv HF,fH (i:=i) (by omega)]
  cases tY b (nth (lvl (jG b) b.aO.length) i) with
  | true=>rw [b9,kF (by simp; omega)]; rfl
  | false=>rfl
def M1(b:ao)(own:Int):List (List Int) × Int:=if j3 b own≠0 then ([],j3 b own) else (dm b,0)
theorem adE{b:ao}(hs:Small b)(own:Int):Fi b own=some (M1 b own):=by
 unfold Fi M1 j3
 rw [Nk hs,Option.bind_some]
 by_cases h1:gr b=0
 ·have hv:=oz.1 h1
  simp only [h1,bne_self_eq_false,bI,ne_eq,not_true_eq_false,if_false]
  by_cases h2:own=0
  ·simp only [h2,bne_self_eq_false,bI,not_true_eq_false,if_false,Wy hv,Option.bind_some]
   cases hc:dm b with
   | nil=>rfl
   | cons c l =>
    rw [if_neg (by simp),show ((((c::l).length:Nat):Int) == 0)=false by simp; omega,bI]
  ·simp only [h2,not_false_eq_true,if_true,pb h2,b9]
 ·simp only [h1,ne_eq,not_false_eq_true,if_true,pb h1,b9]
end Go.Proofs.YtihapemckcdicaaGreatDoor
namespace Go.Proofs.YtihapemckcdicaaGreatDoor
open Go.Lg Go.Proofs
set_option maxRecDepth 10000
def Ad(b:ao)(n:Int):Int:=match b.Rows.find? (λ r=>decide (n≤r.cF)) with | some r=>r.dS | none=>0
theorem azn{b:ao}(hs:b.Rows.length≤20)(n:Int):vA b n=some (Ad b n):=by
 unfold vA Ad
 rw [ac2 (l:=b.Rows) (λ r=>decide (n≤r.cF)) (λ r=>r.dS) (λ i hi=>?_) (by simp only [gB,bI])]
 ·cases b.Rows.find? (λ r=>decide (n≤r.cF)) <;> rfl
 ·simp only [dec_lt hi,b9,fZ,dQ hi,Option.bind_some,fH (i:=i) (by omega)]
  cases decide (n≤(nth b.Rows i).cF) <;> rfl
theorem azo{b:ao}(hs:b.Rows.length≤20)(n:Int):Jh b n=some (Ad b n):=by
 unfold Jh Ad
 rw [ac2 (l:=b.Rows) (λ r=>decide (n≤r.cF)) (λ r=>r.dS) (λ i hi=>?_) (by simp only [gB,bI])]
 ·cases b.Rows.find? (λ r=>decide (n≤r.cF)) <;> rfl
 ·simp only [dec_lt hi,b9,fZ,dQ hi,Option.bind_some,fH (i:=i) (by omega),ge_iff_le]
  cases decide (n≤(nth b.Rows i).cF) <;> rfl
end Go.Proofs.YtihapemckcdicaaGreatDoor
namespace Go.Proofs.YtihapemckcdicaaGreatDoor
open Go.Lg Go.Proofs
set_option maxRecDepth 10000
def c57(l:List Int)(i:Nat):Option (List Int):=some (((List.range l.length).filter (λ (k:Nat)=>!(k == i))).map (λ (k:Nat)=>l.getD k 0))
def ov(n a:Nat):Bool:=Qt a == some (cp n a) && decide ((cp n a).length≤4) &&
  ((List.range (cp n a).length).all λ i=>match c57 (cp n a) i with | some l=>(List.range (2 ^ n)).any λ c=>l == cp n c && lq l (cp n a) | none=>false)
def okN(n a c:Nat):Bool:=c58 (cp n a) (cp n c) == some (lq (cp n a) (cp n c)) && (match Lx (cp n a) (cp n c) with | some z=>decide (z < 0) == mG (cp n a) (cp n c) | none=>false)
set_option maxRecDepth 1000000 in
theorem Nr:((List.range 5).all λ n=>FX .i64 1 n == some ((2 ^ n:Nat):Int) && (List.range (2 ^ n)).all λ a=>ov n a && (List.range (2 ^ n)).all λ c=>okN n a c)=true:=by decide +kernel
set_option maxRecDepth 1000000 in
theorem aDv{n:Nat}(h:n < 5):FX .i64 1 (n:Int)=some ((2 ^ n:Nat):Int):=by
 have:=Nr
 simp only [List.all_eq_true,List.mem_range,Bool.and_eq_true,beq_iff_eq] at this
 exact (this n h).1
theorem adj{n a:Nat}(h:n < 5)(ha:a < 2 ^ n):xv a=some (cp n a):=by
 have:=Nr
 simp only [List.all_eq_true,List.mem_range,Bool.and_eq_true,beq_iff_eq] at this
 have h1:=((this n h).2 a ha).1
 simp only [ov,Bool.and_eq_true,beq_iff_eq] at h1
 exact acI _ _ h1.1.1
theorem WE{n a:Nat}(h:n < 5)(ha:a < 2 ^ n):(cp n a).length≤4:=by
 have:=Nr
 simp only [List.all_eq_true,List.mem_range,Bool.and_eq_true,beq_iff_eq] at this
 have h1:=((this n h).2 a ha).1
 simp only [ov,Bool.and_eq_true,beq_iff_eq,decide_eq_true_eq] at h1
 exact h1.1.2
theorem adJ{n a c:Nat}(h:n < 5)(ha:a < 2 ^ n)(hc:c < 2 ^ n):zH (cp n a) (cp n c)=some (lq (cp n a) (cp n c))∧∃ z,Cc (cp n a) (cp n c)=some z∧decide (z < 0)=mG (cp n a) (cp n c):=by
 have:=Nr
 simp only [List.all_eq_true,List.mem_range,Bool.and_eq_true,beq_iff_eq] at this
 have h1:=((this n h).2 a ha).2 c hc
 simp only [okN,Bool.and_eq_true,beq_iff_eq] at h1
 refine ⟨ayS _ _ _ h1.1,?_⟩
 have h8:=h1.2
 cases hz:Lx (cp n a) (cp n c) with
 | none=>rw [hz] at h8; cases h8
 | some z=>rw [hz] at h8; exact ⟨z,acL _ _ _ hz,by simpa using h8⟩
theorem aDA{n:Nat}{P:Nat→Bool}:∀ {k:Nat},(gH n P k).2=true→∃ c,c < k∧(gH n P k).1=cp n c:=by
 intro k h
 rcases N9 n P k with ⟨h1,_⟩ | ⟨_,⟨a,ha,_,he⟩,_⟩
 ·rw [h1] at h; cases h
 ·exact ⟨a,ha,he⟩
theorem azz{n:Nat}(hn:n < 5){f:Int→Option Bool}{P:Nat→Bool}(hf:∀ a:Nat,a < 2 ^ n→f (a:Int)=some (P a)):xu (n:Int) f=some (gH n P (2 ^ n)):=by
 have hp:=aCA hn
 unfold xu
 rw [aDv hn,Option.bind_some]
 rw [oq (o:=gH n P (2 ^ n)) ?_]
 have e0:(([]:List Int),false,(0:Int))=(λ i:Nat=>((gH n P i).1,(gH n P i).2,(i:Int))) 0:=rfl
 rw [e0]
 refine tL (λ i:Nat=>((gH n P i).1,(gH n P i).2,(i:Int))) (2 ^ n) (λ i hi=>?_) (by simp only [gB,bI])
 simp only [dec_lt hi,b9,adj hn hi,Option.bind_some,hf i hi,fH (i:=i) (by omega),gH,FY]
 cases hs:(gH n P i).2 with
 | false=>cases P i <;> simp [b9,bI,hs]
 | true =>
  obtain ⟨c,hc,ec⟩:=aDA hs
  obtain ⟨z,VV,hz2⟩:=(adJ hn hi (by omega:c < 2 ^ n)).2
  simp only [ec,Bool.not_true,bI,VV,Option.bind_some,hz2,Bool.false_or,lq]
  by_cases h1:(cp n i).length < (cp n c).length
  ·have uT:decide (((cp n i).length:Int) < ((cp n c).length:Int))=true:=dec_lt h1
   simp only [uT,b9,h1,decide_true,Bool.true_or,Bool.true_and,Option.bind_some]
   cases P i <;> simp [b9,bI,hs,ec]
  ·have uT:decide (((cp n i).length:Int) < ((cp n c).length:Int))=false:=by simpa using h1
   simp only [uT,bI,h1,decide_false,Bool.false_or]
   by_cases h2:(cp n i).length=(cp n c).length
   ·rw [h2]
    simp only [beq_self_eq_true,b9,Bool.true_and]
    cases mG (cp n i) (cp n c) with
    | true =>
     simp only [b9,Bool.true_and,Option.bind_some]
     cases P i <;> simp [b9,bI,hs,ec]
    | false=>simp [bI,hs,ec]
   ·have h2':(((cp n i).length:Int) == ((cp n c).length:Int))=false:=by simpa using (by omega:¬ ((cp n i).length:Int)=((cp n c).length:Int))
    have am8:((cp n i).length == (cp n c).length)=false:=by simpa using h2
    simp [h2',am8,bI,hs,ec]
def yq(b:ao)(l:List cz):ao:=⟨b.Rest,b.Rows,b.aO,b.aH,b.aR,l⟩
def zR(b:ao)(ks:List Int):ao:=yq b (ks.map λ k=>nth b.aN k.toNat)
theorem Valid.yq{b:ao}(h:Valid b){l:List cz}(hl:l.length≤3)(hs:∀ s∈l,YR b.aO.length s):Valid (yq b l) :=
 ⟨h.rest,h.r1,h.r4,h.row,h.aac,h.p1,h.p3,h.place,h.m1,h.m4,h.WB,h.names,h.d1,h.d4,h.aaq,hl,hs⟩
theorem ajp(b:ao)(l:List cz):dm (yq b l)=(lvl (jG b) b.aO.length).filter λ c=>l.all λ s=>decide (nth c s.Place.toNat≤s.fW) == s.jC:=rfl
theorem anV{b:ao}:nE b=true↔∃ c,c∈dm b:=by
 unfold nE
 rw [Bool.not_eq_true',List.isEmpty_eq_false_iff_exists_mem]
theorem anW{b:ao}{l m:List cz}(hm:∀ x∈l,x∈m)(h:nE (yq b m)=true):nE (yq b l)=true:=by
 rw [anV] at h ⊢
 obtain ⟨c,h⟩:=h
 refine ⟨c,?_⟩
 rw [ajp,List.mem_filter] at h ⊢
 refine ⟨h.1,?_⟩
 have h2:=h.2
 rw [List.all_eq_true] at h2 ⊢
 exact λ x hx=>h2 x (hm x hx)
theorem ajr{b:ao}:decide (((dm b).length:Int) > 0)=nE b:=by
 unfold nE
 cases dm b with
 | nil=>rfl
 | cons c l=>simp
theorem Nq{n a:Nat}{k:Int}(h:k∈cp n a):0≤k∧k < (n:Int):=(aBw.1 h).1
theorem adZ{b:ao}{ks:List Int}(hk:∀ k∈ks,0≤k∧k < (b.aN.length:Int)):∀ s∈ks.map (λ k=>nth b.aN k.toNat),s∈b.aN:=by
 intro s hs
 obtain ⟨k,hk1,rfl⟩:=List.mem_map.1 hs
 have:=hk k hk1
 exact l8 (by omega)
theorem adY{b:ao}:zR b (cp b.aN.length (2 ^ b.aN.length - 1))=b:=by
 have e:(cp b.aN.length (2 ^ b.aN.length - 1)).map (λ k=>nth b.aN k.toNat)=b.aN:=by
  unfold cp
  rw [List.filter_eq_self.2 (λ i hi=>abD i (List.mem_range.1 hi)),List.map_map]
  refine JR (by simp) λ i hi=>?_
  rw [List.length_map,List.length_range] at hi
  have h1:=dQ (l:=(List.range b.aN.length).map ((λ k:Int=>nth b.aN k.toNat) ∘ λ (i:Nat)=>(i:Int))) (i:=i) (by simpa using hi)
  simp only [List.getElem?_map,List.getElem?_range hi,Option.map_some,Option.some.injEq] at h1
  exact h1.symm
 unfold zR
 rw [e]
 rfl
theorem aA4{b:ao}{ks:List Int}(hl:ks.length≤1000)(hk:∀ k∈ks,0≤k∧k < (b.aN.length:Int)):Fb b ks=some (zR b ks):=by
 unfold Fb
 refine (oq (o:=ks.map λ k=>nth b.aN k.toNat) ?_).trans rfl
 have e0:((0:Int),([]:List cz))=(λ i:Nat=>((i:Int),(ks.take i).map λ k=>nth b.aN k.toNat)) 0:=rfl
 rw [e0]
 refine tL (λ i:Nat=>((i:Int),(ks.take i).map λ k=>nth b.aN k.toNat)) ks.length (λ i hi=>?_) ?_
 ·have hm:=hk _ (l8 hi)
  simp only [dec_lt hi,b9,fZ,dQ hi,Option.bind_some,MX hm.1 hm.2,fH (i:=i) (by omega)]
  rw [kF (by simp; omega),Option.bind_some,List.take_add_one,dQ hi]
  simp
 ·simp only [gB,bI,List.take_length]
theorem azL{b:ao}(hs:b.aN.length < 5){a:Nat}(ha:a < 2 ^ b.aN.length):Ca b (a:Int)=some (zR b (cp b.aN.length a)):=by
 unfold Ca
 rw [adj hs ha,Option.bind_some]
 have hlen:=WE hs ha
 have hk:∀ k∈cp b.aN.length a,0≤k∧k < (b.aN.length:Int):=λ k h=>Nq h
 generalize cp b.aN.length a=ks at hlen hk
 refine (oq (o:=ks.map λ k=>nth b.aN k.toNat) ?_).trans rfl
 have e0:(([]:List cz),(0:Int))=(λ i:Nat=>((ks.take i).map λ k=>nth b.aN k.toNat,(i:Int))) 0:=rfl
 rw [e0]
 refine tL (λ i:Nat=>((ks.take i).map λ k=>nth b.aN k.toNat,(i:Int))) ks.length (λ i hi=>?_) ?_
 ·have hm:=hk _ (l8 hi)
  simp only [dec_lt hi,b9,fZ,dQ hi,Option.bind_some,MX hm.1 hm.2,fH (i:=i) (by omega)]
  rw [kF (by simp; omega),Option.bind_some,List.take_add_one,dQ hi]
  simp
 ·simp only [gB,bI,List.take_length]
theorem Valid.only{b:ao}(h:Valid b){a:Nat}(_:a < 2 ^ b.aN.length):Valid (zR b (cp b.aN.length a)):=by
 have h3:=h.s3
 refine h.yq ?_ λ s hs=>h.sound s (adZ (λ k hk=>Nq hk) s hs)
 rw [List.length_map]
 unfold cp
 rw [List.length_map]
 exact Nat.le_trans (List.length_filter_le _ _) (by simpa using h3)
def sa(b:ao)(a:Nat):Bool:=!nE (zR b (cp b.aN.length a))
def Ha(b:ao):List Int:=(gH b.aN.length (sa b) (2 ^ b.aN.length)).1
theorem aA2{b:ao}(hv:Valid b):tP b=some (Ha b,0):=by
 have h3:=hv.s3
 unfold tP
 rw [zI hv.sm,oz.2 hv,Option.bind_some]
 simp only [bne_self_eq_false,bI]
 rw [azz (P:=sa b) (by omega) (λ a ha=>?_),Option.bind_some]
 ·rfl
 ·unfold B9
  rw [azL (by omega) ha,Option.bind_some,azN (hv.only ha)]
  rfl
theorem aaa{b:ao}(h:nE b=true):Ha b=[]:=by
 unfold Ha
 rw [aDB λ a ha=>?_]
 unfold sa
 rw [show nE (zR b (cp b.aN.length a))=true from anW (m:=b.aN) (adZ λ k hk=>Nq hk) h]
 rfl
theorem aab{b:ao}(h:nE b=false):cj b.aN.length (sa b) (Ha b):=by
 have hp:=Nat.two_pow_pos b.aN.length
 refine (aDC (a:=2 ^ b.aN.length - 1) (by omega) ?_).2
 unfold sa
 rw [adY,h]
 rfl
end Go.Proofs.YtihapemckcdicaaGreatDoor
namespace Go.Proofs.YtihapemckcdicaaGreatDoor
open Go.Lg Go.Proofs
set_option maxRecDepth 10000
theorem azs{b:ao}(hv:Valid b){f:bt→Option Bool}{p:List Int→Bool}(hf:∀ c∈dm b,f (p9 c)=some (p c)):rX (CE b) f=some (((dm b).filter p).length:Int):=by
 have Rp:=LD hv
 unfold rX CE
 simp only [List.length_map]
 rw [oq (o:=(((dm b).filter p).length:Int)) (ay5 (l:=dm b) p (λ i n hi hn=>?_) (λ n=>by simp only [gB,bI]))]
 have e:((dm b).map p9)[i]? = some (p9 (nth (dm b) i)):=by rw [List.getElem?_map,dQ hi]; rfl
 simp only [dec_lt hi,b9,fZ,e,Option.bind_some,hf _ (l8 hi),fH (i:=i) (by omega),fH (i:=n) (by omega)]
 cases p (nth (dm b) i) <;> rfl
theorem aFC{b:ao}(hv:Valid b){c:List Int}(hc:c.length=b.aO.length){i:Nat}(hi:i < b.aO.length):idx (p9 c).deep (i:Int)=some (nth c i):=by
 have h3:=hv.p3
 have h:=aah (c:=c) (by omega)
 rw [fZ,dQ (l:=(p9 c).deep) (show i < (DV [0,0,0] c).length by omega)]
 exact congrArg some (h.2.1 i (by omega))
section
variable {β:Type} (w:β→Int) (e:β→Int × Int)
def mb(s:Int × Int × Int)(x:β):Int × Int × Int:=if w x < s.2.2 then ((e x).1,(e x).2,w x) else s
end
def tX(P:Nat):List (Nat × Nat):=(List.range P).flatMap λ i=>(List.range 31).map λ j=>(i,j)
set_option maxRecDepth 1000000 in
def yU(b:ao)(x:Nat × Nat):Nat:=((dm b).filter λ c=>decide (nth c x.1≤(x.2:Int))).length
def BU(b:ao)(x:Nat × Nat):Int:=max (yU b x:Int) ((dm b).length - yU b x)
def ng(x:Nat × Nat):Int × Int:=((x.1:Int),(x.2:Int))
def yL(b:ao):Int × Int × Int:=(tX b.aO.length).foldl (mb (BU b) ng) (-1,-1,((dm b).length:Int))
theorem wx(b:ao)(x:Nat × Nat):yU b x≤(dm b).length:=List.length_filter_le _ _
theorem acZ{w:Nat × Nat→Int}{P:Nat}(hP:P≤3){inner:Int→(Int × Int × Int × Int)→Option ((Int × Int × Int × Int) ⊕ (Int × Int × Int))}
  (h:∀ (i j:Nat) (s:Int × Int × Int),i < P→j < 31→inner (i:Int) (s.1,s.2.1,s.2.2,(j:Int))=some (.inl ((mb w ng s (i,j)).1,(mb w ng s (i,j)).2.1,(mb w ng s (i,j)).2.2,((j+1:Nat):Int))))
  (hn:∀ (i:Nat) (s:Int × Int × Int),i < P→inner (i:Int) (s.1,s.2.1,s.2.2,31)=some (.inr s)) (s0:Int × Int × Int) :
  bD (O:=(Int × Int × Int)) (λ (s:(Int × Int × Int × Int))=>ag (decide (s.2.2.2 < (P:Int))) ((bD (inner s.2.2.2) (s.1,s.2.1,s.2.2.1,0)).bind λ p=>some (.inl (p.1,p.2.1,p.2.2,i64 (s.2.2.2+1)))) (some (.inr (s.1,s.2.1,s.2.2.1)))) (s0.1,s0.2.1,s0.2.2,0)=some ((tX P).foldl (mb w ng) s0):=by
 have inn:∀ (i:Nat) (s:Int × Int × Int),i < P→bD (inner (i:Int)) (s.1,s.2.1,s.2.2,0)=some (((List.range 31).map λ j=>(i,j)).foldl (mb w ng) s):=by
  intro i s hi
  have e0:(s.1,s.2.1,s.2.2,(0:Int))=(λ j:Nat=>((((List.range j).map λ j=>(i,j)).foldl (mb w ng) s).1,(((List.range j).map λ j=>(i,j)).foldl (mb w ng) s).2.1,(((List.range j).map λ j=>(i,j)).foldl (mb w ng) s).2.2,(j:Int))) 0:=rfl
  rw [e0]
  refine tL (λ j:Nat=>((((List.range j).map λ j=>(i,j)).foldl (mb w ng) s).1,(((List.range j).map λ j=>(i,j)).foldl (mb w ng) s).2.1,(((List.range j).map λ j=>(i,j)).foldl (mb w ng) s).2.2,(j:Int))) 31 (λ j hj=>?_) (hn i _ hi)
  refine (h i j _ hi hj).trans ?_
  rw [List.range_succ,List.map_append,List.foldl_append]
  rfl
 have e0:(s0.1,s0.2.1,s0.2.2,(0:Int))=(λ i:Nat=>(((tX i).foldl (mb w ng) s0).1,((tX i).foldl (mb w ng) s0).2.1,((tX i).foldl (mb w ng) s0).2.2,(i:Int))) 0:=rfl
 rw [e0]
 refine tL (λ i:Nat=>(((tX i).foldl (mb w ng) s0).1,((tX i).foldl (mb w ng) s0).2.1,((tX i).foldl (mb w ng) s0).2.2,(i:Int))) P (λ i hi=>?_) (by simp only [gB,bI])
 simp only [dec_lt hi,b9,fH (i:=i) (by omega)]
 rw [inn i _ hi,Option.bind_some]
 have:tX (i+1)=tX i++(List.range 31).map λ j=>(i,j):=by simp [tX,List.range_succ]
 rw [this,List.foldl_append]
theorem aA6{b:ao}(hv:Valid b):tQ b=some (if dm b=[] then (0,0,0,9) else ((yL b).1,(yL b).2.1,(yL b).2.2,0)):=by
 have h3:=hv.p3
 have Rp:=LD hv
 unfold tQ
 rw [WA hv.sm (own:=0) (λ _=>rfl),Option.bind_some]
 by_cases hc:dm b=[]
 ·have:j3 b 0=9:=by unfold j3; simp [oz.2 hv,hc]
  unfold Fy
  rw [this,if_pos hc]
  rfl
 ·unfold Fy
  rw [aln hv rfl hc,if_neg hc]
  simp only [ne_eq,not_true_eq_false,if_false,bne_self_eq_false,bI]
  refine (oq (o:=yL b) ?_).trans rfl
  rw [show ((CE b).eV.length:Int)=((dm b).length:Int) by simp [CE]]
  refine acZ (w:=BU b) (inner:=λ (i:Int) (s:Int × Int × Int × Int)=>ag (decide (s.2.2.2 < 31)) ((rX (CE b) (λ y=>zB y i s.2.2.2)).bind λ x=>ag (decide (pX x [i64 (((dm b).length:Int) - x)] < s.2.2.1)) (some (.inl (i,s.2.2.2,pX x [i64 (((dm b).length:Int) - x)],i64 (s.2.2.2+1)))) (some (.inl (s.1,s.2.1,s.2.2.1,i64 (s.2.2.2+1))))) (some (.inr (s.1,s.2.1,s.2.2.1)))) h3 (λ i j s hi hj=>?_) (λ i s hi=>by rw [show decide ((31:Int) < 31)=false from rfl,bI]) (-1,-1,((dm b).length:Int))
  have an0:=wx b (i,j)
  simp only [show decide ((j:Int) < 31)=true by simp; omega,b9]
  rw [azs hv (p:=λ c=>decide (nth c i≤(j:Int))) (λ c hc=>by unfold zB; rw [aFC hv (adL.1 hc).1.1 hi]; rfl),Option.bind_some]
  rw [show ((dm b).filter λ c=>decide (nth c i≤(j:Int))).length=yU b (i,j) from rfl,rS (z:=((dm b).length:Int) - (yU b (i,j):Int)) (by omega) (by omega),adK,fH (i:=j) (by omega)]
  rw [show max (yU b (i,j):Int) (((dm b).length:Int) - (yU b (i,j):Int))=BU b (i,j) from rfl]
  unfold mb
  by_cases hl:BU b (i,j) < s.2.2
  ·simp only [hl,decide_true,b9,if_true]; rfl
  ·simp only [hl,decide_false,bI,if_false]
theorem aAW{b:ao}(hs:b.aN.length≤1000)(s:cz):vC b s=some (yq b (b.aN++[s])):=by
 unfold vC
 rw [kF (by simp; omega),Option.bind_some,kF (by simp; omega),Option.bind_some]
 rfl
end Go.Proofs.YtihapemckcdicaaGreatDoor
