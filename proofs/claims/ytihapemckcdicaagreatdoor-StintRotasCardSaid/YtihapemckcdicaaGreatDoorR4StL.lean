/- Plain laws of chapter 5. Conditions: none. -/
import Derived.Test.YtihapemckcdicaaGreatDoorQHStP
import Derived.Test.YtihapemckcdicaaGreatDoorQHStC
import Derived.Test.YtihapemckcdicaaGreatDoorQHStM
namespace Go.Proofs.YtihapemckcdicaaGreatDoor
open Go.Lg Go.Proofs
set_option maxRecDepth 10000
def xY(x:Reach)(a c:Int):Bool:=decide (a≤x.cz) && (decide (x.cz≤x.dt) && decide (x.dt≤c))
def B1(x:Reach)(w:Int):Bool:=decide (x.dt - x.cz < w)
theorem aK3{x:Reach}{a c:Int}(ha : -1000000≤a)(hc:c≤1000000)(h:xY x a c=true):i64 (x.dt - x.cz)=x.dt - x.cz:=by
 simp only [xY,fy,decide_eq_true_eq] at h
 exact mE (by omega) (by omega)
theorem aIh{x:Reach}{a c:Int}:xY x a c=true↔a≤x.cz∧x.cz≤x.dt∧x.dt≤c:=by simp [xY]
theorem aK4{x:Reach}{w:Int}:B1 x w=true↔x.dt - x.cz < w:=by simp [B1]
def tT(x:Reach):List Int:=(List.range (x.dt+1 - x.cz).toNat).map λ (j:Nat)=>x.cz+(j:Int)
theorem aGQ{x:Reach}{n:Int}:n∈tT x↔x.cz≤n∧n≤x.dt:=by
 simp only [tT,List.mem_map,List.mem_range]
 constructor
 ·rintro ⟨j,hj,rfl⟩; omega
 ·intro h; exact ⟨(n - x.cz).toNat,by omega,by omega⟩
theorem aiQ{x:Reach}(h:x.dt - x.cz < 3):(tT x).length≤3:=by simp [tT]; omega
instance:Inhabited fW:=⟨⟨0,0⟩⟩
instance:Inhabited Reach:=⟨⟨0,0⟩⟩
instance:Inhabited ft:=⟨⟨⟨#[]⟩,0⟩⟩
instance:Inhabited m5:=⟨⟨0,0,0,0⟩⟩
instance:Inhabited eS:=⟨⟨0,0,false⟩⟩
instance:Inhabited bt:=⟨⟨[0,0,0]⟩⟩
theorem xK(n a c:Int):kL n a c=some (dg n a c):=by
 unfold kL dg
 cases decide (a≤n) <;> rfl
theorem ss(n a c:Int):mF n a c=some (dg n a c):=by
 unfold mF dg
 cases decide (a≤n) <;> rfl
theorem aFp(x:Reach)(a c:Int):LY x a c=some (xY x a c):=by
 unfold LY xY
 cases decide (a≤x.cz) <;> cases decide (x.cz≤x.dt) <;> rfl
theorem aFZ{x:Reach}{a c w:Int}(ha : -1000000≤a)(hc:c≤1000000):Ek x a c w=some (xY x a c && B1 x w):=by
 unfold Ek xY B1
 by_cases h1:a≤x.cz
 ·by_cases h2:x.cz≤x.dt
  ·by_cases h3:x.dt≤c
   ·simp [h1,h2,h3,mE (z:=x.dt - x.cz) (by omega) (by omega)]
   ·simp [h1,h2,h3]
  ·simp [h1,h2]
 ·simp [h1]
theorem Uz{α:Type}[Inhabited α]{l:List α}{f:α→Option Bool}{p:α→Bool}(hl:l.length≤1000)(hf:∀ x∈l,f x=some (p x)):((bE (O:=(Unit ⊕ Int)) (λ (dO:Int) =>
 af (decide (dO < (l.length:Int)))
 ((idx l dO).bind λ n6 =>
 (f n6).bind λ mV =>
 af mV
 (some (.inr (.inr dO)))
 (some (.inl (i64 (dO+1)))))
 (some (.inr (.inl ())))) 0).bind (Sum.elim (λ (_:Unit) =>
 some (-1))
  (λ q=>some q))).bind (λ df=>some (decide (df ≥ 0)))=some (l.any p):=by
 rw [vZ (λ i=>if p (nth l i) then some (i:Int) else none) l.length (d:=(-1)) (λ i hi=>?_) (by simp only [eg,bu]) rfl]
 ·rw [aX,ar5 p l]
 ·simp only [dec_lt hi,bT,dG,cw hi,aX,hf _ (gS hi),dr (i:=i) (by omega)]
  cases p (nth l i) <;> rfl
theorem aFW{l:List Reach}{f:Reach→Option Bool}{p:Reach→Bool}(hl:l.length≤1000)(hf:∀ x∈l,f x=some (p x)):G3 l f=some (l.any p):=Uz hl hf
theorem aF3{l:List ft}{f:ft→Option Bool}{p:ft→Bool}(hl:l.length≤1000)(hf:∀ x∈l,f x=some (p x)):G4 l f=some (l.any p):=Uz hl hf
theorem aFt{l:List eS}{f:eS→Option Bool}{p:eS→Bool}(hl:l.length≤1000)(hf:∀ x∈l,f x=some (p x)):GV l f=some (l.any p):=Uz hl hf
theorem QB{l:List Int}{n:Int}(hl:l.length≤1000):BE l n=some (l.contains n):=by
 unfold BE
 refine (vZ (λ i=>if (nth l i == n) then some true else none) l.length (d:=false) (λ i hi=>?_) (by simp only [eg,bu]) rfl).trans ?_
 ·simp only [dec_lt hi,bT,dG,cw hi,aX,dr (i:=i) (by omega)]
  cases nth l i == n <;> rfl
 ·rw [U8 (λ x=>x == n) l]
  rw [ani]
structure Small (b:aj):Prop where
 rows:b.Rows.length≤20
 places:b.aR.length≤20
 qm:b.an.length≤20
 aeu:b.ao.length≤20
 aJl:b.bd.length≤20
 each:∀ p∈b.an,p.Name.size≤100
def Jv(b:aj):Bool :=
 decide (20 < b.Rows.length) || (decide (20 < b.aR.length) || (decide (20 < b.an.length) || (decide (20 < b.ao.length) || (decide (20 < b.bd.length) || b.an.any λ p=>decide (100 < p.Name.size)))))
theorem AN{n m:Nat}:decide ((n:Int) > (m:Int))=decide (m < n):=by
 by_cases h:m < n <;> simp [h]
theorem aFy(b:aj):L1 b=some (Jv b):=by
 unfold L1 Jv
 have e1:decide ((b.Rows.length:Int) > 20)=decide (20 < b.Rows.length):=AN (m:=20)
 have e2:decide ((b.aR.length:Int) > 20)=decide (20 < b.aR.length):=AN (m:=20)
 have e3:decide ((b.an.length:Int) > 20)=decide (20 < b.an.length):=AN (m:=20)
 have e4:decide ((b.ao.length:Int) > 20)=decide (20 < b.ao.length):=AN (m:=20)
 have e5:decide ((b.bd.length:Int) > 20)=decide (20 < b.bd.length):=AN (m:=20)
 rw [e1,e2,e3,e4,e5]
 by_cases h1:20 < b.Rows.length
 ·simp [h1]
 by_cases h2:20 < b.aR.length
 ·simp [h1,h2]
 by_cases h3:20 < b.an.length
 ·simp [h1,h2,h3]
 by_cases h4:20 < b.ao.length
 ·simp [h1,h2,h3,h4]
 by_cases h5:20 < b.bd.length
 ·simp [h1,h2,h3,h4,h5]
 simp only [h1,h2,h3,h4,h5,decide_false,bu,aX,Bool.false_or]
 rw [vZ (λ i=>if decide (100 < (nth b.an i).Name.size) then some true else none) b.an.length (d:=false) (λ i hi=>?_) (by simp only [eg,bu]) rfl]
 ·rw [U8 (λ p:ft=>decide (100 < p.Name.size)) b.an]
 ·have f1:decide (((nth b.an i).Name.size:Int) > 100)=decide (100 < (nth b.an i).Name.size):=AN (m:=100)
  simp only [dec_lt hi,bT,dG,cw hi,aX,f1,dr (i:=i) (by omega)]
  cases decide (100 < (nth b.an i).Name.size) <;> rfl
theorem ash{b:aj}(h:Jv b=false):Small b:=by
 simp only [Jv,Bool.or_eq_false_iff,decide_eq_false_iff_not,List.any_eq_false,decide_eq_true_eq] at h
 obtain ⟨h1,h2,h3,h4,h5,h6⟩:=h
 exact ⟨by omega,by omega,by omega,by omega,by omega,λ p hp=>by have:=h6 p hp; omega⟩
theorem ahA{n:Int}(h1:0≤n)(h2:n < 256):Ec n=some (isLet n):=by unfold Ec isLet; rw [mE (by omega) (by omega),ss]; rfl
theorem aFD{n:Int}(h1:0≤n)(h2:n < 256):GZ n=some (y8 n):=by unfold GZ y8; rw [mE (by omega) (by omega),ss]; rfl
theorem aFr{s:ByteArray}(hs:s.size≤1000):LZ s=some (se s):=by
 unfold LZ se
 rw [ss,aX]
 cases hb:dg (s.size:Int) 1 12 with
 | false =>
  simp only [Bool.not_false,bT,aX]
  congr 1
  cases hf:ff (pn s) 0 s.size with
  | none=>rfl
  | some o=>rw [aDi hf]; rfl
 | true =>
  have h1:1≤s.size:=by
   simp only [dg,fy,decide_eq_true_eq] at hb
   omega
  have qb:0 < (iB s).length:=by rw [RG]; omega
  obtain ⟨g1,g2⟩:=aji (s:=s) (i:=0) (by omega)
  have Ga:wb s 0=some (nth (iB s) 0):=by unfold wb; rw [← cw qb]; exact dG _ 0
  simp only [Bool.not_true,bu,Ga,aX,ahA g1 g2]
  have hu:ff (pn s) 0 s.size=match pn s 0 with | some o=>some o | none=>ff (pn s) 1 (s.size - 1):=by
   obtain ⟨k,hk⟩:∃ k,s.size=k+1:=⟨s.size - 1,by omega⟩
   rw [hk]
   simp only [ff,Nat.add_sub_cancel,Nat.zero_add]
   cases pn s 0 <;> rfl
  rw [hu]
  unfold pn
  cases hl:isLet (nth (iB s) 0) with
  | false=>rfl
  | true =>
   simp only [Bool.not_true,bu,rA,if_false]
   have e2:=search (body:=λ (rp:Int) =>
    af (decide (rp < (s.size:Int)))
    ((wb s rp).bind λ Ce =>
    (Ec Ce).bind λ pH =>
    af (!pH)
    ((wb s rp).bind λ gJ =>
    (GZ gJ).bind λ n7 =>
    af (!n7)
    (some (.inr (.inr false)))
    (some (.inl (i64 (rp+1)))))
    (some (.inl (i64 (rp+1)))))
    (some (.inr (.inl ())))) (pn s) 1 s.size (d:=true) (g:=λ _=>some true) (λ i WB hi=>?_) (by simp only [eg,bu]) h1 rfl
   ·exact e2
   ·have hi2:i < (iB s).length:=by rw [RG]; exact hi
    obtain ⟨k1,k2⟩:=aji hi
    have hsi:wb s (i:Int)=some (nth (iB s) i):=by unfold wb; rw [← cw hi2]; exact dG _ i
    simp only [dec_lt hi,bT,hsi,aX,ahA k1 k2,aFD k1 k2,dr (i:=i) (by omega)]
    have h0:i≠0:=by omega
    unfold pn
    cases isLet (nth (iB s) i) with
    | true=>rfl
    | false =>
     simp only [Bool.not_false,bT,h0,if_false,if_true]
     cases y8 (nth (iB s) i) <;> rfl
theorem aF1(s:ByteArray):L7 s=some (se s):=rfl
def zG(b:aj)(i:Nat):Option Int :=
 if (dg (nth b.Rows i).eI 1 30 && dg (nth b.Rows i).fp 1 60)=false then some 1
 else if 0 < i then (if (nth b.Rows i).eI≤(nth b.Rows (i - 1)).eI then some 7 else if (nth b.Rows i).fp > (nth b.Rows (i - 1)).fp then some 7 else none) else none
def tU(b:aj):Int:=if dg (b.Rows.length:Int) 1 4=false then 2 else (ff (zG b) 0 b.Rows.length).getD 0
def vM(x:Reach):Bool:=xY x 1 30 && B1 x 3
def sE(b:aj):Int:=if dg (b.aR.length:Int) 1 3=false then 2 else if b.aR.any (λ x=>!vM x)=true then 1 else 0
def zK(p q:ft):Bool:=q.Name.toList == p.Name.toList
def xP(b:aj)(i:Nat):Option Int :=
 if se (nth b.an i).Name=false then some 4 else if (b.an.take i).any (zK (nth b.an i))=true then some 5 else if dg (nth b.an i).oc 1 30=false then some 1 else none
def tL(b:aj):Int:=if dg (b.an.length:Int) 1 4=false then 2 else (ff (xP b) 0 b.an.length).getD 0
def tC(b:aj)(n:Int):Bool:=dg n 0 ((b.aR.length:Int) - 1)
def uS(b:aj)(i:Nat):Option Int :=
 if tC b (nth b.ao i).Place=false then some 6 else if (dg (nth b.ao i).gL 0 200 && (dg (nth b.ao i).fH 1 60 && dg (nth b.ao i).an 1 3))=false then some 1 else none
def wU(b:aj):Int:=if dg (b.ao.length:Int) 1 4=false then 2 else (ff (uS b) 0 b.ao.length).getD 0
def zL(b:aj)(i:Nat):Option Int :=
 if tC b (nth b.bd i).Place=false then some 6 else if dg (nth b.bd i).lW 0 30=false then some 1 else none
def BY(b:aj):Int:=if 3 < b.bd.length then 2 else (ff (zL b) 0 b.bd.length).getD 0
def pW(b:aj):Int:=if dg b.Rest 0 60=false then 1 else if tU b≠0 then tU b else if sE b≠0 then sE b else if tL b≠0 then tL b else if wU b≠0 then wU b else BY b
theorem ahl{n:Int}{m:Nat}(hm:m≤1000):qh n (m:Int)=some (if dg n 0 ((m:Int) - 1)=false then 6 else 0):=by
 unfold qh
 rw [xK,aX,mE (by omega) (by omega)]
 cases dg n 0 ((m:Int) - 1) <;> rfl
theorem aFM{b:aj}(h:Small b):Ee b=some (tU b):=by
 unfold Ee tU
 have hr:=h.rows
 rw [xK,aX]
 cases dg (b.Rows.length:Int) 1 4 with
 | false=>rfl
 | true =>
  simp only [Bool.not_true,bu,rA,if_false]
  refine vZ (zG b) b.Rows.length (λ i hi=>?_) (by simp only [eg,bu]) rfl
  simp only [dec_lt hi,bT,dG,cw hi,aX,xK,dr (i:=i) (by omega)]
  unfold zG
  cases dg (nth b.Rows i).eI 1 30 with
  | false=>rfl
  | true =>
   cases dg (nth b.Rows i).fp 1 60 with
   | false=>rfl
   | true =>
    by_cases hp:0 < i
    ·simp only [aeq hp,Bool.not_true,bu,bT,ZZ (i:=i) (by omega) hp,dG,cw (show i - 1 < b.Rows.length by omega),aX,hp,if_true,Bool.and_self,rA,if_false]
     by_cases hc:(nth b.Rows i).eI≤(nth b.Rows (i - 1)).eI
     ·simp [hc]
     ·by_cases hd:(nth b.Rows i).fp > (nth b.Rows (i - 1)).fp
      ·simp [hc,hd]
      ·simp [hc,hd]
    ·simp [hp]
theorem aES{b:aj}(h:Small b):LP b=some (if dg b.Rest 0 60=false then 1 else tU b):=by
 unfold LP tU
 have hr:=h.rows
 rw [ss,aX]
 cases dg b.Rest 0 60 with
 | false=>rfl
 | true =>
 simp only [Bool.not_true,bu,rA,if_false]
 rw [ss,aX]
 cases dg (b.Rows.length:Int) 1 4 with
 | false=>rfl
 | true =>
  simp only [Bool.not_true,bu,rA,if_false]
  refine vZ (zG b) b.Rows.length (λ i hi=>?_) (by simp only [eg,bu]) rfl
  simp only [dec_lt hi,bT,dG,cw hi,aX,ss,dr (i:=i) (by omega)]
  unfold zG
  cases dg (nth b.Rows i).eI 1 30 with
  | false=>rfl
  | true =>
   cases dg (nth b.Rows i).fp 1 60 with
   | false=>rfl
   | true =>
    by_cases hp:0 < i
    ·simp only [aeq hp,Bool.not_true,bu,bT,ZZ (i:=i) (by omega) hp,dG,cw (show i - 1 < b.Rows.length by omega),aX,hp,if_true,Bool.and_self,rA,if_false]
     by_cases hc:(nth b.Rows i).eI≤(nth b.Rows (i - 1)).eI
     ·simp [hc]
     ·by_cases hd:(nth b.Rows i).fp > (nth b.Rows (i - 1)).fp
      ·simp [hc,hd]
      ·simp [hc,hd]
    ·simp [hp]
theorem aFO{b:aj}(h:Small b):Ef b=some (sE b):=by
 unfold Ef sE
 rw [xK,aX]
 cases dg (b.aR.length:Int) 1 3 with
 | false=>rfl
 | true =>
  have hp:=h.places
  simp only [Bool.not_true,bu,rA,if_false]
  rw [aFW (p:=λ x=>!vM x) (by omega) (λ x _=>by unfold Ej vM; rw [aFZ (by omega) (by omega)]; rfl),aX]
  cases b.aR.any λ x=>!vM x <;> rfl
theorem aFQ{b:aj}(h:Small b):Eg b=some (tL b):=by
 unfold Eg tL
 rw [xK,aX]
 cases dg (b.an.length:Int) 1 4 with
 | false=>rfl
 | true =>
  have hp:=h.qm
  simp only [Bool.not_true,bu,rA,if_false]
  refine vZ (xP b) b.an.length (λ i hi=>?_) (by simp only [eg,bu]) rfl
  simp only [dec_lt hi,bT,dG,cw hi,aX,aF1,aek (show i≤b.an.length by omega),xK,
   aF3 (l:=b.an.take i) (f:=λ y=>El y (nth b.an i)) (p:=zK (nth b.an i)) (by simp; omega) (λ x _=>rfl),dr (i:=i) (by omega)]
  unfold xP
  cases se (nth b.an i).Name with
  | false=>rfl
  | true =>
   cases (b.an.take i).any (zK (nth b.an i)) with
   | true=>rfl
   | false=>cases dg (nth b.an i).oc 1 30 <;> rfl
theorem aEU{b:aj}(h:Small b):LQ b=some (if sE b≠0 then sE b else tL b):=by
 unfold LQ sE
 rw [ss,aX]
 cases dg (b.aR.length:Int) 1 3 with
 | false=>rfl
 | true =>
  have hp:=h.places
  simp only [Bool.not_true,bu,rA,if_false]
  rw [abj (λ i=>if (λ x=>!vM x) (nth b.aR i) then some (1:Int) else none) b.aR.length (λ i hi=>?_) (by simp only [eg,bu])]
  ·rw [afu (λ x=>!vM x) (1:Int) b.aR b.aR.length (eR _),List.take_length]
   cases b.aR.any λ x=>!vM x with
   | true=>rfl
   | false =>
    simp only [nF,if_false,aX,Sum.elim_inl,ne_eq,kV]
    unfold tL
    rw [ss,aX]
    cases dg (b.an.length:Int) 1 4 with
    | false=>rfl
    | true =>
     have hm:=h.qm
     simp only [Bool.not_true,bu,rA,if_false]
     refine vZ (xP b) b.an.length (λ i hi=>?_) (by simp only [eg,bu]) rfl
     have hn:=h.each _ (gS hi)
     simp only [dec_lt hi,bT,dG,cw hi,aX,aFr (show (nth b.an i).Name.size≤1000 by omega)]
     rw [abj (λ k=>if zK (nth b.an i) (nth b.an k) then some (5:Int) else none) i (λ k hk=>?_) (by simp only [eg,bu])]
     ·rw [afu (zK (nth b.an i)) (5:Int) b.an i (by omega)]
      simp only [ss,aX,dr (i:=i) (by omega)]
      unfold xP
      cases se (nth b.an i).Name with
      | false=>rfl
      | true =>
       cases (b.an.take i).any (zK (nth b.an i)) with
       | true=>rfl
       | false=>cases dg (nth b.an i).oc 1 30 <;> rfl
     ·simp only [dec_lt hk,bT,dG,cw (show k < b.an.length by omega),aX,dr (i:=k) (by omega)]
      rw [show ((nth b.an k).Name.toList == (nth b.an i).Name.toList)=zK (nth b.an i) (nth b.an k) from rfl]
      cases zK (nth b.an i) (nth b.an k) <;> rfl
  ·simp only [dec_lt hi,bT,dG,cw hi,aX,aFp,dr (i:=i) (by omega)]
   unfold vM
   by_cases hr:xY (nth b.aR i) 1 30=true
   ·have hw:decide (i64 ((nth b.aR i).dt - (nth b.aR i).cz) ≥ 3)=!B1 (nth b.aR i) 3:=by
     rw [aK3 (by omega) (by omega) hr]
     unfold B1
     by_cases hx:(nth b.aR i).dt - (nth b.aR i).cz < 3
     ·simp [hx]
     ·simp [hx]; omega
    rw [hw]
    by_cases hx:B1 (nth b.aR i) 3=true
    ·simp [hr,hx,bu]
    ·simp [hr,hx,bu,bT]
   ·simp [hr,bT]
theorem aFS{b:aj}(h:Small b):Eh b=some (wU b):=by
 unfold Eh wU
 rw [xK,aX]
 cases dg (b.ao.length:Int) 1 4 with
 | false=>rfl
 | true =>
  have hp:=h.places
  have hd:=h.aeu
  simp only [Bool.not_true,bu,rA,if_false]
  refine vZ (uS b) b.ao.length (λ i hi=>?_) (by simp only [eg,bu]) rfl
  simp only [dec_lt hi,bT,dG,cw hi,aX,ahl (show b.aR.length≤1000 by omega),xK,dr (i:=i) (by omega)]
  unfold uS tC
  cases dg (nth b.ao i).Place 0 ((b.aR.length:Int) - 1) with
  | false=>rfl
  | true=>cases dg (nth b.ao i).gL 0 200 <;> cases dg (nth b.ao i).fH 1 60 <;> cases dg (nth b.ao i).an 1 3 <;> rfl
theorem aFU{b:aj}(h:Small b):Ei b=some (BY b):=by
 unfold Ei BY
 have e:decide ((b.bd.length:Int) > 3)=decide (3 < b.bd.length):=AN (m:=3)
 rw [e]
 by_cases h3:3 < b.bd.length
 ·simp [h3]
 have hp:=h.places
 simp only [h3,decide_false,bu,if_false]
 refine vZ (zL b) b.bd.length (λ i hi=>?_) (by simp only [eg,bu]) rfl
 simp only [dec_lt hi,bT,dG,cw hi,aX,ahl (show b.aR.length≤1000 by omega),xK,dr (i:=i) (by omega)]
 unfold zL tC
 cases dg (nth b.bd i).Place 0 ((b.aR.length:Int) - 1) with
 | false=>rfl
 | true=>cases dg (nth b.bd i).lW 0 30 <;> rfl
theorem ah0{z:Int}{a c:Option Int}:af (z != 0) a c=if z≠0 then a else c:=by
 by_cases h:z=0
 ·subst h; rfl
 ·rw [if_pos h,qp h]; rfl
theorem aGw{b:aj}(h:Small b):rh b=some (pW b):=by
 unfold rh pW
 rw [show (⟨b.Rest,b.Rows,b.aR,b.an,b.ao,b.bd⟩:aj)=b from rfl]
 unfold G2
 rw [xK,aX]
 cases dg b.Rest 0 60 with
 | false=>rfl
 | true =>
  simp only [Bool.not_true,bu,aX,aFM h,aFO h,aFQ h,aFS h,aFU h,ah0,rA,if_false]
  by_cases h1:tU b=0
  ·by_cases h2:sE b=0
   ·by_cases h3:tL b=0
    ·by_cases h4:wU b=0
     ·by_cases h5:BY b=0
      ·simp [h1,h2,h3,h4,h5]
      ·simp [h1,h2,h3,h4,h5]
     ·simp [h1,h2,h3,h4]
    ·simp [h1,h2,h3]
   ·simp [h1,h2]
  ·simp [h1]
theorem ahj{b:aj}{n:Int}(h:Small b):Gx b n=some (tC b n):=by
 unfold Gx tC
 have hp:=h.places
 rw [ss,mE (by omega) (by omega)]
 rfl
theorem aGq{b:aj}(h:Small b):Mg b=some (pW b):=by
 unfold Mg pW
 rw [aES h,aX]
 cases dg b.Rest 0 60 with
 | false=>rfl
 | true =>
  have hp:=h.places
  have hd:=h.aeu
  have hs:=h.aJl
  simp only [rA,if_false,aEU h,aX,ah0]
  by_cases h1:tU b=0
  ·by_cases h2:sE b=0
   ·by_cases h3:tL b=0
    ·simp only [h1,h2,h3,ne_eq,kV,if_false]
     unfold wU
     rw [ss,aX]
     cases dg (b.ao.length:Int) 1 4 with
     | false=>rfl
     | true =>
      simp only [Bool.not_true,bu,rA,if_false]
      rw [abj (uS b) b.ao.length (λ i hi=>?_) (by simp only [eg,bu])]
      ·cases hf:ff (uS b) 0 b.ao.length with
       | some o =>
        simp only [aX,Sum.elim_inr,oT]
        rw [if_pos]
        rintro rfl
        obtain ⟨j,_,_,he,_⟩:=yC hf
        unfold uS at he
        split at he
        ·cases he
        ·split at he <;> cases he
       | none =>
        simp only [aX,Sum.elim_inl,Option.getD_none,kV,if_false]
        unfold BY
        have e:decide ((b.bd.length:Int) > 3)=decide (3 < b.bd.length):=AN (m:=3)
        rw [e]
        by_cases h3:3 < b.bd.length
        ·simp [h3]
        simp only [h3,decide_false,bu,if_false]
        refine vZ (zL b) b.bd.length (λ i hi=>?_) (by simp only [eg,bu]) rfl
        simp only [dec_lt hi,bT,dG,cw hi,aX,ahj h,ss,dr (i:=i) (by omega)]
        unfold zL
        cases tC b (nth b.bd i).Place with
        | false=>rfl
        | true=>cases dg (nth b.bd i).lW 0 30 <;> rfl
      ·simp only [dec_lt hi,bT,dG,cw hi,aX,ahj h,ss,dr (i:=i) (by omega)]
       unfold uS
       cases tC b (nth b.ao i).Place with
       | false=>rfl
       | true=>cases dg (nth b.ao i).gL 0 200 <;> cases dg (nth b.ao i).fH 1 60 <;> cases dg (nth b.ao i).an 1 3 <;> rfl
    ·simp [h1,h2,h3]
   ·simp [h1,h2]
  ·simp [h1]
structure ams (r:fW):Prop where
 depth:1≤r.eI∧r.eI≤30
 stay:1≤r.fp∧r.fp≤60
structure acu (P:Nat) (d:m5):Prop where
 place:0≤d.Place∧d.Place < (P:Int)
 I1:0≤d.gL∧d.gL≤200
 zN:1≤d.fH∧d.fH≤60
 qm:1≤d.an∧d.an≤3
structure amB (P:Nat) (s:eS):Prop where
 place:0≤s.Place∧s.Place < (P:Int)
 line:0≤s.lW∧s.lW≤30
structure Valid (b:aj):Prop where
 rest:0≤b.Rest∧b.Rest≤60
 r1:1≤b.Rows.length
 r4:b.Rows.length≤4
 row:∀ r∈b.Rows,ams r
 aom:∀ i,0 < i→i < b.Rows.length→(nth b.Rows (i - 1)).eI < (nth b.Rows i).eI∧(nth b.Rows i).fp≤(nth b.Rows (i - 1)).fp
 p1:1≤b.aR.length
 p3:b.aR.length≤3
 place:∀ x∈b.aR,1≤x.cz∧x.cz≤x.dt∧x.dt≤30∧x.dt - x.cz < 3
 m1:1≤b.an.length
 m4:b.an.length≤4
 man:∀ m∈b.an,se m.Name=true∧1≤m.oc∧m.oc≤30
 names:∀ i,i < b.an.length→(b.an.take i).any (zK (nth b.an i))=false
 d1:1≤b.ao.length
 d4:b.ao.length≤4
 aet:∀ d∈b.ao,acu b.aR.length d
 s3:b.bd.length≤3
 sound:∀ s∈b.bd,amB b.aR.length s
theorem aIT{b:aj}(i:Nat):zG b i≠some 0:=by
 unfold zG
 intro h
 repeat' split at h
 all_goals cases h
theorem aGI{b:aj}(i:Nat):xP b i≠some 0:=by
 unfold xP
 intro h
 repeat' split at h
 all_goals cases h
theorem aoD{b:aj}(i:Nat):uS b i≠some 0:=by
 unfold uS
 intro h
 repeat' split at h
 all_goals cases h
theorem aJk{b:aj}(i:Nat):zL b i≠some 0:=by
 unfold zL
 intro h
 repeat' split at h
 all_goals cases h
theorem abh{b:aj}{i:Nat}:zG b i=none↔((1≤(nth b.Rows i).eI∧(nth b.Rows i).eI≤30)∧(1≤(nth b.Rows i).fp∧(nth b.Rows i).fp≤60))∧(0 < i→(nth b.Rows (i - 1)).eI < (nth b.Rows i).eI∧(nth b.Rows i).fp≤(nth b.Rows (i - 1)).fp):=by
 unfold zG
 by_cases h1:(dg (nth b.Rows i).eI 1 30 && dg (nth b.Rows i).fp 1 60)=false
 ·rw [if_pos h1]
  simp only [reduceCtorEq,false_iff]
  rintro ⟨⟨h2,h3⟩,_⟩
  rw [lL.2 h2,lL.2 h3] at h1
  cases h1
 ·rw [if_neg h1]
  simp only [Bool.not_eq_false,fy,lL] at h1
  by_cases h0:0 < i
  ·rw [if_pos h0]
   constructor
   ·intro h
    split at h
    ·cases h
    ·split at h
     ·cases h
     ·exact ⟨h1,λ _=>by omega⟩
   ·rintro ⟨_,h2⟩
    have:=h2 h0
    rw [if_neg (by omega),if_neg (by omega)]
  ·rw [if_neg h0]
   exact ⟨λ _=>⟨h1,λ h=>absurd h h0⟩,λ _=>rfl⟩
theorem ah7{x:Reach}:vM x=true↔1≤x.cz∧x.cz≤x.dt∧x.dt≤30∧x.dt - x.cz < 3:=by
 unfold vM
 rw [fy,aIh,aK4]
 omega
theorem abO{b:aj}:pW b=0↔Valid b:=by
 constructor
 ·intro h
  unfold pW at h
  by_cases h1:dg b.Rest 0 60=false
  ·rw [if_pos h1] at h; cases h
  rw [if_neg h1] at h
  by_cases h2:tU b=0
  case neg=>rw [if_pos h2] at h; exact absurd h h2
  rw [if_neg (by simpa using h2)] at h
  by_cases h3:sE b=0
  case neg=>rw [if_pos h3] at h; exact absurd h h3
  rw [if_neg (by simpa using h3)] at h
  by_cases h4:tL b=0
  case neg=>rw [if_pos h4] at h; exact absurd h h4
  rw [if_neg (by simpa using h4)] at h
  by_cases h5:wU b=0
  case neg=>rw [if_pos h5] at h; exact absurd h h5
  rw [if_neg (by simpa using h5)] at h
  unfold tU at h2
  unfold sE at h3
  unfold tL at h4
  unfold wU at h5
  unfold BY at h
  split at h2
  ·cases h2
  rename_i g2
  split at h3
  ·cases h3
  rename_i g3
  split at h3
  ·cases h3
  rename_i k3
  split at h4
  ·cases h4
  rename_i g4
  split at h5
  ·cases h5
  rename_i g5
  split at h
  ·cases h
  rename_i g6
  simp only [Bool.not_eq_false,lL] at h1 g2 g3 g4 g5
  have r:=ON aIT h2
  have m:=ON aGI h4
  have d:=ON aoD h5
  have s:=ON aJk h
  refine ⟨h1,by omega,by omega,λ x hx=>?_,λ i h0 hi=>(abh.1 (r i hi)).2 h0,by omega,by omega,λ x hx=>?_,by omega,by omega,λ x hx=>?_,λ i hi=>?_,by omega,by omega,λ x hx=>?_,by omega,λ x hx=>?_⟩
  ·obtain ⟨i,hi,rfl⟩:=vJ hx
   obtain ⟨⟨q1,q2⟩,_⟩:=abh.1 (r i hi)
   exact ⟨q1,q2⟩
  ·have:b.aR.any (λ x=>!vM x)=false:=by simpa using k3
   rw [List.any_eq_false] at this
   have:=this x hx
   exact ah7.1 (by simpa using this)
  ·obtain ⟨i,hi,rfl⟩:=vJ hx
   have:=m i hi
   unfold xP at this
   split at this
   ·cases this
   ·split at this
    ·cases this
    ·split at this
     ·cases this
     ·rename_i q1 q2 q3
      rw [Bool.not_eq_false,lL] at q3
      exact ⟨by simpa using q1,q3⟩
  ·have:=m i hi
   unfold xP at this
   split at this
   ·cases this
   ·split at this
    ·cases this
    ·rename_i q1 q2
     simpa using q2
  ·obtain ⟨i,hi,rfl⟩:=vJ hx
   have:=d i hi
   unfold uS tC at this
   split at this
   ·cases this
   ·split at this
    ·cases this
    ·rename_i q1 q2
     rw [Bool.not_eq_false,lL] at q1
     rw [Bool.not_eq_false,fy,fy,lL,lL,lL] at q2
     exact ⟨by omega,q2.1,q2.2.1,q2.2.2⟩
  ·obtain ⟨i,hi,rfl⟩:=vJ hx
   have:=s i hi
   unfold zL tC at this
   split at this
   ·cases this
   ·split at this
    ·cases this
    ·rename_i q1 q2
     rw [Bool.not_eq_false,lL] at q1 q2
     exact ⟨by omega,q2⟩
 ·intro h
  have e1:tU b=0:=by
   unfold tU
   have hr1:=h.r1
   have hr4:=h.r4
   rw [if_neg (by rw [Bool.not_eq_false,lL]; omega),tf.2 λ i _ hi=>?_]
   ·rfl
   ·have hx:=h.row _ (gS (l:=b.Rows) (i:=i) (by omega))
    exact abh.2 ⟨⟨hx.depth,hx.stay⟩,λ h0=>h.aom i h0 (by omega)⟩
  have e2:sE b=0:=by
   unfold sE
   have h1:=h.p1
   have h3:=h.p3
   rw [if_neg (by rw [Bool.not_eq_false,lL]; omega),if_neg]
   rw [Bool.not_eq_true,List.any_eq_false]
   intro x hx
   simpa using ah7.2 (h.place x hx)
  have e3:tL b=0:=by
   unfold tL
   have h1:=h.m1
   have h4:=h.m4
   rw [if_neg (by rw [Bool.not_eq_false,lL]; omega),tf.2 λ i _ hi=>?_]
   ·rfl
   ·have hx:=h.man _ (gS (l:=b.an) (i:=i) (by omega))
    unfold xP
    rw [if_neg (by simp [hx.1]),if_neg (by rw [h.names i (by omega)]; simp),if_neg (by rw [Bool.not_eq_false,lL]; exact hx.2)]
  have e4:wU b=0:=by
   unfold wU
   have h1:=h.d1
   have h4:=h.d4
   rw [if_neg (by rw [Bool.not_eq_false,lL]; omega),tf.2 λ i _ hi=>?_]
   ·rfl
   ·have hx:=h.aet _ (gS (l:=b.ao) (i:=i) (by omega))
    have hp:=hx.place
    unfold uS tC
    rw [if_neg (by rw [Bool.not_eq_false,lL]; omega),if_neg]
    rw [Bool.not_eq_false,fy,fy,lL,lL,lL]
    exact ⟨hx.I1,hx.zN,hx.qm⟩
  have e5:BY b=0:=by
   unfold BY
   have h3:=h.s3
   rw [if_neg (by omega),tf.2 λ i _ hi=>?_]
   ·rfl
   ·have hx:=h.sound _ (gS (l:=b.bd) (i:=i) (by omega))
    have hp:=hx.place
    unfold zL tC
    rw [if_neg (by rw [Bool.not_eq_false,lL]; omega),if_neg (by rw [Bool.not_eq_false,lL]; exact hx.line)]
  unfold pW
  rw [if_neg (by rw [Bool.not_eq_false,lL]; exact h.rest)]
  simp [e1,e2,e3,e4,e5]
theorem Valid.each{b:aj}(h:Valid b){i:Nat}(hi:i < b.aR.length):1≤(nth b.aR i).cz∧(nth b.aR i).cz≤(nth b.aR i).dt∧(nth b.aR i).dt≤30∧(nth b.aR i).dt - (nth b.aR i).cz < 3:=h.place _ (gS hi)
theorem Z1{α:Type}[Inhabited α]{l:List α}{n:Int}(h0:0≤n)(h:n < (l.length:Int)):idx l n=some (nth l n.toNat):=by
 unfold idx
 rw [if_pos h0]
 exact cw (by omega)
def vO(b:aj)(w:List Int):Bool:=b.bd.all λ s=>decide (nth w s.Place.toNat≤s.lW) == s.sZ
abbrev kG(b:aj):Nat→List Int→List Int:=λ i _=>tT (nth b.aR i)
def gh(b:aj):List (List Int):=(lvl (kG b) b.aR.length).filter (vO b)
theorem ahV{b:aj}{c:List Int}:c∈gh b↔(c.length=b.aR.length∧∀ i,i < b.aR.length→(nth b.aR i).cz≤nth c i∧nth c i≤(nth b.aR i).dt)∧vO b c=true:=by
 unfold gh
 rw [List.mem_filter,Es]
 simp only [kG,aGQ]
def pz(c:List Int):bt:=⟨FK [0,0,0] c⟩
theorem aej{c:List Int}(h:c.length≤3):(FK [0,0,0] c).length=3∧(∀ i,i < c.length→nth (FK [0,0,0] c) i=nth c i)∧∀ i,c.length≤i→i < 3→nth (FK [0,0,0] c) i=0:=by
 match c,h with
 | [],_=>exact ⟨rfl,λ i hi=>by simp at hi,λ i _ hi=>by match i,hi with | 0,_=>rfl | 1,_=>rfl | 2,_=>rfl⟩
 | [_],_=>exact ⟨rfl,λ i hi=>by match i,hi with | 0,_=>rfl,λ i h1 hi=>by match i,h1,hi with | 1,_,_=>rfl | 2,_,_=>rfl⟩
 | [_,_],_=>exact ⟨rfl,λ i hi=>by match i,hi with | 0,_=>rfl | 1,_=>rfl,λ i h1 hi=>by match i,h1,hi with | 2,_,_=>rfl⟩
 | [_,_,_],_=>exact ⟨rfl,λ i hi=>by match i,hi with | 0,_=>rfl | 1,_=>rfl | 2,_=>rfl,λ i h1 hi=>by simp at h1; omega⟩
structure rB (P:Nat) (pre w:List Int):Prop where
 len:w.length=3
 pre:∀ i,i < pre.length→nth w i=nth pre i
 rest:∀ i,P≤i→i < 3→nth w i=0
theorem rB.pz{P:Nat}{pre w:List Int}(h:rB P pre w)(hp:pre.length=P)(h3:P≤3):w=FK [0,0,0] pre:=by
 obtain ⟨h1,h2,h4⟩:=aej (c:=pre) (by omega)
 refine QU (by rw [h.len,h1]) λ i hi=>?_
 by_cases hl:i < pre.length
 ·rw [h.pre i hl,h2 i hl]
 ·rw [h.rest i (by omega) (by rw [← h.len]; exact hi),h4 i (by omega) (by rw [← h.len]; exact hi)]
theorem rB.set{P:Nat}{pre w:List Int}(h:rB P pre w)(hp:pre.length < P)(h3:P≤3)(n:Int):rB P (pre++[n]) (w.set pre.length n):=by
 have hl:=h.len
 refine ⟨by simpa using hl,λ i hi=>?_,λ i h1 h2=>?_⟩
 ·by_cases e:i=pre.length
  ·subst e
   rw [aG2 (by omega),vI]
  ·rw [ah4 (by omega)]
   simp only [lU,List.length_cons,List.length_nil] at hi
   rw [sz (by omega)]
   exact h.pre i (by omega)
 ·rw [ah4 (by omega)]
  exact h.rest i h1 h2
theorem rB.back{P:Nat}{pre w:List Int}{n:Int}(h:rB P (pre++[n]) w):rB P pre w:=⟨h.len,λ i hi=>by rw [h.pre i (by simp; omega),sz hi],h.rest⟩
theorem aFb{b:aj}(hv:Valid b){c:List Int}{w:bt}(hw:∀ i,i < b.aR.length→nth w.deep i=nth c i)(hl:w.deep.length=3):BB b w=some (vO b c):=by
 unfold BB
 have h3:=hv.s3
 have hp:=hv.p3
 rw [aFt (p:=λ s=>!(decide (nth c s.Place.toNat≤s.lW) == s.sZ)) (by omega) (λ s hs=>?_),aX]
 ·unfold vO
  congr 1
  rw [List.not_any_eq_all_not]
  congr 1
  funext s
  simp
 ·have:=(hv.sound s hs).place
  unfold Eb
  rw [Z1 this.1 (by omega),aX,hw _ (by omega)]
theorem aah{α S X O:Type}{ys:α→S→Option (S × Bool)}{body:S × X→Option ((S × X) ⊕ O)}(yc:Nat→List α)(n:Nat)(I:Nat→X→Prop)(F Q:S→O→Prop)
  (h:∀ j s x r,j < n→I j x→jH ys (yc j) s=some r→if r.2=true then ∃ x',body (s,x)=some (.inl (r.1,x'))∧I (j+1) x' else ∃ o,body (s,x)=some (.inr o)∧Q r.1 o) (hn:∀ s x,I n x→∃ o,body (s,x)=some (.inr o)∧F s o) :
  ∀ (k j:Nat) (s:S) (x:X) (r:S × Bool),j+k=n→I j x→jH ys ((List.range' j k).flatMap yc) s=some r→∃ o,bE body (s,x)=some o∧if r.2=true then F r.1 o else Q r.1 o
 | 0,j,s,x,r,hj,hI,hr=>by
  simp only [List.range'_zero,List.flatMap_nil,jH,iS] at hr
  subst hr
  obtain rfl:j=n:=by omega
  obtain ⟨o,h1,h2⟩:=hn s x hI
  exact ⟨o,vx h1,by simpa using h2⟩
 | k+1,j,s,x,r,hj,hI,hr=>by
  rw [List.range'_succ,List.flatMap_cons,afw] at hr
  obtain ⟨q,hq,hr⟩:=ag hr
  have hb:=h j s x q (by omega) hI hq
  split at hr
  ·rename_i h2
   rw [if_pos h2] at hb
   obtain ⟨x',h3,h4⟩:=hb
   rw [DW h3]
   exact aah yc n I F Q h hn k (j+1) q.1 x' r (by omega) h4 hr
  ·rename_i h2
   rw [if_neg h2] at hb
   obtain ⟨o,h3,h4⟩:=hb
   cases hr
   exact ⟨o,vx h3,by simpa using h4⟩
theorem ahy{b:aj}(hv:Valid b){S:Type}(ys:bt→S→Option (S × Bool)):∀ (j k:Nat) (pre:List Int) (w:bt) (s:S) (r:S × Bool),pre.length+j=b.aR.length→j < k→rB b.aR.length pre w.deep →
  jH ys (((tree (kG b) j pre.length pre).filter (vO b)).map pz) s=some r→∃ w',sj ys k (pre.length:Int) b w s=some (r.1,(w',r.2))∧rB b.aR.length pre w'.deep
 | _,0,_,_,_,_,_,hk,_,_=>by omega
 | 0,k+1,pre,w,s,r,hl,_,hw,hr=>by
  rw [Nat.add_zero] at hl
  have h3:=hv.p3
  unfold sj
  rw [show ((pre.length:Int) == (b.aR.length:Int))=true by rw [hl]; simp,bT,aFb (c:=pre) hv (λ i hi=>hw.pre i (by omega)) hw.len,aX]
  simp only [tree] at hr
  have ew:w=pz pre:=by
   obtain ⟨d⟩:=w
   exact congrArg bt.mk (hw.pz hl h3)
  refine ⟨w,?_,hw⟩
  cases hs:vO b pre with
  | true =>
   simp only [List.filter_cons,hs,if_true,List.filter_nil,List.map_cons,List.map_nil,jH] at hr
   obtain ⟨q,hq,hr⟩:=ag hr
   rw [← ew] at hq
   simp only [Bool.not_true,bu,hq,aX]
   split at hr
   ·rename_i h2; cases hr; rw [h2]
   ·rename_i h2; cases hr; simp at h2; rw [h2]
  | false =>
   simp [hs,jH] at hr
   subst hr
   rfl
 | j+1,k+1,pre,w,s,r,hl,hk,hw,hr=>by
  have h3:=hv.p3
  have hx:=hv.each (i:=pre.length) (by omega)
  unfold sj
  rw [show ((pre.length:Int) == (b.aR.length:Int))=false by simp; omega,bu,dG,cw (by omega),aX]
  generalize hX:nth b.aR pre.length=X at hx
  refine Exists.elim (aah (ys:=ys) (S:=S) (X:=Int × List Int) (O:=(S × List Int) ⊕ (S × (bt × Bool))) (body:=λ (bJ:(S × Int × (List Int))) =>
   (some X:Option Reach).bind λ fx =>
   af (decide (bJ.2.1≤fx.dt))
   ((idx bJ.2.2 (pre.length:Int)).bind λ nE =>
   (sj ys k (i64 ((pre.length:Int)+1)) b (⟨bJ.2.2.set (pre.length:Int).toNat bJ.2.1⟩:bt) bJ.1).bind λ iQ =>
   af (!iQ.2.2)
   (some (.inr (.inr (iQ.1,(iQ.2.1,false)))))
   (some (.inl (iQ.1,i64 (bJ.2.1+1),iQ.2.1.deep))))
   (some (.inr (.inl (bJ.1,bJ.2.2)))))
   (λ q=>((tree (kG b) j (pre.length+1) (pre++[X.cz+(q:Int)])).filter (vO b)).map pz) (X.dt+1 - X.cz).toNat (λ q x=>x.1=X.cz+(q:Int)∧rB b.aR.length pre x.2)
   (λ s o=>∃ d,o = .inl (s,d)∧rB b.aR.length pre d) (λ s o=>∃ w',o = .inr (s,(w',false))∧rB b.aR.length pre w'.deep)
   (λ q s x r hq hI hr=>?_) (λ s x hI=>?_) (X.dt+1 - X.cz).toNat 0 s (X.cz,w.deep) r (by omega) ⟨by simp,hw⟩ ?_) ?_
  ·obtain ⟨n,d⟩:=x
   obtain ⟨rfl,hd⟩:=hI
   have hs:=hd.set (n:=X.cz+(q:Int)) (by omega) h3
   obtain ⟨w',h1,h2⟩:=ahy hv ys j k (pre++[X.cz+(q:Int)]) ⟨d.set pre.length (X.cz+(q:Int))⟩ s r (by simp; omega) (by omega) hs (by simpa using hr)
   have hl3:d.length=3:=hd.len
   simp only [lU,List.length_cons,List.length_nil,Nat.zero_add] at h1
   simp only [aX,show decide (X.cz+(q:Int)≤X.dt)=true by simp; omega,bT,dG,cw (show pre.length < d.length by omega),n9,dr (i:=pre.length) (by omega),h1]
   have e1:i64 (X.cz+(q:Int)+1)=X.cz+((q+1:Nat):Int):=by rw [mE (by omega) (by omega)]; omega
   cases hr2:r.2 with
   | true=>exact ⟨(X.cz+((q+1:Nat):Int),w'.deep),by simp [e1,bu],rfl,h2.back⟩
   | false=>exact ⟨.inr (r.1,(w',false)),by simp [bT],w',rfl,h2.back⟩
  ·obtain ⟨n,d⟩:=x
   obtain ⟨rfl,hd⟩:=hI
   refine ⟨.inl (s,d),?_,d,rfl,hd⟩
   simp only [aX,show decide (X.cz+(((X.dt+1 - X.cz).toNat:Nat):Int)≤X.dt)=false by simp; omega,bu]
  ·rw [← hr,← List.range_eq_range']
   congr 1
   simp only [tree,kG,hX,tT,List.flatMap_map,List.map_flatMap,List.filter_flatMap]
  ·rintro o ⟨ho,hc⟩
   rw [show (bE (O:=((S × (List Int)) ⊕ (S × (bt × Bool)))) (λ (bJ:(S × Int × (List Int))) =>
    (some X:Option Reach).bind λ fx =>
    af (decide (bJ.2.1≤fx.dt))
    ((idx bJ.2.2 (pre.length:Int)).bind λ nE =>
    (sj ys k (i64 ((pre.length:Int)+1)) b (⟨bJ.2.2.set (pre.length:Int).toNat bJ.2.1⟩:bt) bJ.1).bind λ iQ =>
    af (!iQ.2.2)
    (some (.inr (.inr (iQ.1,(iQ.2.1,false)))))
    (some (.inl (iQ.1,i64 (bJ.2.1+1),iQ.2.1.deep))))
    (some (.inr (.inl (bJ.1,bJ.2.2))))) (s,X.cz,w.deep))=some o from ho,aX]
   split at hc
   ·rename_i h2
    obtain ⟨d,rfl,hd⟩:=hc
    exact ⟨⟨d⟩,by simp [h2],hd⟩
   ·rename_i h2
    obtain ⟨w',rfl,hd⟩:=hc
    exact ⟨w',by simp at h2; simp [h2],hd⟩
theorem aGB{b:aj}(hv:Valid b){S:Type}(ys:bt→S→Option (S × Bool)){s:S}{r:S × Bool}(hr:jH ys ((gh b).map pz) s=some r):qj ys b s=some r.1:=by
 have h3:=hv.p3
 unfold qj
 obtain ⟨w',h1,_⟩:=ahy hv ys b.aR.length 9 [] ⟨[0,0,0]⟩ s r (by simp) (by omega) ⟨rfl,λ i hi=>by simp at hi,λ i _ hi=>by match i,hi with | 0,_=>rfl | 1,_=>rfl | 2,_=>rfl⟩ (by rw [← hr]; unfold gh; simp only [List.length_nil]; rw [abD])
 have w5:sj ys 9 0 b ⟨[0,0,0]⟩ s=some (r.1,(w',r.2)):=h1
 rw [w5]
 rfl
theorem aak{b:aj}(hv:Valid b):∀ i,i≤b.aR.length→(lvl (kG b) i).length≤3 ^ i
 | 0,_=>by simp [lvl]
 | i+1,h=>by
  have ih:=aak hv i (by omega)
  have hx:=aiQ (hv.each (i:=i) (by omega)).2.2.2
  simp only [lvl]
  refine Nat.le_trans (U9 _ 3 (λ a=>?_) _) ?_
  ·simpa using hx
  ·rw [Nat.pow_succ]; omega
theorem adt{b:aj}(hv:Valid b):(lvl (kG b) b.aR.length).length≤27:=by
 refine Nat.le_trans (aak hv _ (eR _)) ?_
 have h1:=hv.p1
 have h3:=hv.p3
 match b.aR.length,h1,h3 with
 | 1,_,_=>decide
 | 2,_,_=>decide
 | 3,_,_=>decide
theorem Ux{b:aj}(hv:Valid b):(gh b).length≤27:=Nat.le_trans (List.length_filter_le _ _) (adt hv)
theorem aGA{b:aj}(hv:Valid b):zq (λ y s=>qj y b s)=some ((gh b).map pz):=by
 unfold zq GI
 have hl:=Ux hv
 have key:∀ (l a:List bt),l.foldl (λ s c=>s++[c]) a=a++l:=by
  intro l
  induction l with
  | nil=>simp
  | cons c l ih=>intro a; rw [List.foldl_cons,ih]; simp
 dsimp only
 rw [aGB hv _ (r:=(.inl ((((gh b).map pz).foldl (λ (s:List bt) c=>s++[c]) [])),true)) (OM (λ k s=>s.length=k) (λ c s=>s++[c]) _ 0 [] rfl (λ j s a hj hs _=>by
  simp only [List.length_map] at hj
  rw [pU (by simp; omega)]
  exact ⟨rfl,by simp [hs]⟩))]
 rw [key]
 rfl
def aG1:cy:=⟨⟨0,[],[],[],[],[]⟩,[]⟩
def iL(b:aj):cy:=⟨b,(gh b).map pz⟩
def gW(b:aj)(own:Int):Int:=if pW b≠0 then pW b else if own≠0 then own else if gh b=[] then 9 else 0
theorem qS{b:aj}{own:Int}(h:gW b own=0):Valid b∧own=0∧gh b≠[]:=by
 unfold gW at h
 split at h
 ·rename_i h1; exact absurd h h1
 ·rename_i h1
  split at h
  ·rename_i h2; exact absurd h h2
  ·rename_i h2
   split at h
   ·cases h
   ·rename_i h3; exact ⟨abO.1 (by simpa using h1),by simpa using h2,h3⟩
def Ez(b:aj)(own:Int):cy × Int:=if gW b own≠0 then (aG1,gW b own) else (iL b,0)
theorem Mk{b:aj}(hs:Small b){f:aj→Option Int}{own:Int}(hf:pW b=0→f b=some own):qk b f=some (Ez b own):=by
 unfold qk Ez gW
 rw [aGw hs,aX]
 by_cases h1:pW b=0
 ·have hv:=abO.1 h1
  simp only [h1,bne_self_eq_false,bu,ne_eq,kV,if_false,hf h1,aX]
  by_cases h2:own=0
  ·simp only [h2,bne_self_eq_false,bu,kV,if_false,aGA hv,aX,List.length_map]
   cases hc:gh b with
   | nil=>rfl
   | cons c l =>
    rw [if_neg (by simp),show ((((c::l).length:Nat):Int) == 0)=false by simp; omega,bu]
    unfold iL
    rw [hc]
  ·simp only [h2,not_false_eq_true,if_true,qp h2,bT]
   rfl
 ·simp only [h1,ne_eq,not_false_eq_true,if_true,qp h1,bT]
  rfl
theorem aE4{b:aj}(hv:Valid b){c:List Int}(hc:c.length=b.aR.length):LV b c=some (vO b c):=by
 unfold LV
 have hs:=hv.s3
 rw [DX (l:=b.bd) (λ s=>decide (nth c s.Place.toNat≤s.lW) == s.sZ) false (λ i hi=>?_) (by simp only [eg,bu])]
 ·unfold vO
  cases h:b.bd.all λ s=>decide (nth c s.Place.toNat≤s.lW) == s.sZ <;> simp
 ·have hp:=(hv.sound _ (gS hi)).place
  simp only [dec_lt hi,bT,dG,cw hi,aX,Z1 hp.1 (show (nth b.bd i).Place < (c.length:Int) by omega),dr (i:=i) (by omega)]
  cases decide (nth c (nth b.bd i).Place.toNat≤(nth b.bd i).lW) == (nth b.bd i).sZ <;> rfl
theorem ahg{b:aj}{i:Nat}{p:List Int}(h:p∈lvl (kG b) i):p.length=i:=(Es.1 h).1
theorem aGC{b:aj}(hv:Valid b):Mj b=some (gh b):=by
 unfold Mj
 have hlen:=aak hv
 have h27:=adt hv
 have h3:=hv.p3
 refine (jA (o:=lvl (kG b) b.aR.length) ?_).trans ?_
 ·have e0:([[]],(0:Int))=(λ i:Nat=>(lvl (kG b) i,(i:Int))) 0:=rfl
  rw [e0]
  refine nm (λ i:Nat=>(lvl (kG b) i,(i:Int))) b.aR.length (λ i hi=>?_) (by simp only [eg,bu])
  have hw:=hv.each hi
  have Bl:=hlen i (by omega)
  have hp3:=aH7 (i:=i) (by omega)
  simp only [dec_lt hi,bT]
  rw [jA (o:=lvl (kG b) (i+1)) ?_,dr (i:=i) (by omega)]
  have q0:([],(0:Int))=(λ a:List (List Int)=>(a,((λ j:Nat=>(j:Int)) 0))) []:=rfl
  rw [q0,show lvl (kG b) (i+1)=[]++(List.range (lvl (kG b) i).length).flatMap (λ j=>(tT (nth b.aR i)).map λ n=>nth (lvl (kG b) i) j++[n]) by rw [List.nil_append,Va (λ a=>(tT (nth b.aR i)).map λ n=>a++[n])]; rfl]
  refine Qn (λ j:Nat=>(j:Int)) (λ j=>(tT (nth b.aR i)).map λ n=>nth (lvl (kG b) i) j++[n]) (lvl (kG b) i).length 3 [] (λ j _=>by rw [List.length_map]; exact aiQ hw.2.2.2) (λ j l hj hl=>?_) (λ l=>by simp only [eg,bu])
  have JR:=ahg (gS hj)
  simp only [dec_lt hj,bT,dG,cw hi,cw hj,aX]
  generalize nth b.aR i=X at hw
  rw [jA (o:=l++(tT X).map λ n=>nth (lvl (kG b) i) j++[n]) ?_,dr (i:=j) (by omega)]
  have q1:X.cz=(λ q:Nat=>X.cz+(q:Int)) 0:=by simp
  have q2:(tT X).map (λ n=>nth (lvl (kG b) i) j++[n])=(List.range (X.dt+1 - X.cz).toNat).flatMap (λ (q:Nat)=>[nth (lvl (kG b) i) j++[X.cz+(q:Int)]]):=by
   rw [afv (λ q:Nat=>nth (lvl (kG b) i) j++[X.cz+(q:Int)])]
   simp only [tT,List.map_map]
   rfl
  rw [q1,q2]
  refine Qn (λ q:Nat=>X.cz+(q:Int)) (λ q=>[nth (lvl (kG b) i) j++[X.cz+(q:Int)]]) (X.dt+1 - X.cz).toNat 1 l (λ q _=>by simp) (λ q l' hq hl'=>?_) (λ l'=>?_)
  ·have e1:i64 (X.cz+(q:Int)+1)=X.cz+((q+1:Nat):Int):=by rw [mE (by omega) (by omega)]; omega
   simp only [List.length_nil] at hl
   simp only [show decide (X.cz+(q:Int)≤X.dt)=true by simp; omega,bT,e1]
   rw [pU (by simp [JR]; omega),aX,pU (by simp [JR]; omega),aX,pU (by simp; omega),aX]
   simp
  ·simp only [show decide (X.cz+(((X.dt+1 - X.cz).toNat:Nat):Int)≤X.dt)=false by simp; omega,bu]
 ·rw [jA (o:=gh b) ?_]
  refine aEg (l:=lvl (kG b) b.aR.length) (vO b) (by omega) (λ i acc hi ha=>?_) (λ acc=>by simp only [eg,bu])
  have JR:=ahg (gS hi)
  simp only [dec_lt hi,bT,dG,cw hi,aX,aE4 hv JR,dr (i:=i) (by omega)]
  cases vO b (nth (lvl (kG b) b.aR.length) i) with
  | true=>rw [bT,pU (by simp; omega)]; rfl
  | false=>rfl
def DU(b:aj)(own:Int):List (List Int) × Int:=if gW b own≠0 then ([],gW b own) else (gh b,0)
theorem Ml{b:aj}(hs:Small b)(own:Int):zr b own=some (DU b own):=by
 unfold zr DU gW
 rw [aGq hs,aX]
 by_cases h1:pW b=0
 ·have hv:=abO.1 h1
  simp only [h1,bne_self_eq_false,bu,ne_eq,kV,if_false]
  by_cases h2:own=0
  ·simp only [h2,bne_self_eq_false,bu,kV,if_false,aGC hv,aX]
   cases hc:gh b with
   | nil=>rfl
   | cons c l =>
    rw [if_neg (by simp),show ((((c::l).length:Nat):Int) == 0)=false by simp; omega,bu]
  ·simp only [h2,not_false_eq_true,if_true,qp h2,bT]
 ·simp only [h1,ne_eq,not_false_eq_true,if_true,qp h1,bT]
def MS(b:aj)(n:Int):Int:=match b.Rows.find? (λ r=>decide (n≤r.eI)) with | some r=>r.fp | none=>0
theorem aEv{b:aj}(hs:b.Rows.length≤20)(n:Int):xH b n=some (MS b n):=by
 unfold xH MS
 rw [ahd (l:=b.Rows) (λ r=>decide (n≤r.eI)) (λ r=>r.fp) (λ i hi=>?_) (by simp only [eg,bu])]
 ·cases b.Rows.find? (λ r=>decide (n≤r.eI)) <;> rfl
 ·simp only [dec_lt hi,bT,dG,cw hi,aX,dr (i:=i) (by omega)]
  cases decide (n≤(nth b.Rows i).eI) <;> rfl
theorem aEw{b:aj}(hs:b.Rows.length≤20)(n:Int):LF b n=some (MS b n):=by
 unfold LF MS
 rw [ahd (l:=b.Rows) (λ r=>decide (n≤r.eI)) (λ r=>r.fp) (λ i hi=>?_) (by simp only [eg,bu])]
 ·cases b.Rows.find? (λ r=>decide (n≤r.eI)) <;> rfl
 ·simp only [dec_lt hi,bT,dG,cw hi,aX,dr (i:=i) (by omega),ge_iff_le]
  cases decide (n≤(nth b.Rows i).eI) <;> rfl
def IQ(b:aj)(i j:Nat):Bool:=decide ((nth b.ao i).gL+(nth b.ao i).fH+b.Rest≤(nth b.ao j).gL)
def lX(b:aj)(i j:Nat):Bool:=IQ b i j || IQ b j i
theorem ank(b:aj)(i j:Nat):lX b i j=lX b j i:=Bool.or_comm _ _
theorem Valid.dv{b:aj}(h:Valid b){i:Nat}(hi:i < b.ao.length):acu b.aR.length (nth b.ao i):=h.aet _ (gS hi)
theorem anj{b:aj}(hv:Valid b){i:Nat}(hi:i < b.ao.length):lX b i i=false:=by
 have:=hv.dv hi
 have h2:=this.zN
 have h3:=hv.rest
 simp [lX,IQ]
 omega
theorem aE2{b:aj}(hv:Valid b){i j:Nat}(hi:i < b.ao.length)(hj:j < b.ao.length):BA b (i:Int) (j:Int)=some (lX b i j):=by
 have h1:=(hv.dv hi).I1
 have h2:=(hv.dv hi).zN
 have h3:=(hv.dv hj).I1
 have h4:=(hv.dv hj).zN
 have h5:=hv.rest
 unfold BA
 simp only [dG,cw hi,cw hj,aX]
 rw [mE (z:=(nth b.ao i).gL+(nth b.ao i).fH) (by omega) (by omega),mE (by omega) (by omega),mE (z:=(nth b.ao j).gL+(nth b.ao j).fH) (by omega) (by omega),mE (by omega) (by omega),aEa]
 by_cases e:i=j
 ·subst e
  rw [anj hv hi]
  simp [bu]
 ·simp only [e,ne_eq,not_false_eq_true,decide_true,bT,lX,IQ,ge_iff_le]
  cases decide ((nth b.ao i).gL+(nth b.ao i).fH+b.Rest≤(nth b.ao j).gL) <;> rfl
theorem aE6{b:aj}(hv:Valid b){i j:Nat}(hi:i < b.ao.length)(hj:j < b.ao.length):LW b (i:Int) (j:Int)=some (lX b i j):=by
 have h1:=(hv.dv hi).I1
 have h2:=(hv.dv hi).zN
 have h3:=(hv.dv hj).I1
 have h4:=(hv.dv hj).zN
 have h5:=hv.rest
 unfold LW
 simp only [dG,cw hi,cw hj,aX]
 rw [mE (z:=(nth b.ao i).gL+(nth b.ao i).fH) (by omega) (by omega),mE (by omega) (by omega),mE (z:=(nth b.ao j).gL+(nth b.ao j).fH) (by omega) (by omega),mE (by omega) (by omega)]
 simp only [lX,IQ,ge_iff_le]
 cases decide ((nth b.ao i).gL+(nth b.ao i).fH+b.Rest≤(nth b.ao j).gL) <;> rfl
def pv(n a:Nat):Bool:=Uc a == some (bB n a) && decide ((bB n a).length≤4) &&
  ((List.range (bB n a).length).all λ i=>match c57 (bB n a) i with | some l=>(List.range (2 ^ n)).any λ c=>l == bB n c && iF l (bB n a) | none=>false)
def okN(n a c:Nat):Bool:=c58 (bB n a) (bB n c) == some (iF (bB n a) (bB n c)) && (match N9 (bB n a) (bB n c) with | some z=>decide (z < 0) == nj (bB n a) (bB n c) | none=>false)
set_option maxRecDepth 1000000 in
theorem QI:((List.range 5).all λ n=>HN .i64 1 n == some ((2 ^ n:Nat):Int) && (List.range (2 ^ n)).all λ a=>pv n a && (List.range (2 ^ n)).all λ c=>okN n a c)=true:=by decide +kernel
set_option maxRecDepth 1000000 in
theorem aJd{n:Nat}(h:n < 5):HN .i64 1 (n:Int)=some ((2 ^ n:Nat):Int):=by
 have:=QI
 simp only [List.all_eq_true,List.mem_range,fy,beq_iff_eq] at this
 exact (this n h).1
theorem aht{n a:Nat}(h:n < 5)(ha:a < 2 ^ n):zh a=some (bB n a):=by
 have:=QI
 simp only [List.all_eq_true,List.mem_range,fy,beq_iff_eq] at this
 have h1:=((this n h).2 a ha).1
 simp only [pv,fy,beq_iff_eq] at h1
 exact agT _ _ h1.1.1
theorem QH{n a:Nat}(h:n < 5)(ha:a < 2 ^ n):(bB n a).length≤4:=by
 have:=QI
 simp only [List.all_eq_true,List.mem_range,fy,beq_iff_eq] at this
 have h1:=((this n h).2 a ha).1
 simp only [pv,fy,beq_iff_eq,decide_eq_true_eq] at h1
 exact h1.1.2
theorem Mn{n a c:Nat}(h:n < 5)(ha:a < 2 ^ n)(hc:c < 2 ^ n):vD (bB n a) (bB n c)=some (iF (bB n a) (bB n c))∧∃ z,Ea (bB n a) (bB n c)=some z∧decide (z < 0)=nj (bB n a) (bB n c):=by
 have:=QI
 simp only [List.all_eq_true,List.mem_range,fy,beq_iff_eq] at this
 have h1:=((this n h).2 a ha).2 c hc
 simp only [okN,fy,beq_iff_eq] at h1
 refine ⟨aD0 _ _ _ h1.1,?_⟩
 have h8:=h1.2
 cases hz:N9 (bB n a) (bB n c) with
 | none=>rw [hz] at h8; cases h8
 | some z=>rw [hz] at h8; exact ⟨z,agW _ _ _ hz,by simpa using h8⟩
theorem ai3{n:Nat}{P:Nat→Bool}:∀ {k:Nat},(fM n P k).2=true→∃ c,c < k∧(fM n P k).1=bB n c:=by
 intro k h
 rcases MR n P k with ⟨h1,_⟩ | ⟨_,⟨a,ha,_,he⟩,_⟩
 ·rw [h1] at h; cases h
 ·exact ⟨a,ha,he⟩
theorem ahr{n:Nat}(hn:n < 5){f:Int→Option Bool}{P:Nat→Bool}(hf:∀ a:Nat,a < 2 ^ n→f (a:Int)=some (P a)):ze (n:Int) f=some (fM n P (2 ^ n)):=by
 have hp:=aa6 hn
 unfold ze
 rw [aJd hn,aX]
 rw [jA (o:=fM n P (2 ^ n)) ?_]
 have e0:(([]:List Int),false,(0:Int))=(λ i:Nat=>((fM n P i).1,(fM n P i).2,(i:Int))) 0:=rfl
 rw [e0]
 refine nm (λ i:Nat=>((fM n P i).1,(fM n P i).2,(i:Int))) (2 ^ n) (λ i hi=>?_) (by simp only [eg,bu])
 simp only [dec_lt hi,bT,aht hn hi,aX,hf i hi,dr (i:=i) (by omega),fM,HQ]
 cases hs:(fM n P i).2 with
 | false=>cases P i <;> simp [bT,bu,hs]
 | true =>
  obtain ⟨c,hc,ec⟩:=ai3 hs
  obtain ⟨z,ZV,ZW⟩:=(Mn hn hi (by omega:c < 2 ^ n)).2
  simp only [ec,Bool.not_true,bu,ZV,aX,ZW,Bool.false_or,iF]
  by_cases h1:(bB n i).length < (bB n c).length
  ·have w5:decide (((bB n i).length:Int) < ((bB n c).length:Int))=true:=dec_lt h1
   simp only [w5,bT,h1,decide_true,Bool.true_or,Bool.true_and,aX]
   cases P i <;> simp [bT,bu,hs,ec]
  ·have w5:decide (((bB n i).length:Int) < ((bB n c).length:Int))=false:=by simpa using h1
   simp only [w5,bu,h1,decide_false,Bool.false_or]
   by_cases h2:(bB n i).length=(bB n c).length
   ·rw [h2]
    simp only [beq_self_eq_true,bT,Bool.true_and]
    cases nj (bB n i) (bB n c) with
    | true =>
     simp only [bT,Bool.true_and,aX]
     cases P i <;> simp [bT,bu,hs,ec]
    | false=>simp [bu,hs,ec]
   ·have h2':(((bB n i).length:Int) == ((bB n c).length:Int))=false:=by simpa using (by omega:¬ ((bB n i).length:Int)=((bB n c).length:Int))
    have asi:((bB n i).length == (bB n c).length)=false:=by simpa using h2
    simp [h2',asi,bu,hs,ec]
theorem Mo{n a:Nat}{k:Int}(h:k∈bB n a):0≤k∧k < (n:Int):=(aaI.1 h).1
theorem aEA{b:aj}(hv:Valid b){f:bt→Option Bool}{p:List Int→Bool}(hf:∀ c∈gh b,f (pz c)=some (p c)):vB (iL b) f=some (((gh b).filter p).length:Int):=by
 have h27:=Ux hv
 unfold vB iL
 simp only [List.length_map]
 rw [jA (o:=(((gh b).filter p).length:Int)) (aEe (l:=gh b) p (λ i n hi hn=>?_) (λ n=>by simp only [eg,bu]))]
 have e:((gh b).map pz)[i]? = some (pz (nth (gh b) i)):=by rw [List.getElem?_map,cw hi]; rfl
 simp only [dec_lt hi,bT,dG,e,aX,hf _ (gS hi),dr (i:=i) (by omega),dr (i:=n) (by omega)]
 cases p (nth (gh b) i) <;> rfl
theorem aKY{b:aj}(hv:Valid b){c:List Int}(hc:c.length=b.aR.length){i:Nat}(hi:i < b.aR.length):idx (pz c).deep (i:Int)=some (nth c i):=by
 have h3:=hv.p3
 have h:=aej (c:=c) (by omega)
 rw [dG,cw (l:=(pz c).deep) (show i < (FK [0,0,0] c).length by omega)]
 exact congrArg some (h.2.1 i (by omega))
def gD(c:List Int):List Bool:=(List.range 4).map λ (k:Nat)=>c.contains (k:Int)
def eH(r:List (List Int)):List Bool:=(List.range 16).map λ p=>(nth r (p / 4)).contains ((p % 4:Nat):Int)
theorem abg(r:List (List Int)):(eH r).length=16:=by simp [eH]
theorem aiT(r:List (List Int)){p:Nat}(hp:p < 16):(eH r)[p]? = some ((nth r (p / 4)).contains ((p % 4:Nat):Int)):=by
 unfold eH
 rw [List.getElem?_map,List.getElem?_range hp]
 rfl
theorem AT(c:List Int){k:Nat}(hk:k < 4):idx (gD c) (k:Int)=some (c.contains (k:Int)):=by
 unfold gD
 rw [dG,List.getElem?_map,List.getElem?_range hk]
 rfl
theorem MO(r:List (List Int)){i:Nat}(hi:i < 4):gT 4 (eH r) (i:Int)=some (gD (nth r i)):=by
 match i,hi with
 | 0,_=>rfl
 | 1,_=>rfl
 | 2,_=>rfl
 | 3,_=>rfl
theorem aIO{r r':List (List Int)}(h:∀ i k:Nat,i < 4→k < 4→(nth r i).contains (k:Int)=(nth r' i).contains (k:Int)):eH r=eH r':=by
 unfold eH
 refine List.map_congr_left λ p hp=>?_
 rw [List.mem_range] at hp
 exact h (p / 4) (p % 4) (by omega) (by omega)
theorem aiX{r r':List (List Int)}{i k:Nat}(_:i < 4)(hk:k < 4){x:Bool}(h:∀ j m:Nat,j < 4→m < 4→(nth r' j).contains (m:Int)=if j=i∧m=k then x else (nth r j).contains (m:Int)):lB 4 (eH r) (i:Int) (k:Int) x=eH r':=by
 unfold lB
 rw [n9,n9]
 refine List.ext_getElem? λ p=>?_
 by_cases hp:p < 16
 ·rw [List.getElem?_set,aiT r' hp,aiT r hp,abg,h (p / 4) (p % 4) (by omega) (by omega)]
  by_cases e:i * 4+k=p
  ·rw [if_pos e,if_pos (by omega),if_pos ⟨by omega,by omega⟩]
  ·rw [if_neg e,if_neg (λ hc=>e (by omega))]
 ·rw [List.getElem?_eq_none (by rw [List.length_set,abg]; omega),List.getElem?_eq_none (by rw [abg]; omega)]
theorem aiU(p:List (List Int)):eH (p++[[]])=eH p:=aIO λ i k _ _=>by
 by_cases h:i < p.length
 ·rw [sz h]
 ·have e1:nth p i=[]:=by unfold nth; rw [uG,List.getElem?_eq_none (by omega)]; rfl
  have e2:nth (p++[[]]) i=[]:=by
   by_cases h2:i=p.length
   ·subst h2; exact vI
   ·unfold nth; rw [uG,List.getElem?_eq_none (by simp; omega)]; rfl
  rw [e1,e2]
def vE(b:aj)(c:List Int)(k i:Nat):Bool:=decide (nth c (nth b.ao i).Place.toNat≤(nth b.an k).oc) && decide ((nth b.ao i).fH≤MS b (nth c (nth b.ao i).Place.toNat))
theorem aEC{b:aj}(hv:Valid b){c:List Int}(hc:c.length=b.aR.length){k i:Nat}(hk:k < b.an.length)(hi:i < b.ao.length):zb b (pz c) (k:Int) (i:Int)=some (vE b c k i):=by
 have hp:=(hv.dv hi).place
 unfold zb vE
 have e:idx (pz c).deep (nth b.ao i).Place=some (nth c (nth b.ao i).Place.toNat):=by
  have:=aKY hv hc (i:=(nth b.ao i).Place.toNat) (by omega)
  rwa [Int.toNat_of_nonneg hp.1] at this
 simp only [dG,cw hi,cw hk,aX,e,aEv (show b.Rows.length≤20 by have:=hv.r4; omega)]
 cases decide (nth c (nth b.ao i).Place.toNat≤(nth b.an k).oc) <;> rfl
theorem aGx{b:aj}(hv:Valid b){c:List Int}(hc:c.length=b.aR.length){k i:Nat}(hk:k < b.an.length)(hi:i < b.ao.length):Mh b c (k:Int) (i:Int)=some (vE b c k i):=by
 have hp:=(hv.dv hi).place
 unfold Mh vE
 have e:idx c (nth b.ao i).Place=some (nth c (nth b.ao i).Place.toNat):=Z1 hp.1 (by omega)
 simp only [dG,cw hi,cw hk,aX,e,aEw (show b.Rows.length≤20 by have:=hv.r4; omega)]
 cases decide (nth c (nth b.ao i).Place.toNat≤(nth b.an k).oc) <;> rfl
def kZ(b:aj)(i k:Nat):Bool:=(gh b).all λ c=>vE b c k i
def pR(b:aj):List Bool:=(List.range 16).map λ p=>if p / 4 < b.ao.length∧p % 4 < b.an.length then kZ b (p / 4) (p % 4) else false
theorem aDc{b:aj}(hv:Valid b){i k:Nat}(hi:i < b.ao.length)(hk:k < b.an.length):q9 (iL b) i k=some (kZ b i k):=by
 unfold q9
 rw [aEA hv (p:=λ c=>vE b c k i) (λ c hc=>by unfold zk; rw [show (iL b).book=b from rfl,aEC hv (ahV.1 hc).1.1 hk hi]; rfl),aX]
 congr 1
 rw [show ((iL b).fq.length:Int)=((gh b).length:Int) by simp [iL],Bool.eq_iff_iff,beq_iff_eq]
 unfold kZ
 rw [List.all_eq_true]
 constructor
 ·intro h
  have h:((gh b).filter λ c=>vE b c k i).length=(gh b).length:=by omega
  rw [List.length_filter_eq_length_iff] at h
  exact h
 ·intro h
  have:((gh b).filter λ c=>vE b c k i).length=(gh b).length:=List.length_filter_eq_length_iff.2 h
  omega
theorem mapM_some{α β:Type}{f:α→Option β}{g:α→β}:∀ {l:List α},(∀ x∈l,f x=some (g x))→l.mapM f=some (l.map g)
 | [],_=>rfl
 | a::l,h=>by
  rw [List.mapM_cons,h a (by simp),mapM_some λ x hx=>h x (by simp [hx])]
  rfl
theorem LK{b:aj}(hv:Valid b):tH (iL b)=some (pR b):=by
 unfold tH pR
 rw [show (iL b).book=b from rfl,if_pos ⟨⟨hv.d1,hv.d4⟩,hv.m1,hv.m4⟩]
 refine mapM_some λ p _=>?_
 by_cases h:p / 4 < b.ao.length∧p % 4 < b.an.length
 ·rw [if_pos h,if_pos h,aDc hv h.1 h.2]
 ·rw [if_neg h,if_neg h]
theorem amC{b:aj}{i:Nat}(hi:i < 4):∃ g,gT 4 (pR b) (i:Int)=some g∧∀ k:Nat,k < 4→idx g (k:Int)=some (if i < b.ao.length∧k < b.an.length then kZ b i k else false):=by
 have e:gT 4 (pR b) (i:Int)=some ((List.range 4).map λ k=>if i < b.ao.length∧k < b.an.length then kZ b i k else false):=by
  match i,hi with
  | 0,_=>rfl
  | 1,_=>rfl
  | 2,_=>rfl
  | 3,_=>rfl
 refine ⟨_,e,λ k hk=>?_⟩
 rw [dG,List.getElem?_map,List.getElem?_range hk]
 rfl
def eQ(b:aj)(g:List Bool)(o:Nat):RB:=⟨b.an.length,b.ao.length,λ i=>(nth b.ao i).an.toNat,λ i k=>nth g k && kZ b i k,lX b,λ i=>o.testBit i⟩
set_option maxRecDepth 1000000 in
theorem anW:((List.range 16).all λ x=>(List.range 5).all λ i=>((mJ .i64 x i).bind λ y=>gu .and .i64 y 1) == some (if x.testBit i then 1 else 0))=true:=by decide +kernel
theorem anV{x i:Nat}(h:x < 16)(hi:i < 5):(mJ .i64 (x:Int) (i:Int)).bind (λ y=>gu .and .i64 y 1)=some (if x.testBit i then 1 else 0):=by
 have:=anW
 simp only [List.all_eq_true,List.mem_range,beq_iff_eq] at this
 exact this x h i hi
theorem aEF{b:aj}(hv:Valid b){pre:List (List Int)}{c:List Int}(hi:pre.length < b.ao.length)(hc:∀ k∈c,0≤k∧k < (b.an.length:Int))(g:List Bool)(o:Nat):zc b (eH (pre++[c])) (pre.length:Int)=some (mG (eQ b g o) pre pre.length c):=by
 have hd:=hv.d4
 have hm:=hv.m4
 unfold zc mG
 rw [Qp (n:=pre.length) (λ j=>(eQ b g o).ap j pre.length || !meet c (nth pre j)) false (λ j hj=>?_) (by simp only [eg,bu])]
 ·cases (List.range pre.length).all λ j=>(eQ b g o).ap j pre.length || !meet c (nth pre j) <;> rfl
 ·simp only [dec_lt hj,bT,aE2 hv (show j < b.ao.length by omega) hi,aX,show (eQ b g o).ap j pre.length=lX b j pre.length from rfl]
  cases lX b j pre.length with
  | true=>simp only [bT,Bool.true_or,if_true,dr (i:=j) (by omega)]
  | false =>
   simp only [bu,Bool.false_or]
   rw [Qp (n:=b.an.length) (λ k=>!((nth pre j).contains (k:Int) && c.contains (k:Int))) false (λ k hk=>?_) (by simp only [eg,bu])]
   ·have e:((List.range b.an.length).all λ k=>!((nth pre j).contains (k:Int) && c.contains (k:Int)))=!meet c (nth pre j):=by
     rw [Bool.eq_iff_iff,Bool.not_eq_true',ahU,List.all_eq_true]
     constructor
     ·intro h k hk Kf
      have hb:=hc k hk
      have:=h k.toNat (by rw [List.mem_range]; omega)
      rw [Int.toNat_of_nonneg hb.1] at this
      simp [hk,Kf] at this
     ·intro h k _
      rw [Bool.not_eq_true',Bool.and_eq_false_iff]
      by_cases hk:(k:Int)∈c
      ·exact .inl (by have:=h _ hk; simpa using this)
      ·exact .inr (by simpa using hk)
    rw [e]
    cases meet c (nth pre j) with
    | true=>rfl
    | false=>simp only [Bool.not_false,if_true,aX,Sum.elim_inl,dr (i:=j) (by omega)]
   ·simp only [dec_lt hk,bT,MO _ (show j < 4 by omega),MO _ (show pre.length < 4 by omega),aX,AT _ (show k < 4 by omega),sz hj,vI,dr (i:=k) (by omega)]
    cases (nth pre j).contains (k:Int) <;> cases c.contains (k:Int) <;> rfl
theorem aIg{β:Type}(n k0:Nat)(h:k0≤n)(p:Nat→Bool)(f:Nat→List β):((List.range n).filter λ m=>p m && decide (k0≤m)).flatMap f=(List.range (n - k0)).flatMap λ j=>if p (k0+j)=true then f (k0+j) else []:=by
 obtain ⟨d,rfl⟩:∃ d,n=k0+d:=⟨n - k0,by omega⟩
 rw [List.range_add,List.filter_append,List.flatMap_append]
 have e1:((List.range k0).filter λ m=>p m && decide (k0≤m))=[]:=by
  rw [List.filter_eq_nil_iff]
  intro m hm
  rw [List.mem_range] at hm
  simp only [fy,decide_eq_true_eq,not_and]
  omega
 rw [e1,List.flatMap_nil,List.nil_append,Nat.add_sub_cancel_left,List.filter_map,List.flatMap_map,← afs]
 rw [List.flatMap_assoc]
 congr 1
 funext j
 simp only [Function.comp_apply,Nat.le_add_right,decide_true,Bool.and_true]
 cases p (k0+j) <;> simp
def Av(c:List Int)(k0:Nat):Prop:=∀ m:Nat,(c.all λ x=>decide (x < (m:Int)))=decide (k0≤m)
theorem ar8:Av [] 0:=λ m=>by simp
theorem Av.snoc{c:List Int}{k0 k:Nat}(h:Av c k0)(hk:k0≤k):Av (c++[(k:Int)]) (k+1):=λ m=>by
 rw [List.all_append,h m,Bool.eq_iff_iff]
 simp only [List.all_cons,List.all_nil,Bool.and_true,fy,decide_eq_true_eq]
 omega
abbrev aoq(A:RB)(i:Nat):Nat→List Int→List Int:=λ _ p=>FM A.n (A.ok i) p
theorem aor{A:RB}{i:Nat}{c:List Int}{k0:Nat}(hf:Av c k0)(h:k0≤A.n){β:Type}(f:Int→List β):(FM A.n (A.ok i) c).flatMap f=(List.range (A.n - k0)).flatMap λ j=>if A.ok i (k0+j)=true then f ((k0+j:Nat):Int) else []:=by
 unfold FM iP
 rw [List.filter_map,List.flatMap_map,← aIg A.n k0 h (A.ok i) λ m=>f (m:Int)]
 congr 1
 refine List.filter_congr λ m _=>?_
 simp only [Function.comp_apply,n9,hf m]
def xW(A:RB)(d:Nat)(pre:List (List Int))(left:Nat)(c:List Int):List (List Bool) :=
 (((tree (aoq A pre.length) left c.length c).filter (mG A pre pre.length)).flatMap λ c'=>tree (fS A) d (pre.length+1) (pre++[c'])).map eH
def rK(A:RB)(d:Nat)(pre:List (List Int)):List (List Bool):=(tree (fS A) d pre.length pre).map eH
theorem asa{A:RB}{d:Nat}{pre:List (List Int)}(h:A.out pre.length=true):rK A (d+1) pre=rK A d (pre++[[]]):=by
 unfold rK
 simp only [tree,fS,h,if_true,List.flatMap_cons,List.flatMap_nil,List.append_nil,lU,List.length_cons,List.length_nil]
theorem ar9{A:RB}{d:Nat}{pre:List (List Int)}(h:A.out pre.length=false):rK A (d+1) pre=xW A d pre (A.iA pre.length) []:=by
 unfold rK xW
 simp only [tree,fS,h,nF,if_false,List.length_nil]
 rw [abD]
 rfl
theorem aHY{A:RB}{d:Nat}{pre:List (List Int)}{c:List Int}:xW A d pre 0 c=if mG A pre pre.length c=true then rK A d (pre++[c]) else []:=by
 unfold xW rK
 simp only [tree,List.filter_cons,List.filter_nil,lU,List.length_cons,List.length_nil]
 split <;> simp
theorem aHZ{A:RB}{d:Nat}{pre:List (List Int)}{c:List Int}{left k0:Nat}(hf:Av c k0)(h:k0≤A.n):xW A d pre (left+1) c=(List.range (A.n - k0)).flatMap λ j=>if A.ok pre.length (k0+j)=true then xW A d pre left (c++[((k0+j:Nat):Int)]) else []:=by
 unfold xW
 simp only [tree]
 rw [aor (A:=A) (i:=pre.length) hf h]
 simp only [List.filter_flatMap,List.flatMap_assoc,List.map_flatMap]
 congr 1
 funext j
 split <;> simp
theorem aFe{b:aj}(hv:Valid b){g:List Bool}(hg:g.length=4){o:Nat}(ho:o < 16){S:Type}(ys:List Bool→S→Option (S × Bool)):∀ d:Nat,
  (∀ (pre:List (List Int)) (f:Nat) (s:S) (r:S × Bool),pre.length+d=b.ao.length→5 * d < f→jH ys (rK (eQ b g o) d pre) s=some r→(ko ys f).1 (eH pre) (pre.length:Int) (iL b) (o:Int) g (pR b) s=some r) ∧
  (∀ (left:Nat) (pre:List (List Int)) (c:List Int) (k0 f:Nat) (s:S) (r:S × Bool),pre.length+d+1=b.ao.length→5 * d+left+1 < f→Av c k0→k0≤b.an.length→(∀ k∈c,0≤k∧k < (b.an.length:Int))→left≤3→jH ys (xW (eQ b g o) d pre left c) s=some r →
   (ko ys f).2 (eH (pre++[c])) (pre.length:Int) (k0:Int) (left:Int) (iL b) (o:Int) g (pR b) s=some r):=by
 have hd:=hv.d4
 have hm:=hv.m4
 have two:∀ d:Nat,(∀ (pre:List (List Int)) (f:Nat) (s:S) (r:S × Bool),pre.length+d=b.ao.length→5 * d < f→jH ys (rK (eQ b g o) d pre) s=some r→(ko ys f).1 (eH pre) (pre.length:Int) (iL b) (o:Int) g (pR b) s=some r) →
   (∀ (left:Nat) (pre:List (List Int)) (c:List Int) (k0 f:Nat) (s:S) (r:S × Bool),pre.length+d+1=b.ao.length→5 * d+left+1 < f→Av c k0→k0≤b.an.length→(∀ k∈c,0≤k∧k < (b.an.length:Int))→left≤3→jH ys (xW (eQ b g o) d pre left c) s=some r →
   (ko ys f).2 (eH (pre++[c])) (pre.length:Int) (k0:Int) (left:Int) (iL b) (o:Int) g (pR b) s=some r):=by
  intro d one left
  induction left with
  | zero =>
   intro pre c k0 f s r hl hf rX hk0 hc _ hr
   obtain ⟨f,rfl⟩:∃ f',f=f'+1:=⟨f - 1,by omega⟩
   unfold ko
   simp only [Int.natCast_zero,beq_self_eq_true,bT]
   rw [show (iL b).book=b from rfl,aEF hv (by omega) hc g o,aX]
   rw [aHY] at hr
   cases agi:mG (eQ b g o) pre pre.length c with
   | false =>
    rw [agi] at hr
    simp only [nF,if_false,jH,iS] at hr
    subst hr
    rfl
   | true =>
    rw [agi,if_pos rfl] at hr
    have:=one (pre++[c]) f s r (by simp; omega) (by omega) hr
    rw [show (((pre++[c]).length:Nat):Int)=((pre.length+1:Nat):Int) by simp] at this
    simp only [Bool.not_true,bu,dr (i:=pre.length) (by omega),this,aX]
  | succ left ih =>
   intro pre c k0 f s r hl hf rX hk0 hc h3 hr
   obtain ⟨f,rfl⟩:∃ f',f=f'+1:=⟨f - 1,by omega⟩
   unfold ko
   simp only [show (((left+1:Nat):Int) == 0)=false by simp; omega,bu,show (iL b).book=b from rfl]
   rw [aHZ (A:=eQ b g o) rX hk0,List.range_eq_range'] at hr
   obtain ⟨gr,hgr,hgk⟩:=amC (b:=b) (i:=pre.length) (by omega)
   refine Exists.elim (aah (ys:=ys) (S:=S) (X:=Int × List Bool) (O:=S ⊕ (S × Bool)) (λ j=>if (eQ b g o).ok pre.length (k0+j)=true then xW (eQ b g o) d pre left (c++[((k0+j:Nat):Int)]) else []) ((eQ b g o).n - k0)
    (λ j x=>x=(((k0+j:Nat):Int),eH (pre++[c]))) (λ s o=>o = .inl s) (λ s o=>o = .inr (s,false)) (body:=λ (bJ:(S × Int × (List Bool))) =>
  af (decide (bJ.2.1 < (b.an.length:Int)))
  (((((idx g bJ.2.1).bind λ Ar =>
  af (!Ar)
  (some true)
  ((gT 4 (pR b) (pre.length:Int)).bind λ uD =>
  (idx uD bJ.2.1).bind λ Io =>
  some (!Io))):Option Bool)).bind (λ (BM:Bool) =>
  af BM
  (some (.inl (bJ.1,i64 (bJ.2.1+1),bJ.2.2)))
  ((gT 4 bJ.2.2 (pre.length:Int)).bind λ sV =>
  (idx sV bJ.2.1).bind λ gJ =>
  ((ko ys f).2 (lB 4 bJ.2.2 (pre.length:Int) bJ.2.1 true) (pre.length:Int) (i64 (bJ.2.1+1)) (i64 (((left+1:Nat):Int) - 1)) (iL b) (o:Int) g (pR b) bJ.1).bind λ n7 =>
  af (!n7.2)
  (some (.inr (.inr (n7.1,false))))
  ((gT 4 (lB 4 bJ.2.2 (pre.length:Int) bJ.2.1 true) (pre.length:Int)).bind λ wx =>
  (idx wx bJ.2.1).bind λ ab3 =>
  some (.inl (n7.1,i64 (bJ.2.1+1),lB 4 (lB 4 bJ.2.2 (pre.length:Int) bJ.2.1 true) (pre.length:Int) bJ.2.1 false))))))
  (some (.inr (.inl bJ.1)))) (λ j s x r hj hI hr=>?_) (λ s x hI=>?_) ((eQ b g o).n - k0) 0 s ((k0:Int),eH (pre++[c])) r (by omega) rfl hr) ?_
   ·subst hI
    have iI:k0+j < b.an.length:=by have:(eQ b g o).n=b.an.length:=rfl; omega
    have WA:idx g ((k0+j:Nat):Int)=some (nth g (k0+j)):=by rw [dG]; exact cw (by omega)
    have hai:=hgk (k0+j) (by omega)
    rw [if_pos ⟨by omega,iI⟩] at hai
    have gQ:(eQ b g o).ok pre.length (k0+j)=(nth g (k0+j) && kZ b pre.length (k0+j)):=rfl
    simp only [dec_lt iI,bT,WA,aX,hgr,hai,dr (i:=k0+j) (by omega)]
    cases Df:(nth g (k0+j) && kZ b pre.length (k0+j)) with
    | false =>
     rw [gQ,Df] at hr
     simp only [nF,if_false,jH,iS] at hr
     subst hr
     simp only [if_true]
     refine ⟨_,?_,rfl⟩
     rw [Bool.and_eq_false_iff] at Df
     rcases Df with h | h
     ·rw [h]; rfl
     ·rw [h]
      cases nth g (k0+j) <;> rfl
    | true =>
     rw [gQ,Df,if_pos rfl] at hr
     rw [fy] at Df
     have hnc:¬ ((k0+j:Nat):Int)∈c:=λ nV=>by
      have:=rX (k0+j)
      rw [wE (by omega:k0≤k0+j),List.all_eq_true] at this
      have:=this _ nV
      simp at this
     have cont:∀ j' m:Nat,(nth (pre++[c++[((k0+j:Nat):Int)]]) j').contains (m:Int)=if j'=pre.length∧m=k0+j then true else (nth (pre++[c]) j').contains (m:Int):=by
      intro j' m
      by_cases e:j'=pre.length
      ·subst e
       rw [vI,vI]
       by_cases em:m=k0+j
       ·rw [if_pos ⟨rfl,em⟩,em]; simp
       ·rw [if_neg (λ h=>em h.2),Bool.eq_iff_iff,List.contains_iff_mem,List.contains_iff_mem,List.mem_append,List.mem_singleton]
        exact ⟨λ h=>h.resolve_right (by omega),.inl⟩
      ·rw [if_neg (λ h=>e h.1)]
       by_cases e2:j' < pre.length
       ·rw [sz e2,sz e2]
       ·have q:∀ z:List Int,nth (pre++[z]) j'=[]:=λ z=>by unfold nth; rw [uG,List.getElem?_eq_none (by simp; omega)]; rfl
        rw [q,q]
     have s1:lB 4 (eH (pre++[c])) (pre.length:Int) ((k0+j:Nat):Int) true=eH (pre++[c++[((k0+j:Nat):Int)]]):=aiX (by omega) (by omega) λ j' m _ _=>cont j' m
     have s2:lB 4 (eH (pre++[c++[((k0+j:Nat):Int)]])) (pre.length:Int) ((k0+j:Nat):Int) false=eH (pre++[c]):=aiX (by omega) (by omega) λ j' m _ _=>by
      rw [cont j' m]
      by_cases e:j'=pre.length∧m=k0+j
      ·rw [if_pos e,e.1,e.2,vI]
       simpa using hnc
      ·rw [if_neg e,if_neg e]
     have awV:=ih pre (c++[((k0+j:Nat):Int)]) (k0+j+1) f s r hl (by omega) (rX.snoc (by omega)) (by omega) (λ k hk=>by
      rw [List.mem_append,List.mem_singleton] at hk
      rcases hk with hk | rfl
      ·exact hc k hk
      ·omega) (by omega) hr
     simp only [Df.1,Df.2,Bool.not_true,bu,aX,MO _ (show pre.length < 4 by omega),AT _ (show k0+j < 4 by omega),s1,ZZ (i:=left+1) (by omega) (by omega),Nat.add_sub_cancel,awV,s2]
     cases hr2:r.2 with
     | true=>exact ⟨(((k0+(j+1):Nat):Int),eH (pre++[c])),by simp only [Bool.not_true,bu,Nat.add_assoc],rfl⟩
     | false=>exact ⟨.inr (r.1,false),by simp only [Bool.not_false,bT],rfl⟩
   ·subst hI
    refine ⟨.inl s,?_,rfl⟩
    rw [show k0+((eQ b g o).n - k0)=b.an.length from by have:(eQ b g o).n=b.an.length:=rfl; omega]
    simp only [eg,bu]
   ·rintro q ⟨hq,eW⟩
    have Xf:=hq
    refine (jA Xf).trans ?_
    split at eW
    ·rename_i h2; subst eW
     obtain ⟨r1,r2⟩:=r
     simp only at h2
     subst h2
     rfl
    ·rename_i h2; subst eW
     obtain ⟨r1,r2⟩:=r
     simp only [Bool.not_eq_true] at h2
     subst h2
     rfl
 intro d
 induction d with
 | zero =>
  have one:∀ (pre:List (List Int)) (f:Nat) (s:S) (r:S × Bool),pre.length+0=b.ao.length→5 * 0 < f→jH ys (rK (eQ b g o) 0 pre) s=some r→(ko ys f).1 (eH pre) (pre.length:Int) (iL b) (o:Int) g (pR b) s=some r:=by
   intro pre f s r hl hf hr
   obtain ⟨f,rfl⟩:∃ f',f=f'+1:=⟨f - 1,by omega⟩
   simp only [rK,tree,List.map_cons,List.map_nil,jH] at hr
   obtain ⟨q,hq,hr⟩:=ag hr
   unfold ko
   simp only
   rw [show (iL b).book=b from rfl,show ((pre.length:Int) == (b.ao.length:Int))=true by simp; omega,bT,hq,aX]
   obtain ⟨q1,q2⟩:=q
   cases q2 <;> simpa using hr
  exact ⟨one,two 0 one⟩
 | succ d ih =>
  have one:∀ (pre:List (List Int)) (f:Nat) (s:S) (r:S × Bool),pre.length+(d+1)=b.ao.length→5 * (d+1) < f→jH ys (rK (eQ b g o) (d+1) pre) s=some r→(ko ys f).1 (eH pre) (pre.length:Int) (iL b) (o:Int) g (pR b) s=some r:=by
   intro pre f s r hl hf hr
   obtain ⟨f,rfl⟩:∃ f',f=f'+1:=⟨f - 1,by omega⟩
   have hi:pre.length < b.ao.length:=by omega
   have hb:=anV (x:=o) (i:=pre.length) ho (by omega)
   obtain ⟨y,hy,hb⟩:=ag hb
   unfold ko
   simp only
   rw [show (iL b).book=b from rfl,show ((pre.length:Int) == (b.ao.length:Int))=false by simp; omega,bu,hy,aX,hb,aX]
   cases yS:o.testBit pre.length with
   | true =>
    rw [asa (A:=eQ b g o) yS] at hr
    have:=ih.1 (pre++[[]]) f s r (by simp; omega) (by omega) hr
    rw [aiU,show (pre++[([]:List Int)]).length=pre.length+1 by simp] at this
    simp only [if_true,beq_self_eq_true,bT,dr (i:=pre.length) (by omega),this,aX]
   | false =>
    rw [ar9 (A:=eQ b g o) yS] at hr
    have W1:=(hv.dv hi).qm
    have:=ih.2 (nth b.ao pre.length).an.toNat pre [] 0 f s r (by omega) (by omega) ar8 (by omega) (by simp) (by omega) hr
    rw [aiU,Int.toNat_of_nonneg (by omega)] at this
    simp only [nF,if_false,show ((0:Int) == 1)=false from rfl,bu,dG,cw hi,aX]
    rw [show ((0:Nat):Int)=0 from rfl] at this
    rw [this]
    rfl
  exact ⟨one,two (d+1) one⟩
theorem UB{n iA:Nat}{ok:Nat→Bool}(hn:n≤4):(te n iA ok).length≤16:=by
 have h:=aD9 (l:=te n iA ok) (m:=(List.range (2 ^ n)).map (bB n)) id (aG0 HD (UC n iA ok)) (λ x _ y _ h=>h) (λ c hc=>by
  have h1:=tK.1 hc
  obtain ⟨a,ha,e⟩:=ahR h1.2.1 (λ k hk=>⟨(h1.2.2 k hk).1,(h1.2.2 k hk).2.1⟩)
  exact List.mem_map.2 ⟨a,List.mem_range.2 ha,e.symm⟩)
 rw [List.length_map,List.length_range] at h
 exact Nat.le_trans h (aa6 (by omega))
theorem aaj{α:Type}{ext:Nat→List α→List α}{m:Nat}(h:∀ i p,(ext i p).length≤m):∀ n,(lvl ext n).length≤m ^ n
 | 0=>by simp [lvl]
 | n+1=>by
  have ih:=aaj h n
  simp only [lvl]
  refine Nat.le_trans (U9 _ m (λ a=>by rw [List.length_map]; exact h _ _) _) ?_
  rw [Nat.pow_succ]
  exact Nat.mul_le_mul_right m ih
theorem aIR{A:RB}(hn:A.n≤4)(hd:A.D≤4):(kP A).length≤65536:=by
 refine Nat.le_trans (aaj (m:=16) (λ i p=>?_) A.D) ?_
 ·unfold fS
  split
  ·simp
  ·exact Nat.le_trans (List.length_filter_le _ _) (UB hn)
 ·calc 16 ^ A.D≤16 ^ 4:=Nat.pow_le_pow_right (by omega) hd
   _=65536:=by decide
theorem GM{b:aj}(hv:Valid b){g:List Bool}(hg:g.length=4){o:Nat}(ho:o < 16){S:Type}(ys:List Bool→S→Option (S × Bool)){s:S}{r:S × Bool}(hr:jH ys ((kP (eQ b g o)).map eH) s=some r) :
  qi ys (iL b) (o:Int) g (pR b) s=some r.1:=by
 unfold qi
 have h:=(aFe hv hg ho ys b.ao.length).1 [] 40 s r (by simp) (by have:=hv.d4; omega) (by
  unfold rK
  rw [List.length_nil,show tree (fS (eQ b g o)) b.ao.length 0 []=kP (eQ b g o) from abD _ _]
  exact hr)
 have e:eH []=[false,false,false,false,false,false,false,false,false,false,false,false,false,false,false,false]:=rfl
 rw [List.length_nil,Int.natCast_zero,e] at h
 rw [h]
 rfl
def iq(b:aj):List Bool:=gD (iP b.an.length)
theorem Fw(b:aj):(iq b).length=4:=by simp [iq,gD]
theorem Jt(c:List Int):(gD c).length=4:=by simp [gD]
theorem afz(c:List Int){k:Nat}(hk:k < 4):nth (gD c) k=c.contains (k:Int):=by
 have h:=AT c hk
 rw [dG] at h
 rw [cw (by rw [Jt]; exact hk)] at h
 exact lV h
theorem afA{c:List Int}{k:Nat}(hk:k < 4):(gD c).set k true=gD (c++[(k:Int)]):=by
 refine List.ext_getElem? λ p=>?_
 by_cases hp:p < 4
 ·rw [List.getElem?_set,Jt]
  have e:∀ d:List Int,(gD d)[p]? = some (d.contains (p:Int)):=λ d=>by have:=AT d hp; rwa [dG] at this
  rw [e,e]
  by_cases h:k=p
  ·subst h
   rw [if_pos rfl,if_pos hk]
   simp
  ·rw [if_neg h]
   congr 1
   rw [Bool.eq_iff_iff,List.contains_iff_mem,List.contains_iff_mem,List.mem_append,List.mem_singleton]
   exact ⟨.inl,λ h2=>h2.resolve_right (by omega)⟩
 ·rw [List.getElem?_eq_none (by rw [List.length_set,Jt]; omega),List.getElem?_eq_none (by rw [Jt]; omega)]
theorem aEO{c:List Int}(hl:c.length≤100)(hc:∀ k∈c,0≤k∧k < 4):zf c=some (gD c):=by
 unfold zf
 refine (jA (o:=gD c) ?_).trans rfl
 have e0:((0:Int),[false,false,false,false])=(λ i:Nat=>((i:Int),gD (c.take i))) 0:=rfl
 rw [e0]
 refine nm (λ i:Nat=>((i:Int),gD (c.take i))) c.length (λ i hi=>?_) (by simp only [eg,bu,List.take_length])
 have hm:=hc _ (gS hi)
 have e:c.take (i+1)=c.take i++[nth c i]:=by rw [List.take_add_one,cw hi]; rfl
 generalize nth c i=x at hm e
 obtain ⟨k,rfl⟩:=Int.eq_ofNat_of_zero_le hm.1
 have hx:c[i]? = some (k:Int):=by
  have h2:=congrArg List.getLast? e
  rw [List.getLast?_append] at h2
  rw [List.take_add_one] at e
  have:=List.append_cancel_left e
  cases h3:c[i]? with
  | none=>rw [h3] at this; cases this
  | some y=>rw [h3] at this; simpa using this
 simp only [dec_lt hi,bT,dG,hx,aX,dr (i:=i) (by omega),n9]
 have hk:k < 4:=by omega
 have:=AT (c.take i) hk
 rw [dG] at this
 rw [this,aX,afA hk,← e]
theorem LL{b:aj}(hv:Valid b):vC b=some (iq b):=by
 have hm:=hv.m4
 unfold vC iq
 refine (jA (o:=gD (iP b.an.length)) ?_).trans rfl
 have e0:((0:Int),[false,false,false,false])=(λ i:Nat=>((i:Int),gD (iP i))) 0:=rfl
 rw [e0]
 refine nm (λ i:Nat=>((i:Int),gD (iP i))) b.an.length (λ i hi=>?_) (by simp only [eg,bu])
 have:=AT (iP i) (show i < 4 by omega)
 simp only [dec_lt hi,bT,this,aX,dr (i:=i) (by omega),n9,afA (show i < 4 by omega),ajt]
theorem aIZ{c:List Int}{n:Nat}(hn:n≤4)(ha:c.Pairwise (· < ·))(hc:∀ k∈c,0≤k∧k < (n:Int)):((List.range 4).filter λ k=>c.contains ((k:Nat):Int)).map (λ (k:Nat)=>(k:Int))=c:=by
 refine NO _ _ ?_ ha λ x=>?_
 ·rw [List.pairwise_map]
  exact (List.pairwise_lt_range.filter _).imp λ h=>by omega
 ·simp only [List.mem_map,List.mem_filter,List.mem_range,List.contains_iff_mem]
  constructor
  ·rintro ⟨k,⟨_,h⟩,rfl⟩; exact h
  ·intro h; have:=hc x h; exact ⟨x.toNat,⟨by omega,by rwa [Int.toNat_of_nonneg this.1]⟩,Int.toNat_of_nonneg this.1⟩
structure II (b:aj) (r:List (List Int)):Prop where
 len:r.length=b.ao.length
 row:∀ i,i < b.ao.length→(nth r i).Pairwise (· < ·)∧∀ k∈nth r i,0≤k∧k < (b.an.length:Int)
theorem il.rows{b:aj}{g:List Bool}{o:Nat}{r:List (List Int)}(h:il (eQ b g o) r):II b r:=⟨h.len,λ i hi=>by
 cases ho:(eQ b g o).out i with
 | true=>rw [h.out i hi ho]; exact ⟨.nil,by simp⟩
 | false =>
  have:=tK.1 (h.FL i hi ho)
  exact ⟨this.2.1,λ k hk=>⟨(this.2.2 k hk).1,(this.2.2 k hk).2.1⟩⟩⟩
theorem ahn{b:aj}(hv:Valid b){r:List (List Int)}(hr:II b r):xJ b (eH r)=some r:=by
 have hd:=hv.d4
 have hm:=hv.m4
 unfold xJ
 refine (jA (o:=r) ?_).trans rfl
 have e0:(([]:List (List Int)),(0:Int))=(λ i:Nat=>(r.take i,(i:Int))) 0:=rfl
 rw [e0]
 refine nm (λ i:Nat=>(r.take i,(i:Int))) b.ao.length (λ i hi=>?_) (by simp only [eg,bu,← hr.len,List.take_length])
 have Kv:=hr.row i hi
 have hl:=hr.len
 simp only [dec_lt hi,bT,MO _ (show i < 4 by omega),aX,dr (i:=i) (by omega)]
 rw [jA (o:=nth r i) ?_]
 ·rw [pU (by rw [kT]; simp only [List.length_cons,List.length_nil]; omega),aX,List.take_add_one,cw (by omega)]
  rfl
 ·have q0:(([]:List Int),(0:Int))=(λ k:Nat=>(((List.range k).filter λ k=>(nth r i).contains ((k:Nat):Int)).map (λ (k:Nat)=>(k:Int)),(k:Int))) 0:=rfl
  rw [q0]
  refine nm (λ k:Nat=>(((List.range k).filter λ k=>(nth r i).contains ((k:Nat):Int)).map (λ (k:Nat)=>(k:Int)),(k:Int))) 4 (λ k hk=>?_) ?_
  ·have hfl:((List.range k).filter λ k=>(nth r i).contains ((k:Nat):Int)).length≤k:=Nat.le_trans (List.length_filter_le _ _) (by simp)
   simp only [show decide ((k:Int) < 4)=true by simp; omega,bT,AT _ hk,aX,dr (i:=k) (by omega),List.range_succ,List.filter_append,List.map_append]
   cases ht:(nth r i).contains (k:Int) with
   | true =>
    rw [bT,pU (by rw [List.length_map]; simp only [List.length_cons,List.length_nil]; omega),aX]
    simp only [List.filter_cons,ht,if_true,List.filter_nil,List.map_cons,List.map_nil]
   | false =>
    simp only [bu,List.filter_cons,ht,nF,if_false,List.filter_nil,List.map_nil,List.append_nil]
  ·rw [show decide (((4:Nat):Int) < 4)=false from rfl,bu,aIZ hm Kv.1 Kv.2]
abbrev fK(b:aj):List (List (List Int)):=kP (eQ b (iq b) 0)
theorem MN{b:aj}(hv:Valid b)(g:List Bool)(o:Nat):(kP (eQ b g o)).length≤65536:=aIR hv.m4 hv.d4
theorem aiR{b:aj}{g:List Bool}{o:Nat}{r:List (List Int)}(h:r∈kP (eQ b g o)):II b r:=il.rows (Et.1 h)
def Rw(b:aj):Int × Int:=if gW b 0≠0 then (0,gW b 0) else ((fK b).length,0)
theorem aF9{b:aj}(hs:Small b):xL b=some (Rw b):=by
 unfold xL Rw
 rw [Mk hs (own:=0) (λ _=>rfl),aX]
 unfold Ez
 by_cases h:gW b 0=0
 ·obtain ⟨hv,_,_⟩:=qS h
  have hl:=MN hv (iq b) 0
  simp only [h,ne_eq,kV,if_false,bne_self_eq_false,bu,LK hv,show (iL b).book=b from rfl,LL hv,tG,aX]
  rw [show (0:Int)=((0:Nat):Int) from rfl,GM hv (Fw b) (by omega) _ (r:=(.inl ((((fK b).map eH).foldl (λ (s:Int) _=>s+1) 0)),true)) (OM (λ k s=>s=(k:Int)) (λ _ s=>s+1) _ 0 _ rfl (λ j s a hj hs _=>by
   subst hs
   simp only [List.length_map] at hj
   rw [dr (i:=j) (by omega)]
   exact ⟨rfl,rfl⟩))]
  have key:∀ (l:List (List Bool)) (s:Int),l.foldl (λ s _=>s+1) s=s+l.length:=by
   intro l
   induction l with
   | nil=>simp
   | cons a l ih=>intro s; rw [List.foldl_cons,ih]; simp; omega
  rw [aX,Sum.elim_inl,key,List.length_map]
  simp
 ·simp only [h,ne_eq,not_false_eq_true,if_true,qp h,bT]
def CU(b:aj):List (List Int) × Bool × Int:=if gW b 0≠0 then ([],false,gW b 0) else match fK b with | []=>([],false,0) | r::_=>(r,true,0)
theorem aGc{b:aj}(hs:Small b):zl b=some (CU b):=by
 unfold zl CU
 rw [Mk hs (own:=0) (λ _=>rfl),aX]
 unfold Ez
 by_cases h:gW b 0=0
 ·obtain ⟨hv,_,_⟩:=qS h
  simp only [h,ne_eq,kV,if_false,bne_self_eq_false,bu,LK hv,show (iL b).book=b from rfl,LL hv,tG,aX]
  cases hc:fK b with
  | nil =>
   have:=GM hv (Fw b) (o:=0) (by omega) (gm (λ (Fh:(List Bool)) (oK:Unit)=>(((xJ b Fh).bind λ nE=>some (.inr nE)):Option (Unit ⊕ (List (List Int)))))) (s:=.inl ()) (r:=(.inl (),true)) (by rw [show kP (eQ b (iq b) 0)=[] from hc]; rfl)
   rw [show (0:Int)=((0:Nat):Int) from rfl,this]
   rfl
  | cons r l =>
   have:=GM hv (Fw b) (o:=0) (by omega) (gm (λ (Fh:(List Bool)) (oK:Unit)=>(((xJ b Fh).bind λ nE=>some (.inr nE)):Option (Unit ⊕ (List (List Int)))))) (s:=.inl ()) (r:=(.inr r,false)) (by
    rw [show kP (eQ b (iq b) 0)=r::l from hc]
    simp only [List.map_cons,jH,gm]
    rw [ahn hv (aiR (show r∈fK b by rw [hc]; simp))]
    rfl)
   rw [show (0:Int)=((0:Nat):Int) from rfl,this]
   rfl
 ·simp only [h,ne_eq,not_false_eq_true,if_true,qp h,bT]
def lO(b:aj)(g:List Bool)(o:Nat):Bool:=!(kP (eQ b g o)).isEmpty
theorem aat{b:aj}(hv:Valid b){g:List Bool}(hg:g.length=4){o:Nat}(ho:o < 16):zi (iL b) (pR b) g (o:Int)=some (lO b g o):=by
 unfold zi lO
 simp only [tG,aX]
 cases hc:kP (eQ b g o) with
 | nil =>
  rw [GM hv hg ho _ (r:=(.inl (),true)) (by rw [hc]; rfl)]
  rfl
 | cons r l =>
  rw [GM hv hg ho _ (r:=(.inr (),false)) (by rw [hc]; rfl)]
  rfl
def CC(b:aj):List Int × Bool × Int:=if gW b 0≠0 then ([],false,gW b 0) else ((fM b.an.length (λ a=>lO b (gD (bB b.an.length a)) 0) (2 ^ b.an.length)).1,(fM b.an.length (λ a=>lO b (gD (bB b.an.length a)) 0) (2 ^ b.an.length)).2,0)
theorem aGi{b:aj}(hs:Small b):zo b=some (CC b):=by
 unfold zo CC
 rw [Mk hs (own:=0) (λ _=>rfl),aX]
 unfold Ez
 by_cases h:gW b 0=0
 ·obtain ⟨hv,_,_⟩:=qS h
  have hm:=hv.m4
  simp only [h,ne_eq,kV,if_false,bne_self_eq_false,bu,LK hv,show (iL b).book=b from rfl,LL hv,aX]
  rw [ahr (P:=λ a=>lO b (gD (bB b.an.length a)) 0) (by omega) (λ a ha=>?_),aX]
  unfold D7
  rw [aht (n:=b.an.length) (by omega) ha,aX,aEO (by have:=QH (n:=b.an.length) (by omega) ha; omega) (λ k hk=>by have:=Mo hk; omega),aX,show (0:Int)=((0:Nat):Int) from rfl,aat hv (Jt _) (by omega),aX]
  cases hg:lO b (gD (bB b.an.length a)) 0 with
  | true=>rfl
  | false =>
   rw [bu]
   cases he:Jm (gD (bB b.an.length a)) (iq b) with
   | false=>rfl
   | true =>
    have he:gD (bB b.an.length a)=iq b:=by simpa [Jm] using he
    rw [show (true == true)=true from rfl,bT,aat hv (Fw b) (by omega),← he,hg]
    rfl
 ·simp only [h,ne_eq,not_false_eq_true,if_true,qp h,bT]
def CE(b:aj):List Int × Int:=if gW b 0≠0 then ([],gW b 0) else ((fM b.ao.length (λ a=>lO b (iq b) a) (2 ^ b.ao.length)).1,0)
theorem aGl{b:aj}(hs:Small b):xM b=some (CE b):=by
 unfold xM CE
 rw [Mk hs (own:=0) (λ _=>rfl),aX]
 unfold Ez
 by_cases h:gW b 0=0
 ·obtain ⟨hv,_,_⟩:=qS h
  have hd:=hv.d4
  have hp:=aa6 (n:=b.ao.length) (by omega)
  simp only [h,ne_eq,kV,if_false,bne_self_eq_false,bu,LK hv,show (iL b).book=b from rfl,LL hv,aX]
  rw [ahr (P:=λ a=>lO b (iq b) a) (by omega) (λ a ha=>?_),aX]
  unfold D9
  rw [aat hv (Fw b) (by omega)]
  rfl
 ·simp only [h,ne_eq,not_false_eq_true,if_true,qp h,bT]
def qq(b:aj):RB:=⟨b.an.length,b.ao.length,λ i=>(nth b.ao i).an.toNat,kZ b,lX b,λ _=>false⟩
theorem il.same{A C:RB}(hn:A.n=C.n)(hD:A.D=C.D)(af4:∀ i,i < A.D→A.iA i=C.iA i)(gQ:∀ i k,i < A.D→k < A.n→A.ok i k=C.ok i k)(lh:∀ i j,i < A.D→j < i→A.ap j i=C.ap j i∧A.ap i j=C.ap i j)(yS:∀ i,i < A.D→A.out i=C.out i){r:List (List Int)}:il A r↔il C r:=by
 constructor
 ·intro h
  exact il.le ⟨by omega,hD,af4,λ i k hi hk h=>by rw [← gQ i k hi hk]; exact h,λ i j hi hj h=>by rw [← (lh i j hi hj).1]; exact h,λ i hi h=>by rw [← yS i hi]; exact h,λ i hi h=>by rw [yS i hi]; exact h⟩ h
 ·intro h
  exact il.le ⟨by omega,hD.symm,λ i hi=>(af4 i (by omega)).symm,λ i k hi hk h=>by rw [gQ i k (by omega) (by omega)]; exact h,λ i j hi hj h=>by rw [(lh i j (by omega) hj).1]; exact h,λ i hi h=>by rw [yS i (by omega)]; exact h,λ i hi h=>by rw [← yS i (by omega)]; exact h⟩ h
theorem OO{b:aj}{g:List Bool}{o:Nat}:lO b g o=true↔∃ r,il (eQ b g o) r:=by
 unfold lO
 rw [Bool.not_eq_true',List.isEmpty_eq_false_iff_exists_mem]
 exact ⟨λ ⟨r,h⟩=>⟨r,Et.1 h⟩,λ ⟨r,h⟩=>⟨r,Et.2 h⟩⟩
theorem aiK{b:aj}(hm:b.an.length≤4){l:List Int}{r:List (List Int)}:il (eQ b (gD l) 0) r↔il (qq b) r∧wu l r=true:=by
 rw [← aHb]
 refine il.same (A:=eQ b (gD l) 0) (C:=(qq b).only l) rfl rfl (λ _ _=>rfl) (λ i k _ hk=>?_) (λ _ _ _ _=>⟨rfl,rfl⟩) (λ i _=>by simp [eQ,RB.only,qq])
 show (nth (gD l) k && kZ b i k)=(kZ b i k && l.contains (k:Int))
 rw [afz l (show k < 4 by have:(eQ b (gD l) 0).n=b.an.length:=rfl; omega),Bool.and_comm]
theorem abc{b:aj}(hm:b.an.length≤4){o:Nat}{r:List (List Int)}:il (eQ b (iq b) o) r↔il { qq b with out:=λ i=>o.testBit i } r:=by
 refine il.same (A:=eQ b (iq b) o) (C:={ qq b with out:=λ i=>o.testBit i }) rfl rfl (λ _ _=>rfl) (λ i k _ hk=>?_) (λ _ _ _ _=>⟨rfl,rfl⟩) (λ i _=>rfl)
 show (nth (gD (iP b.an.length)) k && kZ b i k)=kZ b i k
 have dI:k < b.an.length:=hk
 rw [afz _ (by omega),show (iP b.an.length).contains (k:Int)=true by rw [List.contains_iff_mem,aaJ]; omega,Bool.true_and]
theorem aiJ{b:aj}(hm:b.an.length≤4){r:List (List Int)}:il (eQ b (iq b) 0) r↔il (qq b) r:=by
 rw [abc hm]
 exact il.same (A:={ qq b with out:=λ i=>(0:Nat).testBit i }) (C:=qq b) rfl rfl (λ _ _=>rfl) (λ _ _ _ _=>rfl) (λ _ _ _ _=>⟨rfl,rfl⟩) (λ i _=>by simp [qq])
theorem QG{n:Nat}:bB n (2 ^ n - 1)=iP n:=by
 unfold bB iP
 rw [List.filter_eq_self.2 λ i hi=>afy i (List.mem_range.1 hi)]
set_option maxRecDepth 1000000 in
theorem goes_mono{b:aj}(hv:Valid b){l:List Int}(h:lO b (gD l) 0=true):lO b (iq b) 0=true:=by
 rw [OO] at h ⊢
 obtain ⟨r,h⟩:=h
 exact ⟨r,(aiJ hv.m4).2 ((aiK hv.m4).1 h).1⟩
abbrev uR(b:aj)(a:Nat):Bool:=lO b (gD (bB b.an.length a)) 0
theorem aot{b:aj}(hv:Valid b)(h:lO b (iq b) 0=false):fM b.an.length (uR b) (2 ^ b.an.length)=([],false) :=
 aJi λ a _=>by
  cases hp:uR b a with
  | false=>rfl
  | true=>rw [goes_mono hv hp] at h; cases h
theorem aou{b:aj}(h:lO b (iq b) 0=true):(fM b.an.length (uR b) (2 ^ b.an.length)).2=true∧cz b.an.length (uR b) (fM b.an.length (uR b) (2 ^ b.an.length)).1:=by
 have hp:=Nat.two_pow_pos b.an.length
 refine ai4 (a:=2 ^ b.an.length - 1) (by omega) ?_
 show lO b (gD (bB b.an.length (2 ^ b.an.length - 1))) 0=true
 rw [QG]
 exact h
def aDf(b:aj)(l:List Int):List Int:=(iP b.ao.length).filter λ k=>!l.contains k
theorem aDg{b:aj}{a:Nat}:(aDf b (bB b.ao.length a)).length+(bB b.ao.length a).length=b.ao.length:=by
 have h:=ar1 (λ k=>(bB b.ao.length a).contains k) (iP b.ao.length)
 have e:(iP b.ao.length).filter (λ k=>(bB b.ao.length a).contains k)=bB b.ao.length a:=by
  refine NO _ _ ((ajs _).filter _) (aaG _ _) λ x=>?_
  rw [List.mem_filter,List.contains_iff_mem,aaJ]
  exact ⟨λ h=>h.2,λ h=>⟨Mo h,h⟩⟩
 rw [e,ajr] at h
 exact h
abbrev AP(b:aj)(a:Nat):Bool:=lO b (iq b) a
theorem aev{b:aj}(hv:Valid b):AP b (2 ^ b.ao.length - 1)=true:=by
 rw [OO]
 refine ⟨List.replicate b.ao.length [],?_⟩
 rw [abc hv.m4]
 have e:∀ i,i < b.ao.length→nth (List.replicate b.ao.length ([]:List Int)) i=[]:=λ i hi=>by
  have:=cw (l:=List.replicate b.ao.length ([]:List Int)) (i:=i) (by simpa using hi)
  rw [List.getElem?_replicate,if_pos hi] at this
  exact (lV this).symm
 refine ⟨by simp [qq],λ i hi _=>e i hi,λ i hi ho=>?_,λ i j hi hj=>.inr ?_⟩
 ·have:(2 ^ b.ao.length - 1).testBit i=true:=afy i hi
  have ho:(2 ^ b.ao.length - 1).testBit i=false:=ho
  rw [this] at ho
  cases ho
 ·rw [e i hi]; rfl
theorem aoH{b:aj}(hv:Valid b):cz b.ao.length (AP b) (fM b.ao.length (AP b) (2 ^ b.ao.length)).1 :=
 (ai4 (a:=2 ^ b.ao.length - 1) (by have:=Nat.two_pow_pos b.ao.length; omega) (aev hv)).2
def dA(b:aj)(i:Nat):Int:=(nth b.ao i).fH
abbrev l9(b:aj)(r:List (List Int)):Int:=yf (dA b) r b.ao.length b.an.length
def ql(f:Int→Int):Int:=max (max (max (max 0 (f 0)) (f 1)) (f 2)) (f 3)
def gz(t:Nat→Int)(r:List (List Int))(i k:Nat):Int→Int:=λ a=>ij t r a i+if (0≤a∧a < (k:Int))∧a∈nth r i then t i else 0
theorem aGO{f:Int→Int}{k:Nat}(hk:k < 4){z:Int}(hz:f k≤z):ql (mM f k z)=max (ql f) z:=by
 match k,hk with
 | 0,_=>simp only [ql,mM] at hz ⊢; simp; simp at hz; omega
 | 1,_=>simp only [ql,mM] at hz ⊢; simp; simp at hz; omega
 | 2,_=>simp only [ql,mM] at hz ⊢; simp; simp at hz; omega
 | 3,_=>simp only [ql,mM] at hz ⊢; simp; simp at hz; omega
theorem abB{b:aj}(hv:Valid b)(r:List (List Int))(k:Int):∀ i,i≤b.ao.length→0≤ij (dA b) r k i∧ij (dA b) r k i≤60 * i
 | 0,_=>by simp [ij]
 | i+1,h=>by
  have ih:=abB hv r k i (by omega)
  have ht:=(hv.dv (i:=i) (by omega)).zN
  simp only [ij]
  have:dA b i=(nth b.ao i).fH:=rfl
  split <;> omega
theorem ahp{b:aj}(hv:Valid b){r:List (List Int)}(hr:II b r):zd b (eH r)=some (l9 b r):=by
 have hd:=hv.d4
 have hm:=hv.m4
 unfold zd
 have ht:∀ i,i < b.ao.length→1≤dA b i∧dA b i≤60:=λ i hi=>(hv.dv hi).zN
 have fin:ql (gz (dA b) r b.ao.length 0)=l9 b r:=by
  have e:∀ a:Int,gz (dA b) r b.ao.length 0 a=ij (dA b) r a b.ao.length:=λ a=>by
   unfold gz
   rw [if_neg (by omega)]
   omega
  have z:∀ k:Nat,b.an.length≤k→ij (dA b) r (k:Int) b.ao.length=0:=λ k hk=>ajl λ i hi nV=>by
   have:=(hr.row i hi).2 _ nV
   omega
  have key:∀ m,l9 b r≤m↔0≤m∧ij (dA b) r 0 b.ao.length≤m∧ij (dA b) r 1 b.ao.length≤m∧ij (dA b) r 2 b.ao.length≤m∧ij (dA b) r 3 b.ao.length≤m:=λ m=>by
   rw [akn]
   have q:∀ k:Nat,0≤m→(∀ j:Nat,j < b.an.length→ij (dA b) r (j:Int) b.ao.length≤m)→ij (dA b) r (k:Int) b.ao.length≤m:=λ k h0 h=>by
    by_cases hk:k < b.an.length
    ·exact h k hk
    ·rw [z k (by omega)]; exact h0
   constructor
   ·rintro ⟨h0,h⟩
    exact ⟨h0,q 0 h0 h,q 1 h0 h,q 2 h0 h,q 3 h0 h⟩
   ·rintro ⟨h0,h1,h2,h3,h4⟩
    refine ⟨h0,λ k hk=>?_⟩
    match k,(show k < 4 by omega) with
    | 0,_=>exact h1
    | 1,_=>exact h2
    | 2,_=>exact h3
    | 3,_=>exact h4
  unfold ql
  rw [e,e,e,e]
  have k1:=(key (l9 b r)).1 (Int.le_refl _)
  have k2:=(key (max (max (max (max 0 (ij (dA b) r 0 b.ao.length)) (ij (dA b) r 1 b.ao.length)) (ij (dA b) r 2 b.ao.length)) (ij (dA b) r 3 b.ao.length))).2 (by omega)
  omega
 rw [← fin]
 refine (jA (o:=ql (gz (dA b) r b.ao.length 0)) ?_).trans rfl
 have e0:((λ _=>0:Int→Int),(0:Int),(0:Int))=(λ i:Nat=>(gz (dA b) r i 0,ql (gz (dA b) r i 0),(i:Int))) 0:=by
  have:gz (dA b) r 0 0=λ _=>0:=by
   funext a
   unfold gz
   rw [if_neg (by omega)]
   rfl
  simp only [this]
  rfl
 rw [e0]
 refine nm (λ i:Nat=>(gz (dA b) r i 0,ql (gz (dA b) r i 0),(i:Int))) b.ao.length (λ i hi=>?_) (by simp only [eg,bu])
 have hb:=λ a=>abB hv r a i (by omega)
 have hti:=ht i hi
 simp only [dec_lt hi,bT,dG,cw hi,aX,MO _ (show i < 4 by omega),dr (i:=i) (by omega)]
 have nx:gz (dA b) r i 4=gz (dA b) r (i+1) 0:=by
  funext a
  unfold gz
  simp only [ij]
  rw [if_neg (show ¬((0≤a∧a < ((0:Nat):Int))∧a∈nth r (i+1)) by omega)]
  by_cases ha:a∈nth r i
  ·have:=(hr.row i hi).2 a ha
   rw [if_pos ⟨⟨by omega,by omega⟩,ha⟩,if_pos ha]
   omega
  ·rw [if_neg (λ h=>ha h.2),if_neg ha]
   omega
 rw [jA (o:=(gz (dA b) r (i+1) 0,ql (gz (dA b) r (i+1) 0))) ?_]
 have q0:(gz (dA b) r i 0,ql (gz (dA b) r i 0),(0:Int))=(λ k:Nat=>(gz (dA b) r i k,ql (gz (dA b) r i k),(k:Int))) 0:=rfl
 rw [q0]
 refine nm (λ k:Nat=>(gz (dA b) r i k,ql (gz (dA b) r i k),(k:Int))) 4 (λ k hk=>?_) ?_
 ·simp only [show decide ((k:Int) < 4)=true by simp; omega,bT,AT _ hk,aX,dr (i:=k) (by omega)]
  have hfk:gz (dA b) r i k (k:Int)=ij (dA b) r (k:Int) i:=by
   unfold gz
   rw [if_neg (λ h=>by omega)]
   omega
  have mA:=hb (k:Int)
  cases hc:(nth r i).contains (k:Int) with
  | true =>
   rw [List.contains_iff_mem] at hc
   have e1:mM (gz (dA b) r i k) (k:Int) (gz (dA b) r i k (k:Int)+dA b i)=gz (dA b) r i (k+1):=by
    funext a
    unfold mM
    by_cases ha:a=(k:Int)
    ·subst ha
     rw [if_pos rfl,hfk]
     unfold gz
     rw [if_pos ⟨⟨by omega,by omega⟩,hc⟩]
    ·rw [if_neg ha]
     unfold gz
     congr 1
     by_cases h2:(0≤a∧a < (k:Int))∧a∈nth r i
     ·rw [if_pos h2,if_pos ⟨⟨h2.1.1,by omega⟩,h2.2⟩]
     ·rw [if_neg h2,if_neg (λ h3=>h2 ⟨⟨h3.1.1,by omega⟩,h3.2⟩)]
   have e2:i64 (gz (dA b) r i k (k:Int)+(nth b.ao i).fH)=gz (dA b) r i k (k:Int)+dA b i:=by
    rw [hfk,mE (by have:dA b i=(nth b.ao i).fH:=rfl; omega) (by have:dA b i=(nth b.ao i).fH:=rfl; omega)]
    rfl
   rw [bT,e2,e1,ahS]
   congr 2
   have:=aGO (f:=gz (dA b) r i k) hk (z:=gz (dA b) r i k (k:Int)+dA b i) (by omega)
   rw [e1] at this
   rw [this]
   congr 2
   rw [← e1]
   unfold mM
   rw [if_pos rfl]
  | false =>
   have lj:¬ (k:Int)∈nth r i:=λ h=>by rw [← List.contains_iff_mem,hc] at h; cases h
   have e1:gz (dA b) r i (k+1)=gz (dA b) r i k:=by
    funext a
    unfold gz
    congr 1
    by_cases h2:(0≤a∧a < (k:Int))∧a∈nth r i
    ·rw [if_pos h2,if_pos ⟨⟨h2.1.1,by omega⟩,h2.2⟩]
    ·rw [if_neg h2,if_neg (λ h3=>h2 ⟨⟨h3.1.1,by
      have:a≠(k:Int):=λ e=>lj (e ▸ h3.2)
      omega⟩,h3.2⟩)]
   rw [bu,e1]
 ·rw [show decide (((4:Nat):Int) < 4)=false from rfl,bu,nx]
theorem aEL{f:List Bool→Option Int}{w:List (List Int)→Int}:∀ (l:List (List (List Int))) (x:List (List Int)),(∀ y∈x::l,f (eH y)=some (w y))→l.length≤70000→D6 f ((x::l).map eH)=some (eH (jG w x l)):=by
 intro l x hf hl
 unfold D6
 rw [show idx ((x::l).map eH) 0=some (eH x) from rfl,aX]
 rw [show kF ((x::l).map eH) 1 (((x::l).map eH).length:Int)=some (l.map eH) from aox,aX]
 refine (jA (o:=eH (jG w x l)) ?_).trans rfl
 have e0:((0:Int),eH x)=(λ i:Nat=>((i:Int),eH (jG w x (l.take i)))) 0:=rfl
 rw [e0]
 have sn:∀ (l:List (List (List Int))) (x y:List (List Int)),jG w x (l++[y])=if w y < w (jG w x l) then y else jG w x l:=by
  intro l
  induction l with
  | nil=>intro x y; rfl
  | cons z l ih=>intro x y; exact ih _ y
 have mem:∀ (l:List (List (List Int))) (x:List (List Int)),jG w x l∈x::l:=by
  intro l
  induction l with
  | nil=>intro x; simp [jG]
  | cons z l ih =>
   intro x
   simp only [jG]
   have:=ih (if w z < w x then z else x)
   rcases fa.1 this with h | h
   ·rw [h]; split <;> simp
   ·simp [h]
 have Kj:(l.map eH).length=l.length:=List.length_map _
 refine (congrArg (λ z=>bE _ z) rfl).trans ?_
 rw [Kj]
 refine nm (λ i:Nat=>((i:Int),eH (jG w x (l.take i)))) l.length (λ i hi=>?_) (by simp only [eg,bu,List.take_length])
 have e:(l.map eH)[i]? = some (eH (nth l i)):=by rw [List.getElem?_map,cw hi]; rfl
 have hb:jG w x (l.take i)∈x::l:=by
  rcases fa.1 (mem (l.take i) x) with h | h
  ·rw [h]; simp
  ·exact List.mem_cons_of_mem _ (List.mem_of_mem_take h)
 simp only [dec_lt hi,bT,dG,e,aX,hf _ (List.mem_cons_of_mem _ (gS hi)),hf _ hb,dr (i:=i) (by omega)]
 have et:l.take (i+1)=l.take i++[nth l i]:=by rw [List.take_add_one,cw hi]; rfl
 rw [et,sn]
 by_cases hw:w (nth l i) < w (jG w x (l.take i))
 ·rw [wE hw,bT,if_pos hw]
 ·rw [Cf hw,bu,if_neg hw]
theorem aEJ{b:aj}(hv:Valid b){g:List Bool}(hg:g.length=4){o:Nat}(ho:o < 16):D5 (λ y s=>qi y (iL b) (o:Int) g (pR b) s)=some ((kP (eQ b g o)).map eH):=by
 unfold D5 GN
 have hl:=MN hv g o
 have key:∀ (l a:List (List Bool)),l.foldl (λ s c=>s++[c]) a=a++l:=by
  intro l
  induction l with
  | nil=>simp
  | cons c l ih=>intro a; rw [List.foldl_cons,ih]; simp
 dsimp only
 rw [GM hv hg ho _ (r:=(.inl ((((kP (eQ b g o)).map eH).foldl (λ (s:List (List Bool)) c=>s++[c]) [])),true)) (OM (λ k s=>s.length=k) (λ c s=>s++[c]) _ 0 [] rfl (λ j s a hj hs _=>by
  simp only [List.length_map] at hj
  rw [pU (by simp; omega)]
  exact ⟨rfl,by simp [hs]⟩))]
 rw [key]
 rfl
def CR(b:aj):List (List Int) × Int × Bool × Int:=if gW b 0≠0 then ([],0,false,gW b 0) else match fK b with | []=>([],0,false,0) | r::l=>(jG (l9 b) r l,l9 b (jG (l9 b) r l),true,0)
theorem I3{α:Type}(w:α→Int):∀ (l:List α) (x:α),jG w x l∈x::l
 | [],x=>by simp [jG]
 | z::l,x=>by
  simp only [jG]
  rcases fa.1 (I3 w l (if w z < w x then z else x)) with h | h
  ·rw [h]; split <;> simp
  ·simp [h]
theorem aGf{b:aj}(hs:Small b):zn b=some (CR b):=by
 unfold zn CR
 rw [Mk hs (own:=0) (λ _=>rfl),aX]
 unfold Ez
 by_cases h:gW b 0=0
 ·obtain ⟨hv,_,_⟩:=qS h
  have hl:=MN hv (iq b) 0
  simp only [h,ne_eq,kV,if_false,bne_self_eq_false,bu,LK hv,show (iL b).book=b from rfl,LL hv,tG,aX]
  have aew:=aEJ hv (Fw b) (o:=0) (by omega)
  rw [show ((0:Nat):Int)=0 from rfl] at aew
  rw [aew,aX,List.length_map]
  have Xp:∀ r∈fK b,II b r:=λ r hr=>aiR hr
  rw [show kP (eQ b (iq b) 0)=fK b from rfl] at hl ⊢
  cases hc:fK b with
  | nil=>rfl
  | cons r l =>
   rw [hc] at hl Xp
   simp only [List.length_cons] at hl
   rw [show ((((r::l).length:Nat):Int) == 0)=false by simp; omega,bu]
   rw [aEL (w:=l9 b) l r (λ y hy=>ahp hv (Xp y hy)) (by omega),aX]
   have JV:=Xp _ (I3 (l9 b) l r)
   rw [ahn hv JV,aX,ahp hv JV,aX]
 ·simp only [h,ne_eq,not_false_eq_true,if_true,qp h,bT]
theorem abf{b:aj}(hv:Valid b){r:List (List Int)}:r∈fK b↔il (qq b) r:=by
 rw [show fK b=kP (eQ b (iq b) 0) from rfl,Et,aiJ hv.m4]
theorem Qo{S O:Type}{body:S→Option (S ⊕ O)}(n:Nat)(I:Nat→S→Prop)(Q:O→Prop)(h:∀ i s,i < n→I i s→(∃ s',body s=some (.inl s')∧I (i+1) s')∨∃ o,body s=some (.inr o)∧Q o)(hn:∀ s,I n s→∃ o,body s=some (.inr o)∧Q o) :
  ∀ (k i:Nat) (s:S),i+k=n→I i s→∃ o,bE body s=some o∧Q o
 | 0,i,s,hi,hI=>by
  obtain rfl:i=n:=by omega
  obtain ⟨o,h1,h2⟩:=hn s hI
  exact ⟨o,vx h1,h2⟩
 | k+1,i,s,hi,hI=>by
  rcases h i s (by omega) hI with ⟨s',h1,h2⟩ | ⟨o,h1,h2⟩
  ·obtain ⟨o,h3,h4⟩:=Qo n I Q h hn k (i+1) s' (by omega) h2
   exact ⟨o,by rw [DW h1,h3],h4⟩
  ·exact ⟨o,vx h1,h2⟩
structure IG (b:aj) (r:List (List Int)):Prop where
 len:r.length=b.ao.length
 row:∀ i,i < b.ao.length→((nth r i).length:Int)=(nth b.ao i).an∧(nth r i).Pairwise (· < ·)∧∀ k∈nth r i,0≤k∧k < (b.an.length:Int)
theorem aIS{b:aj}(hv:Valid b){r:List (List Int)}(h:il (qq b) r):IG b r:=⟨h.len,λ i hi=>by
 have h1:=tK.1 (h.FL i hi rfl)
 have hm:=(hv.dv hi).qm
 have h2:(nth r i).length=(nth b.ao i).an.toNat:=h1.1
 exact ⟨by omega,h1.2.1,λ k hk=>⟨(h1.2.2 k hk).1,(h1.2.2 k hk).2.1⟩⟩⟩
def qt(b:aj)(r:List (List Int))(i:Nat):Bool:=(List.range i).all λ j=>lX b j i || !meet (nth r i) (nth r j)
theorem LD{a c:List Int}(ha:a.length≤1000)(_:c.length≤1000):tF a c=some (qP a c):=by
 unfold tF qP
 refine (vZ (CF a c) c.length (d:=false) (λ i hi=>?_) (by simp only [eg,bu]) rfl)
 simp only [dec_lt hi,bT,dG,cw hi]
 unfold CF
 by_cases h1:a.length≤i
 ·rw [show decide ((i:Int) ≥ (a.length:Int))=true by simp; omega,bT,if_pos h1]
  rfl
 ·rw [show decide ((i:Int) ≥ (a.length:Int))=false by simp; omega,bu,if_neg h1]
  simp only [cw (show i < a.length by omega),aX]
  by_cases h2:nth a i < nth c i
  ·rw [wE h2,if_pos h2]; rfl
  ·rw [Cf h2,if_neg h2,bu]
   by_cases h3:nth a i > nth c i
   ·rw [wE h3,if_pos h3]; rfl
   ·rw [Cf h3,if_neg h3,bu,dr (i:=i) (by omega)]
theorem aJO{α:Type}[Inhabited α]{a c:List α}{k:Nat}(ha:k≤a.length)(hc:k≤c.length)(h:∀ m,m < k→nth a m=nth c m):a.take k=c.take k :=
 QU (by rw [kT,kT]; omega) λ i hi=>by
  rw [kT] at hi
  rw [oB (by omega),oB (by omega)]
  exact h i (by omega)
theorem Ol{a c:List Int}(h:a.length=c.length):(qP a c=true∧nZ a c)∨(qP a c=false∧nZ c a)∨(qP a c=false∧a=c):=by
 unfold qP
 cases he:ff (CF a c) 0 c.length with
 | none =>
  rw [tf] at he
  refine .inr (.inr ⟨rfl,QU h λ i hi=>?_⟩)
  have:=he i (by omega) (by omega)
  unfold CF at this
  rw [if_neg (by omega)] at this
  split at this
  ·cases this
  ·split at this
   ·cases this
   ·omega
 | some o =>
  obtain ⟨j,_,hj,C8,hb⟩:=yC he
  have heq:∀ m,m < j→nth a m=nth c m:=λ m hm=>by
   have:=hb m (by omega) hm
   unfold CF at this
   rw [if_neg (by omega)] at this
   split at this
   ·cases this
   ·split at this
    ·cases this
    ·omega
  have ht:=aJO (a:=a) (c:=c) (k:=j) (by omega) (by omega) heq
  unfold CF at C8
  rw [if_neg (by omega)] at C8
  split at C8
  ·rename_i bK
   cases C8
   exact .inl ⟨rfl,j,by omega,by omega,ht,bK⟩
  ·split at C8
   ·rename_i hgt
    cases C8
    exact .inr (.inl ⟨rfl,j,by omega,by omega,ht.symm,hgt⟩)
   ·cases C8
theorem Qz{a c:List Int}(h:a.length=c.length)(ha:a.length≤1000):rf a c=some (decide (a=c)):=by
 unfold rf
 rw [LD ha (by omega),aX]
 rcases Ol h with ⟨e,hl⟩ | ⟨e,hl⟩ | ⟨e,rfl⟩
 ·rw [e]
  have:a≠c:=λ hh=>HD a (by rw [← hh] at hl; exact hl)
  rw [Cf this]
  rfl
 ·rw [e,Bool.not_false,bT,LD (by omega) ha,aX]
  have eP:a≠c:=λ hh=>HD a (by rw [← hh] at hl; exact hl)
  rw [Cf eP]
  rcases Ol h.symm with ⟨e2,_⟩ | ⟨_,hl2⟩ | ⟨_,e3⟩
  ·rw [e2]; rfl
  ·exact absurd hl2 (abi _ _ hl)
  ·exact absurd e3.symm eP
 ·rw [e,Bool.not_false,bT,LD ha ha,e,wE rfl]
  rfl
theorem aE0{b:aj}(hv:Valid b){r:List (List Int)}(hl:r.length=b.ao.length)(hr:∀ i,i < b.ao.length→(nth r i).length≤1000)(k:Int):LU b r k=some (ij (dA b) r k b.ao.length):=by
 have hd:=hv.d4
 unfold LU
 refine (jA (o:=ij (dA b) r k b.ao.length) ?_).trans rfl
 have e0:((0:Int),(0:Int))=(λ i:Nat=>(ij (dA b) r k i,(i:Int))) 0:=rfl
 rw [e0,hl]
 refine nm (λ i:Nat=>(ij (dA b) r k i,(i:Int))) b.ao.length (λ i hi=>?_) (by simp only [eg,bu])
 have hb:=abB hv r k i (by omega)
 have ht:=(hv.dv hi).zN
 have e1:dA b i=(nth b.ao i).fH:=rfl
 simp only [dec_lt hi,bT,dG,cw (show i < r.length by omega),cw hi,aX,QB (hr i hi),dr (i:=i) (by omega),ij]
 cases hc:(nth r i).contains k with
 | true =>
  rw [List.contains_iff_mem] at hc
  rw [bT,if_pos hc,mE (by omega) (by omega)]
  rfl
 | false =>
  have:¬ k∈nth r i:=λ h=>by rw [← List.contains_iff_mem,hc] at h; cases h
  rw [bu,if_neg this,Int.add_zero]
theorem aGu{b:aj}(hv:Valid b){r:List (List Int)}(hl:r.length=b.ao.length)(hr:∀ i,i < b.ao.length→(nth r i).length≤1000):m64 b r=some (l9 b r):=by
 have hm:=hv.m4
 unfold m64
 refine (jA (o:=l9 b r) ?_).trans rfl
 have e0:((0:Int),(0:Int))=(λ k:Nat=>(yf (dA b) r b.ao.length k,(k:Int))) 0:=rfl
 rw [e0]
 refine nm (λ k:Nat=>(yf (dA b) r b.ao.length k,(k:Int))) b.an.length (λ k hk=>?_) (by simp only [eg,bu])
 simp only [dec_lt hk,bT,aE0 hv hl hr,aX,ahS,dr (i:=k) (by omega),yf]
theorem IG.rl{b:aj}(hv:Valid b){r:List (List Int)}(h:IG b r):∀ i,i < b.ao.length→(nth r i).length≤1000:=λ i hi=>by
 have h1:=(h.row i hi).1
 have h3:=(hv.dv hi).qm
 omega
theorem Ru{b:aj}(hv:Valid b){r:List (List Int)}(h:r∈fK b):IG b r:=aIS hv ((abf hv).1 h)
theorem aIU(x y z:List Int)(h1:nZ x y)(h2:nZ y z):nZ x z:=by
 obtain ⟨i,WB,hi2,Pg,hi4⟩:=h1
 obtain ⟨j,hj1,hj2,Pk,hj4⟩:=h2
 have tk:∀ {p q:List Int} {k m:Nat},p.take k=q.take k→m < k→m < p.length→m < q.length→nth p m=nth q m:=λ h hm _ _=>by
  rw [← oB hm,h,oB hm]
 rcases Nat.lt_trichotomy i j with h | h | h
 ·refine ⟨i,WB,by omega,?_,?_⟩
  ·rw [Pg]; have:=congrArg (List.take i) Pk; rwa [List.take_take,List.take_take,Nat.min_eq_left (by omega)] at this
  ·rw [← tk Pk h (by omega) (by omega)]; exact hi4
 ·subst h
  exact ⟨i,WB,hj2,Pg.trans Pk,by omega⟩
 ·refine ⟨j,by omega,hj2,?_,?_⟩
  ·rw [← Pk]; have:=congrArg (List.take j) Pg; rwa [List.take_take,List.take_take,Nat.min_eq_left (by omega)] at this
  ·rw [tk Pg h (by omega) (by omega)]; exact hj4
end Go.Proofs.YtihapemckcdicaaGreatDoor
