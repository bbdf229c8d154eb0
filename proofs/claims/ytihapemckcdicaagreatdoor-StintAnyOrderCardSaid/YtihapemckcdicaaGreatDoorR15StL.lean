/- Plain laws of chapter 5. Conditions: none. -/
import Derived.Test.YtihapemckcdicaaGreatDoorQEStP
import Derived.Test.YtihapemckcdicaaGreatDoorQEStC
import Derived.Test.YtihapemckcdicaaGreatDoorQEStM
namespace Go.Proofs.YtihapemckcdicaaGreatDoor
open Go.Lg Go.Proofs
set_option maxRecDepth 10000
def w5(x:Reach)(a c:Int):Bool:=decide (a≤x.cI) && (decide (x.cI≤x.dK) && decide (x.dK≤c))
def AW(x:Reach)(w:Int):Bool:=decide (x.dK - x.cI < w)
theorem aE9{x:Reach}{a c:Int}(ha : -1000000≤a)(hc:c≤1000000)(h:w5 x a c=true):i64 (x.dK - x.cI)=x.dK - x.cI:=by
 simp only [w5,Bool.and_eq_true,decide_eq_true_eq] at h
 exact oq (by omega) (by omega)
theorem aCI{x:Reach}{a c:Int}:w5 x a c=true↔a≤x.cI∧x.cI≤x.dK∧x.dK≤c:=by simp [w5]
theorem aFa{x:Reach}{w:Int}:AW x w=true↔x.dK - x.cI < w:=by simp [AW]
def Gm(x:Reach):List Int:=(List.range (x.dK+1 - x.cI).toNat).map λ (j:Nat)=>x.cI+(j:Int)
theorem aBu{x:Reach}{n:Int}:n∈Gm x↔x.cI≤n∧n≤x.dK:=by
 simp only [Gm,List.mem_map,List.mem_range]
 constructor
 ·rintro ⟨j,hj,rfl⟩; omega
 ·intro h; exact ⟨(n - x.cI).toNat,by omega,by omega⟩
theorem aDd{x:Reach}(h:x.dK - x.cI < 3):(Gm x).length≤3:=by simp [Gm]; omega
instance:Inhabited dJ:=⟨⟨0,0⟩⟩
instance:Inhabited Reach:=⟨⟨0,0⟩⟩
instance:Inhabited dI:=⟨⟨⟨#[]⟩,0⟩⟩
instance:Inhabited iy:=⟨⟨0,0,0,0⟩⟩
instance:Inhabited dO:=⟨⟨0,0,false⟩⟩
instance:Inhabited br:=⟨⟨[0,0,0]⟩⟩
theorem vH(n a c:Int):kM n a c=some (cL n a c):=by
 unfold kM cL
 cases decide (a≤n) <;> rfl
theorem qS(n a c:Int):lF n a c=some (cL n a c):=by
 unfold lF cL
 cases decide (a≤n) <;> rfl
theorem aAy(x:Reach)(a c:Int):Kx x a c=some (w5 x a c):=by
 unfold Kx w5
 cases decide (a≤x.cI) <;> cases decide (x.cI≤x.dK) <;> rfl
theorem aA3{x:Reach}{a c w:Int}(ha : -1000000≤a)(hc:c≤1000000):C2 x a c w=some (w5 x a c && AW x w):=by
 unfold C2 w5 AW
 by_cases h1:a≤x.cI
 ·by_cases h2:x.cI≤x.dK
  ·by_cases h3:x.dK≤c
   ·simp [h1,h2,h3,oq (z:=x.dK - x.cI) (by omega) (by omega)]
   ·simp [h1,h2,h3]
  ·simp [h1,h2]
 ·simp [h1]
theorem SN{α:Type}[Inhabited α]{l:List α}{f:α→Option Bool}{p:α→Bool}(hl:l.length≤1000)(hf:∀ x∈l,f x=some (p x)):((bC (O:=(Unit ⊕ Int)) (λ (dH:Int) =>
 aa (decide (dH < (l.length:Int)))
 ((idx l dH).bind λ nI =>
 (f nI).bind λ ln =>
 aa ln
 (some (.inr (.inr dH)))
 (some (.inl (i64 (dH+1)))))
 (some (.inr (.inl ())))) 0).bind (Sum.elim (λ (_:Unit) =>
 some (-1))
  (λ q=>some q))).bind (λ de=>some (decide (de ≥ 0)))=some (l.any p):=by
 rw [vK (λ i=>if p (nth l i) then some (i:Int) else none) l.length (d:=(-1)) (λ i hi=>?_) (by simp only [ja,b8]) rfl]
 ·rw [Option.bind_some,apN p l]
 ·simp only [dec_lt hi,cV,fJ,df hi,Option.bind_some,hf _ (ko hi),fY (i:=i) (by omega)]
  cases p (nth l i) <;> rfl
theorem aA0{l:List Reach}{f:Reach→Option Bool}{p:Reach→Bool}(hl:l.length≤1000)(hf:∀ x∈l,f x=some (p x)):FX l f=some (l.any p):=SN hl hf
theorem aA7{l:List dI}{f:dI→Option Bool}{p:dI→Bool}(hl:l.length≤1000)(hf:∀ x∈l,f x=some (p x)):FY l f=some (l.any p):=SN hl hf
theorem aAC{l:List dO}{f:dO→Option Bool}{p:dO→Bool}(hl:l.length≤1000)(hf:∀ x∈l,f x=some (p x)):FQ l f=some (l.any p):=SN hl hf
structure Small (b:ao):Prop where
 rows:b.Rows.length≤20
 places:b.aM.length≤20
 rL:b.ax.length≤20
 PZ:b.av.length≤20
 aim:b.ba.length≤20
 each:∀ p∈b.ax,p.Name.size≤100
def Bp(b:ao):Bool :=
 decide (20 < b.Rows.length) || (decide (20 < b.aM.length) || (decide (20 < b.ax.length) || (decide (20 < b.av.length) || (decide (20 < b.ba.length) || b.ax.any λ p=>decide (100 < p.Name.size)))))
theorem zC{n m:Nat}:decide ((n:Int) > (m:Int))=decide (m < n):=by
 by_cases h:m < n <;> simp [h]
theorem ajH(b:ao):FR b=some (Bp b):=by
 unfold FR Bp
 have e1:decide ((b.Rows.length:Int) > 20)=decide (20 < b.Rows.length):=zC (m:=20)
 have e2:decide ((b.aM.length:Int) > 20)=decide (20 < b.aM.length):=zC (m:=20)
 have e3:decide ((b.ax.length:Int) > 20)=decide (20 < b.ax.length):=zC (m:=20)
 have e4:decide ((b.av.length:Int) > 20)=decide (20 < b.av.length):=zC (m:=20)
 have e5:decide ((b.ba.length:Int) > 20)=decide (20 < b.ba.length):=zC (m:=20)
 rw [e1,e2,e3,e4,e5]
 by_cases h1:20 < b.Rows.length
 ·simp [h1]
 by_cases h2:20 < b.aM.length
 ·simp [h1,h2]
 by_cases h3:20 < b.ax.length
 ·simp [h1,h2,h3]
 by_cases h4:20 < b.av.length
 ·simp [h1,h2,h3,h4]
 by_cases h5:20 < b.ba.length
 ·simp [h1,h2,h3,h4,h5]
 simp only [h1,h2,h3,h4,h5,decide_false,b8,Option.bind_some,Bool.false_or]
 rw [vK (λ i=>if decide (100 < (nth b.ax i).Name.size) then some true else none) b.ax.length (d:=false) (λ i hi=>?_) (by simp only [ja,b8]) rfl]
 ·rw [Zo (λ p:dI=>decide (100 < p.Name.size)) b.ax]
 ·have f1:decide (((nth b.ax i).Name.size:Int) > 100)=decide (100 < (nth b.ax i).Name.size):=zC (m:=100)
  simp only [dec_lt hi,cV,fJ,df hi,Option.bind_some,f1,fY (i:=i) (by omega)]
  cases decide (100 < (nth b.ax i).Name.size) <;> rfl
theorem ZT{b:ao}(h:Bp b=false):Small b:=by
 simp only [Bp,Bool.or_eq_false_iff,decide_eq_false_iff_not,List.any_eq_false,decide_eq_true_eq] at h
 obtain ⟨h1,h2,h3,h4,h5,h6⟩:=h
 exact ⟨by omega,by omega,by omega,by omega,by omega,λ p hp=>by have:=h6 p hp; omega⟩
theorem aee{n:Int}(h1:0≤n)(h2:n < 256):CR n=some (isLet n):=by unfold CR isLet; rw [oq (by omega) (by omega),qS]; rfl
theorem aAI{n:Int}(h1:0≤n)(h2:n < 256):FU n=some (yo n):=by unfold FU yo; rw [oq (by omega) (by omega),qS]; rfl
theorem aAA{s:ByteArray}(hs:s.size≤1000):Ky s=some (pY s):=by
 unfold Ky pY
 rw [qS,Option.bind_some]
 cases hb:cL (s.size:Int) 1 12 with
 | false =>
  simp only [Bool.not_false,cV,Option.bind_some]
  congr 1
  cases hf:eI (ov s) 0 s.size with
  | none=>rfl
  | some o=>rw [adH hf]; rfl
 | true =>
  have h1:1≤s.size:=by
   simp only [cL,Bool.and_eq_true,decide_eq_true_eq] at hb
   omega
  have iB:0 < (im s).length:=by rw [O7]; omega
  obtain ⟨g1,g2⟩:=afu (s:=s) (i:=0) (by omega)
  have Fj:vo s 0=some (nth (im s) 0):=by unfold vo; rw [← df iB]; exact fJ _ 0
  simp only [Bool.not_true,b8,Fj,Option.bind_some,aee g1 g2]
  have hu:eI (ov s) 0 s.size=match ov s 0 with | some o=>some o | none=>eI (ov s) 1 (s.size - 1):=by
   obtain ⟨k,hk⟩:∃ k,s.size=k+1:=⟨s.size - 1,by omega⟩
   rw [hk]
   simp only [eI,Nat.add_sub_cancel,Nat.zero_add]
   cases ov s 0 <;> rfl
  rw [hu]
  unfold ov
  cases hl:isLet (nth (im s) 0) with
  | false=>rfl
  | true =>
   simp only [Bool.not_true,b8,Bool.true_eq_false,if_false]
   have e2:=search (body:=λ (qL:Int) =>
    aa (decide (qL < (s.size:Int)))
    ((vo s qL).bind λ pj =>
    (CR pj).bind λ ni =>
    aa (!ni)
    ((vo s qL).bind λ gZ =>
    (FU gZ).bind λ lQ =>
    aa (!lQ)
    (some (.inr (.inr false)))
    (some (.inl (i64 (qL+1)))))
    (some (.inl (i64 (qL+1)))))
    (some (.inr (.inl ())))) (ov s) 1 s.size (d:=true) (g:=λ _=>some true) (λ i hi1 hi=>?_) (by simp only [ja,b8]) h1 rfl
   ·exact e2
   ·have Hp:i < (im s).length:=by rw [O7]; exact hi
    obtain ⟨k1,k2⟩:=afu hi
    have hsi:vo s (i:Int)=some (nth (im s) i):=by unfold vo; rw [← df Hp]; exact fJ _ i
    simp only [dec_lt hi,cV,hsi,Option.bind_some,aee k1 k2,aAI k1 k2,fY (i:=i) (by omega)]
    have h0:i≠0:=by omega
    unfold ov
    cases isLet (nth (im s) i) with
    | true=>rfl
    | false =>
     simp only [Bool.not_false,cV,h0,if_false,if_true]
     cases yo (nth (im s) i) <;> rfl
theorem aA5(s:ByteArray):KG s=some (pY s):=rfl
def yH(b:ao)(i:Nat):Option Int :=
 if (cL (nth b.Rows i).dh 1 30 && cL (nth b.Rows i).eE 1 60)=false then some 1
 else if 0 < i then (if (nth b.Rows i).dh≤(nth b.Rows (i - 1)).dh then some 7 else if (nth b.Rows i).eE > (nth b.Rows (i - 1)).eE then some 7 else none) else none
def s6(b:ao):Int:=if cL (b.Rows.length:Int) 1 4=false then 2 else (eI (yH b) 0 b.Rows.length).getD 0
def u7(x:Reach):Bool:=w5 x 1 30 && AW x 3
def rQ(b:ao):Int:=if cL (b.aM.length:Int) 1 3=false then 2 else if b.aM.any (λ x=>!u7 x)=true then 1 else 0
def xl(p q:dI):Bool:=q.Name.toList == p.Name.toList
def wX(b:ao)(i:Nat):Option Int :=
 if pY (nth b.ax i).Name=false then some 4 else if (b.ax.take i).any (xl (nth b.ax i))=true then some 5 else if cL (nth b.ax i).mg 1 30=false then some 1 else none
def sT(b:ao):Int:=if cL (b.ax.length:Int) 1 4=false then 2 else (eI (wX b) 0 b.ax.length).getD 0
def sO(b:ao)(n:Int):Bool:=cL n 0 ((b.aM.length:Int) - 1)
def uf(b:ao)(i:Nat):Option Int :=
 if sO b (nth b.av i).Place=false then some 6 else if (cL (nth b.av i).jf 0 200 && (cL (nth b.av i).gR 1 60 && cL (nth b.av i).ax 1 3))=false then some 1 else none
def vW(b:ao):Int:=if cL (b.av.length:Int) 1 4=false then 2 else (eI (uf b) 0 b.av.length).getD 0
def yK(b:ao)(i:Nat):Option Int :=
 if sO b (nth b.ba i).Place=false then some 6 else if cL (nth b.ba i).lU 0 30=false then some 1 else none
def AS(b:ao):Int:=if 3 < b.ba.length then 2 else (eI (yK b) 0 b.ba.length).getD 0
def lR(b:ao):Int:=if cL b.Rest 0 60=false then 1 else if s6 b≠0 then s6 b else if rQ b≠0 then rQ b else if sT b≠0 then sT b else if vW b≠0 then vW b else AS b
theorem W5{n:Int}{m:Nat}(hm:m≤1000):pZ n (m:Int)=some (if cL n 0 ((m:Int) - 1)=false then 6 else 0):=by
 unfold pZ
 rw [vH,Option.bind_some,oq (by omega) (by omega)]
 cases cL n 0 ((m:Int) - 1) <;> rfl
theorem aAQ{b:ao}(h:Small b):CU b=some (s6 b):=by
 unfold CU s6
 have hr:=h.rows
 rw [vH,Option.bind_some]
 cases cL (b.Rows.length:Int) 1 4 with
 | false=>rfl
 | true =>
  simp only [Bool.not_true,b8,Bool.true_eq_false,if_false]
  refine vK (yH b) b.Rows.length (λ i hi=>?_) (by simp only [ja,b8]) rfl
  simp only [dec_lt hi,cV,fJ,df hi,Option.bind_some,vH,fY (i:=i) (by omega)]
  unfold yH
  cases cL (nth b.Rows i).dh 1 30 with
  | false=>rfl
  | true =>
   cases cL (nth b.Rows i).eE 1 60 with
   | false=>rfl
   | true =>
    by_cases hp:0 < i
    ·simp only [YT hp,Bool.not_true,b8,cV,Qx (i:=i) (by omega) hp,fJ,df (show i - 1 < b.Rows.length by omega),Option.bind_some,hp,if_true,Bool.and_self,Bool.true_eq_false,if_false]
     by_cases hc:(nth b.Rows i).dh≤(nth b.Rows (i - 1)).dh
     ·simp [hc]
     ·by_cases hd:(nth b.Rows i).eE > (nth b.Rows (i - 1)).eE
      ·simp [hc,hd]
      ·simp [hc,hd]
    ·simp [hp]
theorem az9{b:ao}(h:Small b):Kt b=some (if cL b.Rest 0 60=false then 1 else s6 b):=by
 unfold Kt s6
 have hr:=h.rows
 rw [qS,Option.bind_some]
 cases cL b.Rest 0 60 with
 | false=>rfl
 | true =>
 simp only [Bool.not_true,b8,Bool.true_eq_false,if_false]
 rw [qS,Option.bind_some]
 cases cL (b.Rows.length:Int) 1 4 with
 | false=>rfl
 | true =>
  simp only [Bool.not_true,b8,Bool.true_eq_false,if_false]
  refine vK (yH b) b.Rows.length (λ i hi=>?_) (by simp only [ja,b8]) rfl
  simp only [dec_lt hi,cV,fJ,df hi,Option.bind_some,qS,fY (i:=i) (by omega)]
  unfold yH
  cases cL (nth b.Rows i).dh 1 30 with
  | false=>rfl
  | true =>
   cases cL (nth b.Rows i).eE 1 60 with
   | false=>rfl
   | true =>
    by_cases hp:0 < i
    ·simp only [YT hp,Bool.not_true,b8,cV,Qx (i:=i) (by omega) hp,fJ,df (show i - 1 < b.Rows.length by omega),Option.bind_some,hp,if_true,Bool.and_self,Bool.true_eq_false,if_false]
     by_cases hc:(nth b.Rows i).dh≤(nth b.Rows (i - 1)).dh
     ·simp [hc]
     ·by_cases hd:(nth b.Rows i).eE > (nth b.Rows (i - 1)).eE
      ·simp [hc,hd]
      ·simp [hc,hd]
    ·simp [hp]
theorem aAS{b:ao}(h:Small b):CV b=some (rQ b):=by
 unfold CV rQ
 rw [vH,Option.bind_some]
 cases cL (b.aM.length:Int) 1 3 with
 | false=>rfl
 | true =>
  have hp:=h.places
  simp only [Bool.not_true,b8,Bool.true_eq_false,if_false]
  rw [aA0 (p:=λ x=>!u7 x) (by omega) (λ x _=>by unfold C1 u7; rw [aA3 (by omega) (by omega)]; rfl),Option.bind_some]
  cases b.aM.any λ x=>!u7 x <;> rfl
theorem aAU{b:ao}(h:Small b):CX b=some (sT b):=by
 unfold CX sT
 rw [vH,Option.bind_some]
 cases cL (b.ax.length:Int) 1 4 with
 | false=>rfl
 | true =>
  have hp:=h.rL
  simp only [Bool.not_true,b8,Bool.true_eq_false,if_false]
  refine vK (wX b) b.ax.length (λ i hi=>?_) (by simp only [ja,b8]) rfl
  simp only [dec_lt hi,cV,fJ,df hi,Option.bind_some,aA5,amK (show i≤b.ax.length by omega),vH,
   aA7 (l:=b.ax.take i) (f:=λ y=>C3 y (nth b.ax i)) (p:=xl (nth b.ax i)) (by simp; omega) (λ x _=>rfl),fY (i:=i) (by omega)]
  unfold wX
  cases pY (nth b.ax i).Name with
  | false=>rfl
  | true =>
   cases (b.ax.take i).any (xl (nth b.ax i)) with
   | true=>rfl
   | false=>cases cL (nth b.ax i).mg 1 30 <;> rfl
theorem aAb{b:ao}(h:Small b):Ku b=some (if rQ b≠0 then rQ b else sT b):=by
 unfold Ku rQ
 rw [qS,Option.bind_some]
 cases cL (b.aM.length:Int) 1 3 with
 | false=>rfl
 | true =>
  have hp:=h.places
  simp only [Bool.not_true,b8,Bool.true_eq_false,if_false]
  rw [XK (λ i=>if (λ x=>!u7 x) (nth b.aM i) then some (1:Int) else none) b.aM.length (λ i hi=>?_) (by simp only [ja,b8])]
  ·rw [acP (λ x=>!u7 x) (1:Int) b.aM b.aM.length (Nat.le_refl _),List.take_length]
   cases b.aM.any λ x=>!u7 x with
   | true=>rfl
   | false =>
    simp only [Bool.false_eq_true,if_false,Option.bind_some,Sum.elim_inl,ne_eq,not_true_eq_false]
    unfold sT
    rw [qS,Option.bind_some]
    cases cL (b.ax.length:Int) 1 4 with
    | false=>rfl
    | true =>
     have hm:=h.rL
     simp only [Bool.not_true,b8,Bool.true_eq_false,if_false]
     refine vK (wX b) b.ax.length (λ i hi=>?_) (by simp only [ja,b8]) rfl
     have hn:=h.each _ (ko hi)
     simp only [dec_lt hi,cV,fJ,df hi,Option.bind_some,aAA (show (nth b.ax i).Name.size≤1000 by omega)]
     rw [XK (λ k=>if xl (nth b.ax i) (nth b.ax k) then some (5:Int) else none) i (λ k hk=>?_) (by simp only [ja,b8])]
     ·rw [acP (xl (nth b.ax i)) (5:Int) b.ax i (by omega)]
      simp only [qS,Option.bind_some,fY (i:=i) (by omega)]
      unfold wX
      cases pY (nth b.ax i).Name with
      | false=>rfl
      | true =>
       cases (b.ax.take i).any (xl (nth b.ax i)) with
       | true=>rfl
       | false=>cases cL (nth b.ax i).mg 1 30 <;> rfl
     ·simp only [dec_lt hk,cV,fJ,df (show k < b.ax.length by omega),Option.bind_some,fY (i:=k) (by omega)]
      rw [show ((nth b.ax k).Name.toList == (nth b.ax i).Name.toList)=xl (nth b.ax i) (nth b.ax k) from rfl]
      cases xl (nth b.ax i) (nth b.ax k) <;> rfl
  ·simp only [dec_lt hi,cV,fJ,df hi,Option.bind_some,aAy,fY (i:=i) (by omega)]
   unfold u7
   by_cases hr:w5 (nth b.aM i) 1 30=true
   ·have hw:decide (i64 ((nth b.aM i).dK - (nth b.aM i).cI) ≥ 3)=!AW (nth b.aM i) 3:=by
     rw [aE9 (by omega) (by omega) hr]
     unfold AW
     by_cases hx:(nth b.aM i).dK - (nth b.aM i).cI < 3
     ·simp [hx]
     ·simp [hx]; omega
    rw [hw]
    by_cases hx:AW (nth b.aM i) 3=true
    ·simp [hr,hx,b8]
    ·simp [hr,hx,b8,cV]
   ·simp [hr,cV]
theorem aAW{b:ao}(h:Small b):CY b=some (vW b):=by
 unfold CY vW
 rw [vH,Option.bind_some]
 cases cL (b.av.length:Int) 1 4 with
 | false=>rfl
 | true =>
  have hp:=h.places
  have hd:=h.PZ
  simp only [Bool.not_true,b8,Bool.true_eq_false,if_false]
  refine vK (uf b) b.av.length (λ i hi=>?_) (by simp only [ja,b8]) rfl
  simp only [dec_lt hi,cV,fJ,df hi,Option.bind_some,W5 (show b.aM.length≤1000 by omega),vH,fY (i:=i) (by omega)]
  unfold uf sO
  cases cL (nth b.av i).Place 0 ((b.aM.length:Int) - 1) with
  | false=>rfl
  | true=>cases cL (nth b.av i).jf 0 200 <;> cases cL (nth b.av i).gR 1 60 <;> cases cL (nth b.av i).ax 1 3 <;> rfl
theorem aAY{b:ao}(h:Small b):C0 b=some (AS b):=by
 unfold C0 AS
 have e:decide ((b.ba.length:Int) > 3)=decide (3 < b.ba.length):=zC (m:=3)
 rw [e]
 by_cases h3:3 < b.ba.length
 ·simp [h3]
 have hp:=h.places
 simp only [h3,decide_false,b8,if_false]
 refine vK (yK b) b.ba.length (λ i hi=>?_) (by simp only [ja,b8]) rfl
 simp only [dec_lt hi,cV,fJ,df hi,Option.bind_some,W5 (show b.aM.length≤1000 by omega),vH,fY (i:=i) (by omega)]
 unfold yK sO
 cases cL (nth b.ba i).Place 0 ((b.aM.length:Int) - 1) with
 | false=>rfl
 | true=>cases cL (nth b.ba i).lU 0 30 <;> rfl
theorem aer{z:Int}{a c:Option Int}:aa (z != 0) a c=if z≠0 then a else c:=by
 by_cases h:z=0
 ·subst h; rfl
 ·rw [if_pos h,D3 h]; rfl
theorem agR{b:ao}(h:Small b):qJ b=some (lR b):=by
 unfold qJ lR
 rw [show (⟨b.Rest,b.Rows,b.aM,b.ax,b.av,b.ba⟩:ao)=b from rfl]
 unfold FW
 rw [vH,Option.bind_some]
 cases cL b.Rest 0 60 with
 | false=>rfl
 | true =>
  simp only [Bool.not_true,b8,Option.bind_some,aAQ h,aAS h,aAU h,aAW h,aAY h,aer,Bool.true_eq_false,if_false]
  by_cases h1:s6 b=0
  ·by_cases h2:rQ b=0
   ·by_cases h3:sT b=0
    ·by_cases h4:vW b=0
     ·by_cases h5:AS b=0
      ·simp [h1,h2,h3,h4,h5]
      ·simp [h1,h2,h3,h4,h5]
     ·simp [h1,h2,h3,h4]
    ·simp [h1,h2,h3]
   ·simp [h1,h2]
  ·simp [h1]
theorem ad5{b:ao}{n:Int}(h:Small b):FG b n=some (sO b n):=by
 unfold FG sO
 have hp:=h.places
 rw [qS,oq (by omega) (by omega)]
 rfl
theorem ajn{b:ao}(h:Small b):C6 b=some (lR b):=by
 unfold C6 lR
 rw [az9 h,Option.bind_some]
 cases cL b.Rest 0 60 with
 | false=>rfl
 | true =>
  have hp:=h.places
  have hd:=h.PZ
  have hs:=h.aim
  simp only [Bool.true_eq_false,if_false,aAb h,Option.bind_some,aer]
  by_cases h1:s6 b=0
  ·by_cases h2:rQ b=0
   ·by_cases h3:sT b=0
    ·simp only [h1,h2,h3,ne_eq,not_true_eq_false,if_false]
     unfold vW
     rw [qS,Option.bind_some]
     cases cL (b.av.length:Int) 1 4 with
     | false=>rfl
     | true =>
      simp only [Bool.not_true,b8,Bool.true_eq_false,if_false]
      rw [XK (uf b) b.av.length (λ i hi=>?_) (by simp only [ja,b8])]
      ·cases hf:eI (uf b) 0 b.av.length with
       | some o =>
        simp only [Option.bind_some,Sum.elim_inr,Option.getD_some]
        rw [if_pos]
        rintro rfl
        obtain ⟨j,_,_,he,_⟩:=zv hf
        unfold uf at he
        split at he
        ·cases he
        ·split at he <;> cases he
       | none =>
        simp only [Option.bind_some,Sum.elim_inl,Option.getD_none,not_true_eq_false,if_false]
        unfold AS
        have e:decide ((b.ba.length:Int) > 3)=decide (3 < b.ba.length):=zC (m:=3)
        rw [e]
        by_cases h3:3 < b.ba.length
        ·simp [h3]
        simp only [h3,decide_false,b8,if_false]
        refine vK (yK b) b.ba.length (λ i hi=>?_) (by simp only [ja,b8]) rfl
        simp only [dec_lt hi,cV,fJ,df hi,Option.bind_some,ad5 h,qS,fY (i:=i) (by omega)]
        unfold yK
        cases sO b (nth b.ba i).Place with
        | false=>rfl
        | true=>cases cL (nth b.ba i).lU 0 30 <;> rfl
      ·simp only [dec_lt hi,cV,fJ,df hi,Option.bind_some,ad5 h,qS,fY (i:=i) (by omega)]
       unfold uf
       cases sO b (nth b.av i).Place with
       | false=>rfl
       | true=>cases cL (nth b.av i).jf 0 200 <;> cases cL (nth b.av i).gR 1 60 <;> cases cL (nth b.av i).ax 1 3 <;> rfl
    ·simp [h1,h2,h3]
   ·simp [h1,h2]
  ·simp [h1]
theorem aBe(b:ao):uX b=some (!Bp b && (lR b == 0)):=by
 unfold uX
 rw [ajH,Option.bind_some]
 cases hg:Bp b with
 | true=>rfl
 | false=>rw [Bool.not_false,cV,ajn (ZT hg)]; rfl
end Go.Proofs.YtihapemckcdicaaGreatDoor
namespace Go.Proofs.YtihapemckcdicaaGreatDoor
open Go.Lg Go.Proofs
set_option maxRecDepth 10000
structure alb (r:dJ):Prop where
 depth:1≤r.dh∧r.dh≤30
 stay:1≤r.eE∧r.eE≤60
structure aak (P:Nat) (d:iy):Prop where
 place:0≤d.Place∧d.Place < (P:Int)
 Sl:0≤d.jf∧d.jf≤200
 Hv:1≤d.gR∧d.gR≤60
 rL:1≤d.ax∧d.ax≤3
structure alj (P:Nat) (s:dO):Prop where
 place:0≤s.Place∧s.Place < (P:Int)
 line:0≤s.lU∧s.lU≤30
structure Valid (b:ao):Prop where
 rest:0≤b.Rest∧b.Rest≤60
 r1:1≤b.Rows.length
 r4:b.Rows.length≤4
 row:∀ r∈b.Rows,alb r
 abO:∀ i,0 < i→i < b.Rows.length→(nth b.Rows (i - 1)).dh < (nth b.Rows i).dh∧(nth b.Rows i).eE≤(nth b.Rows (i - 1)).eE
 p1:1≤b.aM.length
 p3:b.aM.length≤3
 place:∀ x∈b.aM,1≤x.cI∧x.cI≤x.dK∧x.dK≤30∧x.dK - x.cI < 3
 m1:1≤b.ax.length
 m4:b.ax.length≤4
 Y0:∀ m∈b.ax,pY m.Name=true∧1≤m.mg∧m.mg≤30
 names:∀ i,i < b.ax.length→(b.ax.take i).any (xl (nth b.ax i))=false
 d1:1≤b.av.length
 d4:b.av.length≤4
 YU:∀ d∈b.av,aak b.aM.length d
 s3:b.ba.length≤3
 sound:∀ s∈b.ba,alj b.aM.length s
theorem aDe{b:ao}(i:Nat):yH b i≠some 0:=by
 unfold yH
 intro h
 repeat' split at h
 all_goals cases h
theorem aBo{b:ao}(i:Nat):wX b i≠some 0:=by
 unfold wX
 intro h
 repeat' split at h
 all_goals cases h
theorem amQ{b:ao}(i:Nat):uf b i≠some 0:=by
 unfold uf
 intro h
 repeat' split at h
 all_goals cases h
theorem aDB{b:ao}(i:Nat):yK b i≠some 0:=by
 unfold yK
 intro h
 repeat' split at h
 all_goals cases h
theorem XJ{b:ao}{i:Nat}:yH b i=none↔((1≤(nth b.Rows i).dh∧(nth b.Rows i).dh≤30)∧(1≤(nth b.Rows i).eE∧(nth b.Rows i).eE≤60))∧(0 < i→(nth b.Rows (i - 1)).dh < (nth b.Rows i).dh∧(nth b.Rows i).eE≤(nth b.Rows (i - 1)).eE):=by
 unfold yH
 by_cases h1:(cL (nth b.Rows i).dh 1 30 && cL (nth b.Rows i).eE 1 60)=false
 ·rw [if_pos h1]
  simp only [reduceCtorEq,false_iff]
  rintro ⟨⟨h2,h3⟩,_⟩
  rw [jN.2 h2,jN.2 h3] at h1
  cases h1
 ·rw [if_neg h1]
  simp only [Bool.not_eq_false,Bool.and_eq_true,jN] at h1
  by_cases h0:0 < i
  ·rw [if_pos h0]
   constructor
   ·intro h
    split at h
    ·cases h
    ·split at h
     ·cases h
     ·exact ⟨h1,λ _=>by omega⟩
   ·rintro ⟨_,h2⟩
    have:=h2 h0
    rw [if_neg (by omega),if_neg (by omega)]
  ·rw [if_neg h0]
   exact ⟨λ _=>⟨h1,λ h=>absurd h h0⟩,λ _=>rfl⟩
theorem aey{x:Reach}:u7 x=true↔1≤x.cI∧x.cI≤x.dK∧x.dK≤30∧x.dK - x.cI < 3:=by
 unfold u7
 rw [Bool.and_eq_true,aCI,aFa]
 omega
theorem D5{b:ao}:lR b=0↔Valid b:=by
 constructor
 ·intro h
  unfold lR at h
  by_cases h1:cL b.Rest 0 60=false
  ·rw [if_pos h1] at h; cases h
  rw [if_neg h1] at h
  by_cases h2:s6 b=0
  case neg=>rw [if_pos h2] at h; exact absurd h h2
  rw [if_neg (by simpa using h2)] at h
  by_cases h3:rQ b=0
  case neg=>rw [if_pos h3] at h; exact absurd h h3
  rw [if_neg (by simpa using h3)] at h
  by_cases h4:sT b=0
  case neg=>rw [if_pos h4] at h; exact absurd h h4
  rw [if_neg (by simpa using h4)] at h
  by_cases h5:vW b=0
  case neg=>rw [if_pos h5] at h; exact absurd h h5
  rw [if_neg (by simpa using h5)] at h
  unfold s6 at h2
  unfold rQ at h3
  unfold sT at h4
  unfold vW at h5
  unfold AS at h
  split at h2
  ·cases h2
  rename_i g2
  split at h3
  ·cases h3
  rename_i g3
  split at h3
  ·cases h3
  rename_i k3
  split at h4
  ·cases h4
  rename_i g4
  split at h5
  ·cases h5
  rename_i g5
  split at h
  ·cases h
  rename_i g6
  simp only [Bool.not_eq_false,jN] at h1 g2 g3 g4 g5
  have r:=Ng aDe h2
  have m:=Ng aBo h4
  have d:=Ng amQ h5
  have s:=Ng aDB h
  refine ⟨h1,by omega,by omega,λ x hx=>?_,λ i h0 hi=>(XJ.1 (r i hi)).2 h0,by omega,by omega,λ x hx=>?_,by omega,by omega,λ x hx=>?_,λ i hi=>?_,by omega,by omega,λ x hx=>?_,by omega,λ x hx=>?_⟩
  ·obtain ⟨i,hi,rfl⟩:=ss hx
   obtain ⟨⟨q1,q2⟩,_⟩:=XJ.1 (r i hi)
   exact ⟨q1,q2⟩
  ·have:b.aM.any (λ x=>!u7 x)=false:=by simpa using k3
   rw [List.any_eq_false] at this
   have:=this x hx
   exact aey.1 (by simpa using this)
  ·obtain ⟨i,hi,rfl⟩:=ss hx
   have:=m i hi
   unfold wX at this
   split at this
   ·cases this
   ·split at this
    ·cases this
    ·split at this
     ·cases this
     ·rename_i q1 q2 q3
      rw [Bool.not_eq_false,jN] at q3
      exact ⟨by simpa using q1,q3⟩
  ·have:=m i hi
   unfold wX at this
   split at this
   ·cases this
   ·split at this
    ·cases this
    ·rename_i q1 q2
     simpa using q2
  ·obtain ⟨i,hi,rfl⟩:=ss hx
   have:=d i hi
   unfold uf sO at this
   split at this
   ·cases this
   ·split at this
    ·cases this
    ·rename_i q1 q2
     rw [Bool.not_eq_false,jN] at q1
     rw [Bool.not_eq_false,Bool.and_eq_true,Bool.and_eq_true,jN,jN,jN] at q2
     exact ⟨by omega,q2.1,q2.2.1,q2.2.2⟩
  ·obtain ⟨i,hi,rfl⟩:=ss hx
   have:=s i hi
   unfold yK sO at this
   split at this
   ·cases this
   ·split at this
    ·cases this
    ·rename_i q1 q2
     rw [Bool.not_eq_false,jN] at q1 q2
     exact ⟨by omega,q2⟩
 ·intro h
  have e1:s6 b=0:=by
   unfold s6
   have hr1:=h.r1
   have hr4:=h.r4
   rw [if_neg (by rw [Bool.not_eq_false,jN]; omega),se.2 λ i _ hi=>?_]
   ·rfl
   ·have hx:=h.row _ (ko (l:=b.Rows) (i:=i) (by omega))
    exact XJ.2 ⟨⟨hx.depth,hx.stay⟩,λ h0=>h.abO i h0 (by omega)⟩
  have e2:rQ b=0:=by
   unfold rQ
   have h1:=h.p1
   have h3:=h.p3
   rw [if_neg (by rw [Bool.not_eq_false,jN]; omega),if_neg]
   rw [Bool.not_eq_true,List.any_eq_false]
   intro x hx
   simpa using aey.2 (h.place x hx)
  have e3:sT b=0:=by
   unfold sT
   have h1:=h.m1
   have h4:=h.m4
   rw [if_neg (by rw [Bool.not_eq_false,jN]; omega),se.2 λ i _ hi=>?_]
   ·rfl
   ·have hx:=h.Y0 _ (ko (l:=b.ax) (i:=i) (by omega))
    unfold wX
    rw [if_neg (by simp [hx.1]),if_neg (by rw [h.names i (by omega)]; simp),if_neg (by rw [Bool.not_eq_false,jN]; exact hx.2)]
  have e4:vW b=0:=by
   unfold vW
   have h1:=h.d1
   have h4:=h.d4
   rw [if_neg (by rw [Bool.not_eq_false,jN]; omega),se.2 λ i _ hi=>?_]
   ·rfl
   ·have hx:=h.YU _ (ko (l:=b.av) (i:=i) (by omega))
    have hp:=hx.place
    unfold uf sO
    rw [if_neg (by rw [Bool.not_eq_false,jN]; omega),if_neg]
    rw [Bool.not_eq_false,Bool.and_eq_true,Bool.and_eq_true,jN,jN,jN]
    exact ⟨hx.Sl,hx.Hv,hx.rL⟩
  have e5:AS b=0:=by
   unfold AS
   have h3:=h.s3
   rw [if_neg (by omega),se.2 λ i _ hi=>?_]
   ·rfl
   ·have hx:=h.sound _ (ko (l:=b.ba) (i:=i) (by omega))
    have hp:=hx.place
    unfold yK sO
    rw [if_neg (by rw [Bool.not_eq_false,jN]; omega),if_neg (by rw [Bool.not_eq_false,jN]; exact hx.line)]
  unfold lR
  rw [if_neg (by rw [Bool.not_eq_false,jN]; exact h.rest)]
  simp [e1,e2,e3,e4,e5]
theorem Valid.small{b:ao}(h:Valid b)(hn:∀ p∈b.ax,p.Name.size≤100):Small b:=by
 have h1:=h.r4
 have h2:=h.p3
 have h3:=h.m4
 have h4:=h.d4
 have h5:=h.s3
 exact ⟨by omega,by omega,by omega,by omega,by omega,hn⟩
theorem ayN{s:ByteArray}(h:pY s=true):s.size≤12:=by
 unfold pY at h
 cases hf:eI (ov s) 0 s.size with
 | some o =>
  rw [hf,Option.getD_some] at h
  rw [adH hf] at h
  cases h
 | none =>
  rw [hf,Option.getD_none,jN] at h
  omega
theorem Valid.sm{b:ao}(h:Valid b):Small b:=h.small λ p hp=>by have:=ayN (h.Y0 p hp).1; omega
theorem Valid.each{b:ao}(h:Valid b){i:Nat}(hi:i < b.aM.length):1≤(nth b.aM i).cI∧(nth b.aM i).cI≤(nth b.aM i).dK∧(nth b.aM i).dK≤30∧(nth b.aM i).dK - (nth b.aM i).cI < 3:=h.place _ (ko hi)
theorem ahX{α:Type}[Inhabited α]{l:List α}{n:Int}(h0:0≤n)(h:n < (l.length:Int)):idx l n=some (nth l n.toNat):=by
 unfold idx
 rw [if_pos h0]
 exact df (by omega)
def Br(b:ao)(w:List Int):Bool:=b.ba.all λ s=>decide (nth w s.Place.toNat≤s.lU) == s.sx
abbrev BY(b:ao):Nat→List Int→List Int:=λ i _=>Gm (nth b.aM i)
def gA(b:ao):List (List Int):=(lvl (BY b) b.aM.length).filter (Br b)
theorem ah3{b:ao}{c:List Int}:c∈gA b↔(c.length=b.aM.length∧∀ i,i < b.aM.length→(nth b.aM i).cI≤nth c i∧nth c i≤(nth b.aM i).dK)∧Br b c=true:=by
 unfold gA
 rw [List.mem_filter,KN]
 simp only [BY,aBu]
def oK(c:List Int):br:=⟨EW [0,0,0] c⟩
theorem abS{c:List Int}(h:c.length≤3):(EW [0,0,0] c).length=3∧(∀ i,i < c.length→nth (EW [0,0,0] c) i=nth c i)∧∀ i,c.length≤i→i < 3→nth (EW [0,0,0] c) i=0:=by
 match c,h with
 | [],_=>exact ⟨rfl,λ i hi=>by simp at hi,λ i _ hi=>by match i,hi with | 0,_=>rfl | 1,_=>rfl | 2,_=>rfl⟩
 | [_],_=>exact ⟨rfl,λ i hi=>by match i,hi with | 0,_=>rfl,λ i h1 hi=>by match i,h1,hi with | 1,_,_=>rfl | 2,_,_=>rfl⟩
 | [_,_],_=>exact ⟨rfl,λ i hi=>by match i,hi with | 0,_=>rfl | 1,_=>rfl,λ i h1 hi=>by match i,h1,hi with | 2,_,_=>rfl⟩
 | [_,_,_],_=>exact ⟨rfl,λ i hi=>by match i,hi with | 0,_=>rfl | 1,_=>rfl | 2,_=>rfl,λ i h1 hi=>by simp at h1; omega⟩
structure q9 (P:Nat) (pre w:List Int):Prop where
 len:w.length=3
 pre:∀ i,i < pre.length→nth w i=nth pre i
 rest:∀ i,P≤i→i < 3→nth w i=0
theorem q9.oK{P:Nat}{pre w:List Int}(h:q9 P pre w)(hp:pre.length=P)(h3:P≤3):w=EW [0,0,0] pre:=by
 obtain ⟨h1,h2,h4⟩:=abS (c:=pre) (by omega)
 refine ZH (by rw [h.len,h1]) λ i hi=>?_
 by_cases hl:i < pre.length
 ·rw [h.pre i hl,h2 i hl]
 ·rw [h.rest i (by omega) (by rw [← h.len]; exact hi),h4 i (by omega) (by rw [← h.len]; exact hi)]
theorem q9.set{P:Nat}{pre w:List Int}(h:q9 P pre w)(hp:pre.length < P)(h3:P≤3)(n:Int):q9 P (pre++[n]) (w.set pre.length n):=by
 have hl:=h.len
 refine ⟨by simpa using hl,λ i hi=>?_,λ i h1 h2=>?_⟩
 ·by_cases e:i=pre.length
  ·subst e
   rw [aBE (by omega),zn]
  ·rw [aev (by omega)]
   simp only [List.length_append,List.length_cons,List.length_nil] at hi
   rw [zc (by omega)]
   exact h.pre i (by omega)
 ·rw [aev (by omega)]
  exact h.rest i h1 h2
theorem q9.back{P:Nat}{pre w:List Int}{n:Int}(h:q9 P (pre++[n]) w):q9 P pre w:=⟨h.len,λ i hi=>by rw [h.pre i (by simp; omega),zc hi],h.rest⟩
theorem aAn{b:ao}(hv:Valid b){c:List Int}{w:br}(hw:∀ i,i < b.aM.length→nth w.deep i=nth c i)(hl:w.deep.length=3):AD b w=some (Br b c):=by
 unfold AD
 have h3:=hv.s3
 have hp:=hv.p3
 rw [aAC (p:=λ s=>!(decide (nth c s.Place.toNat≤s.lU) == s.sx)) (by omega) (λ s hs=>?_),Option.bind_some]
 ·unfold Br
  congr 1
  rw [List.not_any_eq_all_not]
  congr 1
  funext s
  simp
 ·have:=(hv.sound s hs).place
  unfold CQ
  rw [ahX this.1 (by omega),Option.bind_some,hw _ (by omega)]
theorem YK{α S X O:Type}{ys:α→S→Option (S × Bool)}{body:S × X→Option ((S × X) ⊕ O)}(XL:Nat→List α)(n:Nat)(I:Nat→X→Prop)(F Q:S→O→Prop)
  (h:∀ j s x r,j < n→I j x→kQ ys (XL j) s=some r→if r.2=true then ∃ x',body (s,x)=some (.inl (r.1,x'))∧I (j+1) x' else ∃ o,body (s,x)=some (.inr o)∧Q r.1 o) (hn:∀ s x,I n x→∃ o,body (s,x)=some (.inr o)∧F s o) :
  ∀ (k j:Nat) (s:S) (x:X) (r:S × Bool),j+k=n→I j x→kQ ys ((List.range' j k).flatMap XL) s=some r→∃ o,bC body (s,x)=some o∧if r.2=true then F r.1 o else Q r.1 o
 | 0,j,s,x,r,hj,hI,hr=>by
  simp only [List.range'_zero,List.flatMap_nil,kQ,Option.some.injEq] at hr
  subst hr
  obtain rfl:j=n:=by omega
  obtain ⟨o,h1,h2⟩:=hn s x hI
  exact ⟨o,za h1,by simpa using h2⟩
 | k+1,j,s,x,r,hj,hI,hr=>by
  rw [List.range'_succ,List.flatMap_cons,acQ] at hr
  obtain ⟨q,hq,hr⟩:=aj hr
  have hb:=h j s x q (by omega) hI hq
  split at hr
  ·rename_i h2
   rw [if_pos h2] at hb
   obtain ⟨x',h3,h4⟩:=hb
   rw [Hq h3]
   exact YK XL n I F Q h hn k (j+1) q.1 x' r (by omega) h4 hr
  ·rename_i h2
   rw [if_neg h2] at hb
   obtain ⟨o,h3,h4⟩:=hb
   cases hr
   exact ⟨o,za h3,by simpa using h4⟩
theorem aec{b:ao}(hv:Valid b){S:Type}(ys:br→S→Option (S × Bool)):∀ (j k:Nat) (pre:List Int) (w:br) (s:S) (r:S × Bool),pre.length+j=b.aM.length→j < k→q9 b.aM.length pre w.deep →
  kQ ys (((tree (BY b) j pre.length pre).filter (Br b)).map oK) s=some r→∃ w',rJ ys k (pre.length:Int) b w s=some (r.1,(w',r.2))∧q9 b.aM.length pre w'.deep
 | _,0,_,_,_,_,_,hk,_,_=>by omega
 | 0,k+1,pre,w,s,r,hl,_,hw,hr=>by
  rw [Nat.add_zero] at hl
  have h3:=hv.p3
  unfold rJ
  rw [show ((pre.length:Int) == (b.aM.length:Int))=true by rw [hl]; simp,cV,aAn (c:=pre) hv (λ i hi=>hw.pre i (by omega)) hw.len,Option.bind_some]
  simp only [tree] at hr
  have ew:w=oK pre:=by
   obtain ⟨d⟩:=w
   exact congrArg br.mk (hw.oK hl h3)
  refine ⟨w,?_,hw⟩
  cases hs:Br b pre with
  | true =>
   simp only [List.filter_cons,hs,if_true,List.filter_nil,List.map_cons,List.map_nil,kQ] at hr
   obtain ⟨q,hq,hr⟩:=aj hr
   rw [← ew] at hq
   simp only [Bool.not_true,b8,hq,Option.bind_some]
   split at hr
   ·rename_i h2; cases hr; rw [h2]
   ·rename_i h2; cases hr; simp at h2; rw [h2]
  | false =>
   simp [hs,kQ] at hr
   subst hr
   rfl
 | j+1,k+1,pre,w,s,r,hl,hk,hw,hr=>by
  have h3:=hv.p3
  have hx:=hv.each (i:=pre.length) (by omega)
  unfold rJ
  rw [show ((pre.length:Int) == (b.aM.length:Int))=false by simp; omega,b8,fJ,df (by omega),Option.bind_some]
  generalize hX:nth b.aM pre.length=X at hx
  refine Exists.elim (YK (ys:=ys) (S:=S) (X:=Int × List Int) (O:=(S × List Int) ⊕ (S × (br × Bool))) (body:=λ (bF:(S × Int × (List Int))) =>
   (some X:Option Reach).bind λ fh =>
   aa (decide (bF.2.1≤fh.dK))
   ((idx bF.2.2 (pre.length:Int)).bind λ pq =>
   (rJ ys k (i64 ((pre.length:Int)+1)) b (⟨bF.2.2.set (pre.length:Int).toNat bF.2.1⟩:br) bF.1).bind λ iL =>
   aa (!iL.2.2)
   (some (.inr (.inr (iL.1,(iL.2.1,false)))))
   (some (.inl (iL.1,i64 (bF.2.1+1),iL.2.1.deep))))
   (some (.inr (.inl (bF.1,bF.2.2)))))
   (λ q=>((tree (BY b) j (pre.length+1) (pre++[X.cI+(q:Int)])).filter (Br b)).map oK) (X.dK+1 - X.cI).toNat (λ q x=>x.1=X.cI+(q:Int)∧q9 b.aM.length pre x.2)
   (λ s o=>∃ d,o = .inl (s,d)∧q9 b.aM.length pre d) (λ s o=>∃ w',o = .inr (s,(w',false))∧q9 b.aM.length pre w'.deep)
   (λ q s x r hq hI hr=>?_) (λ s x hI=>?_) (X.dK+1 - X.cI).toNat 0 s (X.cI,w.deep) r (by omega) ⟨by simp,hw⟩ ?_) ?_
  ·obtain ⟨n,d⟩:=x
   obtain ⟨rfl,hd⟩:=hI
   have hs:=hd.set (n:=X.cI+(q:Int)) (by omega) h3
   obtain ⟨w',h1,h2⟩:=aec hv ys j k (pre++[X.cI+(q:Int)]) ⟨d.set pre.length (X.cI+(q:Int))⟩ s r (by simp; omega) (by omega) hs (by simpa using hr)
   have hl3:d.length=3:=hd.len
   simp only [List.length_append,List.length_cons,List.length_nil,Nat.zero_add] at h1
   simp only [Option.bind_some,show decide (X.cI+(q:Int)≤X.dK)=true by simp; omega,cV,fJ,df (show pre.length < d.length by omega),Int.toNat_natCast,fY (i:=pre.length) (by omega),h1]
   have e1:i64 (X.cI+(q:Int)+1)=X.cI+((q+1:Nat):Int):=by rw [oq (by omega) (by omega)]; omega
   cases hr2:r.2 with
   | true=>exact ⟨(X.cI+((q+1:Nat):Int),w'.deep),by simp [e1,b8],rfl,h2.back⟩
   | false=>exact ⟨.inr (r.1,(w',false)),by simp [cV],w',rfl,h2.back⟩
  ·obtain ⟨n,d⟩:=x
   obtain ⟨rfl,hd⟩:=hI
   refine ⟨.inl (s,d),?_,d,rfl,hd⟩
   simp only [Option.bind_some,show decide (X.cI+(((X.dK+1 - X.cI).toNat:Nat):Int)≤X.dK)=false by simp; omega,b8]
  ·rw [← hr,← List.range_eq_range']
   congr 1
   simp only [tree,BY,hX,Gm,List.flatMap_map,List.map_flatMap,List.filter_flatMap]
  ·rintro o ⟨ho,hc⟩
   rw [show (bC (O:=((S × (List Int)) ⊕ (S × (br × Bool)))) (λ (bF:(S × Int × (List Int))) =>
    (some X:Option Reach).bind λ fh =>
    aa (decide (bF.2.1≤fh.dK))
    ((idx bF.2.2 (pre.length:Int)).bind λ pq =>
    (rJ ys k (i64 ((pre.length:Int)+1)) b (⟨bF.2.2.set (pre.length:Int).toNat bF.2.1⟩:br) bF.1).bind λ iL =>
    aa (!iL.2.2)
    (some (.inr (.inr (iL.1,(iL.2.1,false)))))
    (some (.inl (iL.1,i64 (bF.2.1+1),iL.2.1.deep))))
    (some (.inr (.inl (bF.1,bF.2.2))))) (s,X.cI,w.deep))=some o from ho,Option.bind_some]
   split at hc
   ·rename_i h2
    obtain ⟨d,rfl,hd⟩:=hc
    exact ⟨⟨d⟩,by simp [h2],hd⟩
   ·rename_i h2
    obtain ⟨w',rfl,hd⟩:=hc
    exact ⟨w',by simp at h2; simp [h2],hd⟩
theorem aBj{b:ao}(hv:Valid b){S:Type}(ys:br→S→Option (S × Bool)){s:S}{r:S × Bool}(hr:kQ ys ((gA b).map oK) s=some r):p5 ys b s=some r.1:=by
 have h3:=hv.p3
 unfold p5
 obtain ⟨w',h1,_⟩:=aec hv ys b.aM.length 9 [] ⟨[0,0,0]⟩ s r (by simp) (by omega) ⟨rfl,λ i hi=>by simp at hi,λ i _ hi=>by match i,hi with | 0,_=>rfl | 1,_=>rfl | 2,_=>rfl⟩ (by rw [← hr]; unfold gA; simp only [List.length_nil]; rw [Y2])
 have y9:rJ ys 9 0 b ⟨[0,0,0]⟩ s=some (r.1,(w',r.2)):=h1
 rw [y9]
 rfl
end Go.Proofs.YtihapemckcdicaaGreatDoor
namespace Go.Proofs.YtihapemckcdicaaGreatDoor
open Go.Lg Go.Proofs
set_option maxRecDepth 10000
theorem ad2{b:ao}(hv:Valid b):∀ i,i≤b.aM.length→(lvl (BY b) i).length≤3 ^ i
 | 0,_=>by simp [lvl]
 | i+1,h=>by
  have ih:=ad2 hv i (by omega)
  have hx:=aDd (hv.each (i:=i) (by omega)).2.2.2
  simp only [lvl]
  refine Nat.le_trans (YH _ 3 (λ a=>?_) _) ?_
  ·simpa using hx
  ·rw [Nat.pow_succ]; omega
theorem alS{b:ao}(hv:Valid b):(lvl (BY b) b.aM.length).length≤27:=by
 refine Nat.le_trans (ad2 hv _ (Nat.le_refl _)) ?_
 have h1:=hv.p1
 have h3:=hv.p3
 match b.aM.length,h1,h3 with
 | 1,_,_=>decide
 | 2,_,_=>decide
 | 3,_,_=>decide
theorem abN{b:ao}(hv:Valid b):(gA b).length≤27:=Nat.le_trans (List.length_filter_le _ _) (alS hv)
theorem ah2{b:ao}(hv:Valid b):yu (λ y s=>p5 y b s)=some ((gA b).map oK):=by
 unfold yu FM
 have hl:=abN hv
 have key:∀ (l a:List br),l.foldl (λ s c=>s++[c]) a=a++l:=by
  intro l
  induction l with
  | nil=>simp
  | cons c l ih=>intro a; rw [List.foldl_cons,ih]; simp
 dsimp only
 rw [aBj hv _ (r:=(.inl ((((gA b).map oK).foldl (λ (s:List br) c=>s++[c]) [])),true)) (QN (λ k s=>s.length=k) (λ c s=>s++[c]) _ 0 [] rfl (λ j s a hj hs _=>by
  simp only [List.length_map] at hj
  rw [Ho (by simp; omega)]
  exact ⟨rfl,by simp [hs]⟩))]
 rw [key]
 rfl
def aTg(b:ao):Int × Int:=if lR b≠0 then (0,lR b) else ((gA b).length,0)
theorem aVs{b:ao}(hv:Valid b):aTg b=(((gA b).length:Int),0):=by
 unfold aTg
 simp [D5.2 hv]
theorem aVK{b:ao}(hs:Small b):zx b=some (aTg b):=by
 unfold zx aTg
 rw [agR hs,Option.bind_some]
 by_cases h1:lR b=0
 ·have hv:=D5.1 h1
  simp only [h1,bne_self_eq_false,b8,ne_eq,not_true_eq_false,if_false]
  rw [show (⟨b.Rest,b.Rows,b.aM,b.ax,b.av,b.ba⟩:ao)=b from rfl,ah2 hv,Option.bind_some,List.length_map]
 ·simp only [h1,ne_eq,not_false_eq_true,if_true,D3 h1,cV]
def ajr:bW:=⟨⟨0,[],[],[],[],[]⟩,[]⟩
def jQ(b:ao):bW:=⟨b,(gA b).map oK⟩
def nz(b:ao)(own:Int):Int:=if lR b≠0 then lR b else if own≠0 then own else if gA b=[] then 9 else 0
theorem ZS{b:ao}{own:Int}(h:nz b own=0):Valid b∧own=0∧gA b≠[]:=by
 unfold nz at h
 split at h
 ·rename_i h1; exact absurd h h1
 ·rename_i h1
  split at h
  ·rename_i h2; exact absurd h h2
  ·rename_i h2
   split at h
   ·cases h
   ·rename_i h3; exact ⟨D5.1 (by simpa using h1),by simpa using h2,h3⟩
def GX(b:ao)(own:Int):bW × Int:=if nz b own≠0 then (ajr,nz b own) else (jQ b,0)
theorem Zg{b:ao}(hs:Small b){f:ao→Option Int}{own:Int}(hf:lR b=0→f b=some own):p6 b f=some (GX b own):=by
 unfold p6 GX nz
 rw [agR hs,Option.bind_some]
 by_cases h1:lR b=0
 ·have hv:=D5.1 h1
  simp only [h1,bne_self_eq_false,b8,ne_eq,not_true_eq_false,if_false,hf h1,Option.bind_some]
  by_cases h2:own=0
  ·simp only [h2,bne_self_eq_false,b8,not_true_eq_false,if_false,ah2 hv,Option.bind_some,List.length_map]
   cases hc:gA b with
   | nil=>rfl
   | cons c l =>
    rw [if_neg (by simp),show ((((c::l).length:Nat):Int) == 0)=false by simp; omega,b8]
    unfold jQ
    rw [hc]
  ·simp only [h2,not_false_eq_true,if_true,D3 h2,cV]
   rfl
 ·simp only [h1,ne_eq,not_false_eq_true,if_true,D3 h1,cV]
  rfl
end Go.Proofs.YtihapemckcdicaaGreatDoor
namespace Go.Proofs.YtihapemckcdicaaGreatDoor
open Go.Lg Go.Proofs
set_option maxRecDepth 10000
def xj(b:ao)(n:Int):Int:=match b.Rows.find? (λ r=>decide (n≤r.dh)) with | some r=>r.eE | none=>0
theorem ajk{b:ao}(hs:b.Rows.length≤20)(n:Int):wU b n=some (xj b n):=by
 unfold wU xj
 rw [adZ (l:=b.Rows) (λ r=>decide (n≤r.dh)) (λ r=>r.eE) (λ i hi=>?_) (by simp only [ja,b8])]
 ·cases b.Rows.find? (λ r=>decide (n≤r.dh)) <;> rfl
 ·simp only [dec_lt hi,cV,fJ,df hi,Option.bind_some,fY (i:=i) (by omega)]
  cases decide (n≤(nth b.Rows i).dh) <;> rfl
def LF(b:ao)(i j:Nat):Bool:=decide ((nth b.av i).jf+(nth b.av i).gR+b.Rest≤(nth b.av j).jf)
def sB(b:ao)(i j:Nat):Bool:=LF b i j || LF b j i
theorem aSK(b:ao)(i j:Nat):sB b i j=sB b j i:=Bool.or_comm _ _
theorem Valid.dv{b:ao}(h:Valid b){i:Nat}(hi:i < b.av.length):aak b.aM.length (nth b.av i):=h.YU _ (ko hi)
theorem alT{b:ao}(hv:Valid b){i:Nat}(hi:i < b.av.length):sB b i i=false:=by
 have:=hv.dv hi
 have h2:=this.Hv
 have h3:=hv.rest
 simp [sB,LF]
 omega
theorem ajl{b:ao}(hv:Valid b){i j:Nat}(hi:i < b.av.length)(hj:j < b.av.length):AB b (i:Int) (j:Int)=some (sB b i j):=by
 have h1:=(hv.dv hi).Sl
 have h2:=(hv.dv hi).Hv
 have h3:=(hv.dv hj).Sl
 have h4:=(hv.dv hj).Hv
 have h5:=hv.rest
 unfold AB
 simp only [fJ,df hi,df hj,Option.bind_some]
 rw [oq (z:=(nth b.av i).jf+(nth b.av i).gR) (by omega) (by omega),oq (by omega) (by omega),oq (z:=(nth b.av j).jf+(nth b.av j).gR) (by omega) (by omega),oq (by omega) (by omega),azB]
 by_cases e:i=j
 ·subst e
  rw [alT hv hi]
  simp [b8]
 ·simp only [e,ne_eq,not_false_eq_true,decide_true,cV,sB,LF,ge_iff_le]
  cases decide ((nth b.av i).jf+(nth b.av i).gR+b.Rest≤(nth b.av j).jf) <;> rfl
def isD(b:ao)(n:Int):Bool:=cL n 0 ((b.av.length:Int) - 1)
def isM(b:ao)(n:Int):Bool:=cL n 0 ((b.ax.length:Int) - 1)
theorem aGt{b:ao}{n:Int}:isD b n=true↔∃ i:Nat,n=(i:Int)∧i < b.av.length:=by
 unfold isD
 rw [jN]
 constructor
 ·intro h; exact ⟨n.toNat,by omega,by omega⟩
 ·rintro ⟨i,rfl,h⟩; omega
theorem aOq{b:ao}{n:Int}:isM b n=true↔∃ i:Nat,n=(i:Int)∧i < b.ax.length:=by
 unfold isM
 rw [jN]
 constructor
 ·intro h; exact ⟨n.toNat,by omega,by omega⟩
 ·rintro ⟨i,rfl,h⟩; omega
end Go.Proofs.YtihapemckcdicaaGreatDoor
namespace Go.Proofs.YtihapemckcdicaaGreatDoor
open Go.Lg Go.Proofs
set_option maxRecDepth 10000
def qg(n a:Nat):Bool:=YQ a == some (cJ n a) && decide ((cJ n a).length≤4) &&
  ((List.range (cJ n a).length).all λ i=>match Y3 (cJ n a) i with | some l=>(List.range (2 ^ n)).any λ c=>l == cJ n c && pr l (cJ n a) | none=>false)
def okN(n a c:Nat):Bool:=c58 (cJ n a) (cJ n c) == some (pr (cJ n a) (cJ n c)) && (match QA (cJ n a) (cJ n c) with | some z=>decide (z < 0) == nu (cJ n a) (cJ n c) | none=>false)
set_option maxRecDepth 1000000 in
theorem Zh:((List.range 5).all λ n=>Hu .i64 1 n == some ((2 ^ n:Nat):Int) && (List.range (2 ^ n)).all λ a=>qg n a && (List.range (2 ^ n)).all λ c=>okN n a c)=true:=by decide +kernel
set_option maxRecDepth 1000000 in
theorem aGU{n:Nat}(h:n < 5):Hu .i64 1 (n:Int)=some ((2 ^ n:Nat):Int):=by
 have:=Zh
 simp only [List.all_eq_true,List.mem_range,Bool.and_eq_true,beq_iff_eq] at this
 exact (this n h).1
theorem aGc{n a:Nat}(h:n < 5)(ha:a < 2 ^ n):zf a=some (cJ n a):=by
 have:=Zh
 simp only [List.all_eq_true,List.mem_range,Bool.and_eq_true,beq_iff_eq] at this
 have h1:=((this n h).2 a ha).1
 simp only [qg,Bool.and_eq_true,beq_iff_eq] at h1
 exact agZ _ _ h1.1.1
theorem aHp{n a:Nat}(h:n < 5)(ha:a < 2 ^ n):(cJ n a).length≤4:=by
 have:=Zh
 simp only [List.all_eq_true,List.mem_range,Bool.and_eq_true,beq_iff_eq] at this
 have h1:=((this n h).2 a ha).1
 simp only [qg,Bool.and_eq_true,beq_iff_eq,decide_eq_true_eq] at h1
 exact h1.1.2
theorem aGe{n a c:Nat}(h:n < 5)(ha:a < 2 ^ n)(hc:c < 2 ^ n):A7 (cJ n a) (cJ n c)=some (pr (cJ n a) (cJ n c))∧∃ z,D2 (cJ n a) (cJ n c)=some z∧decide (z < 0)=nu (cJ n a) (cJ n c):=by
 have:=Zh
 simp only [List.all_eq_true,List.mem_range,Bool.and_eq_true,beq_iff_eq] at this
 have h1:=((this n h).2 a ha).2 c hc
 simp only [okN,Bool.and_eq_true,beq_iff_eq] at h1
 refine ⟨aF9 _ _ _ h1.1,?_⟩
 have h8:=h1.2
 cases hz:QA (cJ n a) (cJ n c) with
 | none=>rw [hz] at h8; cases h8
 | some z=>rw [hz] at h8; exact ⟨z,ag0 _ _ _ hz,by simpa using h8⟩
theorem aGV{n:Nat}{P:Nat→Bool}:∀ {k:Nat},(gS n P k).2=true→∃ c,c < k∧(gS n P k).1=cJ n c:=by
 intro k h
 rcases Qc n P k with ⟨h1,_⟩ | ⟨_,⟨a,ha,_,he⟩,_⟩
 ·rw [h1] at h; cases h
 ·exact ⟨a,ha,he⟩
theorem aGv{n:Nat}(hn:n < 5){f:Int→Option Bool}{P:Nat→Bool}(hf:∀ a:Nat,a < 2 ^ n→f (a:Int)=some (P a)):zp (n:Int) f=some (gS n P (2 ^ n)):=by
 have hp:=Z6 hn
 unfold zp
 rw [aGU hn,Option.bind_some]
 rw [xg (o:=gS n P (2 ^ n)) ?_]
 have e0:(([]:List Int),false,(0:Int))=(λ i:Nat=>((gS n P i).1,(gS n P i).2,(i:Int))) 0:=rfl
 rw [e0]
 refine CK (λ i:Nat=>((gS n P i).1,(gS n P i).2,(i:Int))) (2 ^ n) (λ i hi=>?_) (by simp only [ja,b8])
 simp only [dec_lt hi,cV,aGc hn hi,Option.bind_some,hf i hi,fY (i:=i) (by omega),gS,GY]
 cases hs:(gS n P i).2 with
 | false=>cases P i <;> simp [cV,b8,hs]
 | true =>
  obtain ⟨c,hc,ec⟩:=aGV hs
  obtain ⟨z,Zr,hz2⟩:=(aGe hn hi (by omega:c < 2 ^ n)).2
  simp only [ec,Bool.not_true,b8,Zr,Option.bind_some,hz2,Bool.false_or,pr]
  by_cases h1:(cJ n i).length < (cJ n c).length
  ·have y9:decide (((cJ n i).length:Int) < ((cJ n c).length:Int))=true:=dec_lt h1
   simp only [y9,cV,h1,decide_true,Bool.true_or,Bool.true_and,Option.bind_some]
   cases P i <;> simp [cV,b8,hs,ec]
  ·have y9:decide (((cJ n i).length:Int) < ((cJ n c).length:Int))=false:=by simpa using h1
   simp only [y9,b8,h1,decide_false,Bool.false_or]
   by_cases h2:(cJ n i).length=(cJ n c).length
   ·rw [h2]
    simp only [beq_self_eq_true,cV,Bool.true_and]
    cases nu (cJ n i) (cJ n c) with
    | true =>
     simp only [cV,Bool.true_and,Option.bind_some]
     cases P i <;> simp [cV,b8,hs,ec]
    | false=>simp [b8,hs,ec]
   ·have h2':(((cJ n i).length:Int) == ((cJ n c).length:Int))=false:=by simpa using (by omega:¬ ((cJ n i).length:Int)=((cJ n c).length:Int))
    have aGH:((cJ n i).length == (cJ n c).length)=false:=by simpa using h2
    simp [h2',aGH,b8,hs,ec]
theorem aGQ{n a:Nat}{k:Int}(h:k∈cJ n a):0≤k∧k < (n:Int):=(aen.1 h).1
end Go.Proofs.YtihapemckcdicaaGreatDoor
namespace Go.Proofs.YtihapemckcdicaaGreatDoor
open Go.Lg Go.Proofs
set_option maxRecDepth 10000
theorem ahY{b:ao}(hv:Valid b){f:br→Option Bool}{p:List Int→Bool}(hf:∀ c∈gA b,f (oK c)=some (p c)):uW (jQ b) f=some (((gA b).filter p).length:Int):=by
 have h27:=abN hv
 unfold uW jQ
 simp only [List.length_map]
 rw [xg (o:=(((gA b).filter p).length:Int)) (azH (l:=gA b) p (λ i n hi hn=>?_) (λ n=>by simp only [ja,b8]))]
 have e:((gA b).map oK)[i]? = some (oK (nth (gA b) i)):=by rw [List.getElem?_map,df hi]; rfl
 simp only [dec_lt hi,cV,fJ,e,Option.bind_some,hf _ (ko hi),fY (i:=i) (by omega),fY (i:=n) (by omega)]
 cases p (nth (gA b) i) <;> rfl
theorem aOA{b:ao}{n:Nat}:A4 (jQ b) (n:Int)=some (G2 n (gA b).length):=by
 unfold A4 jQ G2
 simp only [List.length_map,aFG]
 by_cases h:n=0
 ·simp [h,cV]
 ·have e:((n:Int) == ((gA b).length:Int))=decide (n=(gA b).length):=by rw [Bool.eq_iff_iff,beq_iff_eq,decide_eq_true_iff]; omega
  rw [e,if_neg h,show (n == 0)=false by simpa using h,b8]
  by_cases h2:n=(gA b).length
  ·rw [if_pos h2,decide_eq_true h2,cV]
  ·rw [if_neg h2,decide_eq_false h2,b8]
theorem aE4{b:ao}(hv:Valid b){c:List Int}(hc:c.length=b.aM.length){i:Nat}(hi:i < b.aM.length):idx (oK c).deep (i:Int)=some (nth c i):=by
 have h3:=hv.p3
 have h:=abS (c:=c) (by omega)
 rw [fJ,df (l:=(oK c).deep) (show i < (EW [0,0,0] c).length by omega)]
 exact congrArg some (h.2.1 i (by omega))
set_option maxRecDepth 1000000 in
theorem aHt{x:Int}{n:Nat}(h0:0≤x)(h:x < 256)(hn:0 < n):yD (i64 x) (n:Int)=some ((x.toNat % n:Nat):Int):=by
 rw [oq (by omega) (by omega)]
 unfold yD
 obtain ⟨m,rfl⟩:=Int.eq_ofNat_of_zero_le h0
 rw [if_neg (by omega),Int.toNat_natCast,Int.ofNat_tmod]
end Go.Proofs.YtihapemckcdicaaGreatDoor
