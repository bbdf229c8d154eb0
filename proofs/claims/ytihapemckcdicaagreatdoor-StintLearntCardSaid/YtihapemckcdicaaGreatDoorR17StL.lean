/- Plain laws of chapter 5. Conditions: none. -/
import Derived.Test.YtihapemckcdicaaGreatDoorQXStP
import Derived.Test.YtihapemckcdicaaGreatDoorQXStC
import Derived.Test.YtihapemckcdicaaGreatDoorQXStM
namespace Go.Proofs.YtihapemckcdicaaGreatDoor
open Go.Lg Go.Proofs
set_option maxRecDepth 10000
def yt(x:Reach)(a c:Int):Bool:=decide (a≤x.c6) && (decide (x.c6≤x.eA) && decide (x.eA≤c))
def Db(x:Reach)(w:Int):Bool:=decide (x.eA - x.c6 < w)
theorem aOs{x:Reach}{a c:Int}(ha : -1000000≤a)(hc:c≤1000000)(h:yt x a c=true):i64 (x.eA - x.c6)=x.eA - x.c6:=by
 simp only [yt,fF,decide_eq_true_eq] at h
 exact gZ (by omega) (by omega)
theorem aLV{x:Reach}{a c:Int}:yt x a c=true↔a≤x.c6∧x.c6≤x.eA∧x.eA≤c:=by simp [yt]
theorem aOt{x:Reach}{w:Int}:Db x w=true↔x.eA - x.c6 < w:=by simp [Db]
def FW(x:Reach):List Int:=(List.range (x.eA+1 - x.c6).toNat).map λ (j:Nat)=>x.c6+(j:Int)
theorem aiM{x:Reach}{n:Int}:n∈FW x↔x.c6≤n∧n≤x.eA:=by
 simp only [FW,List.mem_map,List.mem_range]
 constructor
 ·rintro ⟨j,hj,rfl⟩; omega
 ·intro h; exact ⟨(n - x.c6).toNat,by omega,by omega⟩
theorem ajJ{x:Reach}(h:x.eA - x.c6 < 3):(FW x).length≤3:=by simp [FW]; omega
instance:Inhabited gm:=⟨⟨0,0⟩⟩
instance:Inhabited Reach:=⟨⟨0,0⟩⟩
instance:Inhabited fG:=⟨⟨⟨#[]⟩,0⟩⟩
instance:Inhabited mB:=⟨⟨0,0,0,0⟩⟩
instance:Inhabited dp:=⟨⟨0,0,false⟩⟩
instance:Inhabited bz:=⟨⟨[0,0,0]⟩⟩
theorem yc(n a c:Int):lj n a c=some (dc n a c):=by
 unfold lj dc
 cases decide (a≤n) <;> rfl
theorem rL(n a c:Int):mI n a c=some (dc n a c):=by
 unfold mI dc
 cases decide (a≤n) <;> rfl
theorem aIZ(x:Reach)(a c:Int):MG x a c=some (yt x a c):=by
 unfold MG yt
 cases decide (a≤x.c6) <;> cases decide (x.c6≤x.eA) <;> rfl
theorem aJK{x:Reach}{a c w:Int}(ha : -1000000≤a)(hc:c≤1000000):Fu x a c w=some (yt x a c && Db x w):=by
 unfold Fu yt Db
 by_cases h1:a≤x.c6
 ·by_cases h2:x.c6≤x.eA
  ·by_cases h3:x.eA≤c
   ·simp [h1,h2,h3,gZ (z:=x.eA - x.c6) (by omega) (by omega)]
   ·simp [h1,h2,h3]
  ·simp [h1,h2]
 ·simp [h1]
theorem U9{α:Type}[Inhabited α]{l:List α}{f:α→Option Bool}{p:α→Bool}(hl:l.length≤1000)(hf:∀ x∈l,f x=some (p x)):((bH (O:=(Unit ⊕ Int)) (λ (dI:Int) =>
 af (decide (dI < (l.length:Int)))
 ((idx l dI).bind λ iF =>
 (f iF).bind λ gL =>
 af gL
 (some (.inr (.inr dI)))
 (some (.inl (i64 (dI+1)))))
 (some (.inr (.inl ())))) 0).bind (Sum.elim (λ (_:Unit) =>
 some (-1))
  (λ q=>some q))).bind (λ di=>some (decide (di ≥ 0)))=some (l.any p):=by
 rw [yu (λ i=>if p (nth l i) then some (i:Int) else none) l.length (d:=(-1)) (λ i hi=>?_) (by simp only [jk,bI]) rfl]
 ·rw [aU,asJ p l]
 ·simp only [dec_lt hi,bR,dD,bZ hi,aU,hf _ (nJ hi),dS (i:=i) (by omega)]
  cases p (nth l i) <;> rfl
theorem aJH{l:List Reach}{f:Reach→Option Bool}{p:Reach→Bool}(hl:l.length≤1000)(hf:∀ x∈l,f x=some (p x)):Ii l f=some (l.any p):=U9 hl hf
theorem aJO{l:List fG}{f:fG→Option Bool}{p:fG→Bool}(hl:l.length≤1000)(hf:∀ x∈l,f x=some (p x)):Ij l f=some (l.any p):=U9 hl hf
theorem aI3{l:List dp}{f:dp→Option Bool}{p:dp→Bool}(hl:l.length≤1000)(hf:∀ x∈l,f x=some (p x)):Ie l f=some (l.any p):=U9 hl hf
theorem aJZ{l:List Int}{n:Int}(hl:l.length≤1000):MU l n=some (l.contains n):=by
 unfold MU
 refine (yu (λ i=>if (nth l i == n) then some true else none) l.length (d:=false) (λ i hi=>?_) (by simp only [jk,bI]) rfl).trans ?_
 ·simp only [dec_lt hi,bR,dD,bZ hi,aU,dS (i:=i) (by omega)]
  cases nth l i == n <;> rfl
 ·rw [VV (λ x=>x == n) l]
  rw [an9]
structure Small (b:aj):Prop where
 rows:b.Rows.length≤20
 places:b.aK.length≤20
 sZ:b.ax.length≤20
 Kw:b.ay.length≤20
 aj4:b.bg.length≤20
 each:∀ p∈b.ax,p.Name.size≤100
def DU(b:aj):Bool :=
 decide (20 < b.Rows.length) || (decide (20 < b.aK.length) || (decide (20 < b.ax.length) || (decide (20 < b.ay.length) || (decide (20 < b.bg.length) || b.ax.any λ p=>decide (100 < p.Name.size)))))
theorem Bl{n m:Nat}:decide ((n:Int) > (m:Int))=decide (m < n):=by
 by_cases h:m < n <;> simp [h]
theorem aI7(b:aj):MJ b=some (DU b):=by
 unfold MJ DU
 have e1:decide ((b.Rows.length:Int) > 20)=decide (20 < b.Rows.length):=Bl (m:=20)
 have e2:decide ((b.aK.length:Int) > 20)=decide (20 < b.aK.length):=Bl (m:=20)
 have e3:decide ((b.ax.length:Int) > 20)=decide (20 < b.ax.length):=Bl (m:=20)
 have e4:decide ((b.ay.length:Int) > 20)=decide (20 < b.ay.length):=Bl (m:=20)
 have e5:decide ((b.bg.length:Int) > 20)=decide (20 < b.bg.length):=Bl (m:=20)
 rw [e1,e2,e3,e4,e5]
 by_cases h1:20 < b.Rows.length
 ·simp [h1]
 by_cases h2:20 < b.aK.length
 ·simp [h1,h2]
 by_cases h3:20 < b.ax.length
 ·simp [h1,h2,h3]
 by_cases h4:20 < b.ay.length
 ·simp [h1,h2,h3,h4]
 by_cases h5:20 < b.bg.length
 ·simp [h1,h2,h3,h4,h5]
 simp only [h1,h2,h3,h4,h5,decide_false,bI,aU,Bool.false_or]
 rw [yu (λ i=>if decide (100 < (nth b.ax i).Name.size) then some true else none) b.ax.length (d:=false) (λ i hi=>?_) (by simp only [jk,bI]) rfl]
 ·rw [VV (λ p:fG=>decide (100 < p.Name.size)) b.ax]
 ·have f1:decide (((nth b.ax i).Name.size:Int) > 100)=decide (100 < (nth b.ax i).Name.size):=Bl (m:=100)
  simp only [dec_lt hi,bR,dD,bZ hi,aU,f1,dS (i:=i) (by omega)]
  cases decide (100 < (nth b.ax i).Name.size) <;> rfl
theorem agk{b:aj}(h:DU b=false):Small b:=by
 simp only [DU,Bool.or_eq_false_iff,decide_eq_false_iff_not,List.any_eq_false,decide_eq_true_eq] at h
 obtain ⟨h1,h2,h3,h4,h5,h6⟩:=h
 exact ⟨by omega,by omega,by omega,by omega,by omega,λ p hp=>by have:=h6 p hp; omega⟩
theorem aik{n:Int}(h1:0≤n)(h2:n < 256):Fg n=some (isLet n):=by unfold Fg isLet; rw [gZ (by omega) (by omega),rL]; rfl
theorem aJa{n:Int}(h1:0≤n)(h2:n < 256):Ig n=some (zC n):=by unfold Ig zC; rw [gZ (by omega) (by omega),rL]; rfl
theorem aI1{s:ByteArray}(hs:s.size≤1000):MH s=some (qD s):=by
 unfold MH qD
 rw [rL,aU]
 cases hb:dc (s.size:Int) 1 12 with
 | false =>
  simp only [Bool.not_false,bR,aU]
  congr 1
  cases hf:fJ (oT s) 0 s.size with
  | none=>rfl
  | some o=>rw [ahy hf]; rfl
 | true =>
  have h1:1≤s.size:=by
   simp only [dc,fF,decide_eq_true_eq] at hb
   omega
  have qx:0 < (iL s).length:=by rw [SD]; omega
  obtain ⟨g1,g2⟩:=akh (s:=s) (i:=0) (by omega)
  have HE:wG s 0=some (nth (iL s) 0):=by unfold wG; rw [← bZ qx]; exact dD _ 0
  simp only [Bool.not_true,bI,HE,aU,aik g1 g2]
  have hu:fJ (oT s) 0 s.size=match oT s 0 with | some o=>some o | none=>fJ (oT s) 1 (s.size - 1):=by
   obtain ⟨k,hk⟩:∃ k,s.size=k+1:=⟨s.size - 1,by omega⟩
   rw [hk]
   simp only [fJ,Nat.add_sub_cancel,Nat.zero_add]
   cases oT s 0 <;> rfl
  rw [hu]
  unfold oT
  cases hl:isLet (nth (iL s) 0) with
  | false=>rfl
  | true =>
   simp only [Bool.not_true,bI,q7,if_false]
   have e2:=search (body:=λ (rR:Int) =>
    af (decide (rR < (s.size:Int)))
    ((wG s rR).bind λ Dn =>
    (Fg Dn).bind λ p8 =>
    af (!p8)
    ((wG s rR).bind λ j7 =>
    (Ig j7).bind λ mA =>
    af (!mA)
    (some (.inr (.inr false)))
    (some (.inl (i64 (rR+1)))))
    (some (.inl (i64 (rR+1)))))
    (some (.inr (.inl ())))) (oT s) 1 s.size (d:=true) (g:=λ _=>some true) (λ i hi1 hi=>?_) (by simp only [jk,bI]) h1 rfl
   ·exact e2
   ·have Ls:i < (iL s).length:=by rw [SD]; exact hi
    obtain ⟨k1,k2⟩:=akh hi
    have hsi:wG s (i:Int)=some (nth (iL s) i):=by unfold wG; rw [← bZ Ls]; exact dD _ i
    simp only [dec_lt hi,bR,hsi,aU,aik k1 k2,aJa k1 k2,dS (i:=i) (by omega)]
    have h0:i≠0:=by omega
    unfold oT
    cases isLet (nth (iL s) i) with
    | true=>rfl
    | false =>
     simp only [Bool.not_false,bR,h0,if_false,if_true]
     cases zC (nth (iL s) i) <;> rfl
theorem aJM(s:ByteArray):MO s=some (qD s):=rfl
def Aj(b:aj)(i:Nat):Option Int :=
 if (dc (nth b.Rows i).fA 1 30 && dc (nth b.Rows i).fT 1 60)=false then some 1
 else if 0 < i then (if (nth b.Rows i).fA≤(nth b.Rows (i - 1)).fA then some 7 else if (nth b.Rows i).fT > (nth b.Rows (i - 1)).fT then some 7 else none) else none
def uG(b:aj):Int:=if dc (b.Rows.length:Int) 1 4=false then 2 else (fJ (Aj b) 0 b.Rows.length).getD 0
def wj(x:Reach):Bool:=yt x 1 30 && Db x 3
def td(b:aj):Int:=if dc (b.aK.length:Int) 1 3=false then 2 else if b.aK.any (λ x=>!wj x)=true then 1 else 0
def Am(p q:fG):Bool:=q.Name.toList == p.Name.toList
def yj(b:aj)(i:Nat):Option Int :=
 if qD (nth b.ax i).Name=false then some 4 else if (b.ax.take i).any (Am (nth b.ax i))=true then some 5 else if dc (nth b.ax i).nv 1 30=false then some 1 else none
def uw(b:aj):Int:=if dc (b.ax.length:Int) 1 4=false then 2 else (fJ (yj b) 0 b.ax.length).getD 0
def pN(b:aj)(n:Int):Bool:=dc n 0 ((b.aK.length:Int) - 1)
def vj(b:aj)(i:Nat):Option Int :=
 if pN b (nth b.ay i).Place=false then some 6 else if (dc (nth b.ay i).jC 0 200 && (dc (nth b.ay i).gW 1 60 && dc (nth b.ay i).ax 1 3))=false then some 1 else none
def xj(b:aj):Int:=if dc (b.ay.length:Int) 1 4=false then 2 else (fJ (vj b) 0 b.ay.length).getD 0
def An(b:aj)(i:Nat):Option Int :=
 if pN b (nth b.bg i).Place=false then some 6 else if dc (nth b.bg i).iQ 0 30=false then some 1 else none
def C5(b:aj):Int:=if 3 < b.bg.length then 2 else (fJ (An b) 0 b.bg.length).getD 0
def iR(b:aj):Int:=if dc b.Rest 0 60=false then 1 else if uG b≠0 then uG b else if td b≠0 then td b else if uw b≠0 then uw b else if xj b≠0 then xj b else C5 b
theorem Mx{n:Int}{m:Nat}(hm:m≤1000):qE n (m:Int)=some (if dc n 0 ((m:Int) - 1)=false then 6 else 0):=by
 unfold qE
 rw [yc,aU,gZ (by omega) (by omega)]
 cases dc n 0 ((m:Int) - 1) <;> rfl
theorem aJx{b:aj}(h:Small b):Fj b=some (uG b):=by
 unfold Fj uG
 have hr:=h.rows
 rw [yc,aU]
 cases dc (b.Rows.length:Int) 1 4 with
 | false=>rfl
 | true =>
  simp only [Bool.not_true,bI,q7,if_false]
  refine yu (Aj b) b.Rows.length (λ i hi=>?_) (by simp only [jk,bI]) rfl
  simp only [dec_lt hi,bR,dD,bZ hi,aU,yc,dS (i:=i) (by omega)]
  unfold Aj
  cases dc (nth b.Rows i).fA 1 30 with
  | false=>rfl
  | true =>
   cases dc (nth b.Rows i).fT 1 60 with
   | false=>rfl
   | true =>
    by_cases hp:0 < i
    ·simp only [Vg hp,Bool.not_true,bI,bR,mf (i:=i) (by omega) hp,dD,bZ (show i - 1 < b.Rows.length by omega),aU,hp,if_true,Bool.and_self,q7,if_false]
     by_cases hc:(nth b.Rows i).fA≤(nth b.Rows (i - 1)).fA
     ·simp [hc]
     ·by_cases hd:(nth b.Rows i).fT > (nth b.Rows (i - 1)).fT
      ·simp [hc,hd]
      ·simp [hc,hd]
    ·simp [hp]
theorem aIv{b:aj}(h:Small b):MB b=some (if dc b.Rest 0 60=false then 1 else uG b):=by
 unfold MB uG
 have hr:=h.rows
 rw [rL,aU]
 cases dc b.Rest 0 60 with
 | false=>rfl
 | true =>
 simp only [Bool.not_true,bI,q7,if_false]
 rw [rL,aU]
 cases dc (b.Rows.length:Int) 1 4 with
 | false=>rfl
 | true =>
  simp only [Bool.not_true,bI,q7,if_false]
  refine yu (Aj b) b.Rows.length (λ i hi=>?_) (by simp only [jk,bI]) rfl
  simp only [dec_lt hi,bR,dD,bZ hi,aU,rL,dS (i:=i) (by omega)]
  unfold Aj
  cases dc (nth b.Rows i).fA 1 30 with
  | false=>rfl
  | true =>
   cases dc (nth b.Rows i).fT 1 60 with
   | false=>rfl
   | true =>
    by_cases hp:0 < i
    ·simp only [Vg hp,Bool.not_true,bI,bR,mf (i:=i) (by omega) hp,dD,bZ (show i - 1 < b.Rows.length by omega),aU,hp,if_true,Bool.and_self,q7,if_false]
     by_cases hc:(nth b.Rows i).fA≤(nth b.Rows (i - 1)).fA
     ·simp [hc]
     ·by_cases hd:(nth b.Rows i).fT > (nth b.Rows (i - 1)).fT
      ·simp [hc,hd]
      ·simp [hc,hd]
    ·simp [hp]
theorem aJz{b:aj}(h:Small b):Fl b=some (td b):=by
 unfold Fl td
 rw [yc,aU]
 cases dc (b.aK.length:Int) 1 3 with
 | false=>rfl
 | true =>
  have hp:=h.places
  simp only [Bool.not_true,bI,q7,if_false]
  rw [aJH (p:=λ x=>!wj x) (by omega) (λ x _=>by unfold Ft wj; rw [aJK (by omega) (by omega)]; rfl),aU]
  cases b.aK.any λ x=>!wj x <;> rfl
theorem aJB{b:aj}(h:Small b):Fo b=some (uw b):=by
 unfold Fo uw
 rw [yc,aU]
 cases dc (b.ax.length:Int) 1 4 with
 | false=>rfl
 | true =>
  have hp:=h.sZ
  simp only [Bool.not_true,bI,q7,if_false]
  refine yu (yj b) b.ax.length (λ i hi=>?_) (by simp only [jk,bI]) rfl
  simp only [dec_lt hi,bR,dD,bZ hi,aU,aJM,aeK (show i≤b.ax.length by omega),yc,
   aJO (l:=b.ax.take i) (f:=λ y=>Fv y (nth b.ax i)) (p:=Am (nth b.ax i)) (by simp; omega) (λ x _=>rfl),dS (i:=i) (by omega)]
  unfold yj
  cases qD (nth b.ax i).Name with
  | false=>rfl
  | true =>
   cases (b.ax.take i).any (Am (nth b.ax i)) with
   | true=>rfl
   | false=>cases dc (nth b.ax i).nv 1 30 <;> rfl
theorem aIx{b:aj}(h:Small b):MC b=some (if td b≠0 then td b else uw b):=by
 unfold MC td
 rw [rL,aU]
 cases dc (b.aK.length:Int) 1 3 with
 | false=>rfl
 | true =>
  have hp:=h.places
  simp only [Bool.not_true,bI,q7,if_false]
  rw [abJ (λ i=>if (λ x=>!wj x) (nth b.aK i) then some (1:Int) else none) b.aK.length (λ i hi=>?_) (by simp only [jk,bI])]
  ·rw [agb (λ x=>!wj x) (1:Int) b.aK b.aK.length (dr _),List.take_length]
   cases b.aK.any λ x=>!wj x with
   | true=>rfl
   | false =>
    simp only [l6,if_false,aU,Sum.elim_inl,ne_eq,kY]
    unfold uw
    rw [rL,aU]
    cases dc (b.ax.length:Int) 1 4 with
    | false=>rfl
    | true =>
     have hm:=h.sZ
     simp only [Bool.not_true,bI,q7,if_false]
     refine yu (yj b) b.ax.length (λ i hi=>?_) (by simp only [jk,bI]) rfl
     have hn:=h.each _ (nJ hi)
     simp only [dec_lt hi,bR,dD,bZ hi,aU,aI1 (show (nth b.ax i).Name.size≤1000 by omega)]
     rw [abJ (λ k=>if Am (nth b.ax i) (nth b.ax k) then some (5:Int) else none) i (λ k hk=>?_) (by simp only [jk,bI])]
     ·rw [agb (Am (nth b.ax i)) (5:Int) b.ax i (by omega)]
      simp only [rL,aU,dS (i:=i) (by omega)]
      unfold yj
      cases qD (nth b.ax i).Name with
      | false=>rfl
      | true =>
       cases (b.ax.take i).any (Am (nth b.ax i)) with
       | true=>rfl
       | false=>cases dc (nth b.ax i).nv 1 30 <;> rfl
     ·simp only [dec_lt hk,bR,dD,bZ (show k < b.ax.length by omega),aU,dS (i:=k) (by omega)]
      rw [show ((nth b.ax k).Name.toList == (nth b.ax i).Name.toList)=Am (nth b.ax i) (nth b.ax k) from rfl]
      cases Am (nth b.ax i) (nth b.ax k) <;> rfl
  ·simp only [dec_lt hi,bR,dD,bZ hi,aU,aIZ,dS (i:=i) (by omega)]
   unfold wj
   by_cases hr:yt (nth b.aK i) 1 30=true
   ·have hw:decide (i64 ((nth b.aK i).eA - (nth b.aK i).c6) ≥ 3)=!Db (nth b.aK i) 3:=by
     rw [aOs (by omega) (by omega) hr]
     unfold Db
     by_cases hx:(nth b.aK i).eA - (nth b.aK i).c6 < 3
     ·simp [hx]
     ·simp [hx]; omega
    rw [hw]
    by_cases hx:Db (nth b.aK i) 3=true
    ·simp [hr,hx,bI]
    ·simp [hr,hx,bI,bR]
   ·simp [hr,bR]
theorem aJD{b:aj}(h:Small b):Fp b=some (xj b):=by
 unfold Fp xj
 rw [yc,aU]
 cases dc (b.ay.length:Int) 1 4 with
 | false=>rfl
 | true =>
  have hp:=h.places
  have hd:=h.Kw
  simp only [Bool.not_true,bI,q7,if_false]
  refine yu (vj b) b.ay.length (λ i hi=>?_) (by simp only [jk,bI]) rfl
  simp only [dec_lt hi,bR,dD,bZ hi,aU,Mx (show b.aK.length≤1000 by omega),yc,dS (i:=i) (by omega)]
  unfold vj pN
  cases dc (nth b.ay i).Place 0 ((b.aK.length:Int) - 1) with
  | false=>rfl
  | true=>cases dc (nth b.ay i).jC 0 200 <;> cases dc (nth b.ay i).gW 1 60 <;> cases dc (nth b.ay i).ax 1 3 <;> rfl
theorem aJF{b:aj}(h:Small b):Fs b=some (C5 b):=by
 unfold Fs C5
 have e:decide ((b.bg.length:Int) > 3)=decide (3 < b.bg.length):=Bl (m:=3)
 rw [e]
 by_cases h3:3 < b.bg.length
 ·simp [h3]
 have hp:=h.places
 simp only [h3,decide_false,bI,if_false]
 refine yu (An b) b.bg.length (λ i hi=>?_) (by simp only [jk,bI]) rfl
 simp only [dec_lt hi,bR,dD,bZ hi,aU,Mx (show b.aK.length≤1000 by omega),yc,dS (i:=i) (by omega)]
 unfold An pN
 cases dc (nth b.bg i).Place 0 ((b.aK.length:Int) - 1) with
 | false=>rfl
 | true=>cases dc (nth b.bg i).iQ 0 30 <;> rfl
theorem aiT{z:Int}{a c:Option Int}:af (z != 0) a c=if z≠0 then a else c:=by
 by_cases h:z=0
 ·subst h; rfl
 ·rw [if_pos h,s7 h]; rfl
theorem aa1{b:aj}(h:Small b):qG b=some (iR b):=by
 unfold qG iR
 rw [show (⟨b.Rest,b.Rows,b.aK,b.ax,b.ay,b.bg⟩:aj)=b from rfl]
 unfold Ih
 rw [yc,aU]
 cases dc b.Rest 0 60 with
 | false=>rfl
 | true =>
  simp only [Bool.not_true,bI,aU,aJx h,aJz h,aJB h,aJD h,aJF h,aiT,q7,if_false]
  by_cases h1:uG b=0
  ·by_cases h2:td b=0
   ·by_cases h3:uw b=0
    ·by_cases h4:xj b=0
     ·by_cases h5:C5 b=0
      ·simp [h1,h2,h3,h4,h5]
      ·simp [h1,h2,h3,h4,h5]
     ·simp [h1,h2,h3,h4]
    ·simp [h1,h2,h3]
   ·simp [h1,h2]
  ·simp [h1]
theorem ah1{b:aj}{n:Int}(h:Small b):H5 b n=some (pN b n):=by
 unfold H5 pN
 have hp:=h.places
 rw [rL,gZ (by omega) (by omega)]
 rfl
theorem aiB{b:aj}(h:Small b):Io b=some (iR b):=by
 unfold Io iR
 rw [aIv h,aU]
 cases dc b.Rest 0 60 with
 | false=>rfl
 | true =>
  have hp:=h.places
  have hd:=h.Kw
  have hs:=h.aj4
  simp only [q7,if_false,aIx h,aU,aiT]
  by_cases h1:uG b=0
  ·by_cases h2:td b=0
   ·by_cases h3:uw b=0
    ·simp only [h1,h2,h3,ne_eq,kY,if_false]
     unfold xj
     rw [rL,aU]
     cases dc (b.ay.length:Int) 1 4 with
     | false=>rfl
     | true =>
      simp only [Bool.not_true,bI,q7,if_false]
      rw [abJ (vj b) b.ay.length (λ i hi=>?_) (by simp only [jk,bI])]
      ·cases hf:fJ (vj b) 0 b.ay.length with
       | some o =>
        simp only [aU,Sum.elim_inr,oz]
        rw [if_pos]
        rintro rfl
        obtain ⟨j,_,_,he,_⟩:=Bs hf
        unfold vj at he
        split at he
        ·cases he
        ·split at he <;> cases he
       | none =>
        simp only [aU,Sum.elim_inl,Option.getD_none,kY,if_false]
        unfold C5
        have e:decide ((b.bg.length:Int) > 3)=decide (3 < b.bg.length):=Bl (m:=3)
        rw [e]
        by_cases h3:3 < b.bg.length
        ·simp [h3]
        simp only [h3,decide_false,bI,if_false]
        refine yu (An b) b.bg.length (λ i hi=>?_) (by simp only [jk,bI]) rfl
        simp only [dec_lt hi,bR,dD,bZ hi,aU,ah1 h,rL,dS (i:=i) (by omega)]
        unfold An
        cases pN b (nth b.bg i).Place with
        | false=>rfl
        | true=>cases dc (nth b.bg i).iQ 0 30 <;> rfl
      ·simp only [dec_lt hi,bR,dD,bZ hi,aU,ah1 h,rL,dS (i:=i) (by omega)]
       unfold vj
       cases pN b (nth b.ay i).Place with
       | false=>rfl
       | true=>cases dc (nth b.ay i).jC 0 200 <;> cases dc (nth b.ay i).gW 1 60 <;> cases dc (nth b.ay i).ax 1 3 <;> rfl
    ·simp [h1,h2,h3]
   ·simp [h1,h2]
  ·simp [h1]
theorem aJW(b:aj):MT b=some (!DU b && (iR b == 0)):=by
 unfold MT
 rw [aI7,aU]
 cases hg:DU b with
 | true=>rfl
 | false=>rw [Bool.not_false,bR,aiB (agk hg)]; rfl
structure am5 (r:gm):Prop where
 depth:1≤r.fA∧r.fA≤30
 stay:1≤r.fT∧r.fT≤60
structure ac0 (P:Nat) (d:mB):Prop where
 place:0≤d.Place∧d.Place < (P:Int)
 UC:0≤d.jC∧d.jC≤200
 C9:1≤d.gW∧d.gW≤60
 sZ:1≤d.ax∧d.ax≤3
structure ank (P:Nat) (s:dp):Prop where
 place:0≤s.Place∧s.Place < (P:Int)
 line:0≤s.iQ∧s.iQ≤30
structure Valid (b:aj):Prop where
 rest:0≤b.Rest∧b.Rest≤60
 r1:1≤b.Rows.length
 r4:b.Rows.length≤4
 row:∀ r∈b.Rows,am5 r
 apa:∀ i,0 < i→i < b.Rows.length→(nth b.Rows (i - 1)).fA < (nth b.Rows i).fA∧(nth b.Rows i).fT≤(nth b.Rows (i - 1)).fT
 p1:1≤b.aK.length
 p3:b.aK.length≤3
 place:∀ x∈b.aK,1≤x.c6∧x.c6≤x.eA∧x.eA≤30∧x.eA - x.c6 < 3
 m1:1≤b.ax.length
 m4:b.ax.length≤4
 man:∀ m∈b.ax,qD m.Name=true∧1≤m.nv∧m.nv≤30
 names:∀ i,i < b.ax.length→(b.ax.take i).any (Am (nth b.ax i))=false
 d1:1≤b.ay.length
 d4:b.ay.length≤4
 aeU:∀ d∈b.ay,ac0 b.aK.length d
 s3:b.bg.length≤3
 sound:∀ s∈b.bg,ank b.aK.length s
theorem aMx{b:aj}(i:Nat):Aj b i≠some 0:=by
 unfold Aj
 intro h
 repeat' split at h
 all_goals cases h
theorem aKh{b:aj}(i:Nat):yj b i≠some 0:=by
 unfold yj
 intro h
 repeat' split at h
 all_goals cases h
theorem apq{b:aj}(i:Nat):vj b i≠some 0:=by
 unfold vj
 intro h
 repeat' split at h
 all_goals cases h
theorem aMY{b:aj}(i:Nat):An b i≠some 0:=by
 unfold An
 intro h
 repeat' split at h
 all_goals cases h
theorem abF{b:aj}{i:Nat}:Aj b i=none↔((1≤(nth b.Rows i).fA∧(nth b.Rows i).fA≤30)∧(1≤(nth b.Rows i).fT∧(nth b.Rows i).fT≤60))∧(0 < i→(nth b.Rows (i - 1)).fA < (nth b.Rows i).fA∧(nth b.Rows i).fT≤(nth b.Rows (i - 1)).fT):=by
 unfold Aj
 by_cases h1:(dc (nth b.Rows i).fA 1 30 && dc (nth b.Rows i).fT 1 60)=false
 ·rw [if_pos h1]
  simp only [reduceCtorEq,false_iff]
  rintro ⟨⟨h2,h3⟩,_⟩
  rw [jH.2 h2,jH.2 h3] at h1
  cases h1
 ·rw [if_neg h1]
  simp only [Bool.not_eq_false,fF,jH] at h1
  by_cases h0:0 < i
  ·rw [if_pos h0]
   constructor
   ·intro h
    split at h
    ·cases h
    ·split at h
     ·cases h
     ·exact ⟨h1,λ _=>by omega⟩
   ·rintro ⟨_,h2⟩
    have:=h2 h0
    rw [if_neg (by omega),if_neg (by omega)]
  ·rw [if_neg h0]
   exact ⟨λ _=>⟨h1,λ h=>absurd h h0⟩,λ _=>rfl⟩
theorem ai1{x:Reach}:wj x=true↔1≤x.c6∧x.c6≤x.eA∧x.eA≤30∧x.eA - x.c6 < 3:=by
 unfold wj
 rw [fF,aLV,aOt]
 omega
theorem wI{b:aj}:iR b=0↔Valid b:=by
 constructor
 ·intro h
  unfold iR at h
  by_cases h1:dc b.Rest 0 60=false
  ·rw [if_pos h1] at h; cases h
  rw [if_neg h1] at h
  by_cases h2:uG b=0
  case neg=>rw [if_pos h2] at h; exact absurd h h2
  rw [if_neg (by simpa using h2)] at h
  by_cases h3:td b=0
  case neg=>rw [if_pos h3] at h; exact absurd h h3
  rw [if_neg (by simpa using h3)] at h
  by_cases h4:uw b=0
  case neg=>rw [if_pos h4] at h; exact absurd h h4
  rw [if_neg (by simpa using h4)] at h
  by_cases h5:xj b=0
  case neg=>rw [if_pos h5] at h; exact absurd h h5
  rw [if_neg (by simpa using h5)] at h
  unfold uG at h2
  unfold td at h3
  unfold uw at h4
  unfold xj at h5
  unfold C5 at h
  split at h2
  ·cases h2
  rename_i g2
  split at h3
  ·cases h3
  rename_i g3
  split at h3
  ·cases h3
  rename_i k3
  split at h4
  ·cases h4
  rename_i g4
  split at h5
  ·cases h5
  rename_i g5
  split at h
  ·cases h
  rename_i g6
  simp only [Bool.not_eq_false,jH] at h1 g2 g3 g4 g5
  have r:=Pu aMx h2
  have m:=Pu aKh h4
  have d:=Pu apq h5
  have s:=Pu aMY h
  refine ⟨h1,by omega,by omega,λ x hx=>?_,λ i h0 hi=>(abF.1 (r i hi)).2 h0,by omega,by omega,λ x hx=>?_,by omega,by omega,λ x hx=>?_,λ i hi=>?_,by omega,by omega,λ x hx=>?_,by omega,λ x hx=>?_⟩
  ·obtain ⟨i,hi,rfl⟩:=uB hx
   obtain ⟨⟨q1,q2⟩,_⟩:=abF.1 (r i hi)
   exact ⟨q1,q2⟩
  ·have:b.aK.any (λ x=>!wj x)=false:=by simpa using k3
   rw [List.any_eq_false] at this
   have:=this x hx
   exact ai1.1 (by simpa using this)
  ·obtain ⟨i,hi,rfl⟩:=uB hx
   have:=m i hi
   unfold yj at this
   split at this
   ·cases this
   ·split at this
    ·cases this
    ·split at this
     ·cases this
     ·rename_i q1 q2 q3
      rw [Bool.not_eq_false,jH] at q3
      exact ⟨by simpa using q1,q3⟩
  ·have:=m i hi
   unfold yj at this
   split at this
   ·cases this
   ·split at this
    ·cases this
    ·rename_i q1 q2
     simpa using q2
  ·obtain ⟨i,hi,rfl⟩:=uB hx
   have:=d i hi
   unfold vj pN at this
   split at this
   ·cases this
   ·split at this
    ·cases this
    ·rename_i q1 q2
     rw [Bool.not_eq_false,jH] at q1
     rw [Bool.not_eq_false,fF,fF,jH,jH,jH] at q2
     exact ⟨by omega,q2.1,q2.2.1,q2.2.2⟩
  ·obtain ⟨i,hi,rfl⟩:=uB hx
   have:=s i hi
   unfold An pN at this
   split at this
   ·cases this
   ·split at this
    ·cases this
    ·rename_i q1 q2
     rw [Bool.not_eq_false,jH] at q1 q2
     exact ⟨by omega,q2⟩
 ·intro h
  have e1:uG b=0:=by
   unfold uG
   have hr1:=h.r1
   have hr4:=h.r4
   rw [if_neg (by rw [Bool.not_eq_false,jH]; omega),vn.2 λ i _ hi=>?_]
   ·rfl
   ·have hx:=h.row _ (nJ (l:=b.Rows) (i:=i) (by omega))
    exact abF.2 ⟨⟨hx.depth,hx.stay⟩,λ h0=>h.apa i h0 (by omega)⟩
  have e2:td b=0:=by
   unfold td
   have h1:=h.p1
   have h3:=h.p3
   rw [if_neg (by rw [Bool.not_eq_false,jH]; omega),if_neg]
   rw [Bool.not_eq_true,List.any_eq_false]
   intro x hx
   simpa using ai1.2 (h.place x hx)
  have e3:uw b=0:=by
   unfold uw
   have h1:=h.m1
   have h4:=h.m4
   rw [if_neg (by rw [Bool.not_eq_false,jH]; omega),vn.2 λ i _ hi=>?_]
   ·rfl
   ·have hx:=h.man _ (nJ (l:=b.ax) (i:=i) (by omega))
    unfold yj
    rw [if_neg (by simp [hx.1]),if_neg (by rw [h.names i (by omega)]; simp),if_neg (by rw [Bool.not_eq_false,jH]; exact hx.2)]
  have e4:xj b=0:=by
   unfold xj
   have h1:=h.d1
   have h4:=h.d4
   rw [if_neg (by rw [Bool.not_eq_false,jH]; omega),vn.2 λ i _ hi=>?_]
   ·rfl
   ·have hx:=h.aeU _ (nJ (l:=b.ay) (i:=i) (by omega))
    have hp:=hx.place
    unfold vj pN
    rw [if_neg (by rw [Bool.not_eq_false,jH]; omega),if_neg]
    rw [Bool.not_eq_false,fF,fF,jH,jH,jH]
    exact ⟨hx.UC,hx.C9,hx.sZ⟩
  have e5:C5 b=0:=by
   unfold C5
   have h3:=h.s3
   rw [if_neg (by omega),vn.2 λ i _ hi=>?_]
   ·rfl
   ·have hx:=h.sound _ (nJ (l:=b.bg) (i:=i) (by omega))
    have hp:=hx.place
    unfold An pN
    rw [if_neg (by rw [Bool.not_eq_false,jH]; omega),if_neg (by rw [Bool.not_eq_false,jH]; exact hx.line)]
  unfold iR
  rw [if_neg (by rw [Bool.not_eq_false,jH]; exact h.rest)]
  simp [e1,e2,e3,e4,e5]
theorem Valid.small{b:aj}(h:Valid b)(hn:∀ p∈b.ax,p.Name.size≤100):Small b:=by
 have h1:=h.r4
 have h2:=h.p3
 have h3:=h.m4
 have h4:=h.d4
 have h5:=h.s3
 exact ⟨by omega,by omega,by omega,by omega,by omega,hn⟩
theorem aGP{s:ByteArray}(h:qD s=true):s.size≤12:=by
 unfold qD at h
 cases hf:fJ (oT s) 0 s.size with
 | some o =>
  rw [hf,oz] at h
  rw [ahy hf] at h
  cases h
 | none =>
  rw [hf,Option.getD_none,jH] at h
  omega
theorem Valid.sm{b:aj}(h:Valid b):Small b:=h.small λ p hp=>by have:=aGP (h.man p hp).1; omega
theorem Valid.each{b:aj}(h:Valid b){i:Nat}(hi:i < b.aK.length):1≤(nth b.aK i).c6∧(nth b.aK i).c6≤(nth b.aK i).eA∧(nth b.aK i).eA≤30∧(nth b.aK i).eA - (nth b.aK i).c6 < 3:=h.place _ (nJ hi)
theorem aGD{α:Type}[Inhabited α]{l:List α}{n:Int}(h0:0≤n)(h:n < (l.length:Int)):idx l n=some (nth l n.toNat):=by
 unfold idx
 rw [if_pos h0]
 exact bZ (by omega)
def CO(b:aj)(w:List Int):Bool:=b.bg.all λ s=>decide (nth w s.Place.toNat≤s.iQ) == s.mO
abbrev Br(b:aj):Nat→List Int→List Int:=λ i _=>FW (nth b.aK i)
def cS(b:aj):List (List Int):=(lvl (Br b) b.aK.length).filter (CO b)
theorem RH{b:aj}{c:List Int}:c∈cS b↔(c.length=b.aK.length∧∀ i,i < b.aK.length→(nth b.aK i).c6≤nth c i∧nth c i≤(nth b.aK i).eA)∧CO b c=true:=by
 unfold cS
 rw [List.mem_filter,MY]
 simp only [Br,aiM]
def ov(c:List Int):bz:=⟨Ha [0,0,0] c⟩
theorem aeH{c:List Int}(h:c.length≤3):(Ha [0,0,0] c).length=3∧(∀ i,i < c.length→nth (Ha [0,0,0] c) i=nth c i)∧∀ i,c.length≤i→i < 3→nth (Ha [0,0,0] c) i=0:=by
 match c,h with
 | [],_=>exact ⟨rfl,λ i hi=>by simp at hi,λ i _ hi=>by match i,hi with | 0,_=>rfl | 1,_=>rfl | 2,_=>rfl⟩
 | [_],_=>exact ⟨rfl,λ i hi=>by match i,hi with | 0,_=>rfl,λ i h1 hi=>by match i,h1,hi with | 1,_,_=>rfl | 2,_,_=>rfl⟩
 | [_,_],_=>exact ⟨rfl,λ i hi=>by match i,hi with | 0,_=>rfl | 1,_=>rfl,λ i h1 hi=>by match i,h1,hi with | 2,_,_=>rfl⟩
 | [_,_,_],_=>exact ⟨rfl,λ i hi=>by match i,hi with | 0,_=>rfl | 1,_=>rfl | 2,_=>rfl,λ i h1 hi=>by simp at h1; omega⟩
structure rW (P:Nat) (pre w:List Int):Prop where
 len:w.length=3
 pre:∀ i,i < pre.length→nth w i=nth pre i
 rest:∀ i,P≤i→i < 3→nth w i=0
theorem rW.ov{P:Nat}{pre w:List Int}(h:rW P pre w)(hp:pre.length=P)(h3:P≤3):w=Ha [0,0,0] pre:=by
 obtain ⟨h1,h2,h4⟩:=aeH (c:=pre) (by omega)
 refine aKF (by rw [h.len,h1]) λ i hi=>?_
 by_cases hl:i < pre.length
 ·rw [h.pre i hl,h2 i hl]
 ·rw [h.rest i (by omega) (by rw [← h.len]; exact hi),h4 i (by omega) (by rw [← h.len]; exact hi)]
theorem rW.set{P:Nat}{pre w:List Int}(h:rW P pre w)(hp:pre.length < P)(h3:P≤3)(n:Int):rW P (pre++[n]) (w.set pre.length n):=by
 have hl:=h.len
 refine ⟨by simpa using hl,λ i hi=>?_,λ i h1 h2=>?_⟩
 ·by_cases e:i=pre.length
  ·subst e
   rw [aKG (by omega),zV]
  ·rw [aiY (by omega)]
   simp only [ns,List.length_cons,List.length_nil] at hi
   rw [zW (by omega)]
   exact h.pre i (by omega)
 ·rw [aiY (by omega)]
  exact h.rest i h1 h2
theorem rW.back{P:Nat}{pre w:List Int}{n:Int}(h:rW P (pre++[n]) w):rW P pre w:=⟨h.len,λ i hi=>by rw [h.pre i (by simp; omega),zW hi],h.rest⟩
theorem aIJ{b:aj}(hv:Valid b){c:List Int}{w:bz}(hw:∀ i,i < b.aK.length→nth w.deep i=nth c i)(hl:w.deep.length=3):Ck b w=some (CO b c):=by
 unfold Ck
 have h3:=hv.s3
 have hp:=hv.p3
 rw [aI3 (p:=λ s=>!(decide (nth c s.Place.toNat≤s.iQ) == s.mO)) (by omega) (λ s hs=>?_),aU]
 ·unfold CO
  congr 1
  rw [List.not_any_eq_all_not]
  congr 1
  funext s
  simp
 ·have:=(hv.sound s hs).place
  unfold Ff
  rw [aGD this.1 (by omega),aU,hw _ (by omega)]
theorem aaA{α S X O:Type}{ys:α→S→Option (S × Bool)}{body:S × X→Option ((S × X) ⊕ O)}(seg:Nat→List α)(n:Nat)(I:Nat→X→Prop)(F Q:S→O→Prop)
  (h:∀ j s x r,j < n→I j x→kE ys (seg j) s=some r→if r.2=true then ∃ x',body (s,x)=some (.inl (r.1,x'))∧I (j+1) x' else ∃ o,body (s,x)=some (.inr o)∧Q r.1 o) (hn:∀ s x,I n x→∃ o,body (s,x)=some (.inr o)∧F s o) :
  ∀ (k j:Nat) (s:S) (x:X) (r:S × Bool),j+k=n→I j x→kE ys ((List.range' j k).flatMap seg) s=some r→∃ o,bH body (s,x)=some o∧if r.2=true then F r.1 o else Q r.1 o
 | 0,j,s,x,r,hj,hI,hr=>by
  simp only [List.range'_zero,List.flatMap_nil,kE,j8] at hr
  subst hr
  obtain rfl:j=n:=by omega
  obtain ⟨o,h1,h2⟩:=hn s x hI
  exact ⟨o,om h1,by simpa using h2⟩
 | k+1,j,s,x,r,hj,hI,hr=>by
  rw [List.range'_succ,List.flatMap_cons,agc] at hr
  obtain ⟨q,hq,hr⟩:=ag hr
  have hb:=h j s x q (by omega) hI hq
  split at hr
  ·rename_i h2
   rw [if_pos h2] at hb
   obtain ⟨x',h3,h4⟩:=hb
   rw [zE h3]
   exact aaA seg n I F Q h hn k (j+1) q.1 x' r (by omega) h4 hr
  ·rename_i h2
   rw [if_neg h2] at hb
   obtain ⟨o,h3,h4⟩:=hb
   cases hr
   exact ⟨o,om h3,by simpa using h4⟩
theorem aih{b:aj}(hv:Valid b){S:Type}(ys:bz→S→Option (S × Bool)):∀ (j k:Nat) (pre:List Int) (w:bz) (s:S) (r:S × Bool),pre.length+j=b.aK.length→j < k→rW b.aK.length pre w.deep →
  kE ys (((tree (Br b) j pre.length pre).filter (CO b)).map ov) s=some r→∃ w',sY ys k (pre.length:Int) b w s=some (r.1,(w',r.2))∧rW b.aK.length pre w'.deep
 | _,0,_,_,_,_,_,hk,_,_=>by omega
 | 0,k+1,pre,w,s,r,hl,_,hw,hr=>by
  rw [Nat.add_zero] at hl
  have h3:=hv.p3
  unfold sY
  rw [show ((pre.length:Int) == (b.aK.length:Int))=true by rw [hl]; simp,bR,aIJ (c:=pre) hv (λ i hi=>hw.pre i (by omega)) hw.len,aU]
  simp only [tree] at hr
  have ew:w=ov pre:=by
   obtain ⟨d⟩:=w
   exact congrArg bz.mk (hw.ov hl h3)
  refine ⟨w,?_,hw⟩
  cases hs:CO b pre with
  | true =>
   simp only [List.filter_cons,hs,if_true,List.filter_nil,List.map_cons,List.map_nil,kE] at hr
   obtain ⟨q,hq,hr⟩:=ag hr
   rw [← ew] at hq
   simp only [Bool.not_true,bI,hq,aU]
   split at hr
   ·rename_i h2; cases hr; rw [h2]
   ·rename_i h2; cases hr; simp at h2; rw [h2]
  | false =>
   simp [hs,kE] at hr
   subst hr
   rfl
 | j+1,k+1,pre,w,s,r,hl,hk,hw,hr=>by
  have h3:=hv.p3
  have hx:=hv.each (i:=pre.length) (by omega)
  unfold sY
  rw [show ((pre.length:Int) == (b.aK.length:Int))=false by simp; omega,bI,dD,bZ (by omega),aU]
  generalize hX:nth b.aK pre.length=X at hx
  refine Exists.elim (aaA (ys:=ys) (S:=S) (X:=Int × List Int) (O:=(S × List Int) ⊕ (S × (bz × Bool))) (body:=λ (bP:(S × Int × (List Int))) =>
   (some X:Option Reach).bind λ fR =>
   af (decide (bP.2.1≤fR.eA))
   ((idx bP.2.2 (pre.length:Int)).bind λ qY =>
   (sY ys k (i64 ((pre.length:Int)+1)) b (⟨bP.2.2.set (pre.length:Int).toNat bP.2.1⟩:bz) bP.1).bind λ jd =>
   af (!jd.2.2)
   (some (.inr (.inr (jd.1,(jd.2.1,false)))))
   (some (.inl (jd.1,i64 (bP.2.1+1),jd.2.1.deep))))
   (some (.inr (.inl (bP.1,bP.2.2)))))
   (λ q=>((tree (Br b) j (pre.length+1) (pre++[X.c6+(q:Int)])).filter (CO b)).map ov) (X.eA+1 - X.c6).toNat (λ q x=>x.1=X.c6+(q:Int)∧rW b.aK.length pre x.2)
   (λ s o=>∃ d,o = .inl (s,d)∧rW b.aK.length pre d) (λ s o=>∃ w',o = .inr (s,(w',false))∧rW b.aK.length pre w'.deep)
   (λ q s x r hq hI hr=>?_) (λ s x hI=>?_) (X.eA+1 - X.c6).toNat 0 s (X.c6,w.deep) r (by omega) ⟨by simp,hw⟩ ?_) ?_
  ·obtain ⟨n,d⟩:=x
   obtain ⟨rfl,hd⟩:=hI
   have hs:=hd.set (n:=X.c6+(q:Int)) (by omega) h3
   obtain ⟨w',h1,h2⟩:=aih hv ys j k (pre++[X.c6+(q:Int)]) ⟨d.set pre.length (X.c6+(q:Int))⟩ s r (by simp; omega) (by omega) hs (by simpa using hr)
   have hl3:d.length=3:=hd.len
   simp only [ns,List.length_cons,List.length_nil,Nat.zero_add] at h1
   simp only [aU,show decide (X.c6+(q:Int)≤X.eA)=true by simp; omega,bR,dD,bZ (show pre.length < d.length by omega),eH,dS (i:=pre.length) (by omega),h1]
   have e1:i64 (X.c6+(q:Int)+1)=X.c6+((q+1:Nat):Int):=by rw [gZ (by omega) (by omega)]; omega
   cases XV:r.2 with
   | true=>exact ⟨(X.c6+((q+1:Nat):Int),w'.deep),by simp [e1,bI],rfl,h2.back⟩
   | false=>exact ⟨.inr (r.1,(w',false)),by simp [bR],w',rfl,h2.back⟩
  ·obtain ⟨n,d⟩:=x
   obtain ⟨rfl,hd⟩:=hI
   refine ⟨.inl (s,d),?_,d,rfl,hd⟩
   simp only [aU,show decide (X.c6+(((X.eA+1 - X.c6).toNat:Nat):Int)≤X.eA)=false by simp; omega,bI]
  ·rw [← hr,← List.range_eq_range']
   congr 1
   simp only [tree,Br,hX,FW,List.flatMap_map,List.map_flatMap,List.filter_flatMap]
  ·rintro o ⟨ho,hc⟩
   rw [show (bH (O:=((S × (List Int)) ⊕ (S × (bz × Bool)))) (λ (bP:(S × Int × (List Int))) =>
    (some X:Option Reach).bind λ fR =>
    af (decide (bP.2.1≤fR.eA))
    ((idx bP.2.2 (pre.length:Int)).bind λ qY =>
    (sY ys k (i64 ((pre.length:Int)+1)) b (⟨bP.2.2.set (pre.length:Int).toNat bP.2.1⟩:bz) bP.1).bind λ jd =>
    af (!jd.2.2)
    (some (.inr (.inr (jd.1,(jd.2.1,false)))))
    (some (.inl (jd.1,i64 (bP.2.1+1),jd.2.1.deep))))
    (some (.inr (.inl (bP.1,bP.2.2))))) (s,X.c6,w.deep))=some o from ho,aU]
   split at hc
   ·rename_i h2
    obtain ⟨d,rfl,hd⟩:=hc
    exact ⟨⟨d⟩,by simp [h2],hd⟩
   ·rename_i h2
    obtain ⟨w',rfl,hd⟩:=hc
    exact ⟨w',by simp at h2; simp [h2],hd⟩
theorem aKb{b:aj}(hv:Valid b){S:Type}(ys:bz→S→Option (S × Bool)){s:S}{r:S × Bool}(hr:kE ys ((cS b).map ov) s=some r):qH ys b s=some r.1:=by
 have h3:=hv.p3
 unfold qH
 obtain ⟨w',h1,_⟩:=aih hv ys b.aK.length 9 [] ⟨[0,0,0]⟩ s r (by simp) (by omega) ⟨rfl,λ i hi=>by simp at hi,λ i _ hi=>by match i,hi with | 0,_=>rfl | 1,_=>rfl | 2,_=>rfl⟩ (by rw [← hr]; unfold cS; simp only [List.length_nil]; rw [ab0])
 have xo:sY ys 9 0 b ⟨[0,0,0]⟩ s=some (r.1,(w',r.2)):=h1
 rw [xo]
 rfl
theorem ahY{b:aj}(hv:Valid b):∀ i,i≤b.aK.length→(lvl (Br b) i).length≤3 ^ i
 | 0,_=>by simp [lvl]
 | i+1,h=>by
  have ih:=ahY hv i (by omega)
  have hx:=ajJ (hv.each (i:=i) (by omega)).2.2.2
  simp only [lvl]
  refine Nat.le_trans (VW _ 3 (λ a=>?_) _) ?_
  ·simpa using hx
  ·rw [Nat.pow_succ]; omega
theorem an5{b:aj}(hv:Valid b):(lvl (Br b) b.aK.length).length≤27:=by
 refine Nat.le_trans (ahY hv _ (dr _)) ?_
 have h1:=hv.p1
 have h3:=hv.p3
 match b.aK.length,h1,h3 with
 | 1,_,_=>decide
 | 2,_,_=>decide
 | 3,_,_=>decide
theorem OU{b:aj}(hv:Valid b):(cS b).length≤27:=Nat.le_trans (List.length_filter_le _ _) (an5 hv)
theorem aiE{b:aj}(hv:Valid b):zT (λ y s=>qH y b s)=some ((cS b).map ov):=by
 unfold zT Ia
 have hl:=OU hv
 have key:∀ (l a:List bz),l.foldl (λ s c=>s++[c]) a=a++l:=by
  intro l
  induction l with
  | nil=>simp
  | cons c l ih=>intro a; rw [List.foldl_cons,ih]; simp
 dsimp only
 rw [aKb hv _ (r:=(.inl ((((cS b).map ov).foldl (λ (s:List bz) c=>s++[c]) [])),true)) (Pt (λ k s=>s.length=k) (λ c s=>s++[c]) _ 0 [] rfl (λ j s a hj hs _=>by
  simp only [List.length_map] at hj
  rw [xd (by simp; omega)]
  exact ⟨rfl,by simp [hs]⟩))]
 rw [key]
 rfl
def OW(b:aj):Int × Int:=if iR b≠0 then (0,iR b) else ((cS b).length,0)
theorem aeD{b:aj}(hv:Valid b):OW b=(((cS b).length:Int),0):=by
 unfold OW
 simp [wI.2 hv]
theorem aip{b:aj}(hs:Small b):ye b=some (OW b):=by
 unfold ye OW
 rw [aa1 hs,aU]
 by_cases h1:iR b=0
 ·have hv:=wI.1 h1
  simp only [h1,bne_self_eq_false,bI,ne_eq,kY,if_false]
  rw [show (⟨b.Rest,b.Rows,b.aK,b.ax,b.ay,b.bg⟩:aj)=b from rfl,aiE hv,aU,List.length_map]
 ·simp only [h1,ne_eq,not_false_eq_true,if_true,s7 h1,bR]
def aKD:cD:=⟨⟨0,[],[],[],[],[]⟩,[]⟩
def ia(b:aj):cD:=⟨b,(cS b).map ov⟩
def il(b:aj)(own:Int):Int:=if iR b≠0 then iR b else if own≠0 then own else if cS b=[] then 9 else 0
theorem Hg{b:aj}{own:Int}(h:il b own=0):Valid b∧own=0∧cS b≠[]:=by
 unfold il at h
 split at h
 ·rename_i h1; exact absurd h h1
 ·rename_i h1
  split at h
  ·rename_i h2; exact absurd h h2
  ·rename_i h2
   split at h
   ·cases h
   ·rename_i h3; exact ⟨wI.1 (by simpa using h1),by simpa using h2,h3⟩
theorem afu{b:aj}{own:Int}(hv:Valid b)(h2:own=0)(h3:cS b≠[]):il b own=0:=by
 unfold il
 simp [wI.2 hv,h2,h3]
def zZ(b:aj)(own:Int):cD × Int:=if il b own≠0 then (aKD,il b own) else (ia b,0)
theorem FA{b:aj}(hs:Small b){f:aj→Option Int}{own:Int}(hf:iR b=0→f b=some own):pP b f=some (zZ b own):=by
 unfold pP zZ il
 rw [aa1 hs,aU]
 by_cases h1:iR b=0
 ·have hv:=wI.1 h1
  simp only [h1,bne_self_eq_false,bI,ne_eq,kY,if_false,hf h1,aU]
  by_cases h2:own=0
  ·simp only [h2,bne_self_eq_false,bI,kY,if_false,aiE hv,aU,List.length_map]
   cases hc:cS b with
   | nil=>rfl
   | cons c l =>
    rw [if_neg (by simp),show ((((c::l).length:Nat):Int) == 0)=false by simp; omega,bI]
    unfold ia
    rw [hc]
  ·simp only [h2,not_false_eq_true,if_true,s7 h2,bR]
   rfl
 ·simp only [h1,ne_eq,not_false_eq_true,if_true,s7 h1,bR]
  rfl
def abQ(b:aj)(n:Int):Int:=match b.Rows.find? (λ r=>decide (n≤r.fA)) with | some r=>r.fT | none=>0
theorem aId{b:aj}(hs:b.Rows.length≤20)(n:Int):yb b n=some (abQ b n):=by
 unfold yb abQ
 rw [aHY (l:=b.Rows) (λ r=>decide (n≤r.fA)) (λ r=>r.fT) (λ i hi=>?_) (by simp only [jk,bI])]
 ·cases b.Rows.find? (λ r=>decide (n≤r.fA)) <;> rfl
 ·simp only [dec_lt hi,bR,dD,bZ hi,aU,dS (i:=i) (by omega)]
  cases decide (n≤(nth b.Rows i).fA) <;> rfl
def Ov(b:aj)(i j:Nat):Bool:=decide ((nth b.ay i).jC+(nth b.ay i).gW+b.Rest≤(nth b.ay j).jC)
def Bb(b:aj)(i j:Nat):Bool:=Ov b i j || Ov b j i
theorem Valid.dv{b:aj}(h:Valid b){i:Nat}(hi:i < b.ay.length):ac0 b.aK.length (nth b.ay i):=h.aeU _ (nJ hi)
theorem aoa{b:aj}(hv:Valid b){i:Nat}(hi:i < b.ay.length):Bb b i i=false:=by
 have:=hv.dv hi
 have h2:=this.C9
 have h3:=hv.rest
 simp [Bb,Ov]
 omega
theorem aID{b:aj}(hv:Valid b){i j:Nat}(hi:i < b.ay.length)(hj:j < b.ay.length):Cj b (i:Int) (j:Int)=some (Bb b i j):=by
 have h1:=(hv.dv hi).UC
 have h2:=(hv.dv hi).C9
 have h3:=(hv.dv hj).UC
 have h4:=(hv.dv hj).C9
 have h5:=hv.rest
 unfold Cj
 simp only [dD,bZ hi,bZ hj,aU]
 rw [gZ (z:=(nth b.ay i).jC+(nth b.ay i).gW) (by omega) (by omega),gZ (by omega) (by omega),gZ (z:=(nth b.ay j).jC+(nth b.ay j).gW) (by omega) (by omega),gZ (by omega) (by omega),aHR]
 by_cases e:i=j
 ·subst e
  rw [aoa hv hi]
  simp [bI]
 ·simp only [e,ne_eq,not_false_eq_true,decide_true,bR,Bb,Ov,ge_iff_le]
  cases decide ((nth b.ay i).jC+(nth b.ay i).gW+b.Rest≤(nth b.ay j).jC) <;> rfl
def ES(b:aj)(n:Int):Bool:=dc n 0 ((b.ay.length:Int) - 1)
def ET(b:aj)(n:Int):Bool:=dc n 0 ((b.ax.length:Int) - 1)
theorem ahq{b:aj}{n:Int}:ES b n=true↔∃ i:Nat,n=(i:Int)∧i < b.ay.length:=by
 unfold ES
 rw [jH]
 constructor
 ·intro h; exact ⟨n.toNat,by omega,by omega⟩
 ·rintro ⟨i,rfl,h⟩; omega
theorem ahr{b:aj}{n:Int}:ET b n=true↔∃ i:Nat,n=(i:Int)∧i < b.ax.length:=by
 unfold ET
 rw [jH]
 constructor
 ·intro h; exact ⟨n.toNat,by omega,by omega⟩
 ·rintro ⟨i,rfl,h⟩; omega
def pR(n a:Nat):Bool:=UL a == some (cX n a) && decide ((cX n a).length≤4) &&
  ((List.range (cX n a).length).all λ i=>match c57 (cX n a) i with | some l=>(List.range (2 ^ n)).any λ c=>l == cX n c && pz l (cX n a) | none=>false)
def okN(n a c:Nat):Bool:=c58 (cX n a) (cX n c) == some (pz (cX n a) (cX n c)) && (match ON (cX n a) (cX n c) with | some z=>decide (z < 0) == rH (cX n a) (cX n c) | none=>false)
set_option maxRecDepth 1000000 in
theorem RE:((List.range 5).all λ n=>wF .i64 1 n == some ((2 ^ n:Nat):Int) && (List.range (2 ^ n)).all λ a=>pR n a && (List.range (2 ^ n)).all λ c=>okN n a c)=true:=by decide +kernel
set_option maxRecDepth 1000000 in
theorem aMP{n:Nat}(h:n < 5):wF .i64 1 (n:Int)=some ((2 ^ n:Nat):Int):=by
 have:=RE
 simp only [List.all_eq_true,List.mem_range,fF,beq_iff_eq] at this
 exact (this n h).1
theorem aid{n a:Nat}(h:n < 5)(ha:a < 2 ^ n):zL a=some (cX n a):=by
 have:=RE
 simp only [List.all_eq_true,List.mem_range,fF,beq_iff_eq] at this
 have h1:=((this n h).2 a ha).1
 simp only [pR,fF,beq_iff_eq] at h1
 exact ahz _ _ h1.1.1
theorem aKp{n a:Nat}(h:n < 5)(ha:a < 2 ^ n):(cX n a).length≤4:=by
 have:=RE
 simp only [List.all_eq_true,List.mem_range,fF,beq_iff_eq] at this
 have h1:=((this n h).2 a ha).1
 simp only [pR,fF,beq_iff_eq,decide_eq_true_eq] at h1
 exact h1.1.2
theorem aKm{n a c:Nat}(h:n < 5)(ha:a < 2 ^ n)(hc:c < 2 ^ n):Rw (cX n a) (cX n c)=some (pz (cX n a) (cX n c))∧∃ z,E9 (cX n a) (cX n c)=some z∧decide (z < 0)=rH (cX n a) (cX n c):=by
 have:=RE
 simp only [List.all_eq_true,List.mem_range,fF,beq_iff_eq] at this
 have h1:=((this n h).2 a ha).2 c hc
 simp only [okN,fF,beq_iff_eq] at h1
 refine ⟨aHH _ _ _ h1.1,?_⟩
 have h8:=h1.2
 cases hz:ON (cX n a) (cX n c) with
 | none=>rw [hz] at h8; cases h8
 | some z=>rw [hz] at h8; exact ⟨z,ahC _ _ _ hz,by simpa using h8⟩
theorem aMV{n:Nat}{P:Nat→Bool}:∀ {k:Nat},(fE n P k).2=true→∃ c,c < k∧(fE n P k).1=cX n c:=by
 intro k h
 rcases Sx n P k with ⟨h1,_⟩ | ⟨_,⟨a,ha,_,he⟩,_⟩
 ·rw [h1] at h; cases h
 ·exact ⟨a,ha,he⟩
theorem aia{n:Nat}(hn:n < 5){f:Int→Option Bool}{P:Nat→Bool}(hf:∀ a:Nat,a < 2 ^ n→f (a:Int)=some (P a)):zJ (n:Int) f=some (fE n P (2 ^ n)):=by
 have hp:=abu hn
 unfold zJ
 rw [aMP hn,aU]
 rw [lO (o:=fE n P (2 ^ n)) ?_]
 have e0:(([]:List Int),false,(0:Int))=(λ i:Nat=>((fE n P i).1,(fE n P i).2,(i:Int))) 0:=rfl
 rw [e0]
 refine ya (λ i:Nat=>((fE n P i).1,(fE n P i).2,(i:Int))) (2 ^ n) (λ i hi=>?_) (by simp only [jk,bI])
 simp only [dec_lt hi,bR,aid hn hi,aU,hf i hi,dS (i:=i) (by omega),fE,I3]
 cases hs:(fE n P i).2 with
 | false=>cases P i <;> simp [bR,bI,hs]
 | true =>
  obtain ⟨c,hc,ec⟩:=aMV hs
  obtain ⟨z,hz1,hz2⟩:=(aKm hn hi (by omega:c < 2 ^ n)).2
  simp only [ec,Bool.not_true,bI,hz1,aU,hz2,Bool.false_or,pz]
  by_cases h1:(cX n i).length < (cX n c).length
  ·have xo:decide (((cX n i).length:Int) < ((cX n c).length:Int))=true:=dec_lt h1
   simp only [xo,bR,h1,decide_true,Bool.true_or,Bool.true_and,aU]
   cases P i <;> simp [bR,bI,hs,ec]
  ·have xo:decide (((cX n i).length:Int) < ((cX n c).length:Int))=false:=by simpa using h1
   simp only [xo,bI,h1,decide_false,Bool.false_or]
   by_cases h2:(cX n i).length=(cX n c).length
   ·rw [h2]
    simp only [beq_self_eq_true,bR,Bool.true_and]
    cases rH (cX n i) (cX n c) with
    | true =>
     simp only [bR,Bool.true_and,aU]
     cases P i <;> simp [bR,bI,hs,ec]
    | false=>simp [bI,hs,ec]
   ·have VY:(((cX n i).length:Int) == ((cX n c).length:Int))=false:=by simpa using (by omega:¬ ((cX n i).length:Int)=((cX n c).length:Int))
    have asY:((cX n i).length == (cX n c).length)=false:=by simpa using h2
    simp [VY,asY,bI,hs,ec]
def Te(b:aj)(l:List dp):aj:=⟨b.Rest,b.Rows,b.aK,b.ax,b.ay,l⟩
theorem ao7(b:aj)(l:List dp):cS (Te b l)=(lvl (Br b) b.aK.length).filter λ c=>l.all λ s=>decide (nth c s.Place.toNat≤s.iQ) == s.mO:=rfl
theorem aKo{n a:Nat}{k:Int}(h:k∈cX n a):0≤k∧k < (n:Int):=(aiL.1 h).1
theorem ah5{b:aj}(hv:Valid b){f:bz→Option Bool}{p:List Int→Bool}(hf:∀ c∈cS b,f (ov c)=some (p c)):vQ (ia b) f=some (((cS b).filter p).length:Int):=by
 have h27:=OU hv
 unfold vQ ia
 simp only [List.length_map]
 rw [lO (o:=(((cS b).filter p).length:Int)) (aHW (l:=cS b) p (λ i n hi hn=>?_) (λ n=>by simp only [jk,bI]))]
 have e:((cS b).map ov)[i]? = some (ov (nth (cS b) i)):=by rw [List.getElem?_map,bZ hi]; rfl
 simp only [dec_lt hi,bR,dD,e,aU,hf _ (nJ hi),dS (i:=i) (by omega),dS (i:=n) (by omega)]
 cases p (nth (cS b) i) <;> rfl
theorem aIf{b:aj}{n:Nat}:zF (ia b) (n:Int)=some (og n (cS b).length):=by
 unfold zF ia og
 simp only [List.length_map,aGJ]
 by_cases h:n=0
 ·simp [h,bR]
 ·have e:((n:Int) == ((cS b).length:Int))=decide (n=(cS b).length):=by rw [Bool.eq_iff_iff,beq_iff_eq,decide_eq_true_iff]; omega
  rw [e,if_neg h,show (n == 0)=false by simpa using h,bI]
  by_cases h2:n=(cS b).length
  ·rw [if_pos h2,gk h2,bR]
  ·rw [if_neg h2,jA h2,bI]
theorem ak9{b:aj}(hv:Valid b){c:List Int}(hc:c.length=b.aK.length){i:Nat}(hi:i < b.aK.length):idx (ov c).deep (i:Int)=some (nth c i):=by
 have h3:=hv.p3
 have h:=aeH (c:=c) (by omega)
 rw [dD,bZ (l:=(ov c).deep) (show i < (Ha [0,0,0] c).length by omega)]
 exact congrArg some (h.2.1 i (by omega))
set_option maxRecDepth 1000000 in
theorem aJY{b:aj}(hs:b.bg.length≤1000)(s:dp):yi b s=some (Te b (b.bg++[s])):=by
 unfold yi
 rw [xd (by simp; omega),aU,xd (by simp; omega),aU]
 rfl
theorem aeC(b:aj)(s:dp):cS (Te b (b.bg++[s]))=(cS b).filter λ c=>decide (nth c s.Place.toNat≤s.iQ) == s.mO:=by
 rw [ao7]
 unfold cS
 rw [List.filter_filter]
 congr 1
 funext c
 rw [List.all_append]
 simp [CO,Bool.and_comm]
theorem abB{x:Int}{n:Nat}(h0:0≤x)(h:x < 256)(hn:0 < n):FR (i64 x) (n:Int)=some ((x.toNat % n:Nat):Int):=by
 rw [gZ (by omega) (by omega)]
 unfold FR
 obtain ⟨m,rfl⟩:=Int.eq_ofNat_of_zero_le h0
 rw [if_neg (by omega),eH,Int.ofNat_tmod]
def gO(c:List Int):List Bool:=(List.range 4).map λ (k:Nat)=>c.contains (k:Int)
def eY(r:List (List Int)):List Bool:=(List.range 16).map λ p=>(nth r (p / 4)).contains ((p % 4:Nat):Int)
theorem abD(r:List (List Int)):(eY r).length=16:=by simp [eY]
theorem ajN(r:List (List Int)){p:Nat}(hp:p < 16):(eY r)[p]? = some ((nth r (p / 4)).contains ((p % 4:Nat):Int)):=by
 unfold eY
 rw [List.getElem?_map,List.getElem?_range hp]
 rfl
theorem Bt(c:List Int){k:Nat}(hk:k < 4):idx (gO c) (k:Int)=some (c.contains (k:Int)):=by
 unfold gO
 rw [dD,List.getElem?_map,List.getElem?_range hk]
 rfl
theorem Nh(r:List (List Int)){i:Nat}(hi:i < 4):ib 4 (eY r) (i:Int)=some (gO (nth r i)):=by
 match i,hi with
 | 0,_=>rfl
 | 1,_=>rfl
 | 2,_=>rfl
 | 3,_=>rfl
theorem aMs{r r':List (List Int)}(h:∀ i k:Nat,i < 4→k < 4→(nth r i).contains (k:Int)=(nth r' i).contains (k:Int)):eY r=eY r':=by
 unfold eY
 refine List.map_congr_left λ p hp=>?_
 rw [List.mem_range] at hp
 exact h (p / 4) (p % 4) (by omega) (by omega)
theorem ajU{r r':List (List Int)}{i k:Nat}(_:i < 4)(hk:k < 4){x:Bool}(h:∀ j m:Nat,j < 4→m < 4→(nth r' j).contains (m:Int)=if j=i∧m=k then x else (nth r j).contains (m:Int)):lS 4 (eY r) (i:Int) (k:Int) x=eY r':=by
 unfold lS
 rw [eH,eH]
 refine List.ext_getElem? λ p=>?_
 by_cases hp:p < 16
 ·rw [List.getElem?_set,ajN r' hp,ajN r hp,abD,h (p / 4) (p % 4) (by omega) (by omega)]
  by_cases e:i * 4+k=p
  ·rw [if_pos e,if_pos (by omega),if_pos ⟨by omega,by omega⟩]
  ·rw [if_neg e,if_neg (λ hc=>e (by omega))]
 ·rw [List.getElem?_eq_none (by rw [List.length_set,abD]; omega),List.getElem?_eq_none (by rw [abD]; omega)]
theorem ajP(p:List (List Int)):eY (p++[[]])=eY p:=aMs λ i k _ _=>by
 by_cases h:i < p.length
 ·rw [zW h]
 ·have e1:nth p i=[]:=by unfold nth; rw [qZ,List.getElem?_eq_none (by omega)]; rfl
  have e2:nth (p++[[]]) i=[]:=by
   by_cases h2:i=p.length
   ·subst h2; exact zV
   ·unfold nth; rw [qZ,List.getElem?_eq_none (by simp; omega)]; rfl
  rw [e1,e2]
def pQ(b:aj)(c:List Int)(k i:Nat):Bool:=decide (nth c (nth b.ay i).Place.toNat≤(nth b.ax k).nv) && decide ((nth b.ay i).gW≤abQ b (nth c (nth b.ay i).Place.toNat))
theorem ah6{b:aj}(hv:Valid b){c:List Int}(hc:c.length=b.aK.length){k i:Nat}(hk:k < b.ax.length)(hi:i < b.ay.length):zG b (ov c) (k:Int) (i:Int)=some (pQ b c k i):=by
 have hp:=(hv.dv hi).place
 unfold zG pQ
 have e:idx (ov c).deep (nth b.ay i).Place=some (nth c (nth b.ay i).Place.toNat):=by
  have:=ak9 hv hc (i:=(nth b.ay i).Place.toNat) (by omega)
  rwa [Int.toNat_of_nonneg hp.1] at this
 simp only [dD,bZ hi,bZ hk,aU,e,aId (show b.Rows.length≤20 by have:=hv.r4; omega)]
 cases decide (nth c (nth b.ay i).Place.toNat≤(nth b.ax k).nv) <;> rfl
def pn(b:aj)(i k:Nat):Bool:=(cS b).all λ c=>pQ b c k i
def qh(b:aj):List Bool:=(List.range 16).map λ p=>if p / 4 < b.ay.length∧p % 4 < b.ax.length then pn b (p / 4) (p % 4) else false
theorem aGK{b:aj}(hv:Valid b){i k:Nat}(hi:i < b.ay.length)(hk:k < b.ax.length):rG (ia b) i k=some (pn b i k):=by
 unfold rG
 rw [ah5 hv (p:=λ c=>pQ b c k i) (λ c hc=>by unfold zO; rw [show (ia b).book=b from rfl,ah6 hv (RH.1 hc).1.1 hk hi]; rfl),aU]
 congr 1
 rw [show ((ia b).fH.length:Int)=((cS b).length:Int) by simp [ia],Bool.eq_iff_iff,beq_iff_eq]
 unfold pn
 rw [List.all_eq_true]
 constructor
 ·intro h
  have h:((cS b).filter λ c=>pQ b c k i).length=(cS b).length:=by omega
  rw [List.length_filter_eq_length_iff] at h
  exact h
 ·intro h
  have:((cS b).filter λ c=>pQ b c k i).length=(cS b).length:=List.length_filter_eq_length_iff.2 h
  omega
theorem mapM_some{α β:Type}{f:α→Option β}{g:α→β}:∀ {l:List α},(∀ x∈l,f x=some (g x))→l.mapM f=some (l.map g)
 | [],_=>rfl
 | a::l,h=>by
  rw [List.mapM_cons,h a (by simp),mapM_some λ x hx=>h x (by simp [hx])]
  rfl
theorem Rn{b:aj}(hv:Valid b):um (ia b)=some (qh b):=by
 unfold um qh
 rw [show (ia b).book=b from rfl,if_pos ⟨⟨hv.d1,hv.d4⟩,hv.m1,hv.m4⟩]
 refine mapM_some λ p _=>?_
 by_cases h:p / 4 < b.ay.length∧p % 4 < b.ax.length
 ·rw [if_pos h,if_pos h,aGK hv h.1 h.2]
 ·rw [if_neg h,if_neg h]
theorem anl{b:aj}{i:Nat}(hi:i < 4):∃ g,ib 4 (qh b) (i:Int)=some g∧∀ k:Nat,k < 4→idx g (k:Int)=some (if i < b.ay.length∧k < b.ax.length then pn b i k else false):=by
 have e:ib 4 (qh b) (i:Int)=some ((List.range 4).map λ k=>if i < b.ay.length∧k < b.ax.length then pn b i k else false):=by
  match i,hi with
  | 0,_=>rfl
  | 1,_=>rfl
  | 2,_=>rfl
  | 3,_=>rfl
 refine ⟨_,e,λ k hk=>?_⟩
 rw [dD,List.getElem?_map,List.getElem?_range hk]
 rfl
def fL(b:aj)(g:List Bool)(o:Nat):RB:=⟨b.ax.length,b.ay.length,λ i=>(nth b.ay i).ax.toNat,λ i k=>nth g k && pn b i k,Bb b,λ i=>o.testBit i⟩
set_option maxRecDepth 1000000 in
theorem aoI:((List.range 16).all λ x=>(List.range 5).all λ i=>((lT .i64 x i).bind λ y=>fP .and .i64 y 1) == some (if x.testBit i then 1 else 0))=true:=by decide +kernel
theorem aoH{x i:Nat}(h:x < 16)(hi:i < 5):(lT .i64 (x:Int) (i:Int)).bind (λ y=>fP .and .i64 y 1)=some (if x.testBit i then 1 else 0):=by
 have:=aoI
 simp only [List.all_eq_true,List.mem_range,beq_iff_eq] at this
 exact this x h i hi
theorem aIk{b:aj}(hv:Valid b){pre:List (List Int)}{c:List Int}(hi:pre.length < b.ay.length)(hc:∀ k∈c,0≤k∧k < (b.ax.length:Int))(g:List Bool)(o:Nat):zH b (eY (pre++[c])) (pre.length:Int)=some (CK (fL b g o) pre pre.length c):=by
 have hd:=hv.d4
 have hm:=hv.m4
 unfold zH CK
 rw [aaC (n:=pre.length) (λ j=>(fL b g o).ap j pre.length || !meet c (nth pre j)) false (λ j hj=>?_) (by simp only [jk,bI])]
 ·cases (List.range pre.length).all λ j=>(fL b g o).ap j pre.length || !meet c (nth pre j) <;> rfl
 ·simp only [dec_lt hj,bR,aID hv (show j < b.ay.length by omega) hi,aU,show (fL b g o).ap j pre.length=Bb b j pre.length from rfl]
  cases Bb b j pre.length with
  | true=>simp only [bR,Bool.true_or,if_true,dS (i:=j) (by omega)]
  | false =>
   simp only [bI,Bool.false_or]
   rw [aaC (n:=b.ax.length) (λ k=>!((nth pre j).contains (k:Int) && c.contains (k:Int))) false (λ k hk=>?_) (by simp only [jk,bI])]
   ·have e:((List.range b.ax.length).all λ k=>!((nth pre j).contains (k:Int) && c.contains (k:Int)))=!meet c (nth pre j):=by
     rw [Bool.eq_iff_iff,Bool.not_eq_true',aKt,List.all_eq_true]
     constructor
     ·intro h k hk Xu
      have hb:=hc k hk
      have:=h k.toNat (by rw [List.mem_range]; omega)
      rw [Int.toNat_of_nonneg hb.1] at this
      simp [hk,Xu] at this
     ·intro h k _
      rw [Bool.not_eq_true',Bool.and_eq_false_iff]
      by_cases hk:(k:Int)∈c
      ·exact .inl (by have:=h _ hk; simpa using this)
      ·exact .inr (by simpa using hk)
    rw [e]
    cases meet c (nth pre j) with
    | true=>rfl
    | false=>simp only [Bool.not_false,if_true,aU,Sum.elim_inl,dS (i:=j) (by omega)]
   ·simp only [dec_lt hk,bR,Nh _ (show j < 4 by omega),Nh _ (show pre.length < 4 by omega),aU,Bt _ (show k < 4 by omega),zW hj,zV,dS (i:=k) (by omega)]
    cases (nth pre j).contains (k:Int) <;> cases c.contains (k:Int) <;> rfl
theorem aLU{β:Type}(n k0:Nat)(h:k0≤n)(p:Nat→Bool)(f:Nat→List β):((List.range n).filter λ m=>p m && decide (k0≤m)).flatMap f=(List.range (n - k0)).flatMap λ j=>if p (k0+j)=true then f (k0+j) else []:=by
 obtain ⟨d,rfl⟩:∃ d,n=k0+d:=⟨n - k0,by omega⟩
 rw [List.range_add,List.filter_append,List.flatMap_append]
 have e1:((List.range k0).filter λ m=>p m && decide (k0≤m))=[]:=by
  rw [List.filter_eq_nil_iff]
  intro m hm
  rw [List.mem_range] at hm
  simp only [fF,decide_eq_true_eq,not_and]
  omega
 rw [e1,List.flatMap_nil,List.nil_append,Nat.add_sub_cancel_left,List.filter_map,List.flatMap_map,← asF]
 rw [List.flatMap_assoc]
 congr 1
 funext j
 simp only [Function.comp_apply,Nat.le_add_right,decide_true,Bool.and_true]
 cases p (k0+j) <;> simp
def AW(c:List Int)(k0:Nat):Prop:=∀ m:Nat,(c.all λ x=>decide (x < (m:Int)))=decide (k0≤m)
theorem asN:AW [] 0:=λ m=>by simp
theorem AW.snoc{c:List Int}{k0 k:Nat}(h:AW c k0)(hk:k0≤k):AW (c++[(k:Int)]) (k+1):=λ m=>by
 rw [List.all_append,h m,Bool.eq_iff_iff]
 simp only [List.all_cons,List.all_nil,Bool.and_true,fF,decide_eq_true_eq]
 omega
abbrev apd(A:RB)(i:Nat):Nat→List Int→List Int:=λ _ p=>Hb A.n (A.ok i) p
theorem ape{A:RB}{i:Nat}{c:List Int}{k0:Nat}(hf:AW c k0)(h:k0≤A.n){β:Type}(f:Int→List β):(Hb A.n (A.ok i) c).flatMap f=(List.range (A.n - k0)).flatMap λ j=>if A.ok i (k0+j)=true then f ((k0+j:Nat):Int) else []:=by
 unfold Hb ou
 rw [List.filter_map,List.flatMap_map,← aLU A.n k0 h (A.ok i) λ m=>f (m:Int)]
 congr 1
 refine List.filter_congr λ m _=>?_
 simp only [Function.comp_apply,eH,hf m]
def yr(A:RB)(d:Nat)(pre:List (List Int))(left:Nat)(c:List Int):List (List Bool) :=
 (((tree (apd A pre.length) left c.length c).filter (CK A pre pre.length)).flatMap λ c'=>tree (tf A) d (pre.length+1) (pre++[c'])).map eY
def se(A:RB)(d:Nat)(pre:List (List Int)):List (List Bool):=(tree (tf A) d pre.length pre).map eY
theorem asP{A:RB}{d:Nat}{pre:List (List Int)}(h:A.out pre.length=true):se A (d+1) pre=se A d (pre++[[]]):=by
 unfold se
 simp only [tree,tf,h,if_true,List.flatMap_cons,List.flatMap_nil,List.append_nil,ns,List.length_cons,List.length_nil]
theorem asO{A:RB}{d:Nat}{pre:List (List Int)}(h:A.out pre.length=false):se A (d+1) pre=yr A d pre (A.iA pre.length) []:=by
 unfold se yr
 simp only [tree,tf,h,l6,if_false,List.length_nil]
 rw [ab0]
 rfl
theorem aLE{A:RB}{d:Nat}{pre:List (List Int)}{c:List Int}:yr A d pre 0 c=if CK A pre pre.length c=true then se A d (pre++[c]) else []:=by
 unfold yr se
 simp only [tree,List.filter_cons,List.filter_nil,ns,List.length_cons,List.length_nil]
 split <;> simp
theorem aLF{A:RB}{d:Nat}{pre:List (List Int)}{c:List Int}{left k0:Nat}(hf:AW c k0)(h:k0≤A.n):yr A d pre (left+1) c=(List.range (A.n - k0)).flatMap λ j=>if A.ok pre.length (k0+j)=true then yr A d pre left (c++[((k0+j:Nat):Int)]) else []:=by
 unfold yr
 simp only [tree]
 rw [ape (A:=A) (i:=pre.length) hf h]
 simp only [List.filter_flatMap,List.flatMap_assoc,List.map_flatMap]
 congr 1
 funext j
 split <;> simp
theorem aIP{b:aj}(hv:Valid b){g:List Bool}(hg:g.length=4){o:Nat}(ho:o < 16){S:Type}(ys:List Bool→S→Option (S × Bool)):∀ d:Nat,
  (∀ (pre:List (List Int)) (f:Nat) (s:S) (r:S × Bool),pre.length+d=b.ay.length→5 * d < f→kE ys (se (fL b g o) d pre) s=some r→(kP ys f).1 (eY pre) (pre.length:Int) (ia b) (o:Int) g (qh b) s=some r) ∧
  (∀ (left:Nat) (pre:List (List Int)) (c:List Int) (k0 f:Nat) (s:S) (r:S × Bool),pre.length+d+1=b.ay.length→5 * d+left+1 < f→AW c k0→k0≤b.ax.length→(∀ k∈c,0≤k∧k < (b.ax.length:Int))→left≤3→kE ys (yr (fL b g o) d pre left c) s=some r →
   (kP ys f).2 (eY (pre++[c])) (pre.length:Int) (k0:Int) (left:Int) (ia b) (o:Int) g (qh b) s=some r):=by
 have hd:=hv.d4
 have hm:=hv.m4
 have two:∀ d:Nat,(∀ (pre:List (List Int)) (f:Nat) (s:S) (r:S × Bool),pre.length+d=b.ay.length→5 * d < f→kE ys (se (fL b g o) d pre) s=some r→(kP ys f).1 (eY pre) (pre.length:Int) (ia b) (o:Int) g (qh b) s=some r) →
   (∀ (left:Nat) (pre:List (List Int)) (c:List Int) (k0 f:Nat) (s:S) (r:S × Bool),pre.length+d+1=b.ay.length→5 * d+left+1 < f→AW c k0→k0≤b.ax.length→(∀ k∈c,0≤k∧k < (b.ax.length:Int))→left≤3→kE ys (yr (fL b g o) d pre left c) s=some r →
   (kP ys f).2 (eY (pre++[c])) (pre.length:Int) (k0:Int) (left:Int) (ia b) (o:Int) g (qh b) s=some r):=by
  intro d one left
  induction left with
  | zero =>
   intro pre c k0 f s r hl hf sG hk0 hc _ hr
   obtain ⟨f,rfl⟩:∃ f',f=f'+1:=⟨f - 1,by omega⟩
   unfold kP
   simp only [Int.natCast_zero,beq_self_eq_true,bR]
   rw [show (ia b).book=b from rfl,aIk hv (by omega) hc g o,aU]
   rw [aLE] at hr
   cases ag5:CK (fL b g o) pre pre.length c with
   | false =>
    rw [ag5] at hr
    simp only [l6,if_false,kE,j8] at hr
    subst hr
    rfl
   | true =>
    rw [ag5,if_pos rfl] at hr
    have:=one (pre++[c]) f s r (by simp; omega) (by omega) hr
    rw [show (((pre++[c]).length:Nat):Int)=((pre.length+1:Nat):Int) by simp] at this
    simp only [Bool.not_true,bI,dS (i:=pre.length) (by omega),this,aU]
  | succ left ih =>
   intro pre c k0 f s r hl hf sG hk0 hc h3 hr
   obtain ⟨f,rfl⟩:∃ f',f=f'+1:=⟨f - 1,by omega⟩
   unfold kP
   simp only [show (((left+1:Nat):Int) == 0)=false by simp; omega,bI,show (ia b).book=b from rfl]
   rw [aLF (A:=fL b g o) sG hk0,List.range_eq_range'] at hr
   obtain ⟨gr,hgr,hgk⟩:=anl (b:=b) (i:=pre.length) (by omega)
   refine Exists.elim (aaA (ys:=ys) (S:=S) (X:=Int × List Bool) (O:=S ⊕ (S × Bool)) (λ j=>if (fL b g o).ok pre.length (k0+j)=true then yr (fL b g o) d pre left (c++[((k0+j:Nat):Int)]) else []) ((fL b g o).n - k0)
    (λ j x=>x=(((k0+j:Nat):Int),eY (pre++[c]))) (λ s o=>o = .inl s) (λ s o=>o = .inr (s,false)) (body:=λ (bP:(S × Int × (List Bool))) =>
  af (decide (bP.2.1 < (b.ax.length:Int)))
  (((((idx g bP.2.1).bind λ JB =>
  af (!JB)
  (some true)
  ((ib 4 (qh b) (pre.length:Int)).bind λ AR =>
  (idx AR bP.2.1).bind λ JD =>
  some (!JD))):Option Bool)).bind (λ (CH:Bool) =>
  af CH
  (some (.inl (bP.1,i64 (bP.2.1+1),bP.2.2)))
  ((ib 4 bP.2.2 (pre.length:Int)).bind λ JE =>
  (idx JE bP.2.1).bind λ j7 =>
  ((kP ys f).2 (lS 4 bP.2.2 (pre.length:Int) bP.2.1 true) (pre.length:Int) (i64 (bP.2.1+1)) (i64 (((left+1:Nat):Int) - 1)) (ia b) (o:Int) g (qh b) bP.1).bind λ mA =>
  af (!mA.2)
  (some (.inr (.inr (mA.1,false))))
  ((ib 4 (lS 4 bP.2.2 (pre.length:Int) bP.2.1 true) (pre.length:Int)).bind λ pe =>
  (idx pe bP.2.1).bind λ tD =>
  some (.inl (mA.1,i64 (bP.2.1+1),lS 4 (lS 4 bP.2.2 (pre.length:Int) bP.2.1 true) (pre.length:Int) bP.2.1 false))))))
  (some (.inr (.inl bP.1)))) (λ j s x r hj hI hr=>?_) (λ s x hI=>?_) ((fL b g o).n - k0) 0 s ((k0:Int),eY (pre++[c])) r (by omega) rfl hr) ?_
   ·subst hI
    have iy:k0+j < b.ax.length:=by have:(fL b g o).n=b.ax.length:=rfl; omega
    have Lr:idx g ((k0+j:Nat):Int)=some (nth g (k0+j)):=by rw [dD]; exact bZ (by omega)
    have Hr:=hgk (k0+j) (by omega)
    rw [if_pos ⟨by omega,iy⟩] at Hr
    have gY:(fL b g o).ok pre.length (k0+j)=(nth g (k0+j) && pn b pre.length (k0+j)):=rfl
    simp only [dec_lt iy,bR,Lr,aU,hgr,Hr,dS (i:=k0+j) (by omega)]
    cases En:(nth g (k0+j) && pn b pre.length (k0+j)) with
    | false =>
     rw [gY,En] at hr
     simp only [l6,if_false,kE,j8] at hr
     subst hr
     simp only [if_true]
     refine ⟨_,?_,rfl⟩
     rw [Bool.and_eq_false_iff] at En
     rcases En with h | h
     ·rw [h]; rfl
     ·rw [h]
      cases nth g (k0+j) <;> rfl
    | true =>
     rw [gY,En,if_pos rfl] at hr
     rw [fF] at En
     have hnc:¬ ((k0+j:Nat):Int)∈c:=λ qy=>by
      have:=sG (k0+j)
      rw [gk (by omega:k0≤k0+j),List.all_eq_true] at this
      have:=this _ qy
      simp at this
     have cont:∀ j' m:Nat,(nth (pre++[c++[((k0+j:Nat):Int)]]) j').contains (m:Int)=if j'=pre.length∧m=k0+j then true else (nth (pre++[c]) j').contains (m:Int):=by
      intro j' m
      by_cases e:j'=pre.length
      ·subst e
       rw [zV,zV]
       by_cases em:m=k0+j
       ·rw [if_pos ⟨rfl,em⟩,em]; simp
       ·rw [if_neg (λ h=>em h.2),Bool.eq_iff_iff,List.contains_iff_mem,List.contains_iff_mem,List.mem_append,List.mem_singleton]
        exact ⟨λ h=>h.resolve_right (by omega),.inl⟩
      ·rw [if_neg (λ h=>e h.1)]
       by_cases e2:j' < pre.length
       ·rw [zW e2,zW e2]
       ·have q:∀ z:List Int,nth (pre++[z]) j'=[]:=λ z=>by unfold nth; rw [qZ,List.getElem?_eq_none (by simp; omega)]; rfl
        rw [q,q]
     have s1:lS 4 (eY (pre++[c])) (pre.length:Int) ((k0+j:Nat):Int) true=eY (pre++[c++[((k0+j:Nat):Int)]]):=ajU (by omega) (by omega) λ j' m _ _=>cont j' m
     have s2:lS 4 (eY (pre++[c++[((k0+j:Nat):Int)]])) (pre.length:Int) ((k0+j:Nat):Int) false=eY (pre++[c]):=ajU (by omega) (by omega) λ j' m _ _=>by
      rw [cont j' m]
      by_cases e:j'=pre.length∧m=k0+j
      ·rw [if_pos e,e.1,e.2,zV]
       simpa using hnc
      ·rw [if_neg e,if_neg e]
     have ay6:=ih pre (c++[((k0+j:Nat):Int)]) (k0+j+1) f s r hl (by omega) (sG.snoc (by omega)) (by omega) (λ k hk=>by
      rw [List.mem_append,List.mem_singleton] at hk
      rcases hk with hk | rfl
      ·exact hc k hk
      ·omega) (by omega) hr
     simp only [En.1,En.2,Bool.not_true,bI,aU,Nh _ (show pre.length < 4 by omega),Bt _ (show k0+j < 4 by omega),s1,mf (i:=left+1) (by omega) (by omega),Nat.add_sub_cancel,ay6,s2]
     cases XV:r.2 with
     | true=>exact ⟨(((k0+(j+1):Nat):Int),eY (pre++[c])),by simp only [Bool.not_true,bI,Nat.add_assoc],rfl⟩
     | false=>exact ⟨.inr (r.1,false),by simp only [Bool.not_false,bR],rfl⟩
   ·subst hI
    refine ⟨.inl s,?_,rfl⟩
    rw [show k0+((fL b g o).n - k0)=b.ax.length from by have:(fL b g o).n=b.ax.length:=rfl; omega]
    simp only [jk,bI]
   ·rintro q ⟨hq,fe⟩
    have XM:=hq
    refine (lO XM).trans ?_
    split at fe
    ·rename_i h2; subst fe
     obtain ⟨r1,r2⟩:=r
     simp only at h2
     subst h2
     rfl
    ·rename_i h2; subst fe
     obtain ⟨r1,r2⟩:=r
     simp only [Bool.not_eq_true] at h2
     subst h2
     rfl
 intro d
 induction d with
 | zero =>
  have one:∀ (pre:List (List Int)) (f:Nat) (s:S) (r:S × Bool),pre.length+0=b.ay.length→5 * 0 < f→kE ys (se (fL b g o) 0 pre) s=some r→(kP ys f).1 (eY pre) (pre.length:Int) (ia b) (o:Int) g (qh b) s=some r:=by
   intro pre f s r hl hf hr
   obtain ⟨f,rfl⟩:∃ f',f=f'+1:=⟨f - 1,by omega⟩
   simp only [se,tree,List.map_cons,List.map_nil,kE] at hr
   obtain ⟨q,hq,hr⟩:=ag hr
   unfold kP
   simp only
   rw [show (ia b).book=b from rfl,show ((pre.length:Int) == (b.ay.length:Int))=true by simp; omega,bR,hq,aU]
   obtain ⟨q1,q2⟩:=q
   cases q2 <;> simpa using hr
  exact ⟨one,two 0 one⟩
 | succ d ih =>
  have one:∀ (pre:List (List Int)) (f:Nat) (s:S) (r:S × Bool),pre.length+(d+1)=b.ay.length→5 * (d+1) < f→kE ys (se (fL b g o) (d+1) pre) s=some r→(kP ys f).1 (eY pre) (pre.length:Int) (ia b) (o:Int) g (qh b) s=some r:=by
   intro pre f s r hl hf hr
   obtain ⟨f,rfl⟩:∃ f',f=f'+1:=⟨f - 1,by omega⟩
   have hi:pre.length < b.ay.length:=by omega
   have hb:=aoH (x:=o) (i:=pre.length) ho (by omega)
   obtain ⟨y,hy,hb⟩:=ag hb
   unfold kP
   simp only
   rw [show (ia b).book=b from rfl,show ((pre.length:Int) == (b.ay.length:Int))=false by simp; omega,bI,hy,aU,hb,aU]
   cases zh:o.testBit pre.length with
   | true =>
    rw [asP (A:=fL b g o) zh] at hr
    have:=ih.1 (pre++[[]]) f s r (by simp; omega) (by omega) hr
    rw [ajP,show (pre++[([]:List Int)]).length=pre.length+1 by simp] at this
    simp only [if_true,beq_self_eq_true,bR,dS (i:=pre.length) (by omega),this,aU]
   | false =>
    rw [asO (A:=fL b g o) zh] at hr
    have aX3:=(hv.dv hi).sZ
    have:=ih.2 (nth b.ay pre.length).ax.toNat pre [] 0 f s r (by omega) (by omega) asN (by omega) (by simp) (by omega) hr
    rw [ajP,Int.toNat_of_nonneg (by omega)] at this
    simp only [l6,if_false,show ((0:Int) == 1)=false from rfl,bI,dD,bZ hi,aU]
    rw [show ((0:Nat):Int)=0 from rfl] at this
    rw [this]
    rfl
  exact ⟨one,two (d+1) one⟩
theorem apf{n iA:Nat}{ok:Nat→Bool}(hn:n≤4):(Bj n iA ok).length≤16:=by
 have h:=aaw (l:=Bj n iA ok) (m:=(List.range (2 ^ n)).map (cX n)) id (aiW ajQ (aeJ n iA ok)) (λ x _ y _ h=>h) (λ c hc=>by
  have h1:=Cy.1 hc
  obtain ⟨a,ha,e⟩:=aKq h1.2.1 (λ k hk=>⟨(h1.2.2 k hk).1,(h1.2.2 k hk).2.1⟩)
  exact List.mem_map.2 ⟨a,List.mem_range.2 ha,e.symm⟩)
 rw [List.length_map,List.length_range] at h
 exact Nat.le_trans h (abu (by omega))
theorem ahX{α:Type}{ext:Nat→List α→List α}{m:Nat}(h:∀ i p,(ext i p).length≤m):∀ n,(lvl ext n).length≤m ^ n
 | 0=>by simp [lvl]
 | n+1=>by
  have ih:=ahX h n
  simp only [lvl]
  refine Nat.le_trans (VW _ m (λ a=>by rw [List.length_map]; exact h _ _) _) ?_
  rw [Nat.pow_succ]
  exact Nat.mul_le_mul_right m ih
theorem aMu{A:RB}(hn:A.n≤4)(hd:A.D≤4):(pS A).length≤65536:=by
 refine Nat.le_trans (ahX (m:=16) (λ i p=>?_) A.D) ?_
 ·unfold tf
  split
  ·simp
  ·exact Nat.le_trans (List.length_filter_le _ _) (apf hn)
 ·calc 16 ^ A.D≤16 ^ 4:=Nat.pow_le_pow_right (by omega) hd
   _=65536:=by decide
theorem Rp{b:aj}(hv:Valid b){g:List Bool}(hg:g.length=4){o:Nat}(ho:o < 16){S:Type}(ys:List Bool→S→Option (S × Bool)){s:S}{r:S × Bool}(hr:kE ys ((pS (fL b g o)).map eY) s=some r) :
  qF ys (ia b) (o:Int) g (qh b) s=some r.1:=by
 unfold qF
 have h:=(aIP hv hg ho ys b.ay.length).1 [] 40 s r (by simp) (by have:=hv.d4; omega) (by
  unfold se
  rw [List.length_nil,show tree (tf (fL b g o)) b.ay.length 0 []=pS (fL b g o) from ab0 _ _]
  exact hr)
 have e:eY []=[false,false,false,false,false,false,false,false,false,false,false,false,false,false,false,false]:=rfl
 rw [List.length_nil,Int.natCast_zero,e] at h
 rw [h]
 rfl
def jh(b:aj):List Bool:=gO (ou b.ax.length)
theorem Ot(b:aj):(jh b).length=4:=by simp [jh,gO]
theorem KE(c:List Int):(gO c).length=4:=by simp [gO]
theorem agf(c:List Int){k:Nat}(hk:k < 4):nth (gO c) k=c.contains (k:Int):=by
 have h:=Bt c hk
 rw [dD] at h
 rw [bZ (by rw [KE]; exact hk)] at h
 exact kz h
theorem agh{c:List Int}{k:Nat}(hk:k < 4):(gO c).set k true=gO (c++[(k:Int)]):=by
 refine List.ext_getElem? λ p=>?_
 by_cases hp:p < 4
 ·rw [List.getElem?_set,KE]
  have e:∀ d:List Int,(gO d)[p]? = some (d.contains (p:Int)):=λ d=>by have:=Bt d hp; rwa [dD] at this
  rw [e,e]
  by_cases h:k=p
  ·subst h
   rw [if_pos rfl,if_pos hk]
   simp
  ·rw [if_neg h]
   congr 1
   rw [Bool.eq_iff_iff,List.contains_iff_mem,List.contains_iff_mem,List.mem_append,List.mem_singleton]
   exact ⟨.inl,λ h2=>h2.resolve_right (by omega)⟩
 ·rw [List.getElem?_eq_none (by rw [List.length_set,KE]; omega),List.getElem?_eq_none (by rw [KE]; omega)]
theorem aIs{c:List Int}(hl:c.length≤100)(hc:∀ k∈c,0≤k∧k < 4):zK c=some (gO c):=by
 unfold zK
 refine (lO (o:=gO c) ?_).trans rfl
 have e0:((0:Int),[false,false,false,false])=(λ i:Nat=>((i:Int),gO (c.take i))) 0:=rfl
 rw [e0]
 refine ya (λ i:Nat=>((i:Int),gO (c.take i))) c.length (λ i hi=>?_) (by simp only [jk,bI,List.take_length])
 have hm:=hc _ (nJ hi)
 have e:c.take (i+1)=c.take i++[nth c i]:=by rw [List.take_add_one,bZ hi]; rfl
 generalize nth c i=x at hm e
 obtain ⟨k,rfl⟩:=Int.eq_ofNat_of_zero_le hm.1
 have hx:c[i]? = some (k:Int):=by
  have h2:=congrArg List.getLast? e
  rw [List.getLast?_append] at h2
  rw [List.take_add_one] at e
  have:=List.append_cancel_left e
  cases h3:c[i]? with
  | none=>rw [h3] at this; cases this
  | some y=>rw [h3] at this; simpa using this
 simp only [dec_lt hi,bR,dD,hx,aU,dS (i:=i) (by omega),eH]
 have hk:k < 4:=by omega
 have:=Bt (c.take i) hk
 rw [dD] at this
 rw [this,aU,agh hk,← e]
theorem Ro{b:aj}(hv:Valid b):vS b=some (jh b):=by
 have hm:=hv.m4
 unfold vS jh
 refine (lO (o:=gO (ou b.ax.length)) ?_).trans rfl
 have e0:((0:Int),[false,false,false,false])=(λ i:Nat=>((i:Int),gO (ou i))) 0:=rfl
 rw [e0]
 refine ya (λ i:Nat=>((i:Int),gO (ou i))) b.ax.length (λ i hi=>?_) (by simp only [jk,bI])
 have:=Bt (ou i) (show i < 4 by omega)
 simp only [dec_lt hi,bR,this,aU,dS (i:=i) (by omega),eH,agh (show i < 4 by omega),aNB]
theorem aMC{c:List Int}{n:Nat}(hn:n≤4)(ha:c.Pairwise (· < ·))(hc:∀ k∈c,0≤k∧k < (n:Int)):((List.range 4).filter λ k=>c.contains ((k:Nat):Int)).map (λ (k:Nat)=>(k:Int))=c:=by
 refine Oy _ _ ?_ ha λ x=>?_
 ·rw [List.pairwise_map]
  exact (List.pairwise_lt_range.filter _).imp λ h=>by omega
 ·simp only [List.mem_map,List.mem_filter,List.mem_range,List.contains_iff_mem]
  constructor
  ·rintro ⟨k,⟨_,h⟩,rfl⟩; exact h
  ·intro h; have:=hc x h; exact ⟨x.toNat,⟨by omega,by rwa [Int.toNat_of_nonneg this.1]⟩,Int.toNat_of_nonneg this.1⟩
structure JW (b:aj) (r:List (List Int)):Prop where
 len:r.length=b.ay.length
 row:∀ i,i < b.ay.length→(nth r i).Pairwise (· < ·)∧∀ k∈nth r i,0≤k∧k < (b.ax.length:Int)
theorem jg.rows{b:aj}{g:List Bool}{o:Nat}{r:List (List Int)}(h:jg (fL b g o) r):JW b r:=⟨h.len,λ i hi=>by
 cases ho:(fL b g o).out i with
 | true=>rw [h.out i hi ho]; exact ⟨.nil,by simp⟩
 | false =>
  have:=Cy.1 (h.DK i hi ho)
  exact ⟨this.2.1,λ k hk=>⟨(this.2.2 k hk).1,(this.2.2 k hk).2.1⟩⟩⟩
theorem aIm{b:aj}(hv:Valid b){r:List (List Int)}(hr:JW b r):Ch b (eY r)=some r:=by
 have hd:=hv.d4
 have hm:=hv.m4
 unfold Ch
 refine (lO (o:=r) ?_).trans rfl
 have e0:(([]:List (List Int)),(0:Int))=(λ i:Nat=>(r.take i,(i:Int))) 0:=rfl
 rw [e0]
 refine ya (λ i:Nat=>(r.take i,(i:Int))) b.ay.length (λ i hi=>?_) (by simp only [jk,bI,← hr.len,List.take_length])
 have Qg:=hr.row i hi
 have hl:=hr.len
 simp only [dec_lt hi,bR,Nh _ (show i < 4 by omega),aU,dS (i:=i) (by omega)]
 rw [lO (o:=nth r i) ?_]
 ·rw [xd (by rw [nS]; simp only [List.length_cons,List.length_nil]; omega),aU,List.take_add_one,bZ (by omega)]
  rfl
 ·have q0:(([]:List Int),(0:Int))=(λ k:Nat=>(((List.range k).filter λ k=>(nth r i).contains ((k:Nat):Int)).map (λ (k:Nat)=>(k:Int)),(k:Int))) 0:=rfl
  rw [q0]
  refine ya (λ k:Nat=>(((List.range k).filter λ k=>(nth r i).contains ((k:Nat):Int)).map (λ (k:Nat)=>(k:Int)),(k:Int))) 4 (λ k hk=>?_) ?_
  ·have hfl:((List.range k).filter λ k=>(nth r i).contains ((k:Nat):Int)).length≤k:=Nat.le_trans (List.length_filter_le _ _) (by simp)
   simp only [show decide ((k:Int) < 4)=true by simp; omega,bR,Bt _ hk,aU,dS (i:=k) (by omega),List.range_succ,List.filter_append,List.map_append]
   cases ht:(nth r i).contains (k:Int) with
   | true =>
    rw [bR,xd (by rw [List.length_map]; simp only [List.length_cons,List.length_nil]; omega),aU]
    simp only [List.filter_cons,ht,if_true,List.filter_nil,List.map_cons,List.map_nil]
   | false =>
    simp only [bI,List.filter_cons,ht,l6,if_false,List.filter_nil,List.map_nil,List.append_nil]
  ·rw [show decide (((4:Nat):Int) < 4)=false from rfl,bI,aMC hm Qg.1 Qg.2]
abbrev mq(b:aj):List (List (List Int)):=pS (fL b (jh b) 0)
theorem abC{b:aj}(hv:Valid b)(g:List Bool)(o:Nat):(pS (fL b g o)).length≤65536:=aMu hv.m4 hv.d4
theorem ajL{b:aj}{g:List Bool}{o:Nat}{r:List (List Int)}(h:r∈pS (fL b g o)):JW b r:=jg.rows (RI.1 h)
def abE(b:aj):Int × Int:=if il b 0≠0 then (0,il b 0) else ((mq b).length,0)
theorem aiu{b:aj}(hs:Small b):vV b=some (abE b):=by
 unfold vV abE
 rw [FA hs (own:=0) (λ _=>rfl),aU]
 unfold zZ
 by_cases h:il b 0=0
 ·obtain ⟨hv,_,_⟩:=Hg h
  have hl:=abC hv (jh b) 0
  simp only [h,ne_eq,kY,if_false,bne_self_eq_false,bI,Rn hv,show (ia b).book=b from rfl,Ro hv,vR,aU]
  rw [show (0:Int)=((0:Nat):Int) from rfl,Rp hv (Ot b) (by omega) _ (r:=(.inl ((((mq b).map eY).foldl (λ (s:Int) _=>s+1) 0)),true)) (Pt (λ k s=>s=(k:Int)) (λ _ s=>s+1) _ 0 _ rfl (λ j s a hj hs _=>by
   subst hs
   simp only [List.length_map] at hj
   rw [dS (i:=j) (by omega)]
   exact ⟨rfl,rfl⟩))]
  have key:∀ (l:List (List Bool)) (s:Int),l.foldl (λ s _=>s+1) s=s+l.length:=by
   intro l
   induction l with
   | nil=>simp
   | cons a l ih=>intro s; rw [List.foldl_cons,ih]; simp; omega
  rw [aU,Sum.elim_inl,key,List.length_map]
  simp
 ·simp only [h,ne_eq,not_false_eq_true,if_true,s7 h,bR]
def jI(b:aj)(g:List Bool)(o:Nat):Bool:=!(pS (fL b g o)).isEmpty
theorem aaM{b:aj}(hv:Valid b){g:List Bool}(hg:g.length=4){o:Nat}(ho:o < 16):zM (ia b) (qh b) g (o:Int)=some (jI b g o):=by
 unfold zM jI
 simp only [vR,aU]
 cases hc:pS (fL b g o) with
 | nil =>
  rw [Rp hv hg ho _ (r:=(.inl (),true)) (by rw [hc]; rfl)]
  rfl
 | cons r l =>
  rw [Rp hv hg ho _ (r:=(.inr (),false)) (by rw [hc]; rfl)]
  rfl
def Va(b:aj):List Int × Bool × Int:=if il b 0≠0 then ([],false,il b 0) else ((fE b.ax.length (λ a=>jI b (gO (cX b.ax.length a)) 0) (2 ^ b.ax.length)).1,(fE b.ax.length (λ a=>jI b (gO (cX b.ax.length a)) 0) (2 ^ b.ax.length)).2,0)
theorem aiw{b:aj}(hs:Small b):yh b=some (Va b):=by
 unfold yh Va
 rw [FA hs (own:=0) (λ _=>rfl),aU]
 unfold zZ
 by_cases h:il b 0=0
 ·obtain ⟨hv,_,_⟩:=Hg h
  have hm:=hv.m4
  simp only [h,ne_eq,kY,if_false,bne_self_eq_false,bI,Rn hv,show (ia b).book=b from rfl,Ro hv,aU]
  rw [aia (P:=λ a=>jI b (gO (cX b.ax.length a)) 0) (by omega) (λ a ha=>?_),aU]
  unfold E7
  rw [aid (n:=b.ax.length) (by omega) ha,aU,aIs (by have:=aKp (n:=b.ax.length) (by omega) ha; omega) (λ k hk=>by have:=aKo hk; omega),aU,show (0:Int)=((0:Nat):Int) from rfl,aaM hv (KE _) (by omega),aU]
  cases hg:jI b (gO (cX b.ax.length a)) 0 with
  | true=>rfl
  | false =>
   rw [bI]
   cases he:Kz (gO (cX b.ax.length a)) (jh b) with
   | false=>rfl
   | true =>
    have he:gO (cX b.ax.length a)=jh b:=by simpa [Kz] using he
    rw [show (true == true)=true from rfl,bR,aaM hv (Ot b) (by omega),← he,hg]
    rfl
 ·simp only [h,ne_eq,not_false_eq_true,if_true,s7 h,bR]
def Vj(b:aj):List Int × Int:=if il b 0≠0 then ([],il b 0) else ((fE b.ay.length (λ a=>jI b (jh b) a) (2 ^ b.ay.length)).1,0)
theorem aix{b:aj}(hs:Small b):vW b=some (Vj b):=by
 unfold vW Vj
 rw [FA hs (own:=0) (λ _=>rfl),aU]
 unfold zZ
 by_cases h:il b 0=0
 ·obtain ⟨hv,_,_⟩:=Hg h
  have hd:=hv.d4
  have hp:=abu (n:=b.ay.length) (by omega)
  simp only [h,ne_eq,kY,if_false,bne_self_eq_false,bI,Rn hv,show (ia b).book=b from rfl,Ro hv,aU]
  rw [aia (P:=λ a=>jI b (jh b) a) (by omega) (λ a ha=>?_),aU]
  unfold E8
  rw [aaM hv (Ot b) (by omega)]
  rfl
 ·simp only [h,ne_eq,not_false_eq_true,if_true,s7 h,bR]
def te(b:aj):RB:=⟨b.ax.length,b.ay.length,λ i=>(nth b.ay i).ax.toNat,pn b,Bb b,λ _=>false⟩
theorem jg.same{A C:RB}(hn:A.n=C.n)(hD:A.D=C.D)(agQ:∀ i,i < A.D→A.iA i=C.iA i)(gY:∀ i k,i < A.D→k < A.n→A.ok i k=C.ok i k)(kJ:∀ i j,i < A.D→j < i→A.ap j i=C.ap j i∧A.ap i j=C.ap i j)(zh:∀ i,i < A.D→A.out i=C.out i){r:List (List Int)}:jg A r↔jg C r:=by
 constructor
 ·intro h
  exact jg.le ⟨by omega,hD,agQ,λ i k hi hk h=>by rw [← gY i k hi hk]; exact h,λ i j hi hj h=>by rw [← (kJ i j hi hj).1]; exact h,λ i hi h=>by rw [← zh i hi]; exact h,λ i hi h=>by rw [zh i hi]; exact h⟩ h
 ·intro h
  exact jg.le ⟨by omega,hD.symm,λ i hi=>(agQ i (by omega)).symm,λ i k hi hk h=>by rw [gY i k (by omega) (by omega)]; exact h,λ i j hi hj h=>by rw [(kJ i j (by omega) hj).1]; exact h,λ i hi h=>by rw [zh i (by omega)]; exact h,λ i hi h=>by rw [← zh i (by omega)]; exact h⟩ h
theorem Pv{b:aj}{g:List Bool}{o:Nat}:jI b g o=true↔∃ r,jg (fL b g o) r:=by
 unfold jI
 rw [Bool.not_eq_true',List.isEmpty_eq_false_iff_exists_mem]
 exact ⟨λ ⟨r,h⟩=>⟨r,RI.1 h⟩,λ ⟨r,h⟩=>⟨r,RI.2 h⟩⟩
theorem abA{b:aj}(hm:b.ax.length≤4){l:List Int}{r:List (List Int)}:jg (fL b (gO l) 0) r↔jg (te b) r∧Tf l r=true:=by
 rw [← aKQ]
 refine jg.same (A:=fL b (gO l) 0) (C:=(te b).only l) rfl rfl (λ _ _=>rfl) (λ i k _ hk=>?_) (λ _ _ _ _=>⟨rfl,rfl⟩) (λ i _=>by simp [fL,RB.only,te])
 show (nth (gO l) k && pn b i k)=(pn b i k && l.contains (k:Int))
 rw [agf l (show k < 4 by have:(fL b (gO l) 0).n=b.ax.length:=rfl; omega),Bool.and_comm]
theorem Sp{b:aj}(hm:b.ax.length≤4){o:Nat}{r:List (List Int)}:jg (fL b (jh b) o) r↔jg { te b with out:=λ i=>o.testBit i } r:=by
 refine jg.same (A:=fL b (jh b) o) (C:={ te b with out:=λ i=>o.testBit i }) rfl rfl (λ _ _=>rfl) (λ i k _ hk=>?_) (λ _ _ _ _=>⟨rfl,rfl⟩) (λ i _=>rfl)
 show (nth (gO (ou b.ax.length)) k && pn b i k)=pn b i k
 have ed:k < b.ax.length:=hk
 rw [agf _ (by omega),show (ou b.ax.length).contains (k:Int)=true by rw [List.contains_iff_mem,aiP]; omega,Bool.true_and]
theorem ajB{b:aj}(hm:b.ax.length≤4){r:List (List Int)}:jg (fL b (jh b) 0) r↔jg (te b) r:=by
 rw [Sp hm]
 exact jg.same (A:={ te b with out:=λ i=>(0:Nat).testBit i }) (C:=te b) rfl rfl (λ _ _=>rfl) (λ _ _ _ _=>rfl) (λ _ _ _ _=>⟨rfl,rfl⟩) (λ i _=>by simp [te])
theorem aq6{b:aj}(hv:Valid b):il b 0=if cS b=[] then 9 else 0:=by unfold il; simp [wI.2 hv]
theorem aKn{n:Nat}:cX n (2 ^ n - 1)=ou n:=by
 unfold cX ou
 rw [List.filter_eq_self.2 λ i hi=>age i (List.mem_range.1 hi)]
set_option maxRecDepth 1000000 in
theorem goes_mono{b:aj}(hv:Valid b){l:List Int}(h:jI b (gO l) 0=true):jI b (jh b) 0=true:=by
 rw [Pv] at h ⊢
 obtain ⟨r,h⟩:=h
 exact ⟨r,(ajB hv.m4).2 ((abA hv.m4).1 h).1⟩
abbrev r9(b:aj)(a:Nat):Bool:=jI b (gO (cX b.ax.length a)) 0
theorem aeI{b:aj}(hv:Valid b)(h:jI b (jh b) 0=false):fE b.ax.length (r9 b) (2 ^ b.ax.length)=([],false) :=
 aMW λ a _=>by
  cases hp:r9 b a with
  | false=>rfl
  | true=>rw [goes_mono hv hp] at h; cases h
theorem Kp{b:aj}(h:jI b (jh b) 0=true):(fE b.ax.length (r9 b) (2 ^ b.ax.length)).2=true∧c6 b.ax.length (r9 b) (fE b.ax.length (r9 b) (2 ^ b.ax.length)).1:=by
 have hp:=Nat.two_pow_pos b.ax.length
 refine aj1 (a:=2 ^ b.ax.length - 1) (by omega) ?_
 show jI b (gO (cX b.ax.length (2 ^ b.ax.length - 1))) 0=true
 rw [aKn]
 exact h
abbrev Bn(b:aj)(a:Nat):Bool:=jI b (jh b) a
theorem apu{b:aj}(hv:Valid b):Bn b (2 ^ b.ay.length - 1)=true:=by
 rw [Pv]
 refine ⟨List.replicate b.ay.length [],?_⟩
 rw [Sp hv.m4]
 have e:∀ i,i < b.ay.length→nth (List.replicate b.ay.length ([]:List Int)) i=[]:=λ i hi=>by
  have:=bZ (l:=List.replicate b.ay.length ([]:List Int)) (i:=i) (by simpa using hi)
  rw [List.getElem?_replicate,if_pos hi] at this
  exact (kz this).symm
 refine ⟨by simp [te],λ i hi _=>e i hi,λ i hi ho=>?_,λ i j hi hj=>.inr ?_⟩
 ·have:(2 ^ b.ay.length - 1).testBit i=true:=age i hi
  have ho:(2 ^ b.ay.length - 1).testBit i=false:=ho
  rw [this] at ho
  cases ho
 ·rw [e i hi]; rfl
theorem aeW{b:aj}(hv:Valid b):c6 b.ay.length (Bn b) (fE b.ay.length (Bn b) (2 ^ b.ay.length)).1 :=
 (aj1 (a:=2 ^ b.ay.length - 1) (by have:=Nat.two_pow_pos b.ay.length; omega) (apu hv)).2
def ey(b:aj)(i:Nat):Int:=(nth b.ay i).gW
abbrev mZ(b:aj)(r:List (List Int)):Int:=wQ (ey b) r b.ay.length b.ax.length
def qI(f:Int→Int):Int:=max (max (max (max 0 (f 0)) (f 1)) (f 2)) (f 3)
def gI(t:Nat→Int)(r:List (List Int))(i k:Nat):Int→Int:=λ a=>iD t r a i+if (0≤a∧a < (k:Int))∧a∈nth r i then t i else 0
theorem aKr{f:Int→Int}{k:Nat}(hk:k < 4){z:Int}(hz:f k≤z):qI (nh f k z)=max (qI f) z:=by
 match k,hk with
 | 0,_=>simp only [qI,nh] at hz ⊢; simp; simp at hz; omega
 | 1,_=>simp only [qI,nh] at hz ⊢; simp; simp at hz; omega
 | 2,_=>simp only [qI,nh] at hz ⊢; simp; simp at hz; omega
 | 3,_=>simp only [qI,nh] at hz ⊢; simp; simp at hz; omega
theorem akk{b:aj}(hv:Valid b)(r:List (List Int))(k:Int):∀ i,i≤b.ay.length→0≤iD (ey b) r k i∧iD (ey b) r k i≤60 * i
 | 0,_=>by simp [iD]
 | i+1,h=>by
  have ih:=akk hv r k i (by omega)
  have ht:=(hv.dv (i:=i) (by omega)).C9
  simp only [iD]
  have:ey b i=(nth b.ay i).gW:=rfl
  split <;> omega
theorem ah8{b:aj}(hv:Valid b){r:List (List Int)}(hr:JW b r):zI b (eY r)=some (mZ b r):=by
 have hd:=hv.d4
 have hm:=hv.m4
 unfold zI
 have ht:∀ i,i < b.ay.length→1≤ey b i∧ey b i≤60:=λ i hi=>(hv.dv hi).C9
 have fin:qI (gI (ey b) r b.ay.length 0)=mZ b r:=by
  have e:∀ a:Int,gI (ey b) r b.ay.length 0 a=iD (ey b) r a b.ay.length:=λ a=>by
   unfold gI
   rw [if_neg (by omega)]
   omega
  have z:∀ k:Nat,b.ax.length≤k→iD (ey b) r (k:Int) b.ay.length=0:=λ k hk=>abY λ i hi qy=>by
   have:=(hr.row i hi).2 _ qy
   omega
  have key:∀ m,mZ b r≤m↔0≤m∧iD (ey b) r 0 b.ay.length≤m∧iD (ey b) r 1 b.ay.length≤m∧iD (ey b) r 2 b.ay.length≤m∧iD (ey b) r 3 b.ay.length≤m:=λ m=>by
   rw [Tg]
   have q:∀ k:Nat,0≤m→(∀ j:Nat,j < b.ax.length→iD (ey b) r (j:Int) b.ay.length≤m)→iD (ey b) r (k:Int) b.ay.length≤m:=λ k h0 h=>by
    by_cases hk:k < b.ax.length
    ·exact h k hk
    ·rw [z k (by omega)]; exact h0
   constructor
   ·rintro ⟨h0,h⟩
    exact ⟨h0,q 0 h0 h,q 1 h0 h,q 2 h0 h,q 3 h0 h⟩
   ·rintro ⟨h0,h1,h2,h3,h4⟩
    refine ⟨h0,λ k hk=>?_⟩
    match k,(show k < 4 by omega) with
    | 0,_=>exact h1
    | 1,_=>exact h2
    | 2,_=>exact h3
    | 3,_=>exact h4
  unfold qI
  rw [e,e,e,e]
  have k1:=(key (mZ b r)).1 (Int.le_refl _)
  have k2:=(key (max (max (max (max 0 (iD (ey b) r 0 b.ay.length)) (iD (ey b) r 1 b.ay.length)) (iD (ey b) r 2 b.ay.length)) (iD (ey b) r 3 b.ay.length))).2 (by omega)
  omega
 rw [← fin]
 refine (lO (o:=qI (gI (ey b) r b.ay.length 0)) ?_).trans rfl
 have e0:((λ _=>0:Int→Int),(0:Int),(0:Int))=(λ i:Nat=>(gI (ey b) r i 0,qI (gI (ey b) r i 0),(i:Int))) 0:=by
  have:gI (ey b) r 0 0=λ _=>0:=by
   funext a
   unfold gI
   rw [if_neg (by omega)]
   rfl
  simp only [this]
  rfl
 rw [e0]
 refine ya (λ i:Nat=>(gI (ey b) r i 0,qI (gI (ey b) r i 0),(i:Int))) b.ay.length (λ i hi=>?_) (by simp only [jk,bI])
 have hb:=λ a=>akk hv r a i (by omega)
 have hti:=ht i hi
 simp only [dec_lt hi,bR,dD,bZ hi,aU,Nh _ (show i < 4 by omega),dS (i:=i) (by omega)]
 have nx:gI (ey b) r i 4=gI (ey b) r (i+1) 0:=by
  funext a
  unfold gI
  simp only [iD]
  rw [if_neg (show ¬((0≤a∧a < ((0:Nat):Int))∧a∈nth r (i+1)) by omega)]
  by_cases ha:a∈nth r i
  ·have:=(hr.row i hi).2 a ha
   rw [if_pos ⟨⟨by omega,by omega⟩,ha⟩,if_pos ha]
   omega
  ·rw [if_neg (λ h=>ha h.2),if_neg ha]
   omega
 rw [lO (o:=(gI (ey b) r (i+1) 0,qI (gI (ey b) r (i+1) 0))) ?_]
 have q0:(gI (ey b) r i 0,qI (gI (ey b) r i 0),(0:Int))=(λ k:Nat=>(gI (ey b) r i k,qI (gI (ey b) r i k),(k:Int))) 0:=rfl
 rw [q0]
 refine ya (λ k:Nat=>(gI (ey b) r i k,qI (gI (ey b) r i k),(k:Int))) 4 (λ k hk=>?_) ?_
 ·simp only [show decide ((k:Int) < 4)=true by simp; omega,bR,Bt _ hk,aU,dS (i:=k) (by omega)]
  have hfk:gI (ey b) r i k (k:Int)=iD (ey b) r (k:Int) i:=by
   unfold gI
   rw [if_neg (λ h=>by omega)]
   omega
  have mV:=hb (k:Int)
  cases hc:(nth r i).contains (k:Int) with
  | true =>
   rw [List.contains_iff_mem] at hc
   have e1:nh (gI (ey b) r i k) (k:Int) (gI (ey b) r i k (k:Int)+ey b i)=gI (ey b) r i (k+1):=by
    funext a
    unfold nh
    by_cases ha:a=(k:Int)
    ·subst ha
     rw [if_pos rfl,hfk]
     unfold gI
     rw [if_pos ⟨⟨by omega,by omega⟩,hc⟩]
    ·rw [if_neg ha]
     unfold gI
     congr 1
     by_cases h2:(0≤a∧a < (k:Int))∧a∈nth r i
     ·rw [if_pos h2,if_pos ⟨⟨h2.1.1,by omega⟩,h2.2⟩]
     ·rw [if_neg h2,if_neg (λ h3=>h2 ⟨⟨h3.1.1,by omega⟩,h3.2⟩)]
   have e2:i64 (gI (ey b) r i k (k:Int)+(nth b.ay i).gW)=gI (ey b) r i k (k:Int)+ey b i:=by
    rw [hfk,gZ (by have:ey b i=(nth b.ay i).gW:=rfl; omega) (by have:ey b i=(nth b.ay i).gW:=rfl; omega)]
    rfl
   rw [bR,e2,e1,aiK]
   congr 2
   have:=aKr (f:=gI (ey b) r i k) hk (z:=gI (ey b) r i k (k:Int)+ey b i) (by omega)
   rw [e1] at this
   rw [this]
   congr 2
   rw [← e1]
   unfold nh
   rw [if_pos rfl]
  | false =>
   have vv:¬ (k:Int)∈nth r i:=λ h=>by rw [← List.contains_iff_mem,hc] at h; cases h
   have e1:gI (ey b) r i (k+1)=gI (ey b) r i k:=by
    funext a
    unfold gI
    congr 1
    by_cases h2:(0≤a∧a < (k:Int))∧a∈nth r i
    ·rw [if_pos h2,if_pos ⟨⟨h2.1.1,by omega⟩,h2.2⟩]
    ·rw [if_neg h2,if_neg (λ h3=>h2 ⟨⟨h3.1.1,by
      have:a≠(k:Int):=λ e=>vv (e ▸ h3.2)
      omega⟩,h3.2⟩)]
   rw [bI,e1]
 ·rw [show decide (((4:Nat):Int) < 4)=false from rfl,bI,nx]
theorem aIp{f:List Bool→Option Int}{w:List (List Int)→Int}:∀ (l:List (List (List Int))) (x:List (List Int)),(∀ y∈x::l,f (eY y)=some (w y))→l.length≤70000→E6 f ((x::l).map eY)=some (eY (kZ w x l)):=by
 intro l x hf hl
 unfold E6
 rw [show idx ((x::l).map eY) 0=some (eY x) from rfl,aU]
 rw [show lH ((x::l).map eY) 1 (((x::l).map eY).length:Int)=some (l.map eY) from api,aU]
 refine (lO (o:=eY (kZ w x l)) ?_).trans rfl
 have e0:((0:Int),eY x)=(λ i:Nat=>((i:Int),eY (kZ w x (l.take i)))) 0:=rfl
 rw [e0]
 have sn:∀ (l:List (List (List Int))) (x y:List (List Int)),kZ w x (l++[y])=if w y < w (kZ w x l) then y else kZ w x l:=by
  intro l
  induction l with
  | nil=>intro x y; rfl
  | cons z l ih=>intro x y; exact ih _ y
 have mem:∀ (l:List (List (List Int))) (x:List (List Int)),kZ w x l∈x::l:=by
  intro l
  induction l with
  | nil=>intro x; simp [kZ]
  | cons z l ih =>
   intro x
   simp only [kZ]
   have:=ih (if w z < w x then z else x)
   rcases fy.1 this with h | h
   ·rw [h]; split <;> simp
   ·simp [h]
 have P1:(l.map eY).length=l.length:=List.length_map _
 refine (congrArg (λ z=>bH _ z) rfl).trans ?_
 rw [P1]
 refine ya (λ i:Nat=>((i:Int),eY (kZ w x (l.take i)))) l.length (λ i hi=>?_) (by simp only [jk,bI,List.take_length])
 have e:(l.map eY)[i]? = some (eY (nth l i)):=by rw [List.getElem?_map,bZ hi]; rfl
 have hb:kZ w x (l.take i)∈x::l:=by
  rcases fy.1 (mem (l.take i) x) with h | h
  ·rw [h]; simp
  ·exact List.mem_cons_of_mem _ (List.mem_of_mem_take h)
 simp only [dec_lt hi,bR,dD,e,aU,hf _ (List.mem_cons_of_mem _ (nJ hi)),hf _ hb,dS (i:=i) (by omega)]
 have et:l.take (i+1)=l.take i++[nth l i]:=by rw [List.take_add_one,bZ hi]; rfl
 rw [et,sn]
 by_cases hw:w (nth l i) < w (kZ w x (l.take i))
 ·rw [gk hw,bR,if_pos hw]
 ·rw [jA hw,bI,if_neg hw]
theorem aIn{b:aj}(hv:Valid b){g:List Bool}(hg:g.length=4){o:Nat}(ho:o < 16):E5 (λ y s=>qF y (ia b) (o:Int) g (qh b) s)=some ((pS (fL b g o)).map eY):=by
 unfold E5 Ic
 have hl:=abC hv g o
 have key:∀ (l a:List (List Bool)),l.foldl (λ s c=>s++[c]) a=a++l:=by
  intro l
  induction l with
  | nil=>simp
  | cons c l ih=>intro a; rw [List.foldl_cons,ih]; simp
 dsimp only
 rw [Rp hv hg ho _ (r:=(.inl ((((pS (fL b g o)).map eY).foldl (λ (s:List (List Bool)) c=>s++[c]) [])),true)) (Pt (λ k s=>s.length=k) (λ c s=>s++[c]) _ 0 [] rfl (λ j s a hj hs _=>by
  simp only [List.length_map] at hj
  rw [xd (by simp; omega)]
  exact ⟨rfl,by simp [hs]⟩))]
 rw [key]
 rfl
def VT(b:aj):List (List Int) × Int × Bool × Int:=if il b 0≠0 then ([],0,false,il b 0) else match mq b with | []=>([],0,false,0) | r::l=>(kZ (mZ b) r l,mZ b (kZ (mZ b) r l),true,0)
theorem UD{α:Type}(w:α→Int):∀ (l:List α) (x:α),kZ w x l∈x::l
 | [],x=>by simp [kZ]
 | z::l,x=>by
  simp only [kZ]
  rcases fy.1 (UD w l (if w z < w x then z else x)) with h | h
  ·rw [h]; split <;> simp
  ·simp [h]
theorem aiv{b:aj}(hs:Small b):yg b=some (VT b):=by
 unfold yg VT
 rw [FA hs (own:=0) (λ _=>rfl),aU]
 unfold zZ
 by_cases h:il b 0=0
 ·obtain ⟨hv,_,_⟩:=Hg h
  have hl:=abC hv (jh b) 0
  simp only [h,ne_eq,kY,if_false,bne_self_eq_false,bI,Rn hv,show (ia b).book=b from rfl,Ro hv,vR,aU]
  have aeX:=aIn hv (Ot b) (o:=0) (by omega)
  rw [show ((0:Nat):Int)=0 from rfl] at aeX
  rw [aeX,aU,List.length_map]
  have XY:∀ r∈mq b,JW b r:=λ r hr=>ajL hr
  rw [show pS (fL b (jh b) 0)=mq b from rfl] at hl ⊢
  cases hc:mq b with
  | nil=>rfl
  | cons r l =>
   rw [hc] at hl XY
   simp only [List.length_cons] at hl
   rw [show ((((r::l).length:Nat):Int) == 0)=false by simp; omega,bI]
   rw [aIp (w:=mZ b) l r (λ y hy=>ah8 hv (XY y hy)) (by omega),aU]
   have La:=XY _ (UD (mZ b) l r)
   rw [aIm hv La,aU,ah8 hv La,aU]
 ·simp only [h,ne_eq,not_false_eq_true,if_true,s7 h,bR]
def RF(b:aj)(k i:Int):Int × Int:=if iR b≠0 then (0,iR b) else if (ET b k && ES b i)=false then (0,6) else if cS b=[] then (0,9) else (og ((cS b).filter λ c=>pQ b c k.toNat i.toNat).length (cS b).length,0)
theorem ais{b:aj}(hs:Small b)(k i:Int):uu b k i=some (RF b k i):=by
 have aX1:=hs.sZ
 have aXY:=hs.Kw
 unfold uu RF
 have ayJ:Cf b k i=some (if (ET b k && ES b i)=false then 6 else 0):=by
  unfold Cf
  rw [Mx (m:=b.ax.length) (by omega),aU,Mx (m:=b.ay.length) (by omega),aU,aiK]
  have e1:ET b k=dc k 0 ((b.ax.length:Int) - 1):=rfl
  have e2:ES b i=dc i 0 ((b.ay.length:Int) - 1):=rfl
  rw [e1,e2]
  cases dc k 0 ((b.ax.length:Int) - 1) <;> cases dc i 0 ((b.ay.length:Int) - 1) <;> rfl
 rw [FA hs (own:=if (ET b k && ES b i)=false then 6 else 0) (λ _=>ayJ),aU]
 unfold zZ il
 by_cases h1:iR b=0
 ·have hv:=wI.1 h1
  rw [if_neg (show ¬ iR b≠0 by simpa using h1),if_neg (show ¬ iR b≠0 by simpa using h1)]
  cases Xv:(ET b k && ES b i) with
  | false=>rfl
  | true =>
   rw [fF] at Xv
   obtain ⟨k',rfl,hk⟩:=ahr.1 Xv.1
   obtain ⟨i',rfl,hi⟩:=ahq.1 Xv.2
   simp only [q7,if_false,ne_eq,kY]
   by_cases hc:cS b=[]
   ·rw [if_pos hc,if_pos hc]; rfl
   ·rw [if_neg hc,if_neg hc]
    simp only [kY,if_false,bne_self_eq_false,bI]
    rw [ah5 hv (p:=λ c=>pQ b c k' i') (λ c hc=>by unfold E2; rw [show (ia b).book=b from rfl,ah6 hv (RH.1 hc).1.1 hk hi]; rfl),aU,aIf]
    rfl
 ·rw [if_pos h1,if_pos h1]
  simp only [h1,ne_eq,not_false_eq_true,if_true,s7 h1,bR]
theorem ad0{α:Type}(w:α→Int):∀ (l:List α) (x:α),∀ y∈x::l,w (kZ w x l)≤w y
 | [],x,y,hy=>by simp at hy; subst hy; exact Int.le_refl _
 | z::l,x,y,hy=>by
  simp only [kZ]
  have ih:=ad0 w l (if w z < w x then z else x)
  have h0:=ih _ (List.mem_cons_self ..)
  rcases fy.1 hy with rfl | hy
  ·split at h0 <;> rename_i h <;> simp only [h,if_true,if_false] at h0 ⊢ <;> omega
  ·rcases fy.1 hy with rfl | hy
   ·split at h0 <;> rename_i h <;> simp only [h,if_true,if_false] at h0 ⊢ <;> omega
   ·exact ih y (List.mem_cons_of_mem _ hy)
theorem ajK{b:aj}(hv:Valid b){r:List (List Int)}:r∈mq b↔jg (te b) r:=by
 rw [show mq b=pS (fL b (jh b) 0) from rfl,RI,ajB hv.m4]
structure qe (a c:aj):Prop where
 va:Valid a
 vc:Valid c
 case:cS a=[]↔cS c=[]
 le:adj (te a) (te c)
 C9:∀ i,i < a.ay.length→ey a i=ey c i
theorem qe.ajM{a c:aj}(h:qe a c){r:List (List Int)}(hr:r∈mq a):r∈mq c:=(ajK h.vc).2 (jg.le h.le ((ajK h.va).1 hr))
theorem qe.many{a c:aj}(h:qe a c):(mq a).length≤(mq c).length :=
 aaw id (aMv _) (λ _ _ _ _ e=>e) λ _ hr=>h.ajM hr
theorem qe.aHU{a c:aj}(h:qe a c){r:List (List Int)}(hr:r∈mq a):mZ a r=mZ c r:=by
 have Qg:=ajL hr
 have hD:a.ay.length=c.ay.length:=h.le.D
 have hn:a.ax.length≤c.ax.length:=h.le.n
 have ht:∀ k:Int,iD (ey a) r k a.ay.length=iD (ey c) r k c.ay.length:=λ k=>by
  rw [← hD]
  exact akl λ i hi=>⟨h.C9 i hi,Iff.rfl⟩
 refine aOw λ m=>?_
 rw [Tg,Tg]
 constructor
 ·rintro ⟨h0,h1⟩
  refine ⟨h0,λ k hk=>?_⟩
  rw [← ht]
  by_cases Xu:k < a.ax.length
  ·exact h1 k Xu
  ·rw [abY λ i hi qy=>by have:=(Qg.row i hi).2 _ qy; omega]
   exact h0
 ·rintro ⟨h0,h1⟩
  exact ⟨h0,λ k hk=>by rw [ht]; exact h1 k (by omega)⟩
theorem qe.fair{a c:aj}(h:qe a c)(_:il a 0=0){r:List (List Int)}{l:List (List (List Int))}(ha:mq a=r::l):∃ q m,mq c=q::m∧mZ c (kZ (mZ c) q m)≤mZ a (kZ (mZ a) r l):=by
 have hb:=UD (mZ a) l r
 rw [← ha] at hb
 have hc:=h.ajM hb
 cases he:mq c with
 | nil=>rw [he] at hc; cases hc
 | cons q m =>
  rw [he] at hc
  refine ⟨q,m,rfl,?_⟩
  rw [h.aHU hb]
  exact ad0 _ _ _ _ hc
theorem qe.drop{a c:aj}(h:qe a c):(fE c.ay.length (Bn c) (2 ^ c.ay.length)).1.length≤(fE a.ay.length (Bn a) (2 ^ a.ay.length)).1.length:=by
 obtain ⟨x,hx,hP,e⟩:=(aeW h.va).ex
 have hD:a.ay.length=c.ay.length:=h.le.D
 rw [e]
 have:Bn c x=true:=by
  rw [Pv] at hP ⊢
  obtain ⟨r,hr⟩:=hP
  refine ⟨r,(Sp h.vc.m4).2 (jg.le ?_ ((Sp h.va.m4).1 hr))⟩
  exact ⟨h.le.n,h.le.D,h.le.iA,h.le.ok,h.le.ap,λ _ _ h=>h,λ _ _ h=>h⟩
 have:=(aeW h.vc).len (by rw [← hD]; exact hx) this
 rwa [hD]
theorem Kl{α:Type}{l:List α}(hl:l.length≤1000):(ij [] l).bind (λ x=>some x)=some l:=by
 rw [xd (by simp; omega)]
 rfl
theorem aIu{b:aj}(hs:Small b)(hr:b.Rows.length≤1000):Ci b=some b:=by
 have h1:=hs.places
 have h2:=hs.sZ
 have h3:=hs.Kw
 have h4:=hs.aj4
 unfold Ci Fa Fb Fc Fe zN
 rw [Kl hr,Kl (show b.aK.length≤1000 by omega),Kl (show b.ax.length≤1000 by omega),Kl (show b.ay.length≤1000 by omega),Kl (show b.bg.length≤1000 by omega)]
 rfl
theorem Nk{α:Type}[Inhabited α]{l:List α}{eq:α→α→Bool}(hl:l.length≤1000)(he:∀ x,eq x x=true):bH (O:=(Unit ⊕ Bool)) (λ (s:Int)=>af (decide (s < (l.length:Int))) ((idx l s).bind λ x=>(idx l s).bind λ y=>af (!(eq x y == true)) (some (.inr (.inr false))) (some (.inl (i64 (s+1))))) (some (.inr (.inl ())))) 0=some (.inl ()):=by
 rw [aaC (n:=l.length) (λ _=>true) false (λ i hi=>?_) (by simp only [jk,bI])]
 ·simp
 ·simp only [dec_lt hi,bR,dD,bZ hi,aU,he,beq_self_eq_true,Bool.not_true,bI,if_true,dS (i:=i) (by omega)]
theorem aot(s:ByteArray):(s == s)=true:=by
 obtain ⟨d⟩:=s
 show ByteArray.beq ⟨d⟩ ⟨d⟩=true
 unfold ByteArray.beq
 simp
theorem aJ2{b:aj}(h1:b.Rows.length≤1000)(h2:b.aK.length≤1000)(h3:b.ax.length≤1000)(h4:b.ay.length≤1000)(h5:b.bg.length≤1000):Fz b b=some true:=by
 unfold Fz
 simp only [bne_self_eq_false,bI,aU]
 rw [Nk h1 (λ x=>by simp [DO]),aU,Sum.elim_inl,Nk h2 (λ x=>by simp [KA]),aU,Sum.elim_inl,Nk h3 (λ x=>by simp [VK,aot]),aU,Sum.elim_inl,Nk h4 (λ x=>by simp [VJ]),aU,Sum.elim_inl,Nk h5 (λ x=>by simp [VL])]
 rfl
def ym:aj:=⟨0,[],[],[],[],[]⟩
end Go.Proofs.YtihapemckcdicaaGreatDoor
