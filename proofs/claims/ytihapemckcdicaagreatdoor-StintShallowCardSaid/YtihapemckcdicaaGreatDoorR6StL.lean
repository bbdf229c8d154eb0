/- Plain laws of chapter 5. Conditions: none. -/
import Derived.Test.YtihapemckcdicaaGreatDoorQVStP
import Derived.Test.YtihapemckcdicaaGreatDoorQVStC
import Derived.Test.YtihapemckcdicaaGreatDoorQVStM
namespace Go.Proofs.YtihapemckcdicaaGreatDoor
open Go.Lg Go.Proofs
set_option maxRecDepth 10000
def vS(x:Reach)(a c:Int):Bool:=decide (a≤x.cF) && (decide (x.cF≤x.dq) && decide (x.dq≤c))
def Az(x:Reach)(w:Int):Bool:=decide (x.dq - x.cF < w)
theorem aIL{x:Reach}{a c:Int}(ha : -1000000≤a)(hc:c≤1000000)(h:vS x a c=true):i64 (x.dq - x.cF)=x.dq - x.cF:=by
 simp only [vS,Bool.and_eq_true,decide_eq_true_eq] at h
 exact gB (by omega) (by omega)
theorem aGu{x:Reach}{a c:Int}:vS x a c=true↔a≤x.cF∧x.cF≤x.dq∧x.dq≤c:=by simp [vS]
theorem aIM{x:Reach}{w:Int}:Az x w=true↔x.dq - x.cF < w:=by simp [Az]
def C9(x:Reach):List Int:=(List.range (x.dq+1 - x.cF).toNat).map λ (j:Nat)=>x.cF+(j:Int)
theorem aeD{x:Reach}{n:Int}:n∈C9 x↔x.cF≤n∧n≤x.dq:=by
 simp only [C9,List.mem_map,List.mem_range]
 constructor
 ·rintro ⟨j,hj,rfl⟩; omega
 ·intro h; exact ⟨(n - x.cF).toNat,by omega,by omega⟩
theorem afr{x:Reach}(h:x.dq - x.cF < 3):(C9 x).length≤3:=by simp [C9]; omega
instance:Inhabited fh:=⟨⟨0,0⟩⟩
instance:Inhabited Reach:=⟨⟨0,0⟩⟩
instance:Inhabited fe:=⟨⟨⟨#[]⟩,0⟩⟩
instance:Inhabited mq:=⟨⟨0,0,0,0⟩⟩
instance:Inhabited dD:=⟨⟨0,0,false⟩⟩
instance:Inhabited bz:=⟨⟨[0,0,0]⟩⟩
theorem uM(n a c:Int):j8 n a c=some (c7 n a c):=by
 unfold j8 c7
 cases decide (a≤n) <;> rfl
theorem qU(n a c:Int):lS n a c=some (c7 n a c):=by
 unfold lS c7
 cases decide (a≤n) <;> rfl
theorem aD3(x:Reach)(a c:Int):JW x a c=some (vS x a c):=by
 unfold JW vS
 cases decide (a≤x.cF) <;> cases decide (x.cF≤x.dq) <;> rfl
theorem aEP{x:Reach}{a c w:Int}(ha : -1000000≤a)(hc:c≤1000000):CH x a c w=some (vS x a c && Az x w):=by
 unfold CH vS Az
 by_cases h1:a≤x.cF
 ·by_cases h2:x.cF≤x.dq
  ·by_cases h3:x.dq≤c
   ·simp [h1,h2,h3,gB (z:=x.dq - x.cF) (by omega) (by omega)]
   ·simp [h1,h2,h3]
  ·simp [h1,h2]
 ·simp [h1]
theorem Rk{α:Type}[Inhabited α]{l:List α}{f:α→Option Bool}{p:α→Bool}(hl:l.length≤1000)(hf:∀ x∈l,f x=some (p x)):((bH (O:=(Unit ⊕ Int)) (λ (dL:Int) =>
 af (decide (dL < (l.length:Int)))
 ((idx l dL).bind λ jb =>
 (f jb).bind λ hZ =>
 af hZ
 (some (.inr (.inr dL)))
 (some (.inl (i64 (dL+1)))))
 (some (.inr (.inl ())))) 0).bind (Sum.elim (λ (_:Unit) =>
 some (-1))
  (λ q=>some q))).bind (λ cV=>some (decide (cV ≥ 0)))=some (l.any p):=by
 rw [wo (λ i=>if p (nth l i) then some (i:Int) else none) l.length (d:=(-1)) (λ i hi=>?_) (by simp only [oI,cD]) rfl]
 ·rw [Option.bind_some,anW p l]
 ·simp only [dec_lt hi,cJ,dT,cp hi,Option.bind_some,hf _ (qn hi),fy (i:=i) (by omega)]
  cases p (nth l i) <;> rfl
theorem aEM{l:List Reach}{f:Reach→Option Bool}{p:Reach→Bool}(hl:l.length≤1000)(hf:∀ x∈l,f x=some (p x)):Fy l f=some (l.any p):=Rk hl hf
theorem aET{l:List fe}{f:fe→Option Bool}{p:fe→Bool}(hl:l.length≤1000)(hf:∀ x∈l,f x=some (p x)):Fz l f=some (l.any p):=Rk hl hf
theorem aD7{l:List dD}{f:dD→Option Bool}{p:dD→Bool}(hl:l.length≤1000)(hf:∀ x∈l,f x=some (p x)):Fu l f=some (l.any p):=Rk hl hf
structure Small (b:ay):Prop where
 rows:b.Rows.length≤20
 places:b.aE.length≤20
 xH:b.aD.length≤20
 abb:b.aT.length≤20
 aHm:b.bj.length≤20
 each:∀ p∈b.aD,p.Name.size≤100
def Bm(b:ay):Bool :=
 decide (20 < b.Rows.length) || (decide (20 < b.aE.length) || (decide (20 < b.aD.length) || (decide (20 < b.aT.length) || (decide (20 < b.bj.length) || b.aD.any λ p=>decide (100 < p.Name.size)))))
theorem yX{n m:Nat}:decide ((n:Int) > (m:Int))=decide (m < n):=by
 by_cases h:m < n <;> simp [h]
theorem aEb(b:ay):JY b=some (Bm b):=by
 unfold JY Bm
 have e1:decide ((b.Rows.length:Int) > 20)=decide (20 < b.Rows.length):=yX (m:=20)
 have e2:decide ((b.aE.length:Int) > 20)=decide (20 < b.aE.length):=yX (m:=20)
 have e3:decide ((b.aD.length:Int) > 20)=decide (20 < b.aD.length):=yX (m:=20)
 have e4:decide ((b.aT.length:Int) > 20)=decide (20 < b.aT.length):=yX (m:=20)
 have e5:decide ((b.bj.length:Int) > 20)=decide (20 < b.bj.length):=yX (m:=20)
 rw [e1,e2,e3,e4,e5]
 by_cases h1:20 < b.Rows.length
 ·simp [h1]
 by_cases h2:20 < b.aE.length
 ·simp [h1,h2]
 by_cases h3:20 < b.aD.length
 ·simp [h1,h2,h3]
 by_cases h4:20 < b.aT.length
 ·simp [h1,h2,h3,h4]
 by_cases h5:20 < b.bj.length
 ·simp [h1,h2,h3,h4,h5]
 simp only [h1,h2,h3,h4,h5,decide_false,cD,Option.bind_some,Bool.false_or]
 rw [wo (λ i=>if decide (100 < (nth b.aD i).Name.size) then some true else none) b.aD.length (d:=false) (λ i hi=>?_) (by simp only [oI,cD]) rfl]
 ·rw [YY (λ p:fe=>decide (100 < p.Name.size)) b.aD]
 ·have f1:decide (((nth b.aD i).Name.size:Int) > 100)=decide (100 < (nth b.aD i).Name.size):=yX (m:=100)
  simp only [dec_lt hi,cJ,dT,cp hi,Option.bind_some,f1,fy (i:=i) (by omega)]
  cases decide (100 < (nth b.aD i).Name.size) <;> rfl
theorem acw{b:ay}(h:Bm b=false):Small b:=by
 simp only [Bm,Bool.or_eq_false_iff,decide_eq_false_iff_not,List.any_eq_false,decide_eq_true_eq] at h
 obtain ⟨h1,h2,h3,h4,h5,h6⟩:=h
 exact ⟨by omega,by omega,by omega,by omega,by omega,λ p hp=>by have:=h6 p hp; omega⟩
theorem aem{n:Int}(h1:0≤n)(h2:n < 256):Cx n=some (isLet n):=by unfold Cx isLet; rw [gB (by omega) (by omega),qU]; rfl
theorem aEe{n:Int}(h1:0≤n)(h2:n < 256):Fv n=some (xv n):=by unfold Fv xv; rw [gB (by omega) (by omega),qU]; rfl
theorem aD5{s:ByteArray}(hs:s.size≤1000):JX s=some (p5 s):=by
 unfold JX p5
 rw [qU,Option.bind_some]
 cases hb:c7 (s.size:Int) 1 12 with
 | false =>
  simp only [Bool.not_false,cJ,Option.bind_some]
  congr 1
  cases hf:eZ (nS s) 0 s.size with
  | none=>rfl
  | some o=>rw [ahx hf]; rfl
 | true =>
  have h1:1≤s.size:=by
   simp only [c7,Bool.and_eq_true,decide_eq_true_eq] at hb
   omega
  have o6:0 < (gN s).length:=by rw [OG]; omega
  obtain ⟨g1,g2⟩:=afO (s:=s) (i:=0) (by omega)
  have EL:uy s 0=some (nth (gN s) 0):=by unfold uy; rw [← cp o6]; exact dT _ 0
  simp only [Bool.not_true,cD,EL,Option.bind_some,aem g1 g2]
  have hu:eZ (nS s) 0 s.size=match nS s 0 with | some o=>some o | none=>eZ (nS s) 1 (s.size - 1):=by
   obtain ⟨k,hk⟩:∃ k,s.size=k+1:=⟨s.size - 1,by omega⟩
   rw [hk]
   simp only [eZ,Nat.add_sub_cancel,Nat.zero_add]
   cases nS s 0 <;> rfl
  rw [hu]
  unfold nS
  cases hl:isLet (nth (gN s) 0) with
  | false=>rfl
  | true =>
   simp only [Bool.not_true,cD,Bool.true_eq_false,if_false]
   have e2:=search (body:=λ (qe:Int) =>
    af (decide (qe < (s.size:Int)))
    ((uy s qe).bind λ AL =>
    (Cx AL).bind λ mQ =>
    af (!mQ)
    ((uy s qe).bind λ jw =>
    (Fv jw).bind λ rv =>
    af (!rv)
    (some (.inr (.inr false)))
    (some (.inl (i64 (qe+1)))))
    (some (.inl (i64 (qe+1)))))
    (some (.inr (.inl ())))) (nS s) 1 s.size (d:=true) (g:=λ _=>some true) (λ i hi1 hi=>?_) (by simp only [oI,cD]) h1 rfl
   ·exact e2
   ·have Ik:i < (gN s).length:=by rw [OG]; exact hi
    obtain ⟨k1,k2⟩:=afO hi
    have hsi:uy s (i:Int)=some (nth (gN s) i):=by unfold uy; rw [← cp Ik]; exact dT _ i
    simp only [dec_lt hi,cJ,hsi,Option.bind_some,aem k1 k2,aEe k1 k2,fy (i:=i) (by omega)]
    have h0:i≠0:=by omega
    unfold nS
    cases isLet (nth (gN s) i) with
    | true=>rfl
    | false =>
     simp only [Bool.not_false,cJ,h0,if_false,if_true]
     cases xv (nth (gN s) i) <;> rfl
theorem aER(s:ByteArray):J2 s=some (p5 s):=rfl
def x8(b:ay)(i:Nat):Option Int :=
 if (c7 (nth b.Rows i).dU 1 30 && c7 (nth b.Rows i).eQ 1 60)=false then some 1
 else if 0 < i then (if (nth b.Rows i).dU≤(nth b.Rows (i - 1)).dU then some 7 else if (nth b.Rows i).eQ > (nth b.Rows (i - 1)).eQ then some 7 else none) else none
def sf(b:ay):Int:=if c7 (b.Rows.length:Int) 1 4=false then 2 else (eZ (x8 b) 0 b.Rows.length).getD 0
def ub(x:Reach):Bool:=vS x 1 30 && Az x 3
def q8(b:ay):Int:=if c7 (b.aE.length:Int) 1 3=false then 2 else if b.aE.any (λ x=>!ub x)=true then 1 else 0
def yb(p q:fe):Bool:=q.Name.toList == p.Name.toList
def vL(b:ay)(i:Nat):Option Int :=
 if p5 (nth b.aD i).Name=false then some 4 else if (b.aD.take i).any (yb (nth b.aD i))=true then some 5 else if c7 (nth b.aD i).qo 1 30=false then some 1 else none
def rZ(b:ay):Int:=if c7 (b.aD.length:Int) 1 4=false then 2 else (eZ (vL b) 0 b.aD.length).getD 0
def ov(b:ay)(n:Int):Bool:=c7 n 0 ((b.aE.length:Int) - 1)
def ta(b:ay)(i:Nat):Option Int :=
 if ov b (nth b.aT i).Place=false then some 6 else if (c7 (nth b.aT i).na 0 200 && (c7 (nth b.aT i).mr 1 60 && c7 (nth b.aT i).aD 1 3))=false then some 1 else none
def uX(b:ay):Int:=if c7 (b.aT.length:Int) 1 4=false then 2 else (eZ (ta b) 0 b.aT.length).getD 0
def yd(b:ay)(i:Nat):Option Int :=
 if ov b (nth b.bj i).Place=false then some 6 else if c7 (nth b.bj i).mT 0 30=false then some 1 else none
def Av(b:ay):Int:=if 3 < b.bj.length then 2 else (eZ (yd b) 0 b.bj.length).getD 0
def lJ(b:ay):Int:=if c7 b.Rest 0 60=false then 1 else if sf b≠0 then sf b else if q8 b≠0 then q8 b else if rZ b≠0 then rZ b else if uX b≠0 then uX b else Av b
theorem WR{n:Int}{m:Nat}(hm:m≤1000):pb n (m:Int)=some (if c7 n 0 ((m:Int) - 1)=false then 6 else 0):=by
 unfold pb
 rw [uM,Option.bind_some,gB (by omega) (by omega)]
 cases c7 n 0 ((m:Int) - 1) <;> rfl
theorem aEC{b:ay}(h:Small b):CA b=some (sf b):=by
 unfold CA sf
 have hr:=h.rows
 rw [uM,Option.bind_some]
 cases c7 (b.Rows.length:Int) 1 4 with
 | false=>rfl
 | true =>
  simp only [Bool.not_true,cD,Bool.true_eq_false,if_false]
  refine wo (x8 b) b.Rows.length (λ i hi=>?_) (by simp only [oI,cD]) rfl
  simp only [dec_lt hi,cJ,dT,cp hi,Option.bind_some,uM,fy (i:=i) (by omega)]
  unfold x8
  cases c7 (nth b.Rows i).dU 1 30 with
  | false=>rfl
  | true =>
   cases c7 (nth b.Rows i).eQ 1 60 with
   | false=>rfl
   | true =>
    by_cases hp:0 < i
    ·simp only [Rp hp,Bool.not_true,cD,cJ,kO (i:=i) (by omega) hp,dT,cp (show i - 1 < b.Rows.length by omega),Option.bind_some,hp,if_true,Bool.and_self,Bool.true_eq_false,if_false]
     by_cases hc:(nth b.Rows i).dU≤(nth b.Rows (i - 1)).dU
     ·simp [hc]
     ·by_cases hd:(nth b.Rows i).eQ > (nth b.Rows (i - 1)).eQ
      ·simp [hc,hd]
      ·simp [hc,hd]
    ·simp [hp]
theorem aDE{b:ay}(h:Small b):JQ b=some (if c7 b.Rest 0 60=false then 1 else sf b):=by
 unfold JQ sf
 have hr:=h.rows
 rw [qU,Option.bind_some]
 cases c7 b.Rest 0 60 with
 | false=>rfl
 | true =>
 simp only [Bool.not_true,cD,Bool.true_eq_false,if_false]
 rw [qU,Option.bind_some]
 cases c7 (b.Rows.length:Int) 1 4 with
 | false=>rfl
 | true =>
  simp only [Bool.not_true,cD,Bool.true_eq_false,if_false]
  refine wo (x8 b) b.Rows.length (λ i hi=>?_) (by simp only [oI,cD]) rfl
  simp only [dec_lt hi,cJ,dT,cp hi,Option.bind_some,qU,fy (i:=i) (by omega)]
  unfold x8
  cases c7 (nth b.Rows i).dU 1 30 with
  | false=>rfl
  | true =>
   cases c7 (nth b.Rows i).eQ 1 60 with
   | false=>rfl
   | true =>
    by_cases hp:0 < i
    ·simp only [Rp hp,Bool.not_true,cD,cJ,kO (i:=i) (by omega) hp,dT,cp (show i - 1 < b.Rows.length by omega),Option.bind_some,hp,if_true,Bool.and_self,Bool.true_eq_false,if_false]
     by_cases hc:(nth b.Rows i).dU≤(nth b.Rows (i - 1)).dU
     ·simp [hc]
     ·by_cases hd:(nth b.Rows i).eQ > (nth b.Rows (i - 1)).eQ
      ·simp [hc,hd]
      ·simp [hc,hd]
    ·simp [hp]
theorem aEE{b:ay}(h:Small b):CB b=some (q8 b):=by
 unfold CB q8
 rw [uM,Option.bind_some]
 cases c7 (b.aE.length:Int) 1 3 with
 | false=>rfl
 | true =>
  have hp:=h.places
  simp only [Bool.not_true,cD,Bool.true_eq_false,if_false]
  rw [aEM (p:=λ x=>!ub x) (by omega) (λ x _=>by unfold CG ub; rw [aEP (by omega) (by omega)]; rfl),Option.bind_some]
  cases b.aE.any λ x=>!ub x <;> rfl
theorem aEG{b:ay}(h:Small b):CC b=some (rZ b):=by
 unfold CC rZ
 rw [uM,Option.bind_some]
 cases c7 (b.aD.length:Int) 1 4 with
 | false=>rfl
 | true =>
  have hp:=h.xH
  simp only [Bool.not_true,cD,Bool.true_eq_false,if_false]
  refine wo (vL b) b.aD.length (λ i hi=>?_) (by simp only [oI,cD]) rfl
  simp only [dec_lt hi,cJ,dT,cp hi,Option.bind_some,aER,aa2 (show i≤b.aD.length by omega),uM,
   aET (l:=b.aD.take i) (f:=λ y=>CJ y (nth b.aD i)) (p:=yb (nth b.aD i)) (by simp; omega) (λ x _=>rfl),fy (i:=i) (by omega)]
  unfold vL
  cases p5 (nth b.aD i).Name with
  | false=>rfl
  | true =>
   cases (b.aD.take i).any (yb (nth b.aD i)) with
   | true=>rfl
   | false=>cases c7 (nth b.aD i).qo 1 30 <;> rfl
theorem aDG{b:ay}(h:Small b):JR b=some (if q8 b≠0 then q8 b else rZ b):=by
 unfold JR q8
 rw [qU,Option.bind_some]
 cases c7 (b.aE.length:Int) 1 3 with
 | false=>rfl
 | true =>
  have hp:=h.places
  simp only [Bool.not_true,cD,Bool.true_eq_false,if_false]
  rw [XG (λ i=>if (λ x=>!ub x) (nth b.aE i) then some (1:Int) else none) b.aE.length (λ i hi=>?_) (by simp only [oI,cD])]
  ·rw [aco (λ x=>!ub x) (1:Int) b.aE b.aE.length (Nat.le_refl _),List.take_length]
   cases b.aE.any λ x=>!ub x with
   | true=>rfl
   | false =>
    simp only [Bool.false_eq_true,if_false,Option.bind_some,Sum.elim_inl,ne_eq,not_true_eq_false]
    unfold rZ
    rw [qU,Option.bind_some]
    cases c7 (b.aD.length:Int) 1 4 with
    | false=>rfl
    | true =>
     have hm:=h.xH
     simp only [Bool.not_true,cD,Bool.true_eq_false,if_false]
     refine wo (vL b) b.aD.length (λ i hi=>?_) (by simp only [oI,cD]) rfl
     have hn:=h.each _ (qn hi)
     simp only [dec_lt hi,cJ,dT,cp hi,Option.bind_some,aD5 (show (nth b.aD i).Name.size≤1000 by omega)]
     rw [XG (λ k=>if yb (nth b.aD i) (nth b.aD k) then some (5:Int) else none) i (λ k hk=>?_) (by simp only [oI,cD])]
     ·rw [aco (yb (nth b.aD i)) (5:Int) b.aD i (by omega)]
      simp only [qU,Option.bind_some,fy (i:=i) (by omega)]
      unfold vL
      cases p5 (nth b.aD i).Name with
      | false=>rfl
      | true =>
       cases (b.aD.take i).any (yb (nth b.aD i)) with
       | true=>rfl
       | false=>cases c7 (nth b.aD i).qo 1 30 <;> rfl
     ·simp only [dec_lt hk,cJ,dT,cp (show k < b.aD.length by omega),Option.bind_some,fy (i:=k) (by omega)]
      rw [show ((nth b.aD k).Name.toList == (nth b.aD i).Name.toList)=yb (nth b.aD i) (nth b.aD k) from rfl]
      cases yb (nth b.aD i) (nth b.aD k) <;> rfl
  ·simp only [dec_lt hi,cJ,dT,cp hi,Option.bind_some,aD3,fy (i:=i) (by omega)]
   unfold ub
   by_cases hr:vS (nth b.aE i) 1 30=true
   ·have hw:decide (i64 ((nth b.aE i).dq - (nth b.aE i).cF) ≥ 3)=!Az (nth b.aE i) 3:=by
     rw [aIL (by omega) (by omega) hr]
     unfold Az
     by_cases hx:(nth b.aE i).dq - (nth b.aE i).cF < 3
     ·simp [hx]
     ·simp [hx]; omega
    rw [hw]
    by_cases hx:Az (nth b.aE i) 3=true
    ·simp [hr,hx,cD]
    ·simp [hr,hx,cD,cJ]
   ·simp [hr,cJ]
theorem aEI{b:ay}(h:Small b):CD b=some (uX b):=by
 unfold CD uX
 rw [uM,Option.bind_some]
 cases c7 (b.aT.length:Int) 1 4 with
 | false=>rfl
 | true =>
  have hp:=h.places
  have hd:=h.abb
  simp only [Bool.not_true,cD,Bool.true_eq_false,if_false]
  refine wo (ta b) b.aT.length (λ i hi=>?_) (by simp only [oI,cD]) rfl
  simp only [dec_lt hi,cJ,dT,cp hi,Option.bind_some,WR (show b.aE.length≤1000 by omega),uM,fy (i:=i) (by omega)]
  unfold ta ov
  cases c7 (nth b.aT i).Place 0 ((b.aE.length:Int) - 1) with
  | false=>rfl
  | true=>cases c7 (nth b.aT i).na 0 200 <;> cases c7 (nth b.aT i).mr 1 60 <;> cases c7 (nth b.aT i).aD 1 3 <;> rfl
theorem aEK{b:ay}(h:Small b):CF b=some (Av b):=by
 unfold CF Av
 have e:decide ((b.bj.length:Int) > 3)=decide (3 < b.bj.length):=yX (m:=3)
 rw [e]
 by_cases h3:3 < b.bj.length
 ·simp [h3]
 have hp:=h.places
 simp only [h3,decide_false,cD,if_false]
 refine wo (yd b) b.bj.length (λ i hi=>?_) (by simp only [oI,cD]) rfl
 simp only [dec_lt hi,cJ,dT,cp hi,Option.bind_some,WR (show b.aE.length≤1000 by omega),uM,fy (i:=i) (by omega)]
 unfold yd ov
 cases c7 (nth b.bj i).Place 0 ((b.aE.length:Int) - 1) with
 | false=>rfl
 | true=>cases c7 (nth b.bj i).mT 0 30 <;> rfl
theorem aeI{z:Int}{a c:Option Int}:af (z != 0) a c=if z≠0 then a else c:=by
 by_cases h:z=0
 ·subst h; rfl
 ·rw [if_pos h,GL h]; rfl
theorem aex{b:ay}(h:Small b):qa b=some (lJ b):=by
 unfold qa lJ
 rw [show (⟨b.Rest,b.Rows,b.aE,b.aD,b.aT,b.bj⟩:ay)=b from rfl]
 unfold Fw
 rw [uM,Option.bind_some]
 cases c7 b.Rest 0 60 with
 | false=>rfl
 | true =>
  simp only [Bool.not_true,cD,Option.bind_some,aEC h,aEE h,aEG h,aEI h,aEK h,aeI,Bool.true_eq_false,if_false]
  by_cases h1:sf b=0
  ·by_cases h2:q8 b=0
   ·by_cases h3:rZ b=0
    ·by_cases h4:uX b=0
     ·by_cases h5:Av b=0
      ·simp [h1,h2,h3,h4,h5]
      ·simp [h1,h2,h3,h4,h5]
     ·simp [h1,h2,h3,h4]
    ·simp [h1,h2,h3]
   ·simp [h1,h2]
  ·simp [h1]
theorem aeb{b:ay}{n:Int}(h:Small b):E5 b n=some (ov b n):=by
 unfold E5 ov
 have hp:=h.places
 rw [qU,gB (by omega) (by omega)]
 rfl
theorem aE5{b:ay}(h:Small b):J6 b=some (lJ b):=by
 unfold J6 lJ
 rw [aDE h,Option.bind_some]
 cases c7 b.Rest 0 60 with
 | false=>rfl
 | true =>
  have hp:=h.places
  have hd:=h.abb
  have hs:=h.aHm
  simp only [Bool.true_eq_false,if_false,aDG h,Option.bind_some,aeI]
  by_cases h1:sf b=0
  ·by_cases h2:q8 b=0
   ·by_cases h3:rZ b=0
    ·simp only [h1,h2,h3,ne_eq,not_true_eq_false,if_false]
     unfold uX
     rw [qU,Option.bind_some]
     cases c7 (b.aT.length:Int) 1 4 with
     | false=>rfl
     | true =>
      simp only [Bool.not_true,cD,Bool.true_eq_false,if_false]
      rw [XG (ta b) b.aT.length (λ i hi=>?_) (by simp only [oI,cD])]
      ·cases hf:eZ (ta b) 0 b.aT.length with
       | some o =>
        simp only [Option.bind_some,Sum.elim_inr,Option.getD_some]
        rw [if_pos]
        rintro rfl
        obtain ⟨j,_,_,he,_⟩:=y4 hf
        unfold ta at he
        split at he
        ·cases he
        ·split at he <;> cases he
       | none =>
        simp only [Option.bind_some,Sum.elim_inl,Option.getD_none,not_true_eq_false,if_false]
        unfold Av
        have e:decide ((b.bj.length:Int) > 3)=decide (3 < b.bj.length):=yX (m:=3)
        rw [e]
        by_cases h3:3 < b.bj.length
        ·simp [h3]
        simp only [h3,decide_false,cD,if_false]
        refine wo (yd b) b.bj.length (λ i hi=>?_) (by simp only [oI,cD]) rfl
        simp only [dec_lt hi,cJ,dT,cp hi,Option.bind_some,aeb h,qU,fy (i:=i) (by omega)]
        unfold yd
        cases ov b (nth b.bj i).Place with
        | false=>rfl
        | true=>cases c7 (nth b.bj i).mT 0 30 <;> rfl
      ·simp only [dec_lt hi,cJ,dT,cp hi,Option.bind_some,aeb h,qU,fy (i:=i) (by omega)]
       unfold ta
       cases ov b (nth b.aT i).Place with
       | false=>rfl
       | true=>cases c7 (nth b.aT i).na 0 200 <;> cases c7 (nth b.aT i).mr 1 60 <;> cases c7 (nth b.aT i).aD 1 3 <;> rfl
    ·simp [h1,h2,h3]
   ·simp [h1,h2]
  ·simp [h1]
theorem aE2(b:ay):FD b=some (!Bm b && (lJ b == 0)):=by
 unfold FD
 rw [aEb,Option.bind_some]
 cases hg:Bm b with
 | true=>rfl
 | false=>rw [Bool.not_false,cJ,aE5 (acw hg)]; rfl
end Go.Proofs.YtihapemckcdicaaGreatDoor
namespace Go.Proofs.YtihapemckcdicaaGreatDoor
open Go.Lg Go.Proofs
set_option maxRecDepth 10000
structure aiY (r:fh):Prop where
 depth:1≤r.dU∧r.dU≤30
 stay:1≤r.eQ∧r.eQ≤60
structure ahM (P:Nat) (d:mq):Prop where
 place:0≤d.Place∧d.Place < (P:Int)
 beg:0≤d.na∧d.na≤200
 aHQ:1≤d.mr∧d.mr≤60
 xH:1≤d.aD∧d.aD≤3
structure ZE (P:Nat) (s:dD):Prop where
 place:0≤s.Place∧s.Place < (P:Int)
 line:0≤s.mT∧s.mT≤30
structure Valid (b:ay):Prop where
 rest:0≤b.Rest∧b.Rest≤60
 r1:1≤b.Rows.length
 r4:b.Rows.length≤4
 row:∀ r∈b.Rows,aiY r
 YU:∀ i,0 < i→i < b.Rows.length→(nth b.Rows (i - 1)).dU < (nth b.Rows i).dU∧(nth b.Rows i).eQ≤(nth b.Rows (i - 1)).eQ
 p1:1≤b.aE.length
 p3:b.aE.length≤3
 place:∀ x∈b.aE,1≤x.cF∧x.cF≤x.dq∧x.dq≤30∧x.dq - x.cF < 3
 m1:1≤b.aD.length
 m4:b.aD.length≤4
 man:∀ m∈b.aD,p5 m.Name=true∧1≤m.qo∧m.qo≤30
 names:∀ i,i < b.aD.length→(b.aD.take i).any (yb (nth b.aD i))=false
 d1:1≤b.aT.length
 d4:b.aT.length≤4
 ahq:∀ d∈b.aT,ahM b.aE.length d
 s3:b.bj.length≤3
 sound:∀ s∈b.bj,ZE b.aE.length s
theorem aGZ{b:ay}(i:Nat):x8 b i≠some 0:=by
 unfold x8
 intro h
 repeat' split at h
 all_goals cases h
theorem aFg{b:ay}(i:Nat):vL b i≠some 0:=by
 unfold vL
 intro h
 repeat' split at h
 all_goals cases h
theorem akR{b:ay}(i:Nat):ta b i≠some 0:=by
 unfold ta
 intro h
 repeat' split at h
 all_goals cases h
theorem aHl{b:ay}(i:Nat):yd b i≠some 0:=by
 unfold yd
 intro h
 repeat' split at h
 all_goals cases h
theorem XC{b:ay}{i:Nat}:x8 b i=none↔((1≤(nth b.Rows i).dU∧(nth b.Rows i).dU≤30)∧(1≤(nth b.Rows i).eQ∧(nth b.Rows i).eQ≤60))∧(0 < i→(nth b.Rows (i - 1)).dU < (nth b.Rows i).dU∧(nth b.Rows i).eQ≤(nth b.Rows (i - 1)).eQ):=by
 unfold x8
 by_cases h1:(c7 (nth b.Rows i).dU 1 30 && c7 (nth b.Rows i).eQ 1 60)=false
 ·rw [if_pos h1]
  simp only [reduceCtorEq,false_iff]
  rintro ⟨⟨h2,h3⟩,_⟩
  rw [jV.2 h2,jV.2 h3] at h1
  cases h1
 ·rw [if_neg h1]
  simp only [Bool.not_eq_false,Bool.and_eq_true,jV] at h1
  by_cases h0:0 < i
  ·rw [if_pos h0]
   constructor
   ·intro h
    split at h
    ·cases h
    ·split at h
     ·cases h
     ·exact ⟨h1,λ _=>by omega⟩
   ·rintro ⟨_,h2⟩
    have:=h2 h0
    rw [if_neg (by omega),if_neg (by omega)]
  ·rw [if_neg h0]
   exact ⟨λ _=>⟨h1,λ h=>absurd h h0⟩,λ _=>rfl⟩
theorem aeQ{x:Reach}:ub x=true↔1≤x.cF∧x.cF≤x.dq∧x.dq≤30∧x.dq - x.cF < 3:=by
 unfold ub
 rw [Bool.and_eq_true,aGu,aIM]
 omega
theorem GM{b:ay}:lJ b=0↔Valid b:=by
 constructor
 ·intro h
  unfold lJ at h
  by_cases h1:c7 b.Rest 0 60=false
  ·rw [if_pos h1] at h; cases h
  rw [if_neg h1] at h
  by_cases h2:sf b=0
  case neg=>rw [if_pos h2] at h; exact absurd h h2
  rw [if_neg (by simpa using h2)] at h
  by_cases h3:q8 b=0
  case neg=>rw [if_pos h3] at h; exact absurd h h3
  rw [if_neg (by simpa using h3)] at h
  by_cases h4:rZ b=0
  case neg=>rw [if_pos h4] at h; exact absurd h h4
  rw [if_neg (by simpa using h4)] at h
  by_cases h5:uX b=0
  case neg=>rw [if_pos h5] at h; exact absurd h h5
  rw [if_neg (by simpa using h5)] at h
  unfold sf at h2
  unfold q8 at h3
  unfold rZ at h4
  unfold uX at h5
  unfold Av at h
  split at h2
  ·cases h2
  rename_i g2
  split at h3
  ·cases h3
  rename_i g3
  split at h3
  ·cases h3
  rename_i k3
  split at h4
  ·cases h4
  rename_i g4
  split at h5
  ·cases h5
  rename_i g5
  split at h
  ·cases h
  rename_i g6
  simp only [Bool.not_eq_false,jV] at h1 g2 g3 g4 g5
  have r:=MC aGZ h2
  have m:=MC aFg h4
  have d:=MC akR h5
  have s:=MC aHl h
  refine ⟨h1,by omega,by omega,λ x hx=>?_,λ i h0 hi=>(XC.1 (r i hi)).2 h0,by omega,by omega,λ x hx=>?_,by omega,by omega,λ x hx=>?_,λ i hi=>?_,by omega,by omega,λ x hx=>?_,by omega,λ x hx=>?_⟩
  ·obtain ⟨i,hi,rfl⟩:=xJ hx
   obtain ⟨⟨q1,q2⟩,_⟩:=XC.1 (r i hi)
   exact ⟨q1,q2⟩
  ·have:b.aE.any (λ x=>!ub x)=false:=by simpa using k3
   rw [List.any_eq_false] at this
   have:=this x hx
   exact aeQ.1 (by simpa using this)
  ·obtain ⟨i,hi,rfl⟩:=xJ hx
   have:=m i hi
   unfold vL at this
   split at this
   ·cases this
   ·split at this
    ·cases this
    ·split at this
     ·cases this
     ·rename_i q1 q2 q3
      rw [Bool.not_eq_false,jV] at q3
      exact ⟨by simpa using q1,q3⟩
  ·have:=m i hi
   unfold vL at this
   split at this
   ·cases this
   ·split at this
    ·cases this
    ·rename_i q1 q2
     simpa using q2
  ·obtain ⟨i,hi,rfl⟩:=xJ hx
   have:=d i hi
   unfold ta ov at this
   split at this
   ·cases this
   ·split at this
    ·cases this
    ·rename_i q1 q2
     rw [Bool.not_eq_false,jV] at q1
     rw [Bool.not_eq_false,Bool.and_eq_true,Bool.and_eq_true,jV,jV,jV] at q2
     exact ⟨by omega,q2.1,q2.2.1,q2.2.2⟩
  ·obtain ⟨i,hi,rfl⟩:=xJ hx
   have:=s i hi
   unfold yd ov at this
   split at this
   ·cases this
   ·split at this
    ·cases this
    ·rename_i q1 q2
     rw [Bool.not_eq_false,jV] at q1 q2
     exact ⟨by omega,q2⟩
 ·intro h
  have e1:sf b=0:=by
   unfold sf
   have hr1:=h.r1
   have hr4:=h.r4
   rw [if_neg (by rw [Bool.not_eq_false,jV]; omega),tf.2 λ i _ hi=>?_]
   ·rfl
   ·have hx:=h.row _ (qn (l:=b.Rows) (i:=i) (by omega))
    exact XC.2 ⟨⟨hx.depth,hx.stay⟩,λ h0=>h.YU i h0 (by omega)⟩
  have e2:q8 b=0:=by
   unfold q8
   have h1:=h.p1
   have h3:=h.p3
   rw [if_neg (by rw [Bool.not_eq_false,jV]; omega),if_neg]
   rw [Bool.not_eq_true,List.any_eq_false]
   intro x hx
   simpa using aeQ.2 (h.place x hx)
  have e3:rZ b=0:=by
   unfold rZ
   have h1:=h.m1
   have h4:=h.m4
   rw [if_neg (by rw [Bool.not_eq_false,jV]; omega),tf.2 λ i _ hi=>?_]
   ·rfl
   ·have hx:=h.man _ (qn (l:=b.aD) (i:=i) (by omega))
    unfold vL
    rw [if_neg (by simp [hx.1]),if_neg (by rw [h.names i (by omega)]; simp),if_neg (by rw [Bool.not_eq_false,jV]; exact hx.2)]
  have e4:uX b=0:=by
   unfold uX
   have h1:=h.d1
   have h4:=h.d4
   rw [if_neg (by rw [Bool.not_eq_false,jV]; omega),tf.2 λ i _ hi=>?_]
   ·rfl
   ·have hx:=h.ahq _ (qn (l:=b.aT) (i:=i) (by omega))
    have hp:=hx.place
    unfold ta ov
    rw [if_neg (by rw [Bool.not_eq_false,jV]; omega),if_neg]
    rw [Bool.not_eq_false,Bool.and_eq_true,Bool.and_eq_true,jV,jV,jV]
    exact ⟨hx.beg,hx.aHQ,hx.xH⟩
  have e5:Av b=0:=by
   unfold Av
   have h3:=h.s3
   rw [if_neg (by omega),tf.2 λ i _ hi=>?_]
   ·rfl
   ·have hx:=h.sound _ (qn (l:=b.bj) (i:=i) (by omega))
    have hp:=hx.place
    unfold yd ov
    rw [if_neg (by rw [Bool.not_eq_false,jV]; omega),if_neg (by rw [Bool.not_eq_false,jV]; exact hx.line)]
  unfold lJ
  rw [if_neg (by rw [Bool.not_eq_false,jV]; exact h.rest)]
  simp [e1,e2,e3,e4,e5]
theorem Valid.each{b:ay}(h:Valid b){i:Nat}(hi:i < b.aE.length):1≤(nth b.aE i).cF∧(nth b.aE i).cF≤(nth b.aE i).dq∧(nth b.aE i).dq≤30∧(nth b.aE i).dq - (nth b.aE i).cF < 3:=h.place _ (qn hi)
theorem aBY{α:Type}[Inhabited α]{l:List α}{n:Int}(h0:0≤n)(h:n < (l.length:Int)):idx l n=some (nth l n.toNat):=by
 unfold idx
 rw [if_pos h0]
 exact cp (by omega)
def AT(b:ay)(w:List Int):Bool:=b.bj.all λ s=>decide (nth w s.Place.toNat≤s.mT) == s.wD
abbrev AN(b:ay):Nat→List Int→List Int:=λ i _=>C9 (nth b.aE i)
def fi(b:ay):List (List Int):=(lvl (AN b) b.aE.length).filter (AT b)
theorem PR{b:ay}{c:List Int}:c∈fi b↔(c.length=b.aE.length∧∀ i,i < b.aE.length→(nth b.aE i).cF≤nth c i∧nth c i≤(nth b.aE i).dq)∧AT b c=true:=by
 unfold fi
 rw [List.mem_filter,W7]
 simp only [AN,aeD]
def rl(c:List Int):bz:=⟨Ek [0,0,0] c⟩
theorem aa1{c:List Int}(h:c.length≤3):(Ek [0,0,0] c).length=3∧(∀ i,i < c.length→nth (Ek [0,0,0] c) i=nth c i)∧∀ i,c.length≤i→i < 3→nth (Ek [0,0,0] c) i=0:=by
 match c,h with
 | [],_=>exact ⟨rfl,λ i hi=>by simp at hi,λ i _ hi=>by match i,hi with | 0,_=>rfl | 1,_=>rfl | 2,_=>rfl⟩
 | [_],_=>exact ⟨rfl,λ i hi=>by match i,hi with | 0,_=>rfl,λ i h1 hi=>by match i,h1,hi with | 1,_,_=>rfl | 2,_,_=>rfl⟩
 | [_,_],_=>exact ⟨rfl,λ i hi=>by match i,hi with | 0,_=>rfl | 1,_=>rfl,λ i h1 hi=>by match i,h1,hi with | 2,_,_=>rfl⟩
 | [_,_,_],_=>exact ⟨rfl,λ i hi=>by match i,hi with | 0,_=>rfl | 1,_=>rfl | 2,_=>rfl,λ i h1 hi=>by simp at h1; omega⟩
structure qq (P:Nat) (pre w:List Int):Prop where
 len:w.length=3
 pre:∀ i,i < pre.length→nth w i=nth pre i
 rest:∀ i,P≤i→i < 3→nth w i=0
theorem qq.rl{P:Nat}{pre w:List Int}(h:qq P pre w)(hp:pre.length=P)(h3:P≤3):w=Ek [0,0,0] pre:=by
 obtain ⟨h1,h2,h4⟩:=aa1 (c:=pre) (by omega)
 refine aFt (by rw [h.len,h1]) λ i hi=>?_
 by_cases hl:i < pre.length
 ·rw [h.pre i hl,h2 i hl]
 ·rw [h.rest i (by omega) (by rw [← h.len]; exact hi),h4 i (by omega) (by rw [← h.len]; exact hi)]
theorem qq.set{P:Nat}{pre w:List Int}(h:qq P pre w)(hp:pre.length < P)(h3:P≤3)(n:Int):qq P (pre++[n]) (w.set pre.length n):=by
 have hl:=h.len
 refine ⟨by simpa using hl,λ i hi=>?_,λ i h1 h2=>?_⟩
 ·by_cases e:i=pre.length
  ·subst e
   rw [aFu (by omega),aeM]
  ·rw [aeN (by omega)]
   simp only [List.length_append,List.length_cons,List.length_nil] at hi
   rw [Xd (by omega)]
   exact h.pre i (by omega)
 ·rw [aeN (by omega)]
  exact h.rest i h1 h2
theorem qq.back{P:Nat}{pre w:List Int}{n:Int}(h:qq P (pre++[n]) w):qq P pre w:=⟨h.len,λ i hi=>by rw [h.pre i (by simp; omega),Xd hi],h.rest⟩
theorem aDQ{b:ay}(hv:Valid b){c:List Int}{w:bz}(hw:∀ i,i < b.aE.length→nth w.deep i=nth c i)(hl:w.deep.length=3):zL b w=some (AT b c):=by
 unfold zL
 have h3:=hv.s3
 have hp:=hv.p3
 rw [aD7 (p:=λ s=>!(decide (nth c s.Place.toNat≤s.mT) == s.wD)) (by omega) (λ s hs=>?_),Option.bind_some]
 ·unfold AT
  congr 1
  rw [List.not_any_eq_all_not]
  congr 1
  funext s
  simp
 ·have:=(hv.sound s hs).place
  unfold Cw
  rw [aBY this.1 (by omega),Option.bind_some,hw _ (by omega)]
theorem ad5{α S X O:Type}{ys:α→S→Option (S × Bool)}{body:S × X→Option ((S × X) ⊕ O)}(XH:Nat→List α)(n:Nat)(I:Nat→X→Prop)(F Q:S→O→Prop)
  (h:∀ j s x r,j < n→I j x→oU ys (XH j) s=some r→if r.2=true then ∃ x',body (s,x)=some (.inl (r.1,x'))∧I (j+1) x' else ∃ o,body (s,x)=some (.inr o)∧Q r.1 o) (hn:∀ s x,I n x→∃ o,body (s,x)=some (.inr o)∧F s o) :
  ∀ (k j:Nat) (s:S) (x:X) (r:S × Bool),j+k=n→I j x→oU ys ((List.range' j k).flatMap XH) s=some r→∃ o,bH body (s,x)=some o∧if r.2=true then F r.1 o else Q r.1 o
 | 0,j,s,x,r,hj,hI,hr=>by
  simp only [List.range'_zero,List.flatMap_nil,oU,Option.some.injEq] at hr
  subst hr
  obtain rfl:j=n:=by omega
  obtain ⟨o,h1,h2⟩:=hn s x hI
  exact ⟨o,lR h1,by simpa using h2⟩
 | k+1,j,s,x,r,hj,hI,hr=>by
  rw [List.range'_succ,List.flatMap_cons,acr] at hr
  obtain ⟨q,hq,hr⟩:=ah hr
  have hb:=h j s x q (by omega) hI hq
  split at hr
  ·rename_i h2
   rw [if_pos h2] at hb
   obtain ⟨x',h3,h4⟩:=hb
   rw [vF h3]
   exact ad5 XH n I F Q h hn k (j+1) q.1 x' r (by omega) h4 hr
  ·rename_i h2
   rw [if_neg h2] at hb
   obtain ⟨o,h3,h4⟩:=hb
   cases hr
   exact ⟨o,lR h3,by simpa using h4⟩
theorem aej{b:ay}(hv:Valid b){S:Type}(ys:bz→S→Option (S × Bool)):∀ (j k:Nat) (pre:List Int) (w:bz) (s:S) (r:S × Bool),pre.length+j=b.aE.length→j < k→qq b.aE.length pre w.deep →
  oU ys (((tree (AN b) j pre.length pre).filter (AT b)).map rl) s=some r→∃ w',qT ys k (pre.length:Int) b w s=some (r.1,(w',r.2))∧qq b.aE.length pre w'.deep
 | _,0,_,_,_,_,_,hk,_,_=>by omega
 | 0,k+1,pre,w,s,r,hl,_,hw,hr=>by
  rw [Nat.add_zero] at hl
  have h3:=hv.p3
  unfold qT
  rw [show ((pre.length:Int) == (b.aE.length:Int))=true by rw [hl]; simp,cJ,aDQ (c:=pre) hv (λ i hi=>hw.pre i (by omega)) hw.len,Option.bind_some]
  simp only [tree] at hr
  have ew:w=rl pre:=by
   obtain ⟨d⟩:=w
   exact congrArg bz.mk (hw.rl hl h3)
  refine ⟨w,?_,hw⟩
  cases hs:AT b pre with
  | true =>
   simp only [List.filter_cons,hs,if_true,List.filter_nil,List.map_cons,List.map_nil,oU] at hr
   obtain ⟨q,hq,hr⟩:=ah hr
   rw [← ew] at hq
   simp only [Bool.not_true,cD,hq,Option.bind_some]
   split at hr
   ·rename_i h2; cases hr; rw [h2]
   ·rename_i h2; cases hr; simp at h2; rw [h2]
  | false =>
   simp [hs,oU] at hr
   subst hr
   rfl
 | j+1,k+1,pre,w,s,r,hl,hk,hw,hr=>by
  have h3:=hv.p3
  have hx:=hv.each (i:=pre.length) (by omega)
  unfold qT
  rw [show ((pre.length:Int) == (b.aE.length:Int))=false by simp; omega,cD,dT,cp (by omega),Option.bind_some]
  generalize hX:nth b.aE pre.length=X at hx
  refine Exists.elim (ad5 (ys:=ys) (S:=S) (X:=Int × List Int) (O:=(S × List Int) ⊕ (S × (bz × Bool))) (body:=λ (bU:(S × Int × (List Int))) =>
   (some X:Option Reach).bind λ fg =>
   af (decide (bU.2.1≤fg.dq))
   ((idx bU.2.2 (pre.length:Int)).bind λ pC =>
   (qT ys k (i64 ((pre.length:Int)+1)) b (⟨bU.2.2.set (pre.length:Int).toNat bU.2.1⟩:bz) bU.1).bind λ hF =>
   af (!hF.2.2)
   (some (.inr (.inr (hF.1,(hF.2.1,false)))))
   (some (.inl (hF.1,i64 (bU.2.1+1),hF.2.1.deep))))
   (some (.inr (.inl (bU.1,bU.2.2)))))
   (λ q=>((tree (AN b) j (pre.length+1) (pre++[X.cF+(q:Int)])).filter (AT b)).map rl) (X.dq+1 - X.cF).toNat (λ q x=>x.1=X.cF+(q:Int)∧qq b.aE.length pre x.2)
   (λ s o=>∃ d,o = .inl (s,d)∧qq b.aE.length pre d) (λ s o=>∃ w',o = .inr (s,(w',false))∧qq b.aE.length pre w'.deep)
   (λ q s x r hq hI hr=>?_) (λ s x hI=>?_) (X.dq+1 - X.cF).toNat 0 s (X.cF,w.deep) r (by omega) ⟨by simp,hw⟩ ?_) ?_
  ·obtain ⟨n,d⟩:=x
   obtain ⟨rfl,hd⟩:=hI
   have hs:=hd.set (n:=X.cF+(q:Int)) (by omega) h3
   obtain ⟨w',h1,h2⟩:=aej hv ys j k (pre++[X.cF+(q:Int)]) ⟨d.set pre.length (X.cF+(q:Int))⟩ s r (by simp; omega) (by omega) hs (by simpa using hr)
   have hl3:d.length=3:=hd.len
   simp only [List.length_append,List.length_cons,List.length_nil,Nat.zero_add] at h1
   simp only [Option.bind_some,show decide (X.cF+(q:Int)≤X.dq)=true by simp; omega,cJ,dT,cp (show pre.length < d.length by omega),Int.toNat_natCast,fy (i:=pre.length) (by omega),h1]
   have e1:i64 (X.cF+(q:Int)+1)=X.cF+((q+1:Nat):Int):=by rw [gB (by omega) (by omega)]; omega
   cases hr2:r.2 with
   | true=>exact ⟨(X.cF+((q+1:Nat):Int),w'.deep),by simp [e1,cD],rfl,h2.back⟩
   | false=>exact ⟨.inr (r.1,(w',false)),by simp [cJ],w',rfl,h2.back⟩
  ·obtain ⟨n,d⟩:=x
   obtain ⟨rfl,hd⟩:=hI
   refine ⟨.inl (s,d),?_,d,rfl,hd⟩
   simp only [Option.bind_some,show decide (X.cF+(((X.dq+1 - X.cF).toNat:Nat):Int)≤X.dq)=false by simp; omega,cD]
  ·rw [← hr,← List.range_eq_range']
   congr 1
   simp only [tree,AN,hX,C9,List.flatMap_map,List.map_flatMap,List.filter_flatMap]
  ·rintro o ⟨ho,hc⟩
   rw [show (bH (O:=((S × (List Int)) ⊕ (S × (bz × Bool)))) (λ (bU:(S × Int × (List Int))) =>
    (some X:Option Reach).bind λ fg =>
    af (decide (bU.2.1≤fg.dq))
    ((idx bU.2.2 (pre.length:Int)).bind λ pC =>
    (qT ys k (i64 ((pre.length:Int)+1)) b (⟨bU.2.2.set (pre.length:Int).toNat bU.2.1⟩:bz) bU.1).bind λ hF =>
    af (!hF.2.2)
    (some (.inr (.inr (hF.1,(hF.2.1,false)))))
    (some (.inl (hF.1,i64 (bU.2.1+1),hF.2.1.deep))))
    (some (.inr (.inl (bU.1,bU.2.2))))) (s,X.cF,w.deep))=some o from ho,Option.bind_some]
   split at hc
   ·rename_i h2
    obtain ⟨d,rfl,hd⟩:=hc
    exact ⟨⟨d⟩,by simp [h2],hd⟩
   ·rename_i h2
    obtain ⟨w',rfl,hd⟩:=hc
    exact ⟨w',by simp at h2; simp [h2],hd⟩
theorem aFb{b:ay}(hv:Valid b){S:Type}(ys:bz→S→Option (S × Bool)){s:S}{r:S × Bool}(hr:oU ys ((fi b).map rl) s=some r):pd ys b s=some r.1:=by
 have h3:=hv.p3
 unfold pd
 obtain ⟨w',h1,_⟩:=aej hv ys b.aE.length 9 [] ⟨[0,0,0]⟩ s r (by simp) (by omega) ⟨rfl,λ i hi=>by simp at hi,λ i _ hi=>by match i,hi with | 0,_=>rfl | 1,_=>rfl | 2,_=>rfl⟩ (by rw [← hr]; unfold fi; simp only [List.length_nil]; rw [aHW])
 have Et:qT ys 9 0 b ⟨[0,0,0]⟩ s=some (r.1,(w',r.2)):=h1
 rw [Et]
 rfl
end Go.Proofs.YtihapemckcdicaaGreatDoor
namespace Go.Proofs.YtihapemckcdicaaGreatDoor
open Go.Lg Go.Proofs
set_option maxRecDepth 10000
theorem ad8{b:ay}(hv:Valid b):∀ i,i≤b.aE.length→(lvl (AN b) i).length≤3 ^ i
 | 0,_=>by simp [lvl]
 | i+1,h=>by
  have ih:=ad8 hv i (by omega)
  have hx:=afr (hv.each (i:=i) (by omega)).2.2.2
  simp only [lvl]
  refine Nat.le_trans (acp _ 3 (λ a=>?_) _) ?_
  ·simpa using hx
  ·rw [Nat.pow_succ]; omega
theorem ajK{b:ay}(hv:Valid b):(lvl (AN b) b.aE.length).length≤27:=by
 refine Nat.le_trans (ad8 hv _ (Nat.le_refl _)) ?_
 have h1:=hv.p1
 have h3:=hv.p3
 match b.aE.length,h1,h3 with
 | 1,_,_=>decide
 | 2,_,_=>decide
 | 3,_,_=>decide
theorem PO{b:ay}(hv:Valid b):(fi b).length≤27:=Nat.le_trans (List.length_filter_le _ _) (ajK hv)
theorem ahB{b:ay}(hv:Valid b):xF (λ y s=>pd y b s)=some ((fi b).map rl):=by
 unfold xF Fj
 have hl:=PO hv
 have key:∀ (l a:List bz),l.foldl (λ s c=>s++[c]) a=a++l:=by
  intro l
  induction l with
  | nil=>simp
  | cons c l ih=>intro a; rw [List.foldl_cons,ih]; simp
 dsimp only
 rw [aFb hv _ (r:=(.inl ((((fi b).map rl).foldl (λ (s:List bz) c=>s++[c]) [])),true)) (acs (λ k s=>s.length=k) (λ c s=>s++[c]) _ 0 [] rfl (λ j s a hj hs _=>by
  simp only [List.length_map] at hj
  rw [QD (by simp; omega)]
  exact ⟨rfl,by simp [hs]⟩))]
 rw [key]
 rfl
def aFs:cq:=⟨⟨0,[],[],[],[],[]⟩,[]⟩
def Lb(b:ay):cq:=⟨b,(fi b).map rl⟩
def sN(b:ay)(own:Int):Int:=if lJ b≠0 then lJ b else if own≠0 then own else if fi b=[] then 9 else 0
theorem aht{b:ay}{own:Int}(h:sN b own=0):Valid b∧own=0∧fi b≠[]:=by
 unfold sN at h
 split at h
 ·rename_i h1; exact absurd h h1
 ·rename_i h1
  split at h
  ·rename_i h2; exact absurd h h2
  ·rename_i h2
   split at h
   ·cases h
   ·rename_i h3; exact ⟨GM.1 (by simpa using h1),by simpa using h2,h3⟩
def PS(b:ay)(own:Int):cq × Int:=if sN b own≠0 then (aFs,sN b own) else (Lb b,0)
theorem ahC{b:ay}(hs:Small b){f:ay→Option Int}{own:Int}(hf:lJ b=0→f b=some own):pe b f=some (PS b own):=by
 unfold pe PS sN
 rw [aex hs,Option.bind_some]
 by_cases h1:lJ b=0
 ·have hv:=GM.1 h1
  simp only [h1,bne_self_eq_false,cD,ne_eq,not_true_eq_false,if_false,hf h1,Option.bind_some]
  by_cases h2:own=0
  ·simp only [h2,bne_self_eq_false,cD,not_true_eq_false,if_false,ahB hv,Option.bind_some,List.length_map]
   cases hc:fi b with
   | nil=>rfl
   | cons c l =>
    rw [if_neg (by simp),show ((((c::l).length:Nat):Int) == 0)=false by simp; omega,cD]
    unfold Lb
    rw [hc]
  ·simp only [h2,not_false_eq_true,if_true,GL h2,cJ]
   rfl
 ·simp only [h1,ne_eq,not_false_eq_true,if_true,GL h1,cJ]
  rfl
end Go.Proofs.YtihapemckcdicaaGreatDoor
namespace Go.Proofs.YtihapemckcdicaaGreatDoor
open Go.Lg Go.Proofs
set_option maxRecDepth 10000
def wu(b:ay)(n:Int):Int:=match b.Rows.find? (λ r=>decide (n≤r.dU)) with | some r=>r.eQ | none=>0
theorem aJn{b:ay}(hs:b.Rows.length≤20)(n:Int):xx b n=some (wu b n):=by
 unfold xx wu
 rw [aJm (l:=b.Rows) (λ r=>decide (n≤r.dU)) (λ r=>r.eQ) (λ i hi=>?_) (by simp only [oI,cD])]
 ·cases b.Rows.find? (λ r=>decide (n≤r.dU)) <;> rfl
 ·simp only [dec_lt hi,cJ,dT,cp hi,Option.bind_some,fy (i:=i) (by omega)]
  cases decide (n≤(nth b.Rows i).dU) <;> rfl
def ahI(b:ay)(n:Int):Int × Int:=if lJ b≠0 then (0,lJ b) else if c7 n 1 30=false then (0,1) else (wu b n,0)
theorem ahA{b:ay}(hs:Small b)(n:Int):rY b n=some (ahI b n):=by
 unfold rY ahI
 rw [aex hs,Option.bind_some]
 by_cases h1:lJ b=0
 ·simp only [h1,bne_self_eq_false,cD,ne_eq,not_true_eq_false,if_false,uM,Option.bind_some,aJn hs.rows]
  cases c7 n 1 30 <;> rfl
 ·simp only [h1,ne_eq,not_false_eq_true,if_true,GL h1,cJ]
end Go.Proofs.YtihapemckcdicaaGreatDoor
namespace Go.Proofs.YtihapemckcdicaaGreatDoor
open Go.Lg Go.Proofs
set_option maxRecDepth 10000
theorem ahL{b:ay}(hv:Valid b){c:List Int}(hc:c.length=b.aE.length){i:Nat}(hi:i < b.aE.length):idx (rl c).deep (i:Int)=some (nth c i):=by
 have h3:=hv.p3
 have h:=aa1 (c:=c) (by omega)
 rw [dT,cp (l:=(rl c).deep) (show i < (Ek [0,0,0] c).length by omega)]
 exact congrArg some (h.2.1 i (by omega))
set_option maxRecDepth 1000000 in
theorem afn{x:Int}{n:Nat}(h0:0≤x)(h:x < 256)(hn:0 < n):Af (i64 x) (n:Int)=some ((x.toNat % n:Nat):Int):=by
 rw [gB (by omega) (by omega)]
 unfold Af
 obtain ⟨m,rfl⟩:=Int.eq_ofNat_of_zero_le h0
 rw [if_neg (by omega),Int.toNat_natCast,Int.ofNat_tmod]
end Go.Proofs.YtihapemckcdicaaGreatDoor
