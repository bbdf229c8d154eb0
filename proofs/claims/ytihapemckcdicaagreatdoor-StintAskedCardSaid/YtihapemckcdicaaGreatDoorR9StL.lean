/- Plain laws of chapter 5. Conditions: none. -/
import Derived.Test.YtihapemckcdicaaGreatDoorQDStP
import Derived.Test.YtihapemckcdicaaGreatDoorQDStC
import Derived.Test.YtihapemckcdicaaGreatDoorQDStM
namespace Go.Proofs.YtihapemckcdicaaGreatDoor
open Go.Lg Go.Proofs
set_option maxRecDepth 10000
theorem aF2(s:ByteArray):Lf s=some (pH s):=rfl
def uO(x:Reach)(a c:Int):Bool:=decide (a≤x.cH) && (decide (x.cH≤x.dm) && decide (x.dm≤c))
def yW(x:Reach)(w:Int):Bool:=decide (x.dm - x.cH < w)
theorem ayA{x:Reach}{a c:Int}(ha : -1000000≤a)(hc:c≤1000000)(h:uO x a c=true):i64 (x.dm - x.cH)=x.dm - x.cH:=by
 simp only [uO,Bool.and_eq_true,decide_eq_true_eq] at h
 exact pG (by omega) (by omega)
theorem awg{x:Reach}{a c:Int}:uO x a c=true↔a≤x.cH∧x.cH≤x.dm∧x.dm≤c:=by simp [uO]
theorem ayB{x:Reach}{w:Int}:yW x w=true↔x.dm - x.cH < w:=by simp [yW]
def EC(x:Reach):List Int:=(List.range (x.dm+1 - x.cH).toNat).map λ (j:Nat)=>x.cH+(j:Int)
theorem avh{x:Reach}{n:Int}:n∈EC x↔x.cH≤n∧n≤x.dm:=by
 simp only [EC,List.mem_map,List.mem_range]
 constructor
 ·rintro ⟨j,hj,rfl⟩; omega
 ·intro h; exact ⟨(n - x.cH).toNat,by omega,by omega⟩
theorem az9{x:Reach}(h:x.dm - x.cH < 3):(EC x).length≤3:=by simp [EC]; omega
instance:Inhabited fl:=⟨⟨0,0⟩⟩
instance:Inhabited Reach:=⟨⟨0,0⟩⟩
instance:Inhabited eQ:=⟨⟨⟨#[]⟩,0⟩⟩
instance:Inhabited lW:=⟨⟨0,0,0,0⟩⟩
instance:Inhabited c9:=⟨⟨0,0,false⟩⟩
instance:Inhabited br:=⟨⟨[0,0,0]⟩⟩
theorem tt(n a c:Int):jE n a c=some (cw n a c):=by
 unfold jE cw
 cases decide (a≤n) <;> rfl
theorem oD(n a c:Int):iA n a c=some (cw n a c):=by
 unfold iA cw
 cases decide (a≤n) <;> rfl
theorem auh(x:Reach)(a c:Int):HC x a c=some (uO x a c):=by
 unfold HC uO
 cases decide (a≤x.cH) <;> cases decide (x.cH≤x.dm) <;> rfl
theorem auP{x:Reach}{a c w:Int}(ha : -1000000≤a)(hc:c≤1000000):AZ x a c w=some (uO x a c && yW x w):=by
 unfold AZ uO yW
 by_cases h1:a≤x.cH
 ·by_cases h2:x.cH≤x.dm
  ·by_cases h3:x.dm≤c
   ·simp [h1,h2,h3,pG (z:=x.dm - x.cH) (by omega) (by omega)]
   ·simp [h1,h2,h3]
  ·simp [h1,h2]
 ·simp [h1]
theorem Nd{α:Type}[Inhabited α]{l:List α}{f:α→Option Bool}{p:α→Bool}(hl:l.length≤1000)(hf:∀ x∈l,f x=some (p x)):((bN (O:=(Unit ⊕ Int)) (λ (cZ:Int) =>
 ag (decide (cZ < (l.length:Int)))
 ((idx l cZ).bind λ jZ =>
 (f jZ).bind λ kH =>
 ag kH
 (some (.inr (.inr cZ)))
 (some (.inl (i64 (cZ+1)))))
 (some (.inr (.inl ())))) 0).bind (Sum.elim (λ (_:Unit) =>
 some (-1))
  (λ q=>some q))).bind (λ cG=>some (decide (cG ≥ 0)))=some (l.any p):=by
 rw [vf (λ i=>if p (nth l i) then some (i:Int) else none) l.length (d:=(-1)) (λ i hi=>?_) (by simp only [mL,dn]) rfl]
 ·rw [Option.bind_some,ajz p l]
 ·simp only [dec_lt hi,fc,j4,fh hi,Option.bind_some,hf _ (pr hi),mb (i:=i) (by omega)]
  cases p (nth l i) <;> rfl
theorem auM{l:List Reach}{f:Reach→Option Bool}{p:Reach→Bool}(hl:l.length≤1000)(hf:∀ x∈l,f x=some (p x)):Dr l f=some (l.any p):=Nd hl hf
theorem auS{l:List eQ}{f:eQ→Option Bool}{p:eQ→Bool}(hl:l.length≤1000)(hf:∀ x∈l,f x=some (p x)):Ds l f=some (l.any p):=Nd hl hf
theorem aum{l:List c9}{f:c9→Option Bool}{p:c9→Bool}(hl:l.length≤1000)(hf:∀ x∈l,f x=some (p x)):Dl l f=some (l.any p):=Nd hl hf
structure Small (b:au):Prop where
 rows:b.Rows.length≤20
 places:b.aQ.length≤20
 wi:b.aH.length≤20
 UX:b.aN.length≤20
 aw9:b.aY.length≤20
 each:∀ p∈b.aH,p.Name.size≤100
def BX(b:au):Bool :=
 decide (20 < b.Rows.length) || (decide (20 < b.aQ.length) || (decide (20 < b.aH.length) || (decide (20 < b.aN.length) || (decide (20 < b.aY.length) || b.aH.any λ p=>decide (100 < p.Name.size)))))
theorem xo{n m:Nat}:decide ((n:Int) > (m:Int))=decide (m < n):=by
 by_cases h:m < n <;> simp [h]
theorem aur(b:au):Dm b=some (BX b):=by
 unfold Dm BX
 have e1:decide ((b.Rows.length:Int) > 20)=decide (20 < b.Rows.length):=xo (m:=20)
 have e2:decide ((b.aQ.length:Int) > 20)=decide (20 < b.aQ.length):=xo (m:=20)
 have e3:decide ((b.aH.length:Int) > 20)=decide (20 < b.aH.length):=xo (m:=20)
 have e4:decide ((b.aN.length:Int) > 20)=decide (20 < b.aN.length):=xo (m:=20)
 have e5:decide ((b.aY.length:Int) > 20)=decide (20 < b.aY.length):=xo (m:=20)
 rw [e1,e2,e3,e4,e5]
 by_cases h1:20 < b.Rows.length
 ·simp [h1]
 by_cases h2:20 < b.aQ.length
 ·simp [h1,h2]
 by_cases h3:20 < b.aH.length
 ·simp [h1,h2,h3]
 by_cases h4:20 < b.aN.length
 ·simp [h1,h2,h3,h4]
 by_cases h5:20 < b.aY.length
 ·simp [h1,h2,h3,h4,h5]
 simp only [h1,h2,h3,h4,h5,decide_false,dn,Option.bind_some,Bool.false_or]
 rw [vf (λ i=>if decide (100 < (nth b.aH i).Name.size) then some true else none) b.aH.length (d:=false) (λ i hi=>?_) (by simp only [mL,dn]) rfl]
 ·rw [YA (λ p:eQ=>decide (100 < p.Name.size)) b.aH]
 ·have f1:decide (((nth b.aH i).Name.size:Int) > 100)=decide (100 < (nth b.aH i).Name.size):=xo (m:=100)
  simp only [dec_lt hi,fc,j4,fh hi,Option.bind_some,f1,mb (i:=i) (by omega)]
  cases decide (100 < (nth b.aH i).Name.size) <;> rfl
theorem adk{b:au}(h:BX b=false):Small b:=by
 simp only [BX,Bool.or_eq_false_iff,decide_eq_false_iff_not,List.any_eq_false,decide_eq_true_eq] at h
 obtain ⟨h1,h2,h3,h4,h5,h6⟩:=h
 exact ⟨by omega,by omega,by omega,by omega,by omega,λ p hp=>by have:=h6 p hp; omega⟩
theorem aak{n:Int}(h1:0≤n)(h2:n < 256):AR n=some (isLet n):=by unfold AR isLet; rw [pG (by omega) (by omega),oD]; rfl
theorem aut{n:Int}(h1:0≤n)(h2:n < 256):Dn n=some (v8 n):=by unfold Dn v8; rw [pG (by omega) (by omega),oD]; rfl
theorem auj{s:ByteArray}(hs:s.size≤1000):HD s=some (pH s):=by
 unfold HD pH
 rw [oD,Option.bind_some]
 cases hb:cw (s.size:Int) 1 12 with
 | false =>
  simp only [Bool.not_false,fc,Option.bind_some]
  congr 1
  cases hf:eH (np s) 0 s.size with
  | none=>rfl
  | some o=>rw [adE hf]; rfl
 | true =>
  have h1:1≤s.size:=by
   simp only [cw,Bool.and_eq_true,decide_eq_true_eq] at hb
   omega
  have oz:0 < (gx s).length:=by rw [L2]; omega
  obtain ⟨g1,g2⟩:=abG (s:=s) (i:=0) (by omega)
  have CJ:s8 s 0=some (nth (gx s) 0):=by unfold s8; rw [← fh oz]; exact j4 _ 0
  simp only [Bool.not_true,dn,CJ,Option.bind_some,aak g1 g2]
  have hu:eH (np s) 0 s.size=match np s 0 with | some o=>some o | none=>eH (np s) 1 (s.size - 1):=by
   obtain ⟨k,hk⟩:∃ k,s.size=k+1:=⟨s.size - 1,by omega⟩
   rw [hk]
   simp only [eH,Nat.add_sub_cancel,Nat.zero_add]
   cases np s 0 <;> rfl
  rw [hu]
  unfold np
  cases hl:isLet (nth (gx s) 0) with
  | false=>rfl
  | true =>
   simp only [Bool.not_true,dn,Bool.true_eq_false,if_false]
   have e2:=search (body:=λ (px:Int) =>
    ag (decide (px < (s.size:Int)))
    ((s8 s px).bind λ y4 =>
    (AR y4).bind λ nX =>
    ag (!nX)
    ((s8 s px).bind λ gz =>
    (Dn gz).bind λ nY =>
    ag (!nY)
    (some (.inr (.inr false)))
    (some (.inl (i64 (px+1)))))
    (some (.inl (i64 (px+1)))))
    (some (.inr (.inl ())))) (np s) 1 s.size (d:=true) (g:=λ _=>some true) (λ i hi1 hi=>?_) (by simp only [mL,dn]) h1 rfl
   ·exact e2
   ·have hi2:i < (gx s).length:=by rw [L2]; exact hi
    obtain ⟨k1,k2⟩:=abG hi
    have hsi:s8 s (i:Int)=some (nth (gx s) i):=by unfold s8; rw [← fh hi2]; exact j4 _ i
    simp only [dec_lt hi,fc,hsi,Option.bind_some,aak k1 k2,aut k1 k2,mb (i:=i) (by omega)]
    have h0:i≠0:=by omega
    unfold np
    cases isLet (nth (gx s) i) with
    | true=>rfl
    | false =>
     simp only [Bool.not_false,fc,h0,if_false,if_true]
     cases v8 (nth (gx s) i) <;> rfl
def wF(b:au)(i:Nat):Option Int :=
 if (cw (nth b.Rows i).eI 1 30 && cw (nth b.Rows i).eU 1 60)=false then some 1
 else if 0 < i then (if (nth b.Rows i).eI≤(nth b.Rows (i - 1)).eI then some 7 else if (nth b.Rows i).eU > (nth b.Rows (i - 1)).eU then some 7 else none) else none
def rj(b:au):Int:=if cw (b.Rows.length:Int) 1 4=false then 2 else (eH (wF b) 0 b.Rows.length).getD 0
def sS(x:Reach):Bool:=uO x 1 30 && yW x 3
def qk(b:au):Int:=if cw (b.aQ.length:Int) 1 3=false then 2 else if b.aQ.any (λ x=>!sS x)=true then 1 else 0
def wI(p q:eQ):Bool:=q.Name.toList == p.Name.toList
def uJ(b:au)(i:Nat):Option Int :=
 if pH (nth b.aH i).Name=false then some 4 else if (b.aH.take i).any (wI (nth b.aH i))=true then some 5 else if cw (nth b.aH i).pI 1 30=false then some 1 else none
def re(b:au):Int:=if cw (b.aH.length:Int) 1 4=false then 2 else (eH (uJ b) 0 b.aH.length).getD 0
def qY(b:au)(n:Int):Bool:=cw n 0 ((b.aQ.length:Int) - 1)
def rU(b:au)(i:Nat):Option Int :=
 if qY b (nth b.aN i).Place=false then some 6 else if (cw (nth b.aN i).iI 0 200 && (cw (nth b.aN i).jf 1 60 && cw (nth b.aN i).aH 1 3))=false then some 1 else none
def tI(b:au):Int:=if cw (b.aN.length:Int) 1 4=false then 2 else (eH (rU b) 0 b.aN.length).getD 0
def wJ(b:au)(i:Nat):Option Int :=
 if qY b (nth b.aY i).Place=false then some 6 else if cw (nth b.aY i).lu 0 30=false then some 1 else none
def yT(b:au):Int:=if 3 < b.aY.length then 2 else (eH (wJ b) 0 b.aY.length).getD 0
def lS(b:au):Int:=if cw b.Rest 0 60=false then 1 else if rj b≠0 then rj b else if qk b≠0 then qk b else if re b≠0 then re b else if tI b≠0 then tI b else yT b
theorem Vn{n:Int}{m:Nat}(hm:m≤1000):oB n (m:Int)=some (if cw n 0 ((m:Int) - 1)=false then 6 else 0):=by
 unfold oB
 rw [tt,Option.bind_some,pG (by omega) (by omega)]
 cases cw n 0 ((m:Int) - 1) <;> rfl
theorem auC{b:au}(h:Small b):AS b=some (rj b):=by
 unfold AS rj
 have hr:=h.rows
 rw [tt,Option.bind_some]
 cases cw (b.Rows.length:Int) 1 4 with
 | false=>rfl
 | true =>
  simp only [Bool.not_true,dn,Bool.true_eq_false,if_false]
  refine vf (wF b) b.Rows.length (λ i hi=>?_) (by simp only [mL,dn]) rfl
  simp only [dec_lt hi,fc,j4,fh hi,Option.bind_some,tt,mb (i:=i) (by omega)]
  unfold wF
  cases cw (nth b.Rows i).eI 1 30 with
  | false=>rfl
  | true =>
   cases cw (nth b.Rows i).eU 1 60 with
   | false=>rfl
   | true =>
    by_cases hp:0 < i
    ·simp only [U7 hp,Bool.not_true,dn,fc,Vm (i:=i) (by omega) hp,j4,fh (show i - 1 < b.Rows.length by omega),Option.bind_some,hp,if_true,Bool.and_self,Bool.true_eq_false,if_false]
     by_cases hc:(nth b.Rows i).eI≤(nth b.Rows (i - 1)).eI
     ·simp [hc]
     ·by_cases hd:(nth b.Rows i).eU > (nth b.Rows (i - 1)).eU
      ·simp [hc,hd]
      ·simp [hc,hd]
    ·simp [hp]
theorem atL{b:au}(h:Small b):Hz b=some (if cw b.Rest 0 60=false then 1 else rj b):=by
 unfold Hz rj
 have hr:=h.rows
 rw [oD,Option.bind_some]
 cases cw b.Rest 0 60 with
 | false=>rfl
 | true =>
 simp only [Bool.not_true,dn,Bool.true_eq_false,if_false]
 rw [oD,Option.bind_some]
 cases cw (b.Rows.length:Int) 1 4 with
 | false=>rfl
 | true =>
  simp only [Bool.not_true,dn,Bool.true_eq_false,if_false]
  refine vf (wF b) b.Rows.length (λ i hi=>?_) (by simp only [mL,dn]) rfl
  simp only [dec_lt hi,fc,j4,fh hi,Option.bind_some,oD,mb (i:=i) (by omega)]
  unfold wF
  cases cw (nth b.Rows i).eI 1 30 with
  | false=>rfl
  | true =>
   cases cw (nth b.Rows i).eU 1 60 with
   | false=>rfl
   | true =>
    by_cases hp:0 < i
    ·simp only [U7 hp,Bool.not_true,dn,fc,Vm (i:=i) (by omega) hp,j4,fh (show i - 1 < b.Rows.length by omega),Option.bind_some,hp,if_true,Bool.and_self,Bool.true_eq_false,if_false]
     by_cases hc:(nth b.Rows i).eI≤(nth b.Rows (i - 1)).eI
     ·simp [hc]
     ·by_cases hd:(nth b.Rows i).eU > (nth b.Rows (i - 1)).eU
      ·simp [hc,hd]
      ·simp [hc,hd]
    ·simp [hp]
theorem auE{b:au}(h:Small b):AT b=some (qk b):=by
 unfold AT qk
 rw [tt,Option.bind_some]
 cases cw (b.aQ.length:Int) 1 3 with
 | false=>rfl
 | true =>
  have hp:=h.places
  simp only [Bool.not_true,dn,Bool.true_eq_false,if_false]
  rw [auM (p:=λ x=>!sS x) (by omega) (λ x _=>by unfold AY sS; rw [auP (by omega) (by omega)]; rfl),Option.bind_some]
  cases b.aQ.any λ x=>!sS x <;> rfl
theorem auG{b:au}(h:Small b):AU b=some (re b):=by
 unfold AU re
 rw [tt,Option.bind_some]
 cases cw (b.aH.length:Int) 1 4 with
 | false=>rfl
 | true =>
  have hp:=h.wi
  simp only [Bool.not_true,dn,Bool.true_eq_false,if_false]
  refine vf (uJ b) b.aH.length (λ i hi=>?_) (by simp only [mL,dn]) rfl
  simp only [dec_lt hi,fc,j4,fh hi,Option.bind_some,aF2,agv (show i≤b.aH.length by omega),tt,
   auS (l:=b.aH.take i) (f:=λ y=>A0 y (nth b.aH i)) (p:=wI (nth b.aH i)) (by simp; omega) (λ x _=>rfl),mb (i:=i) (by omega)]
  unfold uJ
  cases pH (nth b.aH i).Name with
  | false=>rfl
  | true =>
   cases (b.aH.take i).any (wI (nth b.aH i)) with
   | true=>rfl
   | false=>cases cw (nth b.aH i).pI 1 30 <;> rfl
theorem atN{b:au}(h:Small b):HA b=some (if qk b≠0 then qk b else re b):=by
 unfold HA qk
 rw [oD,Option.bind_some]
 cases cw (b.aQ.length:Int) 1 3 with
 | false=>rfl
 | true =>
  have hp:=h.places
  simp only [Bool.not_true,dn,Bool.true_eq_false,if_false]
  rw [TU (λ i=>if (λ x=>!sS x) (nth b.aQ i) then some (1:Int) else none) b.aQ.length (λ i hi=>?_) (by simp only [mL,dn])]
  ·rw [YB (λ x=>!sS x) (1:Int) b.aQ b.aQ.length (Nat.le_refl _),List.take_length]
   cases b.aQ.any λ x=>!sS x with
   | true=>rfl
   | false =>
    simp only [Bool.false_eq_true,if_false,Option.bind_some,Sum.elim_inl,ne_eq,not_true_eq_false]
    unfold re
    rw [oD,Option.bind_some]
    cases cw (b.aH.length:Int) 1 4 with
    | false=>rfl
    | true =>
     have hm:=h.wi
     simp only [Bool.not_true,dn,Bool.true_eq_false,if_false]
     refine vf (uJ b) b.aH.length (λ i hi=>?_) (by simp only [mL,dn]) rfl
     have hn:=h.each _ (pr hi)
     simp only [dec_lt hi,fc,j4,fh hi,Option.bind_some,auj (show (nth b.aH i).Name.size≤1000 by omega)]
     rw [TU (λ k=>if wI (nth b.aH i) (nth b.aH k) then some (5:Int) else none) i (λ k hk=>?_) (by simp only [mL,dn])]
     ·rw [YB (wI (nth b.aH i)) (5:Int) b.aH i (by omega)]
      simp only [oD,Option.bind_some,mb (i:=i) (by omega)]
      unfold uJ
      cases pH (nth b.aH i).Name with
      | false=>rfl
      | true =>
       cases (b.aH.take i).any (wI (nth b.aH i)) with
       | true=>rfl
       | false=>cases cw (nth b.aH i).pI 1 30 <;> rfl
     ·simp only [dec_lt hk,fc,j4,fh (show k < b.aH.length by omega),Option.bind_some,mb (i:=k) (by omega)]
      rw [show ((nth b.aH k).Name.toList == (nth b.aH i).Name.toList)=wI (nth b.aH i) (nth b.aH k) from rfl]
      cases wI (nth b.aH i) (nth b.aH k) <;> rfl
  ·simp only [dec_lt hi,fc,j4,fh hi,Option.bind_some,auh,mb (i:=i) (by omega)]
   unfold sS
   by_cases hr:uO (nth b.aQ i) 1 30=true
   ·have hw:decide (i64 ((nth b.aQ i).dm - (nth b.aQ i).cH) ≥ 3)=!yW (nth b.aQ i) 3:=by
     rw [ayA (by omega) (by omega) hr]
     unfold yW
     by_cases hx:(nth b.aQ i).dm - (nth b.aQ i).cH < 3
     ·simp [hx]
     ·simp [hx]; omega
    rw [hw]
    by_cases hx:yW (nth b.aQ i) 3=true
    ·simp [hr,hx,dn]
    ·simp [hr,hx,dn,fc]
   ·simp [hr,fc]
theorem auI{b:au}(h:Small b):AV b=some (tI b):=by
 unfold AV tI
 rw [tt,Option.bind_some]
 cases cw (b.aN.length:Int) 1 4 with
 | false=>rfl
 | true =>
  have hp:=h.places
  have hd:=h.UX
  simp only [Bool.not_true,dn,Bool.true_eq_false,if_false]
  refine vf (rU b) b.aN.length (λ i hi=>?_) (by simp only [mL,dn]) rfl
  simp only [dec_lt hi,fc,j4,fh hi,Option.bind_some,Vn (show b.aQ.length≤1000 by omega),tt,mb (i:=i) (by omega)]
  unfold rU qY
  cases cw (nth b.aN i).Place 0 ((b.aQ.length:Int) - 1) with
  | false=>rfl
  | true=>cases cw (nth b.aN i).iI 0 200 <;> cases cw (nth b.aN i).jf 1 60 <;> cases cw (nth b.aN i).aH 1 3 <;> rfl
theorem auK{b:au}(h:Small b):AX b=some (yT b):=by
 unfold AX yT
 have e:decide ((b.aY.length:Int) > 3)=decide (3 < b.aY.length):=xo (m:=3)
 rw [e]
 by_cases h3:3 < b.aY.length
 ·simp [h3]
 have hp:=h.places
 simp only [h3,decide_false,dn,if_false]
 refine vf (wJ b) b.aY.length (λ i hi=>?_) (by simp only [mL,dn]) rfl
 simp only [dec_lt hi,fc,j4,fh hi,Option.bind_some,Vn (show b.aQ.length≤1000 by omega),tt,mb (i:=i) (by omega)]
 unfold wJ qY
 cases cw (nth b.aY i).Place 0 ((b.aQ.length:Int) - 1) with
 | false=>rfl
 | true=>cases cw (nth b.aY i).lu 0 30 <;> rfl
theorem aaA{z:Int}{a c:Option Int}:ag (z != 0) a c=if z≠0 then a else c:=by
 by_cases h:z=0
 ·subst h; rfl
 ·rw [if_pos h,IU h]; rfl
theorem U0{b:au}(h:Small b):nR b=some (lS b):=by
 unfold nR lS
 rw [show (⟨b.Rest,b.Rows,b.aQ,b.aH,b.aN,b.aY⟩:au)=b from rfl]
 unfold Dq
 rw [tt,Option.bind_some]
 cases cw b.Rest 0 60 with
 | false=>rfl
 | true =>
  simp only [Bool.not_true,dn,Option.bind_some,auC h,auE h,auG h,auI h,auK h,aaA,Bool.true_eq_false,if_false]
  by_cases h1:rj b=0
  ·by_cases h2:qk b=0
   ·by_cases h3:re b=0
    ·by_cases h4:tI b=0
     ·by_cases h5:yT b=0
      ·simp [h1,h2,h3,h4,h5]
      ·simp [h1,h2,h3,h4,h5]
     ·simp [h1,h2,h3,h4]
    ·simp [h1,h2,h3]
   ·simp [h1,h2]
  ·simp [h1]
theorem aaa{b:au}{n:Int}(h:Small b):C4 b n=some (qY b n):=by
 unfold C4 qY
 have hp:=h.places
 rw [oD,pG (by omega) (by omega)]
 rfl
theorem aar{b:au}(h:Small b):wc b=some (lS b):=by
 unfold wc lS
 rw [atL h,Option.bind_some]
 cases cw b.Rest 0 60 with
 | false=>rfl
 | true =>
  have hp:=h.places
  have hd:=h.UX
  have hs:=h.aw9
  simp only [Bool.true_eq_false,if_false,atN h,Option.bind_some,aaA]
  by_cases h1:rj b=0
  ·by_cases h2:qk b=0
   ·by_cases h3:re b=0
    ·simp only [h1,h2,h3,ne_eq,not_true_eq_false,if_false]
     unfold tI
     rw [oD,Option.bind_some]
     cases cw (b.aN.length:Int) 1 4 with
     | false=>rfl
     | true =>
      simp only [Bool.not_true,dn,Bool.true_eq_false,if_false]
      rw [TU (rU b) b.aN.length (λ i hi=>?_) (by simp only [mL,dn])]
      ·cases hf:eH (rU b) 0 b.aN.length with
       | some o =>
        simp only [Option.bind_some,Sum.elim_inr,Option.getD_some]
        rw [if_pos]
        rintro rfl
        obtain ⟨j,_,_,he,_⟩:=xV hf
        unfold rU at he
        split at he
        ·cases he
        ·split at he <;> cases he
       | none =>
        simp only [Option.bind_some,Sum.elim_inl,Option.getD_none,not_true_eq_false,if_false]
        unfold yT
        have e:decide ((b.aY.length:Int) > 3)=decide (3 < b.aY.length):=xo (m:=3)
        rw [e]
        by_cases h3:3 < b.aY.length
        ·simp [h3]
        simp only [h3,decide_false,dn,if_false]
        refine vf (wJ b) b.aY.length (λ i hi=>?_) (by simp only [mL,dn]) rfl
        simp only [dec_lt hi,fc,j4,fh hi,Option.bind_some,aaa h,oD,mb (i:=i) (by omega)]
        unfold wJ
        cases qY b (nth b.aY i).Place with
        | false=>rfl
        | true=>cases cw (nth b.aY i).lu 0 30 <;> rfl
      ·simp only [dec_lt hi,fc,j4,fh hi,Option.bind_some,aaa h,oD,mb (i:=i) (by omega)]
       unfold rU
       cases qY b (nth b.aN i).Place with
       | false=>rfl
       | true=>cases cw (nth b.aN i).iI 0 200 <;> cases cw (nth b.aN i).jf 1 60 <;> cases cw (nth b.aN i).aH 1 3 <;> rfl
    ·simp [h1,h2,h3]
   ·simp [h1,h2]
  ·simp [h1]
theorem azT(b:au):EA b=some (!BX b && (lS b == 0)):=by
 unfold EA
 rw [aur,Option.bind_some]
 cases hg:BX b with
 | true=>rfl
 | false=>rw [Bool.not_false,fc,aar (adk hg)]; rfl
end Go.Proofs.YtihapemckcdicaaGreatDoor
namespace Go.Proofs.YtihapemckcdicaaGreatDoor
open Go.Lg Go.Proofs
set_option maxRecDepth 10000
structure ae3 (r:fl):Prop where
 depth:1≤r.eI∧r.eI≤30
 stay:1≤r.eU∧r.eU≤60
structure adN (P:Nat) (d:lW):Prop where
 place:0≤d.Place∧d.Place < (P:Int)
 U3:0≤d.iI∧d.iI≤200
 U1:1≤d.jf∧d.jf≤60
 wi:1≤d.aH∧d.aH≤3
structure V6 (P:Nat) (s:c9):Prop where
 place:0≤s.Place∧s.Place < (P:Int)
 line:0≤s.lu∧s.lu≤30
structure Valid (b:au):Prop where
 rest:0≤b.Rest∧b.Rest≤60
 r1:1≤b.Rows.length
 r4:b.Rows.length≤4
 row:∀ r∈b.Rows,ae3 r
 adf:∀ i,0 < i→i < b.Rows.length→(nth b.Rows (i - 1)).eI < (nth b.Rows i).eI∧(nth b.Rows i).eU≤(nth b.Rows (i - 1)).eU
 p1:1≤b.aQ.length
 p3:b.aQ.length≤3
 place:∀ x∈b.aQ,1≤x.cH∧x.cH≤x.dm∧x.dm≤30∧x.dm - x.cH < 3
 m1:1≤b.aH.length
 m4:b.aH.length≤4
 Vp:∀ m∈b.aH,pH m.Name=true∧1≤m.pI∧m.pI≤30
 names:∀ i,i < b.aH.length→(b.aH.take i).any (wI (nth b.aH i))=false
 d1:1≤b.aN.length
 d4:b.aN.length≤4
 XH:∀ d∈b.aN,adN b.aQ.length d
 s3:b.aY.length≤3
 sound:∀ s∈b.aY,V6 b.aQ.length s
theorem awM{b:au}(i:Nat):wF b i≠some 0:=by
 unfold wF
 intro h
 repeat' split at h
 all_goals cases h
theorem au9{b:au}(i:Nat):uJ b i≠some 0:=by
 unfold uJ
 intro h
 repeat' split at h
 all_goals cases h
theorem agB{b:au}(i:Nat):rU b i≠some 0:=by
 unfold rU
 intro h
 repeat' split at h
 all_goals cases h
theorem aw8{b:au}(i:Nat):wJ b i≠some 0:=by
 unfold wJ
 intro h
 repeat' split at h
 all_goals cases h
theorem TT{b:au}{i:Nat}:wF b i=none↔((1≤(nth b.Rows i).eI∧(nth b.Rows i).eI≤30)∧(1≤(nth b.Rows i).eU∧(nth b.Rows i).eU≤60))∧(0 < i→(nth b.Rows (i - 1)).eI < (nth b.Rows i).eI∧(nth b.Rows i).eU≤(nth b.Rows (i - 1)).eU):=by
 unfold wF
 by_cases h1:(cw (nth b.Rows i).eI 1 30 && cw (nth b.Rows i).eU 1 60)=false
 ·rw [if_pos h1]
  simp only [reduceCtorEq,false_iff]
  rintro ⟨⟨h2,h3⟩,_⟩
  rw [jd.2 h2,jd.2 h3] at h1
  cases h1
 ·rw [if_neg h1]
  simp only [Bool.not_eq_false,Bool.and_eq_true,jd] at h1
  by_cases h0:0 < i
  ·rw [if_pos h0]
   constructor
   ·intro h
    split at h
    ·cases h
    ·split at h
     ·cases h
     ·exact ⟨h1,λ _=>by omega⟩
   ·rintro ⟨_,h2⟩
    have:=h2 h0
    rw [if_neg (by omega),if_neg (by omega)]
  ·rw [if_neg h0]
   exact ⟨λ _=>⟨h1,λ h=>absurd h h0⟩,λ _=>rfl⟩
theorem aaI{x:Reach}:sS x=true↔1≤x.cH∧x.cH≤x.dm∧x.dm≤30∧x.dm - x.cH < 3:=by
 unfold sS
 rw [Bool.and_eq_true,awg,ayB]
 omega
theorem IG{b:au}:lS b=0↔Valid b:=by
 constructor
 ·intro h
  unfold lS at h
  by_cases h1:cw b.Rest 0 60=false
  ·rw [if_pos h1] at h; cases h
  rw [if_neg h1] at h
  by_cases h2:rj b=0
  case neg=>rw [if_pos h2] at h; exact absurd h h2
  rw [if_neg (by simpa using h2)] at h
  by_cases h3:qk b=0
  case neg=>rw [if_pos h3] at h; exact absurd h h3
  rw [if_neg (by simpa using h3)] at h
  by_cases h4:re b=0
  case neg=>rw [if_pos h4] at h; exact absurd h h4
  rw [if_neg (by simpa using h4)] at h
  by_cases h5:tI b=0
  case neg=>rw [if_pos h5] at h; exact absurd h h5
  rw [if_neg (by simpa using h5)] at h
  unfold rj at h2
  unfold qk at h3
  unfold re at h4
  unfold tI at h5
  unfold yT at h
  split at h2
  ·cases h2
  rename_i g2
  split at h3
  ·cases h3
  rename_i g3
  split at h3
  ·cases h3
  rename_i k3
  split at h4
  ·cases h4
  rename_i g4
  split at h5
  ·cases h5
  rename_i g5
  split at h
  ·cases h
  rename_i g6
  simp only [Bool.not_eq_false,jd] at h1 g2 g3 g4 g5
  have r:=J5 awM h2
  have m:=J5 au9 h4
  have d:=J5 agB h5
  have s:=J5 aw8 h
  refine ⟨h1,by omega,by omega,λ x hx=>?_,λ i h0 hi=>(TT.1 (r i hi)).2 h0,by omega,by omega,λ x hx=>?_,by omega,by omega,λ x hx=>?_,λ i hi=>?_,by omega,by omega,λ x hx=>?_,by omega,λ x hx=>?_⟩
  ·obtain ⟨i,hi,rfl⟩:=yE hx
   obtain ⟨⟨q1,q2⟩,_⟩:=TT.1 (r i hi)
   exact ⟨q1,q2⟩
  ·have:b.aQ.any (λ x=>!sS x)=false:=by simpa using k3
   rw [List.any_eq_false] at this
   have:=this x hx
   exact aaI.1 (by simpa using this)
  ·obtain ⟨i,hi,rfl⟩:=yE hx
   have:=m i hi
   unfold uJ at this
   split at this
   ·cases this
   ·split at this
    ·cases this
    ·split at this
     ·cases this
     ·rename_i q1 q2 q3
      rw [Bool.not_eq_false,jd] at q3
      exact ⟨by simpa using q1,q3⟩
  ·have:=m i hi
   unfold uJ at this
   split at this
   ·cases this
   ·split at this
    ·cases this
    ·rename_i q1 q2
     simpa using q2
  ·obtain ⟨i,hi,rfl⟩:=yE hx
   have:=d i hi
   unfold rU qY at this
   split at this
   ·cases this
   ·split at this
    ·cases this
    ·rename_i q1 q2
     rw [Bool.not_eq_false,jd] at q1
     rw [Bool.not_eq_false,Bool.and_eq_true,Bool.and_eq_true,jd,jd,jd] at q2
     exact ⟨by omega,q2.1,q2.2.1,q2.2.2⟩
  ·obtain ⟨i,hi,rfl⟩:=yE hx
   have:=s i hi
   unfold wJ qY at this
   split at this
   ·cases this
   ·split at this
    ·cases this
    ·rename_i q1 q2
     rw [Bool.not_eq_false,jd] at q1 q2
     exact ⟨by omega,q2⟩
 ·intro h
  have e1:rj b=0:=by
   unfold rj
   have hr1:=h.r1
   have hr4:=h.r4
   rw [if_neg (by rw [Bool.not_eq_false,jd]; omega),qO.2 λ i _ hi=>?_]
   ·rfl
   ·have hx:=h.row _ (pr (l:=b.Rows) (i:=i) (by omega))
    exact TT.2 ⟨⟨hx.depth,hx.stay⟩,λ h0=>h.adf i h0 (by omega)⟩
  have e2:qk b=0:=by
   unfold qk
   have h1:=h.p1
   have h3:=h.p3
   rw [if_neg (by rw [Bool.not_eq_false,jd]; omega),if_neg]
   rw [Bool.not_eq_true,List.any_eq_false]
   intro x hx
   simpa using aaI.2 (h.place x hx)
  have e3:re b=0:=by
   unfold re
   have h1:=h.m1
   have h4:=h.m4
   rw [if_neg (by rw [Bool.not_eq_false,jd]; omega),qO.2 λ i _ hi=>?_]
   ·rfl
   ·have hx:=h.Vp _ (pr (l:=b.aH) (i:=i) (by omega))
    unfold uJ
    rw [if_neg (by simp [hx.1]),if_neg (by rw [h.names i (by omega)]; simp),if_neg (by rw [Bool.not_eq_false,jd]; exact hx.2)]
  have e4:tI b=0:=by
   unfold tI
   have h1:=h.d1
   have h4:=h.d4
   rw [if_neg (by rw [Bool.not_eq_false,jd]; omega),qO.2 λ i _ hi=>?_]
   ·rfl
   ·have hx:=h.XH _ (pr (l:=b.aN) (i:=i) (by omega))
    have hp:=hx.place
    unfold rU qY
    rw [if_neg (by rw [Bool.not_eq_false,jd]; omega),if_neg]
    rw [Bool.not_eq_false,Bool.and_eq_true,Bool.and_eq_true,jd,jd,jd]
    exact ⟨hx.U3,hx.U1,hx.wi⟩
  have e5:yT b=0:=by
   unfold yT
   have h3:=h.s3
   rw [if_neg (by omega),qO.2 λ i _ hi=>?_]
   ·rfl
   ·have hx:=h.sound _ (pr (l:=b.aY) (i:=i) (by omega))
    have hp:=hx.place
    unfold wJ qY
    rw [if_neg (by rw [Bool.not_eq_false,jd]; omega),if_neg (by rw [Bool.not_eq_false,jd]; exact hx.line)]
  unfold lS
  rw [if_neg (by rw [Bool.not_eq_false,jd]; exact h.rest)]
  simp [e1,e2,e3,e4,e5]
theorem Valid.small{b:au}(h:Valid b)(hn:∀ p∈b.aH,p.Name.size≤100):Small b:=by
 have h1:=h.r4
 have h2:=h.p3
 have h3:=h.m4
 have h4:=h.d4
 have h5:=h.s3
 exact ⟨by omega,by omega,by omega,by omega,by omega,hn⟩
theorem azP{s:ByteArray}(h:pH s=true):s.size≤12:=by
 unfold pH at h
 cases hf:eH (np s) 0 s.size with
 | some o =>
  rw [hf,Option.getD_some] at h
  rw [adE hf] at h
  cases h
 | none =>
  rw [hf,Option.getD_none,jd] at h
  omega
theorem Valid.sm{b:au}(h:Valid b):Small b:=h.small λ p hp=>by have:=azP (h.Vp p hp).1; omega
theorem Valid.each{b:au}(h:Valid b){i:Nat}(hi:i < b.aQ.length):1≤(nth b.aQ i).cH∧(nth b.aQ i).cH≤(nth b.aQ i).dm∧(nth b.aQ i).dm≤30∧(nth b.aQ i).dm - (nth b.aQ i).cH < 3:=h.place _ (pr hi)
theorem ZE{α:Type}[Inhabited α]{l:List α}{n:Int}(h0:0≤n)(h:n < (l.length:Int)):idx l n=some (nth l n.toNat):=by
 unfold idx
 rw [if_pos h0]
 exact fh (by omega)
def yK(b:au)(w:List Int):Bool:=b.aY.all λ s=>decide (nth w s.Place.toNat≤s.lu) == s.rL
abbrev BS(b:au):Nat→List Int→List Int:=λ i _=>EC (nth b.aQ i)
def ib(b:au):List (List Int):=(lvl (BS b) b.aQ.length).filter (yK b)
theorem avg{b:au}{c:List Int}:c∈ib b↔(c.length=b.aQ.length∧∀ i,i < b.aQ.length→(nth b.aQ i).cH≤nth c i∧nth c i≤(nth b.aQ i).dm)∧yK b c=true:=by
 unfold ib
 rw [List.mem_filter,Tl]
 simp only [BS,avh]
def ti(c:List Int):br:=⟨qz [0,0,0] c⟩
theorem XA{c:List Int}(h:c.length≤3):(qz [0,0,0] c).length=3∧(∀ i,i < c.length→nth (qz [0,0,0] c) i=nth c i)∧∀ i,c.length≤i→i < 3→nth (qz [0,0,0] c) i=0:=by
 match c,h with
 | [],_=>exact ⟨rfl,λ i hi=>by simp at hi,λ i _ hi=>by match i,hi with | 0,_=>rfl | 1,_=>rfl | 2,_=>rfl⟩
 | [_],_=>exact ⟨rfl,λ i hi=>by match i,hi with | 0,_=>rfl,λ i h1 hi=>by match i,h1,hi with | 1,_,_=>rfl | 2,_,_=>rfl⟩
 | [_,_],_=>exact ⟨rfl,λ i hi=>by match i,hi with | 0,_=>rfl | 1,_=>rfl,λ i h1 hi=>by match i,h1,hi with | 2,_,_=>rfl⟩
 | [_,_,_],_=>exact ⟨rfl,λ i hi=>by match i,hi with | 0,_=>rfl | 1,_=>rfl | 2,_=>rfl,λ i h1 hi=>by simp at h1; omega⟩
structure pJ (P:Nat) (pre w:List Int):Prop where
 len:w.length=3
 pre:∀ i,i < pre.length→nth w i=nth pre i
 rest:∀ i,P≤i→i < 3→nth w i=0
theorem pJ.ti{P:Nat}{pre w:List Int}(h:pJ P pre w)(hp:pre.length=P)(h3:P≤3):w=qz [0,0,0] pre:=by
 obtain ⟨h1,h2,h4⟩:=XA (c:=pre) (by omega)
 refine adH (by rw [h.len,h1]) λ i hi=>?_
 by_cases hl:i < pre.length
 ·rw [h.pre i hl,h2 i hl]
 ·rw [h.rest i (by omega) (by rw [← h.len]; exact hi),h4 i (by omega) (by rw [← h.len]; exact hi)]
theorem pJ.set{P:Nat}{pre w:List Int}(h:pJ P pre w)(hp:pre.length < P)(h3:P≤3)(n:Int):pJ P (pre++[n]) (w.set pre.length n):=by
 have hl:=h.len
 refine ⟨by simpa using hl,λ i hi=>?_,λ i h1 h2=>?_⟩
 ·by_cases e:i=pre.length
  ·subst e
   rw [avq (by omega),aaE]
  ·rw [aaF (by omega)]
   simp only [List.length_append,List.length_cons,List.length_nil] at hi
   rw [Ts (by omega)]
   exact h.pre i (by omega)
 ·rw [aaF (by omega)]
  exact h.rest i h1 h2
theorem pJ.back{P:Nat}{pre w:List Int}{n:Int}(h:pJ P (pre++[n]) w):pJ P pre w:=⟨h.len,λ i hi=>by rw [h.pre i (by simp; omega),Ts hi],h.rest⟩
theorem at4{b:au}(hv:Valid b){c:List Int}{w:br}(hw:∀ i,i < b.aQ.length→nth w.deep i=nth c i)(hl:w.deep.length=3):yy b w=some (yK b c):=by
 unfold yy
 have h3:=hv.s3
 have hp:=hv.p3
 rw [aum (p:=λ s=>!(decide (nth c s.Place.toNat≤s.lu) == s.rL)) (by omega) (λ s hs=>?_),Option.bind_some]
 ·unfold yK
  congr 1
  rw [List.not_any_eq_all_not]
  congr 1
  funext s
  simp
 ·have:=(hv.sound s hs).place
  unfold AQ
  rw [ZE this.1 (by omega),Option.bind_some,hw _ (by omega)]
theorem Z5{α S X O:Type}{ys:α→S→Option (S × Bool)}{body:S × X→Option ((S × X) ⊕ O)}(TV:Nat→List α)(n:Nat)(I:Nat→X→Prop)(F Q:S→O→Prop)
  (h:∀ j s x r,j < n→I j x→nC ys (TV j) s=some r→if r.2=true then ∃ x',body (s,x)=some (.inl (r.1,x'))∧I (j+1) x' else ∃ o,body (s,x)=some (.inr o)∧Q r.1 o) (hn:∀ s x,I n x→∃ o,body (s,x)=some (.inr o)∧F s o) :
  ∀ (k j:Nat) (s:S) (x:X) (r:S × Bool),j+k=n→I j x→nC ys ((List.range' j k).flatMap TV) s=some r→∃ o,bN body (s,x)=some o∧if r.2=true then F r.1 o else Q r.1 o
 | 0,j,s,x,r,hj,hI,hr=>by
  simp only [List.range'_zero,List.flatMap_nil,nC,Option.some.injEq] at hr
  subst hr
  obtain rfl:j=n:=by omega
  obtain ⟨o,h1,h2⟩:=hn s x hI
  exact ⟨o,yq h1,by simpa using h2⟩
 | k+1,j,s,x,r,hj,hI,hr=>by
  rw [List.range'_succ,List.flatMap_cons,YC] at hr
  obtain ⟨q,hq,hr⟩:=aj hr
  have hb:=h j s x q (by omega) hI hq
  split at hr
  ·rename_i h2
   rw [if_pos h2] at hb
   obtain ⟨x',h3,h4⟩:=hb
   rw [Hl h3]
   exact Z5 TV n I F Q h hn k (j+1) q.1 x' r (by omega) h4 hr
  ·rename_i h2
   rw [if_neg h2] at hb
   obtain ⟨o,h3,h4⟩:=hb
   cases hr
   exact ⟨o,yq h3,by simpa using h4⟩
theorem aai{b:au}(hv:Valid b){S:Type}(ys:br→S→Option (S × Bool)):∀ (j k:Nat) (pre:List Int) (w:br) (s:S) (r:S × Bool),pre.length+j=b.aQ.length→j < k→pJ b.aQ.length pre w.deep →
  nC ys (((tree (BS b) j pre.length pre).filter (yK b)).map ti) s=some r→∃ w',qe ys k (pre.length:Int) b w s=some (r.1,(w',r.2))∧pJ b.aQ.length pre w'.deep
 | _,0,_,_,_,_,_,hk,_,_=>by omega
 | 0,k+1,pre,w,s,r,hl,_,hw,hr=>by
  rw [Nat.add_zero] at hl
  have h3:=hv.p3
  unfold qe
  rw [show ((pre.length:Int) == (b.aQ.length:Int))=true by rw [hl]; simp,fc,at4 (c:=pre) hv (λ i hi=>hw.pre i (by omega)) hw.len,Option.bind_some]
  simp only [tree] at hr
  have ew:w=ti pre:=by
   obtain ⟨d⟩:=w
   exact congrArg br.mk (hw.ti hl h3)
  refine ⟨w,?_,hw⟩
  cases hs:yK b pre with
  | true =>
   simp only [List.filter_cons,hs,if_true,List.filter_nil,List.map_cons,List.map_nil,nC] at hr
   obtain ⟨q,hq,hr⟩:=aj hr
   rw [← ew] at hq
   simp only [Bool.not_true,dn,hq,Option.bind_some]
   split at hr
   ·rename_i h2; cases hr; rw [h2]
   ·rename_i h2; cases hr; simp at h2; rw [h2]
  | false =>
   simp [hs,nC] at hr
   subst hr
   rfl
 | j+1,k+1,pre,w,s,r,hl,hk,hw,hr=>by
  have h3:=hv.p3
  have hx:=hv.each (i:=pre.length) (by omega)
  unfold qe
  rw [show ((pre.length:Int) == (b.aQ.length:Int))=false by simp; omega,dn,j4,fh (by omega),Option.bind_some]
  generalize hX:nth b.aQ pre.length=X at hx
  refine Exists.elim (Z5 (ys:=ys) (S:=S) (X:=Int × List Int) (O:=(S × List Int) ⊕ (S × (br × Bool))) (body:=λ (bR:(S × Int × (List Int))) =>
   (some X:Option Reach).bind λ eN =>
   ag (decide (bR.2.1≤eN.dm))
   ((idx bR.2.2 (pre.length:Int)).bind λ oS =>
   (qe ys k (i64 ((pre.length:Int)+1)) b (⟨bR.2.2.set (pre.length:Int).toNat bR.2.1⟩:br) bR.1).bind λ gI =>
   ag (!gI.2.2)
   (some (.inr (.inr (gI.1,(gI.2.1,false)))))
   (some (.inl (gI.1,i64 (bR.2.1+1),gI.2.1.deep))))
   (some (.inr (.inl (bR.1,bR.2.2)))))
   (λ q=>((tree (BS b) j (pre.length+1) (pre++[X.cH+(q:Int)])).filter (yK b)).map ti) (X.dm+1 - X.cH).toNat (λ q x=>x.1=X.cH+(q:Int)∧pJ b.aQ.length pre x.2)
   (λ s o=>∃ d,o = .inl (s,d)∧pJ b.aQ.length pre d) (λ s o=>∃ w',o = .inr (s,(w',false))∧pJ b.aQ.length pre w'.deep)
   (λ q s x r hq hI hr=>?_) (λ s x hI=>?_) (X.dm+1 - X.cH).toNat 0 s (X.cH,w.deep) r (by omega) ⟨by simp,hw⟩ ?_) ?_
  ·obtain ⟨n,d⟩:=x
   obtain ⟨rfl,hd⟩:=hI
   have hs:=hd.set (n:=X.cH+(q:Int)) (by omega) h3
   obtain ⟨w',h1,h2⟩:=aai hv ys j k (pre++[X.cH+(q:Int)]) ⟨d.set pre.length (X.cH+(q:Int))⟩ s r (by simp; omega) (by omega) hs (by simpa using hr)
   have hl3:d.length=3:=hd.len
   simp only [List.length_append,List.length_cons,List.length_nil,Nat.zero_add] at h1
   simp only [Option.bind_some,show decide (X.cH+(q:Int)≤X.dm)=true by simp; omega,fc,j4,fh (show pre.length < d.length by omega),Int.toNat_natCast,mb (i:=pre.length) (by omega),h1]
   have e1:i64 (X.cH+(q:Int)+1)=X.cH+((q+1:Nat):Int):=by rw [pG (by omega) (by omega)]; omega
   cases hr2:r.2 with
   | true=>exact ⟨(X.cH+((q+1:Nat):Int),w'.deep),by simp [e1,dn],rfl,h2.back⟩
   | false=>exact ⟨.inr (r.1,(w',false)),by simp [fc],w',rfl,h2.back⟩
  ·obtain ⟨n,d⟩:=x
   obtain ⟨rfl,hd⟩:=hI
   refine ⟨.inl (s,d),?_,d,rfl,hd⟩
   simp only [Option.bind_some,show decide (X.cH+(((X.dm+1 - X.cH).toNat:Nat):Int)≤X.dm)=false by simp; omega,dn]
  ·rw [← hr,← List.range_eq_range']
   congr 1
   simp only [tree,BS,hX,EC,List.flatMap_map,List.map_flatMap,List.filter_flatMap]
  ·rintro o ⟨ho,hc⟩
   rw [show (bN (O:=((S × (List Int)) ⊕ (S × (br × Bool)))) (λ (bR:(S × Int × (List Int))) =>
    (some X:Option Reach).bind λ eN =>
    ag (decide (bR.2.1≤eN.dm))
    ((idx bR.2.2 (pre.length:Int)).bind λ oS =>
    (qe ys k (i64 ((pre.length:Int)+1)) b (⟨bR.2.2.set (pre.length:Int).toNat bR.2.1⟩:br) bR.1).bind λ gI =>
    ag (!gI.2.2)
    (some (.inr (.inr (gI.1,(gI.2.1,false)))))
    (some (.inl (gI.1,i64 (bR.2.1+1),gI.2.1.deep))))
    (some (.inr (.inl (bR.1,bR.2.2))))) (s,X.cH,w.deep))=some o from ho,Option.bind_some]
   split at hc
   ·rename_i h2
    obtain ⟨d,rfl,hd⟩:=hc
    exact ⟨⟨d⟩,by simp [h2],hd⟩
   ·rename_i h2
    obtain ⟨w',rfl,hd⟩:=hc
    exact ⟨w',by simp at h2; simp [h2],hd⟩
theorem adG{b:au}(hv:Valid b){S:Type}(ys:br→S→Option (S × Bool)){s:S}{r:S × Bool}(hr:nC ys ((ib b).map ti) s=some r):nq ys b s=some r.1:=by
 have h3:=hv.p3
 unfold nq
 obtain ⟨w',h1,_⟩:=aai hv ys b.aQ.length 9 [] ⟨[0,0,0]⟩ s r (by simp) (by omega) ⟨rfl,λ i hi=>by simp at hi,λ i _ hi=>by match i,hi with | 0,_=>rfl | 1,_=>rfl | 2,_=>rfl⟩ (by rw [← hr]; unfold ib; simp only [List.length_nil]; rw [axK])
 have zk:qe ys 9 0 b ⟨[0,0,0]⟩ s=some (r.1,(w',r.2)):=h1
 rw [zk]
 rfl
end Go.Proofs.YtihapemckcdicaaGreatDoor
namespace Go.Proofs.YtihapemckcdicaaGreatDoor
open Go.Lg Go.Proofs
set_option maxRecDepth 10000
theorem atj{b:au}(hv:Valid b):∀ i,i≤b.aQ.length→(lvl (BS b) i).length≤3 ^ i
 | 0,_=>by simp [lvl]
 | i+1,h=>by
  have ih:=atj hv i (by omega)
  have hx:=az9 (hv.each (i:=i) (by omega)).2.2.2
  simp only [lvl]
  refine Nat.le_trans (adi _ 3 (λ a=>?_) _) ?_
  ·simpa using hx
  ·rw [Nat.pow_succ]; omega
theorem azn{b:au}(hv:Valid b):(lvl (BS b) b.aQ.length).length≤27:=by
 refine Nat.le_trans (atj hv _ (Nat.le_refl _)) ?_
 have h1:=hv.p1
 have h3:=hv.p3
 match b.aQ.length,h1,h3 with
 | 1,_,_=>decide
 | 2,_,_=>decide
 | 3,_,_=>decide
theorem adP{b:au}(hv:Valid b):(ib b).length≤27:=Nat.le_trans (List.length_filter_le _ _) (azn hv)
theorem ay4{b:au}(hv:Valid b):xu (λ y s=>nq y b s)=some ((ib b).map ti):=by
 unfold xu Ev
 have hl:=adP hv
 have key:∀ (l a:List br),l.foldl (λ s c=>s++[c]) a=a++l:=by
  intro l
  induction l with
  | nil=>simp
  | cons c l ih=>intro a; rw [List.foldl_cons,ih]; simp
 dsimp only
 rw [adG hv _ (r:=(.inl ((((ib b).map ti).foldl (λ (s:List br) c=>s++[c]) [])),true)) (adj (λ k s=>s.length=k) (λ c s=>s++[c]) _ 0 [] rfl (λ j s a hj hs _=>by
  simp only [List.length_map] at hj
  rw [U2 (by simp; omega)]
  exact ⟨rfl,by simp [hs]⟩))]
 rw [key]
 rfl
def U5(b:au):Int × Int:=if lS b≠0 then (0,lS b) else ((ib b).length,0)
theorem adQ{b:au}(hv:Valid b):U5 b=(((ib b).length:Int),0):=by
 unfold U5
 simp [IG.2 hv]
theorem adZ{b:au}(hs:Small b):oV b=some (U5 b):=by
 unfold oV U5
 rw [U0 hs,Option.bind_some]
 by_cases h1:lS b=0
 ·have hv:=IG.1 h1
  simp only [h1,bne_self_eq_false,dn,ne_eq,not_true_eq_false,if_false]
  rw [show (⟨b.Rest,b.Rows,b.aQ,b.aH,b.aN,b.aY⟩:au)=b from rfl,ay4 hv,Option.bind_some,List.length_map]
 ·simp only [h1,ne_eq,not_false_eq_true,if_true,IU h1,fc]
def aLG:b9:=⟨⟨0,[],[],[],[],[]⟩,[]⟩
def opO(b:au):b9:=⟨b,(ib b).map ti⟩
def adg(b:au)(own:Int):Int:=if lS b≠0 then lS b else if own≠0 then own else if ib b=[] then 9 else 0
theorem aJZ{b:au}{own:Int}(hv:Valid b)(h2:own=0)(h3:ib b≠[]):adg b own=0:=by
 unfold adg
 simp [IG.2 hv,h2,h3]
def ay8(b:au)(own:Int):b9 × Int:=if adg b own≠0 then (aLG,adg b own) else (opO b,0)
theorem aLD{b:au}(hs:Small b){f:au→Option Int}{own:Int}(hf:lS b=0→f b=some own):pE b f=some (ay8 b own):=by
 unfold pE ay8 adg
 rw [U0 hs,Option.bind_some]
 by_cases h1:lS b=0
 ·have hv:=IG.1 h1
  simp only [h1,bne_self_eq_false,dn,ne_eq,not_true_eq_false,if_false,hf h1,Option.bind_some]
  by_cases h2:own=0
  ·simp only [h2,bne_self_eq_false,dn,not_true_eq_false,if_false,ay4 hv,Option.bind_some,List.length_map]
   cases hc:ib b with
   | nil=>rfl
   | cons c l =>
    rw [if_neg (by simp),show ((((c::l).length:Nat):Int) == 0)=false by simp; omega,dn]
    unfold opO
    rw [hc]
  ·simp only [h2,not_false_eq_true,if_true,IU h2,fc]
   rfl
 ·simp only [h1,ne_eq,not_false_eq_true,if_true,IU h1,fc]
  rfl
end Go.Proofs.YtihapemckcdicaaGreatDoor
namespace Go.Proofs.YtihapemckcdicaaGreatDoor
open Go.Lg Go.Proofs
set_option maxRecDepth 10000
set_option maxRecDepth 1000000 in
def Ey(b:au)(l:List c9):au:=⟨b.Rest,b.Rows,b.aQ,b.aH,b.aN,l⟩
theorem Valid.Ey{b:au}(h:Valid b){l:List c9}(hl:l.length≤3)(hs:∀ s∈l,V6 b.aQ.length s):Valid (Ey b l) :=
 ⟨h.rest,h.r1,h.r4,h.row,h.adf,h.p1,h.p3,h.place,h.m1,h.m4,h.Vp,h.names,h.d1,h.d4,h.XH,hl,hs⟩
theorem ayR(b:au)(l:List c9):ib (Ey b l)=(lvl (BS b) b.aQ.length).filter λ c=>l.all λ s=>decide (nth c s.Place.toNat≤s.lu) == s.rL:=rfl
end Go.Proofs.YtihapemckcdicaaGreatDoor
namespace Go.Proofs.YtihapemckcdicaaGreatDoor
open Go.Lg Go.Proofs
set_option maxRecDepth 10000
theorem aLh{b:au}(hv:Valid b){f:br→Option Bool}{p:List Int→Bool}(hf:∀ c∈ib b,f (ti c)=some (p c)):uH (opO b) f=some (((ib b).filter p).length:Int):=by
 have h27:=adP hv
 unfold uH opO
 simp only [List.length_map]
 rw [S3 (o:=(((ib b).filter p).length:Int)) (azS (l:=ib b) p (λ i n hi hn=>?_) (λ n=>by simp only [mL,dn]))]
 have e:((ib b).map ti)[i]? = some (ti (nth (ib b) i)):=by rw [List.getElem?_map,fh hi]; rfl
 simp only [dec_lt hi,fc,j4,e,Option.bind_some,hf _ (pr hi),mb (i:=i) (by omega),mb (i:=n) (by omega)]
 cases p (nth (ib b) i) <;> rfl
theorem aLO{b:au}(hv:Valid b){c:List Int}(hc:c.length=b.aQ.length){i:Nat}(hi:i < b.aQ.length):idx (ti c).deep (i:Int)=some (nth c i):=by
 have h3:=hv.p3
 have h:=XA (c:=c) (by omega)
 rw [j4,fh (l:=(ti c).deep) (show i < (qz [0,0,0] c).length by omega)]
 exact congrArg some (h.2.1 i (by omega))
section
variable {β:Type} (w:β→Int) (e:β→Int × Int)
def zf(s:Int × Int × Int)(x:β):Int × Int × Int:=if w x < s.2.2 then ((e x).1,(e x).2,w x) else s
theorem aJ2(N:Int):∀ L:List β,(L.foldl (zf w e) (-1,-1,N)=(-1,-1,N)∧∀ x∈L,N≤w x) ∨
  ∃ l1 x l2,L=l1++x::l2∧L.foldl (zf w e) (-1,-1,N)=((e x).1,(e x).2,w x)∧w x < N∧(∀ y∈l1,w x < w y)∧∀ y∈l2,w x≤w y:=by
 have key:∀ L:List β,(L.reverse.foldl (zf w e) (-1,-1,N)=(-1,-1,N)∧∀ x∈L.reverse,N≤w x) ∨
   ∃ l1 x l2,L.reverse=l1++x::l2∧L.reverse.foldl (zf w e) (-1,-1,N)=((e x).1,(e x).2,w x)∧w x < N∧(∀ y∈l1,w x < w y)∧∀ y∈l2,w x≤w y:=by
  intro L
  induction L with
  | nil=>exact .inl ⟨rfl,by simp⟩
  | cons z L ih =>
   rw [List.reverse_cons,List.foldl_append,List.foldl_cons,List.foldl_nil]
   rcases ih with ⟨h1,h2⟩ | ⟨l1,x,l2,h1,h2,h3,h4,h5⟩
   ·rw [h1]
    unfold zf
    by_cases hz:w z < N
    ·rw [if_pos hz]
     exact .inr ⟨L.reverse,z,[],rfl,rfl,hz,λ y hy=>by have:=h2 y hy; omega,by simp⟩
    ·rw [if_neg hz]
     exact .inl ⟨rfl,λ x hx=>by
      rw [List.mem_append,List.mem_singleton] at hx
      rcases hx with hx | rfl
      ·exact h2 x hx
      ·omega⟩
   ·rw [h2]
    unfold zf
    by_cases hz:w z < w x
    ·rw [if_pos hz]
     exact .inr ⟨L.reverse,z,[],rfl,rfl,by omega,λ y hy=>by
      rw [h1,List.mem_append,List.mem_cons] at hy
      rcases hy with hy | rfl | hy
      ·have:=h4 y hy; omega
      ·exact hz
      ·have:=h5 y hy; omega,by simp⟩
    ·rw [if_neg hz]
     refine .inr ⟨l1,x,l2++[z],by rw [h1]; simp,rfl,h3,h4,λ y hy=>?_⟩
     rw [List.mem_append,List.mem_singleton] at hy
     rcases hy with hy | rfl
     ·exact h5 y hy
     ·omega
 intro L
 have:=key L.reverse
 rwa [List.reverse_reverse] at this
end
def BW(P:Nat):List (Nat × Nat):=(List.range P).flatMap λ i=>(List.range 31).map λ j=>(i,j)
def abi(x y:Nat × Nat):Bool:=decide (x.1 < y.1) || (x.1 == y.1 && decide (x.2 < y.2))
set_option maxRecDepth 1000000 in
theorem aLI:((List.range 4).all λ P=>decide ((BW P).Pairwise λ x y=>abi x y=true))=true:=by decide +kernel
theorem aLJ{P:Nat}(h:P≤3):(BW P).Pairwise λ x y=>abi x y=true:=by
 have:=aLI
 simp only [List.all_eq_true,List.mem_range,decide_eq_true_eq] at this
 exact this P (by omega)
theorem ay7{P:Nat}{x:Nat × Nat}:x∈BW P↔x.1 < P∧x.2 < 31:=by
 obtain ⟨i,j⟩:=x
 simp [BW]
def OL(b:au)(x:Nat × Nat):Nat:=((ib b).filter λ c=>decide (nth c x.1≤(x.2:Int))).length
def za(b:au)(x:Nat × Nat):Int:=max (OL b x:Int) ((ib b).length - OL b x)
def Ex(x:Nat × Nat):Int × Int:=((x.1:Int),(x.2:Int))
def adO(b:au):Int × Int × Int:=(BW b.aQ.length).foldl (zf (za b) Ex) (-1,-1,((ib b).length:Int))
theorem zj(b:au)(x:Nat × Nat):OL b x≤(ib b).length:=List.length_filter_le _ _
theorem aLe{w:Nat × Nat→Int}{P:Nat}(hP:P≤3){inner:Int→(Int × Int × Int × Int)→Option ((Int × Int × Int × Int) ⊕ (Int × Int × Int))}
  (h:∀ (i j:Nat) (s:Int × Int × Int),i < P→j < 31→inner (i:Int) (s.1,s.2.1,s.2.2,(j:Int))=some (.inl ((zf w Ex s (i,j)).1,(zf w Ex s (i,j)).2.1,(zf w Ex s (i,j)).2.2,((j+1:Nat):Int))))
  (hn:∀ (i:Nat) (s:Int × Int × Int),i < P→inner (i:Int) (s.1,s.2.1,s.2.2,31)=some (.inr s)) (s0:Int × Int × Int) :
  bN (O:=(Int × Int × Int)) (λ (s:(Int × Int × Int × Int))=>ag (decide (s.2.2.2 < (P:Int))) ((bN (inner s.2.2.2) (s.1,s.2.1,s.2.2.1,0)).bind λ p=>some (.inl (p.1,p.2.1,p.2.2,i64 (s.2.2.2+1)))) (some (.inr (s.1,s.2.1,s.2.2.1)))) (s0.1,s0.2.1,s0.2.2,0)=some ((BW P).foldl (zf w Ex) s0):=by
 have inn:∀ (i:Nat) (s:Int × Int × Int),i < P→bN (inner (i:Int)) (s.1,s.2.1,s.2.2,0)=some (((List.range 31).map λ j=>(i,j)).foldl (zf w Ex) s):=by
  intro i s hi
  have e0:(s.1,s.2.1,s.2.2,(0:Int))=(λ j:Nat=>((((List.range j).map λ j=>(i,j)).foldl (zf w Ex) s).1,(((List.range j).map λ j=>(i,j)).foldl (zf w Ex) s).2.1,(((List.range j).map λ j=>(i,j)).foldl (zf w Ex) s).2.2,(j:Int))) 0:=rfl
  rw [e0]
  refine S4 (λ j:Nat=>((((List.range j).map λ j=>(i,j)).foldl (zf w Ex) s).1,(((List.range j).map λ j=>(i,j)).foldl (zf w Ex) s).2.1,(((List.range j).map λ j=>(i,j)).foldl (zf w Ex) s).2.2,(j:Int))) 31 (λ j hj=>?_) (hn i _ hi)
  refine (h i j _ hi hj).trans ?_
  rw [List.range_succ,List.map_append,List.foldl_append]
  rfl
 have e0:(s0.1,s0.2.1,s0.2.2,(0:Int))=(λ i:Nat=>(((BW i).foldl (zf w Ex) s0).1,((BW i).foldl (zf w Ex) s0).2.1,((BW i).foldl (zf w Ex) s0).2.2,(i:Int))) 0:=rfl
 rw [e0]
 refine S4 (λ i:Nat=>(((BW i).foldl (zf w Ex) s0).1,((BW i).foldl (zf w Ex) s0).2.1,((BW i).foldl (zf w Ex) s0).2.2,(i:Int))) P (λ i hi=>?_) (by simp only [mL,dn])
 simp only [dec_lt hi,fc,mb (i:=i) (by omega)]
 rw [inn i _ hi,Option.bind_some]
 have:BW (i+1)=BW i++(List.range 31).map λ j=>(i,j):=by simp [BW,List.range_succ]
 rw [this,List.foldl_append]
theorem aLv{b:au}(hv:Valid b):zd b=some (if ib b=[] then (0,0,0,9) else ((adO b).1,(adO b).2.1,(adO b).2.2,0)):=by
 have h3:=hv.p3
 have h27:=adP hv
 unfold zd
 rw [aLD hv.sm (own:=0) (λ _=>rfl),Option.bind_some]
 by_cases hc:ib b=[]
 ·have:adg b 0=9:=by unfold adg; simp [IG.2 hv,hc]
  unfold ay8
  rw [this,if_pos hc]
  rfl
 ·unfold ay8
  rw [aJZ hv rfl hc,if_neg hc]
  simp only [ne_eq,not_true_eq_false,if_false,bne_self_eq_false,dn]
  refine (S3 (o:=adO b) ?_).trans rfl
  rw [show ((opO b).eS.length:Int)=((ib b).length:Int) by simp [opO]]
  refine aLe (w:=za b) (inner:=λ (i:Int) (s:Int × Int × Int × Int)=>ag (decide (s.2.2.2 < 31)) ((uH (opO b) (λ y=>BU y i s.2.2.2)).bind λ x=>ag (decide (oE x [i64 (((ib b).length:Int) - x)] < s.2.2.1)) (some (.inl (i,s.2.2.2,oE x [i64 (((ib b).length:Int) - x)],i64 (s.2.2.2+1)))) (some (.inl (s.1,s.2.1,s.2.2.1,i64 (s.2.2.2+1))))) (some (.inr (s.1,s.2.1,s.2.2.1)))) h3 (λ i j s hi hj=>?_) (λ i s hi=>by rw [show decide ((31:Int) < 31)=false from rfl,dn]) (-1,-1,((ib b).length:Int))
  have aKi:=zj b (i,j)
  simp only [show decide ((j:Int) < 31)=true by simp; omega,fc]
  rw [aLh hv (p:=λ c=>decide (nth c i≤(j:Int))) (λ c hc=>by unfold BU; rw [aLO hv (avg.1 hc).1.1 hi]; rfl),Option.bind_some]
  rw [show ((ib b).filter λ c=>decide (nth c i≤(j:Int))).length=OL b (i,j) from rfl,pG (z:=((ib b).length:Int) - (OL b (i,j):Int)) (by omega) (by omega),ay6,mb (i:=j) (by omega)]
  rw [show max (OL b (i,j):Int) (((ib b).length:Int) - (OL b (i,j):Int))=za b (i,j) from rfl]
  unfold zf
  by_cases hl:za b (i,j) < s.2.2
  ·simp only [hl,decide_true,fc,if_true]; rfl
  ·simp only [hl,decide_false,dn,if_false]
theorem aF3{b:au}(hs:b.aY.length≤1000)(s:c9):u9 b s=some (Ey b (b.aY++[s])):=by
 unfold u9
 rw [U2 (by simp; omega),Option.bind_some,U2 (by simp; omega),Option.bind_some]
 rfl
theorem Valid.and{b:au}(h:Valid b){s:c9}(hs:V6 b.aQ.length s)(hl:b.aY.length < 3):Valid (Go.Proofs.YtihapemckcdicaaGreatDoor.Ey b (b.aY++[s])) :=
 h.Ey (by simp; omega) λ x hx=>by
  rw [List.mem_append,List.mem_singleton] at hx
  rcases hx with hx | rfl
  ·exact h.sound x hx
  ·exact hs
theorem aFl(b:au)(s:c9):ib (Ey b (b.aY++[s]))=(ib b).filter λ c=>decide (nth c s.Place.toNat≤s.lu) == s.rL:=by
 rw [ayR]
 unfold ib
 rw [List.filter_filter]
 congr 1
 funext c
 rw [List.all_append]
 simp [yK,Bool.and_comm]
theorem aLw{b:au}(hv:Valid b)(hl:b.aY.length < 3){x:Nat × Nat}(hx:x.1 < b.aQ.length)(hy:x.2 < 31):HO b (x.1:Int) (x.2:Int)=some (za b x,true):=by
 have v1:Valid (Ey b (b.aY++[⟨(x.1:Int),(x.2:Int),true⟩])):=hv.and ⟨by simp; omega,by simp; omega⟩ hl
 have v2:Valid (Ey b (b.aY++[⟨(x.1:Int),(x.2:Int),false⟩])):=hv.and ⟨by simp; omega,by simp; omega⟩ hl
 have aKi:=zj b x
 unfold HO
 rw [aF3 (by omega),Option.bind_some,adZ v1.sm,adQ v1,Option.bind_some,aF3 (by omega),Option.bind_some,adZ v2.sm,adQ v2,Option.bind_some,aFl,aFl]
 have e1:((ib b).filter λ c=>decide (nth c (x.1:Int).toNat≤(x.2:Int)) == true).length=OL b x:=by
  unfold OL; congr 1; congr 1; funext c; simp
 have e2:((ib b).filter λ c=>decide (nth c (x.1:Int).toNat≤(x.2:Int)) == false).length=(ib b).length - OL b x:=by
  have:=azz (λ c=>decide (nth c x.1≤(x.2:Int))) (ib b)
  have e:((ib b).filter λ c=>decide (nth c (x.1:Int).toNat≤(x.2:Int)) == false)=(ib b).filter λ c=>!decide (nth c x.1≤(x.2:Int)):=by
   congr 1; funext c; simp
  rw [e]
  unfold OL
  omega
 simp only [e1,e2,beq_self_eq_true,fc,ay6]
 congr 2
 unfold za
 omega
theorem aGY{x:Int}{n:Nat}(h0:0≤x)(h:x < 256)(hn:0 < n):IE (i64 x) (n:Int)=some ((x.toNat % n:Nat):Int):=by
 rw [pG (by omega) (by omega)]
 unfold IE
 obtain ⟨m,rfl⟩:=Int.eq_ofNat_of_zero_le h0
 rw [if_neg (by omega),Int.toNat_natCast,Int.ofNat_tmod]
theorem aJV{b:au}(hv:Valid b):(adO b=(-1,-1,((ib b).length:Int))∧∀ x∈BW b.aQ.length,((ib b).length:Int)≤za b x) ∨
  ∃ x,x∈BW b.aQ.length∧adO b=((x.1:Int),(x.2:Int),za b x)∧za b x < ((ib b).length:Int)∧∀ y∈BW b.aQ.length,za b x≤za b y∧(abi y x=true→za b x < za b y):=by
 rcases aJ2 (za b) Ex ((ib b).length:Int) (BW b.aQ.length) with h | ⟨l1,x,l2,h1,h2,h3,h4,h5⟩
 ·exact .inl h
 ·refine .inr ⟨x,by rw [h1]; simp,h2,h3,λ y hy=>?_⟩
  have hs:=aLJ hv.p3
  rw [h1] at hs hy
  rw [List.mem_append,List.mem_cons] at hy
  have hs2:=(List.pairwise_append.1 hs).2.1
  rcases hy with hy | rfl | hy
  ·have:=h4 y hy; exact ⟨by omega,λ _=>this⟩
  ·refine ⟨Int.le_refl _,λ h=>?_⟩
   simp [abi] at h
  ·refine ⟨h5 y hy,λ h=>?_⟩
   have:=(List.pairwise_cons.1 hs2).1 y hy
   simp only [abi,Bool.or_eq_true,Bool.and_eq_true,decide_eq_true_eq,beq_iff_eq] at this h
   omega
theorem aLd(b:au)(x y:Int)(hx:0≤x∧x < 256)(hy:0≤y∧y < 256):m9 b x y=some true:=by
 unfold m9
 rw [azT,awJ,Option.bind_some]
 cases hg:BX b with
 | true=>rfl
 | false =>
 by_cases h1:lS b=0
 case neg =>
  have:(lS b == 0)=false:=by simpa using h1
  rw [this]
  rfl
 have hs:=adk hg
 have hv:=IG.1 h1
 simp only [h1,Bool.not_false,beq_self_eq_true,Bool.and_true,Bool.not_true,dn,Option.bind_some]
 by_cases hl:b.aY.length < 3
 case neg =>
  rw [show decide ((b.aY.length:Int) ≥ 3)=true by simp; omega]
  rfl
 rw [show decide ((b.aY.length:Int) ≥ 3)=false by simp; omega,dn,aLv hv,Option.bind_some,adZ hs,adQ hv,Option.bind_some]
 by_cases hc:ib b=[]
 ·rw [if_pos hc,hc]
  rfl
 rw [if_neg hc]
 have hF:0 < (ib b).length:=List.length_pos_iff.2 hc
 have h27:=adP hv
 have hp1:=hv.p1
 have hp3:=hv.p3
 have qV:x.toNat % b.aQ.length < b.aQ.length:=Nat.mod_lt _ (by omega)
 have hpj:y.toNat % 31 < 31:=Nat.mod_lt _ (by omega)
 have hle:∀ z,z∈BW b.aQ.length→za b z≤((ib b).length:Int):=λ z _=>by
  have:=zj b z
  unfold za
  omega
 have e61:∀ z,z∈BW b.aQ.length→HO b (z.1:Int) (z.2:Int)=some (za b z,true):=λ z hz=>aLw hv hl (ay7.1 hz).1 (ay7.1 hz).2
 have hq:(x.toNat % b.aQ.length,y.toNat % 31)∈BW b.aQ.length:=ay7.2 ⟨qV,hpj⟩
 have azy:=e61 _ hq
 have hq2:=hle _ hq
 simp only at azy
 simp only [beq_self_eq_true,show decide (((ib b).length:Int) > 0)=true by simp; omega,bne_self_eq_false,dn,Bool.not_true,Option.bind_some,oD,pG (z:=(b.aQ.length:Int) - 1) (by omega) (by omega)]
 rw [aGY hx.1 hx.2 (by omega),show (31:Int)=((31:Nat):Int) from rfl,aGY hy.1 hy.2 (by omega)]
 simp only [Option.bind_some,azy]
 clear azy
 generalize x.toNat % b.aQ.length=A at qV hq hq2 ⊢
 generalize y.toNat % 31=B at hpj hq hq2 ⊢
 rcases aJV hv with ⟨ha,tq⟩ | ⟨z,hz,ha,bJ,tq⟩
 ·have:=tq _ hq
  rw [ha]
  simp only
  generalize za b (A,B)=L at this hq2
  obtain rfl:L=((ib b).length:Int):=by omega
  have b1:cw (-1) (-1) ((b.aQ.length:Int) - 1)=true:=jd.2 (by omega)
  have b2:cw (-1) (-1) 30=true:=by decide
  simp [b1,b2,fc,dn]
 ·have h2:=tq _ hq
  have e2:=e61 z hz
  have hz2:=ay7.1 hz
  rw [ha]
  simp only
  generalize hL:za b (A,B)=L at h2 hq2
  have b1:cw (z.1:Int) (-1) ((b.aQ.length:Int) - 1)=true:=jd.2 (by omega)
  have b2:cw (z.2:Int) (-1) 30=true:=jd.2 (by omega)
  have b3:decide ((z.1:Int) < 0)=false:=by simp
  have b4:(za b z == ((ib b).length:Int))=false:=by simp; omega
  have b5:decide ((z.2:Int) < 0)=false:=by simp
  have b6:decide (za b z > ((ib b).length:Int))=false:=by simp; omega
  have b7:decide (L < za b z)=false:=by simp; omega
  have b8:decide ((z.1:Int) ≥ 0)=true:=by simp
  simp only [b1,b2,b3,b4,b5,b6,b7,b8,Bool.not_true,dn,fc,beq_self_eq_true,Option.bind_some,e2]
  have key:ag (L == za b z) (ag (decide ((A:Int) < (z.1:Int))) (some true) (ag ((A:Int) == (z.1:Int)) (some (decide ((B:Int) < (z.2:Int)))) (some false))) (some false)=some false:=by
   by_cases he:L=za b z
   ·have hn:abi (A,B) z=false:=by
     cases h:abi (A,B) z with
     | false=>rfl
     | true=>have:=h2.2 h; omega
    simp only [abi,Bool.or_eq_false_iff,decide_eq_false_iff_not,Bool.and_eq_false_imp,beq_iff_eq] at hn
    rw [he]
    simp only [beq_self_eq_true,fc]
    rw [show decide ((A:Int) < (z.1:Int))=false by simpa using hn.1,dn]
    by_cases hi:A=z.1
    ·rw [hi]
     simp only [beq_self_eq_true,fc]
     rw [show decide ((B:Int) < (z.2:Int))=false by have:=hn.2 hi; simpa using this]
    ·rw [show ((A:Int) == (z.1:Int))=false by simpa using (by omega:¬ (A:Int)=(z.1:Int)),dn]
   ·rw [show (L == za b z)=false by simpa using he,dn]
  rw [key]
  simp [dn]
end Go.Proofs.YtihapemckcdicaaGreatDoor
