/- Plain laws of chapter 5. Conditions: none. -/
import Derived.Test.YtihapemckcdicaaGreatDoorQDStP
import Derived.Test.YtihapemckcdicaaGreatDoorQDStC
import Derived.Test.YtihapemckcdicaaGreatDoorQDStM
namespace Go.Proofs.YtihapemckcdicaaGreatDoor
open Go.Lg Go.Proofs
set_option maxRecDepth 10000
theorem aF2(s:ByteArray):Lf s=some (pH s):=rfl
def uO(x:Reach)(a c:Int):Bool:=decide (a≤x.cH) && (decide (x.cH≤x.dm) && decide (x.dm≤c))
def yW(x:Reach)(w:Int):Bool:=decide (x.dm - x.cH < w)
theorem ayA{x:Reach}{a c:Int}(ha : -1000000≤a)(hc:c≤1000000)(h:uO x a c=true):i64 (x.dm - x.cH)=x.dm - x.cH:=by
 simp only [uO,Bool.and_eq_true,decide_eq_true_eq] at h
 exact pG (by omega) (by omega)
theorem awg{x:Reach}{a c:Int}:uO x a c=true↔a≤x.cH∧x.cH≤x.dm∧x.dm≤c:=by simp [uO]
theorem ayB{x:Reach}{w:Int}:yW x w=true↔x.dm - x.cH < w:=by simp [yW]
def EC(x:Reach):List Int:=(List.range (x.dm+1 - x.cH).toNat).map λ (j:Nat)=>x.cH+(j:Int)
theorem avh{x:Reach}{n:Int}:n∈EC x↔x.cH≤n∧n≤x.dm:=by
 simp only [EC,List.mem_map,List.mem_range]
 constructor
 ·rintro ⟨j,hj,rfl⟩; omega
 ·intro h; exact ⟨(n - x.cH).toNat,by omega,by omega⟩
theorem az9{x:Reach}(h:x.dm - x.cH < 3):(EC x).length≤3:=by simp [EC]; omega
instance:Inhabited fl:=⟨⟨0,0⟩⟩
instance:Inhabited Reach:=⟨⟨0,0⟩⟩
instance:Inhabited eQ:=⟨⟨⟨#[]⟩,0⟩⟩
instance:Inhabited lW:=⟨⟨0,0,0,0⟩⟩
instance:Inhabited c9:=⟨⟨0,0,false⟩⟩
instance:Inhabited br:=⟨⟨[0,0,0]⟩⟩
theorem tt(n a c:Int):jE n a c=some (cw n a c):=by
 unfold jE cw
 cases decide (a≤n) <;> rfl
theorem oD(n a c:Int):iA n a c=some (cw n a c):=by
 unfold iA cw
 cases decide (a≤n) <;> rfl
theorem auh(x:Reach)(a c:Int):HC x a c=some (uO x a c):=by
 unfold HC uO
 cases decide (a≤x.cH) <;> cases decide (x.cH≤x.dm) <;> rfl
theorem auP{x:Reach}{a c w:Int}(ha : -1000000≤a)(hc:c≤1000000):AZ x a c w=some (uO x a c && yW x w):=by
 unfold AZ uO yW
 by_cases h1:a≤x.cH
 ·by_cases h2:x.cH≤x.dm
  ·by_cases h3:x.dm≤c
   ·simp [h1,h2,h3,pG (z:=x.dm - x.cH) (by omega) (by omega)]
   ·simp [h1,h2,h3]
  ·simp [h1,h2]
 ·simp [h1]
theorem Nd{α:Type}[Inhabited α]{l:List α}{f:α→Option Bool}{p:α→Bool}(hl:l.length≤1000)(hf:∀ x∈l,f x=some (p x)):((bN (O:=(Unit ⊕ Int)) (λ (cZ:Int) =>
 ag (decide (cZ < (l.length:Int)))
 ((idx l cZ).bind λ jZ =>
 (f jZ).bind λ kH =>
 ag kH
 (some (.inr (.inr cZ)))
 (some (.inl (i64 (cZ+1)))))
 (some (.inr (.inl ())))) 0).bind (Sum.elim (λ (_:Unit) =>
 some (-1))
  (λ q=>some q))).bind (λ cG=>some (decide (cG ≥ 0)))=some (l.any p):=by
 rw [vf (λ i=>if p (nth l i) then some (i:Int) else none) l.length (d:=(-1)) (λ i hi=>?_) (by simp only [mL,dn]) rfl]
 ·rw [Option.bind_some,ajz p l]
 ·simp only [dec_lt hi,fc,j4,fh hi,Option.bind_some,hf _ (pr hi),mb (i:=i) (by omega)]
  cases p (nth l i) <;> rfl
theorem auM{l:List Reach}{f:Reach→Option Bool}{p:Reach→Bool}(hl:l.length≤1000)(hf:∀ x∈l,f x=some (p x)):Dr l f=some (l.any p):=Nd hl hf
theorem auS{l:List eQ}{f:eQ→Option Bool}{p:eQ→Bool}(hl:l.length≤1000)(hf:∀ x∈l,f x=some (p x)):Ds l f=some (l.any p):=Nd hl hf
theorem aum{l:List c9}{f:c9→Option Bool}{p:c9→Bool}(hl:l.length≤1000)(hf:∀ x∈l,f x=some (p x)):Dl l f=some (l.any p):=Nd hl hf
structure Small (b:au):Prop where
 rows:b.Rows.length≤20
 places:b.aQ.length≤20
 wi:b.aH.length≤20
 UX:b.aN.length≤20
 aw9:b.aY.length≤20
 each:∀ p∈b.aH,p.Name.size≤100
def BX(b:au):Bool :=
 decide (20 < b.Rows.length) || (decide (20 < b.aQ.length) || (decide (20 < b.aH.length) || (decide (20 < b.aN.length) || (decide (20 < b.aY.length) || b.aH.any λ p=>decide (100 < p.Name.size)))))
theorem xo{n m:Nat}:decide ((n:Int) > (m:Int))=decide (m < n):=by
 by_cases h:m < n <;> simp [h]
theorem aur(b:au):Dm b=some (BX b):=by
 unfold Dm BX
 have e1:decide ((b.Rows.length:Int) > 20)=decide (20 < b.Rows.length):=xo (m:=20)
 have e2:decide ((b.aQ.length:Int) > 20)=decide (20 < b.aQ.length):=xo (m:=20)
 have e3:decide ((b.aH.length:Int) > 20)=decide (20 < b.aH.length):=xo (m:=20)
 have e4:decide ((b.aN.length:Int) > 20)=decide (20 < b.aN.length):=xo (m:=20)
 have e5:decide ((b.aY.length:Int) > 20)=decide (20 < b.aY.length):=xo (m:=20)
 rw [e1,e2,e3,e4,e5]
 by_cases h1:20 < b.Rows.length
 ·simp [h1]
 by_cases h2:20 < b.aQ.length
 ·simp [h1,h2]
 by_cases h3:20 < b.aH.length
 ·simp [h1,h2,h3]
 by_cases h4:20 < b.aN.length
 ·simp [h1,h2,h3,h4]
 by_cases h5:20 < b.aY.length
 ·simp [h1,h2,h3,h4,h5]
 simp only [h1,h2,h3,h4,h5,decide_false,dn,Option.bind_some,Bool.false_or]
 rw [vf (λ i=>if decide (100 < (nth b.aH i).Name.size) then some true else none) b.aH.length (d:=false) (λ i hi=>?_) (by simp only [mL,dn]) rfl]
 ·rw [YA (λ p:eQ=>decide (100 < p.Name.size)) b.aH]
 ·have f1:decide (((nth b.aH i).Name.size:Int) > 100)=decide (100 < (nth b.aH i).Name.size):=xo (m:=100)
  simp only [dec_lt hi,fc,j4,fh hi,Option.bind_some,f1,mb (i:=i) (by omega)]
  cases decide (100 < (nth b.aH i).Name.size) <;> rfl
theorem adk{b:au}(h:BX b=false):Small b:=by
 simp only [BX,Bool.or_eq_false_iff,decide_eq_false_iff_not,List.any_eq_false,decide_eq_true_eq] at h
 obtain ⟨h1,h2,h3,h4,h5,h6⟩:=h
 exact ⟨by omega,by omega,by omega,by omega,by omega,λ p hp=>by have:=h6 p hp; omega⟩
theorem aak{n:Int}(h1:0≤n)(h2:n < 256):AR n=some (isLet n):=by unfold AR isLet; rw [pG (by omega) (by omega),oD]; rfl
theorem aut{n:Int}(h1:0≤n)(h2:n < 256):Dn n=some (v8 n):=by unfold Dn v8; rw [pG (by omega) (by omega),oD]; rfl
theorem auj{s:ByteArray}(hs:s.size≤1000):HD s=some (pH s):=by
 unfold HD pH
 rw [oD,Option.bind_some]
 cases hb:cw (s.size:Int) 1 12 with
 | false =>
  simp only [Bool.not_false,fc,Option.bind_some]
  congr 1
  cases hf:eH (np s) 0 s.size with
  | none=>rfl
  | some o=>rw [adE hf]; rfl
 | true =>
  have h1:1≤s.size:=by
   simp only [cw,Bool.and_eq_true,decide_eq_true_eq] at hb
   omega
  have oz:0 < (gx s).length:=by rw [L2]; omega
  obtain ⟨g1,g2⟩:=abG (s:=s) (i:=0) (by omega)
  have CJ:s8 s 0=some (nth (gx s) 0):=by unfold s8; rw [← fh oz]; exact j4 _ 0
  simp only [Bool.not_true,dn,CJ,Option.bind_some,aak g1 g2]
  have hu:eH (np s) 0 s.size=match np s 0 with | some o=>some o | none=>eH (np s) 1 (s.size - 1):=by
   obtain ⟨k,hk⟩:∃ k,s.size=k+1:=⟨s.size - 1,by omega⟩
   rw [hk]
   simp only [eH,Nat.add_sub_cancel,Nat.zero_add]
   cases np s 0 <;> rfl
  rw [hu]
  unfold np
  cases hl:isLet (nth (gx s) 0) with
  | false=>rfl
  | true =>
   simp only [Bool.not_true,dn,Bool.true_eq_false,if_false]
   have e2:=search (body:=λ (px:Int) =>
    ag (decide (px < (s.size:Int)))
    ((s8 s px).bind λ y4 =>
    (AR y4).bind λ nX =>
    ag (!nX)
    ((s8 s px).bind λ gz =>
    (Dn gz).bind λ nY =>
    ag (!nY)
    (some (.inr (.inr false)))
    (some (.inl (i64 (px+1)))))
    (some (.inl (i64 (px+1)))))
    (some (.inr (.inl ())))) (np s) 1 s.size (d:=true) (g:=λ _=>some true) (λ i hi1 hi=>?_) (by simp only [mL,dn]) h1 rfl
   ·exact e2
   ·have hi2:i < (gx s).length:=by rw [L2]; exact hi
    obtain ⟨k1,k2⟩:=abG hi
    have hsi:s8 s (i:Int)=some (nth (gx s) i):=by unfold s8; rw [← fh hi2]; exact j4 _ i
    simp only [dec_lt hi,fc,hsi,Option.bind_some,aak k1 k2,aut k1 k2,mb (i:=i) (by omega)]
    have h0:i≠0:=by omega
    unfold np
    cases isLet (nth (gx s) i) with
    | true=>rfl
    | false =>
     simp only [Bool.not_false,fc,h0,if_false,if_true]
     cases v8 (nth (gx s) i) <;> rfl
def wF(b:au)(i:Nat):Option Int :=
 if (cw (nth b.Rows i).eI 1 30 && cw (nth b.Rows i).eU 1 60)=false then some 1
 else if 0 < i then (if (nth b.Rows i).eI≤(nth b.Rows (i - 1)).eI then some 7 else if (nth b.Rows i).eU > (nth b.Rows (i - 1)).eU then some 7 else none) else none
def rj(b:au):Int:=if cw (b.Rows.length:Int) 1 4=false then 2 else (eH (wF b) 0 b.Rows.length).getD 0
def sS(x:Reach):Bool:=uO x 1 30 && yW x 3
def qk(b:au):Int:=if cw (b.aQ.length:Int) 1 3=false then 2 else if b.aQ.any (λ x=>!sS x)=true then 1 else 0
def wI(p q:eQ):Bool:=q.Name.toList == p.Name.toList
def uJ(b:au)(i:Nat):Option Int :=
 if pH (nth b.aH i).Name=false then some 4 else if (b.aH.take i).any (wI (nth b.aH i))=true then some 5 else if cw (nth b.aH i).pI 1 30=false then some 1 else none
def re(b:au):Int:=if cw (b.aH.length:Int) 1 4=false then 2 else (eH (uJ b) 0 b.aH.length).getD 0
def qY(b:au)(n:Int):Bool:=cw n 0 ((b.aQ.length:Int) - 1)
def rU(b:au)(i:Nat):Option Int :=
 if qY b (nth b.aN i).Place=false then some 6 else if (cw (nth b.aN i).iI 0 200 && (cw (nth b.aN i).jf 1 60 && cw (nth b.aN i).aH 1 3))=false then some 1 else none
def tI(b:au):Int:=if cw (b.aN.length:Int) 1 4=false then 2 else (eH (rU b) 0 b.aN.length).getD 0
def wJ(b:au)(i:Nat):Option Int :=
 if qY b (nth b.aY i).Place=false then some 6 else if cw (nth b.aY i).lu 0 30=false then some 1 else none
def yT(b:au):Int:=if 3 < b.aY.length then 2 else (eH (wJ b) 0 b.aY.length).getD 0
def lS(b:au):Int:=if cw b.Rest 0 60=false then 1 else if rj b≠0 then rj b else if qk b≠0 then qk b else if re b≠0 then re b else if tI b≠0 then tI b else yT b
theorem Vn{n:Int}{m:Nat}(hm:m≤1000):oB n (m:Int)=some (if cw n 0 ((m:Int) - 1)=false then 6 else 0):=by
 unfold oB
 rw [tt,Option.bind_some,pG (by omega) (by omega)]
 cases cw n 0 ((m:Int) - 1) <;> rfl
theorem auC{b:au}(h:Small b):AS b=some (rj b):=by
 unfold AS rj
 have hr:=h.rows
 rw [tt,Option.bind_some]
 cases cw (b.Rows.length:Int) 1 4 with
 | false=>rfl
 | true =>
  simp only [Bool.not_true,dn,Bool.true_eq_false,if_false]
  refine vf (wF b) b.Rows.length (λ i hi=>?_) (by simp only [mL,dn]) rfl
  simp only [dec_lt hi,fc,j4,fh hi,Option.bind_some,tt,mb (i:=i) (by omega)]
  unfold wF
  cases cw (nth b.Rows i).eI 1 30 with
  | false=>rfl
  | true =>
   cases cw (nth b.Rows i).eU 1 60 with
   | false=>rfl
   | true =>
    by_cases hp:0 < i
    ·simp only [U7 hp,Bool.not_true,dn,fc,Vm (i:=i) (by omega) hp,j4,fh (show i - 1 < b.Rows.length by omega),Option.bind_some,hp,if_true,Bool.and_self,Bool.true_eq_false,if_false]
     by_cases hc:(nth b.Rows i).eI≤(nth b.Rows (i - 1)).eI
     ·simp [hc]
     ·by_cases hd:(nth b.Rows i).eU > (nth b.Rows (i - 1)).eU
      ·simp [hc,hd]
      ·simp [hc,hd]
    ·simp [hp]
theorem atL{b:au}(h:Small b):Hz b=some (if cw b.Rest 0 60=false then 1 else rj b):=by
 unfold Hz rj
 have hr:=h.rows
 rw [oD,Option.bind_some]
 cases cw b.Rest 0 60 with
 | false=>rfl
 | true =>
 simp only [Bool.not_true,dn,Bool.true_eq_false,if_false]
 rw [oD,Option.bind_some]
 cases cw (b.Rows.length:Int) 1 4 with
 | false=>rfl
 | true =>
  simp only [Bool.not_true,dn,Bool.true_eq_false,if_false]
  refine vf (wF b) b.Rows.length (λ i hi=>?_) (by simp only [mL,dn]) rfl
  simp only [dec_lt hi,fc,j4,fh hi,Option.bind_some,oD,mb (i:=i) (by omega)]
  unfold wF
  cases cw (nth b.Rows i).eI 1 30 with
  | false=>rfl
  | true =>
   cases cw (nth b.Rows i).eU 1 60 with
   | false=>rfl
   | true =>
    by_cases hp:0 < i
    ·simp only [U7 hp,Bool.not_true,dn,fc,Vm (i:=i) (by omega) hp,j4,fh (show i - 1 < b.Rows.length by omega),Option.bind_some,hp,if_true,Bool.and_self,Bool.true_eq_false,if_false]
     by_cases hc:(nth b.Rows i).eI≤(nth b.Rows (i - 1)).eI
     ·simp [hc]
     ·by_cases hd:(nth b.Rows i).eU > (nth b.Rows (i - 1)).eU
      ·simp [hc,hd]
      ·simp [hc,hd]
    ·simp [hp]
theorem auE{b:au}(h:Small b):AT b=some (qk b):=by
 unfold AT qk
 rw [tt,Option.bind_some]
 cases cw (b.aQ.length:Int) 1 3 with
 | false=>rfl
 | true =>
  have hp:=h.places
  simp only [Bool.not_true,dn,Bool.true_eq_false,if_false]
  rw [auM (p:=λ x=>!sS x) (by omega) (λ x _=>by unfold AY sS; rw [auP (by omega) (by omega)]; rfl),Option.bind_some]
  cases b.aQ.any λ x=>!sS x <;> rfl
theorem auG{b:au}(h:Small b):AU b=some (re b):=by
 unfold AU re
 rw [tt,Option.bind_some]
 cases cw (b.aH.length:Int) 1 4 with
 | false=>rfl
 | true =>
  have hp:=h.wi
  simp only [Bool.not_true,dn,Bool.true_eq_false,if_false]
  refine vf (uJ b) b.aH.length (λ i hi=>?_) (by simp only [mL,dn]) rfl
  simp only [dec_lt hi,fc,j4,fh hi,Option.bind_some,aF2,agv (show i≤b.aH.length by omega),tt,
   auS (l:=b.aH.take i) (f:=λ y=>A0 y (nth b.aH i)) (p:=wI (nth b.aH i)) (by simp; omega) (λ x _=>rfl),mb (i:=i) (by omega)]
  unfold uJ
  cases pH (nth b.aH i).Name with
  | false=>rfl
  | true =>
   cases (b.aH.take i).any (wI (nth b.aH i)) with
   | true=>rfl
   | false=>cases cw (nth b.aH i).pI 1 30 <;> rfl
theorem atN{b:au}(h:Small b):HA b=some (if qk b≠0 then qk b else re b):=by
 unfold HA qk
 rw [oD,Option.bind_some]
 cases cw (b.aQ.length:Int) 1 3 with
 | false=>rfl
 | true =>
  have hp:=h.places
  simp only [Bool.not_true,dn,Bool.true_eq_false,if_false]
  rw [TU (λ i=>if (λ x=>!sS x) (nth b.aQ i) then some (1:Int) else none) b.aQ.length (λ i hi=>?_) (by simp only [mL,dn])]
  ·rw [YB (λ x=>!sS x) (1:Int) b.aQ b.aQ.length (Nat.le_refl _),List.take_length]
   cases b.aQ.any λ x=>!sS x with
   | true=>rfl
   | false =>
    simp only [Bool.false_eq_true,if_false,Option.bind_some,Sum.elim_inl,ne_eq,not_true_eq_false]
    unfold re
    rw [oD,Option.bind_some]
    cases cw (b.aH.length:Int) 1 4 with
    | false=>rfl
    | true =>
     have hm:=h.wi
     simp only [Bool.not_true,dn,Bool.true_eq_false,if_false]
     refine vf (uJ b) b.aH.length (λ i hi=>?_) (by simp only [mL,dn]) rfl
     have hn:=h.each _ (pr hi)
     simp only [dec_lt hi,fc,j4,fh hi,Option.bind_some,auj (show (nth b.aH i).Name.size≤1000 by omega)]
     rw [TU (λ k=>if wI (nth b.aH i) (nth b.aH k) then some (5:Int) else none) i (λ k hk=>?_) (by simp only [mL,dn])]
     ·rw [YB (wI (nth b.aH i)) (5:Int) b.aH i (by omega)]
      simp only [oD,Option.bind_some,mb (i:=i) (by omega)]
      unfold uJ
      cases pH (nth b.aH i).Name with
      | false=>rfl
      | true =>
       cases (b.aH.take i).any (wI (nth b.aH i)) with
       | true=>rfl
       | false=>cases cw (nth b.aH i).pI 1 30 <;> rfl
     ·simp only [dec_lt hk,fc,j4,fh (show k < b.aH.length by omega),Option.bind_some,mb (i:=k) (by omega)]
      rw [show ((nth b.aH k).Name.toList == (nth b.aH i).Name.toList)=wI (nth b.aH i) (nth b.aH k) from rfl]
      cases wI (nth b.aH i) (nth b.aH k) <;> rfl
  ·simp only [dec_lt hi,fc,j4,fh hi,Option.bind_some,auh,mb (i:=i) (by omega)]
   unfold sS
   by_cases hr:uO (nth b.aQ i) 1 30=true
   ·have hw:decide (i64 ((nth b.aQ i).dm - (nth b.aQ i).cH) ≥ 3)=!yW (nth b.aQ i) 3:=by
     rw [ayA (by omega) (by omega) hr]
     unfold yW
     by_cases hx:(nth b.aQ i).dm - (nth b.aQ i).cH < 3
     ·simp [hx]
     ·simp [hx]; omega
    rw [hw]
    by_cases hx:yW (nth b.aQ i) 3=true
    ·simp [hr,hx,dn]
    ·simp [hr,hx,dn,fc]
   ·simp [hr,fc]
theorem auI{b:au}(h:Small b):AV b=some (tI b):=by
 unfold AV tI
 rw [tt,Option.bind_some]
 cases cw (b.aN.length:Int) 1 4 with
 | false=>rfl
 | true =>
  have hp:=h.places
  have hd:=h.UX
  simp only [Bool.not_true,dn,Bool.true_eq_false,if_false]
  refine vf (rU b) b.aN.length (λ i hi=>?_) (by simp only [mL,dn]) rfl
  simp only [dec_lt hi,fc,j4,fh hi,Option.bind_some,Vn (show b.aQ.length≤1000 by omega),tt,mb (i:=i) (by omega)]
  unfold rU qY
  cases cw (nth b.aN i).Place 0 ((b.aQ.length:Int) - 1) with
  | false=>rfl
  | true=>cases cw (nth b.aN i).iI 0 200 <;> cases cw (nth b.aN i).jf 1 60 <;> cases cw (nth b.aN i).aH 1 3 <;> rfl
theorem auK{b:au}(h:Small b):AX b=some (yT b):=by
 unfold AX yT
 have e:decide ((b.aY.length:Int) > 3)=decide (3 < b.aY.length):=xo (m:=3)
 rw [e]
 by_cases h3:3 < b.aY.length
 ·simp [h3]
 have hp:=h.places
 simp only [h3,decide_false,dn,if_false]
 refine vf (wJ b) b.aY.length (λ i hi=>?_) (by simp only [mL,dn]) rfl
 simp only [dec_lt hi,fc,j4,fh hi,Option.bind_some,Vn (show b.aQ.length≤1000 by omega),tt,mb (i:=i) (by omega)]
 unfold wJ qY
 cases cw (nth b.aY i).Place 0 ((b.aQ.length:Int) - 1) with
 | false=>rfl
 | true=>cases cw (nth b.aY i).lu 0 30 <;> rfl
theorem aaA{z:Int}{a c:Option Int}:ag (z != 0) a c=if z≠0 then a else c:=by
 by_cases h:z=0
 ·subst h; rfl
 ·rw [if_pos h,IU h]; rfl
theorem U0{b:au}(h:Small b):nR b=some (lS b):=by
 unfold nR lS
 rw [show (⟨b.Rest,b.Rows,b.aQ,b.aH,b.aN,b.aY⟩:au)=b from rfl]
 unfold Dq
 rw [tt,Option.bind_some]
 cases cw b.Rest 0 60 with
 | false=>rfl
 | true =>
  simp only [Bool.not_true,dn,Option.bind_some,auC h,auE h,auG h,auI h,auK h,aaA,Bool.true_eq_false,if_false]
  by_cases h1:rj b=0
  ·by_cases h2:qk b=0
   ·by_cases h3:re b=0
    ·by_cases h4:tI b=0
     ·by_cases h5:yT b=0
      ·simp [h1,h2,h3,h4,h5]
      ·simp [h1,h2,h3,h4,h5]
     ·simp [h1,h2,h3,h4]
    ·simp [h1,h2,h3]
   ·simp [h1,h2]
  ·simp [h1]
theorem aaa{b:au}{n:Int}(h:Small b):C4 b n=some (qY b n):=by
 unfold C4 qY
 have hp:=h.places
 rw [oD,pG (by omega) (by omega)]
 rfl
theorem aar{b:au}(h:Small b):wc b=some (lS b):=by
 unfold wc lS
 rw [atL h,Option.bind_some]
 cases cw b.Rest 0 60 with
 | false=>rfl
 | true =>
  have hp:=h.places
  have hd:=h.UX
  have hs:=h.aw9
  simp only [Bool.true_eq_false,if_false,atN h,Option.bind_some,aaA]
  by_cases h1:rj b=0
  ·by_cases h2:qk b=0
   ·by_cases h3:re b=0
    ·simp only [h1,h2,h3,ne_eq,not_true_eq_false,if_false]
     unfold tI
     rw [oD,Option.bind_some]
     cases cw (b.aN.length:Int) 1 4 with
     | false=>rfl
     | true =>
      simp only [Bool.not_true,dn,Bool.true_eq_false,if_false]
      rw [TU (rU b) b.aN.length (λ i hi=>?_) (by simp only [mL,dn])]
      ·cases hf:eH (rU b) 0 b.aN.length with
       | some o =>
        simp only [Option.bind_some,Sum.elim_inr,Option.getD_some]
        rw [if_pos]
        rintro rfl
        obtain ⟨j,_,_,he,_⟩:=xV hf
        unfold rU at he
        split at he
        ·cases he
        ·split at he <;> cases he
       | none =>
        simp only [Option.bind_some,Sum.elim_inl,Option.getD_none,not_true_eq_false,if_false]
        unfold yT
        have e:decide ((b.aY.length:Int) > 3)=decide (3 < b.aY.length):=xo (m:=3)
        rw [e]
        by_cases h3:3 < b.aY.length
        ·simp [h3]
        simp only [h3,decide_false,dn,if_false]
        refine vf (wJ b) b.aY.length (λ i hi=>?_) (by simp only [mL,dn]) rfl
        simp only [dec_lt hi,fc,j4,fh hi,Option.bind_some,aaa h,oD,mb (i:=i) (by omega)]
        unfold wJ
        cases qY b (nth b.aY i).Place with
        | false=>rfl
        | true=>cases cw (nth b.aY i).lu 0 30 <;> rfl
      ·simp only [dec_lt hi,fc,j4,fh hi,Option.bind_some,aaa h,oD,mb (i:=i) (by omega)]
       unfold rU
       cases qY b (nth b.aN i).Place with
       | false=>rfl
       | true=>cases cw (nth b.aN i).iI 0 200 <;> cases cw (nth b.aN i).jf 1 60 <;> cases cw (nth b.aN i).aH 1 3 <;> rfl
    ·simp [h1,h2,h3]
   ·simp [h1,h2]
  ·simp [h1]
theorem azT(b:au):EA b=some (!BX b && (lS b == 0)):=by
 unfold EA
 rw [aur,Option.bind_some]
 cases hg:BX b with
 | true=>rfl
 | false=>rw [Bool.not_false,fc,aar (adk hg)]; rfl
end Go.Proofs.YtihapemckcdicaaGreatDoor
namespace Go.Proofs.YtihapemckcdicaaGreatDoor
open Go.Lg Go.Proofs
set_option maxRecDepth 10000
structure ae3 (r:fl):Prop where
 depth:1≤r.eI∧r.eI≤30
 stay:1≤r.eU∧r.eU≤60
structure adN (P:Nat) (d:lW):Prop where
 place:0≤d.Place∧d.Place < (P:Int)
 U3:0≤d.iI∧d.iI≤200
 U1:1≤d.jf∧d.jf≤60
 wi:1≤d.aH∧d.aH≤3
structure V6 (P:Nat) (s:c9):Prop where
 place:0≤s.Place∧s.Place < (P:Int)
 line:0≤s.lu∧s.lu≤30
structure Valid (b:au):Prop where
 rest:0≤b.Rest∧b.Rest≤60
 r1:1≤b.Rows.length
 r4:b.Rows.length≤4
 row:∀ r∈b.Rows,ae3 r
 adf:∀ i,0 < i→i < b.Rows.length→(nth b.Rows (i - 1)).eI < (nth b.Rows i).eI∧(nth b.Rows i).eU≤(nth b.Rows (i - 1)).eU
 p1:1≤b.aQ.length
 p3:b.aQ.length≤3
 place:∀ x∈b.aQ,1≤x.cH∧x.cH≤x.dm∧x.dm≤30∧x.dm - x.cH < 3
 m1:1≤b.aH.length
 m4:b.aH.length≤4
 Vp:∀ m∈b.aH,pH m.Name=true∧1≤m.pI∧m.pI≤30
 names:∀ i,i < b.aH.length→(b.aH.take i).any (wI (nth b.aH i))=false
 d1:1≤b.aN.length
 d4:b.aN.length≤4
 XH:∀ d∈b.aN,adN b.aQ.length d
 s3:b.aY.length≤3
 sound:∀ s∈b.aY,V6 b.aQ.length s
theorem awM{b:au}(i:Nat):wF b i≠some 0:=by
 unfold wF
 intro h
 repeat' split at h
 all_goals cases h
theorem au9{b:au}(i:Nat):uJ b i≠some 0:=by
 unfold uJ
 intro h
 repeat' split at h
 all_goals cases h
theorem agB{b:au}(i:Nat):rU b i≠some 0:=by
 unfold rU
 intro h
 repeat' split at h
 all_goals cases h
theorem aw8{b:au}(i:Nat):wJ b i≠some 0:=by
 unfold wJ
 intro h
 repeat' split at h
 all_goals cases h
theorem TT{b:au}{i:Nat}:wF b i=none↔((1≤(nth b.Rows i).eI∧(nth b.Rows i).eI≤30)∧(1≤(nth b.Rows i).eU∧(nth b.Rows i).eU≤60))∧(0 < i→(nth b.Rows (i - 1)).eI < (nth b.Rows i).eI∧(nth b.Rows i).eU≤(nth b.Rows (i - 1)).eU):=by
 unfold wF
 by_cases h1:(cw (nth b.Rows i).eI 1 30 && cw (nth b.Rows i).eU 1 60)=false
 ·rw [if_pos h1]
  simp only [reduceCtorEq,false_iff]
  rintro ⟨⟨h2,h3⟩,_⟩
  rw [jd.2 h2,jd.2 h3] at h1
  cases h1
 ·rw [if_neg h1]
  simp only [Bool.not_eq_false,Bool.and_eq_true,jd] at h1
  by_cases h0:0 < i
  ·rw [if_pos h0]
   constructor
   ·intro h
    split at h
    ·cases h
    ·split at h
     ·cases h
     ·exact ⟨h1,λ _=>by omega⟩
   ·rintro ⟨_,h2⟩
    have:=h2 h0
    rw [if_neg (by omega),if_neg (by omega)]
  ·rw [if_neg h0]
   exact ⟨λ _=>⟨h1,λ h=>absurd h h0⟩,λ _=>rfl⟩
theorem aaI{x:Reach}:sS x=true↔1≤x.cH∧x.cH≤x.dm∧x.dm≤30∧x.dm - x.cH < 3:=by
 unfold sS
 rw [Bool.and_eq_true,awg,ayB]
 omega
theorem IG{b:au}:lS b=0↔Valid b:=by
 constructor
 ·intro h
  unfold lS at h
  by_cases h1:cw b.Rest 0 60=false
  ·rw [if_pos h1] at h; cases h
  rw [if_neg h1] at h
  by_cases h2:rj b=0
  case neg=>rw [if_pos h2] at h; exact absurd h h2
  rw [if_neg (by simpa using h2)] at h
  by_cases h3:qk b=0
  case neg=>rw [if_pos h3] at h; exact absurd h h3
  rw [if_neg (by simpa using h3)] at h
  by_cases h4:re b=0
  case neg=>rw [if_pos h4] at h; exact absurd h h4
  rw [if_neg (by simpa using h4)] at h
  by_cases h5:tI b=0
  case neg=>rw [if_pos h5] at h; exact absurd h h5
  rw [if_neg (by simpa using h5)] at h
  unfold rj at h2
  unfold qk at h3
  unfold re at h4
  unfold tI at h5
  unfold yT at h
  split at h2
  ·cases h2
  rename_i g2
  split at h3
  ·cases h3
  rename_i g3
  split at h3
  ·cases h3
  rename_i k3
  split at h4
  ·cases h4
  rename_i g4
  split at h5
  ·cases h5
  rename_i g5
  split at h
  ·cases h
  rename_i g6
  simp only [Bool.not_eq_false,jd] at h1 g2 g3 g4 g5
  have r:=J5 awM h2
  have m:=J5 au9 h4
  have d:=J5 agB h5
  have s:=J5 aw8 h
  refine ⟨h1,by omega,by omega,λ x hx=>?_,λ i h0 hi=>(TT.1 (r i hi)).2 h0,by omega,by omega,λ x hx=>?_,by omega,by omega,λ x hx=>?_,λ i hi=>?_,by omega,by omega,λ x hx=>?_,by omega,λ x hx=>?_⟩
  ·obtain ⟨i,hi,rfl⟩:=yE hx
   obtain ⟨⟨q1,q2⟩,_⟩:=TT.1 (r i hi)
   exact ⟨q1,q2⟩
  ·have:b.aQ.any (λ x=>!sS x)=false:=by simpa using k3
   rw [List.any_eq_false] at this
   have:=this x hx
   exact aaI.1 (by simpa using this)
  ·obtain ⟨i,hi,rfl⟩:=yE hx
   have:=m i hi
   unfold uJ at this
   split at this
   ·cases this
   ·split at this
    ·cases this
    ·split at this
     ·cases this
     ·rename_i q1 q2 q3
      rw [Bool.not_eq_false,jd] at q3
      exact ⟨by simpa using q1,q3⟩
  ·have:=m i hi
   unfold uJ at this
   split at this
   ·cases this
   ·split at this
    ·cases this
    ·rename_i q1 q2
     simpa using q2
  ·obtain ⟨i,hi,rfl⟩:=yE hx
   have:=d i hi
   unfold rU qY at this
   split at this
   ·cases this
   ·split at this
    ·cases this
    ·rename_i q1 q2
     rw [Bool.not_eq_false,jd] at q1
     rw [Bool.not_eq_false,Bool.and_eq_true,Bool.and_eq_true,jd,jd,jd] at q2
     exact ⟨by omega,q2.1,q2.2.1,q2.2.2⟩
  ·obtain ⟨i,hi,rfl⟩:=yE hx
   have:=s i hi
   unfold wJ qY at this
   split at this
   ·cases this
   ·split at this
    ·cases this
    ·rename_i q1 q2
     rw [Bool.not_eq_false,jd] at q1 q2
     exact ⟨by omega,q2⟩
 ·intro h
  have e1:rj b=0:=by
   unfold rj
   have hr1:=h.r1
   have hr4:=h.r4
   rw [if_neg (by rw [Bool.not_eq_false,jd]; omega),qO.2 λ i _ hi=>?_]
   ·rfl
   ·have hx:=h.row _ (pr (l:=b.Rows) (i:=i) (by omega))
    exact TT.2 ⟨⟨hx.depth,hx.stay⟩,λ h0=>h.adf i h0 (by omega)⟩
  have e2:qk b=0:=by
   unfold qk
   have h1:=h.p1
   have h3:=h.p3
   rw [if_neg (by rw [Bool.not_eq_false,jd]; omega),if_neg]
   rw [Bool.not_eq_true,List.any_eq_false]
   intro x hx
   simpa using aaI.2 (h.place x hx)
  have e3:re b=0:=by
   unfold re
   have h1:=h.m1
   have h4:=h.m4
   rw [if_neg (by rw [Bool.not_eq_false,jd]; omega),qO.2 λ i _ hi=>?_]
   ·rfl
   ·have hx:=h.Vp _ (pr (l:=b.aH) (i:=i) (by omega))
    unfold uJ
    rw [if_neg (by simp [hx.1]),if_neg (by rw [h.names i (by omega)]; simp),if_neg (by rw [Bool.not_eq_false,jd]; exact hx.2)]
  have e4:tI b=0:=by
   unfold tI
   have h1:=h.d1
   have h4:=h.d4
   rw [if_neg (by rw [Bool.not_eq_false,jd]; omega),qO.2 λ i _ hi=>?_]
   ·rfl
   ·have hx:=h.XH _ (pr (l:=b.aN) (i:=i) (by omega))
    have hp:=hx.place
    unfold rU qY
    rw [if_neg (by rw [Bool.not_eq_false,jd]; omega),if_neg]
    rw [Bool.not_eq_false,Bool.and_eq_true,Bool.and_eq_true,jd,jd,jd]
    exact ⟨hx.U3,hx.U1,hx.wi⟩
  have e5:yT b=0:=by
   unfold yT
   have h3:=h.s3
   rw [if_neg (by omega),qO.2 λ i _ hi=>?_]
   ·rfl
   ·have hx:=h.sound _ (pr (l:=b.aY) (i:=i) (by omega))
    have hp:=hx.place
    unfold wJ qY
    rw [if_neg (by rw [Bool.not_eq_false,jd]; omega),if_neg (by rw [Bool.not_eq_false,jd]; exact hx.line)]
  unfold lS
  rw [if_neg (by rw [Bool.not_eq_false,jd]; exact h.rest)]
  simp [e1,e2,e3,e4,e5]
theorem Valid.small{b:au}(h:Valid b)(hn:∀ p∈b.aH,p.Name.size≤100):Small b:=by
 have h1:=h.r4
 have h2:=h.p3
 have h3:=h.m4
 have h4:=h.d4
 have h5:=h.s3
 exact ⟨by omega,by omega,by omega,by omega,by omega,hn⟩
theorem azP{s:ByteArray}(h:pH s=true):s.size≤12:=by
 unfold pH at h
 cases hf:eH (np s) 0 s.size with
 | some o =>
  rw [hf,Option.getD_some] at h
  rw [adE hf] at h
  cases h
 | none =>
  rw [hf,Option.getD_none,jd] at h
  omega
theorem Valid.sm{b:au}(h:Valid b):Small b:=h.small λ p hp=>by have:=azP (h.Vp p hp).1; omega
theorem Valid.each{b:au}(h:Valid b){i:Nat}(hi:i < b.aQ.length):1≤(nth b.aQ i).cH∧(nth b.aQ i).cH≤(nth b.aQ i).dm∧(nth b.aQ i).dm≤30∧(nth b.aQ i).dm - (nth b.aQ i).cH < 3:=h.place _ (pr hi)
theorem ZE{α:Type}[Inhabited α]{l:List α}{n:Int}(h0:0≤n)(h:n < (l.length:Int)):idx l n=some (nth l n.toNat):=by
 unfold idx
 rw [if_pos h0]
 exact fh (by omega)
def yK(b:au)(w:List Int):Bool:=b.aY.all λ s=>decide (nth w s.Place.toNat≤s.lu) == s.rL
abbrev BS(b:au):Nat→List Int→List Int:=λ i _=>EC (nth b.aQ i)
def ib(b:au):List (List Int):=(lvl (BS b) b.aQ.length).filter (yK b)
def ti(c:List Int):br:=⟨qz [0,0,0] c⟩
theorem XA{c:List Int}(h:c.length≤3):(qz [0,0,0] c).length=3∧(∀ i,i < c.length→nth (qz [0,0,0] c) i=nth c i)∧∀ i,c.length≤i→i < 3→nth (qz [0,0,0] c) i=0:=by
 match c,h with
 | [],_=>exact ⟨rfl,λ i hi=>by simp at hi,λ i _ hi=>by match i,hi with | 0,_=>rfl | 1,_=>rfl | 2,_=>rfl⟩
 | [_],_=>exact ⟨rfl,λ i hi=>by match i,hi with | 0,_=>rfl,λ i h1 hi=>by match i,h1,hi with | 1,_,_=>rfl | 2,_,_=>rfl⟩
 | [_,_],_=>exact ⟨rfl,λ i hi=>by match i,hi with | 0,_=>rfl | 1,_=>rfl,λ i h1 hi=>by match i,h1,hi with | 2,_,_=>rfl⟩
 | [_,_,_],_=>exact ⟨rfl,λ i hi=>by match i,hi with | 0,_=>rfl | 1,_=>rfl | 2,_=>rfl,λ i h1 hi=>by simp at h1; omega⟩
structure pJ (P:Nat) (pre w:List Int):Prop where
 len:w.length=3
 pre:∀ i,i < pre.length→nth w i=nth pre i
 rest:∀ i,P≤i→i < 3→nth w i=0
theorem pJ.ti{P:Nat}{pre w:List Int}(h:pJ P pre w)(hp:pre.length=P)(h3:P≤3):w=qz [0,0,0] pre:=by
 obtain ⟨h1,h2,h4⟩:=XA (c:=pre) (by omega)
 refine adH (by rw [h.len,h1]) λ i hi=>?_
 by_cases hl:i < pre.length
 ·rw [h.pre i hl,h2 i hl]
 ·rw [h.rest i (by omega) (by rw [← h.len]; exact hi),h4 i (by omega) (by rw [← h.len]; exact hi)]
theorem pJ.set{P:Nat}{pre w:List Int}(h:pJ P pre w)(hp:pre.length < P)(h3:P≤3)(n:Int):pJ P (pre++[n]) (w.set pre.length n):=by
 have hl:=h.len
 refine ⟨by simpa using hl,λ i hi=>?_,λ i h1 h2=>?_⟩
 ·by_cases e:i=pre.length
  ·subst e
   rw [avq (by omega),aaE]
  ·rw [aaF (by omega)]
   simp only [List.length_append,List.length_cons,List.length_nil] at hi
   rw [Ts (by omega)]
   exact h.pre i (by omega)
 ·rw [aaF (by omega)]
  exact h.rest i h1 h2
theorem pJ.back{P:Nat}{pre w:List Int}{n:Int}(h:pJ P (pre++[n]) w):pJ P pre w:=⟨h.len,λ i hi=>by rw [h.pre i (by simp; omega),Ts hi],h.rest⟩
theorem at4{b:au}(hv:Valid b){c:List Int}{w:br}(hw:∀ i,i < b.aQ.length→nth w.deep i=nth c i)(hl:w.deep.length=3):yy b w=some (yK b c):=by
 unfold yy
 have h3:=hv.s3
 have hp:=hv.p3
 rw [aum (p:=λ s=>!(decide (nth c s.Place.toNat≤s.lu) == s.rL)) (by omega) (λ s hs=>?_),Option.bind_some]
 ·unfold yK
  congr 1
  rw [List.not_any_eq_all_not]
  congr 1
  funext s
  simp
 ·have:=(hv.sound s hs).place
  unfold AQ
  rw [ZE this.1 (by omega),Option.bind_some,hw _ (by omega)]
theorem Z5{α S X O:Type}{ys:α→S→Option (S × Bool)}{body:S × X→Option ((S × X) ⊕ O)}(TV:Nat→List α)(n:Nat)(I:Nat→X→Prop)(F Q:S→O→Prop)
  (h:∀ j s x r,j < n→I j x→nC ys (TV j) s=some r→if r.2=true then ∃ x',body (s,x)=some (.inl (r.1,x'))∧I (j+1) x' else ∃ o,body (s,x)=some (.inr o)∧Q r.1 o) (hn:∀ s x,I n x→∃ o,body (s,x)=some (.inr o)∧F s o) :
  ∀ (k j:Nat) (s:S) (x:X) (r:S × Bool),j+k=n→I j x→nC ys ((List.range' j k).flatMap TV) s=some r→∃ o,bN body (s,x)=some o∧if r.2=true then F r.1 o else Q r.1 o
 | 0,j,s,x,r,hj,hI,hr=>by
  simp only [List.range'_zero,List.flatMap_nil,nC,Option.some.injEq] at hr
  subst hr
  obtain rfl:j=n:=by omega
  obtain ⟨o,h1,h2⟩:=hn s x hI
  exact ⟨o,yq h1,by simpa using h2⟩
 | k+1,j,s,x,r,hj,hI,hr=>by
  rw [List.range'_succ,List.flatMap_cons,YC] at hr
  obtain ⟨q,hq,hr⟩:=aj hr
  have hb:=h j s x q (by omega) hI hq
  split at hr
  ·rename_i h2
   rw [if_pos h2] at hb
   obtain ⟨x',h3,h4⟩:=hb
   rw [Hl h3]
   exact Z5 TV n I F Q h hn k (j+1) q.1 x' r (by omega) h4 hr
  ·rename_i h2
   rw [if_neg h2] at hb
   obtain ⟨o,h3,h4⟩:=hb
   cases hr
   exact ⟨o,yq h3,by simpa using h4⟩
theorem aai{b:au}(hv:Valid b){S:Type}(ys:br→S→Option (S × Bool)):∀ (j k:Nat) (pre:List Int) (w:br) (s:S) (r:S × Bool),pre.length+j=b.aQ.length→j < k→pJ b.aQ.length pre w.deep →
  nC ys (((tree (BS b) j pre.length pre).filter (yK b)).map ti) s=some r→∃ w',qe ys k (pre.length:Int) b w s=some (r.1,(w',r.2))∧pJ b.aQ.length pre w'.deep
 | _,0,_,_,_,_,_,hk,_,_=>by omega
 | 0,k+1,pre,w,s,r,hl,_,hw,hr=>by
  rw [Nat.add_zero] at hl
  have h3:=hv.p3
  unfold qe
  rw [show ((pre.length:Int) == (b.aQ.length:Int))=true by rw [hl]; simp,fc,at4 (c:=pre) hv (λ i hi=>hw.pre i (by omega)) hw.len,Option.bind_some]
  simp only [tree] at hr
  have ew:w=ti pre:=by
   obtain ⟨d⟩:=w
   exact congrArg br.mk (hw.ti hl h3)
  refine ⟨w,?_,hw⟩
  cases hs:yK b pre with
  | true =>
   simp only [List.filter_cons,hs,if_true,List.filter_nil,List.map_cons,List.map_nil,nC] at hr
   obtain ⟨q,hq,hr⟩:=aj hr
   rw [← ew] at hq
   simp only [Bool.not_true,dn,hq,Option.bind_some]
   split at hr
   ·rename_i h2; cases hr; rw [h2]
   ·rename_i h2; cases hr; simp at h2; rw [h2]
  | false =>
   simp [hs,nC] at hr
   subst hr
   rfl
 | j+1,k+1,pre,w,s,r,hl,hk,hw,hr=>by
  have h3:=hv.p3
  have hx:=hv.each (i:=pre.length) (by omega)
  unfold qe
  rw [show ((pre.length:Int) == (b.aQ.length:Int))=false by simp; omega,dn,j4,fh (by omega),Option.bind_some]
  generalize hX:nth b.aQ pre.length=X at hx
  refine Exists.elim (Z5 (ys:=ys) (S:=S) (X:=Int × List Int) (O:=(S × List Int) ⊕ (S × (br × Bool))) (body:=λ (bR:(S × Int × (List Int))) =>
   (some X:Option Reach).bind λ eN =>
   ag (decide (bR.2.1≤eN.dm))
   ((idx bR.2.2 (pre.length:Int)).bind λ oS =>
   (qe ys k (i64 ((pre.length:Int)+1)) b (⟨bR.2.2.set (pre.length:Int).toNat bR.2.1⟩:br) bR.1).bind λ gI =>
   ag (!gI.2.2)
   (some (.inr (.inr (gI.1,(gI.2.1,false)))))
   (some (.inl (gI.1,i64 (bR.2.1+1),gI.2.1.deep))))
   (some (.inr (.inl (bR.1,bR.2.2)))))
   (λ q=>((tree (BS b) j (pre.length+1) (pre++[X.cH+(q:Int)])).filter (yK b)).map ti) (X.dm+1 - X.cH).toNat (λ q x=>x.1=X.cH+(q:Int)∧pJ b.aQ.length pre x.2)
   (λ s o=>∃ d,o = .inl (s,d)∧pJ b.aQ.length pre d) (λ s o=>∃ w',o = .inr (s,(w',false))∧pJ b.aQ.length pre w'.deep)
   (λ q s x r hq hI hr=>?_) (λ s x hI=>?_) (X.dm+1 - X.cH).toNat 0 s (X.cH,w.deep) r (by omega) ⟨by simp,hw⟩ ?_) ?_
  ·obtain ⟨n,d⟩:=x
   obtain ⟨rfl,hd⟩:=hI
   have hs:=hd.set (n:=X.cH+(q:Int)) (by omega) h3
   obtain ⟨w',h1,h2⟩:=aai hv ys j k (pre++[X.cH+(q:Int)]) ⟨d.set pre.length (X.cH+(q:Int))⟩ s r (by simp; omega) (by omega) hs (by simpa using hr)
   have hl3:d.length=3:=hd.len
   simp only [List.length_append,List.length_cons,List.length_nil,Nat.zero_add] at h1
   simp only [Option.bind_some,show decide (X.cH+(q:Int)≤X.dm)=true by simp; omega,fc,j4,fh (show pre.length < d.length by omega),Int.toNat_natCast,mb (i:=pre.length) (by omega),h1]
   have e1:i64 (X.cH+(q:Int)+1)=X.cH+((q+1:Nat):Int):=by rw [pG (by omega) (by omega)]; omega
   cases hr2:r.2 with
   | true=>exact ⟨(X.cH+((q+1:Nat):Int),w'.deep),by simp [e1,dn],rfl,h2.back⟩
   | false=>exact ⟨.inr (r.1,(w',false)),by simp [fc],w',rfl,h2.back⟩
  ·obtain ⟨n,d⟩:=x
   obtain ⟨rfl,hd⟩:=hI
   refine ⟨.inl (s,d),?_,d,rfl,hd⟩
   simp only [Option.bind_some,show decide (X.cH+(((X.dm+1 - X.cH).toNat:Nat):Int)≤X.dm)=false by simp; omega,dn]
  ·rw [← hr,← List.range_eq_range']
   congr 1
   simp only [tree,BS,hX,EC,List.flatMap_map,List.map_flatMap,List.filter_flatMap]
  ·rintro o ⟨ho,hc⟩
   rw [show (bN (O:=((S × (List Int)) ⊕ (S × (br × Bool)))) (λ (bR:(S × Int × (List Int))) =>
    (some X:Option Reach).bind λ eN =>
    ag (decide (bR.2.1≤eN.dm))
    ((idx bR.2.2 (pre.length:Int)).bind λ oS =>
    (qe ys k (i64 ((pre.length:Int)+1)) b (⟨bR.2.2.set (pre.length:Int).toNat bR.2.1⟩:br) bR.1).bind λ gI =>
    ag (!gI.2.2)
    (some (.inr (.inr (gI.1,(gI.2.1,false)))))
    (some (.inl (gI.1,i64 (bR.2.1+1),gI.2.1.deep))))
    (some (.inr (.inl (bR.1,bR.2.2))))) (s,X.cH,w.deep))=some o from ho,Option.bind_some]
   split at hc
   ·rename_i h2
    obtain ⟨d,rfl,hd⟩:=hc
    exact ⟨⟨d⟩,by simp [h2],hd⟩
   ·rename_i h2
    obtain ⟨w',rfl,hd⟩:=hc
    exact ⟨w',by simp at h2; simp [h2],hd⟩
theorem adG{b:au}(hv:Valid b){S:Type}(ys:br→S→Option (S × Bool)){s:S}{r:S × Bool}(hr:nC ys ((ib b).map ti) s=some r):nq ys b s=some r.1:=by
 have h3:=hv.p3
 unfold nq
 obtain ⟨w',h1,_⟩:=aai hv ys b.aQ.length 9 [] ⟨[0,0,0]⟩ s r (by simp) (by omega) ⟨rfl,λ i hi=>by simp at hi,λ i _ hi=>by match i,hi with | 0,_=>rfl | 1,_=>rfl | 2,_=>rfl⟩ (by rw [← hr]; unfold ib; simp only [List.length_nil]; rw [axK])
 have zk:qe ys 9 0 b ⟨[0,0,0]⟩ s=some (r.1,(w',r.2)):=h1
 rw [zk]
 rfl
end Go.Proofs.YtihapemckcdicaaGreatDoor
namespace Go.Proofs.YtihapemckcdicaaGreatDoor
open Go.Lg Go.Proofs
set_option maxRecDepth 10000
theorem atj{b:au}(hv:Valid b):∀ i,i≤b.aQ.length→(lvl (BS b) i).length≤3 ^ i
 | 0,_=>by simp [lvl]
 | i+1,h=>by
  have ih:=atj hv i (by omega)
  have hx:=az9 (hv.each (i:=i) (by omega)).2.2.2
  simp only [lvl]
  refine Nat.le_trans (adi _ 3 (λ a=>?_) _) ?_
  ·simpa using hx
  ·rw [Nat.pow_succ]; omega
theorem azn{b:au}(hv:Valid b):(lvl (BS b) b.aQ.length).length≤27:=by
 refine Nat.le_trans (atj hv _ (Nat.le_refl _)) ?_
 have h1:=hv.p1
 have h3:=hv.p3
 match b.aQ.length,h1,h3 with
 | 1,_,_=>decide
 | 2,_,_=>decide
 | 3,_,_=>decide
theorem adP{b:au}(hv:Valid b):(ib b).length≤27:=Nat.le_trans (List.length_filter_le _ _) (azn hv)
theorem ay4{b:au}(hv:Valid b):xu (λ y s=>nq y b s)=some ((ib b).map ti):=by
 unfold xu Ev
 have hl:=adP hv
 have key:∀ (l a:List br),l.foldl (λ s c=>s++[c]) a=a++l:=by
  intro l
  induction l with
  | nil=>simp
  | cons c l ih=>intro a; rw [List.foldl_cons,ih]; simp
 dsimp only
 rw [adG hv _ (r:=(.inl ((((ib b).map ti).foldl (λ (s:List br) c=>s++[c]) [])),true)) (adj (λ k s=>s.length=k) (λ c s=>s++[c]) _ 0 [] rfl (λ j s a hj hs _=>by
  simp only [List.length_map] at hj
  rw [U2 (by simp; omega)]
  exact ⟨rfl,by simp [hs]⟩))]
 rw [key]
 rfl
def zl(b:au):Bool:=!(ib b).isEmpty
theorem aLl{b:au}(hv:Valid b):Eu b=some (zl b):=by
 unfold Eu zl
 cases hc:ib b with
 | nil =>
  rw [adG hv _ (r:=(.inl (),true)) (by rw [hc]; rfl)]
  rfl
 | cons c l =>
  rw [adG hv _ (r:=(.inr (),false)) (by rw [hc]; rfl)]
  rfl
def U5(b:au):Int × Int:=if lS b≠0 then (0,lS b) else ((ib b).length,0)
theorem adQ{b:au}(hv:Valid b):U5 b=(((ib b).length:Int),0):=by
 unfold U5
 simp [IG.2 hv]
theorem adZ{b:au}(hs:Small b):oV b=some (U5 b):=by
 unfold oV U5
 rw [U0 hs,Option.bind_some]
 by_cases h1:lS b=0
 ·have hv:=IG.1 h1
  simp only [h1,bne_self_eq_false,dn,ne_eq,not_true_eq_false,if_false]
  rw [show (⟨b.Rest,b.Rows,b.aQ,b.aH,b.aN,b.aY⟩:au)=b from rfl,ay4 hv,Option.bind_some,List.length_map]
 ·simp only [h1,ne_eq,not_false_eq_true,if_true,IU h1,fc]
end Go.Proofs.YtihapemckcdicaaGreatDoor
namespace Go.Proofs.YtihapemckcdicaaGreatDoor
open Go.Lg Go.Proofs
set_option maxRecDepth 10000
theorem aLt{l:List Int}{below:Int}(hl:l.length≤1000)(h0:0≤below)(h1:below≤1000):M7 l below=some (UW l below):=by
 unfold M7
 refine vf (UU l below) l.length (λ i hi=>?_) (by simp only [mL,dn]) rfl
 simp only [dec_lt hi,fc,j4,fh hi,Option.bind_some,oD,pG (z:=below - 1) (by omega) (by omega),mb (i:=i) (by omega)]
 unfold UU
 cases cw (nth l i) 0 (below - 1) with
 | false=>rfl
 | true =>
  by_cases hp:0 < i
  ·simp only [U7 hp,Bool.not_true,dn,fc,Vm (i:=i) (by omega) hp,j4,fh (show i - 1 < l.length by omega),Option.bind_some,hp,if_true,Bool.true_eq_false,if_false]
   by_cases hc:nth l i≤nth l (i - 1) <;> simp [hc]
  ·simp [hp]
def pF(n a:Nat):Bool:=U4 a == some (eX n a) && decide ((eX n a).length≤4) &&
  ((List.range (eX n a).length).all λ i=>match c57 (eX n a) i with | some l=>(List.range (2 ^ n)).any λ c=>l == eX n c && qA l (eX n a) | none=>false)
def okN(n a c:Nat):Bool:=c58 (eX n a) (eX n c) == some (qA (eX n a) (eX n c)) && (match US (eX n a) (eX n c) with | some z=>decide (z < 0) == qZ (eX n a) (eX n c) | none=>false)
set_option maxRecDepth 1000000 in
theorem avf:((List.range 5).all λ n=>IF .i64 1 n == some ((2 ^ n:Nat):Int) && (List.range (2 ^ n)).all λ a=>pF n a && (List.range (2 ^ n)).all λ c=>okN n a c)=true:=by decide +kernel
set_option maxRecDepth 1000000 in
theorem aJY:((List.range 256).all λ x=>(List.range 5).all λ i=>((lR .u8 x i).bind λ y=>fN .and .u8 y 1) == some (if x.testBit i then 1 else 0))=true:=by decide +kernel
theorem aLK{n:Nat}(h:n < 5):IF .i64 1 (n:Int)=some ((2 ^ n:Nat):Int):=by
 have:=avf
 simp only [List.all_eq_true,List.mem_range,Bool.and_eq_true,beq_iff_eq] at this
 exact (this n h).1
theorem aF1{n a:Nat}(h:n < 5)(ha:a < 2 ^ n):xr a=some (eX n a):=by
 have:=avf
 simp only [List.all_eq_true,List.mem_range,Bool.and_eq_true,beq_iff_eq] at this
 have h1:=((this n h).2 a ha).1
 simp only [pF,Bool.and_eq_true,beq_iff_eq] at h1
 exact adW _ _ h1.1.1
theorem ay5{n a:Nat}(h:n < 5)(ha:a < 2 ^ n):(eX n a).length≤4:=by
 have:=avf
 simp only [List.all_eq_true,List.mem_range,Bool.and_eq_true,beq_iff_eq] at this
 have h1:=((this n h).2 a ha).1
 simp only [pF,Bool.and_eq_true,beq_iff_eq,decide_eq_true_eq] at h1
 exact h1.1.2
theorem aLF{n a i:Nat}(h:n < 5)(ha:a < 2 ^ n)(hi:i < (eX n a).length):∃ c,c < 2 ^ n∧B2 (eX n a) i=some (eX n c)∧qA (eX n c) (eX n a)=true:=by
 have:=avf
 simp only [List.all_eq_true,List.mem_range,Bool.and_eq_true,beq_iff_eq] at this
 have h1:=((this n h).2 a ha).1
 simp only [pF,Bool.and_eq_true,beq_iff_eq,decide_eq_true_eq,List.all_eq_true,List.mem_range] at h1
 have h8:=h1.2 i hi
 cases hc:c57 (eX n a) i with
 | none=>rw [hc] at h8; cases h8
 | some l =>
  rw [hc] at h8
  simp only [List.any_eq_true,List.mem_range,Bool.and_eq_true,beq_iff_eq] at h8
  obtain ⟨c,cp,eO,eL⟩:=h8
  subst eO
  exact ⟨c,cp,azQ _ _ _ hc,eL⟩
theorem aF4{n a c:Nat}(h:n < 5)(ha:a < 2 ^ n)(hc:c < 2 ^ n):B3 (eX n a) (eX n c)=some (qA (eX n a) (eX n c))∧∃ z,B1 (eX n a) (eX n c)=some z∧decide (z < 0)=qZ (eX n a) (eX n c):=by
 have:=avf
 simp only [List.all_eq_true,List.mem_range,Bool.and_eq_true,beq_iff_eq] at this
 have h1:=((this n h).2 a ha).2 c hc
 simp only [okN,Bool.and_eq_true,beq_iff_eq] at h1
 refine ⟨azR _ _ _ h1.1,?_⟩
 have h8:=h1.2
 cases hz:US (eX n a) (eX n c) with
 | none=>rw [hz] at h8; cases h8
 | some z=>rw [hz] at h8; exact ⟨z,adX _ _ _ hz,by simpa using h8⟩
theorem aJX{x:Int}{i:Nat}(h0:0≤x)(h:x < 256)(hi:i < 5):(lR .u8 x i).bind (λ y=>fN .and .u8 y 1)=some (if x.toNat.testBit i then 1 else 0):=by
 have:=aJY
 simp only [List.all_eq_true,List.mem_range,beq_iff_eq] at this
 have h1:=this x.toNat (by omega) i hi
 rwa [Int.toNat_of_nonneg h0] at h1
theorem aLL{n:Nat}{P:Nat→Bool}:∀ {k:Nat},(j3 n P k).2=true→∃ c,c < k∧(j3 n P k).1=eX n c:=by
 intro k h
 rcases Nk n P k with ⟨h1,_⟩ | ⟨_,⟨a,ha,_,he⟩,_⟩
 ·rw [h1] at h; cases h
 ·exact ⟨a,ha,he⟩
theorem aLj{n:Nat}(hn:n < 5){f:Int→Option Bool}{P:Nat→Bool}(hf:∀ a:Nat,a < 2 ^ n→f (a:Int)=some (P a)):zb (n:Int) f=some (j3 n P (2 ^ n)):=by
 have hp:=az5 hn
 unfold zb
 rw [aLK hn,Option.bind_some]
 rw [S3 (o:=j3 n P (2 ^ n)) ?_]
 have e0:(([]:List Int),false,(0:Int))=(λ i:Nat=>((j3 n P i).1,(j3 n P i).2,(i:Int))) 0:=rfl
 rw [e0]
 refine S4 (λ i:Nat=>((j3 n P i).1,(j3 n P i).2,(i:Int))) (2 ^ n) (λ i hi=>?_) (by simp only [mL,dn])
 simp only [dec_lt hi,fc,aF1 hn hi,Option.bind_some,hf i hi,mb (i:=i) (by omega),j3,ED]
 cases hs:(j3 n P i).2 with
 | false=>cases P i <;> simp [fc,dn,hs]
 | true =>
  obtain ⟨c,hc,ec⟩:=aLL hs
  obtain ⟨z,hz1,hz2⟩:=(aF4 hn hi (by omega:c < 2 ^ n)).2
  simp only [ec,Bool.not_true,dn,hz1,Option.bind_some,hz2,Bool.false_or,qA]
  by_cases h1:(eX n i).length < (eX n c).length
  ·have zk:decide (((eX n i).length:Int) < ((eX n c).length:Int))=true:=dec_lt h1
   simp only [zk,fc,h1,decide_true,Bool.true_or,Bool.true_and,Option.bind_some]
   cases P i <;> simp [fc,dn,hs,ec]
  ·have zk:decide (((eX n i).length:Int) < ((eX n c).length:Int))=false:=by simpa using h1
   simp only [zk,dn,h1,decide_false,Bool.false_or]
   by_cases h2:(eX n i).length=(eX n c).length
   ·rw [h2]
    simp only [beq_self_eq_true,fc,Bool.true_and]
    cases qZ (eX n i) (eX n c) with
    | true =>
     simp only [fc,Bool.true_and,Option.bind_some]
     cases P i <;> simp [fc,dn,hs,ec]
    | false=>simp [dn,hs,ec]
   ·have h2':(((eX n i).length:Int) == ((eX n c).length:Int))=false:=by simpa using (by omega:¬ ((eX n i).length:Int)=((eX n c).length:Int))
    have aJ3:((eX n i).length == (eX n c).length)=false:=by simpa using h2
    simp [h2',aJ3,dn,hs,ec]
def Ey(b:au)(l:List c9):au:=⟨b.Rest,b.Rows,b.aQ,b.aH,b.aN,l⟩
def IV(b:au)(ks:List Int):au:=Ey b (ks.map λ k=>nth b.aY k.toNat)
theorem Valid.Ey{b:au}(h:Valid b){l:List c9}(hl:l.length≤3)(hs:∀ s∈l,V6 b.aQ.length s):Valid (Ey b l) :=
 ⟨h.rest,h.r1,h.r4,h.row,h.adf,h.p1,h.p3,h.place,h.m1,h.m4,h.Vp,h.names,h.d1,h.d4,h.XH,hl,hs⟩
theorem ayR(b:au)(l:List c9):ib (Ey b l)=(lvl (BS b) b.aQ.length).filter λ c=>l.all λ s=>decide (nth c s.Place.toNat≤s.lu) == s.rL:=rfl
theorem aFH{b:au}:zl b=true↔∃ c,c∈ib b:=by
 unfold zl
 rw [Bool.not_eq_true',List.isEmpty_eq_false_iff_exists_mem]
theorem aKf{b:au}{l m:List c9}(hm:∀ x∈l,x∈m)(h:zl (Ey b m)=true):zl (Ey b l)=true:=by
 rw [aFH] at h ⊢
 obtain ⟨c,h⟩:=h
 refine ⟨c,?_⟩
 rw [ayR,List.mem_filter] at h ⊢
 refine ⟨h.1,?_⟩
 have h2:=h.2
 rw [List.all_eq_true] at h2 ⊢
 exact λ x hx=>h2 x (hm x hx)
theorem aKg{b:au}(hv:Valid b):zl (Ey b [])=true:=by
 rw [aFH]
 refine ⟨b.aQ.map (·.cH),?_⟩
 rw [ayR,List.mem_filter]
 refine ⟨Tl.2 ⟨by simp,λ i hi=>?_⟩,by simp⟩
 rw [az4 _ hi]
 have:=hv.each hi
 exact avh.2 ⟨Int.le_refl _,this.2.1⟩
theorem azp{b:au}:((ib b).length == 0)=!zl b:=by
 unfold zl
 cases ib b <;> rfl
theorem aFm{b:au}:decide (((ib b).length:Int) > 0)=zl b:=by
 unfold zl
 cases ib b with
 | nil=>rfl
 | cons c l=>simp
theorem ave{n a:Nat}{k:Int}(h:k∈eX n a):0≤k∧k < (n:Int):=(az3.1 h).1
theorem aF8{b:au}{ks:List Int}(hk:∀ k∈ks,0≤k∧k < (b.aY.length:Int)):∀ s∈ks.map (λ k=>nth b.aY k.toNat),s∈b.aY:=by
 intro s hs
 obtain ⟨k,hk1,rfl⟩:=List.mem_map.1 hs
 have:=hk k hk1
 exact pr (by omega)
theorem aLH{b:au}:IV b (eX b.aY.length (2 ^ b.aY.length - 1))=b:=by
 have e:(eX b.aY.length (2 ^ b.aY.length - 1)).map (λ k=>nth b.aY k.toNat)=b.aY:=by
  unfold eX
  rw [List.filter_eq_self.2 (λ i hi=>azA i (List.mem_range.1 hi)),List.map_map]
  refine adH (by simp) λ i hi=>?_
  rw [List.length_map,List.length_range] at hi
  have h1:=fh (l:=(List.range b.aY.length).map ((λ k:Int=>nth b.aY k.toNat) ∘ λ (i:Nat)=>(i:Int))) (i:=i) (by simpa using hi)
  simp only [List.getElem?_map,List.getElem?_range hi,Option.map_some,Option.some.injEq] at h1
  exact h1.symm
 unfold IV
 rw [e]
 rfl
theorem aLu{b:au}{ks:List Int}(hl:ks.length≤1000)(hk:∀ k∈ks,0≤k∧k < (b.aY.length:Int)):Dy b ks=some (IV b ks):=by
 unfold Dy
 refine (S3 (o:=ks.map λ k=>nth b.aY k.toNat) ?_).trans rfl
 have e0:((0:Int),([]:List c9))=(λ i:Nat=>((i:Int),(ks.take i).map λ k=>nth b.aY k.toNat)) 0:=rfl
 rw [e0]
 refine S4 (λ i:Nat=>((i:Int),(ks.take i).map λ k=>nth b.aY k.toNat)) ks.length (λ i hi=>?_) ?_
 ·have hm:=hk _ (pr hi)
  simp only [dec_lt hi,fc,j4,fh hi,Option.bind_some,ZE hm.1 hm.2,mb (i:=i) (by omega)]
  rw [U2 (by simp; omega),Option.bind_some,List.take_add_one,fh hi]
  simp
 ·simp only [mL,dn,List.take_length]
theorem aLk{b:au}(hs:b.aY.length < 5){a:Nat}(ha:a < 2 ^ b.aY.length):Et b (a:Int)=some (IV b (eX b.aY.length a)):=by
 unfold Et
 rw [aF1 hs ha,Option.bind_some]
 have hlen:=ay5 hs ha
 have hk:∀ k∈eX b.aY.length a,0≤k∧k < (b.aY.length:Int):=λ k h=>ave h
 generalize eX b.aY.length a=ks at hlen hk
 refine (S3 (o:=ks.map λ k=>nth b.aY k.toNat) ?_).trans rfl
 have e0:(([]:List c9),(0:Int))=(λ i:Nat=>((ks.take i).map λ k=>nth b.aY k.toNat,(i:Int))) 0:=rfl
 rw [e0]
 refine S4 (λ i:Nat=>((ks.take i).map λ k=>nth b.aY k.toNat,(i:Int))) ks.length (λ i hi=>?_) ?_
 ·have hm:=hk _ (pr hi)
  simp only [dec_lt hi,fc,j4,fh hi,Option.bind_some,ZE hm.1 hm.2,mb (i:=i) (by omega)]
  rw [U2 (by simp; omega),Option.bind_some,List.take_add_one,fh hi]
  simp
 ·simp only [mL,dn,List.take_length]
theorem Valid.only{b:au}(h:Valid b){a:Nat}(_:a < 2 ^ b.aY.length):Valid (IV b (eX b.aY.length a)):=by
 have h3:=h.s3
 refine h.Ey ?_ λ s hs=>h.sound s (aF8 (λ k hk=>ave hk) s hs)
 rw [List.length_map]
 unfold eX
 rw [List.length_map]
 exact Nat.le_trans (List.length_filter_le _ _) (by simpa using h3)
def Vq(b:au)(a:Nat):Bool:=!zl (IV b (eX b.aY.length a))
def UT(b:au):List Int:=(j3 b.aY.length (Vq b) (2 ^ b.aY.length)).1
theorem aLs{b:au}(hv:Valid b):zc b=some (UT b,0):=by
 have h3:=hv.s3
 unfold zc
 rw [U0 hv.sm,IG.2 hv,Option.bind_some]
 simp only [bne_self_eq_false,dn]
 rw [aLj (P:=Vq b) (by omega) (λ a ha=>?_),Option.bind_some]
 ·rfl
 ·unfold B0
  rw [aLk (by omega) ha,Option.bind_some,aLl (hv.only ha)]
  rfl
theorem aFn{b:au}(h:zl b=true):UT b=[]:=by
 unfold UT
 rw [aAa λ a ha=>?_]
 unfold Vq
 rw [show zl (IV b (eX b.aY.length a))=true from aKf (m:=b.aY) (aF8 λ k hk=>ave hk) h]
 rfl
theorem ayS{b:au}(h:zl b=false):cH b.aY.length (Vq b) (UT b):=by
 have hp:=Nat.two_pow_pos b.aY.length
 refine (aAb (a:=2 ^ b.aY.length - 1) (by omega) ?_).2
 unfold Vq
 rw [aLH,h]
 rfl
theorem aLc(b:au)(x:Int)(hx:0≤x∧x < 256):m8 b x=some true:=by
 unfold m8
 rw [azT,awJ,Option.bind_some]
 cases hg:BX b with
 | true=>rfl
 | false =>
 by_cases h1:lS b=0
 case neg =>
  have:(lS b == 0)=false:=by simpa using h1
  rw [this]
  rfl
 have hs:=adk hg
 have hv:=IG.1 h1
 have h3:=hv.s3
 have hn:b.aY.length < 5:=by omega
 have aFP:=Nat.two_pow_pos b.aY.length
 simp only [h1,Bool.not_false,beq_self_eq_true,Bool.and_true,Bool.not_true,dn]
 have e23:∀ {a},a < 2 ^ b.aY.length→oV (IV b (eX b.aY.length a))=some (((ib (IV b (eX b.aY.length a))).length:Int),0):=λ ha=>by
  rw [adZ (hv.only ha).sm,adQ (hv.only ha)]
 have e56:∀ {a},a < 2 ^ b.aY.length→Dy b (eX b.aY.length a)=some (IV b (eX b.aY.length a)):=λ ha=>aLu (by have:=ay5 hn ha; omega) λ k hk=>ave hk
 rw [aLs hv,Option.bind_some,adZ hs,adQ hv,Option.bind_some]
 have Ng:∃ a,a < 2 ^ b.aY.length∧UT b=eX b.aY.length a:=by
  cases h:zl b with
  | true=>exact ⟨0,aFP,by rw [aFn h,az1]⟩
  | false=>obtain ⟨a,ha,_,e⟩:=(ayS h).ex; exact ⟨a,ha,e⟩
 have hlen:(UT b).length≤4:=by obtain ⟨a,ha,e⟩:=Ng; rw [e]; exact ay5 hn ha
 have hcb:UW (UT b) b.aY.length=0:=by
  obtain ⟨a,ha,e⟩:=Ng
  rw [e]
  exact azq (az2 _ _) λ k hk=>ave hk
 have hgt:decide (((UT b).length:Int) > 0)=!zl b:=by
  cases h:zl b with
  | true=>rw [aFn h]; rfl
  | false =>
   obtain ⟨a,ha,hP,e⟩:=(ayS h).ex
   have:UT b≠[]:=λ hz=>by
    rw [e] at hz
    simp only [Vq,hz] at hP
    rw [show IV b []=Ey b [] from rfl,aKg hv] at hP
    cases hP
   simpa using List.length_pos_iff.2 this
 simp only [bne_self_eq_false,dn,aLt (l:=UT b) (below:=(b.aY.length:Int)) (by omega) (by omega) (by omega),hcb,Option.bind_some,ayX,azp,hgt,beq_self_eq_true,Bool.not_true,aFm]
 cases hc:zl b with
 | true=>rfl
 | false =>
 obtain ⟨a,ha,hP,ea⟩:=(ayS hc).ex
 have Zb:=(ayS hc).min
 have hca:zl (IV b (eX b.aY.length a))=false:=by simpa [Vq] using hP
 have hz:∀ {b':au},zl b'=false→(ib b').length=0:=λ {b'} h=>by
  have:=azp (b:=b')
  rw [h] at this
  simpa using this
 simp only [dn,ea,e56 ha,e23 ha,Option.bind_some,hz hca,Int.natCast_zero,bne_self_eq_false]
 rw [ay1 (n:=(eX b.aY.length a).length) (λ _=>true) false (λ i hi=>?_) (by simp only [mL,dn])]
 ·rw [show ((List.range (eX b.aY.length a).length).all λ _=>true)=true by simp]
  simp only [if_true,Option.bind_some,Sum.elim_inl]
  rw [S3 (o:=eX b.aY.length (x.toNat % 2 ^ b.aY.length)) ?_]
  ·have UZ:x.toNat % 2 ^ b.aY.length < 2 ^ b.aY.length:=Nat.mod_lt _ aFP
   rw [e56 UZ,Option.bind_some,e23 UZ,Option.bind_some]
   simp only [beq_self_eq_true,fc,aFm]
   cases h:zl (IV b (eX b.aY.length (x.toNat % 2 ^ b.aY.length))) with
   | true=>rfl
   | false =>
    have:=Zb _ UZ (by unfold Vq; rw [h]; rfl)
    rw [dn,(aF4 hn UZ ha).1,← ea,this]
    rfl
  ·have q0:(([]:List Int),(0:Int))=(λ i:Nat=>(((List.range i).filter λ i=>(x.toNat % 2 ^ b.aY.length).testBit i).map (λ (i:Nat)=>(i:Int)),(i:Int))) 0:=rfl
   rw [q0]
   refine S4 (λ i:Nat=>(((List.range i).filter λ i=>(x.toNat % 2 ^ b.aY.length).testBit i).map (λ (i:Nat)=>(i:Int)),(i:Int))) b.aY.length (λ i hi=>?_) (by simp only [mL,dn]; rfl)
   have hfl:((List.range i).filter λ i=>(x.toNat % 2 ^ b.aY.length).testBit i).length≤i:=Nat.le_trans (List.length_filter_le _ _) (by simp)
   have hb:=aJX hx.1 hx.2 (show i < 5 by omega)
   obtain ⟨y,hy,hb⟩:=aj hb
   have ht:(x.toNat % 2 ^ b.aY.length).testBit i=x.toNat.testBit i:=by rw [Nat.testBit_mod_two_pow]; simp [hi]
   simp only [dec_lt hi,fc,Option.bind_some,hy,hb,mb (i:=i) (by omega),List.range_succ,List.filter_append,List.map_append]
   generalize x.toNat % 2 ^ b.aY.length=X at hfl ht ⊢
   cases hti:x.toNat.testBit i with
   | true =>
    simp only [if_true,beq_self_eq_true,fc]
    rw [U2 (by simp; omega),Option.bind_some]
    simp [ht,hti]
   | false=>simp [ht,hti,dn]
 ·obtain ⟨c,Ng,aKh,hcf⟩:=aLF hn ha hi
  have hcc:zl (IV b (eX b.aY.length c))=true:=by
   cases h:zl (IV b (eX b.aY.length c)) with
   | true=>rfl
   | false =>
    have:=Zb c Ng (by unfold Vq; rw [h]; rfl)
    rw [ea,hcf] at this
    cases this
  have:=ay5 hn ha
  simp only [dec_lt hi,fc,aKh,Option.bind_some,e56 Ng,e23 Ng,bne_self_eq_false,dn,ayX,azp,hcc,Bool.not_true,if_true,mb (i:=i) (by omega)]
end Go.Proofs.YtihapemckcdicaaGreatDoor
