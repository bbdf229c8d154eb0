/- Plain laws of the other chapter; the row as a plain law. Conditions: none. -/
import Derived.Test.YtikficpdfaajlaaGreatDoorQSWStLc
import Derived.Test.YtikficpdfaajlaaGreatDoorQSWStP
import Derived.Test.YtikficpdfaajlaaGreatDoorQSWStC
namespace Go.Proofs.YtikficpdfaajlaaGreatDoor
open Go.Lg Go.Proofs
set_option maxRecDepth 10000
instance:DecidableEq fG:=λ a b=>decidable_of_iff (a.bR=b.bR∧a.bS=b.bS) (by cases a; cases b; simp)
instance T7:Inhabited Reach:=⟨⟨0,0⟩⟩
instance T8:Inhabited fG:=⟨⟨0,0⟩⟩
instance T9:Inhabited iN:=⟨⟨⟨0,0⟩,0,0,false⟩⟩
instance T6:Inhabited fM:=⟨⟨⟨⟨0,0⟩,[]⟩,0⟩⟩
structure AA (n:Nat) (w:iN):Prop where
 Iz : -20≤w.U.bR∧w.U.bR≤20
 QG : -20≤w.U.bS∧w.U.bS≤20
 H0:0≤w.hG∧w.hG≤7
 cmp:0≤w.fK∧w.fK < (n:Int)
structure VB (k:bC):Prop where
 wide:2≤k.bK∧k.bK≤7
 high:2≤k.bV∧k.bV≤7
 C7:0≤k.b8∧k.b8≤2
 c1:1≤k.a9.length
 c3:k.a9.length≤3
 comp:∀ x∈k.a9,-3≤x.aZ∧x.aZ≤x.bh∧x.bh≤3∧x.bh - x.aZ < 3
 w5:k.bz.length≤5
 Aj:∀ w∈k.bz,AA k.a9.length w
theorem tH(n a c:Int):eC n a c=some (bX n a c):=by
 unfold eC bX
 cases decide (a≤n) <;> rfl
theorem gb(n a c:Int):jN n a c=some (bX n a c):=by
 unfold jN bX
 cases decide (a≤n) <;> rfl
def lT(x:Reach)(a c:Int):Bool:=decide (a≤x.aZ) && (decide (x.aZ≤x.bh) && decide (x.bh≤c))
theorem fO(x:Reach)(a c:Int):l5 x a c=some (lT x a c):=by
 unfold l5 lT
 cases decide (a≤x.aZ) <;> cases decide (x.aZ≤x.bh) <;> rfl
theorem AP(x:Reach)(a c:Int):qp x a c=some (lT x a c):=by
 unfold qp lT
 cases decide (a≤x.aZ) <;> cases decide (x.aZ≤x.bh) <;> rfl
theorem yE{x:Reach}{a c:Int}:lT x a c=true↔a≤x.aZ∧x.aZ≤x.bh∧x.bh≤c:=by simp [lT]
def mg(s:fG):Bool:=bX s.bR (-20) 20 && bX s.bS (-20) 20
theorem HF(s:fG):qu s=some (mg s):=by
 unfold qu mg
 rw [tH,tH]
 cases bX s.bR (-20) 20 <;> rfl
theorem HE(s:fG):sB s=some (mg s):=by
 unfold sB mg
 rw [gb,gb]
 cases bX s.bR (-20) 20 <;> rfl
theorem od(k:bC)(n:Int)(h:k.a9.length≤1000):qw k n=some (bX n 0 ((k.a9.length:Int) - 1)):=by
 unfold qw
 rw [tH,c9 (by omega) (by omega)]
 rfl
theorem AQ(t:Bool):sR t=some (if t then 0 else 6):=by unfold sR; cases t <;> rfl
theorem jE(k:bC)(n:Int)(h:k.a9.length≤1000):oZ k n=some (if bX n 0 ((k.a9.length:Int) - 1) then 0 else 6):=by
 unfold oZ
 rw [gb,c9 (by omega) (by omega)]
 simp only [aF,AQ]
def oh(x:Reach):Bool:=lT x (-3) 3 && decide (x.bh - x.aZ < 3)
theorem H9{x:Reach}:oh x=true ↔ -3≤x.aZ∧x.aZ≤x.bh∧x.bh≤3∧x.bh - x.aZ < 3:=by
 unfold oh
 rw [cO,yE,decide_eq_true_eq]
 omega
theorem FR(a b:Bool){x:a5}(h:x=some b):ab (!a) (some true) x=some (!a || b):=by
 subst h; cases a <;> rfl
theorem Ia(x:Reach){α:Type}{p q:Option α}:(l5 x (-3) 3).bind (λ y=>ab (!y) p (ab (decide (i64 (x.bh - x.aZ) ≥ 3)) p q))=ab (oh x) q p:=by
 rw [fO,aF]
 unfold oh
 cases h:lT x (-3) 3 with
 | false=>rfl
 | true =>
  rw [yE] at h
  rw [Bool.not_true,a3,c9 (by omega) (by omega),Bool.true_and]
  by_cases h3:x.bh - x.aZ < 3
  ·rw [c7 h3,dH (by omega)]; rfl
  ·rw [dH h3,c7 (by omega)]; rfl
theorem LV(k:bC):∃ z,m5 k=some z∧(z=true→VB k):=by
 unfold m5 u3
 by_cases h1:k.a9.length > 20
 ·rw [c7 (by omega)]
  exact ⟨false,rfl,λ h=>by cases h⟩
 rw [dH (by omega),a3,aF]
 by_cases h2:k.bz.length > 20
 ·rw [c7 (by omega)]
  exact ⟨false,rfl,λ h=>by cases h⟩
 rw [dH (by omega),Bool.not_false,bf]
 unfold u4
 simp only [tH,aF]
 rw [FR _ _ (FR _ _ rfl),aF]
 cases s:bX k.bK 2 7 with
 | false=>exact ⟨false,rfl,λ h=>by cases h⟩
 | true =>
 cases y:bX k.bV 2 7 with
 | false=>exact ⟨false,rfl,λ h=>by cases h⟩
 | true =>
 cases hC:bX k.b8 0 2 with
 | false=>exact ⟨false,rfl,λ h=>by cases h⟩
 | true =>
 simp only [Bool.not_true,Bool.or_false,a3]
 cases C:bX (k.a9.length:Int) 1 3 with
 | false=>exact ⟨false,rfl,λ h=>by cases h⟩
 | true =>
 rw [dE] at s y hC C
 rw [Bool.not_true,a3]
 have E:∃ d,ab (decide ((k.bz.length:Int) > 5)) (some 2) ((bb (O:=(Unit ⊕ Int)) (λ (n:Int) =>
   ab (decide (n < (k.bz.length:Int)))
   ((idx k.bz n).bind λ p =>
   ((((qu p.U).bind λ H =>
   ab (!H)
   (some true)
   (some (!(bX p.hG 0 7)))):a5)).bind (λ (G:Bool) =>
   ab G
   (some (.inr (.inr 1)))
   ((qw k p.fK).bind λ I =>
   ab (!I)
   (some (.inr (.inr 6)))
   (some (.inl (i64 (n+1)))))))
   (some (.inr (.inl ())))) 0).bind (Sum.elim (λ (_:Unit) =>
   some 0)
   (λ q=>some q)))=some d∧(d=0→k.bz.length≤5∧∀ w∈k.bz,AA k.a9.length w):=by
  by_cases h5:(k.bz.length:Int) > 5
  ·rw [c7 h5]
   exact ⟨2,rfl,λ h=>by cases h⟩
  rw [dH h5,a3]
  refine ⟨_,iK (λ i=>if (mg (nth k.bz i).U && bX (nth k.bz i).hG 0 7)=false then some 1 else if bX (nth k.bz i).fK 0 ((k.a9.length:Int) - 1)=false then some 6 else none) k.bz.length (λ i hi=>?_) (by rw [dX]; rfl) rfl,λ B=>⟨by omega,λ w hw=>?_⟩⟩
  ·rw [dec_lt hi,bf,b9,bl hi,aF,HF,od _ _ (by omega),aF,cj (by omega)]
   cases mg (nth k.bz i).U <;> cases bX (nth k.bz i).hG 0 7 <;> cases bX (nth k.bz i).fK 0 ((k.a9.length:Int) - 1) <;> rfl
  ·obtain ⟨i,hi,rfl⟩:=iI hw
   have:=rW (e:=_) (λ i=>by repeat' split <;> simp) B i hi
   split at this
   ·cases this
   ·rename_i c
    split at this
    ·cases this
    ·rename_i A
     simp only [Bool.not_eq_false,cO,mg,dE] at c A
     exact ⟨c.1.1,c.1.2,c.2,by omega⟩
 obtain ⟨d,hd,hw⟩:=E
 simp only [hd]
 rw [iK (λ i=>if oh (nth k.a9 i)=false then some (1:Int) else none) k.a9.length (d:=d) (λ i hi=>?_) (by rw [dX]; rfl) rfl]
 ·refine ⟨_,rfl,λ f=>?_⟩
  cases b:de (λ i=>if oh (nth k.a9 i)=false then some (1:Int) else none) 0 k.a9.length with
  | some o =>
   rw [b] at f
   obtain ⟨j,_,_,m,_⟩:=lS b
   split at m
   ·cases m; cases f
   ·cases m
  | none =>
   rw [b] at f
   have D:d=0:=by simpa using f
   obtain ⟨w1,w2⟩:=hw D
   refine ⟨s,y,hC,by omega,by omega,λ x F=>?_,w1,w2⟩
   obtain ⟨i,hi,rfl⟩:=iI F
   rw [iu] at b
   have:=b i (Nat.zero_le _) (by omega)
   split at this
   ·cases this
   ·rename_i g; exact H9.1 (by simpa using g)
 ·rw [dec_lt hi,bf,b9,bl hi,aF,Ia,cj (by omega)]
  cases oh (nth k.a9 i) <;> rfl
theorem VB.check{k:bC}(h:VB k):qo k=some 0:=by
 unfold qo
 have e1:sy k=some 0:=by
  unfold sy
  simp only [gb,aF,dE.2 h.wide,dE.2 h.high,dE.2 h.C7]
  rfl
 have j:=h.c1
 have m:=h.c3
 have n:=h.w5
 have c:sz k=some 0:=by
  unfold sz
  simp only [gb,aF,dE.2 (show (1:Int)≤(k.a9.length:Int)∧(k.a9.length:Int)≤3 by omega),Bool.not_true,a3]
  rw [iK (O:=Int) (λ _=>none) k.a9.length (d:=0) (λ i hi=>?_) (by rw [dX]; rfl) rfl,iu.2 λ _ _ _=>rfl]
  ·rfl
  ·have b:=h.comp _ (eJ (l:=k.a9) (i:=i) (by omega))
   rw [dec_lt hi,bf,b9,bl hi,aF,AP,yE.2 ⟨b.1,b.2.1,b.2.2.1⟩,aF,Bool.not_true,a3,c9 (by omega) (by omega),dH (by omega),a3,cj (by omega)]
 have f:sA k=some 0:=by
  unfold sA
  rw [dH (by omega),a3]
  rw [iK (O:=Int) (λ _=>none) k.bz.length (d:=0) (λ i hi=>?_) (by rw [dX]; rfl) rfl,iu.2 λ _ _ _=>rfl]
  ·rfl
  ·have b:=h.Aj _ (eJ (l:=k.bz) (i:=i) (by omega))
   have g:=b.cmp
   rw [dec_lt hi,bf,b9,bl hi,aF,HE,show mg (nth k.bz i).U=true by rw [mg,cO,dE,dE]; exact ⟨b.Iz,b.QG⟩]
   simp only [aF,Bool.not_true,a3,gb,dE.2 b.H0,jE _ _ (show k.a9.length≤1000 by omega),dE.2 (show 0≤(nth k.bz i).fK∧(nth k.bz i).fK≤(k.a9.length:Int) - 1 by omega),if_true,bne_self_eq_false,cj (i:=i) (by omega)]
 rw [show (⟨k.bK,k.bV,k.b8,k.a9,k.bz⟩:bC)=k from rfl,e1,aF,bne_self_eq_false,a3,c,aF,bne_self_eq_false,a3,f]
 rfl
theorem HD(p q:fG):∃ z,oO p q=some z∧0≤z∧z≤7:=by
 unfold oO u7
 generalize i64 (q.bR - p.bR)=x
 generalize i64 (q.bS - p.bS)=y
 generalize ei x [i64 (0 - x)]=a
 generalize ei y [i64 (0 - y)]=c
 generalize decide (i64 (12 * (jQ a [c])) > i64 (5 * (ei a [c])))=b1
 generalize decide (a > c)=b2
 cases b1 <;> cases b2 <;> cases decide (x > 0) <;> cases decide (y > 0) <;> exact ⟨_,rfl,by decide,by decide⟩
noncomputable def zN(p q:fG)(off:Int):Int:=((oO p q).getD 0+off+8) % 8
theorem SB(p q:fG){off:Int}(h : -3≤off∧off≤3):∃ z,oO p q=some z∧hy (i64 ((i64 (z+off))+8)) 8=some (zN p q off):=by
 obtain ⟨z,h1,h2,h3⟩:=HD p q
 refine ⟨z,h1,?_⟩
 unfold zN hy
 rw [h1,if_neg (by decide),c9 (z:=z+off) (by omega) (by omega),c9 (by omega) (by omega),gP,Int.tmod_eq_emod_of_nonneg (by omega)]
noncomputable def vR(w:iN)(a:c0):Bool:=decide (w.U=a.at_) || zN w.U a.at_ (nth a.off w.fK.toNat) == w.hG
theorem CP(p q:fG):ou p q=true↔p=q:=by
 obtain ⟨a,c⟩:=p
 obtain ⟨d,e⟩:=q
 simp [ou]
theorem HC{k:bC}{w:iN}{a:c0}(b:0≤w.fK∧w.fK.toNat < a.off.length)(ho : -3≤nth a.off w.fK.toNat∧nth a.off w.fK.toNat≤3):ss k w a=some (vR w a):=by
 unfold ss vR
 by_cases h:w.U=a.at_
 ·rw [show (ou w.U a.at_ == true)=true by rw [(CP _ _).2 h]; rfl,c7 h]
  rfl
 ·rw [show (ou w.U a.at_ == true)=false by
   cases he:ou w.U a.at_ with
   | true=>exact absurd ((CP _ _).1 he) h
   | false=>rfl,a3,dH h,Bool.false_or]
  obtain ⟨z,h1,h2⟩:=SB w.U a.at_ ho
  rw [h1,aF,show idx a.off w.fK=some (nth a.off w.fK.toNat) by unfold idx; rw [if_pos b.1]; exact bl b.2,aF,h2,aF]
def mk(p:Nat→Bool):Nat→Nat
 | 0=>0
 | n+1=>mk p n+if p n then 2 ^ n else 0
theorem sU(p:Nat→Bool):∀ n,mk p n < 2 ^ n
 | 0=>by simp [mk]
 | n+1=>by
  have:=sU p n
  unfold mk
  rw [Nat.pow_succ]
  split <;> omega
def BR:Bool:=(List.range 5).all λ i=>gX .i64 1 (i:Int) == some ((2 ^ i:Nat):Int) && (List.range 32).all λ a=>!(decide (a < 2 ^ i)) || cC .or .i64 (a:Int) ((2 ^ i:Nat):Int) == some ((a+2 ^ i:Nat):Int)
def BS:Bool:=(List.range 32).all λ o=>(List.range 32).all λ m =>
 (match cC .andNot .i64 (o:Int) (m:Int) with | some z=>(z == 0) == (List.range 5).all (λ i=>!o.testBit i || m.testBit i) | none=>false) &&
 (match cC .and .i64 (m:Int) (o:Int) with | some z=>(z == 0) == (List.range 5).all (λ i=>!(m.testBit i && o.testBit i)) | none=>false)
def BQ:Bool:=(List.range 32).all λ m=>(List.range 5).all λ i=>match eR .i64 (m:Int) (i:Int) with | some z=>cC .and .i64 z 1 == some (if m.testBit i then 1 else 0) | none=>false
set_option maxRecDepth 1000000 in
theorem xI:(BR && BS && BQ)=true:=by decide +kernel
theorem Fo{i a:Nat}(hi:i < 5)(b:a < 2 ^ i):gX .i64 1 (i:Int)=some ((2 ^ i:Nat):Int)∧cC .or .i64 (a:Int) ((2 ^ i:Nat):Int)=some ((a+2 ^ i:Nat):Int):=by
 have h:=xI
 simp only [cO,BR,List.all_eq_true,List.mem_range] at h
 obtain ⟨h1,h2⟩:=h.1.1 i hi
 have c:2 ^ i≤2 ^ 5:=Nat.pow_le_pow_right (by decide) (by omega)
 have:=h2 a (by omega)
 rw [c7 b,Bool.not_true,Bool.false_or] at this
 exact ⟨by simpa using h1,by simpa using this⟩
theorem Gm{o m:Nat}(ho:o < 32)(hm:m < 32):(∃ z,cC .andNot .i64 (o:Int) (m:Int)=some z∧(z != 0)=!(List.range 5).all (λ i=>!o.testBit i || m.testBit i))∧∃ z,cC .and .i64 (m:Int) (o:Int)=some z∧(z != 0)=!(List.range 5).all (λ i=>!(m.testBit i && o.testBit i)):=by
 have h:=xI
 simp only [cO,BS,List.all_eq_true (l:=List.range 32),List.mem_range] at h
 obtain ⟨h1,h2⟩:=h.1.2 o ho m hm
 constructor
 ·cases b:cC .andNot .i64 (o:Int) (m:Int) with
  | none=>rw [b] at h1; cases h1
  | some z=>rw [b] at h1; exact ⟨z,rfl,by rw [bne,beq_iff_eq.1 h1]⟩
 ·cases b:cC .and .i64 (m:Int) (o:Int) with
  | none=>rw [b] at h2; cases h2
  | some z=>rw [b] at h2; exact ⟨z,rfl,by rw [bne,beq_iff_eq.1 h2]⟩
theorem HY{m i:Nat}(hm:m < 32)(hi:i < 5):∃ z,eR .i64 (m:Int) (i:Int)=some z∧cC .and .i64 z 1=some (if m.testBit i then 1 else 0):=by
 have h:=xI
 simp only [cO,BQ,List.all_eq_true,List.mem_range] at h
 have h1:=h.2 m hm i hi
 cases b:eR .i64 (m:Int) (i:Int) with
 | none=>rw [b] at h1; cases h1
 | some z=>rw [b] at h1; exact ⟨z,rfl,by simpa using h1⟩
def tK(m:Nat):ah:=((List.range 5).filter λ i=>m.testBit i).map λ (i:Nat)=>(i:Int)
theorem C4{α β:Type}(p:α→Bool)(f:α→β):∀ l:List α,l.filterMap (λ i=>if p i then some (f i) else none)=(l.filter p).map f
 | []=>rfl
 | a::l=>by
  rw [List.filterMap_cons,List.filter_cons,C4 p f l]
  cases p a <;> rfl
theorem HB{m:Nat}(hm:m < 32):oI (m:Int)=some (tK m):=by
 unfold oI
 refine (eP (collect (λ i=>if m.testBit i then some (i:Int) else none) 5 (λ i acc hi b=>?_) (λ acc=>?_))).trans ?_
 ·obtain ⟨z,h1,h2⟩:=HY hm hi
  rw [show decide ((i:Int) < 5)=true by simp; omega,bf,h1,aF,h2,aF,cj (by omega)]
  cases m.testBit i with
  | true=>rw [if_pos rfl,if_pos rfl,show ((1:Int) == 1)=true from rfl,bf,jD (by simp; omega)]; rfl
  | false=>rw [if_neg (by decide),if_neg (by decide),show ((0:Int) == 1)=false from rfl,a3]; simp
 ·rfl
 ·unfold tK
  congr 1
  exact C4 _ _ _
def nP(x:Reach):ah:=(List.range (x.bh+1 - x.aZ).toNat).map λ (j:Nat)=>x.aZ+(j:Int)
theorem vt{x:Reach}{n:Int}:n∈nP x↔x.aZ≤n∧n≤x.bh:=by
 simp only [nP,List.mem_map,List.mem_range]
 constructor
 ·rintro ⟨j,b,rfl⟩; omega
 ·intro h; exact ⟨(n - x.aZ).toNat,by omega,by omega⟩
theorem FH{x:Reach}(h:x.bh - x.aZ < 3):(nP x).length≤3:=by simp [nP]; omega
abbrev lR(k:bC):Nat→ah→ah:=λ i _=>nP (nth k.a9 i)
abbrev Z3:ah:=[0,0,0]
theorem xL{c:ah}(h:c.length≤3):(hq Z3 c).length=3∧(∀ i,i < c.length→nth (hq Z3 c) i=nth c i)∧∀ i,c.length≤i→i < 3→nth (hq Z3 c) i=0:=by
 match c,h with
 | [],_=>exact ⟨rfl,λ i hi=>by simp at hi,λ i _ hi=>by match i,hi with | 0,_=>rfl | 1,_=>rfl | 2,_=>rfl⟩
 | [_],_=>exact ⟨rfl,λ i hi=>by match i,hi with | 0,_=>rfl,λ i h1 hi=>by match i,h1,hi with | 1,_,_=>rfl | 2,_,_=>rfl⟩
 | [_,_],_=>exact ⟨rfl,λ i hi=>by match i,hi with | 0,_=>rfl | 1,_=>rfl,λ i h1 hi=>by match i,h1,hi with | 2,_,_=>rfl⟩
 | [_,_,_],_=>exact ⟨rfl,λ i hi=>by match i,hi with | 0,_=>rfl | 1,_=>rfl | 2,_=>rfl,λ i h1 hi=>by simp at h1; omega⟩
structure WB (P:Nat) (pre w:ah):Prop where
 len:w.length=3
 pre:∀ i,i < pre.length→nth w i=nth pre i
 rest:∀ i,P≤i→i < 3→nth w i=0
theorem WB.eq{P:Nat}{pre w:ah}(h:WB P pre w)(b:pre.length=P)(h3:P≤3):w=hq Z3 pre:=by
 obtain ⟨h1,h2,h4⟩:=xL (c:=pre) (by omega)
 refine Fe (by rw [h.len,h1]) λ i hi=>?_
 by_cases hl:i < pre.length
 ·rw [h.pre i hl,h2 i hl]
 ·rw [h.rest i (by omega) (by rw [← h.len]; exact hi),h4 i (by omega) (by rw [← h.len]; exact hi)]
theorem WB.set{P:Nat}{pre w:ah}(h:WB P pre w)(b:pre.length < P)(h3:P≤3)(n:Int):WB P (pre++[n]) (w.set pre.length n):=by
 have hl:=h.len
 refine ⟨by simpa using hl,λ i hi=>?_,λ i h1 h2=>?_⟩
 ·by_cases e:i=pre.length
  ·subst e
   rw [sY (by omega),lD]
  ·rw [pe (by omega)]
   simp only [gi,List.length_cons,List.length_nil] at hi
   rw [kM (by omega)]
   exact h.pre i (by omega)
 ·rw [pe (by omega)]
  exact h.rest i h1 h2
theorem WB.back{P:Nat}{pre w:ah}{n:Int}(h:WB P (pre++[n]) w):WB P pre w:=⟨h.len,λ i hi=>by rw [h.pre i (by simp; omega),kM hi],h.rest⟩
theorem yO{α S X O:Type}{ys:α→S→Option (S × Bool)}{body:S × X→Option ((S × X) ⊕ O)}(d:Nat→List α)(n:Nat)(I:Nat→X→Prop)(F Q:S→O→Prop)
  (h:∀ j s x r,j < n→I j x→di ys (d j) s=some r→if r.2=true then ∃ x',body (s,x)=some (.inl (r.1,x'))∧I (j+1) x' else ∃ o,body (s,x)=some (.inr o)∧Q r.1 o) (f:∀ s x,I n x→∃ o,body (s,x)=some (.inr o)∧F s o) :
  ∀ (k j:Nat) (s:S) (x:X) (r:S × Bool),j+k=n→I j x→di ys ((List.range' j k).flatMap d) s=some r→∃ o,bb body (s,x)=some o∧if r.2=true then F r.1 o else Q r.1 o
 | 0,j,s,x,r,g,c,b=>by
  simp only [List.range'_zero,List.flatMap_nil,di,ey] at b
  subst b
  obtain rfl:j=n:=by omega
  obtain ⟨o,h1,h2⟩:=f s x c
  exact ⟨o,gf h1,by simpa using h2⟩
 | k+1,j,s,x,r,g,c,b=>by
  rw [List.range'_succ,List.flatMap_cons,rR] at b
  obtain ⟨q,i,b⟩:=af b
  have hb:=h j s x q (by omega) c i
  split at b
  ·rename_i h2
   rw [if_pos h2] at hb
   obtain ⟨x',h3,h4⟩:=hb
   rw [kq h3]
   exact yO d n I F Q h f k (j+1) q.1 x' r (by omega) h4 b
  ·rename_i h2
   rw [if_neg h2] at hb
   obtain ⟨o,h3,h4⟩:=hb
   cases b
   exact ⟨o,gf h3,by simpa using h4⟩
theorem AO{k:bC}(p:VB k){S:Type}(ys:c0→S→Option (S × Bool)):∀ (j f:Nat) (pre:ah) (a:c0) (s:S) (r:S × Bool),pre.length+j=k.a9.length→j < f→WB k.a9.length pre a.off →
  di ys ((tree (lR k) j pre.length pre).map λ o=>(⟨a.at_,hq Z3 o⟩:c0)) s=some r→∃ c,je ys f (pre.length:Int) k a s=some (r.1,(c,r.2))∧c.at_=a.at_∧WB k.a9.length pre c.off
 | _,0,_,_,_,_,_,G,_,_=>by omega
 | 0,f+1,pre,a,s,r,hl,_,hw,m=>by
  rw [Nat.add_zero] at hl
  unfold je
  rw [show ((pre.length:Int) == (k.a9.length:Int))=true by rw [hl]; simp,bf]
  simp only [tree,List.map_cons,List.map_nil,di] at m
  have C:(⟨a.at_,hq Z3 pre⟩:c0)=a:=by rw [← hw.eq hl p.c3]
  rw [C] at m
  obtain ⟨q,B,m⟩:=af m
  refine ⟨a,?_,rfl,hw⟩
  rw [B,aF]
  split at m
  ·rename_i h2; cases m; rw [h2]
  ·rename_i h2; cases m; simp at h2; rw [h2]
 | j+1,f+1,pre,a,s,r,hl,G,hw,m=>by
  have h3:=p.c3
  have I:=p.comp _ (eJ (l:=k.a9) (i:=pre.length) (by omega))
  unfold je
  rw [show ((pre.length:Int) == (k.a9.length:Int))=false by simp; omega,a3,b9,bl (by omega),aF]
  generalize E:nth k.a9 pre.length=X at I
  have key:=yO (ys:=ys) (S:=S) (X:=Int × Int × Int × ah) (O:=(S × Int × Int × ah) ⊕ (S × (c0 × Bool))) (body:=λ (b:(S × Int × Int × Int × ah)) =>
   (some X:Option Reach).bind λ A =>
   ab (decide (b.2.1≤A.bh))
   ((idx b.2.2.2.2 (pre.length:Int)).bind λ J =>
   (je ys f (i64 ((pre.length:Int)+1)) k (⟨⟨b.2.2.1,b.2.2.2.1⟩,b.2.2.2.2.set (pre.length:Int).toNat b.2.1⟩:c0) b.1).bind λ g =>
   ab (!g.2.2)
   (some (.inr (.inr (g.1,(g.2.1,false)))))
   (some (.inl (g.1,i64 (b.2.1+1),g.2.1.at_.bR,g.2.1.at_.bS,g.2.1.off))))
   (some (.inr (.inl (b.1,b.2.2.1,b.2.2.2.1,b.2.2.2.2)))))
   (λ q=>(tree (lR k) j (pre.length+1) (pre++[X.aZ+(q:Int)])).map λ o=>(⟨a.at_,hq Z3 o⟩:c0)) (X.bh+1 - X.aZ).toNat (λ q x=>x.1=X.aZ+(q:Int)∧x.2.1=a.at_.bR∧x.2.2.1=a.at_.bS∧WB k.a9.length pre x.2.2.2)
   (λ s o=>∃ d,o = .inl (s,a.at_.bR,a.at_.bS,d)∧WB k.a9.length pre d) (λ s o=>∃ c,o = .inr (s,(c,false))∧c.at_=a.at_∧WB k.a9.length pre c.off)
   (λ q s x r B y m=>by
    obtain ⟨n,e,no,d⟩:=x
    obtain ⟨rfl,rfl,rfl,hd⟩:=y
    have H:=hd.set (n:=X.aZ+(q:Int)) (by omega) h3
    obtain ⟨c,h1,w,h2⟩:=AO p ys j f (pre++[X.aZ+(q:Int)]) ⟨a.at_,d.set pre.length (X.aZ+(q:Int))⟩ s r (by simp; omega) (by omega) H (by simpa using m)
    have K:d.length=3:=hd.len
    simp only [gi,List.length_cons,List.length_nil,Nat.zero_add] at h1
    have D:je ys f ((pre.length+1:Nat):Int) k (⟨⟨a.at_.bR,a.at_.bS⟩,d.set pre.length (X.aZ+(q:Int))⟩:c0) s=some (r.1,(c,r.2)):=h1
    simp only [aF,show decide (X.aZ+(q:Int)≤X.bh)=true by simp; omega,bf,b9,bl (show pre.length < d.length by omega),cI,cj (i:=pre.length) (by omega),D]
    have e1:i64 (X.aZ+(q:Int)+1)=X.aZ+((q+1:Nat):Int):=by rw [c9 (by omega) (by omega)]; omega
    cases L:r.2 with
    | true=>exact ⟨(X.aZ+((q+1:Nat):Int),c.at_.bR,c.at_.bS,c.off),by simp [e1,a3],rfl,by rw [w],by rw [w],h2.back⟩
    | false=>exact ⟨.inr (r.1,(c,false)),by simp [bf],c,rfl,w,h2.back⟩)
   (λ s x y=>by
    obtain ⟨n,e,no,d⟩:=x
    obtain ⟨rfl,rfl,rfl,hd⟩:=y
    refine ⟨.inl (s,a.at_.bR,a.at_.bS,d),?_,d,rfl,hd⟩
    simp only [aF,show decide (X.aZ+(((X.bh+1 - X.aZ).toNat:Nat):Int)≤X.bh)=false by simp; omega,a3])
   (X.bh+1 - X.aZ).toNat 0 s (X.aZ,a.at_.bR,a.at_.bS,a.off) r (by omega) ⟨by simp,rfl,rfl,hw⟩ (by
    rw [← m,← List.range_eq_range']
    congr 1
    simp only [tree,lR,E,nP,List.flatMap_map,List.map_flatMap])
  obtain ⟨o,ho,z⟩:=key
  rw [show (bb (O:=((S × Int × Int × ah) ⊕ (S × (c0 × Bool)))) (λ (b:(S × Int × Int × Int × ah)) =>
   (some X:Option Reach).bind λ A =>
   ab (decide (b.2.1≤A.bh))
   ((idx b.2.2.2.2 (pre.length:Int)).bind λ J =>
   (je ys f (i64 ((pre.length:Int)+1)) k (⟨⟨b.2.2.1,b.2.2.2.1⟩,b.2.2.2.2.set (pre.length:Int).toNat b.2.1⟩:c0) b.1).bind λ g =>
   ab (!g.2.2)
   (some (.inr (.inr (g.1,(g.2.1,false)))))
   (some (.inl (g.1,i64 (b.2.1+1),g.2.1.at_.bR,g.2.1.at_.bS,g.2.1.off))))
   (some (.inr (.inl (b.1,b.2.2.1,b.2.2.2.1,b.2.2.2.2))))) (s,X.aZ,a.at_.bR,a.at_.bS,a.off))=some o from ho,aF]
  split at z
  ·rename_i h2
   obtain ⟨d,rfl,hd⟩:=z
   exact ⟨⟨a.at_,d⟩,by simp [h2],rfl,hd⟩
  ·rename_i h2
   obtain ⟨c,rfl,F,hd⟩:=z
   exact ⟨c,by simp at h2; simp [h2],F,hd⟩
def mD(k:bC)(n:Nat):fG:=⟨(n:Int) % k.bK,(n:Int) / k.bK⟩
def jC(k:bC):List c0:=(List.range (k.bK * k.bV).toNat).flatMap λ n=>(lvl (lR k) k.a9.length).map λ o=>(⟨mD k n,hq Z3 o⟩:c0)
theorem VB.AM{k:bC}(h:VB k):4≤k.bK * k.bV∧k.bK * k.bV≤49:=by
 have h1:=h.wide
 have h2:=h.high
 have e1:2 * 2≤k.bK * k.bV:=Int.mul_le_mul h1.1 h2.1 (by decide) (by omega)
 have b:k.bK * k.bV≤7 * 7:=Int.mul_le_mul h1.2 h2.2 (by omega) (by decide)
 omega
theorem SS{k:bC}(b:VB k){n:Nat}(d:n≤1000000):hy (n:Int) k.bK=some (mD k n).bR∧gp (n:Int) k.bK=some (mD k n).bS:=by
 have h1:=b.wide
 have hd:(n:Int) / k.bK≤n:=Int.ediv_le_self _ (by omega)
 have c:0≤(n:Int) / k.bK:=Int.ediv_nonneg (by omega) (by omega)
 unfold hy gp mD
 rw [if_neg (by omega),if_neg (by omega),Int.tmod_eq_emod_of_nonneg (by omega),Int.tdiv_eq_ediv_of_nonneg (by omega),c9 (by omega) (by omega)]
 exact ⟨rfl,rfl⟩
theorem Hz{k:bC}(j:VB k){S:Type}(ys:c0→S→Option (S × Bool)){s:S}{r:S × Bool}(g:di ys (jC k) s=some r):p9 ys k s=some r.1:=by
 have h3:=j.c3
 have D:=j.AM
 unfold p9
 rw [c9 (by omega) (by omega)]
 have key:=yO (ys:=ys) (S:=S) (X:=Int × Int × Int × ah) (O:=S ⊕ S) (body:=λ (b:(S × Int × Int × Int × ah)) =>
  ab (decide (b.2.1 < k.bK * k.bV))
  ((hy b.2.1 k.bK).bind λ B =>
  (gp b.2.1 k.bK).bind λ C =>
  (je ys 9 0 k (⟨⟨B,C⟩,b.2.2.2.2⟩:c0) b.1).bind λ c =>
  ab (!c.2.2)
  (some (.inr (.inr c.1)))
  (some (.inl (c.1,i64 (b.2.1+1),c.2.1.at_.bR,c.2.1.at_.bS,c.2.1.off))))
  (some (.inr (.inl b.1))))
  (λ n=>(lvl (lR k) k.a9.length).map λ o=>(⟨mD k n,hq Z3 o⟩:c0)) (k.bK * k.bV).toNat (λ n x=>x.1=(n:Int)∧WB k.a9.length [] x.2.2.2) (λ s o=>o = .inl s) (λ s o=>o = .inr s)
  (λ n s x r E p g=>by
   obtain ⟨m,e,no,d⟩:=x
   obtain ⟨rfl,hd⟩:=p
   obtain ⟨z,A⟩:=SS j (n:=n) (by omega)
   rw [← wB] at g
   obtain ⟨f,h1,_,h2⟩:=AO j ys k.a9.length 9 [] ⟨mD k n,d⟩ s r (by simp) (by omega) hd (by simpa using g)
   have y:je ys 9 0 k (⟨⟨(mD k n).bR,(mD k n).bS⟩,d⟩:c0) s=some (r.1,(f,r.2)):=h1
   simp only [show decide ((n:Int) < k.bK * k.bV)=true by simp; omega,bf,z,A,aF,y,cj (i:=n) (by omega)]
   cases F:r.2 with
   | true=>exact ⟨(((n+1:Nat):Int),f.at_.bR,f.at_.bS,f.off),by simp [a3],rfl,h2⟩
   | false=>exact ⟨.inr r.1,by simp [bf],rfl⟩)
  (λ s x p=>by
   obtain ⟨m,e,no,d⟩:=x
   obtain ⟨rfl,hd⟩:=p
   refine ⟨.inl s,?_,rfl⟩
   simp only [show decide ((((k.bK * k.bV).toNat:Nat):Int) < k.bK * k.bV)=false by simp; omega,a3])
  (k.bK * k.bV).toNat 0 s (0,0,0,Z3) r (by omega) ⟨rfl,rfl,λ i hi=>by simp at hi,λ i _ hi=>by match i,hi with | 0,_=>rfl | 1,_=>rfl | 2,_=>rfl⟩ (by rw [← g,← List.range_eq_range']; rfl)
 obtain ⟨o,ho,w⟩:=key
 rw [eP ho]
 split at w
 ·subst w; rfl
 ·subst w; rfl
structure Aq (k:bC) (a:c0):Prop where
 len:a.off.length=3
 off:∀ i,i < k.a9.length → -3≤nth a.off i∧nth a.off i≤3
theorem D6{k:bC}(_:VB k){o:ah}(h:o∈lvl (lR k) k.a9.length):o.length=k.a9.length∧∀ i,i < k.a9.length→(nth k.a9 i).aZ≤nth o i∧nth o i≤(nth k.a9 i).bh:=by
 obtain ⟨h1,h2⟩:=nA.1 h
 exact ⟨h1,λ i hi=>vt.1 (h2 i hi)⟩
theorem AI{k:bC}(b:VB k){a:c0}(h:a∈jC k):Aq k a:=by
 unfold jC at h
 rw [List.mem_flatMap] at h
 obtain ⟨n,_,h⟩:=h
 obtain ⟨o,ho,rfl⟩:=List.mem_map.1 h
 obtain ⟨h1,h2⟩:=D6 b ho
 have h3:=b.c3
 obtain ⟨c1,c2,_⟩:=xL (c:=o) (by omega)
 refine ⟨c1,λ i hi=>?_⟩
 have:=h2 i hi
 have:=b.comp _ (eJ hi)
 rw [c2 i (by omega)]
 omega
noncomputable def ji(k:bC)(a:c0)(i:Nat):Bool:=!vR (nth k.bz i) a
def jX(k:bC)(i:Nat):Bool:=(nth k.bz i).n7
theorem HA{k:bC}(b:VB k){a:c0}(c:Aq k a):qa k a=some ((mk (ji k a) k.bz.length:Nat):Int):=by
 have h5:=b.w5
 have h3:=b.c3
 unfold qa
 refine (eP (iB (λ i=>(((mk (ji k a) i:Nat):Int),(i:Int))) k.bz.length (o:=((mk (ji k a) k.bz.length:Nat):Int)) (λ i hi=>?_) ?_)).trans rfl
 ·have hw:=b.Aj _ (eJ hi)
  have f:=hw.cmp
  have hl:=c.len
  obtain ⟨g,j⟩:=Fo (i:=i) (by omega) (sU (ji k a) i)
  simp only [dec_lt hi,bf,b9,bl hi,aF,HC (w:=nth k.bz i) (a:=a) (k:=k) ⟨f.1,by omega⟩ (c.off _ (by omega)),cj (i:=i) (by omega)]
  simp only [mk]
  cases d:vR (nth k.bz i) a with
  | true=>simp only [Bool.not_true,a3,show ji k a i=false by rw [ji,d]; rfl,fc,if_false,Nat.add_zero]
  | false=>simp only [Bool.not_false,bf,g,aF,j,show ji k a i=true by rw [ji,d]; rfl,if_true]
 ·simp only [dX,a3]
theorem Hx{k:bC}(c:VB k):sf k=some ((mk (jX k) k.bz.length:Nat):Int):=by
 have h5:=c.w5
 unfold sf
 refine (eP (iB (λ i=>(((mk (jX k) i:Nat):Int),(i:Int))) k.bz.length (o:=((mk (jX k) k.bz.length:Nat):Int)) (λ i hi=>?_) ?_)).trans rfl
 ·obtain ⟨d,f⟩:=Fo (i:=i) (by omega) (sU (jX k) i)
  simp only [dec_lt hi,bf,b9,bl hi,aF,cj (i:=i) (by omega)]
  simp only [mk]
  cases b:(nth k.bz i).n7 with
  | false=>simp only [a3,show jX k i=false from b,fc,if_false,Nat.add_zero]
  | true=>simp only [bf,d,aF,f,show jX k i=true from b,if_true]
 ·simp only [dX,a3]
noncomputable def nE(k:bC)(a:c0)(m:Nat):Bool :=
 (List.range 5).all (λ i=>!(mk (ji k a) k.bz.length).testBit i || m.testBit i) && ((List.range 5).all (λ i=>!(m.testBit i && (mk (jX k) k.bz.length).testBit i)) && decide (((tK m).length:Int)≤k.b8))
noncomputable def nc(k:bC)(a:c0):List fM:=((List.range (2 ^ k.bz.length)).filter (nE k a)).map λ m=>(⟨a,((m:Nat):Int)⟩:fM)
noncomputable def e8(k:bC):List fM:=(jC k).flatMap (nc k)
theorem Fs{n:Nat}(h:n≤5):2 ^ n≤32:=Nat.pow_le_pow_right (n:=2) (i:=n) (j:=5) (by decide) h
theorem C8{α β S:Type}(ys:β→S→Option (S × Bool)){body:α→S→Option (S ⊕ S)}(c:α→List β):∀ (l:List α),(∀ a∈l,∀ s r,di ys (c a) s=some r→body a s=some (if r.2=true then .inl r.1 else .inr r.1))→∀ (s:S) (r:S × Bool),di ys (l.flatMap c) s=some r →
  di (dM body) l (.inl s)=some (if r.2=true then .inl r.1 else .inr r.1,r.2)
 | [],_,s,r,b=>by
  simp only [List.flatMap_nil,di,ey] at b
  subst b
  rfl
 | a::l,h,s,r,b=>by
  rw [List.flatMap_cons,rR] at b
  obtain ⟨q,f,b⟩:=af b
  simp only [di,dM,h a (by simp) s q f,Option.map_some,aF]
  split at b
  ·rename_i h2
   simp only [h2,if_true,Sum.isLeft_inl]
   exact C8 ys c l (λ a d=>h a (by simp [d])) q.1 r b
  ·rename_i h2
   cases b
   simp only [h2,fc,if_false,Sum.isLeft_inr]
theorem Hw{k:bC}(d:VB k){S:Type}(ys:fM→S→Option (S × Bool)){s:S}{r:S × Bool}(b:di ys (e8 k) s=some r):qD ys k s=some r.1:=by
 have h5:=d.w5
 have R:=Fs h5
 have T:=sU (jX k) k.bz.length
 unfold qD
 rw [Hx d,aF]
 have J:gX .i64 1 (k.bz.length:Int)=some ((2 ^ k.bz.length:Nat):Int):=by
  generalize k.bz.length=n at h5
  match n,h5 with
  | 0,_=>decide +kernel
  | 1,_=>decide +kernel
  | 2,_=>decide +kernel
  | 3,_=>decide +kernel
  | 4,_=>decide +kernel
  | 5,_=>decide +kernel
 have key:=C8 ys (body:=λ (g:c0) (N:S)=>(((qa k g).bind λ P =>
  (gX .i64 1 (k.bz.length:Int)).bind λ Q =>
  (bb (O:=(S ⊕ S)) (λ (c:(S × Int)) =>
  ab (decide (c.2 < Q))
  (((((cC .andNot .i64 P c.2).bind λ w =>
  ab (w != 0)
  (some true)
  ((cC .and .i64 c.2 ((mk (jX k) k.bz.length:Nat):Int)).bind λ y =>
  ab (y != 0)
  (some true)
  ((oI c.2).bind λ z =>
  some (decide ((z.length:Int) > k.b8))))):a5)).bind (λ (M:Bool) =>
  ab M
  (some (.inl (c.1,i64 (c.2+1))))
  ((ys (⟨⟨⟨g.at_.bR,g.at_.bS⟩,g.off⟩,c.2⟩:fM) c.1).bind λ A =>
  ab (!A.2)
  (some (.inr (.inr A.1)))
  (some (.inl (A.1,i64 (c.2+1)))))))
  (some (.inr (.inl c.1)))) (N,0)).bind (Sum.elim (λ (L:S) =>
  some (.inl L))
   (λ q=>some (.inr q)))):Option (S ⊕ S))) (nc k) (jC k) (λ a D s r b=>?_) s r b
 ·rw [Hz d _ key,aF]
  cases r.2 <;> rfl
 ·have F:=AI d D
  have ho:=sU (ji k a) k.bz.length
  rw [HA d F,aF,J,aF]
  have H:nc k a=(List.range (2 ^ k.bz.length)).flatMap λ m=>if nE k a m then [(⟨a,((m:Nat):Int)⟩:fM)] else []:=by
   unfold nc
   induction List.range (2 ^ k.bz.length) with
   | nil=>rfl
   | cons m l K =>
    rw [List.filter_cons,List.flatMap_cons]
    cases nE k a m <;> simpa using K
  rw [H] at b
  refine (eP (NJ (ys:=ys) (E:=S) id (λ j=>((j:Nat):Int)) (λ m=>if nE k a m then [(⟨a,((m:Nat):Int)⟩:fM)] else []) (2 ^ k.bz.length) (λ m s r hm b=>?_) (λ s=>?_) b)).trans ?_
  ·have p:m < 32:=by omega
   obtain ⟨⟨z1,a1,C⟩,_⟩:=Gm (o:=mk (ji k a) k.bz.length) (m:=m) (by omega) p
   obtain ⟨_,z2,c1,c2⟩:=Gm (o:=mk (jX k) k.bz.length) (m:=m) (by omega) p
   have G:((cC .andNot .i64 ((mk (ji k a) k.bz.length:Nat):Int) (m:Int)).bind λ w =>
     ab (w != 0)
     (some true)
     ((cC .and .i64 (m:Int) ((mk (jX k) k.bz.length:Nat):Int)).bind λ y =>
     ab (y != 0)
     (some true)
     ((oI (m:Int)).bind λ z =>
     some (decide ((z.length:Int) > k.b8)))))=some (!nE k a m):=by
    rw [a1,aF,C,c1]
    unfold nE
    cases (List.range 5).all (λ i=>!(mk (ji k a) k.bz.length).testBit i || m.testBit i) with
    | false=>rfl
    | true =>
     rw [Bool.not_true,a3,aF,c2,Bool.true_and]
     cases (List.range 5).all (λ i=>!(m.testBit i && (mk (jX k) k.bz.length).testBit i)) with
     | false=>rfl
     | true =>
      rw [Bool.not_true,a3,HB p,aF,Bool.true_and]
      congr 1
      by_cases f:((tK m).length:Int)≤k.b8
      ·rw [c7 f,dH (by omega)]; rfl
      ·rw [dH f,c7 (by omega)]; rfl
   simp only [show decide ((m:Int) < ((2 ^ k.bz.length:Nat):Int))=true by rw [decide_eq_true_eq]; exact_mod_cast hm,bf,G,aF,cj (i:=m) (by omega)]
   cases B:nE k a m with
   | false =>
    rw [B] at b
    simp only [fc,if_false,di,ey] at b
    subst b
    rfl
   | true =>
    rw [B] at b
    simp only [if_true,di] at b
    obtain ⟨q,f,b⟩:=af b
    have I:ys (⟨⟨⟨a.at_.bR,a.at_.bS⟩,a.off⟩,(m:Int)⟩:fM) s=some q:=f
    rw [Bool.not_true,a3,I,aF]
    split at b
    ·rename_i h2; cases b; simp [h2,a3]
    ·rename_i h2; cases b; simp at h2; simp [h2,bf]
  ·simp only [show decide ((((2 ^ k.bz.length:Nat):Int)) < ((2 ^ k.bz.length:Nat):Int))=false by simp,a3]
  ·cases r.2 <;> rfl
theorem D3{α:Type}{ext:Nat→List α→List α}(h:∀ i p,(ext i p).length≤3):∀ n,(lvl ext n).length≤3 ^ n
 | 0=>by simp [lvl]
 | n+1=>by
  have b:=D3 h n
  have:=pS (λ p=>(ext n p).map λ x=>p++[x]) 3 (λ p=>by rw [List.length_map]; exact h n p) (lvl ext n)
  simp only [lvl]
  rw [Nat.pow_succ]
  omega
theorem D1{k:bC}(b:VB k):(e8 k).length≤50000:=by
 have h1:∀ a,(nc k a).length≤32:=λ a=>by
  unfold nc
  rw [List.length_map]
  have:=List.length_filter_le (nE k a) (List.range (2 ^ k.bz.length))
  rw [List.length_range] at this
  have:=Fs b.w5
  omega
 have c:∀ i p,(lR k i p).length≤3:=λ i p=>by
  by_cases hi:i < k.a9.length
  ·exact FH (b.comp _ (eJ hi)).2.2.2
  ·have:nth k.a9 i=⟨0,0⟩:=by unfold nth; rw [hF,List.getElem?_eq_none (by omega)]; rfl
   show (nP (nth k.a9 i)).length≤3
   rw [this]
   decide
 have h2:(lvl (lR k) k.a9.length).length≤27:=Nat.le_trans (D3 c _) (Nat.pow_le_pow_right (n:=3) (i:=k.a9.length) (j:=3) (by decide) b.c3)
 have h3:(jC k).length≤49 * 27:=by
  unfold jC
  have:=pS (λ n:Nat=>(lvl (lR k) k.a9.length).map λ o=>(⟨mD k n,hq Z3 o⟩:c0)) 27 (λ n=>by rw [List.length_map]; exact h2) (List.range (k.bK * k.bV).toNat)
  rw [List.length_range] at this
  have d:=b.AM
  omega
 have:=pS (nc k) 32 h1 (jC k)
 unfold e8
 omega
def QE:n1:=⟨⟨0,0,0,[],[]⟩,[]⟩
theorem oe{k:bC}(b:VB k){own:bC→b5}(d:own k=some 0):qq k own=some (if e8 k=[] then (QE,9) else (⟨k,e8 k⟩,0)):=by
 have hl:=D1 b
 unfold qq
 rw [b.check,aF,bne_self_eq_false,a3,d,aF,bne_self_eq_false,a3]
 have key:∀ (l a:List fM),l.foldl (λ s c=>s++[c]) a=a++l:=by
  intro l
  induction l with
  | nil=>simp
  | cons c l g=>intro a; rw [List.foldl_cons,g]; simp
 rw [Hw b _ (r:=(.inl ((e8 k).foldl (λ (s:List fM) c=>s++[c]) []),true)) (rS (λ k s=>s.length=k) (λ c s=>s++[c]) _ 0 [] rfl (λ j s a m f _=>by
  rw [jD (by simp; omega)]
  exact ⟨rfl,by simp [f]⟩))]
 rw [aF,Sum.elim_inl,key,List.nil_append]
 cases i:e8 k with
 | nil=>rfl
 | cons c l=>rw [if_neg (by simp),show ((((c::l).length:Nat):Int) == 0)=false by simp; omega,a3]
theorem DZ{k:bC}{c:fM}(h:c∈e8 k):c.g5∈jC k:=by
 unfold e8 at h
 obtain ⟨a,b,h⟩:=List.mem_flatMap.1 h
 unfold nc at h
 obtain ⟨m,_,rfl⟩:=List.mem_map.1 h
 exact b
theorem Ha{k:bC}(b:VB k){a:c0}(h:a∈jC k){i:Nat}(hi:i < k.a9.length):(nth k.a9 i).aZ≤nth a.off i∧nth a.off i≤(nth k.a9 i).bh:=by
 unfold jC at h
 obtain ⟨n,_,h⟩:=List.mem_flatMap.1 h
 obtain ⟨o,ho,rfl⟩:=List.mem_map.1 h
 obtain ⟨h1,h2⟩:=D6 b ho
 have h3:=b.c3
 obtain ⟨_,c2,_⟩:=xL (c:=o) (by omega)
 rw [c2 i (by omega)]
 exact h2 i hi
noncomputable def mi(k:bC)(j:Nat):ah:=fE ((e8 k).map λ c=>nth c.g5.off j)
theorem Qs{k:bC}{j:Nat}{n:Int}:n∈mi k j↔∃ c∈e8 k,nth c.g5.off j=n:=by
 unfold mi
 rw [jO,List.mem_map]
theorem Ff{k:bC}(f:VB k){j:Nat}(d:j < k.a9.length){n:Int}(h:n∈mi k j):(nth k.a9 j).aZ≤n∧n≤(nth k.a9 j).bh:=by
 obtain ⟨c,b,rfl⟩:=Qs.1 h
 exact Ha f (DZ b) d
theorem Fg{k:bC}(c:VB k){j:Nat}(b:j < k.a9.length):(mi k j).length≤3:=by
 have d:=c.comp _ (eJ b)
 refine Nat.le_trans (r7 (m:=nP (nth k.a9 j)) id ((qT _).imp λ h=>by omega) (λ _ _ _ _ h=>h) λ n f=>?_) (FH d.2.2.2)
 exact vt.2 (Ff c b f)
theorem AR{k:bC}(f:VB k){j:Nat}(B:j < k.a9.length)(p:e8 k≠[]):m8 k (j:Int)=some (mi k j,0):=by
 have h3:=f.c3
 have hl:=D1 f
 unfold m8
 rw [oe f (own:=λ y=>qs y (j:Int)) (by unfold qs; rw [jE _ _ (by omega),dE.2 (by omega)]; rfl),if_neg p,aF,bne_self_eq_false,a3]
 refine (eP (o:=(e8 k).map λ c=>nth c.g5.off j) ?_).trans ?_
 ·have m:(([]:ah),(0:Int))=(λ q:Nat=>(((e8 k).take q).map (λ c=>nth c.g5.off j),(q:Int))) 0:=rfl
  rw [m]
  refine iB (λ q:Nat=>(((e8 k).take q).map (λ c=>nth c.g5.off j),(q:Int))) (e8 k).length (λ q b=>?_) (by simp only [dX,a3,List.take_length])
  have n:(e8 k)[q]∈e8 k:=List.getElem_mem b
  have A:=(AI f (DZ n)).len
  have z:(e8 k)[q].g5.off[j]? = some (nth (e8 k)[q].g5.off j):=bl (by omega)
  simp only [dec_lt b,bf,b9,fy b,z,aF,cj (i:=q) (by omega)]
  rw [jD (by simp; omega),aF,List.take_succ_eq_append_getElem b,List.map_append]
  rfl
 ·obtain ⟨t,w,g,s⟩:=Ex (l:=(e8 k).map λ c=>nth c.g5.off j) (by unfold gj; rw [List.length_map]; omega)
  obtain ⟨d,hd,h1,h2⟩:=Ez (l:=t) (by unfold gj; rw [g.length_eq,List.length_map]; omega) s
  rw [w,aF,hd,aF,rm d (mi k j) h1 (qT _) λ x=>by rw [h2,g.mem_iff,mi,jO]]
def jY(k:bC)(i:Nat)(x:Reach):bC:=⟨k.bK,k.bV,k.b8,k.a9.set i ⟨max (nth k.a9 i).aZ x.aZ,min (nth k.a9 i).bh x.bh⟩,k.bz⟩
theorem wz(k:bC)(i:Nat)(x:Reach):(jY k i x).a9.length=k.a9.length:=List.length_set
theorem S2{k:bC}(b:VB k){i:Nat}(hi:i < k.a9.length){x:Reach}(h:max (nth k.a9 i).aZ x.aZ≤min (nth k.a9 i).bh x.bh):VB (jY k i x):=by
 have hl:=wz k i x
 refine ⟨b.wide,b.high,b.C7,by rw [hl]; exact b.c1,by rw [hl]; exact b.c3,λ y c=>?_,b.w5,λ w hw=>?_⟩
 ·have d:=b.comp _ (eJ hi)
  rcases List.mem_or_eq_of_mem_set c with h1 | rfl
  ·exact b.comp y h1
  ·simp only
   omega
 ·rw [hl]
  exact b.Aj w hw
theorem Gi{k:bC}{i:Nat}(hi:i < k.a9.length){x:Reach}{c:fM}(h:c∈e8 (jY k i x)):c∈e8 k:=by
 have hl:=wz k i x
 unfold e8 at h ⊢
 obtain ⟨a,b,h⟩:=List.mem_flatMap.1 h
 refine List.mem_flatMap.2 ⟨a,?_,h⟩
 unfold jC at b ⊢
 obtain ⟨n,f,b⟩:=List.mem_flatMap.1 b
 obtain ⟨o,ho,rfl⟩:=List.mem_map.1 b
 refine List.mem_flatMap.2 ⟨n,f,List.mem_map.2 ⟨o,?_,rfl⟩⟩
 rw [hl] at ho
 obtain ⟨h1,h2⟩:=nA.1 ho
 refine nA.2 ⟨h1,λ j d=>?_⟩
 have h3:=vt.1 (h2 j d)
 refine vt.2 ?_
 by_cases e:i=j
 ·subst e
  rw [show nth (jY k i x).a9 i=_ from sY hi] at h3
  simp only at h3
  omega
 ·rw [show nth (jY k i x).a9 j=_ from pe e] at h3
  exact h3
theorem HI{k:bC}(b:VB k){i:Nat}(hi:i < k.a9.length)(x:Reach):(∃ o z,m7 k (i:Int) x=some (o,z)∧z≠0)∨m7 k (i:Int) x=some (jY k i x,0)∧VB (jY k i x)∧e8 (jY k i x)≠[]:=by
 have h3:=b.c3
 have h5:=b.w5
 unfold m7
 rw [b.check,aF,bne_self_eq_false,a3,show (⟨k.bK,k.bV,k.b8,k.a9,k.bz⟩:bC)=k from rfl,jE _ _ (by omega),dE.2 (by omega),aF,if_pos rfl,bne_self_eq_false,a3,AP,aF]
 cases lT x (-3) 3 with
 | false=>exact .inl ⟨_,1,rfl,by decide⟩
 | true =>
  rw [Bool.not_true,a3,b9,bl hi,aF,zh,Qu]
  by_cases d:max (nth k.a9 i).aZ x.aZ > min (nth k.a9 i).bh x.bh
  ·rw [c7 d,bf]
   exact .inl ⟨_,9,rfl,by decide⟩
  ·rw [dH d,a3,show kE k.a9=some k.a9 by unfold kE; rw [jD (by simp; omega)]; rfl,aF,b9,bl hi,aF,cI,
    show (⟨k.bK,k.bV,k.b8,k.a9.set i (⟨max (nth k.a9 i).aZ x.aZ,min (nth k.a9 i).bh x.bh⟩:Reach),k.bz⟩:bC)=jY k i x from rfl]
   have f:=S2 b hi (x:=x) (by omega)
   have hl:=wz k i x
   unfold vf
   rw [oe f (own:=λ y=>sS y) rfl]
   by_cases c:e8 (jY k i x)=[]
   ·rw [if_pos c]
    exact .inl ⟨_,9,rfl,by decide⟩
   ·refine .inr ⟨?_,f,c⟩
    rw [if_neg c,aF,bne_self_eq_false,a3]
    unfold kE sT
    rw [jD (by simp only [List.length_nil]; omega),jD (by simp only [List.length_nil]; rw [show (jY k i x).bz=k.bz from rfl]; omega)]
    rfl
def gK(b:an)(p:Nat)(x:Reach):an:=⟨b.Rest,b.Rows,b.aJ.set p x,b.ay,b.az,b.a0⟩
theorem vx(b:an)(p:Nat)(x:Reach):(gK b p x).aJ.length=b.aJ.length:=List.length_set
theorem E7{b:an}(c:Valid b){p:Nat}{x:Reach}(g:1≤x.aZ∧x.aZ≤x.bh∧x.bh≤30∧x.bh - x.aZ < 3):Valid (gK b p x):=by
 have hl:=vx b p x
 refine ⟨c.rest,c.r1,c.r4,c.row,c.BT,by rw [hl]; exact c.p1,by rw [hl]; exact c.p3,λ y i=>?_,c.m1,c.m4,c.zd,c.names,c.d1,c.d4,λ d hd=>by rw [hl]; exact c.xT d hd,c.s3,λ s f=>by rw [hl]; exact c.sound s f⟩
 rcases List.mem_or_eq_of_mem_set i with h1 | rfl
 ·exact c.place y h1
 ·exact g
theorem zk{b:an}{p:Nat}(f:p < b.aJ.length){x y:Reach}(h:x.aZ≤y.aZ∧y.bh≤x.bh){c:ah}(d:c∈b7 (gK b p y)):c∈b7 (gK b p x):=by
 rw [qE,vx] at d ⊢
 obtain ⟨⟨h1,h2⟩,h3⟩:=d
 refine ⟨⟨h1,λ i hi=>?_⟩,h3⟩
 have h4:=h2 i hi
 by_cases e:p=i
 ·subst e
  rw [show nth (gK b p y).aJ p=y from sY f] at h4
  rw [show nth (gK b p x).aJ p=x from sY f]
  omega
 ·rw [show nth (gK b p y).aJ i=_ from pe e] at h4
  rw [show nth (gK b p x).aJ i=_ from pe e]
  exact h4
theorem LX{b:an}(d:Valid b)(c:b.a0=[]):b7 b≠[]:=by
 have h:(b.aJ.map λ x=>x.aZ)∈b7 b:=by
  rw [qE]
  refine ⟨⟨List.length_map ..,λ i hi=>?_⟩,by unfold nN; rw [c]; rfl⟩
  have e:nth (b.aJ.map λ x=>x.aZ) i=(nth b.aJ i).aZ:=by
   have h1:=bl hi
   have h2:(b.aJ.map λ x=>x.aZ)[i]? = some (nth b.aJ i).aZ:=by rw [List.getElem?_map,h1]; rfl
   rw [bl (show i < (b.aJ.map λ x=>x.aZ).length by rw [List.length_map]; exact hi)] at h2
   exact eI h2
  rw [e]
  have:=d.each hi
  omega
 intro e
 rw [e] at h
 cases h
theorem E6(b:an)(p:Nat)(x:Reach)(w:ah)(k i:Nat):gv (gK b p x) w k i=gv b w k i:=rfl
theorem Qy{b:an}{p:Nat}(f:p < b.aJ.length){x y:Reach}(h:x.aZ≤y.aZ∧y.bh≤x.bh)(j:Valid (gK b p x))(ho:Valid (gK b p y))(d:b7 (gK b p y)≠[]):hk (gK b p x) (gK b p y):=by
 obtain ⟨c,g⟩:=List.exists_mem_of_ne_nil _ d
 refine ⟨j,ho,⟨λ e=>absurd (zk f h g) (by rw [e]; simp),λ e=>absurd e d⟩,⟨cq _,rfl,λ _ _=>rfl,λ i k _ _ hi=>?_,λ _ _ _ _ h=>h,λ _ _ h=>h,λ _ _ h=>h⟩,λ _ _=>rfl⟩
 have hi:hp (gK b p x) i k=true:=hi
 show hp (gK b p y) i k=true
 unfold hp at hi ⊢
 rw [List.all_eq_true] at hi ⊢
 exact λ w hw=>hi w (zk f h hw)
theorem Pq{A C:an}(M:hk A C)(B:∀ c,c∈b7 C→c∈b7 A)(d:b7 C≠[])(G:A.ay=C.ay)(J:A.az=C.az)(hm:∀ w k i,gv C w k i=gv A w k i){p k i:Nat}(H:p < A.aJ.length)(I:p < C.aJ.length)(n:k < A.ay.length)(hi:i < A.az.length):sF A C (p:Int) (k:Int) (i:Int)=some true:=by
 have b:=M.va
 have ho:=M.vc
 have s:b7 A≠[]:=λ h=>d (M.case.1 h)
 have F:eY A 0=0:=CQ b rfl s
 have h1:eY C 0=0:=CQ ho rfl d
 have V:=tY b
 have Z:=List.length_pos_iff.2 d
 have ac:(b7 C).length≤(b7 A).length:=r7 id (H6 C) (λ _ _ _ _ e=>e) B
 have E:∀ {c:an},Valid c→b7 c≠[]→k < c.ay.length→i < c.az.length→vq c (k:Int) (i:Int)=(gU ((b7 c).filter λ w=>gv c w k i).length (b7 c).length,0):=λ {c} S g n hi=>by
  unfold vq
  rw [kS.2 S,Dl.2 ⟨k,rfl,n⟩,Dk.2 ⟨i,rfl,hi⟩]
  simp [g]
 unfold sF
 rw [Ej b.sm,BO b,Ej ho.sm,BO ho,Ek b.sm,B8 b H,Ek ho.sm,B8 ho (I),El b.sm,E b s n hi,El ho.sm,E ho d (by rw [← G]; exact n) (by rw [← J]; exact hi)]
 have W:=B7 b H
 have Y:=B7 ho (I)
 have P:((kj C p).all λ x=>(kj A p).contains x)=true:=by
  rw [List.all_eq_true]
  intro x D
  rw [List.contains_iff_mem]
  obtain ⟨c,g,e⟩:=xS.1 D
  exact xS.2 ⟨c,B _ g,e⟩
 have O:=Mg (p:=λ w=>gv A w k i) (l:=b7 A) (m:=b7 C) B d
 have em:(λ w=>gv C w k i)=λ w=>gv A w k i:=funext λ w=>hm w k i
 have Q:ab (gU ((b7 A).filter λ w=>gv A w k i).length (b7 A).length != 0) (some (gU ((b7 A).filter λ w=>gv A w k i).length (b7 A).length != gU ((b7 C).filter λ w=>gv A w k i).length (b7 C).length)) (some false)=some false:=by
  cases D:(gU ((b7 A).filter λ w=>gv A w k i).length (b7 A).length != 0) with
  | false=>rfl
  | true=>rw [bf,← O D]; simp
 simp only [aF,if_neg s,if_neg d,bne_self_eq_false,a3,iF,dE.2 (show (1:Int)≤((b7 C).length:Int)∧((b7 C).length:Int)≤((b7 A).length:Int) by omega),Bool.not_true,EA (show (kj C p).length≤1000 by omega) (show (kj A p).length≤1000 by omega),P,em,Q]
 rw [En b.sm,En ho.sm,Eo b.sm,Eo ho.sm,Ep b.sm,Ep ho.sm,Er b.sm,Er ho.sm]
 unfold zH yx xM xW
 rw [F,h1]
 simp only [ne_eq,fW,if_false,aF,bne_self_eq_false,a3,beq_self_eq_true,bf]
 have ad:=M.many
 have L:=M.drop
 have T:decide (((gh A).length:Int) < 0)=false:=by simp
 have U:decide (((gh C).length:Int) < ((gh A).length:Int))=false:=by simp; omega
 have y:decide (((df C.az.length (mZ C) (2 ^ C.az.length)).1.length:Int)≤((df A.az.length (mZ A) (2 ^ A.az.length)).1.length:Int))=true:=by simpa using L
 have hgo:∀ c:an,e7 c (eW c) 0=!(gh c).isEmpty:=λ _=>rfl
 simp only [T,U,a3]
 cases hb:gh A with
 | nil =>
  have j:e7 A (eW A) 0=false:=by rw [hgo,hb]; rfl
  rw [BY b j]
  cases o:gh C with
  | nil =>
   have f:e7 C (eW C) 0=false:=by rw [hgo,o]; rfl
   rw [BY ho f]
   exact congrArg some y
  | cons q m =>
   have f:e7 C (eW C) 0=true:=by rw [hgo,o]; rfl
   have z:decide ((((q::m).length:Nat):Int) > 0)=true:=by simp
   simp only [(rF f).1,z]
   exact congrArg some y
 | cons r l =>
  obtain ⟨q,m,o,hle⟩:=M.fair F hb
  have j:e7 A (eW A) 0=true:=by rw [hgo,hb]; rfl
  obtain ⟨f,K⟩:=M.oj (by rw [G]) j
  rw [o]
  have R:decide ((((r::l).length:Nat):Int) > 0)=true:=by simp
  have z:decide ((((q::m).length:Nat):Int) > 0)=true:=by simp
  have N:decide (gu C (fA (gu C) q m) > gu A (fA (gu A) r l))=false:=by simpa using hle
  have g:decide (((df C.ay.length (Go.Proofs.YtikficpdfaajlaaGreatDoor.iV C) (2 ^ C.ay.length)).1.length:Int) > ((df A.ay.length (Go.Proofs.YtikficpdfaajlaaGreatDoor.iV A) (2 ^ A.ay.length)).1.length:Int))=false:=by simpa using K
  simp only [(rF j).1,(rF f).1,R,z,beq_self_eq_true,Bool.not_true,a3,bf,N,g]
  exact congrArg some y
theorem HH{b:an}(n:Valid b)(E:b.a0=[]){l m:ah}{a z d f:Int}(h1:(((l.length:Nat):Int) == 0)=false)(h2:(((m.length:Nat):Int) == 0)=false)(C:o0 m l=some true)
  (e1:idx l 0=some a) (s:idx m 0=some d) (y:idx l (i64 ((l.length:Int) - 1))=some z) (A:idx m (i64 ((m.length:Int) - 1))=some f) (k1 : -3≤a∧a≤d∧d≤f∧f≤z∧z≤3) (k2:z - a < 3)
  {p k i:Nat} (g:p < b.aJ.length) (D:k < b.ay.length) (B:i < b.az.length):m9 b (p:Int) l m (k:Int) (i:Int)=some true:=by
 have h3:=n.p3
 have j:Valid (gK b p ⟨10+a,10+z⟩):=E7 n (by simp only; omega)
 have hC:Valid (gK b p ⟨10+d,10+f⟩):=E7 n (by simp only; omega)
 have o:=LX hC E
 have hle:(10:Int)+a≤10+d∧(10:Int)+f≤10+z:=by omega
 have key:=Pq (Qy g hle j hC o) (λ c h=>zk g hle h) o rfl rfl (λ w k i=>(E6 ..).trans (E6 ..).symm) (p:=p) (k:=k) (i:=i) (by rw [vx]; exact g) (by rw [vx]; exact g) D B
 have c1:=(yR j.sm).trans (congrArg some (kS.2 j))
 have c2:=(yR hC.sm).trans (congrArg some (kS.2 hC))
 unfold gK at key c1 c2
 unfold m9
 rw [h1,a3,h2,a3,C,aF,aF,Bool.not_true,a3,jD (by simp only [List.length_nil]; omega),List.nil_append,aF,aF,e1,aF,y,aF,c9 (z:=10+a) (by omega) (by omega),c9 (z:=10+z) (by omega) (by omega),
  show kB (10+a) (10+z)=some ⟨10+a,10+z⟩ from rfl,aF,s,aF,A,aF,c9 (z:=10+d) (by omega) (by omega),c9 (z:=10+f) (by omega) (by omega),show kB (10+d) (10+f)=some ⟨10+d,10+f⟩ from rfl,aF,
  b9,bl g,aF,aF,cI,c1,aF,beq_self_eq_true,bf,c2,aF,beq_self_eq_true,bf,key]
 rfl
theorem HG{b:an}(y:Valid b)(w:b.a0=[]){u v:ah}(c:v≠[])(d:∀ x∈v,x∈u){lo hi:Int}(B : -3≤lo)(z:hi≤3)(hw:hi - lo < 3)(hb:∀ x∈u,lo≤x∧x≤hi)(hlen:(fE u).length≤3)(A:(fE v).length≤3)
  {p k i:Nat} (s:p < b.aJ.length) (o:k < b.ay.length) (m:i < b.az.length):m9 b (p:Int) (fE u) (fE v) (k:Int) (i:Int)=some true:=by
 have f:u≠[]:=λ e=>by
  obtain ⟨x,g⟩:=List.exists_mem_of_ne_nil _ c
  have:=d x g
  rw [e] at this
  cases this
 have p1:=wi f
 have p2:=wi c
 have f1:=F7 f
 have l1:=F8 f
 have f2:=F7 c
 have j:=F8 c
 have b1:=hb _ f1.1
 have b2:=hb _ l1.1
 have c1:=f1.2 _ (d _ f2.1)
 have c2:=l1.2 _ (d _ j.1)
 have c3:=f2.2 _ j.1
 have n:((fE v).all λ x=>(fE u).contains x)=true:=by
  rw [List.all_eq_true]
  intro x g
  rw [List.contains_iff_mem]
  exact (jO _ _).2 (d x ((jO _ _).1 g))
 exact HH y w (by rw [beq_eq_false_iff_ne]; omega) (by rw [beq_eq_false_iff_ne]; omega) (by rw [EA (by omega) (by omega),n]) ((b9 _ 0).trans (bl p1)) ((b9 _ 0).trans (bl p2)) (by rw [fB (by omega) p1,b9]; exact bl (by omega)) (by rw [fB (by omega) p2,b9]; exact bl (by omega)) (by omega) (by omega) s o m
theorem Mx(b:an)(k:bC)(x2 x3:Int)(x:Reach)(x5 x6 x7:Int)(h2:0≤x2∧x2 < 256)(h3:0≤x3∧x3 < 256)(h5:0≤x5∧x5 < 256)(h6:0≤x6∧x6 < 256)(A:0≤x7∧x7 < 256):m3 b k x2 x3 x x5 x6 x7=some true:=by
 unfold m3
 generalize hb:(⟨b.Rest,b.Rows,b.aJ,b.ay,b.az,[]⟩:an)=o
 have J:o.a0=[]:=by rw [← hb]
 have H:b.aJ=o.aJ:=by rw [← hb]
 have G:b.ay=o.ay:=by rw [← hb]
 have F:b.az=o.az:=by rw [← hb]
 rw [Px,aF,R7,H,G,F]
 cases N:oz o with
 | true=>rfl
 | false =>
 by_cases h1:fi o=0
 case neg =>
  have:(fi o == 0)=false:=by simpa using h1
  rw [this]
  rfl
 have m:=kS.1 h1
 have P:=m.p1
 have O:=m.m1
 have M:=m.d1
 rw [h1]
 obtain ⟨z,y,K⟩:=LV k
 rw [y]
 cases z with
 | false=>rfl
 | true =>
 have g:=K rfl
 have L:=g.c1
 simp only [Bool.not_false,beq_self_eq_true,Bool.and_true,Bool.not_true,a3,aF]
 rw [ta h2.1 h2.2 (by omega),aF,ta h3.1 h3.2 (by omega),aF]
 have hi:x2.toNat % k.a9.length < k.a9.length:=Nat.mod_lt _ (by omega)
 have f:x3.toNat % k.a9.length < k.a9.length:=Nat.mod_lt _ (by omega)
 generalize x2.toNat % k.a9.length=i at hi ⊢
 generalize x3.toNat % k.a9.length=j at f ⊢
 rcases HI g hi x with ⟨w,z,e,y⟩ | ⟨e,C,s⟩
 ·rw [e,aF,kL y,bf]
 ·have I:e8 k≠[]:=λ E=>by
   obtain ⟨c,d⟩:=List.exists_mem_of_ne_nil _ s
   have:=Gi hi d
   rw [E] at this
   cases this
  have B:j < (jY k i x).a9.length:=by rw [wz]; exact f
  have d:=g.comp _ (eJ f)
  rw [e,aF,bne_self_eq_false,a3,AR g f I,aF,AR C B s,aF,beq_self_eq_true,bf,bf,ta h5.1 h5.2 (by omega),aF,ta h6.1 h6.2 (by omega),aF,ta A.1 A.2 (by omega),aF]
  have l1:=Fg g f
  have D:=Fg C B
  unfold mi at l1 D ⊢
  rw [HG m J (by simpa using s) (λ n p=>by
   obtain ⟨c,d,rfl⟩:=List.mem_map.1 p
   exact List.mem_map.2 ⟨c,Gi hi d,rfl⟩) d.1 d.2.2.1 d.2.2.2 (λ n p=>Ff g f (by unfold mi; rw [jO]; exact p)) l1 D (Nat.mod_lt _ (by omega)) (Nat.mod_lt _ (by omega)) (Nat.mod_lt _ (by omega)),aF,bf]
end Go.Proofs.YtikficpdfaajlaaGreatDoor
