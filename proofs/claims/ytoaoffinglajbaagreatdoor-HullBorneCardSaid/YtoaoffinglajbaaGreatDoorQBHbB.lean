/- Plain laws of the other chapter. Conditions: none. -/
import Derived.Test.YtoaoffinglajbaaGreatDoorQBHbM
import Derived.Test.YtoaoffinglajbaaGreatDoorQBStP
import Derived.Test.YtoaoffinglajbaaGreatDoorQBHbC
namespace Go.Proofs.YtoaoffinglajbaaGreatDoor
open Go.Lg Go.Proofs
set_option maxRecDepth 10000
instance MI:Inhabited Reach:=⟨⟨0,0⟩⟩
instance MK:Inhabited de:=⟨⟨0,0⟩⟩
instance ML:Inhabited eH:=⟨⟨⟨0,0⟩,0,0,false⟩⟩
instance MH:Inhabited eY:=⟨⟨⟨⟨0,0⟩,[]⟩,0⟩⟩
theorem pf{S O:Type}{body:S→Option (S ⊕ O)}(I:Nat→S→Prop)(Q:O→Prop)(n:Nat)(h:∀ i s,i < n→I i s→(∃ s',body s=some (.inl s')∧I (i+1) s')∨∃ o,body s=some (.inr o)∧Q o)(y:∀ s,I n s→∃ o,body s=some (.inr o)∧Q o){s:S}(m:I 0 s):∃ o,a1 body s=some o∧Q o:=by
 have key:∀ k i s,i+k=n→I i s→∃ o,a1 body s=some o∧Q o:=by
  intro k
  induction k with
  | zero =>
   intro i s hi g
   obtain rfl:i=n:=by omega
   obtain ⟨o,d,f⟩:=y s g
   exact ⟨o,dO d,f⟩
  | succ k z =>
   intro i s hi g
   rcases h i s (by omega) g with ⟨s',d,f⟩ | ⟨o,d,f⟩
   ·rw [gC d]
    exact z (i+1) s' (by omega) f
   ·exact ⟨o,dO d,f⟩
 exact key n 0 s (by omega) m
structure vV (n:Nat) (w:eH):Prop where
 tf : -20≤w.U.aQ∧w.U.aQ≤20
 uY : -20≤w.U.aZ∧w.U.aZ≤20
 sM:0≤w.dS∧w.dS≤7
 cmp:0≤w.cz∧w.cz < (n:Int)
structure VB (k:bg):Prop where
 wide:2≤k.a9∧k.a9≤7
 high:2≤k.bh∧k.bh≤7
 jW:0≤k.a5∧k.a5≤2
 c1:1≤k.a4.length
 c3:k.a4.length≤3
 comp:∀ x∈k.a4,-3≤x.ai∧x.ai≤x.ak∧x.ak≤3∧x.ak - x.ai < 3
 w5:k.aN.length≤5
 oB:∀ w∈k.aN,vV k.a4.length w
theorem lV(n a c:Int):en n a c=some (b1 n a c):=by
 unfold en b1
 cases decide (a≤n) <;> rfl
theorem h2(n a c:Int):hK n a c=some (b1 n a c):=by
 unfold hK b1
 cases decide (a≤n) <;> rfl
def kL(x:Reach)(a c:Int):Bool:=decide (a≤x.ai) && (decide (x.ai≤x.ak) && decide (x.ak≤c))
theorem gN(x:Reach)(a c:Int):jz x a c=some (kL x a c):=by
 unfold jz kL
 cases decide (a≤x.ai) <;> cases decide (x.ai≤x.ak) <;> rfl
theorem oX(x:Reach)(a c:Int):pD x a c=some (kL x a c):=by
 unfold pD kL
 cases decide (a≤x.ai) <;> cases decide (x.ai≤x.ak) <;> rfl
theorem tV{x:Reach}{a c:Int}:kL x a c=true↔a≤x.ai∧x.ai≤x.ak∧x.ak≤c:=by simp [kL]
def kg(s:de):Bool:=b1 s.aQ (-20) 20 && b1 s.aZ (-20) 20
theorem cC(s:de):n8 s=some (kg s):=by
 unfold n8 kg
 rw [lV,lV]
 cases b1 s.aQ (-20) 20 <;> rfl
theorem B7(s:de):pE s=some (kg s):=by
 unfold pE kg
 rw [h2,h2]
 cases b1 s.aQ (-20) 20 <;> rfl
theorem nh(k:bg)(n:Int)(h:k.a4.length≤1000):n9 k n=some (b1 n 0 ((k.a4.length:Int) - 1)):=by
 unfold n9
 rw [lV,bZ (by omega) (by omega)]
 rfl
theorem qF(t:Bool):oc t=some (if t then 0 else 6):=by unfold oc; cases t <;> rfl
theorem B8(k:bg)(n:Int)(h:k.a4.length≤1000):pF k n=some (if b1 n 0 ((k.a4.length:Int) - 1) then 0 else 6):=by
 unfold pF
 rw [h2,bZ (by omega) (by omega)]
 simp only [aD,qF]
theorem gx(k:bg)(n:Int)(h:k.aN.length≤1000):pL k n=some (if b1 n 0 ((k.aN.length:Int) - 1) then 0 else 6):=by
 unfold pL
 rw [h2,bZ (by omega) (by omega)]
 simp only [aD,qF]
def l0(x:Reach):Bool:=kL x (-3) 3 && decide (x.ak - x.ai < 3)
theorem Co{x:Reach}:l0 x=true ↔ -3≤x.ai∧x.ai≤x.ak∧x.ak≤3∧x.ak - x.ai < 3:=by
 unfold l0
 rw [dn,tV,decide_eq_true_eq]
 omega
theorem Au(a b:Bool){x:Option Bool}(h:x=some b):ab (!a) (some true) x=some (!a || b):=by
 subst h; cases a <;> rfl
theorem Cp(x:Reach){α:Type}{p q:Option α}:(jz x (-3) 3).bind (λ y=>ab (!y) p (ab (decide (i64 (x.ak - x.ai) ≥ 3)) p q))=ab (l0 x) q p:=by
 rw [gN,aD]
 unfold l0
 cases h:kL x (-3) 3 with
 | false=>rfl
 | true =>
  rw [tV] at h
  rw [Bool.not_true,aS,bZ (by omega) (by omega),Bool.true_and]
  by_cases d:x.ak - x.ai < 3
  ·rw [cr d,cY (by omega)]; rfl
  ·rw [cY d,cr (by omega)]; rfl
theorem Fl(k:bg):∃ z,m5 k=some z∧(z=true→VB k):=by
 unfold m5 ry
 by_cases R:k.a4.length > 20
 ·rw [cr (by omega)]
  exact ⟨false,rfl,λ h=>by cases h⟩
 rw [cY (by omega),aS,aD]
 by_cases S:k.aN.length > 20
 ·rw [cr (by omega)]
  exact ⟨false,rfl,λ h=>by cases h⟩
 rw [cY (by omega),Bool.not_false,a3]
 unfold rz
 simp only [lV,aD]
 rw [Au _ _ (Au _ _ rfl),aD]
 cases D:b1 k.a9 2 7 with
 | false=>exact ⟨false,rfl,λ h=>by cases h⟩
 | true =>
 cases E:b1 k.bh 2 7 with
 | false=>exact ⟨false,rfl,λ h=>by cases h⟩
 | true =>
 cases F:b1 k.a5 0 2 with
 | false=>exact ⟨false,rfl,λ h=>by cases h⟩
 | true =>
 simp only [Bool.not_true,Bool.or_false,aS]
 cases I:b1 (k.a4.length:Int) 1 3 with
 | false=>exact ⟨false,rfl,λ h=>by cases h⟩
 | true =>
 rw [fu] at D E F I
 rw [Bool.not_true,aS]
 have L:∃ d,ab (decide ((k.aN.length:Int) > 5)) (some 2) ((a1 (O:=(Unit ⊕ Int)) (λ (A:Int) =>
   ab (decide (A < (k.aN.length:Int)))
   ((idx k.aN A).bind λ B =>
   ((((n8 B.U).bind λ P =>
   ab (!P)
   (some true)
   (some (!(b1 B.dS 0 7)))):Option Bool)).bind (λ (N:Bool) =>
   ab N
   (some (.inr (.inr 1)))
   ((n9 k B.cz).bind λ Q =>
   ab (!Q)
   (some (.inr (.inr 6)))
   (some (.inl (i64 (A+1)))))))
   (some (.inr (.inl ())))) 0).bind (Sum.elim (λ (_:Unit) =>
   some 0)
   (λ q=>some q)))=some d∧(d=0→k.aN.length≤5∧∀ w∈k.aN,vV k.a4.length w):=by
  by_cases C:(k.aN.length:Int) > 5
  ·rw [cr C]
   exact ⟨2,rfl,λ h=>by cases h⟩
  rw [cY C,aS]
  refine ⟨_,fl (λ i=>if (kg (nth k.aN i).U && b1 (nth k.aN i).dS 0 7)=false then some 1 else if b1 (nth k.aN i).cz 0 ((k.a4.length:Int) - 1)=false then some 6 else none) k.aN.length (λ i hi=>?_) (by rw [cP]; rfl) rfl,λ H=>⟨by omega,λ w hw=>?_⟩⟩
  ·rw [dec_lt hi,a3,bD,a6 hi,aD,cC,nh _ _ (by omega),aD,bN (by omega)]
   cases kg (nth k.aN i).U <;> cases b1 (nth k.aN i).dS 0 7 <;> cases b1 (nth k.aN i).cz 0 ((k.a4.length:Int) - 1) <;> rfl
  ·obtain ⟨i,hi,rfl⟩:=hR hw
   have:=o9 (e:=_) (λ i=>by repeat' split <;> simp) H i hi
   split at this
   ·cases this
   ·rename_i m
    split at this
    ·cases this
    ·rename_i G
     simp only [Bool.not_eq_false,dn,kg,fu] at m G
     exact ⟨m.1.1,m.1.2,m.2,by omega⟩
 obtain ⟨d,J,hw⟩:=L
 simp only [J]
 rw [fl (λ i=>if l0 (nth k.a4 i)=false then some (1:Int) else none) k.a4.length (d:=d) (λ i hi=>?_) (by rw [cP]; rfl) rfl]
 ·refine ⟨_,rfl,λ s=>?_⟩
  cases f:ck (λ i=>if l0 (nth k.a4 i)=false then some (1:Int) else none) 0 k.a4.length with
  | some o =>
   rw [f] at s
   obtain ⟨j,_,_,y,_⟩:=hF f
   split at y
   ·cases y; cases s
   ·cases y
  | none =>
   rw [f] at s
   have K:d=0:=by simpa using s
   obtain ⟨w1,w2⟩:=hw K
   refine ⟨D,E,F,by omega,by omega,λ x M=>?_,w1,w2⟩
   obtain ⟨i,hi,rfl⟩:=hR M
   rw [gP] at f
   have:=f i (Nat.zero_le _) (by omega)
   split at this
   ·cases this
   ·rename_i g; exact Co.1 (by simpa using g)
 ·rw [dec_lt hi,a3,bD,a6 hi,aD,Cp,bN (by omega)]
  cases l0 (nth k.a4 i) <;> rfl
theorem VB.check{k:bg}(h:VB k):n3 k=some 0:=by
 unfold n3
 have e1:pA k=some 0:=by
  unfold pA
  simp only [h2,aD,fu.2 h.wide,fu.2 h.high,fu.2 h.jW]
  rfl
 have y:=h.c1
 have z:=h.c3
 have A:=h.w5
 have g:pB k=some 0:=by
  unfold pB
  simp only [h2,aD,fu.2 (show (1:Int)≤(k.a4.length:Int)∧(k.a4.length:Int)≤3 by omega),Bool.not_true,aS]
  rw [fl (O:=Int) (λ _=>none) k.a4.length (d:=0) (λ i hi=>?_) (by rw [cP]; rfl) rfl,gP.2 λ _ _ _=>rfl]
  ·rfl
  ·have f:=h.comp _ (dk (l:=k.a4) (i:=i) (by omega))
   rw [dec_lt hi,a3,bD,a6 hi,aD,oX,tV.2 ⟨f.1,f.2.1,f.2.2.1⟩,aD,Bool.not_true,aS,bZ (by omega) (by omega),cY (by omega),aS,bN (by omega)]
 have m:pC k=some 0:=by
  unfold pC
  rw [cY (by omega),aS]
  rw [fl (O:=Int) (λ _=>none) k.aN.length (d:=0) (λ i hi=>?_) (by rw [cP]; rfl) rfl,gP.2 λ _ _ _=>rfl]
  ·rfl
  ·have f:=h.oB _ (dk (l:=k.aN) (i:=i) (by omega))
   have s:=f.cmp
   rw [dec_lt hi,a3,bD,a6 hi,aD,B7,show kg (nth k.aN i).U=true by rw [kg,dn,fu,fu]; exact ⟨f.tf,f.uY⟩]
   simp only [aD,Bool.not_true,aS,h2,fu.2 f.sM,B8 _ _ (show k.a4.length≤1000 by omega),fu.2 (show 0≤(nth k.aN i).cz∧(nth k.aN i).cz≤(k.a4.length:Int) - 1 by omega),if_true,bne_self_eq_false,bN (i:=i) (by omega)]
 rw [show (⟨k.a9,k.bh,k.a5,k.a4,k.aN⟩:bg)=k from rfl,e1,aD,bne_self_eq_false,aS,g,aD,bne_self_eq_false,aS,m]
 rfl
theorem wk(p q:de):mw p q=lj (i64 (q.aQ - p.aQ)) (i64 (q.aZ - p.aZ)):=by
 unfold mw lj
 generalize i64 (q.aQ - p.aQ)=x
 generalize i64 (q.aZ - p.aZ)=y
 generalize cy x [i64 (0 - x)]=a
 generalize cy y [i64 (0 - y)]=c
 by_cases h:i64 (12 * (gf a [c]))≤i64 (5 * (cy a [c]))
 ·rw [cY (by omega),cr h,aS,a3]
  cases decide (a > c) <;> cases decide (x > 0) <;> rfl
 ·rw [cr (by omega),cY h,aS,a3]
  unfold rv
  cases decide (x > 0) <;> cases decide (y > 0) <;> rfl
theorem hB(x y:Int):∃ z,lj x y=some z∧0≤z∧z≤7:=by
 unfold lj
 generalize decide (i64 (12 * (gf (cy x [i64 (0 - x)]) [cy y [i64 (0 - y)]]))≤i64 (5 * (cy (cy x [i64 (0 - x)]) [cy y [i64 (0 - y)]])))=d
 generalize decide (cy x [i64 (0 - x)] > cy y [i64 (0 - y)])=f
 cases d <;> cases f <;> cases decide (x > 0) <;> cases decide (y > 0) <;> exact ⟨_,rfl,by decide,by decide⟩
noncomputable def lI(p q:de)(off:Int):Int:=((mw p q).getD 0+off+8) % 8
theorem AA(p q:de){off:Int}(h : -3≤off∧off≤3):∃ z,mw p q=some z∧ec (i64 ((i64 (z+off))+8)) 8=some (lI p q off):=by
 obtain ⟨z,d,f,g⟩:=hB (i64 (q.aQ - p.aQ)) (i64 (q.aZ - p.aZ))
 rw [← wk] at d
 refine ⟨z,d,?_⟩
 unfold lI ec
 rw [d,if_neg (by decide),bZ (z:=z+off) (by omega) (by omega),bZ (by omega) (by omega),hs,Int.tmod_eq_emod_of_nonneg (by omega)]
noncomputable def ho(w:eH)(a:cL):Bool:=decide (w.U=a.at_) || lI w.U a.at_ (nth a.off w.cz.toNat) == w.dS
theorem q6(p q:de):g9 p q=true↔p=q:=by
 obtain ⟨a,c⟩:=p
 obtain ⟨d,e⟩:=q
 simp [g9]
theorem B6{k:bg}{w:eH}{a:cL}(d:0≤w.cz∧w.cz.toNat < a.off.length)(m : -3≤nth a.off w.cz.toNat∧nth a.off w.cz.toNat≤3):px k w a=some (ho w a):=by
 unfold px ho
 by_cases h:w.U=a.at_
 ·rw [show (g9 w.U a.at_ == true)=true by rw [(q6 _ _).2 h]; rfl,cr h]
  rfl
 ·rw [show (g9 w.U a.at_ == true)=false by
   cases he:g9 w.U a.at_ with
   | true=>exact absurd ((q6 _ _).1 he) h
   | false=>rfl,aS,cY h,Bool.false_or]
  obtain ⟨z,f,g⟩:=AA w.U a.at_ m
  rw [f,aD,show idx a.off w.cz=some (nth a.off w.cz.toNat) by unfold idx; rw [if_pos d.1]; exact a6 d.2,aD,g,aD]
def mk(p:Nat→Bool):Nat→Nat
 | 0=>0
 | n+1=>mk p n+if p n then 2 ^ n else 0
theorem lA(p:Nat→Bool):∀ n,mk p n < 2 ^ n
 | 0=>by simp [mk]
 | n+1=>by
  have:=lA p n
  unfold mk
  rw [Nat.pow_succ]
  split <;> omega
theorem mQ(p:Nat→Bool):∀ n i,(mk p n).testBit i=(decide (i < n) && p i)
 | 0,i=>by simp [mk]
 | n+1,i=>by
  have m:=lA p n
  have d:=mQ p n i
  rcases Nat.lt_trichotomy i n with h | rfl | h
  ·rw [cr h] at d
   rw [cr (show i < n+1 by omega)]
   unfold mk
   split
   ·rw [Nat.add_comm,Nat.testBit_two_pow_add_gt h,d]
   ·rw [Nat.add_zero,d]
  ·rw [cr (show i < i+1 by omega),Bool.true_and]
   unfold mk
   have g:(mk p i).testBit i=false:=Nat.testBit_lt_two_pow m
   split
   ·rename_i f; rw [Nat.add_comm,Nat.testBit_two_pow_add_eq,g,f]; rfl
   ·rename_i f; rw [Nat.add_zero,g]; simpa using f
  ·rw [cY (show ¬ i < n+1 by omega),Bool.false_and]
   refine Nat.testBit_lt_two_pow (Nat.lt_of_lt_of_le (lA p (n+1)) (Nat.pow_le_pow_right (by decide) (by omega)))
def xe:Bool:=(List.range 5).all λ i=>fK .i64 1 (i:Int) == some ((2 ^ i:Nat):Int) && (List.range 32).all λ a=>!(decide (a < 2 ^ i)) || dB .or .i64 (a:Int) ((2 ^ i:Nat):Int) == some ((a+2 ^ i:Nat):Int)
def xf:Bool:=(List.range 32).all λ o=>(List.range 32).all λ m =>
 (match dB .andNot .i64 (o:Int) (m:Int) with | some z=>(z == 0) == (List.range 5).all (λ i=>!o.testBit i || m.testBit i) | none=>false) &&
 (match dB .and .i64 (m:Int) (o:Int) with | some z=>(z == 0) == (List.range 5).all (λ i=>!(m.testBit i && o.testBit i)) | none=>false)
def xd:Bool:=(List.range 32).all λ m=>(List.range 5).all λ i=>match fo .i64 (m:Int) (i:Int) with | some z=>dB .and .i64 z 1 == some (if m.testBit i then 1 else 0) | none=>false
set_option maxRecDepth 1000000 in
theorem s5:(xe && xf && xd)=true:=by decide +kernel
theorem zQ{i a:Nat}(hi:i < 5)(g:a < 2 ^ i):fK .i64 1 (i:Int)=some ((2 ^ i:Nat):Int)∧dB .or .i64 (a:Int) ((2 ^ i:Nat):Int)=some ((a+2 ^ i:Nat):Int):=by
 have h:=s5
 simp only [dn,xe,List.all_eq_true,List.mem_range] at h
 obtain ⟨d,f⟩:=h.1.1 i hi
 have m:2 ^ i≤2 ^ 5:=Nat.pow_le_pow_right (by decide) (by omega)
 have:=f a (by omega)
 rw [cr g,Bool.not_true,Bool.false_or] at this
 exact ⟨by simpa using d,by simpa using this⟩
theorem AY{o m:Nat}(s:o < 32)(hm:m < 32):(∃ z,dB .andNot .i64 (o:Int) (m:Int)=some z∧(z != 0)=!(List.range 5).all (λ i=>!o.testBit i || m.testBit i))∧∃ z,dB .and .i64 (m:Int) (o:Int)=some z∧(z != 0)=!(List.range 5).all (λ i=>!(m.testBit i && o.testBit i)):=by
 have h:=s5
 simp only [dn,xf,List.all_eq_true (l:=List.range 32),List.mem_range] at h
 obtain ⟨f,g⟩:=h.1.2 o s m hm
 constructor
 ·cases d:dB .andNot .i64 (o:Int) (m:Int) with
  | none=>rw [d] at f; cases f
  | some z=>rw [d] at f; exact ⟨z,rfl,by rw [bne,beq_iff_eq.1 f]⟩
 ·cases d:dB .and .i64 (m:Int) (o:Int) with
  | none=>rw [d] at g; cases g
  | some z=>rw [d] at g; exact ⟨z,rfl,by rw [bne,beq_iff_eq.1 g]⟩
theorem Ci{m i:Nat}(hm:m < 32)(hi:i < 5):∃ z,fo .i64 (m:Int) (i:Int)=some z∧dB .and .i64 z 1=some (if m.testBit i then 1 else 0):=by
 have h:=s5
 simp only [dn,xd,List.all_eq_true,List.mem_range] at h
 have d:=h.2 m hm i hi
 cases f:fo .i64 (m:Int) (i:Int) with
 | none=>rw [f] at d; cases d
 | some z=>rw [f] at d; exact ⟨z,rfl,by simpa using d⟩
def lX(m:Nat):List Int:=((List.range 5).filter λ i=>m.testBit i).map λ (i:Nat)=>(i:Int)
theorem xY{α β:Type}(p:α→Bool)(f:α→β):∀ l:List α,l.filterMap (λ i=>if p i then some (f i) else none)=(l.filter p).map f
 | []=>rfl
 | a::l=>by
  rw [List.filterMap_cons,List.filter_cons,xY p f l]
  cases p a <;> rfl
theorem B5{m:Nat}(hm:m < 32):ml (m:Int)=some (lX m):=by
 unfold ml
 refine (dh (collect (λ i=>if m.testBit i then some (i:Int) else none) 5 (λ i acc hi g=>?_) (λ acc=>?_))).trans ?_
 ·obtain ⟨z,d,f⟩:=Ci hm hi
  rw [show decide ((i:Int) < 5)=true by simp; omega,a3,d,aD,f,aD,bN (by omega)]
  cases m.testBit i with
  | true=>rw [if_pos rfl,if_pos rfl,show ((1:Int) == 1)=true from rfl,a3,eU (by simp; omega)]; rfl
  | false=>rw [if_neg (by decide),if_neg (by decide),show ((0:Int) == 1)=false from rfl,aS]; simp
 ·rfl
 ·unfold lX
  congr 1
  exact xY _ _ _
def mW(x:Reach):List Int:=(List.range (x.ak+1 - x.ai).toNat).map λ (j:Nat)=>x.ai+(j:Int)
theorem zE{x:Reach}{n:Int}:n∈mW x↔x.ai≤n∧n≤x.ak:=by
 simp only [mW,List.mem_map,List.mem_range]
 constructor
 ·rintro ⟨j,d,rfl⟩; omega
 ·intro h; exact ⟨(n - x.ai).toNat,by omega,by omega⟩
theorem Lc{x:Reach}(h:x.ak - x.ai < 3):(mW x).length≤3:=by simp [mW]; omega
abbrev jU(k:bg):Nat→List Int→List Int:=λ i _=>mW (nth k.a4 i)
abbrev Z3:List Int:=[0,0,0]
theorem ta{c:List Int}(h:c.length≤3):(c8 Z3 c).length=3∧(∀ i,i < c.length→nth (c8 Z3 c) i=nth c i)∧∀ i,c.length≤i→i < 3→nth (c8 Z3 c) i=0:=by
 match c,h with
 | [],_=>exact ⟨rfl,λ i hi=>by simp at hi,λ i _ hi=>by match i,hi with | 0,_=>rfl | 1,_=>rfl | 2,_=>rfl⟩
 | [_],_=>exact ⟨rfl,λ i hi=>by match i,hi with | 0,_=>rfl,λ i d hi=>by match i,d,hi with | 1,_,_=>rfl | 2,_,_=>rfl⟩
 | [_,_],_=>exact ⟨rfl,λ i hi=>by match i,hi with | 0,_=>rfl | 1,_=>rfl,λ i d hi=>by match i,d,hi with | 2,_,_=>rfl⟩
 | [_,_,_],_=>exact ⟨rfl,λ i hi=>by match i,hi with | 0,_=>rfl | 1,_=>rfl | 2,_=>rfl,λ i d hi=>by simp at d; omega⟩
structure WB (P:Nat) (pre w:List Int):Prop where
 len:w.length=3
 pre:∀ i,i < pre.length→nth w i=nth pre i
 rest:∀ i,P≤i→i < 3→nth w i=0
theorem WB.eq{P:Nat}{pre w:List Int}(h:WB P pre w)(y:pre.length=P)(s:P≤3):w=c8 Z3 pre:=by
 obtain ⟨f,g,m⟩:=ta (c:=pre) (by omega)
 refine u1 (by rw [h.len,f]) λ i hi=>?_
 by_cases d:i < pre.length
 ·rw [h.pre i d,g i d]
 ·rw [h.rest i (by omega) (by rw [← h.len]; exact hi),m i (by omega) (by rw [← h.len]; exact hi)]
theorem WB.set{P:Nat}{pre w:List Int}(h:WB P pre w)(s:pre.length < P)(m:P≤3)(n:Int):WB P (pre++[n]) (w.set pre.length n):=by
 have g:=h.len
 refine ⟨by simpa using g,λ i hi=>?_,λ i d f=>?_⟩
 ·by_cases e:i=pre.length
  ·subst e
   rw [rO (by omega),uZ]
  ·rw [p7 (by omega)]
   simp only [ew,List.length_cons,List.length_nil] at hi
   rw [rN (by omega)]
   exact h.pre i (by omega)
 ·rw [p7 (by omega)]
  exact h.rest i d f
theorem WB.back{P:Nat}{pre w:List Int}{n:Int}(h:WB P (pre++[n]) w):WB P pre w:=⟨h.len,λ i hi=>by rw [h.pre i (by simp; omega),rN hi],h.rest⟩
theorem uj{α S X O:Type}{ys:α→S→Option (S × Bool)}{body:S × X→Option ((S × X) ⊕ O)}(z:Nat→List α)(n:Nat)(I:Nat→X→Prop)(F Q:S→O→Prop)
  (h:∀ j s x r,j < n→I j x→cx ys (z j) s=some r→if r.2=true then ∃ x',body (s,x)=some (.inl (r.1,x'))∧I (j+1) x' else ∃ o,body (s,x)=some (.inr o)∧Q r.1 o) (A:∀ s x,I n x→∃ o,body (s,x)=some (.inr o)∧F s o) :
  ∀ (k j:Nat) (s:S) (x:X) (r:S × Bool),j+k=n→I j x→cx ys ((List.range' j k).flatMap z) s=some r→∃ o,a1 body (s,x)=some o∧if r.2=true then F r.1 o else Q r.1 o
 | 0,j,s,x,r,C,y,d=>by
  simp only [List.range'_zero,List.flatMap_nil,cx,eO] at d
  subst d
  obtain rfl:j=n:=by omega
  obtain ⟨o,B,f⟩:=A s x y
  exact ⟨o,dO B,by simpa using f⟩
 | k+1,j,s,x,r,C,y,d=>by
  rw [List.range'_succ,List.flatMap_cons,l3] at d
  obtain ⟨q,D,d⟩:=ae d
  have hb:=h j s x q (by omega) y D
  split at d
  ·rename_i f
   rw [if_pos f] at hb
   obtain ⟨x',g,m⟩:=hb
   rw [gC g]
   exact uj z n I F Q h A k (j+1) q.1 x' r (by omega) m d
  ·rename_i f
   rw [if_neg f] at hb
   obtain ⟨o,g,m⟩:=hb
   cases d
   exact ⟨o,dO g,by simpa using m⟩
theorem wj{k:bg}(D:VB k){S:Type}(ys:cL→S→Option (S × Bool)):∀ (j f:Nat) (pre:List Int) (a:cL) (s:S) (r:S × Bool),pre.length+j=k.a4.length→j < f→WB k.a4.length pre a.off →
  cx ys ((tree (jU k) j pre.length pre).map λ o=>(⟨a.at_,c8 Z3 o⟩:cL)) s=some r→∃ m,hM ys f (pre.length:Int) k a s=some (r.1,(m,r.2))∧m.at_=a.at_∧WB k.a4.length pre m.off
 | _,0,_,_,_,_,_,Q,_,_=>by omega
 | 0,f+1,pre,a,s,r,C,_,hw,A=>by
  rw [Nat.add_zero] at C
  unfold hM
  rw [show ((pre.length:Int) == (k.a4.length:Int))=true by rw [C]; simp,a3]
  simp only [tree,List.map_cons,List.map_nil,cx] at A
  have K:(⟨a.at_,c8 Z3 pre⟩:cL)=a:=by rw [← hw.eq C D.c3]
  rw [K] at A
  obtain ⟨q,J,A⟩:=ae A
  refine ⟨a,?_,rfl,hw⟩
  rw [J,aD]
  split at A
  ·rename_i z; cases A; rw [z]
  ·rename_i z; cases A; simp at z; rw [z]
 | j+1,f+1,pre,a,s,r,C,Q,hw,A=>by
  have M:=D.c3
  have V:=D.comp _ (dk (l:=k.a4) (i:=pre.length) (by omega))
  unfold hM
  rw [show ((pre.length:Int) == (k.a4.length:Int))=false by simp; omega,aS,bD,a6 (by omega),aD]
  generalize N:nth k.a4 pre.length=X at V
  have key:=uj (ys:=ys) (S:=S) (X:=Int × Int × Int × List Int) (O:=(S × Int × Int × List Int) ⊕ (S × (cL × Bool))) (body:=λ (g:(S × Int × Int × Int × (List Int))) =>
   (some X:Option Reach).bind λ H =>
   ab (decide (g.2.1≤H.ak))
   ((idx g.2.2.2.2 (pre.length:Int)).bind λ W =>
   (hM ys f (i64 ((pre.length:Int)+1)) k (⟨⟨g.2.2.1,g.2.2.2.1⟩,g.2.2.2.2.set (pre.length:Int).toNat g.2.1⟩:cL) g.1).bind λ y =>
   ab (!y.2.2)
   (some (.inr (.inr (y.1,(y.2.1,false)))))
   (some (.inl (y.1,i64 (g.2.1+1),y.2.1.at_.aQ,y.2.1.at_.aZ,y.2.1.off))))
   (some (.inr (.inl (g.1,g.2.2.1,g.2.2.2.1,g.2.2.2.2)))))
   (λ q=>(tree (jU k) j (pre.length+1) (pre++[X.ai+(q:Int)])).map λ o=>(⟨a.at_,c8 Z3 o⟩:cL)) (X.ak+1 - X.ai).toNat (λ q x=>x.1=X.ai+(q:Int)∧x.2.1=a.at_.aQ∧x.2.2.1=a.at_.aZ∧WB k.a4.length pre x.2.2.2)
   (λ s o=>∃ d,o = .inl (s,a.at_.aQ,a.at_.aZ,d)∧WB k.a4.length pre d) (λ s o=>∃ m,o = .inr (s,(m,false))∧m.at_=a.at_∧WB k.a4.length pre m.off)
   (λ q s x r J F A=>by
    obtain ⟨n,e,no,d⟩:=x
    obtain ⟨rfl,rfl,rfl,B⟩:=F
    have T:=B.set (n:=X.ai+(q:Int)) (by omega) M
    obtain ⟨m,I,E,z⟩:=wj D ys j f (pre++[X.ai+(q:Int)]) ⟨a.at_,d.set pre.length (X.ai+(q:Int))⟩ s r (by simp; omega) (by omega) T (by simpa using A)
    have Y:d.length=3:=B.len
    simp only [ew,List.length_cons,List.length_nil,Nat.zero_add] at I
    have L:hM ys f ((pre.length+1:Nat):Int) k (⟨⟨a.at_.aQ,a.at_.aZ⟩,d.set pre.length (X.ai+(q:Int))⟩:cL) s=some (r.1,(m,r.2)):=I
    simp only [aD,show decide (X.ai+(q:Int)≤X.ak)=true by simp; omega,a3,bD,a6 (show pre.length < d.length by omega),cm,bN (i:=pre.length) (by omega),L]
    have e1:i64 (X.ai+(q:Int)+1)=X.ai+((q+1:Nat):Int):=by rw [bZ (by omega) (by omega)]; omega
    cases Z:r.2 with
    | true=>exact ⟨(X.ai+((q+1:Nat):Int),m.at_.aQ,m.at_.aZ,m.off),by simp [e1,aS],rfl,by rw [E],by rw [E],z.back⟩
    | false=>exact ⟨.inr (r.1,(m,false)),by simp [a3],m,rfl,E,z.back⟩)
   (λ s x F=>by
    obtain ⟨n,e,no,d⟩:=x
    obtain ⟨rfl,rfl,rfl,B⟩:=F
    refine ⟨.inl (s,a.at_.aQ,a.at_.aZ,d),?_,d,rfl,B⟩
    simp only [aD,show decide (X.ai+(((X.ak+1 - X.ai).toNat:Nat):Int)≤X.ak)=false by simp; omega,aS])
   (X.ak+1 - X.ai).toNat 0 s (X.ai,a.at_.aQ,a.at_.aZ,a.off) r (by omega) ⟨by simp,rfl,rfl,hw⟩ (by
    rw [← A,← List.range_eq_range']
    congr 1
    simp only [tree,jU,N,mW,List.flatMap_map,List.map_flatMap])
  obtain ⟨o,R,G⟩:=key
  rw [show (a1 (O:=((S × Int × Int × (List Int)) ⊕ (S × (cL × Bool)))) (λ (g:(S × Int × Int × Int × (List Int))) =>
   (some X:Option Reach).bind λ H =>
   ab (decide (g.2.1≤H.ak))
   ((idx g.2.2.2.2 (pre.length:Int)).bind λ W =>
   (hM ys f (i64 ((pre.length:Int)+1)) k (⟨⟨g.2.2.1,g.2.2.2.1⟩,g.2.2.2.2.set (pre.length:Int).toNat g.2.1⟩:cL) g.1).bind λ y =>
   ab (!y.2.2)
   (some (.inr (.inr (y.1,(y.2.1,false)))))
   (some (.inl (y.1,i64 (g.2.1+1),y.2.1.at_.aQ,y.2.1.at_.aZ,y.2.1.off))))
   (some (.inr (.inl (g.1,g.2.2.1,g.2.2.2.1,g.2.2.2.2))))) (s,X.ai,a.at_.aQ,a.at_.aZ,a.off))=some o from R,aD]
  split at G
  ·rename_i z
   obtain ⟨d,rfl,B⟩:=G
   exact ⟨⟨a.at_,d⟩,by simp [z],rfl,B⟩
  ·rename_i z
   obtain ⟨m,rfl,P,B⟩:=G
   exact ⟨m,by simp at z; simp [z],P,B⟩
def hp(k:bg)(n:Nat):de:=⟨(n:Int) % k.a9,(n:Int) / k.a9⟩
def jm(k:bg):List cL:=(List.range (k.a9 * k.bh).toNat).flatMap λ n=>(lvl (jU k) k.a4.length).map λ o=>(⟨hp k n,c8 Z3 o⟩:cL)
theorem VB.sG{k:bg}(h:VB k):4≤k.a9 * k.bh∧k.a9 * k.bh≤49:=by
 have d:=h.wide
 have f:=h.high
 have e1:2 * 2≤k.a9 * k.bh:=Int.mul_le_mul d.1 f.1 (by decide) (by omega)
 have g:k.a9 * k.bh≤7 * 7:=Int.mul_le_mul d.2 f.2 (by omega) (by decide)
 omega
theorem AG{k:bg}(d:VB k){n:Nat}(s:n≤1000000):ec (n:Int) k.a9=some (hp k n).aQ∧fe (n:Int) k.a9=some (hp k n).aZ:=by
 have f:=d.wide
 have g:(n:Int) / k.a9≤n:=Int.ediv_le_self _ (by omega)
 have m:0≤(n:Int) / k.a9:=Int.ediv_nonneg (by omega) (by omega)
 unfold ec fe hp
 rw [if_neg (by omega),if_neg (by omega),Int.tmod_eq_emod_of_nonneg (by omega),Int.tdiv_eq_ediv_of_nonneg (by omega),bZ (by omega) (by omega)]
 exact ⟨rfl,rfl⟩
theorem B4{k:bg}(A:VB k){S:Type}(ys:cL→S→Option (S × Bool)){s:S}{r:S × Bool}(z:cx ys (jm k) s=some r):nL ys k s=some r.1:=by
 have M:=A.c3
 have N:=A.sG
 unfold nL
 rw [bZ (by omega) (by omega)]
 have key:=uj (ys:=ys) (S:=S) (X:=Int × Int × Int × List Int) (O:=S ⊕ S) (body:=λ (f:(S × Int × Int × Int × (List Int))) =>
  ab (decide (f.2.1 < k.a9 * k.bh))
  ((ec f.2.1 k.a9).bind λ K =>
  (fe f.2.1 k.a9).bind λ L =>
  (hM ys 9 0 k (⟨⟨K,L⟩,f.2.2.2.2⟩:cL) f.1).bind λ g =>
  ab (!g.2.2)
  (some (.inr (.inr g.1)))
  (some (.inl (g.1,i64 (f.2.1+1),g.2.1.at_.aQ,g.2.1.at_.aZ,g.2.1.off))))
  (some (.inr (.inl f.1))))
  (λ n=>(lvl (jU k) k.a4.length).map λ o=>(⟨hp k n,c8 Z3 o⟩:cL)) (k.a9 * k.bh).toNat (λ n x=>x.1=(n:Int)∧WB k.a4.length [] x.2.2.2) (λ s o=>o = .inl s) (λ s o=>o = .inr s)
  (λ n s x r P B z=>by
   obtain ⟨m,e,no,d⟩:=x
   obtain ⟨rfl,D⟩:=B
   obtain ⟨I,J⟩:=AG A (n:=n) (by omega)
   rw [← L7] at z
   obtain ⟨y,E,_,G⟩:=wj A ys k.a4.length 9 [] ⟨hp k n,d⟩ s r (by simp) (by omega) D (by simpa using z)
   have F:hM ys 9 0 k (⟨⟨(hp k n).aQ,(hp k n).aZ⟩,d⟩:cL) s=some (r.1,(y,r.2)):=E
   simp only [show decide ((n:Int) < k.a9 * k.bh)=true by simp; omega,a3,I,J,aD,F,bN (i:=n) (by omega)]
   cases Q:r.2 with
   | true=>exact ⟨(((n+1:Nat):Int),y.at_.aQ,y.at_.aZ,y.off),by simp [aS],rfl,G⟩
   | false=>exact ⟨.inr r.1,by simp [a3],rfl⟩)
  (λ s x B=>by
   obtain ⟨m,e,no,d⟩:=x
   obtain ⟨rfl,D⟩:=B
   refine ⟨.inl s,?_,rfl⟩
   simp only [show decide ((((k.a9 * k.bh).toNat:Nat):Int) < k.a9 * k.bh)=false by simp; omega,aS])
  (k.a9 * k.bh).toNat 0 s (0,0,0,Z3) r (by omega) ⟨rfl,rfl,λ i hi=>by simp at hi,λ i _ hi=>by match i,hi with | 0,_=>rfl | 1,_=>rfl | 2,_=>rfl⟩ (by rw [← z,← List.range_eq_range']; rfl)
 obtain ⟨o,H,C⟩:=key
 rw [dh H]
 split at C
 ·subst C; rfl
 ·subst C; rfl
structure vN (k:bg) (a:cL):Prop where
 len:a.off.length=3
 off:∀ i,i < k.a4.length → -3≤nth a.off i∧nth a.off i≤3
theorem GV{k:bg}(_:VB k){o:List Int}(h:o∈lvl (jU k) k.a4.length):o.length=k.a4.length∧∀ i,i < k.a4.length→(nth k.a4 i).ai≤nth o i∧nth o i≤(nth k.a4 i).ak:=by
 obtain ⟨d,f⟩:=rH.1 h
 exact ⟨d,λ i hi=>zE.1 (f i hi)⟩
theorem BL{k:bg}(d:VB k){a:cL}(h:a∈jm k):vN k a:=by
 unfold jm at h
 rw [List.mem_flatMap] at h
 obtain ⟨n,_,h⟩:=h
 obtain ⟨o,g,rfl⟩:=List.mem_map.1 h
 obtain ⟨m,f⟩:=GV d g
 have s:=d.c3
 obtain ⟨c1,c2,_⟩:=ta (c:=o) (by omega)
 refine ⟨c1,λ i hi=>?_⟩
 have:=f i hi
 have:=d.comp _ (dk hi)
 rw [c2 i (by omega)]
 omega
noncomputable def fi(k:bg)(a:cL)(i:Nat):Bool:=!ho (nth k.aN i) a
def gX(k:bg)(i:Nat):Bool:=(nth k.aN i).dG
theorem ng{k:bg}(d:VB k){a:cL}(f:vN k a):nM k a=some ((mk (fi k a) k.aN.length:Nat):Int):=by
 have A:=d.w5
 have z:=d.c3
 unfold nM
 refine (dh (gD (λ i=>(((mk (fi k a) i:Nat):Int),(i:Int))) k.aN.length (o:=((mk (fi k a) k.aN.length:Nat):Int)) (λ i hi=>?_) ?_)).trans rfl
 ·have hw:=d.oB _ (dk hi)
  have m:=hw.cmp
  have B:=f.len
  obtain ⟨s,y⟩:=zQ (i:=i) (by omega) (lA (fi k a) i)
  simp only [dec_lt hi,a3,bD,a6 hi,aD,B6 (w:=nth k.aN i) (a:=a) (k:=k) ⟨m.1,by omega⟩ (f.off _ (by omega)),bN (i:=i) (by omega)]
  simp only [mk]
  cases g:ho (nth k.aN i) a with
  | true=>simp only [Bool.not_true,aS,show fi k a i=false by rw [fi,g]; rfl,gq,if_false,Nat.add_zero]
  | false=>simp only [Bool.not_false,a3,s,aD,y,show fi k a i=true by rw [fi,g]; rfl,if_true]
 ·simp only [cP,aS]
theorem fF{k:bg}(f:VB k):ps k=some ((mk (gX k) k.aN.length:Nat):Int):=by
 have s:=f.w5
 unfold ps
 refine (dh (gD (λ i=>(((mk (gX k) i:Nat):Int),(i:Int))) k.aN.length (o:=((mk (gX k) k.aN.length:Nat):Int)) (λ i hi=>?_) ?_)).trans rfl
 ·obtain ⟨g,m⟩:=zQ (i:=i) (by omega) (lA (gX k) i)
  simp only [dec_lt hi,a3,bD,a6 hi,aD,bN (i:=i) (by omega)]
  simp only [mk]
  cases d:(nth k.aN i).dG with
  | false=>simp only [aS,show gX k i=false from d,gq,if_false,Nat.add_zero]
  | true=>simp only [a3,g,aD,m,show gX k i=true from d,if_true]
 ·simp only [cP,aS]
noncomputable def jG(k:bg)(a:cL)(m:Nat):Bool :=
 (List.range 5).all (λ i=>!(mk (fi k a) k.aN.length).testBit i || m.testBit i) && ((List.range 5).all (λ i=>!(m.testBit i && (mk (gX k) k.aN.length).testBit i)) && decide (((lX m).length:Int)≤k.a5))
noncomputable def ju(k:bg)(a:cL):List eY:=((List.range (2 ^ k.aN.length)).filter (jG k a)).map λ m=>(⟨a,((m:Nat):Int)⟩:eY)
noncomputable def dz(k:bg):List eY:=(jm k).flatMap (ju k)
theorem z7{n:Nat}(h:n≤5):2 ^ n≤32:=Nat.pow_le_pow_right (n:=2) (i:=n) (j:=5) (by decide) h
theorem yd{α β S:Type}(ys:β→S→Option (S × Bool)){body:α→S→Option (S ⊕ S)}(g:α→List β):∀ (l:List α),(∀ a∈l,∀ s r,cx ys (g a) s=some r→body a s=some (if r.2=true then .inl r.1 else .inr r.1))→∀ (s:S) (r:S × Bool),cx ys (l.flatMap g) s=some r →
  cx (cp body) l (.inl s)=some (if r.2=true then .inl r.1 else .inr r.1,r.2)
 | [],_,s,r,d=>by
  simp only [List.flatMap_nil,cx,eO] at d
  subst d
  rfl
 | a::l,h,s,r,d=>by
  rw [List.flatMap_cons,l3] at d
  obtain ⟨q,y,d⟩:=ae d
  simp only [cx,cp,h a (by simp) s q y,Option.map_some,aD]
  split at d
  ·rename_i f
   simp only [f,if_true,Sum.isLeft_inl]
   exact yd ys g l (λ a m=>h a (by simp [m])) q.1 r d
  ·rename_i f
   cases d
   simp only [f,gq,if_false,Sum.isLeft_inr]
theorem B3{k:bg}(g:VB k){S:Type}(ys:eY→S→Option (S × Bool)){s:S}{r:S × Bool}(d:cx ys (dz k) s=some r):nH ys k s=some r.1:=by
 have B:=g.w5
 have ac:=z7 B
 have af:=lA (gX k) k.aN.length
 unfold nH
 rw [fF g,aD]
 have R:fK .i64 1 (k.aN.length:Int)=some ((2 ^ k.aN.length:Nat):Int):=by
  generalize k.aN.length=n at B
  match n,B with
  | 0,_=>decide +kernel
  | 1,_=>decide +kernel
  | 2,_=>decide +kernel
  | 3,_=>decide +kernel
  | 4,_=>decide +kernel
  | 5,_=>decide +kernel
 have key:=yd ys (body:=λ (A:cL) (Y:S)=>(((nM k A).bind λ Z =>
  (fK .i64 1 (k.aN.length:Int)).bind λ aa =>
  (a1 (O:=(S ⊕ S)) (λ (f:(S × Int)) =>
  ab (decide (f.2 < aa))
  (((((dB .andNot .i64 Z f.2).bind λ D =>
  ab (D != 0)
  (some true)
  ((dB .and .i64 f.2 ((mk (gX k) k.aN.length:Nat):Int)).bind λ F =>
  ab (F != 0)
  (some true)
  ((ml f.2).bind λ G =>
  some (decide ((G.length:Int) > k.a5))))):Option Bool)).bind (λ (W:Bool) =>
  ab W
  (some (.inl (f.1,i64 (f.2+1))))
  ((ys (⟨⟨⟨A.at_.aQ,A.at_.aZ⟩,A.off⟩,f.2⟩:eY) f.1).bind λ H =>
  ab (!H.2)
  (some (.inr (.inr H.1)))
  (some (.inl (H.1,i64 (f.2+1)))))))
  (some (.inr (.inl f.1)))) (Y,0)).bind (Sum.elim (λ (V:S) =>
  some (.inl V))
   (λ q=>some (.inr q)))):Option (S ⊕ S))) (ju k) (jm k) (λ a L s r d=>?_) s r d
 ·rw [B4 g _ key,aD]
  cases r.2 <;> rfl
 ·have M:=BL g L
  have ad:=lA (fi k a) k.aN.length
  rw [ng g M,aD,R,aD]
  have P:ju k a=(List.range (2 ^ k.aN.length)).flatMap λ m=>if jG k a m then [(⟨a,((m:Nat):Int)⟩:eY)] else []:=by
   unfold ju
   induction List.range (2 ^ k.aN.length) with
   | nil=>rfl
   | cons m l T =>
    rw [List.filter_cons,List.flatMap_cons]
    cases jG k a m <;> simpa using T
  rw [P] at d
  refine (dh (nB (ys:=ys) (E:=S) id (λ j=>((j:Nat):Int)) (λ m=>if jG k a m then [(⟨a,((m:Nat):Int)⟩:eY)] else []) (2 ^ k.aN.length) (λ m s r hm d=>?_) (λ s=>?_) d)).trans ?_
  ·have C:m < 32:=by omega
   obtain ⟨⟨z1,J,K⟩,_⟩:=AY (o:=mk (fi k a) k.aN.length) (m:=m) (by omega) C
   obtain ⟨_,z2,c1,c2⟩:=AY (o:=mk (gX k) k.aN.length) (m:=m) (by omega) C
   have N:((dB .andNot .i64 ((mk (fi k a) k.aN.length:Nat):Int) (m:Int)).bind λ D =>
     ab (D != 0)
     (some true)
     ((dB .and .i64 (m:Int) ((mk (gX k) k.aN.length:Nat):Int)).bind λ F =>
     ab (F != 0)
     (some true)
     ((ml (m:Int)).bind λ G =>
     some (decide ((G.length:Int) > k.a5)))))=some (!jG k a m):=by
    rw [J,aD,K,c1]
    unfold jG
    cases (List.range 5).all (λ i=>!(mk (fi k a) k.aN.length).testBit i || m.testBit i) with
    | false=>rfl
    | true =>
     rw [Bool.not_true,aS,aD,c2,Bool.true_and]
     cases (List.range 5).all (λ i=>!(m.testBit i && (mk (gX k) k.aN.length).testBit i)) with
     | false=>rfl
     | true =>
      rw [Bool.not_true,aS,B5 C,aD,Bool.true_and]
      congr 1
      by_cases z:((lX m).length:Int)≤k.a5
      ·rw [cr z,cY (by omega)]; rfl
      ·rw [cY z,cr (by omega)]; rfl
   simp only [show decide ((m:Int) < ((2 ^ k.aN.length:Nat):Int))=true by rw [decide_eq_true_eq]; exact_mod_cast hm,a3,N,aD,bN (i:=m) (by omega)]
   cases I:jG k a m with
   | false =>
    rw [I] at d
    simp only [gq,if_false,cx,eO] at d
    subst d
    rfl
   | true =>
    rw [I] at d
    simp only [if_true,cx] at d
    obtain ⟨q,z,d⟩:=ae d
    have Q:ys (⟨⟨⟨a.at_.aQ,a.at_.aZ⟩,a.off⟩,(m:Int)⟩:eY) s=some q:=z
    rw [Bool.not_true,aS,Q,aD]
    split at d
    ·rename_i y; cases d; simp [y,aS]
    ·rename_i y; cases d; simp at y; simp [y,a3]
  ·simp only [show decide ((((2 ^ k.aN.length:Nat):Int)) < ((2 ^ k.aN.length:Nat):Int))=false by simp,aS]
  ·cases r.2 <;> rfl
theorem yM{α:Type}{ext:Nat→List α→List α}(h:∀ i p,(ext i p).length≤3):∀ n,(lvl ext n).length≤3 ^ n
 | 0=>by simp [lvl]
 | n+1=>by
  have d:=yM h n
  have:=q9 (λ p=>(ext n p).map λ x=>p++[x]) 3 (λ p=>by rw [List.length_map]; exact h n p) (lvl ext n)
  simp only [lvl]
  rw [Nat.pow_succ]
  omega
theorem yL{k:bg}(d:VB k):(dz k).length≤50000:=by
 have f:∀ a,(ju k a).length≤32:=λ a=>by
  unfold ju
  rw [List.length_map]
  have:=List.length_filter_le (jG k a) (List.range (2 ^ k.aN.length))
  rw [List.length_range] at this
  have:=z7 d.w5
  omega
 have m:∀ i p,(jU k i p).length≤3:=λ i p=>by
  by_cases hi:i < k.a4.length
  ·exact Lc (d.comp _ (dk hi)).2.2.2
  ·have:nth k.a4 i=⟨0,0⟩:=by unfold nth; rw [fq,List.getElem?_eq_none (by omega)]; rfl
   show (mW (nth k.a4 i)).length≤3
   rw [this]
   decide
 have g:(lvl (jU k) k.a4.length).length≤27:=Nat.le_trans (yM m _) (Nat.pow_le_pow_right (n:=3) (i:=k.a4.length) (j:=3) (by decide) d.c3)
 have s:(jm k).length≤49 * 27:=by
  unfold jm
  have:=q9 (λ n:Nat=>(lvl (jU k) k.a4.length).map λ o=>(⟨hp k n,c8 Z3 o⟩:cL)) 27 (λ n=>by rw [List.length_map]; exact g) (List.range (k.a9 * k.bh).toNat)
  rw [List.length_range] at this
  have y:=d.sG
  omega
 have:=q9 (ju k) 32 f (jm k)
 unfold dz
 omega
def JX:lO:=⟨⟨0,0,0,[],[]⟩,[]⟩
theorem lW{k:bg}(d:VB k):ob k (λ y=>lz y)=some (if dz k=[] then (JX,9) else (⟨k,dz k⟩,0)):=by
 have A:=yL d
 unfold ob
 rw [d.check,aD,bne_self_eq_false,aS,show (λ y=>lz y) k=some 0 from rfl,aD,bne_self_eq_false,aS]
 have key:∀ (l a:List eY),l.foldl (λ s c=>s++[c]) a=a++l:=by
  intro l
  induction l with
  | nil=>simp
  | cons c l g=>intro a; rw [List.foldl_cons,g]; simp
 rw [B3 d _ (r:=(.inl ((dz k).foldl (λ (s:List eY) c=>s++[c]) []),true)) (nv (λ k s=>s.length=k) (λ c s=>s++[c]) _ 0 [] rfl (λ j s a z f _=>by
  rw [eU (by simp; omega)]
  exact ⟨rfl,by simp [f]⟩))]
 rw [aD,Sum.elim_inl,key,List.nil_append]
 cases m:dz k with
 | nil=>rfl
 | cons c l=>rw [if_neg (by simp),show ((((c::l).length:Nat):Int) == 0)=false by simp; omega,aS]
theorem ft{k:bg}(D:VB k)(B:dz k≠[]):∃ l,pK k=some (l,0)∧l≠[]∧l.length≤50000∧∀ s,s∈l↔∃ c∈dz k,c.ea.at_=s:=by
 have I:=yL D
 unfold pK
 rw [lW D,if_neg B,aD,bne_self_eq_false,aS]
 obtain ⟨o,F,H,A⟩:=pf (body:=λ (d:((de→Bool) × (List de) × Int)) =>
  ab (decide (d.2.2 < ((dz k).length:Int)))
  ((idx (dz k) d.2.2).bind λ z =>
  ab (!(d.1 z.ea.at_))
  ((cu d.2.1 [z.ea.at_]).bind λ G =>
  some (.inl (ir d.1 z.ea.at_ true,G,i64 (d.2.2+1))))
  (some (.inl (d.1,d.2.1,i64 (d.2.2+1)))))
  (some (.inr d.2.1))) (s:=((λ _=>false),[],0))
  (λ i x=>x.2.2=(i:Int)∧x.2.1.length≤i∧(∀ s,x.1 s=true↔s∈x.2.1)∧∀ s,s∈x.2.1↔∃ c∈(dz k).take i,c.ea.at_=s)
  (λ o=>o.length≤(dz k).length∧∀ s,s∈o↔∃ c∈dz k,c.ea.at_=s) (dz k).length
  (λ i x hi y=>by
   obtain ⟨f,out,j⟩:=x
   obtain ⟨rfl,hlen,g,hm⟩:=y
   simp only at hlen g hm
   refine .inl ?_
   have C:∀ s,(∃ c∈(dz k).take (i+1),c.ea.at_=s)↔(∃ c∈(dz k).take i,c.ea.at_=s)∨(nth (dz k) i).ea.at_=s:=λ s=>by
    have e:(dz k).take (i+1)=(dz k).take i++[nth (dz k) i]:=by
     rw [List.take_add_one,a6 hi]; rfl
    rw [e]
    simp only [List.mem_append,List.mem_singleton]
    constructor
    ·rintro ⟨c,m | rfl,h⟩
     ·exact .inl ⟨c,m,h⟩
     ·exact .inr h
    ·rintro (⟨c,m,h⟩ | h)
     ·exact ⟨c,.inl m,h⟩
     ·exact ⟨_,.inr rfl,h⟩
   simp only [dec_lt hi,a3,bD,a6 hi,aD,bN (i:=i) (by omega)]
   cases E:f (nth (dz k) i).ea.at_ with
   | true =>
    refine ⟨_,rfl,rfl,by simp only []; omega,g,λ s=>?_⟩
    rw [C]
    simp only []
    rw [hm]
    constructor
    ·exact .inl
    ·rintro (h | rfl)
     ·exact h
     ·exact (hm _).1 ((g _).1 E)
   | false =>
    rw [Bool.not_false,a3,eU (by simp only [List.length_cons,List.length_nil]; omega),aD]
    refine ⟨_,rfl,rfl,by simp only [ew,List.length_cons,List.length_nil]; omega,λ s=>?_,λ s=>?_⟩
    ·simp only [ir,List.mem_append,List.mem_singleton]
     by_cases e:s=(nth (dz k) i).ea.at_
     ·simp [e]
     ·rw [if_neg e,g]; simp [e]
    ·rw [C]
     simp only [List.mem_append,List.mem_singleton]
     rw [hm]
     constructor
     ·rintro (h | rfl)
      ·exact .inl h
      ·exact .inr rfl
     ·rintro (h | rfl)
      ·exact .inl h
      ·exact .inr rfl)
  (λ x y=>by
   obtain ⟨f,out,j⟩:=x
   obtain ⟨rfl,hlen,g,hm⟩:=y
   simp only at hlen g hm
   refine ⟨out,by simp only [cP,aS],hlen,λ s=>?_⟩
   rw [hm,List.take_length])
  ⟨rfl,ct _,λ s=>by simp,λ s=>by simp⟩
 refine ⟨o,by rw [dh F],?_,by omega,A⟩
 intro e
 obtain ⟨c,l,m⟩:=List.exists_cons_of_ne_nil B
 have:=(A c.ea.at_).2 ⟨c,by rw [m]; simp,rfl⟩
 rw [e] at this
 cases this
structure Bz (k:bg) (e:Reach):Prop where
 least:∃ c∈dz k,c.ea.at_.aQ=e.ai
 zM:∃ c∈dz k,c.ea.at_.aQ=e.ak
 all:∀ c∈dz k,e.ai≤c.ea.at_.aQ∧c.ea.at_.aQ≤e.ak
theorem b9{k:bg}(I:VB k)(G:dz k≠[]):∃ e n,m9 k=some (e,n,0)∧Bz k e:=by
 obtain ⟨l,D,E,M,A⟩:=ft I G
 unfold m9
 rw [D,aD,bne_self_eq_false,aS]
 have z:0 < l.length:=List.length_pos_iff.2 E
 have C:idx l 0=some (nth l 0):=(bD l 0).trans (a6 z)
 simp only [C,aD]
 obtain ⟨o,H,J,K,L⟩:=pf (body:=λ (f:(Int × Int × Int × Int × Int)) =>
  ab (decide (f.1 < (l.length:Int)))
  ((idx l f.1).bind λ y =>
  some (.inl (i64 (f.1+1),gf f.2.1 [y.aZ],cy f.2.2.1 [y.aZ],gf f.2.2.2.1 [y.aQ],cy f.2.2.2.2 [y.aQ])))
  (some (.inr (f.2.1,f.2.2.1,f.2.2.2.1,f.2.2.2.2)))) (s:=(0,(nth l 0).aZ,(nth l 0).aZ,(nth l 0).aQ,(nth l 0).aQ))
  (λ i x=>x.1=(i:Int)∧(∃ s∈l,s.aQ=x.2.2.2.1)∧(∃ s∈l,s.aQ=x.2.2.2.2)∧∀ j,j < i→x.2.2.2.1≤(nth l j).aQ∧(nth l j).aQ≤x.2.2.2.2)
  (λ o=>(∃ s∈l,s.aQ=o.2.2.1)∧(∃ s∈l,s.aQ=o.2.2.2)∧∀ s∈l,o.2.2.1≤s.aQ∧s.aQ≤o.2.2.2) l.length
  (λ i x hi B=>by
   obtain ⟨j,a,b,c,d⟩:=x
   obtain ⟨rfl,⟨s1,p1,p2⟩,⟨s2,p3,p4⟩,h⟩:=B
   simp only at p2 p4 h
   refine .inl ?_
   simp only [dec_lt hi,a3,bD,a6 hi,aD,bN (i:=i) (by omega),JK,JJ]
   refine ⟨_,rfl,rfl,?_,?_,λ j F=>?_⟩
   ·simp only []
    by_cases hm:c≤(nth l i).aQ
    ·exact ⟨s1,p1,by rw [p2]; omega⟩
    ·exact ⟨_,dk hi,by omega⟩
   ·simp only []
    by_cases hm:(nth l i).aQ≤d
    ·exact ⟨s2,p3,by rw [p4]; omega⟩
    ·exact ⟨_,dk hi,by omega⟩
   ·simp only []
    by_cases e:j=i
    ·subst e; omega
    ·have:=h j (by omega); omega)
  (λ x B=>by
   obtain ⟨j,a,b,c,d⟩:=x
   obtain ⟨rfl,p1,p2,h⟩:=B
   simp only at p1 p2 h
   refine ⟨(a,b,c,d),by simp only [cP,aS],p1,p2,λ s m=>?_⟩
   obtain ⟨i,hi,rfl⟩:=hR m
   exact h i hi)
  ⟨rfl,⟨_,dk z,rfl⟩,⟨_,dk z,rfl⟩,λ j F=>by omega⟩
 refine ⟨⟨o.2.2.1,o.2.2.2⟩,⟨o.1,o.2.1⟩,by rw [dh H],?_,?_,λ c g=>L _ ((A _).2 ⟨c,g,rfl⟩)⟩
 ·obtain ⟨s,m,e⟩:=J
  obtain ⟨c,g,rfl⟩:=(A s).1 m
  exact ⟨c,g,e⟩
 ·obtain ⟨s,m,e⟩:=K
  obtain ⟨c,g,rfl⟩:=(A s).1 m
  exact ⟨c,g,e⟩
def fp(k:bg)(i:Nat):bg:=⟨k.a9,k.bh,k.a5,k.a4,k.aN.set i ⟨(nth k.aN i).U,(nth k.aN i).dS,(nth k.aN i).cz,true⟩⟩
theorem sd{k:bg}{i j:Nat}(hi:i < k.aN.length):(nth (fp k i).aN j).U=(nth k.aN j).U∧(nth (fp k i).aN j).dS=(nth k.aN j).dS∧(nth (fp k i).aN j).cz=(nth k.aN j).cz∧(nth (fp k i).aN j).dG=((nth k.aN j).dG || decide (j=i)):=by
 unfold fp
 by_cases e:i=j
 ·subst e
  rw [rO hi]
  simp
 ·rw [p7 e]
  simp [Ne.symm e]
theorem AX{k:bg}(d:VB k){i:Nat}(hi:i < k.aN.length):VB (fp k i):=by
 refine ⟨d.wide,d.high,d.jW,d.c1,d.c3,d.comp,by show (k.aN.set i _).length≤5; rw [List.length_set]; exact d.w5,λ w hw=>?_⟩
 obtain ⟨j,s,rfl⟩:=hR hw
 have m:j < k.aN.length:=by have:(fp k i).aN.length=k.aN.length:=List.length_set; omega
 obtain ⟨e1,f,g,_⟩:=sd (k:=k) (j:=j) hi
 have:=d.oB _ (dk m)
 exact ⟨by rw [e1]; exact this.tf,by rw [e1]; exact this.uY,by rw [f]; exact this.sM,by rw [g]; exact this.cmp⟩
theorem mk_congr{p q:Nat→Bool}:∀ n,(∀ i,i < n→p i=q i)→mk p n=mk q n
 | 0,_=>rfl
 | n+1,h=>by unfold mk; rw [mk_congr n λ i hi=>h i (by omega),h n (by omega)]
theorem AV{k:bg}{i:Nat}(hi:i < k.aN.length)(a:cL)(j:Nat):fi (fp k i) a j=fi k a j:=by
 obtain ⟨e1,d,f,_⟩:=sd (k:=k) (j:=j) hi
 unfold fi ho
 rw [e1,d,f]
theorem AW{k:bg}{i:Nat}(hi:i < k.aN.length){c:eY}(h:c∈dz (fp k i)):c∈dz k:=by
 unfold dz at h ⊢
 rw [List.mem_flatMap] at h ⊢
 obtain ⟨a,z,h⟩:=h
 refine ⟨a,z,?_⟩
 have g:(fp k i).aN.length=k.aN.length:=List.length_set
 unfold ju at h ⊢
 rw [g] at h
 obtain ⟨m,hm,rfl⟩:=List.mem_map.1 h
 rw [List.mem_filter] at hm
 refine List.mem_map.2 ⟨m,List.mem_filter.2 ⟨hm.1,?_⟩,rfl⟩
 have d:=hm.2
 unfold jG at d ⊢
 rw [g] at d
 simp only [dn] at d ⊢
 obtain ⟨s,f,y⟩:=d
 refine ⟨?_,?_,y⟩
 ·rw [mk_congr (p:=fi k a) (q:=fi (fp k i) a) _ λ j _=>(AV hi a j).symm]
  exact s
 ·rw [List.all_eq_true] at f ⊢
  intro j A
  have:=f j A
  rw [mQ] at this ⊢
  unfold gX at this ⊢
  rw [(sd (k:=k) (j:=j) hi).2.2.2] at this
  revert this
  cases m.testBit j <;> cases decide (j < k.aN.length) <;> cases (nth k.aN j).dG <;> simp
theorem B2{k:bg}(d:VB k){i:Nat}(hi:i < k.aN.length)(g:(nth k.aN i).dG=false)(f:dz (fp k i)≠[]):pn k (i:Int)=some (fp k i,0):=by
 have y:=d.w5
 have s:=d.c3
 have m:=AX d hi
 have z:(fp k i).aN.length=k.aN.length:=List.length_set
 unfold pn
 rw [d.check,aD,bne_self_eq_false,aS,show (⟨k.a9,k.bh,k.a5,k.a4,k.aN⟩:bg)=k from rfl,gx _ _ (by omega),fu.2 (by omega),aD,if_pos rfl,bne_self_eq_false,aS,
  bD,a6 hi,aD,g,aS,show lk k.aN=some k.aN by unfold lk; rw [eU (by simp; omega)]; rfl,aD,bD,a6 hi,aD,cm,
  show (⟨k.a9,k.bh,k.a5,k.a4,k.aN.set i (⟨⟨(nth k.aN i).U.aQ,(nth k.aN i).U.aZ⟩,(nth k.aN i).dS,(nth k.aN i).cz,true⟩:eH)⟩:bg)=fp k i from rfl]
 unfold rC
 rw [lW m,if_neg f,aD,bne_self_eq_false,aS]
 unfold pg lk
 rw [eU (by simp only [List.length_nil]; rw [show (fp k i).a4.length=k.a4.length from rfl]; omega),eU (by simp only [List.length_nil]; omega)]
 rfl
theorem FE{z:Int}(h : -1≤z):i64 z≤z:=by
 unfold i64
 simp only [IntKind.wrap,IntKind.bits,IntKind.signed]
 simp
 omega
theorem wi{l:List Int}{n:Int}(f:l.length≤1000):gE l n=some (l.contains n):=by
 unfold gE
 refine (fl (λ i=>if (nth l i == n) then some true else none) l.length (d:=false) (λ i hi=>?_) (by simp only [cP,aS]) rfl).trans ?_
 ·simp only [dec_lt hi,a3,bD,a6 hi,aD,bN (i:=i) (by omega)]
  cases nth l i == n <;> rfl
 ·rw [o7 (λ x=>x == n) l]
  rw [sC]
def vS(l:List Int):Prop:=∀ x∈l,0≤x∧x≤65535
theorem fX{l:List Int}(f:vS l){n:Nat}(_:n≤1000):∃ z,lh l (n:Int)=some z∧0≤z∧z≤65535:=by
 unfold lh
 rw [lV,aD]
 cases h:b1 (n:Int) 0 (i64 ((l.length:Int) - 1)) with
 | false=>exact ⟨0,rfl,by decide,by decide⟩
 | true =>
  rw [fu] at h
  have:=FE (z:=(l.length:Int) - 1) (by omega)
  have d:n < l.length:=by omega
  rw [a3,bD,a6 d,aD]
  have:=f _ (dk d)
  exact ⟨_,rfl,by rw [bZ (by omega) (by omega)]; exact this.1,by rw [bZ (by omega) (by omega)]; exact this.2⟩
theorem Ah{a b:Int}(d:0≤a)(hb:0 < b):ec a b=some (a % b)∧0≤a % b∧a % b < b:=by
 unfold ec
 rw [if_neg (by omega),Int.tmod_eq_emod_of_nonneg d]
 exact ⟨rfl,Int.emod_nonneg _ (by omega),Int.emod_lt_of_pos _ hb⟩
structure lP (k:bg) (c:ht):Prop where
 at_:∃ n,n < (k.a9 * k.bh).toNat∧c.U=hp k n
 len:c.fV.length=k.a4.length
 off:∀ i,i < k.a4.length→(nth k.a4 i).ai≤nth c.fV i∧nth c.fV i≤(nth k.a4 i).ak
 sJ:c.a5.Pairwise (· < ·)
 each:∀ x∈c.a5,0≤x∧x < (k.aN.length:Int)∧(nth k.aN x.toNat).dG=false
 o6:(c.a5.length:Int)≤k.a5
theorem b7{k:bg}(A:VB k){l:List Int}(F:vS l)(y:Nat):∃ c,m7 k l (y:Int)=some c∧lP k c:=by
 have D:=A.sG
 have g:=A.wide
 have B:=A.c3
 have an:=A.w5
 have f:=A.jW
 obtain ⟨z,e1,z0,z1⟩:=fX F (n:=0) (by omega)
 obtain ⟨H,r0,ar⟩:=Ah (a:=z) (b:=k.a9 * k.bh) z0 (by omega)
 obtain ⟨n,M⟩:∃ n:Nat,z % (k.a9 * k.bh)=(n:Int):=⟨_,(Int.toNat_of_nonneg r0).symm⟩
 obtain ⟨W,Y⟩:=AG A (n:=n) (by omega)
 unfold m7
 rw [show lh l 0=some z from e1,aD,bZ (by omega) (by omega),H,aD,M,W,aD,Y,aD,show rB (hp k n).aQ (hp k n).aZ=some (hp k n) from rfl,aD]
 obtain ⟨ap,N,R,S⟩:=pf (body:=λ (C:(Int × (List Int))) =>
  ab (decide (C.1 < (k.a4.length:Int)))
  ((idx k.a4 C.1).bind λ Z =>
  (lh l (i64 (C.1+1))).bind λ aa =>
  (n2 Z aa).bind λ ac =>
  (cu C.2 [ac]).bind λ ad =>
  some (.inl (i64 (C.1+1),ad)))
  (some (.inr C.2))) (s:=(0,[]))
  (λ i x=>x.1=(i:Int)∧x.2.length=i∧∀ j,j < i→(nth k.a4 j).ai≤nth x.2 j∧nth x.2 j≤(nth k.a4 j).ak)
  (λ o=>o.length=k.a4.length∧∀ j,j < k.a4.length→(nth k.a4 j).ai≤nth o j∧nth o j≤(nth k.a4 j).ak) k.a4.length
  (λ i x hi m=>by
   obtain ⟨j,o⟩:=x
   obtain ⟨rfl,hlen,h⟩:=m
   simp only at hlen h
   refine .inl ?_
   have ao:=A.comp _ (dk hi)
   obtain ⟨w,w1,w2,w3⟩:=fX F (n:=i+1) (by omega)
   obtain ⟨e,aq,p1⟩:=Ah (a:=w) (b:=(nth k.a4 i).ak - (nth k.a4 i).ai+1) w2 (by omega)
   have I:n2 (nth k.a4 i) w=some ((nth k.a4 i).ai+w % ((nth k.a4 i).ak - (nth k.a4 i).ai+1)):=by
    unfold n2
    rw [bZ (z:=(nth k.a4 i).ak - (nth k.a4 i).ai) (by omega) (by omega),bZ (by omega) (by omega),e,aD,bZ (by omega) (by omega)]
   simp only [dec_lt hi,a3,bD,a6 hi,aD,bN (i:=i) (by omega),w1,I]
   rw [eU (by simp; omega),aD]
   refine ⟨_,rfl,rfl,by simp [hlen],λ j K=>?_⟩
   simp only []
   by_cases L:j < i
   ·rw [rN (by omega)]; exact h j L
   ·obtain rfl:j=o.length:=by omega
    rw [uZ,hlen]
    omega)
  (λ x m=>by
   obtain ⟨j,o⟩:=x
   obtain ⟨rfl,hlen,h⟩:=m
   exact ⟨o,by simp only [cP,aS],hlen,h⟩)
  ⟨rfl,rfl,λ j K=>by omega⟩
 rw [dh N]
 obtain ⟨am,J,f1,f2,f3⟩:=pf (body:=λ (d:(Int × (List Int))) =>
  (((ab (decide (d.1 < (k.aN.length:Int)))
  (some (decide ((d.2.length:Int) < k.a5)))
  (some false)):Option Bool)).bind (λ (T:Bool) =>
  ab T
  (((((fo .u8 (y:Int) d.1).bind λ ae =>
  (dB .and .u8 ae 1).bind λ af =>
  ab (af == 1)
  ((idx k.aN d.1).bind λ ag =>
  some (!ag.dG))
  (some false)):Option Bool)).bind (λ (V:Bool) =>
  ab V
  ((cu d.2 [d.1]).bind λ aj =>
  some (.inl (i64 (d.1+1),aj)))
  (some (.inl (i64 (d.1+1),d.2)))))
  (some (.inr d.2)))) (s:=(0,[]))
  (λ i x=>x.1=(i:Int)∧i≤k.aN.length∧x.2.Pairwise (· < ·)∧(∀ w∈x.2,0≤w∧w < (i:Int)∧(nth k.aN w.toNat).dG=false)∧(x.2.length:Int)≤k.a5)
  (λ o=>o.Pairwise (· < ·)∧(∀ w∈o,0≤w∧w < (k.aN.length:Int)∧(nth k.aN w.toNat).dG=false)∧(o.length:Int)≤k.a5) k.aN.length
  (λ i x hi m=>by
   obtain ⟨j,o⟩:=x
   obtain ⟨rfl,_,g,f,B⟩:=m
   simp only at g f B
   simp only [dec_lt hi,a3,aD]
   by_cases E:(o.length:Int) < k.a5
   ·refine .inl ?_
    rw [cr E,a3]
    obtain ⟨s,O⟩:∃ s,fo .u8 (y:Int) (i:Int)=some s:=⟨_,by unfold fo; rw [if_neg (by omega)]⟩
    obtain ⟨t,Q⟩:∃ t,dB .and .u8 s 1=some t:=⟨_,rfl⟩
    have G:∃ s',(some (.inl (i64 ((i:Int)+1),o)):Option ((Int × List Int) ⊕ List Int))=some (.inl s')∧s'.1=((i+1:Nat):Int)∧i+1≤k.aN.length∧s'.2.Pairwise (· < ·)∧(∀ w∈s'.2,0≤w∧w < ((i+1:Nat):Int)∧(nth k.aN w.toNat).dG=false)∧(s'.2.length:Int)≤k.a5:=by
     refine ⟨_,rfl,bN (by omega),by omega,g,λ w hw=>?_,B⟩
     have:=f w hw
     exact ⟨this.1,by omega,this.2.2⟩
    rw [O,aD,Q,aD]
    cases t == 1 with
    | false=>rw [aS,aD,aS]; exact G
    | true =>
     rw [a3,bD,a6 hi,aD,aD]
     cases P:(nth k.aN i).dG with
     | true=>rw [Bool.not_true,aS]; exact G
     | false =>
      rw [Bool.not_false,a3,eU (by simp; omega),aD]
      refine ⟨_,rfl,bN (by omega),by omega,?_,λ w hw=>?_,by simp; omega⟩
      ·rw [List.pairwise_append]
       refine ⟨g,by simp,λ a D b hb=>?_⟩
       rw [List.mem_singleton] at hb
       subst hb
       exact (f a D).2.1
      ·rcases List.mem_append.1 hw with hw | hw
       ·have:=f w hw
        exact ⟨this.1,by omega,this.2.2⟩
       ·rw [List.mem_singleton] at hw
        subst hw
        exact ⟨by omega,by omega,by rw [cm]; exact P⟩
   ·rw [cY E,aS]
    refine .inr ⟨o,rfl,g,λ w hw=>?_,B⟩
    have:=f w hw
    exact ⟨this.1,by omega,this.2.2⟩)
  (λ x m=>by
   obtain ⟨j,o⟩:=x
   obtain ⟨rfl,_,g,f,B⟩:=m
   exact ⟨o,by simp only [cP,aS,aD],g,f,B⟩)
  ⟨rfl,by omega,by simp,λ w hw=>by simp at hw,by simp; omega⟩
 rw [dh J]
 exact ⟨_,rfl,⟨n,by omega,rfl⟩,R,S,f1,f2,f3⟩
def hz(c:ht):cL:=⟨c.U,c8 Z3 c.fV⟩
structure oN (k:bg) (c:ht) (o:bg):Prop where
 wide:o.a9=k.a9
 high:o.bh=k.bh
 jW:o.a5=k.a5
 comp:o.a4=k.a4
 len:o.aN.length=k.aN.length
 same:∀ i,i < k.aN.length→(nth o.aN i).U=(nth k.aN i).U∧(nth o.aN i).cz=(nth k.aN i).cz∧(nth o.aN i).dG=(nth k.aN i).dG∧0≤(nth o.aN i).dS∧(nth o.aN i).dS≤7
 right:∀ i,i < k.aN.length→c.a5.contains (i:Int)=false→ho (nth o.aN i) (hz c)=true
theorem b8{k:bg}(B:VB k){c:ht}(F:lP k c):∃ o,m8 k c=some o∧oN k c o:=by
 have Y:=B.w5
 have W:=B.c3
 have ad:=F.o6
 have ac:=B.jW
 have Z:=F.len
 unfold m8
 rw [eU (by simp; omega),aD,List.nil_append]
 obtain ⟨o,K,L,M,N⟩:=pf (body:=λ (d:(Int × (List eH))) =>
  ab (decide (d.1 < (d.2.length:Int)))
  ((idx d.2 d.1).bind λ C =>
  ((((gE c.a5 d.1).bind λ P =>
  ab P
  (some true)
  (some (g9 C.U c.U == true))):Option Bool)).bind (λ (O:Bool) =>
  ab O
  (some (.inl (i64 (d.1+1),d.2)))
  ((lj (i64 (c.U.aQ - C.U.aQ)) (i64 (c.U.aZ - C.U.aZ))).bind λ Q =>
  (idx c.fV C.cz).bind λ R =>
  (ec (i64 ((i64 (Q+R))+8)) 8).bind λ S =>
  (idx d.2 d.1).bind λ D =>
  some (.inl (i64 (d.1+1),d.2.set d.1.toNat (⟨⟨D.U.aQ,D.U.aZ⟩,S,D.cz,D.dG⟩:eH))))))
  (some (.inr d.2))) (s:=(0,k.aN))
  (λ i x=>x.1=(i:Int)∧x.2.length=k.aN.length∧(∀ j,j < k.aN.length→(nth x.2 j).U=(nth k.aN j).U∧(nth x.2 j).cz=(nth k.aN j).cz∧(nth x.2 j).dG=(nth k.aN j).dG∧0≤(nth x.2 j).dS∧(nth x.2 j).dS≤7)∧∀ j,j < i→c.a5.contains (j:Int)=false→ho (nth x.2 j) (hz c)=true)
  (λ o=>o.length=k.aN.length∧(∀ j,j < k.aN.length→(nth o j).U=(nth k.aN j).U∧(nth o j).cz=(nth k.aN j).cz∧(nth o j).dG=(nth k.aN j).dG∧0≤(nth o j).dS∧(nth o j).dS≤7)∧∀ j,j < k.aN.length→c.a5.contains (j:Int)=false→ho (nth o j) (hz c)=true) k.aN.length
  (λ i x hi E=>by
   obtain ⟨j,o⟩:=x
   obtain ⟨rfl,hlen,f,g⟩:=E
   simp only at hlen f g
   refine .inl ?_
   have hw:=B.oB _ (dk hi)
   obtain ⟨H,A,I,T,V⟩:=f i hi
   simp only [show decide ((i:Int) < (o.length:Int))=true by simp; omega,a3,bD,a6 (show i < o.length by omega),aD,bN (i:=i) (by omega),wi (l:=c.a5) (n:=(i:Int)) (by omega)]
   cases J:c.a5.contains (i:Int) with
   | true =>
    rw [a3,aD,a3]
    refine ⟨_,rfl,rfl,hlen,f,λ j m y=>?_⟩
    by_cases e:j=i
    ·subst e; rw [J] at y; cases y
    ·exact g j (by omega) y
   | false =>
    rw [aS,aD]
    by_cases heq:(nth o i).U=c.U
    ·rw [show (g9 (nth o i).U c.U == true)=true by rw [(q6 _ _).2 heq]; rfl,a3]
     refine ⟨_,rfl,rfl,hlen,f,λ j m y=>?_⟩
     by_cases e:j=i
     ·subst e
      unfold ho
      rw [cr (show (nth o j).U=(hz c).at_ from heq),Bool.true_or]
     ·exact g j (by omega) y
    ·rw [show (g9 (nth o i).U c.U == true)=false by
      cases he:g9 (nth o i).U c.U with
      | true=>exact absurd ((q6 _ _).1 he) heq
      | false=>rfl,aS,← wk]
     have aa:=hw.cmp
     have ae:=F.off _ (show (nth o i).cz.toNat < k.a4.length by rw [A]; omega)
     have af:=B.comp _ (dk (show (nth o i).cz.toNat < k.a4.length by rw [A]; omega))
     obtain ⟨z,s1,s2⟩:=AA (nth o i).U c.U (off:=nth c.fV (nth o i).cz.toNat) (by omega)
     rw [s1,aD,show idx c.fV (nth o i).cz=some (nth c.fV (nth o i).cz.toNat) by unfold idx; rw [if_pos (by rw [A]; omega)]; exact a6 (by rw [A]; omega),aD,s2,aD,cm]
     have G:0≤lI (nth o i).U c.U (nth c.fV (nth o i).cz.toNat)∧lI (nth o i).U c.U (nth c.fV (nth o i).cz.toNat)≤7:=by unfold lI; omega
     refine ⟨_,rfl,rfl,by rw [List.length_set]; exact hlen,λ j m=>?_,λ j m y=>?_⟩
     ·by_cases e:j=i
      ·subst e
       simp only []
       rw [rO (by omega)]
       exact ⟨H,A,I,G.1,G.2⟩
      ·simp only []
       rw [p7 (Ne.symm e)]
       exact f j m
     ·by_cases e:j=i
      ·subst e
       simp only []
       rw [rO (by omega)]
       unfold ho
       obtain ⟨_,c2,_⟩:=ta (c:=c.fV) (by omega)
       rw [Bool.or_eq_true]
       refine .inr ?_
       show (lI (nth o j).U c.U (nth (c8 Z3 c.fV) (nth o j).cz.toNat) == lI (nth o j).U c.U (nth c.fV (nth o j).cz.toNat))=true
       rw [c2 _ (by rw [A]; omega),beq_self_eq_true]
      ·simp only []
       rw [p7 (Ne.symm e)]
       exact g j (by omega) y)
  (λ x E=>by
   obtain ⟨j,o⟩:=x
   obtain ⟨rfl,hlen,f,g⟩:=E
   simp only at hlen f g
   exact ⟨o,by simp only [hlen,cP,aS],hlen,f,g⟩)
  ⟨rfl,rfl,λ j m=>by
   have:=(B.oB _ (dk m)).sM
   exact ⟨rfl,rfl,rfl,this.1,this.2⟩,λ j m=>by omega⟩
 rw [dh K]
 exact ⟨_,rfl,rfl,rfl,rfl,rfl,L,M,N⟩
theorem oN.valid{k o:bg}{c:ht}(h:oN k c o)(d:VB k):VB o:=by
 refine ⟨by rw [h.wide]; exact d.wide,by rw [h.high]; exact d.high,by rw [h.jW]; exact d.jW,by rw [h.comp]; exact d.c1,by rw [h.comp]; exact d.c3,by rw [h.comp]; exact d.comp,by rw [h.len]; exact d.w5,λ w hw=>?_⟩
 obtain ⟨j,f,rfl⟩:=hR hw
 rw [h.len] at f
 obtain ⟨e1,g,y,m,s⟩:=h.same j f
 have:=d.oB _ (dk f)
 exact ⟨by rw [e1]; exact this.tf,by rw [e1]; exact this.uY,⟨m,s⟩,by rw [g,h.comp]; exact this.cmp⟩
theorem oN.real{k o:bg}{c:ht}(h:oN k c o)(d:lP k c):lP o c:=by
 obtain ⟨n,g,m⟩:=d.at_
 refine ⟨⟨n,by rw [h.wide,h.high]; exact g,by rw [m]; unfold hp; rw [h.wide]⟩,by rw [h.comp]; exact d.len,by rw [h.comp]; exact d.off,d.sJ,λ x s=>?_,by rw [h.jW]; exact d.o6⟩
 have:=d.each x s
 obtain ⟨_,_,f,_⟩:=h.same x.toNat (by omega)
 exact ⟨this.1,by rw [h.len]; exact this.2.1,by rw [f]; exact this.2.2⟩
theorem Ag{k:bg}(B:VB k){c:ht}(d:lP k c)(A:∀ i,i < k.aN.length→c.a5.contains (i:Int)=false→ho (nth k.aN i) (hz c)=true):∃ x∈dz k,x.ea.at_=c.U:=by
 have C:=B.w5
 obtain ⟨n,y,m⟩:=d.at_
 let p:Nat→Bool:=λ i=>c.a5.contains (i:Int)
 have hm:=lA p k.aN.length
 refine ⟨⟨hz c,((mk p k.aN.length:Nat):Int)⟩,?_,rfl⟩
 unfold dz
 rw [List.mem_flatMap]
 refine ⟨hz c,?_,?_⟩
 ·unfold jm
  rw [List.mem_flatMap]
  refine ⟨n,List.mem_range.2 y,List.mem_map.2 ⟨c.fV,rH.2 ⟨d.len,λ i hi=>zE.2 (d.off i hi)⟩,?_⟩⟩
  unfold hz
  rw [m]
 ·unfold ju
  refine List.mem_map.2 ⟨_,List.mem_filter.2 ⟨List.mem_range.2 hm,?_⟩,rfl⟩
  have s:lX (mk p k.aN.length)=c.a5:=by
   refine oV _ _ ?_ d.sJ λ x=>?_
   ·unfold lX
    rw [List.pairwise_map]
    exact (List.pairwise_lt_range.filter _).imp λ h=>by omega
   ·unfold lX
    simp only [List.mem_map,List.mem_filter,List.mem_range,mQ,dn,decide_eq_true_eq]
    constructor
    ·rintro ⟨i,⟨_,_,z⟩,rfl⟩
     exact List.contains_iff_mem.1 z
    ·intro g
     have:=d.each x g
     refine ⟨x.toNat,⟨by omega,by omega,?_⟩,by omega⟩
     show c.a5.contains ((x.toNat:Nat):Int)=true
     rw [show ((x.toNat:Nat):Int)=x by omega]
     exact List.contains_iff_mem.2 g
  unfold jG
  rw [dn,dn,List.all_eq_true,List.all_eq_true,decide_eq_true_eq]
  refine ⟨λ i _=>?_,λ i _=>?_,by rw [s]; exact d.o6⟩
  ·rw [mQ,mQ]
   by_cases hi:i < k.aN.length
   ·rw [cr hi,Bool.true_and,Bool.true_and]
    show (!fi k (hz c) i || c.a5.contains (i:Int))=true
    cases f:c.a5.contains (i:Int) with
    | true=>simp
    | false=>unfold fi; rw [A i hi f]; rfl
   ·rw [cY hi]; rfl
  ·rw [mQ,mQ]
   by_cases hi:i < k.aN.length
   ·rw [cr hi,Bool.true_and,Bool.true_and]
    show (!(c.a5.contains (i:Int) && gX k i))=true
    cases f:c.a5.contains (i:Int) with
    | true =>
     have:=(d.each _ (List.contains_iff_mem.1 f)).2.2
     rw [cm] at this
     unfold gX
     rw [this]; rfl
    | false=>rfl
   ·rw [cY hi]; rfl
theorem KQ{k:bg}{c:ht}(d:lP k c){i:Nat}(hi:i < k.aN.length)(y:c.a5.contains (i:Int)=false)(B:∀ i,i < k.aN.length→c.a5.contains (i:Int)=false→ho (nth k.aN i) (hz c)=true) :
  lP (fp k i) c∧∀ j,j < (fp k i).aN.length→c.a5.contains (j:Int)=false→ho (nth (fp k i).aN j) (hz c)=true:=by
 have A:(fp k i).aN.length=k.aN.length:=List.length_set
 refine ⟨⟨d.at_,d.len,d.off,d.sJ,λ x m=>?_,d.o6⟩,λ j C z=>?_⟩
 ·have f:=d.each x m
  refine ⟨f.1,by rw [A]; exact f.2.1,?_⟩
  rw [(sd (k:=k) (j:=x.toNat) hi).2.2.2,f.2.2,Bool.false_or,decide_eq_false_iff_not]
  intro e
  have:c.a5.contains (i:Int)=true:=by
   rw [← e,show ((x.toNat:Nat):Int)=x by omega]
   exact List.contains_iff_mem.2 m
  rw [y] at this
  cases this
 ·have g:=AV hi (hz c) j
  unfold fi at g
  have s:=B j (by omega) z
  rw [s] at g
  simpa using g
end Go.Proofs.YtoaoffinglajbaaGreatDoor
