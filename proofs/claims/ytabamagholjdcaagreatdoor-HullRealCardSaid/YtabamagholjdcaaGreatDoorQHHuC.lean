/- The chapter's examples, by reckoning. Conditions: none. -/
import Derived.Test.YtabamagholjdcaaGreatDoorQHHuM
import Derived.Test.YtabamagholjdcaaGreatDoorQHLgC
namespace Go.Proofs.YtabamagholjdcaaGreatDoor
open Go.Lg Go.Proofs
noncomputable section
set_option maxRecDepth 100000
set_option maxHeartbeats 4000000
def d104(x0:aj)(x1:bt)(x2:(List Bool)):{c // ah c (pM x0 x1 x2)}:=⟨_,by
 unfold pM
 with_reducible repeat' first | intro _ | apply ah.loop | apply ah.ae | apply ah.bind | exact ah.refl _⟩
def d147(x0:di)(x1:Int):{c // ah c (yR x0 x1)}:=⟨_,by
 unfold yR
 with_reducible repeat' first | intro _ | apply (d104 _ _ _).2 | apply ah.loop | apply ah.ae | apply ah.bind | exact ah.refl _⟩
abbrev adN(x0:di)(x1:Int):=(d147 x0 x1).1
theorem aHd(x0:di)(x1:Int):ah (adN x0 x1) (yR x0 x1):=(d147 x0 x1).2
def c91(x0:di):Option gB :=
 (se .i64 1 (x0.book.ao.length:Int)).bind λ many =>
 ((List.range many.toNat).mapM (λ (i:Nat)=>adN x0 (i:Int))).bind λ l =>
 if x0.pB=[]∧(l.map (·.1)).Nodup∧(∀ p∈l,p.1.length=5)∧0≤many∧many≤1048576 then some l else none
theorem Pc(x0:di):ah (c91 x0) (wE x0):=by
 unfold c91 wE
 with_reducible repeat' first | exact ah.refl _ | refine ah.mapM (λ _=>?_) _ | exact aHd _ _ | refine ah.bind ?_ λ _=>?_
def d121(x0:Reach)(x1:Int)(x2:Int)(x3:Int):{c // ah c (xC x0 x1 x2 x3)}:=⟨_,by
 unfold xC
 with_reducible repeat' first | intro _ | apply ah.ae | apply ah.bind | exact ah.refl _⟩
def d154(x0:Int)(x1:Int)(x2:Int):{c // ah c (mA x0 x1 x2)}:=⟨_,by
 unfold mA
 with_reducible repeat' first | intro _ | apply ah.ae | apply ah.bind | exact ah.refl _⟩
def d211(x0:aj):{c // ah c (DN x0)}:=⟨_,by
 unfold DN
 with_reducible repeat' first | intro _ | apply (d121 _ _ _ _).2 | apply (d154 _ _ _).2 | apply ah.ae | apply ah.bind | exact ah.refl _⟩
def d132(x0:(List Int))(x1:Int):{c // ah c (xE x0 x1)}:=⟨_,by
 unfold xE
 with_reducible repeat' first | intro _ | apply (d154 _ _ _).2 | apply ah.loop | apply ah.ae | apply ah.elim | apply ah.bind | exact ah.refl _⟩
def d215(x0:ByteArray):{c // ah c (DS x0)}:=⟨_,by
 unfold DS
 with_reducible repeat' first | intro _ | apply (d154 _ _ _).2 | apply ah.loop | apply ah.ae | apply ah.elim | apply ah.bind | exact ah.refl _⟩
def TQ(x0:(List cE))(x1:(cE→Option Bool)):Option Int :=
 (tu (O:=(Unit ⊕ Int)) (λ (dL:Int) =>
 ae (decide (dL < (x0.length:Int)))
 ((idx x0 dL).bind λ ey =>
 (x1 ey).bind λ eM =>
 ae eM
 (some (.inr (.inr dL)))
 (some (.inl (i64 (dL+1)))))
 (some (.inr (.inl ())))) 0).bind (Sum.elim (λ (_:Unit) =>
 some (-1))
  (λ q=>some q))
theorem aHy(x0:(List cE)){x1 gk:(cE→Option Bool)}(gV:∀ y,ah (x1 y) (gk y)):ah (TQ x0 x1) (Gr x0 gk):=by
 unfold TQ Gr
 with_reducible repeat' first | exact ah.refl _ | refine ah.loop λ _=>?_ | refine ah.ae ?_ ?_ | refine ah.elim (λ _=>?_) (λ _=>?_) _ | exact gV _ | exact hy _ _ | refine ah.bind ?_ λ _=>?_
def ad2(x0:(List cE))(x1:(cE→Option Bool)):Option Bool :=
 (TQ x0 x1).bind λ cF =>
 some (decide (cF ≥ 0))
theorem aHx(x0:(List cE)){x1 gk:(cE→Option Bool)}(gV:∀ y,ah (x1 y) (gk y)):ah (ad2 x0 x1) (DT x0 gk):=by
 unfold ad2 DT
 with_reducible repeat' first | exact ah.refl _ | refine aHy _ (λ _=>?_) | exact gV _ | exact hy _ _ | refine ah.bind ?_ λ _=>?_
def d217(x0:cE)(x1:cE):{c // ah c (DU x0 x1)}:=⟨_,by
 unfold DU
 with_reducible repeat' first | intro _ | apply ah.bind | exact ah.refl _⟩
def d212(x0:aj):{c // ah c (DO x0)}:=⟨_,by
 unfold DO
 with_reducible repeat' first | intro _ | apply (d121 _ _ _ _).2 | apply (d132 _ _).2 | apply (d154 _ _ _).2 | apply (d215 _).2 | apply aHx | apply (d217 _ _).2 | apply ah.loop | apply ah.ae | apply ah.elim | apply ah.bind | exact ah.refl _⟩
def d93(x0:(List Bool))(x1:(List Int)):{c // ah c (jK x0 x1)}:=⟨_,by
 unfold jK
 with_reducible repeat' first | intro _ | apply ah.loop | apply ah.ae | apply ah.bind | exact ah.refl _⟩
abbrev IX(x0:(List Bool))(x1:(List Int)):=(d93 x0 x1).1
theorem Zr(x0:(List Bool))(x1:(List Int)):ah (IX x0 x1) (jK x0 x1):=(d93 x0 x1).2
def d120(x0:aj)(x1:Int):{c // ah c (vx x0 x1)}:=⟨_,by
 unfold vx
 with_reducible repeat' first | intro _ | apply (d154 _ _ _).2 | apply ah.bind | exact ah.refl _⟩
def TN(x0:(List Int))(x1:(Int→Option Bool)):Option Int :=
 (tu (O:=(Unit ⊕ Int)) (λ (dL:Int) =>
 ae (decide (dL < (x0.length:Int)))
 ((idx x0 dL).bind λ ey =>
 (x1 ey).bind λ eM =>
 ae eM
 (some (.inr (.inr dL)))
 (some (.inl (i64 (dL+1)))))
 (some (.inr (.inl ())))) 0).bind (Sum.elim (λ (_:Unit) =>
 some (-1))
  (λ q=>some q))
theorem aHj(x0:(List Int)){x1 gk:(Int→Option Bool)}(gV:∀ y,ah (x1 y) (gk y)):ah (TN x0 x1) (Gk x0 gk):=by
 unfold TN Gk
 with_reducible repeat' first | exact ah.refl _ | refine ah.loop λ _=>?_ | refine ah.ae ?_ ?_ | refine ah.elim (λ _=>?_) (λ _=>?_) _ | exact gV _ | exact hy _ _ | refine ah.bind ?_ λ _=>?_
def adR(x0:(List Int))(x1:(Int→Option Bool)):Option Bool :=
 (TN x0 x1).bind λ cF =>
 some (decide (cF ≥ 0))
theorem ags(x0:(List Int)){x1 gk:(Int→Option Bool)}(gV:∀ y,ah (x1 y) (gk y)):ah (adR x0 x1) (Ab x0 gk):=by
 unfold adR Ab
 with_reducible repeat' first | exact ah.refl _ | refine aHj _ (λ _=>?_) | exact gV _ | exact hy _ _ | refine ah.bind ?_ λ _=>?_
def d188(x0:(List Int))(x1:Int):{c // ah c (Gp x0 x1)}:=⟨_,by
 unfold Gp
 with_reducible repeat' first | intro _ | apply ah.loop | apply ah.ae | apply ah.elim | apply ah.bind | exact ah.refl _⟩
def d175(x0:(List Int))(x1:Int):{c // ah c (DK x0 x1)}:=⟨_,by
 unfold DK
 with_reducible repeat' first | intro _ | apply (d188 _ _).2 | apply ah.bind | exact ah.refl _⟩
def d166(x0:aj)(x1:Int):{c // ah c (DH x0 x1)}:=⟨_,by
 unfold DH
 with_reducible repeat' first | intro _ | apply (d175 _ _).2 | apply ah.loop | apply ah.ae | apply ah.bind | exact ah.refl _⟩
def d167(x0:Int)(x1:(List Bool)):{c // ah c (DI x0 x1)}:=⟨_,by
 unfold DI
 with_reducible repeat' first | intro _ | apply ah.bind | exact ah.refl _⟩
def d149(x0:aj)(x1:(List Bool))(x2:Int):{c // ah c (xG x0 x1 x2)}:=⟨_,by
 unfold xG
 with_reducible repeat' first | intro _ | apply ags | apply (d166 _ _).2 | apply (d167 _ _).2 | apply ah.ae | apply ah.bind | exact ah.refl _⟩
def d99(x0:aj)(x1:(List Bool))(x2:(List Int)):{c // ah c (xK x0 x1 x2)}:=⟨_,by
 unfold xK
 with_reducible repeat' first | intro _ | apply (d93 _ _).2 | apply (d120 _ _).2 | apply (d149 _ _ _).2 | apply ah.loop | apply ah.ae | apply ah.elim | apply ah.bind | exact ah.refl _⟩
def d213(x0:aj):{c // ah c (DQ x0)}:=⟨_,by
 unfold DQ
 with_reducible repeat' first | intro _ | apply (d99 _ _ _).2 | apply ah.bind | exact ah.refl _⟩
def d214(x0:aj):{c // ah c (DR x0)}:=⟨_,by
 unfold DR
 with_reducible repeat' first | intro _ | apply (d154 _ _ _).2 | apply ah.loop | apply ah.ae | apply ah.elim | apply ah.bind | exact ah.refl _⟩
def d83(x0:aj):{c // ah c (mB x0)}:=⟨_,by
 unfold mB
 with_reducible repeat' first | intro _ | apply (d211 _).2 | apply (d212 _).2 | apply (d213 _).2 | apply (d214 _).2 | apply ah.ae | apply ah.bind | exact ah.refl _⟩
abbrev c83(x0:aj):=(d83 x0).1
theorem aHQ(x0:aj):ah (c83 x0) (mB x0):=(d83 x0).2
def d103(x0:aj)(x1:Int):{c // ah c (wj x0 x1)}:=⟨_,by
 unfold wj
 with_reducible repeat' first | intro _ | apply ah.bind | exact ah.refl _⟩
def TO(x0:(List bV))(x1:(bV→Option Bool)):Option Int :=
 (tu (O:=(Unit ⊕ Int)) (λ (dL:Int) =>
 ae (decide (dL < (x0.length:Int)))
 ((idx x0 dL).bind λ ey =>
 (x1 ey).bind λ eM =>
 ae eM
 (some (.inr (.inr dL)))
 (some (.inl (i64 (dL+1)))))
 (some (.inr (.inl ())))) 0).bind (Sum.elim (λ (_:Unit) =>
 some (-1))
  (λ q=>some q))
theorem aHk(x0:(List bV)){x1 gk:(bV→Option Bool)}(gV:∀ y,ah (x1 y) (gk y)):ah (TO x0 x1) (Gm x0 gk):=by
 unfold TO Gm
 with_reducible repeat' first | exact ah.refl _ | refine ah.loop λ _=>?_ | refine ah.ae ?_ ?_ | refine ah.elim (λ _=>?_) (λ _=>?_) _ | exact gV _ | exact hy _ _ | refine ah.bind ?_ λ _=>?_
def adS(x0:(List bV))(x1:(bV→Option Bool)):Option Bool :=
 (TO x0 x1).bind λ cF =>
 some (decide (cF ≥ 0))
theorem aHg(x0:(List bV)){x1 gk:(bV→Option Bool)}(gV:∀ y,ah (x1 y) (gk y)):ah (adS x0 x1) (DF x0 gk):=by
 unfold adS DF
 with_reducible repeat' first | exact ah.refl _ | refine aHk _ (λ _=>?_) | exact gV _ | exact hy _ _ | refine ah.bind ?_ λ _=>?_
def d164(x0:Int):{c // ah c (DG x0)}:=⟨_,by
 unfold DG
 with_reducible repeat' first | intro _ | apply ah.ae | apply ah.bind | exact ah.refl _⟩
def d163(x0:bV)(x1:Int)(x2:Int):{c // ah c (Ac x0 x1 x2)}:=⟨_,by
 unfold Ac
 with_reducible repeat' first | intro _ | apply (d164 _).2 | apply ah.ae | apply ah.bind | exact ah.refl _⟩
def d143(x0:aj)(x1:bt):{c // ah c (xF x0 x1)}:=⟨_,by
 unfold xF
 with_reducible repeat' first | intro _ | apply (d93 _ _).2 | apply (d103 _ _).2 | apply (d104 _ _ _).2 | apply aHg | apply (d163 _ _ _).2 | apply ah.loop | apply ah.ae | apply ah.elim | apply ah.bind | exact ah.refl _⟩
abbrev adM(x0:aj)(x1:bt):=(d143 x0 x1).1
theorem aHb(x0:aj)(x1:bt):ah (adM x0 x1) (xF x0 x1):=(d143 x0 x1).2
def NK{S:Type}(ys:bt→S→Option (S × Bool)):Nat→bt→Int→aj→S→Option (S × Bool)
 | 0,_,_,_,_=>none
 | k+1,x0,x1,x2,s0 =>
  ae (x1 == (x2.ao.length:Int))
  (((((adM x2 x0).bind λ eL =>
  ae (!eL)
  (some (s0,true))
  ((ys x0 s0).bind λ iU =>
  some (iU.1,iU.2))):Option (S × Bool))).bind (λ (ny:(S × Bool)) =>
  some (ny.1,ny.2)))
  ((idx x2.ao x1).bind λ nH =>
  (tu (O:=(S ⊕ (S × Bool))) (λ (dV:(S × Int × (List Int))) =>
  ae (decide (dV.2.1≤nH.Weight.ak))
  ((idx dV.2.2 x1).bind λ _ =>
  (NK ys k (⟨x0.df,dV.2.2.set x1.toNat dV.2.1⟩:bt) (i64 (x1+1)) x2 dV.1).bind λ j9 =>
  ae (!j9.2)
  (some (.inr (.inr (j9.1,false))))
  (some (.inl (j9.1,i64 (dV.2.1+1),dV.2.2.set x1.toNat dV.2.1))))
  (some (.inr (.inl dV.1)))) (s0,nH.Weight.ai,x0.weights)).bind (Sum.elim (λ (kF:S) =>
  some (kF,true))
   (λ q=>some q)))
theorem agr{S:Type}{ys kP:bt→S→Option (S × Bool)}(h:∀ y s,ah (ys y s) (kP y s)):∀ k x0 x1 x2 s0,ah (NK ys k x0 x1 x2 s0) (tz kP k x0 x1 x2 s0)
 | 0,_,_,_,_=>ah.none
 | k+1,x0,x1,x2,s0=>by
  have ih:=agr h k
  rw [NK,tz]
  with_reducible repeat' first | exact ah.refl _ | refine ah.loop λ _=>?_ | refine ah.ae ?_ ?_ | refine ah.elim (λ _=>?_) (λ _=>?_) _ | exact aHb _ _ | exact h _ _ | exact ih _ _ _ _ | refine ah.bind ?_ λ _=>?_
def TJ{S:Type}(ys:bt→S→Option (S × Bool))(x0:aj)(s0:S):Option S :=
 (tu (O:=(S ⊕ S)) (λ (mI:(S × Int)) =>
  ae (decide (mI.2≤x0.aa.ak))
  ((NK ys 9 (⟨mI.2,[0,0,0,0,0]⟩:bt) 0 x0 mI.1).bind λ kN =>
  ae (!kN.2)
  (some (.inr (.inr kN.1)))
  (some (.inl (kN.1,i64 (mI.2+1)))))
  (some (.inr (.inl mI.1)))) (s0,x0.aa.ai)).bind (Sum.elim (λ (GF:S) =>
  some GF)
   (λ q=>some q))
theorem Zp{S:Type}{ys kP:bt→S→Option (S × Bool)}(h:∀ y s,ah (ys y s) (kP y s))(x0:aj)(s0:S):ah (TJ ys x0 s0) (qE kP x0 s0):=by
 unfold TJ qE
 with_reducible repeat' first | exact ah.refl _ | refine ah.loop λ _=>?_ | refine ah.ae ?_ ?_ | refine ah.elim (λ _=>?_) (λ _=>?_) _ | refine agr (λ _ _=>?_) _ _ _ _ _ | exact h _ _ | refine ah.bind ?_ λ _=>?_
def TL (x1:(bt→((List bt) ⊕ Empty)→Option (((List bt) ⊕ Empty) × Bool))→((List bt) ⊕ Empty)→Option ((List bt) ⊕ Empty)):Option (List bt) :=
 (x1 (dq (λ (AV:bt) (jN:(List bt))=>(((cV jN [AV]).bind λ lW =>
 some (.inl lW)):Option ((List bt) ⊕ Empty)))) (.inl [])).bind (Sum.elim (λ (jN:(List bt)) =>
 some jN)
  (λ (o:Empty)=>o.elim))
theorem aHh{x1 gk:(bt→((List bt) ⊕ Empty)→Option (((List bt) ⊕ Empty) × Bool))→((List bt) ⊕ Empty)→Option ((List bt) ⊕ Empty)}(gV:∀ ys kP,(∀ y s,ah (ys y s) (kP y s))→∀ s,ah (x1 ys s) (gk kP s)):ah (TL x1) (Gj gk):=by
 unfold TL Gj
 with_reducible repeat' first | exact ah.refl _ | refine ah.elim (λ _=>?_) (λ _=>?_) _ | refine ah.dq (λ _ _=>?_) _ _ | refine gV _ _ (λ _ _=>?_) _ | exact gV | exact hy _ _ | refine ah.bind ?_ λ _=>?_
def TK (x0:(bt→((List bt) ⊕ Empty)→Option (((List bt) ⊕ Empty) × Bool))→((List bt) ⊕ Empty)→Option ((List bt) ⊕ Empty)):Option (List bt) :=
 (TL x0).bind λ cF =>
 some cF
theorem aHc{x0 x0':(bt→((List bt) ⊕ Empty)→Option (((List bt) ⊕ Empty) × Bool))→((List bt) ⊕ Empty)→Option ((List bt) ⊕ Empty)}(s8:∀ ys kP,(∀ y s,ah (ys y s) (kP y s))→∀ s,ah (x0 ys s) (x0' kP s)):ah (TK x0) (DD x0'):=by
 unfold TK DD
 with_reducible repeat' first | exact ah.refl _ | refine aHh (λ _ _ hy _=>?_) | refine s8 _ _ (λ _ _=>?_) _ | exact s8 | exact hy _ _ | refine ah.bind ?_ λ _=>?_
def c89(x0:aj)(x1:(aj→Option Int)):Option (di × Int) :=
 (c83 x0).bind λ dc =>
 ae (dc != 0)
 (some ((⟨⟨0,⟨0,0⟩,[],[],[]⟩,[],mD⟩:di),dc))
 ((x1 x0).bind λ gr =>
 ae (gr != 0)
 (some ((⟨⟨0,⟨0,0⟩,[],[],[]⟩,[],mD⟩:di),gr))
 ((TK (λ y s=>TJ y x0 s)).bind λ qP =>
 ae ((qP.length:Int) == 0)
 (some ((⟨⟨0,⟨0,0⟩,[],[],[]⟩,[],mD⟩:di),9))
 (some ((⟨⟨x0.aB,⟨x0.aa.ai,x0.aa.ak⟩,x0.ao,x0.Out,x0.aT⟩,qP,[]⟩:di),0))))
theorem xy(x0:aj){x1 gk:(aj→Option Int)}(gV:∀ y,ah (x1 y) (gk y)):ah (c89 x0 x1) (nv x0 gk):=by
 unfold c89 nv
 with_reducible repeat' first | exact ah.refl _ | refine ah.ae ?_ ?_ | exact aHQ _ | refine Zp (λ _ _=>?_) _ _ | refine aHc (λ _ _ hy _=>?_) | exact gV _ | exact hy _ _ | refine ah.bind ?_ λ _=>?_
def d90(x0:aj):{c // ah c (mC x0)}:=⟨_,by
 unfold mC
 with_reducible repeat' first | intro _ | apply ah.bind | exact ah.refl _⟩
def d92(x0:aj)(x1:(List Bool)):{c // ah c (wF x0 x1)}:=⟨_,by
 unfold wF
 with_reducible repeat' first | intro _ | apply (d149 _ _ _).2 | apply ah.loop | apply ah.ae | apply ah.bind | exact ah.refl _⟩
abbrev c92(x0:aj)(x1:(List Bool)):=(d92 x0 x1).1
theorem aHT(x0:aj)(x1:(List Bool)):ah (c92 x0 x1) (wF x0 x1):=(d92 x0 x1).2
def adO{S:Type}(ys:(List Bool)→S→Option (S × Bool))(x1:aj)(x2:(List Int))(s0:S):Option S :=
 (IX [false,false,false,false,false] x1.Out).bind λ QN =>
  (tu (O:=(S ⊕ S)) (λ (kI:(S × Int × (List Bool))) =>
  ae (decide (kI.2.1 < (x2.length:Int)))
  ((idx x2 kI.2.1).bind λ gr =>
  (IX kI.2.2 [gr]).bind λ fx =>
  (ys fx kI.1).bind λ fZ =>
  ae (!fZ.2)
  (some (.inr (.inr fZ.1)))
  (some (.inl (fZ.1,i64 (kI.2.1+1),fx))))
  (some (.inr (.inl kI.1)))) (s0,0,QN)).bind (Sum.elim (λ (GD:S) =>
  some GD)
   (λ q=>some q))
theorem Zq{S:Type}{ys kP:(List Bool)→S→Option (S × Bool)}(h:∀ y s,ah (ys y s) (kP y s))(x1:aj)(x2:(List Int))(s0:S):ah (adO ys x1 x2 s0) (qZ kP x1 x2 s0):=by
 unfold adO qZ
 with_reducible repeat' first | exact ah.refl _ | refine ah.loop λ _=>?_ | refine ah.ae ?_ ?_ | refine ah.elim (λ _=>?_) (λ _=>?_) _ | exact Zr _ _ | exact h _ _ | refine ah.bind ?_ λ _=>?_
def d102(x0:aj)(x1:(List Int)):{c // ah c (yq x0 x1)}:=⟨_,by
 unfold yq
 with_reducible repeat' first | intro _ | apply ah.bind | exact ah.refl _⟩
def d94(x0:di)(x1:(List Int)):{c // ah c (yI x0 x1)}:=⟨_,by
 unfold yI
 with_reducible repeat' first | intro _ | apply (d102 _ _).2 | apply Zq | apply ah.elim | apply ah.dq | apply ah.bind | exact ah.refl _⟩
def d20(x0:aj):{c // ah c (Gq x0)}:=⟨_,by
 unfold Gq
 with_reducible repeat' first | intro _ | apply xy | apply (d90 _).2 | apply Pc | apply (d92 _ _).2 | apply (d93 _ _).2 | apply (d94 _ _).2 | apply ah.loop | apply ah.ae | apply ah.bind | exact ah.refl _⟩
abbrev c20(x0:aj):=(d20 x0).1
theorem aHw(x0:aj):ah (c20 x0) (Gq x0):=(d20 x0).2
def d98(x0:aj)(x1:(List Int)):{c // ah c (Bw x0 x1)}:=⟨_,by
 unfold Bw
 with_reducible repeat' first | intro _ | apply (d93 _ _).2 | apply (d99 _ _ _).2 | apply ah.ae | apply ah.bind | exact ah.refl _⟩
def adI(x0:di)(x1:(bt→Option Bool)):Option Int :=
 (tu (O:=Int) (λ (du:(Int × Int)) =>
 ae (decide (du.2 < (x0.eB.length:Int)))
 ((idx x0.eB du.2).bind λ eN =>
 (x1 eN).bind λ kh =>
 ae kh
 (some (.inl (i64 (du.1+1),i64 (du.2+1))))
 (some (.inl (du.1,i64 (du.2+1)))))
 (some (.inr du.1))) (0,0)).bind (λ (iw:Int) =>
 ae (iw == 0)
 (some 2)
 (ae (iw == (x0.eB.length:Int))
 (some 1)
 (some 0)))
theorem ago(x0:di){x1 gk:(bt→Option Bool)}(gV:∀ y,ah (x1 y) (gk y)):ah (adI x0 x1) (A4 x0 gk):=by
 unfold adI A4
 with_reducible repeat' first | exact ah.refl _ | refine ah.loop λ _=>?_ | refine ah.ae ?_ ?_ | exact gV _ | exact hy _ _ | refine ah.bind ?_ λ _=>?_
def d101(x0:bt)(x1:di)(x2:(List Int)):{c // ah c (Bv x0 x1 x2)}:=⟨_,by
 unfold Bv
 with_reducible repeat' first | intro _ | apply (d102 _ _).2 | apply (d103 _ _).2 | apply (d104 _ _ _).2 | apply Zq | apply ah.ae | apply ah.elim | apply ah.dq | apply ah.bind | exact ah.refl _⟩
def d23(x0:aj)(x1:(List Int)):{c // ah c (oM x0 x1)}:=⟨_,by
 unfold oM
 with_reducible repeat' first | intro _ | apply xy | apply (d98 _ _).2 | apply ago | apply (d101 _ _ _).2 | apply ah.ae | apply ah.bind | exact ah.refl _⟩
abbrev NM(x0:aj)(x1:(List Int)):=(d23 x0 x1).1
theorem aHz(x0:aj)(x1:(List Int)):ah (NM x0 x1) (oM x0 x1):=(d23 x0 x1).2
def d125(x0:(List Int)):{c // ah c (uo x0)}:=⟨_,by
 unfold uo
 with_reducible repeat' first | intro _ | apply ah.bind | exact ah.refl _⟩
abbrev adK(x0:(List Int)):=(d125 x0).1
theorem aHa(x0:(List Int)):ah (adK x0) (uo x0):=(d125 x0).2
def NJ{S:Type}(ys:(List Int)→S→Option (S × Bool)):Nat→(List Int)→(List Bool)→aj→S→Option (S × Bool)
 | 0,_,_,_,_=>none
 | k+1,x0,x1,x2,s0 =>
  (c92 x2 x1).bind λ cF =>
  ae ((cF.length:Int) == 0)
  ((ys x0 s0).bind λ gm =>
  some (gm.1,gm.2))
  ((tu (O:=(S ⊕ (S × Bool))) (λ (nA:(S × Int)) =>
  ae (decide (nA.2 < (cF.length:Int)))
  ((idx cF nA.2).bind λ dP =>
  (adK x0).bind λ gD =>
  (cV gD [dP]).bind λ lB =>
  (IX x1 [dP]).bind λ dY =>
  (NJ ys k lB dY x2 nA.1).bind λ nJ =>
  ae (!nJ.2)
  (some (.inr (.inr (nJ.1,false))))
  (some (.inl (nJ.1,i64 (nA.2+1)))))
  (some (.inr (.inl nA.1)))) (s0,0)).bind (Sum.elim (λ (ny:S) =>
  some (ny,true))
   (λ q=>some q)))
theorem agq{S:Type}{ys kP:(List Int)→S→Option (S × Bool)}(h:∀ y s,ah (ys y s) (kP y s)):∀ k x0 x1 x2 s0,ah (NJ ys k x0 x1 x2 s0) (yS kP k x0 x1 x2 s0)
 | 0,_,_,_,_=>ah.none
 | k+1,x0,x1,x2,s0=>by
  have ih:=agq h k
  rw [NJ,yS]
  with_reducible repeat' first | exact ah.refl _ | refine ah.loop λ _=>?_ | refine ah.ae ?_ ?_ | refine ah.elim (λ _=>?_) (λ _=>?_) _ | exact aHT _ _ | exact Zr _ _ | exact aHa _ | exact h _ _ | exact ih _ _ _ _ | refine ah.bind ?_ λ _=>?_
def adJ{S:Type}(ys:(List Int)→S→Option (S × Bool))(x0:aj)(s0:S):Option S :=
 (IX [false,false,false,false,false] x0.Out).bind λ gm =>
  (NJ ys 9 [] gm x0 s0).bind λ fX =>
  some fX.1
theorem Zo{S:Type}{ys kP:(List Int)→S→Option (S × Bool)}(h:∀ y s,ah (ys y s) (kP y s))(x0:aj)(s0:S):ah (adJ ys x0 s0) (ss kP x0 s0):=by
 unfold adJ ss
 with_reducible repeat' first | exact ah.refl _ | exact Zr _ _ | refine agq (λ _ _=>?_) _ _ _ _ _ | exact h _ _ | refine ah.bind ?_ λ _=>?_
def d25(x0:aj):{c // ah c (qS x0)}:=⟨_,by
 unfold qS
 with_reducible repeat' first | intro _ | apply xy | apply (d90 _).2 | apply Pc | apply (d102 _ _).2 | apply Zo | apply Zq | apply ah.ae | apply ah.elim | apply ah.dq | apply ah.bind | exact ah.refl _⟩
abbrev NN(x0:aj):=(d25 x0).1
theorem aHA(x0:aj):ah (NN x0) (qS x0):=(d25 x0).2
def d27(x0:aj):{c // ah c (yG x0)}:=⟨_,by
 unfold yG
 with_reducible repeat' first | intro _ | apply xy | apply (d90 _).2 | apply Pc | apply (d94 _ _).2 | apply Zo | apply ah.ae | apply ah.elim | apply ah.dq | apply ah.bind | exact ah.refl _⟩
abbrev c27(x0:aj):=(d27 x0).1
theorem aHB(x0:aj):ah (c27 x0) (yG x0):=(d27 x0).2
def d110(x0:ai)(x1:(List Int))(x2:Int):{c // ah c (EX x0 x1 x2)}:=⟨_,by
 unfold EX
 with_reducible repeat' first | intro _ | apply ah.ae | apply ah.bind | exact ah.refl _⟩
def d29(x0:aj):{c // ah c (wc x0)}:=⟨_,by
 unfold wc
 with_reducible repeat' first | intro _ | apply xy | apply (d90 _).2 | apply Pc | apply (d94 _ _).2 | apply Zo | apply (d110 _ _ _).2 | apply ah.ae | apply ah.elim | apply ah.dq | apply ah.bind | exact ah.refl _⟩
abbrev c29(x0:aj):=(d29 x0).1
theorem aHC(x0:aj):ah (c29 x0) (wc x0):=(d29 x0).2
def d112(x0:aj):{c // ah c (A0 x0)}:=⟨_,by
 unfold A0
 with_reducible repeat' first | intro _ | apply Zp | apply ah.elim | apply ah.dq | apply ah.bind | exact ah.refl _⟩
def d176(x0:Int):{c // ah c (xH x0)}:=⟨_,by
 unfold xH
 with_reducible repeat' first | intro _ | apply ah.bind | exact ah.refl _⟩
def d168(x0:Int)(x1:Int):{c // ah c (KX x0 x1)}:=⟨_,by
 unfold KX
 with_reducible repeat' first | intro _ | apply (d176 _).2 | apply ah.ae | apply ah.bind | exact ah.refl _⟩
def d153(x0:(List Int))(x1:(List Int)):{c // ah c (KV x0 x1)}:=⟨_,by
 unfold KV
 with_reducible repeat' first | intro _ | apply (d168 _ _).2 | apply ah.loop | apply ah.ae | apply ah.elim | apply ah.bind | exact ah.refl _⟩
def d113(x0:(List Int))(x1:(List Int)):{c // ah c (EY x0 x1)}:=⟨_,by
 unfold EY
 with_reducible repeat' first | intro _ | apply (d153 _ _).2 | apply ah.ae | apply ah.bind | exact ah.refl _⟩
abbrev alm(x0:(List Int))(x1:(List Int)):=(d113 x0 x1).1
theorem aPg(x0:(List Int))(x1:(List Int)):ah (alm x0 x1) (EY x0 x1):=(d113 x0 x1).2
def d31(x0:aj):{c // ah c (Bl x0)}:=⟨_,by
 unfold Bl
 with_reducible repeat' first | intro _ | apply (d83 _).2 | apply (d112 _).2 | apply (d113 _ _).2 | apply ah.loop | apply ah.ae | apply ah.bind | exact ah.refl _⟩
abbrev c31(x0:aj):=(d31 x0).1
theorem aHD(x0:aj):ah (c31 x0) (Bl x0):=(d31 x0).2
def d33(x0:aj):{c // ah c (Gs x0)}:=⟨_,by
 unfold Gs
 with_reducible repeat' first | intro _ | apply xy | apply (d90 _).2 | apply ah.loop | apply ah.ae | apply ah.bind | exact ah.refl _⟩
abbrev c33(x0:aj):=(d33 x0).1
theorem aHE(x0:aj):ah (c33 x0) (Gs x0):=(d33 x0).2
def d117(x0:(List bV)):{c // ah c (Bg x0)}:=⟨_,by
 unfold Bg
 with_reducible repeat' first | intro _ | apply ah.bind | exact ah.refl _⟩
def d122(x0:(List cE)):{c // ah c (Bi x0)}:=⟨_,by
 unfold Bi
 with_reducible repeat' first | intro _ | apply ah.bind | exact ah.refl _⟩
def d118(x0:aj):{c // ah c (Bh x0)}:=⟨_,by
 unfold Bh
 with_reducible repeat' first | intro _ | apply (d83 _).2 | apply (d112 _).2 | apply (d117 _).2 | apply (d122 _).2 | apply (d125 _).2 | apply ah.loop | apply ah.ae | apply ah.bind | exact ah.refl _⟩
def d35(x0:aj)(x1:bV):{c // ah c (Bm x0 x1)}:=⟨_,by
 unfold Bm
 with_reducible repeat' first | intro _ | apply (d83 _).2 | apply (d117 _).2 | apply (d118 _).2 | apply ah.ae | apply ah.bind | exact ah.refl _⟩
abbrev c35(x0:aj)(x1:bV):=(d35 x0 x1).1
theorem aHF(x0:aj)(x1:bV):ah (c35 x0 x1) (Bm x0 x1):=(d35 x0 x1).2
def d38(x0:aj)(x1:Int)(x2:Reach):{c // ah c (Bn x0 x1 x2)}:=⟨_,by
 unfold Bn
 with_reducible repeat' first | intro _ | apply (d83 _).2 | apply (d118 _).2 | apply (d120 _ _).2 | apply (d121 _ _ _ _).2 | apply (d122 _).2 | apply ah.ae | apply ah.bind | exact ah.refl _⟩
abbrev c38(x0:aj)(x1:Int)(x2:Reach):=(d38 x0 x1 x2).1
theorem aHG(x0:aj)(x1:Int)(x2:Reach):ah (c38 x0 x1 x2) (Bn x0 x1 x2):=(d38 x0 x1 x2).2
def d40(x0:aj)(x1:Int):{c // ah c (DV x0 x1)}:=⟨_,by
 unfold DV
 with_reducible repeat' first | intro _ | apply (d83 _).2 | apply (d93 _ _).2 | apply (d99 _ _ _).2 | apply (d118 _).2 | apply (d125 _).2 | apply ah.ae | apply ah.bind | exact ah.refl _⟩
abbrev TR(x0:aj)(x1:Int):=(d40 x0 x1).1
theorem aHH(x0:aj)(x1:Int):ah (TR x0 x1) (DV x0 x1):=(d40 x0 x1).2
def d127(x0:aj)(x1:Int):{c // ah c (EI x0 x1)}:=⟨_,by
 unfold EI
 with_reducible repeat' first | intro _ | apply (d120 _ _).2 | apply ah.ae | apply ah.bind | exact ah.refl _⟩
def d183(x0:Int)(x1:Int):{c // ah c (fB x0 x1)}:=⟨_,by
 unfold fB
 with_reducible repeat' first | intro _ | apply (d176 _).2 | apply ah.ae | apply ah.bind | exact ah.refl _⟩
abbrev adZ(x0:Int)(x1:Int):=(d183 x0 x1).1
theorem aHr(x0:Int)(x1:Int):ah (adZ x0 x1) (fB x0 x1):=(d183 x0 x1).2
def d177(x0:(List Int))(x1:Int)(x2:Int):{c // ah c (Ae x0 x1 x2)}:=⟨_,by
 unfold Ae
 with_reducible repeat' first | intro _ | apply (d183 _ _).2 | apply ah.loop | apply ah.ae | apply ah.bind | exact ah.refl _⟩
abbrev adT(x0:(List Int))(x1:Int)(x2:Int):=(d177 x0 x1 x2).1
theorem aHl(x0:(List Int))(x1:Int)(x2:Int):ah (adT x0 x1 x2) (Ae x0 x1 x2):=(d177 x0 x1 x2).2
def d189(x0:(List Int))(x1:Int)(x2:Int)(x3:Int):{c // ah c (Aj x0 x1 x2 x3)}:=⟨_,by
 unfold Aj
 with_reducible repeat' first | intro _ | apply (d183 _ _).2 | apply ah.loop | apply ah.ae | apply ah.elim | apply ah.bind | exact ah.refl _⟩
def d178(x0:(List Int))(x1:Int)(x2:Int):{c // ah c (Af x0 x1 x2)}:=⟨_,by
 unfold Af
 with_reducible repeat' first | intro _ | apply (d189 _ _ _ _).2 | apply ah.loop | apply ah.ae | apply ah.bind | exact ah.refl _⟩
abbrev adU(x0:(List Int))(x1:Int)(x2:Int):=(d178 x0 x1 x2).1
theorem aHm(x0:(List Int))(x1:Int)(x2:Int):ah (adU x0 x1 x2) (Af x0 x1 x2):=(d178 x0 x1 x2).2
def d187(x0:Int):{c // ah c (KY x0)}:=⟨_,by
 unfold KY
 with_reducible repeat' first | intro _ | apply ah.ae | apply ah.bind | exact ah.refl _⟩
def d170(x0:Int):{c // ah c (Ad x0)}:=⟨_,by
 unfold Ad
 with_reducible repeat' first | intro _ | apply (d187 _).2 | apply ah.bind | exact ah.refl _⟩
abbrev TM(x0:Int):=(d170 x0).1
theorem aHi(x0:Int):ah (TM x0) (Ad x0):=(d170 x0).2
def d190(x0:Int):{c // ah c (DL x0)}:=⟨_,by
 unfold DL
 with_reducible repeat' first | intro _ | apply (d170 _).2 | apply ah.bind | exact ah.refl _⟩
abbrev TP(x0:Int):=(d190 x0).1
theorem aHv(x0:Int):ah (TP x0) (DL x0):=(d190 x0).2
def d191(x0:Int):{c // ah c (DM x0)}:=⟨_,by
 unfold DM
 with_reducible repeat' first | intro _ | apply ah.bind | exact ah.refl _⟩
def d179(x0:(List Int))(x1:Int)(x2:Int):{c // ah c (xI x0 x1 x2)}:=⟨_,by
 unfold xI
 with_reducible repeat' first | intro _ | apply (d190 _).2 | apply (d191 _).2 | apply ah.loop | apply ah.ae | apply ah.bind | exact ah.refl _⟩
abbrev adV(x0:(List Int))(x1:Int)(x2:Int):=(d179 x0 x1 x2).1
theorem aHn(x0:(List Int))(x1:Int)(x2:Int):ah (adV x0 x1 x2) (xI x0 x1 x2):=(d179 x0 x1 x2).2
def d194(x0:(List Int))(x1:Int)(x2:Int)(x3:Int):{c // ah c (rO x0 x1 x2 x3)}:=⟨_,by
 unfold rO
 with_reducible repeat' first | intro _ | apply (d183 _ _).2 | apply ah.ae | apply ah.bind | exact ah.refl _⟩
def d193(x0:(List Int))(x1:Int)(x2:Int)(x3:Int)(x4:Int):{c // ah c (tB x0 x1 x2 x3 x4)}:=⟨_,by
 unfold tB
 with_reducible repeat' first | intro _ | apply (d194 _ _ _ _).2 | apply ah.bind | exact ah.refl _⟩
def d192(x0:(List Int))(x1:Int)(x2:Int):{c // ah c (rN x0 x1 x2)}:=⟨_,by
 unfold rN
 with_reducible repeat' first | intro _ | apply (d193 _ _ _ _ _).2 | apply ah.bind | exact ah.refl _⟩
def d180(x0:(List Int))(x1:Int)(x2:Int):{c // ah c (Ag x0 x1 x2)}:=⟨_,by
 unfold Ag
 with_reducible repeat' first | intro _ | apply (d192 _ _ _).2 | apply (d193 _ _ _ _ _).2 | apply ah.ae | apply ah.bind | exact ah.refl _⟩
abbrev adW(x0:(List Int))(x1:Int)(x2:Int):=(d180 x0 x1 x2).1
theorem aHo(x0:(List Int))(x1:Int)(x2:Int):ah (adW x0 x1 x2) (Ag x0 x1 x2):=(d180 x0 x1 x2).2
def d181(x0:(List Int))(x1:Int)(x2:Int):{c // ah c (xJ x0 x1 x2)}:=⟨_,by
 unfold xJ
 with_reducible repeat' first | intro _ | apply ah.loop | apply ah.ae | apply ah.bind | exact ah.refl _⟩
abbrev adX(x0:(List Int))(x1:Int)(x2:Int):=(d181 x0 x1 x2).1
theorem aHp(x0:(List Int))(x1:Int)(x2:Int):ah (adX x0 x1 x2) (xJ x0 x1 x2):=(d181 x0 x1 x2).2
def d182(x0:(List Int))(x1:Int)(x2:Int):{c // ah c (vy x0 x1 x2)}:=⟨_,by
 unfold vy
 with_reducible repeat' first | intro _ | apply (d183 _ _).2 | apply ah.loop | apply ah.ae | apply ah.elim | apply ah.bind | exact ah.refl _⟩
abbrev adY(x0:(List Int))(x1:Int)(x2:Int):=(d182 x0 x1 x2).1
theorem aHq(x0:(List Int))(x1:Int)(x2:Int):ah (adY x0 x1 x2) (vy x0 x1 x2):=(d182 x0 x1 x2).2
def d184(x0:(List Int))(x1:Int)(x2:Int)(x3:Int):{c // ah c (Ah x0 x1 x2 x3)}:=⟨_,by
 unfold Ah
 with_reducible repeat' first | intro _ | apply (d183 _ _).2 | apply ah.loop | apply ah.ae | apply ah.bind | exact ah.refl _⟩
abbrev ad0(x0:(List Int))(x1:Int)(x2:Int)(x3:Int):=(d184 x0 x1 x2 x3).1
theorem aHs(x0:(List Int))(x1:Int)(x2:Int)(x3:Int):ah (ad0 x0 x1 x2 x3) (Ah x0 x1 x2 x3):=(d184 x0 x1 x2 x3).2
def d185(x0:(List Int))(x1:Int)(x2:Int)(x3:Int):{c // ah c (Ai x0 x1 x2 x3)}:=⟨_,by
 unfold Ai
 with_reducible repeat' first | intro _ | apply (d183 _ _).2 | apply ah.loop | apply ah.ae | apply ah.bind | exact ah.refl _⟩
abbrev ad1(x0:(List Int))(x1:Int)(x2:Int)(x3:Int):=(d185 x0 x1 x2 x3).1
theorem aHt(x0:(List Int))(x1:Int)(x2:Int)(x3:Int):ah (ad1 x0 x1 x2 x3) (Ai x0 x1 x2 x3):=(d185 x0 x1 x2 x3).2
def NL:Nat→(List Int)→Int→Int→Int→Option (List Int)
 | 0,_,_,_,_=>none
 | k+1,x0,x1,x2,x3 =>
  (tu (O:=(List Int)) (λ (ba:((List Int) × Int × Int × Int × Bool × Bool)) =>
  ae (decide (i64 (ba.2.2.1 - ba.2.1)≤12))
  ((adT ba.1 ba.2.1 ba.2.2.1).bind λ QY =>
  some (.inr QY))
  (ae (ba.2.2.2.1 == 0)
  ((adU ba.1 ba.2.1 ba.2.2.1).bind λ QZ =>
  some (.inr QZ))
  ((((ae (!ba.2.2.2.2.1)
  ((adV ba.1 ba.2.1 ba.2.2.1).bind λ ui =>
  some (ui,i64 (ba.2.2.2.1 - 1)))
  (some (ba.1,ba.2.2.2.1))):Option ((List Int) × Int))).bind (λ (gh:((List Int) × Int)) =>
  (adW gh.1 ba.2.1 ba.2.2.1).bind λ qO =>
  (((ae (qO.2 == 2)
  ((adX gh.1 ba.2.1 ba.2.2.1).bind λ yn =>
  some (yn,i64 ((i64 (ba.2.2.1 - 1)) - (i64 (qO.1 - ba.2.1))),1))
  (some (gh.1,qO.1,qO.2))):Option ((List Int) × Int × Int))).bind (λ (iR:((List Int) × Int × Int)) =>
  (((ae ba.2.2.2.2.1
  (ae ba.2.2.2.2.2
  (some (iR.2.2 == 1))
  (some false))
  (some false)):Option Bool)).bind (λ (GI:Bool) =>
  (((ae GI
  ((adY iR.1 ba.2.1 ba.2.2.1).bind λ nI =>
  ae nI.2
  (some (.inr nI.1))
  (some (.inl nI.1)))
  (some (.inl iR.1))):Option ((List Int) ⊕ (List Int)))).bind (Sum.elim (λ (pk:(List Int)) =>
  (((ae (decide (ba.2.1 > 0))
  ((idx pk (i64 (ba.2.1 - 1))).bind λ EA =>
  (idx pk iR.2.1).bind λ EB =>
  (adZ EA EB).bind λ Hp =>
  some (!Hp))
  (some false)):Option Bool)).bind (λ (GJ:Bool) =>
  ae GJ
  ((ad0 pk ba.2.1 ba.2.2.1 iR.2.1).bind λ Hq =>
  some (.inl (Hq.1,Hq.2,ba.2.2.1,gh.2,ba.2.2.2.2.1,ba.2.2.2.2.2)))
  ((ad1 pk ba.2.1 ba.2.2.1 iR.2.1).bind λ fY =>
  (mF (i64 (ba.2.2.1 - ba.2.1)) 8).bind λ Hr =>
  ae (decide (i64 (fY.2.1 - ba.2.1) < i64 (ba.2.2.1 - fY.2.1)))
  ((NL k fY.1 ba.2.1 fY.2.1 gh.2).bind λ Q2 =>
  some (.inl (Q2,i64 (fY.2.1+1),ba.2.2.1,gh.2,decide (i64 (fY.2.1 - ba.2.1) ≥ Hr),fY.2.2)))
  ((NL k fY.1 (i64 (fY.2.1+1)) ba.2.2.1 gh.2).bind λ Q3 =>
  some (.inl (Q3,ba.2.1,fY.2.1,gh.2,decide (i64 (ba.2.2.1 - fY.2.1) ≥ Hr),fY.2.2))))))
   (λ q=>some (.inr q))))))))) (x0,x1,x2,x3,true,true)).bind (λ q=>some q)
theorem agt:∀ k x0 x1 x2 x3,ah (NL k x0 x1 x2 x3) (tA k x0 x1 x2 x3)
 | 0,_,_,_,_=>ah.none
 | k+1,x0,x1,x2,x3=>by
  have ih:=agt k
  rw [NL,tA]
  with_reducible repeat' first | exact ah.refl _ | refine ah.loop λ _=>?_ | refine ah.ae ?_ ?_ | refine ah.elim (λ _=>?_) (λ _=>?_) _ | exact aHl _ _ _ | exact aHm _ _ _ | exact aHn _ _ _ | exact aHo _ _ _ | exact aHp _ _ _ | exact aHq _ _ _ | exact aHr _ _ | exact aHs _ _ _ _ | exact aHt _ _ _ _ | exact ih _ _ _ _ | refine ah.bind ?_ λ _=>?_
def d155(x0:(List Int)):{c // ah c (z9 x0)}:=⟨_,by
 unfold z9
 with_reducible repeat' first | intro _ | apply agt | apply (d170 _).2 | apply ah.bind | exact ah.refl _⟩
abbrev adP(x0:(List Int)):=(d155 x0).1
theorem aHe(x0:(List Int)):ah (adP x0) (z9 x0):=(d155 x0).2
def d156(x0:(List Int)):{c // ah c (Aa x0)}:=⟨_,by
 unfold Aa
 with_reducible repeat' first | intro _ | apply ah.loop | apply ah.ae | apply ah.elim | apply ah.bind | exact ah.refl _⟩
abbrev adQ(x0:(List Int)):=(d156 x0).1
theorem aHf(x0:(List Int)):ah (adQ x0) (Aa x0):=(d156 x0).2
def adL(x0:di)(x1:(bt→Option Int)):Option (List Int) :=
 (tu (O:=(List Int)) (λ (oy:((List Int) × Int)) =>
 ae (decide (oy.2 < (x0.eB.length:Int)))
 ((idx x0.eB oy.2).bind λ e7 =>
 (x1 e7).bind λ e9 =>
 (cV oy.1 [e9]).bind λ fA =>
 some (.inl (fA,i64 (oy.2+1))))
 (some (.inr oy.1))) ([],0)).bind (λ (D5:(List Int)) =>
 (adP D5).bind λ gR =>
 (adQ gR).bind λ mP =>
 some mP)
theorem agp(x0:di){x1 gk:(bt→Option Int)}(gV:∀ y,ah (x1 y) (gk y)):ah (adL x0 x1) (xD x0 gk):=by
 unfold adL xD
 with_reducible repeat' first | exact ah.refl _ | refine ah.loop λ _=>?_ | refine ah.ae ?_ ?_ | exact aHe _ | exact aHf _ | exact gV _ | exact hy _ _ | refine ah.bind ?_ λ _=>?_
def d129(x0:bt)(x1:Int):{c // ah c (EJ x0 x1)}:=⟨_,by
 unfold EJ
 with_reducible repeat' first | intro _ | apply ah.bind | exact ah.refl _⟩
def d43(x0:aj)(x1:Int):{c // ah c (pN x0 x1)}:=⟨_,by
 unfold pN
 with_reducible repeat' first | intro _ | apply xy | apply (d127 _ _).2 | apply agp | apply (d129 _ _).2 | apply ah.ae | apply ah.bind | exact ah.refl _⟩
abbrev c43(x0:aj)(x1:Int):=(d43 x0 x1).1
theorem aHI(x0:aj)(x1:Int):ah (c43 x0 x1) (pN x0 x1):=(d43 x0 x1).2
def d44(x0:aj):{c // ah c (oI x0)}:=⟨_,by
 unfold oI
 with_reducible repeat' first | intro _ | apply (d83 _).2 | apply Zp | apply ah.ae | apply ah.elim | apply ah.dq | apply ah.bind | exact ah.refl _⟩
abbrev TS(x0:aj):=(d44 x0).1
theorem aHJ(x0:aj):ah (TS x0) (oI x0):=(d44 x0).2
def d72(x0:Int)(x1:Int):{c // ah c (uB x0 x1)}:=⟨_,by
 unfold uB
 with_reducible repeat' first | intro _ | apply ah.bind | exact ah.refl _⟩
abbrev TU(x0:Int)(x1:Int):=(d72 x0 x1).1
theorem agv(x0:Int)(x1:Int):ah (TU x0 x1) (uB x0 x1):=(d72 x0 x1).2
def d45(x0:Int):{c // ah c (Ak x0)}:=⟨_,by
 unfold Ak
 with_reducible repeat' first | intro _ | apply (d72 _ _).2 | apply ah.bind | exact ah.refl _⟩
abbrev NO(x0:Int):=(d45 x0).1
theorem agu(x0:Int):ah (NO x0) (Ak x0):=(d45 x0).2
def d159(x0:Int):{c // ah c (EV x0)}:=⟨_,by
 unfold EV
 with_reducible repeat' first | intro _ | apply (d154 _ _ _).2 | apply ah.bind | exact ah.refl _⟩
def d131(x0:aj)(x1:cR):{c // ah c (ET x0 x1)}:=⟨_,by
 unfold ET
 with_reducible repeat' first | intro _ | apply (d154 _ _ _).2 | apply ags | apply (d159 _).2 | apply ah.ae | apply ah.bind | exact ah.refl _⟩
def d50(x0:aj)(x1:cR)(x2:(List Int)):{c // ah c (yH x0 x1 x2)}:=⟨_,by
 unfold yH
 with_reducible repeat' first | intro _ | apply (d83 _).2 | apply (d93 _ _).2 | apply (d104 _ _ _).2 | apply (d131 _ _).2 | apply (d132 _ _).2 | apply ah.ae | apply ah.bind | exact ah.refl _⟩
abbrev c50(x0:aj)(x1:cR)(x2:(List Int)):=(d50 x0 x1 x2).1
theorem aHK(x0:aj)(x1:cR)(x2:(List Int)):ah (c50 x0 x1 x2) (yH x0 x1 x2):=(d50 x0 x1 x2).2
def d53(x0:aj):{c // ah c (Gt x0)}:=⟨_,by
 unfold Gt
 with_reducible repeat' first | intro _ | apply (d83 _).2 | apply (d92 _ _).2 | apply (d93 _ _).2 | apply ah.ae | apply ah.bind | exact ah.refl _⟩
abbrev c53(x0:aj):=(d53 x0).1
theorem aHL(x0:aj):ah (c53 x0) (Gt x0):=(d53 x0).2
def d160(x0:aj)(x1:(List Int)):{c // ah c (pQ x0 x1)}:=⟨_,by
 unfold pQ
 with_reducible repeat' first | intro _ | apply (d132 _ _).2 | apply ah.bind | exact ah.refl _⟩
def d133(x0:(List Int)):{c // ah c (Bj x0)}:=⟨_,by
 unfold Bj
 with_reducible repeat' first | intro _ | apply ah.bind | exact ah.refl _⟩
def d134(x0:bt)(x1:di)(x2:(List Int)):{c // ah c (EU x0 x1 x2)}:=⟨_,by
 unfold EU
 with_reducible repeat' first | intro _ | apply (d93 _ _).2 | apply (d103 _ _).2 | apply (d104 _ _ _).2 | apply ah.bind | exact ah.refl _⟩
def d56(x0:aj)(x1:(List Int)):{c // ah c (we x0 x1)}:=⟨_,by
 unfold we
 with_reducible repeat' first | intro _ | apply xy | apply ago | apply (d133 _).2 | apply (d134 _ _ _).2 | apply (d160 _ _).2 | apply ah.ae | apply ah.bind | exact ah.refl _⟩
abbrev TT(x0:aj)(x1:(List Int)):=(d56 x0 x1).1
theorem aHM(x0:aj)(x1:(List Int)):ah (TT x0 x1) (we x0 x1):=(d56 x0 x1).2
def d60(x0:aj)(x1:bV):{c // ah c (wx x0 x1)}:=⟨_,by
 unfold wx
 with_reducible repeat' first | intro _ | apply ah.bind | exact ah.refl _⟩
abbrev NP(x0:aj)(x1:bV):=(d60 x0 x1).1
theorem aHN(x0:aj)(x1:bV):ah (NP x0 x1) (wx x0 x1):=(d60 x0 x1).2
def d64(x0:aj)(x1:Int):{c // ah c (m64 x0 x1)}:=⟨_,by
 unfold m64
 with_reducible repeat' first | intro _ | apply ah.bind | exact ah.refl _⟩
abbrev c64(x0:aj)(x1:Int):=(d64 x0 x1).1
theorem aHO(x0:aj)(x1:Int):ah (c64 x0 x1) (m64 x0 x1):=(d64 x0 x1).2
def d137(x0:bt)(x1:di)(x2:(List Int)):{c // ah c (Dz x0 x1 x2)}:=⟨_,by
 unfold Dz
 with_reducible repeat' first | intro _ | apply (d93 _ _).2 | apply (d104 _ _ _).2 | apply ah.bind | exact ah.refl _⟩
def d71(x0:aj)(x1:(List Int)):{c // ah c (ov x0 x1)}:=⟨_,by
 unfold ov
 with_reducible repeat' first | intro _ | apply xy | apply agp | apply (d133 _).2 | apply (d137 _ _ _).2 | apply (d160 _ _).2 | apply ah.ae | apply ah.bind | exact ah.refl _⟩
abbrev c71(x0:aj)(x1:(List Int)):=(d71 x0 x1).1
theorem aHP(x0:aj)(x1:(List Int)):ah (c71 x0 x1) (ov x0 x1):=(d71 x0 x1).2
def TV  : Option aj :=
 (TU 20 21).bind λ e6 =>
 (NO 30).bind λ gO =>
 (NO 10).bind λ eL =>
 some (⟨62,⟨0,0⟩,[(⟨⟨#[103,117,110]⟩,(-3),⟨e6.ai,e6.ak⟩,[]⟩:cE),(⟨⟨#[99,104,101,115,116]⟩,2,⟨gO.ai,gO.ak⟩,[]⟩:cE),(⟨⟨#[97,110,99,104,111,114]⟩,1,⟨eL.ai,eL.ak⟩,[0]⟩:cE)],[],[]⟩:aj)
theorem aHR  : ah (TV ) (K0 ):=by
 unfold TV K0
 with_reducible repeat' first | exact ah.refl _ | exact agu _ | exact agv _ _ | exact hy _ _ | refine ah.bind ?_ λ _=>?_
def d55(x0:(List Int))(x1:(List Int)):{c // ah c (wk x0 x1)}:=⟨_,by
 unfold wk
 with_reducible repeat' first | intro _ | apply ah.loop | apply ah.ae | apply ah.elim | apply ah.bind | exact ah.refl _⟩
def d22(x0:(List Int))(x1:(List Int)):{c // ah c (pR x0 x1)}:=⟨_,by
 unfold pR
 with_reducible repeat' first | intro _ | apply (d55 _ _).2 | apply ah.ae | apply ah.bind | exact ah.refl _⟩
def d88(x0:(List Int))(x1:(List Int)):{c // ah c (tC x0 x1)}:=⟨_,by
 unfold tC
 with_reducible repeat' first | intro _ | apply (d22 _ _).2 | apply ah.bind | exact ah.refl _⟩
abbrev BY(x0:(List Int))(x1:(List Int)):=(d88 x0 x1).1
theorem aHS(x0:(List Int))(x1:(List Int)):ah (BY x0 x1) (tC x0 x1):=(d88 x0 x1).2
def c19  : Option Bool :=
 (TV).bind λ bW =>
 (c64 bW 2).bind λ nF =>
 (NP nF (⟨1,0⟩:bV)).bind λ jS =>
 (c50 bW (⟨0,[21,30,10]⟩:cR) [1]).bind λ qT =>
 (TS bW).bind λ Ep =>
 (c43 bW 0).bind λ r9 =>
 (c71 bW [2]).bind λ qM =>
 (TT bW [0]).bind λ Er =>
 (TT bW [1,2]).bind λ Es =>
 (c53 bW).bind λ Et =>
 (c20 bW).bind λ Eu =>
 (TS jS).bind λ Ev =>
 (((ae (qT.2 != 0)
 (some true)
 (ae (Ep.2 != 0)
 (some true)
 (ae (r9.2 != 0)
 (some true)
 (ae (qM.2 != 0)
 (some true)
 (ae (Er.2 != 0)
 (some true)
 (ae (Es.2 != 0)
 (some true)
 (ae (Et.2 != 0)
 (some true)
 (ae (Eu.2 != 0)
 (some true)
 (some (Ev.2 != 0)))))))))):Option Bool)).bind (λ (GB:Bool) =>
 ae GB
 (some false)
 ((((ae (qT.1 != (-53))
 (some true)
 (ae (Ep.1 != 2)
 (some true)
 ((BY r9.1 [20,21]).bind λ gq =>
 ae (!gq)
 (some true)
 ((TU (-3) 0).bind λ Bz =>
 ae (!(yM qM.1 Bz == true))
 (some true)
 (ae (Er.1 != 1)
 (some true)
 (ae (Es.1 != 0)
 (some true)
 ((BY Et.1 [1,2]).bind λ wG =>
 ae (!wG)
 (some true)
 ((BY Eu.1 [1,2]).bind λ ue =>
 ae (!ue)
 (some true)
 (some (Ev.1 != 1)))))))))):Option Bool)).bind (λ (GC:Bool) =>
 ae GC
 (some false)
 ((NM bW [2,0,1]).bind λ rZ =>
 (NM bW [2,1,0]).bind λ vV =>
 (NM bW [0,1,2]).bind λ ym =>
 (NN bW).bind λ pE =>
 (c27 bW).bind λ vW =>
 (c29 bW).bind λ qN =>
 (NN jS).bind λ uf =>
 (((ae (rZ.2 != 0)
 (some true)
 (ae (vV.2 != 0)
 (some true)
 (ae (ym.2 != 7)
 (some true)
 (ae (pE.2 != 0)
 (some true)
 (ae (vW.2.2 != 0)
 (some true)
 (ae (qN.2.2 != 0)
 (some true)
 (some (uf.2 != 0)))))))):Option Bool)).bind (λ (jL:Bool) =>
 ae jL
 (some false)
 ((((ae (rZ.1 != 1)
 (some true)
 (ae (vV.1 != 0)
 (some true)
 (ae (pE.1 != 1)
 (some true)
 (ae (!vW.2.1)
 (some true)
 ((BY vW.1 [2,0,1]).bind λ QS =>
 ae (!QS)
 (some true)
 ((BY qN.1 [2,0,1]).bind λ QT =>
 ae (!QT)
 (some true)
 (ae (qN.2.1 != 60)
 (some true)
 (some (uf.1 != 2))))))))):Option Bool)).bind (λ (GG:Bool) =>
 ae GG
 (some false)
 ((c33 bW).bind λ AU =>
 (TR bW 0).bind λ QU =>
 (TR bW 2).bind λ vX =>
 (c35 vX.1 (⟨1,2⟩:bV)).bind λ QV =>
 (NP bW (⟨0,1⟩:bV)).bind λ Hl =>
 (NP Hl (⟨0,2⟩:bV)).bind λ ug =>
 (c31 ug).bind λ Ex =>
 (NO 21).bind λ Hn =>
 (c38 bW 0 Hn).bind λ Ey =>
 (NN Ey.1).bind λ Ho =>
 ae (AU.2.2 == 0)
 (ae (QU.2 == 7)
 (ae (vX.2 == 0)
 (ae (QV.2 == 9)
 (ae (Ex.2 == 0)
 (ae (Ey.2 == 0)
 (ae (Ho.2 == 0)
 (ae (AU.1 == 0)
 (ae (AU.2.1 == 1)
 ((BY Ex.1 [0]).bind λ QW =>
 ae QW
 (some (Ho.1 == 1))
 (some false))
 (some false))
 (some false))
 (some false))
 (some false))
 (some false))
 (some false))
 (some false))
 (some false))
 (some false)))))))))
theorem aHu  : ah (c19 ) (lf ):=by
 unfold c19 lf
 with_reducible repeat' first | exact ah.refl _ | refine ah.ae ?_ ?_ | exact aHw _ | exact aHz _ _ | exact aHA _ | exact aHB _ | exact aHC _ | exact aHD _ | exact aHE _ | exact aHF _ _ | exact aHG _ _ _ | exact aHH _ _ | exact aHI _ _ | exact aHJ _ | exact agu _ | exact aHK _ _ _ | exact aHL _ | exact aHM _ _ | exact aHN _ _ | exact aHO _ _ | exact aHP _ _ | exact agv _ _ | exact aHR | exact aHS _ _ | exact hy _ _ | refine ah.bind ?_ λ _=>?_
def d67(x0:(List Int))(x1:(List Int)):{c // ah c (Ss x0 x1)}:=⟨_,by
 unfold Ss
 with_reducible repeat' first | intro _ | apply (d55 _ _).2 | apply ah.ae | apply ah.bind | exact ah.refl _⟩
abbrev c67(x0:(List Int))(x1:(List Int)):=(d67 x0 x1).1
theorem aPh(x0:(List Int))(x1:(List Int)):ah (c67 x0 x1) (Ss x0 x1):=(d67 x0 x1).2
def d49(x0:Int)(x1:Int):{c // ah c (yv x0 x1)}:=⟨_,by
 unfold yv
 with_reducible repeat' first | intro _ | apply ah.loop | apply ah.ae | apply ah.bind | exact ah.refl _⟩
abbrev c49(x0:Int)(x1:Int):=(d49 x0 x1).1
theorem aN8(x0:Int)(x1:Int):ah (c49 x0 x1) (yv x0 x1):=(d49 x0 x1).2
def d68(x0:(List Int))(x1:Int):{c // ah c (Su x0 x1)}:=⟨_,by
 unfold Su
 with_reducible repeat' first | intro _ | apply ah.loop | apply ah.ae | apply ah.bind | exact ah.refl _⟩
abbrev c68(x0:(List Int))(x1:Int):=(d68 x0 x1).1
theorem aPi(x0:(List Int))(x1:Int):ah (c68 x0 x1) (Su x0 x1):=(d68 x0 x1).2
theorem aK0:lf=some true:=aHu _ (by decide +kernel)
end
end Go.Proofs.YtabamagholjdcaaGreatDoor
