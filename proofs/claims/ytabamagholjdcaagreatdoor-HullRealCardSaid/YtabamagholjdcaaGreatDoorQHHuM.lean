/- What the functions compute. Conditions: none. -/
import Derived.Test.YtabamagholjdcaaGreatDoorQHHuF
namespace Go.Proofs.YtabamagholjdcaaGreatDoor
open Go.Lg Go.Proofs Tryz
set_option maxRecDepth 100000
noncomputable def pM(x0:aj)(x1:bt)(x2:(List Bool)):Option Int :=
 (bd (O:=Int) (λ (dH:(Int × Int)) =>
 ae (decide (dH.2 < (x0.ao.length:Int)))
 ((idx x0.ao dH.2).bind λ gA =>
 (idx x2 dH.2).bind λ eO =>
 ae (!eO)
 ((idx x1.weights dH.2).bind λ gR =>
 some (.inl (i64 (dH.1+(i64 (gA.dJ * gR))),i64 (dH.2+1))))
 (some (.inl (dH.1,i64 (dH.2+1)))))
 (some (.inr dH.1))) (x1.df,0)).bind (λ (mE:Int) =>
 some mE)
noncomputable def yR(x0:di)(x1:Int):Option (List Bool × Int) :=
 (bd (O:=(List Bool)) (λ (qH:(Int × (List Bool))) =>
 ae (decide (qH.1 < (x0.book.ao.length:Int)))
 ((qV .i64 x1 qH.1).bind λ oC =>
 (pL .and .i64 oC 1).bind λ fw =>
 (idx qH.2 qH.1).bind λ _ =>
 some (.inl (i64 (qH.1+1),qH.2.set qH.1.toNat (fw == 1))))
 (some (.inr qH.2))) (0,[false,false,false,false,false])).bind (λ (xO:(List Bool)) =>
 (bd (O:=Int) (λ (jO:(Int × Int)) =>
 ae (decide (jO.2 < (x0.eB.length:Int)))
 ((idx x0.eB jO.2).bind λ eM =>
 (pM x0.book eM xO).bind λ gD =>
 some (.inl (fH jO.1 [gD,i64 (0 - gD)],i64 (jO.2+1))))
 (some (.inr jO.1))) (0,0)).bind (λ (vE:Int) =>
 some (xO,vE)))
noncomputable def wE(x0:di):Option gB :=
 (se .i64 1 (x0.book.ao.length:Int)).bind λ many =>
 ((List.range many.toNat).mapM (λ (i:Nat)=>yR x0 (i:Int))).bind λ l =>
 if x0.pB=[]∧(l.map (·.1)).Nodup∧(∀ p∈l,p.1.length=5)∧0≤many∧many≤1048576 then some l else none
def zb{B:Base}{main:Bool}(ag:Jd prog B main):Prop:=∀ {R:aE} {H:an} (x0:di) {aA ay aC js kL:Value} {Hs:an},au bn 5 R aA x0.book.ao→au (CI .i64) 1 R ay x0.book.Out→au bh 2 R aC x0.book.aT→au gE 6 R js x0.eB→na kL x0.pB Hs→∀ {r:gB},wE x0=some r →
 ax ag 91 #[.agg #[iv x0.book.aB,iv x0.book.aa.ai,iv x0.book.aa.ak,aA,ay,aC,js,kL]] R (Hs++H) λ v R' H'=>∃ bF,(aN R R'∧nT R' kL r∧v = .tuple #[]∧bF=[])∧H'=bF++H
abbrev xR(r:List Bool × Int):Value:=.agg (List.toArray ([]++(r.1.map Value.bool++[iv r.2])))
noncomputable def Gn(x0:aj):Option Bool :=
 (((ae (decide ((x0.ao.length:Int) > 20))
 (some true)
 (ae (decide ((x0.Out.length:Int) > 20))
 (some true)
 (some (decide ((x0.aT.length:Int) > 20))))):Option Bool)).bind (λ (GL:Bool) =>
 ae GL
 (some true)
 ((bd (O:=(Unit ⊕ Bool)) (λ (Ea:Int) =>
 ae (decide (Ea < (x0.ao.length:Int)))
 ((idx x0.ao Ea).bind λ kR =>
 ae (decide ((kR.Name.size:Int) > 100))
 (some (.inr (.inr true)))
 ((idx x0.ao Ea).bind λ Ht =>
 ae (decide ((Ht.On.length:Int) > 20))
 (some (.inr (.inr true)))
 (some (.inl (i64 (Ea+1))))))
 (some (.inr (.inl ())))) 0).bind (Sum.elim (λ (_:Unit) =>
 some false)
  (λ q=>some q))))
noncomputable def xC(x0:Reach)(x1:Int)(x2:Int)(x3:Int):Option Bool :=
 ae (decide (x1≤x0.ai))
 (ae (decide (x0.ai≤x0.ak))
 (ae (decide (x0.ak≤x2))
 (some (decide (i64 (x0.ak - x0.ai) < x3)))
 (some false))
 (some false))
 (some false)
noncomputable def mA(x0:Int)(x1:Int)(x2:Int):Option Bool :=
 ae (decide (x1≤x0))
 (some (decide (x0≤x2)))
 (some false)
noncomputable def DN(x0:aj):Option Int :=
 (mA x0.aB 0 9999).bind λ gm =>
 ae (!gm)
 (some 1)
 ((xC x0.aa (-999) 999 3).bind λ nG =>
 ae (!nG)
 (some 1)
 (some 0))
noncomputable def xE(x0:(List Int))(x1:Int):Option Int :=
 (bd (O:=(Unit ⊕ Int)) (λ (ft:Int) =>
 ae (decide (ft < (x0.length:Int)))
 ((idx x0 ft).bind λ e7 =>
 (mA e7 0 (i64 (x1 - 1))).bind λ gA =>
 ae (!gA)
 (some (.inr (.inr 6)))
 (ae (decide (ft > 0))
 ((idx x0 (i64 (ft - 1))).bind λ fA =>
 ae (decide (e7≤fA))
 (some (.inr (.inr 7)))
 (some (.inl (i64 (ft+1)))))
 (some (.inl (i64 (ft+1))))))
 (some (.inr (.inl ())))) 0).bind (Sum.elim (λ (_:Unit) =>
 some 0)
  (λ q=>some q))
noncomputable def DS(x0:ByteArray):Option Bool :=
 (bd (O:=(Unit ⊕ Bool)) (λ (dH:Int) =>
 ae (decide (dH < ((fI x0).length:Int)))
 ((idx (fI x0) dH).bind λ eO =>
 (mA (i64 eO) 97 122).bind λ fA =>
 ae (!fA)
 (ae (dH == 0)
 (some (.inr (.inr false)))
 ((mA (i64 eO) 48 57).bind λ nK =>
 ae (!nK)
 (some (.inr (.inr false)))
 (some (.inl (i64 (dH+1))))))
 (some (.inl (i64 (dH+1)))))
 (some (.inr (.inl ())))) 0).bind (Sum.elim (λ (_:Unit) =>
 (mA (x0.size:Int) 1 12).bind λ BA =>
 some BA)
  (λ q=>some q))
noncomputable def Gr(x0:(List cE))(x1:(cE→Option Bool)):Option Int :=
 (bd (O:=(Unit ⊕ Int)) (λ (dL:Int) =>
 ae (decide (dL < (x0.length:Int)))
 ((idx x0 dL).bind λ ey =>
 (x1 ey).bind λ eM =>
 ae eM
 (some (.inr (.inr dL)))
 (some (.inl (i64 (dL+1)))))
 (some (.inr (.inl ())))) 0).bind (Sum.elim (λ (_:Unit) =>
 some (-1))
  (λ q=>some q))
noncomputable def DT(x0:(List cE))(x1:(cE→Option Bool)):Option Bool :=
 (Gr x0 x1).bind λ cF =>
 some (decide (cF ≥ 0))
noncomputable def DU(x0:cE)(x1:cE):Option Bool :=
 some (x0.Name.toList == x1.Name.toList)
noncomputable def DO(x0:aj):Option Int :=
 (mA (x0.ao.length:Int) 1 5).bind λ aiL =>
 ae (!aiL)
 (some 2)
 ((bd (O:=(Unit ⊕ Int)) (λ (tO:Int) =>
 ae (decide (tO < (x0.ao.length:Int)))
 ((idx x0.ao tO).bind λ mN =>
 (DS mN.Name).bind λ LM =>
 ae (!LM)
 (some (.inr (.inr 4)))
 ((gQ x0.ao 0 tO).bind λ aba =>
 (DT aba (λ y=>DU y mN)).bind λ Mz =>
 ae Mz
 (some (.inr (.inr 5)))
 (((((mA mN.dJ (-9) 9).bind λ L7 =>
 ae (!L7)
 (some true)
 ((xC mN.Weight 1 99 3).bind λ LN =>
 some (!LN))):Option Bool)).bind (λ (PJ:Bool) =>
 ae PJ
 (some (.inr (.inr 1)))
 ((xE mN.On tO).bind λ AT =>
 ae (AT != 0)
 (some (.inr (.inr AT)))
 (some (.inl (i64 (tO+1)))))))))
 (some (.inr (.inl ())))) 0).bind (Sum.elim (λ (_:Unit) =>
 some 0)
  (λ q=>some q)))
noncomputable def jK(x0:(List Bool))(x1:(List Int)):Option (List Bool) :=
 (bd (O:=(List Bool)) (λ (jO:(Int × (List Bool))) =>
 ae (decide (jO.1 < (x1.length:Int)))
 ((idx x1 jO.1).bind λ uj =>
 (idx jO.2 uj).bind λ _ =>
 some (.inl (i64 (jO.1+1),jO.2.set uj.toNat true)))
 (some (.inr jO.2))) (0,x0)).bind (λ (vE:(List Bool)) =>
 some vE)
noncomputable def vx(x0:aj)(x1:Int):Option Bool :=
 (mA x1 0 (i64 ((x0.ao.length:Int) - 1))).bind λ eT =>
 some eT
noncomputable def Gk(x0:(List Int))(x1:(Int→Option Bool)):Option Int :=
 (bd (O:=(Unit ⊕ Int)) (λ (dL:Int) =>
 ae (decide (dL < (x0.length:Int)))
 ((idx x0 dL).bind λ ey =>
 (x1 ey).bind λ eM =>
 ae eM
 (some (.inr (.inr dL)))
 (some (.inl (i64 (dL+1)))))
 (some (.inr (.inl ())))) 0).bind (Sum.elim (λ (_:Unit) =>
 some (-1))
  (λ q=>some q))
noncomputable def Ab(x0:(List Int))(x1:(Int→Option Bool)):Option Bool :=
 (Gk x0 x1).bind λ cF =>
 some (decide (cF ≥ 0))
noncomputable def Gp(x0:(List Int))(x1:Int):Option Int :=
 (bd (O:=(Unit ⊕ Int)) (λ (dV:Int) =>
 ae (decide (dV < (x0.length:Int)))
 ((idx x0 dV).bind λ iV =>
 ae (x1 == iV)
 (some (.inr (.inr dV)))
 (some (.inl (i64 (dV+1)))))
 (some (.inr (.inl ())))) 0).bind (Sum.elim (λ (_:Unit) =>
 some (-1))
  (λ q=>some q))
noncomputable def DK(x0:(List Int))(x1:Int):Option Bool :=
 (Gp x0 x1).bind λ cF =>
 some (decide (cF ≥ 0))
noncomputable def DH(x0:aj)(x1:Int):Option (List Int) :=
 (bd (O:=(List Int)) (λ (dH:((List Int) × Int)) =>
 ae (decide (dH.2 < (x0.ao.length:Int)))
 ((idx x0.ao dH.2).bind λ eO =>
 (DK eO.On x1).bind λ gR =>
 ae gR
 ((cV dH.1 [dH.2]).bind λ kR =>
 some (.inl (kR,i64 (dH.2+1))))
 (some (.inl (dH.1,i64 (dH.2+1)))))
 (some (.inr dH.1))) ([],0)).bind (λ (mE:(List Int)) =>
 some mE)
noncomputable def DI(x0:Int)(x1:(List Bool)):Option Bool :=
 (idx x1 x0).bind λ cF =>
 some (!cF)
noncomputable def xG(x0:aj)(x1:(List Bool))(x2:Int):Option Bool :=
 (idx x1 x2).bind λ nG =>
 ae (!nG)
 ((DH x0 x2).bind λ gO =>
 (Ab gO (λ y=>DI y x1)).bind λ eL =>
 some (!eL))
 (some false)
noncomputable def xK(x0:aj)(x1:(List Bool))(x2:(List Int)):Option ((List Bool) × Int) :=
 (bd (O:=((List Bool) ⊕ ((List Bool) × Int))) (λ (gy:(Int × (List Bool))) =>
 ae (decide (gy.1 < (x2.length:Int)))
 ((idx x2 gy.1).bind λ iD =>
 (vx x0 iD).bind λ En =>
 ae (!En)
 (some (.inr (.inr (gy.2,6))))
 ((idx gy.2 iD).bind λ LK =>
 ae LK
 (some (.inr (.inr (gy.2,5))))
 ((xG x0 gy.2 iD).bind λ vT =>
 ae (!vT)
 (some (.inr (.inr (gy.2,7))))
 ((jK gy.2 [iD]).bind λ E4 =>
 some (.inl (i64 (gy.1+1),E4))))))
 (some (.inr (.inl gy.2)))) (0,x1)).bind (Sum.elim (λ (D7:(List Bool)) =>
 some (D7,0))
  (λ q=>some q))
noncomputable def DQ(x0:aj):Option Int :=
 (xK x0 [false,false,false,false,false] x0.Out).bind λ gZ =>
 some gZ.2
noncomputable def DR(x0:aj):Option Int :=
 ae (decide ((x0.aT.length:Int) > 4))
 (some 2)
 ((bd (O:=(Unit ⊕ Int)) (λ (AF:Int) =>
 ae (decide (AF < (x0.aT.length:Int)))
 ((idx x0.aT AF).bind λ iX =>
 (mA iX.dd 0 (x0.Out.length:Int)).bind λ mZ =>
 ae (!mZ)
 (some (.inr (.inr 6)))
 (ae (iX.dM == 0)
 (ae (iX.dM == 0)
 (some (.inl (i64 (AF+1))))
 (some (.inr (.inr 1))))
 (ae (iX.dM == 1)
 (ae (iX.dM == 1)
 (some (.inl (i64 (AF+1))))
 (some (.inr (.inr 1))))
 (ae (iX.dM == 2)
 (some (.inl (i64 (AF+1))))
 (some (.inr (.inr 1)))))))
 (some (.inr (.inl ())))) 0).bind (Sum.elim (λ (_:Unit) =>
 some 0)
  (λ q=>some q)))
noncomputable def mB(x0:aj):Option Int :=
 (DN (⟨x0.aB,⟨x0.aa.ai,x0.aa.ak⟩,x0.ao,x0.Out,x0.aT⟩:aj)).bind λ Ez =>
 ae (Ez != 0)
 (some Ez)
 ((DO (⟨x0.aB,⟨x0.aa.ai,x0.aa.ak⟩,x0.ao,x0.Out,x0.aT⟩:aj)).bind λ fw =>
 ae (fw != 0)
 (some fw)
 ((DQ (⟨x0.aB,⟨x0.aa.ai,x0.aa.ak⟩,x0.ao,x0.Out,x0.aT⟩:aj)).bind λ l6 =>
 ae (l6 != 0)
 (some l6)
 ((DR (⟨x0.aB,⟨x0.aa.ai,x0.aa.ak⟩,x0.ao,x0.Out,x0.aT⟩:aj)).bind λ fx =>
 ae (fx != 0)
 (some fx)
 (some 0))))
noncomputable def wj(x0:aj)(x1:Int):Option Bool :=
 some (decide (fH x1 [i64 (0 - x1)] > x0.aB))
noncomputable def Gm(x0:(List bV))(x1:(bV→Option Bool)):Option Int :=
 (bd (O:=(Unit ⊕ Int)) (λ (dL:Int) =>
 ae (decide (dL < (x0.length:Int)))
 ((idx x0 dL).bind λ ey =>
 (x1 ey).bind λ eM =>
 ae eM
 (some (.inr (.inr dL)))
 (some (.inl (i64 (dL+1)))))
 (some (.inr (.inl ())))) 0).bind (Sum.elim (λ (_:Unit) =>
 some (-1))
  (λ q=>some q))
noncomputable def DF(x0:(List bV))(x1:(bV→Option Bool)):Option Bool :=
 (Gm x0 x1).bind λ cF =>
 some (decide (cF ≥ 0))
noncomputable def DG(x0:Int):Option Int :=
 ae (decide (x0 > 0))
 (some 2)
 (ae (decide (x0 < 0))
 (some 1)
 (some 0))
noncomputable def Ac(x0:bV)(x1:Int)(x2:Int):Option Bool :=
 ae (x0.dd == x1)
 ((DG x2).bind λ fg =>
 some (x0.dM != fg))
 (some false)
noncomputable def xF(x0:aj)(x1:bt):Option Bool :=
 (bd (O:=(Unit ⊕ Bool)) (λ (tS:Int) =>
 ae (decide (tS < i64 ((x0.Out.length:Int)+1)))
 ((gQ x0.Out 0 tS).bind λ pU =>
 (jK [false,false,false,false,false] pU).bind λ yo =>
 (pM x0 x1 yo).bind λ l7 =>
 (wj x0 l7).bind λ yK =>
 ae yK
 (some (.inr (.inr false)))
 ((DF x0.aT (λ y=>Ac y tS l7)).bind λ lV =>
 ae lV
 (some (.inr (.inr false)))
 (some (.inl (i64 (tS+1))))))
 (some (.inr (.inl ())))) 0).bind (Sum.elim (λ (_:Unit) =>
 some true)
  (λ q=>some q))
noncomputable def tz{S:Type}(ys:bt→S→Option (S × Bool)):Nat→bt→Int→aj→S→Option (S × Bool)
 | 0,_,_,_,_=>none
 | k+1,x0,x1,x2,s0 =>
  ae (x1 == (x2.ao.length:Int))
  (((((xF x2 x0).bind λ eL =>
  ae (!eL)
  (some (s0,true))
  ((ys x0 s0).bind λ iU =>
  some (iU.1,iU.2))):Option (S × Bool))).bind (λ (ny:(S × Bool)) =>
  some (ny.1,ny.2)))
  ((idx x2.ao x1).bind λ nH =>
  (bd (O:=(S ⊕ (S × Bool))) (λ (dV:(S × Int × (List Int))) =>
  ae (decide (dV.2.1≤nH.Weight.ak))
  ((idx dV.2.2 x1).bind λ _ =>
  (tz ys k (⟨x0.df,dV.2.2.set x1.toNat dV.2.1⟩:bt) (i64 (x1+1)) x2 dV.1).bind λ j9 =>
  ae (!j9.2)
  (some (.inr (.inr (j9.1,false))))
  (some (.inl (j9.1,i64 (dV.2.1+1),dV.2.2.set x1.toNat dV.2.1))))
  (some (.inr (.inl dV.1)))) (s0,nH.Weight.ai,x0.weights)).bind (Sum.elim (λ (kF:S) =>
  some (kF,true))
   (λ q=>some q)))
noncomputable def qE{S:Type}(ys:bt→S→Option (S × Bool))(x0:aj)(s0:S):Option S :=
 (bd (O:=(S ⊕ S)) (λ (mI:(S × Int)) =>
  ae (decide (mI.2≤x0.aa.ak))
  ((tz ys 9 (⟨mI.2,[0,0,0,0,0]⟩:bt) 0 x0 mI.1).bind λ kN =>
  ae (!kN.2)
  (some (.inr (.inr kN.1)))
  (some (.inl (kN.1,i64 (mI.2+1)))))
  (some (.inr (.inl mI.1)))) (s0,x0.aa.ai)).bind (Sum.elim (λ (GF:S) =>
  some GF)
   (λ q=>some q))
noncomputable def Gj (x1:(bt→((List bt) ⊕ Empty)→Option (((List bt) ⊕ Empty) × Bool))→((List bt) ⊕ Empty)→Option ((List bt) ⊕ Empty)):Option (List bt) :=
 (x1 (dq (λ (AV:bt) (jN:(List bt))=>(((cV jN [AV]).bind λ lW =>
 some (.inl lW)):Option ((List bt) ⊕ Empty)))) (.inl [])).bind (Sum.elim (λ (jN:(List bt)) =>
 some jN)
  (λ (o:Empty)=>o.elim))
noncomputable def DD (x0:(bt→((List bt) ⊕ Empty)→Option (((List bt) ⊕ Empty) × Bool))→((List bt) ⊕ Empty)→Option ((List bt) ⊕ Empty)):Option (List bt) :=
 (Gj x0).bind λ cF =>
 some cF
noncomputable def nv(x0:aj)(x1:(aj→Option Int)):Option (di × Int) :=
 (mB x0).bind λ dc =>
 ae (dc != 0)
 (some ((⟨⟨0,⟨0,0⟩,[],[],[]⟩,[],mD⟩:di),dc))
 ((x1 x0).bind λ gr =>
 ae (gr != 0)
 (some ((⟨⟨0,⟨0,0⟩,[],[],[]⟩,[],mD⟩:di),gr))
 ((DD (λ y s=>qE y x0 s)).bind λ qP =>
 ae ((qP.length:Int) == 0)
 (some ((⟨⟨0,⟨0,0⟩,[],[],[]⟩,[],mD⟩:di),9))
 (some ((⟨⟨x0.aB,⟨x0.aa.ai,x0.aa.ak⟩,x0.ao,x0.Out,x0.aT⟩,qP,[]⟩:di),0))))
noncomputable def mC(_:aj):Option Int :=
 some 0
noncomputable def wF(x0:aj)(x1:(List Bool)):Option (List Int) :=
 (bd (O:=(List Int)) (λ (po:((List Int) × Int)) =>
 ae (decide (po.2 < (x0.ao.length:Int)))
 ((xG x0 x1 po.2).bind λ kO =>
 ae kO
 ((cV po.1 [po.2]).bind λ gP =>
 some (.inl (gP,i64 (po.2+1))))
 (some (.inl (po.1,i64 (po.2+1)))))
 (some (.inr po.1))) ([],0)).bind (λ (PN:(List Int)) =>
 some PN)
noncomputable def qZ{S:Type}(ys:(List Bool)→S→Option (S × Bool))(x1:aj)(x2:(List Int))(s0:S):Option S :=
 (jK [false,false,false,false,false] x1.Out).bind λ QN =>
  (bd (O:=(S ⊕ S)) (λ (kI:(S × Int × (List Bool))) =>
  ae (decide (kI.2.1 < (x2.length:Int)))
  ((idx x2 kI.2.1).bind λ gr =>
  (jK kI.2.2 [gr]).bind λ fx =>
  (ys fx kI.1).bind λ fZ =>
  ae (!fZ.2)
  (some (.inr (.inr fZ.1)))
  (some (.inl (fZ.1,i64 (kI.2.1+1),fx))))
  (some (.inr (.inl kI.1)))) (s0,0,QN)).bind (Sum.elim (λ (GD:S) =>
  some GD)
   (λ q=>some q))
noncomputable def yq(x0:aj)(x1:(List Int)):Option (aj × (List Int)) :=
 some (x0,x1)
noncomputable def yI(x0:di)(x1:(List Int)):Option Int :=
 (yq x0.book x1).bind λ e6 =>
 (qZ (dq (λ (Hk:(List Bool)) (tQ:Int)=>((some (.inl (fH tQ [mT x0.pB Hk]))):Option (Int ⊕ Empty)))) e6.1 e6.2 (.inl 0)).bind (Sum.elim (λ (tQ:Int) =>
 some tQ)
  (λ (o:Empty)=>o.elim))
noncomputable def Gq(x0:aj):Option ((List Int) × Int) :=
 (nv x0 (λ y=>mC y)).bind λ dY =>
 ae (dY.2 != 0)
 (some ([],dY.2))
 ((wE dY.1).bind λ ll =>
 (jK [false,false,false,false,false] x0.Out).bind λ gP =>
 (wF dY.1.book gP).bind λ mO =>
 (bd (O:=(List Int)) (λ (dW:((List Int) × Int)) =>
 ae (decide (dW.2 < (mO.length:Int)))
 ((idx mO dW.2).bind λ jx =>
 (yI (⟨⟨dY.1.book.aB,⟨dY.1.book.aa.ai,dY.1.book.aa.ak⟩,dY.1.book.ao,dY.1.book.Out,dY.1.book.aT⟩,dY.1.eB,ll⟩:di) [jx]).bind λ yo =>
 ae (decide (yo≤x0.aB))
 ((cV dW.1 [jx]).bind λ yK =>
 some (.inl (yK,i64 (dW.2+1))))
 (some (.inl (dW.1,i64 (dW.2+1)))))
 (some (.inr dW.1))) ([],0)).bind (λ (nz:(List Int)) =>
 some (nz,0)))
noncomputable def Bw(x0:aj)(x1:(List Int)):Option Int :=
 (jK [false,false,false,false,false] x0.Out).bind λ gO =>
 (xK x0 gO x1).bind λ eL =>
 ae (eL.2 != 0)
 (some eL.2)
 (ae (i64 ((x0.Out.length:Int)+(x1.length:Int)) != (x0.ao.length:Int))
 (some 2)
 (some 0))
noncomputable def A4(x0:di)(x1:(bt→Option Bool)):Option Int :=
 (bd (O:=Int) (λ (du:(Int × Int)) =>
 ae (decide (du.2 < (x0.eB.length:Int)))
 ((idx x0.eB du.2).bind λ eN =>
 (x1 eN).bind λ kh =>
 ae kh
 (some (.inl (i64 (du.1+1),i64 (du.2+1))))
 (some (.inl (du.1,i64 (du.2+1)))))
 (some (.inr du.1))) (0,0)).bind (λ (iw:Int) =>
 ae (iw == 0)
 (some 2)
 (ae (iw == (x0.eB.length:Int))
 (some 1)
 (some 0)))
noncomputable def Bv(x0:bt)(x1:di)(x2:(List Int)):Option Bool :=
 (yq x1.book x2).bind λ nH =>
 (qZ (dq (λ (abi:(List Bool)) (_:Unit)=>(((pM x1.book x0 abi).bind λ l6 =>
 (wj x1.book l6).bind λ gr =>
 ae gr
 (some (.inr ()))
 (some (.inl ()))):Option (Unit ⊕ Unit)))) nH.1 nH.2 (.inl ())).bind (Sum.elim (λ (_:Unit) =>
 some true)
  (λ (_:Unit) =>
 some false))
noncomputable def oM(x0:aj)(x1:(List Int)):Option (Int × Int) :=
 (nv x0 (λ y=>Bw y x1)).bind λ e6 =>
 ae (e6.2 != 0)
 (some (0,e6.2))
 ((A4 e6.1 (λ y=>Bv y e6.1 x1)).bind λ fv =>
 some (fv,0))
noncomputable def uo(x0:(List Int)):Option (List Int) :=
 (cV [] x0).bind λ cF =>
 some cF
noncomputable def yS{S:Type}(ys:(List Int)→S→Option (S × Bool)):Nat→(List Int)→(List Bool)→aj→S→Option (S × Bool)
 | 0,_,_,_,_=>none
 | k+1,x0,x1,x2,s0 =>
  (wF x2 x1).bind λ cF =>
  ae ((cF.length:Int) == 0)
  ((ys x0 s0).bind λ gm =>
  some (gm.1,gm.2))
  ((bd (O:=(S ⊕ (S × Bool))) (λ (nA:(S × Int)) =>
  ae (decide (nA.2 < (cF.length:Int)))
  ((idx cF nA.2).bind λ dP =>
  (uo x0).bind λ gD =>
  (cV gD [dP]).bind λ lB =>
  (jK x1 [dP]).bind λ dY =>
  (yS ys k lB dY x2 nA.1).bind λ nJ =>
  ae (!nJ.2)
  (some (.inr (.inr (nJ.1,false))))
  (some (.inl (nJ.1,i64 (nA.2+1)))))
  (some (.inr (.inl nA.1)))) (s0,0)).bind (Sum.elim (λ (ny:S) =>
  some (ny,true))
   (λ q=>some q)))
noncomputable def ss{S:Type}(ys:(List Int)→S→Option (S × Bool))(x0:aj)(s0:S):Option S :=
 (jK [false,false,false,false,false] x0.Out).bind λ gm =>
  (yS ys 9 [] gm x0 s0).bind λ fX =>
  some fX.1
noncomputable def qS(x0:aj):Option (Int × Int) :=
 (nv x0 (λ y=>mC y)).bind λ dB =>
 ae (dB.2 != 0)
 (some (0,dB.2))
 ((wE dB.1).bind λ j9 =>
 (ss (dq (λ (Ru:(List Int)) (eP:Int)=>(((yq dB.1.book Ru).bind λ gP =>
 (qZ (dq (λ (abq:(List Bool)) (_:Unit)=>((ae (decide (mT j9 abq > x0.aB))
 (some (.inr ()))
 (some (.inl ()))):Option (Unit ⊕ Unit)))) gP.1 gP.2 (.inl ())).bind (Sum.elim (λ (_:Unit) =>
 some (.inl (i64 (eP+1))))
  (λ (_:Unit) =>
 some (.inl eP)))):Option (Int ⊕ Empty)))) dB.1.book (.inl 0)).bind (Sum.elim (λ (eP:Int) =>
 some (eP,0))
  (λ (o:Empty)=>o.elim)))
noncomputable def yG(x0:aj):Option ((List Int) × Bool × Int) :=
 (nv x0 (λ y=>mC y)).bind λ dh =>
 ae (dh.2 != 0)
 (some ([],false,dh.2))
 ((wE dh.1).bind λ fx =>
 (ss (dq (λ (Q4:(List Int)) (_:Unit)=>(((yI (⟨⟨dh.1.book.aB,⟨dh.1.book.aa.ai,dh.1.book.aa.ak⟩,dh.1.book.ao,dh.1.book.Out,dh.1.book.aT⟩,dh.1.eB,fx⟩:di) Q4).bind λ dB =>
 ae (decide (dB≤x0.aB))
 (some (.inr Q4))
 (some (.inl ()))):Option (Unit ⊕ (List Int))))) dh.1.book (.inl ())).bind (Sum.elim (λ (_:Unit) =>
 some ([],false,0))
  (λ (kG:(List Int)) =>
 some (kG,true,0))))
noncomputable def EX(x0:ai)(x1:(List Int))(x2:Int):Option ai :=
 (((ae (!x0.some_)
 (some true)
 (some (decide (x2 < x0.number)))):Option Bool)).bind (λ (PK:Bool) =>
 ae PK
 (some (⟨x1,x2,true⟩:ai))
 (some x0))
noncomputable def wc(x0:aj):Option ((List Int) × Int × Int) :=
 (nv x0 (λ y=>mC y)).bind λ dc =>
 ae (dc.2 != 0)
 (some ([],0,dc.2))
 ((wE dc.1).bind λ l6 =>
 (ss (dq (λ (E6:(List Int)) (gn:((List Int) × Int × Bool))=>(((yI (⟨⟨dc.1.book.aB,⟨dc.1.book.aa.ai,dc.1.book.aa.ak⟩,dc.1.book.ao,dc.1.book.Out,dc.1.book.aT⟩,dc.1.eB,l6⟩:di) E6).bind λ dB =>
 (EX (⟨gn.1,gn.2.1,gn.2.2⟩:ai) E6 dB).bind λ lA =>
 some (.inl (lA.Rt,lA.number,lA.some_))):Option (((List Int) × Int × Bool) ⊕ Empty)))) dc.1.book (.inl ([],0,false))).bind (Sum.elim (λ (gn:((List Int) × Int × Bool)) =>
 some (gn.1,gn.2.1,0))
  (λ (o:Empty)=>o.elim)))
noncomputable def A0(x0:aj):Option Bool :=
 (qE (dq (λ (_:bt) (_:Unit)=>((some (.inr ())):Option (Unit ⊕ Unit)))) x0 (.inl ())).bind (Sum.elim (λ (_:Unit) =>
 some false)
  (λ (_:Unit) =>
 some true))
noncomputable def xH(x0:Int):Option Bool :=
 some (x0 != x0)
noncomputable def KX(x0:Int)(x1:Int):Option Int :=
 (xH x0).bind λ dc =>
 (xH x1).bind λ oC =>
 ae dc
 (ae oC
 (some 0)
 (some (-1)))
 (ae oC
 (some 1)
 (ae (decide (x0 < x1))
 (some (-1))
 (ae (decide (x0 > x1))
 (some 1)
 (some 0))))
noncomputable def KV(x0:(List Int))(x1:(List Int)):Option Int :=
 (bd (O:=(Unit ⊕ Int)) (λ (AE:Int) =>
 ae (decide (AE < (x0.length:Int)))
 ((idx x0 AE).bind λ mP =>
 ae (decide (AE ≥ (x1.length:Int)))
 (some (.inr (.inr 1)))
 ((idx x1 AE).bind λ Ht =>
 (KX mP Ht).bind λ Ig =>
 ae (Ig != 0)
 (some (.inr (.inr Ig)))
 (some (.inl (i64 (AE+1))))))
 (some (.inr (.inl ())))) 0).bind (Sum.elim (λ (_:Unit) =>
 ae (decide ((x0.length:Int) < (x1.length:Int)))
 (some (-1))
 (some 0))
  (λ q=>some q))
noncomputable def EY(x0:(List Int))(x1:(List Int)):Option Bool :=
 ae (decide ((x0.length:Int) < (x1.length:Int)))
 (some true)
 (ae ((x0.length:Int) == (x1.length:Int))
 ((KV x0 x1).bind λ fg =>
 some (decide (fg < 0)))
 (some false))
noncomputable def Bl(x0:aj):Option ((List Int) × Int) :=
 (mB x0).bind λ QO =>
 ae (QO != 0)
 (some ([],QO))
 ((A0 x0).bind λ iH =>
 ae iH
 (some ([],0))
 ((se .i64 1 (x0.aT.length:Int)).bind λ rY =>
 (bd (O:=(List (List Int))) (λ (eE:((List (List Int)) × Int)) =>
 ae (decide (eE.2 < rY))
 ((bd (O:=((List Int) × (List bV))) (λ (j0:((List Int) × Int × (List bV))) =>
 ae (decide (j0.2.1 < (x0.aT.length:Int)))
 ((idx x0.aT j0.2.1).bind λ oB =>
 (qV .i64 eE.2 j0.2.1).bind λ abe =>
 (pL .and .i64 abe 1).bind λ abf =>
 ae (abf == 1)
 ((cV j0.1 [j0.2.1]).bind λ abg =>
 (cV j0.2.2 [oB]).bind λ abh =>
 some (.inl (abg,i64 (j0.2.1+1),abh)))
 (some (.inl (j0.1,i64 (j0.2.1+1),j0.2.2))))
 (some (.inr (j0.1,j0.2.2)))) ([],0,[])).bind (λ (Aq:((List Int) × (List bV))) =>
 (A0 (⟨x0.aB,⟨x0.aa.ai,x0.aa.ak⟩,x0.ao,x0.Out,Aq.2⟩:aj)).bind λ AW =>
 ae (!AW)
 ((cV eE.1 [Aq.1]).bind λ pF =>
 some (.inl (pF,i64 (eE.2+1))))
 (some (.inl (eE.1,i64 (eE.2+1))))))
 (some (.inr eE.1))) ([],0)).bind (λ (nw:(List (List Int))) =>
 (idx nw 0).bind λ uh =>
 (bd (O:=(List Int)) (λ (rT:((List Int) × Int)) =>
 ae (decide (rT.2 < (nw.length:Int)))
 ((idx nw rT.2).bind λ ui =>
 (EY ui rT.1).bind λ qO =>
 ae qO
 (some (.inl (ui,i64 (rT.2+1))))
 (some (.inl (rT.1,i64 (rT.2+1)))))
 (some (.inr rT.1))) (uh,0)).bind (λ (K9:(List Int)) =>
 ae ((K9.length:Int) == 0)
 (some ([],8))
 (some (K9,0))))))
noncomputable def Gs(x0:aj):Option (Int × Int × Int) :=
 (nv x0 (λ y=>mC y)).bind λ dI =>
 ae (dI.2 != 0)
 (some (0,0,dI.2))
 ((bd (O:=(Int × Int)) (λ (dm:(Int × Int × (Int→Int→Int) × Int)) =>
 ae (decide (dm.2.2.2 < (x0.ao.length:Int)))
 ((bd (O:=((Int→Int→Int) × Int)) (λ (eE:((Int→Int→Int) × Int × Int)) =>
 ae (decide (eE.2.2 < (dI.1.eB.length:Int)))
 ((idx dI.1.eB eE.2.2).bind λ vU =>
 (idx vU.weights dm.2.2.2).bind λ gq =>
 some (.inl (AK eE.1 dm.2.2.2 gq (i64 ((eE.1 dm.2.2.2 gq)+1)),fH eE.2.1 [(AK eE.1 dm.2.2.2 gq (i64 ((eE.1 dm.2.2.2 gq)+1))) dm.2.2.2 gq],i64 (eE.2.2+1))))
 (some (.inr (eE.1,eE.2.1)))) (dm.2.2.1,0,0)).bind (λ (nw:((Int→Int→Int) × Int)) =>
 ae (decide (nw.2 < dm.2.1))
 (some (.inl (dm.2.2.2,nw.2,nw.1,i64 (dm.2.2.2+1))))
 (some (.inl (dm.1,dm.2.1,nw.1,i64 (dm.2.2.2+1))))))
 (some (.inr (dm.1,dm.2.1)))) ((-1),(dI.1.eB.length:Int),(λ _ _=>0),0)).bind (λ (Gz:(Int × Int)) =>
 some (Gz.1,Gz.2,0)))
noncomputable def Bg(x0:(List bV)):Option (List bV) :=
 (cV [] x0).bind λ cF =>
 some cF
noncomputable def Bi(x0:(List cE)):Option (List cE) :=
 (cV [] x0).bind λ cF =>
 some cF
noncomputable def Bh(x0:aj):Option (aj × Int) :=
 (mB x0).bind λ kh =>
 ae (kh != 0)
 (some ((⟨0,⟨0,0⟩,[],[],[]⟩:aj),kh))
 ((A0 (⟨x0.aB,⟨x0.aa.ai,x0.aa.ak⟩,x0.ao,x0.Out,x0.aT⟩:aj)).bind λ e7 =>
 ae (!e7)
 (some ((⟨0,⟨0,0⟩,[],[],[]⟩:aj),9))
 ((Bi x0.ao).bind λ fA =>
 (uo x0.Out).bind λ gR =>
 (Bg x0.aT).bind λ mP =>
 (bd (O:=(List cE)) (λ (pw:((List cE) × Int)) =>
 ae (decide (pw.2 < (fA.length:Int)))
 ((idx pw.1 pw.2).bind λ nR =>
 (uo nR.On).bind λ jv =>
 (idx pw.1 pw.2).bind λ lV =>
 some (.inl (pw.1.set pw.2.toNat (⟨lV.Name,lV.dJ,⟨lV.Weight.ai,lV.Weight.ak⟩,jv⟩:cE),i64 (pw.2+1))))
 (some (.inr pw.1))) (fA,0)).bind (λ (PU:(List cE)) =>
 some ((⟨x0.aB,⟨x0.aa.ai,x0.aa.ak⟩,PU,gR,mP⟩:aj),0))))
noncomputable def Bm(x0:aj)(x1:bV):Option (aj × Int) :=
 (mB x0).bind λ dc =>
 ae (dc != 0)
 (some ((⟨0,⟨0,0⟩,[],[],[]⟩:aj),dc))
 ((Bg x0.aT).bind λ kN =>
 (cV kN [x1]).bind λ gr =>
 (Bh (⟨x0.aB,⟨x0.aa.ai,x0.aa.ak⟩,x0.ao,x0.Out,gr⟩:aj)).bind λ fx =>
 some (fx.1,fx.2))
noncomputable def Bn(x0:aj)(x1:Int)(x2:Reach):Option (aj × Int) :=
 (mB x0).bind λ j4 =>
 ae (j4 != 0)
 (some ((⟨0,⟨0,0⟩,[],[],[]⟩:aj),j4))
 ((vx (⟨x0.aB,⟨x0.aa.ai,x0.aa.ak⟩,x0.ao,x0.Out,x0.aT⟩:aj) x1).bind λ ey =>
 ae (!ey)
 (some ((⟨0,⟨0,0⟩,[],[],[]⟩:aj),6))
 ((xC x2 1 99 99).bind λ x61 =>
 ae (!x61)
 (some ((⟨0,⟨0,0⟩,[],[],[]⟩:aj),1))
 ((idx x0.ao x1).bind λ kO =>
 ae (decide (fH kO.Weight.ai [x2.ai] > j7 kO.Weight.ak [x2.ak]))
 (some ((⟨0,⟨0,0⟩,[],[],[]⟩:aj),9))
 ((Bi x0.ao).bind λ gA =>
 (idx gA x1).bind λ e9 =>
 (Bh (⟨x0.aB,⟨x0.aa.ai,x0.aa.ak⟩,gA.set x1.toNat (⟨e9.Name,e9.dJ,⟨fH kO.Weight.ai [x2.ai],j7 kO.Weight.ak [x2.ak]⟩,e9.On⟩:cE),x0.Out,x0.aT⟩:aj)).bind λ fA =>
 some (fA.1,fA.2)))))
noncomputable def DV(x0:aj)(x1:Int):Option (aj × Int) :=
 (mB x0).bind λ l6 =>
 ae (l6 != 0)
 (some ((⟨0,⟨0,0⟩,[],[],[]⟩:aj),l6))
 ((jK [false,false,false,false,false] x0.Out).bind λ fZ =>
 (xK (⟨x0.aB,⟨x0.aa.ai,x0.aa.ak⟩,x0.ao,x0.Out,x0.aT⟩:aj) fZ [x1]).bind λ AX =>
 ae (AX.2 != 0)
 (some ((⟨0,⟨0,0⟩,[],[],[]⟩:aj),AX.2))
 ((uo x0.Out).bind λ j9 =>
 (cV j9 [x1]).bind λ ey =>
 (Bh (⟨x0.aB,⟨x0.aa.ai,x0.aa.ak⟩,x0.ao,ey,x0.aT⟩:aj)).bind λ eM =>
 some (eM.1,eM.2)))
noncomputable def EI(x0:aj)(x1:Int):Option Int :=
 (vx x0 x1).bind λ gZ =>
 ae (!gZ)
 (some 6)
 (some 0)
noncomputable def fB(x0:Int)(x1:Int):Option Bool :=
 (xH x0).bind λ gZ =>
 ae gZ
 ((xH x1).bind λ gm =>
 ae (!gm)
 (some true)
 (some (decide (x0 < x1))))
 (some (decide (x0 < x1)))
noncomputable def Ae(x0:(List Int))(x1:Int)(x2:Int):Option (List Int) :=
 (bd (O:=(List Int)) (λ (rS:((List Int) × Int)) =>
 ae (decide (rS.2 < x2))
 ((bd (O:=(List Int)) (λ (dG:((List Int) × Int)) =>
 (((ae (decide (dG.2 > x1))
 ((idx dG.1 dG.2).bind λ LP =>
 (idx dG.1 (i64 (dG.2 - 1))).bind λ AW =>
 (fB LP AW).bind λ QX =>
 some QX)
 (some false)):Option Bool)).bind (λ (GH:Bool) =>
 ae GH
 ((idx dG.1 (i64 (dG.2 - 1))).bind λ pF =>
 (idx dG.1 dG.2).bind λ uh =>
 (idx dG.1 dG.2).bind λ _ =>
 (idx (dG.1.set dG.2.toNat pF) (i64 (dG.2 - 1))).bind λ _ =>
 some (.inl ((dG.1.set dG.2.toNat pF).set (i64 (dG.2 - 1)).toNat uh,i64 (dG.2 - 1))))
 (some (.inr dG.1)))) (rS.1,rS.2)).bind (λ (PM:(List Int)) =>
 some (.inl (PM,i64 (rS.2+1)))))
 (some (.inr rS.1))) (x0,i64 (x1+1))).bind (λ (PG:(List Int)) =>
 some PG)
noncomputable def Aj(x0:(List Int))(x1:Int)(x2:Int)(x3:Int):Option (List Int) :=
 (bd (O:=((List Int) ⊕ (List Int))) (λ (eJ:((List Int) × Int)) =>
 ae (decide (i64 ((i64 (2 * eJ.2))+1) ≥ x2))
 (some (.inr (.inl eJ.1)))
 ((((ae (decide (i64 ((i64 ((i64 (2 * eJ.2))+1))+1) < x2))
 ((idx eJ.1 (i64 (x3+(i64 ((i64 (2 * eJ.2))+1))))).bind λ vT =>
 (idx eJ.1 (i64 ((i64 (x3+(i64 ((i64 (2 * eJ.2))+1))))+1))).bind λ uG =>
 (fB vT uG).bind λ Eo =>
 some Eo)
 (some false)):Option Bool)).bind (λ (PF:Bool) =>
 (((ae PF
 (some (i64 ((i64 ((i64 (2 * eJ.2))+1))+1)))
 (some (i64 ((i64 (2 * eJ.2))+1)))):Option Int)).bind (λ (xN:Int) =>
 (idx eJ.1 (i64 (x3+eJ.2))).bind λ fD =>
 (idx eJ.1 (i64 (x3+xN))).bind λ yW =>
 (fB fD yW).bind λ LL =>
 ae (!LL)
 (some (.inr (.inr eJ.1)))
 ((idx eJ.1 (i64 (x3+xN))).bind λ E5 =>
 (idx eJ.1 (i64 (x3+eJ.2))).bind λ nF =>
 (idx eJ.1 (i64 (x3+eJ.2))).bind λ _ =>
 (idx (eJ.1.set (i64 (x3+eJ.2)).toNat E5) (i64 (x3+xN))).bind λ _ =>
 some (.inl ((eJ.1.set (i64 (x3+eJ.2)).toNat E5).set (i64 (x3+xN)).toNat nF,xN))))))) (x0,x1)).bind (Sum.elim (λ (Gy:(List Int)) =>
 some Gy)
  (λ q=>some q))
noncomputable def Af(x0:(List Int))(x1:Int)(x2:Int):Option (List Int) :=
 (mF (i64 ((i64 (x2 - x1)) - 1)) 2).bind λ kO =>
 (bd (O:=(List Int)) (λ (tT:((List Int) × Int)) =>
 ae (decide (tT.2 ≥ 0))
 ((Aj tT.1 tT.2 (i64 (x2 - x1)) x1).bind λ kR =>
 some (.inl (kR,i64 (tT.2 - 1))))
 (some (.inr tT.1))) (x0,kO)).bind (λ (PR:(List Int)) =>
 (bd (O:=(List Int)) (λ (kK:((List Int) × Int)) =>
 ae (decide (kK.2 ≥ 0))
 ((idx kK.1 (i64 (x1+kK.2))).bind λ iX =>
 (idx kK.1 x1).bind λ qW =>
 (idx kK.1 x1).bind λ _ =>
 (idx (kK.1.set x1.toNat iX) (i64 (x1+kK.2))).bind λ _ =>
 (Aj ((kK.1.set x1.toNat iX).set (i64 (x1+kK.2)).toNat qW) 0 kK.2 x1).bind λ lz =>
 some (.inl (lz,i64 (kK.2 - 1))))
 (some (.inr kK.1))) (PR,i64 ((i64 (x2 - x1)) - 1))).bind (λ (pn:(List Int)) =>
 some pn))
noncomputable def KY(x0:Int):Option Int :=
 (((ae (decide (x0 ≥ 4294967296))
 ((qV .u64 x0 32).bind λ kN =>
 some (kN,32))
 (some (x0,0))):Option (Int × Int))).bind (λ (kF:(Int × Int)) =>
 (((ae (decide (kF.1 ≥ 65536))
 ((qV .u64 kF.1 16).bind λ fZ =>
 some (fZ,i64 (kF.2+16)))
 (some (kF.1,kF.2))):Option (Int × Int))).bind (λ (xP:(Int × Int)) =>
 (((ae (decide (xP.1 ≥ 256))
 ((qV .u64 xP.1 8).bind λ iV =>
 some (iV,i64 (xP.2+8)))
 (some (xP.1,xP.2))):Option (Int × Int))).bind (λ (iw:(Int × Int)) =>
 (tW (⟨#[0,1,2,2,3,3,3,3,4,4,4,4,4,4,4,4,5,5,5,5,5,5,5,5,5,5,5,5,5,5,5,5,6,6,6,6,6,6,6,6,6,6,6,6,6,6,6,6,6,6,6,6,6,6,6,6,6,6,6,6,6,6,6,6,7,7,7,7,7,7,7,7,7,7,7,7,7,7,7,7,7,7,7,7,7,7,7,7,7,7,7,7,7,7,7,7,7,7,7,7,7,7,7,7,7,7,7,7,7,7,7,7,7,7,7,7,7,7,7,7,7,7,7,7,7,7,7,7,8,8,8,8,8,8,8,8,8,8,8,8,8,8,8,8,8,8,8,8,8,8,8,8,8,8,8,8,8,8,8,8,8,8,8,8,8,8,8,8,8,8,8,8,8,8,8,8,8,8,8,8,8,8,8,8,8,8,8,8,8,8,8,8,8,8,8,8,8,8,8,8,8,8,8,8,8,8,8,8,8,8,8,8,8,8,8,8,8,8,8,8,8,8,8,8,8,8,8,8,8,8,8,8,8,8,8,8,8,8,8,8,8,8,8,8,8,8,8,8,8,8,8,8,8,8,8,8]⟩) (IntKind.wrap .u8 iw.1)).bind λ j4 =>
 some (i64 (iw.2+(i64 j4))))))
noncomputable def Ad(x0:Int):Option Int :=
 (KY x0).bind λ cF =>
 some cF
noncomputable def DL(x0:Int):Option Int :=
 (Ad (IntKind.wrap .u64 x0)).bind λ Ew =>
 (se .u64 1 Ew).bind λ eT =>
 some eT
noncomputable def DM(x0:Int):Option (Int × Int) :=
 (se .u64 x0 13).bind λ gm =>
 (pL .xor .u64 x0 gm).bind λ fX =>
 (qV .u64 fX 7).bind λ nG =>
 (pL .xor .u64 fX nG).bind λ e6 =>
 (se .u64 e6 17).bind λ gO =>
 (pL .xor .u64 e6 gO).bind λ eL =>
 some (eL,eL)
noncomputable def xI(x0:(List Int))(x1:Int)(x2:Int):Option (List Int) :=
 ae (decide (i64 (x2 - x1) ≥ 8))
 ((DL (i64 (x2 - x1))).bind λ e9 =>
 (mF (i64 (x2 - x1)) 4).bind λ eO =>
 (bd (O:=(List Int)) (λ (dr:((List Int) × Int × Int)) =>
 (mF (i64 (x2 - x1)) 4).bind λ mZ =>
 ae (decide (dr.2.1≤i64 ((i64 (x1+(i64 (mZ * 2))))+1)))
 ((DM dr.2.2).bind λ lz =>
 (pL .and .u64 lz.2 (IntKind.wrap .u64 (e9 - 1))).bind λ ur =>
 (((ae (decide (i64 ur ≥ i64 (x2 - x1)))
 (some (i64 ((i64 ur) - (i64 (x2 - x1)))))
 (some (i64 ur))):Option Int)).bind (λ (vB:Int) =>
 (idx dr.1 (i64 (x1+vB))).bind λ yy =>
 (idx dr.1 dr.2.1).bind λ pD =>
 (idx dr.1 dr.2.1).bind λ _ =>
 (idx (dr.1.set dr.2.1.toNat yy) (i64 (x1+vB))).bind λ _ =>
 some (.inl ((dr.1.set dr.2.1.toNat yy).set (i64 (x1+vB)).toNat pD,i64 (dr.2.1+1),lz.1))))
 (some (.inr dr.1))) (x0,i64 ((i64 (x1+(i64 (eO * 2)))) - 1),IntKind.wrap .u64 (i64 (x2 - x1)))).bind (λ (tL:(List Int)) =>
 some tL))
 (some x0)
noncomputable def rO(x0:(List Int))(x1:Int)(x2:Int)(x3:Int):Option (Int × Int × Int) :=
 (idx x0 x2).bind λ gZ =>
 (idx x0 x1).bind λ fg =>
 (fB gZ fg).bind λ gm =>
 ae gm
 (some (i64 (x3+1),x2,x1))
 (some (x3,x1,x2))
noncomputable def tB(x0:(List Int))(x1:Int)(x2:Int)(x3:Int)(x4:Int):Option (Int × Int) :=
 (rO x0 x1 x2 x4).bind λ eT =>
 (rO x0 eT.2.2 x3 eT.1).bind λ gZ =>
 (rO x0 eT.2.1 gZ.2.1 gZ.1).bind λ fg =>
 some (fg.1,fg.2.2)
noncomputable def rN(x0:(List Int))(x1:Int)(x2:Int):Option (Int × Int) :=
 (tB x0 (i64 (x1 - 1)) x1 (i64 (x1+1)) x2).bind λ cF =>
 some (cF.1,cF.2)
noncomputable def Ag(x0:(List Int))(x1:Int)(x2:Int):Option (Int × Int) :=
 (mF (i64 (x2 - x1)) 4).bind λ gr =>
 (mF (i64 (x2 - x1)) 4).bind λ lW =>
 (mF (i64 (x2 - x1)) 4).bind λ fx =>
 (((ae (decide (i64 (x2 - x1) ≥ 8))
 (ae (decide (i64 (x2 - x1) ≥ 50))
 ((rN x0 (i64 (x1+(i64 (gr * 1)))) 0).bind λ ey =>
 (rN x0 (i64 (x1+(i64 (lW * 2)))) ey.1).bind λ eM =>
 (rN x0 (i64 (x1+(i64 (fx * 3)))) eM.1).bind λ dP =>
 (tB x0 ey.2 eM.2 dP.2 dP.1).bind λ gD =>
 some (gD.2,gD.1))
 ((tB x0 (i64 (x1+(i64 (gr * 1)))) (i64 (x1+(i64 (lW * 2)))) (i64 (x1+(i64 (fx * 3)))) 0).bind λ kg =>
 some (kg.2,kg.1)))
 (some (i64 (x1+(i64 (lW * 2))),0))):Option (Int × Int))).bind (λ (kG:(Int × Int)) =>
 ae (kG.2 == 0)
 (some (kG.1,1))
 (ae (kG.2 == 12)
 (some (kG.1,2))
 (some (kG.1,0))))
noncomputable def xJ(x0:(List Int))(x1:Int)(x2:Int):Option (List Int) :=
 (bd (O:=(List Int)) (λ (ft:((List Int) × Int × Int)) =>
 ae (decide (ft.2.1 < ft.2.2))
 ((idx ft.1 ft.2.2).bind λ e7 =>
 (idx ft.1 ft.2.1).bind λ gA =>
 (idx ft.1 ft.2.1).bind λ _ =>
 (idx (ft.1.set ft.2.1.toNat e7) ft.2.2).bind λ _ =>
 some (.inl ((ft.1.set ft.2.1.toNat e7).set ft.2.2.toNat gA,i64 (ft.2.1+1),i64 (ft.2.2 - 1))))
 (some (.inr ft.1))) (x0,x1,i64 (x2 - 1))).bind (λ (GK:(List Int)) =>
 some GK)
noncomputable def vy(x0:(List Int))(x1:Int)(x2:Int):Option ((List Int) × Bool) :=
 (bd (O:=((List Int) ⊕ ((List Int) × Bool))) (λ (gL:((List Int) × Int × Int)) =>
 ae (decide (gL.2.2 < 5))
 ((bd (O:=Int) (λ (jr:Int) =>
 ae (decide (jr < x2))
 ((idx gL.1 jr).bind λ EC =>
 (idx gL.1 (i64 (jr - 1))).bind λ ED =>
 (fB EC ED).bind λ Hu =>
 ae (!Hu)
 (some (.inl (i64 (jr+1))))
 (some (.inr jr)))
 (some (.inr jr))) gL.2.1).bind (λ (gY:Int) =>
 ae (gY == x2)
 (some (.inr (.inr (gL.1,true))))
 (ae (decide (i64 (x2 - x1) < 50))
 (some (.inr (.inr (gL.1,false))))
 ((idx gL.1 (i64 (gY - 1))).bind λ LQ =>
 (idx gL.1 gY).bind λ Q5 =>
 (idx gL.1 gY).bind λ _ =>
 (idx (gL.1.set gY.toNat LQ) (i64 (gY - 1))).bind λ _ =>
 (((ae (decide (i64 (gY - x1) ≥ 2))
 ((bd (O:=(List Int)) (λ (dy:((List Int) × Int)) =>
 ae (decide (dy.2 ≥ 1))
 ((idx dy.1 dy.2).bind λ LF =>
 (idx dy.1 (i64 (dy.2 - 1))).bind λ LG =>
 (fB LF LG).bind λ QG =>
 ae (!QG)
 (some (.inr dy.1))
 ((idx dy.1 (i64 (dy.2 - 1))).bind λ Ei =>
 (idx dy.1 dy.2).bind λ LH =>
 (idx dy.1 dy.2).bind λ _ =>
 (idx (dy.1.set dy.2.toNat Ei) (i64 (dy.2 - 1))).bind λ _ =>
 some (.inl ((dy.1.set dy.2.toNat Ei).set (i64 (dy.2 - 1)).toNat LH,i64 (dy.2 - 1)))))
 (some (.inr dy.1))) ((gL.1.set gY.toNat LQ).set (i64 (gY - 1)).toNat Q5,i64 (gY - 1))).bind (λ (GN:(List Int)) =>
 some GN))
 (some ((gL.1.set gY.toNat LQ).set (i64 (gY - 1)).toNat Q5))):Option (List Int))).bind (λ (Lc:(List Int)) =>
 ae (decide (i64 (x2 - gY) ≥ 2))
 ((bd (O:=(List Int)) (λ (cz:((List Int) × Int)) =>
 ae (decide (cz.2 < x2))
 ((idx cz.1 cz.2).bind λ Ej =>
 (idx cz.1 (i64 (cz.2 - 1))).bind λ Ek =>
 (fB Ej Ek).bind λ He =>
 ae (!He)
 (some (.inr cz.1))
 ((idx cz.1 (i64 (cz.2 - 1))).bind λ vS =>
 (idx cz.1 cz.2).bind λ El =>
 (idx cz.1 cz.2).bind λ _ =>
 (idx (cz.1.set cz.2.toNat vS) (i64 (cz.2 - 1))).bind λ _ =>
 some (.inl ((cz.1.set cz.2.toNat vS).set (i64 (cz.2 - 1)).toNat El,i64 (cz.2+1)))))
 (some (.inr cz.1))) (Lc,i64 (gY+1))).bind (λ (PD:(List Int)) =>
 some (.inl (PD,gY,i64 (gL.2.2+1)))))
 (some (.inl (Lc,gY,i64 (gL.2.2+1)))))))))
 (some (.inr (.inl gL.1)))) (x0,i64 (x1+1),0)).bind (Sum.elim (λ (PO:(List Int)) =>
 some (PO,false))
  (λ q=>some q))
noncomputable def Ah(x0:(List Int))(x1:Int)(x2:Int)(x3:Int):Option ((List Int) × Int) :=
 (idx x0 x3).bind λ QK =>
 (idx x0 x1).bind λ iD =>
 (idx x0 x1).bind λ _ =>
 (idx (x0.set x1.toNat QK) x3).bind λ _ =>
 (bd (O:=((List Int) × Int)) (λ (kH:((List Int) × Int × Int)) =>
 (bd (O:=Int) (λ (AA:Int) =>
 ae (decide (AA≤kH.2.2))
 ((idx kH.1 x1).bind λ Hi =>
 (idx kH.1 AA).bind λ AT =>
 (fB Hi AT).bind λ QQ =>
 ae (!QQ)
 (some (.inl (i64 (AA+1))))
 (some (.inr AA)))
 (some (.inr AA))) kH.2.1).bind (λ (pj:Int) =>
 (bd (O:=Int) (λ (l4:Int) =>
 ae (decide (pj≤l4))
 ((idx kH.1 x1).bind λ uf =>
 (idx kH.1 l4).bind λ LO =>
 (fB uf LO).bind λ aiX =>
 ae aiX
 (some (.inl (i64 (l4 - 1))))
 (some (.inr l4)))
 (some (.inr l4))) kH.2.2).bind (λ (r6:Int) =>
 ae (decide (pj > r6))
 (some (.inr (kH.1,pj)))
 ((idx kH.1 r6).bind λ QR =>
 (idx kH.1 pj).bind λ abd =>
 (idx kH.1 pj).bind λ _ =>
 (idx (kH.1.set pj.toNat QR) r6).bind λ _ =>
 some (.inl ((kH.1.set pj.toNat QR).set r6.toNat abd,i64 (pj+1),i64 (r6 - 1))))))) ((x0.set x1.toNat QK).set x3.toNat iD,i64 (x1+1),i64 (x2 - 1))).bind (λ (GA:((List Int) × Int)) =>
 some (GA.1,GA.2))
noncomputable def Ai(x0:(List Int))(x1:Int)(x2:Int)(x3:Int):Option ((List Int) × Int × Bool) :=
 (idx x0 x3).bind λ iH =>
 (idx x0 x1).bind λ lj =>
 (idx x0 x1).bind λ _ =>
 (idx (x0.set x1.toNat iH) x3).bind λ _ =>
 (bd (O:=Int) (λ (Ay:Int) =>
 ae (decide (Ay≤i64 (x2 - 1)))
 ((idx ((x0.set x1.toNat iH).set x3.toNat lj) Ay).bind λ aa8 =>
 (idx ((x0.set x1.toNat iH).set x3.toNat lj) x1).bind λ aa9 =>
 (fB aa8 aa9).bind λ aiS =>
 ae aiS
 (some (.inl (i64 (Ay+1))))
 (some (.inr Ay)))
 (some (.inr Ay))) (i64 (x1+1))).bind (λ (qF:Int) =>
 (bd (O:=Int) (λ (Az:Int) =>
 ae (decide (qF≤Az))
 ((idx ((x0.set x1.toNat iH).set x3.toNat lj) Az).bind λ abb =>
 (idx ((x0.set x1.toNat iH).set x3.toNat lj) x1).bind λ HI =>
 (fB abb HI).bind λ aiU =>
 ae (!aiU)
 (some (.inl (i64 (Az - 1))))
 (some (.inr Az)))
 (some (.inr Az))) (i64 (x2 - 1))).bind (λ (ow:Int) =>
 ae (decide (qF > ow))
 ((idx ((x0.set x1.toNat iH).set x3.toNat lj) x1).bind λ rZ =>
 (idx ((x0.set x1.toNat iH).set x3.toNat lj) ow).bind λ Hj =>
 (idx ((x0.set x1.toNat iH).set x3.toNat lj) ow).bind λ _ =>
 (idx (((x0.set x1.toNat iH).set x3.toNat lj).set ow.toNat rZ) x1).bind λ _ =>
 some ((((x0.set x1.toNat iH).set x3.toNat lj).set ow.toNat rZ).set x1.toNat Hj,ow,true))
 ((idx ((x0.set x1.toNat iH).set x3.toNat lj) ow).bind λ ym =>
 (idx ((x0.set x1.toNat iH).set x3.toNat lj) qF).bind λ abc =>
 (idx ((x0.set x1.toNat iH).set x3.toNat lj) qF).bind λ _ =>
 (idx (((x0.set x1.toNat iH).set x3.toNat lj).set qF.toNat ym) ow).bind λ _ =>
 (bd (O:=((List Int) × Int)) (λ (kJ:((List Int) × Int × Int)) =>
 (bd (O:=Int) (λ (AB:Int) =>
 ae (decide (AB≤kJ.2.2))
 ((idx kJ.1 AB).bind λ abj =>
 (idx kJ.1 x1).bind λ pF =>
 (fB abj pF).bind λ uh =>
 ae uh
 (some (.inl (i64 (AB+1))))
 (some (.inr AB)))
 (some (.inr AB))) kJ.2.1).bind (λ (qG:Int) =>
 (bd (O:=Int) (λ (AD:Int) =>
 ae (decide (qG≤AD))
 ((idx kJ.1 AD).bind λ abl =>
 (idx kJ.1 x1).bind λ abm =>
 (fB abl abm).bind λ ai1 =>
 ae (!ai1)
 (some (.inl (i64 (AD - 1))))
 (some (.inr AD)))
 (some (.inr AD))) kJ.2.2).bind (λ (vD:Int) =>
 ae (decide (qG > vD))
 (some (.inr (kJ.1,vD)))
 ((idx kJ.1 vD).bind λ Q0 =>
 (idx kJ.1 qG).bind λ abn =>
 (idx kJ.1 qG).bind λ _ =>
 (idx (kJ.1.set qG.toNat Q0) vD).bind λ _ =>
 some (.inl ((kJ.1.set qG.toNat Q0).set vD.toNat abn,i64 (qG+1),i64 (vD - 1))))))) ((((x0.set x1.toNat iH).set x3.toNat lj).set qF.toNat ym).set ow.toNat abc,i64 (qF+1),i64 (ow - 1))).bind (λ (jL:((List Int) × Int)) =>
 (idx jL.1 x1).bind λ Q1 =>
 (idx jL.1 jL.2).bind λ abo =>
 (idx jL.1 jL.2).bind λ _ =>
 (idx (jL.1.set jL.2.toNat Q1) x1).bind λ _ =>
 some ((jL.1.set jL.2.toNat Q1).set x1.toNat abo,jL.2,false)))))
noncomputable def tA:Nat→(List Int)→Int→Int→Int→Option (List Int)
 | 0,_,_,_,_=>none
 | k+1,x0,x1,x2,x3 =>
  (bd (O:=(List Int)) (λ (ba:((List Int) × Int × Int × Int × Bool × Bool)) =>
  ae (decide (i64 (ba.2.2.1 - ba.2.1)≤12))
  ((Ae ba.1 ba.2.1 ba.2.2.1).bind λ QY =>
  some (.inr QY))
  (ae (ba.2.2.2.1 == 0)
  ((Af ba.1 ba.2.1 ba.2.2.1).bind λ QZ =>
  some (.inr QZ))
  ((((ae (!ba.2.2.2.2.1)
  ((xI ba.1 ba.2.1 ba.2.2.1).bind λ ui =>
  some (ui,i64 (ba.2.2.2.1 - 1)))
  (some (ba.1,ba.2.2.2.1))):Option ((List Int) × Int))).bind (λ (gh:((List Int) × Int)) =>
  (Ag gh.1 ba.2.1 ba.2.2.1).bind λ qO =>
  (((ae (qO.2 == 2)
  ((xJ gh.1 ba.2.1 ba.2.2.1).bind λ yn =>
  some (yn,i64 ((i64 (ba.2.2.1 - 1)) - (i64 (qO.1 - ba.2.1))),1))
  (some (gh.1,qO.1,qO.2))):Option ((List Int) × Int × Int))).bind (λ (iR:((List Int) × Int × Int)) =>
  (((ae ba.2.2.2.2.1
  (ae ba.2.2.2.2.2
  (some (iR.2.2 == 1))
  (some false))
  (some false)):Option Bool)).bind (λ (GI:Bool) =>
  (((ae GI
  ((vy iR.1 ba.2.1 ba.2.2.1).bind λ nI =>
  ae nI.2
  (some (.inr nI.1))
  (some (.inl nI.1)))
  (some (.inl iR.1))):Option ((List Int) ⊕ (List Int)))).bind (Sum.elim (λ (pk:(List Int)) =>
  (((ae (decide (ba.2.1 > 0))
  ((idx pk (i64 (ba.2.1 - 1))).bind λ EA =>
  (idx pk iR.2.1).bind λ EB =>
  (fB EA EB).bind λ Hp =>
  some (!Hp))
  (some false)):Option Bool)).bind (λ (GJ:Bool) =>
  ae GJ
  ((Ah pk ba.2.1 ba.2.2.1 iR.2.1).bind λ Hq =>
  some (.inl (Hq.1,Hq.2,ba.2.2.1,gh.2,ba.2.2.2.2.1,ba.2.2.2.2.2)))
  ((Ai pk ba.2.1 ba.2.2.1 iR.2.1).bind λ fY =>
  (mF (i64 (ba.2.2.1 - ba.2.1)) 8).bind λ Hr =>
  ae (decide (i64 (fY.2.1 - ba.2.1) < i64 (ba.2.2.1 - fY.2.1)))
  ((tA k fY.1 ba.2.1 fY.2.1 gh.2).bind λ Q2 =>
  some (.inl (Q2,i64 (fY.2.1+1),ba.2.2.1,gh.2,decide (i64 (fY.2.1 - ba.2.1) ≥ Hr),fY.2.2)))
  ((tA k fY.1 (i64 (fY.2.1+1)) ba.2.2.1 gh.2).bind λ Q3 =>
  some (.inl (Q3,ba.2.1,fY.2.1,gh.2,decide (i64 (ba.2.2.1 - fY.2.1) ≥ Hr),fY.2.2))))))
   (λ q=>some (.inr q))))))))) (x0,x1,x2,x3,true,true)).bind (λ q=>some q)
noncomputable def z9(x0:(List Int)):Option (List Int) :=
 (Ad (IntKind.wrap .u64 (x0.length:Int))).bind λ Ew =>
 (tA 12 x0 0 (x0.length:Int) Ew).bind λ eT =>
 some eT
noncomputable def Aa(x0:(List Int)):Option (List Int) :=
 ae (decide ((x0.length:Int) < 2))
 (some x0)
 ((bd (O:=(Unit ⊕ (List Int))) (λ (mH:Int) =>
 ae (decide (mH < (x0.length:Int)))
 ((idx x0 mH).bind λ aa7 =>
 (idx x0 (i64 (mH - 1))).bind λ LM =>
 ae (aa7 == LM)
 ((gQ x0 mH (x0.length:Int)).bind λ _ =>
 (bd (O:=((List Int) × Int)) (λ (ix:((List Int) × Int × Int)) =>
 ae (decide (ix.2.2 < ((ix.1.drop mH.toNat).length:Int)))
 ((idx (ix.1.drop mH.toNat) ix.2.2).bind λ wG =>
 (idx (ix.1.drop mH.toNat) (i64 (ix.2.2 - 1))).bind λ LN =>
 ae (wG != LN)
 ((idx (ix.1.drop mH.toNat) ix.2.2).bind λ ue =>
 (idx ix.1 ix.2.1).bind λ _ =>
 some (.inl (ix.1.set ix.2.1.toNat ue,i64 (ix.2.1+1),i64 (ix.2.2+1))))
 (some (.inl (ix.1,ix.2.1,i64 (ix.2.2+1)))))
 (some (.inr (ix.1,ix.2.1)))) (x0,mH,1)).bind (λ (vC:((List Int) × Int)) =>
 (gQ vC.1 vC.2 (vC.1.length:Int)).bind λ _ =>
 (gQ (qc vC.1 vC.2.toNat) 0 vC.2).bind λ Sy =>
 some (.inr (.inr Sy))))
 (some (.inl (i64 (mH+1)))))
 (some (.inr (.inl ())))) 1).bind (Sum.elim (λ (_:Unit) =>
 some x0)
  (λ q=>some q)))
noncomputable def xD(x0:di)(x1:(bt→Option Int)):Option (List Int) :=
 (bd (O:=(List Int)) (λ (oy:((List Int) × Int)) =>
 ae (decide (oy.2 < (x0.eB.length:Int)))
 ((idx x0.eB oy.2).bind λ e7 =>
 (x1 e7).bind λ e9 =>
 (cV oy.1 [e9]).bind λ fA =>
 some (.inl (fA,i64 (oy.2+1))))
 (some (.inr oy.1))) ([],0)).bind (λ (D5:(List Int)) =>
 (z9 D5).bind λ gR =>
 (Aa gR).bind λ mP =>
 some mP)
noncomputable def EJ(x0:bt)(x1:Int):Option Int :=
 (idx x0.weights x1).bind λ eT =>
 some eT
noncomputable def pN(x0:aj)(x1:Int):Option ((List Int) × Int) :=
 (nv x0 (λ y=>EI y x1)).bind λ e6 =>
 ae (e6.2 != 0)
 (some ([],e6.2))
 ((xD e6.1 (λ y=>EJ y x1)).bind λ fv =>
 some (fv,0))
noncomputable def oI(x0:aj):Option (Int × Int) :=
 (mB x0).bind λ nG =>
 ae (nG != 0)
 (some (0,nG))
 ((qE (dq (λ (_:bt) (jN:Int)=>((some (.inl (i64 (jN+1)))):Option (Int ⊕ Empty)))) (⟨x0.aB,⟨x0.aa.ai,x0.aa.ak⟩,x0.ao,x0.Out,x0.aT⟩:aj) (.inl 0)).bind (Sum.elim (λ (jN:Int) =>
 some (jN,0))
  (λ (o:Empty)=>o.elim)))
noncomputable def uB(x0:Int)(x1:Int):Option Reach :=
 some (⟨x0,x1⟩:Reach)
noncomputable def Ak(x0:Int):Option Reach :=
 (uB x0 x0).bind λ eT =>
 some eT
noncomputable def EV(x0:Int):Option Bool :=
 (mA x0 0 99).bind λ cF =>
 some (!cF)
noncomputable def ET(x0:aj)(x1:cR):Option (bt × Int) :=
 (mA x1.aa (-999) 999).bind λ fx =>
 ae (!fx)
 (some ((⟨0,[0,0,0,0,0]⟩:bt),1))
 (ae ((x1.eU.length:Int) != (x0.ao.length:Int))
 (some ((⟨0,[0,0,0,0,0]⟩:bt),2))
 ((Ab x1.eU (λ y=>EV y)).bind λ eM =>
 ae eM
 (some ((⟨0,[0,0,0,0,0]⟩:bt),1))
 (some ((⟨x1.aa,fC [0,0,0,0,0] x1.eU⟩:bt),0))))
noncomputable def yH(x0:aj)(x1:cR)(x2:(List Int)):Option (Int × Int) :=
 (mB x0).bind λ kN =>
 ae (kN != 0)
 (some (0,kN))
 ((ET x0 x1).bind λ fZ =>
 ae (fZ.2 != 0)
 (some (0,fZ.2))
 ((xE x2 (x0.ao.length:Int)).bind λ iV =>
 ae (iV != 0)
 (some (0,iV))
 ((jK [false,false,false,false,false] x2).bind λ uj =>
 (pM x0 fZ.1 uj).bind λ ey =>
 some (ey,0))))
noncomputable def Gt(x0:aj):Option ((List Int) × Int) :=
 (mB x0).bind λ nG =>
 ae (nG != 0)
 (some ([],nG))
 ((jK [false,false,false,false,false] x0.Out).bind λ fv =>
 (wF (⟨x0.aB,⟨x0.aa.ai,x0.aa.ak⟩,x0.ao,x0.Out,x0.aT⟩:aj) fv).bind λ iU =>
 some (iU,0))
noncomputable def pQ(x0:aj)(x1:(List Int)):Option Int :=
 (xE x1 (x0.ao.length:Int)).bind λ eT =>
 some eT
noncomputable def Bj(x0:(List Int)):Option (List Int) :=
 some x0
noncomputable def EU(x0:bt)(x1:di)(x2:(List Int)):Option Bool :=
 (jK [false,false,false,false,false] x2).bind λ fg =>
 (pM x1.book x0 fg).bind λ gm =>
 (wj x1.book gm).bind λ fX =>
 some fX
noncomputable def we(x0:aj)(x1:(List Int)):Option (Int × Int) :=
 (Bj x1).bind λ eL =>
 (nv x0 (λ y=>pQ y eL)).bind λ fv =>
 ae (fv.2 != 0)
 (some (0,fv.2))
 ((A4 fv.1 (λ y=>EU y fv.1 x1)).bind λ dc =>
 some (dc,0))
noncomputable def wx(x0:aj)(x1:bV):Option aj :=
 (cV [] x0.aT).bind λ iU =>
 (cV iU [x1]).bind λ Ez =>
 some (⟨x0.aB,⟨x0.aa.ai,x0.aa.ak⟩,x0.ao,x0.Out,Ez⟩:aj)
noncomputable def m64(x0:aj)(x1:Int):Option aj :=
 (cV [] x0.Out).bind λ gO =>
 (cV gO [x1]).bind λ fv =>
 some (⟨x0.aB,⟨x0.aa.ai,x0.aa.ak⟩,x0.ao,fv,x0.aT⟩:aj)
noncomputable def Dz(x0:bt)(x1:di)(x2:(List Int)):Option Int :=
 (jK [false,false,false,false,false] x2).bind λ gZ =>
 (pM x1.book x0 gZ).bind λ fg =>
 some fg
noncomputable def ov(x0:aj)(x1:(List Int)):Option (Reach × Int) :=
 (Bj x1).bind λ oC =>
 (nv x0 (λ y=>pQ y oC)).bind λ fw =>
 ae (fw.2 != 0)
 (some ((⟨0,0⟩:Reach),fw.2))
 ((xD fw.1 (λ y=>Dz y fw.1 x1)).bind λ fx =>
 (idx fx 0).bind λ qP =>
 (idx fx (i64 ((fx.length:Int) - 1))).bind λ AX =>
 some ((⟨qP,AX⟩:Reach),0))
noncomputable def K0  : Option aj :=
 (uB 20 21).bind λ e6 =>
 (Ak 30).bind λ gO =>
 (Ak 10).bind λ eL =>
 some (⟨62,⟨0,0⟩,[(⟨⟨#[103,117,110]⟩,(-3),⟨e6.ai,e6.ak⟩,[]⟩:cE),(⟨⟨#[99,104,101,115,116]⟩,2,⟨gO.ai,gO.ak⟩,[]⟩:cE),(⟨⟨#[97,110,99,104,111,114]⟩,1,⟨eL.ai,eL.ak⟩,[0]⟩:cE)],[],[]⟩:aj)
noncomputable def wk(x0:(List Int))(x1:(List Int)):Option Bool :=
 (bd (O:=(Unit ⊕ Bool)) (λ (oA:Int) =>
 ae (decide (oA < (x1.length:Int)))
 ((((ae (decide (oA ≥ (x0.length:Int)))
 (some true)
 ((idx x0 oA).bind λ ur =>
 (idx x1 oA).bind λ oH =>
 some (decide (ur < oH)))):Option Bool)).bind (λ (sd:Bool) =>
 ae sd
 (some (.inr (.inr true)))
 ((idx x0 oA).bind λ pD =>
 (idx x1 oA).bind λ j5 =>
 ae (decide (pD > j5))
 (some (.inr (.inr false)))
 (some (.inl (i64 (oA+1)))))))
 (some (.inr (.inl ())))) 0).bind (Sum.elim (λ (_:Unit) =>
 some false)
  (λ q=>some q))
noncomputable def pR(x0:(List Int))(x1:(List Int)):Option Bool :=
 (wk x0 x1).bind λ eT =>
 ae (!eT)
 ((wk x1 x0).bind λ fg =>
 some (!fg))
 (some false)
noncomputable def tC(x0:(List Int))(x1:(List Int)):Option Bool :=
 (pR x0 x1).bind λ cF =>
 some cF
noncomputable def lf  : Option Bool :=
 (K0).bind λ bW =>
 (m64 bW 2).bind λ nF =>
 (wx nF (⟨1,0⟩:bV)).bind λ jS =>
 (yH bW (⟨0,[21,30,10]⟩:cR) [1]).bind λ qT =>
 (oI bW).bind λ Ep =>
 (pN bW 0).bind λ r9 =>
 (ov bW [2]).bind λ qM =>
 (we bW [0]).bind λ Er =>
 (we bW [1,2]).bind λ Es =>
 (Gt bW).bind λ Et =>
 (Gq bW).bind λ Eu =>
 (oI jS).bind λ Ev =>
 (((ae (qT.2 != 0)
 (some true)
 (ae (Ep.2 != 0)
 (some true)
 (ae (r9.2 != 0)
 (some true)
 (ae (qM.2 != 0)
 (some true)
 (ae (Er.2 != 0)
 (some true)
 (ae (Es.2 != 0)
 (some true)
 (ae (Et.2 != 0)
 (some true)
 (ae (Eu.2 != 0)
 (some true)
 (some (Ev.2 != 0)))))))))):Option Bool)).bind (λ (GB:Bool) =>
 ae GB
 (some false)
 ((((ae (qT.1 != (-53))
 (some true)
 (ae (Ep.1 != 2)
 (some true)
 ((tC r9.1 [20,21]).bind λ gq =>
 ae (!gq)
 (some true)
 ((uB (-3) 0).bind λ Bz =>
 ae (!(yM qM.1 Bz == true))
 (some true)
 (ae (Er.1 != 1)
 (some true)
 (ae (Es.1 != 0)
 (some true)
 ((tC Et.1 [1,2]).bind λ wG =>
 ae (!wG)
 (some true)
 ((tC Eu.1 [1,2]).bind λ ue =>
 ae (!ue)
 (some true)
 (some (Ev.1 != 1)))))))))):Option Bool)).bind (λ (GC:Bool) =>
 ae GC
 (some false)
 ((oM bW [2,0,1]).bind λ rZ =>
 (oM bW [2,1,0]).bind λ vV =>
 (oM bW [0,1,2]).bind λ ym =>
 (qS bW).bind λ pE =>
 (yG bW).bind λ vW =>
 (wc bW).bind λ qN =>
 (qS jS).bind λ uf =>
 (((ae (rZ.2 != 0)
 (some true)
 (ae (vV.2 != 0)
 (some true)
 (ae (ym.2 != 7)
 (some true)
 (ae (pE.2 != 0)
 (some true)
 (ae (vW.2.2 != 0)
 (some true)
 (ae (qN.2.2 != 0)
 (some true)
 (some (uf.2 != 0)))))))):Option Bool)).bind (λ (jL:Bool) =>
 ae jL
 (some false)
 ((((ae (rZ.1 != 1)
 (some true)
 (ae (vV.1 != 0)
 (some true)
 (ae (pE.1 != 1)
 (some true)
 (ae (!vW.2.1)
 (some true)
 ((tC vW.1 [2,0,1]).bind λ QS =>
 ae (!QS)
 (some true)
 ((tC qN.1 [2,0,1]).bind λ QT =>
 ae (!QT)
 (some true)
 (ae (qN.2.1 != 60)
 (some true)
 (some (uf.1 != 2))))))))):Option Bool)).bind (λ (GG:Bool) =>
 ae GG
 (some false)
 ((Gs bW).bind λ AU =>
 (DV bW 0).bind λ QU =>
 (DV bW 2).bind λ vX =>
 (Bm vX.1 (⟨1,2⟩:bV)).bind λ QV =>
 (wx bW (⟨0,1⟩:bV)).bind λ Hl =>
 (wx Hl (⟨0,2⟩:bV)).bind λ ug =>
 (Bl ug).bind λ Ex =>
 (Ak 21).bind λ Hn =>
 (Bn bW 0 Hn).bind λ Ey =>
 (qS Ey.1).bind λ Ho =>
 ae (AU.2.2 == 0)
 (ae (QU.2 == 7)
 (ae (vX.2 == 0)
 (ae (QV.2 == 9)
 (ae (Ex.2 == 0)
 (ae (Ey.2 == 0)
 (ae (Ho.2 == 0)
 (ae (AU.1 == 0)
 (ae (AU.2.1 == 1)
 ((tC Ex.1 [0]).bind λ QW =>
 ae QW
 (some (Ho.1 == 1))
 (some false))
 (some false))
 (some false))
 (some false))
 (some false))
 (some false))
 (some false))
 (some false))
 (some false))
 (some false)))))))))
noncomputable def lp(x0:Int)(x1:Int)(x2:Int):Option Bool :=
 ae (decide (x1≤x0))
 (some (decide (x0≤x2)))
 (some false)
noncomputable def Gg(x0:Reach)(x1:Int)(x2:Int):Option Bool :=
 ae (decide (x1≤x0.ai))
 (ae (decide (x0.ai≤x0.ak))
 (some (decide (x0.ak≤x2)))
 (some false))
 (some false)
noncomputable def nP(x0:(List Int))(x1:Int):Option Bool :=
 (bd (O:=(Unit ⊕ Bool)) (λ (dV:Int) =>
 ae (decide (dV < (x0.length:Int)))
 ((idx x0 dV).bind λ iV =>
 ae (iV == x1)
 (some (.inr (.inr true)))
 (some (.inl (i64 (dV+1)))))
 (some (.inr (.inl ())))) 0).bind (Sum.elim (λ (_:Unit) =>
 some false)
  (λ q=>some q))
noncomputable def Dy(x0:aj)(x1:Int):Option Bool :=
 (lp x1 0 (i64 ((x0.ao.length:Int) - 1))).bind λ eT =>
 some eT
noncomputable def DE(x0:aj)(x1:(List Int))(x2:Int):Option Bool :=
 (nP x1 x2).bind λ j4 =>
 ae j4
 (some false)
 ((bd (O:=(Unit ⊕ Bool)) (λ (eP:Int) =>
 ae (decide (eP < (x0.ao.length:Int)))
 ((nP x1 eP).bind λ gR =>
 ae (!gR)
 ((idx x0.ao eP).bind λ nK =>
 (nP nK.On x2).bind λ kR =>
 ae kR
 (some (.inr (.inr false)))
 (some (.inl (i64 (eP+1)))))
 (some (.inl (i64 (eP+1)))))
 (some (.inr (.inl ())))) 0).bind (Sum.elim (λ (_:Unit) =>
 some true)
  (λ q=>some q)))
noncomputable def Gh(x0:aj)(x1:(List Int))(x2:(List Int)):Option Int :=
 (cV [] x1).bind λ x89 =>
 (bd (O:=(Unit ⊕ Int)) (λ (iy:((List Int) × Int)) =>
 ae (decide (iy.2 < (x2.length:Int)))
 ((idx x2 iy.2).bind λ yV =>
 (Dy x0 yV).bind λ EP =>
 ae (!EP)
 (some (.inr (.inr 6)))
 ((idx x2 iy.2).bind λ j8 =>
 (nP iy.1 j8).bind λ mM =>
 ae mM
 (some (.inr (.inr 5)))
 ((idx x2 iy.2).bind λ LJ =>
 (DE x0 iy.1 LJ).bind λ E3 =>
 ae (!E3)
 (some (.inr (.inr 7)))
 ((idx x2 iy.2).bind λ iD =>
 (cV iy.1 [iD]).bind λ QL =>
 some (.inl (QL,i64 (iy.2+1)))))))
 (some (.inr (.inl ())))) (x89,0)).bind (Sum.elim (λ (_:Unit) =>
 some 0)
  (λ q=>some q))
noncomputable def DW(x0:(List Int))(x1:Int):Option Int :=
 (bd (O:=(Unit ⊕ Int)) (λ (vG:Int) =>
 ae (decide (vG < (x0.length:Int)))
 ((idx x0 vG).bind λ sj =>
 (lp sj 0 (i64 (x1 - 1))).bind λ rf =>
 ae (!rf)
 (some (.inr (.inr 6)))
 (ae (decide (vG > 0))
 ((idx x0 vG).bind λ iG =>
 (idx x0 (i64 (vG - 1))).bind λ uu =>
 ae (decide (iG≤uu))
 (some (.inr (.inr 7)))
 (some (.inl (i64 (vG+1)))))
 (some (.inl (i64 (vG+1))))))
 (some (.inr (.inl ())))) 0).bind (Sum.elim (λ (_:Unit) =>
 some 0)
  (λ q=>some q))
noncomputable def DJ(x0:Int):Option Bool :=
 (lp (i64 x0) 97 122).bind λ cF =>
 some cF
noncomputable def Gl(x0:Int):Option Bool :=
 (lp (i64 x0) 48 57).bind λ cF =>
 some cF
noncomputable def KW(x0:ByteArray):Option Bool :=
 ((((lp (x0.size:Int) 1 12).bind λ kO =>
 ae (!kO)
 (some true)
 ((tW x0 0).bind λ ll =>
 (DJ ll).bind λ gP =>
 some (!gP))):Option Bool)).bind (λ (yx:Bool) =>
 ae yx
 (some false)
 ((bd (O:=(Unit ⊕ Bool)) (λ (pv:Int) =>
 ae (decide (pv < (x0.size:Int)))
 ((tW x0 pv).bind λ jx =>
 (DJ jx).bind λ pU =>
 ae (!pU)
 ((tW x0 pv).bind λ l7 =>
 (Gl l7).bind λ wC =>
 ae (!wC)
 (some (.inr (.inr false)))
 (some (.inl (i64 (pv+1)))))
 (some (.inl (i64 (pv+1)))))
 (some (.inr (.inl ())))) 1).bind (Sum.elim (λ (_:Unit) =>
 some true)
  (λ q=>some q))))
noncomputable def KU(x0:aj):Option Int :=
 (lp (x0.ao.length:Int) 1 5).bind λ aiM =>
 ae (!aiM)
 (some 2)
 ((bd (O:=(Unit ⊕ Int)) (λ (rR:Int) =>
 ae (decide (rR < (x0.ao.length:Int)))
 ((idx x0.ao rR).bind λ iT =>
 (KW iT.Name).bind λ aiT =>
 ae (!aiT)
 (some (.inr (.inr 4)))
 ((bd (O:=(Unit ⊕ Int)) (λ (GQ:Int) =>
 ae (decide (GQ < rR))
 ((idx x0.ao GQ).bind λ ue =>
 ae (ue.Name.toList == iT.Name.toList)
 (some (.inr (.inr 5)))
 (some (.inl (i64 (GQ+1)))))
 (some (.inr (.inl ())))) 0).bind (Sum.elim (λ (_:Unit) =>
 ((((lp iT.dJ (-9) 9).bind λ Hj =>
 ae (!Hj)
 (some true)
 ((Gg iT.Weight 1 99).bind λ vV =>
 ae (!vV)
 (some true)
 (some (decide (i64 (iT.Weight.ak - iT.Weight.ai) ≥ 3))))):Option Bool)).bind (λ (PL:Bool) =>
 ae PL
 (some (.inr (.inr 1)))
 ((DW iT.On rR).bind λ pE =>
 ae (pE != 0)
 (some (.inr (.inr pE)))
 (some (.inl (i64 (rR+1)))))))
  (λ q=>some (.inr (.inr q))))))
 (some (.inr (.inl ())))) 0).bind (Sum.elim (λ (_:Unit) =>
 some 0)
  (λ q=>some q)))
noncomputable def uF(x0:aj):Option Int :=
 ((((lp x0.aB 0 9999).bind λ MA =>
 ae (!MA)
 (some true)
 ((Gg x0.aa (-999) 999).bind λ rf =>
 ae (!rf)
 (some true)
 (some (decide (i64 (x0.aa.ak - x0.aa.ai) ≥ 3))))):Option Bool)).bind (λ (pn:Bool) =>
 ae pn
 (some 1)
 ((KU x0).bind λ iG =>
 ae (iG != 0)
 (some iG)
 ((Gh x0 [] x0.Out).bind λ pU =>
 ae (pU != 0)
 (some pU)
 (ae (decide ((x0.aT.length:Int) > 4))
 (some 2)
 ((bd (O:=(Unit ⊕ Int)) (λ (eJ:Int) =>
 ae (decide (eJ < (x0.aT.length:Int)))
 ((idx x0.aT eJ).bind λ aa5 =>
 (lp aa5.dd 0 (x0.Out.length:Int)).bind λ q7 =>
 ae (!q7)
 (some (.inr (.inr 6)))
 ((idx x0.aT eJ).bind λ Bq =>
 (lp Bq.dM 0 2).bind λ dI =>
 ae (!dI)
 (some (.inr (.inr 1)))
 (some (.inl (i64 (eJ+1))))))
 (some (.inr (.inl ())))) 0).bind (Sum.elim (λ (_:Unit) =>
 some 0)
  (λ q=>some q)))))))
noncomputable def uD(x0:aj)(x1:cR)(x2:(List Int)):Option Int :=
 (bd (O:=Int) (λ (du:(Int × Int)) =>
 ae (decide (du.2 < (x0.ao.length:Int)))
 ((nP x2 du.2).bind λ eN =>
 ae (!eN)
 ((idx x0.ao du.2).bind λ kh =>
 (idx x1.eU du.2).bind λ ll =>
 some (.inl (i64 (du.1+(i64 (kh.dJ * ll))),i64 (du.2+1))))
 (some (.inl (du.1,i64 (du.2+1)))))
 (some (.inr du.1))) (x1.aa,0)).bind (λ (iw:Int) =>
 some iw)
noncomputable def Mj(x0:aj)(x1:Int):Option Bool :=
 ae (decide (x1 > x0.aB))
 (some true)
 (some (decide (x1 < i64 (0 - x0.aB))))
noncomputable def L1(x0:Int):Option Int :=
 ae (decide (x0 > 0))
 (some 2)
 (ae (decide (x0 < 0))
 (some 1)
 (some 0))
noncomputable def R8(x0:aj)(x1:cR):Option Bool :=
 (bd (O:=(Unit ⊕ Bool)) (λ (dr:Int) =>
 ae (decide (dr≤(x0.Out.length:Int)))
 ((gQ x0.Out 0 dr).bind λ uu =>
 (uD x0 x1 uu).bind λ pT =>
 (Mj x0 pT).bind λ jx =>
 ae jx
 (some (.inr (.inr false)))
 (some (.inl (i64 (dr+1)))))
 (some (.inr (.inl ())))) 0).bind (Sum.elim (λ (_:Unit) =>
 (bd (O:=(Unit ⊕ Bool)) (λ (GR:Int) =>
 ae (decide (GR < (x0.aT.length:Int)))
 ((idx x0.aT GR).bind λ oJ =>
 (gQ x0.Out 0 oJ.dd).bind λ sf =>
 (uD x0 x1 sf).bind λ QJ =>
 (L1 QJ).bind λ LI =>
 ae (LI != oJ.dM)
 (some (.inr (.inr false)))
 (some (.inl (i64 (GR+1)))))
 (some (.inr (.inl ())))) 0).bind (Sum.elim (λ (_:Unit) =>
 some true)
  (λ q=>some q)))
  (λ q=>some q))
noncomputable def Mi(x0:aj):Option (List cR) :=
 (bd (O:=(List (List Int))) (λ (oz:((List (List Int)) × Int)) =>
 ae (decide (oz.2 < (x0.ao.length:Int)))
 ((bd (O:=(List (List Int))) (λ (tU:((List (List Int)) × Int)) =>
 ae (decide (tU.2 < (oz.1.length:Int)))
 ((idx x0.ao oz.2).bind λ ai4 =>
 (bd (O:=(List (List Int))) (λ (vI:((List (List Int)) × Int)) =>
 (idx x0.ao oz.2).bind λ ai5 =>
 ae (decide (vI.2≤ai5.Weight.ak))
 ((idx oz.1 tU.2).bind λ ai6 =>
 (cV [] ai6).bind λ ai7 =>
 (cV ai7 [vI.2]).bind λ abr =>
 (cV vI.1 [abr]).bind λ ai8 =>
 some (.inl (ai8,i64 (vI.2+1))))
 (some (.inr vI.1))) (tU.1,ai4.Weight.ai)).bind (λ (PX:(List (List Int))) =>
 some (.inl (PX,i64 (tU.2+1)))))
 (some (.inr tU.1))) ([],0)).bind (λ (PT:(List (List Int))) =>
 some (.inl (PT,i64 (oz.2+1)))))
 (some (.inr oz.1))) ([[]],0)).bind (λ (Lb:(List (List Int))) =>
 (bd (O:=(List cR)) (λ (px:((List cR) × Int)) =>
 ae (decide (px.2≤x0.aa.ak))
 ((bd (O:=(List cR)) (λ (tV:((List cR) × Int)) =>
 ae (decide (tV.2 < (Lb.length:Int)))
 ((idx Lb tV.2).bind λ LR =>
 (R8 x0 (⟨px.2,LR⟩:cR)).bind λ ajb =>
 ae ajb
 ((cV tV.1 [(⟨px.2,LR⟩:cR)]).bind λ ajc =>
 some (.inl (ajc,i64 (tV.2+1))))
 (some (.inl (tV.1,i64 (tV.2+1)))))
 (some (.inr tV.1))) (px.1,0)).bind (λ (P1:(List cR)) =>
 some (.inl (P1,i64 (px.2+1)))))
 (some (.inr px.1))) ([],x0.aa.ai)).bind (λ (PY:(List cR)) =>
 some PY))
noncomputable def EW(x0:aj)(x1:Int):Option ((List cR) × Int) :=
 (uF x0).bind λ eL =>
 ae (eL != 0)
 (some ([],eL))
 (ae (x1 != 0)
 (some ([],x1))
 ((Mi x0).bind λ fw =>
 ae ((fw.length:Int) == 0)
 (some ([],9))
 (some (fw,0))))
noncomputable def HX(x0:aj)(x1:(List Int)):Option (List Int) :=
 (bd (O:=(List Int)) (λ (lT:((List Int) × Int)) =>
 ae (decide (lT.2 < (x0.ao.length:Int)))
 ((DE x0 x1 lT.2).bind λ nJ =>
 ae nJ
 ((cV lT.1 [lT.2]).bind λ kh =>
 some (.inl (kh,i64 (lT.2+1))))
 (some (.inl (lT.1,i64 (lT.2+1)))))
 (some (.inr lT.1))) ([],0)).bind (λ (kG:(List Int)) =>
 some kG)
noncomputable def RY(x0:aj)(x1:(List Int)):Option Int :=
 (Gh x0 x0.Out x1).bind λ fX =>
 ae (fX != 0)
 (some fX)
 (ae (i64 ((x0.Out.length:Int)+(x1.length:Int)) != (x0.ao.length:Int))
 (some 2)
 (some 0))
noncomputable def RZ(x0:Int)(x1:Int):Option Int :=
 ae (x0 == 0)
 (some 2)
 (ae (x0 == x1)
 (some 1)
 (some 0))
noncomputable def Ss(x0:(List Int))(x1:(List Int)):Option Bool :=
 ae (decide ((x0.length:Int) < (x1.length:Int)))
 (some true)
 (ae ((x0.length:Int) == (x1.length:Int))
 ((wk x0 x1).bind λ fg =>
 some fg)
 (some false))
noncomputable def uE(x0:aj)(x1:aj):Option Bool :=
 (((ae (x0.aB != x1.aB)
 (some true)
 (ae (!(yM x0.aa x1.aa == true))
 (some true)
 (ae ((x0.ao.length:Int) != (x1.ao.length:Int))
 (some true)
 (ae ((x0.aT.length:Int) != (x1.aT.length:Int))
 (some true)
 ((pR x0.Out x1.Out).bind λ Ic =>
 some (!Ic)))))):Option Bool)).bind (λ (P2:Bool) =>
 ae P2
 (some false)
 ((bd (O:=(Unit ⊕ Bool)) (λ (Ax:Int) =>
 ae (decide (Ax < (x0.ao.length:Int)))
 ((idx x0.ao Ax).bind λ j8 =>
 (idx x1.ao Ax).bind λ mM =>
 ae (!(j8.Name.toList == mM.Name.toList))
 (some (.inr (.inr false)))
 (ae (j8.dJ != mM.dJ)
 (some (.inr (.inr false)))
 (ae (!(yM j8.Weight mM.Weight == true))
 (some (.inr (.inr false)))
 ((pR j8.On mM.On).bind λ aiN =>
 ae (!aiN)
 (some (.inr (.inr false)))
 (some (.inl (i64 (Ax+1))))))))
 (some (.inr (.inl ())))) 0).bind (Sum.elim (λ (_:Unit) =>
 (bd (O:=(Unit ⊕ Bool)) (λ (D9:Int) =>
 ae (decide (D9 < (x0.aT.length:Int)))
 ((idx x0.aT D9).bind λ uG =>
 (idx x1.aT D9).bind λ Eo =>
 ae (!(ab0 uG Eo == true))
 (some (.inr (.inr false)))
 (some (.inl (i64 (D9+1)))))
 (some (.inr (.inl ())))) 0).bind (Sum.elim (λ (_:Unit) =>
 some true)
  (λ q=>some q)))
  (λ q=>some q))))
noncomputable def R9(x0:aj)(x1:Int)(x2:Reach):Option aj :=
 (cV [] x0.ao).bind λ fv =>
 (idx fv x1).bind λ iU =>
 some (⟨x0.aB,⟨x0.aa.ai,x0.aa.ak⟩,fv.set x1.toNat (⟨iU.Name,iU.dJ,⟨x2.ai,x2.ak⟩,iU.On⟩:cE),x0.Out,x0.aT⟩:aj)
noncomputable def Sr(x0:Reach)(x1:Reach):Option Reach :=
 some (⟨fH x0.ai [x1.ai],j7 x0.ak [x1.ak]⟩:Reach)
noncomputable def A5(x0:aj):Option Bool :=
 (Gn x0).bind λ fg =>
 ae (!fg)
 ((uF x0).bind λ fX =>
 some (fX == 0))
 (some false)
noncomputable def Bo(x0:(List Int))(x1:Int):Option Int :=
 ae (decide (x1 < (x0.length:Int)))
 ((idx x0 x1).bind λ eT =>
 some (i64 eT))
 (some 0)
noncomputable def yv(x0:Int)(x1:Int):Option (List Int) :=
 (bd (O:=(List Int)) (λ (du:((List Int) × Int)) =>
 ae (decide (du.2 < x1))
 ((qV .u8 x0 du.2).bind λ kh =>
 (pL .and .u8 kh 1).bind λ ll =>
 ae (ll == 1)
 ((cV du.1 [du.2]).bind λ e7 =>
 some (.inl (e7,i64 (du.2+1))))
 (some (.inl (du.1,i64 (du.2+1)))))
 (some (.inr du.1))) ([],0)).bind (λ (iw:(List Int)) =>
 some iw)
noncomputable def wD(x0:(List Int)):Option (List Int) :=
 (bd (O:=(List Int)) (λ (jq:((List Int) × Int)) =>
 ae (decide (jq.2 < (x0.length:Int)))
 ((bd (O:=Int) (λ (nS:Int) =>
 ae (decide (nS < (jq.1.length:Int)))
 ((idx jq.1 nS).bind λ H3 =>
 (idx x0 jq.2).bind λ Mt =>
 ae (decide (H3 < Mt))
 (some (.inl (i64 (nS+1))))
 (some (.inr nS)))
 (some (.inr nS))) 0).bind (λ (Ap:Int) =>
 (((ae (Ap == (jq.1.length:Int))
 (some true)
 ((idx jq.1 Ap).bind λ iH =>
 (idx x0 jq.2).bind λ lj =>
 some (iH != lj))):Option Bool)).bind (λ (PH:Bool) =>
 ae PH
 ((gQ jq.1 0 Ap).bind λ rY =>
 (cV [] rY).bind λ QP =>
 (idx x0 jq.2).bind λ Hh =>
 (cV QP [Hh]).bind λ aiQ =>
 (gQ jq.1 Ap (jq.1.length:Int)).bind λ aiR =>
 (cV aiQ aiR).bind λ aa6 =>
 some (.inl (aa6,i64 (jq.2+1))))
 (some (.inl (jq.1,i64 (jq.2+1)))))))
 (some (.inr jq.1))) ([],0)).bind (λ (PE:(List Int)) =>
 some PE)
noncomputable def A6(x0:aj)(x1:(List Int)):Option (List Int) :=
 (cV [] x0.Out).bind λ eO =>
 (bd (O:=((List Int) ⊕ (List Int))) (λ (dr:((List Int) × (List Int))) =>
 ae (decide ((dr.2.length:Int) < (x0.ao.length:Int)))
 ((HX x0 dr.2).bind λ nQ =>
 ae ((nQ.length:Int) == 0)
 (some (.inr (.inr dr.1)))
 ((Bo x1 (i64 (6+(dr.1.length:Int)))).bind λ yy =>
 (q6 yy (nQ.length:Int)).bind λ pD =>
 (idx nQ pD).bind λ j5 =>
 (cV dr.1 [j5]).bind λ oJ =>
 (cV dr.2 [j5]).bind λ sf =>
 some (.inl (oJ,sf))))
 (some (.inr (.inl dr.1)))) ([],eO)).bind (Sum.elim (λ (tL:(List Int)) =>
 some tL)
  (λ q=>some q))
noncomputable def Sa(x0:aj)(x1:(List Int)):Option Bool :=
 (RY x0 x1).bind λ eT =>
 some (eT == 0)
noncomputable def Mk(x0:aj)(x1:(List Int)):Option (Int × Bool) :=
 (wD x0.Out).bind λ mO =>
 (bd (O:=(Int ⊕ (Int × Bool))) (λ (dW:(Int × (List Int) × Int)) =>
 ae (decide (dW.2.2 < (x1.length:Int)))
 ((cV [] dW.2.1).bind λ mZ =>
 (idx x1 dW.2.2).bind λ yU =>
 (cV mZ [yU]).bind λ nQ =>
 (wD nQ).bind λ lz =>
 (ov x0 lz).bind λ oH =>
 ae (oH.2 != 0)
 (some (.inr (.inr (0,false))))
 (some (.inl (fH dW.1 [oH.1.ak,i64 (0 - oH.1.ai)],lz,i64 (dW.2.2+1)))))
 (some (.inr (.inl dW.1)))) (0,mO,0)).bind (Sum.elim (λ (nz:Int) =>
 some (nz,true))
  (λ q=>some q))
noncomputable def m8(x0:aj)(x1:(List Int)):Option Bool :=
 (A5 (⟨9999,⟨x0.aa.ai,x0.aa.ak⟩,x0.ao,x0.Out,[]⟩:aj)).bind λ j9 =>
 ae (!j9)
 ((lf).bind λ gD =>
 some gD)
 ((wc (⟨9999,⟨x0.aa.ai,x0.aa.ak⟩,x0.ao,x0.Out,[]⟩:aj)).bind λ kg =>
 (((ae (kg.2.2 != 0)
 (some true)
 ((Sa (⟨9999,⟨x0.aa.ai,x0.aa.ak⟩,x0.ao,x0.Out,[]⟩:aj) kg.1).bind λ kh =>
 ae (!kh)
 (some true)
 ((lp kg.2.1 0 9999).bind λ gP =>
 some (!gP)))):Option Bool)).bind (λ (yx:Bool) =>
 ae yx
 (some false)
 ((Mk (⟨9999,⟨x0.aa.ai,x0.aa.ak⟩,x0.ao,x0.Out,[]⟩:aj) kg.1).bind λ e9 =>
 (A6 (⟨9999,⟨x0.aa.ai,x0.aa.ak⟩,x0.ao,x0.Out,[]⟩:aj) x1).bind λ eO =>
 (Mk (⟨9999,⟨x0.aa.ai,x0.aa.ak⟩,x0.ao,x0.Out,[]⟩:aj) eO).bind λ fA =>
 ae e9.2
 (ae fA.2
 (ae (e9.1 == kg.2.1)
 (ae (decide (fA.1 > kg.2.1))
 ((lf).bind λ BA =>
 some BA)
 (ae (fA.1 == kg.2.1)
 ((wk eO kg.1).bind λ Ig =>
 ae (!Ig)
 ((lf).bind λ oO =>
 some oO)
 (some false))
 (some false)))
 (some false))
 (some false))
 (some false))))
noncomputable def Rx(x0:(List Int))(x1:(List Int)):Option Bool :=
 (bd (O:=(Unit ⊕ Bool)) (λ (dL:Int) =>
 ae (decide (dL < (x0.length:Int)))
 ((idx x0 dL).bind λ ey =>
 (nP x1 ey).bind λ eM =>
 ae (!eM)
 (some (.inr (.inr false)))
 (some (.inl (i64 (dL+1)))))
 (some (.inr (.inl ())))) 0).bind (Sum.elim (λ (_:Unit) =>
 some true)
  (λ q=>some q))
noncomputable def Mb(x0:aj)(x1:aj)(x2:(List Int))(x3:(List Int))(x4:Int):Option Bool :=
 (oI x0).bind λ ll =>
 (oI x1).bind λ gP =>
 (pN x0 x4).bind λ mO =>
 (pN x1 x4).bind λ e7 =>
 (ov x0 x2).bind λ gA =>
 (ov x1 x2).bind λ eO =>
 (oM x0 x3).bind λ gR =>
 (oM x1 x3).bind λ mP =>
 (qS x0).bind λ nK =>
 (qS x1).bind λ kR =>
 (((ae (ll.2 != 0)
 (some true)
 (ae (gP.2 != 0)
 (some true)
 (ae (mO.2 != 0)
 (some true)
 (ae (e7.2 != 0)
 (some true)
 (ae (gA.2 != 0)
 (some true)
 (ae (eO.2 != 0)
 (some true)
 (ae (gR.2 != 0)
 (some true)
 (ae (mP.2 != 0)
 (some true)
 (ae (nK.2 != 0)
 (some true)
 (some (kR.2 != 0))))))))))):Option Bool)).bind (λ (pn:Bool) =>
 ae pn
 (some false)
 ((lp gP.1 1 ll.1).bind λ jv =>
 ae jv
 ((Rx e7.1 mO.1).bind λ iX =>
 ae iX
 (ae (decide (gA.1.ai≤eO.1.ai))
 (ae (decide (eO.1.ai≤eO.1.ak))
 (ae (decide (eO.1.ak≤gA.1.ak))
 (ae (gR.1 == 0)
 (some (decide (nK.1≤kR.1)))
 (ae (gR.1 == mP.1)
 (some (decide (nK.1≤kR.1)))
 (some false)))
 (some false))
 (some false))
 (some false))
 (some false))
 (some false)))
noncomputable def m10(x0:aj)(x1:bV)(x2:Int)(x3:Reach)(x4:(List Int))(x5:Int):Option Bool :=
 (A5 x0).bind λ qW =>
 ae (!qW)
 ((lf).bind λ lz =>
 some lz)
 ((yv x5 (x0.ao.length:Int)).bind λ ur =>
 (A6 x0 x4).bind λ oH =>
 (q6 (i64 x2) (x0.ao.length:Int)).bind λ Em =>
 (Bm x0 x1).bind λ qL =>
 (((ae (qL.2 == 0)
 ((wx x0 x1).bind λ q7 =>
 (uE qL.1 q7).bind λ ake =>
 ae (!ake)
 (some true)
 ((uF qL.1).bind λ Hg =>
 ae (Hg != 0)
 (some true)
 ((Mb x0 qL.1 ur oH Em).bind λ dI =>
 ae (!dI)
 (some true)
 (ae (qL.2 != 0)
 ((uE qL.1 (⟨0,⟨0,0⟩,[],[],[]⟩:aj)).bind λ EP =>
 some (!EP))
 (some false)))))
 (ae (qL.2 != 0)
 ((uE qL.1 (⟨0,⟨0,0⟩,[],[],[]⟩:aj)).bind λ akf =>
 some (!akf))
 (some false))):Option Bool)).bind (λ (aj4:Bool) =>
 ae aj4
 (some false)
 ((Bn x0 Em x3).bind λ qX =>
 ae (qX.2 != 0)
 ((((ae (qX.2 == 1)
 ((uE qX.1 (⟨0,⟨0,0⟩,[],[],[]⟩:aj)).bind λ alV =>
 ae alV
 ((lf).bind λ uG =>
 some uG)
 (some false))
 (ae (qX.2 == 9)
 ((uE qX.1 (⟨0,⟨0,0⟩,[],[],[]⟩:aj)).bind λ Mp =>
 ae Mp
 ((lf).bind λ E4 =>
 some E4)
 (some false))
 (some false))):Option Bool)).bind (λ (aj6:Bool) =>
 some aj6))
 ((idx x0.ao Em).bind λ fD =>
 (Sr fD.Weight x3).bind λ yW =>
 (R9 x0 Em yW).bind λ LL =>
 (uE qX.1 LL).bind λ alW =>
 ae alW
 ((uF qX.1).bind λ bW =>
 ae (bW == 0)
 ((Mb x0 qX.1 ur oH Em).bind λ nF =>
 ae nF
 ((lf).bind λ HC =>
 some HC)
 (some false))
 (some false))
 (some false)))))
noncomputable def Su(x0:(List Int))(x1:Int):Option (List Int) :=
 (bd (O:=(List Int)) (λ (gn:((List Int) × Int)) =>
 ae (decide (gn.2 < (x0.length:Int)))
 (ae (gn.2 != x1)
 ((idx x0 gn.2).bind λ dY =>
 (cV gn.1 [dY]).bind λ eN =>
 some (.inl (eN,i64 (gn.2+1))))
 (some (.inl (gn.1,i64 (gn.2+1)))))
 (some (.inr gn.1))) ([],0)).bind (λ (aKs:(List Int)) =>
 some aKs)
noncomputable def Sb(x0:aj):Option aj :=
 (uB (i64 (0 - x0.aa.ak)) (i64 (0 - x0.aa.ai))).bind λ qQ =>
 (bd (O:=(List cE)) (λ (xV:(Int × (List cE))) =>
 ae (decide (xV.1 < (x0.ao.length:Int)))
 ((idx x0.ao xV.1).bind λ jv =>
 (cV xV.2 [(⟨jv.Name,i64 (0 - jv.dJ),⟨jv.Weight.ai,jv.Weight.ak⟩,jv.On⟩:cE)]).bind λ qW =>
 some (.inl (i64 (xV.1+1),qW)))
 (some (.inr xV.2))) (0,[])).bind (λ (PV:(List cE)) =>
 (bd (O:=(List bV)) (λ (vF:(Int × (List bV))) =>
 ae (decide (vF.1 < (x0.aT.length:Int)))
 ((idx x0.aT vF.1).bind λ q7 =>
 (((ae (q7.dM != 0)
 (some (i64 (3 - q7.dM)))
 (some q7.dM)):Option Int)).bind (λ (K8:Int) =>
 (cV vF.2 [(⟨q7.dd,K8⟩:bV)]).bind λ Ie =>
 some (.inl (i64 (vF.1+1),Ie))))
 (some (.inr vF.2))) (0,[])).bind (λ (sd:(List bV)) =>
 some (⟨x0.aB,⟨qQ.ai,qQ.ak⟩,PV,x0.Out,sd⟩:aj)))
noncomputable def m14(x0:aj)(x1:(List Int))(x2:Int)(x3:Int):Option Bool :=
 (A5 x0).bind λ sj =>
 ae (!sj)
 ((lf).bind λ sv =>
 some sv)
 ((Sb x0).bind λ iG =>
 (yv x2 (x0.ao.length:Int)).bind λ uu =>
 (A6 x0 x1).bind λ pT =>
 (q6 (i64 x3) (x0.ao.length:Int)).bind λ jx =>
 (oI x0).bind λ l7 =>
 (oI iG).bind λ wC =>
 (pN x0 jx).bind λ nR =>
 (pN iG jx).bind λ yK =>
 (ov x0 uu).bind λ jv =>
 (ov iG uu).bind λ iX =>
 (oM x0 pT).bind λ mZ =>
 (oM iG pT).bind λ yU =>
 (((ae (l7.2 != 0)
 (some true)
 (ae (wC.2 != 0)
 (some true)
 (ae (l7.1 != wC.1)
 (some true)
 (ae (nR.2 != yK.2)
 (some true)
 (ae (jv.2 != iX.2)
 (some true)
 (ae (mZ.2 != yU.2)
 (some true)
 ((pR nR.1 yK.1).bind λ Mn =>
 ae (!Mn)
 (some true)
 ((uB (i64 (0 - jv.1.ak)) (i64 (0 - jv.1.ai))).bind λ alS =>
 ae (!(yM iX.1 alS == true))
 (some true)
 (some (mZ.1 != yU.1)))))))))):Option Bool)).bind (λ (aj3:Bool) =>
 ae aj3
 (some false)
 ((yG x0).bind λ Mo =>
 (yG iG).bind λ Hg =>
 (wc x0).bind λ Bq =>
 (wc iG).bind λ dI =>
 (qS x0).bind λ Ie =>
 (qS iG).bind λ yV =>
 ae (Mo.2.2 == Hg.2.2)
 (ae (Bq.2.2 == dI.2.2)
 (ae (Ie.2 == yV.2)
 (ae (Mo.2.1 == Hg.2.1)
 ((pR Mo.1 Hg.1).bind λ j8 =>
 ae j8
 ((pR Bq.1 dI.1).bind λ qX =>
 ae qX
 (ae (Bq.2.1 == dI.2.1)
 (ae (Ie.1 == yV.1)
 ((lf).bind λ E3 =>
 some E3)
 (some false))
 (some false))
 (some false))
 (some false))
 (some false))
 (some false))
 (some false))
 (some false))))
noncomputable def Sc(x0:aj):Option (Int × Int) :=
 (uF x0).bind λ fg =>
 ae (fg != 0)
 (some (0,fg))
 ((Mi x0).bind λ fX =>
 some ((fX.length:Int),0))
noncomputable def R7(x0:Bool):Option Int :=
 ae x0
 (some 0)
 (some 6)
noncomputable def Sd(x0:aj)(x1:Int):Option ((List Int) × Int) :=
 (Dy x0 x1).bind λ dB =>
 (R7 dB).bind λ lA =>
 (EW x0 lA).bind λ iV =>
 (bd (O:=(List Int)) (λ (dH:((List Int) × Int)) =>
 ae (decide (dH.2 < (iV.1.length:Int)))
 ((idx iV.1 dH.2).bind λ mO =>
 (idx mO.eU x1).bind λ e7 =>
 (cV dH.1 [e7]).bind λ e9 =>
 some (.inl (e9,i64 (dH.2+1))))
 (some (.inr dH.1))) ([],0)).bind (λ (mE:(List Int)) =>
 (wD mE).bind λ eO =>
 some (eO,iV.2))
noncomputable def Pj(x0:bt):Option Int :=
 some x0.df
noncomputable def L4(x0:aj):Option ((List Int) × Int) :=
 (nv x0 (λ y=>mC y)).bind λ fX =>
 ae (fX.2 != 0)
 (some ([],fX.2))
 ((xD fX.1 (λ y=>Pj y)).bind λ gO =>
 some (gO,0))
noncomputable def Se(x0:aj):Option ((List Int) × Int) :=
 (EW x0 0).bind λ lW =>
 (bd (O:=(List Int)) (λ (xU:((List Int) × Int)) =>
 ae (decide (xU.2 < (lW.1.length:Int)))
 ((idx lW.1 xU.2).bind λ lB =>
 (cV xU.1 [lB.aa]).bind λ dY =>
 some (.inl (dY,i64 (xU.2+1))))
 (some (.inr xU.1))) ([],0)).bind (λ (La:(List Int)) =>
 (wD La).bind λ nJ =>
 some (nJ,lW.2))
noncomputable def Sf(x0:aj)(x1:(List Int)):Option (Reach × Int) :=
 (DW x1 (x0.ao.length:Int)).bind λ dB =>
 (EW x0 dB).bind λ lA =>
 ae (lA.2 != 0)
 (some ((⟨0,0⟩:Reach),lA.2))
 ((idx lA.1 0).bind λ j9 =>
 (uD x0 j9 x1).bind λ uj =>
 (bd (O:=(Int × Int)) (λ (pr:(Int × Int × Int)) =>
 ae (decide (pr.1 < (lA.1.length:Int)))
 ((idx lA.1 pr.1).bind λ e7 =>
 (uD x0 e7 x1).bind λ gA =>
 some (.inl (i64 (pr.1+1),j7 pr.2.1 [gA],fH pr.2.2 [gA])))
 (some (.inr (pr.2.1,pr.2.2)))) (1,uj,uj)).bind (λ (GM:(Int × Int)) =>
 some ((⟨GM.1,GM.2⟩:Reach),0)))
noncomputable def Sg(x0:aj)(x1:(List Int)):Option (Int × Int) :=
 (DW x1 (x0.ao.length:Int)).bind λ iV =>
 (EW x0 iV).bind λ j4 =>
 ae (j4.2 != 0)
 (some (0,j4.2))
 ((bd (O:=Int) (λ (eP:(Int × Int)) =>
 ae (decide (eP.2 < (j4.1.length:Int)))
 ((idx j4.1 eP.2).bind λ eO =>
 (uD x0 eO x1).bind λ fA =>
 (Mj x0 fA).bind λ gR =>
 ae gR
 (some (.inl (i64 (eP.1+1),i64 (eP.2+1))))
 (some (.inl (eP.1,i64 (eP.2+1)))))
 (some (.inr eP.1))) (0,0)).bind (λ (D6:Int) =>
 (RZ D6 (j4.1.length:Int)).bind λ nK =>
 some (nK,0)))
noncomputable def m15(x0:aj)(x1:Int)(x2:(List Int)):Option Bool :=
 ((((Gn x0).bind λ kR =>
 ae kR
 (some true)
 (some (decide ((x2.length:Int) > 20)))):Option Bool)).bind (λ (aj9:Bool) =>
 ae aj9
 ((lf).bind λ MA =>
 some MA)
 ((oI x0).bind λ sj =>
 (Sc x0).bind λ rf =>
 (((ae (sj.1 != rf.1)
 (some true)
 (some (sj.2 != rf.2))):Option Bool)).bind (λ (aka:Bool) =>
 ae aka
 (some false)
 ((pN x0 x1).bind λ pT =>
 (Sd x0 x1).bind λ jx =>
 ((((pR pT.1 jx.1).bind λ wC =>
 ae (!wC)
 (some true)
 (some (pT.2 != jx.2))):Option Bool)).bind (λ (akb:Bool) =>
 ae akb
 (some false)
 ((L4 x0).bind λ iX =>
 (Se x0).bind λ qW =>
 ((((pR iX.1 qW.1).bind λ nQ =>
 ae (!nQ)
 (some true)
 (some (iX.2 != qW.2))):Option Bool)).bind (λ (sd:Bool) =>
 ae sd
 (some false)
 ((ov x0 x2).bind λ qL =>
 (Sf x0 x2).bind λ pD =>
 (((ae (!(yM qL.1 pD.1 == true))
 (some true)
 (some (qL.2 != pD.2))):Option Bool)).bind (λ (aj5:Bool) =>
 ae aj5
 (some false)
 ((we x0 x2).bind λ acx =>
 (Sg x0 x2).bind λ Mn =>
 ae (acx.1 == Mn.1)
 (ae (acx.2 == Mn.2)
 ((lf).bind λ alT =>
 some alT)
 (some false))
 (some false)))))))))))
noncomputable def Sh(x0:aj)(x1:cR):Option (Bool × Int) :=
 (mB x0).bind λ kg =>
 ae (kg != 0)
 (some (false,kg))
 ((ET x0 x1).bind λ eN =>
 ae (eN.2 != 0)
 (some (false,eN.2))
 ((bd (O:=(List Int)) (λ (dW:(Int × (List Int))) =>
 ae (decide (dW.1 < (x0.ao.length:Int)))
 ((idx x0.ao dW.1).bind λ mQ =>
 (idx eN.1.weights dW.1).bind λ sv =>
 (idx dW.2 dW.1).bind λ _ =>
 some (.inl (i64 (dW.1+1),dW.2.set dW.1.toNat (j7 (fH sv [mQ.Weight.ai]) [mQ.Weight.ak]))))
 (some (.inr dW.2))) (0,[0,0,0,0,0])).bind (λ (nz:(List Int)) =>
 ae (RG (⟨j7 (fH eN.1.df [x0.aa.ai]) [x0.aa.ak],nz⟩:bt) eN.1 == true)
 ((xF x0 eN.1).bind λ pT =>
 some (pT,0))
 (some (false,0)))))
noncomputable def Ry(x0:aj)(x1:(List Int)):Option cR :=
 (Bo x1 0).bind λ dP =>
 (q6 dP (i64 ((i64 (x0.aa.ak - x0.aa.ai))+1))).bind λ gD =>
 (bd (O:=(List Int)) (λ (tR:(Int × (List Int))) =>
 ae (decide (tR.1 < (x0.ao.length:Int)))
 ((idx x0.ao tR.1).bind λ oO =>
 (Bo x1 (i64 (1+tR.1))).bind λ sj =>
 (q6 sj (i64 ((i64 (oO.Weight.ak - oO.Weight.ai))+1))).bind λ rf =>
 (cV tR.2 [i64 (oO.Weight.ai+rf)]).bind λ mQ =>
 some (.inl (i64 (tR.1+1),mQ)))
 (some (.inr tR.2))) (0,[])).bind (λ (PQ:(List Int)) =>
 some (⟨i64 (x0.aa.ai+gD),PQ⟩:cR))
noncomputable def RA(x0:aj)(x1:cR):Option aj :=
 (bd (O:=Int) (λ (vH:(Int × Int)) =>
 ae (decide (vH.1≤(x0.Out.length:Int)))
 ((gQ x0.Out 0 vH.1).bind λ sv =>
 (uD x0 x1 sv).bind λ iG =>
 some (.inl (i64 (vH.1+1),fH vH.2 [iG,i64 (0 - iG)])))
 (some (.inr vH.2))) (0,x0.aB)).bind (λ (As:Int) =>
 (bd (O:=(List bV)) (λ (xW:(Int × (List bV))) =>
 ae (decide (xW.1 < (x0.aT.length:Int)))
 ((idx x0.aT xW.1).bind λ j5 =>
 (gQ x0.Out 0 j5.dd).bind λ oJ =>
 (uD x0 x1 oJ).bind λ aa4 =>
 (L1 aa4).bind λ sf =>
 (cV xW.2 [(⟨j5.dd,sf⟩:bV)]).bind λ LI =>
 some (.inl (i64 (xW.1+1),LI)))
 (some (.inr xW.2))) (0,[])).bind (λ (PZ:(List bV)) =>
 some (⟨As,⟨x0.aa.ai,x0.aa.ak⟩,x0.ao,x0.Out,PZ⟩:aj)))
noncomputable def HA(x0:Int)(x1:Bool):Option Bool :=
 ae (x0 == 0)
 (some true)
 (some ((x0 == 1) == x1))
noncomputable def m17(x0:aj)(x1:(List Int))(x2:Int)(x3:Int):Option Bool :=
 (A5 x0).bind λ alU =>
 ae (!alU)
 ((lf).bind λ Mp =>
 some Mp)
 ((Ry x0 x1).bind λ uz =>
 (RA x0 uz).bind λ fD =>
 (uF fD).bind λ yW =>
 ae (yW != 0)
 ((lf).bind λ E5 =>
 some E5)
 ((yv x2 (fD.ao.length:Int)).bind λ nF =>
 (A6 fD x1).bind λ jS =>
 (q6 (i64 x3) (fD.ao.length:Int)).bind λ HC =>
 (Sh fD uz).bind λ HZ =>
 (oI fD).bind λ acb =>
 (yH fD uz nF).bind λ qT =>
 (ov fD nF).bind λ QM =>
 (we fD nF).bind λ r9 =>
 (pN fD HC).bind λ Mq =>
 (L4 fD).bind λ qM =>
 (Bl fD).bind λ Sx =>
 (oM fD jS).bind λ Mr =>
 (((ae (HZ.2 != 0)
 (some true)
 (ae (acb.2 != 0)
 (some true)
 (ae (qT.2 != 0)
 (some true)
 (ae (QM.2 != 0)
 (some true)
 (ae (r9.2 != 0)
 (some true)
 (ae (Mq.2 != 0)
 (some true)
 (ae (qM.2 != 0)
 (some true)
 (ae (Sx.2 != 0)
 (some true)
 (some (Mr.2 != 0)))))))))):Option Bool)).bind (λ (aj7:Bool) =>
 ae aj7
 (some false)
 ((((ae (!HZ.1)
 (some true)
 (ae (decide (acb.1 < 1))
 (some true)
 ((lp qT.1 QM.1.ai QM.1.ak).bind λ Mz =>
 ae (!Mz)
 (some true)
 (ae (decide (qT.1 > fD.aB))
 ((HA r9.1 true).bind λ akg =>
 ae (!akg)
 (some true)
 ((idx uz.eU HC).bind λ abE =>
 (nP Mq.1 abE).bind λ gq =>
 ae (!gq)
 (some true)
 ((nP qM.1 uz.aa).bind λ Bz =>
 ae (!Bz)
 (some true)
 (some (decide ((Sx.1.length:Int) > 0))))))
 ((HA r9.1 (decide (qT.1 < i64 (0 - fD.aB)))).bind λ HI =>
 ae (!HI)
 (some true)
 ((idx uz.eU HC).bind λ L7 =>
 (nP Mq.1 L7).bind λ wG =>
 ae (!wG)
 (some true)
 ((nP qM.1 uz.aa).bind λ alX =>
 ae (!alX)
 (some true)
 (some (decide ((Sx.1.length:Int) > 0)))))))))):Option Bool)).bind (λ (aj8:Bool) =>
 ae aj8
 (some false)
 ((wD fD.Out).bind λ alY =>
 (bd (O:=(Bool ⊕ Bool)) (λ (l4:(Bool × (List Int) × Int)) =>
 ae (decide (l4.2.2 < (jS.length:Int)))
 ((cV [] l4.2.1).bind λ alZ =>
 (idx jS l4.2.2).bind λ ajH =>
 (cV alZ [ajH]).bind λ ajI =>
 (wD ajI).bind λ RE =>
 (yH fD uz RE).bind λ acd =>
 ae (acd.2 != 0)
 (some (.inr (.inr false)))
 (ae l4.1
 ((lp acd.1 (i64 (0 - fD.aB)) fD.aB).bind λ al0 =>
 some (.inl (al0,RE,i64 (l4.2.2+1))))
 (some (.inl (false,RE,i64 (l4.2.2+1))))))
 (some (.inr (.inl l4.1)))) (true,alY,0)).bind (Sum.elim (λ (r6:Bool) =>
 (HA Mr.1 r6).bind λ al1 =>
 ae al1
 ((lf).bind λ al2 =>
 some al2)
 (some false))
  (λ q=>some q))))))))
end Go.Proofs.YtabamagholjdcaaGreatDoor
