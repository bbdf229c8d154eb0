/- What the functions compute. Conditions: none. -/
import Derived.Test.YtihapemckcdicaaGreatDoorQWStF
import Derived.Test.YtihapemckcdicaaGreatDoorQWStP
namespace Go.Proofs.YtihapemckcdicaaGreatDoor
open Go.Lg Go.Proofs Tryz
noncomputable section
set_option maxRecDepth 100000
def kZ(x0:Int)(x1:Int)(x2:Int):Option Bool :=
 ae (decide (x1≤x0))
 (some (decide (x0≤x2)))
 (some false)
def Nw(x0:ByteArray):Option Bool:=some (qs x0)
def wi(x0:cI)(x1:(bH→Option Bool)):Option Int :=
 (bD (O:=Int) (λ (jX:(Int × Int)) =>
 ae (decide (jX.2 < (x0.fH.length:Int)))
 ((idx x0.fH jX.2).bind λ uZ =>
 (x1 uZ).bind λ Gs =>
 ae Gs
 (some (.inl (i64 (jX.1+1),i64 (jX.2+1))))
 (some (.inl (jX.1,i64 (jX.2+1)))))
 (some (.inr jX.1))) (0,0)).bind (λ (Aj:Int) =>
 some Aj)
def ym(x0:an)(x1:Int):Option Int :=
 (bD (O:=(Unit ⊕ Int)) (λ (ll:Int) =>
 ae (decide (ll < (x0.Rows.length:Int)))
 ((idx x0.Rows ll).bind λ pX =>
 ae (decide (x1≤pX.eX))
 (some (.inr (.inr pX.fG)))
 (some (.inl (i64 (ll+1)))))
 (some (.inr (.inl ())))) 0).bind (Sum.elim (λ (_:Unit) =>
 some 0)
  (λ q=>some q))
def zN(x0:an)(x1:bH)(x2:Int)(x3:Int):Option Bool :=
 (idx x0.aA x3).bind λ eT =>
 (idx x1.deep eT.Place).bind λ iw =>
 (idx x0.aB x2).bind λ cC =>
 ae (decide (iw≤cC.oC))
 ((ym x0 iw).bind λ ie =>
 some (decide (eT.gZ≤ie)))
 (some false)
def Ct(x0:bH)(x1:cI)(x2:Int)(x3:Int):Option Bool :=
 (zN x1.book x0 x2 x3).bind λ dO =>
 some dO
def ub(x0:cI)(i k:Nat):Option Bool:=(wi x0 (λ y=>Ct y x0 (k:Int) (i:Int))).bind λ n=>some (n == (x0.fH.length:Int))
def yn(x0:cI):Option (List Bool) :=
 if (0 < x0.book.aA.length∧x0.book.aA.length≤4)∧(0 < x0.book.aB.length∧x0.book.aB.length≤4) then
  (((List.range 16).mapM λ (p:Nat)=>if p / 4 < x0.book.aA.length∧p % 4 < x0.book.aB.length then ub x0 (p / 4) (p % 4) else some false):Option (List Bool))
 else none
def Np(x0:an):Option Bool :=
 (((ae (decide ((x0.Rows.length:Int) > 20))
 (some true)
 (ae (decide ((x0.aQ.length:Int) > 20))
 (some true)
 (ae (decide ((x0.aB.length:Int) > 20))
 (some true)
 (ae (decide ((x0.aA.length:Int) > 20))
 (some true)
 (some (decide ((x0.bh.length:Int) > 20))))))):Option Bool)).bind (λ (uB:Bool) =>
 ae uB
 (some true)
 ((bD (O:=(Unit ⊕ Bool)) (λ (mc:Int) =>
 ae (decide (mc < (x0.aB.length:Int)))
 ((idx x0.aB mc).bind λ mI =>
 ae (decide ((mI.Name.size:Int) > 100))
 (some (.inr (.inr true)))
 (some (.inl (i64 (mc+1)))))
 (some (.inr (.inl ())))) 0).bind (Sum.elim (λ (_:Unit) =>
 some false)
  (λ q=>some q))))
def Nq(x0:(List (List Int))):Option Bool :=
 ae (decide ((x0.length:Int) > 20))
 (some true)
 ((bD (O:=(Unit ⊕ Bool)) (λ (I8:Int) =>
 ae (decide (I8 < (x0.length:Int)))
 ((idx x0 I8).bind λ ij =>
 ae (decide ((ij.length:Int) > 20))
 (some (.inr (.inr true)))
 (some (.inl (i64 (I8+1)))))
 (some (.inr (.inl ())))) 0).bind (Sum.elim (λ (_:Unit) =>
 some false)
  (λ q=>some q)))
def Ip(x0:an):Option Int :=
 (kZ x0.Rest 0 60).bind λ j5 =>
 ae (!j5)
 (some 1)
 (some 0)
def E6(x0:an):Option Int :=
 (kZ (x0.Rows.length:Int) 1 4).bind λ JI =>
 ae (!JI)
 (some 2)
 ((bD (O:=(Unit ⊕ Int)) (λ (uG:Int) =>
 ae (decide (uG < (x0.Rows.length:Int)))
 ((idx x0.Rows uG).bind λ pj =>
 (kZ pj.eX 1 30).bind λ De =>
 (((ae (!De)
 (some (!De))
 ((kZ pj.fG 1 60).bind λ amK =>
 some (!amK))):Option Bool)).bind (λ (SD:Bool) =>
 ae SD
 (some (.inr (.inr 1)))
 (ae (decide (uG > 0))
 ((idx x0.Rows (i64 (uG - 1))).bind λ adw =>
 ae (decide (pj.eX≤adw.eX))
 (some (.inr (.inr 7)))
 ((idx x0.Rows (i64 (uG - 1))).bind λ amL =>
 ae (decide (pj.fG > amL.fG))
 (some (.inr (.inr 7)))
 (some (.inl (i64 (uG+1))))))
 (some (.inl (i64 (uG+1)))))))
 (some (.inr (.inl ())))) 0).bind (Sum.elim (λ (_:Unit) =>
 some 0)
  (λ q=>some q)))
def Nx(x0:(List Reach))(x1:(Reach→Option Bool)):Option Int :=
 (bD (O:=(Unit ⊕ Int)) (λ (ee:Int) =>
 ae (decide (ee < (x0.length:Int)))
 ((idx x0 ee).bind λ gL =>
 (x1 gL).bind λ ij =>
 ae ij
 (some (.inr (.inr ee)))
 (some (.inl (i64 (ee+1)))))
 (some (.inr (.inl ())))) 0).bind (Sum.elim (λ (_:Unit) =>
 some (-1))
  (λ q=>some q))
def Iq(x0:(List Reach))(x1:(Reach→Option Bool)):Option Bool :=
 (Nx x0 x1).bind λ df =>
 some (decide (df ≥ 0))
def Fc(x0:Reach)(x1:Int)(x2:Int)(x3:Int):Option Bool :=
 ae (decide (x1≤x0.cQ))
 (ae (decide (x0.cQ≤x0.dE))
 (ae (decide (x0.dE≤x2))
 (some (decide (i64 (x0.dE - x0.cQ) < x3)))
 (some false))
 (some false))
 (some false)
def Fb(x0:Reach):Option Bool :=
 (Fc x0 1 30 3).bind λ dO =>
 some (!dO)
def E7(x0:an):Option Int :=
 (kZ (x0.aQ.length:Int) 1 3).bind λ lp =>
 ae (!lp)
 (some 2)
 ((Iq x0.aQ (λ y=>Fb y)).bind λ iw =>
 ae iw
 (some 1)
 (some 0))
def Ny(x0:(List fK))(x1:(fK→Option Bool)):Option Int :=
 (bD (O:=(Unit ⊕ Int)) (λ (ee:Int) =>
 ae (decide (ee < (x0.length:Int)))
 ((idx x0 ee).bind λ gL =>
 (x1 gL).bind λ ij =>
 ae ij
 (some (.inr (.inr ee)))
 (some (.inl (i64 (ee+1)))))
 (some (.inr (.inl ())))) 0).bind (Sum.elim (λ (_:Unit) =>
 some (-1))
  (λ q=>some q))
def Ir(x0:(List fK))(x1:(fK→Option Bool)):Option Bool :=
 (Ny x0 x1).bind λ df =>
 some (decide (df ≥ 0))
def Fe(x0:fK)(x1:fK):Option Bool :=
 some (x0.Name.toList == x1.Name.toList)
def E8(x0:an):Option Int :=
 (kZ (x0.aB.length:Int) 1 4).bind λ x63 =>
 ae (!x63)
 (some 2)
 ((bD (O:=(Unit ⊕ Int)) (λ (FM:Int) =>
 ae (decide (FM < (x0.aB.length:Int)))
 ((idx x0.aB FM).bind λ nT =>
 (Nw nT.Name).bind λ iS =>
 ae (!iS)
 (some (.inr (.inr 4)))
 ((kQ x0.aB 0 FM).bind λ Bc =>
 (Ir Bc (λ y=>Fe y nT)).bind λ amI =>
 ae amI
 (some (.inr (.inr 5)))
 ((kZ nT.oC 1 30).bind λ yI =>
 ae (!yI)
 (some (.inr (.inr 1)))
 (some (.inl (i64 (FM+1)))))))
 (some (.inr (.inl ())))) 0).bind (Sum.elim (λ (_:Unit) =>
 some 0)
  (λ q=>some q)))
def qu(x0:Int)(x1:Int):Option Int :=
 (kZ x0 0 (i64 (x1 - 1))).bind λ pk =>
 ae (!pk)
 (some 6)
 (some 0)
def E9(x0:an):Option Int :=
 (kZ (x0.aA.length:Int) 1 4).bind λ jk =>
 ae (!jk)
 (some 2)
 ((bD (O:=(Unit ⊕ Int)) (λ (I9:Int) =>
 ae (decide (I9 < (x0.aA.length:Int)))
 ((idx x0.aA I9).bind λ ox =>
 (qu ox.Place (x0.aQ.length:Int)).bind λ adu =>
 ae (adu != 0)
 (some (.inr (.inr adu)))
 ((kZ ox.gM 0 200).bind λ qQ =>
 ae (!qQ)
 (some (.inr (.inr 1)))
 ((kZ ox.gZ 1 60).bind λ uW =>
 ae (!uW)
 (some (.inr (.inr 1)))
 ((kZ ox.aB 1 3).bind λ pj =>
 ae (!pj)
 (some (.inr (.inr 1)))
 (some (.inl (i64 (I9+1))))))))
 (some (.inr (.inl ())))) 0).bind (Sum.elim (λ (_:Unit) =>
 some 0)
  (λ q=>some q)))
def Fa(x0:an):Option Int :=
 ae (decide ((x0.bh.length:Int) > 3))
 (some 2)
 ((bD (O:=(Unit ⊕ Int)) (λ (mc:Int) =>
 ae (decide (mc < (x0.bh.length:Int)))
 ((idx x0.bh mc).bind λ Bb =>
 (qu Bb.Place (x0.aQ.length:Int)).bind λ x90 =>
 ae (x90 != 0)
 (some (.inr (.inr x90)))
 ((kZ Bb.mg 0 30).bind λ p5 =>
 ae (!p5)
 (some (.inr (.inr 1)))
 (some (.inl (i64 (mc+1))))))
 (some (.inr (.inl ())))) 0).bind (Sum.elim (λ (_:Unit) =>
 some 0)
  (λ q=>some q)))
def rE(x0:an):Option Int :=
 (Ip (⟨x0.Rest,x0.Rows,x0.aQ,x0.aB,x0.aA,x0.bh⟩:an)).bind λ gK =>
 ae (gK != 0)
 (some gK)
 ((E6 (⟨x0.Rest,x0.Rows,x0.aQ,x0.aB,x0.aA,x0.bh⟩:an)).bind λ ig =>
 ae (ig != 0)
 (some ig)
 ((E7 (⟨x0.Rest,x0.Rows,x0.aQ,x0.aB,x0.aA,x0.bh⟩:an)).bind λ Gr =>
 ae (Gr != 0)
 (some Gr)
 ((E8 (⟨x0.Rest,x0.Rows,x0.aQ,x0.aB,x0.aA,x0.bh⟩:an)).bind λ iQ =>
 ae (iQ != 0)
 (some iQ)
 ((E9 (⟨x0.Rest,x0.Rows,x0.aQ,x0.aB,x0.aA,x0.bh⟩:an)).bind λ nQ =>
 ae (nQ != 0)
 (some nQ)
 ((Fa (⟨x0.Rest,x0.Rows,x0.aQ,x0.aB,x0.aA,x0.bh⟩:an)).bind λ ij =>
 ae (ij != 0)
 (some ij)
 (some 0))))))
def Ie (x1:(bH→((List bH) ⊕ Empty)→Option (((List bH) ⊕ Empty) × Bool))→((List bH) ⊕ Empty)→Option ((List bH) ⊕ Empty)):Option (List bH) :=
 (x1 (gV (λ (tv:bH) (kK:(List bH))=>(((gk kK [tv]).bind λ gX =>
 some (.inl gX)):Option ((List bH) ⊕ Empty)))) (.inl [])).bind (Sum.elim (λ (kK:(List bH)) =>
 some kK)
  (λ (o:Empty)=>o.elim))
def z6 (x0:(bH→((List bH) ⊕ Empty)→Option (((List bH) ⊕ Empty) × Bool))→((List bH) ⊕ Empty)→Option ((List bH) ⊕ Empty)):Option (List bH) :=
 (Ie x0).bind λ df =>
 some df
def Ns(x0:(List fg))(x1:(fg→Option Bool)):Option Int :=
 (bD (O:=(Unit ⊕ Int)) (λ (ee:Int) =>
 ae (decide (ee < (x0.length:Int)))
 ((idx x0 ee).bind λ gL =>
 (x1 gL).bind λ ij =>
 ae ij
 (some (.inr (.inr ee)))
 (some (.inl (i64 (ee+1)))))
 (some (.inr (.inl ())))) 0).bind (Sum.elim (λ (_:Unit) =>
 some (-1))
  (λ q=>some q))
def Im(x0:(List fg))(x1:(fg→Option Bool)):Option Bool :=
 (Ns x0 x1).bind λ df =>
 some (decide (df ≥ 0))
def E1(x0:fg)(x1:bH):Option Bool :=
 (idx x1.deep x0.Place).bind λ dO =>
 some (!((decide (dO≤x0.mg)) == x0.tC))
def Cq(x0:an)(x1:bH):Option Bool :=
 (Im x0.bh (λ y=>E1 y x1)).bind λ jO =>
 some (!jO)
def sS{S:Type}(ys:bH→S→Option (S × Bool)):Nat→Int→an→bH→S→Option (S × (bH × Bool))
 | 0,_,_,_,_=>none
 | k+1,x0,x1,x2,s0 =>
  ae (x0 == (x1.aQ.length:Int))
  (((((Cq x1 x2).bind λ eT =>
  ae (!eT)
  (some (s0,true))
  ((ys x2 s0).bind λ iw =>
  some (iw.1,iw.2))):Option (S × Bool))).bind (λ (Ah:(S × Bool)) =>
  some (Ah.1,(x2,Ah.2))))
  ((idx x1.aQ x0).bind λ cC =>
  (bD (O:=((S × (List Int)) ⊕ (S × (bH × Bool)))) (λ (cy:(S × Int × (List Int))) =>
  (idx x1.aQ x0).bind λ ft =>
  ae (decide (cy.2.1≤ft.dE))
  ((idx cy.2.2 x0).bind λ _ =>
  (sS ys k (i64 (x0+1)) x1 (⟨cy.2.2.set x0.toNat cy.2.1⟩:bH) cy.1).bind λ gY =>
  ae (!gY.2.2)
  (some (.inr (.inr (gY.1,(gY.2.1,false)))))
  (some (.inl (gY.1,i64 (cy.2.1+1),gY.2.1.deep))))
  (some (.inr (.inl (cy.1,cy.2.2))))) (s0,cC.cQ,x2.deep)).bind (Sum.elim (λ (o5:(S × (List Int))) =>
  some (o5.1,((⟨o5.2⟩:bH),true)))
   (λ q=>some q)))
def qw{S:Type}(ys:bH→S→Option (S × Bool))(x0:an)(s0:S):Option S :=
 (sS ys 9 0 x0 (⟨[0,0,0]⟩:bH) s0).bind λ mH =>
  some mH.1
def zV(x0:an):Option (Int × Int) :=
 (rE x0).bind λ mH =>
 ae (mH != 0)
 (some (0,mH))
 ((z6 (λ y s=>qw y (⟨x0.Rest,x0.Rows,x0.aQ,x0.aB,x0.aA,x0.bh⟩:an) s)).bind λ gq =>
 some ((gq.length:Int),0))
def qx(x0:an)(x1:(an→Option Int)):Option (cI × Int) :=
 (rE x0).bind λ ie =>
 ae (ie != 0)
 (some ((⟨⟨0,[],[],[],[],[]⟩,[]⟩:cI),ie))
 ((x1 x0).bind λ gr =>
 ae (gr != 0)
 (some ((⟨⟨0,[],[],[],[],[]⟩,[]⟩:cI),gr))
 ((z6 (λ y s=>qw y x0 s)).bind λ ig =>
 ae ((ig.length:Int) == 0)
 (some ((⟨⟨0,[],[],[],[],[]⟩,[]⟩:cI),9))
 (some ((⟨⟨x0.Rest,x0.Rows,x0.aQ,x0.aB,x0.aA,x0.bh⟩,ig⟩:cI),0))))
def rA(x0:an)(x1:Int):Option Int :=
 (qu x1 (x0.aQ.length:Int)).bind λ dO =>
 some dO
def CB(x0:Int):Option Int :=
 some x0
def zW(x0:Int):Option Bool :=
 some (x0 != x0)
def gT(x0:Int)(x1:Int):Option Bool :=
 (zW x0).bind λ j5 =>
 ae j5
 ((zW x1).bind λ rO =>
 ae (!rO)
 (some true)
 (some (decide (x0 < x1))))
 (some (decide (x0 < x1)))
def Cv(x0:(List Int))(x1:Int)(x2:Int):Option (List Int) :=
 (bD (O:=(List Int)) (λ (uE:((List Int) × Int)) =>
 ae (decide (uE.2 < x2))
 ((bD (O:=(List Int)) (λ (fp:((List Int) × Int)) =>
 (((ae (decide (fp.2 > x1))
 ((idx fp.1 fp.2).bind λ OB =>
 (idx fp.1 (i64 (fp.2 - 1))).bind λ OC =>
 (gT OB OC).bind λ Uc =>
 some Uc)
 (some false)):Option Bool)).bind (λ (IV:Bool) =>
 ae IV
 ((idx fp.1 (i64 (fp.2 - 1))).bind λ xa =>
 (idx fp.1 fp.2).bind λ Dh =>
 (idx fp.1 fp.2).bind λ _ =>
 (idx (fp.1.set fp.2.toNat xa) (i64 (fp.2 - 1))).bind λ _ =>
 some (.inl ((fp.1.set fp.2.toNat xa).set (i64 (fp.2 - 1)).toNat Dh,i64 (fp.2 - 1))))
 (some (.inr fp.1)))) (uE.1,uE.2)).bind (λ (SK:(List Int)) =>
 some (.inl (SK,i64 (uE.2+1)))))
 (some (.inr uE.1))) (x0,i64 (x1+1))).bind (λ (SH:(List Int)) =>
 some SH)
def CA(x0:(List Int))(x1:Int)(x2:Int)(x3:Int):Option (List Int) :=
 (bD (O:=((List Int) ⊕ (List Int))) (λ (di:((List Int) × Int)) =>
 ae (decide (i64 ((i64 (2 * di.2))+1) ≥ x2))
 (some (.inr (.inl di.1)))
 ((((ae (decide (i64 ((i64 ((i64 (2 * di.2))+1))+1) < x2))
 ((idx di.1 (i64 (x3+(i64 ((i64 (2 * di.2))+1))))).bind λ Ot =>
 (idx di.1 (i64 ((i64 (x3+(i64 ((i64 (2 * di.2))+1))))+1))).bind λ Js =>
 (gT Ot Js).bind λ TZ =>
 some TZ)
 (some false)):Option Bool)).bind (λ (SF:Bool) =>
 (((ae SF
 (some (i64 ((i64 ((i64 (2 * di.2))+1))+1)))
 (some (i64 ((i64 (2 * di.2))+1)))):Option Int)).bind (λ (Af:Int) =>
 (idx di.1 (i64 (x3+di.2))).bind λ ni =>
 (idx di.1 (i64 (x3+Af))).bind λ Jt =>
 (gT ni Jt).bind λ adz =>
 ae (!adz)
 (some (.inr (.inr di.1)))
 ((idx di.1 (i64 (x3+Af))).bind λ Df =>
 (idx di.1 (i64 (x3+di.2))).bind λ T3 =>
 (idx di.1 (i64 (x3+di.2))).bind λ _ =>
 (idx (di.1.set (i64 (x3+di.2)).toNat Df) (i64 (x3+Af))).bind λ _ =>
 some (.inl ((di.1.set (i64 (x3+di.2)).toNat Df).set (i64 (x3+Af)).toNat T3,Af))))))) (x0,x1)).bind (Sum.elim (λ (ov:(List Int)) =>
 some ov)
  (λ q=>some q))
def Cw(x0:(List Int))(x1:Int)(x2:Int):Option (List Int) :=
 (o7 (i64 ((i64 (x2 - x1)) - 1)) 2).bind λ OG =>
 (bD (O:=(List Int)) (λ (wP:((List Int) × Int)) =>
 ae (decide (wP.2 ≥ 0))
 ((CA wP.1 wP.2 (i64 (x2 - x1)) x1).bind λ JI =>
 some (.inl (JI,i64 (wP.2 - 1))))
 (some (.inr wP.1))) (x0,OG)).bind (λ (SM:(List Int)) =>
 (bD (O:=(List Int)) (λ (m6:((List Int) × Int)) =>
 ae (decide (m6.2 ≥ 0))
 ((idx m6.1 (i64 (x1+m6.2))).bind λ uV =>
 (idx m6.1 x1).bind λ Dd =>
 (idx m6.1 x1).bind λ _ =>
 (idx (m6.1.set x1.toNat uV) (i64 (x1+m6.2))).bind λ _ =>
 (CA ((m6.1.set x1.toNat uV).set (i64 (x1+m6.2)).toNat Dd) 0 m6.2 x1).bind λ j3 =>
 some (.inl (j3,i64 (m6.2 - 1))))
 (some (.inr m6.1))) (SM,i64 ((i64 (x2 - x1)) - 1))).bind (λ (SR:(List Int)) =>
 some SR))
def Nt(x0:Int):Option Int :=
 (((ae (decide (x0 ≥ 4294967296))
 ((mD .u64 x0 32).bind λ gr =>
 some (gr,32))
 (some (x0,0))):Option (Int × Int))).bind (λ (uA:(Int × Int)) =>
 (((ae (decide (uA.1 ≥ 65536))
 ((mD .u64 uA.1 16).bind λ nj =>
 some (nj,i64 (uA.2+16)))
 (some (uA.1,uA.2))):Option (Int × Int))).bind (λ (qC:(Int × Int)) =>
 (((ae (decide (qC.1 ≥ 256))
 ((mD .u64 qC.1 8).bind λ iQ =>
 some (iQ,i64 (qC.2+8)))
 (some (qC.1,qC.2))):Option (Int × Int))).bind (λ (wE:(Int × Int)) =>
 (wU (⟨#[0,1,2,2,3,3,3,3,4,4,4,4,4,4,4,4,5,5,5,5,5,5,5,5,5,5,5,5,5,5,5,5,6,6,6,6,6,6,6,6,6,6,6,6,6,6,6,6,6,6,6,6,6,6,6,6,6,6,6,6,6,6,6,6,7,7,7,7,7,7,7,7,7,7,7,7,7,7,7,7,7,7,7,7,7,7,7,7,7,7,7,7,7,7,7,7,7,7,7,7,7,7,7,7,7,7,7,7,7,7,7,7,7,7,7,7,7,7,7,7,7,7,7,7,7,7,7,7,8,8,8,8,8,8,8,8,8,8,8,8,8,8,8,8,8,8,8,8,8,8,8,8,8,8,8,8,8,8,8,8,8,8,8,8,8,8,8,8,8,8,8,8,8,8,8,8,8,8,8,8,8,8,8,8,8,8,8,8,8,8,8,8,8,8,8,8,8,8,8,8,8,8,8,8,8,8,8,8,8,8,8,8,8,8,8,8,8,8,8,8,8,8,8,8,8,8,8,8,8,8,8,8,8,8,8,8,8,8,8,8,8,8,8,8,8,8,8,8,8,8,8,8,8,8,8,8]⟩) (IntKind.wrap .u8 wE.1)).bind λ OE =>
 some (i64 (wE.2+(i64 OE))))))
def Cu(x0:Int):Option Int :=
 (Nt x0).bind λ df =>
 some df
def E4(x0:Int):Option Int :=
 (Cu (IntKind.wrap .u64 x0)).bind λ pk =>
 (Ay .u64 1 pk).bind λ dO =>
 some dO
def E5(x0:Int):Option (Int × Int) :=
 (Ay .u64 x0 13).bind λ rO =>
 (fT .xor .u64 x0 rO).bind λ mH =>
 (mD .u64 mH 7).bind λ lp =>
 (fT .xor .u64 mH lp).bind λ gh =>
 (Ay .u64 gh 17).bind λ eT =>
 (fT .xor .u64 gh eT).bind λ gq =>
 some (gq,gq)
def zT(x0:(List Int))(x1:Int)(x2:Int):Option (List Int) :=
 ae (decide (i64 (x2 - x1) ≥ 8))
 ((E4 (i64 (x2 - x1))).bind λ jk =>
 (o7 (i64 (x2 - x1)) 4).bind λ pZ =>
 (bD (O:=(List Int)) (λ (mC:((List Int) × Int × Int)) =>
 (o7 (i64 (x2 - x1)) 4).bind λ F7 =>
 ae (decide (mC.2.1≤i64 ((i64 (x1+(i64 (F7 * 2))))+1)))
 ((E5 mC.2.2).bind λ j3 =>
 (fT .and .u64 j3.2 (IntKind.wrap .u64 (jk - 1))).bind λ ox =>
 (((ae (decide (i64 ox ≥ i64 (x2 - x1)))
 (some (i64 ((i64 ox) - (i64 (x2 - x1)))))
 (some (i64 ox))):Option Int)).bind (λ (uz:Int) =>
 (idx mC.1 (i64 (x1+uz))).bind λ On =>
 (idx mC.1 mC.2.1).bind λ yK =>
 (idx mC.1 mC.2.1).bind λ _ =>
 (idx (mC.1.set mC.2.1.toNat On) (i64 (x1+uz))).bind λ _ =>
 some (.inl ((mC.1.set mC.2.1.toNat On).set (i64 (x1+uz)).toNat yK,i64 (mC.2.1+1),j3.1))))
 (some (.inr mC.1))) (x0,i64 ((i64 (x1+(i64 (pZ * 2)))) - 1),IntKind.wrap .u64 (i64 (x2 - x1)))).bind (λ (SP:(List Int)) =>
 some SP))
 (some x0)
def uk(x0:(List Int))(x1:Int)(x2:Int)(x3:Int):Option (Int × Int × Int) :=
 (idx x0 x2).bind λ j5 =>
 (idx x0 x1).bind λ jO =>
 (gT j5 jO).bind λ rO =>
 ae rO
 (some (i64 (x3+1),x2,x1))
 (some (x3,x1,x2))
def wm(x0:(List Int))(x1:Int)(x2:Int)(x3:Int)(x4:Int):Option (Int × Int) :=
 (uk x0 x1 x2 x4).bind λ dO =>
 (uk x0 dO.2.2 x3 dO.1).bind λ j5 =>
 (uk x0 dO.2.1 j5.2.1 j5.1).bind λ jO =>
 some (jO.1,jO.2.2)
def uj(x0:(List Int))(x1:Int)(x2:Int):Option (Int × Int) :=
 (wm x0 (i64 (x1 - 1)) x1 (i64 (x1+1)) x2).bind λ df =>
 some (df.1,df.2)
def Cx(x0:(List Int))(x1:Int)(x2:Int):Option (Int × Int) :=
 (o7 (i64 (x2 - x1)) 4).bind λ JG =>
 (o7 (i64 (x2 - x1)) 4).bind λ gX =>
 (o7 (i64 (x2 - x1)) 4).bind λ ig =>
 (((ae (decide (i64 (x2 - x1) ≥ 8))
 (ae (decide (i64 (x2 - x1) ≥ 50))
 ((uj x0 (i64 (x1+(i64 (JG * 1)))) 0).bind λ gL =>
 (uj x0 (i64 (x1+(i64 (gX * 2)))) gL.1).bind λ ij =>
 (uj x0 (i64 (x1+(i64 (ig * 3)))) ij.1).bind λ pX =>
 (wm x0 gL.2 ij.2 pX.2 pX.1).bind λ JH =>
 some (JH.2,JH.1))
 ((wm x0 (i64 (x1+(i64 (JG * 1)))) (i64 (x1+(i64 (gX * 2)))) (i64 (x1+(i64 (ig * 3)))) 0).bind λ uY =>
 some (uY.2,uY.1)))
 (some (i64 (x1+(i64 (gX * 2))),0))):Option (Int × Int))).bind (λ (Ak:(Int × Int)) =>
 ae (Ak.2 == 0)
 (some (Ak.1,1))
 (ae (Ak.2 == 12)
 (some (Ak.1,2))
 (some (Ak.1,0))))
def zU(x0:(List Int))(x1:Int)(x2:Int):Option (List Int) :=
 (bD (O:=(List Int)) (λ (gp:((List Int) × Int × Int)) =>
 ae (decide (gp.2.1 < gp.2.2))
 ((idx gp.1 gp.2.2).bind λ iR =>
 (idx gp.1 gp.2.1).bind λ tx =>
 (idx gp.1 gp.2.1).bind λ _ =>
 (idx (gp.1.set gp.2.1.toNat iR) gp.2.2).bind λ _ =>
 some (.inl ((gp.1.set gp.2.1.toNat iR).set gp.2.2.toNat tx,i64 (gp.2.1+1),i64 (gp.2.2 - 1))))
 (some (.inr gp.1))) (x0,x1,i64 (x2 - 1))).bind (λ (CO:(List Int)) =>
 some CO)
def yp(x0:(List Int))(x1:Int)(x2:Int):Option ((List Int) × Bool) :=
 (bD (O:=((List Int) ⊕ ((List Int) × Bool))) (λ (jM:((List Int) × Int × Int)) =>
 ae (decide (jM.2.2 < 5))
 ((bD (O:=Int) (λ (lT:Int) =>
 ae (decide (lT < x2))
 ((idx jM.1 lT).bind λ Gv =>
 (idx jM.1 (i64 (lT - 1))).bind λ Gw =>
 (gT Gv Gw).bind λ JJ =>
 ae (!JJ)
 (some (.inl (i64 (lT+1))))
 (some (.inr lT)))
 (some (.inr lT))) jM.2.1).bind (λ (jW:Int) =>
 ae (jW == x2)
 (some (.inr (.inr (jM.1,true))))
 (ae (decide (i64 (x2 - x1) < 50))
 (some (.inr (.inr (jM.1,false))))
 ((idx jM.1 (i64 (jW - 1))).bind λ OI =>
 (idx jM.1 jW).bind λ Um =>
 (idx jM.1 jW).bind λ _ =>
 (idx (jM.1.set jW.toNat OI) (i64 (jW - 1))).bind λ _ =>
 (((ae (decide (i64 (jW - x1) ≥ 2))
 ((bD (O:=(List Int)) (λ (fh:((List Int) × Int)) =>
 ae (decide (fh.2 ≥ 1))
 ((idx fh.1 fh.2).bind λ Oi =>
 (idx fh.1 (i64 (fh.2 - 1))).bind λ Oj =>
 (gT Oi Oj).bind λ TT =>
 ae (!TT)
 (some (.inr fh.1))
 ((idx fh.1 (i64 (fh.2 - 1))).bind λ F4 =>
 (idx fh.1 fh.2).bind λ Ol =>
 (idx fh.1 fh.2).bind λ _ =>
 (idx (fh.1.set fh.2.toNat F4) (i64 (fh.2 - 1))).bind λ _ =>
 some (.inl ((fh.1.set fh.2.toNat F4).set (i64 (fh.2 - 1)).toNat Ol,i64 (fh.2 - 1)))))
 (some (.inr fh.1))) ((jM.1.set jW.toNat OI).set (i64 (jW - 1)).toNat Um,i64 (jW - 1))).bind (λ (I1:(List Int)) =>
 some I1))
 (some ((jM.1.set jW.toNat OI).set (i64 (jW - 1)).toNat Um))):Option (List Int))).bind (λ (NW:(List Int)) =>
 ae (decide (i64 (x2 - jW) ≥ 2))
 ((bD (O:=(List Int)) (λ (dh:((List Int) × Int)) =>
 ae (decide (dh.2 < x2))
 ((idx dh.1 dh.2).bind λ F5 =>
 (idx dh.1 (i64 (dh.2 - 1))).bind λ F6 =>
 (gT F5 F6).bind λ Jq =>
 ae (!Jq)
 (some (.inr dh.1))
 ((idx dh.1 (i64 (dh.2 - 1))).bind λ yJ =>
 (idx dh.1 dh.2).bind λ F8 =>
 (idx dh.1 dh.2).bind λ _ =>
 (idx (dh.1.set dh.2.toNat yJ) (i64 (dh.2 - 1))).bind λ _ =>
 some (.inl ((dh.1.set dh.2.toNat yJ).set (i64 (dh.2 - 1)).toNat F8,i64 (dh.2+1)))))
 (some (.inr dh.1))) (NW,i64 (jW+1))).bind (λ (Sz:(List Int)) =>
 some (.inl (Sz,jW,i64 (jM.2.2+1)))))
 (some (.inl (NW,jW,i64 (jM.2.2+1)))))))))
 (some (.inr (.inl jM.1)))) (x0,i64 (x1+1),0)).bind (Sum.elim (λ (SL:(List Int)) =>
 some (SL,false))
  (λ q=>some q))
def Cy(x0:(List Int))(x1:Int)(x2:Int)(x3:Int):Option ((List Int) × Int) :=
 (idx x0 x3).bind λ Oq =>
 (idx x0 x1).bind λ Jr =>
 (idx x0 x1).bind λ _ =>
 (idx (x0.set x1.toNat Oq) x3).bind λ _ =>
 (bD (O:=((List Int) × Int)) (λ (mX:((List Int) × Int × Int)) =>
 (bD (O:=Int) (λ (CY:Int) =>
 ae (decide (CY≤mX.2.2))
 ((idx mX.1 x1).bind λ Jy =>
 (idx mX.1 CY).bind λ adJ =>
 (gT Jy adJ).bind λ Ow =>
 ae (!Ow)
 (some (.inl (i64 (CY+1))))
 (some (.inr CY)))
 (some (.inr CY))) mX.2.1).bind (λ (rH:Int) =>
 (bD (O:=Int) (λ (C0:Int) =>
 ae (decide (rH≤C0))
 ((idx mX.1 x1).bind λ Gh =>
 (idx mX.1 C0).bind λ Gi =>
 (gT Gh Gi).bind λ anb =>
 ae anb
 (some (.inl (i64 (C0 - 1))))
 (some (.inr C0)))
 (some (.inr C0))) mX.2.2).bind (λ (Ag:Int) =>
 ae (decide (rH > Ag))
 (some (.inr (mX.1,rH)))
 ((idx mX.1 Ag).bind λ T7 =>
 (idx mX.1 rH).bind λ adN =>
 (idx mX.1 rH).bind λ _ =>
 (idx (mX.1.set rH.toNat T7) Ag).bind λ _ =>
 some (.inl ((mX.1.set rH.toNat T7).set Ag.toNat adN,i64 (rH+1),i64 (Ag - 1))))))) ((x0.set x1.toNat Oq).set x3.toNat Jr,i64 (x1+1),i64 (x2 - 1))).bind (λ (IL:((List Int) × Int)) =>
 some (IL.1,IL.2))
def Cz(x0:(List Int))(x1:Int)(x2:Int)(x3:Int):Option ((List Int) × Int × Bool) :=
 (idx x0 x3).bind λ j4 =>
 (idx x0 x1).bind λ mf =>
 (idx x0 x1).bind λ _ =>
 (idx (x0.set x1.toNat j4) x3).bind λ _ =>
 (bD (O:=Int) (λ (CW:Int) =>
 ae (decide (CW≤i64 (x2 - 1)))
 ((idx ((x0.set x1.toNat j4).set x3.toNat mf) CW).bind λ adE =>
 (idx ((x0.set x1.toNat j4).set x3.toNat mf) x1).bind λ w9 =>
 (gT adE w9).bind λ adF =>
 ae adF
 (some (.inl (i64 (CW+1))))
 (some (.inr CW)))
 (some (.inr CW))) (i64 (x1+1))).bind (λ (s6:Int) =>
 (bD (O:=Int) (λ (CX:Int) =>
 ae (decide (s6≤CX))
 ((idx ((x0.set x1.toNat j4).set x3.toNat mf) CX).bind λ Gg =>
 (idx ((x0.set x1.toNat j4).set x3.toNat mf) x1).bind λ Jx =>
 (gT Gg Jx).bind λ am5 =>
 ae (!am5)
 (some (.inl (i64 (CX - 1))))
 (some (.inr CX)))
 (some (.inr CX))) (i64 (x2 - 1))).bind (λ (qA:Int) =>
 ae (decide (s6 > qA))
 ((idx ((x0.set x1.toNat j4).set x3.toNat mf) x1).bind λ T4 =>
 (idx ((x0.set x1.toNat j4).set x3.toNat mf) qA).bind λ adL =>
 (idx ((x0.set x1.toNat j4).set x3.toNat mf) qA).bind λ _ =>
 (idx (((x0.set x1.toNat j4).set x3.toNat mf).set qA.toNat T4) x1).bind λ _ =>
 some ((((x0.set x1.toNat j4).set x3.toNat mf).set qA.toNat T4).set x1.toNat adL,qA,true))
 ((idx ((x0.set x1.toNat j4).set x3.toNat mf) qA).bind λ T5 =>
 (idx ((x0.set x1.toNat j4).set x3.toNat mf) s6).bind λ adM =>
 (idx ((x0.set x1.toNat j4).set x3.toNat mf) s6).bind λ _ =>
 (idx (((x0.set x1.toNat j4).set x3.toNat mf).set s6.toNat T5) qA).bind λ _ =>
 (bD (O:=((List Int) × Int)) (λ (mZ:((List Int) × Int × Int)) =>
 (bD (O:=Int) (λ (C1:Int) =>
 ae (decide (C1≤mZ.2.2))
 ((idx mZ.1 C1).bind λ adP =>
 (idx mZ.1 x1).bind λ xa =>
 (gT adP xa).bind λ Dh =>
 ae Dh
 (some (.inl (i64 (C1+1))))
 (some (.inr C1)))
 (some (.inr C1))) mZ.2.1).bind (λ (s7:Int) =>
 (bD (O:=Int) (λ (C2:Int) =>
 ae (decide (s7≤C2))
 ((idx mZ.1 C2).bind λ adR =>
 (idx mZ.1 x1).bind λ adS =>
 (gT adR adS).bind λ anf =>
 ae (!anf)
 (some (.inl (i64 (C2 - 1))))
 (some (.inr C2)))
 (some (.inr C2))) mZ.2.2).bind (λ (yx:Int) =>
 ae (decide (s7 > yx))
 (some (.inr (mZ.1,yx)))
 ((idx mZ.1 yx).bind λ Uf =>
 (idx mZ.1 s7).bind λ yT =>
 (idx mZ.1 s7).bind λ _ =>
 (idx (mZ.1.set s7.toNat Uf) yx).bind λ _ =>
 some (.inl ((mZ.1.set s7.toNat Uf).set yx.toNat yT,i64 (s7+1),i64 (yx - 1))))))) ((((x0.set x1.toNat j4).set x3.toNat mf).set s6.toNat T5).set qA.toNat adM,i64 (s6+1),i64 (qA - 1))).bind (λ (qB:((List Int) × Int)) =>
 (idx qB.1 x1).bind λ Ug =>
 (idx qB.1 qB.2).bind λ adT =>
 (idx qB.1 qB.2).bind λ _ =>
 (idx (qB.1.set qB.2.toNat Ug) x1).bind λ _ =>
 some ((qB.1.set qB.2.toNat Ug).set x1.toNat adT,qB.2,false)))))
def wj:Nat→(List Int)→Int→Int→Int→Option (List Int)
 | 0,_,_,_,_=>none
 | k+1,x0,x1,x2,x3 =>
  (bD (O:=(List Int)) (λ (bC:((List Int) × Int × Int × Int × Bool × Bool)) =>
  ae (decide (i64 (bC.2.2.1 - bC.2.1)≤12))
  ((Cv bC.1 bC.2.1 bC.2.2.1).bind λ AY =>
  some (.inr AY))
  (ae (bC.2.2.2.1 == 0)
  ((Cw bC.1 bC.2.1 bC.2.2.1).bind λ Ue =>
  some (.inr Ue))
  ((((ae (!bC.2.2.2.2.1)
  ((zT bC.1 bC.2.1 bC.2.2.1).bind λ JB =>
  some (JB,i64 (bC.2.2.2.1 - 1)))
  (some (bC.1,bC.2.2.2.1))):Option ((List Int) × Int))).bind (λ (iN:((List Int) × Int)) =>
  (Cx iN.1 bC.2.1 bC.2.2.1).bind λ yS =>
  (((ae (yS.2 == 2)
  ((zU iN.1 bC.2.1 bC.2.2.1).bind λ AZ =>
  some (AZ,i64 ((i64 (bC.2.2.1 - 1)) - (i64 (yS.1 - bC.2.1))),1))
  (some (iN.1,yS.1,yS.2))):Option ((List Int) × Int × Int))).bind (λ (lh:((List Int) × Int × Int)) =>
  (((ae bC.2.2.2.2.1
  (ae bC.2.2.2.2.2
  (some (lh.2.2 == 1))
  (some false))
  (some false)):Option Bool)).bind (λ (IW:Bool) =>
  (((ae IW
  ((yp lh.1 bC.2.1 bC.2.2.1).bind λ pW =>
  ae pW.2
  (some (.inr pW.1))
  (some (.inl pW.1)))
  (some (.inl lh.1))):Option ((List Int) ⊕ (List Int)))).bind (Sum.elim (λ (rI:(List Int)) =>
  (((ae (decide (bC.2.1 > 0))
  ((idx rI (i64 (bC.2.1 - 1))).bind λ Gp =>
  (idx rI lh.2.1).bind λ Gq =>
  (gT Gp Gq).bind λ JD =>
  some (!JD))
  (some false)):Option Bool)).bind (λ (IX:Bool) =>
  ae IX
  ((Cy rI bC.2.1 bC.2.2.1 lh.2.1).bind λ JE =>
  some (.inl (JE.1,JE.2,bC.2.2.1,iN.2,bC.2.2.2.2.1,bC.2.2.2.2.2)))
  ((Cz rI bC.2.1 bC.2.2.1 lh.2.1).bind λ iD =>
  (o7 (i64 (bC.2.2.1 - bC.2.1)) 8).bind λ JF =>
  ae (decide (i64 (iD.2.1 - bC.2.1) < i64 (bC.2.2.1 - iD.2.1)))
  ((wj k iD.1 bC.2.1 iD.2.1 iN.2).bind λ Uh =>
  some (.inl (Uh,i64 (iD.2.1+1),bC.2.2.1,iN.2,decide (i64 (iD.2.1 - bC.2.1) ≥ JF),iD.2.2)))
  ((wj k iD.1 (i64 (iD.2.1+1)) bC.2.2.1 iN.2).bind λ Ui =>
  some (.inl (Ui,bC.2.1,iD.2.1,iN.2,decide (i64 (bC.2.2.1 - iD.2.1) ≥ JF),iD.2.2))))))
   (λ q=>some (.inr q))))))))) (x0,x1,x2,x3,true,true)).bind (λ q=>some q)
def Cr(x0:(List Int)):Option (List Int) :=
 (Cu (IntKind.wrap .u64 (x0.length:Int))).bind λ pk =>
 (wj 12 x0 0 (x0.length:Int) pk).bind λ dO =>
 some dO
def Cs(x0:(List Int)):Option (List Int) :=
 ae (decide ((x0.length:Int) < 2))
 (some x0)
 ((bD (O:=(Unit ⊕ (List Int))) (λ (pa:Int) =>
 ae (decide (pa < (x0.length:Int)))
 ((idx x0 pa).bind λ am1 =>
 (idx x0 (i64 (pa - 1))).bind λ yP =>
 ae (am1 == yP)
 ((kQ x0 pa (x0.length:Int)).bind λ _ =>
 (bD (O:=((List Int) × Int)) (λ (kJ:((List Int) × Int × Int)) =>
 ae (decide (kJ.2.2 < ((kJ.1.drop pa.toNat).length:Int)))
 ((idx (kJ.1.drop pa.toNat) kJ.2.2).bind λ am6 =>
 (idx (kJ.1.drop pa.toNat) (i64 (kJ.2.2 - 1))).bind λ adH =>
 ae (am6 != adH)
 ((idx (kJ.1.drop pa.toNat) kJ.2.2).bind λ adI =>
 (idx kJ.1 kJ.2.1).bind λ _ =>
 some (.inl (kJ.1.set kJ.2.1.toNat adI,i64 (kJ.2.1+1),i64 (kJ.2.2+1))))
 (some (.inl (kJ.1,kJ.2.1,i64 (kJ.2.2+1)))))
 (some (.inr (kJ.1,kJ.2.1)))) (x0,pa,1)).bind (λ (yw:((List Int) × Int)) =>
 (kQ yw.1 yw.2 (yw.1.length:Int)).bind λ _ =>
 (kQ (rZ yw.1 yw.2.toNat) 0 yw.2).bind λ adK =>
 some (.inr (.inr adK))))
 (some (.inl (i64 (pa+1)))))
 (some (.inr (.inl ())))) 1).bind (Sum.elim (λ (_:Unit) =>
 some x0)
  (λ q=>some q)))
def CC(x0:cI)(x1:(bH→Option Int)):Option (List Int) :=
 (bD (O:=(List Int)) (λ (qK:((List Int) × Int)) =>
 ae (decide (qK.2 < (x0.fH.length:Int)))
 ((idx x0.fH qK.2).bind λ iR =>
 (x1 iR).bind λ jk =>
 (gk qK.1 [jk]).bind λ nS =>
 some (.inl (nS,i64 (qK.2+1))))
 (some (.inr qK.1))) ([],0)).bind (λ (uB:(List Int)) =>
 (Cr uB).bind λ rQ =>
 (Cs rQ).bind λ mI =>
 some mI)
def Fq(x0:bH)(x1:Int):Option Int :=
 (idx x0.deep x1).bind λ dO =>
 some dO
def zX(x0:an)(x1:Int):Option ((List Int) × Int) :=
 (CB x1).bind λ eT =>
 (qx x0 (λ y=>rA y eT)).bind λ gq =>
 ae (gq.2 != 0)
 (some ([],gq.2))
 ((CC gq.1 (λ y=>Fq y x1)).bind λ ie =>
 some (ie,0))
def ET(x0:bH)(x1:cI)(x2:Int):Option Int :=
 (idx x0.deep x2).bind λ j5 =>
 (ym x1.book j5).bind λ jO =>
 some jO
def zY(x0:an)(x1:Int):Option (Reach × Int) :=
 (CB x1).bind λ jj =>
 (qx x0 (λ y=>rA y jj)).bind λ gz =>
 ae (gz.2 != 0)
 (some ((⟨0,0⟩:Reach),gz.2))
 ((CC gz.1 (λ y=>ET y gz.1 x1)).bind λ gX =>
 (idx gX 0).bind λ ig =>
 (idx gX (i64 ((gX.length:Int) - 1))).bind λ nj =>
 some ((⟨ig,nj⟩:Reach),0))
def Cj(x0:an)(x1:Int)(x2:Int):Option Int :=
 (qu x1 (x0.aB.length:Int)).bind λ j5 =>
 (qu x2 (x0.aA.length:Int)).bind λ jO =>
 some (sU j5 [jO])
def zM(x0:cI)(x1:Int):Option Int :=
 ae (x1 == 0)
 (some 2)
 (ae (x1 == (x0.fH.length:Int))
 (some 1)
 (some 0))
def EW(x0:bH)(x1:cI)(x2:Int)(x3:Int):Option Bool :=
 (zN x1.book x0 x2 x3).bind λ dO =>
 some dO
def wo(x0:an)(x1:Int)(x2:Int):Option (Int × Int) :=
 (qx x0 (λ y=>Cj y x1 x2)).bind λ cC =>
 ae (cC.2 != 0)
 (some (0,cC.2))
 ((wi cC.1 (λ y=>EW y cC.1 x1 x2)).bind λ eF =>
 (zM cC.1 eF).bind λ lq =>
 some (lq,0))
def zS(x0:(List Int)):Option (List Bool) :=
 (bD (O:=(List Bool)) (λ (wM:(Int × (List Bool))) =>
 ae (decide (wM.1 < (x0.length:Int)))
 ((idx x0 wM.1).bind λ gY =>
 (idx wM.2 gY).bind λ _ =>
 some (.inl (i64 (wM.1+1),wM.2.set gY.toNat true)))
 (some (.inr wM.2))) (0,[false,false,false,false])).bind (λ (NS:(List Bool)) =>
 some NS)
def zO(x0:an)(x1:(List (List Int))):Option ((List Bool) × Int) :=
 ae ((x1.length:Int) != (x0.aA.length:Int))
 (some ([false,false,false,false,false,false,false,false,false,false,false,false,false,false,false,false],2))
 ((bD (O:=((List Bool) ⊕ ((List Bool) × Int))) (λ (gW:(Int × (List Bool))) =>
 ae (decide (gW.1 < (x1.length:Int)))
 ((idx x1 gW.1).bind λ qS =>
 (idx x0.aA gW.1).bind λ T8 =>
 ae ((qS.length:Int) != T8.aB)
 (some (.inr (.inr ([false,false,false,false,false,false,false,false,false,false,false,false,false,false,false,false],2))))
 ((bD (O:=(Unit ⊕ ((List Bool) × Int))) (λ (qH:Int) =>
 ae (decide (qH < (qS.length:Int)))
 ((idx qS qH).bind λ Gn =>
 (qu Gn (x0.aB.length:Int)).bind λ JA =>
 ae (JA != 0)
 (some (.inr (.inr ([false,false,false,false,false,false,false,false,false,false,false,false,false,false,false,false],JA))))
 ((((ae (decide (qH > 0))
 ((idx qS (i64 (qH - 1))).bind λ T9 =>
 some (decide (Gn≤T9)))
 (some false)):Option Bool)).bind (λ (IU:Bool) =>
 ae IU
 (some (.inr (.inr ([false,false,false,false,false,false,false,false,false,false,false,false,false,false,false,false],7))))
 (some (.inl (i64 (qH+1)))))))
 (some (.inr (.inl ())))) 0).bind (Sum.elim (λ (_:Unit) =>
 (zS qS).bind λ Ua =>
 (iB 4 gW.2 gW.1).bind λ _ =>
 some (.inl (i64 (gW.1+1),C4 4 gW.2 gW.1 Ua)))
  (λ q=>some (.inr (.inr q))))))
 (some (.inr (.inl gW.2)))) (0,[false,false,false,false,false,false,false,false,false,false,false,false,false,false,false,false])).bind (Sum.elim (λ (FF:(List Bool)) =>
 some (FF,0))
  (λ q=>some q)))
def Cl(x0:an)(x1:(List (List Int)))(_:(List Bool)):Option ((List Bool) × Int) :=
 (zO x0 x1).bind λ dO =>
 some (dO.1,dO.2)
def Cp(x0:an)(x1:Int)(x2:Int):Option Bool :=
 (idx x0.aA x1).bind λ gh =>
 (idx x0.aA x2).bind λ eT =>
 ae (x1 != x2)
 (ae (decide (eT.gM ≥ i64 ((i64 (gh.gM+gh.gZ))+x0.Rest)))
 (some true)
 (some (decide (gh.gM ≥ i64 ((i64 (eT.gM+eT.gZ))+x0.Rest)))))
 (some false)
def zP(x0:an)(x1:(List Bool))(x2:Int):Option Bool :=
 (bD (O:=(Unit ⊕ Bool)) (λ (uD:Int) =>
 ae (decide (uD < x2))
 ((Cp x0 uD x2).bind λ Gc =>
 ae Gc
 (some (.inl (i64 (uD+1))))
 ((bD (O:=(Unit ⊕ Bool)) (λ (CV:Int) =>
 ae (decide (CV < (x0.aB.length:Int)))
 ((iB 4 x1 uD).bind λ am2 =>
 (idx am2 CV).bind λ adG =>
 ae adG
 ((iB 4 x1 x2).bind λ am3 =>
 (idx am3 CV).bind λ am4 =>
 ae am4
 (some (.inr (.inr false)))
 (some (.inl (i64 (CV+1)))))
 (some (.inl (i64 (CV+1)))))
 (some (.inr (.inl ())))) 0).bind (Sum.elim (λ (_:Unit) =>
 some (.inl (i64 (uD+1))))
  (λ q=>some (.inr (.inr q))))))
 (some (.inr (.inl ())))) 0).bind (Sum.elim (λ (_:Unit) =>
 some true)
  (λ q=>some q))
def zQ(x0:bH)(x1:an)(x2:(List Bool))(x3:cI):Option Bool :=
 (bD (O:=(Unit ⊕ Bool)) (λ (wI:Int) =>
 ae (decide (wI < (x1.aA.length:Int)))
 ((iB 4 x2 wI).bind λ adx =>
 (bD (O:=(Unit ⊕ Bool)) (λ (Av:Int) =>
 ae (decide (Av < 4))
 ((idx adx Av).bind λ adA =>
 ae adA
 ((zN x3.book x0 Av wI).bind λ Df =>
 ae (!Df)
 (some (.inr (.inr false)))
 (some (.inl (i64 (Av+1)))))
 (some (.inl (i64 (Av+1)))))
 (some (.inr (.inl ())))) 0).bind (Sum.elim (λ (_:Unit) =>
 some (.inl (i64 (wI+1))))
  (λ q=>some (.inr (.inr q)))))
 (some (.inr (.inl ())))) 0).bind (Sum.elim (λ (_:Unit) =>
 some true)
  (λ q=>some q))
def EV(x0:an)(yL:(List (List Int)))(tt:(List Bool)):Option ((List Bool) × cI × Int) :=
 (rE x0).bind λ ie =>
 ae (ie != 0)
 (some (tt,(⟨⟨0,[],[],[],[],[]⟩,[]⟩:cI),ie))
 ((Cl x0 yL tt).bind λ gr =>
 ae (gr.2 != 0)
 (some (gr.1,(⟨⟨0,[],[],[],[],[]⟩,[]⟩:cI),gr.2))
 ((z6 (λ y s=>qw y x0 s)).bind λ ig =>
 ae ((ig.length:Int) == 0)
 (some (gr.1,(⟨⟨0,[],[],[],[],[]⟩,[]⟩:cI),9))
 (some (gr.1,(⟨⟨x0.Rest,x0.Rows,x0.aQ,x0.aB,x0.aA,x0.bh⟩,ig⟩:cI),0))))
def m32(x0:an)(x1:(List (List Int))):Option (Int × Int) :=
 (EV x0 x1 [false,false,false,false,false,false,false,false,false,false,false,false,false,false,false,false]).bind λ ft =>
 ae (ft.2.2 != 0)
 (some (0,ft.2.2))
 ((bD (O:=(Unit ⊕ (Int × Int))) (λ (wO:Int) =>
 ae (decide (wO < (x0.aA.length:Int)))
 ((zP ft.2.1.book ft.1 wO).bind λ nR =>
 ae (!nR)
 (some (.inr (.inr (2,0))))
 (some (.inl (i64 (wO+1)))))
 (some (.inr (.inl ())))) 0).bind (Sum.elim (λ (_:Unit) =>
 (wi ft.2.1 (λ y=>zQ y x0 ft.1 ft.2.1)).bind λ iR =>
 (zM ft.2.1 iR).bind λ tx =>
 some (tx,0))
  (λ q=>some q)))
def pM(_:an):Option Int :=
 some 0
def rB{S:Type}(ys:(List Bool)→S→Option (S × Bool)):Nat→((List Bool)→Int→cI→Int→(List Bool)→(List Bool)→S→Option (S × Bool)) × ((List Bool)→Int→Int→Int→cI→Int→(List Bool)→(List Bool)→S→Option (S × Bool))
 | 0=>(λ _ _ _ _ _ _ _=>none,λ _ _ _ _ _ _ _ _ _=>none)
 | k+1=>(λ x0 x1 xX xO xG xA s0 =>
  ae (x1 == (xX.book.aA.length:Int))
  ((ys x0 s0).bind λ gh =>
  some (gh.1,gh.2))
  ((mD .i64 xO x1).bind λ eT =>
  (fT .and .i64 eT 1).bind λ gq =>
  ae (gq == 1)
  (((rB ys k).1 x0 (i64 (x1+1)) xX xO xG xA s0).bind λ jj =>
  some (jj.1,jj.2))
  ((idx xX.book.aA x1).bind λ gz =>
  ((rB ys k).2 x0 x1 0 gz.aB xX xO xG xA s0).bind λ eF =>
  some (eF.1,eF.2))),
  λ x0 x1 x2 x3 xX xO xG xA s0 =>
  ae (x3 == 0)
  (((((zP xX.book x0 x1).bind λ gq =>
  ae (!gq)
  (some (s0,true))
  (((rB ys k).1 x0 (i64 (x1+1)) xX xO xG xA s0).bind λ cC =>
  some (cC.1,cC.2))):Option (S × Bool))).bind (λ (Ai:(S × Bool)) =>
  some (Ai.1,Ai.2)))
  ((bD (O:=(S ⊕ (S × Bool))) (λ (cy:(S × Int × (List Bool))) =>
  ae (decide (cy.2.1 < (xX.book.aB.length:Int)))
  (((((idx xG cy.2.1).bind λ Gu =>
  ae (!Gu)
  (some true)
  ((iB 4 xA x1).bind λ yW =>
  (idx yW cy.2.1).bind λ Gx =>
  some (!Gx))):Option Bool)).bind (λ (I0:Bool) =>
  ae I0
  (some (.inl (cy.1,i64 (cy.2.1+1),cy.2.2)))
  ((iB 4 cy.2.2 x1).bind λ Un =>
  (idx Un cy.2.1).bind λ _ =>
  ((rB ys k).2 (qL 4 cy.2.2 x1 cy.2.1 true) x1 (i64 (cy.2.1+1)) (i64 (x3 - 1)) xX xO xG xA cy.1).bind λ tA =>
  ae (!tA.2)
  (some (.inr (.inr (tA.1,false))))
  ((iB 4 (qL 4 cy.2.2 x1 cy.2.1 true) x1).bind λ yI =>
  (idx yI cy.2.1).bind λ _ =>
  some (.inl (tA.1,i64 (cy.2.1+1),qL 4 (qL 4 cy.2.2 x1 cy.2.1 true) x1 cy.2.1 false))))))
  (some (.inr (.inl cy.1)))) (s0,x2,x0)).bind (Sum.elim (λ (o5:S) =>
  some (o5,true))
   (λ q=>some q))))
def ui{S:Type}(ys:(List Bool)→S→Option (S × Bool))(x1:cI)(x2:Int)(x3:(List Bool))(x4:(List Bool))(s0:S):Option S :=
 ((rB ys 40).1 [false,false,false,false,false,false,false,false,false,false,false,false,false,false,false,false] 0 x1 x2 x3 x4 s0).bind λ rO =>
  some rO.1
def Cm(x0:cI)(x1:(List Bool))(x2:(List Bool))(x3:Int):Option (cI × Int × (List Bool) × (List Bool)) :=
 some (x0,x3,x2,x1)
def zR(x0:an):Option (List Bool) :=
 (bD (O:=(List Bool)) (λ (ee:(Int × (List Bool))) =>
 ae (decide (ee.1 < (x0.aB.length:Int)))
 ((idx ee.2 ee.1).bind λ _ =>
 some (.inl (i64 (ee.1+1),ee.2.set ee.1.toNat true)))
 (some (.inr ee.2))) (0,[false,false,false,false])).bind (λ (o6:(List Bool)) =>
 some o6)
def Ff(x0:an):Option (Int × Int) :=
 (qx x0 (λ y=>pM y)).bind λ iw =>
 ae (iw.2 != 0)
 (some (0,iw.2))
 ((yn iw.1).bind λ eF =>
 (zR iw.1.book).bind λ lq =>
 (Cm iw.1 eF lq 0).bind λ gr =>
 (ui (gV (λ (_:(List Bool)) (ll:Int)=>((some (.inl (i64 (ll+1)))):Option (Int ⊕ Empty)))) gr.1 gr.2.1 gr.2.2.1 gr.2.2.2 (.inl 0)).bind (Sum.elim (λ (ll:Int) =>
 some (ll,0))
  (λ (o:Empty)=>o.elim)))
def H6(x0:an)(x1:(List Bool)):Option (List (List Int)) :=
 (bD (O:=(List (List Int))) (λ (wK:((List (List Int)) × Int)) =>
 ae (decide (wK.2 < (x0.aA.length:Int)))
 ((iB 4 x1 wK.2).bind λ AV =>
 (bD (O:=(List Int)) (λ (te:((List Int) × Int)) =>
 ae (decide (te.2 < 4))
 ((idx AV te.2).bind λ amW =>
 ae amW
 ((gk te.1 [te.2]).bind λ amX =>
 some (.inl (amX,i64 (te.2+1))))
 (some (.inl (te.1,i64 (te.2+1)))))
 (some (.inr te.1))) ([],0)).bind (λ (NR:(List Int)) =>
 (gk wK.1 [NR]).bind λ amY =>
 some (.inl (amY,i64 (wK.2+1)))))
 (some (.inr wK.1))) ([],0)).bind (λ (SA:(List (List Int))) =>
 some SA)
def Is(x0:an):Option ((List (List Int)) × Bool × Int) :=
 (qx x0 (λ y=>pM y)).bind λ gK =>
 ae (gK.2 != 0)
 (some ([],false,gK.2))
 ((yn gK.1).bind λ yU =>
 (zR gK.1.book).bind λ Gr =>
 (Cm gK.1 yU Gr 0).bind λ lu =>
 (ui (gV (λ (adV:(List Bool)) (_:Unit)=>(((H6 gK.1.book adV).bind λ nQ =>
 some (.inr nQ)):Option (Unit ⊕ (List (List Int)))))) lu.1 lu.2.1 lu.2.2.1 lu.2.2.2 (.inl ())).bind (Sum.elim (λ (_:Unit) =>
 some ([],false,0))
  (λ (yy:(List (List Int))) =>
 some (yy,true,0))))
def Nm (x1:((List Bool)→((List (List Bool)) ⊕ Empty)→Option (((List (List Bool)) ⊕ Empty) × Bool))→((List (List Bool)) ⊕ Empty)→Option ((List (List Bool)) ⊕ Empty)):Option (List (List Bool)) :=
 (x1 (gV (λ (tv:(List Bool)) (kK:(List (List Bool)))=>(((gk kK [tv]).bind λ gX =>
 some (.inl gX)):Option ((List (List Bool)) ⊕ Empty)))) (.inl [])).bind (Sum.elim (λ (kK:(List (List Bool))) =>
 some kK)
  (λ (o:Empty)=>o.elim))
def Nc (x0:((List Bool)→((List (List Bool)) ⊕ Empty)→Option (((List (List Bool)) ⊕ Empty) × Bool))→((List (List Bool)) ⊕ Empty)→Option ((List (List Bool)) ⊕ Empty)):Option (List (List Bool)) :=
 (Nm x0).bind λ df =>
 some df
def Nd(x0:((List Bool)→Option Int))(x1:(List (List Bool))):Option (List Bool) :=
 (idx x1 0).bind λ iQ =>
 (kQ x1 1 (x1.length:Int)).bind λ xb =>
 (bD (O:=(List Bool)) (λ (m5:(Int × (List Bool))) =>
 ae (decide (m5.1 < (xb.length:Int)))
 ((idx xb m5.1).bind λ pZ =>
 (x0 pZ).bind λ rQ =>
 (x0 m5.2).bind λ mI =>
 ae (decide (rQ < mI))
 (some (.inl (i64 (m5.1+1),pZ)))
 (some (.inl (i64 (m5.1+1),m5.2))))
 (some (.inr m5.2))) (0,iQ)).bind (λ (FG:(List Bool)) =>
 some FG)
def EX(x0:an)(x1:(List Bool)):Option Int :=
 (bD (O:=Int) (λ (di:((Int→Int) × Int × Int)) =>
 ae (decide (di.2.2 < (x0.aA.length:Int)))
 ((idx x0.aA di.2.2).bind λ uX =>
 (iB 4 x1 di.2.2).bind λ Gb =>
 (bD (O:=((Int→Int) × Int)) (λ (ic:((Int→Int) × Int × Int)) =>
 ae (decide (ic.2.2 < 4))
 ((idx Gb ic.2.2).bind λ AV =>
 ae AV
 (some (.inl (uL ic.1 ic.2.2 (i64 ((ic.1 ic.2.2)+uX.gZ)),sU ic.2.1 [(uL ic.1 ic.2.2 (i64 ((ic.1 ic.2.2)+uX.gZ))) ic.2.2],i64 (ic.2.2+1))))
 (some (.inl (ic.1,ic.2.1,i64 (ic.2.2+1)))))
 (some (.inr (ic.1,ic.2.1)))) (di.1,di.2.1,0)).bind (λ (IM:((Int→Int) × Int)) =>
 some (.inl (IM.1,IM.2,i64 (di.2.2+1)))))
 (some (.inr di.2.1))) ((λ _=>0),0,0)).bind (λ (ov:Int) =>
 some ov)
def It(x0:an):Option ((List (List Int)) × Int × Bool × Int) :=
 (qx x0 (λ y=>pM y)).bind λ eF =>
 ae (eF.2 != 0)
 (some ([],0,false,eF.2))
 ((yn eF.1).bind λ gX =>
 (zR eF.1.book).bind λ ig =>
 (Cm eF.1 gX ig 0).bind λ nj =>
 (Nc (λ y s=>ui y nj.1 nj.2.1 nj.2.2.1 nj.2.2.2 s)).bind λ yU =>
 ae ((yU.length:Int) == 0)
 (some ([],0,false,0))
 ((Nd (λ y=>EX eF.1.book y) yU).bind λ iQ =>
 (H6 eF.1.book iQ).bind λ xb =>
 (EX eF.1.book iQ).bind λ nQ =>
 some (xb,nQ,true,0)))
def Co(x0:Int):Option (List Int) :=
 (bD (O:=(List Int)) (λ (tf:((List Int) × Int)) =>
 ae (decide (tf.2 < 4))
 ((mD .i64 x0 tf.2).bind λ A0 =>
 (fT .and .i64 A0 1).bind λ pY =>
 ae (pY == 1)
 ((gk tf.1 [tf.2]).bind λ iR =>
 some (.inl (iR,i64 (tf.2+1))))
 (some (.inl (tf.1,i64 (tf.2+1)))))
 (some (.inr tf.1))) ([],0)).bind (λ (wE:(List Int)) =>
 some wE)
def Nr(x0:Int)(x1:Int):Option Int :=
 (zW x0).bind λ jj =>
 (zW x1).bind λ gz =>
 ae jj
 (ae gz
 (some 0)
 (some (-1)))
 (ae gz
 (some 1)
 (ae (decide (x0 < x1))
 (some (-1))
 (ae (decide (x0 > x1))
 (some 1)
 (some 0))))
def Ih(x0:(List Int))(x1:(List Int)):Option Int :=
 (bD (O:=(Unit ⊕ Int)) (λ (C3:Int) =>
 ae (decide (C3 < (x0.length:Int)))
 ((idx x0 C3).bind λ mI =>
 ae (decide (C3 ≥ (x1.length:Int)))
 (some (.inr (.inr 1)))
 ((idx x1 C3).bind λ Ba =>
 (Nr mI Ba).bind λ tz =>
 ae (tz != 0)
 (some (.inr (.inr tz)))
 (some (.inl (i64 (C3+1))))))
 (some (.inr (.inl ())))) 0).bind (Sum.elim (λ (_:Unit) =>
 ae (decide ((x0.length:Int) < (x1.length:Int)))
 (some (-1))
 (some 0))
  (λ q=>some q))
def EY(x0:Int)(x1:(Int→Option Bool)):Option ((List Int) × Bool) :=
 (Ay .i64 1 x0).bind λ nS =>
 (bD (O:=((List Int) × Bool)) (λ (fU:((List Int) × Bool × Int)) =>
 ae (decide (fU.2.2 < nS))
 ((Co fU.2.2).bind λ j3 =>
 (((ae (!fU.2.1)
 ((x1 fU.2.2).bind λ pj =>
 some pj)
 (ae (decide ((j3.length:Int) < (fU.1.length:Int)))
 ((x1 fU.2.2).bind λ De =>
 some De)
 (ae ((j3.length:Int) == (fU.1.length:Int))
 ((Ih j3 fU.1).bind λ Ga =>
 ae (decide (Ga < 0))
 ((x1 fU.2.2).bind λ TY =>
 some TY)
 (some false))
 (some false)))):Option Bool)).bind (λ (IJ:Bool) =>
 ae IJ
 (some (.inl (j3,true,i64 (fU.2.2+1))))
 (some (.inl (fU.1,fU.2.1,i64 (fU.2.2+1))))))
 (some (.inr (fU.1,fU.2.1)))) ([],false,0)).bind (λ (Al:((List Int) × Bool)) =>
 some (Al.1,Al.2))
def EZ(x0:cI)(x1:(List Bool))(x2:(List Bool))(x3:Int):Option Bool :=
 (Cm x0 x1 x2 x3).bind λ eT =>
 (ui (gV (λ (_:(List Bool)) (_:Unit)=>((some (.inr ())):Option (Unit ⊕ Unit)))) eT.1 eT.2.1 eT.2.2.1 eT.2.2.2 (.inl ())).bind (Sum.elim (λ (_:Unit) =>
 some false)
  (λ (_:Unit) =>
 some true))
def H7(x0:Int)(x1:cI)(x2:(List Bool))(x3:(List Bool)):Option Bool :=
 (Co x0).bind λ mH =>
 (zS mH).bind λ lp =>
 (EZ x1 x2 lp 0).bind λ eT =>
 ae eT
 (some true)
 (ae (Wm lp x3 == true)
 ((EZ x1 x2 x3 0).bind λ cC =>
 some cC)
 (some false))
def Iu(x0:an):Option ((List Int) × Bool × Int) :=
 (qx x0 (λ y=>pM y)).bind λ cC =>
 ae (cC.2 != 0)
 (some ([],false,cC.2))
 ((yn cC.1).bind λ eF =>
 (zR cC.1.book).bind λ lq =>
 (EY (x0.aB.length:Int) (λ y=>H7 y cC.1 eF lq)).bind λ gX =>
 some (gX.1,gX.2,0))
def H8(x0:Int)(x1:cI)(x2:(List Bool))(x3:(List Bool)):Option Bool :=
 (EZ x1 x2 x3 x0).bind λ df =>
 some df
def Fg(x0:an):Option ((List Int) × Int) :=
 (qx x0 (λ y=>pM y)).bind λ cC =>
 ae (cC.2 != 0)
 (some ([],cC.2))
 ((yn cC.1).bind λ eF =>
 (zR cC.1.book).bind λ lq =>
 (EY (x0.aA.length:Int) (λ y=>H8 y cC.1 eF lq)).bind λ gX =>
 some (gX.1,0))
def Fh(x0:an)(x1:fg):Option an :=
 (gk [] x0.bh).bind λ cC =>
 (gk cC [x1]).bind λ ie =>
 some (⟨x0.Rest,x0.Rows,x0.aQ,x0.aB,x0.aA,ie⟩:an)
def Fi(x0:an)(x1:Int):Option (Int × Int) :=
 (rE x0).bind λ gh =>
 ae (gh != 0)
 (some (0,gh))
 ((kZ x1 1 30).bind λ cC =>
 ae (!cC)
 (some (0,1))
 ((ym (⟨x0.Rest,x0.Rows,x0.aQ,x0.aB,x0.aA,x0.bh⟩:an) x1).bind λ ie =>
 some (ie,0)))
def Fj(x0:Int)(x1:Int):Option Reach :=
 some (⟨x0,x1⟩:Reach)
def Ib(x0:(List fg)):Option (List fg) :=
 (gk [] x0).bind λ df =>
 some df
def Ii(x0:(List gj)):Option (List gj) :=
 (gk [] x0).bind λ df =>
 some df
def Ij(x0:(List Reach)):Option (List Reach) :=
 (gk [] x0).bind λ df =>
 some df
def Ik(x0:(List fK)):Option (List fK) :=
 (gk [] x0).bind λ df =>
 some df
def Il(x0:(List nu)):Option (List nu) :=
 (gk [] x0).bind λ df =>
 some df
def Nf(x0:an):Option an :=
 (Ii x0.Rows).bind λ rP =>
 (Ij x0.aQ).bind λ ie =>
 (Ik x0.aB).bind λ jj =>
 (Il x0.aA).bind λ gz =>
 (Ib x0.bh).bind λ eF =>
 some (⟨x0.Rest,rP,ie,jj,gz,eF⟩:an)
def Iv(x0:an)(x1:Int)(x2:Int):Option (an × Int) :=
 (rE x0).bind λ j3 =>
 ae (j3 != 0)
 (some ((⟨0,[],[],[],[],[]⟩:an),j3))
 ((kZ x1 1 30).bind λ TX =>
 (((ae (!TX)
 (some (!TX))
 ((kZ x2 1 60).bind λ uW =>
 some (!uW))):Option Bool)).bind (λ (SB:Bool) =>
 ae SB
 (some ((⟨0,[],[],[],[],[]⟩:an),1))
 ((ym (⟨x0.Rest,x0.Rows,x0.aQ,x0.aB,x0.aA,x0.bh⟩:an) x1).bind λ Ga =>
 ae (decide (x2 > Ga))
 (some ((⟨0,[],[],[],[],[]⟩:an),7))
 ((bD (O:=(List gj)) (λ (o9:((List gj) × Bool × Int)) =>
 ae (decide (o9.2.2 < (x0.Rows.length:Int)))
 ((idx x0.Rows o9.2.2).bind λ ni =>
 (((ae (decide (ni.eX > x1))
 (some (!o9.2.1))
 (some false)):Option Bool)).bind (λ (SG:Bool) =>
 (((ae SG
 ((gk o9.1 [(⟨x1,x2⟩:gj)]).bind λ amU =>
 some (amU,true))
 (some (o9.1,o9.2.1))):Option ((List gj) × Bool))).bind (λ (IN:((List gj) × Bool)) =>
 (((ae (decide (ni.eX ≥ x1))
 (some (true,CE ni.fG [x2]))
 (some (IN.2,ni.fG))):Option (Bool × Int))).bind (λ (FE:(Bool × Int)) =>
 (gk IN.1 [(⟨ni.eX,FE.2⟩:gj)]).bind λ Ou =>
 some (.inl (Ou,FE.1,i64 (o9.2.2+1)))))))
 (some (.inr o9.1))) ([],false,0)).bind (λ (IK:(List gj)) =>
 ae (decide ((IK.length:Int) > 4))
 (some ((⟨0,[],[],[],[],[]⟩:an),2))
 ((Nf (⟨x0.Rest,IK,x0.aQ,x0.aB,x0.aA,x0.bh⟩:an)).bind λ adD =>
 some (adD,0)))))))
def Ni(x0:an)(x1:Int):Option an :=
 (Co x1).bind λ lu =>
 (bD (O:=(List fg)) (λ (qJ:((List fg) × Int)) =>
 ae (decide (qJ.2 < (lu.length:Int)))
 ((idx lu qJ.2).bind λ pY =>
 (idx x0.bh pY).bind λ nR =>
 (gk qJ.1 [nR]).bind λ iR =>
 some (.inl (iR,i64 (qJ.2+1))))
 (some (.inr qJ.1))) ([],0)).bind (λ (yy:(List fg)) =>
 some (⟨x0.Rest,x0.Rows,x0.aQ,x0.aB,x0.aA,yy⟩:an))
def Nj(x0:an):Option Bool :=
 (qw (gV (λ (_:bH) (_:Unit)=>((some (.inr ())):Option (Unit ⊕ Unit)))) x0 (.inl ())).bind (Sum.elim (λ (_:Unit) =>
 some false)
  (λ (_:Unit) =>
 some true))
def H9(x0:Int)(x1:an):Option Bool :=
 (Ni x1 x0).bind λ pk =>
 (Nj pk).bind λ dO =>
 some (!dO)
def Iw(x0:an):Option ((List Int) × Int) :=
 (rE x0).bind λ lp =>
 ae (lp != 0)
 (some ([],lp))
 ((EY (x0.bh.length:Int) (λ y=>H9 y x0)).bind λ cC =>
 some (cC.1,0))
def Ia(x0:bH)(x1:Int)(x2:Int):Option Bool :=
 (idx x0.deep x1).bind λ dO =>
 some (decide (dO≤x2))
def Ix(x0:an):Option (Int × Int × Int × Int) :=
 (qx x0 (λ y=>pM y)).bind λ iS =>
 ae (iS.2 != 0)
 (some (0,0,0,iS.2))
 ((bD (O:=(Int × Int × Int)) (λ (di:(Int × Int × Int × Int)) =>
 ae (decide (di.2.2.2 < (x0.aQ.length:Int)))
 ((bD (O:=(Int × Int × Int)) (λ (mW:(Int × Int × Int × Int)) =>
 ae (decide (mW.2.2.2 < 31))
 ((wi iS.1 (λ y=>Ia y di.2.2.2 mW.2.2.2)).bind λ tq =>
 ae (decide (sU tq [i64 ((iS.1.fH.length:Int) - tq)] < mW.2.2.1))
 (some (.inl (di.2.2.2,mW.2.2.2,sU tq [i64 ((iS.1.fH.length:Int) - tq)],i64 (mW.2.2.2+1))))
 (some (.inl (mW.1,mW.2.1,mW.2.2.1,i64 (mW.2.2.2+1)))))
 (some (.inr (mW.1,mW.2.1,mW.2.2.1)))) (di.1,di.2.1,di.2.2.1,0)).bind (λ (CL:(Int × Int × Int)) =>
 some (.inl (CL.1,CL.2.1,CL.2.2,i64 (di.2.2.2+1)))))
 (some (.inr (di.1,di.2.1,di.2.2.1)))) ((-1),(-1),(iS.1.fH.length:Int),0)).bind (λ (ov:(Int × Int × Int)) =>
 some (ov.1,ov.2.1,ov.2.2,0)))
def Iy(x0:an)(x1:Int)(x2:Int):Option (Bool × Int) :=
 (rE x0).bind λ iw =>
 ae (iw != 0)
 (some (false,iw))
 ((qu x1 (x0.aA.length:Int)).bind λ jj =>
 (qu x2 (x0.aA.length:Int)).bind λ gz =>
 ae (sU jj [gz] != 0)
 (some (false,sU jj [gz]))
 ((Cp (⟨x0.Rest,x0.Rows,x0.aQ,x0.aB,x0.aA,x0.bh⟩:an) x1 x2).bind λ gK =>
 some (gK,0)))
def Ic(x0:Int):Option Reach :=
 some (⟨x0,x0⟩:Reach)
def NH  : Option an :=
 (Fj 9 11).bind λ cC =>
 (Ic 15).bind λ rP =>
 some (⟨10,[(⟨10,40⟩:gj),(⟨20,20⟩:gj)],[cC,rP],[(⟨⟨#[97,110,110]⟩,20⟩:fK),(⟨⟨#[98,111]⟩,12⟩:fK)],[(⟨0,0,20,2⟩:nu),(⟨1,30,15,1⟩:nu),(⟨0,60,30,1⟩:nu)],[]⟩:an)
def Ch(x0:(List Int))(x1:(List Int)):Option Bool :=
 (bD (O:=(Unit ⊕ Bool)) (λ (wQ:Int) =>
 ae (decide (wQ < (x1.length:Int)))
 ((((ae (decide (wQ ≥ (x0.length:Int)))
 (some true)
 ((idx x0 wQ).bind λ ox =>
 (idx x1 wQ).bind λ TW =>
 some (decide (ox < TW)))):Option Bool)).bind (λ (Ae:Bool) =>
 ae Ae
 (some (.inr (.inr true)))
 ((idx x0 wQ).bind λ yK =>
 (idx x1 wQ).bind λ qQ =>
 ae (decide (yK > qQ))
 (some (.inr (.inr false)))
 (some (.inl (i64 (wQ+1)))))))
 (some (.inr (.inl ())))) 0).bind (Sum.elim (λ (_:Unit) =>
 some false)
  (λ q=>some q))
def yq(x0:(List Int))(x1:(List Int)):Option Bool :=
 (Ch x0 x1).bind λ dO =>
 ae (!dO)
 ((Ch x1 x0).bind λ jO =>
 some (!jO))
 (some false)
def zZ(x0:(List Int))(x1:(List Int)):Option Bool :=
 (yq x0 x1).bind λ df =>
 some df
def NC(x0:(List (List Int)))(x1:(List (List Int))):Option Bool :=
 ae ((x0.length:Int) != (x1.length:Int))
 (some false)
 ((bD (O:=(Unit ⊕ Bool)) (λ (gp:Int) =>
 ae (decide (gp < (x0.length:Int)))
 ((idx x0 gp).bind λ A0 =>
 (idx x1 gp).bind λ pY =>
 (yq A0 pY).bind λ nR =>
 ae (!nR)
 (some (.inr (.inr false)))
 (some (.inl (i64 (gp+1)))))
 (some (.inr (.inl ())))) 0).bind (Sum.elim (λ (_:Unit) =>
 some true)
  (λ q=>some q)))
def Iz(x0:(List (List Int)))(x1:(List (List Int))):Option Bool :=
 (NC x0 x1).bind λ df =>
 some df
def E3  : Option Bool :=
 (NH).bind λ fq =>
 (Fh fq (⟨0,10,true⟩:fg)).bind λ ji =>
 (Fi fq 10).bind λ Gd =>
 (Fi fq 21).bind λ yM =>
 (zV fq).bind λ yN =>
 (zX ji 0).bind λ w8 =>
 (zY fq 0).bind λ yO =>
 (wo fq 1 0).bind λ yP =>
 (wo fq 1 1).bind λ Ge =>
 (wo fq 1 2).bind λ AW =>
 (Iy fq 0 1).bind λ Dg =>
 (m32 fq ([[0,1],[0],[1]])).bind λ Gf =>
 (m32 ji ([[0,1],[0],[1]])).bind λ w9 =>
 (((ae (Gd.2 != 0)
 (some true)
 (ae (yM.2 != 0)
 (some true)
 (ae (yN.2 != 0)
 (some true)
 (ae (w8.2 != 0)
 (some true)
 (ae (yO.2 != 0)
 (some true)
 (ae (yP.2 != 0)
 (some true)
 (ae (Ge.2 != 0)
 (some true)
 (ae (AW.2 != 0)
 (some true)
 (ae (Dg.2 != 0)
 (some true)
 (ae (Gf.2 != 0)
 (some true)
 (some (w9.2 != 0)))))))))))):Option Bool)).bind (λ (IP:Bool) =>
 ae IP
 (some false)
 ((((ae (Gd.1 != 40)
 (some true)
 (ae (yM.1 != 0)
 (some true)
 (ae (yN.1 != 3)
 (some true)
 ((zZ w8.1 [9,10]).bind λ T6 =>
 ae (!T6)
 (some true)
 ((Fj 20 40).bind λ Oz =>
 ae (!(KF yO.1 Oz == true))
 (some true)
 (ae (yP.1 != 1)
 (some true)
 (ae (Ge.1 != 2)
 (some true)
 (ae (AW.1 != 0)
 (some true)
 (ae (!Dg.1)
 (some true)
 (ae (Gf.1 != 0)
 (some true)
 (some (w9.1 != 1)))))))))))):Option Bool)).bind (λ (IQ:Bool) =>
 ae IQ
 (some false)
 ((Ff fq).bind λ Gj =>
 (Ff ji).bind λ Gk =>
 (Is ji).bind λ yQ =>
 (It ji).bind λ tu =>
 (Iu ji).bind λ yR =>
 (Fg fq).bind λ Gl =>
 (Ix fq).bind λ pV =>
 (Iv ji 12 15).bind λ qR =>
 (Fg qR.1).bind λ Jz =>
 (Fh ji (⟨0,8,true⟩:fg)).bind λ OA =>
 (Iw OA).bind λ Gm =>
 (((ae (Gj.2 != 0)
 (some true)
 (ae (Gk.2 != 0)
 (some true)
 (ae (yQ.2.2 != 0)
 (some true)
 (ae (tu.2.2.2 != 0)
 (some true)
 (ae (yR.2.2 != 0)
 (some true)
 (ae (Gl.2 != 0)
 (some true)
 (ae (pV.2.2.2 != 0)
 (some true)
 (ae (qR.2 != 0)
 (some true)
 (ae (Jz.2 != 0)
 (some true)
 (some (Gm.2 != 0))))))))))):Option Bool)).bind (λ (IS:Bool) =>
 ae IS
 (some false)
 ((((ae (Gj.1 != 0)
 (some true)
 (ae (Gk.1 != 2)
 (some true)
 (ae (!yQ.2.1)
 (some true)
 ((Iz yQ.1 ([[0,1],[0],[0]])).bind λ Ub =>
 ae (!Ub)
 (some true)
 (ae (!tu.2.2.1)
 (some true)
 (ae (tu.2.1 != 50)
 (some true)
 ((Iz tu.1 ([[0,1],[0],[1]])).bind λ AX =>
 ae (!AX)
 (some true)
 (ae (!yR.2.1)
 (some true)
 ((zZ yR.1 [0,1]).bind λ AY =>
 ae (!AY)
 (some true)
 ((zZ Gl.1 [2]).bind λ Ud =>
 some (!Ud))))))))))):Option Bool)).bind (λ (IT:Bool) =>
 ae IT
 (some false)
 (ae (pV.1 == 0)
 (ae (pV.2.1 == 9)
 (ae (pV.2.2.1 == 2)
 (ae ((Jz.1.length:Int) == 0)
 ((zZ Gm.1 [1]).bind λ OD =>
 ae OD
 (ae ((qR.1.Rows.length:Int) == 3)
 ((idx qR.1.Rows 1).bind λ yT =>
 ae (KG yT (⟨12,15⟩:gj) == true)
 ((idx qR.1.Rows 2).bind λ JC =>
 some (KG JC (⟨20,15⟩:gj) == true))
 (some false))
 (some false))
 (some false))
 (some false))
 (some false))
 (some false))
 (some false)))))))))
def lP(x0:Int)(x1:Int)(x2:Int):Option Bool :=
 ae (decide (x1≤x0))
 (some (decide (x0≤x2)))
 (some false)
def Cg(x0:an)(x1:Int):Option Bool :=
 (lP x1 0 (i64 ((x0.aQ.length:Int) - 1))).bind λ dO =>
 some dO
def Ng(x0:an):Option Int :=
 (lP x0.Rest 0 60).bind λ yW =>
 ae (!yW)
 (some 1)
 ((lP (x0.Rows.length:Int) 1 4).bind λ nT =>
 ae (!nT)
 (some 2)
 ((bD (O:=(Unit ⊕ Int)) (λ (wT:Int) =>
 ae (decide (wT < (x0.Rows.length:Int)))
 ((idx x0.Rows wT).bind λ AT =>
 ((((lP AT.eX 1 30).bind λ amN =>
 ae (!amN)
 (some true)
 ((lP AT.fG 1 60).bind λ Jr =>
 some (!Jr))):Option Bool)).bind (λ (SE:Bool) =>
 ae SE
 (some (.inr (.inr 1)))
 (ae (decide (wT > 0))
 ((idx x0.Rows (i64 (wT - 1))).bind λ uX =>
 ae (decide (AT.eX≤uX.eX))
 (some (.inr (.inr 7)))
 ((idx x0.Rows (i64 (wT - 1))).bind λ Gb =>
 ae (decide (AT.fG > Gb.fG))
 (some (.inr (.inr 7)))
 (some (.inl (i64 (wT+1))))))
 (some (.inl (i64 (wT+1)))))))
 (some (.inr (.inl ())))) 0).bind (Sum.elim (λ (_:Unit) =>
 some 0)
  (λ q=>some q))))
def Nn(x0:Reach)(x1:Int)(x2:Int):Option Bool :=
 ae (decide (x1≤x0.cQ))
 (ae (decide (x0.cQ≤x0.dE))
 (some (decide (x0.dE≤x2)))
 (some false))
 (some false)
def E2(x0:Int):Option Bool :=
 (lP (i64 x0) 97 122).bind λ df =>
 some df
def Io(x0:Int):Option Bool :=
 (lP (i64 x0) 48 57).bind λ df =>
 some df
def No(x0:ByteArray):Option Bool :=
 ((((lP (x0.size:Int) 1 12).bind λ OG =>
 ae (!OG)
 (some true)
 ((wU x0 0).bind λ pY =>
 (E2 pY).bind λ nR =>
 some (!nR))):Option Bool)).bind (λ (qD:Bool) =>
 ae qD
 (some false)
 ((bD (O:=(Unit ⊕ Bool)) (λ (rK:Int) =>
 ae (decide (rK < (x0.size:Int)))
 ((wU x0 rK).bind λ p5 =>
 (E2 p5).bind λ nT =>
 ae (!nT)
 ((wU x0 rK).bind λ iS =>
 (Io iS).bind λ tA =>
 ae (!tA)
 (some (.inr (.inr false)))
 (some (.inl (i64 (rK+1)))))
 (some (.inl (i64 (rK+1)))))
 (some (.inr (.inl ())))) 1).bind (Sum.elim (λ (_:Unit) =>
 some true)
  (λ q=>some q))))
def Nh(x0:an):Option Int :=
 (lP (x0.aQ.length:Int) 1 3).bind λ amM =>
 ae (!amM)
 (some 2)
 ((bD (O:=(Unit ⊕ Int)) (λ (I4:Int) =>
 ae (decide (I4 < (x0.aQ.length:Int)))
 ((idx x0.aQ I4).bind λ tq =>
 (Nn tq 1 30).bind λ ni =>
 ae (!ni)
 (some (.inr (.inr 1)))
 (ae (decide (i64 (tq.dE - tq.cQ) ≥ 3))
 (some (.inr (.inr 1)))
 (some (.inl (i64 (I4+1))))))
 (some (.inr (.inl ())))) 0).bind (Sum.elim (λ (_:Unit) =>
 (lP (x0.aB.length:Int) 1 4).bind λ AV =>
 ae (!AV)
 (some 2)
 ((bD (O:=(Unit ⊕ Int)) (λ (wL:Int) =>
 ae (decide (wL < (x0.aB.length:Int)))
 ((idx x0.aB wL).bind λ Gg =>
 (No Gg.Name).bind λ Jx =>
 ae (!Jx)
 (some (.inr (.inr 4)))
 ((bD (O:=(Unit ⊕ Int)) (λ (I6:Int) =>
 ae (decide (I6 < wL))
 ((idx x0.aB I6).bind λ Oy =>
 (idx x0.aB wL).bind λ am9 =>
 ae (Oy.Name.toList == am9.Name.toList)
 (some (.inr (.inr 5)))
 (some (.inl (i64 (I6+1)))))
 (some (.inr (.inl ())))) 0).bind (Sum.elim (λ (_:Unit) =>
 (idx x0.aB wL).bind λ Gh =>
 (lP Gh.oC 1 30).bind λ Gi =>
 ae (!Gi)
 (some (.inr (.inr 1)))
 (some (.inl (i64 (wL+1)))))
  (λ q=>some (.inr (.inr q))))))
 (some (.inr (.inl ())))) 0).bind (Sum.elim (λ (_:Unit) =>
 some 0)
  (λ q=>some q))))
  (λ q=>some q)))
def Fl(x0:an):Option Int :=
 (Ng x0).bind λ adv =>
 ae (adv != 0)
 (some adv)
 ((Nh x0).bind λ F9 =>
 ae (F9 != 0)
 (some F9)
 ((lP (x0.aA.length:Int) 1 4).bind λ amJ =>
 ae (!amJ)
 (some 2)
 ((bD (O:=(Unit ⊕ Int)) (λ (I3:Int) =>
 ae (decide (I3 < (x0.aA.length:Int)))
 ((idx x0.aA I3).bind λ AU =>
 (Cg x0 AU.Place).bind λ amQ =>
 ae (!amQ)
 (some (.inr (.inr 6)))
 ((lP AU.gM 0 200).bind λ ady =>
 ae (!ady)
 (some (.inr (.inr 1)))
 ((lP AU.gZ 1 60).bind λ amR =>
 ae (!amR)
 (some (.inr (.inr 1)))
 ((lP AU.aB 1 3).bind λ Jt =>
 ae (!Jt)
 (some (.inr (.inr 1)))
 (some (.inl (i64 (I3+1))))))))
 (some (.inr (.inl ())))) 0).bind (Sum.elim (λ (_:Unit) =>
 ae (decide ((x0.bh.length:Int) > 3))
 (some 2)
 ((bD (O:=(Unit ⊕ Int)) (λ (FL:Int) =>
 ae (decide (FL < (x0.bh.length:Int)))
 ((idx x0.bh FL).bind λ Gc =>
 (Cg x0 Gc.Place).bind λ fq =>
 ae (!fq)
 (some (.inr (.inr 6)))
 ((idx x0.bh FL).bind λ j4 =>
 (lP j4.mg 0 30).bind λ mf =>
 ae (!mf)
 (some (.inr (.inr 1)))
 (some (.inl (i64 (FL+1))))))
 (some (.inr (.inl ())))) 0).bind (Sum.elim (λ (_:Unit) =>
 some 0)
  (λ q=>some q))))
  (λ q=>some q)))))
def Nk(x0:an)(x1:(List Int)):Option Bool :=
 (bD (O:=(Unit ⊕ Bool)) (λ (jX:Int) =>
 ae (decide (jX < (x0.bh.length:Int)))
 ((idx x0.bh jX).bind λ uZ =>
 (idx x1 uZ.Place).bind λ Gs =>
 ae (!((decide (Gs≤uZ.mg)) == uZ.tC))
 (some (.inr (.inr false)))
 (some (.inl (i64 (jX+1)))))
 (some (.inr (.inl ())))) 0).bind (Sum.elim (λ (_:Unit) =>
 some true)
  (λ q=>some q))
def IA(x0:an):Option (List (List Int)) :=
 (bD (O:=(List (List Int))) (λ (qI:((List (List Int)) × Int)) =>
 ae (decide (qI.2 < (x0.aQ.length:Int)))
 ((bD (O:=(List (List Int))) (λ (wR:((List (List Int)) × Int)) =>
 ae (decide (wR.2 < (qI.1.length:Int)))
 ((idx x0.aQ qI.2).bind λ anm =>
 (bD (O:=(List (List Int))) (λ (yE:((List (List Int)) × Int)) =>
 (idx x0.aQ qI.2).bind λ ann =>
 ae (decide (yE.2≤ann.dE))
 ((idx qI.1 wR.2).bind λ ano =>
 (gk [] ano).bind λ anp =>
 (gk anp [yE.2]).bind λ adW =>
 (gk yE.1 [adW]).bind λ anq =>
 some (.inl (anq,i64 (yE.2+1))))
 (some (.inr yE.1))) (wR.1,anm.cQ)).bind (λ (SQ:(List (List Int))) =>
 some (.inl (SQ,i64 (wR.2+1)))))
 (some (.inr wR.1))) ([],0)).bind (λ (SN:(List (List Int))) =>
 some (.inl (SN,i64 (qI.2+1)))))
 (some (.inr qI.1))) ([[]],0)).bind (λ (IY:(List (List Int))) =>
 (bD (O:=(List (List Int))) (λ (uF:((List (List Int)) × Int)) =>
 ae (decide (uF.2 < (IY.length:Int)))
 ((idx IY uF.2).bind λ adX =>
 (Nk x0 adX).bind λ anr =>
 ae anr
 ((idx IY uF.2).bind λ adY =>
 (gk uF.1 [adY]).bind λ ans =>
 some (.inl (ans,i64 (uF.2+1))))
 (some (.inl (uF.1,i64 (uF.2+1)))))
 (some (.inr uF.1))) ([],0)).bind (λ (SS:(List (List Int))) =>
 some SS))
def Nu(x0:an):Option (Int × Int) :=
 (Fl x0).bind λ jO =>
 ae (jO != 0)
 (some (0,jO))
 ((IA x0).bind λ mH =>
 some ((mH.length:Int),0))
def z7(x0:an)(x1:Int):Option ((List (List Int)) × Int) :=
 (Fl x0).bind λ gq =>
 ae (gq != 0)
 (some ([],gq))
 (ae (x1 != 0)
 (some ([],x1))
 ((IA x0).bind λ eF =>
 ae ((eF.length:Int) == 0)
 (some ([],9))
 (some (eF,0))))
def um(x0:Bool):Option Int :=
 ae x0
 (some 0)
 (some 6)
def M8(x0:(List Int)):Option (List Int) :=
 (bD (O:=(List Int)) (λ (lS:((List Int) × Int)) =>
 ae (decide (lS.2 < (x0.length:Int)))
 ((bD (O:=Int) (λ (mY:Int) =>
 ae (decide (mY < (lS.1.length:Int)))
 ((idx lS.1 mY).bind λ Ju =>
 (idx x0 lS.2).bind λ Jv =>
 ae (decide (Ju < Jv))
 (some (.inl (i64 (mY+1))))
 (some (.inr mY)))
 (some (.inr mY))) 0).bind (λ (CN:Int) =>
 (((ae (CN == (lS.1.length:Int))
 (some true)
 ((idx lS.1 CN).bind λ j4 =>
 (idx x0 lS.2).bind λ mf =>
 some (j4 != mf))):Option Bool)).bind (λ (SJ:Bool) =>
 ae SJ
 ((kQ lS.1 0 CN).bind λ Ov =>
 (gk [] Ov).bind λ am0 =>
 (idx x0 lS.2).bind λ Jw =>
 (gk am0 [Jw]).bind λ yM =>
 (kQ lS.1 CN (lS.1.length:Int)).bind λ yN =>
 (gk yM yN).bind λ w8 =>
 some (.inl (w8,i64 (lS.2+1))))
 (some (.inl (lS.1,i64 (lS.2+1)))))))
 (some (.inr lS.1))) ([],0)).bind (λ (SC:(List Int)) =>
 some SC)
def Nv(x0:an)(x1:Int):Option ((List Int) × Int) :=
 (Cg x0 x1).bind λ lu =>
 (um lu).bind λ ft =>
 (z7 x0 ft).bind λ iQ =>
 (bD (O:=(List Int)) (λ (Aw:((List Int) × Int)) =>
 ae (decide (Aw.2 < (iQ.1.length:Int)))
 ((idx iQ.1 Aw.2).bind λ x69 =>
 (idx x69 x1).bind λ iR =>
 (gk Aw.1 [iR]).bind λ jk =>
 some (.inl (jk,i64 (Aw.2+1))))
 (some (.inr Aw.1))) ([],0)).bind (λ (NT:(List Int)) =>
 (M8 NT).bind λ pZ =>
 some (pZ,iQ.2))
def Ci(x0:an)(x1:Int):Option Int :=
 (bD (O:=(Unit ⊕ Int)) (λ (ll:Int) =>
 ae (decide (ll < (x0.Rows.length:Int)))
 ((idx x0.Rows ll).bind λ pX =>
 ae (decide (pX.eX ≥ x1))
 ((idx x0.Rows ll).bind λ uY =>
 some (.inr (.inr uY.fG)))
 (some (.inl (i64 (ll+1)))))
 (some (.inr (.inl ())))) 0).bind (Sum.elim (λ (_:Unit) =>
 some 0)
  (λ q=>some q))
def Nz(x0:an)(x1:Int):Option (Reach × Int) :=
 (Cg x0 x1).bind λ nQ =>
 (um nQ).bind λ gY =>
 (z7 x0 gY).bind λ gL =>
 ae (gL.2 != 0)
 (some ((⟨0,0⟩:Reach),gL.2))
 ((idx gL.1 0).bind λ uY =>
 (idx uY x1).bind λ OF =>
 (Ci x0 OF).bind λ x61 =>
 (bD (O:=(Int × Int)) (λ (me:(Int × Int × Int)) =>
 ae (decide (me.1 < (gL.1.length:Int)))
 ((idx gL.1 me.1).bind λ OH =>
 (idx OH x1).bind λ Ba =>
 (Ci x0 Ba).bind λ tz =>
 some (.inl (i64 (me.1+1),CE me.2.1 [tz],sU me.2.2 [tz])))
 (some (.inr (me.2.1,me.2.2)))) (1,x61,x61)).bind (λ (IZ:(Int × Int)) =>
 some ((⟨IZ.1,IZ.2⟩:Reach),0)))
def Fp(x0:an)(x1:(List Int))(x2:Int)(x3:Int):Option Bool :=
 (idx x0.aA x3).bind λ gh =>
 (idx x1 gh.Place).bind λ gq =>
 (idx x0.aB x2).bind λ iw =>
 ae (decide (gq≤iw.oC))
 ((idx x1 gh.Place).bind λ rP =>
 (Ci x0 rP).bind λ ie =>
 some (decide (gh.gZ≤ie)))
 (some false)
def M9(x0:an)(x1:Int):Option Bool :=
 (lP x1 0 (i64 ((x0.aB.length:Int) - 1))).bind λ dO =>
 some dO
def Na(x0:an)(x1:Int):Option Bool :=
 (lP x1 0 (i64 ((x0.aA.length:Int) - 1))).bind λ dO =>
 some dO
def H3(x0:Int)(x1:Int):Option Int :=
 ae (x0 == 0)
 (some 2)
 (ae (x0 == x1)
 (some 1)
 (some 0))
def NA(x0:an)(x1:Int)(x2:Int):Option (Int × Int) :=
 ((((M9 x0 x1).bind λ nR =>
 ae nR
 ((Na x0 x2).bind λ iR =>
 (um iR).bind λ tx =>
 (z7 x0 tx).bind λ jk =>
 some (jk.1,jk.2))
 ((um false).bind λ pZ =>
 (z7 x0 pZ).bind λ nS =>
 some (nS.1,nS.2))):Option ((List (List Int)) × Int))).bind (λ (qD:((List (List Int)) × Int)) =>
 ae (qD.2 != 0)
 (some (0,qD.2))
 ((bD (O:=Int) (λ (wS:(Int × Int)) =>
 ae (decide (wS.2 < (qD.1.length:Int)))
 ((idx qD.1 wS.2).bind λ p5 =>
 (Fp x0 p5 x1 x2).bind λ nT =>
 ae nT
 (some (.inl (i64 (wS.1+1),i64 (wS.2+1))))
 (some (.inl (wS.1,i64 (wS.2+1)))))
 (some (.inr wS.1))) (0,0)).bind (λ (NU:Int) =>
 (H3 NU (qD.1.length:Int)).bind λ iS =>
 some (iS,0))))
def NF(x0:(List Int))(x1:Int):Option Int :=
 (bD (O:=(Unit ⊕ Int)) (λ (yC:Int) =>
 ae (decide (yC < (x0.length:Int)))
 ((idx x0 yC).bind λ Di =>
 (lP Di 0 (i64 (x1 - 1))).bind λ Gt =>
 ae (!Gt)
 (some (.inr (.inr 6)))
 (ae (decide (yC > 0))
 ((idx x0 yC).bind λ yW =>
 (idx x0 (i64 (yC - 1))).bind λ Gx =>
 ae (decide (yW≤Gx))
 (some (.inr (.inr 7)))
 (some (.inl (i64 (yC+1)))))
 (some (.inl (i64 (yC+1))))))
 (some (.inr (.inl ())))) 0).bind (Sum.elim (λ (_:Unit) =>
 some 0)
  (λ q=>some q))
def NG(x0:an)(x1:(List (List Int))):Option Int :=
 ae ((x1.length:Int) != (x0.aA.length:Int))
 (some 2)
 ((bD (O:=(Unit ⊕ Int)) (λ (mc:Int) =>
 ae (decide (mc < (x1.length:Int)))
 ((idx x1 mc).bind λ Bb =>
 (idx x0.aA mc).bind λ Gu =>
 ae ((Bb.length:Int) != Gu.aB)
 (some (.inr (.inr 2)))
 ((idx x1 mc).bind λ JK =>
 (NF JK (x0.aB.length:Int)).bind λ p5 =>
 ae (p5 != 0)
 (some (.inr (.inr p5)))
 (some (.inl (i64 (mc+1))))))
 (some (.inr (.inl ())))) 0).bind (Sum.elim (λ (_:Unit) =>
 some 0)
  (λ q=>some q)))
def ND(x0:(List Int))(x1:Int):Option Bool :=
 (bD (O:=(Unit ⊕ Bool)) (λ (I7:Int) =>
 ae (decide (I7 < (x0.length:Int)))
 ((idx x0 I7).bind λ iQ =>
 ae (iQ == x1)
 (some (.inr (.inr true)))
 (some (.inl (i64 (I7+1)))))
 (some (.inr (.inl ())))) 0).bind (Sum.elim (λ (_:Unit) =>
 some false)
  (λ q=>some q))
def Nl(x0:an)(x1:Int)(x2:Int):Option Bool :=
 (idx x0.aA x1).bind λ lp =>
 (idx x0.aA x2).bind λ gh =>
 ae (decide (gh.gM ≥ i64 ((i64 (lp.gM+lp.gZ))+x0.Rest)))
 (some true)
 (some (decide (lp.gM ≥ i64 ((i64 (gh.gM+gh.gZ))+x0.Rest))))
def H4(x0:an)(x1:(List (List Int))):Option Bool :=
 (bD (O:=(Unit ⊕ Bool)) (λ (rJ:Int) =>
 ae (decide (rJ < (x1.length:Int)))
 ((bD (O:=(Unit ⊕ Bool)) (λ (yD:Int) =>
 ae (decide (yD < rJ))
 ((bD (O:=(Unit ⊕ Bool)) (λ (FN:Int) =>
 (idx x1 rJ).bind λ ani =>
 ae (decide (FN < (ani.length:Int)))
 ((idx x1 yD).bind λ Uj =>
 (idx x1 rJ).bind λ anj =>
 (idx anj FN).bind λ Uk =>
 (ND Uj Uk).bind λ ank =>
 ae ank
 ((Nl x0 rJ yD).bind λ anl =>
 ae (!anl)
 (some (.inr (.inr false)))
 (some (.inl (i64 (FN+1)))))
 (some (.inl (i64 (FN+1)))))
 (some (.inr (.inl ())))) 0).bind (Sum.elim (λ (_:Unit) =>
 some (.inl (i64 (yD+1))))
  (λ q=>some (.inr (.inr q)))))
 (some (.inr (.inl ())))) 0).bind (Sum.elim (λ (_:Unit) =>
 some (.inl (i64 (rJ+1))))
  (λ q=>some (.inr (.inr q)))))
 (some (.inr (.inl ())))) 0).bind (Sum.elim (λ (_:Unit) =>
 some true)
  (λ q=>some q))
def Nb(x0:an)(x1:(List Int))(x2:(List (List Int))):Option Bool :=
 (bD (O:=(Unit ⊕ Bool)) (λ (wJ:Int) =>
 ae (decide (wJ < (x2.length:Int)))
 ((bD (O:=(Unit ⊕ Bool)) (λ (I5:Int) =>
 (idx x2 wJ).bind λ adB =>
 ae (decide (I5 < (adB.length:Int)))
 ((idx x2 wJ).bind λ Ou =>
 (idx Ou I5).bind λ adC =>
 (Fp x0 x1 adC wJ).bind λ amV =>
 ae (!amV)
 (some (.inr (.inr false)))
 (some (.inl (i64 (I5+1)))))
 (some (.inr (.inl ())))) 0).bind (Sum.elim (λ (_:Unit) =>
 some (.inl (i64 (wJ+1))))
  (λ q=>some (.inr (.inr q)))))
 (some (.inr (.inl ())))) 0).bind (Sum.elim (λ (_:Unit) =>
 some true)
  (λ q=>some q))
def NB(x0:an)(x1:(List (List Int))):Option (Int × Int) :=
 (Fl x0).bind λ jk =>
 ae (jk != 0)
 (some (0,jk))
 ((NG x0 x1).bind λ mI =>
 (z7 x0 mI).bind λ yV =>
 ae (yV.2 != 0)
 (some (0,yV.2))
 ((bD (O:=Int) (λ (ti:(Int × Int)) =>
 ae (decide (ti.2 < (yV.1.length:Int)))
 (((((H4 x0 x1).bind λ qQ =>
 ae qQ
 ((idx yV.1 ti.2).bind λ uW =>
 (Nb x0 uW x1).bind λ Oo =>
 some Oo)
 (some false)):Option Bool)).bind (λ (uz:Bool) =>
 ae uz
 (some (.inl (i64 (ti.1+1),i64 (ti.2+1))))
 (some (.inl (ti.1,i64 (ti.2+1))))))
 (some (.inr ti.1))) (0,0)).bind (λ (NV:Int) =>
 (H3 NV (yV.1.length:Int)).bind λ F9 =>
 some (F9,0))))
def m3(x0:an)(x1:Int)(x2:Int)(x3:Int)(x4:(List (List Int))):Option Bool :=
 ((((Np x0).bind λ rQ =>
 ae rQ
 (some true)
 ((Nq x4).bind λ yV =>
 some yV)):Option Bool)).bind (λ (SO:Bool) =>
 ae SO
 ((E3).bind λ x82 =>
 some x82)
 ((zV x0).bind λ x83 =>
 (Nu x0).bind λ Ul =>
 (zX x0 x1).bind λ Di =>
 (Nv x0 x1).bind λ Gt =>
 (((ae (x83.1 != Ul.1)
 (some true)
 ((yq Di.1 Gt.1).bind λ JK =>
 ae (!JK)
 (some true)
 (ae (x83.2 != Ul.2)
 (some true)
 (some (Di.2 != Gt.2))))):Option Bool)).bind (λ (SU:Bool) =>
 ae SU
 (some false)
 ((zY x0 x1).bind λ Bc =>
 (Nz x0 x1).bind λ Om =>
 (wo x0 x2 x3).bind λ uV =>
 (NA x0 x2 x3).bind λ Dd =>
 (((ae (!(KF Bc.1 Om.1 == true))
 (some true)
 (ae (uV.1 != Dd.1)
 (some true)
 (ae (Bc.2 != Om.2)
 (some true)
 (some (uV.2 != Dd.2))))):Option Bool)).bind (λ (Ae:Bool) =>
 ae Ae
 (some false)
 ((m32 x0 x4).bind λ yK =>
 (NB x0 x4).bind λ qQ =>
 ae (yK.1 == qQ.1)
 (ae (yK.2 == qQ.2)
 ((E3).bind λ Oo =>
 some Oo)
 (some false))
 (some false)))))))
def yX{B:Base}{main:Bool}(ab:Jd prog B main):Prop:=∀ {R:az} {H:ah} (x0:cI) {aD aG aF aE aI lU:Value},aa cc 2 R aD x0.book.Rows→aa cj 2 R aG x0.book.aQ→aa cb 2 R aF x0.book.aB→aa cp 4 R aE x0.book.aA→aa bV 3 R aI x0.book.bh→aa gi 3 R lU x0.fH→∀ {r:List Bool},yn x0=some r →
 bd ab 123 #[.agg #[iv x0.book.Rest,aD,aG,aF,aE,aI,lU]] R H λ v R' H'=>aR R R'∧H=H'∧r.length=16∧v = .agg (List.toArray ([]++(r.map Value.bool++[])))
theorem sR{B:Base}{main:Bool}{ab:Jd prog B main}{R:az}{H:ah}(x0:cI)(hK:yX ab){aD aG aF aE aI lU:Value}(aO:aa cc 2 R aD x0.book.Rows)(aL:aa cj 2 R aG x0.book.aQ)(aK:aa cb 2 R aF x0.book.aB)(aJ:aa cp 4 R aE x0.book.aA)(aN:aa bV 3 R aI x0.book.bh)(kh:aa gi 3 R lU x0.fH){r:List Bool}(hM:yn x0=some r) :
 bd ab 123 #[.agg #[iv x0.book.Rest,aD,aG,aF,aE,aI,lU]] R H λ v R' H'=>aR R R'∧H=H'∧r.length=16∧v = .agg (List.toArray ([]++(r.map Value.bool++[]))):=hK x0 aO aL aK aJ aN kh hM
end
end Go.Proofs.YtihapemckcdicaaGreatDoor
