/- What the functions compute. Conditions: none. -/
import Derived.Test.YtihapemckcdicaaGreatDoorQEStF
import Derived.Test.YtihapemckcdicaaGreatDoorQEStP
namespace Go.Proofs.YtihapemckcdicaaGreatDoor
open Go.Lg Go.Proofs Tryz
set_option maxRecDepth 100000
noncomputable def kM(x0:Int)(x1:Int)(x2:Int):Option Bool :=
 aa (decide (x1≤x0))
 (some (decide (x0≤x2)))
 (some false)
def KG(x0:ByteArray):Option Bool:=some (pY x0)
noncomputable def uW(x0:bW)(x1:(br→Option Bool)):Option Int :=
 (bC (O:=Int) (λ (gO:(Int × Int)) =>
 aa (decide (gO.2 < (x0.fi.length:Int)))
 ((idx x0.fi gO.2).bind λ nV =>
 (x1 nV).bind λ tE =>
 aa tE
 (some (.inl (i64 (gO.1+1),i64 (gO.2+1))))
 (some (.inl (gO.1,i64 (gO.2+1)))))
 (some (.inr gO.1))) (0,0)).bind (λ (u9:Int) =>
 some u9)
noncomputable def wU(x0:ao)(x1:Int):Option Int :=
 (bC (O:=(Unit ⊕ Int)) (λ (pb:Int) =>
 aa (decide (pb < (x0.Rows.length:Int)))
 ((idx x0.Rows pb).bind λ PX =>
 aa (decide (x1≤PX.dh))
 (some (.inr (.inr PX.eE)))
 (some (.inl (i64 (pb+1)))))
 (some (.inr (.inl ())))) 0).bind (Sum.elim (λ (_:Unit) =>
 some 0)
  (λ q=>some q))
noncomputable def yq(x0:ao)(x1:br)(x2:Int)(x3:Int):Option Bool :=
 (idx x0.av x3).bind λ eP =>
 (idx x1.deep eP.Place).bind λ iY =>
 (idx x0.ax x2).bind λ bS =>
 aa (decide (iY≤bS.mg))
 ((wU x0 iY).bind λ iq =>
 some (decide (eP.gR≤iq)))
 (some false)
noncomputable def zb(x0:br)(x1:bW)(x2:Int)(x3:Int):Option Bool :=
 (yq x1.book x0 x2 x3).bind λ eO =>
 some eO
noncomputable def qR(x0:bW)(i k:Nat):Option Bool:=(uW x0 (λ y=>zb y x0 (k:Int) (i:Int))).bind λ n=>some (n == (x0.fi.length:Int))
noncomputable def tB(x0:bW):Option (List Bool) :=
 if (0 < x0.book.av.length∧x0.book.av.length≤4)∧(0 < x0.book.ax.length∧x0.book.ax.length≤4) then
  (((List.range 16).mapM λ (p:Nat)=>if p / 4 < x0.book.av.length∧p % 4 < x0.book.ax.length then qR x0 (p / 4) (p % 4) else some false):Option (List Bool))
 else none
noncomputable def FR(x0:ao):Option Bool :=
 (((aa (decide ((x0.Rows.length:Int) > 20))
 (some true)
 (aa (decide ((x0.aM.length:Int) > 20))
 (some true)
 (aa (decide ((x0.ax.length:Int) > 20))
 (some true)
 (aa (decide ((x0.av.length:Int) > 20))
 (some true)
 (some (decide ((x0.ba.length:Int) > 20))))))):Option Bool)).bind (λ (sZ:Bool) =>
 aa sZ
 (some true)
 ((bC (O:=(Unit ⊕ Bool)) (λ (lI:Int) =>
 aa (decide (lI < (x0.ax.length:Int)))
 ((idx x0.ax lI).bind λ mL =>
 aa (decide ((mL.Name.size:Int) > 100))
 (some (.inr (.inr true)))
 (some (.inl (i64 (lI+1)))))
 (some (.inr (.inl ())))) 0).bind (Sum.elim (λ (_:Unit) =>
 some false)
  (λ q=>some q))))
noncomputable def FW(x0:ao):Option Int :=
 (kM x0.Rest 0 60).bind λ rW =>
 aa (!rW)
 (some 1)
 (some 0)
noncomputable def CU(x0:ao):Option Int :=
 (kM (x0.Rows.length:Int) 1 4).bind λ x78 =>
 aa (!x78)
 (some 2)
 ((bC (O:=(Unit ⊕ Int)) (λ (tc:Int) =>
 aa (decide (tc < (x0.Rows.length:Int)))
 ((idx x0.Rows tc).bind λ oH =>
 (kM oH.dh 1 30).bind λ AY =>
 (((aa (!AY)
 (some (!AY))
 ((kM oH.eE 1 60).bind λ agx =>
 some (!agx))):Option Bool)).bind (λ (OL:Bool) =>
 aa OL
 (some (.inr (.inr 1)))
 (aa (decide (tc > 0))
 ((idx x0.Rows (i64 (tc - 1))).bind λ mi =>
 aa (decide (oH.dh≤mi.dh))
 (some (.inr (.inr 7)))
 ((idx x0.Rows (i64 (tc - 1))).bind λ LV =>
 aa (decide (oH.eE > LV.eE))
 (some (.inr (.inr 7)))
 (some (.inl (i64 (tc+1))))))
 (some (.inl (i64 (tc+1)))))))
 (some (.inr (.inl ())))) 0).bind (Sum.elim (λ (_:Unit) =>
 some 0)
  (λ q=>some q)))
noncomputable def KH(x0:(List Reach))(x1:(Reach→Option Bool)):Option Int :=
 (bC (O:=(Unit ⊕ Int)) (λ (dH:Int) =>
 aa (decide (dH < (x0.length:Int)))
 ((idx x0 dH).bind λ nI =>
 (x1 nI).bind λ ln =>
 aa ln
 (some (.inr (.inr dH)))
 (some (.inl (i64 (dH+1)))))
 (some (.inr (.inl ())))) 0).bind (Sum.elim (λ (_:Unit) =>
 some (-1))
  (λ q=>some q))
noncomputable def FX(x0:(List Reach))(x1:(Reach→Option Bool)):Option Bool :=
 (KH x0 x1).bind λ de =>
 some (decide (de ≥ 0))
noncomputable def C2(x0:Reach)(x1:Int)(x2:Int)(x3:Int):Option Bool :=
 aa (decide (x1≤x0.cI))
 (aa (decide (x0.cI≤x0.dK))
 (aa (decide (x0.dK≤x2))
 (some (decide (i64 (x0.dK - x0.cI) < x3)))
 (some false))
 (some false))
 (some false)
noncomputable def C1(x0:Reach):Option Bool :=
 (C2 x0 1 30 3).bind λ eO =>
 some (!eO)
noncomputable def CV(x0:ao):Option Int :=
 (kM (x0.aM.length:Int) 1 3).bind λ tv =>
 aa (!tv)
 (some 2)
 ((FX x0.aM (λ y=>C1 y)).bind λ iY =>
 aa iY
 (some 1)
 (some 0))
noncomputable def KI(x0:(List dI))(x1:(dI→Option Bool)):Option Int :=
 (bC (O:=(Unit ⊕ Int)) (λ (dH:Int) =>
 aa (decide (dH < (x0.length:Int)))
 ((idx x0 dH).bind λ nI =>
 (x1 nI).bind λ ln =>
 aa ln
 (some (.inr (.inr dH)))
 (some (.inl (i64 (dH+1)))))
 (some (.inr (.inl ())))) 0).bind (Sum.elim (λ (_:Unit) =>
 some (-1))
  (λ q=>some q))
noncomputable def FY(x0:(List dI))(x1:(dI→Option Bool)):Option Bool :=
 (KI x0 x1).bind λ de =>
 some (decide (de ≥ 0))
noncomputable def C3(x0:dI)(x1:dI):Option Bool :=
 some (x0.Name.toList == x1.Name.toList)
noncomputable def CX(x0:ao):Option Int :=
 (kM (x0.ax.length:Int) 1 4).bind λ Ln =>
 aa (!Ln)
 (some 2)
 ((bC (O:=(Unit ⊕ Int)) (λ (Dt:Int) =>
 aa (decide (Dt < (x0.ax.length:Int)))
 ((idx x0.ax Dt).bind λ ni =>
 (KG ni.Name).bind λ gZ =>
 aa (!gZ)
 (some (.inr (.inr 4)))
 ((nN x0.ax 0 Dt).bind λ DY =>
 (FY DY (λ y=>C3 y ni)).bind λ agu =>
 aa agu
 (some (.inr (.inr 5)))
 ((kM ni.mg 1 30).bind λ vE =>
 aa (!vE)
 (some (.inr (.inr 1)))
 (some (.inl (i64 (Dt+1)))))))
 (some (.inr (.inl ())))) 0).bind (Sum.elim (λ (_:Unit) =>
 some 0)
  (λ q=>some q)))
noncomputable def pZ(x0:Int)(x1:Int):Option Int :=
 (kM x0 0 (i64 (x1 - 1))).bind λ qO =>
 aa (!qO)
 (some 6)
 (some 0)
noncomputable def CY(x0:ao):Option Int :=
 (kM (x0.av.length:Int) 1 4).bind λ qm =>
 aa (!qm)
 (some 2)
 ((bC (O:=(Unit ⊕ Int)) (λ (Gs:Int) =>
 aa (decide (Gs < (x0.av.length:Int)))
 ((idx x0.av Gs).bind λ jM =>
 (pZ jM.Place (x0.aM.length:Int)).bind λ Rg =>
 aa (Rg != 0)
 (some (.inr (.inr Rg)))
 ((kM jM.jf 0 200).bind λ Bt =>
 aa (!Bt)
 (some (.inr (.inr 1)))
 ((kM jM.gR 1 60).bind λ Lj =>
 aa (!Lj)
 (some (.inr (.inr 1)))
 ((kM jM.ax 1 3).bind λ oH =>
 aa (!oH)
 (some (.inr (.inr 1)))
 (some (.inl (i64 (Gs+1))))))))
 (some (.inr (.inl ())))) 0).bind (Sum.elim (λ (_:Unit) =>
 some 0)
  (λ q=>some q)))
noncomputable def C0(x0:ao):Option Int :=
 aa (decide ((x0.ba.length:Int) > 3))
 (some 2)
 ((bC (O:=(Unit ⊕ Int)) (λ (lI:Int) =>
 aa (decide (lI < (x0.ba.length:Int)))
 ((idx x0.ba lI).bind λ y8 =>
 (pZ y8.Place (x0.aM.length:Int)).bind λ YE =>
 aa (YE != 0)
 (some (.inr (.inr YE)))
 ((kM y8.lU 0 30).bind λ pj =>
 aa (!pj)
 (some (.inr (.inr 1)))
 (some (.inl (i64 (lI+1))))))
 (some (.inr (.inl ())))) 0).bind (Sum.elim (λ (_:Unit) =>
 some 0)
  (λ q=>some q)))
noncomputable def qJ(x0:ao):Option Int :=
 (FW (⟨x0.Rest,x0.Rows,x0.aM,x0.ax,x0.av,x0.ba⟩:ao)).bind λ fw =>
 aa (fw != 0)
 (some fw)
 ((CU (⟨x0.Rest,x0.Rows,x0.aM,x0.ax,x0.av,x0.ba⟩:ao)).bind λ gY =>
 aa (gY != 0)
 (some gY)
 ((CV (⟨x0.Rest,x0.Rows,x0.aM,x0.ax,x0.av,x0.ba⟩:ao)).bind λ vz =>
 aa (vz != 0)
 (some vz)
 ((CX (⟨x0.Rest,x0.Rows,x0.aM,x0.ax,x0.av,x0.ba⟩:ao)).bind λ lJ =>
 aa (lJ != 0)
 (some lJ)
 ((CY (⟨x0.Rest,x0.Rows,x0.aM,x0.ax,x0.av,x0.ba⟩:ao)).bind λ pq =>
 aa (pq != 0)
 (some pq)
 ((C0 (⟨x0.Rest,x0.Rows,x0.aM,x0.ax,x0.av,x0.ba⟩:ao)).bind λ ln =>
 aa (ln != 0)
 (some ln)
 (some 0))))))
noncomputable def FM (x1:(br→((List br) ⊕ Empty)→Option (((List br) ⊕ Empty) × Bool))→((List br) ⊕ Empty)→Option ((List br) ⊕ Empty)):Option (List br) :=
 (x1 (gu (λ (rY:br) (kz:(List br))=>(((eW kz [rY]).bind λ gQ =>
 some (.inl gQ)):Option ((List br) ⊕ Empty)))) (.inl [])).bind (Sum.elim (λ (kz:(List br)) =>
 some kz)
  (λ (o:Empty)=>o.elim))
noncomputable def yu (x0:(br→((List br) ⊕ Empty)→Option (((List br) ⊕ Empty) × Bool))→((List br) ⊕ Empty)→Option ((List br) ⊕ Empty)):Option (List br) :=
 (FM x0).bind λ de =>
 some de
noncomputable def KC(x0:(List dO))(x1:(dO→Option Bool)):Option Int :=
 (bC (O:=(Unit ⊕ Int)) (λ (dH:Int) =>
 aa (decide (dH < (x0.length:Int)))
 ((idx x0 dH).bind λ nI =>
 (x1 nI).bind λ ln =>
 aa ln
 (some (.inr (.inr dH)))
 (some (.inl (i64 (dH+1)))))
 (some (.inr (.inl ())))) 0).bind (Sum.elim (λ (_:Unit) =>
 some (-1))
  (λ q=>some q))
noncomputable def FQ(x0:(List dO))(x1:(dO→Option Bool)):Option Bool :=
 (KC x0 x1).bind λ de =>
 some (decide (de ≥ 0))
noncomputable def CQ(x0:dO)(x1:br):Option Bool :=
 (idx x1.deep x0.Place).bind λ eO =>
 some (!((decide (eO≤x0.lU)) == x0.sx))
noncomputable def AD(x0:ao)(x1:br):Option Bool :=
 (FQ x0.ba (λ y=>CQ y x1)).bind λ mf =>
 some (!mf)
noncomputable def rJ{S:Type}(ys:br→S→Option (S × Bool)):Nat→Int→ao→br→S→Option (S × (br × Bool))
 | 0,_,_,_,_=>none
 | k+1,x0,x1,x2,s0 =>
  aa (x0 == (x1.aM.length:Int))
  (((((AD x1 x2).bind λ eP =>
  aa (!eP)
  (some (s0,true))
  ((ys x2 s0).bind λ iY =>
  some (iY.1,iY.2))):Option (S × Bool))).bind (λ (yy:(S × Bool)) =>
  some (yy.1,(x2,yy.2))))
  ((idx x1.aM x0).bind λ bS =>
  (bC (O:=((S × (List Int)) ⊕ (S × (br × Bool)))) (λ (bF:(S × Int × (List Int))) =>
  (idx x1.aM x0).bind λ fh =>
  aa (decide (bF.2.1≤fh.dK))
  ((idx bF.2.2 x0).bind λ _ =>
  (rJ ys k (i64 (x0+1)) x1 (⟨bF.2.2.set x0.toNat bF.2.1⟩:br) bF.1).bind λ iL =>
  aa (!iL.2.2)
  (some (.inr (.inr (iL.1,(iL.2.1,false)))))
  (some (.inl (iL.1,i64 (bF.2.1+1),iL.2.1.deep))))
  (some (.inr (.inl (bF.1,bF.2.2))))) (s0,bS.cI,x2.deep)).bind (Sum.elim (λ (ox:(S × (List Int))) =>
  some (ox.1,((⟨ox.2⟩:br),true)))
   (λ q=>some q)))
noncomputable def p5{S:Type}(ys:br→S→Option (S × Bool))(x0:ao)(s0:S):Option S :=
 (rJ ys 9 0 x0 (⟨[0,0,0]⟩:br) s0).bind λ pe =>
  some pe.1
noncomputable def zx(x0:ao):Option (Int × Int) :=
 (qJ x0).bind λ pe =>
 aa (pe != 0)
 (some (0,pe))
 ((yu (λ y s=>p5 y (⟨x0.Rest,x0.Rows,x0.aM,x0.ax,x0.av,x0.ba⟩:ao) s)).bind λ jy =>
 some ((jy.length:Int),0))
noncomputable def p6(x0:ao)(x1:(ao→Option Int)):Option (bW × Int) :=
 (qJ x0).bind λ iq =>
 aa (iq != 0)
 (some ((⟨⟨0,[],[],[],[],[]⟩,[]⟩:bW),iq))
 ((x1 x0).bind λ fv =>
 aa (fv != 0)
 (some ((⟨⟨0,[],[],[],[],[]⟩,[]⟩:bW),fv))
 ((yu (λ y s=>p5 y x0 s)).bind λ gY =>
 aa ((gY.length:Int) == 0)
 (some ((⟨⟨0,[],[],[],[],[]⟩,[]⟩:bW),9))
 (some ((⟨⟨x0.Rest,x0.Rows,x0.aM,x0.ax,x0.av,x0.ba⟩,gY⟩:bW),0))))
noncomputable def sS(x0:ao)(x1:Int):Option Int :=
 (pZ x1 (x0.aM.length:Int)).bind λ eO =>
 some eO
noncomputable def F5(x0:Int):Option Int :=
 some x0
noncomputable def AE(x0:Int):Option Bool :=
 some (x0 != x0)
noncomputable def KE(x0:Int)(x1:Int):Option Bool :=
 (AE x0).bind λ rW =>
 aa rW
 ((AE x1).bind λ AZ =>
 aa (!AZ)
 (some true)
 (some (decide (x0 < x1))))
 (some (decide (x0 < x1)))
noncomputable def KD(x0:(List Int))(x1:Int)(x2:Int):Option (List Int) :=
 (bC (O:=(List Int)) (λ (s8:((List Int) × Int)) =>
 aa (decide (s8.2 < x2))
 ((bC (O:=(List Int)) (λ (jI:((List Int) × Int)) =>
 (((aa (decide (jI.2 > x1))
 ((idx jI.1 jI.2).bind λ Yy =>
 (idx jI.1 (i64 (jI.2 - 1))).bind λ Yz =>
 (KE Yy Yz).bind λ agG =>
 some agG)
 (some false)):Option Bool)).bind (λ (OR:Bool) =>
 aa OR
 ((idx jI.1 (i64 (jI.2 - 1))).bind λ PR =>
 (idx jI.1 jI.2).bind λ YA =>
 (idx jI.1 jI.2).bind λ _ =>
 (idx (jI.1.set jI.2.toNat PR) (i64 (jI.2 - 1))).bind λ _ =>
 some (.inl ((jI.1.set jI.2.toNat PR).set (i64 (jI.2 - 1)).toNat YA,i64 (jI.2 - 1))))
 (some (.inr jI.1)))) (s8.1,s8.2)).bind (λ (OQ:(List Int)) =>
 some (.inl (OQ,i64 (s8.2+1)))))
 (some (.inr s8.1))) (x0,i64 (x1+1))).bind (λ (OO:(List Int)) =>
 some OO)
noncomputable def KF(x0:Int):Option Int :=
 (((aa (decide (x0 ≥ 4294967296))
 ((kU .u64 x0 32).bind λ fv =>
 some (fv,32))
 (some (x0,0))):Option (Int × Int))).bind (λ (sX:(Int × Int)) =>
 (((aa (decide (sX.1 ≥ 65536))
 ((kU .u64 sX.1 16).bind λ ng =>
 some (ng,i64 (sX.2+16)))
 (some (sX.1,sX.2))):Option (Int × Int))).bind (λ (sY:(Int × Int)) =>
 (((aa (decide (sY.1 ≥ 256))
 ((kU .u64 sY.1 8).bind λ lJ =>
 some (lJ,i64 (sY.2+8)))
 (some (sY.1,sY.2))):Option (Int × Int))).bind (λ (o8:(Int × Int)) =>
 (vo (⟨#[0,1,2,2,3,3,3,3,4,4,4,4,4,4,4,4,5,5,5,5,5,5,5,5,5,5,5,5,5,5,5,5,6,6,6,6,6,6,6,6,6,6,6,6,6,6,6,6,6,6,6,6,6,6,6,6,6,6,6,6,6,6,6,6,7,7,7,7,7,7,7,7,7,7,7,7,7,7,7,7,7,7,7,7,7,7,7,7,7,7,7,7,7,7,7,7,7,7,7,7,7,7,7,7,7,7,7,7,7,7,7,7,7,7,7,7,7,7,7,7,7,7,7,7,7,7,7,7,8,8,8,8,8,8,8,8,8,8,8,8,8,8,8,8,8,8,8,8,8,8,8,8,8,8,8,8,8,8,8,8,8,8,8,8,8,8,8,8,8,8,8,8,8,8,8,8,8,8,8,8,8,8,8,8,8,8,8,8,8,8,8,8,8,8,8,8,8,8,8,8,8,8,8,8,8,8,8,8,8,8,8,8,8,8,8,8,8,8,8,8,8,8,8,8,8,8,8,8,8,8,8,8,8,8,8,8,8,8,8,8,8,8,8,8,8,8,8,8,8,8,8,8,8,8,8,8]⟩) (IntKind.wrap .u8 o8.1)).bind λ Ew =>
 some (i64 (o8.2+(i64 Ew))))))
noncomputable def KA(x0:Int):Option Int :=
 (KF x0).bind λ de =>
 some de
noncomputable def Kz(x0:(List Int))(x1:Int)(x2:Int)(_:Int):Option (List Int) :=
 (bC (O:=(List Int)) (λ (_:Unit) =>
 aa (decide (i64 (x2 - x1)≤12))
 ((KD x0 x1 x2).bind λ fw =>
 some (.inr fw))
 (none)) ()).bind (λ q=>some q)
noncomputable def FO(x0:(List Int)):Option (List Int) :=
 (KA (IntKind.wrap .u64 (x0.length:Int))).bind λ qO =>
 (Kz x0 0 (x0.length:Int) qO).bind λ eO =>
 some eO
noncomputable def FP(x0:(List Int)):Option (List Int) :=
 aa (decide ((x0.length:Int) < 2))
 (some x0)
 ((bC (O:=(Unit ⊕ (List Int))) (λ (oB:Int) =>
 aa (decide (oB < (x0.length:Int)))
 ((idx x0 oB).bind λ xv =>
 (idx x0 (i64 (oB - 1))).bind λ pB =>
 aa (xv == pB)
 ((nN x0 oB (x0.length:Int)).bind λ _ =>
 (bC (O:=((List Int) × Int)) (λ (kr:((List Int) × Int × Int)) =>
 aa (decide (kr.2.2 < ((kr.1.drop oB.toNat).length:Int)))
 ((idx (kr.1.drop oB.toNat) kr.2.2).bind λ agD =>
 (idx (kr.1.drop oB.toNat) (i64 (kr.2.2 - 1))).bind λ Yw =>
 aa (agD != Yw)
 ((idx (kr.1.drop oB.toNat) kr.2.2).bind λ Yx =>
 (idx kr.1 kr.2.1).bind λ _ =>
 some (.inl (kr.1.set kr.2.1.toNat Yx,i64 (kr.2.1+1),i64 (kr.2.2+1))))
 (some (.inl (kr.1,kr.2.1,i64 (kr.2.2+1)))))
 (some (.inr (kr.1,kr.2.1)))) (x0,oB,1)).bind (λ (sb:((List Int) × Int)) =>
 (nN sb.1 sb.2 (sb.1.length:Int)).bind λ _ =>
 (nN (zT sb.1 sb.2.toNat) 0 sb.2).bind λ L8 =>
 some (.inr (.inr L8))))
 (some (.inl (i64 (oB+1)))))
 (some (.inr (.inl ())))) 1).bind (Sum.elim (λ (_:Unit) =>
 some x0)
  (λ q=>some q)))
noncomputable def F6(x0:bW)(x1:(br→Option Int)):Option (List Int) :=
 (bC (O:=(List Int)) (λ (qb:((List Int) × Int)) =>
 aa (decide (qb.2 < (x0.fi.length:Int)))
 ((idx x0.fi qb.2).bind λ lL =>
 (x1 lL).bind λ qm =>
 (eW qb.1 [qm]).bind λ nW =>
 some (.inl (nW,i64 (qb.2+1))))
 (some (.inr qb.1))) ([],0)).bind (λ (sZ:(List Int)) =>
 (FO sZ).bind λ q8 =>
 (FP q8).bind λ mL =>
 some mL)
noncomputable def F7(x0:br)(x1:Int):Option Int :=
 (idx x0.deep x1).bind λ eO =>
 some eO
noncomputable def FV(x0:ao)(x1:Int):Option ((List Int) × Int) :=
 (F5 x1).bind λ eP =>
 (p6 x0 (λ y=>sS y eP)).bind λ jy =>
 aa (jy.2 != 0)
 (some ([],jy.2))
 ((F6 jy.1 (λ y=>F7 y x1)).bind λ iq =>
 some (iq,0))
noncomputable def FH(x0:br)(x1:bW)(x2:Int):Option Int :=
 (idx x0.deep x2).bind λ rW =>
 (wU x1.book rW).bind λ mf =>
 some mf
noncomputable def FZ(x0:ao)(x1:Int):Option (Reach × Int) :=
 (F5 x1).bind λ iZ =>
 (p6 x0 (λ y=>sS y iZ)).bind λ fX =>
 aa (fX.2 != 0)
 (some ((⟨0,0⟩:Reach),fX.2))
 ((F6 fX.1 (λ y=>FH y fX.1 x1)).bind λ gQ =>
 (idx gQ 0).bind λ gY =>
 (idx gQ (i64 ((gQ.length:Int) - 1))).bind λ ng =>
 some ((⟨gY,ng⟩:Reach),0))
noncomputable def D6(x0:ao)(x1:Int)(x2:Int):Option Int :=
 (pZ x1 (x0.ax.length:Int)).bind λ rW =>
 (pZ x2 (x0.av.length:Int)).bind λ mf =>
 some (r9 rW [mf])
noncomputable def A4(x0:bW)(x1:Int):Option Int :=
 aa (x1 == 0)
 (some 2)
 (aa (x1 == (x0.fi.length:Int))
 (some 1)
 (some 0))
noncomputable def Eg(x0:br)(x1:bW)(x2:Int)(x3:Int):Option Bool :=
 (yq x1.book x0 x2 x3).bind λ eO =>
 some eO
noncomputable def tC(x0:ao)(x1:Int)(x2:Int):Option (Int × Int) :=
 (p6 x0 (λ y=>D6 y x1 x2)).bind λ bS =>
 aa (bS.2 != 0)
 (some (0,bS.2))
 ((uW bS.1 (λ y=>Eg y bS.1 x1 x2)).bind λ eQ =>
 (A4 bS.1 eQ).bind λ gP =>
 some (gP,0))
noncomputable def zD(x0:(List Int)):Option (List Bool) :=
 (bC (O:=(List Bool)) (λ (vj:(Int × (List Bool))) =>
 aa (decide (vj.1 < (x0.length:Int)))
 ((idx x0 vj.1).bind λ iL =>
 (idx vj.2 iL).bind λ _ =>
 some (.inl (i64 (vj.1+1),vj.2.set iL.toNat true)))
 (some (.inr vj.2))) (0,[false,false,false,false])).bind (λ (KX:(List Bool)) =>
 some KX)
noncomputable def He(x0:ao)(x1:(List (List Int))):Option ((List Bool) × Int) :=
 aa ((x1.length:Int) != (x0.av.length:Int))
 (some ([false,false,false,false,false,false,false,false,false,false,false,false,false,false,false,false],2))
 ((bC (O:=((List Bool) ⊕ ((List Bool) × Int))) (λ (gD:(Int × (List Bool))) =>
 aa (decide (gD.1 < (x1.length:Int)))
 ((idx x1 gD.1).bind λ qf =>
 (idx x0.av gD.1).bind λ PM =>
 aa ((qf.length:Int) != PM.ax)
 (some (.inr (.inr ([false,false,false,false,false,false,false,false,false,false,false,false,false,false,false,false],2))))
 ((bC (O:=(Unit ⊕ ((List Bool) × Int))) (λ (qa:Int) =>
 aa (decide (qa < (qf.length:Int)))
 ((idx qf qa).bind λ DV =>
 (pZ DV (x0.ax.length:Int)).bind λ GI =>
 aa (GI != 0)
 (some (.inr (.inr ([false,false,false,false,false,false,false,false,false,false,false,false,false,false,false,false],GI))))
 ((((aa (decide (qa > 0))
 ((idx qf (i64 (qa - 1))).bind λ PN =>
 some (decide (DV≤PN)))
 (some false)):Option Bool)).bind (λ (Gl:Bool) =>
 aa Gl
 (some (.inr (.inr ([false,false,false,false,false,false,false,false,false,false,false,false,false,false,false,false],7))))
 (some (.inl (i64 (qa+1)))))))
 (some (.inr (.inl ())))) 0).bind (Sum.elim (λ (_:Unit) =>
 (zD qf).bind λ PO =>
 (gI 4 gD.2 gD.1).bind λ _ =>
 some (.inl (i64 (gD.1+1),Ej 4 gD.2 gD.1 PO)))
  (λ q=>some (.inr (.inr q))))))
 (some (.inr (.inl gD.2)))) (0,[false,false,false,false,false,false,false,false,false,false,false,false,false,false,false,false])).bind (Sum.elim (λ (Di:(List Bool)) =>
 some (Di,0))
  (λ q=>some q)))
noncomputable def Hd(x0:ao)(x1:(List (List Int)))(_:(List Bool)):Option ((List Bool) × Int) :=
 (He x0 x1).bind λ eO =>
 some (eO.1,eO.2)
noncomputable def AB(x0:ao)(x1:Int)(x2:Int):Option Bool :=
 (idx x0.av x1).bind λ nc =>
 (idx x0.av x2).bind λ eP =>
 aa (x1 != x2)
 (aa (decide (eP.jf ≥ i64 ((i64 (nc.jf+nc.gR))+x0.Rest)))
 (some true)
 (some (decide (nc.jf ≥ i64 ((i64 (eP.jf+eP.gR))+x0.Rest)))))
 (some false)
noncomputable def xp(x0:ao)(x1:(List Bool))(x2:Int):Option Bool :=
 (bC (O:=(Unit ⊕ Bool)) (λ (s7:Int) =>
 aa (decide (s7 < x2))
 ((AB x0 s7 x2).bind λ xr =>
 aa xr
 (some (.inl (i64 (s7+1))))
 ((bC (O:=(Unit ⊕ Bool)) (λ (AO:Int) =>
 aa (decide (AO < (x0.ax.length:Int)))
 ((gI 4 x1 s7).bind λ agA =>
 (idx agA AO).bind λ L4 =>
 aa L4
 ((gI 4 x1 x2).bind λ L5 =>
 (idx L5 AO).bind λ agB =>
 aa agB
 (some (.inr (.inr false)))
 (some (.inl (i64 (AO+1)))))
 (some (.inl (i64 (AO+1)))))
 (some (.inr (.inl ())))) 0).bind (Sum.elim (λ (_:Unit) =>
 some (.inl (i64 (s7+1))))
  (λ q=>some (.inr (.inr q))))))
 (some (.inr (.inl ())))) 0).bind (Sum.elim (λ (_:Unit) =>
 some true)
  (λ q=>some q))
noncomputable def Ba(x0:br)(x1:ao)(x2:(List Bool))(x3:bW):Option Bool :=
 (bC (O:=(Unit ⊕ Bool)) (λ (ve:Int) =>
 aa (decide (ve < (x1.av.length:Int)))
 ((gI 4 x2 ve).bind λ mP =>
 (bC (O:=(Unit ⊕ Bool)) (λ (yJ:Int) =>
 aa (decide (yJ < 4))
 ((idx mP yJ).bind λ Ys =>
 aa Ys
 ((yq x3.book x0 yJ ve).bind λ Hw =>
 aa (!Hw)
 (some (.inr (.inr false)))
 (some (.inl (i64 (yJ+1)))))
 (some (.inl (i64 (yJ+1)))))
 (some (.inr (.inl ())))) 0).bind (Sum.elim (λ (_:Unit) =>
 some (.inl (i64 (ve+1))))
  (λ q=>some (.inr (.inr q)))))
 (some (.inr (.inl ())))) 0).bind (Sum.elim (λ (_:Unit) =>
 some true)
  (λ q=>some q))
noncomputable def Hc(x0:ao)(w9:(List (List Int)))(rV:(List Bool)):Option ((List Bool) × bW × Int) :=
 (qJ x0).bind λ iq =>
 aa (iq != 0)
 (some (rV,(⟨⟨0,[],[],[],[],[]⟩,[]⟩:bW),iq))
 ((Hd x0 w9 rV).bind λ fv =>
 aa (fv.2 != 0)
 (some (fv.1,(⟨⟨0,[],[],[],[],[]⟩,[]⟩:bW),fv.2))
 ((yu (λ y s=>p5 y x0 s)).bind λ gY =>
 aa ((gY.length:Int) == 0)
 (some (fv.1,(⟨⟨0,[],[],[],[],[]⟩,[]⟩:bW),9))
 (some (fv.1,(⟨⟨x0.Rest,x0.Rows,x0.aM,x0.ax,x0.av,x0.ba⟩,gY⟩:bW),0))))
noncomputable def m32(x0:ao)(x1:(List (List Int))):Option (Int × Int) :=
 (Hc x0 x1 [false,false,false,false,false,false,false,false,false,false,false,false,false,false,false,false]).bind λ fh =>
 aa (fh.2.2 != 0)
 (some (0,fh.2.2))
 ((bC (O:=(Unit ⊕ (Int × Int))) (λ (vk:Int) =>
 aa (decide (vk < (x0.av.length:Int)))
 ((xp fh.2.1.book fh.1 vk).bind λ lq =>
 aa (!lq)
 (some (.inr (.inr (2,0))))
 (some (.inl (i64 (vk+1)))))
 (some (.inr (.inl ())))) 0).bind (Sum.elim (λ (_:Unit) =>
 (uW fh.2.1 (λ y=>Ba y x0 fh.1 fh.2.1)).bind λ lL =>
 (A4 fh.2.1 lL).bind λ Ex =>
 some (Ex,0))
  (λ q=>some q)))
noncomputable def o7(_:ao):Option Int :=
 some 0
noncomputable def kT{S:Type}(ys:(List Bool)→S→Option (S × Bool)):Nat→((List Bool)→Int→bW→Int→(List Bool)→(List Bool)→S→Option (S × Bool)) × ((List Bool)→Int→Int→Int→bW→Int→(List Bool)→(List Bool)→S→Option (S × Bool))
 | 0=>(λ _ _ _ _ _ _ _=>none,λ _ _ _ _ _ _ _ _ _=>none)
 | k+1=>(λ x0 x1 xX xO xG xA s0 =>
  aa (x1 == (xX.book.av.length:Int))
  ((ys x0 s0).bind λ nc =>
  some (nc.1,nc.2))
  ((kU .i64 xO x1).bind λ eP =>
  (fH .and .i64 eP 1).bind λ jy =>
  aa (jy == 1)
  (((kT ys k).1 x0 (i64 (x1+1)) xX xO xG xA s0).bind λ iZ =>
  some (iZ.1,iZ.2))
  ((idx xX.book.av x1).bind λ fX =>
  ((kT ys k).2 x0 x1 0 fX.ax xX xO xG xA s0).bind λ eQ =>
  some (eQ.1,eQ.2))),
  λ x0 x1 x2 x3 xX xO xG xA s0 =>
  aa (x3 == 0)
  (((((xp xX.book x0 x1).bind λ jy =>
  aa (!jy)
  (some (s0,true))
  (((kT ys k).1 x0 (i64 (x1+1)) xX xO xG xA s0).bind λ bS =>
  some (bS.1,bS.2))):Option (S × Bool))).bind (λ (yz:(S × Bool)) =>
  some (yz.1,yz.2)))
  ((bC (O:=(S ⊕ (S × Bool))) (λ (bF:(S × Int × (List Bool))) =>
  aa (decide (bF.2.1 < (xX.book.ax.length:Int)))
  (((((idx xG bF.2.1).bind λ zi =>
  aa (!zi)
  (some true)
  ((gI 4 xA x1).bind λ tF =>
  (idx tF bF.2.1).bind λ zj =>
  some (!zj))):Option Bool)).bind (λ (A8:Bool) =>
  aa A8
  (some (.inl (bF.1,i64 (bF.2.1+1),bF.2.2)))
  ((gI 4 bF.2.2 x1).bind λ GZ =>
  (idx GZ bF.2.1).bind λ _ =>
  ((kT ys k).2 (lM 4 bF.2.2 x1 bF.2.1 true) x1 (i64 (bF.2.1+1)) (i64 (x3 - 1)) xX xO xG xA bF.1).bind λ lQ =>
  aa (!lQ.2)
  (some (.inr (.inr (lQ.1,false))))
  ((gI 4 (lM 4 bF.2.2 x1 bF.2.1 true) x1).bind λ vE =>
  (idx vE bF.2.1).bind λ _ =>
  some (.inl (lQ.1,i64 (bF.2.1+1),lM 4 (lM 4 bF.2.2 x1 bF.2.1 true) x1 bF.2.1 false))))))
  (some (.inr (.inl bF.1)))) (s0,x2,x0)).bind (Sum.elim (λ (ox:S) =>
  some (ox,true))
   (λ q=>some q))))
noncomputable def qk{S:Type}(ys:(List Bool)→S→Option (S × Bool))(x1:bW)(x2:Int)(x3:(List Bool))(x4:(List Bool))(s0:S):Option S :=
 ((kT ys 40).1 [false,false,false,false,false,false,false,false,false,false,false,false,false,false,false,false] 0 x1 x2 x3 x4 s0).bind λ AZ =>
  some AZ.1
noncomputable def vJ(x0:bW)(x1:(List Bool))(x2:(List Bool))(x3:Int):Option (bW × Int × (List Bool) × (List Bool)) :=
 some (x0,x3,x2,x1)
noncomputable def vC(x0:ao):Option (List Bool) :=
 (bC (O:=(List Bool)) (λ (dH:(Int × (List Bool))) =>
 aa (decide (dH.1 < (x0.ax.length:Int)))
 ((idx dH.2 dH.1).bind λ _ =>
 some (.inl (i64 (dH.1+1),dH.2.set dH.1.toNat true)))
 (some (.inr dH.2))) (0,[false,false,false,false])).bind (λ (oy:(List Bool)) =>
 some oy)
noncomputable def np(x0:ao):Option (Int × Int) :=
 (p6 x0 (λ y=>o7 y)).bind λ iY =>
 aa (iY.2 != 0)
 (some (0,iY.2))
 ((tB iY.1).bind λ eQ =>
 (vC iY.1.book).bind λ gP =>
 (vJ iY.1 eQ gP 0).bind λ fv =>
 (qk (gu (λ (_:(List Bool)) (pb:Int)=>((some (.inl (i64 (pb+1)))):Option (Int ⊕ Empty)))) fv.1 fv.2.1 fv.2.2.1 fv.2.2.2 (.inl 0)).bind (Sum.elim (λ (pb:Int) =>
 some (pb,0))
  (λ (o:Empty)=>o.elim)))
noncomputable def Bq(x0:ao)(x1:(List Bool)):Option (List (List Int)) :=
 (bC (O:=(List (List Int))) (λ (vf:((List (List Int)) × Int)) =>
 aa (decide (vf.2 < (x0.av.length:Int)))
 ((gI 4 x1 vf.2).bind λ y7 =>
 (bC (O:=(List Int)) (λ (rS:((List Int) × Int)) =>
 aa (decide (rS.2 < 4))
 ((idx y7 rS.2).bind λ agz =>
 aa agz
 ((eW rS.1 [rS.2]).bind λ Bj =>
 some (.inl (Bj,i64 (rS.2+1))))
 (some (.inl (rS.1,i64 (rS.2+1)))))
 (some (.inr rS.1))) ([],0)).bind (λ (KV:(List Int)) =>
 (eW vf.1 [KV]).bind λ Et =>
 some (.inl (Et,i64 (vf.2+1)))))
 (some (.inr vf.1))) ([],0)).bind (λ (OJ:(List (List Int))) =>
 some OJ)
noncomputable def Be(x0:ao):Option ((List (List Int)) × Bool × Int) :=
 (p6 x0 (λ y=>o7 y)).bind λ fw =>
 aa (fw.2 != 0)
 (some ([],false,fw.2))
 ((tB fw.1).bind λ vy =>
 (vC fw.1.book).bind λ vz =>
 (vJ fw.1 vy vz 0).bind λ nh =>
 (qk (gu (λ (Qy:(List Bool)) (_:Unit)=>(((Bq fw.1.book Qy).bind λ pq =>
 some (.inr pq)):Option (Unit ⊕ (List (List Int)))))) nh.1 nh.2.1 nh.2.2.1 nh.2.2.2 (.inl ())).bind (Sum.elim (λ (_:Unit) =>
 some ([],false,0))
  (λ (p8:(List (List Int))) =>
 some (p8,true,0))))
noncomputable def Hr (x1:((List Bool)→((List (List Bool)) ⊕ Empty)→Option (((List (List Bool)) ⊕ Empty) × Bool))→((List (List Bool)) ⊕ Empty)→Option ((List (List Bool)) ⊕ Empty)):Option (List (List Bool)) :=
 (x1 (gu (λ (rY:(List Bool)) (kz:(List (List Bool)))=>(((eW kz [rY]).bind λ gQ =>
 some (.inl gQ)):Option ((List (List Bool)) ⊕ Empty)))) (.inl [])).bind (Sum.elim (λ (kz:(List (List Bool))) =>
 some kz)
  (λ (o:Empty)=>o.elim))
noncomputable def GN (x0:((List Bool)→((List (List Bool)) ⊕ Empty)→Option (((List (List Bool)) ⊕ Empty) × Bool))→((List (List Bool)) ⊕ Empty)→Option ((List (List Bool)) ⊕ Empty)):Option (List (List Bool)) :=
 (Hr x0).bind λ de =>
 some de
noncomputable def GO(x0:((List Bool)→Option Int))(x1:(List (List Bool))):Option (List Bool) :=
 (idx x1 0).bind λ lJ =>
 (nN x1 1 (x1.length:Int)).bind λ tx =>
 (bC (O:=(List Bool)) (λ (mI:(Int × (List Bool))) =>
 aa (decide (mI.1 < (tx.length:Int)))
 ((idx tx mI.1).bind λ GK =>
 (x0 GK).bind λ q8 =>
 (x0 mI.2).bind λ mL =>
 aa (decide (q8 < mL))
 (some (.inl (i64 (mI.1+1),GK)))
 (some (.inl (i64 (mI.1+1),mI.2))))
 (some (.inr mI.2))) (0,lJ)).bind (λ (Dk:(List Bool)) =>
 some Dk)
noncomputable def A5(x0:ao)(x1:(List Bool)):Option Int :=
 (bC (O:=Int) (λ (fV:((Int→Int) × Int × Int)) =>
 aa (decide (fV.2.2 < (x0.av.length:Int)))
 ((idx x0.av fV.2.2).bind λ nO =>
 (gI 4 x1 fV.2.2).bind λ DN =>
 (bC (O:=((Int→Int) × Int)) (λ (gN:((Int→Int) × Int × Int)) =>
 aa (decide (gN.2.2 < 4))
 ((idx DN gN.2.2).bind λ y7 =>
 aa y7
 (some (.inl (pv gN.1 gN.2.2 (i64 ((gN.1 gN.2.2)+nO.gR)),r9 gN.2.1 [(pv gN.1 gN.2.2 (i64 ((gN.1 gN.2.2)+nO.gR))) gN.2.2],i64 (gN.2.2+1))))
 (some (.inl (gN.1,gN.2.1,i64 (gN.2.2+1)))))
 (some (.inr (gN.1,gN.2.1)))) (fV.1,fV.2.1,0)).bind (λ (zr:((Int→Int) × Int)) =>
 some (.inl (zr.1,zr.2,i64 (fV.2.2+1)))))
 (some (.inr fV.2.1))) ((λ _=>0),0,0)).bind (λ (rP:Int) =>
 some rP)
noncomputable def tz(x0:ao):Option ((List (List Int)) × Int × Bool × Int) :=
 (p6 x0 (λ y=>o7 y)).bind λ eQ =>
 aa (eQ.2 != 0)
 (some ([],0,false,eQ.2))
 ((tB eQ.1).bind λ gQ =>
 (vC eQ.1.book).bind λ gY =>
 (vJ eQ.1 gQ gY 0).bind λ ng =>
 (GN (λ y s=>qk y ng.1 ng.2.1 ng.2.2.1 ng.2.2.2 s)).bind λ vy =>
 aa ((vy.length:Int) == 0)
 (some ([],0,false,0))
 ((GO (λ y=>A5 eQ.1.book y) vy).bind λ lJ =>
 (Bq eQ.1.book lJ).bind λ tx =>
 (A5 eQ.1.book lJ).bind λ pq =>
 some (tx,pq,true,0)))
noncomputable def zf(x0:Int):Option (List Int) :=
 (bC (O:=(List Int)) (λ (jw:((List Int) × Int)) =>
 aa (decide (jw.2 < 4))
 ((kU .i64 x0 jw.2).bind λ q7 =>
 (fH .and .i64 q7 1).bind λ lK =>
 aa (lK == 1)
 ((eW jw.1 [jw.2]).bind λ lL =>
 some (.inl (lL,i64 (jw.2+1))))
 (some (.inl (jw.1,i64 (jw.2+1)))))
 (some (.inr jw.1))) ([],0)).bind (λ (o8:(List Int)) =>
 some o8)
noncomputable def KB(x0:Int)(x1:Int):Option Int :=
 (AE x0).bind λ iZ =>
 (AE x1).bind λ fX =>
 aa iZ
 (aa fX
 (some 0)
 (some (-1)))
 (aa fX
 (some 1)
 (aa (decide (x0 < x1))
 (some (-1))
 (aa (decide (x0 > x1))
 (some 1)
 (some 0))))
noncomputable def D2(x0:(List Int))(x1:(List Int)):Option Int :=
 (bC (O:=(Unit ⊕ Int)) (λ (lH:Int) =>
 aa (decide (lH < (x0.length:Int)))
 ((idx x0 lH).bind λ mL =>
 aa (decide (lH ≥ (x1.length:Int)))
 (some (.inr (.inr 1)))
 ((idx x1 lH).bind λ YB =>
 (KB mL YB).bind λ YC =>
 aa (YC != 0)
 (some (.inr (.inr YC)))
 (some (.inl (i64 (lH+1))))))
 (some (.inr (.inl ())))) 0).bind (Sum.elim (λ (_:Unit) =>
 aa (decide ((x0.length:Int) < (x1.length:Int)))
 (some (-1))
 (some 0))
  (λ q=>some q))
noncomputable def zp(x0:Int)(x1:(Int→Option Bool)):Option ((List Int) × Bool) :=
 (Hu .i64 1 x0).bind λ nW =>
 (bC (O:=((List Int) × Bool)) (λ (fB:((List Int) × Bool × Int)) =>
 aa (decide (fB.2.2 < nW))
 ((zf fB.2.2).bind λ nU =>
 (((aa (!fB.2.1)
 ((x1 fB.2.2).bind λ oH =>
 some oH)
 (aa (decide ((nU.length:Int) < (fB.1.length:Int)))
 ((x1 fB.2.2).bind λ AY =>
 some AY)
 (aa ((nU.length:Int) == (fB.1.length:Int))
 ((D2 nU fB.1).bind λ xt =>
 aa (decide (xt < 0))
 ((x1 fB.2.2).bind λ L2 =>
 some L2)
 (some false))
 (some false)))):Option Bool)).bind (λ (Gf:Bool) =>
 aa Gf
 (some (.inl (nU,true,i64 (fB.2.2+1))))
 (some (.inl (fB.1,fB.2.1,i64 (fB.2.2+1))))))
 (some (.inr (fB.1,fB.2.1)))) ([],false,0)).bind (λ (yA:((List Int) × Bool)) =>
 some (yA.1,yA.2))
noncomputable def zq(x0:bW)(x1:(List Bool))(x2:(List Bool))(x3:Int):Option Bool :=
 (vJ x0 x1 x2 x3).bind λ eP =>
 (qk (gu (λ (_:(List Bool)) (_:Unit)=>((some (.inr ())):Option (Unit ⊕ Unit)))) eP.1 eP.2.1 eP.2.2.1 eP.2.2.2 (.inl ())).bind (Sum.elim (λ (_:Unit) =>
 some false)
  (λ (_:Unit) =>
 some true))
noncomputable def Eh(x0:Int)(x1:bW)(x2:(List Bool))(x3:(List Bool)):Option Bool :=
 (zf x0).bind λ pe =>
 (zD pe).bind λ tv =>
 (zq x1 x2 tv 0).bind λ eP =>
 aa eP
 (some true)
 (aa (Qg tv x3 == true)
 ((zq x1 x2 x3 0).bind λ bS =>
 some bS)
 (some false))
noncomputable def xk(x0:ao):Option ((List Int) × Bool × Int) :=
 (p6 x0 (λ y=>o7 y)).bind λ bS =>
 aa (bS.2 != 0)
 (some ([],false,bS.2))
 ((tB bS.1).bind λ eQ =>
 (vC bS.1.book).bind λ gP =>
 (zp (x0.ax.length:Int) (λ y=>Eh y bS.1 eQ gP)).bind λ gQ =>
 some (gQ.1,gQ.2,0))
noncomputable def D7(x0:Int)(x1:bW)(x2:(List Bool))(x3:(List Bool)):Option Bool :=
 (zq x1 x2 x3 x0).bind λ de =>
 some de
noncomputable def pC(x0:ao):Option ((List Int) × Int) :=
 (p6 x0 (λ y=>o7 y)).bind λ bS =>
 aa (bS.2 != 0)
 (some ([],bS.2))
 ((tB bS.1).bind λ eQ =>
 (vC bS.1.book).bind λ gP =>
 (zp (x0.av.length:Int) (λ y=>D7 y bS.1 eQ gP)).bind λ gQ =>
 some (gQ.1,0))
noncomputable def C4(x0:ao)(x1:dO):Option ao :=
 (eW [] x0.ba).bind λ bS =>
 (eW bS [x1]).bind λ iq =>
 some (⟨x0.Rest,x0.Rows,x0.aM,x0.ax,x0.av,iq⟩:ao)
noncomputable def tK(x0:ao)(x1:Int):Option (Int × Int) :=
 (qJ x0).bind λ nc =>
 aa (nc != 0)
 (some (0,nc))
 ((kM x1 1 30).bind λ bS =>
 aa (!bS)
 (some (0,1))
 ((wU (⟨x0.Rest,x0.Rows,x0.aM,x0.ax,x0.av,x0.ba⟩:ao) x1).bind λ iq =>
 some (iq,0)))
noncomputable def C5(x0:Int)(x1:Int):Option Reach :=
 some (⟨x0,x1⟩:Reach)
noncomputable def Em(x0:(List dO)):Option (List dO) :=
 (eW [] x0).bind λ de =>
 some de
noncomputable def En(x0:(List dJ)):Option (List dJ) :=
 (eW [] x0).bind λ de =>
 some de
noncomputable def Eo(x0:(List Reach)):Option (List Reach) :=
 (eW [] x0).bind λ de =>
 some de
noncomputable def Ep(x0:(List dI)):Option (List dI) :=
 (eW [] x0).bind λ de =>
 some de
noncomputable def Er(x0:(List iy)):Option (List iy) :=
 (eW [] x0).bind λ de =>
 some de
noncomputable def HH(x0:ao):Option ao :=
 (En x0.Rows).bind λ xc =>
 (Eo x0.aM).bind λ iq =>
 (Ep x0.ax).bind λ iZ =>
 (Er x0.av).bind λ fX =>
 (Em x0.ba).bind λ eQ =>
 some (⟨x0.Rest,xc,iq,iZ,fX,eQ⟩:ao)
noncomputable def Bf(x0:ao)(x1:Int)(x2:Int):Option (ao × Int) :=
 (qJ x0).bind λ nU =>
 aa (nU != 0)
 (some ((⟨0,[],[],[],[],[]⟩:ao),nU))
 ((kM x1 1 30).bind λ PL =>
 (((aa (!PL)
 (some (!PL))
 ((kM x2 1 60).bind λ Lj =>
 some (!Lj))):Option Bool)).bind (λ (OK:Bool) =>
 aa OK
 (some ((⟨0,[],[],[],[],[]⟩:ao),1))
 ((wU (⟨x0.Rest,x0.Rows,x0.aM,x0.ax,x0.av,x0.ba⟩:ao) x1).bind λ xt =>
 aa (decide (x2 > xt))
 (some ((⟨0,[],[],[],[],[]⟩:ao),7))
 ((bC (O:=(List dJ)) (λ (nv:((List dJ) × Bool × Int)) =>
 aa (decide (nv.2.2 < (x0.Rows.length:Int)))
 ((idx x0.Rows nv.2.2).bind λ kS =>
 (((aa (decide (kS.dh > x1))
 (some (!nv.2.1))
 (some false)):Option Bool)).bind (λ (LU:Bool) =>
 (((aa LU
 ((eW nv.1 [(⟨x1,x2⟩:dJ)]).bind λ zu =>
 some (zu,true))
 (some (nv.1,nv.2.1))):Option ((List dJ) × Bool))).bind (λ (zd:((List dJ) × Bool)) =>
 (((aa (decide (kS.dh ≥ x1))
 (some (true,xq kS.eE [x2]))
 (some (zd.2,kS.eE))):Option (Bool × Int))).bind (λ (Bc:(Bool × Int)) =>
 (eW zd.1 [(⟨kS.dh,Bc.2⟩:dJ)]).bind λ LM =>
 some (.inl (LM,Bc.1,i64 (nv.2.2+1)))))))
 (some (.inr nv.1))) ([],false,0)).bind (λ (Gg:(List dJ)) =>
 aa (decide ((Gg.length:Int) > 4))
 (some ((⟨0,[],[],[],[],[]⟩:ao),2))
 ((HH (⟨x0.Rest,Gg,x0.aM,x0.ax,x0.av,x0.ba⟩:ao)).bind λ Es =>
 some (Es,0)))))))
noncomputable def Kv(x0:ao)(x1:Int):Option ao :=
 (zf x1).bind λ nh =>
 (bC (O:=(List dO)) (λ (jP:((List dO) × Int)) =>
 aa (decide (jP.2 < (nh.length:Int)))
 ((idx nh jP.2).bind λ lK =>
 (idx x0.ba lK).bind λ lq =>
 (eW jP.1 [lq]).bind λ lL =>
 some (.inl (lL,i64 (jP.2+1))))
 (some (.inr jP.1))) ([],0)).bind (λ (p8:(List dO)) =>
 some (⟨x0.Rest,x0.Rows,x0.aM,x0.ax,x0.av,p8⟩:ao))
noncomputable def Kw(x0:ao):Option Bool :=
 (p5 (gu (λ (_:br) (_:Unit)=>((some (.inr ())):Option (Unit ⊕ Unit)))) x0 (.inl ())).bind (Sum.elim (λ (_:Unit) =>
 some false)
  (λ (_:Unit) =>
 some true))
noncomputable def FJ(x0:Int)(x1:ao):Option Bool :=
 (Kv x1 x0).bind λ qO =>
 (Kw qO).bind λ eO =>
 some (!eO)
noncomputable def F2(x0:ao):Option ((List Int) × Int) :=
 (qJ x0).bind λ tv =>
 aa (tv != 0)
 (some ([],tv))
 ((zp (x0.ba.length:Int) (λ y=>FJ y x0)).bind λ bS =>
 some (bS.1,0))
noncomputable def FK(x0:br)(x1:Int)(x2:Int):Option Bool :=
 (idx x0.deep x1).bind λ eO =>
 some (decide (eO≤x2))
noncomputable def F3(x0:ao):Option (Int × Int × Int × Int) :=
 (p6 x0 (λ y=>o7 y)).bind λ gZ =>
 aa (gZ.2 != 0)
 (some (0,0,0,gZ.2))
 ((bC (O:=(Int × Int × Int)) (λ (fV:(Int × Int × Int × Int)) =>
 aa (decide (fV.2.2.2 < (x0.aM.length:Int)))
 ((bC (O:=(Int × Int × Int)) (λ (mH:(Int × Int × Int × Int)) =>
 aa (decide (mH.2.2.2 < 31))
 ((uW gZ.1 (λ y=>FK y fV.2.2.2 mH.2.2.2)).bind λ nM =>
 aa (decide (r9 nM [i64 ((gZ.1.fi.length:Int) - nM)] < mH.2.2.1))
 (some (.inl (fV.2.2.2,mH.2.2.2,r9 nM [i64 ((gZ.1.fi.length:Int) - nM)],i64 (mH.2.2.2+1))))
 (some (.inl (mH.1,mH.2.1,mH.2.2.1,i64 (mH.2.2.2+1)))))
 (some (.inr (mH.1,mH.2.1,mH.2.2.1)))) (fV.1,fV.2.1,fV.2.2.1,0)).bind (λ (AJ:(Int × Int × Int)) =>
 some (.inl (AJ.1,AJ.2.1,AJ.2.2,i64 (fV.2.2.2+1)))))
 (some (.inr (fV.1,fV.2.1,fV.2.2.1)))) ((-1),(-1),(gZ.1.fi.length:Int),0)).bind (λ (rP:(Int × Int × Int)) =>
 some (rP.1,rP.2.1,rP.2.2,0)))
noncomputable def zk(x0:ao)(x1:Int)(x2:Int):Option (Bool × Int) :=
 (qJ x0).bind λ iY =>
 aa (iY != 0)
 (some (false,iY))
 ((pZ x1 (x0.av.length:Int)).bind λ iZ =>
 (pZ x2 (x0.av.length:Int)).bind λ fX =>
 aa (r9 iZ [fX] != 0)
 (some (false,r9 iZ [fX]))
 ((AB (⟨x0.Rest,x0.Rows,x0.aM,x0.ax,x0.av,x0.ba⟩:ao) x1 x2).bind λ fw =>
 some (fw,0)))
noncomputable def FL(x0:Int):Option Reach :=
 some (⟨x0,x0⟩:Reach)
noncomputable def KL  : Option ao :=
 (C5 9 11).bind λ bS =>
 (FL 15).bind λ xc =>
 some (⟨10,[(⟨10,40⟩:dJ),(⟨20,20⟩:dJ)],[bS,xc],[(⟨⟨#[97,110,110]⟩,20⟩:dI),(⟨⟨#[98,111]⟩,12⟩:dI)],[(⟨0,0,20,2⟩:iy),(⟨1,30,15,1⟩:iy),(⟨0,60,30,1⟩:iy)],[]⟩:ao)
noncomputable def zw(x0:(List Int))(x1:(List Int)):Option Bool :=
 (bC (O:=(Unit ⊕ Bool)) (λ (vm:Int) =>
 aa (decide (vm < (x1.length:Int)))
 ((((aa (decide (vm ≥ (x0.length:Int)))
 (some true)
 ((idx x0 vm).bind λ jM =>
 (idx x1 vm).bind λ HL =>
 some (decide (jM < HL)))):Option Bool)).bind (λ (OI:Bool) =>
 aa OI
 (some (.inr (.inr true)))
 ((idx x0 vm).bind λ agv =>
 (idx x1 vm).bind λ Bt =>
 aa (decide (agv > Bt))
 (some (.inr (.inr false)))
 (some (.inl (i64 (vm+1)))))))
 (some (.inr (.inl ())))) 0).bind (Sum.elim (λ (_:Unit) =>
 some false)
  (λ q=>some q))
noncomputable def zy(x0:(List Int))(x1:(List Int)):Option Bool :=
 (zw x0 x1).bind λ eO =>
 aa (!eO)
 ((zw x1 x0).bind λ mf =>
 some (!mf))
 (some false)
noncomputable def yt(x0:(List Int))(x1:(List Int)):Option Bool :=
 (zy x0 x1).bind λ de =>
 some de
noncomputable def KJ(x0:(List (List Int)))(x1:(List (List Int))):Option Bool :=
 aa ((x0.length:Int) != (x1.length:Int))
 (some false)
 ((bC (O:=(Unit ⊕ Bool)) (λ (ta:Int) =>
 aa (decide (ta < (x0.length:Int)))
 ((idx x0 ta).bind λ q7 =>
 (idx x1 ta).bind λ lK =>
 (zy q7 lK).bind λ lq =>
 aa (!lq)
 (some (.inr (.inr false)))
 (some (.inl (i64 (ta+1)))))
 (some (.inr (.inl ())))) 0).bind (Sum.elim (λ (_:Unit) =>
 some true)
  (λ q=>some q)))
noncomputable def F4(x0:(List (List Int)))(x1:(List (List Int))):Option Bool :=
 (KJ x0 x1).bind λ de =>
 some de
noncomputable def fF  : Option Bool :=
 (KL).bind λ eT =>
 (C4 eT (⟨0,10,true⟩:dO)).bind λ hF =>
 (tK eT 10).bind λ DO =>
 (tK eT 21).bind λ xu =>
 (zx eT).bind λ xm =>
 (FV hF 0).bind λ qV =>
 (FZ eT 0).bind λ oL =>
 (tC eT 1 0).bind λ pB =>
 (tC eT 1 1).bind λ qT =>
 (tC eT 1 2).bind λ qi =>
 (zk eT 0 1).bind λ qU =>
 (m32 eT ([[0,1],[0],[1]])).bind λ vL =>
 (m32 hF ([[0,1],[0],[1]])).bind λ DQ =>
 (((aa (DO.2 != 0)
 (some true)
 (aa (xu.2 != 0)
 (some true)
 (aa (xm.2 != 0)
 (some true)
 (aa (qV.2 != 0)
 (some true)
 (aa (oL.2 != 0)
 (some true)
 (aa (pB.2 != 0)
 (some true)
 (aa (qT.2 != 0)
 (some true)
 (aa (qi.2 != 0)
 (some true)
 (aa (qU.2 != 0)
 (some true)
 (aa (vL.2 != 0)
 (some true)
 (some (DQ.2 != 0)))))))))))):Option Bool)).bind (λ (Gh:Bool) =>
 aa Gh
 (some false)
 ((((aa (DO.1 != 40)
 (some true)
 (aa (xu.1 != 0)
 (some true)
 (aa (xm.1 != 3)
 (some true)
 ((yt qV.1 [9,10]).bind λ Ev =>
 aa (!Ev)
 (some true)
 ((C5 20 40).bind λ Ll =>
 aa (!(LZ oL.1 Ll == true))
 (some true)
 (aa (pB.1 != 1)
 (some true)
 (aa (qT.1 != 2)
 (some true)
 (aa (qi.1 != 0)
 (some true)
 (aa (!qU.1)
 (some true)
 (aa (vL.1 != 0)
 (some true)
 (some (DQ.1 != 1)))))))))))):Option Bool)).bind (λ (Gi:Bool) =>
 aa Gi
 (some false)
 ((np eT).bind λ DR =>
 (np hF).bind λ DS =>
 (Be hF).bind λ xa =>
 (tz hF).bind λ rX =>
 (xk hF).bind λ xb =>
 (pC eT).bind λ DT =>
 (F3 eT).bind λ pg =>
 (Bf hF 12 15).bind λ qe =>
 (pC qe.1).bind λ GH =>
 (C4 hF (⟨0,8,true⟩:dO)).bind λ Lm =>
 (F2 Lm).bind λ DU =>
 (((aa (DR.2 != 0)
 (some true)
 (aa (DS.2 != 0)
 (some true)
 (aa (xa.2.2 != 0)
 (some true)
 (aa (rX.2.2.2 != 0)
 (some true)
 (aa (xb.2.2 != 0)
 (some true)
 (aa (DT.2 != 0)
 (some true)
 (aa (pg.2.2.2 != 0)
 (some true)
 (aa (qe.2 != 0)
 (some true)
 (aa (GH.2 != 0)
 (some true)
 (some (DU.2 != 0))))))))))):Option Bool)).bind (λ (Gj:Bool) =>
 aa Gj
 (some false)
 ((((aa (DR.1 != 0)
 (some true)
 (aa (DS.1 != 2)
 (some true)
 (aa (!xa.2.1)
 (some true)
 ((F4 xa.1 ([[0,1],[0],[0]])).bind λ PQ =>
 aa (!PQ)
 (some true)
 (aa (!rX.2.2.1)
 (some true)
 (aa (rX.2.1 != 50)
 (some true)
 ((F4 rX.1 ([[0,1],[0],[1]])).bind λ DW =>
 aa (!DW)
 (some true)
 (aa (!xb.2.1)
 (some true)
 ((yt xb.1 [0,1]).bind λ PS =>
 aa (!PS)
 (some true)
 ((yt DT.1 [2]).bind λ PT =>
 some (!PT))))))))))):Option Bool)).bind (λ (Gk:Bool) =>
 aa Gk
 (some false)
 (aa (pg.1 == 0)
 (aa (pg.2.1 == 9)
 (aa (pg.2.2.1 == 2)
 (aa ((GH.1.length:Int) == 0)
 ((yt DU.1 [1]).bind λ PU =>
 aa PU
 (aa ((qe.1.Rows.length:Int) == 3)
 ((idx qe.1.Rows 1).bind λ GJ =>
 aa (El GJ (⟨12,15⟩:dJ) == true)
 ((idx qe.1.Rows 2).bind λ xw =>
 some (El xw (⟨20,15⟩:dJ) == true))
 (some false))
 (some false))
 (some false))
 (some false))
 (some false))
 (some false))
 (some false)))))))))
noncomputable def lF(x0:Int)(x1:Int)(x2:Int):Option Bool :=
 aa (decide (x1≤x0))
 (some (decide (x0≤x2)))
 (some false)
noncomputable def FG(x0:ao)(x1:Int):Option Bool :=
 (lF x1 0 (i64 ((x0.aM.length:Int) - 1))).bind λ eO =>
 some eO
noncomputable def Kt(x0:ao):Option Int :=
 (lF x0.Rest 0 60).bind λ tF =>
 aa (!tF)
 (some 1)
 ((lF (x0.Rows.length:Int) 1 4).bind λ ni =>
 aa (!ni)
 (some 2)
 ((bC (O:=(Unit ⊕ Int)) (λ (vn:Int) =>
 aa (decide (vn < (x0.Rows.length:Int)))
 ((idx x0.Rows vn).bind λ tI =>
 ((((lF tI.dh 1 30).bind λ agy =>
 aa (!agy)
 (some true)
 ((lF tI.eE 1 60).bind λ Ed =>
 some (!Ed))):Option Bool)).bind (λ (ON:Bool) =>
 aa ON
 (some (.inr (.inr 1)))
 (aa (decide (vn > 0))
 ((idx x0.Rows (i64 (vn - 1))).bind λ nO =>
 aa (decide (tI.dh≤nO.dh))
 (some (.inr (.inr 7)))
 ((idx x0.Rows (i64 (vn - 1))).bind λ DN =>
 aa (decide (tI.eE > DN.eE))
 (some (.inr (.inr 7)))
 (some (.inl (i64 (vn+1))))))
 (some (.inl (i64 (vn+1)))))))
 (some (.inr (.inl ())))) 0).bind (Sum.elim (λ (_:Unit) =>
 some 0)
  (λ q=>some q))))
noncomputable def Kx(x0:Reach)(x1:Int)(x2:Int):Option Bool :=
 aa (decide (x1≤x0.cI))
 (aa (decide (x0.cI≤x0.dK))
 (some (decide (x0.dK≤x2)))
 (some false))
 (some false)
noncomputable def CR(x0:Int):Option Bool :=
 (lF (i64 x0) 97 122).bind λ de =>
 some de
noncomputable def FU(x0:Int):Option Bool :=
 (lF (i64 x0) 48 57).bind λ de =>
 some de
noncomputable def Ky(x0:ByteArray):Option Bool :=
 ((((lF (x0.size:Int) 1 12).bind λ Lo =>
 aa (!Lo)
 (some true)
 ((vo x0 0).bind λ lK =>
 (CR lK).bind λ lq =>
 some (!lq))):Option Bool)).bind (λ (Dl:Bool) =>
 aa Dl
 (some false)
 ((bC (O:=(Unit ⊕ Bool)) (λ (qL:Int) =>
 aa (decide (qL < (x0.size:Int)))
 ((vo x0 qL).bind λ pj =>
 (CR pj).bind λ ni =>
 aa (!ni)
 ((vo x0 qL).bind λ gZ =>
 (FU gZ).bind λ lQ =>
 aa (!lQ)
 (some (.inr (.inr false)))
 (some (.inl (i64 (qL+1)))))
 (some (.inl (i64 (qL+1)))))
 (some (.inr (.inl ())))) 1).bind (Sum.elim (λ (_:Unit) =>
 some true)
  (λ q=>some q))))
noncomputable def Ku(x0:ao):Option Int :=
 (lF (x0.aM.length:Int) 1 3).bind λ L3 =>
 aa (!L3)
 (some 2)
 ((bC (O:=(Unit ⊕ Int)) (λ (Gp:Int) =>
 aa (decide (Gp < (x0.aM.length:Int)))
 ((idx x0.aM Gp).bind λ nM =>
 (Kx nM 1 30).bind λ kS =>
 aa (!kS)
 (some (.inr (.inr 1)))
 (aa (decide (i64 (nM.dK - nM.cI) ≥ 3))
 (some (.inr (.inr 1)))
 (some (.inl (i64 (Gp+1))))))
 (some (.inr (.inl ())))) 0).bind (Sum.elim (λ (_:Unit) =>
 (lF (x0.ax.length:Int) 1 4).bind λ y7 =>
 aa (!y7)
 (some 2)
 ((bC (O:=(Unit ⊕ Int)) (λ (vg:Int) =>
 aa (decide (vg < (x0.ax.length:Int)))
 ((idx x0.ax vg).bind λ Yv =>
 (Ky Yv.Name).bind λ agC =>
 aa (!agC)
 (some (.inr (.inr 4)))
 ((bC (O:=(Unit ⊕ Int)) (λ (Gq:Int) =>
 aa (decide (Gq < vg))
 ((idx x0.ax Gq).bind λ HS =>
 (idx x0.ax vg).bind λ HT =>
 aa (HS.Name.toList == HT.Name.toList)
 (some (.inr (.inr 5)))
 (some (.inl (i64 (Gq+1)))))
 (some (.inr (.inl ())))) 0).bind (Sum.elim (λ (_:Unit) =>
 (idx x0.ax vg).bind λ HU =>
 (lF HU.mg 1 30).bind λ agE =>
 aa (!agE)
 (some (.inr (.inr 1)))
 (some (.inl (i64 (vg+1)))))
  (λ q=>some (.inr (.inr q))))))
 (some (.inr (.inl ())))) 0).bind (Sum.elim (λ (_:Unit) =>
 some 0)
  (λ q=>some q))))
  (λ q=>some q)))
noncomputable def C6(x0:ao):Option Int :=
 (Kt x0).bind λ Yp =>
 aa (Yp != 0)
 (some Yp)
 ((Ku x0).bind λ Yq =>
 aa (Yq != 0)
 (some Yq)
 ((lF (x0.av.length:Int) 1 4).bind λ agw =>
 aa (!agw)
 (some 2)
 ((bC (O:=(Unit ⊕ Int)) (λ (Gn:Int) =>
 aa (decide (Gn < (x0.av.length:Int)))
 ((idx x0.av Gn).bind λ pD =>
 (FG x0 pD.Place).bind λ zh =>
 aa (!zh)
 (some (.inr (.inr 6)))
 ((lF pD.jf 0 200).bind λ HP =>
 aa (!HP)
 (some (.inr (.inr 1)))
 ((lF pD.gR 1 60).bind λ HQ =>
 aa (!HQ)
 (some (.inr (.inr 1)))
 ((lF pD.ax 1 3).bind λ aab =>
 aa (!aab)
 (some (.inr (.inr 1)))
 (some (.inl (i64 (Gn+1))))))))
 (some (.inr (.inl ())))) 0).bind (Sum.elim (λ (_:Unit) =>
 aa (decide ((x0.ba.length:Int) > 3))
 (some 2)
 ((bC (O:=(Unit ⊕ Int)) (λ (tD:Int) =>
 aa (decide (tD < (x0.ba.length:Int)))
 ((idx x0.ba tD).bind λ xr =>
 (FG x0 xr.Place).bind λ eT =>
 aa (!eT)
 (some (.inr (.inr 6)))
 ((idx x0.ba tD).bind λ po =>
 (lF po.lU 0 30).bind λ Eu =>
 aa (!Eu)
 (some (.inr (.inr 1)))
 (some (.inl (i64 (tD+1))))))
 (some (.inr (.inl ())))) 0).bind (Sum.elim (λ (_:Unit) =>
 some 0)
  (λ q=>some q))))
  (λ q=>some q)))))
noncomputable def GQ(x0:(List Int))(x1:Int):Option Int :=
 (bC (O:=(Unit ⊕ Int)) (λ (w6:Int) =>
 aa (decide (w6 < (x0.length:Int)))
 ((idx x0 w6).bind λ YD =>
 (lF YD 0 (i64 (x1 - 1))).bind λ x86 =>
 aa (!x86)
 (some (.inr (.inr 6)))
 (aa (decide (w6 > 0))
 ((idx x0 w6).bind λ tF =>
 (idx x0 (i64 (w6 - 1))).bind λ zj =>
 aa (decide (tF≤zj))
 (some (.inr (.inr 7)))
 (some (.inl (i64 (w6+1)))))
 (some (.inl (i64 (w6+1))))))
 (some (.inr (.inl ())))) 0).bind (Sum.elim (λ (_:Unit) =>
 some 0)
  (λ q=>some q))
noncomputable def Lz(x0:ao)(x1:(List (List Int))):Option Int :=
 aa ((x1.length:Int) != (x0.av.length:Int))
 (some 2)
 ((bC (O:=(Unit ⊕ Int)) (λ (lI:Int) =>
 aa (decide (lI < (x1.length:Int)))
 ((idx x1 lI).bind λ y8 =>
 (idx x0.av lI).bind λ zi =>
 aa ((y8.length:Int) != zi.ax)
 (some (.inr (.inr 2)))
 ((idx x1 lI).bind λ DX =>
 (GQ DX (x0.ax.length:Int)).bind λ pj =>
 aa (pj != 0)
 (some (.inr (.inr pj)))
 (some (.inl (i64 (lI+1))))))
 (some (.inr (.inl ())))) 0).bind (Sum.elim (λ (_:Unit) =>
 some 0)
  (λ q=>some q)))
noncomputable def F1(x0:(List Int))(x1:Int):Option Bool :=
 (bC (O:=(Unit ⊕ Bool)) (λ (Gr:Int) =>
 aa (decide (Gr < (x0.length:Int)))
 ((idx x0 Gr).bind λ lJ =>
 aa (lJ == x1)
 (some (.inr (.inr true)))
 (some (.inl (i64 (Gr+1)))))
 (some (.inr (.inl ())))) 0).bind (Sum.elim (λ (_:Unit) =>
 some false)
  (λ q=>some q))
noncomputable def Q3(x0:ao)(x1:(List (List Int)))(x2:Int):Option Int :=
 (bC (O:=Int) (λ (gO:(Int × Int)) =>
 aa (decide (gO.2 < (x1.length:Int)))
 ((idx x1 gO.2).bind λ nV =>
 (F1 nV x2).bind λ Ln =>
 aa Ln
 ((idx x0.av gO.2).bind λ Lo =>
 some (.inl (i64 (gO.1+Lo.gR),i64 (gO.2+1))))
 (some (.inl (gO.1,i64 (gO.2+1)))))
 (some (.inr gO.1))) (0,0)).bind (λ (u9:Int) =>
 some u9)
noncomputable def m64(x0:ao)(x1:(List (List Int))):Option Int :=
 (bC (O:=Int) (λ (vi:(Int × Int)) =>
 aa (decide (vi.2 < (x0.ax.length:Int)))
 ((Q3 x0 x1 vi.2).bind λ vz =>
 some (.inl (r9 vi.1 [vz],i64 (vi.2+1))))
 (some (.inr vi.1))) (0,0)).bind (λ (OS:Int) =>
 some OS)
noncomputable def A7(x0:(List Int))(x1:(List Int)):Option Bool :=
 aa (decide ((x0.length:Int) < (x1.length:Int)))
 (some true)
 (aa ((x0.length:Int) == (x1.length:Int))
 ((zw x0 x1).bind λ mf =>
 some mf)
 (some false))
noncomputable def uX(x0:ao):Option Bool :=
 (FR x0).bind λ mf =>
 aa (!mf)
 ((C6 x0).bind λ pe =>
 some (pe == 0))
 (some false)
noncomputable def Hg(x0:ao)(x1:ao):Option Bool :=
 (((aa (x0.Rest != x1.Rest)
 (some true)
 (aa ((x0.Rows.length:Int) != (x1.Rows.length:Int))
 (some true)
 (aa ((x0.aM.length:Int) != (x1.aM.length:Int))
 (some true)
 (aa ((x0.ax.length:Int) != (x1.ax.length:Int))
 (some true)
 (aa ((x0.av.length:Int) != (x1.av.length:Int))
 (some true)
 (some ((x0.ba.length:Int) != (x1.ba.length:Int)))))))):Option Bool)).bind (λ (OM:Bool) =>
 aa OM
 (some false)
 ((bC (O:=(Unit ⊕ Bool)) (λ (tH:Int) =>
 aa (decide (tH < (x0.Rows.length:Int)))
 ((idx x0.Rows tH).bind λ pD =>
 (idx x1.Rows tH).bind λ Yr =>
 aa (!(El pD Yr == true))
 (some (.inr (.inr false)))
 (some (.inl (i64 (tH+1)))))
 (some (.inr (.inl ())))) 0).bind (Sum.elim (λ (_:Unit) =>
 (bC (O:=(Unit ⊕ Bool)) (λ (Dp:Int) =>
 aa (decide (Dp < (x0.aM.length:Int)))
 ((idx x0.aM Dp).bind λ HM =>
 (idx x1.aM Dp).bind λ zu =>
 aa (!(LZ HM zu == true))
 (some (.inr (.inr false)))
 (some (.inl (i64 (Dp+1)))))
 (some (.inr (.inl ())))) 0).bind (Sum.elim (λ (_:Unit) =>
 (bC (O:=(Unit ⊕ Bool)) (λ (Dq:Int) =>
 aa (decide (Dq < (x0.ax.length:Int)))
 ((idx x0.ax Dq).bind λ Hx =>
 (idx x1.ax Dq).bind λ HR =>
 aa (!(ZQ Hx HR == true))
 (some (.inr (.inr false)))
 (some (.inl (i64 (Dq+1)))))
 (some (.inr (.inl ())))) 0).bind (Sum.elim (λ (_:Unit) =>
 (bC (O:=(Unit ⊕ Bool)) (λ (Dr:Int) =>
 aa (decide (Dr < (x0.av.length:Int)))
 ((idx x0.av Dr).bind λ oL =>
 (idx x1.av Dr).bind λ xv =>
 aa (!(ZP oL xv == true))
 (some (.inr (.inr false)))
 (some (.inl (i64 (Dr+1)))))
 (some (.inr (.inl ())))) 0).bind (Sum.elim (λ (_:Unit) =>
 (bC (O:=(Unit ⊕ Bool)) (λ (Ds:Int) =>
 aa (decide (Ds < (x0.ba.length:Int)))
 ((idx x0.ba Ds).bind λ Yt =>
 (idx x1.ba Ds).bind λ Yu =>
 aa (!(ZR Yt Yu == true))
 (some (.inr (.inr false)))
 (some (.inl (i64 (Ds+1)))))
 (some (.inr (.inl ())))) 0).bind (Sum.elim (λ (_:Unit) =>
 some true)
  (λ q=>some q)))
  (λ q=>some q)))
  (λ q=>some q)))
  (λ q=>some q)))
  (λ q=>some q))))
noncomputable def Q4(x0:ao)(x1:Int)(x2:Int):Option ao :=
 (bC (O:=(List dJ)) (λ (ns:(Bool × Int × (List dJ))) =>
 aa (decide (ns.2.1 < (x0.Rows.length:Int)))
 ((idx x0.Rows ns.2.1).bind λ qh =>
 aa (decide (qh.dh < x1))
 ((eW ns.2.2 [qh]).bind λ nO =>
 some (.inl (ns.1,i64 (ns.2.1+1),nO)))
 ((((aa (!ns.1)
 (some (decide (qh.dh > x1)))
 (some false)):Option Bool)).bind (λ (LR:Bool) =>
 (((aa LR
 ((eW ns.2.2 [(⟨x1,x2⟩:dJ)]).bind λ Hn =>
 some Hn)
 (some ns.2.2)):Option (List dJ))).bind (λ (LS:(List dJ)) =>
 (eW LS ([(⟨qh.dh,xq qh.eE [x2]⟩:dJ)])).bind λ LD =>
 some (.inl (true,i64 (ns.2.1+1),LD))))))
 (some (.inr ns.2.2))) (false,0,[])).bind (λ (OW:(List dJ)) =>
 some (⟨x0.Rest,OW,x0.aM,x0.ax,x0.av,x0.ba⟩:ao))
noncomputable def m7(x0:ao)(x1:Int)(x2:Int)(x3:Int):Option Bool :=
 (uX x0).bind λ ZJ =>
 aa (!ZJ)
 ((fF).bind λ zo =>
 some zo)
 ((yD (i64 x1) 30).bind λ iu =>
 (yD (i64 x2) 60).bind λ jb =>
 (yD (i64 x3) 30).bind λ Bu =>
 (tK x0 (i64 (1+iu))).bind λ nO =>
 (Bf x0 (i64 (1+iu)) (i64 (1+jb))).bind λ mP =>
 (((aa (nO.2 != 0)
 (some true)
 (some (!((mP.2 == 7) == (decide (i64 (1+jb) > nO.1)))))):Option Bool)).bind (λ (zr:Bool) =>
 aa zr
 (some false)
 (aa (mP.2 != 0)
 ((((aa (mP.2 == 7)
 ((Hg mP.1 (⟨0,[],[],[],[],[]⟩:ao)).bind λ LM =>
 aa LM
 ((fF).bind λ aj3 =>
 some aj3)
 (some false))
 (aa (mP.2 == 2)
 (aa ((x0.Rows.length:Int) == 4)
 ((Hg mP.1 (⟨0,[],[],[],[],[]⟩:ao)).bind λ LW =>
 aa LW
 ((fF).bind λ aad =>
 some aad)
 (some false))
 (some false))
 (some false))):Option Bool)).bind (λ (zd:Bool) =>
 some zd))
 (((((C6 mP.1).bind λ Hx =>
 aa (Hx != 0)
 (some true)
 ((Q4 x0 (i64 (1+iu)) (i64 (1+jb))).bind λ GU =>
 (Hg mP.1 GU).bind λ xr =>
 some (!xr))):Option Bool)).bind (λ (aih:Bool) =>
 aa aih
 (some false)
 ((tK x0 (i64 (1+Bu))).bind λ xf =>
 (tK mP.1 (i64 (1+Bu))).bind λ po =>
 (tK mP.1 (i64 (1+iu))).bind λ Eu =>
 (((aa (xf.2 != 0)
 (some true)
 (aa (po.2 != 0)
 (some true)
 (aa (Eu.2 != 0)
 (some true)
 (aa (Eu.1 != i64 (1+jb))
 (some true)
 (aa (decide (po.1 > xf.1))
 (some true)
 (aa (decide (i64 (1+Bu) ≥ i64 (1+iu)))
 (aa (po.1 != xq xf.1 [i64 (1+jb)])
 (some true)
 (aa (decide (i64 (1+Bu) < i64 (1+iu)))
 (aa (po.1 != xf.1)
 (some (po.1 != i64 (1+jb)))
 (some false))
 (some false)))
 (aa (decide (i64 (1+Bu) < i64 (1+iu)))
 (aa (po.1 != xf.1)
 (some (po.1 != i64 (1+jb)))
 (some false))
 (some false)))))))):Option Bool)).bind (λ (aii:Bool) =>
 aa aii
 (some false)
 ((bC (O:=(Unit ⊕ Bool)) (λ (Ec:Int) =>
 aa (decide (Ec < (x0.Rows.length:Int)))
 ((idx x0.Rows Ec).bind λ aj5 =>
 aa (decide (aj5.dh < i64 (1+iu)))
 ((idx x0.Rows Ec).bind λ LX =>
 aa (decide (i64 (1+Bu)≤LX.dh))
 (aa (po.1 != xf.1)
 (some (.inr (.inr false)))
 (some (.inl (i64 (Ec+1)))))
 (some (.inl (i64 (Ec+1)))))
 (some (.inl (i64 (Ec+1)))))
 (some (.inr (.inl ())))) 0).bind (Sum.elim (λ (_:Unit) =>
 (np x0).bind λ Ek =>
 (np mP.1).bind λ aai =>
 (pC x0).bind λ HS =>
 (pC mP.1).bind λ HT =>
 aa (Ek.2 == aai.2)
 (aa (Ek.2 == HS.2)
 (aa (Ek.2 == HT.2)
 (aa (decide (aai.1≤Ek.1))
 (aa (decide ((HS.1.length:Int)≤(HT.1.length:Int)))
 ((fF).bind λ Ev =>
 some Ev)
 (some false))
 (some false))
 (some false))
 (some false))
 (some false))
  (λ q=>some q))))))))))
noncomputable def Bb(x0:(List Int))(x1:Int):Option (List Int) :=
 (bC (O:=(List Int)) (λ (s9:((List Int) × Int)) =>
 aa (decide (s9.2 < (x0.length:Int)))
 (aa (s9.2 != x1)
 ((idx x0 s9.2).bind λ nV =>
 (eW s9.1 [nV]).bind λ tE =>
 some (.inl (tE,i64 (s9.2+1))))
 (some (.inl (s9.1,i64 (s9.2+1)))))
 (some (.inr s9.1))) ([],0)).bind (λ (OT:(List Int)) =>
 some OT)
noncomputable def P3(x0:(List Int))(x1:Int):Option Int :=
 (lF x1 0 (i64 ((x0.length:Int) - 1))).bind λ eO =>
 aa eO
 ((idx x0 x1).bind λ mf =>
 some (i64 mf))
 (some 0)
noncomputable def Ly(x0:ao)(x1:(List Int)):Option ((List (List Int)) × Bool) :=
 (bC (O:=((List (List Int)) ⊕ ((List (List Int)) × Bool))) (λ (pa:((List (List Int)) × Int)) =>
 aa (decide (pa.2 < (x0.av.length:Int)))
 ((idx x0.av pa.2).bind λ P6 =>
 aa (decide (P6.ax > (x0.ax.length:Int)))
 (some (.inr (.inr ([],false))))
 ((bC (O:=(List Int)) (λ (iF:((List Int) × Int × Int)) =>
 aa (decide (iF.2.2 < (x0.ax.length:Int)))
 ((((aa (decide (iF.2.1 > 0))
 (aa (decide (i64 ((x0.ax.length:Int) - iF.2.2)≤iF.2.1))
 (some true)
 ((P3 x1 pa.2).bind λ Zl =>
 (kU .i64 Zl iF.2.2).bind λ xw =>
 (fH .and .i64 xw 1).bind λ Rj =>
 some (Rj == 1)))
 (some false)):Option Bool)).bind (λ (HN:Bool) =>
 aa HN
 ((eW iF.1 [iF.2.2]).bind λ Qe =>
 some (.inl (Qe,i64 (iF.2.1 - 1),i64 (iF.2.2+1))))
 (some (.inl (iF.1,iF.2.1,i64 (iF.2.2+1))))))
 (some (.inr iF.1))) ([],P6.ax,0)).bind (λ (Hi:(List Int)) =>
 (eW pa.1 [Hi]).bind λ Zm =>
 some (.inl (Zm,i64 (pa.2+1))))))
 (some (.inr (.inl pa.1)))) ([],0)).bind (Sum.elim (λ (OP:(List (List Int))) =>
 some (OP,true))
  (λ q=>some q))
noncomputable def HI(x0:(List (List Int)))(x1:(List (List Int))):Option Bool :=
 (bC (O:=(Unit ⊕ Bool)) (λ (vl:Int) =>
 (((aa (decide (vl < (x0.length:Int)))
 (some (decide (vl < (x1.length:Int))))
 (some false)):Option Bool)).bind (λ (OU:Bool) =>
 aa OU
 ((idx x0 vl).bind λ DX =>
 (idx x1 vl).bind λ pj =>
 (zy DX pj).bind λ ni =>
 aa (!ni)
 ((idx x0 vl).bind λ gZ =>
 (idx x1 vl).bind λ lQ =>
 (zw gZ lQ).bind λ DY =>
 some (.inr (.inr DY)))
 (some (.inl (i64 (vl+1)))))
 (some (.inr (.inl ()))))) 0).bind (Sum.elim (λ (_:Unit) =>
 some false)
  (λ q=>some q))
noncomputable def m10(x0:ao)(x1:(List Int)):Option Bool :=
 (uX x0).bind λ L3 =>
 aa (!L3)
 ((fF).bind λ Ed =>
 some Ed)
 ((np x0).bind λ zo =>
 (Be x0).bind λ iu =>
 (tz x0).bind λ jb =>
 (((aa (zo.2 != iu.2.2)
 (some true)
 (aa (zo.2 != jb.2.2.2)
 (some true)
 (aa (!(iu.2.1 == jb.2.2.1))
 (some true)
 (some (!(iu.2.1 == (decide (zo.1 > 0)))))))):Option Bool)).bind (λ (aid:Bool) =>
 aa aid
 (some false)
 ((Ly x0 x1).bind λ zh =>
 (((aa (zo.2 != 0)
 (some true)
 (some (!zh.2))):Option Bool)).bind (λ (LK:Bool) =>
 aa LK
 ((((aa (zo.2 == 0)
 (aa (!iu.2.1)
 (aa (i64 ((iu.1.length:Int)+(jb.1.length:Int)) == 0)
 (aa (jb.2.1 == 0)
 ((fF).bind λ Bj =>
 some Bj)
 (some false))
 (some false))
 (some false))
 (aa (zo.2 == 9)
 (aa (!iu.2.1)
 (aa (i64 ((iu.1.length:Int)+(jb.1.length:Int)) == 0)
 (aa (jb.2.1 == 0)
 ((fF).bind λ HR =>
 some HR)
 (some false))
 (some false))
 (some false))
 (some false))):Option Bool)).bind (λ (aif:Bool) =>
 some aif))
 ((m32 x0 zh.1).bind λ GU =>
 (((aa (GU.2 != 0)
 (some true)
 (aa (GU.1 == 1)
 (some (!iu.2.1))
 (some false))):Option Bool)).bind (λ (LL:Bool) =>
 aa LL
 (some false)
 (aa (!iu.2.1)
 ((((aa (i64 ((iu.1.length:Int)+(jb.1.length:Int)) == 0)
 (aa (jb.2.1 == 0)
 ((fF).bind λ qi =>
 some qi)
 (some false))
 (some false)):Option Bool)).bind (λ (aij:Bool) =>
 some aij))
 (((((Lz x0 iu.1).bind λ aaf =>
 aa (aaf != 0)
 (some true)
 ((Lz x0 jb.1).bind λ L4 =>
 some (L4 != 0))):Option Bool)).bind (λ (sb:Bool) =>
 aa sb
 (some false)
 ((m32 x0 iu.1).bind λ aag =>
 (m32 x0 jb.1).bind λ aah =>
 (((aa (aag.2 != 0)
 (some true)
 (aa (aah.2 != 0)
 (some true)
 (aa (aag.1 != 1)
 (some true)
 (aa (aah.1 != 1)
 (some true)
 ((m64 x0 jb.1).bind λ L6 =>
 aa (jb.2.1 != L6)
 (some true)
 ((HI jb.1 iu.1).bind λ L7 =>
 aa L7
 (some true)
 ((m64 x0 iu.1).bind λ L8 =>
 some (decide (jb.2.1 > L8))))))))):Option Bool)).bind (λ (Y1:Bool) =>
 aa Y1
 (some false)
 ((m64 x0 zh.1).bind λ LX =>
 aa (GU.1 != 1)
 ((fF).bind λ aj6 =>
 some aj6)
 ((HI zh.1 iu.1).bind λ Ek =>
 aa (!Ek)
 (aa (decide (LX ≥ jb.2.1))
 (aa (decide (LX > jb.2.1))
 ((fF).bind λ aj7 =>
 some aj7)
 ((HI zh.1 jb.1).bind λ HU =>
 aa (!HU)
 ((fF).bind λ aj8 =>
 some aj8)
 (some false)))
 (some false))
 (some false))))))))))))))
noncomputable def m11(x0:ao)(x1:(List Int)):Option Bool :=
 (uX x0).bind λ aj9 =>
 aa (!aj9)
 ((fF).bind λ aka =>
 some aka)
 ((Ly x0 x1).bind λ Bl =>
 aa (!Bl.2)
 ((fF).bind λ akb =>
 some akb)
 ((m32 x0 Bl.1).bind λ Bm =>
 aa (Bm.2 != 0)
 ((((aa (Bm.2 == 9)
 ((fF).bind λ akc =>
 some akc)
 (some false)):Option Bool)).bind (λ (aik:Bool) =>
 some aik))
 ((bC (O:=((Bool × Bool × Bool) ⊕ Bool)) (λ (nT:(Bool × Bool × Bool × Int)) =>
 aa (decide (nT.2.2.2 < (Bl.1.length:Int)))
 ((bC (O:=((Bool × Bool × Bool) ⊕ Bool)) (λ (sa:(Bool × Bool × Bool × Int)) =>
 (idx Bl.1 nT.2.2.2).bind λ ajY =>
 aa (decide (sa.2.2.2 < (ajY.length:Int)))
 ((idx Bl.1 nT.2.2.2).bind λ ajZ =>
 (idx ajZ sa.2.2.2).bind λ ajt =>
 (tC x0 ajt nT.2.2.2).bind λ HO =>
 aa (HO.2 != 0)
 (some (.inr (.inr false)))
 ((((aa sa.2.1
 (aa sa.2.2.1
 (some (HO.1 == 1,true))
 (some (HO.1 == 1,HO.1 == 2)))
 (aa sa.2.2.1
 (some (false,true))
 (some (false,HO.1 == 2)))):Option (Bool × Bool))).bind (λ (QH:(Bool × Bool)) =>
 (bC (O:=(Bool ⊕ Bool)) (λ (r8:(Bool × Int)) =>
 aa (decide (r8.2 < nT.2.2.2))
 ((idx Bl.1 r8.2).bind λ ahH =>
 (idx Bl.1 nT.2.2.2).bind λ ain =>
 (idx ain sa.2.2.2).bind λ ahI =>
 (F1 ahH ahI).bind λ aio =>
 aa (!aio)
 (some (.inl (r8.1,i64 (r8.2+1))))
 ((zk x0 nT.2.2.2 r8.2).bind λ P5 =>
 (zk x0 r8.2 nT.2.2.2).bind λ Zk =>
 (((aa (P5.2 != 0)
 (some true)
 (aa (Zk.2 != 0)
 (some true)
 (some (!(P5.1 == Zk.1))))):Option Bool)).bind (λ (ag1:Bool) =>
 aa ag1
 (some (.inr (.inr false)))
 (aa r8.1
 (some (.inl (P5.1,i64 (r8.2+1))))
 (some (.inl (false,i64 (r8.2+1))))))))
 (some (.inr (.inl r8.1)))) (sa.1,0)).bind (Sum.elim (λ (aib:Bool) =>
 some (.inl (aib,QH.1,QH.2,i64 (sa.2.2.2+1))))
  (λ q=>some (.inr (.inr q)))))))
 (some (.inr (.inl (sa.1,sa.2.1,sa.2.2.1))))) (nT.1,nT.2.1,nT.2.2.1,0)).bind (Sum.elim (λ (P9:(Bool × Bool × Bool)) =>
 some (.inl (P9.1,P9.2.1,P9.2.2,i64 (nT.2.2.2+1))))
  (λ q=>some (.inr (.inr q)))))
 (some (.inr (.inl (nT.1,nT.2.1,nT.2.2.1))))) (true,true,false,0)).bind (Sum.elim (λ (Qa:(Bool × Bool × Bool)) =>
 aa Qa.1
 (aa ((Bm.1 == 1) == Qa.2.1)
 (aa (!Qa.2.2)
 ((fF).bind λ aj0 =>
 some aj0)
 (aa (Bm.1 == 2)
 ((fF).bind λ aj1 =>
 some aj1)
 (some false)))
 (some false))
 (aa ((Bm.1 == 1) == false)
 (aa (Bm.1 == 2)
 ((fF).bind λ aj2 =>
 some aj2)
 (some false))
 (some false)))
  (λ q=>some q)))))
noncomputable def yr(x0:ao):Option (Bool × Bool) :=
 (np x0).bind λ eO =>
 some (decide (eO.1 > 0),eO.2 == 0)
noncomputable def Ht(x0:ao)(x1:(List Int)):Option ao :=
 (bC (O:=(List dI)) (λ (jP:(Int × (List dI))) =>
 aa (decide (jP.1 < (x1.length:Int)))
 ((idx x1 jP.1).bind λ lK =>
 (idx x0.ax lK).bind λ lq =>
 (eW jP.2 [lq]).bind λ lL =>
 some (.inl (i64 (jP.1+1),lL)))
 (some (.inr jP.2))) (0,[])).bind (λ (p8:(List dI)) =>
 some (⟨x0.Rest,x0.Rows,x0.aM,p8,x0.av,x0.ba⟩:ao))
noncomputable def LA(x0:Int)(x1:Int):Option (List Int) :=
 (bC (O:=(List Int)) (λ (jw:((List Int) × Int)) =>
 aa (decide (jw.2 < x1))
 ((kU .u8 x0 jw.2).bind λ q7 =>
 (fH .and .u8 q7 1).bind λ lK =>
 aa (lK == 1)
 ((eW jw.1 [jw.2]).bind λ lL =>
 some (.inl (lL,i64 (jw.2+1))))
 (some (.inl (jw.1,i64 (jw.2+1)))))
 (some (.inr jw.1))) ([],0)).bind (λ (o8:(List Int)) =>
 some o8)
noncomputable def m12(x0:ao)(x1:Int):Option Bool :=
 (uX x0).bind λ xt =>
 aa (!xt)
 ((fF).bind λ Z8 =>
 some Z8)
 ((xk x0).bind λ mi =>
 (np x0).bind λ Z9 =>
 (((aa (mi.2.2 != Z9.2)
 (some true)
 (aa (!(mi.2.1 == (decide (Z9.1 > 0))))
 (some true)
 ((GQ mi.1 (x0.ax.length:Int)).bind λ ajX =>
 some (ajX != 0)))):Option Bool)).bind (λ (ah9:Bool) =>
 aa ah9
 (some false)
 ((((aa (mi.2.2 != 0)
 (some true)
 (some (!mi.2.1))):Option Bool)).bind (λ (aia:Bool) =>
 aa aia
 ((((aa (mi.2.2 == 0)
 (aa ((mi.1.length:Int) == 0)
 ((fF).bind λ pD =>
 some pD)
 (some false))
 (aa (mi.2.2 == 9)
 (aa ((mi.1.length:Int) == 0)
 ((fF).bind λ Hn =>
 some Hn)
 (some false))
 (some false))):Option Bool)).bind (λ (xi:Bool) =>
 some xi))
 (aa ((mi.1.length:Int) == 0)
 (some false)
 ((Ht x0 mi.1).bind λ nM =>
 (yr nM).bind λ HQ =>
 (((aa (!HQ.2)
 (some true)
 (some (!HQ.1))):Option Bool)).bind (λ (aie:Bool) =>
 aa aie
 (some false)
 ((bC (O:=(Unit ⊕ Bool)) (λ (tD:Int) =>
 (((aa (decide (tD < (mi.1.length:Int)))
 (some (decide ((mi.1.length:Int) > 1)))
 (some false)):Option Bool)).bind (λ (P4:Bool) =>
 aa P4
 ((Bb mi.1 tD).bind λ hF =>
 (Ht x0 hF).bind λ xf =>
 (yr xf).bind λ po =>
 aa (!po.2)
 (some (.inr (.inr false)))
 (aa po.1
 (some (.inr (.inr false)))
 (some (.inl (i64 (tD+1))))))
 (some (.inr (.inl ()))))) 0).bind (Sum.elim (λ (_:Unit) =>
 (LA x1 (x0.ax.length:Int)).bind λ QK =>
 aa ((QK.length:Int) == 0)
 ((fF).bind λ xu =>
 some xu)
 ((Ht x0 QK).bind λ xm =>
 (yr xm).bind λ qV =>
 aa qV.2
 (aa (!qV.1)
 ((fF).bind λ pB =>
 some pB)
 ((A7 QK mi.1).bind λ qT =>
 aa (!qT)
 ((fF).bind λ qU =>
 some qU)
 (some false)))
 (some false)))
  (λ q=>some q))))))))))
noncomputable def Hh(x0:ao)(x1:(List Int)):Option ao :=
 (bC (O:=(List iy)) (λ (lH:(Int × (List iy))) =>
 aa (decide (lH.1 < (x0.av.length:Int)))
 ((F1 x1 lH.1).bind λ qm =>
 aa (!qm)
 ((idx x0.av lH.1).bind λ nW =>
 (eW lH.2 [nW]).bind λ mL =>
 some (.inl (i64 (lH.1+1),mL)))
 (some (.inl (i64 (lH.1+1),lH.2))))
 (some (.inr lH.2))) (0,[])).bind (λ (Dj:(List iy)) =>
 some (⟨x0.Rest,x0.Rows,x0.aM,x0.ax,Dj,x0.ba⟩:ao))
noncomputable def m13(x0:ao)(x1:Int):Option Bool :=
 (uX x0).bind λ ajW =>
 aa (!ajW)
 ((fF).bind λ nU =>
 some nU)
 ((pC x0).bind λ jM =>
 (np x0).bind λ HL =>
 (((aa (jM.2 != HL.2)
 (some true)
 ((GQ jM.1 (x0.av.length:Int)).bind λ Bt =>
 some (Bt != 0))):Option Bool)).bind (λ (ah7:Bool) =>
 aa ah7
 (some false)
 (aa (jM.2 != 0)
 ((((aa (jM.2 == 9)
 (aa ((jM.1.length:Int) == 0)
 ((fF).bind λ LV =>
 some LV)
 (some false))
 (some false)):Option Bool)).bind (λ (ah8:Bool) =>
 some ah8))
 (aa (!((decide (HL.1 > 0)) == ((jM.1.length:Int) == 0)))
 (some false)
 ((((aa (decide ((jM.1.length:Int) < (x0.av.length:Int)))
 ((Hh x0 jM.1).bind λ tI =>
 (yr tI).bind λ Zj =>
 aa (!Zj.2)
 (some (.inr false))
 (aa (!Zj.1)
 (some (.inr false))
 (some (.inl ()))))
 (some (.inl ()))):Option (Unit ⊕ Bool))).bind (Sum.elim (λ (_:Unit) =>
 (bC (O:=(Unit ⊕ Bool)) (λ (tH:Int) =>
 aa (decide (tH < (jM.1.length:Int)))
 ((Bb jM.1 tH).bind λ aju =>
 (Hh x0 aju).bind λ LD =>
 (yr LD).bind λ HP =>
 aa (!HP.2)
 (some (.inr (.inr false)))
 (aa HP.1
 (some (.inr (.inr false)))
 (some (.inl (i64 (tH+1))))))
 (some (.inr (.inl ())))) 0).bind (Sum.elim (λ (_:Unit) =>
 (LA x1 (x0.av.length:Int)).bind λ kS =>
 aa ((kS.length:Int) == (x0.av.length:Int))
 ((fF).bind λ ZK =>
 some ZK)
 ((Hh x0 kS).bind λ Hw =>
 (yr Hw).bind λ Rh =>
 aa Rh.2
 (aa (!Rh.1)
 ((fF).bind λ HM =>
 some HM)
 ((A7 kS jM.1).bind λ zu =>
 aa (!zu)
 ((fF).bind λ aac =>
 some aac)
 (some false)))
 (some false)))
  (λ q=>some q)))
  (λ q=>some q)))))))
noncomputable def LQ(x0:ao)(x1:ao):Option Bool :=
 (np x0).bind λ gP =>
 (np x1).bind λ fv =>
 (tz x0).bind λ fw =>
 (tz x1).bind λ PV =>
 (pC x0).bind λ gQ =>
 (pC x1).bind λ gY =>
 aa (gP.2 == fv.2)
 (aa (gP.2 == fw.2.2.2)
 (aa (gP.2 == PV.2.2.2)
 (aa (gP.2 == gQ.2)
 (aa (gP.2 == gY.2)
 (aa (decide (gP.1≤fv.1))
 (aa (!fw.2.2.1)
 (some (decide ((gY.1.length:Int)≤(gQ.1.length:Int))))
 (aa PV.2.2.1
 (aa (decide (PV.2.1≤fw.2.1))
 (some (decide ((gY.1.length:Int)≤(gQ.1.length:Int))))
 (some false))
 (some false)))
 (some false))
 (some false))
 (some false))
 (some false))
 (some false))
 (some false)
noncomputable def m14(x0:ao)(x1:Int)(x2:dI):Option Bool :=
 (uX x0).bind λ Ew =>
 aa (!Ew)
 ((fF).bind λ ln =>
 some ln)
 ((yD (i64 x1) (i64 (x0.Rest+1))).bind λ Qf =>
 (eW [] x0.ax).bind λ nV =>
 (eW nV [x2]).bind λ tE =>
 (LQ x0 (⟨Qf,x0.Rows,x0.aM,x0.ax,x0.av,x0.ba⟩:ao)).bind λ q7 =>
 aa q7
 ((FR (⟨x0.Rest,x0.Rows,x0.aM,tE,x0.av,x0.ba⟩:ao)).bind λ lq =>
 aa lq
 ((fF).bind λ Ex =>
 some Ex)
 ((C6 (⟨x0.Rest,x0.Rows,x0.aM,tE,x0.av,x0.ba⟩:ao)).bind λ qm =>
 aa (qm != 0)
 ((fF).bind λ nW =>
 some nW)
 ((LQ x0 (⟨x0.Rest,x0.Rows,x0.aM,tE,x0.av,x0.ba⟩:ao)).bind λ q8 =>
 aa q8
 ((fF).bind λ x77 =>
 some x77)
 (some false))))
 (some false))
noncomputable def m15(x0:ao)(x1:Int)(x2:Int):Option Bool :=
 (uX x0).bind λ Z7 =>
 aa (!Z7)
 ((fF).bind λ aaa =>
 some aaa)
 ((bC (O:=(List dI)) (λ (Hj:(Int × (List dI))) =>
 aa (decide (Hj.1 ≥ 0))
 ((idx x0.ax Hj.1).bind λ Ed =>
 (eW Hj.2 [Ed]).bind λ iu =>
 some (.inl (i64 (Hj.1 - 1),iu)))
 (some (.inr Hj.2))) (i64 ((x0.ax.length:Int) - 1),[])).bind (λ (Bg:(List dI)) =>
 (bC (O:=(List iy)) (λ (Hk:(Int × (List iy))) =>
 aa (decide (Hk.1 ≥ 0))
 ((idx x0.av Hk.1).bind λ nM =>
 (eW Hk.2 [nM]).bind λ kS =>
 some (.inl (i64 (Hk.1 - 1),kS)))
 (some (.inr Hk.2))) (i64 ((x0.av.length:Int) - 1),[])).bind (λ (xi:(List iy)) =>
 (bC (O:=(List dO)) (λ (Hl:(Int × (List dO))) =>
 aa (decide (Hl.1 ≥ 0))
 ((idx x0.ba Hl.1).bind λ ajv =>
 (eW Hl.2 [ajv]).bind λ aj4 =>
 some (.inl (i64 (Hl.1 - 1),aj4)))
 (some (.inr Hl.2))) (i64 ((x0.ba.length:Int) - 1),[])).bind (λ (Bh:(List dO)) =>
 (zx x0).bind λ Es =>
 (zx (⟨x0.Rest,x0.Rows,x0.aM,Bg,xi,Bh⟩:ao)).bind λ LW =>
 (np x0).bind λ Bj =>
 (np (⟨x0.Rest,x0.Rows,x0.aM,Bg,xi,Bh⟩:ao)).bind λ aae =>
 (tz x0).bind λ Ri =>
 (tz (⟨x0.Rest,x0.Rows,x0.aM,Bg,xi,Bh⟩:ao)).bind λ Et =>
 (((aa (Es.2 != 0)
 (some true)
 (aa (LW.2 != 0)
 (some true)
 (aa (Es.1 != LW.1)
 (some true)
 (aa (Bj.2 != aae.2)
 (some true)
 (aa (Ri.2.2.2 != Et.2.2.2)
 (some true)
 (aa (Bj.1 != aae.1)
 (some true)
 (aa (Ri.2.1 != Et.2.1)
 (some true)
 (some (!(Ri.2.2.1 == Et.2.2.1)))))))))):Option Bool)).bind (λ (P4:Bool) =>
 aa P4
 (some false)
 ((xk x0).bind λ qV =>
 (xk (⟨x0.Rest,x0.Rows,x0.aM,Bg,xi,Bh⟩:ao)).bind λ oL =>
 (pC x0).bind λ xv =>
 (pC (⟨x0.Rest,x0.Rows,x0.aM,Bg,xi,Bh⟩:ao)).bind λ pB =>
 (yD (i64 x1) (x0.ax.length:Int)).bind λ qT =>
 (yD (i64 x2) (x0.av.length:Int)).bind λ qi =>
 (tC x0 qT qi).bind λ qU =>
 (tC (⟨x0.Rest,x0.Rows,x0.aM,Bg,xi,Bh⟩:ao) (i64 ((i64 ((x0.ax.length:Int) - 1)) - qT)) (i64 ((i64 ((x0.av.length:Int) - 1)) - qi))).bind λ vL =>
 aa (qV.2.2 == oL.2.2)
 (aa (xv.2 == pB.2)
 (aa (qU.2 == vL.2)
 (aa ((qV.1.length:Int) == (oL.1.length:Int))
 (aa ((xv.1.length:Int) == (pB.1.length:Int))
 (aa (qU.1 == vL.1)
 ((fF).bind λ L5 =>
 some L5)
 (some false))
 (some false))
 (some false))
 (some false))
 (some false))
 (some false)))))))
def tO{B:Base}{main:Bool}(af:Jd prog B main):Prop:=∀ {R:az} {H:an} (x0:bW) {aB aD aG aE aF lh:Value},ae bE 2 R aB x0.book.Rows→ae bN 2 R aD x0.book.aM→ae bD 2 R aG x0.book.ax→ae bL 4 R aE x0.book.av→ae bB 3 R aF x0.book.ba→ae fL 3 R lh x0.fi→∀ {r:List Bool},tB x0=some r →
 aC af 123 #[.agg #[iv x0.book.Rest,aB,aD,aG,aE,aF,lh]] R H λ v R' H'=>aT R R'∧H=H'∧r.length=16∧v = .agg (List.toArray ([]++(r.map Value.bool++[])))
theorem rI{B:Base}{main:Bool}{af:Jd prog B main}{R:az}{H:an}(x0:bW)(hK:tO af){aB aD aG aE aF lh:Value}(aP:ae bE 2 R aB x0.book.Rows)(aO:ae bN 2 R aD x0.book.aM)(aL:ae bD 2 R aG x0.book.ax)(aK:ae bL 4 R aE x0.book.av)(aN:ae bB 3 R aF x0.book.ba)(jV:ae fL 3 R lh x0.fi){r:List Bool}(hM:tB x0=some r) :
 aC af 123 #[.agg #[iv x0.book.Rest,aB,aD,aG,aE,aF,lh]] R H λ v R' H'=>aT R R'∧H=H'∧r.length=16∧v = .agg (List.toArray ([]++(r.map Value.bool++[]))):=hK x0 aP aO aL aK aN jV hM
end Go.Proofs.YtihapemckcdicaaGreatDoor
