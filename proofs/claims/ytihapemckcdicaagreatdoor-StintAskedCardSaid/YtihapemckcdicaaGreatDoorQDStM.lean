/- What the functions compute. Conditions: none. -/
import Derived.Test.YtihapemckcdicaaGreatDoorQDStF
import Derived.Test.YtihapemckcdicaaGreatDoorQDStP
namespace Go.Proofs.YtihapemckcdicaaGreatDoor
open Go.Lg Go.Proofs Tryz
set_option maxRecDepth 100000
noncomputable def jE(x0:Int)(x1:Int)(x2:Int):Option Bool :=
 ag (decide (x1≤x0))
 (some (decide (x0≤x2)))
 (some false)
def Lf(x0:ByteArray):Option Bool:=some (pH x0)
noncomputable def uH(x0:b9)(x1:(br→Option Bool)):Option Int :=
 (bN (O:=Int) (λ (iW:(Int × Int)) =>
 ag (decide (iW.2 < (x0.eS.length:Int)))
 ((idx x0.eS iW.2).bind λ mA =>
 (x1 mA).bind λ qE =>
 ag qE
 (some (.inl (i64 (iW.1+1),i64 (iW.2+1))))
 (some (.inl (iW.1,i64 (iW.2+1)))))
 (some (.inr iW.1))) (0,0)).bind (λ (wy:Int) =>
 some wy)
noncomputable def xj(x0:au)(x1:Int):Option Int :=
 (bN (O:=(Unit ⊕ Int)) (λ (jX:Int) =>
 ag (decide (jX < (x0.Rows.length:Int)))
 ((idx x0.Rows jX).bind λ vg =>
 ag (decide (x1≤vg.eI))
 (some (.inr (.inr vg.eU)))
 (some (.inl (i64 (jX+1)))))
 (some (.inr (.inl ())))) 0).bind (Sum.elim (λ (_:Unit) =>
 some 0)
  (λ q=>some q))
noncomputable def AK(x0:au)(x1:br)(x2:Int)(x3:Int):Option Bool :=
 (idx x0.aN x3).bind λ dE =>
 (idx x1.deep dE.Place).bind λ gZ =>
 (idx x0.aH x2).bind λ bP =>
 ag (decide (gZ≤bP.pI))
 ((xj x0 gZ).bind λ fF =>
 some (decide (dE.jf≤fF)))
 (some false)
noncomputable def yz(x0:br)(x1:b9)(x2:Int)(x3:Int):Option Bool :=
 (AK x1.book x0 x2 x3).bind λ eG =>
 some eG
noncomputable def qX(x0:b9)(i k:Nat):Option Bool:=(uH x0 (λ y=>yz y x0 (k:Int) (i:Int))).bind λ n=>some (n == (x0.eS.length:Int))
noncomputable def uI(x0:b9):Option (List Bool) :=
 if (0 < x0.book.aN.length∧x0.book.aN.length≤4)∧(0 < x0.book.aH.length∧x0.book.aH.length≤4) then
  (((List.range 16).mapM λ (p:Nat)=>if p / 4 < x0.book.aN.length∧p % 4 < x0.book.aH.length then qX x0 (p / 4) (p % 4) else some false):Option (List Bool))
 else none
noncomputable def Dm(x0:au):Option Bool :=
 (((ag (decide ((x0.Rows.length:Int) > 20))
 (some true)
 (ag (decide ((x0.aQ.length:Int) > 20))
 (some true)
 (ag (decide ((x0.aH.length:Int) > 20))
 (some true)
 (ag (decide ((x0.aN.length:Int) > 20))
 (some true)
 (some (decide ((x0.aY.length:Int) > 20))))))):Option Bool)).bind (λ (ri:Bool) =>
 ag ri
 (some true)
 ((bN (O:=(Unit ⊕ Bool)) (λ (qp:Int) =>
 ag (decide (qp < (x0.aH.length:Int)))
 ((idx x0.aH qp).bind λ nm =>
 ag (decide ((nm.Name.size:Int) > 100))
 (some (.inr (.inr true)))
 (some (.inl (i64 (qp+1)))))
 (some (.inr (.inl ())))) 0).bind (Sum.elim (λ (_:Unit) =>
 some false)
  (λ q=>some q))))
noncomputable def Dq(x0:au):Option Int :=
 (jE x0.Rest 0 60).bind λ qw =>
 ag (!qw)
 (some 1)
 (some 0)
noncomputable def AS(x0:au):Option Int :=
 (jE (x0.Rows.length:Int) 1 4).bind λ x78 =>
 ag (!x78)
 (some 2)
 ((bN (O:=(Unit ⊕ Int)) (λ (rp:Int) =>
 ag (decide (rp < (x0.Rows.length:Int)))
 ((idx x0.Rows rp).bind λ je =>
 (jE je.eI 1 30).bind λ rH =>
 (((ag (!rH)
 (some (!rH))
 ((jE je.eU 1 60).bind λ acJ =>
 some (!acJ))):Option Bool)).bind (λ (LJ:Bool) =>
 ag LJ
 (some (.inr (.inr 1)))
 (ag (decide (rp > 0))
 ((idx x0.Rows (i64 (rp - 1))).bind λ Nl =>
 ag (decide (je.eI≤Nl.eI))
 (some (.inr (.inr 7)))
 ((idx x0.Rows (i64 (rp - 1))).bind λ acK =>
 ag (decide (je.eU > acK.eU))
 (some (.inr (.inr 7)))
 (some (.inl (i64 (rp+1))))))
 (some (.inl (i64 (rp+1)))))))
 (some (.inr (.inl ())))) 0).bind (Sum.elim (λ (_:Unit) =>
 some 0)
  (λ q=>some q)))
noncomputable def HL(x0:(List Reach))(x1:(Reach→Option Bool)):Option Int :=
 (bN (O:=(Unit ⊕ Int)) (λ (cZ:Int) =>
 ag (decide (cZ < (x0.length:Int)))
 ((idx x0 cZ).bind λ jZ =>
 (x1 jZ).bind λ kH =>
 ag kH
 (some (.inr (.inr cZ)))
 (some (.inl (i64 (cZ+1)))))
 (some (.inr (.inl ())))) 0).bind (Sum.elim (λ (_:Unit) =>
 some (-1))
  (λ q=>some q))
noncomputable def Dr(x0:(List Reach))(x1:(Reach→Option Bool)):Option Bool :=
 (HL x0 x1).bind λ cG =>
 some (decide (cG ≥ 0))
noncomputable def AZ(x0:Reach)(x1:Int)(x2:Int)(x3:Int):Option Bool :=
 ag (decide (x1≤x0.cH))
 (ag (decide (x0.cH≤x0.dm))
 (ag (decide (x0.dm≤x2))
 (some (decide (i64 (x0.dm - x0.cH) < x3)))
 (some false))
 (some false))
 (some false)
noncomputable def AY(x0:Reach):Option Bool :=
 (AZ x0 1 30 3).bind λ eG =>
 some (!eG)
noncomputable def AT(x0:au):Option Int :=
 (jE (x0.aQ.length:Int) 1 3).bind λ iF =>
 ag (!iF)
 (some 2)
 ((Dr x0.aQ (λ y=>AY y)).bind λ gZ =>
 ag gZ
 (some 1)
 (some 0))
noncomputable def HM(x0:(List eQ))(x1:(eQ→Option Bool)):Option Int :=
 (bN (O:=(Unit ⊕ Int)) (λ (cZ:Int) =>
 ag (decide (cZ < (x0.length:Int)))
 ((idx x0 cZ).bind λ jZ =>
 (x1 jZ).bind λ kH =>
 ag kH
 (some (.inr (.inr cZ)))
 (some (.inl (i64 (cZ+1)))))
 (some (.inr (.inl ())))) 0).bind (Sum.elim (λ (_:Unit) =>
 some (-1))
  (λ q=>some q))
noncomputable def Ds(x0:(List eQ))(x1:(eQ→Option Bool)):Option Bool :=
 (HM x0 x1).bind λ cG =>
 some (decide (cG ≥ 0))
noncomputable def A0(x0:eQ)(x1:eQ):Option Bool :=
 some (x0.Name.toList == x1.Name.toList)
noncomputable def AU(x0:au):Option Int :=
 (jE (x0.aH.length:Int) 1 4).bind λ EH =>
 ag (!EH)
 (some 2)
 ((bN (O:=(Unit ⊕ Int)) (λ (Bm:Int) =>
 ag (decide (Bm < (x0.aH.length:Int)))
 ((idx x0.aH Bm).bind λ nX =>
 (Lf nX.Name).bind λ gz =>
 ag (!gz)
 (some (.inr (.inr 4)))
 ((od x0.aH 0 Bm).bind λ MW =>
 (Ds MW (λ y=>A0 y nX)).bind λ UA =>
 ag UA
 (some (.inr (.inr 5)))
 ((jE nX.pI 1 30).bind λ xa =>
 ag (!xa)
 (some (.inr (.inr 1)))
 (some (.inl (i64 (Bm+1)))))))
 (some (.inr (.inl ())))) 0).bind (Sum.elim (λ (_:Unit) =>
 some 0)
  (λ q=>some q)))
noncomputable def oB(x0:Int)(x1:Int):Option Int :=
 (jE x0 0 (i64 (x1 - 1))).bind λ pC =>
 ag (!pC)
 (some 6)
 (some 0)
noncomputable def AV(x0:au):Option Int :=
 (jE (x0.aN.length:Int) 1 4).bind λ xg =>
 ag (!xg)
 (some 2)
 ((bN (O:=(Unit ⊕ Int)) (λ (D4:Int) =>
 ag (decide (D4 < (x0.aN.length:Int)))
 ((idx x0.aN D4).bind λ qs =>
 (oB qs.Place (x0.aQ.length:Int)).bind λ UB =>
 ag (UB != 0)
 (some (.inr (.inr UB)))
 ((jE qs.iI 0 200).bind λ EE =>
 ag (!EE)
 (some (.inr (.inr 1)))
 ((jE qs.jf 1 60).bind λ zn =>
 ag (!zn)
 (some (.inr (.inr 1)))
 ((jE qs.aH 1 3).bind λ je =>
 ag (!je)
 (some (.inr (.inr 1)))
 (some (.inl (i64 (D4+1))))))))
 (some (.inr (.inl ())))) 0).bind (Sum.elim (λ (_:Unit) =>
 some 0)
  (λ q=>some q)))
noncomputable def AX(x0:au):Option Int :=
 ag (decide ((x0.aY.length:Int) > 3))
 (some 2)
 ((bN (O:=(Unit ⊕ Int)) (λ (qp:Int) =>
 ag (decide (qp < (x0.aY.length:Int)))
 ((idx x0.aY qp).bind λ Iw =>
 (oB Iw.Place (x0.aQ.length:Int)).bind λ UR =>
 ag (UR != 0)
 (some (.inr (.inr UR)))
 ((jE Iw.lu 0 30).bind λ y4 =>
 ag (!y4)
 (some (.inr (.inr 1)))
 (some (.inl (i64 (qp+1))))))
 (some (.inr (.inl ())))) 0).bind (Sum.elim (λ (_:Unit) =>
 some 0)
  (λ q=>some q)))
noncomputable def nR(x0:au):Option Int :=
 (Dq (⟨x0.Rest,x0.Rows,x0.aQ,x0.aH,x0.aN,x0.aY⟩:au)).bind λ fv =>
 ag (fv != 0)
 (some fv)
 ((AS (⟨x0.Rest,x0.Rows,x0.aQ,x0.aH,x0.aN,x0.aY⟩:au)).bind λ jb =>
 ag (jb != 0)
 (some jb)
 ((AT (⟨x0.Rest,x0.Rows,x0.aQ,x0.aH,x0.aN,x0.aY⟩:au)).bind λ u6 =>
 ag (u6 != 0)
 (some u6)
 ((AU (⟨x0.Rest,x0.Rows,x0.aQ,x0.aH,x0.aN,x0.aY⟩:au)).bind λ mi =>
 ag (mi != 0)
 (some mi)
 ((AV (⟨x0.Rest,x0.Rows,x0.aQ,x0.aH,x0.aN,x0.aY⟩:au)).bind λ oS =>
 ag (oS != 0)
 (some oS)
 ((AX (⟨x0.Rest,x0.Rows,x0.aQ,x0.aH,x0.aN,x0.aY⟩:au)).bind λ kH =>
 ag (kH != 0)
 (some kH)
 (some 0))))))
noncomputable def Ev (x1:(br→((List br) ⊕ Empty)→Option (((List br) ⊕ Empty) × Bool))→((List br) ⊕ Empty)→Option ((List br) ⊕ Empty)):Option (List br) :=
 (x1 (fB (λ (qy:br) (jJ:(List br))=>(((gb jJ [qy]).bind λ gy =>
 some (.inl gy)):Option ((List br) ⊕ Empty)))) (.inl [])).bind (Sum.elim (λ (jJ:(List br)) =>
 some jJ)
  (λ (o:Empty)=>o.elim))
noncomputable def xu (x0:(br→((List br) ⊕ Empty)→Option (((List br) ⊕ Empty) × Bool))→((List br) ⊕ Empty)→Option ((List br) ⊕ Empty)):Option (List br) :=
 (Ev x0).bind λ cG =>
 some cG
noncomputable def HH(x0:(List c9))(x1:(c9→Option Bool)):Option Int :=
 (bN (O:=(Unit ⊕ Int)) (λ (cZ:Int) =>
 ag (decide (cZ < (x0.length:Int)))
 ((idx x0 cZ).bind λ jZ =>
 (x1 jZ).bind λ kH =>
 ag kH
 (some (.inr (.inr cZ)))
 (some (.inl (i64 (cZ+1)))))
 (some (.inr (.inl ())))) 0).bind (Sum.elim (λ (_:Unit) =>
 some (-1))
  (λ q=>some q))
noncomputable def Dl(x0:(List c9))(x1:(c9→Option Bool)):Option Bool :=
 (HH x0 x1).bind λ cG =>
 some (decide (cG ≥ 0))
noncomputable def AQ(x0:c9)(x1:br):Option Bool :=
 (idx x1.deep x0.Place).bind λ eG =>
 some (!((decide (eG≤x0.lu)) == x0.rL))
noncomputable def yy(x0:au)(x1:br):Option Bool :=
 (Dl x0.aY (λ y=>AQ y x1)).bind λ mJ =>
 some (!mJ)
noncomputable def qe{S:Type}(ys:br→S→Option (S × Bool)):Nat→Int→au→br→S→Option (S × (br × Bool))
 | 0,_,_,_,_=>none
 | k+1,x0,x1,x2,s0 =>
  ag (x0 == (x1.aQ.length:Int))
  (((((yy x1 x2).bind λ dE =>
  ag (!dE)
  (some (s0,true))
  ((ys x2 s0).bind λ gZ =>
  some (gZ.1,gZ.2))):Option (S × Bool))).bind (λ (wo:(S × Bool)) =>
  some (wo.1,(x2,wo.2))))
  ((idx x1.aQ x0).bind λ bP =>
  (bN (O:=((S × (List Int)) ⊕ (S × (br × Bool)))) (λ (bR:(S × Int × (List Int))) =>
  (idx x1.aQ x0).bind λ eN =>
  ag (decide (bR.2.1≤eN.dm))
  ((idx bR.2.2 x0).bind λ _ =>
  (qe ys k (i64 (x0+1)) x1 (⟨bR.2.2.set x0.toNat bR.2.1⟩:br) bR.1).bind λ gI =>
  ag (!gI.2.2)
  (some (.inr (.inr (gI.1,(gI.2.1,false)))))
  (some (.inl (gI.1,i64 (bR.2.1+1),gI.2.1.deep))))
  (some (.inr (.inl (bR.1,bR.2.2))))) (s0,bP.cH,x2.deep)).bind (Sum.elim (λ (m6:(S × (List Int))) =>
  some (m6.1,((⟨m6.2⟩:br),true)))
   (λ q=>some q)))
noncomputable def nq{S:Type}(ys:br→S→Option (S × Bool))(x0:au)(s0:S):Option S :=
 (qe ys 9 0 x0 (⟨[0,0,0]⟩:br) s0).bind λ lP =>
  some lP.1
noncomputable def oV(x0:au):Option (Int × Int) :=
 (nR x0).bind λ lP =>
 ag (lP != 0)
 (some (0,lP))
 ((xu (λ y s=>nq y (⟨x0.Rest,x0.Rows,x0.aQ,x0.aH,x0.aN,x0.aY⟩:au) s)).bind λ iG =>
 some ((iG.length:Int),0))
noncomputable def pE(x0:au)(x1:(au→Option Int)):Option (b9 × Int) :=
 (nR x0).bind λ fF =>
 ag (fF != 0)
 (some ((⟨⟨0,[],[],[],[],[]⟩,[]⟩:b9),fF))
 ((x1 x0).bind λ fu =>
 ag (fu != 0)
 (some ((⟨⟨0,[],[],[],[],[]⟩,[]⟩:b9),fu))
 ((xu (λ y s=>nq y x0 s)).bind λ jb =>
 ag ((jb.length:Int) == 0)
 (some ((⟨⟨0,[],[],[],[],[]⟩,[]⟩:b9),9))
 (some ((⟨⟨x0.Rest,x0.Rows,x0.aQ,x0.aH,x0.aN,x0.aY⟩,jb⟩:b9),0))))
noncomputable def q8(x0:au)(x1:Int):Option Int :=
 (oB x1 (x0.aQ.length:Int)).bind λ eG =>
 some eG
noncomputable def DC(x0:Int):Option Int :=
 some x0
noncomputable def yA(x0:Int):Option Bool :=
 some (x0 != x0)
noncomputable def HJ(x0:Int)(x1:Int):Option Bool :=
 (yA x0).bind λ qw =>
 ag qw
 ((yA x1).bind λ yZ =>
 ag (!yZ)
 (some true)
 (some (decide (x0 < x1))))
 (some (decide (x0 < x1)))
noncomputable def HI(x0:(List Int))(x1:Int)(x2:Int):Option (List Int) :=
 (bN (O:=(List Int)) (λ (rl:((List Int) × Int)) =>
 ag (decide (rl.2 < x2))
 ((bN (O:=(List Int)) (λ (iV:((List Int) × Int)) =>
 (((ag (decide (iV.2 > x1))
 ((idx iV.1 iV.2).bind λ UK =>
 (idx iV.1 (i64 (iV.2 - 1))).bind λ UL =>
 (HJ UK UL).bind λ ac7 =>
 some ac7)
 (some false)):Option Bool)).bind (λ (LO:Bool) =>
 ag LO
 ((idx iV.1 (i64 (iV.2 - 1))).bind λ MO =>
 (idx iV.1 iV.2).bind λ UM =>
 (idx iV.1 iV.2).bind λ _ =>
 (idx (iV.1.set iV.2.toNat MO) (i64 (iV.2 - 1))).bind λ _ =>
 some (.inl ((iV.1.set iV.2.toNat MO).set (i64 (iV.2 - 1)).toNat UM,i64 (iV.2 - 1))))
 (some (.inr iV.1)))) (rl.1,rl.2)).bind (λ (LN:(List Int)) =>
 some (.inl (LN,i64 (rl.2+1)))))
 (some (.inr rl.1))) (x0,i64 (x1+1))).bind (λ (LM:(List Int)) =>
 some LM)
noncomputable def HK(x0:Int):Option Int :=
 (((ag (decide (x0 ≥ 4294967296))
 ((lR .u64 x0 32).bind λ fu =>
 some (fu,32))
 (some (x0,0))):Option (Int × Int))).bind (λ (wx:(Int × Int)) =>
 (((ag (decide (wx.1 ≥ 65536))
 ((lR .u64 wx.1 16).bind λ kS =>
 some (kS,i64 (wx.2+16)))
 (some (wx.1,wx.2))):Option (Int × Int))).bind (λ (oG:(Int × Int)) =>
 (((ag (decide (oG.1 ≥ 256))
 ((lR .u64 oG.1 8).bind λ mi =>
 some (mi,i64 (oG.2+8)))
 (some (oG.1,oG.2))):Option (Int × Int))).bind (λ (sT:(Int × Int)) =>
 (s8 (⟨#[0,1,2,2,3,3,3,3,4,4,4,4,4,4,4,4,5,5,5,5,5,5,5,5,5,5,5,5,5,5,5,5,6,6,6,6,6,6,6,6,6,6,6,6,6,6,6,6,6,6,6,6,6,6,6,6,6,6,6,6,6,6,6,6,7,7,7,7,7,7,7,7,7,7,7,7,7,7,7,7,7,7,7,7,7,7,7,7,7,7,7,7,7,7,7,7,7,7,7,7,7,7,7,7,7,7,7,7,7,7,7,7,7,7,7,7,7,7,7,7,7,7,7,7,7,7,7,7,8,8,8,8,8,8,8,8,8,8,8,8,8,8,8,8,8,8,8,8,8,8,8,8,8,8,8,8,8,8,8,8,8,8,8,8,8,8,8,8,8,8,8,8,8,8,8,8,8,8,8,8,8,8,8,8,8,8,8,8,8,8,8,8,8,8,8,8,8,8,8,8,8,8,8,8,8,8,8,8,8,8,8,8,8,8,8,8,8,8,8,8,8,8,8,8,8,8,8,8,8,8,8,8,8,8,8,8,8,8,8,8,8,8,8,8,8,8,8,8,8,8,8,8,8,8,8,8]⟩) (IntKind.wrap .u8 sT.1)).bind λ B4 =>
 some (i64 (sT.2+(i64 B4))))))
noncomputable def HF(x0:Int):Option Int :=
 (HK x0).bind λ cG =>
 some cG
noncomputable def HE(x0:(List Int))(x1:Int)(x2:Int)(_:Int):Option (List Int) :=
 (bN (O:=(List Int)) (λ (_:Unit) =>
 ag (decide (i64 (x2 - x1)≤12))
 ((HI x0 x1 x2).bind λ fv =>
 some (.inr fv))
 (none)) ()).bind (λ q=>some q)
noncomputable def Df(x0:(List Int)):Option (List Int) :=
 (HF (IntKind.wrap .u64 (x0.length:Int))).bind λ pC =>
 (HE x0 0 (x0.length:Int) pC).bind λ eG =>
 some eG
noncomputable def Dg(x0:(List Int)):Option (List Int) :=
 ag (decide ((x0.length:Int) < 2))
 (some x0)
 ((bN (O:=(Unit ⊕ (List Int))) (λ (nc:Int) =>
 ag (decide (nc < (x0.length:Int)))
 ((idx x0 nc).bind λ acT =>
 (idx x0 (i64 (nc - 1))).bind λ uW =>
 ag (acT == uW)
 ((od x0 nc (x0.length:Int)).bind λ _ =>
 (bN (O:=((List Int) × Int)) (λ (jI:((List Int) × Int × Int)) =>
 ag (decide (jI.2.2 < ((jI.1.drop nc.toNat).length:Int)))
 ((idx (jI.1.drop nc.toNat) jI.2.2).bind λ acZ =>
 (idx (jI.1.drop nc.toNat) (i64 (jI.2.2 - 1))).bind λ UH =>
 ag (acZ != UH)
 ((idx (jI.1.drop nc.toNat) jI.2.2).bind λ UI =>
 (idx jI.1 jI.2.1).bind λ _ =>
 some (.inl (jI.1.set jI.2.1.toNat UI,i64 (jI.2.1+1),i64 (jI.2.2+1))))
 (some (.inl (jI.1,jI.2.1,i64 (jI.2.2+1)))))
 (some (.inr (jI.1,jI.2.1)))) (x0,nc,1)).bind (λ (uN:((List Int) × Int)) =>
 (od uN.1 uN.2 (uN.1.length:Int)).bind λ _ =>
 (od (xP uN.1 uN.2.toNat) 0 uN.2).bind λ ac2 =>
 some (.inr (.inr ac2))))
 (some (.inl (i64 (nc+1)))))
 (some (.inr (.inl ())))) 1).bind (Sum.elim (λ (_:Unit) =>
 some x0)
  (λ q=>some q)))
noncomputable def DD(x0:b9)(x1:(br→Option Int)):Option (List Int) :=
 (bN (O:=(List Int)) (λ (oK:((List Int) × Int)) =>
 ag (decide (oK.2 < (x0.eS.length:Int)))
 ((idx x0.eS oK.2).bind λ mr =>
 (x1 mr).bind λ xg =>
 (gb oK.1 [xg]).bind λ oT =>
 some (.inl (oT,i64 (oK.2+1))))
 (some (.inr oK.1))) ([],0)).bind (λ (ri:(List Int)) =>
 (Df ri).bind λ tp =>
 (Dg tp).bind λ nm =>
 some nm)
noncomputable def DF(x0:br)(x1:Int):Option Int :=
 (idx x0.deep x1).bind λ eG =>
 some eG
noncomputable def Dp(x0:au)(x1:Int):Option ((List Int) × Int) :=
 (DC x1).bind λ dE =>
 (pE x0 (λ y=>q8 y dE)).bind λ iG =>
 ag (iG.2 != 0)
 (some ([],iG.2))
 ((DD iG.1 (λ y=>DF y x1)).bind λ fF =>
 some (fF,0))
noncomputable def C5(x0:br)(x1:b9)(x2:Int):Option Int :=
 (idx x0.deep x2).bind λ qw =>
 (xj x1.book qw).bind λ mJ =>
 some mJ
noncomputable def Dt(x0:au)(x1:Int):Option (Reach × Int) :=
 (DC x1).bind λ iH =>
 (pE x0 (λ y=>q8 y iH)).bind λ fG =>
 ag (fG.2 != 0)
 (some ((⟨0,0⟩:Reach),fG.2))
 ((DD fG.1 (λ y=>C5 y fG.1 x1)).bind λ gy =>
 (idx gy 0).bind λ jb =>
 (idx gy (i64 ((gy.length:Int) - 1))).bind λ kS =>
 some ((⟨jb,kS⟩:Reach),0))
noncomputable def C6(x0:au)(x1:Int)(x2:Int):Option Int :=
 (oB x1 (x0.aH.length:Int)).bind λ qw =>
 (oB x2 (x0.aN.length:Int)).bind λ mJ =>
 some (oE qw [mJ])
noncomputable def AJ(x0:b9)(x1:Int):Option Int :=
 ag (x1 == 0)
 (some 2)
 (ag (x1 == (x0.eS.length:Int))
 (some 1)
 (some 0))
noncomputable def C7(x0:br)(x1:b9)(x2:Int)(x3:Int):Option Bool :=
 (AK x1.book x0 x2 x3).bind λ eG =>
 some eG
noncomputable def yB(x0:au)(x1:Int)(x2:Int):Option (Int × Int) :=
 (pE x0 (λ y=>C6 y x1 x2)).bind λ bP =>
 ag (bP.2 != 0)
 (some (0,bP.2))
 ((uH bP.1 (λ y=>C7 y bP.1 x1 x2)).bind λ eu =>
 (AJ bP.1 eu).bind λ ja =>
 some (ja,0))
noncomputable def AO(x0:(List Int)):Option (List Bool) :=
 (bN (O:=(List Bool)) (λ (sZ:(Int × (List Bool))) =>
 ag (decide (sZ.1 < (x0.length:Int)))
 ((idx x0 sZ.1).bind λ gI =>
 (idx sZ.2 gI).bind λ _ =>
 some (.inl (i64 (sZ.1+1),sZ.2.set gI.toNat true)))
 (some (.inr sZ.2))) (0,[false,false,false,false])).bind (λ (H3:(List Bool)) =>
 some H3)
noncomputable def Hu(x0:au)(x1:(List (List Int))):Option ((List Bool) × Int) :=
 ag ((x1.length:Int) != (x0.aN.length:Int))
 (some ([false,false,false,false,false,false,false,false,false,false,false,false,false,false,false,false],2))
 ((bN (O:=((List Bool) ⊕ ((List Bool) × Int))) (λ (fY:(Int × (List Bool))) =>
 ag (decide (fY.1 < (x1.length:Int)))
 ((idx x1 fY.1).bind λ oR =>
 (idx x0.aN fY.1).bind λ MJ =>
 ag ((oR.length:Int) != MJ.aH)
 (some (.inr (.inr ([false,false,false,false,false,false,false,false,false,false,false,false,false,false,false,false],2))))
 ((bN (O:=(Unit ⊕ ((List Bool) × Int))) (λ (oJ:Int) =>
 ag (decide (oJ < (oR.length:Int)))
 ((idx oR oJ).bind λ BO =>
 (oB BO (x0.aH.length:Int)).bind λ El =>
 ag (El != 0)
 (some (.inr (.inr ([false,false,false,false,false,false,false,false,false,false,false,false,false,false,false,false],El))))
 ((((ag (decide (oJ > 0))
 ((idx oR (i64 (oJ - 1))).bind λ MK =>
 some (decide (BO≤MK)))
 (some false)):Option Bool)).bind (λ (DX:Bool) =>
 ag DX
 (some (.inr (.inr ([false,false,false,false,false,false,false,false,false,false,false,false,false,false,false,false],7))))
 (some (.inl (i64 (oJ+1)))))))
 (some (.inr (.inl ())))) 0).bind (Sum.elim (λ (_:Unit) =>
 (AO oR).bind λ ML =>
 (iD 4 fY.2 fY.1).bind λ _ =>
 some (.inl (i64 (fY.1+1),D6 4 fY.2 fY.1 ML)))
  (λ q=>some (.inr (.inr q))))))
 (some (.inr (.inl fY.2)))) (0,[false,false,false,false,false,false,false,false,false,false,false,false,false,false,false,false])).bind (Sum.elim (λ (Bg:(List Bool)) =>
 some (Bg,0))
  (λ q=>some q)))
noncomputable def Ht(x0:au)(x1:(List (List Int)))(_:(List Bool)):Option ((List Bool) × Int) :=
 (Hu x0 x1).bind λ eG =>
 some (eG.1,eG.2)
noncomputable def BV(x0:au)(x1:Int)(x2:Int):Option Bool :=
 (idx x0.aN x1).bind λ fE =>
 (idx x0.aN x2).bind λ dE =>
 ag (x1 != x2)
 (ag (decide (dE.iI ≥ i64 ((i64 (fE.iI+fE.jf))+x0.Rest)))
 (some true)
 (some (decide (fE.iI ≥ i64 ((i64 (dE.iI+dE.jf))+x0.Rest)))))
 (some false)
noncomputable def AL(x0:au)(x1:(List Bool))(x2:Int):Option Bool :=
 (bN (O:=(Unit ⊕ Bool)) (λ (rk:Int) =>
 ag (decide (rk < x2))
 ((BV x0 rk x2).bind λ Ej =>
 ag Ej
 (some (.inl (i64 (rk+1))))
 ((bN (O:=(Unit ⊕ Bool)) (λ (yO:Int) =>
 ag (decide (yO < (x0.aH.length:Int)))
 ((iD 4 x1 rk).bind λ acU =>
 (idx acU yO).bind λ acV =>
 ag acV
 ((iD 4 x1 x2).bind λ acW =>
 (idx acW yO).bind λ acX =>
 ag acX
 (some (.inr (.inr false)))
 (some (.inl (i64 (yO+1)))))
 (some (.inl (i64 (yO+1)))))
 (some (.inr (.inl ())))) 0).bind (Sum.elim (λ (_:Unit) =>
 some (.inl (i64 (rk+1))))
  (λ q=>some (.inr (.inr q))))))
 (some (.inr (.inl ())))) 0).bind (Sum.elim (λ (_:Unit) =>
 some true)
  (λ q=>some q))
noncomputable def AM(x0:br)(x1:au)(x2:(List Bool))(x3:b9):Option Bool :=
 (bN (O:=(Unit ⊕ Bool)) (λ (sV:Int) =>
 ag (decide (sV < (x1.aN.length:Int)))
 ((iD 4 x2 sV).bind λ zi =>
 (bN (O:=(Unit ⊕ Bool)) (λ (wH:Int) =>
 ag (decide (wH < 4))
 ((idx zi wH).bind λ Nm =>
 ag Nm
 ((AK x3.book x0 wH sV).bind λ UE =>
 ag (!UE)
 (some (.inr (.inr false)))
 (some (.inl (i64 (wH+1)))))
 (some (.inl (i64 (wH+1)))))
 (some (.inr (.inl ())))) 0).bind (Sum.elim (λ (_:Unit) =>
 some (.inl (i64 (sV+1))))
  (λ q=>some (.inr (.inr q)))))
 (some (.inr (.inl ())))) 0).bind (Sum.elim (λ (_:Unit) =>
 some true)
  (λ q=>some q))
noncomputable def Hr(x0:au)(uV:(List (List Int)))(qu:(List Bool)):Option ((List Bool) × b9 × Int) :=
 (nR x0).bind λ fF =>
 ag (fF != 0)
 (some (qu,(⟨⟨0,[],[],[],[],[]⟩,[]⟩:b9),fF))
 ((Ht x0 uV qu).bind λ fu =>
 ag (fu.2 != 0)
 (some (fu.1,(⟨⟨0,[],[],[],[],[]⟩,[]⟩:b9),fu.2))
 ((xu (λ y s=>nq y x0 s)).bind λ jb =>
 ag ((jb.length:Int) == 0)
 (some (fu.1,(⟨⟨0,[],[],[],[],[]⟩,[]⟩:b9),9))
 (some (fu.1,(⟨⟨x0.Rest,x0.Rows,x0.aQ,x0.aH,x0.aN,x0.aY⟩,jb⟩:b9),0))))
noncomputable def m32(x0:au)(x1:(List (List Int))):Option (Int × Int) :=
 (Hr x0 x1 [false,false,false,false,false,false,false,false,false,false,false,false,false,false,false,false]).bind λ eN =>
 ag (eN.2.2 != 0)
 (some (0,eN.2.2))
 ((bN (O:=(Unit ⊕ (Int × Int))) (λ (s5:Int) =>
 ag (decide (s5 < (x0.aN.length:Int)))
 ((AL eN.2.1.book eN.1 s5).bind λ lQ =>
 ag (!lQ)
 (some (.inr (.inr (2,0))))
 (some (.inl (i64 (s5+1)))))
 (some (.inr (.inl ())))) 0).bind (Sum.elim (λ (_:Unit) =>
 (uH eN.2.1 (λ y=>AM y x0 eN.1 eN.2.1)).bind λ mr =>
 (AJ eN.2.1 mr).bind λ MS =>
 some (MS,0))
  (λ q=>some q)))
noncomputable def nQ(_:au):Option Int :=
 some 0
noncomputable def pq{S:Type}(ys:(List Bool)→S→Option (S × Bool)):Nat→((List Bool)→Int→b9→Int→(List Bool)→(List Bool)→S→Option (S × Bool)) × ((List Bool)→Int→Int→Int→b9→Int→(List Bool)→(List Bool)→S→Option (S × Bool))
 | 0=>(λ _ _ _ _ _ _ _=>none,λ _ _ _ _ _ _ _ _ _=>none)
 | k+1=>(λ x0 x1 xX xO xG xA s0 =>
  ag (x1 == (xX.book.aN.length:Int))
  ((ys x0 s0).bind λ fE =>
  some (fE.1,fE.2))
  ((lR .i64 xO x1).bind λ dE =>
  (fN .and .i64 dE 1).bind λ iG =>
  ag (iG == 1)
  (((pq ys k).1 x0 (i64 (x1+1)) xX xO xG xA s0).bind λ iH =>
  some (iH.1,iH.2))
  ((idx xX.book.aN x1).bind λ fG =>
  ((pq ys k).2 x0 x1 0 fG.aH xX xO xG xA s0).bind λ eu =>
  some (eu.1,eu.2))),
  λ x0 x1 x2 x3 xX xO xG xA s0 =>
  ag (x3 == 0)
  (((((AL xX.book x0 x1).bind λ iG =>
  ag (!iG)
  (some (s0,true))
  (((pq ys k).1 x0 (i64 (x1+1)) xX xO xG xA s0).bind λ bP =>
  some (bP.1,bP.2))):Option (S × Bool))).bind (λ (wu:(S × Bool)) =>
  some (wu.1,wu.2)))
  ((bN (O:=(S ⊕ (S × Bool))) (λ (bR:(S × Int × (List Bool))) =>
  ag (decide (bR.2.1 < (xX.book.aH.length:Int)))
  (((((idx xG bR.2.1).bind λ MU =>
  ag (!MU)
  (some true)
  ((iD 4 xA x1).bind λ u7 =>
  (idx u7 bR.2.1).bind λ BQ =>
  some (!BQ))):Option Bool)).bind (λ (DZ:Bool) =>
  ag DZ
  (some (.inl (bR.1,i64 (bR.2.1+1),bR.2.2)))
  ((iD 4 bR.2.2 x1).bind λ MV =>
  (idx MV bR.2.1).bind λ _ =>
  ((pq ys k).2 (oL 4 bR.2.2 x1 bR.2.1 true) x1 (i64 (bR.2.1+1)) (i64 (x3 - 1)) xX xO xG xA bR.1).bind λ nY =>
  ag (!nY.2)
  (some (.inr (.inr (nY.1,false))))
  ((iD 4 (oL 4 bR.2.2 x1 bR.2.1 true) x1).bind λ xa =>
  (idx xa bR.2.1).bind λ _ =>
  some (.inl (nY.1,i64 (bR.2.1+1),oL 4 (oL 4 bR.2.2 x1 bR.2.1 true) x1 bR.2.1 false))))))
  (some (.inr (.inl bR.1)))) (s0,x2,x0)).bind (Sum.elim (λ (m6:S) =>
  some (m6,true))
   (λ q=>some q))))
noncomputable def q9{S:Type}(ys:(List Bool)→S→Option (S × Bool))(x1:b9)(x2:Int)(x3:(List Bool))(x4:(List Bool))(s0:S):Option S :=
 ((pq ys 40).1 [false,false,false,false,false,false,false,false,false,false,false,false,false,false,false,false] 0 x1 x2 x3 x4 s0).bind λ yZ =>
  some yZ.1
noncomputable def yx(x0:b9)(x1:(List Bool))(x2:(List Bool))(x3:Int):Option (b9 × Int × (List Bool) × (List Bool)) :=
 some (x0,x3,x2,x1)
noncomputable def wb(x0:au):Option (List Bool) :=
 (bN (O:=(List Bool)) (λ (cZ:(Int × (List Bool))) =>
 ag (decide (cZ.1 < (x0.aH.length:Int)))
 ((idx cZ.2 cZ.1).bind λ _ =>
 some (.inl (i64 (cZ.1+1),cZ.2.set cZ.1.toNat true)))
 (some (.inr cZ.2))) (0,[false,false,false,false])).bind (λ (jG:(List Bool)) =>
 some jG)
noncomputable def A1(x0:au):Option (Int × Int) :=
 (pE x0 (λ y=>nQ y)).bind λ gZ =>
 ag (gZ.2 != 0)
 (some (0,gZ.2))
 ((uI gZ.1).bind λ eu =>
 (wb gZ.1.book).bind λ ja =>
 (yx gZ.1 eu ja 0).bind λ fu =>
 (q9 (fB (λ (_:(List Bool)) (jX:Int)=>((some (.inl (i64 (jX+1)))):Option (Int ⊕ Empty)))) fu.1 fu.2.1 fu.2.2.1 fu.2.2.2 (.inl 0)).bind (Sum.elim (λ (jX:Int) =>
 some (jX,0))
  (λ (o:Empty)=>o.elim)))
noncomputable def C9(x0:au)(x1:(List Bool)):Option (List (List Int)) :=
 (bN (O:=(List (List Int))) (λ (sX:((List (List Int)) × Int)) =>
 ag (decide (sX.2 < (x0.aN.length:Int)))
 ((iD 4 x1 sX.2).bind λ xd =>
 (bN (O:=(List Int)) (λ (qn:((List Int) × Int)) =>
 ag (decide (qn.2 < 4))
 ((idx xd qn.2).bind λ acR =>
 ag acR
 ((gb qn.1 [qn.2]).bind λ EG =>
 some (.inl (EG,i64 (qn.2+1))))
 (some (.inl (qn.1,i64 (qn.2+1)))))
 (some (.inr qn.1))) ([],0)).bind (λ (vd:(List Int)) =>
 (gb sX.1 [vd]).bind λ I0 =>
 some (.inl (I0,i64 (sX.2+1)))))
 (some (.inr sX.1))) ([],0)).bind (λ (LH:(List (List Int))) =>
 some LH)
noncomputable def Du(x0:au):Option ((List (List Int)) × Bool × Int) :=
 (pE x0 (λ y=>nQ y)).bind λ fv =>
 ag (fv.2 != 0)
 (some ([],false,fv.2))
 ((uI fv.1).bind λ pD =>
 (wb fv.1.book).bind λ u6 =>
 (yx fv.1 pD u6 0).bind λ lT =>
 (q9 (fB (λ (UN:(List Bool)) (_:Unit)=>(((C9 fv.1.book UN).bind λ oS =>
 some (.inr oS)):Option (Unit ⊕ (List (List Int)))))) lT.1 lT.2.1 lT.2.2.1 lT.2.2.2 (.inl ())).bind (Sum.elim (λ (_:Unit) =>
 some ([],false,0))
  (λ (oH:(List (List Int))) =>
 some (oH,true,0))))
noncomputable def HB (x1:((List Bool)→((List (List Bool)) ⊕ Empty)→Option (((List (List Bool)) ⊕ Empty) × Bool))→((List (List Bool)) ⊕ Empty)→Option ((List (List Bool)) ⊕ Empty)):Option (List (List Bool)) :=
 (x1 (fB (λ (qy:(List Bool)) (jJ:(List (List Bool)))=>(((gb jJ [qy]).bind λ gy =>
 some (.inl gy)):Option ((List (List Bool)) ⊕ Empty)))) (.inl [])).bind (Sum.elim (λ (jJ:(List (List Bool))) =>
 some jJ)
  (λ (o:Empty)=>o.elim))
noncomputable def Hv (x0:((List Bool)→((List (List Bool)) ⊕ Empty)→Option (((List (List Bool)) ⊕ Empty) × Bool))→((List (List Bool)) ⊕ Empty)→Option ((List (List Bool)) ⊕ Empty)):Option (List (List Bool)) :=
 (HB x0).bind λ cG =>
 some cG
noncomputable def Hw(x0:((List Bool)→Option Int))(x1:(List (List Bool))):Option (List Bool) :=
 (idx x1 0).bind λ mi =>
 (od x1 1 (x1.length:Int)).bind λ tn =>
 (bN (O:=(List Bool)) (λ (lL:(Int × (List Bool))) =>
 ag (decide (lL.1 < (tn.length:Int)))
 ((idx tn lL.1).bind λ xv =>
 (x0 xv).bind λ tp =>
 (x0 lL.2).bind λ nm =>
 ag (decide (tp < nm))
 (some (.inl (i64 (lL.1+1),xv)))
 (some (.inl (i64 (lL.1+1),lL.2))))
 (some (.inr lL.2))) (0,mi)).bind (λ (Bh:(List Bool)) =>
 some Bh)
noncomputable def AN(x0:au)(x1:(List Bool)):Option Int :=
 (bN (O:=Int) (λ (fC:((Int→Int) × Int × Int)) =>
 ag (decide (fC.2.2 < (x0.aN.length:Int)))
 ((idx x0.aN fC.2.2).bind λ tj =>
 (iD 4 x1 fC.2.2).bind λ tu =>
 (bN (O:=((Int→Int) × Int)) (λ (gh:((Int→Int) × Int × Int)) =>
 ag (decide (gh.2.2 < 4))
 ((idx tu gh.2.2).bind λ xd =>
 ag xd
 (some (.inl (ry gh.1 gh.2.2 (i64 ((gh.1 gh.2.2)+tj.jf)),oE gh.2.1 [(ry gh.1 gh.2.2 (i64 ((gh.1 gh.2.2)+tj.jf))) gh.2.2],i64 (gh.2.2+1))))
 (some (.inl (gh.1,gh.2.1,i64 (gh.2.2+1)))))
 (some (.inr (gh.1,gh.2.1)))) (fC.1,fC.2.1,0)).bind (λ (DR:((Int→Int) × Int)) =>
 some (.inl (DR.1,DR.2,i64 (fC.2.2+1)))))
 (some (.inr fC.2.1))) ((λ _=>0),0,0)).bind (λ (qj:Int) =>
 some qj)
noncomputable def Dv(x0:au):Option ((List (List Int)) × Int × Bool × Int) :=
 (pE x0 (λ y=>nQ y)).bind λ eu =>
 ag (eu.2 != 0)
 (some ([],0,false,eu.2))
 ((uI eu.1).bind λ gy =>
 (wb eu.1.book).bind λ jb =>
 (yx eu.1 gy jb 0).bind λ kS =>
 (Hv (λ y s=>q9 y kS.1 kS.2.1 kS.2.2.1 kS.2.2.2 s)).bind λ pD =>
 ag ((pD.length:Int) == 0)
 (some ([],0,false,0))
 ((Hw (λ y=>AN eu.1.book y) pD).bind λ mi =>
 (C9 eu.1.book mi).bind λ tn =>
 (AN eu.1.book mi).bind λ oS =>
 some (tn,oS,true,0)))
noncomputable def xr(x0:Int):Option (List Int) :=
 (bN (O:=(List Int)) (λ (qo:((List Int) × Int)) =>
 ag (decide (qo.2 < 4))
 ((lR .i64 x0 qo.2).bind λ y3 =>
 (fN .and .i64 y3 1).bind λ mq =>
 ag (mq == 1)
 ((gb qo.1 [qo.2]).bind λ mr =>
 some (.inl (mr,i64 (qo.2+1))))
 (some (.inl (qo.1,i64 (qo.2+1)))))
 (some (.inr qo.1))) ([],0)).bind (λ (sT:(List Int)) =>
 some sT)
noncomputable def HG(x0:Int)(x1:Int):Option Int :=
 (yA x0).bind λ iH =>
 (yA x1).bind λ fG =>
 ag iH
 (ag fG
 (some 0)
 (some (-1)))
 (ag fG
 (some 1)
 (ag (decide (x0 < x1))
 (some (-1))
 (ag (decide (x0 > x1))
 (some 1)
 (some 0))))
noncomputable def B1(x0:(List Int))(x1:(List Int)):Option Int :=
 (bN (O:=(Unit ⊕ Int)) (λ (yQ:Int) =>
 ag (decide (yQ < (x0.length:Int)))
 ((idx x0 yQ).bind λ nm =>
 ag (decide (yQ ≥ (x1.length:Int)))
 (some (.inr (.inr 1)))
 ((idx x1 yQ).bind λ UP =>
 (HG nm UP).bind λ MT =>
 ag (MT != 0)
 (some (.inr (.inr MT)))
 (some (.inl (i64 (yQ+1))))))
 (some (.inr (.inl ())))) 0).bind (Sum.elim (λ (_:Unit) =>
 ag (decide ((x0.length:Int) < (x1.length:Int)))
 (some (-1))
 (some 0))
  (λ q=>some q))
noncomputable def zb(x0:Int)(x1:(Int→Option Bool)):Option ((List Int) × Bool) :=
 (IF .i64 1 x0).bind λ oT =>
 (bN (O:=((List Int) × Bool)) (λ (fa:((List Int) × Bool × Int)) =>
 ag (decide (fa.2.2 < oT))
 ((xr fa.2.2).bind λ oP =>
 (((ag (!fa.2.1)
 ((x1 fa.2.2).bind λ je =>
 some je)
 (ag (decide ((oP.length:Int) < (fa.1.length:Int)))
 ((x1 fa.2.2).bind λ rH =>
 some rH)
 (ag ((oP.length:Int) == (fa.1.length:Int))
 ((B1 oP fa.1).bind λ BB =>
 ag (decide (BB < 0))
 ((x1 fa.2.2).bind λ MG =>
 some MG)
 (some false))
 (some false)))):Option Bool)).bind (λ (DO:Bool) =>
 ag DO
 (some (.inl (oP,true,i64 (fa.2.2+1))))
 (some (.inl (fa.1,fa.2.1,i64 (fa.2.2+1))))))
 (some (.inr (fa.1,fa.2.1)))) ([],false,0)).bind (λ (wA:((List Int) × Bool)) =>
 some (wA.1,wA.2))
noncomputable def AP(x0:b9)(x1:(List Bool))(x2:(List Bool))(x3:Int):Option Bool :=
 (yx x0 x1 x2 x3).bind λ dE =>
 (q9 (fB (λ (_:(List Bool)) (_:Unit)=>((some (.inr ())):Option (Unit ⊕ Unit)))) dE.1 dE.2.1 dE.2.2.1 dE.2.2.2 (.inl ())).bind (Sum.elim (λ (_:Unit) =>
 some false)
  (λ (_:Unit) =>
 some true))
noncomputable def Da(x0:Int)(x1:b9)(x2:(List Bool))(x3:(List Bool)):Option Bool :=
 (xr x0).bind λ lP =>
 (AO lP).bind λ iF =>
 (AP x1 x2 iF 0).bind λ dE =>
 ag dE
 (some true)
 (ag (O2 iF x3 == true)
 ((AP x1 x2 x3 0).bind λ bP =>
 some bP)
 (some false))
noncomputable def Dw(x0:au):Option ((List Int) × Bool × Int) :=
 (pE x0 (λ y=>nQ y)).bind λ bP =>
 ag (bP.2 != 0)
 (some ([],false,bP.2))
 ((uI bP.1).bind λ eu =>
 (wb bP.1.book).bind λ ja =>
 (zb (x0.aH.length:Int) (λ y=>Da y bP.1 eu ja)).bind λ gy =>
 some (gy.1,gy.2,0))
noncomputable def Db(x0:Int)(x1:b9)(x2:(List Bool))(x3:(List Bool)):Option Bool :=
 (AP x1 x2 x3 x0).bind λ cG =>
 some cG
noncomputable def A3(x0:au):Option ((List Int) × Int) :=
 (pE x0 (λ y=>nQ y)).bind λ bP =>
 ag (bP.2 != 0)
 (some ([],bP.2))
 ((uI bP.1).bind λ eu =>
 (wb bP.1.book).bind λ ja =>
 (zb (x0.aN.length:Int) (λ y=>Db y bP.1 eu ja)).bind λ gy =>
 some (gy.1,0))
noncomputable def u9(x0:au)(x1:c9):Option au :=
 (gb [] x0.aY).bind λ bP =>
 (gb bP [x1]).bind λ fF =>
 some (⟨x0.Rest,x0.Rows,x0.aQ,x0.aH,x0.aN,fF⟩:au)
noncomputable def xk(x0:au)(x1:Int):Option (Int × Int) :=
 (nR x0).bind λ fE =>
 ag (fE != 0)
 (some (0,fE))
 ((jE x1 1 30).bind λ bP =>
 ag (!bP)
 (some (0,1))
 ((xj (⟨x0.Rest,x0.Rows,x0.aQ,x0.aH,x0.aN,x0.aY⟩:au) x1).bind λ fF =>
 some (fF,0)))
noncomputable def A4(x0:Int)(x1:Int):Option Reach :=
 some (⟨x0,x1⟩:Reach)
noncomputable def Dc(x0:(List c9)):Option (List c9) :=
 (gb [] x0).bind λ cG =>
 some cG
noncomputable def Dh(x0:(List fl)):Option (List fl) :=
 (gb [] x0).bind λ cG =>
 some cG
noncomputable def Di(x0:(List Reach)):Option (List Reach) :=
 (gb [] x0).bind λ cG =>
 some cG
noncomputable def Dj(x0:(List eQ)):Option (List eQ) :=
 (gb [] x0).bind λ cG =>
 some cG
noncomputable def Dk(x0:(List lW)):Option (List lW) :=
 (gb [] x0).bind λ cG =>
 some cG
noncomputable def Hx(x0:au):Option au :=
 (Dh x0.Rows).bind λ uZ =>
 (Di x0.aQ).bind λ fF =>
 (Dj x0.aH).bind λ iH =>
 (Dk x0.aN).bind λ fG =>
 (Dc x0.aY).bind λ eu =>
 some (⟨x0.Rest,uZ,fF,iH,fG,eu⟩:au)
noncomputable def Dx(x0:au)(x1:Int)(x2:Int):Option (au × Int) :=
 (nR x0).bind λ oP =>
 ag (oP != 0)
 (some ((⟨0,[],[],[],[],[]⟩:au),oP))
 ((jE x1 1 30).bind λ xm =>
 (((ag (!xm)
 (some (!xm))
 ((jE x2 1 60).bind λ zn =>
 some (!zn))):Option Bool)).bind (λ (LI:Bool) =>
 ag LI
 (some ((⟨0,[],[],[],[],[]⟩:au),1))
 ((xj (⟨x0.Rest,x0.Rows,x0.aQ,x0.aH,x0.aN,x0.aY⟩:au) x1).bind λ BB =>
 ag (decide (x2 > BB))
 (some ((⟨0,[],[],[],[],[]⟩:au),7))
 ((bN (O:=(List fl)) (λ (nb:((List fl) × Bool × Int)) =>
 ag (decide (nb.2.2 < (x0.Rows.length:Int)))
 ((idx x0.Rows nb.2.2).bind λ nV =>
 (((ag (decide (nV.eI > x1))
 (some (!nb.2.1))
 (some false)):Option Bool)).bind (λ (LL:Bool) =>
 (((ag LL
 ((gb nb.1 [(⟨x1,x2⟩:fl)]).bind λ IZ =>
 some (IZ,true))
 (some (nb.1,nb.2.1))):Option ((List fl) × Bool))).bind (λ (DS:((List fl) × Bool)) =>
 (((ag (decide (nV.eI ≥ x1))
 (some (true,HR nV.eU [x2]))
 (some (DS.2,nV.eU))):Option (Bool × Int))).bind (λ (Bf:(Bool × Int)) =>
 (gb DS.1 [(⟨nV.eI,Bf.2⟩:fl)]).bind λ acQ =>
 some (.inl (acQ,Bf.1,i64 (nb.2.2+1)))))))
 (some (.inr nb.1))) ([],false,0)).bind (λ (DQ:(List fl)) =>
 ag (decide ((DQ.length:Int) > 4))
 (some ((⟨0,[],[],[],[],[]⟩:au),2))
 ((Hx (⟨x0.Rest,DQ,x0.aQ,x0.aH,x0.aN,x0.aY⟩:au)).bind λ EF =>
 some (EF,0)))))))
noncomputable def Et(x0:au)(x1:Int):Option au :=
 (xr x1).bind λ lT =>
 (bN (O:=(List c9)) (λ (jK:((List c9) × Int)) =>
 ag (decide (jK.2 < (lT.length:Int)))
 ((idx lT jK.2).bind λ mq =>
 (idx x0.aY mq).bind λ lQ =>
 (gb jK.1 [lQ]).bind λ mr =>
 some (.inl (mr,i64 (jK.2+1))))
 (some (.inr jK.1))) ([],0)).bind (λ (oH:(List c9)) =>
 some (⟨x0.Rest,x0.Rows,x0.aQ,x0.aH,x0.aN,oH⟩:au))
noncomputable def Eu(x0:au):Option Bool :=
 (nq (fB (λ (_:br) (_:Unit)=>((some (.inr ())):Option (Unit ⊕ Unit)))) x0 (.inl ())).bind (Sum.elim (λ (_:Unit) =>
 some false)
  (λ (_:Unit) =>
 some true))
noncomputable def B0(x0:Int)(x1:au):Option Bool :=
 (Et x1 x0).bind λ pC =>
 (Eu pC).bind λ eG =>
 some (!eG)
noncomputable def zc(x0:au):Option ((List Int) × Int) :=
 (nR x0).bind λ iF =>
 ag (iF != 0)
 (some ([],iF))
 ((zb (x0.aY.length:Int) (λ y=>B0 y x0)).bind λ bP =>
 some (bP.1,0))
noncomputable def BU(x0:br)(x1:Int)(x2:Int):Option Bool :=
 (idx x0.deep x1).bind λ eG =>
 some (decide (eG≤x2))
noncomputable def zd(x0:au):Option (Int × Int × Int × Int) :=
 (pE x0 (λ y=>nQ y)).bind λ gz =>
 ag (gz.2 != 0)
 (some (0,0,0,gz.2))
 ((bN (O:=(Int × Int × Int)) (λ (fC:(Int × Int × Int × Int)) =>
 ag (decide (fC.2.2.2 < (x0.aQ.length:Int)))
 ((bN (O:=(Int × Int × Int)) (λ (lK:(Int × Int × Int × Int)) =>
 ag (decide (lK.2.2.2 < 31))
 ((uH gz.1 (λ y=>BU y fC.2.2.2 lK.2.2.2)).bind λ qt =>
 ag (decide (oE qt [i64 ((gz.1.eS.length:Int) - qt)] < lK.2.2.1))
 (some (.inl (fC.2.2.2,lK.2.2.2,oE qt [i64 ((gz.1.eS.length:Int) - qt)],i64 (lK.2.2.2+1))))
 (some (.inl (lK.1,lK.2.1,lK.2.2.1,i64 (lK.2.2.2+1)))))
 (some (.inr (lK.1,lK.2.1,lK.2.2.1)))) (fC.1,fC.2.1,fC.2.2.1,0)).bind (λ (yH:(Int × Int × Int)) =>
 some (.inl (yH.1,yH.2.1,yH.2.2,i64 (fC.2.2.2+1)))))
 (some (.inr (fC.1,fC.2.1,fC.2.2.1)))) ((-1),(-1),(gz.1.eS.length:Int),0)).bind (λ (qj:(Int × Int × Int)) =>
 some (qj.1,qj.2.1,qj.2.2,0)))
noncomputable def ze(x0:au)(x1:Int)(x2:Int):Option (Bool × Int) :=
 (nR x0).bind λ gZ =>
 ag (gZ != 0)
 (some (false,gZ))
 ((oB x1 (x0.aN.length:Int)).bind λ iH =>
 (oB x2 (x0.aN.length:Int)).bind λ fG =>
 ag (oE iH [fG] != 0)
 (some (false,oE iH [fG]))
 ((BV (⟨x0.Rest,x0.Rows,x0.aQ,x0.aH,x0.aN,x0.aY⟩:au) x1 x2).bind λ fv =>
 some (fv,0)))
noncomputable def Dd(x0:Int):Option Reach :=
 some (⟨x0,x0⟩:Reach)
noncomputable def HP  : Option au :=
 (A4 9 11).bind λ bP =>
 (Dd 15).bind λ uZ =>
 some (⟨10,[(⟨10,40⟩:fl),(⟨20,20⟩:fl)],[bP,uZ],[(⟨⟨#[97,110,110]⟩,20⟩:eQ),(⟨⟨#[98,111]⟩,12⟩:eQ)],[(⟨0,0,20,2⟩:lW),(⟨1,30,15,1⟩:lW),(⟨0,60,30,1⟩:lW)],[]⟩:au)
noncomputable def AI(x0:(List Int))(x1:(List Int)):Option Bool :=
 (bN (O:=(Unit ⊕ Bool)) (λ (s6:Int) =>
 ag (decide (s6 < (x1.length:Int)))
 ((((ag (decide (s6 ≥ (x0.length:Int)))
 (some true)
 ((idx x0 s6).bind λ qs =>
 (idx x1 s6).bind λ acI =>
 some (decide (qs < acI)))):Option Bool)).bind (λ (LG:Bool) =>
 ag LG
 (some (.inr (.inr true)))
 ((idx x0 s6).bind λ zh =>
 (idx x1 s6).bind λ EE =>
 ag (decide (zh > EE))
 (some (.inr (.inr false)))
 (some (.inl (i64 (s6+1)))))))
 (some (.inr (.inl ())))) 0).bind (Sum.elim (λ (_:Unit) =>
 some false)
  (λ q=>some q))
noncomputable def AW(x0:(List Int))(x1:(List Int)):Option Bool :=
 (AI x0 x1).bind λ eG =>
 ag (!eG)
 ((AI x1 x0).bind λ mJ =>
 some (!mJ))
 (some false)
noncomputable def wh(x0:(List Int))(x1:(List Int)):Option Bool :=
 (AW x0 x1).bind λ cG =>
 some cG
noncomputable def HN(x0:(List (List Int)))(x1:(List (List Int))):Option Bool :=
 ag ((x0.length:Int) != (x1.length:Int))
 (some false)
 ((bN (O:=(Unit ⊕ Bool)) (λ (rn:Int) =>
 ag (decide (rn < (x0.length:Int)))
 ((idx x0 rn).bind λ y3 =>
 (idx x1 rn).bind λ mq =>
 (AW y3 mq).bind λ lQ =>
 ag (!lQ)
 (some (.inr (.inr false)))
 (some (.inl (i64 (rn+1)))))
 (some (.inr (.inl ())))) 0).bind (Sum.elim (λ (_:Unit) =>
 some true)
  (λ q=>some q)))
noncomputable def Dz(x0:(List (List Int)))(x1:(List (List Int))):Option Bool :=
 (HN x0 x1).bind λ cG =>
 some cG
noncomputable def oC  : Option Bool :=
 (HP).bind λ eC =>
 (u9 eC (⟨0,10,true⟩:c9)).bind λ gY =>
 (xk eC 10).bind λ BD =>
 (xk eC 21).bind λ BE =>
 (oV eC).bind λ BF =>
 (Dp gY 0).bind λ BG =>
 (Dt eC 0).bind λ xe =>
 (yB eC 1 0).bind λ uW =>
 (yB eC 1 1).bind λ BH =>
 (yB eC 1 2).bind λ xf =>
 (ze eC 0 1).bind λ yY =>
 (m32 eC ([[0,1],[0],[1]])).bind λ BI =>
 (m32 gY ([[0,1],[0],[1]])).bind λ BJ =>
 (((ag (BD.2 != 0)
 (some true)
 (ag (BE.2 != 0)
 (some true)
 (ag (BF.2 != 0)
 (some true)
 (ag (BG.2 != 0)
 (some true)
 (ag (xe.2 != 0)
 (some true)
 (ag (uW.2 != 0)
 (some true)
 (ag (BH.2 != 0)
 (some true)
 (ag (xf.2 != 0)
 (some true)
 (ag (yY.2 != 0)
 (some true)
 (ag (BI.2 != 0)
 (some true)
 (some (BJ.2 != 0)))))))))))):Option Bool)).bind (λ (DT:Bool) =>
 ag DT
 (some false)
 ((((ag (BD.1 != 40)
 (some true)
 (ag (BE.1 != 0)
 (some true)
 (ag (BF.1 != 3)
 (some true)
 ((wh BG.1 [9,10]).bind λ MH =>
 ag (!MH)
 (some true)
 ((A4 20 40).bind λ It =>
 ag (!(O3 xe.1 It == true))
 (some true)
 (ag (uW.1 != 1)
 (some true)
 (ag (BH.1 != 2)
 (some true)
 (ag (xf.1 != 0)
 (some true)
 (ag (!yY.1)
 (some true)
 (ag (BI.1 != 0)
 (some true)
 (some (BJ.1 != 1)))))))))))):Option Bool)).bind (λ (DU:Bool) =>
 ag DU
 (some false)
 ((A1 eC).bind λ BK =>
 (A1 gY).bind λ BL =>
 (Du gY).bind λ uX =>
 (Dv gY).bind λ qx =>
 (Dw gY).bind λ uY =>
 (A3 eC).bind λ BM =>
 (zd eC).bind λ nW =>
 (Dx gY 12 15).bind λ oQ =>
 (A3 oQ.1).bind λ Ek =>
 (u9 gY (⟨0,8,true⟩:c9)).bind λ Iu =>
 (zc Iu).bind λ BN =>
 (((ag (BK.2 != 0)
 (some true)
 (ag (BL.2 != 0)
 (some true)
 (ag (uX.2.2 != 0)
 (some true)
 (ag (qx.2.2.2 != 0)
 (some true)
 (ag (uY.2.2 != 0)
 (some true)
 (ag (BM.2 != 0)
 (some true)
 (ag (nW.2.2.2 != 0)
 (some true)
 (ag (oQ.2 != 0)
 (some true)
 (ag (Ek.2 != 0)
 (some true)
 (some (BN.2 != 0))))))))))):Option Bool)).bind (λ (DV:Bool) =>
 ag DV
 (some false)
 ((((ag (BK.1 != 0)
 (some true)
 (ag (BL.1 != 2)
 (some true)
 (ag (!uX.2.1)
 (some true)
 ((Dz uX.1 ([[0,1],[0],[0]])).bind λ MN =>
 ag (!MN)
 (some true)
 (ag (!qx.2.2.1)
 (some true)
 (ag (qx.2.1 != 50)
 (some true)
 ((Dz qx.1 ([[0,1],[0],[1]])).bind λ BP =>
 ag (!BP)
 (some true)
 (ag (!uY.2.1)
 (some true)
 ((wh uY.1 [0,1]).bind λ MP =>
 ag (!MP)
 (some true)
 ((wh BM.1 [2]).bind λ MQ =>
 some (!MQ))))))))))):Option Bool)).bind (λ (DW:Bool) =>
 ag DW
 (some false)
 (ag (nW.1 == 0)
 (ag (nW.2.1 == 9)
 (ag (nW.2.2.1 == 2)
 (ag ((Ek.1.length:Int) == 0)
 ((wh BN.1 [1]).bind λ MR =>
 ag MR
 (ag ((oQ.1.Rows.length:Int) == 3)
 ((idx oQ.1.Rows 1).bind λ Em =>
 ag (FD Em (⟨12,15⟩:fl) == true)
 ((idx oQ.1.Rows 2).bind λ Iv =>
 some (FD Iv (⟨20,15⟩:fl) == true))
 (some false))
 (some false))
 (some false))
 (some false))
 (some false))
 (some false))
 (some false)))))))))
noncomputable def iA(x0:Int)(x1:Int)(x2:Int):Option Bool :=
 ag (decide (x1≤x0))
 (some (decide (x0≤x2)))
 (some false)
noncomputable def C4(x0:au)(x1:Int):Option Bool :=
 (iA x1 0 (i64 ((x0.aQ.length:Int) - 1))).bind λ eG =>
 some eG
noncomputable def Hz(x0:au):Option Int :=
 (iA x0.Rest 0 60).bind λ u7 =>
 ag (!u7)
 (some 1)
 ((iA (x0.Rows.length:Int) 1 4).bind λ nX =>
 ag (!nX)
 (some 2)
 ((bN (O:=(Unit ⊕ Int)) (λ (s7:Int) =>
 ag (decide (s7 < (x0.Rows.length:Int)))
 ((idx x0.Rows s7).bind λ xb =>
 ((((iA xb.eI 1 30).bind λ acL =>
 ag (!acL)
 (some true)
 ((iA xb.eU 1 60).bind λ acM =>
 some (!acM))):Option Bool)).bind (λ (LK:Bool) =>
 ag LK
 (some (.inr (.inr 1)))
 (ag (decide (s7 > 0))
 ((idx x0.Rows (i64 (s7 - 1))).bind λ tj =>
 ag (decide (xb.eI≤tj.eI))
 (some (.inr (.inr 7)))
 ((idx x0.Rows (i64 (s7 - 1))).bind λ tu =>
 ag (decide (xb.eU > tu.eU))
 (some (.inr (.inr 7)))
 (some (.inl (i64 (s7+1))))))
 (some (.inl (i64 (s7+1)))))))
 (some (.inr (.inl ())))) 0).bind (Sum.elim (λ (_:Unit) =>
 some 0)
  (λ q=>some q))))
noncomputable def HC(x0:Reach)(x1:Int)(x2:Int):Option Bool :=
 ag (decide (x1≤x0.cH))
 (ag (decide (x0.cH≤x0.dm))
 (some (decide (x0.dm≤x2)))
 (some false))
 (some false)
noncomputable def AR(x0:Int):Option Bool :=
 (iA (i64 x0) 97 122).bind λ cG =>
 some cG
noncomputable def Dn(x0:Int):Option Bool :=
 (iA (i64 x0) 48 57).bind λ cG =>
 some cG
noncomputable def HD(x0:ByteArray):Option Bool :=
 ((((iA (x0.size:Int) 1 12).bind λ I1 =>
 ag (!I1)
 (some true)
 ((s8 x0 0).bind λ mq =>
 (AR mq).bind λ lQ =>
 some (!lQ))):Option Bool)).bind (λ (LQ:Bool) =>
 ag LQ
 (some false)
 ((bN (O:=(Unit ⊕ Bool)) (λ (px:Int) =>
 ag (decide (px < (x0.size:Int)))
 ((s8 x0 px).bind λ y4 =>
 (AR y4).bind λ nX =>
 ag (!nX)
 ((s8 x0 px).bind λ gz =>
 (Dn gz).bind λ nY =>
 ag (!nY)
 (some (.inr (.inr false)))
 (some (.inl (i64 (px+1)))))
 (some (.inl (i64 (px+1)))))
 (some (.inr (.inl ())))) 1).bind (Sum.elim (λ (_:Unit) =>
 some true)
  (λ q=>some q))))
noncomputable def HA(x0:au):Option Int :=
 (iA (x0.aQ.length:Int) 1 3).bind λ Vt =>
 ag (!Vt)
 (some 2)
 ((bN (O:=(Unit ⊕ Int)) (λ (D2:Int) =>
 ag (decide (D2 < (x0.aQ.length:Int)))
 ((idx x0.aQ D2).bind λ qt =>
 (HC qt 1 30).bind λ nV =>
 ag (!nV)
 (some (.inr (.inr 1)))
 (ag (decide (i64 (qt.dm - qt.cH) ≥ 3))
 (some (.inr (.inr 1)))
 (some (.inl (i64 (D2+1))))))
 (some (.inr (.inl ())))) 0).bind (Sum.elim (λ (_:Unit) =>
 (iA (x0.aH.length:Int) 1 4).bind λ xd =>
 ag (!xd)
 (some 2)
 ((bN (O:=(Unit ⊕ Int)) (λ (sY:Int) =>
 ag (decide (sY < (x0.aH.length:Int)))
 ((idx x0.aH sY).bind λ UG =>
 (HD UG.Name).bind λ acY =>
 ag (!acY)
 (some (.inr (.inr 4)))
 ((bN (O:=(Unit ⊕ Int)) (λ (D3:Int) =>
 ag (decide (D3 < sY))
 ((idx x0.aH D3).bind λ ac3 =>
 (idx x0.aH sY).bind λ ac4 =>
 ag (ac3.Name.toList == ac4.Name.toList)
 (some (.inr (.inr 5)))
 (some (.inl (i64 (D3+1)))))
 (some (.inr (.inl ())))) 0).bind (Sum.elim (λ (_:Unit) =>
 (idx x0.aH sY).bind λ UJ =>
 (iA UJ.pI 1 30).bind λ ac5 =>
 ag (!ac5)
 (some (.inr (.inr 1)))
 (some (.inl (i64 (sY+1)))))
  (λ q=>some (.inr (.inr q))))))
 (some (.inr (.inl ())))) 0).bind (Sum.elim (λ (_:Unit) =>
 some 0)
  (λ q=>some q))))
  (λ q=>some q)))
noncomputable def wc(x0:au):Option Int :=
 (Hz x0).bind λ UC =>
 ag (UC != 0)
 (some UC)
 ((HA x0).bind λ zo =>
 ag (zo != 0)
 (some zo)
 ((iA (x0.aN.length:Int) 1 4).bind λ Is =>
 ag (!Is)
 (some 2)
 ((bN (O:=(Unit ⊕ Int)) (λ (D1:Int) =>
 ag (decide (D1 < (x0.aN.length:Int)))
 ((idx x0.aN D1).bind λ xc =>
 (C4 x0 xc.Place).bind λ acN =>
 ag (!acN)
 (some (.inr (.inr 6)))
 ((iA xc.iI 0 200).bind λ acO =>
 ag (!acO)
 (some (.inr (.inr 1)))
 ((iA xc.jf 1 60).bind λ Vw =>
 ag (!Vw)
 (some (.inr (.inr 1)))
 ((iA xc.aH 1 3).bind λ acP =>
 ag (!acP)
 (some (.inr (.inr 1)))
 (some (.inl (i64 (D1+1))))))))
 (some (.inr (.inl ())))) 0).bind (Sum.elim (λ (_:Unit) =>
 ag (decide ((x0.aY.length:Int) > 3))
 (some 2)
 ((bN (O:=(Unit ⊕ Int)) (λ (Bl:Int) =>
 ag (decide (Bl < (x0.aY.length:Int)))
 ((idx x0.aY Bl).bind λ Ej =>
 (C4 x0 Ej.Place).bind λ eC =>
 ag (!eC)
 (some (.inr (.inr 6)))
 ((idx x0.aY Bl).bind λ UF =>
 (iA UF.lu 0 30).bind λ acS =>
 ag (!acS)
 (some (.inr (.inr 1)))
 (some (.inl (i64 (Bl+1))))))
 (some (.inr (.inl ())))) 0).bind (Sum.elim (λ (_:Unit) =>
 some 0)
  (λ q=>some q))))
  (λ q=>some q)))))
noncomputable def M5(x0:au)(x1:(List Int)):Option Bool :=
 (bN (O:=(Unit ⊕ Bool)) (λ (iW:Int) =>
 ag (decide (iW < (x0.aY.length:Int)))
 ((idx x0.aY iW).bind λ mA =>
 (idx x1 mA.Place).bind λ qE =>
 ag (!((decide (qE≤mA.lu)) == mA.rL))
 (some (.inr (.inr false)))
 (some (.inl (i64 (iW+1)))))
 (some (.inr (.inl ())))) 0).bind (Sum.elim (λ (_:Unit) =>
 some true)
  (λ q=>some q))
noncomputable def M4(x0:au)(x1:Int):Option Int :=
 (bN (O:=(Unit ⊕ Int)) (λ (jX:Int) =>
 ag (decide (jX < (x0.Rows.length:Int)))
 ((idx x0.Rows jX).bind λ vg =>
 ag (decide (vg.eI ≥ x1))
 ((idx x0.Rows jX).bind λ qD =>
 some (.inr (.inr qD.eU)))
 (some (.inl (i64 (jX+1)))))
 (some (.inr (.inl ())))) 0).bind (Sum.elim (λ (_:Unit) =>
 some 0)
  (λ q=>some q))
noncomputable def IC(x0:au)(x1:Int):Option Bool :=
 (iA x1 0 (i64 ((x0.aN.length:Int) - 1))).bind λ eG =>
 some eG
noncomputable def M7(x0:(List Int))(x1:Int):Option Int :=
 (bN (O:=(Unit ⊕ Int)) (λ (uQ:Int) =>
 ag (decide (uQ < (x0.length:Int)))
 ((idx x0 uQ).bind λ UQ =>
 (iA UQ 0 (i64 (x1 - 1))).bind λ x86 =>
 ag (!x86)
 (some (.inr (.inr 6)))
 (ag (decide (uQ > 0))
 ((idx x0 uQ).bind λ u7 =>
 (idx x0 (i64 (uQ - 1))).bind λ BQ =>
 ag (decide (u7≤BQ))
 (some (.inr (.inr 7)))
 (some (.inl (i64 (uQ+1)))))
 (some (.inl (i64 (uQ+1))))))
 (some (.inr (.inl ())))) 0).bind (Sum.elim (λ (_:Unit) =>
 some 0)
  (λ q=>some q))
noncomputable def M6(x0:au)(x1:Int)(x2:Int):Option Bool :=
 (idx x0.aN x1).bind λ iF =>
 (idx x0.aN x2).bind λ fE =>
 ag (decide (fE.iI ≥ i64 ((i64 (iF.iI+iF.jf))+x0.Rest)))
 (some true)
 (some (decide (iF.iI ≥ i64 ((i64 (fE.iI+fE.jf))+x0.Rest))))
noncomputable def B3(x0:(List Int))(x1:(List Int)):Option Bool :=
 ag (decide ((x0.length:Int) < (x1.length:Int)))
 (some true)
 (ag ((x0.length:Int) == (x1.length:Int))
 ((AI x0 x1).bind λ mJ =>
 some mJ)
 (some false))
noncomputable def EA(x0:au):Option Bool :=
 (Dm x0).bind λ mJ =>
 ag (!mJ)
 ((wc x0).bind λ lP =>
 some (lP == 0))
 (some false)
noncomputable def Dy(x0:au)(x1:(List Int)):Option au :=
 (bN (O:=(List c9)) (λ (jK:(Int × (List c9))) =>
 ag (decide (jK.1 < (x1.length:Int)))
 ((idx x1 jK.1).bind λ mq =>
 (idx x0.aY mq).bind λ lQ =>
 (gb jK.2 [lQ]).bind λ mr =>
 some (.inl (i64 (jK.1+1),mr)))
 (some (.inr jK.2))) (0,[])).bind (λ (oH:(List c9)) =>
 some (⟨x0.Rest,x0.Rows,x0.aQ,x0.aH,x0.aN,oH⟩:au))
noncomputable def B2(x0:(List Int))(x1:Int):Option (List Int) :=
 (bN (O:=(List Int)) (λ (rm:((List Int) × Int)) =>
 ag (decide (rm.2 < (x0.length:Int)))
 (ag (rm.2 != x1)
 ((idx x0 rm.2).bind λ mA =>
 (gb rm.1 [mA]).bind λ qE =>
 some (.inl (qE,i64 (rm.2+1))))
 (some (.inl (rm.1,i64 (rm.2+1)))))
 (some (.inr rm.1))) ([],0)).bind (λ (LP:(List Int)) =>
 some LP)
noncomputable def m8(x0:au)(x1:Int):Option Bool :=
 (EA x0).bind λ xm =>
 ag (!xm)
 ((oC).bind λ zn =>
 some zn)
 ((zc x0).bind λ xn =>
 (oV x0).bind λ je =>
 (((ag (xn.2 != 0)
 (some true)
 (ag (je.2 != 0)
 (some true)
 ((M7 xn.1 (x0.aY.length:Int)).bind λ Vr =>
 ag (Vr != 0)
 (some true)
 (some (!((je.1 == 0) == (decide ((xn.1.length:Int) > 0)))))))):Option Bool)).bind (λ (aaZ:Bool) =>
 ag aaZ
 (some false)
 (ag (decide (je.1 > 0))
 ((oC).bind λ ad6 =>
 some ad6)
 ((Dy x0 xn.1).bind λ adI =>
 (oV adI).bind λ Vs =>
 (((ag (Vs.2 != 0)
 (some true)
 (some (Vs.1 != 0))):Option Bool)).bind (λ (aa1:Bool) =>
 ag aa1
 (some false)
 ((bN (O:=(Unit ⊕ Bool)) (λ (IY:Int) =>
 ag (decide (IY < (xn.1.length:Int)))
 ((B2 xn.1 IY).bind λ adK =>
 (Dy x0 adK).bind λ adL =>
 (oV adL).bind λ Vv =>
 ag (Vv.2 != 0)
 (some (.inr (.inr false)))
 (ag (Vv.1 == 0)
 (some (.inr (.inr false)))
 (some (.inl (i64 (IY+1))))))
 (some (.inr (.inl ())))) 0).bind (Sum.elim (λ (_:Unit) =>
 (bN (O:=(List Int)) (λ (vb:((List Int) × Int)) =>
 ag (decide (vb.2 < (x0.aY.length:Int)))
 ((lR .u8 x1 vb.2).bind λ ad9 =>
 (fN .and .u8 ad9 1).bind λ EF =>
 ag (EF == 1)
 ((gb vb.1 [vb.2]).bind λ Vy =>
 some (.inl (Vy,i64 (vb.2+1))))
 (some (.inl (vb.1,i64 (vb.2+1)))))
 (some (.inr vb.1))) ([],0)).bind (λ (Nc:(List Int)) =>
 (Dy x0 Nc).bind λ adM =>
 (oV adM).bind λ EG =>
 ag (EG.2 == 0)
 (ag (decide (EG.1 > 0))
 ((oC).bind λ I0 =>
 some I0)
 ((B3 Nc xn.1).bind λ aea =>
 ag (!aea)
 ((oC).bind λ aeb =>
 some aeb)
 (some false)))
 (some false)))
  (λ q=>some q))))))))
noncomputable def HO(x0:au)(x1:Int)(x2:Int):Option (Int × Bool) :=
 (u9 x0 (⟨x1,x2,true⟩:c9)).bind λ lP =>
 (oV lP).bind λ iF =>
 (u9 x0 (⟨x1,x2,false⟩:c9)).bind λ fE =>
 (oV fE).bind λ dE =>
 ag (iF.2 == 0)
 (some (oE iF.1 [dE.1],dE.2 == 0))
 (some (oE iF.1 [dE.1],false))
noncomputable def m9(x0:au)(x1:Int)(x2:Int):Option Bool :=
 ((((EA x0).bind λ ad5 =>
 ag (!ad5)
 (some true)
 (some (decide ((x0.aY.length:Int) ≥ 3)))):Option Bool)).bind (λ (aaX:Bool) =>
 ag aaX
 ((oC).bind λ xm =>
 some xm)
 ((zd x0).bind λ gn =>
 (oV x0).bind λ zh =>
 (((ag (zh.2 != 0)
 (some true)
 (some (!((gn.2.2.2 == 0) == (decide (zh.1 > 0)))))):Option Bool)).bind (λ (aaY:Bool) =>
 ag aaY
 (some false)
 (ag (gn.2.2.2 != 0)
 ((((ag (gn.2.2.2 == 9)
 (ag (gn.1 == 0)
 (ag (gn.2.1 == 0)
 (ag (gn.2.2.1 == 0)
 ((oC).bind λ adJ =>
 some adJ)
 (some false))
 (some false))
 (some false))
 (some false)):Option Bool)).bind (λ (HY:Bool) =>
 some HY))
 (((((iA gn.1 (-1) (i64 ((x0.aQ.length:Int) - 1))).bind λ ad7 =>
 ag (!ad7)
 (some true)
 ((iA gn.2.1 (-1) 30).bind λ Vu =>
 ag (!Vu)
 (some true)
 (ag (!((decide (gn.1 < 0)) == (gn.2.2.1 == zh.1)))
 (some true)
 (ag (!((decide (gn.1 < 0)) == (decide (gn.2.1 < 0))))
 (some true)
 (some (decide (gn.2.2.1 > zh.1))))))):Option Bool)).bind (λ (HZ:Bool) =>
 ag HZ
 (some false)
 ((IE (i64 x1) (x0.aQ.length:Int)).bind λ zi =>
 (IE (i64 x2) 31).bind λ tu =>
 (HO x0 zi tu).bind λ BC =>
 (((ag (!BC.2)
 (some true)
 (ag (decide (BC.1 < gn.2.2.1))
 (some true)
 (ag (BC.1 == gn.2.2.1)
 (ag (decide (gn.1 ≥ 0))
 (ag (decide (zi < gn.1))
 (some true)
 (ag (zi == gn.1)
 (some (decide (tu < gn.2.1)))
 (some false)))
 (some false))
 (some false)))):Option Bool)).bind (λ (aa4:Bool) =>
 ag aa4
 (some false)
 ((((ag (decide (gn.1 ≥ 0))
 ((HO x0 gn.1 gn.2.1).bind λ Vx =>
 some (Vx.1,Vx.2))
 (some (BC.1,BC.2))):Option (Int × Bool))).bind (λ (vd:(Int × Bool)) =>
 ag vd.2
 (ag (decide (gn.1 < 0))
 ((oC).bind λ IZ =>
 some IZ)
 (ag (vd.1 == gn.2.2.1)
 ((oC).bind λ ad8 =>
 some ad8)
 (some false)))
 (some false)))))))))))
noncomputable def M8(x0:au)(x1:Int):Option (Int × Int) :=
 (wc x0).bind λ fE =>
 ag (fE != 0)
 (some (0,fE))
 ((iA x1 1 30).bind λ bP =>
 ag (!bP)
 (some (0,1))
 ((M4 x0 x1).bind λ fF =>
 some (fF,0)))
noncomputable def Tg(x0:(List Int))(x1:(Int→Option Bool)):Option Int :=
 (bN (O:=(Unit ⊕ Int)) (λ (cZ:Int) =>
 ag (decide (cZ < (x0.length:Int)))
 ((idx x0 cZ).bind λ jZ =>
 (x1 jZ).bind λ kH =>
 ag kH
 (some (.inr (.inr cZ)))
 (some (.inl (i64 (cZ+1)))))
 (some (.inr (.inl ())))) 0).bind (Sum.elim (λ (_:Unit) =>
 some (-1))
  (λ q=>some q))
noncomputable def Nh(x0:(List Int))(x1:(Int→Option Bool)):Option Bool :=
 (Tg x0 x1).bind λ cG =>
 some (decide (cG ≥ 0))
noncomputable def IS(x0:Int):Option Bool :=
 (jE x0 1 30).bind λ cG =>
 some (!cG)
noncomputable def Ni(x0:(List Int)):Option br :=
 some (⟨qz [0,0,0] x0⟩:br)
noncomputable def M9(x0:au)(x1:(List Int)):Option (Bool × Int) :=
 (nR x0).bind λ pD =>
 ag (pD != 0)
 (some (false,pD))
 (ag ((x1.length:Int) != (x0.aQ.length:Int))
 (some (false,2))
 ((Nh x1 (λ y=>IS y)).bind λ jZ =>
 ag jZ
 (some (false,1))
 ((Ni x1).bind λ qD =>
 (nq (fB (λ (UO:br) (_:Unit)=>((ag (IA UO qD == true)
 (some (.inr ()))
 (some (.inl ()))):Option (Unit ⊕ Unit)))) (⟨x0.Rest,x0.Rows,x0.aQ,x0.aH,x0.aN,x0.aY⟩:au) (.inl ())).bind (Sum.elim (λ (_:Unit) =>
 some (false,0))
  (λ (_:Unit) =>
 some (true,0))))))
noncomputable def Na(x0:au)(x1:(List Int)):Option (Bool × Int) :=
 (wc x0).bind λ oT =>
 ag (oT != 0)
 (some (false,oT))
 (ag ((x1.length:Int) != (x0.aQ.length:Int))
 (some (false,2))
 ((bN (O:=(Unit ⊕ (Bool × Int))) (λ (D5:Int) =>
 ag (decide (D5 < (x1.length:Int)))
 ((idx x1 D5).bind λ gz =>
 (iA gz 1 30).bind λ nY =>
 ag (!nY)
 (some (.inr (.inr (false,1))))
 (some (.inl (i64 (D5+1)))))
 (some (.inr (.inl ())))) 0).bind (Sum.elim (λ (_:Unit) =>
 (bN (O:=(Unit ⊕ (Bool × Int))) (λ (yN:Int) =>
 ag (decide (yN < (x1.length:Int)))
 ((idx x1 yN).bind λ je =>
 (idx x0.aQ yN).bind λ zo =>
 (idx x0.aQ yN).bind λ rH =>
 (iA je zo.cH rH.dm).bind λ UD =>
 ag (!UD)
 (some (.inr (.inr (false,0))))
 (some (.inl (i64 (yN+1)))))
 (some (.inr (.inl ())))) 0).bind (Sum.elim (λ (_:Unit) =>
 (M5 x0 x1).bind λ Is =>
 some (Is,0))
  (λ q=>some q)))
  (λ q=>some q))))
noncomputable def Nb(x0:au)(x1:Int)(x2:Int):Option (Bool × Int) :=
 (wc x0).bind λ fF =>
 ag (fF != 0)
 (some (false,fF))
 (((((IC x0 x1).bind λ gy =>
 ag (!gy)
 (some true)
 ((IC x0 x2).bind λ kS =>
 some (!kS))):Option Bool)).bind (λ (jG:Bool) =>
 ag jG
 (some (false,6))
 ((M6 x0 x1 x2).bind λ u6 =>
 some (u6,0))))
noncomputable def m18(x0:au)(x1:Int)(x2:(List Int))(x3:Int)(x4:Int):Option Bool :=
 ((((Dm x0).bind λ B4 =>
 ag B4
 (some true)
 (some (decide ((x2.length:Int) > 20)))):Option Bool)).bind (λ (DY:Bool) =>
 ag DY
 ((oC).bind λ vg =>
 some vg)
 ((xk x0 x1).bind λ Vz =>
 (M8 x0 x1).bind λ qD =>
 (M9 x0 x2).bind λ Nn =>
 (Na x0 x2).bind λ VA =>
 (ze x0 x3 x4).bind λ mA =>
 (Nb x0 x3 x4).bind λ EH =>
 (nR x0).bind λ qE =>
 (wc x0).bind λ I1 =>
 ag (qE == I1)
 (ag (Vz.1 == qD.1)
 (ag (Nn.1 == VA.1)
 (ag (mA.1 == EH.1)
 (ag (Vz.2 == qD.2)
 (ag (Nn.2 == VA.2)
 (ag (mA.2 == EH.2)
 ((oC).bind λ xv =>
 some xv)
 (some false))
 (some false))
 (some false))
 (some false))
 (some false))
 (some false))
 (some false)))
def vh{B:Base}{main:Bool}(ab:Jd prog B main):Prop:=∀ {R:av} {H:ai} (x0:b9) {aA aE aD aC aG kB:Value},ae bE 2 R aA x0.book.Rows→ae bH 2 R aE x0.book.aQ→ae bD 2 R aD x0.book.aH→ae bI 4 R aC x0.book.aN→ae bu 3 R aG x0.book.aY→ae fi 3 R kB x0.eS→∀ {r:List Bool},uI x0=some r →
 ax ab 123 #[.agg #[iv x0.book.Rest,aA,aE,aD,aC,aG,kB]] R H λ v R' H'=>aT R R'∧H=H'∧r.length=16∧v = .agg (List.toArray ([]++(r.map Value.bool++[])))
theorem qd{B:Base}{main:Bool}{ab:Jd prog B main}{R:av}{H:ai}(x0:b9)(hK:vh ab){aA aE aD aC aG kB:Value}(aR:ae bE 2 R aA x0.book.Rows)(aO:ae bH 2 R aE x0.book.aQ)(aK:ae bD 2 R aD x0.book.aH)(aJ:ae bI 4 R aC x0.book.aN)(aS:ae bu 3 R aG x0.book.aY)(jj:ae fi 3 R kB x0.eS){r:List Bool}(hM:uI x0=some r) :
 ax ab 123 #[.agg #[iv x0.book.Rest,aA,aE,aD,aC,aG,kB]] R H λ v R' H'=>aT R R'∧H=H'∧r.length=16∧v = .agg (List.toArray ([]++(r.map Value.bool++[]))):=hK x0 aR aO aK aJ aS jj hM
end Go.Proofs.YtihapemckcdicaaGreatDoor
