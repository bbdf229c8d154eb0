/- What the functions compute. Conditions: none. -/
import Derived.Test.YtihapemckcdicaaGreatDoorQXStF
import Derived.Test.YtihapemckcdicaaGreatDoorQXStP
namespace Go.Proofs.YtihapemckcdicaaGreatDoor
open Go.Lg Go.Proofs Tryz
noncomputable section
set_option maxRecDepth 100000
def lj(x0:Int)(x1:Int)(x2:Int):Option Bool :=
 af (decide (x1≤x0))
 (some (decide (x0≤x2)))
 (some false)
def MO(x0:ByteArray):Option Bool:=some (qD x0)
def vQ(x0:cD)(x1:(bz→Option Bool)):Option Int :=
 (bH (O:=Int) (λ (nO:(Int × Int)) =>
 af (decide (nO.2 < (x0.fH.length:Int)))
 ((idx x0.fH nO.2).bind λ nQ =>
 (x1 nQ).bind λ Jz =>
 af Jz
 (some (.inl (i64 (nO.1+1),i64 (nO.2+1))))
 (some (.inl (nO.1,i64 (nO.2+1)))))
 (some (.inr nO.1))) (0,0)).bind (λ (IP:Int) =>
 some IP)
def yb(x0:aj)(x1:Int):Option Int :=
 (bH (O:=(Unit ⊕ Int)) (λ (pV:Int) =>
 af (decide (pV < (x0.Rows.length:Int)))
 ((idx x0.Rows pV).bind λ uS =>
 af (decide (x1≤uS.fA))
 (some (.inr (.inr uS.fT)))
 (some (.inl (i64 (pV+1)))))
 (some (.inr (.inl ())))) 0).bind (Sum.elim (λ (_:Unit) =>
 some 0)
  (λ q=>some q))
def zG(x0:aj)(x1:bz)(x2:Int)(x3:Int):Option Bool :=
 (idx x0.ay x3).bind λ eW =>
 (idx x1.deep eW.Place).bind λ jy =>
 (idx x0.ax x2).bind λ cy =>
 af (decide (jy≤cy.nv))
 ((yb x0 jy).bind λ ja =>
 some (decide (eW.gW≤ja)))
 (some false)
def zO(x0:bz)(x1:cD)(x2:Int)(x3:Int):Option Bool :=
 (zG x1.book x0 x2 x3).bind λ eG =>
 some eG
def rG(x0:cD)(i k:Nat):Option Bool:=(vQ x0 (λ y=>zO y x0 (k:Int) (i:Int))).bind λ n=>some (n == (x0.fH.length:Int))
def um(x0:cD):Option (List Bool) :=
 if (0 < x0.book.ay.length∧x0.book.ay.length≤4)∧(0 < x0.book.ax.length∧x0.book.ax.length≤4) then
  (((List.range 16).mapM λ (p:Nat)=>if p / 4 < x0.book.ay.length∧p % 4 < x0.book.ax.length then rG x0 (p / 4) (p % 4) else some false):Option (List Bool))
 else none
def MJ(x0:aj):Option Bool :=
 (((af (decide ((x0.Rows.length:Int) > 20))
 (some true)
 (af (decide ((x0.aK.length:Int) > 20))
 (some true)
 (af (decide ((x0.ax.length:Int) > 20))
 (some true)
 (af (decide ((x0.ay.length:Int) > 20))
 (some true)
 (some (decide ((x0.bg.length:Int) > 20))))))):Option Bool)).bind (λ (uE:Bool) =>
 af uE
 (some true)
 ((bH (O:=(Unit ⊕ Bool)) (λ (tp:Int) =>
 af (decide (tp < (x0.ax.length:Int)))
 ((idx x0.ax tp).bind λ np =>
 af (decide ((np.Name.size:Int) > 100))
 (some (.inr (.inr true)))
 (some (.inl (i64 (tp+1)))))
 (some (.inr (.inl ())))) 0).bind (Sum.elim (λ (_:Unit) =>
 some false)
  (λ q=>some q))))
def Ih(x0:aj):Option Int :=
 (lj x0.Rest 0 60).bind λ kr =>
 af (!kr)
 (some 1)
 (some 0)
def Fj(x0:aj):Option Int :=
 (lj (x0.Rows.length:Int) 1 4).bind λ Dm =>
 af (!Dm)
 (some 2)
 ((bH (O:=(Unit ⊕ Int)) (λ (uJ:Int) =>
 af (decide (uJ < (x0.Rows.length:Int)))
 ((idx x0.Rows uJ).bind λ pf =>
 (lj pf.fA 1 30).bind λ wR =>
 (((af (!wR)
 (some (!wR))
 ((lj pf.fT 1 60).bind λ alo =>
 some (!alo))):Option Bool)).bind (λ (R9:Bool) =>
 af R9
 (some (.inr (.inr 1)))
 (af (decide (uJ > 0))
 ((idx x0.Rows (i64 (uJ - 1))).bind λ AI =>
 af (decide (pf.fA≤AI.fA))
 (some (.inr (.inr 7)))
 ((idx x0.Rows (i64 (uJ - 1))).bind λ AJ =>
 af (decide (pf.fT > AJ.fT))
 (some (.inr (.inr 7)))
 (some (.inl (i64 (uJ+1))))))
 (some (.inl (i64 (uJ+1)))))))
 (some (.inr (.inl ())))) 0).bind (Sum.elim (λ (_:Unit) =>
 some 0)
  (λ q=>some q)))
def MP(x0:(List Reach))(x1:(Reach→Option Bool)):Option Int :=
 (bH (O:=(Unit ⊕ Int)) (λ (dI:Int) =>
 af (decide (dI < (x0.length:Int)))
 ((idx x0 dI).bind λ iF =>
 (x1 iF).bind λ gL =>
 af gL
 (some (.inr (.inr dI)))
 (some (.inl (i64 (dI+1)))))
 (some (.inr (.inl ())))) 0).bind (Sum.elim (λ (_:Unit) =>
 some (-1))
  (λ q=>some q))
def Ii(x0:(List Reach))(x1:(Reach→Option Bool)):Option Bool :=
 (MP x0 x1).bind λ di =>
 some (decide (di ≥ 0))
def Fu(x0:Reach)(x1:Int)(x2:Int)(x3:Int):Option Bool :=
 af (decide (x1≤x0.c6))
 (af (decide (x0.c6≤x0.eA))
 (af (decide (x0.eA≤x2))
 (some (decide (i64 (x0.eA - x0.c6) < x3)))
 (some false))
 (some false))
 (some false)
def Ft(x0:Reach):Option Bool :=
 (Fu x0 1 30 3).bind λ eG =>
 some (!eG)
def Fl(x0:aj):Option Int :=
 (lj (x0.aK.length:Int) 1 3).bind λ qV =>
 af (!qV)
 (some 2)
 ((Ii x0.aK (λ y=>Ft y)).bind λ jy =>
 af jy
 (some 1)
 (some 0))
def MQ(x0:(List fG))(x1:(fG→Option Bool)):Option Int :=
 (bH (O:=(Unit ⊕ Int)) (λ (dI:Int) =>
 af (decide (dI < (x0.length:Int)))
 ((idx x0 dI).bind λ iF =>
 (x1 iF).bind λ gL =>
 af gL
 (some (.inr (.inr dI)))
 (some (.inl (i64 (dI+1)))))
 (some (.inr (.inl ())))) 0).bind (Sum.elim (λ (_:Unit) =>
 some (-1))
  (λ q=>some q))
def Ij(x0:(List fG))(x1:(fG→Option Bool)):Option Bool :=
 (MQ x0 x1).bind λ di =>
 some (decide (di ≥ 0))
def Fv(x0:fG)(x1:fG):Option Bool :=
 some (x0.Name.toList == x1.Name.toList)
def Fo(x0:aj):Option Int :=
 (lj (x0.ax.length:Int) 1 4).bind λ x63 =>
 af (!x63)
 (some 2)
 ((bH (O:=(Unit ⊕ Int)) (λ (F3:Int) =>
 af (decide (F3 < (x0.ax.length:Int)))
 ((idx x0.ax F3).bind λ p8 =>
 (MO p8.Name).bind λ j7 =>
 af (!j7)
 (some (.inr (.inr 4)))
 ((lH x0.ax 0 F3).bind λ AS =>
 (Ij AS (λ y=>Fv y p8)).bind λ Gh =>
 af Gh
 (some (.inr (.inr 5)))
 ((lj p8.nv 1 30).bind λ pe =>
 af (!pe)
 (some (.inr (.inr 1)))
 (some (.inl (i64 (F3+1)))))))
 (some (.inr (.inl ())))) 0).bind (Sum.elim (λ (_:Unit) =>
 some 0)
  (λ q=>some q)))
def qE(x0:Int)(x1:Int):Option Int :=
 (lj x0 0 (i64 (x1 - 1))).bind λ pg =>
 af (!pg)
 (some 6)
 (some 0)
def Fp(x0:aj):Option Int :=
 (lj (x0.ay.length:Int) 1 4).bind λ pj =>
 af (!pj)
 (some 2)
 ((bH (O:=(Unit ⊕ Int)) (λ (IX:Int) =>
 af (decide (IX < (x0.ay.length:Int)))
 ((idx x0.ay IX).bind λ ox =>
 (qE ox.Place (x0.aK.length:Int)).bind λ acu =>
 af (acu != 0)
 (some (.inr (.inr acu)))
 ((lj ox.jC 0 200).bind λ Dd =>
 af (!Dd)
 (some (.inr (.inr 1)))
 ((lj ox.gW 1 60).bind λ De =>
 af (!De)
 (some (.inr (.inr 1)))
 ((lj ox.ax 1 3).bind λ pf =>
 af (!pf)
 (some (.inr (.inr 1)))
 (some (.inl (i64 (IX+1))))))))
 (some (.inr (.inl ())))) 0).bind (Sum.elim (λ (_:Unit) =>
 some 0)
  (λ q=>some q)))
def Fs(x0:aj):Option Int :=
 af (decide ((x0.bg.length:Int) > 3))
 (some 2)
 ((bH (O:=(Unit ⊕ Int)) (λ (tp:Int) =>
 af (decide (tp < (x0.bg.length:Int)))
 ((idx x0.bg tp).bind λ NP =>
 (qE NP.Place (x0.aK.length:Int)).bind λ x90 =>
 af (x90 != 0)
 (some (.inr (.inr x90)))
 ((lj NP.iQ 0 30).bind λ Dn =>
 af (!Dn)
 (some (.inr (.inr 1)))
 (some (.inl (i64 (tp+1))))))
 (some (.inr (.inl ())))) 0).bind (Sum.elim (λ (_:Unit) =>
 some 0)
  (λ q=>some q)))
def qG(x0:aj):Option Int :=
 (Ih (⟨x0.Rest,x0.Rows,x0.aK,x0.ax,x0.ay,x0.bg⟩:aj)).bind λ ig =>
 af (ig != 0)
 (some ig)
 ((Fj (⟨x0.Rest,x0.Rows,x0.aK,x0.ax,x0.ay,x0.bg⟩:aj)).bind λ iE =>
 af (iE != 0)
 (some iE)
 ((Fl (⟨x0.Rest,x0.Rows,x0.aK,x0.ax,x0.ay,x0.bg⟩:aj)).bind λ wU =>
 af (wU != 0)
 (some wU)
 ((Fo (⟨x0.Rest,x0.Rows,x0.aK,x0.ax,x0.ay,x0.bg⟩:aj)).bind λ mx =>
 af (mx != 0)
 (some mx)
 ((Fp (⟨x0.Rest,x0.Rows,x0.aK,x0.ax,x0.ay,x0.bg⟩:aj)).bind λ qY =>
 af (qY != 0)
 (some qY)
 ((Fs (⟨x0.Rest,x0.Rows,x0.aK,x0.ax,x0.ay,x0.bg⟩:aj)).bind λ gL =>
 af (gL != 0)
 (some gL)
 (some 0))))))
def Ia (x1:(bz→((List bz) ⊕ Empty)→Option (((List bz) ⊕ Empty) × Bool))→((List bz) ⊕ Empty)→Option ((List bz) ⊕ Empty)):Option (List bz) :=
 (x1 (ic (λ (tI:bz) (kV:(List bz))=>(((ij kV [tI]).bind λ gC =>
 some (.inl gC)):Option ((List bz) ⊕ Empty)))) (.inl [])).bind (Sum.elim (λ (kV:(List bz)) =>
 some kV)
  (λ (o:Empty)=>o.elim))
def zT (x0:(bz→((List bz) ⊕ Empty)→Option (((List bz) ⊕ Empty) × Bool))→((List bz) ⊕ Empty)→Option ((List bz) ⊕ Empty)):Option (List bz) :=
 (Ia x0).bind λ di =>
 some di
def ML(x0:(List dp))(x1:(dp→Option Bool)):Option Int :=
 (bH (O:=(Unit ⊕ Int)) (λ (dI:Int) =>
 af (decide (dI < (x0.length:Int)))
 ((idx x0 dI).bind λ iF =>
 (x1 iF).bind λ gL =>
 af gL
 (some (.inr (.inr dI)))
 (some (.inl (i64 (dI+1)))))
 (some (.inr (.inl ())))) 0).bind (Sum.elim (λ (_:Unit) =>
 some (-1))
  (λ q=>some q))
def Ie(x0:(List dp))(x1:(dp→Option Bool)):Option Bool :=
 (ML x0 x1).bind λ di =>
 some (decide (di ≥ 0))
def Ff(x0:dp)(x1:bz):Option Bool :=
 (idx x1.deep x0.Place).bind λ eG =>
 some (!((decide (eG≤x0.iQ)) == x0.mO))
def Ck(x0:aj)(x1:bz):Option Bool :=
 (Ie x0.bg (λ y=>Ff y x1)).bind λ jx =>
 some (!jx)
def sY{S:Type}(ys:bz→S→Option (S × Bool)):Nat→Int→aj→bz→S→Option (S × (bz × Bool))
 | 0,_,_,_,_=>none
 | k+1,x0,x1,x2,s0 =>
  af (x0 == (x1.aK.length:Int))
  (((((Ck x1 x2).bind λ eW =>
  af (!eW)
  (some (s0,true))
  ((ys x2 s0).bind λ jy =>
  some (jy.1,jy.2))):Option (S × Bool))).bind (λ (z9:(S × Bool)) =>
  some (z9.1,(x2,z9.2))))
  ((idx x1.aK x0).bind λ cy =>
  (bH (O:=((S × (List Int)) ⊕ (S × (bz × Bool)))) (λ (bP:(S × Int × (List Int))) =>
  (idx x1.aK x0).bind λ fR =>
  af (decide (bP.2.1≤fR.eA))
  ((idx bP.2.2 x0).bind λ _ =>
  (sY ys k (i64 (x0+1)) x1 (⟨bP.2.2.set x0.toNat bP.2.1⟩:bz) bP.1).bind λ jd =>
  af (!jd.2.2)
  (some (.inr (.inr (jd.1,(jd.2.1,false)))))
  (some (.inl (jd.1,i64 (bP.2.1+1),jd.2.1.deep))))
  (some (.inr (.inl (bP.1,bP.2.2))))) (s0,cy.c6,x2.deep)).bind (Sum.elim (λ (oY:(S × (List Int))) =>
  some (oY.1,((⟨oY.2⟩:bz),true)))
   (λ q=>some q)))
def qH{S:Type}(ys:bz→S→Option (S × Bool))(x0:aj)(s0:S):Option S :=
 (sY ys 9 0 x0 (⟨[0,0,0]⟩:bz) s0).bind λ mL =>
  some mL.1
def ye(x0:aj):Option (Int × Int) :=
 (qG x0).bind λ mL =>
 af (mL != 0)
 (some (0,mL))
 ((zT (λ y s=>qH y (⟨x0.Rest,x0.Rows,x0.aK,x0.ax,x0.ay,x0.bg⟩:aj) s)).bind λ iM =>
 some ((iM.length:Int),0))
def pP(x0:aj)(x1:(aj→Option Int)):Option (cD × Int) :=
 (qG x0).bind λ ja =>
 af (ja != 0)
 (some ((⟨⟨0,[],[],[],[],[]⟩,[]⟩:cD),ja))
 ((x1 x0).bind λ gu =>
 af (gu != 0)
 (some ((⟨⟨0,[],[],[],[],[]⟩,[]⟩:cD),gu))
 ((zT (λ y s=>qH y x0 s)).bind λ iE =>
 af ((iE.length:Int) == 0)
 (some ((⟨⟨0,[],[],[],[],[]⟩,[]⟩:cD),9))
 (some ((⟨⟨x0.Rest,x0.Rows,x0.aK,x0.ax,x0.ay,x0.bg⟩,iE⟩:cD),0))))
def rI(x0:aj)(x1:Int):Option Int :=
 (qE x1 (x0.aK.length:Int)).bind λ eG =>
 some eG
def FB(x0:Int):Option Int :=
 some x0
def zR(x0:Int):Option Bool :=
 some (x0 != x0)
def hZ(x0:Int)(x1:Int):Option Bool :=
 (zR x0).bind λ kr =>
 af kr
 ((zR x1).bind λ rU =>
 af (!rU)
 (some true)
 (some (decide (x0 < x1))))
 (some (decide (x0 < x1)))
def Cp(x0:(List Int))(x1:Int)(x2:Int):Option (List Int) :=
 (bH (O:=(List Int)) (λ (uI:((List Int) × Int)) =>
 af (decide (uI.2 < x2))
 ((bH (O:=(List Int)) (λ (fp:((List Int) × Int)) =>
 (((af (decide (fp.2 > x1))
 ((idx fp.1 fp.2).bind λ NK =>
 (idx fp.1 (i64 (fp.2 - 1))).bind λ NL =>
 (hZ NK NL).bind λ TB =>
 some TB)
 (some false)):Option Bool)).bind (λ (IL:Bool) =>
 af IL
 ((idx fp.1 (i64 (fp.2 - 1))).bind λ wT =>
 (idx fp.1 fp.2).bind λ Dj =>
 (idx fp.1 fp.2).bind λ _ =>
 (idx (fp.1.set fp.2.toNat wT) (i64 (fp.2 - 1))).bind λ _ =>
 some (.inl ((fp.1.set fp.2.toNat wT).set (i64 (fp.2 - 1)).toNat Dj,i64 (fp.2 - 1))))
 (some (.inr fp.1)))) (uI.1,uI.2)).bind (λ (Sg:(List Int)) =>
 some (.inl (Sg,i64 (uI.2+1)))))
 (some (.inr uI.1))) (x0,i64 (x1+1))).bind (λ (Sf:(List Int)) =>
 some Sf)
def Cv(x0:(List Int))(x1:Int)(x2:Int)(x3:Int):Option (List Int) :=
 (bH (O:=((List Int) ⊕ (List Int))) (λ (dq:((List Int) × Int)) =>
 af (decide (i64 ((i64 (2 * dq.2))+1) ≥ x2))
 (some (.inr (.inl dq.1)))
 ((((af (decide (i64 ((i64 ((i64 (2 * dq.2))+1))+1) < x2))
 ((idx dq.1 (i64 (x3+(i64 ((i64 (2 * dq.2))+1))))).bind λ Ji =>
 (idx dq.1 (i64 ((i64 (x3+(i64 ((i64 (2 * dq.2))+1))))+1))).bind λ NF =>
 (hZ Ji NF).bind λ Df =>
 some Df)
 (some false)):Option Bool)).bind (λ (Sd:Bool) =>
 (((af Sd
 (some (i64 ((i64 ((i64 (2 * dq.2))+1))+1)))
 (some (i64 ((i64 (2 * dq.2))+1)))):Option Int)).bind (λ (z7:Int) =>
 (idx dq.1 (i64 (x3+dq.2))).bind λ nk =>
 (idx dq.1 (i64 (x3+z7))).bind λ Jj =>
 (hZ nk Jj).bind λ acz =>
 af (!acz)
 (some (.inr (.inr dq.1)))
 ((idx dq.1 (i64 (x3+z7))).bind λ Dg =>
 (idx dq.1 (i64 (x3+dq.2))).bind λ Tq =>
 (idx dq.1 (i64 (x3+dq.2))).bind λ _ =>
 (idx (dq.1.set (i64 (x3+dq.2)).toNat Dg) (i64 (x3+z7))).bind λ _ =>
 some (.inl ((dq.1.set (i64 (x3+dq.2)).toNat Dg).set (i64 (x3+z7)).toNat Tq,z7))))))) (x0,x1)).bind (Sum.elim (λ (oq:(List Int)) =>
 some oq)
  (λ q=>some q))
def Cq(x0:(List Int))(x1:Int)(x2:Int):Option (List Int) :=
 (oZ (i64 ((i64 (x2 - x1)) - 1)) 2).bind λ NO =>
 (bH (O:=(List Int)) (λ (wC:((List Int) × Int)) =>
 af (decide (wC.2 ≥ 0))
 ((Cv wC.1 wC.2 (i64 (x2 - x1)) x1).bind λ Dm =>
 some (.inl (Dm,i64 (wC.2 - 1))))
 (some (.inr wC.1))) (x0,NO)).bind (λ (Sk:(List Int)) =>
 (bH (O:=(List Int)) (λ (nc:((List Int) × Int)) =>
 af (decide (nc.2 ≥ 0))
 ((idx nc.1 (i64 (x1+nc.2))).bind λ tD =>
 (idx nc.1 x1).bind λ NB =>
 (idx nc.1 x1).bind λ _ =>
 (idx (nc.1.set x1.toNat tD) (i64 (x1+nc.2))).bind λ _ =>
 (Cv ((nc.1.set x1.toNat tD).set (i64 (x1+nc.2)).toNat NB) 0 nc.2 x1).bind λ kq =>
 some (.inl (kq,i64 (nc.2 - 1))))
 (some (.inr nc.1))) (Sk,i64 ((i64 (x2 - x1)) - 1))).bind (λ (Sn:(List Int)) =>
 some Sn))
def MN(x0:Int):Option Int :=
 (((af (decide (x0 ≥ 4294967296))
 ((lT .u64 x0 32).bind λ gu =>
 some (gu,32))
 (some (x0,0))):Option (Int × Int))).bind (λ (uC:(Int × Int)) =>
 (((af (decide (uC.1 ≥ 65536))
 ((lT .u64 uC.1 16).bind λ j6 =>
 some (j6,i64 (uC.2+16)))
 (some (uC.1,uC.2))):Option (Int × Int))).bind (λ (uD:(Int × Int)) =>
 (((af (decide (uD.1 ≥ 256))
 ((lT .u64 uD.1 8).bind λ mx =>
 some (mx,i64 (uD.2+8)))
 (some (uD.1,uD.2))):Option (Int × Int))).bind (λ (wo:(Int × Int)) =>
 (wG (⟨#[0,1,2,2,3,3,3,3,4,4,4,4,4,4,4,4,5,5,5,5,5,5,5,5,5,5,5,5,5,5,5,5,6,6,6,6,6,6,6,6,6,6,6,6,6,6,6,6,6,6,6,6,6,6,6,6,6,6,6,6,6,6,6,6,7,7,7,7,7,7,7,7,7,7,7,7,7,7,7,7,7,7,7,7,7,7,7,7,7,7,7,7,7,7,7,7,7,7,7,7,7,7,7,7,7,7,7,7,7,7,7,7,7,7,7,7,7,7,7,7,7,7,7,7,7,7,7,7,8,8,8,8,8,8,8,8,8,8,8,8,8,8,8,8,8,8,8,8,8,8,8,8,8,8,8,8,8,8,8,8,8,8,8,8,8,8,8,8,8,8,8,8,8,8,8,8,8,8,8,8,8,8,8,8,8,8,8,8,8,8,8,8,8,8,8,8,8,8,8,8,8,8,8,8,8,8,8,8,8,8,8,8,8,8,8,8,8,8,8,8,8,8,8,8,8,8,8,8,8,8,8,8,8,8,8,8,8,8,8,8,8,8,8,8,8,8,8,8,8,8,8,8,8,8,8,8]⟩) (IntKind.wrap .u8 wo.1)).bind λ GG =>
 some (i64 (wo.2+(i64 GG))))))
def Co(x0:Int):Option Int :=
 (MN x0).bind λ di =>
 some di
def Fh(x0:Int):Option Int :=
 (Co (IntKind.wrap .u64 x0)).bind λ pg =>
 (wF .u64 1 pg).bind λ eG =>
 some eG
def Fi(x0:Int):Option (Int × Int) :=
 (wF .u64 x0 13).bind λ rU =>
 (fP .xor .u64 x0 rU).bind λ mL =>
 (lT .u64 mL 7).bind λ qV =>
 (fP .xor .u64 mL qV).bind λ lx =>
 (wF .u64 lx 17).bind λ eW =>
 (fP .xor .u64 lx eW).bind λ iM =>
 some (iM,iM)
def zP(x0:(List Int))(x1:Int)(x2:Int):Option (List Int) :=
 af (decide (i64 (x2 - x1) ≥ 8))
 ((Fh (i64 (x2 - x1))).bind λ pj =>
 (oZ (i64 (x2 - x1)) 4).bind λ AQ =>
 (bH (O:=(List Int)) (λ (mJ:((List Int) × Int × Int)) =>
 (oZ (i64 (x2 - x1)) 4).bind λ Jc =>
 af (decide (mJ.2.1≤i64 ((i64 (x1+(i64 (Jc * 2))))+1)))
 ((Fi mJ.2.2).bind λ kq =>
 (fP .and .u64 kq.2 (IntKind.wrap .u64 (pj - 1))).bind λ ox =>
 (((af (decide (i64 ox ≥ i64 (x2 - x1)))
 (some (i64 ((i64 ox) - (i64 (x2 - x1)))))
 (some (i64 ox))):Option Int)).bind (λ (FM:Int) =>
 (idx mJ.1 (i64 (x1+FM))).bind λ NC =>
 (idx mJ.1 mJ.2.1).bind λ Jf =>
 (idx mJ.1 mJ.2.1).bind λ _ =>
 (idx (mJ.1.set mJ.2.1.toNat NC) (i64 (x1+FM))).bind λ _ =>
 some (.inl ((mJ.1.set mJ.2.1.toNat NC).set (i64 (x1+FM)).toNat Jf,i64 (mJ.2.1+1),kq.1))))
 (some (.inr mJ.1))) (x0,i64 ((i64 (x1+(i64 (AQ * 2)))) - 1),IntKind.wrap .u64 (i64 (x2 - x1)))).bind (λ (Sm:(List Int)) =>
 some Sm))
 (some x0)
def uq(x0:(List Int))(x1:Int)(x2:Int)(x3:Int):Option (Int × Int × Int) :=
 (idx x0 x2).bind λ kr =>
 (idx x0 x1).bind λ jx =>
 (hZ kr jx).bind λ rU =>
 af rU
 (some (i64 (x3+1),x2,x1))
 (some (x3,x1,x2))
def vU(x0:(List Int))(x1:Int)(x2:Int)(x3:Int)(x4:Int):Option (Int × Int) :=
 (uq x0 x1 x2 x4).bind λ eG =>
 (uq x0 eG.2.2 x3 eG.1).bind λ kr =>
 (uq x0 eG.2.1 kr.2.1 kr.1).bind λ jx =>
 some (jx.1,jx.2.2)
def uo(x0:(List Int))(x1:Int)(x2:Int):Option (Int × Int) :=
 (vU x0 (i64 (x1 - 1)) x1 (i64 (x1+1)) x2).bind λ di =>
 some (di.1,di.2)
def Cr(x0:(List Int))(x1:Int)(x2:Int):Option (Int × Int) :=
 (oZ (i64 (x2 - x1)) 4).bind λ NN =>
 (oZ (i64 (x2 - x1)) 4).bind λ gC =>
 (oZ (i64 (x2 - x1)) 4).bind λ iE =>
 (((af (decide (i64 (x2 - x1) ≥ 8))
 (af (decide (i64 (x2 - x1) ≥ 50))
 ((uo x0 (i64 (x1+(i64 (NN * 1)))) 0).bind λ iF =>
 (uo x0 (i64 (x1+(i64 (gC * 2)))) iF.1).bind λ gL =>
 (uo x0 (i64 (x1+(i64 (iE * 3)))) gL.1).bind λ uS =>
 (vU x0 iF.2 gL.2 uS.2 uS.1).bind λ Jx =>
 some (Jx.2,Jx.1))
 ((vU x0 (i64 (x1+(i64 (NN * 1)))) (i64 (x1+(i64 (gC * 2)))) (i64 (x1+(i64 (iE * 3)))) 0).bind λ Jy =>
 some (Jy.2,Jy.1)))
 (some (i64 (x1+(i64 (gC * 2))),0))):Option (Int × Int))).bind (λ (Ac:(Int × Int)) =>
 af (Ac.2 == 0)
 (some (Ac.1,1))
 (af (Ac.2 == 12)
 (some (Ac.1,2))
 (some (Ac.1,0))))
def zQ(x0:(List Int))(x1:Int)(x2:Int):Option (List Int) :=
 (bH (O:=(List Int)) (λ (gq:((List Int) × Int × Int)) =>
 af (decide (gq.2.1 < gq.2.2))
 ((idx gq.1 gq.2.2).bind λ my =>
 (idx gq.1 gq.2.1).bind λ Dl =>
 (idx gq.1 gq.2.1).bind λ _ =>
 (idx (gq.1.set gq.2.1.toNat my) gq.2.2).bind λ _ =>
 some (.inl ((gq.1.set gq.2.1.toNat my).set gq.2.2.toNat Dl,i64 (gq.2.1+1),i64 (gq.2.2 - 1))))
 (some (.inr gq.1))) (x0,x1,i64 (x2 - 1))).bind (λ (CG:(List Int)) =>
 some CG)
def yd(x0:(List Int))(x1:Int)(x2:Int):Option ((List Int) × Bool) :=
 (bH (O:=((List Int) ⊕ ((List Int) × Bool))) (λ (j3:((List Int) × Int × Int)) =>
 af (decide (j3.2.2 < 5))
 ((bH (O:=Int) (λ (lR:Int) =>
 af (decide (lR < x2))
 ((idx j3.1 lR).bind λ GH =>
 (idx j3.1 (i64 (lR - 1))).bind λ GI =>
 (hZ GH GI).bind λ JC =>
 af (!JC)
 (some (.inl (i64 (lR+1))))
 (some (.inr lR)))
 (some (.inr lR))) j3.2.1).bind (λ (kj:Int) =>
 af (kj == x2)
 (some (.inr (.inr (j3.1,true))))
 (af (decide (i64 (x2 - x1) < 50))
 (some (.inr (.inr (j3.1,false))))
 ((idx j3.1 (i64 (kj - 1))).bind λ NQ =>
 (idx j3.1 kj).bind λ TK =>
 (idx j3.1 kj).bind λ _ =>
 (idx (j3.1.set kj.toNat NQ) (i64 (kj - 1))).bind λ _ =>
 (((af (decide (i64 (kj - x1) ≥ 2))
 ((bH (O:=(List Int)) (λ (fi:((List Int) × Int)) =>
 af (decide (fi.2 ≥ 1))
 ((idx fi.1 fi.2).bind λ Nx =>
 (idx fi.1 (i64 (fi.2 - 1))).bind λ Ny =>
 (hZ Nx Ny).bind λ Ti =>
 af (!Ti)
 (some (.inr fi.1))
 ((idx fi.1 (i64 (fi.2 - 1))).bind λ Gi =>
 (idx fi.1 fi.2).bind λ Nz =>
 (idx fi.1 fi.2).bind λ _ =>
 (idx (fi.1.set fi.2.toNat Gi) (i64 (fi.2 - 1))).bind λ _ =>
 some (.inl ((fi.1.set fi.2.toNat Gi).set (i64 (fi.2 - 1)).toNat Nz,i64 (fi.2 - 1)))))
 (some (.inr fi.1))) ((j3.1.set kj.toNat NQ).set (i64 (kj - 1)).toNat TK,i64 (kj - 1))).bind (λ (IQ:(List Int)) =>
 some IQ))
 (some ((j3.1.set kj.toNat NQ).set (i64 (kj - 1)).toNat TK))):Option (List Int))).bind (λ (Na:(List Int)) =>
 af (decide (i64 (x2 - kj) ≥ 2))
 ((bH (O:=(List Int)) (λ (dm:((List Int) × Int)) =>
 af (decide (dm.2 < x2))
 ((idx dm.1 dm.2).bind λ Gj =>
 (idx dm.1 (i64 (dm.2 - 1))).bind λ Gk =>
 (hZ Gj Gk).bind λ Je =>
 af (!Je)
 (some (.inr dm.1))
 ((idx dm.1 (i64 (dm.2 - 1))).bind λ yx =>
 (idx dm.1 dm.2).bind λ Gl =>
 (idx dm.1 dm.2).bind λ _ =>
 (idx (dm.1.set dm.2.toNat yx) (i64 (dm.2 - 1))).bind λ _ =>
 some (.inl ((dm.1.set dm.2.toNat yx).set (i64 (dm.2 - 1)).toNat Gl,i64 (dm.2+1)))))
 (some (.inr dm.1))) (Na,i64 (kj+1))).bind (λ (R4:(List Int)) =>
 some (.inl (R4,kj,i64 (j3.2.2+1)))))
 (some (.inl (Na,kj,i64 (j3.2.2+1)))))))))
 (some (.inr (.inl j3.1)))) (x0,i64 (x1+1),0)).bind (Sum.elim (λ (Si:(List Int)) =>
 some (Si,false))
  (λ q=>some q))
def Ct(x0:(List Int))(x1:Int)(x2:Int)(x3:Int):Option ((List Int) × Int) :=
 (idx x0 x3).bind λ ND =>
 (idx x0 x1).bind λ Jh =>
 (idx x0 x1).bind λ _ =>
 (idx (x0.set x1.toNat ND) x3).bind λ _ =>
 (bH (O:=((List Int) × Int)) (λ (m9:((List Int) × Int × Int)) =>
 (bH (O:=Int) (λ (CW:Int) =>
 af (decide (CW≤m9.2.2))
 ((idx m9.1 x1).bind λ Jp =>
 (idx m9.1 CW).bind λ acK =>
 (hZ Jp acK).bind λ NG =>
 af (!NG)
 (some (.inl (i64 (CW+1))))
 (some (.inr CW)))
 (some (.inr CW))) m9.2.1).bind (λ (rO:Int) =>
 (bH (O:=Int) (λ (CX:Int) =>
 af (decide (rO≤CX))
 ((idx m9.1 x1).bind λ Gw =>
 (idx m9.1 CX).bind λ Gx =>
 (hZ Gw Gx).bind λ alM =>
 af alM
 (some (.inl (i64 (CX - 1))))
 (some (.inr CX)))
 (some (.inr CX))) m9.2.2).bind (λ (z8:Int) =>
 af (decide (rO > z8))
 (some (.inr (m9.1,rO)))
 ((idx m9.1 z8).bind λ Tw =>
 (idx m9.1 rO).bind λ acO =>
 (idx m9.1 rO).bind λ _ =>
 (idx (m9.1.set rO.toNat Tw) z8).bind λ _ =>
 some (.inl ((m9.1.set rO.toNat Tw).set z8.toNat acO,i64 (rO+1),i64 (z8 - 1))))))) ((x0.set x1.toNat ND).set x3.toNat Jh,i64 (x1+1),i64 (x2 - 1))).bind (λ (ID:((List Int) × Int)) =>
 some (ID.1,ID.2))
def Cu(x0:(List Int))(x1:Int)(x2:Int)(x3:Int):Option ((List Int) × Int × Bool) :=
 (idx x0 x3).bind λ mK =>
 (idx x0 x1).bind λ nP =>
 (idx x0 x1).bind λ _ =>
 (idx (x0.set x1.toNat mK) x3).bind λ _ =>
 (bH (O:=Int) (λ (CU:Int) =>
 af (decide (CU≤i64 (x2 - 1)))
 ((idx ((x0.set x1.toNat mK).set x3.toNat nP) CU).bind λ acE =>
 (idx ((x0.set x1.toNat mK).set x3.toNat nP) x1).bind λ wS =>
 (hZ acE wS).bind λ acF =>
 af acF
 (some (.inl (i64 (CU+1))))
 (some (.inr CU)))
 (some (.inr CU))) (i64 (x1+1))).bind (λ (ta:Int) =>
 (bH (O:=Int) (λ (CV:Int) =>
 af (decide (ta≤CV))
 ((idx ((x0.set x1.toNat mK).set x3.toNat nP) CV).bind λ Gv =>
 (idx ((x0.set x1.toNat mK).set x3.toNat nP) x1).bind λ Jo =>
 (hZ Gv Jo).bind λ alG =>
 af (!alG)
 (some (.inl (i64 (CV - 1))))
 (some (.inr CV)))
 (some (.inr CV))) (i64 (x2 - 1))).bind (λ (qL:Int) =>
 af (decide (ta > qL))
 ((idx ((x0.set x1.toNat mK).set x3.toNat nP) x1).bind λ Tt =>
 (idx ((x0.set x1.toNat mK).set x3.toNat nP) qL).bind λ acM =>
 (idx ((x0.set x1.toNat mK).set x3.toNat nP) qL).bind λ _ =>
 (idx (((x0.set x1.toNat mK).set x3.toNat nP).set qL.toNat Tt) x1).bind λ _ =>
 some ((((x0.set x1.toNat mK).set x3.toNat nP).set qL.toNat Tt).set x1.toNat acM,qL,true))
 ((idx ((x0.set x1.toNat mK).set x3.toNat nP) qL).bind λ Tu =>
 (idx ((x0.set x1.toNat mK).set x3.toNat nP) ta).bind λ acN =>
 (idx ((x0.set x1.toNat mK).set x3.toNat nP) ta).bind λ _ =>
 (idx (((x0.set x1.toNat mK).set x3.toNat nP).set ta.toNat Tu) qL).bind λ _ =>
 (bH (O:=((List Int) × Int)) (λ (na:((List Int) × Int × Int)) =>
 (bH (O:=Int) (λ (CY:Int) =>
 af (decide (CY≤na.2.2))
 ((idx na.1 CY).bind λ acQ =>
 (idx na.1 x1).bind λ wT =>
 (hZ acQ wT).bind λ Dj =>
 af Dj
 (some (.inl (i64 (CY+1))))
 (some (.inr CY)))
 (some (.inr CY))) na.2.1).bind (λ (tc:Int) =>
 (bH (O:=Int) (λ (C0:Int) =>
 af (decide (tc≤C0))
 ((idx na.1 C0).bind λ acS =>
 (idx na.1 x1).bind λ acT =>
 (hZ acS acT).bind λ alP =>
 af (!alP)
 (some (.inl (i64 (C0 - 1))))
 (some (.inr C0)))
 (some (.inr C0))) na.2.2).bind (λ (yp:Int) =>
 af (decide (tc > yp))
 (some (.inr (na.1,yp)))
 ((idx na.1 yp).bind λ TE =>
 (idx na.1 tc).bind λ yF =>
 (idx na.1 tc).bind λ _ =>
 (idx (na.1.set tc.toNat TE) yp).bind λ _ =>
 some (.inl ((na.1.set tc.toNat TE).set yp.toNat yF,i64 (tc+1),i64 (yp - 1))))))) ((((x0.set x1.toNat mK).set x3.toNat nP).set ta.toNat Tu).set qL.toNat acN,i64 (ta+1),i64 (qL - 1))).bind (λ (qM:((List Int) × Int)) =>
 (idx qM.1 x1).bind λ TF =>
 (idx qM.1 qM.2).bind λ acU =>
 (idx qM.1 qM.2).bind λ _ =>
 (idx (qM.1.set qM.2.toNat TF) x1).bind λ _ =>
 some ((qM.1.set qM.2.toNat TF).set x1.toNat acU,qM.2,false)))))
def vT:Nat→(List Int)→Int→Int→Int→Option (List Int)
 | 0,_,_,_,_=>none
 | k+1,x0,x1,x2,x3 =>
  (bH (O:=(List Int)) (λ (br:((List Int) × Int × Int × Int × Bool × Bool)) =>
  af (decide (i64 (br.2.2.1 - br.2.1)≤12))
  ((Cp br.1 br.2.1 br.2.2.1).bind λ AN =>
  some (.inr AN))
  (af (br.2.2.2.1 == 0)
  ((Cq br.1 br.2.1 br.2.2.1).bind λ TD =>
  some (.inr TD))
  ((((af (!br.2.2.2.2.1)
  ((zP br.1 br.2.1 br.2.2.1).bind λ Js =>
  some (Js,i64 (br.2.2.2.1 - 1)))
  (some (br.1,br.2.2.2.1))):Option ((List Int) × Int))).bind (λ (iX:((List Int) × Int)) =>
  (Cr iX.1 br.2.1 br.2.2.1).bind λ yE =>
  (((af (yE.2 == 2)
  ((zQ iX.1 br.2.1 br.2.2.1).bind λ AO =>
  some (AO,i64 ((i64 (br.2.2.1 - 1)) - (i64 (yE.1 - br.2.1))),1))
  (some (iX.1,yE.1,yE.2))):Option ((List Int) × Int × Int))).bind (λ (lp:((List Int) × Int × Int)) =>
  (((af br.2.2.2.2.1
  (af br.2.2.2.2.2
  (some (lp.2.2 == 1))
  (some false))
  (some false)):Option Bool)).bind (λ (IM:Bool) =>
  (((af IM
  ((yd lp.1 br.2.1 br.2.2.1).bind λ p5 =>
  af p5.2
  (some (.inr p5.1))
  (some (.inl p5.1)))
  (some (.inl lp.1))):Option ((List Int) ⊕ (List Int)))).bind (Sum.elim (λ (rP:(List Int)) =>
  (((af (decide (br.2.1 > 0))
  ((idx rP (i64 (br.2.1 - 1))).bind λ GD =>
  (idx rP lp.2.1).bind λ GF =>
  (hZ GD GF).bind λ Ju =>
  some (!Ju))
  (some false)):Option Bool)).bind (λ (IN:Bool) =>
  af IN
  ((Ct rP br.2.1 br.2.2.1 lp.2.1).bind λ Jv =>
  some (.inl (Jv.1,Jv.2,br.2.2.1,iX.2,br.2.2.2.2.1,br.2.2.2.2.2)))
  ((Cu rP br.2.1 br.2.2.1 lp.2.1).bind λ iN =>
  (oZ (i64 (br.2.2.1 - br.2.1)) 8).bind λ Jw =>
  af (decide (i64 (iN.2.1 - br.2.1) < i64 (br.2.2.1 - iN.2.1)))
  ((vT k iN.1 br.2.1 iN.2.1 iX.2).bind λ TG =>
  some (.inl (TG,i64 (iN.2.1+1),br.2.2.1,iX.2,decide (i64 (iN.2.1 - br.2.1) ≥ Jw),iN.2.2)))
  ((vT k iN.1 (i64 (iN.2.1+1)) br.2.2.1 iX.2).bind λ TH =>
  some (.inl (TH,br.2.1,iN.2.1,iX.2,decide (i64 (br.2.2.1 - iN.2.1) ≥ Jw),iN.2.2))))))
   (λ q=>some (.inr q))))))))) (x0,x1,x2,x3,true,true)).bind (λ q=>some q)
def Cl(x0:(List Int)):Option (List Int) :=
 (Co (IntKind.wrap .u64 (x0.length:Int))).bind λ pg =>
 (vT 12 x0 0 (x0.length:Int) pg).bind λ eG =>
 some eG
def Cm(x0:(List Int)):Option (List Int) :=
 af (decide ((x0.length:Int) < 2))
 (some x0)
 ((bH (O:=(Unit ⊕ (List Int))) (λ (o7:Int) =>
 af (decide (o7 < (x0.length:Int)))
 ((idx x0 o7).bind λ Jm =>
 (idx x0 (i64 (o7 - 1))).bind λ yA =>
 af (Jm == yA)
 ((lH x0 o7 (x0.length:Int)).bind λ _ =>
 (bH (O:=((List Int) × Int)) (λ (kT:((List Int) × Int × Int)) =>
 af (decide (kT.2.2 < ((kT.1.drop o7.toNat).length:Int)))
 ((idx (kT.1.drop o7.toNat) kT.2.2).bind λ alH =>
 (idx (kT.1.drop o7.toNat) (i64 (kT.2.2 - 1))).bind λ acI =>
 af (alH != acI)
 ((idx (kT.1.drop o7.toNat) kT.2.2).bind λ acJ =>
 (idx kT.1 kT.2.1).bind λ _ =>
 some (.inl (kT.1.set kT.2.1.toNat acJ,i64 (kT.2.1+1),i64 (kT.2.2+1))))
 (some (.inl (kT.1,kT.2.1,i64 (kT.2.2+1)))))
 (some (.inr (kT.1,kT.2.1)))) (x0,o7,1)).bind (λ (yo:((List Int) × Int)) =>
 (lH yo.1 yo.2 (yo.1.length:Int)).bind λ _ =>
 (lH (r8 yo.1 yo.2.toNat) 0 yo.2).bind λ acL =>
 some (.inr (.inr acL))))
 (some (.inl (i64 (o7+1)))))
 (some (.inr (.inl ())))) 1).bind (Sum.elim (λ (_:Unit) =>
 some x0)
  (λ q=>some q)))
def Cx(x0:cD)(x1:(bz→Option Int)):Option (List Int) :=
 (bH (O:=(List Int)) (λ (qQ:((List Int) × Int)) =>
 af (decide (qQ.2 < (x0.fH.length:Int)))
 ((idx x0.fH qQ.2).bind λ my =>
 (x1 my).bind λ pj =>
 (ij qQ.1 [pj]).bind λ oy =>
 some (.inl (oy,i64 (qQ.2+1))))
 (some (.inr qQ.1))) ([],0)).bind (λ (uE:(List Int)) =>
 (Cl uE).bind λ wY =>
 (Cm wY).bind λ np =>
 some np)
def FC(x0:bz)(x1:Int):Option Int :=
 (idx x0.deep x1).bind λ eG =>
 some eG
def yf(x0:aj)(x1:Int):Option ((List Int) × Int) :=
 (FB x1).bind λ eW =>
 (pP x0 (λ y=>rI y eW)).bind λ iM =>
 af (iM.2 != 0)
 (some ([],iM.2))
 ((Cx iM.1 (λ y=>FC y x1)).bind λ ja =>
 some (ja,0))
def H6(x0:bz)(x1:cD)(x2:Int):Option Int :=
 (idx x0.deep x2).bind λ kr =>
 (yb x1.book kr).bind λ jx =>
 some jx
def Ik(x0:aj)(x1:Int):Option (Reach × Int) :=
 (FB x1).bind λ jz =>
 (pP x0 (λ y=>rI y jz)).bind λ gB =>
 af (gB.2 != 0)
 (some ((⟨0,0⟩:Reach),gB.2))
 ((Cx gB.1 (λ y=>H6 y gB.1 x1)).bind λ gC =>
 (idx gC 0).bind λ iE =>
 (idx gC (i64 ((gC.length:Int) - 1))).bind λ j6 =>
 some ((⟨iE,j6⟩:Reach),0))
def Cf(x0:aj)(x1:Int)(x2:Int):Option Int :=
 (qE x1 (x0.ax.length:Int)).bind λ kr =>
 (qE x2 (x0.ay.length:Int)).bind λ jx =>
 some (vX kr [jx])
def zF(x0:cD)(x1:Int):Option Int :=
 af (x1 == 0)
 (some 2)
 (af (x1 == (x0.fH.length:Int))
 (some 1)
 (some 0))
def E2(x0:bz)(x1:cD)(x2:Int)(x3:Int):Option Bool :=
 (zG x1.book x0 x2 x3).bind λ eG =>
 some eG
def uu(x0:aj)(x1:Int)(x2:Int):Option (Int × Int) :=
 (pP x0 (λ y=>Cf y x1 x2)).bind λ cy =>
 af (cy.2 != 0)
 (some (0,cy.2))
 ((vQ cy.1 (λ y=>E2 y cy.1 x1 x2)).bind λ fh =>
 (zF cy.1 fh).bind λ jb =>
 some (jb,0))
def zK(x0:(List Int)):Option (List Bool) :=
 (bH (O:=(List Bool)) (λ (wA:(Int × (List Bool))) =>
 af (decide (wA.1 < (x0.length:Int)))
 ((idx x0 wA.1).bind λ jd =>
 (idx wA.2 jd).bind λ _ =>
 some (.inl (i64 (wA.1+1),wA.2.set jd.toNat true)))
 (some (.inr wA.2))) (0,[false,false,false,false])).bind (λ (M8:(List Bool)) =>
 some M8)
def MA(x0:aj)(x1:(List (List Int))):Option ((List Bool) × Int) :=
 af ((x1.length:Int) != (x0.ay.length:Int))
 (some ([false,false,false,false,false,false,false,false,false,false,false,false,false,false,false,false],2))
 ((bH (O:=((List Bool) ⊕ ((List Bool) × Int))) (λ (ie:(Int × (List Bool))) =>
 af (decide (ie.1 < (x1.length:Int)))
 ((idx x1 ie.1).bind λ qX =>
 (idx x0.ay ie.1).bind λ Tx =>
 af ((qX.length:Int) != Tx.ax)
 (some (.inr (.inr ([false,false,false,false,false,false,false,false,false,false,false,false,false,false,false,false],2))))
 ((bH (O:=(Unit ⊕ ((List Bool) × Int))) (λ (qO:Int) =>
 af (decide (qO < (qX.length:Int)))
 ((idx qX qO).bind λ GC =>
 (qE GC (x0.ax.length:Int)).bind λ Jr =>
 af (Jr != 0)
 (some (.inr (.inr ([false,false,false,false,false,false,false,false,false,false,false,false,false,false,false,false],Jr))))
 ((((af (decide (qO > 0))
 ((idx qX (i64 (qO - 1))).bind λ Ty =>
 some (decide (GC≤Ty)))
 (some false)):Option Bool)).bind (λ (IK:Bool) =>
 af IK
 (some (.inr (.inr ([false,false,false,false,false,false,false,false,false,false,false,false,false,false,false,false],7))))
 (some (.inl (i64 (qO+1)))))))
 (some (.inr (.inl ())))) 0).bind (Sum.elim (λ (_:Unit) =>
 (zK qX).bind λ Tz =>
 (ib 4 ie.2 ie.1).bind λ _ =>
 some (.inl (i64 (ie.1+1),IY 4 ie.2 ie.1 Tz)))
  (λ q=>some (.inr (.inr q))))))
 (some (.inr (.inl ie.2)))) (0,[false,false,false,false,false,false,false,false,false,false,false,false,false,false,false,false])).bind (Sum.elim (λ (FO:(List Bool)) =>
 some (FO,0))
  (λ q=>some q)))
def Mz(x0:aj)(x1:(List (List Int)))(_:(List Bool)):Option ((List Bool) × Int) :=
 (MA x0 x1).bind λ eG =>
 some (eG.1,eG.2)
def Cj(x0:aj)(x1:Int)(x2:Int):Option Bool :=
 (idx x0.ay x1).bind λ lx =>
 (idx x0.ay x2).bind λ eW =>
 af (x1 != x2)
 (af (decide (eW.jC ≥ i64 ((i64 (lx.jC+lx.gW))+x0.Rest)))
 (some true)
 (some (decide (lx.jC ≥ i64 ((i64 (eW.jC+eW.gW))+x0.Rest)))))
 (some false)
def zH(x0:aj)(x1:(List Bool))(x2:Int):Option Bool :=
 (bH (O:=(Unit ⊕ Bool)) (λ (uH:Int) =>
 af (decide (uH < x2))
 ((Cj x0 uH x2).bind λ Gp =>
 af Gp
 (some (.inl (i64 (uH+1))))
 ((bH (O:=(Unit ⊕ Bool)) (λ (CR:Int) =>
 af (decide (CR < (x0.ax.length:Int)))
 ((ib 4 x1 uH).bind λ alD =>
 (idx alD CR).bind λ acG =>
 af acG
 ((ib 4 x1 x2).bind λ alE =>
 (idx alE CR).bind λ alF =>
 af alF
 (some (.inr (.inr false)))
 (some (.inl (i64 (CR+1)))))
 (some (.inl (i64 (CR+1)))))
 (some (.inr (.inl ())))) 0).bind (Sum.elim (λ (_:Unit) =>
 some (.inl (i64 (uH+1))))
  (λ q=>some (.inr (.inr q))))))
 (some (.inr (.inl ())))) 0).bind (Sum.elim (λ (_:Unit) =>
 some true)
  (λ q=>some q))
def E3(x0:bz)(x1:aj)(x2:(List Bool))(x3:cD):Option Bool :=
 (bH (O:=(Unit ⊕ Bool)) (λ (wu:Int) =>
 af (decide (wu < (x1.ay.length:Int)))
 ((ib 4 x2 wu).bind λ acx =>
 (bH (O:=(Unit ⊕ Bool)) (λ (Al:Int) =>
 af (decide (Al < 4))
 ((idx acx Al).bind λ acA =>
 af acA
 ((zG x3.book x0 Al wu).bind λ Dg =>
 af (!Dg)
 (some (.inr (.inr false)))
 (some (.inl (i64 (Al+1)))))
 (some (.inl (i64 (Al+1)))))
 (some (.inr (.inl ())))) 0).bind (Sum.elim (λ (_:Unit) =>
 some (.inl (i64 (wu+1))))
  (λ q=>some (.inr (.inr q)))))
 (some (.inr (.inl ())))) 0).bind (Sum.elim (λ (_:Unit) =>
 some true)
  (λ q=>some q))
def My(x0:aj)(yz:(List (List Int)))(tG:(List Bool)):Option ((List Bool) × cD × Int) :=
 (qG x0).bind λ ja =>
 af (ja != 0)
 (some (tG,(⟨⟨0,[],[],[],[],[]⟩,[]⟩:cD),ja))
 ((Mz x0 yz tG).bind λ gu =>
 af (gu.2 != 0)
 (some (gu.1,(⟨⟨0,[],[],[],[],[]⟩,[]⟩:cD),gu.2))
 ((zT (λ y s=>qH y x0 s)).bind λ iE =>
 af ((iE.length:Int) == 0)
 (some (gu.1,(⟨⟨0,[],[],[],[],[]⟩,[]⟩:cD),9))
 (some (gu.1,(⟨⟨x0.Rest,x0.Rows,x0.aK,x0.ax,x0.ay,x0.bg⟩,iE⟩:cD),0))))
def m32(x0:aj)(x1:(List (List Int))):Option (Int × Int) :=
 (My x0 x1 [false,false,false,false,false,false,false,false,false,false,false,false,false,false,false,false]).bind λ fR =>
 af (fR.2.2 != 0)
 (some (0,fR.2.2))
 ((bH (O:=(Unit ⊕ (Int × Int))) (λ (wB:Int) =>
 af (decide (wB < (x0.ay.length:Int)))
 ((zH fR.2.1.book fR.1 wB).bind λ p7 =>
 af (!p7)
 (some (.inr (.inr (2,0))))
 (some (.inl (i64 (wB+1)))))
 (some (.inr (.inl ())))) 0).bind (Sum.elim (λ (_:Unit) =>
 (vQ fR.2.1 (λ y=>E3 y x0 fR.1 fR.2.1)).bind λ my =>
 (zF fR.2.1 my).bind λ Dl =>
 some (Dl,0))
  (λ q=>some q)))
def oo(_:aj):Option Int :=
 some 0
def kP{S:Type}(ys:(List Bool)→S→Option (S × Bool)):Nat→((List Bool)→Int→cD→Int→(List Bool)→(List Bool)→S→Option (S × Bool)) × ((List Bool)→Int→Int→Int→cD→Int→(List Bool)→(List Bool)→S→Option (S × Bool))
 | 0=>(λ _ _ _ _ _ _ _=>none,λ _ _ _ _ _ _ _ _ _=>none)
 | k+1=>(λ x0 x1 xX xO xG xA s0 =>
  af (x1 == (xX.book.ay.length:Int))
  ((ys x0 s0).bind λ lx =>
  some (lx.1,lx.2))
  ((lT .i64 xO x1).bind λ eW =>
  (fP .and .i64 eW 1).bind λ iM =>
  af (iM == 1)
  (((kP ys k).1 x0 (i64 (x1+1)) xX xO xG xA s0).bind λ jz =>
  some (jz.1,jz.2))
  ((idx xX.book.ay x1).bind λ gB =>
  ((kP ys k).2 x0 x1 0 gB.ax xX xO xG xA s0).bind λ fh =>
  some (fh.1,fh.2))),
  λ x0 x1 x2 x3 xX xO xG xA s0 =>
  af (x3 == 0)
  (((((zH xX.book x0 x1).bind λ iM =>
  af (!iM)
  (some (s0,true))
  (((kP ys k).1 x0 (i64 (x1+1)) xX xO xG xA s0).bind λ cy =>
  some (cy.1,cy.2))):Option (S × Bool))).bind (λ (Aa:(S × Bool)) =>
  some (Aa.1,Aa.2)))
  ((bH (O:=(S ⊕ (S × Bool))) (λ (bP:(S × Int × (List Bool))) =>
  af (decide (bP.2.1 < (xX.book.ax.length:Int)))
  (((((idx xG bP.2.1).bind λ JB =>
  af (!JB)
  (some true)
  ((ib 4 xA x1).bind λ AR =>
  (idx AR bP.2.1).bind λ JD =>
  some (!JD))):Option Bool)).bind (λ (CH:Bool) =>
  af CH
  (some (.inl (bP.1,i64 (bP.2.1+1),bP.2.2)))
  ((ib 4 bP.2.2 x1).bind λ JE =>
  (idx JE bP.2.1).bind λ _ =>
  ((kP ys k).2 (lS 4 bP.2.2 x1 bP.2.1 true) x1 (i64 (bP.2.1+1)) (i64 (x3 - 1)) xX xO xG xA bP.1).bind λ mA =>
  af (!mA.2)
  (some (.inr (.inr (mA.1,false))))
  ((ib 4 (lS 4 bP.2.2 x1 bP.2.1 true) x1).bind λ pe =>
  (idx pe bP.2.1).bind λ _ =>
  some (.inl (mA.1,i64 (bP.2.1+1),lS 4 (lS 4 bP.2.2 x1 bP.2.1 true) x1 bP.2.1 false))))))
  (some (.inr (.inl bP.1)))) (s0,x2,x0)).bind (Sum.elim (λ (oY:S) =>
  some (oY,true))
   (λ q=>some q))))
def qF{S:Type}(ys:(List Bool)→S→Option (S × Bool))(x1:cD)(x2:Int)(x3:(List Bool))(x4:(List Bool))(s0:S):Option S :=
 ((kP ys 40).1 [false,false,false,false,false,false,false,false,false,false,false,false,false,false,false,false] 0 x1 x2 x3 x4 s0).bind λ rU =>
  some rU.1
def vR(x0:cD)(x1:(List Bool))(x2:(List Bool))(x3:Int):Option (cD × Int × (List Bool) × (List Bool)) :=
 some (x0,x3,x2,x1)
def vS(x0:aj):Option (List Bool) :=
 (bH (O:=(List Bool)) (λ (dI:(Int × (List Bool))) =>
 af (decide (dI.1 < (x0.ax.length:Int)))
 ((idx dI.2 dI.1).bind λ _ =>
 some (.inl (i64 (dI.1+1),dI.2.set dI.1.toNat true)))
 (some (.inr dI.2))) (0,[false,false,false,false])).bind (λ (m7:(List Bool)) =>
 some m7)
def vV(x0:aj):Option (Int × Int) :=
 (pP x0 (λ y=>oo y)).bind λ jy =>
 af (jy.2 != 0)
 (some (0,jy.2))
 ((um jy.1).bind λ fh =>
 (vS jy.1.book).bind λ jb =>
 (vR jy.1 fh jb 0).bind λ gu =>
 (qF (ic (λ (_:(List Bool)) (pV:Int)=>((some (.inl (i64 (pV+1)))):Option (Int ⊕ Empty)))) gu.1 gu.2.1 gu.2.2.1 gu.2.2.2 (.inl 0)).bind (Sum.elim (λ (pV:Int) =>
 some (pV,0))
  (λ (o:Empty)=>o.elim)))
def Ch(x0:aj)(x1:(List Bool)):Option (List (List Int)) :=
 (bH (O:=(List (List Int))) (λ (wx:((List (List Int)) × Int)) =>
 af (decide (wx.2 < (x0.ay.length:Int)))
 ((ib 4 x1 wx.2).bind λ AL =>
 (bH (O:=(List Int)) (λ (tj:((List Int) × Int)) =>
 af (decide (tj.2 < 4))
 ((idx AL tj.2).bind λ aly =>
 af aly
 ((ij tj.1 [tj.2]).bind λ alz =>
 some (.inl (alz,i64 (tj.2+1))))
 (some (.inl (tj.1,i64 (tj.2+1)))))
 (some (.inr tj.1))) ([],0)).bind (λ (M7:(List Int)) =>
 (ij wx.1 [M7]).bind λ alA =>
 some (.inl (alA,i64 (wx.2+1)))))
 (some (.inr wx.1))) ([],0)).bind (λ (R7:(List (List Int))) =>
 some R7)
def Il(x0:aj):Option ((List (List Int)) × Bool × Int) :=
 (pP x0 (λ y=>oo y)).bind λ ig =>
 af (ig.2 != 0)
 (some ([],false,ig.2))
 ((um ig.1).bind λ yG =>
 (vS ig.1.book).bind λ wU =>
 (vR ig.1 yG wU 0).bind λ nm =>
 (qF (ic (λ (acW:(List Bool)) (_:Unit)=>(((Ch ig.1.book acW).bind λ qY =>
 some (.inr qY)):Option (Unit ⊕ (List (List Int)))))) nm.1 nm.2.1 nm.2.2.1 nm.2.2.2 (.inl ())).bind (Sum.elim (λ (_:Unit) =>
 some ([],false,0))
  (λ (yq:(List (List Int))) =>
 some (yq,true,0))))
def Ic (x1:((List Bool)→((List (List Bool)) ⊕ Empty)→Option (((List (List Bool)) ⊕ Empty) × Bool))→((List (List Bool)) ⊕ Empty)→Option ((List (List Bool)) ⊕ Empty)):Option (List (List Bool)) :=
 (x1 (ic (λ (tI:(List Bool)) (kV:(List (List Bool)))=>(((ij kV [tI]).bind λ gC =>
 some (.inl gC)):Option ((List (List Bool)) ⊕ Empty)))) (.inl [])).bind (Sum.elim (λ (kV:(List (List Bool))) =>
 some kV)
  (λ (o:Empty)=>o.elim))
def E5 (x0:((List Bool)→((List (List Bool)) ⊕ Empty)→Option (((List (List Bool)) ⊕ Empty) × Bool))→((List (List Bool)) ⊕ Empty)→Option ((List (List Bool)) ⊕ Empty)):Option (List (List Bool)) :=
 (Ic x0).bind λ di =>
 some di
def E6(x0:((List Bool)→Option Int))(x1:(List (List Bool))):Option (List Bool) :=
 (idx x1 0).bind λ mx =>
 (lH x1 1 (x1.length:Int)).bind λ wX =>
 (bH (O:=(List Bool)) (λ (nb:(Int × (List Bool))) =>
 af (decide (nb.1 < (wX.length:Int)))
 ((idx wX nb.1).bind λ AQ =>
 (x0 AQ).bind λ wY =>
 (x0 nb.2).bind λ np =>
 af (decide (wY < np))
 (some (.inl (i64 (nb.1+1),AQ)))
 (some (.inl (i64 (nb.1+1),nb.2))))
 (some (.inr nb.2))) (0,mx)).bind (λ (FP:(List Bool)) =>
 some FP)
def zI(x0:aj)(x1:(List Bool)):Option Int :=
 (bH (O:=Int) (λ (dq:((Int→Int) × Int × Int)) =>
 af (decide (dq.2.2 < (x0.ay.length:Int)))
 ((idx x0.ay dq.2.2).bind λ uR =>
 (ib 4 x1 dq.2.2).bind λ Gm =>
 (bH (O:=((Int→Int) × Int)) (λ (ir:((Int→Int) × Int × Int)) =>
 af (decide (ir.2.2 < 4))
 ((idx Gm ir.2.2).bind λ AL =>
 af AL
 (some (.inl (nh ir.1 ir.2.2 (i64 ((ir.1 ir.2.2)+uR.gW)),vX ir.2.1 [(nh ir.1 ir.2.2 (i64 ((ir.1 ir.2.2)+uR.gW))) ir.2.2],i64 (ir.2.2+1))))
 (some (.inl (ir.1,ir.2.1,i64 (ir.2.2+1)))))
 (some (.inr (ir.1,ir.2.1)))) (dq.1,dq.2.1,0)).bind (λ (IE:((Int→Int) × Int)) =>
 some (.inl (IE.1,IE.2,i64 (dq.2.2+1)))))
 (some (.inr dq.2.1))) ((λ _=>0),0,0)).bind (λ (oq:Int) =>
 some oq)
def yg(x0:aj):Option ((List (List Int)) × Int × Bool × Int) :=
 (pP x0 (λ y=>oo y)).bind λ fh =>
 af (fh.2 != 0)
 (some ([],0,false,fh.2))
 ((um fh.1).bind λ gC =>
 (vS fh.1.book).bind λ iE =>
 (vR fh.1 gC iE 0).bind λ j6 =>
 (E5 (λ y s=>qF y j6.1 j6.2.1 j6.2.2.1 j6.2.2.2 s)).bind λ yG =>
 af ((yG.length:Int) == 0)
 (some ([],0,false,0))
 ((E6 (λ y=>zI fh.1.book y) yG).bind λ mx =>
 (Ch fh.1.book mx).bind λ wX =>
 (zI fh.1.book mx).bind λ qY =>
 some (wX,qY,true,0)))
def zL(x0:Int):Option (List Int) :=
 (bH (O:=(List Int)) (λ (tn:((List Int) × Int)) =>
 af (decide (tn.2 < 4))
 ((lT .i64 x0 tn.2).bind λ AP =>
 (fP .and .i64 AP 1).bind λ p6 =>
 af (p6 == 1)
 ((ij tn.1 [tn.2]).bind λ my =>
 some (.inl (my,i64 (tn.2+1))))
 (some (.inl (tn.1,i64 (tn.2+1)))))
 (some (.inr tn.1))) ([],0)).bind (λ (wo:(List Int)) =>
 some wo)
def MK(x0:Int)(x1:Int):Option Int :=
 (zR x0).bind λ jz =>
 (zR x1).bind λ gB =>
 af jz
 (af gB
 (some 0)
 (some (-1)))
 (af gB
 (some 1)
 (af (decide (x0 < x1))
 (some (-1))
 (af (decide (x0 > x1))
 (some 1)
 (some 0))))
def E9(x0:(List Int))(x1:(List Int)):Option Int :=
 (bH (O:=(Unit ⊕ Int)) (λ (C2:Int) =>
 af (decide (C2 < (x0.length:Int)))
 ((idx x0 C2).bind λ np =>
 af (decide (C2 ≥ (x1.length:Int)))
 (some (.inr (.inr 1)))
 ((idx x1 C2).bind λ JA =>
 (MK np JA).bind λ x81 =>
 af (x81 != 0)
 (some (.inr (.inr x81)))
 (some (.inl (i64 (C2+1))))))
 (some (.inr (.inl ())))) 0).bind (Sum.elim (λ (_:Unit) =>
 af (decide ((x0.length:Int) < (x1.length:Int)))
 (some (-1))
 (some 0))
  (λ q=>some q))
def zJ(x0:Int)(x1:(Int→Option Bool)):Option ((List Int) × Bool) :=
 (wF .i64 1 x0).bind λ oy =>
 (bH (O:=((List Int) × Bool)) (λ (fX:((List Int) × Bool × Int)) =>
 af (decide (fX.2.2 < oy))
 ((zL fX.2.2).bind λ kq =>
 (((af (!fX.2.1)
 ((x1 fX.2.2).bind λ pf =>
 some pf)
 (af (decide ((kq.length:Int) < (fX.1.length:Int)))
 ((x1 fX.2.2).bind λ wR =>
 some wR)
 (af ((kq.length:Int) == (fX.1.length:Int))
 ((E9 kq fX.1).bind λ yy =>
 af (decide (yy < 0))
 ((x1 fX.2.2).bind λ Tm =>
 some Tm)
 (some false))
 (some false)))):Option Bool)).bind (λ (IB:Bool) =>
 af IB
 (some (.inl (kq,true,i64 (fX.2.2+1))))
 (some (.inl (fX.1,fX.2.1,i64 (fX.2.2+1))))))
 (some (.inr (fX.1,fX.2.1)))) ([],false,0)).bind (λ (Ad:((List Int) × Bool)) =>
 some (Ad.1,Ad.2))
def zM(x0:cD)(x1:(List Bool))(x2:(List Bool))(x3:Int):Option Bool :=
 (vR x0 x1 x2 x3).bind λ eW =>
 (qF (ic (λ (_:(List Bool)) (_:Unit)=>((some (.inr ())):Option (Unit ⊕ Unit)))) eW.1 eW.2.1 eW.2.2.1 eW.2.2.2 (.inl ())).bind (Sum.elim (λ (_:Unit) =>
 some false)
  (λ (_:Unit) =>
 some true))
def E7(x0:Int)(x1:cD)(x2:(List Bool))(x3:(List Bool)):Option Bool :=
 (zL x0).bind λ mL =>
 (zK mL).bind λ qV =>
 (zM x1 x2 qV 0).bind λ eW =>
 af eW
 (some true)
 (af (Kz qV x3 == true)
 ((zM x1 x2 x3 0).bind λ cy =>
 some cy)
 (some false))
def yh(x0:aj):Option ((List Int) × Bool × Int) :=
 (pP x0 (λ y=>oo y)).bind λ cy =>
 af (cy.2 != 0)
 (some ([],false,cy.2))
 ((um cy.1).bind λ fh =>
 (vS cy.1.book).bind λ jb =>
 (zJ (x0.ax.length:Int) (λ y=>E7 y cy.1 fh jb)).bind λ gC =>
 some (gC.1,gC.2,0))
def E8(x0:Int)(x1:cD)(x2:(List Bool))(x3:(List Bool)):Option Bool :=
 (zM x1 x2 x3 x0).bind λ di =>
 some di
def vW(x0:aj):Option ((List Int) × Int) :=
 (pP x0 (λ y=>oo y)).bind λ cy =>
 af (cy.2 != 0)
 (some ([],cy.2))
 ((um cy.1).bind λ fh =>
 (vS cy.1.book).bind λ jb =>
 (zJ (x0.ay.length:Int) (λ y=>E8 y cy.1 fh jb)).bind λ gC =>
 some (gC.1,0))
def yi(x0:aj)(x1:dp):Option aj :=
 (ij [] x0.bg).bind λ cy =>
 (ij cy [x1]).bind λ ja =>
 some (⟨x0.Rest,x0.Rows,x0.aK,x0.ax,x0.ay,ja⟩:aj)
def Fw(x0:aj)(x1:Int):Option (Int × Int) :=
 (qG x0).bind λ lx =>
 af (lx != 0)
 (some (0,lx))
 ((lj x1 1 30).bind λ cy =>
 af (!cy)
 (some (0,1))
 ((yb (⟨x0.Rest,x0.Rows,x0.aK,x0.ax,x0.ay,x0.bg⟩:aj) x1).bind λ ja =>
 some (ja,0)))
def Fy(x0:Int)(x1:Int):Option Reach :=
 some (⟨x0,x1⟩:Reach)
def zN(x0:(List dp)):Option (List dp) :=
 (ij [] x0).bind λ di =>
 some di
def Fa(x0:(List gm)):Option (List gm) :=
 (ij [] x0).bind λ di =>
 some di
def Fb(x0:(List Reach)):Option (List Reach) :=
 (ij [] x0).bind λ di =>
 some di
def Fc(x0:(List fG)):Option (List fG) :=
 (ij [] x0).bind λ di =>
 some di
def Fe(x0:(List mB)):Option (List mB) :=
 (ij [] x0).bind λ di =>
 some di
def Ci(x0:aj):Option aj :=
 (Fa x0.Rows).bind λ yD =>
 (Fb x0.aK).bind λ ja =>
 (Fc x0.ax).bind λ jz =>
 (Fe x0.ay).bind λ gB =>
 (zN x0.bg).bind λ fh =>
 some (⟨x0.Rest,yD,ja,jz,gB,fh⟩:aj)
def Im(x0:aj)(x1:Int)(x2:Int):Option (aj × Int) :=
 (qG x0).bind λ kq =>
 af (kq != 0)
 (some ((⟨0,[],[],[],[],[]⟩:aj),kq))
 ((lj x1 1 30).bind λ Tl =>
 (((af (!Tl)
 (some (!Tl))
 ((lj x2 1 60).bind λ De =>
 some (!De))):Option Bool)).bind (λ (R8:Bool) =>
 af R8
 (some ((⟨0,[],[],[],[],[]⟩:aj),1))
 ((yb (⟨x0.Rest,x0.Rows,x0.aK,x0.ax,x0.ay,x0.bg⟩:aj) x1).bind λ yy =>
 af (decide (x2 > yy))
 (some ((⟨0,[],[],[],[],[]⟩:aj),7))
 ((bH (O:=(List gm)) (λ (o6:((List gm) × Bool × Int)) =>
 af (decide (o6.2.2 < (x0.Rows.length:Int)))
 ((idx x0.Rows o6.2.2).bind λ nk =>
 (((af (decide (nk.fA > x1))
 (some (!o6.2.1))
 (some false)):Option Bool)).bind (λ (Se:Bool) =>
 (((af Se
 ((ij o6.1 [(⟨x1,x2⟩:gm)]).bind λ Jl =>
 some (Jl,true))
 (some (o6.1,o6.2.1))):Option ((List gm) × Bool))).bind (λ (IF:((List gm) × Bool)) =>
 (((af (decide (nk.fA ≥ x1))
 (some (true,MZ nk.fT [x2]))
 (some (IF.2,nk.fT))):Option (Bool × Int))).bind (λ (FN:(Bool × Int)) =>
 (ij IF.1 [(⟨nk.fA,FN.2⟩:gm)]).bind λ alx =>
 some (.inl (alx,FN.1,i64 (o6.2.2+1)))))))
 (some (.inr o6.1))) ([],false,0)).bind (λ (IC:(List gm)) =>
 af (decide ((IC.length:Int) > 4))
 (some ((⟨0,[],[],[],[],[]⟩:aj),2))
 ((Ci (⟨x0.Rest,IC,x0.aK,x0.ax,x0.ay,x0.bg⟩:aj)).bind λ acB =>
 some (acB,0)))))))
def MD(x0:aj)(x1:Int):Option aj :=
 (zL x1).bind λ nm =>
 (bH (O:=(List dp)) (λ (qP:((List dp) × Int)) =>
 af (decide (qP.2 < (nm.length:Int)))
 ((idx nm qP.2).bind λ p6 =>
 (idx x0.bg p6).bind λ p7 =>
 (ij qP.1 [p7]).bind λ my =>
 some (.inl (my,i64 (qP.2+1))))
 (some (.inr qP.1))) ([],0)).bind (λ (yq:(List dp)) =>
 some (⟨x0.Rest,x0.Rows,x0.aK,x0.ax,x0.ay,yq⟩:aj))
def ME(x0:aj):Option Bool :=
 (qH (ic (λ (_:bz) (_:Unit)=>((some (.inr ())):Option (Unit ⊕ Unit)))) x0 (.inl ())).bind (Sum.elim (λ (_:Unit) =>
 some false)
  (λ (_:Unit) =>
 some true))
def H7(x0:Int)(x1:aj):Option Bool :=
 (MD x1 x0).bind λ pg =>
 (ME pg).bind λ eG =>
 some (!eG)
def Ip(x0:aj):Option ((List Int) × Int) :=
 (qG x0).bind λ qV =>
 af (qV != 0)
 (some ([],qV))
 ((zJ (x0.bg.length:Int) (λ y=>H7 y x0)).bind λ cy =>
 some (cy.1,0))
def H8(x0:bz)(x1:Int)(x2:Int):Option Bool :=
 (idx x0.deep x1).bind λ eG =>
 some (decide (eG≤x2))
def Iq(x0:aj):Option (Int × Int × Int × Int) :=
 (pP x0 (λ y=>oo y)).bind λ j7 =>
 af (j7.2 != 0)
 (some (0,0,0,j7.2))
 ((bH (O:=(Int × Int × Int)) (λ (dq:(Int × Int × Int × Int)) =>
 af (decide (dq.2.2.2 < (x0.aK.length:Int)))
 ((bH (O:=(Int × Int × Int)) (λ (m8:(Int × Int × Int × Int)) =>
 af (decide (m8.2.2.2 < 31))
 ((vQ j7.1 (λ y=>H8 y dq.2.2.2 m8.2.2.2)).bind λ tF =>
 af (decide (vX tF [i64 ((j7.1.fH.length:Int) - tF)] < m8.2.2.1))
 (some (.inl (dq.2.2.2,m8.2.2.2,vX tF [i64 ((j7.1.fH.length:Int) - tF)],i64 (m8.2.2.2+1))))
 (some (.inl (m8.1,m8.2.1,m8.2.2.1,i64 (m8.2.2.2+1)))))
 (some (.inr (m8.1,m8.2.1,m8.2.2.1)))) (dq.1,dq.2.1,dq.2.2.1,0)).bind (λ (CF:(Int × Int × Int)) =>
 some (.inl (CF.1,CF.2.1,CF.2.2,i64 (dq.2.2.2+1)))))
 (some (.inr (dq.1,dq.2.1,dq.2.2.1)))) ((-1),(-1),(j7.1.fH.length:Int),0)).bind (λ (oq:(Int × Int × Int)) =>
 some (oq.1,oq.2.1,oq.2.2,0)))
def Ir(x0:aj)(x1:Int)(x2:Int):Option (Bool × Int) :=
 (qG x0).bind λ jy =>
 af (jy != 0)
 (some (false,jy))
 ((qE x1 (x0.ay.length:Int)).bind λ jz =>
 (qE x2 (x0.ay.length:Int)).bind λ gB =>
 af (vX jz [gB] != 0)
 (some (false,vX jz [gB]))
 ((Cj (⟨x0.Rest,x0.Rows,x0.aK,x0.ax,x0.ay,x0.bg⟩:aj) x1 x2).bind λ ig =>
 some (ig,0)))
def H9(x0:Int):Option Reach :=
 some (⟨x0,x0⟩:Reach)
def MX  : Option aj :=
 (Fy 9 11).bind λ cy =>
 (H9 15).bind λ yD =>
 some (⟨10,[(⟨10,40⟩:gm),(⟨20,20⟩:gm)],[cy,yD],[(⟨⟨#[97,110,110]⟩,20⟩:fG),(⟨⟨#[98,111]⟩,12⟩:fG)],[(⟨0,0,20,2⟩:mB),(⟨1,30,15,1⟩:mB),(⟨0,60,30,1⟩:mB)],[]⟩:aj)
def E1(x0:(List Int))(x1:(List Int)):Option Bool :=
 (bH (O:=(Unit ⊕ Bool)) (λ (wD:Int) =>
 af (decide (wD < (x1.length:Int)))
 ((((af (decide (wD ≥ (x0.length:Int)))
 (some true)
 ((idx x0 wD).bind λ ox =>
 (idx x1 wD).bind λ acs =>
 some (decide (ox < acs)))):Option Bool)).bind (λ (R6:Bool) =>
 af R6
 (some (.inr (.inr true)))
 ((idx x0 wD).bind λ Jf =>
 (idx x1 wD).bind λ Dd =>
 af (decide (Jf > Dd))
 (some (.inr (.inr false)))
 (some (.inl (i64 (wD+1)))))))
 (some (.inr (.inl ())))) 0).bind (Sum.elim (λ (_:Unit) =>
 some false)
  (λ q=>some q))
def Fq(x0:(List Int))(x1:(List Int)):Option Bool :=
 (E1 x0 x1).bind λ eG =>
 af (!eG)
 ((E1 x1 x0).bind λ jx =>
 some (!jx))
 (some false)
def zS(x0:(List Int))(x1:(List Int)):Option Bool :=
 (Fq x0 x1).bind λ di =>
 some di
def MS(x0:(List (List Int)))(x1:(List (List Int))):Option Bool :=
 af ((x0.length:Int) != (x1.length:Int))
 (some false)
 ((bH (O:=(Unit ⊕ Bool)) (λ (gq:Int) =>
 af (decide (gq < (x0.length:Int)))
 ((idx x0 gq).bind λ AP =>
 (idx x1 gq).bind λ p6 =>
 (Fq AP p6).bind λ p7 =>
 af (!p7)
 (some (.inr (.inr false)))
 (some (.inl (i64 (gq+1)))))
 (some (.inr (.inl ())))) 0).bind (Sum.elim (λ (_:Unit) =>
 some true)
  (λ q=>some q)))
def Is(x0:(List (List Int)))(x1:(List (List Int))):Option Bool :=
 (MS x0 x1).bind λ di =>
 some di
def Cs  : Option Bool :=
 (MX).bind λ fx =>
 (yi fx (⟨0,10,true⟩:dp)).bind λ jw =>
 (Fw fx 10).bind λ Gq =>
 (Fw fx 21).bind λ Gr =>
 (ye fx).bind λ Gs =>
 (yf jw 0).bind λ Gt =>
 (Ik fx 0).bind λ rT =>
 (uu fx 1 0).bind λ yA =>
 (uu fx 1 1).bind λ Dh =>
 (uu fx 1 2).bind λ AM =>
 (Ir fx 0 1).bind λ Di =>
 (m32 fx ([[0,1],[0],[1]])).bind λ Gu =>
 (m32 jw ([[0,1],[0],[1]])).bind λ wS =>
 (((af (Gq.2 != 0)
 (some true)
 (af (Gr.2 != 0)
 (some true)
 (af (Gs.2 != 0)
 (some true)
 (af (Gt.2 != 0)
 (some true)
 (af (rT.2 != 0)
 (some true)
 (af (yA.2 != 0)
 (some true)
 (af (Dh.2 != 0)
 (some true)
 (af (AM.2 != 0)
 (some true)
 (af (Di.2 != 0)
 (some true)
 (af (Gu.2 != 0)
 (some true)
 (some (wS.2 != 0)))))))))))):Option Bool)).bind (λ (IG:Bool) =>
 af IG
 (some false)
 ((((af (Gq.1 != 40)
 (some true)
 (af (Gr.1 != 0)
 (some true)
 (af (Gs.1 != 3)
 (some true)
 ((zS Gt.1 [9,10]).bind λ Tv =>
 af (!Tv)
 (some true)
 ((Fy 20 40).bind λ NI =>
 af (!(KA rT.1 NI == true))
 (some true)
 (af (yA.1 != 1)
 (some true)
 (af (Dh.1 != 2)
 (some true)
 (af (AM.1 != 0)
 (some true)
 (af (!Di.1)
 (some true)
 (af (Gu.1 != 0)
 (some true)
 (some (wS.1 != 1)))))))))))):Option Bool)).bind (λ (IH:Bool) =>
 af IH
 (some false)
 ((vV fx).bind λ Gy =>
 (vV jw).bind λ Gz =>
 (Il jw).bind λ yB =>
 (yg jw).bind λ tH =>
 (yh jw).bind λ yC =>
 (vW fx).bind λ GA =>
 (Iq fx).bind λ pZ =>
 (Im jw 12 15).bind λ qW =>
 (vW qW.1).bind λ Jq =>
 (yi jw (⟨0,8,true⟩:dp)).bind λ NJ =>
 (Ip NJ).bind λ GB =>
 (((af (Gy.2 != 0)
 (some true)
 (af (Gz.2 != 0)
 (some true)
 (af (yB.2.2 != 0)
 (some true)
 (af (tH.2.2.2 != 0)
 (some true)
 (af (yC.2.2 != 0)
 (some true)
 (af (GA.2 != 0)
 (some true)
 (af (pZ.2.2.2 != 0)
 (some true)
 (af (qW.2 != 0)
 (some true)
 (af (Jq.2 != 0)
 (some true)
 (some (GB.2 != 0))))))))))):Option Bool)).bind (λ (II:Bool) =>
 af II
 (some false)
 ((((af (Gy.1 != 0)
 (some true)
 (af (Gz.1 != 2)
 (some true)
 (af (!yB.2.1)
 (some true)
 ((Is yB.1 ([[0,1],[0],[0]])).bind λ TA =>
 af (!TA)
 (some true)
 (af (!tH.2.2.1)
 (some true)
 (af (tH.2.1 != 50)
 (some true)
 ((Is tH.1 ([[0,1],[0],[1]])).bind λ Dk =>
 af (!Dk)
 (some true)
 (af (!yC.2.1)
 (some true)
 ((zS yC.1 [0,1]).bind λ AN =>
 af (!AN)
 (some true)
 ((zS GA.1 [2]).bind λ TC =>
 some (!TC))))))))))):Option Bool)).bind (λ (IJ:Bool) =>
 af IJ
 (some false)
 (af (pZ.1 == 0)
 (af (pZ.2.1 == 9)
 (af (pZ.2.2.1 == 2)
 (af ((Jq.1.length:Int) == 0)
 ((zS GB.1 [1]).bind λ NM =>
 af NM
 (af ((qW.1.Rows.length:Int) == 3)
 ((idx qW.1.Rows 1).bind λ yF =>
 af (DO yF (⟨12,15⟩:gm) == true)
 ((idx qW.1.Rows 2).bind λ Jt =>
 some (DO Jt (⟨20,15⟩:gm) == true))
 (some false))
 (some false))
 (some false))
 (some false))
 (some false))
 (some false))
 (some false)))))))))
def mI(x0:Int)(x1:Int)(x2:Int):Option Bool :=
 af (decide (x1≤x0))
 (some (decide (x0≤x2)))
 (some false)
def H5(x0:aj)(x1:Int):Option Bool :=
 (mI x1 0 (i64 ((x0.aK.length:Int) - 1))).bind λ eG =>
 some eG
def MB(x0:aj):Option Int :=
 (mI x0.Rest 0 60).bind λ AR =>
 af (!AR)
 (some 1)
 ((mI (x0.Rows.length:Int) 1 4).bind λ p8 =>
 af (!p8)
 (some 2)
 ((bH (O:=(Unit ⊕ Int)) (λ (wE:Int) =>
 af (decide (wE < (x0.Rows.length:Int)))
 ((idx x0.Rows wE).bind λ AK =>
 ((((mI AK.fA 1 30).bind λ alq =>
 af (!alq)
 (some true)
 ((mI AK.fT 1 60).bind λ Jh =>
 some (!Jh))):Option Bool)).bind (λ (Sc:Bool) =>
 af Sc
 (some (.inr (.inr 1)))
 (af (decide (wE > 0))
 ((idx x0.Rows (i64 (wE - 1))).bind λ uR =>
 af (decide (AK.fA≤uR.fA))
 (some (.inr (.inr 7)))
 ((idx x0.Rows (i64 (wE - 1))).bind λ Gm =>
 af (decide (AK.fT > Gm.fT))
 (some (.inr (.inr 7)))
 (some (.inl (i64 (wE+1))))))
 (some (.inl (i64 (wE+1)))))))
 (some (.inr (.inl ())))) 0).bind (Sum.elim (λ (_:Unit) =>
 some 0)
  (λ q=>some q))))
def MG(x0:Reach)(x1:Int)(x2:Int):Option Bool :=
 af (decide (x1≤x0.c6))
 (af (decide (x0.c6≤x0.eA))
 (some (decide (x0.eA≤x2)))
 (some false))
 (some false)
def Fg(x0:Int):Option Bool :=
 (mI (i64 x0) 97 122).bind λ di =>
 some di
def Ig(x0:Int):Option Bool :=
 (mI (i64 x0) 48 57).bind λ di =>
 some di
def MH(x0:ByteArray):Option Bool :=
 ((((mI (x0.size:Int) 1 12).bind λ NO =>
 af (!NO)
 (some true)
 ((wG x0 0).bind λ p6 =>
 (Fg p6).bind λ p7 =>
 some (!p7))):Option Bool)).bind (λ (Sj:Bool) =>
 af Sj
 (some false)
 ((bH (O:=(Unit ⊕ Bool)) (λ (rR:Int) =>
 af (decide (rR < (x0.size:Int)))
 ((wG x0 rR).bind λ Dn =>
 (Fg Dn).bind λ p8 =>
 af (!p8)
 ((wG x0 rR).bind λ j7 =>
 (Ig j7).bind λ mA =>
 af (!mA)
 (some (.inr (.inr false)))
 (some (.inl (i64 (rR+1)))))
 (some (.inl (i64 (rR+1)))))
 (some (.inr (.inl ())))) 1).bind (Sum.elim (λ (_:Unit) =>
 some true)
  (λ q=>some q))))
def MC(x0:aj):Option Int :=
 (mI (x0.aK.length:Int) 1 3).bind λ alp =>
 af (!alp)
 (some 2)
 ((bH (O:=(Unit ⊕ Int)) (λ (IU:Int) =>
 af (decide (IU < (x0.aK.length:Int)))
 ((idx x0.aK IU).bind λ tF =>
 (MG tF 1 30).bind λ nk =>
 af (!nk)
 (some (.inr (.inr 1)))
 (af (decide (i64 (tF.eA - tF.c6) ≥ 3))
 (some (.inr (.inr 1)))
 (some (.inl (i64 (IU+1))))))
 (some (.inr (.inl ())))) 0).bind (Sum.elim (λ (_:Unit) =>
 (mI (x0.ax.length:Int) 1 4).bind λ AL =>
 af (!AL)
 (some 2)
 ((bH (O:=(Unit ⊕ Int)) (λ (wy:Int) =>
 af (decide (wy < (x0.ax.length:Int)))
 ((idx x0.ax wy).bind λ Gv =>
 (MH Gv.Name).bind λ Jo =>
 af (!Jo)
 (some (.inr (.inr 4)))
 ((bH (O:=(Unit ⊕ Int)) (λ (IV:Int) =>
 af (decide (IV < wy))
 ((idx x0.ax IV).bind λ NH =>
 (idx x0.ax wy).bind λ alK =>
 af (NH.Name.toList == alK.Name.toList)
 (some (.inr (.inr 5)))
 (some (.inl (i64 (IV+1)))))
 (some (.inr (.inl ())))) 0).bind (Sum.elim (λ (_:Unit) =>
 (idx x0.ax wy).bind λ Gw =>
 (mI Gw.nv 1 30).bind λ Gx =>
 af (!Gx)
 (some (.inr (.inr 1)))
 (some (.inl (i64 (wy+1)))))
  (λ q=>some (.inr (.inr q))))))
 (some (.inr (.inl ())))) 0).bind (Sum.elim (λ (_:Unit) =>
 some 0)
  (λ q=>some q))))
  (λ q=>some q)))
def Io(x0:aj):Option Int :=
 (MB x0).bind λ acv =>
 af (acv != 0)
 (some acv)
 ((MC x0).bind λ acw =>
 af (acw != 0)
 (some acw)
 ((mI (x0.ay.length:Int) 1 4).bind λ aln =>
 af (!aln)
 (some 2)
 ((bH (O:=(Unit ⊕ Int)) (λ (IT:Int) =>
 af (decide (IT < (x0.ay.length:Int)))
 ((idx x0.ay IT).bind λ tE =>
 (H5 x0 tE.Place).bind λ alu =>
 af (!alu)
 (some (.inr (.inr 6)))
 ((mI tE.jC 0 200).bind λ Gn =>
 af (!Gn)
 (some (.inr (.inr 1)))
 ((mI tE.gW 1 60).bind λ alv =>
 af (!alv)
 (some (.inr (.inr 1)))
 ((mI tE.ax 1 3).bind λ Jj =>
 af (!Jj)
 (some (.inr (.inr 1)))
 (some (.inl (i64 (IT+1))))))))
 (some (.inr (.inl ())))) 0).bind (Sum.elim (λ (_:Unit) =>
 af (decide ((x0.bg.length:Int) > 3))
 (some 2)
 ((bH (O:=(Unit ⊕ Int)) (λ (FZ:Int) =>
 af (decide (FZ < (x0.bg.length:Int)))
 ((idx x0.bg FZ).bind λ Gp =>
 (H5 x0 Gp.Place).bind λ fx =>
 af (!fx)
 (some (.inr (.inr 6)))
 ((idx x0.bg FZ).bind λ mK =>
 (mI mK.iQ 0 30).bind λ nP =>
 af (!nP)
 (some (.inr (.inr 1)))
 (some (.inl (i64 (FZ+1))))))
 (some (.inr (.inl ())))) 0).bind (Sum.elim (λ (_:Unit) =>
 some 0)
  (λ q=>some q))))
  (λ q=>some q)))))
def MU(x0:(List Int))(x1:Int):Option Bool :=
 (bH (O:=(Unit ⊕ Bool)) (λ (IW:Int) =>
 af (decide (IW < (x0.length:Int)))
 ((idx x0 IW).bind λ mx =>
 af (mx == x1)
 (some (.inr (.inr true)))
 (some (.inl (i64 (IW+1)))))
 (some (.inr (.inl ())))) 0).bind (Sum.elim (λ (_:Unit) =>
 some false)
  (λ q=>some q))
def Rw(x0:(List Int))(x1:(List Int)):Option Bool :=
 af (decide ((x0.length:Int) < (x1.length:Int)))
 (some true)
 (af ((x0.length:Int) == (x1.length:Int))
 ((E1 x0 x1).bind λ jx =>
 some jx)
 (some false))
def MT(x0:aj):Option Bool :=
 (MJ x0).bind λ jx =>
 af (!jx)
 ((Io x0).bind λ mL =>
 some (mL == 0))
 (some false)
def Fz(x0:aj)(x1:aj):Option Bool :=
 (((af (x0.Rest != x1.Rest)
 (some true)
 (af ((x0.Rows.length:Int) != (x1.Rows.length:Int))
 (some true)
 (af ((x0.aK.length:Int) != (x1.aK.length:Int))
 (some true)
 (af ((x0.ax.length:Int) != (x1.ax.length:Int))
 (some true)
 (af ((x0.ay.length:Int) != (x1.ay.length:Int))
 (some true)
 (some ((x0.bg.length:Int) != (x1.bg.length:Int)))))))):Option Bool)).bind (λ (Sa:Bool) =>
 af Sa
 (some false)
 ((bH (O:=(Unit ⊕ Bool)) (λ (FX:Int) =>
 af (decide (FX < (x0.Rows.length:Int)))
 ((idx x0.Rows FX).bind λ tE =>
 (idx x1.Rows FX).bind λ acy =>
 af (!(DO tE acy == true))
 (some (.inr (.inr false)))
 (some (.inl (i64 (FX+1)))))
 (some (.inr (.inl ())))) 0).bind (Sum.elim (λ (_:Unit) =>
 (bH (O:=(Unit ⊕ Bool)) (λ (FY:Int) =>
 af (decide (FY < (x0.aK.length:Int)))
 ((idx x0.aK FY).bind λ Jk =>
 (idx x1.aK FY).bind λ Jl =>
 af (!(KA Jk Jl == true))
 (some (.inr (.inr false)))
 (some (.inl (i64 (FY+1)))))
 (some (.inr (.inl ())))) 0).bind (Sum.elim (λ (_:Unit) =>
 (bH (O:=(Unit ⊕ Bool)) (λ (F0:Int) =>
 af (decide (F0 < (x0.ax.length:Int)))
 ((idx x0.ax F0).bind λ acC =>
 (idx x1.ax F0).bind λ acD =>
 af (!(VK acC acD == true))
 (some (.inr (.inr false)))
 (some (.inl (i64 (F0+1)))))
 (some (.inr (.inl ())))) 0).bind (Sum.elim (λ (_:Unit) =>
 (bH (O:=(Unit ⊕ Bool)) (λ (F1:Int) =>
 af (decide (F1 < (x0.ay.length:Int)))
 ((idx x0.ay F1).bind λ rT =>
 (idx x1.ay F1).bind λ Jm =>
 af (!(VJ rT Jm == true))
 (some (.inr (.inr false)))
 (some (.inl (i64 (F1+1)))))
 (some (.inr (.inl ())))) 0).bind (Sum.elim (λ (_:Unit) =>
 (bH (O:=(Unit ⊕ Bool)) (λ (F2:Int) =>
 af (decide (F2 < (x0.bg.length:Int)))
 ((idx x0.bg F2).bind λ Ts =>
 (idx x1.bg F2).bind λ acH =>
 af (!(VL Ts acH == true))
 (some (.inr (.inr false)))
 (some (.inl (i64 (F2+1)))))
 (some (.inr (.inl ())))) 0).bind (Sum.elim (λ (_:Unit) =>
 some true)
  (λ q=>some q)))
  (λ q=>some q)))
  (λ q=>some q)))
  (λ q=>some q)))
  (λ q=>some q))))
def MV(x0:aj)(x1:dp):Option (aj × Int) :=
 (qG x0).bind λ jb =>
 af (jb != 0)
 (some ((⟨0,[],[],[],[],[]⟩:aj),jb))
 ((zN x0.bg).bind λ gC =>
 (ij gC [x1]).bind λ j6 =>
 (pP (⟨x0.Rest,x0.Rows,x0.aK,x0.ax,x0.ay,j6⟩:aj) (λ y=>oo y)).bind λ wU =>
 af (wU.2 != 0)
 (some ((⟨0,[],[],[],[],[]⟩:aj),wU.2))
 ((Ci (⟨x0.Rest,x0.Rows,x0.aK,x0.ax,x0.ay,j6⟩:aj)).bind λ GG =>
 some (GG,0)))
def MF(x0:(List Int))(x1:(List Int)):Option Bool :=
 (bH (O:=(Unit ⊕ Bool)) (λ (dI:Int) =>
 af (decide (dI < (x0.length:Int)))
 ((idx x0 dI).bind λ iF =>
 (MU x1 iF).bind λ gL =>
 af (!gL)
 (some (.inr (.inr false)))
 (some (.inl (i64 (dI+1)))))
 (some (.inr (.inl ())))) 0).bind (Sum.elim (λ (_:Unit) =>
 some true)
  (λ q=>some q))
def MW(x0:aj)(x1:aj)(x2:Int)(x3:Int)(x4:Int):Option Bool :=
 (ye x0).bind λ mA =>
 (ye x1).bind λ AS =>
 (yf x0 x2).bind λ Gh =>
 (yf x1 x2).bind λ NA =>
 (uu x0 x3 x4).bind λ pe =>
 (uu x1 x3 x4).bind λ tD =>
 (((af (mA.2 != 0)
 (some true)
 (af (AS.2 != 0)
 (some true)
 (af (Gh.2 != 0)
 (some true)
 (af (NA.2 != 0)
 (some true)
 (af (pe.2 != 0)
 (some true)
 (af (tD.2 != 0)
 (some true)
 ((mI AS.1 1 mA.1).bind λ wR =>
 af (!wR)
 (some true)
 ((MF NA.1 Gh.1).bind λ yy =>
 af (!yy)
 (some true)
 (af (pe.1 != 0)
 (some (pe.1 != tD.1))
 (some false)))))))))):Option Bool)).bind (λ (R5:Bool) =>
 af R5
 (some false)
 ((vV x0).bind λ AI =>
 (vV x1).bind λ Tn =>
 (yg x0).bind λ AJ =>
 (yg x1).bind λ Jg =>
 (yh x0).bind λ To =>
 (yh x1).bind λ Tp =>
 (((af (AI.2 != 0)
 (some true)
 (af (Tn.2 != 0)
 (some true)
 (af (AJ.2.2.2 != 0)
 (some true)
 (af (Jg.2.2.2 != 0)
 (some true)
 (af (To.2.2 != 0)
 (some true)
 (af (Tp.2.2 != 0)
 (some true)
 (af (decide (AI.1 < 0))
 (some true)
 (af (decide (Tn.1 < AI.1))
 (some true)
 (af (!(AJ.2.2.1 == (decide (AI.1 > 0))))
 (some true)
 (af (!(Jg.2.2.1 == (decide (Tn.1 > 0))))
 (some true)
 (af (!(To.2.1 == AJ.2.2.1))
 (some true)
 (af (!(Tp.2.1 == Jg.2.2.1))
 (some true)
 (af AJ.2.2.1
 (af (decide (Jg.2.1 > AJ.2.1))
 (some true)
 (some (decide ((Tp.1.length:Int) > (To.1.length:Int)))))
 (some false)))))))))))))):Option Bool)).bind (λ (Sb:Bool) =>
 af Sb
 (some false)
 ((vW x0).bind λ Df =>
 (vW x1).bind λ Gn =>
 af (Df.2 == 0)
 (af (Gn.2 == 0)
 (some (decide ((Gn.1.length:Int)≤(Df.1.length:Int))))
 (some false))
 (some false)))))
def Rr(x0:aj)(x1:dp)(x2:Int)(x3:Int)(x4:Int):Option Bool :=
 (MT x0).bind λ gL =>
 af (!gL)
 ((Cs).bind λ x61 =>
 some x61)
 ((MV x0 x1).bind λ nQ =>
 af (nQ.2 != 0)
 (((((Fz nQ.1 (⟨0,[],[],[],[],[]⟩:aj)).bind λ oy =>
 af oy
 ((Cs).bind λ np =>
 some np)
 (some false)):Option Bool)).bind (λ (Sl:Bool) =>
 some Sl))
 ((yi x0 x1).bind λ x77 =>
 (Fz nQ.1 x77).bind λ Dm =>
 af Dm
 ((Io nQ.1).bind λ JA =>
 af (JA == 0)
 ((FR (i64 x2) (x0.aK.length:Int)).bind λ TI =>
 (FR (i64 x3) (x0.ax.length:Int)).bind λ x83 =>
 (FR (i64 x4) (x0.ay.length:Int)).bind λ TJ =>
 (MW x0 nQ.1 TI x83 TJ).bind λ x85 =>
 af x85
 ((Cs).bind λ x87 =>
 some x87)
 (some false))
 (some false))
 (some false)))
def wZ{B:Base}{main:Bool}(ab:Jd prog B main):Prop:=∀ {R:az} {H:ah} (x0:cD) {aG aJ aI aH aM lU:Value},aa cq 2 R aG x0.book.Rows→aa cj 2 R aJ x0.book.aK→aa cb 2 R aI x0.book.ax→aa cp 4 R aH x0.book.ay→aa bU 3 R aM x0.book.bg→aa gl 3 R lU x0.fH→∀ {r:List Bool},um x0=some r →
 ba ab 123 #[.agg #[iv x0.book.Rest,aG,aJ,aI,aH,aM,lU]] R H λ v R' H'=>aS R R'∧H=H'∧r.length=16∧v = .agg (List.toArray ([]++(r.map Value.bool++[])))
theorem sX{B:Base}{main:Bool}{ab:Jd prog B main}{R:az}{H:ah}(x0:cD)(hK:wZ ab){aG aJ aI aH aM lU:Value}(aN:aa cq 2 R aG x0.book.Rows)(aL:aa cj 2 R aJ x0.book.aK)(aE:aa cb 2 R aI x0.book.ax)(aF:aa cp 4 R aH x0.book.ay)(aQ:aa bU 3 R aM x0.book.bg)(kF:aa gl 3 R lU x0.fH){r:List Bool}(hM:um x0=some r) :
 ba ab 123 #[.agg #[iv x0.book.Rest,aG,aJ,aI,aH,aM,lU]] R H λ v R' H'=>aS R R'∧H=H'∧r.length=16∧v = .agg (List.toArray ([]++(r.map Value.bool++[]))):=hK x0 aN aL aE aF aQ kF hM
end
end Go.Proofs.YtihapemckcdicaaGreatDoor
