/- What the functions compute. Conditions: none. -/
import Derived.Test.YtihapemckcdicaaGreatDoorQFStF
import Derived.Test.YtihapemckcdicaaGreatDoorQFStP
namespace Go.Proofs.YtihapemckcdicaaGreatDoor
open Go.Lg Go.Proofs Tryz
set_option maxRecDepth 100000
noncomputable def ko(x0:Int)(x1:Int)(x2:Int):Option Bool :=
 ag (decide (x1≤x0))
 (some (decide (x0≤x2)))
 (some false)
def JC(x0:ByteArray):Option Bool:=some (o6 x0)
noncomputable def rX(x0:b8)(x1:(bt→Option Bool)):Option Int :=
 (bD (O:=Int) (λ (jv:(Int × Int)) =>
 ag (decide (jv.2 < (x0.eV.length:Int)))
 ((idx x0.eV jv.2).bind λ uB =>
 (x1 uB).bind λ Ds =>
 ag Ds
 (some (.inl (i64 (jv.1+1),i64 (jv.2+1))))
 (some (.inl (jv.1,i64 (jv.2+1)))))
 (some (.inr jv.1))) (0,0)).bind (λ (xJ:Int) =>
 some xJ)
noncomputable def vA(x0:ao)(x1:Int):Option Int :=
 (bD (O:=(Unit ⊕ Int)) (λ (kr:Int) =>
 ag (decide (kr < (x0.Rows.length:Int)))
 ((idx x0.Rows kr).bind λ Gf =>
 ag (decide (x1≤Gf.cF))
 (some (.inr (.inr Gf.dS)))
 (some (.inl (i64 (kr+1)))))
 (some (.inr (.inl ())))) 0).bind (Sum.elim (λ (_:Unit) =>
 some 0)
  (λ q=>some q))
noncomputable def B1(x0:ao)(x1:bt)(x2:Int)(x3:Int):Option Bool :=
 (idx x0.aR x3).bind λ eK =>
 (idx x1.deep eK.Place).bind λ iz =>
 (idx x0.aH x2).bind λ bT =>
 ag (decide (iz≤bT.np))
 ((vA x0 iz).bind λ hZ =>
 some (decide (eK.kD≤hZ)))
 (some false)
noncomputable def zD(x0:bt)(x1:b8)(x2:Int)(x3:Int):Option Bool :=
 (B1 x1.book x0 x2 x3).bind λ eZ =>
 some eZ
noncomputable def rT(x0:b8)(i k:Nat):Option Bool:=(rX x0 (λ y=>zD y x0 (k:Int) (i:Int))).bind λ n=>some (n == (x0.eV.length:Int))
noncomputable def vB(x0:b8):Option (List Bool) :=
 if (0 < x0.book.aR.length∧x0.book.aR.length≤4)∧(0 < x0.book.aH.length∧x0.book.aH.length≤4) then
  (((List.range 16).mapM λ (p:Nat)=>if p / 4 < x0.book.aR.length∧p % 4 < x0.book.aH.length then rT x0 (p / 4) (p % 4) else some false):Option (List Bool))
 else none
noncomputable def Jw(x0:ao):Option Bool :=
 (((ag (decide ((x0.Rows.length:Int) > 20))
 (some true)
 (ag (decide ((x0.aO.length:Int) > 20))
 (some true)
 (ag (decide ((x0.aH.length:Int) > 20))
 (some true)
 (ag (decide ((x0.aR.length:Int) > 20))
 (some true)
 (some (decide ((x0.aN.length:Int) > 20))))))):Option Bool)).bind (λ (sb:Bool) =>
 ag sb
 (some true)
 ((bD (O:=(Unit ⊕ Bool)) (λ (qZ:Int) =>
 ag (decide (qZ < (x0.aH.length:Int)))
 ((idx x0.aH qZ).bind λ kT =>
 ag (decide ((kT.Name.size:Int) > 100))
 (some (.inr (.inr true)))
 (some (.inl (i64 (qZ+1)))))
 (some (.inr (.inl ())))) 0).bind (Sum.elim (λ (_:Unit) =>
 some false)
  (λ q=>some q))))
noncomputable def E4(x0:ao):Option Int :=
 (ko x0.Rest 0 60).bind λ ru =>
 ag (!ru)
 (some 1)
 (some 0)
noncomputable def Ck(x0:ao):Option Int :=
 (ko (x0.Rows.length:Int) 1 4).bind λ Ye =>
 ag (!Ye)
 (some 2)
 ((bD (O:=(Unit ⊕ Int)) (λ (sx:Int) =>
 ag (decide (sx < (x0.Rows.length:Int)))
 ((idx x0.Rows sx).bind λ nV =>
 (ko nV.cF 1 30).bind λ Aj =>
 (((ag (!Aj)
 (some (!Aj))
 ((ko nV.dS 1 60).bind λ af4 =>
 some (!af4))):Option Bool)).bind (λ (NN:Bool) =>
 ag NN
 (some (.inr (.inr 1)))
 (ag (decide (sx > 0))
 ((idx x0.Rows (i64 (sx - 1))).bind λ Pa =>
 ag (decide (nV.cF≤Pa.cF))
 (some (.inr (.inr 7)))
 ((idx x0.Rows (i64 (sx - 1))).bind λ af5 =>
 ag (decide (nV.dS > af5.dS))
 (some (.inr (.inr 7)))
 (some (.inl (i64 (sx+1))))))
 (some (.inl (i64 (sx+1)))))))
 (some (.inr (.inl ())))) 0).bind (Sum.elim (λ (_:Unit) =>
 some 0)
  (λ q=>some q)))
noncomputable def JD(x0:(List Reach))(x1:(Reach→Option Bool)):Option Int :=
 (bD (O:=(Unit ⊕ Int)) (λ (cT:Int) =>
 ag (decide (cT < (x0.length:Int)))
 ((idx x0 cT).bind λ kA =>
 (x1 kA).bind λ kR =>
 ag kR
 (some (.inr (.inr cT)))
 (some (.inl (i64 (cT+1)))))
 (some (.inr (.inl ())))) 0).bind (Sum.elim (λ (_:Unit) =>
 some (-1))
  (λ q=>some q))
noncomputable def E5(x0:(List Reach))(x1:(Reach→Option Bool)):Option Bool :=
 (JD x0 x1).bind λ c9 =>
 some (decide (c9 ≥ 0))
noncomputable def Cr(x0:Reach)(x1:Int)(x2:Int)(x3:Int):Option Bool :=
 ag (decide (x1≤x0.cj))
 (ag (decide (x0.cj≤x0.dh))
 (ag (decide (x0.dh≤x2))
 (some (decide (i64 (x0.dh - x0.cj) < x3)))
 (some false))
 (some false))
 (some false)
noncomputable def Cq(x0:Reach):Option Bool :=
 (Cr x0 1 30 3).bind λ eZ =>
 some (!eZ)
noncomputable def Cl(x0:ao):Option Int :=
 (ko (x0.aO.length:Int) 1 3).bind λ sH =>
 ag (!sH)
 (some 2)
 ((E5 x0.aO (λ y=>Cq y)).bind λ iz =>
 ag iz
 (some 1)
 (some 0))
noncomputable def JE(x0:(List eQ))(x1:(eQ→Option Bool)):Option Int :=
 (bD (O:=(Unit ⊕ Int)) (λ (cT:Int) =>
 ag (decide (cT < (x0.length:Int)))
 ((idx x0 cT).bind λ kA =>
 (x1 kA).bind λ kR =>
 ag kR
 (some (.inr (.inr cT)))
 (some (.inl (i64 (cT+1)))))
 (some (.inr (.inl ())))) 0).bind (Sum.elim (λ (_:Unit) =>
 some (-1))
  (λ q=>some q))
noncomputable def E6(x0:(List eQ))(x1:(eQ→Option Bool)):Option Bool :=
 (JE x0 x1).bind λ c9 =>
 some (decide (c9 ≥ 0))
noncomputable def Cs(x0:eQ)(x1:eQ):Option Bool :=
 some (x0.Name.toList == x1.Name.toList)
noncomputable def Cm(x0:ao):Option Int :=
 (ko (x0.aH.length:Int) 1 4).bind λ Gg =>
 ag (!Gg)
 (some 2)
 ((bD (O:=(Unit ⊕ Int)) (λ (CU:Int) =>
 ag (decide (CU < (x0.aH.length:Int)))
 ((idx x0.aH CU).bind λ mR =>
 (JC mR.Name).bind λ je =>
 ag (!je)
 (some (.inr (.inr 4)))
 ((oN x0.aH 0 CU).bind λ Pt =>
 (E6 Pt (λ y=>Cs y mR)).bind λ afZ =>
 ag afZ
 (some (.inr (.inr 5)))
 ((ko mR.np 1 30).bind λ yt =>
 ag (!yt)
 (some (.inr (.inr 1)))
 (some (.inl (i64 (CU+1)))))))
 (some (.inr (.inl ())))) 0).bind (Sum.elim (λ (_:Unit) =>
 some 0)
  (λ q=>some q)))
noncomputable def o7(x0:Int)(x1:Int):Option Int :=
 (ko x0 0 (i64 (x1 - 1))).bind λ qa =>
 ag (!qa)
 (some 6)
 (some 0)
noncomputable def Co(x0:ao):Option Int :=
 (ko (x0.aR.length:Int) 1 4).bind λ yx =>
 ag (!yx)
 (some 2)
 ((bD (O:=(Unit ⊕ Int)) (λ (FR:Int) =>
 ag (decide (FR < (x0.aR.length:Int)))
 ((idx x0.aR FR).bind λ rl =>
 (o7 rl.Place (x0.aO.length:Int)).bind λ XT =>
 ag (XT != 0)
 (some (.inr (.inr XT)))
 ((ko rl.lj 0 200).bind λ Kr =>
 ag (!Kr)
 (some (.inr (.inr 1)))
 ((ko rl.kD 1 60).bind λ Kt =>
 ag (!Kt)
 (some (.inr (.inr 1)))
 ((ko rl.aH 1 3).bind λ nV =>
 ag (!nV)
 (some (.inr (.inr 1)))
 (some (.inl (i64 (FR+1))))))))
 (some (.inr (.inl ())))) 0).bind (Sum.elim (λ (_:Unit) =>
 some 0)
  (λ q=>some q)))
noncomputable def Cp(x0:ao):Option Int :=
 ag (decide ((x0.aN.length:Int) > 3))
 (some 2)
 ((bD (O:=(Unit ⊕ Int)) (λ (qZ:Int) =>
 ag (decide (qZ < (x0.aN.length:Int)))
 ((idx x0.aN qZ).bind λ Gh =>
 (o7 Gh.Place (x0.aO.length:Int)).bind λ Yl =>
 ag (Yl != 0)
 (some (.inr (.inr Yl)))
 ((ko Gh.fW 0 30).bind λ qd =>
 ag (!qd)
 (some (.inr (.inr 1)))
 (some (.inl (i64 (qZ+1))))))
 (some (.inr (.inl ())))) 0).bind (Sum.elim (λ (_:Unit) =>
 some 0)
  (λ q=>some q)))
noncomputable def o8(x0:ao):Option Int :=
 (E4 (⟨x0.Rest,x0.Rows,x0.aO,x0.aH,x0.aR,x0.aN⟩:ao)).bind λ fE =>
 ag (fE != 0)
 (some fE)
 ((Ck (⟨x0.Rest,x0.Rows,x0.aO,x0.aH,x0.aR,x0.aN⟩:ao)).bind λ jB =>
 ag (jB != 0)
 (some jB)
 ((Cl (⟨x0.Rest,x0.Rows,x0.aO,x0.aH,x0.aR,x0.aN⟩:ao)).bind λ uA =>
 ag (uA != 0)
 (some uA)
 ((Cm (⟨x0.Rest,x0.Rows,x0.aO,x0.aH,x0.aR,x0.aN⟩:ao)).bind λ mO =>
 ag (mO != 0)
 (some mO)
 ((Co (⟨x0.Rest,x0.Rows,x0.aO,x0.aH,x0.aR,x0.aN⟩:ao)).bind λ nj =>
 ag (nj != 0)
 (some nj)
 ((Cp (⟨x0.Rest,x0.Rows,x0.aO,x0.aH,x0.aR,x0.aN⟩:ao)).bind λ kR =>
 ag (kR != 0)
 (some kR)
 (some 0))))))
noncomputable def EU (x1:(bt→((List bt) ⊕ Empty)→Option (((List bt) ⊕ Empty) × Bool))→((List bt) ⊕ Empty)→Option ((List bt) ⊕ Empty)):Option (List bt) :=
 (x1 (gm (λ (rz:bt) (jZ:(List bt))=>(((eJ jZ [rz]).bind λ ib =>
 some (.inl ib)):Option ((List bt) ⊕ Empty)))) (.inl [])).bind (Sum.elim (λ (jZ:(List bt)) =>
 some jZ)
  (λ (o:Empty)=>o.elim))
noncomputable def xz (x0:(bt→((List bt) ⊕ Empty)→Option (((List bt) ⊕ Empty) × Bool))→((List bt) ⊕ Empty)→Option ((List bt) ⊕ Empty)):Option (List bt) :=
 (EU x0).bind λ c9 =>
 some c9
noncomputable def Jy(x0:(List cz))(x1:(cz→Option Bool)):Option Int :=
 (bD (O:=(Unit ⊕ Int)) (λ (cT:Int) =>
 ag (decide (cT < (x0.length:Int)))
 ((idx x0 cT).bind λ kA =>
 (x1 kA).bind λ kR =>
 ag kR
 (some (.inr (.inr cT)))
 (some (.inl (i64 (cT+1)))))
 (some (.inr (.inl ())))) 0).bind (Sum.elim (λ (_:Unit) =>
 some (-1))
  (λ q=>some q))
noncomputable def EY(x0:(List cz))(x1:(cz→Option Bool)):Option Bool :=
 (Jy x0 x1).bind λ c9 =>
 some (decide (c9 ≥ 0))
noncomputable def Ch(x0:cz)(x1:bt):Option Bool :=
 (idx x1.deep x0.Place).bind λ eZ =>
 some (!((decide (eZ≤x0.fW)) == x0.jC))
noncomputable def zC(x0:ao)(x1:bt):Option Bool :=
 (EY x0.aN (λ y=>Ch y x1)).bind λ pv =>
 some (!pv)
noncomputable def qK{S:Type}(ys:bt→S→Option (S × Bool)):Nat→Int→ao→bt→S→Option (S × (bt × Bool))
 | 0,_,_,_,_=>none
 | k+1,x0,x1,x2,s0 =>
  ag (x0 == (x1.aO.length:Int))
  (((((zC x1 x2).bind λ eK =>
  ag (!eK)
  (some (s0,true))
  ((ys x2 s0).bind λ iz =>
  some (iz.1,iz.2))):Option (S × Bool))).bind (λ (xF:(S × Bool)) =>
  some (xF.1,(x2,xF.2))))
  ((idx x1.aO x0).bind λ bT =>
  (bD (O:=((S × (List Int)) ⊕ (S × (bt × Bool)))) (λ (bS:(S × Int × (List Int))) =>
  (idx x1.aO x0).bind λ eT =>
  ag (decide (bS.2.1≤eT.dh))
  ((idx bS.2.2 x0).bind λ _ =>
  (qK ys k (i64 (x0+1)) x1 (⟨bS.2.2.set x0.toNat bS.2.1⟩:bt) bS.1).bind λ ic =>
  ag (!ic.2.2)
  (some (.inr (.inr (ic.1,(ic.2.1,false)))))
  (some (.inl (ic.1,i64 (bS.2.1+1),ic.2.1.deep))))
  (some (.inr (.inl (bS.1,bS.2.2))))) (s0,bT.cj,x2.deep)).bind (Sum.elim (λ (nL:(S × (List Int))) =>
  some (nL.1,((⟨nL.2⟩:bt),true)))
   (λ q=>some q)))
noncomputable def o9{S:Type}(ys:bt→S→Option (S × Bool))(x0:ao)(s0:S):Option S :=
 (qK ys 9 0 x0 (⟨[0,0,0]⟩:bt) s0).bind λ rv =>
  some rv.1
noncomputable def E2(x0:ao):Option (Int × Int) :=
 (o8 x0).bind λ rv =>
 ag (rv != 0)
 (some (0,rv))
 ((xz (λ y s=>o9 y (⟨x0.Rest,x0.Rows,x0.aO,x0.aH,x0.aR,x0.aN⟩:ao) s)).bind λ gI =>
 some ((gI.length:Int),0))
noncomputable def ou(x0:ao)(x1:(ao→Option Int)):Option (b8 × Int) :=
 (o8 x0).bind λ hZ =>
 ag (hZ != 0)
 (some ((⟨⟨0,[],[],[],[],[]⟩,[]⟩:b8),hZ))
 ((x1 x0).bind λ fl =>
 ag (fl != 0)
 (some ((⟨⟨0,[],[],[],[],[]⟩,[]⟩:b8),fl))
 ((xz (λ y s=>o9 y x0 s)).bind λ jB =>
 ag ((jB.length:Int) == 0)
 (some ((⟨⟨0,[],[],[],[],[]⟩,[]⟩:b8),9))
 (some ((⟨⟨x0.Rest,x0.Rows,x0.aO,x0.aH,x0.aR,x0.aN⟩,jB⟩:b8),0))))
noncomputable def rY(x0:ao)(x1:Int):Option Int :=
 (o7 x1 (x0.aO.length:Int)).bind λ eZ =>
 some eZ
noncomputable def Ff(x0:Int):Option Int :=
 some x0
noncomputable def zE(x0:Int):Option Bool :=
 some (x0 != x0)
noncomputable def JA(x0:Int)(x1:Int):Option Bool :=
 (zE x0).bind λ ru =>
 ag ru
 ((zE x1).bind λ Ao =>
 ag (!Ao)
 (some true)
 (some (decide (x0 < x1))))
 (some (decide (x0 < x1)))
noncomputable def Jz(x0:(List Int))(x1:Int)(x2:Int):Option (List Int) :=
 (bD (O:=(List Int)) (λ (sj:((List Int) × Int)) =>
 ag (decide (sj.2 < x2))
 ((bD (O:=(List Int)) (λ (ju:((List Int) × Int)) =>
 (((ag (decide (ju.2 > x1))
 ((idx ju.1 ju.2).bind λ Ya =>
 (idx ju.1 (i64 (ju.2 - 1))).bind λ Yb =>
 (JA Ya Yb).bind λ agw =>
 some agw)
 (some false)):Option Bool)).bind (λ (NT:Bool) =>
 ag NT
 ((idx ju.1 (i64 (ju.2 - 1))).bind λ Pm =>
 (idx ju.1 ju.2).bind λ Yc =>
 (idx ju.1 ju.2).bind λ _ =>
 (idx (ju.1.set ju.2.toNat Pm) (i64 (ju.2 - 1))).bind λ _ =>
 some (.inl ((ju.1.set ju.2.toNat Pm).set (i64 (ju.2 - 1)).toNat Yc,i64 (ju.2 - 1))))
 (some (.inr ju.1)))) (sj.1,sj.2)).bind (λ (NS:(List Int)) =>
 some (.inl (NS,i64 (sj.2+1)))))
 (some (.inr sj.1))) (x0,i64 (x1+1))).bind (λ (NQ:(List Int)) =>
 some NQ)
noncomputable def JB(x0:Int):Option Int :=
 (((ag (decide (x0 ≥ 4294967296))
 ((nh .u64 x0 32).bind λ fl =>
 some (fl,32))
 (some (x0,0))):Option (Int × Int))).bind (λ (xI:(Int × Int)) =>
 (((ag (decide (xI.1 ≥ 65536))
 ((nh .u64 xI.1 16).bind λ gQ =>
 some (gQ,i64 (xI.2+16)))
 (some (xI.1,xI.2))):Option (Int × Int))).bind (λ (pd:(Int × Int)) =>
 (((ag (decide (pd.1 ≥ 256))
 ((nh .u64 pd.1 8).bind λ mO =>
 some (mO,i64 (pd.2+8)))
 (some (pd.1,pd.2))):Option (Int × Int))).bind (λ (tW:(Int × Int)) =>
 (uk (⟨#[0,1,2,2,3,3,3,3,4,4,4,4,4,4,4,4,5,5,5,5,5,5,5,5,5,5,5,5,5,5,5,5,6,6,6,6,6,6,6,6,6,6,6,6,6,6,6,6,6,6,6,6,6,6,6,6,6,6,6,6,6,6,6,6,7,7,7,7,7,7,7,7,7,7,7,7,7,7,7,7,7,7,7,7,7,7,7,7,7,7,7,7,7,7,7,7,7,7,7,7,7,7,7,7,7,7,7,7,7,7,7,7,7,7,7,7,7,7,7,7,7,7,7,7,7,7,7,7,8,8,8,8,8,8,8,8,8,8,8,8,8,8,8,8,8,8,8,8,8,8,8,8,8,8,8,8,8,8,8,8,8,8,8,8,8,8,8,8,8,8,8,8,8,8,8,8,8,8,8,8,8,8,8,8,8,8,8,8,8,8,8,8,8,8,8,8,8,8,8,8,8,8,8,8,8,8,8,8,8,8,8,8,8,8,8,8,8,8,8,8,8,8,8,8,8,8,8,8,8,8,8,8,8,8,8,8,8,8,8,8,8,8,8,8,8,8,8,8,8,8,8,8,8,8,8,8]⟩) (IntKind.wrap .u8 tW.1)).bind λ Dr =>
 some (i64 (tW.2+(i64 Dr))))))
noncomputable def EZ(x0:Int):Option Int :=
 (JB x0).bind λ c9 =>
 some c9
noncomputable def Jv(x0:(List Int))(x1:Int)(x2:Int)(_:Int):Option (List Int) :=
 (bD (O:=(List Int)) (λ (_:Unit) =>
 ag (decide (i64 (x2 - x1)≤12))
 ((Jz x0 x1 x2).bind λ fE =>
 some (.inr fE))
 (none)) ()).bind (λ q=>some q)
noncomputable def EW(x0:(List Int)):Option (List Int) :=
 (EZ (IntKind.wrap .u64 (x0.length:Int))).bind λ qa =>
 (Jv x0 0 (x0.length:Int) qa).bind λ eZ =>
 some eZ
noncomputable def EX(x0:(List Int)):Option (List Int) :=
 ag (decide ((x0.length:Int) < 2))
 (some x0)
 ((bD (O:=(Unit ⊕ (List Int))) (λ (nO:Int) =>
 ag (decide (nO < (x0.length:Int)))
 ((idx x0 nO).bind λ Gb =>
 (idx x0 (i64 (nO - 1))).bind λ vV =>
 ag (Gb == vV)
 ((oN x0 nO (x0.length:Int)).bind λ _ =>
 (bD (O:=((List Int) × Int)) (λ (jY:((List Int) × Int × Int)) =>
 ag (decide (jY.2.2 < ((jY.1.drop nO.toNat).length:Int)))
 ((idx (jY.1.drop nO.toNat) jY.2.2).bind λ agl =>
 (idx (jY.1.drop nO.toNat) (i64 (jY.2.2 - 1))).bind λ X6 =>
 ag (agl != X6)
 ((idx (jY.1.drop nO.toNat) jY.2.2).bind λ X7 =>
 (idx jY.1 jY.2.1).bind λ _ =>
 some (.inl (jY.1.set jY.2.1.toNat X7,i64 (jY.2.1+1),i64 (jY.2.2+1))))
 (some (.inl (jY.1,jY.2.1,i64 (jY.2.2+1)))))
 (some (.inr (jY.1,jY.2.1)))) (x0,nO,1)).bind (λ (vK:((List Int) × Int)) =>
 (oN vK.1 vK.2 (vK.1.length:Int)).bind λ _ =>
 (oN (yT vK.1 vK.2.toNat) 0 vK.2).bind λ ago =>
 some (.inr (.inr ago))))
 (some (.inl (i64 (nO+1)))))
 (some (.inr (.inl ())))) 1).bind (Sum.elim (λ (_:Unit) =>
 some x0)
  (λ q=>some q)))
noncomputable def Fg(x0:b8)(x1:(bt→Option Int)):Option (List Int) :=
 (bD (O:=(List Int)) (λ (pk:((List Int) × Int)) =>
 ag (decide (pk.2 < (x0.eV.length:Int)))
 ((idx x0.eV pk.2).bind λ mQ =>
 (x1 mQ).bind λ yx =>
 (eJ pk.1 [yx]).bind λ oC =>
 some (.inl (oC,i64 (pk.2+1))))
 (some (.inr pk.1))) ([],0)).bind (λ (sb:(List Int)) =>
 (EW sb).bind λ oD =>
 (EX oD).bind λ kT =>
 some kT)
noncomputable def Fh(x0:bt)(x1:Int):Option Int :=
 (idx x0.deep x1).bind λ eZ =>
 some eZ
noncomputable def E3(x0:ao)(x1:Int):Option ((List Int) × Int) :=
 (Ff x1).bind λ eK =>
 (ou x0 (λ y=>rY y eK)).bind λ gI =>
 ag (gI.2 != 0)
 (some ([],gI.2))
 ((Fg gI.1 (λ y=>Fh y x1)).bind λ hZ =>
 some (hZ,0))
noncomputable def EK(x0:bt)(x1:b8)(x2:Int):Option Int :=
 (idx x0.deep x2).bind λ ru =>
 (vA x1.book ru).bind λ pv =>
 some pv
noncomputable def E7(x0:ao)(x1:Int):Option (Reach × Int) :=
 (Ff x1).bind λ jd =>
 (ou x0 (λ y=>rY y jd)).bind λ fD =>
 ag (fD.2 != 0)
 (some ((⟨0,0⟩:Reach),fD.2))
 ((Fg fD.1 (λ y=>EK y fD.1 x1)).bind λ ib =>
 (idx ib 0).bind λ jB =>
 (idx ib (i64 ((ib.length:Int) - 1))).bind λ gQ =>
 some ((⟨jB,gQ⟩:Reach),0))
noncomputable def EL(x0:ao)(x1:Int)(x2:Int):Option Int :=
 (o7 x1 (x0.aH.length:Int)).bind λ ru =>
 (o7 x2 (x0.aR.length:Int)).bind λ pv =>
 some (pX ru [pv])
noncomputable def B0(x0:b8)(x1:Int):Option Int :=
 ag (x1 == 0)
 (some 2)
 (ag (x1 == (x0.eV.length:Int))
 (some 1)
 (some 0))
noncomputable def EM(x0:bt)(x1:b8)(x2:Int)(x3:Int):Option Bool :=
 (B1 x1.book x0 x2 x3).bind λ eZ =>
 some eZ
noncomputable def zF(x0:ao)(x1:Int)(x2:Int):Option (Int × Int) :=
 (ou x0 (λ y=>EL y x1 x2)).bind λ bT =>
 ag (bT.2 != 0)
 (some (0,bT.2))
 ((rX bT.1 (λ y=>EM y bT.1 x1 x2)).bind λ du =>
 (B0 bT.1 du).bind λ ia =>
 some (ia,0))
noncomputable def B6(x0:(List Int)):Option (List Bool) :=
 (bD (O:=(List Bool)) (λ (uf:(Int × (List Bool))) =>
 ag (decide (uf.1 < (x0.length:Int)))
 ((idx x0 uf.1).bind λ ic =>
 (idx uf.2 ic).bind λ _ =>
 some (.inl (i64 (uf.1+1),uf.2.set ic.toNat true)))
 (some (.inr uf.2))) (0,[false,false,false,false])).bind (λ (JY:(List Bool)) =>
 some JY)
noncomputable def Jk(x0:ao)(x1:(List (List Int))):Option ((List Bool) × Int) :=
 ag ((x1.length:Int) != (x0.aR.length:Int))
 (some ([false,false,false,false,false,false,false,false,false,false,false,false,false,false,false,false],2))
 ((bD (O:=((List Bool) ⊕ ((List Bool) × Int))) (λ (gn:(Int × (List Bool))) =>
 ag (decide (gn.1 < (x1.length:Int)))
 ((idx x1 gn.1).bind λ py =>
 (idx x0.aR gn.1).bind λ Ph =>
 ag ((py.length:Int) != Ph.aH)
 (some (.inr (.inr ([false,false,false,false,false,false,false,false,false,false,false,false,false,false,false,false],2))))
 ((bD (O:=(Unit ⊕ ((List Bool) × Int))) (λ (pg:Int) =>
 ag (decide (pg < (py.length:Int)))
 ((idx py pg).bind λ Dp =>
 (o7 Dp (x0.aH.length:Int)).bind λ Gd =>
 ag (Gd != 0)
 (some (.inr (.inr ([false,false,false,false,false,false,false,false,false,false,false,false,false,false,false,false],Gd))))
 ((((ag (decide (pg > 0))
 ((idx py (i64 (pg - 1))).bind λ Pj =>
 some (decide (Dp≤Pj)))
 (some false)):Option Bool)).bind (λ (FK:Bool) =>
 ag FK
 (some (.inr (.inr ([false,false,false,false,false,false,false,false,false,false,false,false,false,false,false,false],7))))
 (some (.inl (i64 (pg+1)))))))
 (some (.inr (.inl ())))) 0).bind (Sum.elim (λ (_:Unit) =>
 (B6 py).bind λ Pk =>
 (ja 4 gn.2 gn.1).bind λ _ =>
 some (.inl (i64 (gn.1+1),FU 4 gn.2 gn.1 Pk)))
  (λ q=>some (.inr (.inr q))))))
 (some (.inr (.inl gn.2)))) (0,[false,false,false,false,false,false,false,false,false,false,false,false,false,false,false,false])).bind (Sum.elim (λ (CG:(List Bool)) =>
 some (CG,0))
  (λ q=>some q)))
noncomputable def Jj(x0:ao)(x1:(List (List Int)))(_:(List Bool)):Option ((List Bool) × Int) :=
 (Jk x0 x1).bind λ eZ =>
 some (eZ.1,eZ.2)
noncomputable def ER(x0:ao)(x1:Int)(x2:Int):Option Bool :=
 (idx x0.aR x1).bind λ mM =>
 (idx x0.aR x2).bind λ eK =>
 ag (x1 != x2)
 (ag (decide (eK.lj ≥ i64 ((i64 (mM.lj+mM.kD))+x0.Rest)))
 (some true)
 (some (decide (mM.lj ≥ i64 ((i64 (eK.lj+eK.kD))+x0.Rest)))))
 (some false)
noncomputable def B2(x0:ao)(x1:(List Bool))(x2:Int):Option Bool :=
 (bD (O:=(Unit ⊕ Bool)) (λ (gy:Int) =>
 ag (decide (gy < x2))
 ((ER x0 gy x2).bind λ Dd =>
 ag Dd
 (some (.inl (i64 (gy+1))))
 ((bD (O:=(Unit ⊕ Bool)) (λ (zX:Int) =>
 ag (decide (zX < (x0.aH.length:Int)))
 ((ja 4 x1 gy).bind λ agf =>
 (idx agf zX).bind λ agh =>
 ag agh
 ((ja 4 x1 x2).bind λ agi =>
 (idx agi zX).bind λ agj =>
 ag agj
 (some (.inr (.inr false)))
 (some (.inl (i64 (zX+1)))))
 (some (.inl (i64 (zX+1)))))
 (some (.inr (.inl ())))) 0).bind (Sum.elim (λ (_:Unit) =>
 some (.inl (i64 (gy+1))))
  (λ q=>some (.inr (.inr q))))))
 (some (.inr (.inl ())))) 0).bind (Sum.elim (λ (_:Unit) =>
 some true)
  (λ q=>some q))
noncomputable def B3(x0:bt)(x1:ao)(x2:(List Bool))(x3:b8):Option Bool :=
 (bD (O:=(Unit ⊕ Bool)) (λ (tZ:Int) =>
 ag (decide (tZ < (x1.aR.length:Int)))
 ((ja 4 x2 tZ).bind λ Pb =>
 (bD (O:=(Unit ⊕ Bool)) (λ (xV:Int) =>
 ag (decide (xV < 4))
 ((idx Pb xV).bind λ XX =>
 ag XX
 ((B1 x3.book x0 xV tZ).bind λ XY =>
 ag (!XY)
 (some (.inr (.inr false)))
 (some (.inl (i64 (xV+1)))))
 (some (.inl (i64 (xV+1)))))
 (some (.inr (.inl ())))) 0).bind (Sum.elim (λ (_:Unit) =>
 some (.inl (i64 (tZ+1))))
  (λ q=>some (.inr (.inr q)))))
 (some (.inr (.inl ())))) 0).bind (Sum.elim (λ (_:Unit) =>
 some true)
  (λ q=>some q))
noncomputable def Ji(x0:ao)(vU:(List (List Int)))(rp:(List Bool)):Option ((List Bool) × b8 × Int) :=
 (o8 x0).bind λ hZ =>
 ag (hZ != 0)
 (some (rp,(⟨⟨0,[],[],[],[],[]⟩,[]⟩:b8),hZ))
 ((Jj x0 vU rp).bind λ fl =>
 ag (fl.2 != 0)
 (some (fl.1,(⟨⟨0,[],[],[],[],[]⟩,[]⟩:b8),fl.2))
 ((xz (λ y s=>o9 y x0 s)).bind λ jB =>
 ag ((jB.length:Int) == 0)
 (some (fl.1,(⟨⟨0,[],[],[],[],[]⟩,[]⟩:b8),9))
 (some (fl.1,(⟨⟨x0.Rest,x0.Rows,x0.aO,x0.aH,x0.aR,x0.aN⟩,jB⟩:b8),0))))
noncomputable def m32(x0:ao)(x1:(List (List Int))):Option (Int × Int) :=
 (Ji x0 x1 [false,false,false,false,false,false,false,false,false,false,false,false,false,false,false,false]).bind λ eT =>
 ag (eT.2.2 != 0)
 (some (0,eT.2.2))
 ((bD (O:=(Unit ⊕ (Int × Int))) (λ (ug:Int) =>
 ag (decide (ug < (x0.aR.length:Int)))
 ((B2 eT.2.1.book eT.1 ug).bind λ kS =>
 ag (!kS)
 (some (.inr (.inr (2,0))))
 (some (.inl (i64 (ug+1)))))
 (some (.inr (.inl ())))) 0).bind (Sum.elim (λ (_:Unit) =>
 (rX eT.2.1 (λ y=>B3 y x0 eT.1 eT.2.1)).bind λ mQ =>
 (B0 eT.2.1 mQ).bind λ Pq =>
 some (Pq,0))
  (λ q=>some q)))
noncomputable def nb(_:ao):Option Int :=
 some 0
noncomputable def pU{S:Type}(ys:(List Bool)→S→Option (S × Bool)):Nat→((List Bool)→Int→b8→Int→(List Bool)→(List Bool)→S→Option (S × Bool)) × ((List Bool)→Int→Int→Int→b8→Int→(List Bool)→(List Bool)→S→Option (S × Bool))
 | 0=>(λ _ _ _ _ _ _ _=>none,λ _ _ _ _ _ _ _ _ _=>none)
 | k+1=>(λ x0 x1 xX xO xG xA s0 =>
  ag (x1 == (xX.book.aR.length:Int))
  ((ys x0 s0).bind λ mM =>
  some (mM.1,mM.2))
  ((nh .i64 xO x1).bind λ eK =>
  (gh .and .i64 eK 1).bind λ gI =>
  ag (gI == 1)
  (((pU ys k).1 x0 (i64 (x1+1)) xX xO xG xA s0).bind λ jd =>
  some (jd.1,jd.2))
  ((idx xX.book.aR x1).bind λ fD =>
  ((pU ys k).2 x0 x1 0 fD.aH xX xO xG xA s0).bind λ du =>
  some (du.1,du.2))),
  λ x0 x1 x2 x3 xX xO xG xA s0 =>
  ag (x3 == 0)
  (((((B2 xX.book x0 x1).bind λ gI =>
  ag (!gI)
  (some (s0,true))
  (((pU ys k).1 x0 (i64 (x1+1)) xX xO xG xA s0).bind λ bT =>
  some (bT.1,bT.2))):Option (S × Bool))).bind (λ (xH:(S × Bool)) =>
  some (xH.1,xH.2)))
  ((bD (O:=(S ⊕ (S × Bool))) (λ (bS:(S × Int × (List Bool))) =>
  ag (decide (bS.2.1 < (xX.book.aH.length:Int)))
  (((((idx xG bS.2.1).bind λ Pr =>
  ag (!Pr)
  (some true)
  ((ja 4 xA x1).bind λ v7 =>
  (idx v7 bS.2.1).bind λ Ps =>
  some (!Ps))):Option Bool)).bind (λ (FM:Bool) =>
  ag FM
  (some (.inl (bS.1,i64 (bS.2.1+1),bS.2.2)))
  ((ja 4 bS.2.2 x1).bind λ oE =>
  (idx oE bS.2.1).bind λ _ =>
  ((pU ys k).2 (pn 4 bS.2.2 x1 bS.2.1 true) x1 (i64 (bS.2.1+1)) (i64 (x3 - 1)) xX xO xG xA bS.1).bind λ pz =>
  ag (!pz.2)
  (some (.inr (.inr (pz.1,false))))
  ((ja 4 (pn 4 bS.2.2 x1 bS.2.1 true) x1).bind λ yt =>
  (idx yt bS.2.1).bind λ _ =>
  some (.inl (pz.1,i64 (bS.2.1+1),pn 4 (pn 4 bS.2.2 x1 bS.2.1 true) x1 bS.2.1 false))))))
  (some (.inr (.inl bS.1)))) (s0,x2,x0)).bind (Sum.elim (λ (nL:S) =>
  some (nL,true))
   (λ q=>some q))))
noncomputable def rZ{S:Type}(ys:(List Bool)→S→Option (S × Bool))(x1:b8)(x2:Int)(x3:(List Bool))(x4:(List Bool))(s0:S):Option S :=
 ((pU ys 40).1 [false,false,false,false,false,false,false,false,false,false,false,false,false,false,false,false] 0 x1 x2 x3 x4 s0).bind λ Ao =>
  some Ao.1
noncomputable def zz(x0:b8)(x1:(List Bool))(x2:(List Bool))(x3:Int):Option (b8 × Int × (List Bool) × (List Bool)) :=
 some (x0,x3,x2,x1)
noncomputable def xt(x0:ao):Option (List Bool) :=
 (bD (O:=(List Bool)) (λ (cT:(Int × (List Bool))) =>
 ag (decide (cT.1 < (x0.aH.length:Int)))
 ((idx cT.2 cT.1).bind λ _ =>
 some (.inl (i64 (cT.1+1),cT.2.set cT.1.toNat true)))
 (some (.inr cT.2))) (0,[false,false,false,false])).bind (λ (jW:(List Bool)) =>
 some jW)
noncomputable def Ct(x0:ao):Option (Int × Int) :=
 (ou x0 (λ y=>nb y)).bind λ iz =>
 ag (iz.2 != 0)
 (some (0,iz.2))
 ((vB iz.1).bind λ du =>
 (xt iz.1.book).bind λ ia =>
 (zz iz.1 du ia 0).bind λ fl =>
 (rZ (gm (λ (_:(List Bool)) (kr:Int)=>((some (.inl (i64 (kr+1)))):Option (Int ⊕ Empty)))) fl.1 fl.2.1 fl.2.2.1 fl.2.2.2 (.inl 0)).bind (Sum.elim (λ (kr:Int) =>
 some (kr,0))
  (λ (o:Empty)=>o.elim)))
noncomputable def EN(x0:ao)(x1:(List Bool)):Option (List (List Int)) :=
 (bD (O:=(List (List Int))) (λ (ua:((List (List Int)) × Int)) =>
 ag (decide (ua.2 < (x0.aR.length:Int)))
 ((ja 4 x1 ua.2).bind λ yv =>
 (bD (O:=(List Int)) (λ (qX:((List Int) × Int)) =>
 ag (decide (qX.2 < 4))
 ((idx yv qX.2).bind λ agb =>
 ag agb
 ((eJ qX.1 [qX.2]).bind λ agc =>
 some (.inl (agc,i64 (qX.2+1))))
 (some (.inl (qX.1,i64 (qX.2+1)))))
 (some (.inr qX.1))) ([],0)).bind (λ (JX:(List Int)) =>
 (eJ ua.1 [JX]).bind λ agd =>
 some (.inl (agd,i64 (ua.2+1)))))
 (some (.inr ua.1))) ([],0)).bind (λ (NL:(List (List Int))) =>
 some NL)
noncomputable def E8(x0:ao):Option ((List (List Int)) × Bool × Int) :=
 (ou x0 (λ y=>nb y)).bind λ fE =>
 ag (fE.2 != 0)
 (some ([],false,fE.2))
 ((vB fE.1).bind λ vZ =>
 (xt fE.1.book).bind λ uA =>
 (zz fE.1 vZ uA 0).bind λ mN =>
 (rZ (gm (λ (Yd:(List Bool)) (_:Unit)=>(((EN fE.1.book Yd).bind λ nj =>
 some (.inr nj)):Option (Unit ⊕ (List (List Int)))))) mN.1 mN.2.1 mN.2.2.1 mN.2.2.2 (.inl ())).bind (Sum.elim (λ (_:Unit) =>
 some ([],false,0))
  (λ (l9:(List (List Int))) =>
 some (l9,true,0))))
noncomputable def Js (x1:((List Bool)→((List (List Bool)) ⊕ Empty)→Option (((List (List Bool)) ⊕ Empty) × Bool))→((List (List Bool)) ⊕ Empty)→Option ((List (List Bool)) ⊕ Empty)):Option (List (List Bool)) :=
 (x1 (gm (λ (rz:(List Bool)) (jZ:(List (List Bool)))=>(((eJ jZ [rz]).bind λ ib =>
 some (.inl ib)):Option ((List (List Bool)) ⊕ Empty)))) (.inl [])).bind (Sum.elim (λ (jZ:(List (List Bool))) =>
 some jZ)
  (λ (o:Empty)=>o.elim))
noncomputable def Jl (x0:((List Bool)→((List (List Bool)) ⊕ Empty)→Option (((List (List Bool)) ⊕ Empty) × Bool))→((List (List Bool)) ⊕ Empty)→Option ((List (List Bool)) ⊕ Empty)):Option (List (List Bool)) :=
 (Js x0).bind λ c9 =>
 some c9
noncomputable def Jm(x0:((List Bool)→Option Int))(x1:(List (List Bool))):Option (List Bool) :=
 (idx x1 0).bind λ mO =>
 (oN x1 1 (x1.length:Int)).bind λ qc =>
 (bD (O:=(List Bool)) (λ (ma:(Int × (List Bool))) =>
 ag (decide (ma.1 < (qc.length:Int)))
 ((idx qc ma.1).bind λ yy =>
 (x0 yy).bind λ oD =>
 (x0 ma.2).bind λ kT =>
 ag (decide (oD < kT))
 (some (.inl (i64 (ma.1+1),yy)))
 (some (.inl (i64 (ma.1+1),ma.2))))
 (some (.inr ma.2))) (0,mO)).bind (λ (CH:(List Bool)) =>
 some CH)
noncomputable def B5(x0:ao)(x1:(List Bool)):Option Int :=
 (bD (O:=Int) (λ (fM:((Int→Int) × Int × Int)) =>
 ag (decide (fM.2.2 < (x0.aR.length:Int)))
 ((idx x0.aR fM.2.2).bind λ oA =>
 (ja 4 x1 fM.2.2).bind λ Dc =>
 (bD (O:=((Int→Int) × Int)) (λ (gz:((Int→Int) × Int × Int)) =>
 ag (decide (gz.2.2 < 4))
 ((idx Dc gz.2.2).bind λ yv =>
 ag yv
 (some (.inl (sC gz.1 gz.2.2 (i64 ((gz.1 gz.2.2)+oA.kD)),pX gz.2.1 [(sC gz.1 gz.2.2 (i64 ((gz.1 gz.2.2)+oA.kD))) gz.2.2],i64 (gz.2.2+1))))
 (some (.inl (gz.1,gz.2.1,i64 (gz.2.2+1)))))
 (some (.inr (gz.1,gz.2.1)))) (fM.1,fM.2.1,0)).bind (λ (FD:((Int→Int) × Int)) =>
 some (.inl (FD.1,FD.2,i64 (fM.2.2+1)))))
 (some (.inr fM.2.1))) ((λ _=>0),0,0)).bind (λ (qS:Int) =>
 some qS)
noncomputable def E9(x0:ao):Option ((List (List Int)) × Int × Bool × Int) :=
 (ou x0 (λ y=>nb y)).bind λ du =>
 ag (du.2 != 0)
 (some ([],0,false,du.2))
 ((vB du.1).bind λ ib =>
 (xt du.1.book).bind λ jB =>
 (zz du.1 ib jB 0).bind λ gQ =>
 (Jl (λ y s=>rZ y gQ.1 gQ.2.1 gQ.2.2.1 gQ.2.2.2 s)).bind λ vZ =>
 ag ((vZ.length:Int) == 0)
 (some ([],0,false,0))
 ((Jm (λ y=>B5 du.1.book y) vZ).bind λ mO =>
 (EN du.1.book mO).bind λ qc =>
 (B5 du.1.book mO).bind λ nj =>
 some (qc,nj,true,0)))
noncomputable def xv(x0:Int):Option (List Int) :=
 (bD (O:=(List Int)) (λ (qY:((List Int) × Int)) =>
 ag (decide (qY.2 < 4))
 ((nh .i64 x0 qY.2).bind λ Aq =>
 (gh .and .i64 Aq 1).bind λ mP =>
 ag (mP == 1)
 ((eJ qY.1 [qY.2]).bind λ mQ =>
 some (.inl (mQ,i64 (qY.2+1))))
 (some (.inl (qY.1,i64 (qY.2+1)))))
 (some (.inr qY.1))) ([],0)).bind (λ (tW:(List Int)) =>
 some tW)
noncomputable def Jx(x0:Int)(x1:Int):Option Int :=
 (zE x0).bind λ jd =>
 (zE x1).bind λ fD =>
 ag jd
 (ag fD
 (some 0)
 (some (-1)))
 (ag fD
 (some 1)
 (ag (decide (x0 < x1))
 (some (-1))
 (ag (decide (x0 > x1))
 (some 1)
 (some 0))))
noncomputable def Cc(x0:(List Int))(x1:(List Int)):Option Int :=
 (bD (O:=(Unit ⊕ Int)) (λ (zZ:Int) =>
 ag (decide (zZ < (x0.length:Int)))
 ((idx x0 zZ).bind λ kT =>
 ag (decide (zZ ≥ (x1.length:Int)))
 (some (.inr (.inr 1)))
 ((idx x1 zZ).bind λ Yf =>
 (Jx kT Yf).bind λ Yg =>
 ag (Yg != 0)
 (some (.inr (.inr Yg)))
 (some (.inl (i64 (zZ+1))))))
 (some (.inr (.inl ())))) 0).bind (Sum.elim (λ (_:Unit) =>
 ag (decide ((x0.length:Int) < (x1.length:Int)))
 (some (-1))
 (some 0))
  (λ q=>some q))
noncomputable def xu(x0:Int)(x1:(Int→Option Bool)):Option ((List Int) × Bool) :=
 (FX .i64 1 x0).bind λ oC =>
 (bD (O:=((List Int) × Bool)) (λ (fq:((List Int) × Bool × Int)) =>
 ag (decide (fq.2.2 < oC))
 ((xv fq.2.2).bind λ pr =>
 (((ag (!fq.2.1)
 ((x1 fq.2.2).bind λ nV =>
 some nV)
 (ag (decide ((pr.length:Int) < (fq.1.length:Int)))
 ((x1 fq.2.2).bind λ Aj =>
 some Aj)
 (ag ((pr.length:Int) == (fq.1.length:Int))
 ((Cc pr fq.1).bind λ Da =>
 ag (decide (Da < 0))
 ((x1 fq.2.2).bind λ O9 =>
 some O9)
 (some false))
 (some false)))):Option Bool)).bind (λ (Fz:Bool) =>
 ag Fz
 (some (.inl (pr,true,i64 (fq.2.2+1))))
 (some (.inl (fq.1,fq.2.1,i64 (fq.2.2+1))))))
 (some (.inr (fq.1,fq.2.1)))) ([],false,0)).bind (λ (xK:((List Int) × Bool)) =>
 some (xK.1,xK.2))
noncomputable def B7(x0:b8)(x1:(List Bool))(x2:(List Bool))(x3:Int):Option Bool :=
 (zz x0 x1 x2 x3).bind λ eK =>
 (rZ (gm (λ (_:(List Bool)) (_:Unit)=>((some (.inr ())):Option (Unit ⊕ Unit)))) eK.1 eK.2.1 eK.2.2.1 eK.2.2.2 (.inl ())).bind (Sum.elim (λ (_:Unit) =>
 some false)
  (λ (_:Unit) =>
 some true))
noncomputable def EO(x0:Int)(x1:b8)(x2:(List Bool))(x3:(List Bool)):Option Bool :=
 (xv x0).bind λ rv =>
 (B6 rv).bind λ sH =>
 (B7 x1 x2 sH 0).bind λ eK =>
 ag eK
 (some true)
 (ag (Ra sH x3 == true)
 ((B7 x1 x2 x3 0).bind λ bT =>
 some bT)
 (some false))
noncomputable def Fa(x0:ao):Option ((List Int) × Bool × Int) :=
 (ou x0 (λ y=>nb y)).bind λ bT =>
 ag (bT.2 != 0)
 (some ([],false,bT.2))
 ((vB bT.1).bind λ du =>
 (xt bT.1.book).bind λ ia =>
 (xu (x0.aH.length:Int) (λ y=>EO y bT.1 du ia)).bind λ ib =>
 some (ib.1,ib.2,0))
noncomputable def EP(x0:Int)(x1:b8)(x2:(List Bool))(x3:(List Bool)):Option Bool :=
 (B7 x1 x2 x3 x0).bind λ c9 =>
 some c9
noncomputable def Cu(x0:ao):Option ((List Int) × Int) :=
 (ou x0 (λ y=>nb y)).bind λ bT =>
 ag (bT.2 != 0)
 (some ([],bT.2))
 ((vB bT.1).bind λ du =>
 (xt bT.1.book).bind λ ia =>
 (xu (x0.aR.length:Int) (λ y=>EP y bT.1 du ia)).bind λ ib =>
 some (ib.1,0))
noncomputable def vC(x0:ao)(x1:cz):Option ao :=
 (eJ [] x0.aN).bind λ bT =>
 (eJ bT [x1]).bind λ hZ =>
 some (⟨x0.Rest,x0.Rows,x0.aO,x0.aH,x0.aR,hZ⟩:ao)
noncomputable def Cv(x0:ao)(x1:Int):Option (Int × Int) :=
 (o8 x0).bind λ mM =>
 ag (mM != 0)
 (some (0,mM))
 ((ko x1 1 30).bind λ bT =>
 ag (!bT)
 (some (0,1))
 ((vA (⟨x0.Rest,x0.Rows,x0.aO,x0.aH,x0.aR,x0.aN⟩:ao) x1).bind λ hZ =>
 some (hZ,0)))
noncomputable def Cw(x0:Int)(x1:Int):Option Reach :=
 some (⟨x0,x1⟩:Reach)
noncomputable def xw(x0:(List cz)):Option (List cz) :=
 (eJ [] x0).bind λ c9 =>
 some c9
noncomputable def Cd(x0:(List da)):Option (List da) :=
 (eJ [] x0).bind λ c9 =>
 some c9
noncomputable def Ce(x0:(List Reach)):Option (List Reach) :=
 (eJ [] x0).bind λ c9 =>
 some c9
noncomputable def Cf(x0:(List eQ)):Option (List eQ) :=
 (eJ [] x0).bind λ c9 =>
 some c9
noncomputable def Cg(x0:(List ll)):Option (List ll) :=
 (eJ [] x0).bind λ c9 =>
 some c9
noncomputable def zA(x0:ao):Option ao :=
 (Cd x0.Rows).bind λ qb =>
 (Ce x0.aO).bind λ hZ =>
 (Cf x0.aH).bind λ jd =>
 (Cg x0.aR).bind λ fD =>
 (xw x0.aN).bind λ du =>
 some (⟨x0.Rest,qb,hZ,jd,fD,du⟩:ao)
noncomputable def qL(x0:ao)(x1:Int)(x2:Int):Option (ao × Int) :=
 (o8 x0).bind λ pr =>
 ag (pr != 0)
 (some ((⟨0,[],[],[],[],[]⟩:ao),pr))
 ((ko x1 1 30).bind λ O8 =>
 (((ag (!O8)
 (some (!O8))
 ((ko x2 1 60).bind λ Kt =>
 some (!Kt))):Option Bool)).bind (λ (NM:Bool) =>
 ag NM
 (some ((⟨0,[],[],[],[],[]⟩:ao),1))
 ((vA (⟨x0.Rest,x0.Rows,x0.aO,x0.aH,x0.aR,x0.aN⟩:ao) x1).bind λ Da =>
 ag (decide (x2 > Da))
 (some ((⟨0,[],[],[],[],[]⟩:ao),7))
 ((bD (O:=(List da)) (λ (jr:((List da) × Bool × Int)) =>
 ag (decide (jr.2.2 < (x0.Rows.length:Int)))
 ((idx x0.Rows jr.2.2).bind λ lh =>
 (((ag (decide (lh.cF > x1))
 (some (!jr.2.1))
 (some false)):Option Bool)).bind (λ (FF:Bool) =>
 (((ag FF
 ((eJ jr.1 [(⟨x1,x2⟩:da)]).bind λ Al =>
 some (Al,true))
 (some (jr.1,jr.2.1))):Option ((List da) × Bool))).bind (λ (xE:((List da) × Bool)) =>
 (((ag (decide (lh.cF ≥ x1))
 (some (true,vE lh.dS [x2]))
 (some (xE.2,lh.dS))):Option (Bool × Int))).bind (λ (vJ:(Bool × Int)) =>
 (eJ xE.1 [(⟨lh.cF,vJ.2⟩:da)]).bind λ Pe =>
 some (.inl (Pe,vJ.1,i64 (jr.2.2+1)))))))
 (some (.inr jr.1))) ([],false,0)).bind (λ (FA:(List da)) =>
 ag (decide ((FA.length:Int) > 4))
 (some ((⟨0,[],[],[],[],[]⟩:ao),2))
 ((zA (⟨x0.Rest,FA,x0.aO,x0.aH,x0.aR,x0.aN⟩:ao)).bind λ X0 =>
 some (X0,0)))))))
noncomputable def Ca(x0:ao)(x1:Int):Option ao :=
 (xv x1).bind λ mN =>
 (bD (O:=(List cz)) (λ (j0:((List cz) × Int)) =>
 ag (decide (j0.2 < (mN.length:Int)))
 ((idx mN j0.2).bind λ mP =>
 (idx x0.aN mP).bind λ kS =>
 (eJ j0.1 [kS]).bind λ mQ =>
 some (.inl (mQ,i64 (j0.2+1))))
 (some (.inr j0.1))) ([],0)).bind (λ (l9:(List cz)) =>
 some (⟨x0.Rest,x0.Rows,x0.aO,x0.aH,x0.aR,l9⟩:ao))
noncomputable def Cb(x0:ao):Option Bool :=
 (o9 (gm (λ (_:bt) (_:Unit)=>((some (.inr ())):Option (Unit ⊕ Unit)))) x0 (.inl ())).bind (Sum.elim (λ (_:Unit) =>
 some false)
  (λ (_:Unit) =>
 some true))
noncomputable def B9(x0:Int)(x1:ao):Option Bool :=
 (Ca x1 x0).bind λ qa =>
 (Cb qa).bind λ eZ =>
 some (!eZ)
noncomputable def tP(x0:ao):Option ((List Int) × Int) :=
 (o8 x0).bind λ sH =>
 ag (sH != 0)
 (some ([],sH))
 ((xu (x0.aN.length:Int) (λ y=>B9 y x0)).bind λ bT =>
 some (bT.1,0))
noncomputable def zB(x0:bt)(x1:Int)(x2:Int):Option Bool :=
 (idx x0.deep x1).bind λ eZ =>
 some (decide (eZ≤x2))
noncomputable def tQ(x0:ao):Option (Int × Int × Int × Int) :=
 (ou x0 (λ y=>nb y)).bind λ je =>
 ag (je.2 != 0)
 (some (0,0,0,je.2))
 ((bD (O:=(Int × Int × Int)) (λ (fM:(Int × Int × Int × Int)) =>
 ag (decide (fM.2.2.2 < (x0.aO.length:Int)))
 ((bD (O:=(Int × Int × Int)) (λ (fO:(Int × Int × Int × Int)) =>
 ag (decide (fO.2.2.2 < 31))
 ((rX je.1 (λ y=>zB y fM.2.2.2 fO.2.2.2)).bind λ rn =>
 ag (decide (pX rn [i64 ((je.1.eV.length:Int) - rn)] < fO.2.2.1))
 (some (.inl (fM.2.2.2,fO.2.2.2,pX rn [i64 ((je.1.eV.length:Int) - rn)],i64 (fO.2.2.2+1))))
 (some (.inl (fO.1,fO.2.1,fO.2.2.1,i64 (fO.2.2.2+1)))))
 (some (.inr (fO.1,fO.2.1,fO.2.2.1)))) (fM.1,fM.2.1,fM.2.2.1,0)).bind (λ (qT:(Int × Int × Int)) =>
 some (.inl (qT.1,qT.2.1,qT.2.2,i64 (fM.2.2.2+1)))))
 (some (.inr (fM.1,fM.2.1,fM.2.2.1)))) ((-1),(-1),(je.1.eV.length:Int),0)).bind (λ (qS:(Int × Int × Int)) =>
 some (qS.1,qS.2.1,qS.2.2,0)))
noncomputable def Fc(x0:ao)(x1:Int)(x2:Int):Option (Bool × Int) :=
 (o8 x0).bind λ iz =>
 ag (iz != 0)
 (some (false,iz))
 ((o7 x1 (x0.aR.length:Int)).bind λ jd =>
 (o7 x2 (x0.aR.length:Int)).bind λ fD =>
 ag (pX jd [fD] != 0)
 (some (false,pX jd [fD]))
 ((ER (⟨x0.Rest,x0.Rows,x0.aO,x0.aH,x0.aR,x0.aN⟩:ao) x1 x2).bind λ fE =>
 some (fE,0)))
noncomputable def ET(x0:Int):Option Reach :=
 some (⟨x0,x0⟩:Reach)
noncomputable def JM  : Option ao :=
 (Cw 9 11).bind λ bT =>
 (ET 15).bind λ qb =>
 some (⟨10,[(⟨10,40⟩:da),(⟨20,20⟩:da)],[bT,qb],[(⟨⟨#[97,110,110]⟩,20⟩:eQ),(⟨⟨#[98,111]⟩,12⟩:eQ)],[(⟨0,0,20,2⟩:ll),(⟨1,30,15,1⟩:ll),(⟨0,60,30,1⟩:ll)],[]⟩:ao)
noncomputable def xr(x0:(List Int))(x1:(List Int)):Option Bool :=
 (bD (O:=(Unit ⊕ Bool)) (λ (uh:Int) =>
 ag (decide (uh < (x1.length:Int)))
 ((((ag (decide (uh ≥ (x0.length:Int)))
 (some true)
 ((idx x0 uh).bind λ rl =>
 (idx x1 uh).bind λ Kq =>
 some (decide (rl < Kq)))):Option Bool)).bind (λ (NK:Bool) =>
 ag NK
 (some (.inr (.inr true)))
 ((idx x0 uh).bind λ af2 =>
 (idx x1 uh).bind λ Kr =>
 ag (decide (af2 > Kr))
 (some (.inr (.inr false)))
 (some (.inl (i64 (uh+1)))))))
 (some (.inr (.inl ())))) 0).bind (Sum.elim (λ (_:Unit) =>
 some false)
  (λ q=>some q))
noncomputable def tO(x0:(List Int))(x1:(List Int)):Option Bool :=
 (xr x0 x1).bind λ eZ =>
 ag (!eZ)
 ((xr x1 x0).bind λ pv =>
 some (!pv))
 (some false)
noncomputable def xy(x0:(List Int))(x1:(List Int)):Option Bool :=
 (tO x0 x1).bind λ c9 =>
 some c9
noncomputable def JF(x0:(List (List Int)))(x1:(List (List Int))):Option Bool :=
 ag ((x0.length:Int) != (x1.length:Int))
 (some false)
 ((bD (O:=(Unit ⊕ Bool)) (λ (ss:Int) =>
 ag (decide (ss < (x0.length:Int)))
 ((idx x0 ss).bind λ Aq =>
 (idx x1 ss).bind λ mP =>
 (tO Aq mP).bind λ kS =>
 ag (!kS)
 (some (.inr (.inr false)))
 (some (.inl (i64 (ss+1)))))
 (some (.inr (.inl ())))) 0).bind (Sum.elim (λ (_:Unit) =>
 some true)
  (λ q=>some q)))
noncomputable def Fe(x0:(List (List Int)))(x1:(List (List Int))):Option Bool :=
 (JF x0 x1).bind λ c9 =>
 some c9
noncomputable def Cj  : Option Bool :=
 (JM).bind λ eM =>
 (vC eM (⟨0,10,true⟩:cz)).bind λ iy =>
 (Cv eM 10).bind λ De =>
 (Cv eM 21).bind λ Df =>
 (E2 eM).bind λ Dg =>
 (E3 iy 0).bind λ Dh =>
 (E7 eM 0).bind λ rq =>
 (zF eM 1 0).bind λ vV =>
 (zF eM 1 1).bind λ Am =>
 (zF eM 1 2).bind λ yw =>
 (Fc eM 0 1).bind λ An =>
 (m32 eM ([[0,1],[0],[1]])).bind λ Di =>
 (m32 iy ([[0,1],[0],[1]])).bind λ Dj =>
 (((ag (De.2 != 0)
 (some true)
 (ag (Df.2 != 0)
 (some true)
 (ag (Dg.2 != 0)
 (some true)
 (ag (Dh.2 != 0)
 (some true)
 (ag (rq.2 != 0)
 (some true)
 (ag (vV.2 != 0)
 (some true)
 (ag (Am.2 != 0)
 (some true)
 (ag (yw.2 != 0)
 (some true)
 (ag (An.2 != 0)
 (some true)
 (ag (Di.2 != 0)
 (some true)
 (some (Dj.2 != 0)))))))))))):Option Bool)).bind (λ (FG:Bool) =>
 ag FG
 (some false)
 ((((ag (De.1 != 40)
 (some true)
 (ag (Df.1 != 0)
 (some true)
 (ag (Dg.1 != 3)
 (some true)
 ((xy Dh.1 [9,10]).bind λ Pg =>
 ag (!Pg)
 (some true)
 ((Cw 20 40).bind λ Ap =>
 ag (!(Hi rq.1 Ap == true))
 (some true)
 (ag (vV.1 != 1)
 (some true)
 (ag (Am.1 != 2)
 (some true)
 (ag (yw.1 != 0)
 (some true)
 (ag (!An.1)
 (some true)
 (ag (Di.1 != 0)
 (some true)
 (some (Dj.1 != 1)))))))))))):Option Bool)).bind (λ (FH:Bool) =>
 ag FH
 (some false)
 ((Ct eM).bind λ Dk =>
 (Ct iy).bind λ Dl =>
 (E8 iy).bind λ vW =>
 (E9 iy).bind λ ry =>
 (Fa iy).bind λ vX =>
 (Cu eM).bind λ Dm =>
 (tQ eM).bind λ oB =>
 (qL iy 12 15).bind λ px =>
 (Cu px.1).bind λ Gc =>
 (vC iy (⟨0,8,true⟩:cz)).bind λ Kw =>
 (tP Kw).bind λ Dn =>
 (((ag (Dk.2 != 0)
 (some true)
 (ag (Dl.2 != 0)
 (some true)
 (ag (vW.2.2 != 0)
 (some true)
 (ag (ry.2.2.2 != 0)
 (some true)
 (ag (vX.2.2 != 0)
 (some true)
 (ag (Dm.2 != 0)
 (some true)
 (ag (oB.2.2.2 != 0)
 (some true)
 (ag (px.2 != 0)
 (some true)
 (ag (Gc.2 != 0)
 (some true)
 (some (Dn.2 != 0))))))))))):Option Bool)).bind (λ (FI:Bool) =>
 ag FI
 (some false)
 ((((ag (Dk.1 != 0)
 (some true)
 (ag (Dl.1 != 2)
 (some true)
 (ag (!vW.2.1)
 (some true)
 ((Fe vW.1 ([[0,1],[0],[0]])).bind λ Pl =>
 ag (!Pl)
 (some true)
 (ag (!ry.2.2.1)
 (some true)
 (ag (ry.2.1 != 50)
 (some true)
 ((Fe ry.1 ([[0,1],[0],[1]])).bind λ Dq =>
 ag (!Dq)
 (some true)
 (ag (!vX.2.1)
 (some true)
 ((xy vX.1 [0,1]).bind λ Pn =>
 ag (!Pn)
 (some true)
 ((xy Dm.1 [2]).bind λ Po =>
 some (!Po))))))))))):Option Bool)).bind (λ (FJ:Bool) =>
 ag FJ
 (some false)
 (ag (oB.1 == 0)
 (ag (oB.2.1 == 9)
 (ag (oB.2.2.1 == 2)
 (ag ((Gc.1.length:Int) == 0)
 ((xy Dn.1 [1]).bind λ Pp =>
 ag Pp
 (ag ((px.1.Rows.length:Int) == 3)
 ((idx px.1.Rows 1).bind λ Ge =>
 ag (AT Ge (⟨12,15⟩:da) == true)
 ((idx px.1.Rows 2).bind λ Kx =>
 some (AT Kx (⟨20,15⟩:da) == true))
 (some false))
 (some false))
 (some false))
 (some false))
 (some false))
 (some false))
 (some false)))))))))
noncomputable def lf(x0:Int)(x1:Int)(x2:Int):Option Bool :=
 ag (decide (x1≤x0))
 (some (decide (x0≤x2)))
 (some false)
noncomputable def EJ(x0:ao)(x1:Int):Option Bool :=
 (lf x1 0 (i64 ((x0.aO.length:Int) - 1))).bind λ eZ =>
 some eZ
noncomputable def Jp(x0:ao):Option Int :=
 (lf x0.Rest 0 60).bind λ v7 =>
 ag (!v7)
 (some 1)
 ((lf (x0.Rows.length:Int) 1 4).bind λ mR =>
 ag (!mR)
 (some 2)
 ((bD (O:=(Unit ⊕ Int)) (λ (uj:Int) =>
 ag (decide (uj < (x0.Rows.length:Int)))
 ((idx x0.Rows uj).bind λ yu =>
 ((((lf yu.cF 1 30).bind λ Ak =>
 ag (!Ak)
 (some true)
 ((lf yu.dS 1 60).bind λ Db =>
 some (!Db))):Option Bool)).bind (λ (NP:Bool) =>
 ag NP
 (some (.inr (.inr 1)))
 (ag (decide (uj > 0))
 ((idx x0.Rows (i64 (uj - 1))).bind λ oA =>
 ag (decide (yu.cF≤oA.cF))
 (some (.inr (.inr 7)))
 ((idx x0.Rows (i64 (uj - 1))).bind λ Dc =>
 ag (decide (yu.dS > Dc.dS))
 (some (.inr (.inr 7)))
 (some (.inl (i64 (uj+1))))))
 (some (.inl (i64 (uj+1)))))))
 (some (.inr (.inl ())))) 0).bind (Sum.elim (λ (_:Unit) =>
 some 0)
  (λ q=>some q))))
noncomputable def Jt(x0:Reach)(x1:Int)(x2:Int):Option Bool :=
 ag (decide (x1≤x0.cj))
 (ag (decide (x0.cj≤x0.dh))
 (some (decide (x0.dh≤x2)))
 (some false))
 (some false)
noncomputable def Ci(x0:Int):Option Bool :=
 (lf (i64 x0) 97 122).bind λ c9 =>
 some c9
noncomputable def E1(x0:Int):Option Bool :=
 (lf (i64 x0) 48 57).bind λ c9 =>
 some c9
noncomputable def Ju(x0:ByteArray):Option Bool :=
 ((((lf (x0.size:Int) 1 12).bind λ x65 =>
 ag (!x65)
 (some true)
 ((uk x0 0).bind λ mP =>
 (Ci mP).bind λ kS =>
 some (!kS))):Option Bool)).bind (λ (NV:Bool) =>
 ag NV
 (some false)
 ((bD (O:=(Unit ⊕ Bool)) (λ (p6:Int) =>
 ag (decide (p6 < (x0.size:Int)))
 ((uk x0 p6).bind λ qd =>
 (Ci qd).bind λ mR =>
 ag (!mR)
 ((uk x0 p6).bind λ je =>
 (E1 je).bind λ pz =>
 ag (!pz)
 (some (.inr (.inr false)))
 (some (.inl (i64 (p6+1)))))
 (some (.inl (i64 (p6+1)))))
 (some (.inr (.inl ())))) 1).bind (Sum.elim (λ (_:Unit) =>
 some true)
  (λ q=>some q))))
noncomputable def Jq(x0:ao):Option Int :=
 (lf (x0.aO.length:Int) 1 3).bind λ af6 =>
 ag (!af6)
 (some 2)
 ((bD (O:=(Unit ⊕ Int)) (λ (FP:Int) =>
 ag (decide (FP < (x0.aO.length:Int)))
 ((idx x0.aO FP).bind λ rn =>
 (Jt rn 1 30).bind λ lh =>
 ag (!lh)
 (some (.inr (.inr 1)))
 (ag (decide (i64 (rn.dh - rn.cj) ≥ 3))
 (some (.inr (.inr 1)))
 (some (.inl (i64 (FP+1))))))
 (some (.inr (.inl ())))) 0).bind (Sum.elim (λ (_:Unit) =>
 (lf (x0.aH.length:Int) 1 4).bind λ yv =>
 ag (!yv)
 (some 2)
 ((bD (O:=(Unit ⊕ Int)) (λ (ub:Int) =>
 ag (decide (ub < (x0.aH.length:Int)))
 ((idx x0.aH ub).bind λ Pf =>
 (Ju Pf.Name).bind λ agk =>
 ag (!agk)
 (some (.inr (.inr 4)))
 ((bD (O:=(Unit ⊕ Int)) (λ (FQ:Int) =>
 ag (decide (FQ < ub))
 ((idx x0.aH FQ).bind λ agp =>
 (idx x0.aH ub).bind λ agq =>
 ag (agp.Name.toList == agq.Name.toList)
 (some (.inr (.inr 5)))
 (some (.inl (i64 (FQ+1)))))
 (some (.inr (.inl ())))) 0).bind (Sum.elim (λ (_:Unit) =>
 (idx x0.aH ub).bind λ X8 =>
 (lf X8.np 1 30).bind λ agr =>
 ag (!agr)
 (some (.inr (.inr 1)))
 (some (.inl (i64 (ub+1)))))
  (λ q=>some (.inr (.inr q))))))
 (some (.inr (.inl ())))) 0).bind (Sum.elim (λ (_:Unit) =>
 some 0)
  (λ q=>some q))))
  (λ q=>some q)))
noncomputable def zG(x0:ao):Option Int :=
 (Jp x0).bind λ XU =>
 ag (XU != 0)
 (some XU)
 ((Jq x0).bind λ XV =>
 ag (XV != 0)
 (some XV)
 ((lf (x0.aR.length:Int) 1 4).bind λ af3 =>
 ag (!af3)
 (some 2)
 ((bD (O:=(Unit ⊕ Int)) (λ (FO:Int) =>
 ag (decide (FO < (x0.aR.length:Int)))
 ((idx x0.aR FO).bind λ rm =>
 (EJ x0 rm.Place).bind λ af7 =>
 ag (!af7)
 (some (.inr (.inr 6)))
 ((lf rm.lj 0 200).bind λ af8 =>
 ag (!af8)
 (some (.inr (.inr 1)))
 ((lf rm.kD 1 60).bind λ af9 =>
 ag (!af9)
 (some (.inr (.inr 1)))
 ((lf rm.aH 1 3).bind λ aga =>
 ag (!aga)
 (some (.inr (.inr 1)))
 (some (.inl (i64 (FO+1))))))))
 (some (.inr (.inl ())))) 0).bind (Sum.elim (λ (_:Unit) =>
 ag (decide ((x0.aN.length:Int) > 3))
 (some 2)
 ((bD (O:=(Unit ⊕ Int)) (λ (CO:Int) =>
 ag (decide (CO < (x0.aN.length:Int)))
 ((idx x0.aN CO).bind λ Dd =>
 (EJ x0 Dd.Place).bind λ eM =>
 ag (!eM)
 (some (.inr (.inr 6)))
 ((idx x0.aN CO).bind λ X3 =>
 (lf X3.fW 0 30).bind λ age =>
 ag (!age)
 (some (.inr (.inr 1)))
 (some (.inl (i64 (CO+1))))))
 (some (.inr (.inl ())))) 0).bind (Sum.elim (λ (_:Unit) =>
 some 0)
  (λ q=>some q))))
  (λ q=>some q)))))
noncomputable def Jr(x0:ao)(x1:(List Int)):Option Bool :=
 (bD (O:=(Unit ⊕ Bool)) (λ (jv:Int) =>
 ag (decide (jv < (x0.aN.length:Int)))
 ((idx x0.aN jv).bind λ uB =>
 (idx x1 uB.Place).bind λ Ds =>
 ag (!((decide (Ds≤uB.fW)) == uB.jC))
 (some (.inr (.inr false)))
 (some (.inl (i64 (jv+1)))))
 (some (.inr (.inl ())))) 0).bind (Sum.elim (λ (_:Unit) =>
 some true)
  (λ q=>some q))
noncomputable def zK(x0:ao):Option (List (List Int)) :=
 (bD (O:=(List (List Int))) (λ (pj:((List (List Int)) × Int)) =>
 ag (decide (pj.2 < (x0.aO.length:Int)))
 ((bD (O:=(List (List Int))) (λ (ui:((List (List Int)) × Int)) =>
 ag (decide (ui.2 < (pj.1.length:Int)))
 ((idx x0.aO pj.2).bind λ agy =>
 (bD (O:=(List (List Int))) (λ (vN:((List (List Int)) × Int)) =>
 (idx x0.aO pj.2).bind λ agz =>
 ag (decide (vN.2≤agz.dh))
 ((idx pj.1 ui.2).bind λ agA =>
 (eJ [] agA).bind λ agB =>
 (eJ agB [vN.2]).bind λ Yh =>
 (eJ vN.1 [Yh]).bind λ agC =>
 some (.inl (agC,i64 (vN.2+1))))
 (some (.inr vN.1))) (ui.1,agy.cj)).bind (λ (NY:(List (List Int))) =>
 some (.inl (NY,i64 (ui.2+1)))))
 (some (.inr ui.1))) ([],0)).bind (λ (NW:(List (List Int))) =>
 some (.inl (NW,i64 (pj.2+1)))))
 (some (.inr pj.1))) ([[]],0)).bind (λ (FL:(List (List Int))) =>
 (bD (O:=(List (List Int))) (λ (sw:((List (List Int)) × Int)) =>
 ag (decide (sw.2 < (FL.length:Int)))
 ((idx FL sw.2).bind λ Yi =>
 (Jr x0 Yi).bind λ agD =>
 ag agD
 ((idx FL sw.2).bind λ Yj =>
 (eJ sw.1 [Yj]).bind λ agE =>
 some (.inl (agE,i64 (sw.2+1))))
 (some (.inl (sw.1,i64 (sw.2+1)))))
 (some (.inr sw.1))) ([],0)).bind (λ (N0:(List (List Int))) =>
 some N0))
noncomputable def Fi(x0:ao)(x1:Int):Option ((List (List Int)) × Int) :=
 (zG x0).bind λ gI =>
 ag (gI != 0)
 (some ([],gI))
 (ag (x1 != 0)
 (some ([],x1))
 ((zK x0).bind λ du =>
 ag ((du.length:Int) == 0)
 (some ([],9))
 (some (du,0))))
noncomputable def Jh(x0:ao)(x1:Int):Option Int :=
 (bD (O:=(Unit ⊕ Int)) (λ (kr:Int) =>
 ag (decide (kr < (x0.Rows.length:Int)))
 ((idx x0.Rows kr).bind λ Gf =>
 ag (decide (Gf.cF ≥ x1))
 ((idx x0.Rows kr).bind λ Ky =>
 some (.inr (.inr Ky.dS)))
 (some (.inl (i64 (kr+1)))))
 (some (.inr (.inl ())))) 0).bind (Sum.elim (λ (_:Unit) =>
 some 0)
  (λ q=>some q))
noncomputable def B8(x0:Int)(x1:Int):Option (List (List Int)) :=
 (bD (O:=(List (List Int))) (λ (fO:((List (List Int)) × Int)) =>
 ag (decide (fO.2 < x0))
 ((bD (O:=(List (List Int))) (λ (p5:((List (List Int)) × Int)) =>
 ag (decide (p5.2 < (fO.1.length:Int)))
 ((idx p5.1 p5.2).bind λ Ap =>
 ag (decide ((Ap.length:Int) < x1))
 ((idx p5.1 p5.2).bind λ ags =>
 (eJ [] ags).bind λ agt =>
 (eJ agt [fO.2]).bind λ X9 =>
 (eJ p5.1 [X9]).bind λ agu =>
 some (.inl (agu,i64 (p5.2+1))))
 (some (.inl (p5.1,i64 (p5.2+1)))))
 (some (.inr p5.1))) (fO.1,0)).bind (λ (NR:(List (List Int))) =>
 some (.inl (NR,i64 (fO.2+1)))))
 (some (.inr fO.1))) ([[]],0)).bind (λ (qT:(List (List Int))) =>
 some qT)
noncomputable def zH(x0:(List Int))(x1:(List Int)):Option Bool :=
 ag (decide ((x0.length:Int) < (x1.length:Int)))
 (some true)
 (ag ((x0.length:Int) == (x1.length:Int))
 ((xr x0 x1).bind λ pv =>
 some pv)
 (some false))
noncomputable def Jo(x0:Int):Option (List Int) :=
 (bD (O:=(List Int)) (λ (vM:((List Int) × Int)) =>
 ag (decide (vM.2 < x0))
 ((eJ vM.1 [vM.2]).bind λ qc =>
 some (.inl (qc,i64 (vM.2+1))))
 (some (.inr vM.1))) ([],0)).bind (λ (NU:(List Int)) =>
 some NU)
noncomputable def xx(x0:ao)(x1:ao):Option Bool :=
 (((ag (x0.Rest != x1.Rest)
 (some true)
 (ag ((x0.Rows.length:Int) != (x1.Rows.length:Int))
 (some true)
 (ag ((x0.aO.length:Int) != (x1.aO.length:Int))
 (some true)
 (ag ((x0.aH.length:Int) != (x1.aH.length:Int))
 (some true)
 (ag ((x0.aR.length:Int) != (x1.aR.length:Int))
 (some true)
 (some ((x0.aN.length:Int) != (x1.aN.length:Int)))))))):Option Bool)).bind (λ (NO:Bool) =>
 ag NO
 (some false)
 ((bD (O:=(Unit ⊕ Bool)) (λ (CL:Int) =>
 ag (decide (CL < (x0.Rows.length:Int)))
 ((idx x0.Rows CL).bind λ rm =>
 (idx x1.Rows CL).bind λ XW =>
 ag (!(AT rm XW == true))
 (some (.inr (.inr false)))
 (some (.inl (i64 (CL+1)))))
 (some (.inr (.inl ())))) 0).bind (Sum.elim (λ (_:Unit) =>
 (bD (O:=(Unit ⊕ Bool)) (λ (CN:Int) =>
 ag (decide (CN < (x0.aO.length:Int)))
 ((idx x0.aO CN).bind λ XZ =>
 (idx x1.aO CN).bind λ Al =>
 ag (!(Hi XZ Al == true))
 (some (.inr (.inr false)))
 (some (.inl (i64 (CN+1)))))
 (some (.inr (.inl ())))) 0).bind (Sum.elim (λ (_:Unit) =>
 (bD (O:=(Unit ⊕ Bool)) (λ (CP:Int) =>
 ag (decide (CP < (x0.aH.length:Int)))
 ((idx x0.aH CP).bind λ X1 =>
 (idx x1.aH CP).bind λ X2 =>
 ag (!(Rc X1 X2 == true))
 (some (.inr (.inr false)))
 (some (.inl (i64 (CP+1)))))
 (some (.inr (.inl ())))) 0).bind (Sum.elim (λ (_:Unit) =>
 (bD (O:=(Unit ⊕ Bool)) (λ (CQ:Int) =>
 ag (decide (CQ < (x0.aR.length:Int)))
 ((idx x0.aR CQ).bind λ rq =>
 (idx x1.aR CQ).bind λ Gb =>
 ag (!(Rb rq Gb == true))
 (some (.inr (.inr false)))
 (some (.inl (i64 (CQ+1)))))
 (some (.inr (.inl ())))) 0).bind (Sum.elim (λ (_:Unit) =>
 (bD (O:=(Unit ⊕ Bool)) (λ (CR:Int) =>
 ag (decide (CR < (x0.aN.length:Int)))
 ((idx x0.aN CR).bind λ X4 =>
 (idx x1.aN CR).bind λ X5 =>
 ag (!(Rd X4 X5 == true))
 (some (.inr (.inr false)))
 (some (.inl (i64 (CR+1)))))
 (some (.inr (.inl ())))) 0).bind (Sum.elim (λ (_:Unit) =>
 some true)
  (λ q=>some q)))
  (λ q=>some q)))
  (λ q=>some q)))
  (λ q=>some q)))
  (λ q=>some q))))
noncomputable def JG(x0:ao)(x1:Int)(x2:Int):Option ao :=
 (bD (O:=(List da)) (λ (iw:(Bool × Int × (List da))) =>
 ag (decide (iw.2.1 < (x0.Rows.length:Int)))
 ((idx x0.Rows iw.2.1).bind λ jA =>
 ag (decide (jA.cF < x1))
 ((eJ iw.2.2 [jA]).bind λ oA =>
 some (.inl (iw.1,i64 (iw.2.1+1),oA)))
 ((((ag (!iw.1)
 (some (decide (jA.cF > x1)))
 (some false)):Option Bool)).bind (λ (FC:Bool) =>
 (((ag FC
 ((eJ iw.2.2 [(⟨x1,x2⟩:da)]).bind λ Kv =>
 some Kv)
 (some iw.2.2)):Option (List da))).bind (λ (FE:(List da)) =>
 (eJ FE ([(⟨jA.cF,vE jA.dS [x2]⟩:da)])).bind λ Pd =>
 some (.inl (true,i64 (iw.2.1+1),Pd))))))
 (some (.inr iw.2.2))) (false,0,[])).bind (λ (xL:(List da)) =>
 some (⟨x0.Rest,xL,x0.aO,x0.aH,x0.aR,x0.aN⟩:ao))
noncomputable def Fb(x0:ao)(x1:(List Int)):Option ao :=
 (bD (O:=(List cz)) (λ (j0:(Int × (List cz))) =>
 ag (decide (j0.1 < (x1.length:Int)))
 ((idx x1 j0.1).bind λ mP =>
 (idx x0.aN mP).bind λ kS =>
 (eJ j0.2 [kS]).bind λ mQ =>
 some (.inl (i64 (j0.1+1),mQ)))
 (some (.inr j0.2))) (0,[])).bind (λ (l9:(List cz)) =>
 some (⟨x0.Rest,x0.Rows,x0.aO,x0.aH,x0.aR,l9⟩:ao))
noncomputable def JH(x0:ao):Option ((List Int) × Int) :=
 (zG x0).bind λ Yk =>
 ag (Yk != 0)
 (some ([],Yk))
 ((zK x0).bind λ v7 =>
 ag (decide ((v7.length:Int) > 0))
 (some ([],0))
 ((Jo (x0.aN.length:Int)).bind λ mR =>
 (B8 (x0.aN.length:Int) (x0.aN.length:Int)).bind λ oE =>
 (bD (O:=(List Int)) (λ (jw:((List Int) × Int)) =>
 ag (decide (jw.2 < (oE.length:Int)))
 (((((idx oE jw.2).bind λ vT =>
 (zH vT jw.1).bind λ Ku =>
 ag Ku
 ((idx oE jw.2).bind λ Ga =>
 (Fb x0 Ga).bind λ jA =>
 (zK jA).bind λ Ak =>
 some ((Ak.length:Int) == 0))
 (some false)):Option Bool)).bind (λ (FB:Bool) =>
 ag FB
 ((idx oE jw.2).bind λ Db =>
 some (.inl (Db,i64 (jw.2+1))))
 (some (.inl (jw.1,i64 (jw.2+1))))))
 (some (.inr jw.1))) (mR,0)).bind (λ (N1:(List Int)) =>
 some (N1,0))))
noncomputable def ES(x0:(List (List Int)))(x1:Int)(x2:Int):Option Int :=
 (bD (O:=Int) (λ (cT:(Int × Int)) =>
 ag (decide (cT.2 < (x0.length:Int)))
 ((idx x0 cT.2).bind λ kA =>
 (idx kA x1).bind λ kR =>
 ag (decide (kR≤x2))
 (some (.inl (i64 (cT.1+1),i64 (cT.2+1))))
 (some (.inl (cT.1,i64 (cT.2+1)))))
 (some (.inr cT.1))) (0,0)).bind (λ (jW:Int) =>
 some (pX jW [i64 ((x0.length:Int) - jW)]))
noncomputable def JI(x0:ao):Option (Int × Int × Int × Int) :=
 (Fi x0 0).bind λ Dt =>
 ag (Dt.2 != 0)
 (some (0,0,0,Dt.2))
 ((bD (O:=(Int × Int × Int)) (λ (mL:(Int × Int × Int × Int)) =>
 ag (decide (mL.2.2.2 < (x0.aO.length:Int)))
 ((bD (O:=(Int × Int × Int)) (λ (gy:(Int × Int × Int × Int)) =>
 ag (decide (gy.2.2.2≤30))
 ((ES Dt.1 mL.2.2.2 gy.2.2.2).bind λ vT =>
 ag (decide (vT < gy.2.2.1))
 (some (.inl (mL.2.2.2,gy.2.2.2,vT,i64 (gy.2.2.2+1))))
 (some (.inl (gy.1,gy.2.1,gy.2.2.1,i64 (gy.2.2.2+1)))))
 (some (.inr (gy.1,gy.2.1,gy.2.2.1)))) (mL.1,mL.2.1,mL.2.2.1,0)).bind (λ (tV:(Int × Int × Int)) =>
 some (.inl (tV.1,tV.2.1,tV.2.2,i64 (mL.2.2.2+1)))))
 (some (.inr (mL.1,mL.2.1,mL.2.2.1)))) ((-1),(-1),(Dt.1.length:Int),0)).bind (λ (zS:(Int × Int × Int)) =>
 some (zS.1,zS.2.1,zS.2.2,0)))
noncomputable def JJ(x0:ao)(x1:cz):Option (ao × Int) :=
 (o8 x0).bind λ ia =>
 ag (ia != 0)
 (some ((⟨0,[],[],[],[],[]⟩:ao),ia))
 ((xw x0.aN).bind λ ib =>
 (eJ ib [x1]).bind λ gQ =>
 (ou (⟨x0.Rest,x0.Rows,x0.aO,x0.aH,x0.aR,gQ⟩:ao) (λ y=>nb y)).bind λ uA =>
 ag (uA.2 != 0)
 (some ((⟨0,[],[],[],[],[]⟩:ao),uA.2))
 ((zA (⟨x0.Rest,x0.Rows,x0.aO,x0.aH,x0.aR,gQ⟩:ao)).bind λ Dr =>
 some (Dr,0)))
noncomputable def JK(x0:ao)(x1:cz):Option (ao × Int) :=
 (zG x0).bind λ qb =>
 ag (qb != 0)
 (some ((⟨0,[],[],[],[],[]⟩:ao),qb))
 ((vC x0 x1).bind λ du =>
 (Fi du 0).bind λ fl =>
 ag (fl.2 != 0)
 (some ((⟨0,[],[],[],[],[]⟩:ao),fl.2))
 (some (du,0)))
noncomputable def JL(x0:ao)(x1:Int)(x2:Int):Option (ao × Int) :=
 (zG x0).bind λ gQ =>
 ag (gQ != 0)
 (some ((⟨0,[],[],[],[],[]⟩:ao),gQ))
 (((((lf x1 1 30).bind λ nj =>
 ag (!nj)
 (some true)
 ((lf x2 1 60).bind λ kA =>
 some (!kA))):Option Bool)).bind (λ (l9:Bool) =>
 ag l9
 (some ((⟨0,[],[],[],[],[]⟩:ao),1))
 ((Jh x0 x1).bind λ Ky =>
 ag (decide (x2 > Ky))
 (some ((⟨0,[],[],[],[],[]⟩:ao),7))
 ((JG x0 x1 x2).bind λ Gg =>
 ag (decide ((Gg.Rows.length:Int) > 4))
 (some ((⟨0,[],[],[],[],[]⟩:ao),2))
 (some (Gg,0))))))
noncomputable def Nh(x0:ao)(x1:cz)(x2:Int)(x3:Int):Option Bool :=
 (Jw x0).bind λ kS =>
 ag kS
 ((Cj).bind λ yy =>
 some yy)
 ((tP x0).bind λ oC =>
 (JH x0).bind λ oD =>
 (tQ x0).bind λ kT =>
 (JI x0).bind λ Kz =>
 ((((tO oC.1 oD.1).bind λ x85 =>
 ag (!x85)
 (some true)
 (ag (kT.1 != Kz.1)
 (some true)
 (ag (kT.2.1 != Kz.2.1)
 (some true)
 (ag (kT.2.2.1 != Kz.2.2.1)
 (some true)
 (ag (oC.2 != oD.2)
 (some true)
 (some (kT.2.2.2 != Kz.2.2.2))))))):Option Bool)).bind (λ (NZ:Bool) =>
 ag NZ
 (some false)
 ((JJ x0 x1).bind λ qd =>
 (JK x0 x1).bind λ oE =>
 ((((xx qd.1 oE.1).bind λ XS =>
 ag (!XS)
 (some true)
 (some (qd.2 != oE.2))):Option Bool)).bind (λ (xL:Bool) =>
 ag xL
 (some false)
 ((qL x0 x2 x3).bind λ O6 =>
 (JL x0 x2 x3).bind λ O7 =>
 (xx O6.1 O7.1).bind λ af1 =>
 ag af1
 (ag (O6.2 == O7.2)
 ((Cj).bind λ Kq =>
 some Kq)
 (some false))
 (some false))))))
def v8{B:Base}{main:Bool}(ae:Jd prog B main):Prop:=∀ {R:ax} {H:an} (x0:b8) {az aC aA ay aD kQ:Value},aa bC 2 R az x0.book.Rows→aa bJ 2 R aC x0.book.aO→aa bF 2 R aA x0.book.aH→aa bK 4 R ay x0.book.aR→aa bz 3 R aD x0.book.aN→aa fA 3 R kQ x0.eV→∀ {r:List Bool},vB x0=some r →
 aB ae 123 #[.agg #[iv x0.book.Rest,az,aC,aA,ay,aD,kQ]] R H λ v R' H'=>aS R R'∧H=H'∧r.length=16∧v = .agg (List.toArray ([]++(r.map Value.bool++[])))
theorem qI{B:Base}{main:Bool}{ae:Jd prog B main}{R:ax}{H:an}(x0:b8)(hK:v8 ae){az aC aA ay aD kQ:Value}(aM:aa bC 2 R az x0.book.Rows)(aL:aa bJ 2 R aC x0.book.aO)(aI:aa bF 2 R aA x0.book.aH)(aJ:aa bK 4 R ay x0.book.aR)(aP:aa bz 3 R aD x0.book.aN)(jH:aa fA 3 R kQ x0.eV){r:List Bool}(hM:vB x0=some r) :
 aB ae 123 #[.agg #[iv x0.book.Rest,az,aC,aA,ay,aD,kQ]] R H λ v R' H'=>aS R R'∧H=H'∧r.length=16∧v = .agg (List.toArray ([]++(r.map Value.bool++[]))):=hK x0 aM aL aI aJ aP jH hM
end Go.Proofs.YtihapemckcdicaaGreatDoor
