/- What the functions compute. Conditions: none. -/
import Derived.Test.YtihapemckcdicaaGreatDoorQVStF
import Derived.Test.YtihapemckcdicaaGreatDoorQVStP
namespace Go.Proofs.YtihapemckcdicaaGreatDoor
open Go.Lg Go.Proofs Tryz
set_option maxRecDepth 100000
noncomputable def j8(x0:Int)(x1:Int)(x2:Int):Option Bool :=
 af (decide (x1≤x0))
 (some (decide (x0≤x2)))
 (some false)
def J2(x0:ByteArray):Option Bool:=some (p5 x0)
noncomputable def xy(x0:cq)(x1:(bz→Option Bool)):Option Int :=
 (bH (O:=Int) (λ (mN:(Int × Int)) =>
 af (decide (mN.2 < (x0.fb.length:Int)))
 ((idx x0.fb mN.2).bind λ GG =>
 (x1 GG).bind λ PG =>
 af PG
 (some (.inl (i64 (mN.1+1),i64 (mN.2+1))))
 (some (.inl (mN.1,i64 (mN.2+1)))))
 (some (.inr mN.1))) (0,0)).bind (λ (F5:Int) =>
 some F5)
noncomputable def xx(x0:ay)(x1:Int):Option Int :=
 (bH (O:=(Unit ⊕ Int)) (λ (oA:Int) =>
 af (decide (oA < (x0.Rows.length:Int)))
 ((idx x0.Rows oA).bind λ sL =>
 af (decide (x1≤sL.dU))
 (some (.inr (.inr sL.eQ)))
 (some (.inl (i64 (oA+1)))))
 (some (.inr (.inl ())))) 0).bind (Sum.elim (λ (_:Unit) =>
 some 0)
  (λ q=>some q))
noncomputable def Cp(x0:ay)(x1:bz)(x2:Int)(x3:Int):Option Bool :=
 (idx x0.aT x3).bind λ eC =>
 (idx x1.deep eC.Place).bind λ iA =>
 (idx x0.aD x2).bind λ bV =>
 af (decide (iA≤bV.qo))
 ((xx x0 iA).bind λ gZ =>
 some (decide (eC.mr≤gZ)))
 (some false)
noncomputable def zO(x0:bz)(x1:cq)(x2:Int)(x3:Int):Option Bool :=
 (Cp x1.book x0 x2 x3).bind λ dS =>
 some dS
noncomputable def rR(x0:cq)(i k:Nat):Option Bool:=(xy x0 (λ y=>zO y x0 (k:Int) (i:Int))).bind λ n=>some (n == (x0.fb.length:Int))
noncomputable def vG(x0:cq):Option (List Bool) :=
 if (0 < x0.book.aT.length∧x0.book.aT.length≤4)∧(0 < x0.book.aD.length∧x0.book.aD.length≤4) then
  (((List.range 16).mapM λ (p:Nat)=>if p / 4 < x0.book.aT.length∧p % 4 < x0.book.aD.length then rR x0 (p / 4) (p % 4) else some false):Option (List Bool))
 else none
noncomputable def JY(x0:ay):Option Bool :=
 (((af (decide ((x0.Rows.length:Int) > 20))
 (some true)
 (af (decide ((x0.aE.length:Int) > 20))
 (some true)
 (af (decide ((x0.aD.length:Int) > 20))
 (some true)
 (af (decide ((x0.aT.length:Int) > 20))
 (some true)
 (some (decide ((x0.bj.length:Int) > 20))))))):Option Bool)).bind (λ (sb:Bool) =>
 af sb
 (some true)
 ((bH (O:=(Unit ⊕ Bool)) (λ (rh:Int) =>
 af (decide (rh < (x0.aD.length:Int)))
 ((idx x0.aD rh).bind λ nR =>
 af (decide ((nR.Name.size:Int) > 100))
 (some (.inr (.inr true)))
 (some (.inl (i64 (rh+1)))))
 (some (.inr (.inl ())))) 0).bind (Sum.elim (λ (_:Unit) =>
 some false)
  (λ q=>some q))))
noncomputable def Fw(x0:ay):Option Int :=
 (j8 x0.Rest 0 60).bind λ ju =>
 af (!ju)
 (some 1)
 (some 0)
noncomputable def CA(x0:ay):Option Int :=
 (j8 (x0.Rows.length:Int) 1 4).bind λ KY =>
 af (!KY)
 (some 2)
 ((bH (O:=(Unit ⊕ Int)) (λ (ss:Int) =>
 af (decide (ss < (x0.Rows.length:Int)))
 ((idx x0.Rows ss).bind λ nO =>
 (j8 nO.dU 1 30).bind λ AE =>
 (((af (!AE)
 (some (!AE))
 ((j8 nO.eQ 1 60).bind λ agQ =>
 some (!agQ))):Option Bool)).bind (λ (Of:Bool) =>
 af Of
 (some (.inr (.inr 1)))
 (af (decide (ss > 0))
 ((idx x0.Rows (i64 (ss - 1))).bind λ Yp =>
 af (decide (nO.dU≤Yp.dU))
 (some (.inr (.inr 7)))
 ((idx x0.Rows (i64 (ss - 1))).bind λ GN =>
 af (decide (nO.eQ > GN.eQ))
 (some (.inr (.inr 7)))
 (some (.inl (i64 (ss+1))))))
 (some (.inl (i64 (ss+1)))))))
 (some (.inr (.inl ())))) 0).bind (Sum.elim (λ (_:Unit) =>
 some 0)
  (λ q=>some q)))
noncomputable def J3(x0:(List Reach))(x1:(Reach→Option Bool)):Option Int :=
 (bH (O:=(Unit ⊕ Int)) (λ (dL:Int) =>
 af (decide (dL < (x0.length:Int)))
 ((idx x0 dL).bind λ jb =>
 (x1 jb).bind λ hZ =>
 af hZ
 (some (.inr (.inr dL)))
 (some (.inl (i64 (dL+1)))))
 (some (.inr (.inl ())))) 0).bind (Sum.elim (λ (_:Unit) =>
 some (-1))
  (λ q=>some q))
noncomputable def Fy(x0:(List Reach))(x1:(Reach→Option Bool)):Option Bool :=
 (J3 x0 x1).bind λ cV =>
 some (decide (cV ≥ 0))
noncomputable def CH(x0:Reach)(x1:Int)(x2:Int)(x3:Int):Option Bool :=
 af (decide (x1≤x0.cF))
 (af (decide (x0.cF≤x0.dq))
 (af (decide (x0.dq≤x2))
 (some (decide (i64 (x0.dq - x0.cF) < x3)))
 (some false))
 (some false))
 (some false)
noncomputable def CG(x0:Reach):Option Bool :=
 (CH x0 1 30 3).bind λ dS =>
 some (!dS)
noncomputable def CB(x0:ay):Option Int :=
 (j8 (x0.aE.length:Int) 1 3).bind λ pz =>
 af (!pz)
 (some 2)
 ((Fy x0.aE (λ y=>CG y)).bind λ iA =>
 af iA
 (some 1)
 (some 0))
noncomputable def J4(x0:(List fe))(x1:(fe→Option Bool)):Option Int :=
 (bH (O:=(Unit ⊕ Int)) (λ (dL:Int) =>
 af (decide (dL < (x0.length:Int)))
 ((idx x0 dL).bind λ jb =>
 (x1 jb).bind λ hZ =>
 af hZ
 (some (.inr (.inr dL)))
 (some (.inl (i64 (dL+1)))))
 (some (.inr (.inl ())))) 0).bind (Sum.elim (λ (_:Unit) =>
 some (-1))
  (λ q=>some q))
noncomputable def Fz(x0:(List fe))(x1:(fe→Option Bool)):Option Bool :=
 (J4 x0 x1).bind λ cV =>
 some (decide (cV ≥ 0))
noncomputable def CJ(x0:fe)(x1:fe):Option Bool :=
 some (x0.Name.toList == x1.Name.toList)
noncomputable def CC(x0:ay):Option Int :=
 (j8 (x0.aD.length:Int) 1 4).bind λ x63 =>
 af (!x63)
 (some 2)
 ((bH (O:=(Unit ⊕ Int)) (λ (Db:Int) =>
 af (decide (Db < (x0.aD.length:Int)))
 ((idx x0.aD Db).bind λ mQ =>
 (J2 mQ.Name).bind λ jw =>
 af (!jw)
 (some (.inr (.inr 4)))
 ((lK x0.aD 0 Db).bind λ PL =>
 (Fz PL (λ y=>CJ y mQ)).bind λ KE =>
 af KE
 (some (.inr (.inr 5)))
 ((j8 mQ.qo 1 30).bind λ nN =>
 af (!nN)
 (some (.inr (.inr 1)))
 (some (.inl (i64 (Db+1)))))))
 (some (.inr (.inl ())))) 0).bind (Sum.elim (λ (_:Unit) =>
 some 0)
  (λ q=>some q)))
noncomputable def pb(x0:Int)(x1:Int):Option Int :=
 (j8 x0 0 (i64 (x1 - 1))).bind λ nP =>
 af (!nP)
 (some 6)
 (some 0)
noncomputable def CD(x0:ay):Option Int :=
 (j8 (x0.aT.length:Int) 1 4).bind λ nQ =>
 af (!nQ)
 (some 2)
 ((bH (O:=(Unit ⊕ Int)) (λ (Gc:Int) =>
 af (decide (Gc < (x0.aT.length:Int)))
 ((idx x0.aT Gc).bind λ iC =>
 (pb iC.Place (x0.aE.length:Int)).bind λ wx =>
 af (wx != 0)
 (some (.inr (.inr wx)))
 ((j8 iC.na 0 200).bind λ AB =>
 af (!AB)
 (some (.inr (.inr 1)))
 ((j8 iC.mr 1 60).bind λ AD =>
 af (!AD)
 (some (.inr (.inr 1)))
 ((j8 iC.aD 1 3).bind λ nO =>
 af (!nO)
 (some (.inr (.inr 1)))
 (some (.inl (i64 (Gc+1))))))))
 (some (.inr (.inl ())))) 0).bind (Sum.elim (λ (_:Unit) =>
 some 0)
  (λ q=>some q)))
noncomputable def CF(x0:ay):Option Int :=
 af (decide ((x0.bj.length:Int) > 3))
 (some 2)
 ((bH (O:=(Unit ⊕ Int)) (λ (rh:Int) =>
 af (decide (rh < (x0.bj.length:Int)))
 ((idx x0.bj rh).bind λ KZ =>
 (pb KZ.Place (x0.aE.length:Int)).bind λ YR =>
 af (YR != 0)
 (some (.inr (.inr YR)))
 ((j8 KZ.mT 0 30).bind λ AL =>
 af (!AL)
 (some (.inr (.inr 1)))
 (some (.inl (i64 (rh+1))))))
 (some (.inr (.inl ())))) 0).bind (Sum.elim (λ (_:Unit) =>
 some 0)
  (λ q=>some q)))
noncomputable def qa(x0:ay):Option Int :=
 (Fw (⟨x0.Rest,x0.Rows,x0.aE,x0.aD,x0.aT,x0.bj⟩:ay)).bind λ gm =>
 af (gm != 0)
 (some gm)
 ((CA (⟨x0.Rest,x0.Rows,x0.aE,x0.aD,x0.aT,x0.bj⟩:ay)).bind λ gE =>
 af (gE != 0)
 (some gE)
 ((CB (⟨x0.Rest,x0.Rows,x0.aE,x0.aD,x0.aT,x0.bj⟩:ay)).bind λ DQ =>
 af (DQ != 0)
 (some DQ)
 ((CC (⟨x0.Rest,x0.Rows,x0.aE,x0.aD,x0.aT,x0.bj⟩:ay)).bind λ lf =>
 af (lf != 0)
 (some lf)
 ((CD (⟨x0.Rest,x0.Rows,x0.aE,x0.aD,x0.aT,x0.bj⟩:ay)).bind λ pC =>
 af (pC != 0)
 (some pC)
 ((CF (⟨x0.Rest,x0.Rows,x0.aE,x0.aD,x0.aT,x0.bj⟩:ay)).bind λ hZ =>
 af (hZ != 0)
 (some hZ)
 (some 0))))))
noncomputable def Fj (x1:(bz→((List bz) ⊕ Empty)→Option (((List bz) ⊕ Empty) × Bool))→((List bz) ⊕ Empty)→Option ((List bz) ⊕ Empty)):Option (List bz) :=
 (x1 (gk (λ (ru:bz) (jT:(List bz))=>(((gR jT [ru]).bind λ gn =>
 some (.inl gn)):Option ((List bz) ⊕ Empty)))) (.inl [])).bind (Sum.elim (λ (jT:(List bz)) =>
 some jT)
  (λ (o:Empty)=>o.elim))
noncomputable def xF (x0:(bz→((List bz) ⊕ Empty)→Option (((List bz) ⊕ Empty) × Bool))→((List bz) ⊕ Empty)→Option ((List bz) ⊕ Empty)):Option (List bz) :=
 (Fj x0).bind λ cV =>
 some cV
noncomputable def J0(x0:(List dD))(x1:(dD→Option Bool)):Option Int :=
 (bH (O:=(Unit ⊕ Int)) (λ (dL:Int) =>
 af (decide (dL < (x0.length:Int)))
 ((idx x0 dL).bind λ jb =>
 (x1 jb).bind λ hZ =>
 af hZ
 (some (.inr (.inr dL)))
 (some (.inl (i64 (dL+1)))))
 (some (.inr (.inl ())))) 0).bind (Sum.elim (λ (_:Unit) =>
 some (-1))
  (λ q=>some q))
noncomputable def Fu(x0:(List dD))(x1:(dD→Option Bool)):Option Bool :=
 (J0 x0 x1).bind λ cV =>
 some (decide (cV ≥ 0))
noncomputable def Cw(x0:dD)(x1:bz):Option Bool :=
 (idx x1.deep x0.Place).bind λ dS =>
 some (!((decide (dS≤x0.mT)) == x0.wD))
noncomputable def zL(x0:ay)(x1:bz):Option Bool :=
 (Fu x0.bj (λ y=>Cw y x1)).bind λ jv =>
 some (!jv)
noncomputable def qT{S:Type}(ys:bz→S→Option (S × Bool)):Nat→Int→ay→bz→S→Option (S × (bz × Bool))
 | 0,_,_,_,_=>none
 | k+1,x0,x1,x2,s0 =>
  af (x0 == (x1.aE.length:Int))
  (((((zL x1 x2).bind λ eC =>
  af (!eC)
  (some (s0,true))
  ((ys x2 s0).bind λ iA =>
  some (iA.1,iA.2))):Option (S × Bool))).bind (λ (xP:(S × Bool)) =>
  some (xP.1,(x2,xP.2))))
  ((idx x1.aE x0).bind λ bV =>
  (bH (O:=((S × (List Int)) ⊕ (S × (bz × Bool)))) (λ (bU:(S × Int × (List Int))) =>
  (idx x1.aE x0).bind λ fg =>
  af (decide (bU.2.1≤fg.dq))
  ((idx bU.2.2 x0).bind λ _ =>
  (qT ys k (i64 (x0+1)) x1 (⟨bU.2.2.set x0.toNat bU.2.1⟩:bz) bU.1).bind λ hF =>
  af (!hF.2.2)
  (some (.inr (.inr (hF.1,(hF.2.1,false)))))
  (some (.inl (hF.1,i64 (bU.2.1+1),hF.2.1.deep))))
  (some (.inr (.inl (bU.1,bU.2.2))))) (s0,bV.cF,x2.deep)).bind (Sum.elim (λ (nB:(S × (List Int))) =>
  some (nB.1,((⟨nB.2⟩:bz),true)))
   (λ q=>some q)))
noncomputable def pd{S:Type}(ys:bz→S→Option (S × Bool))(x0:ay)(s0:S):Option S :=
 (qT ys 9 0 x0 (⟨[0,0,0]⟩:bz) s0).bind λ lD =>
  some lD.1
noncomputable def vJ(x0:ay):Option (Int × Int) :=
 (qa x0).bind λ lD =>
 af (lD != 0)
 (some (0,lD))
 ((xF (λ y s=>pd y (⟨x0.Rest,x0.Rows,x0.aE,x0.aD,x0.aT,x0.bj⟩:ay) s)).bind λ gO =>
 some ((gO.length:Int),0))
noncomputable def pe(x0:ay)(x1:(ay→Option Int)):Option (cq × Int) :=
 (qa x0).bind λ gZ =>
 af (gZ != 0)
 (some ((⟨⟨0,[],[],[],[],[]⟩,[]⟩:cq),gZ))
 ((x1 x0).bind λ fJ =>
 af (fJ != 0)
 (some ((⟨⟨0,[],[],[],[],[]⟩,[]⟩:cq),fJ))
 ((xF (λ y s=>pd y x0 s)).bind λ gE =>
 af ((gE.length:Int) == 0)
 (some ((⟨⟨0,[],[],[],[],[]⟩,[]⟩:cq),9))
 (some ((⟨⟨x0.Rest,x0.Rows,x0.aE,x0.aD,x0.aT,x0.bj⟩,gE⟩:cq),0))))
noncomputable def p6(x0:ay)(x1:Int):Option Int :=
 (pb x1 (x0.aE.length:Int)).bind λ dS =>
 some dS
noncomputable def AO(x0:Int):Option Int :=
 some x0
noncomputable def xD(x0:Int):Option Bool :=
 some (x0 != x0)
noncomputable def gj(x0:Int)(x1:Int):Option Bool :=
 (xD x0).bind λ ju =>
 af ju
 ((xD x1).bind λ qk =>
 af (!qk)
 (some true)
 (some (decide (x0 < x1))))
 (some (decide (x0 < x1)))
noncomputable def zQ(x0:(List Int))(x1:Int)(x2:Int):Option (List Int) :=
 (bH (O:=(List Int)) (λ (sj:((List Int) × Int)) =>
 af (decide (sj.2 < x2))
 ((bH (O:=(List Int)) (λ (eR:((List Int) × Int)) =>
 (((af (decide (eR.2 > x1))
 ((idx eR.1 eR.2).bind λ KS =>
 (idx eR.1 (i64 (eR.2 - 1))).bind λ KT =>
 (gj KS KT).bind λ Py =>
 some Py)
 (some false)):Option Bool)).bind (λ (F2:Bool) =>
 af F2
 ((idx eR.1 (i64 (eR.2 - 1))).bind λ uI =>
 (idx eR.1 eR.2).bind λ AI =>
 (idx eR.1 eR.2).bind λ _ =>
 (idx (eR.1.set eR.2.toNat uI) (i64 (eR.2 - 1))).bind λ _ =>
 some (.inl ((eR.1.set eR.2.toNat uI).set (i64 (eR.2 - 1)).toNat AI,i64 (eR.2 - 1))))
 (some (.inr eR.1)))) (sj.1,sj.2)).bind (λ (Ol:(List Int)) =>
 some (.inl (Ol,i64 (sj.2+1)))))
 (some (.inr sj.1))) (x0,i64 (x1+1))).bind (λ (Oj:(List Int)) =>
 some Oj)
noncomputable def zV(x0:(List Int))(x1:Int)(x2:Int)(x3:Int):Option (List Int) :=
 (bH (O:=((List Int) ⊕ (List Int))) (λ (c6:((List Int) × Int)) =>
 af (decide (i64 ((i64 (2 * c6.2))+1) ≥ x2))
 (some (.inr (.inl c6.1)))
 ((((af (decide (i64 ((i64 ((i64 (2 * c6.2))+1))+1) < x2))
 ((idx c6.1 (i64 (x3+(i64 ((i64 (2 * c6.2))+1))))).bind λ sK =>
 (idx c6.1 (i64 ((i64 (x3+(i64 ((i64 (2 * c6.2))+1))))+1))).bind λ AF =>
 (gj sK AF).bind λ Po =>
 some Po)
 (some false)):Option Bool)).bind (λ (Oh:Bool) =>
 (((af Oh
 (some (i64 ((i64 ((i64 (2 * c6.2))+1))+1)))
 (some (i64 ((i64 (2 * c6.2))+1)))):Option Int)).bind (λ (xM:Int) =>
 (idx c6.1 (i64 (x3+c6.2))).bind λ mc =>
 (idx c6.1 (i64 (x3+xM))).bind λ Gs =>
 (gj mc Gs).bind λ Yu =>
 af (!Yu)
 (some (.inr (.inr c6.1)))
 ((idx c6.1 (i64 (x3+xM))).bind λ AG =>
 (idx c6.1 (i64 (x3+c6.2))).bind λ Pp =>
 (idx c6.1 (i64 (x3+c6.2))).bind λ _ =>
 (idx (c6.1.set (i64 (x3+c6.2)).toNat AG) (i64 (x3+xM))).bind λ _ =>
 some (.inl ((c6.1.set (i64 (x3+c6.2)).toNat AG).set (i64 (x3+xM)).toNat Pp,xM))))))) (x0,x1)).bind (Sum.elim (λ (m7:(List Int)) =>
 some m7)
  (λ q=>some q))
noncomputable def zR(x0:(List Int))(x1:Int)(x2:Int):Option (List Int) :=
 (nD (i64 ((i64 (x2 - x1)) - 1)) 2).bind λ KX =>
 (bH (O:=(List Int)) (λ (uq:((List Int) × Int)) =>
 af (decide (uq.2 ≥ 0))
 ((zV uq.1 uq.2 (i64 (x2 - x1)) x1).bind λ KY =>
 some (.inl (KY,i64 (uq.2 - 1))))
 (some (.inr uq.1))) (x0,KX)).bind (λ (Oo:(List Int)) =>
 (bH (O:=(List Int)) (λ (lZ:((List Int) × Int)) =>
 af (decide (lZ.2 ≥ 0))
 ((idx lZ.1 (i64 (x1+lZ.2))).bind λ qj =>
 (idx lZ.1 x1).bind λ sP =>
 (idx lZ.1 x1).bind λ _ =>
 (idx (lZ.1.set x1.toNat qj) (i64 (x1+lZ.2))).bind λ _ =>
 (zV ((lZ.1.set x1.toNat qj).set (i64 (x1+lZ.2)).toNat sP) 0 lZ.2 x1).bind λ ib =>
 some (.inl (ib,i64 (lZ.2 - 1))))
 (some (.inr lZ.1))) (Oo,i64 ((i64 (x2 - x1)) - 1))).bind (λ (Ot:(List Int)) =>
 some Ot))
noncomputable def J1(x0:Int):Option Int :=
 (((af (decide (x0 ≥ 4294967296))
 ((lB .u64 x0 32).bind λ fJ =>
 some (fJ,32))
 (some (x0,0))):Option (Int × Int))).bind (λ (r9:(Int × Int)) =>
 (((af (decide (r9.1 ≥ 65536))
 ((lB .u64 r9.1 16).bind λ me =>
 some (me,i64 (r9.2+16)))
 (some (r9.1,r9.2))):Option (Int × Int))).bind (λ (sa:(Int × Int)) =>
 (((af (decide (sa.1 ≥ 256))
 ((lB .u64 sa.1 8).bind λ lf =>
 some (lf,i64 (sa.2+8)))
 (some (sa.1,sa.2))):Option (Int × Int))).bind (λ (uh:(Int × Int)) =>
 (uy (⟨#[0,1,2,2,3,3,3,3,4,4,4,4,4,4,4,4,5,5,5,5,5,5,5,5,5,5,5,5,5,5,5,5,6,6,6,6,6,6,6,6,6,6,6,6,6,6,6,6,6,6,6,6,6,6,6,6,6,6,6,6,6,6,6,6,7,7,7,7,7,7,7,7,7,7,7,7,7,7,7,7,7,7,7,7,7,7,7,7,7,7,7,7,7,7,7,7,7,7,7,7,7,7,7,7,7,7,7,7,7,7,7,7,7,7,7,7,7,7,7,7,7,7,7,7,7,7,7,7,8,8,8,8,8,8,8,8,8,8,8,8,8,8,8,8,8,8,8,8,8,8,8,8,8,8,8,8,8,8,8,8,8,8,8,8,8,8,8,8,8,8,8,8,8,8,8,8,8,8,8,8,8,8,8,8,8,8,8,8,8,8,8,8,8,8,8,8,8,8,8,8,8,8,8,8,8,8,8,8,8,8,8,8,8,8,8,8,8,8,8,8,8,8,8,8,8,8,8,8,8,8,8,8,8,8,8,8,8,8,8,8,8,8,8,8,8,8,8,8,8,8,8,8,8,8,8,8]⟩) (IntKind.wrap .u8 uh.1)).bind λ PF =>
 some (i64 (uh.2+(i64 PF))))))
noncomputable def zP(x0:Int):Option Int :=
 (J1 x0).bind λ cV =>
 some cV
noncomputable def Cy(x0:Int):Option Int :=
 (zP (IntKind.wrap .u64 x0)).bind λ nP =>
 (yc .u64 1 nP).bind λ dS =>
 some dS
noncomputable def Cz(x0:Int):Option (Int × Int) :=
 (yc .u64 x0 13).bind λ qk =>
 (fv .xor .u64 x0 qk).bind λ lD =>
 (lB .u64 lD 7).bind λ pz =>
 (fv .xor .u64 lD pz).bind λ km =>
 (yc .u64 km 17).bind λ eC =>
 (fv .xor .u64 km eC).bind λ gO =>
 some (gO,gO)
noncomputable def xB(x0:(List Int))(x1:Int)(x2:Int):Option (List Int) :=
 af (decide (i64 (x2 - x1) ≥ 8))
 ((Cy (i64 (x2 - x1))).bind λ nQ =>
 (nD (i64 (x2 - x1)) 4).bind λ yD =>
 (bH (O:=(List Int)) (λ (lz:((List Int) × Int × Int)) =>
 (nD (i64 (x2 - x1)) 4).bind λ DW =>
 af (decide (lz.2.1≤i64 ((i64 (x1+(i64 (DW * 2))))+1)))
 ((Cz lz.2.2).bind λ ib =>
 (fv .and .u64 ib.2 (IntKind.wrap .u64 (nQ - 1))).bind λ iC =>
 (((af (decide (i64 iC ≥ i64 (x2 - x1)))
 (some (i64 ((i64 iC) - (i64 (x2 - x1)))))
 (some (i64 iC))):Option Int)).bind (λ (C1:Int) =>
 (idx lz.1 (i64 (x1+C1))).bind λ KI =>
 (idx lz.1 lz.2.1).bind λ Gq =>
 (idx lz.1 lz.2.1).bind λ _ =>
 (idx (lz.1.set lz.2.1.toNat KI) (i64 (x1+C1))).bind λ _ =>
 some (.inl ((lz.1.set lz.2.1.toNat KI).set (i64 (x1+C1)).toNat Gq,i64 (lz.2.1+1),ib.1))))
 (some (.inr lz.1))) (x0,i64 ((i64 (x1+(i64 (yD * 2)))) - 1),IntKind.wrap .u64 (i64 (x2 - x1)))).bind (λ (Oq:(List Int)) =>
 some Oq))
 (some x0)
noncomputable def rW(x0:(List Int))(x1:Int)(x2:Int)(x3:Int):Option (Int × Int × Int) :=
 (idx x0 x2).bind λ ju =>
 (idx x0 x1).bind λ jv =>
 (gj ju jv).bind λ qk =>
 af qk
 (some (i64 (x3+1),x2,x1))
 (some (x3,x1,x2))
noncomputable def tX(x0:(List Int))(x1:Int)(x2:Int)(x3:Int)(x4:Int):Option (Int × Int) :=
 (rW x0 x1 x2 x4).bind λ dS =>
 (rW x0 dS.2.2 x3 dS.1).bind λ ju =>
 (rW x0 dS.2.1 ju.2.1 ju.1).bind λ jv =>
 some (jv.1,jv.2.2)
noncomputable def rV(x0:(List Int))(x1:Int)(x2:Int):Option (Int × Int) :=
 (tX x0 (i64 (x1 - 1)) x1 (i64 (x1+1)) x2).bind λ cV =>
 some (cV.1,cV.2)
noncomputable def zS(x0:(List Int))(x1:Int)(x2:Int):Option (Int × Int) :=
 (nD (i64 (x2 - x1)) 4).bind λ KV =>
 (nD (i64 (x2 - x1)) 4).bind λ gn =>
 (nD (i64 (x2 - x1)) 4).bind λ gE =>
 (((af (decide (i64 (x2 - x1) ≥ 8))
 (af (decide (i64 (x2 - x1) ≥ 50))
 ((rV x0 (i64 (x1+(i64 (KV * 1)))) 0).bind λ jb =>
 (rV x0 (i64 (x1+(i64 (gn * 2)))) jb.1).bind λ hZ =>
 (rV x0 (i64 (x1+(i64 (gE * 3)))) hZ.1).bind λ sL =>
 (tX x0 jb.2 hZ.2 sL.2 sL.1).bind λ GD =>
 some (GD.2,GD.1))
 ((tX x0 (i64 (x1+(i64 (KV * 1)))) (i64 (x1+(i64 (gn * 2)))) (i64 (x1+(i64 (gE * 3)))) 0).bind λ GF =>
 some (GF.2,GF.1)))
 (some (i64 (x1+(i64 (gn * 2))),0))):Option (Int × Int))).bind (λ (xR:(Int × Int)) =>
 af (xR.2 == 0)
 (some (xR.1,1))
 (af (xR.2 == 12)
 (some (xR.1,2))
 (some (xR.1,0))))
noncomputable def xC(x0:(List Int))(x1:Int)(x2:Int):Option (List Int) :=
 (bH (O:=(List Int)) (λ (fI:((List Int) × Int × Int)) =>
 af (decide (fI.2.1 < fI.2.2))
 ((idx fI.1 fI.2.2).bind λ lE =>
 (idx fI.1 fI.2.1).bind λ AK =>
 (idx fI.1 fI.2.1).bind λ _ =>
 (idx (fI.1.set fI.2.1.toNat lE) fI.2.2).bind λ _ =>
 some (.inl ((fI.1.set fI.2.1.toNat lE).set fI.2.2.toNat AK,i64 (fI.2.1+1),i64 (fI.2.2 - 1))))
 (some (.inr fI.1))) (x0,x1,i64 (x2 - 1))).bind (λ (Ad:(List Int)) =>
 some Ad)
noncomputable def vI(x0:(List Int))(x1:Int)(x2:Int):Option ((List Int) × Bool) :=
 (bH (O:=((List Int) ⊕ ((List Int) × Bool))) (λ (iZ:((List Int) × Int × Int)) =>
 af (decide (iZ.2.2 < 5))
 ((bH (O:=Int) (λ (kL:Int) =>
 af (decide (kL < x2))
 ((idx iZ.1 kL).bind λ DR =>
 (idx iZ.1 (i64 (kL - 1))).bind λ DS =>
 (gj DR DS).bind λ GH =>
 af (!GH)
 (some (.inl (i64 (kL+1))))
 (some (.inr kL)))
 (some (.inr kL))) iZ.2.1).bind (λ (jm:Int) =>
 af (jm == x2)
 (some (.inr (.inr (iZ.1,true))))
 (af (decide (i64 (x2 - x1) < 50))
 (some (.inr (.inr (iZ.1,false))))
 ((idx iZ.1 (i64 (jm - 1))).bind λ K0 =>
 (idx iZ.1 jm).bind λ PI =>
 (idx iZ.1 jm).bind λ _ =>
 (idx (iZ.1.set jm.toNat K0) (i64 (jm - 1))).bind λ _ =>
 (((af (decide (i64 (jm - x1) ≥ 2))
 ((bH (O:=(List Int)) (λ (eP:((List Int) × Int)) =>
 af (decide (eP.2 ≥ 1))
 ((idx eP.1 eP.2).bind λ KF =>
 (idx eP.1 (i64 (eP.2 - 1))).bind λ KG =>
 (gj KF KG).bind λ Pk =>
 af (!Pk)
 (some (.inr eP.1))
 ((idx eP.1 (i64 (eP.2 - 1))).bind λ Dn =>
 (idx eP.1 eP.2).bind λ KH =>
 (idx eP.1 eP.2).bind λ _ =>
 (idx (eP.1.set eP.2.toNat Dn) (i64 (eP.2 - 1))).bind λ _ =>
 some (.inl ((eP.1.set eP.2.toNat Dn).set (i64 (eP.2 - 1)).toNat KH,i64 (eP.2 - 1)))))
 (some (.inr eP.1))) ((iZ.1.set jm.toNat K0).set (i64 (jm - 1)).toNat PI,i64 (jm - 1))).bind (λ (F7:(List Int)) =>
 some F7))
 (some ((iZ.1.set jm.toNat K0).set (i64 (jm - 1)).toNat PI))):Option (List Int))).bind (λ (Ki:(List Int)) =>
 af (decide (i64 (x2 - jm) ≥ 2))
 ((bH (O:=(List Int)) (λ (cZ:((List Int) × Int)) =>
 af (decide (cZ.2 < x2))
 ((idx cZ.1 cZ.2).bind λ Dq =>
 (idx cZ.1 (i64 (cZ.2 - 1))).bind λ Dr =>
 (gj Dq Dr).bind λ Gp =>
 af (!Gp)
 (some (.inr cZ.1))
 ((idx cZ.1 (i64 (cZ.2 - 1))).bind λ vW =>
 (idx cZ.1 cZ.2).bind λ Ds =>
 (idx cZ.1 cZ.2).bind λ _ =>
 (idx (cZ.1.set cZ.2.toNat vW) (i64 (cZ.2 - 1))).bind λ _ =>
 some (.inl ((cZ.1.set cZ.2.toNat vW).set (i64 (cZ.2 - 1)).toNat Ds,i64 (cZ.2+1)))))
 (some (.inr cZ.1))) (Ki,i64 (jm+1))).bind (λ (Od:(List Int)) =>
 some (.inl (Od,jm,i64 (iZ.2.2+1)))))
 (some (.inl (Ki,jm,i64 (iZ.2.2+1)))))))))
 (some (.inr (.inl iZ.1)))) (x0,i64 (x1+1),0)).bind (Sum.elim (λ (Om:(List Int)) =>
 some (Om,false))
  (λ q=>some q))
noncomputable def zT(x0:(List Int))(x1:Int)(x2:Int)(x3:Int):Option ((List Int) × Int) :=
 (idx x0 x3).bind λ KL =>
 (idx x0 x1).bind λ Gr =>
 (idx x0 x1).bind λ _ =>
 (idx (x0.set x1.toNat KL) x3).bind λ _ =>
 (bH (O:=((List Int) × Int)) (λ (lW:((List Int) × Int × Int)) =>
 (bH (O:=Int) (λ (Am:Int) =>
 af (decide (Am≤lW.2.2))
 ((idx lW.1 x1).bind λ Gv =>
 (idx lW.1 Am).bind λ YC =>
 (gj Gv YC).bind λ KO =>
 af (!KO)
 (some (.inl (i64 (Am+1))))
 (some (.inr Am)))
 (some (.inr Am))) lW.2.1).bind (λ (qc:Int) =>
 (bH (O:=Int) (λ (An:Int) =>
 af (decide (qc≤An))
 ((idx lW.1 x1).bind λ DF =>
 (idx lW.1 An).bind λ DG =>
 (gj DF DG).bind λ ahe =>
 af ahe
 (some (.inl (i64 (An - 1))))
 (some (.inr An)))
 (some (.inr An))) lW.2.2).bind (λ (xN:Int) =>
 af (decide (qc > xN))
 (some (.inr (lW.1,qc)))
 ((idx lW.1 xN).bind λ Pt =>
 (idx lW.1 qc).bind λ YG =>
 (idx lW.1 qc).bind λ _ =>
 (idx (lW.1.set qc.toNat Pt) xN).bind λ _ =>
 some (.inl ((lW.1.set qc.toNat Pt).set xN.toNat YG,i64 (qc+1),i64 (xN - 1))))))) ((x0.set x1.toNat KL).set x3.toNat Gr,i64 (x1+1),i64 (x2 - 1))).bind (λ (FU:((List Int) × Int)) =>
 some (FU.1,FU.2))
noncomputable def zU(x0:(List Int))(x1:Int)(x2:Int)(x3:Int):Option ((List Int) × Int × Bool) :=
 (idx x0 x3).bind λ lC =>
 (idx x0 x1).bind λ mO =>
 (idx x0 x1).bind λ _ =>
 (idx (x0.set x1.toNat lC) x3).bind λ _ =>
 (bH (O:=Int) (λ (Ak:Int) =>
 af (decide (Ak≤i64 (x2 - 1)))
 ((idx ((x0.set x1.toNat lC).set x3.toNat mO) Ak).bind λ Yx =>
 (idx ((x0.set x1.toNat lC).set x3.toNat mO) x1).bind λ uH =>
 (gj Yx uH).bind λ Yy =>
 af Yy
 (some (.inl (i64 (Ak+1))))
 (some (.inr Ak)))
 (some (.inr Ak))) (i64 (x1+1))).bind (λ (q6:Int) =>
 (bH (O:=Int) (λ (Al:Int) =>
 af (decide (q6≤Al))
 ((idx ((x0.set x1.toNat lC).set x3.toNat mO) Al).bind λ DD =>
 (idx ((x0.set x1.toNat lC).set x3.toNat mO) x1).bind λ Gu =>
 (gj DD Gu).bind λ ag8 =>
 af (!ag8)
 (some (.inl (i64 (Al - 1))))
 (some (.inr Al)))
 (some (.inr Al))) (i64 (x2 - 1))).bind (λ (pj:Int) =>
 af (decide (q6 > pj))
 ((idx ((x0.set x1.toNat lC).set x3.toNat mO) x1).bind λ Pq =>
 (idx ((x0.set x1.toNat lC).set x3.toNat mO) pj).bind λ YE =>
 (idx ((x0.set x1.toNat lC).set x3.toNat mO) pj).bind λ _ =>
 (idx (((x0.set x1.toNat lC).set x3.toNat mO).set pj.toNat Pq) x1).bind λ _ =>
 some ((((x0.set x1.toNat lC).set x3.toNat mO).set pj.toNat Pq).set x1.toNat YE,pj,true))
 ((idx ((x0.set x1.toNat lC).set x3.toNat mO) pj).bind λ Pr =>
 (idx ((x0.set x1.toNat lC).set x3.toNat mO) q6).bind λ YF =>
 (idx ((x0.set x1.toNat lC).set x3.toNat mO) q6).bind λ _ =>
 (idx (((x0.set x1.toNat lC).set x3.toNat mO).set q6.toNat Pr) pj).bind λ _ =>
 (bH (O:=((List Int) × Int)) (λ (lX:((List Int) × Int × Int)) =>
 (bH (O:=Int) (λ (Ao:Int) =>
 af (decide (Ao≤lX.2.2))
 ((idx lX.1 Ao).bind λ YI =>
 (idx lX.1 x1).bind λ uI =>
 (gj YI uI).bind λ AI =>
 af AI
 (some (.inl (i64 (Ao+1))))
 (some (.inr Ao)))
 (some (.inr Ao))) lX.2.1).bind (λ (q7:Int) =>
 (bH (O:=Int) (λ (Ap:Int) =>
 af (decide (q7≤Ap))
 ((idx lX.1 Ap).bind λ YK =>
 (idx lX.1 x1).bind λ YL =>
 (gj YK YL).bind λ ahh =>
 af (!ahh)
 (some (.inl (i64 (Ap - 1))))
 (some (.inr Ap)))
 (some (.inr Ap))) lX.2.2).bind (λ (vQ:Int) =>
 af (decide (q7 > vQ))
 (some (.inr (lX.1,vQ)))
 ((idx lX.1 vQ).bind λ PB =>
 (idx lX.1 q7).bind λ wj =>
 (idx lX.1 q7).bind λ _ =>
 (idx (lX.1.set q7.toNat PB) vQ).bind λ _ =>
 some (.inl ((lX.1.set q7.toNat PB).set vQ.toNat wj,i64 (q7+1),i64 (vQ - 1))))))) ((((x0.set x1.toNat lC).set x3.toNat mO).set q6.toNat Pr).set pj.toNat YF,i64 (q6+1),i64 (pj - 1))).bind (λ (pk:((List Int) × Int)) =>
 (idx pk.1 x1).bind λ PC =>
 (idx pk.1 pk.2).bind λ YM =>
 (idx pk.1 pk.2).bind λ _ =>
 (idx (pk.1.set pk.2.toNat PC) x1).bind λ _ =>
 some ((pk.1.set pk.2.toNat PC).set x1.toNat YM,pk.2,false)))))
noncomputable def tW:Nat→(List Int)→Int→Int→Int→Option (List Int)
 | 0,_,_,_,_=>none
 | k+1,x0,x1,x2,x3 =>
  (bH (O:=(List Int)) (λ (br:((List Int) × Int × Int × Int × Bool × Bool)) =>
  af (decide (i64 (br.2.2.1 - br.2.1)≤12))
  ((zQ br.1 br.2.1 br.2.2.1).bind λ yA =>
  some (.inr yA))
  (af (br.2.2.2.1 == 0)
  ((zR br.1 br.2.1 br.2.2.1).bind λ PA =>
  some (.inr PA))
  ((((af (!br.2.2.2.2.1)
  ((xB br.1 br.2.1 br.2.2.1).bind λ Gy =>
  some (Gy,i64 (br.2.2.2.1 - 1)))
  (some (br.1,br.2.2.2.1))):Option ((List Int) × Int))).bind (λ (gW:((List Int) × Int)) =>
  (zS gW.1 br.2.1 br.2.2.1).bind λ wi =>
  (((af (wi.2 == 2)
  ((xC gW.1 br.2.1 br.2.2.1).bind λ yB =>
  some (yB,i64 ((i64 (br.2.2.1 - 1)) - (i64 (wi.1 - br.2.1))),1))
  (some (gW.1,wi.1,wi.2))):Option ((List Int) × Int × Int))).bind (λ (kj:((List Int) × Int × Int)) =>
  (((af br.2.2.2.2.1
  (af br.2.2.2.2.2
  (some (kj.2.2 == 1))
  (some false))
  (some false)):Option Bool)).bind (λ (F3:Bool) =>
  (((af F3
  ((vI kj.1 br.2.1 br.2.2.1).bind λ oF =>
  af oF.2
  (some (.inr oF.1))
  (some (.inl oF.1)))
  (some (.inl kj.1))):Option ((List Int) ⊕ (List Int)))).bind (Sum.elim (λ (qd:(List Int)) =>
  (((af (decide (br.2.1 > 0))
  ((idx qd (i64 (br.2.1 - 1))).bind λ DN =>
  (idx qd kj.2.1).bind λ DO =>
  (gj DN DO).bind λ GA =>
  some (!GA))
  (some false)):Option Bool)).bind (λ (F4:Bool) =>
  af F4
  ((zT qd br.2.1 br.2.2.1 kj.2.1).bind λ GB =>
  some (.inl (GB.1,GB.2,br.2.2.1,gW.2,br.2.2.2.2.1,br.2.2.2.2.2)))
  ((zU qd br.2.1 br.2.2.1 kj.2.1).bind λ gP =>
  (nD (i64 (br.2.2.1 - br.2.1)) 8).bind λ GC =>
  af (decide (i64 (gP.2.1 - br.2.1) < i64 (br.2.2.1 - gP.2.1)))
  ((tW k gP.1 br.2.1 gP.2.1 gW.2).bind λ PD =>
  some (.inl (PD,i64 (gP.2.1+1),br.2.2.1,gW.2,decide (i64 (gP.2.1 - br.2.1) ≥ GC),gP.2.2)))
  ((tW k gP.1 (i64 (gP.2.1+1)) br.2.2.1 gW.2).bind λ PE =>
  some (.inl (PE,br.2.1,gP.2.1,gW.2,decide (i64 (br.2.2.1 - gP.2.1) ≥ GC),gP.2.2))))))
   (λ q=>some (.inr q))))))))) (x0,x1,x2,x3,true,true)).bind (λ q=>some q)
noncomputable def zM(x0:(List Int)):Option (List Int) :=
 (zP (IntKind.wrap .u64 (x0.length:Int))).bind λ nP =>
 (tW 12 x0 0 (x0.length:Int) nP).bind λ dS =>
 some dS
noncomputable def zN(x0:(List Int)):Option (List Int) :=
 af (decide ((x0.length:Int) < 2))
 (some x0)
 ((bH (O:=(Unit ⊕ (List Int))) (λ (nH:Int) =>
 af (decide (nH < (x0.length:Int)))
 ((idx x0 nH).bind λ ag4 =>
 (idx x0 (i64 (nH - 1))).bind λ v8 =>
 af (ag4 == v8)
 ((lK x0 nH (x0.length:Int)).bind λ _ =>
 (bH (O:=((List Int) × Int)) (λ (jS:((List Int) × Int × Int)) =>
 af (decide (jS.2.2 < ((jS.1.drop nH.toNat).length:Int)))
 ((idx (jS.1.drop nH.toNat) jS.2.2).bind λ ag9 =>
 (idx (jS.1.drop nH.toNat) (i64 (jS.2.2 - 1))).bind λ YA =>
 af (ag9 != YA)
 ((idx (jS.1.drop nH.toNat) jS.2.2).bind λ YB =>
 (idx jS.1 jS.2.1).bind λ _ =>
 some (.inl (jS.1.set jS.2.1.toNat YB,i64 (jS.2.1+1),i64 (jS.2.2+1))))
 (some (.inl (jS.1,jS.2.1,i64 (jS.2.2+1)))))
 (some (.inr (jS.1,jS.2.1)))) (x0,nH,1)).bind (λ (vP:((List Int) × Int)) =>
 (lK vP.1 vP.2 (vP.1.length:Int)).bind λ _ =>
 (lK (qy vP.1 vP.2.toNat) 0 vP.2).bind λ YD =>
 some (.inr (.inr YD))))
 (some (.inl (i64 (nH+1)))))
 (some (.inr (.inl ())))) 1).bind (Sum.elim (λ (_:Unit) =>
 some x0)
  (λ q=>some q)))
noncomputable def zY(x0:cq)(x1:(bz→Option Int)):Option (List Int) :=
 (bH (O:=(List Int)) (λ (pr:((List Int) × Int)) =>
 af (decide (pr.2 < (x0.fb.length:Int)))
 ((idx x0.fb pr.2).bind λ lE =>
 (x1 lE).bind λ nQ =>
 (gR pr.1 [nQ]).bind λ pD =>
 some (.inl (pD,i64 (pr.2+1))))
 (some (.inr pr.1))) ([],0)).bind (λ (sb:(List Int)) =>
 (zM sb).bind λ uK =>
 (zN uK).bind λ nR =>
 some nR)
noncomputable def CO(x0:bz)(x1:Int):Option Int :=
 (idx x0.deep x1).bind λ dS =>
 some dS
noncomputable def vK(x0:ay)(x1:Int):Option ((List Int) × Int) :=
 (AO x1).bind λ eC =>
 (pe x0 (λ y=>p6 y eC)).bind λ gO =>
 af (gO.2 != 0)
 (some ([],gO.2))
 ((zY gO.1 (λ y=>CO y x1)).bind λ gZ =>
 some (gZ,0))
noncomputable def DV(x0:bz)(x1:cq)(x2:Int):Option Int :=
 (idx x0.deep x2).bind λ ju =>
 (xx x1.book ju).bind λ jv =>
 some jv
noncomputable def zW(x0:ay)(x1:Int):Option (Reach × Int) :=
 (AO x1).bind λ iB =>
 (pe x0 (λ y=>p6 y iB)).bind λ fP =>
 af (fP.2 != 0)
 (some ((⟨0,0⟩:Reach),fP.2))
 ((zY fP.1 (λ y=>DV y fP.1 x1)).bind λ gn =>
 (idx gn 0).bind λ gE =>
 (idx gn (i64 ((gn.length:Int) - 1))).bind λ me =>
 some ((⟨gE,me⟩:Reach),0))
noncomputable def E7(x0:ay)(x1:Int)(x2:Int):Option Int :=
 (pb x1 (x0.aD.length:Int)).bind λ ju =>
 (pb x2 (x0.aT.length:Int)).bind λ jv =>
 some (qm ju [jv])
noncomputable def Co(x0:cq)(x1:Int):Option Int :=
 af (x1 == 0)
 (some 2)
 (af (x1 == (x0.fb.length:Int))
 (some 1)
 (some 0))
noncomputable def E8(x0:bz)(x1:cq)(x2:Int)(x3:Int):Option Bool :=
 (Cp x1.book x0 x2 x3).bind λ dS =>
 some dS
noncomputable def zX(x0:ay)(x1:Int)(x2:Int):Option (Int × Int) :=
 (pe x0 (λ y=>E7 y x1 x2)).bind λ bV =>
 af (bV.2 != 0)
 (some (0,bV.2))
 ((xy bV.1 (λ y=>E8 y bV.1 x1 x2)).bind λ eN =>
 (Co bV.1 eN).bind λ ko =>
 some (ko,0))
noncomputable def Cu(x0:(List Int)):Option (List Bool) :=
 (bH (O:=(List Bool)) (λ (um:(Int × (List Bool))) =>
 af (decide (um.1 < (x0.length:Int)))
 ((idx x0 um.1).bind λ hF =>
 (idx um.2 hF).bind λ _ =>
 some (.inl (i64 (um.1+1),um.2.set hF.toNat true)))
 (some (.inr um.2))) (0,[false,false,false,false])).bind (λ (Kg:(List Bool)) =>
 some Kg)
noncomputable def JM(x0:ay)(x1:(List (List Int))):Option ((List Bool) × Int) :=
 af ((x1.length:Int) != (x0.aT.length:Int))
 (some ([false,false,false,false,false,false,false,false,false,false,false,false,false,false,false,false],2))
 ((bH (O:=((List Bool) ⊕ ((List Bool) × Int))) (λ (gl:(Int × (List Bool))) =>
 af (decide (gl.1 < (x1.length:Int)))
 ((idx x1 gl.1).bind λ pB =>
 (idx x0.aT gl.1).bind λ Pu =>
 af ((pB.length:Int) != Pu.aD)
 (some (.inr (.inr ([false,false,false,false,false,false,false,false,false,false,false,false,false,false,false,false],2))))
 ((bH (O:=(Unit ⊕ ((List Bool) × Int))) (λ (po:Int) =>
 af (decide (po < (pB.length:Int)))
 ((idx pB po).bind λ DL =>
 (pb DL (x0.aD.length:Int)).bind λ Gx =>
 af (Gx != 0)
 (some (.inr (.inr ([false,false,false,false,false,false,false,false,false,false,false,false,false,false,false,false],Gx))))
 ((((af (decide (po > 0))
 ((idx pB (i64 (po - 1))).bind λ Pv =>
 some (decide (DL≤Pv)))
 (some false)):Option Bool)).bind (λ (F1:Bool) =>
 af F1
 (some (.inr (.inr ([false,false,false,false,false,false,false,false,false,false,false,false,false,false,false,false],7))))
 (some (.inl (i64 (po+1)))))))
 (some (.inr (.inl ())))) 0).bind (Sum.elim (λ (_:Unit) =>
 (Cu pB).bind λ Pw =>
 (iY 4 gl.2 gl.1).bind λ _ =>
 some (.inl (i64 (gl.1+1),Gd 4 gl.2 gl.1 Pw)))
  (λ q=>some (.inr (.inr q))))))
 (some (.inr (.inl gl.2)))) (0,[false,false,false,false,false,false,false,false,false,false,false,false,false,false,false,false])).bind (Sum.elim (λ (C3:(List Bool)) =>
 some (C3,0))
  (λ q=>some q)))
noncomputable def JL(x0:ay)(x1:(List (List Int)))(_:(List Bool)):Option ((List Bool) × Int) :=
 (JM x0 x1).bind λ dS =>
 some (dS.1,dS.2)
noncomputable def Fg(x0:ay)(x1:Int)(x2:Int):Option Bool :=
 (idx x0.aT x1).bind λ km =>
 (idx x0.aT x2).bind λ eC =>
 af (x1 != x2)
 (af (decide (eC.na ≥ i64 ((i64 (km.na+km.mr))+x0.Rest)))
 (some true)
 (some (decide (km.na ≥ i64 ((i64 (eC.na+eC.mr))+x0.Rest)))))
 (some false)
noncomputable def Cq(x0:ay)(x1:(List Bool))(x2:Int):Option Bool :=
 (bH (O:=(Unit ⊕ Bool)) (λ (si:Int) =>
 af (decide (si < x2))
 ((Fg x0 si x2).bind λ Gt =>
 af Gt
 (some (.inl (i64 (si+1))))
 ((bH (O:=(Unit ⊕ Bool)) (λ (Aj:Int) =>
 af (decide (Aj < (x0.aD.length:Int)))
 ((iY 4 x1 si).bind λ ag5 =>
 (idx ag5 Aj).bind λ Yz =>
 af Yz
 ((iY 4 x1 x2).bind λ ag6 =>
 (idx ag6 Aj).bind λ ag7 =>
 af ag7
 (some (.inr (.inr false)))
 (some (.inl (i64 (Aj+1)))))
 (some (.inl (i64 (Aj+1)))))
 (some (.inr (.inl ())))) 0).bind (Sum.elim (λ (_:Unit) =>
 some (.inl (i64 (si+1))))
  (λ q=>some (.inr (.inr q))))))
 (some (.inr (.inl ())))) 0).bind (Sum.elim (λ (_:Unit) =>
 some true)
  (λ q=>some q))
noncomputable def Cr(x0:bz)(x1:ay)(x2:(List Bool))(x3:cq):Option Bool :=
 (bH (O:=(Unit ⊕ Bool)) (λ (ui:Int) =>
 af (decide (ui < (x1.aT.length:Int)))
 ((iY 4 x2 ui).bind λ Yq =>
 (bH (O:=(Unit ⊕ Bool)) (λ (ya:Int) =>
 af (decide (ya < 4))
 ((idx Yq ya).bind λ Yv =>
 af Yv
 ((Cp x3.book x0 ya ui).bind λ AG =>
 af (!AG)
 (some (.inr (.inr false)))
 (some (.inl (i64 (ya+1)))))
 (some (.inl (i64 (ya+1)))))
 (some (.inr (.inl ())))) 0).bind (Sum.elim (λ (_:Unit) =>
 some (.inl (i64 (ui+1))))
  (λ q=>some (.inr (.inr q)))))
 (some (.inr (.inl ())))) 0).bind (Sum.elim (λ (_:Unit) =>
 some true)
  (λ q=>some q))
noncomputable def JK(x0:ay)(vZ:(List (List Int)))(rp:(List Bool)):Option ((List Bool) × cq × Int) :=
 (qa x0).bind λ gZ =>
 af (gZ != 0)
 (some (rp,(⟨⟨0,[],[],[],[],[]⟩,[]⟩:cq),gZ))
 ((JL x0 vZ rp).bind λ fJ =>
 af (fJ.2 != 0)
 (some (fJ.1,(⟨⟨0,[],[],[],[],[]⟩,[]⟩:cq),fJ.2))
 ((xF (λ y s=>pd y x0 s)).bind λ gE =>
 af ((gE.length:Int) == 0)
 (some (fJ.1,(⟨⟨0,[],[],[],[],[]⟩,[]⟩:cq),9))
 (some (fJ.1,(⟨⟨x0.Rest,x0.Rows,x0.aE,x0.aD,x0.aT,x0.bj⟩,gE⟩:cq),0))))
noncomputable def m32(x0:ay)(x1:(List (List Int))):Option (Int × Int) :=
 (JK x0 x1 [false,false,false,false,false,false,false,false,false,false,false,false,false,false,false,false]).bind λ fg =>
 af (fg.2.2 != 0)
 (some (0,fg.2.2))
 ((bH (O:=(Unit ⊕ (Int × Int))) (λ (uo:Int) =>
 af (decide (uo < (x0.aT.length:Int)))
 ((Cq fg.2.1.book fg.1 uo).bind λ oH =>
 af (!oH)
 (some (.inr (.inr (2,0))))
 (some (.inl (i64 (uo+1)))))
 (some (.inr (.inl ())))) 0).bind (Sum.elim (λ (_:Unit) =>
 (xy fg.2.1 (λ y=>Cr y x0 fg.1 fg.2.1)).bind λ lE =>
 (Co fg.2.1 lE).bind λ AK =>
 some (AK,0))
  (λ q=>some q)))
noncomputable def ox(_:ay):Option Int :=
 some 0
noncomputable def p7{S:Type}(ys:(List Bool)→S→Option (S × Bool)):Nat→((List Bool)→Int→cq→Int→(List Bool)→(List Bool)→S→Option (S × Bool)) × ((List Bool)→Int→Int→Int→cq→Int→(List Bool)→(List Bool)→S→Option (S × Bool))
 | 0=>(λ _ _ _ _ _ _ _=>none,λ _ _ _ _ _ _ _ _ _=>none)
 | k+1=>(λ x0 x1 xX xO xG xA s0 =>
  af (x1 == (xX.book.aT.length:Int))
  ((ys x0 s0).bind λ km =>
  some (km.1,km.2))
  ((lB .i64 xO x1).bind λ eC =>
  (fv .and .i64 eC 1).bind λ gO =>
  af (gO == 1)
  (((p7 ys k).1 x0 (i64 (x1+1)) xX xO xG xA s0).bind λ iB =>
  some (iB.1,iB.2))
  ((idx xX.book.aT x1).bind λ fP =>
  ((p7 ys k).2 x0 x1 0 fP.aD xX xO xG xA s0).bind λ eN =>
  some (eN.1,eN.2))),
  λ x0 x1 x2 x3 xX xO xG xA s0 =>
  af (x3 == 0)
  (((((Cq xX.book x0 x1).bind λ gO =>
  af (!gO)
  (some (s0,true))
  (((p7 ys k).1 x0 (i64 (x1+1)) xX xO xG xA s0).bind λ bV =>
  some (bV.1,bV.2))):Option (S × Bool))).bind (λ (xQ:(S × Bool)) =>
  some (xQ.1,xQ.2)))
  ((bH (O:=(S ⊕ (S × Bool))) (λ (bU:(S × Int × (List Bool))) =>
  af (decide (bU.2.1 < (xX.book.aD.length:Int)))
  (((((idx xG bU.2.1).bind λ PH =>
  af (!PH)
  (some true)
  ((iY 4 xA x1).bind λ DT =>
  (idx DT bU.2.1).bind λ PJ =>
  some (!PJ))):Option Bool)).bind (λ (F6:Bool) =>
  af F6
  (some (.inl (bU.1,i64 (bU.2.1+1),bU.2.2)))
  ((iY 4 bU.2.2 x1).bind λ PK =>
  (idx PK bU.2.1).bind λ _ =>
  ((p7 ys k).2 (pv 4 bU.2.2 x1 bU.2.1 true) x1 (i64 (bU.2.1+1)) (i64 (x3 - 1)) xX xO xG xA bU.1).bind λ rv =>
  af (!rv.2)
  (some (.inr (.inr (rv.1,false))))
  ((iY 4 (pv 4 bU.2.2 x1 bU.2.1 true) x1).bind λ nN =>
  (idx nN bU.2.1).bind λ _ =>
  some (.inl (rv.1,i64 (bU.2.1+1),pv 4 (pv 4 bU.2.2 x1 bU.2.1 true) x1 bU.2.1 false))))))
  (some (.inr (.inl bU.1)))) (s0,x2,x0)).bind (Sum.elim (λ (nB:S) =>
  some (nB,true))
   (λ q=>some q))))
noncomputable def rU{S:Type}(ys:(List Bool)→S→Option (S × Bool))(x1:cq)(x2:Int)(x3:(List Bool))(x4:(List Bool))(s0:S):Option S :=
 ((p7 ys 40).1 [false,false,false,false,false,false,false,false,false,false,false,false,false,false,false,false] 0 x1 x2 x3 x4 s0).bind λ qk =>
  some qk.1
noncomputable def zJ(x0:cq)(x1:(List Bool))(x2:(List Bool))(x3:Int):Option (cq × Int × (List Bool) × (List Bool)) :=
 some (x0,x3,x2,x1)
noncomputable def xz(x0:ay):Option (List Bool) :=
 (bH (O:=(List Bool)) (λ (dL:(Int × (List Bool))) =>
 af (decide (dL.1 < (x0.aD.length:Int)))
 ((idx dL.2 dL.1).bind λ _ =>
 some (.inl (i64 (dL.1+1),dL.2.set dL.1.toNat true)))
 (some (.inr dL.2))) (0,[false,false,false,false])).bind (λ (nC:(List Bool)) =>
 some nC)
noncomputable def CK(x0:ay):Option (Int × Int) :=
 (pe x0 (λ y=>ox y)).bind λ iA =>
 af (iA.2 != 0)
 (some (0,iA.2))
 ((vG iA.1).bind λ eN =>
 (xz iA.1.book).bind λ ko =>
 (zJ iA.1 eN ko 0).bind λ fJ =>
 (rU (gk (λ (_:(List Bool)) (oA:Int)=>((some (.inl (i64 (oA+1)))):Option (Int ⊕ Empty)))) fJ.1 fJ.2.1 fJ.2.2.1 fJ.2.2.2 (.inl 0)).bind (Sum.elim (λ (oA:Int) =>
 some (oA,0))
  (λ (o:Empty)=>o.elim)))
noncomputable def Fa(x0:ay)(x1:(List Bool)):Option (List (List Int)) :=
 (bH (O:=(List (List Int))) (λ (uj:((List (List Int)) × Int)) =>
 af (decide (uj.2 < (x0.aT.length:Int)))
 ((iY 4 x1 uj.2).bind λ yy =>
 (bH (O:=(List Int)) (λ (re:((List Int) × Int)) =>
 af (decide (re.2 < 4))
 ((idx yy re.2).bind λ agZ =>
 af agZ
 ((gR re.1 [re.2]).bind λ ag0 =>
 some (.inl (ag0,i64 (re.2+1))))
 (some (.inl (re.1,i64 (re.2+1)))))
 (some (.inr re.1))) ([],0)).bind (λ (Kf:(List Int)) =>
 (gR uj.1 [Kf]).bind λ ag1 =>
 some (.inl (ag1,i64 (uj.2+1)))))
 (some (.inr uj.1))) ([],0)).bind (λ (AR:(List (List Int))) =>
 some AR)
noncomputable def FA(x0:ay):Option ((List (List Int)) × Bool × Int) :=
 (pe x0 (λ y=>ox y)).bind λ gm =>
 af (gm.2 != 0)
 (some ([],false,gm.2))
 ((vG gm.1).bind λ wm =>
 (xz gm.1.book).bind λ DQ =>
 (zJ gm.1 wm DQ 0).bind λ mf =>
 (rU (gk (λ (YO:(List Bool)) (_:Unit)=>(((Fa gm.1.book YO).bind λ pC =>
 some (.inr pC)):Option (Unit ⊕ (List (List Int)))))) mf.1 mf.2.1 mf.2.2.1 mf.2.2.2 (.inl ())).bind (Sum.elim (λ (_:Unit) =>
 some ([],false,0))
  (λ (vR:(List (List Int))) =>
 some (vR,true,0))))
noncomputable def JV (x1:((List Bool)→((List (List Bool)) ⊕ Empty)→Option (((List (List Bool)) ⊕ Empty) × Bool))→((List (List Bool)) ⊕ Empty)→Option ((List (List Bool)) ⊕ Empty)):Option (List (List Bool)) :=
 (x1 (gk (λ (ru:(List Bool)) (jT:(List (List Bool)))=>(((gR jT [ru]).bind λ gn =>
 some (.inl gn)):Option ((List (List Bool)) ⊕ Empty)))) (.inl [])).bind (Sum.elim (λ (jT:(List (List Bool))) =>
 some jT)
  (λ (o:Empty)=>o.elim))
noncomputable def JN (x0:((List Bool)→((List (List Bool)) ⊕ Empty)→Option (((List (List Bool)) ⊕ Empty) × Bool))→((List (List Bool)) ⊕ Empty)→Option ((List (List Bool)) ⊕ Empty)):Option (List (List Bool)) :=
 (JV x0).bind λ cV =>
 some cV
noncomputable def JO(x0:((List Bool)→Option Int))(x1:(List (List Bool))):Option (List Bool) :=
 (idx x1 0).bind λ lf =>
 (lK x1 1 (x1.length:Int)).bind λ uJ =>
 (bH (O:=(List Bool)) (λ (lY:(Int × (List Bool))) =>
 af (decide (lY.1 < (uJ.length:Int)))
 ((idx uJ lY.1).bind λ yD =>
 (x0 yD).bind λ uK =>
 (x0 lY.2).bind λ nR =>
 af (decide (uK < nR))
 (some (.inl (i64 (lY.1+1),yD)))
 (some (.inl (i64 (lY.1+1),lY.2))))
 (some (.inr lY.2))) (0,lf)).bind (λ (C4:(List Bool)) =>
 some C4)
noncomputable def Cs(x0:ay)(x1:(List Bool)):Option Int :=
 (bH (O:=Int) (λ (c6:((Int→Int) × Int × Int)) =>
 af (decide (c6.2.2 < (x0.aT.length:Int)))
 ((idx x0.aT c6.2.2).bind λ sJ =>
 (iY 4 x1 c6.2.2).bind λ wA =>
 (bH (O:=((Int→Int) × Int)) (λ (gu:((Int→Int) × Int × Int)) =>
 af (decide (gu.2.2 < 4))
 ((idx wA gu.2.2).bind λ yy =>
 af yy
 (some (.inl (sz gu.1 gu.2.2 (i64 ((gu.1 gu.2.2)+sJ.mr)),qm gu.2.1 [(sz gu.1 gu.2.2 (i64 ((gu.1 gu.2.2)+sJ.mr))) gu.2.2],i64 (gu.2.2+1))))
 (some (.inl (gu.1,gu.2.1,i64 (gu.2.2+1)))))
 (some (.inr (gu.1,gu.2.1)))) (c6.1,c6.2.1,0)).bind (λ (FV:((Int→Int) × Int)) =>
 some (.inl (FV.1,FV.2,i64 (c6.2.2+1)))))
 (some (.inr c6.2.1))) ((λ _=>0),0,0)).bind (λ (m7:Int) =>
 some m7)
noncomputable def FB(x0:ay):Option ((List (List Int)) × Int × Bool × Int) :=
 (pe x0 (λ y=>ox y)).bind λ eN =>
 af (eN.2 != 0)
 (some ([],0,false,eN.2))
 ((vG eN.1).bind λ gn =>
 (xz eN.1.book).bind λ gE =>
 (zJ eN.1 gn gE 0).bind λ me =>
 (JN (λ y s=>rU y me.1 me.2.1 me.2.2.1 me.2.2.2 s)).bind λ wm =>
 af ((wm.length:Int) == 0)
 (some ([],0,false,0))
 ((JO (λ y=>Cs eN.1.book y) wm).bind λ lf =>
 (Fa eN.1.book lf).bind λ uJ =>
 (Cs eN.1.book lf).bind λ pC =>
 some (uJ,pC,true,0)))
noncomputable def zK(x0:Int):Option (List Int) :=
 (bH (O:=(List Int)) (λ (rf:((List Int) × Int)) =>
 af (decide (rf.2 < 4))
 ((lB .i64 x0 rf.2).bind λ yC =>
 (fv .and .i64 yC 1).bind λ oG =>
 af (oG == 1)
 ((gR rf.1 [rf.2]).bind λ lE =>
 some (.inl (lE,i64 (rf.2+1))))
 (some (.inl (rf.1,i64 (rf.2+1)))))
 (some (.inr rf.1))) ([],0)).bind (λ (uh:(List Int)) =>
 some uh)
noncomputable def JZ(x0:Int)(x1:Int):Option Int :=
 (xD x0).bind λ iB =>
 (xD x1).bind λ fP =>
 af iB
 (af fP
 (some 0)
 (some (-1)))
 (af fP
 (some 1)
 (af (decide (x0 < x1))
 (some (-1))
 (af (decide (x0 > x1))
 (some 1)
 (some 0))))
noncomputable def Fo(x0:(List Int))(x1:(List Int)):Option Int :=
 (bH (O:=(Unit ⊕ Int)) (λ (Aq:Int) =>
 af (decide (Aq < (x0.length:Int)))
 ((idx x0 Aq).bind λ nR =>
 af (decide (Aq ≥ (x1.length:Int)))
 (some (.inr (.inr 1)))
 ((idx x1 Aq).bind λ YP =>
 (JZ nR YP).bind λ YQ =>
 af (YQ != 0)
 (some (.inr (.inr YQ)))
 (some (.inl (i64 (Aq+1))))))
 (some (.inr (.inl ())))) 0).bind (Sum.elim (λ (_:Unit) =>
 af (decide ((x0.length:Int) < (x1.length:Int)))
 (some (-1))
 (some 0))
  (λ q=>some q))
noncomputable def Ct(x0:Int)(x1:(Int→Option Bool)):Option ((List Int) × Bool) :=
 (yc .i64 1 x0).bind λ pD =>
 (bH (O:=((List Int) × Bool)) (λ (fw:((List Int) × Bool × Int)) =>
 af (decide (fw.2.2 < pD))
 ((zK fw.2.2).bind λ ib =>
 (((af (!fw.2.1)
 ((x1 fw.2.2).bind λ nO =>
 some nO)
 (af (decide ((ib.length:Int) < (fw.1.length:Int)))
 ((x1 fw.2.2).bind λ AE =>
 some AE)
 (af ((ib.length:Int) == (fw.1.length:Int))
 ((Fo ib fw.1).bind λ Du =>
 af (decide (Du < 0))
 ((x1 fw.2.2).bind λ Lf =>
 some Lf)
 (some false))
 (some false)))):Option Bool)).bind (λ (FQ:Bool) =>
 af FQ
 (some (.inl (ib,true,i64 (fw.2.2+1))))
 (some (.inl (fw.1,fw.2.1,i64 (fw.2.2+1))))))
 (some (.inr (fw.1,fw.2.1)))) ([],false,0)).bind (λ (xS:((List Int) × Bool)) =>
 some (xS.1,xS.2))
noncomputable def Cv(x0:cq)(x1:(List Bool))(x2:(List Bool))(x3:Int):Option Bool :=
 (zJ x0 x1 x2 x3).bind λ eC =>
 (rU (gk (λ (_:(List Bool)) (_:Unit)=>((some (.inr ())):Option (Unit ⊕ Unit)))) eC.1 eC.2.1 eC.2.2.1 eC.2.2.2 (.inl ())).bind (Sum.elim (λ (_:Unit) =>
 some false)
  (λ (_:Unit) =>
 some true))
noncomputable def Fb(x0:Int)(x1:cq)(x2:(List Bool))(x3:(List Bool)):Option Bool :=
 (zK x0).bind λ lD =>
 (Cu lD).bind λ pz =>
 (Cv x1 x2 pz 0).bind λ eC =>
 af eC
 (some true)
 (af (RK pz x3 == true)
 ((Cv x1 x2 x3 0).bind λ bV =>
 some bV)
 (some false))
noncomputable def FC(x0:ay):Option ((List Int) × Bool × Int) :=
 (pe x0 (λ y=>ox y)).bind λ bV =>
 af (bV.2 != 0)
 (some ([],false,bV.2))
 ((vG bV.1).bind λ eN =>
 (xz bV.1.book).bind λ ko =>
 (Ct (x0.aD.length:Int) (λ y=>Fb y bV.1 eN ko)).bind λ gn =>
 some (gn.1,gn.2,0))
noncomputable def Fc(x0:Int)(x1:cq)(x2:(List Bool))(x3:(List Bool)):Option Bool :=
 (Cv x1 x2 x3 x0).bind λ cV =>
 some cV
noncomputable def CL(x0:ay):Option ((List Int) × Int) :=
 (pe x0 (λ y=>ox y)).bind λ bV =>
 af (bV.2 != 0)
 (some ([],bV.2))
 ((vG bV.1).bind λ eN =>
 (xz bV.1.book).bind λ ko =>
 (Ct (x0.aT.length:Int) (λ y=>Fc y bV.1 eN ko)).bind λ gn =>
 some (gn.1,0))
noncomputable def rX(x0:ay)(x1:dD):Option ay :=
 (gR [] x0.bj).bind λ bV =>
 (gR bV [x1]).bind λ gZ =>
 some (⟨x0.Rest,x0.Rows,x0.aE,x0.aD,x0.aT,gZ⟩:ay)
noncomputable def rY(x0:ay)(x1:Int):Option (Int × Int) :=
 (qa x0).bind λ km =>
 af (km != 0)
 (some (0,km))
 ((j8 x1 1 30).bind λ bV =>
 af (!bV)
 (some (0,1))
 ((xx (⟨x0.Rest,x0.Rows,x0.aE,x0.aD,x0.aT,x0.bj⟩:ay) x1).bind λ gZ =>
 some (gZ,0)))
noncomputable def yF(x0:Int)(x1:Int):Option Reach :=
 some (⟨x0,x1⟩:Reach)
noncomputable def Fh(x0:(List dD)):Option (List dD) :=
 (gR [] x0).bind λ cV =>
 some cV
noncomputable def Fp(x0:(List fh)):Option (List fh) :=
 (gR [] x0).bind λ cV =>
 some cV
noncomputable def Fq(x0:(List Reach)):Option (List Reach) :=
 (gR [] x0).bind λ cV =>
 some cV
noncomputable def Fs(x0:(List fe)):Option (List fe) :=
 (gR [] x0).bind λ cV =>
 some cV
noncomputable def Ft(x0:(List mq)):Option (List mq) :=
 (gR [] x0).bind λ cV =>
 some cV
noncomputable def JP(x0:ay):Option ay :=
 (Fp x0.Rows).bind λ wh =>
 (Fq x0.aE).bind λ gZ =>
 (Fs x0.aD).bind λ iB =>
 (Ft x0.aT).bind λ fP =>
 (Fh x0.bj).bind λ eN =>
 some (⟨x0.Rest,wh,gZ,iB,fP,eN⟩:ay)
noncomputable def FE(x0:ay)(x1:Int)(x2:Int):Option (ay × Int) :=
 (qa x0).bind λ ib =>
 af (ib != 0)
 (some ((⟨0,[],[],[],[],[]⟩:ay),ib))
 ((j8 x1 1 30).bind λ Dt =>
 (((af (!Dt)
 (some (!Dt))
 ((j8 x2 1 60).bind λ AD =>
 some (!AD))):Option Bool)).bind (λ (Oe:Bool) =>
 af Oe
 (some ((⟨0,[],[],[],[],[]⟩:ay),1))
 ((xx (⟨x0.Rest,x0.Rows,x0.aE,x0.aD,x0.aT,x0.bj⟩:ay) x1).bind λ Du =>
 af (decide (x2 > Du))
 (some ((⟨0,[],[],[],[],[]⟩:ay),7))
 ((bH (O:=(List fh)) (λ (nG:((List fh) × Bool × Int)) =>
 af (decide (nG.2.2 < (x0.Rows.length:Int)))
 ((idx x0.Rows nG.2.2).bind λ mc =>
 (((af (decide (mc.dU > x1))
 (some (!nG.2.1))
 (some false)):Option Bool)).bind (λ (Oi:Bool) =>
 (((af Oi
 ((gR nG.1 [(⟨x1,x2⟩:fh)]).bind λ agX =>
 some (agX,true))
 (some (nG.1,nG.2.1))):Option ((List fh) × Bool))).bind (λ (FW:((List fh) × Bool)) =>
 (((af (decide (mc.dU ≥ x1))
 (some (true,AP mc.eQ [x2]))
 (some (FW.2,mc.eQ))):Option (Bool × Int))).bind (λ (C2:(Bool × Int)) =>
 (gR FW.1 [(⟨mc.dU,C2.2⟩:fh)]).bind λ agY =>
 some (.inl (agY,C2.1,i64 (nG.2.2+1)))))))
 (some (.inr nG.1))) ([],false,0)).bind (λ (FR:(List fh)) =>
 af (decide ((FR.length:Int) > 4))
 (some ((⟨0,[],[],[],[],[]⟩:ay),2))
 ((JP (⟨x0.Rest,FR,x0.aE,x0.aD,x0.aT,x0.bj⟩:ay)).bind λ Yw =>
 some (Yw,0)))))))
noncomputable def JS(x0:ay)(x1:Int):Option ay :=
 (zK x1).bind λ mf =>
 (bH (O:=(List dD)) (λ (pq:((List dD) × Int)) =>
 af (decide (pq.2 < (mf.length:Int)))
 ((idx mf pq.2).bind λ oG =>
 (idx x0.bj oG).bind λ oH =>
 (gR pq.1 [oH]).bind λ lE =>
 some (.inl (lE,i64 (pq.2+1))))
 (some (.inr pq.1))) ([],0)).bind (λ (vR:(List dD)) =>
 some (⟨x0.Rest,x0.Rows,x0.aE,x0.aD,x0.aT,vR⟩:ay))
noncomputable def JU(x0:ay):Option Bool :=
 (pd (gk (λ (_:bz) (_:Unit)=>((some (.inr ())):Option (Unit ⊕ Unit)))) x0 (.inl ())).bind (Sum.elim (λ (_:Unit) =>
 some false)
  (λ (_:Unit) =>
 some true))
noncomputable def Fe(x0:Int)(x1:ay):Option Bool :=
 (JS x1 x0).bind λ nP =>
 (JU nP).bind λ dS =>
 some (!dS)
noncomputable def FF(x0:ay):Option ((List Int) × Int) :=
 (qa x0).bind λ pz =>
 af (pz != 0)
 (some ([],pz))
 ((Ct (x0.bj.length:Int) (λ y=>Fe y x0)).bind λ bV =>
 some (bV.1,0))
noncomputable def Ff(x0:bz)(x1:Int)(x2:Int):Option Bool :=
 (idx x0.deep x1).bind λ dS =>
 some (decide (dS≤x2))
noncomputable def FG(x0:ay):Option (Int × Int × Int × Int) :=
 (pe x0 (λ y=>ox y)).bind λ jw =>
 af (jw.2 != 0)
 (some (0,0,0,jw.2))
 ((bH (O:=(Int × Int × Int)) (λ (c6:(Int × Int × Int × Int)) =>
 af (decide (c6.2.2.2 < (x0.aE.length:Int)))
 ((bH (O:=(Int × Int × Int)) (λ (lV:(Int × Int × Int × Int)) =>
 af (decide (lV.2.2.2 < 31))
 ((xy jw.1 (λ y=>Ff y c6.2.2.2 lV.2.2.2)).bind λ rn =>
 af (decide (qm rn [i64 ((jw.1.fb.length:Int) - rn)] < lV.2.2.1))
 (some (.inl (c6.2.2.2,lV.2.2.2,qm rn [i64 ((jw.1.fb.length:Int) - rn)],i64 (lV.2.2.2+1))))
 (some (.inl (lV.1,lV.2.1,lV.2.2.1,i64 (lV.2.2.2+1)))))
 (some (.inr (lV.1,lV.2.1,lV.2.2.1)))) (c6.1,c6.2.1,c6.2.2.1,0)).bind (λ (Ac:(Int × Int × Int)) =>
 some (.inl (Ac.1,Ac.2.1,Ac.2.2,i64 (c6.2.2.2+1)))))
 (some (.inr (c6.1,c6.2.1,c6.2.2.1)))) ((-1),(-1),(jw.1.fb.length:Int),0)).bind (λ (m7:(Int × Int × Int)) =>
 some (m7.1,m7.2.1,m7.2.2,0)))
noncomputable def FH(x0:ay)(x1:Int)(x2:Int):Option (Bool × Int) :=
 (qa x0).bind λ iA =>
 af (iA != 0)
 (some (false,iA))
 ((pb x1 (x0.aT.length:Int)).bind λ iB =>
 (pb x2 (x0.aT.length:Int)).bind λ fP =>
 af (qm iB [fP] != 0)
 (some (false,qm iB [fP]))
 ((Fg (⟨x0.Rest,x0.Rows,x0.aE,x0.aD,x0.aT,x0.bj⟩:ay) x1 x2).bind λ gm =>
 some (gm,0)))
noncomputable def Fi(x0:Int):Option Reach :=
 some (⟨x0,x0⟩:Reach)
noncomputable def J7  : Option ay :=
 (yF 9 11).bind λ bV =>
 (Fi 15).bind λ wh =>
 some (⟨10,[(⟨10,40⟩:fh),(⟨20,20⟩:fh)],[bV,wh],[(⟨⟨#[97,110,110]⟩,20⟩:fe),(⟨⟨#[98,111]⟩,12⟩:fe)],[(⟨0,0,20,2⟩:mq),(⟨1,30,15,1⟩:mq),(⟨0,60,30,1⟩:mq)],[]⟩:ay)
noncomputable def E6(x0:(List Int))(x1:(List Int)):Option Bool :=
 (bH (O:=(Unit ⊕ Bool)) (λ (uu:Int) =>
 af (decide (uu < (x1.length:Int)))
 ((((af (decide (uu ≥ (x0.length:Int)))
 (some true)
 ((idx x0 uu).bind λ iC =>
 (idx x1 uu).bind λ uG =>
 some (decide (iC < uG)))):Option Bool)).bind (λ (AQ:Bool) =>
 af AQ
 (some (.inr (.inr true)))
 ((idx x0 uu).bind λ Gq =>
 (idx x1 uu).bind λ AB =>
 af (decide (Gq > AB))
 (some (.inr (.inr false)))
 (some (.inl (i64 (uu+1)))))))
 (some (.inr (.inl ())))) 0).bind (Sum.elim (λ (_:Unit) =>
 some false)
  (λ q=>some q))
noncomputable def CE(x0:(List Int))(x1:(List Int)):Option Bool :=
 (E6 x0 x1).bind λ dS =>
 af (!dS)
 ((E6 x1 x0).bind λ jv =>
 some (!jv))
 (some false)
noncomputable def xE(x0:(List Int))(x1:(List Int)):Option Bool :=
 (CE x0 x1).bind λ cV =>
 some cV
noncomputable def J5(x0:(List (List Int)))(x1:(List (List Int))):Option Bool :=
 af ((x0.length:Int) != (x1.length:Int))
 (some false)
 ((bH (O:=(Unit ⊕ Bool)) (λ (fI:Int) =>
 af (decide (fI < (x0.length:Int)))
 ((idx x0 fI).bind λ yC =>
 (idx x1 fI).bind λ oG =>
 (CE yC oG).bind λ oH =>
 af (!oH)
 (some (.inr (.inr false)))
 (some (.inl (i64 (fI+1)))))
 (some (.inr (.inl ())))) 0).bind (Sum.elim (λ (_:Unit) =>
 some true)
  (λ q=>some q)))
noncomputable def FI(x0:(List (List Int)))(x1:(List (List Int))):Option Bool :=
 (J5 x0 x1).bind λ cV =>
 some cV
noncomputable def vH  : Option Bool :=
 (J7).bind λ eS =>
 (rX eS (⟨0,10,true⟩:dD)).bind λ iz =>
 (rY eS 10).bind λ Dv =>
 (rY eS 21).bind λ Dw =>
 (vJ eS).bind λ Dx =>
 (vK iz 0).bind λ Dy =>
 (zW eS 0).bind λ v7 =>
 (zX eS 1 0).bind λ v8 =>
 (zX eS 1 1).bind λ Dz =>
 (zX eS 1 2).bind λ yz =>
 (FH eS 0 1).bind λ AH =>
 (m32 eS ([[0,1],[0],[1]])).bind λ DC =>
 (m32 iz ([[0,1],[0],[1]])).bind λ uH =>
 (((af (Dv.2 != 0)
 (some true)
 (af (Dw.2 != 0)
 (some true)
 (af (Dx.2 != 0)
 (some true)
 (af (Dy.2 != 0)
 (some true)
 (af (v7.2 != 0)
 (some true)
 (af (v8.2 != 0)
 (some true)
 (af (Dz.2 != 0)
 (some true)
 (af (yz.2 != 0)
 (some true)
 (af (AH.2 != 0)
 (some true)
 (af (DC.2 != 0)
 (some true)
 (some (uH.2 != 0)))))))))))):Option Bool)).bind (λ (FX:Bool) =>
 af FX
 (some false)
 ((((af (Dv.1 != 40)
 (some true)
 (af (Dw.1 != 0)
 (some true)
 (af (Dx.1 != 3)
 (some true)
 ((xE Dy.1 [9,10]).bind λ Ps =>
 af (!Ps)
 (some true)
 ((yF 20 40).bind λ KQ =>
 af (!(K5 v7.1 KQ == true))
 (some true)
 (af (v8.1 != 1)
 (some true)
 (af (Dz.1 != 2)
 (some true)
 (af (yz.1 != 0)
 (some true)
 (af (!AH.1)
 (some true)
 (af (DC.1 != 0)
 (some true)
 (some (uH.1 != 1)))))))))))):Option Bool)).bind (λ (FY:Bool) =>
 af FY
 (some false)
 ((CK eS).bind λ DH =>
 (CK iz).bind λ DI =>
 (FA iz).bind λ v9 =>
 (FB iz).bind λ rq =>
 (FC iz).bind λ wc =>
 (CL eS).bind λ DJ =>
 (FG eS).bind λ oE =>
 (FE iz 12 15).bind λ pA =>
 (CL pA.1).bind λ Gw =>
 (rX iz (⟨0,8,true⟩:dD)).bind λ KR =>
 (FF KR).bind λ DK =>
 (((af (DH.2 != 0)
 (some true)
 (af (DI.2 != 0)
 (some true)
 (af (v9.2.2 != 0)
 (some true)
 (af (rq.2.2.2 != 0)
 (some true)
 (af (wc.2.2 != 0)
 (some true)
 (af (DJ.2 != 0)
 (some true)
 (af (oE.2.2.2 != 0)
 (some true)
 (af (pA.2 != 0)
 (some true)
 (af (Gw.2 != 0)
 (some true)
 (some (DK.2 != 0))))))))))):Option Bool)).bind (λ (FZ:Bool) =>
 af FZ
 (some false)
 ((((af (DH.1 != 0)
 (some true)
 (af (DI.1 != 2)
 (some true)
 (af (!v9.2.1)
 (some true)
 ((FI v9.1 ([[0,1],[0],[0]])).bind λ Px =>
 af (!Px)
 (some true)
 (af (!rq.2.2.1)
 (some true)
 (af (rq.2.1 != 50)
 (some true)
 ((FI rq.1 ([[0,1],[0],[1]])).bind λ AJ =>
 af (!AJ)
 (some true)
 (af (!wc.2.1)
 (some true)
 ((xE wc.1 [0,1]).bind λ yA =>
 af (!yA)
 (some true)
 ((xE DJ.1 [2]).bind λ Pz =>
 some (!Pz))))))))))):Option Bool)).bind (λ (F0:Bool) =>
 af F0
 (some false)
 (af (oE.1 == 0)
 (af (oE.2.1 == 9)
 (af (oE.2.2.1 == 2)
 (af ((Gw.1.length:Int) == 0)
 ((xE DK.1 [1]).bind λ KU =>
 af KU
 (af ((pA.1.Rows.length:Int) == 3)
 ((idx pA.1.Rows 1).bind λ wj =>
 af (HI wj (⟨12,15⟩:fh) == true)
 ((idx pA.1.Rows 2).bind λ Gz =>
 some (HI Gz (⟨20,15⟩:fh) == true))
 (some false))
 (some false))
 (some false))
 (some false))
 (some false))
 (some false))
 (some false)))))))))
noncomputable def lS(x0:Int)(x1:Int)(x2:Int):Option Bool :=
 af (decide (x1≤x0))
 (some (decide (x0≤x2)))
 (some false)
noncomputable def E5(x0:ay)(x1:Int):Option Bool :=
 (lS x1 0 (i64 ((x0.aE.length:Int) - 1))).bind λ dS =>
 some dS
noncomputable def JQ(x0:ay):Option Int :=
 (lS x0.Rest 0 60).bind λ DT =>
 af (!DT)
 (some 1)
 ((lS (x0.Rows.length:Int) 1 4).bind λ mQ =>
 af (!mQ)
 (some 2)
 ((bH (O:=(Unit ⊕ Int)) (λ (uw:Int) =>
 af (decide (uw < (x0.Rows.length:Int)))
 ((idx x0.Rows uw).bind λ wy =>
 ((((lS wy.dU 1 30).bind λ agS =>
 af (!agS)
 (some true)
 ((lS wy.eQ 1 60).bind λ Gr =>
 some (!Gr))):Option Bool)).bind (λ (Og:Bool) =>
 af Og
 (some (.inr (.inr 1)))
 (af (decide (uw > 0))
 ((idx x0.Rows (i64 (uw - 1))).bind λ sJ =>
 af (decide (wy.dU≤sJ.dU))
 (some (.inr (.inr 7)))
 ((idx x0.Rows (i64 (uw - 1))).bind λ wA =>
 af (decide (wy.eQ > wA.eQ))
 (some (.inr (.inr 7)))
 (some (.inl (i64 (uw+1))))))
 (some (.inl (i64 (uw+1)))))))
 (some (.inr (.inl ())))) 0).bind (Sum.elim (λ (_:Unit) =>
 some 0)
  (λ q=>some q))))
noncomputable def JW(x0:Reach)(x1:Int)(x2:Int):Option Bool :=
 af (decide (x1≤x0.cF))
 (af (decide (x0.cF≤x0.dq))
 (some (decide (x0.dq≤x2)))
 (some false))
 (some false)
noncomputable def Cx(x0:Int):Option Bool :=
 (lS (i64 x0) 97 122).bind λ cV =>
 some cV
noncomputable def Fv(x0:Int):Option Bool :=
 (lS (i64 x0) 48 57).bind λ cV =>
 some cV
noncomputable def JX(x0:ByteArray):Option Bool :=
 ((((lS (x0.size:Int) 1 12).bind λ KX =>
 af (!KX)
 (some true)
 ((uy x0 0).bind λ oG =>
 (Cx oG).bind λ oH =>
 some (!oH))):Option Bool)).bind (λ (On:Bool) =>
 af On
 (some false)
 ((bH (O:=(Unit ⊕ Bool)) (λ (qe:Int) =>
 af (decide (qe < (x0.size:Int)))
 ((uy x0 qe).bind λ AL =>
 (Cx AL).bind λ mQ =>
 af (!mQ)
 ((uy x0 qe).bind λ jw =>
 (Fv jw).bind λ rv =>
 af (!rv)
 (some (.inr (.inr false)))
 (some (.inl (i64 (qe+1)))))
 (some (.inl (i64 (qe+1)))))
 (some (.inr (.inl ())))) 1).bind (Sum.elim (λ (_:Unit) =>
 some true)
  (λ q=>some q))))
noncomputable def JR(x0:ay):Option Int :=
 (lS (x0.aE.length:Int) 1 3).bind λ agR =>
 af (!agR)
 (some 2)
 ((bH (O:=(Unit ⊕ Int)) (λ (F9:Int) =>
 af (decide (F9 < (x0.aE.length:Int)))
 ((idx x0.aE F9).bind λ rn =>
 (JW rn 1 30).bind λ mc =>
 af (!mc)
 (some (.inr (.inr 1)))
 (af (decide (i64 (rn.dq - rn.cF) ≥ 3))
 (some (.inr (.inr 1)))
 (some (.inl (i64 (F9+1))))))
 (some (.inr (.inl ())))) 0).bind (Sum.elim (λ (_:Unit) =>
 (lS (x0.aD.length:Int) 1 4).bind λ yy =>
 af (!yy)
 (some 2)
 ((bH (O:=(Unit ⊕ Int)) (λ (uk:Int) =>
 af (decide (uk < (x0.aD.length:Int)))
 ((idx x0.aD uk).bind λ DD =>
 (JX DD.Name).bind λ Gu =>
 af (!Gu)
 (some (.inr (.inr 4)))
 ((bH (O:=(Unit ⊕ Int)) (λ (Ga:Int) =>
 af (decide (Ga < uk))
 ((idx x0.aD Ga).bind λ KP =>
 (idx x0.aD uk).bind λ ahc =>
 af (KP.Name.toList == ahc.Name.toList)
 (some (.inr (.inr 5)))
 (some (.inl (i64 (Ga+1)))))
 (some (.inr (.inl ())))) 0).bind (Sum.elim (λ (_:Unit) =>
 (idx x0.aD uk).bind λ DF =>
 (lS DF.qo 1 30).bind λ DG =>
 af (!DG)
 (some (.inr (.inr 1)))
 (some (.inl (i64 (uk+1)))))
  (λ q=>some (.inr (.inr q))))))
 (some (.inr (.inl ())))) 0).bind (Sum.elim (λ (_:Unit) =>
 some 0)
  (λ q=>some q))))
  (λ q=>some q)))
noncomputable def J6(x0:ay):Option Int :=
 (JQ x0).bind λ PV =>
 af (PV != 0)
 (some PV)
 ((JR x0).bind λ Yo =>
 af (Yo != 0)
 (some Yo)
 ((lS (x0.aT.length:Int) 1 4).bind λ Ld =>
 af (!Ld)
 (some 2)
 ((bH (O:=(Unit ⊕ Int)) (λ (F8:Int) =>
 af (decide (F8 < (x0.aT.length:Int)))
 ((idx x0.aT F8).bind λ rm =>
 (E5 x0 rm.Place).bind λ KN =>
 af (!KN)
 (some (.inr (.inr 6)))
 ((lS rm.na 0 200).bind λ Yt =>
 af (!Yt)
 (some (.inr (.inr 1)))
 ((lS rm.mr 1 60).bind λ GQ =>
 af (!GQ)
 (some (.inr (.inr 1)))
 ((lS rm.aD 1 3).bind λ Gs =>
 af (!Gs)
 (some (.inr (.inr 1)))
 (some (.inl (i64 (F8+1))))))))
 (some (.inr (.inl ())))) 0).bind (Sum.elim (λ (_:Unit) =>
 af (decide ((x0.bj.length:Int) > 3))
 (some 2)
 ((bH (O:=(Unit ⊕ Int)) (λ (Da:Int) =>
 af (decide (Da < (x0.bj.length:Int)))
 ((idx x0.bj Da).bind λ Gt =>
 (E5 x0 Gt.Place).bind λ eS =>
 af (!eS)
 (some (.inr (.inr 6)))
 ((idx x0.bj Da).bind λ lC =>
 (lS lC.mT 0 30).bind λ mO =>
 af (!mO)
 (some (.inr (.inr 1)))
 (some (.inl (i64 (Da+1))))))
 (some (.inr (.inl ())))) 0).bind (Sum.elim (λ (_:Unit) =>
 some 0)
  (λ q=>some q))))
  (λ q=>some q)))))
noncomputable def K9(x0:(List Int))(x1:Int):Option Bool :=
 (bH (O:=(Unit ⊕ Bool)) (λ (Gb:Int) =>
 af (decide (Gb < (x0.length:Int)))
 ((idx x0 Gb).bind λ lf =>
 af (lf == x1)
 (some (.inr (.inr true)))
 (some (.inl (i64 (Gb+1)))))
 (some (.inr (.inl ())))) 0).bind (Sum.elim (λ (_:Unit) =>
 some false)
  (λ q=>some q))
noncomputable def FD(x0:ay):Option Bool :=
 (JY x0).bind λ jv =>
 af (!jv)
 ((J6 x0).bind λ lD =>
 some (lD == 0))
 (some false)
noncomputable def m5(x0:ay)(x1:Int):Option Bool :=
 ((((FD x0).bind λ qj =>
 af (!qj)
 (some true)
 (some (decide (i64 ((x0.bj.length:Int)+2) > 3)))):Option Bool)).bind (λ (Y1:Bool) =>
 af Y1
 ((vH).bind λ ib =>
 some ib)
 ((Af (i64 x1) (x0.aE.length:Int)).bind λ iC =>
 (vK x0 iC).bind λ uG =>
 (vJ x0).bind λ wx =>
 (((af (wx.2 != 0)
 (some true)
 (af (!((uG.2 == 0) == (decide (wx.1 > 0))))
 (some true)
 (af (uG.2 != 0)
 (af (uG.2 != 9)
 (some true)
 (some (decide ((uG.1.length:Int) > 0))))
 (some false)))):Option Bool)).bind (λ (AR:Bool) =>
 af AR
 (some false)
 ((idx x0.aE iC).bind λ Ld =>
 (bH (O:=(Int ⊕ Bool)) (λ (oJ:(Int × Int)) =>
 (idx x0.aE iC).bind λ GO =>
 af (decide (oJ.2≤GO.dq))
 ((rX x0 (⟨iC,oJ.2,true⟩:dD)).bind λ rm =>
 (rX rm (⟨iC,i64 (oJ.2 - 1),false⟩:dD)).bind λ Ys =>
 (vJ Ys).bind λ sK =>
 (((af (sK.2 != 0)
 (some true)
 ((K9 uG.1 oJ.2).bind λ GQ =>
 some (!((decide (sK.1 > 0)) == GQ)))):Option Bool)).bind (λ (PT:Bool) =>
 af PT
 (some (.inr (.inr false)))
 (some (.inl (i64 (oJ.1+sK.1),i64 (oJ.2+1))))))
 (some (.inr (.inl oJ.1)))) (0,Ld.cF)).bind (Sum.elim (λ (Y3:Int) =>
 af (Y3 == wx.1)
 (af (decide ((uG.1.length:Int)≤3))
 ((vH).bind λ Za =>
 some Za)
 (some false))
 (some false))
  (λ q=>some q))))))
noncomputable def m6(x0:ay)(x1:Int)(x2:Int)(x3:Int):Option Bool :=
 (FD x0).bind λ mQ =>
 af (!mQ)
 ((vH).bind λ KE =>
 some KE)
 ((Af (i64 x1) 30).bind λ Dp =>
 (Af (i64 x2) 30).bind λ nN =>
 (rY x0 (AP (i64 (1+Dp)) [i64 (1+nN)])).bind λ qj =>
 (rY x0 (qm (i64 (1+Dp)) [i64 (1+nN)])).bind λ sP =>
 (((af (qj.2 != 0)
 (some true)
 (af (sP.2 != 0)
 (some true)
 (af (decide (qj.1 < sP.1))
 (some true)
 ((idx x0.Rows (i64 ((x0.Rows.length:Int) - 1))).bind λ Dt =>
 some (!((sP.1 == 0) == (decide (qm (i64 (1+Dp)) [i64 (1+nN)] > Dt.dU)))))))):Option Bool)).bind (λ (AQ:Bool) =>
 af AQ
 (some false)
 ((bH (O:=Bool) (λ (sO:(Bool × Int)) =>
 af (decide (sO.2 < (x0.Rows.length:Int)))
 (af sO.1
 (some (.inl (true,i64 (sO.2+1))))
 ((idx x0.Rows sO.2).bind λ GN =>
 some (.inl (sP.1 == GN.eQ,i64 (sO.2+1)))))
 (some (.inr sO.1))) (sP.1 == 0,0)).bind (λ (Y2:Bool) =>
 (Af (i64 x3) (x0.aE.length:Int)).bind λ PX =>
 (vK x0 PX).bind λ vX =>
 (zW x0 PX).bind λ KJ =>
 (((af (!Y2)
 (some true)
 (some (vX.2 != KJ.2))):Option Bool)).bind (λ (Y4:Bool) =>
 af Y4
 (some false)
 ((((af (vX.2 != 0)
 (some true)
 (some ((vX.1.length:Int) == 0))):Option Bool)).bind (λ (Y5:Bool) =>
 af Y5
 ((((af (vX.2 == 9)
 (af ((vX.1.length:Int) == 0)
 ((vH).bind λ wA =>
 some wA)
 (some false))
 (some false)):Option Bool)).bind (λ (Y6:Bool) =>
 some Y6))
 ((idx vX.1 0).bind λ GO =>
 (rY x0 GO).bind λ Pn =>
 (idx vX.1 (i64 ((vX.1.length:Int) - 1))).bind λ agU =>
 (rY x0 agU).bind λ Yr =>
 af (Pn.2 == 0)
 (af (Yr.2 == 0)
 ((yF Yr.1 Pn.1).bind λ KN =>
 af (K5 KJ.1 KN == true)
 ((vH).bind λ AF =>
 some AF)
 (some false))
 (some false))
 (some false)))))))))
def wB{B:Base}{main:Bool}(ae:Jd prog B main):Prop:=∀ {R:ax} {H:aj} (x0:cq) {aI aN aM aJ aO kM:Value},ag b8 2 R aI x0.book.Rows→ag cb 2 R aN x0.book.aE→ag bW 2 R aM x0.book.aD→ag cc 4 R aJ x0.book.aT→ag bP 3 R aO x0.book.bj→ag fF 3 R kM x0.fb→∀ {r:List Bool},vG x0=some r →
 az ae 123 #[.agg #[iv x0.book.Rest,aI,aN,aM,aJ,aO,kM]] R H λ v R' H'=>aQ R R'∧H=H'∧r.length=16∧v = .agg (List.toArray ([]++(r.map Value.bool++[])))
theorem qS{B:Base}{main:Bool}{ae:Jd prog B main}{R:ax}{H:aj}(x0:cq)(hK:wB ae){aI aN aM aJ aO kM:Value}(aY:ag b8 2 R aI x0.book.Rows)(aW:ag cb 2 R aN x0.book.aE)(aR:ag bW 2 R aM x0.book.aD)(aS:ag cc 4 R aJ x0.book.aT)(aX:ag bP 3 R aO x0.book.bj)(jA:ag fF 3 R kM x0.fb){r:List Bool}(hM:vG x0=some r) :
 az ae 123 #[.agg #[iv x0.book.Rest,aI,aN,aM,aJ,aO,kM]] R H λ v R' H'=>aQ R R'∧H=H'∧r.length=16∧v = .agg (List.toArray ([]++(r.map Value.bool++[]))):=hK x0 aY aW aR aS aX jA hM
end Go.Proofs.YtihapemckcdicaaGreatDoor
