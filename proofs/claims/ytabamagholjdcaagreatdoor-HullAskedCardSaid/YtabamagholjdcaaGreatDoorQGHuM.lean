/- What the functions compute. Conditions: none. -/
import Derived.Test.YtabamagholjdcaaGreatDoorQGHuF
namespace Go.Proofs.YtabamagholjdcaaGreatDoor
open Go.Lg Go.Proofs
set_option maxRecDepth 100000
noncomputable def pA (x0 : av) (x1 : bn) (x2 : (List Bool)) : Option Int :=
 (br (O := Int) (λ (dV : (Int × Int)) =>
 ai (decide (dV.2 < (x0.au.length : Int)))
 ((idx x0.au dV.2).bind λ mY =>
 (idx x2 dV.2).bind λ mZ =>
 ai (!mZ)
 ((idx x1.weights dV.2).bind λ k9 =>
 some (.inl (i64 (dV.1 + (i64 (mY.dg * k9))), i64 (dV.2 + 1))))
 (some (.inl (dV.1, i64 (dV.2 + 1)))))
 (some (.inr dV.1))) (x1.fq, 0)).bind (λ (qP : Int) =>
 some qP)
noncomputable def Ah (x0 : cR) (x1 : Int) : Option (List Bool × Int) :=
 (br (O := (List Bool)) (λ (oN : (Int × (List Bool))) =>
 ai (decide (oN.1 < (x0.book.au.length : Int)))
 ((s9 .i64 x1 oN.1).bind λ mX =>
 (p8 .and .i64 mX 1).bind λ e8 =>
 (idx oN.2 oN.1).bind λ _ =>
 some (.inl (i64 (oN.1 + 1), oN.2.set oN.1.toNat (e8 == 1))))
 (some (.inr oN.2))) (0, [false, false, false, false, false])).bind (λ (uY : (List Bool)) =>
 (br (O := Int) (λ (iU : (Int × Int)) =>
 ai (decide (iU.2 < (x0.dI.length : Int)))
 ((idx x0.dI iU.2).bind λ eF =>
 (pA x0.book eF uY).bind λ k7 =>
 some (.inl (kR iU.1 [k7, i64 (0 - k7)], i64 (iU.2 + 1))))
 (some (.inr iU.1))) (0, 0)).bind (λ (sY : Int) =>
 some (uY, sY)))
noncomputable def xG (x0 : cR) : Option fO :=
 (s8 .i64 1 (x0.book.au.length : Int)).bind λ many =>
 ((List.range many.toNat).mapM (λ (i : Nat) => Ah x0 (i : Int))).bind λ l =>
 if x0.nR = [] ∧ (l.map (·.1)).Nodup ∧ (∀ p ∈ l, p.1.length = 5) ∧ 0 ≤ many ∧ many ≤ 1048576 then some l else none
def yF {B : Base} {main : Bool} (ah : Jd Tryz.prog B main) : Prop := ∀ {R : aA} {H : ak} (x0 : cR) {aG aI aM iE jE : Value} {Hs : ak}, az bI 5 R aG x0.book.au → az (CI .i64) 1 R aI x0.book.Out → az bB 2 R aM x0.book.aU → az fM 6 R iE x0.dI → l8 jE x0.nR Hs → ∀ {r : fO}, xG x0 = some r →
 aB ah 91 #[.agg #[iv x0.book.aD, iv x0.book.af.ao, iv x0.book.af.ax, aG, aI, aM, iE, jE]] R (Hs ++ H) λ v R' H' => ∃ bF, (aO R R' ∧ m8 R' jE r ∧ v = .tuple #[] ∧ bF = []) ∧ H' = bF ++ H
abbrev u7 (r : List Bool × Int) : Value := .agg (List.toArray ([] ++ (r.1.map Value.bool ++ [iv r.2])))
noncomputable def GM (x0 : av) : Option Bool :=
 (((ai (decide ((x0.au.length : Int) > 20))
 (some true)
 (ai (decide ((x0.Out.length : Int) > 20))
 (some true)
 (some (decide ((x0.aU.length : Int) > 20))))) : Option Bool)).bind (λ (C8 : Bool) =>
 ai C8
 (some true)
 ((br (O := (Unit ⊕ Bool)) (λ (AO : Int) =>
 ai (decide (AO < (x0.au.length : Int)))
 ((idx x0.au AO).bind λ rB =>
 ai (decide ((rB.Name.size : Int) > 100))
 (some (.inr (.inr true)))
 ((idx x0.au AO).bind λ DM =>
 ai (decide ((DM.On.length : Int) > 20))
 (some (.inr (.inr true)))
 (some (.inl (i64 (AO + 1))))))
 (some (.inr (.inl ())))) 0).bind (Sum.elim (λ (_ : Unit) =>
 some false)
  (λ q => some q))))
noncomputable def uM (x0 : Reach) (x1 : Int) (x2 : Int) (x3 : Int) : Option Bool :=
 ai (decide (x1 ≤ x0.ao))
 (ai (decide (x0.ao ≤ x0.ax))
 (ai (decide (x0.ax ≤ x2))
 (some (decide (i64 (x0.ax - x0.ao) < x3)))
 (some false))
 (some false))
 (some false)
noncomputable def kQ (x0 : Int) (x1 : Int) (x2 : Int) : Option Bool :=
 ai (decide (x1 ≤ x0))
 (some (decide (x0 ≤ x2)))
 (some false)
noncomputable def Ar (x0 : av) : Option Int :=
 (kQ x0.aD 0 9999).bind λ fC =>
 ai (!fC)
 (some 1)
 ((uM x0.af (-999) 999 3).bind λ lW =>
 ai (!lW)
 (some 1)
 (some 0))
noncomputable def uN (x0 : (List Int)) (x1 : Int) : Option Int :=
 (br (O := (Unit ⊕ Int)) (λ (eB : Int) =>
 ai (decide (eB < (x0.length : Int)))
 ((idx x0 eB).bind λ kA =>
 (kQ kA 0 (i64 (x1 - 1))).bind λ mY =>
 ai (!mY)
 (some (.inr (.inr 6)))
 (ai (decide (eB > 0))
 ((idx x0 (i64 (eB - 1))).bind λ iF =>
 ai (decide (kA ≤ iF))
 (some (.inr (.inr 7)))
 (some (.inl (i64 (eB + 1)))))
 (some (.inl (i64 (eB + 1))))))
 (some (.inr (.inl ())))) 0).bind (Sum.elim (λ (_ : Unit) =>
 some 0)
  (λ q => some q))
noncomputable def Aw (x0 : ByteArray) : Option Bool :=
 (br (O := (Unit ⊕ Bool)) (λ (dV : Int) =>
 ai (decide (dV < ((eO x0).length : Int)))
 ((idx (eO x0) dV).bind λ mZ =>
 (kQ (i64 mZ) 97 122).bind λ iF =>
 ai (!iF)
 (ai (dV == 0)
 (some (.inr (.inr false)))
 ((kQ (i64 mZ) 48 57).bind λ Bn =>
 ai (!Bn)
 (some (.inr (.inr false)))
 (some (.inl (i64 (dV + 1))))))
 (some (.inl (i64 (dV + 1)))))
 (some (.inr (.inl ())))) 0).bind (Sum.elim (λ (_ : Unit) =>
 (kQ (x0.size : Int) 1 12).bind λ L9 =>
 some L9)
  (λ q => some q))
noncomputable def CF (x0 : (List cG)) (x1 : (cG → Option Bool)) : Option Int :=
 (br (O := (Unit ⊕ Int)) (λ (dM : Int) =>
 ai (decide (dM < (x0.length : Int)))
 ((idx x0 dM).bind λ ei =>
 (x1 ei).bind λ eF =>
 ai eF
 (some (.inr (.inr dM)))
 (some (.inl (i64 (dM + 1)))))
 (some (.inr (.inl ())))) 0).bind (Sum.elim (λ (_ : Unit) =>
 some (-1))
  (λ q => some q))
noncomputable def Ax (x0 : (List cG)) (x1 : (cG → Option Bool)) : Option Bool :=
 (CF x0 x1).bind λ cy =>
 some (decide (cy ≥ 0))
noncomputable def Ay (x0 : cG) (x1 : cG) : Option Bool :=
 some (x0.Name.toList == x1.Name.toList)
noncomputable def As (x0 : av) : Option Int :=
 (kQ (x0.au.length : Int) 1 5).bind λ acU =>
 ai (!acU)
 (some 2)
 ((br (O := (Unit ⊕ Int)) (λ (qS : Int) =>
 ai (decide (qS < (x0.au.length : Int)))
 ((idx x0.au qS).bind λ fL =>
 (Aw fL.Name).bind λ HH =>
 ai (!HH)
 (some (.inr (.inr 4)))
 ((jN x0.au 0 qS).bind λ UN =>
 (Ax UN (λ y => Ay y fL)).bind λ ac2 =>
 ai ac2
 (some (.inr (.inr 5)))
 (((((kQ fL.dg (-9) 9).bind λ ac3 =>
 ai (!ac3)
 (some true)
 ((uM fL.Weight 1 99 3).bind λ HK =>
 some (!HK))) : Option Bool)).bind (λ (KS : Bool) =>
 ai KS
 (some (.inr (.inr 1)))
 ((uN fL.On qS).bind λ ye =>
 ai (ye != 0)
 (some (.inr (.inr ye)))
 (some (.inl (i64 (qS + 1)))))))))
 (some (.inr (.inl ())))) 0).bind (Sum.elim (λ (_ : Unit) =>
 some 0)
  (λ q => some q)))
noncomputable def iQ (x0 : (List Bool)) (x1 : (List Int)) : Option (List Bool) :=
 (br (O := (List Bool)) (λ (iU : (Int × (List Bool))) =>
 ai (decide (iU.1 < (x1.length : Int)))
 ((idx x1 iU.1).bind λ Bm =>
 (idx iU.2 Bm).bind λ _ =>
 some (.inl (i64 (iU.1 + 1), iU.2.set Bm.toNat true)))
 (some (.inr iU.2))) (0, x0)).bind (λ (sY : (List Bool)) =>
 some sY)
noncomputable def sO (x0 : av) (x1 : Int) : Option Bool :=
 (kQ x1 0 (i64 ((x0.au.length : Int) - 1))).bind λ eW =>
 some eW
noncomputable def CA (x0 : (List Int)) (x1 : (Int → Option Bool)) : Option Int :=
 (br (O := (Unit ⊕ Int)) (λ (dM : Int) =>
 ai (decide (dM < (x0.length : Int)))
 ((idx x0 dM).bind λ ei =>
 (x1 ei).bind λ eF =>
 ai eF
 (some (.inr (.inr dM)))
 (some (.inl (i64 (dM + 1)))))
 (some (.inr (.inl ())))) 0).bind (Sum.elim (λ (_ : Unit) =>
 some (-1))
  (λ q => some q))
noncomputable def xm (x0 : (List Int)) (x1 : (Int → Option Bool)) : Option Bool :=
 (CA x0 x1).bind λ cy =>
 some (decide (cy ≥ 0))
noncomputable def CD (x0 : (List Int)) (x1 : Int) : Option Int :=
 (br (O := (Unit ⊕ Int)) (λ (dr : Int) =>
 ai (decide (dr < (x0.length : Int)))
 ((idx x0 dr).bind λ oS =>
 ai (x1 == oS)
 (some (.inr (.inr dr)))
 (some (.inl (i64 (dr + 1)))))
 (some (.inr (.inl ())))) 0).bind (Sum.elim (λ (_ : Unit) =>
 some (-1))
  (λ q => some q))
noncomputable def Ao (x0 : (List Int)) (x1 : Int) : Option Bool :=
 (CD x0 x1).bind λ cy =>
 some (decide (cy ≥ 0))
noncomputable def Al (x0 : av) (x1 : Int) : Option (List Int) :=
 (br (O := (List Int)) (λ (dV : ((List Int) × Int)) =>
 ai (decide (dV.2 < (x0.au.length : Int)))
 ((idx x0.au dV.2).bind λ mZ =>
 (Ao mZ.On x1).bind λ k9 =>
 ai k9
 ((eH dV.1 [dV.2]).bind λ rB =>
 some (.inl (rB, i64 (dV.2 + 1))))
 (some (.inl (dV.1, i64 (dV.2 + 1)))))
 (some (.inr dV.1))) ([], 0)).bind (λ (qP : (List Int)) =>
 some qP)
noncomputable def Am (x0 : Int) (x1 : (List Bool)) : Option Bool :=
 (idx x1 x0).bind λ cy =>
 some (!cy)
noncomputable def uO (x0 : av) (x1 : (List Bool)) (x2 : Int) : Option Bool :=
 (idx x1 x2).bind λ lW =>
 ai (!lW)
 ((Al x0 x2).bind λ gY =>
 (xm gY (λ y => Am y x1)).bind λ eD =>
 some (!eD))
 (some false)
noncomputable def uU (x0 : av) (x1 : (List Bool)) (x2 : (List Int)) : Option ((List Bool) × Int) :=
 (br (O := ((List Bool) ⊕ ((List Bool) × Int))) (λ (fK : (Int × (List Bool))) =>
 ai (decide (fK.1 < (x2.length : Int)))
 ((idx x2 fK.1).bind λ gL =>
 (sO x0 gL).bind λ A4 =>
 ai (!A4)
 (some (.inr (.inr (fK.2, 6))))
 ((idx fK.2 gL).bind λ HG =>
 ai HG
 (some (.inr (.inr (fK.2, 5))))
 ((uO x0 fK.2 gL).bind λ tv =>
 ai (!tv)
 (some (.inr (.inr (fK.2, 7))))
 ((iQ fK.2 [gL]).bind λ LO =>
 some (.inl (i64 (fK.1 + 1), LO))))))
 (some (.inr (.inl fK.2)))) (0, x1)).bind (Sum.elim (λ (AI : (List Bool)) =>
 some (AI, 0))
  (λ q => some q))
noncomputable def Au (x0 : av) : Option Int :=
 (uU x0 [false, false, false, false, false] x0.Out).bind λ gm =>
 some gm.2
noncomputable def Av (x0 : av) : Option Int :=
 ai (decide ((x0.aU.length : Int) > 4))
 (some 2)
 ((br (O := (Unit ⊕ Int)) (λ (xW : Int) =>
 ai (decide (xW < (x0.aU.length : Int)))
 ((idx x0.aU xW).bind λ nT =>
 (kQ nT.dN 0 (x0.Out.length : Int)).bind λ vu =>
 ai (!vu)
 (some (.inr (.inr 6)))
 (ai (nT.dX == 0)
 (ai (nT.dX == 0)
 (some (.inl (i64 (xW + 1))))
 (some (.inr (.inr 1))))
 (ai (nT.dX == 1)
 (ai (nT.dX == 1)
 (some (.inl (i64 (xW + 1))))
 (some (.inr (.inr 1))))
 (ai (nT.dX == 2)
 (some (.inl (i64 (xW + 1))))
 (some (.inr (.inr 1)))))))
 (some (.inr (.inl ())))) 0).bind (Sum.elim (λ (_ : Unit) =>
 some 0)
  (λ q => some q)))
noncomputable def lK (x0 : av) : Option Int :=
 (Ar (⟨x0.aD, ⟨x0.af.ao, x0.af.ax⟩, x0.au, x0.Out, x0.aU⟩ : av)).bind λ Bi =>
 ai (Bi != 0)
 (some Bi)
 ((As (⟨x0.aD, ⟨x0.af.ao, x0.af.ax⟩, x0.au, x0.Out, x0.aU⟩ : av)).bind λ e8 =>
 ai (e8 != 0)
 (some e8)
 ((Au (⟨x0.aD, ⟨x0.af.ao, x0.af.ax⟩, x0.au, x0.Out, x0.aU⟩ : av)).bind λ lZ =>
 ai (lZ != 0)
 (some lZ)
 ((Av (⟨x0.aD, ⟨x0.af.ao, x0.af.ax⟩, x0.au, x0.Out, x0.aU⟩ : av)).bind λ eL =>
 ai (eL != 0)
 (some eL)
 (some 0))))
noncomputable def uL (x0 : av) (x1 : Int) : Option Bool :=
 some (decide (kR x1 [i64 (0 - x1)] > x0.aD))
noncomputable def CC (x0 : (List cF)) (x1 : (cF → Option Bool)) : Option Int :=
 (br (O := (Unit ⊕ Int)) (λ (dM : Int) =>
 ai (decide (dM < (x0.length : Int)))
 ((idx x0 dM).bind λ ei =>
 (x1 ei).bind λ eF =>
 ai eF
 (some (.inr (.inr dM)))
 (some (.inl (i64 (dM + 1)))))
 (some (.inr (.inl ())))) 0).bind (Sum.elim (λ (_ : Unit) =>
 some (-1))
  (λ q => some q))
noncomputable def Aj (x0 : (List cF)) (x1 : (cF → Option Bool)) : Option Bool :=
 (CC x0 x1).bind λ cy =>
 some (decide (cy ≥ 0))
noncomputable def Ak (x0 : Int) : Option Int :=
 ai (decide (x0 > 0))
 (some 2)
 (ai (decide (x0 < 0))
 (some 1)
 (some 0))
noncomputable def xo (x0 : cF) (x1 : Int) (x2 : Int) : Option Bool :=
 ai (x0.dN == x1)
 ((Ak x2).bind λ fB =>
 some (x0.dX != fB))
 (some false)
noncomputable def xg (x0 : av) (x1 : bn) : Option Bool :=
 (br (O := (Unit ⊕ Bool)) (λ (qU : Int) =>
 ai (decide (qU < i64 ((x0.Out.length : Int) + 1)))
 ((jN x0.Out 0 qU).bind λ oT =>
 (iQ [false, false, false, false, false] oT).bind λ yo =>
 (pA x0 x1 yo).bind λ nX =>
 (uL x0 nX).bind λ HA =>
 ai HA
 (some (.inr (.inr false)))
 ((Aj x0.aU (λ y => xo y qU nX)).bind λ kz =>
 ai kz
 (some (.inr (.inr false)))
 (some (.inl (i64 (qU + 1))))))
 (some (.inr (.inl ())))) 0).bind (Sum.elim (λ (_ : Unit) =>
 some true)
  (λ q => some q))
noncomputable def qD {S : Type} (ys : bn → S → Option (S × Bool)) : Nat → bn → Int → av → S → Option (S × Bool)
 | 0, _, _, _, _ => none
 | k + 1, x0, x1, x2, s0 =>
  ai (x1 == (x2.au.length : Int))
  (((((xg x2 x0).bind λ eD =>
  ai (!eD)
  (some (s0, true))
  ((ys x0 s0).bind λ gZ =>
  some (gZ.1, gZ.2))) : Option (S × Bool))).bind (λ (lP : (S × Bool)) =>
  some (lP.1, lP.2)))
  ((idx x2.au x1).bind λ lX =>
  (br (O := (S ⊕ (S × Bool))) (λ (dr : (S × Int × (List Int))) =>
  ai (decide (dr.2.1 ≤ lX.Weight.ax))
  ((idx dr.2.2 x1).bind λ _ =>
  (qD ys k (⟨x0.fq, dr.2.2.set x1.toNat dr.2.1⟩ : bn) (i64 (x1 + 1)) x2 dr.1).bind λ nW =>
  ai (!nW.2)
  (some (.inr (.inr (nW.1, false))))
  (some (.inl (nW.1, i64 (dr.2.1 + 1), dr.2.2.set x1.toNat dr.2.1))))
  (some (.inr (.inl dr.1)))) (s0, lX.Weight.ao, x0.weights)).bind (Sum.elim (λ (jz : S) =>
  some (jz, true))
   (λ q => some q)))
noncomputable def oI {S : Type} (ys : bn → S → Option (S × Bool)) (x0 : av) (s0 : S) : Option S :=
 (br (O := (S ⊕ S)) (λ (kW : (S × Int)) =>
  ai (decide (kW.2 ≤ x0.af.ax))
  ((qD ys 9 (⟨kW.2, [0, 0, 0, 0, 0]⟩ : bn) 0 x0 kW.1).bind λ jH =>
  ai (!jH.2)
  (some (.inr (.inr jH.1)))
  (some (.inl (jH.1, i64 (kW.2 + 1)))))
  (some (.inr (.inl kW.1)))) (s0, x0.af.ao)).bind (Sum.elim (λ (C2 : S) =>
  some C2)
   (λ q => some q))
noncomputable def Cz (x1 : (bn → ((List bn) ⊕ Empty) → Option (((List bn) ⊕ Empty) × Bool)) → ((List bn) ⊕ Empty) → Option ((List bn) ⊕ Empty)) : Option (List bn) :=
 (x1 (dh (λ (yg : bn) (iT : (List bn)) => (((eH iT [yg]).bind λ ry =>
 some (.inl ry)) : Option ((List bn) ⊕ Empty)))) (.inl [])).bind (Sum.elim (λ (iT : (List bn)) =>
 some iT)
  (λ (o : Empty) => o.elim))
noncomputable def Ag (x0 : (bn → ((List bn) ⊕ Empty) → Option (((List bn) ⊕ Empty) × Bool)) → ((List bn) ⊕ Empty) → Option ((List bn) ⊕ Empty)) : Option (List bn) :=
 (Cz x0).bind λ cy =>
 some cy
noncomputable def mN (x0 : av) (x1 : (av → Option Int)) : Option (cR × Int) :=
 (lK x0).bind λ cL =>
 ai (cL != 0)
 (some ((⟨⟨0, ⟨0, 0⟩, [], [], []⟩, [], kS⟩ : cR), cL))
 ((x1 x0).bind λ fV =>
 ai (fV != 0)
 (some ((⟨⟨0, ⟨0, 0⟩, [], [], []⟩, [], kS⟩ : cR), fV))
 ((Ag (λ y s => oI y x0 s)).bind λ rz =>
 ai ((rz.length : Int) == 0)
 (some ((⟨⟨0, ⟨0, 0⟩, [], [], []⟩, [], kS⟩ : cR), 9))
 (some ((⟨⟨x0.aD, ⟨x0.af.ao, x0.af.ax⟩, x0.au, x0.Out, x0.aU⟩, rz, []⟩ : cR), 0))))
noncomputable def m6 (_ : av) : Option Int :=
 some 0
noncomputable def xH (x0 : av) (x1 : (List Bool)) : Option (List Int) :=
 (br (O := (List Int)) (λ (nN : ((List Int) × Int)) =>
 ai (decide (nN.2 < (x0.au.length : Int)))
 ((uO x0 x1 nN.2).bind λ jJ =>
 ai jJ
 ((eH nN.1 [nN.2]).bind λ k8 =>
 some (.inl (k8, i64 (nN.2 + 1))))
 (some (.inl (nN.1, i64 (nN.2 + 1)))))
 (some (.inr nN.1))) ([], 0)).bind (λ (KW : (List Int)) =>
 some KW)
noncomputable def sP {S : Type} (ys : (List Bool) → S → Option (S × Bool)) (x1 : av) (x2 : (List Int)) (s0 : S) : Option S :=
 (iQ [false, false, false, false, false] x1.Out).bind λ LQ =>
  (br (O := (S ⊕ S)) (λ (jA : (S × Int × (List Bool))) =>
  ai (decide (jA.2.1 < (x2.length : Int)))
  ((idx x2 jA.2.1).bind λ fV =>
  (iQ jA.2.2 [fV]).bind λ eL =>
  (ys eL jA.1).bind λ fD =>
  ai (!fD.2)
  (some (.inr (.inr fD.1)))
  (some (.inl (fD.1, i64 (jA.2.1 + 1), eL))))
  (some (.inr (.inl jA.1)))) (s0, 0, LQ)).bind (Sum.elim (λ (C1 : S) =>
  some C1)
   (λ q => some q))
noncomputable def Ad (x0 : av) (x1 : (List Int)) : Option (av × (List Int)) :=
 some (x0, x1)
noncomputable def AD (x0 : cR) (x1 : (List Int)) : Option Int :=
 (Ad x0.book x1).bind λ dW =>
 (sP (dh (λ (DD : (List Bool)) (qT : Int) => ((some (.inl (kR qT [nG x0.nR DD]))) : Option (Int ⊕ Empty)))) dW.1 dW.2 (.inl 0)).bind (Sum.elim (λ (qT : Int) =>
 some qT)
  (λ (o : Empty) => o.elim))
noncomputable def CE (x0 : av) : Option ((List Int) × Int) :=
 (mN x0 (λ y => m6 y)).bind λ dP =>
 ai (dP.2 != 0)
 (some ([], dP.2))
 ((xG dP.1).bind λ ym =>
 (iQ [false, false, false, false, false] x0.Out).bind λ k8 =>
 (xH dP.1.book k8).bind λ DL =>
 (br (O := (List Int)) (λ (qW : ((List Int) × Int)) =>
 ai (decide (qW.2 < (DL.length : Int)))
 ((idx DL qW.2).bind λ kC =>
 (AD (⟨⟨dP.1.book.aD, ⟨dP.1.book.af.ao, dP.1.book.af.ax⟩, dP.1.book.au, dP.1.book.Out, dP.1.book.aU⟩, dP.1.dI, ym⟩ : cR) [kC]).bind λ yo =>
 ai (decide (yo ≤ x0.aD))
 ((eH qW.1 [kC]).bind λ HA =>
 some (.inl (HA, i64 (qW.2 + 1))))
 (some (.inl (qW.1, i64 (qW.2 + 1)))))
 (some (.inr qW.1))) ([], 0)).bind (λ (K3 : (List Int)) =>
 some (K3, 0)))
noncomputable def CV (x0 : av) (x1 : (List Int)) : Option Int :=
 (iQ [false, false, false, false, false] x0.Out).bind λ gY =>
 (uU x0 gY x1).bind λ eD =>
 ai (eD.2 != 0)
 (some eD.2)
 (ai (i64 ((x0.Out.length : Int) + (x1.length : Int)) != (x0.au.length : Int))
 (some 2)
 (some 0))
noncomputable def Co (x0 : cR) (x1 : (bn → Option Bool)) : Option Int :=
 (br (O := Int) (λ (jY : (Int × Int)) =>
 ai (decide (jY.2 < (x0.dI.length : Int)))
 ((idx x0.dI jY.2).bind λ HO =>
 (x1 HO).bind λ vB =>
 ai vB
 (some (.inl (i64 (jY.1 + 1), i64 (jY.2 + 1))))
 (some (.inl (jY.1, i64 (jY.2 + 1)))))
 (some (.inr jY.1))) (0, 0)).bind (λ (mQ : Int) =>
 ai (mQ == 0)
 (some 2)
 (ai (mQ == (x0.dI.length : Int))
 (some 1)
 (some 0)))
noncomputable def Cp (x0 : bn) (x1 : cR) (x2 : (List Int)) : Option Bool :=
 (Ad x1.book x2).bind λ lX =>
 (sP (dh (λ (UY : (List Bool)) (_ : Unit) => (((pA x1.book x0 UY).bind λ lZ =>
 (uL x1.book lZ).bind λ fV =>
 ai fV
 (some (.inr ()))
 (some (.inl ()))) : Option (Unit ⊕ Unit)))) lX.1 lX.2 (.inl ())).bind (Sum.elim (λ (_ : Unit) =>
 some true)
  (λ (_ : Unit) =>
 some false))
noncomputable def xB (x0 : av) (x1 : (List Int)) : Option (Int × Int) :=
 (mN x0 (λ y => CV y x1)).bind λ dW =>
 ai (dW.2 != 0)
 (some (0, dW.2))
 ((Co dW.1 (λ y => Cp y dW.1 x1)).bind λ eE =>
 some (eE, 0))
noncomputable def rE (x0 : (List Int)) : Option (List Int) :=
 (eH [] x0).bind λ cy =>
 some cy
noncomputable def Ai {S : Type} (ys : (List Int) → S → Option (S × Bool)) : Nat → (List Int) → (List Bool) → av → S → Option (S × Bool)
 | 0, _, _, _, _ => none
 | k + 1, x0, x1, x2, s0 =>
  (xH x2 x1).bind λ cy =>
  ai ((cy.length : Int) == 0)
  ((ys x0 s0).bind λ fC =>
  some (fC.1, fC.2))
  ((br (O := (S ⊕ (S × Bool))) (λ (lQ : (S × Int)) =>
  ai (decide (lQ.2 < (cy.length : Int)))
  ((idx cy lQ.2).bind λ dH =>
  (rE x0).bind λ k7 =>
  (eH k7 [dH]).bind λ jI =>
  (iQ x1 [dH]).bind λ dP =>
  (Ai ys k jI dP x2 lQ.1).bind λ tE =>
  ai (!tE.2)
  (some (.inr (.inr (tE.1, false))))
  (some (.inl (tE.1, i64 (lQ.2 + 1)))))
  (some (.inr (.inl lQ.1)))) (s0, 0)).bind (Sum.elim (λ (lP : S) =>
  some (lP, true))
   (λ q => some q)))
noncomputable def sN {S : Type} (ys : (List Int) → S → Option (S × Bool)) (x0 : av) (s0 : S) : Option S :=
 (iQ [false, false, false, false, false] x0.Out).bind λ fC =>
  (Ai ys 9 [] fC x0 s0).bind λ k6 =>
  some k6.1
noncomputable def xC (x0 : av) : Option (Int × Int) :=
 (mN x0 (λ y => m6 y)).bind λ dO =>
 ai (dO.2 != 0)
 (some (0, dO.2))
 ((xG dO.1).bind λ nW =>
 (sN (dh (λ (U6 : (List Int)) (gU : Int) => (((Ad dO.1.book U6).bind λ k8 =>
 (sP (dh (λ (U8 : (List Bool)) (_ : Unit) => ((ai (decide (nG nW U8 > x0.aD))
 (some (.inr ()))
 (some (.inl ()))) : Option (Unit ⊕ Unit)))) k8.1 k8.2 (.inl ())).bind (Sum.elim (λ (_ : Unit) =>
 some (.inl (i64 (gU + 1))))
  (λ (_ : Unit) =>
 some (.inl gU)))) : Option (Int ⊕ Empty)))) dO.1.book (.inl 0)).bind (Sum.elim (λ (gU : Int) =>
 some (gU, 0))
  (λ (o : Empty) => o.elim)))
noncomputable def CG (x0 : av) : Option ((List Int) × Bool × Int) :=
 (mN x0 (λ y => m6 y)).bind λ cU =>
 ai (cU.2 != 0)
 (some ([], false, cU.2))
 ((xG cU.1).bind λ eL =>
 (sN (dh (λ (L7 : (List Int)) (_ : Unit) => (((AD (⟨⟨cU.1.book.aD, ⟨cU.1.book.af.ao, cU.1.book.af.ax⟩, cU.1.book.au, cU.1.book.Out, cU.1.book.aU⟩, cU.1.dI, eL⟩ : cR) L7).bind λ dO =>
 ai (decide (dO ≤ x0.aD))
 (some (.inr L7))
 (some (.inl ()))) : Option (Unit ⊕ (List Int))))) cU.1.book (.inl ())).bind (Sum.elim (λ (_ : Unit) =>
 some ([], false, 0))
  (λ (mP : (List Int)) =>
 some (mP, true, 0))))
noncomputable def GF (x0 : ao) (x1 : (List Int)) (x2 : Int) : Option ao :=
 (((ai (!x0.some_)
 (some true)
 (some (decide (x2 < x0.number)))) : Option Bool)).bind (λ (KT : Bool) =>
 ai KT
 (some (⟨x1, x2, true⟩ : ao))
 (some x0))
noncomputable def CH (x0 : av) : Option ((List Int) × Int × Int) :=
 (mN x0 (λ y => m6 y)).bind λ cL =>
 ai (cL.2 != 0)
 (some ([], 0, cL.2))
 ((xG cL.1).bind λ lZ =>
 (sN (dh (λ (HN : (List Int)) (kr : ((List Int) × Int × Bool)) => (((AD (⟨⟨cL.1.book.aD, ⟨cL.1.book.af.ao, cL.1.book.af.ax⟩, cL.1.book.au, cL.1.book.Out, cL.1.book.aU⟩, cL.1.dI, lZ⟩ : cR) HN).bind λ dO =>
 (GF (⟨kr.1, kr.2.1, kr.2.2⟩ : ao) HN dO).bind λ L8 =>
 some (.inl (L8.Uj, L8.number, L8.some_))) : Option (((List Int) × Int × Bool) ⊕ Empty)))) cL.1.book (.inl ([], 0, false))).bind (Sum.elim (λ (kr : ((List Int) × Int × Bool)) =>
 some (kr.1, kr.2.1, 0))
  (λ (o : Empty) => o.elim)))
noncomputable def w8 (x0 : av) : Option Bool :=
 (oI (dh (λ (_ : bn) (_ : Unit) => ((some (.inr ())) : Option (Unit ⊕ Unit)))) x0 (.inl ())).bind (Sum.elim (λ (_ : Unit) =>
 some false)
  (λ (_ : Unit) =>
 some true))
noncomputable def uP (x0 : Int) : Option Bool :=
 some (x0 != x0)
noncomputable def GL (x0 : Int) (x1 : Int) : Option Int :=
 (uP x0).bind λ cL =>
 (uP x1).bind λ mX =>
 ai cL
 (ai mX
 (some 0)
 (some (-1)))
 (ai mX
 (some 1)
 (ai (decide (x0 < x1))
 (some (-1))
 (ai (decide (x0 > x1))
 (some 1)
 (some 0))))
noncomputable def GJ (x0 : (List Int)) (x1 : (List Int)) : Option Int :=
 (br (O := (Unit ⊕ Int)) (λ (xV : Int) =>
 ai (decide (xV < (x0.length : Int)))
 ((idx x0 xV).bind λ rA =>
 ai (decide (xV ≥ (x1.length : Int)))
 (some (.inr (.inr 1)))
 ((idx x1 xV).bind λ DM =>
 (GL rA DM).bind λ U9 =>
 ai (U9 != 0)
 (some (.inr (.inr U9)))
 (some (.inl (i64 (xV + 1))))))
 (some (.inr (.inl ())))) 0).bind (Sum.elim (λ (_ : Unit) =>
 ai (decide ((x0.length : Int) < (x1.length : Int)))
 (some (-1))
 (some 0))
  (λ q => some q))
noncomputable def Cq (x0 : (List Int)) (x1 : (List Int)) : Option Bool :=
 ai (decide ((x0.length : Int) < (x1.length : Int)))
 (some true)
 (ai ((x0.length : Int) == (x1.length : Int))
 ((GJ x0 x1).bind λ fB =>
 some (decide (fB < 0)))
 (some false))
noncomputable def CJ (x0 : av) : Option ((List Int) × Int) :=
 (lK x0).bind λ UI =>
 ai (UI != 0)
 (some ([], UI))
 ((w8 x0).bind λ jG =>
 ai jG
 (some ([], 0))
 ((s8 .i64 1 (x0.aU.length : Int)).bind λ vw =>
 (br (O := (List (List Int))) (λ (dJ : ((List (List Int)) × Int)) =>
 ai (decide (dJ.2 < vw))
 ((br (O := ((List Int) × (List cF))) (λ (jh : ((List Int) × Int × (List cF))) =>
 ai (decide (jh.2.1 < (x0.aU.length : Int)))
 ((idx x0.aU jh.2.1).bind λ mW =>
 (s9 .i64 dJ.2 jh.2.1).bind λ UT =>
 (p8 .and .i64 UT 1).bind λ UU =>
 ai (UU == 1)
 ((eH jh.1 [jh.2.1]).bind λ UW =>
 (eH jh.2.2 [mW]).bind λ UX =>
 some (.inl (UW, i64 (jh.2.1 + 1), UX)))
 (some (.inl (jh.1, i64 (jh.2.1 + 1), jh.2.2))))
 (some (.inr (jh.1, jh.2.2)))) ([], 0, [])).bind (λ (xJ : ((List Int) × (List cF))) =>
 (w8 (⟨x0.aD, ⟨x0.af.ao, x0.af.ax⟩, x0.au, x0.Out, xJ.2⟩ : av)).bind λ yh =>
 ai (!yh)
 ((eH dJ.1 [xJ.1]).bind λ nV =>
 some (.inl (nV, i64 (dJ.2 + 1))))
 (some (.inl (dJ.1, i64 (dJ.2 + 1))))))
 (some (.inr dJ.1))) ([], 0)).bind (λ (lO : (List (List Int))) =>
 (idx lO 0).bind λ rq =>
 (br (O := (List Int)) (λ (pJ : ((List Int) × Int)) =>
 ai (decide (pJ.2 < (lO.length : Int)))
 ((idx lO pJ.2).bind λ ru =>
 (Cq ru pJ.1).bind λ oR =>
 ai oR
 (some (.inl (ru, i64 (pJ.2 + 1))))
 (some (.inl (pJ.1, i64 (pJ.2 + 1)))))
 (some (.inr pJ.1))) (rq, 0)).bind (λ (G5 : (List Int)) =>
 ai ((G5.length : Int) == 0)
 (some ([], 8))
 (some (G5, 0))))))
noncomputable def xD (x0 : av) : Option (Int × Int × Int) :=
 (mN x0 (λ y => m6 y)).bind λ dz =>
 ai (dz.2 != 0)
 (some (0, 0, dz.2))
 ((br (O := (Int × Int)) (λ (cT : (Int × Int × (Int → Int → Int) × Int)) =>
 ai (decide (cT.2.2.2 < (x0.au.length : Int)))
 ((br (O := ((Int → Int → Int) × Int)) (λ (dJ : ((Int → Int → Int) × Int × Int)) =>
 ai (decide (dJ.2.2 < (dz.1.dI.length : Int)))
 ((idx dz.1.dI dJ.2.2).bind λ tA =>
 (idx tA.weights cT.2.2.2).bind λ fF =>
 some (.inl (vb dJ.1 cT.2.2.2 fF (i64 ((dJ.1 cT.2.2.2 fF) + 1)), kR dJ.2.1 [(vb dJ.1 cT.2.2.2 fF (i64 ((dJ.1 cT.2.2.2 fF) + 1))) cT.2.2.2 fF], i64 (dJ.2.2 + 1))))
 (some (.inr (dJ.1, dJ.2.1)))) (cT.2.2.1, 0, 0)).bind (λ (lO : ((Int → Int → Int) × Int)) =>
 ai (decide (lO.2 < cT.2.1))
 (some (.inl (cT.2.2.2, lO.2, lO.1, i64 (cT.2.2.2 + 1))))
 (some (.inl (cT.1, cT.2.1, lO.1, i64 (cT.2.2.2 + 1))))))
 (some (.inr (cT.1, cT.2.1)))) ((-1), (dz.1.dI.length : Int), (λ _ _ => 0), 0)).bind (λ (qO : (Int × Int)) =>
 some (qO.1, qO.2, 0)))
noncomputable def yq (x0 : (List cF)) : Option (List cF) :=
 (eH [] x0).bind λ cy =>
 some cy
noncomputable def xb (x0 : (List cG)) : Option (List cG) :=
 (eH [] x0).bind λ cy =>
 some cy
noncomputable def w9 (x0 : av) : Option (av × Int) :=
 (lK x0).bind λ vB =>
 ai (vB != 0)
 (some ((⟨0, ⟨0, 0⟩, [], [], []⟩ : av), vB))
 ((w8 (⟨x0.aD, ⟨x0.af.ao, x0.af.ax⟩, x0.au, x0.Out, x0.aU⟩ : av)).bind λ kA =>
 ai (!kA)
 (some ((⟨0, ⟨0, 0⟩, [], [], []⟩ : av), 9))
 ((xb x0.au).bind λ iF =>
 (rE x0.Out).bind λ k9 =>
 (yq x0.aU).bind λ rA =>
 (br (O := (List cG)) (λ (nP : ((List cG) × Int)) =>
 ai (decide (nP.2 < (iF.length : Int)))
 ((idx nP.1 nP.2).bind λ pR =>
 (rE pR.On).bind λ UC =>
 (idx nP.1 nP.2).bind λ kz =>
 some (.inl (nP.1.set nP.2.toNat (⟨kz.Name, kz.dg, ⟨kz.Weight.ao, kz.Weight.ax⟩, UC⟩ : cG), i64 (nP.2 + 1))))
 (some (.inr nP.1))) (iF, 0)).bind (λ (K5 : (List cG)) =>
 some ((⟨x0.aD, ⟨x0.af.ao, x0.af.ax⟩, K5, k9, rA⟩ : av), 0))))
noncomputable def CL (x0 : av) (x1 : cF) : Option (av × Int) :=
 (lK x0).bind λ cL =>
 ai (cL != 0)
 (some ((⟨0, ⟨0, 0⟩, [], [], []⟩ : av), cL))
 ((yq x0.aU).bind λ jH =>
 (eH jH [x1]).bind λ fV =>
 (w9 (⟨x0.aD, ⟨x0.af.ao, x0.af.ax⟩, x0.au, x0.Out, fV⟩ : av)).bind λ eL =>
 some (eL.1, eL.2))
noncomputable def xE (x0 : av) (x1 : Int) (x2 : Reach) : Option (av × Int) :=
 (lK x0).bind λ pQ =>
 ai (pQ != 0)
 (some ((⟨0, ⟨0, 0⟩, [], [], []⟩ : av), pQ))
 ((sO (⟨x0.aD, ⟨x0.af.ao, x0.af.ax⟩, x0.au, x0.Out, x0.aU⟩ : av) x1).bind λ ei =>
 ai (!ei)
 (some ((⟨0, ⟨0, 0⟩, [], [], []⟩ : av), 6))
 ((uM x2 1 99 99).bind λ U7 =>
 ai (!U7)
 (some ((⟨0, ⟨0, 0⟩, [], [], []⟩ : av), 1))
 ((idx x0.au x1).bind λ jJ =>
 ai (decide (kR jJ.Weight.ao [x2.ao] > rH jJ.Weight.ax [x2.ax]))
 (some ((⟨0, ⟨0, 0⟩, [], [], []⟩ : av), 9))
 ((xb x0.au).bind λ mY =>
 (idx mY x1).bind λ fE =>
 (w9 (⟨x0.aD, ⟨x0.af.ao, x0.af.ax⟩, mY.set x1.toNat (⟨fE.Name, fE.dg, ⟨kR jJ.Weight.ao [x2.ao], rH jJ.Weight.ax [x2.ax]⟩, fE.On⟩ : cG), x0.Out, x0.aU⟩ : av)).bind λ iF =>
 some (iF.1, iF.2)))))
noncomputable def Az (x0 : av) (x1 : Int) : Option (av × Int) :=
 (lK x0).bind λ lZ =>
 ai (lZ != 0)
 (some ((⟨0, ⟨0, 0⟩, [], [], []⟩ : av), lZ))
 ((iQ [false, false, false, false, false] x0.Out).bind λ fD =>
 (uU (⟨x0.aD, ⟨x0.af.ao, x0.af.ax⟩, x0.au, x0.Out, x0.aU⟩ : av) fD [x1]).bind λ yl =>
 ai (yl.2 != 0)
 (some ((⟨0, ⟨0, 0⟩, [], [], []⟩ : av), yl.2))
 ((rE x0.Out).bind λ nW =>
 (eH nW [x1]).bind λ ei =>
 (w9 (⟨x0.aD, ⟨x0.af.ao, x0.af.ax⟩, x0.au, ei, x0.aU⟩ : av)).bind λ eF =>
 some (eF.1, eF.2)))
noncomputable def Ae (x0 : av) (x1 : Int) : Option Int :=
 (sO x0 x1).bind λ gm =>
 ai (!gm)
 (some 6)
 (some 0)
noncomputable def eJ (x0 : Int) (x1 : Int) : Option Bool :=
 (uP x0).bind λ gm =>
 ai gm
 ((uP x1).bind λ fC =>
 ai (!fC)
 (some true)
 (some (decide (x0 < x1))))
 (some (decide (x0 < x1)))
noncomputable def xq (x0 : (List Int)) (x1 : Int) (x2 : Int) : Option (List Int) :=
 (br (O := (List Int)) (λ (pI : ((List Int) × Int)) =>
 ai (decide (pI.2 < x2))
 ((br (O := (List Int)) (λ (c9 : ((List Int) × Int)) =>
 (((ai (decide (c9.2 > x1))
 ((idx c9.1 c9.2).bind λ HM =>
 (idx c9.1 (i64 (c9.2 - 1))).bind λ yh =>
 (eJ HM yh).bind λ L0 =>
 some L0)
 (some false)) : Option Bool)).bind (λ (C4 : Bool) =>
 ai C4
 ((idx c9.1 (i64 (c9.2 - 1))).bind λ nV =>
 (idx c9.1 c9.2).bind λ rq =>
 (idx c9.1 c9.2).bind λ _ =>
 (idx (c9.1.set c9.2.toNat nV) (i64 (c9.2 - 1))).bind λ _ =>
 some (.inl ((c9.1.set c9.2.toNat nV).set (i64 (c9.2 - 1)).toNat rq, i64 (c9.2 - 1))))
 (some (.inr c9.1)))) (pI.1, pI.2)).bind (λ (KV : (List Int)) =>
 some (.inl (KV, i64 (pI.2 + 1)))))
 (some (.inr pI.1))) (x0, i64 (x1 + 1))).bind (λ (KR : (List Int)) =>
 some KR)
noncomputable def xz (x0 : (List Int)) (x1 : Int) (x2 : Int) (x3 : Int) : Option (List Int) :=
 (br (O := ((List Int) ⊕ (List Int))) (λ (dL : ((List Int) × Int)) =>
 ai (decide (i64 ((i64 (2 * dL.2)) + 1) ≥ x2))
 (some (.inr (.inl dL.1)))
 ((((ai (decide (i64 ((i64 ((i64 (2 * dL.2)) + 1)) + 1) < x2))
 ((idx dL.1 (i64 (x3 + (i64 ((i64 (2 * dL.2)) + 1))))).bind λ tv =>
 (idx dL.1 (i64 ((i64 (x3 + (i64 ((i64 (2 * dL.2)) + 1)))) + 1))).bind λ yb =>
 (eJ tv yb).bind λ A5 =>
 some A5)
 (some false)) : Option Bool)).bind (λ (KQ : Bool) =>
 (((ai KQ
 (some (i64 ((i64 ((i64 (2 * dL.2)) + 1)) + 1)))
 (some (i64 ((i64 (2 * dL.2)) + 1)))) : Option Int)).bind (λ (uX : Int) =>
 (idx dL.1 (i64 (x3 + dL.2))).bind λ UG =>
 (idx dL.1 (i64 (x3 + uX))).bind λ UH =>
 (eJ UG UH).bind λ acW =>
 ai (!acW)
 (some (.inr (.inr dL.1)))
 ((idx dL.1 (i64 (x3 + uX))).bind λ LP =>
 (idx dL.1 (i64 (x3 + dL.2))).bind λ vv =>
 (idx dL.1 (i64 (x3 + dL.2))).bind λ _ =>
 (idx (dL.1.set (i64 (x3 + dL.2)).toNat LP) (i64 (x3 + uX))).bind λ _ =>
 some (.inl ((dL.1.set (i64 (x3 + dL.2)).toNat LP).set (i64 (x3 + uX)).toNat vv, uX))))))) (x0, x1)).bind (Sum.elim (λ (CX : (List Int)) =>
 some CX)
  (λ q => some q))
noncomputable def xu (x0 : (List Int)) (x1 : Int) (x2 : Int) : Option (List Int) :=
 (kT (i64 ((i64 (x2 - x1)) - 1)) 2).bind λ jJ =>
 (br (O := (List Int)) (λ (qV : ((List Int) × Int)) =>
 ai (decide (qV.2 ≥ 0))
 ((xz qV.1 qV.2 (i64 (x2 - x1)) x1).bind λ rB =>
 some (.inl (rB, i64 (qV.2 - 1))))
 (some (.inr qV.1))) (x0, jJ)).bind (λ (KZ : (List Int)) =>
 (br (O := (List Int)) (λ (jC : ((List Int) × Int)) =>
 ai (decide (jC.2 ≥ 0))
 ((idx jC.1 (i64 (x1 + jC.2))).bind λ nT =>
 (idx jC.1 x1).bind λ LG =>
 (idx jC.1 x1).bind λ _ =>
 (idx (jC.1.set x1.toNat nT) (i64 (x1 + jC.2))).bind λ _ =>
 (xz ((jC.1.set x1.toNat nT).set (i64 (x1 + jC.2)).toNat LG) 0 jC.2 x1).bind λ tu =>
 some (.inl (tu, i64 (jC.2 - 1))))
 (some (.inr jC.1))) (KZ, i64 ((i64 (x2 - x1)) - 1))).bind (λ (u5 : (List Int)) =>
 some u5))
noncomputable def GN (x0 : Int) : Option Int :=
 (((ai (decide (x0 ≥ 4294967296))
 ((s9 .u64 x0 32).bind λ jH =>
 some (jH, 32))
 (some (x0, 0))) : Option (Int × Int))).bind (λ (jz : (Int × Int)) =>
 (((ai (decide (jz.1 ≥ 65536))
 ((s9 .u64 jz.1 16).bind λ fD =>
 some (fD, i64 (jz.2 + 16)))
 (some (jz.1, jz.2))) : Option (Int × Int))).bind (λ (u0 : (Int × Int)) =>
 (((ai (decide (u0.1 ≥ 256))
 ((s9 .u64 u0.1 8).bind λ oS =>
 some (oS, i64 (u0.2 + 8)))
 (some (u0.1, u0.2))) : Option (Int × Int))).bind (λ (mQ : (Int × Int)) =>
 (qX (⟨#[0, 1, 2, 2, 3, 3, 3, 3, 4, 4, 4, 4, 4, 4, 4, 4, 5, 5, 5, 5, 5, 5, 5, 5, 5, 5, 5, 5, 5, 5, 5, 5, 6, 6, 6, 6, 6, 6, 6, 6, 6, 6, 6, 6, 6, 6, 6, 6, 6, 6, 6, 6, 6, 6, 6, 6, 6, 6, 6, 6, 6, 6, 6, 6, 7, 7, 7, 7, 7, 7, 7, 7, 7, 7, 7, 7, 7, 7, 7, 7, 7, 7, 7, 7, 7, 7, 7, 7, 7, 7, 7, 7, 7, 7, 7, 7, 7, 7, 7, 7, 7, 7, 7, 7, 7, 7, 7, 7, 7, 7, 7, 7, 7, 7, 7, 7, 7, 7, 7, 7, 7, 7, 7, 7, 7, 7, 7, 7, 8, 8, 8, 8, 8, 8, 8, 8, 8, 8, 8, 8, 8, 8, 8, 8, 8, 8, 8, 8, 8, 8, 8, 8, 8, 8, 8, 8, 8, 8, 8, 8, 8, 8, 8, 8, 8, 8, 8, 8, 8, 8, 8, 8, 8, 8, 8, 8, 8, 8, 8, 8, 8, 8, 8, 8, 8, 8, 8, 8, 8, 8, 8, 8, 8, 8, 8, 8, 8, 8, 8, 8, 8, 8, 8, 8, 8, 8, 8, 8, 8, 8, 8, 8, 8, 8, 8, 8, 8, 8, 8, 8, 8, 8, 8, 8, 8, 8, 8, 8, 8, 8, 8, 8, 8, 8, 8, 8, 8, 8, 8, 8, 8, 8, 8, 8, 8, 8, 8, 8, 8, 8, 8, 8, 8, 8, 8, 8]⟩) (IntKind.wrap .u8 mQ.1)).bind λ pQ =>
 some (i64 (mQ.2 + (i64 pQ))))))
noncomputable def xp (x0 : Int) : Option Int :=
 (GN x0).bind λ cy =>
 some cy
noncomputable def Ap (x0 : Int) : Option Int :=
 (xp (IntKind.wrap .u64 x0)).bind λ Be =>
 (s8 .u64 1 Be).bind λ eW =>
 some eW
noncomputable def Aq (x0 : Int) : Option (Int × Int) :=
 (s8 .u64 x0 13).bind λ fC =>
 (p8 .xor .u64 x0 fC).bind λ k6 =>
 (s9 .u64 k6 7).bind λ lW =>
 (p8 .xor .u64 k6 lW).bind λ dW =>
 (s8 .u64 dW 17).bind λ gY =>
 (p8 .xor .u64 dW gY).bind λ eD =>
 some (eD, eD)
noncomputable def uQ (x0 : (List Int)) (x1 : Int) (x2 : Int) : Option (List Int) :=
 ai (decide (i64 (x2 - x1) ≥ 8))
 ((Ap (i64 (x2 - x1))).bind λ fE =>
 (kT (i64 (x2 - x1)) 4).bind λ mZ =>
 (br (O := (List Int)) (λ (ji : ((List Int) × Int × Int)) =>
 (kT (i64 (x2 - x1)) 4).bind λ vu =>
 ai (decide (ji.2.1 ≤ i64 ((i64 (x1 + (i64 (vu * 2)))) + 1)))
 ((Aq ji.2.2).bind λ tu =>
 (p8 .and .u64 tu.2 (IntKind.wrap .u64 (fE - 1))).bind λ A3 =>
 (((ai (decide (i64 A3 ≥ i64 (x2 - x1)))
 (some (i64 ((i64 A3) - (i64 (x2 - x1)))))
 (some (i64 A3))) : Option Int)).bind (λ (sV : Int) =>
 (idx ji.1 (i64 (x1 + sV))).bind λ LK =>
 (idx ji.1 ji.2.1).bind λ vF =>
 (idx ji.1 ji.2.1).bind λ _ =>
 (idx (ji.1.set ji.2.1.toNat LK) (i64 (x1 + sV))).bind λ _ =>
 some (.inl ((ji.1.set ji.2.1.toNat LK).set (i64 (x1 + sV)).toNat vF, i64 (ji.2.1 + 1), tu.1))))
 (some (.inr ji.1))) (x0, i64 ((i64 (x1 + (i64 (mZ * 2)))) - 1), IntKind.wrap .u64 (i64 (x2 - x1)))).bind (λ (K4 : (List Int)) =>
 some K4))
 (some x0)
noncomputable def pD (x0 : (List Int)) (x1 : Int) (x2 : Int) (x3 : Int) : Option (Int × Int × Int) :=
 (idx x0 x2).bind λ gm =>
 (idx x0 x1).bind λ fB =>
 (eJ gm fB).bind λ fC =>
 ai fC
 (some (i64 (x3 + 1), x2, x1))
 (some (x3, x1, x2))
noncomputable def qG (x0 : (List Int)) (x1 : Int) (x2 : Int) (x3 : Int) (x4 : Int) : Option (Int × Int) :=
 (pD x0 x1 x2 x4).bind λ eW =>
 (pD x0 eW.2.2 x3 eW.1).bind λ gm =>
 (pD x0 eW.2.1 gm.2.1 gm.1).bind λ fB =>
 some (fB.1, fB.2.2)
noncomputable def pC (x0 : (List Int)) (x1 : Int) (x2 : Int) : Option (Int × Int) :=
 (qG x0 (i64 (x1 - 1)) x1 (i64 (x1 + 1)) x2).bind λ cy =>
 some (cy.1, cy.2)
noncomputable def xw (x0 : (List Int)) (x1 : Int) (x2 : Int) : Option (Int × Int) :=
 (kT (i64 (x2 - x1)) 4).bind λ fV =>
 (kT (i64 (x2 - x1)) 4).bind λ ry =>
 (kT (i64 (x2 - x1)) 4).bind λ eL =>
 (((ai (decide (i64 (x2 - x1) ≥ 8))
 (ai (decide (i64 (x2 - x1) ≥ 50))
 ((pC x0 (i64 (x1 + (i64 (fV * 1)))) 0).bind λ ei =>
 (pC x0 (i64 (x1 + (i64 (ry * 2)))) ei.1).bind λ eF =>
 (pC x0 (i64 (x1 + (i64 (eL * 3)))) eF.1).bind λ dH =>
 (qG x0 ei.2 eF.2 dH.2 dH.1).bind λ k7 =>
 some (k7.2, k7.1))
 ((qG x0 (i64 (x1 + (i64 (fV * 1)))) (i64 (x1 + (i64 (ry * 2)))) (i64 (x1 + (i64 (eL * 3)))) 0).bind λ DK =>
 some (DK.2, DK.1)))
 (some (i64 (x1 + (i64 (ry * 2))), 0))) : Option (Int × Int))).bind (λ (mP : (Int × Int)) =>
 ai (mP.2 == 0)
 (some (mP.1, 1))
 (ai (mP.2 == 12)
 (some (mP.1, 2))
 (some (mP.1, 0))))
noncomputable def uR (x0 : (List Int)) (x1 : Int) (x2 : Int) : Option (List Int) :=
 (br (O := (List Int)) (λ (eB : ((List Int) × Int × Int)) =>
 ai (decide (eB.2.1 < eB.2.2))
 ((idx eB.1 eB.2.2).bind λ kA =>
 (idx eB.1 eB.2.1).bind λ mY =>
 (idx eB.1 eB.2.1).bind λ _ =>
 (idx (eB.1.set eB.2.1.toNat kA) eB.2.2).bind λ _ =>
 some (.inl ((eB.1.set eB.2.1.toNat kA).set eB.2.2.toNat mY, i64 (eB.2.1 + 1), i64 (eB.2.2 - 1))))
 (some (.inr eB.1))) (x0, x1, i64 (x2 - 1))).bind (λ (C7 : (List Int)) =>
 some C7)
noncomputable def sQ (x0 : (List Int)) (x1 : Int) (x2 : Int) : Option ((List Int) × Bool) :=
 (br (O := ((List Int) ⊕ ((List Int) × Bool))) (λ (fS : ((List Int) × Int × Int)) =>
 ai (decide (fS.2.2 < 5))
 ((br (O := Int) (λ (iD : Int) =>
 ai (decide (iD < x2))
 ((idx fS.1 iD).bind λ Bo =>
 (idx fS.1 (i64 (iD - 1))).bind λ Bp =>
 (eJ Bo Bp).bind λ DN =>
 ai (!DN)
 (some (.inl (i64 (iD + 1))))
 (some (.inr iD)))
 (some (.inr iD))) fS.2.1).bind (λ (gd : Int) =>
 ai (gd == x2)
 (some (.inr (.inr (fS.1, true))))
 (ai (decide (i64 (x2 - x1) < 50))
 (some (.inr (.inr (fS.1, false))))
 ((idx fS.1 (i64 (gd - 1))).bind λ HP =>
 (idx fS.1 gd).bind λ Ma =>
 (idx fS.1 gd).bind λ _ =>
 (idx (fS.1.set gd.toNat HP) (i64 (gd - 1))).bind λ _ =>
 (((ai (decide (i64 (gd - x1) ≥ 2))
 ((br (O := (List Int)) (λ (c7 : ((List Int) × Int)) =>
 ai (decide (c7.2 ≥ 1))
 ((idx c7.1 c7.2).bind λ HB =>
 (idx c7.1 (i64 (c7.2 - 1))).bind λ HC =>
 (eJ HB HC).bind λ LF =>
 ai (!LF)
 (some (.inr c7.1))
 ((idx c7.1 (i64 (c7.2 - 1))).bind λ AY =>
 (idx c7.1 c7.2).bind λ HD =>
 (idx c7.1 c7.2).bind λ _ =>
 (idx (c7.1.set c7.2.toNat AY) (i64 (c7.2 - 1))).bind λ _ =>
 some (.inl ((c7.1.set c7.2.toNat AY).set (i64 (c7.2 - 1)).toNat HD, i64 (c7.2 - 1)))))
 (some (.inr c7.1))) ((fS.1.set gd.toNat HP).set (i64 (gd - 1)).toNat Ma, i64 (gd - 1))).bind (λ (Da : (List Int)) =>
 some Da))
 (some ((fS.1.set gd.toNat HP).set (i64 (gd - 1)).toNat Ma))) : Option (List Int))).bind (λ (G7 : (List Int)) =>
 ai (decide (i64 (x2 - gd) ≥ 2))
 ((br (O := (List Int)) (λ (ct : ((List Int) × Int)) =>
 ai (decide (ct.2 < x2))
 ((idx ct.1 ct.2).bind λ AZ =>
 (idx ct.1 (i64 (ct.2 - 1))).bind λ A0 =>
 (eJ AZ A0).bind λ Dy =>
 ai (!Dy)
 (some (.inr ct.1))
 ((idx ct.1 (i64 (ct.2 - 1))).bind λ tq =>
 (idx ct.1 ct.2).bind λ A1 =>
 (idx ct.1 ct.2).bind λ _ =>
 (idx (ct.1.set ct.2.toNat tq) (i64 (ct.2 - 1))).bind λ _ =>
 some (.inl ((ct.1.set ct.2.toNat tq).set (i64 (ct.2 - 1)).toNat A1, i64 (ct.2 + 1)))))
 (some (.inr ct.1))) (G7, i64 (gd + 1))).bind (λ (KO : (List Int)) =>
 some (.inl (KO, gd, i64 (fS.2.2 + 1)))))
 (some (.inl (G7, gd, i64 (fS.2.2 + 1)))))))))
 (some (.inr (.inl fS.1)))) (x0, i64 (x1 + 1), 0)).bind (Sum.elim (λ (KX : (List Int)) =>
 some (KX, false))
  (λ q => some q))
noncomputable def xx (x0 : (List Int)) (x1 : Int) (x2 : Int) (x3 : Int) : Option ((List Int) × Int) :=
 (idx x0 x3).bind λ LM =>
 (idx x0 x1).bind λ gL =>
 (idx x0 x1).bind λ _ =>
 (idx (x0.set x1.toNat LM) x3).bind λ _ =>
 (br (O := ((List Int) × Int)) (λ (eA : ((List Int) × Int × Int)) =>
 (br (O := Int) (λ (xQ : Int) =>
 ai (decide (xQ ≤ eA.2.2))
 ((idx eA.1 x1).bind λ Dz =>
 (idx eA.1 xQ).bind λ ye =>
 (eJ Dz ye).bind λ LS =>
 ai (!LS)
 (some (.inl (i64 (xQ + 1))))
 (some (.inr xQ)))
 (some (.inr xQ))) eA.2.1).bind (λ (nK : Int) =>
 (br (O := Int) (λ (xR : Int) =>
 ai (decide (nK ≤ xR))
 ((idx eA.1 x1).bind λ rj =>
 (idx eA.1 xR).bind λ HL =>
 (eJ rj HL).bind λ ac6 =>
 ai ac6
 (some (.inl (i64 (xR - 1))))
 (some (.inr xR)))
 (some (.inr xR))) eA.2.2).bind (λ (uZ : Int) =>
 ai (decide (nK > uZ))
 (some (.inr (eA.1, nK)))
 ((idx eA.1 uZ).bind λ LU =>
 (idx eA.1 nK).bind λ US =>
 (idx eA.1 nK).bind λ _ =>
 (idx (eA.1.set nK.toNat LU) uZ).bind λ _ =>
 some (.inl ((eA.1.set nK.toNat LU).set uZ.toNat US, i64 (nK + 1), i64 (uZ - 1))))))) ((x0.set x1.toNat LM).set x3.toNat gL, i64 (x1 + 1), i64 (x2 - 1))).bind (λ (tH : ((List Int) × Int)) =>
 some (tH.1, tH.2))
noncomputable def xy (x0 : (List Int)) (x1 : Int) (x2 : Int) (x3 : Int) : Option ((List Int) × Int × Bool) :=
 (idx x0 x3).bind λ jG =>
 (idx x0 x1).bind λ lV =>
 (idx x0 x1).bind λ _ =>
 (idx (x0.set x1.toNat jG) x3).bind λ _ =>
 (br (O := Int) (λ (xO : Int) =>
 ai (decide (xO ≤ i64 (x2 - 1)))
 ((idx ((x0.set x1.toNat jG).set x3.toNat lV) xO).bind λ UL =>
 (idx ((x0.set x1.toNat jG).set x3.toNat lV) x1).bind λ UM =>
 (eJ UL UM).bind λ ac0 =>
 ai ac0
 (some (.inl (i64 (xO + 1))))
 (some (.inr xO)))
 (some (.inr xO))) (i64 (x1 + 1))).bind (λ (oL : Int) =>
 (br (O := Int) (λ (xP : Int) =>
 ai (decide (oL ≤ xP))
 ((idx ((x0.set x1.toNat jG).set x3.toNat lV) xP).bind λ UO =>
 (idx ((x0.set x1.toNat jG).set x3.toNat lV) x1).bind λ UP =>
 (eJ UO UP).bind λ H6 =>
 ai (!H6)
 (some (.inl (i64 (xP - 1))))
 (some (.inr xP)))
 (some (.inr xP))) (i64 (x2 - 1))).bind (λ (mO : Int) =>
 ai (decide (oL > mO))
 ((idx ((x0.set x1.toNat jG).set x3.toNat lV) x1).bind λ pP =>
 (idx ((x0.set x1.toNat jG).set x3.toNat lV) mO).bind λ DC =>
 (idx ((x0.set x1.toNat jG).set x3.toNat lV) mO).bind λ _ =>
 (idx (((x0.set x1.toNat jG).set x3.toNat lV).set mO.toNat pP) x1).bind λ _ =>
 some ((((x0.set x1.toNat jG).set x3.toNat lV).set mO.toNat pP).set x1.toNat DC, mO, true))
 ((idx ((x0.set x1.toNat jG).set x3.toNat lV) mO).bind λ vz =>
 (idx ((x0.set x1.toNat jG).set x3.toNat lV) oL).bind λ UR =>
 (idx ((x0.set x1.toNat jG).set x3.toNat lV) oL).bind λ _ =>
 (idx (((x0.set x1.toNat jG).set x3.toNat lV).set oL.toNat vz) mO).bind λ _ =>
 (br (O := ((List Int) × Int)) (λ (jB : ((List Int) × Int × Int)) =>
 (br (O := Int) (λ (xS : Int) =>
 ai (decide (xS ≤ jB.2.2))
 ((idx jB.1 xS).bind λ UZ =>
 (idx jB.1 x1).bind λ nV =>
 (eJ UZ nV).bind λ rq =>
 ai rq
 (some (.inl (i64 (xS + 1))))
 (some (.inr xS)))
 (some (.inr xS))) jB.2.1).bind (λ (oM : Int) =>
 (br (O := Int) (λ (xU : Int) =>
 ai (decide (oM ≤ xU))
 ((idx jB.1 xU).bind λ U1 =>
 (idx jB.1 x1).bind λ U2 =>
 (eJ U1 U2).bind λ ada =>
 ai (!ada)
 (some (.inl (i64 (xU - 1))))
 (some (.inr xU)))
 (some (.inr xU))) jB.2.2).bind (λ (sX : Int) =>
 ai (decide (oM > sX))
 (some (.inr (jB.1, sX)))
 ((idx jB.1 sX).bind λ L3 =>
 (idx jB.1 oM).bind λ U3 =>
 (idx jB.1 oM).bind λ _ =>
 (idx (jB.1.set oM.toNat L3) sX).bind λ _ =>
 some (.inl ((jB.1.set oM.toNat L3).set sX.toNat U3, i64 (oM + 1), i64 (sX - 1))))))) ((((x0.set x1.toNat jG).set x3.toNat lV).set oL.toNat vz).set mO.toNat UR, i64 (oL + 1), i64 (mO - 1))).bind (λ (iR : ((List Int) × Int)) =>
 (idx iR.1 x1).bind λ L4 =>
 (idx iR.1 iR.2).bind λ U4 =>
 (idx iR.1 iR.2).bind λ _ =>
 (idx (iR.1.set iR.2.toNat L4) x1).bind λ _ =>
 some ((iR.1.set iR.2.toNat L4).set x1.toNat U4, iR.2, false)))))
noncomputable def qE : Nat → (List Int) → Int → Int → Int → Option (List Int)
 | 0, _, _, _, _ => none
 | k + 1, x0, x1, x2, x3 =>
  (br (O := (List Int)) (λ (aY : ((List Int) × Int × Int × Int × Bool × Bool)) =>
  ai (decide (i64 (aY.2.2.1 - aY.2.1) ≤ 12))
  ((xq aY.1 aY.2.1 aY.2.2.1).bind λ L1 =>
  some (.inr L1))
  (ai (aY.2.2.2.1 == 0)
  ((xu aY.1 aY.2.1 aY.2.2.1).bind λ L2 =>
  some (.inr L2))
  ((((ai (!aY.2.2.2.2.1)
  ((uQ aY.1 aY.2.1 aY.2.2.1).bind λ ru =>
  some (ru, i64 (aY.2.2.2.1 - 1)))
  (some (aY.1, aY.2.2.2.1))) : Option ((List Int) × Int))).bind (λ (fy : ((List Int) × Int)) =>
  (xw fy.1 aY.2.1 aY.2.2.1).bind λ oR =>
  (((ai (oR.2 == 2)
  ((uR fy.1 aY.2.1 aY.2.2.1).bind λ vA =>
  some (vA, i64 ((i64 (aY.2.2.1 - 1)) - (i64 (oR.1 - aY.2.1))), 1))
  (some (fy.1, oR.1, oR.2))) : Option ((List Int) × Int × Int))).bind (λ (gT : ((List Int) × Int × Int)) =>
  (((ai aY.2.2.2.2.1
  (ai aY.2.2.2.2.2
  (some (gT.2.2 == 1))
  (some false))
  (some false)) : Option Bool)).bind (λ (C5 : Bool) =>
  (((ai C5
  ((sQ gT.1 aY.2.1 aY.2.2.1).bind λ lY =>
  ai lY.2
  (some (.inr lY.1))
  (some (.inl lY.1)))
  (some (.inl gT.1))) : Option ((List Int) ⊕ (List Int)))).bind (Sum.elim (λ (nL : (List Int)) =>
  (((ai (decide (aY.2.1 > 0))
  ((idx nL (i64 (aY.2.1 - 1))).bind λ Bj =>
  (idx nL gT.2.1).bind λ Bl =>
  (eJ Bj Bl).bind λ DH =>
  some (!DH))
  (some false)) : Option Bool)).bind (λ (C6 : Bool) =>
  ai C6
  ((xx nL aY.2.1 aY.2.2.1 gT.2.1).bind λ DI =>
  some (.inl (DI.1, DI.2, aY.2.2.1, fy.2, aY.2.2.2.2.1, aY.2.2.2.2.2)))
  ((xy nL aY.2.1 aY.2.2.1 gT.2.1).bind λ e9 =>
  (kT (i64 (aY.2.2.1 - aY.2.1)) 8).bind λ DJ =>
  ai (decide (i64 (e9.2.1 - aY.2.1) < i64 (aY.2.2.1 - e9.2.1)))
  ((qE k e9.1 aY.2.1 e9.2.1 fy.2).bind λ L5 =>
  some (.inl (L5, i64 (e9.2.1 + 1), aY.2.2.1, fy.2, decide (i64 (e9.2.1 - aY.2.1) ≥ DJ), e9.2.2)))
  ((qE k e9.1 (i64 (e9.2.1 + 1)) aY.2.2.1 fy.2).bind λ L6 =>
  some (.inl (L6, aY.2.1, e9.2.1, fy.2, decide (i64 (aY.2.2.1 - e9.2.1) ≥ DJ), e9.2.2))))))
   (λ q => some (.inr q))))))))) (x0, x1, x2, x3, true, true)).bind (λ q => some q)
noncomputable def xk (x0 : (List Int)) : Option (List Int) :=
 (xp (IntKind.wrap .u64 (x0.length : Int))).bind λ Be =>
 (qE 12 x0 0 (x0.length : Int) Be).bind λ eW =>
 some eW
noncomputable def xl (x0 : (List Int)) : Option (List Int) :=
 ai (decide ((x0.length : Int) < 2))
 (some x0)
 ((br (O := (Unit ⊕ (List Int))) (λ (kV : Int) =>
 ai (decide (kV < (x0.length : Int)))
 ((idx x0 kV).bind λ UK =>
 (idx x0 (i64 (kV - 1))).bind λ HH =>
 ai (UK == HH)
 ((jN x0 kV (x0.length : Int)).bind λ _ =>
 (br (O := ((List Int) × Int)) (λ (gF : ((List Int) × Int × Int)) =>
 ai (decide (gF.2.2 < ((gF.1.drop kV.toNat).length : Int)))
 ((idx (gF.1.drop kV.toNat) gF.2.2).bind λ Bf =>
 (idx (gF.1.drop kV.toNat) (i64 (gF.2.2 - 1))).bind λ HK =>
 ai (Bf != HK)
 ((idx (gF.1.drop kV.toNat) gF.2.2).bind λ ri =>
 (idx gF.1 gF.2.1).bind λ _ =>
 some (.inl (gF.1.set gF.2.1.toNat ri, i64 (gF.2.1 + 1), i64 (gF.2.2 + 1))))
 (some (.inl (gF.1, gF.2.1, i64 (gF.2.2 + 1)))))
 (some (.inr (gF.1, gF.2.1)))) (x0, kV, 1)).bind (λ (sW : ((List Int) × Int)) =>
 (jN sW.1 sW.2 (sW.1.length : Int)).bind λ _ =>
 (jN (ob sW.1 sW.2.toNat) 0 sW.2).bind λ UQ =>
 some (.inr (.inr UQ))))
 (some (.inl (i64 (kV + 1)))))
 (some (.inr (.inl ())))) 1).bind (Sum.elim (λ (_ : Unit) =>
 some x0)
  (λ q => some q)))
noncomputable def xe (x0 : cR) (x1 : (bn → Option Int)) : Option (List Int) :=
 (br (O := (List Int)) (λ (mT : ((List Int) × Int)) =>
 ai (decide (mT.2 < (x0.dI.length : Int)))
 ((idx x0.dI mT.2).bind λ kA =>
 (x1 kA).bind λ fE =>
 (eH mT.1 [fE]).bind λ iF =>
 some (.inl (iF, i64 (mT.2 + 1))))
 (some (.inr mT.1))) ([], 0)).bind (λ (AH : (List Int)) =>
 (xk AH).bind λ k9 =>
 (xl k9).bind λ rA =>
 some rA)
noncomputable def Af (x0 : bn) (x1 : Int) : Option Int :=
 (idx x0.weights x1).bind λ eW =>
 some eW
noncomputable def sR (x0 : av) (x1 : Int) : Option ((List Int) × Int) :=
 (mN x0 (λ y => Ae y x1)).bind λ dW =>
 ai (dW.2 != 0)
 (some ([], dW.2))
 ((xe dW.1 (λ y => Af y x1)).bind λ eE =>
 some (eE, 0))
noncomputable def oJ (x0 : av) : Option (Int × Int) :=
 (lK x0).bind λ lW =>
 ai (lW != 0)
 (some (0, lW))
 ((oI (dh (λ (_ : bn) (iT : Int) => ((some (.inl (i64 (iT + 1)))) : Option (Int ⊕ Empty)))) (⟨x0.aD, ⟨x0.af.ao, x0.af.ax⟩, x0.au, x0.Out, x0.aU⟩ : av) (.inl 0)).bind (Sum.elim (λ (iT : Int) =>
 some (iT, 0))
  (λ (o : Empty) => o.elim)))
noncomputable def uS (x0 : Int) (x1 : Int) : Option Reach :=
 some (⟨x0, x1⟩ : Reach)
noncomputable def pE (x0 : Int) : Option Reach :=
 (uS x0 x0).bind λ eW =>
 some eW
noncomputable def Cx (x0 : Int) : Option Bool :=
 (kQ x0 0 99).bind λ cy =>
 some (!cy)
noncomputable def GH (x0 : av) (x1 : gM) : Option (bn × Int) :=
 (kQ x1.af (-999) 999).bind λ eL =>
 ai (!eL)
 (some ((⟨0, [0, 0, 0, 0, 0]⟩ : bn), 1))
 (ai ((x1.eX.length : Int) != (x0.au.length : Int))
 (some ((⟨0, [0, 0, 0, 0, 0]⟩ : bn), 2))
 ((xm x1.eX (λ y => Cx y)).bind λ eF =>
 ai eF
 (some ((⟨0, [0, 0, 0, 0, 0]⟩ : bn), 1))
 (some ((⟨x1.af, eY [0, 0, 0, 0, 0] x1.eX⟩ : bn), 0))))
noncomputable def CP (x0 : av) (x1 : gM) (x2 : (List Int)) : Option (Int × Int) :=
 (lK x0).bind λ jH =>
 ai (jH != 0)
 (some (0, jH))
 ((GH x0 x1).bind λ fD =>
 ai (fD.2 != 0)
 (some (0, fD.2))
 ((uN x2 (x0.au.length : Int)).bind λ oS =>
 ai (oS != 0)
 (some (0, oS))
 ((iQ [false, false, false, false, false] x2).bind λ Bm =>
 (pA x0 fD.1 Bm).bind λ ei =>
 some (ei, 0))))
noncomputable def CQ (x0 : av) : Option ((List Int) × Int) :=
 (lK x0).bind λ lW =>
 ai (lW != 0)
 (some ([], lW))
 ((iQ [false, false, false, false, false] x0.Out).bind λ eE =>
 (xH (⟨x0.aD, ⟨x0.af.ao, x0.af.ax⟩, x0.au, x0.Out, x0.aU⟩ : av) eE).bind λ gZ =>
 some (gZ, 0))
noncomputable def pB (x0 : av) (x1 : (List Int)) : Option Int :=
 (uN x1 (x0.au.length : Int)).bind λ eW =>
 some eW
noncomputable def Ct (x0 : (List Int)) : Option (List Int) :=
 some x0
noncomputable def Cu (x0 : bn) (x1 : cR) (x2 : (List Int)) : Option Bool :=
 (iQ [false, false, false, false, false] x2).bind λ fB =>
 (pA x1.book x0 fB).bind λ fC =>
 (uL x1.book fC).bind λ k6 =>
 some k6
noncomputable def AB (x0 : av) (x1 : (List Int)) : Option (Int × Int) :=
 (Ct x1).bind λ eD =>
 (mN x0 (λ y => pB y eD)).bind λ eE =>
 ai (eE.2 != 0)
 (some (0, eE.2))
 ((Co eE.1 (λ y => Cu y eE.1 x1)).bind λ cL =>
 some (cL, 0))
noncomputable def xF (x0 : av) (x1 : cF) : Option av :=
 (eH [] x0.aU).bind λ gZ =>
 (eH gZ [x1]).bind λ Bi =>
 some (⟨x0.aD, ⟨x0.af.ao, x0.af.ax⟩, x0.au, x0.Out, Bi⟩ : av)
noncomputable def m64 (x0 : av) (x1 : Int) : Option av :=
 (eH [] x0.Out).bind λ gY =>
 (eH gY [x1]).bind λ eE =>
 some (⟨x0.aD, ⟨x0.af.ao, x0.af.ax⟩, x0.au, eE, x0.aU⟩ : av)
noncomputable def Cv (x0 : bn) (x1 : cR) (x2 : (List Int)) : Option Int :=
 (iQ [false, false, false, false, false] x2).bind λ gm =>
 (pA x1.book x0 gm).bind λ fB =>
 some fB
noncomputable def CR (x0 : av) (x1 : (List Int)) : Option (Reach × Int) :=
 (Ct x1).bind λ mX =>
 (mN x0 (λ y => pB y mX)).bind λ e8 =>
 ai (e8.2 != 0)
 (some ((⟨0, 0⟩ : Reach), e8.2))
 ((xe e8.1 (λ y => Cv y e8.1 x1)).bind λ eL =>
 (idx eL 0).bind λ rz =>
 (idx eL (i64 ((eL.length : Int) - 1))).bind λ yl =>
 some ((⟨rz, yl⟩ : Reach), 0))
noncomputable def GV  : Option av :=
 (uS 20 21).bind λ dW =>
 (pE 30).bind λ gY =>
 (pE 10).bind λ eD =>
 some (⟨62, ⟨0, 0⟩, [(⟨⟨#[103, 117, 110]⟩, (-3), ⟨dW.ao, dW.ax⟩, []⟩ : cG), (⟨⟨#[99, 104, 101, 115, 116]⟩, 2, ⟨gY.ao, gY.ax⟩, []⟩ : cG), (⟨⟨#[97, 110, 99, 104, 111, 114]⟩, 1, ⟨eD.ao, eD.ax⟩, [0]⟩ : cG)], [], []⟩ : av)
noncomputable def AA (x0 : (List Int)) (x1 : (List Int)) : Option Bool :=
 (br (O := (Unit ⊕ Bool)) (λ (mU : Int) =>
 ai (decide (mU < (x1.length : Int)))
 ((((ai (decide (mU ≥ (x0.length : Int)))
 (some true)
 ((idx x0 mU).bind λ A3 =>
 (idx x1 mU).bind λ LJ =>
 some (decide (A3 < LJ)))) : Option Bool)).bind (λ (KP : Bool) =>
 ai KP
 (some (.inr (.inr true)))
 ((idx x0 mU).bind λ vF =>
 (idx x1 mU).bind λ DX =>
 ai (decide (vF > DX))
 (some (.inr (.inr false)))
 (some (.inl (i64 (mU + 1)))))))
 (some (.inr (.inl ())))) 0).bind (Sum.elim (λ (_ : Unit) =>
 some false)
  (λ q => some q))
noncomputable def xA (x0 : (List Int)) (x1 : (List Int)) : Option Bool :=
 (AA x0 x1).bind λ eW =>
 ai (!eW)
 ((AA x1 x0).bind λ fB =>
 some (!fB))
 (some false)
noncomputable def qH (x0 : (List Int)) (x1 : (List Int)) : Option Bool :=
 (xA x0 x1).bind λ cy =>
 some cy
noncomputable def qF  : Option Bool :=
 (GV).bind λ bZ =>
 (m64 bZ 2).bind λ vv =>
 (xF vv (⟨1, 0⟩ : cF)).bind λ k5 =>
 (CP bZ (⟨0, [21, 30, 10]⟩ : gM) [1]).bind λ A6 =>
 (oJ bZ).bind λ A7 =>
 (sR bZ 0).bind λ A8 =>
 (CR bZ [2]).bind λ yd =>
 (AB bZ [0]).bind λ A9 =>
 (AB bZ [1, 2]).bind λ Ba =>
 (CQ bZ).bind λ Bb =>
 (CE bZ).bind λ Bc =>
 (oJ k5).bind λ Bd =>
 (((ai (A6.2 != 0)
 (some true)
 (ai (A7.2 != 0)
 (some true)
 (ai (A8.2 != 0)
 (some true)
 (ai (yd.2 != 0)
 (some true)
 (ai (A9.2 != 0)
 (some true)
 (ai (Ba.2 != 0)
 (some true)
 (ai (Bb.2 != 0)
 (some true)
 (ai (Bc.2 != 0)
 (some true)
 (some (Bd.2 != 0)))))))))) : Option Bool)).bind (λ (CY : Bool) =>
 ai CY
 (some false)
 ((((ai (A6.1 != (-53))
 (some true)
 (ai (A7.1 != 2)
 (some true)
 ((qH A8.1 [20, 21]).bind λ fF =>
 ai (!fF)
 (some true)
 ((uS (-3) 0).bind λ HJ =>
 ai (!(BW yd.1 HJ == true))
 (some true)
 (ai (A9.1 != 1)
 (some true)
 (ai (Ba.1 != 0)
 (some true)
 ((qH Bb.1 [1, 2]).bind λ Bf =>
 ai (!Bf)
 (some true)
 ((qH Bc.1 [1, 2]).bind λ ri =>
 ai (!ri)
 (some true)
 (some (Bd.1 != 1)))))))))) : Option Bool)).bind (λ (C0 : Bool) =>
 ai C0
 (some false)
 ((xB bZ [2, 0, 1]).bind λ pP =>
 (xB bZ [2, 1, 0]).bind λ tB =>
 (xB bZ [0, 1, 2]).bind λ vz =>
 (xC bZ).bind λ nU =>
 (CG bZ).bind λ tC =>
 (CH bZ).bind λ oQ =>
 (xC k5).bind λ rj =>
 (((ai (pP.2 != 0)
 (some true)
 (ai (tB.2 != 0)
 (some true)
 (ai (vz.2 != 7)
 (some true)
 (ai (nU.2 != 0)
 (some true)
 (ai (tC.2.2 != 0)
 (some true)
 (ai (oQ.2.2 != 0)
 (some true)
 (some (rj.2 != 0)))))))) : Option Bool)).bind (λ (iR : Bool) =>
 ai iR
 (some false)
 ((((ai (pP.1 != 1)
 (some true)
 (ai (tB.1 != 0)
 (some true)
 (ai (nU.1 != 1)
 (some true)
 (ai (!tC.2.1)
 (some true)
 ((qH tC.1 [2, 0, 1]).bind λ LV =>
 ai (!LV)
 (some true)
 ((qH oQ.1 [2, 0, 1]).bind λ LW =>
 ai (!LW)
 (some true)
 (ai (oQ.2.1 != 60)
 (some true)
 (some (rj.1 != 2))))))))) : Option Bool)).bind (λ (C3 : Bool) =>
 ai C3
 (some false)
 ((xD bZ).bind λ yf =>
 (Az bZ 0).bind λ LX =>
 (Az bZ 2).bind λ tD =>
 (CL tD.1 (⟨1, 2⟩ : cF)).bind λ LY =>
 (xF bZ (⟨0, 1⟩ : cF)).bind λ DE =>
 (xF DE (⟨0, 2⟩ : cF)).bind λ rm =>
 (CJ rm).bind λ Bg =>
 (pE 21).bind λ DF =>
 (xE bZ 0 DF).bind λ Bh =>
 (xC Bh.1).bind λ DG =>
 ai (yf.2.2 == 0)
 (ai (LX.2 == 7)
 (ai (tD.2 == 0)
 (ai (LY.2 == 9)
 (ai (Bg.2 == 0)
 (ai (Bh.2 == 0)
 (ai (DG.2 == 0)
 (ai (yf.1 == 0)
 (ai (yf.2.1 == 1)
 ((qH Bg.1 [0]).bind λ LZ =>
 ai LZ
 (some (DG.1 == 1))
 (some false))
 (some false))
 (some false))
 (some false))
 (some false))
 (some false))
 (some false))
 (some false))
 (some false))
 (some false)))))))))
noncomputable def l5 (x0 : Int) (x1 : Int) (x2 : Int) : Option Bool :=
 ai (decide (x1 ≤ x0))
 (some (decide (x0 ≤ x2)))
 (some false)
noncomputable def Cs (x0 : Reach) (x1 : Int) (x2 : Int) : Option Bool :=
 ai (decide (x1 ≤ x0.ao))
 (ai (decide (x0.ao ≤ x0.ax))
 (some (decide (x0.ax ≤ x2)))
 (some false))
 (some false)
noncomputable def sS (x0 : (List Int)) (x1 : Int) : Option Bool :=
 (br (O := (Unit ⊕ Bool)) (λ (dr : Int) =>
 ai (decide (dr < (x0.length : Int)))
 ((idx x0 dr).bind λ oS =>
 ai (oS == x1)
 (some (.inr (.inr true)))
 (some (.inl (i64 (dr + 1)))))
 (some (.inr (.inl ())))) 0).bind (Sum.elim (λ (_ : Unit) =>
 some false)
  (λ q => some q))
noncomputable def Cr (x0 : av) (x1 : Int) : Option Bool :=
 (l5 x1 0 (i64 ((x0.au.length : Int) - 1))).bind λ eW =>
 some eW
noncomputable def Cw (x0 : av) (x1 : (List Int)) (x2 : Int) : Option Bool :=
 (sS x1 x2).bind λ pQ =>
 ai pQ
 (some false)
 ((br (O := (Unit ⊕ Bool)) (λ (gU : Int) =>
 ai (decide (gU < (x0.au.length : Int)))
 ((sS x1 gU).bind λ k9 =>
 ai (!k9)
 ((idx x0.au gU).bind λ Bn =>
 (sS Bn.On x2).bind λ rB =>
 ai rB
 (some (.inr (.inr false)))
 (some (.inl (i64 (gU + 1)))))
 (some (.inl (i64 (gU + 1)))))
 (some (.inr (.inl ())))) 0).bind (Sum.elim (λ (_ : Unit) =>
 some true)
  (λ q => some q)))
noncomputable def GG (x0 : av) (x1 : (List Int)) (x2 : (List Int)) : Option Int :=
 (eH [] x1).bind λ x89 =>
 (br (O := (Unit ⊕ Int)) (λ (gG : ((List Int) × Int)) =>
 ai (decide (gG.2 < (x2.length : Int)))
 ((idx x2 gG.2).bind λ HE =>
 (Cr x0 HE).bind λ LL =>
 ai (!LL)
 (some (.inr (.inr 6)))
 ((idx x2 gG.2).bind λ gK =>
 (sS gG.1 gK).bind λ gW =>
 ai gW
 (some (.inr (.inr 5)))
 ((idx x2 gG.2).bind λ HF =>
 (Cw x0 gG.1 HF).bind λ Bv =>
 ai (!Bv)
 (some (.inr (.inr 7)))
 ((idx x2 gG.2).bind λ gL =>
 (eH gG.1 [gL]).bind λ LN =>
 some (.inl (LN, i64 (gG.2 + 1)))))))
 (some (.inr (.inl ())))) (x89, 0)).bind (Sum.elim (λ (_ : Unit) =>
 some 0)
  (λ q => some q))
noncomputable def GR (x0 : (List Int)) (x1 : Int) : Option Int :=
 (br (O := (Unit ⊕ Int)) (λ (s6 : Int) =>
 ai (decide (s6 < (x0.length : Int)))
 ((idx x0 s6).bind λ Va =>
 (l5 Va 0 (i64 (x1 - 1))).bind λ yu =>
 ai (!yu)
 (some (.inr (.inr 6)))
 (ai (decide (s6 > 0))
 ((idx x0 s6).bind λ oU =>
 (idx x0 (i64 (s6 - 1))).bind λ fc =>
 ai (decide (oU ≤ fc))
 (some (.inr (.inr 7)))
 (some (.inl (i64 (s6 + 1)))))
 (some (.inl (i64 (s6 + 1))))))
 (some (.inr (.inl ())))) 0).bind (Sum.elim (λ (_ : Unit) =>
 some 0)
  (λ q => some q))
noncomputable def An (x0 : Int) : Option Bool :=
 (l5 (i64 x0) 97 122).bind λ cy =>
 some cy
noncomputable def CB (x0 : Int) : Option Bool :=
 (l5 (i64 x0) 48 57).bind λ cy =>
 some cy
noncomputable def GK (x0 : ByteArray) : Option Bool :=
 ((((l5 (x0.size : Int) 1 12).bind λ jJ =>
 ai (!jJ)
 (some true)
 ((qX x0 0).bind λ ym =>
 (An ym).bind λ k8 =>
 some (!k8))) : Option Bool)).bind (λ (C9 : Bool) =>
 ai C9
 (some false)
 ((br (O := (Unit ⊕ Bool)) (λ (nO : Int) =>
 ai (decide (nO < (x0.size : Int)))
 ((qX x0 nO).bind λ kC =>
 (An kC).bind λ oT =>
 ai (!oT)
 ((qX x0 nO).bind λ nX =>
 (CB nX).bind λ Mb =>
 ai (!Mb)
 (some (.inr (.inr false)))
 (some (.inl (i64 (nO + 1)))))
 (some (.inl (i64 (nO + 1)))))
 (some (.inr (.inl ())))) 1).bind (Sum.elim (λ (_ : Unit) =>
 some true)
  (λ q => some q))))
noncomputable def GI (x0 : av) : Option Int :=
 (l5 (x0.au.length : Int) 1 5).bind λ DY =>
 ai (!DY)
 (some 2)
 ((br (O := (Unit ⊕ Int)) (λ (pH : Int) =>
 ai (decide (pH < (x0.au.length : Int)))
 ((idx x0.au pH).bind λ gX =>
 (GK gX.Name).bind λ ac1 =>
 ai (!ac1)
 (some (.inr (.inr 4)))
 ((br (O := (Unit ⊕ Int)) (λ (De : Int) =>
 ai (decide (De < pH))
 ((idx x0.au De).bind λ ri =>
 ai (ri.Name.toList == gX.Name.toList)
 (some (.inr (.inr 5)))
 (some (.inl (i64 (De + 1)))))
 (some (.inr (.inl ())))) 0).bind (Sum.elim (λ (_ : Unit) =>
 ((((l5 gX.dg (-9) 9).bind λ DC =>
 ai (!DC)
 (some true)
 ((Cs gX.Weight 1 99).bind λ tB =>
 ai (!tB)
 (some true)
 (some (decide (i64 (gX.Weight.ax - gX.Weight.ao) ≥ 3))))) : Option Bool)).bind (λ (KU : Bool) =>
 ai KU
 (some (.inr (.inr 1)))
 ((GR gX.On pH).bind λ nU =>
 ai (nU != 0)
 (some (.inr (.inr nU)))
 (some (.inl (i64 (pH + 1)))))))
  (λ q => some (.inr (.inr q))))))
 (some (.inr (.inl ())))) 0).bind (Sum.elim (λ (_ : Unit) =>
 some 0)
  (λ q => some q)))
noncomputable def GQ (x0 : av) : Option Int :=
 ((((l5 x0.aD 0 9999).bind λ x84 =>
 ai (!x84)
 (some true)
 ((Cs x0.af (-999) 999).bind λ yu =>
 ai (!yu)
 (some true)
 (some (decide (i64 (x0.af.ax - x0.af.ao) ≥ 3))))) : Option Bool)).bind (λ (u5 : Bool) =>
 ai u5
 (some 1)
 ((GI x0).bind λ oU =>
 ai (oU != 0)
 (some oU)
 ((GG x0 [] x0.Out).bind λ oT =>
 ai (oT != 0)
 (some oT)
 (ai (decide ((x0.aU.length : Int) > 4))
 (some 2)
 ((br (O := (Unit ⊕ Int)) (λ (dL : Int) =>
 ai (decide (dL < (x0.aU.length : Int)))
 ((idx x0.aU dL).bind λ Mo =>
 (l5 Mo.dN 0 (x0.Out.length : Int)).bind λ acT =>
 ai (!acT)
 (some (.inr (.inr 6)))
 ((idx x0.aU dL).bind λ UF =>
 (l5 UF.dX 0 2).bind λ dz =>
 ai (!dz)
 (some (.inr (.inr 1)))
 (some (.inl (i64 (dL + 1))))))
 (some (.inr (.inl ())))) 0).bind (Sum.elim (λ (_ : Unit) =>
 some 0)
  (λ q => some q)))))))
noncomputable def GO (x0 : av) (x1 : av) : Option Bool :=
 (((ai (x0.aD != x1.aD)
 (some true)
 (ai (!(BW x0.af x1.af == true))
 (some true)
 (ai ((x0.au.length : Int) != (x1.au.length : Int))
 (some true)
 (ai ((x0.aU.length : Int) != (x1.aU.length : Int))
 (some true)
 ((xA x0.Out x1.Out).bind λ DW =>
 some (!DW)))))) : Option Bool)).bind (λ (K6 : Bool) =>
 ai K6
 (some false)
 ((br (O := (Unit ⊕ Bool)) (λ (xN : Int) =>
 ai (decide (xN < (x0.au.length : Int)))
 ((idx x0.au xN).bind λ gK =>
 (idx x1.au xN).bind λ gW =>
 ai (!(gK.Name.toList == gW.Name.toList))
 (some (.inr (.inr false)))
 (ai (gK.dg != gW.dg)
 (some (.inr (.inr false)))
 (ai (!(BW gK.Weight gW.Weight == true))
 (some (.inr (.inr false)))
 ((xA gK.On gW.On).bind λ HZ =>
 ai (!HZ)
 (some (.inr (.inr false)))
 (some (.inl (i64 (xN + 1))))))))
 (some (.inr (.inl ())))) 0).bind (Sum.elim (λ (_ : Unit) =>
 (br (O := (Unit ⊕ Bool)) (λ (AN : Int) =>
 ai (decide (AN < (x0.aU.length : Int)))
 ((idx x0.aU AN).bind λ yb =>
 (idx x1.aU AN).bind λ A5 =>
 ai (!(N4 yb A5 == true))
 (some (.inr (.inr false)))
 (some (.inl (i64 (AN + 1)))))
 (some (.inr (.inl ())))) 0).bind (Sum.elim (λ (_ : Unit) =>
 some true)
  (λ q => some q)))
  (λ q => some q))))
noncomputable def CO (x0 : av) (x1 : Int) (x2 : Reach) : Option av :=
 (eH [] x0.au).bind λ eE =>
 (idx eE x1).bind λ gZ =>
 some (⟨x0.aD, ⟨x0.af.ao, x0.af.ax⟩, eE.set x1.toNat (⟨gZ.Name, gZ.dg, ⟨x2.ao, x2.ax⟩, gZ.On⟩ : cG), x0.Out, x0.aU⟩ : av)
noncomputable def CN (x0 : av) : Option Bool :=
 (GM x0).bind λ fB =>
 ai (!fB)
 ((GQ x0).bind λ k6 =>
 some (k6 == 0))
 (some false)
noncomputable def m5 (x0 : av) (x1 : Int) : Option Bool :=
 (CN x0).bind λ dz =>
 ai (!dz)
 ((qF).bind λ adw =>
 some adw)
 ((Dd (i64 x1) (x0.au.length : Int)).bind λ pU =>
 (sR x0 pU).bind λ gK =>
 (oJ x0).bind λ gW =>
 (((ai (gW.2 != 0)
 (some true)
 (ai (!((gK.2 == 0) == (decide (gW.1 > 0))))
 (some true)
 (ai (gK.2 != 0)
 (ai (gK.2 != 9)
 (some true)
 (some (decide ((gK.1.length : Int) > 0))))
 (some false)))) : Option Bool)).bind (λ (Vu : Bool) =>
 ai Vu
 (some false)
 ((idx x0.au pU).bind λ adx =>
 (br (O := (Int ⊕ Bool)) (λ (eA : (Int × Int)) =>
 (idx x0.au pU).bind λ Vx =>
 ai (decide (eA.2 ≤ Vx.Weight.ax))
 ((pE eA.2).bind λ UJ =>
 (xE x0 pU UJ).bind λ fL =>
 (pE eA.2).bind λ acZ =>
 (CO x0 pU acZ).bind λ LR =>
 (oJ LR).bind λ HI =>
 (((ai (HI.2 != 0)
 (some true)
 ((sS gK.1 eA.2).bind λ ady =>
 ai (!((fL.2 == 0) == ady))
 (some true)
 (ai (!((fL.2 == 0) == (decide (HI.1 > 0))))
 (some true)
 (ai (fL.2 != 0)
 (ai (fL.2 != 9)
 (some true)
 ((GO fL.1 (⟨0, ⟨0, 0⟩, [], [], []⟩ : av)).bind λ fF =>
 some (!fF)))
 (some false))))) : Option Bool)).bind (λ (Vv : Bool) =>
 ai Vv
 (some (.inr (.inr false)))
 (some (.inl (i64 (eA.1 + HI.1), i64 (eA.2 + 1))))))
 (some (.inr (.inl eA.1)))) (0, adx.Weight.ao)).bind (Sum.elim (λ (tH : Int) =>
 ai (tH == gW.1)
 ((qF).bind λ H6 =>
 some H6)
 (some false))
  (λ q => some q)))))
noncomputable def GU (x0 : av) (x1 : Int) : Option (Int × Bool) :=
 (sR x0 x1).bind λ jI =>
 (((ai (jI.2 != 0)
 (some true)
 (some (decide ((jI.1.length : Int) > 3)))) : Option Bool)).bind (λ (KY : Bool) =>
 ai KY
 (some (0, false))
 ((br (O := (Int ⊕ (Int × Bool))) (λ (s7 : (Int × Int)) =>
 ai (decide (s7.2 < (jI.1.length : Int)))
 ((idx jI.1 s7.2).bind λ oU =>
 (pE oU).bind λ fc =>
 (CO x0 x1 fc).bind λ vC =>
 (oJ vC).bind λ kC =>
 ai (kC.2 != 0)
 (some (.inr (.inr (0, false))))
 (some (.inl (kR s7.1 [kC.1], i64 (s7.2 + 1)))))
 (some (.inr (.inl s7.1)))) (0, 0)).bind (Sum.elim (λ (K0 : Int) =>
 some (K0, true))
  (λ q => some q))))
noncomputable def m13 (x0 : av) (x1 : Int) : Option Bool :=
 (CN x0).bind λ yu =>
 ai (!yu)
 ((qF).bind λ oU =>
 some oU)
 ((xD x0).bind λ fc =>
 (oJ x0).bind λ vC =>
 (((ai (vC.2 != 0)
 (some true)
 (some (!((fc.2.2 == 0) == (decide (vC.1 > 0)))))) : Option Bool)).bind (λ (Vw : Bool) =>
 ai Vw
 (some false)
 (ai (fc.2.2 != 0)
 ((((ai (fc.2.2 == 9)
 (ai (fc.1 == 0)
 (ai (fc.2.1 == 0)
 ((qF).bind λ vF =>
 some vF)
 (some false))
 (some false))
 (some false)) : Option Bool)).bind (λ (Vr : Bool) =>
 some Vr))
 (((((l5 fc.1 (-1) (i64 ((x0.au.length : Int) - 1))).bind λ adv =>
 ai (!adv)
 (some true)
 (ai (!((decide (fc.1 < 0)) == (fc.2.1 == vC.1)))
 (some true)
 (some (decide (fc.2.1 > vC.1))))) : Option Bool)).bind (λ (Vs : Bool) =>
 ai Vs
 (some false)
 ((Dd (i64 x1) (x0.au.length : Int)).bind λ UE =>
 (GU x0 UE).bind λ Bu =>
 (((ai (!Bu.2)
 (some true)
 (ai (decide (Bu.1 < fc.2.1))
 (some true)
 (ai (Bu.1 == fc.2.1)
 (ai (decide (fc.1 ≥ 0))
 (some (decide (UE < fc.1)))
 (some false))
 (some false)))) : Option Bool)).bind (λ (Vt : Bool) =>
 ai Vt
 (some false)
 ((((ai (decide (fc.1 ≥ 0))
 ((GU x0 fc.1).bind λ DY =>
 some (DY.1, DY.2))
 (some (Bu.1, Bu.2))) : Option (Int × Bool))).bind (λ (qO : (Int × Bool)) =>
 ai qO.2
 (ai (decide (fc.1 < 0))
 ((qF).bind λ Bv =>
 some Bv)
 (ai (qO.1 == fc.2.1)
 ((qF).bind λ HZ =>
 some HZ)
 (some false)))
 (some false))))))))))
end Go.Proofs.YtabamagholjdcaaGreatDoor
