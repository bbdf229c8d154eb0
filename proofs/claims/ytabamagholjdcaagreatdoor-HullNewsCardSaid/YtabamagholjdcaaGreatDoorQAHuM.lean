/- What the functions compute. Conditions: none. -/
import Derived.Test.YtabamagholjdcaaGreatDoorQAHuF
namespace Go.Proofs.YtabamagholjdcaaGreatDoor
open Go.Lg Go.Proofs
set_option maxRecDepth 100000
noncomputable def oU (x0 : aq) (x1 : bu) (x2 : (List Bool)) : Option Int :=
 (bt (O := Int) (λ (ey : (Int × Int)) =>
 ah (decide (ey.2 < (x0.az.length : Int)))
 ((idx x0.az ey.2).bind λ nQ =>
 (idx x2 ey.2).bind λ j6 =>
 ah (!j6)
 ((idx x1.weights ey.2).bind λ iY =>
 some (.inl (i64 (ey.1 + (i64 (nQ.dz * iY))), i64 (ey.2 + 1))))
 (some (.inl (ey.1, i64 (ey.2 + 1)))))
 (some (.inr ey.1))) (x1.fB, 0)).bind (λ (qV : Int) =>
 some qV)
noncomputable def yx (x0 : cW) (x1 : Int) : Option (List Bool × Int) :=
 (bt (O := (List Bool)) (λ (oK : (Int × (List Bool))) =>
 ah (decide (oK.1 < (x0.book.az.length : Int)))
 ((tU .i64 x1 oK.1).bind λ js =>
 (wL .and .i64 js 1).bind λ eI =>
 (idx oK.2 oK.1).bind λ _ =>
 some (.inl (i64 (oK.1 + 1), oK.2.set oK.1.toNat (eI == 1))))
 (some (.inr oK.2))) (0, [false, false, false, false, false])).bind (λ (vk : (List Bool)) =>
 (bt (O := Int) (λ (iG : (Int × Int)) =>
 ah (decide (iG.2 < (x0.dR.length : Int)))
 ((idx x0.dR iG.2).bind λ dX =>
 (oU x0.book dX vk).bind λ iI =>
 some (.inl (jK iG.1 [iI, i64 (0 - iI)], i64 (iG.2 + 1))))
 (some (.inr iG.1))) (0, 0)).bind (λ (s7 : Int) =>
 some (vk, s7)))
noncomputable def v8 (x0 : cW) : Option fK :=
 (xZ .i64 1 (x0.book.az.length : Int)).bind λ many =>
 ((List.range many.toNat).mapM (λ (i : Nat) => yx x0 (i : Int))).bind λ l =>
 if x0.nL = [] ∧ (l.map (·.1)).Nodup ∧ (∀ p ∈ l, p.1.length = 5) ∧ 0 ≤ many ∧ many ≤ 1048576 then some l else none
def y6 {B : Base} {main : Bool} (ag : Jd Tryz.prog B main) : Prop := ∀ {R : aI} {H : au} (x0 : cW) {aC aD aH ie jq : Value} {Hs : au}, aj bm 5 R aC x0.book.az → aj (CI .i64) 1 R aD x0.book.Out → aj bh 2 R aH x0.book.aO → aj fL 6 R ie x0.dR → lT jq x0.nL Hs → ∀ {r : fK}, v8 x0 = some r →
 aJ ag 91 #[.agg #[iv x0.book.aE, iv x0.book.aa.an, iv x0.book.aa.ax, aC, aD, aH, ie, jq]] R (Hs ++ H) λ v R' H' => ∃ cH, (aN R R' ∧ m5 R' jq r ∧ v = .tuple #[] ∧ cH = []) ∧ H' = cH ++ H
abbrev vp (r : List Bool × Int) : Value := .agg (List.toArray ([] ++ (r.1.map Value.bool ++ [iv r.2])))
noncomputable def AO (x0 : aq) : Option Bool :=
 (((ah (decide ((x0.az.length : Int) > 20))
 (some true)
 (ah (decide ((x0.Out.length : Int) > 20))
 (some true)
 (some (decide ((x0.aO.length : Int) > 20))))) : Option Bool)).bind (λ (Df : Bool) =>
 ah Df
 (some true)
 ((bt (O := (Unit ⊕ Bool)) (λ (ia : Int) =>
 ah (decide (ia < (x0.az.length : Int)))
 ((idx x0.az ia).bind λ jx =>
 ah (decide ((jx.Name.size : Int) > 100))
 (some (.inr (.inr true)))
 ((idx x0.az ia).bind λ nY =>
 ah (decide ((nY.On.length : Int) > 20))
 (some (.inr (.inr true)))
 (some (.inl (i64 (ia + 1))))))
 (some (.inr (.inl ())))) 0).bind (Sum.elim (λ (_ : Unit) =>
 some false)
  (λ q => some q))))
noncomputable def u6 (x0 : Reach) (x1 : Int) (x2 : Int) (x3 : Int) : Option Bool :=
 ah (decide (x1 ≤ x0.an))
 (ah (decide (x0.an ≤ x0.ax))
 (ah (decide (x0.ax ≤ x2))
 (some (decide (i64 (x0.ax - x0.an) < x3)))
 (some false))
 (some false))
 (some false)
noncomputable def kH (x0 : Int) (x1 : Int) (x2 : Int) : Option Bool :=
 ah (decide (x1 ≤ x0))
 (some (decide (x0 ≤ x2)))
 (some false)
noncomputable def AP (x0 : aq) : Option Int :=
 (kH x0.aE 0 9999).bind λ fR =>
 ah (!fR)
 (some 1)
 ((u6 x0.aa (-999) 999 3).bind λ oP =>
 ah (!oP)
 (some 1)
 (some 0))
noncomputable def u7 (x0 : (List Int)) (x1 : Int) : Option Int :=
 (bt (O := (Unit ⊕ Int)) (λ (vq : Int) =>
 ah (decide (vq < (x0.length : Int)))
 ((idx x0 vq).bind λ iJ =>
 (kH iJ 0 (i64 (x1 - 1))).bind λ nQ =>
 ah (!nQ)
 (some (.inr (.inr 6)))
 (ah (decide (vq > 0))
 ((idx x0 (i64 (vq - 1))).bind λ jw =>
 ah (decide (iJ ≤ jw))
 (some (.inr (.inr 7)))
 (some (.inl (i64 (vq + 1)))))
 (some (.inl (i64 (vq + 1))))))
 (some (.inr (.inl ())))) 0).bind (Sum.elim (λ (_ : Unit) =>
 some 0)
  (λ q => some q))
noncomputable def AT (x0 : ByteArray) : Option Bool :=
 (bt (O := (Unit ⊕ Bool)) (λ (ey : Int) =>
 ah (decide (ey < ((eX x0).length : Int)))
 ((idx (eX x0) ey).bind λ j6 =>
 (kH (i64 j6) 97 122).bind λ jw =>
 ah (!jw)
 (ah (ey == 0)
 (some (.inr (.inr false)))
 ((kH (i64 j6) 48 57).bind λ yT =>
 ah (!yT)
 (some (.inr (.inr false)))
 (some (.inl (i64 (ey + 1))))))
 (some (.inl (i64 (ey + 1)))))
 (some (.inr (.inl ())))) 0).bind (Sum.elim (λ (_ : Unit) =>
 (kH (x0.size : Int) 1 12).bind λ tJ =>
 some tJ)
  (λ q => some q))
noncomputable def C2 (x0 : (List cG)) (x1 : (cG → Option Bool)) : Option Int :=
 (bt (O := (Unit ⊕ Int)) (λ (dV : Int) =>
 ah (decide (dV < (x0.length : Int)))
 ((idx x0 dV).bind λ fA =>
 (x1 fA).bind λ dX =>
 ah dX
 (some (.inr (.inr dV)))
 (some (.inl (i64 (dV + 1)))))
 (some (.inr (.inl ())))) 0).bind (Sum.elim (λ (_ : Unit) =>
 some (-1))
  (λ q => some q))
noncomputable def AU (x0 : (List cG)) (x1 : (cG → Option Bool)) : Option Bool :=
 (C2 x0 x1).bind λ cA =>
 some (decide (cA ≥ 0))
noncomputable def AV (x0 : cG) (x1 : cG) : Option Bool :=
 some (x0.Name.toList == x1.Name.toList)
noncomputable def AQ (x0 : aq) : Option Int :=
 (kH (x0.az.length : Int) 1 5).bind λ Wt =>
 ah (!Wt)
 (some 2)
 ((bt (O := (Unit ⊕ Int)) (λ (qX : Int) =>
 ah (decide (qX < (x0.az.length : Int)))
 ((idx x0.az qX).bind λ lH =>
 (AT lH.Name).bind λ adC =>
 ah (!adC)
 (some (.inr (.inr 4)))
 ((mX x0.az 0 qX).bind λ Vk =>
 (AU Vk (λ y => AV y lH)).bind λ adE =>
 ah adE
 (some (.inr (.inr 5)))
 (((((kH lH.dz (-9) 9).bind λ adF =>
 ah (!adF)
 (some true)
 ((u6 lH.Weight 1 99 3).bind λ adG =>
 some (!adG))) : Option Bool)).bind (λ (LG : Bool) =>
 ah LG
 (some (.inr (.inr 1)))
 ((u7 lH.On qX).bind λ M3 =>
 ah (M3 != 0)
 (some (.inr (.inr M3)))
 (some (.inl (i64 (qX + 1)))))))))
 (some (.inr (.inl ())))) 0).bind (Sum.elim (λ (_ : Unit) =>
 some 0)
  (λ q => some q)))
noncomputable def iD (x0 : (List Bool)) (x1 : (List Int)) : Option (List Bool) :=
 (bt (O := (List Bool)) (λ (iG : (Int × (List Bool))) =>
 ah (decide (iG.1 < (x1.length : Int)))
 ((idx x1 iG.1).bind λ Bq =>
 (idx iG.2 Bq).bind λ _ =>
 some (.inl (i64 (iG.1 + 1), iG.2.set Bq.toNat true)))
 (some (.inr iG.2))) (0, x0)).bind (λ (s7 : (List Bool)) =>
 some s7)
noncomputable def sX (x0 : aq) (x1 : Int) : Option Bool :=
 (kH x1 0 (i64 ((x0.az.length : Int) - 1))).bind λ ig =>
 some ig
noncomputable def CY (x0 : (List Int)) (x1 : (Int → Option Bool)) : Option Int :=
 (bt (O := (Unit ⊕ Int)) (λ (dV : Int) =>
 ah (decide (dV < (x0.length : Int)))
 ((idx x0 dV).bind λ fA =>
 (x1 fA).bind λ dX =>
 ah dX
 (some (.inr (.inr dV)))
 (some (.inl (i64 (dV + 1)))))
 (some (.inr (.inl ())))) 0).bind (Sum.elim (λ (_ : Unit) =>
 some (-1))
  (λ q => some q))
noncomputable def xJ (x0 : (List Int)) (x1 : (Int → Option Bool)) : Option Bool :=
 (CY x0 x1).bind λ cA =>
 some (decide (cA ≥ 0))
noncomputable def C1 (x0 : (List Int)) (x1 : Int) : Option Int :=
 (bt (O := (Unit ⊕ Int)) (λ (dG : Int) =>
 ah (decide (dG < (x0.length : Int)))
 ((idx x0 dG).bind λ oQ =>
 ah (x1 == oQ)
 (some (.inr (.inr dG)))
 (some (.inl (i64 (dG + 1)))))
 (some (.inr (.inl ())))) 0).bind (Sum.elim (λ (_ : Unit) =>
 some (-1))
  (λ q => some q))
noncomputable def AN (x0 : (List Int)) (x1 : Int) : Option Bool :=
 (C1 x0 x1).bind λ cA =>
 some (decide (cA ≥ 0))
noncomputable def AK (x0 : aq) (x1 : Int) : Option (List Int) :=
 (bt (O := (List Int)) (λ (ey : ((List Int) × Int)) =>
 ah (decide (ey.2 < (x0.az.length : Int)))
 ((idx x0.az ey.2).bind λ j6 =>
 (AN j6.On x1).bind λ iY =>
 ah iY
 ((cy ey.1 [ey.2]).bind λ jx =>
 some (.inl (jx, i64 (ey.2 + 1))))
 (some (.inl (ey.1, i64 (ey.2 + 1)))))
 (some (.inr ey.1))) ([], 0)).bind (λ (qV : (List Int)) =>
 some qV)
noncomputable def AL (x0 : Int) (x1 : (List Bool)) : Option Bool :=
 (idx x1 x0).bind λ cA =>
 some (!cA)
noncomputable def u9 (x0 : aq) (x1 : (List Bool)) (x2 : Int) : Option Bool :=
 (idx x1 x2).bind λ oP =>
 ah (!oP)
 ((AK x0 x2).bind λ iW =>
 (xJ iW (λ y => AL y x1)).bind λ eH =>
 some (!eH))
 (some false)
noncomputable def vf (x0 : aq) (x1 : (List Bool)) (x2 : (List Int)) : Option ((List Bool) × Int) :=
 (bt (O := ((List Bool) ⊕ ((List Bool) × Int))) (λ (fI : (Int × (List Bool))) =>
 ah (decide (fI.1 < (x2.length : Int)))
 ((idx x2 fI.1).bind λ gQ =>
 (sX x0 gQ).bind λ yS =>
 ah (!yS)
 (some (.inr (.inr (fI.2, 6))))
 ((idx fI.2 gQ).bind λ MU =>
 ah MU
 (some (.inr (.inr (fI.2, 5))))
 ((u9 x0 fI.2 gQ).bind λ MV =>
 ah (!MV)
 (some (.inr (.inr (fI.2, 7))))
 ((iD fI.2 [gQ]).bind λ MW =>
 some (.inl (i64 (fI.1 + 1), MW))))))
 (some (.inr (.inl fI.2)))) (0, x1)).bind (Sum.elim (λ (tM : (List Bool)) =>
 some (tM, 0))
  (λ q => some q))
noncomputable def AR (x0 : aq) : Option Int :=
 (vf x0 [false, false, false, false, false] x0.Out).bind λ oO =>
 some oO.2
noncomputable def AS (x0 : aq) : Option Int :=
 ah (decide ((x0.aO.length : Int) > 4))
 (some 2)
 ((bt (O := (Unit ⊕ Int)) (λ (xX : Int) =>
 ah (decide (xX < (x0.aO.length : Int)))
 ((idx x0.aO xX).bind λ yf =>
 (kH yf.dr 0 (x0.Out.length : Int)).bind λ rR =>
 ah (!rR)
 (some (.inr (.inr 6)))
 (ah (yf.dQ == 0)
 (ah (yf.dQ == 0)
 (some (.inl (i64 (xX + 1))))
 (some (.inr (.inr 1))))
 (ah (yf.dQ == 1)
 (ah (yf.dQ == 1)
 (some (.inl (i64 (xX + 1))))
 (some (.inr (.inr 1))))
 (ah (yf.dQ == 2)
 (some (.inl (i64 (xX + 1))))
 (some (.inr (.inr 1)))))))
 (some (.inr (.inl ())))) 0).bind (Sum.elim (λ (_ : Unit) =>
 some 0)
  (λ q => some q)))
noncomputable def lA (x0 : aq) : Option Int :=
 (AP (⟨x0.aE, ⟨x0.aa.an, x0.aa.ax⟩, x0.az, x0.Out, x0.aO⟩ : aq)).bind λ nO =>
 ah (nO != 0)
 (some nO)
 ((AQ (⟨x0.aE, ⟨x0.aa.an, x0.aa.ax⟩, x0.az, x0.Out, x0.aO⟩ : aq)).bind λ eI =>
 ah (eI != 0)
 (some eI)
 ((AR (⟨x0.aE, ⟨x0.aa.an, x0.aa.ax⟩, x0.az, x0.Out, x0.aO⟩ : aq)).bind λ jA =>
 ah (jA != 0)
 (some jA)
 ((AS (⟨x0.aE, ⟨x0.aa.an, x0.aa.ax⟩, x0.az, x0.Out, x0.aO⟩ : aq)).bind λ fc =>
 ah (fc != 0)
 (some fc)
 (some 0))))
noncomputable def vQ (x0 : aq) (x1 : Int) : Option Bool :=
 some (decide (jK x1 [i64 (0 - x1)] > x0.aE))
noncomputable def D3 (x0 : (List bW)) (x1 : (bW → Option Bool)) : Option Int :=
 (bt (O := (Unit ⊕ Int)) (λ (dV : Int) =>
 ah (decide (dV < (x0.length : Int)))
 ((idx x0 dV).bind λ fA =>
 (x1 fA).bind λ dX =>
 ah dX
 (some (.inr (.inr dV)))
 (some (.inl (i64 (dV + 1)))))
 (some (.inr (.inl ())))) 0).bind (Sum.elim (λ (_ : Unit) =>
 some (-1))
  (λ q => some q))
noncomputable def BC (x0 : (List bW)) (x1 : (bW → Option Bool)) : Option Bool :=
 (D3 x0 x1).bind λ cA =>
 some (decide (cA ≥ 0))
noncomputable def BD (x0 : Int) : Option Int :=
 ah (decide (x0 > 0))
 (some 2)
 (ah (decide (x0 < 0))
 (some 1)
 (some 0))
noncomputable def yz (x0 : bW) (x1 : Int) (x2 : Int) : Option Bool :=
 ah (x0.dr == x1)
 ((BD x2).bind λ fQ =>
 some (x0.dQ != fQ))
 (some false)
noncomputable def yw (x0 : aq) (x1 : bu) : Option Bool :=
 (bt (O := (Unit ⊕ Bool)) (λ (q9 : Int) =>
 ah (decide (q9 < i64 ((x0.Out.length : Int) + 1)))
 ((mX x0.Out 0 q9).bind λ oS =>
 (iD [false, false, false, false, false] oS).bind λ kV =>
 (oU x0 x1 kV).bind λ iL =>
 (vQ x0 iL).bind λ vK =>
 ah vK
 (some (.inr (.inr false)))
 ((BC x0.aO (λ y => yz y q9 iL)).bind λ kM =>
 ah kM
 (some (.inr (.inr false)))
 (some (.inl (i64 (q9 + 1))))))
 (some (.inr (.inl ())))) 0).bind (Sum.elim (λ (_ : Unit) =>
 some true)
  (λ q => some q))
noncomputable def sY {S : Type} (ys : bu → S → Option (S × Bool)) : Nat → bu → Int → aq → S → Option (S × Bool)
 | 0, _, _, _, _ => none
 | k + 1, x0, x1, x2, s0 =>
  ah (x1 == (x2.az.length : Int))
  (((((yw x2 x0).bind λ eH =>
  ah (!eH)
  (some (s0, true))
  ((ys x0 s0).bind λ fJ =>
  some (fJ.1, fJ.2))) : Option (S × Bool))).bind (λ (lC : (S × Bool)) =>
  some (lC.1, lC.2)))
  ((idx x2.az x1).bind λ lI =>
  (bt (O := (S ⊕ (S × Bool))) (λ (dG : (S × Int × (List Int))) =>
  ah (decide (dG.2.1 ≤ lI.Weight.ax))
  ((idx dG.2.2 x1).bind λ _ =>
  (sY ys k (⟨x0.fB, dG.2.2.set x1.toNat dG.2.1⟩ : bu) (i64 (x1 + 1)) x2 dG.1).bind λ ju =>
  ah (!ju.2)
  (some (.inr (.inr (ju.1, false))))
  (some (.inl (ju.1, i64 (dG.2.1 + 1), dG.2.2.set x1.toNat dG.2.1))))
  (some (.inr (.inl dG.1)))) (s0, lI.Weight.an, x0.weights)).bind (Sum.elim (λ (jm : S) =>
  some (jm, true))
   (λ q => some q)))
noncomputable def pK {S : Type} (ys : bu → S → Option (S × Bool)) (x0 : aq) (s0 : S) : Option S :=
 (bt (O := (S ⊕ S)) (λ (kJ : (S × Int)) =>
  ah (decide (kJ.2 ≤ x0.aa.ax))
  ((sY ys 9 (⟨kJ.2, [0, 0, 0, 0, 0]⟩ : bu) 0 x0 kJ.1).bind λ gP =>
  ah (!gP.2)
  (some (.inr (.inr gP.1)))
  (some (.inl (gP.1, i64 (kJ.2 + 1)))))
  (some (.inr (.inl kJ.1)))) (s0, x0.aa.an)).bind (Sum.elim (λ (Dd : S) =>
  some Dd)
   (λ q => some q))
noncomputable def Eg (x1 : (bu → ((List bu) ⊕ Empty) → Option (((List bu) ⊕ Empty) × Bool)) → ((List bu) ⊕ Empty) → Option ((List bu) ⊕ Empty)) : Option (List bu) :=
 (x1 (c9 (λ (yl : bu) (iF : (List bu)) => (((cy iF [yl]).bind λ Iq =>
 some (.inl Iq)) : Option ((List bu) ⊕ Empty)))) (.inl [])).bind (Sum.elim (λ (iF : (List bu)) =>
 some iF)
  (λ (o : Empty) => o.elim))
noncomputable def CR (x0 : (bu → ((List bu) ⊕ Empty) → Option (((List bu) ⊕ Empty) × Bool)) → ((List bu) ⊕ Empty) → Option ((List bu) ⊕ Empty)) : Option (List bu) :=
 (Eg x0).bind λ cA =>
 some cA
noncomputable def nC (x0 : aq) (x1 : (aq → Option Int)) : Option (cW × Int) :=
 (lA x0).bind λ cJ =>
 ah (cJ != 0)
 (some ((⟨⟨0, ⟨0, 0⟩, [], [], []⟩, [], kT⟩ : cW), cJ))
 ((x1 x0).bind λ fC =>
 ah (fC != 0)
 (some ((⟨⟨0, ⟨0, 0⟩, [], [], []⟩, [], kT⟩ : cW), fC))
 ((CR (λ y s => pK y x0 s)).bind λ nP =>
 ah ((nP.length : Int) == 0)
 (some ((⟨⟨0, ⟨0, 0⟩, [], [], []⟩, [], kT⟩ : cW), 9))
 (some ((⟨⟨x0.aE, ⟨x0.aa.an, x0.aa.ax⟩, x0.az, x0.Out, x0.aO⟩, nP, []⟩ : cW), 0))))
noncomputable def mY (_ : aq) : Option Int :=
 some 0
noncomputable def v9 (x0 : aq) (x1 : (List Bool)) : Option (List Int) :=
 (bt (O := (List Int)) (λ (nF : ((List Int) × Int)) =>
 ah (decide (nF.2 < (x0.az.length : Int)))
 ((u9 x0 x1 nF.2).bind λ kP =>
 ah kP
 ((cy nF.1 [nF.2]).bind λ iK =>
 some (.inl (iK, i64 (nF.2 + 1))))
 (some (.inl (nF.1, i64 (nF.2 + 1)))))
 (some (.inr nF.1))) ([], 0)).bind (λ (LP : (List Int)) =>
 some LP)
noncomputable def qO {S : Type} (ys : (List Bool) → S → Option (S × Bool)) (x1 : aq) (x2 : (List Int)) (s0 : S) : Option S :=
 (iD [false, false, false, false, false] x1.Out).bind λ MX =>
  (bt (O := (S ⊕ S)) (λ (jn : (S × Int × (List Bool))) =>
  ah (decide (jn.2.1 < (x2.length : Int)))
  ((idx x2 jn.2.1).bind λ fC =>
  (iD jn.2.2 [fC]).bind λ fc =>
  (ys fc jn.1).bind λ eO =>
  ah (!eO.2)
  (some (.inr (.inr eO.1)))
  (some (.inl (eO.1, i64 (jn.2.1 + 1), fc))))
  (some (.inr (.inl jn.1)))) (s0, 0, MX)).bind (Sum.elim (λ (Db : S) =>
  some Db)
   (λ q => some q))
noncomputable def xF (x0 : aq) (x1 : (List Int)) : Option (aq × (List Int)) :=
 some (x0, x1)
noncomputable def xO (x0 : cW) (x1 : (List Int)) : Option Int :=
 (xF x0.book x1).bind λ ei =>
 (qO (c9 (λ (DN : (List Bool)) (qZ : Int) => ((some (.inl (jK qZ [lM x0.nL DN]))) : Option (Int ⊕ Empty)))) ei.1 ei.2 (.inl 0)).bind (Sum.elim (λ (qZ : Int) =>
 some qZ)
  (λ (o : Empty) => o.elim))
noncomputable def yA (x0 : aq) : Option ((List Int) × Int) :=
 (nC x0 (λ y => mY y)).bind λ di =>
 ah (di.2 != 0)
 (some ([], di.2))
 ((v8 di.1).bind λ jv =>
 (iD [false, false, false, false, false] x0.Out).bind λ iK =>
 (v9 di.1.book iK).bind λ DV =>
 (bt (O := (List Int)) (λ (ri : ((List Int) × Int)) =>
 ah (decide (ri.2 < (DV.length : Int)))
 ((idx DV ri.2).bind λ lR =>
 (xO (⟨⟨di.1.book.aE, ⟨di.1.book.aa.an, di.1.book.aa.ax⟩, di.1.book.az, di.1.book.Out, di.1.book.aO⟩, di.1.dR, jv⟩ : cW) [lR]).bind λ kV =>
 ah (decide (kV ≤ x0.aE))
 ((cy ri.1 [lR]).bind λ vK =>
 some (.inl (vK, i64 (ri.2 + 1))))
 (some (.inl (ri.1, i64 (ri.2 + 1)))))
 (some (.inr ri.1))) ([], 0)).bind (λ (LS : (List Int)) =>
 some (LS, 0)))
noncomputable def BG (x0 : aq) (x1 : (List Int)) : Option Int :=
 (iD [false, false, false, false, false] x0.Out).bind λ iW =>
 (vf x0 iW x1).bind λ eH =>
 ah (eH.2 != 0)
 (some eH.2)
 (ah (i64 ((x0.Out.length : Int) + (x1.length : Int)) != (x0.az.length : Int))
 (some 2)
 (some 0))
noncomputable def By (x0 : cW) (x1 : (bu → Option Bool)) : Option Int :=
 (bt (O := Int) (λ (cu : (Int × Int)) =>
 ah (decide (cu.2 < (x0.dR.length : Int)))
 ((idx x0.dR cu.2).bind λ rG =>
 (x1 rG).bind λ iX =>
 ah iX
 (some (.inl (i64 (cu.1 + 1), i64 (cu.2 + 1))))
 (some (.inl (cu.1, i64 (cu.2 + 1)))))
 (some (.inr cu.1))) (0, 0)).bind (λ (eU : Int) =>
 ah (eU == 0)
 (some 2)
 (ah (eU == (x0.dR.length : Int))
 (some 1)
 (some 0)))
noncomputable def Bz (x0 : bu) (x1 : cW) (x2 : (List Int)) : Option Bool :=
 (xF x1.book x2).bind λ lI =>
 (qO (c9 (λ (Vp : (List Bool)) (_ : Unit) => (((oU x1.book x0 Vp).bind λ jA =>
 (vQ x1.book jA).bind λ fC =>
 ah fC
 (some (.inr ()))
 (some (.inl ()))) : Option (Unit ⊕ Unit)))) lI.1 lI.2 (.inl ())).bind (Sum.elim (λ (_ : Unit) =>
 some true)
  (λ (_ : Unit) =>
 some false))
noncomputable def tQ (x0 : aq) (x1 : (List Int)) : Option (Int × Int) :=
 (nC x0 (λ y => BG y x1)).bind λ ei =>
 ah (ei.2 != 0)
 (some (0, ei.2))
 ((By ei.1 (λ y => Bz y ei.1 x1)).bind λ dW =>
 some (dW, 0))
noncomputable def rH (x0 : (List Int)) : Option (List Int) :=
 (cy [] x0).bind λ cA =>
 some cA
noncomputable def yy {S : Type} (ys : (List Int) → S → Option (S × Bool)) : Nat → (List Int) → (List Bool) → aq → S → Option (S × Bool)
 | 0, _, _, _, _ => none
 | k + 1, x0, x1, x2, s0 =>
  (v9 x2 x1).bind λ cA =>
  ah ((cA.length : Int) == 0)
  ((ys x0 s0).bind λ fR =>
  some (fR.1, fR.2))
  ((bt (O := (S ⊕ (S × Bool))) (λ (lF : (S × Int)) =>
  ah (decide (lF.2 < (cA.length : Int)))
  ((idx cA lF.2).bind λ en =>
  (rH x0).bind λ iI =>
  (cy iI [en]).bind λ eY =>
  (iD x1 [en]).bind λ di =>
  (yy ys k eY di x2 lF.1).bind λ oR =>
  ah (!oR.2)
  (some (.inr (.inr (oR.1, false))))
  (some (.inl (oR.1, i64 (lF.2 + 1)))))
  (some (.inr (.inl lF.1)))) (s0, 0)).bind (Sum.elim (λ (lC : S) =>
  some (lC, true))
   (λ q => some q)))
noncomputable def rL {S : Type} (ys : (List Int) → S → Option (S × Bool)) (x0 : aq) (s0 : S) : Option S :=
 (iD [false, false, false, false, false] x0.Out).bind λ fR =>
  (yy ys 9 [] fR x0 s0).bind λ jO =>
  some jO.1
noncomputable def tR (x0 : aq) : Option (Int × Int) :=
 (nC x0 (λ y => mY y)).bind λ ek =>
 ah (ek.2 != 0)
 (some (0, ek.2))
 ((v8 ek.1).bind λ ju =>
 (rL (c9 (λ (NR : (List Int)) (gD : Int) => (((xF ek.1.book NR).bind λ iK =>
 (qO (c9 (λ (Vq : (List Bool)) (_ : Unit) => ((ah (decide (lM ju Vq > x0.aE))
 (some (.inr ()))
 (some (.inl ()))) : Option (Unit ⊕ Unit)))) iK.1 iK.2 (.inl ())).bind (Sum.elim (λ (_ : Unit) =>
 some (.inl (i64 (gD + 1))))
  (λ (_ : Unit) =>
 some (.inl gD)))) : Option (Int ⊕ Empty)))) ek.1.book (.inl 0)).bind (Sum.elim (λ (gD : Int) =>
 some (gD, 0))
  (λ (o : Empty) => o.elim)))
noncomputable def yB (x0 : aq) : Option ((List Int) × Bool × Int) :=
 (nC x0 (λ y => mY y)).bind λ cU =>
 ah (cU.2 != 0)
 (some ([], false, cU.2))
 ((v8 cU.1).bind λ fc =>
 (rL (c9 (λ (Nb : (List Int)) (_ : Unit) => (((xO (⟨⟨cU.1.book.aE, ⟨cU.1.book.aa.an, cU.1.book.aa.ax⟩, cU.1.book.az, cU.1.book.Out, cU.1.book.aO⟩, cU.1.dR, fc⟩ : cW) Nb).bind λ ek =>
 ah (decide (ek ≤ x0.aE))
 (some (.inr Nb))
 (some (.inl ()))) : Option (Unit ⊕ (List Int))))) cU.1.book (.inl ())).bind (Sum.elim (λ (_ : Unit) =>
 some ([], false, 0))
  (λ (pO : (List Int)) =>
 some (pO, true, 0))))
noncomputable def D2 (x0 : an) (x1 : (List Int)) (x2 : Int) : Option an :=
 (((ah (!x0.some_)
 (some true)
 (some (decide (x2 < x0.number)))) : Option Bool)).bind (λ (LH : Bool) =>
 ah LH
 (some (⟨x1, x2, true⟩ : an))
 (some x0))
noncomputable def yC (x0 : aq) : Option ((List Int) × Int × Int) :=
 (nC x0 (λ y => mY y)).bind λ cJ =>
 ah (cJ.2 != 0)
 (some ([], 0, cJ.2))
 ((v8 cJ.1).bind λ jA =>
 (rL (c9 (λ (D7 : (List Int)) (eW : ((List Int) × Int × Bool)) => (((xO (⟨⟨cJ.1.book.aE, ⟨cJ.1.book.aa.an, cJ.1.book.aa.ax⟩, cJ.1.book.az, cJ.1.book.Out, cJ.1.book.aO⟩, cJ.1.dR, jA⟩ : cW) D7).bind λ ek =>
 (D2 (⟨eW.1, eW.2.1, eW.2.2⟩ : an) D7 ek).bind λ ym =>
 some (.inl (ym.NM, ym.number, ym.some_))) : Option (((List Int) × Int × Bool) ⊕ Empty)))) cJ.1.book (.inl ([], 0, false))).bind (Sum.elim (λ (eW : ((List Int) × Int × Bool)) =>
 some (eW.1, eW.2.1, 0))
  (λ (o : Empty) => o.elim)))
noncomputable def xH (x0 : aq) : Option Bool :=
 (pK (c9 (λ (_ : bu) (_ : Unit) => ((some (.inr ())) : Option (Unit ⊕ Unit)))) x0 (.inl ())).bind (Sum.elim (λ (_ : Unit) =>
 some false)
  (λ (_ : Unit) =>
 some true))
noncomputable def xK (x0 : Int) : Option Bool :=
 some (x0 != x0)
noncomputable def Hh (x0 : Int) (x1 : Int) : Option Int :=
 (xK x0).bind λ cJ =>
 (xK x1).bind λ js =>
 ah cJ
 (ah js
 (some 0)
 (some (-1)))
 (ah js
 (some 1)
 (ah (decide (x0 < x1))
 (some (-1))
 (ah (decide (x0 > x1))
 (some 1)
 (some 0))))
noncomputable def He (x0 : (List Int)) (x1 : (List Int)) : Option Int :=
 (bt (O := (Unit ⊕ Int)) (λ (xW : Int) =>
 ah (decide (xW < (x0.length : Int)))
 ((idx x0 xW).bind λ nR =>
 ah (decide (xW ≥ (x1.length : Int)))
 (some (.inr (.inr 1)))
 ((idx x1 xW).bind λ nY =>
 (Hh nR nY).bind λ vM =>
 ah (vM != 0)
 (some (.inr (.inr vM)))
 (some (.inl (i64 (xW + 1))))))
 (some (.inr (.inl ())))) 0).bind (Sum.elim (λ (_ : Unit) =>
 ah (decide ((x0.length : Int) < (x1.length : Int)))
 (some (-1))
 (some 0))
  (λ q => some q))
noncomputable def BA (x0 : (List Int)) (x1 : (List Int)) : Option Bool :=
 ah (decide ((x0.length : Int) < (x1.length : Int)))
 (some true)
 (ah ((x0.length : Int) == (x1.length : Int))
 ((He x0 x1).bind λ fQ =>
 some (decide (fQ < 0)))
 (some false))
noncomputable def tS (x0 : aq) : Option ((List Int) × Int) :=
 (lA x0).bind λ MY =>
 ah (MY != 0)
 (some ([], MY))
 ((xH x0).bind λ Im =>
 ah Im
 (some ([], 0))
 ((xZ .i64 1 (x0.aO.length : Int)).bind λ vL =>
 (bt (O := (List (List Int))) (λ (dS : ((List (List Int)) × Int)) =>
 ah (decide (dS.2 < vL))
 ((bt (O := ((List Int) × (List bW))) (λ (iT : ((List Int) × Int × (List bW))) =>
 ah (decide (iT.2.1 < (x0.aO.length : Int)))
 ((idx x0.aO iT.2.1).bind λ mR =>
 (tU .i64 dS.2 iT.2.1).bind λ adI =>
 (wL .and .i64 adI 1).bind λ Vl =>
 ah (Vl == 1)
 ((cy iT.1 [iT.2.1]).bind λ Vm =>
 (cy iT.2.2 [mR]).bind λ Vn =>
 some (.inl (Vm, i64 (iT.2.1 + 1), Vn)))
 (some (.inl (iT.1, i64 (iT.2.1 + 1), iT.2.2))))
 (some (.inr (iT.1, iT.2.2)))) ([], 0, [])).bind (λ (xR : ((List Int) × (List bW))) =>
 (xH (⟨x0.aE, ⟨x0.aa.an, x0.aa.ax⟩, x0.az, x0.Out, xR.2⟩ : aq)).bind λ DS =>
 ah (!DS)
 ((cy dS.1 [xR.1]).bind λ Bp =>
 some (.inl (Bp, i64 (dS.2 + 1))))
 (some (.inl (dS.1, i64 (dS.2 + 1))))))
 (some (.inr dS.1))) ([], 0)).bind (λ (lB : (List (List Int))) =>
 (idx lB 0).bind λ DT =>
 (bt (O := (List Int)) (λ (pS : ((List Int) × Int)) =>
 ah (decide (pS.2 < (lB.length : Int)))
 ((idx lB pS.2).bind λ Na =>
 (BA Na pS.1).bind λ adL =>
 ah adL
 (some (.inl (Na, i64 (pS.2 + 1))))
 (some (.inl (pS.1, i64 (pS.2 + 1)))))
 (some (.inr pS.1))) (DT, 0)).bind (λ (HF : (List Int)) =>
 ah ((HF.length : Int) == 0)
 (some ([], 8))
 (some (HF, 0))))))
noncomputable def yD (x0 : aq) : Option (Int × Int × Int) :=
 (nC x0 (λ y => mY y)).bind λ dh =>
 ah (dh.2 != 0)
 (some (0, 0, dh.2))
 ((bt (O := (Int × Int)) (λ (cT : (Int × Int × (Int → Int → Int) × Int)) =>
 ah (decide (cT.2.2.2 < (x0.az.length : Int)))
 ((bt (O := ((Int → Int → Int) × Int)) (λ (dS : ((Int → Int → Int) × Int × Int)) =>
 ah (decide (dS.2.2 < (dh.1.dR.length : Int)))
 ((idx dh.1.dR dS.2.2).bind λ tE =>
 (idx tE.weights cT.2.2.2).bind λ ga =>
 some (.inl (wh dS.1 cT.2.2.2 ga (i64 ((dS.1 cT.2.2.2 ga) + 1)), jK dS.2.1 [(wh dS.1 cT.2.2.2 ga (i64 ((dS.1 cT.2.2.2 ga) + 1))) cT.2.2.2 ga], i64 (dS.2.2 + 1))))
 (some (.inr (dS.1, dS.2.1)))) (cT.2.2.1, 0, 0)).bind (λ (lB : ((Int → Int → Int) × Int)) =>
 ah (decide (lB.2 < cT.2.1))
 (some (.inl (cT.2.2.2, lB.2, lB.1, i64 (cT.2.2.2 + 1))))
 (some (.inl (cT.1, cT.2.1, lB.1, i64 (cT.2.2.2 + 1))))))
 (some (.inr (cT.1, cT.2.1)))) ((-1), (dh.1.dR.length : Int), (λ _ _ => 0), 0)).bind (λ (C8 : (Int × Int)) =>
 some (C8.1, C8.2, 0)))
noncomputable def yq (x0 : (List bW)) : Option (List bW) :=
 (cy [] x0).bind λ cA =>
 some cA
noncomputable def yu (x0 : (List cG)) : Option (List cG) :=
 (cy [] x0).bind λ cA =>
 some cA
noncomputable def yt (x0 : aq) : Option (aq × Int) :=
 (lA x0).bind λ iX =>
 ah (iX != 0)
 (some ((⟨0, ⟨0, 0⟩, [], [], []⟩ : aq), iX))
 ((xH (⟨x0.aE, ⟨x0.aa.an, x0.aa.ax⟩, x0.az, x0.Out, x0.aO⟩ : aq)).bind λ iJ =>
 ah (!iJ)
 (some ((⟨0, ⟨0, 0⟩, [], [], []⟩ : aq), 9))
 ((yu x0.az).bind λ jw =>
 (rH x0.Out).bind λ iY =>
 (yq x0.aO).bind λ nR =>
 (bt (O := (List cG)) (λ (nH : ((List cG) × Int)) =>
 ah (decide (nH.2 < (jw.length : Int)))
 ((idx nH.1 nH.2).bind λ oX =>
 (rH oX.On).bind λ DM =>
 (idx nH.1 nH.2).bind λ kM =>
 some (.inl (nH.1.set nH.2.toNat (⟨kM.Name, kM.dz, ⟨kM.Weight.an, kM.Weight.ax⟩, DM⟩ : cG), i64 (nH.2 + 1))))
 (some (.inr nH.1))) (jw, 0)).bind (λ (Bu : (List cG)) =>
 some ((⟨x0.aE, ⟨x0.aa.an, x0.aa.ax⟩, Bu, iY, nR⟩ : aq), 0))))
noncomputable def yE (x0 : aq) (x1 : bW) : Option (aq × Int) :=
 (lA x0).bind λ cJ =>
 ah (cJ != 0)
 (some ((⟨0, ⟨0, 0⟩, [], [], []⟩ : aq), cJ))
 ((yq x0.aO).bind λ gP =>
 (cy gP [x1]).bind λ fC =>
 (yt (⟨x0.aE, ⟨x0.aa.an, x0.aa.ax⟩, x0.az, x0.Out, fC⟩ : aq)).bind λ fc =>
 some (fc.1, fc.2))
noncomputable def yF (x0 : aq) (x1 : Int) (x2 : Reach) : Option (aq × Int) :=
 (lA x0).bind λ mS =>
 ah (mS != 0)
 (some ((⟨0, ⟨0, 0⟩, [], [], []⟩ : aq), mS))
 ((sX (⟨x0.aE, ⟨x0.aa.an, x0.aa.ax⟩, x0.az, x0.Out, x0.aO⟩ : aq) x1).bind λ fA =>
 ah (!fA)
 (some ((⟨0, ⟨0, 0⟩, [], [], []⟩ : aq), 6))
 ((u6 x2 1 99 99).bind λ DU =>
 ah (!DU)
 (some ((⟨0, ⟨0, 0⟩, [], [], []⟩ : aq), 1))
 ((idx x0.az x1).bind λ kP =>
 ah (decide (jK kP.Weight.an [x2.an] > s5 kP.Weight.ax [x2.ax]))
 (some ((⟨0, ⟨0, 0⟩, [], [], []⟩ : aq), 9))
 ((yu x0.az).bind λ nQ =>
 (idx nQ x1).bind λ gC =>
 (yt (⟨x0.aE, ⟨x0.aa.an, x0.aa.ax⟩, nQ.set x1.toNat (⟨gC.Name, gC.dz, ⟨jK kP.Weight.an [x2.an], s5 kP.Weight.ax [x2.ax]⟩, gC.On⟩ : cG), x0.Out, x0.aO⟩ : aq)).bind λ jw =>
 some (jw.1, jw.2)))))
noncomputable def vZ (x0 : aq) (x1 : Int) : Option (aq × Int) :=
 (lA x0).bind λ jA =>
 ah (jA != 0)
 (some ((⟨0, ⟨0, 0⟩, [], [], []⟩ : aq), jA))
 ((iD [false, false, false, false, false] x0.Out).bind λ eO =>
 (vf (⟨x0.aE, ⟨x0.aa.an, x0.aa.ax⟩, x0.az, x0.Out, x0.aO⟩ : aq) eO [x1]).bind λ p6 =>
 ah (p6.2 != 0)
 (some ((⟨0, ⟨0, 0⟩, [], [], []⟩ : aq), p6.2))
 ((rH x0.Out).bind λ ju =>
 (cy ju [x1]).bind λ fA =>
 (yt (⟨x0.aE, ⟨x0.aa.an, x0.aa.ax⟩, x0.az, fA, x0.aO⟩ : aq)).bind λ dX =>
 some (dX.1, dX.2)))
noncomputable def CH (x0 : aq) (x1 : Int) : Option Int :=
 (sX x0 x1).bind λ oO =>
 ah (!oO)
 (some 6)
 (some 0)
noncomputable def Ho (x0 : Int) (x1 : Int) : Option Bool :=
 (xK x0).bind λ oO =>
 ah oO
 ((xK x1).bind λ fR =>
 ah (!fR)
 (some true)
 (some (decide (x0 < x1))))
 (some (decide (x0 < x1)))
noncomputable def Hl (x0 : (List Int)) (x1 : Int) (x2 : Int) : Option (List Int) :=
 (bt (O := (List Int)) (λ (pR : ((List Int) × Int)) =>
 ah (decide (pR.2 < x2))
 ((bt (O := (List Int)) (λ (fY : ((List Int) × Int)) =>
 (((ah (decide (fY.2 > x1))
 ((idx fY.1 fY.2).bind λ Vo =>
 (idx fY.1 (i64 (fY.2 - 1))).bind λ DS =>
 (Ho Vo DS).bind λ adJ =>
 some adJ)
 (some false)) : Option Bool)).bind (λ (LK : Bool) =>
 ah LK
 ((idx fY.1 (i64 (fY.2 - 1))).bind λ Bp =>
 (idx fY.1 fY.2).bind λ DT =>
 (idx fY.1 fY.2).bind λ _ =>
 (idx (fY.1.set fY.2.toNat Bp) (i64 (fY.2 - 1))).bind λ _ =>
 some (.inl ((fY.1.set fY.2.toNat Bp).set (i64 (fY.2 - 1)).toNat DT, i64 (fY.2 - 1))))
 (some (.inr fY.1)))) (pR.1, pR.2)).bind (λ (LJ : (List Int)) =>
 some (.inl (LJ, i64 (pR.2 + 1)))))
 (some (.inr pR.1))) (x0, i64 (x1 + 1))).bind (λ (LD : (List Int)) =>
 some LD)
noncomputable def Hp (x0 : Int) : Option Int :=
 (((ah (decide (x0 ≥ 4294967296))
 ((tU .u64 x0 32).bind λ gP =>
 some (gP, 32))
 (some (x0, 0))) : Option (Int × Int))).bind (λ (jm : (Int × Int)) =>
 (((ah (decide (jm.1 ≥ 65536))
 ((tU .u64 jm.1 16).bind λ eO =>
 some (eO, i64 (jm.2 + 16)))
 (some (jm.1, jm.2))) : Option (Int × Int))).bind (λ (vl : (Int × Int)) =>
 (((ah (decide (vl.1 ≥ 256))
 ((tU .u64 vl.1 8).bind λ oQ =>
 some (oQ, i64 (vl.2 + 8)))
 (some (vl.1, vl.2))) : Option (Int × Int))).bind (λ (eU : (Int × Int)) =>
 (rq (⟨#[0, 1, 2, 2, 3, 3, 3, 3, 4, 4, 4, 4, 4, 4, 4, 4, 5, 5, 5, 5, 5, 5, 5, 5, 5, 5, 5, 5, 5, 5, 5, 5, 6, 6, 6, 6, 6, 6, 6, 6, 6, 6, 6, 6, 6, 6, 6, 6, 6, 6, 6, 6, 6, 6, 6, 6, 6, 6, 6, 6, 6, 6, 6, 6, 7, 7, 7, 7, 7, 7, 7, 7, 7, 7, 7, 7, 7, 7, 7, 7, 7, 7, 7, 7, 7, 7, 7, 7, 7, 7, 7, 7, 7, 7, 7, 7, 7, 7, 7, 7, 7, 7, 7, 7, 7, 7, 7, 7, 7, 7, 7, 7, 7, 7, 7, 7, 7, 7, 7, 7, 7, 7, 7, 7, 7, 7, 7, 7, 8, 8, 8, 8, 8, 8, 8, 8, 8, 8, 8, 8, 8, 8, 8, 8, 8, 8, 8, 8, 8, 8, 8, 8, 8, 8, 8, 8, 8, 8, 8, 8, 8, 8, 8, 8, 8, 8, 8, 8, 8, 8, 8, 8, 8, 8, 8, 8, 8, 8, 8, 8, 8, 8, 8, 8, 8, 8, 8, 8, 8, 8, 8, 8, 8, 8, 8, 8, 8, 8, 8, 8, 8, 8, 8, 8, 8, 8, 8, 8, 8, 8, 8, 8, 8, 8, 8, 8, 8, 8, 8, 8, 8, 8, 8, 8, 8, 8, 8, 8, 8, 8, 8, 8, 8, 8, 8, 8, 8, 8, 8, 8, 8, 8, 8, 8, 8, 8, 8, 8, 8, 8, 8, 8, 8, 8, 8, 8]⟩) (IntKind.wrap .u8 eU.1)).bind λ mS =>
 some (i64 (eU.2 + (i64 mS))))))
noncomputable def Hj (x0 : Int) : Option Int :=
 (Hp x0).bind λ cA =>
 some cA
noncomputable def Hi (x0 : (List Int)) (x1 : Int) (x2 : Int) (_ : Int) : Option (List Int) :=
 (bt (O := (List Int)) (λ (_ : Unit) =>
 ah (decide (i64 (x2 - x1) ≤ 12))
 ((Hl x0 x1 x2).bind λ jA =>
 some (.inr jA))
 (none)) ()).bind (λ q => some q)
noncomputable def CU (x0 : (List Int)) : Option (List Int) :=
 (Hj (IntKind.wrap .u64 (x0.length : Int))).bind λ M0 =>
 (Hi x0 0 (x0.length : Int) M0).bind λ ig =>
 some ig
noncomputable def CV (x0 : (List Int)) : Option (List Int) :=
 ah (decide ((x0.length : Int) < 2))
 (some x0)
 ((bt (O := Unit) (λ (fZ : Int) =>
 ah (decide (fZ < (x0.length : Int)))
 ((idx x0 fZ).bind λ DU =>
 (idx x0 (i64 (fZ - 1))).bind λ di =>
 ah (DU == di)
 (none)
 (some (.inl (i64 (fZ + 1)))))
 (some (.inr ()))) 1).bind (λ (_ : Unit) =>
 some x0))
noncomputable def CJ (x0 : cW) (x1 : (bu → Option Int)) : Option (List Int) :=
 (bt (O := (List Int)) (λ (mO : ((List Int) × Int)) =>
 ah (decide (mO.2 < (x0.dR.length : Int)))
 ((idx x0.dR mO.2).bind λ iJ =>
 (x1 iJ).bind λ gC =>
 (cy mO.1 [gC]).bind λ jw =>
 some (.inl (jw, i64 (mO.2 + 1))))
 (some (.inr mO.1))) ([], 0)).bind (λ (A5 : (List Int)) =>
 (CU A5).bind λ iY =>
 (CV iY).bind λ nR =>
 some nR)
noncomputable def CL (x0 : bu) (x1 : Int) : Option Int :=
 (idx x0.weights x1).bind λ ig =>
 some ig
noncomputable def C3 (x0 : aq) (x1 : Int) : Option ((List Int) × Int) :=
 (nC x0 (λ y => CH y x1)).bind λ ei =>
 ah (ei.2 != 0)
 (some ([], ei.2))
 ((CJ ei.1 (λ y => CL y x1)).bind λ dW =>
 some (dW, 0))
noncomputable def oH (x0 : aq) : Option (Int × Int) :=
 (lA x0).bind λ oP =>
 ah (oP != 0)
 (some (0, oP))
 ((pK (c9 (λ (_ : bu) (iF : Int) => ((some (.inl (i64 (iF + 1)))) : Option (Int ⊕ Empty)))) (⟨x0.aE, ⟨x0.aa.an, x0.aa.ax⟩, x0.az, x0.Out, x0.aO⟩ : aq) (.inl 0)).bind (Sum.elim (λ (iF : Int) =>
 some (iF, 0))
  (λ (o : Empty) => o.elim)))
noncomputable def xN (x0 : Int) (x1 : Int) : Option Reach :=
 some (⟨x0, x1⟩ : Reach)
noncomputable def xL (x0 : Int) : Option Reach :=
 (xN x0 x0).bind λ ig =>
 some ig
noncomputable def BB (x0 : Int) : Option Bool :=
 (kH x0 0 99).bind λ cA =>
 some (!cA)
noncomputable def Ef (x0 : aq) (x1 : cB) : Option (bu × Int) :=
 (kH x1.aa (-999) 999).bind λ fc =>
 ah (!fc)
 (some ((⟨0, [0, 0, 0, 0, 0]⟩ : bu), 1))
 (ah ((x1.fD.length : Int) != (x0.az.length : Int))
 (some ((⟨0, [0, 0, 0, 0, 0]⟩ : bu), 2))
 ((xJ x1.fD (λ y => BB y)).bind λ dX =>
 ah dX
 (some ((⟨0, [0, 0, 0, 0, 0]⟩ : bu), 1))
 (some ((⟨x1.aa, fT [0, 0, 0, 0, 0] x1.fD⟩ : bu), 0))))
noncomputable def rI (x0 : aq) (x1 : cB) (x2 : (List Int)) : Option (Int × Int) :=
 (lA x0).bind λ gP =>
 ah (gP != 0)
 (some (0, gP))
 ((Ef x0 x1).bind λ eO =>
 ah (eO.2 != 0)
 (some (0, eO.2))
 ((u7 x2 (x0.az.length : Int)).bind λ oQ =>
 ah (oQ != 0)
 (some (0, oQ))
 ((iD [false, false, false, false, false] x2).bind λ Bq =>
 (oU x0 eO.1 Bq).bind λ fA =>
 some (fA, 0))))
noncomputable def C4 (x0 : aq) : Option ((List Int) × Int) :=
 (lA x0).bind λ oP =>
 ah (oP != 0)
 (some ([], oP))
 ((iD [false, false, false, false, false] x0.Out).bind λ dW =>
 (v9 (⟨x0.aE, ⟨x0.aa.an, x0.aa.ax⟩, x0.az, x0.Out, x0.aO⟩ : aq) dW).bind λ fJ =>
 some (fJ, 0))
noncomputable def pL (x0 : aq) (x1 : (List Int)) : Option Int :=
 (u7 x1 (x0.az.length : Int)).bind λ ig =>
 some ig
noncomputable def CN (x0 : (List Int)) : Option (List Int) :=
 some x0
noncomputable def CO (x0 : bu) (x1 : cW) (x2 : (List Int)) : Option Bool :=
 (iD [false, false, false, false, false] x2).bind λ fQ =>
 (oU x1.book x0 fQ).bind λ fR =>
 (vQ x1.book fR).bind λ jO =>
 some jO
noncomputable def AX (x0 : aq) (x1 : (List Int)) : Option (Int × Int) :=
 (CN x1).bind λ eH =>
 (nC x0 (λ y => pL y eH)).bind λ dW =>
 ah (dW.2 != 0)
 (some (0, dW.2))
 ((By dW.1 (λ y => CO y dW.1 x1)).bind λ cJ =>
 some (cJ, 0))
noncomputable def tT (x0 : aq) (x1 : bW) : Option aq :=
 (cy [] x0.aO).bind λ fJ =>
 (cy fJ [x1]).bind λ nO =>
 some (⟨x0.aE, ⟨x0.aa.an, x0.aa.ax⟩, x0.az, x0.Out, nO⟩ : aq)
noncomputable def m64 (x0 : aq) (x1 : Int) : Option aq :=
 (cy [] x0.Out).bind λ iW =>
 (cy iW [x1]).bind λ dW =>
 some (⟨x0.aE, ⟨x0.aa.an, x0.aa.ax⟩, x0.az, dW, x0.aO⟩ : aq)
noncomputable def CP (x0 : bu) (x1 : cW) (x2 : (List Int)) : Option Int :=
 (iD [false, false, false, false, false] x2).bind λ oO =>
 (oU x1.book x0 oO).bind λ fQ =>
 some fQ
noncomputable def C5 (x0 : aq) (x1 : (List Int)) : Option (Reach × Int) :=
 (CN x1).bind λ js =>
 (nC x0 (λ y => pL y js)).bind λ eI =>
 ah (eI.2 != 0)
 (some ((⟨0, 0⟩ : Reach), eI.2))
 ((CJ eI.1 (λ y => CP y eI.1 x1)).bind λ fc =>
 (idx fc 0).bind λ nP =>
 (idx fc (i64 ((fc.length : Int) - 1))).bind λ p6 =>
 some ((⟨nP, p6⟩ : Reach), 0))
noncomputable def Ht  : Option aq :=
 (xN 20 21).bind λ ei =>
 (xL 30).bind λ iW =>
 (xL 10).bind λ eH =>
 some (⟨62, ⟨0, 0⟩, [(⟨⟨#[103, 117, 110]⟩, (-3), ⟨ei.an, ei.ax⟩, []⟩ : cG), (⟨⟨#[99, 104, 101, 115, 116]⟩, 2, ⟨iW.an, iW.ax⟩, []⟩ : cG), (⟨⟨#[97, 110, 99, 104, 111, 114]⟩, 1, ⟨eH.an, eH.ax⟩, [0]⟩ : cG)], [], []⟩ : aq)
noncomputable def xM (x0 : (List Int)) (x1 : (List Int)) : Option Bool :=
 (bt (O := (Unit ⊕ Bool)) (λ (mQ : Int) =>
 ah (decide (mQ < (x1.length : Int)))
 ((((ah (decide (mQ ≥ (x0.length : Int)))
 (some true)
 ((idx x0 mQ).bind λ IL =>
 (idx x1 mQ).bind λ Ve =>
 some (decide (IL < Ve)))) : Option Bool)).bind (λ (vi : Bool) =>
 ah vi
 (some (.inr (.inr true)))
 ((idx x0 mQ).bind λ IM =>
 (idx x1 mQ).bind λ j9 =>
 ah (decide (IM > j9))
 (some (.inr (.inr false)))
 (some (.inl (i64 (mQ + 1)))))))
 (some (.inr (.inl ())))) 0).bind (Sum.elim (λ (_ : Unit) =>
 some false)
  (λ q => some q))
noncomputable def pM (x0 : (List Int)) (x1 : (List Int)) : Option Bool :=
 (xM x0 x1).bind λ ig =>
 ah (!ig)
 ((xM x1 x0).bind λ fQ =>
 some (!fQ))
 (some false)
noncomputable def qR (x0 : (List Int)) (x1 : (List Int)) : Option Bool :=
 (pM x0 x1).bind λ cA =>
 some cA
noncomputable def nA  : Option Bool :=
 (Ht).bind λ bS =>
 (m64 bS 2).bind λ Il =>
 (tT Il (⟨1, 0⟩ : bW)).bind λ nN =>
 (rI bS (⟨0, [21, 30, 10]⟩ : cB) [1]).bind λ Bd =>
 (oH bS).bind λ tC =>
 (C3 bS 0).bind λ tD =>
 (C5 bS [2]).bind λ yg =>
 (AX bS [0]).bind λ tW =>
 (AX bS [1, 2]).bind λ Be =>
 (C4 bS).bind λ Bf =>
 (yA bS).bind λ Bg =>
 (oH nN).bind λ Bh =>
 (((ah (Bd.2 != 0)
 (some true)
 (ah (tC.2 != 0)
 (some true)
 (ah (tD.2 != 0)
 (some true)
 (ah (yg.2 != 0)
 (some true)
 (ah (tW.2 != 0)
 (some true)
 (ah (Be.2 != 0)
 (some true)
 (ah (Bf.2 != 0)
 (some true)
 (ah (Bg.2 != 0)
 (some true)
 (some (Bh.2 != 0)))))))))) : Option Bool)).bind (λ (C9 : Bool) =>
 ah C9
 (some false)
 ((((ah (Bd.1 != (-53))
 (some true)
 (ah (tC.1 != 2)
 (some true)
 ((qR tD.1 [20, 21]).bind λ ga =>
 ah (!ga)
 (some true)
 ((xN (-3) 0).bind λ Ip =>
 ah (!(Ea yg.1 Ip == true))
 (some true)
 (ah (tW.1 != 1)
 (some true)
 (ah (Be.1 != 0)
 (some true)
 ((qR Bf.1 [1, 2]).bind λ M1 =>
 ah (!M1)
 (some true)
 ((qR Bg.1 [1, 2]).bind λ Bi =>
 ah (!Bi)
 (some true)
 (some (Bh.1 != 1)))))))))) : Option Bool)).bind (λ (Da : Bool) =>
 ah Da
 (some false)
 ((tQ bS [2, 0, 1]).bind λ Bl =>
 (tQ bS [2, 1, 0]).bind λ tF =>
 (tQ bS [0, 1, 2]).bind λ M4 =>
 (tR bS).bind λ rE =>
 (yB bS).bind λ tG =>
 (yC bS).bind λ tH =>
 (tR nN).bind λ Bm =>
 (((ah (Bl.2 != 0)
 (some true)
 (ah (tF.2 != 0)
 (some true)
 (ah (M4.2 != 7)
 (some true)
 (ah (rE.2 != 0)
 (some true)
 (ah (tG.2.2 != 0)
 (some true)
 (ah (tH.2.2 != 0)
 (some true)
 (some (Bm.2 != 0)))))))) : Option Bool)).bind (λ (Dc : Bool) =>
 ah Dc
 (some false)
 ((((ah (Bl.1 != 1)
 (some true)
 (ah (tF.1 != 0)
 (some true)
 (ah (rE.1 != 1)
 (some true)
 (ah (!tG.2.1)
 (some true)
 ((qR tG.1 [2, 0, 1]).bind λ M5 =>
 ah (!M5)
 (some true)
 ((qR tH.1 [2, 0, 1]).bind λ M6 =>
 ah (!M6)
 (some true)
 (ah (tH.2.1 != 60)
 (some true)
 (some (Bm.1 != 2))))))))) : Option Bool)).bind (λ (De : Bool) =>
 ah De
 (some false)
 ((yD bS).bind λ yh =>
 (vZ bS 0).bind λ M7 =>
 (vZ bS 2).bind λ tI =>
 (yE tI.1 (⟨1, 2⟩ : bW)).bind λ M8 =>
 (tT bS (⟨0, 1⟩ : bW)).bind λ DO =>
 (tT DO (⟨0, 2⟩ : bW)).bind λ rF =>
 (tS rF).bind λ Bn =>
 (xL 21).bind λ DQ =>
 (yF bS 0 DQ).bind λ Bo =>
 (tR Bo.1).bind λ DR =>
 ah (yh.2.2 == 0)
 (ah (M7.2 == 7)
 (ah (tI.2 == 0)
 (ah (M8.2 == 9)
 (ah (Bn.2 == 0)
 (ah (Bo.2 == 0)
 (ah (DR.2 == 0)
 (ah (yh.1 == 0)
 (ah (yh.2.1 == 1)
 ((qR Bn.1 [0]).bind λ M9 =>
 ah M9
 (some (DR.1 == 1))
 (some false))
 (some false))
 (some false))
 (some false))
 (some false))
 (some false))
 (some false))
 (some false))
 (some false))
 (some false)))))))))
noncomputable def nB (x0 : Int) (x1 : Int) (x2 : Int) : Option Bool :=
 ah (decide (x1 ≤ x0))
 (some (decide (x0 ≤ x2)))
 (some false)
noncomputable def AH (x0 : Reach) (x1 : Int) (x2 : Int) : Option Bool :=
 ah (decide (x1 ≤ x0.an))
 (ah (decide (x0.an ≤ x0.ax))
 (some (decide (x0.ax ≤ x2)))
 (some false))
 (some false)
noncomputable def sZ (x0 : (List Int)) (x1 : Int) : Option Bool :=
 (bt (O := (Unit ⊕ Bool)) (λ (dG : Int) =>
 ah (decide (dG < (x0.length : Int)))
 ((idx x0 dG).bind λ oQ =>
 ah (oQ == x1)
 (some (.inr (.inr true)))
 (some (.inl (i64 (dG + 1)))))
 (some (.inr (.inl ())))) 0).bind (Sum.elim (λ (_ : Unit) =>
 some false)
  (λ q => some q))
noncomputable def AG (x0 : aq) (x1 : Int) : Option Bool :=
 (nB x1 0 (i64 ((x0.az.length : Int) - 1))).bind λ ig =>
 some ig
noncomputable def AJ (x0 : aq) (x1 : (List Int)) (x2 : Int) : Option Bool :=
 (sZ x1 x2).bind λ mS =>
 ah mS
 (some false)
 ((bt (O := (Unit ⊕ Bool)) (λ (gD : Int) =>
 ah (decide (gD < (x0.az.length : Int)))
 ((sZ x1 gD).bind λ iY =>
 ah (!iY)
 ((idx x0.az gD).bind λ yT =>
 (sZ yT.On x2).bind λ jx =>
 ah jx
 (some (.inr (.inr false)))
 (some (.inl (i64 (gD + 1)))))
 (some (.inl (i64 (gD + 1)))))
 (some (.inr (.inl ())))) 0).bind (Sum.elim (λ (_ : Unit) =>
 some true)
  (λ q => some q)))
noncomputable def AI (x0 : aq) (x1 : (List Int)) (x2 : (List Int)) : Option Int :=
 (cy [] x1).bind λ Wv =>
 (bt (O := (Unit ⊕ Int)) (λ (gz : ((List Int) × Int)) =>
 ah (decide (gz.2 < (x2.length : Int)))
 ((idx x2 gz.2).bind λ yJ =>
 (AG x0 yJ).bind λ yQ =>
 ah (!yQ)
 (some (.inr (.inr 6)))
 ((idx x2 gz.2).bind λ kN =>
 (sZ gz.1 kN).bind λ kO =>
 ah kO
 (some (.inr (.inr 5)))
 ((idx x2 gz.2).bind λ En =>
 (AJ x0 gz.1 En).bind λ yR =>
 ah (!yR)
 (some (.inr (.inr 7)))
 ((idx x2 gz.2).bind λ gQ =>
 (cy gz.1 [gQ]).bind λ vU =>
 some (.inl (vU, i64 (gz.2 + 1)))))))
 (some (.inr (.inl ())))) (Wv, 0)).bind (Sum.elim (λ (_ : Unit) =>
 some 0)
  (λ q => some q))
noncomputable def AZ (x0 : (List Int)) (x1 : Int) : Option Int :=
 (bt (O := (Unit ⊕ Int)) (λ (tc : Int) =>
 ah (decide (tc < (x0.length : Int)))
 ((idx x0 tc).bind λ yK =>
 (nB yK 0 (i64 (x1 - 1))).bind λ mV =>
 ah (!mV)
 (some (.inr (.inr 6)))
 (ah (decide (tc > 0))
 ((idx x0 tc).bind λ rO =>
 (idx x0 (i64 (tc - 1))).bind λ ij =>
 ah (decide (rO ≤ ij))
 (some (.inr (.inr 7)))
 (some (.inl (i64 (tc + 1)))))
 (some (.inl (i64 (tc + 1))))))
 (some (.inr (.inl ())))) 0).bind (Sum.elim (λ (_ : Unit) =>
 some 0)
  (λ q => some q))
noncomputable def AM (x0 : Int) : Option Bool :=
 (nB (i64 x0) 97 122).bind λ cA =>
 some cA
noncomputable def C0 (x0 : Int) : Option Bool :=
 (nB (i64 x0) 48 57).bind λ cA =>
 some cA
noncomputable def Hg (x0 : ByteArray) : Option Bool :=
 ((((nB (x0.size : Int) 1 12).bind λ kP =>
 ah (!kP)
 (some true)
 ((rq x0 0).bind λ jv =>
 (AM jv).bind λ iK =>
 some (!iK))) : Option Bool)).bind (λ (oJ : Bool) =>
 ah oJ
 (some false)
 ((bt (O := (Unit ⊕ Bool)) (λ (nG : Int) =>
 ah (decide (nG < (x0.size : Int)))
 ((rq x0 nG).bind λ lR =>
 (AM lR).bind λ oS =>
 ah (!oS)
 ((rq x0 nG).bind λ iL =>
 (C0 iL).bind λ yL =>
 ah (!yL)
 (some (.inr (.inr false)))
 (some (.inl (i64 (nG + 1)))))
 (some (.inl (i64 (nG + 1)))))
 (some (.inr (.inl ())))) 1).bind (Sum.elim (λ (_ : Unit) =>
 some true)
  (λ q => some q))))
noncomputable def G9 (x0 : aq) : Option Int :=
 (nB (x0.az.length : Int) 1 5).bind λ IS =>
 ah (!IS)
 (some 2)
 ((bt (O := (Unit ⊕ Int)) (λ (pQ : Int) =>
 ah (decide (pQ < (x0.az.length : Int)))
 ((idx x0.az pQ).bind λ gO =>
 (Hg gO.Name).bind λ adD =>
 ah (!adD)
 (some (.inr (.inr 4)))
 ((bt (O := (Unit ⊕ Int)) (λ (Dk : Int) =>
 ah (decide (Dk < pQ))
 ((idx x0.az Dk).bind λ Bi =>
 ah (Bi.Name.toList == gO.Name.toList)
 (some (.inr (.inr 5)))
 (some (.inl (i64 (Dk + 1)))))
 (some (.inr (.inl ())))) 0).bind (Sum.elim (λ (_ : Unit) =>
 ((((nB gO.dz (-9) 9).bind λ adH =>
 ah (!adH)
 (some true)
 ((AH gO.Weight 1 99).bind λ tF =>
 ah (!tF)
 (some true)
 (some (decide (i64 (gO.Weight.ax - gO.Weight.an) ≥ 3))))) : Option Bool)).bind (λ (LI : Bool) =>
 ah LI
 (some (.inr (.inr 1)))
 ((AZ gO.On pQ).bind λ rE =>
 ah (rE != 0)
 (some (.inr (.inr rE)))
 (some (.inl (i64 (pQ + 1)))))))
  (λ q => some (.inr (.inr q))))))
 (some (.inr (.inl ())))) 0).bind (Sum.elim (λ (_ : Unit) =>
 some 0)
  (λ q => some q)))
noncomputable def qQ (x0 : aq) : Option Int :=
 ((((nB x0.aE 0 9999).bind λ Ir =>
 ah (!Ir)
 (some true)
 ((AH x0.aa (-999) 999).bind λ mV =>
 ah (!mV)
 (some true)
 (some (decide (i64 (x0.aa.ax - x0.aa.an) ≥ 3))))) : Option Bool)).bind (λ (LW : Bool) =>
 ah LW
 (some 1)
 ((G9 x0).bind λ rO =>
 ah (rO != 0)
 (some rO)
 ((AI x0 [] x0.Out).bind λ oS =>
 ah (oS != 0)
 (some oS)
 (ah (decide ((x0.aO.length : Int) > 4))
 (some 2)
 ((bt (O := (Unit ⊕ Int)) (λ (A6 : Int) =>
 ah (decide (A6 < (x0.aO.length : Int)))
 ((idx x0.aO A6).bind λ rS =>
 (nB rS.dr 0 (x0.Out.length : Int)).bind λ Eh =>
 ah (!Eh)
 (some (.inr (.inr 6)))
 ((idx x0.aO A6).bind λ rN =>
 (nB rN.dQ 0 2).bind λ dh =>
 ah (!dh)
 (some (.inr (.inr 1)))
 (some (.inl (i64 (A6 + 1))))))
 (some (.inr (.inl ())))) 0).bind (Sum.elim (λ (_ : Unit) =>
 some 0)
  (λ q => some q)))))))
noncomputable def CQ (x0 : aq) (x1 : cB) (x2 : (List Int)) : Option Int :=
 (bt (O := Int) (λ (cu : (Int × Int)) =>
 ah (decide (cu.2 < (x0.az.length : Int)))
 ((sZ x2 cu.2).bind λ rG =>
 ah (!rG)
 ((idx x0.az cu.2).bind λ iX =>
 (idx x1.fD cu.2).bind λ jv =>
 some (.inl (i64 (cu.1 + (i64 (iX.dz * jv))), i64 (cu.2 + 1))))
 (some (.inl (cu.1, i64 (cu.2 + 1)))))
 (some (.inr cu.1))) (x1.aa, 0)).bind (λ (eU : Int) =>
 some eU)
noncomputable def La (x0 : aq) (x1 : Int) : Option Bool :=
 ah (decide (x1 > x0.aE))
 (some true)
 (some (decide (x1 < i64 (0 - x0.aE))))
noncomputable def Lc (x0 : Int) : Option Int :=
 ah (decide (x0 > 0))
 (some 2)
 (ah (decide (x0 < 0))
 (some 1)
 (some 0))
noncomputable def Lb (x0 : aq) (x1 : cB) : Option Bool :=
 (bt (O := (Unit ⊕ Bool)) (λ (Dl : Int) =>
 ah (decide (Dl ≤ (x0.Out.length : Int)))
 ((mX x0.Out 0 Dl).bind λ ij =>
 (CQ x0 x1 ij).bind λ Vw =>
 (La x0 Vw).bind λ lR =>
 ah lR
 (some (.inr (.inr false)))
 (some (.inl (i64 (Dl + 1)))))
 (some (.inr (.inl ())))) 0).bind (Sum.elim (λ (_ : Unit) =>
 (bt (O := (Unit ⊕ Bool)) (λ (Dm : Int) =>
 ah (decide (Dm < (x0.aO.length : Int)))
 ((idx x0.aO Dm).bind λ tO =>
 (mX x0.Out 0 tO.dr).bind λ D6 =>
 (CQ x0 x1 D6).bind λ BM =>
 (Lc BM).bind λ wq =>
 ah (wq != tO.dQ)
 (some (.inr (.inr false)))
 (some (.inl (i64 (Dm + 1)))))
 (some (.inr (.inl ())))) 0).bind (Sum.elim (λ (_ : Unit) =>
 some true)
  (λ q => some q)))
  (λ q => some q))
noncomputable def AF (x0 : aq) : Option (List cB) :=
 (bt (O := (List (List Int))) (λ (mP : ((List (List Int)) × Int)) =>
 ah (decide (mP.2 < (x0.az.length : Int)))
 ((bt (O := (List (List Int))) (λ (rj : ((List (List Int)) × Int)) =>
 ah (decide (rj.2 < (mP.1.length : Int)))
 ((idx x0.az mP.2).bind λ adM =>
 (bt (O := (List (List Int))) (λ (tf : ((List (List Int)) × Int)) =>
 (idx x0.az mP.2).bind λ Is =>
 ah (decide (tf.2 ≤ Is.Weight.ax))
 ((idx mP.1 rj.2).bind λ adO =>
 (cy [] adO).bind λ adP =>
 (cy adP [tf.2]).bind λ Vu =>
 (cy tf.1 [Vu]).bind λ adQ =>
 some (.inl (adQ, i64 (tf.2 + 1))))
 (some (.inr tf.1))) (rj.1, adM.Weight.an)).bind (λ (LX : (List (List Int))) =>
 some (.inl (LX, i64 (rj.2 + 1)))))
 (some (.inr rj.1))) ([], 0)).bind (λ (LU : (List (List Int))) =>
 some (.inl (LU, i64 (mP.2 + 1)))))
 (some (.inr mP.1))) ([[]], 0)).bind (λ (HH : (List (List Int))) =>
 (bt (O := (List cB)) (λ (nI : ((List cB) × Int)) =>
 ah (decide (nI.2 ≤ x0.aa.ax))
 ((bt (O := (List cB)) (λ (rm : ((List cB) × Int)) =>
 ah (decide (rm.2 < (HH.length : Int)))
 ((idx HH rm.2).bind λ Iv =>
 (Lb x0 (⟨nI.2, Iv⟩ : cB)).bind λ adT =>
 ah adT
 ((cy rm.1 [(⟨nI.2, Iv⟩ : cB)]).bind λ adU =>
 some (.inl (adU, i64 (rm.2 + 1))))
 (some (.inl (rm.1, i64 (rm.2 + 1)))))
 (some (.inr rm.1))) (nI.1, 0)).bind (λ (L0 : (List cB)) =>
 some (.inl (L0, i64 (nI.2 + 1)))))
 (some (.inr nI.1))) ([], x0.aa.an)).bind (λ (LZ : (List cB)) =>
 some LZ))
noncomputable def s4 (x0 : aq) (x1 : Int) : Option ((List cB) × Int) :=
 (qQ x0).bind λ eH =>
 ah (eH != 0)
 (some ([], eH))
 (ah (x1 != 0)
 (some ([], x1))
 ((AF x0).bind λ eI =>
 ah ((eI.length : Int) == 0)
 (some ([], 9))
 (some (eI, 0))))
noncomputable def IG (x0 : aq) (x1 : (List Int)) : Option (List Int) :=
 (bt (O := (List Int)) (λ (fZ : ((List Int) × Int)) =>
 ah (decide (fZ.2 < (x0.az.length : Int)))
 ((AJ x0 x1 fZ.2).bind λ oR =>
 ah oR
 ((cy fZ.1 [fZ.2]).bind λ iX =>
 some (.inl (iX, i64 (fZ.2 + 1))))
 (some (.inl (fZ.1, i64 (fZ.2 + 1)))))
 (some (.inr fZ.1))) ([], 0)).bind (λ (pO : (List Int)) =>
 some pO)
noncomputable def IC (x0 : aq) (x1 : cB) (x2 : (List Int)) : Option Int :=
 (bt (O := Int) (λ (jo : (Int × Int)) =>
 ah (decide (jo.2 ≤ (x2.length : Int)))
 ((cy [] x0.Out).bind λ iJ =>
 (mX x2 0 jo.2).bind λ nQ =>
 (cy iJ nQ).bind λ gC =>
 (CQ x0 x1 gC).bind λ j6 =>
 some (.inl (jK jo.1 [j6, i64 (0 - j6)], i64 (jo.2 + 1))))
 (some (.inr jo.1))) (0, 1)).bind (λ (vm : Int) =>
 some vm)
noncomputable def BF (x0 : aq) (x1 : (List cB)) (x2 : (List Int)) : Option Int :=
 (bt (O := Int) (λ (ta : (Int × Int)) =>
 ah (decide (ta.2 < (x1.length : Int)))
 ((idx x1 ta.2).bind λ gb =>
 (IC x0 gb x2).bind λ ju =>
 some (.inl (jK ta.1 [ju], i64 (ta.2 + 1))))
 (some (.inr ta.1))) (0, 0)).bind (λ (LM : Int) =>
 some LM)
noncomputable def Nz (x0 : aq) : Option ((List Int) × Int) :=
 (s4 x0 0).bind λ dX =>
 ah (dX.2 != 0)
 (some ([], dX.2))
 ((IG x0 x0.Out).bind λ eY =>
 (bt (O := (List Int)) (λ (oL : ((List Int) × Int)) =>
 ah (decide (oL.2 < (eY.length : Int)))
 ((mX eY oL.2 (i64 (oL.2 + 1))).bind λ Vr =>
 (BF x0 dX.1 Vr).bind λ Ir =>
 ah (decide (Ir ≤ x0.aE))
 ((idx eY oL.2).bind λ mV =>
 (cy oL.1 [mV]).bind λ D8 =>
 some (.inl (D8, i64 (oL.2 + 1))))
 (some (.inl (oL.1, i64 (oL.2 + 1)))))
 (some (.inr oL.1))) ([], 0)).bind (λ (LQ : (List Int)) =>
 some (LQ, 0)))
noncomputable def Nv (x0 : aq) (x1 : (List Int)) : Option Int :=
 (AI x0 x0.Out x1).bind λ jO =>
 ah (jO != 0)
 (some jO)
 (ah (i64 ((x0.Out.length : Int) + (x1.length : Int)) != (x0.az.length : Int))
 (some 2)
 (some 0))
noncomputable def Nw (x0 : Int) (x1 : Int) : Option Int :=
 ah (x0 == 0)
 (some 2)
 (ah (x0 == x1)
 (some 1)
 (some 0))
noncomputable def NA (x0 : aq) (x1 : (List Int)) : Option (Int × Int) :=
 (qQ x0).bind λ gb =>
 (((ah (gb == 0)
 ((Nv x0 x1).bind λ en =>
 some en)
 (some gb)) : Option Int)).bind (λ (s8 : Int) =>
 (s4 x0 s8).bind λ iI =>
 ah (iI.2 != 0)
 (some (0, iI.2))
 ((bt (O := Int) (λ (q8 : (Int × Int)) =>
 ah (decide (q8.2 < (iI.1.length : Int)))
 ((idx iI.1 q8.2).bind λ jx =>
 (IC x0 jx x1).bind λ tJ =>
 ah (decide (tJ ≤ x0.aE))
 (some (.inl (i64 (q8.1 + 1), i64 (q8.2 + 1))))
 (some (.inl (q8.1, i64 (q8.2 + 1)))))
 (some (.inr q8.1))) (0, 0)).bind (λ (HI : Int) =>
 (Nw HI (iI.1.length : Int)).bind λ vM =>
 some (vM, 0))))
noncomputable def IE (x0 : aq) : Option (List (List Int)) :=
 (bt (O := (List (List Int))) (λ (mN : ((List (List Int)) × Int)) =>
 ah (decide (mN.2 < (x0.az.length : Int)))
 ((bt (O := (List (List Int))) (λ (oM : ((List (List Int)) × Int)) =>
 ah (decide (oM.2 < (mN.1.length : Int)))
 ((cy [] x0.Out).bind λ Is =>
 (idx mN.1 oM.2).bind λ adN =>
 (cy Is adN).bind λ Vs =>
 (IG x0 Vs).bind λ Vt =>
 (bt (O := (List (List Int))) (λ (tj : ((List (List Int)) × Int)) =>
 ah (decide (tj.2 < (Vt.length : Int)))
 ((idx mN.1 oM.2).bind λ adR =>
 (cy [] adR).bind λ adS =>
 (idx Vt tj.2).bind λ It =>
 (cy adS [It]).bind λ Iu =>
 (cy tj.1 [Iu]).bind λ Vv =>
 some (.inl (Vv, i64 (tj.2 + 1))))
 (some (.inr tj.1))) (oM.1, 0)).bind (λ (LY : (List (List Int))) =>
 some (.inl (LY, i64 (oM.2 + 1)))))
 (some (.inr oM.1))) ([], 0)).bind (λ (LV : (List (List Int))) =>
 some (.inl (LV, i64 (mN.2 + 1)))))
 (some (.inr mN.1))) ([[]], (x0.Out.length : Int))).bind (λ (LO : (List (List Int))) =>
 some LO)
noncomputable def ID (x0 : aq) (x1 : (List cB)) : Option (List (List Int)) :=
 (IE x0).bind λ gb =>
 (bt (O := (List (List Int))) (λ (pU : ((List (List Int)) × Int)) =>
 ah (decide (pU.2 < (gb.length : Int)))
 ((idx gb pU.2).bind λ iY =>
 (BF x0 x1 iY).bind λ nR =>
 ah (decide (nR ≤ x0.aE))
 ((idx gb pU.2).bind λ jx =>
 (cy pU.1 [jx]).bind λ nY =>
 some (.inl (nY, i64 (pU.2 + 1))))
 (some (.inl (pU.1, i64 (pU.2 + 1)))))
 (some (.inr pU.1))) ([], 0)).bind (λ (s8 : (List (List Int))) =>
 some s8)
noncomputable def NB (x0 : aq) : Option (Int × Int) :=
 (s4 x0 0).bind λ fQ =>
 ah (fQ.2 != 0)
 (some (0, fQ.2))
 ((ID x0 fQ.1).bind λ jO =>
 some ((jO.length : Int), 0))
noncomputable def NC (x0 : aq) : Option ((List Int) × Bool × Int) :=
 (s4 x0 0).bind λ ei =>
 ah (ei.2 != 0)
 (some ([], false, ei.2))
 ((ID x0 ei.1).bind λ fJ =>
 ah ((fJ.length : Int) == 0)
 (some ([], false, 0))
 ((idx fJ 0).bind λ nO =>
 some (nO, true, 0)))
noncomputable def ND (x0 : aq) : Option ((List Int) × Int × Int) :=
 (s4 x0 0).bind λ gb =>
 ah (gb.2 != 0)
 (some ([], 0, gb.2))
 ((IE x0).bind λ dX =>
 (idx dX 0).bind λ en =>
 (idx dX 0).bind λ iI =>
 (BF x0 gb.1 iI).bind λ Br =>
 (bt (O := ((List Int) × Int)) (λ (ia : ((List Int) × Int × Int)) =>
 ah (decide (ia.2.2 < (dX.length : Int)))
 ((idx dX ia.2.2).bind λ jx =>
 (BF x0 gb.1 jx).bind λ tJ =>
 ah (decide (tJ < ia.2.1))
 ((idx dX ia.2.2).bind λ vM =>
 some (.inl (vM, tJ, i64 (ia.2.2 + 1))))
 (some (.inl (ia.1, ia.2.1, i64 (ia.2.2 + 1)))))
 (some (.inr (ia.1, ia.2.1)))) (en, Br, 1)).bind (λ (oJ : ((List Int) × Int)) =>
 some (oJ.1, oJ.2, 0)))
noncomputable def m3 (x0 : aq) (x1 : (List Int)) : Option Bool :=
 ((((AO x0).bind λ nY =>
 ah nY
 (some true)
 (some (decide ((x1.length : Int) > 20)))) : Option Bool)).bind (λ (Bu : Bool) =>
 ah Bu
 ((nA).bind λ mV =>
 some mV)
 ((yA x0).bind λ DW =>
 (Nz x0).bind λ D8 =>
 ((((pM DW.1 D8.1).bind λ ij =>
 ah (!ij)
 (some true)
 (some (DW.2 != D8.2))) : Option Bool)).bind (λ (aee : Bool) =>
 ah aee
 (some false)
 ((tQ x0 x1).bind λ iL =>
 (NA x0 x1).bind λ yL =>
 (((ah (iL.1 != yL.1)
 (some true)
 (some (iL.2 != yL.2))) : Option Bool)).bind (λ (tM : Bool) =>
 ah tM
 (some false)
 ((tR x0).bind λ rR =>
 (NB x0).bind λ oW =>
 (((ah (rR.1 != oW.1)
 (some true)
 (some (rR.2 != oW.2))) : Option Bool)).bind (λ (Bt : Bool) =>
 ah Bt
 (some false)
 ((yB x0).bind λ D5 =>
 (NC x0).bind λ NN =>
 ((((pM D5.1 NN.1).bind λ n3 =>
 ah (!n3)
 (some true)
 (ah (!(D5.2.1 == NN.2.1))
 (some true)
 (some (D5.2.2 != NN.2.2)))) : Option Bool)).bind (λ (ad9 : Bool) =>
 ah ad9
 (some false)
 ((yC x0).bind λ Bc =>
 (ND x0).bind λ yP =>
 (pM Bc.1 yP.1).bind λ afK =>
 ah afK
 (ah (Bc.2.1 == yP.2.1)
 (ah (Bc.2.2 == yP.2.2)
 ((nA).bind λ afL =>
 some afL)
 (some false))
 (some false))
 (some false)))))))))))
noncomputable def yH (x0 : Int) : Option (List Int) :=
 (bt (O := (List Int)) (λ (s9 : ((List Int) × Int)) =>
 ah (decide (s9.2 < x0))
 ((cy s9.1 [s9.2]).bind λ gb =>
 some (.inl (gb, i64 (s9.2 + 1))))
 (some (.inr s9.1))) ([], 0)).bind (λ (LL : (List Int)) =>
 some LL)
noncomputable def tL (x0 : aq) (x1 : (List Int)) : Option aq :=
 (bt (O := (List bW)) (λ (jo : (Int × (List bW))) =>
 ah (decide (jo.1 < (x1.length : Int)))
 ((idx x1 jo.1).bind λ jv =>
 (idx x0.aO jv).bind λ iK =>
 (cy jo.2 [iK]).bind λ iJ =>
 some (.inl (i64 (jo.1 + 1), iJ)))
 (some (.inr jo.2))) (0, [])).bind (λ (vm : (List bW)) =>
 some (⟨x0.aE, ⟨x0.aa.an, x0.aa.ax⟩, x0.az, x0.Out, vm⟩ : aq))
noncomputable def yI (x0 : (List Int)) (x1 : (List Int)) : Option Bool :=
 ah (decide ((x0.length : Int) < (x1.length : Int)))
 (some true)
 (ah ((x0.length : Int) == (x1.length : Int))
 ((xM x0 x1).bind λ fQ =>
 some fQ)
 (some false))
noncomputable def Nh (x0 : Int) (x1 : Int) : Option (List (List Int)) :=
 (bt (O := (List (List Int))) (λ (lJ : ((List (List Int)) × Int)) =>
 ah (decide (lJ.2 < x0))
 ((bt (O := (List (List Int))) (λ (kQ : ((List (List Int)) × Int)) =>
 ah (decide (kQ.2 < (lJ.1.length : Int)))
 ((idx kQ.1 kQ.2).bind λ V4 =>
 ah (decide ((V4.length : Int) < x1))
 ((idx kQ.1 kQ.2).bind λ V5 =>
 (cy [] V5).bind λ V6 =>
 (cy V6 [lJ.2]).bind λ NQ =>
 (cy kQ.1 [NQ]).bind λ V7 =>
 some (.inl (V7, i64 (kQ.2 + 1))))
 (some (.inl (kQ.1, i64 (kQ.2 + 1)))))
 (some (.inr kQ.1))) (lJ.1, 0)).bind (λ (IK : (List (List Int))) =>
 some (.inl (IK, i64 (lJ.2 + 1)))))
 (some (.inr lJ.1))) ([[]], 0)).bind (λ (IJ : (List (List Int))) =>
 some IJ)
noncomputable def m32 (x0 : aq) : Option ((List Int) × Int) :=
 (qQ x0).bind λ ij =>
 ah (ij != 0)
 (some ([], ij))
 ((AF x0).bind λ kV =>
 ah (decide ((kV.length : Int) > 0))
 (some ([], 0))
 ((tL x0 []).bind λ vK =>
 (AF vK).bind λ DM =>
 ah ((DM.length : Int) == 0)
 (some ([], 8))
 ((yH (x0.aO.length : Int)).bind λ rR =>
 (Nh (x0.aO.length : Int) (x0.aO.length : Int)).bind λ oW =>
 (bt (O := (List Int)) (λ (lE : ((List Int) × Int)) =>
 ah (decide (lE.2 < (oW.length : Int)))
 (((((idx oW lE.2).bind λ BJ =>
 (yI BJ lE.1).bind λ Eo =>
 ah Eo
 ((idx oW lE.2).bind λ Vf =>
 (tL x0 Vf).bind λ Vg =>
 (AF Vg).bind λ Vh =>
 some ((Vh.length : Int) == 0))
 (some false)) : Option Bool)).bind (λ (LC : Bool) =>
 ah LC
 ((idx oW lE.2).bind λ adu =>
 some (.inl (adu, i64 (lE.2 + 1))))
 (some (.inl (lE.1, i64 (lE.2 + 1))))))
 (some (.inr lE.1))) (rR, 0)).bind (λ (Bt : (List Int)) =>
 some (Bt, 0)))))
noncomputable def Ny (x0 : (List cB)) (x1 : Int) : Option Int :=
 (bt (O := Int) (λ (nE : (Int × Int)) =>
 ah (decide (nE.2 < (x0.length : Int)))
 ((bt (O := Int) (λ (qY : (Int × Int)) =>
 ah (decide (qY.2 < (x0.length : Int)))
 ((idx x0 qY.2).bind λ adw =>
 (idx adw.fD x1).bind λ tC =>
 (idx x0 nE.2).bind λ tD =>
 (idx tD.fD x1).bind λ adx =>
 ah (tC == adx)
 (some (.inl (i64 (qY.1 + 1), i64 (qY.2 + 1))))
 (some (.inl (qY.1, i64 (qY.2 + 1)))))
 (some (.inr qY.1))) (0, 0)).bind (λ (HE : Int) =>
 some (.inl (jK nE.1 [HE], i64 (nE.2 + 1)))))
 (some (.inr nE.1))) (0, 0)).bind (λ (vi : Int) =>
 some vi)
noncomputable def NF (x0 : aq) : Option (Int × Int × Int) :=
 (s4 x0 0).bind λ fC =>
 ah (fC.2 != 0)
 (some (0, 0, fC.2))
 ((bt (O := (Int × Int)) (λ (cu : (Int × Int × Int)) =>
 ah (decide (cu.2.2 < (x0.az.length : Int)))
 ((Ny fC.1 cu.2.2).bind λ eY =>
 ah (decide (eY < cu.2.1))
 (some (.inl (cu.2.2, eY, i64 (cu.2.2 + 1))))
 (some (.inl (cu.1, cu.2.1, i64 (cu.2.2 + 1)))))
 (some (.inr (cu.1, cu.2.1)))) ((-1), (fC.1.length : Int), 0)).bind (λ (eU : (Int × Int)) =>
 some (eU.1, eU.2, 0)))
noncomputable def Ee (x0 : aq) : Option (aq × Int) :=
 (s4 x0 0).bind λ fR =>
 ah (fR.2 != 0)
 (some ((⟨0, ⟨0, 0⟩, [], [], []⟩ : aq), fR.2))
 (some (x0, 0))
noncomputable def NG (x0 : aq) (x1 : bW) : Option (aq × Int) :=
 (qQ x0).bind λ dW =>
 ah (dW != 0)
 (some ((⟨0, ⟨0, 0⟩, [], [], []⟩ : aq), dW))
 ((tT x0 x1).bind λ cJ =>
 (Ee cJ).bind λ js =>
 some (js.1, js.2))
noncomputable def AW (x0 : aq) (x1 : aq) : Option Bool :=
 (((ah (x0.aE != x1.aE)
 (some true)
 (ah (!(Ea x0.aa x1.aa == true))
 (some true)
 (ah ((x0.az.length : Int) != (x1.az.length : Int))
 (some true)
 (ah ((x0.aO.length : Int) != (x1.aO.length : Int))
 (some true)
 ((pM x0.Out x1.Out).bind λ N2 =>
 some (!N2)))))) : Option Bool)).bind (λ (L1 : Bool) =>
 ah L1
 (some false)
 ((bt (O := (Unit ⊕ Bool)) (λ (xU : Int) =>
 ah (decide (xU < (x0.az.length : Int)))
 ((idx x0.az xU).bind λ kN =>
 (idx x1.az xU).bind λ kO =>
 ah (!(kN.Name.toList == kO.Name.toList))
 (some (.inr (.inr false)))
 (ah (kN.dz != kO.dz)
 (some (.inr (.inr false)))
 (ah (!(Ea kN.Weight kO.Weight == true))
 (some (.inr (.inr false)))
 ((pM kN.On kO.On).bind λ adt =>
 ah (!adt)
 (some (.inr (.inr false)))
 (some (.inl (i64 (xU + 1))))))))
 (some (.inr (.inl ())))) 0).bind (Sum.elim (λ (_ : Unit) =>
 (bt (O := (Unit ⊕ Bool)) (λ (A7 : Int) =>
 ah (decide (A7 < (x0.aO.length : Int)))
 ((idx x0.aO A7).bind λ adv =>
 (idx x1.aO A7).bind λ IT =>
 ah (!(VQ adv IT == true))
 (some (.inr (.inr false)))
 (some (.inl (i64 (A7 + 1)))))
 (some (.inr (.inl ())))) 0).bind (Sum.elim (λ (_ : Unit) =>
 some true)
  (λ q => some q)))
  (λ q => some q))))
noncomputable def NJ (x0 : aq) (x1 : Int) (x2 : Reach) : Option aq :=
 (cy [] x0.az).bind λ dW =>
 (idx dW x1).bind λ fJ =>
 some (⟨x0.aE, ⟨x0.aa.an, x0.aa.ax⟩, dW.set x1.toNat (⟨fJ.Name, fJ.dz, ⟨x2.an, x2.ax⟩, fJ.On⟩ : cG), x0.Out, x0.aO⟩ : aq)
noncomputable def N1 (x0 : Reach) (x1 : Reach) : Option Reach :=
 some (⟨jK x0.an [x1.an], s5 x0.ax [x1.ax]⟩ : Reach)
noncomputable def NH (x0 : aq) (x1 : Int) (x2 : Reach) : Option (aq × Int) :=
 (qQ x0).bind λ p6 =>
 ah (p6 != 0)
 (some ((⟨0, ⟨0, 0⟩, [], [], []⟩ : aq), p6))
 ((AG x0 x1).bind λ mS =>
 ah (!mS)
 (some ((⟨0, ⟨0, 0⟩, [], [], []⟩ : aq), 6))
 ((AH x2 1 99).bind λ fA =>
 ah (!fA)
 (some ((⟨0, ⟨0, 0⟩, [], [], []⟩ : aq), 1))
 ((idx x0.az x1).bind λ Br =>
 (N1 Br.Weight x2).bind λ eY =>
 ah (decide (eY.an > eY.ax))
 (some ((⟨0, ⟨0, 0⟩, [], [], []⟩ : aq), 9))
 ((NJ x0 x1 eY).bind λ iX =>
 (Ee iX).bind λ jv =>
 some (jv.1, jv.2)))))
noncomputable def NI (x0 : aq) (x1 : Int) : Option (aq × Int) :=
 (qQ x0).bind λ nO =>
 ah (nO != 0)
 (some ((⟨0, ⟨0, 0⟩, [], [], []⟩ : aq), nO))
 ((AI x0 x0.Out [x1]).bind λ gP =>
 ah (gP != 0)
 (some ((⟨0, ⟨0, 0⟩, [], [], []⟩ : aq), gP))
 ((m64 x0 x1).bind λ fc =>
 (Ee fc).bind λ eO =>
 some (eO.1, eO.2)))
noncomputable def m4 (x0 : aq) (x1 : bW) (x2 : Int) (x3 : Reach) : Option Bool :=
 (AO x0).bind λ nY =>
 ah nY
 ((nA).bind λ yK =>
 some yK)
 ((tS x0).bind λ mV =>
 (m32 x0).bind λ DW =>
 ((((pM mV.1 DW.1).bind λ rO =>
 ah (!rO)
 (some true)
 (some (mV.2 != DW.2))) : Option Bool)).bind (λ (aed : Bool) =>
 ah aed
 (some false)
 ((yD x0).bind λ kV =>
 (NF x0).bind λ iL =>
 (((ah (kV.1 != iL.1)
 (some true)
 (ah (kV.2.1 != iL.2.1)
 (some true)
 (some (kV.2.2 != iL.2.2)))) : Option Bool)).bind (λ (aef : Bool) =>
 ah aef
 (some false)
 ((yE x0 x1).bind λ oW =>
 (NG x0 x1).bind λ N3 =>
 ((((AW oW.1 N3.1).bind λ D5 =>
 ah (!D5)
 (some true)
 (some (oW.2 != N3.2))) : Option Bool)).bind (λ (ad8 : Bool) =>
 ah ad8
 (some false)
 ((yF x0 x2 x3).bind λ tO =>
 (NH x0 x2 x3).bind λ n3 =>
 ((((AW tO.1 n3.1).bind λ NO =>
 ah (!NO)
 (some true)
 (some (tO.2 != n3.2))) : Option Bool)).bind (λ (II : Bool) =>
 ah II
 (some false)
 ((vZ x0 x2).bind λ rS =>
 (NI x0 x2).bind λ Eh =>
 (AW rS.1 Eh.1).bind λ NP =>
 ah NP
 (ah (rS.2 == Eh.2)
 ((nA).bind λ rN =>
 some rN)
 (some false))
 (some false))))))))))
noncomputable def Hq (x0 : aq) : Option Bool :=
 (AO x0).bind λ fQ =>
 ah (!fQ)
 ((qQ x0).bind λ jO =>
 some (jO == 0))
 (some false)
noncomputable def Ix (x0 : (List Int)) (x1 : Int) : Option Int :=
 ah (decide (x1 < (x0.length : Int)))
 ((idx x0 x1).bind λ ig =>
 some (i64 ig))
 (some 0)
noncomputable def yG (x0 : Int) (x1 : Int) : Option (List Int) :=
 (bt (O := (List Int)) (λ (cu : ((List Int) × Int)) =>
 ah (decide (cu.2 < x1))
 ((tU .u8 x0 cu.2).bind λ iX =>
 (wL .and .u8 iX 1).bind λ jv =>
 ah (jv == 1)
 ((cy cu.1 [cu.2]).bind λ iJ =>
 some (.inl (iJ, i64 (cu.2 + 1))))
 (some (.inl (cu.1, i64 (cu.2 + 1)))))
 (some (.inr cu.1))) ([], 0)).bind (λ (eU : (List Int)) =>
 some eU)
noncomputable def BK (x0 : (List Int)) : Option (List Int) :=
 (bt (O := (List Int)) (λ (hU : ((List Int) × Int)) =>
 ah (decide (hU.2 < (x0.length : Int)))
 ((bt (O := Int) (λ (xV : Int) =>
 ah (decide (xV < (hU.1.length : Int)))
 ((idx hU.1 xV).bind λ Vi =>
 (idx x0 hU.2).bind λ ady =>
 ah (decide (Vi < ady))
 (some (.inl (i64 (xV + 1))))
 (some (.inr xV)))
 (some (.inr xV))) 0).bind (λ (xQ : Int) =>
 (((ah (xQ == (hU.1.length : Int))
 (some true)
 ((idx hU.1 xQ).bind λ Im =>
 (idx x0 hU.2).bind λ adz =>
 some (Im != adz))) : Option Bool)).bind (λ (LF : Bool) =>
 ah LF
 ((mX hU.1 0 xQ).bind λ vL =>
 (cy [] vL).bind λ MZ =>
 (idx x0 hU.2).bind λ Io =>
 (cy MZ [Io]).bind λ adA =>
 (mX hU.1 xQ (hU.1.length : Int)).bind λ adB =>
 (cy adA adB).bind λ Vj =>
 some (.inl (Vj, i64 (hU.2 + 1))))
 (some (.inl (hU.1, i64 (hU.2 + 1)))))))
 (some (.inr hU.1))) ([], 0)).bind (λ (LB : (List Int)) =>
 some LB)
noncomputable def m6 (x0 : aq) (x1 : (List Int)) (x2 : Int) (x3 : Int) : Option Bool :=
 (Hq x0).bind λ yK =>
 ah (!yK)
 ((nA).bind λ Ww =>
 some Ww)
 ((Ix x1 0).bind λ rO =>
 (Dj rO 1000).bind λ ij =>
 (bt (O := (Int × (List Int))) (λ (rM : (Int × Int × (List Int))) =>
 ah (decide (rM.2.1 < (x0.az.length : Int)))
 ((Ix x1 (i64 (1 + rM.2.1))).bind λ j9 =>
 (Dj j9 100).bind λ Ik =>
 (cy rM.2.2 [Ik]).bind λ n3 =>
 (idx x0.az rM.2.1).bind λ D6 =>
 (idx n3 rM.2.1).bind λ BM =>
 some (.inl (i64 (rM.1 + (i64 (D6.dz * BM))), i64 (rM.2.1 + 1), n3)))
 (some (.inr (rM.1, rM.2.2)))) (ij, 0, [])).bind (λ (vR : (Int × (List Int))) =>
 (Dj (i64 x3) (x0.az.length : Int)).bind λ wq =>
 (xZ .u8 1 wq).bind λ NO =>
 (wL .andNot .u8 x2 NO).bind λ ae3 =>
 (yG ae3 (x0.az.length : Int)).bind λ Bc =>
 (rI x0 (⟨ij, vR.2⟩ : cB) []).bind λ yP =>
 (rI x0 (⟨ij, vR.2⟩ : cB) Bc).bind λ rS =>
 (cy [] Bc).bind λ NP =>
 (cy NP [wq]).bind λ ads =>
 (BK ads).bind λ rN =>
 (rI x0 (⟨ij, vR.2⟩ : cB) rN).bind λ dh =>
 (yH (x0.az.length : Int)).bind λ yJ =>
 (rI x0 (⟨ij, vR.2⟩ : cB) yJ).bind λ yQ =>
 ah (yP.2 == 0)
 (ah (rS.2 == 0)
 (ah (dh.2 == 0)
 (ah (yQ.2 == 0)
 (ah (yP.1 == vR.1)
 ((idx x0.az wq).bind λ afM =>
 (idx vR.2 wq).bind λ IS =>
 ah (i64 (rS.1 - dh.1) == i64 (afM.dz * IS))
 (ah (yQ.1 == ij)
 ((nA).bind λ yR =>
 some yR)
 (some false))
 (some false))
 (some false))
 (some false))
 (some false))
 (some false))
 (some false)))
noncomputable def BE (x0 : (List Int)) (x1 : Int) : Option (List Int) :=
 (bt (O := (List Int)) (λ (eW : ((List Int) × Int)) =>
 ah (decide (eW.2 < (x0.length : Int)))
 (ah (eW.2 != x1)
 ((idx x0 eW.2).bind λ di =>
 (cy eW.1 [di]).bind λ rG =>
 some (.inl (rG, i64 (eW.2 + 1))))
 (some (.inl (eW.1, i64 (eW.2 + 1)))))
 (some (.inr eW.1))) ([], 0)).bind (λ (LN : (List Int)) =>
 some LN)
noncomputable def m12 (x0 : aq) (x1 : Int) : Option Bool :=
 (Hq x0).bind λ IL =>
 ah (!IL)
 ((nA).bind λ IM =>
 some IM)
 ((tS x0).bind λ j9 =>
 (oH x0).bind λ Ik =>
 (tL x0 []).bind λ tO =>
 (oH tO).bind λ n3 =>
 (((ah (Ik.2 != 0)
 (some true)
 (ah (n3.2 != 0)
 (some true)
 (ah (!((j9.2 == 8) == (n3.1 == 0)))
 (some true)
 (ah (j9.2 != 0)
 (ah (j9.2 != 8)
 (some true)
 ((AZ j9.1 (x0.aO.length : Int)).bind λ rN =>
 some (rN != 0)))
 ((AZ j9.1 (x0.aO.length : Int)).bind λ dh =>
 some (dh != 0)))))) : Option Bool)).bind (λ (II : Bool) =>
 ah II
 (some false)
 ((((ah (decide (Ik.1 > 0))
 (some true)
 (some (n3.1 == 0))) : Option Bool)).bind (λ (aea : Bool) =>
 ah aea
 ((((ah ((j9.1.length : Int) == 0)
 ((nA).bind λ afN =>
 some afN)
 (some false)) : Option Bool)).bind (λ (aeb : Bool) =>
 some aeb))
 ((tL x0 j9.1).bind λ gQ =>
 (oH gQ).bind λ yS =>
 (yG x1 (x0.aO.length : Int)).bind λ vU =>
 (tL x0 vU).bind λ BJ =>
 (oH BJ).bind λ Eo =>
 (((ah (yS.2 != 0)
 (some true)
 (ah (Eo.2 != 0)
 (some true)
 (ah ((j9.1.length : Int) == 0)
 (some true)
 (ah (yS.1 != 0)
 (some true)
 (ah (Eo.1 == 0)
 ((yI vU j9.1).bind λ IT =>
 some IT)
 (some false)))))) : Option Bool)).bind (λ (aec : Bool) =>
 ah aec
 (some false)
 ((bt (O := (Unit ⊕ Bool)) (λ (L4 : Int) =>
 ah (decide (L4 < (j9.1.length : Int)))
 ((BE j9.1 L4).bind λ ae4 =>
 (tL x0 ae4).bind λ tW =>
 (oH tW).bind λ Wu =>
 ah (Wu.2 != 0)
 (some (.inr (.inr false)))
 (ah (Wu.1 == 0)
 (some (.inr (.inr false)))
 (some (.inl (i64 (L4 + 1))))))
 (some (.inr (.inl ())))) 0).bind (Sum.elim (λ (_ : Unit) =>
 (nA).bind λ afO =>
 some afO)
  (λ q => some q)))))))))
end Go.Proofs.YtabamagholjdcaaGreatDoor
