/- Walks, part 5: each function computes its model. -/
import Derived.Test.YtabamagholjdcaaGreatDoorQAHuP8
import Derived.Test.YtabamagholjdcaaGreatDoorQALgD
namespace Go.Proofs.YtabamagholjdcaaGreatDoor
open Go.Lg Go.Proofs
set_option maxRecDepth 100000
set_option maxHeartbeats 4000000
section
variable {B : Base} {main : Bool} {ag : Jd Tryz.prog B main} {R : aI} {H : au}
theorem aUE {PW : Value → World → Prop} (x0 : aq) (x1 : (List Int)) {aC aD aH v1 : Value} (hG : fM R) (hK : y6 (Hv Tryz.prog B PW)) (ay : aj bm 5 R aC x0.az) (aB : aj CZ 1 R aD x0.Out) (aF : aj bh 2 R aH x0.aO) (h1 : aj CZ 1 R v1 x1) {r : Bool} (hM : m3 x0 x1 = some r) : Jo Tryz.prog B PW 3 #[.agg #[iv x0.aE, iv x0.aa.an, iv x0.aa.ax, aC, aD, aH], v1] R H (λ v R' H' => aN R R' ∧ H = H' ∧ v = .bool r) := by
 unfold m3 at hM
 refine Jo.aX (args := [.agg #[iv x0.aE, iv x0.aa.an, iv x0.aa.ax, aC, aD, aH], v1]) Tryz.func3 rfl (n := 134) rfl rfl λ hk => ?_
 refine sg aQ ?_
 refine bx λ b76 => ?_
 refine vs 1 ?_
 refine es ?_
 refine sq ?_
 refine At.gR hM (λ (Bu : Bool) R' H' st' => R = R' ∧ H' = (b76, .cells #[iv x0.aE, iv x0.aa.an, iv x0.aa.ax, aC, aD, aH] 28) :: H ∧ aK st' [(1, v1), (2, .pointer (some ⟨b76, 0, none⟩)), (21, .bool Bu)])  ?_ ?_
 rotate_right
 ·intro yT hM adY
  refine At.rg dY ?_
  refine lN [_, _, _, _, _, _] 0 6 aU z0 ?_
  obtain ⟨nY, Cz, hM⟩ := ao hM
  refine At.cv aej (aeT x0 ay aB aF Cz) ?_
  rintro _ _ _ ⟨rfl, rfl, rfl⟩
  refine vs 1 ?_
  refine bA hM (λ aaq hM => ?_) (λ aaq hM => ?_)
  ·refine At.kn 17 aaq ?_
   refine vs 4 ?_
   refine er ?_
   exact adY _ (af hM).symm _ _ _ ⟨rfl, rfl, aA.sub ⟨rfl, rfl, rfl, trivial⟩⟩
  refine At.kn 17 aaq ?_
  refine vs 1 ?_
  refine ls h1 Tryz.underlying25 ?_
  refine vs 2 ?_
  refine er ?_
  exact adY _ (af hM).symm _ _ _ ⟨rfl, rfl, aA.sub ⟨rfl, rfl, rfl, trivial⟩⟩
 rintro Bu aC2 aCZ aD0 ⟨rfl, rfl, aev⟩ hM
 refine At.sub aev ?_
 refine sc hM (λ Ed hM => ?_) (λ Ed hM => ?_)
 ·refine sg aQ ?_
  obtain ⟨mV, CA, hM⟩ := ao hM
  refine At.cv V9 (Wj  hG hK CA) ?_
  rintro _ aSL _ ⟨VU, rfl, rfl⟩
  refine vs 1 ?_
  refine er ?_
  obtain rfl := af hM
  exact At.wo Tryz.func3 (by kernel_rfl) (.tmp rfl .nil) (so sr) hk ⟨VU, rfl, rfl⟩
 refine sp ?_
 refine sg dY ?_
 refine lN [_, _, _, _, _, _] 0 6 aU z0 ?_
 obtain ⟨DW, aLU, hM⟩ := ao hM
 refine At.cv ae9 (afw x0 hG hK ay aB aF aLU) ?_
 rintro _ aRv _ ⟨DY, rfl, aVi, aCA, rfl⟩
 replace ay := ay.mono DY
 replace aB := aB.mono DY
 replace aF := aF.mono DY
 replace h1 := h1.mono DY
 replace hG := hG.mono DY
 refine vs 5 ?_
 refine nx dY ?_
 refine lN [_, _, _, _, _, _] 0 6 aU z0 ?_
 obtain ⟨D8, aeO, hM⟩ := ao hM
 refine At.cv aDe (aDD x0 ay aB aF aeO) ?_
 rintro _ aSM _ ⟨VH, rfl, aWJ, aT2, rfl⟩
 replace ay := ay.mono VH
 replace aB := aB.mono VH
 replace aF := aF.mono VH
 replace h1 := h1.mono VH
 replace hG := hG.mono VH
 replace aCA := aCA.mono VH
 refine vs 5 ?_
 refine es ?_
 refine sq ?_
 refine At.gR hM (λ (aee : Bool) R' H' st' => aSM = R' ∧ H' = (b76, .cells #[iv x0.aE, iv x0.aa.an, iv x0.aa.ax, aC, aD, aH] 28) :: H ∧ aK st' [(1, v1), (2, .pointer (some ⟨b76, 0, none⟩)), (41, .bool aee)])  ?_ ?_
 rotate_right
 ·intro Wv hM aRH
  refine At.rg gd ?_
  refine vs 2 ?_
  obtain ⟨ij, CB, hM⟩ := ao hM
  refine At.cv JY (Le DW.1 D8.1 aCA.rd aT2.rd CB) ?_
  rintro _ _ _ ⟨rfl, rfl, rfl⟩
  refine vs 2 ?_
  refine bA hM (λ xh hM => ?_) (λ xh hM => ?_)
  ·refine At.kn 37 xh ?_
   refine vs 4 ?_
   refine er ?_
   exact aRH _ (af hM).symm _ _ _ ⟨rfl, rfl, aA.sub ⟨rfl, rfl, rfl, trivial⟩⟩
  refine At.kn 37 xh ?_
  refine vs 4 ?_
  refine er ?_
  exact aRH _ (af hM).symm _ _ _ ⟨rfl, rfl, aA.sub ⟨rfl, rfl, rfl, trivial⟩⟩
 rintro aee aVE aVs aWh ⟨rfl, rfl, aTv⟩ hM
 refine At.sub aTv ?_
 refine sc hM (λ Np hM => ?_) (λ Np hM => ?_)
 ·refine sg aL ?_
  refine vs 1 ?_
  refine er ?_
  obtain rfl := af hM
  exact At.wo Tryz.func3 (by kernel_rfl) (.tmp rfl .nil) (so sr) hk ⟨(DY.trans VH), rfl, rfl⟩
 refine sp ?_
 refine sg eC ?_
 refine lN [_, _, _, _, _, _] 0 6 aU z0 ?_
 refine vs 1 ?_
 obtain ⟨iL, CC, hM⟩ := ao hM
 refine At.cv NT (NY x0 x1 hG ay aB aF h1 CC) ?_
 rintro _ aRw _ ⟨FG, rfl, rfl⟩
 replace ay := ay.mono FG
 replace aB := aB.mono FG
 replace aF := aF.mono FG
 replace h1 := h1.mono FG
 replace hG := hG.mono FG
 refine vs 5 ?_
 refine nx eC ?_
 refine lN [_, _, _, _, _, _] 0 6 aU z0 ?_
 refine vs 1 ?_
 obtain ⟨yL, aeP, hM⟩ := ao hM
 refine At.cv aDf (aDE x0 x1 ay aB aF h1.rd aeP) ?_
 rintro _ aSN _ ⟨ZK, rfl, rfl⟩
 replace ay := ay.mono ZK
 replace aB := aB.mono ZK
 replace aF := aF.mono ZK
 replace hG := hG.mono ZK
 refine vs 5 ?_
 refine es ?_
 refine sq ?_
 refine At.gR hM (λ (tM : Bool) R' H' st' => aSN = R' ∧ H' = (b76, .cells #[iv x0.aE, iv x0.aa.an, iv x0.aa.ax, aC, aD, aH] 28) :: H ∧ aK st' [(2, .pointer (some ⟨b76, 0, none⟩)), (61, .bool tM)])  ?_ ?_
 rotate_right
 ·intro oX hM adZ
  refine At.rg eC ?_
  refine vs 4 ?_
  refine bA hM (λ z9 hM => ?_) (λ z9 hM => ?_)
  ·refine At.kn 57 z9 ?_
   refine vs 4 ?_
   refine er ?_
   exact adZ _ (af hM).symm _ _ _ ⟨rfl, rfl, aA.sub ⟨rfl, rfl, trivial⟩⟩
  refine At.kn 57 z9 ?_
  refine vs 4 ?_
  refine er ?_
  exact adZ _ (af hM).symm _ _ _ ⟨rfl, rfl, aA.sub ⟨rfl, rfl, trivial⟩⟩
 rintro tM aC3 aC0 aD1 ⟨rfl, rfl, aew⟩ hM
 refine At.sub aew ?_
 refine sc hM (λ yp hM => ?_) (λ yp hM => ?_)
 ·refine sg aL ?_
  refine vs 1 ?_
  refine er ?_
  obtain rfl := af hM
  exact At.wo Tryz.func3 (by kernel_rfl) (.tmp rfl .nil) (so sr) hk ⟨(((DY.trans VH).trans FG).trans ZK), rfl, rfl⟩
 refine sp ?_
 refine sg dY ?_
 refine lN [_, _, _, _, _, _] 0 6 aU z0 ?_
 obtain ⟨rR, Nq, hM⟩ := ao hM
 refine At.cv NU (NZ x0 hG hK ay aB aF Nq) ?_
 rintro _ aC4 _ ⟨Bs, rfl, rfl⟩
 replace ay := ay.mono Bs
 replace aB := aB.mono Bs
 replace aF := aF.mono Bs
 replace hG := hG.mono Bs
 refine vs 5 ?_
 refine nx dY ?_
 refine lN [_, _, _, _, _, _] 0 6 aU z0 ?_
 obtain ⟨oW, aar, hM⟩ := ao hM
 refine At.cv aDg (aDF x0 ay aB aF aar) ?_
 rintro _ VC _ ⟨rQ, rfl, rfl⟩
 replace ay := ay.mono rQ
 replace aB := aB.mono rQ
 replace aF := aF.mono rQ
 replace hG := hG.mono rQ
 refine vs 5 ?_
 refine es ?_
 refine sq ?_
 refine At.gR hM (λ (Bt : Bool) R' H' st' => VC = R' ∧ H' = (b76, .cells #[iv x0.aE, iv x0.aa.an, iv x0.aa.ax, aC, aD, aH] 28) :: H ∧ aK st' [(2, .pointer (some ⟨b76, 0, none⟩)), (79, .bool Bt)])  ?_ ?_
 rotate_right
 ·intro N2 hM adX
  refine At.rg eC ?_
  refine vs 4 ?_
  refine bA hM (λ Cv hM => ?_) (λ Cv hM => ?_)
  ·refine At.kn 75 Cv ?_
   refine vs 4 ?_
   refine er ?_
   exact adX _ (af hM).symm _ _ _ ⟨rfl, rfl, aA.sub ⟨rfl, rfl, trivial⟩⟩
  refine At.kn 75 Cv ?_
  refine vs 4 ?_
  refine er ?_
  exact adX _ (af hM).symm _ _ _ ⟨rfl, rfl, aA.sub ⟨rfl, rfl, trivial⟩⟩
 rintro Bt aC1 aCY aDZ ⟨rfl, rfl, aeu⟩ hM
 refine At.sub aeu ?_
 refine sc hM (λ aex hM => ?_) (λ aex hM => ?_)
 ·refine sg aL ?_
  refine vs 1 ?_
  refine er ?_
  obtain rfl := af hM
  exact At.wo Tryz.func3 (by kernel_rfl) (.tmp rfl .nil) (so sr) hk ⟨(((((DY.trans VH).trans FG).trans ZK).trans Bs).trans rQ), rfl, rfl⟩
 refine sp ?_
 refine sg gd ?_
 refine lN [_, _, _, _, _, _] 0 6 aU z0 ?_
 obtain ⟨D5, aLy, hM⟩ := ao hM
 refine At.cv afa (afx x0 hG hK ay aB aF aLy) ?_
 rintro _ aVJ _ ⟨aeq, rfl, aWm, aLz, rfl⟩
 replace ay := ay.mono aeq
 replace aB := aB.mono aeq
 replace aF := aF.mono aeq
 replace hG := hG.mono aeq
 refine vs 7 ?_
 refine nx gd ?_
 refine lN [_, _, _, _, _, _] 0 6 aU z0 ?_
 obtain ⟨NN, aTH, hM⟩ := ao hM
 refine At.cv aDh (aDG x0 ay aB aF aTH) ?_
 rintro _ aSH _ ⟨ad0, rfl, aWn, aTI, rfl⟩
 replace ay := ay.mono ad0
 replace aB := aB.mono ad0
 replace aF := aF.mono ad0
 replace hG := hG.mono ad0
 replace aLz := aLz.mono ad0
 refine vs 7 ?_
 refine es ?_
 refine sq ?_
 refine At.gR hM (λ (ad9 : Bool) R' H' st' => aSH = R' ∧ H' = (b76, .cells #[iv x0.aE, iv x0.aa.an, iv x0.aa.ax, aC, aD, aH] 28) :: H ∧ aK st' [(2, .pointer (some ⟨b76, 0, none⟩)), (105, .bool ad9)])  ?_ ?_
 rotate_right
 ·intro IM hM aKT
  refine At.rg El ?_
  refine vs 2 ?_
  obtain ⟨n3, as0, hM⟩ := ao hM
  refine At.cv JY (Le D5.1 NN.1 aLz.rd aTI.rd as0) ?_
  rintro _ _ _ ⟨rfl, rfl, rfl⟩
  refine vs 2 ?_
  refine bA hM (λ aLo hM => ?_) (λ aLo hM => ?_)
  ·refine At.kn 96 aLo ?_
   refine vs 9 ?_
   refine er ?_
   exact aKT _ (af hM).symm _ _ _ ⟨rfl, rfl, aA.sub ⟨rfl, rfl, trivial⟩⟩
  refine At.kn 96 aLo ?_
  refine vs 2 ?_
  refine At.s rfl rfl (Ox.aCi rfl rfl rfl Tryz.underlying4 rfl rfl (.put rfl) ?_)
  refine vs 2 ?_
  refine bA hM (λ aLp hM => ?_) (λ aLp hM => ?_)
  ·refine At.kn 101 aLp ?_
   refine vs 4 ?_
   refine er ?_
   exact aKT _ (af hM).symm _ _ _ ⟨rfl, rfl, aA.sub ⟨rfl, rfl, trivial⟩⟩
  refine At.kn 101 aLp ?_
  refine vs 4 ?_
  refine er ?_
  exact aKT _ (af hM).symm _ _ _ ⟨rfl, rfl, aA.sub ⟨rfl, rfl, trivial⟩⟩
 rintro ad9 aVx aVl aWa ⟨rfl, rfl, aTo⟩ hM
 refine At.sub aTo ?_
 refine sc hM (λ aCx hM => ?_) (λ aCx hM => ?_)
 ·refine sg aL ?_
  refine vs 1 ?_
  refine er ?_
  obtain rfl := af hM
  exact At.wo Tryz.func3 (by kernel_rfl) (.tmp rfl .nil) (so sr) hk ⟨(((((((DY.trans VH).trans FG).trans ZK).trans Bs).trans rQ).trans aeq).trans ad0), rfl, rfl⟩
 refine sp ?_
 refine sg gd ?_
 refine lN [_, _, _, _, _, _] 0 6 aU z0 ?_
 obtain ⟨Bc, aLC, hM⟩ := ao hM
 refine At.cv afb (afy x0 hG hK ay aB aF aLC) ?_
 rintro _ aSJ _ ⟨Fy, rfl, aVh, VK, rfl⟩
 replace ay := ay.mono Fy
 replace aB := aB.mono Fy
 replace aF := aF.mono Fy
 replace hG := hG.mono Fy
 refine vs 7 ?_
 refine nx gd ?_
 refine lN [_, _, _, _, _, _] 0 6 aU z0 ?_
 obtain ⟨yP, aLD, hM⟩ := ao hM
 refine At.cv aDi (aDH x0 ay aB aF aLD) ?_
 rintro _ aSK _ ⟨IA, rfl, aWp, aTK, rfl⟩
 replace hG := hG.mono IA
 replace VK := VK.mono IA
 refine vs 7 ?_
 refine nx Wq ?_
 refine vs 2 ?_
 obtain ⟨afK, aTL, hM⟩ := ao hM
 refine At.cv JY (Le Bc.1 yP.1 VK.rd aTK.rd aTL) ?_
 rintro _ _ _ ⟨rfl, rfl, rfl⟩
 refine vs 1 ?_
 refine bA hM (λ arQ hM => ?_) (λ arQ hM => ?_)
 ·refine At.kn 121 arQ ?_
  refine vs 5 ?_
  refine bA hM (λ arR hM => ?_) (λ arR hM => ?_)
  ·refine At.kn 126 arR ?_
   refine vs 5 ?_
   refine bA hM (λ arS hM => ?_) (λ arS hM => ?_)
   ·refine At.kn 131 arS ?_
    obtain ⟨afL, aTM, hM⟩ := ao hM
    refine At.cv V9 (Wj  hG hK aTM) ?_
    rintro _ aVO _ ⟨aS7, rfl, rfl⟩
    refine vs 2 ?_
    refine er ?_
    obtain rfl := af hM
    exact At.wo Tryz.func3 (by kernel_rfl) (.tmp rfl .nil) (so sr) hk ⟨((((((((((DY.trans VH).trans FG).trans ZK).trans Bs).trans rQ).trans aeq).trans ad0).trans Fy).trans IA).trans aS7), rfl, rfl⟩
   refine At.kn 131 arS ?_
   refine vs 3 ?_
   refine er ?_
   obtain rfl := af hM
   exact At.wo Tryz.func3 (by kernel_rfl) (.tmp rfl .nil) (so sr) hk ⟨(((((((((DY.trans VH).trans FG).trans ZK).trans Bs).trans rQ).trans aeq).trans ad0).trans Fy).trans IA), rfl, rfl⟩
  refine At.kn 126 arR ?_
  refine vs 8 ?_
  refine er ?_
  obtain rfl := af hM
  exact At.wo Tryz.func3 (by kernel_rfl) (.tmp rfl .nil) (so sr) hk ⟨(((((((((DY.trans VH).trans FG).trans ZK).trans Bs).trans rQ).trans aeq).trans ad0).trans Fy).trans IA), rfl, rfl⟩
 refine At.kn 121 arQ ?_
 refine vs 13 ?_
 refine er ?_
 obtain rfl := af hM
 exact At.wo Tryz.func3 (by kernel_rfl) (.tmp rfl .nil) (so sr) hk ⟨(((((((((DY.trans VH).trans FG).trans ZK).trans Bs).trans rQ).trans aeq).trans ad0).trans Fy).trans IA), rfl, rfl⟩
end
end Go.Proofs.YtabamagholjdcaaGreatDoor
