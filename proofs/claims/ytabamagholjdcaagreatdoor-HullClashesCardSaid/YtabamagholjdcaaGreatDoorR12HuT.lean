/- Walks, part 8: each function computes its model. -/
import Derived.Test.YtabamagholjdcaaGreatDoorQAHuP8
import Derived.Test.YtabamagholjdcaaGreatDoorQALgD
namespace Go.Proofs.YtabamagholjdcaaGreatDoor
open Go.Lg Go.Proofs
set_option maxRecDepth 100000
set_option maxHeartbeats 4000000
section
variable {B : Base} {main : Bool} {ag : Jd Tryz.prog B main} {R : aI} {H : au}
theorem aUg {PW : Value → World → Prop} (x0 : aq) (x1 : Int) {aC aD aH : Value} (hG : fM R) (hK : y6 (Hv Tryz.prog B PW)) (ay : aj bm 5 R aC x0.az) (aB : aj CZ 1 R aD x0.Out) (aF : aj bh 2 R aH x0.aO) {r : Bool} (hM : m12 x0 x1 = some r) : Jo Tryz.prog B PW 12 #[.agg #[iv x0.aE, iv x0.aa.an, iv x0.aa.ax, aC, aD, aH], .int .u8 x1] R H (λ v R' H' => aN R R' ∧ H = H' ∧ v = .bool r) := by
 unfold m12 at hM
 refine Jo.aX (args := [.agg #[iv x0.aE, iv x0.aa.an, iv x0.aa.ax, aC, aD, aH], .int .u8 x1]) Tryz.func12 rfl (n := 145) rfl rfl λ hk => ?_
 refine sg aQ ?_
 refine bx λ VO => ?_
 refine vs 1 ?_
 refine es ?_
 refine sg aS ?_
 refine lN [_, _, _, _, _, _] 0 6 aU z0 ?_
 obtain ⟨IL, aeB, hM⟩ := ao hM
 refine At.cv aCk (aCO x0 ay aB aF aeB) ?_
 rintro _ _ _ ⟨rfl, rfl, rfl⟩
 refine vs 1 ?_
 refine er ?_
 refine sc hM (λ VW hM => ?_) (λ VW hM => ?_)
 ·refine sg aQ ?_
  obtain ⟨IM, aeC, hM⟩ := ao hM
  refine At.cv V9 (Wj  hG hK aeC) ?_
  rintro _ aVK _ ⟨aS6, rfl, rfl⟩
  refine vs 1 ?_
  refine er ?_
  obtain rfl := af hM
  exact At.wo Tryz.func12 (by kernel_rfl) (.tmp rfl .nil) (so sr) hk ⟨aS6, rfl, rfl⟩
 refine sp ?_
 refine sg dY ?_
 refine lN [_, _, _, _, _, _] 0 6 aU z0 ?_
 obtain ⟨j9, aas, hM⟩ := ao hM
 refine At.cv aek (aeU x0 hG ay aB aF aas) ?_
 rintro _ aVL _ ⟨ad1, rfl, aD4, DZ, rfl⟩
 replace ay := ay.mono ad1
 replace aB := aB.mono ad1
 replace aF := aF.mono ad1
 replace hG := hG.mono ad1
 refine vs 5 ?_
 refine nx dY ?_
 refine lN [_, _, _, _, _, _] 0 6 aU z0 ?_
 obtain ⟨Ik, aLA, hM⟩ := ao hM
 refine At.cv NV (N0 x0 hG ay aB aF aLA) ?_
 rintro _ aVM _ ⟨ZI, rfl, rfl⟩
 replace ay := ay.mono ZI
 replace aB := aB.mono ZI
 replace aF := aF.mono ZI
 replace hG := hG.mono ZI
 replace DZ := DZ.mono ZI
 refine vs 5 ?_
 refine nx eC ?_
 refine lN [_, _, _, _, _, _] 0 6 aU z0 ?_
 obtain ⟨tO, aat, hM⟩ := ao hM
 refine At.cv PJ (Ul x0 [] ay aB aF aj.nil.rd aat) ?_
 rintro _ aSI _ ⟨IP, rfl, aSw, aSx, aSy, aBS, aBT, aBU, rfl⟩
 replace ay := ay.mono IP
 replace aB := aB.mono IP
 replace aF := aF.mono IP
 replace hG := hG.mono IP
 replace DZ := DZ.mono IP
 obtain ⟨n3, as0, hM⟩ := ao hM
 refine At.cv NV (N0 tO hG aBS aBT aBU as0) ?_
 rintro _ aCd _ ⟨Fx, rfl, rfl⟩
 replace ay := ay.mono Fx
 replace aB := aB.mono Fx
 replace aF := aF.mono Fx
 replace hG := hG.mono Fx
 replace DZ := DZ.mono Fx
 refine vs 5 ?_
 refine es ?_
 refine sq ?_
 refine At.gR hM (λ (II : Bool) R' H' st' => aCd = R' ∧ H' = (VO, .cells #[iv x0.aE, iv x0.aa.an, iv x0.aa.ax, aC, aD, aH] 28) :: H ∧ aK st' [(1, .int .u8 x1), (2, .pointer (some ⟨VO, 0, none⟩)), (5, aD4), (7, iv Ik.1), (9, iv n3.1), (67, .bool II)])  ?_ ?_
 rotate_right
 ·intro D6 hM aem
  refine At.rg aDW ?_
  refine vs 3 ?_
  refine bA hM (λ arQ hM => ?_) (λ arQ hM => ?_)
  ·refine At.kn 41 arQ ?_
   refine vs 26 ?_
   refine er ?_
   exact aem _ (af hM).symm _ _ _ ⟨rfl, rfl, aA.sub ⟨rfl, rfl, rfl, rfl, rfl, rfl, trivial⟩⟩
  refine At.kn 41 arQ ?_
  refine vs 4 ?_
  refine bA hM (λ arR hM => ?_) (λ arR hM => ?_)
  ·refine At.kn 45 arR ?_
   refine vs 22 ?_
   refine er ?_
   exact aem _ (af hM).symm _ _ _ ⟨rfl, rfl, aA.sub ⟨rfl, rfl, rfl, rfl, rfl, rfl, trivial⟩⟩
  refine At.kn 45 arR ?_
  refine vs 4 ?_
  refine At.s rfl rfl (Ox.aCi rfl rfl rfl Tryz.underlying4 rfl rfl (.put rfl) ?_)
  refine vs 2 ?_
  refine bA hM (λ arS hM => ?_) (λ arS hM => ?_)
  ·refine At.kn 52 arS ?_
   refine vs 15 ?_
   refine er ?_
   exact aem _ (af hM).symm _ _ _ ⟨rfl, rfl, aA.sub ⟨rfl, rfl, rfl, rfl, rfl, rfl, trivial⟩⟩
  refine At.kn 52 arS ?_
  refine vs 3 ?_
  refine bA hM (λ arT hM => ?_) (λ arT hM => ?_)
  ·refine At.kn 55 arT ?_
   refine vs 5 ?_
   refine bA hM (λ RY hM => ?_) (λ RY hM => ?_)
   ·refine At.kn 60 RY ?_
    refine vs 7 ?_
    refine er ?_
    exact aem _ (af hM).symm _ _ _ ⟨rfl, rfl, aA.sub ⟨rfl, rfl, rfl, rfl, rfl, rfl, trivial⟩⟩
   refine At.kn 60 RY ?_
   refine vs 2 ?_
   refine ld 5 eu z0 ?_
   refine ls aF Tryz.underlying26 ?_
   obtain ⟨rN, S4, hM⟩ := ao hM
   refine At.cv ael (aeW j9.1 (x0.aO.length : Int) DZ.rd S4) ?_
   rintro _ _ _ ⟨rfl, rfl, rfl⟩
   refine vs 2 ?_
   refine er ?_
   exact aem _ (af hM).symm _ _ _ ⟨rfl, rfl, aA.sub ⟨rfl, rfl, rfl, rfl, rfl, rfl, trivial⟩⟩
  refine At.kn 55 arT ?_
  refine vs 7 ?_
  refine ld 5 eu z0 ?_
  refine ls aF Tryz.underlying26 ?_
  obtain ⟨dh, IB, hM⟩ := ao hM
  refine At.cv ael (aeW j9.1 (x0.aO.length : Int) DZ.rd IB) ?_
  rintro _ _ _ ⟨rfl, rfl, rfl⟩
  refine vs 2 ?_
  refine er ?_
  exact aem _ (af hM).symm _ _ _ ⟨rfl, rfl, aA.sub ⟨rfl, rfl, rfl, rfl, rfl, rfl, trivial⟩⟩
 rintro II aSF aSD aU4 ⟨rfl, rfl, aLn⟩ hM
 refine At.sub aLn ?_
 refine sc hM (λ aTB hM => ?_) (λ aTB hM => ?_)
 ·refine sg aL ?_
  refine vs 1 ?_
  refine er ?_
  obtain rfl := af hM
  exact At.wo Tryz.func12 (by kernel_rfl) (.tmp rfl .nil) (so sr) hk ⟨(((ad1.trans ZI).trans IP).trans Fx), rfl, rfl⟩
 refine sp ?_
 refine sq ?_
 refine sq ?_
 refine At.gR hM (λ (aea : Bool) R' H' st' => aCd = R' ∧ H' = (VO, .cells #[iv x0.aE, iv x0.aa.an, iv x0.aa.ax, aC, aD, aH] 28) :: H ∧ aK st' [(1, .int .u8 x1), (2, .pointer (some ⟨VO, 0, none⟩)), (5, aD4), (73, .bool aea)])  ?_ ?_
 rotate_right
 ·intro Wt hM aRE
  refine At.rg dy ?_
  refine vs 3 ?_
  refine bA hM (λ F7 hM => ?_) (λ F7 hM => ?_)
  ·refine At.kn 70 F7 ?_
   refine vs 3 ?_
   refine er ?_
   exact aRE _ (af hM).symm _ _ _ ⟨rfl, rfl, aA.sub ⟨rfl, rfl, rfl, rfl, trivial⟩⟩
  refine At.kn 70 F7 ?_
  refine vs 3 ?_
  refine er ?_
  exact aRE _ (af hM).symm _ _ _ ⟨rfl, rfl, aA.sub ⟨rfl, rfl, rfl, rfl, trivial⟩⟩
 rintro aea aVy aVm aWb ⟨rfl, rfl, aTp⟩ hM
 refine At.sub aTp ?_
 refine sc hM (λ VJ hM => ?_) (λ VJ hM => ?_)
 ·refine sq ?_
  refine At.gR hM (λ (aeb : Bool) R' H' st' => aN aCd R' ∧ H = H' ∧ aK st' [(4, .bool aeb)])  ?_ ?_
  rotate_right
  ·intro En hM aRF
   refine At.rg dY ?_
   refine vs 1 ?_
   refine ls DZ Tryz.underlying25 ?_
   refine vs 2 ?_
   refine bA hM (λ aLs hM => ?_) (λ aLs hM => ?_)
   ·refine At.kn 77 aLs ?_
    obtain ⟨afN, aTO, hM⟩ := ao hM
    refine At.cv V9 (Wj  hG hK aTO) ?_
    rintro _ aVS _ ⟨aS8, rfl, rfl⟩
    refine vs 2 ?_
    refine er ?_
    exact At.drop (so sr) (aRF _ (af hM).symm _ _ _ ⟨aS8, rfl, aA.sub ⟨rfl, trivial⟩⟩)
   refine At.kn 77 aLs ?_
   refine vs 3 ?_
   refine er ?_
   exact At.drop (so sr) (aRF _ (af hM).symm _ _ _ ⟨(rr), rfl, aA.sub ⟨rfl, trivial⟩⟩)
  rintro aeb aVz aVn aWc ⟨aS5, rfl, aTq⟩ hM
  refine At.sub aTq ?_
  obtain rfl := af hM
  exact At.wo Tryz.func12 (by kernel_rfl) (.tmp rfl .nil) sr hk ⟨((((ad1.trans ZI).trans IP).trans Fx).trans aS5), rfl, rfl⟩
 refine sp ?_
 refine sg gd ?_
 refine lN [_, _, _, _, _, _] 0 6 aU z0 ?_
 refine vs 1 ?_
 obtain ⟨gQ, Nr, hM⟩ := ao hM
 refine At.cv PJ (Ul x0 j9.1 ay aB aF DZ.rd Nr) ?_
 rintro _ aVT _ ⟨aer, rfl, aWx, aWy, aWz, aTP, aTQ, aTR, rfl⟩
 replace ay := ay.mono aer
 replace aB := aB.mono aer
 replace aF := aF.mono aer
 replace hG := hG.mono aer
 replace DZ := DZ.mono aer
 obtain ⟨yS, aeK, hM⟩ := ao hM
 refine At.cv NV (N0 gQ hG aTP aTQ aTR aeK) ?_
 rintro _ aVU _ ⟨aes, rfl, rfl⟩
 replace ay := ay.mono aes
 replace aB := aB.mono aes
 replace aF := aF.mono aes
 replace hG := hG.mono aes
 replace DZ := DZ.mono aes
 refine vs 5 ?_
 refine nx dy ?_
 refine vs 2 ?_
 refine ld 5 eu z0 ?_
 refine ls aF Tryz.underlying26 ?_
 obtain ⟨vU, aeL, hM⟩ := ao hM
 refine At.cv aCm (aCQ x1 (x0.aO.length : Int)  aeL) ?_
 rintro aWA aVV _ ⟨aet, rfl, _, aBV, rfl⟩
 replace ay := ay.mono aet
 replace aB := aB.mono aet
 replace aF := aF.mono aet
 replace hG := hG.mono aet
 replace DZ := DZ.mono aet
 refine vs 1 ?_
 refine nx gd ?_
 refine lN [_, _, _, _, _, _] 0 6 aU z0 ?_
 refine vs 1 ?_
 obtain ⟨BJ, VX, hM⟩ := ao hM
 refine At.cv PJ (Ul x0 vU ay aB aF aBV.rd VX) ?_
 rintro _ aVW _ ⟨ad2, rfl, aWB, aWC, aWD, aTS, aTT, aTU, rfl⟩
 replace ay := ay.mono ad2
 replace aB := aB.mono ad2
 replace aF := aF.mono ad2
 replace hG := hG.mono ad2
 replace DZ := DZ.mono ad2
 replace aBV := aBV.mono ad2
 obtain ⟨Eo, VY, hM⟩ := ao hM
 refine At.cv NV (N0 BJ hG aTS aTT aTU VY) ?_
 rintro _ aIa _ ⟨ad3, rfl, rfl⟩
 replace ay := ay.mono ad3
 replace aB := aB.mono ad3
 replace aF := aF.mono ad3
 replace hG := hG.mono ad3
 replace DZ := DZ.mono ad3
 replace aBV := aBV.mono ad3
 refine vs 5 ?_
 refine es ?_
 refine sq ?_
 refine At.gR hM (λ (aec : Bool) R' H' st' => aIa = R' ∧ H' = (VO, .cells #[iv x0.aE, iv x0.aa.an, iv x0.aa.ax, aC, aD, aH] 28) :: H ∧ aK st' [(2, .pointer (some ⟨VO, 0, none⟩)), (5, aD4), (122, .bool aec)])  ?_ ?_
 rotate_right
 ·intro aWK hM aBO
  refine At.rg aDV ?_
  refine vs 3 ?_
  refine bA hM (λ aLt hM => ?_) (λ aLt hM => ?_)
  ·refine At.kn 101 aLt ?_
   refine vs 21 ?_
   refine er ?_
   exact aBO _ (af hM).symm _ _ _ ⟨rfl, rfl, aA.sub ⟨rfl, rfl, rfl, trivial⟩⟩
  refine At.kn 101 aLt ?_
  refine vs 4 ?_
  refine bA hM (λ aan hM => ?_) (λ aan hM => ?_)
  ·refine At.kn 105 aan ?_
   refine vs 17 ?_
   refine er ?_
   exact aBO _ (af hM).symm _ _ _ ⟨rfl, rfl, aA.sub ⟨rfl, rfl, rfl, trivial⟩⟩
  refine At.kn 105 aan ?_
  refine vs 1 ?_
  refine ls DZ Tryz.underlying25 ?_
  refine vs 3 ?_
  refine bA hM (λ aao hM => ?_) (λ aao hM => ?_)
  ·refine At.kn 110 aao ?_
   refine vs 12 ?_
   refine er ?_
   exact aBO _ (af hM).symm _ _ _ ⟨rfl, rfl, aA.sub ⟨rfl, rfl, rfl, trivial⟩⟩
  refine At.kn 110 aao ?_
  refine vs 4 ?_
  refine bA hM (λ aap hM => ?_) (λ aap hM => ?_)
  ·refine At.kn 114 aap ?_
   refine vs 8 ?_
   refine er ?_
   exact aBO _ (af hM).symm _ _ _ ⟨rfl, rfl, aA.sub ⟨rfl, rfl, rfl, trivial⟩⟩
  refine At.kn 114 aap ?_
  refine vs 3 ?_
  refine bA hM (λ aLu hM => ?_) (λ aLu hM => ?_)
  ·refine At.kn 117 aLu ?_
   refine vs 2 ?_
   obtain ⟨IT, aeM, hM⟩ := ao hM
   refine At.cv Wb (Wl vU j9.1 aBV.rd DZ.rd aeM) ?_
   rintro _ _ _ ⟨rfl, rfl, rfl⟩
   refine vs 2 ?_
   refine er ?_
   exact aBO _ (af hM).symm _ _ _ ⟨rfl, rfl, aA.sub ⟨rfl, rfl, rfl, trivial⟩⟩
  refine At.kn 117 aLu ?_
  refine vs 5 ?_
  refine er ?_
  exact aBO _ (af hM).symm _ _ _ ⟨rfl, rfl, aA.sub ⟨rfl, rfl, rfl, trivial⟩⟩
 rintro aec aVA aVo aWd ⟨rfl, rfl, aTr⟩ hM
 refine At.sub aTr ?_
 refine sc hM (λ aTC hM => ?_) (λ aTC hM => ?_)
 ·refine sg aL ?_
  refine vs 1 ?_
  refine er ?_
  obtain rfl := af hM
  exact At.wo Tryz.func12 (by kernel_rfl) (.tmp rfl .nil) (so sr) hk ⟨((((((((ad1.trans ZI).trans IP).trans Fx).trans aer).trans aes).trans aet).trans ad2).trans ad3), rfl, rfl⟩
 refine sp ?_
 refine sq ?_
 refine sg aL ?_
 refine vs 1 ?_
 refine er ?_
 refine At.block ?_
 refine At.fh hM (λ (L4 : Int) R' H' st' => aN aIa R' ∧ H' = (VO, .cells #[iv x0.aE, iv x0.aa.an, iv x0.aa.ax, aC, aD, aH] 28) :: H ∧ aK st' [(2, .pointer (some ⟨VO, 0, none⟩)), (5, aD4), (16, iv L4)]) (λ (aCS : Unit) R' H' st' => aN aIa R' ∧ H = H' ∧ aK st' []) 0 rfl ⟨rr, rfl, aA.sub ⟨rfl, rfl, rfl, trivial⟩⟩ ?_ ?_
 rotate_right
 ·rintro L4 aVB aVp aWe ⟨aep, rfl, aTs⟩ aWL hM aSQ aS0 aSl
  refine At.sub aTs ?_
  replace ay := ay.mono aep
  replace aB := aB.mono aep
  replace aF := aF.mono aep
  replace hG := hG.mono aep
  replace DZ := DZ.mono aep
  refine sq ?_
  refine sg bn ?_
  refine vs 2 ?_
  refine ls DZ Tryz.underlying25 ?_
  refine vs 1 ?_
  refine er ?_
  refine sc hM (λ aTD hM => ?_) (λ aTD hM => ?_)
  ·refine sp ?_
   refine sq ?_
   refine At.block ?_
   refine sq ?_
   refine At.dw yO mixed ?_
   refine tN 0 [_, _, _, _, _, _] 0 6 aU z0 ?_
   refine Any.vs 2 [1, 2] rfl ?_
   obtain ⟨ae4, aTV, hM⟩ := ao hM
   refine Any.cv 3 aDo (aDO j9.1 L4 DZ.rd aTV) ?_
   rintro aWE aVX _ ⟨afl, rfl, _, aTW, rfl⟩
   replace ay := ay.mono afl
   replace aB := aB.mono afl
   replace aF := aF.mono afl
   replace hG := hG.mono afl
   refine ⟨afl, ka, ?_⟩
   obtain ⟨tW, aeN, hM⟩ := ao hM
   refine Any.cv 4 PJ (Ul x0 ae4 ay aB aF aTW.rd aeN) ?_
   rintro _ aC5 _ ⟨gE, rfl, aWF, aWG, aWH, aTX, aTY, aTZ, rfl⟩
   replace hG := hG.mono gE
   refine ⟨gE, ka, ?_⟩
   obtain ⟨Wu, aT0, hM⟩ := ao hM
   refine Any.cv 5 NV (N0 tW hG aTX aTY aTZ aT0) ?_
   rintro _ aVY _ ⟨aDq, rfl, rfl⟩
   refine ⟨aDq, ka, ?_⟩
   refine Any.vs 5 [6, 7, 8, 9, 10] rfl ?_
   refine Any.done ?_
   refine sg dy ?_
   refine vs 3 ?_
   refine bA hM (λ aLv hM => ?_) (λ aLv hM => ?_)
   ·refine At.kn 140 aLv ?_
    refine vs 3 ?_
    refine er ?_
    refine At.cond_true rfl ?_
    refine sg aL ?_
    refine vs 1 ?_
    refine er ?_
    replace hM := aSl _ (af hM).symm
    obtain rfl := af hM
    exact At.wo Tryz.func12 (by kernel_rfl) (.tmp rfl .nil) (so sr) hk ⟨((((((((((((ad1.trans ZI).trans IP).trans Fx).trans aer).trans aes).trans aet).trans ad2).trans ad3).trans aep).trans afl).trans gE).trans aDq), rfl, rfl⟩
   refine At.kn 140 aLv ?_
   refine vs 3 ?_
   refine er ?_
   refine sc hM (λ aTE hM => ?_) (λ aTE hM => ?_)
   ·refine sg aL ?_
    refine vs 1 ?_
    refine er ?_
    replace hM := aSl _ (af hM).symm
    obtain rfl := af hM
    exact At.wo Tryz.func12 (by kernel_rfl) (.tmp rfl .nil) (so sr) hk ⟨((((((((((((ad1.trans ZI).trans IP).trans Fx).trans aer).trans aes).trans aet).trans ad2).trans ad3).trans aep).trans afl).trans gE).trans aDq), rfl, rfl⟩
   refine sp ?_
   refine At.inBlock ?_
   refine At.rg aS ?_
   refine vs 3 ?_
   refine er ?_
   exact aSQ _ (af hM).symm _ _ _ ⟨(((aep.trans afl).trans gE).trans aDq), rfl, aA.sub ⟨rfl, rfl, rfl, trivial⟩⟩
  exact At.exit rfl (At.drop (so sr) (aS0 _ (af hM).symm _ _ _ ⟨aep, rfl, aA.sub trivial⟩))
 rintro aCS aVC aVq aWf ⟨aRK, rfl, aTt⟩ hM
 refine At.sub aTt ?_
 replace hG := hG.mono aRK
 refine sg aQ ?_
 obtain ⟨afO, aT1, hM⟩ := ao hM
 refine At.cv V9 (Wj  hG hK aT1) ?_
 rintro _ aVZ _ ⟨aS9, rfl, rfl⟩
 refine vs 1 ?_
 refine er ?_
 obtain rfl := af hM
 exact At.wo Tryz.func12 (by kernel_rfl) (.tmp rfl .nil) sr hk ⟨((((((((((ad1.trans ZI).trans IP).trans Fx).trans aer).trans aes).trans aet).trans ad2).trans ad3).trans aRK).trans aS9), rfl, rfl⟩
end
end Go.Proofs.YtabamagholjdcaaGreatDoor
