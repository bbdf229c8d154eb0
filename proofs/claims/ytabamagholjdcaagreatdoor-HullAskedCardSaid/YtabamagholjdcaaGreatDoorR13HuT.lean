/- x -/
import Derived.Test.YtabamagholjdcaaGreatDoorQGHuP12
import Derived.Test.YtabamagholjdcaaGreatDoorQGLgD
namespace Go.Proofs.YtabamagholjdcaaGreatDoor
open Go.Lg Go.Proofs
set_option maxRecDepth 100000
set_option maxHeartbeats 4000000
section
variable {B : Base} {main : Bool} {ah : Jd Tryz.prog B main} {R : aA} {H : ak}
theorem aNa {PW : Value → World → Prop} (x0 : av) (x1 : Int) {aG aI aM : Value} (hG : fG R) (hK : yF (GY Tryz.prog B PW)) (aE : az bI 5 R aG x0.au) (aJ : az CZ 1 R aI x0.Out) (aL : az bB 2 R aM x0.aU) {r : Bool} (hM : m13 x0 x1 = some r) : IK Tryz.prog B PW 13 #[.agg #[iv x0.aD, iv x0.af.ao, iv x0.af.ax, aG, aI, aM], .int .u8 x1] R H (λ v R' H' => aO R R' ∧ H = H' ∧ v = .bool r) := by
 unfold m13 at hM
 refine IK.bk (args := [.agg #[iv x0.aD, iv x0.af.ao, iv x0.af.ax, aG, aI, aM], .int .u8 x1]) Tryz.func13 rfl (n := 126) rfl rfl λ hk => ?_
 refine sg aR ?_
 refine bx λ Vf => ?_
 refine vs 1 ?_
 refine es ?_
 refine sg aT ?_
 refine lN [_, _, _, _, _, _] 0 6 bp z0 ?_
 obtain ⟨yu, Kj, hM⟩ := aj hM
 refine At.cv ahs (ay0 x0 aE aJ aL Kj) ?_
 rintro _ _ _ ⟨rfl, rfl, rfl⟩
 refine vs 1 ?_
 refine er ?_
 refine sc hM (λ wG hM => ?_) (λ wG hM => ?_)
 ·refine sg aR ?_
  obtain ⟨oU, Ci, hM⟩ := aj hM
  refine At.cv NR (Tu  hG hK Ci) ?_
  rintro _ aSc _ ⟨aK1, rfl, rfl⟩
  refine vs 1 ?_
  refine er ?_
  obtain rfl := aa hM
  exact At.AK Tryz.func13 (by kernel_rfl) (.tmp rfl .nil) (so sr) hk ⟨aK1, rfl, rfl⟩
 refine sp ?_
 refine sg iG ?_
 refine lN [_, _, _, _, _, _] 0 6 bp z0 ?_
 obtain ⟨fc, Kk, hM⟩ := aj hM
 refine At.cv adk (adn x0 hG aE aJ aL Kk) ?_
 rintro _ aSd _ ⟨DR, rfl, rfl⟩
 replace aE := aE.mono DR
 replace aJ := aJ.mono DR
 replace aL := aL.mono DR
 replace hG := hG.mono DR
 refine vs 7 ?_
 refine nx fe ?_
 refine lN [_, _, _, _, _, _] 0 6 bp z0 ?_
 obtain ⟨vC, aak, hM⟩ := aj hM
 refine At.cv HS (HV x0 hG aE aJ aL aak) ?_
 rintro _ Wc _ ⟨pS, rfl, rfl⟩
 replace aE := aE.mono pS
 replace aJ := aJ.mono pS
 replace aL := aL.mono pS
 replace hG := hG.mono pS
 refine vs 5 ?_
 refine es ?_
 refine sq ?_
 refine At.eZ hM (λ (Vw : Bool) R' H' st' => Wc = R' ∧ H' = (Vf, .cells #[iv x0.aD, iv x0.af.ao, iv x0.af.ax, aG, aI, aM] 28) :: H ∧ aF st' [(1, .int .u8 x1), (2, .pointer (some ⟨Vf, 0, none⟩)), (5, iv fc.1), (6, iv fc.2.1), (7, iv fc.2.2), (8, iv vC.1), (36, .bool Vw)])  ?_ ?_
 rotate_right
 ·intro kC hM aDa
  refine At.rg iG ?_
  refine vs 3 ?_
  refine bA hM (λ FV hM => ?_) (λ FV hM => ?_)
  ·refine At.kn 30 FV ?_
   refine vs 6 ?_
   refine er ?_
   exact aDa _ (aa hM).symm _ _ _ ⟨rfl, rfl, ay.sub ⟨rfl, rfl, rfl, rfl, rfl, rfl, rfl, trivial⟩⟩
  refine At.kn 30 FV ?_
  refine vs 4 ?_
  refine At.s rfl rfl (Ox.Vg rfl rfl rfl Tryz.underlying4 rfl rfl (.put rfl) ?_)
  refine vs 1 ?_
  refine er ?_
  exact aDa _ (aa hM).symm _ _ _ ⟨rfl, rfl, ay.sub ⟨rfl, rfl, rfl, rfl, rfl, rfl, rfl, trivial⟩⟩
 rintro Vw aR2 aRV aSt ⟨rfl, rfl, aMq⟩ hM
 refine At.sub aMq ?_
 refine sc hM (λ ZK hM => ?_) (λ ZK hM => ?_)
 ·refine sg aQ ?_
  refine vs 1 ?_
  refine er ?_
  obtain rfl := aa hM
  exact At.AK Tryz.func13 (by kernel_rfl) (.tmp rfl .nil) (so sr) hk ⟨(DR.trans pS), rfl, rfl⟩
 refine sp ?_
 refine sq ?_
 refine sg aR ?_
 refine vs 2 ?_
 refine er ?_
 refine sc hM (λ J4 hM => ?_) (λ J4 hM => ?_)
 ·refine sq ?_
  refine At.eZ hM (λ (Vr : Bool) R' H' st' => aO Wc R' ∧ H = H' ∧ aF st' [(4, .bool Vr)])  ?_ ?_
  rotate_right
  ·intro DW hM adm
   refine At.rg qR ?_
   refine vs 3 ?_
   refine bA hM (λ QC hM => ?_) (λ QC hM => ?_)
   ·refine At.kn 41 QC ?_
    refine vs 4 ?_
    refine bA hM (λ Fz hM => ?_) (λ Fz hM => ?_)
    ·refine At.kn 45 Fz ?_
     refine vs 4 ?_
     refine bA hM (λ QD hM => ?_) (λ QD hM => ?_)
     ·refine At.kn 49 QD ?_
      obtain ⟨vF, J9, hM⟩ := aj hM
      refine At.cv NR (Tu  hG hK J9) ?_
      rintro _ aR4 _ ⟨aKV, rfl, rfl⟩
      refine vs 2 ?_
      refine er ?_
      exact At.drop (so sr) (adm _ (aa hM).symm _ _ _ ⟨aKV, rfl, ay.sub ⟨rfl, trivial⟩⟩)
     refine At.kn 49 QD ?_
     refine vs 3 ?_
     refine er ?_
     exact At.drop (so sr) (adm _ (aa hM).symm _ _ _ ⟨(rr), rfl, ay.sub ⟨rfl, trivial⟩⟩)
    refine At.kn 45 Fz ?_
    refine vs 7 ?_
    refine er ?_
    exact At.drop (so sr) (adm _ (aa hM).symm _ _ _ ⟨(rr), rfl, ay.sub ⟨rfl, trivial⟩⟩)
   refine At.kn 41 QC ?_
   refine vs 11 ?_
   refine er ?_
   exact At.drop (so sr) (adm _ (aa hM).symm _ _ _ ⟨(rr), rfl, ay.sub ⟨rfl, trivial⟩⟩)
  rintro Vr aRX aRQ aSo ⟨aKU, rfl, aMl⟩ hM
  refine At.sub aMl ?_
  obtain rfl := aa hM
  exact At.AK Tryz.func13 (by kernel_rfl) (.tmp rfl .nil) sr hk ⟨((DR.trans pS).trans aKU), rfl, rfl⟩
 refine sp ?_
 refine sq ?_
 refine sq ?_
 refine At.eZ hM (λ (Vs : Bool) R' H' st' => Wc = R' ∧ H' = (Vf, .cells #[iv x0.aD, iv x0.af.ao, iv x0.af.ax, aG, aI, aM] 28) :: H ∧ aF st' [(1, .int .u8 x1), (2, .pointer (some ⟨Vf, 0, none⟩)), (5, iv fc.1), (6, iv fc.2.1), (71, .bool Vs)])  ?_ ?_
 rotate_right
 ·intro DX hM ahI
  refine At.rg Mm ?_
  refine vs 2 ?_
  refine ld 3 dc z0 ?_
  refine ls aE Tryz.underlying24 ?_
  refine vs 1 ?_
  obtain ⟨adv, aMz, hM⟩ := aj hM
  refine At.cv rD (rF fc.1 (-1) (i64 ((x0.au.length : Int) - 1))  aMz) ?_
  rintro _ _ _ ⟨rfl, rfl, rfl⟩
  refine vs 2 ?_
  refine bA hM (λ aq2 hM => ?_) (λ aq2 hM => ?_)
  ·refine At.kn 59 aq2 ?_
   refine vs 12 ?_
   refine er ?_
   exact ahI _ (aa hM).symm _ _ _ ⟨rfl, rfl, ay.sub ⟨rfl, rfl, rfl, rfl, rfl, trivial⟩⟩
  refine At.kn 59 aq2 ?_
  refine vs 5 ?_
  refine At.s rfl rfl (Ox.Vg rfl rfl rfl Tryz.underlying4 rfl rfl (.put rfl) ?_)
  refine vs 2 ?_
  refine bA hM (λ aq3 hM => ?_) (λ aq3 hM => ?_)
  ·refine At.kn 67 aq3 ?_
   refine vs 4 ?_
   refine er ?_
   exact ahI _ (aa hM).symm _ _ _ ⟨rfl, rfl, ay.sub ⟨rfl, rfl, rfl, rfl, rfl, trivial⟩⟩
  refine At.kn 67 aq3 ?_
  refine vs 4 ?_
  refine er ?_
  exact ahI _ (aa hM).symm _ _ _ ⟨rfl, rfl, ay.sub ⟨rfl, rfl, rfl, rfl, rfl, trivial⟩⟩
 rintro Vs aRY aRR aSp ⟨rfl, rfl, aMm⟩ hM
 refine At.sub aMm ?_
 refine sc hM (λ aMs hM => ?_) (λ aMs hM => ?_)
 ·refine sg aQ ?_
  refine vs 1 ?_
  refine er ?_
  obtain rfl := aa hM
  exact At.AK Tryz.func13 (by kernel_rfl) (.tmp rfl .nil) (so sr) hk ⟨(DR.trans pS), rfl, rfl⟩
 refine sp ?_
 refine sg fe ?_
 refine vs 1 ?_
 refine At.s rfl rfl (Ox.qa rfl rfl Tryz.underlying5 Tryz.underlying3 rfl (.put rfl) ?_)
 refine vs 1 ?_
 refine ld 3 dc z0 ?_
 refine ls aE Tryz.underlying24 ?_
 obtain ⟨UE, aMA, hM⟩ := aj hM
 refine At.s rfl rfl (Ox.rem rfl rfl rfl aMA rfl (.put rfl) ?_)
 refine vs 1 ?_
 refine nx eK ?_
 refine lN [_, _, _, _, _, _] 0 6 bp z0 ?_
 refine vs 1 ?_
 obtain ⟨Bu, aMB, hM⟩ := aj hM
 refine At.cv ahy (aza x0 UE hG aE aJ aL aMB) ?_
 rintro _ aC4 _ ⟨JD, rfl, rfl⟩
 replace aE := aE.mono JD
 replace aJ := aJ.mono JD
 replace aL := aL.mono JD
 replace hG := hG.mono JD
 refine vs 5 ?_
 refine es ?_
 refine sq ?_
 refine At.eZ hM (λ (Vt : Bool) R' H' st' => aC4 = R' ∧ H' = (Vf, .cells #[iv x0.aD, iv x0.af.ao, iv x0.af.ax, aG, aI, aM] 28) :: H ∧ aF st' [(2, .pointer (some ⟨Vf, 0, none⟩)), (5, iv fc.1), (6, iv fc.2.1), (11, iv Bu.1), (12, .bool Bu.2), (104, .bool Vt)])  ?_ ?_
 rotate_right
 ·intro Mo hM XS
  refine At.rg aDg ?_
  refine vs 3 ?_
  refine bA hM (λ aq6 hM => ?_) (λ aq6 hM => ?_)
  ·refine At.kn 86 aq6 ?_
   refine vs 18 ?_
   refine er ?_
   exact XS _ (aa hM).symm _ _ _ ⟨rfl, rfl, ay.sub ⟨rfl, rfl, rfl, rfl, rfl, rfl, trivial⟩⟩
  refine At.kn 86 aq6 ?_
  refine vs 5 ?_
  refine bA hM (λ aq7 hM => ?_) (λ aq7 hM => ?_)
  ·refine At.kn 91 aq7 ?_
   refine vs 13 ?_
   refine er ?_
   exact XS _ (aa hM).symm _ _ _ ⟨rfl, rfl, ay.sub ⟨rfl, rfl, rfl, rfl, rfl, rfl, trivial⟩⟩
  refine At.kn 91 aq7 ?_
  refine vs 4 ?_
  refine bA hM (λ FA hM => ?_) (λ FA hM => ?_)
  ·refine At.kn 95 FA ?_
   refine vs 4 ?_
   refine bA hM (λ aq8 hM => ?_) (λ aq8 hM => ?_)
   ·refine At.kn 99 aq8 ?_
    refine vs 5 ?_
    refine er ?_
    exact XS _ (aa hM).symm _ _ _ ⟨rfl, rfl, ay.sub ⟨rfl, rfl, rfl, rfl, rfl, rfl, trivial⟩⟩
   refine At.kn 99 aq8 ?_
   refine vs 5 ?_
   refine er ?_
   exact XS _ (aa hM).symm _ _ _ ⟨rfl, rfl, ay.sub ⟨rfl, rfl, rfl, rfl, rfl, rfl, trivial⟩⟩
  refine At.kn 95 FA ?_
  refine vs 9 ?_
  refine er ?_
  exact XS _ (aa hM).symm _ _ _ ⟨rfl, rfl, ay.sub ⟨rfl, rfl, rfl, rfl, rfl, rfl, trivial⟩⟩
 rintro Vt aRZ aRS aSq ⟨rfl, rfl, aMn⟩ hM
 refine At.sub aMn ?_
 refine sc hM (λ aMt hM => ?_) (λ aMt hM => ?_)
 ·refine sg aQ ?_
  refine vs 1 ?_
  refine er ?_
  obtain rfl := aa hM
  exact At.AK Tryz.func13 (by kernel_rfl) (.tmp rfl .nil) (so sr) hk ⟨((DR.trans pS).trans JD), rfl, rfl⟩
 refine sp ?_
 refine sq ?_
 refine sg aR ?_
 refine vs 2 ?_
 refine er ?_
 refine At.eZ hM (λ (qO : (Int × Bool)) R' H' st' => aO aC4 R' ∧ H = H' ∧ aF st' [(5, iv fc.1), (6, iv fc.2.1), (11, iv qO.1), (12, .bool qO.2)])  ?_ ?_
 rotate_right
 ·intro pU hM Vj
  refine sc hM (λ aMu hM => ?_) (λ aMu hM => ?_)
  ·refine At.rg eK ?_
   refine lN [_, _, _, _, _, _] 0 6 bp z0 ?_
   refine vs 1 ?_
   obtain ⟨DY, ZM, hM⟩ := aj hM
   refine At.cv ahy (aza x0 fc.1 hG aE aJ aL ZM) ?_
   rintro _ aR7 _ ⟨aKX, rfl, rfl⟩
   refine vs 5 ?_
   refine er ?_
   exact At.drop (so sr) (Vj _ (aa hM).symm _ _ _ ⟨aKX, rfl, ay.sub ⟨rfl, rfl, rfl, rfl, trivial⟩⟩)
  refine sp ?_
  exact At.drop (so sr) (Vj _ (aa hM).symm _ _ _ ⟨(rr), rfl, ay.sub ⟨rfl, rfl, rfl, rfl, trivial⟩⟩)
 rintro qO aC2 aCZ aDk ⟨YI, rfl, ZG⟩ hM
 refine At.sub ZG ?_
 replace hG := hG.mono YI
 refine sg qR ?_
 refine vs 2 ?_
 refine bA hM (λ QE hM => ?_) (λ QE hM => ?_)
 ·refine At.kn 114 QE ?_
  refine vs 3 ?_
  refine bA hM (λ FC hM => ?_) (λ FC hM => ?_)
  ·refine At.kn 117 FC ?_
   refine vs 6 ?_
   obtain ⟨Bv, ZN, hM⟩ := aj hM
   refine At.cv NR (Tu  hG hK ZN) ?_
   rintro _ aR8 _ ⟨aKY, rfl, rfl⟩
   refine vs 2 ?_
   refine er ?_
   obtain rfl := aa hM
   exact At.AK Tryz.func13 (by kernel_rfl) (.tmp rfl .nil) sr hk ⟨((((DR.trans pS).trans JD).trans YI).trans aKY), rfl, rfl⟩
  refine At.kn 117 FC ?_
  refine vs 6 ?_
  refine bA hM (λ zw hM => ?_) (λ zw hM => ?_)
  ·refine At.kn 123 zw ?_
   obtain ⟨HZ, ZO, hM⟩ := aj hM
   refine At.cv NR (Tu  hG hK ZO) ?_
   rintro _ aR9 _ ⟨aKZ, rfl, rfl⟩
   refine vs 2 ?_
   refine er ?_
   obtain rfl := aa hM
   exact At.AK Tryz.func13 (by kernel_rfl) (.tmp rfl .nil) sr hk ⟨((((DR.trans pS).trans JD).trans YI).trans aKZ), rfl, rfl⟩
  refine At.kn 123 zw ?_
  refine vs 3 ?_
  refine er ?_
  obtain rfl := aa hM
  exact At.AK Tryz.func13 (by kernel_rfl) (.tmp rfl .nil) sr hk ⟨(((DR.trans pS).trans JD).trans YI), rfl, rfl⟩
 refine At.kn 114 QE ?_
 refine vs 12 ?_
 refine er ?_
 obtain rfl := aa hM
 exact At.AK Tryz.func13 (by kernel_rfl) (.tmp rfl .nil) sr hk ⟨(((DR.trans pS).trans JD).trans YI), rfl, rfl⟩
end
end Go.Proofs.YtabamagholjdcaaGreatDoor
