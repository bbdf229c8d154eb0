/- Walks, part 12: each function computes its model. -/
import Derived.Test.YtabamagholjdcaaGreatDoorQGHuP11
namespace Go.Proofs.YtabamagholjdcaaGreatDoor
open Go.Lg Go.Proofs
set_option maxRecDepth 100000
set_option maxHeartbeats 4000000
section
variable {B : Base} {main : Bool} {ah : Jd Tryz.prog B main} {R : aA} {H : ak}
theorem aza (x0 : av) (x1 : Int) {aG aI aM : Value} (hG : fG R) (aE : az bI 5 R aG x0.au) (aJ : az CZ 1 R aI x0.Out) (aL : az bB 2 R aM x0.aU) {r : (Int × Bool)} (hM : GU x0 x1 = some r) : aB ah 69 #[.agg #[iv x0.aD, iv x0.af.ao, iv x0.af.ax, aG, aI, aM], iv x1] R H (λ v R' H' => aO R R' ∧ H = H' ∧ v = .tuple #[iv r.1, .bool r.2]) := by
 unfold GU at hM
 refine aB.bk Tryz.func69 rfl (n := 49) rfl rfl λ fr cs hk => ?_
 refine sg aT ?_
 refine bx λ cS => ?_
 refine vs 2 ?_
 refine nx eK ?_
 refine lN [_, _, _, _, _, _] 0 6 bp z0 ?_
 refine vs 1 ?_
 obtain ⟨jI, sH, hM⟩ := aj hM
 refine At.cv Vi (Vq x0 x1 hG aE aJ aL sH) ?_
 rintro _ MU _ ⟨y7, rfl, acK, Gk, rfl⟩
 replace aE := aE.mono y7
 replace aJ := aJ.mono y7
 replace aL := aL.mono y7
 replace hG := hG.mono y7
 refine vs 5 ?_
 refine es ?_
 refine sq ?_
 refine At.eZ hM (λ (KY : Bool) R' H' st' => MU = R' ∧ H' = (cS, .cells #[iv x0.aD, iv x0.af.ao, iv x0.af.ax, aG, aI, aM] 28) :: H ∧ aF st' [(1, iv x1), (2, .pointer (some ⟨cS, 0, none⟩)), (6, acK), (24, .bool KY)])  ?_ ?_
 rotate_right
 ·intro U7 hM Yb
  refine At.rg fe ?_
  refine vs 3 ?_
  refine bA hM (λ FT hM => ?_) (λ FT hM => ?_)
  ·refine At.kn 20 FT ?_
   refine vs 4 ?_
   refine er ?_
   exact Yb _ (aa hM).symm _ _ _ ⟨rfl, rfl, ay.sub ⟨rfl, rfl, rfl, rfl, trivial⟩⟩
  refine At.kn 20 FT ?_
  refine vs 1 ?_
  refine ls Gk Tryz.underlying25 ?_
  refine vs 2 ?_
  refine er ?_
  exact Yb _ (aa hM).symm _ _ _ ⟨rfl, rfl, ay.sub ⟨rfl, rfl, rfl, rfl, trivial⟩⟩
 rintro KY aGo aEt aPY ⟨rfl, rfl, aqd⟩ hM
 refine At.sub aqd ?_
 refine sc hM (λ qu hM => ?_) (λ qu hM => ?_)
 ·refine sg aR ?_
  refine vs 2 ?_
  refine er ?_
  obtain rfl := aa hM
  exact rt Tryz.func69 (.tmp rfl (.tmp rfl .nil)) (so sr) (hk _ _ _ ⟨y7, rfl, rfl⟩)
 refine sp ?_
 refine sg aQ ?_
 refine vs 1 ?_
 refine es ?_
 refine sg aQ ?_
 refine vs 1 ?_
 refine er ?_
 refine At.block ?_
 refine At.eR hM (λ (s7 : (Int × Int)) R' H' st' => aO MU R' ∧ H' = (cS, .cells #[iv x0.aD, iv x0.af.ao, iv x0.af.ax, aG, aI, aM] 28) :: H ∧ aF st' [(1, iv x1), (2, .pointer (some ⟨cS, 0, none⟩)), (6, acK), (8, iv s7.1), (9, iv s7.2)]) (λ (K0 : Int) R' H' st' => aO MU R' ∧ H = H' ∧ aF st' [(8, iv K0)]) 0 rfl ⟨rr, rfl, ay.sub ⟨rfl, rfl, rfl, rfl, rfl, trivial⟩⟩ ?_ ?_
 rotate_right
 ·rintro s7 R67 H67 aP3 ⟨wm, rfl, aqi⟩ ym hM afo ah5 azU
  refine At.sub aqi ?_
  replace aE := aE.mono wm
  replace aJ := aJ.mono wm
  replace aL := aL.mono wm
  replace hG := hG.mono wm
  replace Gk := Gk.mono wm
  refine sq ?_
  refine sg bw ?_
  refine vs 2 ?_
  refine ls Gk Tryz.underlying25 ?_
  refine vs 1 ?_
  refine er ?_
  refine sc hM (λ wG hM => ?_) (λ wG hM => ?_)
  ·refine sp ?_
   refine sq ?_
   refine At.block ?_
   refine sq ?_
   refine At.dw qR mixed ?_
   refine tN 0 [_, _, _, _, _, _] 0 6 bp z0 ?_
   refine Any.vs 3 [1, 2, 3] rfl ?_
   obtain ⟨oU, Ci, hM⟩ := aj hM
   obtain ⟨fc, Kk, hM⟩ := aj hM
   obtain ⟨vC, aak, hM⟩ := aj hM
   obtain ⟨kC, Gm, hM⟩ := aj hM
   obtain ⟨af9, az9, _, rfl, y9, PG⟩ := Gk.elem bm Ci
   refine Any.tk 4 rfl pp (λ R' H' hR hS => Ox.aX rfl rfl rfl PG rfl (.one rfl) ⟨rfl, rfl, rfl⟩) ?_
   refine Any.tk 5 rfl pp (λ R' H' hR hS => Ox.bu rfl rfl aV ((y9.up hR).one (j := 0) rfl) rfl (.one rfl) ⟨rfl, rfl, rfl⟩) ?_
   refine Any.cv 6 DQ (DU oU  Kk) ?_
   rintro _ _ _ ⟨rfl, rfl, rfl⟩
   refine kp ?_
   refine Any.cv 7 adl (ado x0 x1 fc aE aJ aL aak) ?_
   rintro _ Wc _ ⟨pS, rfl, aRs, aRt, aRu, avG, avH, avI, rfl⟩
   replace hG := hG.mono pS
   replace y9 := y9.up (H := []) pS
   refine ⟨pS, ka, ?_⟩
   refine Any.cv 8 HS (HV vC hG avG avH avI Gm) ?_
   rintro _ aH0 _ ⟨JK, rfl, rfl⟩
   replace y9 := y9.up (H := []) JK
   refine ⟨JK, ka, ?_⟩
   refine Any.vs 5 [9, 10, 11, 12, 13] rfl ?_
   refine Any.done ?_
   refine sq ?_
   refine sg aR ?_
   refine vs 2 ?_
   refine er ?_
   refine sc hM (λ asd hM => ?_) (λ asd hM => ?_)
   ·refine sg aR ?_
    refine vs 2 ?_
    refine er ?_
    replace hM := azU _ (aa hM).symm
    obtain rfl := aa hM
    exact rt Tryz.func69 (.tmp rfl (.tmp rfl .nil)) (so sr) (hk _ _ _ ⟨(((y7.trans wm).trans pS).trans JK), rfl, rfl⟩)
   refine sp ?_
   refine At.rg bw ?_
   refine vs 2 ?_
   refine At.s rfl rfl (Ox.max (a := s7.1) (l := [kC.1]) rfl rfl rfl (.put rfl) ?_)
   refine vs 1 ?_
   refine er ?_
   refine At.inBlock ?_
   refine At.rg aT ?_
   refine vs 3 ?_
   refine er ?_
   exact afo _ (aa hM).symm _ _ _ ⟨((wm.trans pS).trans JK), rfl, ay.sub ⟨rfl, rfl, rfl, rfl, rfl, trivial⟩⟩
  exact At.exit rfl (At.drop (so sr) (ah5 _ (aa hM).symm _ _ _ ⟨wm, rfl, ay.sub ⟨rfl, trivial⟩⟩))
 rintro K0 aGr aEw aP4 ⟨ai4, rfl, aqj⟩ hM
 refine At.sub aqj ?_
 refine sg aT ?_
 refine vs 3 ?_
 refine er ?_
 obtain rfl := aa hM
 exact rt Tryz.func69 (.tmp rfl (.tmp rfl .nil)) sr (hk _ _ _ ⟨(y7.trans ai4), rfl, rfl⟩)
end
end Go.Proofs.YtabamagholjdcaaGreatDoor
