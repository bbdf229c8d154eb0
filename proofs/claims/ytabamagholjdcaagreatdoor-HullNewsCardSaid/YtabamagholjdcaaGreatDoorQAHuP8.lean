/- Walks, part 8: each function computes its model. -/
import Derived.Test.YtabamagholjdcaaGreatDoorQAHuP6
namespace Go.Proofs.YtabamagholjdcaaGreatDoor
open Go.Lg Go.Proofs
set_option maxRecDepth 100000
set_option maxHeartbeats 4000000
section
variable {B : Base} {main : Bool} {ag : Jd Tryz.prog B main} {R : aI} {H : au}
theorem aDO (x0 : (List Int)) (x1 : Int) {v0 : Value} (h0 : bC CZ 1 R H v0 x0) {r : (List Int)} (hM : BE x0 x1 = some r) : aJ ag 68 #[v0, iv x1] R H (λ v R' H' => aN R R' ∧ H = H' ∧ ∃ bU, aj CZ 1 R' bU r ∧ v = bU) := by
 unfold BE at hM
 refine aJ.aX Tryz.func68 rfl (n := 24) rfl rfl λ fr cs hk => ?_
 refine sg aL ?_
 refine vs 1 ?_
 refine nx aL ?_
 refine vs 1 ?_
 refine es ?_
 refine sg aL ?_
 refine vs 1 ?_
 refine er ?_
 refine At.block ?_
 refine At.c8 hM (λ (eW : ((List Int) × Int)) R' H' st' => R = R' ∧ ∃ nK Ew, aZ CZ 1 3 R' nK eW.1 Ew ∧ H' = Ew ++ (H) ∧ aK st' [(0, v0), (1, iv x1), (5, nK), (6, iv eW.2)]) (λ (LN : (List Int)) R' H' st' => R = R' ∧ ∃ Mp Od, aZ CZ 1 3 R' Mp LN Od ∧ H' = Od ++ (H) ∧ aK st' [(5, Mp)]) 0 rfl ⟨rfl, .slice none 0 0, [], aZ.nil, rfl, aA.sub ⟨rfl, rfl, rfl, rfl, trivial⟩⟩ ?_ ?_
 rotate_right
 ·rintro eW W1 H43 aOv ⟨rfl, nK, Ew, Rl, rfl, aqz⟩ Iq hM Jq ajx
  refine At.sub aqz ?_
  refine sq ?_
  refine sg bn ?_
  refine vs 2 ?_
  refine lr h0 Tryz.underlying25 ?_
  refine vs 1 ?_
  refine er ?_
  refine sc hM (λ Gm hM => ?_) (λ Gm hM => ?_)
  ·refine sp ?_
   refine sq ?_
   refine At.block ?_
   refine sg aS ?_
   refine vs 3 ?_
   refine er ?_
   refine sc hM (λ Gn hM => ?_) (λ Gn hM => ?_)
   ·refine At.rg eC ?_
    refine vs 3 ?_
    obtain ⟨di, ny, hM⟩ := ao hM
    obtain ⟨rG, GM, hM⟩ := ao hM
    obtain ⟨ahV, ayz, _, rfl, QJ, Q5⟩ := h0.elem cL ny
    refine At.s rfl rfl (Ox.bq rfl rfl rfl Q5 rfl (.put rfl) ?_)
    refine At.ld bg ((QJ.sub (su (aP sr))).one (j := 0) rfl) ?_
    refine At.s rfl rfl (Ox.buildSlice (cells := #[_]) rfl ck rfl (by decide) cS (bf rfl rfl rfl rfl aY) rfl λ oa _ _ => ⟨_, (.put rfl), ?_⟩)
    refine At.s rfl rfl (Ox.append (K := CZ) (λ X => (oa, _) :: X ++ (H)) rfl rfl rfl cR Tryz.underlying25 (by simp) (.cons .id) Rl (cE.lit z0 (aG.le (aG.cons (x := di) rfl rfl aG.nil) rfl) rfl) GM rfl λ aBb agk aph => ⟨_, (.put rfl), ?_⟩)
    refine vs 1 ?_
    refine er ?_
    refine At.inBlock ?_
    refine At.rg aS ?_
    refine vs 3 ?_
    refine er ?_
    exact At.drop (so sr) (Jq _ (af hM).symm _ _ _ ⟨rfl, aBb, agk, aph, rfl, aA.sub ⟨rfl, rfl, rfl, rfl, trivial⟩⟩)
   refine sp ?_
   refine At.inBlock ?_
   refine At.rg aS ?_
   refine vs 3 ?_
   refine er ?_
   exact Jq _ (af hM).symm _ _ _ ⟨rfl, nK, Ew, Rl, rfl, aA.sub ⟨rfl, rfl, rfl, rfl, trivial⟩⟩
  exact At.exit rfl (ajx _ (af hM).symm _ _ _ ⟨rfl, nK, Ew, Rl, rfl, aA.sub ⟨rfl, trivial⟩⟩)
 rintro LN aGS aEW aOw ⟨rfl, Mp, Od, aoL, rfl, aqA⟩ hM
 refine At.sub aqA ?_
 refine sg aQ ?_
 refine vs 2 ?_
 refine er ?_
 refine At.dB (H2 := H) (λ X => X ++ (H)) .id rfl aoL (λ aHV akX amK => ?_)
 obtain rfl := af hM
 exact rt Tryz.func68 (.tmp rfl .nil) sr (hk _ _ _ ⟨akX, rfl, Mp, amK, rfl⟩)
end
end Go.Proofs.YtabamagholjdcaaGreatDoor
