/- Walks, part 8: each function computes its model. -/
import Derived.Test.YtabamagholjdcaaGreatDoorQHuP6
namespace Go.Proofs.YtabamagholjdcaaGreatDoor
open Go.Lg Go.Proofs
set_option maxRecDepth 100000
set_option maxHeartbeats 4000000
section
variable {B : Base} {main : Bool} {𝒥 : Jd Tryz.prog B main} {R : RMap} {H : HList}
theorem m68_ok (x0 : (List Int)) (x1 : Int) {v0 : Value} (h0 : RdS CZ 1 R H v0 x0) {r : (List Int)} (hM : m68 x0 x1 = some r) : FnOk 𝒥 68 #[v0, iv x1] R H (fun v R' H' => RLe R R' ∧ H = H' ∧ ∃ vr0, SlR CZ 1 R' vr0 r ∧ v = vr0) := by
 unfold m68 at hM
 refine FnOk.of_at Tryz.func68 rfl (n := 24) rfl rfl fun fr cs hk => ?_
 refine sg rg1 ?_
 refine vs 1 ?_
 refine nx rg1 ?_
 refine vs 1 ?_
 refine es ?_
 refine sg rg1 ?_
 refine vs 1 ?_
 refine er ?_
 refine At.block ?_
 refine At.loopE1 hM (fun (s43 : ((List Int) × Int)) R' H' st' => R = R' ∧ ∃ v43s_0 Hs43s_0, OwnSl CZ 1 3 R' v43s_0 s43.1 Hs43s_0 ∧ H' = Hs43s_0 ++ (H) ∧ SubL st' [(0, v0), (1, iv x1), (5, v43s_0), (6, iv s43.2)]) (fun (p43_0 : (List Int)) R' H' st' => R = R' ∧ ∃ v43_0_0 Hs43_0_0, OwnSl CZ 1 3 R' v43_0_0 p43_0 Hs43_0_0 ∧ H' = Hs43_0_0 ++ (H) ∧ SubL st' [(5, v43_0_0)]) 0 rfl ⟨rfl, .slice none 0 0, [], OwnSl.nil, rfl, SubT.sub ⟨rfl, rfl, rfl, rfl, trivial⟩⟩ ?_ ?_
 rotate_right
 ·rintro s43 R43 H43 st43 ⟨rfl, v43s_0, Hs43s_0, ho43s_0, rfl, hst43⟩ x43 hM again43 ex43_0
  refine At.sub hst43 ?_
  refine sq ?_
  refine sg rg4 ?_
  refine vs 2 ?_
  refine lr h0 Tryz.underlying25 ?_
  refine vs 1 ?_
  refine er ?_
  refine sc hM (fun ht60 hM => ?_) (fun ht60 hM => ?_)
  ·refine sp ?_
   refine sq ?_
   refine At.block ?_
   refine sg rg3 ?_
   refine vs 3 ?_
   refine er ?_
   refine sc hM (fun ht61 hM => ?_) (fun ht61 hM => ?_)
   ·refine At.rg rg8 ?_
    refine vs 3 ?_
    obtain ⟨x62, hx62, hM⟩ := bnd hM
    obtain ⟨x64, hx64, hM⟩ := bnd hM
    obtain ⟨bx62, ox62, _, rfl, hcx62, hix62⟩ := h0.elem slice25 hx62
    refine At.s rfl rfl (Ox.indexV rfl rfl rfl hix62 rfl (.put rfl) ?_)
    refine At.ld one3 ((hcx62.sub (su (subDrop sr))).one (j := 0) rfl) ?_
    refine At.s rfl rfl (Ox.buildSlice (cells := #[_]) rfl elem25 rfl (by decide) base25_1 (fill_cons rfl rfl rfl rfl fill_nil) rfl fun b63 _ _ => ⟨_, (.put rfl), ?_⟩)
    refine At.s rfl rfl (Ox.append (K := CZ) (fun X => (b63, _) :: X ++ (H)) rfl rfl rfl app25 Tryz.underlying25 (by simp) (.cons .id) ho43s_0 (ArgSl.lit z0 (Enc.le (Enc.cons (x := x62) rfl rfl Enc.nil) rfl) rfl) hx64 rfl fun vx64 Hsx64 hox64 => ⟨_, (.put rfl), ?_⟩)
    refine vs 1 ?_
    refine er ?_
    refine At.inBlock ?_
    refine At.rg rg3 ?_
    refine vs 3 ?_
    refine er ?_
    exact At.drop (so sr) (again43 _ (sinj hM).symm _ _ _ ⟨rfl, vx64, Hsx64, hox64, rfl, SubT.sub ⟨rfl, rfl, rfl, rfl, trivial⟩⟩)
   refine sp ?_
   refine At.inBlock ?_
   refine At.rg rg3 ?_
   refine vs 3 ?_
   refine er ?_
   exact again43 _ (sinj hM).symm _ _ _ ⟨rfl, v43s_0, Hs43s_0, ho43s_0, rfl, SubT.sub ⟨rfl, rfl, rfl, rfl, trivial⟩⟩
  exact At.exit rfl (ex43_0 _ (sinj hM).symm _ _ _ ⟨rfl, v43s_0, Hs43s_0, ho43s_0, rfl, SubT.sub ⟨rfl, trivial⟩⟩)
 rintro p43_0 R43_0 H43_0 st43_0 ⟨rfl, v43_0_0, Hs43_0_0, ho43_0_0, rfl, hst43_0⟩ hM
 refine At.sub hst43_0 ?_
 refine sg rg2 ?_
 refine vs 2 ?_
 refine er ?_
 refine At.freezeOwn (H2 := H) (fun X => X ++ (H)) .id rfl ho43_0_0 (fun Rf65 hRf65 hf65 => ?_)
 obtain rfl := sinj hM
 exact rt Tryz.func68 (.tmp rfl .nil) sr (hk _ _ _ ⟨hRf65, rfl, v43_0_0, hf65, rfl⟩)
end
end Go.Proofs.YtabamagholjdcaaGreatDoor
