/- Walks, part 5: each function computes its model. -/
import Derived.Test.YtabamagholjdcaaGreatDoorQHuP4
namespace Go.Proofs.YtabamagholjdcaaGreatDoor
open Go.Lg Go.Proofs
set_option maxRecDepth 100000
set_option maxHeartbeats 4000000
section
variable {B : Base} {main : Bool} {𝒥 : Jd Tryz.prog B main} {R : RMap} {H : HList}
theorem m96_ok (x0 : HullBook) (x1 : (List Int)) {v0_3 v0_4 v0_5 v1 : Value} (h0_3 : SlR CHullPiece 5 R v0_3 x0.Pieces) (h0_4 : SlR CZ 1 R v0_4 x0.Out) (h0_5 : SlR CHullHeel 2 R v0_5 x0.Heels) (h1 : RdS CZ 1 R H v1 x1) {r : (List Int)} (hM : m96 x0 x1 = some r) : FnOk 𝒥 96 #[.agg #[iv x0.Limit, iv x0.Ballast.Least, iv x0.Ballast.Most, v0_3, v0_4, v0_5], v1] R H (fun v R' H' => RLe R R' ∧ H = H' ∧ ∃ vr0, SlR CZ 1 R' vr0 r ∧ v = vr0) := by
 unfold m96 at hM
 refine FnOk.of_at Tryz.func96 rfl (n := 23) rfl rfl fun fr cs hk => ?_
 refine sg rg2 ?_
 refine bx fun b44 => ?_
 refine vs 1 ?_
 refine nx rg1 ?_
 refine vs 1 ?_
 refine es ?_
 refine sg rg1 ?_
 refine vs 1 ?_
 refine er ?_
 refine At.block ?_
 refine At.loopE1 hM (fun (s45 : ((List Int) × Int)) R' H' st' => R = R' ∧ ∃ v45s_0 Hs45s_0, OwnSl CZ 1 3 R' v45s_0 s45.1 Hs45s_0 ∧ H' = Hs45s_0 ++ ((b44, .cells #[iv x0.Limit, iv x0.Ballast.Least, iv x0.Ballast.Most, v0_3, v0_4, v0_5] 28) :: H) ∧ SubL st' [(1, v1), (2, .pointer (some ⟨b44, 0, none⟩)), (5, v45s_0), (6, iv s45.2)]) (fun (p45_0 : (List Int)) R' H' st' => R = R' ∧ ∃ v45_0_0 Hs45_0_0, OwnSl CZ 1 3 R' v45_0_0 p45_0 Hs45_0_0 ∧ H' = Hs45_0_0 ++ (H) ∧ SubL st' [(5, v45_0_0)]) 0 rfl ⟨rfl, .slice none 0 0, [], OwnSl.nil, rfl, SubT.sub ⟨rfl, rfl, rfl, rfl, trivial⟩⟩ ?_ ?_
 rotate_right
 ·rintro s45 R45 H45 st45 ⟨rfl, v45s_0, Hs45s_0, ho45s_0, rfl, hst45⟩ x45 hM again45 ex45_0
  refine At.sub hst45 ?_
  refine sq ?_
  refine sg rg5 ?_
  refine vs 2 ?_
  refine ld 3 one24 (List.mem_append_right _ z0) ?_
  refine ls h0_3 Tryz.underlying24 ?_
  refine vs 1 ?_
  refine er ?_
  refine sc hM (fun ht62 hM => ?_) (fun ht62 hM => ?_)
  ·refine sp ?_
   refine sq ?_
   refine At.block ?_
   refine sg rg4 ?_
   refine lN [_, _, _, _, _, _] 0 6 agg28 (List.mem_append_right _ z0) ?_
   refine vs 2 ?_
   obtain ⟨x63, hx63, hM⟩ := bnd hM
   refine At.cv ent150 (m150_ok x0 x1 s45.2 h0_3 h0_4 h0_5 (h1.sub (su (subDrop (so sr)))) hx63) ?_
   rintro _ _ _ ⟨rfl, rfl, rfl⟩
   refine er ?_
   refine sc hM (fun ht64 hM => ?_) (fun ht64 hM => ?_)
   ·refine At.rg rg5 ?_
    refine vs 2 ?_
    refine At.s rfl rfl (Ox.buildSlice (cells := #[_]) rfl elem25 rfl (by decide) base25_1 (fill_cons rfl rfl rfl rfl fill_nil) rfl fun b65 _ _ => ⟨_, (.put rfl), ?_⟩)
    obtain ⟨x66, hx66, hM⟩ := bnd hM
    refine At.s rfl rfl (Ox.append (K := CZ) (fun X => (b65, _) :: X ++ ((b44, _) :: H)) rfl rfl rfl app25 Tryz.underlying25 (by simp) (.cons .id) ho45s_0 (ArgSl.lit z0 (Enc.le (Enc.cons (x := s45.2) rfl rfl Enc.nil) rfl) rfl) hx66 rfl fun vx66 Hsx66 hox66 => ⟨_, (.put rfl), ?_⟩)
    refine vs 1 ?_
    refine er ?_
    refine At.inBlock ?_
    refine At.rg rg3 ?_
    refine vs 3 ?_
    refine er ?_
    exact At.drop (so sr) (again45 _ (sinj hM).symm _ _ _ ⟨rfl, vx66, Hsx66, hox66, rfl, SubT.sub ⟨rfl, rfl, rfl, rfl, trivial⟩⟩)
   refine sp ?_
   refine At.inBlock ?_
   refine At.rg rg3 ?_
   refine vs 3 ?_
   refine er ?_
   exact again45 _ (sinj hM).symm _ _ _ ⟨rfl, v45s_0, Hs45s_0, ho45s_0, rfl, SubT.sub ⟨rfl, rfl, rfl, rfl, trivial⟩⟩
  exact At.exit rfl (At.drop (subKeep (so sr)) (ex45_0 _ (sinj hM).symm _ _ _ ⟨rfl, v45s_0, Hs45s_0, ho45s_0, rfl, SubT.sub ⟨rfl, trivial⟩⟩))
 rintro p45_0 R45_0 H45_0 st45_0 ⟨rfl, v45_0_0, Hs45_0_0, ho45_0_0, rfl, hst45_0⟩ hM
 refine At.sub hst45_0 ?_
 refine sg rg2 ?_
 refine vs 2 ?_
 refine er ?_
 refine At.freezeOwn (H2 := H) (fun X => X ++ (H)) .id rfl ho45_0_0 (fun Rf67 hRf67 hf67 => ?_)
 obtain rfl := sinj hM
 exact rt Tryz.func96 (.tmp rfl .nil) sr (hk _ _ _ ⟨hRf67, rfl, v45_0_0, hf67, rfl⟩)
theorem m105_ok (x0 : HullBook) (x1 : (List Int)) {v0_3 v0_4 v0_5 v1 : Value} (h0_3 : SlR CHullPiece 5 R v0_3 x0.Pieces) (h0_4 : SlR CZ 1 R v0_4 x0.Out) (h0_5 : SlR CHullHeel 2 R v0_5 x0.Heels) (h1 : RdS CZ 1 R H v1 x1) {r : Int} (hM : m105 x0 x1 = some r) : FnOk 𝒥 105 #[.agg #[iv x0.Limit, iv x0.Ballast.Least, iv x0.Ballast.Most, v0_3, v0_4, v0_5], v1] R H (fun v R' H' => R = R' ∧ H = H' ∧ v = iv r) := by
 unfold m105 at hM
 refine FnOk.of_at Tryz.func105 rfl (n := 24) rfl rfl fun fr cs hk => ?_
 refine sg rg2 ?_
 refine bx fun b26 => ?_
 refine vs 1 ?_
 refine es ?_
 refine sg rg6 ?_
 refine lN [_, _, _, _, _, _] 0 6 agg28 z0 ?_
 refine vs 1 ?_
 refine ld 4 one25 z0 ?_
 refine vs 1 ?_
 obtain ⟨x27, hx27, hM⟩ := bnd hM
 refine At.cv ent126 (m126_ok x0 x0.Out x1 h0_3 h0_4 h0_5 h0_4.rd (h1.sub (su (so sr))) hx27) ?_
 rintro _ _ _ ⟨rfl, rfl, rfl⟩
 refine vs 1 ?_
 refine nx rg2 ?_
 refine vs 2 ?_
 refine er ?_
 refine sc hM (fun ht30 hM => ?_) (fun ht30 hM => ?_)
 ·refine sg rg2 ?_
  refine vs 2 ?_
  refine er ?_
  obtain rfl := sinj hM
  exact rt Tryz.func105 (.tmp rfl .nil) (so sr) (hk _ _ _ ⟨rfl, rfl, rfl⟩)
 refine sp ?_
 refine sq ?_
 refine sg rg10 ?_
 refine vs 1 ?_
 refine ld 4 one25 z0 ?_
 refine ls h0_4 Tryz.underlying25 ?_
 refine vs 1 ?_
 refine lr h1 Tryz.underlying25 ?_
 refine vs 2 ?_
 refine ld 3 one24 z0 ?_
 refine ls h0_3 Tryz.underlying24 ?_
 refine vs 1 ?_
 refine er ?_
 refine sc hM (fun ht31 hM => ?_) (fun ht31 hM => ?_)
 ·refine sg rg1 ?_
  refine vs 1 ?_
  refine er ?_
  obtain rfl := sinj hM
  exact rt Tryz.func105 (.tmp rfl .nil) (so sr) (hk _ _ _ ⟨rfl, rfl, rfl⟩)
 refine sp ?_
 refine sg rg1 ?_
 refine vs 1 ?_
 refine er ?_
 obtain rfl := sinj hM
 exact rt Tryz.func105 (.tmp rfl .nil) (so sr) (hk _ _ _ ⟨rfl, rfl, rfl⟩)
end
end Go.Proofs.YtabamagholjdcaaGreatDoor
