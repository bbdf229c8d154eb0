/- Walks, part 7: each function computes its model. -/
import Derived.Test.YtabamagholjdcaaGreatDoorQHuP8
import Derived.Test.YtabamagholjdcaaGreatDoorQLgD
namespace Go.Proofs.YtabamagholjdcaaGreatDoor
open Go.Lg Go.Proofs
set_option maxRecDepth 100000
set_option maxHeartbeats 4000000
section
variable {B : Base} {main : Bool} {𝒥 : Jd Tryz.prog B main} {R : RMap} {H : HList}
theorem m9_top {PW : Value → World → Prop} (x0 : HullBook) {v0_3 v0_4 v0_5 : Value} (hG : GOk R) (hK : Reckons (mainJd Tryz.prog B PW)) (h0_3 : SlR CHullPiece 5 R v0_3 x0.Pieces) (h0_4 : SlR CZ 1 R v0_4 x0.Out) (h0_5 : SlR CHullHeel 2 R v0_5 x0.Heels) {r : Bool} (hM : m9 x0 = some r) : TopOk Tryz.prog B PW 9 #[.agg #[iv x0.Limit, iv x0.Ballast.Least, iv x0.Ballast.Most, v0_3, v0_4, v0_5]] R H (fun v R' H' => RLe R R' ∧ H = H' ∧ v = .bool r) := by
 unfold m9 at hM
 refine TopOk.of_at (args := [.agg #[iv x0.Limit, iv x0.Ballast.Least, iv x0.Ballast.Most, v0_3, v0_4, v0_5]]) Tryz.func9 rfl (n := 81) rfl rfl fun hk => ?_
 refine sg rg2 ?_
 refine bx fun b58 => ?_
 refine vs 1 ?_
 refine es ?_
 refine sg rg3 ?_
 refine lN [_, _, _, _, _, _] 0 6 agg28 z0 ?_
 obtain ⟨x59, hx59, hM⟩ := bnd hM
 refine At.cv ent42 (m42_ok x0 h0_3 h0_4 h0_5 hx59) ?_
 rintro _ _ _ ⟨rfl, rfl, rfl⟩
 refine vs 1 ?_
 refine er ?_
 refine sc hM (fun ht63 hM => ?_) (fun ht63 hM => ?_)
 ·refine sg rg2 ?_
  obtain ⟨x64, hx64, hM⟩ := bnd hM
  refine At.cv ent19 (m19_ok  hG hK hx64) ?_
  rintro _ Rx64 _ ⟨hRx64, rfl, rfl⟩
  refine vs 1 ?_
  refine er ?_
  obtain rfl := sinj hM
  exact At.retT Tryz.func9 (by kernel_rfl) (.tmp rfl .nil) (so sr) hk ⟨hRx64, rfl, rfl⟩
 refine sp ?_
 refine sg rg9 ?_
 refine lN [_, _, _, _, _, _] 0 6 agg28 z0 ?_
 obtain ⟨x65, hx65, hM⟩ := bnd hM
 refine At.cv ent29 (m29_ok x0 hG hK h0_3 h0_4 h0_5 hx65) ?_
 rintro _ Rx65 _ ⟨hRx65, rfl, vx65r0, hx65r0, rfl⟩
 replace h0_3 := h0_3.mono hRx65
 replace h0_4 := h0_4.mono hRx65
 replace h0_5 := h0_5.mono hRx65
 replace hG := hG.mono hRx65
 refine vs 7 ?_
 refine nx rg7 ?_
 refine lN [_, _, _, _, _, _] 0 6 agg28 z0 ?_
 obtain ⟨x66, hx66, hM⟩ := bnd hM
 refine At.cv ent25 (m25_ok x0 hG hK h0_3 h0_4 h0_5 hx66) ?_
 rintro _ Rx66 _ ⟨hRx66, rfl, rfl⟩
 replace h0_3 := h0_3.mono hRx66
 replace h0_4 := h0_4.mono hRx66
 replace h0_5 := h0_5.mono hRx66
 replace hG := hG.mono hRx66
 replace hx65r0 := hx65r0.mono hRx66
 refine vs 5 ?_
 refine es ?_
 refine sq ?_
 refine At.joinE1 hM (fun (p67_0 : Bool) R' H' st' => Rx66 = R' ∧ H' = (b58, .cells #[iv x0.Limit, iv x0.Ballast.Least, iv x0.Ballast.Most, v0_3, v0_4, v0_5] 28) :: H ∧ SubL st' [(1, .pointer (some ⟨b58, 0, none⟩)), (3, vx65r0), (4, iv x65.2.1), (5, iv x65.2.2), (6, iv x66.1), (35, .bool p67_0)])  ?_ ?_
 rotate_right
 ·intro x67 hM ex67_0
  refine At.rg rg11 ?_
  refine vs 4 ?_
  refine selC hM (fun ht70 hM => ?_) (fun ht70 hM => ?_)
  ·refine At.kn 28 ht70 ?_
   refine vs 7 ?_
   refine er ?_
   exact ex67_0 _ (sinj hM).symm _ _ _ ⟨rfl, rfl, SubT.sub ⟨rfl, rfl, rfl, rfl, rfl, rfl, trivial⟩⟩
  refine At.kn 28 ht70 ?_
  refine vs 3 ?_
  refine selC hM (fun ht71 hM => ?_) (fun ht71 hM => ?_)
  ·refine At.kn 31 ht71 ?_
   refine vs 4 ?_
   refine er ?_
   exact ex67_0 _ (sinj hM).symm _ _ _ ⟨rfl, rfl, SubT.sub ⟨rfl, rfl, rfl, rfl, rfl, rfl, trivial⟩⟩
  refine At.kn 31 ht71 ?_
  refine vs 4 ?_
  refine er ?_
  exact ex67_0 _ (sinj hM).symm _ _ _ ⟨rfl, rfl, SubT.sub ⟨rfl, rfl, rfl, rfl, rfl, rfl, trivial⟩⟩
 rintro p67_0 R67_0 H67_0 st67_0 ⟨rfl, rfl, hst67_0⟩ hM
 refine At.sub hst67_0 ?_
 refine sc hM (fun ht74 hM => ?_) (fun ht74 hM => ?_)
 ·refine sg rg1 ?_
  refine vs 1 ?_
  refine er ?_
  obtain rfl := sinj hM
  exact At.retT Tryz.func9 (by kernel_rfl) (.tmp rfl .nil) (so sr) hk ⟨(hRx65.trans hRx66), rfl, rfl⟩
 refine sp ?_
 refine sq ?_
 refine sg rg2 ?_
 refine vs 2 ?_
 refine er ?_
 refine sc hM (fun ht81 hM => ?_) (fun ht81 hM => ?_)
 ·refine sq ?_
  refine At.joinE1 hM (fun (p82_0 : Bool) R' H' st' => RLe Rx66 R' ∧ H = H' ∧ SubL st' [(2, .bool p82_0)])  ?_ ?_
  rotate_right
  ·intro x82 hM ex82_0
   refine At.rg rg15 ?_
   refine vs 1 ?_
   refine ls hx65r0 Tryz.underlying25 ?_
   refine vs 2 ?_
   refine selC hM (fun ht87 hM => ?_) (fun ht87 hM => ?_)
   ·refine At.kn 41 ht87 ?_
    refine vs 4 ?_
    refine selC hM (fun ht88 hM => ?_) (fun ht88 hM => ?_)
    ·refine At.kn 45 ht88 ?_
     refine vs 4 ?_
     refine selC hM (fun ht89 hM => ?_) (fun ht89 hM => ?_)
     ·refine At.kn 49 ht89 ?_
      obtain ⟨x90, hx90, hM⟩ := bnd hM
      refine At.cv ent19 (m19_ok  hG hK hx90) ?_
      rintro _ Rx90 _ ⟨hRx90, rfl, rfl⟩
      refine vs 2 ?_
      refine er ?_
      exact At.drop (so sr) (ex82_0 _ (sinj hM).symm _ _ _ ⟨hRx90, rfl, SubT.sub ⟨rfl, trivial⟩⟩)
     refine At.kn 49 ht89 ?_
     refine vs 3 ?_
     refine er ?_
     exact At.drop (so sr) (ex82_0 _ (sinj hM).symm _ _ _ ⟨(rr), rfl, SubT.sub ⟨rfl, trivial⟩⟩)
    refine At.kn 45 ht88 ?_
    refine vs 7 ?_
    refine er ?_
    exact At.drop (so sr) (ex82_0 _ (sinj hM).symm _ _ _ ⟨(rr), rfl, SubT.sub ⟨rfl, trivial⟩⟩)
   refine At.kn 41 ht87 ?_
   refine vs 11 ?_
   refine er ?_
   exact At.drop (so sr) (ex82_0 _ (sinj hM).symm _ _ _ ⟨(rr), rfl, SubT.sub ⟨rfl, trivial⟩⟩)
  rintro p82_0 R82_0 H82_0 st82_0 ⟨hR82_0, rfl, hst82_0⟩ hM
  refine At.sub hst82_0 ?_
  obtain rfl := sinj hM
  exact At.retT Tryz.func9 (by kernel_rfl) (.tmp rfl .nil) sr hk ⟨((hRx65.trans hRx66).trans hR82_0), rfl, rfl⟩
 refine sp ?_
 refine sg rg8 ?_
 refine lN [_, _, _, _, _, _] 0 6 agg28 z0 ?_
 refine vs 1 ?_
 obtain ⟨x91, hx91, hM⟩ := bnd hM
 refine At.cv ent23 (m23_ok x0 x65.1 hG h0_3 h0_4 h0_5 hx65r0 hx91) ?_
 rintro _ Rx91 _ ⟨hRx91, rfl, rfl⟩
 replace hG := hG.mono hRx91
 refine vs 5 ?_
 refine nx rg24 ?_
 refine vs 3 ?_
 refine selC hM (fun ht92 hM => ?_) (fun ht92 hM => ?_)
 ·refine At.kn 60 ht92 ?_
  refine vs 4 ?_
  refine ld 0 one3 z0 ?_
  refine vs 1 ?_
  refine At.s rfl rfl (Ox.cmpBool rfl rfl rfl Tryz.underlying4 rfl rfl (.put rfl) ?_)
  refine vs 2 ?_
  refine selC hM (fun ht93 hM => ?_) (fun ht93 hM => ?_)
  ·refine At.kn 69 ht93 ?_
   refine vs 4 ?_
   refine ld 0 one3 z0 ?_
   refine vs 1 ?_
   refine At.s rfl rfl (Ox.cmpBool rfl rfl rfl Tryz.underlying4 rfl rfl (.put rfl) ?_)
   refine vs 2 ?_
   refine selC hM (fun ht94 hM => ?_) (fun ht94 hM => ?_)
   ·refine At.kn 78 ht94 ?_
    obtain ⟨x95, hx95, hM⟩ := bnd hM
    refine At.cv ent19 (m19_ok  hG hK hx95) ?_
    rintro _ Rx95 _ ⟨hRx95, rfl, rfl⟩
    refine vs 2 ?_
    refine er ?_
    obtain rfl := sinj hM
    exact At.retT Tryz.func9 (by kernel_rfl) (.tmp rfl .nil) (so sr) hk ⟨(((hRx65.trans hRx66).trans hRx91).trans hRx95), rfl, rfl⟩
   refine At.kn 78 ht94 ?_
   refine vs 3 ?_
   refine er ?_
   obtain rfl := sinj hM
   exact At.retT Tryz.func9 (by kernel_rfl) (.tmp rfl .nil) (so sr) hk ⟨((hRx65.trans hRx66).trans hRx91), rfl, rfl⟩
  refine At.kn 69 ht93 ?_
  refine vs 12 ?_
  refine er ?_
  obtain rfl := sinj hM
  exact At.retT Tryz.func9 (by kernel_rfl) (.tmp rfl .nil) (so sr) hk ⟨((hRx65.trans hRx66).trans hRx91), rfl, rfl⟩
 refine At.kn 60 ht92 ?_
 refine vs 21 ?_
 refine er ?_
 obtain rfl := sinj hM
 exact At.retT Tryz.func9 (by kernel_rfl) (.tmp rfl .nil) (so sr) hk ⟨((hRx65.trans hRx66).trans hRx91), rfl, rfl⟩
end
end Go.Proofs.YtabamagholjdcaaGreatDoor
