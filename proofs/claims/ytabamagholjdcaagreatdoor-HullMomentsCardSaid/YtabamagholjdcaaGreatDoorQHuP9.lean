/- Walks, part 9: each function computes its model. -/
import Derived.Test.YtabamagholjdcaaGreatDoorQHuP5
namespace Go.Proofs.YtabamagholjdcaaGreatDoor
open Go.Lg Go.Proofs
set_option maxRecDepth 100000
set_option maxHeartbeats 4000000
section
variable {B : Base} {main : Bool} {𝒥 : Jd Tryz.prog B main} {R : RMap} {H : HList}
theorem m142_ok (x0 : HullBook) (x1 : HullCase) {v0_3 v0_4 v0_5 v1_1 : Value} (h0_3 : SlR CHullPiece 5 R v0_3 x0.Pieces) (_ : SlR CZ 1 R v0_4 x0.Out) (_ : SlR CHullHeel 2 R v0_5 x0.Heels) (h1_1 : SlR CZ 1 R v1_1 x1.Weights) {r : Int} (hM : m142 x0 x1 = some r) : FnOk 𝒥 142 #[.agg #[iv x0.Limit, iv x0.Ballast.Least, iv x0.Ballast.Most, v0_3, v0_4, v0_5], .agg #[iv x1.Ballast, v1_1]] R H (fun v R' H' => R = R' ∧ H = H' ∧ v = iv r) := by
 unfold m142 at hM
 refine FnOk.of_at Tryz.func142 rfl (n := 31) rfl rfl fun fr cs hk => ?_
 refine sg rg3 ?_
 refine bx fun b48 => ?_
 refine bx fun b49 => ?_
 refine vs 1 ?_
 refine es ?_
 refine sg rg4 ?_
 refine vs 1 ?_
 refine ld 0 one3 z0 ?_
 obtain ⟨x50, hx50, hM⟩ := bnd hM
 refine At.cv ent58 (m58_ok x1.Ballast (-999) 999  hx50) ?_
 rintro _ _ _ ⟨rfl, rfl, rfl⟩
 refine vs 1 ?_
 refine er ?_
 refine sc hM (fun ht53 hM => ?_) (fun ht53 hM => ?_)
 ·refine sg rg1 ?_
  refine vs 1 ?_
  refine er ?_
  obtain rfl := sinj hM
  exact rt Tryz.func142 (.tmp rfl .nil) (so (so sr)) (hk _ _ _ ⟨rfl, rfl, rfl⟩)
 refine sp ?_
 refine sq ?_
 refine sg rg7 ?_
 refine vs 1 ?_
 refine ld 1 one25 z0 ?_
 refine ls h1_1 Tryz.underlying25 ?_
 refine vs 1 ?_
 refine ld 3 one24 z1 ?_
 refine ls h0_3 Tryz.underlying24 ?_
 refine vs 1 ?_
 refine er ?_
 refine sc hM (fun ht56 hM => ?_) (fun ht56 hM => ?_)
 ·refine sg rg1 ?_
  refine vs 1 ?_
  refine er ?_
  obtain rfl := sinj hM
  exact rt Tryz.func142 (.tmp rfl .nil) (so (so sr)) (hk _ _ _ ⟨rfl, rfl, rfl⟩)
 refine sp ?_
 refine sq ?_
 refine sg rg1 ?_
 refine vs 1 ?_
 refine er ?_
 refine At.block ?_
 refine At.drop (H' := (b49, .cells #[iv x1.Ballast, v1_1] 66) :: H) (sk (so sr)) ?_
 refine At.loopE1R hM (fun (s57 : Int) R' H' st' => R = R' ∧ H' = (b49, .cells #[iv x1.Ballast, v1_1] 66) :: H ∧ SubL st' [(3, .pointer (some ⟨b49, 0, none⟩)), (5, iv s57)]) (fun (p57_0 : Unit) R' H' st' => R = R' ∧ H = H' ∧ SubL st' []) 0 rfl ⟨rfl, rfl, SubT.sub ⟨rfl, rfl, trivial⟩⟩ ?_ ?_
 rotate_right
 ·rintro s57 R57 H57 st57 ⟨rfl, rfl, hst57⟩ x57 hM again57 ex57_0 out57
  refine At.sub hst57 ?_
  refine sq ?_
  refine sg rg5 ?_
  refine vs 2 ?_
  refine ld 1 one25 z0 ?_
  refine ls h1_1 Tryz.underlying25 ?_
  refine vs 1 ?_
  refine er ?_
  refine sc hM (fun ht72 hM => ?_) (fun ht72 hM => ?_)
  ·refine sp ?_
   refine sq ?_
   refine At.block ?_
   refine sg rg7 ?_
   refine vs 1 ?_
   refine ld 1 one25 z0 ?_
   refine vs 1 ?_
   obtain ⟨x73, hx73, hM⟩ := bnd hM
   obtain ⟨x74, hx74, hM⟩ := bnd hM
   obtain ⟨bx73, ox73, _, rfl, hcx73, hix73⟩ := h1_1.elem slice25 hx73
   refine At.s rfl rfl (Ox.indexV rfl rfl rfl hix73 rfl (.put rfl) ?_)
   refine At.ld one3 (hcx73.any.one (j := 0) rfl) ?_
   refine At.cv ent58 (m58_ok x73 0 99  hx74) ?_
   rintro _ _ _ ⟨rfl, rfl, rfl⟩
   refine vs 1 ?_
   refine er ?_
   refine sc hM (fun ht75 hM => ?_) (fun ht75 hM => ?_)
   ·refine sg rg1 ?_
    refine vs 1 ?_
    refine er ?_
    replace hM := out57 _ (sinj hM).symm
    obtain rfl := sinj hM
    exact rt Tryz.func142 (.tmp rfl .nil) (so sr) (hk _ _ _ ⟨rfl, rfl, rfl⟩)
   refine sp ?_
   refine At.inBlock ?_
   refine At.rg rg3 ?_
   refine vs 3 ?_
   refine er ?_
   exact again57 _ (sinj hM).symm _ _ _ ⟨rfl, rfl, SubT.sub ⟨rfl, rfl, trivial⟩⟩
  exact At.exit rfl (At.drop (so sr) (ex57_0 _ (sinj hM).symm _ _ _ ⟨rfl, rfl, SubT.sub trivial⟩))
 rintro p57_0 R57_0 H57_0 st57_0 ⟨rfl, rfl, hst57_0⟩ hM
 refine At.sub hst57_0 ?_
 refine sg rg1 ?_
 refine vs 1 ?_
 refine er ?_
 obtain rfl := sinj hM
 exact rt Tryz.func142 (.tmp rfl .nil) sr (hk _ _ _ ⟨rfl, rfl, rfl⟩)
theorem m79_ok (x0 : HullBook) (x1 : HullCase) (x2 : (List Int)) {v0_3 v0_4 v0_5 v1_1 v2 : Value} (h0_3 : SlR CHullPiece 5 R v0_3 x0.Pieces) (h0_4 : SlR CZ 1 R v0_4 x0.Out) (h0_5 : SlR CHullHeel 2 R v0_5 x0.Heels) (h1_1 : SlR CZ 1 R v1_1 x1.Weights) (h2 : RdS CZ 1 R H v2 x2) {r : (Int × Int)} (hM : m79 x0 x1 x2 = some r) : FnOk 𝒥 79 #[.agg #[iv x0.Limit, iv x0.Ballast.Least, iv x0.Ballast.Most, v0_3, v0_4, v0_5], .agg #[iv x1.Ballast, v1_1], v2] R H (fun v R' H' => R = R' ∧ H = H' ∧ v = .tuple #[iv r.1, iv r.2]) := by
 unfold m79 at hM
 refine FnOk.of_at Tryz.func79 rfl (n := 34) rfl rfl fun fr cs hk => ?_
 refine sg rg4 ?_
 refine bx fun b33 => ?_
 refine bx fun b34 => ?_
 refine vs 2 ?_
 refine es ?_
 refine sg rg3 ?_
 refine lN [_, _, _, _, _, _] 0 6 agg28 z1 ?_
 obtain ⟨x35, hx35, hM⟩ := bnd hM
 refine At.cv ent61 (m61_ok x0 h0_3 h0_4 h0_5 hx35) ?_
 rintro _ _ _ ⟨rfl, rfl, rfl⟩
 refine vs 1 ?_
 refine nx rg2 ?_
 refine vs 2 ?_
 refine er ?_
 refine sc hM (fun ht38 hM => ?_) (fun ht38 hM => ?_)
 ·refine sg rg3 ?_
  refine vs 3 ?_
  refine er ?_
  obtain rfl := sinj hM
  exact rt Tryz.func79 (.tmp rfl (.tmp rfl .nil)) (so (so sr)) (hk _ _ _ ⟨rfl, rfl, rfl⟩)
 refine sp ?_
 refine sq ?_
 refine sg rg4 ?_
 refine lN [_, _, _, _, _, _] 0 6 agg28 z1 ?_
 refine lN [_, _] 0 2 agg66 z0 ?_
 obtain ⟨x39, hx39, hM⟩ := bnd hM
 refine At.cv ent142 (m142_ok x0 x1 h0_3 h0_4 h0_5 h1_1 hx39) ?_
 rintro _ _ _ ⟨rfl, rfl, rfl⟩
 refine vs 1 ?_
 refine nx rg2 ?_
 refine vs 2 ?_
 refine er ?_
 refine sc hM (fun ht42 hM => ?_) (fun ht42 hM => ?_)
 ·refine sg rg3 ?_
  refine vs 3 ?_
  refine er ?_
  obtain rfl := sinj hM
  exact rt Tryz.func79 (.tmp rfl (.tmp rfl .nil)) (so (so sr)) (hk _ _ _ ⟨rfl, rfl, rfl⟩)
 refine sp ?_
 refine sq ?_
 refine sg rg6 ?_
 refine vs 2 ?_
 refine ld 3 one24 z1 ?_
 refine ls h0_3 Tryz.underlying24 ?_
 obtain ⟨x43, hx43, hM⟩ := bnd hM
 refine At.cv ent66 (m66_ok x2 (x0.Pieces.length : Int) (h2.sub (su (so (so sr)))) hx43) ?_
 rintro _ _ _ ⟨rfl, rfl, rfl⟩
 refine vs 1 ?_
 refine nx rg2 ?_
 refine vs 2 ?_
 refine er ?_
 refine sc hM (fun ht44 hM => ?_) (fun ht44 hM => ?_)
 ·refine sg rg3 ?_
  refine vs 3 ?_
  refine er ?_
  obtain rfl := sinj hM
  exact rt Tryz.func79 (.tmp rfl (.tmp rfl .nil)) (so (so sr)) (hk _ _ _ ⟨rfl, rfl, rfl⟩)
 refine sp ?_
 refine sg rg6 ?_
 refine lN [_, _, _, _, _, _] 0 6 agg28 z1 ?_
 refine lN [_, _] 0 2 agg66 z0 ?_
 refine vs 1 ?_
 obtain ⟨x45, hx45, hM⟩ := bnd hM
 refine At.cv ent140 (m140_ok x0 x1 x2 h0_3 h0_4 h0_5 h1_1 (h2.sub (su (so (so sr)))) hx45) ?_
 rintro _ _ _ ⟨rfl, rfl, rfl⟩
 refine vs 2 ?_
 refine er ?_
 obtain rfl := sinj hM
 exact rt Tryz.func79 (.tmp rfl (.tmp rfl .nil)) (so (so sr)) (hk _ _ _ ⟨rfl, rfl, rfl⟩)
theorem m80_ok (x0 : HullBook) (x1 : HullCase) {v0_3 v0_4 v0_5 v1_1 : Value} (hG : GOk R) (h0_3 : SlR CHullPiece 5 R v0_3 x0.Pieces) (h0_4 : SlR CZ 1 R v0_4 x0.Out) (h0_5 : SlR CHullHeel 2 R v0_5 x0.Heels) (h1_1 : SlR CZ 1 R v1_1 x1.Weights) {r : (Bool × Int)} (hM : m80 x0 x1 = some r) : FnOk 𝒥 80 #[.agg #[iv x0.Limit, iv x0.Ballast.Least, iv x0.Ballast.Most, v0_3, v0_4, v0_5], .agg #[iv x1.Ballast, v1_1]] R H (fun v R' H' => RLe R R' ∧ H = H' ∧ v = .tuple #[.bool r.1, iv r.2]) := by
 unfold m80 at hM
 refine FnOk.of_at Tryz.func80 rfl (n := 72) rfl rfl fun fr cs hk => ?_
 refine sg rg4 ?_
 refine bx fun b57 => ?_
 refine bx fun b58 => ?_
 refine vs 2 ?_
 refine es ?_
 refine sg rg3 ?_
 refine lN [_, _, _, _, _, _] 0 6 agg28 z1 ?_
 obtain ⟨x59, hx59, hM⟩ := bnd hM
 refine At.cv ent83 (m83_ok x0 hG h0_3 h0_4 h0_5 hx59) ?_
 rintro _ Rx59 _ ⟨hRx59, rfl, rfl⟩
 replace h0_3 := h0_3.mono hRx59
 replace h0_4 := h0_4.mono hRx59
 replace h0_5 := h0_5.mono hRx59
 replace h1_1 := h1_1.mono hRx59
 refine vs 1 ?_
 refine nx rg2 ?_
 refine vs 2 ?_
 refine er ?_
 refine sc hM (fun ht62 hM => ?_) (fun ht62 hM => ?_)
 ·refine sg rg3 ?_
  refine vs 3 ?_
  refine er ?_
  obtain rfl := sinj hM
  exact rt Tryz.func80 (.tmp rfl (.tmp rfl .nil)) (so (so sr)) (hk _ _ _ ⟨hRx59, rfl, rfl⟩)
 refine sp ?_
 refine sg rg4 ?_
 refine lN [_, _, _, _, _, _] 0 6 agg28 z1 ?_
 refine At.s rfl rfl (Ox.build (cells := #[_, _, _, _, _, _]) rfl struct102 rfl (fill_cons rfl rfl rfl rfl fill_nil) rfl (.put rfl) ?_)
 refine At.s rfl rfl (Ox.alloc (cs := #[iv 0, iv 0, iv 0, .slice none 0 0, .slice none 0 0, .slice none 0 0]) rfl zero102 rfl fun b63 _ _ => ⟨_, (.put rfl), ?_⟩)
 refine At.s rfl rfl (Ox.storeN (cs' := #[_, _, _, _, _, _]) rfl rfl rfl agg102 rfl (ones_cons rfl (ones_cons rfl (ones_cons rfl (ones_cons h0_3.one (ones_cons h0_4.one (ones_cons h0_5.one ones_nil)))))) .here rfl rfl rfl (.refl _) ?_)
 refine nx rg9 ?_
 refine lN [_, _, _, _, _, _] 0 6 agg102 z0 ?_
 refine lN [_, _] 0 2 agg66 z1 ?_
 obtain ⟨x64, hx64, hM⟩ := bnd hM
 refine At.cv ent131 (m131_ok x0 x1 h0_3 h0_4 h0_5 h1_1 hx64) ?_
 rintro _ Rx64 _ ⟨hRx64, rfl, lx64r0_1, rfl⟩
 replace h0_3 := h0_3.mono hRx64
 replace h0_4 := h0_4.mono hRx64
 replace h0_5 := h0_5.mono hRx64
 refine vs 3 ?_
 refine At.s rfl rfl (Ox.alloc (cs := (List.toArray ([iv 0] ++ ([0, 0, 0, 0, 0].map (Value.int .i64) ++ [])))) rfl zero125 rfl fun b65 _ _ => ⟨_, (.put rfl), ?_⟩)
 refine At.s rfl rfl (Ox.storeN (cs' := _) rfl rfl rfl agg125 (by simp [lx64r0_1]) (ones_app (ones_cons rfl ones_nil) (ones_app (ones_map fun _ => rfl) ones_nil)) .here (by simp) (putCells_whole (by simp [lx64r0_1])) rfl (.refl _) ?_)
 refine vs 1 ?_
 refine es ?_
 refine sg rg2 ?_
 refine vs 2 ?_
 refine er ?_
 refine sc hM (fun ht68 hM => ?_) (fun ht68 hM => ?_)
 ·refine sg rg3 ?_
  refine vs 3 ?_
  refine er ?_
  obtain rfl := sinj hM
  exact rt Tryz.func80 (.tmp rfl (.tmp rfl .nil)) (so (so (so (so sr)))) (hk _ _ _ ⟨(hRx59.trans hRx64), rfl, rfl⟩)
 refine sp ?_
 refine sg rg13 ?_
 refine vs 1 ?_
 refine ld 0 one3 z0 ?_
 refine vs 2 ?_
 refine ld 1 one3 z3 ?_
 refine At.s rfl rfl (Ox.max (a := x64.1.ballast) (l := [x0.Ballast.Least]) rfl rfl rfl (.put rfl) ?_)
 refine vs 2 ?_
 refine ld 2 one3 z3 ?_
 refine At.s rfl rfl (Ox.min (a := maxI x64.1.ballast [x0.Ballast.Least]) (l := [x0.Ballast.Most]) rfl rfl rfl (.put rfl) ?_)
 refine At.s rfl rfl (Ox.build (cells := (List.toArray ([iv (minI (maxI x64.1.ballast [x0.Ballast.Least]) [x0.Ballast.Most])] ++ ([0, 0, 0, 0, 0].map (Value.int .i64) ++ [])))) rfl struct125 rfl rfl rfl (.put rfl) ?_)
 refine At.s rfl rfl (Ox.alloc (cs := (List.toArray ([iv 0] ++ ([0, 0, 0, 0, 0].map (Value.int .i64) ++ [])))) rfl zero125 rfl fun b69 _ _ => ⟨_, (.put rfl), ?_⟩)
 refine At.s rfl rfl (Ox.storeN (cs' := _) rfl rfl rfl agg125 (by simp) (ones_app (ones_cons rfl ones_nil) (ones_app (ones_map fun _ => rfl) ones_nil)) .here (by simp) (putCells_whole (by simp [])) rfl (.refl _) ?_)
 refine es ?_
 refine sg rg4 ?_
 refine vs 1 ?_
 refine ld 3 one24 z4 ?_
 refine ls h0_3 Tryz.underlying24 ?_
 refine vs 1 ?_
 refine er ?_
 refine At.block ?_
 refine At.drop (H' := (b69, .cells (List.toArray ([iv (minI (maxI x64.1.ballast [x0.Ballast.Least]) [x0.Ballast.Most])] ++ ([0, 0, 0, 0, 0].map (Value.int .i64) ++ []))) 125) :: (b65, .cells (List.toArray ([iv x64.1.ballast] ++ (x64.1.weights.map (Value.int .i64) ++ []))) 125) :: (b63, .cells #[iv x0.Limit, iv x0.Ballast.Least, iv x0.Ballast.Most, v0_3, v0_4, v0_5] 102) :: H) (sk (sk (sk (so (so sr))))) ?_
 refine At.loopE1 hM (fun (s70 : (Int × (List Int))) R' H' st' => Rx64 = R' ∧ s70.2.length = 5 ∧ H' = (b69, .cells (List.toArray ([iv (minI (maxI x64.1.ballast [x0.Ballast.Least]) [x0.Ballast.Most])] ++ (s70.2.map (Value.int .i64) ++ []))) 125) :: (b65, .cells (List.toArray ([iv x64.1.ballast] ++ (x64.1.weights.map (Value.int .i64) ++ []))) 125) :: (b63, .cells #[iv x0.Limit, iv x0.Ballast.Least, iv x0.Ballast.Most, v0_3, v0_4, v0_5] 102) :: H ∧ SubL st' [(7, .pointer (some ⟨b63, 0, none⟩)), (8, .pointer (some ⟨b65, 0, none⟩)), (10, .pointer (some ⟨b69, 0, none⟩)), (41, v0_3), (42, iv (x0.Pieces.length : Int)), (43, iv s70.1)]) (fun (p70_0 : (List Int)) R' H' st' => Rx64 = R' ∧ p70_0.length = 5 ∧ H' = (b69, .cells (List.toArray ([iv (minI (maxI x64.1.ballast [x0.Ballast.Least]) [x0.Ballast.Most])] ++ (p70_0.map (Value.int .i64) ++ []))) 125) :: (b65, .cells (List.toArray ([iv x64.1.ballast] ++ (x64.1.weights.map (Value.int .i64) ++ []))) 125) :: (b63, .cells #[iv x0.Limit, iv x0.Ballast.Least, iv x0.Ballast.Most, v0_3, v0_4, v0_5] 102) :: H ∧ SubL st' [(7, .pointer (some ⟨b63, 0, none⟩)), (8, .pointer (some ⟨b65, 0, none⟩)), (10, .pointer (some ⟨b69, 0, none⟩))]) 0 rfl ⟨rfl, rfl, rfl, SubT.sub ⟨rfl, rfl, rfl, rfl, rfl, rfl, trivial⟩⟩ ?_ ?_
 rotate_right
 ·rintro s70 R70 H70 st70 ⟨rfl, l70s_1, rfl, hst70⟩ x70 hM again70 ex70_0
  refine At.sub hst70 ?_
  refine sg rg1 ?_
  refine vs 1 ?_
  refine es ?_
  refine sc hM (fun ht87 hM => ?_) (fun ht87 hM => ?_)
  ·refine sp ?_
   refine sq ?_
   refine At.block ?_
   refine sg rg6 ?_
   refine vs 1 ?_
   obtain ⟨x88, hx88, hM⟩ := bnd hM
   obtain ⟨bx88, ox88, _, ⟨vx88_4, hx88_4, rfl⟩, hcx88, hix88⟩ := h0_3.elem slice24 hx88
   refine At.s rfl rfl (Ox.indexV rfl rfl rfl hix88 rfl (.put rfl) ?_)
   refine At.s rfl rfl (Ox.loadN (vs := [_, _, _, _, _]) rfl rfl agg58 rfl (hcx88.any.part (j := 0) (n := 5) rfl) rfl (.put rfl) ?_)
   refine At.s rfl rfl (Ox.alloc (cs := #[.string (⟨#[]⟩), iv 0, iv 0, iv 0, .slice none 0 0]) rfl zero58 rfl fun b89 _ _ => ⟨_, (.put rfl), ?_⟩)
   refine vs 1 ?_
   refine At.s rfl rfl (Ox.storeN (cs' := #[_, _, _, _, _]) rfl rfl rfl agg58 rfl (ones_cons rfl (ones_cons rfl (ones_cons rfl (ones_cons rfl (ones_cons hx88_4.one ones_nil))))) .here rfl rfl rfl (.refl _) ?_)
   refine er ?_
   refine At.draw (n := 16) (is := [0, 1, 2, 3, 4, 5, 6, 7, 8, 9, 10, 11, 12, 13, 14, 15]) (many ((b89, .cells #[.string x88.Name, iv x88.Arm, iv x88.Weight.Least, iv x88.Weight.Most, vx88_4] 58) :: (b69, .cells (List.toArray ([iv (minI (maxI x64.1.ballast [x0.Ballast.Least]) [x0.Ballast.Most])] ++ (s70.2.map (Value.int .i64) ++ []))) 125) :: (b65, .cells (List.toArray ([iv x64.1.ballast] ++ (x64.1.weights.map (Value.int .i64) ++ []))) 125) :: (b63, .cells #[iv x0.Limit, iv x0.Ballast.Least, iv x0.Ballast.Most, v0_3, v0_4, v0_5] 102) :: H) [(15, (b89, .cells #[.string x88.Name, iv x88.Arm, iv x88.Weight.Least, iv x88.Weight.Most, vx88_4] 58) :: (b65, .cells (List.toArray ([iv x64.1.ballast] ++ (x64.1.weights.map (Value.int .i64) ++ []))) 125) :: (b63, .cells #[iv x0.Limit, iv x0.Ballast.Least, iv x0.Ballast.Most, v0_3, v0_4, v0_5] 102) :: H)]) mixed rfl (by decide +kernel) rfl rfl ?_
   refine Any.vs 3 [0, 1, 2] rfl ?_
   obtain ⟨x90, hx90, hM⟩ := bnd hM
   refine ts 3 [4, 8, 12, 14, 15] rfl (many_skip rfl (many_nil (su (so (so (so (so sr))))))) (su (so (so (so (so sr))))) (fun R' H' hR hS => Ox.indexV rfl rfl rfl (idxArr' array123 lx64r0_1 hx90) rfl (.one rfl) ⟨rfl, rfl, rfl⟩) ?_
   refine ts 4 [8, 12, 14, 15] rfl (many_skip rfl (many_nil (su (so (so (sk (so sr))))))) (su (so (so (sk (so sr))))) (fun R' H' hR hS => Ox.load1 rfl rfl one3 ((CellsAt.box (hS _ z0)).arr hx90 rfl) rfl (.one rfl) ⟨rfl, rfl, rfl⟩) ?_
   refine Any.vs 2 [5, 6] rfl ?_
   refine ts 7 [8, 12, 14, 15] rfl (many_skip rfl (many_nil (su (sk (so (so (so sr))))))) (su (sk (so (so (so sr))))) (fun R' H' hR hS => Ox.load1 rfl rfl one3 ((CellsAt.box (hS _ z0)).one (j := 2) rfl) rfl (.one rfl) ⟨rfl, rfl, rfl⟩) ?_
   refine ts 8 [12, 14, 15] rfl (many_skip rfl (many_nil (su (so (so (so (so sr))))))) (su (so (so (so (so sr))))) (fun R' H' hR hS => Ox.max (a := x90) (l := [x88.Weight.Least]) rfl rfl rfl (.one rfl) ⟨rfl, rfl, rfl⟩) ?_
   refine Any.vs 2 [9, 10] rfl ?_
   refine ts 11 [12, 14, 15] rfl (many_skip rfl (many_nil (su (sk (so (so (so sr))))))) (su (sk (so (so (so sr))))) (fun R' H' hR hS => Ox.load1 rfl rfl one3 ((CellsAt.box (hS _ z0)).one (j := 3) rfl) rfl (.one rfl) ⟨rfl, rfl, rfl⟩) ?_
   refine ts 12 [14, 15] rfl (many_skip rfl (many_nil (su (so (so (so (so sr))))))) (su (so (so (so (so sr))))) (fun R' H' hR hS => Ox.min (a := maxI x90 [x88.Weight.Least]) (l := [x88.Weight.Most]) rfl rfl rfl (.one rfl) ⟨rfl, rfl, rfl⟩) ?_
   refine Any.vs 1 [13] rfl ?_
   obtain ⟨x91, hx91, hM⟩ := bnd hM
   refine ts 14 [15] rfl (many_skip rfl (many_nil (su (so (so (so (so sr))))))) (su (so (so (so (so sr))))) (fun R' H' hR hS => Ox.indexV rfl rfl rfl (idxArr' array123 l70s_1 hx91) rfl (.one rfl) ⟨rfl, rfl, rfl⟩) ?_
   refine Any.on 15 rfl rfl (SemTo.to (Ox.store1 rfl rfl rfl one3 rfl (.there .here) (arr_lt hx91 rfl) (arr_set hx91 rfl) rfl (.refl _) ⟨rr, (many_at rfl (su (sk (so sr)))), ?_⟩))
   refine Any.done ?_
   refine At.inBlock ?_
   refine At.rg rg2 ?_
   refine vs 2 ?_
   refine er ?_
   exact At.drop (so sr) (again70 _ (sinj hM).symm _ _ _ ⟨rfl, ((List.length_set).trans l70s_1), rfl, SubT.sub ⟨rfl, rfl, rfl, rfl, rfl, rfl, trivial⟩⟩)
  exact At.exit rfl (ex70_0 _ (sinj hM).symm _ _ _ ⟨rfl, l70s_1, rfl, SubT.sub ⟨rfl, rfl, rfl, trivial⟩⟩)
 rintro p70_0 R70_0 H70_0 st70_0 ⟨rfl, l70_0_0, rfl, hst70_0⟩ hM
 refine At.sub hst70_0 ?_
 refine sg rg10 ?_
 refine At.s rfl rfl (Ox.loadN (vs := _) rfl rfl agg125 (by simp [l70_0_0]) ((CellsAt.box z0).part (j := 0) (n := 6) (take_all (by simp [l70_0_0]))) rfl (.put rfl) ?_)
 refine At.s rfl rfl (Ox.loadN (vs := _) rfl rfl agg125 (by simp [lx64r0_1]) ((CellsAt.box z1).part (j := 0) (n := 6) (take_all (by simp [lx64r0_1]))) rfl (.put rfl) ?_)
 refine At.s rfl rfl (Ox.cmpAgg rfl rfl rfl grd125 (eqv125 (x := (⟨minI (maxI x64.1.ballast [x0.Ballast.Least]) [x0.Ballast.Most], p70_0⟩ : Cargo)) (y := x64.1) l70_0_0 lx64r0_1) rfl rfl (.put rfl) ?_)
 refine vs 1 ?_
 refine selC hM (fun ht92 hM => ?_) (fun ht92 hM => ?_)
 ·refine At.kn 67 ht92 ?_
  refine lN [_, _, _, _, _, _] 0 6 agg102 z2 ?_
  refine At.s rfl rfl (Ox.loadN (vs := _) rfl rfl agg125 (by simp [lx64r0_1]) ((CellsAt.box z1).part (j := 0) (n := 6) (take_all (by simp [lx64r0_1]))) rfl (.put rfl) ?_)
  obtain ⟨x93, hx93, hM⟩ := bnd hM
  refine At.cv ent143 (m143_ok x0 x64.1 h0_3 h0_4 h0_5 lx64r0_1 hx93) ?_
  rintro _ Rx93 _ ⟨hRx93, rfl, rfl⟩
  refine vs 3 ?_
  refine er ?_
  obtain rfl := sinj hM
  exact rt Tryz.func80 (.tmp rfl (.tmp rfl .nil)) (so (so (so sr))) (hk _ _ _ ⟨((hRx59.trans hRx64).trans hRx93), rfl, rfl⟩)
 refine At.kn 67 ht92 ?_
 refine vs 6 ?_
 refine er ?_
 obtain rfl := sinj hM
 exact rt Tryz.func80 (.tmp rfl (.tmp rfl .nil)) (so (so (so sr))) (hk _ _ _ ⟨(hRx59.trans hRx64), rfl, rfl⟩)
theorem m81_ok (x0 : HullBook) (x1 : HullCase) {v0_3 v0_4 v0_5 v1_1 : Value} (h0_3 : SlR CHullPiece 5 R v0_3 x0.Pieces) (h0_4 : SlR CZ 1 R v0_4 x0.Out) (h0_5 : SlR CHullHeel 2 R v0_5 x0.Heels) (h1_1 : SlR CZ 1 R v1_1 x1.Weights) {r : (Bool × Int)} (hM : m81 x0 x1 = some r) : FnOk 𝒥 81 #[.agg #[iv x0.Limit, iv x0.Ballast.Least, iv x0.Ballast.Most, v0_3, v0_4, v0_5], .agg #[iv x1.Ballast, v1_1]] R H (fun v R' H' => R = R' ∧ H = H' ∧ v = .tuple #[.bool r.1, iv r.2]) := by
 unfold m81 at hM
 refine FnOk.of_at Tryz.func81 rfl (n := 58) rfl rfl fun fr cs hk => ?_
 refine sg rg4 ?_
 refine bx fun b60 => ?_
 refine bx fun b61 => ?_
 refine vs 2 ?_
 refine es ?_
 refine sg rg3 ?_
 refine lN [_, _, _, _, _, _] 0 6 agg28 z1 ?_
 obtain ⟨x62, hx62, hM⟩ := bnd hM
 refine At.cv ent61 (m61_ok x0 h0_3 h0_4 h0_5 hx62) ?_
 rintro _ _ _ ⟨rfl, rfl, rfl⟩
 refine vs 1 ?_
 refine nx rg2 ?_
 refine vs 2 ?_
 refine er ?_
 refine sc hM (fun ht65 hM => ?_) (fun ht65 hM => ?_)
 ·refine sg rg3 ?_
  refine vs 3 ?_
  refine er ?_
  obtain rfl := sinj hM
  exact rt Tryz.func81 (.tmp rfl (.tmp rfl .nil)) (so (so sr)) (hk _ _ _ ⟨rfl, rfl, rfl⟩)
 refine sp ?_
 refine sq ?_
 refine sg rg4 ?_
 refine lN [_, _, _, _, _, _] 0 6 agg28 z1 ?_
 refine lN [_, _] 0 2 agg66 z0 ?_
 obtain ⟨x66, hx66, hM⟩ := bnd hM
 refine At.cv ent142 (m142_ok x0 x1 h0_3 h0_4 h0_5 h1_1 hx66) ?_
 rintro _ _ _ ⟨rfl, rfl, rfl⟩
 refine vs 1 ?_
 refine nx rg2 ?_
 refine vs 2 ?_
 refine er ?_
 refine sc hM (fun ht69 hM => ?_) (fun ht69 hM => ?_)
 ·refine sg rg3 ?_
  refine vs 3 ?_
  refine er ?_
  obtain rfl := sinj hM
  exact rt Tryz.func81 (.tmp rfl (.tmp rfl .nil)) (so (so sr)) (hk _ _ _ ⟨rfl, rfl, rfl⟩)
 refine sp ?_
 refine sq ?_
 refine sg rg10 ?_
 refine vs 1 ?_
 refine ld 0 one3 z0 ?_
 refine vs 2 ?_
 refine ld 1 one3 z1 ?_
 refine vs 2 ?_
 refine ld 2 one3 z1 ?_
 obtain ⟨x70, hx70, hM⟩ := bnd hM
 refine At.cv ent58 (m58_ok x1.Ballast x0.Ballast.Least x0.Ballast.Most  hx70) ?_
 rintro _ _ _ ⟨rfl, rfl, rfl⟩
 refine vs 1 ?_
 refine er ?_
 refine sc hM (fun ht73 hM => ?_) (fun ht73 hM => ?_)
 ·refine sg rg2 ?_
  refine vs 2 ?_
  refine er ?_
  obtain rfl := sinj hM
  exact rt Tryz.func81 (.tmp rfl (.tmp rfl .nil)) (so (so sr)) (hk _ _ _ ⟨rfl, rfl, rfl⟩)
 refine sp ?_
 refine sq ?_
 refine sg rg1 ?_
 refine vs 1 ?_
 refine er ?_
 refine At.block ?_
 refine At.loopE1R hM (fun (s74 : Int) R' H' st' => R = R' ∧ H' = (b61, .cells #[iv x1.Ballast, v1_1] 66) :: (b60, .cells #[iv x0.Limit, iv x0.Ballast.Least, iv x0.Ballast.Most, v0_3, v0_4, v0_5] 28) :: H ∧ SubL st' [(2, .pointer (some ⟨b60, 0, none⟩)), (3, .pointer (some ⟨b61, 0, none⟩)), (8, iv s74)]) (fun (p74_0 : Unit) R' H' st' => R = R' ∧ H' = (b61, .cells #[iv x1.Ballast, v1_1] 66) :: (b60, .cells #[iv x0.Limit, iv x0.Ballast.Least, iv x0.Ballast.Most, v0_3, v0_4, v0_5] 28) :: H ∧ SubL st' [(2, .pointer (some ⟨b60, 0, none⟩)), (3, .pointer (some ⟨b61, 0, none⟩))]) 0 rfl ⟨rfl, rfl, SubT.sub ⟨rfl, rfl, rfl, trivial⟩⟩ ?_ ?_
 rotate_right
 ·rintro s74 R74 H74 st74 ⟨rfl, rfl, hst74⟩ x74 hM again74 ex74_0 out74
  refine At.sub hst74 ?_
  refine sq ?_
  refine sg rg5 ?_
  refine vs 2 ?_
  refine ld 1 one25 z0 ?_
  refine ls h1_1 Tryz.underlying25 ?_
  refine vs 1 ?_
  refine er ?_
  refine sc hM (fun ht93 hM => ?_) (fun ht93 hM => ?_)
  ·refine sp ?_
   refine sq ?_
   refine At.block ?_
   refine sg rg8 ?_
   refine vs 1 ?_
   refine ld 3 one24 z1 ?_
   refine vs 1 ?_
   obtain ⟨x94, hx94, hM⟩ := bnd hM
   obtain ⟨bx94, ox94, _, ⟨vx94_4, hx94_4, rfl⟩, hcx94, hix94⟩ := h0_3.elem slice24 hx94
   refine At.s rfl rfl (Ox.indexV rfl rfl rfl hix94 rfl (.put rfl) ?_)
   refine vs 1 ?_
   refine At.s rfl rfl (Ox.loadN (vs := [_, _]) rfl rfl agg23 rfl (hcx94.any.part (j := 2) (n := 2) rfl) rfl (.put rfl) ?_)
   refine At.s rfl rfl (Ox.alloc (cs := #[iv 0, iv 0]) rfl zero23 rfl fun b95 _ _ => ⟨_, (.put rfl), ?_⟩)
   refine At.s rfl rfl (Ox.storeN (cs' := #[_, _]) rfl rfl rfl agg23 rfl (ones_cons rfl (ones_cons rfl ones_nil)) .here rfl rfl rfl (.refl _) ?_)
   refine es ?_
   refine At.dw rg11 mixed ?_
   refine Any.vs 1 [0] rfl ?_
   refine tl 1 1 one25 z1 ?_
   refine Any.vs 1 [2] rfl ?_
   obtain ⟨x96, hx96, hM⟩ := bnd hM
   obtain ⟨x97, hx97, hM⟩ := bnd hM
   obtain ⟨bx96, ox96, _, rfl, hcx96, hix96⟩ := h1_1.elem slice25 hx96
   refine Any.tk 3 rfl pp (fun R' H' hR hS => Ox.indexV rfl rfl rfl hix96 rfl (.one rfl) ⟨rfl, rfl, rfl⟩) ?_
   refine Any.tk 4 rfl pp (fun R' H' hR hS => Ox.load1 rfl rfl one3 ((hcx96.up hR).one (j := 0) rfl) rfl (.one rfl) ⟨rfl, rfl, rfl⟩) ?_
   refine Any.vs 1 [5] rfl ?_
   refine tl 6 0 one3 z0 ?_
   refine Any.vs 1 [7] rfl ?_
   refine tl 8 1 one3 z0 ?_
   refine Any.cv 9 ent58 (m58_ok x96 x94.Weight.Least x94.Weight.Most  hx97) ?_
   rintro _ _ _ ⟨rfl, rfl, rfl⟩
   refine kp ?_
   refine Any.vs 1 [10] rfl ?_
   refine Any.done ?_
   refine sc hM (fun ht98 hM => ?_) (fun ht98 hM => ?_)
   ·refine sg rg2 ?_
    refine vs 2 ?_
    refine er ?_
    replace hM := out74 _ (sinj hM).symm
    obtain rfl := sinj hM
    exact rt Tryz.func81 (.tmp rfl (.tmp rfl .nil)) (so (so (so sr))) (hk _ _ _ ⟨rfl, rfl, rfl⟩)
   refine sp ?_
   refine At.inBlock ?_
   refine At.rg rg3 ?_
   refine vs 3 ?_
   refine er ?_
   exact At.drop (so sr) (again74 _ (sinj hM).symm _ _ _ ⟨rfl, rfl, SubT.sub ⟨rfl, rfl, rfl, trivial⟩⟩)
  exact At.exit rfl (ex74_0 _ (sinj hM).symm _ _ _ ⟨rfl, rfl, SubT.sub ⟨rfl, rfl, trivial⟩⟩)
 rintro p74_0 R74_0 H74_0 st74_0 ⟨rfl, rfl, hst74_0⟩ hM
 refine At.sub hst74_0 ?_
 refine sg rg5 ?_
 refine lN [_, _, _, _, _, _] 0 6 agg28 z1 ?_
 refine lN [_, _] 0 2 agg66 z0 ?_
 obtain ⟨x99, hx99, hM⟩ := bnd hM
 refine At.cv ent144 (m144_ok x0 x1 h0_3 h0_4 h0_5 h1_1 hx99) ?_
 rintro _ _ _ ⟨rfl, rfl, rfl⟩
 refine vs 2 ?_
 refine er ?_
 obtain rfl := sinj hM
 exact rt Tryz.func81 (.tmp rfl (.tmp rfl .nil)) (so (so sr)) (hk _ _ _ ⟨rfl, rfl, rfl⟩)
theorem m82_ok (x0 : HullBook) {v0_3 v0_4 v0_5 : Value} (h0_3 : SlR CHullPiece 5 R v0_3 x0.Pieces) (h0_4 : SlR CZ 1 R v0_4 x0.Out) (h0_5 : SlR CHullHeel 2 R v0_5 x0.Heels) {r : ((List Int) × Int)} (hM : m82 x0 = some r) : FnOk 𝒥 82 #[.agg #[iv x0.Limit, iv x0.Ballast.Least, iv x0.Ballast.Most, v0_3, v0_4, v0_5]] R H (fun v R' H' => RLe R R' ∧ H = H' ∧ ∃ vr0, SlR CZ 1 R' vr0 r.1 ∧ v = .tuple #[vr0, iv r.2]) := by
 unfold m82 at hM
 refine FnOk.of_at Tryz.func82 rfl (n := 14) rfl rfl fun fr cs hk => ?_
 refine sg rg3 ?_
 refine bx fun b24 => ?_
 refine vs 2 ?_
 refine es ?_
 refine sg rg3 ?_
 refine lN [_, _, _, _, _, _] 0 6 agg28 z0 ?_
 obtain ⟨x25, hx25, hM⟩ := bnd hM
 refine At.cv ent61 (m61_ok x0 h0_3 h0_4 h0_5 hx25) ?_
 rintro _ _ _ ⟨rfl, rfl, rfl⟩
 refine vs 1 ?_
 refine nx rg2 ?_
 refine vs 2 ?_
 refine er ?_
 refine sc hM (fun ht26 hM => ?_) (fun ht26 hM => ?_)
 ·refine sg rg3 ?_
  refine vs 3 ?_
  refine er ?_
  obtain rfl := sinj hM
  exact rt Tryz.func82 (.tmp rfl (.tmp rfl .nil)) (so sr) (hk _ _ _ ⟨(rr), rfl, .slice none 0 0, SlR.nil, rfl⟩)
 refine sp ?_
 refine sg rg6 ?_
 refine lN [_, _, _, _, _, _] 0 6 agg28 z0 ?_
 refine vs 1 ?_
 refine ld 4 one25 z0 ?_
 obtain ⟨x27, hx27, hM⟩ := bnd hM
 refine At.cv ent96 (m96_ok x0 x0.Out h0_3 h0_4 h0_5 h0_4.rd hx27) ?_
 rintro vx27r0 Rx27 _ ⟨hRx27, rfl, _, hx27r0, rfl⟩
 refine vs 2 ?_
 refine er ?_
 obtain rfl := sinj hM
 exact rt Tryz.func82 (.tmp rfl (.tmp rfl .nil)) (so sr) (hk _ _ _ ⟨hRx27, rfl, vx27r0, hx27r0, rfl⟩)
end
end Go.Proofs.YtabamagholjdcaaGreatDoor
