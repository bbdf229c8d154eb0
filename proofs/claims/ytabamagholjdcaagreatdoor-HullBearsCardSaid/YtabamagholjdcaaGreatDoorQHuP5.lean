/- Walks, part 5: each function computes its model. -/
import Derived.Test.YtabamagholjdcaaGreatDoorQHuP4
namespace Go.Proofs.YtabamagholjdcaaGreatDoor
open Go.Lg Go.Proofs
set_option maxRecDepth 100000
set_option maxHeartbeats 4000000
section
variable {B : Base} {main : Bool} {𝒥 : Jd Tryz.prog B main} {R : RMap} {H : HList}
theorem m52_ok (x0 : Int)  {r : (List Int)} (hM : m52 x0 = some r) : FnOk 𝒥 52 #[iv x0] R H (fun v R' H' => RLe R R' ∧ H = H' ∧ ∃ vr0, SlR CZ 1 R' vr0 r ∧ v = vr0) := by
 unfold m52 at hM
 refine FnOk.of_at Tryz.func52 rfl (n := 15) rfl rfl fun fr cs hk => ?_
 refine sg rg1 ?_
 refine vs 1 ?_
 refine nx rg1 ?_
 refine vs 1 ?_
 refine es ?_
 refine sg rg1 ?_
 refine vs 1 ?_
 refine er ?_
 refine At.block ?_
 refine At.loopE1 hM (fun (s37 : ((List Int) × Int)) R' H' st' => R = R' ∧ ∃ v37s_0 Hs37s_0, OwnSl CZ 1 3 R' v37s_0 s37.1 Hs37s_0 ∧ H' = Hs37s_0 ++ (H) ∧ SubL st' [(0, iv x0), (3, v37s_0), (4, iv s37.2)]) (fun (p37_0 : (List Int)) R' H' st' => R = R' ∧ ∃ v37_0_0 Hs37_0_0, OwnSl CZ 1 3 R' v37_0_0 p37_0 Hs37_0_0 ∧ H' = Hs37_0_0 ++ (H) ∧ SubL st' [(3, v37_0_0)]) 0 rfl ⟨rfl, .slice none 0 0, [], OwnSl.nil, rfl, SubT.sub ⟨rfl, rfl, rfl, trivial⟩⟩ ?_ ?_
 rotate_right
 ·rintro s37 R37 H37 st37 ⟨rfl, v37s_0, Hs37s_0, ho37s_0, rfl, hst37⟩ x37 hM again37 ex37_0
  refine At.sub hst37 ?_
  refine sq ?_
  refine sg rg3 ?_
  refine vs 3 ?_
  refine er ?_
  refine sc hM (fun ht50 hM => ?_) (fun ht50 hM => ?_)
  ·refine sp ?_
   refine sq ?_
   refine At.block ?_
   refine At.rg rg5 ?_
   refine vs 2 ?_
   refine At.s rfl rfl (Ox.buildSlice (cells := #[_]) rfl elem25 rfl (by decide) base25_1 (fill_cons rfl rfl rfl rfl fill_nil) rfl fun b51 _ _ => ⟨_, (.put rfl), ?_⟩)
   obtain ⟨x52, hx52, hM⟩ := bnd hM
   refine At.s rfl rfl (Ox.append (K := CZ) (fun X => (b51, _) :: X ++ (H)) rfl rfl rfl app25 Tryz.underlying25 (by simp) (.cons .id) ho37s_0 (ArgSl.lit z0 (Enc.le (Enc.cons (x := s37.2) rfl rfl Enc.nil) rfl) rfl) hx52 rfl fun vx52 Hsx52 hox52 => ⟨_, (.put rfl), ?_⟩)
   refine vs 1 ?_
   refine er ?_
   refine At.inBlock ?_
   refine At.rg rg3 ?_
   refine vs 3 ?_
   refine er ?_
   exact At.drop (so sr) (again37 _ (sinj hM).symm _ _ _ ⟨rfl, vx52, Hsx52, hox52, rfl, SubT.sub ⟨rfl, rfl, rfl, trivial⟩⟩)
  exact At.exit rfl (ex37_0 _ (sinj hM).symm _ _ _ ⟨rfl, v37s_0, Hs37s_0, ho37s_0, rfl, SubT.sub ⟨rfl, trivial⟩⟩)
 rintro p37_0 R37_0 H37_0 st37_0 ⟨rfl, v37_0_0, Hs37_0_0, ho37_0_0, rfl, hst37_0⟩ hM
 refine At.sub hst37_0 ?_
 refine sg rg2 ?_
 refine vs 2 ?_
 refine er ?_
 refine At.freezeOwn (H2 := H) (fun X => X ++ (H)) .id rfl ho37_0_0 (fun Rf53 hRf53 hf53 => ?_)
 obtain rfl := sinj hM
 exact rt Tryz.func52 (.tmp rfl .nil) sr (hk _ _ _ ⟨hRf53, rfl, v37_0_0, hf53, rfl⟩)
theorem m65_ok (x0 : HullBook) (x1 : (List Int)) {v0_3 v0_4 v0_5 v1 : Value} (h0_3 : SlR CHullPiece 5 R v0_3 x0.Pieces) (h0_4 : SlR CZ 1 R v0_4 x0.Out) (h0_5 : SlR CHullHeel 2 R v0_5 x0.Heels) (h1 : RdS CZ 1 R H v1 x1) {r : HullBook} (hM : m65 x0 x1 = some r) : FnOk 𝒥 65 #[.agg #[iv x0.Limit, iv x0.Ballast.Least, iv x0.Ballast.Most, v0_3, v0_4, v0_5], v1] R H (fun v R' H' => RLe R R' ∧ H = H' ∧ ∃ vr0_3 vr0_4 vr0_5, SlR CHullPiece 5 R' vr0_3 r.Pieces ∧ SlR CZ 1 R' vr0_4 r.Out ∧ SlR CHullHeel 2 R' vr0_5 r.Heels ∧ v = .agg #[iv r.Limit, iv r.Ballast.Least, iv r.Ballast.Most, vr0_3, vr0_4, vr0_5]) := by
 unfold m65 at hM
 refine FnOk.of_at Tryz.func65 rfl (n := 29) rfl rfl fun fr cs hk => ?_
 refine sg rg2 ?_
 refine bx fun b46 => ?_
 refine At.s rfl rfl (Ox.alloc (cs := #[iv 0, iv 0, iv 0, .slice none 0 0, .slice none 0 0, .slice none 0 0]) rfl zero28 rfl fun b47 _ _ => ⟨_, (.put rfl), ?_⟩)
 refine nx rg3 ?_
 refine lN [_, _, _, _, _, _] 0 6 agg28 z1 ?_
 refine At.s rfl rfl (Ox.alloc (cs := #[iv 0, iv 0, iv 0, .slice none 0 0, .slice none 0 0, .slice none 0 0]) rfl zero28 rfl fun b48 _ _ => ⟨_, (.put rfl), ?_⟩)
 refine At.s rfl rfl (Ox.storeN (cs' := #[_, _, _, _, _, _]) rfl rfl rfl agg28 rfl (ones_cons rfl (ones_cons rfl (ones_cons rfl (ones_cons h0_3.one (ones_cons h0_4.one (ones_cons h0_5.one ones_nil)))))) .here rfl rfl rfl (.refl _) ?_)
 refine nx rg2 ?_
 refine vs 1 ?_
 refine At.s rfl rfl (Ox.store1 (cs' := #[_, _, _, _, _, _]) rfl rfl rfl one26 rfl .here rfl rfl rfl (.refl _) ?_)
 refine es ?_
 refine sg rg1 ?_
 refine vs 1 ?_
 refine er ?_
 refine At.block ?_
 refine At.loopE1 hM (fun (s49 : (Int × (List HullHeel))) R' H' st' => R = R' ∧ ∃ v49s_1 Hs49s_1, OwnSl CHullHeel 2 47 R' v49s_1 s49.2 Hs49s_1 ∧ H' = Hs49s_1 ++ ((b48, .cells #[iv x0.Limit, iv x0.Ballast.Least, iv x0.Ballast.Most, v0_3, v0_4, v49s_1] 28) :: (b47, .cells #[iv 0, iv 0, iv 0, .slice none 0 0, .slice none 0 0, .slice none 0 0] 28) :: (b46, .cells #[iv x0.Limit, iv x0.Ballast.Least, iv x0.Ballast.Most, v0_3, v0_4, v0_5] 28) :: H) ∧ SubL st' [(1, v1), (2, .pointer (some ⟨b46, 0, none⟩)), (4, .pointer (some ⟨b47, 0, none⟩)), (5, .pointer (some ⟨b48, 0, none⟩)), (6, iv s49.1)]) (fun (p49_0 : (List HullHeel)) R' H' st' => R = R' ∧ ∃ v49_0_0 Hs49_0_0, OwnSl CHullHeel 2 47 R' v49_0_0 p49_0 Hs49_0_0 ∧ H' = Hs49_0_0 ++ ((b48, .cells #[iv x0.Limit, iv x0.Ballast.Least, iv x0.Ballast.Most, v0_3, v0_4, v49_0_0] 28) :: (b47, .cells #[iv 0, iv 0, iv 0, .slice none 0 0, .slice none 0 0, .slice none 0 0] 28) :: H) ∧ SubL st' [(4, .pointer (some ⟨b47, 0, none⟩)), (5, .pointer (some ⟨b48, 0, none⟩))]) 0 rfl ⟨rfl, .slice none 0 0, [], OwnSl.nil, rfl, SubT.sub ⟨rfl, rfl, rfl, rfl, rfl, trivial⟩⟩ ?_ ?_
 rotate_right
 ·rintro s49 R49 H49 st49 ⟨rfl, v49s_1, Hs49s_1, ho49s_1, rfl, hst49⟩ x49 hM again49 ex49_0
  refine At.sub hst49 ?_
  refine sq ?_
  refine sg rg4 ?_
  refine vs 2 ?_
  refine lr h1 Tryz.underlying25 ?_
  refine vs 1 ?_
  refine er ?_
  refine sc hM (fun ht66 hM => ?_) (fun ht66 hM => ?_)
  ·refine sp ?_
   refine sq ?_
   refine At.block ?_
   refine At.draw (n := 14) (is := [0, 1, 2, 3, 4, 5, 6, 7, 8, 9, 10, 11, 12, 13]) (many (Hs49s_1 ++ ((b48, .cells #[iv x0.Limit, iv x0.Ballast.Least, iv x0.Ballast.Most, v0_3, v0_4, v49s_1] 28) :: (b47, .cells #[iv 0, iv 0, iv 0, .slice none 0 0, .slice none 0 0, .slice none 0 0] 28) :: (b46, .cells #[iv x0.Limit, iv x0.Ballast.Least, iv x0.Ballast.Most, v0_3, v0_4, v0_5] 28) :: H)) [(11, (b48, .cells #[iv x0.Limit, iv x0.Ballast.Least, iv x0.Ballast.Most, v0_3, v0_4, v49s_1] 28) :: (b47, .cells #[iv 0, iv 0, iv 0, .slice none 0 0, .slice none 0 0, .slice none 0 0] 28) :: (b46, .cells #[iv x0.Limit, iv x0.Ballast.Least, iv x0.Ballast.Most, v0_3, v0_4, v0_5] 28) :: H), (13, (b47, .cells #[iv 0, iv 0, iv 0, .slice none 0 0, .slice none 0 0, .slice none 0 0] 28) :: (b46, .cells #[iv x0.Limit, iv x0.Ballast.Least, iv x0.Ballast.Most, v0_3, v0_4, v0_5] 28) :: H)]) mixed rfl (by decide +kernel) rfl rfl ?_
   refine Any.vs 1 [0] rfl ?_
   refine ts 1 [11, 12, 13] rfl (many_skip rfl (many_skip rfl (many_nil (su (subDrop (sk (so (so sr)))))))) (su (subDrop (sk (so (so sr))))) (fun R' H' hR hS => Ox.load1 rfl rfl one26 ((CellsAt.box (hS _ z0)).one (j := 5) rfl) rfl (.one rfl) ⟨rfl, rfl, rfl⟩) ?_
   refine Any.vs 1 [2] rfl ?_
   refine ts 3 [8, 9, 10, 11, 12, 13] rfl (many_skip rfl (many_skip rfl (many_nil (su (subDrop (so (so sr))))))) (su (subDrop (so (so sr)))) (fun R' H' hR hS => Ox.load1 rfl rfl one26 ((CellsAt.box (hS _ z0)).one (j := 5) rfl) rfl (.one rfl) ⟨rfl, rfl, rfl⟩) ?_
   refine Any.vs 2 [4, 5] rfl ?_
   obtain ⟨x67, hx67, hM⟩ := bnd hM
   obtain ⟨x68, hx68, hM⟩ := bnd hM
   obtain ⟨x70, hx70, hM⟩ := bnd hM
   obtain ⟨bx67, ox67, _, rfl, hcx67, hix67⟩ := h1.elem slice25 hx67
   refine ts 6 [7, 8, 9, 10, 11, 12, 13] rfl (many_skip rfl (many_skip rfl (many_nil (su (subDrop (so (so (so sr)))))))) (su (subDrop (so (so (so sr))))) (fun R' H' hR hS => Ox.indexV rfl rfl rfl hix67 rfl (.one rfl) ⟨rfl, rfl, rfl⟩) ?_
   refine ts 7 [8, 9, 10, 11, 12, 13] rfl (many_skip rfl (many_skip rfl (many_nil (su (subDrop (so (so (so sr)))))))) (su (subDrop (so (so (so sr))))) (fun R' H' hR hS => Ox.load1 rfl rfl one3 (((hcx67.le hR).sub (fun p h => hS p (pp p h))).one (j := 0) rfl) rfl (.one rfl) ⟨rfl, rfl, rfl⟩) ?_
   obtain ⟨bx68, ox68, _, rfl, hcx68, hix68⟩ := h0_5.elem slice26 hx68
   refine ts 8 [9, 10, 11, 12, 13] rfl (many_skip rfl (many_skip rfl (many_nil (su (subDrop (so (so (so sr)))))))) (su (subDrop (so (so (so sr))))) (fun R' H' hR hS => Ox.indexV rfl rfl rfl hix68 rfl (.one rfl) ⟨rfl, rfl, rfl⟩) ?_
   refine ts 9 [10, 11, 12, 13] rfl (many_skip rfl (many_skip rfl (many_nil (su (subDrop (so (so (so sr)))))))) (su (subDrop (so (so (so sr))))) (fun R' H' hR hS => Ox.loadN (vs := [_, _]) rfl rfl agg47 rfl ((hcx68.up hR).part (j := 0) (n := 2) rfl) rfl (.one rfl) ⟨rfl, rfl, rfl⟩) ?_
   refine Any.on 10 rfl rfl (SemTo.to (Ox.buildSlice (cells := #[_, _]) rfl elem26 rfl (by decide) base26_1 (fill_cons rfl rfl rfl rfl fill_nil) rfl fun b69 _ _ => ⟨_, (.put rfl), ⟨rr, (many_at rfl (su (so sr))), ?_⟩⟩))
   refine Any.on 11 rfl rfl (SemTo.to (Ox.append (K := CHullHeel) (fun X => (b69, _) :: X ++ ((b48, _) :: (b47, _) :: (b46, _) :: H)) rfl rfl rfl app26 Tryz.underlying26 (by simp) (.cons .id) ho49s_1 (ArgSl.lit z0 (Enc.le (Enc.cons (x := x68) rfl rfl Enc.nil) rfl) rfl) hx70 rfl fun vx70 Hsx70 hox70 => ⟨_, (.put rfl), ⟨rr, (many_at rfl (su (so (subDrop sr)))), ?_⟩⟩))
   refine Any.vs 1 [12] rfl ?_
   refine Any.on 13 rfl rfl (SemTo.to (Ox.store1 (cs' := #[_, _, _, _, _, _]) rfl rfl rfl one26 hox70.one (.there (.skip .here)) rfl rfl rfl (.refl _) ⟨rr, (many_at rfl (su (so (subDrop (so sr))))), ?_⟩))
   refine Any.done ?_
   refine At.inBlock ?_
   refine At.rg rg3 ?_
   refine vs 3 ?_
   refine er ?_
   exact At.drop (so sr) (again49 _ (sinj hM).symm _ _ _ ⟨rfl, vx70, Hsx70, hox70, rfl, SubT.sub ⟨rfl, rfl, rfl, rfl, rfl, trivial⟩⟩)
  exact At.exit rfl (At.drop (subKeep (sk (sk (so sr)))) (ex49_0 _ (sinj hM).symm _ _ _ ⟨rfl, v49s_1, Hs49s_1, ho49s_1, rfl, SubT.sub ⟨rfl, rfl, trivial⟩⟩))
 rintro p49_0 R49_0 H49_0 st49_0 ⟨rfl, v49_0_0, Hs49_0_0, ho49_0_0, rfl, hst49_0⟩ hM
 refine At.sub hst49_0 ?_
 refine sg rg2 ?_
 refine lN [_, _, _, _, _, _] 0 6 agg28 (List.mem_append_right _ z0) ?_
 refine At.s rfl rfl (Ox.storeN (cs' := #[_, _, _, _, _, _]) rfl rfl rfl agg28 rfl (ones_cons rfl (ones_cons rfl (ones_cons rfl (ones_cons h0_3.one (ones_cons h0_4.one (ones_cons ho49_0_0.one ones_nil)))))) (.skip (.there .here)) rfl rfl rfl (.refl _) ?_)
 refine er ?_
 refine At.freezeOwn (H2 := (b48, _) :: (b47, _) :: H) (fun X => X ++ ((b48, _) :: (b47, _) :: H)) .id rfl ho49_0_0 (fun Rf71 hRf71 hf71 => ?_)
 replace h0_3 := h0_3.mono hRf71
 replace h0_4 := h0_4.mono hRf71
 obtain rfl := sinj hM
 exact rt Tryz.func65 (.agg rfl agg28 rfl (CellsAt.box z1) .nil) (so (so sr)) (hk _ _ _ ⟨hRf71, rfl, v0_3, v0_4, v49_0_0, h0_3, h0_4, hf71, rfl⟩)
theorem m67_ok (x0 : (List Int)) (x1 : (List Int)) {v0 v1 : Value} (h0 : RdS CZ 1 R H v0 x0) (h1 : RdS CZ 1 R H v1 x1) {r : Bool} (hM : m67 x0 x1 = some r) : FnOk 𝒥 67 #[v0, v1] R H (fun v R' H' => R = R' ∧ H = H' ∧ v = .bool r) := by
 unfold m67 at hM
 refine FnOk.of_at Tryz.func67 rfl (n := 22) rfl rfl fun fr cs hk => ?_
 refine sg rg1 ?_
 refine vs 1 ?_
 refine nx rg18 ?_
 refine vs 1 ?_
 refine lr h0 Tryz.underlying25 ?_
 refine vs 1 ?_
 refine lr h1 Tryz.underlying25 ?_
 refine vs 2 ?_
 refine selC hM (fun ht23 hM => ?_) (fun ht23 hM => ?_)
 ·refine At.kn 10 ht23 ?_
  refine vs 12 ?_
  refine er ?_
  obtain rfl := sinj hM
  exact rt Tryz.func67 (.tmp rfl .nil) sr (hk _ _ _ ⟨rfl, rfl, rfl⟩)
 refine At.kn 10 ht23 ?_
 refine vs 1 ?_
 refine lr h0 Tryz.underlying25 ?_
 refine vs 1 ?_
 refine lr h1 Tryz.underlying25 ?_
 refine vs 2 ?_
 refine selC hM (fun ht24 hM => ?_) (fun ht24 hM => ?_)
 ·refine At.kn 16 ht24 ?_
  refine vs 2 ?_
  obtain ⟨x25, hx25, hM⟩ := bnd hM
  refine At.cv ent55 (m55_ok x0 x1 (h0.sub pp) (h1.sub pp) hx25) ?_
  rintro _ _ _ ⟨rfl, rfl, rfl⟩
  refine vs 3 ?_
  refine er ?_
  obtain rfl := sinj hM
  exact rt Tryz.func67 (.tmp rfl .nil) sr (hk _ _ _ ⟨rfl, rfl, rfl⟩)
 refine At.kn 16 ht24 ?_
 refine vs 6 ?_
 refine er ?_
 obtain rfl := sinj hM
 exact rt Tryz.func67 (.tmp rfl .nil) sr (hk _ _ _ ⟨rfl, rfl, rfl⟩)
end
end Go.Proofs.YtabamagholjdcaaGreatDoor
