/- Walks, part 3: each function computes its model. -/
import Derived.Test.YtabamagholjdcaaGreatDoorQHuP2
namespace Go.Proofs.YtabamagholjdcaaGreatDoor
open Go.Lg Go.Proofs
set_option maxRecDepth 100000
set_option maxHeartbeats 4000000
section
variable {B : Base} {main : Bool} {𝒥 : Jd Tryz.prog B main} {R : RMap} {H : HList}
theorem m118_ok (x0 : HullBook) {v0_3 v0_4 v0_5 : Value} (hG : GOk R) (h0_3 : SlR CHullPiece 5 R v0_3 x0.Pieces) (h0_4 : SlR CZ 1 R v0_4 x0.Out) (h0_5 : SlR CHullHeel 2 R v0_5 x0.Heels) {r : (HullBook × Int)} (hM : m118 x0 = some r) : FnOk 𝒥 118 #[.agg #[iv x0.Limit, iv x0.Ballast.Least, iv x0.Ballast.Most, v0_3, v0_4, v0_5]] R H (fun v R' H' => RLe R R' ∧ H = H' ∧ ∃ vr0_3 vr0_4 vr0_5, SlR CHullPiece 5 R' vr0_3 r.1.Pieces ∧ SlR CZ 1 R' vr0_4 r.1.Out ∧ SlR CHullHeel 2 R' vr0_5 r.1.Heels ∧ v = .tuple #[.agg #[iv r.1.Limit, iv r.1.Ballast.Least, iv r.1.Ballast.Most, vr0_3, vr0_4, vr0_5], iv r.2]) := by
 unfold m118 at hM
 refine FnOk.of_at Tryz.func118 rfl (n := 48) rfl rfl fun fr cs hk => ?_
 refine sg rg3 ?_
 refine bx fun b64 => ?_
 refine At.s rfl rfl (Ox.alloc (cs := #[iv 0, iv 0, iv 0, .slice none 0 0, .slice none 0 0, .slice none 0 0]) rfl zero28 rfl fun b65 _ _ => ⟨_, (.put rfl), ?_⟩)
 refine vs 1 ?_
 refine es ?_
 refine sg rg3 ?_
 refine lN [_, _, _, _, _, _] 0 6 agg28 z1 ?_
 obtain ⟨x66, hx66, hM⟩ := bnd hM
 refine At.cv ent83 (m83_ok x0 hG h0_3 h0_4 h0_5 hx66) ?_
 rintro _ Rx66 _ ⟨hRx66, rfl, rfl⟩
 replace h0_3 := h0_3.mono hRx66
 replace h0_4 := h0_4.mono hRx66
 replace h0_5 := h0_5.mono hRx66
 refine vs 1 ?_
 refine nx rg2 ?_
 refine vs 2 ?_
 refine er ?_
 refine sc hM (fun ht69 hM => ?_) (fun ht69 hM => ?_)
 ·refine sg rg4 ?_
  refine At.s rfl rfl (Ox.build (cells := #[_, _, _, _, _, _]) rfl struct28 rfl fill_nil rfl (.put rfl) ?_)
  refine vs 1 ?_
  refine At.s rfl rfl (Ox.storeN (cs' := #[_, _, _, _, _, _]) rfl rfl rfl agg28 rfl (ones_cons rfl (ones_cons rfl (ones_cons rfl (ones_cons rfl (ones_cons rfl (ones_cons rfl ones_nil)))))) .here rfl rfl rfl (.refl _) ?_)
  refine vs 1 ?_
  refine er ?_
  obtain rfl := sinj hM
  exact rt Tryz.func118 (.agg rfl agg28 rfl (CellsAt.box z0) (.tmp rfl .nil)) (so (so sr)) (hk _ _ _ ⟨hRx66, rfl, .slice none 0 0, .slice none 0 0, .slice none 0 0, SlR.nil, SlR.nil, SlR.nil, rfl⟩)
 refine sp ?_
 refine sq ?_
 refine sg rg4 ?_
 refine lN [_, _, _, _, _, _] 0 6 agg28 z1 ?_
 refine At.s rfl rfl (Ox.build (cells := #[_, _, _, _, _, _]) rfl struct102 rfl (fill_cons rfl rfl rfl rfl fill_nil) rfl (.put rfl) ?_)
 obtain ⟨x70, hx70, hM⟩ := bnd hM
 refine At.cv ent112 (m112_ok (⟨x0.Limit, ⟨x0.Ballast.Least, x0.Ballast.Most⟩, x0.Pieces, x0.Out, x0.Heels⟩ : HullBook) h0_3 h0_4 h0_5 hx70) ?_
 rintro _ Rx70 _ ⟨hRx70, rfl, rfl⟩
 replace h0_3 := h0_3.mono hRx70
 replace h0_4 := h0_4.mono hRx70
 replace h0_5 := h0_5.mono hRx70
 refine vs 1 ?_
 refine er ?_
 refine sc hM (fun ht73 hM => ?_) (fun ht73 hM => ?_)
 ·refine sg rg3 ?_
  refine At.s rfl rfl (Ox.build (cells := #[_, _, _, _, _, _]) rfl struct28 rfl fill_nil rfl (.put rfl) ?_)
  refine At.s rfl rfl (Ox.storeN (cs' := #[_, _, _, _, _, _]) rfl rfl rfl agg28 rfl (ones_cons rfl (ones_cons rfl (ones_cons rfl (ones_cons rfl (ones_cons rfl (ones_cons rfl ones_nil)))))) .here rfl rfl rfl (.refl _) ?_)
  refine vs 1 ?_
  refine er ?_
  obtain rfl := sinj hM
  exact rt Tryz.func118 (.agg rfl agg28 rfl (CellsAt.box z0) (.tmp rfl .nil)) (so (so sr)) (hk _ _ _ ⟨(hRx66.trans hRx70), rfl, .slice none 0 0, .slice none 0 0, .slice none 0 0, SlR.nil, SlR.nil, SlR.nil, rfl⟩)
 refine sp ?_
 refine sq ?_
 refine At.draw (n := 15) (is := [0, 1, 2, 3, 4, 5, 6, 7, 8, 9, 10, 11, 12, 13, 14]) (many ((b65, .cells #[iv 0, iv 0, iv 0, .slice none 0 0, .slice none 0 0, .slice none 0 0] 28) :: (b64, .cells #[iv x0.Limit, iv x0.Ballast.Least, iv x0.Ballast.Most, v0_3, v0_4, v0_5] 28) :: H) [(10, (b65, .cells #[iv 0, iv 0, iv 0, .slice none 0 0, .slice none 0 0, .slice none 0 0] 28) :: H), (12, (b65, .cells #[iv 0, iv 0, iv 0, .slice none 0 0, .slice none 0 0, .slice none 0 0] 28) :: H), (14, (b65, .cells #[iv 0, iv 0, iv 0, .slice none 0 0, .slice none 0 0, .slice none 0 0] 28) :: H)]) mixed rfl (by decide +kernel) rfl rfl ?_
 refine Any.vs 1 [0] rfl ?_
 refine ts 1 [2, 5, 8, 9, 10, 11, 12, 13, 14] rfl (many_skip rfl (many_skip rfl (many_skip rfl (many_nil (su (so sr)))))) (su (so sr)) (fun R' H' hR hS => Ox.load1 rfl rfl one24 ((CellsAt.box (hS _ z0)).one (j := 3) rfl) rfl (.one rfl) ⟨rfl, rfl, rfl⟩) ?_
 refine Any.vs 1 [3] rfl ?_
 refine ts 4 [5, 8, 9, 10, 11, 12, 13, 14] rfl (many_skip rfl (many_skip rfl (many_skip rfl (many_nil (su (so sr)))))) (su (so sr)) (fun R' H' hR hS => Ox.load1 rfl rfl one25 ((CellsAt.box (hS _ z0)).one (j := 4) rfl) rfl (.one rfl) ⟨rfl, rfl, rfl⟩) ?_
 refine Any.vs 1 [6] rfl ?_
 refine ts 7 [8, 9, 10, 11, 12, 13, 14] rfl (many_skip rfl (many_skip rfl (many_skip rfl (many_nil (su (so sr)))))) (su (so sr)) (fun R' H' hR hS => Ox.load1 rfl rfl one26 ((CellsAt.box (hS _ z0)).one (j := 5) rfl) rfl (.one rfl) ⟨rfl, rfl, rfl⟩) ?_
 obtain ⟨x74, hx74, hM⟩ := bnd hM
 refine Any.cv 2 ent122 (m122_ok x0.Pieces h0_3.rd hx74) ?_
 rintro vx74 Rx74 _ ⟨hRx74, _, Hsx74, hox74, rfl, rfl⟩
 replace h0_4 := h0_4.mono hRx74
 replace h0_5 := h0_5.mono hRx74
 refine ⟨hRx74, (many_at rfl (su (subDrop sr))), ?_⟩
 refine Any.vs 1 [9] rfl ?_
 obtain ⟨x75, hx75, hM⟩ := bnd hM
 refine Any.cv 5 ent125 (m125_ok x0.Out h0_4.rd hx75) ?_
 rintro vx75 Rx75 _ ⟨hRx75, _, Hsx75, hox75, rfl, rfl⟩
 replace h0_5 := h0_5.mono hRx75
 replace hox74 := hox74.mono hRx75
 refine ⟨hRx75, (many_at rfl (su (subDrop (subDrop sr)))), ?_⟩
 obtain ⟨x76, hx76, hM⟩ := bnd hM
 refine Any.cv 8 ent117 (m117_ok x0.Heels h0_5.rd hx76) ?_
 rintro vx76 Rx76 _ ⟨hRx76, _, Hsx76, hox76, rfl, rfl⟩
 replace hox74 := hox74.mono hRx76
 replace hox75 := hox75.mono hRx76
 refine ⟨hRx76, (many_at rfl (su (subDrop (subDrop (subDrop sr))))), ?_⟩
 refine Any.on 10 rfl rfl (SemTo.to (Ox.store1 (cs' := #[_, _, _, _, _, _]) rfl rfl rfl one24 hox74.one (.skip (.skip (.skip (.there .here)))) rfl rfl rfl (.refl _) ⟨rr, (many_at rfl (su (subDrop (subDrop (subDrop (sk (so sr))))))), ?_⟩))
 refine Any.vs 1 [11] rfl ?_
 refine Any.on 12 rfl rfl (SemTo.to (Ox.store1 (cs' := #[_, _, _, _, _, _]) rfl rfl rfl one25 hox75.one (.skip (.skip (.skip (.there .here)))) rfl rfl rfl (.refl _) ⟨rr, (many_at rfl (su (subDrop (subDrop (subDrop (sk (so sr))))))), ?_⟩))
 refine Any.vs 1 [13] rfl ?_
 refine Any.on 14 rfl rfl (SemTo.to (Ox.store1 (cs' := #[_, _, _, _, _, _]) rfl rfl rfl one26 hox76.one (.skip (.skip (.skip (.there .here)))) rfl rfl rfl (.refl _) ⟨rr, (many_at rfl (su (subDrop (subDrop (subDrop (sk (so sr))))))), ?_⟩))
 refine Any.done ?_
 refine sq ?_
 refine sg rg4 ?_
 refine vs 1 ?_
 refine At.ld one24 ((CellsAt.box (List.mem_append_right _ (List.mem_append_right _ (List.mem_append_right _ z1)))).one (j := 3) rfl) ?_
 refine At.s rfl rfl (Ox.lenO rfl rfl hox74 Tryz.underlying24 rfl (.put rfl) ?_)
 refine vs 1 ?_
 refine er ?_
 refine At.block ?_
 refine At.loopE1 hM (fun (s77 : ((List HullPiece) × Int)) R' H' st' => RLe Rx76 R' ∧ ∃ Hs77s_0, OwnSl CHullPiece 5 58 R' vx74 s77.1 Hs77s_0 ∧ H' = Hsx76 ++ (Hsx75 ++ (Hs77s_0 ++ ((b65, .cells #[iv 0, iv 0, iv 0, .slice none 0 0, .slice none 0 0, .slice none 0 0] 28) :: (b64, .cells #[iv x0.Limit, iv x0.Ballast.Least, iv x0.Ballast.Most, vx74, vx75, vx76] 28) :: H))) ∧ SubL st' [(1, .pointer (some ⟨b64, 0, none⟩)), (2, .pointer (some ⟨b65, 0, none⟩)), (31, vx74), (32, iv (x74.length : Int)), (33, iv s77.2)]) (fun (p77_0 : (List HullPiece)) R' H' st' => RLe Rx76 R' ∧ ∃ Hs77_0_0, OwnSl CHullPiece 5 58 R' vx74 p77_0 Hs77_0_0 ∧ H' = Hsx76 ++ (Hsx75 ++ (Hs77_0_0 ++ ((b65, .cells #[iv 0, iv 0, iv 0, .slice none 0 0, .slice none 0 0, .slice none 0 0] 28) :: (b64, .cells #[iv x0.Limit, iv x0.Ballast.Least, iv x0.Ballast.Most, vx74, vx75, vx76] 28) :: H))) ∧ SubL st' [(1, .pointer (some ⟨b64, 0, none⟩)), (2, .pointer (some ⟨b65, 0, none⟩))]) 0 rfl ⟨rr, Hsx74, hox74, rfl, SubT.sub ⟨rfl, rfl, rfl, rfl, rfl, trivial⟩⟩ ?_ ?_
 rotate_right
 ·rintro s77 R77 H77 st77 ⟨hR77, Hs77s_0, ho77s_0, rfl, hst77⟩ x77 hM again77 ex77_0
  refine At.sub hst77 ?_
  refine sg rg1 ?_
  refine vs 1 ?_
  refine es ?_
  refine sc hM (fun ht98 hM => ?_) (fun ht98 hM => ?_)
  ·refine sp ?_
   refine sq ?_
   refine At.block ?_
   refine sg rg6 ?_
   refine vs 1 ?_
   obtain ⟨x99, hx99, hM⟩ := bnd hM
   obtain ⟨bx99, ox99, _, ⟨vx99_4, hx99_4, rfl⟩, hcx99, hix99⟩ := (ho77s_0.rd (fun _ h => (List.mem_append_right _ (List.mem_append_right _ (List.mem_append_left _ h))))).elem slice24 hx99
   refine At.s rfl rfl (Ox.indexV rfl rfl rfl hix99 rfl (.put rfl) ?_)
   refine At.s rfl rfl (Ox.loadN (vs := [_, _, _, _, _]) rfl rfl agg58 rfl ((hcx99.sub pp).part (j := 0) (n := 5) rfl) rfl (.put rfl) ?_)
   refine At.s rfl rfl (Ox.alloc (cs := #[.string (⟨#[]⟩), iv 0, iv 0, iv 0, .slice none 0 0]) rfl zero58 rfl fun b100 _ _ => ⟨_, (.put rfl), ?_⟩)
   refine vs 1 ?_
   refine At.s rfl rfl (Ox.storeN (cs' := #[_, _, _, _, _]) rfl rfl rfl agg58 rfl (ones_cons rfl (ones_cons rfl (ones_cons rfl (ones_cons rfl (ones_cons hx99_4.one ones_nil))))) .here rfl rfl rfl (.refl _) ?_)
   refine er ?_
   refine At.draw (n := 9) (is := [0, 1, 2, 3, 4, 5, 6, 7, 8]) (many ((b100, .cells #[.string x99.Name, iv x99.Arm, iv x99.Weight.Least, iv x99.Weight.Most, vx99_4] 58) :: Hsx76 ++ (Hsx75 ++ (Hs77s_0 ++ ((b65, .cells #[iv 0, iv 0, iv 0, .slice none 0 0, .slice none 0 0, .slice none 0 0] 28) :: (b64, .cells #[iv x0.Limit, iv x0.Ballast.Least, iv x0.Ballast.Most, vx74, vx75, vx76] 28) :: H)))) [(8, (b100, .cells #[.string x99.Name, iv x99.Arm, iv x99.Weight.Least, iv x99.Weight.Most, vx99_4] 58) :: Hsx76 ++ (Hsx75 ++ ((b65, .cells #[iv 0, iv 0, iv 0, .slice none 0 0, .slice none 0 0, .slice none 0 0] 28) :: (b64, .cells #[iv x0.Limit, iv x0.Ballast.Least, iv x0.Ballast.Most, vx74, vx75, vx76] 28) :: H)))]) mixed rfl (by decide +kernel) rfl rfl ?_
   refine Any.vs 1 [0] rfl ?_
   refine ts 1 [6, 7, 8] rfl (many_skip rfl (many_nil (su (so (subDrop (subDrop (subDrop (so sr)))))))) (su (so (subDrop (subDrop (subDrop (so sr)))))) (fun R' H' hR hS => Ox.load1 rfl rfl one24 ((CellsAt.box (hS _ z0)).one (j := 3) rfl) rfl (.one rfl) ⟨rfl, rfl, rfl⟩) ?_
   refine Any.vs 2 [2, 3] rfl ?_
   refine ts 4 [5, 6, 7, 8] rfl (many_skip rfl (many_nil (su (sk (subDrop (subDrop (subDrop (so (so sr))))))))) (su (sk (subDrop (subDrop (subDrop (so (so sr))))))) (fun R' H' hR hS => Ox.load1 rfl rfl one25 ((CellsAt.box (hS _ z0)).one (j := 4) rfl) rfl (.one rfl) ⟨rfl, rfl, rfl⟩) ?_
   obtain ⟨x101, hx101, hM⟩ := bnd hM
   refine Any.cv 5 ent125 (m125_ok x99.On hx99_4.rd hx101) ?_
   rintro vx101 Rx101 _ ⟨hRx101, _, Hsx101, hox101, rfl, rfl⟩
   replace ho77s_0 := ho77s_0.mono hRx101
   refine ⟨hRx101, (many_at rfl (su (subDrop sr))), ?_⟩
   refine Any.freezeOwn (H2 := (b100, _) :: Hsx76 ++ (Hsx75 ++ (Hs77s_0 ++ ((b65, _) :: (b64, _) :: H)))) (fun X => X ++ ((b100, _) :: Hsx76 ++ (Hsx75 ++ (Hs77s_0 ++ ((b65, _) :: (b64, _) :: H))))) .id rfl hox101 (by decide) (by decide) (many_all1 (su (sk (subKeep (subKeep (subDrop sr))))) (many_all0 pp)) (fun Rf103 hRf103 hf103 => ?_)
   replace ho77s_0 := ho77s_0.mono hRf103
   obtain ⟨x102, hx102, hM⟩ := bnd hM
   obtain ⟨bx102, csx102, _, ⟨vx102_4, hx102_4, rfl⟩, rfl, hcx102, hgx102, hix102, hnx102, hzx102, hwx102⟩ := ho77s_0.elemW slice24 hx102
   refine ts 6 [7, 8] rfl (many_skip rfl (many_nil (su (so (subDrop (subDrop (so (so (so sr))))))))) (su (so (subDrop (subDrop (so (so (so sr))))))) (fun R' H' hR hS => Ox.indexV rfl rfl rfl hix102 rfl (.one rfl) ⟨rfl, rfl, rfl⟩) ?_
   refine Any.vs 1 [7] rfl ?_
   refine Any.on 8 rfl rfl (SemTo.to (Ox.storeE (K := CHullPiece) (k := 5) (e := 58) (i := s77.2) (x' := (⟨x102.Name, x102.Arm, ⟨x102.Weight.Least, x102.Weight.Most⟩, x101⟩ : HullPiece)) (pre := [.string x102.Name, iv x102.Arm, iv x102.Weight.Least, iv x102.Weight.Most]) (mid := [vx102_4]) (post := []) (.cons (.app (.app .id))) rfl rfl rfl (by rw [hf103.cells]) size25 rfl (ones_cons hf103.one ones_nil) hgx102 rfl rfl rfl hzx102 hwx102 ⟨_, hf103, rfl⟩ rfl (.refl _) fun Hsw104 how104 => ⟨rr, (many_at rfl (su (sk (subKeep (subKeep (subDrop sr)))))), ?_⟩))
   refine Any.done ?_
   refine At.inBlock ?_
   refine At.rg rg2 ?_
   refine vs 2 ?_
   refine er ?_
   exact At.drop (so sr) (again77 _ (sinj hM).symm _ _ _ ⟨((hR77.trans hRx101).trans hRf103), Hsw104, how104, rfl, SubT.sub ⟨rfl, rfl, rfl, rfl, rfl, trivial⟩⟩)
  exact At.exit rfl (ex77_0 _ (sinj hM).symm _ _ _ ⟨hR77, Hs77s_0, ho77s_0, rfl, SubT.sub ⟨rfl, rfl, trivial⟩⟩)
 rintro p77_0 R77_0 H77_0 st77_0 ⟨hR77_0, Hs77_0_0, ho77_0_0, rfl, hst77_0⟩ hM
 refine At.sub hst77_0 ?_
 replace hox75 := hox75.mono hR77_0
 replace hox76 := hox76.mono hR77_0
 refine sg rg3 ?_
 refine At.s rfl rfl (Ox.loadN (vs := [_, _, _, _, _, _]) rfl rfl agg28 rfl ((CellsAt.box (List.mem_append_right _ (List.mem_append_right _ (List.mem_append_right _ z1)))).part (j := 0) (n := 6) rfl) rfl (.put rfl) ?_)
 refine At.s rfl rfl (Ox.storeN (cs' := #[_, _, _, _, _, _]) rfl rfl rfl agg28 rfl (ones_cons rfl (ones_cons rfl (ones_cons rfl (ones_cons ho77_0_0.one (ones_cons hox75.one (ones_cons hox76.one ones_nil)))))) (.skip (.skip (.skip .here))) rfl rfl rfl (.refl _) ?_)
 refine vs 1 ?_
 refine er ?_
 refine At.freezeOwn (H2 := Hsx76 ++ (Hsx75 ++ ((b65, _) :: (b64, _) :: H))) (fun X => Hsx76 ++ (Hsx75 ++ (X ++ ((b65, _) :: (b64, _) :: H)))) (.app (.app .id)) rfl ho77_0_0 (fun Rf105 hRf105 hf105 => ?_)
 replace hox75 := hox75.mono hRf105
 replace hox76 := hox76.mono hRf105
 refine At.freezeOwn (H2 := Hsx76 ++ ((b65, _) :: (b64, _) :: H)) (fun X => Hsx76 ++ (X ++ ((b65, _) :: (b64, _) :: H))) (.app .id) rfl hox75 (fun Rf106 hRf106 hf106 => ?_)
 replace hf105 := hf105.mono hRf106
 replace hox76 := hox76.mono hRf106
 refine At.freezeOwn (H2 := (b65, _) :: (b64, _) :: H) (fun X => X ++ ((b65, _) :: (b64, _) :: H)) .id rfl hox76 (fun Rf107 hRf107 hf107 => ?_)
 replace hf105 := hf105.mono hRf107
 replace hf106 := hf106.mono hRf107
 obtain rfl := sinj hM
 exact rt Tryz.func118 (.agg rfl agg28 rfl (CellsAt.box z0) (.tmp rfl .nil)) (so (so sr)) (hk _ _ _ ⟨((((((((hRx66.trans hRx70).trans hRx74).trans hRx75).trans hRx76).trans hR77_0).trans hRf105).trans hRf106).trans hRf107), rfl, vx74, vx75, vx76, hf105, hf106, hf107, rfl⟩)
theorem m35_ok (x0 : HullBook) (x1 : HullHeel) {v0_3 v0_4 v0_5 : Value} (hG : GOk R) (h0_3 : SlR CHullPiece 5 R v0_3 x0.Pieces) (h0_4 : SlR CZ 1 R v0_4 x0.Out) (h0_5 : SlR CHullHeel 2 R v0_5 x0.Heels) {r : (HullBook × Int)} (hM : m35 x0 x1 = some r) : FnOk 𝒥 35 #[.agg #[iv x0.Limit, iv x0.Ballast.Least, iv x0.Ballast.Most, v0_3, v0_4, v0_5], .agg #[iv x1.After, iv x1.Side]] R H (fun v R' H' => RLe R R' ∧ H = H' ∧ ∃ vr0_3 vr0_4 vr0_5, SlR CHullPiece 5 R' vr0_3 r.1.Pieces ∧ SlR CZ 1 R' vr0_4 r.1.Out ∧ SlR CHullHeel 2 R' vr0_5 r.1.Heels ∧ v = .tuple #[.agg #[iv r.1.Limit, iv r.1.Ballast.Least, iv r.1.Ballast.Most, vr0_3, vr0_4, vr0_5], iv r.2]) := by
 unfold m35 at hM
 refine FnOk.of_at Tryz.func35 rfl (n := 24) rfl rfl fun fr cs hk => ?_
 refine sg rg4 ?_
 refine bx fun b33 => ?_
 refine bx fun b34 => ?_
 refine At.s rfl rfl (Ox.alloc (cs := #[iv 0, iv 0, iv 0, .slice none 0 0, .slice none 0 0, .slice none 0 0]) rfl zero28 rfl fun b35 _ _ => ⟨_, (.put rfl), ?_⟩)
 refine vs 1 ?_
 refine es ?_
 refine sg rg3 ?_
 refine lN [_, _, _, _, _, _] 0 6 agg28 z2 ?_
 obtain ⟨x36, hx36, hM⟩ := bnd hM
 refine At.cv ent83 (m83_ok x0 hG h0_3 h0_4 h0_5 hx36) ?_
 rintro _ Rx36 _ ⟨hRx36, rfl, rfl⟩
 replace h0_3 := h0_3.mono hRx36
 replace h0_4 := h0_4.mono hRx36
 replace h0_5 := h0_5.mono hRx36
 replace hG := hG.mono hRx36
 refine vs 1 ?_
 refine nx rg2 ?_
 refine vs 2 ?_
 refine er ?_
 refine sc hM (fun ht39 hM => ?_) (fun ht39 hM => ?_)
 ·refine sg rg4 ?_
  refine At.s rfl rfl (Ox.build (cells := #[_, _, _, _, _, _]) rfl struct28 rfl fill_nil rfl (.put rfl) ?_)
  refine vs 1 ?_
  refine At.s rfl rfl (Ox.storeN (cs' := #[_, _, _, _, _, _]) rfl rfl rfl agg28 rfl (ones_cons rfl (ones_cons rfl (ones_cons rfl (ones_cons rfl (ones_cons rfl (ones_cons rfl ones_nil)))))) .here rfl rfl rfl (.refl _) ?_)
  refine vs 1 ?_
  refine er ?_
  obtain rfl := sinj hM
  exact rt Tryz.func35 (.agg rfl agg28 rfl (CellsAt.box z0) (.tmp rfl .nil)) (so (so (so sr))) (hk _ _ _ ⟨hRx36, rfl, .slice none 0 0, .slice none 0 0, .slice none 0 0, SlR.nil, SlR.nil, SlR.nil, rfl⟩)
 refine sp ?_
 refine sq ?_
 obtain ⟨x40, hx40, hM⟩ := bnd hM
 obtain ⟨x42, hx42, hM⟩ := bnd hM
 refine At.cut (fun R' H' st' => RLe Rx36 R' ∧ ∃ (vx42 : Value) (Hsx42 : HList), OwnSl CHullHeel 2 47 R' vx42 x42 Hsx42 ∧ H' = Hsx42 ++ ((b35, .cells #[iv 0, iv 0, iv 0, .slice none 0 0, .slice none 0 0, .slice none 0 0] 28) :: (b33, .cells #[iv x0.Limit, iv x0.Ballast.Least, iv x0.Ballast.Most, v0_3, v0_4, vx42] 28) :: H) ∧ SubL st' [(2, .pointer (some ⟨b33, 0, none⟩)), (4, .pointer (some ⟨b35, 0, none⟩))]) ?_ ?_
 ·rintro Rc43 Hc43 stc43 ⟨hRc43, vx42, Hsx42, hox42, rfl, hstc43⟩
  refine At.sub hstc43 ?_
  replace h0_3 := h0_3.mono hRc43
  replace h0_4 := h0_4.mono hRc43
  replace hG := hG.mono hRc43
  refine sg rg6 ?_
  refine lN [_, _, _, _, _, _] 0 6 agg28 (List.mem_append_right _ z1) ?_
  refine At.freezeOwn (H2 := (b35, _) :: (b33, _) :: H) (fun X => X ++ ((b35, _) :: (b33, _) :: H)) .id rfl hox42 (fun Rf45 hRf45 hf45 => ?_)
  replace h0_3 := h0_3.mono hRf45
  replace h0_4 := h0_4.mono hRf45
  replace hG := hG.mono hRf45
  obtain ⟨x44, hx44, hM⟩ := bnd hM
  refine At.cv ent118 (m118_ok (⟨x0.Limit, ⟨x0.Ballast.Least, x0.Ballast.Most⟩, x0.Pieces, x0.Out, x42⟩ : HullBook) hG h0_3 h0_4 hf45 hx44) ?_
  rintro _ Rx44 _ ⟨hRx44, rfl, vx44r0_3, vx44r0_4, vx44r0_5, hx44r0_3, hx44r0_4, hx44r0_5, rfl⟩
  refine vs 2 ?_
  refine At.s rfl rfl (Ox.storeN (cs' := #[_, _, _, _, _, _]) rfl rfl rfl agg28 rfl (ones_cons rfl (ones_cons rfl (ones_cons rfl (ones_cons hx44r0_3.one (ones_cons hx44r0_4.one (ones_cons hx44r0_5.one ones_nil)))))) .here rfl rfl rfl (.refl _) ?_)
  refine vs 1 ?_
  refine er ?_
  obtain rfl := sinj hM
  exact rt Tryz.func35 (.agg rfl agg28 rfl (CellsAt.box z0) (.tmp rfl .nil)) (so (so sr)) (hk _ _ _ ⟨(((hRx36.trans hRc43).trans hRf45).trans hRx44), rfl, vx44r0_3, vx44r0_4, vx44r0_5, hx44r0_3, hx44r0_4, hx44r0_5, rfl⟩)
 intro hcut43
 refine At.draw (n := 8) (is := [0, 1, 2, 3, 4, 5, 6, 7]) (many ((b35, .cells #[iv 0, iv 0, iv 0, .slice none 0 0, .slice none 0 0, .slice none 0 0] 28) :: (b34, .cells #[iv x1.After, iv x1.Side] 47) :: (b33, .cells #[iv x0.Limit, iv x0.Ballast.Least, iv x0.Ballast.Most, v0_3, v0_4, v0_5] 28) :: H) [(7, (b35, .cells #[iv 0, iv 0, iv 0, .slice none 0 0, .slice none 0 0, .slice none 0 0] 28) :: (b34, .cells #[iv x1.After, iv x1.Side] 47) :: H)]) mixed rfl (by decide +kernel) rfl rfl ?_
 refine Any.vs 1 [0] rfl ?_
 refine ts 1 [2, 5, 6, 7] rfl (many_skip rfl (many_nil (su (so (so sr))))) (su (so (so sr))) (fun R' H' hR hS => Ox.load1 rfl rfl one26 ((CellsAt.box (hS _ z0)).one (j := 5) rfl) rfl (.one rfl) ⟨rfl, rfl, rfl⟩) ?_
 refine ts 3 [4, 5, 6, 7] rfl (many_skip rfl (many_nil (su (so (sk (so sr)))))) (su (so (sk (so sr)))) (fun R' H' hR hS => Ox.loadN (vs := [_, _]) rfl rfl agg47 rfl ((CellsAt.box (hS _ z0)).part (j := 0) (n := 2) rfl) rfl (.one rfl) ⟨rfl, rfl, rfl⟩) ?_
 refine tw 2 4 ?_ ?_
 ·refine  (Ox.callV rfl rfl rfl rfl ent117 rfl rfl ((m117_ok x0.Heels h0_5.rd hx40).mono ?_))
  rintro vx40 Rx40 _ ⟨hRx40, _, Hsx40, hox40, rfl, rfl⟩
  refine ⟨_, (.put rfl), ⟨hRx40, (many_at rfl (su (subDrop sr))), ?_⟩⟩
  refine Any.on 4 rfl rfl (SemTo.to (Ox.buildSlice (cells := #[_, _]) rfl elem26 rfl (by decide) base26_1 (fill_cons rfl rfl rfl rfl fill_nil) rfl fun b41 _ _ => ⟨_, (.put rfl), ⟨rr, (many_at rfl (su (so (subDrop sr)))), ?_⟩⟩))
  refine Any.on 5 rfl rfl (SemTo.to (Ox.append (K := CHullHeel) (fun X => (b41, _) :: X ++ ((b35, _) :: (b34, _) :: (b33, _) :: H)) rfl rfl rfl app26 Tryz.underlying26 (by simp) (.cons .id) hox40 (ArgSl.lit z0 (Enc.le (Enc.cons (x := x1) rfl rfl Enc.nil) rfl) rfl) hx42 rfl fun vx42 Hsx42 hox42 => ⟨_, (.put rfl), ⟨rr, (many_at rfl (su (so (subDrop sr)))), ?_⟩⟩))
  refine Any.vs 1 [6] rfl ?_
  refine Any.on 7 rfl rfl (SemTo.to (Ox.store1 (cs' := #[_, _, _, _, _, _]) rfl rfl rfl one26 hox42.one (.there (.skip (.there (.there .here)))) rfl rfl rfl (.refl _) ⟨rr, (many_at rfl (su (so (subDrop (sk (sk (so sr))))))), ?_⟩))
  exact Any.done (At.drop (so (subKeep (sk (so sr)))) (hcut43 _ _ _ ⟨hRx40, vx42, Hsx42, hox42, rfl, SubT.sub ⟨rfl, rfl, trivial⟩⟩))
 refine  (SemTo.to (Ox.buildSlice (cells := #[_, _]) rfl elem26 rfl (by decide) base26_1 (fill_cons rfl rfl rfl rfl fill_nil) rfl fun b41 _ _ => ⟨_, (.put rfl), ⟨rr, (many_at rfl (su (so sr))), ?_⟩⟩))
 refine Any.cv 2 ent117 (m117_ok x0.Heels h0_5.rd hx40) ?_
 rintro vx40 Rx40 _ ⟨hRx40, _, Hsx40, hox40, rfl, rfl⟩
 refine ⟨hRx40, (many_at rfl (su (subDrop (so sr)))), ?_⟩
 refine Any.on 5 rfl rfl (SemTo.to (Ox.append (K := CHullHeel) (fun X => X ++ ((b41, _) :: (b35, _) :: (b34, _) :: (b33, _) :: H)) rfl rfl rfl app26 Tryz.underlying26 (by simp) .id hox40 (ArgSl.lit (List.mem_append_right _ z0) (Enc.le (Enc.cons (x := x1) rfl rfl Enc.nil) rfl) rfl) hx42 rfl fun vx42 Hsx42 hox42 => ⟨_, (.put rfl), ⟨rr, (many_at rfl (su (subDrop (so sr)))), ?_⟩⟩))
 refine Any.vs 1 [6] rfl ?_
 refine Any.on 7 rfl rfl (SemTo.to (Ox.store1 (cs' := #[_, _, _, _, _, _]) rfl rfl rfl one26 hox42.one (.skip (.there (.there (.there .here)))) rfl rfl rfl (.refl _) ⟨rr, (many_at rfl (su (subDrop (so (sk (sk (so sr))))))), ?_⟩))
 exact Any.done (At.drop (subKeep (so (sk (so sr)))) (hcut43 _ _ _ ⟨hRx40, vx42, Hsx42, hox42, rfl, SubT.sub ⟨rfl, rfl, trivial⟩⟩))
theorem m38_ok (x0 : HullBook) (x1 : Int) (x2 : Reach) {v0_3 v0_4 v0_5 : Value} (hG : GOk R) (h0_3 : SlR CHullPiece 5 R v0_3 x0.Pieces) (h0_4 : SlR CZ 1 R v0_4 x0.Out) (h0_5 : SlR CHullHeel 2 R v0_5 x0.Heels) {r : (HullBook × Int)} (hM : m38 x0 x1 x2 = some r) : FnOk 𝒥 38 #[.agg #[iv x0.Limit, iv x0.Ballast.Least, iv x0.Ballast.Most, v0_3, v0_4, v0_5], iv x1, .agg #[iv x2.Least, iv x2.Most]] R H (fun v R' H' => RLe R R' ∧ H = H' ∧ ∃ vr0_3 vr0_4 vr0_5, SlR CHullPiece 5 R' vr0_3 r.1.Pieces ∧ SlR CZ 1 R' vr0_4 r.1.Out ∧ SlR CHullHeel 2 R' vr0_5 r.1.Heels ∧ v = .tuple #[.agg #[iv r.1.Limit, iv r.1.Ballast.Least, iv r.1.Ballast.Most, vr0_3, vr0_4, vr0_5], iv r.2]) := by
 unfold m38 at hM
 refine FnOk.of_at Tryz.func38 rfl (n := 66) rfl rfl fun fr cs hk => ?_
 refine sg rg4 ?_
 refine bx fun b48 => ?_
 refine bx fun b49 => ?_
 refine At.s rfl rfl (Ox.alloc (cs := #[iv 0, iv 0, iv 0, .slice none 0 0, .slice none 0 0, .slice none 0 0]) rfl zero28 rfl fun b50 _ _ => ⟨_, (.put rfl), ?_⟩)
 refine vs 1 ?_
 refine es ?_
 refine sg rg3 ?_
 refine lN [_, _, _, _, _, _] 0 6 agg28 z2 ?_
 obtain ⟨x51, hx51, hM⟩ := bnd hM
 refine At.cv ent83 (m83_ok x0 hG h0_3 h0_4 h0_5 hx51) ?_
 rintro _ Rx51 _ ⟨hRx51, rfl, rfl⟩
 replace h0_3 := h0_3.mono hRx51
 replace h0_4 := h0_4.mono hRx51
 replace h0_5 := h0_5.mono hRx51
 replace hG := hG.mono hRx51
 refine vs 1 ?_
 refine nx rg2 ?_
 refine vs 2 ?_
 refine er ?_
 refine sc hM (fun ht54 hM => ?_) (fun ht54 hM => ?_)
 ·refine sg rg4 ?_
  refine At.s rfl rfl (Ox.build (cells := #[_, _, _, _, _, _]) rfl struct28 rfl fill_nil rfl (.put rfl) ?_)
  refine vs 1 ?_
  refine At.s rfl rfl (Ox.storeN (cs' := #[_, _, _, _, _, _]) rfl rfl rfl agg28 rfl (ones_cons rfl (ones_cons rfl (ones_cons rfl (ones_cons rfl (ones_cons rfl (ones_cons rfl ones_nil)))))) .here rfl rfl rfl (.refl _) ?_)
  refine vs 1 ?_
  refine er ?_
  obtain rfl := sinj hM
  exact rt Tryz.func38 (.agg rfl agg28 rfl (CellsAt.box z0) (.tmp rfl .nil)) (so (so (so sr))) (hk _ _ _ ⟨hRx51, rfl, .slice none 0 0, .slice none 0 0, .slice none 0 0, SlR.nil, SlR.nil, SlR.nil, rfl⟩)
 refine sp ?_
 refine sq ?_
 refine At.block ?_
 refine sg rg6 ?_
 refine lN [_, _, _, _, _, _] 0 6 agg28 z2 ?_
 refine At.s rfl rfl (Ox.build (cells := #[_, _, _, _, _, _]) rfl struct102 rfl (fill_cons rfl rfl rfl rfl fill_nil) rfl (.put rfl) ?_)
 refine vs 1 ?_
 obtain ⟨x55, hx55, hM⟩ := bnd hM
 refine At.cv ent120 (m120_ok (⟨x0.Limit, ⟨x0.Ballast.Least, x0.Ballast.Most⟩, x0.Pieces, x0.Out, x0.Heels⟩ : HullBook) x1 h0_3 h0_4 h0_5 hx55) ?_
 rintro _ _ _ ⟨rfl, rfl, rfl⟩
 refine vs 2 ?_
 refine er ?_
 refine sc hM (fun ht60 hM => ?_) (fun ht60 hM => ?_)
 ·refine sg rg3 ?_
  refine At.s rfl rfl (Ox.build (cells := #[_, _, _, _, _, _]) rfl struct28 rfl fill_nil rfl (.put rfl) ?_)
  refine At.s rfl rfl (Ox.storeN (cs' := #[_, _, _, _, _, _]) rfl rfl rfl agg28 rfl (ones_cons rfl (ones_cons rfl (ones_cons rfl (ones_cons rfl (ones_cons rfl (ones_cons rfl ones_nil)))))) .here rfl rfl rfl (.refl _) ?_)
  refine vs 1 ?_
  refine er ?_
  obtain rfl := sinj hM
  exact rt Tryz.func38 (.agg rfl agg28 rfl (CellsAt.box z0) (.tmp rfl .nil)) (so (so (so sr))) (hk _ _ _ ⟨hRx51, rfl, .slice none 0 0, .slice none 0 0, .slice none 0 0, SlR.nil, SlR.nil, SlR.nil, rfl⟩)
 refine sg rg4 ?_
 refine lN [_, _] 0 2 agg23 z1 ?_
 obtain ⟨x61, hx61, hM⟩ := bnd hM
 refine At.cv ent121 (m121_ok x2 1 99 99  hx61) ?_
 rintro _ _ _ ⟨rfl, rfl, rfl⟩
 refine vs 2 ?_
 refine er ?_
 refine sc hM (fun ht64 hM => ?_) (fun ht64 hM => ?_)
 ·refine sg rg3 ?_
  refine At.s rfl rfl (Ox.build (cells := #[_, _, _, _, _, _]) rfl struct28 rfl fill_nil rfl (.put rfl) ?_)
  refine At.s rfl rfl (Ox.storeN (cs' := #[_, _, _, _, _, _]) rfl rfl rfl agg28 rfl (ones_cons rfl (ones_cons rfl (ones_cons rfl (ones_cons rfl (ones_cons rfl (ones_cons rfl ones_nil)))))) .here rfl rfl rfl (.refl _) ?_)
  refine vs 1 ?_
  refine er ?_
  obtain rfl := sinj hM
  exact rt Tryz.func38 (.agg rfl agg28 rfl (CellsAt.box z0) (.tmp rfl .nil)) (so (so (so sr))) (hk _ _ _ ⟨hRx51, rfl, .slice none 0 0, .slice none 0 0, .slice none 0 0, SlR.nil, SlR.nil, SlR.nil, rfl⟩)
 refine sp ?_
 refine At.inBlock ?_
 refine sg rg8 ?_
 refine vs 1 ?_
 refine ld 3 one24 z2 ?_
 refine vs 1 ?_
 obtain ⟨x65, hx65, hM⟩ := bnd hM
 obtain ⟨bx65, ox65, _, ⟨vx65_4, hx65_4, rfl⟩, hcx65, hix65⟩ := h0_3.elem slice24 hx65
 refine At.s rfl rfl (Ox.indexV rfl rfl rfl hix65 rfl (.put rfl) ?_)
 refine vs 1 ?_
 refine At.s rfl rfl (Ox.loadN (vs := [_, _]) rfl rfl agg23 rfl (hcx65.any.part (j := 2) (n := 2) rfl) rfl (.put rfl) ?_)
 refine At.s rfl rfl (Ox.alloc (cs := #[iv 0, iv 0]) rfl zero23 rfl fun b66 _ _ => ⟨_, (.put rfl), ?_⟩)
 refine At.s rfl rfl (Ox.storeN (cs' := #[_, _]) rfl rfl rfl agg23 rfl (ones_cons rfl (ones_cons rfl ones_nil)) .here rfl rfl rfl (.refl _) ?_)
 refine nx rg13 ?_
 refine vs 1 ?_
 refine ld 0 one3 z0 ?_
 refine vs 1 ?_
 refine ld 0 one3 z2 ?_
 refine At.s rfl rfl (Ox.max (a := x65.Weight.Least) (l := [x2.Least]) rfl rfl rfl (.put rfl) ?_)
 refine vs 1 ?_
 refine ld 1 one3 z0 ?_
 refine vs 1 ?_
 refine ld 1 one3 z2 ?_
 refine At.s rfl rfl (Ox.min (a := x65.Weight.Most) (l := [x2.Most]) rfl rfl rfl (.put rfl) ?_)
 refine At.s rfl rfl (Ox.build (cells := #[_, _]) rfl struct23 rfl (fill_cons rfl rfl rfl rfl (fill_cons rfl rfl rfl rfl fill_nil)) rfl (.put rfl) ?_)
 refine At.s rfl rfl (Ox.alloc (cs := #[iv 0, iv 0]) rfl zero23 rfl fun b67 _ _ => ⟨_, (.put rfl), ?_⟩)
 refine At.s rfl rfl (Ox.storeN (cs' := #[_, _]) rfl rfl rfl agg23 rfl (ones_cons rfl (ones_cons rfl ones_nil)) .here rfl rfl rfl (.refl _) ?_)
 refine es ?_
 refine sg rg5 ?_
 refine vs 1 ?_
 refine ld 0 one3 z0 ?_
 refine vs 1 ?_
 refine ld 1 one3 z0 ?_
 refine vs 1 ?_
 refine er ?_
 refine sc hM (fun ht70 hM => ?_) (fun ht70 hM => ?_)
 ·refine sg rg3 ?_
  refine At.s rfl rfl (Ox.build (cells := #[_, _, _, _, _, _]) rfl struct28 rfl fill_nil rfl (.put rfl) ?_)
  refine At.s rfl rfl (Ox.storeN (cs' := #[_, _, _, _, _, _]) rfl rfl rfl agg28 rfl (ones_cons rfl (ones_cons rfl (ones_cons rfl (ones_cons rfl (ones_cons rfl (ones_cons rfl ones_nil)))))) (.there (.there .here)) rfl rfl rfl (.refl _) ?_)
  refine vs 1 ?_
  refine er ?_
  obtain rfl := sinj hM
  exact rt Tryz.func38 (.agg rfl agg28 rfl (CellsAt.box z2) (.tmp rfl .nil)) (so (so (so (so (so sr))))) (hk _ _ _ ⟨hRx51, rfl, .slice none 0 0, .slice none 0 0, .slice none 0 0, SlR.nil, SlR.nil, SlR.nil, rfl⟩)
 refine sp ?_
 refine sg rg5 ?_
 refine vs 1 ?_
 refine ld 3 one24 z4 ?_
 obtain ⟨x71, hx71, hM⟩ := bnd hM
 refine At.cv ent122 (m122_ok x0.Pieces h0_3.rd hx71) ?_
 rintro vx71 Rx71 _ ⟨hRx71, _, Hsx71, hox71, rfl, rfl⟩
 replace h0_4 := h0_4.mono hRx71
 replace h0_5 := h0_5.mono hRx71
 replace hG := hG.mono hRx71
 refine vs 1 ?_
 refine At.s rfl rfl (Ox.store1 (cs' := #[_, _, _, _, _, _]) rfl rfl rfl one24 hox71.one (.skip (.there (.there (.there (.there .here))))) rfl rfl rfl (.refl _) ?_)
 refine nx rg7 ?_
 refine vs 1 ?_
 refine ld 3 one24 (List.mem_append_right _ z4) ?_
 refine vs 1 ?_
 refine lN [_, _] 0 2 agg23 (List.mem_append_right _ z0) ?_
 obtain ⟨x72, hx72, hM⟩ := bnd hM
 obtain ⟨bx72, csx72, _, ⟨vx72_4, hx72_4, rfl⟩, rfl, hcx72, hgx72, hix72, hnx72, hzx72, hwx72⟩ := hox71.elemW slice24 hx72
 refine At.s rfl rfl (Ox.indexV rfl rfl rfl hix72 rfl (.put rfl) ?_)
 refine vs 1 ?_
 refine At.s rfl rfl (Ox.storeE (K := CHullPiece) (k := 5) (e := 58) (i := x1) (x' := (⟨x72.Name, x72.Arm, ⟨maxI x65.Weight.Least [x2.Least], minI x65.Weight.Most [x2.Most]⟩, x72.On⟩ : HullPiece)) (pre := [.string x72.Name, iv x72.Arm]) (mid := [iv x72.Weight.Least, iv x72.Weight.Most]) (post := [vx72_4]) .id rfl rfl rfl rfl size23 rfl (ones_cons rfl (ones_cons rfl ones_nil)) hgx72 rfl rfl rfl hzx72 hwx72 ⟨_, hx72_4, rfl⟩ rfl (.refl _) fun Hsw73 how73 => ?_)
 refine nx rg6 ?_
 refine lN [_, _, _, _, _, _] 0 6 agg28 (List.mem_append_right _ z4) ?_
 refine At.freezeOwn (H2 := (b67, _) :: (b66, _) :: (b50, _) :: (b49, _) :: (b48, _) :: H) (fun X => X ++ ((b67, _) :: (b66, _) :: (b50, _) :: (b49, _) :: (b48, _) :: H)) .id rfl how73 (fun Rf75 hRf75 hf75 => ?_)
 replace h0_4 := h0_4.mono hRf75
 replace h0_5 := h0_5.mono hRf75
 replace hG := hG.mono hRf75
 obtain ⟨x74, hx74, hM⟩ := bnd hM
 refine At.cv ent118 (m118_ok (⟨x0.Limit, ⟨x0.Ballast.Least, x0.Ballast.Most⟩, x71.set x1.toNat (⟨x72.Name, x72.Arm, ⟨maxI x65.Weight.Least [x2.Least], minI x65.Weight.Most [x2.Most]⟩, x72.On⟩ : HullPiece), x0.Out, x0.Heels⟩ : HullBook) hG hf75 h0_4 h0_5 hx74) ?_
 rintro _ Rx74 _ ⟨hRx74, rfl, vx74r0_3, vx74r0_4, vx74r0_5, hx74r0_3, hx74r0_4, hx74r0_5, rfl⟩
 refine vs 2 ?_
 refine At.s rfl rfl (Ox.storeN (cs' := #[_, _, _, _, _, _]) rfl rfl rfl agg28 rfl (ones_cons rfl (ones_cons rfl (ones_cons rfl (ones_cons hx74r0_3.one (ones_cons hx74r0_4.one (ones_cons hx74r0_5.one ones_nil)))))) (.there (.there .here)) rfl rfl rfl (.refl _) ?_)
 refine vs 1 ?_
 refine er ?_
 obtain rfl := sinj hM
 exact rt Tryz.func38 (.agg rfl agg28 rfl (CellsAt.box z2) (.tmp rfl .nil)) (so (so (so (so (so sr))))) (hk _ _ _ ⟨(((hRx51.trans hRx71).trans hRf75).trans hRx74), rfl, vx74r0_3, vx74r0_4, vx74r0_5, hx74r0_3, hx74r0_4, hx74r0_5, rfl⟩)
theorem m40_ok (x0 : HullBook) (x1 : Int) {v0_3 v0_4 v0_5 : Value} (hG : GOk R) (h0_3 : SlR CHullPiece 5 R v0_3 x0.Pieces) (h0_4 : SlR CZ 1 R v0_4 x0.Out) (h0_5 : SlR CHullHeel 2 R v0_5 x0.Heels) {r : (HullBook × Int)} (hM : m40 x0 x1 = some r) : FnOk 𝒥 40 #[.agg #[iv x0.Limit, iv x0.Ballast.Least, iv x0.Ballast.Most, v0_3, v0_4, v0_5], iv x1] R H (fun v R' H' => RLe R R' ∧ H = H' ∧ ∃ vr0_3 vr0_4 vr0_5, SlR CHullPiece 5 R' vr0_3 r.1.Pieces ∧ SlR CZ 1 R' vr0_4 r.1.Out ∧ SlR CHullHeel 2 R' vr0_5 r.1.Heels ∧ v = .tuple #[.agg #[iv r.1.Limit, iv r.1.Ballast.Least, iv r.1.Ballast.Most, vr0_3, vr0_4, vr0_5], iv r.2]) := by
 unfold m40 at hM
 refine FnOk.of_at Tryz.func40 rfl (n := 42) rfl rfl fun fr cs hk => ?_
 refine sg rg3 ?_
 refine bx fun b39 => ?_
 refine At.s rfl rfl (Ox.alloc (cs := #[iv 0, iv 0, iv 0, .slice none 0 0, .slice none 0 0, .slice none 0 0]) rfl zero28 rfl fun b40 _ _ => ⟨_, (.put rfl), ?_⟩)
 refine vs 1 ?_
 refine es ?_
 refine sg rg3 ?_
 refine lN [_, _, _, _, _, _] 0 6 agg28 z1 ?_
 obtain ⟨x41, hx41, hM⟩ := bnd hM
 refine At.cv ent83 (m83_ok x0 hG h0_3 h0_4 h0_5 hx41) ?_
 rintro _ Rx41 _ ⟨hRx41, rfl, rfl⟩
 replace h0_3 := h0_3.mono hRx41
 replace h0_4 := h0_4.mono hRx41
 replace h0_5 := h0_5.mono hRx41
 replace hG := hG.mono hRx41
 refine vs 1 ?_
 refine nx rg2 ?_
 refine vs 2 ?_
 refine er ?_
 refine sc hM (fun ht44 hM => ?_) (fun ht44 hM => ?_)
 ·refine sg rg4 ?_
  refine At.s rfl rfl (Ox.build (cells := #[_, _, _, _, _, _]) rfl struct28 rfl fill_nil rfl (.put rfl) ?_)
  refine vs 1 ?_
  refine At.s rfl rfl (Ox.storeN (cs' := #[_, _, _, _, _, _]) rfl rfl rfl agg28 rfl (ones_cons rfl (ones_cons rfl (ones_cons rfl (ones_cons rfl (ones_cons rfl (ones_cons rfl ones_nil)))))) .here rfl rfl rfl (.refl _) ?_)
  refine vs 1 ?_
  refine er ?_
  obtain rfl := sinj hM
  exact rt Tryz.func40 (.agg rfl agg28 rfl (CellsAt.box z0) (.tmp rfl .nil)) (so (so sr)) (hk _ _ _ ⟨hRx41, rfl, .slice none 0 0, .slice none 0 0, .slice none 0 0, SlR.nil, SlR.nil, SlR.nil, rfl⟩)
 refine sp ?_
 refine sq ?_
 refine sq ?_
 obtain ⟨x45, hx45, hM⟩ := bnd hM
 obtain ⟨x47, hx47, hM⟩ := bnd hM
 refine At.cut (fun R' H' st' => RLe Rx41 R' ∧ H' = (b40, .cells #[iv 0, iv 0, iv 0, .slice none 0 0, .slice none 0 0, .slice none 0 0] 28) :: (b39, .cells #[iv x0.Limit, iv x0.Ballast.Least, iv x0.Ballast.Most, v0_3, v0_4, v0_5] 28) :: H ∧ SubL st' [(1, iv x1), (2, .pointer (some ⟨b39, 0, none⟩)), (4, .pointer (some ⟨b40, 0, none⟩)), (8, iv x47.2)]) ?_ ?_
 ·rintro Rc49 Hc49 stc49 ⟨hRc49, rfl, hstc49⟩
  refine At.sub hstc49 ?_
  replace h0_3 := h0_3.mono hRc49
  replace h0_4 := h0_4.mono hRc49
  replace h0_5 := h0_5.mono hRc49
  replace hG := hG.mono hRc49
  refine sg rg2 ?_
  refine vs 2 ?_
  refine er ?_
  refine sc hM (fun ht52 hM => ?_) (fun ht52 hM => ?_)
  ·refine sg rg4 ?_
   refine At.s rfl rfl (Ox.build (cells := #[_, _, _, _, _, _]) rfl struct28 rfl fill_nil rfl (.put rfl) ?_)
   refine vs 1 ?_
   refine At.s rfl rfl (Ox.storeN (cs' := #[_, _, _, _, _, _]) rfl rfl rfl agg28 rfl (ones_cons rfl (ones_cons rfl (ones_cons rfl (ones_cons rfl (ones_cons rfl (ones_cons rfl ones_nil)))))) .here rfl rfl rfl (.refl _) ?_)
   refine vs 1 ?_
   refine er ?_
   obtain rfl := sinj hM
   exact rt Tryz.func40 (.agg rfl agg28 rfl (CellsAt.box z0) (.tmp rfl .nil)) (so (so sr)) (hk _ _ _ ⟨(hRx41.trans hRc49), rfl, .slice none 0 0, .slice none 0 0, .slice none 0 0, SlR.nil, SlR.nil, SlR.nil, rfl⟩)
  refine sp ?_
  refine sg rg8 ?_
  refine vs 1 ?_
  refine ld 4 one25 z1 ?_
  obtain ⟨x53, hx53, hM⟩ := bnd hM
  refine At.cv ent125 (m125_ok x0.Out h0_4.rd hx53) ?_
  rintro vx53 Rx53 _ ⟨hRx53, _, Hsx53, hox53, rfl, rfl⟩
  replace h0_3 := h0_3.mono hRx53
  replace h0_5 := h0_5.mono hRx53
  replace hG := hG.mono hRx53
  refine vs 1 ?_
  refine At.s rfl rfl (Ox.buildSlice (cells := #[_]) rfl elem25 rfl (by decide) base25_1 (fill_cons rfl rfl rfl rfl fill_nil) rfl fun b54 _ _ => ⟨_, (.put rfl), ?_⟩)
  obtain ⟨x55, hx55, hM⟩ := bnd hM
  refine At.s rfl rfl (Ox.append (K := CZ) (fun X => (b54, _) :: X ++ ((b40, _) :: (b39, _) :: H)) rfl rfl rfl app25 Tryz.underlying25 (by simp) (.cons .id) hox53 (ArgSl.lit z0 (Enc.le (Enc.cons (x := x1) rfl rfl Enc.nil) rfl) rfl) hx55 rfl fun vx55 Hsx55 hox55 => ⟨_, (.put rfl), ?_⟩)
  refine vs 1 ?_
  refine At.s rfl rfl (Ox.store1 (cs' := #[_, _, _, _, _, _]) rfl rfl rfl one25 hox55.one (.there (.skip (.there .here))) rfl rfl rfl (.refl _) ?_)
  refine nx rg6 ?_
  refine At.s rfl rfl (Ox.loadN (vs := [_, _, _, _, _, _]) rfl rfl agg28 rfl ((CellsAt.box (.tail _ (List.mem_append_right _ z1))).part (j := 0) (n := 6) rfl) rfl (.put rfl) ?_)
  refine At.freezeOwn (H2 := (b54, _) :: (b40, _) :: (b39, _) :: H) (fun X => (b54, _) :: X ++ ((b40, _) :: (b39, _) :: H)) (.cons .id) rfl hox55 (fun Rf57 hRf57 hf57 => ?_)
  replace h0_3 := h0_3.mono hRf57
  replace h0_5 := h0_5.mono hRf57
  replace hG := hG.mono hRf57
  obtain ⟨x56, hx56, hM⟩ := bnd hM
  refine At.cv ent118 (m118_ok (⟨x0.Limit, ⟨x0.Ballast.Least, x0.Ballast.Most⟩, x0.Pieces, x55, x0.Heels⟩ : HullBook) hG h0_3 hf57 h0_5 hx56) ?_
  rintro _ Rx56 _ ⟨hRx56, rfl, vx56r0_3, vx56r0_4, vx56r0_5, hx56r0_3, hx56r0_4, hx56r0_5, rfl⟩
  refine vs 2 ?_
  refine At.s rfl rfl (Ox.storeN (cs' := #[_, _, _, _, _, _]) rfl rfl rfl agg28 rfl (ones_cons rfl (ones_cons rfl (ones_cons rfl (ones_cons hx56r0_3.one (ones_cons hx56r0_4.one (ones_cons hx56r0_5.one ones_nil)))))) (.there .here) rfl rfl rfl (.refl _) ?_)
  refine vs 1 ?_
  refine er ?_
  obtain rfl := sinj hM
  exact rt Tryz.func40 (.agg rfl agg28 rfl (CellsAt.box z1) (.tmp rfl .nil)) (so (so (so sr))) (hk _ _ _ ⟨((((hRx41.trans hRc49).trans hRx53).trans hRf57).trans hRx56), rfl, vx56r0_3, vx56r0_4, vx56r0_5, hx56r0_3, hx56r0_4, hx56r0_5, rfl⟩)
 intro hcut49
 refine At.dw rg15 mixed ?_
 refine tN 0 [_, _, _, _, _, _] 0 6 agg28 z1 ?_
 refine Any.tk 1 rfl pp (fun R' H' hR hS => Ox.build (cells := #[_, _, _, _, _, _]) rfl struct102 rfl (fill_cons rfl rfl rfl rfl fill_nil) rfl (.one rfl) ⟨rfl, rfl, rfl⟩) ?_
 refine Any.tk 2 rfl pp (fun R' H' hR hS => Ox.buildZ (z := (List.toArray ([] ++ ([false, false, false, false, false].map Value.bool ++ [])))) rfl arrz112 rfl (.one rfl) ⟨rfl, rfl, rfl⟩) ?_
 refine Any.vs 1 [3] rfl ?_
 refine tl 4 4 one25 z1 ?_
 refine Any.vs 1 [6] rfl ?_
 refine Any.three' (i := 5) (j := 7) (l := 12) (ra := [7, 8, 9, 10, 11, 12, 13, 14]) (rb := [5, 8, 9, 10, 11, 12, 13, 14]) (rc := [5, 7, 8, 9, 10, 11, 13, 14]) rfl rfl rfl (by decide +kernel) rfl rfl rfl (by decide) rfl rfl rfl ?_ ?_ ?_
 ·refine  (Ox.callV rfl rfl rfl rfl ent93 rfl rfl ((m93_ok [false, false, false, false, false] x0.Out rfl h0_4.rd hx45).mono ?_))
  rintro _ _ _ ⟨rfl, rfl, lx45r0, rfl⟩
  refine ⟨_, (.put rfl), ⟨rr, ka, ?_⟩⟩
  refine tw 7 12 ?_ ?_
  ·refine  (SemTo.to (Ox.buildSlice (cells := #[_]) rfl elem25 rfl (by decide) base25_1 (fill_cons rfl rfl rfl rfl fill_nil) rfl fun b46 _ _ => ⟨_, (.put rfl), ⟨rr, (ku (so sr)), ?_⟩⟩))
   refine tw 8 12 ?_ ?_
   ·refine  (Ox.callV rfl rfl rfl rfl ent99 rfl rfl ((m99_ok (⟨x0.Limit, ⟨x0.Ballast.Least, x0.Ballast.Most⟩, x0.Pieces, x0.Out, x0.Heels⟩ : HullBook) x45 [x1] h0_3 h0_4 h0_5 lx45r0 (RdS.lit z0 (Enc.le (Enc.cons (x := x1) rfl rfl Enc.nil) rfl) rfl) hx47).mono ?_))
    rintro _ Rx47 _ ⟨hRx47, rfl, lx47r0, rfl⟩
    refine ⟨_, (.put rfl), ⟨hRx47, (ku (so sr)), ?_⟩⟩
    refine Any.vs 3 [9, 10, 11] rfl ?_
    refine Any.on 12 rfl rfl (SemTo.to (Ox.alloc (cs := (List.toArray ([] ++ ([false, false, false, false, false].map Value.bool ++ [])))) rfl zero112 rfl fun b48 _ _ => ⟨_, (.put rfl), ⟨rr, (ku (so (so sr))), ?_⟩⟩))
    refine Any.on 13 rfl rfl (SemTo.to (Ox.storeN (cs' := _) rfl rfl rfl agg112 (by simp [lx47r0]) (ones_app ones_nil (ones_app (ones_map fun _ => rfl) ones_nil)) .here (by simp) (putCells_whole (by simp [lx47r0])) rfl (.refl _) ⟨rr, (ku (so (so sr))), ?_⟩))
    refine Any.vs 1 [14] rfl ?_
    exact Any.done (At.drop (so (so sr)) (hcut49 _ _ _ ⟨hRx47, rfl, SubT.sub ⟨rfl, rfl, rfl, rfl, trivial⟩⟩))
   refine  (SemTo.to (Ox.alloc (cs := (List.toArray ([] ++ ([false, false, false, false, false].map Value.bool ++ [])))) rfl zero112 rfl fun b48 _ _ => ⟨_, (.put rfl), ⟨rr, (ku (so (so sr))), ?_⟩⟩))
   refine Any.cv 8 ent99 (m99_ok (⟨x0.Limit, ⟨x0.Ballast.Least, x0.Ballast.Most⟩, x0.Pieces, x0.Out, x0.Heels⟩ : HullBook) x45 [x1] h0_3 h0_4 h0_5 lx45r0 (RdS.lit z1 (Enc.le (Enc.cons (x := x1) rfl rfl Enc.nil) rfl) rfl) hx47) ?_
   rintro _ Rx47 _ ⟨hRx47, rfl, lx47r0, rfl⟩
   refine ⟨hRx47, (ku (so (so sr))), ?_⟩
   refine Any.vs 3 [9, 10, 11] rfl ?_
   refine Any.on 13 rfl rfl (SemTo.to (Ox.storeN (cs' := _) rfl rfl rfl agg112 (by simp [lx47r0]) (ones_app ones_nil (ones_app (ones_map fun _ => rfl) ones_nil)) .here (by simp) (putCells_whole (by simp [lx47r0])) rfl (.refl _) ⟨rr, (ku (so (so sr))), ?_⟩))
   refine Any.vs 1 [14] rfl ?_
   exact Any.done (At.drop (so (so sr)) (hcut49 _ _ _ ⟨hRx47, rfl, SubT.sub ⟨rfl, rfl, rfl, rfl, trivial⟩⟩))
  refine  (SemTo.to (Ox.alloc (cs := (List.toArray ([] ++ ([false, false, false, false, false].map Value.bool ++ [])))) rfl zero112 rfl fun b48 _ _ => ⟨_, (.put rfl), ⟨rr, (ku (so sr)), ?_⟩⟩))
  refine Any.on 7 rfl rfl (SemTo.to (Ox.buildSlice (cells := #[_]) rfl elem25 rfl (by decide) base25_1 (fill_cons rfl rfl rfl rfl fill_nil) rfl fun b46 _ _ => ⟨_, (.put rfl), ⟨rr, (ku (so (so sr))), ?_⟩⟩))
  refine Any.cv 8 ent99 (m99_ok (⟨x0.Limit, ⟨x0.Ballast.Least, x0.Ballast.Most⟩, x0.Pieces, x0.Out, x0.Heels⟩ : HullBook) x45 [x1] h0_3 h0_4 h0_5 lx45r0 (RdS.lit z0 (Enc.le (Enc.cons (x := x1) rfl rfl Enc.nil) rfl) rfl) hx47) ?_
  rintro _ Rx47 _ ⟨hRx47, rfl, lx47r0, rfl⟩
  refine ⟨hRx47, (ku (so (so sr))), ?_⟩
  refine Any.vs 3 [9, 10, 11] rfl ?_
  refine Any.on 13 rfl rfl (SemTo.to (Ox.storeN (cs' := _) rfl rfl rfl agg112 (by simp [lx47r0]) (ones_app ones_nil (ones_app (ones_map fun _ => rfl) ones_nil)) (.there .here) (by simp) (putCells_whole (by simp [lx47r0])) rfl (.refl _) ⟨rr, (ku (so (so sr))), ?_⟩))
  refine Any.vs 1 [14] rfl ?_
  exact Any.done (At.drop (so (so sr)) (hcut49 _ _ _ ⟨hRx47, rfl, SubT.sub ⟨rfl, rfl, rfl, rfl, trivial⟩⟩))
 ·refine  (SemTo.to (Ox.buildSlice (cells := #[_]) rfl elem25 rfl (by decide) base25_1 (fill_cons rfl rfl rfl rfl fill_nil) rfl fun b46 _ _ => ⟨_, (.put rfl), ⟨rr, (ku (so sr)), ?_⟩⟩))
  refine tw 5 12 ?_ ?_
  ·refine  (Ox.callV rfl rfl rfl rfl ent93 rfl rfl ((m93_ok [false, false, false, false, false] x0.Out rfl h0_4.rd hx45).mono ?_))
   rintro _ _ _ ⟨rfl, rfl, lx45r0, rfl⟩
   refine ⟨_, (.put rfl), ⟨rr, (ku (so sr)), ?_⟩⟩
   refine tw 8 12 ?_ ?_
   ·refine  (Ox.callV rfl rfl rfl rfl ent99 rfl rfl ((m99_ok (⟨x0.Limit, ⟨x0.Ballast.Least, x0.Ballast.Most⟩, x0.Pieces, x0.Out, x0.Heels⟩ : HullBook) x45 [x1] h0_3 h0_4 h0_5 lx45r0 (RdS.lit z0 (Enc.le (Enc.cons (x := x1) rfl rfl Enc.nil) rfl) rfl) hx47).mono ?_))
    rintro _ Rx47 _ ⟨hRx47, rfl, lx47r0, rfl⟩
    refine ⟨_, (.put rfl), ⟨hRx47, (ku (so sr)), ?_⟩⟩
    refine Any.vs 3 [9, 10, 11] rfl ?_
    refine Any.on 12 rfl rfl (SemTo.to (Ox.alloc (cs := (List.toArray ([] ++ ([false, false, false, false, false].map Value.bool ++ [])))) rfl zero112 rfl fun b48 _ _ => ⟨_, (.put rfl), ⟨rr, (ku (so (so sr))), ?_⟩⟩))
    refine Any.on 13 rfl rfl (SemTo.to (Ox.storeN (cs' := _) rfl rfl rfl agg112 (by simp [lx47r0]) (ones_app ones_nil (ones_app (ones_map fun _ => rfl) ones_nil)) .here (by simp) (putCells_whole (by simp [lx47r0])) rfl (.refl _) ⟨rr, (ku (so (so sr))), ?_⟩))
    refine Any.vs 1 [14] rfl ?_
    exact Any.done (At.drop (so (so sr)) (hcut49 _ _ _ ⟨hRx47, rfl, SubT.sub ⟨rfl, rfl, rfl, rfl, trivial⟩⟩))
   refine  (SemTo.to (Ox.alloc (cs := (List.toArray ([] ++ ([false, false, false, false, false].map Value.bool ++ [])))) rfl zero112 rfl fun b48 _ _ => ⟨_, (.put rfl), ⟨rr, (ku (so (so sr))), ?_⟩⟩))
   refine Any.cv 8 ent99 (m99_ok (⟨x0.Limit, ⟨x0.Ballast.Least, x0.Ballast.Most⟩, x0.Pieces, x0.Out, x0.Heels⟩ : HullBook) x45 [x1] h0_3 h0_4 h0_5 lx45r0 (RdS.lit z1 (Enc.le (Enc.cons (x := x1) rfl rfl Enc.nil) rfl) rfl) hx47) ?_
   rintro _ Rx47 _ ⟨hRx47, rfl, lx47r0, rfl⟩
   refine ⟨hRx47, (ku (so (so sr))), ?_⟩
   refine Any.vs 3 [9, 10, 11] rfl ?_
   refine Any.on 13 rfl rfl (SemTo.to (Ox.storeN (cs' := _) rfl rfl rfl agg112 (by simp [lx47r0]) (ones_app ones_nil (ones_app (ones_map fun _ => rfl) ones_nil)) .here (by simp) (putCells_whole (by simp [lx47r0])) rfl (.refl _) ⟨rr, (ku (so (so sr))), ?_⟩))
   refine Any.vs 1 [14] rfl ?_
   exact Any.done (At.drop (so (so sr)) (hcut49 _ _ _ ⟨hRx47, rfl, SubT.sub ⟨rfl, rfl, rfl, rfl, trivial⟩⟩))
  refine  (SemTo.to (Ox.alloc (cs := (List.toArray ([] ++ ([false, false, false, false, false].map Value.bool ++ [])))) rfl zero112 rfl fun b48 _ _ => ⟨_, (.put rfl), ⟨rr, (ku (so (so sr))), ?_⟩⟩))
  refine Any.cv 5 ent93 (m93_ok [false, false, false, false, false] x0.Out rfl h0_4.rd hx45) ?_
  rintro _ _ _ ⟨rfl, rfl, lx45r0, rfl⟩
  refine ⟨rr, (ku (so (so sr))), ?_⟩
  refine Any.cv 8 ent99 (m99_ok (⟨x0.Limit, ⟨x0.Ballast.Least, x0.Ballast.Most⟩, x0.Pieces, x0.Out, x0.Heels⟩ : HullBook) x45 [x1] h0_3 h0_4 h0_5 lx45r0 (RdS.lit z1 (Enc.le (Enc.cons (x := x1) rfl rfl Enc.nil) rfl) rfl) hx47) ?_
  rintro _ Rx47 _ ⟨hRx47, rfl, lx47r0, rfl⟩
  refine ⟨hRx47, (ku (so (so sr))), ?_⟩
  refine Any.vs 3 [9, 10, 11] rfl ?_
  refine Any.on 13 rfl rfl (SemTo.to (Ox.storeN (cs' := _) rfl rfl rfl agg112 (by simp [lx47r0]) (ones_app ones_nil (ones_app (ones_map fun _ => rfl) ones_nil)) .here (by simp) (putCells_whole (by simp [lx47r0])) rfl (.refl _) ⟨rr, (ku (so (so sr))), ?_⟩))
  refine Any.vs 1 [14] rfl ?_
  exact Any.done (At.drop (so (so sr)) (hcut49 _ _ _ ⟨hRx47, rfl, SubT.sub ⟨rfl, rfl, rfl, rfl, trivial⟩⟩))
 refine  (SemTo.to (Ox.alloc (cs := (List.toArray ([] ++ ([false, false, false, false, false].map Value.bool ++ [])))) rfl zero112 rfl fun b48 _ _ => ⟨_, (.put rfl), ⟨rr, (ku (so sr)), ?_⟩⟩))
 refine tw 5 7 ?_ ?_
 ·refine  (Ox.callV rfl rfl rfl rfl ent93 rfl rfl ((m93_ok [false, false, false, false, false] x0.Out rfl h0_4.rd hx45).mono ?_))
  rintro _ _ _ ⟨rfl, rfl, lx45r0, rfl⟩
  refine ⟨_, (.put rfl), ⟨rr, (ku (so sr)), ?_⟩⟩
  refine Any.on 7 rfl rfl (SemTo.to (Ox.buildSlice (cells := #[_]) rfl elem25 rfl (by decide) base25_1 (fill_cons rfl rfl rfl rfl fill_nil) rfl fun b46 _ _ => ⟨_, (.put rfl), ⟨rr, (ku (so (so sr))), ?_⟩⟩))
  refine Any.cv 8 ent99 (m99_ok (⟨x0.Limit, ⟨x0.Ballast.Least, x0.Ballast.Most⟩, x0.Pieces, x0.Out, x0.Heels⟩ : HullBook) x45 [x1] h0_3 h0_4 h0_5 lx45r0 (RdS.lit z0 (Enc.le (Enc.cons (x := x1) rfl rfl Enc.nil) rfl) rfl) hx47) ?_
  rintro _ Rx47 _ ⟨hRx47, rfl, lx47r0, rfl⟩
  refine ⟨hRx47, (ku (so (so sr))), ?_⟩
  refine Any.vs 3 [9, 10, 11] rfl ?_
  refine Any.on 13 rfl rfl (SemTo.to (Ox.storeN (cs' := _) rfl rfl rfl agg112 (by simp [lx47r0]) (ones_app ones_nil (ones_app (ones_map fun _ => rfl) ones_nil)) (.there .here) (by simp) (putCells_whole (by simp [lx47r0])) rfl (.refl _) ⟨rr, (ku (so (so sr))), ?_⟩))
  refine Any.vs 1 [14] rfl ?_
  exact Any.done (At.drop (so (so sr)) (hcut49 _ _ _ ⟨hRx47, rfl, SubT.sub ⟨rfl, rfl, rfl, rfl, trivial⟩⟩))
 refine  (SemTo.to (Ox.buildSlice (cells := #[_]) rfl elem25 rfl (by decide) base25_1 (fill_cons rfl rfl rfl rfl fill_nil) rfl fun b46 _ _ => ⟨_, (.put rfl), ⟨rr, (ku (so (so sr))), ?_⟩⟩))
 refine Any.cv 5 ent93 (m93_ok [false, false, false, false, false] x0.Out rfl h0_4.rd hx45) ?_
 rintro _ _ _ ⟨rfl, rfl, lx45r0, rfl⟩
 refine ⟨rr, (ku (so (so sr))), ?_⟩
 refine Any.cv 8 ent99 (m99_ok (⟨x0.Limit, ⟨x0.Ballast.Least, x0.Ballast.Most⟩, x0.Pieces, x0.Out, x0.Heels⟩ : HullBook) x45 [x1] h0_3 h0_4 h0_5 lx45r0 (RdS.lit z0 (Enc.le (Enc.cons (x := x1) rfl rfl Enc.nil) rfl) rfl) hx47) ?_
 rintro _ Rx47 _ ⟨hRx47, rfl, lx47r0, rfl⟩
 refine ⟨hRx47, (ku (so (so sr))), ?_⟩
 refine Any.vs 3 [9, 10, 11] rfl ?_
 refine Any.on 13 rfl rfl (SemTo.to (Ox.storeN (cs' := _) rfl rfl rfl agg112 (by simp [lx47r0]) (ones_app ones_nil (ones_app (ones_map fun _ => rfl) ones_nil)) (.there .here) (by simp) (putCells_whole (by simp [lx47r0])) rfl (.refl _) ⟨rr, (ku (so (so sr))), ?_⟩))
 refine Any.vs 1 [14] rfl ?_
 exact Any.done (At.drop (so (so sr)) (hcut49 _ _ _ ⟨hRx47, rfl, SubT.sub ⟨rfl, rfl, rfl, rfl, trivial⟩⟩))
theorem m127_ok (x0 : HullBook) (x1 : Int) {v0_3 v0_4 v0_5 : Value} {b1 : Nat} (h0_3 : SlR CHullPiece 5 R v0_3 x0.Pieces) (h0_4 : SlR CZ 1 R v0_4 x0.Out) (h0_5 : SlR CHullHeel 2 R v0_5 x0.Heels) (hc1 : CellsAt R H b1 0 [iv x1]) {r : Int} (hM : m127 x0 x1 = some r) : FnOk 𝒥 127 #[.agg #[iv x0.Limit, iv x0.Ballast.Least, iv x0.Ballast.Most, v0_3, v0_4, v0_5], .pointer (some ⟨b1, 0, none⟩)] R H (fun v R' H' => R = R' ∧ H = H' ∧ v = iv r) := by
 unfold m127 at hM
 refine FnOk.of_at Tryz.func127 rfl (n := 8) rfl rfl fun fr cs hk => ?_
 refine sg rg2 ?_
 refine bx fun b23 => ?_
 refine vs 1 ?_
 refine es ?_
 refine sg rg4 ?_
 refine lN [_, _, _, _, _, _] 0 6 agg102 z0 ?_
 refine At.ld one3 ((hc1.sub (su (so sr))).one (j := 0) rfl) ?_
 obtain ⟨x24, hx24, hM⟩ := bnd hM
 refine At.cv ent120 (m120_ok x0 x1 h0_3 h0_4 h0_5 hx24) ?_
 rintro _ _ _ ⟨rfl, rfl, rfl⟩
 refine vs 1 ?_
 refine er ?_
 refine sc hM (fun ht25 hM => ?_) (fun ht25 hM => ?_)
 ·refine sg rg1 ?_
  refine vs 1 ?_
  refine er ?_
  obtain rfl := sinj hM
  exact rt Tryz.func127 (.tmp rfl .nil) (so sr) (hk _ _ _ ⟨rfl, rfl, rfl⟩)
 refine sp ?_
 refine sg rg1 ?_
 refine vs 1 ?_
 refine er ?_
 obtain rfl := sinj hM
 exact rt Tryz.func127 (.tmp rfl .nil) (so sr) (hk _ _ _ ⟨rfl, rfl, rfl⟩)
theorem m183_ok (x0 : Int) (x1 : Int)  {r : Bool} (hM : m183 x0 x1 = some r) : FnOk 𝒥 183 #[iv x0, iv x1] R H (fun v R' H' => R = R' ∧ H = H' ∧ v = .bool r) := by
 unfold m183 at hM
 refine FnOk.of_at Tryz.func183 rfl (n := 17) rfl rfl fun fr cs hk => ?_
 refine sg rg1 ?_
 refine vs 1 ?_
 refine nx rg13 ?_
 refine vs 1 ?_
 obtain ⟨x24, hx24, hM⟩ := bnd hM
 refine At.cv ent176 (m176_ok x0  hx24) ?_
 rintro _ _ _ ⟨rfl, rfl, rfl⟩
 refine vs 1 ?_
 refine selC hM (fun ht25 hM => ?_) (fun ht25 hM => ?_)
 ·refine At.kn 7 ht25 ?_
  refine vs 1 ?_
  obtain ⟨x26, hx26, hM⟩ := bnd hM
  refine At.cv ent176 (m176_ok x1  hx26) ?_
  rintro _ _ _ ⟨rfl, rfl, rfl⟩
  refine vs 3 ?_
  refine selC hM (fun ht27 hM => ?_) (fun ht27 hM => ?_)
  ·refine At.kn 12 ht27 ?_
   refine vs 5 ?_
   refine er ?_
   obtain rfl := sinj hM
   exact rt Tryz.func183 (.tmp rfl .nil) sr (hk _ _ _ ⟨rfl, rfl, rfl⟩)
  refine At.kn 12 ht27 ?_
  refine vs 5 ?_
  refine er ?_
  obtain rfl := sinj hM
  exact rt Tryz.func183 (.tmp rfl .nil) sr (hk _ _ _ ⟨rfl, rfl, rfl⟩)
 refine At.kn 7 ht25 ?_
 refine vs 10 ?_
 refine er ?_
 obtain rfl := sinj hM
 exact rt Tryz.func183 (.tmp rfl .nil) sr (hk _ _ _ ⟨rfl, rfl, rfl⟩)
theorem m177_ok (x0 : (List Int)) (x1 : Int) (x2 : Int) {v0 : Value} {Hs0 : HList} (ho0 : OwnSl CZ 1 3 R v0 x0 Hs0) {r : (List Int)} (hM : m177 x0 x1 x2 = some r) : FnOk 𝒥 177 #[v0, iv x1, iv x2] R (Hs0 ++ H) (fun v R' H' => ∃ Hs', (R = R' ∧ OwnSl CZ 1 3 R' v0 r Hs' ∧ v = .tuple #[]) ∧ H' = Hs' ++ H) := by
 unfold m177 at hM
 refine FnOk.of_at Tryz.func177 rfl (n := 49) rfl rfl fun fr cs hk => ?_
 refine sg rg3 ?_
 refine vs 3 ?_
 refine er ?_
 refine At.block ?_
 refine At.loopE1 hM (fun (s195 : ((List Int) × Int)) R' H' st' => R = R' ∧ ∃ Hs195s_0, OwnSl CZ 1 3 R' v0 s195.1 Hs195s_0 ∧ H' = Hs195s_0 ++ (H) ∧ SubL st' [(0, v0), (1, iv x1), (2, iv x2), (6, iv s195.2)]) (fun (p195_0 : (List Int)) R' H' st' => R = R' ∧ ∃ Hs195_0_0, OwnSl CZ 1 3 R' v0 p195_0 Hs195_0_0 ∧ H' = Hs195_0_0 ++ (H) ∧ SubL st' [(0, v0)]) 0 rfl ⟨rfl, Hs0, ho0, rfl, SubT.sub ⟨rfl, rfl, rfl, rfl, trivial⟩⟩ ?_ ?_
 rotate_right
 ·rintro s195 R195 H195 st195 ⟨rfl, Hs195s_0, ho195s_0, rfl, hst195⟩ x195 hM again195 ex195_0
  refine At.sub hst195 ?_
  refine sq ?_
  refine sg rg3 ?_
  refine vs 3 ?_
  refine er ?_
  refine sc hM (fun ht314 hM => ?_) (fun ht314 hM => ?_)
  ·refine sp ?_
   refine sq ?_
   refine At.block ?_
   refine sg rg2 ?_
   refine vs 2 ?_
   refine er ?_
   refine At.block ?_
   refine At.loopE1 hM (fun (s315 : ((List Int) × Int)) R' H' st' => R = R' ∧ ∃ Hs315s_0, OwnSl CZ 1 3 R' v0 s315.1 Hs315s_0 ∧ H' = Hs315s_0 ++ (H) ∧ SubL st' [(0, v0), (1, iv x1), (2, iv x2), (6, iv s195.2), (7, iv s315.2)]) (fun (p315_0 : (List Int)) R' H' st' => R = R' ∧ ∃ Hs315_0_0, OwnSl CZ 1 3 R' v0 p315_0 Hs315_0_0 ∧ H' = Hs315_0_0 ++ (H) ∧ SubL st' [(0, v0), (1, iv x1), (2, iv x2), (6, iv s195.2)]) 2 rfl ⟨rfl, Hs195s_0, ho195s_0, rfl, SubT.sub ⟨rfl, rfl, rfl, rfl, rfl, trivial⟩⟩ ?_ ?_
   rotate_right
   ·rintro s315 R315 H315 st315 ⟨rfl, Hs315s_0, ho315s_0, rfl, hst315⟩ x315 hM again315 ex315_0
    refine At.sub hst315 ?_
    refine sq ?_
    refine sq ?_
    refine At.joinE1 hM (fun (p352_0 : Bool) R' H' st' => R = R' ∧ H' = Hs315s_0 ++ (H) ∧ SubL st' [(0, v0), (1, iv x1), (2, iv x2), (6, iv s195.2), (7, iv s315.2), (30, .bool p352_0)])  ?_ ?_
    rotate_right
    ·intro x352 hM ex352_0
     refine At.dw rg15 mixed ?_
     refine Any.vs 4 [0, 1, 2, 3] rfl ?_
     refine selC hM (fun ht357 hM => ?_) (fun ht357 hM => ?_)
     ·refine Any.known (t := 19) rfl ht357 ?_
      refine Any.vs 2 [4, 5] rfl ?_
      obtain ⟨x358, hx358, hM⟩ := bnd hM
      obtain ⟨x359, hx359, hM⟩ := bnd hM
      obtain ⟨x360, hx360, hM⟩ := bnd hM
      obtain ⟨bx358, ox358, _, rfl, hcx358, hix358⟩ := (ho315s_0.rd (fun _ h => (List.mem_append_left _ h))).elem slice25 hx358
      refine Any.tk 6 rfl pp (fun R' H' hR hS => Ox.indexV rfl rfl rfl hix358 rfl (.one rfl) ⟨rfl, rfl, rfl⟩) ?_
      refine Any.tk 7 rfl pp (fun R' H' hR hS => Ox.load1 rfl rfl one3 (((hcx358.le hR).sub (fun p h => hS p (pp p h))).one (j := 0) rfl) rfl (.one rfl) ⟨rfl, rfl, rfl⟩) ?_
      refine Any.vs 3 [8, 9, 10] rfl ?_
      obtain ⟨bx359, ox359, _, rfl, hcx359, hix359⟩ := (ho315s_0.rd (fun _ h => (List.mem_append_left _ h))).elem slice25 hx359
      refine Any.tk 11 rfl pp (fun R' H' hR hS => Ox.indexV rfl rfl rfl hix359 rfl (.one rfl) ⟨rfl, rfl, rfl⟩) ?_
      refine Any.tk 12 rfl pp (fun R' H' hR hS => Ox.load1 rfl rfl one3 (((hcx359.le hR).sub (fun p h => hS p (pp p h))).one (j := 0) rfl) rfl (.one rfl) ⟨rfl, rfl, rfl⟩) ?_
      refine Any.cv 13 ent183 (m183_ok x358 x359  hx360) ?_
      rintro _ _ _ ⟨rfl, rfl, rfl⟩
      refine kp ?_
      refine Any.vs 1 [14] rfl ?_
      refine Any.done ?_
      exact ex352_0 _ (sinj hM).symm _ _ _ ⟨rfl, rfl, SubT.sub ⟨rfl, rfl, rfl, rfl, rfl, rfl, trivial⟩⟩
     refine Any.known (t := 19) rfl ht357 ?_
     refine Any.vs 11 [4, 5, 6, 7, 8, 9, 10, 11, 12, 13, 14] rfl ?_
     refine Any.done ?_
     exact ex352_0 _ (sinj hM).symm _ _ _ ⟨rfl, rfl, SubT.sub ⟨rfl, rfl, rfl, rfl, rfl, rfl, trivial⟩⟩
    rintro p352_0 R352_0 H352_0 st352_0 ⟨rfl, rfl, hst352_0⟩ hM
    refine At.sub hst352_0 ?_
    refine sc hM (fun ht363 hM => ?_) (fun ht363 hM => ?_)
    ·refine sp ?_
     refine sq ?_
     refine At.block ?_
     refine At.draw (n := 18) (is := [0, 1, 2, 3, 4, 5, 6, 7, 8, 9, 10, 11, 12, 13, 14, 15, 16, 17]) (many (Hs315s_0 ++ (H)) [(15, H), (17, H)]) mixed rfl (by decide +kernel) rfl rfl ?_
     refine Any.vs 8 [0, 1, 2, 3, 4, 5, 6, 7] rfl ?_
     obtain ⟨x364, hx364, hM⟩ := bnd hM
     obtain ⟨x365, hx365, hM⟩ := bnd hM
     obtain ⟨x366, hx366, hM⟩ := bnd hM
     obtain ⟨x368, hx368, hM⟩ := bnd hM
     obtain ⟨bx364, ox364, _, rfl, hcx364, hix364⟩ := (ho315s_0.rd (fun _ h => (List.mem_append_left _ h))).elem slice25 hx364
     refine ts 8 [9, 14, 15, 16, 17] rfl (many_skip rfl (many_skip rfl (many_nil (su (subDrop sr))))) (su (subDrop sr)) (fun R' H' hR hS => Ox.indexV rfl rfl rfl hix364 rfl (.one rfl) ⟨rfl, rfl, rfl⟩) ?_
     refine ts 9 [14, 15, 16, 17] rfl (many_skip rfl (many_skip rfl (many_nil pp))) pp (fun R' H' hR hS => Ox.load1 rfl rfl one3 (((hcx364.le hR).sub (fun p h => hS p (pp p h))).one (j := 0) rfl) rfl (.one rfl) ⟨rfl, rfl, rfl⟩) ?_
     refine Any.vs 2 [10, 11] rfl ?_
     obtain ⟨bx365, ox365, _, rfl, hcx365, hix365⟩ := (ho315s_0.rd (fun _ h => (List.mem_append_left _ h))).elem slice25 hx365
     refine ts 12 [13, 14, 15, 16, 17] rfl (many_skip rfl (many_skip rfl (many_nil (su (subDrop sr))))) (su (subDrop sr)) (fun R' H' hR hS => Ox.indexV rfl rfl rfl hix365 rfl (.one rfl) ⟨rfl, rfl, rfl⟩) ?_
     refine ts 13 [14, 15, 16, 17] rfl (many_skip rfl (many_skip rfl (many_nil pp))) pp (fun R' H' hR hS => Ox.load1 rfl rfl one3 (((hcx365.le hR).sub (fun p h => hS p (pp p h))).one (j := 0) rfl) rfl (.one rfl) ⟨rfl, rfl, rfl⟩) ?_
     obtain ⟨bx366, csx366, _, rfl, rfl, hcx366, hgx366, hix366, hnx366, hzx366, hwx366⟩ := ho315s_0.elemW slice25 hx366
     refine ts 14 [15, 16, 17] rfl (many_skip rfl (many_skip rfl (many_nil (su (so sr))))) (su (so sr)) (fun R' H' hR hS => Ox.indexV rfl rfl rfl hix366 rfl (.one rfl) ⟨rfl, rfl, rfl⟩) ?_
     refine Any.on 15 rfl rfl (SemTo.to (Ox.storeE (K := CZ) (k := 1) (e := 3) (i := s315.2) (x' := x364) (pre := []) (mid := [iv x366]) (post := []) .id rfl rfl rfl rfl size3 rfl (ones_cons rfl ones_nil) hgx366 rfl rfl rfl hzx366 hwx366 rfl rfl (.refl _) fun Hsw367 how367 => ⟨rr, (many_at rfl (su (subDrop sr))), ?_⟩))
     obtain ⟨bx368, csx368, _, rfl, rfl, hcx368, hgx368, hix368, hnx368, hzx368, hwx368⟩ := how367.elemW slice25 hx368
     refine ts 16 [17] rfl (many_skip rfl (many_skip rfl (many_nil (su (so sr))))) (su (so sr)) (fun R' H' hR hS => Ox.indexV rfl rfl rfl hix368 rfl (.one rfl) ⟨rfl, rfl, rfl⟩) ?_
     refine Any.on 17 rfl rfl (SemTo.to (Ox.storeE (K := CZ) (k := 1) (e := 3) (i := i64 (s315.2 - 1)) (x' := x365) (pre := []) (mid := [iv x368]) (post := []) .id rfl rfl rfl rfl size3 rfl (ones_cons rfl ones_nil) hgx368 rfl rfl rfl hzx368 hwx368 rfl rfl (.refl _) fun Hsw369 how369 => ⟨rr, (many_at rfl (su (subDrop sr))), ?_⟩))
     refine Any.done ?_
     refine At.inBlock ?_
     refine At.rg rg3 ?_
     refine vs 3 ?_
     refine er ?_
     exact again315 _ (sinj hM).symm _ _ _ ⟨rfl, Hsw369, how369, rfl, SubT.sub ⟨rfl, rfl, rfl, rfl, rfl, trivial⟩⟩
    exact At.exit rfl (ex315_0 _ (sinj hM).symm _ _ _ ⟨rfl, Hs315s_0, ho315s_0, rfl, SubT.sub ⟨rfl, rfl, rfl, rfl, trivial⟩⟩)
   rintro p315_0 R315_0 H315_0 st315_0 ⟨rfl, Hs315_0_0, ho315_0_0, rfl, hst315_0⟩ hM
   refine At.sub hst315_0 ?_
   refine At.inBlock ?_
   refine At.rg rg3 ?_
   refine vs 3 ?_
   refine er ?_
   exact again195 _ (sinj hM).symm _ _ _ ⟨rfl, Hs315_0_0, ho315_0_0, rfl, SubT.sub ⟨rfl, rfl, rfl, rfl, trivial⟩⟩
  exact At.exit rfl (ex195_0 _ (sinj hM).symm _ _ _ ⟨rfl, Hs195s_0, ho195s_0, rfl, SubT.sub ⟨rfl, trivial⟩⟩)
 rintro p195_0 R195_0 H195_0 st195_0 ⟨rfl, Hs195_0_0, ho195_0_0, rfl, hst195_0⟩ hM
 refine At.sub hst195_0 ?_
 obtain rfl := sinj hM
 exact At.endR Tryz.func177 .nil (J.drop sr (hk _ _ _ ⟨Hs195_0_0, ⟨rfl, ho195_0_0, rfl⟩, rfl⟩))
theorem m187_ok (x0 : Int)  {r : Int} (hM : m187 x0 = some r) : FnOk 𝒥 187 #[.int .u64 x0] R H (fun v R' H' => R = R' ∧ H = H' ∧ v = iv r) := by
 unfold m187 at hM
 refine FnOk.of_at Tryz.func187 rfl (n := 25) rfl rfl fun fr cs hk => ?_
 refine sg rg1 ?_
 refine vs 1 ?_
 refine es ?_
 refine sg rg2 ?_
 refine vs 2 ?_
 refine er ?_
 refine At.joinE1 hM (fun (p36_0 : (Int × Int)) R' H' st' => R = R' ∧ H = H' ∧ SubL st' [(0, .int .u64 p36_0.1), (2, iv p36_0.2)])  ?_ ?_
 rotate_right
 ·intro x36 hM ex36_0
  refine sc hM (fun ht39 hM => ?_) (fun ht39 hM => ?_)
  ·refine sg rg3 ?_
   refine vs 1 ?_
   obtain ⟨x40, hx40, hM⟩ := bnd hM
   refine At.s rfl rfl (Ox.shr rfl rfl rfl hx40 rfl (.put rfl) ?_)
   refine vs 1 ?_
   refine er ?_
   refine At.rg rg1 ?_
   refine vs 1 ?_
   refine er ?_
   exact ex36_0 _ (sinj hM).symm _ _ _ ⟨rfl, rfl, SubT.sub ⟨rfl, rfl, trivial⟩⟩
  refine sp ?_
  exact ex36_0 _ (sinj hM).symm _ _ _ ⟨rfl, rfl, SubT.sub ⟨rfl, rfl, trivial⟩⟩
 rintro p36_0 R36_0 H36_0 st36_0 ⟨rfl, rfl, hst36_0⟩ hM
 refine At.sub hst36_0 ?_
 refine sq ?_
 refine sg rg2 ?_
 refine vs 2 ?_
 refine er ?_
 refine At.joinE1 hM (fun (p41_0 : (Int × Int)) R' H' st' => R = R' ∧ H = H' ∧ SubL st' [(0, .int .u64 p41_0.1), (2, iv p41_0.2)])  ?_ ?_
 rotate_right
 ·intro x41 hM ex41_0
  refine sc hM (fun ht44 hM => ?_) (fun ht44 hM => ?_)
  ·refine sg rg3 ?_
   refine vs 1 ?_
   obtain ⟨x45, hx45, hM⟩ := bnd hM
   refine At.s rfl rfl (Ox.shr rfl rfl rfl hx45 rfl (.put rfl) ?_)
   refine vs 1 ?_
   refine er ?_
   refine At.rg rg3 ?_
   refine vs 3 ?_
   refine er ?_
   exact ex41_0 _ (sinj hM).symm _ _ _ ⟨rfl, rfl, SubT.sub ⟨rfl, rfl, trivial⟩⟩
  refine sp ?_
  exact ex41_0 _ (sinj hM).symm _ _ _ ⟨rfl, rfl, SubT.sub ⟨rfl, rfl, trivial⟩⟩
 rintro p41_0 R41_0 H41_0 st41_0 ⟨rfl, rfl, hst41_0⟩ hM
 refine At.sub hst41_0 ?_
 refine sq ?_
 refine sg rg2 ?_
 refine vs 2 ?_
 refine er ?_
 refine At.joinE1 hM (fun (p46_0 : (Int × Int)) R' H' st' => R = R' ∧ H = H' ∧ SubL st' [(0, .int .u64 p46_0.1), (2, iv p46_0.2)])  ?_ ?_
 rotate_right
 ·intro x46 hM ex46_0
  refine sc hM (fun ht49 hM => ?_) (fun ht49 hM => ?_)
  ·refine sg rg3 ?_
   refine vs 1 ?_
   obtain ⟨x50, hx50, hM⟩ := bnd hM
   refine At.s rfl rfl (Ox.shr rfl rfl rfl hx50 rfl (.put rfl) ?_)
   refine vs 1 ?_
   refine er ?_
   refine At.rg rg3 ?_
   refine vs 3 ?_
   refine er ?_
   exact ex46_0 _ (sinj hM).symm _ _ _ ⟨rfl, rfl, SubT.sub ⟨rfl, rfl, trivial⟩⟩
  refine sp ?_
  exact ex46_0 _ (sinj hM).symm _ _ _ ⟨rfl, rfl, SubT.sub ⟨rfl, rfl, trivial⟩⟩
 rintro p46_0 R46_0 H46_0 st46_0 ⟨rfl, rfl, hst46_0⟩ hM
 refine At.sub hst46_0 ?_
 refine sg rg7 ?_
 refine vs 2 ?_
 refine At.s rfl rfl (Ox.convI rfl rfl Tryz.underlying204 Tryz.underlying5 rfl (.put rfl) ?_)
 obtain ⟨x51, hx51, hM⟩ := bnd hM
 refine At.s rfl rfl (Ox.indexStr rfl rfl rfl Tryz.underlying9 hx51 rfl (.put rfl) ?_)
 refine At.s rfl rfl (Ox.convI rfl rfl Tryz.underlying5 Tryz.underlying3 rfl (.put rfl) ?_)
 refine vs 2 ?_
 refine er ?_
 obtain rfl := sinj hM
 exact rt Tryz.func187 (.tmp rfl .nil) sr (hk _ _ _ ⟨rfl, rfl, rfl⟩)
theorem m170_ok (x0 : Int)  {r : Int} (hM : m170 x0 = some r) : FnOk 𝒥 170 #[.int .u64 x0] R H (fun v R' H' => R = R' ∧ H = H' ∧ v = iv r) := by
 unfold m170 at hM
 refine FnOk.of_at Tryz.func170 rfl (n := 8) rfl rfl fun fr cs hk => ?_
 refine sg rg1 ?_
 refine vs 1 ?_
 refine es ?_
 refine At.cond_false rfl ?_
 refine sp ?_
 refine sg rg3 ?_
 refine vs 1 ?_
 obtain ⟨x21, hx21, hM⟩ := bnd hM
 refine At.cv ent187 (m187_ok x0  hx21) ?_
 rintro _ _ _ ⟨rfl, rfl, rfl⟩
 refine vs 1 ?_
 refine er ?_
 obtain rfl := sinj hM
 exact rt Tryz.func170 (.tmp rfl .nil) sr (hk _ _ _ ⟨rfl, rfl, rfl⟩)
theorem m169_ok (x0 : (List Int)) (x1 : Int) (x2 : Int) (x3 : Int) {v0 : Value} {Hs0 : HList} (ho0 : OwnSl CZ 1 3 R v0 x0 Hs0) {r : (List Int)} (hM : m169 x0 x1 x2 x3 = some r) : FnOk 𝒥 169 #[v0, iv x1, iv x2, iv x3] R (Hs0 ++ H) (fun v R' H' => ∃ Hs', (R = R' ∧ OwnSl CZ 1 3 R' v0 r Hs' ∧ v = .tuple #[]) ∧ H' = Hs' ++ H) := by
 unfold m169 at hM
 refine FnOk.of_at Tryz.func169 rfl (n := 134) rfl rfl fun fr cs hk => ?_
 refine sg rg1 ?_
 refine vs 1 ?_
 refine nx rg1 ?_
 refine vs 1 ?_
 refine er ?_
 refine At.block ?_
 refine At.loopE0R hM (fun (s31 : Unit) R' H' st' => R = R' ∧ H' = Hs0 ++ (H) ∧ SubL st' [(0, v0), (1, iv x1), (2, iv x2), (3, iv x3), (8, .bool true), (9, .bool true)])   ⟨rfl, rfl, SubT.sub ⟨rfl, rfl, rfl, rfl, rfl, rfl, trivial⟩⟩ ?_
 rintro s31 R31 H31 st31 ⟨rfl, rfl, hst31⟩ x31 hM again31  out31
 refine At.sub hst31 ?_
 refine At.block ?_
 refine sg rg4 ?_
 refine vs 4 ?_
 refine es ?_
 refine sg rg2 ?_
 refine vs 2 ?_
 refine er ?_
 refine sc hM (fun ht40 hM => ?_) (fun ht40 hM => ?_)
 ·refine sg rg4 ?_
  refine vs 3 ?_
  obtain ⟨x41, hx41, hM⟩ := bnd hM
  refine At.step rfl rfl rfl (Ox.callV rfl rfl rfl rfl ent177 rfl rfl ((FnOk.hole (G := (fun X => X ++ (H))) .id (m177_ok x0 x1 x2 ho0 hx41)).mono ?_))
  rintro _ _ _ ⟨Hsx41, ⟨rfl, hox41, rfl⟩, rfl⟩
  refine ⟨_, (.put rfl), ?_⟩
  refine er ?_
  replace hM := out31 _ (sinj hM).symm
  obtain rfl := sinj hM
  exact rt Tryz.func169 .nil sr (hk _ _ _ ⟨Hsx41, ⟨rfl, hox41, rfl⟩, rfl⟩)
 refine sp ?_
 refine sq ?_
 refine sq ?_
 cases hM
theorem m155_ok (x0 : (List Int)) {v0 : Value} {Hs0 : HList} (ho0 : OwnSl CZ 1 3 R v0 x0 Hs0) {r : (List Int)} (hM : m155 x0 = some r) : FnOk 𝒥 155 #[v0] R (Hs0 ++ H) (fun v R' H' => ∃ Hs', (R = R' ∧ OwnSl CZ 1 3 R' v0 r Hs' ∧ v = .tuple #[]) ∧ H' = Hs' ++ H) := by
 unfold m155 at hM
 refine FnOk.of_at Tryz.func155 rfl (n := 11) rfl rfl fun fr cs hk => ?_
 refine sg rg3 ?_
 refine vs 1 ?_
 refine At.s rfl rfl (Ox.lenO rfl rfl ho0 Tryz.underlying25 rfl (.put rfl) ?_)
 refine vs 1 ?_
 refine er ?_
 refine At.rg rg6 ?_
 refine vs 3 ?_
 refine At.s rfl rfl (Ox.convI rfl rfl Tryz.underlying3 Tryz.underlying189 rfl (.put rfl) ?_)
 obtain ⟨x22, hx22, hM⟩ := bnd hM
 refine At.cv ent170 (m170_ok (IntKind.wrap .u64 (x0.length : Int))  hx22) ?_
 rintro _ _ _ ⟨rfl, rfl, rfl⟩
 obtain ⟨x23, hx23, hM⟩ := bnd hM
 refine At.step rfl rfl rfl (Ox.callV rfl rfl rfl rfl ent169 rfl rfl ((FnOk.hole (G := (fun X => X ++ (H))) .id (m169_ok x0 0 (x0.length : Int) x22 ho0 hx23)).mono ?_))
 rintro _ _ _ ⟨Hsx23, ⟨rfl, hox23, rfl⟩, rfl⟩
 refine ⟨_, (.put rfl), ?_⟩
 refine er ?_
 obtain rfl := sinj hM
 exact At.endR Tryz.func155 .nil (J.drop sr (hk _ _ _ ⟨Hsx23, ⟨rfl, hox23, rfl⟩, rfl⟩))
theorem m156_ok (x0 : (List Int)) {v0 : Value} (h0 : SlR CZ 1 R v0 x0) {r : (List Int)} (hM : m156 x0 = some r) : FnOk 𝒥 156 #[v0] R H (fun v R' H' => R = R' ∧ H = H' ∧ ∃ vr0, SlR CZ 1 R' vr0 r ∧ v = vr0) := by
 unfold m156 at hM
 refine FnOk.of_at Tryz.func156 rfl (n := 61) rfl rfl fun fr cs hk => ?_
 refine sg rg1 ?_
 refine vs 1 ?_
 refine es ?_
 refine sg rg3 ?_
 refine vs 1 ?_
 refine ls h0 Tryz.underlying25 ?_
 refine vs 1 ?_
 refine er ?_
 refine sc hM (fun ht44 hM => ?_) (fun ht44 hM => ?_)
 ·refine sg rg2 ?_
  refine vs 2 ?_
  refine er ?_
  obtain rfl := sinj hM
  exact rt Tryz.func156 (.tmp rfl .nil) sr (hk _ _ _ ⟨rfl, rfl, v0, h0, rfl⟩)
 refine sp ?_
 refine sq ?_
 refine sg rg1 ?_
 refine vs 1 ?_
 refine er ?_
 refine At.block ?_
 refine At.loopE1 hM (fun (s45 : Int) R' H' st' => R = R' ∧ H = H' ∧ SubL st' [(0, v0), (3, iv s45)]) (fun (p45_0 : Unit) R' H' st' => R = R' ∧ H = H' ∧ SubL st' [(0, v0)]) 0 rfl ⟨rfl, rfl, SubT.sub ⟨rfl, rfl, trivial⟩⟩ ?_ ?_
 rotate_right
 ·rintro s45 R45 H45 st45 ⟨rfl, rfl, hst45⟩ x45 hM again45 ex45_0
  refine At.sub hst45 ?_
  refine sq ?_
  refine sg rg4 ?_
  refine vs 2 ?_
  refine ls h0 Tryz.underlying25 ?_
  refine vs 1 ?_
  refine er ?_
  refine sc hM (fun ht60 hM => ?_) (fun ht60 hM => ?_)
  ·refine sp ?_
   refine sq ?_
   refine At.block ?_
   refine sq ?_
   refine At.dw rg10 mixed ?_
   refine Any.vs 2 [0, 1] rfl ?_
   obtain ⟨x61, hx61, hM⟩ := bnd hM
   obtain ⟨x62, hx62, hM⟩ := bnd hM
   obtain ⟨bx61, ox61, _, rfl, hcx61, hix61⟩ := h0.elem slice25 hx61
   refine Any.tk 2 rfl pp (fun R' H' hR hS => Ox.indexV rfl rfl rfl hix61 rfl (.one rfl) ⟨rfl, rfl, rfl⟩) ?_
   refine Any.tk 3 rfl pp (fun R' H' hR hS => Ox.load1 rfl rfl one3 ((hcx61.up hR).one (j := 0) rfl) rfl (.one rfl) ⟨rfl, rfl, rfl⟩) ?_
   refine Any.vs 3 [4, 5, 6] rfl ?_
   obtain ⟨bx62, ox62, _, rfl, hcx62, hix62⟩ := h0.elem slice25 hx62
   refine Any.tk 7 rfl pp (fun R' H' hR hS => Ox.indexV rfl rfl rfl hix62 rfl (.one rfl) ⟨rfl, rfl, rfl⟩) ?_
   refine Any.tk 8 rfl pp (fun R' H' hR hS => Ox.load1 rfl rfl one3 ((hcx62.up hR).one (j := 0) rfl) rfl (.one rfl) ⟨rfl, rfl, rfl⟩) ?_
   refine Any.vs 1 [9] rfl ?_
   refine Any.done ?_
   refine sc hM (fun ht63 hM => ?_) (fun ht63 hM => ?_)
   ·refine sq ?_
    cases hM
   refine sp ?_
   refine At.inBlock ?_
   refine At.rg rg3 ?_
   refine vs 3 ?_
   refine er ?_
   exact again45 _ (sinj hM).symm _ _ _ ⟨rfl, rfl, SubT.sub ⟨rfl, rfl, trivial⟩⟩
  exact At.exit rfl (ex45_0 _ (sinj hM).symm _ _ _ ⟨rfl, rfl, SubT.sub ⟨rfl, trivial⟩⟩)
 rintro p45_0 R45_0 H45_0 st45_0 ⟨rfl, rfl, hst45_0⟩ hM
 refine At.sub hst45_0 ?_
 refine sg rg2 ?_
 refine vs 2 ?_
 refine er ?_
 obtain rfl := sinj hM
 exact rt Tryz.func156 (.tmp rfl .nil) sr (hk _ _ _ ⟨rfl, rfl, v0, h0, rfl⟩)
theorem m128_ok (x0 : Opened) (x1 : (Cargo → Option Int)) {v0_3 v0_4 v0_5 v0_6 v0_7 v1 : Value} (_ : SlR CHullPiece 5 R v0_3 x0.book.Pieces) (_ : SlR CZ 1 R v0_4 x0.book.Out) (_ : SlR CHullHeel 2 R v0_5 x0.book.Heels) (h0_6 : SlR CCargo 6 R v0_6 x0.alls) (_ : MapR R v0_7 x0.worsts) (h1 : FunR 𝒥 R H (VAgg CCargo) (VI .i64) v1 x1) {r : (List Int)} (hM : m128 x0 x1 = some r) : FnOk 𝒥 128 #[.agg #[iv x0.book.Limit, iv x0.book.Ballast.Least, iv x0.book.Ballast.Most, v0_3, v0_4, v0_5, v0_6, v0_7], v1] R H (fun v R' H' => RLe R R' ∧ H = H' ∧ ∃ vr0, SlR CZ 1 R' vr0 r ∧ v = vr0) := by
 unfold m128 at hM
 refine FnOk.of_at Tryz.func128 rfl (n := 26) rfl rfl fun fr cs hk => ?_
 refine sg rg2 ?_
 refine bx fun b49 => ?_
 refine vs 1 ?_
 refine nx rg1 ?_
 refine vs 1 ?_
 refine es ?_
 refine sg rg4 ?_
 refine vs 1 ?_
 refine ld 6 one103 z0 ?_
 refine ls h0_6 Tryz.underlying103 ?_
 refine vs 1 ?_
 refine er ?_
 refine At.block ?_
 refine At.drop (H' := H) (so sr) ?_
 refine At.loopE1 hM (fun (s50 : ((List Int) × Int)) R' H' st' => RLe R R' ∧ ∃ v50s_0 Hs50s_0, OwnSl CZ 1 3 R' v50s_0 s50.1 Hs50s_0 ∧ H' = Hs50s_0 ++ (H) ∧ SubL st' [(1, v1), (5, v50s_0), (9, v0_6), (10, iv (x0.alls.length : Int)), (11, iv s50.2)]) (fun (p50_0 : (List Int)) R' H' st' => RLe R R' ∧ ∃ v50_0_0 Hs50_0_0, OwnSl CZ 1 3 R' v50_0_0 p50_0 Hs50_0_0 ∧ H' = Hs50_0_0 ++ (H) ∧ SubL st' [(5, v50_0_0)]) 0 rfl ⟨rr, .slice none 0 0, [], OwnSl.nil, rfl, SubT.sub ⟨rfl, rfl, rfl, rfl, rfl, trivial⟩⟩ ?_ ?_
 rotate_right
 ·rintro s50 R50 H50 st50 ⟨hR50, v50s_0, Hs50s_0, ho50s_0, rfl, hst50⟩ x50 hM again50 ex50_0
  refine At.sub hst50 ?_
  replace h0_6 := h0_6.mono hR50
  replace h1 := h1.up hR50 pp
  refine sg rg1 ?_
  refine vs 1 ?_
  refine es ?_
  refine sc hM (fun ht69 hM => ?_) (fun ht69 hM => ?_)
  ·refine sp ?_
   refine sq ?_
   refine At.block ?_
   refine sg rg4 ?_
   obtain ⟨x70, hx70, hM⟩ := bnd hM
   obtain ⟨bx70, ox70, _, ⟨lx70_1, rfl⟩, hcx70, hix70⟩ := h0_6.elem slice103 hx70
   refine At.s rfl rfl (Ox.indexV rfl rfl rfl hix70 rfl (.put rfl) ?_)
   refine At.s rfl rfl (Ox.loadN (vs := _) rfl rfl agg125 (by simp [lx70_1]) (hcx70.any.part (j := 0) (n := 6) (take_all (by simp [lx70_1]))) rfl (.put rfl) ?_)
   refine At.s rfl rfl (Ox.alloc (cs := (List.toArray ([iv 0] ++ ([0, 0, 0, 0, 0].map (Value.int .i64) ++ [])))) rfl zero125 rfl fun b71 _ _ => ⟨_, (.put rfl), ?_⟩)
   refine At.s rfl rfl (Ox.storeN (cs' := _) rfl rfl rfl agg125 (by simp [lx70_1]) (ones_app (ones_cons rfl ones_nil) (ones_app (ones_map fun _ => rfl) ones_nil)) .here (by simp) (putCells_whole (by simp [lx70_1])) rfl (.refl _) ?_)
   refine er ?_
   refine At.rg rg7 ?_
   refine vs 2 ?_
   refine At.s rfl rfl (Ox.loadN (vs := _) rfl rfl agg125 (by simp [lx70_1]) ((CellsAt.box z0).part (j := 0) (n := 6) (take_all (by simp [lx70_1]))) rfl (.put rfl) ?_)
   obtain ⟨x72, hx72, hM⟩ := bnd hM
   refine At.step rfl rfl rfl (Ox.callFun h1 rfl rfl rfl ⟨_, rfl, ⟨lx70_1, rfl⟩⟩ hx72 rfl (su (so (subDrop sr))) ?_)
   rintro _ Rx72 hRx72 rfl
   replace h1 := h1.up hRx72 pp
   replace ho50s_0 := ho50s_0.mono hRx72
   refine ⟨_, (.put rfl), ?_⟩
   refine At.s rfl rfl (Ox.buildSlice (cells := #[_]) rfl elem25 rfl (by decide) base25_1 (fill_cons rfl rfl rfl rfl fill_nil) rfl fun b73 _ _ => ⟨_, (.put rfl), ?_⟩)
   obtain ⟨x74, hx74, hM⟩ := bnd hM
   refine At.s rfl rfl (Ox.append (K := CZ) (fun X => (b73, _) :: (b71, _) :: X ++ (H)) rfl rfl rfl app25 Tryz.underlying25 (by simp) (.cons (.cons .id)) ho50s_0 (ArgSl.lit z0 (Enc.le (Enc.cons (x := x72) rfl rfl Enc.nil) rfl) rfl) hx74 rfl fun vx74 Hsx74 hox74 => ⟨_, (.put rfl), ?_⟩)
   refine vs 1 ?_
   refine er ?_
   refine At.inBlock ?_
   refine At.rg rg2 ?_
   refine vs 2 ?_
   refine er ?_
   exact At.drop (so (so sr)) (again50 _ (sinj hM).symm _ _ _ ⟨(hR50.trans hRx72), vx74, Hsx74, hox74, rfl, SubT.sub ⟨rfl, rfl, rfl, rfl, rfl, trivial⟩⟩)
  exact At.exit rfl (ex50_0 _ (sinj hM).symm _ _ _ ⟨hR50, v50s_0, Hs50s_0, ho50s_0, rfl, SubT.sub ⟨rfl, trivial⟩⟩)
 rintro p50_0 R50_0 H50_0 st50_0 ⟨hR50_0, v50_0_0, Hs50_0_0, ho50_0_0, rfl, hst50_0⟩ hM
 refine At.sub hst50_0 ?_
 refine sg rg2 ?_
 refine vs 1 ?_
 obtain ⟨x75, hx75, hM⟩ := bnd hM
 refine At.step rfl rfl rfl (Ox.callV rfl rfl rfl rfl ent155 rfl rfl ((FnOk.hole (G := (fun X => X ++ (H))) .id (m155_ok p50_0 ho50_0_0 hx75)).mono ?_))
 rintro _ _ _ ⟨Hsx75, ⟨rfl, hox75, rfl⟩, rfl⟩
 refine ⟨_, (.put rfl), ?_⟩
 refine nx rg3 ?_
 refine vs 1 ?_
 refine At.freezeOwn (H2 := H) (fun X => X ++ (H)) .id rfl hox75 (fun Rf77 hRf77 hf77 => ?_)
 obtain ⟨x76, hx76, hM⟩ := bnd hM
 refine At.cv ent156 (m156_ok x75 hf77 hx76) ?_
 rintro vx76r0 _ _ ⟨rfl, rfl, _, hx76r0, rfl⟩
 refine vs 1 ?_
 refine er ?_
 obtain rfl := sinj hM
 exact rt Tryz.func128 (.tmp rfl .nil) sr (hk _ _ _ ⟨(hR50_0.trans hRf77), rfl, vx76r0, hx76r0, rfl⟩)
theorem m129_ok (x0 : Cargo) (x1 : Int) {b1 : Nat} (l0_1 : x0.weights.length = 5) (hc1 : CellsAt R H b1 0 [iv x1]) {r : Int} (hM : m129 x0 x1 = some r) : FnOk 𝒥 129 #[.agg (List.toArray ([iv x0.ballast] ++ (x0.weights.map (Value.int .i64) ++ []))), .pointer (some ⟨b1, 0, none⟩)] R H (fun v R' H' => R = R' ∧ H = H' ∧ v = iv r) := by
 unfold m129 at hM
 refine FnOk.of_at Tryz.func129 rfl (n := 8) rfl rfl fun fr cs hk => ?_
 refine sg rg2 ?_
 refine bx fun b22 => ?_
 refine vs 1 ?_
 refine nx rg5 ?_
 refine At.ld one3 ((hc1.sub (su (so sr))).one (j := 0) rfl) ?_
 refine vs 1 ?_
 obtain ⟨x23, hx23, hM⟩ := bnd hM
 refine At.s rfl rfl (Ox.indexV rfl rfl rfl (idxArr' array123 l0_1 hx23) rfl (.put rfl) ?_)
 refine At.ld one3 ((CellsAt.box z0).arr hx23 rfl) ?_
 refine vs 1 ?_
 refine er ?_
 obtain rfl := sinj hM
 exact rt Tryz.func129 (.tmp rfl .nil) (so sr) (hk _ _ _ ⟨rfl, rfl, rfl⟩)
theorem m43_ok (x0 : HullBook) (x1 : Int) {v0_3 v0_4 v0_5 : Value} (hG : GOk R) (h0_3 : SlR CHullPiece 5 R v0_3 x0.Pieces) (h0_4 : SlR CZ 1 R v0_4 x0.Out) (h0_5 : SlR CHullHeel 2 R v0_5 x0.Heels) {r : ((List Int) × Int)} (hM : m43 x0 x1 = some r) : FnOk 𝒥 43 #[.agg #[iv x0.Limit, iv x0.Ballast.Least, iv x0.Ballast.Most, v0_3, v0_4, v0_5], iv x1] R H (fun v R' H' => RLe R R' ∧ H = H' ∧ ∃ vr0, SlR CZ 1 R' vr0 r.1 ∧ v = .tuple #[vr0, iv r.2]) := by
 unfold m43 at hM
 refine FnOk.of_at Tryz.func43 rfl (n := 20) rfl rfl fun fr cs hk => ?_
 refine sg rg4 ?_
 refine bx fun b27 => ?_
 refine At.s rfl rfl (Ox.box1 rfl rfl rfl rfl fun b28 _ _ => ⟨_, (.put rfl), ?_⟩)
 refine vs 2 ?_
 refine nx rg9 ?_
 refine lN [_, _, _, _, _, _] 0 6 agg28 z1 ?_
 refine At.s rfl rfl (Ox.makeFunc (vs := #[]) (us := #[_]) rfl rfl rfl rfl (.put rfl) ?_)
 obtain ⟨x29, hx29, hM⟩ := bnd hM
 refine At.cv ent89 (m89_ok x0 (fun y => m127 y x1) hG h0_3 h0_4 h0_5 ⟨127, #[], #[_], rfl, ent127, fun R' H' hR hH y r va hA hr => by obtain ⟨_, rfl, ⟨vy_3, vy_4, vy_5, hy_3, hy_4, hy_5, rfl⟩⟩ := hA; exact (m127_ok y x1 hy_3 hy_4 hy_5 (CellsAt.box (hH _ z0)) hr).mono fun _ _ _ ⟨h1, h2, h3⟩ => ⟨h1 ▸ rr, h2.symm, h3⟩⟩ hx29) ?_
 rintro _ Rx29 _ ⟨hRx29, Hsx29, vx29r0_3, vx29r0_4, vx29r0_5, vx29r0_6, vx29r0_7, hx29r0_3, hx29r0_4, hx29r0_5, hx29r0_6, hx29r0_7, rfl, rfl⟩
 refine vs 3 ?_
 refine At.s rfl rfl (Ox.alloc (cs := #[iv 0, iv 0, iv 0, .slice none 0 0, .slice none 0 0, .slice none 0 0, .slice none 0 0, .map none]) rfl zero106 rfl fun b30 _ _ => ⟨_, (.put rfl), ?_⟩)
 refine At.s rfl rfl (Ox.storeN (cs' := #[_, _, _, _, _, _, _, _]) rfl rfl rfl agg106 rfl (ones_cons rfl (ones_cons rfl (ones_cons rfl (ones_cons hx29r0_3.one (ones_cons hx29r0_4.one (ones_cons hx29r0_5.one (ones_cons hx29r0_6.one (ones_cons hx29r0_7.one ones_nil)))))))) .here rfl rfl rfl (.refl _) ?_)
 refine vs 1 ?_
 refine es ?_
 refine sg rg2 ?_
 refine vs 2 ?_
 refine er ?_
 refine sc hM (fun ht31 hM => ?_) (fun ht31 hM => ?_)
 ·refine sg rg3 ?_
  refine vs 3 ?_
  refine er ?_
  obtain rfl := sinj hM
  exact rt Tryz.func43 (.tmp rfl (.tmp rfl .nil)) (so (subDrop (so (so sr)))) (hk _ _ _ ⟨hRx29, rfl, .slice none 0 0, SlR.nil, rfl⟩)
 refine sp ?_
 refine sg rg5 ?_
 refine lN [_, _, _, _, _, _, _, _] 0 8 agg106 z0 ?_
 refine At.s rfl rfl (Ox.makeFunc (vs := #[]) (us := #[_]) rfl rfl rfl rfl (.put rfl) ?_)
 refine At.freezeMap (H2 := (b30, _) :: (b28, _) :: (b27, _) :: H) (fun X => (b30, _) :: X ++ ((b28, _) :: (b27, _) :: H)) (.cons .id) rfl hx29r0_7 (fun Rf33 hRf33 hf33 => ?_)
 replace hx29r0_3 := hx29r0_3.mono hRf33
 replace hx29r0_4 := hx29r0_4.mono hRf33
 replace hx29r0_5 := hx29r0_5.mono hRf33
 replace hx29r0_6 := hx29r0_6.mono hRf33
 obtain ⟨x32, hx32, hM⟩ := bnd hM
 refine At.cv ent128 (m128_ok x29.1 (fun y => m129 y x1) hx29r0_3 hx29r0_4 hx29r0_5 hx29r0_6 hf33 ⟨129, #[], #[_], rfl, ent129, fun R' H' hR hH y r va hA hr => by obtain ⟨_, rfl, ⟨ly_1, rfl⟩⟩ := hA; exact (m129_ok y x1 ly_1 (CellsAt.box (hH _ z1)) hr).mono fun _ _ _ ⟨h1, h2, h3⟩ => ⟨h1 ▸ rr, h2.symm, h3⟩⟩ hx32) ?_
 rintro vx32r0 Rx32 _ ⟨hRx32, rfl, _, hx32r0, rfl⟩
 refine vs 2 ?_
 refine er ?_
 obtain rfl := sinj hM
 exact rt Tryz.func43 (.tmp rfl (.tmp rfl .nil)) (so (so (so sr))) (hk _ _ _ ⟨((hRx29.trans hRf33).trans hRx32), rfl, vx32r0, hx32r0, rfl⟩)
theorem m44_ok (x0 : HullBook) {v0_3 v0_4 v0_5 : Value} (hG : GOk R) (h0_3 : SlR CHullPiece 5 R v0_3 x0.Pieces) (h0_4 : SlR CZ 1 R v0_4 x0.Out) (h0_5 : SlR CHullHeel 2 R v0_5 x0.Heels) {r : (Int × Int)} (hM : m44 x0 = some r) : FnOk 𝒥 44 #[.agg #[iv x0.Limit, iv x0.Ballast.Least, iv x0.Ballast.Most, v0_3, v0_4, v0_5]] R H (fun v R' H' => RLe R R' ∧ H = H' ∧ v = .tuple #[iv r.1, iv r.2]) := by
 unfold m44 at hM
 refine FnOk.of_at Tryz.func44 rfl (n := 18) rfl rfl fun fr cs hk => ?_
 refine sg rg3 ?_
 refine bx fun b27 => ?_
 refine vs 2 ?_
 refine es ?_
 refine sg rg3 ?_
 refine lN [_, _, _, _, _, _] 0 6 agg28 z0 ?_
 obtain ⟨x28, hx28, hM⟩ := bnd hM
 refine At.cv ent83 (m83_ok x0 hG h0_3 h0_4 h0_5 hx28) ?_
 rintro _ Rx28 _ ⟨hRx28, rfl, rfl⟩
 replace h0_3 := h0_3.mono hRx28
 replace h0_4 := h0_4.mono hRx28
 replace h0_5 := h0_5.mono hRx28
 refine vs 1 ?_
 refine nx rg2 ?_
 refine vs 2 ?_
 refine er ?_
 refine sc hM (fun ht31 hM => ?_) (fun ht31 hM => ?_)
 ·refine sg rg3 ?_
  refine vs 3 ?_
  refine er ?_
  obtain rfl := sinj hM
  exact rt Tryz.func44 (.tmp rfl (.tmp rfl .nil)) (so sr) (hk _ _ _ ⟨hRx28, rfl, rfl⟩)
 refine sp ?_
 refine sg rg2 ?_
 refine At.s rfl rfl (Ox.alloc (cs := #[iv 0]) rfl zero3 rfl fun b32 _ _ => ⟨_, (.put rfl), ?_⟩)
 refine At.s rfl rfl (Ox.store1 (cs' := #[_]) rfl rfl rfl one3 rfl .here rfl rfl rfl (.refl _) ?_)
 refine es ?_
 refine sg rg3 ?_
 refine lN [_, _, _, _, _, _] 0 6 agg28 z1 ?_
 refine At.s rfl rfl (Ox.build (cells := #[_, _, _, _, _, _]) rfl struct102 rfl (fill_cons rfl rfl rfl rfl fill_nil) rfl (.put rfl) ?_)
 refine At.s rfl rfl (Ox.makeFunc (vs := #[_]) (us := #[]) rfl rfl rfl rfl (.put rfl) ?_)
 refine er ?_
 refine At.block ?_
 refine At.drop (H' := (b32, .cells #[iv 0] 3) :: H) (sk (so sr)) ?_
 refine At.rangeF0 (A := (VAgg CCargo)) (fun y s => m130 y (⟨x0.Limit, ⟨x0.Ballast.Least, x0.Ballast.Most⟩, x0.Pieces, x0.Out, x0.Heels⟩ : HullBook) s)  hM rfl ent130 rfl rfl rfl (fun (s33 : Int) R' T H' => RLe Rx28 R' ∧ H' = (b32, .cells #[iv s33] 3) :: T)  (fun s33 R0 T0 H0 q => by obtain ⟨hR, rfl⟩ := q; exact ⟨(b32, .cells #[iv s33] 3) :: [], by simp, fun R1 T1 h => ⟨hR.trans h, by simp⟩⟩)  (fun v Inv Hy z hY hI hz => (m130_ok hY (⟨x0.Limit, ⟨x0.Ballast.Least, x0.Ballast.Most⟩, x0.Pieces, x0.Out, x0.Heels⟩ : HullBook) hI h0_3 h0_4 h0_5 hz).mono fun _ _ _ h => ⟨h.1, h.2.1⟩) ⟨rr, rfl⟩ ?_ ?_
 ·rintro r33 s33 R33 H33q _ ⟨hR33, rfl⟩ hM
  refine At.inBlock ?_
  refine sg rg3 ?_
  refine ld 0 one3 z0 ?_
  refine vs 2 ?_
  refine er ?_
  obtain rfl := sinj hM
  exact At.retD (.there .here) Tryz.func44 (.tmp rfl (.tmp rfl .nil)) (J.drop (so (so sr)) (hk _ _ _ ⟨(hRx28.trans hR33), rfl, rfl⟩))
 rintro va33 x33e s33 R33 T33 H33 l33 ld33 cs33 _ hT33 ⟨_, rfl, ⟨lx33e_1, rfl⟩⟩ ⟨hR33, rfl⟩ hld33 z33 hM again33
 refine sp ?_
 refine At.beginRound rfl rfl (.there .here) hld33 ?_
 refine At.block ?_
 refine At.rg rg3 ?_
 refine ld 0 one3 z0 ?_
 refine vs 1 ?_
 refine At.s rfl rfl (Ox.store1 (cs' := #[_]) rfl rfl rfl one3 rfl .here rfl rfl rfl (.refl _) ?_)
 refine er ?_
 refine At.inBlock ?_
 exact again33 _ (sinj hM).symm _ _ _ (rr) ⟨hR33, rfl⟩
theorem m72_ok (x0 : Int) (x1 : Int)  {r : Reach} (hM : m72 x0 x1 = some r) : FnOk 𝒥 72 #[iv x0, iv x1] R H (fun v R' H' => R = R' ∧ H = H' ∧ v = .agg #[iv r.Least, iv r.Most]) := by
 unfold m72 at hM
 refine FnOk.of_at Tryz.func72 rfl (n := 8) rfl rfl fun fr cs hk => ?_
 refine sg rg1 ?_
 refine At.s rfl rfl (Ox.alloc (cs := #[iv 0, iv 0]) rfl zero23 rfl fun b21 _ _ => ⟨_, (.put rfl), ?_⟩)
 refine nx rg4 ?_
 refine vs 2 ?_
 refine At.s rfl rfl (Ox.build (cells := #[_, _]) rfl struct23 rfl (fill_cons rfl rfl rfl rfl (fill_cons rfl rfl rfl rfl fill_nil)) rfl (.put rfl) ?_)
 refine At.s rfl rfl (Ox.storeN (cs' := #[_, _]) rfl rfl rfl agg23 rfl (ones_cons rfl (ones_cons rfl ones_nil)) .here rfl rfl rfl (.refl _) ?_)
 refine er ?_
 obtain rfl := sinj hM
 exact rt Tryz.func72 (.agg rfl agg23 rfl (CellsAt.box z0) .nil) (so sr) (hk _ _ _ ⟨rfl, rfl, rfl⟩)
theorem m45_ok (x0 : Int)  {r : Reach} (hM : m45 x0 = some r) : FnOk 𝒥 45 #[iv x0] R H (fun v R' H' => R = R' ∧ H = H' ∧ v = .agg #[iv r.Least, iv r.Most]) := by
 unfold m45 at hM
 refine FnOk.of_at Tryz.func45 rfl (n := 6) rfl rfl fun fr cs hk => ?_
 refine sg rg1 ?_
 refine At.s rfl rfl (Ox.alloc (cs := #[iv 0, iv 0]) rfl zero23 rfl fun b22 _ _ => ⟨_, (.put rfl), ?_⟩)
 refine nx rg4 ?_
 refine vs 2 ?_
 obtain ⟨x23, hx23, hM⟩ := bnd hM
 refine At.cv ent72 (m72_ok x0 x0  hx23) ?_
 rintro _ _ _ ⟨rfl, rfl, rfl⟩
 refine At.s rfl rfl (Ox.storeN (cs' := #[_, _]) rfl rfl rfl agg23 rfl (ones_cons rfl (ones_cons rfl ones_nil)) .here rfl rfl rfl (.refl _) ?_)
 refine er ?_
 obtain rfl := sinj hM
 exact rt Tryz.func45 (.agg rfl agg23 rfl (CellsAt.box z0) .nil) (so sr) (hk _ _ _ ⟨rfl, rfl, rfl⟩)
theorem m159_ok (x0 : Int)  {r : Bool} (hM : m159 x0 = some r) : FnOk 𝒥 159 #[iv x0] R H (fun v R' H' => R = R' ∧ H = H' ∧ v = .bool r) := by
 unfold m159 at hM
 refine FnOk.of_at Tryz.func159 rfl (n := 6) rfl rfl fun fr cs hk => ?_
 refine sg rg1 ?_
 refine vs 1 ?_
 refine nx rg4 ?_
 refine vs 1 ?_
 obtain ⟨x21, hx21, hM⟩ := bnd hM
 refine At.cv ent154 (m154_ok x0 0 99  hx21) ?_
 rintro _ _ _ ⟨rfl, rfl, rfl⟩
 refine vs 2 ?_
 refine er ?_
 obtain rfl := sinj hM
 exact rt Tryz.func159 (.tmp rfl .nil) sr (hk _ _ _ ⟨rfl, rfl, rfl⟩)
theorem m131_ok (x0 : HullBook) (x1 : HullCase) {v0_3 v0_4 v0_5 v1_1 : Value} (h0_3 : SlR CHullPiece 5 R v0_3 x0.Pieces) (_ : SlR CZ 1 R v0_4 x0.Out) (_ : SlR CHullHeel 2 R v0_5 x0.Heels) (h1_1 : SlR CZ 1 R v1_1 x1.Weights) {r : (Cargo × Int)} (hM : m131 x0 x1 = some r) : FnOk 𝒥 131 #[.agg #[iv x0.Limit, iv x0.Ballast.Least, iv x0.Ballast.Most, v0_3, v0_4, v0_5], .agg #[iv x1.Ballast, v1_1]] R H (fun v R' H' => RLe R R' ∧ H = H' ∧ r.1.weights.length = 5 ∧ v = .tuple #[.agg (List.toArray ([iv r.1.ballast] ++ (r.1.weights.map (Value.int .i64) ++ []))), iv r.2]) := by
 unfold m131 at hM
 refine FnOk.of_at Tryz.func131 rfl (n := 37) rfl rfl fun fr cs hk => ?_
 refine sg rg4 ?_
 refine bx fun b41 => ?_
 refine bx fun b42 => ?_
 refine At.s rfl rfl (Ox.alloc (cs := (List.toArray ([iv 0] ++ ([0, 0, 0, 0, 0].map (Value.int .i64) ++ [])))) rfl zero125 rfl fun b43 _ _ => ⟨_, (.put rfl), ?_⟩)
 refine vs 1 ?_
 refine es ?_
 refine At.block ?_
 refine sg rg5 ?_
 refine vs 1 ?_
 refine ld 0 one3 z1 ?_
 obtain ⟨x44, hx44, hM⟩ := bnd hM
 refine At.cv ent154 (m154_ok x1.Ballast (-999) 999  hx44) ?_
 rintro _ _ _ ⟨rfl, rfl, rfl⟩
 refine vs 2 ?_
 refine er ?_
 refine sc hM (fun ht50 hM => ?_) (fun ht50 hM => ?_)
 ·refine sg rg3 ?_
  refine At.s rfl rfl (Ox.build (cells := (List.toArray ([iv 0] ++ ([0, 0, 0, 0, 0].map (Value.int .i64) ++ [])))) rfl struct125 rfl rfl rfl (.put rfl) ?_)
  refine At.s rfl rfl (Ox.storeN (cs' := _) rfl rfl rfl agg125 (by simp) (ones_app (ones_cons rfl ones_nil) (ones_app (ones_map fun _ => rfl) ones_nil)) .here (by simp) (putCells_whole (by simp [])) rfl (.refl _) ?_)
  refine vs 1 ?_
  refine er ?_
  obtain rfl := sinj hM
  exact rt Tryz.func131 (.agg rfl agg125 (by simp) (CellsAt.box z0) (.tmp rfl .nil)) (so (so (so sr))) (hk _ _ _ ⟨(rr), rfl, rfl, rfl⟩)
 refine sg rg9 ?_
 refine vs 1 ?_
 refine ld 1 one25 z1 ?_
 refine ls h1_1 Tryz.underlying25 ?_
 refine vs 2 ?_
 refine ld 3 one24 z2 ?_
 refine ls h0_3 Tryz.underlying24 ?_
 refine vs 2 ?_
 refine er ?_
 refine sc hM (fun ht55 hM => ?_) (fun ht55 hM => ?_)
 ·refine sg rg3 ?_
  refine At.s rfl rfl (Ox.build (cells := (List.toArray ([iv 0] ++ ([0, 0, 0, 0, 0].map (Value.int .i64) ++ [])))) rfl struct125 rfl rfl rfl (.put rfl) ?_)
  refine At.s rfl rfl (Ox.storeN (cs' := _) rfl rfl rfl agg125 (by simp) (ones_app (ones_cons rfl ones_nil) (ones_app (ones_map fun _ => rfl) ones_nil)) .here (by simp) (putCells_whole (by simp [])) rfl (.refl _) ?_)
  refine vs 1 ?_
  refine er ?_
  obtain rfl := sinj hM
  exact rt Tryz.func131 (.agg rfl agg125 (by simp) (CellsAt.box z0) (.tmp rfl .nil)) (so (so (so sr))) (hk _ _ _ ⟨(rr), rfl, rfl, rfl⟩)
 refine sg rg4 ?_
 refine vs 1 ?_
 refine ld 1 one25 z1 ?_
 obtain ⟨x56, hx56, hM⟩ := bnd hM
 refine At.cv ent158 (m158_ok x1.Weights (fun y => m159 y) h1_1.rd ⟨159, #[], #[], rfl, ent159, fun R' H' hR hH y r va hA hr => by obtain rfl := hA; exact (m159_ok y  hr).mono fun _ _ _ ⟨h1, h2, h3⟩ => ⟨h1 ▸ rr, h2.symm, h3⟩⟩ hx56) ?_
 rintro _ Rx56 _ ⟨hRx56, rfl, rfl⟩
 replace h1_1 := h1_1.mono hRx56
 refine vs 1 ?_
 refine er ?_
 refine sc hM (fun ht59 hM => ?_) (fun ht59 hM => ?_)
 ·refine sg rg3 ?_
  refine At.s rfl rfl (Ox.build (cells := (List.toArray ([iv 0] ++ ([0, 0, 0, 0, 0].map (Value.int .i64) ++ [])))) rfl struct125 rfl rfl rfl (.put rfl) ?_)
  refine At.s rfl rfl (Ox.storeN (cs' := _) rfl rfl rfl agg125 (by simp) (ones_app (ones_cons rfl ones_nil) (ones_app (ones_map fun _ => rfl) ones_nil)) .here (by simp) (putCells_whole (by simp [])) rfl (.refl _) ?_)
  refine vs 1 ?_
  refine er ?_
  obtain rfl := sinj hM
  exact rt Tryz.func131 (.agg rfl agg125 (by simp) (CellsAt.box z0) (.tmp rfl .nil)) (so (so (so sr))) (hk _ _ _ ⟨hRx56, rfl, rfl, rfl⟩)
 refine sp ?_
 refine At.inBlock ?_
 refine sg rg5 ?_
 refine vs 1 ?_
 refine ld 0 one3 z1 ?_
 refine At.s rfl rfl (Ox.build (cells := (List.toArray ([iv x1.Ballast] ++ ([0, 0, 0, 0, 0].map (Value.int .i64) ++ [])))) rfl struct125 rfl rfl rfl (.put rfl) ?_)
 refine At.s rfl rfl (Ox.alloc (cs := (List.toArray ([iv 0] ++ ([0, 0, 0, 0, 0].map (Value.int .i64) ++ [])))) rfl zero125 rfl fun b60 _ _ => ⟨_, (.put rfl), ?_⟩)
 refine At.s rfl rfl (Ox.storeN (cs' := _) rfl rfl rfl agg125 (by simp) (ones_app (ones_cons rfl ones_nil) (ones_app (ones_map fun _ => rfl) ones_nil)) .here (by simp) (putCells_whole (by simp [])) rfl (.refl _) ?_)
 refine es ?_
 refine At.draw (n := 5) (is := [0, 1, 2, 3, 4]) (many ((b60, .cells (List.toArray ([iv x1.Ballast] ++ ([0, 0, 0, 0, 0].map (Value.int .i64) ++ []))) 125) :: (b43, .cells (List.toArray ([iv 0] ++ ([0, 0, 0, 0, 0].map (Value.int .i64) ++ []))) 125) :: (b42, .cells #[iv x1.Ballast, v1_1] 66) :: (b41, .cells #[iv x0.Limit, iv x0.Ballast.Least, iv x0.Ballast.Most, v0_3, v0_4, v0_5] 102) :: H) [(4, (b43, .cells (List.toArray ([iv 0] ++ ([0, 0, 0, 0, 0].map (Value.int .i64) ++ []))) 125) :: (b42, .cells #[iv x1.Ballast, v1_1] 66) :: (b41, .cells #[iv x0.Limit, iv x0.Ballast.Least, iv x0.Ballast.Most, v0_3, v0_4, v0_5] 102) :: H)]) mixed rfl (by decide +kernel) rfl rfl ?_
 refine Any.vs 1 [0] rfl ?_
 refine ts 1 [4] rfl (many_skip rfl (many_nil (su (so (so (so (so sr))))))) (su (so (so (so (so sr))))) (fun R' H' hR hS => Ox.sliceArr rfl rfl array123 rfl (.one rfl) ⟨rfl, rfl, rfl⟩) ?_
 refine Any.vs 1 [2] rfl ?_
 refine ts 3 [4] rfl (many_skip rfl (many_nil (su (so (so (sk (so sr))))))) (su (so (so (sk (so sr))))) (fun R' H' hR hS => Ox.load1 rfl rfl one25 ((CellsAt.box (hS _ z0)).one (j := 1) rfl) rfl (.one rfl) ⟨rfl, rfl, rfl⟩) ?_
 refine Any.on 4 rfl rfl (SemTo.to (Ox.copyArr rfl rfl rfl slice25 Tryz.underlying25 h1_1.rd rfl .here rfl rfl (.put rfl) ⟨rr, (many_at rfl (su (so sr))), ?_⟩))
 refine Any.done ?_
 refine sg rg3 ?_
 refine At.s rfl rfl (Ox.loadN (vs := _) rfl rfl agg125 (by simp [(copyL_len rfl)]) ((CellsAt.box z0).part (j := 0) (n := 6) (take_all (by simp [(copyL_len rfl)]))) rfl (.put rfl) ?_)
 refine At.s rfl rfl (Ox.storeN (cs' := _) rfl rfl rfl agg125 (by simp [(copyL_len rfl)]) (ones_app (ones_cons rfl ones_nil) (ones_app (ones_map fun _ => rfl) ones_nil)) (.there .here) (by simp) (putCells_whole (by simp [(copyL_len rfl)])) rfl (.refl _) ?_)
 refine vs 1 ?_
 refine er ?_
 obtain rfl := sinj hM
 exact rt Tryz.func131 (.agg rfl agg125 (by simp [(copyL_len rfl)]) (CellsAt.box z1) (.tmp rfl .nil)) (so (so (so (so sr)))) (hk _ _ _ ⟨hRx56, rfl, (copyL_len rfl), rfl⟩)
theorem m50_ok (x0 : HullBook) (x1 : HullCase) (x2 : (List Int)) {v0_3 v0_4 v0_5 v1_1 v2 : Value} (hG : GOk R) (h0_3 : SlR CHullPiece 5 R v0_3 x0.Pieces) (h0_4 : SlR CZ 1 R v0_4 x0.Out) (h0_5 : SlR CHullHeel 2 R v0_5 x0.Heels) (h1_1 : SlR CZ 1 R v1_1 x1.Weights) (h2 : RdS CZ 1 R H v2 x2) {r : (Int × Int)} (hM : m50 x0 x1 x2 = some r) : FnOk 𝒥 50 #[.agg #[iv x0.Limit, iv x0.Ballast.Least, iv x0.Ballast.Most, v0_3, v0_4, v0_5], .agg #[iv x1.Ballast, v1_1], v2] R H (fun v R' H' => RLe R R' ∧ H = H' ∧ v = .tuple #[iv r.1, iv r.2]) := by
 unfold m50 at hM
 refine FnOk.of_at Tryz.func50 rfl (n := 43) rfl rfl fun fr cs hk => ?_
 refine sg rg4 ?_
 refine bx fun b38 => ?_
 refine bx fun b39 => ?_
 refine vs 2 ?_
 refine es ?_
 refine sg rg3 ?_
 refine lN [_, _, _, _, _, _] 0 6 agg28 z1 ?_
 obtain ⟨x40, hx40, hM⟩ := bnd hM
 refine At.cv ent83 (m83_ok x0 hG h0_3 h0_4 h0_5 hx40) ?_
 rintro _ Rx40 _ ⟨hRx40, rfl, rfl⟩
 replace h0_3 := h0_3.mono hRx40
 replace h0_4 := h0_4.mono hRx40
 replace h0_5 := h0_5.mono hRx40
 replace h1_1 := h1_1.mono hRx40
 replace h2 := h2.le hRx40
 refine vs 1 ?_
 refine nx rg2 ?_
 refine vs 2 ?_
 refine er ?_
 refine sc hM (fun ht43 hM => ?_) (fun ht43 hM => ?_)
 ·refine sg rg3 ?_
  refine vs 3 ?_
  refine er ?_
  obtain rfl := sinj hM
  exact rt Tryz.func50 (.tmp rfl (.tmp rfl .nil)) (so (so sr)) (hk _ _ _ ⟨hRx40, rfl, rfl⟩)
 refine sp ?_
 refine sg rg4 ?_
 refine lN [_, _, _, _, _, _] 0 6 agg28 z1 ?_
 refine At.s rfl rfl (Ox.build (cells := #[_, _, _, _, _, _]) rfl struct102 rfl (fill_cons rfl rfl rfl rfl fill_nil) rfl (.put rfl) ?_)
 refine At.s rfl rfl (Ox.alloc (cs := #[iv 0, iv 0, iv 0, .slice none 0 0, .slice none 0 0, .slice none 0 0]) rfl zero102 rfl fun b44 _ _ => ⟨_, (.put rfl), ?_⟩)
 refine At.s rfl rfl (Ox.storeN (cs' := #[_, _, _, _, _, _]) rfl rfl rfl agg102 rfl (ones_cons rfl (ones_cons rfl (ones_cons rfl (ones_cons h0_3.one (ones_cons h0_4.one (ones_cons h0_5.one ones_nil)))))) .here rfl rfl rfl (.refl _) ?_)
 refine nx rg9 ?_
 refine lN [_, _, _, _, _, _] 0 6 agg102 z0 ?_
 refine lN [_, _] 0 2 agg66 z1 ?_
 obtain ⟨x45, hx45, hM⟩ := bnd hM
 refine At.cv ent131 (m131_ok x0 x1 h0_3 h0_4 h0_5 h1_1 hx45) ?_
 rintro _ Rx45 _ ⟨hRx45, rfl, lx45r0_1, rfl⟩
 replace h0_3 := h0_3.mono hRx45
 replace h0_4 := h0_4.mono hRx45
 replace h0_5 := h0_5.mono hRx45
 replace h2 := h2.le hRx45
 refine vs 3 ?_
 refine At.s rfl rfl (Ox.alloc (cs := (List.toArray ([iv 0] ++ ([0, 0, 0, 0, 0].map (Value.int .i64) ++ [])))) rfl zero125 rfl fun b46 _ _ => ⟨_, (.put rfl), ?_⟩)
 refine At.s rfl rfl (Ox.storeN (cs' := _) rfl rfl rfl agg125 (by simp [lx45r0_1]) (ones_app (ones_cons rfl ones_nil) (ones_app (ones_map fun _ => rfl) ones_nil)) .here (by simp) (putCells_whole (by simp [lx45r0_1])) rfl (.refl _) ?_)
 refine vs 1 ?_
 refine es ?_
 refine sg rg2 ?_
 refine vs 2 ?_
 refine er ?_
 refine sc hM (fun ht49 hM => ?_) (fun ht49 hM => ?_)
 ·refine sg rg3 ?_
  refine vs 3 ?_
  refine er ?_
  obtain rfl := sinj hM
  exact rt Tryz.func50 (.tmp rfl (.tmp rfl .nil)) (so (so (so (so sr)))) (hk _ _ _ ⟨(hRx40.trans hRx45), rfl, rfl⟩)
 refine sp ?_
 refine sq ?_
 refine sg rg6 ?_
 refine vs 2 ?_
 refine ld 3 one24 z3 ?_
 refine ls h0_3 Tryz.underlying24 ?_
 obtain ⟨x50, hx50, hM⟩ := bnd hM
 refine At.cv ent132 (m132_ok x2 (x0.Pieces.length : Int) (h2.sub (su (so (so (so (so sr)))))) hx50) ?_
 rintro _ _ _ ⟨rfl, rfl, rfl⟩
 refine vs 1 ?_
 refine nx rg2 ?_
 refine vs 2 ?_
 refine er ?_
 refine sc hM (fun ht53 hM => ?_) (fun ht53 hM => ?_)
 ·refine sg rg3 ?_
  refine vs 3 ?_
  refine er ?_
  obtain rfl := sinj hM
  exact rt Tryz.func50 (.tmp rfl (.tmp rfl .nil)) (so (so (so (so sr)))) (hk _ _ _ ⟨(hRx40.trans hRx45), rfl, rfl⟩)
 refine sp ?_
 refine sq ?_
 refine At.dw rg8 mixed ?_
 refine tN 0 [_, _, _, _, _, _] 0 6 agg102 z1 ?_
 refine Any.tk 1 rfl pp (fun R' H' hR hS => Ox.loadN (vs := _) rfl rfl agg125 (by simp [lx45r0_1]) ((CellsAt.box (hS _ z0)).part (j := 0) (n := 6) (take_all (by simp [lx45r0_1]))) rfl (.one rfl) ⟨rfl, rfl, rfl⟩) ?_
 refine Any.tk 2 rfl pp (fun R' H' hR hS => Ox.buildZ (z := (List.toArray ([] ++ ([false, false, false, false, false].map Value.bool ++ [])))) rfl arrz112 rfl (.one rfl) ⟨rfl, rfl, rfl⟩) ?_
 refine Any.vs 1 [3] rfl ?_
 obtain ⟨x54, hx54, hM⟩ := bnd hM
 refine Any.cv 4 ent93 (m93_ok [false, false, false, false, false] x2 rfl (h2.sub (su (so (so (so (so sr)))))) hx54) ?_
 rintro _ _ _ ⟨rfl, rfl, lx54r0, rfl⟩
 refine kp ?_
 obtain ⟨x55, hx55, hM⟩ := bnd hM
 refine Any.cv 5 ent104 (m104_ok x0 x45.1 x54 h0_3 h0_4 h0_5 lx45r0_1 lx54r0 hx55) ?_
 rintro _ _ _ ⟨rfl, rfl, rfl⟩
 refine kp ?_
 refine Any.vs 2 [6, 7] rfl ?_
 refine Any.done ?_
 obtain rfl := sinj hM
 exact rt Tryz.func50 (.tmp rfl (.tmp rfl .nil)) (so (so (so (so sr)))) (hk _ _ _ ⟨(hRx40.trans hRx45), rfl, rfl⟩)
theorem m53_ok (x0 : HullBook) {v0_3 v0_4 v0_5 : Value} (hG : GOk R) (h0_3 : SlR CHullPiece 5 R v0_3 x0.Pieces) (h0_4 : SlR CZ 1 R v0_4 x0.Out) (h0_5 : SlR CHullHeel 2 R v0_5 x0.Heels) {r : ((List Int) × Int)} (hM : m53 x0 = some r) : FnOk 𝒥 53 #[.agg #[iv x0.Limit, iv x0.Ballast.Least, iv x0.Ballast.Most, v0_3, v0_4, v0_5]] R H (fun v R' H' => RLe R R' ∧ H = H' ∧ ∃ vr0, SlR CZ 1 R' vr0 r.1 ∧ v = .tuple #[vr0, iv r.2]) := by
 unfold m53 at hM
 refine FnOk.of_at Tryz.func53 rfl (n := 17) rfl rfl fun fr cs hk => ?_
 refine sg rg3 ?_
 refine bx fun b27 => ?_
 refine vs 2 ?_
 refine es ?_
 refine sg rg3 ?_
 refine lN [_, _, _, _, _, _] 0 6 agg28 z0 ?_
 obtain ⟨x28, hx28, hM⟩ := bnd hM
 refine At.cv ent83 (m83_ok x0 hG h0_3 h0_4 h0_5 hx28) ?_
 rintro _ Rx28 _ ⟨hRx28, rfl, rfl⟩
 replace h0_3 := h0_3.mono hRx28
 replace h0_4 := h0_4.mono hRx28
 replace h0_5 := h0_5.mono hRx28
 refine vs 1 ?_
 refine nx rg2 ?_
 refine vs 2 ?_
 refine er ?_
 refine sc hM (fun ht31 hM => ?_) (fun ht31 hM => ?_)
 ·refine sg rg3 ?_
  refine vs 3 ?_
  refine er ?_
  obtain rfl := sinj hM
  exact rt Tryz.func53 (.tmp rfl (.tmp rfl .nil)) (so sr) (hk _ _ _ ⟨hRx28, rfl, .slice none 0 0, SlR.nil, rfl⟩)
 refine sp ?_
 refine sq ?_
 refine At.dw rg9 mixed ?_
 refine tN 0 [_, _, _, _, _, _] 0 6 agg28 z0 ?_
 refine Any.tk 1 rfl pp (fun R' H' hR hS => Ox.build (cells := #[_, _, _, _, _, _]) rfl struct102 rfl (fill_cons rfl rfl rfl rfl fill_nil) rfl (.one rfl) ⟨rfl, rfl, rfl⟩) ?_
 refine Any.tk 2 rfl pp (fun R' H' hR hS => Ox.buildZ (z := (List.toArray ([] ++ ([false, false, false, false, false].map Value.bool ++ [])))) rfl arrz112 rfl (.one rfl) ⟨rfl, rfl, rfl⟩) ?_
 refine Any.vs 1 [3] rfl ?_
 refine tl 4 4 one25 z0 ?_
 obtain ⟨x32, hx32, hM⟩ := bnd hM
 refine Any.cv 5 ent93 (m93_ok [false, false, false, false, false] x0.Out rfl h0_4.rd hx32) ?_
 rintro _ _ _ ⟨rfl, rfl, lx32r0, rfl⟩
 refine kp ?_
 obtain ⟨x33, hx33, hM⟩ := bnd hM
 refine Any.cv 6 ent92 (m92_ok (⟨x0.Limit, ⟨x0.Ballast.Least, x0.Ballast.Most⟩, x0.Pieces, x0.Out, x0.Heels⟩ : HullBook) x32 h0_3 h0_4 h0_5 lx32r0 hx33) ?_
 rintro vx33r0 Rx33 _ ⟨hRx33, rfl, _, hx33r0, rfl⟩
 refine ⟨hRx33, ka, ?_⟩
 refine Any.vs 2 [7, 8] rfl ?_
 refine Any.done ?_
 obtain rfl := sinj hM
 exact rt Tryz.func53 (.tmp rfl (.tmp rfl .nil)) (so sr) (hk _ _ _ ⟨(hRx28.trans hRx33), rfl, vx33r0, hx33r0, rfl⟩)
theorem m160_ok (x0 : HullBook) (x1 : (List Int)) {v0_3 v0_4 v0_5 v1 : Value} {b1 : Nat} (h0_3 : SlR CHullPiece 5 R v0_3 x0.Pieces) (_ : SlR CZ 1 R v0_4 x0.Out) (_ : SlR CHullHeel 2 R v0_5 x0.Heels) (hc1 : CellsAt R H b1 0 [v1]) (h1 : SlR CZ 1 R v1 x1) {r : Int} (hM : m160 x0 x1 = some r) : FnOk 𝒥 160 #[.agg #[iv x0.Limit, iv x0.Ballast.Least, iv x0.Ballast.Most, v0_3, v0_4, v0_5], .pointer (some ⟨b1, 0, none⟩)] R H (fun v R' H' => R = R' ∧ H = H' ∧ v = iv r) := by
 unfold m160 at hM
 refine FnOk.of_at Tryz.func160 rfl (n := 10) rfl rfl fun fr cs hk => ?_
 refine sg rg2 ?_
 refine bx fun b22 => ?_
 refine vs 1 ?_
 refine nx rg7 ?_
 refine At.ld one25 ((hc1.sub (su (so sr))).one (j := 0) rfl) ?_
 refine vs 2 ?_
 refine ld 3 one24 z0 ?_
 refine ls h0_3 Tryz.underlying24 ?_
 obtain ⟨x23, hx23, hM⟩ := bnd hM
 refine At.cv ent132 (m132_ok x1 (x0.Pieces.length : Int) h1.rd hx23) ?_
 rintro _ _ _ ⟨rfl, rfl, rfl⟩
 refine vs 1 ?_
 refine er ?_
 obtain rfl := sinj hM
 exact rt Tryz.func160 (.tmp rfl .nil) (so sr) (hk _ _ _ ⟨rfl, rfl, rfl⟩)
theorem m133_ok (x0 : (List Int)) {v0 : Value} (h0 : SlR CZ 1 R v0 x0) {r : (List Int)} (hM : m133 x0 = some r) : FnOk 𝒥 133 #[v0] R H (fun v R' H' => RLe R R' ∧ H = H' ∧ ∃ vr0c0 br0c0, CellsAt R' [] br0c0 0 [vr0c0] ∧ SlR CZ 1 R' vr0c0 r ∧ v = .func (.func 160) #[] #[.pointer (some ⟨br0c0, 0, none⟩)]) := by
 unfold m133 at hM
 refine FnOk.of_at Tryz.func133 rfl (n := 4) rfl rfl fun fr cs hk => ?_
 refine sg rg2 ?_
 refine At.s rfl rfl (Ox.box1 rfl rfl h0.cells rfl fun b22 _ _ => ⟨_, (.put rfl), ?_⟩)
 refine vs 1 ?_
 refine nx rg2 ?_
 refine At.s rfl rfl (Ox.makeFunc (vs := #[]) (us := #[_]) rfl rfl rfl rfl (.put rfl) ?_)
 refine vs 1 ?_
 refine er ?_
 refine At.freezeBox (H2 := H) (fun X => X ++ (H)) .id rfl (fun Rf23 hRf23 hcf23 => ?_)
 replace h0 := h0.mono hRf23
 obtain rfl := sinj hM
 exact rt Tryz.func133 (.tmp rfl .nil) sr (hk _ _ _ ⟨hRf23, rfl, v0, b22, hcf23, h0, rfl⟩)
theorem m134_ok (x0 : Cargo) (x1 : Opened) (x2 : (List Int)) {v1_3 v1_4 v1_5 v1_6 v1_7 v2 : Value} {b1 b2 : Nat} (l0_1 : x0.weights.length = 5) (hc1 : CellsAt R H b1 0 [iv x1.book.Limit, iv x1.book.Ballast.Least, iv x1.book.Ballast.Most, v1_3, v1_4, v1_5, v1_6, v1_7]) (h1_3 : SlR CHullPiece 5 R v1_3 x1.book.Pieces) (h1_4 : SlR CZ 1 R v1_4 x1.book.Out) (h1_5 : SlR CHullHeel 2 R v1_5 x1.book.Heels) (_ : SlR CCargo 6 R v1_6 x1.alls) (_ : MapR R v1_7 x1.worsts) (hc2 : CellsAt R H b2 0 [v2]) (h2 : SlR CZ 1 R v2 x2) {r : Bool} (hM : m134 x0 x1 x2 = some r) : FnOk 𝒥 134 #[.agg (List.toArray ([iv x0.ballast] ++ (x0.weights.map (Value.int .i64) ++ []))), .pointer (some ⟨b1, 0, none⟩), .pointer (some ⟨b2, 0, none⟩)] R H (fun v R' H' => R = R' ∧ H = H' ∧ v = .bool r) := by
 unfold m134 at hM
 refine FnOk.of_at Tryz.func134 rfl (n := 15) rfl rfl fun fr cs hk => ?_
 refine sg rg2 ?_
 refine bx fun b24 => ?_
 refine vs 1 ?_
 refine es ?_
 refine At.dw rg11 mixed ?_
 refine Any.vs 1 [0] rfl ?_
 refine Any.tk 1 rfl pp (fun R' H' hR hS => Ox.loadN (vs := [_, _, _, _, _, _]) rfl rfl agg102 rfl (((hc1.le hR).sub (fun p h => hS p ((su (so sr)) p h))).part (j := 0) (n := 6) rfl) rfl (.one rfl) ⟨rfl, rfl, rfl⟩) ?_
 refine Any.vs 1 [2] rfl ?_
 refine Any.tk 3 rfl pp (fun R' H' hR hS => Ox.loadN (vs := [_, _, _, _, _, _]) rfl rfl agg102 rfl (((hc1.le hR).sub (fun p h => hS p ((su (so sr)) p h))).part (j := 0) (n := 6) rfl) rfl (.one rfl) ⟨rfl, rfl, rfl⟩) ?_
 refine Any.tk 4 rfl pp (fun R' H' hR hS => Ox.loadN (vs := _) rfl rfl agg125 (by simp [l0_1]) ((CellsAt.box (hS _ z0)).part (j := 0) (n := 6) (take_all (by simp [l0_1]))) rfl (.one rfl) ⟨rfl, rfl, rfl⟩) ?_
 refine Any.tk 5 rfl pp (fun R' H' hR hS => Ox.buildZ (z := (List.toArray ([] ++ ([false, false, false, false, false].map Value.bool ++ [])))) rfl arrz112 rfl (.one rfl) ⟨rfl, rfl, rfl⟩) ?_
 refine Any.tk 6 rfl pp (fun R' H' hR hS => Ox.load1 rfl rfl one25 (((hc2.le hR).sub (fun p h => hS p ((su (so sr)) p h))).one (j := 0) rfl) rfl (.one rfl) ⟨rfl, rfl, rfl⟩) ?_
 obtain ⟨x25, hx25, hM⟩ := bnd hM
 refine Any.cv 7 ent93 (m93_ok [false, false, false, false, false] x2 rfl h2.rd hx25) ?_
 rintro _ _ _ ⟨rfl, rfl, lx25r0, rfl⟩
 refine kp ?_
 obtain ⟨x26, hx26, hM⟩ := bnd hM
 refine Any.cv 8 ent104 (m104_ok x1.book x0 x25 h1_3 h1_4 h1_5 l0_1 lx25r0 hx26) ?_
 rintro _ _ _ ⟨rfl, rfl, rfl⟩
 refine kp ?_
 obtain ⟨x27, hx27, hM⟩ := bnd hM
 refine Any.cv 9 ent103 (m103_ok x1.book x26 h1_3 h1_4 h1_5 hx27) ?_
 rintro _ _ _ ⟨rfl, rfl, rfl⟩
 refine kp ?_
 refine Any.vs 1 [10] rfl ?_
 refine Any.done ?_
 obtain rfl := sinj hM
 exact rt Tryz.func134 (.tmp rfl .nil) (so sr) (hk _ _ _ ⟨rfl, rfl, rfl⟩)
theorem m56_ok (x0 : HullBook) (x1 : (List Int)) {v0_3 v0_4 v0_5 v1 : Value} (hG : GOk R) (h0_3 : SlR CHullPiece 5 R v0_3 x0.Pieces) (h0_4 : SlR CZ 1 R v0_4 x0.Out) (h0_5 : SlR CHullHeel 2 R v0_5 x0.Heels) (h1 : SlR CZ 1 R v1 x1) {r : (Int × Int)} (hM : m56 x0 x1 = some r) : FnOk 𝒥 56 #[.agg #[iv x0.Limit, iv x0.Ballast.Least, iv x0.Ballast.Most, v0_3, v0_4, v0_5], v1] R H (fun v R' H' => RLe R R' ∧ H = H' ∧ v = .tuple #[iv r.1, iv r.2]) := by
 unfold m56 at hM
 refine FnOk.of_at Tryz.func56 rfl (n := 21) rfl rfl fun fr cs hk => ?_
 refine sg rg4 ?_
 refine bx fun b29 => ?_
 refine At.s rfl rfl (Ox.box1 rfl rfl h1.cells rfl fun b30 _ _ => ⟨_, (.put rfl), ?_⟩)
 refine vs 2 ?_
 refine es ?_
 obtain ⟨x31, hx31, hM⟩ := bnd hM
 obtain ⟨x32, hx32, hM⟩ := bnd hM
 refine At.cut (fun R' H' st' => RLe R R' ∧ ∃ (b33 : Nat) (vx32r0_3 : Value) (vx32r0_4 : Value) (vx32r0_5 : Value) (vx32r0_6 : Value) (vx32r0_7 : Value) (Hsx32 : HList), SlR CHullPiece 5 R' vx32r0_3 x32.1.book.Pieces ∧ SlR CZ 1 R' vx32r0_4 x32.1.book.Out ∧ SlR CHullHeel 2 R' vx32r0_5 x32.1.book.Heels ∧ SlR CCargo 6 R' vx32r0_6 x32.1.alls ∧ OwnM vx32r0_7 x32.1.worsts Hsx32 ∧ H' = (b33, .cells #[iv x32.1.book.Limit, iv x32.1.book.Ballast.Least, iv x32.1.book.Ballast.Most, vx32r0_3, vx32r0_4, vx32r0_5, vx32r0_6, vx32r0_7] 106) :: Hsx32 ++ ((b30, .cells #[v1] 25) :: H) ∧ SubL st' [(3, .pointer (some ⟨b30, 0, none⟩)), (6, .pointer (some ⟨b33, 0, none⟩)), (7, iv x32.2)]) ?_ ?_
 ·rintro Rc34 Hc34 stc34 ⟨hRc34, b33, vx32r0_3, vx32r0_4, vx32r0_5, vx32r0_6, vx32r0_7, Hsx32, hx32r0_3, hx32r0_4, hx32r0_5, hx32r0_6, hx32r0_7, rfl, hstc34⟩
  refine At.sub hstc34 ?_
  replace h1 := h1.mono hRc34
  refine sq ?_
  refine sg rg2 ?_
  refine vs 2 ?_
  refine er ?_
  refine sc hM (fun ht35 hM => ?_) (fun ht35 hM => ?_)
  ·refine sg rg3 ?_
   refine vs 3 ?_
   refine er ?_
   obtain rfl := sinj hM
   exact rt Tryz.func56 (.tmp rfl (.tmp rfl .nil)) (so (subDrop (so sr))) (hk _ _ _ ⟨hRc34, rfl, rfl⟩)
  refine sp ?_
  refine sg rg5 ?_
  refine lN [_, _, _, _, _, _, _, _] 0 8 agg106 z0 ?_
  refine At.s rfl rfl (Ox.makeFunc (vs := #[]) (us := #[_, _]) rfl rfl rfl rfl (.put rfl) ?_)
  refine At.freezeMap (H2 := (b33, _) :: (b30, _) :: H) (fun X => (b33, _) :: X ++ ((b30, _) :: H)) (.cons .id) rfl hx32r0_7 (fun Rf37 hRf37 hf37 => ?_)
  replace h1 := h1.mono hRf37
  replace hx32r0_3 := hx32r0_3.mono hRf37
  replace hx32r0_4 := hx32r0_4.mono hRf37
  replace hx32r0_5 := hx32r0_5.mono hRf37
  replace hx32r0_6 := hx32r0_6.mono hRf37
  obtain ⟨x36, hx36, hM⟩ := bnd hM
  refine At.cv ent100 (m100_ok x32.1 (fun y => m134 y x32.1 x1) hx32r0_3 hx32r0_4 hx32r0_5 hx32r0_6 hf37 ⟨134, #[], #[_, _], rfl, ent134, fun R' H' hR hH y r va hA hr => by obtain ⟨_, rfl, ⟨ly_1, rfl⟩⟩ := hA; exact (m134_ok y x32.1 x1 ly_1 (CellsAt.box (hH _ z0)) (hx32r0_3.mono hR) (hx32r0_4.mono hR) (hx32r0_5.mono hR) (hx32r0_6.mono hR) (hf37.mono hR) (CellsAt.box (hH _ z1)) (h1.mono hR) hr).mono fun _ _ _ ⟨h1, h2, h3⟩ => ⟨h1 ▸ rr, h2.symm, h3⟩⟩ hx36) ?_
  rintro _ Rx36 _ ⟨hRx36, rfl, rfl⟩
  refine vs 2 ?_
  refine er ?_
  obtain rfl := sinj hM
  exact rt Tryz.func56 (.tmp rfl (.tmp rfl .nil)) (so (so sr)) (hk _ _ _ ⟨((hRc34.trans hRf37).trans hRx36), rfl, rfl⟩)
 intro hcut34
 refine At.dw rg10 mixed ?_
 refine tN 0 [_, _, _, _, _, _] 0 6 agg28 z1 ?_
 refine tl 1 0 one25 z0 ?_
 refine tw 2 7 ?_ ?_
 ·refine  (Ox.callV rfl rfl rfl rfl ent133 rfl rfl ((m133_ok x1 h1 hx31).mono ?_))
  rintro _ Rx31 _ ⟨hRx31, rfl, vx31r0c0, bx31r0c0, hx31r0c0q, hx31r0c0, rfl⟩
  replace h0_3 := h0_3.mono hRx31
  replace h0_4 := h0_4.mono hRx31
  replace h0_5 := h0_5.mono hRx31
  replace h1 := h1.mono hRx31
  replace hG := hG.mono hRx31
  refine ⟨_, (.put rfl), ⟨hRx31, ka, ?_⟩⟩
  refine tw 3 7 ?_ ?_
  ·refine  (Ox.callV rfl rfl rfl rfl ent89 rfl rfl ((m89_ok x0 (fun y => m160 y x31) hG h0_3 h0_4 h0_5 ⟨160, #[], #[_], rfl, ent160, fun R' H' hR hH y r va hA hr => by obtain ⟨_, rfl, ⟨vy_3, vy_4, vy_5, hy_3, hy_4, hy_5, rfl⟩⟩ := hA; exact (m160_ok y x31 hy_3 hy_4 hy_5 (hx31r0c0q.up hR) (hx31r0c0.mono hR) hr).mono fun _ _ _ ⟨h1, h2, h3⟩ => ⟨h1 ▸ rr, h2.symm, h3⟩⟩ hx32).mono ?_))
   rintro _ Rx32 _ ⟨hRx32, Hsx32, vx32r0_3, vx32r0_4, vx32r0_5, vx32r0_6, vx32r0_7, hx32r0_3, hx32r0_4, hx32r0_5, hx32r0_6, hx32r0_7, rfl, rfl⟩
   replace hx31r0c0q := hx31r0c0q.up (H := []) hRx32
   refine ⟨_, (.put rfl), ⟨hRx32, (ku (subDrop sr)), ?_⟩⟩
   refine Any.vs 3 [4, 5, 6] rfl ?_
   refine Any.on 7 rfl rfl (SemTo.to (Ox.alloc (cs := #[iv 0, iv 0, iv 0, .slice none 0 0, .slice none 0 0, .slice none 0 0, .slice none 0 0, .map none]) rfl zero106 rfl fun b33 _ _ => ⟨_, (.put rfl), ⟨rr, (ku (so (subDrop sr))), ?_⟩⟩))
   refine Any.on 8 rfl rfl (SemTo.to (Ox.storeN (cs' := #[_, _, _, _, _, _, _, _]) rfl rfl rfl agg106 rfl (ones_cons rfl (ones_cons rfl (ones_cons rfl (ones_cons hx32r0_3.one (ones_cons hx32r0_4.one (ones_cons hx32r0_5.one (ones_cons hx32r0_6.one (ones_cons hx32r0_7.one ones_nil)))))))) .here rfl rfl rfl (.refl _) ⟨rr, (ku (so (subDrop sr))), ?_⟩))
   refine Any.vs 1 [9] rfl ?_
   exact Any.done (At.drop (sk (subKeep (sk (so sr)))) (hcut34 _ _ _ ⟨(hRx31.trans hRx32), b33, vx32r0_3, vx32r0_4, vx32r0_5, vx32r0_6, vx32r0_7, Hsx32, hx32r0_3, hx32r0_4, hx32r0_5, hx32r0_6, hx32r0_7, rfl, SubT.sub ⟨rfl, rfl, rfl, trivial⟩⟩))
  refine  (SemTo.to (Ox.alloc (cs := #[iv 0, iv 0, iv 0, .slice none 0 0, .slice none 0 0, .slice none 0 0, .slice none 0 0, .map none]) rfl zero106 rfl fun b33 _ _ => ⟨_, (.put rfl), ⟨rr, (ku (so sr)), ?_⟩⟩))
  refine Any.cv 3 ent89 (m89_ok x0 (fun y => m160 y x31) hG h0_3 h0_4 h0_5 ⟨160, #[], #[_], rfl, ent160, fun R' H' hR hH y r va hA hr => by obtain ⟨_, rfl, ⟨vy_3, vy_4, vy_5, hy_3, hy_4, hy_5, rfl⟩⟩ := hA; exact (m160_ok y x31 hy_3 hy_4 hy_5 (hx31r0c0q.up hR) (hx31r0c0.mono hR) hr).mono fun _ _ _ ⟨h1, h2, h3⟩ => ⟨h1 ▸ rr, h2.symm, h3⟩⟩ hx32) ?_
  rintro _ Rx32 _ ⟨hRx32, Hsx32, vx32r0_3, vx32r0_4, vx32r0_5, vx32r0_6, vx32r0_7, hx32r0_3, hx32r0_4, hx32r0_5, hx32r0_6, hx32r0_7, rfl, rfl⟩
  replace hx31r0c0q := hx31r0c0q.up (H := []) hRx32
  refine ⟨hRx32, (ku (subDrop (so sr))), ?_⟩
  refine Any.vs 3 [4, 5, 6] rfl ?_
  refine Any.on 8 rfl rfl (SemTo.to (Ox.storeN (cs' := #[_, _, _, _, _, _, _, _]) rfl rfl rfl agg106 rfl (ones_cons rfl (ones_cons rfl (ones_cons rfl (ones_cons hx32r0_3.one (ones_cons hx32r0_4.one (ones_cons hx32r0_5.one (ones_cons hx32r0_6.one (ones_cons hx32r0_7.one ones_nil)))))))) (.skip .here) rfl rfl rfl (.refl _) ⟨rr, (ku (subDrop (so sr))), ?_⟩))
  refine Any.vs 1 [9] rfl ?_
  exact Any.done (At.drop (subKeep (sk (sk (so sr)))) (At.perm (swCA _ _ _) (hcut34 _ _ _ ⟨(hRx31.trans hRx32), b33, vx32r0_3, vx32r0_4, vx32r0_5, vx32r0_6, vx32r0_7, Hsx32, hx32r0_3, hx32r0_4, hx32r0_5, hx32r0_6, hx32r0_7, rfl, SubT.sub ⟨rfl, rfl, rfl, trivial⟩⟩)))
 refine  (SemTo.to (Ox.alloc (cs := #[iv 0, iv 0, iv 0, .slice none 0 0, .slice none 0 0, .slice none 0 0, .slice none 0 0, .map none]) rfl zero106 rfl fun b33 _ _ => ⟨_, (.put rfl), ⟨rr, (ku (so sr)), ?_⟩⟩))
 refine Any.cv 2 ent133 (m133_ok x1 h1 hx31) ?_
 rintro _ Rx31 _ ⟨hRx31, rfl, vx31r0c0, bx31r0c0, hx31r0c0q, hx31r0c0, rfl⟩
 replace h0_3 := h0_3.mono hRx31
 replace h0_4 := h0_4.mono hRx31
 replace h0_5 := h0_5.mono hRx31
 replace h1 := h1.mono hRx31
 replace hG := hG.mono hRx31
 refine ⟨hRx31, (ku (so sr)), ?_⟩
 refine Any.cv 3 ent89 (m89_ok x0 (fun y => m160 y x31) hG h0_3 h0_4 h0_5 ⟨160, #[], #[_], rfl, ent160, fun R' H' hR hH y r va hA hr => by obtain ⟨_, rfl, ⟨vy_3, vy_4, vy_5, hy_3, hy_4, hy_5, rfl⟩⟩ := hA; exact (m160_ok y x31 hy_3 hy_4 hy_5 (hx31r0c0q.up hR) (hx31r0c0.mono hR) hr).mono fun _ _ _ ⟨h1, h2, h3⟩ => ⟨h1 ▸ rr, h2.symm, h3⟩⟩ hx32) ?_
 rintro _ Rx32 _ ⟨hRx32, Hsx32, vx32r0_3, vx32r0_4, vx32r0_5, vx32r0_6, vx32r0_7, hx32r0_3, hx32r0_4, hx32r0_5, hx32r0_6, hx32r0_7, rfl, rfl⟩
 replace hx31r0c0q := hx31r0c0q.up (H := []) hRx32
 refine ⟨hRx32, (ku (subDrop (so sr))), ?_⟩
 refine Any.vs 3 [4, 5, 6] rfl ?_
 refine Any.on 8 rfl rfl (SemTo.to (Ox.storeN (cs' := #[_, _, _, _, _, _, _, _]) rfl rfl rfl agg106 rfl (ones_cons rfl (ones_cons rfl (ones_cons rfl (ones_cons hx32r0_3.one (ones_cons hx32r0_4.one (ones_cons hx32r0_5.one (ones_cons hx32r0_6.one (ones_cons hx32r0_7.one ones_nil)))))))) (.skip .here) rfl rfl rfl (.refl _) ⟨rr, (ku (subDrop (so sr))), ?_⟩))
 refine Any.vs 1 [9] rfl ?_
 exact Any.done (At.drop (subKeep (sk (sk (so sr)))) (At.perm (swCA _ _ _) (hcut34 _ _ _ ⟨(hRx31.trans hRx32), b33, vx32r0_3, vx32r0_4, vx32r0_5, vx32r0_6, vx32r0_7, Hsx32, hx32r0_3, hx32r0_4, hx32r0_5, hx32r0_6, hx32r0_7, rfl, SubT.sub ⟨rfl, rfl, rfl, trivial⟩⟩)))
theorem m60_ok (x0 : HullBook) (x1 : HullHeel) {v0_3 v0_4 v0_5 : Value} (h0_3 : SlR CHullPiece 5 R v0_3 x0.Pieces) (h0_4 : SlR CZ 1 R v0_4 x0.Out) (h0_5 : SlR CHullHeel 2 R v0_5 x0.Heels) {r : HullBook} (hM : m60 x0 x1 = some r) : FnOk 𝒥 60 #[.agg #[iv x0.Limit, iv x0.Ballast.Least, iv x0.Ballast.Most, v0_3, v0_4, v0_5], .agg #[iv x1.After, iv x1.Side]] R H (fun v R' H' => RLe R R' ∧ H = H' ∧ ∃ vr0_3 vr0_4 vr0_5, SlR CHullPiece 5 R' vr0_3 r.Pieces ∧ SlR CZ 1 R' vr0_4 r.Out ∧ SlR CHullHeel 2 R' vr0_5 r.Heels ∧ v = .agg #[iv r.Limit, iv r.Ballast.Least, iv r.Ballast.Most, vr0_3, vr0_4, vr0_5]) := by
 unfold m60 at hM
 refine FnOk.of_at Tryz.func60 rfl (n := 14) rfl rfl fun fr cs hk => ?_
 refine sg rg3 ?_
 refine bx fun b29 => ?_
 refine bx fun b30 => ?_
 refine At.s rfl rfl (Ox.alloc (cs := #[iv 0, iv 0, iv 0, .slice none 0 0, .slice none 0 0, .slice none 0 0]) rfl zero28 rfl fun b31 _ _ => ⟨_, (.put rfl), ?_⟩)
 refine es ?_
 obtain ⟨x33, hx33, hM⟩ := bnd hM
 obtain ⟨x35, hx35, hM⟩ := bnd hM
 refine At.cut (fun R' H' st' => R = R' ∧ ∃ (vx35 : Value) (Hsx35 : HList), OwnSl CHullHeel 2 47 R' vx35 x35 Hsx35 ∧ H' = Hsx35 ++ ((b31, .cells #[iv 0, iv 0, iv 0, .slice none 0 0, .slice none 0 0, .slice none 0 0] 28) :: (b29, .cells #[iv x0.Limit, iv x0.Ballast.Least, iv x0.Ballast.Most, v0_3, v0_4, vx35] 28) :: H) ∧ SubL st' [(2, .pointer (some ⟨b29, 0, none⟩)), (4, .pointer (some ⟨b31, 0, none⟩))]) ?_ ?_
 ·rintro Rc36 Hc36 stc36 ⟨rfl, vx35, Hsx35, hox35, rfl, hstc36⟩
  refine At.sub hstc36 ?_
  refine sg rg2 ?_
  refine lN [_, _, _, _, _, _] 0 6 agg28 (List.mem_append_right _ z1) ?_
  refine At.s rfl rfl (Ox.storeN (cs' := #[_, _, _, _, _, _]) rfl rfl rfl agg28 rfl (ones_cons rfl (ones_cons rfl (ones_cons rfl (ones_cons h0_3.one (ones_cons h0_4.one (ones_cons hox35.one ones_nil)))))) (.skip .here) rfl rfl rfl (.refl _) ?_)
  refine er ?_
  refine At.freezeOwn (H2 := (b31, _) :: (b29, _) :: H) (fun X => X ++ ((b31, _) :: (b29, _) :: H)) .id rfl hox35 (fun Rf37 hRf37 hf37 => ?_)
  replace h0_3 := h0_3.mono hRf37
  replace h0_4 := h0_4.mono hRf37
  obtain rfl := sinj hM
  exact rt Tryz.func60 (.agg rfl agg28 rfl (CellsAt.box z0) .nil) (so (so sr)) (hk _ _ _ ⟨hRf37, rfl, v0_3, v0_4, vx35, h0_3, h0_4, hf37, rfl⟩)
 intro hcut36
 refine At.draw (n := 9) (is := [0, 1, 2, 3, 4, 5, 6, 7, 8]) (many ((b31, .cells #[iv 0, iv 0, iv 0, .slice none 0 0, .slice none 0 0, .slice none 0 0] 28) :: (b30, .cells #[iv x1.After, iv x1.Side] 47) :: (b29, .cells #[iv x0.Limit, iv x0.Ballast.Least, iv x0.Ballast.Most, v0_3, v0_4, v0_5] 28) :: H) [(8, (b31, .cells #[iv 0, iv 0, iv 0, .slice none 0 0, .slice none 0 0, .slice none 0 0] 28) :: (b30, .cells #[iv x1.After, iv x1.Side] 47) :: H)]) mixed rfl (by decide +kernel) rfl rfl ?_
 refine Any.vs 1 [1] rfl ?_
 refine ts 2 [3, 6, 7, 8] rfl (many_skip rfl (many_nil (su (so (so sr))))) (su (so (so sr))) (fun R' H' hR hS => Ox.load1 rfl rfl one26 ((CellsAt.box (hS _ z0)).one (j := 5) rfl) rfl (.one rfl) ⟨rfl, rfl, rfl⟩) ?_
 refine ts 4 [5, 6, 7, 8] rfl (many_skip rfl (many_nil (su (so (sk (so sr)))))) (su (so (sk (so sr)))) (fun R' H' hR hS => Ox.loadN (vs := [_, _]) rfl rfl agg47 rfl ((CellsAt.box (hS _ z0)).part (j := 0) (n := 2) rfl) rfl (.one rfl) ⟨rfl, rfl, rfl⟩) ?_
 refine tw 0 5 ?_ ?_
 ·refine  (SemTo.to (Ox.buildSlice (cells := #[]) rfl elem26 rfl (by decide) base26_0 fill_nil rfl fun b32 _ _ => ⟨_, (.put rfl), ⟨rr, (many_at rfl (su (so sr))), ?_⟩⟩))
  refine tw 3 5 ?_ ?_
  ·refine  (SemTo.to (Ox.append (K := CHullHeel) (fun X => X ++ ((b31, _) :: (b30, _) :: (b29, _) :: H)) rfl rfl rfl app26 Tryz.underlying26 (by simp) .id (OwnSl.lit (Enc.le Enc.nil rfl) rfl) h0_5.arg hx33 rfl fun vx33 Hsx33 hox33 => ⟨_, (.put rfl), ⟨rr, (many_at rfl (su (subDrop sr))), ?_⟩⟩))
   refine Any.on 5 rfl rfl (SemTo.to (Ox.buildSlice (cells := #[_, _]) rfl elem26 rfl (by decide) base26_1 (fill_cons rfl rfl rfl rfl fill_nil) rfl fun b34 _ _ => ⟨_, (.put rfl), ⟨rr, (many_at rfl (su (so (subDrop sr)))), ?_⟩⟩))
   refine Any.on 6 rfl rfl (SemTo.to (Ox.append (K := CHullHeel) (fun X => (b34, _) :: X ++ ((b31, _) :: (b30, _) :: (b29, _) :: H)) rfl rfl rfl app26 Tryz.underlying26 (by simp) (.cons .id) hox33 (ArgSl.lit z0 (Enc.le (Enc.cons (x := x1) rfl rfl Enc.nil) rfl) rfl) hx35 rfl fun vx35 Hsx35 hox35 => ⟨_, (.put rfl), ⟨rr, (many_at rfl (su (so (subDrop sr)))), ?_⟩⟩))
   refine Any.vs 1 [7] rfl ?_
   refine Any.on 8 rfl rfl (SemTo.to (Ox.store1 (cs' := #[_, _, _, _, _, _]) rfl rfl rfl one26 hox35.one (.there (.skip (.there (.there .here)))) rfl rfl rfl (.refl _) ⟨rr, (many_at rfl (su (so (subDrop (sk (sk (so sr))))))), ?_⟩))
   exact Any.done (At.drop (so (subKeep (sk (so sr)))) (hcut36 _ _ _ ⟨rfl, vx35, Hsx35, hox35, rfl, SubT.sub ⟨rfl, rfl, trivial⟩⟩))
  refine  (SemTo.to (Ox.buildSlice (cells := #[_, _]) rfl elem26 rfl (by decide) base26_1 (fill_cons rfl rfl rfl rfl fill_nil) rfl fun b34 _ _ => ⟨_, (.put rfl), ⟨rr, (many_at rfl (su (so (so sr)))), ?_⟩⟩))
  refine Any.on 3 rfl rfl (SemTo.to (Ox.append (K := CHullHeel) (fun X => (b34, _) :: X ++ ((b31, _) :: (b30, _) :: (b29, _) :: H)) rfl rfl rfl app26 Tryz.underlying26 (by simp) (.cons .id) (OwnSl.lit (Enc.le Enc.nil rfl) rfl) h0_5.arg hx33 rfl fun vx33 Hsx33 hox33 => ⟨_, (.put rfl), ⟨rr, (many_at rfl (su (so (subDrop sr)))), ?_⟩⟩))
  refine Any.on 6 rfl rfl (SemTo.to (Ox.append (K := CHullHeel) (fun X => (b34, _) :: X ++ ((b31, _) :: (b30, _) :: (b29, _) :: H)) rfl rfl rfl app26 Tryz.underlying26 (by simp) (.cons .id) hox33 (ArgSl.lit z0 (Enc.le (Enc.cons (x := x1) rfl rfl Enc.nil) rfl) rfl) hx35 rfl fun vx35 Hsx35 hox35 => ⟨_, (.put rfl), ⟨rr, (many_at rfl (su (so (subDrop sr)))), ?_⟩⟩))
  refine Any.vs 1 [7] rfl ?_
  refine Any.on 8 rfl rfl (SemTo.to (Ox.store1 (cs' := #[_, _, _, _, _, _]) rfl rfl rfl one26 hox35.one (.there (.skip (.there (.there .here)))) rfl rfl rfl (.refl _) ⟨rr, (many_at rfl (su (so (subDrop (sk (sk (so sr))))))), ?_⟩))
  exact Any.done (At.drop (so (subKeep (sk (so sr)))) (hcut36 _ _ _ ⟨rfl, vx35, Hsx35, hox35, rfl, SubT.sub ⟨rfl, rfl, trivial⟩⟩))
 refine  (SemTo.to (Ox.buildSlice (cells := #[_, _]) rfl elem26 rfl (by decide) base26_1 (fill_cons rfl rfl rfl rfl fill_nil) rfl fun b34 _ _ => ⟨_, (.put rfl), ⟨rr, (many_at rfl (su (so sr))), ?_⟩⟩))
 refine Any.on 0 rfl rfl (SemTo.to (Ox.buildSlice (cells := #[]) rfl elem26 rfl (by decide) base26_0 fill_nil rfl fun b32 _ _ => ⟨_, (.put rfl), ⟨rr, (many_at rfl (su (so (so sr)))), ?_⟩⟩))
 refine Any.on 3 rfl rfl (SemTo.to (Ox.append (K := CHullHeel) (fun X => X ++ ((b34, _) :: (b31, _) :: (b30, _) :: (b29, _) :: H)) rfl rfl rfl app26 Tryz.underlying26 (by simp) .id (OwnSl.lit (Enc.le Enc.nil rfl) rfl) h0_5.arg hx33 rfl fun vx33 Hsx33 hox33 => ⟨_, (.put rfl), ⟨rr, (many_at rfl (su (subDrop (so sr)))), ?_⟩⟩))
 refine Any.on 6 rfl rfl (SemTo.to (Ox.append (K := CHullHeel) (fun X => X ++ ((b34, _) :: (b31, _) :: (b30, _) :: (b29, _) :: H)) rfl rfl rfl app26 Tryz.underlying26 (by simp) .id hox33 (ArgSl.lit (List.mem_append_right _ z0) (Enc.le (Enc.cons (x := x1) rfl rfl Enc.nil) rfl) rfl) hx35 rfl fun vx35 Hsx35 hox35 => ⟨_, (.put rfl), ⟨rr, (many_at rfl (su (subDrop (so sr)))), ?_⟩⟩))
 refine Any.vs 1 [7] rfl ?_
 refine Any.on 8 rfl rfl (SemTo.to (Ox.store1 (cs' := #[_, _, _, _, _, _]) rfl rfl rfl one26 hox35.one (.skip (.there (.there (.there .here)))) rfl rfl rfl (.refl _) ⟨rr, (many_at rfl (su (subDrop (so (sk (sk (so sr))))))), ?_⟩))
 exact Any.done (At.drop (subKeep (so (sk (so sr)))) (hcut36 _ _ _ ⟨rfl, vx35, Hsx35, hox35, rfl, SubT.sub ⟨rfl, rfl, trivial⟩⟩))
theorem m64_ok (x0 : HullBook) (x1 : Int) {v0_3 v0_4 v0_5 : Value} (h0_3 : SlR CHullPiece 5 R v0_3 x0.Pieces) (h0_4 : SlR CZ 1 R v0_4 x0.Out) (h0_5 : SlR CHullHeel 2 R v0_5 x0.Heels) {r : HullBook} (hM : m64 x0 x1 = some r) : FnOk 𝒥 64 #[.agg #[iv x0.Limit, iv x0.Ballast.Least, iv x0.Ballast.Most, v0_3, v0_4, v0_5], iv x1] R H (fun v R' H' => RLe R R' ∧ H = H' ∧ ∃ vr0_3 vr0_4 vr0_5, SlR CHullPiece 5 R' vr0_3 r.Pieces ∧ SlR CZ 1 R' vr0_4 r.Out ∧ SlR CHullHeel 2 R' vr0_5 r.Heels ∧ v = .agg #[iv r.Limit, iv r.Ballast.Least, iv r.Ballast.Most, vr0_3, vr0_4, vr0_5]) := by
 unfold m64 at hM
 refine FnOk.of_at Tryz.func64 rfl (n := 14) rfl rfl fun fr cs hk => ?_
 refine sg rg2 ?_
 refine bx fun b27 => ?_
 refine At.s rfl rfl (Ox.alloc (cs := #[iv 0, iv 0, iv 0, .slice none 0 0, .slice none 0 0, .slice none 0 0]) rfl zero28 rfl fun b28 _ _ => ⟨_, (.put rfl), ?_⟩)
 refine nx rg9 ?_
 refine At.s rfl rfl (Ox.buildSlice (cells := #[]) rfl elem25 rfl (by decide) base25_0 fill_nil rfl fun b29 _ _ => ⟨_, (.put rfl), ?_⟩)
 refine vs 1 ?_
 refine ld 4 one25 z2 ?_
 obtain ⟨x30, hx30, hM⟩ := bnd hM
 refine At.s rfl rfl (Ox.append (K := CZ) (fun X => X ++ ((b28, _) :: (b27, _) :: H)) rfl rfl rfl app25 Tryz.underlying25 (by simp) .id (OwnSl.lit (Enc.le Enc.nil rfl) rfl) h0_4.arg hx30 rfl fun vx30 Hsx30 hox30 => ⟨_, (.put rfl), ?_⟩)
 refine vs 1 ?_
 refine At.s rfl rfl (Ox.buildSlice (cells := #[_]) rfl elem25 rfl (by decide) base25_1 (fill_cons rfl rfl rfl rfl fill_nil) rfl fun b31 _ _ => ⟨_, (.put rfl), ?_⟩)
 obtain ⟨x32, hx32, hM⟩ := bnd hM
 refine At.s rfl rfl (Ox.append (K := CZ) (fun X => (b31, _) :: X ++ ((b28, _) :: (b27, _) :: H)) rfl rfl rfl app25 Tryz.underlying25 (by simp) (.cons .id) hox30 (ArgSl.lit z0 (Enc.le (Enc.cons (x := x1) rfl rfl Enc.nil) rfl) rfl) hx32 rfl fun vx32 Hsx32 hox32 => ⟨_, (.put rfl), ?_⟩)
 refine vs 1 ?_
 refine At.s rfl rfl (Ox.store1 (cs' := #[_, _, _, _, _, _]) rfl rfl rfl one25 hox32.one (.there (.skip (.there .here))) rfl rfl rfl (.refl _) ?_)
 refine nx rg2 ?_
 refine At.s rfl rfl (Ox.loadN (vs := [_, _, _, _, _, _]) rfl rfl agg28 rfl ((CellsAt.box (.tail _ (List.mem_append_right _ z1))).part (j := 0) (n := 6) rfl) rfl (.put rfl) ?_)
 refine At.s rfl rfl (Ox.storeN (cs' := #[_, _, _, _, _, _]) rfl rfl rfl agg28 rfl (ones_cons rfl (ones_cons rfl (ones_cons rfl (ones_cons h0_3.one (ones_cons hox32.one (ones_cons h0_5.one ones_nil)))))) (.there (.skip .here)) rfl rfl rfl (.refl _) ?_)
 refine er ?_
 refine At.freezeOwn (H2 := (b31, _) :: (b28, _) :: (b27, _) :: H) (fun X => (b31, _) :: X ++ ((b28, _) :: (b27, _) :: H)) (.cons .id) rfl hox32 (fun Rf33 hRf33 hf33 => ?_)
 replace h0_3 := h0_3.mono hRf33
 replace h0_5 := h0_5.mono hRf33
 obtain rfl := sinj hM
 exact rt Tryz.func64 (.agg rfl agg28 rfl (CellsAt.box z1) .nil) (so (so (so sr))) (hk _ _ _ ⟨hRf33, rfl, v0_3, vx32, v0_5, h0_3, hf33, h0_5, rfl⟩)
theorem m137_ok (x0 : Cargo) (x1 : Opened) (x2 : (List Int)) {v1_3 v1_4 v1_5 v1_6 v1_7 v2 : Value} {b1 b2 : Nat} (l0_1 : x0.weights.length = 5) (hc1 : CellsAt R H b1 0 [iv x1.book.Limit, iv x1.book.Ballast.Least, iv x1.book.Ballast.Most, v1_3, v1_4, v1_5, v1_6, v1_7]) (h1_3 : SlR CHullPiece 5 R v1_3 x1.book.Pieces) (h1_4 : SlR CZ 1 R v1_4 x1.book.Out) (h1_5 : SlR CHullHeel 2 R v1_5 x1.book.Heels) (_ : SlR CCargo 6 R v1_6 x1.alls) (_ : MapR R v1_7 x1.worsts) (hc2 : CellsAt R H b2 0 [v2]) (h2 : SlR CZ 1 R v2 x2) {r : Int} (hM : m137 x0 x1 x2 = some r) : FnOk 𝒥 137 #[.agg (List.toArray ([iv x0.ballast] ++ (x0.weights.map (Value.int .i64) ++ []))), .pointer (some ⟨b1, 0, none⟩), .pointer (some ⟨b2, 0, none⟩)] R H (fun v R' H' => R = R' ∧ H = H' ∧ v = iv r) := by
 unfold m137 at hM
 refine FnOk.of_at Tryz.func137 rfl (n := 12) rfl rfl fun fr cs hk => ?_
 refine sg rg2 ?_
 refine bx fun b23 => ?_
 refine vs 1 ?_
 refine es ?_
 refine At.dw rg8 mixed ?_
 refine Any.vs 1 [0] rfl ?_
 refine Any.tk 1 rfl pp (fun R' H' hR hS => Ox.loadN (vs := [_, _, _, _, _, _]) rfl rfl agg102 rfl (((hc1.le hR).sub (fun p h => hS p ((su (so sr)) p h))).part (j := 0) (n := 6) rfl) rfl (.one rfl) ⟨rfl, rfl, rfl⟩) ?_
 refine Any.tk 2 rfl pp (fun R' H' hR hS => Ox.loadN (vs := _) rfl rfl agg125 (by simp [l0_1]) ((CellsAt.box (hS _ z0)).part (j := 0) (n := 6) (take_all (by simp [l0_1]))) rfl (.one rfl) ⟨rfl, rfl, rfl⟩) ?_
 refine Any.tk 3 rfl pp (fun R' H' hR hS => Ox.buildZ (z := (List.toArray ([] ++ ([false, false, false, false, false].map Value.bool ++ [])))) rfl arrz112 rfl (.one rfl) ⟨rfl, rfl, rfl⟩) ?_
 refine Any.tk 4 rfl pp (fun R' H' hR hS => Ox.load1 rfl rfl one25 (((hc2.le hR).sub (fun p h => hS p ((su (so sr)) p h))).one (j := 0) rfl) rfl (.one rfl) ⟨rfl, rfl, rfl⟩) ?_
 obtain ⟨x24, hx24, hM⟩ := bnd hM
 refine Any.cv 5 ent93 (m93_ok [false, false, false, false, false] x2 rfl h2.rd hx24) ?_
 rintro _ _ _ ⟨rfl, rfl, lx24r0, rfl⟩
 refine kp ?_
 obtain ⟨x25, hx25, hM⟩ := bnd hM
 refine Any.cv 6 ent104 (m104_ok x1.book x0 x24 h1_3 h1_4 h1_5 l0_1 lx24r0 hx25) ?_
 rintro _ _ _ ⟨rfl, rfl, rfl⟩
 refine kp ?_
 refine Any.vs 1 [7] rfl ?_
 refine Any.done ?_
 obtain rfl := sinj hM
 exact rt Tryz.func137 (.tmp rfl .nil) (so sr) (hk _ _ _ ⟨rfl, rfl, rfl⟩)
theorem m71_ok (x0 : HullBook) (x1 : (List Int)) {v0_3 v0_4 v0_5 v1 : Value} (hG : GOk R) (h0_3 : SlR CHullPiece 5 R v0_3 x0.Pieces) (h0_4 : SlR CZ 1 R v0_4 x0.Out) (h0_5 : SlR CHullHeel 2 R v0_5 x0.Heels) (h1 : SlR CZ 1 R v1 x1) {r : (Reach × Int)} (hM : m71 x0 x1 = some r) : FnOk 𝒥 71 #[.agg #[iv x0.Limit, iv x0.Ballast.Least, iv x0.Ballast.Most, v0_3, v0_4, v0_5], v1] R H (fun v R' H' => RLe R R' ∧ H = H' ∧ v = .tuple #[.agg #[iv r.1.Least, iv r.1.Most], iv r.2]) := by
 unfold m71 at hM
 refine FnOk.of_at Tryz.func71 rfl (n := 33) rfl rfl fun fr cs hk => ?_
 refine sg rg4 ?_
 refine bx fun b34 => ?_
 refine At.s rfl rfl (Ox.box1 rfl rfl h1.cells rfl fun b35 _ _ => ⟨_, (.put rfl), ?_⟩)
 refine At.s rfl rfl (Ox.alloc (cs := #[iv 0, iv 0]) rfl zero23 rfl fun b36 _ _ => ⟨_, (.put rfl), ?_⟩)
 refine vs 1 ?_
 refine es ?_
 obtain ⟨x37, hx37, hM⟩ := bnd hM
 obtain ⟨x38, hx38, hM⟩ := bnd hM
 refine At.cut (fun R' H' st' => RLe R R' ∧ ∃ (b39 : Nat) (vx38r0_3 : Value) (vx38r0_4 : Value) (vx38r0_5 : Value) (vx38r0_6 : Value) (vx38r0_7 : Value) (Hsx38 : HList), SlR CHullPiece 5 R' vx38r0_3 x38.1.book.Pieces ∧ SlR CZ 1 R' vx38r0_4 x38.1.book.Out ∧ SlR CHullHeel 2 R' vx38r0_5 x38.1.book.Heels ∧ SlR CCargo 6 R' vx38r0_6 x38.1.alls ∧ OwnM vx38r0_7 x38.1.worsts Hsx38 ∧ H' = (b39, .cells #[iv x38.1.book.Limit, iv x38.1.book.Ballast.Least, iv x38.1.book.Ballast.Most, vx38r0_3, vx38r0_4, vx38r0_5, vx38r0_6, vx38r0_7] 106) :: Hsx38 ++ ((b36, .cells #[iv 0, iv 0] 23) :: (b35, .cells #[v1] 25) :: H) ∧ SubL st' [(3, .pointer (some ⟨b35, 0, none⟩)), (4, .pointer (some ⟨b36, 0, none⟩)), (6, .pointer (some ⟨b39, 0, none⟩)), (7, iv x38.2)]) ?_ ?_
 ·rintro Rc40 Hc40 stc40 ⟨hRc40, b39, vx38r0_3, vx38r0_4, vx38r0_5, vx38r0_6, vx38r0_7, Hsx38, hx38r0_3, hx38r0_4, hx38r0_5, hx38r0_6, hx38r0_7, rfl, hstc40⟩
  refine At.sub hstc40 ?_
  replace h1 := h1.mono hRc40
  refine sq ?_
  refine sg rg2 ?_
  refine vs 2 ?_
  refine er ?_
  refine sc hM (fun ht43 hM => ?_) (fun ht43 hM => ?_)
  ·refine sg rg4 ?_
   refine At.s rfl rfl (Ox.build (cells := #[_, _]) rfl struct23 rfl fill_nil rfl (.put rfl) ?_)
   refine vs 1 ?_
   refine At.s rfl rfl (Ox.storeN (cs' := #[_, _]) rfl rfl rfl agg23 rfl (ones_cons rfl (ones_cons rfl ones_nil)) (.there (.skip .here)) rfl rfl rfl (.refl _) ?_)
   refine vs 1 ?_
   refine er ?_
   obtain rfl := sinj hM
   exact rt Tryz.func71 (.agg rfl agg23 rfl (CellsAt.box (.tail _ (List.mem_append_right _ z0))) (.tmp rfl .nil)) (so (subDrop (so (so sr)))) (hk _ _ _ ⟨hRc40, rfl, rfl⟩)
  refine sp ?_
  refine sg rg4 ?_
  refine lN [_, _, _, _, _, _, _, _] 0 8 agg106 z0 ?_
  refine At.s rfl rfl (Ox.makeFunc (vs := #[]) (us := #[_, _]) rfl rfl rfl rfl (.put rfl) ?_)
  refine At.freezeMap (H2 := (b39, _) :: (b36, _) :: (b35, _) :: H) (fun X => (b39, _) :: X ++ ((b36, _) :: (b35, _) :: H)) (.cons .id) rfl hx38r0_7 (fun Rf45 hRf45 hf45 => ?_)
  replace h1 := h1.mono hRf45
  replace hx38r0_3 := hx38r0_3.mono hRf45
  replace hx38r0_4 := hx38r0_4.mono hRf45
  replace hx38r0_5 := hx38r0_5.mono hRf45
  replace hx38r0_6 := hx38r0_6.mono hRf45
  obtain ⟨x44, hx44, hM⟩ := bnd hM
  refine At.cv ent128 (m128_ok x38.1 (fun y => m137 y x38.1 x1) hx38r0_3 hx38r0_4 hx38r0_5 hx38r0_6 hf45 ⟨137, #[], #[_, _], rfl, ent137, fun R' H' hR hH y r va hA hr => by obtain ⟨_, rfl, ⟨ly_1, rfl⟩⟩ := hA; exact (m137_ok y x38.1 x1 ly_1 (CellsAt.box (hH _ z0)) (hx38r0_3.mono hR) (hx38r0_4.mono hR) (hx38r0_5.mono hR) (hx38r0_6.mono hR) (hf45.mono hR) (CellsAt.box (hH _ z2)) (h1.mono hR) hr).mono fun _ _ _ ⟨h1, h2, h3⟩ => ⟨h1 ▸ rr, h2.symm, h3⟩⟩ hx44) ?_
  rintro vx44r0 Rx44 _ ⟨hRx44, rfl, _, hx44r0, rfl⟩
  refine vs 1 ?_
  refine es ?_
  refine At.draw (n := 12) (is := [0, 1, 2, 3, 4, 5, 6, 7, 8, 9, 10, 11]) (many ((b39, .cells #[iv x38.1.book.Limit, iv x38.1.book.Ballast.Least, iv x38.1.book.Ballast.Most, vx38r0_3, vx38r0_4, vx38r0_5, vx38r0_6, vx38r0_7] 106) :: (b36, .cells #[iv 0, iv 0] 23) :: (b35, .cells #[v1] 25) :: H) [(10, (b39, .cells #[iv x38.1.book.Limit, iv x38.1.book.Ballast.Least, iv x38.1.book.Ballast.Most, vx38r0_3, vx38r0_4, vx38r0_5, vx38r0_6, vx38r0_7] 106) :: (b35, .cells #[v1] 25) :: H)]) mixed rfl (by decide +kernel) rfl rfl ?_
  refine Any.vs 1 [0] rfl ?_
  obtain ⟨x46, hx46, hM⟩ := bnd hM
  obtain ⟨x47, hx47, hM⟩ := bnd hM
  obtain ⟨bx46, ox46, _, rfl, hcx46, hix46⟩ := hx44r0.elem slice25 hx46
  refine ts 1 [2, 9, 10, 11] rfl (many_skip rfl (many_nil (su (so (so (so sr)))))) (su (so (so (so sr)))) (fun R' H' hR hS => Ox.indexV rfl rfl rfl hix46 rfl (.one rfl) ⟨rfl, rfl, rfl⟩) ?_
  refine ts 2 [9, 10, 11] rfl (many_skip rfl (many_nil (su (so (so (so sr)))))) (su (so (so (so sr)))) (fun R' H' hR hS => Ox.load1 rfl rfl one3 ((hcx46.up hR).one (j := 0) rfl) rfl (.one rfl) ⟨rfl, rfl, rfl⟩) ?_
  refine Any.vs 2 [3, 4] rfl ?_
  refine ts 5 [6, 7, 8, 9, 10, 11] rfl (many_skip rfl (many_nil (su (so (so (so sr)))))) (su (so (so (so sr)))) (fun R' H' hR hS => Ox.lenS (K := CZ) (k := 1) (xs := x44) rfl rfl (hx44r0.mono hR) Tryz.underlying25 rfl (.one rfl) ⟨rfl, rfl, rfl⟩) ?_
  refine Any.vs 1 [6] rfl ?_
  obtain ⟨bx47, ox47, _, rfl, hcx47, hix47⟩ := hx44r0.elem slice25 hx47
  refine ts 7 [8, 9, 10, 11] rfl (many_skip rfl (many_nil (su (so (so (so sr)))))) (su (so (so (so sr)))) (fun R' H' hR hS => Ox.indexV rfl rfl rfl hix47 rfl (.one rfl) ⟨rfl, rfl, rfl⟩) ?_
  refine ts 8 [9, 10, 11] rfl (many_skip rfl (many_nil (su (so (so (so sr)))))) (su (so (so (so sr)))) (fun R' H' hR hS => Ox.load1 rfl rfl one3 ((hcx47.up hR).one (j := 0) rfl) rfl (.one rfl) ⟨rfl, rfl, rfl⟩) ?_
  refine ts 9 [10, 11] rfl (many_skip rfl (many_nil (su (so (so (so sr)))))) (su (so (so (so sr)))) (fun R' H' hR hS => Ox.build (cells := #[_, _]) rfl struct23 rfl (fill_cons rfl rfl rfl rfl (fill_cons rfl rfl rfl rfl fill_nil)) rfl (.one rfl) ⟨rfl, rfl, rfl⟩) ?_
  refine Any.on 10 rfl rfl (SemTo.to (Ox.storeN (cs' := #[_, _]) rfl rfl rfl agg23 rfl (ones_cons rfl (ones_cons rfl ones_nil)) (.there .here) rfl rfl rfl (.refl _) ⟨rr, (many_at rfl (su (sk (so sr)))), ?_⟩))
  refine Any.vs 1 [11] rfl ?_
  refine Any.done ?_
  obtain rfl := sinj hM
  exact rt Tryz.func71 (.agg rfl agg23 rfl (CellsAt.box z1) (.tmp rfl .nil)) (so (so (so sr))) (hk _ _ _ ⟨((hRc40.trans hRf45).trans hRx44), rfl, rfl⟩)
 intro hcut40
 refine At.dw rg10 mixed ?_
 refine tN 0 [_, _, _, _, _, _] 0 6 agg28 z2 ?_
 refine tl 1 0 one25 z1 ?_
 refine tw 2 7 ?_ ?_
 ·refine  (Ox.callV rfl rfl rfl rfl ent133 rfl rfl ((m133_ok x1 h1 hx37).mono ?_))
  rintro _ Rx37 _ ⟨hRx37, rfl, vx37r0c0, bx37r0c0, hx37r0c0q, hx37r0c0, rfl⟩
  replace h0_3 := h0_3.mono hRx37
  replace h0_4 := h0_4.mono hRx37
  replace h0_5 := h0_5.mono hRx37
  replace h1 := h1.mono hRx37
  replace hG := hG.mono hRx37
  refine ⟨_, (.put rfl), ⟨hRx37, ka, ?_⟩⟩
  refine tw 3 7 ?_ ?_
  ·refine  (Ox.callV rfl rfl rfl rfl ent89 rfl rfl ((m89_ok x0 (fun y => m160 y x37) hG h0_3 h0_4 h0_5 ⟨160, #[], #[_], rfl, ent160, fun R' H' hR hH y r va hA hr => by obtain ⟨_, rfl, ⟨vy_3, vy_4, vy_5, hy_3, hy_4, hy_5, rfl⟩⟩ := hA; exact (m160_ok y x37 hy_3 hy_4 hy_5 (hx37r0c0q.up hR) (hx37r0c0.mono hR) hr).mono fun _ _ _ ⟨h1, h2, h3⟩ => ⟨h1 ▸ rr, h2.symm, h3⟩⟩ hx38).mono ?_))
   rintro _ Rx38 _ ⟨hRx38, Hsx38, vx38r0_3, vx38r0_4, vx38r0_5, vx38r0_6, vx38r0_7, hx38r0_3, hx38r0_4, hx38r0_5, hx38r0_6, hx38r0_7, rfl, rfl⟩
   replace hx37r0c0q := hx37r0c0q.up (H := []) hRx38
   refine ⟨_, (.put rfl), ⟨hRx38, (ku (subDrop sr)), ?_⟩⟩
   refine Any.vs 3 [4, 5, 6] rfl ?_
   refine Any.on 7 rfl rfl (SemTo.to (Ox.alloc (cs := #[iv 0, iv 0, iv 0, .slice none 0 0, .slice none 0 0, .slice none 0 0, .slice none 0 0, .map none]) rfl zero106 rfl fun b39 _ _ => ⟨_, (.put rfl), ⟨rr, (ku (so (subDrop sr))), ?_⟩⟩))
   refine Any.on 8 rfl rfl (SemTo.to (Ox.storeN (cs' := #[_, _, _, _, _, _, _, _]) rfl rfl rfl agg106 rfl (ones_cons rfl (ones_cons rfl (ones_cons rfl (ones_cons hx38r0_3.one (ones_cons hx38r0_4.one (ones_cons hx38r0_5.one (ones_cons hx38r0_6.one (ones_cons hx38r0_7.one ones_nil)))))))) .here rfl rfl rfl (.refl _) ⟨rr, (ku (so (subDrop sr))), ?_⟩))
   refine Any.vs 1 [9] rfl ?_
   exact Any.done (At.drop (sk (subKeep (sk (sk (so sr))))) (hcut40 _ _ _ ⟨(hRx37.trans hRx38), b39, vx38r0_3, vx38r0_4, vx38r0_5, vx38r0_6, vx38r0_7, Hsx38, hx38r0_3, hx38r0_4, hx38r0_5, hx38r0_6, hx38r0_7, rfl, SubT.sub ⟨rfl, rfl, rfl, rfl, trivial⟩⟩))
  refine  (SemTo.to (Ox.alloc (cs := #[iv 0, iv 0, iv 0, .slice none 0 0, .slice none 0 0, .slice none 0 0, .slice none 0 0, .map none]) rfl zero106 rfl fun b39 _ _ => ⟨_, (.put rfl), ⟨rr, (ku (so sr)), ?_⟩⟩))
  refine Any.cv 3 ent89 (m89_ok x0 (fun y => m160 y x37) hG h0_3 h0_4 h0_5 ⟨160, #[], #[_], rfl, ent160, fun R' H' hR hH y r va hA hr => by obtain ⟨_, rfl, ⟨vy_3, vy_4, vy_5, hy_3, hy_4, hy_5, rfl⟩⟩ := hA; exact (m160_ok y x37 hy_3 hy_4 hy_5 (hx37r0c0q.up hR) (hx37r0c0.mono hR) hr).mono fun _ _ _ ⟨h1, h2, h3⟩ => ⟨h1 ▸ rr, h2.symm, h3⟩⟩ hx38) ?_
  rintro _ Rx38 _ ⟨hRx38, Hsx38, vx38r0_3, vx38r0_4, vx38r0_5, vx38r0_6, vx38r0_7, hx38r0_3, hx38r0_4, hx38r0_5, hx38r0_6, hx38r0_7, rfl, rfl⟩
  replace hx37r0c0q := hx37r0c0q.up (H := []) hRx38
  refine ⟨hRx38, (ku (subDrop (so sr))), ?_⟩
  refine Any.vs 3 [4, 5, 6] rfl ?_
  refine Any.on 8 rfl rfl (SemTo.to (Ox.storeN (cs' := #[_, _, _, _, _, _, _, _]) rfl rfl rfl agg106 rfl (ones_cons rfl (ones_cons rfl (ones_cons rfl (ones_cons hx38r0_3.one (ones_cons hx38r0_4.one (ones_cons hx38r0_5.one (ones_cons hx38r0_6.one (ones_cons hx38r0_7.one ones_nil)))))))) (.skip .here) rfl rfl rfl (.refl _) ⟨rr, (ku (subDrop (so sr))), ?_⟩))
  refine Any.vs 1 [9] rfl ?_
  exact Any.done (At.drop (subKeep (sk (sk (sk (so sr))))) (At.perm (swCA _ _ _) (hcut40 _ _ _ ⟨(hRx37.trans hRx38), b39, vx38r0_3, vx38r0_4, vx38r0_5, vx38r0_6, vx38r0_7, Hsx38, hx38r0_3, hx38r0_4, hx38r0_5, hx38r0_6, hx38r0_7, rfl, SubT.sub ⟨rfl, rfl, rfl, rfl, trivial⟩⟩)))
 refine  (SemTo.to (Ox.alloc (cs := #[iv 0, iv 0, iv 0, .slice none 0 0, .slice none 0 0, .slice none 0 0, .slice none 0 0, .map none]) rfl zero106 rfl fun b39 _ _ => ⟨_, (.put rfl), ⟨rr, (ku (so sr)), ?_⟩⟩))
 refine Any.cv 2 ent133 (m133_ok x1 h1 hx37) ?_
 rintro _ Rx37 _ ⟨hRx37, rfl, vx37r0c0, bx37r0c0, hx37r0c0q, hx37r0c0, rfl⟩
 replace h0_3 := h0_3.mono hRx37
 replace h0_4 := h0_4.mono hRx37
 replace h0_5 := h0_5.mono hRx37
 replace h1 := h1.mono hRx37
 replace hG := hG.mono hRx37
 refine ⟨hRx37, (ku (so sr)), ?_⟩
 refine Any.cv 3 ent89 (m89_ok x0 (fun y => m160 y x37) hG h0_3 h0_4 h0_5 ⟨160, #[], #[_], rfl, ent160, fun R' H' hR hH y r va hA hr => by obtain ⟨_, rfl, ⟨vy_3, vy_4, vy_5, hy_3, hy_4, hy_5, rfl⟩⟩ := hA; exact (m160_ok y x37 hy_3 hy_4 hy_5 (hx37r0c0q.up hR) (hx37r0c0.mono hR) hr).mono fun _ _ _ ⟨h1, h2, h3⟩ => ⟨h1 ▸ rr, h2.symm, h3⟩⟩ hx38) ?_
 rintro _ Rx38 _ ⟨hRx38, Hsx38, vx38r0_3, vx38r0_4, vx38r0_5, vx38r0_6, vx38r0_7, hx38r0_3, hx38r0_4, hx38r0_5, hx38r0_6, hx38r0_7, rfl, rfl⟩
 replace hx37r0c0q := hx37r0c0q.up (H := []) hRx38
 refine ⟨hRx38, (ku (subDrop (so sr))), ?_⟩
 refine Any.vs 3 [4, 5, 6] rfl ?_
 refine Any.on 8 rfl rfl (SemTo.to (Ox.storeN (cs' := #[_, _, _, _, _, _, _, _]) rfl rfl rfl agg106 rfl (ones_cons rfl (ones_cons rfl (ones_cons rfl (ones_cons hx38r0_3.one (ones_cons hx38r0_4.one (ones_cons hx38r0_5.one (ones_cons hx38r0_6.one (ones_cons hx38r0_7.one ones_nil)))))))) (.skip .here) rfl rfl rfl (.refl _) ⟨rr, (ku (subDrop (so sr))), ?_⟩))
 refine Any.vs 1 [9] rfl ?_
 exact Any.done (At.drop (subKeep (sk (sk (sk (so sr))))) (At.perm (swCA _ _ _) (hcut40 _ _ _ ⟨(hRx37.trans hRx38), b39, vx38r0_3, vx38r0_4, vx38r0_5, vx38r0_6, vx38r0_7, Hsx38, hx38r0_3, hx38r0_4, hx38r0_5, hx38r0_6, hx38r0_7, rfl, SubT.sub ⟨rfl, rfl, rfl, rfl, trivial⟩⟩)))
theorem m87_ok   {r : HullBook} (hM : m87  = some r) : FnOk 𝒥 87 #[] R H (fun v R' H' => RLe R R' ∧ H = H' ∧ ∃ vr0_3 vr0_4 vr0_5, SlR CHullPiece 5 R' vr0_3 r.Pieces ∧ SlR CZ 1 R' vr0_4 r.Out ∧ SlR CHullHeel 2 R' vr0_5 r.Heels ∧ v = .agg #[iv r.Limit, iv r.Ballast.Least, iv r.Ballast.Most, vr0_3, vr0_4, vr0_5]) := by
 unfold m87 at hM
 refine FnOk.of_at Tryz.func87 rfl (n := 10) rfl rfl fun fr cs hk => ?_
 refine sg rg1 ?_
 refine At.s rfl rfl (Ox.alloc (cs := #[iv 0, iv 0, iv 0, .slice none 0 0, .slice none 0 0, .slice none 0 0]) rfl zero28 rfl fun b28 _ _ => ⟨_, (.put rfl), ?_⟩)
 refine nx rg10 ?_
 obtain ⟨x29, hx29, hM⟩ := bnd hM
 refine At.cv ent72 (m72_ok 20 21  hx29) ?_
 rintro _ _ _ ⟨rfl, rfl, rfl⟩
 refine At.s rfl rfl (Ox.build (cells := #[_, _, _, _, _]) rfl struct58 rfl (fill_cons rfl rfl rfl rfl (fill_cons rfl rfl rfl rfl (fill_cons rfl rfl rfl rfl fill_nil))) rfl (.put rfl) ?_)
 obtain ⟨x30, hx30, hM⟩ := bnd hM
 refine At.cv ent45 (m45_ok 30  hx30) ?_
 rintro _ _ _ ⟨rfl, rfl, rfl⟩
 refine At.s rfl rfl (Ox.build (cells := #[_, _, _, _, _]) rfl struct58 rfl (fill_cons rfl rfl rfl rfl (fill_cons rfl rfl rfl rfl (fill_cons rfl rfl rfl rfl fill_nil))) rfl (.put rfl) ?_)
 obtain ⟨x31, hx31, hM⟩ := bnd hM
 refine At.cv ent45 (m45_ok 10  hx31) ?_
 rintro _ _ _ ⟨rfl, rfl, rfl⟩
 refine At.s rfl rfl (Ox.buildSlice (cells := #[_]) rfl elem25 rfl (by decide) base25_1 (fill_cons rfl rfl rfl rfl fill_nil) rfl fun b32 _ _ => ⟨_, (.put rfl), ?_⟩)
 refine At.s rfl rfl (Ox.build (cells := #[_, _, _, _, _]) rfl struct58 rfl (fill_cons rfl rfl rfl rfl (fill_cons rfl rfl rfl rfl (fill_cons rfl rfl rfl rfl (fill_cons rfl rfl rfl rfl fill_nil)))) rfl (.put rfl) ?_)
 refine At.freezeLit (K := CZ) (k := 1) (H2 := (b28, _) :: H) (fun X => X ++ ((b28, _) :: H)) .id rfl (Enc.le (Enc.cons (x := 0) rfl rfl Enc.nil) rfl) rfl (fun Rf34 hRf34 hf34 => ?_)
 refine At.s rfl rfl (Ox.buildSlice (cells := #[_, _, _, _, _, _, _, _, _, _, _, _, _, _, _]) rfl elem24 rfl (by decide) base24_3 (fill_cons (cells' := #[_, _, _, _, _, _, _, _, _, _, _, _, _, _, _]) rfl rfl rfl rfl (fill_cons (cells' := #[_, _, _, _, _, _, _, _, _, _, _, _, _, _, _]) rfl rfl rfl rfl (fill_cons (cells' := #[_, _, _, _, _, _, _, _, _, _, _, _, _, _, _]) rfl rfl rfl rfl fill_nil))) rfl fun b33 _ _ => ⟨_, (.put rfl), ?_⟩)
 refine At.s rfl rfl (Ox.build (cells := #[_, _, _, _, _, _]) rfl struct28 rfl (fill_cons rfl rfl rfl rfl (fill_cons rfl rfl rfl rfl fill_nil)) rfl (.put rfl) ?_)
 refine At.s rfl rfl (Ox.storeN (cs' := #[_, _, _, _, _, _]) rfl rfl rfl agg28 rfl (ones_cons rfl (ones_cons rfl (ones_cons rfl (ones_cons rfl (ones_cons rfl (ones_cons rfl ones_nil)))))) (.there .here) rfl rfl rfl (.refl _) ?_)
 refine er ?_
 refine At.freezeLit (K := CHullPiece) (k := 5) (H2 := (b28, _) :: H) (fun X => X ++ ((b28, _) :: H)) .id rfl (Enc.le (Enc.cons (x := (⟨⟨#[103, 117, 110]⟩, (-3), ⟨x29.Least, x29.Most⟩, []⟩ : HullPiece)) ⟨_, SlR.nil, rfl⟩ rfl (Enc.cons (x := (⟨⟨#[99, 104, 101, 115, 116]⟩, 2, ⟨x30.Least, x30.Most⟩, []⟩ : HullPiece)) ⟨_, SlR.nil, rfl⟩ rfl (Enc.cons (x := (⟨⟨#[97, 110, 99, 104, 111, 114]⟩, 1, ⟨x31.Least, x31.Most⟩, [0]⟩ : HullPiece)) ⟨_, hf34, rfl⟩ rfl Enc.nil))) rfl) rfl (fun Rf35 hRf35 hf35 => ?_)
 obtain rfl := sinj hM
 exact rt Tryz.func87 (.agg rfl agg28 rfl (CellsAt.box z0) .nil) (so sr) (hk _ _ _ ⟨(hRf34.trans hRf35), rfl, .slice (some ⟨b33, 0, none⟩) 3 3, .slice none 0 0, .slice none 0 0, hf35, SlR.nil, SlR.nil, rfl⟩)
end
end Go.Proofs.YtabamagholjdcaaGreatDoor
