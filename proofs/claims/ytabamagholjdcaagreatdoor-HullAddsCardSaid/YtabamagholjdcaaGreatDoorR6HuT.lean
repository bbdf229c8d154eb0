/- Walks, part 6: each function computes its model. -/
import Derived.Test.YtabamagholjdcaaGreatDoorQHuP8
import Derived.Test.YtabamagholjdcaaGreatDoorQLgD
namespace Go.Proofs.YtabamagholjdcaaGreatDoor
open Go.Lg Go.Proofs
set_option maxRecDepth 100000
set_option maxHeartbeats 4000000
section
variable {B : Base} {main : Bool} {𝒥 : Jd Tryz.prog B main} {R : RMap} {H : HList}
theorem m6_top {PW : Value → World → Prop} (x0 : HullBook) (x1 : (List Int)) (x2 : Int) (x3 : Int) {v0_3 v0_4 v0_5 v1 : Value} (hG : GOk R) (hK : Reckons (mainJd Tryz.prog B PW)) (h0_3 : SlR CHullPiece 5 R v0_3 x0.Pieces) (h0_4 : SlR CZ 1 R v0_4 x0.Out) (h0_5 : SlR CHullHeel 2 R v0_5 x0.Heels) (h1 : RdS (CI .u16) 1 R H v1 x1) {r : Bool} (hM : m6 x0 x1 x2 x3 = some r) : TopOk Tryz.prog B PW 6 #[.agg #[iv x0.Limit, iv x0.Ballast.Least, iv x0.Ballast.Most, v0_3, v0_4, v0_5], v1, .int .u8 x2, .int .u8 x3] R H (fun v R' H' => RLe R R' ∧ H = H' ∧ v = .bool r) := by
 unfold m6 at hM
 refine TopOk.of_at (args := [.agg #[iv x0.Limit, iv x0.Ballast.Least, iv x0.Ballast.Most, v0_3, v0_4, v0_5], v1, .int .u8 x2, .int .u8 x3]) Tryz.func6 rfl (n := 159) rfl rfl fun hk => ?_
 refine sg rg2 ?_
 refine bx fun b84 => ?_
 refine vs 1 ?_
 refine es ?_
 refine sg rg3 ?_
 refine lN [_, _, _, _, _, _] 0 6 agg28 z0 ?_
 obtain ⟨x85, hx85, hM⟩ := bnd hM
 refine At.cv ent42 (m42_ok x0 h0_3 h0_4 h0_5 hx85) ?_
 rintro _ _ _ ⟨rfl, rfl, rfl⟩
 refine vs 1 ?_
 refine er ?_
 refine sc hM (fun ht89 hM => ?_) (fun ht89 hM => ?_)
 ·refine sg rg2 ?_
  obtain ⟨x90, hx90, hM⟩ := bnd hM
  refine At.cv ent19 (m19_ok  hG hK hx90) ?_
  rintro _ Rx90 _ ⟨hRx90, rfl, rfl⟩
  refine vs 1 ?_
  refine er ?_
  obtain rfl := sinj hM
  exact At.retT Tryz.func6 (by kernel_rfl) (.tmp rfl .nil) (so sr) hk ⟨hRx90, rfl, rfl⟩
 refine sp ?_
 refine sg rg6 ?_
 refine vs 1 ?_
 obtain ⟨x91, hx91, hM⟩ := bnd hM
 refine At.cv ent48 (m48_ok x1 0 (h1.sub (su (so sr))) hx91) ?_
 rintro _ _ _ ⟨rfl, rfl, rfl⟩
 obtain ⟨x92, hx92, hM⟩ := bnd hM
 refine At.s rfl rfl (Ox.rem rfl rfl rfl hx92 rfl (.put rfl) ?_)
 refine At.s rfl rfl (Ox.build (cells := #[_, _]) rfl struct66 rfl (fill_cons rfl rfl rfl rfl fill_nil) rfl (.put rfl) ?_)
 refine At.s rfl rfl (Ox.alloc (cs := #[iv 0, .slice none 0 0]) rfl zero66 rfl fun b93 _ _ => ⟨_, (.put rfl), ?_⟩)
 refine At.s rfl rfl (Ox.storeN (cs' := #[_, _]) rfl rfl rfl agg66 rfl (ones_cons rfl (ones_cons rfl ones_nil)) .here rfl rfl rfl (.refl _) ?_)
 refine nx rg3 ?_
 refine vs 1 ?_
 refine ld 0 one3 z0 ?_
 refine vs 1 ?_
 refine es ?_
 refine sg rg1 ?_
 refine vs 1 ?_
 refine er ?_
 refine At.block ?_
 refine At.loopE1 hM (fun (s94 : (Int × Int × (List Int))) R' H' st' => R = R' ∧ ∃ v94s_2 Hs94s_2, OwnSl CZ 1 3 R' v94s_2 s94.2.2 Hs94s_2 ∧ H' = Hs94s_2 ++ ((b93, .cells #[iv x92, v94s_2] 66) :: (b84, .cells #[iv x0.Limit, iv x0.Ballast.Least, iv x0.Ballast.Most, v0_3, v0_4, v0_5] 28) :: H) ∧ SubL st' [(1, v1), (2, .int .u8 x2), (3, .int .u8 x3), (4, .pointer (some ⟨b84, 0, none⟩)), (9, .pointer (some ⟨b93, 0, none⟩)), (10, iv s94.1), (11, iv s94.2.1)]) (fun (p94_0 : (Int × (List Int))) R' H' st' => R = R' ∧ ∃ v94_0_1 Hs94_0_1, OwnSl CZ 1 3 R' v94_0_1 p94_0.2 Hs94_0_1 ∧ H' = Hs94_0_1 ++ ((b93, .cells #[iv x92, v94_0_1] 66) :: (b84, .cells #[iv x0.Limit, iv x0.Ballast.Least, iv x0.Ballast.Most, v0_3, v0_4, v0_5] 28) :: H) ∧ SubL st' [(2, .int .u8 x2), (3, .int .u8 x3), (4, .pointer (some ⟨b84, 0, none⟩)), (9, .pointer (some ⟨b93, 0, none⟩)), (10, iv p94_0.1)]) 0 rfl ⟨rfl, .slice none 0 0, [], OwnSl.nil, rfl, SubT.sub ⟨rfl, rfl, rfl, rfl, rfl, rfl, rfl, trivial⟩⟩ ?_ ?_
 rotate_right
 ·rintro s94 R94 H94 st94 ⟨rfl, v94s_2, Hs94s_2, ho94s_2, rfl, hst94⟩ x94 hM again94 ex94_0
  refine At.sub hst94 ?_
  refine sq ?_
  refine sg rg5 ?_
  refine vs 2 ?_
  refine ld 3 one24 (List.mem_append_right _ z1) ?_
  refine ls h0_3 Tryz.underlying24 ?_
  refine vs 1 ?_
  refine er ?_
  refine sc hM (fun ht115 hM => ?_) (fun ht115 hM => ?_)
  ·refine sp ?_
   refine sq ?_
   refine At.block ?_
   refine sq ?_
   refine At.draw (n := 11) (is := [0, 1, 2, 3, 4, 5, 6, 7, 8, 9, 10]) (many (Hs94s_2 ++ ((b93, .cells #[iv x92, v94s_2] 66) :: (b84, .cells #[iv x0.Limit, iv x0.Ballast.Least, iv x0.Ballast.Most, v0_3, v0_4, v0_5] 28) :: H)) [(8, (b93, .cells #[iv x92, v94s_2] 66) :: (b84, .cells #[iv x0.Limit, iv x0.Ballast.Least, iv x0.Ballast.Most, v0_3, v0_4, v0_5] 28) :: H), (10, (b84, .cells #[iv x0.Limit, iv x0.Ballast.Least, iv x0.Ballast.Most, v0_3, v0_4, v0_5] 28) :: H)]) mixed rfl (by decide +kernel) rfl rfl ?_
   refine Any.vs 1 [0] rfl ?_
   refine ts 1 [8, 9, 10] rfl (many_skip rfl (many_skip rfl (many_nil (su (subDrop (sk (so sr))))))) (su (subDrop (sk (so sr)))) (fun R' H' hR hS => Ox.load1 rfl rfl one25 ((CellsAt.box (hS _ z0)).one (j := 1) rfl) rfl (.one rfl) ⟨rfl, rfl, rfl⟩) ?_
   refine Any.vs 3 [2, 3, 4] rfl ?_
   obtain ⟨x116, hx116, hM⟩ := bnd hM
   refine Any.cv 5 ent48 (m48_ok x1 (i64 (1 + s94.2.1)) (h1.sub (su (subDrop (so (so sr))))) hx116) ?_
   rintro _ _ _ ⟨rfl, rfl, rfl⟩
   refine ⟨rr, (many_at rfl pp), ?_⟩
   obtain ⟨x117, hx117, hM⟩ := bnd hM
   refine ts 6 [7, 8, 9, 10] rfl (many_skip rfl (many_skip rfl (many_nil (su (subDrop (so (so sr))))))) (su (subDrop (so (so sr)))) (fun R' H' hR hS => Ox.rem rfl rfl rfl hx117 rfl (.one rfl) ⟨rfl, rfl, rfl⟩) ?_
   refine Any.on 7 rfl rfl (SemTo.to (Ox.buildSlice (cells := #[_]) rfl elem25 rfl (by decide) base25_1 (fill_cons rfl rfl rfl rfl fill_nil) rfl fun b118 _ _ => ⟨_, (.put rfl), ⟨rr, (many_at rfl (su (so sr))), ?_⟩⟩))
   obtain ⟨x119, hx119, hM⟩ := bnd hM
   refine Any.on 8 rfl rfl (SemTo.to (Ox.append (K := CZ) (fun X => (b118, _) :: X ++ ((b93, _) :: (b84, _) :: H)) rfl rfl rfl app25 Tryz.underlying25 (by simp) (.cons .id) ho94s_2 (ArgSl.lit z0 (Enc.le (Enc.cons (x := x117) rfl rfl Enc.nil) rfl) rfl) hx119 rfl fun vx119 Hsx119 hox119 => ⟨_, (.put rfl), ⟨rr, (many_at rfl (su (so (subDrop sr)))), ?_⟩⟩))
   refine Any.vs 1 [9] rfl ?_
   refine Any.on 10 rfl rfl (SemTo.to (Ox.store1 (cs' := #[_, _]) rfl rfl rfl one25 hox119.one (.there (.skip .here)) rfl rfl rfl (.refl _) ⟨rr, (many_at rfl (su (so (subDrop (so sr))))), ?_⟩))
   refine Any.done ?_
   refine At.dw rg15 mixed ?_
   refine Any.vs 2 [0, 1] rfl ?_
   refine Any.tk 2 rfl pp (fun R' H' hR hS => Ox.load1 rfl rfl one24 ((CellsAt.box (hS _ (.tail _ (List.mem_append_right _ z1)))).one (j := 3) rfl) rfl (.one rfl) ⟨rfl, rfl, rfl⟩) ?_
   refine Any.vs 1 [3] rfl ?_
   obtain ⟨x120, hx120, hM⟩ := bnd hM
   obtain ⟨x121, hx121, hM⟩ := bnd hM
   obtain ⟨bx120, ox120, _, ⟨vx120_4, hx120_4, rfl⟩, hcx120, hix120⟩ := h0_3.elem slice24 hx120
   refine Any.tk 4 rfl pp (fun R' H' hR hS => Ox.indexV rfl rfl rfl hix120 rfl (.one rfl) ⟨rfl, rfl, rfl⟩) ?_
   refine Any.vs 1 [5] rfl ?_
   refine Any.tk 6 rfl pp (fun R' H' hR hS => Ox.load1 rfl rfl one3 ((hcx120.up hR).one (j := 1) rfl) rfl (.one rfl) ⟨rfl, rfl, rfl⟩) ?_
   refine Any.vs 1 [7] rfl ?_
   refine Any.tk 8 rfl pp (fun R' H' hR hS => Ox.load1 rfl rfl one25 ((CellsAt.box (hS _ (.tail _ (List.mem_append_right _ z0)))).one (j := 1) rfl) rfl (.one rfl) ⟨rfl, rfl, rfl⟩) ?_
   refine Any.vs 1 [9] rfl ?_
   obtain ⟨bx121, ox121, _, rfl, hcx121, hix121⟩ := (hox119.rd (fun _ h => (.tail _ (List.mem_append_left _ h)))).elem slice25 hx121
   refine Any.tk 10 rfl pp (fun R' H' hR hS => Ox.indexV rfl rfl rfl hix121 rfl (.one rfl) ⟨rfl, rfl, rfl⟩) ?_
   refine Any.tk 11 rfl pp (fun R' H' hR hS => Ox.load1 rfl rfl one3 (((hcx121.le hR).sub (fun p h => hS p (pp p h))).one (j := 0) rfl) rfl (.one rfl) ⟨rfl, rfl, rfl⟩) ?_
   refine Any.vs 3 [12, 13, 14] rfl ?_
   refine Any.done ?_
   refine At.inBlock ?_
   refine At.rg rg3 ?_
   refine vs 3 ?_
   refine er ?_
   exact At.drop (so sr) (again94 _ (sinj hM).symm _ _ _ ⟨rfl, vx119, Hsx119, hox119, rfl, SubT.sub ⟨rfl, rfl, rfl, rfl, rfl, rfl, rfl, trivial⟩⟩)
  exact At.exit rfl (ex94_0 _ (sinj hM).symm _ _ _ ⟨rfl, v94s_2, Hs94s_2, ho94s_2, rfl, SubT.sub ⟨rfl, rfl, rfl, rfl, rfl, trivial⟩⟩)
 rintro p94_0 R94_0 H94_0 st94_0 ⟨rfl, v94_0_1, Hs94_0_1, ho94_0_1, rfl, hst94_0⟩ hM
 refine At.sub hst94_0 ?_
 refine sg rg7 ?_
 refine vs 1 ?_
 refine At.s rfl rfl (Ox.convI rfl rfl Tryz.underlying5 Tryz.underlying3 rfl (.put rfl) ?_)
 refine vs 1 ?_
 refine ld 3 one24 (List.mem_append_right _ z1) ?_
 refine ls h0_3 Tryz.underlying24 ?_
 obtain ⟨x122, hx122, hM⟩ := bnd hM
 refine At.s rfl rfl (Ox.rem rfl rfl rfl hx122 rfl (.put rfl) ?_)
 refine vs 1 ?_
 refine es ?_
 refine At.dw rg9 mixed ?_
 refine Any.vs 2 [0, 1] rfl ?_
 obtain ⟨x123, hx123, hM⟩ := bnd hM
 refine Any.tk 2 rfl pp (fun R' H' hR hS => Ox.shl rfl rfl rfl hx123 rfl (.one rfl) ⟨rfl, rfl, rfl⟩) ?_
 obtain ⟨x124, hx124, hM⟩ := bnd hM
 refine Any.tk 3 rfl pp (fun R' H' hR hS => Ox.bits rfl rfl rfl hx124 rfl (.one rfl) ⟨rfl, rfl, rfl⟩) ?_
 refine Any.vs 1 [4] rfl ?_
 refine tl 5 3 one24 (List.mem_append_right _ z1) ?_
 refine Any.tk 6 rfl pp (fun R' H' hR hS => Ox.lenS (K := CHullPiece) (k := 5) (xs := x0.Pieces) rfl rfl (h0_3.mono hR) Tryz.underlying24 rfl (.one rfl) ⟨rfl, rfl, rfl⟩) ?_
 obtain ⟨x125, hx125, hM⟩ := bnd hM
 refine Any.cv 7 ent49 (m49_ok x124 (x0.Pieces.length : Int)  hx125) ?_
 rintro vx125r0 Rx125 _ ⟨hRx125, rfl, _, hx125r0, rfl⟩
 replace h0_3 := h0_3.mono hRx125
 replace h0_4 := h0_4.mono hRx125
 replace h0_5 := h0_5.mono hRx125
 replace hG := hG.mono hRx125
 replace ho94_0_1 := ho94_0_1.mono hRx125
 refine ⟨hRx125, ka, ?_⟩
 refine Any.vs 1 [8] rfl ?_
 refine Any.done ?_
 refine sg rg8 ?_
 refine lN [_, _, _, _, _, _] 0 6 agg28 (List.mem_append_right _ z1) ?_
 refine lN [_, _] 0 2 agg66 (List.mem_append_right _ z0) ?_
 refine At.freezeOwn (H2 := (b93, _) :: (b84, _) :: H) (fun X => X ++ ((b93, _) :: (b84, _) :: H)) .id rfl ho94_0_1 (fun Rf127 hRf127 hf127 => ?_)
 replace h0_3 := h0_3.mono hRf127
 replace h0_4 := h0_4.mono hRf127
 replace h0_5 := h0_5.mono hRf127
 replace hG := hG.mono hRf127
 replace hx125r0 := hx125r0.mono hRf127
 obtain ⟨x126, hx126, hM⟩ := bnd hM
 refine At.cv ent50 (m50_ok x0 (⟨x92, p94_0.2⟩ : HullCase) [] hG h0_3 h0_4 h0_5 hf127 SlR.nil.rd hx126) ?_
 rintro _ Rx126 _ ⟨hRx126, rfl, rfl⟩
 replace h0_3 := h0_3.mono hRx126
 replace h0_4 := h0_4.mono hRx126
 replace h0_5 := h0_5.mono hRx126
 replace hG := hG.mono hRx126
 replace hf127 := hf127.mono hRx126
 replace hx125r0 := hx125r0.mono hRx126
 refine vs 5 ?_
 refine nx rg9 ?_
 refine lN [_, _, _, _, _, _] 0 6 agg28 z1 ?_
 refine lN [_, _] 0 2 agg66 z0 ?_
 refine vs 1 ?_
 obtain ⟨x128, hx128, hM⟩ := bnd hM
 refine At.cv ent50 (m50_ok x0 (⟨x92, p94_0.2⟩ : HullCase) x125 hG h0_3 h0_4 h0_5 hf127 hx125r0.rd hx128) ?_
 rintro _ Rx128 _ ⟨hRx128, rfl, rfl⟩
 replace h0_3 := h0_3.mono hRx128
 replace h0_4 := h0_4.mono hRx128
 replace h0_5 := h0_5.mono hRx128
 replace hG := hG.mono hRx128
 replace hf127 := hf127.mono hRx128
 replace hx125r0 := hx125r0.mono hRx128
 refine vs 5 ?_
 refine es ?_
 obtain ⟨x130, hx130, hM⟩ := bnd hM
 obtain ⟨x132, hx132, hM⟩ := bnd hM
 obtain ⟨x133, hx133, hM⟩ := bnd hM
 obtain ⟨x134, hx134, hM⟩ := bnd hM
 refine At.cut (fun R' H' st' => RLe Rx128 R' ∧ H' = (b93, .cells #[iv x92, v94_0_1] 66) :: (b84, .cells #[iv x0.Limit, iv x0.Ballast.Least, iv x0.Ballast.Most, v0_3, v0_4, v0_5] 28) :: H ∧ SubL st' [(4, .pointer (some ⟨b84, 0, none⟩)), (9, .pointer (some ⟨b93, 0, none⟩)), (10, iv p94_0.1), (12, iv x122), (14, iv x126.1), (15, iv x126.2), (16, iv x128.1), (17, iv x128.2), (18, iv x134.1), (19, iv x134.2)]) ?_ ?_
 ·rintro Rc135 Hc135 stc135 ⟨hRc135, rfl, hstc135⟩
  refine At.sub hstc135 ?_
  replace h0_3 := h0_3.mono hRc135
  replace h0_4 := h0_4.mono hRc135
  replace h0_5 := h0_5.mono hRc135
  replace hG := hG.mono hRc135
  replace hf127 := hf127.mono hRc135
  refine sq ?_
  refine At.dw rg12 mixed ?_
  refine tN 0 [_, _, _, _, _, _] 0 6 agg28 z1 ?_
  refine tN 1 [_, _] 0 2 agg66 z0 ?_
  refine Any.vs 1 [2] rfl ?_
  refine tl 3 3 one24 z1 ?_
  refine Any.tk 4 rfl pp (fun R' H' hR hS => Ox.lenS (K := CHullPiece) (k := 5) (xs := x0.Pieces) rfl rfl (h0_3.mono hR) Tryz.underlying24 rfl (.one rfl) ⟨rfl, rfl, rfl⟩) ?_
  obtain ⟨x136, hx136, hM⟩ := bnd hM
  refine Any.cv 5 ent52 (m52_ok (x0.Pieces.length : Int)  hx136) ?_
  rintro vx136r0 Rx136 _ ⟨hRx136, rfl, _, hx136r0, rfl⟩
  replace h0_3 := h0_3.mono hRx136
  replace h0_4 := h0_4.mono hRx136
  replace h0_5 := h0_5.mono hRx136
  replace hG := hG.mono hRx136
  replace hf127 := hf127.mono hRx136
  refine ⟨hRx136, ka, ?_⟩
  obtain ⟨x137, hx137, hM⟩ := bnd hM
  refine Any.cv 6 ent50 (m50_ok x0 (⟨x92, p94_0.2⟩ : HullCase) x136 hG h0_3 h0_4 h0_5 hf127 hx136r0.rd hx137) ?_
  rintro _ Rx137 _ ⟨hRx137, rfl, rfl⟩
  replace h0_3 := h0_3.mono hRx137
  replace hG := hG.mono hRx137
  replace hf127 := hf127.mono hRx137
  refine ⟨hRx137, ka, ?_⟩
  refine Any.vs 5 [7, 8, 9, 10, 11] rfl ?_
  refine Any.done ?_
  refine sq ?_
  refine At.dw rg47 mixed ?_
  refine Any.vs 3 [0, 1, 2] rfl ?_
  refine selC hM (fun ht138 hM => ?_) (fun ht138 hM => ?_)
  ·refine Any.known (t := 115) rfl ht138 ?_
   refine Any.vs 4 [3, 4, 5, 6] rfl ?_
   refine selC hM (fun ht139 hM => ?_) (fun ht139 hM => ?_)
   ·refine Any.known (t := 119) rfl ht139 ?_
    refine Any.vs 4 [7, 8, 9, 10] rfl ?_
    refine selC hM (fun ht140 hM => ?_) (fun ht140 hM => ?_)
    ·refine Any.known (t := 123) rfl ht140 ?_
     refine Any.vs 4 [11, 12, 13, 14] rfl ?_
     refine selC hM (fun ht141 hM => ?_) (fun ht141 hM => ?_)
     ·refine Any.known (t := 127) rfl ht141 ?_
      refine Any.vs 5 [15, 16, 17, 18, 19] rfl ?_
      refine selC hM (fun ht142 hM => ?_) (fun ht142 hM => ?_)
      ·refine Any.known (t := 132) rfl ht142 ?_
       refine Any.vs 4 [20, 21, 22, 23] rfl ?_
       refine tl 24 3 one24 z1 ?_
       refine Any.vs 1 [25] rfl ?_
       obtain ⟨x143, hx143, hM⟩ := bnd hM
       obtain ⟨x144, hx144, hM⟩ := bnd hM
       refine selC hM (fun ht145 hM => ?_) (fun ht145 hM => ?_)
       ·refine selC hM (fun ht146 hM => ?_) (fun ht146 hM => ?_)
        ·obtain ⟨x147, hx147, hM⟩ := bnd hM
         obtain ⟨bx143, ox143, _, ⟨vx143_4, hx143_4, rfl⟩, hcx143, hix143⟩ := h0_3.elem slice24 hx143
         refine Any.tk 26 rfl pp (fun R' H' hR hS => Ox.indexV rfl rfl rfl hix143 rfl (.one rfl) ⟨rfl, rfl, rfl⟩) ?_
         refine Any.vs 1 [27] rfl ?_
         refine Any.tk 28 rfl pp (fun R' H' hR hS => Ox.load1 rfl rfl one3 ((hcx143.up hR).one (j := 1) rfl) rfl (.one rfl) ⟨rfl, rfl, rfl⟩) ?_
         refine Any.vs 1 [29] rfl ?_
         refine tl 30 1 one25 z0 ?_
         refine Any.vs 1 [31] rfl ?_
         obtain ⟨bx144, ox144, _, rfl, hcx144, hix144⟩ := hf127.elem slice25 hx144
         refine Any.tk 32 rfl pp (fun R' H' hR hS => Ox.indexV rfl rfl rfl hix144 rfl (.one rfl) ⟨rfl, rfl, rfl⟩) ?_
         refine Any.tk 33 rfl pp (fun R' H' hR hS => Ox.load1 rfl rfl one3 ((hcx144.up hR).one (j := 0) rfl) rfl (.one rfl) ⟨rfl, rfl, rfl⟩) ?_
         refine Any.vs 4 [34, 35, 36, 37] rfl ?_
         refine Any.known (t := 150) rfl ht145 ?_
         refine Any.vs 2 [38, 39] rfl ?_
         refine tl 40 0 one3 z0 ?_
         refine Any.vs 3 [41, 42, 43] rfl ?_
         refine Any.known (t := 156) rfl ht146 ?_
         refine Any.cv 44 ent19 (m19_ok  hG hK hx147) ?_
         rintro _ Rx147 _ ⟨hRx147, rfl, rfl⟩
         replace hcx143 := hcx143.up (H := []) hRx147
         replace hcx144 := hcx144.up (H := []) hRx147
         refine ⟨hRx147, ka, ?_⟩
         refine Any.vs 2 [45, 46] rfl ?_
         refine Any.done ?_
         obtain rfl := sinj hM
         exact At.retT Tryz.func6 (by kernel_rfl) (.tmp rfl .nil) (so (so sr)) hk ⟨(((((((hRx125.trans hRf127).trans hRx126).trans hRx128).trans hRc135).trans hRx136).trans hRx137).trans hRx147), rfl, rfl⟩
        obtain ⟨bx143, ox143, _, ⟨vx143_4, hx143_4, rfl⟩, hcx143, hix143⟩ := h0_3.elem slice24 hx143
        refine Any.tk 26 rfl pp (fun R' H' hR hS => Ox.indexV rfl rfl rfl hix143 rfl (.one rfl) ⟨rfl, rfl, rfl⟩) ?_
        refine Any.vs 1 [27] rfl ?_
        refine Any.tk 28 rfl pp (fun R' H' hR hS => Ox.load1 rfl rfl one3 ((hcx143.up hR).one (j := 1) rfl) rfl (.one rfl) ⟨rfl, rfl, rfl⟩) ?_
        refine Any.vs 1 [29] rfl ?_
        refine tl 30 1 one25 z0 ?_
        refine Any.vs 1 [31] rfl ?_
        obtain ⟨bx144, ox144, _, rfl, hcx144, hix144⟩ := hf127.elem slice25 hx144
        refine Any.tk 32 rfl pp (fun R' H' hR hS => Ox.indexV rfl rfl rfl hix144 rfl (.one rfl) ⟨rfl, rfl, rfl⟩) ?_
        refine Any.tk 33 rfl pp (fun R' H' hR hS => Ox.load1 rfl rfl one3 ((hcx144.up hR).one (j := 0) rfl) rfl (.one rfl) ⟨rfl, rfl, rfl⟩) ?_
        refine Any.vs 4 [34, 35, 36, 37] rfl ?_
        refine Any.known (t := 150) rfl ht145 ?_
        refine Any.vs 2 [38, 39] rfl ?_
        refine tl 40 0 one3 z0 ?_
        refine Any.vs 3 [41, 42, 43] rfl ?_
        refine Any.known (t := 156) rfl ht146 ?_
        refine Any.vs 3 [44, 45, 46] rfl ?_
        refine Any.done ?_
        obtain rfl := sinj hM
        exact At.retT Tryz.func6 (by kernel_rfl) (.tmp rfl .nil) (so (so sr)) hk ⟨((((((hRx125.trans hRf127).trans hRx126).trans hRx128).trans hRc135).trans hRx136).trans hRx137), rfl, rfl⟩
       obtain ⟨bx143, ox143, _, ⟨vx143_4, hx143_4, rfl⟩, hcx143, hix143⟩ := h0_3.elem slice24 hx143
       refine Any.tk 26 rfl pp (fun R' H' hR hS => Ox.indexV rfl rfl rfl hix143 rfl (.one rfl) ⟨rfl, rfl, rfl⟩) ?_
       refine Any.vs 1 [27] rfl ?_
       refine Any.tk 28 rfl pp (fun R' H' hR hS => Ox.load1 rfl rfl one3 ((hcx143.up hR).one (j := 1) rfl) rfl (.one rfl) ⟨rfl, rfl, rfl⟩) ?_
       refine Any.vs 1 [29] rfl ?_
       refine tl 30 1 one25 z0 ?_
       refine Any.vs 1 [31] rfl ?_
       obtain ⟨bx144, ox144, _, rfl, hcx144, hix144⟩ := hf127.elem slice25 hx144
       refine Any.tk 32 rfl pp (fun R' H' hR hS => Ox.indexV rfl rfl rfl hix144 rfl (.one rfl) ⟨rfl, rfl, rfl⟩) ?_
       refine Any.tk 33 rfl pp (fun R' H' hR hS => Ox.load1 rfl rfl one3 ((hcx144.up hR).one (j := 0) rfl) rfl (.one rfl) ⟨rfl, rfl, rfl⟩) ?_
       refine Any.vs 4 [34, 35, 36, 37] rfl ?_
       refine Any.known (t := 150) rfl ht145 ?_
       refine Any.vs 9 [38, 39, 40, 41, 42, 43, 44, 45, 46] rfl ?_
       refine Any.done ?_
       obtain rfl := sinj hM
       exact At.retT Tryz.func6 (by kernel_rfl) (.tmp rfl .nil) (so (so sr)) hk ⟨((((((hRx125.trans hRf127).trans hRx126).trans hRx128).trans hRc135).trans hRx136).trans hRx137), rfl, rfl⟩
      refine Any.known (t := 132) rfl ht142 ?_
      refine Any.vs 27 [20, 21, 22, 23, 24, 25, 26, 27, 28, 29, 30, 31, 32, 33, 34, 35, 36, 37, 38, 39, 40, 41, 42, 43, 44, 45, 46] rfl ?_
      refine Any.done ?_
      obtain rfl := sinj hM
      exact At.retT Tryz.func6 (by kernel_rfl) (.tmp rfl .nil) (so (so sr)) hk ⟨((((((hRx125.trans hRf127).trans hRx126).trans hRx128).trans hRc135).trans hRx136).trans hRx137), rfl, rfl⟩
     refine Any.known (t := 127) rfl ht141 ?_
     refine Any.vs 32 [15, 16, 17, 18, 19, 20, 21, 22, 23, 24, 25, 26, 27, 28, 29, 30, 31, 32, 33, 34, 35, 36, 37, 38, 39, 40, 41, 42, 43, 44, 45, 46] rfl ?_
     refine Any.done ?_
     obtain rfl := sinj hM
     exact At.retT Tryz.func6 (by kernel_rfl) (.tmp rfl .nil) (so (so sr)) hk ⟨((((((hRx125.trans hRf127).trans hRx126).trans hRx128).trans hRc135).trans hRx136).trans hRx137), rfl, rfl⟩
    refine Any.known (t := 123) rfl ht140 ?_
    refine Any.vs 36 [11, 12, 13, 14, 15, 16, 17, 18, 19, 20, 21, 22, 23, 24, 25, 26, 27, 28, 29, 30, 31, 32, 33, 34, 35, 36, 37, 38, 39, 40, 41, 42, 43, 44, 45, 46] rfl ?_
    refine Any.done ?_
    obtain rfl := sinj hM
    exact At.retT Tryz.func6 (by kernel_rfl) (.tmp rfl .nil) (so (so sr)) hk ⟨((((((hRx125.trans hRf127).trans hRx126).trans hRx128).trans hRc135).trans hRx136).trans hRx137), rfl, rfl⟩
   refine Any.known (t := 119) rfl ht139 ?_
   refine Any.vs 40 [7, 8, 9, 10, 11, 12, 13, 14, 15, 16, 17, 18, 19, 20, 21, 22, 23, 24, 25, 26, 27, 28, 29, 30, 31, 32, 33, 34, 35, 36, 37, 38, 39, 40, 41, 42, 43, 44, 45, 46] rfl ?_
   refine Any.done ?_
   obtain rfl := sinj hM
   exact At.retT Tryz.func6 (by kernel_rfl) (.tmp rfl .nil) (so (so sr)) hk ⟨((((((hRx125.trans hRf127).trans hRx126).trans hRx128).trans hRc135).trans hRx136).trans hRx137), rfl, rfl⟩
  refine Any.known (t := 115) rfl ht138 ?_
  refine Any.vs 44 [3, 4, 5, 6, 7, 8, 9, 10, 11, 12, 13, 14, 15, 16, 17, 18, 19, 20, 21, 22, 23, 24, 25, 26, 27, 28, 29, 30, 31, 32, 33, 34, 35, 36, 37, 38, 39, 40, 41, 42, 43, 44, 45, 46] rfl ?_
  refine Any.done ?_
  obtain rfl := sinj hM
  exact At.retT Tryz.func6 (by kernel_rfl) (.tmp rfl .nil) (so (so sr)) hk ⟨((((((hRx125.trans hRf127).trans hRx126).trans hRx128).trans hRc135).trans hRx136).trans hRx137), rfl, rfl⟩
 intro hcut135
 refine At.dw rg15 mixed ?_
 refine tN 0 [_, _, _, _, _, _] 0 6 agg28 z1 ?_
 refine tN 1 [_, _] 0 2 agg66 z0 ?_
 refine Any.vs 2 [3, 5] rfl ?_
 refine tw 2 6 ?_ ?_
 ·refine  (SemTo.to (Ox.buildSlice (cells := #[]) rfl elem25 rfl (by decide) base25_0 fill_nil rfl fun b129 _ _ => ⟨_, (.put rfl), ⟨rr, (ku (so sr)), ?_⟩⟩))
  refine tw 4 6 ?_ ?_
  ·refine  (SemTo.to (Ox.append (K := CZ) (fun X => X ++ ((b93, _) :: (b84, _) :: H)) rfl rfl rfl app25 Tryz.underlying25 (by simp) .id (OwnSl.lit (Enc.le Enc.nil rfl) rfl) hx125r0.arg hx130 rfl fun vx130 Hsx130 hox130 => ⟨_, (.put rfl), ⟨rr, (ku (subDrop sr)), ?_⟩⟩))
   refine Any.on 6 rfl rfl (SemTo.to (Ox.buildSlice (cells := #[_]) rfl elem25 rfl (by decide) base25_1 (fill_cons rfl rfl rfl rfl fill_nil) rfl fun b131 _ _ => ⟨_, (.put rfl), ⟨rr, (ku (so (subDrop sr))), ?_⟩⟩))
   refine Any.on 7 rfl rfl (SemTo.to (Ox.append (K := CZ) (fun X => (b131, _) :: X ++ ((b93, _) :: (b84, _) :: H)) rfl rfl rfl app25 Tryz.underlying25 (by simp) (.cons .id) hox130 (ArgSl.lit z0 (Enc.le (Enc.cons (x := x122) rfl rfl Enc.nil) rfl) rfl) hx132 rfl fun vx132 Hsx132 hox132 => ⟨_, (.put rfl), ⟨rr, (ku (so (subDrop sr))), ?_⟩⟩))
   refine Any.cv 8 ent51 (m51_ok x132 (hox132.rd (fun _ h => (.tail _ (List.mem_append_left _ h)))) hx133) ?_
   rintro vx133r0 Rx133 _ ⟨hRx133, rfl, _, hx133r0, rfl⟩
   replace h0_3 := h0_3.mono hRx133
   replace h0_4 := h0_4.mono hRx133
   replace h0_5 := h0_5.mono hRx133
   replace hG := hG.mono hRx133
   replace hf127 := hf127.mono hRx133
   refine ⟨hRx133, (ku (so (subDrop sr))), ?_⟩
   refine Any.cv 9 ent50 (m50_ok x0 (⟨x92, p94_0.2⟩ : HullCase) x133 hG h0_3 h0_4 h0_5 hf127 hx133r0.rd hx134) ?_
   rintro _ Rx134 _ ⟨hRx134, rfl, rfl⟩
   refine ⟨hRx134, (ku (so (subDrop sr))), ?_⟩
   refine Any.vs 5 [10, 11, 12, 13, 14] rfl ?_
   exact Any.done (At.drop (so (subDrop sr)) (hcut135 _ _ _ ⟨(hRx133.trans hRx134), rfl, SubT.sub ⟨rfl, rfl, rfl, rfl, rfl, rfl, rfl, rfl, rfl, rfl, trivial⟩⟩))
  refine  (SemTo.to (Ox.buildSlice (cells := #[_]) rfl elem25 rfl (by decide) base25_1 (fill_cons rfl rfl rfl rfl fill_nil) rfl fun b131 _ _ => ⟨_, (.put rfl), ⟨rr, (ku (so (so sr))), ?_⟩⟩))
  refine Any.on 4 rfl rfl (SemTo.to (Ox.append (K := CZ) (fun X => (b131, _) :: X ++ ((b93, _) :: (b84, _) :: H)) rfl rfl rfl app25 Tryz.underlying25 (by simp) (.cons .id) (OwnSl.lit (Enc.le Enc.nil rfl) rfl) hx125r0.arg hx130 rfl fun vx130 Hsx130 hox130 => ⟨_, (.put rfl), ⟨rr, (ku (so (subDrop sr))), ?_⟩⟩))
  refine Any.on 7 rfl rfl (SemTo.to (Ox.append (K := CZ) (fun X => (b131, _) :: X ++ ((b93, _) :: (b84, _) :: H)) rfl rfl rfl app25 Tryz.underlying25 (by simp) (.cons .id) hox130 (ArgSl.lit z0 (Enc.le (Enc.cons (x := x122) rfl rfl Enc.nil) rfl) rfl) hx132 rfl fun vx132 Hsx132 hox132 => ⟨_, (.put rfl), ⟨rr, (ku (so (subDrop sr))), ?_⟩⟩))
  refine Any.cv 8 ent51 (m51_ok x132 (hox132.rd (fun _ h => (.tail _ (List.mem_append_left _ h)))) hx133) ?_
  rintro vx133r0 Rx133 _ ⟨hRx133, rfl, _, hx133r0, rfl⟩
  replace h0_3 := h0_3.mono hRx133
  replace h0_4 := h0_4.mono hRx133
  replace h0_5 := h0_5.mono hRx133
  replace hG := hG.mono hRx133
  replace hf127 := hf127.mono hRx133
  refine ⟨hRx133, (ku (so (subDrop sr))), ?_⟩
  refine Any.cv 9 ent50 (m50_ok x0 (⟨x92, p94_0.2⟩ : HullCase) x133 hG h0_3 h0_4 h0_5 hf127 hx133r0.rd hx134) ?_
  rintro _ Rx134 _ ⟨hRx134, rfl, rfl⟩
  refine ⟨hRx134, (ku (so (subDrop sr))), ?_⟩
  refine Any.vs 5 [10, 11, 12, 13, 14] rfl ?_
  exact Any.done (At.drop (so (subDrop sr)) (hcut135 _ _ _ ⟨(hRx133.trans hRx134), rfl, SubT.sub ⟨rfl, rfl, rfl, rfl, rfl, rfl, rfl, rfl, rfl, rfl, trivial⟩⟩))
 refine  (SemTo.to (Ox.buildSlice (cells := #[_]) rfl elem25 rfl (by decide) base25_1 (fill_cons rfl rfl rfl rfl fill_nil) rfl fun b131 _ _ => ⟨_, (.put rfl), ⟨rr, (ku (so sr)), ?_⟩⟩))
 refine Any.on 2 rfl rfl (SemTo.to (Ox.buildSlice (cells := #[]) rfl elem25 rfl (by decide) base25_0 fill_nil rfl fun b129 _ _ => ⟨_, (.put rfl), ⟨rr, (ku (so (so sr))), ?_⟩⟩))
 refine Any.on 4 rfl rfl (SemTo.to (Ox.append (K := CZ) (fun X => X ++ ((b131, _) :: (b93, _) :: (b84, _) :: H)) rfl rfl rfl app25 Tryz.underlying25 (by simp) .id (OwnSl.lit (Enc.le Enc.nil rfl) rfl) hx125r0.arg hx130 rfl fun vx130 Hsx130 hox130 => ⟨_, (.put rfl), ⟨rr, (ku (subDrop (so sr))), ?_⟩⟩))
 refine Any.on 7 rfl rfl (SemTo.to (Ox.append (K := CZ) (fun X => X ++ ((b131, _) :: (b93, _) :: (b84, _) :: H)) rfl rfl rfl app25 Tryz.underlying25 (by simp) .id hox130 (ArgSl.lit (List.mem_append_right _ z0) (Enc.le (Enc.cons (x := x122) rfl rfl Enc.nil) rfl) rfl) hx132 rfl fun vx132 Hsx132 hox132 => ⟨_, (.put rfl), ⟨rr, (ku (subDrop (so sr))), ?_⟩⟩))
 refine Any.cv 8 ent51 (m51_ok x132 (hox132.rd (fun _ h => (List.mem_append_left _ h))) hx133) ?_
 rintro vx133r0 Rx133 _ ⟨hRx133, rfl, _, hx133r0, rfl⟩
 replace h0_3 := h0_3.mono hRx133
 replace h0_4 := h0_4.mono hRx133
 replace h0_5 := h0_5.mono hRx133
 replace hG := hG.mono hRx133
 replace hf127 := hf127.mono hRx133
 refine ⟨hRx133, (ku (subDrop (so sr))), ?_⟩
 refine Any.cv 9 ent50 (m50_ok x0 (⟨x92, p94_0.2⟩ : HullCase) x133 hG h0_3 h0_4 h0_5 hf127 hx133r0.rd hx134) ?_
 rintro _ Rx134 _ ⟨hRx134, rfl, rfl⟩
 refine ⟨hRx134, (ku (subDrop (so sr))), ?_⟩
 refine Any.vs 5 [10, 11, 12, 13, 14] rfl ?_
 exact Any.done (At.drop (subDrop (so sr)) (hcut135 _ _ _ ⟨(hRx133.trans hRx134), rfl, SubT.sub ⟨rfl, rfl, rfl, rfl, rfl, rfl, rfl, rfl, rfl, rfl, trivial⟩⟩))
end
end Go.Proofs.YtabamagholjdcaaGreatDoor
