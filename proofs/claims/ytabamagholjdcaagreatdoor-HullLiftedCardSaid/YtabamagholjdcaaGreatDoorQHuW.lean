/- A worker of hull.reckon: the walk of it. -/
import Derived.Test.YtabamagholjdcaaGreatDoorQHuP1
import Derived.Test.YtabamagholjdcaaGreatDoorQLgD
namespace Go.Proofs.YtabamagholjdcaaGreatDoor
open Go.Lg Go.Proofs
set_option maxRecDepth 100000
set_option maxHeartbeats 4000000
section
variable {B : Base} {main : Bool} {𝒥 : Jd Tryz.prog B main} {R : RMap} {H : HList}
theorem w147_ok {cf cd : Nat} (x0 : Opened) (x1 : Int) {v0_3 v0_4 v0_5 v0_6 v0_7 : Value} {b0 b1 b2 b3 : Nat} (hc0 : CellsAt R [] b0 0 [iv x0.book.Limit, iv x0.book.Ballast.Least, iv x0.book.Ballast.Most, v0_3, v0_4, v0_5, v0_6, v0_7]) (h0_3 : SlR CHullPiece 5 R v0_3 x0.book.Pieces) (h0_4 : SlR (CI .i64) 1 R v0_4 x0.book.Out) (h0_5 : SlR CHullHeel 2 R v0_5 x0.book.Heels) (h0_6 : SlR CCargo 6 R v0_6 x0.alls) (hc1 : CellsAt R [] b1 0 [iv x1]) (hc2 : CellsAt R [] b2 0 [.chan (some cf)]) (hc3 : CellsAt R [] b3 0 [.chan (some cd)]) {r : (List Bool × Int)} (hM : m147 x0 x1 = some r) : Own Tryz.prog B false (KW1 Tryz.prog B cf cd (recV r)) R [] (gor (Frame.enter Tryz.prog 147 #[.pointer (some ⟨b0, 0, none⟩), .pointer (some ⟨b1, 0, none⟩), .pointer (some ⟨b2, 0, none⟩), .pointer (some ⟨b3, 0, none⟩)] .deferred) [wrapF Tryz.prog]) := by
 unfold m147 at hM
 refine own_enter (args := [.pointer (some ⟨b0, 0, none⟩), .pointer (some ⟨b1, 0, none⟩), .pointer (some ⟨b2, 0, none⟩), .pointer (some ⟨b3, 0, none⟩)]) Tryz.func147 rfl (n := 49) rfl rfl ?_
 refine At.seq ?_
 refine At.rg rg1 ?_
 refine At.s rfl rfl (Ox.alloc (cs := (List.toArray ([] ++ ([false, false, false, false, false].map Value.bool ++ [])))) rfl zero112 rfl fun b20 _ _ => ⟨_, (.put rfl), ?_⟩)
 refine At.endRegion ?_
 refine At.seq ?_
 refine At.seq ?_
 refine At.rg rg6 ?_
 refine At.vs 3 rfl rfl ?_
 refine At.ld one24 ((hc0.sub (fun _ h => (List.Sublist.subset (List.Sublist.cons _ (List.Sublist.refl _))) h)).one (j := 3) rfl) ?_
 refine At.s rfl rfl (Ox.lenS (K := CHullPiece) (k := 5) (xs := x0.book.Pieces) rfl rfl h0_3 Tryz.underlying24 rfl (.put rfl) ?_)
 refine At.vs 1 rfl rfl ?_
 refine At.endRegion ?_
 refine At.block ?_
 refine At.loopE1 hM (fun (s21 : (Int × (List Bool))) R' H' st' => R = R' ∧ s21.2.length = 5 ∧ H' = (b20, .cells (List.toArray ([] ++ (s21.2.map Value.bool ++ []))) 112) :: [] ∧ SubL st' [(0, .pointer (some ⟨b0, 0, none⟩)), (1, .pointer (some ⟨b1, 0, none⟩)), (2, .pointer (some ⟨b2, 0, none⟩)), (3, .pointer (some ⟨b3, 0, none⟩)), (4, .pointer (some ⟨b20, 0, none⟩)), (14, iv (x0.book.Pieces.length : Int)), (15, iv s21.1)]) (fun (p21_0 : (List Bool)) R' H' st' => R = R' ∧ p21_0.length = 5 ∧ H' = (b20, .cells (List.toArray ([] ++ (p21_0.map Value.bool ++ []))) 112) :: [] ∧ SubL st' [(0, .pointer (some ⟨b0, 0, none⟩)), (2, .pointer (some ⟨b2, 0, none⟩)), (3, .pointer (some ⟨b3, 0, none⟩)), (4, .pointer (some ⟨b20, 0, none⟩))]) 0 rfl ⟨rfl, rfl, rfl, SubT.sub ⟨rfl, rfl, rfl, rfl, rfl, rfl, rfl, trivial⟩⟩ ?_ ?_
 rotate_right
 ·rintro s21 R21 H21 st21 ⟨rfl, l21s_1, rfl, hst21⟩ x21 hM again21 ex21_0
  refine At.sub hst21 ?_
  refine At.seq ?_
  refine At.rg rg1 ?_
  refine At.vs 1 rfl rfl ?_
  refine At.endRegion ?_
  refine At.seq ?_
  refine selC hM (fun ht36 hM => At.condT rfl ht36 ?_) (fun ht36 hM => At.condF rfl ht36 ?_)
  ·refine At.skip ?_
   refine At.seq ?_
   refine At.block ?_
   refine At.seq ?_
   refine At.rg rg2 ?_
   refine At.vs 2 rfl rfl ?_
   refine At.endRegion ?_
   obtain ⟨x37, hx37, hM⟩ := bnd hM
   obtain ⟨x38, hx38, hM⟩ := bnd hM
   obtain ⟨x39, hx39, hM⟩ := bnd hM
   refine At.rg rg8 ?_
   refine At.vs 1 rfl rfl ?_
   refine At.ld one3 ((hc1.sub (fun _ h => (List.Sublist.subset (List.Sublist.cons _ (List.Sublist.refl _))) h)).one (j := 0) rfl) ?_
   refine At.vs 1 rfl rfl ?_
   refine At.s rfl rfl (Ox.shr rfl rfl rfl hx37 rfl (.put rfl) ?_)
   refine At.s rfl rfl (Ox.bits rfl rfl rfl hx38 rfl (.put rfl) ?_)
   refine At.vs 1 rfl rfl ?_
   refine At.s rfl rfl (Ox.indexV rfl rfl rfl (idxArr' array112 l21s_1 hx39) rfl (.put rfl) ?_)
   refine At.s rfl rfl (Ox.store1 rfl rfl rfl one4 rfl .here (arr_lt hx39 rfl) (arr_set hx39 rfl) rfl (.refl _) ?_)
   refine At.endRegion ?_
   refine At.inBlock ?_
   refine At.rg rg2 ?_
   refine At.vs 2 rfl rfl ?_
   refine At.endRegion ?_
   exact again21 _ (sinj hM).symm _ _ _ ⟨rfl, ((List.length_set).trans l21s_1), rfl, SubT.sub ⟨rfl, rfl, rfl, rfl, rfl, rfl, rfl, trivial⟩⟩
  exact At.exit rfl (ex21_0 _ (sinj hM).symm _ _ _ ⟨rfl, l21s_1, rfl, SubT.sub ⟨rfl, rfl, rfl, rfl, trivial⟩⟩)
 rintro p21_0 R21_0 H21_0 st21_0 ⟨rfl, l21_0_0, rfl, hst21_0⟩ hM
 refine At.sub hst21_0 ?_
 refine At.seq ?_
 refine At.rg rg1 ?_
 refine At.vs 1 rfl rfl ?_
 refine At.endRegion ?_
 refine At.seq ?_
 refine At.seq ?_
 refine At.rg rg4 ?_
 refine At.vs 1 rfl rfl ?_
 refine At.ld one103 ((hc0.sub (fun _ h => (List.Sublist.subset (List.Sublist.cons _ (List.Sublist.refl _))) h)).one (j := 6) rfl) ?_
 refine At.s rfl rfl (Ox.lenS (K := CCargo) (k := 6) (xs := x0.alls) rfl rfl h0_6 Tryz.underlying103 rfl (.put rfl) ?_)
 refine At.vs 1 rfl rfl ?_
 refine At.endRegion ?_
 refine At.block ?_
 refine At.loopE1 hM (fun (s40 : (Int × Int)) R' H' st' => R = R' ∧ H' = (b20, .cells (List.toArray ([] ++ (p21_0.map Value.bool ++ []))) 112) :: [] ∧ SubL st' [(0, .pointer (some ⟨b0, 0, none⟩)), (2, .pointer (some ⟨b2, 0, none⟩)), (3, .pointer (some ⟨b3, 0, none⟩)), (4, .pointer (some ⟨b20, 0, none⟩)), (6, iv s40.1), (27, v0_6), (28, iv (x0.alls.length : Int)), (29, iv s40.2)]) (fun (p40_0 : Int) R' H' st' => R = R' ∧ H' = (b20, .cells (List.toArray ([] ++ (p21_0.map Value.bool ++ []))) 112) :: [] ∧ SubL st' [(2, .pointer (some ⟨b2, 0, none⟩)), (3, .pointer (some ⟨b3, 0, none⟩)), (4, .pointer (some ⟨b20, 0, none⟩)), (6, iv p40_0)]) 2 rfl ⟨rfl, rfl, SubT.sub ⟨rfl, rfl, rfl, rfl, rfl, rfl, rfl, rfl, trivial⟩⟩ ?_ ?_
 rotate_right
 ·rintro s40 R40 H40 st40 ⟨rfl, rfl, hst40⟩ x40 hM again40 ex40_0
  refine At.sub hst40 ?_
  refine At.seq ?_
  refine At.rg rg1 ?_
  refine At.vs 1 rfl rfl ?_
  refine At.endRegion ?_
  refine At.seq ?_
  refine selC hM (fun ht55 hM => At.condT rfl ht55 ?_) (fun ht55 hM => At.condF rfl ht55 ?_)
  ·refine At.skip ?_
   refine At.seq ?_
   refine At.block ?_
   refine At.seq ?_
   obtain ⟨x56, hx56, hM⟩ := bnd hM
   refine At.rg rg4 ?_
   obtain ⟨bx56, ox56, _, ⟨lx56_1, rfl⟩, hcx56, hix56⟩ := h0_6.elem slice103 hx56
   refine At.s rfl rfl (Ox.indexV rfl rfl rfl hix56 rfl (.put rfl) ?_)
   refine At.s rfl rfl (Ox.loadN (vs := _) rfl rfl agg125 (by simp [lx56_1]) (hcx56.any.part (j := 0) (n := 6) (take_all (by simp [lx56_1]))) rfl (.put rfl) ?_)
   refine At.s rfl rfl (Ox.alloc (cs := (List.toArray ([iv 0] ++ ([0, 0, 0, 0, 0].map (Value.int .i64) ++ [])))) rfl zero125 rfl fun b57 _ _ => ⟨_, (.put rfl), ?_⟩)
   refine At.s rfl rfl (Ox.storeN (cs' := _) rfl rfl rfl agg125 (by simp [lx56_1]) (ones_app (ones_cons rfl ones_nil) (ones_app (ones_map fun _ => rfl) ones_nil)) .here (by simp) (putCells_whole (by simp [lx56_1])) rfl (.refl _) ?_)
   refine At.endRegion ?_
   refine At.seq ?_
   obtain ⟨x58, hx58, hM⟩ := bnd hM
   refine At.rg rg6 ?_
   refine At.vs 1 rfl rfl ?_
   refine At.s rfl rfl (Ox.loadN (vs := [_, _, _, _, _, _]) rfl rfl agg102 rfl ((hc0.sub (fun _ h => (List.Sublist.subset (List.Sublist.cons _ (List.Sublist.cons _ (List.Sublist.refl _)))) h)).part (j := 0) (n := 6) rfl) rfl (.put rfl) ?_)
   refine At.s rfl rfl (Ox.loadN (vs := _) rfl rfl agg125 (by simp [lx56_1]) ((CellsAt.box (.head _)).part (j := 0) (n := 6) (take_all (by simp [lx56_1]))) rfl (.put rfl) ?_)
   refine At.s rfl rfl (Ox.loadN (vs := _) rfl rfl agg112 (by simp [l21_0_0]) ((CellsAt.box (.tail _ (.head _))).part (j := 0) (n := 5) (take_all (by simp [l21_0_0]))) rfl (.put rfl) ?_)
   refine At.cv ent104 (m104_ok x0.book x56 p21_0 h0_3 h0_4 h0_5 lx56_1 l21_0_0 hx58) ?_
   rintro _ _ _ ⟨rfl, rfl, rfl⟩
   refine At.vs 1 rfl rfl ?_
   refine At.endRegion ?_
   refine At.rg rg6 ?_
   refine At.vs 3 rfl rfl ?_
   refine At.s rfl rfl (Ox.ngK rfl rfl rfl (.put rfl) ?_)
   refine At.s rfl rfl (Ox.max (a := s40.1) (l := [x58, i64 (0 - x58)]) rfl rfl rfl (.put rfl) ?_)
   refine At.vs 1 rfl rfl ?_
   refine At.endRegion ?_
   refine At.inBlock ?_
   refine At.rg rg2 ?_
   refine At.vs 2 rfl rfl ?_
   refine At.endRegion ?_
   exact At.drop (List.Sublist.cons _ (List.Sublist.refl _)) (again40 _ (sinj hM).symm _ _ _ ⟨rfl, rfl, SubT.sub ⟨rfl, rfl, rfl, rfl, rfl, rfl, rfl, rfl, trivial⟩⟩)
  exact At.exit rfl (ex40_0 _ (sinj hM).symm _ _ _ ⟨rfl, rfl, SubT.sub ⟨rfl, rfl, rfl, rfl, trivial⟩⟩)
 rintro p40_0 R40_0 H40_0 st40_0 ⟨rfl, rfl, hst40_0⟩ hM
 refine At.sub hst40_0 ?_
 refine At.seq ?_
 refine At.rg rg5 ?_
 refine At.ld one167 ((hc2.sub (fun _ h => (List.Sublist.subset (List.Sublist.cons _ (List.Sublist.refl _))) h)).one (j := 0) rfl) ?_
 refine At.s rfl rfl (Ox.loadN (vs := _) rfl rfl agg112 (by simp [l21_0_0]) ((CellsAt.box (.head _)).part (j := 0) (n := 5) (take_all (by simp [l21_0_0]))) rfl (.put rfl) ?_)
 refine At.vs 1 rfl rfl ?_
 obtain ⟨a0, a1, a2, a3, a4, rfl⟩ := five l21_0_0
 refine At.stepS rfl rfl rfl (Ox.build (cells := #[_, _, _, _, _, _]) rfl struct170 rfl rfl rfl (.put rfl) ?_)
 obtain rfl := sinj hM
 refine fun tmps ht => Own.stop _ _ _ _ ⟨_, toSend rfl rfl rfl rfl rfl rfl ht ?_⟩
 show At (ownJd Tryz.prog B false (KW2 Tryz.prog B cd)) _ _ _ _ _
 refine At.endRegion ?_
 refine At.rg rg2 ?_
 refine At.ld one168 ((hc3.sub (fun _ h => (List.Sublist.subset (List.Sublist.cons _ (List.Sublist.refl _))) h)).one (j := 0) rfl) ?_
 exact fun tmps ht => Own.stop _ _ _ _ ⟨_, toSend rfl rfl rfl rfl rfl rfl ht fun _ _ => ⟨5, quits_end Tryz.func147 rfl⟩⟩
end
end Go.Proofs.YtabamagholjdcaaGreatDoor
