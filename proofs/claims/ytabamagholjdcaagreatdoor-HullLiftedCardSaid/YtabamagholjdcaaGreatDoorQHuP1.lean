/- Walks, part 1: each function computes its model. -/
import Derived.Test.YtabamagholjdcaaGreatDoorQHuM
namespace Go.Proofs.YtabamagholjdcaaGreatDoor
open Go.Lg Go.Proofs
set_option maxRecDepth 100000
set_option maxHeartbeats 4000000
section
variable {B : Base} {main : Bool} {𝒥 : Jd Tryz.prog B main} {R : RMap} {H : HList}
theorem m104_ok (x0 : HullBook) (x1 : Cargo) (x2 : (List Bool)) {v0_3 v0_4 v0_5 : Value} (h0_3 : SlR CHullPiece 5 R v0_3 x0.Pieces) (_ : SlR CZ 1 R v0_4 x0.Out) (_ : SlR CHullHeel 2 R v0_5 x0.Heels) (l1_1 : x1.weights.length = 5) (l2 : x2.length = 5) {r : Int} (hM : m104 x0 x1 x2 = some r) : FnOk 𝒥 104 #[.agg #[iv x0.Limit, iv x0.Ballast.Least, iv x0.Ballast.Most, v0_3, v0_4, v0_5], .agg (List.toArray ([iv x1.ballast] ++ (x1.weights.map (Value.int .i64) ++ []))), .agg (List.toArray ([] ++ (x2.map Value.bool ++ [])))] R H (fun v R' H' => R = R' ∧ H = H' ∧ v = iv r) := by
 unfold m104 at hM
 refine FnOk.of_at Tryz.func104 rfl (n := 36) rfl rfl fun fr cs hk => ?_
 refine sg rg4 ?_
 refine bx fun b48 => ?_
 refine bx fun b49 => ?_
 refine bx fun b50 => ?_
 refine vs 1 ?_
 refine nx rg3 ?_
 refine vs 1 ?_
 refine ld 0 one3 z1 ?_
 refine vs 1 ?_
 refine es ?_
 refine sg rg5 ?_
 refine vs 2 ?_
 refine ld 3 one24 z2 ?_
 refine ls h0_3 Tryz.underlying24 ?_
 refine vs 1 ?_
 refine er ?_
 refine At.block ?_
 refine At.drop (H' := (b50, .cells (List.toArray ([] ++ (x2.map Value.bool ++ []))) 112) :: (b49, .cells (List.toArray ([iv x1.ballast] ++ (x1.weights.map (Value.int .i64) ++ []))) 125) :: H) (sk (sk (so sr))) ?_
 refine At.loopE1 hM (fun (s51 : (Int × Int)) R' H' st' => R = R' ∧ H' = (b50, .cells (List.toArray ([] ++ (x2.map Value.bool ++ []))) 112) :: (b49, .cells (List.toArray ([iv x1.ballast] ++ (x1.weights.map (Value.int .i64) ++ []))) 125) :: H ∧ SubL st' [(4, .pointer (some ⟨b49, 0, none⟩)), (5, .pointer (some ⟨b50, 0, none⟩)), (7, iv s51.1), (14, v0_3), (15, iv (x0.Pieces.length : Int)), (16, iv s51.2)]) (fun (p51_0 : Int) R' H' st' => R = R' ∧ H = H' ∧ SubL st' [(7, iv p51_0)]) 0 rfl ⟨rfl, rfl, SubT.sub ⟨rfl, rfl, rfl, rfl, rfl, rfl, trivial⟩⟩ ?_ ?_
 rotate_right
 ·rintro s51 R51 H51 st51 ⟨rfl, rfl, hst51⟩ x51 hM again51 ex51_0
  refine At.sub hst51 ?_
  refine sg rg1 ?_
  refine vs 1 ?_
  refine es ?_
  refine sc hM (fun ht70 hM => ?_) (fun ht70 hM => ?_)
  ·refine sp ?_
   refine sq ?_
   refine At.block ?_
   refine sg rg6 ?_
   refine vs 1 ?_
   obtain ⟨x71, hx71, hM⟩ := bnd hM
   obtain ⟨bx71, ox71, _, ⟨vx71_4, hx71_4, rfl⟩, hcx71, hix71⟩ := h0_3.elem slice24 hx71
   refine At.s rfl rfl (Ox.indexV rfl rfl rfl hix71 rfl (.put rfl) ?_)
   refine At.s rfl rfl (Ox.loadN (vs := [_, _, _, _, _]) rfl rfl agg58 rfl (hcx71.any.part (j := 0) (n := 5) rfl) rfl (.put rfl) ?_)
   refine At.s rfl rfl (Ox.alloc (cs := #[.string (⟨#[]⟩), iv 0, iv 0, iv 0, .slice none 0 0]) rfl zero58 rfl fun b72 _ _ => ⟨_, (.put rfl), ?_⟩)
   refine vs 1 ?_
   refine At.s rfl rfl (Ox.storeN (cs' := #[_, _, _, _, _]) rfl rfl rfl agg58 rfl (ones_cons rfl (ones_cons rfl (ones_cons rfl (ones_cons rfl (ones_cons hx71_4.one ones_nil))))) .here rfl rfl rfl (.refl _) ?_)
   refine nx rg4 ?_
   refine vs 1 ?_
   obtain ⟨x73, hx73, hM⟩ := bnd hM
   refine At.s rfl rfl (Ox.indexV rfl rfl rfl (idxArr' array112 l2 hx73) rfl (.put rfl) ?_)
   refine At.ld one4 ((CellsAt.box z1).arr hx73 rfl) ?_
   refine vs 1 ?_
   refine er ?_
   refine sc hM (fun ht74 hM => ?_) (fun ht74 hM => ?_)
   ·refine At.dw rg10 mixed ?_
    refine Any.vs 2 [0, 1] rfl ?_
    refine tl 2 1 one3 z0 ?_
    refine Any.vs 2 [3, 4] rfl ?_
    obtain ⟨x75, hx75, hM⟩ := bnd hM
    refine Any.tk 5 rfl pp (fun R' H' hR hS => Ox.indexV rfl rfl rfl (idxArr' array123 l1_1 hx75) rfl (.one rfl) ⟨rfl, rfl, rfl⟩) ?_
    refine Any.tk 6 rfl pp (fun R' H' hR hS => Ox.load1 rfl rfl one3 ((CellsAt.box (hS _ z2)).arr hx75 rfl) rfl (.one rfl) ⟨rfl, rfl, rfl⟩) ?_
    refine Any.vs 3 [7, 8, 9] rfl ?_
    refine Any.done ?_
    refine At.inBlock ?_
    refine At.rg rg2 ?_
    refine vs 2 ?_
    refine er ?_
    exact At.drop (so sr) (again51 _ (sinj hM).symm _ _ _ ⟨rfl, rfl, SubT.sub ⟨rfl, rfl, rfl, rfl, rfl, rfl, trivial⟩⟩)
   refine sp ?_
   refine At.inBlock ?_
   refine At.rg rg2 ?_
   refine vs 2 ?_
   refine er ?_
   exact At.drop (so sr) (again51 _ (sinj hM).symm _ _ _ ⟨rfl, rfl, SubT.sub ⟨rfl, rfl, rfl, rfl, rfl, rfl, trivial⟩⟩)
  exact At.exit rfl (At.drop (so (so sr)) (ex51_0 _ (sinj hM).symm _ _ _ ⟨rfl, rfl, SubT.sub ⟨rfl, trivial⟩⟩))
 rintro p51_0 R51_0 H51_0 st51_0 ⟨rfl, rfl, hst51_0⟩ hM
 refine At.sub hst51_0 ?_
 refine sg rg2 ?_
 refine vs 2 ?_
 refine er ?_
 obtain rfl := sinj hM
 exact rt Tryz.func104 (.tmp rfl .nil) sr (hk _ _ _ ⟨rfl, rfl, rfl⟩)
theorem m18_ok (x0 : HullBook) {v0_3 v0_4 v0_5 : Value} (h0_3 : SlR CHullPiece 5 R v0_3 x0.Pieces) (h0_4 : SlR CZ 1 R v0_4 x0.Out) (h0_5 : SlR CHullHeel 2 R v0_5 x0.Heels) {r : Bool} (hM : m18 x0 = some r) : FnOk 𝒥 18 #[.agg #[iv x0.Limit, iv x0.Ballast.Least, iv x0.Ballast.Most, v0_3, v0_4, v0_5]] R H (fun v R' H' => R = R' ∧ H = H' ∧ v = .bool r) := by
 unfold m18 at hM
 refine FnOk.of_at Tryz.func18 rfl (n := 45) rfl rfl fun fr cs hk => ?_
 refine sg rg2 ?_
 refine bx fun b51 => ?_
 refine vs 1 ?_
 refine es ?_
 refine sq ?_
 refine At.joinE1 hM (fun (p52_0 : Bool) R' H' st' => R = R' ∧ H' = (b51, .cells #[iv x0.Limit, iv x0.Ballast.Least, iv x0.Ballast.Most, v0_3, v0_4, v0_5] 28) :: H ∧ SubL st' [(1, .pointer (some ⟨b51, 0, none⟩)), (19, .bool p52_0)])  ?_ ?_
 rotate_right
 ·intro x52 hM ex52_0
  refine At.rg rg16 ?_
  refine vs 1 ?_
  refine ld 3 one24 z0 ?_
  refine ls h0_3 Tryz.underlying24 ?_
  refine vs 2 ?_
  refine selC hM (fun ht55 hM => ?_) (fun ht55 hM => ?_)
  ·refine At.kn 8 ht55 ?_
   refine vs 11 ?_
   refine er ?_
   exact ex52_0 _ (sinj hM).symm _ _ _ ⟨rfl, rfl, SubT.sub ⟨rfl, rfl, trivial⟩⟩
  refine At.kn 8 ht55 ?_
  refine vs 1 ?_
  refine ld 4 one25 z0 ?_
  refine ls h0_4 Tryz.underlying25 ?_
  refine vs 3 ?_
  refine selC hM (fun ht56 hM => ?_) (fun ht56 hM => ?_)
  ·refine At.kn 14 ht56 ?_
   refine vs 5 ?_
   refine er ?_
   exact ex52_0 _ (sinj hM).symm _ _ _ ⟨rfl, rfl, SubT.sub ⟨rfl, rfl, trivial⟩⟩
  refine At.kn 14 ht56 ?_
  refine vs 1 ?_
  refine ld 5 one26 z0 ?_
  refine ls h0_5 Tryz.underlying26 ?_
  refine vs 2 ?_
  refine er ?_
  exact ex52_0 _ (sinj hM).symm _ _ _ ⟨rfl, rfl, SubT.sub ⟨rfl, rfl, trivial⟩⟩
 rintro p52_0 R52_0 H52_0 st52_0 ⟨rfl, rfl, hst52_0⟩ hM
 refine At.sub hst52_0 ?_
 refine sc hM (fun ht59 hM => ?_) (fun ht59 hM => ?_)
 ·refine sg rg1 ?_
  refine vs 1 ?_
  refine er ?_
  obtain rfl := sinj hM
  exact rt Tryz.func18 (.tmp rfl .nil) (so sr) (hk _ _ _ ⟨rfl, rfl, rfl⟩)
 refine sp ?_
 refine sq ?_
 refine sg rg1 ?_
 refine vs 1 ?_
 refine er ?_
 refine At.block ?_
 refine At.loopE1R hM (fun (s60 : Int) R' H' st' => R = R' ∧ H' = (b51, .cells #[iv x0.Limit, iv x0.Ballast.Least, iv x0.Ballast.Most, v0_3, v0_4, v0_5] 28) :: H ∧ SubL st' [(1, .pointer (some ⟨b51, 0, none⟩)), (3, iv s60)]) (fun (p60_0 : Unit) R' H' st' => R = R' ∧ H = H' ∧ SubL st' []) 0 rfl ⟨rfl, rfl, SubT.sub ⟨rfl, rfl, trivial⟩⟩ ?_ ?_
 rotate_right
 ·rintro s60 R60 H60 st60 ⟨rfl, rfl, hst60⟩ x60 hM again60 ex60_0 out60
  refine At.sub hst60 ?_
  refine sq ?_
  refine sg rg5 ?_
  refine vs 2 ?_
  refine ld 3 one24 z0 ?_
  refine ls h0_3 Tryz.underlying24 ?_
  refine vs 1 ?_
  refine er ?_
  refine sc hM (fun ht77 hM => ?_) (fun ht77 hM => ?_)
  ·refine sp ?_
   refine sq ?_
   refine At.block ?_
   refine sg rg18 ?_
   refine vs 1 ?_
   refine ld 3 one24 z0 ?_
   refine vs 1 ?_
   obtain ⟨x78, hx78, hM⟩ := bnd hM
   refine selC hM (fun ht79 hM => ?_) (fun ht79 hM => ?_)
   ·obtain ⟨bx78, ox78, _, ⟨vx78_4, hx78_4, rfl⟩, hcx78, hix78⟩ := h0_3.elem slice24 hx78
    refine At.s rfl rfl (Ox.indexV rfl rfl rfl hix78 rfl (.put rfl) ?_)
    refine vs 1 ?_
    refine At.ld one9 (hcx78.any.one (j := 0) rfl) ?_
    refine At.s rfl rfl (Ox.lenStr rfl rfl Tryz.underlying9 rfl (.put rfl) ?_)
    refine vs 2 ?_
    refine At.kn 35 ht79 ?_
    refine vs 9 ?_
    refine er ?_
    refine At.cond_true rfl ?_
    refine sg rg1 ?_
    refine vs 1 ?_
    refine er ?_
    replace hM := out60 _ (sinj hM).symm
    obtain rfl := sinj hM
    exact rt Tryz.func18 (.tmp rfl .nil) (so sr) (hk _ _ _ ⟨rfl, rfl, rfl⟩)
   obtain ⟨x80, hx80, hM⟩ := bnd hM
   obtain ⟨bx78, ox78, _, ⟨vx78_4, hx78_4, rfl⟩, hcx78, hix78⟩ := h0_3.elem slice24 hx78
   refine At.s rfl rfl (Ox.indexV rfl rfl rfl hix78 rfl (.put rfl) ?_)
   refine vs 1 ?_
   refine At.ld one9 (hcx78.any.one (j := 0) rfl) ?_
   refine At.s rfl rfl (Ox.lenStr rfl rfl Tryz.underlying9 rfl (.put rfl) ?_)
   refine vs 2 ?_
   refine At.kn 35 ht79 ?_
   refine vs 1 ?_
   refine ld 3 one24 z0 ?_
   refine vs 1 ?_
   obtain ⟨bx80, ox80, _, ⟨vx80_4, hx80_4, rfl⟩, hcx80, hix80⟩ := h0_3.elem slice24 hx80
   refine At.s rfl rfl (Ox.indexV rfl rfl rfl hix80 rfl (.put rfl) ?_)
   refine vs 1 ?_
   refine At.ld one25 (hcx80.any.one (j := 4) rfl) ?_
   refine ls hx80_4 Tryz.underlying25 ?_
   refine vs 2 ?_
   refine er ?_
   refine sc hM (fun ht81 hM => ?_) (fun ht81 hM => ?_)
   ·refine sg rg1 ?_
    refine vs 1 ?_
    refine er ?_
    replace hM := out60 _ (sinj hM).symm
    obtain rfl := sinj hM
    exact rt Tryz.func18 (.tmp rfl .nil) (so sr) (hk _ _ _ ⟨rfl, rfl, rfl⟩)
   refine sp ?_
   refine At.inBlock ?_
   refine At.rg rg3 ?_
   refine vs 3 ?_
   refine er ?_
   exact again60 _ (sinj hM).symm _ _ _ ⟨rfl, rfl, SubT.sub ⟨rfl, rfl, trivial⟩⟩
  exact At.exit rfl (At.drop (so sr) (ex60_0 _ (sinj hM).symm _ _ _ ⟨rfl, rfl, SubT.sub trivial⟩))
 rintro p60_0 R60_0 H60_0 st60_0 ⟨rfl, rfl, hst60_0⟩ hM
 refine At.sub hst60_0 ?_
 refine sg rg1 ?_
 refine vs 1 ?_
 refine er ?_
 obtain rfl := sinj hM
 exact rt Tryz.func18 (.tmp rfl .nil) sr (hk _ _ _ ⟨rfl, rfl, rfl⟩)
theorem m121_ok (x0 : Reach) (x1 : Int) (x2 : Int) (x3 : Int)  {r : Bool} (hM : m121 x0 x1 x2 x3 = some r) : FnOk 𝒥 121 #[.agg #[iv x0.Least, iv x0.Most], iv x1, iv x2, iv x3] R H (fun v R' H' => R = R' ∧ H = H' ∧ v = .bool r) := by
 unfold m121 at hM
 refine FnOk.of_at Tryz.func121 rfl (n := 35) rfl rfl fun fr cs hk => ?_
 refine sg rg2 ?_
 refine bx fun b24 => ?_
 refine vs 1 ?_
 refine nx rg27 ?_
 refine vs 2 ?_
 refine ld 0 one3 z0 ?_
 refine vs 2 ?_
 refine selC hM (fun ht25 hM => ?_) (fun ht25 hM => ?_)
 ·refine At.kn 13 ht25 ?_
  refine vs 1 ?_
  refine ld 0 one3 z0 ?_
  refine vs 1 ?_
  refine ld 1 one3 z0 ?_
  refine vs 3 ?_
  refine selC hM (fun ht26 hM => ?_) (fun ht26 hM => ?_)
  ·refine At.kn 20 ht26 ?_
   refine vs 1 ?_
   refine ld 1 one3 z0 ?_
   refine vs 4 ?_
   refine selC hM (fun ht27 hM => ?_) (fun ht27 hM => ?_)
   ·refine At.kn 26 ht27 ?_
    refine vs 1 ?_
    refine ld 1 one3 z0 ?_
    refine vs 1 ?_
    refine ld 0 one3 z0 ?_
    refine vs 5 ?_
    refine er ?_
    obtain rfl := sinj hM
    exact rt Tryz.func121 (.tmp rfl .nil) (so sr) (hk _ _ _ ⟨rfl, rfl, rfl⟩)
   refine At.kn 26 ht27 ?_
   refine vs 9 ?_
   refine er ?_
   obtain rfl := sinj hM
   exact rt Tryz.func121 (.tmp rfl .nil) (so sr) (hk _ _ _ ⟨rfl, rfl, rfl⟩)
  refine At.kn 20 ht26 ?_
  refine vs 15 ?_
  refine er ?_
  obtain rfl := sinj hM
  exact rt Tryz.func121 (.tmp rfl .nil) (so sr) (hk _ _ _ ⟨rfl, rfl, rfl⟩)
 refine At.kn 13 ht25 ?_
 refine vs 22 ?_
 refine er ?_
 obtain rfl := sinj hM
 exact rt Tryz.func121 (.tmp rfl .nil) (so sr) (hk _ _ _ ⟨rfl, rfl, rfl⟩)
theorem m154_ok (x0 : Int) (x1 : Int) (x2 : Int)  {r : Bool} (hM : m154 x0 x1 x2 = some r) : FnOk 𝒥 154 #[iv x0, iv x1, iv x2] R H (fun v R' H' => R = R' ∧ H = H' ∧ v = .bool r) := by
 unfold m154 at hM
 refine FnOk.of_at Tryz.func154 rfl (n := 15) rfl rfl fun fr cs hk => ?_
 refine sg rg1 ?_
 refine vs 1 ?_
 refine nx rg9 ?_
 refine vs 4 ?_
 refine selC hM (fun ht21 hM => ?_) (fun ht21 hM => ?_)
 ·refine At.kn 10 ht21 ?_
  refine vs 5 ?_
  refine er ?_
  obtain rfl := sinj hM
  exact rt Tryz.func154 (.tmp rfl .nil) sr (hk _ _ _ ⟨rfl, rfl, rfl⟩)
 refine At.kn 10 ht21 ?_
 refine vs 5 ?_
 refine er ?_
 obtain rfl := sinj hM
 exact rt Tryz.func154 (.tmp rfl .nil) sr (hk _ _ _ ⟨rfl, rfl, rfl⟩)
theorem m211_ok (x0 : HullBook) {v0_3 v0_4 v0_5 : Value} (_ : SlR CHullPiece 5 R v0_3 x0.Pieces) (_ : SlR CZ 1 R v0_4 x0.Out) (_ : SlR CHullHeel 2 R v0_5 x0.Heels) {r : Int} (hM : m211 x0 = some r) : FnOk 𝒥 211 #[.agg #[iv x0.Limit, iv x0.Ballast.Least, iv x0.Ballast.Most, v0_3, v0_4, v0_5]] R H (fun v R' H' => R = R' ∧ H = H' ∧ v = iv r) := by
 unfold m211 at hM
 refine FnOk.of_at Tryz.func211 rfl (n := 15) rfl rfl fun fr cs hk => ?_
 refine sg rg2 ?_
 refine bx fun b25 => ?_
 refine vs 1 ?_
 refine es ?_
 refine sg rg12 ?_
 refine vs 2 ?_
 refine ld 0 one3 z0 ?_
 obtain ⟨x26, hx26, hM⟩ := bnd hM
 refine At.cv ent154 (m154_ok x0.Limit 0 9999  hx26) ?_
 rintro _ _ _ ⟨rfl, rfl, rfl⟩
 refine vs 2 ?_
 refine selC hM (fun ht27 hM => ?_) (fun ht27 hM => ?_)
 ·refine At.kn 8 ht27 ?_
  refine vs 6 ?_
  refine er ?_
  refine At.cond_true rfl ?_
  refine sg rg1 ?_
  refine vs 1 ?_
  refine er ?_
  obtain rfl := sinj hM
  exact rt Tryz.func211 (.tmp rfl .nil) (so sr) (hk _ _ _ ⟨rfl, rfl, rfl⟩)
 refine At.kn 8 ht27 ?_
 refine vs 2 ?_
 refine lN [_, _] 1 2 agg23 z0 ?_
 obtain ⟨x28, hx28, hM⟩ := bnd hM
 refine At.cv ent121 (m121_ok x0.Ballast (-999) 999 3  hx28) ?_
 rintro _ _ _ ⟨rfl, rfl, rfl⟩
 refine vs 2 ?_
 refine er ?_
 refine sc hM (fun ht29 hM => ?_) (fun ht29 hM => ?_)
 ·refine sg rg1 ?_
  refine vs 1 ?_
  refine er ?_
  obtain rfl := sinj hM
  exact rt Tryz.func211 (.tmp rfl .nil) (so sr) (hk _ _ _ ⟨rfl, rfl, rfl⟩)
 refine sp ?_
 refine sg rg1 ?_
 refine vs 1 ?_
 refine er ?_
 obtain rfl := sinj hM
 exact rt Tryz.func211 (.tmp rfl .nil) (so sr) (hk _ _ _ ⟨rfl, rfl, rfl⟩)
theorem m132_ok (x0 : (List Int)) (x1 : Int) {v0 : Value} (h0 : RdS CZ 1 R H v0 x0) {r : Int} (hM : m132 x0 x1 = some r) : FnOk 𝒥 132 #[v0, iv x1] R H (fun v R' H' => R = R' ∧ H = H' ∧ v = iv r) := by
 unfold m132 at hM
 refine FnOk.of_at Tryz.func132 rfl (n := 33) rfl rfl fun fr cs hk => ?_
 refine sg rg1 ?_
 refine vs 1 ?_
 refine es ?_
 refine sg rg3 ?_
 refine vs 1 ?_
 refine lr h0 Tryz.underlying25 ?_
 refine vs 1 ?_
 refine er ?_
 refine At.block ?_
 refine At.loopE1R hM (fun (s48 : Int) R' H' st' => R = R' ∧ H = H' ∧ SubL st' [(0, v0), (1, iv x1), (7, v0), (8, iv (x0.length : Int)), (9, iv s48)]) (fun (p48_0 : Unit) R' H' st' => R = R' ∧ H = H' ∧ SubL st' []) 0 rfl ⟨rfl, rfl, SubT.sub ⟨rfl, rfl, rfl, rfl, rfl, trivial⟩⟩ ?_ ?_
 rotate_right
 ·rintro s48 R48 H48 st48 ⟨rfl, rfl, hst48⟩ x48 hM again48 ex48_0 out48
  refine At.sub hst48 ?_
  refine sg rg1 ?_
  refine vs 1 ?_
  refine es ?_
  refine sc hM (fun ht69 hM => ?_) (fun ht69 hM => ?_)
  ·refine sp ?_
   refine sq ?_
   refine At.block ?_
   refine sg rg5 ?_
   refine vs 1 ?_
   obtain ⟨x70, hx70, hM⟩ := bnd hM
   obtain ⟨bx70, ox70, _, rfl, hcx70, hix70⟩ := h0.elem slice25 hx70
   refine At.s rfl rfl (Ox.indexV rfl rfl rfl hix70 rfl (.put rfl) ?_)
   refine At.ld one3 ((hcx70.sub pp).one (j := 0) rfl) ?_
   refine vs 2 ?_
   refine er ?_
   refine At.block ?_
   refine sg rg6 ?_
   refine vs 3 ?_
   obtain ⟨x71, hx71, hM⟩ := bnd hM
   refine At.cv ent154 (m154_ok x70 0 (i64 (x1 - 1))  hx71) ?_
   rintro _ _ _ ⟨rfl, rfl, rfl⟩
   refine vs 2 ?_
   refine er ?_
   refine sc hM (fun ht72 hM => ?_) (fun ht72 hM => ?_)
   ·refine sg rg1 ?_
    refine vs 1 ?_
    refine er ?_
    replace hM := out48 _ (sinj hM).symm
    obtain rfl := sinj hM
    exact rt Tryz.func132 (.tmp rfl .nil) sr (hk _ _ _ ⟨rfl, rfl, rfl⟩)
   refine sg rg12 ?_
   refine vs 3 ?_
   refine selC hM (fun ht73 hM => ?_) (fun ht73 hM => ?_)
   ·refine At.kn 23 ht73 ?_
    refine vs 4 ?_
    obtain ⟨x74, hx74, hM⟩ := bnd hM
    obtain ⟨bx74, ox74, _, rfl, hcx74, hix74⟩ := h0.elem slice25 hx74
    refine At.s rfl rfl (Ox.indexV rfl rfl rfl hix74 rfl (.put rfl) ?_)
    refine At.ld one3 ((hcx74.sub pp).one (j := 0) rfl) ?_
    refine vs 3 ?_
    refine er ?_
    refine sc hM (fun ht75 hM => ?_) (fun ht75 hM => ?_)
    ·refine sg rg1 ?_
     refine vs 1 ?_
     refine er ?_
     replace hM := out48 _ (sinj hM).symm
     obtain rfl := sinj hM
     exact rt Tryz.func132 (.tmp rfl .nil) sr (hk _ _ _ ⟨rfl, rfl, rfl⟩)
    refine sp ?_
    refine At.inBlock ?_
    refine At.inBlock ?_
    refine At.rg rg2 ?_
    refine vs 2 ?_
    refine er ?_
    exact again48 _ (sinj hM).symm _ _ _ ⟨rfl, rfl, SubT.sub ⟨rfl, rfl, rfl, rfl, rfl, trivial⟩⟩
   refine At.kn 23 ht73 ?_
   refine vs 9 ?_
   refine er ?_
   refine At.cond_false rfl ?_
   refine sp ?_
   refine At.inBlock ?_
   refine At.inBlock ?_
   refine At.rg rg2 ?_
   refine vs 2 ?_
   refine er ?_
   exact again48 _ (sinj hM).symm _ _ _ ⟨rfl, rfl, SubT.sub ⟨rfl, rfl, rfl, rfl, rfl, trivial⟩⟩
  exact At.exit rfl (ex48_0 _ (sinj hM).symm _ _ _ ⟨rfl, rfl, SubT.sub trivial⟩)
 rintro p48_0 R48_0 H48_0 st48_0 ⟨rfl, rfl, hst48_0⟩ hM
 refine At.sub hst48_0 ?_
 refine sg rg1 ?_
 refine vs 1 ?_
 refine er ?_
 obtain rfl := sinj hM
 exact rt Tryz.func132 (.tmp rfl .nil) sr (hk _ _ _ ⟨rfl, rfl, rfl⟩)
theorem m215_ok (x0 : ByteArray)  {r : Bool} (hM : m215 x0 = some r) : FnOk 𝒥 215 #[.string x0] R H (fun v R' H' => R = R' ∧ H = H' ∧ v = .bool r) := by
 unfold m215 at hM
 refine FnOk.of_at Tryz.func215 rfl (n := 31) rfl rfl fun fr cs hk => ?_
 refine sg rg1 ?_
 refine vs 1 ?_
 refine es ?_
 refine sg rg4 ?_
 refine vs 1 ?_
 refine At.s rfl rfl (Ox.strBytes rfl rfl Tryz.underlying9 Tryz.underlying234 Tryz.underlying5 rfl fun vx50 Hsx50 hx50s => ⟨_, (.put rfl), ?_⟩)
 refine lr hx50s Tryz.underlying234 ?_
 refine vs 1 ?_
 refine er ?_
 refine At.block ?_
 refine At.loopE1R hM (fun (s51 : Int) R' H' st' => R = R' ∧ H' = Hsx50 ++ (H) ∧ SubL st' [(0, .string x0), (6, vx50), (7, iv ((strL x0).length : Int)), (8, iv s51)]) (fun (p51_0 : Unit) R' H' st' => R = R' ∧ H = H' ∧ SubL st' [(0, .string x0)]) 0 rfl ⟨rfl, rfl, SubT.sub ⟨rfl, rfl, rfl, rfl, trivial⟩⟩ ?_ ?_
 rotate_right
 ·rintro s51 R51 H51 st51 ⟨rfl, rfl, hst51⟩ x51 hM again51 ex51_0 out51
  refine At.sub hst51 ?_
  refine sg rg1 ?_
  refine vs 1 ?_
  refine es ?_
  refine sc hM (fun ht72 hM => ?_) (fun ht72 hM => ?_)
  ·refine sp ?_
   refine sq ?_
   refine At.block ?_
   refine sg rg5 ?_
   refine vs 1 ?_
   obtain ⟨x73, hx73, hM⟩ := bnd hM
   obtain ⟨bx73, ox73, _, rfl, hcx73, hix73⟩ := hx50s.elem slice234 hx73
   refine At.s rfl rfl (Ox.indexV rfl rfl rfl hix73 rfl (.put rfl) ?_)
   refine At.ld one5 ((hcx73.sub pp).one (j := 0) rfl) ?_
   refine vs 2 ?_
   refine nx rg14 ?_
   refine vs 1 ?_
   refine At.s rfl rfl (Ox.convI rfl rfl Tryz.underlying5 Tryz.underlying3 rfl (.put rfl) ?_)
   obtain ⟨x74, hx74, hM⟩ := bnd hM
   refine At.cv ent154 (m154_ok (i64 x73) 97 122  hx74) ?_
   rintro _ _ _ ⟨rfl, rfl, rfl⟩
   refine vs 2 ?_
   refine selC hM (fun ht75 hM => ?_) (fun ht75 hM => ?_)
   ·refine At.kn 17 ht75 ?_
    refine vs 3 ?_
    refine selC hM (fun ht76 hM => ?_) (fun ht76 hM => ?_)
    ·refine At.kn 20 ht76 ?_
     refine vs 6 ?_
     refine er ?_
     refine At.cond_true rfl ?_
     refine sg rg1 ?_
     refine vs 1 ?_
     refine er ?_
     replace hM := out51 _ (sinj hM).symm
     obtain rfl := sinj hM
     exact rt Tryz.func215 (.tmp rfl .nil) (subDrop sr) (hk _ _ _ ⟨rfl, rfl, rfl⟩)
    refine At.kn 20 ht76 ?_
    refine vs 1 ?_
    refine At.s rfl rfl (Ox.convI rfl rfl Tryz.underlying5 Tryz.underlying3 rfl (.put rfl) ?_)
    obtain ⟨x77, hx77, hM⟩ := bnd hM
    refine At.cv ent154 (m154_ok (i64 x73) 48 57  hx77) ?_
    rintro _ _ _ ⟨rfl, rfl, rfl⟩
    refine vs 3 ?_
    refine er ?_
    refine sc hM (fun ht78 hM => ?_) (fun ht78 hM => ?_)
    ·refine sg rg1 ?_
     refine vs 1 ?_
     refine er ?_
     replace hM := out51 _ (sinj hM).symm
     obtain rfl := sinj hM
     exact rt Tryz.func215 (.tmp rfl .nil) (subDrop sr) (hk _ _ _ ⟨rfl, rfl, rfl⟩)
    refine sp ?_
    refine At.inBlock ?_
    refine At.rg rg2 ?_
    refine vs 2 ?_
    refine er ?_
    exact again51 _ (sinj hM).symm _ _ _ ⟨rfl, rfl, SubT.sub ⟨rfl, rfl, rfl, rfl, trivial⟩⟩
   refine At.kn 17 ht75 ?_
   refine vs 9 ?_
   refine er ?_
   refine At.cond_false rfl ?_
   refine sp ?_
   refine At.inBlock ?_
   refine At.rg rg2 ?_
   refine vs 2 ?_
   refine er ?_
   exact again51 _ (sinj hM).symm _ _ _ ⟨rfl, rfl, SubT.sub ⟨rfl, rfl, rfl, rfl, trivial⟩⟩
  exact At.exit rfl (At.drop (subDrop sr) (ex51_0 _ (sinj hM).symm _ _ _ ⟨rfl, rfl, SubT.sub ⟨rfl, trivial⟩⟩))
 rintro p51_0 R51_0 H51_0 st51_0 ⟨rfl, rfl, hst51_0⟩ hM
 refine At.sub hst51_0 ?_
 refine sg rg4 ?_
 refine vs 1 ?_
 refine At.s rfl rfl (Ox.lenStr rfl rfl Tryz.underlying9 rfl (.put rfl) ?_)
 obtain ⟨x79, hx79, hM⟩ := bnd hM
 refine At.cv ent154 (m154_ok (x0.size : Int) 1 12  hx79) ?_
 rintro _ _ _ ⟨rfl, rfl, rfl⟩
 refine vs 1 ?_
 refine er ?_
 obtain rfl := sinj hM
 exact rt Tryz.func215 (.tmp rfl .nil) sr (hk _ _ _ ⟨rfl, rfl, rfl⟩)
theorem m218_ok (x0 : (List HullPiece)) (x1 : (HullPiece → Option Bool)) {v0 v1 : Value} (h0 : RdS CHullPiece 5 R H v0 x0) (h1 : FunR 𝒥 R H (VAgg CHullPiece) VB v1 x1) {r : Int} (hM : m218 x0 x1 = some r) : FnOk 𝒥 218 #[v0, v1] R H (fun v R' H' => RLe R R' ∧ H = H' ∧ v = iv r) := by
 unfold m218 at hM
 refine FnOk.of_at Tryz.func218 rfl (n := 19) rfl rfl fun fr cs hk => ?_
 refine sg rg1 ?_
 refine vs 1 ?_
 refine es ?_
 refine sg rg3 ?_
 refine vs 1 ?_
 refine lr h0 Tryz.underlying24 ?_
 refine vs 1 ?_
 refine er ?_
 refine At.block ?_
 refine At.loopE1R hM (fun (s39 : Int) R' H' st' => RLe R R' ∧ H = H' ∧ SubL st' [(0, v0), (1, v1), (7, iv (x0.length : Int)), (8, iv s39)]) (fun (p39_0 : Unit) R' H' st' => RLe R R' ∧ H = H' ∧ SubL st' []) 0 rfl ⟨rr, rfl, SubT.sub ⟨rfl, rfl, rfl, rfl, trivial⟩⟩ ?_ ?_
 rotate_right
 ·rintro s39 R39 H39 st39 ⟨hR39, rfl, hst39⟩ x39 hM again39 ex39_0 out39
  refine At.sub hst39 ?_
  replace h0 := h0.le hR39
  replace h1 := h1.up hR39 pp
  refine sg rg1 ?_
  refine vs 1 ?_
  refine es ?_
  refine sc hM (fun ht54 hM => ?_) (fun ht54 hM => ?_)
  ·refine sp ?_
   refine sq ?_
   refine At.block ?_
   refine sg rg2 ?_
   refine vs 2 ?_
   refine nx rg6 ?_
   refine vs 3 ?_
   obtain ⟨x55, hx55, hM⟩ := bnd hM
   obtain ⟨x56, hx56, hM⟩ := bnd hM
   obtain ⟨bx55, ox55, _, ⟨vx55_4, hx55_4, rfl⟩, hcx55, hix55⟩ := h0.elem slice24 hx55
   refine At.s rfl rfl (Ox.indexV rfl rfl rfl hix55 rfl (.put rfl) ?_)
   refine At.s rfl rfl (Ox.loadN (vs := [_, _, _, _, _]) rfl rfl agg58 rfl ((hcx55.sub pp).part (j := 0) (n := 5) rfl) rfl (.put rfl) ?_)
   refine At.step rfl rfl rfl (Ox.callFun h1 rfl rfl rfl ⟨_, rfl, ⟨_, hx55_4, rfl⟩⟩ hx56 rfl pp ?_)
   rintro _ Rx56 hRx56 rfl
   replace h0 := h0.le hRx56
   replace h1 := h1.up hRx56 pp
   replace hcx55 := hcx55.le hRx56
   refine ⟨_, (.put rfl), ?_⟩
   refine er ?_
   refine sc hM (fun ht57 hM => ?_) (fun ht57 hM => ?_)
   ·refine sg rg2 ?_
    refine vs 2 ?_
    refine er ?_
    replace hM := out39 _ (sinj hM).symm
    obtain rfl := sinj hM
    exact rt Tryz.func218 (.tmp rfl .nil) sr (hk _ _ _ ⟨(hR39.trans hRx56), rfl, rfl⟩)
   refine sp ?_
   refine At.inBlock ?_
   refine At.rg rg2 ?_
   refine vs 2 ?_
   refine er ?_
   exact again39 _ (sinj hM).symm _ _ _ ⟨(hR39.trans hRx56), rfl, SubT.sub ⟨rfl, rfl, rfl, rfl, trivial⟩⟩
  exact At.exit rfl (ex39_0 _ (sinj hM).symm _ _ _ ⟨hR39, rfl, SubT.sub trivial⟩)
 rintro p39_0 R39_0 H39_0 st39_0 ⟨hR39_0, rfl, hst39_0⟩ hM
 refine At.sub hst39_0 ?_
 refine sg rg1 ?_
 refine vs 1 ?_
 refine er ?_
 obtain rfl := sinj hM
 exact rt Tryz.func218 (.tmp rfl .nil) sr (hk _ _ _ ⟨hR39_0, rfl, rfl⟩)
theorem m216_ok (x0 : (List HullPiece)) (x1 : (HullPiece → Option Bool)) {v0 v1 : Value} (h0 : RdS CHullPiece 5 R H v0 x0) (h1 : FunR 𝒥 R H (VAgg CHullPiece) VB v1 x1) {r : Bool} (hM : m216 x0 x1 = some r) : FnOk 𝒥 216 #[v0, v1] R H (fun v R' H' => RLe R R' ∧ H = H' ∧ v = .bool r) := by
 unfold m216 at hM
 refine FnOk.of_at Tryz.func216 rfl (n := 9) rfl rfl fun fr cs hk => ?_
 refine sg rg1 ?_
 refine vs 1 ?_
 refine nx rg5 ?_
 refine vs 2 ?_
 obtain ⟨x21, hx21, hM⟩ := bnd hM
 refine At.cv ent218 (m218_ok x0 x1 (h0.sub pp) h1 hx21) ?_
 rintro _ Rx21 _ ⟨hRx21, rfl, rfl⟩
 replace h0 := h0.le hRx21
 replace h1 := h1.up hRx21 pp
 refine vs 2 ?_
 refine er ?_
 obtain rfl := sinj hM
 exact rt Tryz.func216 (.tmp rfl .nil) sr (hk _ _ _ ⟨hRx21, rfl, rfl⟩)
theorem m217_ok (x0 : HullPiece) (x1 : HullPiece) {v0_4 v1_4 : Value} {b1 : Nat} (_ : SlR CZ 1 R v0_4 x0.On) (hc1 : CellsAt R H b1 0 [.string x1.Name, iv x1.Arm, iv x1.Weight.Least, iv x1.Weight.Most, v1_4]) (_ : SlR CZ 1 R v1_4 x1.On) {r : Bool} (hM : m217 x0 x1 = some r) : FnOk 𝒥 217 #[.agg #[.string x0.Name, iv x0.Arm, iv x0.Weight.Least, iv x0.Weight.Most, v0_4], .pointer (some ⟨b1, 0, none⟩)] R H (fun v R' H' => R = R' ∧ H = H' ∧ v = .bool r) := by
 unfold m217 at hM
 refine FnOk.of_at Tryz.func217 rfl (n := 9) rfl rfl fun fr cs hk => ?_
 refine sg rg2 ?_
 refine bx fun b21 => ?_
 refine vs 1 ?_
 refine nx rg6 ?_
 refine vs 1 ?_
 refine ld 0 one9 z0 ?_
 refine vs 1 ?_
 refine At.ld one9 ((hc1.sub (su (so sr))).one (j := 0) rfl) ?_
 refine At.s rfl rfl (Ox.cmpStr rfl rfl rfl rfl rfl (.put rfl) ?_)
 refine vs 1 ?_
 refine er ?_
 obtain rfl := sinj hM
 exact rt Tryz.func217 (.tmp rfl .nil) (so sr) (hk _ _ _ ⟨rfl, rfl, rfl⟩)
theorem m212_ok (x0 : HullBook) {v0_3 v0_4 v0_5 : Value} (h0_3 : SlR CHullPiece 5 R v0_3 x0.Pieces) (_ : SlR CZ 1 R v0_4 x0.Out) (_ : SlR CHullHeel 2 R v0_5 x0.Heels) {r : Int} (hM : m212 x0 = some r) : FnOk 𝒥 212 #[.agg #[iv x0.Limit, iv x0.Ballast.Least, iv x0.Ballast.Most, v0_3, v0_4, v0_5]] R H (fun v R' H' => RLe R R' ∧ H = H' ∧ v = iv r) := by
 unfold m212 at hM
 refine FnOk.of_at Tryz.func212 rfl (n := 53) rfl rfl fun fr cs hk => ?_
 refine sg rg2 ?_
 refine bx fun b137 => ?_
 refine vs 1 ?_
 refine es ?_
 refine sg rg6 ?_
 refine vs 2 ?_
 refine ld 3 one24 z0 ?_
 refine ls h0_3 Tryz.underlying24 ?_
 obtain ⟨x138, hx138, hM⟩ := bnd hM
 refine At.cv ent154 (m154_ok (x0.Pieces.length : Int) 1 5  hx138) ?_
 rintro _ _ _ ⟨rfl, rfl, rfl⟩
 refine vs 1 ?_
 refine er ?_
 refine sc hM (fun ht141 hM => ?_) (fun ht141 hM => ?_)
 ·refine sg rg1 ?_
  refine vs 1 ?_
  refine er ?_
  obtain rfl := sinj hM
  exact rt Tryz.func212 (.tmp rfl .nil) (so sr) (hk _ _ _ ⟨(rr), rfl, rfl⟩)
 refine sp ?_
 refine sq ?_
 refine sg rg5 ?_
 refine vs 2 ?_
 refine ld 3 one24 z0 ?_
 refine ls h0_3 Tryz.underlying24 ?_
 refine vs 1 ?_
 refine er ?_
 refine At.block ?_
 refine At.loopE1R hM (fun (s142 : Int) R' H' st' => RLe R R' ∧ H' = (b137, .cells #[iv x0.Limit, iv x0.Ballast.Least, iv x0.Ballast.Most, v0_3, v0_4, v0_5] 102) :: H ∧ SubL st' [(1, .pointer (some ⟨b137, 0, none⟩)), (14, v0_3), (15, iv (x0.Pieces.length : Int)), (16, iv s142)]) (fun (p142_0 : Unit) R' H' st' => RLe R R' ∧ H = H' ∧ SubL st' []) 0 rfl ⟨rr, rfl, SubT.sub ⟨rfl, rfl, rfl, rfl, trivial⟩⟩ ?_ ?_
 rotate_right
 ·rintro s142 R142 H142 st142 ⟨hR142, rfl, hst142⟩ x142 hM again142 ex142_0 out142
  refine At.sub hst142 ?_
  replace h0_3 := h0_3.mono hR142
  refine sg rg1 ?_
  refine vs 1 ?_
  refine es ?_
  refine sc hM (fun ht219 hM => ?_) (fun ht219 hM => ?_)
  ·refine sp ?_
   refine sq ?_
   refine At.block ?_
   refine sg rg6 ?_
   refine vs 1 ?_
   obtain ⟨x220, hx220, hM⟩ := bnd hM
   obtain ⟨bx220, ox220, _, ⟨vx220_4, hx220_4, rfl⟩, hcx220, hix220⟩ := h0_3.elem slice24 hx220
   refine At.s rfl rfl (Ox.indexV rfl rfl rfl hix220 rfl (.put rfl) ?_)
   refine At.s rfl rfl (Ox.loadN (vs := [_, _, _, _, _]) rfl rfl agg58 rfl (hcx220.any.part (j := 0) (n := 5) rfl) rfl (.put rfl) ?_)
   refine At.s rfl rfl (Ox.alloc (cs := #[.string (⟨#[]⟩), iv 0, iv 0, iv 0, .slice none 0 0]) rfl zero58 rfl fun b221 _ _ => ⟨_, (.put rfl), ?_⟩)
   refine vs 1 ?_
   refine At.s rfl rfl (Ox.storeN (cs' := #[_, _, _, _, _]) rfl rfl rfl agg58 rfl (ones_cons rfl (ones_cons rfl (ones_cons rfl (ones_cons rfl (ones_cons hx220_4.one ones_nil))))) .here rfl rfl rfl (.refl _) ?_)
   refine es ?_
   refine At.block ?_
   refine sg rg5 ?_
   refine vs 1 ?_
   refine ld 0 one9 z0 ?_
   obtain ⟨x222, hx222, hM⟩ := bnd hM
   refine At.cv ent215 (m215_ok x220.Name  hx222) ?_
   rintro _ _ _ ⟨rfl, rfl, rfl⟩
   refine vs 2 ?_
   refine er ?_
   refine sc hM (fun ht232 hM => ?_) (fun ht232 hM => ?_)
   ·refine sg rg1 ?_
    refine vs 1 ?_
    refine er ?_
    replace hM := out142 _ (sinj hM).symm
    obtain rfl := sinj hM
    exact rt Tryz.func212 (.tmp rfl .nil) (so (so sr)) (hk _ _ _ ⟨hR142, rfl, rfl⟩)
   refine sg rg8 ?_
   refine vs 2 ?_
   refine ld 3 one24 z1 ?_
   refine vs 1 ?_
   obtain ⟨x233, hx233, hM⟩ := bnd hM
   obtain ⟨x234, hx234, hM⟩ := bnd hM
   obtain ⟨vx233, hx233s, hkx233⟩ := h0_3.cut slice24 hx233
   refine At.s rfl rfl (Ox.cutV rfl rfl rfl rfl hkx233 rfl (.put rfl) ?_)
   refine At.s rfl rfl (Ox.makeFunc (vs := #[]) (us := #[_]) rfl rfl rfl rfl (.put rfl) ?_)
   refine At.cv ent216 (m216_ok x233 (fun y => m217 y x220) hx233s.rd ⟨217, #[], #[_], rfl, ent217, fun R' H' hR hH y r va hA hr => by obtain ⟨_, rfl, ⟨vy_4, hy_4, rfl⟩⟩ := hA; exact (m217_ok y x220 hy_4 (CellsAt.box (hH _ z0)) (hx220_4.mono hR) hr).mono fun _ _ _ ⟨h1, h2, h3⟩ => ⟨h1 ▸ rr, h2.symm, h3⟩⟩ hx234) ?_
   rintro _ Rx234 _ ⟨hRx234, rfl, rfl⟩
   replace hx220_4 := hx220_4.mono hRx234
   refine vs 1 ?_
   refine er ?_
   refine sc hM (fun ht241 hM => ?_) (fun ht241 hM => ?_)
   ·refine sg rg1 ?_
    refine vs 1 ?_
    refine er ?_
    replace hM := out142 _ (sinj hM).symm
    obtain rfl := sinj hM
    exact rt Tryz.func212 (.tmp rfl .nil) (so (so sr)) (hk _ _ _ ⟨(hR142.trans hRx234), rfl, rfl⟩)
   refine sq ?_
   refine At.joinE1 hM (fun (p242_0 : Bool) R' H' st' => Rx234 = R' ∧ H' = (b221, .cells #[.string x220.Name, iv x220.Arm, iv x220.Weight.Least, iv x220.Weight.Most, vx220_4] 58) :: (b137, .cells #[iv x0.Limit, iv x0.Ballast.Least, iv x0.Ballast.Most, v0_3, v0_4, v0_5] 102) :: H ∧ SubL st' [(1, .pointer (some ⟨b137, 0, none⟩)), (3, iv s142), (4, .pointer (some ⟨b221, 0, none⟩)), (14, v0_3), (15, iv (x0.Pieces.length : Int)), (16, iv s142), (34, .bool p242_0)])  ?_ ?_
   rotate_right
   ·intro x242 hM ex242_0
    refine At.rg rg11 ?_
    refine vs 1 ?_
    refine ld 1 one3 z0 ?_
    obtain ⟨x246, hx246, hM⟩ := bnd hM
    refine At.cv ent154 (m154_ok x220.Arm (-9) 9  hx246) ?_
    rintro _ _ _ ⟨rfl, rfl, rfl⟩
    refine vs 2 ?_
    refine selC hM (fun ht247 hM => ?_) (fun ht247 hM => ?_)
    ·refine At.kn 39 ht247 ?_
     refine vs 6 ?_
     refine er ?_
     exact ex242_0 _ (sinj hM).symm _ _ _ ⟨rfl, rfl, SubT.sub ⟨rfl, rfl, rfl, rfl, rfl, rfl, rfl, trivial⟩⟩
    refine At.kn 39 ht247 ?_
    refine vs 1 ?_
    refine lN [_, _] 2 2 agg23 z0 ?_
    obtain ⟨x248, hx248, hM⟩ := bnd hM
    refine At.cv ent121 (m121_ok x220.Weight 1 99 3  hx248) ?_
    rintro _ _ _ ⟨rfl, rfl, rfl⟩
    refine vs 3 ?_
    refine er ?_
    exact ex242_0 _ (sinj hM).symm _ _ _ ⟨rfl, rfl, SubT.sub ⟨rfl, rfl, rfl, rfl, rfl, rfl, rfl, trivial⟩⟩
   rintro p242_0 R242_0 H242_0 st242_0 ⟨rfl, rfl, hst242_0⟩ hM
   refine At.sub hst242_0 ?_
   refine sc hM (fun ht251 hM => ?_) (fun ht251 hM => ?_)
   ·refine sg rg1 ?_
    refine vs 1 ?_
    refine er ?_
    replace hM := out142 _ (sinj hM).symm
    obtain rfl := sinj hM
    exact rt Tryz.func212 (.tmp rfl .nil) (so (so sr)) (hk _ _ _ ⟨(hR142.trans hRx234), rfl, rfl⟩)
   refine sp ?_
   refine At.inBlock ?_
   refine sg rg5 ?_
   refine vs 1 ?_
   refine ld 4 one25 z0 ?_
   refine vs 1 ?_
   obtain ⟨x252, hx252, hM⟩ := bnd hM
   refine At.cv ent132 (m132_ok x220.On s142 hx220_4.rd hx252) ?_
   rintro _ _ _ ⟨rfl, rfl, rfl⟩
   refine vs 1 ?_
   refine nx rg2 ?_
   refine vs 2 ?_
   refine er ?_
   refine sc hM (fun ht253 hM => ?_) (fun ht253 hM => ?_)
   ·refine sg rg2 ?_
    refine vs 2 ?_
    refine er ?_
    replace hM := out142 _ (sinj hM).symm
    obtain rfl := sinj hM
    exact rt Tryz.func212 (.tmp rfl .nil) (so (so sr)) (hk _ _ _ ⟨(hR142.trans hRx234), rfl, rfl⟩)
   refine sp ?_
   refine At.inBlock ?_
   refine At.rg rg2 ?_
   refine vs 2 ?_
   refine er ?_
   exact At.drop (so sr) (again142 _ (sinj hM).symm _ _ _ ⟨(hR142.trans hRx234), rfl, SubT.sub ⟨rfl, rfl, rfl, rfl, trivial⟩⟩)
  exact At.exit rfl (At.drop (so sr) (ex142_0 _ (sinj hM).symm _ _ _ ⟨hR142, rfl, SubT.sub trivial⟩))
 rintro p142_0 R142_0 H142_0 st142_0 ⟨hR142_0, rfl, hst142_0⟩ hM
 refine At.sub hst142_0 ?_
 refine sg rg1 ?_
 refine vs 1 ?_
 refine er ?_
 obtain rfl := sinj hM
 exact rt Tryz.func212 (.tmp rfl .nil) sr (hk _ _ _ ⟨hR142_0, rfl, rfl⟩)
theorem m93_ok (x0 : (List Bool)) (x1 : (List Int)) {v1 : Value} (l0 : x0.length = 5) (h1 : RdS CZ 1 R H v1 x1) {r : (List Bool)} (hM : m93 x0 x1 = some r) : FnOk 𝒥 93 #[.agg (List.toArray ([] ++ (x0.map Value.bool ++ []))), v1] R H (fun v R' H' => R = R' ∧ H = H' ∧ r.length = 5 ∧ v = .agg (List.toArray ([] ++ (r.map Value.bool ++ [])))) := by
 unfold m93 at hM
 refine FnOk.of_at Tryz.func93 rfl (n := 17) rfl rfl fun fr cs hk => ?_
 refine sg rg2 ?_
 refine bx fun b38 => ?_
 refine At.s rfl rfl (Ox.alloc (cs := (List.toArray ([] ++ ([false, false, false, false, false].map Value.bool ++ [])))) rfl zero112 rfl fun b39 _ _ => ⟨_, (.put rfl), ?_⟩)
 refine es ?_
 refine sg rg3 ?_
 refine vs 1 ?_
 refine lr h1 Tryz.underlying25 ?_
 refine vs 1 ?_
 refine er ?_
 refine At.block ?_
 refine At.loopE1 hM (fun (s40 : (Int × (List Bool))) R' H' st' => R = R' ∧ s40.2.length = 5 ∧ H' = (b39, .cells (List.toArray ([] ++ ([false, false, false, false, false].map Value.bool ++ []))) 112) :: (b38, .cells (List.toArray ([] ++ (s40.2.map Value.bool ++ []))) 112) :: H ∧ SubL st' [(2, .pointer (some ⟨b38, 0, none⟩)), (4, .pointer (some ⟨b39, 0, none⟩)), (7, v1), (8, iv (x1.length : Int)), (9, iv s40.1)]) (fun (p40_0 : (List Bool)) R' H' st' => R = R' ∧ p40_0.length = 5 ∧ H' = (b39, .cells (List.toArray ([] ++ ([false, false, false, false, false].map Value.bool ++ []))) 112) :: (b38, .cells (List.toArray ([] ++ (p40_0.map Value.bool ++ []))) 112) :: H ∧ SubL st' [(2, .pointer (some ⟨b38, 0, none⟩)), (4, .pointer (some ⟨b39, 0, none⟩))]) 0 rfl ⟨rfl, l0, rfl, SubT.sub ⟨rfl, rfl, rfl, rfl, rfl, trivial⟩⟩ ?_ ?_
 rotate_right
 ·rintro s40 R40 H40 st40 ⟨rfl, l40s_1, rfl, hst40⟩ x40 hM again40 ex40_0
  refine At.sub hst40 ?_
  refine sg rg1 ?_
  refine vs 1 ?_
  refine es ?_
  refine sc hM (fun ht53 hM => ?_) (fun ht53 hM => ?_)
  ·refine sp ?_
   refine sq ?_
   refine At.block ?_
   refine sg rg3 ?_
   obtain ⟨x54, hx54, hM⟩ := bnd hM
   obtain ⟨bx54, ox54, _, rfl, hcx54, hix54⟩ := h1.elem slice25 hx54
   refine At.s rfl rfl (Ox.indexV rfl rfl rfl hix54 rfl (.put rfl) ?_)
   refine At.ld one3 ((hcx54.sub (su (so (so sr)))).one (j := 0) rfl) ?_
   refine vs 1 ?_
   refine er ?_
   refine At.rg rg3 ?_
   refine vs 1 ?_
   obtain ⟨x55, hx55, hM⟩ := bnd hM
   refine At.s rfl rfl (Ox.indexV rfl rfl rfl (idxArr' array112 l40s_1 hx55) rfl (.put rfl) ?_)
   refine At.s rfl rfl (Ox.store1 rfl rfl rfl one4 rfl (.there .here) (arr_lt hx55 rfl) (arr_set hx55 rfl) rfl (.refl _) ?_)
   refine er ?_
   refine At.inBlock ?_
   refine At.rg rg2 ?_
   refine vs 2 ?_
   refine er ?_
   exact again40 _ (sinj hM).symm _ _ _ ⟨rfl, ((List.length_set).trans l40s_1), rfl, SubT.sub ⟨rfl, rfl, rfl, rfl, rfl, trivial⟩⟩
  exact At.exit rfl (ex40_0 _ (sinj hM).symm _ _ _ ⟨rfl, l40s_1, rfl, SubT.sub ⟨rfl, rfl, trivial⟩⟩)
 rintro p40_0 R40_0 H40_0 st40_0 ⟨rfl, l40_0_0, rfl, hst40_0⟩ hM
 refine At.sub hst40_0 ?_
 refine sg rg2 ?_
 refine At.s rfl rfl (Ox.loadN (vs := _) rfl rfl agg112 (by simp [l40_0_0]) ((CellsAt.box z1).part (j := 0) (n := 5) (take_all (by simp [l40_0_0]))) rfl (.put rfl) ?_)
 refine At.s rfl rfl (Ox.storeN (cs' := _) rfl rfl rfl agg112 (by simp [l40_0_0]) (ones_app ones_nil (ones_app (ones_map fun _ => rfl) ones_nil)) .here (by simp) (putCells_whole (by simp [l40_0_0])) rfl (.refl _) ?_)
 refine er ?_
 obtain rfl := sinj hM
 exact rt Tryz.func93 (.agg rfl agg112 (by simp [l40_0_0]) (CellsAt.box z0) .nil) (so (so sr)) (hk _ _ _ ⟨rfl, rfl, l40_0_0, rfl⟩)
theorem m120_ok (x0 : HullBook) (x1 : Int) {v0_3 v0_4 v0_5 : Value} (h0_3 : SlR CHullPiece 5 R v0_3 x0.Pieces) (_ : SlR CZ 1 R v0_4 x0.Out) (_ : SlR CHullHeel 2 R v0_5 x0.Heels) {r : Bool} (hM : m120 x0 x1 = some r) : FnOk 𝒥 120 #[.agg #[iv x0.Limit, iv x0.Ballast.Least, iv x0.Ballast.Most, v0_3, v0_4, v0_5], iv x1] R H (fun v R' H' => R = R' ∧ H = H' ∧ v = .bool r) := by
 unfold m120 at hM
 refine FnOk.of_at Tryz.func120 rfl (n := 12) rfl rfl fun fr cs hk => ?_
 refine sg rg2 ?_
 refine bx fun b22 => ?_
 refine vs 1 ?_
 refine nx rg8 ?_
 refine vs 3 ?_
 refine ld 3 one24 z0 ?_
 refine ls h0_3 Tryz.underlying24 ?_
 refine vs 1 ?_
 obtain ⟨x23, hx23, hM⟩ := bnd hM
 refine At.cv ent154 (m154_ok x1 0 (i64 ((x0.Pieces.length : Int) - 1))  hx23) ?_
 rintro _ _ _ ⟨rfl, rfl, rfl⟩
 refine vs 1 ?_
 refine er ?_
 obtain rfl := sinj hM
 exact rt Tryz.func120 (.tmp rfl .nil) (so sr) (hk _ _ _ ⟨rfl, rfl, rfl⟩)
theorem m171_ok (x0 : (List Int)) (x1 : (Int → Option Bool)) {v0 v1 : Value} (h0 : RdS CZ 1 R H v0 x0) (h1 : FunR 𝒥 R H (VI .i64) VB v1 x1) {r : Int} (hM : m171 x0 x1 = some r) : FnOk 𝒥 171 #[v0, v1] R H (fun v R' H' => RLe R R' ∧ H = H' ∧ v = iv r) := by
 unfold m171 at hM
 refine FnOk.of_at Tryz.func171 rfl (n := 19) rfl rfl fun fr cs hk => ?_
 refine sg rg1 ?_
 refine vs 1 ?_
 refine es ?_
 refine sg rg3 ?_
 refine vs 1 ?_
 refine lr h0 Tryz.underlying25 ?_
 refine vs 1 ?_
 refine er ?_
 refine At.block ?_
 refine At.loopE1R hM (fun (s39 : Int) R' H' st' => RLe R R' ∧ H = H' ∧ SubL st' [(0, v0), (1, v1), (7, iv (x0.length : Int)), (8, iv s39)]) (fun (p39_0 : Unit) R' H' st' => RLe R R' ∧ H = H' ∧ SubL st' []) 0 rfl ⟨rr, rfl, SubT.sub ⟨rfl, rfl, rfl, rfl, trivial⟩⟩ ?_ ?_
 rotate_right
 ·rintro s39 R39 H39 st39 ⟨hR39, rfl, hst39⟩ x39 hM again39 ex39_0 out39
  refine At.sub hst39 ?_
  replace h0 := h0.le hR39
  replace h1 := h1.up hR39 pp
  refine sg rg1 ?_
  refine vs 1 ?_
  refine es ?_
  refine sc hM (fun ht54 hM => ?_) (fun ht54 hM => ?_)
  ·refine sp ?_
   refine sq ?_
   refine At.block ?_
   refine sg rg2 ?_
   refine vs 2 ?_
   refine nx rg6 ?_
   refine vs 3 ?_
   obtain ⟨x55, hx55, hM⟩ := bnd hM
   obtain ⟨x56, hx56, hM⟩ := bnd hM
   obtain ⟨bx55, ox55, _, rfl, hcx55, hix55⟩ := h0.elem slice25 hx55
   refine At.s rfl rfl (Ox.indexV rfl rfl rfl hix55 rfl (.put rfl) ?_)
   refine At.ld one3 ((hcx55.sub pp).one (j := 0) rfl) ?_
   refine At.step rfl rfl rfl (Ox.callFun h1 rfl rfl rfl rfl hx56 rfl pp ?_)
   rintro _ Rx56 hRx56 rfl
   replace h0 := h0.le hRx56
   replace h1 := h1.up hRx56 pp
   replace hcx55 := hcx55.le hRx56
   refine ⟨_, (.put rfl), ?_⟩
   refine er ?_
   refine sc hM (fun ht57 hM => ?_) (fun ht57 hM => ?_)
   ·refine sg rg2 ?_
    refine vs 2 ?_
    refine er ?_
    replace hM := out39 _ (sinj hM).symm
    obtain rfl := sinj hM
    exact rt Tryz.func171 (.tmp rfl .nil) sr (hk _ _ _ ⟨(hR39.trans hRx56), rfl, rfl⟩)
   refine sp ?_
   refine At.inBlock ?_
   refine At.rg rg2 ?_
   refine vs 2 ?_
   refine er ?_
   exact again39 _ (sinj hM).symm _ _ _ ⟨(hR39.trans hRx56), rfl, SubT.sub ⟨rfl, rfl, rfl, rfl, trivial⟩⟩
  exact At.exit rfl (ex39_0 _ (sinj hM).symm _ _ _ ⟨hR39, rfl, SubT.sub trivial⟩)
 rintro p39_0 R39_0 H39_0 st39_0 ⟨hR39_0, rfl, hst39_0⟩ hM
 refine At.sub hst39_0 ?_
 refine sg rg1 ?_
 refine vs 1 ?_
 refine er ?_
 obtain rfl := sinj hM
 exact rt Tryz.func171 (.tmp rfl .nil) sr (hk _ _ _ ⟨hR39_0, rfl, rfl⟩)
theorem m158_ok (x0 : (List Int)) (x1 : (Int → Option Bool)) {v0 v1 : Value} (h0 : RdS CZ 1 R H v0 x0) (h1 : FunR 𝒥 R H (VI .i64) VB v1 x1) {r : Bool} (hM : m158 x0 x1 = some r) : FnOk 𝒥 158 #[v0, v1] R H (fun v R' H' => RLe R R' ∧ H = H' ∧ v = .bool r) := by
 unfold m158 at hM
 refine FnOk.of_at Tryz.func158 rfl (n := 9) rfl rfl fun fr cs hk => ?_
 refine sg rg1 ?_
 refine vs 1 ?_
 refine nx rg5 ?_
 refine vs 2 ?_
 obtain ⟨x21, hx21, hM⟩ := bnd hM
 refine At.cv ent171 (m171_ok x0 x1 (h0.sub pp) h1 hx21) ?_
 rintro _ Rx21 _ ⟨hRx21, rfl, rfl⟩
 replace h0 := h0.le hRx21
 replace h1 := h1.up hRx21 pp
 refine vs 2 ?_
 refine er ?_
 obtain rfl := sinj hM
 exact rt Tryz.func158 (.tmp rfl .nil) sr (hk _ _ _ ⟨hRx21, rfl, rfl⟩)
theorem m188_ok (x0 : (List Int)) (x1 : Int) {v0 : Value} (h0 : RdS CZ 1 R H v0 x0) {r : Int} (hM : m188 x0 x1 = some r) : FnOk 𝒥 188 #[v0, iv x1] R H (fun v R' H' => R = R' ∧ H = H' ∧ v = iv r) := by
 unfold m188 at hM
 refine FnOk.of_at Tryz.func188 rfl (n := 19) rfl rfl fun fr cs hk => ?_
 refine sg rg1 ?_
 refine vs 1 ?_
 refine es ?_
 refine sg rg3 ?_
 refine vs 1 ?_
 refine lr h0 Tryz.underlying25 ?_
 refine vs 1 ?_
 refine er ?_
 refine At.block ?_
 refine At.loopE1R hM (fun (s36 : Int) R' H' st' => R = R' ∧ H = H' ∧ SubL st' [(0, v0), (1, iv x1), (7, iv (x0.length : Int)), (8, iv s36)]) (fun (p36_0 : Unit) R' H' st' => R = R' ∧ H = H' ∧ SubL st' []) 0 rfl ⟨rfl, rfl, SubT.sub ⟨rfl, rfl, rfl, rfl, trivial⟩⟩ ?_ ?_
 rotate_right
 ·rintro s36 R36 H36 st36 ⟨rfl, rfl, hst36⟩ x36 hM again36 ex36_0 out36
  refine At.sub hst36 ?_
  refine sg rg1 ?_
  refine vs 1 ?_
  refine es ?_
  refine sc hM (fun ht49 hM => ?_) (fun ht49 hM => ?_)
  ·refine sp ?_
   refine sq ?_
   refine At.block ?_
   refine sg rg2 ?_
   refine vs 2 ?_
   refine nx rg6 ?_
   refine vs 3 ?_
   obtain ⟨x50, hx50, hM⟩ := bnd hM
   obtain ⟨bx50, ox50, _, rfl, hcx50, hix50⟩ := h0.elem slice25 hx50
   refine At.s rfl rfl (Ox.indexV rfl rfl rfl hix50 rfl (.put rfl) ?_)
   refine At.ld one3 ((hcx50.sub pp).one (j := 0) rfl) ?_
   refine vs 1 ?_
   refine er ?_
   refine sc hM (fun ht51 hM => ?_) (fun ht51 hM => ?_)
   ·refine sg rg2 ?_
    refine vs 2 ?_
    refine er ?_
    replace hM := out36 _ (sinj hM).symm
    obtain rfl := sinj hM
    exact rt Tryz.func188 (.tmp rfl .nil) sr (hk _ _ _ ⟨rfl, rfl, rfl⟩)
   refine sp ?_
   refine At.inBlock ?_
   refine At.rg rg2 ?_
   refine vs 2 ?_
   refine er ?_
   exact again36 _ (sinj hM).symm _ _ _ ⟨rfl, rfl, SubT.sub ⟨rfl, rfl, rfl, rfl, trivial⟩⟩
  exact At.exit rfl (ex36_0 _ (sinj hM).symm _ _ _ ⟨rfl, rfl, SubT.sub trivial⟩)
 rintro p36_0 R36_0 H36_0 st36_0 ⟨rfl, rfl, hst36_0⟩ hM
 refine At.sub hst36_0 ?_
 refine sg rg1 ?_
 refine vs 1 ?_
 refine er ?_
 obtain rfl := sinj hM
 exact rt Tryz.func188 (.tmp rfl .nil) sr (hk _ _ _ ⟨rfl, rfl, rfl⟩)
theorem m175_ok (x0 : (List Int)) (x1 : Int) {v0 : Value} (h0 : RdS CZ 1 R H v0 x0) {r : Bool} (hM : m175 x0 x1 = some r) : FnOk 𝒥 175 #[v0, iv x1] R H (fun v R' H' => R = R' ∧ H = H' ∧ v = .bool r) := by
 unfold m175 at hM
 refine FnOk.of_at Tryz.func175 rfl (n := 9) rfl rfl fun fr cs hk => ?_
 refine sg rg1 ?_
 refine vs 1 ?_
 refine nx rg5 ?_
 refine vs 2 ?_
 obtain ⟨x21, hx21, hM⟩ := bnd hM
 refine At.cv ent188 (m188_ok x0 x1 (h0.sub pp) hx21) ?_
 rintro _ _ _ ⟨rfl, rfl, rfl⟩
 refine vs 2 ?_
 refine er ?_
 obtain rfl := sinj hM
 exact rt Tryz.func175 (.tmp rfl .nil) sr (hk _ _ _ ⟨rfl, rfl, rfl⟩)
theorem m166_ok (x0 : HullBook) (x1 : Int) {v0_3 v0_4 v0_5 : Value} (h0_3 : SlR CHullPiece 5 R v0_3 x0.Pieces) (_ : SlR CZ 1 R v0_4 x0.Out) (_ : SlR CHullHeel 2 R v0_5 x0.Heels) {r : (List Int)} (hM : m166 x0 x1 = some r) : FnOk 𝒥 166 #[.agg #[iv x0.Limit, iv x0.Ballast.Least, iv x0.Ballast.Most, v0_3, v0_4, v0_5], iv x1] R H (fun v R' H' => RLe R R' ∧ H = H' ∧ ∃ vr0, SlR CZ 1 R' vr0 r ∧ v = vr0) := by
 unfold m166 at hM
 refine FnOk.of_at Tryz.func166 rfl (n := 27) rfl rfl fun fr cs hk => ?_
 refine sg rg2 ?_
 refine bx fun b50 => ?_
 refine vs 1 ?_
 refine nx rg1 ?_
 refine vs 1 ?_
 refine es ?_
 refine sg rg5 ?_
 refine vs 2 ?_
 refine ld 3 one24 z0 ?_
 refine ls h0_3 Tryz.underlying24 ?_
 refine vs 1 ?_
 refine er ?_
 refine At.block ?_
 refine At.drop (H' := H) (so sr) ?_
 refine At.loopE1 hM (fun (s51 : ((List Int) × Int)) R' H' st' => R = R' ∧ ∃ v51s_0 Hs51s_0, OwnSl CZ 1 3 R' v51s_0 s51.1 Hs51s_0 ∧ H' = Hs51s_0 ++ (H) ∧ SubL st' [(1, iv x1), (5, v51s_0), (10, v0_3), (11, iv (x0.Pieces.length : Int)), (12, iv s51.2)]) (fun (p51_0 : (List Int)) R' H' st' => R = R' ∧ ∃ v51_0_0 Hs51_0_0, OwnSl CZ 1 3 R' v51_0_0 p51_0 Hs51_0_0 ∧ H' = Hs51_0_0 ++ (H) ∧ SubL st' [(5, v51_0_0)]) 0 rfl ⟨rfl, .slice none 0 0, [], OwnSl.nil, rfl, SubT.sub ⟨rfl, rfl, rfl, rfl, rfl, trivial⟩⟩ ?_ ?_
 rotate_right
 ·rintro s51 R51 H51 st51 ⟨rfl, v51s_0, Hs51s_0, ho51s_0, rfl, hst51⟩ x51 hM again51 ex51_0
  refine At.sub hst51 ?_
  refine sg rg1 ?_
  refine vs 1 ?_
  refine es ?_
  refine sc hM (fun ht72 hM => ?_) (fun ht72 hM => ?_)
  ·refine sp ?_
   refine sq ?_
   refine At.block ?_
   refine sg rg6 ?_
   refine vs 1 ?_
   obtain ⟨x73, hx73, hM⟩ := bnd hM
   obtain ⟨bx73, ox73, _, ⟨vx73_4, hx73_4, rfl⟩, hcx73, hix73⟩ := h0_3.elem slice24 hx73
   refine At.s rfl rfl (Ox.indexV rfl rfl rfl hix73 rfl (.put rfl) ?_)
   refine At.s rfl rfl (Ox.loadN (vs := [_, _, _, _, _]) rfl rfl agg58 rfl (hcx73.any.part (j := 0) (n := 5) rfl) rfl (.put rfl) ?_)
   refine At.s rfl rfl (Ox.alloc (cs := #[.string (⟨#[]⟩), iv 0, iv 0, iv 0, .slice none 0 0]) rfl zero58 rfl fun b74 _ _ => ⟨_, (.put rfl), ?_⟩)
   refine vs 1 ?_
   refine At.s rfl rfl (Ox.storeN (cs' := #[_, _, _, _, _]) rfl rfl rfl agg58 rfl (ones_cons rfl (ones_cons rfl (ones_cons rfl (ones_cons rfl (ones_cons hx73_4.one ones_nil))))) .here rfl rfl rfl (.refl _) ?_)
   refine nx rg4 ?_
   refine vs 1 ?_
   refine ld 4 one25 z0 ?_
   refine vs 1 ?_
   obtain ⟨x75, hx75, hM⟩ := bnd hM
   refine At.cv ent175 (m175_ok x73.On x1 hx73_4.rd hx75) ?_
   rintro _ _ _ ⟨rfl, rfl, rfl⟩
   refine er ?_
   refine sc hM (fun ht76 hM => ?_) (fun ht76 hM => ?_)
   ·refine At.rg rg5 ?_
    refine vs 2 ?_
    refine At.s rfl rfl (Ox.buildSlice (cells := #[_]) rfl elem25 rfl (by decide) base25_1 (fill_cons rfl rfl rfl rfl fill_nil) rfl fun b77 _ _ => ⟨_, (.put rfl), ?_⟩)
    obtain ⟨x78, hx78, hM⟩ := bnd hM
    refine At.s rfl rfl (Ox.append (K := CZ) (fun X => (b77, _) :: (b74, _) :: X ++ (H)) rfl rfl rfl app25 Tryz.underlying25 (by simp) (.cons (.cons .id)) ho51s_0 (ArgSl.lit z0 (Enc.le (Enc.cons (x := s51.2) rfl rfl Enc.nil) rfl) rfl) hx78 rfl fun vx78 Hsx78 hox78 => ⟨_, (.put rfl), ?_⟩)
    refine vs 1 ?_
    refine er ?_
    refine At.inBlock ?_
    refine At.rg rg2 ?_
    refine vs 2 ?_
    refine er ?_
    exact At.drop (so (so sr)) (again51 _ (sinj hM).symm _ _ _ ⟨rfl, vx78, Hsx78, hox78, rfl, SubT.sub ⟨rfl, rfl, rfl, rfl, rfl, trivial⟩⟩)
   refine sp ?_
   refine At.inBlock ?_
   refine At.rg rg2 ?_
   refine vs 2 ?_
   refine er ?_
   exact At.drop (so sr) (again51 _ (sinj hM).symm _ _ _ ⟨rfl, v51s_0, Hs51s_0, ho51s_0, rfl, SubT.sub ⟨rfl, rfl, rfl, rfl, rfl, trivial⟩⟩)
  exact At.exit rfl (ex51_0 _ (sinj hM).symm _ _ _ ⟨rfl, v51s_0, Hs51s_0, ho51s_0, rfl, SubT.sub ⟨rfl, trivial⟩⟩)
 rintro p51_0 R51_0 H51_0 st51_0 ⟨rfl, v51_0_0, Hs51_0_0, ho51_0_0, rfl, hst51_0⟩ hM
 refine At.sub hst51_0 ?_
 refine sg rg2 ?_
 refine vs 2 ?_
 refine er ?_
 refine At.freezeOwn (H2 := H) (fun X => X ++ (H)) .id rfl ho51_0_0 (fun Rf79 hRf79 hf79 => ?_)
 obtain rfl := sinj hM
 exact rt Tryz.func166 (.tmp rfl .nil) sr (hk _ _ _ ⟨hRf79, rfl, v51_0_0, hf79, rfl⟩)
theorem m167_ok (x0 : Int) (x1 : (List Bool)) {b1 : Nat} (hc1 : CellsAt R H b1 0 ([] ++ (x1.map Value.bool ++ []))) (l1 : x1.length = 5) {r : Bool} (hM : m167 x0 x1 = some r) : FnOk 𝒥 167 #[iv x0, .pointer (some ⟨b1, 0, none⟩)] R H (fun v R' H' => R = R' ∧ H = H' ∧ v = .bool r) := by
 unfold m167 at hM
 refine FnOk.of_at Tryz.func167 rfl (n := 8) rfl rfl fun fr cs hk => ?_
 refine sg rg1 ?_
 refine vs 1 ?_
 refine nx rg5 ?_
 refine vs 1 ?_
 obtain ⟨x21, hx21, hM⟩ := bnd hM
 refine At.s rfl rfl (Ox.indexV rfl rfl rfl (idxArr' array112 l1 hx21) rfl (.put rfl) ?_)
 refine At.ld one4 ((hc1.sub pp).arr hx21 rfl) ?_
 refine vs 2 ?_
 refine er ?_
 obtain rfl := sinj hM
 exact rt Tryz.func167 (.tmp rfl .nil) sr (hk _ _ _ ⟨rfl, rfl, rfl⟩)
theorem m149_ok (x0 : HullBook) (x1 : (List Bool)) (x2 : Int) {v0_3 v0_4 v0_5 : Value} (h0_3 : SlR CHullPiece 5 R v0_3 x0.Pieces) (h0_4 : SlR CZ 1 R v0_4 x0.Out) (h0_5 : SlR CHullHeel 2 R v0_5 x0.Heels) (l1 : x1.length = 5) {r : Bool} (hM : m149 x0 x1 x2 = some r) : FnOk 𝒥 149 #[.agg #[iv x0.Limit, iv x0.Ballast.Least, iv x0.Ballast.Most, v0_3, v0_4, v0_5], .agg (List.toArray ([] ++ (x1.map Value.bool ++ []))), iv x2] R H (fun v R' H' => RLe R R' ∧ H = H' ∧ v = .bool r) := by
 unfold m149 at hM
 refine FnOk.of_at Tryz.func149 rfl (n := 19) rfl rfl fun fr cs hk => ?_
 refine sg rg3 ?_
 refine bx fun b26 => ?_
 refine bx fun b27 => ?_
 refine vs 1 ?_
 refine nx rg13 ?_
 refine vs 1 ?_
 obtain ⟨x28, hx28, hM⟩ := bnd hM
 refine At.s rfl rfl (Ox.indexV rfl rfl rfl (idxArr' array112 l1 hx28) rfl (.put rfl) ?_)
 refine At.ld one4 ((CellsAt.box z0).arr hx28 rfl) ?_
 refine vs 2 ?_
 refine selC hM (fun ht29 hM => ?_) (fun ht29 hM => ?_)
 ·refine At.kn 11 ht29 ?_
  refine lN [_, _, _, _, _, _] 0 6 agg102 z1 ?_
  refine vs 1 ?_
  obtain ⟨x30, hx30, hM⟩ := bnd hM
  refine At.cv ent166 (m166_ok x0 x2 h0_3 h0_4 h0_5 hx30) ?_
  rintro vx30r0 Rx30 _ ⟨hRx30, rfl, _, hx30r0, rfl⟩
  refine At.s rfl rfl (Ox.makeFunc (vs := #[]) (us := #[_]) rfl rfl rfl rfl (.put rfl) ?_)
  obtain ⟨x31, hx31, hM⟩ := bnd hM
  refine At.cv ent158 (m158_ok x30 (fun y => m167 y x1) hx30r0.rd ⟨167, #[], #[_], rfl, ent167, fun R' H' hR hH y r va hA hr => by obtain rfl := hA; exact (m167_ok y x1 (CellsAt.box (hH _ z0)) l1 hr).mono fun _ _ _ ⟨h1, h2, h3⟩ => ⟨h1 ▸ rr, h2.symm, h3⟩⟩ hx31) ?_
  rintro _ Rx31 _ ⟨hRx31, rfl, rfl⟩
  refine vs 3 ?_
  refine er ?_
  obtain rfl := sinj hM
  exact rt Tryz.func149 (.tmp rfl .nil) (so (so sr)) (hk _ _ _ ⟨(hRx30.trans hRx31), rfl, rfl⟩)
 refine At.kn 11 ht29 ?_
 refine vs 8 ?_
 refine er ?_
 obtain rfl := sinj hM
 exact rt Tryz.func149 (.tmp rfl .nil) (so (so sr)) (hk _ _ _ ⟨(rr), rfl, rfl⟩)
theorem m99_ok (x0 : HullBook) (x1 : (List Bool)) (x2 : (List Int)) {v0_3 v0_4 v0_5 v2 : Value} (h0_3 : SlR CHullPiece 5 R v0_3 x0.Pieces) (h0_4 : SlR CZ 1 R v0_4 x0.Out) (h0_5 : SlR CHullHeel 2 R v0_5 x0.Heels) (l1 : x1.length = 5) (h2 : RdS CZ 1 R H v2 x2) {r : ((List Bool) × Int)} (hM : m99 x0 x1 x2 = some r) : FnOk 𝒥 99 #[.agg #[iv x0.Limit, iv x0.Ballast.Least, iv x0.Ballast.Most, v0_3, v0_4, v0_5], .agg (List.toArray ([] ++ (x1.map Value.bool ++ []))), v2] R H (fun v R' H' => RLe R R' ∧ H = H' ∧ r.1.length = 5 ∧ v = .tuple #[.agg (List.toArray ([] ++ (r.1.map Value.bool ++ []))), iv r.2]) := by
 unfold m99 at hM
 refine FnOk.of_at Tryz.func99 rfl (n := 40) rfl rfl fun fr cs hk => ?_
 refine sg rg4 ?_
 refine bx fun b96 => ?_
 refine bx fun b97 => ?_
 refine At.s rfl rfl (Ox.alloc (cs := (List.toArray ([] ++ ([false, false, false, false, false].map Value.bool ++ [])))) rfl zero112 rfl fun b98 _ _ => ⟨_, (.put rfl), ?_⟩)
 refine vs 1 ?_
 refine es ?_
 refine sg rg3 ?_
 refine vs 1 ?_
 refine lr h2 Tryz.underlying25 ?_
 refine vs 1 ?_
 refine er ?_
 refine At.block ?_
 refine At.loopE1R hM (fun (s99 : (Int × (List Bool))) R' H' st' => RLe R R' ∧ s99.2.length = 5 ∧ H' = (b98, .cells (List.toArray ([] ++ ([false, false, false, false, false].map Value.bool ++ []))) 112) :: (b97, .cells (List.toArray ([] ++ (s99.2.map Value.bool ++ []))) 112) :: (b96, .cells #[iv x0.Limit, iv x0.Ballast.Least, iv x0.Ballast.Most, v0_3, v0_4, v0_5] 102) :: H ∧ SubL st' [(3, .pointer (some ⟨b96, 0, none⟩)), (4, .pointer (some ⟨b97, 0, none⟩)), (6, .pointer (some ⟨b98, 0, none⟩)), (10, v2), (11, iv (x2.length : Int)), (12, iv s99.1)]) (fun (p99_0 : (List Bool)) R' H' st' => RLe R R' ∧ p99_0.length = 5 ∧ H' = (b98, .cells (List.toArray ([] ++ ([false, false, false, false, false].map Value.bool ++ []))) 112) :: (b97, .cells (List.toArray ([] ++ (p99_0.map Value.bool ++ []))) 112) :: H ∧ SubL st' [(4, .pointer (some ⟨b97, 0, none⟩)), (6, .pointer (some ⟨b98, 0, none⟩))]) 0 rfl ⟨rr, l1, rfl, SubT.sub ⟨rfl, rfl, rfl, rfl, rfl, rfl, trivial⟩⟩ ?_ ?_
 rotate_right
 ·rintro s99 R99 H99 st99 ⟨hR99, l99s_1, rfl, hst99⟩ x99 hM again99 ex99_0 out99
  refine At.sub hst99 ?_
  replace h0_3 := h0_3.mono hR99
  replace h0_4 := h0_4.mono hR99
  replace h0_5 := h0_5.mono hR99
  replace h2 := h2.le hR99
  refine sg rg1 ?_
  refine vs 1 ?_
  refine es ?_
  refine sc hM (fun ht150 hM => ?_) (fun ht150 hM => ?_)
  ·refine sp ?_
   refine sq ?_
   refine At.block ?_
   refine sg rg3 ?_
   obtain ⟨x151, hx151, hM⟩ := bnd hM
   obtain ⟨bx151, ox151, _, rfl, hcx151, hix151⟩ := h2.elem slice25 hx151
   refine At.s rfl rfl (Ox.indexV rfl rfl rfl hix151 rfl (.put rfl) ?_)
   refine At.ld one3 ((hcx151.sub (su (so (so (so sr))))).one (j := 0) rfl) ?_
   refine vs 1 ?_
   refine es ?_
   refine At.block ?_
   refine sg rg5 ?_
   refine lN [_, _, _, _, _, _] 0 6 agg102 z2 ?_
   refine vs 1 ?_
   obtain ⟨x152, hx152, hM⟩ := bnd hM
   refine At.cv ent120 (m120_ok x0 x151 h0_3 h0_4 h0_5 hx152) ?_
   rintro _ _ _ ⟨rfl, rfl, rfl⟩
   refine vs 2 ?_
   refine er ?_
   refine sc hM (fun ht159 hM => ?_) (fun ht159 hM => ?_)
   ·refine sg rg3 ?_
    refine At.s rfl rfl (Ox.loadN (vs := _) rfl rfl agg112 (by simp [l99s_1]) ((CellsAt.box z1).part (j := 0) (n := 5) (take_all (by simp [l99s_1]))) rfl (.put rfl) ?_)
    refine At.s rfl rfl (Ox.storeN (cs' := _) rfl rfl rfl agg112 (by simp [l99s_1]) (ones_app ones_nil (ones_app (ones_map fun _ => rfl) ones_nil)) .here (by simp) (putCells_whole (by simp [l99s_1])) rfl (.refl _) ?_)
    refine vs 1 ?_
    refine er ?_
    replace hM := out99 _ (sinj hM).symm
    obtain rfl := sinj hM
    exact rt Tryz.func99 (.agg rfl agg112 (by simp [l99s_1]) (CellsAt.box z0) (.tmp rfl .nil)) (so (so (so sr))) (hk _ _ _ ⟨hR99, rfl, l99s_1, rfl⟩)
   refine sg rg4 ?_
   refine vs 1 ?_
   obtain ⟨x160, hx160, hM⟩ := bnd hM
   refine At.s rfl rfl (Ox.indexV rfl rfl rfl (idxArr' array112 l99s_1 hx160) rfl (.put rfl) ?_)
   refine At.ld one4 ((CellsAt.box z1).arr hx160 rfl) ?_
   refine vs 1 ?_
   refine er ?_
   refine sc hM (fun ht165 hM => ?_) (fun ht165 hM => ?_)
   ·refine sg rg3 ?_
    refine At.s rfl rfl (Ox.loadN (vs := _) rfl rfl agg112 (by simp [l99s_1]) ((CellsAt.box z1).part (j := 0) (n := 5) (take_all (by simp [l99s_1]))) rfl (.put rfl) ?_)
    refine At.s rfl rfl (Ox.storeN (cs' := _) rfl rfl rfl agg112 (by simp [l99s_1]) (ones_app ones_nil (ones_app (ones_map fun _ => rfl) ones_nil)) .here (by simp) (putCells_whole (by simp [l99s_1])) rfl (.refl _) ?_)
    refine vs 1 ?_
    refine er ?_
    replace hM := out99 _ (sinj hM).symm
    obtain rfl := sinj hM
    exact rt Tryz.func99 (.agg rfl agg112 (by simp [l99s_1]) (CellsAt.box z0) (.tmp rfl .nil)) (so (so (so sr))) (hk _ _ _ ⟨hR99, rfl, l99s_1, rfl⟩)
   refine sg rg6 ?_
   refine lN [_, _, _, _, _, _] 0 6 agg102 z2 ?_
   refine At.s rfl rfl (Ox.loadN (vs := _) rfl rfl agg112 (by simp [l99s_1]) ((CellsAt.box z1).part (j := 0) (n := 5) (take_all (by simp [l99s_1]))) rfl (.put rfl) ?_)
   refine vs 1 ?_
   obtain ⟨x166, hx166, hM⟩ := bnd hM
   refine At.cv ent149 (m149_ok x0 s99.2 x151 h0_3 h0_4 h0_5 l99s_1 hx166) ?_
   rintro _ Rx166 _ ⟨hRx166, rfl, rfl⟩
   replace h2 := h2.le hRx166
   refine vs 2 ?_
   refine er ?_
   refine sc hM (fun ht169 hM => ?_) (fun ht169 hM => ?_)
   ·refine sg rg3 ?_
    refine At.s rfl rfl (Ox.loadN (vs := _) rfl rfl agg112 (by simp [l99s_1]) ((CellsAt.box z1).part (j := 0) (n := 5) (take_all (by simp [l99s_1]))) rfl (.put rfl) ?_)
    refine At.s rfl rfl (Ox.storeN (cs' := _) rfl rfl rfl agg112 (by simp [l99s_1]) (ones_app ones_nil (ones_app (ones_map fun _ => rfl) ones_nil)) .here (by simp) (putCells_whole (by simp [l99s_1])) rfl (.refl _) ?_)
    refine vs 1 ?_
    refine er ?_
    replace hM := out99 _ (sinj hM).symm
    obtain rfl := sinj hM
    exact rt Tryz.func99 (.agg rfl agg112 (by simp [l99s_1]) (CellsAt.box z0) (.tmp rfl .nil)) (so (so (so sr))) (hk _ _ _ ⟨(hR99.trans hRx166), rfl, l99s_1, rfl⟩)
   refine sp ?_
   refine At.inBlock ?_
   refine At.rg rg5 ?_
   refine At.s rfl rfl (Ox.loadN (vs := _) rfl rfl agg112 (by simp [l99s_1]) ((CellsAt.box z1).part (j := 0) (n := 5) (take_all (by simp [l99s_1]))) rfl (.put rfl) ?_)
   refine vs 1 ?_
   refine At.s rfl rfl (Ox.buildSlice (cells := #[_]) rfl elem25 rfl (by decide) base25_1 (fill_cons rfl rfl rfl rfl fill_nil) rfl fun b170 _ _ => ⟨_, (.put rfl), ?_⟩)
   obtain ⟨x171, hx171, hM⟩ := bnd hM
   refine At.cv ent93 (m93_ok s99.2 [x151] l99s_1 (RdS.lit z0 (Enc.le (Enc.cons (x := x151) rfl rfl Enc.nil) rfl) rfl) hx171) ?_
   rintro _ _ _ ⟨rfl, rfl, lx171r0, rfl⟩
   refine At.s rfl rfl (Ox.storeN (cs' := _) rfl rfl rfl agg112 (by simp [lx171r0]) (ones_app ones_nil (ones_app (ones_map fun _ => rfl) ones_nil)) (.there (.there .here)) (by simp [l99s_1]) (putCells_whole (by simp [lx171r0, l99s_1])) rfl (.refl _) ?_)
   refine er ?_
   refine At.inBlock ?_
   refine At.rg rg2 ?_
   refine vs 2 ?_
   refine er ?_
   exact At.drop (so sr) (again99 _ (sinj hM).symm _ _ _ ⟨(hR99.trans hRx166), lx171r0, rfl, SubT.sub ⟨rfl, rfl, rfl, rfl, rfl, rfl, trivial⟩⟩)
  exact At.exit rfl (At.drop (sk (sk (so sr))) (ex99_0 _ (sinj hM).symm _ _ _ ⟨hR99, l99s_1, rfl, SubT.sub ⟨rfl, rfl, trivial⟩⟩))
 rintro p99_0 R99_0 H99_0 st99_0 ⟨hR99_0, l99_0_0, rfl, hst99_0⟩ hM
 refine At.sub hst99_0 ?_
 refine sg rg3 ?_
 refine At.s rfl rfl (Ox.loadN (vs := _) rfl rfl agg112 (by simp [l99_0_0]) ((CellsAt.box z1).part (j := 0) (n := 5) (take_all (by simp [l99_0_0]))) rfl (.put rfl) ?_)
 refine At.s rfl rfl (Ox.storeN (cs' := _) rfl rfl rfl agg112 (by simp [l99_0_0]) (ones_app ones_nil (ones_app (ones_map fun _ => rfl) ones_nil)) .here (by simp) (putCells_whole (by simp [l99_0_0])) rfl (.refl _) ?_)
 refine vs 1 ?_
 refine er ?_
 obtain rfl := sinj hM
 exact rt Tryz.func99 (.agg rfl agg112 (by simp [l99_0_0]) (CellsAt.box z0) (.tmp rfl .nil)) (so (so sr)) (hk _ _ _ ⟨hR99_0, rfl, l99_0_0, rfl⟩)
theorem m213_ok (x0 : HullBook) {v0_3 v0_4 v0_5 : Value} (h0_3 : SlR CHullPiece 5 R v0_3 x0.Pieces) (h0_4 : SlR CZ 1 R v0_4 x0.Out) (h0_5 : SlR CHullHeel 2 R v0_5 x0.Heels) {r : Int} (hM : m213 x0 = some r) : FnOk 𝒥 213 #[.agg #[iv x0.Limit, iv x0.Ballast.Least, iv x0.Ballast.Most, v0_3, v0_4, v0_5]] R H (fun v R' H' => RLe R R' ∧ H = H' ∧ v = iv r) := by
 unfold m213 at hM
 refine FnOk.of_at Tryz.func213 rfl (n := 15) rfl rfl fun fr cs hk => ?_
 refine sg rg2 ?_
 refine bx fun b23 => ?_
 refine vs 1 ?_
 refine nx rg12 ?_
 refine lN [_, _, _, _, _, _] 0 6 agg102 z0 ?_
 refine At.s rfl rfl (Ox.buildZ (z := (List.toArray ([] ++ ([false, false, false, false, false].map Value.bool ++ [])))) rfl arrz112 rfl (.put rfl) ?_)
 refine vs 2 ?_
 refine ld 4 one25 z0 ?_
 obtain ⟨x24, hx24, hM⟩ := bnd hM
 refine At.cv ent99 (m99_ok x0 [false, false, false, false, false] x0.Out h0_3 h0_4 h0_5 rfl h0_4.rd hx24) ?_
 rintro _ Rx24 _ ⟨hRx24, rfl, lx24r0, rfl⟩
 refine vs 3 ?_
 refine At.s rfl rfl (Ox.alloc (cs := (List.toArray ([] ++ ([false, false, false, false, false].map Value.bool ++ [])))) rfl zero112 rfl fun b25 _ _ => ⟨_, (.put rfl), ?_⟩)
 refine At.s rfl rfl (Ox.storeN (cs' := _) rfl rfl rfl agg112 (by simp [lx24r0]) (ones_app ones_nil (ones_app (ones_map fun _ => rfl) ones_nil)) .here (by simp) (putCells_whole (by simp [lx24r0])) rfl (.refl _) ?_)
 refine vs 1 ?_
 refine nx rg2 ?_
 refine vs 2 ?_
 refine er ?_
 obtain rfl := sinj hM
 exact rt Tryz.func213 (.tmp rfl .nil) (so (so sr)) (hk _ _ _ ⟨hRx24, rfl, rfl⟩)
theorem m214_ok (x0 : HullBook) {v0_3 v0_4 v0_5 : Value} (_ : SlR CHullPiece 5 R v0_3 x0.Pieces) (h0_4 : SlR CZ 1 R v0_4 x0.Out) (h0_5 : SlR CHullHeel 2 R v0_5 x0.Heels) {r : Int} (hM : m214 x0 = some r) : FnOk 𝒥 214 #[.agg #[iv x0.Limit, iv x0.Ballast.Least, iv x0.Ballast.Most, v0_3, v0_4, v0_5]] R H (fun v R' H' => R = R' ∧ H = H' ∧ v = iv r) := by
 unfold m214 at hM
 refine FnOk.of_at Tryz.func214 rfl (n := 33) rfl rfl fun fr cs hk => ?_
 refine sg rg2 ?_
 refine bx fun b67 => ?_
 refine vs 1 ?_
 refine es ?_
 refine sg rg5 ?_
 refine vs 2 ?_
 refine ld 5 one26 z0 ?_
 refine ls h0_5 Tryz.underlying26 ?_
 refine vs 1 ?_
 refine er ?_
 refine sc hM (fun ht70 hM => ?_) (fun ht70 hM => ?_)
 ·refine sg rg1 ?_
  refine vs 1 ?_
  refine er ?_
  obtain rfl := sinj hM
  exact rt Tryz.func214 (.tmp rfl .nil) (so sr) (hk _ _ _ ⟨rfl, rfl, rfl⟩)
 refine sp ?_
 refine sq ?_
 refine sg rg5 ?_
 refine vs 2 ?_
 refine ld 5 one26 z0 ?_
 refine ls h0_5 Tryz.underlying26 ?_
 refine vs 1 ?_
 refine er ?_
 refine At.block ?_
 refine At.loopE1R hM (fun (s71 : Int) R' H' st' => R = R' ∧ H' = (b67, .cells #[iv x0.Limit, iv x0.Ballast.Least, iv x0.Ballast.Most, v0_3, v0_4, v0_5] 102) :: H ∧ SubL st' [(1, .pointer (some ⟨b67, 0, none⟩)), (12, v0_5), (13, iv (x0.Heels.length : Int)), (14, iv s71)]) (fun (p71_0 : Unit) R' H' st' => R = R' ∧ H = H' ∧ SubL st' []) 0 rfl ⟨rfl, rfl, SubT.sub ⟨rfl, rfl, rfl, rfl, trivial⟩⟩ ?_ ?_
 rotate_right
 ·rintro s71 R71 H71 st71 ⟨rfl, rfl, hst71⟩ x71 hM again71 ex71_0 out71
  refine At.sub hst71 ?_
  refine sg rg1 ?_
  refine vs 1 ?_
  refine es ?_
  refine sc hM (fun ht102 hM => ?_) (fun ht102 hM => ?_)
  ·refine sp ?_
   refine sq ?_
   refine At.block ?_
   refine sg rg4 ?_
   obtain ⟨x103, hx103, hM⟩ := bnd hM
   obtain ⟨bx103, ox103, _, rfl, hcx103, hix103⟩ := h0_5.elem slice26 hx103
   refine At.s rfl rfl (Ox.indexV rfl rfl rfl hix103 rfl (.put rfl) ?_)
   refine At.s rfl rfl (Ox.loadN (vs := [_, _]) rfl rfl agg47 rfl (hcx103.any.part (j := 0) (n := 2) rfl) rfl (.put rfl) ?_)
   refine At.s rfl rfl (Ox.alloc (cs := #[iv 0, iv 0]) rfl zero47 rfl fun b104 _ _ => ⟨_, (.put rfl), ?_⟩)
   refine At.s rfl rfl (Ox.storeN (cs' := #[_, _]) rfl rfl rfl agg47 rfl (ones_cons rfl (ones_cons rfl ones_nil)) .here rfl rfl rfl (.refl _) ?_)
   refine es ?_
   refine sg rg8 ?_
   refine vs 1 ?_
   refine ld 0 one3 z0 ?_
   refine vs 2 ?_
   refine ld 4 one25 z1 ?_
   refine ls h0_4 Tryz.underlying25 ?_
   obtain ⟨x105, hx105, hM⟩ := bnd hM
   refine At.cv ent154 (m154_ok x103.After 0 (x0.Out.length : Int)  hx105) ?_
   rintro _ _ _ ⟨rfl, rfl, rfl⟩
   refine vs 1 ?_
   refine er ?_
   refine sc hM (fun ht108 hM => ?_) (fun ht108 hM => ?_)
   ·refine sg rg1 ?_
    refine vs 1 ?_
    refine er ?_
    replace hM := out71 _ (sinj hM).symm
    obtain rfl := sinj hM
    exact rt Tryz.func214 (.tmp rfl .nil) (so (so sr)) (hk _ _ _ ⟨rfl, rfl, rfl⟩)
   refine sp ?_
   refine sg rg2 ?_
   refine vs 1 ?_
   refine ld 1 one45 z0 ?_
   refine er ?_
   refine At.block ?_
   refine sq ?_
   refine sg rg2 ?_
   refine vs 2 ?_
   refine er ?_
   refine sc hM (fun ht109 hM => ?_) (fun ht109 hM => ?_)
   ·refine sp ?_
    refine sc hM (fun ht110 hM => ?_) (fun ht110 hM => ?_)
    ·refine sp ?_
     refine At.inBlock ?_
     refine At.inBlock ?_
     refine At.rg rg2 ?_
     refine vs 2 ?_
     refine er ?_
     exact At.drop (so sr) (again71 _ (sinj hM).symm _ _ _ ⟨rfl, rfl, SubT.sub ⟨rfl, rfl, rfl, rfl, trivial⟩⟩)
    refine sg rg1 ?_
    refine vs 1 ?_
    refine er ?_
    replace hM := out71 _ (sinj hM).symm
    obtain rfl := sinj hM
    exact rt Tryz.func214 (.tmp rfl .nil) (so (so sr)) (hk _ _ _ ⟨rfl, rfl, rfl⟩)
   refine sg rg2 ?_
   refine vs 2 ?_
   refine er ?_
   refine sc hM (fun ht111 hM => ?_) (fun ht111 hM => ?_)
   ·refine sp ?_
    refine sc hM (fun ht112 hM => ?_) (fun ht112 hM => ?_)
    ·refine sp ?_
     refine At.inBlock ?_
     refine At.inBlock ?_
     refine At.rg rg2 ?_
     refine vs 2 ?_
     refine er ?_
     exact At.drop (so sr) (again71 _ (sinj hM).symm _ _ _ ⟨rfl, rfl, SubT.sub ⟨rfl, rfl, rfl, rfl, trivial⟩⟩)
    refine sg rg1 ?_
    refine vs 1 ?_
    refine er ?_
    replace hM := out71 _ (sinj hM).symm
    obtain rfl := sinj hM
    exact rt Tryz.func214 (.tmp rfl .nil) (so (so sr)) (hk _ _ _ ⟨rfl, rfl, rfl⟩)
   refine At.rg rg2 ?_
   refine vs 2 ?_
   refine er ?_
   refine sc hM (fun ht113 hM => ?_) (fun ht113 hM => ?_)
   ·refine sp ?_
    refine At.inBlock ?_
    refine At.inBlock ?_
    refine At.rg rg2 ?_
    refine vs 2 ?_
    refine er ?_
    exact At.drop (so sr) (again71 _ (sinj hM).symm _ _ _ ⟨rfl, rfl, SubT.sub ⟨rfl, rfl, rfl, rfl, trivial⟩⟩)
   refine sg rg1 ?_
   refine vs 1 ?_
   refine er ?_
   replace hM := out71 _ (sinj hM).symm
   obtain rfl := sinj hM
   exact rt Tryz.func214 (.tmp rfl .nil) (so (so sr)) (hk _ _ _ ⟨rfl, rfl, rfl⟩)
  exact At.exit rfl (At.drop (so sr) (ex71_0 _ (sinj hM).symm _ _ _ ⟨rfl, rfl, SubT.sub trivial⟩))
 rintro p71_0 R71_0 H71_0 st71_0 ⟨rfl, rfl, hst71_0⟩ hM
 refine At.sub hst71_0 ?_
 refine sg rg1 ?_
 refine vs 1 ?_
 refine er ?_
 obtain rfl := sinj hM
 exact rt Tryz.func214 (.tmp rfl .nil) sr (hk _ _ _ ⟨rfl, rfl, rfl⟩)
theorem m83_ok (x0 : HullBook) {v0_3 v0_4 v0_5 : Value} (hG : GOk R) (h0_3 : SlR CHullPiece 5 R v0_3 x0.Pieces) (h0_4 : SlR CZ 1 R v0_4 x0.Out) (h0_5 : SlR CHullHeel 2 R v0_5 x0.Heels) {r : Int} (hM : m83 x0 = some r) : FnOk 𝒥 83 #[.agg #[iv x0.Limit, iv x0.Ballast.Least, iv x0.Ballast.Most, v0_3, v0_4, v0_5]] R H (fun v R' H' => RLe R R' ∧ H = H' ∧ v = iv r) := by
 unfold m83 at hM
 refine FnOk.of_at Tryz.func83 rfl (n := 18) rfl rfl fun fr cs hk => ?_
 refine sg rg2 ?_
 refine bx fun b33 => ?_
 refine vs 1 ?_
 refine es ?_
 refine sg rg2 ?_
 refine At.s rfl rfl (Ox.loadN (vs := [_, _, _, _]) rfl rfl agg164 rfl (hG.any.part (j := 0) (n := 4) rfl) rfl (.put rfl) ?_)
 refine vs 1 ?_
 refine er ?_
 refine At.block ?_
 refine At.enterLoop ?_
 refine sg rg1 ?_
 refine vs 1 ?_
 refine es ?_
 refine At.cond_true rfl ?_
 refine sp ?_
 refine sq ?_
 refine At.block ?_
 refine sg rg2 ?_
 refine At.s rfl rfl (Ox.indexFn rfl rfl rfl array164 one109.1 (by decide) rfl rfl (.put rfl) ?_)
 refine vs 1 ?_
 refine nx rg5 ?_
 refine vs 1 ?_
 refine lN [_, _, _, _, _, _] 0 6 agg28 z0 ?_
 refine At.s rfl rfl (Ox.build (cells := #[_, _, _, _, _, _]) rfl struct102 rfl (fill_cons rfl rfl rfl rfl fill_nil) rfl (.put rfl) ?_)
 obtain ⟨x35, hx35, hM⟩ := bnd hM
 refine At.cv ent211 (m211_ok (⟨x0.Limit, ⟨x0.Ballast.Least, x0.Ballast.Most⟩, x0.Pieces, x0.Out, x0.Heels⟩ : HullBook) h0_3 h0_4 h0_5 hx35) ?_
 rintro _ _ _ ⟨rfl, rfl, rfl⟩
 refine vs 1 ?_
 refine nx rg2 ?_
 refine vs 2 ?_
 refine er ?_
 refine sc hM (fun ht36 hM => ?_) (fun ht36 hM => ?_)
 ·refine sg rg2 ?_
  refine vs 2 ?_
  refine er ?_
  obtain rfl := sinj hM
  exact rt Tryz.func83 (.tmp rfl .nil) (so sr) (hk _ _ _ ⟨(rr), rfl, rfl⟩)
 refine sp ?_
 refine At.inBlock ?_
 refine At.rg rg2 ?_
 refine vs 2 ?_
 refine er ?_
 refine At.inLoop ?_
 refine sg rg1 ?_
 refine vs 1 ?_
 refine es ?_
 refine At.cond_true rfl ?_
 refine sp ?_
 refine sq ?_
 refine At.block ?_
 refine sg rg2 ?_
 refine At.s rfl rfl (Ox.indexFn rfl rfl rfl array164 one109.1 (by decide) rfl rfl (.put rfl) ?_)
 refine vs 1 ?_
 refine nx rg5 ?_
 refine vs 1 ?_
 refine lN [_, _, _, _, _, _] 0 6 agg28 z0 ?_
 refine At.s rfl rfl (Ox.build (cells := #[_, _, _, _, _, _]) rfl struct102 rfl (fill_cons rfl rfl rfl rfl fill_nil) rfl (.put rfl) ?_)
 obtain ⟨x38, hx38, hM⟩ := bnd hM
 refine At.cv ent212 (m212_ok (⟨x0.Limit, ⟨x0.Ballast.Least, x0.Ballast.Most⟩, x0.Pieces, x0.Out, x0.Heels⟩ : HullBook) h0_3 h0_4 h0_5 hx38) ?_
 rintro _ Rx38 _ ⟨hRx38, rfl, rfl⟩
 replace h0_3 := h0_3.mono hRx38
 replace h0_4 := h0_4.mono hRx38
 replace h0_5 := h0_5.mono hRx38
 refine vs 1 ?_
 refine nx rg2 ?_
 refine vs 2 ?_
 refine er ?_
 refine sc hM (fun ht39 hM => ?_) (fun ht39 hM => ?_)
 ·refine sg rg2 ?_
  refine vs 2 ?_
  refine er ?_
  obtain rfl := sinj hM
  exact rt Tryz.func83 (.tmp rfl .nil) (so sr) (hk _ _ _ ⟨hRx38, rfl, rfl⟩)
 refine sp ?_
 refine At.inBlock ?_
 refine At.rg rg2 ?_
 refine vs 2 ?_
 refine er ?_
 refine At.inLoop ?_
 refine sg rg1 ?_
 refine vs 1 ?_
 refine es ?_
 refine At.cond_true rfl ?_
 refine sp ?_
 refine sq ?_
 refine At.block ?_
 refine sg rg2 ?_
 refine At.s rfl rfl (Ox.indexFn rfl rfl rfl array164 one109.1 (by decide) rfl rfl (.put rfl) ?_)
 refine vs 1 ?_
 refine nx rg5 ?_
 refine vs 1 ?_
 refine lN [_, _, _, _, _, _] 0 6 agg28 z0 ?_
 refine At.s rfl rfl (Ox.build (cells := #[_, _, _, _, _, _]) rfl struct102 rfl (fill_cons rfl rfl rfl rfl fill_nil) rfl (.put rfl) ?_)
 obtain ⟨x41, hx41, hM⟩ := bnd hM
 refine At.cv ent213 (m213_ok (⟨x0.Limit, ⟨x0.Ballast.Least, x0.Ballast.Most⟩, x0.Pieces, x0.Out, x0.Heels⟩ : HullBook) h0_3 h0_4 h0_5 hx41) ?_
 rintro _ Rx41 _ ⟨hRx41, rfl, rfl⟩
 replace h0_3 := h0_3.mono hRx41
 replace h0_4 := h0_4.mono hRx41
 replace h0_5 := h0_5.mono hRx41
 refine vs 1 ?_
 refine nx rg2 ?_
 refine vs 2 ?_
 refine er ?_
 refine sc hM (fun ht42 hM => ?_) (fun ht42 hM => ?_)
 ·refine sg rg2 ?_
  refine vs 2 ?_
  refine er ?_
  obtain rfl := sinj hM
  exact rt Tryz.func83 (.tmp rfl .nil) (so sr) (hk _ _ _ ⟨(hRx38.trans hRx41), rfl, rfl⟩)
 refine sp ?_
 refine At.inBlock ?_
 refine At.rg rg2 ?_
 refine vs 2 ?_
 refine er ?_
 refine At.inLoop ?_
 refine sg rg1 ?_
 refine vs 1 ?_
 refine es ?_
 refine At.cond_true rfl ?_
 refine sp ?_
 refine sq ?_
 refine At.block ?_
 refine sg rg2 ?_
 refine At.s rfl rfl (Ox.indexFn rfl rfl rfl array164 one109.1 (by decide) rfl rfl (.put rfl) ?_)
 refine vs 1 ?_
 refine nx rg5 ?_
 refine vs 1 ?_
 refine lN [_, _, _, _, _, _] 0 6 agg28 z0 ?_
 refine At.s rfl rfl (Ox.build (cells := #[_, _, _, _, _, _]) rfl struct102 rfl (fill_cons rfl rfl rfl rfl fill_nil) rfl (.put rfl) ?_)
 obtain ⟨x44, hx44, hM⟩ := bnd hM
 refine At.cv ent214 (m214_ok (⟨x0.Limit, ⟨x0.Ballast.Least, x0.Ballast.Most⟩, x0.Pieces, x0.Out, x0.Heels⟩ : HullBook) h0_3 h0_4 h0_5 hx44) ?_
 rintro _ _ _ ⟨rfl, rfl, rfl⟩
 refine vs 1 ?_
 refine nx rg2 ?_
 refine vs 2 ?_
 refine er ?_
 refine sc hM (fun ht45 hM => ?_) (fun ht45 hM => ?_)
 ·refine sg rg2 ?_
  refine vs 2 ?_
  refine er ?_
  obtain rfl := sinj hM
  exact rt Tryz.func83 (.tmp rfl .nil) (so sr) (hk _ _ _ ⟨(hRx38.trans hRx41), rfl, rfl⟩)
 refine sp ?_
 refine At.inBlock ?_
 refine At.rg rg2 ?_
 refine vs 2 ?_
 refine er ?_
 refine At.inLoop ?_
 refine sg rg1 ?_
 refine vs 1 ?_
 refine es ?_
 refine At.cond_false rfl ?_
 refine At.exit rfl ?_
 refine sg rg1 ?_
 refine vs 1 ?_
 refine er ?_
 obtain rfl := sinj hM
 exact rt Tryz.func83 (.tmp rfl .nil) (so sr) (hk _ _ _ ⟨(hRx38.trans hRx41), rfl, rfl⟩)
theorem m103_ok (x0 : HullBook) (x1 : Int) {v0_3 v0_4 v0_5 : Value} (_ : SlR CHullPiece 5 R v0_3 x0.Pieces) (_ : SlR CZ 1 R v0_4 x0.Out) (_ : SlR CHullHeel 2 R v0_5 x0.Heels) {r : Bool} (hM : m103 x0 x1 = some r) : FnOk 𝒥 103 #[.agg #[iv x0.Limit, iv x0.Ballast.Least, iv x0.Ballast.Most, v0_3, v0_4, v0_5], iv x1] R H (fun v R' H' => R = R' ∧ H = H' ∧ v = .bool r) := by
 unfold m103 at hM
 refine FnOk.of_at Tryz.func103 rfl (n := 13) rfl rfl fun fr cs hk => ?_
 refine sg rg2 ?_
 refine bx fun b21 => ?_
 refine vs 1 ?_
 refine nx rg9 ?_
 refine vs 2 ?_
 refine At.s rfl rfl (Ox.ngK rfl rfl rfl (.put rfl) ?_)
 refine At.s rfl rfl (Ox.max (a := x1) (l := [i64 (0 - x1)]) rfl rfl rfl (.put rfl) ?_)
 refine vs 2 ?_
 refine ld 0 one3 z0 ?_
 refine vs 2 ?_
 refine er ?_
 obtain rfl := sinj hM
 exact rt Tryz.func103 (.tmp rfl .nil) (so sr) (hk _ _ _ ⟨rfl, rfl, rfl⟩)
theorem m174_ok (x0 : (List HullHeel)) (x1 : (HullHeel → Option Bool)) {v0 v1 : Value} (h0 : RdS CHullHeel 2 R H v0 x0) (h1 : FunR 𝒥 R H (VAgg CHullHeel) VB v1 x1) {r : Int} (hM : m174 x0 x1 = some r) : FnOk 𝒥 174 #[v0, v1] R H (fun v R' H' => RLe R R' ∧ H = H' ∧ v = iv r) := by
 unfold m174 at hM
 refine FnOk.of_at Tryz.func174 rfl (n := 19) rfl rfl fun fr cs hk => ?_
 refine sg rg1 ?_
 refine vs 1 ?_
 refine es ?_
 refine sg rg3 ?_
 refine vs 1 ?_
 refine lr h0 Tryz.underlying26 ?_
 refine vs 1 ?_
 refine er ?_
 refine At.block ?_
 refine At.loopE1R hM (fun (s39 : Int) R' H' st' => RLe R R' ∧ H = H' ∧ SubL st' [(0, v0), (1, v1), (7, iv (x0.length : Int)), (8, iv s39)]) (fun (p39_0 : Unit) R' H' st' => RLe R R' ∧ H = H' ∧ SubL st' []) 0 rfl ⟨rr, rfl, SubT.sub ⟨rfl, rfl, rfl, rfl, trivial⟩⟩ ?_ ?_
 rotate_right
 ·rintro s39 R39 H39 st39 ⟨hR39, rfl, hst39⟩ x39 hM again39 ex39_0 out39
  refine At.sub hst39 ?_
  replace h0 := h0.le hR39
  replace h1 := h1.up hR39 pp
  refine sg rg1 ?_
  refine vs 1 ?_
  refine es ?_
  refine sc hM (fun ht54 hM => ?_) (fun ht54 hM => ?_)
  ·refine sp ?_
   refine sq ?_
   refine At.block ?_
   refine sg rg2 ?_
   refine vs 2 ?_
   refine nx rg6 ?_
   refine vs 3 ?_
   obtain ⟨x55, hx55, hM⟩ := bnd hM
   obtain ⟨x56, hx56, hM⟩ := bnd hM
   obtain ⟨bx55, ox55, _, rfl, hcx55, hix55⟩ := h0.elem slice26 hx55
   refine At.s rfl rfl (Ox.indexV rfl rfl rfl hix55 rfl (.put rfl) ?_)
   refine At.s rfl rfl (Ox.loadN (vs := [_, _]) rfl rfl agg47 rfl ((hcx55.sub pp).part (j := 0) (n := 2) rfl) rfl (.put rfl) ?_)
   refine At.step rfl rfl rfl (Ox.callFun h1 rfl rfl rfl ⟨_, rfl, rfl⟩ hx56 rfl pp ?_)
   rintro _ Rx56 hRx56 rfl
   replace h0 := h0.le hRx56
   replace h1 := h1.up hRx56 pp
   replace hcx55 := hcx55.le hRx56
   refine ⟨_, (.put rfl), ?_⟩
   refine er ?_
   refine sc hM (fun ht57 hM => ?_) (fun ht57 hM => ?_)
   ·refine sg rg2 ?_
    refine vs 2 ?_
    refine er ?_
    replace hM := out39 _ (sinj hM).symm
    obtain rfl := sinj hM
    exact rt Tryz.func174 (.tmp rfl .nil) sr (hk _ _ _ ⟨(hR39.trans hRx56), rfl, rfl⟩)
   refine sp ?_
   refine At.inBlock ?_
   refine At.rg rg2 ?_
   refine vs 2 ?_
   refine er ?_
   exact again39 _ (sinj hM).symm _ _ _ ⟨(hR39.trans hRx56), rfl, SubT.sub ⟨rfl, rfl, rfl, rfl, trivial⟩⟩
  exact At.exit rfl (ex39_0 _ (sinj hM).symm _ _ _ ⟨hR39, rfl, SubT.sub trivial⟩)
 rintro p39_0 R39_0 H39_0 st39_0 ⟨hR39_0, rfl, hst39_0⟩ hM
 refine At.sub hst39_0 ?_
 refine sg rg1 ?_
 refine vs 1 ?_
 refine er ?_
 obtain rfl := sinj hM
 exact rt Tryz.func174 (.tmp rfl .nil) sr (hk _ _ _ ⟨hR39_0, rfl, rfl⟩)
theorem m162_ok (x0 : (List HullHeel)) (x1 : (HullHeel → Option Bool)) {v0 v1 : Value} (h0 : RdS CHullHeel 2 R H v0 x0) (h1 : FunR 𝒥 R H (VAgg CHullHeel) VB v1 x1) {r : Bool} (hM : m162 x0 x1 = some r) : FnOk 𝒥 162 #[v0, v1] R H (fun v R' H' => RLe R R' ∧ H = H' ∧ v = .bool r) := by
 unfold m162 at hM
 refine FnOk.of_at Tryz.func162 rfl (n := 9) rfl rfl fun fr cs hk => ?_
 refine sg rg1 ?_
 refine vs 1 ?_
 refine nx rg5 ?_
 refine vs 2 ?_
 obtain ⟨x21, hx21, hM⟩ := bnd hM
 refine At.cv ent174 (m174_ok x0 x1 (h0.sub pp) h1 hx21) ?_
 rintro _ Rx21 _ ⟨hRx21, rfl, rfl⟩
 replace h0 := h0.le hRx21
 replace h1 := h1.up hRx21 pp
 refine vs 2 ?_
 refine er ?_
 obtain rfl := sinj hM
 exact rt Tryz.func162 (.tmp rfl .nil) sr (hk _ _ _ ⟨hRx21, rfl, rfl⟩)
theorem m164_ok (x0 : Int)  {r : Int} (hM : m164 x0 = some r) : FnOk 𝒥 164 #[iv x0] R H (fun v R' H' => R = R' ∧ H = H' ∧ v = iv r) := by
 unfold m164 at hM
 refine FnOk.of_at Tryz.func164 rfl (n := 9) rfl rfl fun fr cs hk => ?_
 refine sg rg1 ?_
 refine vs 1 ?_
 refine es ?_
 refine At.block ?_
 refine sg rg3 ?_
 refine vs 3 ?_
 refine er ?_
 refine sc hM (fun ht22 hM => ?_) (fun ht22 hM => ?_)
 ·refine sg rg1 ?_
  refine vs 1 ?_
  refine er ?_
  obtain rfl := sinj hM
  exact rt Tryz.func164 (.tmp rfl .nil) sr (hk _ _ _ ⟨rfl, rfl, rfl⟩)
 refine sg rg3 ?_
 refine vs 3 ?_
 refine er ?_
 refine sc hM (fun ht23 hM => ?_) (fun ht23 hM => ?_)
 ·refine sg rg1 ?_
  refine vs 1 ?_
  refine er ?_
  obtain rfl := sinj hM
  exact rt Tryz.func164 (.tmp rfl .nil) sr (hk _ _ _ ⟨rfl, rfl, rfl⟩)
 refine sp ?_
 refine At.inBlock ?_
 refine sg rg1 ?_
 refine vs 1 ?_
 refine er ?_
 obtain rfl := sinj hM
 exact rt Tryz.func164 (.tmp rfl .nil) sr (hk _ _ _ ⟨rfl, rfl, rfl⟩)
theorem m163_ok (x0 : HullHeel) (x1 : Int) (x2 : Int) {b1 b2 : Nat} (hc1 : CellsAt R H b1 0 [iv x1]) (hc2 : CellsAt R H b2 0 [iv x2]) {r : Bool} (hM : m163 x0 x1 x2 = some r) : FnOk 𝒥 163 #[.agg #[iv x0.After, iv x0.Side], .pointer (some ⟨b1, 0, none⟩), .pointer (some ⟨b2, 0, none⟩)] R H (fun v R' H' => R = R' ∧ H = H' ∧ v = .bool r) := by
 unfold m163 at hM
 refine FnOk.of_at Tryz.func163 rfl (n := 16) rfl rfl fun fr cs hk => ?_
 refine sg rg2 ?_
 refine bx fun b23 => ?_
 refine vs 1 ?_
 refine es ?_
 refine At.dw rg12 mixed ?_
 refine Any.vs 1 [0] rfl ?_
 refine tl 1 0 one3 z0 ?_
 refine Any.tk 2 rfl pp (fun R' H' hR hS => Ox.load1 rfl rfl one3 (((hc1.le hR).sub (fun p h => hS p ((su (so sr)) p h))).one (j := 0) rfl) rfl (.one rfl) ⟨rfl, rfl, rfl⟩) ?_
 refine Any.vs 2 [3, 4] rfl ?_
 refine selC hM (fun ht24 hM => ?_) (fun ht24 hM => ?_)
 ·refine Any.known (t := 9) rfl ht24 ?_
  refine Any.vs 1 [5] rfl ?_
  refine tl 6 1 one45 z0 ?_
  refine Any.tk 7 rfl pp (fun R' H' hR hS => Ox.load1 rfl rfl one3 (((hc2.le hR).sub (fun p h => hS p ((su (so sr)) p h))).one (j := 0) rfl) rfl (.one rfl) ⟨rfl, rfl, rfl⟩) ?_
  obtain ⟨x25, hx25, hM⟩ := bnd hM
  refine Any.cv 8 ent164 (m164_ok x2  hx25) ?_
  rintro _ _ _ ⟨rfl, rfl, rfl⟩
  refine kp ?_
  refine Any.vs 3 [9, 10, 11] rfl ?_
  refine Any.done ?_
  obtain rfl := sinj hM
  exact rt Tryz.func163 (.tmp rfl .nil) (so sr) (hk _ _ _ ⟨rfl, rfl, rfl⟩)
 refine Any.known (t := 9) rfl ht24 ?_
 refine Any.vs 7 [5, 6, 7, 8, 9, 10, 11] rfl ?_
 refine Any.done ?_
 obtain rfl := sinj hM
 exact rt Tryz.func163 (.tmp rfl .nil) (so sr) (hk _ _ _ ⟨rfl, rfl, rfl⟩)
theorem m143_ok (x0 : HullBook) (x1 : Cargo) {v0_3 v0_4 v0_5 : Value} (h0_3 : SlR CHullPiece 5 R v0_3 x0.Pieces) (h0_4 : SlR CZ 1 R v0_4 x0.Out) (h0_5 : SlR CHullHeel 2 R v0_5 x0.Heels) (l1_1 : x1.weights.length = 5) {r : Bool} (hM : m143 x0 x1 = some r) : FnOk 𝒥 143 #[.agg #[iv x0.Limit, iv x0.Ballast.Least, iv x0.Ballast.Most, v0_3, v0_4, v0_5], .agg (List.toArray ([iv x1.ballast] ++ (x1.weights.map (Value.int .i64) ++ [])))] R H (fun v R' H' => RLe R R' ∧ H = H' ∧ v = .bool r) := by
 unfold m143 at hM
 refine FnOk.of_at Tryz.func143 rfl (n := 36) rfl rfl fun fr cs hk => ?_
 refine sg rg3 ?_
 refine bx fun b62 => ?_
 refine bx fun b63 => ?_
 refine vs 1 ?_
 refine es ?_
 refine sg rg6 ?_
 refine vs 2 ?_
 refine ld 4 one25 z1 ?_
 refine ls h0_4 Tryz.underlying25 ?_
 refine vs 2 ?_
 refine er ?_
 refine At.block ?_
 refine At.loopE1R hM (fun (s64 : Int) R' H' st' => RLe R R' ∧ H' = (b63, .cells (List.toArray ([iv x1.ballast] ++ (x1.weights.map (Value.int .i64) ++ []))) 125) :: (b62, .cells #[iv x0.Limit, iv x0.Ballast.Least, iv x0.Ballast.Most, v0_3, v0_4, v0_5] 102) :: H ∧ SubL st' [(2, .pointer (some ⟨b62, 0, none⟩)), (3, .pointer (some ⟨b63, 0, none⟩)), (11, iv (i64 ((x0.Out.length : Int) + 1))), (12, iv s64)]) (fun (p64_0 : Unit) R' H' st' => RLe R R' ∧ H = H' ∧ SubL st' []) 0 rfl ⟨rr, rfl, SubT.sub ⟨rfl, rfl, rfl, rfl, trivial⟩⟩ ?_ ?_
 rotate_right
 ·rintro s64 R64 H64 st64 ⟨hR64, rfl, hst64⟩ x64 hM again64 ex64_0 out64
  refine At.sub hst64 ?_
  replace h0_3 := h0_3.mono hR64
  replace h0_4 := h0_4.mono hR64
  replace h0_5 := h0_5.mono hR64
  refine sg rg1 ?_
  refine vs 1 ?_
  refine es ?_
  refine sc hM (fun ht93 hM => ?_) (fun ht93 hM => ?_)
  ·refine sp ?_
   refine sq ?_
   refine At.block ?_
   refine sg rg3 ?_
   refine vs 1 ?_
   refine At.s rfl rfl (Ox.alloc (cs := #[iv 0]) rfl zero3 rfl fun b94 _ _ => ⟨_, (.put rfl), ?_⟩)
   refine At.s rfl rfl (Ox.store1 (cs' := #[_]) rfl rfl rfl one3 rfl .here rfl rfl rfl (.refl _) ?_)
   refine es ?_
   obtain ⟨x95, hx95, hM⟩ := bnd hM
   obtain ⟨x96, hx96, hM⟩ := bnd hM
   obtain ⟨x97, hx97, hM⟩ := bnd hM
   refine At.cut (fun R' H' st' => R64 = R' ∧ ∃ (b98 : Nat), H' = (b98, .cells #[iv x97] 3) :: (b94, .cells #[iv s64] 3) :: (b63, .cells (List.toArray ([iv x1.ballast] ++ (x1.weights.map (Value.int .i64) ++ []))) 125) :: (b62, .cells #[iv x0.Limit, iv x0.Ballast.Least, iv x0.Ballast.Most, v0_3, v0_4, v0_5] 102) :: H ∧ SubL st' [(2, .pointer (some ⟨b62, 0, none⟩)), (3, .pointer (some ⟨b63, 0, none⟩)), (5, .pointer (some ⟨b94, 0, none⟩)), (6, .pointer (some ⟨b98, 0, none⟩)), (11, iv (i64 ((x0.Out.length : Int) + 1))), (12, iv s64)]) ?_ ?_
   ·rintro Rc99 Hc99 stc99 ⟨rfl, b98, rfl, hstc99⟩
    refine At.sub hstc99 ?_
    refine sg rg10 ?_
    refine lN [_, _, _, _, _, _] 0 6 agg102 z3 ?_
    refine ld 0 one3 z0 ?_
    obtain ⟨x100, hx100, hM⟩ := bnd hM
    refine At.cv ent103 (m103_ok x0 x97 h0_3 h0_4 h0_5 hx100) ?_
    rintro _ _ _ ⟨rfl, rfl, rfl⟩
    refine vs 1 ?_
    refine selC hM (fun ht101 hM => ?_) (fun ht101 hM => ?_)
    ·refine At.kn 28 ht101 ?_
     refine vs 6 ?_
     refine er ?_
     refine At.cond_true rfl ?_
     refine sg rg1 ?_
     refine vs 1 ?_
     refine er ?_
     replace hM := out64 _ (sinj hM).symm
     obtain rfl := sinj hM
     exact rt Tryz.func143 (.tmp rfl .nil) (so (so (so (so sr)))) (hk _ _ _ ⟨hR64, rfl, rfl⟩)
    refine At.kn 28 ht101 ?_
    refine vs 2 ?_
    refine ld 5 one26 z3 ?_
    refine At.s rfl rfl (Ox.makeFunc (vs := #[]) (us := #[_, _]) rfl rfl rfl rfl (.put rfl) ?_)
    obtain ⟨x102, hx102, hM⟩ := bnd hM
    refine At.cv ent162 (m162_ok x0.Heels (fun y => m163 y s64 x97) h0_5.rd ⟨163, #[], #[_, _], rfl, ent163, fun R' H' hR hH y r va hA hr => by obtain ⟨_, rfl, rfl⟩ := hA; exact (m163_ok y s64 x97 (CellsAt.box (hH _ z1)) (CellsAt.box (hH _ z0)) hr).mono fun _ _ _ ⟨h1, h2, h3⟩ => ⟨h1 ▸ rr, h2.symm, h3⟩⟩ hx102) ?_
    rintro _ Rx102 _ ⟨hRx102, rfl, rfl⟩
    refine vs 1 ?_
    refine er ?_
    refine sc hM (fun ht103 hM => ?_) (fun ht103 hM => ?_)
    ·refine sg rg1 ?_
     refine vs 1 ?_
     refine er ?_
     replace hM := out64 _ (sinj hM).symm
     obtain rfl := sinj hM
     exact rt Tryz.func143 (.tmp rfl .nil) (so (so (so (so sr)))) (hk _ _ _ ⟨(hR64.trans hRx102), rfl, rfl⟩)
    refine sp ?_
    refine At.inBlock ?_
    refine At.rg rg2 ?_
    refine vs 2 ?_
    refine er ?_
    exact At.drop (so (so sr)) (again64 _ (sinj hM).symm _ _ _ ⟨(hR64.trans hRx102), rfl, SubT.sub ⟨rfl, rfl, rfl, rfl, trivial⟩⟩)
   intro hcut99
   refine At.dw rg12 mixed ?_
   refine tN 0 [_, _, _, _, _, _] 0 6 agg102 z2 ?_
   refine Any.tk 1 rfl pp (fun R' H' hR hS => Ox.loadN (vs := _) rfl rfl agg125 (by simp [l1_1]) ((CellsAt.box (hS _ z1)).part (j := 0) (n := 6) (take_all (by simp [l1_1]))) rfl (.one rfl) ⟨rfl, rfl, rfl⟩) ?_
   refine Any.tk 2 rfl pp (fun R' H' hR hS => Ox.buildZ (z := (List.toArray ([] ++ ([false, false, false, false, false].map Value.bool ++ [])))) rfl arrz112 rfl (.one rfl) ⟨rfl, rfl, rfl⟩) ?_
   refine Any.vs 2 [3, 4] rfl ?_
   refine tl 5 4 one25 z2 ?_
   refine tl 6 0 one3 z0 ?_
   obtain ⟨vx95, hx95s, hkx95⟩ := h0_4.cut slice25 hx95
   refine Any.tk 7 rfl pp (fun R' H' hR hS => Ox.cutV rfl rfl rfl rfl hkx95 rfl (.one rfl) ⟨rfl, rfl, rfl⟩) ?_
   refine tw 8 10 ?_ ?_
   ·refine  (Ox.callV rfl rfl rfl rfl ent93 rfl rfl ((m93_ok [false, false, false, false, false] x95 rfl hx95s.rd hx96).mono ?_))
    rintro _ _ _ ⟨rfl, rfl, lx96r0, rfl⟩
    refine ⟨_, (.put rfl), ⟨rr, ka, ?_⟩⟩
    refine tw 9 10 ?_ ?_
    ·refine  (Ox.callV rfl rfl rfl rfl ent104 rfl rfl ((m104_ok x0 x1 x96 h0_3 h0_4 h0_5 l1_1 lx96r0 hx97).mono ?_))
     rintro _ _ _ ⟨rfl, rfl, rfl⟩
     refine ⟨_, (.put rfl), ⟨rr, ka, ?_⟩⟩
     refine Any.on 10 rfl rfl (SemTo.to (Ox.alloc (cs := #[iv 0]) rfl zero3 rfl fun b98 _ _ => ⟨_, (.put rfl), ⟨rr, (ku (so sr)), ?_⟩⟩))
     refine Any.on 11 rfl rfl (SemTo.to (Ox.store1 (cs' := #[_]) rfl rfl rfl one3 rfl .here rfl rfl rfl (.refl _) ⟨rr, (ku (so sr)), ?_⟩))
     exact Any.done (hcut99 _ _ _ ⟨rfl, b98, rfl, SubT.sub ⟨rfl, rfl, rfl, rfl, rfl, rfl, trivial⟩⟩)
    refine  (SemTo.to (Ox.alloc (cs := #[iv 0]) rfl zero3 rfl fun b98 _ _ => ⟨_, (.put rfl), ⟨rr, (ku (so sr)), ?_⟩⟩))
    refine Any.cv 9 ent104 (m104_ok x0 x1 x96 h0_3 h0_4 h0_5 l1_1 lx96r0 hx97) ?_
    rintro _ _ _ ⟨rfl, rfl, rfl⟩
    refine ⟨rr, (ku (so sr)), ?_⟩
    refine Any.on 11 rfl rfl (SemTo.to (Ox.store1 (cs' := #[_]) rfl rfl rfl one3 rfl .here rfl rfl rfl (.refl _) ⟨rr, (ku (so sr)), ?_⟩))
    exact Any.done (hcut99 _ _ _ ⟨rfl, b98, rfl, SubT.sub ⟨rfl, rfl, rfl, rfl, rfl, rfl, trivial⟩⟩)
   refine  (SemTo.to (Ox.alloc (cs := #[iv 0]) rfl zero3 rfl fun b98 _ _ => ⟨_, (.put rfl), ⟨rr, (ku (so sr)), ?_⟩⟩))
   refine Any.cv 8 ent93 (m93_ok [false, false, false, false, false] x95 rfl hx95s.rd hx96) ?_
   rintro _ _ _ ⟨rfl, rfl, lx96r0, rfl⟩
   refine ⟨rr, (ku (so sr)), ?_⟩
   refine Any.cv 9 ent104 (m104_ok x0 x1 x96 h0_3 h0_4 h0_5 l1_1 lx96r0 hx97) ?_
   rintro _ _ _ ⟨rfl, rfl, rfl⟩
   refine ⟨rr, (ku (so sr)), ?_⟩
   refine Any.on 11 rfl rfl (SemTo.to (Ox.store1 (cs' := #[_]) rfl rfl rfl one3 rfl .here rfl rfl rfl (.refl _) ⟨rr, (ku (so sr)), ?_⟩))
   exact Any.done (hcut99 _ _ _ ⟨rfl, b98, rfl, SubT.sub ⟨rfl, rfl, rfl, rfl, rfl, rfl, trivial⟩⟩)
  exact At.exit rfl (At.drop (so (so sr)) (ex64_0 _ (sinj hM).symm _ _ _ ⟨hR64, rfl, SubT.sub trivial⟩))
 rintro p64_0 R64_0 H64_0 st64_0 ⟨hR64_0, rfl, hst64_0⟩ hM
 refine At.sub hst64_0 ?_
 refine sg rg1 ?_
 refine vs 1 ?_
 refine er ?_
 obtain rfl := sinj hM
 exact rt Tryz.func143 (.tmp rfl .nil) sr (hk _ _ _ ⟨hR64_0, rfl, rfl⟩)
theorem m157_ok {S : Type} {ys : Cargo → S → Option (S × Bool)} {vY : Value} (k : Nat) : ∀ {Inv : S → RMap → HList → Prop} {R : RMap} {Hy : HList} (_ : HandS 𝒥 R (VAgg CCargo) vY ys Inv) (x0 : Cargo) (x1 : Int) (x2 : HullBook) {s0 : S} (_ : Inv s0 R Hy) {v2_3 v2_4 v2_5 : Value} {b2 b3 b4 : Nat} (_ : x0.weights.length = 5) (_ : CellsAt R [] b2 0 [iv x2.Limit, iv x2.Ballast.Least, iv x2.Ballast.Most, v2_3, v2_4, v2_5]) (_ : SlR CHullPiece 5 R v2_3 x2.Pieces) (_ : SlR CZ 1 R v2_4 x2.Out) (_ : SlR CHullHeel 2 R v2_5 x2.Heels) (_ : CellsAt R [] b3 0 [vY]) (_ : CellsAt R [] b4 0 [.func (.func 157) #[] #[.pointer (some ⟨b2, 0, none⟩), .pointer (some ⟨b3, 0, none⟩), .pointer (some ⟨b4, 0, none⟩)]]) {r : (S × Bool)} (_ : m157 ys k x0 x1 x2 s0 = some r), FnOk 𝒥 157 #[.agg (List.toArray ([iv x0.ballast] ++ (x0.weights.map (Value.int .i64) ++ []))), iv x1, .pointer (some ⟨b2, 0, none⟩), .pointer (some ⟨b3, 0, none⟩), .pointer (some ⟨b4, 0, none⟩)] R Hy (fun v R' H' => RLe R R' ∧ Inv r.1 R' H' ∧ v = .bool r.2) := by
 induction k with
 | zero => intro Inv R Hy hY x0 x1 x2 s0 hI v2_3 v2_4 v2_5 b2 b3 b4 l0_1 hc2 h2_3 h2_4 h2_5 hc3 hc4 r hM; exact absurd hM (by simp [m157])
 | succ k ih =>
  intro Inv R Hy hY x0 x1 x2 s0 hI v2_3 v2_4 v2_5 b2 b3 b4 l0_1 hc2 h2_3 h2_4 h2_5 hc3 hc4 r hM
  rw [m157] at hM
  refine FnOk.of_at Tryz.func157 rfl (n := 50) rfl rfl fun fr cs hk => ?_
  refine sg rg2 ?_
  refine bx fun b20 => ?_
  refine vs 1 ?_
  refine es ?_
  refine sg rg6 ?_
  refine vs 3 ?_
  refine At.ld one24 (hc2.any.one (j := 3) rfl) ?_
  refine ls h2_3 Tryz.underlying24 ?_
  refine vs 1 ?_
  refine er ?_
  refine sc hM (fun ht26 hM => ?_) (fun ht26 hM => ?_)
  ·refine sq ?_
   refine At.joinE1 hM (fun (p27_0 : (S × Bool)) R' H' st' => RLe R R' ∧ ∃ Hy27_0_0, Inv p27_0.1 R' Hy27_0_0 ∧ Hy27_0_0 = H' ∧ SubL st' [(7, .bool p27_0.2)])  ?_ ?_
   rotate_right
   ·intro x27 hM ex27_0
    obtain ⟨x31, hx31, hM⟩ := bnd hM
    refine selC hM (fun ht32 hM => ?_) (fun ht32 hM => ?_)
    ·refine At.rg rg10 ?_
     refine At.s rfl rfl (Ox.loadN (vs := [_, _, _, _, _, _]) rfl rfl agg102 rfl (hc2.any.part (j := 0) (n := 6) rfl) rfl (.put rfl) ?_)
     refine At.s rfl rfl (Ox.loadN (vs := _) rfl rfl agg125 (by simp [l0_1]) ((CellsAt.box z0).part (j := 0) (n := 6) (take_all (by simp [l0_1]))) rfl (.put rfl) ?_)
     refine At.cv ent143 (m143_ok x2 x0 h2_3 h2_4 h2_5 l0_1 hx31) ?_
     rintro _ Rx31 _ ⟨hRx31, rfl, rfl⟩
     replace h2_3 := h2_3.mono hRx31
     replace h2_4 := h2_4.mono hRx31
     replace h2_5 := h2_5.mono hRx31
     replace hI := hY.mono (rr) hRx31 hI
     replace hc2 := hc2.up (H := []) hRx31
     replace hc3 := hc3.up (H := []) hRx31
     replace hY := hY.up hRx31
     refine vs 2 ?_
     refine At.kn 20 ht32 ?_
     refine vs 5 ?_
     refine er ?_
     exact At.drop (so sr) (ex27_0 _ (sinj hM).symm _ _ _ ⟨hRx31, Hy, hI, rfl, SubT.sub ⟨rfl, trivial⟩⟩)
    obtain ⟨x33, hx33, hM⟩ := bnd hM
    refine At.rg rg10 ?_
    refine At.s rfl rfl (Ox.loadN (vs := [_, _, _, _, _, _]) rfl rfl agg102 rfl (hc2.any.part (j := 0) (n := 6) rfl) rfl (.put rfl) ?_)
    refine At.s rfl rfl (Ox.loadN (vs := _) rfl rfl agg125 (by simp [l0_1]) ((CellsAt.box z0).part (j := 0) (n := 6) (take_all (by simp [l0_1]))) rfl (.put rfl) ?_)
    refine At.cv ent143 (m143_ok x2 x0 h2_3 h2_4 h2_5 l0_1 hx31) ?_
    rintro _ Rx31 _ ⟨hRx31, rfl, rfl⟩
    replace h2_3 := h2_3.mono hRx31
    replace h2_4 := h2_4.mono hRx31
    replace h2_5 := h2_5.mono hRx31
    replace hI := hY.mono (rr) hRx31 hI
    replace hc2 := hc2.up (H := []) hRx31
    replace hc3 := hc3.up (H := []) hRx31
    replace hY := hY.up hRx31
    refine vs 2 ?_
    refine At.kn 20 ht32 ?_
    refine At.ld one130 (hc3.any.one (j := 0) rfl) ?_
    refine At.s rfl rfl (Ox.loadN (vs := _) rfl rfl agg125 (by simp [l0_1]) ((CellsAt.box z0).part (j := 0) (n := 6) (take_all (by simp [l0_1]))) rfl (.put rfl) ?_)
    refine At.stepY rfl rfl rfl rfl rfl rfl rfl rfl ((hY.call [(b20, _)] (rr) hI ⟨_, rfl, ⟨l0_1, rfl⟩⟩ hx33).mono ?_)
    rintro _ Rx33 _ ⟨hRx33, rfl, Hyx33, hIx33, hHx33⟩
    replace hHx33 : _ = (b20, _) :: Hyx33 := hHx33
    subst hHx33
    replace h2_3 := h2_3.mono hRx33
    replace h2_4 := h2_4.mono hRx33
    replace h2_5 := h2_5.mono hRx33
    replace hc2 := hc2.up (H := []) hRx33
    replace hc3 := hc3.up (H := []) hRx33
    replace hY := hY.up hRx33
    refine ⟨_, (.put rfl), ?_⟩
    refine vs 2 ?_
    refine er ?_
    exact At.drop (so sr) (ex27_0 _ (sinj hM).symm _ _ _ ⟨(hRx31.trans hRx33), Hyx33, hIx33, rfl, SubT.sub ⟨rfl, trivial⟩⟩)
   rintro p27_0 R27_0 H27_0 st27_0 ⟨hR27_0, Hy27_0_0, hI27_0_0, rfl, hst27_0⟩ hM
   refine At.sub hst27_0 ?_
   replace hY := hY.up hR27_0
   obtain rfl := sinj hM
   exact rt Tryz.func157 (.tmp rfl .nil) sr (hk _ _ _ ⟨hR27_0, hI27_0_0, rfl⟩)
  refine sp ?_
  refine sq ?_
  obtain ⟨x34, hx34, hM⟩ := bnd hM
  refine At.rg rg9 ?_
  refine vs 2 ?_
  refine At.ld one24 (hc2.any.one (j := 3) rfl) ?_
  refine vs 1 ?_
  obtain ⟨bx34, ox34, _, ⟨vx34_4, hx34_4, rfl⟩, hcx34, hix34⟩ := h2_3.elem slice24 hx34
  refine At.s rfl rfl (Ox.indexV rfl rfl rfl hix34 rfl (.put rfl) ?_)
  refine vs 1 ?_
  refine At.s rfl rfl (Ox.loadN (vs := [_, _]) rfl rfl agg23 rfl (hcx34.any.part (j := 2) (n := 2) rfl) rfl (.put rfl) ?_)
  refine At.s rfl rfl (Ox.alloc (cs := #[iv 0, iv 0]) rfl zero23 rfl fun b35 _ _ => ⟨_, (.put rfl), ?_⟩)
  refine At.s rfl rfl (Ox.storeN (cs' := #[_, _]) rfl rfl rfl agg23 rfl (ones_cons rfl (ones_cons rfl ones_nil)) .here rfl rfl rfl (.refl _) ?_)
  refine es ?_
  refine sg rg3 ?_
  refine vs 1 ?_
  refine ld 0 one3 z0 ?_
  refine vs 1 ?_
  refine er ?_
  refine At.block ?_
  refine At.loopE1R hM (fun (s36 : (S × Int × (List Int))) R' H' st' => RLe R R' ∧ ∃ Hy36s_0, Inv s36.1 R' Hy36s_0 ∧ s36.2.2.length = 5 ∧ H' = (b35, .cells #[iv x34.Weight.Least, iv x34.Weight.Most] 23) :: (b20, .cells (List.toArray ([iv x0.ballast] ++ (s36.2.2.map (Value.int .i64) ++ []))) 125) :: Hy36s_0 ∧ SubL st' [(1, iv x1), (4, .pointer (some ⟨b4, 0, none⟩)), (5, .pointer (some ⟨b20, 0, none⟩)), (8, .pointer (some ⟨b35, 0, none⟩)), (9, iv s36.2.1)]) (fun (p36_0 : S) R' H' st' => RLe R R' ∧ ∃ Hy36_0_0, Inv p36_0 R' Hy36_0_0 ∧ Hy36_0_0 = H' ∧ SubL st' []) 0 rfl ⟨rr, Hy, hI, l0_1, rfl, SubT.sub ⟨rfl, rfl, rfl, rfl, rfl, trivial⟩⟩ ?_ ?_
  rotate_right
  ·rintro s36 R36 H36 st36 ⟨hR36, Hy36s_0, hI36s_0, l36s_2, rfl, hst36⟩ x36 hM again36 ex36_0 out36
   refine At.sub hst36 ?_
   replace h2_3 := h2_3.mono hR36
   replace h2_4 := h2_4.mono hR36
   replace h2_5 := h2_5.mono hR36
   replace hc2 := hc2.up (H := []) hR36
   replace hc3 := hc3.up (H := []) hR36
   replace hc4 := hc4.up (H := []) hR36
   replace hY := hY.up hR36
   refine sq ?_
   refine sg rg4 ?_
   refine vs 2 ?_
   refine ld 1 one3 z0 ?_
   refine vs 1 ?_
   refine er ?_
   refine sc hM (fun ht51 hM => ?_) (fun ht51 hM => ?_)
   ·refine sp ?_
    refine sq ?_
    refine At.block ?_
    refine sq ?_
    obtain ⟨x52, hx52, hM⟩ := bnd hM
    refine At.rg rg5 ?_
    refine vs 3 ?_
    refine At.s rfl rfl (Ox.indexV rfl rfl rfl (idxArr' array123 l36s_2 hx52) rfl (.put rfl) ?_)
    refine At.s rfl rfl (Ox.store1 rfl rfl rfl one3 rfl (.there .here) (arr_lt hx52 rfl) (arr_set hx52 rfl) rfl (.refl _) ?_)
    refine es ?_
    obtain ⟨x53, hx53, hM⟩ := bnd hM
    refine At.rg rg6 ?_
    refine At.ld one179 (hc4.any.one (j := 0) rfl) ?_
    refine At.s rfl rfl (Ox.loadN (vs := _) rfl rfl agg125 (by simp [l36s_2]) ((CellsAt.box z1).part (j := 0) (n := 6) (take_all (by simp [l36s_2]))) rfl (.put rfl) ?_)
    refine vs 2 ?_
    refine At.step rfl rfl rfl (Ox.callV rfl rfl rfl rfl ent157 rfl rfl ((ih (hY.frame [(b35, _), (b20, _)]) (⟨x0.ballast, s36.2.2.set x1.toNat s36.2.1⟩ : Cargo) (i64 (x1 + 1)) x2 ⟨_, hI36s_0, rfl⟩ ((List.length_set).trans l36s_2) hc2.any h2_3 h2_4 h2_5 hc3 hc4 hx53).mono ?_))
    rintro _ Rx53 _ ⟨hRx53, ⟨Hyx53, hIx53, hHx53⟩, rfl⟩
    replace hHx53 : _ = (b35, _) :: (b20, _) :: Hyx53 := hHx53
    subst hHx53
    replace h2_3 := h2_3.mono hRx53
    replace h2_4 := h2_4.mono hRx53
    replace h2_5 := h2_5.mono hRx53
    replace hc2 := hc2.up (H := []) hRx53
    replace hc3 := hc3.up (H := []) hRx53
    replace hc4 := hc4.up (H := []) hRx53
    replace hY := hY.up hRx53
    refine ⟨_, (.put rfl), ?_⟩
    refine vs 1 ?_
    refine er ?_
    refine sc hM (fun ht54 hM => ?_) (fun ht54 hM => ?_)
    ·refine sg rg1 ?_
     refine vs 1 ?_
     refine er ?_
     replace hM := out36 _ (sinj hM).symm
     obtain rfl := sinj hM
     exact rt Tryz.func157 (.tmp rfl .nil) (so (so sr)) (hk _ _ _ ⟨(hR36.trans hRx53), hIx53, rfl⟩)
    refine sp ?_
    refine At.inBlock ?_
    refine At.rg rg3 ?_
    refine vs 3 ?_
    refine er ?_
    exact again36 _ (sinj hM).symm _ _ _ ⟨(hR36.trans hRx53), Hyx53, hIx53, ((List.length_set).trans l36s_2), rfl, SubT.sub ⟨rfl, rfl, rfl, rfl, rfl, trivial⟩⟩
   exact At.exit rfl (At.drop (so (so sr)) (ex36_0 _ (sinj hM).symm _ _ _ ⟨hR36, Hy36s_0, hI36s_0, rfl, SubT.sub trivial⟩))
  rintro p36_0 R36_0 H36_0 st36_0 ⟨hR36_0, Hy36_0_0, hI36_0_0, rfl, hst36_0⟩ hM
  refine At.sub hst36_0 ?_
  replace hY := hY.up hR36_0
  refine sg rg1 ?_
  refine vs 1 ?_
  refine er ?_
  obtain rfl := sinj hM
  exact rt Tryz.func157 (.tmp rfl .nil) sr (hk _ _ _ ⟨hR36_0, hI36_0_0, rfl⟩)
theorem m130_ok {S : Type} {ys : Cargo → S → Option (S × Bool)} {vY : Value} {Inv : S → RMap → HList → Prop} {R : RMap} {Hy : HList} (hY : HandS 𝒥 R (VAgg CCargo) vY ys Inv) (x0 : HullBook) {s0 : S} (hI : Inv s0 R Hy) {v0_3 v0_4 v0_5 : Value} (h0_3 : SlR CHullPiece 5 R v0_3 x0.Pieces) (h0_4 : SlR CZ 1 R v0_4 x0.Out) (h0_5 : SlR CHullHeel 2 R v0_5 x0.Heels) {r : S} (hM : m130 ys x0 s0 = some r) : FnOk 𝒥 130 #[.agg #[iv x0.Limit, iv x0.Ballast.Least, iv x0.Ballast.Most, v0_3, v0_4, v0_5], vY] R Hy (fun v R' H' => RLe R R' ∧ Inv r R' H' ∧ v = .tuple #[]) := by
 unfold m130 at hM
 refine FnOk.of_at Tryz.func130 rfl (n := 24) rfl rfl fun fr cs hk => ?_
 refine sg rg2 ?_
 refine bx fun b20 => ?_
 refine At.s rfl rfl (Ox.box1 rfl rfl hY.cells rfl fun b21 _ _ => ⟨_, (.put rfl), ?_⟩)
 refine nx rg1 ?_
 refine At.s rfl rfl (Ox.alloc (cs := #[.nilFunc]) rfl zero179 rfl fun b22 _ _ => ⟨_, (.put rfl), ?_⟩)
 refine nx rg2 ?_
 refine At.s rfl rfl (Ox.makeFunc (vs := #[]) (us := #[_, _, _]) rfl rfl rfl rfl (.put rfl) ?_)
 refine At.s rfl rfl (Ox.store1 (cs' := #[_]) rfl rfl rfl one179 rfl .here rfl rfl rfl (.refl _) ?_)
 refine es ?_
 refine At.freezeBox (H2 := (b22, _) :: (b21, _) :: Hy) (fun X => (b22, _) :: (b21, _) :: X ++ (Hy)) (.cons (.cons .id)) rfl (fun Rf23 hRf23 hcf23 => ?_)
 replace h0_3 := h0_3.mono hRf23
 replace h0_4 := h0_4.mono hRf23
 replace h0_5 := h0_5.mono hRf23
 replace hI := hY.mono (rr) hRf23 hI
 replace hY := hY.up hRf23
 refine At.freezeBox (H2 := (b22, _) :: Hy) (fun X => (b22, _) :: X ++ (Hy)) (.cons .id) rfl (fun Rf24 hRf24 hcf24 => ?_)
 replace h0_3 := h0_3.mono hRf24
 replace h0_4 := h0_4.mono hRf24
 replace h0_5 := h0_5.mono hRf24
 replace hI := hY.mono (rr) hRf24 hI
 replace hcf23 := hcf23.up (H := []) hRf24
 replace hY := hY.up hRf24
 refine At.freezeBox (H2 := Hy) (fun X => X ++ (Hy)) .id rfl (fun Rf25 hRf25 hcf25 => ?_)
 replace h0_3 := h0_3.mono hRf25
 replace h0_4 := h0_4.mono hRf25
 replace h0_5 := h0_5.mono hRf25
 replace hI := hY.mono (rr) hRf25 hI
 replace hcf23 := hcf23.up (H := []) hRf25
 replace hcf24 := hcf24.up (H := []) hRf25
 replace hY := hY.up hRf25
 refine At.rg rg5 ?_
 refine vs 3 ?_
 refine At.ld one3 (hcf23.any.one (j := 1) rfl) ?_
 refine vs 1 ?_
 refine er ?_
 refine At.block ?_
 refine At.loopE1R hM (fun (s26 : (S × Int)) R' H' st' => RLe Rf25 R' ∧ ∃ Hy26s_0, Inv s26.1 R' Hy26s_0 ∧ Hy26s_0 = H' ∧ SubL st' [(2, .pointer (some ⟨b20, 0, none⟩)), (4, .pointer (some ⟨b22, 0, none⟩)), (5, iv s26.2)]) (fun (p26_0 : S) R' H' st' => RLe Rf25 R' ∧ ∃ Hy26_0_0, Inv p26_0 R' Hy26_0_0 ∧ Hy26_0_0 = H' ∧ SubL st' []) 0 rfl ⟨rr, Hy, hI, rfl, SubT.sub ⟨rfl, rfl, rfl, trivial⟩⟩ ?_ ?_
 rotate_right
 ·rintro s26 R26 H26 st26 ⟨hR26, Hy26s_0, hI26s_0, rfl, hst26⟩ x26 hM again26 ex26_0 out26
  refine At.sub hst26 ?_
  replace h0_3 := h0_3.mono hR26
  replace h0_4 := h0_4.mono hR26
  replace h0_5 := h0_5.mono hR26
  replace hcf23 := hcf23.up (H := []) hR26
  replace hcf24 := hcf24.up (H := []) hR26
  replace hcf25 := hcf25.up (H := []) hR26
  replace hY := hY.up hR26
  refine sq ?_
  refine sg rg6 ?_
  refine vs 4 ?_
  refine At.ld one3 (hcf23.any.one (j := 2) rfl) ?_
  refine vs 1 ?_
  refine er ?_
  refine sc hM (fun ht39 hM => ?_) (fun ht39 hM => ?_)
  ·refine sp ?_
   refine sq ?_
   refine At.block ?_
   refine sg rg5 ?_
   refine At.ld one179 (hcf25.any.one (j := 0) rfl) ?_
   refine vs 1 ?_
   refine At.s rfl rfl (Ox.build (cells := (List.toArray ([iv s26.2] ++ ([0, 0, 0, 0, 0].map (Value.int .i64) ++ [])))) rfl struct125 rfl rfl rfl (.put rfl) ?_)
   obtain ⟨x40, hx40, hM⟩ := bnd hM
   refine At.step rfl rfl rfl (Ox.callV rfl rfl rfl rfl ent157 rfl rfl ((m157_ok 9  (hY.frame []) (⟨s26.2, [0, 0, 0, 0, 0]⟩ : Cargo) 0 x0 ⟨_, hI26s_0, rfl⟩ rfl hcf23.any h0_3 h0_4 h0_5 hcf24 hcf25 hx40).mono ?_))
   rintro _ Rx40 _ ⟨hRx40, ⟨Hyx40, hIx40, hHx40⟩, rfl⟩
   replace hHx40 : Hyx40 = _ := hHx40.symm
   subst hHx40
   replace hcf23 := hcf23.up (H := []) hRx40
   replace hcf24 := hcf24.up (H := []) hRx40
   replace hcf25 := hcf25.up (H := []) hRx40
   replace hY := hY.up hRx40
   refine ⟨_, (.put rfl), ?_⟩
   refine vs 1 ?_
   refine er ?_
   refine sc hM (fun ht41 hM => ?_) (fun ht41 hM => ?_)
   ·replace hM := out26 _ (sinj hM).symm
    obtain rfl := sinj hM
    exact rt Tryz.func130 .nil sr (hk _ _ _ ⟨((((hRf23.trans hRf24).trans hRf25).trans hR26).trans hRx40), hIx40, rfl⟩)
   refine sp ?_
   refine At.inBlock ?_
   refine At.rg rg3 ?_
   refine vs 3 ?_
   refine er ?_
   exact again26 _ (sinj hM).symm _ _ _ ⟨(hR26.trans hRx40), Hyx40, hIx40, rfl, SubT.sub ⟨rfl, rfl, rfl, trivial⟩⟩
  exact At.exit rfl (ex26_0 _ (sinj hM).symm _ _ _ ⟨hR26, Hy26s_0, hI26s_0, rfl, SubT.sub trivial⟩)
 rintro p26_0 R26_0 H26_0 st26_0 ⟨hR26_0, Hy26_0_0, hI26_0_0, rfl, hst26_0⟩ hM
 refine At.sub hst26_0 ?_
 replace hY := hY.up hR26_0
 obtain rfl := sinj hM
 exact At.endR Tryz.func130 .nil (J.drop sr (hk _ _ _ ⟨(((hRf23.trans hRf24).trans hRf25).trans hR26_0), hI26_0_0, rfl⟩))
theorem m165_ok (x1 : (Cargo → ((List Cargo) ⊕ Empty) → Option (((List Cargo) ⊕ Empty) × Bool)) → ((List Cargo) ⊕ Empty) → Option ((List Cargo) ⊕ Empty)) {v1 : Value} (h1 : SeqR 𝒥 R (VAgg CCargo) v1 x1) {r : (List Cargo)} (hM : m165 x1 = some r) : FnOk 𝒥 165 #[.slice none 0 0, v1] R H (fun v R' H' => RLe R R' ∧ H = H' ∧ ∃ vr0, SlR CCargo 6 R' vr0 r ∧ v = vr0) := by
 unfold m165 at hM
 refine FnOk.of_at Tryz.func165 rfl (n := 13) rfl rfl fun fr cs hk => ?_
 refine sg rg2 ?_
 refine At.s rfl rfl (Ox.box1 rfl rfl rfl rfl fun b32 _ _ => ⟨_, (.put rfl), ?_⟩)
 refine vs 1 ?_
 refine es ?_
 refine sg rg1 ?_
 refine vs 1 ?_
 refine er ?_
 refine At.block ?_
 obtain ⟨fid33, first33, cap33, rfl, he33, hq33⟩ := h1
 refine At.rangeF0 (A := (VAgg CCargo)) (fun y s => x1 y s)  hM rfl he33 rfl rfl rfl (fun (s33 : (List Cargo)) R' T H' => RLe R R' ∧ ∃ v33s_0 Hs33s_0, OwnSl CCargo 6 125 R' v33s_0 s33 Hs33s_0 ∧ H' = Hs33s_0 ++ ((b32, .cells #[v33s_0] 103) :: T))  (fun s33 R0 T0 H0 q => by obtain ⟨hR, v33s_0, Hs33s_0, ho33s_0, rfl⟩ := q; exact ⟨Hs33s_0 ++ ((b32, .cells #[v33s_0] 103) :: []), by simp, fun R1 T1 h => ⟨hR.trans h, v33s_0, Hs33s_0, ho33s_0.mono h, by simp⟩⟩)  (fun v Inv Hy z hY hI hz => hq33 _ (rr) _ _ _ _ _ _ hY hI hz) ⟨rr, .slice none 0 0, [], OwnSl.nil, rfl⟩ ?_ ?_
 ·rintro r33 s33 R33 H33q _ ⟨hR33, v33s_0, Hs33s_0, ho33s_0, rfl⟩ hM
  refine At.inBlock ?_
  refine sg rg2 ?_
  refine ld 0 one103 (List.mem_append_right _ z0) ?_
  refine vs 1 ?_
  refine er ?_
  refine At.freezeOwn (H2 := (b32, _) :: (r33, _) :: H) (fun X => X ++ ((b32, _) :: (r33, _) :: H)) .id rfl ho33s_0 (fun Rf40 hRf40 hf40 => ?_)
  obtain rfl := sinj hM
  exact At.retD (.there .here) Tryz.func165 (.tmp rfl .nil) (J.drop (so (so sr)) (hk _ _ _ ⟨(hR33.trans hRf40), rfl, v33s_0, hf40, rfl⟩))
 rintro va33 x33e s33 R33 T33 H33 l33 ld33 cs33 _ hT33 ⟨_, rfl, ⟨lx33e_1, rfl⟩⟩ ⟨hR33, v33s_0, Hs33s_0, ho33s_0, rfl⟩ hld33 z33 hM again33
 refine At.rg rg2 ?_
 refine At.s rfl rfl (Ox.alloc (cs := (List.toArray ([iv 0] ++ ([0, 0, 0, 0, 0].map (Value.int .i64) ++ [])))) rfl zero125 rfl fun b41 _ _ => ⟨_, (.put rfl), ?_⟩)
 refine At.s rfl rfl (Ox.storeN (cs' := _) rfl rfl rfl agg125 (by simp [lx33e_1]) (ones_app (ones_cons rfl ones_nil) (ones_app (ones_map fun _ => rfl) ones_nil)) .here (by simp) (putCells_whole (by simp [lx33e_1])) rfl (.refl _) ?_)
 refine er ?_
 refine At.beginRound rfl rfl (.there (.skip (.there .here))) hld33 ?_
 refine At.block ?_
 refine At.rg rg5 ?_
 refine At.ld one103 ((CellsAt.box (.tail _ (List.mem_append_right _ z0))).one (j := 0) rfl) ?_
 refine At.s rfl rfl (Ox.loadN (vs := _) rfl rfl agg125 (by simp [lx33e_1]) ((CellsAt.box z0).part (j := 0) (n := 6) (take_all (by simp [lx33e_1]))) rfl (.put rfl) ?_)
 refine At.s rfl rfl (Ox.buildSlice (cells := (List.toArray ([iv x33e.ballast] ++ (x33e.weights.map (Value.int .i64) ++ [])))) rfl elem103 rfl (by decide) base103_1 (fill_cons rfl rfl (by simp [Value.cells, lx33e_1]) (putCells_whole (by simp [Value.cells, lx33e_1])) fill_nil) rfl fun b42 _ _ => ⟨_, (.put rfl), ?_⟩)
 obtain ⟨x43, hx43, hM⟩ := bnd hM
 refine At.s rfl rfl (Ox.append (K := CCargo) (fun X => (b42, _) :: (b41, _) :: X ++ ((b32, _) :: (l33, _) :: T33)) rfl rfl rfl app103 Tryz.underlying103 (by simp) (.cons (.cons .id)) ho33s_0 (ArgSl.lit z0 (Enc.le (Enc.single (x := x33e) ⟨lx33e_1, rfl⟩ (by simp [lx33e_1])) rfl) rfl) hx43 rfl fun vx43 Hsx43 hox43 => ⟨_, (.put rfl), ?_⟩)
 refine At.s rfl rfl (Ox.store1 (cs' := #[_]) rfl rfl rfl one103 hox43.one (.there (.there (.skip .here))) rfl rfl rfl (.refl _) ?_)
 refine er ?_
 refine At.inBlock ?_
 exact At.drop (so (so sr)) (again33 _ (sinj hM).symm _ _ _ (rr) ⟨hR33, vx43, Hsx43, hox43, rfl⟩)
theorem m146_ok (x0 : (Cargo → ((List Cargo) ⊕ Empty) → Option (((List Cargo) ⊕ Empty) × Bool)) → ((List Cargo) ⊕ Empty) → Option ((List Cargo) ⊕ Empty)) {v0 : Value} (h0 : SeqR 𝒥 R (VAgg CCargo) v0 x0) {r : (List Cargo)} (hM : m146 x0 = some r) : FnOk 𝒥 146 #[v0] R H (fun v R' H' => RLe R R' ∧ H = H' ∧ ∃ vr0, SlR CCargo 6 R' vr0 r ∧ v = vr0) := by
 unfold m146 at hM
 refine FnOk.of_at Tryz.func146 rfl (n := 5) rfl rfl fun fr cs hk => ?_
 refine sg rg1 ?_
 refine vs 1 ?_
 refine nx rg3 ?_
 refine vs 1 ?_
 obtain ⟨x21, hx21, hM⟩ := bnd hM
 refine At.cv ent165 (m165_ok x0 h0 hx21) ?_
 rintro vx21r0 Rx21 _ ⟨hRx21, rfl, _, hx21r0, rfl⟩
 refine vs 1 ?_
 refine er ?_
 obtain rfl := sinj hM
 exact rt Tryz.func146 (.tmp rfl .nil) sr (hk _ _ _ ⟨hRx21, rfl, vx21r0, hx21r0, rfl⟩)
theorem m89_ok (x0 : HullBook) (x1 : (HullBook → Option Int)) {v0_3 v0_4 v0_5 v1 : Value} (hG : GOk R) (h0_3 : SlR CHullPiece 5 R v0_3 x0.Pieces) (h0_4 : SlR CZ 1 R v0_4 x0.Out) (h0_5 : SlR CHullHeel 2 R v0_5 x0.Heels) (h1 : FunR 𝒥 R H (VAgg CHullBook) (VI .i64) v1 x1) {r : (Opened × Int)} (hM : m89 x0 x1 = some r) : FnOk 𝒥 89 #[.agg #[iv x0.Limit, iv x0.Ballast.Least, iv x0.Ballast.Most, v0_3, v0_4, v0_5], v1] R H (fun v R' H' => RLe R R' ∧ ∃ Hs' vr0_3 vr0_4 vr0_5 vr0_6 vr0_7, SlR CHullPiece 5 R' vr0_3 r.1.book.Pieces ∧ SlR CZ 1 R' vr0_4 r.1.book.Out ∧ SlR CHullHeel 2 R' vr0_5 r.1.book.Heels ∧ SlR CCargo 6 R' vr0_6 r.1.alls ∧ OwnM vr0_7 r.1.worsts Hs' ∧ v = .tuple #[.agg #[iv r.1.book.Limit, iv r.1.book.Ballast.Least, iv r.1.book.Ballast.Most, vr0_3, vr0_4, vr0_5, vr0_6, vr0_7], iv r.2] ∧ H' = Hs' ++ H) := by
 unfold m89 at hM
 refine FnOk.of_at Tryz.func89 rfl (n := 38) rfl rfl fun fr cs hk => ?_
 refine sg rg3 ?_
 refine bx fun b34 => ?_
 refine At.s rfl rfl (Ox.alloc (cs := #[iv 0, iv 0, iv 0, .slice none 0 0, .slice none 0 0, .slice none 0 0, .slice none 0 0, .map none]) rfl zero106 rfl fun b35 _ _ => ⟨_, (.put rfl), ?_⟩)
 refine vs 1 ?_
 refine es ?_
 refine sg rg3 ?_
 refine lN [_, _, _, _, _, _] 0 6 agg28 z1 ?_
 obtain ⟨x36, hx36, hM⟩ := bnd hM
 refine At.cv ent83 (m83_ok x0 hG h0_3 h0_4 h0_5 hx36) ?_
 rintro _ Rx36 _ ⟨hRx36, rfl, rfl⟩
 replace h0_3 := h0_3.mono hRx36
 replace h0_4 := h0_4.mono hRx36
 replace h0_5 := h0_5.mono hRx36
 replace h1 := h1.up hRx36 pp
 refine vs 1 ?_
 refine nx rg2 ?_
 refine vs 2 ?_
 refine er ?_
 refine sc hM (fun ht39 hM => ?_) (fun ht39 hM => ?_)
 ·refine sg rg4 ?_
  refine At.s rfl rfl (Ox.build (cells := #[_, _, _, _, _, _, _, _]) rfl struct106 rfl fill_nil rfl (.put rfl) ?_)
  refine vs 1 ?_
  refine At.s rfl rfl (Ox.storeN (cs' := #[_, _, _, _, _, _, _, _]) rfl rfl rfl agg106 rfl (ones_cons rfl (ones_cons rfl (ones_cons rfl (ones_cons rfl (ones_cons rfl (ones_cons rfl (ones_cons rfl (ones_cons rfl ones_nil)))))))) .here rfl rfl rfl (.refl _) ?_)
  refine vs 1 ?_
  refine er ?_
  obtain rfl := sinj hM
  exact rt Tryz.func89 (.agg rfl agg106 rfl (CellsAt.box z0) (.tmp rfl .nil)) (so (so sr)) (hk _ _ _ ⟨hRx36, [], .slice none 0 0, .slice none 0 0, .slice none 0 0, .slice none 0 0, .map none, SlR.nil, SlR.nil, SlR.nil, SlR.nil, .none, rfl, rfl⟩)
 refine sp ?_
 refine sg rg6 ?_
 refine lN [_, _, _, _, _, _] 0 6 agg28 z1 ?_
 refine At.s rfl rfl (Ox.build (cells := #[_, _, _, _, _, _]) rfl struct102 rfl (fill_cons rfl rfl rfl rfl fill_nil) rfl (.put rfl) ?_)
 refine At.s rfl rfl (Ox.makeMap rfl rfl fun vx40 Hsx40 hmx40 => ⟨_, (.put rfl), ?_⟩)
 refine At.s rfl rfl (Ox.build (cells := #[_, _, _, _, _, _, _, _]) rfl struct106 rfl (fill_cons rfl rfl rfl rfl (fill_cons rfl hmx40.cells rfl rfl fill_nil)) rfl (.put rfl) ?_)
 refine At.s rfl rfl (Ox.alloc (cs := #[iv 0, iv 0, iv 0, .slice none 0 0, .slice none 0 0, .slice none 0 0, .slice none 0 0, .map none]) rfl zero106 rfl fun b41 _ _ => ⟨_, (.put rfl), ?_⟩)
 refine At.s rfl rfl (Ox.storeN (cs' := #[_, _, _, _, _, _, _, _]) rfl rfl rfl agg106 rfl (ones_cons rfl (ones_cons rfl (ones_cons rfl (ones_cons h0_3.one (ones_cons h0_4.one (ones_cons h0_5.one (ones_cons rfl (ones_cons hmx40.one ones_nil)))))))) .here rfl rfl rfl (.refl _) ?_)
 refine es ?_
 refine sg rg5 ?_
 refine vs 2 ?_
 refine lN [_, _, _, _, _, _] 0 6 agg102 z0 ?_
 obtain ⟨x42, hx42, hM⟩ := bnd hM
 refine At.step rfl rfl rfl (Ox.callFun h1 rfl rfl rfl ⟨_, rfl, ⟨_, _, _, h0_3, h0_4, h0_5, rfl⟩⟩ hx42 rfl (su (so (subDrop (so (so sr))))) ?_)
 rintro _ Rx42 hRx42 rfl
 replace h0_3 := h0_3.mono hRx42
 replace h0_4 := h0_4.mono hRx42
 replace h0_5 := h0_5.mono hRx42
 replace h1 := h1.up hRx42 pp
 refine ⟨_, (.put rfl), ?_⟩
 refine vs 1 ?_
 refine nx rg2 ?_
 refine vs 2 ?_
 refine er ?_
 refine sc hM (fun ht45 hM => ?_) (fun ht45 hM => ?_)
 ·refine sg rg4 ?_
  refine At.s rfl rfl (Ox.build (cells := #[_, _, _, _, _, _, _, _]) rfl struct106 rfl fill_nil rfl (.put rfl) ?_)
  refine vs 1 ?_
  refine At.s rfl rfl (Ox.storeN (cs' := #[_, _, _, _, _, _, _, _]) rfl rfl rfl agg106 rfl (ones_cons rfl (ones_cons rfl (ones_cons rfl (ones_cons rfl (ones_cons rfl (ones_cons rfl (ones_cons rfl (ones_cons rfl ones_nil)))))))) (.there (.skip .here)) rfl rfl rfl (.refl _) ?_)
  refine vs 1 ?_
  refine er ?_
  obtain rfl := sinj hM
  exact rt Tryz.func89 (.agg rfl agg106 rfl (CellsAt.box (.tail _ (List.mem_append_right _ z0))) (.tmp rfl .nil)) (so (subDrop (so (so sr)))) (hk _ _ _ ⟨(hRx36.trans hRx42), [], .slice none 0 0, .slice none 0 0, .slice none 0 0, .slice none 0 0, .map none, SlR.nil, SlR.nil, SlR.nil, SlR.nil, .none, rfl, rfl⟩)
 refine sp ?_
 refine sq ?_
 refine sg rg6 ?_
 refine vs 1 ?_
 refine lN [_, _, _, _, _, _] 0 6 agg102 z0 ?_
 refine At.s rfl rfl (Ox.makeFunc (vs := #[_]) (us := #[]) rfl rfl rfl rfl (.put rfl) ?_)
 obtain ⟨x46, hx46, hM⟩ := bnd hM
 refine At.cv ent146 (m146_ok (fun y s => m130 y x0 s) ⟨130, #[_], #[], rfl, ent130, fun R' hR w y Inv Hy s z hY hI hz => (m130_ok hY x0 hI (h0_3.mono hR) (h0_4.mono hR) (h0_5.mono hR) hz).mono fun _ _ _ h => ⟨h.1, h.2.1⟩⟩ hx46) ?_
 rintro vx46r0 Rx46 _ ⟨hRx46, rfl, _, hx46r0, rfl⟩
 replace h0_3 := h0_3.mono hRx46
 replace h0_4 := h0_4.mono hRx46
 replace h0_5 := h0_5.mono hRx46
 refine vs 1 ?_
 refine At.s rfl rfl (Ox.store1 (cs' := #[_, _, _, _, _, _, _, _]) rfl rfl rfl one103 hx46r0.one .here rfl rfl rfl (.refl _) ?_)
 refine nx rg4 ?_
 refine vs 1 ?_
 refine ld 6 one103 z0 ?_
 refine ls hx46r0 Tryz.underlying103 ?_
 refine vs 1 ?_
 refine er ?_
 refine sc hM (fun ht47 hM => ?_) (fun ht47 hM => ?_)
 ·refine sg rg3 ?_
  refine At.s rfl rfl (Ox.build (cells := #[_, _, _, _, _, _, _, _]) rfl struct106 rfl fill_nil rfl (.put rfl) ?_)
  refine At.s rfl rfl (Ox.storeN (cs' := #[_, _, _, _, _, _, _, _]) rfl rfl rfl agg106 rfl (ones_cons rfl (ones_cons rfl (ones_cons rfl (ones_cons rfl (ones_cons rfl (ones_cons rfl (ones_cons rfl (ones_cons rfl ones_nil)))))))) (.there (.skip .here)) rfl rfl rfl (.refl _) ?_)
  refine vs 1 ?_
  refine er ?_
  obtain rfl := sinj hM
  exact rt Tryz.func89 (.agg rfl agg106 rfl (CellsAt.box (.tail _ (List.mem_append_right _ z0))) (.tmp rfl .nil)) (so (subDrop (so (so sr)))) (hk _ _ _ ⟨((hRx36.trans hRx42).trans hRx46), [], .slice none 0 0, .slice none 0 0, .slice none 0 0, .slice none 0 0, .map none, SlR.nil, SlR.nil, SlR.nil, SlR.nil, .none, rfl, rfl⟩)
 refine sp ?_
 refine sg rg3 ?_
 refine lN [_, _, _, _, _, _, _, _] 0 8 agg106 z0 ?_
 refine At.s rfl rfl (Ox.storeN (cs' := #[_, _, _, _, _, _, _, _]) rfl rfl rfl agg106 rfl (ones_cons rfl (ones_cons rfl (ones_cons rfl (ones_cons h0_3.one (ones_cons h0_4.one (ones_cons h0_5.one (ones_cons hx46r0.one (ones_cons hmx40.one ones_nil)))))))) (.there (.skip .here)) rfl rfl rfl (.refl _) ?_)
 refine vs 1 ?_
 refine er ?_
 obtain rfl := sinj hM
 exact rt Tryz.func89 (.agg rfl agg106 rfl (CellsAt.box (.tail _ (List.mem_append_right _ z0))) (.tmp rfl .nil)) (so (subKeep (so (so sr)))) (hk _ _ _ ⟨((hRx36.trans hRx42).trans hRx46), Hsx40, v0_3, v0_4, v0_5, vx46r0, vx40, h0_3, h0_4, h0_5, hx46r0, hmx40, rfl, rfl⟩)
theorem m90_ok (x0 : HullBook) {v0_3 v0_4 v0_5 : Value} (_ : SlR CHullPiece 5 R v0_3 x0.Pieces) (_ : SlR CZ 1 R v0_4 x0.Out) (_ : SlR CHullHeel 2 R v0_5 x0.Heels) {r : Int} (hM : m90 x0 = some r) : FnOk 𝒥 90 #[.agg #[iv x0.Limit, iv x0.Ballast.Least, iv x0.Ballast.Most, v0_3, v0_4, v0_5]] R H (fun v R' H' => R = R' ∧ H = H' ∧ v = iv r) := by
 unfold m90 at hM
 refine FnOk.of_at Tryz.func90 rfl (n := 3) rfl rfl fun fr cs hk => ?_
 refine sg rg2 ?_
 refine bx fun b21 => ?_
 refine vs 1 ?_
 refine nx rg1 ?_
 refine vs 1 ?_
 refine er ?_
 obtain rfl := sinj hM
 exact rt Tryz.func90 (.tmp rfl .nil) (so sr) (hk _ _ _ ⟨rfl, rfl, rfl⟩)
theorem m92_ok (x0 : HullBook) (x1 : (List Bool)) {v0_3 v0_4 v0_5 : Value} (h0_3 : SlR CHullPiece 5 R v0_3 x0.Pieces) (h0_4 : SlR CZ 1 R v0_4 x0.Out) (h0_5 : SlR CHullHeel 2 R v0_5 x0.Heels) (l1 : x1.length = 5) {r : (List Int)} (hM : m92 x0 x1 = some r) : FnOk 𝒥 92 #[.agg #[iv x0.Limit, iv x0.Ballast.Least, iv x0.Ballast.Most, v0_3, v0_4, v0_5], .agg (List.toArray ([] ++ (x1.map Value.bool ++ [])))] R H (fun v R' H' => RLe R R' ∧ H = H' ∧ ∃ vr0, SlR CZ 1 R' vr0 r ∧ v = vr0) := by
 unfold m92 at hM
 refine FnOk.of_at Tryz.func92 rfl (n := 24) rfl rfl fun fr cs hk => ?_
 refine sg rg3 ?_
 refine bx fun b45 => ?_
 refine bx fun b46 => ?_
 refine vs 1 ?_
 refine nx rg1 ?_
 refine vs 1 ?_
 refine es ?_
 refine sg rg5 ?_
 refine vs 2 ?_
 refine ld 3 one24 z1 ?_
 refine ls h0_3 Tryz.underlying24 ?_
 refine vs 1 ?_
 refine er ?_
 refine At.block ?_
 refine At.loopE1 hM (fun (s47 : ((List Int) × Int)) R' H' st' => RLe R R' ∧ ∃ v47s_0 Hs47s_0, OwnSl CZ 1 3 R' v47s_0 s47.1 Hs47s_0 ∧ H' = Hs47s_0 ++ ((b46, .cells (List.toArray ([] ++ (x1.map Value.bool ++ []))) 112) :: (b45, .cells #[iv x0.Limit, iv x0.Ballast.Least, iv x0.Ballast.Most, v0_3, v0_4, v0_5] 102) :: H) ∧ SubL st' [(2, .pointer (some ⟨b45, 0, none⟩)), (3, .pointer (some ⟨b46, 0, none⟩)), (5, v47s_0), (10, iv (x0.Pieces.length : Int)), (11, iv s47.2)]) (fun (p47_0 : (List Int)) R' H' st' => RLe R R' ∧ ∃ v47_0_0 Hs47_0_0, OwnSl CZ 1 3 R' v47_0_0 p47_0 Hs47_0_0 ∧ H' = Hs47_0_0 ++ (H) ∧ SubL st' [(5, v47_0_0)]) 0 rfl ⟨rr, .slice none 0 0, [], OwnSl.nil, rfl, SubT.sub ⟨rfl, rfl, rfl, rfl, rfl, trivial⟩⟩ ?_ ?_
 rotate_right
 ·rintro s47 R47 H47 st47 ⟨hR47, v47s_0, Hs47s_0, ho47s_0, rfl, hst47⟩ x47 hM again47 ex47_0
  refine At.sub hst47 ?_
  replace h0_3 := h0_3.mono hR47
  replace h0_4 := h0_4.mono hR47
  replace h0_5 := h0_5.mono hR47
  refine sg rg1 ?_
  refine vs 1 ?_
  refine es ?_
  refine sc hM (fun ht64 hM => ?_) (fun ht64 hM => ?_)
  ·refine sp ?_
   refine sq ?_
   refine At.block ?_
   refine sg rg2 ?_
   refine vs 2 ?_
   refine nx rg4 ?_
   refine lN [_, _, _, _, _, _] 0 6 agg102 (List.mem_append_right _ z1) ?_
   refine At.s rfl rfl (Ox.loadN (vs := _) rfl rfl agg112 (by simp [l1]) ((CellsAt.box (List.mem_append_right _ z0)).part (j := 0) (n := 5) (take_all (by simp [l1]))) rfl (.put rfl) ?_)
   refine vs 1 ?_
   obtain ⟨x65, hx65, hM⟩ := bnd hM
   refine At.cv ent149 (m149_ok x0 x1 s47.2 h0_3 h0_4 h0_5 l1 hx65) ?_
   rintro _ Rx65 _ ⟨hRx65, rfl, rfl⟩
   replace ho47s_0 := ho47s_0.mono hRx65
   refine er ?_
   refine sc hM (fun ht66 hM => ?_) (fun ht66 hM => ?_)
   ·refine At.rg rg5 ?_
    refine vs 2 ?_
    refine At.s rfl rfl (Ox.buildSlice (cells := #[_]) rfl elem25 rfl (by decide) base25_1 (fill_cons rfl rfl rfl rfl fill_nil) rfl fun b67 _ _ => ⟨_, (.put rfl), ?_⟩)
    obtain ⟨x68, hx68, hM⟩ := bnd hM
    refine At.s rfl rfl (Ox.append (K := CZ) (fun X => (b67, _) :: X ++ ((b46, _) :: (b45, _) :: H)) rfl rfl rfl app25 Tryz.underlying25 (by simp) (.cons .id) ho47s_0 (ArgSl.lit z0 (Enc.le (Enc.cons (x := s47.2) rfl rfl Enc.nil) rfl) rfl) hx68 rfl fun vx68 Hsx68 hox68 => ⟨_, (.put rfl), ?_⟩)
    refine vs 1 ?_
    refine er ?_
    refine At.inBlock ?_
    refine At.rg rg2 ?_
    refine vs 2 ?_
    refine er ?_
    exact At.drop (so sr) (again47 _ (sinj hM).symm _ _ _ ⟨(hR47.trans hRx65), vx68, Hsx68, hox68, rfl, SubT.sub ⟨rfl, rfl, rfl, rfl, rfl, trivial⟩⟩)
   refine sp ?_
   refine At.inBlock ?_
   refine At.rg rg2 ?_
   refine vs 2 ?_
   refine er ?_
   exact again47 _ (sinj hM).symm _ _ _ ⟨(hR47.trans hRx65), v47s_0, Hs47s_0, ho47s_0, rfl, SubT.sub ⟨rfl, rfl, rfl, rfl, rfl, trivial⟩⟩
  exact At.exit rfl (At.drop (subKeep (so (so sr))) (ex47_0 _ (sinj hM).symm _ _ _ ⟨hR47, v47s_0, Hs47s_0, ho47s_0, rfl, SubT.sub ⟨rfl, trivial⟩⟩))
 rintro p47_0 R47_0 H47_0 st47_0 ⟨hR47_0, v47_0_0, Hs47_0_0, ho47_0_0, rfl, hst47_0⟩ hM
 refine At.sub hst47_0 ?_
 refine sg rg2 ?_
 refine vs 2 ?_
 refine er ?_
 refine At.freezeOwn (H2 := H) (fun X => X ++ (H)) .id rfl ho47_0_0 (fun Rf69 hRf69 hf69 => ?_)
 obtain rfl := sinj hM
 exact rt Tryz.func92 (.tmp rfl .nil) sr (hk _ _ _ ⟨(hR47_0.trans hRf69), rfl, v47_0_0, hf69, rfl⟩)
theorem m151_ok {S : Type} {ys : (List Bool) → S → Option (S × Bool)} {vY : Value} {Inv : S → RMap → HList → Prop} {R : RMap} {Hy : HList} (hY : HandS 𝒥 R (VAgg (CArr Value.bool 5)) vY ys Inv) (x1 : HullBook) (x2 : (List Int)) {s0 : S} (hI : Inv s0 R Hy) {v1_3 v1_4 v1_5 v2 : Value} {b1 b2 : Nat} (hc1 : CellsAt R [] b1 0 [iv x1.Limit, iv x1.Ballast.Least, iv x1.Ballast.Most, v1_3, v1_4, v1_5]) (_ : SlR CHullPiece 5 R v1_3 x1.Pieces) (h1_4 : SlR CZ 1 R v1_4 x1.Out) (_ : SlR CHullHeel 2 R v1_5 x1.Heels) (hc2 : CellsAt R [] b2 0 [v2]) (h2 : SlR CZ 1 R v2 x2) {r : S} (hM : m151 ys x1 x2 s0 = some r) : FnOk 𝒥 151 #[vY, .pointer (some ⟨b1, 0, none⟩), .pointer (some ⟨b2, 0, none⟩)] R Hy (fun v R' H' => RLe R R' ∧ Inv r R' H' ∧ v = .tuple #[]) := by
 unfold m151 at hM
 refine FnOk.of_at Tryz.func151 rfl (n := 27) rfl rfl fun fr cs hk => ?_
 refine sg rg7 ?_
 refine At.s rfl rfl (Ox.buildZ (z := (List.toArray ([] ++ ([false, false, false, false, false].map Value.bool ++ [])))) rfl arrz112 rfl (.put rfl) ?_)
 refine vs 2 ?_
 refine At.ld one25 (hc1.any.one (j := 4) rfl) ?_
 obtain ⟨x20, hx20, hM⟩ := bnd hM
 refine At.cv ent93 (m93_ok [false, false, false, false, false] x1.Out rfl h1_4.rd hx20) ?_
 rintro _ _ _ ⟨rfl, rfl, lx20r0, rfl⟩
 refine At.s rfl rfl (Ox.alloc (cs := (List.toArray ([] ++ ([false, false, false, false, false].map Value.bool ++ [])))) rfl zero112 rfl fun b21 _ _ => ⟨_, (.put rfl), ?_⟩)
 refine At.s rfl rfl (Ox.storeN (cs' := _) rfl rfl rfl agg112 (by simp [lx20r0]) (ones_app ones_nil (ones_app (ones_map fun _ => rfl) ones_nil)) .here (by simp) (putCells_whole (by simp [lx20r0])) rfl (.refl _) ?_)
 refine nx rg3 ?_
 refine At.ld one25 (hc2.any.one (j := 0) rfl) ?_
 refine ls h2 Tryz.underlying25 ?_
 refine vs 1 ?_
 refine er ?_
 refine At.block ?_
 refine At.loopE1R hM (fun (s22 : (S × Int × (List Bool))) R' H' st' => RLe R R' ∧ ∃ Hy22s_0, Inv s22.1 R' Hy22s_0 ∧ s22.2.2.length = 5 ∧ H' = (b21, .cells (List.toArray ([] ++ (s22.2.2.map Value.bool ++ []))) 112) :: Hy22s_0 ∧ SubL st' [(0, vY), (4, .pointer (some ⟨b21, 0, none⟩)), (12, v2), (13, iv (x2.length : Int)), (14, iv s22.2.1)]) (fun (p22_0 : S) R' H' st' => RLe R R' ∧ ∃ Hy22_0_0, Inv p22_0 R' Hy22_0_0 ∧ Hy22_0_0 = H' ∧ SubL st' []) 0 rfl ⟨rr, Hy, hI, lx20r0, rfl, SubT.sub ⟨rfl, rfl, rfl, rfl, rfl, trivial⟩⟩ ?_ ?_
 rotate_right
 ·rintro s22 R22 H22 st22 ⟨hR22, Hy22s_0, hI22s_0, l22s_2, rfl, hst22⟩ x22 hM again22 ex22_0 out22
  refine At.sub hst22 ?_
  replace h2 := h2.mono hR22
  replace hY := hY.up hR22
  refine sg rg1 ?_
  refine vs 1 ?_
  refine es ?_
  refine sc hM (fun ht41 hM => ?_) (fun ht41 hM => ?_)
  ·refine sp ?_
   refine sq ?_
   refine At.block ?_
   refine sg rg3 ?_
   obtain ⟨x42, hx42, hM⟩ := bnd hM
   obtain ⟨bx42, ox42, _, rfl, hcx42, hix42⟩ := h2.elem slice25 hx42
   refine At.s rfl rfl (Ox.indexV rfl rfl rfl hix42 rfl (.put rfl) ?_)
   refine At.ld one3 (hcx42.any.one (j := 0) rfl) ?_
   refine vs 1 ?_
   refine nx rg5 ?_
   refine At.s rfl rfl (Ox.loadN (vs := _) rfl rfl agg112 (by simp [l22s_2]) ((CellsAt.box z0).part (j := 0) (n := 5) (take_all (by simp [l22s_2]))) rfl (.put rfl) ?_)
   refine vs 1 ?_
   refine At.s rfl rfl (Ox.buildSlice (cells := #[_]) rfl elem25 rfl (by decide) base25_1 (fill_cons rfl rfl rfl rfl fill_nil) rfl fun b43 _ _ => ⟨_, (.put rfl), ?_⟩)
   obtain ⟨x44, hx44, hM⟩ := bnd hM
   refine At.cv ent93 (m93_ok s22.2.2 [x42] l22s_2 (RdS.lit z0 (Enc.le (Enc.cons (x := x42) rfl rfl Enc.nil) rfl) rfl) hx44) ?_
   rintro _ _ _ ⟨rfl, rfl, lx44r0, rfl⟩
   refine At.s rfl rfl (Ox.storeN (cs' := _) rfl rfl rfl agg112 (by simp [lx44r0]) (ones_app ones_nil (ones_app (ones_map fun _ => rfl) ones_nil)) (.there .here) (by simp [l22s_2]) (putCells_whole (by simp [lx44r0, l22s_2])) rfl (.refl _) ?_)
   refine nx rg4 ?_
   refine vs 1 ?_
   refine At.s rfl rfl (Ox.loadN (vs := _) rfl rfl agg112 (by simp [lx44r0]) ((CellsAt.box z1).part (j := 0) (n := 5) (take_all (by simp [lx44r0]))) rfl (.put rfl) ?_)
   obtain ⟨x45, hx45, hM⟩ := bnd hM
   refine At.stepY rfl rfl rfl rfl rfl rfl rfl rfl ((hY.call [(b43, _), (b21, _)] (rr) hI22s_0 ⟨_, rfl, ⟨lx44r0, rfl⟩⟩ hx45).mono ?_)
   rintro _ Rx45 _ ⟨hRx45, rfl, Hyx45, hIx45, hHx45⟩
   replace hHx45 : _ = (b43, _) :: (b21, _) :: Hyx45 := hHx45
   subst hHx45
   replace hY := hY.up hRx45
   refine ⟨_, (.put rfl), ?_⟩
   refine vs 1 ?_
   refine er ?_
   refine sc hM (fun ht46 hM => ?_) (fun ht46 hM => ?_)
   ·replace hM := out22 _ (sinj hM).symm
    obtain rfl := sinj hM
    exact rt Tryz.func151 .nil (so (so sr)) (hk _ _ _ ⟨(hR22.trans hRx45), hIx45, rfl⟩)
   refine sp ?_
   refine At.inBlock ?_
   refine At.rg rg2 ?_
   refine vs 2 ?_
   refine er ?_
   exact At.drop (so sr) (again22 _ (sinj hM).symm _ _ _ ⟨(hR22.trans hRx45), Hyx45, hIx45, lx44r0, rfl, SubT.sub ⟨rfl, rfl, rfl, rfl, rfl, trivial⟩⟩)
  exact At.exit rfl (At.drop (so sr) (ex22_0 _ (sinj hM).symm _ _ _ ⟨hR22, Hy22s_0, hI22s_0, rfl, SubT.sub trivial⟩))
 rintro p22_0 R22_0 H22_0 st22_0 ⟨hR22_0, Hy22_0_0, hI22_0_0, rfl, hst22_0⟩ hM
 refine At.sub hst22_0 ?_
 replace hY := hY.up hR22_0
 obtain rfl := sinj hM
 exact At.endR Tryz.func151 .nil (J.drop sr (hk _ _ _ ⟨hR22_0, hI22_0_0, rfl⟩))
theorem m102_ok (x0 : HullBook) (x1 : (List Int)) {v0_3 v0_4 v0_5 v1 : Value} (h0_3 : SlR CHullPiece 5 R v0_3 x0.Pieces) (h0_4 : SlR CZ 1 R v0_4 x0.Out) (h0_5 : SlR CHullHeel 2 R v0_5 x0.Heels) (h1 : SlR CZ 1 R v1 x1) {r : (HullBook × (List Int))} (hM : m102 x0 x1 = some r) : FnOk 𝒥 102 #[.agg #[iv x0.Limit, iv x0.Ballast.Least, iv x0.Ballast.Most, v0_3, v0_4, v0_5], v1] R H (fun v R' H' => RLe R R' ∧ H = H' ∧ ∃ vr0c0_3 vr0c0_4 vr0c0_5 br0c0 vr0c1 br0c1, CellsAt R' [] br0c0 0 [iv r.1.Limit, iv r.1.Ballast.Least, iv r.1.Ballast.Most, vr0c0_3, vr0c0_4, vr0c0_5] ∧ SlR CHullPiece 5 R' vr0c0_3 r.1.Pieces ∧ SlR CZ 1 R' vr0c0_4 r.1.Out ∧ SlR CHullHeel 2 R' vr0c0_5 r.1.Heels ∧ CellsAt R' [] br0c1 0 [vr0c1] ∧ SlR CZ 1 R' vr0c1 r.2 ∧ v = .func (.func 151) #[] #[.pointer (some ⟨br0c0, 0, none⟩), .pointer (some ⟨br0c1, 0, none⟩)]) := by
 unfold m102 at hM
 refine FnOk.of_at Tryz.func102 rfl (n := 6) rfl rfl fun fr cs hk => ?_
 refine sg rg3 ?_
 refine bx fun b24 => ?_
 refine At.s rfl rfl (Ox.box1 rfl rfl h1.cells rfl fun b25 _ _ => ⟨_, (.put rfl), ?_⟩)
 refine vs 1 ?_
 refine nx rg2 ?_
 refine At.s rfl rfl (Ox.makeFunc (vs := #[]) (us := #[_, _]) rfl rfl rfl rfl (.put rfl) ?_)
 refine vs 1 ?_
 refine er ?_
 refine At.freezeBox (H2 := (b25, _) :: H) (fun X => (b25, _) :: X ++ (H)) (.cons .id) rfl (fun Rf26 hRf26 hcf26 => ?_)
 replace h0_3 := h0_3.mono hRf26
 replace h0_4 := h0_4.mono hRf26
 replace h0_5 := h0_5.mono hRf26
 replace h1 := h1.mono hRf26
 refine At.freezeBox (H2 := H) (fun X => X ++ (H)) .id rfl (fun Rf27 hRf27 hcf27 => ?_)
 replace h0_3 := h0_3.mono hRf27
 replace h0_4 := h0_4.mono hRf27
 replace h0_5 := h0_5.mono hRf27
 replace h1 := h1.mono hRf27
 replace hcf26 := hcf26.up (H := []) hRf27
 obtain rfl := sinj hM
 exact rt Tryz.func102 (.tmp rfl .nil) sr (hk _ _ _ ⟨(hRf26.trans hRf27), rfl, v0_3, v0_4, v0_5, b24, v1, b25, hcf26, h0_3, h0_4, h0_5, hcf27, h1, rfl⟩)
theorem m94_ok (x0 : Opened) (x1 : (List Int)) {v0_3 v0_4 v0_5 v0_6 v0_7 v1 : Value} (h0_3 : SlR CHullPiece 5 R v0_3 x0.book.Pieces) (h0_4 : SlR CZ 1 R v0_4 x0.book.Out) (h0_5 : SlR CHullHeel 2 R v0_5 x0.book.Heels) (_ : SlR CCargo 6 R v0_6 x0.alls) (h0_7 : MapR R v0_7 x0.worsts) (h1 : SlR CZ 1 R v1 x1) {r : Int} (hM : m94 x0 x1 = some r) : FnOk 𝒥 94 #[.agg #[iv x0.book.Limit, iv x0.book.Ballast.Least, iv x0.book.Ballast.Most, v0_3, v0_4, v0_5, v0_6, v0_7], v1] R H (fun v R' H' => RLe R R' ∧ H = H' ∧ v = iv r) := by
 unfold m94 at hM
 refine FnOk.of_at Tryz.func94 rfl (n := 19) rfl rfl fun fr cs hk => ?_
 refine sg rg2 ?_
 refine bx fun b27 => ?_
 refine vs 1 ?_
 refine nx rg2 ?_
 refine At.s rfl rfl (Ox.alloc (cs := #[iv 0]) rfl zero3 rfl fun b28 _ _ => ⟨_, (.put rfl), ?_⟩)
 refine At.s rfl rfl (Ox.store1 (cs' := #[_]) rfl rfl rfl one3 rfl .here rfl rfl rfl (.refl _) ?_)
 refine es ?_
 refine sg rg4 ?_
 refine vs 1 ?_
 refine lN [_, _, _, _, _, _] 0 6 agg102 z1 ?_
 refine vs 1 ?_
 obtain ⟨x29, hx29, hM⟩ := bnd hM
 refine At.cv ent102 (m102_ok x0.book x1 h0_3 h0_4 h0_5 h1 hx29) ?_
 rintro _ Rx29 _ ⟨hRx29, rfl, vx29r0c0_3, vx29r0c0_4, vx29r0c0_5, bx29r0c0, vx29r0c1, bx29r0c1, hx29r0c0q, hx29r0c0_3, hx29r0c0_4, hx29r0c0_5, hx29r0c1q, hx29r0c1, rfl⟩
 replace h0_7 := h0_7.mono hRx29
 refine er ?_
 refine At.block ?_
 refine At.rangeF0 (A := (VAgg (CArr Value.bool 5))) (fun y s => m151 y x29.1 x29.2 s)  hM rfl ent151 rfl rfl rfl (fun (s30 : Int) R' T H' => RLe Rx29 R' ∧ H' = (b28, .cells #[iv s30] 3) :: (b27, .cells #[iv x0.book.Limit, iv x0.book.Ballast.Least, iv x0.book.Ballast.Most, v0_3, v0_4, v0_5, v0_6, v0_7] 106) :: T)  (fun s30 R0 T0 H0 q => by obtain ⟨hR, rfl⟩ := q; exact ⟨(b28, .cells #[iv s30] 3) :: (b27, .cells #[iv x0.book.Limit, iv x0.book.Ballast.Least, iv x0.book.Ballast.Most, v0_3, v0_4, v0_5, v0_6, v0_7] 106) :: [], by simp, fun R1 T1 h => ⟨hR.trans h, by simp⟩⟩)  (fun v Inv Hy z hY hI hz => (m151_ok hY x29.1 x29.2 hI hx29r0c0q hx29r0c0_3 hx29r0c0_4 hx29r0c0_5 hx29r0c1q hx29r0c1 hz).mono fun _ _ _ h => ⟨h.1, h.2.1⟩) ⟨rr, rfl⟩ ?_ ?_
 ·rintro r30 s30 R30 H30q _ ⟨hR30, rfl⟩ hM
  refine At.inBlock ?_
  refine sg rg2 ?_
  refine ld 0 one3 z0 ?_
  refine vs 1 ?_
  refine er ?_
  obtain rfl := sinj hM
  exact At.retD (.there (.there .here)) Tryz.func94 (.tmp rfl .nil) (J.drop (so (so (so sr))) (hk _ _ _ ⟨(hRx29.trans hR30), rfl, rfl⟩))
 rintro va30 x30e s30 R30 T30 H30 l30 ld30 cs30 _ hT30 ⟨_, rfl, ⟨lx30e, rfl⟩⟩ ⟨hR30, rfl⟩ hld30 z30 hM again30
 replace h0_7 := h0_7.mono hR30
 refine At.rg rg2 ?_
 refine At.s rfl rfl (Ox.alloc (cs := (List.toArray ([] ++ ([false, false, false, false, false].map Value.bool ++ [])))) rfl zero112 rfl fun b33 _ _ => ⟨_, (.put rfl), ?_⟩)
 refine At.s rfl rfl (Ox.storeN (cs' := _) rfl rfl rfl agg112 (by simp [lx30e]) (ones_app ones_nil (ones_app (ones_map fun _ => rfl) ones_nil)) .here (by simp) (putCells_whole (by simp [lx30e])) rfl (.refl _) ?_)
 refine er ?_
 refine At.beginRound rfl rfl (.there (.there (.there .here))) hld30 ?_
 refine At.block ?_
 refine At.draw (n := 7) (is := [0, 1, 2, 3, 4, 5, 6]) (many ((b33, .cells (List.toArray ([] ++ (x30e.map Value.bool ++ []))) 112) :: (b28, .cells #[iv s30] 3) :: (b27, .cells #[iv x0.book.Limit, iv x0.book.Ballast.Least, iv x0.book.Ballast.Most, v0_3, v0_4, v0_5, v0_6, v0_7] 106) :: (l30, .loop { ld30 with state := .busy }) :: T30) [(6, (b33, .cells (List.toArray ([] ++ (x30e.map Value.bool ++ []))) 112) :: (b27, .cells #[iv x0.book.Limit, iv x0.book.Ballast.Least, iv x0.book.Ballast.Most, v0_3, v0_4, v0_5, v0_6, v0_7] 106) :: (l30, .loop { ld30 with state := .busy }) :: T30)]) mixed rfl (by decide +kernel) rfl rfl ?_
 refine ts 0 [5, 6] rfl (many_skip rfl (many_nil (su (so (sk (so (so sr))))))) (su (so (sk (so (so sr))))) (fun R' H' hR hS => Ox.load1 rfl rfl one3 ((CellsAt.box (hS _ z0)).one (j := 0) rfl) rfl (.one rfl) ⟨rfl, rfl, rfl⟩) ?_
 refine Any.vs 1 [1] rfl ?_
 refine ts 2 [4, 5, 6] rfl (many_skip rfl (many_nil (su (so (so (sk (so sr))))))) (su (so (so (sk (so sr))))) (fun R' H' hR hS => Ox.load1 rfl rfl one104 ((CellsAt.box (hS _ z0)).one (j := 7) rfl) rfl (.one rfl) ⟨rfl, rfl, rfl⟩) ?_
 refine ts 3 [4, 5, 6] rfl (many_skip rfl (many_nil (su (sk (so (so (so sr))))))) (su (sk (so (so (so sr))))) (fun R' H' hR hS => Ox.loadN (vs := _) rfl rfl agg112 (by simp [lx30e]) ((CellsAt.box (hS _ z0)).part (j := 0) (n := 5) (take_all (by simp [lx30e]))) rfl (.one rfl) ⟨rfl, rfl, rfl⟩) ?_
 refine ts 4 [5, 6] rfl (many_skip rfl (many_nil (su (so (so (so (so sr))))))) (su (so (so (so (so sr))))) (fun R' H' hR hS => Ox.lookup (k := x30e) rfl rfl rfl map104 (h0_7.mono hR) lx30e rfl (.one rfl) ⟨rfl, rfl, rfl⟩) ?_
 refine ts 5 [6] rfl (many_skip rfl (many_nil (su (so (so (so (so sr))))))) (su (so (so (so (so sr))))) (fun R' H' hR hS => Ox.max (a := s30) (l := [mapGet x0.worsts x30e]) rfl rfl rfl (.one rfl) ⟨rfl, rfl, rfl⟩) ?_
 refine Any.on 6 rfl rfl (SemTo.to (Ox.store1 (cs' := #[_]) rfl rfl rfl one3 rfl (.there .here) rfl rfl rfl (.refl _) ⟨rr, (many_at rfl (su (sk (so sr)))), ?_⟩))
 refine Any.done ?_
 refine At.inBlock ?_
 exact At.drop (so sr) (again30 _ (sinj hM).symm _ _ _ (rr) ⟨hR30, rfl⟩)
theorem m20_ok (x0 : HullBook) {v0_3 v0_4 v0_5 : Value} (hG : GOk R) (hK : Reckons 𝒥) (h0_3 : SlR CHullPiece 5 R v0_3 x0.Pieces) (h0_4 : SlR CZ 1 R v0_4 x0.Out) (h0_5 : SlR CHullHeel 2 R v0_5 x0.Heels) {r : ((List Int) × Int)} (hM : m20 x0 = some r) : FnOk 𝒥 20 #[.agg #[iv x0.Limit, iv x0.Ballast.Least, iv x0.Ballast.Most, v0_3, v0_4, v0_5]] R H (fun v R' H' => RLe R R' ∧ H = H' ∧ ∃ vr0, SlR CZ 1 R' vr0 r.1 ∧ v = .tuple #[vr0, iv r.2]) := by
 unfold m20 at hM
 refine FnOk.of_at Tryz.func20 rfl (n := 44) rfl rfl fun fr cs hk => ?_
 refine sg rg3 ?_
 refine bx fun b61 => ?_
 refine vs 2 ?_
 refine nx rg8 ?_
 refine lN [_, _, _, _, _, _] 0 6 agg28 z0 ?_
 obtain ⟨x62, hx62, hM⟩ := bnd hM
 refine At.cv ent89 (m89_ok x0 (fun y => m90 y) hG h0_3 h0_4 h0_5 ⟨90, #[], #[], rfl, ent90, fun R' H' hR hH y r va hA hr => by obtain ⟨_, rfl, ⟨vy_3, vy_4, vy_5, hy_3, hy_4, hy_5, rfl⟩⟩ := hA; exact (m90_ok y hy_3 hy_4 hy_5 hr).mono fun _ _ _ ⟨h1, h2, h3⟩ => ⟨h1 ▸ rr, h2.symm, h3⟩⟩ hx62) ?_
 rintro _ Rx62 _ ⟨hRx62, Hsx62, vx62r0_3, vx62r0_4, vx62r0_5, vx62r0_6, vx62r0_7, hx62r0_3, hx62r0_4, hx62r0_5, hx62r0_6, hx62r0_7, rfl, rfl⟩
 replace h0_4 := h0_4.mono hRx62
 refine vs 3 ?_
 refine At.s rfl rfl (Ox.alloc (cs := #[iv 0, iv 0, iv 0, .slice none 0 0, .slice none 0 0, .slice none 0 0, .slice none 0 0, .map none]) rfl zero106 rfl fun b63 _ _ => ⟨_, (.put rfl), ?_⟩)
 refine At.s rfl rfl (Ox.storeN (cs' := #[_, _, _, _, _, _, _, _]) rfl rfl rfl agg106 rfl (ones_cons rfl (ones_cons rfl (ones_cons rfl (ones_cons hx62r0_3.one (ones_cons hx62r0_4.one (ones_cons hx62r0_5.one (ones_cons hx62r0_6.one (ones_cons hx62r0_7.one ones_nil)))))))) .here rfl rfl rfl (.refl _) ?_)
 refine vs 1 ?_
 refine es ?_
 refine sg rg2 ?_
 refine vs 2 ?_
 refine er ?_
 refine sc hM (fun ht66 hM => ?_) (fun ht66 hM => ?_)
 ·refine sg rg3 ?_
  refine vs 3 ?_
  refine er ?_
  obtain rfl := sinj hM
  exact rt Tryz.func20 (.tmp rfl (.tmp rfl .nil)) (so (subDrop (so sr))) (hk _ _ _ ⟨hRx62, rfl, .slice none 0 0, SlR.nil, rfl⟩)
 refine sp ?_
 refine sg rg2 ?_
 refine lN [_, _, _, _, _, _, _, _] 0 8 agg106 z0 ?_
 obtain ⟨x67, hx67, hM⟩ := bnd hM
 refine At.step rfl rfl rfl (Ox.callV rfl rfl rfl rfl ent91 rfl rfl ((FnOk.hole (G := (fun X => (b63, _) :: X ++ ((b61, _) :: H))) (.cons .id) (hK x62.1 hx62r0_3 hx62r0_4 hx62r0_5 hx62r0_6 hx62r0_7 hx67)).mono ?_))
 rintro _ Rx67 _ ⟨_, ⟨hRx67, hmx67, rfl, rfl⟩, rfl⟩
 replace h0_4 := h0_4.mono hRx67
 replace hx62r0_3 := hx62r0_3.mono hRx67
 replace hx62r0_4 := hx62r0_4.mono hRx67
 replace hx62r0_5 := hx62r0_5.mono hRx67
 replace hx62r0_6 := hx62r0_6.mono hRx67
 refine ⟨_, (.put rfl), ?_⟩
 refine nx rg1 ?_
 refine vs 1 ?_
 refine es ?_
 refine sq ?_
 refine At.dw rg9 mixed ?_
 refine Any.vs 1 [0] rfl ?_
 refine tN 1 [_, _, _, _, _, _] 0 6 agg102 z0 ?_
 refine Any.tk 2 rfl pp (fun R' H' hR hS => Ox.buildZ (z := (List.toArray ([] ++ ([false, false, false, false, false].map Value.bool ++ [])))) rfl arrz112 rfl (.one rfl) ⟨rfl, rfl, rfl⟩) ?_
 refine Any.vs 1 [3] rfl ?_
 refine tl 4 4 one25 z1 ?_
 refine Any.vs 1 [8] rfl ?_
 obtain ⟨x68, hx68, hM⟩ := bnd hM
 refine Any.cv 5 ent93 (m93_ok [false, false, false, false, false] x0.Out rfl h0_4.rd hx68) ?_
 rintro _ _ _ ⟨rfl, rfl, lx68r0, rfl⟩
 refine kp ?_
 obtain ⟨x69, hx69, hM⟩ := bnd hM
 refine Any.cv 6 ent92 (m92_ok x62.1.book x68 hx62r0_3 hx62r0_4 hx62r0_5 lx68r0 hx69) ?_
 rintro vx69r0 Rx69 _ ⟨hRx69, rfl, _, hx69r0, rfl⟩
 replace hmx67 := hmx67.mono hRx69
 replace hx62r0_3 := hx62r0_3.mono hRx69
 replace hx62r0_4 := hx62r0_4.mono hRx69
 replace hx62r0_5 := hx62r0_5.mono hRx69
 replace hx62r0_6 := hx62r0_6.mono hRx69
 refine ⟨hRx69, ka, ?_⟩
 refine Any.tk 7 rfl pp (fun R' H' hR hS => Ox.lenS (K := CZ) (k := 1) (xs := x69) rfl rfl (hx69r0.mono hR) Tryz.underlying25 rfl (.one rfl) ⟨rfl, rfl, rfl⟩) ?_
 refine Any.done ?_
 refine At.block ?_
 refine At.loopE1 hM (fun (s70 : ((List Int) × Int)) R' H' st' => RLe Rx69 R' ∧ ∃ v70s_0 Hs70s_0, OwnSl CZ 1 3 R' v70s_0 s70.1 Hs70s_0 ∧ H' = Hs70s_0 ++ ((b63, .cells #[iv x62.1.book.Limit, iv x62.1.book.Ballast.Least, iv x62.1.book.Ballast.Most, vx62r0_3, vx62r0_4, vx62r0_5, vx62r0_6, vx62r0_7] 106) :: (b61, .cells #[iv x0.Limit, iv x0.Ballast.Least, iv x0.Ballast.Most, v0_3, v0_4, v0_5] 28) :: H) ∧ SubL st' [(1, .pointer (some ⟨b61, 0, none⟩)), (4, .pointer (some ⟨b63, 0, none⟩)), (6, v70s_0), (25, vx69r0), (26, iv (x69.length : Int)), (27, iv s70.2)]) (fun (p70_0 : (List Int)) R' H' st' => RLe Rx69 R' ∧ ∃ v70_0_0 Hs70_0_0, OwnSl CZ 1 3 R' v70_0_0 p70_0 Hs70_0_0 ∧ H' = Hs70_0_0 ++ (H) ∧ SubL st' [(6, v70_0_0)]) 0 rfl ⟨rr, .slice none 0 0, [], OwnSl.nil, rfl, SubT.sub ⟨rfl, rfl, rfl, rfl, rfl, rfl, trivial⟩⟩ ?_ ?_
 rotate_right
 ·rintro s70 R70 H70 st70 ⟨hR70, v70s_0, Hs70s_0, ho70s_0, rfl, hst70⟩ x70 hM again70 ex70_0
  refine At.sub hst70 ?_
  replace hmx67 := hmx67.mono hR70
  replace hx62r0_3 := hx62r0_3.mono hR70
  replace hx62r0_4 := hx62r0_4.mono hR70
  replace hx62r0_5 := hx62r0_5.mono hR70
  replace hx62r0_6 := hx62r0_6.mono hR70
  replace hx69r0 := hx69r0.mono hR70
  refine sg rg1 ?_
  refine vs 1 ?_
  refine es ?_
  refine sc hM (fun ht93 hM => ?_) (fun ht93 hM => ?_)
  ·refine sp ?_
   refine sq ?_
   refine At.block ?_
   refine sg rg3 ?_
   obtain ⟨x94, hx94, hM⟩ := bnd hM
   obtain ⟨bx94, ox94, _, rfl, hcx94, hix94⟩ := hx69r0.elem slice25 hx94
   refine At.s rfl rfl (Ox.indexV rfl rfl rfl hix94 rfl (.put rfl) ?_)
   refine At.ld one3 (hcx94.any.one (j := 0) rfl) ?_
   refine vs 1 ?_
   refine es ?_
   refine At.dw rg7 mixed ?_
   refine tN 0 [_, _, _, _, _, _, _, _] 0 8 agg106 (List.mem_append_right _ z0) ?_
   refine Any.vs 2 [1, 4] rfl ?_
   refine tl 5 0 one3 (List.mem_append_right _ z1) ?_
   refine Any.on 2 rfl rfl (SemTo.to (Ox.buildSlice (cells := #[_]) rfl elem25 rfl (by decide) base25_1 (fill_cons rfl rfl rfl rfl fill_nil) rfl fun b95 _ _ => ⟨_, (.put rfl), ⟨rr, (ku (so sr)), ?_⟩⟩))
   refine Any.freezeLit (K := CZ) (kk := 1) (H2 := Hs70s_0 ++ ((b63, _) :: (b61, _) :: H)) (fun X => X ++ (Hs70s_0 ++ ((b63, _) :: (b61, _) :: H))) .id rfl (Enc.le (Enc.cons (x := x94) rfl rfl Enc.nil) rfl) rfl (by decide) (by decide) (fun _ => pp) (fun Rf97 hRf97 hf97 => ?_)
   replace hmx67 := hmx67.mono hRf97
   replace ho70s_0 := ho70s_0.mono hRf97
   replace hx62r0_3 := hx62r0_3.mono hRf97
   replace hx62r0_4 := hx62r0_4.mono hRf97
   replace hx62r0_5 := hx62r0_5.mono hRf97
   replace hx62r0_6 := hx62r0_6.mono hRf97
   obtain ⟨x96, hx96, hM⟩ := bnd hM
   refine Any.cv 3 ent94 (m94_ok (⟨⟨x62.1.book.Limit, ⟨x62.1.book.Ballast.Least, x62.1.book.Ballast.Most⟩, x62.1.book.Pieces, x62.1.book.Out, x62.1.book.Heels⟩, x62.1.alls, x67⟩ : Opened) [x94] hx62r0_3 hx62r0_4 hx62r0_5 hx62r0_6 hmx67 hf97 hx96) ?_
   rintro _ Rx96 _ ⟨hRx96, rfl, rfl⟩
   replace ho70s_0 := ho70s_0.mono hRx96
   refine ⟨hRx96, ka, ?_⟩
   refine Any.vs 1 [6] rfl ?_
   refine Any.done ?_
   refine sc hM (fun ht98 hM => ?_) (fun ht98 hM => ?_)
   ·refine At.rg rg5 ?_
    refine vs 2 ?_
    refine At.s rfl rfl (Ox.buildSlice (cells := #[_]) rfl elem25 rfl (by decide) base25_1 (fill_cons rfl rfl rfl rfl fill_nil) rfl fun b99 _ _ => ⟨_, (.put rfl), ?_⟩)
    obtain ⟨x100, hx100, hM⟩ := bnd hM
    refine At.s rfl rfl (Ox.append (K := CZ) (fun X => (b99, _) :: X ++ ((b63, _) :: (b61, _) :: H)) rfl rfl rfl app25 Tryz.underlying25 (by simp) (.cons .id) ho70s_0 (ArgSl.lit z0 (Enc.le (Enc.cons (x := x94) rfl rfl Enc.nil) rfl) rfl) hx100 rfl fun vx100 Hsx100 hox100 => ⟨_, (.put rfl), ?_⟩)
    refine vs 1 ?_
    refine er ?_
    refine At.inBlock ?_
    refine At.rg rg2 ?_
    refine vs 2 ?_
    refine er ?_
    exact At.drop (so sr) (again70 _ (sinj hM).symm _ _ _ ⟨((hR70.trans hRf97).trans hRx96), vx100, Hsx100, hox100, rfl, SubT.sub ⟨rfl, rfl, rfl, rfl, rfl, rfl, trivial⟩⟩)
   refine sp ?_
   refine At.inBlock ?_
   refine At.rg rg2 ?_
   refine vs 2 ?_
   refine er ?_
   exact again70 _ (sinj hM).symm _ _ _ ⟨((hR70.trans hRf97).trans hRx96), v70s_0, Hs70s_0, ho70s_0, rfl, SubT.sub ⟨rfl, rfl, rfl, rfl, rfl, rfl, trivial⟩⟩
  exact At.exit rfl (At.drop (subKeep (so (so sr))) (ex70_0 _ (sinj hM).symm _ _ _ ⟨hR70, v70s_0, Hs70s_0, ho70s_0, rfl, SubT.sub ⟨rfl, trivial⟩⟩))
 rintro p70_0 R70_0 H70_0 st70_0 ⟨hR70_0, v70_0_0, Hs70_0_0, ho70_0_0, rfl, hst70_0⟩ hM
 refine At.sub hst70_0 ?_
 refine sg rg3 ?_
 refine vs 3 ?_
 refine er ?_
 refine At.freezeOwn (H2 := H) (fun X => X ++ (H)) .id rfl ho70_0_0 (fun Rf101 hRf101 hf101 => ?_)
 obtain rfl := sinj hM
 exact rt Tryz.func20 (.tmp rfl (.tmp rfl .nil)) sr (hk _ _ _ ⟨((((hRx62.trans hRx67).trans hRx69).trans hR70_0).trans hRf101), rfl, v70_0_0, hf101, rfl⟩)
end
end Go.Proofs.YtabamagholjdcaaGreatDoor
