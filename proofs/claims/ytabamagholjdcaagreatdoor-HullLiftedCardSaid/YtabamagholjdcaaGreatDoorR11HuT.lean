/- Walks, part 8: each function computes its model. -/
import Derived.Test.YtabamagholjdcaaGreatDoorQHuP6
import Derived.Test.YtabamagholjdcaaGreatDoorQLgD
namespace Go.Proofs.YtabamagholjdcaaGreatDoor
open Go.Lg Go.Proofs
set_option maxRecDepth 100000
set_option maxHeartbeats 4000000
section
variable {B : Base} {main : Bool} {𝒥 : Jd Tryz.prog B main} {R : RMap} {H : HList}
theorem m11_top {PW : Value → World → Prop} (x0 : HullBook) (x1 : (List Int)) (x2 : Int) {v0_3 v0_4 v0_5 v1 : Value} (hG : GOk R) (hK : Reckons (mainJd Tryz.prog B PW)) (h0_3 : SlR CHullPiece 5 R v0_3 x0.Pieces) (h0_4 : SlR CZ 1 R v0_4 x0.Out) (h0_5 : SlR CHullHeel 2 R v0_5 x0.Heels) (h1 : RdS (CI .u16) 1 R H v1 x1) {r : Bool} (hM : m11 x0 x1 x2 = some r) : TopOk Tryz.prog B PW 11 #[.agg #[iv x0.Limit, iv x0.Ballast.Least, iv x0.Ballast.Most, v0_3, v0_4, v0_5], v1, .int .u8 x2] R H (fun v R' H' => RLe R R' ∧ H = H' ∧ v = .bool r) := by
 unfold m11 at hM
 refine TopOk.of_at (args := [.agg #[iv x0.Limit, iv x0.Ballast.Least, iv x0.Ballast.Most, v0_3, v0_4, v0_5], v1, .int .u8 x2]) Tryz.func11 rfl (n := 227) rfl rfl fun hk => ?_
 refine sg rg2 ?_
 refine bx fun b152 => ?_
 refine vs 1 ?_
 refine es ?_
 refine sg rg3 ?_
 refine lN [_, _, _, _, _, _] 0 6 agg28 z0 ?_
 obtain ⟨x153, hx153, hM⟩ := bnd hM
 refine At.cv ent42 (m42_ok x0 h0_3 h0_4 h0_5 hx153) ?_
 rintro _ _ _ ⟨rfl, rfl, rfl⟩
 refine vs 1 ?_
 refine er ?_
 refine sc hM (fun ht157 hM => ?_) (fun ht157 hM => ?_)
 ·refine sg rg2 ?_
  obtain ⟨x158, hx158, hM⟩ := bnd hM
  refine At.cv ent19 (m19_ok  hG hK hx158) ?_
  rintro _ Rx158 _ ⟨hRx158, rfl, rfl⟩
  refine vs 1 ?_
  refine er ?_
  obtain rfl := sinj hM
  exact At.retT Tryz.func11 (by kernel_rfl) (.tmp rfl .nil) (so sr) hk ⟨hRx158, rfl, rfl⟩
 refine sp ?_
 refine sg rg7 ?_
 refine vs 1 ?_
 refine At.s rfl rfl (Ox.convI rfl rfl Tryz.underlying5 Tryz.underlying3 rfl (.put rfl) ?_)
 refine vs 1 ?_
 refine ld 3 one24 z0 ?_
 refine ls h0_3 Tryz.underlying24 ?_
 obtain ⟨x159, hx159, hM⟩ := bnd hM
 refine At.s rfl rfl (Ox.rem rfl rfl rfl hx159 rfl (.put rfl) ?_)
 refine vs 1 ?_
 refine nx rg7 ?_
 refine lN [_, _, _, _, _, _] 0 6 agg28 z0 ?_
 obtain ⟨x160, hx160, hM⟩ := bnd hM
 refine At.cv ent53 (m53_ok x0 hG h0_3 h0_4 h0_5 hx160) ?_
 rintro _ Rx160 _ ⟨hRx160, rfl, vx160r0, hx160r0, rfl⟩
 replace h0_3 := h0_3.mono hRx160
 replace h0_4 := h0_4.mono hRx160
 replace h0_5 := h0_5.mono hRx160
 replace h1 := h1.le hRx160
 replace hG := hG.mono hRx160
 refine vs 5 ?_
 refine nx rg7 ?_
 refine lN [_, _, _, _, _, _] 0 6 agg28 z0 ?_
 obtain ⟨x161, hx161, hM⟩ := bnd hM
 refine At.cv ent44 (m44_ok x0 hG h0_3 h0_4 h0_5 hx161) ?_
 rintro _ Rx161 _ ⟨hRx161, rfl, rfl⟩
 replace h0_3 := h0_3.mono hRx161
 replace h0_4 := h0_4.mono hRx161
 replace h0_5 := h0_5.mono hRx161
 replace h1 := h1.le hRx161
 replace hG := hG.mono hRx161
 replace hx160r0 := hx160r0.mono hRx161
 refine vs 5 ?_
 refine nx rg9 ?_
 refine lN [_, _, _, _, _, _] 0 6 agg28 z0 ?_
 refine vs 1 ?_
 obtain ⟨x162, hx162, hM⟩ := bnd hM
 refine At.cv ent40 (m40_ok x0 x159 hG h0_3 h0_4 h0_5 hx162) ?_
 rintro _ Rx162 _ ⟨hRx162, rfl, vx162r0_3, vx162r0_4, vx162r0_5, hx162r0_3, hx162r0_4, hx162r0_5, rfl⟩
 replace h0_3 := h0_3.mono hRx162
 replace h0_4 := h0_4.mono hRx162
 replace h0_5 := h0_5.mono hRx162
 replace h1 := h1.le hRx162
 replace hG := hG.mono hRx162
 replace hx160r0 := hx160r0.mono hRx162
 refine vs 3 ?_
 refine At.s rfl rfl (Ox.alloc (cs := #[iv 0, iv 0, iv 0, .slice none 0 0, .slice none 0 0, .slice none 0 0]) rfl zero28 rfl fun b163 _ _ => ⟨_, (.put rfl), ?_⟩)
 refine At.s rfl rfl (Ox.storeN (cs' := #[_, _, _, _, _, _]) rfl rfl rfl agg28 rfl (ones_cons rfl (ones_cons rfl (ones_cons rfl (ones_cons hx162r0_3.one (ones_cons hx162r0_4.one (ones_cons hx162r0_5.one ones_nil)))))) .here rfl rfl rfl (.refl _) ?_)
 refine vs 1 ?_
 refine es ?_
 refine sq ?_
 refine At.joinE1 hM (fun (p164_0 : Bool) R' H' st' => Rx162 = R' ∧ H' = (b163, .cells #[iv x162.1.Limit, iv x162.1.Ballast.Least, iv x162.1.Ballast.Most, vx162r0_3, vx162r0_4, vx162r0_5] 28) :: (b152, .cells #[iv x0.Limit, iv x0.Ballast.Least, iv x0.Ballast.Most, v0_3, v0_4, v0_5] 28) :: H ∧ SubL st' [(1, v1), (3, .pointer (some ⟨b152, 0, none⟩)), (7, iv x159), (10, iv x161.1), (12, .pointer (some ⟨b163, 0, none⟩)), (13, iv x162.2), (88, .bool p164_0)])  ?_ ?_
 rotate_right
 ·intro x164 hM ex164_0
  refine At.rg rg37 ?_
  refine vs 3 ?_
  refine selC hM (fun ht178 hM => ?_) (fun ht178 hM => ?_)
  ·refine At.kn 54 ht178 ?_
   refine vs 34 ?_
   refine er ?_
   exact ex164_0 _ (sinj hM).symm _ _ _ ⟨rfl, rfl, SubT.sub ⟨rfl, rfl, rfl, rfl, rfl, rfl, rfl, trivial⟩⟩
  refine At.kn 54 ht178 ?_
  refine vs 4 ?_
  refine selC hM (fun ht179 hM => ?_) (fun ht179 hM => ?_)
  ·refine At.kn 58 ht179 ?_
   refine vs 30 ?_
   refine er ?_
   exact ex164_0 _ (sinj hM).symm _ _ _ ⟨rfl, rfl, SubT.sub ⟨rfl, rfl, rfl, rfl, rfl, rfl, rfl, trivial⟩⟩
  refine At.kn 58 ht179 ?_
  refine vs 3 ?_
  refine ld 4 one25 z1 ?_
  refine vs 1 ?_
  obtain ⟨x180, hx180, hM⟩ := bnd hM
  refine At.cv ent47 (m47_ok x0.Out x159 h0_4.rd hx180) ?_
  rintro _ _ _ ⟨rfl, rfl, rfl⟩
  refine At.s rfl rfl (Ox.cmpBool rfl rfl rfl Tryz.underlying4 rfl rfl (.put rfl) ?_)
  refine vs 2 ?_
  refine selC hM (fun ht181 hM => ?_) (fun ht181 hM => ?_)
  ·refine At.kn 67 ht181 ?_
   refine vs 21 ?_
   refine er ?_
   exact ex164_0 _ (sinj hM).symm _ _ _ ⟨rfl, rfl, SubT.sub ⟨rfl, rfl, rfl, rfl, rfl, rfl, rfl, trivial⟩⟩
  refine At.kn 67 ht181 ?_
  refine vs 3 ?_
  refine selC hM (fun ht182 hM => ?_) (fun ht182 hM => ?_)
  ·refine At.kn 70 ht182 ?_
   refine vs 5 ?_
   obtain ⟨x183, hx183, hM⟩ := bnd hM
   refine At.cv ent47 (m47_ok x160.1 x159 hx160r0.rd hx183) ?_
   rintro _ _ _ ⟨rfl, rfl, rfl⟩
   refine At.s rfl rfl (Ox.cmpBool rfl rfl rfl Tryz.underlying4 rfl rfl (.put rfl) ?_)
   refine vs 2 ?_
   refine selC hM (fun ht184 hM => ?_) (fun ht184 hM => ?_)
   ·refine At.kn 79 ht184 ?_
    refine vs 9 ?_
    refine er ?_
    exact ex164_0 _ (sinj hM).symm _ _ _ ⟨rfl, rfl, SubT.sub ⟨rfl, rfl, rfl, rfl, rfl, rfl, rfl, trivial⟩⟩
   refine At.kn 79 ht184 ?_
   refine vs 3 ?_
   refine selC hM (fun ht185 hM => ?_) (fun ht185 hM => ?_)
   ·refine At.kn 82 ht185 ?_
    refine lN [_, _, _, _, _, _] 0 6 agg28 z0 ?_
    refine At.s rfl rfl (Ox.build (cells := #[_, _, _, _, _, _]) rfl struct28 rfl fill_nil rfl (.put rfl) ?_)
    obtain ⟨x186, hx186, hM⟩ := bnd hM
    refine At.cv ent37 (m37_ok x162.1 (⟨0, ⟨0, 0⟩, [], [], []⟩ : HullBook) hx162r0_3 hx162r0_4 hx162r0_5 SlR.nil SlR.nil SlR.nil hx186) ?_
    rintro _ _ _ ⟨rfl, rfl, rfl⟩
    refine vs 3 ?_
    refine er ?_
    exact ex164_0 _ (sinj hM).symm _ _ _ ⟨rfl, rfl, SubT.sub ⟨rfl, rfl, rfl, rfl, rfl, rfl, rfl, trivial⟩⟩
   refine At.kn 82 ht185 ?_
   refine vs 6 ?_
   refine er ?_
   exact ex164_0 _ (sinj hM).symm _ _ _ ⟨rfl, rfl, SubT.sub ⟨rfl, rfl, rfl, rfl, rfl, rfl, rfl, trivial⟩⟩
  refine At.kn 70 ht182 ?_
  refine vs 5 ?_
  obtain ⟨x187, hx187, hM⟩ := bnd hM
  refine At.cv ent47 (m47_ok x160.1 x159 hx160r0.rd hx187) ?_
  rintro _ _ _ ⟨rfl, rfl, rfl⟩
  refine At.s rfl rfl (Ox.cmpBool rfl rfl rfl Tryz.underlying4 rfl rfl (.put rfl) ?_)
  refine vs 2 ?_
  refine selC hM (fun ht188 hM => ?_) (fun ht188 hM => ?_)
  ·refine At.kn 79 ht188 ?_
   refine vs 9 ?_
   refine er ?_
   exact ex164_0 _ (sinj hM).symm _ _ _ ⟨rfl, rfl, SubT.sub ⟨rfl, rfl, rfl, rfl, rfl, rfl, rfl, trivial⟩⟩
  refine At.kn 79 ht188 ?_
  refine vs 3 ?_
  refine selC hM (fun ht189 hM => ?_) (fun ht189 hM => ?_)
  ·refine At.kn 82 ht189 ?_
   refine lN [_, _, _, _, _, _] 0 6 agg28 z0 ?_
   refine At.s rfl rfl (Ox.build (cells := #[_, _, _, _, _, _]) rfl struct28 rfl fill_nil rfl (.put rfl) ?_)
   obtain ⟨x190, hx190, hM⟩ := bnd hM
   refine At.cv ent37 (m37_ok x162.1 (⟨0, ⟨0, 0⟩, [], [], []⟩ : HullBook) hx162r0_3 hx162r0_4 hx162r0_5 SlR.nil SlR.nil SlR.nil hx190) ?_
   rintro _ _ _ ⟨rfl, rfl, rfl⟩
   refine vs 3 ?_
   refine er ?_
   exact ex164_0 _ (sinj hM).symm _ _ _ ⟨rfl, rfl, SubT.sub ⟨rfl, rfl, rfl, rfl, rfl, rfl, rfl, trivial⟩⟩
  refine At.kn 82 ht189 ?_
  refine vs 6 ?_
  refine er ?_
  exact ex164_0 _ (sinj hM).symm _ _ _ ⟨rfl, rfl, SubT.sub ⟨rfl, rfl, rfl, rfl, rfl, rfl, rfl, trivial⟩⟩
 rintro p164_0 R164_0 H164_0 st164_0 ⟨rfl, rfl, hst164_0⟩ hM
 refine At.sub hst164_0 ?_
 refine sc hM (fun ht193 hM => ?_) (fun ht193 hM => ?_)
 ·refine sg rg1 ?_
  refine vs 1 ?_
  refine er ?_
  obtain rfl := sinj hM
  exact At.retT Tryz.func11 (by kernel_rfl) (.tmp rfl .nil) (so (so sr)) hk ⟨((hRx160.trans hRx161).trans hRx162), rfl, rfl⟩
 refine sp ?_
 refine sq ?_
 refine sg rg2 ?_
 refine vs 2 ?_
 refine er ?_
 refine At.joinE1R hM (fun (p194_0 : Unit) R' H' st' => RLe Rx162 R' ∧ H' = (b163, .cells #[iv x162.1.Limit, iv x162.1.Ballast.Least, iv x162.1.Ballast.Most, vx162r0_3, vx162r0_4, vx162r0_5] 28) :: (b152, .cells #[iv x0.Limit, iv x0.Ballast.Least, iv x0.Ballast.Most, v0_3, v0_4, v0_5] 28) :: H ∧ SubL st' [(1, v1), (3, .pointer (some ⟨b152, 0, none⟩)), (10, iv x161.1), (12, .pointer (some ⟨b163, 0, none⟩)), (13, iv x162.2)])  ?_ ?_
 rotate_right
 ·intro x194 hM ex194_0 out194
  refine sc hM (fun ht213 hM => ?_) (fun ht213 hM => ?_)
  ·refine sg rg7 ?_
   refine lN [_, _, _, _, _, _] 0 6 agg28 z0 ?_
   obtain ⟨x214, hx214, hM⟩ := bnd hM
   refine At.cv ent44 (m44_ok x162.1 hG hx162r0_3 hx162r0_4 hx162r0_5 hx214) ?_
   rintro _ Rx214 _ ⟨hRx214, rfl, rfl⟩
   replace h0_3 := h0_3.mono hRx214
   replace h0_4 := h0_4.mono hRx214
   replace h0_5 := h0_5.mono hRx214
   replace h1 := h1.le hRx214
   replace hG := hG.mono hRx214
   replace hx162r0_3 := hx162r0_3.mono hRx214
   replace hx162r0_4 := hx162r0_4.mono hRx214
   replace hx162r0_5 := hx162r0_5.mono hRx214
   refine vs 5 ?_
   refine es ?_
   obtain ⟨x216, hx216, hM⟩ := bnd hM
   obtain ⟨x218, hx218, hM⟩ := bnd hM
   obtain ⟨x219, hx219, hM⟩ := bnd hM
   obtain ⟨x220, hx220, hM⟩ := bnd hM
   refine At.cut (fun R' H' st' => RLe Rx214 R' ∧ H' = (b163, .cells #[iv x162.1.Limit, iv x162.1.Ballast.Least, iv x162.1.Ballast.Most, vx162r0_3, vx162r0_4, vx162r0_5] 28) :: (b152, .cells #[iv x0.Limit, iv x0.Ballast.Least, iv x0.Ballast.Most, v0_3, v0_4, v0_5] 28) :: H ∧ SubL st' [(1, v1), (3, .pointer (some ⟨b152, 0, none⟩)), (7, iv x159), (10, iv x161.1), (12, .pointer (some ⟨b163, 0, none⟩)), (13, iv x162.2), (14, iv x214.1), (15, iv x214.2), (16, iv x220.1), (17, iv x220.2)]) ?_ ?_
   ·rintro Rc221 Hc221 stc221 ⟨hRc221, rfl, hstc221⟩
    refine At.sub hstc221 ?_
    replace h0_3 := h0_3.mono hRc221
    replace h0_4 := h0_4.mono hRc221
    replace h0_5 := h0_5.mono hRc221
    replace h1 := h1.le hRc221
    replace hx162r0_3 := hx162r0_3.mono hRc221
    replace hx162r0_4 := hx162r0_4.mono hRc221
    replace hx162r0_5 := hx162r0_5.mono hRc221
    refine sq ?_
    refine At.dw rg32 mixed ?_
    refine Any.vs 3 [0, 1, 2] rfl ?_
    refine selC hM (fun ht222 hM => ?_) (fun ht222 hM => ?_)
    ·refine Any.known (t := 111) rfl ht222 ?_
     refine Any.vs 29 [3, 4, 5, 6, 7, 8, 9, 10, 11, 12, 13, 14, 15, 16, 17, 18, 19, 20, 21, 22, 23, 24, 25, 26, 27, 28, 29, 30, 31] rfl ?_
     refine Any.done ?_
     refine At.cond_true rfl ?_
     refine sg rg1 ?_
     refine vs 1 ?_
     refine er ?_
     replace hM := out194 _ (sinj hM).symm
     obtain rfl := sinj hM
     exact At.retT Tryz.func11 (by kernel_rfl) (.tmp rfl .nil) (so (so sr)) hk ⟨((((hRx160.trans hRx161).trans hRx162).trans hRx214).trans hRc221), rfl, rfl⟩
    refine Any.known (t := 111) rfl ht222 ?_
    refine Any.vs 4 [3, 4, 5, 6] rfl ?_
    refine selC hM (fun ht223 hM => ?_) (fun ht223 hM => ?_)
    ·refine Any.known (t := 115) rfl ht223 ?_
     refine Any.vs 25 [7, 8, 9, 10, 11, 12, 13, 14, 15, 16, 17, 18, 19, 20, 21, 22, 23, 24, 25, 26, 27, 28, 29, 30, 31] rfl ?_
     refine Any.done ?_
     refine At.cond_true rfl ?_
     refine sg rg1 ?_
     refine vs 1 ?_
     refine er ?_
     replace hM := out194 _ (sinj hM).symm
     obtain rfl := sinj hM
     exact At.retT Tryz.func11 (by kernel_rfl) (.tmp rfl .nil) (so (so sr)) hk ⟨((((hRx160.trans hRx161).trans hRx162).trans hRx214).trans hRc221), rfl, rfl⟩
    refine Any.known (t := 115) rfl ht223 ?_
    refine Any.vs 2 [7, 8] rfl ?_
    obtain ⟨x224, hx224, hM⟩ := bnd hM
    refine Any.cv 9 ent58 (m58_ok x214.1 1 x161.1  hx224) ?_
    rintro _ _ _ ⟨rfl, rfl, rfl⟩
    refine kp ?_
    refine Any.vs 3 [10, 11, 12] rfl ?_
    refine selC hM (fun ht225 hM => ?_) (fun ht225 hM => ?_)
    ·refine Any.known (t := 121) rfl ht225 ?_
     refine Any.vs 19 [13, 14, 15, 16, 17, 18, 19, 20, 21, 22, 23, 24, 25, 26, 27, 28, 29, 30, 31] rfl ?_
     refine Any.done ?_
     refine At.cond_true rfl ?_
     refine sg rg1 ?_
     refine vs 1 ?_
     refine er ?_
     replace hM := out194 _ (sinj hM).symm
     obtain rfl := sinj hM
     exact At.retT Tryz.func11 (by kernel_rfl) (.tmp rfl .nil) (so (so sr)) hk ⟨((((hRx160.trans hRx161).trans hRx162).trans hRx214).trans hRc221), rfl, rfl⟩
    refine Any.known (t := 121) rfl ht225 ?_
    refine Any.vs 4 [13, 14, 15, 16] rfl ?_
    refine selC hM (fun ht226 hM => ?_) (fun ht226 hM => ?_)
    ·refine Any.known (t := 125) rfl ht226 ?_
     refine Any.vs 15 [17, 18, 19, 20, 21, 22, 23, 24, 25, 26, 27, 28, 29, 30, 31] rfl ?_
     refine Any.done ?_
     refine At.cond_true rfl ?_
     refine sg rg1 ?_
     refine vs 1 ?_
     refine er ?_
     replace hM := out194 _ (sinj hM).symm
     obtain rfl := sinj hM
     exact At.retT Tryz.func11 (by kernel_rfl) (.tmp rfl .nil) (so (so sr)) hk ⟨((((hRx160.trans hRx161).trans hRx162).trans hRx214).trans hRc221), rfl, rfl⟩
    refine Any.known (t := 125) rfl ht226 ?_
    refine Any.vs 5 [17, 18, 19, 20, 21] rfl ?_
    refine Any.tk 22 rfl pp (fun R' H' hR hS => Ox.cmpBool rfl rfl rfl Tryz.underlying4 rfl rfl (.one rfl) ⟨rfl, rfl, rfl⟩) ?_
    refine Any.vs 2 [23, 24] rfl ?_
    refine selC hM (fun ht227 hM => ?_) (fun ht227 hM => ?_)
    ·refine Any.known (t := 133) rfl ht227 ?_
     refine Any.vs 7 [25, 26, 27, 28, 29, 30, 31] rfl ?_
     refine Any.done ?_
     refine At.cond_true rfl ?_
     refine sg rg1 ?_
     refine vs 1 ?_
     refine er ?_
     replace hM := out194 _ (sinj hM).symm
     obtain rfl := sinj hM
     exact At.retT Tryz.func11 (by kernel_rfl) (.tmp rfl .nil) (so (so sr)) hk ⟨((((hRx160.trans hRx161).trans hRx162).trans hRx214).trans hRc221), rfl, rfl⟩
    refine Any.known (t := 133) rfl ht227 ?_
    refine tN 25 [_, _, _, _, _, _] 0 6 agg28 z0 ?_
    refine tN 26 [_, _, _, _, _, _] 0 6 agg28 z1 ?_
    refine Any.vs 1 [27] rfl ?_
    obtain ⟨x228, hx228, hM⟩ := bnd hM
    refine Any.cv 28 ent64 (m64_ok x0 x159 h0_3 h0_4 h0_5 hx228) ?_
    rintro _ Rx228 _ ⟨hRx228, rfl, vx228r0_3, vx228r0_4, vx228r0_5, hx228r0_3, hx228r0_4, hx228r0_5, rfl⟩
    replace h1 := h1.le hRx228
    replace hx162r0_3 := hx162r0_3.mono hRx228
    replace hx162r0_4 := hx162r0_4.mono hRx228
    replace hx162r0_5 := hx162r0_5.mono hRx228
    refine ⟨hRx228, ka, ?_⟩
    obtain ⟨x229, hx229, hM⟩ := bnd hM
    refine Any.cv 29 ent37 (m37_ok x162.1 x228 hx162r0_3 hx162r0_4 hx162r0_5 hx228r0_3 hx228r0_4 hx228r0_5 hx229) ?_
    rintro _ _ _ ⟨rfl, rfl, rfl⟩
    refine kp ?_
    refine Any.vs 2 [30, 31] rfl ?_
    refine Any.done ?_
    refine sc hM (fun ht230 hM => ?_) (fun ht230 hM => ?_)
    ·refine sg rg1 ?_
     refine vs 1 ?_
     refine er ?_
     replace hM := out194 _ (sinj hM).symm
     obtain rfl := sinj hM
     exact At.retT Tryz.func11 (by kernel_rfl) (.tmp rfl .nil) (so (so sr)) hk ⟨(((((hRx160.trans hRx161).trans hRx162).trans hRx214).trans hRc221).trans hRx228), rfl, rfl⟩
    refine sp ?_
    exact ex194_0 _ (sinj hM).symm _ _ _ ⟨((hRx214.trans hRc221).trans hRx228), rfl, SubT.sub ⟨rfl, rfl, rfl, rfl, rfl, trivial⟩⟩
   intro hcut221
   refine At.dw rg15 mixed ?_
   refine tN 0 [_, _, _, _, _, _] 0 6 agg28 z1 ?_
   refine Any.vs 1 [2] rfl ?_
   refine tl 3 4 one25 z1 ?_
   refine Any.vs 1 [5] rfl ?_
   refine tw 1 6 ?_ ?_
   ·refine  (SemTo.to (Ox.buildSlice (cells := #[]) rfl elem25 rfl (by decide) base25_0 fill_nil rfl fun b215 _ _ => ⟨_, (.put rfl), ⟨rr, (ku (so sr)), ?_⟩⟩))
    refine tw 4 6 ?_ ?_
    ·refine  (SemTo.to (Ox.append (K := CZ) (fun X => X ++ ((b163, _) :: (b152, _) :: H)) rfl rfl rfl app25 Tryz.underlying25 (by simp) .id (OwnSl.lit (Enc.le Enc.nil rfl) rfl) h0_4.arg hx216 rfl fun vx216 Hsx216 hox216 => ⟨_, (.put rfl), ⟨rr, (ku (subDrop sr)), ?_⟩⟩))
     refine Any.on 6 rfl rfl (SemTo.to (Ox.buildSlice (cells := #[_]) rfl elem25 rfl (by decide) base25_1 (fill_cons rfl rfl rfl rfl fill_nil) rfl fun b217 _ _ => ⟨_, (.put rfl), ⟨rr, (ku (so (subDrop sr))), ?_⟩⟩))
     refine Any.on 7 rfl rfl (SemTo.to (Ox.append (K := CZ) (fun X => (b217, _) :: X ++ ((b163, _) :: (b152, _) :: H)) rfl rfl rfl app25 Tryz.underlying25 (by simp) (.cons .id) hox216 (ArgSl.lit z0 (Enc.le (Enc.cons (x := x159) rfl rfl Enc.nil) rfl) rfl) hx218 rfl fun vx218 Hsx218 hox218 => ⟨_, (.put rfl), ⟨rr, (ku (so (subDrop sr))), ?_⟩⟩))
     refine Any.cv 8 ent51 (m51_ok x218 (hox218.rd (fun _ h => (.tail _ (List.mem_append_left _ h)))) hx219) ?_
     rintro vx219r0 Rx219 _ ⟨hRx219, rfl, _, hx219r0, rfl⟩
     replace h0_3 := h0_3.mono hRx219
     replace h0_4 := h0_4.mono hRx219
     replace h0_5 := h0_5.mono hRx219
     replace h1 := h1.le hRx219
     replace hG := hG.mono hRx219
     refine ⟨hRx219, (ku (so (subDrop sr))), ?_⟩
     refine Any.cv 9 ent56 (m56_ok x0 x219 hG h0_3 h0_4 h0_5 hx219r0 hx220) ?_
     rintro _ Rx220 _ ⟨hRx220, rfl, rfl⟩
     replace h1 := h1.le hRx220
     refine ⟨hRx220, (ku (so (subDrop sr))), ?_⟩
     refine Any.vs 5 [10, 11, 12, 13, 14] rfl ?_
     exact Any.done (At.drop (so (subDrop sr)) (hcut221 _ _ _ ⟨(hRx219.trans hRx220), rfl, SubT.sub ⟨rfl, rfl, rfl, rfl, rfl, rfl, rfl, rfl, rfl, rfl, trivial⟩⟩))
    refine  (SemTo.to (Ox.buildSlice (cells := #[_]) rfl elem25 rfl (by decide) base25_1 (fill_cons rfl rfl rfl rfl fill_nil) rfl fun b217 _ _ => ⟨_, (.put rfl), ⟨rr, (ku (so (so sr))), ?_⟩⟩))
    refine Any.on 4 rfl rfl (SemTo.to (Ox.append (K := CZ) (fun X => (b217, _) :: X ++ ((b163, _) :: (b152, _) :: H)) rfl rfl rfl app25 Tryz.underlying25 (by simp) (.cons .id) (OwnSl.lit (Enc.le Enc.nil rfl) rfl) h0_4.arg hx216 rfl fun vx216 Hsx216 hox216 => ⟨_, (.put rfl), ⟨rr, (ku (so (subDrop sr))), ?_⟩⟩))
    refine Any.on 7 rfl rfl (SemTo.to (Ox.append (K := CZ) (fun X => (b217, _) :: X ++ ((b163, _) :: (b152, _) :: H)) rfl rfl rfl app25 Tryz.underlying25 (by simp) (.cons .id) hox216 (ArgSl.lit z0 (Enc.le (Enc.cons (x := x159) rfl rfl Enc.nil) rfl) rfl) hx218 rfl fun vx218 Hsx218 hox218 => ⟨_, (.put rfl), ⟨rr, (ku (so (subDrop sr))), ?_⟩⟩))
    refine Any.cv 8 ent51 (m51_ok x218 (hox218.rd (fun _ h => (.tail _ (List.mem_append_left _ h)))) hx219) ?_
    rintro vx219r0 Rx219 _ ⟨hRx219, rfl, _, hx219r0, rfl⟩
    replace h0_3 := h0_3.mono hRx219
    replace h0_4 := h0_4.mono hRx219
    replace h0_5 := h0_5.mono hRx219
    replace h1 := h1.le hRx219
    replace hG := hG.mono hRx219
    refine ⟨hRx219, (ku (so (subDrop sr))), ?_⟩
    refine Any.cv 9 ent56 (m56_ok x0 x219 hG h0_3 h0_4 h0_5 hx219r0 hx220) ?_
    rintro _ Rx220 _ ⟨hRx220, rfl, rfl⟩
    replace h1 := h1.le hRx220
    refine ⟨hRx220, (ku (so (subDrop sr))), ?_⟩
    refine Any.vs 5 [10, 11, 12, 13, 14] rfl ?_
    exact Any.done (At.drop (so (subDrop sr)) (hcut221 _ _ _ ⟨(hRx219.trans hRx220), rfl, SubT.sub ⟨rfl, rfl, rfl, rfl, rfl, rfl, rfl, rfl, rfl, rfl, trivial⟩⟩))
   refine  (SemTo.to (Ox.buildSlice (cells := #[_]) rfl elem25 rfl (by decide) base25_1 (fill_cons rfl rfl rfl rfl fill_nil) rfl fun b217 _ _ => ⟨_, (.put rfl), ⟨rr, (ku (so sr)), ?_⟩⟩))
   refine Any.on 1 rfl rfl (SemTo.to (Ox.buildSlice (cells := #[]) rfl elem25 rfl (by decide) base25_0 fill_nil rfl fun b215 _ _ => ⟨_, (.put rfl), ⟨rr, (ku (so (so sr))), ?_⟩⟩))
   refine Any.on 4 rfl rfl (SemTo.to (Ox.append (K := CZ) (fun X => X ++ ((b217, _) :: (b163, _) :: (b152, _) :: H)) rfl rfl rfl app25 Tryz.underlying25 (by simp) .id (OwnSl.lit (Enc.le Enc.nil rfl) rfl) h0_4.arg hx216 rfl fun vx216 Hsx216 hox216 => ⟨_, (.put rfl), ⟨rr, (ku (subDrop (so sr))), ?_⟩⟩))
   refine Any.on 7 rfl rfl (SemTo.to (Ox.append (K := CZ) (fun X => X ++ ((b217, _) :: (b163, _) :: (b152, _) :: H)) rfl rfl rfl app25 Tryz.underlying25 (by simp) .id hox216 (ArgSl.lit (List.mem_append_right _ z0) (Enc.le (Enc.cons (x := x159) rfl rfl Enc.nil) rfl) rfl) hx218 rfl fun vx218 Hsx218 hox218 => ⟨_, (.put rfl), ⟨rr, (ku (subDrop (so sr))), ?_⟩⟩))
   refine Any.cv 8 ent51 (m51_ok x218 (hox218.rd (fun _ h => (List.mem_append_left _ h))) hx219) ?_
   rintro vx219r0 Rx219 _ ⟨hRx219, rfl, _, hx219r0, rfl⟩
   replace h0_3 := h0_3.mono hRx219
   replace h0_4 := h0_4.mono hRx219
   replace h0_5 := h0_5.mono hRx219
   replace h1 := h1.le hRx219
   replace hG := hG.mono hRx219
   refine ⟨hRx219, (ku (subDrop (so sr))), ?_⟩
   refine Any.cv 9 ent56 (m56_ok x0 x219 hG h0_3 h0_4 h0_5 hx219r0 hx220) ?_
   rintro _ Rx220 _ ⟨hRx220, rfl, rfl⟩
   replace h1 := h1.le hRx220
   refine ⟨hRx220, (ku (subDrop (so sr))), ?_⟩
   refine Any.vs 5 [10, 11, 12, 13, 14] rfl ?_
   exact Any.done (At.drop (subDrop (so sr)) (hcut221 _ _ _ ⟨(hRx219.trans hRx220), rfl, SubT.sub ⟨rfl, rfl, rfl, rfl, rfl, rfl, rfl, rfl, rfl, rfl, trivial⟩⟩))
  refine sp ?_
  exact ex194_0 _ (sinj hM).symm _ _ _ ⟨(rr), rfl, SubT.sub ⟨rfl, rfl, rfl, rfl, rfl, trivial⟩⟩
 rintro p194_0 R194_0 H194_0 st194_0 ⟨hR194_0, rfl, hst194_0⟩ hM
 refine At.sub hst194_0 ?_
 replace h0_3 := h0_3.mono hR194_0
 replace h0_4 := h0_4.mono hR194_0
 replace h0_5 := h0_5.mono hR194_0
 replace h1 := h1.le hR194_0
 replace hG := hG.mono hR194_0
 refine sg rg4 ?_
 refine lN [_, _, _, _, _, _] 0 6 agg28 z1 ?_
 refine vs 1 ?_
 obtain ⟨x231, hx231, hM⟩ := bnd hM
 refine At.cv ent54 (m54_ok x0 x1 h0_3 h0_4 h0_5 (h1.sub (su (so (so sr)))) hx231) ?_
 rintro vx231r0 Rx231 _ ⟨hRx231, rfl, _, hx231r0, rfl⟩
 replace h0_3 := h0_3.mono hRx231
 replace h0_4 := h0_4.mono hRx231
 replace h0_5 := h0_5.mono hRx231
 replace h1 := h1.le hRx231
 replace hG := hG.mono hRx231
 refine vs 1 ?_
 refine nx rg8 ?_
 refine lN [_, _, _, _, _, _] 0 6 agg28 z1 ?_
 refine vs 1 ?_
 obtain ⟨x232, hx232, hM⟩ := bnd hM
 refine At.cv ent23 (m23_ok x0 x231 hG h0_3 h0_4 h0_5 hx231r0 hx232) ?_
 rintro _ Rx232 _ ⟨hRx232, rfl, rfl⟩
 replace h0_3 := h0_3.mono hRx232
 replace h0_4 := h0_4.mono hRx232
 replace h0_5 := h0_5.mono hRx232
 replace hG := hG.mono hRx232
 replace hx231r0 := hx231r0.mono hRx232
 refine vs 5 ?_
 refine es ?_
 refine sg rg2 ?_
 refine vs 2 ?_
 refine er ?_
 refine sc hM (fun ht242 hM => ?_) (fun ht242 hM => ?_)
 ·refine sq ?_
  refine At.joinE1 hM (fun (p243_0 : Bool) R' H' st' => RLe Rx232 R' ∧ H = H' ∧ SubL st' [(6, .bool p243_0)])  ?_ ?_
  rotate_right
  ·intro x243 hM ex243_0
   refine At.rg rg18 ?_
   refine vs 3 ?_
   refine selC hM (fun ht251 hM => ?_) (fun ht251 hM => ?_)
   ·refine At.kn 154 ht251 ?_
    refine vs 3 ?_
    refine selC hM (fun ht252 hM => ?_) (fun ht252 hM => ?_)
    ·refine At.kn 157 ht252 ?_
     refine vs 9 ?_
     obtain ⟨x253, hx253, hM⟩ := bnd hM
     refine At.cv ent19 (m19_ok  hG hK hx253) ?_
     rintro _ Rx253 _ ⟨hRx253, rfl, rfl⟩
     refine vs 2 ?_
     refine er ?_
     exact At.drop (so (so sr)) (ex243_0 _ (sinj hM).symm _ _ _ ⟨hRx253, rfl, SubT.sub ⟨rfl, trivial⟩⟩)
    refine At.kn 157 ht252 ?_
    refine vs 4 ?_
    refine selC hM (fun ht254 hM => ?_) (fun ht254 hM => ?_)
    ·refine At.kn 161 ht254 ?_
     refine vs 5 ?_
     obtain ⟨x255, hx255, hM⟩ := bnd hM
     refine At.cv ent19 (m19_ok  hG hK hx255) ?_
     rintro _ Rx255 _ ⟨hRx255, rfl, rfl⟩
     refine vs 2 ?_
     refine er ?_
     exact At.drop (so (so sr)) (ex243_0 _ (sinj hM).symm _ _ _ ⟨hRx255, rfl, SubT.sub ⟨rfl, trivial⟩⟩)
    refine At.kn 161 ht254 ?_
    refine vs 5 ?_
    refine selC hM (fun ht256 hM => ?_) (fun ht256 hM => ?_)
    ·refine At.kn 166 ht256 ?_
     obtain ⟨x257, hx257, hM⟩ := bnd hM
     refine At.cv ent19 (m19_ok  hG hK hx257) ?_
     rintro _ Rx257 _ ⟨hRx257, rfl, rfl⟩
     refine vs 2 ?_
     refine er ?_
     exact At.drop (so (so sr)) (ex243_0 _ (sinj hM).symm _ _ _ ⟨hRx257, rfl, SubT.sub ⟨rfl, trivial⟩⟩)
    refine At.kn 166 ht256 ?_
    refine vs 3 ?_
    refine er ?_
    exact At.drop (so (so sr)) (ex243_0 _ (sinj hM).symm _ _ _ ⟨(rr), rfl, SubT.sub ⟨rfl, trivial⟩⟩)
   refine At.kn 154 ht251 ?_
   refine vs 15 ?_
   refine er ?_
   exact At.drop (so (so sr)) (ex243_0 _ (sinj hM).symm _ _ _ ⟨(rr), rfl, SubT.sub ⟨rfl, trivial⟩⟩)
  rintro p243_0 R243_0 H243_0 st243_0 ⟨hR243_0, rfl, hst243_0⟩ hM
  refine At.sub hst243_0 ?_
  obtain rfl := sinj hM
  exact At.retT Tryz.func11 (by kernel_rfl) (.tmp rfl .nil) sr hk ⟨((((((hRx160.trans hRx161).trans hRx162).trans hR194_0).trans hRx231).trans hRx232).trans hR243_0), rfl, rfl⟩
 refine sp ?_
 refine sq ?_
 refine sq ?_
 refine At.joinE1 hM (fun (p258_0 : Bool) R' H' st' => Rx232 = R' ∧ H' = (b163, .cells #[iv x162.1.Limit, iv x162.1.Ballast.Least, iv x162.1.Ballast.Most, vx162r0_3, vx162r0_4, vx162r0_5] 28) :: (b152, .cells #[iv x0.Limit, iv x0.Ballast.Least, iv x0.Ballast.Most, v0_3, v0_4, v0_5] 28) :: H ∧ SubL st' [(3, .pointer (some ⟨b152, 0, none⟩)), (10, iv x161.1), (12, .pointer (some ⟨b163, 0, none⟩)), (18, vx231r0), (20, iv x232.2), (179, .bool p258_0)])  ?_ ?_
 rotate_right
 ·intro x258 hM ex258_0
  refine At.rg rg11 ?_
  refine vs 3 ?_
  refine selC hM (fun ht261 hM => ?_) (fun ht261 hM => ?_)
  ·refine At.kn 171 ht261 ?_
   refine vs 8 ?_
   refine er ?_
   exact ex258_0 _ (sinj hM).symm _ _ _ ⟨rfl, rfl, SubT.sub ⟨rfl, rfl, rfl, rfl, rfl, rfl, trivial⟩⟩
  refine At.kn 171 ht261 ?_
  refine vs 4 ?_
  refine selC hM (fun ht262 hM => ?_) (fun ht262 hM => ?_)
  ·refine At.kn 175 ht262 ?_
   refine vs 4 ?_
   refine er ?_
   exact ex258_0 _ (sinj hM).symm _ _ _ ⟨rfl, rfl, SubT.sub ⟨rfl, rfl, rfl, rfl, rfl, rfl, trivial⟩⟩
  refine At.kn 175 ht262 ?_
  refine vs 1 ?_
  refine ls hx231r0 Tryz.underlying25 ?_
  refine vs 2 ?_
  refine er ?_
  exact ex258_0 _ (sinj hM).symm _ _ _ ⟨rfl, rfl, SubT.sub ⟨rfl, rfl, rfl, rfl, rfl, rfl, trivial⟩⟩
 rintro p258_0 R258_0 H258_0 st258_0 ⟨rfl, rfl, hst258_0⟩ hM
 refine At.sub hst258_0 ?_
 refine sc hM (fun ht267 hM => ?_) (fun ht267 hM => ?_)
 ·refine sq ?_
  refine At.joinE1 hM (fun (p268_0 : Bool) R' H' st' => RLe Rx232 R' ∧ H = H' ∧ SubL st' [(6, .bool p268_0)])  ?_ ?_
  rotate_right
  ·intro x268 hM ex268_0
   refine At.rg rg6 ?_
   refine vs 3 ?_
   refine selC hM (fun ht271 hM => ?_) (fun ht271 hM => ?_)
   ·refine At.kn 182 ht271 ?_
    obtain ⟨x272, hx272, hM⟩ := bnd hM
    refine At.cv ent19 (m19_ok  hG hK hx272) ?_
    rintro _ Rx272 _ ⟨hRx272, rfl, rfl⟩
    refine vs 2 ?_
    refine er ?_
    exact At.drop (so (so sr)) (ex268_0 _ (sinj hM).symm _ _ _ ⟨hRx272, rfl, SubT.sub ⟨rfl, trivial⟩⟩)
   refine At.kn 182 ht271 ?_
   refine vs 3 ?_
   refine er ?_
   exact At.drop (so (so sr)) (ex268_0 _ (sinj hM).symm _ _ _ ⟨(rr), rfl, SubT.sub ⟨rfl, trivial⟩⟩)
  rintro p268_0 R268_0 H268_0 st268_0 ⟨hR268_0, rfl, hst268_0⟩ hM
  refine At.sub hst268_0 ?_
  obtain rfl := sinj hM
  exact At.retT Tryz.func11 (by kernel_rfl) (.tmp rfl .nil) sr hk ⟨((((((hRx160.trans hRx161).trans hRx162).trans hR194_0).trans hRx231).trans hRx232).trans hR268_0), rfl, rfl⟩
 refine sp ?_
 refine sq ?_
 refine At.draw (n := 10) (is := [0, 1, 2, 3, 4, 5, 6, 7, 8, 9]) (many ((b163, .cells #[iv x162.1.Limit, iv x162.1.Ballast.Least, iv x162.1.Ballast.Most, vx162r0_3, vx162r0_4, vx162r0_5] 28) :: (b152, .cells #[iv x0.Limit, iv x0.Ballast.Least, iv x0.Ballast.Most, v0_3, v0_4, v0_5] 28) :: H) [(8, (b152, .cells #[iv x0.Limit, iv x0.Ballast.Least, iv x0.Ballast.Most, v0_3, v0_4, v0_5] 28) :: H)]) mixed rfl (by decide +kernel) rfl rfl ?_
 refine ts 0 [4, 5, 6, 7, 8, 9] rfl (many_skip rfl (many_nil (su (so sr)))) (su (so sr)) (fun R' H' hR hS => Ox.loadN (vs := [_, _, _, _, _, _]) rfl rfl agg28 rfl ((CellsAt.box (hS _ z0)).part (j := 0) (n := 6) rfl) rfl (.one rfl) ⟨rfl, rfl, rfl⟩) ?_
 refine Any.vs 1 [1] rfl ?_
 obtain ⟨x273, hx273, hM⟩ := bnd hM
 obtain ⟨x274, hx274, hM⟩ := bnd hM
 obtain ⟨bx273, ox273, _, rfl, hcx273, hix273⟩ := hx231r0.elem slice25 hx273
 refine ts 2 [3, 4, 5, 6, 7, 8, 9] rfl (many_skip rfl (many_nil (su (so (so sr))))) (su (so (so sr))) (fun R' H' hR hS => Ox.indexV rfl rfl rfl hix273 rfl (.one rfl) ⟨rfl, rfl, rfl⟩) ?_
 refine ts 3 [4, 5, 6, 7, 8, 9] rfl (many_skip rfl (many_nil (su (so (so sr))))) (su (so (so sr))) (fun R' H' hR hS => Ox.load1 rfl rfl one3 ((hcx273.up hR).one (j := 0) rfl) rfl (.one rfl) ⟨rfl, rfl, rfl⟩) ?_
 refine Any.cv 4 ent40 (m40_ok x0 x273 hG h0_3 h0_4 h0_5 hx274) ?_
 rintro _ Rx274 _ ⟨hRx274, rfl, vx274r0_3, vx274r0_4, vx274r0_5, hx274r0_3, hx274r0_4, hx274r0_5, rfl⟩
 replace hG := hG.mono hRx274
 replace hcx273 := hcx273.up (H := []) hRx274
 replace hx231r0 := hx231r0.mono hRx274
 refine ⟨hRx274, (many_at rfl pp), ?_⟩
 refine Any.vs 3 [5, 6, 7] rfl ?_
 refine Any.on 8 rfl rfl (SemTo.to (Ox.storeN (cs' := #[_, _, _, _, _, _]) rfl rfl rfl agg28 rfl (ones_cons rfl (ones_cons rfl (ones_cons rfl (ones_cons hx274r0_3.one (ones_cons hx274r0_4.one (ones_cons hx274r0_5.one ones_nil)))))) .here rfl rfl rfl (.refl _) ⟨rr, (many_at rfl (su (so sr))), ?_⟩))
 refine Any.vs 1 [9] rfl ?_
 refine Any.done ?_
 refine sg rg7 ?_
 refine lN [_, _, _, _, _, _] 0 6 agg28 z0 ?_
 obtain ⟨x275, hx275, hM⟩ := bnd hM
 refine At.cv ent44 (m44_ok x274.1 hG hx274r0_3 hx274r0_4 hx274r0_5 hx275) ?_
 rintro _ Rx275 _ ⟨hRx275, rfl, rfl⟩
 replace hG := hG.mono hRx275
 replace hx231r0 := hx231r0.mono hRx275
 replace hx274r0_3 := hx274r0_3.mono hRx275
 replace hx274r0_4 := hx274r0_4.mono hRx275
 replace hx274r0_5 := hx274r0_5.mono hRx275
 refine vs 5 ?_
 refine es ?_
 refine At.dw rg9 mixed ?_
 refine tN 0 [_, _, _, _, _, _] 0 6 agg28 z0 ?_
 refine Any.vs 1 [1] rfl ?_
 obtain ⟨x276, hx276, hM⟩ := bnd hM
 obtain ⟨x277, hx277, hM⟩ := bnd hM
 obtain ⟨vx276, hx276s, hkx276⟩ := hx231r0.cut slice25 hx276
 refine Any.tk 2 rfl pp (fun R' H' hR hS => Ox.cutV rfl rfl rfl rfl hkx276 rfl (.one rfl) ⟨rfl, rfl, rfl⟩) ?_
 refine Any.cv 3 ent23 (m23_ok x274.1 x276 hG hx274r0_3 hx274r0_4 hx274r0_5 hx276s hx277) ?_
 rintro _ Rx277 _ ⟨hRx277, rfl, rfl⟩
 replace hG := hG.mono hRx277
 refine ⟨hRx277, ka, ?_⟩
 refine Any.vs 5 [4, 5, 6, 7, 8] rfl ?_
 refine Any.done ?_
 refine sg rg23 ?_
 refine vs 3 ?_
 refine selC hM (fun ht278 hM => ?_) (fun ht278 hM => ?_)
 ·refine At.kn 207 ht278 ?_
  refine vs 4 ?_
  refine selC hM (fun ht279 hM => ?_) (fun ht279 hM => ?_)
  ·refine At.kn 211 ht279 ?_
   refine vs 4 ?_
   refine selC hM (fun ht280 hM => ?_) (fun ht280 hM => ?_)
   ·refine At.kn 215 ht280 ?_
    refine vs 5 ?_
    refine selC hM (fun ht281 hM => ?_) (fun ht281 hM => ?_)
    ·refine At.kn 220 ht281 ?_
     refine vs 4 ?_
     refine selC hM (fun ht282 hM => ?_) (fun ht282 hM => ?_)
     ·refine At.kn 224 ht282 ?_
      obtain ⟨x283, hx283, hM⟩ := bnd hM
      refine At.cv ent19 (m19_ok  hG hK hx283) ?_
      rintro _ Rx283 _ ⟨hRx283, rfl, rfl⟩
      refine vs 2 ?_
      refine er ?_
      obtain rfl := sinj hM
      exact At.retT Tryz.func11 (by kernel_rfl) (.tmp rfl .nil) (so (so sr)) hk ⟨(((((((((hRx160.trans hRx161).trans hRx162).trans hR194_0).trans hRx231).trans hRx232).trans hRx274).trans hRx275).trans hRx277).trans hRx283), rfl, rfl⟩
     refine At.kn 224 ht282 ?_
     refine vs 3 ?_
     refine er ?_
     obtain rfl := sinj hM
     exact At.retT Tryz.func11 (by kernel_rfl) (.tmp rfl .nil) (so (so sr)) hk ⟨((((((((hRx160.trans hRx161).trans hRx162).trans hR194_0).trans hRx231).trans hRx232).trans hRx274).trans hRx275).trans hRx277), rfl, rfl⟩
    refine At.kn 220 ht281 ?_
    refine vs 7 ?_
    refine er ?_
    obtain rfl := sinj hM
    exact At.retT Tryz.func11 (by kernel_rfl) (.tmp rfl .nil) (so (so sr)) hk ⟨((((((((hRx160.trans hRx161).trans hRx162).trans hR194_0).trans hRx231).trans hRx232).trans hRx274).trans hRx275).trans hRx277), rfl, rfl⟩
   refine At.kn 215 ht280 ?_
   refine vs 12 ?_
   refine er ?_
   obtain rfl := sinj hM
   exact At.retT Tryz.func11 (by kernel_rfl) (.tmp rfl .nil) (so (so sr)) hk ⟨((((((((hRx160.trans hRx161).trans hRx162).trans hR194_0).trans hRx231).trans hRx232).trans hRx274).trans hRx275).trans hRx277), rfl, rfl⟩
  refine At.kn 211 ht279 ?_
  refine vs 16 ?_
  refine er ?_
  obtain rfl := sinj hM
  exact At.retT Tryz.func11 (by kernel_rfl) (.tmp rfl .nil) (so (so sr)) hk ⟨((((((((hRx160.trans hRx161).trans hRx162).trans hR194_0).trans hRx231).trans hRx232).trans hRx274).trans hRx275).trans hRx277), rfl, rfl⟩
 refine At.kn 207 ht278 ?_
 refine vs 20 ?_
 refine er ?_
 obtain rfl := sinj hM
 exact At.retT Tryz.func11 (by kernel_rfl) (.tmp rfl .nil) (so (so sr)) hk ⟨((((((((hRx160.trans hRx161).trans hRx162).trans hR194_0).trans hRx231).trans hRx232).trans hRx274).trans hRx275).trans hRx277), rfl, rfl⟩
end
end Go.Proofs.YtabamagholjdcaaGreatDoor
