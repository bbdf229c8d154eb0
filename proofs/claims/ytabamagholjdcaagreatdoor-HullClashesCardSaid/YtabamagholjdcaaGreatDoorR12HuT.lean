/- Walks, part 8: each function computes its model. -/
import Derived.Test.YtabamagholjdcaaGreatDoorQHuP8
import Derived.Test.YtabamagholjdcaaGreatDoorQLgD
namespace Go.Proofs.YtabamagholjdcaaGreatDoor
open Go.Lg Go.Proofs
set_option maxRecDepth 100000
set_option maxHeartbeats 4000000
section
variable {B : Base} {main : Bool} {𝒥 : Jd Tryz.prog B main} {R : RMap} {H : HList}
theorem m12_top {PW : Value → World → Prop} (x0 : HullBook) (x1 : Int) {v0_3 v0_4 v0_5 : Value} (hG : GOk R) (hK : Reckons (mainJd Tryz.prog B PW)) (h0_3 : SlR CHullPiece 5 R v0_3 x0.Pieces) (h0_4 : SlR CZ 1 R v0_4 x0.Out) (h0_5 : SlR CHullHeel 2 R v0_5 x0.Heels) {r : Bool} (hM : m12 x0 x1 = some r) : TopOk Tryz.prog B PW 12 #[.agg #[iv x0.Limit, iv x0.Ballast.Least, iv x0.Ballast.Most, v0_3, v0_4, v0_5], .int .u8 x1] R H (fun v R' H' => RLe R R' ∧ H = H' ∧ v = .bool r) := by
 unfold m12 at hM
 refine TopOk.of_at (args := [.agg #[iv x0.Limit, iv x0.Ballast.Least, iv x0.Ballast.Most, v0_3, v0_4, v0_5], .int .u8 x1]) Tryz.func12 rfl (n := 145) rfl rfl fun hk => ?_
 refine sg rg2 ?_
 refine bx fun b109 => ?_
 refine vs 1 ?_
 refine es ?_
 refine sg rg3 ?_
 refine lN [_, _, _, _, _, _] 0 6 agg28 z0 ?_
 obtain ⟨x110, hx110, hM⟩ := bnd hM
 refine At.cv ent42 (m42_ok x0 h0_3 h0_4 h0_5 hx110) ?_
 rintro _ _ _ ⟨rfl, rfl, rfl⟩
 refine vs 1 ?_
 refine er ?_
 refine sc hM (fun ht114 hM => ?_) (fun ht114 hM => ?_)
 ·refine sg rg2 ?_
  obtain ⟨x115, hx115, hM⟩ := bnd hM
  refine At.cv ent19 (m19_ok  hG hK hx115) ?_
  rintro _ Rx115 _ ⟨hRx115, rfl, rfl⟩
  refine vs 1 ?_
  refine er ?_
  obtain rfl := sinj hM
  exact At.retT Tryz.func12 (by kernel_rfl) (.tmp rfl .nil) (so sr) hk ⟨hRx115, rfl, rfl⟩
 refine sp ?_
 refine sg rg7 ?_
 refine lN [_, _, _, _, _, _] 0 6 agg28 z0 ?_
 obtain ⟨x116, hx116, hM⟩ := bnd hM
 refine At.cv ent31 (m31_ok x0 hG h0_3 h0_4 h0_5 hx116) ?_
 rintro _ Rx116 _ ⟨hRx116, rfl, vx116r0, hx116r0, rfl⟩
 replace h0_3 := h0_3.mono hRx116
 replace h0_4 := h0_4.mono hRx116
 replace h0_5 := h0_5.mono hRx116
 replace hG := hG.mono hRx116
 refine vs 5 ?_
 refine nx rg7 ?_
 refine lN [_, _, _, _, _, _] 0 6 agg28 z0 ?_
 obtain ⟨x117, hx117, hM⟩ := bnd hM
 refine At.cv ent44 (m44_ok x0 hG h0_3 h0_4 h0_5 hx117) ?_
 rintro _ Rx117 _ ⟨hRx117, rfl, rfl⟩
 replace h0_3 := h0_3.mono hRx117
 replace h0_4 := h0_4.mono hRx117
 replace h0_5 := h0_5.mono hRx117
 replace hG := hG.mono hRx117
 replace hx116r0 := hx116r0.mono hRx117
 refine vs 5 ?_
 refine nx rg8 ?_
 refine lN [_, _, _, _, _, _] 0 6 agg28 z0 ?_
 obtain ⟨x118, hx118, hM⟩ := bnd hM
 refine At.cv ent65 (m65_ok x0 [] h0_3 h0_4 h0_5 SlR.nil.rd hx118) ?_
 rintro _ Rx118 _ ⟨hRx118, rfl, vx118r0_3, vx118r0_4, vx118r0_5, hx118r0_3, hx118r0_4, hx118r0_5, rfl⟩
 replace h0_3 := h0_3.mono hRx118
 replace h0_4 := h0_4.mono hRx118
 replace h0_5 := h0_5.mono hRx118
 replace hG := hG.mono hRx118
 replace hx116r0 := hx116r0.mono hRx118
 obtain ⟨x119, hx119, hM⟩ := bnd hM
 refine At.cv ent44 (m44_ok x118 hG hx118r0_3 hx118r0_4 hx118r0_5 hx119) ?_
 rintro _ Rx119 _ ⟨hRx119, rfl, rfl⟩
 replace h0_3 := h0_3.mono hRx119
 replace h0_4 := h0_4.mono hRx119
 replace h0_5 := h0_5.mono hRx119
 replace hG := hG.mono hRx119
 replace hx116r0 := hx116r0.mono hRx119
 refine vs 5 ?_
 refine es ?_
 refine sq ?_
 refine At.joinE1 hM (fun (p120_0 : Bool) R' H' st' => Rx119 = R' ∧ H' = (b109, .cells #[iv x0.Limit, iv x0.Ballast.Least, iv x0.Ballast.Most, v0_3, v0_4, v0_5] 28) :: H ∧ SubL st' [(1, .int .u8 x1), (2, .pointer (some ⟨b109, 0, none⟩)), (5, vx116r0), (7, iv x117.1), (9, iv x119.1), (67, .bool p120_0)])  ?_ ?_
 rotate_right
 ·intro x120 hM ex120_0
  refine At.rg rg29 ?_
  refine vs 3 ?_
  refine selC hM (fun ht128 hM => ?_) (fun ht128 hM => ?_)
  ·refine At.kn 41 ht128 ?_
   refine vs 26 ?_
   refine er ?_
   exact ex120_0 _ (sinj hM).symm _ _ _ ⟨rfl, rfl, SubT.sub ⟨rfl, rfl, rfl, rfl, rfl, rfl, trivial⟩⟩
  refine At.kn 41 ht128 ?_
  refine vs 4 ?_
  refine selC hM (fun ht129 hM => ?_) (fun ht129 hM => ?_)
  ·refine At.kn 45 ht129 ?_
   refine vs 22 ?_
   refine er ?_
   exact ex120_0 _ (sinj hM).symm _ _ _ ⟨rfl, rfl, SubT.sub ⟨rfl, rfl, rfl, rfl, rfl, rfl, trivial⟩⟩
  refine At.kn 45 ht129 ?_
  refine vs 4 ?_
  refine At.s rfl rfl (Ox.cmpBool rfl rfl rfl Tryz.underlying4 rfl rfl (.put rfl) ?_)
  refine vs 2 ?_
  refine selC hM (fun ht130 hM => ?_) (fun ht130 hM => ?_)
  ·refine At.kn 52 ht130 ?_
   refine vs 15 ?_
   refine er ?_
   exact ex120_0 _ (sinj hM).symm _ _ _ ⟨rfl, rfl, SubT.sub ⟨rfl, rfl, rfl, rfl, rfl, rfl, trivial⟩⟩
  refine At.kn 52 ht130 ?_
  refine vs 3 ?_
  refine selC hM (fun ht131 hM => ?_) (fun ht131 hM => ?_)
  ·refine At.kn 55 ht131 ?_
   refine vs 5 ?_
   refine selC hM (fun ht132 hM => ?_) (fun ht132 hM => ?_)
   ·refine At.kn 60 ht132 ?_
    refine vs 7 ?_
    refine er ?_
    exact ex120_0 _ (sinj hM).symm _ _ _ ⟨rfl, rfl, SubT.sub ⟨rfl, rfl, rfl, rfl, rfl, rfl, trivial⟩⟩
   refine At.kn 60 ht132 ?_
   refine vs 2 ?_
   refine ld 5 one26 z0 ?_
   refine ls h0_5 Tryz.underlying26 ?_
   obtain ⟨x133, hx133, hM⟩ := bnd hM
   refine At.cv ent66 (m66_ok x116.1 (x0.Heels.length : Int) hx116r0.rd hx133) ?_
   rintro _ _ _ ⟨rfl, rfl, rfl⟩
   refine vs 2 ?_
   refine er ?_
   exact ex120_0 _ (sinj hM).symm _ _ _ ⟨rfl, rfl, SubT.sub ⟨rfl, rfl, rfl, rfl, rfl, rfl, trivial⟩⟩
  refine At.kn 55 ht131 ?_
  refine vs 7 ?_
  refine ld 5 one26 z0 ?_
  refine ls h0_5 Tryz.underlying26 ?_
  obtain ⟨x134, hx134, hM⟩ := bnd hM
  refine At.cv ent66 (m66_ok x116.1 (x0.Heels.length : Int) hx116r0.rd hx134) ?_
  rintro _ _ _ ⟨rfl, rfl, rfl⟩
  refine vs 2 ?_
  refine er ?_
  exact ex120_0 _ (sinj hM).symm _ _ _ ⟨rfl, rfl, SubT.sub ⟨rfl, rfl, rfl, rfl, rfl, rfl, trivial⟩⟩
 rintro p120_0 R120_0 H120_0 st120_0 ⟨rfl, rfl, hst120_0⟩ hM
 refine At.sub hst120_0 ?_
 refine sc hM (fun ht137 hM => ?_) (fun ht137 hM => ?_)
 ·refine sg rg1 ?_
  refine vs 1 ?_
  refine er ?_
  obtain rfl := sinj hM
  exact At.retT Tryz.func12 (by kernel_rfl) (.tmp rfl .nil) (so sr) hk ⟨(((hRx116.trans hRx117).trans hRx118).trans hRx119), rfl, rfl⟩
 refine sp ?_
 refine sq ?_
 refine sq ?_
 refine At.joinE1 hM (fun (p138_0 : Bool) R' H' st' => Rx119 = R' ∧ H' = (b109, .cells #[iv x0.Limit, iv x0.Ballast.Least, iv x0.Ballast.Most, v0_3, v0_4, v0_5] 28) :: H ∧ SubL st' [(1, .int .u8 x1), (2, .pointer (some ⟨b109, 0, none⟩)), (5, vx116r0), (73, .bool p138_0)])  ?_ ?_
 rotate_right
 ·intro x138 hM ex138_0
  refine At.rg rg6 ?_
  refine vs 3 ?_
  refine selC hM (fun ht140 hM => ?_) (fun ht140 hM => ?_)
  ·refine At.kn 70 ht140 ?_
   refine vs 3 ?_
   refine er ?_
   exact ex138_0 _ (sinj hM).symm _ _ _ ⟨rfl, rfl, SubT.sub ⟨rfl, rfl, rfl, rfl, trivial⟩⟩
  refine At.kn 70 ht140 ?_
  refine vs 3 ?_
  refine er ?_
  exact ex138_0 _ (sinj hM).symm _ _ _ ⟨rfl, rfl, SubT.sub ⟨rfl, rfl, rfl, rfl, trivial⟩⟩
 rintro p138_0 R138_0 H138_0 st138_0 ⟨rfl, rfl, hst138_0⟩ hM
 refine At.sub hst138_0 ?_
 refine sc hM (fun ht145 hM => ?_) (fun ht145 hM => ?_)
 ·refine sq ?_
  refine At.joinE1 hM (fun (p146_0 : Bool) R' H' st' => RLe Rx119 R' ∧ H = H' ∧ SubL st' [(4, .bool p146_0)])  ?_ ?_
  rotate_right
  ·intro x146 hM ex146_0
   refine At.rg rg7 ?_
   refine vs 1 ?_
   refine ls hx116r0 Tryz.underlying25 ?_
   refine vs 2 ?_
   refine selC hM (fun ht149 hM => ?_) (fun ht149 hM => ?_)
   ·refine At.kn 77 ht149 ?_
    obtain ⟨x150, hx150, hM⟩ := bnd hM
    refine At.cv ent19 (m19_ok  hG hK hx150) ?_
    rintro _ Rx150 _ ⟨hRx150, rfl, rfl⟩
    refine vs 2 ?_
    refine er ?_
    exact At.drop (so sr) (ex146_0 _ (sinj hM).symm _ _ _ ⟨hRx150, rfl, SubT.sub ⟨rfl, trivial⟩⟩)
   refine At.kn 77 ht149 ?_
   refine vs 3 ?_
   refine er ?_
   exact At.drop (so sr) (ex146_0 _ (sinj hM).symm _ _ _ ⟨(rr), rfl, SubT.sub ⟨rfl, trivial⟩⟩)
  rintro p146_0 R146_0 H146_0 st146_0 ⟨hR146_0, rfl, hst146_0⟩ hM
  refine At.sub hst146_0 ?_
  obtain rfl := sinj hM
  exact At.retT Tryz.func12 (by kernel_rfl) (.tmp rfl .nil) sr hk ⟨((((hRx116.trans hRx117).trans hRx118).trans hRx119).trans hR146_0), rfl, rfl⟩
 refine sp ?_
 refine sg rg9 ?_
 refine lN [_, _, _, _, _, _] 0 6 agg28 z0 ?_
 refine vs 1 ?_
 obtain ⟨x151, hx151, hM⟩ := bnd hM
 refine At.cv ent65 (m65_ok x0 x116.1 h0_3 h0_4 h0_5 hx116r0.rd hx151) ?_
 rintro _ Rx151 _ ⟨hRx151, rfl, vx151r0_3, vx151r0_4, vx151r0_5, hx151r0_3, hx151r0_4, hx151r0_5, rfl⟩
 replace h0_3 := h0_3.mono hRx151
 replace h0_4 := h0_4.mono hRx151
 replace h0_5 := h0_5.mono hRx151
 replace hG := hG.mono hRx151
 replace hx116r0 := hx116r0.mono hRx151
 obtain ⟨x152, hx152, hM⟩ := bnd hM
 refine At.cv ent44 (m44_ok x151 hG hx151r0_3 hx151r0_4 hx151r0_5 hx152) ?_
 rintro _ Rx152 _ ⟨hRx152, rfl, rfl⟩
 replace h0_3 := h0_3.mono hRx152
 replace h0_4 := h0_4.mono hRx152
 replace h0_5 := h0_5.mono hRx152
 replace hG := hG.mono hRx152
 replace hx116r0 := hx116r0.mono hRx152
 refine vs 5 ?_
 refine nx rg6 ?_
 refine vs 2 ?_
 refine ld 5 one26 z0 ?_
 refine ls h0_5 Tryz.underlying26 ?_
 obtain ⟨x153, hx153, hM⟩ := bnd hM
 refine At.cv ent49 (m49_ok x1 (x0.Heels.length : Int)  hx153) ?_
 rintro vx153r0 Rx153 _ ⟨hRx153, rfl, _, hx153r0, rfl⟩
 replace h0_3 := h0_3.mono hRx153
 replace h0_4 := h0_4.mono hRx153
 replace h0_5 := h0_5.mono hRx153
 replace hG := hG.mono hRx153
 replace hx116r0 := hx116r0.mono hRx153
 refine vs 1 ?_
 refine nx rg9 ?_
 refine lN [_, _, _, _, _, _] 0 6 agg28 z0 ?_
 refine vs 1 ?_
 obtain ⟨x154, hx154, hM⟩ := bnd hM
 refine At.cv ent65 (m65_ok x0 x153 h0_3 h0_4 h0_5 hx153r0.rd hx154) ?_
 rintro _ Rx154 _ ⟨hRx154, rfl, vx154r0_3, vx154r0_4, vx154r0_5, hx154r0_3, hx154r0_4, hx154r0_5, rfl⟩
 replace h0_3 := h0_3.mono hRx154
 replace h0_4 := h0_4.mono hRx154
 replace h0_5 := h0_5.mono hRx154
 replace hG := hG.mono hRx154
 replace hx116r0 := hx116r0.mono hRx154
 replace hx153r0 := hx153r0.mono hRx154
 obtain ⟨x155, hx155, hM⟩ := bnd hM
 refine At.cv ent44 (m44_ok x154 hG hx154r0_3 hx154r0_4 hx154r0_5 hx155) ?_
 rintro _ Rx155 _ ⟨hRx155, rfl, rfl⟩
 replace h0_3 := h0_3.mono hRx155
 replace h0_4 := h0_4.mono hRx155
 replace h0_5 := h0_5.mono hRx155
 replace hG := hG.mono hRx155
 replace hx116r0 := hx116r0.mono hRx155
 replace hx153r0 := hx153r0.mono hRx155
 refine vs 5 ?_
 refine es ?_
 refine sq ?_
 refine At.joinE1 hM (fun (p156_0 : Bool) R' H' st' => Rx155 = R' ∧ H' = (b109, .cells #[iv x0.Limit, iv x0.Ballast.Least, iv x0.Ballast.Most, v0_3, v0_4, v0_5] 28) :: H ∧ SubL st' [(2, .pointer (some ⟨b109, 0, none⟩)), (5, vx116r0), (122, .bool p156_0)])  ?_ ?_
 rotate_right
 ·intro x156 hM ex156_0
  refine At.rg rg24 ?_
  refine vs 3 ?_
  refine selC hM (fun ht163 hM => ?_) (fun ht163 hM => ?_)
  ·refine At.kn 101 ht163 ?_
   refine vs 21 ?_
   refine er ?_
   exact ex156_0 _ (sinj hM).symm _ _ _ ⟨rfl, rfl, SubT.sub ⟨rfl, rfl, rfl, trivial⟩⟩
  refine At.kn 101 ht163 ?_
  refine vs 4 ?_
  refine selC hM (fun ht164 hM => ?_) (fun ht164 hM => ?_)
  ·refine At.kn 105 ht164 ?_
   refine vs 17 ?_
   refine er ?_
   exact ex156_0 _ (sinj hM).symm _ _ _ ⟨rfl, rfl, SubT.sub ⟨rfl, rfl, rfl, trivial⟩⟩
  refine At.kn 105 ht164 ?_
  refine vs 1 ?_
  refine ls hx116r0 Tryz.underlying25 ?_
  refine vs 3 ?_
  refine selC hM (fun ht165 hM => ?_) (fun ht165 hM => ?_)
  ·refine At.kn 110 ht165 ?_
   refine vs 12 ?_
   refine er ?_
   exact ex156_0 _ (sinj hM).symm _ _ _ ⟨rfl, rfl, SubT.sub ⟨rfl, rfl, rfl, trivial⟩⟩
  refine At.kn 110 ht165 ?_
  refine vs 4 ?_
  refine selC hM (fun ht166 hM => ?_) (fun ht166 hM => ?_)
  ·refine At.kn 114 ht166 ?_
   refine vs 8 ?_
   refine er ?_
   exact ex156_0 _ (sinj hM).symm _ _ _ ⟨rfl, rfl, SubT.sub ⟨rfl, rfl, rfl, trivial⟩⟩
  refine At.kn 114 ht166 ?_
  refine vs 3 ?_
  refine selC hM (fun ht167 hM => ?_) (fun ht167 hM => ?_)
  ·refine At.kn 117 ht167 ?_
   refine vs 2 ?_
   obtain ⟨x168, hx168, hM⟩ := bnd hM
   refine At.cv ent67 (m67_ok x153 x116.1 hx153r0.rd hx116r0.rd hx168) ?_
   rintro _ _ _ ⟨rfl, rfl, rfl⟩
   refine vs 2 ?_
   refine er ?_
   exact ex156_0 _ (sinj hM).symm _ _ _ ⟨rfl, rfl, SubT.sub ⟨rfl, rfl, rfl, trivial⟩⟩
  refine At.kn 117 ht167 ?_
  refine vs 5 ?_
  refine er ?_
  exact ex156_0 _ (sinj hM).symm _ _ _ ⟨rfl, rfl, SubT.sub ⟨rfl, rfl, rfl, trivial⟩⟩
 rintro p156_0 R156_0 H156_0 st156_0 ⟨rfl, rfl, hst156_0⟩ hM
 refine At.sub hst156_0 ?_
 refine sc hM (fun ht171 hM => ?_) (fun ht171 hM => ?_)
 ·refine sg rg1 ?_
  refine vs 1 ?_
  refine er ?_
  obtain rfl := sinj hM
  exact At.retT Tryz.func12 (by kernel_rfl) (.tmp rfl .nil) (so sr) hk ⟨((((((((hRx116.trans hRx117).trans hRx118).trans hRx119).trans hRx151).trans hRx152).trans hRx153).trans hRx154).trans hRx155), rfl, rfl⟩
 refine sp ?_
 refine sq ?_
 refine sg rg1 ?_
 refine vs 1 ?_
 refine er ?_
 refine At.block ?_
 refine At.loopE1R hM (fun (s172 : Int) R' H' st' => RLe Rx155 R' ∧ H' = (b109, .cells #[iv x0.Limit, iv x0.Ballast.Least, iv x0.Ballast.Most, v0_3, v0_4, v0_5] 28) :: H ∧ SubL st' [(2, .pointer (some ⟨b109, 0, none⟩)), (5, vx116r0), (16, iv s172)]) (fun (p172_0 : Unit) R' H' st' => RLe Rx155 R' ∧ H = H' ∧ SubL st' []) 0 rfl ⟨rr, rfl, SubT.sub ⟨rfl, rfl, rfl, trivial⟩⟩ ?_ ?_
 rotate_right
 ·rintro s172 R172 H172 st172 ⟨hR172, rfl, hst172⟩ x172 hM again172 ex172_0 out172
  refine At.sub hst172 ?_
  replace h0_3 := h0_3.mono hR172
  replace h0_4 := h0_4.mono hR172
  replace h0_5 := h0_5.mono hR172
  replace hG := hG.mono hR172
  replace hx116r0 := hx116r0.mono hR172
  refine sq ?_
  refine sg rg4 ?_
  refine vs 2 ?_
  refine ls hx116r0 Tryz.underlying25 ?_
  refine vs 1 ?_
  refine er ?_
  refine sc hM (fun ht191 hM => ?_) (fun ht191 hM => ?_)
  ·refine sp ?_
   refine sq ?_
   refine At.block ?_
   refine sq ?_
   refine At.dw rg11 mixed ?_
   refine tN 0 [_, _, _, _, _, _] 0 6 agg28 z0 ?_
   refine Any.vs 2 [1, 2] rfl ?_
   obtain ⟨x192, hx192, hM⟩ := bnd hM
   refine Any.cv 3 ent68 (m68_ok x116.1 s172 hx116r0.rd hx192) ?_
   rintro vx192r0 Rx192 _ ⟨hRx192, rfl, _, hx192r0, rfl⟩
   replace h0_3 := h0_3.mono hRx192
   replace h0_4 := h0_4.mono hRx192
   replace h0_5 := h0_5.mono hRx192
   replace hG := hG.mono hRx192
   refine ⟨hRx192, ka, ?_⟩
   obtain ⟨x193, hx193, hM⟩ := bnd hM
   refine Any.cv 4 ent65 (m65_ok x0 x192 h0_3 h0_4 h0_5 hx192r0.rd hx193) ?_
   rintro _ Rx193 _ ⟨hRx193, rfl, vx193r0_3, vx193r0_4, vx193r0_5, hx193r0_3, hx193r0_4, hx193r0_5, rfl⟩
   replace hG := hG.mono hRx193
   refine ⟨hRx193, ka, ?_⟩
   obtain ⟨x194, hx194, hM⟩ := bnd hM
   refine Any.cv 5 ent44 (m44_ok x193 hG hx193r0_3 hx193r0_4 hx193r0_5 hx194) ?_
   rintro _ Rx194 _ ⟨hRx194, rfl, rfl⟩
   refine ⟨hRx194, ka, ?_⟩
   refine Any.vs 5 [6, 7, 8, 9, 10] rfl ?_
   refine Any.done ?_
   refine sg rg6 ?_
   refine vs 3 ?_
   refine selC hM (fun ht195 hM => ?_) (fun ht195 hM => ?_)
   ·refine At.kn 140 ht195 ?_
    refine vs 3 ?_
    refine er ?_
    refine At.cond_true rfl ?_
    refine sg rg1 ?_
    refine vs 1 ?_
    refine er ?_
    replace hM := out172 _ (sinj hM).symm
    obtain rfl := sinj hM
    exact At.retT Tryz.func12 (by kernel_rfl) (.tmp rfl .nil) (so sr) hk ⟨((((((((((((hRx116.trans hRx117).trans hRx118).trans hRx119).trans hRx151).trans hRx152).trans hRx153).trans hRx154).trans hRx155).trans hR172).trans hRx192).trans hRx193).trans hRx194), rfl, rfl⟩
   refine At.kn 140 ht195 ?_
   refine vs 3 ?_
   refine er ?_
   refine sc hM (fun ht196 hM => ?_) (fun ht196 hM => ?_)
   ·refine sg rg1 ?_
    refine vs 1 ?_
    refine er ?_
    replace hM := out172 _ (sinj hM).symm
    obtain rfl := sinj hM
    exact At.retT Tryz.func12 (by kernel_rfl) (.tmp rfl .nil) (so sr) hk ⟨((((((((((((hRx116.trans hRx117).trans hRx118).trans hRx119).trans hRx151).trans hRx152).trans hRx153).trans hRx154).trans hRx155).trans hR172).trans hRx192).trans hRx193).trans hRx194), rfl, rfl⟩
   refine sp ?_
   refine At.inBlock ?_
   refine At.rg rg3 ?_
   refine vs 3 ?_
   refine er ?_
   exact again172 _ (sinj hM).symm _ _ _ ⟨(((hR172.trans hRx192).trans hRx193).trans hRx194), rfl, SubT.sub ⟨rfl, rfl, rfl, trivial⟩⟩
  exact At.exit rfl (At.drop (so sr) (ex172_0 _ (sinj hM).symm _ _ _ ⟨hR172, rfl, SubT.sub trivial⟩))
 rintro p172_0 R172_0 H172_0 st172_0 ⟨hR172_0, rfl, hst172_0⟩ hM
 refine At.sub hst172_0 ?_
 replace hG := hG.mono hR172_0
 refine sg rg2 ?_
 obtain ⟨x197, hx197, hM⟩ := bnd hM
 refine At.cv ent19 (m19_ok  hG hK hx197) ?_
 rintro _ Rx197 _ ⟨hRx197, rfl, rfl⟩
 refine vs 1 ?_
 refine er ?_
 obtain rfl := sinj hM
 exact At.retT Tryz.func12 (by kernel_rfl) (.tmp rfl .nil) sr hk ⟨((((((((((hRx116.trans hRx117).trans hRx118).trans hRx119).trans hRx151).trans hRx152).trans hRx153).trans hRx154).trans hRx155).trans hR172_0).trans hRx197), rfl, rfl⟩
end
end Go.Proofs.YtabamagholjdcaaGreatDoor
