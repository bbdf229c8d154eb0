/- Walks, part 7: each function computes its model. -/
import Derived.Test.YtabamagholjdcaaGreatDoorQHuP6
import Derived.Test.YtabamagholjdcaaGreatDoorQLgD
namespace Go.Proofs.YtabamagholjdcaaGreatDoor
open Go.Lg Go.Proofs
set_option maxRecDepth 100000
set_option maxHeartbeats 4000000
section
variable {B : Base} {main : Bool} {𝒥 : Jd Tryz.prog B main} {R : RMap} {H : HList}
theorem m7_top {PW : Value → World → Prop} (x0 : HullBook) (x1 : (List Int)) (x2 : Int) {v0_3 v0_4 v0_5 v1 : Value} (hG : GOk R) (hK : Reckons (mainJd Tryz.prog B PW)) (h0_3 : SlR CHullPiece 5 R v0_3 x0.Pieces) (h0_4 : SlR CZ 1 R v0_4 x0.Out) (h0_5 : SlR CHullHeel 2 R v0_5 x0.Heels) (h1 : RdS (CI .u16) 1 R H v1 x1) {r : Bool} (hM : m7 x0 x1 x2 = some r) : TopOk Tryz.prog B PW 7 #[.agg #[iv x0.Limit, iv x0.Ballast.Least, iv x0.Ballast.Most, v0_3, v0_4, v0_5], v1, .int .u8 x2] R H (fun v R' H' => RLe R R' ∧ H = H' ∧ v = .bool r) := by
 unfold m7 at hM
 refine TopOk.of_at (args := [.agg #[iv x0.Limit, iv x0.Ballast.Least, iv x0.Ballast.Most, v0_3, v0_4, v0_5], v1, .int .u8 x2]) Tryz.func7 rfl (n := 198) rfl rfl fun hk => ?_
 refine sg rg2 ?_
 refine bx fun b123 => ?_
 refine vs 1 ?_
 refine es ?_
 refine sg rg3 ?_
 refine lN [_, _, _, _, _, _] 0 6 agg28 z0 ?_
 obtain ⟨x124, hx124, hM⟩ := bnd hM
 refine At.cv ent42 (m42_ok x0 h0_3 h0_4 h0_5 hx124) ?_
 rintro _ _ _ ⟨rfl, rfl, rfl⟩
 refine vs 1 ?_
 refine er ?_
 refine sc hM (fun ht128 hM => ?_) (fun ht128 hM => ?_)
 ·refine sg rg2 ?_
  obtain ⟨x129, hx129, hM⟩ := bnd hM
  refine At.cv ent19 (m19_ok  hG hK hx129) ?_
  rintro _ Rx129 _ ⟨hRx129, rfl, rfl⟩
  refine vs 1 ?_
  refine er ?_
  obtain rfl := sinj hM
  exact At.retT Tryz.func7 (by kernel_rfl) (.tmp rfl .nil) (so sr) hk ⟨hRx129, rfl, rfl⟩
 refine sp ?_
 refine sg rg9 ?_
 refine lN [_, _, _, _, _, _] 0 6 agg28 z0 ?_
 obtain ⟨x130, hx130, hM⟩ := bnd hM
 refine At.cv ent27 (m27_ok x0 hG hK h0_3 h0_4 h0_5 hx130) ?_
 rintro _ Rx130 _ ⟨hRx130, rfl, vx130r0, hx130r0, rfl⟩
 replace h0_3 := h0_3.mono hRx130
 replace h0_4 := h0_4.mono hRx130
 replace h0_5 := h0_5.mono hRx130
 replace h1 := h1.le hRx130
 replace hG := hG.mono hRx130
 refine vs 7 ?_
 refine nx rg7 ?_
 refine lN [_, _, _, _, _, _] 0 6 agg28 z0 ?_
 obtain ⟨x131, hx131, hM⟩ := bnd hM
 refine At.cv ent25 (m25_ok x0 hG hK h0_3 h0_4 h0_5 hx131) ?_
 rintro _ Rx131 _ ⟨hRx131, rfl, rfl⟩
 replace h0_3 := h0_3.mono hRx131
 replace h0_4 := h0_4.mono hRx131
 replace h0_5 := h0_5.mono hRx131
 replace h1 := h1.le hRx131
 replace hG := hG.mono hRx131
 replace hx130r0 := hx130r0.mono hRx131
 refine vs 5 ?_
 refine nx rg7 ?_
 refine lN [_, _, _, _, _, _] 0 6 agg28 z0 ?_
 obtain ⟨x132, hx132, hM⟩ := bnd hM
 refine At.cv ent44 (m44_ok x0 hG h0_3 h0_4 h0_5 hx132) ?_
 rintro _ Rx132 _ ⟨hRx132, rfl, rfl⟩
 replace h0_3 := h0_3.mono hRx132
 replace h0_4 := h0_4.mono hRx132
 replace h0_5 := h0_5.mono hRx132
 replace h1 := h1.le hRx132
 replace hG := hG.mono hRx132
 replace hx130r0 := hx130r0.mono hRx132
 refine vs 5 ?_
 refine nx rg7 ?_
 refine lN [_, _, _, _, _, _] 0 6 agg28 z0 ?_
 obtain ⟨x133, hx133, hM⟩ := bnd hM
 refine At.cv ent20 (m20_ok x0 hG hK h0_3 h0_4 h0_5 hx133) ?_
 rintro _ Rx133 _ ⟨hRx133, rfl, vx133r0, hx133r0, rfl⟩
 replace h0_3 := h0_3.mono hRx133
 replace h0_4 := h0_4.mono hRx133
 replace h0_5 := h0_5.mono hRx133
 replace h1 := h1.le hRx133
 replace hG := hG.mono hRx133
 replace hx130r0 := hx130r0.mono hRx133
 refine vs 5 ?_
 refine nx rg7 ?_
 refine lN [_, _, _, _, _, _] 0 6 agg28 z0 ?_
 obtain ⟨x134, hx134, hM⟩ := bnd hM
 refine At.cv ent53 (m53_ok x0 hG h0_3 h0_4 h0_5 hx134) ?_
 rintro _ Rx134 _ ⟨hRx134, rfl, vx134r0, hx134r0, rfl⟩
 replace h0_3 := h0_3.mono hRx134
 replace h0_4 := h0_4.mono hRx134
 replace h0_5 := h0_5.mono hRx134
 replace h1 := h1.le hRx134
 replace hG := hG.mono hRx134
 replace hx130r0 := hx130r0.mono hRx134
 replace hx133r0 := hx133r0.mono hRx134
 refine vs 5 ?_
 refine es ?_
 refine sq ?_
 refine At.joinE1 hM (fun (p135_0 : Bool) R' H' st' => Rx134 = R' ∧ H' = (b123, .cells #[iv x0.Limit, iv x0.Ballast.Least, iv x0.Ballast.Most, v0_3, v0_4, v0_5] 28) :: H ∧ SubL st' [(1, v1), (2, .int .u8 x2), (3, .pointer (some ⟨b123, 0, none⟩)), (7, vx130r0), (8, .bool x130.2.1), (9, iv x130.2.2), (14, vx133r0), (16, vx134r0), (83, .bool p135_0)])  ?_ ?_
 rotate_right
 ·intro x135 hM ex135_0
  refine At.rg rg29 ?_
  refine vs 4 ?_
  refine selC hM (fun ht141 hM => ?_) (fun ht141 hM => ?_)
  ·refine At.kn 58 ht141 ?_
   refine vs 25 ?_
   refine er ?_
   exact ex135_0 _ (sinj hM).symm _ _ _ ⟨rfl, rfl, SubT.sub ⟨rfl, rfl, rfl, rfl, rfl, rfl, rfl, rfl, rfl, trivial⟩⟩
  refine At.kn 58 ht141 ?_
  refine vs 5 ?_
  refine selC hM (fun ht142 hM => ?_) (fun ht142 hM => ?_)
  ·refine At.kn 63 ht142 ?_
   refine vs 20 ?_
   refine er ?_
   exact ex135_0 _ (sinj hM).symm _ _ _ ⟨rfl, rfl, SubT.sub ⟨rfl, rfl, rfl, rfl, rfl, rfl, rfl, rfl, rfl, trivial⟩⟩
  refine At.kn 63 ht142 ?_
  refine vs 4 ?_
  refine selC hM (fun ht143 hM => ?_) (fun ht143 hM => ?_)
  ·refine At.kn 67 ht143 ?_
   refine vs 16 ?_
   refine er ?_
   exact ex135_0 _ (sinj hM).symm _ _ _ ⟨rfl, rfl, SubT.sub ⟨rfl, rfl, rfl, rfl, rfl, rfl, rfl, rfl, rfl, trivial⟩⟩
  refine At.kn 67 ht143 ?_
  refine vs 4 ?_
  refine selC hM (fun ht144 hM => ?_) (fun ht144 hM => ?_)
  ·refine At.kn 71 ht144 ?_
   refine vs 12 ?_
   refine er ?_
   exact ex135_0 _ (sinj hM).symm _ _ _ ⟨rfl, rfl, SubT.sub ⟨rfl, rfl, rfl, rfl, rfl, rfl, rfl, rfl, rfl, trivial⟩⟩
  refine At.kn 71 ht144 ?_
  refine vs 4 ?_
  refine At.s rfl rfl (Ox.cmpBool rfl rfl rfl Tryz.underlying4 rfl rfl (.put rfl) ?_)
  refine vs 2 ?_
  refine selC hM (fun ht145 hM => ?_) (fun ht145 hM => ?_)
  ·refine At.kn 78 ht145 ?_
   refine vs 5 ?_
   refine er ?_
   exact ex135_0 _ (sinj hM).symm _ _ _ ⟨rfl, rfl, SubT.sub ⟨rfl, rfl, rfl, rfl, rfl, rfl, rfl, rfl, rfl, trivial⟩⟩
  refine At.kn 78 ht145 ?_
  refine vs 3 ?_
  refine At.s rfl rfl (Ox.cmpBool rfl rfl rfl Tryz.underlying4 rfl rfl (.put rfl) ?_)
  refine vs 1 ?_
  refine er ?_
  exact ex135_0 _ (sinj hM).symm _ _ _ ⟨rfl, rfl, SubT.sub ⟨rfl, rfl, rfl, rfl, rfl, rfl, rfl, rfl, rfl, trivial⟩⟩
 rintro p135_0 R135_0 H135_0 st135_0 ⟨rfl, rfl, hst135_0⟩ hM
 refine At.sub hst135_0 ?_
 refine sc hM (fun ht148 hM => ?_) (fun ht148 hM => ?_)
 ·refine sg rg1 ?_
  refine vs 1 ?_
  refine er ?_
  obtain rfl := sinj hM
  exact At.retT Tryz.func7 (by kernel_rfl) (.tmp rfl .nil) (so sr) hk ⟨((((hRx130.trans hRx131).trans hRx132).trans hRx133).trans hRx134), rfl, rfl⟩
 refine sp ?_
 refine sq ?_
 refine sg rg2 ?_
 refine vs 2 ?_
 refine er ?_
 refine sc hM (fun ht154 hM => ?_) (fun ht154 hM => ?_)
 ·refine sq ?_
  refine At.joinE1 hM (fun (p155_0 : Bool) R' H' st' => RLe Rx134 R' ∧ H = H' ∧ SubL st' [(6, .bool p155_0)])  ?_ ?_
  rotate_right
  ·intro x155 hM ex155_0
   refine At.rg rg14 ?_
   refine vs 3 ?_
   refine selC hM (fun ht159 hM => ?_) (fun ht159 hM => ?_)
   ·refine At.kn 88 ht159 ?_
    refine vs 1 ?_
    refine ls hx130r0 Tryz.underlying25 ?_
    refine vs 1 ?_
    refine ls hx133r0 Tryz.underlying25 ?_
    refine vs 4 ?_
    refine selC hM (fun ht160 hM => ?_) (fun ht160 hM => ?_)
    ·refine At.kn 96 ht160 ?_
     obtain ⟨x161, hx161, hM⟩ := bnd hM
     refine At.cv ent19 (m19_ok  hG hK hx161) ?_
     rintro _ Rx161 _ ⟨hRx161, rfl, rfl⟩
     refine vs 2 ?_
     refine er ?_
     exact At.drop (so sr) (ex155_0 _ (sinj hM).symm _ _ _ ⟨hRx161, rfl, SubT.sub ⟨rfl, trivial⟩⟩)
    refine At.kn 96 ht160 ?_
    refine vs 3 ?_
    refine er ?_
    exact At.drop (so sr) (ex155_0 _ (sinj hM).symm _ _ _ ⟨(rr), rfl, SubT.sub ⟨rfl, trivial⟩⟩)
   refine At.kn 88 ht159 ?_
   refine vs 11 ?_
   refine er ?_
   exact At.drop (so sr) (ex155_0 _ (sinj hM).symm _ _ _ ⟨(rr), rfl, SubT.sub ⟨rfl, trivial⟩⟩)
  rintro p155_0 R155_0 H155_0 st155_0 ⟨hR155_0, rfl, hst155_0⟩ hM
  refine At.sub hst155_0 ?_
  obtain rfl := sinj hM
  exact At.retT Tryz.func7 (by kernel_rfl) (.tmp rfl .nil) sr hk ⟨(((((hRx130.trans hRx131).trans hRx132).trans hRx133).trans hRx134).trans hR155_0), rfl, rfl⟩
 refine sp ?_
 refine sg rg4 ?_
 refine lN [_, _, _, _, _, _] 0 6 agg28 z0 ?_
 refine vs 1 ?_
 obtain ⟨x162, hx162, hM⟩ := bnd hM
 refine At.cv ent54 (m54_ok x0 x1 h0_3 h0_4 h0_5 (h1.sub (su (so sr))) hx162) ?_
 rintro vx162r0 Rx162 _ ⟨hRx162, rfl, _, hx162r0, rfl⟩
 replace h0_3 := h0_3.mono hRx162
 replace h0_4 := h0_4.mono hRx162
 replace h0_5 := h0_5.mono hRx162
 replace h1 := h1.le hRx162
 replace hG := hG.mono hRx162
 replace hx130r0 := hx130r0.mono hRx162
 replace hx133r0 := hx133r0.mono hRx162
 replace hx134r0 := hx134r0.mono hRx162
 refine vs 1 ?_
 refine nx rg8 ?_
 refine lN [_, _, _, _, _, _] 0 6 agg28 z0 ?_
 refine vs 1 ?_
 obtain ⟨x163, hx163, hM⟩ := bnd hM
 refine At.cv ent23 (m23_ok x0 x162 hG h0_3 h0_4 h0_5 hx162r0 hx163) ?_
 rintro _ Rx163 _ ⟨hRx163, rfl, rfl⟩
 replace h0_3 := h0_3.mono hRx163
 replace h0_4 := h0_4.mono hRx163
 replace h0_5 := h0_5.mono hRx163
 replace hG := hG.mono hRx163
 replace hx130r0 := hx130r0.mono hRx163
 replace hx133r0 := hx133r0.mono hRx163
 replace hx134r0 := hx134r0.mono hRx163
 replace hx162r0 := hx162r0.mono hRx163
 refine vs 5 ?_
 refine es ?_
 refine sq ?_
 refine At.joinE1 hM (fun (p164_0 : Bool) R' H' st' => Rx163 = R' ∧ H' = (b123, .cells #[iv x0.Limit, iv x0.Ballast.Least, iv x0.Ballast.Most, v0_3, v0_4, v0_5] 28) :: H ∧ SubL st' [(2, .int .u8 x2), (3, .pointer (some ⟨b123, 0, none⟩)), (7, vx130r0), (8, .bool x130.2.1), (14, vx133r0), (16, vx134r0), (122, .bool p164_0)])  ?_ ?_
 rotate_right
 ·intro x164 hM ex164_0
  refine At.rg rg15 ?_
  refine vs 3 ?_
  refine selC hM (fun ht169 hM => ?_) (fun ht169 hM => ?_)
  ·refine At.kn 110 ht169 ?_
   refine vs 12 ?_
   refine er ?_
   exact ex164_0 _ (sinj hM).symm _ _ _ ⟨rfl, rfl, SubT.sub ⟨rfl, rfl, rfl, rfl, rfl, rfl, rfl, trivial⟩⟩
  refine At.kn 110 ht169 ?_
  refine vs 3 ?_
  refine selC hM (fun ht170 hM => ?_) (fun ht170 hM => ?_)
  ·refine At.kn 113 ht170 ?_
   refine vs 3 ?_
   refine selC hM (fun ht171 hM => ?_) (fun ht171 hM => ?_)
   ·refine At.kn 116 ht171 ?_
    refine vs 6 ?_
    refine er ?_
    exact ex164_0 _ (sinj hM).symm _ _ _ ⟨rfl, rfl, SubT.sub ⟨rfl, rfl, rfl, rfl, rfl, rfl, rfl, trivial⟩⟩
   refine At.kn 116 ht171 ?_
   refine vs 2 ?_
   obtain ⟨x172, hx172, hM⟩ := bnd hM
   refine At.cv ent55 (m55_ok x162 x130.1 hx162r0.rd hx130r0.rd hx172) ?_
   rintro _ _ _ ⟨rfl, rfl, rfl⟩
   refine vs 3 ?_
   refine er ?_
   exact ex164_0 _ (sinj hM).symm _ _ _ ⟨rfl, rfl, SubT.sub ⟨rfl, rfl, rfl, rfl, rfl, rfl, rfl, trivial⟩⟩
  refine At.kn 113 ht170 ?_
  refine vs 9 ?_
  refine er ?_
  exact ex164_0 _ (sinj hM).symm _ _ _ ⟨rfl, rfl, SubT.sub ⟨rfl, rfl, rfl, rfl, rfl, rfl, rfl, trivial⟩⟩
 rintro p164_0 R164_0 H164_0 st164_0 ⟨rfl, rfl, hst164_0⟩ hM
 refine At.sub hst164_0 ?_
 refine sc hM (fun ht175 hM => ?_) (fun ht175 hM => ?_)
 ·refine sg rg1 ?_
  refine vs 1 ?_
  refine er ?_
  obtain rfl := sinj hM
  exact At.retT Tryz.func7 (by kernel_rfl) (.tmp rfl .nil) (so sr) hk ⟨((((((hRx130.trans hRx131).trans hRx132).trans hRx133).trans hRx134).trans hRx162).trans hRx163), rfl, rfl⟩
 refine sp ?_
 refine sg rg7 ?_
 refine vs 1 ?_
 refine At.s rfl rfl (Ox.convI rfl rfl Tryz.underlying5 Tryz.underlying3 rfl (.put rfl) ?_)
 refine vs 1 ?_
 refine ld 3 one24 z0 ?_
 refine ls h0_3 Tryz.underlying24 ?_
 obtain ⟨x176, hx176, hM⟩ := bnd hM
 refine At.s rfl rfl (Ox.rem rfl rfl rfl hx176 rfl (.put rfl) ?_)
 refine vs 1 ?_
 refine es ?_
 refine sg rg3 ?_
 refine vs 2 ?_
 obtain ⟨x177, hx177, hM⟩ := bnd hM
 refine At.cv ent47 (m47_ok x134.1 x176 hx134r0.rd hx177) ?_
 rintro _ _ _ ⟨rfl, rfl, rfl⟩
 refine er ?_
 refine At.joinE1R hM (fun (p178_0 : Unit) R' H' st' => RLe Rx163 R' ∧ H' = (b123, .cells #[iv x0.Limit, iv x0.Ballast.Least, iv x0.Ballast.Most, v0_3, v0_4, v0_5] 28) :: H ∧ SubL st' [(3, .pointer (some ⟨b123, 0, none⟩)), (7, vx130r0), (8, .bool x130.2.1), (14, vx133r0)])  ?_ ?_
 rotate_right
 ·intro x178 hM ex178_0 out178
  refine sc hM (fun ht192 hM => ?_) (fun ht192 hM => ?_)
  ·refine sq ?_
   obtain ⟨x194, hx194, hM⟩ := bnd hM
   obtain ⟨x196, hx196, hM⟩ := bnd hM
   obtain ⟨x197, hx197, hM⟩ := bnd hM
   obtain ⟨x198, hx198, hM⟩ := bnd hM
   refine At.cut (fun R' H' st' => RLe Rx163 R' ∧ H' = (b123, .cells #[iv x0.Limit, iv x0.Ballast.Least, iv x0.Ballast.Most, v0_3, v0_4, v0_5] 28) :: H ∧ SubL st' [(3, .pointer (some ⟨b123, 0, none⟩)), (7, vx130r0), (8, .bool x130.2.1), (14, vx133r0), (21, iv x176), (22, iv x198.1), (23, iv x198.2)]) ?_ ?_
   ·rintro Rc199 Hc199 stc199 ⟨hRc199, rfl, hstc199⟩
    refine At.sub hstc199 ?_
    replace hx133r0 := hx133r0.mono hRc199
    refine sg rg10 ?_
    refine vs 3 ?_
    refine selC hM (fun ht200 hM => ?_) (fun ht200 hM => ?_)
    ·refine At.kn 147 ht200 ?_
     refine vs 7 ?_
     refine er ?_
     refine At.cond_true rfl ?_
     refine sg rg1 ?_
     refine vs 1 ?_
     refine er ?_
     replace hM := out178 _ (sinj hM).symm
     obtain rfl := sinj hM
     exact At.retT Tryz.func7 (by kernel_rfl) (.tmp rfl .nil) (so sr) hk ⟨(((((((hRx130.trans hRx131).trans hRx132).trans hRx133).trans hRx134).trans hRx162).trans hRx163).trans hRc199), rfl, rfl⟩
    refine At.kn 147 ht200 ?_
    refine vs 2 ?_
    obtain ⟨x201, hx201, hM⟩ := bnd hM
    refine At.cv ent47 (m47_ok x133.1 x176 hx133r0.rd hx201) ?_
    rintro _ _ _ ⟨rfl, rfl, rfl⟩
    refine vs 2 ?_
    refine At.s rfl rfl (Ox.cmpBool rfl rfl rfl Tryz.underlying4 rfl rfl (.put rfl) ?_)
    refine vs 1 ?_
    refine er ?_
    refine sc hM (fun ht202 hM => ?_) (fun ht202 hM => ?_)
    ·refine sg rg1 ?_
     refine vs 1 ?_
     refine er ?_
     replace hM := out178 _ (sinj hM).symm
     obtain rfl := sinj hM
     exact At.retT Tryz.func7 (by kernel_rfl) (.tmp rfl .nil) (so sr) hk ⟨(((((((hRx130.trans hRx131).trans hRx132).trans hRx133).trans hRx134).trans hRx162).trans hRx163).trans hRc199), rfl, rfl⟩
    refine sp ?_
    exact ex178_0 _ (sinj hM).symm _ _ _ ⟨hRc199, rfl, SubT.sub ⟨rfl, rfl, rfl, rfl, trivial⟩⟩
   intro hcut199
   refine At.dw rg15 mixed ?_
   refine tN 0 [_, _, _, _, _, _] 0 6 agg28 z0 ?_
   refine Any.vs 1 [2] rfl ?_
   refine tl 3 4 one25 z0 ?_
   refine Any.vs 1 [5] rfl ?_
   refine tw 1 6 ?_ ?_
   ·refine  (SemTo.to (Ox.buildSlice (cells := #[]) rfl elem25 rfl (by decide) base25_0 fill_nil rfl fun b193 _ _ => ⟨_, (.put rfl), ⟨rr, (ku (so sr)), ?_⟩⟩))
    refine tw 4 6 ?_ ?_
    ·refine  (SemTo.to (Ox.append (K := CZ) (fun X => X ++ ((b123, _) :: H)) rfl rfl rfl app25 Tryz.underlying25 (by simp) .id (OwnSl.lit (Enc.le Enc.nil rfl) rfl) h0_4.arg hx194 rfl fun vx194 Hsx194 hox194 => ⟨_, (.put rfl), ⟨rr, (ku (subDrop sr)), ?_⟩⟩))
     refine Any.on 6 rfl rfl (SemTo.to (Ox.buildSlice (cells := #[_]) rfl elem25 rfl (by decide) base25_1 (fill_cons rfl rfl rfl rfl fill_nil) rfl fun b195 _ _ => ⟨_, (.put rfl), ⟨rr, (ku (so (subDrop sr))), ?_⟩⟩))
     refine Any.on 7 rfl rfl (SemTo.to (Ox.append (K := CZ) (fun X => (b195, _) :: X ++ ((b123, _) :: H)) rfl rfl rfl app25 Tryz.underlying25 (by simp) (.cons .id) hox194 (ArgSl.lit z0 (Enc.le (Enc.cons (x := x176) rfl rfl Enc.nil) rfl) rfl) hx196 rfl fun vx196 Hsx196 hox196 => ⟨_, (.put rfl), ⟨rr, (ku (so (subDrop sr))), ?_⟩⟩))
     refine Any.cv 8 ent51 (m51_ok x196 (hox196.rd (fun _ h => (.tail _ (List.mem_append_left _ h)))) hx197) ?_
     rintro vx197r0 Rx197 _ ⟨hRx197, rfl, _, hx197r0, rfl⟩
     replace h0_3 := h0_3.mono hRx197
     replace h0_4 := h0_4.mono hRx197
     replace h0_5 := h0_5.mono hRx197
     replace hG := hG.mono hRx197
     refine ⟨hRx197, (ku (so (subDrop sr))), ?_⟩
     refine Any.cv 9 ent56 (m56_ok x0 x197 hG h0_3 h0_4 h0_5 hx197r0 hx198) ?_
     rintro _ Rx198 _ ⟨hRx198, rfl, rfl⟩
     refine ⟨hRx198, (ku (so (subDrop sr))), ?_⟩
     refine Any.vs 5 [10, 11, 12, 13, 14] rfl ?_
     exact Any.done (At.drop (so (subDrop sr)) (hcut199 _ _ _ ⟨(hRx197.trans hRx198), rfl, SubT.sub ⟨rfl, rfl, rfl, rfl, rfl, rfl, rfl, trivial⟩⟩))
    refine  (SemTo.to (Ox.buildSlice (cells := #[_]) rfl elem25 rfl (by decide) base25_1 (fill_cons rfl rfl rfl rfl fill_nil) rfl fun b195 _ _ => ⟨_, (.put rfl), ⟨rr, (ku (so (so sr))), ?_⟩⟩))
    refine Any.on 4 rfl rfl (SemTo.to (Ox.append (K := CZ) (fun X => (b195, _) :: X ++ ((b123, _) :: H)) rfl rfl rfl app25 Tryz.underlying25 (by simp) (.cons .id) (OwnSl.lit (Enc.le Enc.nil rfl) rfl) h0_4.arg hx194 rfl fun vx194 Hsx194 hox194 => ⟨_, (.put rfl), ⟨rr, (ku (so (subDrop sr))), ?_⟩⟩))
    refine Any.on 7 rfl rfl (SemTo.to (Ox.append (K := CZ) (fun X => (b195, _) :: X ++ ((b123, _) :: H)) rfl rfl rfl app25 Tryz.underlying25 (by simp) (.cons .id) hox194 (ArgSl.lit z0 (Enc.le (Enc.cons (x := x176) rfl rfl Enc.nil) rfl) rfl) hx196 rfl fun vx196 Hsx196 hox196 => ⟨_, (.put rfl), ⟨rr, (ku (so (subDrop sr))), ?_⟩⟩))
    refine Any.cv 8 ent51 (m51_ok x196 (hox196.rd (fun _ h => (.tail _ (List.mem_append_left _ h)))) hx197) ?_
    rintro vx197r0 Rx197 _ ⟨hRx197, rfl, _, hx197r0, rfl⟩
    replace h0_3 := h0_3.mono hRx197
    replace h0_4 := h0_4.mono hRx197
    replace h0_5 := h0_5.mono hRx197
    replace hG := hG.mono hRx197
    refine ⟨hRx197, (ku (so (subDrop sr))), ?_⟩
    refine Any.cv 9 ent56 (m56_ok x0 x197 hG h0_3 h0_4 h0_5 hx197r0 hx198) ?_
    rintro _ Rx198 _ ⟨hRx198, rfl, rfl⟩
    refine ⟨hRx198, (ku (so (subDrop sr))), ?_⟩
    refine Any.vs 5 [10, 11, 12, 13, 14] rfl ?_
    exact Any.done (At.drop (so (subDrop sr)) (hcut199 _ _ _ ⟨(hRx197.trans hRx198), rfl, SubT.sub ⟨rfl, rfl, rfl, rfl, rfl, rfl, rfl, trivial⟩⟩))
   refine  (SemTo.to (Ox.buildSlice (cells := #[_]) rfl elem25 rfl (by decide) base25_1 (fill_cons rfl rfl rfl rfl fill_nil) rfl fun b195 _ _ => ⟨_, (.put rfl), ⟨rr, (ku (so sr)), ?_⟩⟩))
   refine Any.on 1 rfl rfl (SemTo.to (Ox.buildSlice (cells := #[]) rfl elem25 rfl (by decide) base25_0 fill_nil rfl fun b193 _ _ => ⟨_, (.put rfl), ⟨rr, (ku (so (so sr))), ?_⟩⟩))
   refine Any.on 4 rfl rfl (SemTo.to (Ox.append (K := CZ) (fun X => X ++ ((b195, _) :: (b123, _) :: H)) rfl rfl rfl app25 Tryz.underlying25 (by simp) .id (OwnSl.lit (Enc.le Enc.nil rfl) rfl) h0_4.arg hx194 rfl fun vx194 Hsx194 hox194 => ⟨_, (.put rfl), ⟨rr, (ku (subDrop (so sr))), ?_⟩⟩))
   refine Any.on 7 rfl rfl (SemTo.to (Ox.append (K := CZ) (fun X => X ++ ((b195, _) :: (b123, _) :: H)) rfl rfl rfl app25 Tryz.underlying25 (by simp) .id hox194 (ArgSl.lit (List.mem_append_right _ z0) (Enc.le (Enc.cons (x := x176) rfl rfl Enc.nil) rfl) rfl) hx196 rfl fun vx196 Hsx196 hox196 => ⟨_, (.put rfl), ⟨rr, (ku (subDrop (so sr))), ?_⟩⟩))
   refine Any.cv 8 ent51 (m51_ok x196 (hox196.rd (fun _ h => (List.mem_append_left _ h))) hx197) ?_
   rintro vx197r0 Rx197 _ ⟨hRx197, rfl, _, hx197r0, rfl⟩
   replace h0_3 := h0_3.mono hRx197
   replace h0_4 := h0_4.mono hRx197
   replace h0_5 := h0_5.mono hRx197
   replace hG := hG.mono hRx197
   refine ⟨hRx197, (ku (subDrop (so sr))), ?_⟩
   refine Any.cv 9 ent56 (m56_ok x0 x197 hG h0_3 h0_4 h0_5 hx197r0 hx198) ?_
   rintro _ Rx198 _ ⟨hRx198, rfl, rfl⟩
   refine ⟨hRx198, (ku (subDrop (so sr))), ?_⟩
   refine Any.vs 5 [10, 11, 12, 13, 14] rfl ?_
   exact Any.done (At.drop (subDrop (so sr)) (hcut199 _ _ _ ⟨(hRx197.trans hRx198), rfl, SubT.sub ⟨rfl, rfl, rfl, rfl, rfl, rfl, rfl, trivial⟩⟩))
  refine sg rg3 ?_
  refine vs 2 ?_
  obtain ⟨x203, hx203, hM⟩ := bnd hM
  refine At.cv ent47 (m47_ok x133.1 x176 hx133r0.rd hx203) ?_
  rintro _ _ _ ⟨rfl, rfl, rfl⟩
  refine er ?_
  refine sc hM (fun ht204 hM => ?_) (fun ht204 hM => ?_)
  ·refine sg rg1 ?_
   refine vs 1 ?_
   refine er ?_
   replace hM := out178 _ (sinj hM).symm
   obtain rfl := sinj hM
   exact At.retT Tryz.func7 (by kernel_rfl) (.tmp rfl .nil) (so sr) hk ⟨((((((hRx130.trans hRx131).trans hRx132).trans hRx133).trans hRx134).trans hRx162).trans hRx163), rfl, rfl⟩
  refine sp ?_
  exact ex178_0 _ (sinj hM).symm _ _ _ ⟨(rr), rfl, SubT.sub ⟨rfl, rfl, rfl, rfl, trivial⟩⟩
 rintro p178_0 R178_0 H178_0 st178_0 ⟨hR178_0, rfl, hst178_0⟩ hM
 refine At.sub hst178_0 ?_
 replace h0_3 := h0_3.mono hR178_0
 replace h0_4 := h0_4.mono hR178_0
 replace h0_5 := h0_5.mono hR178_0
 replace hG := hG.mono hR178_0
 replace hx130r0 := hx130r0.mono hR178_0
 replace hx133r0 := hx133r0.mono hR178_0
 refine sq ?_
 refine sg rg2 ?_
 refine vs 2 ?_
 refine er ?_
 refine sc hM (fun ht209 hM => ?_) (fun ht209 hM => ?_)
 ·refine sq ?_
  refine At.joinE1 hM (fun (p210_0 : Bool) R' H' st' => RLe R178_0 R' ∧ H = H' ∧ SubL st' [(6, .bool p210_0)])  ?_ ?_
  rotate_right
  ·intro x210 hM ex210_0
   refine At.rg rg7 ?_
   refine vs 1 ?_
   refine ls hx130r0 Tryz.underlying25 ?_
   refine vs 2 ?_
   refine selC hM (fun ht213 hM => ?_) (fun ht213 hM => ?_)
   ·refine At.kn 163 ht213 ?_
    obtain ⟨x214, hx214, hM⟩ := bnd hM
    refine At.cv ent19 (m19_ok  hG hK hx214) ?_
    rintro _ Rx214 _ ⟨hRx214, rfl, rfl⟩
    refine vs 2 ?_
    refine er ?_
    exact At.drop (so sr) (ex210_0 _ (sinj hM).symm _ _ _ ⟨hRx214, rfl, SubT.sub ⟨rfl, trivial⟩⟩)
   refine At.kn 163 ht213 ?_
   refine vs 3 ?_
   refine er ?_
   exact At.drop (so sr) (ex210_0 _ (sinj hM).symm _ _ _ ⟨(rr), rfl, SubT.sub ⟨rfl, trivial⟩⟩)
  rintro p210_0 R210_0 H210_0 st210_0 ⟨hR210_0, rfl, hst210_0⟩ hM
  refine At.sub hst210_0 ?_
  obtain rfl := sinj hM
  exact At.retT Tryz.func7 (by kernel_rfl) (.tmp rfl .nil) sr hk ⟨((((((((hRx130.trans hRx131).trans hRx132).trans hRx133).trans hRx134).trans hRx162).trans hRx163).trans hR178_0).trans hR210_0), rfl, rfl⟩
 refine sp ?_
 refine sg rg8 ?_
 refine lN [_, _, _, _, _, _] 0 6 agg28 z0 ?_
 refine vs 1 ?_
 obtain ⟨x215, hx215, hM⟩ := bnd hM
 refine At.cv ent23 (m23_ok x0 x130.1 hG h0_3 h0_4 h0_5 hx130r0 hx215) ?_
 rintro _ Rx215 _ ⟨hRx215, rfl, rfl⟩
 replace h0_3 := h0_3.mono hRx215
 replace h0_4 := h0_4.mono hRx215
 replace h0_5 := h0_5.mono hRx215
 replace hG := hG.mono hRx215
 replace hx130r0 := hx130r0.mono hRx215
 replace hx133r0 := hx133r0.mono hRx215
 refine vs 5 ?_
 refine nx rg27 ?_
 refine vs 3 ?_
 refine selC hM (fun ht216 hM => ?_) (fun ht216 hM => ?_)
 ·refine At.kn 174 ht216 ?_
  refine vs 4 ?_
  refine selC hM (fun ht217 hM => ?_) (fun ht217 hM => ?_)
  ·refine At.kn 178 ht217 ?_
   refine lN [_, _, _, _, _, _] 0 6 agg28 z0 ?_
   refine vs 1 ?_
   obtain ⟨x218, hx218, hM⟩ := bnd hM
   refine At.cv ent57 (m57_ok x0 x130.1 h0_3 h0_4 h0_5 hx130r0.rd hx218) ?_
   rintro _ _ _ ⟨rfl, rfl, rfl⟩
   refine vs 2 ?_
   refine selC hM (fun ht219 hM => ?_) (fun ht219 hM => ?_)
   ·refine At.kn 183 ht219 ?_
    refine vs 1 ?_
    refine ls hx130r0 Tryz.underlying25 ?_
    refine vs 2 ?_
    refine selC hM (fun ht220 hM => ?_) (fun ht220 hM => ?_)
    ·refine At.kn 187 ht220 ?_
     refine vs 8 ?_
     obtain ⟨x221, hx221, hM⟩ := bnd hM
     refine At.cv ent19 (m19_ok  hG hK hx221) ?_
     rintro _ Rx221 _ ⟨hRx221, rfl, rfl⟩
     refine vs 2 ?_
     refine er ?_
     obtain rfl := sinj hM
     exact At.retT Tryz.func7 (by kernel_rfl) (.tmp rfl .nil) (so sr) hk ⟨(((((((((hRx130.trans hRx131).trans hRx132).trans hRx133).trans hRx134).trans hRx162).trans hRx163).trans hR178_0).trans hRx215).trans hRx221), rfl, rfl⟩
    refine At.kn 187 ht220 ?_
    refine vs 2 ?_
    obtain ⟨x222, hx222, hM⟩ := bnd hM
    obtain ⟨x223, hx223, hM⟩ := bnd hM
    refine selC hM (fun ht224 hM => ?_) (fun ht224 hM => ?_)
    ·obtain ⟨x225, hx225, hM⟩ := bnd hM
     obtain ⟨bx222, ox222, _, rfl, hcx222, hix222⟩ := hx130r0.elem slice25 hx222
     refine At.s rfl rfl (Ox.indexV rfl rfl rfl hix222 rfl (.put rfl) ?_)
     refine At.ld one3 (hcx222.any.one (j := 0) rfl) ?_
     refine At.cv ent47 (m47_ok x133.1 x222 hx133r0.rd hx223) ?_
     rintro _ _ _ ⟨rfl, rfl, rfl⟩
     refine vs 3 ?_
     refine At.kn 195 ht224 ?_
     refine At.cv ent19 (m19_ok  hG hK hx225) ?_
     rintro _ Rx225 _ ⟨hRx225, rfl, rfl⟩
     replace hcx222 := hcx222.up (H := []) hRx225
     refine vs 2 ?_
     refine er ?_
     obtain rfl := sinj hM
     exact At.retT Tryz.func7 (by kernel_rfl) (.tmp rfl .nil) (so sr) hk ⟨(((((((((hRx130.trans hRx131).trans hRx132).trans hRx133).trans hRx134).trans hRx162).trans hRx163).trans hR178_0).trans hRx215).trans hRx225), rfl, rfl⟩
    obtain ⟨bx222, ox222, _, rfl, hcx222, hix222⟩ := hx130r0.elem slice25 hx222
    refine At.s rfl rfl (Ox.indexV rfl rfl rfl hix222 rfl (.put rfl) ?_)
    refine At.ld one3 (hcx222.any.one (j := 0) rfl) ?_
    refine At.cv ent47 (m47_ok x133.1 x222 hx133r0.rd hx223) ?_
    rintro _ _ _ ⟨rfl, rfl, rfl⟩
    refine vs 3 ?_
    refine At.kn 195 ht224 ?_
    refine vs 3 ?_
    refine er ?_
    obtain rfl := sinj hM
    exact At.retT Tryz.func7 (by kernel_rfl) (.tmp rfl .nil) (so sr) hk ⟨((((((((hRx130.trans hRx131).trans hRx132).trans hRx133).trans hRx134).trans hRx162).trans hRx163).trans hR178_0).trans hRx215), rfl, rfl⟩
   refine At.kn 183 ht219 ?_
   refine vs 15 ?_
   refine er ?_
   obtain rfl := sinj hM
   exact At.retT Tryz.func7 (by kernel_rfl) (.tmp rfl .nil) (so sr) hk ⟨((((((((hRx130.trans hRx131).trans hRx132).trans hRx133).trans hRx134).trans hRx162).trans hRx163).trans hR178_0).trans hRx215), rfl, rfl⟩
  refine At.kn 178 ht217 ?_
  refine vs 20 ?_
  refine er ?_
  obtain rfl := sinj hM
  exact At.retT Tryz.func7 (by kernel_rfl) (.tmp rfl .nil) (so sr) hk ⟨((((((((hRx130.trans hRx131).trans hRx132).trans hRx133).trans hRx134).trans hRx162).trans hRx163).trans hR178_0).trans hRx215), rfl, rfl⟩
 refine At.kn 174 ht216 ?_
 refine vs 24 ?_
 refine er ?_
 obtain rfl := sinj hM
 exact At.retT Tryz.func7 (by kernel_rfl) (.tmp rfl .nil) (so sr) hk ⟨((((((((hRx130.trans hRx131).trans hRx132).trans hRx133).trans hRx134).trans hRx162).trans hRx163).trans hR178_0).trans hRx215), rfl, rfl⟩
end
end Go.Proofs.YtabamagholjdcaaGreatDoor
