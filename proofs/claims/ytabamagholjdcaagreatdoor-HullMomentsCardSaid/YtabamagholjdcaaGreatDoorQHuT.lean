/- Walks, part 9: each function computes its model. -/
import Derived.Test.YtabamagholjdcaaGreatDoorQHuP9
import Derived.Test.YtabamagholjdcaaGreatDoorQLgTop
namespace Go.Proofs.YtabamagholjdcaaGreatDoor
open Go.Lg Go.Proofs
set_option maxRecDepth 100000
set_option maxHeartbeats 4000000
section
variable {B : Base} {main : Bool} {𝒥 : Jd Tryz.prog B main} {R : RMap} {H : HList}
theorem m16_top {PW : Value → World → Prop} (x0 : HullBook) (x1 : HullCase) (x2 : (List Int)) {v0_3 v0_4 v0_5 v1_1 v2 : Value} (hG : GOk R) (hK : Reckons (mainJd Tryz.prog B PW)) (h0_3 : SlR CHullPiece 5 R v0_3 x0.Pieces) (h0_4 : SlR CZ 1 R v0_4 x0.Out) (h0_5 : SlR CHullHeel 2 R v0_5 x0.Heels) (h1_1 : SlR CZ 1 R v1_1 x1.Weights) (h2 : RdS CZ 1 R H v2 x2) {r : Bool} (hM : m16 x0 x1 x2 = some r) : TopOk Tryz.prog B PW 16 #[.agg #[iv x0.Limit, iv x0.Ballast.Least, iv x0.Ballast.Most, v0_3, v0_4, v0_5], .agg #[iv x1.Ballast, v1_1], v2] R H (fun v R' H' => RLe R R' ∧ H = H' ∧ v = .bool r) := by
 unfold m16 at hM
 refine TopOk.of_at (args := [.agg #[iv x0.Limit, iv x0.Ballast.Least, iv x0.Ballast.Most, v0_3, v0_4, v0_5], .agg #[iv x1.Ballast, v1_1], v2]) Tryz.func16 rfl (n := 107) rfl rfl fun hk => ?_
 refine sg rg3 ?_
 refine bx fun b51 => ?_
 refine bx fun b52 => ?_
 refine vs 1 ?_
 refine es ?_
 refine sq ?_
 refine At.joinE1 hM (fun (p53_0 : Bool) R' H' st' => R = R' ∧ H' = (b52, .cells #[iv x1.Ballast, v1_1] 66) :: (b51, .cells #[iv x0.Limit, iv x0.Ballast.Least, iv x0.Ballast.Most, v0_3, v0_4, v0_5] 28) :: H ∧ SubL st' [(2, v2), (3, .pointer (some ⟨b51, 0, none⟩)), (4, .pointer (some ⟨b52, 0, none⟩)), (31, .bool p53_0)])  ?_ ?_
 rotate_right
 ·intro x53 hM ex53_0
  refine At.rg rg13 ?_
  refine lN [_, _, _, _, _, _] 0 6 agg28 z1 ?_
  obtain ⟨x57, hx57, hM⟩ := bnd hM
  refine At.cv ent18 (m18_ok x0 h0_3 h0_4 h0_5 hx57) ?_
  rintro _ _ _ ⟨rfl, rfl, rfl⟩
  refine vs 1 ?_
  refine selC hM (fun ht58 hM => ?_) (fun ht58 hM => ?_)
  ·refine At.kn 21 ht58 ?_
   refine vs 10 ?_
   refine er ?_
   exact ex53_0 _ (sinj hM).symm _ _ _ ⟨rfl, rfl, SubT.sub ⟨rfl, rfl, rfl, rfl, trivial⟩⟩
  refine At.kn 21 ht58 ?_
  refine vs 1 ?_
  refine ld 1 one25 z0 ?_
  refine ls h1_1 Tryz.underlying25 ?_
  refine vs 3 ?_
  refine selC hM (fun ht59 hM => ?_) (fun ht59 hM => ?_)
  ·refine At.kn 27 ht59 ?_
   refine vs 4 ?_
   refine er ?_
   exact ex53_0 _ (sinj hM).symm _ _ _ ⟨rfl, rfl, SubT.sub ⟨rfl, rfl, rfl, rfl, trivial⟩⟩
  refine At.kn 27 ht59 ?_
  refine vs 1 ?_
  refine lr h2 Tryz.underlying25 ?_
  refine vs 2 ?_
  refine er ?_
  exact ex53_0 _ (sinj hM).symm _ _ _ ⟨rfl, rfl, SubT.sub ⟨rfl, rfl, rfl, rfl, trivial⟩⟩
 rintro p53_0 R53_0 H53_0 st53_0 ⟨rfl, rfl, hst53_0⟩ hM
 refine At.sub hst53_0 ?_
 refine sc hM (fun ht63 hM => ?_) (fun ht63 hM => ?_)
 ·refine sg rg2 ?_
  obtain ⟨x64, hx64, hM⟩ := bnd hM
  refine At.cv ent19 (m19_ok  hG hK hx64) ?_
  rintro _ Rx64 _ ⟨hRx64, rfl, rfl⟩
  refine vs 1 ?_
  refine er ?_
  obtain rfl := sinj hM
  exact At.retT Tryz.func16 (by kernel_rfl) (.tmp rfl .nil) (so (so sr)) hk ⟨hRx64, rfl, rfl⟩
 refine sp ?_
 refine sg rg9 ?_
 refine lN [_, _, _, _, _, _] 0 6 agg28 z1 ?_
 refine lN [_, _] 0 2 agg66 z0 ?_
 refine vs 1 ?_
 obtain ⟨x65, hx65, hM⟩ := bnd hM
 refine At.cv ent50 (m50_ok x0 x1 x2 hG h0_3 h0_4 h0_5 h1_1 (h2.sub (su (so (so sr)))) hx65) ?_
 rintro _ Rx65 _ ⟨hRx65, rfl, rfl⟩
 replace h0_3 := h0_3.mono hRx65
 replace h0_4 := h0_4.mono hRx65
 replace h0_5 := h0_5.mono hRx65
 replace h1_1 := h1_1.mono hRx65
 replace h2 := h2.le hRx65
 replace hG := hG.mono hRx65
 refine vs 5 ?_
 refine nx rg9 ?_
 refine lN [_, _, _, _, _, _] 0 6 agg28 z1 ?_
 refine lN [_, _] 0 2 agg66 z0 ?_
 refine vs 1 ?_
 obtain ⟨x66, hx66, hM⟩ := bnd hM
 refine At.cv ent79 (m79_ok x0 x1 x2 h0_3 h0_4 h0_5 h1_1 (h2.sub (su (so (so sr)))) hx66) ?_
 rintro _ _ _ ⟨rfl, rfl, rfl⟩
 refine vs 5 ?_
 refine nx rg8 ?_
 refine lN [_, _, _, _, _, _] 0 6 agg28 z1 ?_
 refine lN [_, _] 0 2 agg66 z0 ?_
 obtain ⟨x67, hx67, hM⟩ := bnd hM
 refine At.cv ent80 (m80_ok x0 x1 hG h0_3 h0_4 h0_5 h1_1 hx67) ?_
 rintro _ Rx67 _ ⟨hRx67, rfl, rfl⟩
 replace h0_3 := h0_3.mono hRx67
 replace h0_4 := h0_4.mono hRx67
 replace h0_5 := h0_5.mono hRx67
 replace h1_1 := h1_1.mono hRx67
 replace hG := hG.mono hRx67
 refine vs 5 ?_
 refine nx rg8 ?_
 refine lN [_, _, _, _, _, _] 0 6 agg28 z1 ?_
 refine lN [_, _] 0 2 agg66 z0 ?_
 obtain ⟨x68, hx68, hM⟩ := bnd hM
 refine At.cv ent81 (m81_ok x0 x1 h0_3 h0_4 h0_5 h1_1 hx68) ?_
 rintro _ _ _ ⟨rfl, rfl, rfl⟩
 refine vs 5 ?_
 refine nx rg7 ?_
 refine lN [_, _, _, _, _, _] 0 6 agg28 z1 ?_
 obtain ⟨x69, hx69, hM⟩ := bnd hM
 refine At.cv ent53 (m53_ok x0 hG h0_3 h0_4 h0_5 hx69) ?_
 rintro _ Rx69 _ ⟨hRx69, rfl, vx69r0, hx69r0, rfl⟩
 replace h0_3 := h0_3.mono hRx69
 replace h0_4 := h0_4.mono hRx69
 replace h0_5 := h0_5.mono hRx69
 replace hG := hG.mono hRx69
 refine vs 5 ?_
 refine nx rg7 ?_
 refine lN [_, _, _, _, _, _] 0 6 agg28 z1 ?_
 obtain ⟨x70, hx70, hM⟩ := bnd hM
 refine At.cv ent82 (m82_ok x0 h0_3 h0_4 h0_5 hx70) ?_
 rintro _ Rx70 _ ⟨hRx70, rfl, vx70r0, hx70r0, rfl⟩
 replace h0_3 := h0_3.mono hRx70
 replace h0_4 := h0_4.mono hRx70
 replace h0_5 := h0_5.mono hRx70
 replace hG := hG.mono hRx70
 replace hx69r0 := hx69r0.mono hRx70
 refine vs 5 ?_
 refine es ?_
 refine At.dw rg39 mixed ?_
 refine tN 0 [_, _, _, _, _, _] 0 6 agg28 z1 ?_
 refine tN 2 [_, _, _, _, _, _] 0 6 agg28 z1 ?_
 obtain ⟨x71, hx71, hM⟩ := bnd hM
 refine Any.cv 1 ent83 (m83_ok x0 hG h0_3 h0_4 h0_5 hx71) ?_
 rintro _ Rx71 _ ⟨hRx71, rfl, rfl⟩
 replace h0_3 := h0_3.mono hRx71
 replace h0_4 := h0_4.mono hRx71
 replace h0_5 := h0_5.mono hRx71
 replace hG := hG.mono hRx71
 replace hx69r0 := hx69r0.mono hRx71
 replace hx70r0 := hx70r0.mono hRx71
 refine ⟨hRx71, ka, ?_⟩
 obtain ⟨x72, hx72, hM⟩ := bnd hM
 refine Any.cv 3 ent61 (m61_ok x0 h0_3 h0_4 h0_5 hx72) ?_
 rintro _ _ _ ⟨rfl, rfl, rfl⟩
 refine kp ?_
 refine Any.vs 2 [4, 5] rfl ?_
 refine selC hM (fun ht73 hM => ?_) (fun ht73 hM => ?_)
 ·refine Any.known (t := 74) rfl ht73 ?_
  refine Any.vs 5 [6, 7, 8, 9, 10] rfl ?_
  refine selC hM (fun ht74 hM => ?_) (fun ht74 hM => ?_)
  ·refine Any.known (t := 79) rfl ht74 ?_
   refine Any.vs 5 [11, 12, 13, 14, 15] rfl ?_
   refine selC hM (fun ht75 hM => ?_) (fun ht75 hM => ?_)
   ·refine Any.known (t := 84) rfl ht75 ?_
    refine Any.vs 2 [16, 17] rfl ?_
    refine Any.tk 18 rfl pp (fun R' H' hR hS => Ox.cmpBool rfl rfl rfl Tryz.underlying4 rfl rfl (.one rfl) ⟨rfl, rfl, rfl⟩) ?_
    refine Any.vs 2 [19, 20] rfl ?_
    refine selC hM (fun ht76 hM => ?_) (fun ht76 hM => ?_)
    ·refine Any.known (t := 89) rfl ht76 ?_
     refine Any.vs 5 [21, 22, 23, 24, 25] rfl ?_
     refine selC hM (fun ht77 hM => ?_) (fun ht77 hM => ?_)
     ·refine Any.known (t := 94) rfl ht77 ?_
      refine Any.vs 2 [26, 27] rfl ?_
      obtain ⟨x78, hx78, hM⟩ := bnd hM
      refine Any.cv 28 ent22 (m22_ok x69.1 x70.1 hx69r0.rd hx70r0.rd hx78) ?_
      rintro _ _ _ ⟨rfl, rfl, rfl⟩
      refine kp ?_
      refine Any.vs 2 [29, 30] rfl ?_
      refine selC hM (fun ht79 hM => ?_) (fun ht79 hM => ?_)
      ·refine Any.known (t := 99) rfl ht79 ?_
       refine Any.vs 5 [31, 32, 33, 34, 35] rfl ?_
       refine selC hM (fun ht80 hM => ?_) (fun ht80 hM => ?_)
       ·refine Any.known (t := 104) rfl ht80 ?_
        obtain ⟨x81, hx81, hM⟩ := bnd hM
        refine Any.cv 36 ent19 (m19_ok  hG hK hx81) ?_
        rintro _ Rx81 _ ⟨hRx81, rfl, rfl⟩
        refine ⟨hRx81, ka, ?_⟩
        refine Any.vs 2 [37, 38] rfl ?_
        refine Any.done ?_
        obtain rfl := sinj hM
        exact At.retT Tryz.func16 (by kernel_rfl) (.tmp rfl .nil) (so (so sr)) hk ⟨(((((hRx65.trans hRx67).trans hRx69).trans hRx70).trans hRx71).trans hRx81), rfl, rfl⟩
       refine Any.known (t := 104) rfl ht80 ?_
       refine Any.vs 3 [36, 37, 38] rfl ?_
       refine Any.done ?_
       obtain rfl := sinj hM
       exact At.retT Tryz.func16 (by kernel_rfl) (.tmp rfl .nil) (so (so sr)) hk ⟨((((hRx65.trans hRx67).trans hRx69).trans hRx70).trans hRx71), rfl, rfl⟩
      refine Any.known (t := 99) rfl ht79 ?_
      refine Any.vs 8 [31, 32, 33, 34, 35, 36, 37, 38] rfl ?_
      refine Any.done ?_
      obtain rfl := sinj hM
      exact At.retT Tryz.func16 (by kernel_rfl) (.tmp rfl .nil) (so (so sr)) hk ⟨((((hRx65.trans hRx67).trans hRx69).trans hRx70).trans hRx71), rfl, rfl⟩
     refine Any.known (t := 94) rfl ht77 ?_
     refine Any.vs 13 [26, 27, 28, 29, 30, 31, 32, 33, 34, 35, 36, 37, 38] rfl ?_
     refine Any.done ?_
     obtain rfl := sinj hM
     exact At.retT Tryz.func16 (by kernel_rfl) (.tmp rfl .nil) (so (so sr)) hk ⟨((((hRx65.trans hRx67).trans hRx69).trans hRx70).trans hRx71), rfl, rfl⟩
    refine Any.known (t := 89) rfl ht76 ?_
    refine Any.vs 18 [21, 22, 23, 24, 25, 26, 27, 28, 29, 30, 31, 32, 33, 34, 35, 36, 37, 38] rfl ?_
    refine Any.done ?_
    obtain rfl := sinj hM
    exact At.retT Tryz.func16 (by kernel_rfl) (.tmp rfl .nil) (so (so sr)) hk ⟨((((hRx65.trans hRx67).trans hRx69).trans hRx70).trans hRx71), rfl, rfl⟩
   refine Any.known (t := 84) rfl ht75 ?_
   refine Any.vs 23 [16, 17, 18, 19, 20, 21, 22, 23, 24, 25, 26, 27, 28, 29, 30, 31, 32, 33, 34, 35, 36, 37, 38] rfl ?_
   refine Any.done ?_
   obtain rfl := sinj hM
   exact At.retT Tryz.func16 (by kernel_rfl) (.tmp rfl .nil) (so (so sr)) hk ⟨((((hRx65.trans hRx67).trans hRx69).trans hRx70).trans hRx71), rfl, rfl⟩
  refine Any.known (t := 79) rfl ht74 ?_
  refine Any.vs 28 [11, 12, 13, 14, 15, 16, 17, 18, 19, 20, 21, 22, 23, 24, 25, 26, 27, 28, 29, 30, 31, 32, 33, 34, 35, 36, 37, 38] rfl ?_
  refine Any.done ?_
  obtain rfl := sinj hM
  exact At.retT Tryz.func16 (by kernel_rfl) (.tmp rfl .nil) (so (so sr)) hk ⟨((((hRx65.trans hRx67).trans hRx69).trans hRx70).trans hRx71), rfl, rfl⟩
 refine Any.known (t := 74) rfl ht73 ?_
 refine Any.vs 33 [6, 7, 8, 9, 10, 11, 12, 13, 14, 15, 16, 17, 18, 19, 20, 21, 22, 23, 24, 25, 26, 27, 28, 29, 30, 31, 32, 33, 34, 35, 36, 37, 38] rfl ?_
 refine Any.done ?_
 obtain rfl := sinj hM
 exact At.retT Tryz.func16 (by kernel_rfl) (.tmp rfl .nil) (so (so sr)) hk ⟨((((hRx65.trans hRx67).trans hRx69).trans hRx70).trans hRx71), rfl, rfl⟩
end
end Go.Proofs.YtabamagholjdcaaGreatDoor
