/- Walks, part 4: each function computes its model. -/
import Derived.Test.YtabamagholjdcaaGreatDoorQHuP3
namespace Go.Proofs.YtabamagholjdcaaGreatDoor
open Go.Lg Go.Proofs
set_option maxRecDepth 100000
set_option maxHeartbeats 4000000
section
variable {B : Base} {main : Bool} {𝒥 : Jd Tryz.prog B main} {R : RMap} {H : HList}
theorem m55_ok (x0 : (List Int)) (x1 : (List Int)) {v0 v1 : Value} (h0 : RdS CZ 1 R H v0 x0) (h1 : RdS CZ 1 R H v1 x1) {r : Bool} (hM : m55 x0 x1 = some r) : FnOk 𝒥 55 #[v0, v1] R H (fun v R' H' => R = R' ∧ H = H' ∧ v = .bool r) := by
 unfold m55 at hM
 refine FnOk.of_at Tryz.func55 rfl (n := 36) rfl rfl fun fr cs hk => ?_
 refine sg rg1 ?_
 refine vs 1 ?_
 refine es ?_
 refine sg rg1 ?_
 refine vs 1 ?_
 refine er ?_
 refine At.block ?_
 refine At.loopE1R hM (fun (s69 : Int) R' H' st' => R = R' ∧ H = H' ∧ SubL st' [(0, v0), (1, v1), (5, iv s69)]) (fun (p69_0 : Unit) R' H' st' => R = R' ∧ H = H' ∧ SubL st' []) 0 rfl ⟨rfl, rfl, SubT.sub ⟨rfl, rfl, rfl, trivial⟩⟩ ?_ ?_
 rotate_right
 ·rintro s69 R69 H69 st69 ⟨rfl, rfl, hst69⟩ x69 hM again69 ex69_0 out69
  refine At.sub hst69 ?_
  refine sq ?_
  refine sg rg4 ?_
  refine vs 2 ?_
  refine lr h1 Tryz.underlying25 ?_
  refine vs 1 ?_
  refine er ?_
  refine sc hM (fun ht104 hM => ?_) (fun ht104 hM => ?_)
  ·refine sp ?_
   refine sq ?_
   refine At.block ?_
   refine sq ?_
   refine sq ?_
   refine At.joinE1 hM (fun (p105_0 : Bool) R' H' st' => R = R' ∧ H = H' ∧ SubL st' [(0, v0), (1, v1), (5, iv s69), (26, .bool p105_0)])  ?_ ?_
   rotate_right
   ·intro x105 hM ex105_0
    refine At.dw rg15 mixed ?_
    refine Any.vs 2 [0, 1] rfl ?_
    refine Any.tk 2 rfl pp (fun R' H' hR hS => Ox.lenR (K := CZ) (k := 1) (xs := x0) rfl rfl (h0.le hR) Tryz.underlying25 rfl (.one rfl) ⟨rfl, rfl, rfl⟩) ?_
    refine Any.vs 2 [3, 4] rfl ?_
    refine selC hM (fun ht109 hM => ?_) (fun ht109 hM => ?_)
    ·refine Any.known (t := 16) rfl ht109 ?_
     refine Any.vs 10 [5, 6, 7, 8, 9, 10, 11, 12, 13, 14] rfl ?_
     refine Any.done ?_
     exact ex105_0 _ (sinj hM).symm _ _ _ ⟨rfl, rfl, SubT.sub ⟨rfl, rfl, rfl, rfl, trivial⟩⟩
    refine Any.known (t := 16) rfl ht109 ?_
    refine Any.vs 2 [5, 6] rfl ?_
    obtain ⟨x110, hx110, hM⟩ := bnd hM
    obtain ⟨x111, hx111, hM⟩ := bnd hM
    obtain ⟨bx110, ox110, _, rfl, hcx110, hix110⟩ := h0.elem slice25 hx110
    refine Any.tk 7 rfl pp (fun R' H' hR hS => Ox.indexV rfl rfl rfl hix110 rfl (.one rfl) ⟨rfl, rfl, rfl⟩) ?_
    refine Any.tk 8 rfl pp (fun R' H' hR hS => Ox.load1 rfl rfl one3 (((hcx110.le hR).sub (fun p h => hS p (pp p h))).one (j := 0) rfl) rfl (.one rfl) ⟨rfl, rfl, rfl⟩) ?_
    refine Any.vs 2 [9, 10] rfl ?_
    obtain ⟨bx111, ox111, _, rfl, hcx111, hix111⟩ := h1.elem slice25 hx111
    refine Any.tk 11 rfl pp (fun R' H' hR hS => Ox.indexV rfl rfl rfl hix111 rfl (.one rfl) ⟨rfl, rfl, rfl⟩) ?_
    refine Any.tk 12 rfl pp (fun R' H' hR hS => Ox.load1 rfl rfl one3 (((hcx111.le hR).sub (fun p h => hS p (pp p h))).one (j := 0) rfl) rfl (.one rfl) ⟨rfl, rfl, rfl⟩) ?_
    refine Any.vs 2 [13, 14] rfl ?_
    refine Any.done ?_
    exact ex105_0 _ (sinj hM).symm _ _ _ ⟨rfl, rfl, SubT.sub ⟨rfl, rfl, rfl, rfl, trivial⟩⟩
   rintro p105_0 R105_0 H105_0 st105_0 ⟨rfl, rfl, hst105_0⟩ hM
   refine At.sub hst105_0 ?_
   refine sc hM (fun ht114 hM => ?_) (fun ht114 hM => ?_)
   ·refine sg rg1 ?_
    refine vs 1 ?_
    refine er ?_
    replace hM := out69 _ (sinj hM).symm
    obtain rfl := sinj hM
    exact rt Tryz.func55 (.tmp rfl .nil) sr (hk _ _ _ ⟨rfl, rfl, rfl⟩)
   refine sp ?_
   refine sq ?_
   refine At.dw rg9 mixed ?_
   refine Any.vs 2 [0, 1] rfl ?_
   obtain ⟨x115, hx115, hM⟩ := bnd hM
   obtain ⟨x116, hx116, hM⟩ := bnd hM
   obtain ⟨bx115, ox115, _, rfl, hcx115, hix115⟩ := h0.elem slice25 hx115
   refine Any.tk 2 rfl pp (fun R' H' hR hS => Ox.indexV rfl rfl rfl hix115 rfl (.one rfl) ⟨rfl, rfl, rfl⟩) ?_
   refine Any.tk 3 rfl pp (fun R' H' hR hS => Ox.load1 rfl rfl one3 (((hcx115.le hR).sub (fun p h => hS p (pp p h))).one (j := 0) rfl) rfl (.one rfl) ⟨rfl, rfl, rfl⟩) ?_
   refine Any.vs 2 [4, 5] rfl ?_
   obtain ⟨bx116, ox116, _, rfl, hcx116, hix116⟩ := h1.elem slice25 hx116
   refine Any.tk 6 rfl pp (fun R' H' hR hS => Ox.indexV rfl rfl rfl hix116 rfl (.one rfl) ⟨rfl, rfl, rfl⟩) ?_
   refine Any.tk 7 rfl pp (fun R' H' hR hS => Ox.load1 rfl rfl one3 (((hcx116.le hR).sub (fun p h => hS p (pp p h))).one (j := 0) rfl) rfl (.one rfl) ⟨rfl, rfl, rfl⟩) ?_
   refine Any.vs 1 [8] rfl ?_
   refine Any.done ?_
   refine sc hM (fun ht117 hM => ?_) (fun ht117 hM => ?_)
   ·refine sg rg1 ?_
    refine vs 1 ?_
    refine er ?_
    replace hM := out69 _ (sinj hM).symm
    obtain rfl := sinj hM
    exact rt Tryz.func55 (.tmp rfl .nil) sr (hk _ _ _ ⟨rfl, rfl, rfl⟩)
   refine sp ?_
   refine At.inBlock ?_
   refine At.rg rg3 ?_
   refine vs 3 ?_
   refine er ?_
   exact again69 _ (sinj hM).symm _ _ _ ⟨rfl, rfl, SubT.sub ⟨rfl, rfl, rfl, trivial⟩⟩
  exact At.exit rfl (ex69_0 _ (sinj hM).symm _ _ _ ⟨rfl, rfl, SubT.sub trivial⟩)
 rintro p69_0 R69_0 H69_0 st69_0 ⟨rfl, rfl, hst69_0⟩ hM
 refine At.sub hst69_0 ?_
 refine sg rg1 ?_
 refine vs 1 ?_
 refine er ?_
 obtain rfl := sinj hM
 exact rt Tryz.func55 (.tmp rfl .nil) sr (hk _ _ _ ⟨rfl, rfl, rfl⟩)
theorem m22_ok (x0 : (List Int)) (x1 : (List Int)) {v0 v1 : Value} (h0 : RdS CZ 1 R H v0 x0) (h1 : RdS CZ 1 R H v1 x1) {r : Bool} (hM : m22 x0 x1 = some r) : FnOk 𝒥 22 #[v0, v1] R H (fun v R' H' => R = R' ∧ H = H' ∧ v = .bool r) := by
 unfold m22 at hM
 refine FnOk.of_at Tryz.func22 rfl (n := 15) rfl rfl fun fr cs hk => ?_
 refine sg rg1 ?_
 refine vs 1 ?_
 refine nx rg11 ?_
 refine vs 2 ?_
 obtain ⟨x23, hx23, hM⟩ := bnd hM
 refine At.cv ent55 (m55_ok x0 x1 (h0.sub pp) (h1.sub pp) hx23) ?_
 rintro _ _ _ ⟨rfl, rfl, rfl⟩
 refine vs 2 ?_
 refine selC hM (fun ht24 hM => ?_) (fun ht24 hM => ?_)
 ·refine At.kn 9 ht24 ?_
  refine vs 2 ?_
  obtain ⟨x25, hx25, hM⟩ := bnd hM
  refine At.cv ent55 (m55_ok x1 x0 (h1.sub pp) (h0.sub pp) hx25) ?_
  rintro _ _ _ ⟨rfl, rfl, rfl⟩
  refine vs 3 ?_
  refine er ?_
  obtain rfl := sinj hM
  exact rt Tryz.func22 (.tmp rfl .nil) sr (hk _ _ _ ⟨rfl, rfl, rfl⟩)
 refine At.kn 9 ht24 ?_
 refine vs 6 ?_
 refine er ?_
 obtain rfl := sinj hM
 exact rt Tryz.func22 (.tmp rfl .nil) sr (hk _ _ _ ⟨rfl, rfl, rfl⟩)
theorem m88_ok (x0 : (List Int)) (x1 : (List Int)) {v0 v1 : Value} (h0 : RdS CZ 1 R H v0 x0) (h1 : RdS CZ 1 R H v1 x1) {r : Bool} (hM : m88 x0 x1 = some r) : FnOk 𝒥 88 #[v0, v1] R H (fun v R' H' => R = R' ∧ H = H' ∧ v = .bool r) := by
 unfold m88 at hM
 refine FnOk.of_at Tryz.func88 rfl (n := 8) rfl rfl fun fr cs hk => ?_
 refine sg rg1 ?_
 refine vs 1 ?_
 refine nx rg4 ?_
 refine vs 2 ?_
 obtain ⟨x21, hx21, hM⟩ := bnd hM
 refine At.cv ent22 (m22_ok x0 x1 (h0.sub pp) (h1.sub pp) hx21) ?_
 rintro _ _ _ ⟨rfl, rfl, rfl⟩
 refine vs 1 ?_
 refine er ?_
 obtain rfl := sinj hM
 exact rt Tryz.func88 (.tmp rfl .nil) sr (hk _ _ _ ⟨rfl, rfl, rfl⟩)
theorem m19_ok  (hG : GOk R) (hK : Reckons 𝒥) {r : Bool} (hM : m19  = some r) : FnOk 𝒥 19 #[] R H (fun v R' H' => RLe R R' ∧ H = H' ∧ v = .bool r) := by
 unfold m19 at hM
 refine FnOk.of_at Tryz.func19 rfl (n := 349) rfl rfl fun fr cs hk => ?_
 refine sg rg1 ?_
 refine vs 1 ?_
 refine nx rg3 ?_
 obtain ⟨x177, hx177, hM⟩ := bnd hM
 refine At.cv ent87 (m87_ok   hx177) ?_
 rintro _ Rx177 _ ⟨hRx177, rfl, vx177r0_3, vx177r0_4, vx177r0_5, hx177r0_3, hx177r0_4, hx177r0_5, rfl⟩
 replace hG := hG.mono hRx177
 refine At.s rfl rfl (Ox.alloc (cs := #[iv 0, iv 0, iv 0, .slice none 0 0, .slice none 0 0, .slice none 0 0]) rfl zero28 rfl fun b178 _ _ => ⟨_, (.put rfl), ?_⟩)
 refine At.s rfl rfl (Ox.storeN (cs' := #[_, _, _, _, _, _]) rfl rfl rfl agg28 rfl (ones_cons rfl (ones_cons rfl (ones_cons rfl (ones_cons hx177r0_3.one (ones_cons hx177r0_4.one (ones_cons hx177r0_5.one ones_nil)))))) .here rfl rfl rfl (.refl _) ?_)
 refine nx rg6 ?_
 refine lN [_, _, _, _, _, _] 0 6 agg28 z0 ?_
 obtain ⟨x179, hx179, hM⟩ := bnd hM
 refine At.cv ent64 (m64_ok x177 2 hx177r0_3 hx177r0_4 hx177r0_5 hx179) ?_
 rintro _ Rx179 _ ⟨hRx179, rfl, vx179r0_3, vx179r0_4, vx179r0_5, hx179r0_3, hx179r0_4, hx179r0_5, rfl⟩
 replace hG := hG.mono hRx179
 replace hx177r0_3 := hx177r0_3.mono hRx179
 replace hx177r0_4 := hx177r0_4.mono hRx179
 replace hx177r0_5 := hx177r0_5.mono hRx179
 refine At.s rfl rfl (Ox.build (cells := #[_, _]) rfl struct47 rfl (fill_cons rfl rfl rfl rfl fill_nil) rfl (.put rfl) ?_)
 obtain ⟨x180, hx180, hM⟩ := bnd hM
 refine At.cv ent60 (m60_ok x179 (⟨1, 0⟩ : HullHeel) hx179r0_3 hx179r0_4 hx179r0_5 hx180) ?_
 rintro _ Rx180 _ ⟨hRx180, rfl, vx180r0_3, vx180r0_4, vx180r0_5, hx180r0_3, hx180r0_4, hx180r0_5, rfl⟩
 replace hG := hG.mono hRx180
 replace hx177r0_3 := hx177r0_3.mono hRx180
 replace hx177r0_4 := hx177r0_4.mono hRx180
 replace hx177r0_5 := hx177r0_5.mono hRx180
 refine At.s rfl rfl (Ox.alloc (cs := #[iv 0, iv 0, iv 0, .slice none 0 0, .slice none 0 0, .slice none 0 0]) rfl zero28 rfl fun b181 _ _ => ⟨_, (.put rfl), ?_⟩)
 refine At.s rfl rfl (Ox.storeN (cs' := #[_, _, _, _, _, _]) rfl rfl rfl agg28 rfl (ones_cons rfl (ones_cons rfl (ones_cons rfl (ones_cons hx180r0_3.one (ones_cons hx180r0_4.one (ones_cons hx180r0_5.one ones_nil)))))) .here rfl rfl rfl (.refl _) ?_)
 refine nx rg10 ?_
 refine lN [_, _, _, _, _, _] 0 6 agg28 z1 ?_
 refine At.s rfl rfl (Ox.buildSlice (cells := #[_, _, _]) rfl elem25 rfl (by decide) base25_3 (fill_cons rfl rfl rfl rfl (fill_cons rfl rfl rfl rfl (fill_cons rfl rfl rfl rfl fill_nil))) rfl fun b182 _ _ => ⟨_, (.put rfl), ?_⟩)
 refine At.s rfl rfl (Ox.build (cells := #[_, _]) rfl struct66 rfl (fill_cons rfl rfl rfl rfl fill_nil) rfl (.put rfl) ?_)
 refine At.s rfl rfl (Ox.buildSlice (cells := #[_]) rfl elem25 rfl (by decide) base25_1 (fill_cons rfl rfl rfl rfl fill_nil) rfl fun b183 _ _ => ⟨_, (.put rfl), ?_⟩)
 refine At.freezeLit (K := CZ) (k := 1) (H2 := (b183, _) :: (b181, _) :: (b178, _) :: H) (fun X => (b183, _) :: X ++ ((b181, _) :: (b178, _) :: H)) (.cons .id) rfl (Enc.le (Enc.cons (x := 21) rfl rfl (Enc.cons (x := 30) rfl rfl (Enc.cons (x := 10) rfl rfl Enc.nil))) rfl) rfl (fun Rf185 hRf185 hf185 => ?_)
 replace hG := hG.mono hRf185
 replace hx177r0_3 := hx177r0_3.mono hRf185
 replace hx177r0_4 := hx177r0_4.mono hRf185
 replace hx177r0_5 := hx177r0_5.mono hRf185
 replace hx180r0_3 := hx180r0_3.mono hRf185
 replace hx180r0_4 := hx180r0_4.mono hRf185
 replace hx180r0_5 := hx180r0_5.mono hRf185
 obtain ⟨x184, hx184, hM⟩ := bnd hM
 refine At.cv ent50 (m50_ok x177 (⟨0, [21, 30, 10]⟩ : HullCase) [1] hG hx177r0_3 hx177r0_4 hx177r0_5 hf185 (RdS.lit z0 (Enc.le (Enc.cons (x := 1) rfl rfl Enc.nil) rfl) rfl) hx184) ?_
 rintro _ Rx184 _ ⟨hRx184, rfl, rfl⟩
 replace hG := hG.mono hRx184
 replace hx177r0_3 := hx177r0_3.mono hRx184
 replace hx177r0_4 := hx177r0_4.mono hRx184
 replace hx177r0_5 := hx177r0_5.mono hRx184
 replace hx180r0_3 := hx180r0_3.mono hRx184
 replace hx180r0_4 := hx180r0_4.mono hRx184
 replace hx180r0_5 := hx180r0_5.mono hRx184
 refine vs 5 ?_
 refine nx rg7 ?_
 refine lN [_, _, _, _, _, _] 0 6 agg28 z2 ?_
 obtain ⟨x186, hx186, hM⟩ := bnd hM
 refine At.cv ent44 (m44_ok x177 hG hx177r0_3 hx177r0_4 hx177r0_5 hx186) ?_
 rintro _ Rx186 _ ⟨hRx186, rfl, rfl⟩
 replace hG := hG.mono hRx186
 replace hx177r0_3 := hx177r0_3.mono hRx186
 replace hx177r0_4 := hx177r0_4.mono hRx186
 replace hx177r0_5 := hx177r0_5.mono hRx186
 replace hx180r0_3 := hx180r0_3.mono hRx186
 replace hx180r0_4 := hx180r0_4.mono hRx186
 replace hx180r0_5 := hx180r0_5.mono hRx186
 refine vs 5 ?_
 refine nx rg7 ?_
 refine lN [_, _, _, _, _, _] 0 6 agg28 z2 ?_
 obtain ⟨x187, hx187, hM⟩ := bnd hM
 refine At.cv ent43 (m43_ok x177 0 hG hx177r0_3 hx177r0_4 hx177r0_5 hx187) ?_
 rintro _ Rx187 _ ⟨hRx187, rfl, vx187r0, hx187r0, rfl⟩
 replace hG := hG.mono hRx187
 replace hx177r0_3 := hx177r0_3.mono hRx187
 replace hx177r0_4 := hx177r0_4.mono hRx187
 replace hx177r0_5 := hx177r0_5.mono hRx187
 replace hx180r0_3 := hx180r0_3.mono hRx187
 replace hx180r0_4 := hx180r0_4.mono hRx187
 replace hx180r0_5 := hx180r0_5.mono hRx187
 refine vs 5 ?_
 refine nx rg9 ?_
 refine lN [_, _, _, _, _, _] 0 6 agg28 z2 ?_
 refine At.s rfl rfl (Ox.buildSlice (cells := #[_]) rfl elem25 rfl (by decide) base25_1 (fill_cons rfl rfl rfl rfl fill_nil) rfl fun b188 _ _ => ⟨_, (.put rfl), ?_⟩)
 refine At.freezeLit (K := CZ) (k := 1) (H2 := (b183, _) :: (b181, _) :: (b178, _) :: H) (fun X => X ++ ((b183, _) :: (b181, _) :: (b178, _) :: H)) .id rfl (Enc.le (Enc.cons (x := 2) rfl rfl Enc.nil) rfl) rfl (fun Rf190 hRf190 hf190 => ?_)
 replace hG := hG.mono hRf190
 replace hx177r0_3 := hx177r0_3.mono hRf190
 replace hx177r0_4 := hx177r0_4.mono hRf190
 replace hx177r0_5 := hx177r0_5.mono hRf190
 replace hx180r0_3 := hx180r0_3.mono hRf190
 replace hx180r0_4 := hx180r0_4.mono hRf190
 replace hx180r0_5 := hx180r0_5.mono hRf190
 replace hx187r0 := hx187r0.mono hRf190
 obtain ⟨x189, hx189, hM⟩ := bnd hM
 refine At.cv ent71 (m71_ok x177 [2] hG hx177r0_3 hx177r0_4 hx177r0_5 hf190 hx189) ?_
 rintro _ Rx189 _ ⟨hRx189, rfl, rfl⟩
 replace hG := hG.mono hRx189
 replace hx177r0_3 := hx177r0_3.mono hRx189
 replace hx177r0_4 := hx177r0_4.mono hRx189
 replace hx177r0_5 := hx177r0_5.mono hRx189
 replace hx180r0_3 := hx180r0_3.mono hRx189
 replace hx180r0_4 := hx180r0_4.mono hRx189
 replace hx180r0_5 := hx180r0_5.mono hRx189
 replace hx187r0 := hx187r0.mono hRx189
 refine vs 3 ?_
 refine At.s rfl rfl (Ox.alloc (cs := #[iv 0, iv 0]) rfl zero23 rfl fun b191 _ _ => ⟨_, (.put rfl), ?_⟩)
 refine At.s rfl rfl (Ox.storeN (cs' := #[_, _]) rfl rfl rfl agg23 rfl (ones_cons rfl (ones_cons rfl ones_nil)) .here rfl rfl rfl (.refl _) ?_)
 refine vs 1 ?_
 refine nx rg8 ?_
 refine lN [_, _, _, _, _, _] 0 6 agg28 z3 ?_
 refine At.s rfl rfl (Ox.buildSlice (cells := #[_]) rfl elem25 rfl (by decide) base25_1 (fill_cons rfl rfl rfl rfl fill_nil) rfl fun b192 _ _ => ⟨_, (.put rfl), ?_⟩)
 refine At.freezeLit (K := CZ) (k := 1) (H2 := (b191, _) :: (b183, _) :: (b181, _) :: (b178, _) :: H) (fun X => X ++ ((b191, _) :: (b183, _) :: (b181, _) :: (b178, _) :: H)) .id rfl (Enc.le (Enc.cons (x := 0) rfl rfl Enc.nil) rfl) rfl (fun Rf194 hRf194 hf194 => ?_)
 replace hG := hG.mono hRf194
 replace hx177r0_3 := hx177r0_3.mono hRf194
 replace hx177r0_4 := hx177r0_4.mono hRf194
 replace hx177r0_5 := hx177r0_5.mono hRf194
 replace hx180r0_3 := hx180r0_3.mono hRf194
 replace hx180r0_4 := hx180r0_4.mono hRf194
 replace hx180r0_5 := hx180r0_5.mono hRf194
 replace hx187r0 := hx187r0.mono hRf194
 obtain ⟨x193, hx193, hM⟩ := bnd hM
 refine At.cv ent56 (m56_ok x177 [0] hG hx177r0_3 hx177r0_4 hx177r0_5 hf194 hx193) ?_
 rintro _ Rx193 _ ⟨hRx193, rfl, rfl⟩
 replace hG := hG.mono hRx193
 replace hx177r0_3 := hx177r0_3.mono hRx193
 replace hx177r0_4 := hx177r0_4.mono hRx193
 replace hx177r0_5 := hx177r0_5.mono hRx193
 replace hx180r0_3 := hx180r0_3.mono hRx193
 replace hx180r0_4 := hx180r0_4.mono hRx193
 replace hx180r0_5 := hx180r0_5.mono hRx193
 replace hx187r0 := hx187r0.mono hRx193
 refine vs 5 ?_
 refine nx rg8 ?_
 refine lN [_, _, _, _, _, _] 0 6 agg28 z3 ?_
 refine At.s rfl rfl (Ox.buildSlice (cells := #[_, _]) rfl elem25 rfl (by decide) base25_2 (fill_cons rfl rfl rfl rfl (fill_cons rfl rfl rfl rfl fill_nil)) rfl fun b195 _ _ => ⟨_, (.put rfl), ?_⟩)
 refine At.freezeLit (K := CZ) (k := 1) (H2 := (b191, _) :: (b183, _) :: (b181, _) :: (b178, _) :: H) (fun X => X ++ ((b191, _) :: (b183, _) :: (b181, _) :: (b178, _) :: H)) .id rfl (Enc.le (Enc.cons (x := 1) rfl rfl (Enc.cons (x := 2) rfl rfl Enc.nil)) rfl) rfl (fun Rf197 hRf197 hf197 => ?_)
 replace hG := hG.mono hRf197
 replace hx177r0_3 := hx177r0_3.mono hRf197
 replace hx177r0_4 := hx177r0_4.mono hRf197
 replace hx177r0_5 := hx177r0_5.mono hRf197
 replace hx180r0_3 := hx180r0_3.mono hRf197
 replace hx180r0_4 := hx180r0_4.mono hRf197
 replace hx180r0_5 := hx180r0_5.mono hRf197
 replace hx187r0 := hx187r0.mono hRf197
 obtain ⟨x196, hx196, hM⟩ := bnd hM
 refine At.cv ent56 (m56_ok x177 [1, 2] hG hx177r0_3 hx177r0_4 hx177r0_5 hf197 hx196) ?_
 rintro _ Rx196 _ ⟨hRx196, rfl, rfl⟩
 replace hG := hG.mono hRx196
 replace hx177r0_3 := hx177r0_3.mono hRx196
 replace hx177r0_4 := hx177r0_4.mono hRx196
 replace hx177r0_5 := hx177r0_5.mono hRx196
 replace hx180r0_3 := hx180r0_3.mono hRx196
 replace hx180r0_4 := hx180r0_4.mono hRx196
 replace hx180r0_5 := hx180r0_5.mono hRx196
 replace hx187r0 := hx187r0.mono hRx196
 refine vs 5 ?_
 refine nx rg7 ?_
 refine lN [_, _, _, _, _, _] 0 6 agg28 z3 ?_
 obtain ⟨x198, hx198, hM⟩ := bnd hM
 refine At.cv ent53 (m53_ok x177 hG hx177r0_3 hx177r0_4 hx177r0_5 hx198) ?_
 rintro _ Rx198 _ ⟨hRx198, rfl, vx198r0, hx198r0, rfl⟩
 replace hG := hG.mono hRx198
 replace hx177r0_3 := hx177r0_3.mono hRx198
 replace hx177r0_4 := hx177r0_4.mono hRx198
 replace hx177r0_5 := hx177r0_5.mono hRx198
 replace hx180r0_3 := hx180r0_3.mono hRx198
 replace hx180r0_4 := hx180r0_4.mono hRx198
 replace hx180r0_5 := hx180r0_5.mono hRx198
 replace hx187r0 := hx187r0.mono hRx198
 refine vs 5 ?_
 refine nx rg7 ?_
 refine lN [_, _, _, _, _, _] 0 6 agg28 z3 ?_
 obtain ⟨x199, hx199, hM⟩ := bnd hM
 refine At.cv ent20 (m20_ok x177 hG hK hx177r0_3 hx177r0_4 hx177r0_5 hx199) ?_
 rintro _ Rx199 _ ⟨hRx199, rfl, vx199r0, hx199r0, rfl⟩
 replace hG := hG.mono hRx199
 replace hx177r0_3 := hx177r0_3.mono hRx199
 replace hx177r0_4 := hx177r0_4.mono hRx199
 replace hx177r0_5 := hx177r0_5.mono hRx199
 replace hx180r0_3 := hx180r0_3.mono hRx199
 replace hx180r0_4 := hx180r0_4.mono hRx199
 replace hx180r0_5 := hx180r0_5.mono hRx199
 replace hx187r0 := hx187r0.mono hRx199
 replace hx198r0 := hx198r0.mono hRx199
 refine vs 5 ?_
 refine nx rg7 ?_
 refine lN [_, _, _, _, _, _] 0 6 agg28 z2 ?_
 obtain ⟨x200, hx200, hM⟩ := bnd hM
 refine At.cv ent44 (m44_ok x180 hG hx180r0_3 hx180r0_4 hx180r0_5 hx200) ?_
 rintro _ Rx200 _ ⟨hRx200, rfl, rfl⟩
 replace hG := hG.mono hRx200
 replace hx177r0_3 := hx177r0_3.mono hRx200
 replace hx177r0_4 := hx177r0_4.mono hRx200
 replace hx177r0_5 := hx177r0_5.mono hRx200
 replace hx180r0_3 := hx180r0_3.mono hRx200
 replace hx180r0_4 := hx180r0_4.mono hRx200
 replace hx180r0_5 := hx180r0_5.mono hRx200
 replace hx187r0 := hx187r0.mono hRx200
 replace hx198r0 := hx198r0.mono hRx200
 replace hx199r0 := hx199r0.mono hRx200
 refine vs 5 ?_
 refine es ?_
 refine sq ?_
 refine At.joinE1 hM (fun (p201_0 : Bool) R' H' st' => Rx200 = R' ∧ H' = (b191, .cells #[iv x189.1.Least, iv x189.1.Most] 23) :: (b181, .cells #[iv x180.Limit, iv x180.Ballast.Least, iv x180.Ballast.Most, vx180r0_3, vx180r0_4, vx180r0_5] 28) :: (b178, .cells #[iv x177.Limit, iv x177.Ballast.Least, iv x177.Ballast.Most, vx177r0_3, vx177r0_4, vx177r0_5] 28) :: H ∧ SubL st' [(1, .pointer (some ⟨b178, 0, none⟩)), (2, .pointer (some ⟨b181, 0, none⟩)), (3, iv x184.1), (5, iv x186.1), (7, vx187r0), (9, .pointer (some ⟨b191, 0, none⟩)), (11, iv x193.1), (13, iv x196.1), (15, vx198r0), (17, vx199r0), (19, iv x200.1), (121, .bool p201_0)])  ?_ ?_
 rotate_right
 ·intro x201 hM ex201_0
  refine At.rg rg34 ?_
  refine vs 3 ?_
  refine selC hM (fun ht210 hM => ?_) (fun ht210 hM => ?_)
  ·refine At.kn 90 ht210 ?_
   refine vs 31 ?_
   refine er ?_
   exact At.drop (sk (so sr)) (ex201_0 _ (sinj hM).symm _ _ _ ⟨rfl, rfl, SubT.sub ⟨rfl, rfl, rfl, rfl, rfl, rfl, rfl, rfl, rfl, rfl, rfl, rfl, trivial⟩⟩)
  refine At.kn 90 ht210 ?_
  refine vs 4 ?_
  refine selC hM (fun ht211 hM => ?_) (fun ht211 hM => ?_)
  ·refine At.kn 94 ht211 ?_
   refine vs 27 ?_
   refine er ?_
   exact At.drop (sk (so sr)) (ex201_0 _ (sinj hM).symm _ _ _ ⟨rfl, rfl, SubT.sub ⟨rfl, rfl, rfl, rfl, rfl, rfl, rfl, rfl, rfl, rfl, rfl, rfl, trivial⟩⟩)
  refine At.kn 94 ht211 ?_
  refine vs 4 ?_
  refine selC hM (fun ht212 hM => ?_) (fun ht212 hM => ?_)
  ·refine At.kn 98 ht212 ?_
   refine vs 23 ?_
   refine er ?_
   exact At.drop (sk (so sr)) (ex201_0 _ (sinj hM).symm _ _ _ ⟨rfl, rfl, SubT.sub ⟨rfl, rfl, rfl, rfl, rfl, rfl, rfl, rfl, rfl, rfl, rfl, rfl, trivial⟩⟩)
  refine At.kn 98 ht212 ?_
  refine vs 4 ?_
  refine selC hM (fun ht213 hM => ?_) (fun ht213 hM => ?_)
  ·refine At.kn 102 ht213 ?_
   refine vs 19 ?_
   refine er ?_
   exact At.drop (sk (so sr)) (ex201_0 _ (sinj hM).symm _ _ _ ⟨rfl, rfl, SubT.sub ⟨rfl, rfl, rfl, rfl, rfl, rfl, rfl, rfl, rfl, rfl, rfl, rfl, trivial⟩⟩)
  refine At.kn 102 ht213 ?_
  refine vs 4 ?_
  refine selC hM (fun ht214 hM => ?_) (fun ht214 hM => ?_)
  ·refine At.kn 106 ht214 ?_
   refine vs 15 ?_
   refine er ?_
   exact At.drop (sk (so sr)) (ex201_0 _ (sinj hM).symm _ _ _ ⟨rfl, rfl, SubT.sub ⟨rfl, rfl, rfl, rfl, rfl, rfl, rfl, rfl, rfl, rfl, rfl, rfl, trivial⟩⟩)
  refine At.kn 106 ht214 ?_
  refine vs 4 ?_
  refine selC hM (fun ht215 hM => ?_) (fun ht215 hM => ?_)
  ·refine At.kn 110 ht215 ?_
   refine vs 11 ?_
   refine er ?_
   exact At.drop (sk (so sr)) (ex201_0 _ (sinj hM).symm _ _ _ ⟨rfl, rfl, SubT.sub ⟨rfl, rfl, rfl, rfl, rfl, rfl, rfl, rfl, rfl, rfl, rfl, rfl, trivial⟩⟩)
  refine At.kn 110 ht215 ?_
  refine vs 4 ?_
  refine selC hM (fun ht216 hM => ?_) (fun ht216 hM => ?_)
  ·refine At.kn 114 ht216 ?_
   refine vs 7 ?_
   refine er ?_
   exact At.drop (sk (so sr)) (ex201_0 _ (sinj hM).symm _ _ _ ⟨rfl, rfl, SubT.sub ⟨rfl, rfl, rfl, rfl, rfl, rfl, rfl, rfl, rfl, rfl, rfl, rfl, trivial⟩⟩)
  refine At.kn 114 ht216 ?_
  refine vs 4 ?_
  refine selC hM (fun ht217 hM => ?_) (fun ht217 hM => ?_)
  ·refine At.kn 118 ht217 ?_
   refine vs 3 ?_
   refine er ?_
   exact At.drop (sk (so sr)) (ex201_0 _ (sinj hM).symm _ _ _ ⟨rfl, rfl, SubT.sub ⟨rfl, rfl, rfl, rfl, rfl, rfl, rfl, rfl, rfl, rfl, rfl, rfl, trivial⟩⟩)
  refine At.kn 118 ht217 ?_
  refine vs 3 ?_
  refine er ?_
  exact At.drop (sk (so sr)) (ex201_0 _ (sinj hM).symm _ _ _ ⟨rfl, rfl, SubT.sub ⟨rfl, rfl, rfl, rfl, rfl, rfl, rfl, rfl, rfl, rfl, rfl, rfl, trivial⟩⟩)
 rintro p201_0 R201_0 H201_0 st201_0 ⟨rfl, rfl, hst201_0⟩ hM
 refine At.sub hst201_0 ?_
 refine sc hM (fun ht220 hM => ?_) (fun ht220 hM => ?_)
 ·refine sg rg1 ?_
  refine vs 1 ?_
  refine er ?_
  obtain rfl := sinj hM
  exact rt Tryz.func19 (.tmp rfl .nil) (so (so (so sr))) (hk _ _ _ ⟨(((((((((((((((hRx177.trans hRx179).trans hRx180).trans hRf185).trans hRx184).trans hRx186).trans hRx187).trans hRf190).trans hRx189).trans hRf194).trans hRx193).trans hRf197).trans hRx196).trans hRx198).trans hRx199).trans hRx200), rfl, rfl⟩)
 refine sp ?_
 refine sq ?_
 refine sq ?_
 refine At.joinE1 hM (fun (p221_0 : Bool) R' H' st' => Rx200 = R' ∧ H' = (b181, .cells #[iv x180.Limit, iv x180.Ballast.Least, iv x180.Ballast.Most, vx180r0_3, vx180r0_4, vx180r0_5] 28) :: (b178, .cells #[iv x177.Limit, iv x177.Ballast.Least, iv x177.Ballast.Most, vx177r0_3, vx177r0_4, vx177r0_5] 28) :: H ∧ SubL st' [(1, .pointer (some ⟨b178, 0, none⟩)), (2, .pointer (some ⟨b181, 0, none⟩)), (162, .bool p221_0)])  ?_ ?_
 rotate_right
 ·intro x221 hM ex221_0
  refine At.dw rg41 mixed ?_
  refine Any.vs 3 [0, 1, 2] rfl ?_
  refine selC hM (fun ht237 hM => ?_) (fun ht237 hM => ?_)
  ·refine Any.known (t := 124) rfl ht237 ?_
   refine Any.vs 38 [3, 4, 5, 6, 7, 8, 9, 10, 11, 12, 13, 14, 15, 16, 17, 18, 19, 20, 21, 22, 23, 24, 25, 26, 27, 28, 29, 30, 31, 32, 33, 34, 35, 36, 37, 38, 39, 40] rfl ?_
   refine Any.done ?_
   exact At.drop (so sr) (ex221_0 _ (sinj hM).symm _ _ _ ⟨rfl, rfl, SubT.sub ⟨rfl, rfl, rfl, trivial⟩⟩)
  refine Any.known (t := 124) rfl ht237 ?_
  refine Any.vs 4 [3, 4, 5, 6] rfl ?_
  refine selC hM (fun ht238 hM => ?_) (fun ht238 hM => ?_)
  ·refine Any.known (t := 128) rfl ht238 ?_
   refine Any.vs 34 [7, 8, 9, 10, 11, 12, 13, 14, 15, 16, 17, 18, 19, 20, 21, 22, 23, 24, 25, 26, 27, 28, 29, 30, 31, 32, 33, 34, 35, 36, 37, 38, 39, 40] rfl ?_
   refine Any.done ?_
   exact At.drop (so sr) (ex221_0 _ (sinj hM).symm _ _ _ ⟨rfl, rfl, SubT.sub ⟨rfl, rfl, rfl, trivial⟩⟩)
  refine Any.known (t := 128) rfl ht238 ?_
  refine Any.vs 1 [7] rfl ?_
  refine Any.on 8 rfl rfl (SemTo.to (Ox.buildSlice (cells := #[_, _]) rfl elem25 rfl (by decide) base25_2 (fill_cons rfl rfl rfl rfl (fill_cons rfl rfl rfl rfl fill_nil)) rfl fun b239 _ _ => ⟨_, (.put rfl), ⟨rr, (ku (so sr)), ?_⟩⟩))
  obtain ⟨x240, hx240, hM⟩ := bnd hM
  refine Any.cv 9 ent88 (m88_ok x187.1 [20, 21] hx187r0.rd (RdS.lit z0 (Enc.le (Enc.cons (x := 20) rfl rfl (Enc.cons (x := 21) rfl rfl Enc.nil)) rfl) rfl) hx240) ?_
  rintro _ _ _ ⟨rfl, rfl, rfl⟩
  refine ⟨rr, (ku (so sr)), ?_⟩
  refine Any.vs 3 [10, 11, 12] rfl ?_
  refine selC hM (fun ht241 hM => ?_) (fun ht241 hM => ?_)
  ·refine Any.known (t := 134) rfl ht241 ?_
   refine Any.vs 28 [13, 14, 15, 16, 17, 18, 19, 20, 21, 22, 23, 24, 25, 26, 27, 28, 29, 30, 31, 32, 33, 34, 35, 36, 37, 38, 39, 40] rfl ?_
   refine Any.done ?_
   exact At.drop (so (so sr)) (ex221_0 _ (sinj hM).symm _ _ _ ⟨rfl, rfl, SubT.sub ⟨rfl, rfl, rfl, trivial⟩⟩)
  refine Any.known (t := 134) rfl ht241 ?_
  refine Any.tk 13 rfl (su (so sr)) (fun R' H' hR hS => Ox.loadN (vs := [_, _]) rfl rfl agg23 rfl ((CellsAt.box (hS _ z0)).part (j := 0) (n := 2) rfl) rfl (.one rfl) ⟨rfl, rfl, rfl⟩) ?_
  obtain ⟨x242, hx242, hM⟩ := bnd hM
  refine Any.cv 14 ent72 (m72_ok (-3) 0  hx242) ?_
  rintro _ _ _ ⟨rfl, rfl, rfl⟩
  refine ⟨rr, (ku (so sr)), ?_⟩
  refine Any.tk 15 rfl (su (so sr)) (fun R' H' hR hS => Ox.cmpAgg rfl rfl rfl grd23 (eqv23 _ _) rfl rfl (.one rfl) ⟨rfl, rfl, rfl⟩) ?_
  refine Any.vs 2 [16, 17] rfl ?_
  refine selC hM (fun ht243 hM => ?_) (fun ht243 hM => ?_)
  ·refine Any.known (t := 139) rfl ht243 ?_
   refine Any.vs 23 [18, 19, 20, 21, 22, 23, 24, 25, 26, 27, 28, 29, 30, 31, 32, 33, 34, 35, 36, 37, 38, 39, 40] rfl ?_
   refine Any.done ?_
   exact At.drop (so (so sr)) (ex221_0 _ (sinj hM).symm _ _ _ ⟨rfl, rfl, SubT.sub ⟨rfl, rfl, rfl, trivial⟩⟩)
  refine Any.known (t := 139) rfl ht243 ?_
  refine Any.vs 4 [18, 19, 20, 21] rfl ?_
  refine selC hM (fun ht244 hM => ?_) (fun ht244 hM => ?_)
  ·refine Any.known (t := 143) rfl ht244 ?_
   refine Any.vs 19 [22, 23, 24, 25, 26, 27, 28, 29, 30, 31, 32, 33, 34, 35, 36, 37, 38, 39, 40] rfl ?_
   refine Any.done ?_
   exact At.drop (so (so sr)) (ex221_0 _ (sinj hM).symm _ _ _ ⟨rfl, rfl, SubT.sub ⟨rfl, rfl, rfl, trivial⟩⟩)
  refine Any.known (t := 143) rfl ht244 ?_
  refine Any.vs 4 [22, 23, 24, 25] rfl ?_
  refine selC hM (fun ht245 hM => ?_) (fun ht245 hM => ?_)
  ·refine Any.known (t := 147) rfl ht245 ?_
   refine Any.vs 15 [26, 27, 28, 29, 30, 31, 32, 33, 34, 35, 36, 37, 38, 39, 40] rfl ?_
   refine Any.done ?_
   exact At.drop (so (so sr)) (ex221_0 _ (sinj hM).symm _ _ _ ⟨rfl, rfl, SubT.sub ⟨rfl, rfl, rfl, trivial⟩⟩)
  refine Any.known (t := 147) rfl ht245 ?_
  refine Any.vs 1 [26] rfl ?_
  refine Any.on 27 rfl rfl (SemTo.to (Ox.buildSlice (cells := #[_, _]) rfl elem25 rfl (by decide) base25_2 (fill_cons rfl rfl rfl rfl (fill_cons rfl rfl rfl rfl fill_nil)) rfl fun b246 _ _ => ⟨_, (.put rfl), ⟨rr, (ku (so (so sr))), ?_⟩⟩))
  obtain ⟨x247, hx247, hM⟩ := bnd hM
  refine Any.cv 28 ent88 (m88_ok x198.1 [1, 2] hx198r0.rd (RdS.lit z0 (Enc.le (Enc.cons (x := 1) rfl rfl (Enc.cons (x := 2) rfl rfl Enc.nil)) rfl) rfl) hx247) ?_
  rintro _ _ _ ⟨rfl, rfl, rfl⟩
  refine ⟨rr, (ku (so (so sr))), ?_⟩
  refine Any.vs 3 [29, 30, 31] rfl ?_
  refine selC hM (fun ht248 hM => ?_) (fun ht248 hM => ?_)
  ·refine Any.known (t := 153) rfl ht248 ?_
   refine Any.vs 9 [32, 33, 34, 35, 36, 37, 38, 39, 40] rfl ?_
   refine Any.done ?_
   exact At.drop (so (so (so sr))) (ex221_0 _ (sinj hM).symm _ _ _ ⟨rfl, rfl, SubT.sub ⟨rfl, rfl, rfl, trivial⟩⟩)
  refine Any.known (t := 153) rfl ht248 ?_
  refine Any.vs 1 [32] rfl ?_
  refine Any.on 33 rfl rfl (SemTo.to (Ox.buildSlice (cells := #[_, _]) rfl elem25 rfl (by decide) base25_2 (fill_cons rfl rfl rfl rfl (fill_cons rfl rfl rfl rfl fill_nil)) rfl fun b249 _ _ => ⟨_, (.put rfl), ⟨rr, (ku (so (so (so sr)))), ?_⟩⟩))
  obtain ⟨x250, hx250, hM⟩ := bnd hM
  refine Any.cv 34 ent88 (m88_ok x199.1 [1, 2] hx199r0.rd (RdS.lit z0 (Enc.le (Enc.cons (x := 1) rfl rfl (Enc.cons (x := 2) rfl rfl Enc.nil)) rfl) rfl) hx250) ?_
  rintro _ _ _ ⟨rfl, rfl, rfl⟩
  refine ⟨rr, (ku (so (so (so sr)))), ?_⟩
  refine Any.vs 3 [35, 36, 37] rfl ?_
  refine selC hM (fun ht251 hM => ?_) (fun ht251 hM => ?_)
  ·refine Any.known (t := 159) rfl ht251 ?_
   refine Any.vs 3 [38, 39, 40] rfl ?_
   refine Any.done ?_
   exact At.drop (so (so (so (so sr)))) (ex221_0 _ (sinj hM).symm _ _ _ ⟨rfl, rfl, SubT.sub ⟨rfl, rfl, rfl, trivial⟩⟩)
  refine Any.known (t := 159) rfl ht251 ?_
  refine Any.vs 3 [38, 39, 40] rfl ?_
  refine Any.done ?_
  exact At.drop (so (so (so (so sr)))) (ex221_0 _ (sinj hM).symm _ _ _ ⟨rfl, rfl, SubT.sub ⟨rfl, rfl, rfl, trivial⟩⟩)
 rintro p221_0 R221_0 H221_0 st221_0 ⟨rfl, rfl, hst221_0⟩ hM
 refine At.sub hst221_0 ?_
 refine sc hM (fun ht254 hM => ?_) (fun ht254 hM => ?_)
 ·refine sg rg1 ?_
  refine vs 1 ?_
  refine er ?_
  obtain rfl := sinj hM
  exact rt Tryz.func19 (.tmp rfl .nil) (so (so sr)) (hk _ _ _ ⟨(((((((((((((((hRx177.trans hRx179).trans hRx180).trans hRf185).trans hRx184).trans hRx186).trans hRx187).trans hRf190).trans hRx189).trans hRf194).trans hRx193).trans hRf197).trans hRx196).trans hRx198).trans hRx199).trans hRx200), rfl, rfl⟩)
 refine sp ?_
 refine sg rg8 ?_
 refine lN [_, _, _, _, _, _] 0 6 agg28 z1 ?_
 refine At.s rfl rfl (Ox.buildSlice (cells := #[_, _, _]) rfl elem25 rfl (by decide) base25_3 (fill_cons rfl rfl rfl rfl (fill_cons rfl rfl rfl rfl (fill_cons rfl rfl rfl rfl fill_nil))) rfl fun b255 _ _ => ⟨_, (.put rfl), ?_⟩)
 refine At.freezeLit (K := CZ) (k := 1) (H2 := (b181, _) :: (b178, _) :: H) (fun X => X ++ ((b181, _) :: (b178, _) :: H)) .id rfl (Enc.le (Enc.cons (x := 2) rfl rfl (Enc.cons (x := 0) rfl rfl (Enc.cons (x := 1) rfl rfl Enc.nil))) rfl) rfl (fun Rf257 hRf257 hf257 => ?_)
 replace hG := hG.mono hRf257
 replace hx177r0_3 := hx177r0_3.mono hRf257
 replace hx177r0_4 := hx177r0_4.mono hRf257
 replace hx177r0_5 := hx177r0_5.mono hRf257
 replace hx180r0_3 := hx180r0_3.mono hRf257
 replace hx180r0_4 := hx180r0_4.mono hRf257
 replace hx180r0_5 := hx180r0_5.mono hRf257
 obtain ⟨x256, hx256, hM⟩ := bnd hM
 refine At.cv ent23 (m23_ok x177 [2, 0, 1] hG hx177r0_3 hx177r0_4 hx177r0_5 hf257 hx256) ?_
 rintro _ Rx256 _ ⟨hRx256, rfl, rfl⟩
 replace hG := hG.mono hRx256
 replace hx177r0_3 := hx177r0_3.mono hRx256
 replace hx177r0_4 := hx177r0_4.mono hRx256
 replace hx177r0_5 := hx177r0_5.mono hRx256
 replace hx180r0_3 := hx180r0_3.mono hRx256
 replace hx180r0_4 := hx180r0_4.mono hRx256
 replace hx180r0_5 := hx180r0_5.mono hRx256
 refine vs 5 ?_
 refine nx rg8 ?_
 refine lN [_, _, _, _, _, _] 0 6 agg28 z1 ?_
 refine At.s rfl rfl (Ox.buildSlice (cells := #[_, _, _]) rfl elem25 rfl (by decide) base25_3 (fill_cons rfl rfl rfl rfl (fill_cons rfl rfl rfl rfl (fill_cons rfl rfl rfl rfl fill_nil))) rfl fun b258 _ _ => ⟨_, (.put rfl), ?_⟩)
 refine At.freezeLit (K := CZ) (k := 1) (H2 := (b181, _) :: (b178, _) :: H) (fun X => X ++ ((b181, _) :: (b178, _) :: H)) .id rfl (Enc.le (Enc.cons (x := 2) rfl rfl (Enc.cons (x := 1) rfl rfl (Enc.cons (x := 0) rfl rfl Enc.nil))) rfl) rfl (fun Rf260 hRf260 hf260 => ?_)
 replace hG := hG.mono hRf260
 replace hx177r0_3 := hx177r0_3.mono hRf260
 replace hx177r0_4 := hx177r0_4.mono hRf260
 replace hx177r0_5 := hx177r0_5.mono hRf260
 replace hx180r0_3 := hx180r0_3.mono hRf260
 replace hx180r0_4 := hx180r0_4.mono hRf260
 replace hx180r0_5 := hx180r0_5.mono hRf260
 obtain ⟨x259, hx259, hM⟩ := bnd hM
 refine At.cv ent23 (m23_ok x177 [2, 1, 0] hG hx177r0_3 hx177r0_4 hx177r0_5 hf260 hx259) ?_
 rintro _ Rx259 _ ⟨hRx259, rfl, rfl⟩
 replace hG := hG.mono hRx259
 replace hx177r0_3 := hx177r0_3.mono hRx259
 replace hx177r0_4 := hx177r0_4.mono hRx259
 replace hx177r0_5 := hx177r0_5.mono hRx259
 replace hx180r0_3 := hx180r0_3.mono hRx259
 replace hx180r0_4 := hx180r0_4.mono hRx259
 replace hx180r0_5 := hx180r0_5.mono hRx259
 refine vs 5 ?_
 refine nx rg7 ?_
 refine lN [_, _, _, _, _, _] 0 6 agg28 z1 ?_
 refine At.s rfl rfl (Ox.buildSlice (cells := #[_, _, _]) rfl elem25 rfl (by decide) base25_3 (fill_cons rfl rfl rfl rfl (fill_cons rfl rfl rfl rfl (fill_cons rfl rfl rfl rfl fill_nil))) rfl fun b261 _ _ => ⟨_, (.put rfl), ?_⟩)
 refine At.freezeLit (K := CZ) (k := 1) (H2 := (b181, _) :: (b178, _) :: H) (fun X => X ++ ((b181, _) :: (b178, _) :: H)) .id rfl (Enc.le (Enc.cons (x := 0) rfl rfl (Enc.cons (x := 1) rfl rfl (Enc.cons (x := 2) rfl rfl Enc.nil))) rfl) rfl (fun Rf263 hRf263 hf263 => ?_)
 replace hG := hG.mono hRf263
 replace hx177r0_3 := hx177r0_3.mono hRf263
 replace hx177r0_4 := hx177r0_4.mono hRf263
 replace hx177r0_5 := hx177r0_5.mono hRf263
 replace hx180r0_3 := hx180r0_3.mono hRf263
 replace hx180r0_4 := hx180r0_4.mono hRf263
 replace hx180r0_5 := hx180r0_5.mono hRf263
 obtain ⟨x262, hx262, hM⟩ := bnd hM
 refine At.cv ent23 (m23_ok x177 [0, 1, 2] hG hx177r0_3 hx177r0_4 hx177r0_5 hf263 hx262) ?_
 rintro _ Rx262 _ ⟨hRx262, rfl, rfl⟩
 replace hG := hG.mono hRx262
 replace hx177r0_3 := hx177r0_3.mono hRx262
 replace hx177r0_4 := hx177r0_4.mono hRx262
 replace hx177r0_5 := hx177r0_5.mono hRx262
 replace hx180r0_3 := hx180r0_3.mono hRx262
 replace hx180r0_4 := hx180r0_4.mono hRx262
 replace hx180r0_5 := hx180r0_5.mono hRx262
 refine vs 4 ?_
 refine nx rg7 ?_
 refine lN [_, _, _, _, _, _] 0 6 agg28 z1 ?_
 obtain ⟨x264, hx264, hM⟩ := bnd hM
 refine At.cv ent25 (m25_ok x177 hG hK hx177r0_3 hx177r0_4 hx177r0_5 hx264) ?_
 rintro _ Rx264 _ ⟨hRx264, rfl, rfl⟩
 replace hG := hG.mono hRx264
 replace hx177r0_3 := hx177r0_3.mono hRx264
 replace hx177r0_4 := hx177r0_4.mono hRx264
 replace hx177r0_5 := hx177r0_5.mono hRx264
 replace hx180r0_3 := hx180r0_3.mono hRx264
 replace hx180r0_4 := hx180r0_4.mono hRx264
 replace hx180r0_5 := hx180r0_5.mono hRx264
 refine vs 5 ?_
 refine nx rg9 ?_
 refine lN [_, _, _, _, _, _] 0 6 agg28 z1 ?_
 obtain ⟨x265, hx265, hM⟩ := bnd hM
 refine At.cv ent27 (m27_ok x177 hG hK hx177r0_3 hx177r0_4 hx177r0_5 hx265) ?_
 rintro _ Rx265 _ ⟨hRx265, rfl, vx265r0, hx265r0, rfl⟩
 replace hG := hG.mono hRx265
 replace hx177r0_3 := hx177r0_3.mono hRx265
 replace hx177r0_4 := hx177r0_4.mono hRx265
 replace hx177r0_5 := hx177r0_5.mono hRx265
 replace hx180r0_3 := hx180r0_3.mono hRx265
 replace hx180r0_4 := hx180r0_4.mono hRx265
 replace hx180r0_5 := hx180r0_5.mono hRx265
 refine vs 7 ?_
 refine nx rg9 ?_
 refine lN [_, _, _, _, _, _] 0 6 agg28 z1 ?_
 obtain ⟨x266, hx266, hM⟩ := bnd hM
 refine At.cv ent29 (m29_ok x177 hG hK hx177r0_3 hx177r0_4 hx177r0_5 hx266) ?_
 rintro _ Rx266 _ ⟨hRx266, rfl, vx266r0, hx266r0, rfl⟩
 replace hG := hG.mono hRx266
 replace hx177r0_3 := hx177r0_3.mono hRx266
 replace hx177r0_4 := hx177r0_4.mono hRx266
 replace hx177r0_5 := hx177r0_5.mono hRx266
 replace hx180r0_3 := hx180r0_3.mono hRx266
 replace hx180r0_4 := hx180r0_4.mono hRx266
 replace hx180r0_5 := hx180r0_5.mono hRx266
 replace hx265r0 := hx265r0.mono hRx266
 refine vs 7 ?_
 refine nx rg7 ?_
 refine lN [_, _, _, _, _, _] 0 6 agg28 z0 ?_
 obtain ⟨x267, hx267, hM⟩ := bnd hM
 refine At.cv ent25 (m25_ok x180 hG hK hx180r0_3 hx180r0_4 hx180r0_5 hx267) ?_
 rintro _ Rx267 _ ⟨hRx267, rfl, rfl⟩
 replace hG := hG.mono hRx267
 replace hx177r0_3 := hx177r0_3.mono hRx267
 replace hx177r0_4 := hx177r0_4.mono hRx267
 replace hx177r0_5 := hx177r0_5.mono hRx267
 replace hx265r0 := hx265r0.mono hRx267
 replace hx266r0 := hx266r0.mono hRx267
 refine vs 5 ?_
 refine es ?_
 refine sq ?_
 refine At.joinE1 hM (fun (p268_0 : Bool) R' H' st' => Rx267 = R' ∧ H' = (b178, .cells #[iv x177.Limit, iv x177.Ballast.Least, iv x177.Ballast.Most, vx177r0_3, vx177r0_4, vx177r0_5] 28) :: H ∧ SubL st' [(1, .pointer (some ⟨b178, 0, none⟩)), (3, iv x264.1), (5, iv x267.1), (21, iv x256.1), (22, iv x259.1), (23, vx265r0), (24, .bool x265.2.1), (25, vx266r0), (26, iv x266.2.1), (228, .bool p268_0)])  ?_ ?_
 rotate_right
 ·intro x268 hM ex268_0
  refine At.rg rg26 ?_
  refine vs 3 ?_
  refine selC hM (fun ht275 hM => ?_) (fun ht275 hM => ?_)
  ·refine At.kn 205 ht275 ?_
   refine vs 23 ?_
   refine er ?_
   exact At.drop (so sr) (ex268_0 _ (sinj hM).symm _ _ _ ⟨rfl, rfl, SubT.sub ⟨rfl, rfl, rfl, rfl, rfl, rfl, rfl, rfl, rfl, rfl, trivial⟩⟩)
  refine At.kn 205 ht275 ?_
  refine vs 4 ?_
  refine selC hM (fun ht276 hM => ?_) (fun ht276 hM => ?_)
  ·refine At.kn 209 ht276 ?_
   refine vs 19 ?_
   refine er ?_
   exact At.drop (so sr) (ex268_0 _ (sinj hM).symm _ _ _ ⟨rfl, rfl, SubT.sub ⟨rfl, rfl, rfl, rfl, rfl, rfl, rfl, rfl, rfl, rfl, trivial⟩⟩)
  refine At.kn 209 ht276 ?_
  refine vs 4 ?_
  refine selC hM (fun ht277 hM => ?_) (fun ht277 hM => ?_)
  ·refine At.kn 213 ht277 ?_
   refine vs 15 ?_
   refine er ?_
   exact At.drop (so sr) (ex268_0 _ (sinj hM).symm _ _ _ ⟨rfl, rfl, SubT.sub ⟨rfl, rfl, rfl, rfl, rfl, rfl, rfl, rfl, rfl, rfl, trivial⟩⟩)
  refine At.kn 213 ht277 ?_
  refine vs 4 ?_
  refine selC hM (fun ht278 hM => ?_) (fun ht278 hM => ?_)
  ·refine At.kn 217 ht278 ?_
   refine vs 11 ?_
   refine er ?_
   exact At.drop (so sr) (ex268_0 _ (sinj hM).symm _ _ _ ⟨rfl, rfl, SubT.sub ⟨rfl, rfl, rfl, rfl, rfl, rfl, rfl, rfl, rfl, rfl, trivial⟩⟩)
  refine At.kn 217 ht278 ?_
  refine vs 4 ?_
  refine selC hM (fun ht279 hM => ?_) (fun ht279 hM => ?_)
  ·refine At.kn 221 ht279 ?_
   refine vs 7 ?_
   refine er ?_
   exact At.drop (so sr) (ex268_0 _ (sinj hM).symm _ _ _ ⟨rfl, rfl, SubT.sub ⟨rfl, rfl, rfl, rfl, rfl, rfl, rfl, rfl, rfl, rfl, trivial⟩⟩)
  refine At.kn 221 ht279 ?_
  refine vs 4 ?_
  refine selC hM (fun ht280 hM => ?_) (fun ht280 hM => ?_)
  ·refine At.kn 225 ht280 ?_
   refine vs 3 ?_
   refine er ?_
   exact At.drop (so sr) (ex268_0 _ (sinj hM).symm _ _ _ ⟨rfl, rfl, SubT.sub ⟨rfl, rfl, rfl, rfl, rfl, rfl, rfl, rfl, rfl, rfl, trivial⟩⟩)
  refine At.kn 225 ht280 ?_
  refine vs 3 ?_
  refine er ?_
  exact At.drop (so sr) (ex268_0 _ (sinj hM).symm _ _ _ ⟨rfl, rfl, SubT.sub ⟨rfl, rfl, rfl, rfl, rfl, rfl, rfl, rfl, rfl, rfl, trivial⟩⟩)
 rintro p268_0 R268_0 H268_0 st268_0 ⟨rfl, rfl, hst268_0⟩ hM
 refine At.sub hst268_0 ?_
 refine sc hM (fun ht283 hM => ?_) (fun ht283 hM => ?_)
 ·refine sg rg1 ?_
  refine vs 1 ?_
  refine er ?_
  obtain rfl := sinj hM
  exact rt Tryz.func19 (.tmp rfl .nil) (so sr) (hk _ _ _ ⟨(((((((((((((((((((((((((hRx177.trans hRx179).trans hRx180).trans hRf185).trans hRx184).trans hRx186).trans hRx187).trans hRf190).trans hRx189).trans hRf194).trans hRx193).trans hRf197).trans hRx196).trans hRx198).trans hRx199).trans hRx200).trans hRf257).trans hRx256).trans hRf260).trans hRx259).trans hRf263).trans hRx262).trans hRx264).trans hRx265).trans hRx266).trans hRx267), rfl, rfl⟩)
 refine sp ?_
 refine sq ?_
 refine sq ?_
 refine At.joinE1 hM (fun (p284_0 : Bool) R' H' st' => Rx267 = R' ∧ H' = (b178, .cells #[iv x177.Limit, iv x177.Ballast.Least, iv x177.Ballast.Most, vx177r0_3, vx177r0_4, vx177r0_5] 28) :: H ∧ SubL st' [(1, .pointer (some ⟨b178, 0, none⟩)), (262, .bool p284_0)])  ?_ ?_
 rotate_right
 ·intro x284 hM ex284_0
  refine At.rg rg34 ?_
  refine vs 3 ?_
  refine selC hM (fun ht296 hM => ?_) (fun ht296 hM => ?_)
  ·refine At.kn 231 ht296 ?_
   refine vs 31 ?_
   refine er ?_
   exact ex284_0 _ (sinj hM).symm _ _ _ ⟨rfl, rfl, SubT.sub ⟨rfl, rfl, trivial⟩⟩
  refine At.kn 231 ht296 ?_
  refine vs 4 ?_
  refine selC hM (fun ht297 hM => ?_) (fun ht297 hM => ?_)
  ·refine At.kn 235 ht297 ?_
   refine vs 27 ?_
   refine er ?_
   exact ex284_0 _ (sinj hM).symm _ _ _ ⟨rfl, rfl, SubT.sub ⟨rfl, rfl, trivial⟩⟩
  refine At.kn 235 ht297 ?_
  refine vs 4 ?_
  refine selC hM (fun ht298 hM => ?_) (fun ht298 hM => ?_)
  ·refine At.kn 239 ht298 ?_
   refine vs 23 ?_
   refine er ?_
   exact ex284_0 _ (sinj hM).symm _ _ _ ⟨rfl, rfl, SubT.sub ⟨rfl, rfl, trivial⟩⟩
  refine At.kn 239 ht298 ?_
  refine vs 4 ?_
  refine selC hM (fun ht299 hM => ?_) (fun ht299 hM => ?_)
  ·refine At.kn 243 ht299 ?_
   refine vs 19 ?_
   refine er ?_
   exact ex284_0 _ (sinj hM).symm _ _ _ ⟨rfl, rfl, SubT.sub ⟨rfl, rfl, trivial⟩⟩
  refine At.kn 243 ht299 ?_
  refine vs 1 ?_
  refine At.s rfl rfl (Ox.buildSlice (cells := #[_, _, _]) rfl elem25 rfl (by decide) base25_3 (fill_cons rfl rfl rfl rfl (fill_cons rfl rfl rfl rfl (fill_cons rfl rfl rfl rfl fill_nil))) rfl fun b300 _ _ => ⟨_, (.put rfl), ?_⟩)
  obtain ⟨x301, hx301, hM⟩ := bnd hM
  refine At.cv ent88 (m88_ok x265.1 [2, 0, 1] hx265r0.rd (RdS.lit z0 (Enc.le (Enc.cons (x := 2) rfl rfl (Enc.cons (x := 0) rfl rfl (Enc.cons (x := 1) rfl rfl Enc.nil))) rfl) rfl) hx301) ?_
  rintro _ _ _ ⟨rfl, rfl, rfl⟩
  refine vs 3 ?_
  refine selC hM (fun ht302 hM => ?_) (fun ht302 hM => ?_)
  ·refine At.kn 249 ht302 ?_
   refine vs 13 ?_
   refine er ?_
   exact At.drop (so sr) (ex284_0 _ (sinj hM).symm _ _ _ ⟨rfl, rfl, SubT.sub ⟨rfl, rfl, trivial⟩⟩)
  refine At.kn 249 ht302 ?_
  refine vs 1 ?_
  refine At.s rfl rfl (Ox.buildSlice (cells := #[_, _, _]) rfl elem25 rfl (by decide) base25_3 (fill_cons rfl rfl rfl rfl (fill_cons rfl rfl rfl rfl (fill_cons rfl rfl rfl rfl fill_nil))) rfl fun b303 _ _ => ⟨_, (.put rfl), ?_⟩)
  obtain ⟨x304, hx304, hM⟩ := bnd hM
  refine At.cv ent88 (m88_ok x266.1 [2, 0, 1] hx266r0.rd (RdS.lit z0 (Enc.le (Enc.cons (x := 2) rfl rfl (Enc.cons (x := 0) rfl rfl (Enc.cons (x := 1) rfl rfl Enc.nil))) rfl) rfl) hx304) ?_
  rintro _ _ _ ⟨rfl, rfl, rfl⟩
  refine vs 3 ?_
  refine selC hM (fun ht305 hM => ?_) (fun ht305 hM => ?_)
  ·refine At.kn 255 ht305 ?_
   refine vs 7 ?_
   refine er ?_
   exact At.drop (so (so sr)) (ex284_0 _ (sinj hM).symm _ _ _ ⟨rfl, rfl, SubT.sub ⟨rfl, rfl, trivial⟩⟩)
  refine At.kn 255 ht305 ?_
  refine vs 4 ?_
  refine selC hM (fun ht306 hM => ?_) (fun ht306 hM => ?_)
  ·refine At.kn 259 ht306 ?_
   refine vs 3 ?_
   refine er ?_
   exact At.drop (so (so sr)) (ex284_0 _ (sinj hM).symm _ _ _ ⟨rfl, rfl, SubT.sub ⟨rfl, rfl, trivial⟩⟩)
  refine At.kn 259 ht306 ?_
  refine vs 3 ?_
  refine er ?_
  exact At.drop (so (so sr)) (ex284_0 _ (sinj hM).symm _ _ _ ⟨rfl, rfl, SubT.sub ⟨rfl, rfl, trivial⟩⟩)
 rintro p284_0 R284_0 H284_0 st284_0 ⟨rfl, rfl, hst284_0⟩ hM
 refine At.sub hst284_0 ?_
 refine sc hM (fun ht309 hM => ?_) (fun ht309 hM => ?_)
 ·refine sg rg1 ?_
  refine vs 1 ?_
  refine er ?_
  obtain rfl := sinj hM
  exact rt Tryz.func19 (.tmp rfl .nil) (so sr) (hk _ _ _ ⟨(((((((((((((((((((((((((hRx177.trans hRx179).trans hRx180).trans hRf185).trans hRx184).trans hRx186).trans hRx187).trans hRf190).trans hRx189).trans hRf194).trans hRx193).trans hRf197).trans hRx196).trans hRx198).trans hRx199).trans hRx200).trans hRf257).trans hRx256).trans hRf260).trans hRx259).trans hRf263).trans hRx262).trans hRx264).trans hRx265).trans hRx266).trans hRx267), rfl, rfl⟩)
 refine sp ?_
 refine sg rg9 ?_
 refine lN [_, _, _, _, _, _] 0 6 agg28 z0 ?_
 obtain ⟨x310, hx310, hM⟩ := bnd hM
 refine At.cv ent33 (m33_ok x177 hG hx177r0_3 hx177r0_4 hx177r0_5 hx310) ?_
 rintro _ Rx310 _ ⟨hRx310, rfl, rfl⟩
 replace hG := hG.mono hRx310
 replace hx177r0_3 := hx177r0_3.mono hRx310
 replace hx177r0_4 := hx177r0_4.mono hRx310
 replace hx177r0_5 := hx177r0_5.mono hRx310
 refine vs 7 ?_
 refine nx rg6 ?_
 refine lN [_, _, _, _, _, _] 0 6 agg28 z0 ?_
 obtain ⟨x311, hx311, hM⟩ := bnd hM
 refine At.cv ent40 (m40_ok x177 0 hG hx177r0_3 hx177r0_4 hx177r0_5 hx311) ?_
 rintro _ Rx311 _ ⟨hRx311, rfl, vx311r0_3, vx311r0_4, vx311r0_5, hx311r0_3, hx311r0_4, hx311r0_5, rfl⟩
 replace hG := hG.mono hRx311
 replace hx177r0_3 := hx177r0_3.mono hRx311
 replace hx177r0_4 := hx177r0_4.mono hRx311
 replace hx177r0_5 := hx177r0_5.mono hRx311
 refine vs 4 ?_
 refine nx rg8 ?_
 refine lN [_, _, _, _, _, _] 0 6 agg28 z0 ?_
 obtain ⟨x312, hx312, hM⟩ := bnd hM
 refine At.cv ent40 (m40_ok x177 2 hG hx177r0_3 hx177r0_4 hx177r0_5 hx312) ?_
 rintro _ Rx312 _ ⟨hRx312, rfl, vx312r0_3, vx312r0_4, vx312r0_5, hx312r0_3, hx312r0_4, hx312r0_5, rfl⟩
 replace hG := hG.mono hRx312
 replace hx177r0_3 := hx177r0_3.mono hRx312
 replace hx177r0_4 := hx177r0_4.mono hRx312
 replace hx177r0_5 := hx177r0_5.mono hRx312
 refine vs 3 ?_
 refine At.s rfl rfl (Ox.alloc (cs := #[iv 0, iv 0, iv 0, .slice none 0 0, .slice none 0 0, .slice none 0 0]) rfl zero28 rfl fun b313 _ _ => ⟨_, (.put rfl), ?_⟩)
 refine At.s rfl rfl (Ox.storeN (cs' := #[_, _, _, _, _, _]) rfl rfl rfl agg28 rfl (ones_cons rfl (ones_cons rfl (ones_cons rfl (ones_cons hx312r0_3.one (ones_cons hx312r0_4.one (ones_cons hx312r0_5.one ones_nil)))))) .here rfl rfl rfl (.refl _) ?_)
 refine vs 1 ?_
 refine nx rg7 ?_
 refine lN [_, _, _, _, _, _] 0 6 agg28 z0 ?_
 refine At.s rfl rfl (Ox.build (cells := #[_, _]) rfl struct47 rfl (fill_cons rfl rfl rfl rfl (fill_cons rfl rfl rfl rfl fill_nil)) rfl (.put rfl) ?_)
 obtain ⟨x314, hx314, hM⟩ := bnd hM
 refine At.cv ent35 (m35_ok x312.1 (⟨1, 2⟩ : HullHeel) hG hx312r0_3 hx312r0_4 hx312r0_5 hx314) ?_
 rintro _ Rx314 _ ⟨hRx314, rfl, vx314r0_3, vx314r0_4, vx314r0_5, hx314r0_3, hx314r0_4, hx314r0_5, rfl⟩
 replace hG := hG.mono hRx314
 replace hx177r0_3 := hx177r0_3.mono hRx314
 replace hx177r0_4 := hx177r0_4.mono hRx314
 replace hx177r0_5 := hx177r0_5.mono hRx314
 refine vs 4 ?_
 refine nx rg7 ?_
 refine lN [_, _, _, _, _, _] 0 6 agg28 z1 ?_
 refine At.s rfl rfl (Ox.build (cells := #[_, _]) rfl struct47 rfl (fill_cons rfl rfl rfl rfl fill_nil) rfl (.put rfl) ?_)
 obtain ⟨x315, hx315, hM⟩ := bnd hM
 refine At.cv ent60 (m60_ok x177 (⟨0, 1⟩ : HullHeel) hx177r0_3 hx177r0_4 hx177r0_5 hx315) ?_
 rintro _ Rx315 _ ⟨hRx315, rfl, vx315r0_3, vx315r0_4, vx315r0_5, hx315r0_3, hx315r0_4, hx315r0_5, rfl⟩
 replace hG := hG.mono hRx315
 replace hx177r0_3 := hx177r0_3.mono hRx315
 replace hx177r0_4 := hx177r0_4.mono hRx315
 replace hx177r0_5 := hx177r0_5.mono hRx315
 refine At.s rfl rfl (Ox.build (cells := #[_, _]) rfl struct47 rfl (fill_cons rfl rfl rfl rfl fill_nil) rfl (.put rfl) ?_)
 obtain ⟨x316, hx316, hM⟩ := bnd hM
 refine At.cv ent60 (m60_ok x315 (⟨0, 2⟩ : HullHeel) hx315r0_3 hx315r0_4 hx315r0_5 hx316) ?_
 rintro _ Rx316 _ ⟨hRx316, rfl, vx316r0_3, vx316r0_4, vx316r0_5, hx316r0_3, hx316r0_4, hx316r0_5, rfl⟩
 replace hG := hG.mono hRx316
 replace hx177r0_3 := hx177r0_3.mono hRx316
 replace hx177r0_4 := hx177r0_4.mono hRx316
 replace hx177r0_5 := hx177r0_5.mono hRx316
 refine At.s rfl rfl (Ox.alloc (cs := #[iv 0, iv 0, iv 0, .slice none 0 0, .slice none 0 0, .slice none 0 0]) rfl zero28 rfl fun b317 _ _ => ⟨_, (.put rfl), ?_⟩)
 refine At.s rfl rfl (Ox.storeN (cs' := #[_, _, _, _, _, _]) rfl rfl rfl agg28 rfl (ones_cons rfl (ones_cons rfl (ones_cons rfl (ones_cons hx316r0_3.one (ones_cons hx316r0_4.one (ones_cons hx316r0_5.one ones_nil)))))) .here rfl rfl rfl (.refl _) ?_)
 refine nx rg7 ?_
 refine lN [_, _, _, _, _, _] 0 6 agg28 z0 ?_
 obtain ⟨x318, hx318, hM⟩ := bnd hM
 refine At.cv ent31 (m31_ok x316 hG hx316r0_3 hx316r0_4 hx316r0_5 hx318) ?_
 rintro _ Rx318 _ ⟨hRx318, rfl, vx318r0, hx318r0, rfl⟩
 replace hG := hG.mono hRx318
 replace hx177r0_3 := hx177r0_3.mono hRx318
 replace hx177r0_4 := hx177r0_4.mono hRx318
 replace hx177r0_5 := hx177r0_5.mono hRx318
 refine vs 5 ?_
 refine es ?_
 refine At.draw (n := 8) (is := [0, 1, 2, 3, 4, 5, 6, 7]) (many ((b317, .cells #[iv x316.Limit, iv x316.Ballast.Least, iv x316.Ballast.Most, vx316r0_3, vx316r0_4, vx316r0_5] 28) :: (b313, .cells #[iv x312.1.Limit, iv x312.1.Ballast.Least, iv x312.1.Ballast.Most, vx312r0_3, vx312r0_4, vx312r0_5] 28) :: (b178, .cells #[iv x177.Limit, iv x177.Ballast.Least, iv x177.Ballast.Most, vx177r0_3, vx177r0_4, vx177r0_5] 28) :: H) [(6, (b317, .cells #[iv x316.Limit, iv x316.Ballast.Least, iv x316.Ballast.Most, vx316r0_3, vx316r0_4, vx316r0_5] 28) :: (b178, .cells #[iv x177.Limit, iv x177.Ballast.Least, iv x177.Ballast.Most, vx177r0_3, vx177r0_4, vx177r0_5] 28) :: H)]) mixed rfl (by decide +kernel) rfl rfl ?_
 refine ts 0 [2, 3, 4, 5, 6, 7] rfl (many_skip rfl (many_nil (su (so (so sr))))) (su (so (so sr))) (fun R' H' hR hS => Ox.loadN (vs := [_, _, _, _, _, _]) rfl rfl agg28 rfl ((CellsAt.box (hS _ z0)).part (j := 0) (n := 6) rfl) rfl (.one rfl) ⟨rfl, rfl, rfl⟩) ?_
 obtain ⟨x319, hx319, hM⟩ := bnd hM
 refine Any.cv 1 ent45 (m45_ok 21  hx319) ?_
 rintro _ _ _ ⟨rfl, rfl, rfl⟩
 refine ⟨rr, (many_at rfl pp), ?_⟩
 obtain ⟨x320, hx320, hM⟩ := bnd hM
 refine Any.cv 2 ent38 (m38_ok x177 0 x319 hG hx177r0_3 hx177r0_4 hx177r0_5 hx320) ?_
 rintro _ Rx320 _ ⟨hRx320, rfl, vx320r0_3, vx320r0_4, vx320r0_5, hx320r0_3, hx320r0_4, hx320r0_5, rfl⟩
 replace hG := hG.mono hRx320
 replace hx318r0 := hx318r0.mono hRx320
 refine ⟨hRx320, (many_at rfl pp), ?_⟩
 refine Any.vs 3 [3, 4, 5] rfl ?_
 refine Any.on 6 rfl rfl (SemTo.to (Ox.storeN (cs' := #[_, _, _, _, _, _]) rfl rfl rfl agg28 rfl (ones_cons rfl (ones_cons rfl (ones_cons rfl (ones_cons hx320r0_3.one (ones_cons hx320r0_4.one (ones_cons hx320r0_5.one ones_nil)))))) (.there .here) rfl rfl rfl (.refl _) ⟨rr, (many_at rfl (su (sk (so sr)))), ?_⟩))
 refine Any.vs 1 [7] rfl ?_
 refine Any.done ?_
 refine sg rg7 ?_
 refine lN [_, _, _, _, _, _] 0 6 agg28 z1 ?_
 obtain ⟨x321, hx321, hM⟩ := bnd hM
 refine At.cv ent25 (m25_ok x320.1 hG hK hx320r0_3 hx320r0_4 hx320r0_5 hx321) ?_
 rintro _ Rx321 _ ⟨hRx321, rfl, rfl⟩
 replace hx318r0 := hx318r0.mono hRx321
 refine vs 5 ?_
 refine nx rg44 ?_
 refine vs 3 ?_
 refine selC hM (fun ht322 hM => ?_) (fun ht322 hM => ?_)
 ·refine At.kn 308 ht322 ?_
  refine vs 4 ?_
  refine selC hM (fun ht323 hM => ?_) (fun ht323 hM => ?_)
  ·refine At.kn 312 ht323 ?_
   refine vs 4 ?_
   refine selC hM (fun ht324 hM => ?_) (fun ht324 hM => ?_)
   ·refine At.kn 316 ht324 ?_
    refine vs 4 ?_
    refine selC hM (fun ht325 hM => ?_) (fun ht325 hM => ?_)
    ·refine At.kn 320 ht325 ?_
     refine vs 4 ?_
     refine selC hM (fun ht326 hM => ?_) (fun ht326 hM => ?_)
     ·refine At.kn 324 ht326 ?_
      refine vs 4 ?_
      refine selC hM (fun ht327 hM => ?_) (fun ht327 hM => ?_)
      ·refine At.kn 328 ht327 ?_
       refine vs 4 ?_
       refine selC hM (fun ht328 hM => ?_) (fun ht328 hM => ?_)
       ·refine At.kn 332 ht328 ?_
        refine vs 4 ?_
        refine selC hM (fun ht329 hM => ?_) (fun ht329 hM => ?_)
        ·refine At.kn 336 ht329 ?_
         refine vs 4 ?_
         refine selC hM (fun ht330 hM => ?_) (fun ht330 hM => ?_)
         ·refine At.kn 340 ht330 ?_
          refine vs 1 ?_
          refine At.s rfl rfl (Ox.buildSlice (cells := #[_]) rfl elem25 rfl (by decide) base25_1 (fill_cons rfl rfl rfl rfl fill_nil) rfl fun b331 _ _ => ⟨_, (.put rfl), ?_⟩)
          obtain ⟨x332, hx332, hM⟩ := bnd hM
          refine At.cv ent88 (m88_ok x318.1 [0] hx318r0.rd (RdS.lit z0 (Enc.le (Enc.cons (x := 0) rfl rfl Enc.nil) rfl) rfl) hx332) ?_
          rintro _ _ _ ⟨rfl, rfl, rfl⟩
          refine vs 2 ?_
          refine selC hM (fun ht333 hM => ?_) (fun ht333 hM => ?_)
          ·refine At.kn 345 ht333 ?_
           refine vs 4 ?_
           refine er ?_
           obtain rfl := sinj hM
           exact rt Tryz.func19 (.tmp rfl .nil) (so (so (so (so sr)))) (hk _ _ _ ⟨((((((((((((((((((((((((((((((((((hRx177.trans hRx179).trans hRx180).trans hRf185).trans hRx184).trans hRx186).trans hRx187).trans hRf190).trans hRx189).trans hRf194).trans hRx193).trans hRf197).trans hRx196).trans hRx198).trans hRx199).trans hRx200).trans hRf257).trans hRx256).trans hRf260).trans hRx259).trans hRf263).trans hRx262).trans hRx264).trans hRx265).trans hRx266).trans hRx267).trans hRx310).trans hRx311).trans hRx312).trans hRx314).trans hRx315).trans hRx316).trans hRx318).trans hRx320).trans hRx321), rfl, rfl⟩)
          refine At.kn 345 ht333 ?_
          refine vs 4 ?_
          refine er ?_
          obtain rfl := sinj hM
          exact rt Tryz.func19 (.tmp rfl .nil) (so (so (so (so sr)))) (hk _ _ _ ⟨((((((((((((((((((((((((((((((((((hRx177.trans hRx179).trans hRx180).trans hRf185).trans hRx184).trans hRx186).trans hRx187).trans hRf190).trans hRx189).trans hRf194).trans hRx193).trans hRf197).trans hRx196).trans hRx198).trans hRx199).trans hRx200).trans hRf257).trans hRx256).trans hRf260).trans hRx259).trans hRf263).trans hRx262).trans hRx264).trans hRx265).trans hRx266).trans hRx267).trans hRx310).trans hRx311).trans hRx312).trans hRx314).trans hRx315).trans hRx316).trans hRx318).trans hRx320).trans hRx321), rfl, rfl⟩)
         refine At.kn 340 ht330 ?_
         refine vs 9 ?_
         refine er ?_
         obtain rfl := sinj hM
         exact rt Tryz.func19 (.tmp rfl .nil) (so (so (so sr))) (hk _ _ _ ⟨((((((((((((((((((((((((((((((((((hRx177.trans hRx179).trans hRx180).trans hRf185).trans hRx184).trans hRx186).trans hRx187).trans hRf190).trans hRx189).trans hRf194).trans hRx193).trans hRf197).trans hRx196).trans hRx198).trans hRx199).trans hRx200).trans hRf257).trans hRx256).trans hRf260).trans hRx259).trans hRf263).trans hRx262).trans hRx264).trans hRx265).trans hRx266).trans hRx267).trans hRx310).trans hRx311).trans hRx312).trans hRx314).trans hRx315).trans hRx316).trans hRx318).trans hRx320).trans hRx321), rfl, rfl⟩)
        refine At.kn 336 ht329 ?_
        refine vs 13 ?_
        refine er ?_
        obtain rfl := sinj hM
        exact rt Tryz.func19 (.tmp rfl .nil) (so (so (so sr))) (hk _ _ _ ⟨((((((((((((((((((((((((((((((((((hRx177.trans hRx179).trans hRx180).trans hRf185).trans hRx184).trans hRx186).trans hRx187).trans hRf190).trans hRx189).trans hRf194).trans hRx193).trans hRf197).trans hRx196).trans hRx198).trans hRx199).trans hRx200).trans hRf257).trans hRx256).trans hRf260).trans hRx259).trans hRf263).trans hRx262).trans hRx264).trans hRx265).trans hRx266).trans hRx267).trans hRx310).trans hRx311).trans hRx312).trans hRx314).trans hRx315).trans hRx316).trans hRx318).trans hRx320).trans hRx321), rfl, rfl⟩)
       refine At.kn 332 ht328 ?_
       refine vs 17 ?_
       refine er ?_
       obtain rfl := sinj hM
       exact rt Tryz.func19 (.tmp rfl .nil) (so (so (so sr))) (hk _ _ _ ⟨((((((((((((((((((((((((((((((((((hRx177.trans hRx179).trans hRx180).trans hRf185).trans hRx184).trans hRx186).trans hRx187).trans hRf190).trans hRx189).trans hRf194).trans hRx193).trans hRf197).trans hRx196).trans hRx198).trans hRx199).trans hRx200).trans hRf257).trans hRx256).trans hRf260).trans hRx259).trans hRf263).trans hRx262).trans hRx264).trans hRx265).trans hRx266).trans hRx267).trans hRx310).trans hRx311).trans hRx312).trans hRx314).trans hRx315).trans hRx316).trans hRx318).trans hRx320).trans hRx321), rfl, rfl⟩)
      refine At.kn 328 ht327 ?_
      refine vs 21 ?_
      refine er ?_
      obtain rfl := sinj hM
      exact rt Tryz.func19 (.tmp rfl .nil) (so (so (so sr))) (hk _ _ _ ⟨((((((((((((((((((((((((((((((((((hRx177.trans hRx179).trans hRx180).trans hRf185).trans hRx184).trans hRx186).trans hRx187).trans hRf190).trans hRx189).trans hRf194).trans hRx193).trans hRf197).trans hRx196).trans hRx198).trans hRx199).trans hRx200).trans hRf257).trans hRx256).trans hRf260).trans hRx259).trans hRf263).trans hRx262).trans hRx264).trans hRx265).trans hRx266).trans hRx267).trans hRx310).trans hRx311).trans hRx312).trans hRx314).trans hRx315).trans hRx316).trans hRx318).trans hRx320).trans hRx321), rfl, rfl⟩)
     refine At.kn 324 ht326 ?_
     refine vs 25 ?_
     refine er ?_
     obtain rfl := sinj hM
     exact rt Tryz.func19 (.tmp rfl .nil) (so (so (so sr))) (hk _ _ _ ⟨((((((((((((((((((((((((((((((((((hRx177.trans hRx179).trans hRx180).trans hRf185).trans hRx184).trans hRx186).trans hRx187).trans hRf190).trans hRx189).trans hRf194).trans hRx193).trans hRf197).trans hRx196).trans hRx198).trans hRx199).trans hRx200).trans hRf257).trans hRx256).trans hRf260).trans hRx259).trans hRf263).trans hRx262).trans hRx264).trans hRx265).trans hRx266).trans hRx267).trans hRx310).trans hRx311).trans hRx312).trans hRx314).trans hRx315).trans hRx316).trans hRx318).trans hRx320).trans hRx321), rfl, rfl⟩)
    refine At.kn 320 ht325 ?_
    refine vs 29 ?_
    refine er ?_
    obtain rfl := sinj hM
    exact rt Tryz.func19 (.tmp rfl .nil) (so (so (so sr))) (hk _ _ _ ⟨((((((((((((((((((((((((((((((((((hRx177.trans hRx179).trans hRx180).trans hRf185).trans hRx184).trans hRx186).trans hRx187).trans hRf190).trans hRx189).trans hRf194).trans hRx193).trans hRf197).trans hRx196).trans hRx198).trans hRx199).trans hRx200).trans hRf257).trans hRx256).trans hRf260).trans hRx259).trans hRf263).trans hRx262).trans hRx264).trans hRx265).trans hRx266).trans hRx267).trans hRx310).trans hRx311).trans hRx312).trans hRx314).trans hRx315).trans hRx316).trans hRx318).trans hRx320).trans hRx321), rfl, rfl⟩)
   refine At.kn 316 ht324 ?_
   refine vs 33 ?_
   refine er ?_
   obtain rfl := sinj hM
   exact rt Tryz.func19 (.tmp rfl .nil) (so (so (so sr))) (hk _ _ _ ⟨((((((((((((((((((((((((((((((((((hRx177.trans hRx179).trans hRx180).trans hRf185).trans hRx184).trans hRx186).trans hRx187).trans hRf190).trans hRx189).trans hRf194).trans hRx193).trans hRf197).trans hRx196).trans hRx198).trans hRx199).trans hRx200).trans hRf257).trans hRx256).trans hRf260).trans hRx259).trans hRf263).trans hRx262).trans hRx264).trans hRx265).trans hRx266).trans hRx267).trans hRx310).trans hRx311).trans hRx312).trans hRx314).trans hRx315).trans hRx316).trans hRx318).trans hRx320).trans hRx321), rfl, rfl⟩)
  refine At.kn 312 ht323 ?_
  refine vs 37 ?_
  refine er ?_
  obtain rfl := sinj hM
  exact rt Tryz.func19 (.tmp rfl .nil) (so (so (so sr))) (hk _ _ _ ⟨((((((((((((((((((((((((((((((((((hRx177.trans hRx179).trans hRx180).trans hRf185).trans hRx184).trans hRx186).trans hRx187).trans hRf190).trans hRx189).trans hRf194).trans hRx193).trans hRf197).trans hRx196).trans hRx198).trans hRx199).trans hRx200).trans hRf257).trans hRx256).trans hRf260).trans hRx259).trans hRf263).trans hRx262).trans hRx264).trans hRx265).trans hRx266).trans hRx267).trans hRx310).trans hRx311).trans hRx312).trans hRx314).trans hRx315).trans hRx316).trans hRx318).trans hRx320).trans hRx321), rfl, rfl⟩)
 refine At.kn 308 ht322 ?_
 refine vs 41 ?_
 refine er ?_
 obtain rfl := sinj hM
 exact rt Tryz.func19 (.tmp rfl .nil) (so (so (so sr))) (hk _ _ _ ⟨((((((((((((((((((((((((((((((((((hRx177.trans hRx179).trans hRx180).trans hRf185).trans hRx184).trans hRx186).trans hRx187).trans hRf190).trans hRx189).trans hRf194).trans hRx193).trans hRf197).trans hRx196).trans hRx198).trans hRx199).trans hRx200).trans hRf257).trans hRx256).trans hRf260).trans hRx259).trans hRf263).trans hRx262).trans hRx264).trans hRx265).trans hRx266).trans hRx267).trans hRx310).trans hRx311).trans hRx312).trans hRx314).trans hRx315).trans hRx316).trans hRx318).trans hRx320).trans hRx321), rfl, rfl⟩)
theorem m58_ok (x0 : Int) (x1 : Int) (x2 : Int)  {r : Bool} (hM : m58 x0 x1 x2 = some r) : FnOk 𝒥 58 #[iv x0, iv x1, iv x2] R H (fun v R' H' => R = R' ∧ H = H' ∧ v = .bool r) := by
 unfold m58 at hM
 refine FnOk.of_at Tryz.func58 rfl (n := 15) rfl rfl fun fr cs hk => ?_
 refine sg rg1 ?_
 refine vs 1 ?_
 refine nx rg9 ?_
 refine vs 4 ?_
 refine selC hM (fun ht21 hM => ?_) (fun ht21 hM => ?_)
 ·refine At.kn 10 ht21 ?_
  refine vs 5 ?_
  refine er ?_
  obtain rfl := sinj hM
  exact rt Tryz.func58 (.tmp rfl .nil) sr (hk _ _ _ ⟨rfl, rfl, rfl⟩)
 refine At.kn 10 ht21 ?_
 refine vs 5 ?_
 refine er ?_
 obtain rfl := sinj hM
 exact rt Tryz.func58 (.tmp rfl .nil) sr (hk _ _ _ ⟨rfl, rfl, rfl⟩)
theorem m124_ok (x0 : Reach) (x1 : Int) (x2 : Int)  {r : Bool} (hM : m124 x0 x1 x2 = some r) : FnOk 𝒥 124 #[.agg #[iv x0.Least, iv x0.Most], iv x1, iv x2] R H (fun v R' H' => R = R' ∧ H = H' ∧ v = .bool r) := by
 unfold m124 at hM
 refine FnOk.of_at Tryz.func124 rfl (n := 24) rfl rfl fun fr cs hk => ?_
 refine sg rg2 ?_
 refine bx fun b23 => ?_
 refine vs 1 ?_
 refine nx rg18 ?_
 refine vs 2 ?_
 refine ld 0 one3 z0 ?_
 refine vs 2 ?_
 refine selC hM (fun ht24 hM => ?_) (fun ht24 hM => ?_)
 ·refine At.kn 11 ht24 ?_
  refine vs 1 ?_
  refine ld 0 one3 z0 ?_
  refine vs 1 ?_
  refine ld 1 one3 z0 ?_
  refine vs 3 ?_
  refine selC hM (fun ht25 hM => ?_) (fun ht25 hM => ?_)
  ·refine At.kn 18 ht25 ?_
   refine vs 1 ?_
   refine ld 1 one3 z0 ?_
   refine vs 4 ?_
   refine er ?_
   obtain rfl := sinj hM
   exact rt Tryz.func124 (.tmp rfl .nil) (so sr) (hk _ _ _ ⟨rfl, rfl, rfl⟩)
  refine At.kn 18 ht25 ?_
  refine vs 6 ?_
  refine er ?_
  obtain rfl := sinj hM
  exact rt Tryz.func124 (.tmp rfl .nil) (so sr) (hk _ _ _ ⟨rfl, rfl, rfl⟩)
 refine At.kn 11 ht24 ?_
 refine vs 13 ?_
 refine er ?_
 obtain rfl := sinj hM
 exact rt Tryz.func124 (.tmp rfl .nil) (so sr) (hk _ _ _ ⟨rfl, rfl, rfl⟩)
theorem m47_ok (x0 : (List Int)) (x1 : Int) {v0 : Value} (h0 : RdS CZ 1 R H v0 x0) {r : Bool} (hM : m47 x0 x1 = some r) : FnOk 𝒥 47 #[v0, iv x1] R H (fun v R' H' => R = R' ∧ H = H' ∧ v = .bool r) := by
 unfold m47 at hM
 refine FnOk.of_at Tryz.func47 rfl (n := 18) rfl rfl fun fr cs hk => ?_
 refine sg rg1 ?_
 refine vs 1 ?_
 refine es ?_
 refine sg rg1 ?_
 refine vs 1 ?_
 refine er ?_
 refine At.block ?_
 refine At.loopE1R hM (fun (s36 : Int) R' H' st' => R = R' ∧ H = H' ∧ SubL st' [(0, v0), (1, iv x1), (5, iv s36)]) (fun (p36_0 : Unit) R' H' st' => R = R' ∧ H = H' ∧ SubL st' []) 0 rfl ⟨rfl, rfl, SubT.sub ⟨rfl, rfl, rfl, trivial⟩⟩ ?_ ?_
 rotate_right
 ·rintro s36 R36 H36 st36 ⟨rfl, rfl, hst36⟩ x36 hM again36 ex36_0 out36
  refine At.sub hst36 ?_
  refine sq ?_
  refine sg rg4 ?_
  refine vs 2 ?_
  refine lr h0 Tryz.underlying25 ?_
  refine vs 1 ?_
  refine er ?_
  refine sc hM (fun ht49 hM => ?_) (fun ht49 hM => ?_)
  ·refine sp ?_
   refine sq ?_
   refine At.block ?_
   refine sg rg6 ?_
   refine vs 2 ?_
   obtain ⟨x50, hx50, hM⟩ := bnd hM
   obtain ⟨bx50, ox50, _, rfl, hcx50, hix50⟩ := h0.elem slice25 hx50
   refine At.s rfl rfl (Ox.indexV rfl rfl rfl hix50 rfl (.put rfl) ?_)
   refine At.ld one3 ((hcx50.sub pp).one (j := 0) rfl) ?_
   refine vs 2 ?_
   refine er ?_
   refine sc hM (fun ht51 hM => ?_) (fun ht51 hM => ?_)
   ·refine sg rg1 ?_
    refine vs 1 ?_
    refine er ?_
    replace hM := out36 _ (sinj hM).symm
    obtain rfl := sinj hM
    exact rt Tryz.func47 (.tmp rfl .nil) sr (hk _ _ _ ⟨rfl, rfl, rfl⟩)
   refine sp ?_
   refine At.inBlock ?_
   refine At.rg rg3 ?_
   refine vs 3 ?_
   refine er ?_
   exact again36 _ (sinj hM).symm _ _ _ ⟨rfl, rfl, SubT.sub ⟨rfl, rfl, rfl, trivial⟩⟩
  exact At.exit rfl (ex36_0 _ (sinj hM).symm _ _ _ ⟨rfl, rfl, SubT.sub trivial⟩)
 rintro p36_0 R36_0 H36_0 st36_0 ⟨rfl, rfl, hst36_0⟩ hM
 refine At.sub hst36_0 ?_
 refine sg rg1 ?_
 refine vs 1 ?_
 refine er ?_
 obtain rfl := sinj hM
 exact rt Tryz.func47 (.tmp rfl .nil) sr (hk _ _ _ ⟨rfl, rfl, rfl⟩)
theorem m123_ok (x0 : HullBook) (x1 : Int) {v0_3 v0_4 v0_5 : Value} (h0_3 : SlR CHullPiece 5 R v0_3 x0.Pieces) (_ : SlR CZ 1 R v0_4 x0.Out) (_ : SlR CHullHeel 2 R v0_5 x0.Heels) {r : Bool} (hM : m123 x0 x1 = some r) : FnOk 𝒥 123 #[.agg #[iv x0.Limit, iv x0.Ballast.Least, iv x0.Ballast.Most, v0_3, v0_4, v0_5], iv x1] R H (fun v R' H' => R = R' ∧ H = H' ∧ v = .bool r) := by
 unfold m123 at hM
 refine FnOk.of_at Tryz.func123 rfl (n := 11) rfl rfl fun fr cs hk => ?_
 refine sg rg2 ?_
 refine bx fun b22 => ?_
 refine vs 1 ?_
 refine nx rg7 ?_
 refine vs 2 ?_
 refine ld 3 one24 z0 ?_
 refine ls h0_3 Tryz.underlying24 ?_
 refine vs 1 ?_
 obtain ⟨x23, hx23, hM⟩ := bnd hM
 refine At.cv ent58 (m58_ok x1 0 (i64 ((x0.Pieces.length : Int) - 1))  hx23) ?_
 rintro _ _ _ ⟨rfl, rfl, rfl⟩
 refine vs 1 ?_
 refine er ?_
 obtain rfl := sinj hM
 exact rt Tryz.func123 (.tmp rfl .nil) (so sr) (hk _ _ _ ⟨rfl, rfl, rfl⟩)
theorem m150_ok (x0 : HullBook) (x1 : (List Int)) (x2 : Int) {v0_3 v0_4 v0_5 v1 : Value} (h0_3 : SlR CHullPiece 5 R v0_3 x0.Pieces) (_ : SlR CZ 1 R v0_4 x0.Out) (_ : SlR CHullHeel 2 R v0_5 x0.Heels) (h1 : RdS CZ 1 R H v1 x1) {r : Bool} (hM : m150 x0 x1 x2 = some r) : FnOk 𝒥 150 #[.agg #[iv x0.Limit, iv x0.Ballast.Least, iv x0.Ballast.Most, v0_3, v0_4, v0_5], v1, iv x2] R H (fun v R' H' => R = R' ∧ H = H' ∧ v = .bool r) := by
 unfold m150 at hM
 refine FnOk.of_at Tryz.func150 rfl (n := 32) rfl rfl fun fr cs hk => ?_
 refine sg rg2 ?_
 refine bx fun b50 => ?_
 refine vs 1 ?_
 refine es ?_
 refine sg rg3 ?_
 refine vs 2 ?_
 obtain ⟨x51, hx51, hM⟩ := bnd hM
 refine At.cv ent47 (m47_ok x1 x2 (h1.sub (su (so sr))) hx51) ?_
 rintro _ _ _ ⟨rfl, rfl, rfl⟩
 refine er ?_
 refine sc hM (fun ht54 hM => ?_) (fun ht54 hM => ?_)
 ·refine sg rg1 ?_
  refine vs 1 ?_
  refine er ?_
  obtain rfl := sinj hM
  exact rt Tryz.func150 (.tmp rfl .nil) (so sr) (hk _ _ _ ⟨rfl, rfl, rfl⟩)
 refine sp ?_
 refine sq ?_
 refine sg rg1 ?_
 refine vs 1 ?_
 refine er ?_
 refine At.block ?_
 refine At.loopE1R hM (fun (s55 : Int) R' H' st' => R = R' ∧ H' = (b50, .cells #[iv x0.Limit, iv x0.Ballast.Least, iv x0.Ballast.Most, v0_3, v0_4, v0_5] 28) :: H ∧ SubL st' [(1, v1), (2, iv x2), (3, .pointer (some ⟨b50, 0, none⟩)), (7, iv s55)]) (fun (p55_0 : Unit) R' H' st' => R = R' ∧ H = H' ∧ SubL st' []) 0 rfl ⟨rfl, rfl, SubT.sub ⟨rfl, rfl, rfl, rfl, trivial⟩⟩ ?_ ?_
 rotate_right
 ·rintro s55 R55 H55 st55 ⟨rfl, rfl, hst55⟩ x55 hM again55 ex55_0 out55
  refine At.sub hst55 ?_
  refine sq ?_
  refine sg rg5 ?_
  refine vs 2 ?_
  refine ld 3 one24 z0 ?_
  refine ls h0_3 Tryz.underlying24 ?_
  refine vs 1 ?_
  refine er ?_
  refine sc hM (fun ht74 hM => ?_) (fun ht74 hM => ?_)
  ·refine sp ?_
   refine sq ?_
   refine At.block ?_
   refine sg rg14 ?_
   refine vs 2 ?_
   obtain ⟨x75, hx75, hM⟩ := bnd hM
   refine At.cv ent47 (m47_ok x1 s55 (h1.sub (su (so sr))) hx75) ?_
   rintro _ _ _ ⟨rfl, rfl, rfl⟩
   refine vs 2 ?_
   refine selC hM (fun ht76 hM => ?_) (fun ht76 hM => ?_)
   ·refine At.kn 22 ht76 ?_
    refine vs 1 ?_
    refine ld 3 one24 z0 ?_
    refine vs 1 ?_
    obtain ⟨x77, hx77, hM⟩ := bnd hM
    obtain ⟨x78, hx78, hM⟩ := bnd hM
    obtain ⟨bx77, ox77, _, ⟨vx77_4, hx77_4, rfl⟩, hcx77, hix77⟩ := h0_3.elem slice24 hx77
    refine At.s rfl rfl (Ox.indexV rfl rfl rfl hix77 rfl (.put rfl) ?_)
    refine vs 1 ?_
    refine At.ld one25 (hcx77.any.one (j := 4) rfl) ?_
    refine vs 1 ?_
    refine At.cv ent47 (m47_ok x77.On x2 hx77_4.rd hx78) ?_
    rintro _ _ _ ⟨rfl, rfl, rfl⟩
    refine vs 1 ?_
    refine er ?_
    refine sc hM (fun ht79 hM => ?_) (fun ht79 hM => ?_)
    ·refine sg rg1 ?_
     refine vs 1 ?_
     refine er ?_
     replace hM := out55 _ (sinj hM).symm
     obtain rfl := sinj hM
     exact rt Tryz.func150 (.tmp rfl .nil) (so sr) (hk _ _ _ ⟨rfl, rfl, rfl⟩)
    refine sp ?_
    refine At.inBlock ?_
    refine At.rg rg3 ?_
    refine vs 3 ?_
    refine er ?_
    exact again55 _ (sinj hM).symm _ _ _ ⟨rfl, rfl, SubT.sub ⟨rfl, rfl, rfl, rfl, trivial⟩⟩
   refine At.kn 22 ht76 ?_
   refine vs 9 ?_
   refine er ?_
   refine At.cond_false rfl ?_
   refine sp ?_
   refine At.inBlock ?_
   refine At.rg rg3 ?_
   refine vs 3 ?_
   refine er ?_
   exact again55 _ (sinj hM).symm _ _ _ ⟨rfl, rfl, SubT.sub ⟨rfl, rfl, rfl, rfl, trivial⟩⟩
  exact At.exit rfl (At.drop (so sr) (ex55_0 _ (sinj hM).symm _ _ _ ⟨rfl, rfl, SubT.sub trivial⟩))
 rintro p55_0 R55_0 H55_0 st55_0 ⟨rfl, rfl, hst55_0⟩ hM
 refine At.sub hst55_0 ?_
 refine sg rg1 ?_
 refine vs 1 ?_
 refine er ?_
 obtain rfl := sinj hM
 exact rt Tryz.func150 (.tmp rfl .nil) sr (hk _ _ _ ⟨rfl, rfl, rfl⟩)
theorem m126_ok (x0 : HullBook) (x1 : (List Int)) (x2 : (List Int)) {v0_3 v0_4 v0_5 v1 v2 : Value} (h0_3 : SlR CHullPiece 5 R v0_3 x0.Pieces) (h0_4 : SlR CZ 1 R v0_4 x0.Out) (h0_5 : SlR CHullHeel 2 R v0_5 x0.Heels) (h1 : RdS CZ 1 R H v1 x1) (h2 : RdS CZ 1 R H v2 x2) {r : Int} (hM : m126 x0 x1 x2 = some r) : FnOk 𝒥 126 #[.agg #[iv x0.Limit, iv x0.Ballast.Least, iv x0.Ballast.Most, v0_3, v0_4, v0_5], v1, v2] R H (fun v R' H' => R = R' ∧ H = H' ∧ v = iv r) := by
 unfold m126 at hM
 refine FnOk.of_at Tryz.func126 rfl (n := 46) rfl rfl fun fr cs hk => ?_
 refine sg rg2 ?_
 refine bx fun b87 => ?_
 refine vs 1 ?_
 refine nx rg4 ?_
 refine At.s rfl rfl (Ox.buildSlice (cells := #[]) rfl elem25 rfl (by decide) base25_0 fill_nil rfl fun b88 _ _ => ⟨_, (.put rfl), ?_⟩)
 refine vs 1 ?_
 obtain ⟨x89, hx89, hM⟩ := bnd hM
 refine At.s rfl rfl (Ox.append (K := CZ) (fun X => X ++ ((b87, _) :: H)) rfl rfl rfl app25 Tryz.underlying25 (by simp) .id (OwnSl.lit (Enc.le Enc.nil rfl) rfl) (h1.sub (su (so (so sr)))).arg hx89 rfl fun vx89 Hsx89 hox89 => ⟨_, (.put rfl), ?_⟩)
 refine vs 1 ?_
 refine es ?_
 refine sg rg1 ?_
 refine vs 1 ?_
 refine er ?_
 refine At.block ?_
 refine At.loopE1R hM (fun (s90 : ((List Int) × Int)) R' H' st' => R = R' ∧ ∃ v90s_0 Hs90s_0, OwnSl CZ 1 3 R' v90s_0 s90.1 Hs90s_0 ∧ H' = Hs90s_0 ++ ((b87, .cells #[iv x0.Limit, iv x0.Ballast.Least, iv x0.Ballast.Most, v0_3, v0_4, v0_5] 28) :: H) ∧ SubL st' [(2, v2), (3, .pointer (some ⟨b87, 0, none⟩)), (7, v90s_0), (8, iv s90.2)]) (fun (p90_0 : Unit) R' H' st' => R = R' ∧ H = H' ∧ SubL st' []) 0 rfl ⟨rfl, vx89, Hsx89, hox89, rfl, SubT.sub ⟨rfl, rfl, rfl, rfl, trivial⟩⟩ ?_ ?_
 rotate_right
 ·rintro s90 R90 H90 st90 ⟨rfl, v90s_0, Hs90s_0, ho90s_0, rfl, hst90⟩ x90 hM again90 ex90_0 out90
  refine At.sub hst90 ?_
  refine sq ?_
  refine sg rg4 ?_
  refine vs 2 ?_
  refine lr h2 Tryz.underlying25 ?_
  refine vs 1 ?_
  refine er ?_
  refine sc hM (fun ht135 hM => ?_) (fun ht135 hM => ?_)
  ·refine sp ?_
   refine sq ?_
   refine At.block ?_
   refine sq ?_
   refine sq ?_
   refine At.dw rg7 mixed ?_
   refine tN 0 [_, _, _, _, _, _] 0 6 agg28 (List.mem_append_right _ z0) ?_
   refine Any.vs 2 [1, 2] rfl ?_
   obtain ⟨x136, hx136, hM⟩ := bnd hM
   obtain ⟨x137, hx137, hM⟩ := bnd hM
   obtain ⟨bx136, ox136, _, rfl, hcx136, hix136⟩ := h2.elem slice25 hx136
   refine Any.tk 3 rfl pp (fun R' H' hR hS => Ox.indexV rfl rfl rfl hix136 rfl (.one rfl) ⟨rfl, rfl, rfl⟩) ?_
   refine Any.tk 4 rfl pp (fun R' H' hR hS => Ox.load1 rfl rfl one3 (((hcx136.le hR).sub (fun p h => hS p ((su (subDrop (so sr))) p h))).one (j := 0) rfl) rfl (.one rfl) ⟨rfl, rfl, rfl⟩) ?_
   refine Any.cv 5 ent123 (m123_ok x0 x136 h0_3 h0_4 h0_5 hx137) ?_
   rintro _ _ _ ⟨rfl, rfl, rfl⟩
   refine kp ?_
   refine Any.vs 1 [6] rfl ?_
   refine Any.done ?_
   refine sc hM (fun ht140 hM => ?_) (fun ht140 hM => ?_)
   ·refine sg rg1 ?_
    refine vs 1 ?_
    refine er ?_
    replace hM := out90 _ (sinj hM).symm
    obtain rfl := sinj hM
    exact rt Tryz.func126 (.tmp rfl .nil) (subDrop (so sr)) (hk _ _ _ ⟨rfl, rfl, rfl⟩)
   refine sp ?_
   refine sq ?_
   refine sg rg6 ?_
   refine vs 3 ?_
   obtain ⟨x141, hx141, hM⟩ := bnd hM
   obtain ⟨x142, hx142, hM⟩ := bnd hM
   obtain ⟨bx141, ox141, _, rfl, hcx141, hix141⟩ := h2.elem slice25 hx141
   refine At.s rfl rfl (Ox.indexV rfl rfl rfl hix141 rfl (.put rfl) ?_)
   refine At.ld one3 ((hcx141.sub (su (subDrop (so sr)))).one (j := 0) rfl) ?_
   refine At.cv ent47 (m47_ok s90.1 x141 (ho90s_0.rd (fun _ h => (List.mem_append_left _ h))) hx142) ?_
   rintro _ _ _ ⟨rfl, rfl, rfl⟩
   refine er ?_
   refine sc hM (fun ht145 hM => ?_) (fun ht145 hM => ?_)
   ·refine sg rg1 ?_
    refine vs 1 ?_
    refine er ?_
    replace hM := out90 _ (sinj hM).symm
    obtain rfl := sinj hM
    exact rt Tryz.func126 (.tmp rfl .nil) (subDrop (so sr)) (hk _ _ _ ⟨rfl, rfl, rfl⟩)
   refine sp ?_
   refine sq ?_
   refine sq ?_
   refine At.dw rg8 mixed ?_
   refine tN 0 [_, _, _, _, _, _] 0 6 agg28 (List.mem_append_right _ z0) ?_
   refine Any.vs 3 [1, 2, 3] rfl ?_
   obtain ⟨x146, hx146, hM⟩ := bnd hM
   obtain ⟨x147, hx147, hM⟩ := bnd hM
   obtain ⟨bx146, ox146, _, rfl, hcx146, hix146⟩ := h2.elem slice25 hx146
   refine Any.tk 4 rfl pp (fun R' H' hR hS => Ox.indexV rfl rfl rfl hix146 rfl (.one rfl) ⟨rfl, rfl, rfl⟩) ?_
   refine Any.tk 5 rfl pp (fun R' H' hR hS => Ox.load1 rfl rfl one3 (((hcx146.le hR).sub (fun p h => hS p ((su (subDrop (so sr))) p h))).one (j := 0) rfl) rfl (.one rfl) ⟨rfl, rfl, rfl⟩) ?_
   refine Any.cv 6 ent150 (m150_ok x0 s90.1 x146 h0_3 h0_4 h0_5 (ho90s_0.rd (fun _ h => (List.mem_append_left _ h))) hx147) ?_
   rintro _ _ _ ⟨rfl, rfl, rfl⟩
   refine kp ?_
   refine Any.vs 1 [7] rfl ?_
   refine Any.done ?_
   refine sc hM (fun ht150 hM => ?_) (fun ht150 hM => ?_)
   ·refine sg rg1 ?_
    refine vs 1 ?_
    refine er ?_
    replace hM := out90 _ (sinj hM).symm
    obtain rfl := sinj hM
    exact rt Tryz.func126 (.tmp rfl .nil) (subDrop (so sr)) (hk _ _ _ ⟨rfl, rfl, rfl⟩)
   refine sp ?_
   refine At.rg rg8 ?_
   refine vs 3 ?_
   obtain ⟨x151, hx151, hM⟩ := bnd hM
   obtain ⟨x153, hx153, hM⟩ := bnd hM
   obtain ⟨bx151, ox151, _, rfl, hcx151, hix151⟩ := h2.elem slice25 hx151
   refine At.s rfl rfl (Ox.indexV rfl rfl rfl hix151 rfl (.put rfl) ?_)
   refine At.ld one3 ((hcx151.sub (su (subDrop (so sr)))).one (j := 0) rfl) ?_
   refine At.s rfl rfl (Ox.buildSlice (cells := #[_]) rfl elem25 rfl (by decide) base25_1 (fill_cons rfl rfl rfl rfl fill_nil) rfl fun b152 _ _ => ⟨_, (.put rfl), ?_⟩)
   refine At.s rfl rfl (Ox.append (K := CZ) (fun X => (b152, _) :: X ++ ((b87, _) :: H)) rfl rfl rfl app25 Tryz.underlying25 (by simp) (.cons .id) ho90s_0 (ArgSl.lit z0 (Enc.le (Enc.cons (x := x151) rfl rfl Enc.nil) rfl) rfl) hx153 rfl fun vx153 Hsx153 hox153 => ⟨_, (.put rfl), ?_⟩)
   refine vs 1 ?_
   refine er ?_
   refine At.inBlock ?_
   refine At.rg rg3 ?_
   refine vs 3 ?_
   refine er ?_
   exact At.drop (so sr) (again90 _ (sinj hM).symm _ _ _ ⟨rfl, vx153, Hsx153, hox153, rfl, SubT.sub ⟨rfl, rfl, rfl, rfl, trivial⟩⟩)
  exact At.exit rfl (At.drop (subDrop (so sr)) (ex90_0 _ (sinj hM).symm _ _ _ ⟨rfl, rfl, SubT.sub trivial⟩))
 rintro p90_0 R90_0 H90_0 st90_0 ⟨rfl, rfl, hst90_0⟩ hM
 refine At.sub hst90_0 ?_
 refine sg rg1 ?_
 refine vs 1 ?_
 refine er ?_
 obtain rfl := sinj hM
 exact rt Tryz.func126 (.tmp rfl .nil) sr (hk _ _ _ ⟨rfl, rfl, rfl⟩)
theorem m66_ok (x0 : (List Int)) (x1 : Int) {v0 : Value} (h0 : RdS CZ 1 R H v0 x0) {r : Int} (hM : m66 x0 x1 = some r) : FnOk 𝒥 66 #[v0, iv x1] R H (fun v R' H' => R = R' ∧ H = H' ∧ v = iv r) := by
 unfold m66 at hM
 refine FnOk.of_at Tryz.func66 rfl (n := 34) rfl rfl fun fr cs hk => ?_
 refine sg rg1 ?_
 refine vs 1 ?_
 refine es ?_
 refine sg rg1 ?_
 refine vs 1 ?_
 refine er ?_
 refine At.block ?_
 refine At.loopE1R hM (fun (s57 : Int) R' H' st' => R = R' ∧ H = H' ∧ SubL st' [(0, v0), (1, iv x1), (5, iv s57)]) (fun (p57_0 : Unit) R' H' st' => R = R' ∧ H = H' ∧ SubL st' []) 0 rfl ⟨rfl, rfl, SubT.sub ⟨rfl, rfl, rfl, trivial⟩⟩ ?_ ?_
 rotate_right
 ·rintro s57 R57 H57 st57 ⟨rfl, rfl, hst57⟩ x57 hM again57 ex57_0 out57
  refine At.sub hst57 ?_
  refine sq ?_
  refine sg rg4 ?_
  refine vs 2 ?_
  refine lr h0 Tryz.underlying25 ?_
  refine vs 1 ?_
  refine er ?_
  refine sc hM (fun ht84 hM => ?_) (fun ht84 hM => ?_)
  ·refine sp ?_
   refine sq ?_
   refine At.block ?_
   refine sq ?_
   refine sg rg8 ?_
   refine vs 2 ?_
   obtain ⟨x85, hx85, hM⟩ := bnd hM
   obtain ⟨x86, hx86, hM⟩ := bnd hM
   obtain ⟨bx85, ox85, _, rfl, hcx85, hix85⟩ := h0.elem slice25 hx85
   refine At.s rfl rfl (Ox.indexV rfl rfl rfl hix85 rfl (.put rfl) ?_)
   refine At.ld one3 ((hcx85.sub pp).one (j := 0) rfl) ?_
   refine vs 2 ?_
   refine At.cv ent58 (m58_ok x85 0 (i64 (x1 - 1))  hx86) ?_
   rintro _ _ _ ⟨rfl, rfl, rfl⟩
   refine vs 1 ?_
   refine er ?_
   refine sc hM (fun ht89 hM => ?_) (fun ht89 hM => ?_)
   ·refine sg rg1 ?_
    refine vs 1 ?_
    refine er ?_
    replace hM := out57 _ (sinj hM).symm
    obtain rfl := sinj hM
    exact rt Tryz.func66 (.tmp rfl .nil) sr (hk _ _ _ ⟨rfl, rfl, rfl⟩)
   refine sp ?_
   refine sq ?_
   refine At.dw rg14 mixed ?_
   refine Any.vs 3 [0, 1, 2] rfl ?_
   refine selC hM (fun ht90 hM => ?_) (fun ht90 hM => ?_)
   ·refine Any.known (t := 22) rfl ht90 ?_
    refine Any.vs 2 [3, 4] rfl ?_
    obtain ⟨x91, hx91, hM⟩ := bnd hM
    obtain ⟨x92, hx92, hM⟩ := bnd hM
    obtain ⟨bx91, ox91, _, rfl, hcx91, hix91⟩ := h0.elem slice25 hx91
    refine Any.tk 5 rfl pp (fun R' H' hR hS => Ox.indexV rfl rfl rfl hix91 rfl (.one rfl) ⟨rfl, rfl, rfl⟩) ?_
    refine Any.tk 6 rfl pp (fun R' H' hR hS => Ox.load1 rfl rfl one3 (((hcx91.le hR).sub (fun p h => hS p (pp p h))).one (j := 0) rfl) rfl (.one rfl) ⟨rfl, rfl, rfl⟩) ?_
    refine Any.vs 3 [7, 8, 9] rfl ?_
    obtain ⟨bx92, ox92, _, rfl, hcx92, hix92⟩ := h0.elem slice25 hx92
    refine Any.tk 10 rfl pp (fun R' H' hR hS => Ox.indexV rfl rfl rfl hix92 rfl (.one rfl) ⟨rfl, rfl, rfl⟩) ?_
    refine Any.tk 11 rfl pp (fun R' H' hR hS => Ox.load1 rfl rfl one3 (((hcx92.le hR).sub (fun p h => hS p (pp p h))).one (j := 0) rfl) rfl (.one rfl) ⟨rfl, rfl, rfl⟩) ?_
    refine Any.vs 2 [12, 13] rfl ?_
    refine Any.done ?_
    refine sc hM (fun ht93 hM => ?_) (fun ht93 hM => ?_)
    ·refine sg rg1 ?_
     refine vs 1 ?_
     refine er ?_
     replace hM := out57 _ (sinj hM).symm
     obtain rfl := sinj hM
     exact rt Tryz.func66 (.tmp rfl .nil) sr (hk _ _ _ ⟨rfl, rfl, rfl⟩)
    refine sp ?_
    refine At.inBlock ?_
    refine At.rg rg3 ?_
    refine vs 3 ?_
    refine er ?_
    exact again57 _ (sinj hM).symm _ _ _ ⟨rfl, rfl, SubT.sub ⟨rfl, rfl, rfl, trivial⟩⟩
   refine Any.known (t := 22) rfl ht90 ?_
   refine Any.vs 11 [3, 4, 5, 6, 7, 8, 9, 10, 11, 12, 13] rfl ?_
   refine Any.done ?_
   refine At.cond_false rfl ?_
   refine sp ?_
   refine At.inBlock ?_
   refine At.rg rg3 ?_
   refine vs 3 ?_
   refine er ?_
   exact again57 _ (sinj hM).symm _ _ _ ⟨rfl, rfl, SubT.sub ⟨rfl, rfl, rfl, trivial⟩⟩
  exact At.exit rfl (ex57_0 _ (sinj hM).symm _ _ _ ⟨rfl, rfl, SubT.sub trivial⟩)
 rintro p57_0 R57_0 H57_0 st57_0 ⟨rfl, rfl, hst57_0⟩ hM
 refine At.sub hst57_0 ?_
 refine sg rg1 ?_
 refine vs 1 ?_
 refine er ?_
 obtain rfl := sinj hM
 exact rt Tryz.func66 (.tmp rfl .nil) sr (hk _ _ _ ⟨rfl, rfl, rfl⟩)
theorem m172_ok (x0 : Int)  {r : Bool} (hM : m172 x0 = some r) : FnOk 𝒥 172 #[.int .u8 x0] R H (fun v R' H' => R = R' ∧ H = H' ∧ v = .bool r) := by
 unfold m172 at hM
 refine FnOk.of_at Tryz.func172 rfl (n := 6) rfl rfl fun fr cs hk => ?_
 refine sg rg1 ?_
 refine vs 1 ?_
 refine nx rg4 ?_
 refine vs 1 ?_
 refine At.s rfl rfl (Ox.convI rfl rfl Tryz.underlying5 Tryz.underlying3 rfl (.put rfl) ?_)
 obtain ⟨x21, hx21, hM⟩ := bnd hM
 refine At.cv ent58 (m58_ok (i64 x0) 97 122  hx21) ?_
 rintro _ _ _ ⟨rfl, rfl, rfl⟩
 refine vs 1 ?_
 refine er ?_
 obtain rfl := sinj hM
 exact rt Tryz.func172 (.tmp rfl .nil) sr (hk _ _ _ ⟨rfl, rfl, rfl⟩)
theorem m173_ok (x0 : Int)  {r : Bool} (hM : m173 x0 = some r) : FnOk 𝒥 173 #[.int .u8 x0] R H (fun v R' H' => R = R' ∧ H = H' ∧ v = .bool r) := by
 unfold m173 at hM
 refine FnOk.of_at Tryz.func173 rfl (n := 6) rfl rfl fun fr cs hk => ?_
 refine sg rg1 ?_
 refine vs 1 ?_
 refine nx rg4 ?_
 refine vs 1 ?_
 refine At.s rfl rfl (Ox.convI rfl rfl Tryz.underlying5 Tryz.underlying3 rfl (.put rfl) ?_)
 obtain ⟨x21, hx21, hM⟩ := bnd hM
 refine At.cv ent58 (m58_ok (i64 x0) 48 57  hx21) ?_
 rintro _ _ _ ⟨rfl, rfl, rfl⟩
 refine vs 1 ?_
 refine er ?_
 obtain rfl := sinj hM
 exact rt Tryz.func173 (.tmp rfl .nil) sr (hk _ _ _ ⟨rfl, rfl, rfl⟩)
theorem m161_ok (x0 : ByteArray)  {r : Bool} (hM : m161 x0 = some r) : FnOk 𝒥 161 #[.string x0] R H (fun v R' H' => R = R' ∧ H = H' ∧ v = .bool r) := by
 unfold m161 at hM
 refine FnOk.of_at Tryz.func161 rfl (n := 32) rfl rfl fun fr cs hk => ?_
 refine sg rg1 ?_
 refine vs 1 ?_
 refine es ?_
 refine sq ?_
 refine At.joinE1 hM (fun (p60_0 : Bool) R' H' st' => R = R' ∧ H = H' ∧ SubL st' [(0, .string x0), (13, .bool p60_0)])  ?_ ?_
 rotate_right
 ·intro x60 hM ex60_0
  refine At.rg rg10 ?_
  refine vs 1 ?_
  refine At.s rfl rfl (Ox.lenStr rfl rfl Tryz.underlying9 rfl (.put rfl) ?_)
  obtain ⟨x65, hx65, hM⟩ := bnd hM
  refine At.cv ent58 (m58_ok (x0.size : Int) 1 12  hx65) ?_
  rintro _ _ _ ⟨rfl, rfl, rfl⟩
  refine vs 2 ?_
  refine selC hM (fun ht66 hM => ?_) (fun ht66 hM => ?_)
  ·refine At.kn 8 ht66 ?_
   refine vs 5 ?_
   refine er ?_
   exact ex60_0 _ (sinj hM).symm _ _ _ ⟨rfl, rfl, SubT.sub ⟨rfl, rfl, trivial⟩⟩
  refine At.kn 8 ht66 ?_
  refine vs 1 ?_
  obtain ⟨x67, hx67, hM⟩ := bnd hM
  refine At.s rfl rfl (Ox.indexStr rfl rfl rfl Tryz.underlying9 hx67 rfl (.put rfl) ?_)
  obtain ⟨x68, hx68, hM⟩ := bnd hM
  refine At.cv ent172 (m172_ok x67  hx68) ?_
  rintro _ _ _ ⟨rfl, rfl, rfl⟩
  refine vs 2 ?_
  refine er ?_
  exact ex60_0 _ (sinj hM).symm _ _ _ ⟨rfl, rfl, SubT.sub ⟨rfl, rfl, trivial⟩⟩
 rintro p60_0 R60_0 H60_0 st60_0 ⟨rfl, rfl, hst60_0⟩ hM
 refine At.sub hst60_0 ?_
 refine sc hM (fun ht71 hM => ?_) (fun ht71 hM => ?_)
 ·refine sg rg1 ?_
  refine vs 1 ?_
  refine er ?_
  obtain rfl := sinj hM
  exact rt Tryz.func161 (.tmp rfl .nil) sr (hk _ _ _ ⟨rfl, rfl, rfl⟩)
 refine sp ?_
 refine sq ?_
 refine sg rg1 ?_
 refine vs 1 ?_
 refine er ?_
 refine At.block ?_
 refine At.loopE1R hM (fun (s72 : Int) R' H' st' => R = R' ∧ H = H' ∧ SubL st' [(0, .string x0), (3, iv s72)]) (fun (p72_0 : Unit) R' H' st' => R = R' ∧ H = H' ∧ SubL st' []) 0 rfl ⟨rfl, rfl, SubT.sub ⟨rfl, rfl, trivial⟩⟩ ?_ ?_
 rotate_right
 ·rintro s72 R72 H72 st72 ⟨rfl, rfl, hst72⟩ x72 hM again72 ex72_0 out72
  refine At.sub hst72 ?_
  refine sq ?_
  refine sg rg4 ?_
  refine vs 2 ?_
  refine At.s rfl rfl (Ox.lenStr rfl rfl Tryz.underlying9 rfl (.put rfl) ?_)
  refine vs 1 ?_
  refine er ?_
  refine sc hM (fun ht93 hM => ?_) (fun ht93 hM => ?_)
  ·refine sp ?_
   refine sq ?_
   refine At.block ?_
   refine sg rg12 ?_
   refine vs 2 ?_
   obtain ⟨x94, hx94, hM⟩ := bnd hM
   refine At.s rfl rfl (Ox.indexStr rfl rfl rfl Tryz.underlying9 hx94 rfl (.put rfl) ?_)
   obtain ⟨x95, hx95, hM⟩ := bnd hM
   refine At.cv ent172 (m172_ok x94  hx95) ?_
   rintro _ _ _ ⟨rfl, rfl, rfl⟩
   refine vs 2 ?_
   refine selC hM (fun ht96 hM => ?_) (fun ht96 hM => ?_)
   ·refine At.kn 25 ht96 ?_
    refine vs 2 ?_
    obtain ⟨x97, hx97, hM⟩ := bnd hM
    refine At.s rfl rfl (Ox.indexStr rfl rfl rfl Tryz.underlying9 hx97 rfl (.put rfl) ?_)
    obtain ⟨x98, hx98, hM⟩ := bnd hM
    refine At.cv ent173 (m173_ok x97  hx98) ?_
    rintro _ _ _ ⟨rfl, rfl, rfl⟩
    refine vs 2 ?_
    refine er ?_
    refine sc hM (fun ht99 hM => ?_) (fun ht99 hM => ?_)
    ·refine sg rg1 ?_
     refine vs 1 ?_
     refine er ?_
     replace hM := out72 _ (sinj hM).symm
     obtain rfl := sinj hM
     exact rt Tryz.func161 (.tmp rfl .nil) sr (hk _ _ _ ⟨rfl, rfl, rfl⟩)
    refine sp ?_
    refine At.inBlock ?_
    refine At.rg rg3 ?_
    refine vs 3 ?_
    refine er ?_
    exact again72 _ (sinj hM).symm _ _ _ ⟨rfl, rfl, SubT.sub ⟨rfl, rfl, trivial⟩⟩
   refine At.kn 25 ht96 ?_
   refine vs 6 ?_
   refine er ?_
   refine At.cond_false rfl ?_
   refine sp ?_
   refine At.inBlock ?_
   refine At.rg rg3 ?_
   refine vs 3 ?_
   refine er ?_
   exact again72 _ (sinj hM).symm _ _ _ ⟨rfl, rfl, SubT.sub ⟨rfl, rfl, trivial⟩⟩
  exact At.exit rfl (ex72_0 _ (sinj hM).symm _ _ _ ⟨rfl, rfl, SubT.sub trivial⟩)
 rintro p72_0 R72_0 H72_0 st72_0 ⟨rfl, rfl, hst72_0⟩ hM
 refine At.sub hst72_0 ?_
 refine sg rg1 ?_
 refine vs 1 ?_
 refine er ?_
 obtain rfl := sinj hM
 exact rt Tryz.func161 (.tmp rfl .nil) sr (hk _ _ _ ⟨rfl, rfl, rfl⟩)
theorem m135_ok (x0 : HullBook) {v0_3 v0_4 v0_5 : Value} (h0_3 : SlR CHullPiece 5 R v0_3 x0.Pieces) (_ : SlR CZ 1 R v0_4 x0.Out) (_ : SlR CHullHeel 2 R v0_5 x0.Heels) {r : Int} (hM : m135 x0 = some r) : FnOk 𝒥 135 #[.agg #[iv x0.Limit, iv x0.Ballast.Least, iv x0.Ballast.Most, v0_3, v0_4, v0_5]] R H (fun v R' H' => R = R' ∧ H = H' ∧ v = iv r) := by
 unfold m135 at hM
 refine FnOk.of_at Tryz.func135 rfl (n := 69) rfl rfl fun fr cs hk => ?_
 refine sg rg2 ?_
 refine bx fun b143 => ?_
 refine vs 1 ?_
 refine es ?_
 refine sg rg5 ?_
 refine vs 1 ?_
 refine ld 3 one24 z0 ?_
 refine ls h0_3 Tryz.underlying24 ?_
 obtain ⟨x144, hx144, hM⟩ := bnd hM
 refine At.cv ent58 (m58_ok (x0.Pieces.length : Int) 1 5  hx144) ?_
 rintro _ _ _ ⟨rfl, rfl, rfl⟩
 refine vs 1 ?_
 refine er ?_
 refine sc hM (fun ht147 hM => ?_) (fun ht147 hM => ?_)
 ·refine sg rg1 ?_
  refine vs 1 ?_
  refine er ?_
  obtain rfl := sinj hM
  exact rt Tryz.func135 (.tmp rfl .nil) (so sr) (hk _ _ _ ⟨rfl, rfl, rfl⟩)
 refine sp ?_
 refine sq ?_
 refine sg rg1 ?_
 refine vs 1 ?_
 refine er ?_
 refine At.block ?_
 refine At.loopE1R hM (fun (s148 : Int) R' H' st' => R = R' ∧ H' = (b143, .cells #[iv x0.Limit, iv x0.Ballast.Least, iv x0.Ballast.Most, v0_3, v0_4, v0_5] 28) :: H ∧ SubL st' [(1, .pointer (some ⟨b143, 0, none⟩)), (3, iv s148)]) (fun (p148_0 : Unit) R' H' st' => R = R' ∧ H = H' ∧ SubL st' []) 0 rfl ⟨rfl, rfl, SubT.sub ⟨rfl, rfl, trivial⟩⟩ ?_ ?_
 rotate_right
 ·rintro s148 R148 H148 st148 ⟨rfl, rfl, hst148⟩ x148 hM again148 ex148_0 out148
  refine At.sub hst148 ?_
  refine sq ?_
  refine sg rg5 ?_
  refine vs 2 ?_
  refine ld 3 one24 z0 ?_
  refine ls h0_3 Tryz.underlying24 ?_
  refine vs 1 ?_
  refine er ?_
  refine sc hM (fun ht229 hM => ?_) (fun ht229 hM => ?_)
  ·refine sp ?_
   refine sq ?_
   refine At.block ?_
   refine sg rg7 ?_
   refine vs 1 ?_
   refine ld 3 one24 z0 ?_
   refine vs 1 ?_
   obtain ⟨x230, hx230, hM⟩ := bnd hM
   obtain ⟨bx230, ox230, _, ⟨vx230_4, hx230_4, rfl⟩, hcx230, hix230⟩ := h0_3.elem slice24 hx230
   refine At.s rfl rfl (Ox.indexV rfl rfl rfl hix230 rfl (.put rfl) ?_)
   refine At.s rfl rfl (Ox.loadN (vs := [_, _, _, _, _]) rfl rfl agg58 rfl (hcx230.any.part (j := 0) (n := 5) rfl) rfl (.put rfl) ?_)
   refine At.s rfl rfl (Ox.alloc (cs := #[.string (⟨#[]⟩), iv 0, iv 0, iv 0, .slice none 0 0]) rfl zero58 rfl fun b231 _ _ => ⟨_, (.put rfl), ?_⟩)
   refine At.s rfl rfl (Ox.storeN (cs' := #[_, _, _, _, _]) rfl rfl rfl agg58 rfl (ones_cons rfl (ones_cons rfl (ones_cons rfl (ones_cons rfl (ones_cons hx230_4.one ones_nil))))) .here rfl rfl rfl (.refl _) ?_)
   refine es ?_
   refine sg rg4 ?_
   refine vs 1 ?_
   refine ld 0 one9 z0 ?_
   obtain ⟨x232, hx232, hM⟩ := bnd hM
   refine At.cv ent161 (m161_ok x230.Name  hx232) ?_
   rintro _ _ _ ⟨rfl, rfl, rfl⟩
   refine vs 1 ?_
   refine er ?_
   refine sc hM (fun ht235 hM => ?_) (fun ht235 hM => ?_)
   ·refine sg rg1 ?_
    refine vs 1 ?_
    refine er ?_
    replace hM := out148 _ (sinj hM).symm
    obtain rfl := sinj hM
    exact rt Tryz.func135 (.tmp rfl .nil) (so (so sr)) (hk _ _ _ ⟨rfl, rfl, rfl⟩)
   refine sp ?_
   refine sq ?_
   refine sg rg1 ?_
   refine vs 1 ?_
   refine er ?_
   refine At.block ?_
   refine At.loopE1R hM (fun (s236 : Int) R' H' st' => R = R' ∧ H' = (b231, .cells #[.string x230.Name, iv x230.Arm, iv x230.Weight.Least, iv x230.Weight.Most, vx230_4] 58) :: (b143, .cells #[iv x0.Limit, iv x0.Ballast.Least, iv x0.Ballast.Most, v0_3, v0_4, v0_5] 28) :: H ∧ SubL st' [(1, .pointer (some ⟨b143, 0, none⟩)), (3, iv s148), (4, .pointer (some ⟨b231, 0, none⟩)), (5, iv s236)]) (fun (p236_0 : Unit) R' H' st' => R = R' ∧ H' = (b231, .cells #[.string x230.Name, iv x230.Arm, iv x230.Weight.Least, iv x230.Weight.Most, vx230_4] 58) :: (b143, .cells #[iv x0.Limit, iv x0.Ballast.Least, iv x0.Ballast.Most, v0_3, v0_4, v0_5] 28) :: H ∧ SubL st' [(1, .pointer (some ⟨b143, 0, none⟩)), (3, iv s148), (4, .pointer (some ⟨b231, 0, none⟩))]) 2 rfl ⟨rfl, rfl, SubT.sub ⟨rfl, rfl, rfl, rfl, trivial⟩⟩ ?_ ?_
   rotate_right
   ·rintro s236 R236 H236 st236 ⟨rfl, rfl, hst236⟩ x236 hM again236 ex236_0 out236
    refine At.sub hst236 ?_
    refine sq ?_
    refine sg rg3 ?_
    refine vs 3 ?_
    refine er ?_
    refine sc hM (fun ht249 hM => ?_) (fun ht249 hM => ?_)
    ·refine sp ?_
     refine sq ?_
     refine At.block ?_
     refine sq ?_
     refine At.dw rg9 mixed ?_
     refine Any.vs 1 [0] rfl ?_
     refine tl 1 3 one24 z1 ?_
     refine Any.vs 1 [2] rfl ?_
     obtain ⟨x250, hx250, hM⟩ := bnd hM
     obtain ⟨bx250, ox250, _, ⟨vx250_4, hx250_4, rfl⟩, hcx250, hix250⟩ := h0_3.elem slice24 hx250
     refine Any.tk 3 rfl pp (fun R' H' hR hS => Ox.indexV rfl rfl rfl hix250 rfl (.one rfl) ⟨rfl, rfl, rfl⟩) ?_
     refine Any.vs 1 [4] rfl ?_
     refine Any.tk 5 rfl pp (fun R' H' hR hS => Ox.load1 rfl rfl one9 ((hcx250.up hR).one (j := 0) rfl) rfl (.one rfl) ⟨rfl, rfl, rfl⟩) ?_
     refine Any.vs 1 [6] rfl ?_
     refine tl 7 0 one9 z0 ?_
     refine Any.tk 8 rfl pp (fun R' H' hR hS => Ox.cmpStr rfl rfl rfl rfl rfl (.one rfl) ⟨rfl, rfl, rfl⟩) ?_
     refine Any.done ?_
     refine sc hM (fun ht251 hM => ?_) (fun ht251 hM => ?_)
     ·refine sg rg1 ?_
      refine vs 1 ?_
      refine er ?_
      replace hM := out236 _ (sinj hM).symm
      replace hM := out148 _ (sinj hM).symm
      obtain rfl := sinj hM
      exact rt Tryz.func135 (.tmp rfl .nil) (so (so sr)) (hk _ _ _ ⟨rfl, rfl, rfl⟩)
     refine sp ?_
     refine At.inBlock ?_
     refine At.rg rg3 ?_
     refine vs 3 ?_
     refine er ?_
     exact again236 _ (sinj hM).symm _ _ _ ⟨rfl, rfl, SubT.sub ⟨rfl, rfl, rfl, rfl, trivial⟩⟩
    exact At.exit rfl (ex236_0 _ (sinj hM).symm _ _ _ ⟨rfl, rfl, SubT.sub ⟨rfl, rfl, rfl, trivial⟩⟩)
   rintro p236_0 R236_0 H236_0 st236_0 ⟨rfl, rfl, hst236_0⟩ hM
   refine At.sub hst236_0 ?_
   refine sq ?_
   refine sq ?_
   refine At.joinE1 hM (fun (p252_0 : Bool) R' H' st' => R = R' ∧ H' = (b231, .cells #[.string x230.Name, iv x230.Arm, iv x230.Weight.Least, iv x230.Weight.Most, vx230_4] 58) :: (b143, .cells #[iv x0.Limit, iv x0.Ballast.Least, iv x0.Ballast.Most, v0_3, v0_4, v0_5] 28) :: H ∧ SubL st' [(1, .pointer (some ⟨b143, 0, none⟩)), (3, iv s148), (4, .pointer (some ⟨b231, 0, none⟩)), (61, .bool p252_0)])  ?_ ?_
   rotate_right
   ·intro x252 hM ex252_0
    refine At.rg rg20 ?_
    refine vs 1 ?_
    refine ld 1 one3 z0 ?_
    obtain ⟨x257, hx257, hM⟩ := bnd hM
    refine At.cv ent58 (m58_ok x230.Arm (-9) 9  hx257) ?_
    rintro _ _ _ ⟨rfl, rfl, rfl⟩
    refine vs 2 ?_
    refine selC hM (fun ht258 hM => ?_) (fun ht258 hM => ?_)
    ·refine At.kn 46 ht258 ?_
     refine vs 15 ?_
     refine er ?_
     exact ex252_0 _ (sinj hM).symm _ _ _ ⟨rfl, rfl, SubT.sub ⟨rfl, rfl, rfl, rfl, trivial⟩⟩
    refine At.kn 46 ht258 ?_
    refine vs 1 ?_
    refine lN [_, _] 2 2 agg23 z0 ?_
    obtain ⟨x259, hx259, hM⟩ := bnd hM
    refine At.cv ent124 (m124_ok x230.Weight 1 99  hx259) ?_
    rintro _ _ _ ⟨rfl, rfl, rfl⟩
    refine vs 3 ?_
    refine selC hM (fun ht260 hM => ?_) (fun ht260 hM => ?_)
    ·refine At.kn 52 ht260 ?_
     refine vs 9 ?_
     refine er ?_
     exact ex252_0 _ (sinj hM).symm _ _ _ ⟨rfl, rfl, SubT.sub ⟨rfl, rfl, rfl, rfl, trivial⟩⟩
    refine At.kn 52 ht260 ?_
    refine vs 2 ?_
    refine ld 3 one3 z0 ?_
    refine vs 2 ?_
    refine ld 2 one3 z0 ?_
    refine vs 3 ?_
    refine er ?_
    exact ex252_0 _ (sinj hM).symm _ _ _ ⟨rfl, rfl, SubT.sub ⟨rfl, rfl, rfl, rfl, trivial⟩⟩
   rintro p252_0 R252_0 H252_0 st252_0 ⟨rfl, rfl, hst252_0⟩ hM
   refine At.sub hst252_0 ?_
   refine sc hM (fun ht263 hM => ?_) (fun ht263 hM => ?_)
   ·refine sg rg1 ?_
    refine vs 1 ?_
    refine er ?_
    replace hM := out148 _ (sinj hM).symm
    obtain rfl := sinj hM
    exact rt Tryz.func135 (.tmp rfl .nil) (so (so sr)) (hk _ _ _ ⟨rfl, rfl, rfl⟩)
   refine sp ?_
   refine sg rg5 ?_
   refine vs 1 ?_
   refine ld 4 one25 z0 ?_
   refine vs 1 ?_
   obtain ⟨x264, hx264, hM⟩ := bnd hM
   refine At.cv ent66 (m66_ok x230.On s148 hx230_4.rd hx264) ?_
   rintro _ _ _ ⟨rfl, rfl, rfl⟩
   refine vs 1 ?_
   refine nx rg2 ?_
   refine vs 2 ?_
   refine er ?_
   refine sc hM (fun ht265 hM => ?_) (fun ht265 hM => ?_)
   ·refine sg rg2 ?_
    refine vs 2 ?_
    refine er ?_
    replace hM := out148 _ (sinj hM).symm
    obtain rfl := sinj hM
    exact rt Tryz.func135 (.tmp rfl .nil) (so (so sr)) (hk _ _ _ ⟨rfl, rfl, rfl⟩)
   refine sp ?_
   refine At.inBlock ?_
   refine At.rg rg3 ?_
   refine vs 3 ?_
   refine er ?_
   exact At.drop (so sr) (again148 _ (sinj hM).symm _ _ _ ⟨rfl, rfl, SubT.sub ⟨rfl, rfl, trivial⟩⟩)
  exact At.exit rfl (At.drop (so sr) (ex148_0 _ (sinj hM).symm _ _ _ ⟨rfl, rfl, SubT.sub trivial⟩))
 rintro p148_0 R148_0 H148_0 st148_0 ⟨rfl, rfl, hst148_0⟩ hM
 refine At.sub hst148_0 ?_
 refine sg rg1 ?_
 refine vs 1 ?_
 refine er ?_
 obtain rfl := sinj hM
 exact rt Tryz.func135 (.tmp rfl .nil) sr (hk _ _ _ ⟨rfl, rfl, rfl⟩)
theorem m61_ok (x0 : HullBook) {v0_3 v0_4 v0_5 : Value} (h0_3 : SlR CHullPiece 5 R v0_3 x0.Pieces) (h0_4 : SlR CZ 1 R v0_4 x0.Out) (h0_5 : SlR CHullHeel 2 R v0_5 x0.Heels) {r : Int} (hM : m61 x0 = some r) : FnOk 𝒥 61 #[.agg #[iv x0.Limit, iv x0.Ballast.Least, iv x0.Ballast.Most, v0_3, v0_4, v0_5]] R H (fun v R' H' => R = R' ∧ H = H' ∧ v = iv r) := by
 unfold m61 at hM
 refine FnOk.of_at Tryz.func61 rfl (n := 68) rfl rfl fun fr cs hk => ?_
 refine sg rg2 ?_
 refine bx fun b78 => ?_
 refine vs 1 ?_
 refine es ?_
 refine sq ?_
 refine At.joinE1 hM (fun (p79_0 : Bool) R' H' st' => R = R' ∧ H' = (b78, .cells #[iv x0.Limit, iv x0.Ballast.Least, iv x0.Ballast.Most, v0_3, v0_4, v0_5] 28) :: H ∧ SubL st' [(1, .pointer (some ⟨b78, 0, none⟩)), (25, .bool p79_0)])  ?_ ?_
 rotate_right
 ·intro x79 hM ex79_0
  refine At.rg rg20 ?_
  refine vs 1 ?_
  refine ld 0 one3 z0 ?_
  obtain ⟨x84, hx84, hM⟩ := bnd hM
  refine At.cv ent58 (m58_ok x0.Limit 0 9999  hx84) ?_
  rintro _ _ _ ⟨rfl, rfl, rfl⟩
  refine vs 2 ?_
  refine selC hM (fun ht85 hM => ?_) (fun ht85 hM => ?_)
  ·refine At.kn 10 ht85 ?_
   refine vs 15 ?_
   refine er ?_
   exact ex79_0 _ (sinj hM).symm _ _ _ ⟨rfl, rfl, SubT.sub ⟨rfl, rfl, trivial⟩⟩
  refine At.kn 10 ht85 ?_
  refine vs 1 ?_
  refine lN [_, _] 1 2 agg23 z0 ?_
  obtain ⟨x86, hx86, hM⟩ := bnd hM
  refine At.cv ent124 (m124_ok x0.Ballast (-999) 999  hx86) ?_
  rintro _ _ _ ⟨rfl, rfl, rfl⟩
  refine vs 3 ?_
  refine selC hM (fun ht87 hM => ?_) (fun ht87 hM => ?_)
  ·refine At.kn 16 ht87 ?_
   refine vs 9 ?_
   refine er ?_
   exact ex79_0 _ (sinj hM).symm _ _ _ ⟨rfl, rfl, SubT.sub ⟨rfl, rfl, trivial⟩⟩
  refine At.kn 16 ht87 ?_
  refine vs 2 ?_
  refine ld 2 one3 z0 ?_
  refine vs 2 ?_
  refine ld 1 one3 z0 ?_
  refine vs 3 ?_
  refine er ?_
  exact ex79_0 _ (sinj hM).symm _ _ _ ⟨rfl, rfl, SubT.sub ⟨rfl, rfl, trivial⟩⟩
 rintro p79_0 R79_0 H79_0 st79_0 ⟨rfl, rfl, hst79_0⟩ hM
 refine At.sub hst79_0 ?_
 refine sc hM (fun ht90 hM => ?_) (fun ht90 hM => ?_)
 ·refine sg rg1 ?_
  refine vs 1 ?_
  refine er ?_
  obtain rfl := sinj hM
  exact rt Tryz.func61 (.tmp rfl .nil) (so sr) (hk _ _ _ ⟨rfl, rfl, rfl⟩)
 refine sp ?_
 refine sq ?_
 refine sg rg3 ?_
 refine lN [_, _, _, _, _, _] 0 6 agg28 z0 ?_
 obtain ⟨x91, hx91, hM⟩ := bnd hM
 refine At.cv ent135 (m135_ok x0 h0_3 h0_4 h0_5 hx91) ?_
 rintro _ _ _ ⟨rfl, rfl, rfl⟩
 refine vs 1 ?_
 refine nx rg2 ?_
 refine vs 2 ?_
 refine er ?_
 refine sc hM (fun ht94 hM => ?_) (fun ht94 hM => ?_)
 ·refine sg rg2 ?_
  refine vs 2 ?_
  refine er ?_
  obtain rfl := sinj hM
  exact rt Tryz.func61 (.tmp rfl .nil) (so sr) (hk _ _ _ ⟨rfl, rfl, rfl⟩)
 refine sp ?_
 refine sq ?_
 refine sg rg5 ?_
 refine lN [_, _, _, _, _, _] 0 6 agg28 z0 ?_
 refine vs 1 ?_
 refine ld 4 one25 z0 ?_
 obtain ⟨x95, hx95, hM⟩ := bnd hM
 refine At.cv ent126 (m126_ok x0 [] x0.Out h0_3 h0_4 h0_5 SlR.nil.rd h0_4.rd hx95) ?_
 rintro _ _ _ ⟨rfl, rfl, rfl⟩
 refine vs 1 ?_
 refine nx rg2 ?_
 refine vs 2 ?_
 refine er ?_
 refine sc hM (fun ht98 hM => ?_) (fun ht98 hM => ?_)
 ·refine sg rg2 ?_
  refine vs 2 ?_
  refine er ?_
  obtain rfl := sinj hM
  exact rt Tryz.func61 (.tmp rfl .nil) (so sr) (hk _ _ _ ⟨rfl, rfl, rfl⟩)
 refine sp ?_
 refine sq ?_
 refine sg rg4 ?_
 refine vs 1 ?_
 refine ld 5 one26 z0 ?_
 refine ls h0_5 Tryz.underlying26 ?_
 refine vs 1 ?_
 refine er ?_
 refine sc hM (fun ht101 hM => ?_) (fun ht101 hM => ?_)
 ·refine sg rg1 ?_
  refine vs 1 ?_
  refine er ?_
  obtain rfl := sinj hM
  exact rt Tryz.func61 (.tmp rfl .nil) (so sr) (hk _ _ _ ⟨rfl, rfl, rfl⟩)
 refine sp ?_
 refine sq ?_
 refine sg rg1 ?_
 refine vs 1 ?_
 refine er ?_
 refine At.block ?_
 refine At.loopE1R hM (fun (s102 : Int) R' H' st' => R = R' ∧ H' = (b78, .cells #[iv x0.Limit, iv x0.Ballast.Least, iv x0.Ballast.Most, v0_3, v0_4, v0_5] 28) :: H ∧ SubL st' [(1, .pointer (some ⟨b78, 0, none⟩)), (5, iv s102)]) (fun (p102_0 : Unit) R' H' st' => R = R' ∧ H = H' ∧ SubL st' []) 0 rfl ⟨rfl, rfl, SubT.sub ⟨rfl, rfl, trivial⟩⟩ ?_ ?_
 rotate_right
 ·rintro s102 R102 H102 st102 ⟨rfl, rfl, hst102⟩ x102 hM again102 ex102_0 out102
  refine At.sub hst102 ?_
  refine sq ?_
  refine sg rg5 ?_
  refine vs 2 ?_
  refine ld 5 one26 z0 ?_
  refine ls h0_5 Tryz.underlying26 ?_
  refine vs 1 ?_
  refine er ?_
  refine sc hM (fun ht127 hM => ?_) (fun ht127 hM => ?_)
  ·refine sp ?_
   refine sq ?_
   refine At.block ?_
   refine sq ?_
   refine sq ?_
   refine At.dw rg11 mixed ?_
   refine Any.vs 1 [0] rfl ?_
   refine tl 1 5 one26 z0 ?_
   refine Any.vs 1 [2] rfl ?_
   obtain ⟨x128, hx128, hM⟩ := bnd hM
   obtain ⟨x129, hx129, hM⟩ := bnd hM
   obtain ⟨bx128, ox128, _, rfl, hcx128, hix128⟩ := h0_5.elem slice26 hx128
   refine Any.tk 3 rfl pp (fun R' H' hR hS => Ox.indexV rfl rfl rfl hix128 rfl (.one rfl) ⟨rfl, rfl, rfl⟩) ?_
   refine Any.vs 1 [4] rfl ?_
   refine Any.tk 5 rfl pp (fun R' H' hR hS => Ox.load1 rfl rfl one3 ((hcx128.up hR).one (j := 0) rfl) rfl (.one rfl) ⟨rfl, rfl, rfl⟩) ?_
   refine Any.vs 1 [6] rfl ?_
   refine tl 7 4 one25 z0 ?_
   refine Any.tk 8 rfl pp (fun R' H' hR hS => Ox.lenS (K := CZ) (k := 1) (xs := x0.Out) rfl rfl (h0_4.mono hR) Tryz.underlying25 rfl (.one rfl) ⟨rfl, rfl, rfl⟩) ?_
   refine Any.cv 9 ent58 (m58_ok x128.After 0 (x0.Out.length : Int)  hx129) ?_
   rintro _ _ _ ⟨rfl, rfl, rfl⟩
   refine kp ?_
   refine Any.vs 1 [10] rfl ?_
   refine Any.done ?_
   refine sc hM (fun ht132 hM => ?_) (fun ht132 hM => ?_)
   ·refine sg rg1 ?_
    refine vs 1 ?_
    refine er ?_
    replace hM := out102 _ (sinj hM).symm
    obtain rfl := sinj hM
    exact rt Tryz.func61 (.tmp rfl .nil) (so sr) (hk _ _ _ ⟨rfl, rfl, rfl⟩)
   refine sp ?_
   refine sg rg8 ?_
   refine vs 1 ?_
   refine ld 5 one26 z0 ?_
   refine vs 1 ?_
   obtain ⟨x133, hx133, hM⟩ := bnd hM
   obtain ⟨x134, hx134, hM⟩ := bnd hM
   obtain ⟨bx133, ox133, _, rfl, hcx133, hix133⟩ := h0_5.elem slice26 hx133
   refine At.s rfl rfl (Ox.indexV rfl rfl rfl hix133 rfl (.put rfl) ?_)
   refine vs 1 ?_
   refine At.ld one45 (hcx133.any.one (j := 1) rfl) ?_
   refine At.cv ent58 (m58_ok x133.Side 0 2  hx134) ?_
   rintro _ _ _ ⟨rfl, rfl, rfl⟩
   refine vs 1 ?_
   refine er ?_
   refine sc hM (fun ht135 hM => ?_) (fun ht135 hM => ?_)
   ·refine sg rg1 ?_
    refine vs 1 ?_
    refine er ?_
    replace hM := out102 _ (sinj hM).symm
    obtain rfl := sinj hM
    exact rt Tryz.func61 (.tmp rfl .nil) (so sr) (hk _ _ _ ⟨rfl, rfl, rfl⟩)
   refine sp ?_
   refine At.inBlock ?_
   refine At.rg rg3 ?_
   refine vs 3 ?_
   refine er ?_
   exact again102 _ (sinj hM).symm _ _ _ ⟨rfl, rfl, SubT.sub ⟨rfl, rfl, trivial⟩⟩
  exact At.exit rfl (At.drop (so sr) (ex102_0 _ (sinj hM).symm _ _ _ ⟨rfl, rfl, SubT.sub trivial⟩))
 rintro p102_0 R102_0 H102_0 st102_0 ⟨rfl, rfl, hst102_0⟩ hM
 refine At.sub hst102_0 ?_
 refine sg rg1 ?_
 refine vs 1 ?_
 refine er ?_
 obtain rfl := sinj hM
 exact rt Tryz.func61 (.tmp rfl .nil) sr (hk _ _ _ ⟨rfl, rfl, rfl⟩)
end
end Go.Proofs.YtabamagholjdcaaGreatDoor
