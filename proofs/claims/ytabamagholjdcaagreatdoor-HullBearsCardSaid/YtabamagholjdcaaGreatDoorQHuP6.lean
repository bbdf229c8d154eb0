/- Walks, part 6: each function computes its model. -/
import Derived.Test.YtabamagholjdcaaGreatDoorQHuP5
namespace Go.Proofs.YtabamagholjdcaaGreatDoor
open Go.Lg Go.Proofs
set_option maxRecDepth 100000
set_option maxHeartbeats 4000000
section
variable {B : Base} {main : Bool} {𝒥 : Jd Tryz.prog B main} {R : RMap} {H : HList}
theorem m42_ok (x0 : HullBook) {v0_3 v0_4 v0_5 : Value} (h0_3 : SlR CHullPiece 5 R v0_3 x0.Pieces) (h0_4 : SlR CZ 1 R v0_4 x0.Out) (h0_5 : SlR CHullHeel 2 R v0_5 x0.Heels) {r : Bool} (hM : m42 x0 = some r) : FnOk 𝒥 42 #[.agg #[iv x0.Limit, iv x0.Ballast.Least, iv x0.Ballast.Most, v0_3, v0_4, v0_5]] R H (fun v R' H' => R = R' ∧ H = H' ∧ v = .bool r) := by
 unfold m42 at hM
 refine FnOk.of_at Tryz.func42 rfl (n := 11) rfl rfl fun fr cs hk => ?_
 refine sg rg2 ?_
 refine bx fun b24 => ?_
 refine vs 1 ?_
 refine nx rg9 ?_
 refine lN [_, _, _, _, _, _] 0 6 agg28 z0 ?_
 obtain ⟨x25, hx25, hM⟩ := bnd hM
 refine At.cv ent18 (m18_ok x0 h0_3 h0_4 h0_5 hx25) ?_
 rintro _ _ _ ⟨rfl, rfl, rfl⟩
 refine vs 2 ?_
 refine selC hM (fun ht26 hM => ?_) (fun ht26 hM => ?_)
 ·refine At.kn 6 ht26 ?_
  refine lN [_, _, _, _, _, _] 0 6 agg28 z0 ?_
  obtain ⟨x27, hx27, hM⟩ := bnd hM
  refine At.cv ent61 (m61_ok x0 h0_3 h0_4 h0_5 hx27) ?_
  rintro _ _ _ ⟨rfl, rfl, rfl⟩
  refine vs 3 ?_
  refine er ?_
  obtain rfl := sinj hM
  exact rt Tryz.func42 (.tmp rfl .nil) (so sr) (hk _ _ _ ⟨rfl, rfl, rfl⟩)
 refine At.kn 6 ht26 ?_
 refine vs 5 ?_
 refine er ?_
 obtain rfl := sinj hM
 exact rt Tryz.func42 (.tmp rfl .nil) (so sr) (hk _ _ _ ⟨rfl, rfl, rfl⟩)
theorem m48_ok (x0 : (List Int)) (x1 : Int) {v0 : Value} (h0 : RdS (CI .u16) 1 R H v0 x0) {r : Int} (hM : m48 x0 x1 = some r) : FnOk 𝒥 48 #[v0, iv x1] R H (fun v R' H' => R = R' ∧ H = H' ∧ v = iv r) := by
 unfold m48 at hM
 refine FnOk.of_at Tryz.func48 rfl (n := 14) rfl rfl fun fr cs hk => ?_
 refine sg rg1 ?_
 refine vs 1 ?_
 refine es ?_
 refine sg rg4 ?_
 refine vs 2 ?_
 refine lr h0 Tryz.underlying63 ?_
 refine vs 1 ?_
 refine er ?_
 refine sc hM (fun ht22 hM => ?_) (fun ht22 hM => ?_)
 ·refine sg rg6 ?_
  refine vs 2 ?_
  obtain ⟨x23, hx23, hM⟩ := bnd hM
  obtain ⟨bx23, ox23, _, rfl, hcx23, hix23⟩ := h0.elem slice63 hx23
  refine At.s rfl rfl (Ox.indexV rfl rfl rfl hix23 rfl (.put rfl) ?_)
  refine At.ld one157 ((hcx23.sub pp).one (j := 0) rfl) ?_
  refine At.s rfl rfl (Ox.convI rfl rfl Tryz.underlying157 Tryz.underlying3 rfl (.put rfl) ?_)
  refine vs 1 ?_
  refine er ?_
  obtain rfl := sinj hM
  exact rt Tryz.func48 (.tmp rfl .nil) sr (hk _ _ _ ⟨rfl, rfl, rfl⟩)
 refine sp ?_
 refine sg rg1 ?_
 refine vs 1 ?_
 refine er ?_
 obtain rfl := sinj hM
 exact rt Tryz.func48 (.tmp rfl .nil) sr (hk _ _ _ ⟨rfl, rfl, rfl⟩)
theorem m49_ok (x0 : Int) (x1 : Int)  {r : (List Int)} (hM : m49 x0 x1 = some r) : FnOk 𝒥 49 #[.int .u8 x0, iv x1] R H (fun v R' H' => RLe R R' ∧ H = H' ∧ ∃ vr0, SlR CZ 1 R' vr0 r ∧ v = vr0) := by
 unfold m49 at hM
 refine FnOk.of_at Tryz.func49 rfl (n := 22) rfl rfl fun fr cs hk => ?_
 refine sg rg1 ?_
 refine vs 1 ?_
 refine nx rg1 ?_
 refine vs 1 ?_
 refine es ?_
 refine sg rg1 ?_
 refine vs 1 ?_
 refine er ?_
 refine At.block ?_
 refine At.loopE1 hM (fun (s46 : ((List Int) × Int)) R' H' st' => R = R' ∧ ∃ v46s_0 Hs46s_0, OwnSl CZ 1 3 R' v46s_0 s46.1 Hs46s_0 ∧ H' = Hs46s_0 ++ (H) ∧ SubL st' [(0, .int .u8 x0), (1, iv x1), (5, v46s_0), (6, iv s46.2)]) (fun (p46_0 : (List Int)) R' H' st' => R = R' ∧ ∃ v46_0_0 Hs46_0_0, OwnSl CZ 1 3 R' v46_0_0 p46_0 Hs46_0_0 ∧ H' = Hs46_0_0 ++ (H) ∧ SubL st' [(5, v46_0_0)]) 0 rfl ⟨rfl, .slice none 0 0, [], OwnSl.nil, rfl, SubT.sub ⟨rfl, rfl, rfl, rfl, trivial⟩⟩ ?_ ?_
 rotate_right
 ·rintro s46 R46 H46 st46 ⟨rfl, v46s_0, Hs46s_0, ho46s_0, rfl, hst46⟩ x46 hM again46 ex46_0
  refine At.sub hst46 ?_
  refine sq ?_
  refine sg rg3 ?_
  refine vs 3 ?_
  refine er ?_
  refine sc hM (fun ht65 hM => ?_) (fun ht65 hM => ?_)
  ·refine sp ?_
   refine sq ?_
   refine At.block ?_
   refine sg rg5 ?_
   refine vs 2 ?_
   obtain ⟨x66, hx66, hM⟩ := bnd hM
   refine At.s rfl rfl (Ox.shr rfl rfl rfl hx66 rfl (.put rfl) ?_)
   obtain ⟨x67, hx67, hM⟩ := bnd hM
   refine At.s rfl rfl (Ox.bits rfl rfl rfl hx67 rfl (.put rfl) ?_)
   refine vs 1 ?_
   refine er ?_
   refine sc hM (fun ht68 hM => ?_) (fun ht68 hM => ?_)
   ·refine At.rg rg5 ?_
    refine vs 2 ?_
    refine At.s rfl rfl (Ox.buildSlice (cells := #[_]) rfl elem25 rfl (by decide) base25_1 (fill_cons rfl rfl rfl rfl fill_nil) rfl fun b69 _ _ => ⟨_, (.put rfl), ?_⟩)
    obtain ⟨x70, hx70, hM⟩ := bnd hM
    refine At.s rfl rfl (Ox.append (K := CZ) (fun X => (b69, _) :: X ++ (H)) rfl rfl rfl app25 Tryz.underlying25 (by simp) (.cons .id) ho46s_0 (ArgSl.lit z0 (Enc.le (Enc.cons (x := s46.2) rfl rfl Enc.nil) rfl) rfl) hx70 rfl fun vx70 Hsx70 hox70 => ⟨_, (.put rfl), ?_⟩)
    refine vs 1 ?_
    refine er ?_
    refine At.inBlock ?_
    refine At.rg rg3 ?_
    refine vs 3 ?_
    refine er ?_
    exact At.drop (so sr) (again46 _ (sinj hM).symm _ _ _ ⟨rfl, vx70, Hsx70, hox70, rfl, SubT.sub ⟨rfl, rfl, rfl, rfl, trivial⟩⟩)
   refine sp ?_
   refine At.inBlock ?_
   refine At.rg rg3 ?_
   refine vs 3 ?_
   refine er ?_
   exact again46 _ (sinj hM).symm _ _ _ ⟨rfl, v46s_0, Hs46s_0, ho46s_0, rfl, SubT.sub ⟨rfl, rfl, rfl, rfl, trivial⟩⟩
  exact At.exit rfl (ex46_0 _ (sinj hM).symm _ _ _ ⟨rfl, v46s_0, Hs46s_0, ho46s_0, rfl, SubT.sub ⟨rfl, trivial⟩⟩)
 rintro p46_0 R46_0 H46_0 st46_0 ⟨rfl, v46_0_0, Hs46_0_0, ho46_0_0, rfl, hst46_0⟩ hM
 refine At.sub hst46_0 ?_
 refine sg rg2 ?_
 refine vs 2 ?_
 refine er ?_
 refine At.freezeOwn (H2 := H) (fun X => X ++ (H)) .id rfl ho46_0_0 (fun Rf71 hRf71 hf71 => ?_)
 obtain rfl := sinj hM
 exact rt Tryz.func49 (.tmp rfl .nil) sr (hk _ _ _ ⟨hRf71, rfl, v46_0_0, hf71, rfl⟩)
theorem m51_ok (x0 : (List Int)) {v0 : Value} (h0 : RdS CZ 1 R H v0 x0) {r : (List Int)} (hM : m51 x0 = some r) : FnOk 𝒥 51 #[v0] R H (fun v R' H' => RLe R R' ∧ H = H' ∧ ∃ vr0, SlR CZ 1 R' vr0 r ∧ v = vr0) := by
 unfold m51 at hM
 refine FnOk.of_at Tryz.func51 rfl (n := 60) rfl rfl fun fr cs hk => ?_
 refine sg rg1 ?_
 refine vs 1 ?_
 refine nx rg1 ?_
 refine vs 1 ?_
 refine es ?_
 refine sg rg1 ?_
 refine vs 1 ?_
 refine er ?_
 refine At.block ?_
 refine At.loopE1 hM (fun (s121 : ((List Int) × Int)) R' H' st' => R = R' ∧ ∃ v121s_0 Hs121s_0, OwnSl CZ 1 3 R' v121s_0 s121.1 Hs121s_0 ∧ H' = Hs121s_0 ++ (H) ∧ SubL st' [(0, v0), (3, v121s_0), (4, iv s121.2)]) (fun (p121_0 : (List Int)) R' H' st' => R = R' ∧ ∃ v121_0_0 Hs121_0_0, OwnSl CZ 1 3 R' v121_0_0 p121_0 Hs121_0_0 ∧ H' = Hs121_0_0 ++ (H) ∧ SubL st' [(3, v121_0_0)]) 0 rfl ⟨rfl, .slice none 0 0, [], OwnSl.nil, rfl, SubT.sub ⟨rfl, rfl, rfl, trivial⟩⟩ ?_ ?_
 rotate_right
 ·rintro s121 R121 H121 st121 ⟨rfl, v121s_0, Hs121s_0, ho121s_0, rfl, hst121⟩ x121 hM again121 ex121_0
  refine At.sub hst121 ?_
  refine sq ?_
  refine sg rg4 ?_
  refine vs 2 ?_
  refine lr h0 Tryz.underlying25 ?_
  refine vs 1 ?_
  refine er ?_
  refine sc hM (fun ht190 hM => ?_) (fun ht190 hM => ?_)
  ·refine sp ?_
   refine sq ?_
   refine At.block ?_
   refine sg rg1 ?_
   refine vs 1 ?_
   refine es ?_
   refine At.block ?_
   refine At.loopE1 hM (fun (s191 : Int) R' H' st' => R = R' ∧ H' = Hs121s_0 ++ (H) ∧ SubL st' [(0, v0), (3, v121s_0), (4, iv s121.2), (5, iv s191)]) (fun (p191_0 : Int) R' H' st' => R = R' ∧ H' = Hs121s_0 ++ (H) ∧ SubL st' [(0, v0), (3, v121s_0), (4, iv s121.2), (5, iv p191_0)]) 2 rfl ⟨rfl, rfl, SubT.sub ⟨rfl, rfl, rfl, rfl, trivial⟩⟩ ?_ ?_
   rotate_right
   ·rintro s191 R191 H191 st191 ⟨rfl, rfl, hst191⟩ x191 hM again191 ex191_0
    refine At.sub hst191 ?_
    refine sq ?_
    refine sq ?_
    refine At.dw rg15 mixed ?_
    refine Any.vs 2 [0, 1] rfl ?_
    refine Any.tk 2 rfl pp (fun R' H' hR hS => Ox.lenO rfl rfl (ho121s_0.mono hR) Tryz.underlying25 rfl (.one rfl) ⟨rfl, rfl, rfl⟩) ?_
    refine Any.vs 2 [3, 4] rfl ?_
    refine selC hM (fun ht200 hM => ?_) (fun ht200 hM => ?_)
    ·refine Any.known (t := 16) rfl ht200 ?_
     refine Any.vs 2 [5, 6] rfl ?_
     obtain ⟨x201, hx201, hM⟩ := bnd hM
     obtain ⟨x202, hx202, hM⟩ := bnd hM
     obtain ⟨bx201, ox201, _, rfl, hcx201, hix201⟩ := (ho121s_0.rd (fun _ h => (List.mem_append_left _ h))).elem slice25 hx201
     refine Any.tk 7 rfl pp (fun R' H' hR hS => Ox.indexV rfl rfl rfl hix201 rfl (.one rfl) ⟨rfl, rfl, rfl⟩) ?_
     refine Any.tk 8 rfl pp (fun R' H' hR hS => Ox.load1 rfl rfl one3 (((hcx201.le hR).sub (fun p h => hS p (pp p h))).one (j := 0) rfl) rfl (.one rfl) ⟨rfl, rfl, rfl⟩) ?_
     refine Any.vs 2 [9, 10] rfl ?_
     obtain ⟨bx202, ox202, _, rfl, hcx202, hix202⟩ := h0.elem slice25 hx202
     refine Any.tk 11 rfl pp (fun R' H' hR hS => Ox.indexV rfl rfl rfl hix202 rfl (.one rfl) ⟨rfl, rfl, rfl⟩) ?_
     refine Any.tk 12 rfl pp (fun R' H' hR hS => Ox.load1 rfl rfl one3 (((hcx202.le hR).sub (fun p h => hS p ((su (subDrop sr)) p h))).one (j := 0) rfl) rfl (.one rfl) ⟨rfl, rfl, rfl⟩) ?_
     refine Any.vs 2 [13, 14] rfl ?_
     refine Any.done ?_
     refine sc hM (fun ht203 hM => ?_) (fun ht203 hM => ?_)
     ·refine sp ?_
      refine At.block ?_
      refine At.rg rg3 ?_
      refine vs 3 ?_
      refine er ?_
      refine At.inBlock ?_
      exact again191 _ (sinj hM).symm _ _ _ ⟨rfl, rfl, SubT.sub ⟨rfl, rfl, rfl, rfl, trivial⟩⟩
     exact At.exit rfl (ex191_0 _ (sinj hM).symm _ _ _ ⟨rfl, rfl, SubT.sub ⟨rfl, rfl, rfl, rfl, trivial⟩⟩)
    refine Any.known (t := 16) rfl ht200 ?_
    refine Any.vs 10 [5, 6, 7, 8, 9, 10, 11, 12, 13, 14] rfl ?_
    refine Any.done ?_
    refine At.cond_false rfl ?_
    exact At.exit rfl (ex191_0 _ (sinj hM).symm _ _ _ ⟨rfl, rfl, SubT.sub ⟨rfl, rfl, rfl, rfl, trivial⟩⟩)
   rintro p191_0 R191_0 H191_0 st191_0 ⟨rfl, rfl, hst191_0⟩ hM
   refine At.sub hst191_0 ?_
   refine sq ?_
   refine At.joinE1 hM (fun (p204_0 : Bool) R' H' st' => R = R' ∧ H' = Hs121s_0 ++ (H) ∧ SubL st' [(0, v0), (3, v121s_0), (4, iv s121.2), (5, iv p191_0), (43, .bool p204_0)])  ?_ ?_
   rotate_right
   ·intro x204 hM ex204_0
    refine At.dw rg15 mixed ?_
    refine Any.vs 2 [0, 1] rfl ?_
    refine Any.tk 2 rfl pp (fun R' H' hR hS => Ox.lenO rfl rfl (ho121s_0.mono hR) Tryz.underlying25 rfl (.one rfl) ⟨rfl, rfl, rfl⟩) ?_
    refine Any.vs 2 [3, 4] rfl ?_
    refine selC hM (fun ht208 hM => ?_) (fun ht208 hM => ?_)
    ·refine Any.known (t := 33) rfl ht208 ?_
     refine Any.vs 10 [5, 6, 7, 8, 9, 10, 11, 12, 13, 14] rfl ?_
     refine Any.done ?_
     exact ex204_0 _ (sinj hM).symm _ _ _ ⟨rfl, rfl, SubT.sub ⟨rfl, rfl, rfl, rfl, rfl, trivial⟩⟩
    refine Any.known (t := 33) rfl ht208 ?_
    refine Any.vs 2 [5, 6] rfl ?_
    obtain ⟨x209, hx209, hM⟩ := bnd hM
    obtain ⟨x210, hx210, hM⟩ := bnd hM
    obtain ⟨bx209, ox209, _, rfl, hcx209, hix209⟩ := (ho121s_0.rd (fun _ h => (List.mem_append_left _ h))).elem slice25 hx209
    refine Any.tk 7 rfl pp (fun R' H' hR hS => Ox.indexV rfl rfl rfl hix209 rfl (.one rfl) ⟨rfl, rfl, rfl⟩) ?_
    refine Any.tk 8 rfl pp (fun R' H' hR hS => Ox.load1 rfl rfl one3 (((hcx209.le hR).sub (fun p h => hS p (pp p h))).one (j := 0) rfl) rfl (.one rfl) ⟨rfl, rfl, rfl⟩) ?_
    refine Any.vs 2 [9, 10] rfl ?_
    obtain ⟨bx210, ox210, _, rfl, hcx210, hix210⟩ := h0.elem slice25 hx210
    refine Any.tk 11 rfl pp (fun R' H' hR hS => Ox.indexV rfl rfl rfl hix210 rfl (.one rfl) ⟨rfl, rfl, rfl⟩) ?_
    refine Any.tk 12 rfl pp (fun R' H' hR hS => Ox.load1 rfl rfl one3 (((hcx210.le hR).sub (fun p h => hS p ((su (subDrop sr)) p h))).one (j := 0) rfl) rfl (.one rfl) ⟨rfl, rfl, rfl⟩) ?_
    refine Any.vs 2 [13, 14] rfl ?_
    refine Any.done ?_
    exact ex204_0 _ (sinj hM).symm _ _ _ ⟨rfl, rfl, SubT.sub ⟨rfl, rfl, rfl, rfl, rfl, trivial⟩⟩
   rintro p204_0 R204_0 H204_0 st204_0 ⟨rfl, rfl, hst204_0⟩ hM
   refine At.sub hst204_0 ?_
   refine sc hM (fun ht211 hM => ?_) (fun ht211 hM => ?_)
   ·obtain ⟨x213, hx213, hM⟩ := bnd hM
    obtain ⟨x214, hx214, hM⟩ := bnd hM
    obtain ⟨x215, hx215, hM⟩ := bnd hM
    obtain ⟨x217, hx217, hM⟩ := bnd hM
    obtain ⟨x218, hx218, hM⟩ := bnd hM
    obtain ⟨x219, hx219, hM⟩ := bnd hM
    refine At.cut (fun R' H' st' => R = R' ∧ ∃ (vx219 : Value) (Hsx219 : HList), OwnSl CZ 1 3 R' vx219 x219 Hsx219 ∧ H' = Hsx219 ++ (H) ∧ SubL st' [(0, v0), (3, vx219), (4, iv s121.2)]) ?_ ?_
    ·rintro Rc220 Hc220 stc220 ⟨rfl, vx219, Hsx219, hox219, rfl, hstc220⟩
     refine At.sub hstc220 ?_
     refine At.inBlock ?_
     refine At.rg rg3 ?_
     refine vs 3 ?_
     refine er ?_
     exact again121 _ (sinj hM).symm _ _ _ ⟨rfl, vx219, Hsx219, hox219, rfl, SubT.sub ⟨rfl, rfl, rfl, trivial⟩⟩
    intro hcut220
    refine At.dw rg16 mixed ?_
    refine Any.vs 2 [1, 2] rfl ?_
    obtain ⟨vx213, hx213s, hkx213⟩ := (ho121s_0.rd (fun _ h => (List.mem_append_left _ h))).cut slice25 hx213
    refine Any.tk 3 rfl pp (fun R' H' hR hS => Ox.cutV rfl rfl rfl rfl hkx213 rfl (.one rfl) ⟨rfl, rfl, rfl⟩) ?_
    refine Any.vs 2 [5, 6] rfl ?_
    obtain ⟨bx215, ox215, _, rfl, hcx215, hix215⟩ := h0.elem slice25 hx215
    refine Any.tk 7 rfl pp (fun R' H' hR hS => Ox.indexV rfl rfl rfl hix215 rfl (.one rfl) ⟨rfl, rfl, rfl⟩) ?_
    refine Any.tk 8 rfl pp (fun R' H' hR hS => Ox.load1 rfl rfl one3 (((hcx215.le hR).sub (fun p h => hS p ((su (subDrop sr)) p h))).one (j := 0) rfl) rfl (.one rfl) ⟨rfl, rfl, rfl⟩) ?_
    refine Any.vs 2 [11, 12] rfl ?_
    obtain ⟨vx218, hx218s, hkx218⟩ := (ho121s_0.rd (fun _ h => (List.mem_append_left _ h))).cut slice25 hx218
    refine Any.tk 13 rfl pp (fun R' H' hR hS => Ox.cutV rfl rfl rfl rfl hkx218 rfl (.one rfl) ⟨rfl, rfl, rfl⟩) ?_
    refine tw 0 9 ?_ ?_
    ·refine  (SemTo.to (Ox.buildSlice (cells := #[]) rfl elem25 rfl (by decide) base25_0 fill_nil rfl fun b212 _ _ => ⟨_, (.put rfl), ⟨rr, (ku (so sr)), ?_⟩⟩))
     refine tw 4 9 ?_ ?_
     ·refine  (SemTo.to (Ox.append (K := CZ) (fun X => X ++ (Hs121s_0 ++ (H))) rfl rfl rfl app25 Tryz.underlying25 (by simp) .id (OwnSl.lit (Enc.le Enc.nil rfl) rfl) (hx213s.sub (su (so sr))).arg hx214 rfl fun vx214 Hsx214 hox214 => ⟨_, (.put rfl), ⟨rr, (ku (subDrop sr)), ?_⟩⟩))
      refine Any.on 9 rfl rfl (SemTo.to (Ox.buildSlice (cells := #[_]) rfl elem25 rfl (by decide) base25_1 (fill_cons rfl rfl rfl rfl fill_nil) rfl fun b216 _ _ => ⟨_, (.put rfl), ⟨rr, (ku (so (subDrop sr))), ?_⟩⟩))
      refine Any.on 10 rfl rfl (SemTo.to (Ox.append (K := CZ) (fun X => (b216, _) :: X ++ (Hs121s_0 ++ (H))) rfl rfl rfl app25 Tryz.underlying25 (by simp) (.cons .id) hox214 (ArgSl.lit z0 (Enc.le (Enc.cons (x := x215) rfl rfl Enc.nil) rfl) rfl) hx217 rfl fun vx217 Hsx217 hox217 => ⟨_, (.put rfl), ⟨rr, (ku (so (subDrop sr))), ?_⟩⟩))
      refine Any.on 14 rfl rfl (SemTo.to (Ox.append (K := CZ) (fun X => (b216, _) :: X ++ (Hs121s_0 ++ (H))) rfl rfl rfl app25 Tryz.underlying25 (by simp) (.cons .id) hox217 (hx218s.sub (su (so (subDrop sr)))).arg hx219 rfl fun vx219 Hsx219 hox219 => ⟨_, (.put rfl), ⟨rr, (ku (so (subDrop sr))), ?_⟩⟩))
      refine Any.vs 1 [15] rfl ?_
      exact Any.done (At.drop (so (subKeep (subDrop sr))) (hcut220 _ _ _ ⟨rfl, vx219, Hsx219, hox219, rfl, SubT.sub ⟨rfl, rfl, rfl, trivial⟩⟩))
     refine  (SemTo.to (Ox.buildSlice (cells := #[_]) rfl elem25 rfl (by decide) base25_1 (fill_cons rfl rfl rfl rfl fill_nil) rfl fun b216 _ _ => ⟨_, (.put rfl), ⟨rr, (ku (so (so sr))), ?_⟩⟩))
     refine Any.on 4 rfl rfl (SemTo.to (Ox.append (K := CZ) (fun X => (b216, _) :: X ++ (Hs121s_0 ++ (H))) rfl rfl rfl app25 Tryz.underlying25 (by simp) (.cons .id) (OwnSl.lit (Enc.le Enc.nil rfl) rfl) (hx213s.sub (su (so (so sr)))).arg hx214 rfl fun vx214 Hsx214 hox214 => ⟨_, (.put rfl), ⟨rr, (ku (so (subDrop sr))), ?_⟩⟩))
     refine Any.on 10 rfl rfl (SemTo.to (Ox.append (K := CZ) (fun X => (b216, _) :: X ++ (Hs121s_0 ++ (H))) rfl rfl rfl app25 Tryz.underlying25 (by simp) (.cons .id) hox214 (ArgSl.lit z0 (Enc.le (Enc.cons (x := x215) rfl rfl Enc.nil) rfl) rfl) hx217 rfl fun vx217 Hsx217 hox217 => ⟨_, (.put rfl), ⟨rr, (ku (so (subDrop sr))), ?_⟩⟩))
     refine Any.on 14 rfl rfl (SemTo.to (Ox.append (K := CZ) (fun X => (b216, _) :: X ++ (Hs121s_0 ++ (H))) rfl rfl rfl app25 Tryz.underlying25 (by simp) (.cons .id) hox217 (hx218s.sub (su (so (subDrop sr)))).arg hx219 rfl fun vx219 Hsx219 hox219 => ⟨_, (.put rfl), ⟨rr, (ku (so (subDrop sr))), ?_⟩⟩))
     refine Any.vs 1 [15] rfl ?_
     exact Any.done (At.drop (so (subKeep (subDrop sr))) (hcut220 _ _ _ ⟨rfl, vx219, Hsx219, hox219, rfl, SubT.sub ⟨rfl, rfl, rfl, trivial⟩⟩))
    refine  (SemTo.to (Ox.buildSlice (cells := #[_]) rfl elem25 rfl (by decide) base25_1 (fill_cons rfl rfl rfl rfl fill_nil) rfl fun b216 _ _ => ⟨_, (.put rfl), ⟨rr, (ku (so sr)), ?_⟩⟩))
    refine Any.on 0 rfl rfl (SemTo.to (Ox.buildSlice (cells := #[]) rfl elem25 rfl (by decide) base25_0 fill_nil rfl fun b212 _ _ => ⟨_, (.put rfl), ⟨rr, (ku (so (so sr))), ?_⟩⟩))
    refine Any.on 4 rfl rfl (SemTo.to (Ox.append (K := CZ) (fun X => X ++ ((b216, _) :: Hs121s_0 ++ (H))) rfl rfl rfl app25 Tryz.underlying25 (by simp) .id (OwnSl.lit (Enc.le Enc.nil rfl) rfl) (hx213s.sub (su (so (so sr)))).arg hx214 rfl fun vx214 Hsx214 hox214 => ⟨_, (.put rfl), ⟨rr, (ku (subDrop (so sr))), ?_⟩⟩))
    refine Any.on 10 rfl rfl (SemTo.to (Ox.append (K := CZ) (fun X => X ++ ((b216, _) :: Hs121s_0 ++ (H))) rfl rfl rfl app25 Tryz.underlying25 (by simp) .id hox214 (ArgSl.lit (List.mem_append_right _ z0) (Enc.le (Enc.cons (x := x215) rfl rfl Enc.nil) rfl) rfl) hx217 rfl fun vx217 Hsx217 hox217 => ⟨_, (.put rfl), ⟨rr, (ku (subDrop (so sr))), ?_⟩⟩))
    refine Any.on 14 rfl rfl (SemTo.to (Ox.append (K := CZ) (fun X => X ++ ((b216, _) :: Hs121s_0 ++ (H))) rfl rfl rfl app25 Tryz.underlying25 (by simp) .id hox217 (hx218s.sub (su (subDrop (so sr)))).arg hx219 rfl fun vx219 Hsx219 hox219 => ⟨_, (.put rfl), ⟨rr, (ku (subDrop (so sr))), ?_⟩⟩))
    refine Any.vs 1 [15] rfl ?_
    exact Any.done (At.drop (subKeep (so (subDrop sr))) (hcut220 _ _ _ ⟨rfl, vx219, Hsx219, hox219, rfl, SubT.sub ⟨rfl, rfl, rfl, trivial⟩⟩))
   refine sp ?_
   refine At.inBlock ?_
   refine At.rg rg3 ?_
   refine vs 3 ?_
   refine er ?_
   exact again121 _ (sinj hM).symm _ _ _ ⟨rfl, v121s_0, Hs121s_0, ho121s_0, rfl, SubT.sub ⟨rfl, rfl, rfl, trivial⟩⟩
  exact At.exit rfl (ex121_0 _ (sinj hM).symm _ _ _ ⟨rfl, v121s_0, Hs121s_0, ho121s_0, rfl, SubT.sub ⟨rfl, trivial⟩⟩)
 rintro p121_0 R121_0 H121_0 st121_0 ⟨rfl, v121_0_0, Hs121_0_0, ho121_0_0, rfl, hst121_0⟩ hM
 refine At.sub hst121_0 ?_
 refine sg rg2 ?_
 refine vs 2 ?_
 refine er ?_
 refine At.freezeOwn (H2 := H) (fun X => X ++ (H)) .id rfl ho121_0_0 (fun Rf221 hRf221 hf221 => ?_)
 obtain rfl := sinj hM
 exact rt Tryz.func51 (.tmp rfl .nil) sr (hk _ _ _ ⟨hRf221, rfl, v121_0_0, hf221, rfl⟩)
end
end Go.Proofs.YtabamagholjdcaaGreatDoor
