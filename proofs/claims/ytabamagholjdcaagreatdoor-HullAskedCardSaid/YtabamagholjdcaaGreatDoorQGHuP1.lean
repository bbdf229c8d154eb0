/- Walks, part 1: each function computes its model. -/
import Derived.Test.YtabamagholjdcaaGreatDoorQGHuM
namespace Go.Proofs.YtabamagholjdcaaGreatDoor
open Go.Lg Go.Proofs
set_option maxRecDepth 100000
set_option maxHeartbeats 4000000
section
variable {B : Base} {main : Bool} {ah : Jd Tryz.prog B main} {R : aA} {H : ak}
theorem w7 (x0 : av) (x1 : bn) (x2 : (List Bool)) {aG aI aM : Value} (aE : az bI 5 R aG x0.au) (_ : az CZ 1 R aI x0.Out) (_ : az bB 2 R aM x0.aU) (zY : x1.weights.length = 5) (l2 : x2.length = 5) {r : Int} (hM : pA x0 x1 x2 = some r) : aB ah 104 #[.agg #[iv x0.aD, iv x0.af.ao, iv x0.af.ax, aG, aI, aM], .agg (List.toArray ([iv x1.fq] ++ (x1.weights.map (Value.int .i64) ++ []))), .agg (List.toArray ([] ++ (x2.map Value.bool ++ [])))] R H (λ v R' H' => R = R' ∧ H = H' ∧ v = iv r) := by
 unfold pA at hM
 refine aB.bk Tryz.func104 rfl (n := 36) rfl rfl λ fr cs hk => ?_
 refine sg bw ?_
 refine bx λ rP => ?_
 refine bx λ mb => ?_
 refine bx λ rQ => ?_
 refine vs 1 ?_
 refine nx aT ?_
 refine vs 1 ?_
 refine ld 0 aV z1 ?_
 refine vs 1 ?_
 refine es ?_
 refine sg cB ?_
 refine vs 2 ?_
 refine ld 3 dc z2 ?_
 refine ls aE Tryz.underlying24 ?_
 refine vs 1 ?_
 refine er ?_
 refine At.block ?_
 refine At.drop (H' := (rQ, .cells (List.toArray ([] ++ (x2.map Value.bool ++ []))) 112) :: (mb, .cells (List.toArray ([iv x1.fq] ++ (x1.weights.map (Value.int .i64) ++ []))) 125) :: H) (sk (sk (so sr))) ?_
 refine At.eI hM (λ (dV : (Int × Int)) R' H' st' => R = R' ∧ H' = (rQ, .cells (List.toArray ([] ++ (x2.map Value.bool ++ []))) 112) :: (mb, .cells (List.toArray ([iv x1.fq] ++ (x1.weights.map (Value.int .i64) ++ []))) 125) :: H ∧ aF st' [(4, .pointer (some ⟨mb, 0, none⟩)), (5, .pointer (some ⟨rQ, 0, none⟩)), (7, iv dV.1), (14, aG), (15, iv (x0.au.length : Int)), (16, iv dV.2)]) (λ (qP : Int) R' H' st' => R = R' ∧ H = H' ∧ aF st' [(7, iv qP)]) 0 rfl ⟨rfl, rfl, ay.sub ⟨rfl, rfl, rfl, rfl, rfl, rfl, trivial⟩⟩ ?_ ?_
 rotate_right
 ·rintro dV VX VG ab1 ⟨rfl, rfl, Ft⟩ pQ hM vP EH
  refine At.sub Ft ?_
  refine sg aQ ?_
  refine vs 1 ?_
  refine es ?_
  refine sc hM (λ zF hM => ?_) (λ zF hM => ?_)
  ·refine sp ?_
   refine sq ?_
   refine At.block ?_
   refine sg c6 ?_
   refine vs 1 ?_
   obtain ⟨mY, zT, hM⟩ := aj hM
   obtain ⟨af3, az5, _, ⟨aRo, avp, rfl⟩, Pa, PA⟩ := aE.elem jD zT
   refine At.s rfl rfl (Ox.aX rfl rfl rfl PA rfl (.put rfl) ?_)
   refine At.s rfl rfl (Ox.ck (vs := [_, _, _, _, _]) rfl rfl kE rfl (Pa.any.part (j := 0) (n := 5) rfl) rfl (.put rfl) ?_)
   refine At.s rfl rfl (Ox.alloc (cs := #[.string (⟨#[]⟩), iv 0, iv 0, iv 0, .slice none 0 0]) rfl vD rfl λ b72 _ _ => ⟨_, (.put rfl), ?_⟩)
   refine vs 1 ?_
   refine At.s rfl rfl (Ox.bG (cs' := #[_, _, _, _, _]) rfl rfl rfl kE rfl (aq rfl (aq rfl (aq rfl (aq rfl (aq avp.one aW))))) .here rfl rfl rfl (.refl _) ?_)
   refine nx bw ?_
   refine vs 1 ?_
   obtain ⟨mZ, wS, hM⟩ := aj hM
   refine At.s rfl rfl (Ox.aX rfl rfl rfl (sL BJ l2 wS) rfl (.put rfl) ?_)
   refine At.ld jg ((aS.box z1).arr wS rfl) ?_
   refine vs 1 ?_
   refine er ?_
   refine sc hM (λ RH hM => ?_) (λ RH hM => ?_)
   ·refine At.dw mS mixed ?_
    refine Any.vs 2 [0, 1] rfl ?_
    refine tl 2 1 aV z0 ?_
    refine Any.vs 2 [3, 4] rfl ?_
    obtain ⟨k9, sJ, hM⟩ := aj hM
    refine Any.tk 5 rfl pp (λ R' H' hR hS => Ox.aX rfl rfl rfl (sL Er zY sJ) rfl (.one rfl) ⟨rfl, rfl, rfl⟩) ?_
    refine Any.tk 6 rfl pp (λ R' H' hR hS => Ox.bu rfl rfl aV ((aS.box (hS _ z2)).arr sJ rfl) rfl (.one rfl) ⟨rfl, rfl, rfl⟩) ?_
    refine Any.vs 3 [7, 8, 9] rfl ?_
    refine Any.done ?_
    refine At.inBlock ?_
    refine At.rg aR ?_
    refine vs 2 ?_
    refine er ?_
    exact At.drop (so sr) (vP _ (aa hM).symm _ _ _ ⟨rfl, rfl, ay.sub ⟨rfl, rfl, rfl, rfl, rfl, rfl, trivial⟩⟩)
   refine sp ?_
   refine At.inBlock ?_
   refine At.rg aR ?_
   refine vs 2 ?_
   refine er ?_
   exact At.drop (so sr) (vP _ (aa hM).symm _ _ _ ⟨rfl, rfl, ay.sub ⟨rfl, rfl, rfl, rfl, rfl, rfl, trivial⟩⟩)
  exact At.exit rfl (At.drop (so (so sr)) (EH _ (aa hM).symm _ _ _ ⟨rfl, rfl, ay.sub ⟨rfl, trivial⟩⟩))
 rintro qP VY VH ab2 ⟨rfl, rfl, Fu⟩ hM
 refine At.sub Fu ?_
 refine sg aR ?_
 refine vs 2 ?_
 refine er ?_
 obtain rfl := aa hM
 exact rt Tryz.func104 (.tmp rfl .nil) sr (hk _ _ _ ⟨rfl, rfl, rfl⟩)
theorem ayC (x0 : av) {aG aI aM : Value} (aE : az bI 5 R aG x0.au) (aJ : az CZ 1 R aI x0.Out) (aL : az bB 2 R aM x0.aU) {r : Bool} (hM : GM x0 = some r) : aB ah 18 #[.agg #[iv x0.aD, iv x0.af.ao, iv x0.af.ax, aG, aI, aM]] R H (λ v R' H' => R = R' ∧ H = H' ∧ v = .bool r) := by
 unfold GM at hM
 refine aB.bk Tryz.func18 rfl (n := 45) rfl rfl λ fr cs hk => ?_
 refine sg aR ?_
 refine bx λ IT => ?_
 refine vs 1 ?_
 refine es ?_
 refine sq ?_
 refine At.eZ hM (λ (C8 : Bool) R' H' st' => R = R' ∧ H' = (IT, .cells #[iv x0.aD, iv x0.af.ao, iv x0.af.ax, aG, aI, aM] 28) :: H ∧ aF st' [(1, .pointer (some ⟨IT, 0, none⟩)), (19, .bool C8)])  ?_ ?_
 rotate_right
 ·intro x52 hM EI
  refine At.rg abJ ?_
  refine vs 1 ?_
  refine ld 3 dc z0 ?_
  refine ls aE Tryz.underlying24 ?_
  refine vs 2 ?_
  refine bA hM (λ uz hM => ?_) (λ uz hM => ?_)
  ·refine At.kn 8 uz ?_
   refine vs 11 ?_
   refine er ?_
   exact EI _ (aa hM).symm _ _ _ ⟨rfl, rfl, ay.sub ⟨rfl, rfl, trivial⟩⟩
  refine At.kn 8 uz ?_
  refine vs 1 ?_
  refine ld 4 cO z0 ?_
  refine ls aJ Tryz.underlying25 ?_
  refine vs 3 ?_
  refine bA hM (λ FQ hM => ?_) (λ FQ hM => ?_)
  ·refine At.kn 14 FQ ?_
   refine vs 5 ?_
   refine er ?_
   exact EI _ (aa hM).symm _ _ _ ⟨rfl, rfl, ay.sub ⟨rfl, rfl, trivial⟩⟩
  refine At.kn 14 FQ ?_
  refine vs 1 ?_
  refine ld 5 fu z0 ?_
  refine ls aL Tryz.underlying26 ?_
  refine vs 2 ?_
  refine er ?_
  exact EI _ (aa hM).symm _ _ _ ⟨rfl, rfl, ay.sub ⟨rfl, rfl, trivial⟩⟩
 rintro C8 aeF adP aBp ⟨rfl, rfl, Qv⟩ hM
 refine At.sub Qv ?_
 refine sc hM (λ RE hM => ?_) (λ RE hM => ?_)
 ·refine sg aQ ?_
  refine vs 1 ?_
  refine er ?_
  obtain rfl := aa hM
  exact rt Tryz.func18 (.tmp rfl .nil) (so sr) (hk _ _ _ ⟨rfl, rfl, rfl⟩)
 refine sp ?_
 refine sq ?_
 refine sg aQ ?_
 refine vs 1 ?_
 refine er ?_
 refine At.block ?_
 refine At.eR hM (λ (AO : Int) R' H' st' => R = R' ∧ H' = (IT, .cells #[iv x0.aD, iv x0.af.ao, iv x0.af.ax, aG, aI, aM] 28) :: H ∧ aF st' [(1, .pointer (some ⟨IT, 0, none⟩)), (3, iv AO)]) (λ (C9 : Unit) R' H' st' => R = R' ∧ H = H' ∧ aF st' []) 0 rfl ⟨rfl, rfl, ay.sub ⟨rfl, rfl, trivial⟩⟩ ?_ ?_
 rotate_right
 ·rintro AO R60 H60 aPX ⟨rfl, rfl, aqc⟩ jI hM afl Jo abi
  refine At.sub aqc ?_
  refine sq ?_
  refine sg cB ?_
  refine vs 2 ?_
  refine ld 3 dc z0 ?_
  refine ls aE Tryz.underlying24 ?_
  refine vs 1 ?_
  refine er ?_
  refine sc hM (λ RI hM => ?_) (λ RI hM => ?_)
  ·refine sp ?_
   refine sq ?_
   refine At.block ?_
   refine sg abK ?_
   refine vs 1 ?_
   refine ld 3 dc z0 ?_
   refine vs 1 ?_
   obtain ⟨rB, wT, hM⟩ := aj hM
   refine bA hM (λ zI hM => ?_) (λ zI hM => ?_)
   ·obtain ⟨af7, az7, _, ⟨aCJ, avs, rfl⟩, Pc, PE⟩ := aE.elem jD wT
    refine At.s rfl rfl (Ox.aX rfl rfl rfl PE rfl (.put rfl) ?_)
    refine vs 1 ?_
    refine At.ld sU (Pc.any.one (j := 0) rfl) ?_
    refine At.s rfl rfl (Ox.Gw rfl rfl Tryz.underlying9 rfl (.put rfl) ?_)
    refine vs 2 ?_
    refine At.kn 35 zI ?_
    refine vs 9 ?_
    refine er ?_
    refine At.cond_true rfl ?_
    refine sg aQ ?_
    refine vs 1 ?_
    refine er ?_
    replace hM := abi _ (aa hM).symm
    obtain rfl := aa hM
    exact rt Tryz.func18 (.tmp rfl .nil) (so sr) (hk _ _ _ ⟨rfl, rfl, rfl⟩)
   obtain ⟨DM, SL, hM⟩ := aj hM
   obtain ⟨af7, az7, _, ⟨aCJ, avs, rfl⟩, Pc, PE⟩ := aE.elem jD wT
   refine At.s rfl rfl (Ox.aX rfl rfl rfl PE rfl (.put rfl) ?_)
   refine vs 1 ?_
   refine At.ld sU (Pc.any.one (j := 0) rfl) ?_
   refine At.s rfl rfl (Ox.Gw rfl rfl Tryz.underlying9 rfl (.put rfl) ?_)
   refine vs 2 ?_
   refine At.kn 35 zI ?_
   refine vs 1 ?_
   refine ld 3 dc z0 ?_
   refine vs 1 ?_
   obtain ⟨af8, az8, _, ⟨aRr, avu, rfl⟩, Pd, PF⟩ := aE.elem jD SL
   refine At.s rfl rfl (Ox.aX rfl rfl rfl PF rfl (.put rfl) ?_)
   refine vs 1 ?_
   refine At.ld cO (Pd.any.one (j := 4) rfl) ?_
   refine ls avu Tryz.underlying25 ?_
   refine vs 2 ?_
   refine er ?_
   refine sc hM (λ ar2 hM => ?_) (λ ar2 hM => ?_)
   ·refine sg aQ ?_
    refine vs 1 ?_
    refine er ?_
    replace hM := abi _ (aa hM).symm
    obtain rfl := aa hM
    exact rt Tryz.func18 (.tmp rfl .nil) (so sr) (hk _ _ _ ⟨rfl, rfl, rfl⟩)
   refine sp ?_
   refine At.inBlock ?_
   refine At.rg aT ?_
   refine vs 3 ?_
   refine er ?_
   exact afl _ (aa hM).symm _ _ _ ⟨rfl, rfl, ay.sub ⟨rfl, rfl, trivial⟩⟩
  exact At.exit rfl (At.drop (so sr) (Jo _ (aa hM).symm _ _ _ ⟨rfl, rfl, ay.sub trivial⟩))
 rintro C9 aeG adQ aBq ⟨rfl, rfl, Qw⟩ hM
 refine At.sub Qw ?_
 refine sg aQ ?_
 refine vs 1 ?_
 refine er ?_
 obtain rfl := aa hM
 exact rt Tryz.func18 (.tmp rfl .nil) sr (hk _ _ _ ⟨rfl, rfl, rfl⟩)
theorem Tj (x0 : Reach) (x1 : Int) (x2 : Int) (x3 : Int)  {r : Bool} (hM : uM x0 x1 x2 x3 = some r) : aB ah 121 #[.agg #[iv x0.ao, iv x0.ax], iv x1, iv x2, iv x3] R H (λ v R' H' => R = R' ∧ H = H' ∧ v = .bool r) := by
 unfold uM at hM
 refine aB.bk Tryz.func121 rfl (n := 35) rfl rfl λ fr cs hk => ?_
 refine sg aR ?_
 refine bx λ rN => ?_
 refine vs 1 ?_
 refine nx abL ?_
 refine vs 2 ?_
 refine ld 0 aV z0 ?_
 refine vs 2 ?_
 refine bA hM (λ mF hM => ?_) (λ mF hM => ?_)
 ·refine At.kn 13 mF ?_
  refine vs 1 ?_
  refine ld 0 aV z0 ?_
  refine vs 1 ?_
  refine ld 1 aV z0 ?_
  refine vs 3 ?_
  refine bA hM (λ om hM => ?_) (λ om hM => ?_)
  ·refine At.kn 20 om ?_
   refine vs 1 ?_
   refine ld 1 aV z0 ?_
   refine vs 4 ?_
   refine bA hM (λ mG hM => ?_) (λ mG hM => ?_)
   ·refine At.kn 26 mG ?_
    refine vs 1 ?_
    refine ld 1 aV z0 ?_
    refine vs 1 ?_
    refine ld 0 aV z0 ?_
    refine vs 5 ?_
    refine er ?_
    obtain rfl := aa hM
    exact rt Tryz.func121 (.tmp rfl .nil) (so sr) (hk _ _ _ ⟨rfl, rfl, rfl⟩)
   refine At.kn 26 mG ?_
   refine vs 9 ?_
   refine er ?_
   obtain rfl := aa hM
   exact rt Tryz.func121 (.tmp rfl .nil) (so sr) (hk _ _ _ ⟨rfl, rfl, rfl⟩)
  refine At.kn 20 om ?_
  refine vs 15 ?_
  refine er ?_
  obtain rfl := aa hM
  exact rt Tryz.func121 (.tmp rfl .nil) (so sr) (hk _ _ _ ⟨rfl, rfl, rfl⟩)
 refine At.kn 13 mF ?_
 refine vs 22 ?_
 refine er ?_
 obtain rfl := aa hM
 exact rt Tryz.func121 (.tmp rfl .nil) (so sr) (hk _ _ _ ⟨rfl, rfl, rfl⟩)
theorem qC (x0 : Int) (x1 : Int) (x2 : Int)  {r : Bool} (hM : kQ x0 x1 x2 = some r) : aB ah 154 #[iv x0, iv x1, iv x2] R H (λ v R' H' => R = R' ∧ H = H' ∧ v = .bool r) := by
 unfold kQ at hM
 refine aB.bk Tryz.func154 rfl (n := 15) rfl rfl λ fr cs hk => ?_
 refine sg aQ ?_
 refine vs 1 ?_
 refine nx iG ?_
 refine vs 4 ?_
 refine bA hM (λ zy hM => ?_) (λ zy hM => ?_)
 ·refine At.kn 10 zy ?_
  refine vs 5 ?_
  refine er ?_
  obtain rfl := aa hM
  exact rt Tryz.func154 (.tmp rfl .nil) sr (hk _ _ _ ⟨rfl, rfl, rfl⟩)
 refine At.kn 10 zy ?_
 refine vs 5 ?_
 refine er ?_
 obtain rfl := aa hM
 exact rt Tryz.func154 (.tmp rfl .nil) sr (hk _ _ _ ⟨rfl, rfl, rfl⟩)
theorem ayI (x0 : av) {aG aI aM : Value} (_ : az bI 5 R aG x0.au) (_ : az CZ 1 R aI x0.Out) (_ : az bB 2 R aM x0.aU) {r : Int} (hM : Ar x0 = some r) : aB ah 211 #[.agg #[iv x0.aD, iv x0.af.ao, iv x0.af.ax, aG, aI, aM]] R H (λ v R' H' => R = R' ∧ H = H' ∧ v = iv r) := by
 unfold Ar at hM
 refine aB.bk Tryz.func211 rfl (n := 15) rfl rfl λ fr cs hk => ?_
 refine sg aR ?_
 refine bx λ Et => ?_
 refine vs 1 ?_
 refine es ?_
 refine sg AL ?_
 refine vs 2 ?_
 refine ld 0 aV z0 ?_
 obtain ⟨fC, oq, hM⟩ := aj hM
 refine At.cv qc (qC x0.aD 0 9999  oq) ?_
 rintro _ _ _ ⟨rfl, rfl, rfl⟩
 refine vs 2 ?_
 refine bA hM (λ mG hM => ?_) (λ mG hM => ?_)
 ·refine At.kn 8 mG ?_
  refine vs 6 ?_
  refine er ?_
  refine At.cond_true rfl ?_
  refine sg aQ ?_
  refine vs 1 ?_
  refine er ?_
  obtain rfl := aa hM
  exact rt Tryz.func211 (.tmp rfl .nil) (so sr) (hk _ _ _ ⟨rfl, rfl, rfl⟩)
 refine At.kn 8 mG ?_
 refine vs 2 ?_
 refine lN [_, _] 1 2 fW z0 ?_
 obtain ⟨lW, si, hM⟩ := aj hM
 refine At.cv NM (Tj x0.af (-999) 999 3  si) ?_
 rintro _ _ _ ⟨rfl, rfl, rfl⟩
 refine vs 2 ?_
 refine er ?_
 refine sc hM (λ FM hM => ?_) (λ FM hM => ?_)
 ·refine sg aQ ?_
  refine vs 1 ?_
  refine er ?_
  obtain rfl := aa hM
  exact rt Tryz.func211 (.tmp rfl .nil) (so sr) (hk _ _ _ ⟨rfl, rfl, rfl⟩)
 refine sp ?_
 refine sg aQ ?_
 refine vs 1 ?_
 refine er ?_
 obtain rfl := aa hM
 exact rt Tryz.func211 (.tmp rfl .nil) (so sr) (hk _ _ _ ⟨rfl, rfl, rfl⟩)
theorem Tm (x0 : (List Int)) (x1 : Int) {v0 : Value} (h0 : bV CZ 1 R H v0 x0) {r : Int} (hM : uN x0 x1 = some r) : aB ah 132 #[v0, iv x1] R H (λ v R' H' => R = R' ∧ H = H' ∧ v = iv r) := by
 unfold uN at hM
 refine aB.bk Tryz.func132 rfl (n := 33) rfl rfl λ fr cs hk => ?_
 refine sg aQ ?_
 refine vs 1 ?_
 refine es ?_
 refine sg aT ?_
 refine vs 1 ?_
 refine lr h0 Tryz.underlying25 ?_
 refine vs 1 ?_
 refine er ?_
 refine At.block ?_
 refine At.eR hM (λ (eB : Int) R' H' st' => R = R' ∧ H = H' ∧ aF st' [(0, v0), (1, iv x1), (7, v0), (8, iv (x0.length : Int)), (9, iv eB)]) (λ (C7 : Unit) R' H' st' => R = R' ∧ H = H' ∧ aF st' []) 0 rfl ⟨rfl, rfl, ay.sub ⟨rfl, rfl, rfl, rfl, rfl, trivial⟩⟩ ?_ ?_
 rotate_right
 ·rintro eB R48 H48 aBn ⟨rfl, rfl, Qt⟩ dO hM IM Ob abd
  refine At.sub Qt ?_
  refine sg aQ ?_
  refine vs 1 ?_
  refine es ?_
  refine sc hM (λ uA hM => ?_) (λ uA hM => ?_)
  ·refine sp ?_
   refine sq ?_
   refine At.block ?_
   refine sg cB ?_
   refine vs 1 ?_
   obtain ⟨kA, zS, hM⟩ := aj hM
   obtain ⟨WL, abp, _, rfl, E4, E9⟩ := h0.elem bm zS
   refine At.s rfl rfl (Ox.aX rfl rfl rfl E9 rfl (.put rfl) ?_)
   refine At.ld aV ((E4.sub pp).one (j := 0) rfl) ?_
   refine vs 2 ?_
   refine er ?_
   refine At.block ?_
   refine sg c6 ?_
   refine vs 3 ?_
   obtain ⟨mY, zT, hM⟩ := aj hM
   refine At.cv qc (qC kA 0 (i64 (x1 - 1))  zT) ?_
   rintro _ _ _ ⟨rfl, rfl, rfl⟩
   refine vs 2 ?_
   refine er ?_
   refine sc hM (λ FU hM => ?_) (λ FU hM => ?_)
   ·refine sg aQ ?_
    refine vs 1 ?_
    refine er ?_
    replace hM := abd _ (aa hM).symm
    obtain rfl := aa hM
    exact rt Tryz.func132 (.tmp rfl .nil) sr (hk _ _ _ ⟨rfl, rfl, rfl⟩)
   refine sg AL ?_
   refine vs 3 ?_
   refine bA hM (λ zG hM => ?_) (λ zG hM => ?_)
   ·refine At.kn 23 zG ?_
    refine vs 4 ?_
    obtain ⟨iF, qz, hM⟩ := aj hM
    obtain ⟨af6, aOx, _, rfl, Y8, PD⟩ := h0.elem bm qz
    refine At.s rfl rfl (Ox.aX rfl rfl rfl PD rfl (.put rfl) ?_)
    refine At.ld aV ((Y8.sub pp).one (j := 0) rfl) ?_
    refine vs 3 ?_
    refine er ?_
    refine sc hM (λ zH hM => ?_) (λ zH hM => ?_)
    ·refine sg aQ ?_
     refine vs 1 ?_
     refine er ?_
     replace hM := abd _ (aa hM).symm
     obtain rfl := aa hM
     exact rt Tryz.func132 (.tmp rfl .nil) sr (hk _ _ _ ⟨rfl, rfl, rfl⟩)
    refine sp ?_
    refine At.inBlock ?_
    refine At.inBlock ?_
    refine At.rg aR ?_
    refine vs 2 ?_
    refine er ?_
    exact IM _ (aa hM).symm _ _ _ ⟨rfl, rfl, ay.sub ⟨rfl, rfl, rfl, rfl, rfl, trivial⟩⟩
   refine At.kn 23 zG ?_
   refine vs 9 ?_
   refine er ?_
   refine At.cond_false rfl ?_
   refine sp ?_
   refine At.inBlock ?_
   refine At.inBlock ?_
   refine At.rg aR ?_
   refine vs 2 ?_
   refine er ?_
   exact IM _ (aa hM).symm _ _ _ ⟨rfl, rfl, ay.sub ⟨rfl, rfl, rfl, rfl, rfl, trivial⟩⟩
  exact At.exit rfl (Ob _ (aa hM).symm _ _ _ ⟨rfl, rfl, ay.sub trivial⟩)
 rintro C7 aeE adO aBo ⟨rfl, rfl, Qu⟩ hM
 refine At.sub Qu ?_
 refine sg aQ ?_
 refine vs 1 ?_
 refine er ?_
 obtain rfl := aa hM
 exact rt Tryz.func132 (.tmp rfl .nil) sr (hk _ _ _ ⟨rfl, rfl, rfl⟩)
theorem ayQ (x0 : ByteArray)  {r : Bool} (hM : Aw x0 = some r) : aB ah 215 #[.string x0] R H (λ v R' H' => R = R' ∧ H = H' ∧ v = .bool r) := by
 unfold Aw at hM
 refine aB.bk Tryz.func215 rfl (n := 31) rfl rfl λ fr cs hk => ?_
 refine sg aQ ?_
 refine vs 1 ?_
 refine es ?_
 refine sg bw ?_
 refine vs 1 ?_
 refine At.s rfl rfl (Ox.aBz rfl rfl Tryz.underlying9 Tryz.underlying234 Tryz.underlying5 rfl λ aCt aeo aab => ⟨_, (.put rfl), ?_⟩)
 refine lr aab Tryz.underlying234 ?_
 refine vs 1 ?_
 refine er ?_
 refine At.block ?_
 refine At.eR hM (λ (dV : Int) R' H' st' => R = R' ∧ H' = aeo ++ (H) ∧ aF st' [(0, .string x0), (6, aCt), (7, iv ((eO x0).length : Int)), (8, iv dV)]) (λ (qP : Unit) R' H' st' => R = R' ∧ H = H' ∧ aF st' [(0, .string x0)]) 0 rfl ⟨rfl, rfl, ay.sub ⟨rfl, rfl, rfl, rfl, trivial⟩⟩ ?_ ?_
 rotate_right
 ·rintro dV VX VG ab1 ⟨rfl, rfl, Ft⟩ pQ hM vP EH abe
  refine At.sub Ft ?_
  refine sg aQ ?_
  refine vs 1 ?_
  refine es ?_
  refine sc hM (λ FU hM => ?_) (λ FU hM => ?_)
  ·refine sp ?_
   refine sq ?_
   refine At.block ?_
   refine sg cB ?_
   refine vs 1 ?_
   obtain ⟨mZ, wS, hM⟩ := aj hM
   obtain ⟨af5, az6, _, rfl, Pb, PC⟩ := aab.elem aA7 wS
   refine At.s rfl rfl (Ox.aX rfl rfl rfl PC rfl (.put rfl) ?_)
   refine At.ld azJ ((Pb.sub pp).one (j := 0) rfl) ?_
   refine vs 2 ?_
   refine nx qR ?_
   refine vs 1 ?_
   refine At.s rfl rfl (Ox.qa rfl rfl Tryz.underlying5 Tryz.underlying3 rfl (.put rfl) ?_)
   obtain ⟨iF, qz, hM⟩ := aj hM
   refine At.cv qc (qC (i64 mZ) 97 122  qz) ?_
   rintro _ _ _ ⟨rfl, rfl, rfl⟩
   refine vs 2 ?_
   refine bA hM (λ zH hM => ?_) (λ zH hM => ?_)
   ·refine At.kn 17 zH ?_
    refine vs 3 ?_
    refine bA hM (λ uB hM => ?_) (λ uB hM => ?_)
    ·refine At.kn 20 uB ?_
     refine vs 6 ?_
     refine er ?_
     refine At.cond_true rfl ?_
     refine sg aQ ?_
     refine vs 1 ?_
     refine er ?_
     replace hM := abe _ (aa hM).symm
     obtain rfl := aa hM
     exact rt Tryz.func215 (.tmp rfl .nil) (aH sr) (hk _ _ _ ⟨rfl, rfl, rfl⟩)
    refine At.kn 20 uB ?_
    refine vs 1 ?_
    refine At.s rfl rfl (Ox.qa rfl rfl Tryz.underlying5 Tryz.underlying3 rfl (.put rfl) ?_)
    obtain ⟨Bn, SK, hM⟩ := aj hM
    refine At.cv qc (qC (i64 mZ) 48 57  SK) ?_
    rintro _ _ _ ⟨rfl, rfl, rfl⟩
    refine vs 3 ?_
    refine er ?_
    refine sc hM (λ ar1 hM => ?_) (λ ar1 hM => ?_)
    ·refine sg aQ ?_
     refine vs 1 ?_
     refine er ?_
     replace hM := abe _ (aa hM).symm
     obtain rfl := aa hM
     exact rt Tryz.func215 (.tmp rfl .nil) (aH sr) (hk _ _ _ ⟨rfl, rfl, rfl⟩)
    refine sp ?_
    refine At.inBlock ?_
    refine At.rg aR ?_
    refine vs 2 ?_
    refine er ?_
    exact vP _ (aa hM).symm _ _ _ ⟨rfl, rfl, ay.sub ⟨rfl, rfl, rfl, rfl, trivial⟩⟩
   refine At.kn 17 zH ?_
   refine vs 9 ?_
   refine er ?_
   refine At.cond_false rfl ?_
   refine sp ?_
   refine At.inBlock ?_
   refine At.rg aR ?_
   refine vs 2 ?_
   refine er ?_
   exact vP _ (aa hM).symm _ _ _ ⟨rfl, rfl, ay.sub ⟨rfl, rfl, rfl, rfl, trivial⟩⟩
  exact At.exit rfl (At.drop (aH sr) (EH _ (aa hM).symm _ _ _ ⟨rfl, rfl, ay.sub ⟨rfl, trivial⟩⟩))
 rintro qP VY VH ab2 ⟨rfl, rfl, Fu⟩ hM
 refine At.sub Fu ?_
 refine sg bw ?_
 refine vs 1 ?_
 refine At.s rfl rfl (Ox.Gw rfl rfl Tryz.underlying9 rfl (.put rfl) ?_)
 obtain ⟨L9, avt, hM⟩ := aj hM
 refine At.cv qc (qC (x0.size : Int) 1 12  avt) ?_
 rintro _ _ _ ⟨rfl, rfl, rfl⟩
 refine vs 1 ?_
 refine er ?_
 obtain rfl := aa hM
 exact rt Tryz.func215 (.tmp rfl .nil) sr (hk _ _ _ ⟨rfl, rfl, rfl⟩)
theorem ayU (x0 : (List cG)) (x1 : (cG → Option Bool)) {v0 v1 : Value} (h0 : bV bI 5 R H v0 x0) (h1 : nZ ah R H (j5 bI) VB v1 x1) {r : Int} (hM : CF x0 x1 = some r) : aB ah 218 #[v0, v1] R H (λ v R' H' => aO R R' ∧ H = H' ∧ v = iv r) := by
 unfold CF at hM
 refine aB.bk Tryz.func218 rfl (n := 19) rfl rfl λ fr cs hk => ?_
 refine sg aQ ?_
 refine vs 1 ?_
 refine es ?_
 refine sg aT ?_
 refine vs 1 ?_
 refine lr h0 Tryz.underlying24 ?_
 refine vs 1 ?_
 refine er ?_
 refine At.block ?_
 refine At.eR hM (λ (dM : Int) R' H' st' => aO R R' ∧ H = H' ∧ aF st' [(0, v0), (1, v1), (7, iv (x0.length : Int)), (8, iv dM)]) (λ (G6 : Unit) R' H' st' => aO R R' ∧ H = H' ∧ aF st' []) 0 rfl ⟨rr, rfl, ay.sub ⟨rfl, rfl, rfl, rfl, trivial⟩⟩ ?_ ?_
 rotate_right
 ·rintro dM VV VE abZ ⟨kK, rfl, Fq⟩ cU hM Em EF G4
  refine At.sub Fq ?_
  replace h0 := h0.le kK
  replace h1 := h1.up kK pp
  refine sg aQ ?_
  refine vs 1 ?_
  refine es ?_
  refine sc hM (λ oo hM => ?_) (λ oo hM => ?_)
  ·refine sp ?_
   refine sq ?_
   refine At.block ?_
   refine sg aR ?_
   refine vs 2 ?_
   refine nx c6 ?_
   refine vs 3 ?_
   obtain ⟨ei, kP, hM⟩ := aj hM
   obtain ⟨eF, oD, hM⟩ := aj hM
   obtain ⟨WK, abo, _, ⟨aRh, ave, rfl⟩, qk, E8⟩ := h0.elem jD kP
   refine At.s rfl rfl (Ox.aX rfl rfl rfl E8 rfl (.put rfl) ?_)
   refine At.s rfl rfl (Ox.ck (vs := [_, _, _, _, _]) rfl rfl kE rfl ((qk.sub pp).part (j := 0) (n := 5) rfl) rfl (.put rfl) ?_)
   refine At.step rfl rfl rfl (Ox.BN h1 rfl rfl rfl ⟨_, rfl, ⟨_, ave, rfl⟩⟩ oD rfl pp ?_)
   rintro _ II iz rfl
   replace h0 := h0.le iz
   replace h1 := h1.up iz pp
   replace qk := qk.le iz
   refine ⟨_, (.put rfl), ?_⟩
   refine er ?_
   refine sc hM (λ FR hM => ?_) (λ FR hM => ?_)
   ·refine sg aR ?_
    refine vs 2 ?_
    refine er ?_
    replace hM := G4 _ (aa hM).symm
    obtain rfl := aa hM
    exact rt Tryz.func218 (.tmp rfl .nil) sr (hk _ _ _ ⟨(kK.trans iz), rfl, rfl⟩)
   refine sp ?_
   refine At.inBlock ?_
   refine At.rg aR ?_
   refine vs 2 ?_
   refine er ?_
   exact Em _ (aa hM).symm _ _ _ ⟨(kK.trans iz), rfl, ay.sub ⟨rfl, rfl, rfl, rfl, trivial⟩⟩
  exact At.exit rfl (EF _ (aa hM).symm _ _ _ ⟨kK, rfl, ay.sub trivial⟩)
 rintro G6 VW VF ab0 ⟨ER, rfl, Fs⟩ hM
 refine At.sub Fs ?_
 refine sg aQ ?_
 refine vs 1 ?_
 refine er ?_
 obtain rfl := aa hM
 exact rt Tryz.func218 (.tmp rfl .nil) sr (hk _ _ _ ⟨ER, rfl, rfl⟩)
theorem ayS (x0 : (List cG)) (x1 : (cG → Option Bool)) {v0 v1 : Value} (h0 : bV bI 5 R H v0 x0) (h1 : nZ ah R H (j5 bI) VB v1 x1) {r : Bool} (hM : Ax x0 x1 = some r) : aB ah 216 #[v0, v1] R H (λ v R' H' => aO R R' ∧ H = H' ∧ v = .bool r) := by
 unfold Ax at hM
 refine aB.bk Tryz.func216 rfl (n := 9) rfl rfl λ fr cs hk => ?_
 refine sg aQ ?_
 refine vs 1 ?_
 refine nx cB ?_
 refine vs 2 ?_
 obtain ⟨cy, eN, hM⟩ := aj hM
 refine At.cv ahn (ayU x0 x1 (h0.sub pp) h1 eN) ?_
 rintro _ BH _ ⟨fZ, rfl, rfl⟩
 replace h0 := h0.le fZ
 replace h1 := h1.up fZ pp
 refine vs 2 ?_
 refine er ?_
 obtain rfl := aa hM
 exact rt Tryz.func216 (.tmp rfl .nil) sr (hk _ _ _ ⟨fZ, rfl, rfl⟩)
theorem ayT (x0 : cG) (x1 : cG) {aI iW : Value} {b1 : Nat} (_ : az CZ 1 R aI x0.On) (cK : aS R H b1 0 [.string x1.Name, iv x1.dg, iv x1.Weight.ao, iv x1.Weight.ax, iW]) (_ : az CZ 1 R iW x1.On) {r : Bool} (hM : Ay x0 x1 = some r) : aB ah 217 #[.agg #[.string x0.Name, iv x0.dg, iv x0.Weight.ao, iv x0.Weight.ax, aI], .pointer (some ⟨b1, 0, none⟩)] R H (λ v R' H' => R = R' ∧ H = H' ∧ v = .bool r) := by
 unfold Ay at hM
 refine aB.bk Tryz.func217 rfl (n := 9) rfl rfl λ fr cs hk => ?_
 refine sg aR ?_
 refine bx λ nc => ?_
 refine vs 1 ?_
 refine nx c6 ?_
 refine vs 1 ?_
 refine ld 0 sU z0 ?_
 refine vs 1 ?_
 refine At.ld sU ((cK.sub (su (so sr))).one (j := 0) rfl) ?_
 refine At.s rfl rfl (Ox.Nu rfl rfl rfl rfl rfl (.put rfl) ?_)
 refine vs 1 ?_
 refine er ?_
 obtain rfl := aa hM
 exact rt Tryz.func217 (.tmp rfl .nil) (so sr) (hk _ _ _ ⟨rfl, rfl, rfl⟩)
theorem ayK (x0 : av) {aG aI aM : Value} (aE : az bI 5 R aG x0.au) (_ : az CZ 1 R aI x0.Out) (_ : az bB 2 R aM x0.aU) {r : Int} (hM : As x0 = some r) : aB ah 212 #[.agg #[iv x0.aD, iv x0.af.ao, iv x0.af.ax, aG, aI, aM]] R H (λ v R' H' => aO R R' ∧ H = H' ∧ v = iv r) := by
 unfold As at hM
 refine aB.bk Tryz.func212 rfl (n := 53) rfl rfl λ fr cs hk => ?_
 refine sg aR ?_
 refine bx λ IS => ?_
 refine vs 1 ?_
 refine es ?_
 refine sg c6 ?_
 refine vs 2 ?_
 refine ld 3 dc z0 ?_
 refine ls aE Tryz.underlying24 ?_
 obtain ⟨acU, atg, hM⟩ := aj hM
 refine At.cv qc (qC (x0.au.length : Int) 1 5  atg) ?_
 rintro _ _ _ ⟨rfl, rfl, rfl⟩
 refine vs 1 ?_
 refine er ?_
 refine sc hM (λ aq9 hM => ?_) (λ aq9 hM => ?_)
 ·refine sg aQ ?_
  refine vs 1 ?_
  refine er ?_
  obtain rfl := aa hM
  exact rt Tryz.func212 (.tmp rfl .nil) (so sr) (hk _ _ _ ⟨(rr), rfl, rfl⟩)
 refine sp ?_
 refine sq ?_
 refine sg cB ?_
 refine vs 2 ?_
 refine ld 3 dc z0 ?_
 refine ls aE Tryz.underlying24 ?_
 refine vs 1 ?_
 refine er ?_
 refine At.block ?_
 refine At.eR hM (λ (qS : Int) R' H' st' => aO R R' ∧ H' = (IS, .cells #[iv x0.aD, iv x0.af.ao, iv x0.af.ax, aG, aI, aM] 102) :: H ∧ aF st' [(1, .pointer (some ⟨IS, 0, none⟩)), (14, aG), (15, iv (x0.au.length : Int)), (16, iv qS)]) (λ (aAa : Unit) R' H' st' => aO R R' ∧ H = H' ∧ aF st' []) 0 rfl ⟨rr, rfl, ay.sub ⟨rfl, rfl, rfl, rfl, trivial⟩⟩ ?_ ?_
 rotate_right
 ·rintro qS aFs aDv aOS ⟨yX, rfl, ao6⟩ gW hM aeY ahK KJ
  refine At.sub ao6 ?_
  replace aE := aE.mono yX
  refine sg aQ ?_
  refine vs 1 ?_
  refine es ?_
  refine sc hM (λ arh hM => ?_) (λ arh hM => ?_)
  ·refine sp ?_
   refine sq ?_
   refine At.block ?_
   refine sg c6 ?_
   refine vs 1 ?_
   obtain ⟨fL, Sf, hM⟩ := aj hM
   obtain ⟨aIV, aNO, _, ⟨aB4, F6, rfl⟩, ajP, amk⟩ := aE.elem jD Sf
   refine At.s rfl rfl (Ox.aX rfl rfl rfl amk rfl (.put rfl) ?_)
   refine At.s rfl rfl (Ox.ck (vs := [_, _, _, _, _]) rfl rfl kE rfl (ajP.any.part (j := 0) (n := 5) rfl) rfl (.put rfl) ?_)
   refine At.s rfl rfl (Ox.alloc (cs := #[.string (⟨#[]⟩), iv 0, iv 0, iv 0, .slice none 0 0]) rfl vD rfl λ yM _ _ => ⟨_, (.put rfl), ?_⟩)
   refine vs 1 ?_
   refine At.s rfl rfl (Ox.bG (cs' := #[_, _, _, _, _]) rfl rfl rfl kE rfl (aq rfl (aq rfl (aq rfl (aq rfl (aq F6.one aW))))) .here rfl rfl rfl (.refl _) ?_)
   refine es ?_
   refine At.block ?_
   refine sg cB ?_
   refine vs 1 ?_
   refine ld 0 sU z0 ?_
   obtain ⟨HH, Sg, hM⟩ := aj hM
   refine At.cv ahk (ayQ fL.Name  Sg) ?_
   rintro _ _ _ ⟨rfl, rfl, rfl⟩
   refine vs 2 ?_
   refine er ?_
   refine sc hM (λ arn hM => ?_) (λ arn hM => ?_)
   ·refine sg aQ ?_
    refine vs 1 ?_
    refine er ?_
    replace hM := KJ _ (aa hM).symm
    obtain rfl := aa hM
    exact rt Tryz.func212 (.tmp rfl .nil) (so (so sr)) (hk _ _ _ ⟨yX, rfl, rfl⟩)
   refine sg eK ?_
   refine vs 2 ?_
   refine ld 3 dc z1 ?_
   refine vs 1 ?_
   obtain ⟨UN, atP, hM⟩ := aj hM
   obtain ⟨ac2, atS, hM⟩ := aj hM
   obtain ⟨aQN, atQ, anu⟩ := aE.cut jD atP
   refine At.s rfl rfl (Ox.EB rfl rfl rfl rfl anu rfl (.put rfl) ?_)
   refine At.s rfl rfl (Ox.makeFunc (vs := #[]) (us := #[_]) rfl rfl rfl rfl (.put rfl) ?_)
   refine At.cv ahl (ayS UN (λ y => Ay y fL) atQ.rd ⟨217, #[], #[_], rfl, ahm, λ R' H' hR hH y r va hA hr => by obtain ⟨_, rfl, ⟨oP, fR, rfl⟩⟩ := hA; exact (ayT y fL fR (aS.box (hH _ z0)) (F6.mono hR) hr).mono λ _ _ _ ⟨h1, h2, h3⟩ => ⟨h1 ▸ rr, h2.symm, h3⟩⟩ atS) ?_
   rintro _ aeO _ ⟨EW, rfl, rfl⟩
   replace F6 := F6.mono EW
   refine vs 1 ?_
   refine er ?_
   refine sc hM (λ FJ hM => ?_) (λ FJ hM => ?_)
   ·refine sg aQ ?_
    refine vs 1 ?_
    refine er ?_
    replace hM := KJ _ (aa hM).symm
    obtain rfl := aa hM
    exact rt Tryz.func212 (.tmp rfl .nil) (so (so sr)) (hk _ _ _ ⟨(yX.trans EW), rfl, rfl⟩)
   refine sq ?_
   refine At.eZ hM (λ (KS : Bool) R' H' st' => aeO = R' ∧ H' = (yM, .cells #[.string fL.Name, iv fL.dg, iv fL.Weight.ao, iv fL.Weight.ax, aB4] 58) :: (IS, .cells #[iv x0.aD, iv x0.af.ao, iv x0.af.ax, aG, aI, aM] 102) :: H ∧ aF st' [(1, .pointer (some ⟨IS, 0, none⟩)), (3, iv qS), (4, .pointer (some ⟨yM, 0, none⟩)), (14, aG), (15, iv (x0.au.length : Int)), (16, iv qS), (34, .bool KS)])  ?_ ?_
   rotate_right
   ·intro HJ hM X0
    refine At.rg xK ?_
    refine vs 1 ?_
    refine ld 1 aV z0 ?_
    obtain ⟨ac3, atX, hM⟩ := aj hM
    refine At.cv qc (qC fL.dg (-9) 9  atX) ?_
    rintro _ _ _ ⟨rfl, rfl, rfl⟩
    refine vs 2 ?_
    refine bA hM (λ QU hM => ?_) (λ QU hM => ?_)
    ·refine At.kn 39 QU ?_
     refine vs 6 ?_
     refine er ?_
     exact X0 _ (aa hM).symm _ _ _ ⟨rfl, rfl, ay.sub ⟨rfl, rfl, rfl, rfl, rfl, rfl, rfl, trivial⟩⟩
    refine At.kn 39 QU ?_
    refine vs 1 ?_
    refine lN [_, _] 2 2 fW z0 ?_
    obtain ⟨HK, Sj, hM⟩ := aj hM
    refine At.cv NM (Tj fL.Weight 1 99 3  Sj) ?_
    rintro _ _ _ ⟨rfl, rfl, rfl⟩
    refine vs 3 ?_
    refine er ?_
    exact X0 _ (aa hM).symm _ _ _ ⟨rfl, rfl, ay.sub ⟨rfl, rfl, rfl, rfl, rfl, rfl, rfl, trivial⟩⟩
   rintro KS aFR aDU aPj ⟨rfl, rfl, apy⟩ hM
   refine At.sub apy ?_
   refine sc hM (λ zA hM => ?_) (λ zA hM => ?_)
   ·refine sg aQ ?_
    refine vs 1 ?_
    refine er ?_
    replace hM := KJ _ (aa hM).symm
    obtain rfl := aa hM
    exact rt Tryz.func212 (.tmp rfl .nil) (so (so sr)) (hk _ _ _ ⟨(yX.trans EW), rfl, rfl⟩)
   refine sp ?_
   refine At.inBlock ?_
   refine sg cB ?_
   refine vs 1 ?_
   refine ld 4 cO z0 ?_
   refine vs 1 ?_
   obtain ⟨ye, Sl, hM⟩ := aj hM
   refine At.cv NO (Tm fL.On qS F6.rd Sl) ?_
   rintro _ _ _ ⟨rfl, rfl, rfl⟩
   refine vs 1 ?_
   refine nx aR ?_
   refine vs 2 ?_
   refine er ?_
   refine sc hM (λ art hM => ?_) (λ art hM => ?_)
   ·refine sg aR ?_
    refine vs 2 ?_
    refine er ?_
    replace hM := KJ _ (aa hM).symm
    obtain rfl := aa hM
    exact rt Tryz.func212 (.tmp rfl .nil) (so (so sr)) (hk _ _ _ ⟨(yX.trans EW), rfl, rfl⟩)
   refine sp ?_
   refine At.inBlock ?_
   refine At.rg aR ?_
   refine vs 2 ?_
   refine er ?_
   exact At.drop (so sr) (aeY _ (aa hM).symm _ _ _ ⟨(yX.trans EW), rfl, ay.sub ⟨rfl, rfl, rfl, rfl, trivial⟩⟩)
  exact At.exit rfl (At.drop (so sr) (ahK _ (aa hM).symm _ _ _ ⟨yX, rfl, ay.sub trivial⟩))
 rintro aAa aFt aDw aOT ⟨aiW, rfl, ao7⟩ hM
 refine At.sub ao7 ?_
 refine sg aQ ?_
 refine vs 1 ?_
 refine er ?_
 obtain rfl := aa hM
 exact rt Tryz.func212 (.tmp rfl .nil) sr (hk _ _ _ ⟨aiW, rfl, rfl⟩)
theorem gb (x0 : (List Bool)) (x1 : (List Int)) {v1 : Value} (l0 : x0.length = 5) (h1 : bV CZ 1 R H v1 x1) {r : (List Bool)} (hM : iQ x0 x1 = some r) : aB ah 93 #[.agg (List.toArray ([] ++ (x0.map Value.bool ++ []))), v1] R H (λ v R' H' => R = R' ∧ H = H' ∧ r.length = 5 ∧ v = .agg (List.toArray ([] ++ (r.map Value.bool ++ [])))) := by
 unfold iQ at hM
 refine aB.bk Tryz.func93 rfl (n := 17) rfl rfl λ fr cs hk => ?_
 refine sg aR ?_
 refine bx λ nh => ?_
 refine At.s rfl rfl (Ox.alloc (cs := (List.toArray ([] ++ ([false, false, false, false, false].map Value.bool ++ [])))) rfl kB rfl λ gw _ _ => ⟨_, (.put rfl), ?_⟩)
 refine es ?_
 refine sg aT ?_
 refine vs 1 ?_
 refine lr h1 Tryz.underlying25 ?_
 refine vs 1 ?_
 refine er ?_
 refine At.block ?_
 refine At.eI hM (λ (iU : (Int × (List Bool))) R' H' st' => R = R' ∧ iU.2.length = 5 ∧ H' = (gw, .cells (List.toArray ([] ++ ([false, false, false, false, false].map Value.bool ++ []))) 112) :: (nh, .cells (List.toArray ([] ++ (iU.2.map Value.bool ++ []))) 112) :: H ∧ aF st' [(2, .pointer (some ⟨nh, 0, none⟩)), (4, .pointer (some ⟨gw, 0, none⟩)), (7, v1), (8, iv (x1.length : Int)), (9, iv iU.1)]) (λ (sY : (List Bool)) R' H' st' => R = R' ∧ sY.length = 5 ∧ H' = (gw, .cells (List.toArray ([] ++ ([false, false, false, false, false].map Value.bool ++ []))) 112) :: (nh, .cells (List.toArray ([] ++ (sY.map Value.bool ++ []))) 112) :: H ∧ aF st' [(2, .pointer (some ⟨nh, 0, none⟩)), (4, .pointer (some ⟨gw, 0, none⟩))]) 0 rfl ⟨rfl, l0, rfl, ay.sub ⟨rfl, rfl, rfl, rfl, rfl, trivial⟩⟩ ?_ ?_
 rotate_right
 ·rintro iU R40 H40 aBk ⟨rfl, SX, rfl, Qq⟩ jH hM MY Oa
  refine At.sub Qq ?_
  refine sg aQ ?_
  refine vs 1 ?_
  refine es ?_
  refine sc hM (λ FP hM => ?_) (λ FP hM => ?_)
  ·refine sp ?_
   refine sq ?_
   refine At.block ?_
   refine sg aT ?_
   obtain ⟨Bm, SF, hM⟩ := aj hM
   obtain ⟨aJP, aOs, _, rfl, aks, anb⟩ := h1.elem bm SF
   refine At.s rfl rfl (Ox.aX rfl rfl rfl anb rfl (.put rfl) ?_)
   refine At.ld aV ((aks.sub (su (so (so sr)))).one (j := 0) rfl) ?_
   refine vs 1 ?_
   refine er ?_
   refine At.rg aT ?_
   refine vs 1 ?_
   obtain ⟨ei, kP, hM⟩ := aj hM
   refine At.s rfl rfl (Ox.aX rfl rfl rfl (sL BJ SX kP) rfl (.put rfl) ?_)
   refine At.s rfl rfl (Ox.cI rfl rfl rfl jg rfl (.there .here) (M6 kP rfl) (M7 kP rfl) rfl (.refl _) ?_)
   refine er ?_
   refine At.inBlock ?_
   refine At.rg aR ?_
   refine vs 2 ?_
   refine er ?_
   exact MY _ (aa hM).symm _ _ _ ⟨rfl, ((List.length_set).trans SX), rfl, ay.sub ⟨rfl, rfl, rfl, rfl, rfl, trivial⟩⟩
  exact At.exit rfl (Oa _ (aa hM).symm _ _ _ ⟨rfl, SX, rfl, ay.sub ⟨rfl, rfl, trivial⟩⟩)
 rintro sY aeB adL aBl ⟨rfl, Cl, rfl, Qr⟩ hM
 refine At.sub Qr ?_
 refine sg aR ?_
 refine At.s rfl rfl (Ox.ck (vs := _) rfl rfl c8 (by simp [Cl]) ((aS.box z1).part (j := 0) (n := 5) (ee (by simp [Cl]))) rfl (.put rfl) ?_)
 refine At.s rfl rfl (Ox.bG (cs' := _) rfl rfl rfl c8 (by simp [Cl]) (cr aW (cr (ew λ _ => rfl) aW)) .here (by simp) (dZ (by simp [Cl])) rfl (.refl _) ?_)
 refine er ?_
 obtain rfl := aa hM
 exact rt Tryz.func93 (.agg rfl c8 (by simp [Cl]) (aS.box z0) .nil) (so (so sr)) (hk _ _ _ ⟨rfl, rfl, Cl, rfl⟩)
theorem Ti (x0 : av) (x1 : Int) {aG aI aM : Value} (aE : az bI 5 R aG x0.au) (_ : az CZ 1 R aI x0.Out) (_ : az bB 2 R aM x0.aU) {r : Bool} (hM : sO x0 x1 = some r) : aB ah 120 #[.agg #[iv x0.aD, iv x0.af.ao, iv x0.af.ax, aG, aI, aM], iv x1] R H (λ v R' H' => R = R' ∧ H = H' ∧ v = .bool r) := by
 unfold sO at hM
 refine aB.bk Tryz.func120 rfl (n := 12) rfl rfl λ fr cs hk => ?_
 refine sg aR ?_
 refine bx λ kG => ?_
 refine vs 1 ?_
 refine nx eK ?_
 refine vs 3 ?_
 refine ld 3 dc z0 ?_
 refine ls aE Tryz.underlying24 ?_
 refine vs 1 ?_
 obtain ⟨eW, ko, hM⟩ := aj hM
 refine At.cv qc (qC x1 0 (i64 ((x0.au.length : Int) - 1))  ko) ?_
 rintro _ _ _ ⟨rfl, rfl, rfl⟩
 refine vs 1 ?_
 refine er ?_
 obtain rfl := aa hM
 exact rt Tryz.func120 (.tmp rfl .nil) (so sr) (hk _ _ _ ⟨rfl, rfl, rfl⟩)
theorem aye (x0 : (List Int)) (x1 : (Int → Option Bool)) {v0 v1 : Value} (h0 : bV CZ 1 R H v0 x0) (h1 : nZ ah R H (VI .i64) VB v1 x1) {r : Int} (hM : CA x0 x1 = some r) : aB ah 171 #[v0, v1] R H (λ v R' H' => aO R R' ∧ H = H' ∧ v = iv r) := by
 unfold CA at hM
 refine aB.bk Tryz.func171 rfl (n := 19) rfl rfl λ fr cs hk => ?_
 refine sg aQ ?_
 refine vs 1 ?_
 refine es ?_
 refine sg aT ?_
 refine vs 1 ?_
 refine lr h0 Tryz.underlying25 ?_
 refine vs 1 ?_
 refine er ?_
 refine At.block ?_
 refine At.eR hM (λ (dM : Int) R' H' st' => aO R R' ∧ H = H' ∧ aF st' [(0, v0), (1, v1), (7, iv (x0.length : Int)), (8, iv dM)]) (λ (G6 : Unit) R' H' st' => aO R R' ∧ H = H' ∧ aF st' []) 0 rfl ⟨rr, rfl, ay.sub ⟨rfl, rfl, rfl, rfl, trivial⟩⟩ ?_ ?_
 rotate_right
 ·rintro dM VV VE abZ ⟨kK, rfl, Fq⟩ cU hM Em EF G4
  refine At.sub Fq ?_
  replace h0 := h0.le kK
  replace h1 := h1.up kK pp
  refine sg aQ ?_
  refine vs 1 ?_
  refine es ?_
  refine sc hM (λ oo hM => ?_) (λ oo hM => ?_)
  ·refine sp ?_
   refine sq ?_
   refine At.block ?_
   refine sg aR ?_
   refine vs 2 ?_
   refine nx c6 ?_
   refine vs 3 ?_
   obtain ⟨ei, kP, hM⟩ := aj hM
   obtain ⟨eF, oD, hM⟩ := aj hM
   obtain ⟨WK, abo, _, rfl, qk, E8⟩ := h0.elem bm kP
   refine At.s rfl rfl (Ox.aX rfl rfl rfl E8 rfl (.put rfl) ?_)
   refine At.ld aV ((qk.sub pp).one (j := 0) rfl) ?_
   refine At.step rfl rfl rfl (Ox.BN h1 rfl rfl rfl rfl oD rfl pp ?_)
   rintro _ II iz rfl
   replace h0 := h0.le iz
   replace h1 := h1.up iz pp
   replace qk := qk.le iz
   refine ⟨_, (.put rfl), ?_⟩
   refine er ?_
   refine sc hM (λ FR hM => ?_) (λ FR hM => ?_)
   ·refine sg aR ?_
    refine vs 2 ?_
    refine er ?_
    replace hM := G4 _ (aa hM).symm
    obtain rfl := aa hM
    exact rt Tryz.func171 (.tmp rfl .nil) sr (hk _ _ _ ⟨(kK.trans iz), rfl, rfl⟩)
   refine sp ?_
   refine At.inBlock ?_
   refine At.rg aR ?_
   refine vs 2 ?_
   refine er ?_
   exact Em _ (aa hM).symm _ _ _ ⟨(kK.trans iz), rfl, ay.sub ⟨rfl, rfl, rfl, rfl, trivial⟩⟩
  exact At.exit rfl (EF _ (aa hM).symm _ _ _ ⟨kK, rfl, ay.sub trivial⟩)
 rintro G6 VW VF ab0 ⟨ER, rfl, Fs⟩ hM
 refine At.sub Fs ?_
 refine sg aQ ?_
 refine vs 1 ?_
 refine er ?_
 obtain rfl := aa hM
 exact rt Tryz.func171 (.tmp rfl .nil) sr (hk _ _ _ ⟨ER, rfl, rfl⟩)
theorem aaS (x0 : (List Int)) (x1 : (Int → Option Bool)) {v0 v1 : Value} (h0 : bV CZ 1 R H v0 x0) (h1 : nZ ah R H (VI .i64) VB v1 x1) {r : Bool} (hM : xm x0 x1 = some r) : aB ah 158 #[v0, v1] R H (λ v R' H' => aO R R' ∧ H = H' ∧ v = .bool r) := by
 unfold xm at hM
 refine aB.bk Tryz.func158 rfl (n := 9) rfl rfl λ fr cs hk => ?_
 refine sg aQ ?_
 refine vs 1 ?_
 refine nx cB ?_
 refine vs 2 ?_
 obtain ⟨cy, eN, hM⟩ := aj hM
 refine At.cv agY (aye x0 x1 (h0.sub pp) h1 eN) ?_
 rintro _ BH _ ⟨fZ, rfl, rfl⟩
 replace h0 := h0.le fZ
 replace h1 := h1.up fZ pp
 refine vs 2 ?_
 refine er ?_
 obtain rfl := aa hM
 exact rt Tryz.func158 (.tmp rfl .nil) sr (hk _ _ _ ⟨fZ, rfl, rfl⟩)
theorem ayA (x0 : (List Int)) (x1 : Int) {v0 : Value} (h0 : bV CZ 1 R H v0 x0) {r : Int} (hM : CD x0 x1 = some r) : aB ah 188 #[v0, iv x1] R H (λ v R' H' => R = R' ∧ H = H' ∧ v = iv r) := by
 unfold CD at hM
 refine aB.bk Tryz.func188 rfl (n := 19) rfl rfl λ fr cs hk => ?_
 refine sg aQ ?_
 refine vs 1 ?_
 refine es ?_
 refine sg aT ?_
 refine vs 1 ?_
 refine lr h0 Tryz.underlying25 ?_
 refine vs 1 ?_
 refine er ?_
 refine At.block ?_
 refine At.eR hM (λ (dr : Int) R' H' st' => R = R' ∧ H = H' ∧ aF st' [(0, v0), (1, iv x1), (7, iv (x0.length : Int)), (8, iv dr)]) (λ (jz : Unit) R' H' st' => R = R' ∧ H = H' ∧ aF st' []) 0 rfl ⟨rfl, rfl, ay.sub ⟨rfl, rfl, rfl, rfl, trivial⟩⟩ ?_ ?_
 rotate_right
 ·rintro dr VU VD abY ⟨rfl, rfl, Fp⟩ cL hM El vX G3
  refine At.sub Fp ?_
  refine sg aQ ?_
  refine vs 1 ?_
  refine es ?_
  refine sc hM (λ uy hM => ?_) (λ uy hM => ?_)
  ·refine sp ?_
   refine sq ?_
   refine At.block ?_
   refine sg aR ?_
   refine vs 2 ?_
   refine nx c6 ?_
   refine vs 3 ?_
   obtain ⟨oS, zP, hM⟩ := aj hM
   obtain ⟨af2, az4, _, rfl, O9, Pz⟩ := h0.elem bm zP
   refine At.s rfl rfl (Ox.aX rfl rfl rfl Pz rfl (.put rfl) ?_)
   refine At.ld aV ((O9.sub pp).one (j := 0) rfl) ?_
   refine vs 1 ?_
   refine er ?_
   refine sc hM (λ zE hM => ?_) (λ zE hM => ?_)
   ·refine sg aR ?_
    refine vs 2 ?_
    refine er ?_
    replace hM := G3 _ (aa hM).symm
    obtain rfl := aa hM
    exact rt Tryz.func188 (.tmp rfl .nil) sr (hk _ _ _ ⟨rfl, rfl, rfl⟩)
   refine sp ?_
   refine At.inBlock ?_
   refine At.rg aR ?_
   refine vs 2 ?_
   refine er ?_
   exact El _ (aa hM).symm _ _ _ ⟨rfl, rfl, ay.sub ⟨rfl, rfl, rfl, rfl, trivial⟩⟩
  exact At.exit rfl (vX _ (aa hM).symm _ _ _ ⟨rfl, rfl, ay.sub trivial⟩)
 rintro jz MM Mr Ud ⟨rfl, rfl, zv⟩ hM
 refine At.sub zv ?_
 refine sg aQ ?_
 refine vs 1 ?_
 refine er ?_
 obtain rfl := aa hM
 exact rt Tryz.func188 (.tmp rfl .nil) sr (hk _ _ _ ⟨rfl, rfl, rfl⟩)
theorem ayj (x0 : (List Int)) (x1 : Int) {v0 : Value} (h0 : bV CZ 1 R H v0 x0) {r : Bool} (hM : Ao x0 x1 = some r) : aB ah 175 #[v0, iv x1] R H (λ v R' H' => R = R' ∧ H = H' ∧ v = .bool r) := by
 unfold Ao at hM
 refine aB.bk Tryz.func175 rfl (n := 9) rfl rfl λ fr cs hk => ?_
 refine sg aQ ?_
 refine vs 1 ?_
 refine nx cB ?_
 refine vs 2 ?_
 obtain ⟨cy, eN, hM⟩ := aj hM
 refine At.cv ahc (ayA x0 x1 (h0.sub pp) eN) ?_
 rintro _ _ _ ⟨rfl, rfl, rfl⟩
 refine vs 2 ?_
 refine er ?_
 obtain rfl := aa hM
 exact rt Tryz.func175 (.tmp rfl .nil) sr (hk _ _ _ ⟨rfl, rfl, rfl⟩)
theorem aya (x0 : av) (x1 : Int) {aG aI aM : Value} (aE : az bI 5 R aG x0.au) (_ : az CZ 1 R aI x0.Out) (_ : az bB 2 R aM x0.aU) {r : (List Int)} (hM : Al x0 x1 = some r) : aB ah 166 #[.agg #[iv x0.aD, iv x0.af.ao, iv x0.af.ax, aG, aI, aM], iv x1] R H (λ v R' H' => aO R R' ∧ H = H' ∧ ∃ eP, az CZ 1 R' eP r ∧ v = eP) := by
 unfold Al at hM
 refine aB.bk Tryz.func166 rfl (n := 27) rfl rfl λ fr cs hk => ?_
 refine sg aR ?_
 refine bx λ rQ => ?_
 refine vs 1 ?_
 refine nx aQ ?_
 refine vs 1 ?_
 refine es ?_
 refine sg cB ?_
 refine vs 2 ?_
 refine ld 3 dc z0 ?_
 refine ls aE Tryz.underlying24 ?_
 refine vs 1 ?_
 refine er ?_
 refine At.block ?_
 refine At.drop (H' := H) (so sr) ?_
 refine At.eI hM (λ (dV : ((List Int) × Int)) R' H' st' => R = R' ∧ ∃ Hq D9, bg CZ 1 3 R' Hq dV.1 D9 ∧ H' = D9 ++ (H) ∧ aF st' [(1, iv x1), (5, Hq), (10, aG), (11, iv (x0.au.length : Int)), (12, iv dV.2)]) (λ (qP : (List Int)) R' H' st' => R = R' ∧ ∃ Lp Mx, bg CZ 1 3 R' Lp qP Mx ∧ H' = Mx ++ (H) ∧ aF st' [(5, Lp)]) 0 rfl ⟨rfl, .slice none 0 0, [], bg.nil, rfl, ay.sub ⟨rfl, rfl, rfl, rfl, rfl, trivial⟩⟩ ?_ ?_
 rotate_right
 ·rintro dV VX VG ab1 ⟨rfl, Hq, D9, PZ, rfl, Ft⟩ pQ hM vP EH
  refine At.sub Ft ?_
  refine sg aQ ?_
  refine vs 1 ?_
  refine es ?_
  refine sc hM (λ FU hM => ?_) (λ FU hM => ?_)
  ·refine sp ?_
   refine sq ?_
   refine At.block ?_
   refine sg c6 ?_
   refine vs 1 ?_
   obtain ⟨mZ, wS, hM⟩ := aj hM
   obtain ⟨af5, az6, _, ⟨aRp, aag, rfl⟩, Pb, PC⟩ := aE.elem jD wS
   refine At.s rfl rfl (Ox.aX rfl rfl rfl PC rfl (.put rfl) ?_)
   refine At.s rfl rfl (Ox.ck (vs := [_, _, _, _, _]) rfl rfl kE rfl (Pb.any.part (j := 0) (n := 5) rfl) rfl (.put rfl) ?_)
   refine At.s rfl rfl (Ox.alloc (cs := #[.string (⟨#[]⟩), iv 0, iv 0, iv 0, .slice none 0 0]) rfl vD rfl λ b74 _ _ => ⟨_, (.put rfl), ?_⟩)
   refine vs 1 ?_
   refine At.s rfl rfl (Ox.bG (cs' := #[_, _, _, _, _]) rfl rfl rfl kE rfl (aq rfl (aq rfl (aq rfl (aq rfl (aq aag.one aW))))) .here rfl rfl rfl (.refl _) ?_)
   refine nx bw ?_
   refine vs 1 ?_
   refine ld 4 cO z0 ?_
   refine vs 1 ?_
   obtain ⟨k9, sJ, hM⟩ := aj hM
   refine At.cv ag1 (ayj mZ.On x1 aag.rd sJ) ?_
   rintro _ _ _ ⟨rfl, rfl, rfl⟩
   refine er ?_
   refine sc hM (λ uB hM => ?_) (λ uB hM => ?_)
   ·refine At.rg cB ?_
    refine vs 2 ?_
    refine At.s rfl rfl (Ox.buildSlice (cells := #[_]) rfl cW rfl (by decide) en (bq rfl rfl rfl rfl bD) rfl λ b77 _ _ => ⟨_, (.put rfl), ?_⟩)
    obtain ⟨rB, wT, hM⟩ := aj hM
    refine At.s rfl rfl (Ox.append (K := CZ) (λ X => (b77, _) :: (b74, _) :: X ++ (H)) rfl rfl rfl iZ Tryz.underlying25 (by simp) (.cons (.cons .id)) PZ (dR.lit z0 (aK.le (aK.cons (x := dV.2) rfl rfl aK.nil) rfl) rfl) wT rfl λ aCI MD P6 => ⟨_, (.put rfl), ?_⟩)
    refine vs 1 ?_
    refine er ?_
    refine At.inBlock ?_
    refine At.rg aR ?_
    refine vs 2 ?_
    refine er ?_
    exact At.drop (so (so sr)) (vP _ (aa hM).symm _ _ _ ⟨rfl, aCI, MD, P6, rfl, ay.sub ⟨rfl, rfl, rfl, rfl, rfl, trivial⟩⟩)
   refine sp ?_
   refine At.inBlock ?_
   refine At.rg aR ?_
   refine vs 2 ?_
   refine er ?_
   exact At.drop (so sr) (vP _ (aa hM).symm _ _ _ ⟨rfl, Hq, D9, PZ, rfl, ay.sub ⟨rfl, rfl, rfl, rfl, rfl, trivial⟩⟩)
  exact At.exit rfl (EH _ (aa hM).symm _ _ _ ⟨rfl, Hq, D9, PZ, rfl, ay.sub ⟨rfl, trivial⟩⟩)
 rintro qP VY VH ab2 ⟨rfl, Lp, Mx, anW, rfl, Fu⟩ hM
 refine At.sub Fu ?_
 refine sg aR ?_
 refine vs 2 ?_
 refine er ?_
 refine At.fY (H2 := H) (λ X => X ++ (H)) .id rfl anW (λ aHc ajc ak4 => ?_)
 obtain rfl := aa hM
 exact rt Tryz.func166 (.tmp rfl .nil) sr (hk _ _ _ ⟨ajc, rfl, Lp, ak4, rfl⟩)
theorem ayb (x0 : Int) (x1 : (List Bool)) {b1 : Nat} (cK : aS R H b1 0 ([] ++ (x1.map Value.bool ++ []))) (l1 : x1.length = 5) {r : Bool} (hM : Am x0 x1 = some r) : aB ah 167 #[iv x0, .pointer (some ⟨b1, 0, none⟩)] R H (λ v R' H' => R = R' ∧ H = H' ∧ v = .bool r) := by
 unfold Am at hM
 refine aB.bk Tryz.func167 rfl (n := 8) rfl rfl λ fr cs hk => ?_
 refine sg aQ ?_
 refine vs 1 ?_
 refine nx cB ?_
 refine vs 1 ?_
 obtain ⟨cy, eN, hM⟩ := aj hM
 refine At.s rfl rfl (Ox.aX rfl rfl rfl (sL BJ l1 eN) rfl (.put rfl) ?_)
 refine At.ld jg ((cK.sub pp).arr eN rfl) ?_
 refine vs 2 ?_
 refine er ?_
 obtain rfl := aa hM
 exact rt Tryz.func167 (.tmp rfl .nil) sr (hk _ _ _ ⟨rfl, rfl, rfl⟩)
theorem aaQ (x0 : av) (x1 : (List Bool)) (x2 : Int) {aG aI aM : Value} (aE : az bI 5 R aG x0.au) (aJ : az CZ 1 R aI x0.Out) (aL : az bB 2 R aM x0.aU) (l1 : x1.length = 5) {r : Bool} (hM : uO x0 x1 x2 = some r) : aB ah 149 #[.agg #[iv x0.aD, iv x0.af.ao, iv x0.af.ax, aG, aI, aM], .agg (List.toArray ([] ++ (x1.map Value.bool ++ []))), iv x2] R H (λ v R' H' => aO R R' ∧ H = H' ∧ v = .bool r) := by
 unfold uO at hM
 refine aB.bk Tryz.func149 rfl (n := 19) rfl rfl λ fr cs hk => ?_
 refine sg aT ?_
 refine bx λ b26 => ?_
 refine bx λ j8 => ?_
 refine vs 1 ?_
 refine nx K8 ?_
 refine vs 1 ?_
 obtain ⟨lW, si, hM⟩ := aj hM
 refine At.s rfl rfl (Ox.aX rfl rfl rfl (sL BJ l1 si) rfl (.put rfl) ?_)
 refine At.ld jg ((aS.box z0).arr si rfl) ?_
 refine vs 2 ?_
 refine bA hM (λ FM hM => ?_) (λ FM hM => ?_)
 ·refine At.kn 11 FM ?_
  refine lN [_, _, _, _, _, _] 0 6 dS z1 ?_
  refine vs 1 ?_
  obtain ⟨gY, sA, hM⟩ := aj hM
  refine At.cv agV (aya x0 x2 aE aJ aL sA) ?_
  rintro aQV aHD _ ⟨aje, rfl, _, auj, rfl⟩
  refine At.s rfl rfl (Ox.makeFunc (vs := #[]) (us := #[_]) rfl rfl rfl rfl (.put rfl) ?_)
  obtain ⟨eD, mI, hM⟩ := aj hM
  refine At.cv XH (aaS gY (λ y => Am y x1) auj.rd ⟨167, #[], #[_], rfl, agW, λ R' H' hR hH y r va hA hr => by obtain rfl := hA; exact (ayb y x1 (aS.box (hH _ z0)) l1 hr).mono λ _ _ _ ⟨h1, h2, h3⟩ => ⟨h1 ▸ rr, h2.symm, h3⟩⟩ mI) ?_
  rintro _ yH _ ⟨cV, rfl, rfl⟩
  refine vs 3 ?_
  refine er ?_
  obtain rfl := aa hM
  exact rt Tryz.func149 (.tmp rfl .nil) (so (so sr)) (hk _ _ _ ⟨(aje.trans cV), rfl, rfl⟩)
 refine At.kn 11 FM ?_
 refine vs 8 ?_
 refine er ?_
 obtain rfl := aa hM
 exact rt Tryz.func149 (.tmp rfl .nil) (so (so sr)) (hk _ _ _ ⟨(rr), rfl, rfl⟩)
theorem pF (x0 : av) (x1 : (List Bool)) (x2 : (List Int)) {aG aI aM v2 : Value} (aE : az bI 5 R aG x0.au) (aJ : az CZ 1 R aI x0.Out) (aL : az bB 2 R aM x0.aU) (l1 : x1.length = 5) (h2 : bV CZ 1 R H v2 x2) {r : ((List Bool) × Int)} (hM : uU x0 x1 x2 = some r) : aB ah 99 #[.agg #[iv x0.aD, iv x0.af.ao, iv x0.af.ax, aG, aI, aM], .agg (List.toArray ([] ++ (x1.map Value.bool ++ []))), v2] R H (λ v R' H' => aO R R' ∧ H = H' ∧ r.1.length = 5 ∧ v = .tuple #[.agg (List.toArray ([] ++ (r.1.map Value.bool ++ []))), iv r.2]) := by
 unfold uU at hM
 refine aB.bk Tryz.func99 rfl (n := 40) rfl rfl λ fr cs hk => ?_
 refine sg bw ?_
 refine bx λ n9 => ?_
 refine bx λ IX => ?_
 refine At.s rfl rfl (Ox.alloc (cs := (List.toArray ([] ++ ([false, false, false, false, false].map Value.bool ++ [])))) rfl kB rfl λ nj _ _ => ⟨_, (.put rfl), ?_⟩)
 refine vs 1 ?_
 refine es ?_
 refine sg aT ?_
 refine vs 1 ?_
 refine lr h2 Tryz.underlying25 ?_
 refine vs 1 ?_
 refine er ?_
 refine At.block ?_
 refine At.eR hM (λ (fK : (Int × (List Bool))) R' H' st' => aO R R' ∧ fK.2.length = 5 ∧ H' = (nj, .cells (List.toArray ([] ++ ([false, false, false, false, false].map Value.bool ++ []))) 112) :: (IX, .cells (List.toArray ([] ++ (fK.2.map Value.bool ++ []))) 112) :: (n9, .cells #[iv x0.aD, iv x0.af.ao, iv x0.af.ax, aG, aI, aM] 102) :: H ∧ aF st' [(3, .pointer (some ⟨n9, 0, none⟩)), (4, .pointer (some ⟨IX, 0, none⟩)), (6, .pointer (some ⟨nj, 0, none⟩)), (10, v2), (11, iv (x2.length : Int)), (12, iv fK.1)]) (λ (AI : (List Bool)) R' H' st' => aO R R' ∧ AI.length = 5 ∧ H' = (nj, .cells (List.toArray ([] ++ ([false, false, false, false, false].map Value.bool ++ []))) 112) :: (IX, .cells (List.toArray ([] ++ (AI.map Value.bool ++ []))) 112) :: H ∧ aF st' [(4, .pointer (some ⟨IX, 0, none⟩)), (6, .pointer (some ⟨nj, 0, none⟩))]) 0 rfl ⟨rr, l1, rfl, ay.sub ⟨rfl, rfl, rfl, rfl, rfl, rfl, trivial⟩⟩ ?_ ?_
 rotate_right
 ·rintro fK R99 H99 aQq ⟨uk, fJ, rfl, aqF⟩ pR hM afv aic TS
  refine At.sub aqF ?_
  replace aE := aE.mono uk
  replace aJ := aJ.mono uk
  replace aL := aL.mono uk
  replace h2 := h2.le uk
  refine sg aQ ?_
  refine vs 1 ?_
  refine es ?_
  refine sc hM (λ zx hM => ?_) (λ zx hM => ?_)
  ·refine sp ?_
   refine sq ?_
   refine At.block ?_
   refine sg aT ?_
   obtain ⟨gL, F4, hM⟩ := aj hM
   obtain ⟨WJ, abn, _, rfl, E3, E7⟩ := h2.elem bm F4
   refine At.s rfl rfl (Ox.aX rfl rfl rfl E7 rfl (.put rfl) ?_)
   refine At.ld aV ((E3.sub (su (so (so (so sr))))).one (j := 0) rfl) ?_
   refine vs 1 ?_
   refine es ?_
   refine At.block ?_
   refine sg cB ?_
   refine lN [_, _, _, _, _, _] 0 6 dS z2 ?_
   refine vs 1 ?_
   obtain ⟨A4, RY, hM⟩ := aj hM
   refine At.cv NL (Ti x0 gL aE aJ aL RY) ?_
   rintro _ _ _ ⟨rfl, rfl, rfl⟩
   refine vs 2 ?_
   refine er ?_
   refine sc hM (λ QF hM => ?_) (λ QF hM => ?_)
   ·refine sg aT ?_
    refine At.s rfl rfl (Ox.ck (vs := _) rfl rfl c8 (by simp [fJ]) ((aS.box z1).part (j := 0) (n := 5) (ee (by simp [fJ]))) rfl (.put rfl) ?_)
    refine At.s rfl rfl (Ox.bG (cs' := _) rfl rfl rfl c8 (by simp [fJ]) (cr aW (cr (ew λ _ => rfl) aW)) .here (by simp) (dZ (by simp [fJ])) rfl (.refl _) ?_)
    refine vs 1 ?_
    refine er ?_
    replace hM := TS _ (aa hM).symm
    obtain rfl := aa hM
    exact rt Tryz.func99 (.agg rfl c8 (by simp [fJ]) (aS.box z0) (.tmp rfl .nil)) (so (so (so sr))) (hk _ _ _ ⟨uk, rfl, fJ, rfl⟩)
   refine sg bw ?_
   refine vs 1 ?_
   obtain ⟨HG, ZP, hM⟩ := aj hM
   refine At.s rfl rfl (Ox.aX rfl rfl rfl (sL BJ fJ ZP) rfl (.put rfl) ?_)
   refine At.ld jg ((aS.box z1).arr ZP rfl) ?_
   refine vs 1 ?_
   refine er ?_
   refine sc hM (λ FE hM => ?_) (λ FE hM => ?_)
   ·refine sg aT ?_
    refine At.s rfl rfl (Ox.ck (vs := _) rfl rfl c8 (by simp [fJ]) ((aS.box z1).part (j := 0) (n := 5) (ee (by simp [fJ]))) rfl (.put rfl) ?_)
    refine At.s rfl rfl (Ox.bG (cs' := _) rfl rfl rfl c8 (by simp [fJ]) (cr aW (cr (ew λ _ => rfl) aW)) .here (by simp) (dZ (by simp [fJ])) rfl (.refl _) ?_)
    refine vs 1 ?_
    refine er ?_
    replace hM := TS _ (aa hM).symm
    obtain rfl := aa hM
    exact rt Tryz.func99 (.agg rfl c8 (by simp [fJ]) (aS.box z0) (.tmp rfl .nil)) (so (so (so sr))) (hk _ _ _ ⟨uk, rfl, fJ, rfl⟩)
   refine sg c6 ?_
   refine lN [_, _, _, _, _, _] 0 6 dS z2 ?_
   refine At.s rfl rfl (Ox.ck (vs := _) rfl rfl c8 (by simp [fJ]) ((aS.box z1).part (j := 0) (n := 5) (ee (by simp [fJ]))) rfl (.put rfl) ?_)
   refine vs 1 ?_
   obtain ⟨tv, RZ, hM⟩ := aj hM
   refine At.cv XF (aaQ x0 fK.2 gL aE aJ aL fJ RZ) ?_
   rintro _ aHg _ ⟨OM, rfl, rfl⟩
   replace h2 := h2.le OM
   refine vs 2 ?_
   refine er ?_
   refine sc hM (λ QG hM => ?_) (λ QG hM => ?_)
   ·refine sg aT ?_
    refine At.s rfl rfl (Ox.ck (vs := _) rfl rfl c8 (by simp [fJ]) ((aS.box z1).part (j := 0) (n := 5) (ee (by simp [fJ]))) rfl (.put rfl) ?_)
    refine At.s rfl rfl (Ox.bG (cs' := _) rfl rfl rfl c8 (by simp [fJ]) (cr aW (cr (ew λ _ => rfl) aW)) .here (by simp) (dZ (by simp [fJ])) rfl (.refl _) ?_)
    refine vs 1 ?_
    refine er ?_
    replace hM := TS _ (aa hM).symm
    obtain rfl := aa hM
    exact rt Tryz.func99 (.agg rfl c8 (by simp [fJ]) (aS.box z0) (.tmp rfl .nil)) (so (so (so sr))) (hk _ _ _ ⟨(uk.trans OM), rfl, fJ, rfl⟩)
   refine sp ?_
   refine At.inBlock ?_
   refine At.rg cB ?_
   refine At.s rfl rfl (Ox.ck (vs := _) rfl rfl c8 (by simp [fJ]) ((aS.box z1).part (j := 0) (n := 5) (ee (by simp [fJ]))) rfl (.put rfl) ?_)
   refine vs 1 ?_
   refine At.s rfl rfl (Ox.buildSlice (cells := #[_]) rfl cW rfl (by decide) en (bq rfl rfl rfl rfl bD) rfl λ aH4 _ _ => ⟨_, (.put rfl), ?_⟩)
   obtain ⟨LO, atl, hM⟩ := aj hM
   refine At.cv fX (gb fK.2 [gL] fJ (bV.lit z0 (aK.le (aK.cons (x := gL) rfl rfl aK.nil) rfl) rfl) atl) ?_
   rintro _ _ _ ⟨rfl, rfl, S9, rfl⟩
   refine At.s rfl rfl (Ox.bG (cs' := _) rfl rfl rfl c8 (by simp [S9]) (cr aW (cr (ew λ _ => rfl) aW)) (.there (.there .here)) (by simp [fJ]) (dZ (by simp [S9, fJ])) rfl (.refl _) ?_)
   refine er ?_
   refine At.inBlock ?_
   refine At.rg aR ?_
   refine vs 2 ?_
   refine er ?_
   exact At.drop (so sr) (afv _ (aa hM).symm _ _ _ ⟨(uk.trans OM), S9, rfl, ay.sub ⟨rfl, rfl, rfl, rfl, rfl, rfl, trivial⟩⟩)
  exact At.exit rfl (At.drop (sk (sk (so sr))) (aic _ (aa hM).symm _ _ _ ⟨uk, fJ, rfl, ay.sub ⟨rfl, rfl, trivial⟩⟩))
 rintro AI aGE aEK aQr ⟨ai6, Cm, rfl, aqG⟩ hM
 refine At.sub aqG ?_
 refine sg aT ?_
 refine At.s rfl rfl (Ox.ck (vs := _) rfl rfl c8 (by simp [Cm]) ((aS.box z1).part (j := 0) (n := 5) (ee (by simp [Cm]))) rfl (.put rfl) ?_)
 refine At.s rfl rfl (Ox.bG (cs' := _) rfl rfl rfl c8 (by simp [Cm]) (cr aW (cr (ew λ _ => rfl) aW)) .here (by simp) (dZ (by simp [Cm])) rfl (.refl _) ?_)
 refine vs 1 ?_
 refine er ?_
 obtain rfl := aa hM
 exact rt Tryz.func99 (.agg rfl c8 (by simp [Cm]) (aS.box z0) (.tmp rfl .nil)) (so (so sr)) (hk _ _ _ ⟨ai6, rfl, Cm, rfl⟩)
theorem ayM (x0 : av) {aG aI aM : Value} (aE : az bI 5 R aG x0.au) (aJ : az CZ 1 R aI x0.Out) (aL : az bB 2 R aM x0.aU) {r : Int} (hM : Au x0 = some r) : aB ah 213 #[.agg #[iv x0.aD, iv x0.af.ao, iv x0.af.ax, aG, aI, aM]] R H (λ v R' H' => aO R R' ∧ H = H' ∧ v = iv r) := by
 unfold Au at hM
 refine aB.bk Tryz.func213 rfl (n := 15) rfl rfl λ fr cs hk => ?_
 refine sg aR ?_
 refine bx λ Es => ?_
 refine vs 1 ?_
 refine nx AL ?_
 refine lN [_, _, _, _, _, _] 0 6 dS z0 ?_
 refine At.s rfl rfl (Ox.p9 (z := (List.toArray ([] ++ ([false, false, false, false, false].map Value.bool ++ [])))) rfl pZ rfl (.put rfl) ?_)
 refine vs 2 ?_
 refine ld 4 cO z0 ?_
 obtain ⟨gm, qw, hM⟩ := aj hM
 refine At.cv o5 (pF x0 [false, false, false, false, false] x0.Out aE aJ aL rfl aJ.rd qw) ?_
 rintro _ aHu _ ⟨ajd, rfl, Kv, rfl⟩
 refine vs 3 ?_
 refine At.s rfl rfl (Ox.alloc (cs := (List.toArray ([] ++ ([false, false, false, false, false].map Value.bool ++ [])))) rfl kB rfl λ Et _ _ => ⟨_, (.put rfl), ?_⟩)
 refine At.s rfl rfl (Ox.bG (cs' := _) rfl rfl rfl c8 (by simp [Kv]) (cr aW (cr (ew λ _ => rfl) aW)) .here (by simp) (dZ (by simp [Kv])) rfl (.refl _) ?_)
 refine vs 1 ?_
 refine nx aR ?_
 refine vs 2 ?_
 refine er ?_
 obtain rfl := aa hM
 exact rt Tryz.func213 (.tmp rfl .nil) (so (so sr)) (hk _ _ _ ⟨ajd, rfl, rfl⟩)
theorem ayO (x0 : av) {aG aI aM : Value} (_ : az bI 5 R aG x0.au) (aJ : az CZ 1 R aI x0.Out) (aL : az bB 2 R aM x0.aU) {r : Int} (hM : Av x0 = some r) : aB ah 214 #[.agg #[iv x0.aD, iv x0.af.ao, iv x0.af.ax, aG, aI, aM]] R H (λ v R' H' => R = R' ∧ H = H' ∧ v = iv r) := by
 unfold Av at hM
 refine aB.bk Tryz.func214 rfl (n := 33) rfl rfl λ fr cs hk => ?_
 refine sg aR ?_
 refine bx λ yQ => ?_
 refine vs 1 ?_
 refine es ?_
 refine sg cB ?_
 refine vs 2 ?_
 refine ld 5 fu z0 ?_
 refine ls aL Tryz.underlying26 ?_
 refine vs 1 ?_
 refine er ?_
 refine sc hM (λ zF hM => ?_) (λ zF hM => ?_)
 ·refine sg aQ ?_
  refine vs 1 ?_
  refine er ?_
  obtain rfl := aa hM
  exact rt Tryz.func214 (.tmp rfl .nil) (so sr) (hk _ _ _ ⟨rfl, rfl, rfl⟩)
 refine sp ?_
 refine sq ?_
 refine sg cB ?_
 refine vs 2 ?_
 refine ld 5 fu z0 ?_
 refine ls aL Tryz.underlying26 ?_
 refine vs 1 ?_
 refine er ?_
 refine At.block ?_
 refine At.eR hM (λ (xW : Int) R' H' st' => R = R' ∧ H' = (yQ, .cells #[iv x0.aD, iv x0.af.ao, iv x0.af.ax, aG, aI, aM] 102) :: H ∧ aF st' [(1, .pointer (some ⟨yQ, 0, none⟩)), (12, aM), (13, iv (x0.aU.length : Int)), (14, iv xW)]) (λ (aAg : Unit) R' H' st' => R = R' ∧ H = H' ∧ aF st' []) 0 rfl ⟨rfl, rfl, ay.sub ⟨rfl, rfl, rfl, rfl, trivial⟩⟩ ?_ ?_
 rotate_right
 ·rintro xW R71 H71 aP9 ⟨rfl, rfl, aqo⟩ mY hM M0 ah7 KM
  refine At.sub aqo ?_
  refine sg aQ ?_
  refine vs 1 ?_
  refine es ?_
  refine sc hM (λ Qy hM => ?_) (λ Qy hM => ?_)
  ·refine sp ?_
   refine sq ?_
   refine At.block ?_
   refine sg bw ?_
   obtain ⟨nT, RR, hM⟩ := aj hM
   obtain ⟨afR, azX, _, rfl, O2, Pp⟩ := aL.elem AP RR
   refine At.s rfl rfl (Ox.aX rfl rfl rfl Pp rfl (.put rfl) ?_)
   refine At.s rfl rfl (Ox.ck (vs := [_, _]) rfl rfl rM rfl (O2.any.part (j := 0) (n := 2) rfl) rfl (.put rfl) ?_)
   refine At.s rfl rfl (Ox.alloc (cs := #[iv 0, iv 0]) rfl adh rfl λ aH3 _ _ => ⟨_, (.put rfl), ?_⟩)
   refine At.s rfl rfl (Ox.bG (cs' := #[_, _]) rfl rfl rfl rM rfl (aq rfl (aq rfl aW)) .here rfl rfl rfl (.refl _) ?_)
   refine es ?_
   refine sg eK ?_
   refine vs 1 ?_
   refine ld 0 aV z0 ?_
   refine vs 2 ?_
   refine ld 4 cO z1 ?_
   refine ls aJ Tryz.underlying25 ?_
   obtain ⟨vu, F3, hM⟩ := aj hM
   refine At.cv qc (qC nT.dN 0 (x0.Out.length : Int)  F3) ?_
   rintro _ _ _ ⟨rfl, rfl, rfl⟩
   refine vs 1 ?_
   refine er ?_
   refine sc hM (λ QA hM => ?_) (λ QA hM => ?_)
   ·refine sg aQ ?_
    refine vs 1 ?_
    refine er ?_
    replace hM := KM _ (aa hM).symm
    obtain rfl := aa hM
    exact rt Tryz.func214 (.tmp rfl .nil) (so (so sr)) (hk _ _ _ ⟨rfl, rfl, rfl⟩)
   refine sp ?_
   refine sg aR ?_
   refine vs 1 ?_
   refine ld 1 TO z0 ?_
   refine er ?_
   refine At.block ?_
   refine sq ?_
   refine sg aR ?_
   refine vs 2 ?_
   refine er ?_
   refine sc hM (λ Fy hM => ?_) (λ Fy hM => ?_)
   ·refine sp ?_
    refine sc hM (λ QB hM => ?_) (λ QB hM => ?_)
    ·refine sp ?_
     refine At.inBlock ?_
     refine At.inBlock ?_
     refine At.rg aR ?_
     refine vs 2 ?_
     refine er ?_
     exact At.drop (so sr) (M0 _ (aa hM).symm _ _ _ ⟨rfl, rfl, ay.sub ⟨rfl, rfl, rfl, rfl, trivial⟩⟩)
    refine sg aQ ?_
    refine vs 1 ?_
    refine er ?_
    replace hM := KM _ (aa hM).symm
    obtain rfl := aa hM
    exact rt Tryz.func214 (.tmp rfl .nil) (so (so sr)) (hk _ _ _ ⟨rfl, rfl, rfl⟩)
   refine sg aR ?_
   refine vs 2 ?_
   refine er ?_
   refine sc hM (λ aq0 hM => ?_) (λ aq0 hM => ?_)
   ·refine sp ?_
    refine sc hM (λ QC hM => ?_) (λ QC hM => ?_)
    ·refine sp ?_
     refine At.inBlock ?_
     refine At.inBlock ?_
     refine At.rg aR ?_
     refine vs 2 ?_
     refine er ?_
     exact At.drop (so sr) (M0 _ (aa hM).symm _ _ _ ⟨rfl, rfl, ay.sub ⟨rfl, rfl, rfl, rfl, trivial⟩⟩)
    refine sg aQ ?_
    refine vs 1 ?_
    refine er ?_
    replace hM := KM _ (aa hM).symm
    obtain rfl := aa hM
    exact rt Tryz.func214 (.tmp rfl .nil) (so (so sr)) (hk _ _ _ ⟨rfl, rfl, rfl⟩)
   refine At.rg aR ?_
   refine vs 2 ?_
   refine er ?_
   refine sc hM (λ Fz hM => ?_) (λ Fz hM => ?_)
   ·refine sp ?_
    refine At.inBlock ?_
    refine At.inBlock ?_
    refine At.rg aR ?_
    refine vs 2 ?_
    refine er ?_
    exact At.drop (so sr) (M0 _ (aa hM).symm _ _ _ ⟨rfl, rfl, ay.sub ⟨rfl, rfl, rfl, rfl, trivial⟩⟩)
   refine sg aQ ?_
   refine vs 1 ?_
   refine er ?_
   replace hM := KM _ (aa hM).symm
   obtain rfl := aa hM
   exact rt Tryz.func214 (.tmp rfl .nil) (so (so sr)) (hk _ _ _ ⟨rfl, rfl, rfl⟩)
  exact At.exit rfl (At.drop (so sr) (ah7 _ (aa hM).symm _ _ _ ⟨rfl, rfl, ay.sub trivial⟩))
 rintro aAg aGt aEz aQa ⟨rfl, rfl, aqp⟩ hM
 refine At.sub aqp ?_
 refine sg aQ ?_
 refine vs 1 ?_
 refine er ?_
 obtain rfl := aa hM
 exact rt Tryz.func214 (.tmp rfl .nil) sr (hk _ _ _ ⟨rfl, rfl, rfl⟩)
theorem uT (x0 : av) {aG aI aM : Value} (hG : fG R) (aE : az bI 5 R aG x0.au) (aJ : az CZ 1 R aI x0.Out) (aL : az bB 2 R aM x0.aU) {r : Int} (hM : lK x0 = some r) : aB ah 83 #[.agg #[iv x0.aD, iv x0.af.ao, iv x0.af.ax, aG, aI, aM]] R H (λ v R' H' => aO R R' ∧ H = H' ∧ v = iv r) := by
 unfold lK at hM
 refine aB.bk Tryz.func83 rfl (n := 18) rfl rfl λ fr cs hk => ?_
 refine sg aR ?_
 refine bx λ e7 => ?_
 refine vs 1 ?_
 refine es ?_
 refine sg aR ?_
 refine At.s rfl rfl (Ox.ck (vs := [_, _, _, _]) rfl rfl afx rfl (hG.any.part (j := 0) (n := 4) rfl) rfl (.put rfl) ?_)
 refine vs 1 ?_
 refine er ?_
 refine At.block ?_
 refine At.enterLoop ?_
 refine sg aQ ?_
 refine vs 1 ?_
 refine es ?_
 refine At.cond_true rfl ?_
 refine sp ?_
 refine sq ?_
 refine At.block ?_
 refine sg aR ?_
 refine At.s rfl rfl (Ox.Ko rfl rfl rfl IP KF.1 (by decide) rfl rfl (.put rfl) ?_)
 refine vs 1 ?_
 refine nx cB ?_
 refine vs 1 ?_
 refine lN [_, _, _, _, _, _] 0 6 bp z0 ?_
 refine At.s rfl rfl (Ox.build (cells := #[_, _, _, _, _, _]) rfl pK rfl (bq rfl rfl rfl rfl bD) rfl (.put rfl) ?_)
 obtain ⟨Bi, Gd, hM⟩ := aj hM
 refine At.cv ahg (ayI (⟨x0.aD, ⟨x0.af.ao, x0.af.ax⟩, x0.au, x0.Out, x0.aU⟩ : av) aE aJ aL Gd) ?_
 rintro _ _ _ ⟨rfl, rfl, rfl⟩
 refine vs 1 ?_
 refine nx aR ?_
 refine vs 2 ?_
 refine er ?_
 refine sc hM (λ zC hM => ?_) (λ zC hM => ?_)
 ·refine sg aR ?_
  refine vs 2 ?_
  refine er ?_
  obtain rfl := aa hM
  exact rt Tryz.func83 (.tmp rfl .nil) (so sr) (hk _ _ _ ⟨(rr), rfl, rfl⟩)
 refine sp ?_
 refine At.inBlock ?_
 refine At.rg aR ?_
 refine vs 2 ?_
 refine er ?_
 refine At.inLoop ?_
 refine sg aQ ?_
 refine vs 1 ?_
 refine es ?_
 refine At.cond_true rfl ?_
 refine sp ?_
 refine sq ?_
 refine At.block ?_
 refine sg aR ?_
 refine At.s rfl rfl (Ox.Ko rfl rfl rfl IP KF.1 (by decide) rfl rfl (.put rfl) ?_)
 refine vs 1 ?_
 refine nx cB ?_
 refine vs 1 ?_
 refine lN [_, _, _, _, _, _] 0 6 bp z0 ?_
 refine At.s rfl rfl (Ox.build (cells := #[_, _, _, _, _, _]) rfl pK rfl (bq rfl rfl rfl rfl bD) rfl (.put rfl) ?_)
 obtain ⟨e8, zM, hM⟩ := aj hM
 refine At.cv ahh (ayK (⟨x0.aD, ⟨x0.af.ao, x0.af.ax⟩, x0.au, x0.Out, x0.aU⟩ : av) aE aJ aL zM) ?_
 rintro _ MR _ ⟨jR, rfl, rfl⟩
 replace aE := aE.mono jR
 replace aJ := aJ.mono jR
 replace aL := aL.mono jR
 refine vs 1 ?_
 refine nx aR ?_
 refine vs 2 ?_
 refine er ?_
 refine sc hM (λ ux hM => ?_) (λ ux hM => ?_)
 ·refine sg aR ?_
  refine vs 2 ?_
  refine er ?_
  obtain rfl := aa hM
  exact rt Tryz.func83 (.tmp rfl .nil) (so sr) (hk _ _ _ ⟨jR, rfl, rfl⟩)
 refine sp ?_
 refine At.inBlock ?_
 refine At.rg aR ?_
 refine vs 2 ?_
 refine er ?_
 refine At.inLoop ?_
 refine sg aQ ?_
 refine vs 1 ?_
 refine es ?_
 refine At.cond_true rfl ?_
 refine sp ?_
 refine sq ?_
 refine At.block ?_
 refine sg aR ?_
 refine At.s rfl rfl (Ox.Ko rfl rfl rfl IP KF.1 (by decide) rfl rfl (.put rfl) ?_)
 refine vs 1 ?_
 refine nx cB ?_
 refine vs 1 ?_
 refine lN [_, _, _, _, _, _] 0 6 bp z0 ?_
 refine At.s rfl rfl (Ox.build (cells := #[_, _, _, _, _, _]) rfl pK rfl (bq rfl rfl rfl rfl bD) rfl (.put rfl) ?_)
 obtain ⟨lZ, zO, hM⟩ := aj hM
 refine At.cv ahi (ayM (⟨x0.aD, ⟨x0.af.ao, x0.af.ax⟩, x0.au, x0.Out, x0.aU⟩ : av) aE aJ aL zO) ?_
 rintro _ IF _ ⟨jw, rfl, rfl⟩
 replace aE := aE.mono jw
 replace aJ := aJ.mono jw
 replace aL := aL.mono jw
 refine vs 1 ?_
 refine nx aR ?_
 refine vs 2 ?_
 refine er ?_
 refine sc hM (λ arV hM => ?_) (λ arV hM => ?_)
 ·refine sg aR ?_
  refine vs 2 ?_
  refine er ?_
  obtain rfl := aa hM
  exact rt Tryz.func83 (.tmp rfl .nil) (so sr) (hk _ _ _ ⟨(jR.trans jw), rfl, rfl⟩)
 refine sp ?_
 refine At.inBlock ?_
 refine At.rg aR ?_
 refine vs 2 ?_
 refine er ?_
 refine At.inLoop ?_
 refine sg aQ ?_
 refine vs 1 ?_
 refine es ?_
 refine At.cond_true rfl ?_
 refine sp ?_
 refine sq ?_
 refine At.block ?_
 refine sg aR ?_
 refine At.s rfl rfl (Ox.Ko rfl rfl rfl IP KF.1 (by decide) rfl rfl (.put rfl) ?_)
 refine vs 1 ?_
 refine nx cB ?_
 refine vs 1 ?_
 refine lN [_, _, _, _, _, _] 0 6 bp z0 ?_
 refine At.s rfl rfl (Ox.build (cells := #[_, _, _, _, _, _]) rfl pK rfl (bq rfl rfl rfl rfl bD) rfl (.put rfl) ?_)
 obtain ⟨eL, oC, hM⟩ := aj hM
 refine At.cv ahj (ayO (⟨x0.aD, ⟨x0.af.ao, x0.af.ax⟩, x0.au, x0.Out, x0.aU⟩ : av) aE aJ aL oC) ?_
 rintro _ _ _ ⟨rfl, rfl, rfl⟩
 refine vs 1 ?_
 refine nx aR ?_
 refine vs 2 ?_
 refine er ?_
 refine sc hM (λ Ry hM => ?_) (λ Ry hM => ?_)
 ·refine sg aR ?_
  refine vs 2 ?_
  refine er ?_
  obtain rfl := aa hM
  exact rt Tryz.func83 (.tmp rfl .nil) (so sr) (hk _ _ _ ⟨(jR.trans jw), rfl, rfl⟩)
 refine sp ?_
 refine At.inBlock ?_
 refine At.rg aR ?_
 refine vs 2 ?_
 refine er ?_
 refine At.inLoop ?_
 refine sg aQ ?_
 refine vs 1 ?_
 refine es ?_
 refine At.cond_false rfl ?_
 refine At.exit rfl ?_
 refine sg aQ ?_
 refine vs 1 ?_
 refine er ?_
 obtain rfl := aa hM
 exact rt Tryz.func83 (.tmp rfl .nil) (so sr) (hk _ _ _ ⟨(jR.trans jw), rfl, rfl⟩)
theorem Tc (x0 : av) (x1 : Int) {aG aI aM : Value} (_ : az bI 5 R aG x0.au) (_ : az CZ 1 R aI x0.Out) (_ : az bB 2 R aM x0.aU) {r : Bool} (hM : uL x0 x1 = some r) : aB ah 103 #[.agg #[iv x0.aD, iv x0.af.ao, iv x0.af.ax, aG, aI, aM], iv x1] R H (λ v R' H' => R = R' ∧ H = H' ∧ v = .bool r) := by
 unfold uL at hM
 refine aB.bk Tryz.func103 rfl (n := 13) rfl rfl λ fr cs hk => ?_
 refine sg aR ?_
 refine bx λ nc => ?_
 refine vs 1 ?_
 refine nx iG ?_
 refine vs 2 ?_
 refine At.s rfl rfl (Ox.ngK rfl rfl rfl (.put rfl) ?_)
 refine At.s rfl rfl (Ox.max (a := x1) (l := [i64 (0 - x1)]) rfl rfl rfl (.put rfl) ?_)
 refine vs 2 ?_
 refine ld 0 aV z0 ?_
 refine vs 2 ?_
 refine er ?_
 obtain rfl := aa hM
 exact rt Tryz.func103 (.tmp rfl .nil) (so sr) (hk _ _ _ ⟨rfl, rfl, rfl⟩)
theorem ayh (x0 : (List cF)) (x1 : (cF → Option Bool)) {v0 v1 : Value} (h0 : bV bB 2 R H v0 x0) (h1 : nZ ah R H (j5 bB) VB v1 x1) {r : Int} (hM : CC x0 x1 = some r) : aB ah 174 #[v0, v1] R H (λ v R' H' => aO R R' ∧ H = H' ∧ v = iv r) := by
 unfold CC at hM
 refine aB.bk Tryz.func174 rfl (n := 19) rfl rfl λ fr cs hk => ?_
 refine sg aQ ?_
 refine vs 1 ?_
 refine es ?_
 refine sg aT ?_
 refine vs 1 ?_
 refine lr h0 Tryz.underlying26 ?_
 refine vs 1 ?_
 refine er ?_
 refine At.block ?_
 refine At.eR hM (λ (dM : Int) R' H' st' => aO R R' ∧ H = H' ∧ aF st' [(0, v0), (1, v1), (7, iv (x0.length : Int)), (8, iv dM)]) (λ (G6 : Unit) R' H' st' => aO R R' ∧ H = H' ∧ aF st' []) 0 rfl ⟨rr, rfl, ay.sub ⟨rfl, rfl, rfl, rfl, trivial⟩⟩ ?_ ?_
 rotate_right
 ·rintro dM VV VE abZ ⟨kK, rfl, Fq⟩ cU hM Em EF G4
  refine At.sub Fq ?_
  replace h0 := h0.le kK
  replace h1 := h1.up kK pp
  refine sg aQ ?_
  refine vs 1 ?_
  refine es ?_
  refine sc hM (λ oo hM => ?_) (λ oo hM => ?_)
  ·refine sp ?_
   refine sq ?_
   refine At.block ?_
   refine sg aR ?_
   refine vs 2 ?_
   refine nx c6 ?_
   refine vs 3 ?_
   obtain ⟨ei, kP, hM⟩ := aj hM
   obtain ⟨eF, oD, hM⟩ := aj hM
   obtain ⟨WK, abo, _, rfl, qk, E8⟩ := h0.elem AP kP
   refine At.s rfl rfl (Ox.aX rfl rfl rfl E8 rfl (.put rfl) ?_)
   refine At.s rfl rfl (Ox.ck (vs := [_, _]) rfl rfl rM rfl ((qk.sub pp).part (j := 0) (n := 2) rfl) rfl (.put rfl) ?_)
   refine At.step rfl rfl rfl (Ox.BN h1 rfl rfl rfl ⟨_, rfl, rfl⟩ oD rfl pp ?_)
   rintro _ II iz rfl
   replace h0 := h0.le iz
   replace h1 := h1.up iz pp
   replace qk := qk.le iz
   refine ⟨_, (.put rfl), ?_⟩
   refine er ?_
   refine sc hM (λ FR hM => ?_) (λ FR hM => ?_)
   ·refine sg aR ?_
    refine vs 2 ?_
    refine er ?_
    replace hM := G4 _ (aa hM).symm
    obtain rfl := aa hM
    exact rt Tryz.func174 (.tmp rfl .nil) sr (hk _ _ _ ⟨(kK.trans iz), rfl, rfl⟩)
   refine sp ?_
   refine At.inBlock ?_
   refine At.rg aR ?_
   refine vs 2 ?_
   refine er ?_
   exact Em _ (aa hM).symm _ _ _ ⟨(kK.trans iz), rfl, ay.sub ⟨rfl, rfl, rfl, rfl, trivial⟩⟩
  exact At.exit rfl (EF _ (aa hM).symm _ _ _ ⟨kK, rfl, ay.sub trivial⟩)
 rintro G6 VW VF ab0 ⟨ER, rfl, Fs⟩ hM
 refine At.sub Fs ?_
 refine sg aQ ?_
 refine vs 1 ?_
 refine er ?_
 obtain rfl := aa hM
 exact rt Tryz.func174 (.tmp rfl .nil) sr (hk _ _ _ ⟨ER, rfl, rfl⟩)
theorem ax4 (x0 : (List cF)) (x1 : (cF → Option Bool)) {v0 v1 : Value} (h0 : bV bB 2 R H v0 x0) (h1 : nZ ah R H (j5 bB) VB v1 x1) {r : Bool} (hM : Aj x0 x1 = some r) : aB ah 162 #[v0, v1] R H (λ v R' H' => aO R R' ∧ H = H' ∧ v = .bool r) := by
 unfold Aj at hM
 refine aB.bk Tryz.func162 rfl (n := 9) rfl rfl λ fr cs hk => ?_
 refine sg aQ ?_
 refine vs 1 ?_
 refine nx cB ?_
 refine vs 2 ?_
 obtain ⟨cy, eN, hM⟩ := aj hM
 refine At.cv ag0 (ayh x0 x1 (h0.sub pp) h1 eN) ?_
 rintro _ BH _ ⟨fZ, rfl, rfl⟩
 replace h0 := h0.le fZ
 replace h1 := h1.up fZ pp
 refine vs 2 ?_
 refine er ?_
 obtain rfl := aa hM
 exact rt Tryz.func162 (.tmp rfl .nil) sr (hk _ _ _ ⟨fZ, rfl, rfl⟩)
theorem ax7 (x0 : Int)  {r : Int} (hM : Ak x0 = some r) : aB ah 164 #[iv x0] R H (λ v R' H' => R = R' ∧ H = H' ∧ v = iv r) := by
 unfold Ak at hM
 refine aB.bk Tryz.func164 rfl (n := 9) rfl rfl λ fr cs hk => ?_
 refine sg aQ ?_
 refine vs 1 ?_
 refine es ?_
 refine At.block ?_
 refine sg aT ?_
 refine vs 3 ?_
 refine er ?_
 refine sc hM (λ ari hM => ?_) (λ ari hM => ?_)
 ·refine sg aQ ?_
  refine vs 1 ?_
  refine er ?_
  obtain rfl := aa hM
  exact rt Tryz.func164 (.tmp rfl .nil) sr (hk _ _ _ ⟨rfl, rfl, rfl⟩)
 refine sg aT ?_
 refine vs 3 ?_
 refine er ?_
 refine sc hM (λ FH hM => ?_) (λ FH hM => ?_)
 ·refine sg aQ ?_
  refine vs 1 ?_
  refine er ?_
  obtain rfl := aa hM
  exact rt Tryz.func164 (.tmp rfl .nil) sr (hk _ _ _ ⟨rfl, rfl, rfl⟩)
 refine sp ?_
 refine At.inBlock ?_
 refine sg aQ ?_
 refine vs 1 ?_
 refine er ?_
 obtain rfl := aa hM
 exact rt Tryz.func164 (.tmp rfl .nil) sr (hk _ _ _ ⟨rfl, rfl, rfl⟩)
theorem ax5 (x0 : cF) (x1 : Int) (x2 : Int) {b1 b2 : Nat} (cK : aS R H b1 0 [iv x1]) (bC : aS R H b2 0 [iv x2]) {r : Bool} (hM : xo x0 x1 x2 = some r) : aB ah 163 #[.agg #[iv x0.dN, iv x0.dX], .pointer (some ⟨b1, 0, none⟩), .pointer (some ⟨b2, 0, none⟩)] R H (λ v R' H' => R = R' ∧ H = H' ∧ v = .bool r) := by
 unfold xo at hM
 refine aB.bk Tryz.func163 rfl (n := 16) rfl rfl λ fr cs hk => ?_
 refine sg aR ?_
 refine bx λ Es => ?_
 refine vs 1 ?_
 refine es ?_
 refine At.dw AL mixed ?_
 refine Any.vs 1 [0] rfl ?_
 refine tl 1 0 aV z0 ?_
 refine Any.tk 2 rfl pp (λ R' H' hR hS => Ox.bu rfl rfl aV (((cK.le hR).sub (λ p h => hS p ((su (so sr)) p h))).one (j := 0) rfl) rfl (.one rfl) ⟨rfl, rfl, rfl⟩) ?_
 refine Any.vs 2 [3, 4] rfl ?_
 refine bA hM (λ mE hM => ?_) (λ mE hM => ?_)
 ·refine Any.known (t := 9) rfl mE ?_
  refine Any.vs 1 [5] rfl ?_
  refine tl 6 1 TO z0 ?_
  refine Any.tk 7 rfl pp (λ R' H' hR hS => Ox.bu rfl rfl aV (((bC.le hR).sub (λ p h => hS p ((su (so sr)) p h))).one (j := 0) rfl) rfl (.one rfl) ⟨rfl, rfl, rfl⟩) ?_
  obtain ⟨fB, mH, hM⟩ := aj hM
  refine Any.cv 8 agT (ax7 x2  mH) ?_
  rintro _ _ _ ⟨rfl, rfl, rfl⟩
  refine kp ?_
  refine Any.vs 3 [9, 10, 11] rfl ?_
  refine Any.done ?_
  obtain rfl := aa hM
  exact rt Tryz.func163 (.tmp rfl .nil) (so sr) (hk _ _ _ ⟨rfl, rfl, rfl⟩)
 refine Any.known (t := 9) rfl mE ?_
 refine Any.vs 7 [5, 6, 7, 8, 9, 10, 11] rfl ?_
 refine Any.done ?_
 obtain rfl := aa hM
 exact rt Tryz.func163 (.tmp rfl .nil) (so sr) (hk _ _ _ ⟨rfl, rfl, rfl⟩)
end
end Go.Proofs.YtabamagholjdcaaGreatDoor
