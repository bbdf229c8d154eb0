/- Walks, part 9: each function computes its model. -/
import Derived.Test.YtabamagholjdcaaGreatDoorQGHuP8
namespace Go.Proofs.YtabamagholjdcaaGreatDoor
open Go.Lg Go.Proofs
set_option maxRecDepth 100000
set_option maxHeartbeats 4000000
section
variable {B : Base} {main : Bool} {ah : Jd Tryz.prog B main} {R : aA} {H : ak}
theorem ayg (x0 : Int)  {r : Bool} (hM : CB x0 = some r) : aB ah 173 #[.int .u8 x0] R H (λ v R' H' => R = R' ∧ H = H' ∧ v = .bool r) := by
 unfold CB at hM
 refine aB.bk Tryz.func173 rfl (n := 6) rfl rfl λ fr cs hk => ?_
 refine sg aQ ?_
 refine vs 1 ?_
 refine nx bw ?_
 refine vs 1 ?_
 refine At.s rfl rfl (Ox.qa rfl rfl Tryz.underlying5 Tryz.underlying3 rfl (.put rfl) ?_)
 obtain ⟨cy, eN, hM⟩ := aj hM
 refine At.cv rD (rF (i64 x0) 48 57  eN) ?_
 rintro _ _ _ ⟨rfl, rfl, rfl⟩
 refine vs 1 ?_
 refine er ?_
 obtain rfl := aa hM
 exact rt Tryz.func173 (.tmp rfl .nil) sr (hk _ _ _ ⟨rfl, rfl, rfl⟩)
theorem ax2 (x0 : ByteArray)  {r : Bool} (hM : GK x0 = some r) : aB ah 161 #[.string x0] R H (λ v R' H' => R = R' ∧ H = H' ∧ v = .bool r) := by
 unfold GK at hM
 refine aB.bk Tryz.func161 rfl (n := 32) rfl rfl λ fr cs hk => ?_
 refine sg aQ ?_
 refine vs 1 ?_
 refine es ?_
 refine sq ?_
 refine At.eZ hM (λ (C9 : Bool) R' H' st' => R = R' ∧ H = H' ∧ aF st' [(0, .string x0), (13, .bool C9)])  ?_ ?_
 rotate_right
 ·intro jI hM Jo
  refine At.rg mS ?_
  refine vs 1 ?_
  refine At.s rfl rfl (Ox.Gw rfl rfl Tryz.underlying9 rfl (.put rfl) ?_)
  obtain ⟨jJ, zQ, hM⟩ := aj hM
  refine At.cv rD (rF (x0.size : Int) 1 12  zQ) ?_
  rintro _ _ _ ⟨rfl, rfl, rfl⟩
  refine vs 2 ?_
  refine bA hM (λ qu hM => ?_) (λ qu hM => ?_)
  ·refine At.kn 8 qu ?_
   refine vs 5 ?_
   refine er ?_
   exact Jo _ (aa hM).symm _ _ _ ⟨rfl, rfl, ay.sub ⟨rfl, rfl, trivial⟩⟩
  refine At.kn 8 qu ?_
  refine vs 1 ?_
  obtain ⟨ym, SJ, hM⟩ := aj hM
  refine At.s rfl rfl (Ox.Kp rfl rfl rfl Tryz.underlying9 SJ rfl (.put rfl) ?_)
  obtain ⟨k8, zR, hM⟩ := aj hM
  refine At.cv XJ (aaV ym  zR) ?_
  rintro _ _ _ ⟨rfl, rfl, rfl⟩
  refine vs 2 ?_
  refine er ?_
  exact Jo _ (aa hM).symm _ _ _ ⟨rfl, rfl, ay.sub ⟨rfl, rfl, trivial⟩⟩
 rintro C9 aeG adQ aBq ⟨rfl, rfl, Qw⟩ hM
 refine At.sub Qw ?_
 refine sc hM (λ ar0 hM => ?_) (λ ar0 hM => ?_)
 ·refine sg aQ ?_
  refine vs 1 ?_
  refine er ?_
  obtain rfl := aa hM
  exact rt Tryz.func161 (.tmp rfl .nil) sr (hk _ _ _ ⟨rfl, rfl, rfl⟩)
 refine sp ?_
 refine sq ?_
 refine sg aQ ?_
 refine vs 1 ?_
 refine er ?_
 refine At.block ?_
 refine At.eR hM (λ (nO : Int) R' H' st' => R = R' ∧ H = H' ∧ aF st' [(0, .string x0), (3, iv nO)]) (λ (aAh : Unit) R' H' st' => R = R' ∧ H = H' ∧ aF st' []) 0 rfl ⟨rfl, rfl, ay.sub ⟨rfl, rfl, trivial⟩⟩ ?_ ?_
 rotate_right
 ·rintro nO R72 H72 aQb ⟨rfl, rfl, aqq⟩ fE hM Ws ah8 azV
  refine At.sub aqq ?_
  refine sq ?_
  refine sg bw ?_
  refine vs 2 ?_
  refine At.s rfl rfl (Ox.Gw rfl rfl Tryz.underlying9 rfl (.put rfl) ?_)
  refine vs 1 ?_
  refine er ?_
  refine sc hM (λ zJ hM => ?_) (λ zJ hM => ?_)
  ·refine sp ?_
   refine sq ?_
   refine At.block ?_
   refine sg AL ?_
   refine vs 2 ?_
   obtain ⟨kC, Gm, hM⟩ := aj hM
   refine At.s rfl rfl (Ox.Kp rfl rfl rfl Tryz.underlying9 Gm rfl (.put rfl) ?_)
   obtain ⟨oT, Gn, hM⟩ := aj hM
   refine At.cv XJ (aaV kC  Gn) ?_
   rintro _ _ _ ⟨rfl, rfl, rfl⟩
   refine vs 2 ?_
   refine bA hM (λ FV hM => ?_) (λ FV hM => ?_)
   ·refine At.kn 25 FV ?_
    refine vs 2 ?_
    obtain ⟨nX, Gp, hM⟩ := aj hM
    refine At.s rfl rfl (Ox.Kp rfl rfl rfl Tryz.underlying9 Gp rfl (.put rfl) ?_)
    obtain ⟨Mb, avJ, hM⟩ := aj hM
    refine At.cv agZ (ayg nX  avJ) ?_
    rintro _ _ _ ⟨rfl, rfl, rfl⟩
    refine vs 2 ?_
    refine er ?_
    refine sc hM (λ ZK hM => ?_) (λ ZK hM => ?_)
    ·refine sg aQ ?_
     refine vs 1 ?_
     refine er ?_
     replace hM := azV _ (aa hM).symm
     obtain rfl := aa hM
     exact rt Tryz.func161 (.tmp rfl .nil) sr (hk _ _ _ ⟨rfl, rfl, rfl⟩)
    refine sp ?_
    refine At.inBlock ?_
    refine At.rg aT ?_
    refine vs 3 ?_
    refine er ?_
    exact Ws _ (aa hM).symm _ _ _ ⟨rfl, rfl, ay.sub ⟨rfl, rfl, trivial⟩⟩
   refine At.kn 25 FV ?_
   refine vs 6 ?_
   refine er ?_
   refine At.cond_false rfl ?_
   refine sp ?_
   refine At.inBlock ?_
   refine At.rg aT ?_
   refine vs 3 ?_
   refine er ?_
   exact Ws _ (aa hM).symm _ _ _ ⟨rfl, rfl, ay.sub ⟨rfl, rfl, trivial⟩⟩
  exact At.exit rfl (ah8 _ (aa hM).symm _ _ _ ⟨rfl, rfl, ay.sub trivial⟩)
 rintro aAh aGu aEA aQc ⟨rfl, rfl, aqr⟩ hM
 refine At.sub aqr ?_
 refine sg aQ ?_
 refine vs 1 ?_
 refine er ?_
 obtain rfl := aa hM
 exact rt Tryz.func161 (.tmp rfl .nil) sr (hk _ _ _ ⟨rfl, rfl, rfl⟩)
theorem axK (x0 : av) {aG aI aM : Value} (aE : az bI 5 R aG x0.au) (_ : az CZ 1 R aI x0.Out) (_ : az bB 2 R aM x0.aU) {r : Int} (hM : GI x0 = some r) : aB ah 135 #[.agg #[iv x0.aD, iv x0.af.ao, iv x0.af.ax, aG, aI, aM]] R H (λ v R' H' => R = R' ∧ H = H' ∧ v = iv r) := by
 unfold GI at hM
 refine aB.bk Tryz.func135 rfl (n := 69) rfl rfl λ fr cs hk => ?_
 refine sg aR ?_
 refine bx λ lq => ?_
 refine vs 1 ?_
 refine es ?_
 refine sg cB ?_
 refine vs 1 ?_
 refine ld 3 dc z0 ?_
 refine ls aE Tryz.underlying24 ?_
 obtain ⟨DY, ZM, hM⟩ := aj hM
 refine At.cv rD (rF (x0.au.length : Int) 1 5  ZM) ?_
 rintro _ _ _ ⟨rfl, rfl, rfl⟩
 refine vs 1 ?_
 refine er ?_
 refine sc hM (λ FD hM => ?_) (λ FD hM => ?_)
 ·refine sg aQ ?_
  refine vs 1 ?_
  refine er ?_
  obtain rfl := aa hM
  exact rt Tryz.func135 (.tmp rfl .nil) (so sr) (hk _ _ _ ⟨rfl, rfl, rfl⟩)
 refine sp ?_
 refine sq ?_
 refine sg aQ ?_
 refine vs 1 ?_
 refine er ?_
 refine At.block ?_
 refine At.eR hM (λ (pH : Int) R' H' st' => R = R' ∧ H' = (lq, .cells #[iv x0.aD, iv x0.af.ao, iv x0.af.ax, aG, aI, aM] 28) :: H ∧ aF st' [(1, .pointer (some ⟨lq, 0, none⟩)), (3, iv pH)]) (λ (aAb : Unit) R' H' st' => R = R' ∧ H = H' ∧ aF st' []) 0 rfl ⟨rfl, rfl, ay.sub ⟨rfl, rfl, trivial⟩⟩ ?_ ?_
 rotate_right
 ·rintro pH aFu aDx aOU ⟨rfl, rfl, ao8⟩ aRy hM aeZ ahL KL
  refine At.sub ao8 ?_
  refine sq ?_
  refine sg cB ?_
  refine vs 2 ?_
  refine ld 3 dc z0 ?_
  refine ls aE Tryz.underlying24 ?_
  refine vs 1 ?_
  refine er ?_
  refine sc hM (λ ark hM => ?_) (λ ark hM => ?_)
  ·refine sp ?_
   refine sq ?_
   refine At.block ?_
   refine sg fe ?_
   refine vs 1 ?_
   refine ld 3 dc z0 ?_
   refine vs 1 ?_
   obtain ⟨gX, atN, hM⟩ := aj hM
   obtain ⟨aI0, aNT, _, ⟨Ut, ZR, rfl⟩, ajU, amq⟩ := aE.elem jD atN
   refine At.s rfl rfl (Ox.aX rfl rfl rfl amq rfl (.put rfl) ?_)
   refine At.s rfl rfl (Ox.ck (vs := [_, _, _, _, _]) rfl rfl kE rfl (ajU.any.part (j := 0) (n := 5) rfl) rfl (.put rfl) ?_)
   refine At.s rfl rfl (Ox.alloc (cs := #[.string (⟨#[]⟩), iv 0, iv 0, iv 0, .slice none 0 0]) rfl vD rfl λ BL _ _ => ⟨_, (.put rfl), ?_⟩)
   refine At.s rfl rfl (Ox.bG (cs' := #[_, _, _, _, _]) rfl rfl rfl kE rfl (aq rfl (aq rfl (aq rfl (aq rfl (aq ZR.one aW))))) .here rfl rfl rfl (.refl _) ?_)
   refine es ?_
   refine sg bw ?_
   refine vs 1 ?_
   refine ld 0 sU z0 ?_
   obtain ⟨ac1, atO, hM⟩ := aj hM
   refine At.cv agQ (ax2 gX.Name  atO) ?_
   rintro _ _ _ ⟨rfl, rfl, rfl⟩
   refine vs 1 ?_
   refine er ?_
   refine sc hM (λ arp hM => ?_) (λ arp hM => ?_)
   ·refine sg aQ ?_
    refine vs 1 ?_
    refine er ?_
    replace hM := KL _ (aa hM).symm
    obtain rfl := aa hM
    exact rt Tryz.func135 (.tmp rfl .nil) (so (so sr)) (hk _ _ _ ⟨rfl, rfl, rfl⟩)
   refine sp ?_
   refine sq ?_
   refine sg aQ ?_
   refine vs 1 ?_
   refine er ?_
   refine At.block ?_
   refine At.eR hM (λ (De : Int) R' H' st' => R = R' ∧ H' = (BL, .cells #[.string gX.Name, iv gX.dg, iv gX.Weight.ao, iv gX.Weight.ax, Ut] 58) :: (lq, .cells #[iv x0.aD, iv x0.af.ao, iv x0.af.ax, aG, aI, aM] 28) :: H ∧ aF st' [(1, .pointer (some ⟨lq, 0, none⟩)), (3, iv pH), (4, .pointer (some ⟨BL, 0, none⟩)), (5, iv De)]) (λ (aAc : Unit) R' H' st' => R = R' ∧ H' = (BL, .cells #[.string gX.Name, iv gX.dg, iv gX.Weight.ao, iv gX.Weight.ax, Ut] 58) :: (lq, .cells #[iv x0.aD, iv x0.af.ao, iv x0.af.ax, aG, aI, aM] 28) :: H ∧ aF st' [(1, .pointer (some ⟨lq, 0, none⟩)), (3, iv pH), (4, .pointer (some ⟨BL, 0, none⟩))]) 2 rfl ⟨rfl, rfl, ay.sub ⟨rfl, rfl, rfl, rfl, trivial⟩⟩ ?_ ?_
   rotate_right
   ·rintro De aFN aDQ aPf ⟨rfl, rfl, apu⟩ aRD hM ae6 ahR azP
    refine At.sub apu ?_
    refine sq ?_
    refine sg aT ?_
    refine vs 3 ?_
    refine er ?_
    refine sc hM (λ QW hM => ?_) (λ QW hM => ?_)
    ·refine sp ?_
     refine sq ?_
     refine At.block ?_
     refine sq ?_
     refine At.dw iG mixed ?_
     refine Any.vs 1 [0] rfl ?_
     refine tl 1 3 dc z1 ?_
     refine Any.vs 1 [2] rfl ?_
     obtain ⟨ri, F8, hM⟩ := aj hM
     obtain ⟨afW, az1, _, ⟨aQO, aMM, rfl⟩, O6, Pv⟩ := aE.elem jD F8
     refine Any.tk 3 rfl pp (λ R' H' hR hS => Ox.aX rfl rfl rfl Pv rfl (.one rfl) ⟨rfl, rfl, rfl⟩) ?_
     refine Any.vs 1 [4] rfl ?_
     refine Any.tk 5 rfl pp (λ R' H' hR hS => Ox.bu rfl rfl sU ((O6.up hR).one (j := 0) rfl) rfl (.one rfl) ⟨rfl, rfl, rfl⟩) ?_
     refine Any.vs 1 [6] rfl ?_
     refine tl 7 0 sU z0 ?_
     refine Any.tk 8 rfl pp (λ R' H' hR hS => Ox.Nu rfl rfl rfl rfl rfl (.one rfl) ⟨rfl, rfl, rfl⟩) ?_
     refine Any.done ?_
     refine sc hM (λ zA hM => ?_) (λ zA hM => ?_)
     ·refine sg aQ ?_
      refine vs 1 ?_
      refine er ?_
      replace hM := azP _ (aa hM).symm
      replace hM := KL _ (aa hM).symm
      obtain rfl := aa hM
      exact rt Tryz.func135 (.tmp rfl .nil) (so (so sr)) (hk _ _ _ ⟨rfl, rfl, rfl⟩)
     refine sp ?_
     refine At.inBlock ?_
     refine At.rg aT ?_
     refine vs 3 ?_
     refine er ?_
     exact ae6 _ (aa hM).symm _ _ _ ⟨rfl, rfl, ay.sub ⟨rfl, rfl, rfl, rfl, trivial⟩⟩
    exact At.exit rfl (ahR _ (aa hM).symm _ _ _ ⟨rfl, rfl, ay.sub ⟨rfl, rfl, rfl, trivial⟩⟩)
   rintro aAc aFO aDR aPg ⟨rfl, rfl, apv⟩ hM
   refine At.sub apv ?_
   refine sq ?_
   refine sq ?_
   refine At.eZ hM (λ (KU : Bool) R' H' st' => R = R' ∧ H' = (BL, .cells #[.string gX.Name, iv gX.dg, iv gX.Weight.ao, iv gX.Weight.ax, Ut] 58) :: (lq, .cells #[iv x0.aD, iv x0.af.ao, iv x0.af.ax, aG, aI, aM] 28) :: H ∧ aF st' [(1, .pointer (some ⟨lq, 0, none⟩)), (3, iv pH), (4, .pointer (some ⟨BL, 0, none⟩)), (61, .bool KU)])  ?_ ?_
   rotate_right
   ·intro ye hM N8
    refine At.rg Mm ?_
    refine vs 1 ?_
    refine ld 1 aV z0 ?_
    obtain ⟨DC, Sn, hM⟩ := aj hM
    refine At.cv rD (rF gX.dg (-9) 9  Sn) ?_
    rintro _ _ _ ⟨rfl, rfl, rfl⟩
    refine vs 2 ?_
    refine bA hM (λ QZ hM => ?_) (λ QZ hM => ?_)
    ·refine At.kn 46 QZ ?_
     refine vs 15 ?_
     refine er ?_
     exact N8 _ (aa hM).symm _ _ _ ⟨rfl, rfl, ay.sub ⟨rfl, rfl, rfl, rfl, trivial⟩⟩
    refine At.kn 46 QZ ?_
    refine vs 1 ?_
    refine lN [_, _] 2 2 fW z0 ?_
    obtain ⟨tB, So, hM⟩ := aj hM
    refine At.cv XC (aaN gX.Weight 1 99  So) ?_
    rintro _ _ _ ⟨rfl, rfl, rfl⟩
    refine vs 3 ?_
    refine bA hM (λ Q0 hM => ?_) (λ Q0 hM => ?_)
    ·refine At.kn 52 Q0 ?_
     refine vs 9 ?_
     refine er ?_
     exact N8 _ (aa hM).symm _ _ _ ⟨rfl, rfl, ay.sub ⟨rfl, rfl, rfl, rfl, trivial⟩⟩
    refine At.kn 52 Q0 ?_
    refine vs 2 ?_
    refine ld 3 aV z0 ?_
    refine vs 2 ?_
    refine ld 2 aV z0 ?_
    refine vs 3 ?_
    refine er ?_
    exact N8 _ (aa hM).symm _ _ _ ⟨rfl, rfl, ay.sub ⟨rfl, rfl, rfl, rfl, trivial⟩⟩
   rintro KU aFT aDW aPl ⟨rfl, rfl, apA⟩ hM
   refine At.sub apA ?_
   refine sc hM (λ arv hM => ?_) (λ arv hM => ?_)
   ·refine sg aQ ?_
    refine vs 1 ?_
    refine er ?_
    replace hM := KL _ (aa hM).symm
    obtain rfl := aa hM
    exact rt Tryz.func135 (.tmp rfl .nil) (so (so sr)) (hk _ _ _ ⟨rfl, rfl, rfl⟩)
   refine sp ?_
   refine sg cB ?_
   refine vs 1 ?_
   refine ld 4 cO z0 ?_
   refine vs 1 ?_
   obtain ⟨nU, F9, hM⟩ := aj hM
   refine At.cv ahx (ay9 gX.On pH ZR.rd F9) ?_
   rintro _ _ _ ⟨rfl, rfl, rfl⟩
   refine vs 1 ?_
   refine nx aR ?_
   refine vs 2 ?_
   refine er ?_
   refine sc hM (λ arw hM => ?_) (λ arw hM => ?_)
   ·refine sg aR ?_
    refine vs 2 ?_
    refine er ?_
    replace hM := KL _ (aa hM).symm
    obtain rfl := aa hM
    exact rt Tryz.func135 (.tmp rfl .nil) (so (so sr)) (hk _ _ _ ⟨rfl, rfl, rfl⟩)
   refine sp ?_
   refine At.inBlock ?_
   refine At.rg aT ?_
   refine vs 3 ?_
   refine er ?_
   exact At.drop (so sr) (aeZ _ (aa hM).symm _ _ _ ⟨rfl, rfl, ay.sub ⟨rfl, rfl, trivial⟩⟩)
  exact At.exit rfl (At.drop (so sr) (ahL _ (aa hM).symm _ _ _ ⟨rfl, rfl, ay.sub trivial⟩))
 rintro aAb aFv aDy aOV ⟨rfl, rfl, ao9⟩ hM
 refine At.sub ao9 ?_
 refine sg aQ ?_
 refine vs 1 ?_
 refine er ?_
 obtain rfl := aa hM
 exact rt Tryz.func135 (.tmp rfl .nil) sr (hk _ _ _ ⟨rfl, rfl, rfl⟩)
theorem ay6 (x0 : av) {aG aI aM : Value} (aE : az bI 5 R aG x0.au) (aJ : az CZ 1 R aI x0.Out) (aL : az bB 2 R aM x0.aU) {r : Int} (hM : GQ x0 = some r) : aB ah 61 #[.agg #[iv x0.aD, iv x0.af.ao, iv x0.af.ax, aG, aI, aM]] R H (λ v R' H' => R = R' ∧ H = H' ∧ v = iv r) := by
 unfold GQ at hM
 refine aB.bk Tryz.func61 rfl (n := 68) rfl rfl λ fr cs hk => ?_
 refine sg aR ?_
 refine bx λ IV => ?_
 refine vs 1 ?_
 refine es ?_
 refine sq ?_
 refine At.eZ hM (λ (u5 : Bool) R' H' st' => R = R' ∧ H' = (IV, .cells #[iv x0.aD, iv x0.af.ao, iv x0.af.ax, aG, aI, aM] 28) :: H ∧ aF st' [(1, .pointer (some ⟨IV, 0, none⟩)), (25, .bool u5)])  ?_ ?_
 rotate_right
 ·intro L9 hM EJ
  refine At.rg Mm ?_
  refine vs 1 ?_
  refine ld 0 aV z0 ?_
  obtain ⟨x84, avw, hM⟩ := aj hM
  refine At.cv rD (rF x0.aD 0 9999  avw) ?_
  rintro _ _ _ ⟨rfl, rfl, rfl⟩
  refine vs 2 ?_
  refine bA hM (λ RJ hM => ?_) (λ RJ hM => ?_)
  ·refine At.kn 10 RJ ?_
   refine vs 15 ?_
   refine er ?_
   exact EJ _ (aa hM).symm _ _ _ ⟨rfl, rfl, ay.sub ⟨rfl, rfl, trivial⟩⟩
  refine At.kn 10 RJ ?_
  refine vs 1 ?_
  refine lN [_, _] 1 2 fW z0 ?_
  obtain ⟨yu, Kj, hM⟩ := aj hM
  refine At.cv XC (aaN x0.af (-999) 999  Kj) ?_
  rintro _ _ _ ⟨rfl, rfl, rfl⟩
  refine vs 3 ?_
  refine bA hM (λ RK hM => ?_) (λ RK hM => ?_)
  ·refine At.kn 16 RK ?_
   refine vs 9 ?_
   refine er ?_
   exact EJ _ (aa hM).symm _ _ _ ⟨rfl, rfl, ay.sub ⟨rfl, rfl, trivial⟩⟩
  refine At.kn 16 RK ?_
  refine vs 2 ?_
  refine ld 2 aV z0 ?_
  refine vs 2 ?_
  refine ld 1 aV z0 ?_
  refine vs 3 ?_
  refine er ?_
  exact EJ _ (aa hM).symm _ _ _ ⟨rfl, rfl, ay.sub ⟨rfl, rfl, trivial⟩⟩
 rintro u5 aeI adS aBr ⟨rfl, rfl, Qx⟩ hM
 refine At.sub Qx ?_
 refine sc hM (λ wG hM => ?_) (λ wG hM => ?_)
 ·refine sg aQ ?_
  refine vs 1 ?_
  refine er ?_
  obtain rfl := aa hM
  exact rt Tryz.func61 (.tmp rfl .nil) (so sr) (hk _ _ _ ⟨rfl, rfl, rfl⟩)
 refine sp ?_
 refine sq ?_
 refine sg aT ?_
 refine lN [_, _, _, _, _, _] 0 6 bp z0 ?_
 obtain ⟨oU, Ci, hM⟩ := aj hM
 refine At.cv agG (axK x0 aE aJ aL Ci) ?_
 rintro _ _ _ ⟨rfl, rfl, rfl⟩
 refine vs 1 ?_
 refine nx aR ?_
 refine vs 2 ?_
 refine er ?_
 refine sc hM (λ asb hM => ?_) (λ asb hM => ?_)
 ·refine sg aR ?_
  refine vs 2 ?_
  refine er ?_
  obtain rfl := aa hM
  exact rt Tryz.func61 (.tmp rfl .nil) (so sr) (hk _ _ _ ⟨rfl, rfl, rfl⟩)
 refine sp ?_
 refine sq ?_
 refine sg cB ?_
 refine lN [_, _, _, _, _, _] 0 6 bp z0 ?_
 refine vs 1 ?_
 refine ld 4 cO z0 ?_
 obtain ⟨oT, Gn, hM⟩ := aj hM
 refine At.cv agB (axC x0 [] x0.Out aE aJ aL az.nil.rd aJ.rd Gn) ?_
 rintro _ _ _ ⟨rfl, rfl, rfl⟩
 refine vs 1 ?_
 refine nx aR ?_
 refine vs 2 ?_
 refine er ?_
 refine sc hM (λ FW hM => ?_) (λ FW hM => ?_)
 ·refine sg aR ?_
  refine vs 2 ?_
  refine er ?_
  obtain rfl := aa hM
  exact rt Tryz.func61 (.tmp rfl .nil) (so sr) (hk _ _ _ ⟨rfl, rfl, rfl⟩)
 refine sp ?_
 refine sq ?_
 refine sg bw ?_
 refine vs 1 ?_
 refine ld 5 fu z0 ?_
 refine ls aL Tryz.underlying26 ?_
 refine vs 1 ?_
 refine er ?_
 refine sc hM (λ Fv hM => ?_) (λ Fv hM => ?_)
 ·refine sg aQ ?_
  refine vs 1 ?_
  refine er ?_
  obtain rfl := aa hM
  exact rt Tryz.func61 (.tmp rfl .nil) (so sr) (hk _ _ _ ⟨rfl, rfl, rfl⟩)
 refine sp ?_
 refine sq ?_
 refine sg aQ ?_
 refine vs 1 ?_
 refine er ?_
 refine At.block ?_
 refine At.eR hM (λ (dL : Int) R' H' st' => R = R' ∧ H' = (IV, .cells #[iv x0.aD, iv x0.af.ao, iv x0.af.ax, aG, aI, aM] 28) :: H ∧ aF st' [(1, .pointer (some ⟨IV, 0, none⟩)), (5, iv dL)]) (λ (CX : Unit) R' H' st' => R = R' ∧ H = H' ∧ aF st' []) 0 rfl ⟨rfl, rfl, ay.sub ⟨rfl, rfl, trivial⟩⟩ ?_ ?_
 rotate_right
 ·rintro dL aev adB aBd ⟨rfl, rfl, Qj⟩ kz hM MV N6 KH
  refine At.sub Qj ?_
  refine sq ?_
  refine sg cB ?_
  refine vs 2 ?_
  refine ld 5 fu z0 ?_
  refine ls aL Tryz.underlying26 ?_
  refine vs 1 ?_
  refine er ?_
  refine sc hM (λ aq4 hM => ?_) (λ aq4 hM => ?_)
  ·refine sp ?_
   refine sq ?_
   refine At.block ?_
   refine sq ?_
   refine sq ?_
   refine At.dw xK mixed ?_
   refine Any.vs 1 [0] rfl ?_
   refine tl 1 5 fu z0 ?_
   refine Any.vs 1 [2] rfl ?_
   obtain ⟨Mo, as7, hM⟩ := aj hM
   obtain ⟨acT, as8, hM⟩ := aj hM
   obtain ⟨aIB, aNA, _, rfl, ajB, al0⟩ := aL.elem AP as7
   refine Any.tk 3 rfl pp (λ R' H' hR hS => Ox.aX rfl rfl rfl al0 rfl (.one rfl) ⟨rfl, rfl, rfl⟩) ?_
   refine Any.vs 1 [4] rfl ?_
   refine Any.tk 5 rfl pp (λ R' H' hR hS => Ox.bu rfl rfl aV ((ajB.up hR).one (j := 0) rfl) rfl (.one rfl) ⟨rfl, rfl, rfl⟩) ?_
   refine Any.vs 1 [6] rfl ?_
   refine tl 7 4 cO z0 ?_
   refine Any.tk 8 rfl pp (λ R' H' hR hS => Ox.wW (K := CZ) (k := 1) (xs := x0.Out) rfl rfl (aJ.mono hR) Tryz.underlying25 rfl (.one rfl) ⟨rfl, rfl, rfl⟩) ?_
   refine Any.cv 9 rD (rF Mo.dN 0 (x0.Out.length : Int)  as8) ?_
   rintro _ _ _ ⟨rfl, rfl, rfl⟩
   refine kp ?_
   refine Any.vs 1 [10] rfl ?_
   refine Any.done ?_
   refine sc hM (λ aq5 hM => ?_) (λ aq5 hM => ?_)
   ·refine sg aQ ?_
    refine vs 1 ?_
    refine er ?_
    replace hM := KH _ (aa hM).symm
    obtain rfl := aa hM
    exact rt Tryz.func61 (.tmp rfl .nil) (so sr) (hk _ _ _ ⟨rfl, rfl, rfl⟩)
   refine sp ?_
   refine sg eK ?_
   refine vs 1 ?_
   refine ld 5 fu z0 ?_
   refine vs 1 ?_
   obtain ⟨UF, as9, hM⟩ := aj hM
   obtain ⟨dz, Ka, hM⟩ := aj hM
   obtain ⟨aIC, aNB, _, rfl, ajC, al1⟩ := aL.elem AP as9
   refine At.s rfl rfl (Ox.aX rfl rfl rfl al1 rfl (.put rfl) ?_)
   refine vs 1 ?_
   refine At.ld TO (ajC.any.one (j := 1) rfl) ?_
   refine At.cv rD (rF UF.dX 0 2  Ka) ?_
   rintro _ _ _ ⟨rfl, rfl, rfl⟩
   refine vs 1 ?_
   refine er ?_
   refine sc hM (λ FA hM => ?_) (λ FA hM => ?_)
   ·refine sg aQ ?_
    refine vs 1 ?_
    refine er ?_
    replace hM := KH _ (aa hM).symm
    obtain rfl := aa hM
    exact rt Tryz.func61 (.tmp rfl .nil) (so sr) (hk _ _ _ ⟨rfl, rfl, rfl⟩)
   refine sp ?_
   refine At.inBlock ?_
   refine At.rg aT ?_
   refine vs 3 ?_
   refine er ?_
   exact MV _ (aa hM).symm _ _ _ ⟨rfl, rfl, ay.sub ⟨rfl, rfl, trivial⟩⟩
  exact At.exit rfl (At.drop (so sr) (N6 _ (aa hM).symm _ _ _ ⟨rfl, rfl, ay.sub trivial⟩))
 rintro CX aew adC aBe ⟨rfl, rfl, Qk⟩ hM
 refine At.sub Qk ?_
 refine sg aQ ?_
 refine vs 1 ?_
 refine er ?_
 obtain rfl := aa hM
 exact rt Tryz.func61 (.tmp rfl .nil) sr (hk _ _ _ ⟨rfl, rfl, rfl⟩)
end
end Go.Proofs.YtabamagholjdcaaGreatDoor
