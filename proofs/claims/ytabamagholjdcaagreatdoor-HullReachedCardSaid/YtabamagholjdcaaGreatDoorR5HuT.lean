/- x -/
import Derived.Test.YtabamagholjdcaaGreatDoorQGHuP12
import Derived.Test.YtabamagholjdcaaGreatDoorQGLgD
namespace Go.Proofs.YtabamagholjdcaaGreatDoor
open Go.Lg Go.Proofs
set_option maxRecDepth 100000
set_option maxHeartbeats 4000000
section
variable {B : Base} {main : Bool} {ah : Jd Tryz.prog B main} {R : aA} {H : ak}
theorem aNg {PW : Value → World → Prop} (x0 : av) (x1 : Int) {aG aI aM : Value} (hG : fG R) (hK : yF (GY Tryz.prog B PW)) (aE : az bI 5 R aG x0.au) (aJ : az CZ 1 R aI x0.Out) (aL : az bB 2 R aM x0.aU) {r : Bool} (hM : m5 x0 x1 = some r) : IK Tryz.prog B PW 5 #[.agg #[iv x0.aD, iv x0.af.ao, iv x0.af.ax, aG, aI, aM], .int .u8 x1] R H (λ v R' H' => aO R R' ∧ H = H' ∧ v = .bool r) := by
 unfold m5 at hM
 refine IK.bk (args := [.agg #[iv x0.aD, iv x0.af.ao, iv x0.af.ax, aG, aI, aM], .int .u8 x1]) Tryz.func5 rfl (n := 134) rfl rfl λ hk => ?_
 refine sg aR ?_
 refine bx λ HQ => ?_
 refine vs 1 ?_
 refine es ?_
 refine sg aT ?_
 refine lN [_, _, _, _, _, _] 0 6 bp z0 ?_
 obtain ⟨dz, Ka, hM⟩ := aj hM
 refine At.cv ahs (ay0 x0 aE aJ aL Ka) ?_
 rintro _ _ _ ⟨rfl, rfl, rfl⟩
 refine vs 1 ?_
 refine er ?_
 refine sc hM (λ ZJ hM => ?_) (λ ZJ hM => ?_)
 ·refine sg aR ?_
  obtain ⟨adw, aMC, hM⟩ := aj hM
  refine At.cv NR (Tu  hG hK aMC) ?_
  rintro _ aR5 _ ⟨aKW, rfl, rfl⟩
  refine vs 1 ?_
  refine er ?_
  obtain rfl := aa hM
  exact At.AK Tryz.func5 (by kernel_rfl) (.tmp rfl .nil) (so sr) hk ⟨aKW, rfl, rfl⟩
 refine sp ?_
 refine sg fe ?_
 refine vs 1 ?_
 refine At.s rfl rfl (Ox.qa rfl rfl Tryz.underlying5 Tryz.underlying3 rfl (.put rfl) ?_)
 refine vs 1 ?_
 refine ld 3 dc z0 ?_
 refine ls aE Tryz.underlying24 ?_
 obtain ⟨pU, aMD, hM⟩ := aj hM
 refine At.s rfl rfl (Ox.rem rfl rfl rfl aMD rfl (.put rfl) ?_)
 refine vs 1 ?_
 refine nx eK ?_
 refine lN [_, _, _, _, _, _] 0 6 bp z0 ?_
 refine vs 1 ?_
 obtain ⟨gK, Kc, hM⟩ := aj hM
 refine At.cv Vi (Vq x0 pU hG aE aJ aL Kc) ?_
 rintro _ aR6 _ ⟨Mf, rfl, adt, DT, rfl⟩
 replace aE := aE.mono Mf
 replace aJ := aJ.mono Mf
 replace aL := aL.mono Mf
 replace hG := hG.mono Mf
 refine vs 5 ?_
 refine nx fe ?_
 refine lN [_, _, _, _, _, _] 0 6 bp z0 ?_
 obtain ⟨gW, Kd, hM⟩ := aj hM
 refine At.cv HS (HV x0 hG aE aJ aL Kd) ?_
 rintro _ aeN _ ⟨JE, rfl, rfl⟩
 replace aE := aE.mono JE
 replace aJ := aJ.mono JE
 replace aL := aL.mono JE
 replace hG := hG.mono JE
 replace DT := DT.mono JE
 refine vs 5 ?_
 refine es ?_
 refine sq ?_
 refine At.eZ hM (λ (Vu : Bool) R' H' st' => aeN = R' ∧ H' = (HQ, .cells #[iv x0.aD, iv x0.af.ao, iv x0.af.ax, aG, aI, aM] 28) :: H ∧ aF st' [(2, .pointer (some ⟨HQ, 0, none⟩)), (5, iv pU), (6, adt), (8, iv gW.1), (58, .bool Vu)])  ?_ ?_
 rotate_right
 ·intro aSA hM XT
  refine At.rg aDh ?_
  refine vs 3 ?_
  refine bA hM (λ zw hM => ?_) (λ zw hM => ?_)
  ·refine At.kn 39 zw ?_
   refine vs 19 ?_
   refine er ?_
   exact XT _ (aa hM).symm _ _ _ ⟨rfl, rfl, ay.sub ⟨rfl, rfl, rfl, rfl, rfl, trivial⟩⟩
  refine At.kn 39 zw ?_
  refine vs 4 ?_
  refine At.s rfl rfl (Ox.Vg rfl rfl rfl Tryz.underlying4 rfl rfl (.put rfl) ?_)
  refine vs 2 ?_
  refine bA hM (λ ara hM => ?_) (λ ara hM => ?_)
  ·refine At.kn 46 ara ?_
   refine vs 12 ?_
   refine er ?_
   exact XT _ (aa hM).symm _ _ _ ⟨rfl, rfl, ay.sub ⟨rfl, rfl, rfl, rfl, rfl, trivial⟩⟩
  refine At.kn 46 ara ?_
  refine vs 3 ?_
  refine bA hM (λ zx hM => ?_) (λ zx hM => ?_)
  ·refine At.kn 49 zx ?_
   refine vs 3 ?_
   refine bA hM (λ arb hM => ?_) (λ arb hM => ?_)
   ·refine At.kn 52 arb ?_
    refine vs 6 ?_
    refine er ?_
    exact XT _ (aa hM).symm _ _ _ ⟨rfl, rfl, ay.sub ⟨rfl, rfl, rfl, rfl, rfl, trivial⟩⟩
   refine At.kn 52 arb ?_
   refine vs 1 ?_
   refine ls DT Tryz.underlying25 ?_
   refine vs 4 ?_
   refine er ?_
   exact XT _ (aa hM).symm _ _ _ ⟨rfl, rfl, ay.sub ⟨rfl, rfl, rfl, rfl, rfl, trivial⟩⟩
  refine At.kn 49 zx ?_
  refine vs 9 ?_
  refine er ?_
  exact XT _ (aa hM).symm _ _ _ ⟨rfl, rfl, ay.sub ⟨rfl, rfl, rfl, rfl, rfl, trivial⟩⟩
 rintro Vu aR0 aRT aSr ⟨rfl, rfl, aMo⟩ hM
 refine At.sub aMo ?_
 refine sc hM (λ aMv hM => ?_) (λ aMv hM => ?_)
 ·refine sg aQ ?_
  refine vs 1 ?_
  refine er ?_
  obtain rfl := aa hM
  exact At.AK Tryz.func5 (by kernel_rfl) (.tmp rfl .nil) (so sr) hk ⟨(Mf.trans JE), rfl, rfl⟩
 refine sp ?_
 refine sg aQ ?_
 refine vs 1 ?_
 refine es ?_
 refine sg eK ?_
 refine vs 1 ?_
 refine ld 3 dc z0 ?_
 refine vs 1 ?_
 obtain ⟨adx, aME, hM⟩ := aj hM
 obtain ⟨aSe, aSm, _, ⟨aSv, aSh, rfl⟩, aLl, aLI⟩ := aE.elem jD aME
 refine At.s rfl rfl (Ox.aX rfl rfl rfl aLI rfl (.put rfl) ?_)
 refine vs 2 ?_
 refine At.ld aV (aLl.any.one (j := 2) rfl) ?_
 refine vs 1 ?_
 refine er ?_
 refine At.block ?_
 refine At.eR hM (λ (eA : (Int × Int)) R' H' st' => aO aeN R' ∧ H' = (HQ, .cells #[iv x0.aD, iv x0.af.ao, iv x0.af.ax, aG, aI, aM] 28) :: H ∧ aF st' [(2, .pointer (some ⟨HQ, 0, none⟩)), (5, iv pU), (6, adt), (8, iv gW.1), (10, iv eA.1), (11, iv eA.2)]) (λ (tH : Int) R' H' st' => aO aeN R' ∧ H = H' ∧ aF st' [(8, iv gW.1), (10, iv tH)]) 0 rfl ⟨rr, rfl, ay.sub ⟨rfl, rfl, rfl, rfl, rfl, rfl, trivial⟩⟩ ?_ ?_
 rotate_right
 ·rintro eA aey aC0 aDl ⟨Me, rfl, ZH⟩ aDn hM Wj XU aNl
  refine At.sub ZH ?_
  replace aE := aE.mono Me
  replace aJ := aJ.mono Me
  replace aL := aL.mono Me
  replace hG := hG.mono Me
  replace DT := DT.mono Me
  refine sq ?_
  refine sg iG ?_
  refine vs 2 ?_
  refine ld 3 dc z0 ?_
  refine vs 1 ?_
  obtain ⟨Vx, aMF, hM⟩ := aj hM
  obtain ⟨aSf, aSn, _, ⟨aSw, aSi, rfl⟩, aLq, aLJ⟩ := aE.elem jD aMF
  refine At.s rfl rfl (Ox.aX rfl rfl rfl aLJ rfl (.put rfl) ?_)
  refine vs 2 ?_
  refine At.ld aV (aLq.any.one (j := 3) rfl) ?_
  refine vs 1 ?_
  refine er ?_
  refine sc hM (λ aMw hM => ?_) (λ aMw hM => ?_)
  ·refine sp ?_
   refine sq ?_
   refine At.block ?_
   refine sq ?_
   obtain ⟨UJ, aDc, hM⟩ := aj hM
   obtain ⟨fL, Sf, hM⟩ := aj hM
   refine At.cut (λ R' H' st' => aO aey R' ∧ ∃ (yM : Nat) (Ly : Value) (Lz : Value) (LA : Value), az bI 5 R' Ly fL.1.au ∧ az CZ 1 R' Lz fL.1.Out ∧ az bB 2 R' LA fL.1.aU ∧ H' = (yM, .cells #[iv fL.1.aD, iv fL.1.af.ao, iv fL.1.af.ax, Ly, Lz, LA] 28) :: (HQ, .cells #[iv x0.aD, iv x0.af.ao, iv x0.af.ax, aG, aI, aM] 28) :: H ∧ aF st' [(2, .pointer (some ⟨HQ, 0, none⟩)), (5, iv pU), (6, adt), (8, iv gW.1), (10, iv eA.1), (11, iv eA.2), (12, .pointer (some ⟨yM, 0, none⟩)), (13, iv fL.2)]) ?_ ?_
   ·rintro aR3 aRW aSu ⟨OE, yM, Ly, Lz, LA, Br, Bs, Bt, rfl, aMr⟩
    refine At.sub aMr ?_
    replace aE := aE.mono OE
    replace aJ := aJ.mono OE
    replace aL := aL.mono OE
    replace hG := hG.mono OE
    replace DT := DT.mono OE
    refine sq ?_
    refine At.dw xK mixed ?_
    refine tN 0 [_, _, _, _, _, _] 0 6 bp z1 ?_
    refine Any.vs 2 [1, 2] rfl ?_
    obtain ⟨acZ, aMG, hM⟩ := aj hM
    refine Any.cv 3 DQ (DU eA.2  aMG) ?_
    rintro _ _ _ ⟨rfl, rfl, rfl⟩
    refine kp ?_
    obtain ⟨LR, ZQ, hM⟩ := aj hM
    refine Any.cv 4 adl (ado x0 pU acZ aE aJ aL ZQ) ?_
    rintro _ aSa _ ⟨Mh, rfl, aSx, aSy, aSz, aMH, aMI, aMJ, rfl⟩
    replace hG := hG.mono Mh
    replace DT := DT.mono Mh
    replace Br := Br.mono Mh
    replace Bs := Bs.mono Mh
    replace Bt := Bt.mono Mh
    refine ⟨Mh, ka, ?_⟩
    obtain ⟨HI, aMK, hM⟩ := aj hM
    refine Any.cv 5 HS (HV LR hG aMH aMI aMJ aMK) ?_
    rintro _ aHt _ ⟨ON, rfl, rfl⟩
    replace DT := DT.mono ON
    replace Br := Br.mono ON
    replace Bs := Bs.mono ON
    replace Bt := Bt.mono ON
    refine ⟨ON, ka, ?_⟩
    refine Any.vs 5 [6, 7, 8, 9, 10] rfl ?_
    refine Any.done ?_
    refine sq ?_
    refine sq ?_
    refine At.eZ hM (λ (Vv : Bool) R' H' st' => aHt = R' ∧ H' = (HQ, .cells #[iv x0.aD, iv x0.af.ao, iv x0.af.ax, aG, aI, aM] 28) :: H ∧ aF st' [(2, .pointer (some ⟨HQ, 0, none⟩)), (5, iv pU), (6, adt), (8, iv gW.1), (10, iv eA.1), (11, iv eA.2), (14, iv HI.1), (124, .bool Vv)])  ?_ ?_
    rotate_right
    ·intro aSB hM Vk
     refine At.rg aDi ?_
     refine vs 3 ?_
     refine bA hM (λ aro hM => ?_) (λ aro hM => ?_)
     ·refine At.kn 96 aro ?_
      refine vs 28 ?_
      refine er ?_
      exact At.drop (so sr) (Vk _ (aa hM).symm _ _ _ ⟨rfl, rfl, ay.sub ⟨rfl, rfl, rfl, rfl, rfl, rfl, rfl, rfl, trivial⟩⟩)
     refine At.kn 96 aro ?_
     refine vs 4 ?_
     obtain ⟨ady, aML, hM⟩ := aj hM
     refine At.cv HT (HX gK.1 eA.2 DT.rd aML) ?_
     rintro _ _ _ ⟨rfl, rfl, rfl⟩
     refine At.s rfl rfl (Ox.Vg rfl rfl rfl Tryz.underlying4 rfl rfl (.put rfl) ?_)
     refine vs 2 ?_
     refine bA hM (λ arq hM => ?_) (λ arq hM => ?_)
     ·refine At.kn 104 arq ?_
      refine vs 20 ?_
      refine er ?_
      exact At.drop (so sr) (Vk _ (aa hM).symm _ _ _ ⟨rfl, rfl, ay.sub ⟨rfl, rfl, rfl, rfl, rfl, rfl, rfl, rfl, trivial⟩⟩)
     refine At.kn 104 arq ?_
     refine vs 4 ?_
     refine At.s rfl rfl (Ox.Vg rfl rfl rfl Tryz.underlying4 rfl rfl (.put rfl) ?_)
     refine vs 2 ?_
     refine bA hM (λ zz hM => ?_) (λ zz hM => ?_)
     ·refine At.kn 111 zz ?_
      refine vs 13 ?_
      refine er ?_
      exact At.drop (so sr) (Vk _ (aa hM).symm _ _ _ ⟨rfl, rfl, ay.sub ⟨rfl, rfl, rfl, rfl, rfl, rfl, rfl, rfl, trivial⟩⟩)
     refine At.kn 111 zz ?_
     refine vs 3 ?_
     refine bA hM (λ FI hM => ?_) (λ FI hM => ?_)
     ·refine At.kn 114 FI ?_
      refine vs 3 ?_
      refine bA hM (λ ars hM => ?_) (λ ars hM => ?_)
      ·refine At.kn 117 ars ?_
       refine vs 7 ?_
       refine er ?_
       exact At.drop (so sr) (Vk _ (aa hM).symm _ _ _ ⟨rfl, rfl, ay.sub ⟨rfl, rfl, rfl, rfl, rfl, rfl, rfl, rfl, trivial⟩⟩)
      refine At.kn 117 ars ?_
      refine lN [_, _, _, _, _, _] 0 6 bp z0 ?_
      refine At.s rfl rfl (Ox.build (cells := #[_, _, _, _, _, _]) rfl rI rfl bD rfl (.put rfl) ?_)
      obtain ⟨fF, F7, hM⟩ := aj hM
      refine At.cv aC8 (aDe fL.1 (⟨0, ⟨0, 0⟩, [], [], []⟩ : av) Br Bs Bt az.nil az.nil az.nil F7) ?_
      rintro _ _ _ ⟨rfl, rfl, rfl⟩
      refine vs 4 ?_
      refine er ?_
      exact At.drop (so sr) (Vk _ (aa hM).symm _ _ _ ⟨rfl, rfl, ay.sub ⟨rfl, rfl, rfl, rfl, rfl, rfl, rfl, rfl, trivial⟩⟩)
     refine At.kn 114 FI ?_
     refine vs 10 ?_
     refine er ?_
     exact At.drop (so sr) (Vk _ (aa hM).symm _ _ _ ⟨rfl, rfl, ay.sub ⟨rfl, rfl, rfl, rfl, rfl, rfl, rfl, rfl, trivial⟩⟩)
    rintro Vv aR1 aRU aSs ⟨rfl, rfl, aMp⟩ hM
    refine At.sub aMp ?_
    refine sc hM (λ J5 hM => ?_) (λ J5 hM => ?_)
    ·refine sg aQ ?_
     refine vs 1 ?_
     refine er ?_
     replace hM := aNl _ (aa hM).symm
     obtain rfl := aa hM
     exact At.AK Tryz.func5 (by kernel_rfl) (.tmp rfl .nil) (so sr) hk ⟨(((((Mf.trans JE).trans Me).trans OE).trans Mh).trans ON), rfl, rfl⟩
    refine sp ?_
    refine At.rg bw ?_
    refine vs 4 ?_
    refine er ?_
    refine At.inBlock ?_
    refine At.rg aT ?_
    refine vs 3 ?_
    refine er ?_
    exact Wj _ (aa hM).symm _ _ _ ⟨(((Me.trans OE).trans Mh).trans ON), rfl, ay.sub ⟨rfl, rfl, rfl, rfl, rfl, rfl, trivial⟩⟩
   intro ajo
   refine At.dw xK mixed ?_
   refine tN 0 [_, _, _, _, _, _] 0 6 bp z0 ?_
   refine Any.vs 2 [1, 2] rfl ?_
   refine tw 3 8 ?_ ?_
   ·refine  (Ox.cD rfl rfl rfl rfl DQ rfl rfl ((DU eA.2  aDc).mono ?_))
    rintro _ _ _ ⟨rfl, rfl, rfl⟩
    refine ⟨_, (.put rfl), ⟨rr, ka, ?_⟩⟩
    refine tw 4 8 ?_ ?_
    ·refine  (Ox.cD rfl rfl rfl rfl Vh rfl rfl ((Vp x0 pU UJ hG aE aJ aL Sf).mono ?_))
     rintro _ aC5 _ ⟨Mg, rfl, Ly, Lz, LA, Br, Bs, Bt, rfl⟩
     refine ⟨_, (.put rfl), ⟨Mg, ka, ?_⟩⟩
     refine Any.vs 3 [5, 6, 7] rfl ?_
     refine Any.on 8 rfl rfl (aP.to (Ox.alloc (cs := #[iv 0, iv 0, iv 0, .slice none 0 0, .slice none 0 0, .slice none 0 0]) rfl nY rfl λ yM _ _ => ⟨_, (.put rfl), ⟨rr, (ku (so sr)), ?_⟩⟩))
     refine Any.on 9 rfl rfl (aP.to (Ox.bG (cs' := #[_, _, _, _, _, _]) rfl rfl rfl bp rfl (aq rfl (aq rfl (aq rfl (aq Br.one (aq Bs.one (aq Bt.one aW)))))) .here rfl rfl rfl (.refl _) ⟨rr, (ku (so sr)), ?_⟩))
     refine Any.vs 1 [10] rfl ?_
     exact Any.done (ajo _ _ _ ⟨Mg, yM, Ly, Lz, LA, Br, Bs, Bt, rfl, ay.sub ⟨rfl, rfl, rfl, rfl, rfl, rfl, rfl, rfl, trivial⟩⟩)
    refine  (aP.to (Ox.alloc (cs := #[iv 0, iv 0, iv 0, .slice none 0 0, .slice none 0 0, .slice none 0 0]) rfl nY rfl λ yM _ _ => ⟨_, (.put rfl), ⟨rr, (ku (so sr)), ?_⟩⟩))
    refine Any.cv 4 Vh (Vp x0 pU UJ hG aE aJ aL Sf) ?_
    rintro _ aC5 _ ⟨Mg, rfl, Ly, Lz, LA, Br, Bs, Bt, rfl⟩
    refine ⟨Mg, (ku (so sr)), ?_⟩
    refine Any.vs 3 [5, 6, 7] rfl ?_
    refine Any.on 9 rfl rfl (aP.to (Ox.bG (cs' := #[_, _, _, _, _, _]) rfl rfl rfl bp rfl (aq rfl (aq rfl (aq rfl (aq Br.one (aq Bs.one (aq Bt.one aW)))))) .here rfl rfl rfl (.refl _) ⟨rr, (ku (so sr)), ?_⟩))
    refine Any.vs 1 [10] rfl ?_
    exact Any.done (ajo _ _ _ ⟨Mg, yM, Ly, Lz, LA, Br, Bs, Bt, rfl, ay.sub ⟨rfl, rfl, rfl, rfl, rfl, rfl, rfl, rfl, trivial⟩⟩)
   refine  (aP.to (Ox.alloc (cs := #[iv 0, iv 0, iv 0, .slice none 0 0, .slice none 0 0, .slice none 0 0]) rfl nY rfl λ yM _ _ => ⟨_, (.put rfl), ⟨rr, (ku (so sr)), ?_⟩⟩))
   refine Any.cv 3 DQ (DU eA.2  aDc) ?_
   rintro _ _ _ ⟨rfl, rfl, rfl⟩
   refine ⟨rr, (ku (so sr)), ?_⟩
   refine Any.cv 4 Vh (Vp x0 pU UJ hG aE aJ aL Sf) ?_
   rintro _ aC5 _ ⟨Mg, rfl, Ly, Lz, LA, Br, Bs, Bt, rfl⟩
   refine ⟨Mg, (ku (so sr)), ?_⟩
   refine Any.vs 3 [5, 6, 7] rfl ?_
   refine Any.on 9 rfl rfl (aP.to (Ox.bG (cs' := #[_, _, _, _, _, _]) rfl rfl rfl bp rfl (aq rfl (aq rfl (aq rfl (aq Br.one (aq Bs.one (aq Bt.one aW)))))) .here rfl rfl rfl (.refl _) ⟨rr, (ku (so sr)), ?_⟩))
   refine Any.vs 1 [10] rfl ?_
   exact Any.done (ajo _ _ _ ⟨Mg, yM, Ly, Lz, LA, Br, Bs, Bt, rfl, ay.sub ⟨rfl, rfl, rfl, rfl, rfl, rfl, rfl, rfl, trivial⟩⟩)
  exact At.exit rfl (At.drop (so sr) (XU _ (aa hM).symm _ _ _ ⟨Me, rfl, ay.sub ⟨rfl, rfl, trivial⟩⟩))
 rintro tH aC3 aC1 aDm ⟨aiX, rfl, ZI⟩ hM
 refine At.sub ZI ?_
 replace hG := hG.mono aiX
 refine sg fe ?_
 refine vs 4 ?_
 refine bA hM (λ FK hM => ?_) (λ FK hM => ?_)
 ·refine At.kn 131 FK ?_
  obtain ⟨H6, ZS, hM⟩ := aj hM
  refine At.cv NR (Tu  hG hK ZS) ?_
  rintro _ aSb _ ⟨aK0, rfl, rfl⟩
  refine vs 2 ?_
  refine er ?_
  obtain rfl := aa hM
  exact At.AK Tryz.func5 (by kernel_rfl) (.tmp rfl .nil) sr hk ⟨(((Mf.trans JE).trans aiX).trans aK0), rfl, rfl⟩
 refine At.kn 131 FK ?_
 refine vs 3 ?_
 refine er ?_
 obtain rfl := aa hM
 exact At.AK Tryz.func5 (by kernel_rfl) (.tmp rfl .nil) sr hk ⟨((Mf.trans JE).trans aiX), rfl, rfl⟩
end
end Go.Proofs.YtabamagholjdcaaGreatDoor
