/- Walks, part 11: each function computes its model. -/
import Derived.Test.YtabamagholjdcaaGreatDoorQGHuP9
namespace Go.Proofs.YtabamagholjdcaaGreatDoor
open Go.Lg Go.Proofs
set_option maxRecDepth 100000
set_option maxHeartbeats 4000000
section
variable {B : Base} {main : Bool} {ah : Jd Tryz.prog B main} {R : aA} {H : ak}
theorem aDe (x0 : av) (x1 : av) {aG aI aM jZ iW j0 : Value} (aE : az bI 5 R aG x0.au) (aJ : az CZ 1 R aI x0.Out) (aL : az bB 2 R aM x0.aU) (lA : az bI 5 R jZ x1.au) (lB : az CZ 1 R iW x1.Out) (lC : az bB 2 R j0 x1.aU) {r : Bool} (hM : GO x0 x1 = some r) : aB ah 37 #[.agg #[iv x0.aD, iv x0.af.ao, iv x0.af.ax, aG, aI, aM], .agg #[iv x1.aD, iv x1.af.ao, iv x1.af.ax, jZ, iW, j0]] R H (λ v R' H' => R = R' ∧ H = H' ∧ v = .bool r) := by
 unfold GO at hM
 refine aB.bk Tryz.func37 rfl (n := 109) rfl rfl λ fr cs hk => ?_
 refine sg aT ?_
 refine bx λ p7 => ?_
 refine bx λ n9 => ?_
 refine vs 1 ?_
 refine es ?_
 refine sq ?_
 refine At.eZ hM (λ (K6 : Bool) R' H' st' => R = R' ∧ H' = (n9, .cells #[iv x1.aD, iv x1.af.ao, iv x1.af.ax, jZ, iW, j0] 28) :: (p7, .cells #[iv x0.aD, iv x0.af.ao, iv x0.af.ax, aG, aI, aM] 28) :: H ∧ aF st' [(2, .pointer (some ⟨p7, 0, none⟩)), (3, .pointer (some ⟨n9, 0, none⟩)), (46, .bool K6)])  ?_ ?_
 rotate_right
 ·intro nX hM EK
  refine At.rg aAL ?_
  refine vs 1 ?_
  refine ld 0 aV z1 ?_
  refine vs 1 ?_
  refine ld 0 aV z0 ?_
  refine vs 2 ?_
  refine bA hM (λ Fw hM => ?_) (λ Fw hM => ?_)
  ·refine At.kn 14 Fw ?_
   refine vs 32 ?_
   refine er ?_
   exact EK _ (aa hM).symm _ _ _ ⟨rfl, rfl, ay.sub ⟨rfl, rfl, rfl, trivial⟩⟩
  refine At.kn 14 Fw ?_
  refine vs 1 ?_
  refine lN [_, _] 1 2 fW z1 ?_
  refine vs 1 ?_
  refine lN [_, _] 1 2 fW z0 ?_
  refine At.s rfl rfl (Ox.Ja rfl rfl rfl Oh (N5 _ _) rfl rfl (.put rfl) ?_)
  refine vs 2 ?_
  refine bA hM (λ Fx hM => ?_) (λ Fx hM => ?_)
  ·refine At.kn 21 Fx ?_
   refine vs 25 ?_
   refine er ?_
   exact EK _ (aa hM).symm _ _ _ ⟨rfl, rfl, ay.sub ⟨rfl, rfl, rfl, trivial⟩⟩
  refine At.kn 21 Fx ?_
  refine vs 1 ?_
  refine ld 3 dc z1 ?_
  refine ls aE Tryz.underlying24 ?_
  refine vs 1 ?_
  refine ld 3 dc z0 ?_
  refine ls lA Tryz.underlying24 ?_
  refine vs 3 ?_
  refine bA hM (λ Qz hM => ?_) (λ Qz hM => ?_)
  ·refine At.kn 30 Qz ?_
   refine vs 16 ?_
   refine er ?_
   exact EK _ (aa hM).symm _ _ _ ⟨rfl, rfl, ay.sub ⟨rfl, rfl, rfl, trivial⟩⟩
  refine At.kn 30 Qz ?_
  refine vs 1 ?_
  refine ld 5 fu z1 ?_
  refine ls aL Tryz.underlying26 ?_
  refine vs 1 ?_
  refine ld 5 fu z0 ?_
  refine ls lC Tryz.underlying26 ?_
  refine vs 3 ?_
  refine bA hM (λ J4 hM => ?_) (λ J4 hM => ?_)
  ·refine At.kn 39 J4 ?_
   refine vs 7 ?_
   refine er ?_
   exact EK _ (aa hM).symm _ _ _ ⟨rfl, rfl, ay.sub ⟨rfl, rfl, rfl, trivial⟩⟩
  refine At.kn 39 J4 ?_
  refine vs 1 ?_
  refine ld 4 cO z1 ?_
  refine vs 1 ?_
  refine ld 4 cO z0 ?_
  obtain ⟨DW, RS, hM⟩ := aj hM
  refine At.cv NV (Tv x0.Out x1.Out aJ.rd lB.rd RS) ?_
  rintro _ _ _ ⟨rfl, rfl, rfl⟩
  refine vs 2 ?_
  refine er ?_
  exact EK _ (aa hM).symm _ _ _ ⟨rfl, rfl, ay.sub ⟨rfl, rfl, rfl, trivial⟩⟩
 rintro K6 aGD aEJ aQp ⟨rfl, rfl, aqE⟩ hM
 refine At.sub aqE ?_
 refine sc hM (λ QB hM => ?_) (λ QB hM => ?_)
 ·refine sg aQ ?_
  refine vs 1 ?_
  refine er ?_
  obtain rfl := aa hM
  exact rt Tryz.func37 (.tmp rfl .nil) (so (so sr)) (hk _ _ _ ⟨rfl, rfl, rfl⟩)
 refine sp ?_
 refine sq ?_
 refine sg aQ ?_
 refine vs 1 ?_
 refine er ?_
 refine At.block ?_
 refine At.eR hM (λ (xN : Int) R' H' st' => R = R' ∧ H' = (n9, .cells #[iv x1.aD, iv x1.af.ao, iv x1.af.ax, jZ, iW, j0] 28) :: (p7, .cells #[iv x0.aD, iv x0.af.ao, iv x0.af.ax, aG, aI, aM] 28) :: H ∧ aF st' [(2, .pointer (some ⟨p7, 0, none⟩)), (3, .pointer (some ⟨n9, 0, none⟩)), (5, iv xN)]) (λ (sV : Unit) R' H' st' => R = R' ∧ H' = (n9, .cells #[iv x1.aD, iv x1.af.ao, iv x1.af.ax, jZ, iW, j0] 28) :: (p7, .cells #[iv x0.aD, iv x0.af.ao, iv x0.af.ax, aG, aI, aM] 28) :: H ∧ aF st' [(2, .pointer (some ⟨p7, 0, none⟩)), (3, .pointer (some ⟨n9, 0, none⟩))]) 0 rfl ⟨rfl, rfl, ay.sub ⟨rfl, rfl, rfl, trivial⟩⟩ ?_ ?_
 rotate_right
 ·rintro xN aFo aDr aOO ⟨rfl, rfl, ao2⟩ LJ hM aeW Jl KI
  refine At.sub ao2 ?_
  refine sq ?_
  refine sg cB ?_
  refine vs 2 ?_
  refine ld 3 dc z1 ?_
  refine ls aE Tryz.underlying24 ?_
  refine vs 1 ?_
  refine er ?_
  refine sc hM (λ FB hM => ?_) (λ FB hM => ?_)
  ·refine sp ?_
   refine sq ?_
   refine At.block ?_
   refine sq ?_
   obtain ⟨gK, Kc, hM⟩ := aj hM
   obtain ⟨gW, Kd, hM⟩ := aj hM
   refine At.cut (λ R' H' st' => R = R' ∧ ∃ (lq : Nat) (yL : Nat) (Dh : Value) (Di : Value), az CZ 1 R' Dh gK.On ∧ az CZ 1 R' Di gW.On ∧ H' = (yL, .cells #[.string gW.Name, iv gW.dg, iv gW.Weight.ao, iv gW.Weight.ax, Di] 58) :: (lq, .cells #[.string gK.Name, iv gK.dg, iv gK.Weight.ao, iv gK.Weight.ax, Dh] 58) :: (n9, .cells #[iv x1.aD, iv x1.af.ao, iv x1.af.ax, jZ, iW, j0] 28) :: (p7, .cells #[iv x0.aD, iv x0.af.ao, iv x0.af.ax, aG, aI, aM] 28) :: H ∧ aF st' [(2, .pointer (some ⟨p7, 0, none⟩)), (3, .pointer (some ⟨n9, 0, none⟩)), (5, iv xN), (6, .pointer (some ⟨lq, 0, none⟩)), (7, .pointer (some ⟨yL, 0, none⟩))]) ?_ ?_
   ·rintro aGF aEL aQs ⟨rfl, lq, yL, Dh, Di, Cf, Cg, rfl, aqH⟩
    refine At.sub aqH ?_
    refine sg abL ?_
    refine vs 1 ?_
    refine ld 0 sU z1 ?_
    refine vs 1 ?_
    refine ld 0 sU z0 ?_
    refine At.s rfl rfl (Ox.Nu rfl rfl rfl rfl rfl (.put rfl) ?_)
    refine vs 1 ?_
    refine bA hM (λ FC hM => ?_) (λ FC hM => ?_)
    ·refine At.kn 69 FC ?_
     refine vs 21 ?_
     refine er ?_
     refine At.cond_true rfl ?_
     refine sg aQ ?_
     refine vs 1 ?_
     refine er ?_
     replace hM := KI _ (aa hM).symm
     obtain rfl := aa hM
     exact rt Tryz.func37 (.tmp rfl .nil) (so (so (so (so sr)))) (hk _ _ _ ⟨rfl, rfl, rfl⟩)
    refine At.kn 69 FC ?_
    refine vs 1 ?_
    refine ld 1 aV z1 ?_
    refine vs 1 ?_
    refine ld 1 aV z0 ?_
    refine vs 3 ?_
    refine bA hM (λ FD hM => ?_) (λ FD hM => ?_)
    ·refine At.kn 76 FD ?_
     refine vs 14 ?_
     refine er ?_
     refine At.cond_true rfl ?_
     refine sg aQ ?_
     refine vs 1 ?_
     refine er ?_
     replace hM := KI _ (aa hM).symm
     obtain rfl := aa hM
     exact rt Tryz.func37 (.tmp rfl .nil) (so (so (so (so sr)))) (hk _ _ _ ⟨rfl, rfl, rfl⟩)
    refine At.kn 76 FD ?_
    refine vs 1 ?_
    refine lN [_, _] 2 2 fW z1 ?_
    refine vs 1 ?_
    refine lN [_, _] 2 2 fW z0 ?_
    refine At.s rfl rfl (Ox.Ja rfl rfl rfl Oh (N5 _ _) rfl rfl (.put rfl) ?_)
    refine vs 2 ?_
    refine bA hM (λ zw hM => ?_) (λ zw hM => ?_)
    ·refine At.kn 83 zw ?_
     refine vs 7 ?_
     refine er ?_
     refine At.cond_true rfl ?_
     refine sg aQ ?_
     refine vs 1 ?_
     refine er ?_
     replace hM := KI _ (aa hM).symm
     obtain rfl := aa hM
     exact rt Tryz.func37 (.tmp rfl .nil) (so (so (so (so sr)))) (hk _ _ _ ⟨rfl, rfl, rfl⟩)
    refine At.kn 83 zw ?_
    refine vs 1 ?_
    refine ld 4 cO z1 ?_
    refine vs 1 ?_
    refine ld 4 cO z0 ?_
    obtain ⟨HZ, ZO, hM⟩ := aj hM
    refine At.cv NV (Tv gK.On gW.On Cf.rd Cg.rd ZO) ?_
    rintro _ _ _ ⟨rfl, rfl, rfl⟩
    refine vs 2 ?_
    refine er ?_
    refine sc hM (λ zx hM => ?_) (λ zx hM => ?_)
    ·refine sg aQ ?_
     refine vs 1 ?_
     refine er ?_
     replace hM := KI _ (aa hM).symm
     obtain rfl := aa hM
     exact rt Tryz.func37 (.tmp rfl .nil) (so (so (so (so sr)))) (hk _ _ _ ⟨rfl, rfl, rfl⟩)
    refine sp ?_
    refine At.inBlock ?_
    refine At.rg aT ?_
    refine vs 3 ?_
    refine er ?_
    exact At.drop (so (so sr)) (aeW _ (aa hM).symm _ _ _ ⟨rfl, rfl, ay.sub ⟨rfl, rfl, rfl, trivial⟩⟩)
   intro Y3
   refine At.dw qR mixed ?_
   refine Any.vs 1 [0] rfl ?_
   refine tl 1 3 dc z1 ?_
   refine Any.vs 1 [2] rfl ?_
   obtain ⟨afU, azZ, _, ⟨Dh, Cf, rfl⟩, O4, Pt⟩ := aE.elem jD Kc
   refine Any.tk 3 rfl pp (λ R' H' hR hS => Ox.aX rfl rfl rfl Pt rfl (.one rfl) ⟨rfl, rfl, rfl⟩) ?_
   refine Any.tk 4 rfl pp (λ R' H' hR hS => Ox.ck (vs := [_, _, _, _, _]) rfl rfl kE rfl ((O4.up hR).part (j := 0) (n := 5) rfl) rfl (.one rfl) ⟨rfl, rfl, rfl⟩) ?_
   refine Any.vs 1 [5] rfl ?_
   refine tl 6 3 dc z0 ?_
   refine Any.vs 1 [7] rfl ?_
   obtain ⟨aIE, aND, _, ⟨Di, Cg, rfl⟩, ajE, al3⟩ := lA.elem jD Kd
   refine Any.tk 8 rfl pp (λ R' H' hR hS => Ox.aX rfl rfl rfl al3 rfl (.one rfl) ⟨rfl, rfl, rfl⟩) ?_
   refine Any.tk 9 rfl pp (λ R' H' hR hS => Ox.ck (vs := [_, _, _, _, _]) rfl rfl kE rfl ((ajE.up hR).part (j := 0) (n := 5) rfl) rfl (.one rfl) ⟨rfl, rfl, rfl⟩) ?_
   refine tw 10 11 ?_ ?_
   ·refine  (aP.to (Ox.alloc (cs := #[.string (⟨#[]⟩), iv 0, iv 0, iv 0, .slice none 0 0]) rfl vD rfl λ lq _ _ => ⟨_, (.put rfl), ⟨rr, (ku (so sr)), ?_⟩⟩))
    refine Any.on 11 rfl rfl (aP.to (Ox.alloc (cs := #[.string (⟨#[]⟩), iv 0, iv 0, iv 0, .slice none 0 0]) rfl vD rfl λ yL _ _ => ⟨_, (.put rfl), ⟨rr, (ku (so (so sr))), ?_⟩⟩))
    refine Any.on 12 rfl rfl (aP.to (Ox.bG (cs' := #[_, _, _, _, _]) rfl rfl rfl kE rfl (aq rfl (aq rfl (aq rfl (aq rfl (aq Cf.one aW))))) (.there .here) rfl rfl rfl (.refl _) ⟨rr, (ku (so (so sr))), ?_⟩))
    refine Any.on 13 rfl rfl (aP.to (Ox.bG (cs' := #[_, _, _, _, _]) rfl rfl rfl kE rfl (aq rfl (aq rfl (aq rfl (aq rfl (aq Cg.one aW))))) .here rfl rfl rfl (.refl _) ⟨rr, (ku (so (so sr))), ?_⟩))
    exact Any.done (Y3 _ _ _ ⟨rfl, lq, yL, Dh, Di, Cf, Cg, rfl, ay.sub ⟨rfl, rfl, rfl, rfl, rfl, trivial⟩⟩)
   refine  (aP.to (Ox.alloc (cs := #[.string (⟨#[]⟩), iv 0, iv 0, iv 0, .slice none 0 0]) rfl vD rfl λ yL _ _ => ⟨_, (.put rfl), ⟨rr, (ku (so sr)), ?_⟩⟩))
   refine Any.on 10 rfl rfl (aP.to (Ox.alloc (cs := #[.string (⟨#[]⟩), iv 0, iv 0, iv 0, .slice none 0 0]) rfl vD rfl λ lq _ _ => ⟨_, (.put rfl), ⟨rr, (ku (so (so sr))), ?_⟩⟩))
   refine Any.on 12 rfl rfl (aP.to (Ox.bG (cs' := #[_, _, _, _, _]) rfl rfl rfl kE rfl (aq rfl (aq rfl (aq rfl (aq rfl (aq Cf.one aW))))) .here rfl rfl rfl (.refl _) ⟨rr, (ku (so (so sr))), ?_⟩))
   refine Any.on 13 rfl rfl (aP.to (Ox.bG (cs' := #[_, _, _, _, _]) rfl rfl rfl kE rfl (aq rfl (aq rfl (aq rfl (aq rfl (aq Cg.one aW))))) (.there .here) rfl rfl rfl (.refl _) ⟨rr, (ku (so (so sr))), ?_⟩))
   exact Any.done (At.perm (aBE _ _ _) (Y3 _ _ _ ⟨rfl, lq, yL, Dh, Di, Cf, Cg, rfl, ay.sub ⟨rfl, rfl, rfl, rfl, rfl, trivial⟩⟩))
  exact At.exit rfl (Jl _ (aa hM).symm _ _ _ ⟨rfl, rfl, ay.sub ⟨rfl, rfl, trivial⟩⟩)
 rintro sV aex adD aBf ⟨rfl, rfl, Ql⟩ hM
 refine At.sub Ql ?_
 refine sq ?_
 refine sg aQ ?_
 refine vs 1 ?_
 refine er ?_
 refine At.block ?_
 refine At.eR hM (λ (AN : Int) R' H' st' => R = R' ∧ H' = (n9, .cells #[iv x1.aD, iv x1.af.ao, iv x1.af.ax, jZ, iW, j0] 28) :: (p7, .cells #[iv x0.aD, iv x0.af.ao, iv x0.af.ax, aG, aI, aM] 28) :: H ∧ aF st' [(2, .pointer (some ⟨p7, 0, none⟩)), (3, .pointer (some ⟨n9, 0, none⟩)), (8, iv AN)]) (λ (abr : Unit) R' H' st' => R = R' ∧ H = H' ∧ aF st' []) 2 rfl ⟨rfl, rfl, ay.sub ⟨rfl, rfl, rfl, trivial⟩⟩ ?_ ?_
 rotate_right
 ·rintro AN aFw aDz aOW ⟨rfl, rfl, apa⟩ gL hM ae0 ahM azN
  refine At.sub apa ?_
  refine sq ?_
  refine sg cB ?_
  refine vs 2 ?_
  refine ld 5 fu z1 ?_
  refine ls aL Tryz.underlying26 ?_
  refine vs 1 ?_
  refine er ?_
  refine sc hM (λ arc hM => ?_) (λ arc hM => ?_)
  ·refine sp ?_
   refine sq ?_
   refine At.block ?_
   refine sq ?_
   refine At.dw xK mixed ?_
   refine Any.vs 1 [0] rfl ?_
   refine tl 1 5 fu z1 ?_
   refine Any.vs 1 [2] rfl ?_
   obtain ⟨yb, R7, hM⟩ := aj hM
   obtain ⟨A5, R8, hM⟩ := aj hM
   obtain ⟨afV, az0, _, rfl, O5, Pu⟩ := aL.elem AP R7
   refine Any.tk 3 rfl pp (λ R' H' hR hS => Ox.aX rfl rfl rfl Pu rfl (.one rfl) ⟨rfl, rfl, rfl⟩) ?_
   refine Any.tk 4 rfl pp (λ R' H' hR hS => Ox.ck (vs := [_, _]) rfl rfl rM rfl ((O5.up hR).part (j := 0) (n := 2) rfl) rfl (.one rfl) ⟨rfl, rfl, rfl⟩) ?_
   refine Any.vs 1 [5] rfl ?_
   refine tl 6 5 fu z0 ?_
   refine Any.vs 1 [7] rfl ?_
   obtain ⟨aIK, aNH, _, rfl, ajI, al9⟩ := lC.elem AP R8
   refine Any.tk 8 rfl pp (λ R' H' hR hS => Ox.aX rfl rfl rfl al9 rfl (.one rfl) ⟨rfl, rfl, rfl⟩) ?_
   refine Any.tk 9 rfl pp (λ R' H' hR hS => Ox.ck (vs := [_, _]) rfl rfl rM rfl ((ajI.up hR).part (j := 0) (n := 2) rfl) rfl (.one rfl) ⟨rfl, rfl, rfl⟩) ?_
   refine Any.tk 10 rfl pp (λ R' H' hR hS => Ox.Ja rfl rfl rfl aiG (ahD _ _) rfl rfl (.one rfl) ⟨rfl, rfl, rfl⟩) ?_
   refine Any.done ?_
   refine sc hM (λ QG hM => ?_) (λ QG hM => ?_)
   ·refine sg aQ ?_
    refine vs 1 ?_
    refine er ?_
    replace hM := azN _ (aa hM).symm
    obtain rfl := aa hM
    exact rt Tryz.func37 (.tmp rfl .nil) (so (so sr)) (hk _ _ _ ⟨rfl, rfl, rfl⟩)
   refine sp ?_
   refine At.inBlock ?_
   refine At.rg aT ?_
   refine vs 3 ?_
   refine er ?_
   exact ae0 _ (aa hM).symm _ _ _ ⟨rfl, rfl, ay.sub ⟨rfl, rfl, rfl, trivial⟩⟩
  exact At.exit rfl (At.drop (so (so sr)) (ahM _ (aa hM).symm _ _ _ ⟨rfl, rfl, ay.sub trivial⟩))
 rintro abr aFx aDA aOX ⟨rfl, rfl, apb⟩ hM
 refine At.sub apb ?_
 refine sg aQ ?_
 refine vs 1 ?_
 refine er ?_
 obtain rfl := aa hM
 exact rt Tryz.func37 (.tmp rfl .nil) sr (hk _ _ _ ⟨rfl, rfl, rfl⟩)
theorem ado (x0 : av) (x1 : Int) (x2 : Reach) {aG aI aM : Value} (aE : az bI 5 R aG x0.au) (aJ : az CZ 1 R aI x0.Out) (aL : az bB 2 R aM x0.aU) {r : av} (hM : CO x0 x1 x2 = some r) : aB ah 46 #[.agg #[iv x0.aD, iv x0.af.ao, iv x0.af.ax, aG, aI, aM], iv x1, .agg #[iv x2.ao, iv x2.ax]] R H (λ v R' H' => aO R R' ∧ H = H' ∧ ∃ gf gh gk, az bI 5 R' gf r.au ∧ az CZ 1 R' gh r.Out ∧ az bB 2 R' gk r.aU ∧ v = .agg #[iv r.aD, iv r.af.ao, iv r.af.ax, gf, gh, gk]) := by
 unfold CO at hM
 refine aB.bk Tryz.func46 rfl (n := 19) rfl rfl λ fr cs hk => ?_
 refine sg aT ?_
 refine bx λ g9 => ?_
 refine bx λ jk => ?_
 refine At.s rfl rfl (Ox.alloc (cs := #[iv 0, iv 0, iv 0, .slice none 0 0, .slice none 0 0, .slice none 0 0]) rfl nY rfl λ ia _ _ => ⟨_, (.put rfl), ?_⟩)
 refine nx c6 ?_
 refine At.s rfl rfl (Ox.buildSlice (cells := #[]) rfl ND rfl (by decide) WG bD rfl λ kH _ _ => ⟨_, (.put rfl), ?_⟩)
 refine vs 1 ?_
 refine ld 3 dc z3 ?_
 obtain ⟨eE, ot, hM⟩ := aj hM
 refine At.s rfl rfl (Ox.append (K := bI) (λ X => X ++ ((ia, _) :: (jk, _) :: (g9, _) :: H)) rfl rfl rfl Wy Tryz.underlying24 (by simp) .id (bg.lit (aK.le aK.nil rfl) rfl) aE.arg ot rfl λ Uu pW Cc => ⟨_, (.put rfl), ?_⟩)
 refine vs 1 ?_
 refine At.s rfl rfl (Ox.cI (cs' := #[_, _, _, _, _, _]) rfl rfl rfl dc Cc.one (.skip (.there (.there .here))) rfl rfl rfl (.refl _) ?_)
 refine nx fe ?_
 refine vs 1 ?_
 refine ld 3 dc (List.mem_append_right _ z2) ?_
 refine vs 1 ?_
 refine lN [_, _] 0 2 fW (List.mem_append_right _ z1) ?_
 obtain ⟨gZ, uF, hM⟩ := aj hM
 obtain ⟨aJp, aKG, _, ⟨aCh, auA, rfl⟩, rfl, aLx, alw, amN, aL9, av7, asE⟩ := Cc.eu jD uF
 refine At.s rfl rfl (Ox.aX rfl rfl rfl amN rfl (.put rfl) ?_)
 refine vs 1 ?_
 refine At.s rfl rfl (Ox.eC (K := bI) (k := 5) (e := 58) (i := x1) (x' := (⟨gZ.Name, gZ.dg, ⟨x2.ao, x2.ax⟩, gZ.On⟩ : cG)) (pre := [.string gZ.Name, iv gZ.dg]) (mid := [iv gZ.Weight.ao, iv gZ.Weight.ax]) (post := [aCh]) .id rfl rfl rfl rfl abU rfl (aq rfl (aq rfl aW)) alw rfl rfl rfl av7 asE ⟨_, auA, rfl⟩ rfl (.refl _) λ aE7 Zp => ?_)
 refine nx aR ?_
 refine lN [_, _, _, _, _, _] 0 6 bp (List.mem_append_right _ z2) ?_
 refine At.s rfl rfl (Ox.bG (cs' := #[_, _, _, _, _, _]) rfl rfl rfl bp rfl (aq rfl (aq rfl (aq rfl (aq Zp.one (aq aJ.one (aq aL.one aW)))))) (.skip .here) rfl rfl rfl (.refl _) ?_)
 refine er ?_
 refine At.fY (H2 := (ia, _) :: (jk, _) :: (g9, _) :: H) (λ X => X ++ ((ia, _) :: (jk, _) :: (g9, _) :: H)) .id rfl Zp (λ aeK EV Pj => ?_)
 replace aJ := aJ.mono EV
 replace aL := aL.mono EV
 obtain rfl := aa hM
 exact rt Tryz.func46 (.agg rfl bp rfl (aS.box z0) .nil) (so (so (so sr))) (hk _ _ _ ⟨EV, rfl, Uu, aI, aM, Pj, aJ, aL, rfl⟩)
theorem ay0 (x0 : av) {aG aI aM : Value} (aE : az bI 5 R aG x0.au) (aJ : az CZ 1 R aI x0.Out) (aL : az bB 2 R aM x0.aU) {r : Bool} (hM : CN x0 = some r) : aB ah 42 #[.agg #[iv x0.aD, iv x0.af.ao, iv x0.af.ax, aG, aI, aM]] R H (λ v R' H' => R = R' ∧ H = H' ∧ v = .bool r) := by
 unfold CN at hM
 refine aB.bk Tryz.func42 rfl (n := 11) rfl rfl λ fr cs hk => ?_
 refine sg aR ?_
 refine bx λ rN => ?_
 refine vs 1 ?_
 refine nx iG ?_
 refine lN [_, _, _, _, _, _] 0 6 bp z0 ?_
 obtain ⟨fB, mH, hM⟩ := aj hM
 refine At.cv ag5 (ayC x0 aE aJ aL mH) ?_
 rintro _ _ _ ⟨rfl, rfl, rfl⟩
 refine vs 2 ?_
 refine bA hM (λ om hM => ?_) (λ om hM => ?_)
 ·refine At.kn 6 om ?_
  refine lN [_, _, _, _, _, _] 0 6 bp z0 ?_
  obtain ⟨k6, zK, hM⟩ := aj hM
  refine At.cv ahv (ay6 x0 aE aJ aL zK) ?_
  rintro _ _ _ ⟨rfl, rfl, rfl⟩
  refine vs 3 ?_
  refine er ?_
  obtain rfl := aa hM
  exact rt Tryz.func42 (.tmp rfl .nil) (so sr) (hk _ _ _ ⟨rfl, rfl, rfl⟩)
 refine At.kn 6 om ?_
 refine vs 5 ?_
 refine er ?_
 obtain rfl := aa hM
 exact rt Tryz.func42 (.tmp rfl .nil) (so sr) (hk _ _ _ ⟨rfl, rfl, rfl⟩)
end
end Go.Proofs.YtabamagholjdcaaGreatDoor
