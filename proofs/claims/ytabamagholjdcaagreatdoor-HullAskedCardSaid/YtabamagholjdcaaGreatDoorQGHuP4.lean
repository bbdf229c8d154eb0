/- Walks, part 4: each function computes its model. -/
import Derived.Test.YtabamagholjdcaaGreatDoorQGHuP3
namespace Go.Proofs.YtabamagholjdcaaGreatDoor
open Go.Lg Go.Proofs
set_option maxRecDepth 100000
set_option maxHeartbeats 4000000
section
variable {B : Base} {main : Bool} {ah : Jd Tryz.prog B main} {R : aA} {H : ak}
theorem ayX (x0 : av) {aG aI aM : Value} (hG : fG R) (aE : az bI 5 R aG x0.au) (aJ : az CZ 1 R aI x0.Out) (aL : az bB 2 R aM x0.aU) {r : ((List Int) × Int)} (hM : CJ x0 = some r) : aB ah 31 #[.agg #[iv x0.aD, iv x0.af.ao, iv x0.af.ax, aG, aI, aM]] R H (λ v R' H' => aO R R' ∧ H = H' ∧ ∃ eP, az CZ 1 R' eP r.1 ∧ v = .tuple #[eP, iv r.2]) := by
 unfold CJ at hM
 refine aB.bk Tryz.func31 rfl (n := 86) rfl rfl λ fr cs hk => ?_
 refine sg aT ?_
 refine bx λ gO => ?_
 refine vs 2 ?_
 refine es ?_
 refine sg aT ?_
 refine lN [_, _, _, _, _, _] 0 6 bp z0 ?_
 obtain ⟨UI, atG, hM⟩ := aj hM
 refine At.cv tZ (uT x0 hG aE aJ aL atG) ?_
 rintro _ aHs _ ⟨y4, rfl, rfl⟩
 replace aE := aE.mono y4
 replace aJ := aJ.mono y4
 replace aL := aL.mono y4
 refine vs 1 ?_
 refine nx aR ?_
 refine vs 2 ?_
 refine er ?_
 refine sc hM (λ arf hM => ?_) (λ arf hM => ?_)
 ·refine sg aT ?_
  refine vs 3 ?_
  refine er ?_
  obtain rfl := aa hM
  exact rt Tryz.func31 (.tmp rfl (.tmp rfl .nil)) (so sr) (hk _ _ _ ⟨y4, rfl, .slice none 0 0, az.nil, rfl⟩)
 refine sp ?_
 refine sg bw ?_
 refine lN [_, _, _, _, _, _] 0 6 bp z0 ?_
 refine At.s rfl rfl (Ox.build (cells := #[_, _, _, _, _, _]) rfl pK rfl (bq rfl rfl rfl rfl bD) rfl (.put rfl) ?_)
 refine At.s rfl rfl (Ox.alloc (cs := #[iv 0, iv 0, iv 0, .slice none 0 0, .slice none 0 0, .slice none 0 0]) rfl Vc rfl λ gP _ _ => ⟨_, (.put rfl), ?_⟩)
 refine At.s rfl rfl (Ox.bG (cs' := #[_, _, _, _, _, _]) rfl rfl rfl dS rfl (aq rfl (aq rfl (aq rfl (aq aE.one (aq aJ.one (aq aL.one aW)))))) .here rfl rfl rfl (.refl _) ?_)
 refine es ?_
 refine sg aR ?_
 refine lN [_, _, _, _, _, _] 0 6 dS z0 ?_
 obtain ⟨jG, Sc, hM⟩ := aj hM
 refine At.cv NI (Te x0 aE aJ aL Sc) ?_
 rintro _ V4 _ ⟨B4, rfl, rfl⟩
 replace aE := aE.mono B4
 replace aJ := aJ.mono B4
 replace aL := aL.mono B4
 refine er ?_
 refine sc hM (λ FF hM => ?_) (λ FF hM => ?_)
 ·refine sg aR ?_
  refine vs 2 ?_
  refine er ?_
  obtain rfl := aa hM
  exact rt Tryz.func31 (.tmp rfl (.tmp rfl .nil)) (so (so sr)) (hk _ _ _ ⟨(y4.trans B4), rfl, .slice none 0 0, az.nil, rfl⟩)
 refine sp ?_
 refine sg aQ ?_
 refine vs 1 ?_
 refine es ?_
 refine sg cB ?_
 refine vs 1 ?_
 refine ld 5 fu z1 ?_
 refine ls aL Tryz.underlying26 ?_
 obtain ⟨vw, Sd, hM⟩ := aj hM
 refine At.s rfl rfl (Ox.shl rfl rfl rfl Sd rfl (.put rfl) ?_)
 refine vs 1 ?_
 refine er ?_
 refine At.block ?_
 refine At.eI hM (λ (dJ : ((List (List Int)) × Int)) R' H' st' => aO V4 R' ∧ ∃ x7 fh, bg (vH CZ 1) 1 25 R' x7 dJ.1 fh ∧ H' = fh ++ ((gP, .cells #[iv x0.aD, iv x0.af.ao, iv x0.af.ax, aG, aI, aM] 102) :: (gO, .cells #[iv x0.aD, iv x0.af.ao, iv x0.af.ax, aG, aI, aM] 28) :: H) ∧ aF st' [(1, .pointer (some ⟨gO, 0, none⟩)), (5, .pointer (some ⟨gP, 0, none⟩)), (6, x7), (27, iv vw), (28, iv dJ.2)]) (λ (lO : (List (List Int))) R' H' st' => aO V4 R' ∧ ∃ Ll rK, bg (vH CZ 1) 1 25 R' Ll lO rK ∧ H' = rK ++ (H) ∧ aF st' [(6, Ll)]) 0 rfl ⟨rr, .slice none 0 0, [], bg.nil, rfl, ay.sub ⟨rfl, rfl, rfl, rfl, rfl, trivial⟩⟩ ?_ ?_
 rotate_right
 ·rintro dJ IC adE aBg ⟨BY, x7, fh, uu, rfl, Qm⟩ aCO hM IL N7
  refine At.sub Qm ?_
  replace aE := aE.mono BY
  replace aJ := aJ.mono BY
  replace aL := aL.mono BY
  refine sg aQ ?_
  refine vs 1 ?_
  refine es ?_
  refine sc hM (λ arC hM => ?_) (λ arC hM => ?_)
  ·refine sp ?_
   refine sq ?_
   refine At.block ?_
   refine sg aR ?_
   refine vs 2 ?_
   refine nx aQ ?_
   refine vs 1 ?_
   refine nx aT ?_
   refine lN [_, _, _, _, _, _] 0 6 dS (List.mem_append_right _ z0) ?_
   refine At.s rfl rfl (Ox.alloc (cs := #[iv 0, iv 0, iv 0, .slice none 0 0, .slice none 0 0, .slice none 0 0]) rfl Vc rfl λ ja _ _ => ⟨_, (.put rfl), ?_⟩)
   refine At.s rfl rfl (Ox.bG (cs' := #[_, _, _, _, _, _]) rfl rfl rfl dS rfl (aq rfl (aq rfl (aq rfl (aq aE.one (aq aJ.one (aq aL.one aW)))))) .here rfl rfl rfl (.refl _) ?_)
   refine nx aT ?_
   refine vs 2 ?_
   refine At.s rfl rfl (Ox.cI (cs' := #[_, _, _, _, _, _]) rfl rfl rfl fu rfl .here rfl rfl rfl (.refl _) ?_)
   refine es ?_
   refine sg bw ?_
   refine vs 1 ?_
   refine At.ld fu ((aS.box (.tail _ (List.mem_append_right _ z1))).one (j := 5) rfl) ?_
   refine ls aL Tryz.underlying26 ?_
   refine vs 1 ?_
   refine er ?_
   refine At.block ?_
   refine At.eI hM (λ (jh : ((List Int) × Int × (List cF))) R' H' st' => IC = R' ∧ ∃ Hl BC vh pV, bg CZ 1 3 R' Hl jh.1 BC ∧ bg bB 2 47 R' vh jh.2.2 pV ∧ H' = BC ++ (pV ++ ((ja, .cells #[iv x0.aD, iv x0.af.ao, iv x0.af.ax, aG, aI, vh] 102) :: fh ++ ((gP, .cells #[iv x0.aD, iv x0.af.ao, iv x0.af.ax, aG, aI, aM] 102) :: (gO, .cells #[iv x0.aD, iv x0.af.ao, iv x0.af.ax, aG, aI, aM] 28) :: H))) ∧ aF st' [(1, .pointer (some ⟨gO, 0, none⟩)), (5, .pointer (some ⟨gP, 0, none⟩)), (6, x7), (7, iv dJ.2), (8, Hl), (9, .pointer (some ⟨ja, 0, none⟩)), (27, iv vw), (28, iv dJ.2), (35, aM), (36, iv (x0.aU.length : Int)), (37, iv jh.2.1)]) (λ (xJ : ((List Int) × (List cF))) R' H' st' => IC = R' ∧ ∃ Ul D5 Um Mu, bg CZ 1 3 R' Ul xJ.1 D5 ∧ bg bB 2 47 R' Um xJ.2 Mu ∧ H' = D5 ++ (Mu ++ ((ja, .cells #[iv x0.aD, iv x0.af.ao, iv x0.af.ax, aG, aI, Um] 102) :: fh ++ ((gP, .cells #[iv x0.aD, iv x0.af.ao, iv x0.af.ax, aG, aI, aM] 102) :: (gO, .cells #[iv x0.aD, iv x0.af.ao, iv x0.af.ax, aG, aI, aM] 28) :: H))) ∧ aF st' [(1, .pointer (some ⟨gO, 0, none⟩)), (5, .pointer (some ⟨gP, 0, none⟩)), (6, x7), (8, Ul), (9, .pointer (some ⟨ja, 0, none⟩)), (27, iv vw), (28, iv dJ.2)]) 2 rfl ⟨rfl, .slice none 0 0, [], .slice none 0 0, [], bg.nil, bg.nil, rfl, ay.sub ⟨rfl, rfl, rfl, rfl, rfl, rfl, rfl, rfl, rfl, rfl, rfl, trivial⟩⟩ ?_ ?_
   rotate_right
   ·rintro jh aF2 aD5 aPv ⟨rfl, Hl, BC, vh, pV, Fc, Fe, rfl, apK⟩ DF hM Wl ahV
    refine At.sub apK ?_
    refine sg aQ ?_
    refine vs 1 ?_
    refine es ?_
    refine sc hM (λ arD hM => ?_) (λ arD hM => ?_)
    ·refine sp ?_
     refine sq ?_
     refine At.block ?_
     refine sg c6 ?_
     refine vs 1 ?_
     obtain ⟨mW, auC, hM⟩ := aj hM
     obtain ⟨aJr, aOc, _, rfl, akc, amP⟩ := aL.elem AP auC
     refine At.s rfl rfl (Ox.aX rfl rfl rfl amP rfl (.put rfl) ?_)
     refine At.s rfl rfl (Ox.ck (vs := [_, _]) rfl rfl rM rfl (akc.any.part (j := 0) (n := 2) rfl) rfl (.put rfl) ?_)
     refine At.s rfl rfl (Ox.alloc (cs := #[iv 0, iv 0]) rfl adh rfl λ p5 _ _ => ⟨_, (.put rfl), ?_⟩)
     refine vs 1 ?_
     refine At.s rfl rfl (Ox.bG (cs' := #[_, _]) rfl rfl rfl rM rfl (aq rfl (aq rfl aW)) .here rfl rfl rfl (.refl _) ?_)
     refine nx cB ?_
     refine vs 2 ?_
     obtain ⟨UT, auJ, hM⟩ := aj hM
     refine At.s rfl rfl (Ox.shr rfl rfl rfl auJ rfl (.put rfl) ?_)
     obtain ⟨UU, auK, hM⟩ := aj hM
     refine At.s rfl rfl (Ox.bits rfl rfl rfl auK rfl (.put rfl) ?_)
     refine vs 1 ?_
     refine er ?_
     refine sc hM (λ arF hM => ?_) (λ arF hM => ?_)
     ·obtain ⟨UW, Sv, hM⟩ := aj hM
      obtain ⟨UX, Sw, hM⟩ := aj hM
      refine At.cut (λ R' H' st' => IC = R' ∧ ∃ (tf : Value) (n4 : ak) (tj : Value) (rL : ak), bg CZ 1 3 R' tf UW n4 ∧ bg bB 2 47 R' tj UX rL ∧ H' = n4 ++ (rL ++ ((ja, .cells #[iv x0.aD, iv x0.af.ao, iv x0.af.ax, aG, aI, tj] 102) :: fh ++ ((gP, .cells #[iv x0.aD, iv x0.af.ao, iv x0.af.ax, aG, aI, aM] 102) :: (gO, .cells #[iv x0.aD, iv x0.af.ao, iv x0.af.ax, aG, aI, aM] 28) :: H))) ∧ aF st' [(1, .pointer (some ⟨gO, 0, none⟩)), (5, .pointer (some ⟨gP, 0, none⟩)), (6, x7), (7, iv dJ.2), (8, tf), (9, .pointer (some ⟨ja, 0, none⟩)), (27, iv vw), (28, iv dJ.2), (35, aM), (36, iv (x0.aU.length : Int)), (37, iv jh.2.1)]) ?_ ?_
      ·rintro aGJ aEP aQw ⟨rfl, tf, n4, tj, rL, zn, r7, rfl, aqL⟩
       refine At.sub aqL ?_
       refine At.inBlock ?_
       refine At.rg aR ?_
       refine vs 2 ?_
       refine er ?_
       exact Wl _ (aa hM).symm _ _ _ ⟨rfl, tf, n4, tj, rL, zn, r7, rfl, ay.sub ⟨rfl, rfl, rfl, rfl, rfl, rfl, rfl, rfl, rfl, rfl, rfl, trivial⟩⟩
      intro OY
      refine At.draw (n := 14) (is := [0, 1, 2, 3, 4, 5, 6, 7, 8, 9, 10, 11, 12, 13]) (many ((p5, .cells #[iv mW.dN, iv mW.dX] 47) :: BC ++ (pV ++ ((ja, .cells #[iv x0.aD, iv x0.af.ao, iv x0.af.ax, aG, aI, vh] 102) :: fh ++ ((gP, .cells #[iv x0.aD, iv x0.af.ao, iv x0.af.ax, aG, aI, aM] 102) :: (gO, .cells #[iv x0.aD, iv x0.af.ao, iv x0.af.ax, aG, aI, aM] 28) :: H)))) [(3, (p5, .cells #[iv mW.dN, iv mW.dX] 47) :: pV ++ ((ja, .cells #[iv x0.aD, iv x0.af.ao, iv x0.af.ax, aG, aI, vh] 102) :: fh ++ ((gP, .cells #[iv x0.aD, iv x0.af.ao, iv x0.af.ax, aG, aI, aM] 102) :: (gO, .cells #[iv x0.aD, iv x0.af.ao, iv x0.af.ax, aG, aI, aM] 28) :: H))), (8, (p5, .cells #[iv mW.dN, iv mW.dX] 47) :: pV ++ ((ja, .cells #[iv x0.aD, iv x0.af.ao, iv x0.af.ax, aG, aI, vh] 102) :: fh ++ ((gP, .cells #[iv x0.aD, iv x0.af.ao, iv x0.af.ax, aG, aI, aM] 102) :: (gO, .cells #[iv x0.aD, iv x0.af.ao, iv x0.af.ax, aG, aI, aM] 28) :: H))), (9, (p5, .cells #[iv mW.dN, iv mW.dX] 47) :: (ja, .cells #[iv x0.aD, iv x0.af.ao, iv x0.af.ax, aG, aI, vh] 102) :: fh ++ ((gP, .cells #[iv x0.aD, iv x0.af.ao, iv x0.af.ax, aG, aI, aM] 102) :: (gO, .cells #[iv x0.aD, iv x0.af.ao, iv x0.af.ax, aG, aI, aM] 28) :: H)), (13, (p5, .cells #[iv mW.dN, iv mW.dX] 47) :: fh ++ ((gP, .cells #[iv x0.aD, iv x0.af.ao, iv x0.af.ax, aG, aI, aM] 102) :: (gO, .cells #[iv x0.aD, iv x0.af.ao, iv x0.af.ax, aG, aI, aM] 28) :: H))]) mixed rfl (by decide +kernel) rfl rfl ?_
      refine Any.vs 4 [0, 1, 4, 5] rfl ?_
      refine ts 6 [9, 10, 11, 12, 13] rfl (GZ (su (so (aH (sk (aH (so (so sr))))))) (GZ (su (so (aH (sk (aH (so (so sr))))))) (aN rfl (aN rfl (bf (su (so (aH (aH (sk (aH (so (so sr))))))))))))) (su (so (aH (aH (sk (aH (so (so sr)))))))) (λ R' H' hR hS => Ox.bu rfl rfl fu ((aS.box (hS _ z0)).one (j := 5) rfl) rfl (.one rfl) ⟨rfl, rfl, rfl⟩) ?_
      refine ts 7 [8, 9, 10, 11, 12, 13] rfl (GZ (su (sk (aH (so (aH (so (so sr))))))) (aN rfl (aN rfl (aN rfl (bf (su (sk (aH (aH (so (aH (so (so sr))))))))))))) (su (sk (aH (aH (so (aH (so (so sr)))))))) (λ R' H' hR hS => Ox.ck (vs := [_, _]) rfl rfl rM rfl ((aS.box (hS _ z0)).part (j := 0) (n := 2) rfl) rfl (.one rfl) ⟨rfl, rfl, rfl⟩) ?_
      refine tw 2 8 ?_ ?_
      ·refine  (aP.to (Ox.buildSlice (cells := #[_]) rfl cW rfl (by decide) en (bq rfl rfl rfl rfl bD) rfl λ yN _ _ => ⟨_, (.put rfl), ⟨rr, (bL rfl (su (so sr))), ?_⟩⟩))
       refine tw 3 8 ?_ ?_
       ·refine  (aP.to (Ox.append (K := CZ) (λ X => (yN, _) :: (p5, _) :: X ++ (pV ++ ((ja, _) :: fh ++ ((gP, _) :: (gO, _) :: H)))) rfl rfl rfl iZ Tryz.underlying25 (by simp) (.cons (.cons .id)) Fc (dR.lit z0 (aK.le (aK.cons (x := jh.2.1) rfl rfl aK.nil) rfl) rfl) Sv rfl λ tf n4 zn => ⟨_, (.put rfl), ⟨rr, (bL rfl (su (so (sk (aH sr))))), ?_⟩⟩))
        refine Any.on 8 rfl rfl (aP.to (Ox.buildSlice (cells := #[_, _]) rfl qb rfl (by decide) vT (bq rfl rfl rfl rfl bD) rfl λ yO _ _ => ⟨_, (.put rfl), ⟨rr, (bL rfl (su (so (so (sk (aH sr)))))), ?_⟩⟩))
        refine Any.on 9 rfl rfl (aP.to (Ox.append (K := bB) (λ X => (yO, _) :: (yN, _) :: (p5, _) :: n4 ++ (X ++ ((ja, _) :: fh ++ ((gP, _) :: (gO, _) :: H)))) rfl rfl rfl oY Tryz.underlying26 (by simp) (.cons (.cons (.cons (.app .id)))) Fe (dR.lit z0 (aK.le (aK.cons (x := mW) rfl rfl aK.nil) rfl) rfl) Sw rfl λ tj rL r7 => ⟨_, (.put rfl), ⟨rr, (bL rfl (su (so (so (sk (aH (aH sr))))))), ?_⟩⟩))
        refine Any.vs 3 [10, 11, 12] rfl ?_
        refine Any.on 13 rfl rfl (aP.to (Ox.cI (cs' := #[_, _, _, _, _, _]) rfl rfl rfl fu r7.one (.there (.there (.there (.skip (.skip .here))))) rfl rfl rfl (.refl _) ⟨rr, (bL rfl (su (so (so (sk (aH (aH (so sr)))))))), ?_⟩))
        exact Any.done (At.drop (so (so (so sr))) (OY _ _ _ ⟨rfl, tf, n4, tj, rL, zn, r7, rfl, ay.sub ⟨rfl, rfl, rfl, rfl, rfl, rfl, rfl, rfl, rfl, rfl, rfl, trivial⟩⟩))
       refine  (aP.to (Ox.buildSlice (cells := #[_, _]) rfl qb rfl (by decide) vT (bq rfl rfl rfl rfl bD) rfl λ yO _ _ => ⟨_, (.put rfl), ⟨rr, (bL rfl (su (so (so (sk (aH sr)))))), ?_⟩⟩))
       refine Any.on 3 rfl rfl (aP.to (Ox.append (K := CZ) (λ X => (yO, _) :: (yN, _) :: (p5, _) :: X ++ (pV ++ ((ja, _) :: fh ++ ((gP, _) :: (gO, _) :: H)))) rfl rfl rfl iZ Tryz.underlying25 (by simp) (.cons (.cons (.cons .id))) Fc (dR.lit z1 (aK.le (aK.cons (x := jh.2.1) rfl rfl aK.nil) rfl) rfl) Sv rfl λ tf n4 zn => ⟨_, (.put rfl), ⟨rr, (bL rfl (su (so (so (sk (aH sr)))))), ?_⟩⟩))
       refine Any.on 9 rfl rfl (aP.to (Ox.append (K := bB) (λ X => (yO, _) :: (yN, _) :: (p5, _) :: n4 ++ (X ++ ((ja, _) :: fh ++ ((gP, _) :: (gO, _) :: H)))) rfl rfl rfl oY Tryz.underlying26 (by simp) (.cons (.cons (.cons (.app .id)))) Fe (dR.lit z0 (aK.le (aK.cons (x := mW) rfl rfl aK.nil) rfl) rfl) Sw rfl λ tj rL r7 => ⟨_, (.put rfl), ⟨rr, (bL rfl (su (so (so (sk (aH (aH sr))))))), ?_⟩⟩))
       refine Any.vs 3 [10, 11, 12] rfl ?_
       refine Any.on 13 rfl rfl (aP.to (Ox.cI (cs' := #[_, _, _, _, _, _]) rfl rfl rfl fu r7.one (.there (.there (.there (.skip (.skip .here))))) rfl rfl rfl (.refl _) ⟨rr, (bL rfl (su (so (so (sk (aH (aH (so sr)))))))), ?_⟩))
       exact Any.done (At.drop (so (so (so sr))) (OY _ _ _ ⟨rfl, tf, n4, tj, rL, zn, r7, rfl, ay.sub ⟨rfl, rfl, rfl, rfl, rfl, rfl, rfl, rfl, rfl, rfl, rfl, trivial⟩⟩))
      refine  (aP.to (Ox.buildSlice (cells := #[_, _]) rfl qb rfl (by decide) vT (bq rfl rfl rfl rfl bD) rfl λ yO _ _ => ⟨_, (.put rfl), ⟨rr, (bL rfl (su (so (sk (aH sr))))), ?_⟩⟩))
      refine Any.on 2 rfl rfl (aP.to (Ox.buildSlice (cells := #[_]) rfl cW rfl (by decide) en (bq rfl rfl rfl rfl bD) rfl λ yN _ _ => ⟨_, (.put rfl), ⟨rr, (bL rfl (su (so (so sr)))), ?_⟩⟩))
      refine Any.on 3 rfl rfl (aP.to (Ox.append (K := CZ) (λ X => (yN, _) :: (yO, _) :: (p5, _) :: X ++ (pV ++ ((ja, _) :: fh ++ ((gP, _) :: (gO, _) :: H)))) rfl rfl rfl iZ Tryz.underlying25 (by simp) (.cons (.cons (.cons .id))) Fc (dR.lit z0 (aK.le (aK.cons (x := jh.2.1) rfl rfl aK.nil) rfl) rfl) Sv rfl λ tf n4 zn => ⟨_, (.put rfl), ⟨rr, (bL rfl (su (so (so (sk (aH sr)))))), ?_⟩⟩))
      refine Any.on 9 rfl rfl (aP.to (Ox.append (K := bB) (λ X => (yN, _) :: (yO, _) :: (p5, _) :: n4 ++ (X ++ ((ja, _) :: fh ++ ((gP, _) :: (gO, _) :: H)))) rfl rfl rfl oY Tryz.underlying26 (by simp) (.cons (.cons (.cons (.app .id)))) Fe (dR.lit z1 (aK.le (aK.cons (x := mW) rfl rfl aK.nil) rfl) rfl) Sw rfl λ tj rL r7 => ⟨_, (.put rfl), ⟨rr, (bL rfl (su (so (so (sk (aH (aH sr))))))), ?_⟩⟩))
      refine Any.vs 3 [10, 11, 12] rfl ?_
      refine Any.on 13 rfl rfl (aP.to (Ox.cI (cs' := #[_, _, _, _, _, _]) rfl rfl rfl fu r7.one (.there (.there (.there (.skip (.skip .here))))) rfl rfl rfl (.refl _) ⟨rr, (bL rfl (su (so (so (sk (aH (aH (so sr)))))))), ?_⟩))
      exact Any.done (At.drop (so (so (so sr))) (OY _ _ _ ⟨rfl, tf, n4, tj, rL, zn, r7, rfl, ay.sub ⟨rfl, rfl, rfl, rfl, rfl, rfl, rfl, rfl, rfl, rfl, rfl, trivial⟩⟩))
     refine sp ?_
     refine At.inBlock ?_
     refine At.rg aR ?_
     refine vs 2 ?_
     refine er ?_
     exact At.drop (so sr) (Wl _ (aa hM).symm _ _ _ ⟨rfl, Hl, BC, vh, pV, Fc, Fe, rfl, ay.sub ⟨rfl, rfl, rfl, rfl, rfl, rfl, rfl, rfl, rfl, rfl, rfl, trivial⟩⟩)
    exact At.exit rfl (ahV _ (aa hM).symm _ _ _ ⟨rfl, Hl, BC, vh, pV, Fc, Fe, rfl, ay.sub ⟨rfl, rfl, rfl, rfl, rfl, rfl, rfl, trivial⟩⟩)
   rintro xJ aF3 aD6 aPw ⟨rfl, Ul, D5, Um, Mu, Cb, anS, rfl, apL⟩ hM
   refine At.sub apL ?_
   refine sg aT ?_
   refine At.s rfl rfl (Ox.ck (vs := [_, _, _, _, _, _]) rfl rfl dS rfl ((aS.box (List.mem_append_right _ (List.mem_append_right _ z0))).part (j := 0) (n := 6) rfl) rfl (.put rfl) ?_)
   refine At.fY (H2 := D5 ++ ((ja, _) :: fh ++ ((gP, _) :: (gO, _) :: H))) (λ X => D5 ++ (X ++ ((ja, _) :: fh ++ ((gP, _) :: (gO, _) :: H)))) (.app .id) rfl anS (λ aG5 B3 akX => ?_)
   replace aE := aE.mono B3
   replace aJ := aJ.mono B3
   replace uu := uu.mono B3
   replace Cb := Cb.mono B3
   obtain ⟨yh, Sx, hM⟩ := aj hM
   refine At.cv NI (Te (⟨x0.aD, ⟨x0.af.ao, x0.af.ax⟩, x0.au, x0.Out, xJ.2⟩ : av) aE aJ akX Sx) ?_
   rintro _ aHN _ ⟨JG, rfl, rfl⟩
   replace uu := uu.mono JG
   replace Cb := Cb.mono JG
   refine vs 1 ?_
   refine er ?_
   refine sc hM (λ arG hM => ?_) (λ arG hM => ?_)
   ·refine At.rg cB ?_
    refine vs 2 ?_
    refine At.fY (H2 := (ja, _) :: fh ++ ((gP, _) :: (gO, _) :: H)) (λ X => X ++ ((ja, _) :: fh ++ ((gP, _) :: (gO, _) :: H))) .id rfl Cb (λ aG6 YR akY => ?_)
    replace uu := uu.mono YR
    refine At.s rfl rfl (Ox.buildSlice (cells := #[_]) rfl agu rfl (by decide) afO (bq rfl Cb.cells rfl rfl bD) rfl λ afM _ _ => ⟨_, (.put rfl), ?_⟩)
    obtain ⟨nV, Ge, hM⟩ := aj hM
    refine At.s rfl rfl (Ox.append (K := (vH CZ 1)) (λ X => (afM, _) :: (ja, _) :: X ++ ((gP, _) :: (gO, _) :: H)) rfl rfl rfl afF Tryz.underlying135 (by simp) (.cons (.cons .id)) uu (dR.lit z0 (aK.le (aK.cons (x := xJ.1) ⟨_, rfl, akY⟩ rfl aK.nil) rfl) rfl) Ge rfl λ aCj aef aoG => ⟨_, (.put rfl), ?_⟩)
    refine vs 1 ?_
    refine er ?_
    refine At.inBlock ?_
    refine At.rg aR ?_
    refine vs 2 ?_
    refine er ?_
    exact At.drop (so (so sr)) (IL _ (aa hM).symm _ _ _ ⟨(((BY.trans B3).trans JG).trans YR), aCj, aef, aoG, rfl, ay.sub ⟨rfl, rfl, rfl, rfl, rfl, trivial⟩⟩)
   refine sp ?_
   refine At.inBlock ?_
   refine At.rg aR ?_
   refine vs 2 ?_
   refine er ?_
   exact At.drop (aH (so sr)) (IL _ (aa hM).symm _ _ _ ⟨((BY.trans B3).trans JG), x7, fh, uu, rfl, ay.sub ⟨rfl, rfl, rfl, rfl, rfl, trivial⟩⟩)
  exact At.exit rfl (At.drop (gV (so (so sr))) (N7 _ (aa hM).symm _ _ _ ⟨BY, x7, fh, uu, rfl, ay.sub ⟨rfl, trivial⟩⟩))
 rintro lO MI adF aBh ⟨YJ, Ll, rK, PV, rfl, Qn⟩ hM
 refine At.sub Qn ?_
 refine sg bw ?_
 refine vs 1 ?_
 obtain ⟨rq, Gf, hM⟩ := aj hM
 obtain ⟨af0, az3, _, ⟨aCk, rfl, auO⟩, O8, Py⟩ := (PV.rd (λ _ h => (List.mem_append_left _ h))).elem abV Gf
 refine At.s rfl rfl (Ox.aX rfl rfl rfl Py rfl (.put rfl) ?_)
 refine At.ld cO ((O8.sub pp).one (j := 0) rfl) ?_
 refine vs 1 ?_
 refine es ?_
 refine sg aT ?_
 refine vs 1 ?_
 refine At.s rfl rfl (Ox.Gv rfl rfl PV Tryz.underlying135 rfl (.put rfl) ?_)
 refine vs 1 ?_
 refine er ?_
 refine At.block ?_
 refine At.eI hM (λ (pJ : ((List Int) × Int)) R' H' st' => MI = R' ∧ ∃ Ho, az CZ 1 R' Ho pJ.1 ∧ H' = rK ++ (H) ∧ aF st' [(12, Ho), (71, Ll), (72, iv (lO.length : Int)), (73, iv pJ.2)]) (λ (G5 : (List Int)) R' H' st' => MI = R' ∧ ∃ Lm, az CZ 1 R' Lm G5 ∧ H = H' ∧ aF st' [(12, Lm)]) 4 rfl ⟨rfl, aCk, auO, rfl, ay.sub ⟨rfl, rfl, rfl, rfl, trivial⟩⟩ ?_ ?_
 rotate_right
 ·rintro pJ aF8 aEa aPA ⟨rfl, Ho, Oi, rfl, apP⟩ U0 hM Wm ahX
  refine At.sub apP ?_
  refine sg aQ ?_
  refine vs 1 ?_
  refine es ?_
  refine sc hM (λ Ru hM => ?_) (λ Ru hM => ?_)
  ·refine sp ?_
   refine sq ?_
   refine At.block ?_
   refine sg aT ?_
   obtain ⟨ru, Sy, hM⟩ := aj hM
   obtain ⟨aJB, aOi, _, ⟨aCm, rfl, Z3⟩, aki, amX⟩ := (PV.rd (λ _ h => (List.mem_append_left _ h))).elem abV Sy
   refine At.s rfl rfl (Ox.aX rfl rfl rfl amX rfl (.put rfl) ?_)
   refine At.ld cO ((aki.sub pp).one (j := 0) rfl) ?_
   refine vs 1 ?_
   refine nx aT ?_
   refine vs 2 ?_
   obtain ⟨oR, Sz, hM⟩ := aj hM
   refine At.cv agz (axy ru pJ.1 Z3.rd Oi.rd Sz) ?_
   rintro _ _ _ ⟨rfl, rfl, rfl⟩
   refine er ?_
   refine sc hM (λ arO hM => ?_) (λ arO hM => ?_)
   ·refine At.rg aR ?_
    refine vs 2 ?_
    refine er ?_
    refine At.inBlock ?_
    refine At.rg aR ?_
    refine vs 2 ?_
    refine er ?_
    exact Wm _ (aa hM).symm _ _ _ ⟨rfl, aCm, Z3, rfl, ay.sub ⟨rfl, rfl, rfl, rfl, trivial⟩⟩
   refine sp ?_
   refine At.inBlock ?_
   refine At.rg aR ?_
   refine vs 2 ?_
   refine er ?_
   exact Wm _ (aa hM).symm _ _ _ ⟨rfl, Ho, Oi, rfl, ay.sub ⟨rfl, rfl, rfl, rfl, trivial⟩⟩
  exact At.exit rfl (At.drop (aH sr) (ahX _ (aa hM).symm _ _ _ ⟨rfl, Ho, Oi, rfl, ay.sub ⟨rfl, trivial⟩⟩))
 rintro G5 aF9 aEb aPB ⟨rfl, Lm, Yw, rfl, apQ⟩ hM
 refine At.sub apQ ?_
 refine sq ?_
 refine sg aT ?_
 refine vs 1 ?_
 refine ls Yw Tryz.underlying25 ?_
 refine vs 1 ?_
 refine er ?_
 refine sc hM (λ Rv hM => ?_) (λ Rv hM => ?_)
 ·refine sg aR ?_
  refine vs 2 ?_
  refine er ?_
  obtain rfl := aa hM
  exact rt Tryz.func31 (.tmp rfl (.tmp rfl .nil)) sr (hk _ _ _ ⟨((y4.trans B4).trans YJ), rfl, .slice none 0 0, az.nil, rfl⟩)
 refine sp ?_
 refine sg aT ?_
 refine vs 3 ?_
 refine er ?_
 obtain rfl := aa hM
 exact rt Tryz.func31 (.tmp rfl (.tmp rfl .nil)) sr (hk _ _ _ ⟨((y4.trans B4).trans YJ), rfl, Lm, Yw, rfl⟩)
theorem adn (x0 : av) {aG aI aM : Value} (hG : fG R) (aE : az bI 5 R aG x0.au) (aJ : az CZ 1 R aI x0.Out) (aL : az bB 2 R aM x0.aU) {r : (Int × Int × Int)} (hM : xD x0 = some r) : aB ah 33 #[.agg #[iv x0.aD, iv x0.af.ao, iv x0.af.ax, aG, aI, aM]] R H (λ v R' H' => aO R R' ∧ H = H' ∧ v = .tuple #[iv r.1, iv r.2.1, iv r.2.2]) := by
 unfold xD at hM
 refine aB.bk Tryz.func33 rfl (n := 63) rfl rfl λ fr cs hk => ?_
 refine sg bw ?_
 refine bx λ HQ => ?_
 refine vs 3 ?_
 refine nx eK ?_
 refine lN [_, _, _, _, _, _] 0 6 bp z0 ?_
 obtain ⟨dz, Ka, hM⟩ := aj hM
 refine At.cv od (oK x0 (λ y => m6 y) hG aE aJ aL ⟨90, #[], #[], rfl, EE, λ R' H' hR hH y r va hA hr => by obtain ⟨_, rfl, ⟨pN, oP, pO, gB, fR, gC, rfl⟩⟩ := hA; exact (GX y gB fR gC hr).mono λ _ _ _ ⟨h1, h2, h3⟩ => ⟨h1 ▸ rr, h2.symm, h3⟩⟩ Ka) ?_
 rintro _ Ef _ ⟨OL, n3, vk, vl, vm, qZ, vn, ata, atb, atc, Kb, atd, rfl, rfl⟩
 replace aE := aE.mono OL
 refine vs 3 ?_
 refine At.s rfl rfl (Ox.alloc (cs := #[iv 0, iv 0, iv 0, .slice none 0 0, .slice none 0 0, .slice none 0 0, .slice none 0 0, .map none]) rfl m4 rfl λ kF _ _ => ⟨_, (.put rfl), ?_⟩)
 refine At.s rfl rfl (Ox.bG (cs' := #[_, _, _, _, _, _, _, _]) rfl rfl rfl ej rfl (aq rfl (aq rfl (aq rfl (aq ata.one (aq atb.one (aq atc.one (aq Kb.one (aq atd.one aW)))))))) .here rfl rfl rfl (.refl _) ?_)
 refine vs 1 ?_
 refine es ?_
 refine sg aR ?_
 refine vs 2 ?_
 refine er ?_
 refine sc hM (λ ZJ hM => ?_) (λ ZJ hM => ?_)
 ·refine sg bw ?_
  refine vs 4 ?_
  refine er ?_
  obtain rfl := aa hM
  exact rt Tryz.func33 (.tmp rfl (.tmp rfl (.tmp rfl .nil))) (so (aH (so sr))) (hk _ _ _ ⟨OL, rfl, rfl⟩)
 refine sp ?_
 refine sq ?_
 refine At.dw cB mixed ?_
 refine Any.vs 1 [0] rfl ?_
 refine tl 1 6 qK z0 ?_
 refine Any.tk 2 rfl pp (λ R' H' hR hS => Ox.wW (K := fM) (k := 6) (xs := dz.1.dI) rfl rfl (Kb.mono hR) Tryz.underlying103 rfl (.one rfl) ⟨rfl, rfl, rfl⟩) ?_
 refine Any.vs 2 [3, 4] rfl ?_
 refine Any.done ?_
 refine sg aR ?_
 refine At.s rfl rfl (Ox.azg rfl rfl λ ya VK aoU => ⟨_, (.put rfl), ?_⟩)
 refine vs 1 ?_
 refine es ?_
 refine sg bw ?_
 refine vs 1 ?_
 refine At.ld dc ((aS.box (List.mem_append_right _ (.tail _ (List.mem_append_right _ z0)))).one (j := 3) rfl) ?_
 refine ls aE Tryz.underlying24 ?_
 refine vs 1 ?_
 refine er ?_
 refine At.block ?_
 refine At.drop (H' := VK ++ ((kF, .cells #[iv dz.1.book.aD, iv dz.1.book.af.ao, iv dz.1.book.af.ax, vk, vl, vm, qZ, vn] 106) :: n3 ++ (H))) (gV (sk (gV (so sr)))) ?_
 refine At.eI hM (λ (cT : (Int × Int × (Int → Int → Int) × Int)) R' H' st' => Ef = R' ∧ ∃ Ia, tR ya cT.2.2.1 Ia ∧ H' = Ia ++ ((kF, .cells #[iv dz.1.book.aD, iv dz.1.book.af.ao, iv dz.1.book.af.ax, vk, vl, vm, qZ, vn] 106) :: n3 ++ (H)) ∧ aF st' [(2, iv cT.1), (3, iv cT.2.1), (5, .pointer (some ⟨kF, 0, none⟩)), (6, ya), (26, iv (x0.au.length : Int)), (27, iv cT.2.2.2)]) (λ (qO : (Int × Int)) R' H' st' => Ef = R' ∧ H = H' ∧ aF st' [(2, iv qO.1), (3, iv qO.2)]) 0 rfl ⟨rfl, VK, aoU, rfl, ay.sub ⟨rfl, rfl, rfl, rfl, rfl, rfl, trivial⟩⟩ ?_ ?_
 rotate_right
 ·rintro cT aFp aDs aOP ⟨rfl, Ia, aoS, rfl, ao3⟩ pU hM Wi Vj
  refine At.sub ao3 ?_
  refine sg aQ ?_
  refine vs 1 ?_
  refine es ?_
  refine sc hM (λ FG hM => ?_) (λ FG hM => ?_)
  ·refine sp ?_
   refine sq ?_
   refine At.block ?_
   refine sg aR ?_
   refine vs 2 ?_
   refine nx aQ ?_
   refine vs 1 ?_
   refine es ?_
   refine sg bw ?_
   refine vs 1 ?_
   refine ld 6 qK (List.mem_append_right _ z0) ?_
   refine ls Kb Tryz.underlying103 ?_
   refine vs 1 ?_
   refine er ?_
   refine At.block ?_
   refine At.eI hM (λ (dJ : ((Int → Int → Int) × Int × Int)) R' H' st' => Ef = R' ∧ ∃ fh, tR ya dJ.1 fh ∧ H' = fh ++ ((kF, .cells #[iv dz.1.book.aD, iv dz.1.book.af.ao, iv dz.1.book.af.ax, vk, vl, vm, qZ, vn] 106) :: n3 ++ (H)) ∧ aF st' [(2, iv cT.1), (3, iv cT.2.1), (5, .pointer (some ⟨kF, 0, none⟩)), (6, ya), (7, iv cT.2.2.2), (8, iv dJ.2.1), (26, iv (x0.au.length : Int)), (27, iv cT.2.2.2), (31, qZ), (32, iv (dz.1.dI.length : Int)), (33, iv dJ.2.2)]) (λ (lO : ((Int → Int → Int) × Int)) R' H' st' => Ef = R' ∧ ∃ rK, tR ya lO.1 rK ∧ H' = rK ++ ((kF, .cells #[iv dz.1.book.aD, iv dz.1.book.af.ao, iv dz.1.book.af.ax, vk, vl, vm, qZ, vn] 106) :: n3 ++ (H)) ∧ aF st' [(2, iv cT.1), (3, iv cT.2.1), (5, .pointer (some ⟨kF, 0, none⟩)), (6, ya), (7, iv cT.2.2.2), (8, iv lO.2), (26, iv (x0.au.length : Int)), (27, iv cT.2.2.2)]) 2 rfl ⟨rfl, Ia, aoS, rfl, ay.sub ⟨rfl, rfl, rfl, rfl, rfl, rfl, rfl, rfl, rfl, rfl, rfl, trivial⟩⟩ ?_ ?_
   rotate_right
   ·rintro dJ IC adE aBg ⟨rfl, fh, J2, rfl, Qm⟩ aCO hM IL N7
    refine At.sub Qm ?_
    refine sg aQ ?_
    refine vs 1 ?_
    refine es ?_
    refine sc hM (λ zz hM => ?_) (λ zz hM => ?_)
    ·refine sp ?_
     refine sq ?_
     refine At.block ?_
     refine sg bw ?_
     obtain ⟨tA, atT, hM⟩ := aj hM
     obtain ⟨aI1, aNU, _, ⟨Gz, rfl⟩, ajV, amr⟩ := Kb.elem Lb atT
     refine At.s rfl rfl (Ox.aX rfl rfl rfl amr rfl (.put rfl) ?_)
     refine At.s rfl rfl (Ox.ck (vs := _) rfl rfl eG (by simp [Gz]) (ajV.any.part (j := 0) (n := 6) (ee (by simp [Gz]))) rfl (.put rfl) ?_)
     refine At.s rfl rfl (Ox.alloc (cs := (List.toArray ([iv 0] ++ ([0, 0, 0, 0, 0].map (Value.int .i64) ++ [])))) rfl yp rfl λ tT _ _ => ⟨_, (.put rfl), ?_⟩)
     refine At.s rfl rfl (Ox.bG (cs' := _) rfl rfl rfl eG (by simp [Gz]) (cr (aq rfl aW) (cr (ew λ _ => rfl) aW)) .here (by simp) (dZ (by simp [Gz])) rfl (.refl _) ?_)
     refine nx eK ?_
     refine vs 3 ?_
     obtain ⟨fF, F7, hM⟩ := aj hM
     refine At.s rfl rfl (Ox.aX rfl rfl rfl (sL Er Gz F7) rfl (.put rfl) ?_)
     refine At.ld aV ((aS.box z0).arr F7 rfl) ?_
     refine At.s rfl rfl (Ox.build (cells := #[_, _]) rfl aBB rfl (bq rfl rfl rfl rfl (bq rfl rfl rfl rfl bD)) rfl (.put rfl) ?_)
     refine At.s rfl rfl (Ox.alloc (cs := #[iv 0, iv 0]) rfl aCQ rfl λ rO _ _ => ⟨_, (.put rfl), ?_⟩)
     refine At.s rfl rfl (Ox.bG (cs' := #[_, _]) rfl rfl rfl M1 rfl (aq rfl (aq rfl aW)) .here rfl rfl rfl (.refl _) ?_)
     refine es ?_
     refine At.cut (λ R' H' st' => Ef = R' ∧ ∃ (vK : ak), tR ya (vb dJ.1 cT.2.2.2 fF (i64 ((dJ.1 cT.2.2.2 fF) + 1))) vK ∧ H' = (rO, .cells #[iv cT.2.2.2, iv fF] 145) :: vK ++ ((kF, .cells #[iv dz.1.book.aD, iv dz.1.book.af.ao, iv dz.1.book.af.ax, vk, vl, vm, qZ, vn] 106) :: n3 ++ (H)) ∧ aF st' [(2, iv cT.1), (3, iv cT.2.1), (5, .pointer (some ⟨kF, 0, none⟩)), (6, ya), (7, iv cT.2.2.2), (8, iv dJ.2.1), (11, .pointer (some ⟨rO, 0, none⟩)), (26, iv (x0.au.length : Int)), (27, iv cT.2.2.2), (31, qZ), (32, iv (dz.1.dI.length : Int)), (33, iv dJ.2.2)]) ?_ ?_
     ·rintro aGG aEM aQt ⟨rfl, vK, Cd, rfl, aqI⟩
      refine At.sub aqI ?_
      refine At.rg c6 ?_
      refine vs 2 ?_
      refine lN [_, _] 0 2 M1 z0 ?_
      refine At.s rfl rfl (Ox.S3 (p := cT.2.2.2) (w := fF) rfl rfl rfl G0 Cd (λ _ h => (.tail _ (List.mem_append_left _ h))) rfl (.put rfl) ?_)
      refine At.s rfl rfl (Ox.max (a := dJ.2.1) (l := [(vb dJ.1 cT.2.2.2 fF (i64 ((dJ.1 cT.2.2.2 fF) + 1))) cT.2.2.2 fF]) rfl rfl rfl (.put rfl) ?_)
      refine vs 1 ?_
      refine er ?_
      refine At.inBlock ?_
      refine At.rg aR ?_
      refine vs 2 ?_
      refine er ?_
      exact At.drop (so sr) (IL _ (aa hM).symm _ _ _ ⟨rfl, vK, Cd, rfl, ay.sub ⟨rfl, rfl, rfl, rfl, rfl, rfl, rfl, rfl, rfl, rfl, rfl, trivial⟩⟩)
     intro Y4
     refine At.draw (n := 7) (is := [0, 1, 2, 3, 4, 5, 6]) (many ((rO, .cells #[iv cT.2.2.2, iv fF] 145) :: (tT, .cells (List.toArray ([iv tA.fq] ++ (tA.weights.map (Value.int .i64) ++ []))) 125) :: fh ++ ((kF, .cells #[iv dz.1.book.aD, iv dz.1.book.af.ao, iv dz.1.book.af.ax, vk, vl, vm, qZ, vn] 106) :: n3 ++ (H))) [(2, (rO, .cells #[iv cT.2.2.2, iv fF] 145) :: (tT, .cells (List.toArray ([iv tA.fq] ++ (tA.weights.map (Value.int .i64) ++ []))) 125) :: (kF, .cells #[iv dz.1.book.aD, iv dz.1.book.af.ao, iv dz.1.book.af.ax, vk, vl, vm, qZ, vn] 106) :: n3 ++ (H)), (4, (rO, .cells #[iv cT.2.2.2, iv fF] 145) :: (tT, .cells (List.toArray ([iv tA.fq] ++ (tA.weights.map (Value.int .i64) ++ []))) 125) :: (kF, .cells #[iv dz.1.book.aD, iv dz.1.book.af.ao, iv dz.1.book.af.ax, vk, vl, vm, qZ, vn] 106) :: n3 ++ (H)), (6, (rO, .cells #[iv cT.2.2.2, iv fF] 145) :: (tT, .cells (List.toArray ([iv tA.fq] ++ (tA.weights.map (Value.int .i64) ++ []))) 125) :: (kF, .cells #[iv dz.1.book.aD, iv dz.1.book.af.ao, iv dz.1.book.af.ax, vk, vl, vm, qZ, vn] 106) :: n3 ++ (H))]) mixed rfl (by decide +kernel) rfl rfl ?_
     refine Any.vs 1 [0] rfl ?_
     refine ts 1 [2, 3, 4, 5, 6] rfl (aN rfl (aN rfl (aN rfl (bf (su (sk (so (aH (so (aH sr)))))))))) (su (sk (so (aH (so (aH sr)))))) (λ R' H' hR hS => Ox.ck (vs := [_, _]) rfl rfl M1 rfl ((aS.box (hS _ z0)).part (j := 0) (n := 2) rfl) rfl (.one rfl) ⟨rfl, rfl, rfl⟩) ?_
     refine tw 2 4 ?_ ?_
     ·refine  (aP.to (Ox.S3 (p := cT.2.2.2) (w := fF) rfl rfl rfl G0 J2 (λ _ h => (.tail _ (.tail _ (List.mem_append_left _ h)))) rfl (.put rfl) ⟨rr, (bL rfl (su (sk (sk (aH sr))))), ?_⟩))
      refine Any.vs 1 [3] rfl ?_
      refine Any.on 4 rfl rfl (aP.to (Ox.mapEntry (p := cT.2.2.2) (w := fF) (λ X => (rO, _) :: (tT, _) :: X ++ ((kF, _) :: n3 ++ (H))) rfl rfl rfl G0 (.cons (.cons .id)) J2 rfl λ aiI aec Ju => ⟨_, (.put rfl), ⟨rr, (bL rfl (su (sk (sk (aH sr))))), ?_⟩⟩))
      refine Any.vs 1 [5] rfl ?_
      refine Any.on 6 rfl rfl (aP.to (Ox.entryStore (λ X => (rO, _) :: (tT, _) :: X ++ ((kF, _) :: n3 ++ (H))) rfl rfl rfl rfl (.cons (.cons .id)) Ju rfl (.refl _) λ vK Cd => ⟨rr, (bL rfl (su (sk (sk (aH sr))))), ?_⟩))
      exact Any.done (At.drop (sk (so sr)) (Y4 _ _ _ ⟨rfl, vK, Cd, rfl, ay.sub ⟨rfl, rfl, rfl, rfl, rfl, rfl, rfl, rfl, rfl, rfl, rfl, rfl, trivial⟩⟩))
     refine  (aP.to (Ox.mapEntry (p := cT.2.2.2) (w := fF) (λ X => (rO, _) :: (tT, _) :: X ++ ((kF, _) :: n3 ++ (H))) rfl rfl rfl G0 (.cons (.cons .id)) J2 rfl λ aiI aec Ju => ⟨_, (.put rfl), ⟨rr, (bL rfl (su (sk (sk (aH sr))))), ?_⟩⟩))
     refine Any.vs 1 [5] rfl ?_
     refine Any.on 2 rfl rfl (aP.to (Ox.S3 (p := cT.2.2.2) (w := fF) rfl rfl rfl G0 Ju.own (λ _ h => (.tail _ (.tail _ (List.mem_append_left _ h)))) rfl (.put rfl) ⟨rr, (bL rfl (su (sk (sk (aH sr))))), ?_⟩))
     refine Any.vs 1 [3] rfl ?_
     refine Any.on 6 rfl rfl (aP.to (Ox.entryStore (λ X => (rO, _) :: (tT, _) :: X ++ ((kF, _) :: n3 ++ (H))) rfl rfl rfl rfl (.cons (.cons .id)) Ju rfl (.refl _) λ vK Cd => ⟨rr, (bL rfl (su (sk (sk (aH sr))))), ?_⟩))
     exact Any.done (At.drop (sk (so sr)) (Y4 _ _ _ ⟨rfl, vK, Cd, rfl, ay.sub ⟨rfl, rfl, rfl, rfl, rfl, rfl, rfl, rfl, rfl, rfl, rfl, rfl, trivial⟩⟩))
    exact At.exit rfl (N7 _ (aa hM).symm _ _ _ ⟨rfl, fh, J2, rfl, ay.sub ⟨rfl, rfl, rfl, rfl, rfl, rfl, rfl, rfl, trivial⟩⟩)
   rintro lO MI adF aBh ⟨rfl, rK, Zz, rfl, Qn⟩ hM
   refine At.sub Qn ?_
   refine sg aT ?_
   refine vs 3 ?_
   refine er ?_
   refine sc hM (λ FL hM => ?_) (λ FL hM => ?_)
   ·refine At.rg bw ?_
    refine vs 4 ?_
    refine er ?_
    refine At.inBlock ?_
    refine At.rg aR ?_
    refine vs 2 ?_
    refine er ?_
    exact Wi _ (aa hM).symm _ _ _ ⟨rfl, rK, Zz, rfl, ay.sub ⟨rfl, rfl, rfl, rfl, rfl, rfl, trivial⟩⟩
   refine sp ?_
   refine At.inBlock ?_
   refine At.rg aR ?_
   refine vs 2 ?_
   refine er ?_
   exact Wi _ (aa hM).symm _ _ _ ⟨rfl, rK, Zz, rfl, ay.sub ⟨rfl, rfl, rfl, rfl, rfl, rfl, trivial⟩⟩
  exact At.exit rfl (At.drop (aH (so (aH sr))) (Vj _ (aa hM).symm _ _ _ ⟨rfl, rfl, ay.sub ⟨rfl, rfl, trivial⟩⟩))
 rintro qO aC2 aCZ aDk ⟨rfl, rfl, ZG⟩ hM
 refine At.sub ZG ?_
 refine sg cB ?_
 refine vs 5 ?_
 refine er ?_
 obtain rfl := aa hM
 exact rt Tryz.func33 (.tmp rfl (.tmp rfl (.tmp rfl .nil))) sr (hk _ _ _ ⟨OL, rfl, rfl⟩)
theorem Tf (x0 : (List cF)) {v0 : Value} (h0 : bV bB 2 R H v0 x0) {r : List cF} (hM : yq x0 = some r) : aB ah 117 #[v0] R H (λ v R' H' => aO R R' ∧ ∃ w Hs, bg bB 2 47 R' w r Hs ∧ H' = Hs ++ H ∧ v = w) := by
 rcases h0.TH with ⟨Ex, rfl, rfl⟩ | ⟨a0, n0, Ex, rfl⟩
 ·have hM : some ([] : List cF) = some r := by simpa [yq, eH] using hM
  refine aB.bk Tryz.func117 rfl (n := 8) rfl rfl λ fr cs hk => ?_
  refine sg aQ ?_
  refine vs 1 ?_
  refine es ?_
  refine sg aR ?_
  refine vs 1 ?_
  refine At.s rfl rfl (Ox.BV rfl rfl rfl Tryz.underlying26 rfl rfl (.put rfl) ?_)
  refine er ?_
  refine At.cond_true rfl ?_
  refine sg aQ ?_
  refine vs 1 ?_
  refine er ?_
  obtain rfl := aa hM
  exact rt Tryz.func117 (.tmp rfl .nil) sr (hk _ _ _ ⟨(rr), .slice none 0 0, [], bg.nil, rfl, rfl⟩)
 ·unfold yq at hM
  refine aB.bk Tryz.func117 rfl (n := 8) rfl rfl λ fr cs hk => ?_
  refine sg aQ ?_
  refine vs 1 ?_
  refine es ?_
  refine sg aR ?_
  refine vs 1 ?_
  refine At.s rfl rfl (Ox.BV rfl rfl rfl Tryz.underlying26 rfl rfl (.put rfl) ?_)
  refine er ?_
  refine At.cond_false rfl ?_
  refine sp ?_
  refine sg bw ?_
  refine At.s rfl rfl (Ox.buildSlice (cells := #[]) rfl qb rfl (by decide) Na bD rfl λ cq _ _ => ⟨_, (.put rfl), ?_⟩)
  refine vs 1 ?_
  obtain ⟨cy, eN, hM⟩ := aj hM
  refine At.s rfl rfl (Ox.append (K := bB) (λ X => X ++ (H)) rfl rfl rfl oY Tryz.underlying26 (by simp) .id (bg.lit (aK.le aK.nil rfl) rfl) (h0.sub (su (so sr))).arg eN rfl λ Hu Ec Fh => ⟨_, (.put rfl), ?_⟩)
  refine vs 1 ?_
  refine er ?_
  obtain rfl := aa hM
  exact rt Tryz.func117 (.tmp rfl .nil) sr (hk _ _ _ ⟨(rr), Hu, Ec, Fh, rfl, rfl⟩)
theorem aaL (x0 : (List cG)) {v0 : Value} (h0 : bV bI 5 R H v0 x0) {r : List cG} (hM : xb x0 = some r) : aB ah 122 #[v0] R H (λ v R' H' => aO R R' ∧ ∃ w Hs, bg bI 5 58 R' w r Hs ∧ H' = Hs ++ H ∧ v = w) := by
 rcases h0.TH with ⟨Ex, rfl, rfl⟩ | ⟨a0, n0, Ex, rfl⟩
 ·have hM : some ([] : List cG) = some r := by simpa [xb, eH] using hM
  refine aB.bk Tryz.func122 rfl (n := 8) rfl rfl λ fr cs hk => ?_
  refine sg aQ ?_
  refine vs 1 ?_
  refine es ?_
  refine sg aR ?_
  refine vs 1 ?_
  refine At.s rfl rfl (Ox.BV rfl rfl rfl Tryz.underlying24 rfl rfl (.put rfl) ?_)
  refine er ?_
  refine At.cond_true rfl ?_
  refine sg aQ ?_
  refine vs 1 ?_
  refine er ?_
  obtain rfl := aa hM
  exact rt Tryz.func122 (.tmp rfl .nil) sr (hk _ _ _ ⟨(rr), .slice none 0 0, [], bg.nil, rfl, rfl⟩)
 ·unfold xb at hM
  refine aB.bk Tryz.func122 rfl (n := 8) rfl rfl λ fr cs hk => ?_
  refine sg aQ ?_
  refine vs 1 ?_
  refine es ?_
  refine sg aR ?_
  refine vs 1 ?_
  refine At.s rfl rfl (Ox.BV rfl rfl rfl Tryz.underlying24 rfl rfl (.put rfl) ?_)
  refine er ?_
  refine At.cond_false rfl ?_
  refine sp ?_
  refine sg bw ?_
  refine At.s rfl rfl (Ox.buildSlice (cells := #[]) rfl ND rfl (by decide) WG bD rfl λ cq _ _ => ⟨_, (.put rfl), ?_⟩)
  refine vs 1 ?_
  obtain ⟨cy, eN, hM⟩ := aj hM
  refine At.s rfl rfl (Ox.append (K := bI) (λ X => X ++ (H)) rfl rfl rfl Wy Tryz.underlying24 (by simp) .id (bg.lit (aK.le aK.nil rfl) rfl) (h0.sub (su (so sr))).arg eN rfl λ Hu Ec Fh => ⟨_, (.put rfl), ?_⟩)
  refine vs 1 ?_
  refine er ?_
  obtain rfl := aa hM
  exact rt Tryz.func122 (.tmp rfl .nil) sr (hk _ _ _ ⟨(rr), Hu, Ec, Fh, rfl, rfl⟩)
theorem Tg (x0 : av) {aG aI aM : Value} (hG : fG R) (aE : az bI 5 R aG x0.au) (aJ : az CZ 1 R aI x0.Out) (aL : az bB 2 R aM x0.aU) {r : (av × Int)} (hM : w9 x0 = some r) : aB ah 118 #[.agg #[iv x0.aD, iv x0.af.ao, iv x0.af.ax, aG, aI, aM]] R H (λ v R' H' => aO R R' ∧ H = H' ∧ ∃ gf gh gk, az bI 5 R' gf r.1.au ∧ az CZ 1 R' gh r.1.Out ∧ az bB 2 R' gk r.1.aU ∧ v = .tuple #[.agg #[iv r.1.aD, iv r.1.af.ao, iv r.1.af.ax, gf, gh, gk], iv r.2]) := by
 unfold w9 at hM
 refine aB.bk Tryz.func118 rfl (n := 48) rfl rfl λ fr cs hk => ?_
 refine sg aT ?_
 refine bx λ me => ?_
 refine At.s rfl rfl (Ox.alloc (cs := #[iv 0, iv 0, iv 0, .slice none 0 0, .slice none 0 0, .slice none 0 0]) rfl nY rfl λ jM _ _ => ⟨_, (.put rfl), ?_⟩)
 refine vs 1 ?_
 refine es ?_
 refine sg aT ?_
 refine lN [_, _, _, _, _, _] 0 6 bp z1 ?_
 obtain ⟨vB, SH, hM⟩ := aj hM
 refine At.cv tZ (uT x0 hG aE aJ aL SH) ?_
 rintro _ aeS _ ⟨rZ, rfl, rfl⟩
 replace aE := aE.mono rZ
 replace aJ := aJ.mono rZ
 replace aL := aL.mono rZ
 refine vs 1 ?_
 refine nx aR ?_
 refine vs 2 ?_
 refine er ?_
 refine sc hM (λ uA hM => ?_) (λ uA hM => ?_)
 ·refine sg bw ?_
  refine At.s rfl rfl (Ox.build (cells := #[_, _, _, _, _, _]) rfl rI rfl bD rfl (.put rfl) ?_)
  refine vs 1 ?_
  refine At.s rfl rfl (Ox.bG (cs' := #[_, _, _, _, _, _]) rfl rfl rfl bp rfl (aq rfl (aq rfl (aq rfl (aq rfl (aq rfl (aq rfl aW)))))) .here rfl rfl rfl (.refl _) ?_)
  refine vs 1 ?_
  refine er ?_
  obtain rfl := aa hM
  exact rt Tryz.func118 (.agg rfl bp rfl (aS.box z0) (.tmp rfl .nil)) (so (so sr)) (hk _ _ _ ⟨rZ, rfl, .slice none 0 0, .slice none 0 0, .slice none 0 0, az.nil, az.nil, az.nil, rfl⟩)
 refine sp ?_
 refine sq ?_
 refine sg bw ?_
 refine lN [_, _, _, _, _, _] 0 6 bp z1 ?_
 refine At.s rfl rfl (Ox.build (cells := #[_, _, _, _, _, _]) rfl pK rfl (bq rfl rfl rfl rfl bD) rfl (.put rfl) ?_)
 obtain ⟨kA, zS, hM⟩ := aj hM
 refine At.cv NI (Te (⟨x0.aD, ⟨x0.af.ao, x0.af.ax⟩, x0.au, x0.Out, x0.aU⟩ : av) aE aJ aL zS) ?_
 rintro _ aHW _ ⟨EZ, rfl, rfl⟩
 replace aE := aE.mono EZ
 replace aJ := aJ.mono EZ
 replace aL := aL.mono EZ
 refine vs 1 ?_
 refine er ?_
 refine sc hM (λ zG hM => ?_) (λ zG hM => ?_)
 ·refine sg aT ?_
  refine At.s rfl rfl (Ox.build (cells := #[_, _, _, _, _, _]) rfl rI rfl bD rfl (.put rfl) ?_)
  refine At.s rfl rfl (Ox.bG (cs' := #[_, _, _, _, _, _]) rfl rfl rfl bp rfl (aq rfl (aq rfl (aq rfl (aq rfl (aq rfl (aq rfl aW)))))) .here rfl rfl rfl (.refl _) ?_)
  refine vs 1 ?_
  refine er ?_
  obtain rfl := aa hM
  exact rt Tryz.func118 (.agg rfl bp rfl (aS.box z0) (.tmp rfl .nil)) (so (so sr)) (hk _ _ _ ⟨(rZ.trans EZ), rfl, .slice none 0 0, .slice none 0 0, .slice none 0 0, az.nil, az.nil, az.nil, rfl⟩)
 refine sp ?_
 refine sq ?_
 refine At.draw (n := 15) (is := [0, 1, 2, 3, 4, 5, 6, 7, 8, 9, 10, 11, 12, 13, 14]) (many ((jM, .cells #[iv 0, iv 0, iv 0, .slice none 0 0, .slice none 0 0, .slice none 0 0] 28) :: (me, .cells #[iv x0.aD, iv x0.af.ao, iv x0.af.ax, aG, aI, aM] 28) :: H) [(10, (jM, .cells #[iv 0, iv 0, iv 0, .slice none 0 0, .slice none 0 0, .slice none 0 0] 28) :: H), (12, (jM, .cells #[iv 0, iv 0, iv 0, .slice none 0 0, .slice none 0 0, .slice none 0 0] 28) :: H), (14, (jM, .cells #[iv 0, iv 0, iv 0, .slice none 0 0, .slice none 0 0, .slice none 0 0] 28) :: H)]) mixed rfl (by decide +kernel) rfl rfl ?_
 refine Any.vs 1 [0] rfl ?_
 refine ts 1 [2, 5, 8, 9, 10, 11, 12, 13, 14] rfl (aN rfl (aN rfl (aN rfl (bf (su (so sr)))))) (su (so sr)) (λ R' H' hR hS => Ox.bu rfl rfl dc ((aS.box (hS _ z0)).one (j := 3) rfl) rfl (.one rfl) ⟨rfl, rfl, rfl⟩) ?_
 refine Any.vs 1 [3] rfl ?_
 refine ts 4 [5, 8, 9, 10, 11, 12, 13, 14] rfl (aN rfl (aN rfl (aN rfl (bf (su (so sr)))))) (su (so sr)) (λ R' H' hR hS => Ox.bu rfl rfl cO ((aS.box (hS _ z0)).one (j := 4) rfl) rfl (.one rfl) ⟨rfl, rfl, rfl⟩) ?_
 refine Any.vs 1 [6] rfl ?_
 refine ts 7 [8, 9, 10, 11, 12, 13, 14] rfl (aN rfl (aN rfl (aN rfl (bf (su (so sr)))))) (su (so sr)) (λ R' H' hR hS => Ox.bu rfl rfl fu ((aS.box (hS _ z0)).one (j := 5) rfl) rfl (.one rfl) ⟨rfl, rfl, rfl⟩) ?_
 obtain ⟨iF, qz, hM⟩ := aj hM
 refine Any.cv 2 XB (aaL x0.au aE.rd qz) ?_
 rintro tn aeT _ ⟨B7, _, MC, uv, rfl, rfl⟩
 replace aJ := aJ.mono B7
 replace aL := aL.mono B7
 refine ⟨B7, (bL rfl (su (aH sr))), ?_⟩
 refine Any.vs 1 [9] rfl ?_
 obtain ⟨k9, sJ, hM⟩ := aj hM
 refine Any.cv 5 vV (xd x0.Out aJ.rd sJ) ?_
 rintro Hv aHZ _ ⟨JI, _, tP, qq, rfl, rfl⟩
 replace aL := aL.mono JI
 replace uv := uv.mono JI
 refine ⟨JI, (bL rfl (su (aH (aH sr)))), ?_⟩
 obtain ⟨rA, Gl, hM⟩ := aj hM
 refine Any.cv 8 NJ (Tf x0.aU aL.rd Gl) ?_
 rintro AX Wb _ ⟨JJ, _, pX, qs, rfl, rfl⟩
 replace uv := uv.mono JJ
 replace qq := qq.mono JJ
 refine ⟨JJ, (bL rfl (su (aH (aH (aH sr))))), ?_⟩
 refine Any.on 10 rfl rfl (aP.to (Ox.cI (cs' := #[_, _, _, _, _, _]) rfl rfl rfl dc uv.one (.skip (.skip (.skip (.there .here)))) rfl rfl rfl (.refl _) ⟨rr, (bL rfl (su (aH (aH (aH (sk (so sr))))))), ?_⟩))
 refine Any.vs 1 [11] rfl ?_
 refine Any.on 12 rfl rfl (aP.to (Ox.cI (cs' := #[_, _, _, _, _, _]) rfl rfl rfl cO qq.one (.skip (.skip (.skip (.there .here)))) rfl rfl rfl (.refl _) ⟨rr, (bL rfl (su (aH (aH (aH (sk (so sr))))))), ?_⟩))
 refine Any.vs 1 [13] rfl ?_
 refine Any.on 14 rfl rfl (aP.to (Ox.cI (cs' := #[_, _, _, _, _, _]) rfl rfl rfl fu qs.one (.skip (.skip (.skip (.there .here)))) rfl rfl rfl (.refl _) ⟨rr, (bL rfl (su (aH (aH (aH (sk (so sr))))))), ?_⟩))
 refine Any.done ?_
 refine sq ?_
 refine sg bw ?_
 refine vs 1 ?_
 refine At.ld dc ((aS.box (List.mem_append_right _ (List.mem_append_right _ (List.mem_append_right _ z1)))).one (j := 3) rfl) ?_
 refine At.s rfl rfl (Ox.Gv rfl rfl uv Tryz.underlying24 rfl (.put rfl) ?_)
 refine vs 1 ?_
 refine er ?_
 refine At.block ?_
 refine At.eI hM (λ (nP : ((List cG) × Int)) R' H' st' => aO Wb R' ∧ ∃ yA, bg bI 5 58 R' tn nP.1 yA ∧ H' = pX ++ (tP ++ (yA ++ ((jM, .cells #[iv 0, iv 0, iv 0, .slice none 0 0, .slice none 0 0, .slice none 0 0] 28) :: (me, .cells #[iv x0.aD, iv x0.af.ao, iv x0.af.ax, tn, Hv, AX] 28) :: H))) ∧ aF st' [(1, .pointer (some ⟨me, 0, none⟩)), (2, .pointer (some ⟨jM, 0, none⟩)), (31, tn), (32, iv (iF.length : Int)), (33, iv nP.2)]) (λ (K5 : (List cG)) R' H' st' => aO Wb R' ∧ ∃ Mz, bg bI 5 58 R' tn K5 Mz ∧ H' = pX ++ (tP ++ (Mz ++ ((jM, .cells #[iv 0, iv 0, iv 0, .slice none 0 0, .slice none 0 0, .slice none 0 0] 28) :: (me, .cells #[iv x0.aD, iv x0.af.ao, iv x0.af.ax, tn, Hv, AX] 28) :: H))) ∧ aF st' [(1, .pointer (some ⟨me, 0, none⟩)), (2, .pointer (some ⟨jM, 0, none⟩))]) 0 rfl ⟨rr, MC, uv, rfl, ay.sub ⟨rfl, rfl, rfl, rfl, rfl, trivial⟩⟩ ?_ ?_
 rotate_right
 ·rintro nP R77 H77 aQf ⟨YP, yA, zk, rfl, aqu⟩ Bn hM afq aia
  refine At.sub aqu ?_
  refine sg aQ ?_
  refine vs 1 ?_
  refine es ?_
  refine sc hM (λ FW hM => ?_) (λ FW hM => ?_)
  ·refine sp ?_
   refine sq ?_
   refine At.block ?_
   refine sg c6 ?_
   refine vs 1 ?_
   obtain ⟨pR, avK, hM⟩ := aj hM
   obtain ⟨aJ7, aOH, _, ⟨acL, aam, rfl⟩, akH, ans⟩ := (zk.rd (λ _ h => (List.mem_append_right _ (List.mem_append_right _ (List.mem_append_left _ h))))).elem jD avK
   refine At.s rfl rfl (Ox.aX rfl rfl rfl ans rfl (.put rfl) ?_)
   refine At.s rfl rfl (Ox.ck (vs := [_, _, _, _, _]) rfl rfl kE rfl ((akH.sub pp).part (j := 0) (n := 5) rfl) rfl (.put rfl) ?_)
   refine At.s rfl rfl (Ox.alloc (cs := #[.string (⟨#[]⟩), iv 0, iv 0, iv 0, .slice none 0 0]) rfl vD rfl λ IQ _ _ => ⟨_, (.put rfl), ?_⟩)
   refine vs 1 ?_
   refine At.s rfl rfl (Ox.bG (cs' := #[_, _, _, _, _]) rfl rfl rfl kE rfl (aq rfl (aq rfl (aq rfl (aq rfl (aq aam.one aW))))) .here rfl rfl rfl (.refl _) ?_)
   refine er ?_
   refine At.draw (n := 9) (is := [0, 1, 2, 3, 4, 5, 6, 7, 8]) (many ((IQ, .cells #[.string pR.Name, iv pR.dg, iv pR.Weight.ao, iv pR.Weight.ax, acL] 58) :: pX ++ (tP ++ (yA ++ ((jM, .cells #[iv 0, iv 0, iv 0, .slice none 0 0, .slice none 0 0, .slice none 0 0] 28) :: (me, .cells #[iv x0.aD, iv x0.af.ao, iv x0.af.ax, tn, Hv, AX] 28) :: H)))) [(8, (IQ, .cells #[.string pR.Name, iv pR.dg, iv pR.Weight.ao, iv pR.Weight.ax, acL] 58) :: pX ++ (tP ++ ((jM, .cells #[iv 0, iv 0, iv 0, .slice none 0 0, .slice none 0 0, .slice none 0 0] 28) :: (me, .cells #[iv x0.aD, iv x0.af.ao, iv x0.af.ax, tn, Hv, AX] 28) :: H)))]) mixed rfl (by decide +kernel) rfl rfl ?_
   refine Any.vs 1 [0] rfl ?_
   refine ts 1 [6, 7, 8] rfl (aN rfl (bf (su (so (aH (aH (aH (so sr)))))))) (su (so (aH (aH (aH (so sr)))))) (λ R' H' hR hS => Ox.bu rfl rfl dc ((aS.box (hS _ z0)).one (j := 3) rfl) rfl (.one rfl) ⟨rfl, rfl, rfl⟩) ?_
   refine Any.vs 2 [2, 3] rfl ?_
   refine ts 4 [5, 6, 7, 8] rfl (aN rfl (bf (su (sk (aH (aH (aH (so (so sr))))))))) (su (sk (aH (aH (aH (so (so sr))))))) (λ R' H' hR hS => Ox.bu rfl rfl cO ((aS.box (hS _ z0)).one (j := 4) rfl) rfl (.one rfl) ⟨rfl, rfl, rfl⟩) ?_
   obtain ⟨UC, asU, hM⟩ := aj hM
   refine Any.cv 5 vV (xd pR.On aam.rd asU) ?_
   rintro aQJ aHe _ ⟨OK, _, aFc, aoz, rfl, rfl⟩
   replace zk := zk.mono OK
   refine ⟨OK, (bL rfl (su (aH sr))), ?_⟩
   refine Any.fY (H2 := (IQ, _) :: pX ++ (tP ++ (yA ++ ((jM, _) :: (me, _) :: H)))) (λ X => X ++ ((IQ, _) :: pX ++ (tP ++ (yA ++ ((jM, _) :: (me, _) :: H))))) .id rfl aoz (by decide) (by decide) (azi (su (sk (gV (gV (aH sr))))) (azh pp)) (λ aGR YQ Pf => ?_)
   replace zk := zk.mono YQ
   obtain ⟨kz, RQ, hM⟩ := aj hM
   obtain ⟨aIn, aKm, _, ⟨aBZ, aMy, rfl⟩, rfl, aLd, ala, alM, aLP, avN, asj⟩ := zk.eu jD RQ
   refine ts 6 [7, 8] rfl (aN rfl (bf (su (so (aH (aH (so (so (so sr))))))))) (su (so (aH (aH (so (so (so sr))))))) (λ R' H' hR hS => Ox.aX rfl rfl rfl alM rfl (.one rfl) ⟨rfl, rfl, rfl⟩) ?_
   refine Any.vs 1 [7] rfl ?_
   refine Any.on 8 rfl rfl (aP.to (Ox.eC (K := bI) (k := 5) (e := 58) (i := nP.2) (x' := (⟨kz.Name, kz.dg, ⟨kz.Weight.ao, kz.Weight.ax⟩, UC⟩ : cG)) (pre := [.string kz.Name, iv kz.dg, iv kz.Weight.ao, iv kz.Weight.ax]) (mid := [aBZ]) (post := []) (.cons (.app (.app .id))) rfl rfl rfl (by rw [Pf.cells]) aA6 rfl (aq Pf.one aW) ala rfl rfl rfl avN asj ⟨_, Pf, rfl⟩ rfl (.refl _) λ adU an7 => ⟨rr, (bL rfl (su (sk (gV (gV (aH sr)))))), ?_⟩))
   refine Any.done ?_
   refine At.inBlock ?_
   refine At.rg aR ?_
   refine vs 2 ?_
   refine er ?_
   exact At.drop (so sr) (afq _ (aa hM).symm _ _ _ ⟨((YP.trans OK).trans YQ), adU, an7, rfl, ay.sub ⟨rfl, rfl, rfl, rfl, rfl, trivial⟩⟩)
  exact At.exit rfl (aia _ (aa hM).symm _ _ _ ⟨YP, yA, zk, rfl, ay.sub ⟨rfl, rfl, trivial⟩⟩)
 rintro K5 aGw aEC aQg ⟨OD, Mz, Zm, rfl, aqv⟩ hM
 refine At.sub aqv ?_
 replace qq := qq.mono OD
 replace qs := qs.mono OD
 refine sg aT ?_
 refine At.s rfl rfl (Ox.ck (vs := [_, _, _, _, _, _]) rfl rfl bp rfl ((aS.box (List.mem_append_right _ (List.mem_append_right _ (List.mem_append_right _ z1)))).part (j := 0) (n := 6) rfl) rfl (.put rfl) ?_)
 refine At.s rfl rfl (Ox.bG (cs' := #[_, _, _, _, _, _]) rfl rfl rfl bp rfl (aq rfl (aq rfl (aq rfl (aq Zm.one (aq qq.one (aq qs.one aW)))))) (.skip (.skip (.skip .here))) rfl rfl rfl (.refl _) ?_)
 refine vs 1 ?_
 refine er ?_
 refine At.fY (H2 := pX ++ (tP ++ ((jM, _) :: (me, _) :: H))) (λ X => pX ++ (tP ++ (X ++ ((jM, _) :: (me, _) :: H)))) (.app (.app .id)) rfl Zm (λ aGS OH E5 => ?_)
 replace qq := qq.mono OH
 replace qs := qs.mono OH
 refine At.fY (H2 := pX ++ ((jM, _) :: (me, _) :: H)) (λ X => pX ++ (X ++ ((jM, _) :: (me, _) :: H))) (.app .id) rfl qq (λ aGT OI Pg => ?_)
 replace E5 := E5.mono OI
 replace qs := qs.mono OI
 refine At.fY (H2 := (jM, _) :: (me, _) :: H) (λ X => X ++ ((jM, _) :: (me, _) :: H)) .id rfl qs (λ aGU OJ akO => ?_)
 replace E5 := E5.mono OJ
 replace Pg := Pg.mono OJ
 obtain rfl := aa hM
 exact rt Tryz.func118 (.agg rfl bp rfl (aS.box z0) (.tmp rfl .nil)) (so (so sr)) (hk _ _ _ ⟨((((((((rZ.trans EZ).trans B7).trans JI).trans JJ).trans OD).trans OH).trans OI).trans OJ), rfl, tn, Hv, AX, E5, Pg, akO, rfl⟩)
theorem ayY (x0 : av) (x1 : cF) {aG aI aM : Value} (hG : fG R) (aE : az bI 5 R aG x0.au) (aJ : az CZ 1 R aI x0.Out) (aL : az bB 2 R aM x0.aU) {r : (av × Int)} (hM : CL x0 x1 = some r) : aB ah 35 #[.agg #[iv x0.aD, iv x0.af.ao, iv x0.af.ax, aG, aI, aM], .agg #[iv x1.dN, iv x1.dX]] R H (λ v R' H' => aO R R' ∧ H = H' ∧ ∃ gf gh gk, az bI 5 R' gf r.1.au ∧ az CZ 1 R' gh r.1.Out ∧ az bB 2 R' gk r.1.aU ∧ v = .tuple #[.agg #[iv r.1.aD, iv r.1.af.ao, iv r.1.af.ax, gf, gh, gk], iv r.2]) := by
 unfold CL at hM
 refine aB.bk Tryz.func35 rfl (n := 24) rfl rfl λ fr cs hk => ?_
 refine sg bw ?_
 refine bx λ e7 => ?_
 refine bx λ ng => ?_
 refine At.s rfl rfl (Ox.alloc (cs := #[iv 0, iv 0, iv 0, .slice none 0 0, .slice none 0 0, .slice none 0 0]) rfl nY rfl λ eS _ _ => ⟨_, (.put rfl), ?_⟩)
 refine vs 1 ?_
 refine es ?_
 refine sg aT ?_
 refine lN [_, _, _, _, _, _] 0 6 bp z2 ?_
 obtain ⟨cL, uG, hM⟩ := aj hM
 refine At.cv tZ (uT x0 hG aE aJ aL uG) ?_
 rintro _ IE _ ⟨jv, rfl, rfl⟩
 replace aE := aE.mono jv
 replace aJ := aJ.mono jv
 replace aL := aL.mono jv
 replace hG := hG.mono jv
 refine vs 1 ?_
 refine nx aR ?_
 refine vs 2 ?_
 refine er ?_
 refine sc hM (λ ux hM => ?_) (λ ux hM => ?_)
 ·refine sg bw ?_
  refine At.s rfl rfl (Ox.build (cells := #[_, _, _, _, _, _]) rfl rI rfl bD rfl (.put rfl) ?_)
  refine vs 1 ?_
  refine At.s rfl rfl (Ox.bG (cs' := #[_, _, _, _, _, _]) rfl rfl rfl bp rfl (aq rfl (aq rfl (aq rfl (aq rfl (aq rfl (aq rfl aW)))))) .here rfl rfl rfl (.refl _) ?_)
  refine vs 1 ?_
  refine er ?_
  obtain rfl := aa hM
  exact rt Tryz.func35 (.agg rfl bp rfl (aS.box z0) (.tmp rfl .nil)) (so (so (so sr))) (hk _ _ _ ⟨jv, rfl, .slice none 0 0, .slice none 0 0, .slice none 0 0, az.nil, az.nil, az.nil, rfl⟩)
 refine sp ?_
 refine sq ?_
 obtain ⟨jH, wN, hM⟩ := aj hM
 obtain ⟨fV, sF, hM⟩ := aj hM
 refine At.cut (λ R' H' st' => aO IE R' ∧ ∃ (AV : Value) (yB : ak), bg bB 2 47 R' AV fV yB ∧ H' = yB ++ ((eS, .cells #[iv 0, iv 0, iv 0, .slice none 0 0, .slice none 0 0, .slice none 0 0] 28) :: (e7, .cells #[iv x0.aD, iv x0.af.ao, iv x0.af.ax, aG, aI, AV] 28) :: H) ∧ aF st' [(2, .pointer (some ⟨e7, 0, none⟩)), (4, .pointer (some ⟨eS, 0, none⟩))]) ?_ ?_
 ·rintro aGM aES aQz ⟨JA, AV, yB, zo, rfl, aqO⟩
  refine At.sub aqO ?_
  replace aE := aE.mono JA
  replace aJ := aJ.mono JA
  replace hG := hG.mono JA
  refine sg c6 ?_
  refine lN [_, _, _, _, _, _] 0 6 bp (List.mem_append_right _ z1) ?_
  refine At.fY (H2 := (eS, _) :: (e7, _) :: H) (λ X => X ++ ((eS, _) :: (e7, _) :: H)) .id rfl zo (λ aeM qg JP => ?_)
  replace aE := aE.mono qg
  replace aJ := aJ.mono qg
  replace hG := hG.mono qg
  obtain ⟨eL, oC, hM⟩ := aj hM
  refine At.cv NK (Tg (⟨x0.aD, ⟨x0.af.ao, x0.af.ax⟩, x0.au, x0.Out, fV⟩ : av) hG aE aJ JP oC) ?_
  rintro _ IG _ ⟨rY, rfl, aCo, aCp, aCq, Z6, Z7, Z8, rfl⟩
  refine vs 2 ?_
  refine At.s rfl rfl (Ox.bG (cs' := #[_, _, _, _, _, _]) rfl rfl rfl bp rfl (aq rfl (aq rfl (aq rfl (aq Z6.one (aq Z7.one (aq Z8.one aW)))))) .here rfl rfl rfl (.refl _) ?_)
  refine vs 1 ?_
  refine er ?_
  obtain rfl := aa hM
  exact rt Tryz.func35 (.agg rfl bp rfl (aS.box z0) (.tmp rfl .nil)) (so (so sr)) (hk _ _ _ ⟨(((jv.trans JA).trans qg).trans rY), rfl, aCo, aCp, aCq, Z6, Z7, Z8, rfl⟩)
 intro Y5
 refine At.draw (n := 8) (is := [0, 1, 2, 3, 4, 5, 6, 7]) (many ((eS, .cells #[iv 0, iv 0, iv 0, .slice none 0 0, .slice none 0 0, .slice none 0 0] 28) :: (ng, .cells #[iv x1.dN, iv x1.dX] 47) :: (e7, .cells #[iv x0.aD, iv x0.af.ao, iv x0.af.ax, aG, aI, aM] 28) :: H) [(7, (eS, .cells #[iv 0, iv 0, iv 0, .slice none 0 0, .slice none 0 0, .slice none 0 0] 28) :: (ng, .cells #[iv x1.dN, iv x1.dX] 47) :: H)]) mixed rfl (by decide +kernel) rfl rfl ?_
 refine Any.vs 1 [0] rfl ?_
 refine ts 1 [2, 5, 6, 7] rfl (aN rfl (bf (su (so (so sr))))) (su (so (so sr))) (λ R' H' hR hS => Ox.bu rfl rfl fu ((aS.box (hS _ z0)).one (j := 5) rfl) rfl (.one rfl) ⟨rfl, rfl, rfl⟩) ?_
 refine ts 3 [4, 5, 6, 7] rfl (aN rfl (bf (su (so (sk (so sr)))))) (su (so (sk (so sr)))) (λ R' H' hR hS => Ox.ck (vs := [_, _]) rfl rfl rM rfl ((aS.box (hS _ z0)).part (j := 0) (n := 2) rfl) rfl (.one rfl) ⟨rfl, rfl, rfl⟩) ?_
 refine tw 2 4 ?_ ?_
 ·refine  (Ox.cD rfl rfl rfl rfl NJ rfl rfl ((Tf x0.aU aL.rd wN).mono ?_))
  rintro UA MS _ ⟨iO, _, MB, P5, rfl, rfl⟩
  refine ⟨_, (.put rfl), ⟨iO, (bL rfl (su (aH sr))), ?_⟩⟩
  refine Any.on 4 rfl rfl (aP.to (Ox.buildSlice (cells := #[_, _]) rfl qb rfl (by decide) vT (bq rfl rfl rfl rfl bD) rfl λ kI _ _ => ⟨_, (.put rfl), ⟨rr, (bL rfl (su (so (aH sr)))), ?_⟩⟩))
  refine Any.on 5 rfl rfl (aP.to (Ox.append (K := bB) (λ X => (kI, _) :: X ++ ((eS, _) :: (ng, _) :: (e7, _) :: H)) rfl rfl rfl oY Tryz.underlying26 (by simp) (.cons .id) P5 (dR.lit z0 (aK.le (aK.cons (x := x1) rfl rfl aK.nil) rfl) rfl) sF rfl λ AV yB zo => ⟨_, (.put rfl), ⟨rr, (bL rfl (su (so (aH sr)))), ?_⟩⟩))
  refine Any.vs 1 [6] rfl ?_
  refine Any.on 7 rfl rfl (aP.to (Ox.cI (cs' := #[_, _, _, _, _, _]) rfl rfl rfl fu zo.one (.there (.skip (.there (.there .here)))) rfl rfl rfl (.refl _) ⟨rr, (bL rfl (su (so (aH (sk (sk (so sr))))))), ?_⟩))
  exact Any.done (At.drop (so (gV (sk (so sr)))) (Y5 _ _ _ ⟨iO, AV, yB, zo, rfl, ay.sub ⟨rfl, rfl, trivial⟩⟩))
 refine  (aP.to (Ox.buildSlice (cells := #[_, _]) rfl qb rfl (by decide) vT (bq rfl rfl rfl rfl bD) rfl λ kI _ _ => ⟨_, (.put rfl), ⟨rr, (bL rfl (su (so sr))), ?_⟩⟩))
 refine Any.cv 2 NJ (Tf x0.aU aL.rd wN) ?_
 rintro UA MS _ ⟨iO, _, MB, P5, rfl, rfl⟩
 refine ⟨iO, (bL rfl (su (aH (so sr)))), ?_⟩
 refine Any.on 5 rfl rfl (aP.to (Ox.append (K := bB) (λ X => X ++ ((kI, _) :: (eS, _) :: (ng, _) :: (e7, _) :: H)) rfl rfl rfl oY Tryz.underlying26 (by simp) .id P5 (dR.lit (List.mem_append_right _ z0) (aK.le (aK.cons (x := x1) rfl rfl aK.nil) rfl) rfl) sF rfl λ AV yB zo => ⟨_, (.put rfl), ⟨rr, (bL rfl (su (aH (so sr)))), ?_⟩⟩))
 refine Any.vs 1 [6] rfl ?_
 refine Any.on 7 rfl rfl (aP.to (Ox.cI (cs' := #[_, _, _, _, _, _]) rfl rfl rfl fu zo.one (.skip (.there (.there (.there .here)))) rfl rfl rfl (.refl _) ⟨rr, (bL rfl (su (aH (so (sk (sk (so sr))))))), ?_⟩))
 exact Any.done (At.drop (gV (so (sk (so sr)))) (Y5 _ _ _ ⟨iO, AV, yB, zo, rfl, ay.sub ⟨rfl, rfl, trivial⟩⟩))
theorem Vp (x0 : av) (x1 : Int) (x2 : Reach) {aG aI aM : Value} (hG : fG R) (aE : az bI 5 R aG x0.au) (aJ : az CZ 1 R aI x0.Out) (aL : az bB 2 R aM x0.aU) {r : (av × Int)} (hM : xE x0 x1 x2 = some r) : aB ah 38 #[.agg #[iv x0.aD, iv x0.af.ao, iv x0.af.ax, aG, aI, aM], iv x1, .agg #[iv x2.ao, iv x2.ax]] R H (λ v R' H' => aO R R' ∧ H = H' ∧ ∃ gf gh gk, az bI 5 R' gf r.1.au ∧ az CZ 1 R' gh r.1.Out ∧ az bB 2 R' gk r.1.aU ∧ v = .tuple #[.agg #[iv r.1.aD, iv r.1.af.ao, iv r.1.af.ax, gf, gh, gk], iv r.2]) := by
 unfold xE at hM
 refine aB.bk Tryz.func38 rfl (n := 66) rfl rfl λ fr cs hk => ?_
 refine sg bw ?_
 refine bx λ rP => ?_
 refine bx λ mb => ?_
 refine At.s rfl rfl (Ox.alloc (cs := #[iv 0, iv 0, iv 0, .slice none 0 0, .slice none 0 0, .slice none 0 0]) rfl nY rfl λ rQ _ _ => ⟨_, (.put rfl), ?_⟩)
 refine vs 1 ?_
 refine es ?_
 refine sg aT ?_
 refine lN [_, _, _, _, _, _] 0 6 bp z2 ?_
 obtain ⟨pQ, Gi, hM⟩ := aj hM
 refine At.cv tZ (uT x0 hG aE aJ aL Gi) ?_
 rintro _ aHS _ ⟨uo, rfl, rfl⟩
 replace aE := aE.mono uo
 replace aJ := aJ.mono uo
 replace aL := aL.mono uo
 replace hG := hG.mono uo
 refine vs 1 ?_
 refine nx aR ?_
 refine vs 2 ?_
 refine er ?_
 refine sc hM (λ oo hM => ?_) (λ oo hM => ?_)
 ·refine sg bw ?_
  refine At.s rfl rfl (Ox.build (cells := #[_, _, _, _, _, _]) rfl rI rfl bD rfl (.put rfl) ?_)
  refine vs 1 ?_
  refine At.s rfl rfl (Ox.bG (cs' := #[_, _, _, _, _, _]) rfl rfl rfl bp rfl (aq rfl (aq rfl (aq rfl (aq rfl (aq rfl (aq rfl aW)))))) .here rfl rfl rfl (.refl _) ?_)
  refine vs 1 ?_
  refine er ?_
  obtain rfl := aa hM
  exact rt Tryz.func38 (.agg rfl bp rfl (aS.box z0) (.tmp rfl .nil)) (so (so (so sr))) (hk _ _ _ ⟨uo, rfl, .slice none 0 0, .slice none 0 0, .slice none 0 0, az.nil, az.nil, az.nil, rfl⟩)
 refine sp ?_
 refine sq ?_
 refine At.block ?_
 refine sg c6 ?_
 refine lN [_, _, _, _, _, _] 0 6 bp z2 ?_
 refine At.s rfl rfl (Ox.build (cells := #[_, _, _, _, _, _]) rfl pK rfl (bq rfl rfl rfl rfl bD) rfl (.put rfl) ?_)
 refine vs 1 ?_
 obtain ⟨ei, kP, hM⟩ := aj hM
 refine At.cv NL (Ti (⟨x0.aD, ⟨x0.af.ao, x0.af.ax⟩, x0.au, x0.Out, x0.aU⟩ : av) x1 aE aJ aL kP) ?_
 rintro _ _ _ ⟨rfl, rfl, rfl⟩
 refine vs 2 ?_
 refine er ?_
 refine sc hM (λ RF hM => ?_) (λ RF hM => ?_)
 ·refine sg aT ?_
  refine At.s rfl rfl (Ox.build (cells := #[_, _, _, _, _, _]) rfl rI rfl bD rfl (.put rfl) ?_)
  refine At.s rfl rfl (Ox.bG (cs' := #[_, _, _, _, _, _]) rfl rfl rfl bp rfl (aq rfl (aq rfl (aq rfl (aq rfl (aq rfl (aq rfl aW)))))) .here rfl rfl rfl (.refl _) ?_)
  refine vs 1 ?_
  refine er ?_
  obtain rfl := aa hM
  exact rt Tryz.func38 (.agg rfl bp rfl (aS.box z0) (.tmp rfl .nil)) (so (so (so sr))) (hk _ _ _ ⟨uo, rfl, .slice none 0 0, .slice none 0 0, .slice none 0 0, az.nil, az.nil, az.nil, rfl⟩)
 refine sg bw ?_
 refine lN [_, _] 0 2 fW z1 ?_
 obtain ⟨U7, avg, hM⟩ := aj hM
 refine At.cv NM (Tj x2 1 99 99  avg) ?_
 rintro _ _ _ ⟨rfl, rfl, rfl⟩
 refine vs 2 ?_
 refine er ?_
 refine sc hM (λ RG hM => ?_) (λ RG hM => ?_)
 ·refine sg aT ?_
  refine At.s rfl rfl (Ox.build (cells := #[_, _, _, _, _, _]) rfl rI rfl bD rfl (.put rfl) ?_)
  refine At.s rfl rfl (Ox.bG (cs' := #[_, _, _, _, _, _]) rfl rfl rfl bp rfl (aq rfl (aq rfl (aq rfl (aq rfl (aq rfl (aq rfl aW)))))) .here rfl rfl rfl (.refl _) ?_)
  refine vs 1 ?_
  refine er ?_
  obtain rfl := aa hM
  exact rt Tryz.func38 (.agg rfl bp rfl (aS.box z0) (.tmp rfl .nil)) (so (so (so sr))) (hk _ _ _ ⟨uo, rfl, .slice none 0 0, .slice none 0 0, .slice none 0 0, az.nil, az.nil, az.nil, rfl⟩)
 refine sp ?_
 refine At.inBlock ?_
 refine sg eK ?_
 refine vs 1 ?_
 refine ld 3 dc z2 ?_
 refine vs 1 ?_
 obtain ⟨jJ, zQ, hM⟩ := aj hM
 obtain ⟨aJT, aOw, _, ⟨aRi, aMU, rfl⟩, akw, ang⟩ := aE.elem jD zQ
 refine At.s rfl rfl (Ox.aX rfl rfl rfl ang rfl (.put rfl) ?_)
 refine vs 1 ?_
 refine At.s rfl rfl (Ox.ck (vs := [_, _]) rfl rfl fW rfl (akw.any.part (j := 2) (n := 2) rfl) rfl (.put rfl) ?_)
 refine At.s rfl rfl (Ox.alloc (cs := #[iv 0, iv 0]) rfl Bq rfl λ WD _ _ => ⟨_, (.put rfl), ?_⟩)
 refine At.s rfl rfl (Ox.bG (cs' := #[_, _]) rfl rfl rfl fW rfl (aq rfl (aq rfl aW)) .here rfl rfl rfl (.refl _) ?_)
 refine nx K8 ?_
 refine vs 1 ?_
 refine ld 0 aV z0 ?_
 refine vs 1 ?_
 refine ld 0 aV z2 ?_
 refine At.s rfl rfl (Ox.max (a := jJ.Weight.ao) (l := [x2.ao]) rfl rfl rfl (.put rfl) ?_)
 refine vs 1 ?_
 refine ld 1 aV z0 ?_
 refine vs 1 ?_
 refine ld 1 aV z2 ?_
 refine At.s rfl rfl (Ox.min (a := jJ.Weight.ax) (l := [x2.ax]) rfl rfl rfl (.put rfl) ?_)
 refine At.s rfl rfl (Ox.build (cells := #[_, _]) rfl Le rfl (bq rfl rfl rfl rfl (bq rfl rfl rfl rfl bD)) rfl (.put rfl) ?_)
 refine At.s rfl rfl (Ox.alloc (cs := #[iv 0, iv 0]) rfl Bq rfl λ yQ _ _ => ⟨_, (.put rfl), ?_⟩)
 refine At.s rfl rfl (Ox.bG (cs' := #[_, _]) rfl rfl rfl fW rfl (aq rfl (aq rfl aW)) .here rfl rfl rfl (.refl _) ?_)
 refine es ?_
 refine sg cB ?_
 refine vs 1 ?_
 refine ld 0 aV z0 ?_
 refine vs 1 ?_
 refine ld 1 aV z0 ?_
 refine vs 1 ?_
 refine er ?_
 refine sc hM (λ zF hM => ?_) (λ zF hM => ?_)
 ·refine sg aT ?_
  refine At.s rfl rfl (Ox.build (cells := #[_, _, _, _, _, _]) rfl rI rfl bD rfl (.put rfl) ?_)
  refine At.s rfl rfl (Ox.bG (cs' := #[_, _, _, _, _, _]) rfl rfl rfl bp rfl (aq rfl (aq rfl (aq rfl (aq rfl (aq rfl (aq rfl aW)))))) (.there (.there .here)) rfl rfl rfl (.refl _) ?_)
  refine vs 1 ?_
  refine er ?_
  obtain rfl := aa hM
  exact rt Tryz.func38 (.agg rfl bp rfl (aS.box z2) (.tmp rfl .nil)) (so (so (so (so (so sr))))) (hk _ _ _ ⟨uo, rfl, .slice none 0 0, .slice none 0 0, .slice none 0 0, az.nil, az.nil, az.nil, rfl⟩)
 refine sp ?_
 refine sg cB ?_
 refine vs 1 ?_
 refine ld 3 dc z4 ?_
 obtain ⟨mY, zT, hM⟩ := aj hM
 refine At.cv XB (aaL x0.au aE.rd zT) ?_
 rintro aRn aHX _ ⟨JH, _, aFk, Zv, rfl, rfl⟩
 replace aJ := aJ.mono JH
 replace aL := aL.mono JH
 replace hG := hG.mono JH
 refine vs 1 ?_
 refine At.s rfl rfl (Ox.cI (cs' := #[_, _, _, _, _, _]) rfl rfl rfl dc Zv.one (.skip (.there (.there (.there (.there .here))))) rfl rfl rfl (.refl _) ?_)
 refine nx fe ?_
 refine vs 1 ?_
 refine ld 3 dc (List.mem_append_right _ z4) ?_
 refine vs 1 ?_
 refine lN [_, _] 0 2 fW (List.mem_append_right _ z0) ?_
 obtain ⟨fE, zU, hM⟩ := aj hM
 obtain ⟨af4, agn, _, ⟨aCE, avq, rfl⟩, rfl, akx, Pn, PB, anM, SS, RO⟩ := Zv.eu jD zU
 refine At.s rfl rfl (Ox.aX rfl rfl rfl PB rfl (.put rfl) ?_)
 refine vs 1 ?_
 refine At.s rfl rfl (Ox.eC (K := bI) (k := 5) (e := 58) (i := x1) (x' := (⟨fE.Name, fE.dg, ⟨kR jJ.Weight.ao [x2.ao], rH jJ.Weight.ax [x2.ax]⟩, fE.On⟩ : cG)) (pre := [.string fE.Name, iv fE.dg]) (mid := [iv fE.Weight.ao, iv fE.Weight.ax]) (post := [aCE]) .id rfl rfl rfl rfl abU rfl (aq rfl (aq rfl aW)) Pn rfl rfl rfl SS RO ⟨_, avq, rfl⟩ rfl (.refl _) λ ad6 P4 => ?_)
 refine nx c6 ?_
 refine lN [_, _, _, _, _, _] 0 6 bp (List.mem_append_right _ z4) ?_
 refine At.fY (H2 := (yQ, _) :: (WD, _) :: (rQ, _) :: (mb, _) :: (rP, _) :: H) (λ X => X ++ ((yQ, _) :: (WD, _) :: (rQ, _) :: (mb, _) :: (rP, _) :: H)) .id rfl P4 (λ aHa JC ak2 => ?_)
 replace aJ := aJ.mono JC
 replace aL := aL.mono JC
 replace hG := hG.mono JC
 obtain ⟨iF, qz, hM⟩ := aj hM
 refine At.cv NK (Tg (⟨x0.aD, ⟨x0.af.ao, x0.af.ax⟩, mY.set x1.toNat (⟨fE.Name, fE.dg, ⟨kR jJ.Weight.ao [x2.ao], rH jJ.Weight.ax [x2.ax]⟩, fE.On⟩ : cG), x0.Out, x0.aU⟩ : av) hG ak2 aJ aL qz) ?_
 rintro _ aeT _ ⟨B7, rfl, aCF, aCG, aCH, aah, aai, aaj, rfl⟩
 refine vs 2 ?_
 refine At.s rfl rfl (Ox.bG (cs' := #[_, _, _, _, _, _]) rfl rfl rfl bp rfl (aq rfl (aq rfl (aq rfl (aq aah.one (aq aai.one (aq aaj.one aW)))))) (.there (.there .here)) rfl rfl rfl (.refl _) ?_)
 refine vs 1 ?_
 refine er ?_
 obtain rfl := aa hM
 exact rt Tryz.func38 (.agg rfl bp rfl (aS.box z2) (.tmp rfl .nil)) (so (so (so (so (so sr))))) (hk _ _ _ ⟨(((uo.trans JH).trans JC).trans B7), rfl, aCF, aCG, aCH, aah, aai, aaj, rfl⟩)
end
end Go.Proofs.YtabamagholjdcaaGreatDoor
