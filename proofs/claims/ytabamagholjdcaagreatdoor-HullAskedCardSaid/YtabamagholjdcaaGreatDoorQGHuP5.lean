/- Walks, part 5: each function computes its model. -/
import Derived.Test.YtabamagholjdcaaGreatDoorQGHuP4
namespace Go.Proofs.YtabamagholjdcaaGreatDoor
open Go.Lg Go.Proofs
set_option maxRecDepth 100000
set_option maxHeartbeats 4000000
section
variable {B : Base} {main : Bool} {ah : Jd Tryz.prog B main} {R : aA} {H : ak}
theorem aaZ (x0 : av) (x1 : Int) {aG aI aM : Value} (hG : fG R) (aE : az bI 5 R aG x0.au) (aJ : az CZ 1 R aI x0.Out) (aL : az bB 2 R aM x0.aU) {r : (av × Int)} (hM : Az x0 x1 = some r) : aB ah 40 #[.agg #[iv x0.aD, iv x0.af.ao, iv x0.af.ax, aG, aI, aM], iv x1] R H (λ v R' H' => aO R R' ∧ H = H' ∧ ∃ gf gh gk, az bI 5 R' gf r.1.au ∧ az CZ 1 R' gh r.1.Out ∧ az bB 2 R' gk r.1.aU ∧ v = .tuple #[.agg #[iv r.1.aD, iv r.1.af.ao, iv r.1.af.ax, gf, gh, gk], iv r.2]) := by
 unfold Az at hM
 refine aB.bk Tryz.func40 rfl (n := 42) rfl rfl λ fr cs hk => ?_
 refine sg aT ?_
 refine bx λ gw => ?_
 refine At.s rfl rfl (Ox.alloc (cs := #[iv 0, iv 0, iv 0, .slice none 0 0, .slice none 0 0, .slice none 0 0]) rfl nY rfl λ ni _ _ => ⟨_, (.put rfl), ?_⟩)
 refine vs 1 ?_
 refine es ?_
 refine sg aT ?_
 refine lN [_, _, _, _, _, _] 0 6 bp z1 ?_
 obtain ⟨lZ, zO, hM⟩ := aj hM
 refine At.cv tZ (uT x0 hG aE aJ aL zO) ?_
 rintro _ IF _ ⟨jw, rfl, rfl⟩
 replace aE := aE.mono jw
 replace aJ := aJ.mono jw
 replace aL := aL.mono jw
 replace hG := hG.mono jw
 refine vs 1 ?_
 refine nx aR ?_
 refine vs 2 ?_
 refine er ?_
 refine sc hM (λ FO hM => ?_) (λ FO hM => ?_)
 ·refine sg bw ?_
  refine At.s rfl rfl (Ox.build (cells := #[_, _, _, _, _, _]) rfl rI rfl bD rfl (.put rfl) ?_)
  refine vs 1 ?_
  refine At.s rfl rfl (Ox.bG (cs' := #[_, _, _, _, _, _]) rfl rfl rfl bp rfl (aq rfl (aq rfl (aq rfl (aq rfl (aq rfl (aq rfl aW)))))) .here rfl rfl rfl (.refl _) ?_)
  refine vs 1 ?_
  refine er ?_
  obtain rfl := aa hM
  exact rt Tryz.func40 (.agg rfl bp rfl (aS.box z0) (.tmp rfl .nil)) (so (so sr)) (hk _ _ _ ⟨jw, rfl, .slice none 0 0, .slice none 0 0, .slice none 0 0, az.nil, az.nil, az.nil, rfl⟩)
 refine sp ?_
 refine sq ?_
 refine sq ?_
 obtain ⟨fD, qx, hM⟩ := aj hM
 obtain ⟨yl, sG, hM⟩ := aj hM
 refine At.cut (λ R' H' st' => aO IF R' ∧ H' = (ni, .cells #[iv 0, iv 0, iv 0, .slice none 0 0, .slice none 0 0, .slice none 0 0] 28) :: (gw, .cells #[iv x0.aD, iv x0.af.ao, iv x0.af.ax, aG, aI, aM] 28) :: H ∧ aF st' [(1, iv x1), (2, .pointer (some ⟨gw, 0, none⟩)), (4, .pointer (some ⟨ni, 0, none⟩)), (8, iv yl.2)]) ?_ ?_
 ·rintro aGN aET aQA ⟨B1, rfl, aqP⟩
  refine At.sub aqP ?_
  replace aE := aE.mono B1
  replace aJ := aJ.mono B1
  replace aL := aL.mono B1
  replace hG := hG.mono B1
  refine sg aR ?_
  refine vs 2 ?_
  refine er ?_
  refine sc hM (λ RD hM => ?_) (λ RD hM => ?_)
  ·refine sg bw ?_
   refine At.s rfl rfl (Ox.build (cells := #[_, _, _, _, _, _]) rfl rI rfl bD rfl (.put rfl) ?_)
   refine vs 1 ?_
   refine At.s rfl rfl (Ox.bG (cs' := #[_, _, _, _, _, _]) rfl rfl rfl bp rfl (aq rfl (aq rfl (aq rfl (aq rfl (aq rfl (aq rfl aW)))))) .here rfl rfl rfl (.refl _) ?_)
   refine vs 1 ?_
   refine er ?_
   obtain rfl := aa hM
   exact rt Tryz.func40 (.agg rfl bp rfl (aS.box z0) (.tmp rfl .nil)) (so (so sr)) (hk _ _ _ ⟨(jw.trans B1), rfl, .slice none 0 0, .slice none 0 0, .slice none 0 0, az.nil, az.nil, az.nil, rfl⟩)
  refine sp ?_
  refine sg eK ?_
  refine vs 1 ?_
  refine ld 4 cO z1 ?_
  obtain ⟨nW, Gj, hM⟩ := aj hM
  refine At.cv vV (xd x0.Out aJ.rd Gj) ?_
  rintro aRf MT _ ⟨jS, _, aFh, aoO, rfl, rfl⟩
  replace aE := aE.mono jS
  replace aL := aL.mono jS
  replace hG := hG.mono jS
  refine vs 1 ?_
  refine At.s rfl rfl (Ox.buildSlice (cells := #[_]) rfl cW rfl (by decide) en (bq rfl rfl rfl rfl bD) rfl λ rR _ _ => ⟨_, (.put rfl), ?_⟩)
  obtain ⟨ei, kP, hM⟩ := aj hM
  refine At.s rfl rfl (Ox.append (K := CZ) (λ X => (rR, _) :: X ++ ((ni, _) :: (gw, _) :: H)) rfl rfl rfl iZ Tryz.underlying25 (by simp) (.cons .id) aoO (dR.lit z0 (aK.le (aK.cons (x := x1) rfl rfl aK.nil) rfl) rfl) kP rfl λ aRg aFi Zu => ⟨_, (.put rfl), ?_⟩)
  refine vs 1 ?_
  refine At.s rfl rfl (Ox.cI (cs' := #[_, _, _, _, _, _]) rfl rfl rfl cO Zu.one (.there (.skip (.there .here))) rfl rfl rfl (.refl _) ?_)
  refine nx c6 ?_
  refine At.s rfl rfl (Ox.ck (vs := [_, _, _, _, _, _]) rfl rfl bp rfl ((aS.box (.tail _ (List.mem_append_right _ z1))).part (j := 0) (n := 6) rfl) rfl (.put rfl) ?_)
  refine At.fY (H2 := (rR, _) :: (ni, _) :: (gw, _) :: H) (λ X => (rR, _) :: X ++ ((ni, _) :: (gw, _) :: H)) (.cons .id) rfl Zu (λ aG8 JB ak0 => ?_)
  replace aE := aE.mono JB
  replace aL := aL.mono JB
  replace hG := hG.mono JB
  obtain ⟨eF, oD, hM⟩ := aj hM
  refine At.cv NK (Tg (⟨x0.aD, ⟨x0.af.ao, x0.af.ax⟩, x0.au, ei, x0.aU⟩ : av) hG aE ak0 aL oD) ?_
  rintro _ II _ ⟨iz, rfl, aCu, aCv, aCw, aac, aad, aae, rfl⟩
  refine vs 2 ?_
  refine At.s rfl rfl (Ox.bG (cs' := #[_, _, _, _, _, _]) rfl rfl rfl bp rfl (aq rfl (aq rfl (aq rfl (aq aac.one (aq aad.one (aq aae.one aW)))))) (.there .here) rfl rfl rfl (.refl _) ?_)
  refine vs 1 ?_
  refine er ?_
  obtain rfl := aa hM
  exact rt Tryz.func40 (.agg rfl bp rfl (aS.box z1) (.tmp rfl .nil)) (so (so (so sr))) (hk _ _ _ ⟨((((jw.trans B1).trans jS).trans JB).trans iz), rfl, aCu, aCv, aCw, aac, aad, aae, rfl⟩)
 intro wu
 refine At.dw xL mixed ?_
 refine tN 0 [_, _, _, _, _, _] 0 6 bp z1 ?_
 refine Any.tk 1 rfl pp (λ R' H' hR hS => Ox.build (cells := #[_, _, _, _, _, _]) rfl pK rfl (bq rfl rfl rfl rfl bD) rfl (.one rfl) ⟨rfl, rfl, rfl⟩) ?_
 refine Any.tk 2 rfl pp (λ R' H' hR hS => Ox.p9 (z := (List.toArray ([] ++ ([false, false, false, false, false].map Value.bool ++ [])))) rfl pZ rfl (.one rfl) ⟨rfl, rfl, rfl⟩) ?_
 refine Any.vs 1 [3] rfl ?_
 refine tl 4 4 cO z1 ?_
 refine Any.vs 1 [6] rfl ?_
 refine Any.ab8 (i := 5) (j := 7) (l := 12) (ra := [7, 8, 9, 10, 11, 12, 13, 14]) (rb := [5, 8, 9, 10, 11, 12, 13, 14]) (rc := [5, 7, 8, 9, 10, 11, 13, 14]) rfl rfl rfl (by decide +kernel) rfl rfl rfl (by decide) rfl rfl rfl ?_ ?_ ?_
 ·refine  (Ox.cD rfl rfl rfl rfl fX rfl rfl ((gb [false, false, false, false, false] x0.Out rfl aJ.rd qx).mono ?_))
  rintro _ _ _ ⟨rfl, rfl, pz, rfl⟩
  refine ⟨_, (.put rfl), ⟨rr, ka, ?_⟩⟩
  refine tw 7 12 ?_ ?_
  ·refine  (aP.to (Ox.buildSlice (cells := #[_]) rfl cW rfl (by decide) en (bq rfl rfl rfl rfl bD) rfl λ tV _ _ => ⟨_, (.put rfl), ⟨rr, (ku (so sr)), ?_⟩⟩))
   refine tw 8 12 ?_ ?_
   ·refine  (Ox.cD rfl rfl rfl rfl o5 rfl rfl ((pF (⟨x0.aD, ⟨x0.af.ao, x0.af.ax⟩, x0.au, x0.Out, x0.aU⟩ : av) fD [x1] aE aJ aL pz (bV.lit z0 (aK.le (aK.cons (x := x1) rfl rfl aK.nil) rfl) rfl) sG).mono ?_))
    rintro _ yI _ ⟨iy, rfl, iB, rfl⟩
    refine ⟨_, (.put rfl), ⟨iy, (ku (so sr)), ?_⟩⟩
    refine Any.vs 3 [9, 10, 11] rfl ?_
    refine Any.on 12 rfl rfl (aP.to (Ox.alloc (cs := (List.toArray ([] ++ ([false, false, false, false, false].map Value.bool ++ [])))) rfl kB rfl λ rP _ _ => ⟨_, (.put rfl), ⟨rr, (ku (so (so sr))), ?_⟩⟩))
    refine Any.on 13 rfl rfl (aP.to (Ox.bG (cs' := _) rfl rfl rfl c8 (by simp [iB]) (cr aW (cr (ew λ _ => rfl) aW)) .here (by simp) (dZ (by simp [iB])) rfl (.refl _) ⟨rr, (ku (so (so sr))), ?_⟩))
    refine Any.vs 1 [14] rfl ?_
    exact Any.done (At.drop (so (so sr)) (wu _ _ _ ⟨iy, rfl, ay.sub ⟨rfl, rfl, rfl, rfl, trivial⟩⟩))
   refine  (aP.to (Ox.alloc (cs := (List.toArray ([] ++ ([false, false, false, false, false].map Value.bool ++ [])))) rfl kB rfl λ rP _ _ => ⟨_, (.put rfl), ⟨rr, (ku (so (so sr))), ?_⟩⟩))
   refine Any.cv 8 o5 (pF (⟨x0.aD, ⟨x0.af.ao, x0.af.ax⟩, x0.au, x0.Out, x0.aU⟩ : av) fD [x1] aE aJ aL pz (bV.lit z1 (aK.le (aK.cons (x := x1) rfl rfl aK.nil) rfl) rfl) sG) ?_
   rintro _ yI _ ⟨iy, rfl, iB, rfl⟩
   refine ⟨iy, (ku (so (so sr))), ?_⟩
   refine Any.vs 3 [9, 10, 11] rfl ?_
   refine Any.on 13 rfl rfl (aP.to (Ox.bG (cs' := _) rfl rfl rfl c8 (by simp [iB]) (cr aW (cr (ew λ _ => rfl) aW)) .here (by simp) (dZ (by simp [iB])) rfl (.refl _) ⟨rr, (ku (so (so sr))), ?_⟩))
   refine Any.vs 1 [14] rfl ?_
   exact Any.done (At.drop (so (so sr)) (wu _ _ _ ⟨iy, rfl, ay.sub ⟨rfl, rfl, rfl, rfl, trivial⟩⟩))
  refine  (aP.to (Ox.alloc (cs := (List.toArray ([] ++ ([false, false, false, false, false].map Value.bool ++ [])))) rfl kB rfl λ rP _ _ => ⟨_, (.put rfl), ⟨rr, (ku (so sr)), ?_⟩⟩))
  refine Any.on 7 rfl rfl (aP.to (Ox.buildSlice (cells := #[_]) rfl cW rfl (by decide) en (bq rfl rfl rfl rfl bD) rfl λ tV _ _ => ⟨_, (.put rfl), ⟨rr, (ku (so (so sr))), ?_⟩⟩))
  refine Any.cv 8 o5 (pF (⟨x0.aD, ⟨x0.af.ao, x0.af.ax⟩, x0.au, x0.Out, x0.aU⟩ : av) fD [x1] aE aJ aL pz (bV.lit z0 (aK.le (aK.cons (x := x1) rfl rfl aK.nil) rfl) rfl) sG) ?_
  rintro _ yI _ ⟨iy, rfl, iB, rfl⟩
  refine ⟨iy, (ku (so (so sr))), ?_⟩
  refine Any.vs 3 [9, 10, 11] rfl ?_
  refine Any.on 13 rfl rfl (aP.to (Ox.bG (cs' := _) rfl rfl rfl c8 (by simp [iB]) (cr aW (cr (ew λ _ => rfl) aW)) (.there .here) (by simp) (dZ (by simp [iB])) rfl (.refl _) ⟨rr, (ku (so (so sr))), ?_⟩))
  refine Any.vs 1 [14] rfl ?_
  exact Any.done (At.drop (so (so sr)) (wu _ _ _ ⟨iy, rfl, ay.sub ⟨rfl, rfl, rfl, rfl, trivial⟩⟩))
 ·refine  (aP.to (Ox.buildSlice (cells := #[_]) rfl cW rfl (by decide) en (bq rfl rfl rfl rfl bD) rfl λ tV _ _ => ⟨_, (.put rfl), ⟨rr, (ku (so sr)), ?_⟩⟩))
  refine tw 5 12 ?_ ?_
  ·refine  (Ox.cD rfl rfl rfl rfl fX rfl rfl ((gb [false, false, false, false, false] x0.Out rfl aJ.rd qx).mono ?_))
   rintro _ _ _ ⟨rfl, rfl, pz, rfl⟩
   refine ⟨_, (.put rfl), ⟨rr, (ku (so sr)), ?_⟩⟩
   refine tw 8 12 ?_ ?_
   ·refine  (Ox.cD rfl rfl rfl rfl o5 rfl rfl ((pF (⟨x0.aD, ⟨x0.af.ao, x0.af.ax⟩, x0.au, x0.Out, x0.aU⟩ : av) fD [x1] aE aJ aL pz (bV.lit z0 (aK.le (aK.cons (x := x1) rfl rfl aK.nil) rfl) rfl) sG).mono ?_))
    rintro _ yI _ ⟨iy, rfl, iB, rfl⟩
    refine ⟨_, (.put rfl), ⟨iy, (ku (so sr)), ?_⟩⟩
    refine Any.vs 3 [9, 10, 11] rfl ?_
    refine Any.on 12 rfl rfl (aP.to (Ox.alloc (cs := (List.toArray ([] ++ ([false, false, false, false, false].map Value.bool ++ [])))) rfl kB rfl λ rP _ _ => ⟨_, (.put rfl), ⟨rr, (ku (so (so sr))), ?_⟩⟩))
    refine Any.on 13 rfl rfl (aP.to (Ox.bG (cs' := _) rfl rfl rfl c8 (by simp [iB]) (cr aW (cr (ew λ _ => rfl) aW)) .here (by simp) (dZ (by simp [iB])) rfl (.refl _) ⟨rr, (ku (so (so sr))), ?_⟩))
    refine Any.vs 1 [14] rfl ?_
    exact Any.done (At.drop (so (so sr)) (wu _ _ _ ⟨iy, rfl, ay.sub ⟨rfl, rfl, rfl, rfl, trivial⟩⟩))
   refine  (aP.to (Ox.alloc (cs := (List.toArray ([] ++ ([false, false, false, false, false].map Value.bool ++ [])))) rfl kB rfl λ rP _ _ => ⟨_, (.put rfl), ⟨rr, (ku (so (so sr))), ?_⟩⟩))
   refine Any.cv 8 o5 (pF (⟨x0.aD, ⟨x0.af.ao, x0.af.ax⟩, x0.au, x0.Out, x0.aU⟩ : av) fD [x1] aE aJ aL pz (bV.lit z1 (aK.le (aK.cons (x := x1) rfl rfl aK.nil) rfl) rfl) sG) ?_
   rintro _ yI _ ⟨iy, rfl, iB, rfl⟩
   refine ⟨iy, (ku (so (so sr))), ?_⟩
   refine Any.vs 3 [9, 10, 11] rfl ?_
   refine Any.on 13 rfl rfl (aP.to (Ox.bG (cs' := _) rfl rfl rfl c8 (by simp [iB]) (cr aW (cr (ew λ _ => rfl) aW)) .here (by simp) (dZ (by simp [iB])) rfl (.refl _) ⟨rr, (ku (so (so sr))), ?_⟩))
   refine Any.vs 1 [14] rfl ?_
   exact Any.done (At.drop (so (so sr)) (wu _ _ _ ⟨iy, rfl, ay.sub ⟨rfl, rfl, rfl, rfl, trivial⟩⟩))
  refine  (aP.to (Ox.alloc (cs := (List.toArray ([] ++ ([false, false, false, false, false].map Value.bool ++ [])))) rfl kB rfl λ rP _ _ => ⟨_, (.put rfl), ⟨rr, (ku (so (so sr))), ?_⟩⟩))
  refine Any.cv 5 fX (gb [false, false, false, false, false] x0.Out rfl aJ.rd qx) ?_
  rintro _ _ _ ⟨rfl, rfl, pz, rfl⟩
  refine ⟨rr, (ku (so (so sr))), ?_⟩
  refine Any.cv 8 o5 (pF (⟨x0.aD, ⟨x0.af.ao, x0.af.ax⟩, x0.au, x0.Out, x0.aU⟩ : av) fD [x1] aE aJ aL pz (bV.lit z1 (aK.le (aK.cons (x := x1) rfl rfl aK.nil) rfl) rfl) sG) ?_
  rintro _ yI _ ⟨iy, rfl, iB, rfl⟩
  refine ⟨iy, (ku (so (so sr))), ?_⟩
  refine Any.vs 3 [9, 10, 11] rfl ?_
  refine Any.on 13 rfl rfl (aP.to (Ox.bG (cs' := _) rfl rfl rfl c8 (by simp [iB]) (cr aW (cr (ew λ _ => rfl) aW)) .here (by simp) (dZ (by simp [iB])) rfl (.refl _) ⟨rr, (ku (so (so sr))), ?_⟩))
  refine Any.vs 1 [14] rfl ?_
  exact Any.done (At.drop (so (so sr)) (wu _ _ _ ⟨iy, rfl, ay.sub ⟨rfl, rfl, rfl, rfl, trivial⟩⟩))
 refine  (aP.to (Ox.alloc (cs := (List.toArray ([] ++ ([false, false, false, false, false].map Value.bool ++ [])))) rfl kB rfl λ rP _ _ => ⟨_, (.put rfl), ⟨rr, (ku (so sr)), ?_⟩⟩))
 refine tw 5 7 ?_ ?_
 ·refine  (Ox.cD rfl rfl rfl rfl fX rfl rfl ((gb [false, false, false, false, false] x0.Out rfl aJ.rd qx).mono ?_))
  rintro _ _ _ ⟨rfl, rfl, pz, rfl⟩
  refine ⟨_, (.put rfl), ⟨rr, (ku (so sr)), ?_⟩⟩
  refine Any.on 7 rfl rfl (aP.to (Ox.buildSlice (cells := #[_]) rfl cW rfl (by decide) en (bq rfl rfl rfl rfl bD) rfl λ tV _ _ => ⟨_, (.put rfl), ⟨rr, (ku (so (so sr))), ?_⟩⟩))
  refine Any.cv 8 o5 (pF (⟨x0.aD, ⟨x0.af.ao, x0.af.ax⟩, x0.au, x0.Out, x0.aU⟩ : av) fD [x1] aE aJ aL pz (bV.lit z0 (aK.le (aK.cons (x := x1) rfl rfl aK.nil) rfl) rfl) sG) ?_
  rintro _ yI _ ⟨iy, rfl, iB, rfl⟩
  refine ⟨iy, (ku (so (so sr))), ?_⟩
  refine Any.vs 3 [9, 10, 11] rfl ?_
  refine Any.on 13 rfl rfl (aP.to (Ox.bG (cs' := _) rfl rfl rfl c8 (by simp [iB]) (cr aW (cr (ew λ _ => rfl) aW)) (.there .here) (by simp) (dZ (by simp [iB])) rfl (.refl _) ⟨rr, (ku (so (so sr))), ?_⟩))
  refine Any.vs 1 [14] rfl ?_
  exact Any.done (At.drop (so (so sr)) (wu _ _ _ ⟨iy, rfl, ay.sub ⟨rfl, rfl, rfl, rfl, trivial⟩⟩))
 refine  (aP.to (Ox.buildSlice (cells := #[_]) rfl cW rfl (by decide) en (bq rfl rfl rfl rfl bD) rfl λ tV _ _ => ⟨_, (.put rfl), ⟨rr, (ku (so (so sr))), ?_⟩⟩))
 refine Any.cv 5 fX (gb [false, false, false, false, false] x0.Out rfl aJ.rd qx) ?_
 rintro _ _ _ ⟨rfl, rfl, pz, rfl⟩
 refine ⟨rr, (ku (so (so sr))), ?_⟩
 refine Any.cv 8 o5 (pF (⟨x0.aD, ⟨x0.af.ao, x0.af.ax⟩, x0.au, x0.Out, x0.aU⟩ : av) fD [x1] aE aJ aL pz (bV.lit z0 (aK.le (aK.cons (x := x1) rfl rfl aK.nil) rfl) rfl) sG) ?_
 rintro _ yI _ ⟨iy, rfl, iB, rfl⟩
 refine ⟨iy, (ku (so (so sr))), ?_⟩
 refine Any.vs 3 [9, 10, 11] rfl ?_
 refine Any.on 13 rfl rfl (aP.to (Ox.bG (cs' := _) rfl rfl rfl c8 (by simp [iB]) (cr aW (cr (ew λ _ => rfl) aW)) (.there .here) (by simp) (dZ (by simp [iB])) rfl (.refl _) ⟨rr, (ku (so (so sr))), ?_⟩))
 refine Any.vs 1 [14] rfl ?_
 exact Any.done (At.drop (so (so sr)) (wu _ _ _ ⟨iy, rfl, ay.sub ⟨rfl, rfl, rfl, rfl, trivial⟩⟩))
theorem axD (x0 : av) (x1 : Int) {aG aI aM : Value} {b1 : Nat} (aE : az bI 5 R aG x0.au) (aJ : az CZ 1 R aI x0.Out) (aL : az bB 2 R aM x0.aU) (cK : aS R H b1 0 [iv x1]) {r : Int} (hM : Ae x0 x1 = some r) : aB ah 127 #[.agg #[iv x0.aD, iv x0.af.ao, iv x0.af.ax, aG, aI, aM], .pointer (some ⟨b1, 0, none⟩)] R H (λ v R' H' => R = R' ∧ H = H' ∧ v = iv r) := by
 unfold Ae at hM
 refine aB.bk Tryz.func127 rfl (n := 8) rfl rfl λ fr cs hk => ?_
 refine sg aR ?_
 refine bx λ Es => ?_
 refine vs 1 ?_
 refine es ?_
 refine sg bw ?_
 refine lN [_, _, _, _, _, _] 0 6 dS z0 ?_
 refine At.ld aV ((cK.sub (su (so sr))).one (j := 0) rfl) ?_
 obtain ⟨gm, qw, hM⟩ := aj hM
 refine At.cv NL (Ti x0 x1 aE aJ aL qw) ?_
 rintro _ _ _ ⟨rfl, rfl, rfl⟩
 refine vs 1 ?_
 refine er ?_
 refine sc hM (λ mF hM => ?_) (λ mF hM => ?_)
 ·refine sg aQ ?_
  refine vs 1 ?_
  refine er ?_
  obtain rfl := aa hM
  exact rt Tryz.func127 (.tmp rfl .nil) (so sr) (hk _ _ _ ⟨rfl, rfl, rfl⟩)
 refine sp ?_
 refine sg aQ ?_
 refine vs 1 ?_
 refine er ?_
 obtain rfl := aa hM
 exact rt Tryz.func127 (.tmp rfl .nil) (so sr) (hk _ _ _ ⟨rfl, rfl, rfl⟩)
theorem nF (x0 : Int) (x1 : Int)  {r : Bool} (hM : eJ x0 x1 = some r) : aB ah 183 #[iv x0, iv x1] R H (λ v R' H' => R = R' ∧ H = H' ∧ v = .bool r) := by
 unfold eJ at hM
 refine aB.bk Tryz.func183 rfl (n := 17) rfl rfl λ fr cs hk => ?_
 refine sg aQ ?_
 refine vs 1 ?_
 refine nx K8 ?_
 refine vs 1 ?_
 obtain ⟨gm, qw, hM⟩ := aj hM
 refine At.cv Ji (Kz x0  qw) ?_
 rintro _ _ _ ⟨rfl, rfl, rfl⟩
 refine vs 1 ?_
 refine bA hM (λ mF hM => ?_) (λ mF hM => ?_)
 ·refine At.kn 7 mF ?_
  refine vs 1 ?_
  obtain ⟨fC, oq, hM⟩ := aj hM
  refine At.cv Ji (Kz x1  oq) ?_
  rintro _ _ _ ⟨rfl, rfl, rfl⟩
  refine vs 3 ?_
  refine bA hM (λ mG hM => ?_) (λ mG hM => ?_)
  ·refine At.kn 12 mG ?_
   refine vs 5 ?_
   refine er ?_
   obtain rfl := aa hM
   exact rt Tryz.func183 (.tmp rfl .nil) sr (hk _ _ _ ⟨rfl, rfl, rfl⟩)
  refine At.kn 12 mG ?_
  refine vs 5 ?_
  refine er ?_
  obtain rfl := aa hM
  exact rt Tryz.func183 (.tmp rfl .nil) sr (hk _ _ _ ⟨rfl, rfl, rfl⟩)
 refine At.kn 7 mF ?_
 refine vs 10 ?_
 refine er ?_
 obtain rfl := aa hM
 exact rt Tryz.func183 (.tmp rfl .nil) sr (hk _ _ _ ⟨rfl, rfl, rfl⟩)
theorem ayk (x0 : (List Int)) (x1 : Int) (x2 : Int) {v0 : Value} {cQ : ak} (dU : bg CZ 1 3 R v0 x0 cQ) {r : (List Int)} (hM : xq x0 x1 x2 = some r) : aB ah 177 #[v0, iv x1, iv x2] R (cQ ++ H) (λ v R' H' => ∃ bF, (R = R' ∧ bg CZ 1 3 R' v0 r bF ∧ v = .tuple #[]) ∧ H' = bF ++ H) := by
 unfold xq at hM
 refine aB.bk Tryz.func177 rfl (n := 49) rfl rfl λ fr cs hk => ?_
 refine sg aT ?_
 refine vs 3 ?_
 refine er ?_
 refine At.block ?_
 refine At.eI hM (λ (pI : ((List Int) × Int)) R' H' st' => R = R' ∧ ∃ D3, bg CZ 1 3 R' v0 pI.1 D3 ∧ H' = D3 ++ (H) ∧ aF st' [(0, v0), (1, iv x1), (2, iv x2), (6, iv pI.2)]) (λ (KR : (List Int)) R' H' st' => R = R' ∧ ∃ Ic, bg CZ 1 3 R' v0 KR Ic ∧ H' = Ic ++ (H) ∧ aF st' [(0, v0)]) 0 rfl ⟨rfl, cQ, dU, rfl, ay.sub ⟨rfl, rfl, rfl, rfl, trivial⟩⟩ ?_ ?_
 rotate_right
 ·rintro pI aFA aDD aO0 ⟨rfl, D3, Zi, rfl, ape⟩ aRA hM ae1 ahN
  refine At.sub ape ?_
  refine sq ?_
  refine sg aT ?_
  refine vs 3 ?_
  refine er ?_
  refine sc hM (λ arB hM => ?_) (λ arB hM => ?_)
  ·refine sp ?_
   refine sq ?_
   refine At.block ?_
   refine sg aR ?_
   refine vs 2 ?_
   refine er ?_
   refine At.block ?_
   refine At.eI hM (λ (c9 : ((List Int) × Int)) R' H' st' => R = R' ∧ ∃ BB, bg CZ 1 3 R' v0 c9.1 BB ∧ H' = BB ++ (H) ∧ aF st' [(0, v0), (1, iv x1), (2, iv x2), (6, iv pI.2), (7, iv c9.2)]) (λ (KV : (List Int)) R' H' st' => R = R' ∧ ∃ Ih, bg CZ 1 3 R' v0 KV Ih ∧ H' = Ih ++ (H) ∧ aF st' [(0, v0), (1, iv x1), (2, iv x2), (6, iv pI.2)]) 2 rfl ⟨rfl, D3, Zi, rfl, ay.sub ⟨rfl, rfl, rfl, rfl, rfl, trivial⟩⟩ ?_ ?_
   rotate_right
   ·rintro c9 aF0 aD3 aPt ⟨rfl, BB, Ca, rfl, apI⟩ DE hM afd ahU
    refine At.sub apI ?_
    refine sq ?_
    refine sq ?_
    refine At.eZ hM (λ (C4 : Bool) R' H' st' => R = R' ∧ H' = BB ++ (H) ∧ aF st' [(0, v0), (1, iv x1), (2, iv x2), (6, iv pI.2), (7, iv c9.2), (30, .bool C4)])  ?_ ?_
    rotate_right
    ·intro UU hM X4
     refine At.dw xL mixed ?_
     refine Any.vs 4 [0, 1, 2, 3] rfl ?_
     refine bA hM (λ Rr hM => ?_) (λ Rr hM => ?_)
     ·refine Any.known (t := 19) rfl Rr ?_
      refine Any.vs 2 [4, 5] rfl ?_
      obtain ⟨HM, auL, hM⟩ := aj hM
      obtain ⟨yh, Sx, hM⟩ := aj hM
      obtain ⟨L0, auM, hM⟩ := aj hM
      obtain ⟨aJu, aOd, _, rfl, akd, amQ⟩ := (Ca.rd (λ _ h => (List.mem_append_left _ h))).elem bm auL
      refine Any.tk 6 rfl pp (λ R' H' hR hS => Ox.aX rfl rfl rfl amQ rfl (.one rfl) ⟨rfl, rfl, rfl⟩) ?_
      refine Any.tk 7 rfl pp (λ R' H' hR hS => Ox.bu rfl rfl aV (((akd.le hR).sub (λ p h => hS p (pp p h))).one (j := 0) rfl) rfl (.one rfl) ⟨rfl, rfl, rfl⟩) ?_
      refine Any.vs 3 [8, 9, 10] rfl ?_
      obtain ⟨aJv, aOe, _, rfl, ake, amR⟩ := (Ca.rd (λ _ h => (List.mem_append_left _ h))).elem bm Sx
      refine Any.tk 11 rfl pp (λ R' H' hR hS => Ox.aX rfl rfl rfl amR rfl (.one rfl) ⟨rfl, rfl, rfl⟩) ?_
      refine Any.tk 12 rfl pp (λ R' H' hR hS => Ox.bu rfl rfl aV (((ake.le hR).sub (λ p h => hS p (pp p h))).one (j := 0) rfl) rfl (.one rfl) ⟨rfl, rfl, rfl⟩) ?_
      refine Any.cv 13 nu (nF HM yh  auM) ?_
      rintro _ _ _ ⟨rfl, rfl, rfl⟩
      refine kp ?_
      refine Any.vs 1 [14] rfl ?_
      refine Any.done ?_
      exact X4 _ (aa hM).symm _ _ _ ⟨rfl, rfl, ay.sub ⟨rfl, rfl, rfl, rfl, rfl, rfl, trivial⟩⟩
     refine Any.known (t := 19) rfl Rr ?_
     refine Any.vs 11 [4, 5, 6, 7, 8, 9, 10, 11, 12, 13, 14] rfl ?_
     refine Any.done ?_
     exact X4 _ (aa hM).symm _ _ _ ⟨rfl, rfl, ay.sub ⟨rfl, rfl, rfl, rfl, rfl, rfl, trivial⟩⟩
    rintro C4 aF6 aD9 aPz ⟨rfl, rfl, apO⟩ hM
    refine At.sub apO ?_
    refine sc hM (λ arH hM => ?_) (λ arH hM => ?_)
    ·refine sp ?_
     refine sq ?_
     refine At.block ?_
     refine At.draw (n := 18) (is := [0, 1, 2, 3, 4, 5, 6, 7, 8, 9, 10, 11, 12, 13, 14, 15, 16, 17]) (many (BB ++ (H)) [(15, H), (17, H)]) mixed rfl (by decide +kernel) rfl rfl ?_
     refine Any.vs 8 [0, 1, 2, 3, 4, 5, 6, 7] rfl ?_
     obtain ⟨nV, Ge, hM⟩ := aj hM
     obtain ⟨rq, Gf, hM⟩ := aj hM
     obtain ⟨U0, auP, hM⟩ := aj hM
     obtain ⟨ac9, auQ, hM⟩ := aj hM
     obtain ⟨afZ, az2, _, rfl, O7, Px⟩ := (Ca.rd (λ _ h => (List.mem_append_left _ h))).elem bm Ge
     refine ts 8 [9, 14, 15, 16, 17] rfl (aN rfl (aN rfl (bf (su (aH sr))))) (su (aH sr)) (λ R' H' hR hS => Ox.aX rfl rfl rfl Px rfl (.one rfl) ⟨rfl, rfl, rfl⟩) ?_
     refine ts 9 [14, 15, 16, 17] rfl (aN rfl (aN rfl (bf pp))) pp (λ R' H' hR hS => Ox.bu rfl rfl aV (((O7.le hR).sub (λ p h => hS p (pp p h))).one (j := 0) rfl) rfl (.one rfl) ⟨rfl, rfl, rfl⟩) ?_
     refine Any.vs 2 [10, 11] rfl ?_
     obtain ⟨af0, az3, _, rfl, O8, Py⟩ := (Ca.rd (λ _ h => (List.mem_append_left _ h))).elem bm Gf
     refine ts 12 [13, 14, 15, 16, 17] rfl (aN rfl (aN rfl (bf (su (aH sr))))) (su (aH sr)) (λ R' H' hR hS => Ox.aX rfl rfl rfl Py rfl (.one rfl) ⟨rfl, rfl, rfl⟩) ?_
     refine ts 13 [14, 15, 16, 17] rfl (aN rfl (aN rfl (bf pp))) pp (λ R' H' hR hS => Ox.bu rfl rfl aV (((O8.le hR).sub (λ p h => hS p (pp p h))).one (j := 0) rfl) rfl (.one rfl) ⟨rfl, rfl, rfl⟩) ?_
     obtain ⟨aJx, aKH, _, rfl, rfl, aLy, alx, amT, aMa, av8, asF⟩ := Ca.eu bm auP
     refine ts 14 [15, 16, 17] rfl (aN rfl (aN rfl (bf (su (so sr))))) (su (so sr)) (λ R' H' hR hS => Ox.aX rfl rfl rfl amT rfl (.one rfl) ⟨rfl, rfl, rfl⟩) ?_
     refine Any.on 15 rfl rfl (aP.to (Ox.eC (K := CZ) (k := 1) (e := 3) (i := c9.2) (x' := nV) (pre := []) (mid := [iv U0]) (post := []) .id rfl rfl rfl rfl eV rfl (aq rfl aW) alx rfl rfl rfl av8 asF rfl rfl (.refl _) λ aE8 aoq => ⟨rr, (bL rfl (su (aH sr))), ?_⟩))
     obtain ⟨aJy, aKI, _, rfl, rfl, aLz, aly, amU, aMb, av9, asG⟩ := aoq.eu bm auQ
     refine ts 16 [17] rfl (aN rfl (aN rfl (bf (su (so sr))))) (su (so sr)) (λ R' H' hR hS => Ox.aX rfl rfl rfl amU rfl (.one rfl) ⟨rfl, rfl, rfl⟩) ?_
     refine Any.on 17 rfl rfl (aP.to (Ox.eC (K := CZ) (k := 1) (e := 3) (i := i64 (c9.2 - 1)) (x' := rq) (pre := []) (mid := [iv ac9]) (post := []) .id rfl rfl rfl rfl eV rfl (aq rfl aW) aly rfl rfl rfl av9 asG rfl rfl (.refl _) λ ad3 aor => ⟨rr, (bL rfl (su (aH sr))), ?_⟩))
     refine Any.done ?_
     refine At.inBlock ?_
     refine At.rg aT ?_
     refine vs 3 ?_
     refine er ?_
     exact afd _ (aa hM).symm _ _ _ ⟨rfl, ad3, aor, rfl, ay.sub ⟨rfl, rfl, rfl, rfl, rfl, trivial⟩⟩
    exact At.exit rfl (ahU _ (aa hM).symm _ _ _ ⟨rfl, BB, Ca, rfl, ay.sub ⟨rfl, rfl, rfl, rfl, trivial⟩⟩)
   rintro KV aF1 aD4 aPu ⟨rfl, Ih, anR, rfl, apJ⟩ hM
   refine At.sub apJ ?_
   refine At.inBlock ?_
   refine At.rg aT ?_
   refine vs 3 ?_
   refine er ?_
   exact ae1 _ (aa hM).symm _ _ _ ⟨rfl, Ih, anR, rfl, ay.sub ⟨rfl, rfl, rfl, rfl, trivial⟩⟩
  exact At.exit rfl (ahN _ (aa hM).symm _ _ _ ⟨rfl, D3, Zi, rfl, ay.sub ⟨rfl, trivial⟩⟩)
 rintro KR aFB aDE aO1 ⟨rfl, Ic, anQ, rfl, apf⟩ hM
 refine At.sub apf ?_
 obtain rfl := aa hM
 exact At.oc Tryz.func177 .nil (J.drop sr (hk _ _ _ ⟨Ic, ⟨rfl, anQ, rfl⟩, rfl⟩))
theorem aaY (x0 : (List Int)) (x1 : Int) (x2 : Int) (x3 : Int) {v0 : Value} {cQ : ak} (dU : bg CZ 1 3 R v0 x0 cQ) {r : (List Int)} (hM : xz x0 x1 x2 x3 = some r) : aB ah 189 #[v0, iv x1, iv x2, iv x3] R (cQ ++ H) (λ v R' H' => ∃ bF, (R = R' ∧ bg CZ 1 3 R' v0 r bF ∧ v = .tuple #[]) ∧ H' = bF ++ H) := by
 unfold xz at hM
 refine aB.bk Tryz.func189 rfl (n := 76) rfl rfl λ fr cs hk => ?_
 refine sg aR ?_
 refine vs 2 ?_
 refine er ?_
 refine At.block ?_
 refine At.eR hM (λ (dL : ((List Int) × Int)) R' H' st' => R = R' ∧ ∃ vJ, bg CZ 1 3 R' v0 dL.1 vJ ∧ H' = vJ ++ (H) ∧ aF st' [(0, v0), (2, iv x2), (3, iv x3), (8, iv dL.2)]) (λ (CX : (List Int)) R' H' st' => R = R' ∧ ∃ H9, bg CZ 1 3 R' v0 CX H9 ∧ H' = H9 ++ (H) ∧ aF st' [(0, v0)]) 0 rfl ⟨rfl, cQ, dU, rfl, ay.sub ⟨rfl, rfl, rfl, rfl, trivial⟩⟩ ?_ ?_
 rotate_right
 ·rintro dL aev adB aBd ⟨rfl, vJ, ur, rfl, Qj⟩ kz hM MV N6 KH
  refine At.sub Qj ?_
  refine At.block ?_
  refine sg bw ?_
  refine vs 4 ?_
  refine es ?_
  refine sg aT ?_
  refine vs 3 ?_
  refine er ?_
  refine sc hM (λ QF hM => ?_) (λ QF hM => ?_)
  ·exact At.exit rfl (N6 _ (aa hM).symm _ _ _ ⟨rfl, vJ, ur, rfl, ay.sub ⟨rfl, trivial⟩⟩)
  refine sp ?_
  refine sq ?_
  refine sq ?_
  refine At.eZ hM (λ (KQ : Bool) R' H' st' => R = R' ∧ H' = vJ ++ (H) ∧ aF st' [(0, v0), (2, iv x2), (3, iv x3), (8, iv dL.2), (9, iv (i64 ((i64 (2 * dL.2)) + 1))), (36, .bool KQ)])  ?_ ?_
  rotate_right
  ·intro HG hM XV
   refine At.dw Mm mixed ?_
   refine Any.vs 5 [0, 1, 2, 3, 4] rfl ?_
   refine bA hM (λ FE hM => ?_) (λ FE hM => ?_)
   ·refine Any.known (t := 21) rfl FE ?_
    refine Any.vs 4 [5, 6, 7, 8] rfl ?_
    obtain ⟨tv, RZ, hM⟩ := aj hM
    obtain ⟨yb, R7, hM⟩ := aj hM
    obtain ⟨A5, R8, hM⟩ := aj hM
    obtain ⟨aIJ, aNG, _, rfl, ajH, al8⟩ := (ur.rd (λ _ h => (List.mem_append_left _ h))).elem bm RZ
    refine Any.tk 9 rfl pp (λ R' H' hR hS => Ox.aX rfl rfl rfl al8 rfl (.one rfl) ⟨rfl, rfl, rfl⟩) ?_
    refine Any.tk 10 rfl pp (λ R' H' hR hS => Ox.bu rfl rfl aV (((ajH.le hR).sub (λ p h => hS p (pp p h))).one (j := 0) rfl) rfl (.one rfl) ⟨rfl, rfl, rfl⟩) ?_
    refine Any.vs 5 [11, 12, 13, 14, 15] rfl ?_
    obtain ⟨afV, az0, _, rfl, O5, Pu⟩ := (ur.rd (λ _ h => (List.mem_append_left _ h))).elem bm R7
    refine Any.tk 16 rfl pp (λ R' H' hR hS => Ox.aX rfl rfl rfl Pu rfl (.one rfl) ⟨rfl, rfl, rfl⟩) ?_
    refine Any.tk 17 rfl pp (λ R' H' hR hS => Ox.bu rfl rfl aV (((O5.le hR).sub (λ p h => hS p (pp p h))).one (j := 0) rfl) rfl (.one rfl) ⟨rfl, rfl, rfl⟩) ?_
    refine Any.cv 18 nu (nF tv yb  R8) ?_
    rintro _ _ _ ⟨rfl, rfl, rfl⟩
    refine kp ?_
    refine Any.vs 1 [19] rfl ?_
    refine Any.done ?_
    exact XV _ (aa hM).symm _ _ _ ⟨rfl, rfl, ay.sub ⟨rfl, rfl, rfl, rfl, rfl, rfl, trivial⟩⟩
   refine Any.known (t := 21) rfl FE ?_
   refine Any.vs 15 [5, 6, 7, 8, 9, 10, 11, 12, 13, 14, 15, 16, 17, 18, 19] rfl ?_
   refine Any.done ?_
   exact XV _ (aa hM).symm _ _ _ ⟨rfl, rfl, ay.sub ⟨rfl, rfl, rfl, rfl, rfl, rfl, trivial⟩⟩
  rintro KQ aFy aDB aOY ⟨rfl, rfl, apc⟩ hM
  refine At.sub apc ?_
  refine At.eZ hM (λ (uX : Int) R' H' st' => R = R' ∧ H' = vJ ++ (H) ∧ aF st' [(0, v0), (2, iv x2), (3, iv x3), (8, iv dL.2), (9, iv uX)])  ?_ ?_
  rotate_right
  ·intro aRz hM XW
   refine sc hM (λ ard hM => ?_) (λ ard hM => ?_)
   ·refine At.rg aT ?_
    refine vs 3 ?_
    refine er ?_
    exact XW _ (aa hM).symm _ _ _ ⟨rfl, rfl, ay.sub ⟨rfl, rfl, rfl, rfl, rfl, trivial⟩⟩
   refine sp ?_
   exact XW _ (aa hM).symm _ _ _ ⟨rfl, rfl, ay.sub ⟨rfl, rfl, rfl, rfl, rfl, trivial⟩⟩
  rintro uX aFz aDC aOZ ⟨rfl, rfl, apd⟩ hM
  refine At.sub apd ?_
  refine sq ?_
  refine sq ?_
  refine At.dw qR mixed ?_
  refine Any.vs 4 [0, 1, 2, 3] rfl ?_
  obtain ⟨UG, atm, hM⟩ := aj hM
  obtain ⟨UH, atn, hM⟩ := aj hM
  obtain ⟨acW, ato, hM⟩ := aj hM
  obtain ⟨aIL, aNI, _, rfl, ajJ, ama⟩ := (ur.rd (λ _ h => (List.mem_append_left _ h))).elem bm atm
  refine Any.tk 4 rfl pp (λ R' H' hR hS => Ox.aX rfl rfl rfl ama rfl (.one rfl) ⟨rfl, rfl, rfl⟩) ?_
  refine Any.tk 5 rfl pp (λ R' H' hR hS => Ox.bu rfl rfl aV (((ajJ.le hR).sub (λ p h => hS p (pp p h))).one (j := 0) rfl) rfl (.one rfl) ⟨rfl, rfl, rfl⟩) ?_
  refine Any.vs 4 [6, 7, 8, 9] rfl ?_
  obtain ⟨aIM, aNJ, _, rfl, ajK, amb⟩ := (ur.rd (λ _ h => (List.mem_append_left _ h))).elem bm atn
  refine Any.tk 10 rfl pp (λ R' H' hR hS => Ox.aX rfl rfl rfl amb rfl (.one rfl) ⟨rfl, rfl, rfl⟩) ?_
  refine Any.tk 11 rfl pp (λ R' H' hR hS => Ox.bu rfl rfl aV (((ajK.le hR).sub (λ p h => hS p (pp p h))).one (j := 0) rfl) rfl (.one rfl) ⟨rfl, rfl, rfl⟩) ?_
  refine Any.cv 12 nu (nF UG UH  ato) ?_
  rintro _ _ _ ⟨rfl, rfl, rfl⟩
  refine kp ?_
  refine Any.vs 1 [13] rfl ?_
  refine Any.done ?_
  refine sc hM (λ are hM => ?_) (λ are hM => ?_)
  ·replace hM := KH _ (aa hM).symm
   obtain rfl := aa hM
   exact rt Tryz.func189 .nil sr (hk _ _ _ ⟨vJ, ⟨rfl, ur, rfl⟩, rfl⟩)
  refine sp ?_
  refine sq ?_
  refine At.draw (n := 24) (is := [0, 1, 2, 3, 4, 5, 6, 7, 8, 9, 10, 11, 12, 13, 14, 15, 16, 17, 18, 19, 20, 21, 22, 23]) (many (vJ ++ (H)) [(21, H), (23, H)]) mixed rfl (by decide +kernel) rfl rfl ?_
  refine Any.vs 12 [0, 1, 2, 3, 4, 5, 6, 7, 8, 9, 10, 11] rfl ?_
  obtain ⟨LP, atq, hM⟩ := aj hM
  obtain ⟨vv, R9, hM⟩ := aj hM
  obtain ⟨k5, Sa, hM⟩ := aj hM
  obtain ⟨acX, atv, hM⟩ := aj hM
  obtain ⟨aIN, aNK, _, rfl, ajL, amc⟩ := (ur.rd (λ _ h => (List.mem_append_left _ h))).elem bm atq
  refine ts 12 [13, 20, 21, 22, 23] rfl (aN rfl (aN rfl (bf (su (aH sr))))) (su (aH sr)) (λ R' H' hR hS => Ox.aX rfl rfl rfl amc rfl (.one rfl) ⟨rfl, rfl, rfl⟩) ?_
  refine ts 13 [20, 21, 22, 23] rfl (aN rfl (aN rfl (bf pp))) pp (λ R' H' hR hS => Ox.bu rfl rfl aV (((ajL.le hR).sub (λ p h => hS p (pp p h))).one (j := 0) rfl) rfl (.one rfl) ⟨rfl, rfl, rfl⟩) ?_
  refine Any.vs 4 [14, 15, 16, 17] rfl ?_
  obtain ⟨aIO, aNL, _, rfl, ajM, amd⟩ := (ur.rd (λ _ h => (List.mem_append_left _ h))).elem bm R9
  refine ts 18 [19, 20, 21, 22, 23] rfl (aN rfl (aN rfl (bf (su (aH sr))))) (su (aH sr)) (λ R' H' hR hS => Ox.aX rfl rfl rfl amd rfl (.one rfl) ⟨rfl, rfl, rfl⟩) ?_
  refine ts 19 [20, 21, 22, 23] rfl (aN rfl (aN rfl (bf pp))) pp (λ R' H' hR hS => Ox.bu rfl rfl aV (((ajM.le hR).sub (λ p h => hS p (pp p h))).one (j := 0) rfl) rfl (.one rfl) ⟨rfl, rfl, rfl⟩) ?_
  obtain ⟨aIP, aKv, _, rfl, rfl, aLm, alj, ame, aLY, avW, ast⟩ := ur.eu bm Sa
  refine ts 20 [21, 22, 23] rfl (aN rfl (aN rfl (bf (su (so sr))))) (su (so sr)) (λ R' H' hR hS => Ox.aX rfl rfl rfl ame rfl (.one rfl) ⟨rfl, rfl, rfl⟩) ?_
  refine Any.on 21 rfl rfl (aP.to (Ox.eC (K := CZ) (k := 1) (e := 3) (i := i64 (x3 + dL.2)) (x' := LP) (pre := []) (mid := [iv k5]) (post := []) .id rfl rfl rfl rfl eV rfl (aq rfl aW) alj rfl rfl rfl avW ast rfl rfl (.refl _) λ aE2 aog => ⟨rr, (bL rfl (su (aH sr))), ?_⟩))
  obtain ⟨aIQ, aKw, _, rfl, rfl, aLn, alk, amf, aLZ, avX, asu⟩ := aog.eu bm atv
  refine ts 22 [23] rfl (aN rfl (aN rfl (bf (su (so sr))))) (su (so sr)) (λ R' H' hR hS => Ox.aX rfl rfl rfl amf rfl (.one rfl) ⟨rfl, rfl, rfl⟩) ?_
  refine Any.on 23 rfl rfl (aP.to (Ox.eC (K := CZ) (k := 1) (e := 3) (i := i64 (x3 + uX)) (x' := vv) (pre := []) (mid := [iv acX]) (post := []) .id rfl rfl rfl rfl eV rfl (aq rfl aW) alk rfl rfl rfl avX asu rfl rfl (.refl _) λ adY aoh => ⟨rr, (bL rfl (su (aH sr))), ?_⟩))
  refine Any.done ?_
  refine At.rg aR ?_
  refine vs 2 ?_
  refine er ?_
  refine At.inBlock ?_
  exact MV _ (aa hM).symm _ _ _ ⟨rfl, adY, aoh, rfl, ay.sub ⟨rfl, rfl, rfl, rfl, trivial⟩⟩
 rintro CX aew adC aBe ⟨rfl, H9, anO, rfl, Qk⟩ hM
 refine At.sub Qk ?_
 obtain rfl := aa hM
 exact At.oc Tryz.func189 .nil (J.drop sr (hk _ _ _ ⟨H9, ⟨rfl, anO, rfl⟩, rfl⟩))
theorem aym (x0 : (List Int)) (x1 : Int) (x2 : Int) {v0 : Value} {cQ : ak} (dU : bg CZ 1 3 R v0 x0 cQ) {r : (List Int)} (hM : xu x0 x1 x2 = some r) : aB ah 178 #[v0, iv x1, iv x2] R (cQ ++ H) (λ v R' H' => ∃ bF, (R = R' ∧ bg CZ 1 3 R' v0 r bF ∧ v = .tuple #[]) ∧ H' = bF ++ H) := by
 unfold xu at hM
 refine aB.bk Tryz.func178 rfl (n := 56) rfl rfl λ fr cs hk => ?_
 refine sg aR ?_
 refine vs 2 ?_
 refine nx aQ ?_
 refine vs 1 ?_
 refine nx bw ?_
 refine vs 4 ?_
 refine es ?_
 refine sg bw ?_
 refine vs 2 ?_
 obtain ⟨jJ, zQ, hM⟩ := aj hM
 refine At.s rfl rfl (Ox.quo rfl rfl rfl zQ rfl (.put rfl) ?_)
 refine vs 1 ?_
 refine er ?_
 refine At.block ?_
 refine At.eI hM (λ (qV : ((List Int) × Int)) R' H' st' => R = R' ∧ ∃ Ip, bg CZ 1 3 R' v0 qV.1 Ip ∧ H' = Ip ++ (H) ∧ aF st' [(0, v0), (6, iv x1), (7, iv 0), (8, iv (i64 (x2 - x1))), (9, iv qV.2)]) (λ (KZ : (List Int)) R' H' st' => R = R' ∧ ∃ Io, bg CZ 1 3 R' v0 KZ Io ∧ H' = Io ++ (H) ∧ aF st' [(0, v0), (6, iv x1), (7, iv 0), (8, iv (i64 (x2 - x1)))]) 0 rfl ⟨rfl, cQ, dU, rfl, ay.sub ⟨rfl, rfl, rfl, rfl, rfl, trivial⟩⟩ ?_ ?_
 rotate_right
 ·rintro qV R66 H66 aP1 ⟨rfl, Ip, Zl, rfl, aqg⟩ vB hM afn ah4
  refine At.sub aqg ?_
  refine sq ?_
  refine sg aR ?_
  refine vs 2 ?_
  refine er ?_
  refine sc hM (λ RI hM => ?_) (λ RI hM => ?_)
  ·refine sp ?_
   refine sq ?_
   refine At.block ?_
   refine At.rg cB ?_
   refine vs 4 ?_
   obtain ⟨rB, wT, hM⟩ := aj hM
   refine At.step rfl rfl rfl (Ox.cD rfl rfl rfl rfl XK rfl rfl ((aB.hole (G := (λ X => X ++ (H))) .id (aaY qV.1 qV.2 (i64 (x2 - x1)) x1 Zl wT)).mono ?_))
   rintro _ _ _ ⟨MD, ⟨rfl, P6, rfl⟩, rfl⟩
   refine ⟨_, (.put rfl), ?_⟩
   refine er ?_
   refine At.inBlock ?_
   refine At.rg aT ?_
   refine vs 3 ?_
   refine er ?_
   exact afn _ (aa hM).symm _ _ _ ⟨rfl, MD, P6, rfl, ay.sub ⟨rfl, rfl, rfl, rfl, rfl, trivial⟩⟩
  exact At.exit rfl (ah4 _ (aa hM).symm _ _ _ ⟨rfl, Ip, Zl, rfl, ay.sub ⟨rfl, rfl, rfl, rfl, trivial⟩⟩)
 rintro KZ aGq aEv aP2 ⟨rfl, Io, anY, rfl, aqh⟩ hM
 refine At.sub aqh ?_
 refine sg aT ?_
 refine vs 3 ?_
 refine er ?_
 refine At.block ?_
 refine At.eI hM (λ (jC : ((List Int) × Int)) R' H' st' => R = R' ∧ ∃ Ea, bg CZ 1 3 R' v0 jC.1 Ea ∧ H' = Ea ++ (H) ∧ aF st' [(0, v0), (6, iv x1), (7, iv 0), (10, iv jC.2)]) (λ (u5 : (List Int)) R' H' st' => R = R' ∧ ∃ Ir, bg CZ 1 3 R' v0 u5 Ir ∧ H' = Ir ++ (H) ∧ aF st' [(0, v0)]) 2 rfl ⟨rfl, Io, anY, rfl, ay.sub ⟨rfl, rfl, rfl, rfl, trivial⟩⟩ ?_ ?_
 rotate_right
 ·rintro jC R79 H79 aQh ⟨rfl, Ea, J1, rfl, aqw⟩ L9 hM afr EJ
  refine At.sub aqw ?_
  refine sq ?_
  refine sg aR ?_
  refine vs 2 ?_
  refine er ?_
  refine sc hM (λ Qy hM => ?_) (λ Qy hM => ?_)
  ·refine sp ?_
   refine sq ?_
   refine At.block ?_
   refine sq ?_
   refine At.draw (n := 20) (is := [0, 1, 2, 3, 4, 5, 6, 7, 8, 9, 10, 11, 12, 13, 14, 15, 16, 17, 18, 19]) (many (Ea ++ (H)) [(17, H), (19, H)]) mixed rfl (by decide +kernel) rfl rfl ?_
   refine Any.vs 10 [0, 1, 2, 3, 4, 5, 6, 7, 8, 9] rfl ?_
   obtain ⟨nT, RR, hM⟩ := aj hM
   obtain ⟨LG, asW, hM⟩ := aj hM
   obtain ⟨vu, F3, hM⟩ := aj hM
   obtain ⟨DW, RS, hM⟩ := aj hM
   obtain ⟨afR, azX, _, rfl, O2, Pp⟩ := (J1.rd (λ _ h => (List.mem_append_left _ h))).elem bm RR
   refine ts 10 [11, 16, 17, 18, 19] rfl (aN rfl (aN rfl (bf (su (aH sr))))) (su (aH sr)) (λ R' H' hR hS => Ox.aX rfl rfl rfl Pp rfl (.one rfl) ⟨rfl, rfl, rfl⟩) ?_
   refine ts 11 [16, 17, 18, 19] rfl (aN rfl (aN rfl (bf pp))) pp (λ R' H' hR hS => Ox.bu rfl rfl aV (((O2.le hR).sub (λ p h => hS p (pp p h))).one (j := 0) rfl) rfl (.one rfl) ⟨rfl, rfl, rfl⟩) ?_
   refine Any.vs 2 [12, 13] rfl ?_
   obtain ⟨aIo, aNr, _, rfl, ajt, alN⟩ := (J1.rd (λ _ h => (List.mem_append_left _ h))).elem bm asW
   refine ts 14 [15, 16, 17, 18, 19] rfl (aN rfl (aN rfl (bf (su (aH sr))))) (su (aH sr)) (λ R' H' hR hS => Ox.aX rfl rfl rfl alN rfl (.one rfl) ⟨rfl, rfl, rfl⟩) ?_
   refine ts 15 [16, 17, 18, 19] rfl (aN rfl (aN rfl (bf pp))) pp (λ R' H' hR hS => Ox.bu rfl rfl aV (((ajt.le hR).sub (λ p h => hS p (pp p h))).one (j := 0) rfl) rfl (.one rfl) ⟨rfl, rfl, rfl⟩) ?_
   obtain ⟨aIr, aKn, _, rfl, rfl, aLe, alb, alQ, aLQ, avO, asl⟩ := J1.eu bm F3
   refine ts 16 [17, 18, 19] rfl (aN rfl (aN rfl (bf (su (so sr))))) (su (so sr)) (λ R' H' hR hS => Ox.aX rfl rfl rfl alQ rfl (.one rfl) ⟨rfl, rfl, rfl⟩) ?_
   refine Any.on 17 rfl rfl (aP.to (Ox.eC (K := CZ) (k := 1) (e := 3) (i := x1) (x' := nT) (pre := []) (mid := [iv vu]) (post := []) .id rfl rfl rfl rfl eV rfl (aq rfl aW) alb rfl rfl rfl avO asl rfl rfl (.refl _) λ aEY aoa => ⟨rr, (bL rfl (su (aH sr))), ?_⟩))
   obtain ⟨aIw, aKq, _, rfl, rfl, aLh, ale, alV, aLT, avR, aso⟩ := aoa.eu bm RS
   refine ts 18 [19] rfl (aN rfl (aN rfl (bf (su (so sr))))) (su (so sr)) (λ R' H' hR hS => Ox.aX rfl rfl rfl alV rfl (.one rfl) ⟨rfl, rfl, rfl⟩) ?_
   refine Any.on 19 rfl rfl (aP.to (Ox.eC (K := CZ) (k := 1) (e := 3) (i := i64 (x1 + jC.2)) (x' := LG) (pre := []) (mid := [iv DW]) (post := []) .id rfl rfl rfl rfl eV rfl (aq rfl aW) ale rfl rfl rfl avR aso rfl rfl (.refl _) λ aEZ aob => ⟨rr, (bL rfl (su (aH sr))), ?_⟩))
   refine Any.done ?_
   refine At.rg cB ?_
   refine vs 4 ?_
   obtain ⟨tu, RU, hM⟩ := aj hM
   refine At.step rfl rfl rfl (Ox.cD rfl rfl rfl rfl XK rfl rfl ((aB.hole (G := (λ X => X ++ (H))) .id (aaY ((jC.1.set x1.toNat nT).set (i64 (x1 + jC.2)).toNat LG) 0 jC.2 x1 aob RU)).mono ?_))
   rintro _ _ _ ⟨ad9, ⟨rfl, aoA, rfl⟩, rfl⟩
   refine ⟨_, (.put rfl), ?_⟩
   refine er ?_
   refine At.inBlock ?_
   refine At.rg aT ?_
   refine vs 3 ?_
   refine er ?_
   exact afr _ (aa hM).symm _ _ _ ⟨rfl, ad9, aoA, rfl, ay.sub ⟨rfl, rfl, rfl, rfl, trivial⟩⟩
  exact At.exit rfl (EJ _ (aa hM).symm _ _ _ ⟨rfl, Ea, J1, rfl, ay.sub ⟨rfl, trivial⟩⟩)
 rintro u5 aeI adS aBr ⟨rfl, Ir, an1, rfl, Qx⟩ hM
 refine At.sub Qx ?_
 obtain rfl := aa hM
 exact At.oc Tryz.func178 .nil (J.drop sr (hk _ _ _ ⟨Ir, ⟨rfl, an1, rfl⟩, rfl⟩))
theorem ayz (x0 : Int)  {r : Int} (hM : GN x0 = some r) : aB ah 187 #[.int .u64 x0] R H (λ v R' H' => R = R' ∧ H = H' ∧ v = iv r) := by
 unfold GN at hM
 refine aB.bk Tryz.func187 rfl (n := 25) rfl rfl λ fr cs hk => ?_
 refine sg aQ ?_
 refine vs 1 ?_
 refine es ?_
 refine sg aR ?_
 refine vs 2 ?_
 refine er ?_
 refine At.eZ hM (λ (jz : (Int × Int)) R' H' st' => R = R' ∧ H = H' ∧ aF st' [(0, .int .u64 jz.1), (2, iv jz.2)])  ?_ ?_
 rotate_right
 ·intro cL hM vX
  refine sc hM (λ ux hM => ?_) (λ ux hM => ?_)
  ·refine sg aT ?_
   refine vs 1 ?_
   obtain ⟨jH, wN, hM⟩ := aj hM
   refine At.s rfl rfl (Ox.shr rfl rfl rfl wN rfl (.put rfl) ?_)
   refine vs 1 ?_
   refine er ?_
   refine At.rg aQ ?_
   refine vs 1 ?_
   refine er ?_
   exact vX _ (aa hM).symm _ _ _ ⟨rfl, rfl, ay.sub ⟨rfl, rfl, trivial⟩⟩
  refine sp ?_
  exact vX _ (aa hM).symm _ _ _ ⟨rfl, rfl, ay.sub ⟨rfl, rfl, trivial⟩⟩
 rintro jz MM Mr Ud ⟨rfl, rfl, zv⟩ hM
 refine At.sub zv ?_
 refine sq ?_
 refine sg aR ?_
 refine vs 2 ?_
 refine er ?_
 refine At.eZ hM (λ (u0 : (Int × Int)) R' H' st' => R = R' ∧ H = H' ∧ aF st' [(0, .int .u64 u0.1), (2, iv u0.2)])  ?_ ?_
 rotate_right
 ·intro lZ hM Ya
  refine sc hM (λ FO hM => ?_) (λ FO hM => ?_)
  ·refine sg aT ?_
   refine vs 1 ?_
   obtain ⟨fD, qx, hM⟩ := aj hM
   refine At.s rfl rfl (Ox.shr rfl rfl rfl qx rfl (.put rfl) ?_)
   refine vs 1 ?_
   refine er ?_
   refine At.rg aT ?_
   refine vs 3 ?_
   refine er ?_
   exact Ya _ (aa hM).symm _ _ _ ⟨rfl, rfl, ay.sub ⟨rfl, rfl, trivial⟩⟩
  refine sp ?_
  exact Ya _ (aa hM).symm _ _ _ ⟨rfl, rfl, ay.sub ⟨rfl, rfl, trivial⟩⟩
 rintro u0 aGh aEj aPJ ⟨rfl, rfl, apY⟩ hM
 refine At.sub apY ?_
 refine sq ?_
 refine sg aR ?_
 refine vs 2 ?_
 refine er ?_
 refine At.eZ hM (λ (mQ : (Int × Int)) R' H' st' => R = R' ∧ H = H' ∧ aF st' [(0, .int .u64 mQ.1), (2, iv mQ.2)])  ?_ ?_
 rotate_right
 ·intro rz hM Jn
  refine sc hM (λ uy hM => ?_) (λ uy hM => ?_)
  ·refine sg aT ?_
   refine vs 1 ?_
   obtain ⟨oS, zP, hM⟩ := aj hM
   refine At.s rfl rfl (Ox.shr rfl rfl rfl zP rfl (.put rfl) ?_)
   refine vs 1 ?_
   refine er ?_
   refine At.rg aT ?_
   refine vs 3 ?_
   refine er ?_
   exact Jn _ (aa hM).symm _ _ _ ⟨rfl, rfl, ay.sub ⟨rfl, rfl, trivial⟩⟩
  refine sp ?_
  exact Jn _ (aa hM).symm _ _ _ ⟨rfl, rfl, ay.sub ⟨rfl, rfl, trivial⟩⟩
 rintro mQ aeD adN aBm ⟨rfl, rfl, Qs⟩ hM
 refine At.sub Qs ?_
 refine sg fe ?_
 refine vs 2 ?_
 refine At.s rfl rfl (Ox.qa rfl rfl Tryz.underlying204 Tryz.underlying5 rfl (.put rfl) ?_)
 obtain ⟨pQ, Gi, hM⟩ := aj hM
 refine At.s rfl rfl (Ox.Kp rfl rfl rfl Tryz.underlying9 Gi rfl (.put rfl) ?_)
 refine At.s rfl rfl (Ox.qa rfl rfl Tryz.underlying5 Tryz.underlying3 rfl (.put rfl) ?_)
 refine vs 2 ?_
 refine er ?_
 obtain rfl := aa hM
 exact rt Tryz.func187 (.tmp rfl .nil) sr (hk _ _ _ ⟨rfl, rfl, rfl⟩)
theorem aaT (x0 : Int)  {r : Int} (hM : xp x0 = some r) : aB ah 170 #[.int .u64 x0] R H (λ v R' H' => R = R' ∧ H = H' ∧ v = iv r) := by
 unfold xp at hM
 refine aB.bk Tryz.func170 rfl (n := 8) rfl rfl λ fr cs hk => ?_
 refine sg aQ ?_
 refine vs 1 ?_
 refine es ?_
 refine At.cond_false rfl ?_
 refine sp ?_
 refine sg aT ?_
 refine vs 1 ?_
 obtain ⟨cy, eN, hM⟩ := aj hM
 refine At.cv ahb (ayz x0  eN) ?_
 rintro _ _ _ ⟨rfl, rfl, rfl⟩
 refine vs 1 ?_
 refine er ?_
 obtain rfl := aa hM
 exact rt Tryz.func170 (.tmp rfl .nil) sr (hk _ _ _ ⟨rfl, rfl, rfl⟩)
theorem ayD (x0 : Int)  {r : Int} (hM : Ap x0 = some r) : aB ah 190 #[iv x0] R H (λ v R' H' => R = R' ∧ H = H' ∧ v = .int .u64 r) := by
 unfold Ap at hM
 refine aB.bk Tryz.func190 rfl (n := 7) rfl rfl λ fr cs hk => ?_
 refine sg aQ ?_
 refine vs 1 ?_
 refine nx cB ?_
 refine vs 1 ?_
 refine At.s rfl rfl (Ox.qa rfl rfl Tryz.underlying3 Tryz.underlying189 rfl (.put rfl) ?_)
 obtain ⟨Be, Se, hM⟩ := aj hM
 refine At.cv XI (aaT (IntKind.wrap .u64 x0)  Se) ?_
 rintro _ _ _ ⟨rfl, rfl, rfl⟩
 obtain ⟨eW, ko, hM⟩ := aj hM
 refine At.s rfl rfl (Ox.shl rfl rfl rfl ko rfl (.put rfl) ?_)
 refine vs 1 ?_
 refine er ?_
 obtain rfl := aa hM
 exact rt Tryz.func190 (.tmp rfl .nil) sr (hk _ _ _ ⟨rfl, rfl, rfl⟩)
theorem ayE (x0 : Int) {b0 e0 : Nat}  {r : (Int × Int)} (hM : Aq x0 = some r) : aB ah 191 #[.pointer (some ⟨b0, 0, none⟩)] R ((b0, .cells #[.int .u64 x0] e0) :: H) (λ v R' H' => ∃ bF, (R = R' ∧ v = .int .u64 r.2 ∧ bF = [(b0, .cells #[.int .u64 r.1] e0)]) ∧ H' = bF ++ H) := by
 unfold Aq at hM
 refine aB.bk Tryz.func191 rfl (n := 33) rfl rfl λ fr cs hk => ?_
 refine sg aQ ?_
 refine vs 1 ?_
 refine es ?_
 refine At.draw (n := 10) (is := [0, 1, 2, 3, 4, 5, 6, 7, 8, 9]) (many ((b0, .cells #[.int .u64 x0] e0) :: H) [(9, H)]) mixed rfl (by decide +kernel) rfl rfl ?_
 refine Any.vs 1 [0] rfl ?_
 refine ts 1 [2, 7, 8, 9] rfl (aN rfl (bf (su (so sr)))) (su (so sr)) (λ R' H' hR hS => Ox.nilCheck rfl rfl rfl (.one rfl) ⟨rfl, rfl, rfl⟩) ?_
 refine ts 2 [7, 8, 9] rfl (aN rfl (bf pp)) pp (λ R' H' hR hS => Ox.bu rfl rfl qL ((aS.box (hS _ z0)).one (j := 0) rfl) rfl (.one rfl) ⟨rfl, rfl, rfl⟩) ?_
 refine Any.vs 1 [3] rfl ?_
 refine ts 4 [5, 6, 7, 8, 9] rfl (aN rfl (bf (su (so sr)))) (su (so sr)) (λ R' H' hR hS => Ox.nilCheck rfl rfl rfl (.one rfl) ⟨rfl, rfl, rfl⟩) ?_
 refine ts 5 [6, 7, 8, 9] rfl (aN rfl (bf pp)) pp (λ R' H' hR hS => Ox.bu rfl rfl qL ((aS.box (hS _ z0)).one (j := 0) rfl) rfl (.one rfl) ⟨rfl, rfl, rfl⟩) ?_
 obtain ⟨fC, oq, hM⟩ := aj hM
 refine ts 6 [7, 8, 9] rfl (aN rfl (bf (su (so sr)))) (su (so sr)) (λ R' H' hR hS => Ox.shl rfl rfl rfl oq rfl (.one rfl) ⟨rfl, rfl, rfl⟩) ?_
 obtain ⟨k6, zK, hM⟩ := aj hM
 refine ts 7 [8, 9] rfl (aN rfl (bf (su (so sr)))) (su (so sr)) (λ R' H' hR hS => Ox.bits rfl rfl rfl zK rfl (.one rfl) ⟨rfl, rfl, rfl⟩) ?_
 refine ts 8 [9] rfl (aN rfl (bf (su (so sr)))) (su (so sr)) (λ R' H' hR hS => Ox.nilCheck rfl rfl rfl (.one rfl) ⟨rfl, rfl, rfl⟩) ?_
 refine Any.on 9 rfl rfl (aP.to (Ox.cI (cs' := #[_]) rfl rfl rfl qL rfl .here rfl rfl rfl (.refl _) ⟨rr, (bL rfl (su (so sr))), ?_⟩))
 refine Any.done ?_
 refine sq ?_
 refine At.draw (n := 10) (is := [0, 1, 2, 3, 4, 5, 6, 7, 8, 9]) (many ((b0, .cells #[.int .u64 k6] e0) :: H) [(9, H)]) mixed rfl (by decide +kernel) rfl rfl ?_
 refine Any.vs 1 [0] rfl ?_
 refine ts 1 [2, 7, 8, 9] rfl (aN rfl (bf (su (so sr)))) (su (so sr)) (λ R' H' hR hS => Ox.nilCheck rfl rfl rfl (.one rfl) ⟨rfl, rfl, rfl⟩) ?_
 refine ts 2 [7, 8, 9] rfl (aN rfl (bf pp)) pp (λ R' H' hR hS => Ox.bu rfl rfl qL ((aS.box (hS _ z0)).one (j := 0) rfl) rfl (.one rfl) ⟨rfl, rfl, rfl⟩) ?_
 refine Any.vs 1 [3] rfl ?_
 refine ts 4 [5, 6, 7, 8, 9] rfl (aN rfl (bf (su (so sr)))) (su (so sr)) (λ R' H' hR hS => Ox.nilCheck rfl rfl rfl (.one rfl) ⟨rfl, rfl, rfl⟩) ?_
 refine ts 5 [6, 7, 8, 9] rfl (aN rfl (bf pp)) pp (λ R' H' hR hS => Ox.bu rfl rfl qL ((aS.box (hS _ z0)).one (j := 0) rfl) rfl (.one rfl) ⟨rfl, rfl, rfl⟩) ?_
 obtain ⟨lW, si, hM⟩ := aj hM
 refine ts 6 [7, 8, 9] rfl (aN rfl (bf (su (so sr)))) (su (so sr)) (λ R' H' hR hS => Ox.shr rfl rfl rfl si rfl (.one rfl) ⟨rfl, rfl, rfl⟩) ?_
 obtain ⟨dW, uE, hM⟩ := aj hM
 refine ts 7 [8, 9] rfl (aN rfl (bf (su (so sr)))) (su (so sr)) (λ R' H' hR hS => Ox.bits rfl rfl rfl uE rfl (.one rfl) ⟨rfl, rfl, rfl⟩) ?_
 refine ts 8 [9] rfl (aN rfl (bf (su (so sr)))) (su (so sr)) (λ R' H' hR hS => Ox.nilCheck rfl rfl rfl (.one rfl) ⟨rfl, rfl, rfl⟩) ?_
 refine Any.on 9 rfl rfl (aP.to (Ox.cI (cs' := #[_]) rfl rfl rfl qL rfl .here rfl rfl rfl (.refl _) ⟨rr, (bL rfl (su (so sr))), ?_⟩))
 refine Any.done ?_
 refine sq ?_
 refine At.draw (n := 10) (is := [0, 1, 2, 3, 4, 5, 6, 7, 8, 9]) (many ((b0, .cells #[.int .u64 dW] e0) :: H) [(9, H)]) mixed rfl (by decide +kernel) rfl rfl ?_
 refine Any.vs 1 [0] rfl ?_
 refine ts 1 [2, 7, 8, 9] rfl (aN rfl (bf (su (so sr)))) (su (so sr)) (λ R' H' hR hS => Ox.nilCheck rfl rfl rfl (.one rfl) ⟨rfl, rfl, rfl⟩) ?_
 refine ts 2 [7, 8, 9] rfl (aN rfl (bf pp)) pp (λ R' H' hR hS => Ox.bu rfl rfl qL ((aS.box (hS _ z0)).one (j := 0) rfl) rfl (.one rfl) ⟨rfl, rfl, rfl⟩) ?_
 refine Any.vs 1 [3] rfl ?_
 refine ts 4 [5, 6, 7, 8, 9] rfl (aN rfl (bf (su (so sr)))) (su (so sr)) (λ R' H' hR hS => Ox.nilCheck rfl rfl rfl (.one rfl) ⟨rfl, rfl, rfl⟩) ?_
 refine ts 5 [6, 7, 8, 9] rfl (aN rfl (bf pp)) pp (λ R' H' hR hS => Ox.bu rfl rfl qL ((aS.box (hS _ z0)).one (j := 0) rfl) rfl (.one rfl) ⟨rfl, rfl, rfl⟩) ?_
 obtain ⟨gY, sA, hM⟩ := aj hM
 refine ts 6 [7, 8, 9] rfl (aN rfl (bf (su (so sr)))) (su (so sr)) (λ R' H' hR hS => Ox.shl rfl rfl rfl sA rfl (.one rfl) ⟨rfl, rfl, rfl⟩) ?_
 obtain ⟨eD, mI, hM⟩ := aj hM
 refine ts 7 [8, 9] rfl (aN rfl (bf (su (so sr)))) (su (so sr)) (λ R' H' hR hS => Ox.bits rfl rfl rfl mI rfl (.one rfl) ⟨rfl, rfl, rfl⟩) ?_
 refine ts 8 [9] rfl (aN rfl (bf (su (so sr)))) (su (so sr)) (λ R' H' hR hS => Ox.nilCheck rfl rfl rfl (.one rfl) ⟨rfl, rfl, rfl⟩) ?_
 refine Any.on 9 rfl rfl (aP.to (Ox.cI (cs' := #[_]) rfl rfl rfl qL rfl .here rfl rfl rfl (.refl _) ⟨rr, (bL rfl (su (so sr))), ?_⟩))
 refine Any.done ?_
 refine sg bw ?_
 refine vs 1 ?_
 refine At.s rfl rfl (Ox.nilCheck rfl rfl rfl (.put rfl) ?_)
 refine ld 0 qL z0 ?_
 refine vs 1 ?_
 refine er ?_
 obtain rfl := aa hM
 exact rt Tryz.func191 (.tmp rfl .nil) sr (hk _ _ _ ⟨_, ⟨rfl, rfl, rfl⟩, rfl⟩)
theorem ayn (x0 : (List Int)) (x1 : Int) (x2 : Int) {v0 : Value} {cQ : ak} (dU : bg CZ 1 3 R v0 x0 cQ) {r : (List Int)} (hM : uQ x0 x1 x2 = some r) : aB ah 179 #[v0, iv x1, iv x2] R (cQ ++ H) (λ v R' H' => ∃ bF, (R = R' ∧ bg CZ 1 3 R' v0 r bF ∧ v = .tuple #[]) ∧ H' = bF ++ H) := by
 unfold uQ at hM
 refine aB.bk Tryz.func179 rfl (n := 65) rfl rfl λ fr cs hk => ?_
 refine sg bw ?_
 refine vs 4 ?_
 refine nx aR ?_
 refine vs 2 ?_
 refine er ?_
 refine sc hM (λ zF hM => ?_) (λ zF hM => ?_)
 ·refine sg bw ?_
  refine vs 1 ?_
  refine At.s rfl rfl (Ox.qa rfl rfl Tryz.underlying3 Tryz.underlying206 rfl (.put rfl) ?_)
  refine At.s rfl rfl (Ox.alloc (cs := #[.int .u64 0]) rfl aCW rfl λ rS _ _ => ⟨_, (.put rfl), ?_⟩)
  refine At.s rfl rfl (Ox.cI (cs' := #[_]) rfl rfl rfl qL rfl .here rfl rfl rfl (.refl _) ?_)
  refine nx aT ?_
  refine vs 1 ?_
  obtain ⟨fE, zU, hM⟩ := aj hM
  refine At.cv ahd (ayD (i64 (x2 - x1))  zU) ?_
  rintro _ _ _ ⟨rfl, rfl, rfl⟩
  refine vs 1 ?_
  refine nx fe ?_
  refine vs 2 ?_
  obtain ⟨mZ, wS, hM⟩ := aj hM
  refine At.s rfl rfl (Ox.quo rfl rfl rfl wS rfl (.put rfl) ?_)
  refine vs 4 ?_
  refine er ?_
  refine At.block ?_
  refine At.eI hM (λ (ji : ((List Int) × Int × Int)) R' H' st' => R = R' ∧ ∃ yz, bg CZ 1 3 R' v0 ji.1 yz ∧ H' = (rS, .cells #[.int .u64 ji.2.2] 206) :: yz ++ (H) ∧ aF st' [(0, v0), (1, iv x1), (6, iv (i64 (x2 - x1))), (7, .pointer (some ⟨rS, 0, none⟩)), (8, .int .u64 fE), (9, iv ji.2.1)]) (λ (K4 : (List Int)) R' H' st' => R = R' ∧ ∃ Iq, bg CZ 1 3 R' v0 K4 Iq ∧ H' = Iq ++ (H) ∧ aF st' [(0, v0)]) 0 rfl ⟨rfl, cQ, dU, rfl, ay.sub ⟨rfl, rfl, rfl, rfl, rfl, rfl, trivial⟩⟩ ?_ ?_
  rotate_right
  ·rintro ji R74 H74 aQd ⟨rfl, yz, J0, rfl, aqs⟩ iF hM afp ah9
   refine At.sub aqs ?_
   refine sq ?_
   refine sg eK ?_
   refine vs 3 ?_
   obtain ⟨vu, F3, hM⟩ := aj hM
   refine At.s rfl rfl (Ox.quo rfl rfl rfl F3 rfl (.put rfl) ?_)
   refine vs 4 ?_
   refine er ?_
   refine sc hM (λ QA hM => ?_) (λ QA hM => ?_)
   ·refine sp ?_
    refine sq ?_
    refine At.block ?_
    refine sg c6 ?_
    obtain ⟨tu, RU, hM⟩ := aj hM
    refine At.step rfl rfl rfl (Ox.cD rfl rfl rfl rfl ahe rfl rfl ((aB.hole (G := (λ X => X ++ (yz ++ (H)))) (Hs := [(rS, _)]) .id (ayE ji.2.2  RU)).mono ?_))
    rintro _ _ _ ⟨_, ⟨rfl, rfl, rfl⟩, rfl⟩
    refine ⟨_, (.put rfl), ?_⟩
    refine vs 2 ?_
    obtain ⟨A3, RV, hM⟩ := aj hM
    refine At.s rfl rfl (Ox.bits rfl rfl rfl RV rfl (.put rfl) ?_)
    refine At.s rfl rfl (Ox.qa rfl rfl Tryz.underlying189 Tryz.underlying3 rfl (.put rfl) ?_)
    refine vs 1 ?_
    refine es ?_
    refine sg aT ?_
    refine vs 3 ?_
    refine er ?_
    refine At.eZ hM (λ (sV : Int) R' H' st' => R = R' ∧ H' = (rS, .cells #[.int .u64 tu.1] 206) :: yz ++ (H) ∧ aF st' [(0, v0), (1, iv x1), (6, iv (i64 (x2 - x1))), (7, .pointer (some ⟨rS, 0, none⟩)), (8, .int .u64 fE), (9, iv ji.2.1), (10, iv sV)])  ?_ ?_
    rotate_right
    ·intro LJ hM Jl
     refine sc hM (λ Fz hM => ?_) (λ Fz hM => ?_)
     ·refine At.rg bw ?_
      refine vs 4 ?_
      refine er ?_
      exact Jl _ (aa hM).symm _ _ _ ⟨rfl, rfl, ay.sub ⟨rfl, rfl, rfl, rfl, rfl, rfl, rfl, trivial⟩⟩
     refine sp ?_
     exact Jl _ (aa hM).symm _ _ _ ⟨rfl, rfl, ay.sub ⟨rfl, rfl, rfl, rfl, rfl, rfl, rfl, trivial⟩⟩
    rintro sV aex adD aBf ⟨rfl, rfl, Ql⟩ hM
    refine At.sub Ql ?_
    refine At.draw (n := 20) (is := [0, 1, 2, 3, 4, 5, 6, 7, 8, 9, 10, 11, 12, 13, 14, 15, 16, 17, 18, 19]) (many ((rS, .cells #[.int .u64 tu.1] 206) :: yz ++ (H)) [(17, (rS, .cells #[.int .u64 tu.1] 206) :: H), (19, (rS, .cells #[.int .u64 tu.1] 206) :: H)]) mixed rfl (by decide +kernel) rfl rfl ?_
    refine Any.vs 10 [0, 1, 2, 3, 4, 5, 6, 7, 8, 9] rfl ?_
    obtain ⟨LK, as5, hM⟩ := aj hM
    obtain ⟨vF, J9, hM⟩ := aj hM
    obtain ⟨DX, RX, hM⟩ := aj hM
    obtain ⟨acS, as6, hM⟩ := aj hM
    obtain ⟨aIz, aNy, _, rfl, ajA, alY⟩ := (J0.rd (λ _ h => (.tail _ (List.mem_append_left _ h)))).elem bm as5
    refine ts 10 [11, 16, 17, 18, 19] rfl (aN rfl (aN rfl (bf (su (so (aH sr)))))) (su (so (aH sr))) (λ R' H' hR hS => Ox.aX rfl rfl rfl alY rfl (.one rfl) ⟨rfl, rfl, rfl⟩) ?_
    refine ts 11 [16, 17, 18, 19] rfl (aN rfl (aN rfl (bf pp))) pp (λ R' H' hR hS => Ox.bu rfl rfl aV (((ajA.le hR).sub (λ p h => hS p (pp p h))).one (j := 0) rfl) rfl (.one rfl) ⟨rfl, rfl, rfl⟩) ?_
    refine Any.vs 2 [12, 13] rfl ?_
    obtain ⟨afS, azY, _, rfl, O3, Pq⟩ := (J0.rd (λ _ h => (.tail _ (List.mem_append_left _ h)))).elem bm J9
    refine ts 14 [15, 16, 17, 18, 19] rfl (aN rfl (aN rfl (bf (su (so (aH sr)))))) (su (so (aH sr))) (λ R' H' hR hS => Ox.aX rfl rfl rfl Pq rfl (.one rfl) ⟨rfl, rfl, rfl⟩) ?_
    refine ts 15 [16, 17, 18, 19] rfl (aN rfl (aN rfl (bf pp))) pp (λ R' H' hR hS => Ox.bu rfl rfl aV (((O3.le hR).sub (λ p h => hS p (pp p h))).one (j := 0) rfl) rfl (.one rfl) ⟨rfl, rfl, rfl⟩) ?_
    obtain ⟨afT, aKr, _, rfl, rfl, Y6, alf, Pr, aLU, avS, asp⟩ := J0.eu bm RX
    refine ts 16 [17, 18, 19] rfl (aN rfl (aN rfl (bf (su (so (so sr)))))) (su (so (so sr))) (λ R' H' hR hS => Ox.aX rfl rfl rfl Pr rfl (.one rfl) ⟨rfl, rfl, rfl⟩) ?_
    refine Any.on 17 rfl rfl (aP.to (Ox.eC (K := CZ) (k := 1) (e := 3) (i := ji.2.1) (x' := LK) (pre := []) (mid := [iv DX]) (post := []) (.cons .id) rfl rfl rfl rfl eV rfl (aq rfl aW) alf rfl rfl rfl avS asp rfl rfl (.refl _) λ aE0 aoc => ⟨rr, (bL rfl (su (sk (aH sr)))), ?_⟩))
    obtain ⟨aIA, aKs, _, rfl, rfl, aLi, alg, alZ, aLV, avT, asq⟩ := aoc.eu bm as6
    refine ts 18 [19] rfl (aN rfl (aN rfl (bf (su (so (so sr)))))) (su (so (so sr))) (λ R' H' hR hS => Ox.aX rfl rfl rfl alZ rfl (.one rfl) ⟨rfl, rfl, rfl⟩) ?_
    refine Any.on 19 rfl rfl (aP.to (Ox.eC (K := CZ) (k := 1) (e := 3) (i := i64 (x1 + sV)) (x' := vF) (pre := []) (mid := [iv acS]) (post := []) (.cons .id) rfl rfl rfl rfl eV rfl (aq rfl aW) alg rfl rfl rfl avT asq rfl rfl (.refl _) λ adW aod => ⟨rr, (bL rfl (su (sk (aH sr)))), ?_⟩))
    refine Any.done ?_
    refine At.inBlock ?_
    refine At.rg aT ?_
    refine vs 3 ?_
    refine er ?_
    exact afp _ (aa hM).symm _ _ _ ⟨rfl, adW, aod, rfl, ay.sub ⟨rfl, rfl, rfl, rfl, rfl, rfl, trivial⟩⟩
   exact At.exit rfl (At.drop (so sr) (ah9 _ (aa hM).symm _ _ _ ⟨rfl, yz, J0, rfl, ay.sub ⟨rfl, trivial⟩⟩))
  rintro K4 aGv aEB aQe ⟨rfl, Iq, an0, rfl, aqt⟩ hM
  refine At.sub aqt ?_
  obtain rfl := aa hM
  exact At.oc Tryz.func179 .nil (J.drop sr (hk _ _ _ ⟨Iq, ⟨rfl, an0, rfl⟩, rfl⟩))
 refine sp ?_
 obtain rfl := aa hM
 exact At.oc Tryz.func179 .nil (J.drop sr (hk _ _ _ ⟨cQ, ⟨rfl, dU, rfl⟩, rfl⟩))
theorem Ts (x0 : (List Int)) (x1 : Int) (x2 : Int) (x3 : Int) {v0 : Value} {b3 e3 : Nat} (h0 : bV CZ 1 R H v0 x0) {r : (Int × Int × Int)} (hM : pD x0 x1 x2 x3 = some r) : aB ah 194 #[v0, iv x1, iv x2, .pointer (some ⟨b3, 0, none⟩)] R ((b3, .cells #[iv x3] e3) :: H) (λ v R' H' => ∃ bF, (R = R' ∧ v = .tuple #[iv r.2.1, iv r.2.2] ∧ bF = [(b3, .cells #[iv r.1] e3)]) ∧ H' = bF ++ H) := by
 unfold pD at hM
 refine aB.bk Tryz.func194 rfl (n := 28) rfl rfl λ fr cs hk => ?_
 refine sg aR ?_
 refine vs 2 ?_
 refine es ?_
 refine sq ?_
 refine At.dw iG mixed ?_
 refine Any.vs 2 [0, 1] rfl ?_
 obtain ⟨gm, qw, hM⟩ := aj hM
 obtain ⟨fB, mH, hM⟩ := aj hM
 obtain ⟨fC, oq, hM⟩ := aj hM
 obtain ⟨aI2, aNV, _, rfl, ajW, ams⟩ := h0.elem bm qw
 refine Any.tk 2 rfl pp (λ R' H' hR hS => Ox.aX rfl rfl rfl ams rfl (.one rfl) ⟨rfl, rfl, rfl⟩) ?_
 refine Any.tk 3 rfl pp (λ R' H' hR hS => Ox.bu rfl rfl aV (((ajW.le hR).sub (λ p h => hS p ((su (so sr)) p h))).one (j := 0) rfl) rfl (.one rfl) ⟨rfl, rfl, rfl⟩) ?_
 refine Any.vs 2 [4, 5] rfl ?_
 obtain ⟨aI7, aN0, _, rfl, aj1, amx⟩ := h0.elem bm mH
 refine Any.tk 6 rfl pp (λ R' H' hR hS => Ox.aX rfl rfl rfl amx rfl (.one rfl) ⟨rfl, rfl, rfl⟩) ?_
 refine Any.tk 7 rfl pp (λ R' H' hR hS => Ox.bu rfl rfl aV (((aj1.le hR).sub (λ p h => hS p ((su (so sr)) p h))).one (j := 0) rfl) rfl (.one rfl) ⟨rfl, rfl, rfl⟩) ?_
 refine Any.cv 8 nu (nF gm fB  oq) ?_
 rintro _ _ _ ⟨rfl, rfl, rfl⟩
 refine kp ?_
 refine Any.done ?_
 refine sc hM (λ mG hM => ?_) (λ mG hM => ?_)
 ·refine sg c6 ?_
  refine vs 1 ?_
  refine At.s rfl rfl (Ox.nilCheck rfl rfl rfl (.put rfl) ?_)
  refine ld 0 aV z0 ?_
  refine vs 1 ?_
  refine At.s rfl rfl (Ox.nilCheck rfl rfl rfl (.put rfl) ?_)
  refine At.s rfl rfl (Ox.cI (cs' := #[_]) rfl rfl rfl aV rfl .here rfl rfl rfl (.refl _) ?_)
  refine nx bw ?_
  refine vs 4 ?_
  refine er ?_
  obtain rfl := aa hM
  exact rt Tryz.func194 (.tmp rfl (.tmp rfl .nil)) sr (hk _ _ _ ⟨_, ⟨rfl, rfl, rfl⟩, rfl⟩)
 refine sp ?_
 refine sg bw ?_
 refine vs 4 ?_
 refine er ?_
 obtain rfl := aa hM
 exact rt Tryz.func194 (.tmp rfl (.tmp rfl .nil)) sr (hk _ _ _ ⟨_, ⟨rfl, rfl, rfl⟩, rfl⟩)
theorem Tq (x0 : (List Int)) (x1 : Int) (x2 : Int) (x3 : Int) (x4 : Int) {v0 : Value} {b4 e4 : Nat} (h0 : bV CZ 1 R H v0 x0) {r : (Int × Int)} (hM : qG x0 x1 x2 x3 x4 = some r) : aB ah 193 #[v0, iv x1, iv x2, iv x3, .pointer (some ⟨b4, 0, none⟩)] R ((b4, .cells #[iv x4] e4) :: H) (λ v R' H' => ∃ bF, (R = R' ∧ v = iv r.2 ∧ bF = [(b4, .cells #[iv r.1] e4)]) ∧ H' = bF ++ H) := by
 unfold qG at hM
 refine aB.bk Tryz.func193 rfl (n := 36) rfl rfl λ fr cs hk => ?_
 refine sg aQ ?_
 refine vs 1 ?_
 refine nx mS ?_
 refine vs 4 ?_
 obtain ⟨eW, ko, hM⟩ := aj hM
 refine At.step rfl rfl rfl (Ox.cD rfl rfl rfl rfl NU rfl rfl ((aB.hole (G := (λ X => X ++ (H))) (Hs := [(b4, _)]) .id (Ts x0 x1 x2 x4 (h0.sub pp) ko)).mono ?_))
 rintro _ _ _ ⟨_, ⟨rfl, rfl, rfl⟩, rfl⟩
 refine ⟨_, (.put rfl), ?_⟩
 refine vs 5 ?_
 refine nx mS ?_
 refine vs 4 ?_
 obtain ⟨gm, qw, hM⟩ := aj hM
 refine At.step rfl rfl rfl (Ox.cD rfl rfl rfl rfl NU rfl rfl ((aB.hole (G := (λ X => X ++ (H))) (Hs := [(b4, _)]) .id (Ts x0 eW.2.2 x3 eW.1 (h0.sub pp) qw)).mono ?_))
 rintro _ _ _ ⟨_, ⟨rfl, rfl, rfl⟩, rfl⟩
 refine ⟨_, (.put rfl), ?_⟩
 refine vs 5 ?_
 refine nx mS ?_
 refine vs 4 ?_
 obtain ⟨fB, mH, hM⟩ := aj hM
 refine At.step rfl rfl rfl (Ox.cD rfl rfl rfl rfl NU rfl rfl ((aB.hole (G := (λ X => X ++ (H))) (Hs := [(b4, _)]) .id (Ts x0 eW.2.1 gm.2.1 gm.1 (h0.sub pp) mH)).mono ?_))
 rintro _ _ _ ⟨_, ⟨rfl, rfl, rfl⟩, rfl⟩
 refine ⟨_, (.put rfl), ?_⟩
 refine vs 5 ?_
 refine nx aR ?_
 refine vs 2 ?_
 refine er ?_
 obtain rfl := aa hM
 exact rt Tryz.func193 (.tmp rfl .nil) sr (hk _ _ _ ⟨_, ⟨rfl, rfl, rfl⟩, rfl⟩)
theorem To (x0 : (List Int)) (x1 : Int) (x2 : Int) {v0 : Value} {b2 e2 : Nat} (h0 : bV CZ 1 R H v0 x0) {r : (Int × Int)} (hM : pC x0 x1 x2 = some r) : aB ah 192 #[v0, iv x1, .pointer (some ⟨b2, 0, none⟩)] R ((b2, .cells #[iv x2] e2) :: H) (λ v R' H' => ∃ bF, (R = R' ∧ v = iv r.2 ∧ bF = [(b2, .cells #[iv r.1] e2)]) ∧ H' = bF ++ H) := by
 unfold pC at hM
 refine aB.bk Tryz.func192 rfl (n := 15) rfl rfl λ fr cs hk => ?_
 refine sg aQ ?_
 refine vs 1 ?_
 refine nx iG ?_
 refine vs 7 ?_
 obtain ⟨cy, eN, hM⟩ := aj hM
 refine At.step rfl rfl rfl (Ox.cD rfl rfl rfl rfl NT rfl rfl ((aB.hole (G := (λ X => X ++ (H))) (Hs := [(b2, _)]) .id (Tq x0 (i64 (x1 - 1)) x1 (i64 (x1 + 1)) x2 (h0.sub pp) eN)).mono ?_))
 rintro _ _ _ ⟨_, ⟨rfl, rfl, rfl⟩, rfl⟩
 refine ⟨_, (.put rfl), ?_⟩
 refine vs 1 ?_
 refine er ?_
 obtain rfl := aa hM
 exact rt Tryz.func192 (.tmp rfl .nil) sr (hk _ _ _ ⟨_, ⟨rfl, rfl, rfl⟩, rfl⟩)
theorem ayp (x0 : (List Int)) (x1 : Int) (x2 : Int) {v0 : Value} (h0 : bV CZ 1 R H v0 x0) {r : (Int × Int)} (hM : xw x0 x1 x2 = some r) : aB ah 180 #[v0, iv x1, iv x2] R H (λ v R' H' => R = R' ∧ H = H' ∧ v = .tuple #[iv r.1, iv r.2]) := by
 unfold xw at hM
 refine aB.bk Tryz.func180 rfl (n := 57) rfl rfl λ fr cs hk => ?_
 refine sg aR ?_
 refine vs 2 ?_
 refine nx bw ?_
 refine vs 4 ?_
 refine nx aQ ?_
 refine At.s rfl rfl (Ox.alloc (cs := #[iv 0]) rfl rC rfl λ kI _ _ => ⟨_, (.put rfl), ?_⟩)
 refine nx c6 ?_
 refine vs 2 ?_
 obtain ⟨fV, sF, hM⟩ := aj hM
 refine At.s rfl rfl (Ox.quo rfl rfl rfl sF rfl (.put rfl) ?_)
 refine vs 3 ?_
 refine nx c6 ?_
 refine vs 2 ?_
 obtain ⟨ry, SB, hM⟩ := aj hM
 refine At.s rfl rfl (Ox.quo rfl rfl rfl SB rfl (.put rfl) ?_)
 refine vs 3 ?_
 refine nx c6 ?_
 refine vs 2 ?_
 obtain ⟨eL, oC, hM⟩ := aj hM
 refine At.s rfl rfl (Ox.quo rfl rfl rfl oC rfl (.put rfl) ?_)
 refine vs 3 ?_
 refine es ?_
 refine sg aR ?_
 refine vs 2 ?_
 refine er ?_
 refine At.eZ hM (λ (mP : (Int × Int)) R' H' st' => R = R' ∧ H' = (kI, .cells #[iv mP.2] 3) :: H ∧ aF st' [(9, .pointer (some ⟨kI, 0, none⟩)), (11, iv mP.1)])  ?_ ?_
 rotate_right
 ·intro fD hM EG
  refine sc hM (λ FP hM => ?_) (λ FP hM => ?_)
  ·refine sq ?_
   refine sg aR ?_
   refine vs 2 ?_
   refine er ?_
   refine sc hM (λ oo hM => ?_) (λ oo hM => ?_)
   ·refine sg bw ?_
    refine vs 2 ?_
    obtain ⟨ei, kP, hM⟩ := aj hM
    refine At.step rfl rfl rfl (Ox.cD rfl rfl rfl rfl NS rfl rfl ((aB.hole (G := (λ X => X ++ (H))) (Hs := [(kI, _)]) .id (To x0 (i64 (x1 + (i64 (fV * 1)))) 0 (h0.sub pp) kP)).mono ?_))
    rintro _ _ _ ⟨_, ⟨rfl, rfl, rfl⟩, rfl⟩
    refine ⟨_, (.put rfl), ?_⟩
    refine vs 1 ?_
    refine nx bw ?_
    refine vs 2 ?_
    obtain ⟨eF, oD, hM⟩ := aj hM
    refine At.step rfl rfl rfl (Ox.cD rfl rfl rfl rfl NS rfl rfl ((aB.hole (G := (λ X => X ++ (H))) (Hs := [(kI, _)]) .id (To x0 (i64 (x1 + (i64 (ry * 2)))) ei.1 (h0.sub pp) oD)).mono ?_))
    rintro _ _ _ ⟨_, ⟨rfl, rfl, rfl⟩, rfl⟩
    refine ⟨_, (.put rfl), ?_⟩
    refine vs 1 ?_
    refine er ?_
    refine At.rg bw ?_
    refine vs 2 ?_
    obtain ⟨dH, SG, hM⟩ := aj hM
    refine At.step rfl rfl rfl (Ox.cD rfl rfl rfl rfl NS rfl rfl ((aB.hole (G := (λ X => X ++ (H))) (Hs := [(kI, _)]) .id (To x0 (i64 (x1 + (i64 (eL * 3)))) eF.1 (h0.sub pp) SG)).mono ?_))
    rintro _ _ _ ⟨_, ⟨rfl, rfl, rfl⟩, rfl⟩
    refine ⟨_, (.put rfl), ?_⟩
    refine vs 1 ?_
    refine er ?_
    refine At.rg c6 ?_
    refine vs 4 ?_
    obtain ⟨k7, uH, hM⟩ := aj hM
    refine At.step rfl rfl rfl (Ox.cD rfl rfl rfl rfl NT rfl rfl ((aB.hole (G := (λ X => X ++ (H))) (Hs := [(kI, _)]) .id (Tq x0 ei.2 eF.2 dH.2 dH.1 (h0.sub pp) uH)).mono ?_))
    rintro _ _ _ ⟨_, ⟨rfl, rfl, rfl⟩, rfl⟩
    refine ⟨_, (.put rfl), ?_⟩
    refine vs 1 ?_
    refine er ?_
    exact EG _ (aa hM).symm _ _ _ ⟨rfl, rfl, ay.sub ⟨rfl, rfl, trivial⟩⟩
   refine sp ?_
   refine At.rg c6 ?_
   refine vs 4 ?_
   obtain ⟨DK, avf, hM⟩ := aj hM
   refine At.step rfl rfl rfl (Ox.cD rfl rfl rfl rfl NT rfl rfl ((aB.hole (G := (λ X => X ++ (H))) (Hs := [(kI, _)]) .id (Tq x0 (i64 (x1 + (i64 (fV * 1)))) (i64 (x1 + (i64 (ry * 2)))) (i64 (x1 + (i64 (eL * 3)))) 0 (h0.sub pp) avf)).mono ?_))
   rintro _ _ _ ⟨_, ⟨rfl, rfl, rfl⟩, rfl⟩
   refine ⟨_, (.put rfl), ?_⟩
   refine vs 1 ?_
   refine er ?_
   exact EG _ (aa hM).symm _ _ _ ⟨rfl, rfl, ay.sub ⟨rfl, rfl, trivial⟩⟩
  refine sp ?_
  exact EG _ (aa hM).symm _ _ _ ⟨rfl, rfl, ay.sub ⟨rfl, rfl, trivial⟩⟩
 rintro mP aeC aEl aPK ⟨rfl, rfl, apZ⟩ hM
 refine At.sub apZ ?_
 refine sg aQ ?_
 refine ld 0 aV z0 ?_
 refine er ?_
 refine At.block ?_
 refine sg aR ?_
 refine vs 2 ?_
 refine er ?_
 refine sc hM (λ RF hM => ?_) (λ RF hM => ?_)
 ·refine sg aT ?_
  refine vs 3 ?_
  refine er ?_
  obtain rfl := aa hM
  exact rt Tryz.func180 (.tmp rfl (.tmp rfl .nil)) (so sr) (hk _ _ _ ⟨rfl, rfl, rfl⟩)
 refine sg aR ?_
 refine vs 2 ?_
 refine er ?_
 refine sc hM (λ arX hM => ?_) (λ arX hM => ?_)
 ·refine sg aT ?_
  refine vs 3 ?_
  refine er ?_
  obtain rfl := aa hM
  exact rt Tryz.func180 (.tmp rfl (.tmp rfl .nil)) (so sr) (hk _ _ _ ⟨rfl, rfl, rfl⟩)
 refine sg aT ?_
 refine vs 3 ?_
 refine er ?_
 obtain rfl := aa hM
 exact rt Tryz.func180 (.tmp rfl (.tmp rfl .nil)) (so sr) (hk _ _ _ ⟨rfl, rfl, rfl⟩)
theorem ays (x0 : (List Int)) (x1 : Int) (x2 : Int) {v0 : Value} {cQ : ak} (dU : bg CZ 1 3 R v0 x0 cQ) {r : (List Int)} (hM : uR x0 x1 x2 = some r) : aB ah 181 #[v0, iv x1, iv x2] R (cQ ++ H) (λ v R' H' => ∃ bF, (R = R' ∧ bg CZ 1 3 R' v0 r bF ∧ v = .tuple #[]) ∧ H' = bF ++ H) := by
 unfold uR at hM
 refine aB.bk Tryz.func181 rfl (n := 32) rfl rfl λ fr cs hk => ?_
 refine sg aR ?_
 refine vs 2 ?_
 refine nx aT ?_
 refine vs 3 ?_
 refine er ?_
 refine At.block ?_
 refine At.eI hM (λ (eB : ((List Int) × Int × Int)) R' H' st' => R = R' ∧ ∃ D8, bg CZ 1 3 R' v0 eB.1 D8 ∧ H' = D8 ++ (H) ∧ aF st' [(0, v0), (6, iv eB.2.1), (7, iv eB.2.2)]) (λ (C7 : (List Int)) R' H' st' => R = R' ∧ ∃ Ik, bg CZ 1 3 R' v0 C7 Ik ∧ H' = Ik ++ (H) ∧ aF st' [(0, v0)]) 0 rfl ⟨rfl, cQ, dU, rfl, ay.sub ⟨rfl, rfl, rfl, trivial⟩⟩ ?_ ?_
 rotate_right
 ·rintro eB R48 H48 aBn ⟨rfl, D8, JY, rfl, Qt⟩ dO hM IM Ob
  refine At.sub Qt ?_
  refine sq ?_
  refine sg aT ?_
  refine vs 3 ?_
  refine er ?_
  refine sc hM (λ uA hM => ?_) (λ uA hM => ?_)
  ·refine sp ?_
   refine At.block ?_
   refine sq ?_
   refine At.draw (n := 16) (is := [0, 1, 2, 3, 4, 5, 6, 7, 8, 9, 10, 11, 12, 13, 14, 15]) (many (D8 ++ (H)) [(13, H), (15, H)]) mixed rfl (by decide +kernel) rfl rfl ?_
   refine Any.vs 6 [0, 1, 2, 3, 4, 5] rfl ?_
   obtain ⟨kA, zS, hM⟩ := aj hM
   obtain ⟨mY, zT, hM⟩ := aj hM
   obtain ⟨fE, zU, hM⟩ := aj hM
   obtain ⟨iF, qz, hM⟩ := aj hM
   obtain ⟨WL, abp, _, rfl, E4, E9⟩ := (JY.rd (λ _ h => (List.mem_append_left _ h))).elem bm zS
   refine ts 6 [7, 12, 13, 14, 15] rfl (aN rfl (aN rfl (bf (su (aH sr))))) (su (aH sr)) (λ R' H' hR hS => Ox.aX rfl rfl rfl E9 rfl (.one rfl) ⟨rfl, rfl, rfl⟩) ?_
   refine ts 7 [12, 13, 14, 15] rfl (aN rfl (aN rfl (bf pp))) pp (λ R' H' hR hS => Ox.bu rfl rfl aV (((E4.le hR).sub (λ p h => hS p (pp p h))).one (j := 0) rfl) rfl (.one rfl) ⟨rfl, rfl, rfl⟩) ?_
   refine Any.vs 2 [8, 9] rfl ?_
   obtain ⟨af3, az5, _, rfl, Pa, PA⟩ := (JY.rd (λ _ h => (List.mem_append_left _ h))).elem bm zT
   refine ts 10 [11, 12, 13, 14, 15] rfl (aN rfl (aN rfl (bf (su (aH sr))))) (su (aH sr)) (λ R' H' hR hS => Ox.aX rfl rfl rfl PA rfl (.one rfl) ⟨rfl, rfl, rfl⟩) ?_
   refine ts 11 [12, 13, 14, 15] rfl (aN rfl (aN rfl (bf pp))) pp (λ R' H' hR hS => Ox.bu rfl rfl aV (((Pa.le hR).sub (λ p h => hS p (pp p h))).one (j := 0) rfl) rfl (.one rfl) ⟨rfl, rfl, rfl⟩) ?_
   obtain ⟨af4, agn, _, rfl, rfl, akx, Pn, PB, anM, SS, RO⟩ := JY.eu bm zU
   refine ts 12 [13, 14, 15] rfl (aN rfl (aN rfl (bf (su (so sr))))) (su (so sr)) (λ R' H' hR hS => Ox.aX rfl rfl rfl PB rfl (.one rfl) ⟨rfl, rfl, rfl⟩) ?_
   refine Any.on 13 rfl rfl (aP.to (Ox.eC (K := CZ) (k := 1) (e := 3) (i := eB.2.1) (x' := kA) (pre := []) (mid := [iv fE]) (post := []) .id rfl rfl rfl rfl eV rfl (aq rfl aW) Pn rfl rfl rfl SS RO rfl rfl (.refl _) λ ad6 P4 => ⟨rr, (bL rfl (su (aH sr))), ?_⟩))
   obtain ⟨af6, aKN, _, rfl, rfl, Y8, alD, PD, aMg, awe, asL⟩ := P4.eu bm qz
   refine ts 14 [15] rfl (aN rfl (aN rfl (bf (su (so sr))))) (su (so sr)) (λ R' H' hR hS => Ox.aX rfl rfl rfl PD rfl (.one rfl) ⟨rfl, rfl, rfl⟩) ?_
   refine Any.on 15 rfl rfl (aP.to (Ox.eC (K := CZ) (k := 1) (e := 3) (i := eB.2.2) (x' := mY) (pre := []) (mid := [iv iF]) (post := []) .id rfl rfl rfl rfl eV rfl (aq rfl aW) alD rfl rfl rfl awe asL rfl rfl (.refl _) λ ad7 aow => ⟨rr, (bL rfl (su (aH sr))), ?_⟩))
   refine Any.done ?_
   refine sg aT ?_
   refine vs 3 ?_
   refine er ?_
   refine At.rg aT ?_
   refine vs 3 ?_
   refine er ?_
   refine At.inBlock ?_
   exact IM _ (aa hM).symm _ _ _ ⟨rfl, ad7, aow, rfl, ay.sub ⟨rfl, rfl, rfl, trivial⟩⟩
  exact At.exit rfl (Ob _ (aa hM).symm _ _ _ ⟨rfl, D8, JY, rfl, ay.sub ⟨rfl, trivial⟩⟩)
 rintro C7 aeE adO aBo ⟨rfl, Ik, anU, rfl, Qu⟩ hM
 refine At.sub Qu ?_
 obtain rfl := aa hM
 exact At.oc Tryz.func181 .nil (J.drop sr (hk _ _ _ ⟨Ik, ⟨rfl, anU, rfl⟩, rfl⟩))
end
end Go.Proofs.YtabamagholjdcaaGreatDoor
