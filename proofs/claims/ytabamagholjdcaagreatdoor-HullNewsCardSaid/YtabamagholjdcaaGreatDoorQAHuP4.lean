/- Walks, part 4: each function computes its model. -/
import Derived.Test.YtabamagholjdcaaGreatDoorQAHuP3
namespace Go.Proofs.YtabamagholjdcaaGreatDoor
open Go.Lg Go.Proofs
set_option maxRecDepth 100000
set_option maxHeartbeats 4000000
section
variable {B : Base} {main : Bool} {ag : Jd Tryz.prog B main} {R : aI} {H : au}
theorem Uk (x0 : (List Int)) (x1 : (List Int)) {v0 v1 : Value} (h0 : bC CZ 1 R H v0 x0) (h1 : bC CZ 1 R H v1 x1) {r : Bool} (hM : xM x0 x1 = some r) : aJ ag 55 #[v0, v1] R H (λ v R' H' => R = R' ∧ H = H' ∧ v = .bool r) := by
 unfold xM at hM
 refine aJ.aX Tryz.func55 rfl (n := 36) rfl rfl λ fr cs hk => ?_
 refine sg aL ?_
 refine vs 1 ?_
 refine es ?_
 refine sg aL ?_
 refine vs 1 ?_
 refine er ?_
 refine At.block ?_
 refine At.fh hM (λ (mQ : Int) R' H' st' => R = R' ∧ H = H' ∧ aK st' [(0, v0), (1, v1), (5, iv mQ)]) (λ (LR : Unit) R' H' st' => R = R' ∧ H = H' ∧ aK st' []) 0 rfl ⟨rfl, rfl, aA.sub ⟨rfl, rfl, rfl, trivial⟩⟩ ?_ ?_
 rotate_right
 ·rintro mQ Xa H69 aOT ⟨rfl, rfl, aqX⟩ DV hM OS PU abW
  refine At.sub aqX ?_
  refine sq ?_
  refine sg bn ?_
  refine vs 2 ?_
  refine lr h1 Tryz.underlying25 ?_
  refine vs 1 ?_
  refine er ?_
  refine sc hM (λ yp hM => ?_) (λ yp hM => ?_)
  ·refine sp ?_
   refine sq ?_
   refine At.block ?_
   refine sq ?_
   refine sq ?_
   refine At.gR hM (λ (vi : Bool) R' H' st' => R = R' ∧ H = H' ∧ aK st' [(0, v0), (1, v1), (5, iv mQ), (26, .bool vi)])  ?_ ?_
   rotate_right
   ·intro rR hM J3
    refine At.dw BH mixed ?_
    refine Any.vs 2 [0, 1] rfl ?_
    refine Any.tk 2 rfl pp (λ R' H' hR hS => Ox.abm (K := CZ) (k := 1) (xs := x0) rfl rfl (h0.le hR) Tryz.underlying25 rfl (.one rfl) ⟨rfl, rfl, rfl⟩) ?_
    refine Any.vs 2 [3, 4] rfl ?_
    refine bA hM (λ Cv hM => ?_) (λ Cv hM => ?_)
    ·refine Any.known (t := 16) rfl Cv ?_
     refine Any.vs 10 [5, 6, 7, 8, 9, 10, 11, 12, 13, 14] rfl ?_
     refine Any.done ?_
     exact J3 _ (af hM).symm _ _ _ ⟨rfl, rfl, aA.sub ⟨rfl, rfl, rfl, rfl, trivial⟩⟩
    refine Any.known (t := 16) rfl Cv ?_
    refine Any.vs 2 [5, 6] rfl ?_
    obtain ⟨IL, aeB, hM⟩ := ao hM
    obtain ⟨Ve, asZ, hM⟩ := ao hM
    obtain ⟨aJh, aMn, _, rfl, alh, am5⟩ := h0.elem cL aeB
    refine Any.tk 7 rfl pp (λ R' H' hR hS => Ox.bq rfl rfl rfl am5 rfl (.one rfl) ⟨rfl, rfl, rfl⟩) ?_
    refine Any.tk 8 rfl pp (λ R' H' hR hS => Ox.bV rfl rfl bg (((alh.le hR).sub (λ p h => hS p (pp p h))).one (j := 0) rfl) rfl (.one rfl) ⟨rfl, rfl, rfl⟩) ?_
    refine Any.vs 2 [9, 10] rfl ?_
    obtain ⟨aJi, aMo, _, rfl, ali, am6⟩ := h1.elem cL asZ
    refine Any.tk 11 rfl pp (λ R' H' hR hS => Ox.bq rfl rfl rfl am6 rfl (.one rfl) ⟨rfl, rfl, rfl⟩) ?_
    refine Any.tk 12 rfl pp (λ R' H' hR hS => Ox.bV rfl rfl bg (((ali.le hR).sub (λ p h => hS p (pp p h))).one (j := 0) rfl) rfl (.one rfl) ⟨rfl, rfl, rfl⟩) ?_
    refine Any.vs 2 [13, 14] rfl ?_
    refine Any.done ?_
    exact J3 _ (af hM).symm _ _ _ ⟨rfl, rfl, aA.sub ⟨rfl, rfl, rfl, rfl, trivial⟩⟩
   rintro vi agx afS azE ⟨rfl, rfl, RH⟩ hM
   refine At.sub RH ?_
   refine sc hM (λ VW hM => ?_) (λ VW hM => ?_)
   ·refine sg aL ?_
    refine vs 1 ?_
    refine er ?_
    replace hM := abW _ (af hM).symm
    obtain rfl := af hM
    exact rt Tryz.func55 (.tmp rfl .nil) sr (hk _ _ _ ⟨rfl, rfl, rfl⟩)
   refine sp ?_
   refine sq ?_
   refine At.dw gd mixed ?_
   refine Any.vs 2 [0, 1] rfl ?_
   obtain ⟨IM, aeC, hM⟩ := ao hM
   obtain ⟨j9, aas, hM⟩ := ao hM
   obtain ⟨aJj, aMp, _, rfl, alj, am7⟩ := h0.elem cL aeC
   refine Any.tk 2 rfl pp (λ R' H' hR hS => Ox.bq rfl rfl rfl am7 rfl (.one rfl) ⟨rfl, rfl, rfl⟩) ?_
   refine Any.tk 3 rfl pp (λ R' H' hR hS => Ox.bV rfl rfl bg (((alj.le hR).sub (λ p h => hS p (pp p h))).one (j := 0) rfl) rfl (.one rfl) ⟨rfl, rfl, rfl⟩) ?_
   refine Any.vs 2 [4, 5] rfl ?_
   obtain ⟨aJk, aMq, _, rfl, alk, am8⟩ := h1.elem cL aas
   refine Any.tk 6 rfl pp (λ R' H' hR hS => Ox.bq rfl rfl rfl am8 rfl (.one rfl) ⟨rfl, rfl, rfl⟩) ?_
   refine Any.tk 7 rfl pp (λ R' H' hR hS => Ox.bV rfl rfl bg (((alk.le hR).sub (λ p h => hS p (pp p h))).one (j := 0) rfl) rfl (.one rfl) ⟨rfl, rfl, rfl⟩) ?_
   refine Any.vs 1 [8] rfl ?_
   refine Any.done ?_
   refine sc hM (λ Nm hM => ?_) (λ Nm hM => ?_)
   ·refine sg aL ?_
    refine vs 1 ?_
    refine er ?_
    replace hM := abW _ (af hM).symm
    obtain rfl := af hM
    exact rt Tryz.func55 (.tmp rfl .nil) sr (hk _ _ _ ⟨rfl, rfl, rfl⟩)
   refine sp ?_
   refine At.inBlock ?_
   refine At.rg aS ?_
   refine vs 3 ?_
   refine er ?_
   exact OS _ (af hM).symm _ _ _ ⟨rfl, rfl, aA.sub ⟨rfl, rfl, rfl, trivial⟩⟩
  exact At.exit rfl (PU _ (af hM).symm _ _ _ ⟨rfl, rfl, aA.sub trivial⟩)
 rintro LR agE aFb aOU ⟨rfl, rfl, aqY⟩ hM
 refine At.sub aqY ?_
 refine sg aL ?_
 refine vs 1 ?_
 refine er ?_
 obtain rfl := af hM
 exact rt Tryz.func55 (.tmp rfl .nil) sr (hk _ _ _ ⟨rfl, rfl, rfl⟩)
theorem Le (x0 : (List Int)) (x1 : (List Int)) {v0 v1 : Value} (h0 : bC CZ 1 R H v0 x0) (h1 : bC CZ 1 R H v1 x1) {r : Bool} (hM : pM x0 x1 = some r) : aJ ag 22 #[v0, v1] R H (λ v R' H' => R = R' ∧ H = H' ∧ v = .bool r) := by
 unfold pM at hM
 refine aJ.aX Tryz.func22 rfl (n := 15) rfl rfl λ fr cs hk => ?_
 refine sg aL ?_
 refine vs 1 ?_
 refine nx yO ?_
 refine vs 2 ?_
 obtain ⟨ig, lp, hM⟩ := ao hM
 refine At.cv PG (Uk x0 x1 (h0.sub pp) (h1.sub pp) lp) ?_
 rintro _ _ _ ⟨rfl, rfl, rfl⟩
 refine vs 2 ?_
 refine bA hM (λ jH hM => ?_) (λ jH hM => ?_)
 ·refine At.kn 9 jH ?_
  refine vs 2 ?_
  obtain ⟨fQ, mD, hM⟩ := ao hM
  refine At.cv PG (Uk x1 x0 (h1.sub pp) (h0.sub pp) mD) ?_
  rintro _ _ _ ⟨rfl, rfl, rfl⟩
  refine vs 3 ?_
  refine er ?_
  obtain rfl := af hM
  exact rt Tryz.func22 (.tmp rfl .nil) sr (hk _ _ _ ⟨rfl, rfl, rfl⟩)
 refine At.kn 9 jH ?_
 refine vs 6 ?_
 refine er ?_
 obtain rfl := af hM
 exact rt Tryz.func22 (.tmp rfl .nil) sr (hk _ _ _ ⟨rfl, rfl, rfl⟩)
theorem C6 (x0 : (List Int)) (x1 : (List Int)) {v0 v1 : Value} (h0 : bC CZ 1 R H v0 x0) (h1 : bC CZ 1 R H v1 x1) {r : Bool} (hM : qR x0 x1 = some r) : aJ ag 88 #[v0, v1] R H (λ v R' H' => R = R' ∧ H = H' ∧ v = .bool r) := by
 unfold qR at hM
 refine aJ.aX Tryz.func88 rfl (n := 8) rfl rfl λ fr cs hk => ?_
 refine sg aL ?_
 refine vs 1 ?_
 refine nx bn ?_
 refine vs 2 ?_
 obtain ⟨cA, ff, hM⟩ := ao hM
 refine At.cv JY (Le x0 x1 (h0.sub pp) (h1.sub pp) ff) ?_
 rintro _ _ _ ⟨rfl, rfl, rfl⟩
 refine vs 1 ?_
 refine er ?_
 obtain rfl := af hM
 exact rt Tryz.func88 (.tmp rfl .nil) sr (hk _ _ _ ⟨rfl, rfl, rfl⟩)
theorem Wj  (hG : fM R) (hK : y6 ag) {r : Bool} (hM : nA  = some r) : aJ ag 19 #[] R H (λ v R' H' => aN R R' ∧ H = H' ∧ v = .bool r) := by
 unfold nA at hM
 refine aJ.aX Tryz.func19 rfl (n := 349) rfl rfl λ fr cs hk => ?_
 refine sg aL ?_
 refine vs 1 ?_
 refine nx aS ?_
 obtain ⟨bS, atm, hM⟩ := ao hM
 refine At.cv ai3 (axO   atm) ?_
 rintro _ aIe _ ⟨k9, rfl, Dw, Dx, Dy, bH, bI, bJ, rfl⟩
 replace hG := hG.mono k9
 refine At.s rfl rfl (Ox.alloc (cs := #[iv 0, iv 0, iv 0, .slice none 0 0, .slice none 0 0, .slice none 0 0]) rfl jP rfl λ gG _ _ => ⟨_, (.put rfl), ?_⟩)
 refine At.s rfl rfl (Ox.bp (cs' := #[_, _, _, _, _, _]) rfl rfl rfl aU rfl (ak rfl (ak rfl (ak rfl (ak bH.one (ak bI.one (ak bJ.one aW)))))) .here rfl rfl rfl (.refl _) ?_)
 refine nx dy ?_
 refine lN [_, _, _, _, _, _] 0 6 aU z0 ?_
 obtain ⟨Il, atn, hM⟩ := ao hM
 refine At.cv YW (abH bS 2 bH bI bJ atn) ?_
 rintro _ aIf _ ⟨jC, rfl, aPT, aPU, aPV, ato, atp, atq, rfl⟩
 replace hG := hG.mono jC
 replace bH := bH.mono jC
 replace bI := bI.mono jC
 replace bJ := bJ.mono jC
 refine At.s rfl rfl (Ox.build (cells := #[_, _]) rfl Md rfl (bf rfl rfl rfl rfl aY) rfl (.put rfl) ?_)
 obtain ⟨nN, atr, hM⟩ := ao hM
 refine At.cv JZ (Lf Il (⟨1, 0⟩ : bW) ato atp atq atr) ?_
 rintro _ aIg _ ⟨jD, rfl, ac5, ac6, ac7, cX, cY, cZ, rfl⟩
 replace hG := hG.mono jD
 replace bH := bH.mono jD
 replace bI := bI.mono jD
 replace bJ := bJ.mono jD
 refine At.s rfl rfl (Ox.alloc (cs := #[iv 0, iv 0, iv 0, .slice none 0 0, .slice none 0 0, .slice none 0 0]) rfl jP rfl λ jT _ _ => ⟨_, (.put rfl), ?_⟩)
 refine At.s rfl rfl (Ox.bp (cs' := #[_, _, _, _, _, _]) rfl rfl rfl aU rfl (ak rfl (ak rfl (ak rfl (ak cX.one (ak cY.one (ak cZ.one aW)))))) .here rfl rfl rfl (.refl _) ?_)
 refine nx mM ?_
 refine lN [_, _, _, _, _, _] 0 6 aU z1 ?_
 refine At.s rfl rfl (Ox.buildSlice (cells := #[_, _, _]) rfl ck rfl (by decide) B1 (bf rfl rfl rfl rfl (bf rfl rfl rfl rfl (bf rfl rfl rfl rfl aY))) rfl λ aIZ _ _ => ⟨_, (.put rfl), ?_⟩)
 refine At.s rfl rfl (Ox.build (cells := #[_, _]) rfl Wr rfl (bf rfl rfl rfl rfl aY) rfl (.put rfl) ?_)
 refine At.s rfl rfl (Ox.buildSlice (cells := #[_]) rfl ck rfl (by decide) cS (bf rfl rfl rfl rfl aY) rfl λ wI _ _ => ⟨_, (.put rfl), ?_⟩)
 refine At.ql (K := CZ) (k := 1) (H2 := (wI, _) :: (jT, _) :: (gG, _) :: H) (λ X => (wI, _) :: X ++ ((jT, _) :: (gG, _) :: H)) (.cons .id) rfl (aG.le (aG.cons (x := 21) rfl rfl (aG.cons (x := 30) rfl rfl (aG.cons (x := 10) rfl rfl aG.nil))) rfl) rfl (λ aHD ir amu => ?_)
 replace hG := hG.mono ir
 replace bH := bH.mono ir
 replace bI := bI.mono ir
 replace bJ := bJ.mono ir
 replace cX := cX.mono ir
 replace cY := cY.mono ir
 replace cZ := cZ.mono ir
 obtain ⟨Bd, att, hM⟩ := ao hM
 refine At.cv VP (VZ bS (⟨0, [21, 30, 10]⟩ : cB) [1] hG bH bI bJ amu (bC.lit z0 (aG.le (aG.cons (x := 1) rfl rfl aG.nil) rfl) rfl) att) ?_
 rintro _ aIh _ ⟨iu, rfl, rfl⟩
 replace hG := hG.mono iu
 replace bH := bH.mono iu
 replace bI := bI.mono iu
 replace bJ := bJ.mono iu
 replace cX := cX.mono iu
 replace cY := cY.mono iu
 replace cZ := cZ.mono iu
 refine vs 5 ?_
 refine nx dY ?_
 refine lN [_, _, _, _, _, _] 0 6 aU z2 ?_
 obtain ⟨tC, S8, hM⟩ := ao hM
 refine At.cv NV (N0 bS hG bH bI bJ S8) ?_
 rintro _ aIi _ ⟨iw, rfl, rfl⟩
 replace hG := hG.mono iw
 replace bH := bH.mono iw
 replace bI := bI.mono iw
 replace bJ := bJ.mono iw
 replace cX := cX.mono iw
 replace cY := cY.mono iw
 replace cZ := cZ.mono iw
 refine vs 5 ?_
 refine nx dY ?_
 refine lN [_, _, _, _, _, _] 0 6 aU z2 ?_
 obtain ⟨tD, S9, hM⟩ := ao hM
 refine At.cv aiZ (axK bS 0 hG bH bI bJ S9) ?_
 rintro _ aIj _ ⟨iy, rfl, aAs, jI, rfl⟩
 replace hG := hG.mono iy
 replace bH := bH.mono iy
 replace bI := bI.mono iy
 replace bJ := bJ.mono iy
 replace cX := cX.mono iy
 replace cY := cY.mono iy
 replace cZ := cZ.mono iy
 refine vs 5 ?_
 refine nx gd ?_
 refine lN [_, _, _, _, _, _] 0 6 aU z2 ?_
 refine At.s rfl rfl (Ox.buildSlice (cells := #[_]) rfl ck rfl (by decide) cS (bf rfl rfl rfl rfl aY) rfl λ aI0 _ _ => ⟨_, (.put rfl), ?_⟩)
 refine At.ql (K := CZ) (k := 1) (H2 := (wI, _) :: (jT, _) :: (gG, _) :: H) (λ X => X ++ ((wI, _) :: (jT, _) :: (gG, _) :: H)) .id rfl (aG.le (aG.cons (x := 2) rfl rfl aG.nil) rfl) rfl (λ aHE gT amv => ?_)
 replace hG := hG.mono gT
 replace bH := bH.mono gT
 replace bI := bI.mono gT
 replace bJ := bJ.mono gT
 replace cX := cX.mono gT
 replace cY := cY.mono gT
 replace cZ := cZ.mono gT
 replace jI := jI.mono gT
 obtain ⟨yg, aty, hM⟩ := ao hM
 refine At.cv ai2 (axN bS [2] hG bH bI bJ amv aty) ?_
 rintro _ aIk _ ⟨gW, rfl, rfl⟩
 replace hG := hG.mono gW
 replace bH := bH.mono gW
 replace bI := bI.mono gW
 replace bJ := bJ.mono gW
 replace cX := cX.mono gW
 replace cY := cY.mono gW
 replace cZ := cZ.mono gW
 replace jI := jI.mono gW
 refine vs 3 ?_
 refine At.s rfl rfl (Ox.alloc (cs := #[iv 0, iv 0]) rfl tK rfl λ BX _ _ => ⟨_, (.put rfl), ?_⟩)
 refine At.s rfl rfl (Ox.bp (cs' := #[_, _]) rfl rfl rfl eJ rfl (ak rfl (ak rfl aW)) .here rfl rfl rfl (.refl _) ?_)
 refine vs 1 ?_
 refine nx eC ?_
 refine lN [_, _, _, _, _, _] 0 6 aU z3 ?_
 refine At.s rfl rfl (Ox.buildSlice (cells := #[_]) rfl ck rfl (by decide) cS (bf rfl rfl rfl rfl aY) rfl λ aI1 _ _ => ⟨_, (.put rfl), ?_⟩)
 refine At.ql (K := CZ) (k := 1) (H2 := (BX, _) :: (wI, _) :: (jT, _) :: (gG, _) :: H) (λ X => X ++ ((BX, _) :: (wI, _) :: (jT, _) :: (gG, _) :: H)) .id rfl (aG.le (aG.cons (x := 0) rfl rfl aG.nil) rfl) rfl (λ aHF gU amw => ?_)
 replace hG := hG.mono gU
 replace bH := bH.mono gU
 replace bI := bI.mono gU
 replace bJ := bJ.mono gU
 replace cX := cX.mono gU
 replace cY := cY.mono gU
 replace cZ := cZ.mono gU
 replace jI := jI.mono gU
 obtain ⟨tW, aeN, hM⟩ := ao hM
 refine At.cv YU (abF bS [0] hG bH bI bJ amw aeN) ?_
 rintro _ aC5 _ ⟨gE, rfl, rfl⟩
 replace hG := hG.mono gE
 replace bH := bH.mono gE
 replace bI := bI.mono gE
 replace bJ := bJ.mono gE
 replace cX := cX.mono gE
 replace cY := cY.mono gE
 replace cZ := cZ.mono gE
 replace jI := jI.mono gE
 refine vs 5 ?_
 refine nx eC ?_
 refine lN [_, _, _, _, _, _] 0 6 aU z3 ?_
 refine At.s rfl rfl (Ox.buildSlice (cells := #[_, _]) rfl ck rfl (by decide) JD (bf rfl rfl rfl rfl (bf rfl rfl rfl rfl aY)) rfl λ aI2 _ _ => ⟨_, (.put rfl), ?_⟩)
 refine At.ql (K := CZ) (k := 1) (H2 := (BX, _) :: (wI, _) :: (jT, _) :: (gG, _) :: H) (λ X => X ++ ((BX, _) :: (wI, _) :: (jT, _) :: (gG, _) :: H)) .id rfl (aG.le (aG.cons (x := 1) rfl rfl (aG.cons (x := 2) rfl rfl aG.nil)) rfl) rfl (λ aHG gV amx => ?_)
 replace hG := hG.mono gV
 replace bH := bH.mono gV
 replace bI := bI.mono gV
 replace bJ := bJ.mono gV
 replace cX := cX.mono gV
 replace cY := cY.mono gV
 replace cZ := cZ.mono gV
 replace jI := jI.mono gV
 obtain ⟨Be, atz, hM⟩ := ao hM
 refine At.cv YU (abF bS [1, 2] hG bH bI bJ amx atz) ?_
 rintro _ aIl _ ⟨gX, rfl, rfl⟩
 replace hG := hG.mono gX
 replace bH := bH.mono gX
 replace bI := bI.mono gX
 replace bJ := bJ.mono gX
 replace cX := cX.mono gX
 replace cY := cY.mono gX
 replace cZ := cZ.mono gX
 replace jI := jI.mono gX
 refine vs 5 ?_
 refine nx dY ?_
 refine lN [_, _, _, _, _, _] 0 6 aU z3 ?_
 obtain ⟨Bf, atA, hM⟩ := ao hM
 refine At.cv ai1 (axM bS hG bH bI bJ atA) ?_
 rintro _ aIm _ ⟨gY, rfl, aAt, GD, rfl⟩
 replace hG := hG.mono gY
 replace bH := bH.mono gY
 replace bI := bI.mono gY
 replace bJ := bJ.mono gY
 replace cX := cX.mono gY
 replace cY := cY.mono gY
 replace cZ := cZ.mono gY
 replace jI := jI.mono gY
 refine vs 5 ?_
 refine nx dY ?_
 refine lN [_, _, _, _, _, _] 0 6 aU z3 ?_
 obtain ⟨Bg, atB, hM⟩ := ao hM
 refine At.cv ae9 (afw bS hG hK bH bI bJ atB) ?_
 rintro _ aIn _ ⟨gM, rfl, aAu, Ta, rfl⟩
 replace hG := hG.mono gM
 replace bH := bH.mono gM
 replace bI := bI.mono gM
 replace bJ := bJ.mono gM
 replace cX := cX.mono gM
 replace cY := cY.mono gM
 replace cZ := cZ.mono gM
 replace jI := jI.mono gM
 replace GD := GD.mono gM
 refine vs 5 ?_
 refine nx dY ?_
 refine lN [_, _, _, _, _, _] 0 6 aU z2 ?_
 obtain ⟨Bh, atD, hM⟩ := ao hM
 refine At.cv NV (N0 nN hG cX cY cZ atD) ?_
 rintro _ Xf _ ⟨gq, rfl, rfl⟩
 replace hG := hG.mono gq
 replace bH := bH.mono gq
 replace bI := bI.mono gq
 replace bJ := bJ.mono gq
 replace cX := cX.mono gq
 replace cY := cY.mono gq
 replace cZ := cZ.mono gq
 replace jI := jI.mono gq
 replace GD := GD.mono gq
 replace Ta := Ta.mono gq
 refine vs 5 ?_
 refine es ?_
 refine sq ?_
 refine At.gR hM (λ (C9 : Bool) R' H' st' => Xf = R' ∧ H' = (BX, .cells #[iv yg.1.an, iv yg.1.ax] 23) :: (jT, .cells #[iv nN.aE, iv nN.aa.an, iv nN.aa.ax, ac5, ac6, ac7] 28) :: (gG, .cells #[iv bS.aE, iv bS.aa.an, iv bS.aa.ax, Dw, Dx, Dy] 28) :: H ∧ aK st' [(1, .pointer (some ⟨gG, 0, none⟩)), (2, .pointer (some ⟨jT, 0, none⟩)), (3, iv Bd.1), (5, iv tC.1), (7, aAs), (9, .pointer (some ⟨BX, 0, none⟩)), (11, iv tW.1), (13, iv Be.1), (15, aAt), (17, aAu), (19, iv Bh.1), (121, .bool C9)])  ?_ ?_
 rotate_right
 ·intro Vi hM uq
  refine At.rg acm ?_
  refine vs 3 ?_
  refine bA hM (λ Sc hM => ?_) (λ Sc hM => ?_)
  ·refine At.kn 90 Sc ?_
   refine vs 31 ?_
   refine er ?_
   exact At.drop (sk (so sr)) (uq _ (af hM).symm _ _ _ ⟨rfl, rfl, aA.sub ⟨rfl, rfl, rfl, rfl, rfl, rfl, rfl, rfl, rfl, rfl, rfl, rfl, trivial⟩⟩)
  refine At.kn 90 Sc ?_
  refine vs 4 ?_
  refine bA hM (λ Ga hM => ?_) (λ Ga hM => ?_)
  ·refine At.kn 94 Ga ?_
   refine vs 27 ?_
   refine er ?_
   exact At.drop (sk (so sr)) (uq _ (af hM).symm _ _ _ ⟨rfl, rfl, aA.sub ⟨rfl, rfl, rfl, rfl, rfl, rfl, rfl, rfl, rfl, rfl, rfl, rfl, trivial⟩⟩)
  refine At.kn 94 Ga ?_
  refine vs 4 ?_
  refine bA hM (λ Gb hM => ?_) (λ Gb hM => ?_)
  ·refine At.kn 98 Gb ?_
   refine vs 23 ?_
   refine er ?_
   exact At.drop (sk (so sr)) (uq _ (af hM).symm _ _ _ ⟨rfl, rfl, aA.sub ⟨rfl, rfl, rfl, rfl, rfl, rfl, rfl, rfl, rfl, rfl, rfl, rfl, trivial⟩⟩)
  refine At.kn 98 Gb ?_
  refine vs 4 ?_
  refine bA hM (λ Gc hM => ?_) (λ Gc hM => ?_)
  ·refine At.kn 102 Gc ?_
   refine vs 19 ?_
   refine er ?_
   exact At.drop (sk (so sr)) (uq _ (af hM).symm _ _ _ ⟨rfl, rfl, aA.sub ⟨rfl, rfl, rfl, rfl, rfl, rfl, rfl, rfl, rfl, rfl, rfl, rfl, trivial⟩⟩)
  refine At.kn 102 Gc ?_
  refine vs 4 ?_
  refine bA hM (λ Sd hM => ?_) (λ Sd hM => ?_)
  ·refine At.kn 106 Sd ?_
   refine vs 15 ?_
   refine er ?_
   exact At.drop (sk (so sr)) (uq _ (af hM).symm _ _ _ ⟨rfl, rfl, aA.sub ⟨rfl, rfl, rfl, rfl, rfl, rfl, rfl, rfl, rfl, rfl, rfl, rfl, trivial⟩⟩)
  refine At.kn 106 Sd ?_
  refine vs 4 ?_
  refine bA hM (λ Se hM => ?_) (λ Se hM => ?_)
  ·refine At.kn 110 Se ?_
   refine vs 11 ?_
   refine er ?_
   exact At.drop (sk (so sr)) (uq _ (af hM).symm _ _ _ ⟨rfl, rfl, aA.sub ⟨rfl, rfl, rfl, rfl, rfl, rfl, rfl, rfl, rfl, rfl, rfl, rfl, trivial⟩⟩)
  refine At.kn 110 Se ?_
  refine vs 4 ?_
  refine bA hM (λ Sf hM => ?_) (λ Sf hM => ?_)
  ·refine At.kn 114 Sf ?_
   refine vs 7 ?_
   refine er ?_
   exact At.drop (sk (so sr)) (uq _ (af hM).symm _ _ _ ⟨rfl, rfl, aA.sub ⟨rfl, rfl, rfl, rfl, rfl, rfl, rfl, rfl, rfl, rfl, rfl, rfl, trivial⟩⟩)
  refine At.kn 114 Sf ?_
  refine vs 4 ?_
  refine bA hM (λ Sg hM => ?_) (λ Sg hM => ?_)
  ·refine At.kn 118 Sg ?_
   refine vs 3 ?_
   refine er ?_
   exact At.drop (sk (so sr)) (uq _ (af hM).symm _ _ _ ⟨rfl, rfl, aA.sub ⟨rfl, rfl, rfl, rfl, rfl, rfl, rfl, rfl, rfl, rfl, rfl, rfl, trivial⟩⟩)
  refine At.kn 118 Sg ?_
  refine vs 3 ?_
  refine er ?_
  exact At.drop (sk (so sr)) (uq _ (af hM).symm _ _ _ ⟨rfl, rfl, aA.sub ⟨rfl, rfl, rfl, rfl, rfl, rfl, rfl, rfl, rfl, rfl, rfl, rfl, trivial⟩⟩)
 rintro C9 aGr aEw aNZ ⟨rfl, rfl, ap3⟩ hM
 refine At.sub ap3 ?_
 refine sc hM (λ ar2 hM => ?_) (λ ar2 hM => ?_)
 ·refine sg aL ?_
  refine vs 1 ?_
  refine er ?_
  obtain rfl := af hM
  exact rt Tryz.func19 (.tmp rfl .nil) (so (so (so sr))) (hk _ _ _ ⟨(((((((((((((((k9.trans jC).trans jD).trans ir).trans iu).trans iw).trans iy).trans gT).trans gW).trans gU).trans gE).trans gV).trans gX).trans gY).trans gM).trans gq), rfl, rfl⟩)
 refine sp ?_
 refine sq ?_
 refine sq ?_
 refine At.gR hM (λ (Da : Bool) R' H' st' => Xf = R' ∧ H' = (jT, .cells #[iv nN.aE, iv nN.aa.an, iv nN.aa.ax, ac5, ac6, ac7] 28) :: (gG, .cells #[iv bS.aE, iv bS.aa.an, iv bS.aa.ax, Dw, Dx, Dy] 28) :: H ∧ aK st' [(1, .pointer (some ⟨gG, 0, none⟩)), (2, .pointer (some ⟨jT, 0, none⟩)), (162, .bool Da)])  ?_ ?_
 rotate_right
 ·intro aRe hM ur
  refine At.dw azi mixed ?_
  refine Any.vs 3 [0, 1, 2] rfl ?_
  refine bA hM (λ Ge hM => ?_) (λ Ge hM => ?_)
  ·refine Any.known (t := 124) rfl Ge ?_
   refine Any.vs 38 [3, 4, 5, 6, 7, 8, 9, 10, 11, 12, 13, 14, 15, 16, 17, 18, 19, 20, 21, 22, 23, 24, 25, 26, 27, 28, 29, 30, 31, 32, 33, 34, 35, 36, 37, 38, 39, 40] rfl ?_
   refine Any.done ?_
   exact At.drop (so sr) (ur _ (af hM).symm _ _ _ ⟨rfl, rfl, aA.sub ⟨rfl, rfl, rfl, trivial⟩⟩)
  refine Any.known (t := 124) rfl Ge ?_
  refine Any.vs 4 [3, 4, 5, 6] rfl ?_
  refine bA hM (λ Si hM => ?_) (λ Si hM => ?_)
  ·refine Any.known (t := 128) rfl Si ?_
   refine Any.vs 34 [7, 8, 9, 10, 11, 12, 13, 14, 15, 16, 17, 18, 19, 20, 21, 22, 23, 24, 25, 26, 27, 28, 29, 30, 31, 32, 33, 34, 35, 36, 37, 38, 39, 40] rfl ?_
   refine Any.done ?_
   exact At.drop (so sr) (ur _ (af hM).symm _ _ _ ⟨rfl, rfl, aA.sub ⟨rfl, rfl, rfl, trivial⟩⟩)
  refine Any.known (t := 128) rfl Si ?_
  refine Any.vs 1 [7] rfl ?_
  refine Any.on 8 rfl rfl (aR.to (Ox.buildSlice (cells := #[_, _]) rfl ck rfl (by decide) JD (bf rfl rfl rfl rfl (bf rfl rfl rfl rfl aY)) rfl λ ug _ _ => ⟨_, (.put rfl), ⟨rr, (ku (so sr)), ?_⟩⟩))
  obtain ⟨ga, KJ, hM⟩ := ao hM
  refine Any.cv 9 B8 (C6 tD.1 [20, 21] jI.rd (bC.lit z0 (aG.le (aG.cons (x := 20) rfl rfl (aG.cons (x := 21) rfl rfl aG.nil)) rfl) rfl) KJ) ?_
  rintro _ _ _ ⟨rfl, rfl, rfl⟩
  refine ⟨rr, (ku (so sr)), ?_⟩
  refine Any.vs 3 [10, 11, 12] rfl ?_
  refine bA hM (λ Gf hM => ?_) (λ Gf hM => ?_)
  ·refine Any.known (t := 134) rfl Gf ?_
   refine Any.vs 28 [13, 14, 15, 16, 17, 18, 19, 20, 21, 22, 23, 24, 25, 26, 27, 28, 29, 30, 31, 32, 33, 34, 35, 36, 37, 38, 39, 40] rfl ?_
   refine Any.done ?_
   exact At.drop (so (so sr)) (ur _ (af hM).symm _ _ _ ⟨rfl, rfl, aA.sub ⟨rfl, rfl, rfl, trivial⟩⟩)
  refine Any.known (t := 134) rfl Gf ?_
  refine Any.tk 13 rfl (su (so sr)) (λ R' H' hR hS => Ox.bP (vs := [_, _]) rfl rfl eJ rfl ((aT.box (hS _ z0)).part (j := 0) (n := 2) rfl) rfl (.one rfl) ⟨rfl, rfl, rfl⟩) ?_
  obtain ⟨Ip, atU, hM⟩ := ao hM
  refine Any.cv 14 PK (Um (-3) 0  atU) ?_
  rintro _ _ _ ⟨rfl, rfl, rfl⟩
  refine ⟨rr, (ku (so sr)), ?_⟩
  refine Any.tk 15 rfl (su (so sr)) (λ R' H' hR hS => Ox.JP rfl rfl rfl PZ (PN _ _) rfl rfl (.one rfl) ⟨rfl, rfl, rfl⟩) ?_
  refine Any.vs 2 [16, 17] rfl ?_
  refine bA hM (λ Sj hM => ?_) (λ Sj hM => ?_)
  ·refine Any.known (t := 139) rfl Sj ?_
   refine Any.vs 23 [18, 19, 20, 21, 22, 23, 24, 25, 26, 27, 28, 29, 30, 31, 32, 33, 34, 35, 36, 37, 38, 39, 40] rfl ?_
   refine Any.done ?_
   exact At.drop (so (so sr)) (ur _ (af hM).symm _ _ _ ⟨rfl, rfl, aA.sub ⟨rfl, rfl, rfl, trivial⟩⟩)
  refine Any.known (t := 139) rfl Sj ?_
  refine Any.vs 4 [18, 19, 20, 21] rfl ?_
  refine bA hM (λ Sk hM => ?_) (λ Sk hM => ?_)
  ·refine Any.known (t := 143) rfl Sk ?_
   refine Any.vs 19 [22, 23, 24, 25, 26, 27, 28, 29, 30, 31, 32, 33, 34, 35, 36, 37, 38, 39, 40] rfl ?_
   refine Any.done ?_
   exact At.drop (so (so sr)) (ur _ (af hM).symm _ _ _ ⟨rfl, rfl, aA.sub ⟨rfl, rfl, rfl, trivial⟩⟩)
  refine Any.known (t := 143) rfl Sk ?_
  refine Any.vs 4 [22, 23, 24, 25] rfl ?_
  refine bA hM (λ Gg hM => ?_) (λ Gg hM => ?_)
  ·refine Any.known (t := 147) rfl Gg ?_
   refine Any.vs 15 [26, 27, 28, 29, 30, 31, 32, 33, 34, 35, 36, 37, 38, 39, 40] rfl ?_
   refine Any.done ?_
   exact At.drop (so (so sr)) (ur _ (af hM).symm _ _ _ ⟨rfl, rfl, aA.sub ⟨rfl, rfl, rfl, trivial⟩⟩)
  refine Any.known (t := 147) rfl Gg ?_
  refine Any.vs 1 [26] rfl ?_
  refine Any.on 27 rfl rfl (aR.to (Ox.buildSlice (cells := #[_, _]) rfl ck rfl (by decide) JD (bf rfl rfl rfl rfl (bf rfl rfl rfl rfl aY)) rfl λ aI3 _ _ => ⟨_, (.put rfl), ⟨rr, (ku (so (so sr))), ?_⟩⟩))
  obtain ⟨M1, atW, hM⟩ := ao hM
  refine Any.cv 28 B8 (C6 Bf.1 [1, 2] GD.rd (bC.lit z0 (aG.le (aG.cons (x := 1) rfl rfl (aG.cons (x := 2) rfl rfl aG.nil)) rfl) rfl) atW) ?_
  rintro _ _ _ ⟨rfl, rfl, rfl⟩
  refine ⟨rr, (ku (so (so sr))), ?_⟩
  refine Any.vs 3 [29, 30, 31] rfl ?_
  refine bA hM (λ Sm hM => ?_) (λ Sm hM => ?_)
  ·refine Any.known (t := 153) rfl Sm ?_
   refine Any.vs 9 [32, 33, 34, 35, 36, 37, 38, 39, 40] rfl ?_
   refine Any.done ?_
   exact At.drop (so (so (so sr))) (ur _ (af hM).symm _ _ _ ⟨rfl, rfl, aA.sub ⟨rfl, rfl, rfl, trivial⟩⟩)
  refine Any.known (t := 153) rfl Sm ?_
  refine Any.vs 1 [32] rfl ?_
  refine Any.on 33 rfl rfl (aR.to (Ox.buildSlice (cells := #[_, _]) rfl ck rfl (by decide) JD (bf rfl rfl rfl rfl (bf rfl rfl rfl rfl aY)) rfl λ aI4 _ _ => ⟨_, (.put rfl), ⟨rr, (ku (so (so (so sr)))), ?_⟩⟩))
  obtain ⟨Bi, Tj, hM⟩ := ao hM
  refine Any.cv 34 B8 (C6 Bg.1 [1, 2] Ta.rd (bC.lit z0 (aG.le (aG.cons (x := 1) rfl rfl (aG.cons (x := 2) rfl rfl aG.nil)) rfl) rfl) Tj) ?_
  rintro _ _ _ ⟨rfl, rfl, rfl⟩
  refine ⟨rr, (ku (so (so (so sr)))), ?_⟩
  refine Any.vs 3 [35, 36, 37] rfl ?_
  refine bA hM (λ Ab hM => ?_) (λ Ab hM => ?_)
  ·refine Any.known (t := 159) rfl Ab ?_
   refine Any.vs 3 [38, 39, 40] rfl ?_
   refine Any.done ?_
   exact At.drop (so (so (so (so sr)))) (ur _ (af hM).symm _ _ _ ⟨rfl, rfl, aA.sub ⟨rfl, rfl, rfl, trivial⟩⟩)
  refine Any.known (t := 159) rfl Ab ?_
  refine Any.vs 3 [38, 39, 40] rfl ?_
  refine Any.done ?_
  exact At.drop (so (so (so (so sr)))) (ur _ (af hM).symm _ _ _ ⟨rfl, rfl, aA.sub ⟨rfl, rfl, rfl, trivial⟩⟩)
 rintro Da aGu aEz aN4 ⟨rfl, rfl, ap8⟩ hM
 refine At.sub ap8 ?_
 refine sc hM (λ ar9 hM => ?_) (λ ar9 hM => ?_)
 ·refine sg aL ?_
  refine vs 1 ?_
  refine er ?_
  obtain rfl := af hM
  exact rt Tryz.func19 (.tmp rfl .nil) (so (so sr)) (hk _ _ _ ⟨(((((((((((((((k9.trans jC).trans jD).trans ir).trans iu).trans iw).trans iy).trans gT).trans gW).trans gU).trans gE).trans gV).trans gX).trans gY).trans gM).trans gq), rfl, rfl⟩)
 refine sp ?_
 refine sg eC ?_
 refine lN [_, _, _, _, _, _] 0 6 aU z1 ?_
 refine At.s rfl rfl (Ox.buildSlice (cells := #[_, _, _]) rfl ck rfl (by decide) B1 (bf rfl rfl rfl rfl (bf rfl rfl rfl rfl (bf rfl rfl rfl rfl aY))) rfl λ aI5 _ _ => ⟨_, (.put rfl), ?_⟩)
 refine At.ql (K := CZ) (k := 1) (H2 := (jT, _) :: (gG, _) :: H) (λ X => X ++ ((jT, _) :: (gG, _) :: H)) .id rfl (aG.le (aG.cons (x := 2) rfl rfl (aG.cons (x := 0) rfl rfl (aG.cons (x := 1) rfl rfl aG.nil))) rfl) rfl (λ aHI ja amz => ?_)
 replace hG := hG.mono ja
 replace bH := bH.mono ja
 replace bI := bI.mono ja
 replace bJ := bJ.mono ja
 replace cX := cX.mono ja
 replace cY := cY.mono ja
 replace cZ := cZ.mono ja
 obtain ⟨Bl, atZ, hM⟩ := ao hM
 refine At.cv NT (NY bS [2, 0, 1] hG bH bI bJ amz atZ) ?_
 rintro _ aIr _ ⟨je, rfl, rfl⟩
 replace hG := hG.mono je
 replace bH := bH.mono je
 replace bI := bI.mono je
 replace bJ := bJ.mono je
 replace cX := cX.mono je
 replace cY := cY.mono je
 replace cZ := cZ.mono je
 refine vs 5 ?_
 refine nx eC ?_
 refine lN [_, _, _, _, _, _] 0 6 aU z1 ?_
 refine At.s rfl rfl (Ox.buildSlice (cells := #[_, _, _]) rfl ck rfl (by decide) B1 (bf rfl rfl rfl rfl (bf rfl rfl rfl rfl (bf rfl rfl rfl rfl aY))) rfl λ aI6 _ _ => ⟨_, (.put rfl), ?_⟩)
 refine At.ql (K := CZ) (k := 1) (H2 := (jT, _) :: (gG, _) :: H) (λ X => X ++ ((jT, _) :: (gG, _) :: H)) .id rfl (aG.le (aG.cons (x := 2) rfl rfl (aG.cons (x := 1) rfl rfl (aG.cons (x := 0) rfl rfl aG.nil))) rfl) rfl (λ aHK jb amA => ?_)
 replace hG := hG.mono jb
 replace bH := bH.mono jb
 replace bI := bI.mono jb
 replace bJ := bJ.mono jb
 replace cX := cX.mono jb
 replace cY := cY.mono jb
 replace cZ := cZ.mono jb
 obtain ⟨tF, Tk, hM⟩ := ao hM
 refine At.cv NT (NY bS [2, 1, 0] hG bH bI bJ amA Tk) ?_
 rintro _ aIs _ ⟨jf, rfl, rfl⟩
 replace hG := hG.mono jf
 replace bH := bH.mono jf
 replace bI := bI.mono jf
 replace bJ := bJ.mono jf
 replace cX := cX.mono jf
 replace cY := cY.mono jf
 replace cZ := cZ.mono jf
 refine vs 5 ?_
 refine nx dY ?_
 refine lN [_, _, _, _, _, _] 0 6 aU z1 ?_
 refine At.s rfl rfl (Ox.buildSlice (cells := #[_, _, _]) rfl ck rfl (by decide) B1 (bf rfl rfl rfl rfl (bf rfl rfl rfl rfl (bf rfl rfl rfl rfl aY))) rfl λ aI7 _ _ => ⟨_, (.put rfl), ?_⟩)
 refine At.ql (K := CZ) (k := 1) (H2 := (jT, _) :: (gG, _) :: H) (λ X => X ++ ((jT, _) :: (gG, _) :: H)) .id rfl (aG.le (aG.cons (x := 0) rfl rfl (aG.cons (x := 1) rfl rfl (aG.cons (x := 2) rfl rfl aG.nil))) rfl) rfl (λ aHL jd amB => ?_)
 replace hG := hG.mono jd
 replace bH := bH.mono jd
 replace bI := bI.mono jd
 replace bJ := bJ.mono jd
 replace cX := cX.mono jd
 replace cY := cY.mono jd
 replace cZ := cZ.mono jd
 obtain ⟨M4, at2, hM⟩ := ao hM
 refine At.cv NT (NY bS [0, 1, 2] hG bH bI bJ amB at2) ?_
 rintro _ aIt _ ⟨jg, rfl, rfl⟩
 replace hG := hG.mono jg
 replace bH := bH.mono jg
 replace bI := bI.mono jg
 replace bJ := bJ.mono jg
 replace cX := cX.mono jg
 replace cY := cY.mono jg
 replace cZ := cZ.mono jg
 refine vs 4 ?_
 refine nx dY ?_
 refine lN [_, _, _, _, _, _] 0 6 aU z1 ?_
 obtain ⟨rE, Tl, hM⟩ := ao hM
 refine At.cv NU (NZ bS hG hK bH bI bJ Tl) ?_
 rintro _ aIu _ ⟨jh, rfl, rfl⟩
 replace hG := hG.mono jh
 replace bH := bH.mono jh
 replace bI := bI.mono jh
 replace bJ := bJ.mono jh
 replace cX := cX.mono jh
 replace cY := cY.mono jh
 replace cZ := cZ.mono jh
 refine vs 5 ?_
 refine nx gd ?_
 refine lN [_, _, _, _, _, _] 0 6 aU z1 ?_
 obtain ⟨tG, at3, hM⟩ := ao hM
 refine At.cv afa (afx bS hG hK bH bI bJ at3) ?_
 rintro _ aIv _ ⟨ji, rfl, aAw, GG, rfl⟩
 replace hG := hG.mono ji
 replace bH := bH.mono ji
 replace bI := bI.mono ji
 replace bJ := bJ.mono ji
 replace cX := cX.mono ji
 replace cY := cY.mono ji
 replace cZ := cZ.mono ji
 refine vs 7 ?_
 refine nx gd ?_
 refine lN [_, _, _, _, _, _] 0 6 aU z1 ?_
 obtain ⟨tH, at4, hM⟩ := ao hM
 refine At.cv afb (afy bS hG hK bH bI bJ at4) ?_
 rintro _ aIw _ ⟨iQ, rfl, aAx, Tm, rfl⟩
 replace hG := hG.mono iQ
 replace bH := bH.mono iQ
 replace bI := bI.mono iQ
 replace bJ := bJ.mono iQ
 replace cX := cX.mono iQ
 replace cY := cY.mono iQ
 replace cZ := cZ.mono iQ
 replace GG := GG.mono iQ
 refine vs 7 ?_
 refine nx dY ?_
 refine lN [_, _, _, _, _, _] 0 6 aU z0 ?_
 obtain ⟨Bm, at5, hM⟩ := ao hM
 refine At.cv NU (NZ nN hG hK cX cY cZ at5) ?_
 rintro _ Xh _ ⟨jE, rfl, rfl⟩
 replace hG := hG.mono jE
 replace bH := bH.mono jE
 replace bI := bI.mono jE
 replace bJ := bJ.mono jE
 replace GG := GG.mono jE
 replace Tm := Tm.mono jE
 refine vs 5 ?_
 refine es ?_
 refine sq ?_
 refine At.gR hM (λ (Dc : Bool) R' H' st' => Xh = R' ∧ H' = (gG, .cells #[iv bS.aE, iv bS.aa.an, iv bS.aa.ax, Dw, Dx, Dy] 28) :: H ∧ aK st' [(1, .pointer (some ⟨gG, 0, none⟩)), (3, iv rE.1), (5, iv Bm.1), (21, iv Bl.1), (22, iv tF.1), (23, aAw), (24, .bool tG.2.1), (25, aAx), (26, iv tH.2.1), (228, .bool Dc)])  ?_ ?_
 rotate_right
 ·intro aRi hM zq
  refine At.rg azg ?_
  refine vs 3 ?_
  refine bA hM (λ Sp hM => ?_) (λ Sp hM => ?_)
  ·refine At.kn 205 Sp ?_
   refine vs 23 ?_
   refine er ?_
   exact At.drop (so sr) (zq _ (af hM).symm _ _ _ ⟨rfl, rfl, aA.sub ⟨rfl, rfl, rfl, rfl, rfl, rfl, rfl, rfl, rfl, rfl, trivial⟩⟩)
  refine At.kn 205 Sp ?_
  refine vs 4 ?_
  refine bA hM (λ Sq hM => ?_) (λ Sq hM => ?_)
  ·refine At.kn 209 Sq ?_
   refine vs 19 ?_
   refine er ?_
   exact At.drop (so sr) (zq _ (af hM).symm _ _ _ ⟨rfl, rfl, aA.sub ⟨rfl, rfl, rfl, rfl, rfl, rfl, rfl, rfl, rfl, rfl, trivial⟩⟩)
  refine At.kn 209 Sq ?_
  refine vs 4 ?_
  refine bA hM (λ Sr hM => ?_) (λ Sr hM => ?_)
  ·refine At.kn 213 Sr ?_
   refine vs 15 ?_
   refine er ?_
   exact At.drop (so sr) (zq _ (af hM).symm _ _ _ ⟨rfl, rfl, aA.sub ⟨rfl, rfl, rfl, rfl, rfl, rfl, rfl, rfl, rfl, rfl, trivial⟩⟩)
  refine At.kn 213 Sr ?_
  refine vs 4 ?_
  refine bA hM (λ Ss hM => ?_) (λ Ss hM => ?_)
  ·refine At.kn 217 Ss ?_
   refine vs 11 ?_
   refine er ?_
   exact At.drop (so sr) (zq _ (af hM).symm _ _ _ ⟨rfl, rfl, aA.sub ⟨rfl, rfl, rfl, rfl, rfl, rfl, rfl, rfl, rfl, rfl, trivial⟩⟩)
  refine At.kn 217 Ss ?_
  refine vs 4 ?_
  refine bA hM (λ Su hM => ?_) (λ Su hM => ?_)
  ·refine At.kn 221 Su ?_
   refine vs 7 ?_
   refine er ?_
   exact At.drop (so sr) (zq _ (af hM).symm _ _ _ ⟨rfl, rfl, aA.sub ⟨rfl, rfl, rfl, rfl, rfl, rfl, rfl, rfl, rfl, rfl, trivial⟩⟩)
  refine At.kn 221 Su ?_
  refine vs 4 ?_
  refine bA hM (λ Sv hM => ?_) (λ Sv hM => ?_)
  ·refine At.kn 225 Sv ?_
   refine vs 3 ?_
   refine er ?_
   exact At.drop (so sr) (zq _ (af hM).symm _ _ _ ⟨rfl, rfl, aA.sub ⟨rfl, rfl, rfl, rfl, rfl, rfl, rfl, rfl, rfl, rfl, trivial⟩⟩)
  refine At.kn 225 Sv ?_
  refine vs 3 ?_
  refine er ?_
  exact At.drop (so sr) (zq _ (af hM).symm _ _ _ ⟨rfl, rfl, aA.sub ⟨rfl, rfl, rfl, rfl, rfl, rfl, rfl, rfl, rfl, rfl, trivial⟩⟩)
 rintro Dc aGE aEI aOe ⟨rfl, rfl, aqi⟩ hM
 refine At.sub aqi ?_
 refine sc hM (λ ase hM => ?_) (λ ase hM => ?_)
 ·refine sg aL ?_
  refine vs 1 ?_
  refine er ?_
  obtain rfl := af hM
  exact rt Tryz.func19 (.tmp rfl .nil) (so sr) (hk _ _ _ ⟨(((((((((((((((((((((((((k9.trans jC).trans jD).trans ir).trans iu).trans iw).trans iy).trans gT).trans gW).trans gU).trans gE).trans gV).trans gX).trans gY).trans gM).trans gq).trans ja).trans je).trans jb).trans jf).trans jd).trans jg).trans jh).trans ji).trans iQ).trans jE), rfl, rfl⟩)
 refine sp ?_
 refine sq ?_
 refine sq ?_
 refine At.gR hM (λ (De : Bool) R' H' st' => Xh = R' ∧ H' = (gG, .cells #[iv bS.aE, iv bS.aa.an, iv bS.aa.ax, Dw, Dx, Dy] 28) :: H ∧ aK st' [(1, .pointer (some ⟨gG, 0, none⟩)), (262, .bool De)])  ?_ ?_
 rotate_right
 ·intro aRj hM wQ
  refine At.rg acm ?_
  refine vs 3 ?_
  refine bA hM (λ Sw hM => ?_) (λ Sw hM => ?_)
  ·refine At.kn 231 Sw ?_
   refine vs 31 ?_
   refine er ?_
   exact wQ _ (af hM).symm _ _ _ ⟨rfl, rfl, aA.sub ⟨rfl, rfl, trivial⟩⟩
  refine At.kn 231 Sw ?_
  refine vs 4 ?_
  refine bA hM (λ Sx hM => ?_) (λ Sx hM => ?_)
  ·refine At.kn 235 Sx ?_
   refine vs 27 ?_
   refine er ?_
   exact wQ _ (af hM).symm _ _ _ ⟨rfl, rfl, aA.sub ⟨rfl, rfl, trivial⟩⟩
  refine At.kn 235 Sx ?_
  refine vs 4 ?_
  refine bA hM (λ Sy hM => ?_) (λ Sy hM => ?_)
  ·refine At.kn 239 Sy ?_
   refine vs 23 ?_
   refine er ?_
   exact wQ _ (af hM).symm _ _ _ ⟨rfl, rfl, aA.sub ⟨rfl, rfl, trivial⟩⟩
  refine At.kn 239 Sy ?_
  refine vs 4 ?_
  refine bA hM (λ Sz hM => ?_) (λ Sz hM => ?_)
  ·refine At.kn 243 Sz ?_
   refine vs 19 ?_
   refine er ?_
   exact wQ _ (af hM).symm _ _ _ ⟨rfl, rfl, aA.sub ⟨rfl, rfl, trivial⟩⟩
  refine At.kn 243 Sz ?_
  refine vs 1 ?_
  refine At.s rfl rfl (Ox.buildSlice (cells := #[_, _, _]) rfl ck rfl (by decide) B1 (bf rfl rfl rfl rfl (bf rfl rfl rfl rfl (bf rfl rfl rfl rfl aY))) rfl λ aI9 _ _ => ⟨_, (.put rfl), ?_⟩)
  obtain ⟨M5, aun, hM⟩ := ao hM
  refine At.cv B8 (C6 tG.1 [2, 0, 1] GG.rd (bC.lit z0 (aG.le (aG.cons (x := 2) rfl rfl (aG.cons (x := 0) rfl rfl (aG.cons (x := 1) rfl rfl aG.nil))) rfl) rfl) aun) ?_
  rintro _ _ _ ⟨rfl, rfl, rfl⟩
  refine vs 3 ?_
  refine bA hM (λ SA hM => ?_) (λ SA hM => ?_)
  ·refine At.kn 249 SA ?_
   refine vs 13 ?_
   refine er ?_
   exact At.drop (so sr) (wQ _ (af hM).symm _ _ _ ⟨rfl, rfl, aA.sub ⟨rfl, rfl, trivial⟩⟩)
  refine At.kn 249 SA ?_
  refine vs 1 ?_
  refine At.s rfl rfl (Ox.buildSlice (cells := #[_, _, _]) rfl ck rfl (by decide) B1 (bf rfl rfl rfl rfl (bf rfl rfl rfl rfl (bf rfl rfl rfl rfl aY))) rfl λ aJa _ _ => ⟨_, (.put rfl), ?_⟩)
  obtain ⟨M6, auo, hM⟩ := ao hM
  refine At.cv B8 (C6 tH.1 [2, 0, 1] Tm.rd (bC.lit z0 (aG.le (aG.cons (x := 2) rfl rfl (aG.cons (x := 0) rfl rfl (aG.cons (x := 1) rfl rfl aG.nil))) rfl) rfl) auo) ?_
  rintro _ _ _ ⟨rfl, rfl, rfl⟩
  refine vs 3 ?_
  refine bA hM (λ SB hM => ?_) (λ SB hM => ?_)
  ·refine At.kn 255 SB ?_
   refine vs 7 ?_
   refine er ?_
   exact At.drop (so (so sr)) (wQ _ (af hM).symm _ _ _ ⟨rfl, rfl, aA.sub ⟨rfl, rfl, trivial⟩⟩)
  refine At.kn 255 SB ?_
  refine vs 4 ?_
  refine bA hM (λ SC hM => ?_) (λ SC hM => ?_)
  ·refine At.kn 259 SC ?_
   refine vs 3 ?_
   refine er ?_
   exact At.drop (so (so sr)) (wQ _ (af hM).symm _ _ _ ⟨rfl, rfl, aA.sub ⟨rfl, rfl, trivial⟩⟩)
  refine At.kn 259 SC ?_
  refine vs 3 ?_
  refine er ?_
  exact At.drop (so (so sr)) (wQ _ (af hM).symm _ _ _ ⟨rfl, rfl, aA.sub ⟨rfl, rfl, trivial⟩⟩)
 rintro De aGG aEK aOh ⟨rfl, rfl, aql⟩ hM
 refine At.sub aql ?_
 refine sc hM (λ asg hM => ?_) (λ asg hM => ?_)
 ·refine sg aL ?_
  refine vs 1 ?_
  refine er ?_
  obtain rfl := af hM
  exact rt Tryz.func19 (.tmp rfl .nil) (so sr) (hk _ _ _ ⟨(((((((((((((((((((((((((k9.trans jC).trans jD).trans ir).trans iu).trans iw).trans iy).trans gT).trans gW).trans gU).trans gE).trans gV).trans gX).trans gY).trans gM).trans gq).trans ja).trans je).trans jb).trans jf).trans jd).trans jg).trans jh).trans ji).trans iQ).trans jE), rfl, rfl⟩)
 refine sp ?_
 refine sg gd ?_
 refine lN [_, _, _, _, _, _] 0 6 aU z0 ?_
 obtain ⟨yh, auq, hM⟩ := ao hM
 refine At.cv afc (afz bS hG bH bI bJ auq) ?_
 rintro _ aIy _ ⟨l7, rfl, rfl⟩
 replace hG := hG.mono l7
 replace bH := bH.mono l7
 replace bI := bI.mono l7
 replace bJ := bJ.mono l7
 refine vs 7 ?_
 refine nx dy ?_
 refine lN [_, _, _, _, _, _] 0 6 aU z0 ?_
 obtain ⟨M7, aur, hM⟩ := ao hM
 refine At.cv Wa (Wk bS 0 hG bH bI bJ aur) ?_
 rintro _ aIz _ ⟨l8, rfl, aQg, aQh, aQi, aLI, aLJ, aLK, rfl⟩
 replace hG := hG.mono l8
 replace bH := bH.mono l8
 replace bI := bI.mono l8
 replace bJ := bJ.mono l8
 refine vs 4 ?_
 refine nx eC ?_
 refine lN [_, _, _, _, _, _] 0 6 aU z0 ?_
 obtain ⟨tI, aus, hM⟩ := ao hM
 refine At.cv Wa (Wk bS 2 hG bH bI bJ aus) ?_
 rintro _ aIA _ ⟨l9, rfl, aAE, aAF, aAG, aay, aaz, aaA, rfl⟩
 replace hG := hG.mono l9
 replace bH := bH.mono l9
 replace bI := bI.mono l9
 replace bJ := bJ.mono l9
 refine vs 3 ?_
 refine At.s rfl rfl (Ox.alloc (cs := #[iv 0, iv 0, iv 0, .slice none 0 0, .slice none 0 0, .slice none 0 0]) rfl jP rfl λ ahD _ _ => ⟨_, (.put rfl), ?_⟩)
 refine At.s rfl rfl (Ox.bp (cs' := #[_, _, _, _, _, _]) rfl rfl rfl aU rfl (ak rfl (ak rfl (ak rfl (ak aay.one (ak aaz.one (ak aaA.one aW)))))) .here rfl rfl rfl (.refl _) ?_)
 refine vs 1 ?_
 refine nx dY ?_
 refine lN [_, _, _, _, _, _] 0 6 aU z0 ?_
 refine At.s rfl rfl (Ox.build (cells := #[_, _]) rfl Md rfl (bf rfl rfl rfl rfl (bf rfl rfl rfl rfl aY)) rfl (.put rfl) ?_)
 obtain ⟨M8, aut, hM⟩ := ao hM
 refine At.cv afd (afA tI.1 (⟨1, 2⟩ : bW) hG aay aaz aaA aut) ?_
 rintro _ aIB _ ⟨mb, rfl, aQj, aQk, aQl, aLL, aLM, aLN, rfl⟩
 replace hG := hG.mono mb
 replace bH := bH.mono mb
 replace bI := bI.mono mb
 replace bJ := bJ.mono mb
 refine vs 4 ?_
 refine nx dY ?_
 refine lN [_, _, _, _, _, _] 0 6 aU z1 ?_
 refine At.s rfl rfl (Ox.build (cells := #[_, _]) rfl Md rfl (bf rfl rfl rfl rfl aY) rfl (.put rfl) ?_)
 obtain ⟨DO, auu, hM⟩ := ao hM
 refine At.cv JZ (Lf bS (⟨0, 1⟩ : bW) bH bI bJ auu) ?_
 rintro _ aIC _ ⟨me, rfl, aQm, aQn, aQo, auv, auw, auy, rfl⟩
 replace hG := hG.mono me
 replace bH := bH.mono me
 replace bI := bI.mono me
 replace bJ := bJ.mono me
 refine At.s rfl rfl (Ox.build (cells := #[_, _]) rfl Md rfl (bf rfl rfl rfl rfl aY) rfl (.put rfl) ?_)
 obtain ⟨rF, auz, hM⟩ := ao hM
 refine At.cv JZ (Lf DO (⟨0, 2⟩ : bW) auv auw auy auz) ?_
 rintro _ aID _ ⟨mg, rfl, ada, adb, ade, aaB, aaC, aaD, rfl⟩
 replace hG := hG.mono mg
 replace bH := bH.mono mg
 replace bI := bI.mono mg
 replace bJ := bJ.mono mg
 refine At.s rfl rfl (Ox.alloc (cs := #[iv 0, iv 0, iv 0, .slice none 0 0, .slice none 0 0, .slice none 0 0]) rfl jP rfl λ XV _ _ => ⟨_, (.put rfl), ?_⟩)
 refine At.s rfl rfl (Ox.bp (cs' := #[_, _, _, _, _, _]) rfl rfl rfl aU rfl (ak rfl (ak rfl (ak rfl (ak aaB.one (ak aaC.one (ak aaD.one aW)))))) .here rfl rfl rfl (.refl _) ?_)
 refine nx dY ?_
 refine lN [_, _, _, _, _, _] 0 6 aU z0 ?_
 obtain ⟨Bn, auA, hM⟩ := ao hM
 refine At.cv aek (aeU rF hG aaB aaC aaD auA) ?_
 rintro _ aIE _ ⟨mh, rfl, aQp, GI, rfl⟩
 replace hG := hG.mono mh
 replace bH := bH.mono mh
 replace bI := bI.mono mh
 replace bJ := bJ.mono mh
 refine vs 5 ?_
 refine es ?_
 refine At.draw (n := 8) (is := [0, 1, 2, 3, 4, 5, 6, 7]) (many ((XV, .cells #[iv rF.aE, iv rF.aa.an, iv rF.aa.ax, ada, adb, ade] 28) :: (ahD, .cells #[iv tI.1.aE, iv tI.1.aa.an, iv tI.1.aa.ax, aAE, aAF, aAG] 28) :: (gG, .cells #[iv bS.aE, iv bS.aa.an, iv bS.aa.ax, Dw, Dx, Dy] 28) :: H) [(6, (XV, .cells #[iv rF.aE, iv rF.aa.an, iv rF.aa.ax, ada, adb, ade] 28) :: (gG, .cells #[iv bS.aE, iv bS.aa.an, iv bS.aa.ax, Dw, Dx, Dy] 28) :: H)]) mixed rfl (by decide +kernel) rfl rfl ?_
 refine ts 0 [2, 3, 4, 5, 6, 7] rfl (cq rfl (dm (su (so (so sr))))) (su (so (so sr))) (λ R' H' hR hS => Ox.bP (vs := [_, _, _, _, _, _]) rfl rfl aU rfl ((aT.box (hS _ z0)).part (j := 0) (n := 6) rfl) rfl (.one rfl) ⟨rfl, rfl, rfl⟩) ?_
 obtain ⟨DQ, auB, hM⟩ := ao hM
 refine Any.cv 1 PF (Uj 21  auB) ?_
 rintro _ _ _ ⟨rfl, rfl, rfl⟩
 refine ⟨rr, (bO rfl pp), ?_⟩
 obtain ⟨Bo, auC, hM⟩ := ao hM
 refine Any.cv 2 afe (afB bS 0 DQ hG bH bI bJ auC) ?_
 rintro _ aIF _ ⟨nq, rfl, aQq, aQr, aQs, aaE, aaF, aaG, rfl⟩
 replace hG := hG.mono nq
 replace GI := GI.mono nq
 refine ⟨nq, (bO rfl pp), ?_⟩
 refine Any.vs 3 [3, 4, 5] rfl ?_
 refine Any.on 6 rfl rfl (aR.to (Ox.bp (cs' := #[_, _, _, _, _, _]) rfl rfl rfl aU rfl (ak rfl (ak rfl (ak rfl (ak aaE.one (ak aaF.one (ak aaG.one aW)))))) (.there .here) rfl rfl rfl (.refl _) ⟨rr, (bO rfl (su (sk (so sr)))), ?_⟩))
 refine Any.vs 1 [7] rfl ?_
 refine Any.done ?_
 refine sg dY ?_
 refine lN [_, _, _, _, _, _] 0 6 aU z1 ?_
 obtain ⟨DR, auD, hM⟩ := ao hM
 refine At.cv NU (NZ Bo.1 hG hK aaE aaF aaG auD) ?_
 rintro _ aIG _ ⟨pq, rfl, rfl⟩
 replace GI := GI.mono pq
 refine vs 5 ?_
 refine nx azj ?_
 refine vs 3 ?_
 refine bA hM (λ SD hM => ?_) (λ SD hM => ?_)
 ·refine At.kn 308 SD ?_
  refine vs 4 ?_
  refine bA hM (λ SE hM => ?_) (λ SE hM => ?_)
  ·refine At.kn 312 SE ?_
   refine vs 4 ?_
   refine bA hM (λ SF hM => ?_) (λ SF hM => ?_)
   ·refine At.kn 316 SF ?_
    refine vs 4 ?_
    refine bA hM (λ SG hM => ?_) (λ SG hM => ?_)
    ·refine At.kn 320 SG ?_
     refine vs 4 ?_
     refine bA hM (λ SH hM => ?_) (λ SH hM => ?_)
     ·refine At.kn 324 SH ?_
      refine vs 4 ?_
      refine bA hM (λ SI hM => ?_) (λ SI hM => ?_)
      ·refine At.kn 328 SI ?_
       refine vs 4 ?_
       refine bA hM (λ SJ hM => ?_) (λ SJ hM => ?_)
       ·refine At.kn 332 SJ ?_
        refine vs 4 ?_
        refine bA hM (λ SK hM => ?_) (λ SK hM => ?_)
        ·refine At.kn 336 SK ?_
         refine vs 4 ?_
         refine bA hM (λ SL hM => ?_) (λ SL hM => ?_)
         ·refine At.kn 340 SL ?_
          refine vs 1 ?_
          refine At.s rfl rfl (Ox.buildSlice (cells := #[_]) rfl ck rfl (by decide) cS (bf rfl rfl rfl rfl aY) rfl λ aJb _ _ => ⟨_, (.put rfl), ?_⟩)
          obtain ⟨M9, auF, hM⟩ := ao hM
          refine At.cv B8 (C6 Bn.1 [0] GI.rd (bC.lit z0 (aG.le (aG.cons (x := 0) rfl rfl aG.nil) rfl) rfl) auF) ?_
          rintro _ _ _ ⟨rfl, rfl, rfl⟩
          refine vs 2 ?_
          refine bA hM (λ SM hM => ?_) (λ SM hM => ?_)
          ·refine At.kn 345 SM ?_
           refine vs 4 ?_
           refine er ?_
           obtain rfl := af hM
           exact rt Tryz.func19 (.tmp rfl .nil) (so (so (so (so sr)))) (hk _ _ _ ⟨((((((((((((((((((((((((((((((((((k9.trans jC).trans jD).trans ir).trans iu).trans iw).trans iy).trans gT).trans gW).trans gU).trans gE).trans gV).trans gX).trans gY).trans gM).trans gq).trans ja).trans je).trans jb).trans jf).trans jd).trans jg).trans jh).trans ji).trans iQ).trans jE).trans l7).trans l8).trans l9).trans mb).trans me).trans mg).trans mh).trans nq).trans pq), rfl, rfl⟩)
          refine At.kn 345 SM ?_
          refine vs 4 ?_
          refine er ?_
          obtain rfl := af hM
          exact rt Tryz.func19 (.tmp rfl .nil) (so (so (so (so sr)))) (hk _ _ _ ⟨((((((((((((((((((((((((((((((((((k9.trans jC).trans jD).trans ir).trans iu).trans iw).trans iy).trans gT).trans gW).trans gU).trans gE).trans gV).trans gX).trans gY).trans gM).trans gq).trans ja).trans je).trans jb).trans jf).trans jd).trans jg).trans jh).trans ji).trans iQ).trans jE).trans l7).trans l8).trans l9).trans mb).trans me).trans mg).trans mh).trans nq).trans pq), rfl, rfl⟩)
         refine At.kn 340 SL ?_
         refine vs 9 ?_
         refine er ?_
         obtain rfl := af hM
         exact rt Tryz.func19 (.tmp rfl .nil) (so (so (so sr))) (hk _ _ _ ⟨((((((((((((((((((((((((((((((((((k9.trans jC).trans jD).trans ir).trans iu).trans iw).trans iy).trans gT).trans gW).trans gU).trans gE).trans gV).trans gX).trans gY).trans gM).trans gq).trans ja).trans je).trans jb).trans jf).trans jd).trans jg).trans jh).trans ji).trans iQ).trans jE).trans l7).trans l8).trans l9).trans mb).trans me).trans mg).trans mh).trans nq).trans pq), rfl, rfl⟩)
        refine At.kn 336 SK ?_
        refine vs 13 ?_
        refine er ?_
        obtain rfl := af hM
        exact rt Tryz.func19 (.tmp rfl .nil) (so (so (so sr))) (hk _ _ _ ⟨((((((((((((((((((((((((((((((((((k9.trans jC).trans jD).trans ir).trans iu).trans iw).trans iy).trans gT).trans gW).trans gU).trans gE).trans gV).trans gX).trans gY).trans gM).trans gq).trans ja).trans je).trans jb).trans jf).trans jd).trans jg).trans jh).trans ji).trans iQ).trans jE).trans l7).trans l8).trans l9).trans mb).trans me).trans mg).trans mh).trans nq).trans pq), rfl, rfl⟩)
       refine At.kn 332 SJ ?_
       refine vs 17 ?_
       refine er ?_
       obtain rfl := af hM
       exact rt Tryz.func19 (.tmp rfl .nil) (so (so (so sr))) (hk _ _ _ ⟨((((((((((((((((((((((((((((((((((k9.trans jC).trans jD).trans ir).trans iu).trans iw).trans iy).trans gT).trans gW).trans gU).trans gE).trans gV).trans gX).trans gY).trans gM).trans gq).trans ja).trans je).trans jb).trans jf).trans jd).trans jg).trans jh).trans ji).trans iQ).trans jE).trans l7).trans l8).trans l9).trans mb).trans me).trans mg).trans mh).trans nq).trans pq), rfl, rfl⟩)
      refine At.kn 328 SI ?_
      refine vs 21 ?_
      refine er ?_
      obtain rfl := af hM
      exact rt Tryz.func19 (.tmp rfl .nil) (so (so (so sr))) (hk _ _ _ ⟨((((((((((((((((((((((((((((((((((k9.trans jC).trans jD).trans ir).trans iu).trans iw).trans iy).trans gT).trans gW).trans gU).trans gE).trans gV).trans gX).trans gY).trans gM).trans gq).trans ja).trans je).trans jb).trans jf).trans jd).trans jg).trans jh).trans ji).trans iQ).trans jE).trans l7).trans l8).trans l9).trans mb).trans me).trans mg).trans mh).trans nq).trans pq), rfl, rfl⟩)
     refine At.kn 324 SH ?_
     refine vs 25 ?_
     refine er ?_
     obtain rfl := af hM
     exact rt Tryz.func19 (.tmp rfl .nil) (so (so (so sr))) (hk _ _ _ ⟨((((((((((((((((((((((((((((((((((k9.trans jC).trans jD).trans ir).trans iu).trans iw).trans iy).trans gT).trans gW).trans gU).trans gE).trans gV).trans gX).trans gY).trans gM).trans gq).trans ja).trans je).trans jb).trans jf).trans jd).trans jg).trans jh).trans ji).trans iQ).trans jE).trans l7).trans l8).trans l9).trans mb).trans me).trans mg).trans mh).trans nq).trans pq), rfl, rfl⟩)
    refine At.kn 320 SG ?_
    refine vs 29 ?_
    refine er ?_
    obtain rfl := af hM
    exact rt Tryz.func19 (.tmp rfl .nil) (so (so (so sr))) (hk _ _ _ ⟨((((((((((((((((((((((((((((((((((k9.trans jC).trans jD).trans ir).trans iu).trans iw).trans iy).trans gT).trans gW).trans gU).trans gE).trans gV).trans gX).trans gY).trans gM).trans gq).trans ja).trans je).trans jb).trans jf).trans jd).trans jg).trans jh).trans ji).trans iQ).trans jE).trans l7).trans l8).trans l9).trans mb).trans me).trans mg).trans mh).trans nq).trans pq), rfl, rfl⟩)
   refine At.kn 316 SF ?_
   refine vs 33 ?_
   refine er ?_
   obtain rfl := af hM
   exact rt Tryz.func19 (.tmp rfl .nil) (so (so (so sr))) (hk _ _ _ ⟨((((((((((((((((((((((((((((((((((k9.trans jC).trans jD).trans ir).trans iu).trans iw).trans iy).trans gT).trans gW).trans gU).trans gE).trans gV).trans gX).trans gY).trans gM).trans gq).trans ja).trans je).trans jb).trans jf).trans jd).trans jg).trans jh).trans ji).trans iQ).trans jE).trans l7).trans l8).trans l9).trans mb).trans me).trans mg).trans mh).trans nq).trans pq), rfl, rfl⟩)
  refine At.kn 312 SE ?_
  refine vs 37 ?_
  refine er ?_
  obtain rfl := af hM
  exact rt Tryz.func19 (.tmp rfl .nil) (so (so (so sr))) (hk _ _ _ ⟨((((((((((((((((((((((((((((((((((k9.trans jC).trans jD).trans ir).trans iu).trans iw).trans iy).trans gT).trans gW).trans gU).trans gE).trans gV).trans gX).trans gY).trans gM).trans gq).trans ja).trans je).trans jb).trans jf).trans jd).trans jg).trans jh).trans ji).trans iQ).trans jE).trans l7).trans l8).trans l9).trans mb).trans me).trans mg).trans mh).trans nq).trans pq), rfl, rfl⟩)
 refine At.kn 308 SD ?_
 refine vs 41 ?_
 refine er ?_
 obtain rfl := af hM
 exact rt Tryz.func19 (.tmp rfl .nil) (so (so (so sr))) (hk _ _ _ ⟨((((((((((((((((((((((((((((((((((k9.trans jC).trans jD).trans ir).trans iu).trans iw).trans iy).trans gT).trans gW).trans gU).trans gE).trans gV).trans gX).trans gY).trans gM).trans gq).trans ja).trans je).trans jb).trans jf).trans jd).trans jg).trans jh).trans ji).trans iQ).trans jE).trans l7).trans l8).trans l9).trans mb).trans me).trans mg).trans mh).trans nq).trans pq), rfl, rfl⟩)
theorem s3 (x0 : Int) (x1 : Int) (x2 : Int)  {r : Bool} (hM : nB x0 x1 x2 = some r) : aJ ag 58 #[iv x0, iv x1, iv x2] R H (λ v R' H' => R = R' ∧ H = H' ∧ v = .bool r) := by
 unfold nB at hM
 refine aJ.aX Tryz.func58 rfl (n := 15) rfl rfl λ fr cs hk => ?_
 refine sg aL ?_
 refine vs 1 ?_
 refine nx gd ?_
 refine vs 4 ?_
 refine bA hM (λ Aa hM => ?_) (λ Aa hM => ?_)
 ·refine At.kn 10 Aa ?_
  refine vs 5 ?_
  refine er ?_
  obtain rfl := af hM
  exact rt Tryz.func58 (.tmp rfl .nil) sr (hk _ _ _ ⟨rfl, rfl, rfl⟩)
 refine At.kn 10 Aa ?_
 refine vs 5 ?_
 refine er ?_
 obtain rfl := af hM
 exact rt Tryz.func58 (.tmp rfl .nil) sr (hk _ _ _ ⟨rfl, rfl, rfl⟩)
theorem Ud (x0 : Reach) (x1 : Int) (x2 : Int)  {r : Bool} (hM : AH x0 x1 x2 = some r) : aJ ag 124 #[.agg #[iv x0.an, iv x0.ax], iv x1, iv x2] R H (λ v R' H' => R = R' ∧ H = H' ∧ v = .bool r) := by
 unfold AH at hM
 refine aJ.aX Tryz.func124 rfl (n := 24) rfl rfl λ fr cs hk => ?_
 refine sg aQ ?_
 refine bx λ BY => ?_
 refine vs 1 ?_
 refine nx UK ?_
 refine vs 2 ?_
 refine ld 0 bg z0 ?_
 refine vs 2 ?_
 refine bA hM (λ jH hM => ?_) (λ jH hM => ?_)
 ·refine At.kn 11 jH ?_
  refine vs 1 ?_
  refine ld 0 bg z0 ?_
  refine vs 1 ?_
  refine ld 1 bg z0 ?_
  refine vs 3 ?_
  refine bA hM (λ mC hM => ?_) (λ mC hM => ?_)
  ·refine At.kn 18 mC ?_
   refine vs 1 ?_
   refine ld 1 bg z0 ?_
   refine vs 4 ?_
   refine er ?_
   obtain rfl := af hM
   exact rt Tryz.func124 (.tmp rfl .nil) (so sr) (hk _ _ _ ⟨rfl, rfl, rfl⟩)
  refine At.kn 18 mC ?_
  refine vs 6 ?_
  refine er ?_
  obtain rfl := af hM
  exact rt Tryz.func124 (.tmp rfl .nil) (so sr) (hk _ _ _ ⟨rfl, rfl, rfl⟩)
 refine At.kn 11 jH ?_
 refine vs 13 ?_
 refine er ?_
 obtain rfl := af hM
 exact rt Tryz.func124 (.tmp rfl .nil) (so sr) (hk _ _ _ ⟨rfl, rfl, rfl⟩)
theorem Hr (x0 : (List Int)) (x1 : Int) {v0 : Value} (h0 : bC CZ 1 R H v0 x0) {r : Bool} (hM : sZ x0 x1 = some r) : aJ ag 47 #[v0, iv x1] R H (λ v R' H' => R = R' ∧ H = H' ∧ v = .bool r) := by
 unfold sZ at hM
 refine aJ.aX Tryz.func47 rfl (n := 18) rfl rfl λ fr cs hk => ?_
 refine sg aL ?_
 refine vs 1 ?_
 refine es ?_
 refine sg aL ?_
 refine vs 1 ?_
 refine er ?_
 refine At.block ?_
 refine At.fh hM (λ (dG : Int) R' H' st' => R = R' ∧ H = H' ∧ aK st' [(0, v0), (1, iv x1), (5, iv dG)]) (λ (jm : Unit) R' H' st' => R = R' ∧ H = H' ∧ aK st' []) 0 rfl ⟨rfl, rfl, aA.sub ⟨rfl, rfl, rfl, trivial⟩⟩ ?_ ?_
 rotate_right
 ·rintro dG WY WB acw ⟨rfl, rfl, F0⟩ cJ hM ES wR HC
  refine At.sub F0 ?_
  refine sq ?_
  refine sg bn ?_
  refine vs 2 ?_
  refine lr h0 Tryz.underlying25 ?_
  refine vs 1 ?_
  refine er ?_
  refine sc hM (λ uM hM => ?_) (λ uM hM => ?_)
  ·refine sp ?_
   refine sq ?_
   refine At.block ?_
   refine sg dy ?_
   refine vs 2 ?_
   obtain ⟨oQ, Ap, hM⟩ := ao hM
   obtain ⟨ahT, ayx, _, rfl, QH, Q3⟩ := h0.elem cL Ap
   refine At.s rfl rfl (Ox.bq rfl rfl rfl Q3 rfl (.put rfl) ?_)
   refine At.ld bg ((QH.sub pp).one (j := 0) rfl) ?_
   refine vs 2 ?_
   refine er ?_
   refine sc hM (λ uN hM => ?_) (λ uN hM => ?_)
   ·refine sg aL ?_
    refine vs 1 ?_
    refine er ?_
    replace hM := HC _ (af hM).symm
    obtain rfl := af hM
    exact rt Tryz.func47 (.tmp rfl .nil) sr (hk _ _ _ ⟨rfl, rfl, rfl⟩)
   refine sp ?_
   refine At.inBlock ?_
   refine At.rg aS ?_
   refine vs 3 ?_
   refine er ?_
   exact ES _ (af hM).symm _ _ _ ⟨rfl, rfl, aA.sub ⟨rfl, rfl, rfl, trivial⟩⟩
  exact At.exit rfl (wR _ (af hM).symm _ _ _ ⟨rfl, rfl, aA.sub trivial⟩)
 rintro jm OF N7 UP ⟨rfl, rfl, zZ⟩ hM
 refine At.sub zZ ?_
 refine sg aL ?_
 refine vs 1 ?_
 refine er ?_
 obtain rfl := af hM
 exact rt Tryz.func47 (.tmp rfl .nil) sr (hk _ _ _ ⟨rfl, rfl, rfl⟩)
theorem abx (x0 : aq) (x1 : Int) {aC aD aH : Value} (ay : aj bm 5 R aC x0.az) (_ : aj CZ 1 R aD x0.Out) (_ : aj bh 2 R aH x0.aO) {r : Bool} (hM : AG x0 x1 = some r) : aJ ag 123 #[.agg #[iv x0.aE, iv x0.aa.an, iv x0.aa.ax, aC, aD, aH], iv x1] R H (λ v R' H' => R = R' ∧ H = H' ∧ v = .bool r) := by
 unfold AG at hM
 refine aJ.aX Tryz.func123 rfl (n := 11) rfl rfl λ fr cs hk => ?_
 refine sg aQ ?_
 refine bx λ jU => ?_
 refine vs 1 ?_
 refine nx dY ?_
 refine vs 2 ?_
 refine ld 3 cK z0 ?_
 refine ls ay Tryz.underlying24 ?_
 refine vs 1 ?_
 obtain ⟨ig, lp, hM⟩ := ao hM
 refine At.cv sj (s3 x1 0 (i64 ((x0.az.length : Int) - 1))  lp) ?_
 rintro _ _ _ ⟨rfl, rfl, rfl⟩
 refine vs 1 ?_
 refine er ?_
 obtain rfl := af hM
 exact rt Tryz.func123 (.tmp rfl .nil) (so sr) (hk _ _ _ ⟨rfl, rfl, rfl⟩)
theorem abB (x0 : aq) (x1 : (List Int)) (x2 : Int) {aC aD aH v1 : Value} (ay : aj bm 5 R aC x0.az) (_ : aj CZ 1 R aD x0.Out) (_ : aj bh 2 R aH x0.aO) (h1 : bC CZ 1 R H v1 x1) {r : Bool} (hM : AJ x0 x1 x2 = some r) : aJ ag 150 #[.agg #[iv x0.aE, iv x0.aa.an, iv x0.aa.ax, aC, aD, aH], v1, iv x2] R H (λ v R' H' => R = R' ∧ H = H' ∧ v = .bool r) := by
 unfold AJ at hM
 refine aJ.aX Tryz.func150 rfl (n := 32) rfl rfl λ fr cs hk => ?_
 refine sg aQ ?_
 refine bx λ r7 => ?_
 refine vs 1 ?_
 refine es ?_
 refine sg aS ?_
 refine vs 2 ?_
 obtain ⟨mS, Aq, hM⟩ := ao hM
 refine At.cv E7 (Hr x1 x2 (h1.sub (su (so sr))) Aq) ?_
 rintro _ _ _ ⟨rfl, rfl, rfl⟩
 refine er ?_
 refine sc hM (λ ot hM => ?_) (λ ot hM => ?_)
 ·refine sg aL ?_
  refine vs 1 ?_
  refine er ?_
  obtain rfl := af hM
  exact rt Tryz.func150 (.tmp rfl .nil) (so sr) (hk _ _ _ ⟨rfl, rfl, rfl⟩)
 refine sp ?_
 refine sq ?_
 refine sg aL ?_
 refine vs 1 ?_
 refine er ?_
 refine At.block ?_
 refine At.fh hM (λ (gD : Int) R' H' st' => R = R' ∧ H' = (r7, .cells #[iv x0.aE, iv x0.aa.an, iv x0.aa.ax, aC, aD, aH] 28) :: H ∧ aK st' [(1, v1), (2, iv x2), (3, .pointer (some ⟨r7, 0, none⟩)), (7, iv gD)]) (λ (ayJ : Unit) R' H' st' => R = R' ∧ H = H' ∧ aK st' []) 0 rfl ⟨rfl, rfl, aA.sub ⟨rfl, rfl, rfl, rfl, trivial⟩⟩ ?_ ?_
 rotate_right
 ·rintro gD W8 H55 aOJ ⟨rfl, rfl, aqN⟩ fA hM EU ajD ayo
  refine At.sub aqN ?_
  refine sq ?_
  refine sg bT ?_
  refine vs 2 ?_
  refine ld 3 cK z0 ?_
  refine ls ay Tryz.underlying24 ?_
  refine vs 1 ?_
  refine er ?_
  refine sc hM (λ Gv hM => ?_) (λ Gv hM => ?_)
  ·refine sp ?_
   refine sq ?_
   refine At.block ?_
   refine sg El ?_
   refine vs 2 ?_
   obtain ⟨iY, pG, hM⟩ := ao hM
   refine At.cv E7 (Hr x1 gD (h1.sub (su (so sr))) pG) ?_
   rintro _ _ _ ⟨rfl, rfl, rfl⟩
   refine vs 2 ?_
   refine bA hM (λ uO hM => ?_) (λ uO hM => ?_)
   ·refine At.kn 22 uO ?_
    refine vs 1 ?_
    refine ld 3 cK z0 ?_
    refine vs 1 ?_
    obtain ⟨yT, TB, hM⟩ := ao hM
    obtain ⟨jx, pH, hM⟩ := ao hM
    obtain ⟨aKj, aNf, _, ⟨aQQ, avk, rfl⟩, amb, an3⟩ := ay.elem gN TB
    refine At.s rfl rfl (Ox.bq rfl rfl rfl an3 rfl (.put rfl) ?_)
    refine vs 1 ?_
    refine At.ld bL (amb.any.one (j := 4) rfl) ?_
    refine vs 1 ?_
    refine At.cv E7 (Hr yT.On x2 avk.rd pH) ?_
    rintro _ _ _ ⟨rfl, rfl, rfl⟩
    refine vs 1 ?_
    refine er ?_
    refine sc hM (λ Al hM => ?_) (λ Al hM => ?_)
    ·refine sg aL ?_
     refine vs 1 ?_
     refine er ?_
     replace hM := ayo _ (af hM).symm
     obtain rfl := af hM
     exact rt Tryz.func150 (.tmp rfl .nil) (so sr) (hk _ _ _ ⟨rfl, rfl, rfl⟩)
    refine sp ?_
    refine At.inBlock ?_
    refine At.rg aS ?_
    refine vs 3 ?_
    refine er ?_
    exact EU _ (af hM).symm _ _ _ ⟨rfl, rfl, aA.sub ⟨rfl, rfl, rfl, rfl, trivial⟩⟩
   refine At.kn 22 uO ?_
   refine vs 9 ?_
   refine er ?_
   refine At.cond_false rfl ?_
   refine sp ?_
   refine At.inBlock ?_
   refine At.rg aS ?_
   refine vs 3 ?_
   refine er ?_
   exact EU _ (af hM).symm _ _ _ ⟨rfl, rfl, aA.sub ⟨rfl, rfl, rfl, rfl, trivial⟩⟩
  exact At.exit rfl (At.drop (so sr) (ajD _ (af hM).symm _ _ _ ⟨rfl, rfl, aA.sub trivial⟩))
 rintro ayJ aGX aE5 aOK ⟨rfl, rfl, aqO⟩ hM
 refine At.sub aqO ?_
 refine sg aL ?_
 refine vs 1 ?_
 refine er ?_
 obtain rfl := af hM
 exact rt Tryz.func150 (.tmp rfl .nil) sr (hk _ _ _ ⟨rfl, rfl, rfl⟩)
theorem Ue (x0 : aq) (x1 : (List Int)) (x2 : (List Int)) {aC aD aH v1 v2 : Value} (ay : aj bm 5 R aC x0.az) (aB : aj CZ 1 R aD x0.Out) (aF : aj bh 2 R aH x0.aO) (h1 : bC CZ 1 R H v1 x1) (h2 : bC CZ 1 R H v2 x2) {r : Int} (hM : AI x0 x1 x2 = some r) : aJ ag 126 #[.agg #[iv x0.aE, iv x0.aa.an, iv x0.aa.ax, aC, aD, aH], v1, v2] R H (λ v R' H' => R = R' ∧ H = H' ∧ v = iv r) := by
 unfold AI at hM
 refine aJ.aX Tryz.func126 rfl (n := 46) rfl rfl λ fr cs hk => ?_
 refine sg aQ ?_
 refine bx λ B0 => ?_
 refine vs 1 ?_
 refine nx bn ?_
 refine At.s rfl rfl (Ox.buildSlice (cells := #[]) rfl ck rfl (by decide) p7 aY rfl λ b88 _ _ => ⟨_, (.put rfl), ?_⟩)
 refine vs 1 ?_
 obtain ⟨Wv, avB, hM⟩ := ao hM
 refine At.s rfl rfl (Ox.append (K := CZ) (λ X => X ++ ((B0, _) :: H)) rfl rfl rfl cR Tryz.underlying25 (by simp) .id (aZ.lit (aG.le aG.nil rfl) rfl) (h1.sub (su (so (so sr)))).arg avB rfl λ aBt agr apt => ⟨_, (.put rfl), ?_⟩)
 refine vs 1 ?_
 refine es ?_
 refine sg aL ?_
 refine vs 1 ?_
 refine er ?_
 refine At.block ?_
 refine At.fh hM (λ (gz : ((List Int) × Int)) R' H' st' => R = R' ∧ ∃ U1 Ov, aZ CZ 1 3 R' U1 gz.1 Ov ∧ H' = Ov ++ ((B0, .cells #[iv x0.aE, iv x0.aa.an, iv x0.aa.ax, aC, aD, aH] 28) :: H) ∧ aK st' [(2, v2), (3, .pointer (some ⟨B0, 0, none⟩)), (7, U1), (8, iv gz.2)]) (λ (ayP : Unit) R' H' st' => R = R' ∧ H = H' ∧ aK st' []) 0 rfl ⟨rfl, aBt, agr, apt, rfl, aA.sub ⟨rfl, rfl, rfl, rfl, trivial⟩⟩ ?_ ?_
 rotate_right
 ·rintro gz R90 H90 aPf ⟨rfl, U1, Ov, Rr, rfl, ark⟩ Ww hM ahn ajR Uy
  refine At.sub ark ?_
  refine sq ?_
  refine sg bn ?_
  refine vs 2 ?_
  refine lr h2 Tryz.underlying25 ?_
  refine vs 1 ?_
  refine er ?_
  refine sc hM (λ RZ hM => ?_) (λ RZ hM => ?_)
  ·refine sp ?_
   refine sq ?_
   refine At.block ?_
   refine sq ?_
   refine sq ?_
   refine At.dw dY mixed ?_
   refine tN 0 [_, _, _, _, _, _] 0 6 aU (List.mem_append_right _ z0) ?_
   refine Any.vs 2 [1, 2] rfl ?_
   obtain ⟨yJ, aeH, hM⟩ := ao hM
   obtain ⟨yQ, aeI, hM⟩ := ao hM
   obtain ⟨aJo, aMu, _, rfl, alp, anc⟩ := h2.elem cL aeH
   refine Any.tk 3 rfl pp (λ R' H' hR hS => Ox.bq rfl rfl rfl anc rfl (.one rfl) ⟨rfl, rfl, rfl⟩) ?_
   refine Any.tk 4 rfl pp (λ R' H' hR hS => Ox.bV rfl rfl bg (((alp.le hR).sub (λ p h => hS p ((su (aP (so sr))) p h))).one (j := 0) rfl) rfl (.one rfl) ⟨rfl, rfl, rfl⟩) ?_
   refine Any.cv 5 YM (abx x0 yJ ay aB aF aeI) ?_
   rintro _ _ _ ⟨rfl, rfl, rfl⟩
   refine kp ?_
   refine Any.vs 1 [6] rfl ?_
   refine Any.done ?_
   refine sc hM (λ F7 hM => ?_) (λ F7 hM => ?_)
   ·refine sg aL ?_
    refine vs 1 ?_
    refine er ?_
    replace hM := Uy _ (af hM).symm
    obtain rfl := af hM
    exact rt Tryz.func126 (.tmp rfl .nil) (aP (so sr)) (hk _ _ _ ⟨rfl, rfl, rfl⟩)
   refine sp ?_
   refine sq ?_
   refine sg dy ?_
   refine vs 3 ?_
   obtain ⟨kN, S5, hM⟩ := ao hM
   obtain ⟨kO, S6, hM⟩ := ao hM
   obtain ⟨ahN, ayt, _, rfl, QD, QZ⟩ := h2.elem cL S5
   refine At.s rfl rfl (Ox.bq rfl rfl rfl QZ rfl (.put rfl) ?_)
   refine At.ld bg ((QD.sub (su (aP (so sr)))).one (j := 0) rfl) ?_
   refine At.cv E7 (Hr gz.1 kN (Rr.rd (λ _ h => (List.mem_append_left _ h))) S6) ?_
   rintro _ _ _ ⟨rfl, rfl, rfl⟩
   refine er ?_
   refine sc hM (λ VJ hM => ?_) (λ VJ hM => ?_)
   ·refine sg aL ?_
    refine vs 1 ?_
    refine er ?_
    replace hM := Uy _ (af hM).symm
    obtain rfl := af hM
    exact rt Tryz.func126 (.tmp rfl .nil) (aP (so sr)) (hk _ _ _ ⟨rfl, rfl, rfl⟩)
   refine sp ?_
   refine sq ?_
   refine sq ?_
   refine At.dw eC mixed ?_
   refine tN 0 [_, _, _, _, _, _] 0 6 aU (List.mem_append_right _ z0) ?_
   refine Any.vs 3 [1, 2, 3] rfl ?_
   obtain ⟨En, as7, hM⟩ := ao hM
   obtain ⟨yR, aeJ, hM⟩ := ao hM
   obtain ⟨aJq, aMw, _, rfl, alu, anf⟩ := h2.elem cL as7
   refine Any.tk 4 rfl pp (λ R' H' hR hS => Ox.bq rfl rfl rfl anf rfl (.one rfl) ⟨rfl, rfl, rfl⟩) ?_
   refine Any.tk 5 rfl pp (λ R' H' hR hS => Ox.bV rfl rfl bg (((alu.le hR).sub (λ p h => hS p ((su (aP (so sr))) p h))).one (j := 0) rfl) rfl (.one rfl) ⟨rfl, rfl, rfl⟩) ?_
   refine Any.cv 6 YQ (abB x0 gz.1 En ay aB aF (Rr.rd (λ _ h => (List.mem_append_left _ h))) aeJ) ?_
   rintro _ _ _ ⟨rfl, rfl, rfl⟩
   refine kp ?_
   refine Any.vs 1 [7] rfl ?_
   refine Any.done ?_
   refine sc hM (λ F9 hM => ?_) (λ F9 hM => ?_)
   ·refine sg aL ?_
    refine vs 1 ?_
    refine er ?_
    replace hM := Uy _ (af hM).symm
    obtain rfl := af hM
    exact rt Tryz.func126 (.tmp rfl .nil) (aP (so sr)) (hk _ _ _ ⟨rfl, rfl, rfl⟩)
   refine sp ?_
   refine At.rg eC ?_
   refine vs 3 ?_
   obtain ⟨gQ, Nr, hM⟩ := ao hM
   obtain ⟨vU, aeL, hM⟩ := ao hM
   obtain ⟨ahO, ayu, _, rfl, QE, Q0⟩ := h2.elem cL Nr
   refine At.s rfl rfl (Ox.bq rfl rfl rfl Q0 rfl (.put rfl) ?_)
   refine At.ld bg ((QE.sub (su (aP (so sr)))).one (j := 0) rfl) ?_
   refine At.s rfl rfl (Ox.buildSlice (cells := #[_]) rfl ck rfl (by decide) cS (bf rfl rfl rfl rfl aY) rfl λ Jw _ _ => ⟨_, (.put rfl), ?_⟩)
   refine At.s rfl rfl (Ox.append (K := CZ) (λ X => (Jw, _) :: X ++ ((B0, _) :: H)) rfl rfl rfl cR Tryz.underlying25 (by simp) (.cons .id) Rr (cE.lit z0 (aG.le (aG.cons (x := gQ) rfl rfl aG.nil) rfl) rfl) aeL rfl λ aAp af9 ao8 => ⟨_, (.put rfl), ?_⟩)
   refine vs 1 ?_
   refine er ?_
   refine At.inBlock ?_
   refine At.rg aS ?_
   refine vs 3 ?_
   refine er ?_
   exact At.drop (so sr) (ahn _ (af hM).symm _ _ _ ⟨rfl, aAp, af9, ao8, rfl, aA.sub ⟨rfl, rfl, rfl, rfl, trivial⟩⟩)
  exact At.exit rfl (At.drop (aP (so sr)) (ajR _ (af hM).symm _ _ _ ⟨rfl, rfl, aA.sub trivial⟩))
 rintro ayP aHf aFr aPg ⟨rfl, rfl, arl⟩ hM
 refine At.sub arl ?_
 refine sg aL ?_
 refine vs 1 ?_
 refine er ?_
 obtain rfl := af hM
 exact rt Tryz.func126 (.tmp rfl .nil) sr (hk _ _ _ ⟨rfl, rfl, rfl⟩)
theorem aeW (x0 : (List Int)) (x1 : Int) {v0 : Value} (h0 : bC CZ 1 R H v0 x0) {r : Int} (hM : AZ x0 x1 = some r) : aJ ag 66 #[v0, iv x1] R H (λ v R' H' => R = R' ∧ H = H' ∧ v = iv r) := by
 unfold AZ at hM
 refine aJ.aX Tryz.func66 rfl (n := 34) rfl rfl λ fr cs hk => ?_
 refine sg aL ?_
 refine vs 1 ?_
 refine es ?_
 refine sg aL ?_
 refine vs 1 ?_
 refine er ?_
 refine At.block ?_
 refine At.fh hM (λ (tc : Int) R' H' st' => R = R' ∧ H = H' ∧ aK st' [(0, v0), (1, iv x1), (5, iv tc)]) (λ (ayK : Unit) R' H' st' => R = R' ∧ H = H' ∧ aK st' []) 0 rfl ⟨rfl, rfl, aA.sub ⟨rfl, rfl, rfl, trivial⟩⟩ ?_ ?_
 rotate_right
 ·rintro tc R57 H57 aOL ⟨rfl, rfl, aqP⟩ en hM XI ajE abT
  refine At.sub aqP ?_
  refine sq ?_
  refine sg bn ?_
  refine vs 2 ?_
  refine lr h0 Tryz.underlying25 ?_
  refine vs 1 ?_
  refine er ?_
  refine sc hM (λ aez hM => ?_) (λ aez hM => ?_)
  ·refine sp ?_
   refine sq ?_
   refine At.block ?_
   refine sq ?_
   refine sg eC ?_
   refine vs 2 ?_
   obtain ⟨yK, aa6, hM⟩ := ao hM
   obtain ⟨mV, CA, hM⟩ := ao hM
   obtain ⟨aKm, aNi, _, rfl, ame, an6⟩ := h0.elem cL aa6
   refine At.s rfl rfl (Ox.bq rfl rfl rfl an6 rfl (.put rfl) ?_)
   refine At.ld bg ((ame.sub pp).one (j := 0) rfl) ?_
   refine vs 2 ?_
   refine At.cv sj (s3 yK 0 (i64 (x1 - 1))  CA) ?_
   rintro _ _ _ ⟨rfl, rfl, rfl⟩
   refine vs 1 ?_
   refine er ?_
   refine sc hM (λ aeA hM => ?_) (λ aeA hM => ?_)
   ·refine sg aL ?_
    refine vs 1 ?_
    refine er ?_
    replace hM := abT _ (af hM).symm
    obtain rfl := af hM
    exact rt Tryz.func66 (.tmp rfl .nil) sr (hk _ _ _ ⟨rfl, rfl, rfl⟩)
   refine sp ?_
   refine sq ?_
   refine At.dw El mixed ?_
   refine Any.vs 3 [0, 1, 2] rfl ?_
   refine bA hM (λ Gw hM => ?_) (λ Gw hM => ?_)
   ·refine Any.known (t := 22) rfl Gw ?_
    refine Any.vs 2 [3, 4] rfl ?_
    obtain ⟨rO, KV, hM⟩ := ao hM
    obtain ⟨ij, CB, hM⟩ := ao hM
    obtain ⟨aKt, aNp, _, rfl, amh, aod⟩ := h0.elem cL KV
    refine Any.tk 5 rfl pp (λ R' H' hR hS => Ox.bq rfl rfl rfl aod rfl (.one rfl) ⟨rfl, rfl, rfl⟩) ?_
    refine Any.tk 6 rfl pp (λ R' H' hR hS => Ox.bV rfl rfl bg (((amh.le hR).sub (λ p h => hS p (pp p h))).one (j := 0) rfl) rfl (.one rfl) ⟨rfl, rfl, rfl⟩) ?_
    refine Any.vs 3 [7, 8, 9] rfl ?_
    obtain ⟨aKu, aNq, _, rfl, ami, aoe⟩ := h0.elem cL CB
    refine Any.tk 10 rfl pp (λ R' H' hR hS => Ox.bq rfl rfl rfl aoe rfl (.one rfl) ⟨rfl, rfl, rfl⟩) ?_
    refine Any.tk 11 rfl pp (λ R' H' hR hS => Ox.bV rfl rfl bg (((ami.le hR).sub (λ p h => hS p (pp p h))).one (j := 0) rfl) rfl (.one rfl) ⟨rfl, rfl, rfl⟩) ?_
    refine Any.vs 2 [12, 13] rfl ?_
    refine Any.done ?_
    refine sc hM (λ xh hM => ?_) (λ xh hM => ?_)
    ·refine sg aL ?_
     refine vs 1 ?_
     refine er ?_
     replace hM := abT _ (af hM).symm
     obtain rfl := af hM
     exact rt Tryz.func66 (.tmp rfl .nil) sr (hk _ _ _ ⟨rfl, rfl, rfl⟩)
    refine sp ?_
    refine At.inBlock ?_
    refine At.rg aS ?_
    refine vs 3 ?_
    refine er ?_
    exact XI _ (af hM).symm _ _ _ ⟨rfl, rfl, aA.sub ⟨rfl, rfl, rfl, trivial⟩⟩
   refine Any.known (t := 22) rfl Gw ?_
   refine Any.vs 11 [3, 4, 5, 6, 7, 8, 9, 10, 11, 12, 13] rfl ?_
   refine Any.done ?_
   refine At.cond_false rfl ?_
   refine sp ?_
   refine At.inBlock ?_
   refine At.rg aS ?_
   refine vs 3 ?_
   refine er ?_
   exact XI _ (af hM).symm _ _ _ ⟨rfl, rfl, aA.sub ⟨rfl, rfl, rfl, trivial⟩⟩
  exact At.exit rfl (ajE _ (af hM).symm _ _ _ ⟨rfl, rfl, aA.sub trivial⟩)
 rintro ayK aGY aE7 aOM ⟨rfl, rfl, aqQ⟩ hM
 refine At.sub aqQ ?_
 refine sg aL ?_
 refine vs 1 ?_
 refine er ?_
 obtain rfl := af hM
 exact rt Tryz.func66 (.tmp rfl .nil) sr (hk _ _ _ ⟨rfl, rfl, rfl⟩)
theorem abE (x0 : Int)  {r : Bool} (hM : AM x0 = some r) : aJ ag 172 #[.int .u8 x0] R H (λ v R' H' => R = R' ∧ H = H' ∧ v = .bool r) := by
 unfold AM at hM
 refine aJ.aX Tryz.func172 rfl (n := 6) rfl rfl λ fr cs hk => ?_
 refine sg aL ?_
 refine vs 1 ?_
 refine nx bn ?_
 refine vs 1 ?_
 refine At.s rfl rfl (Ox.wm rfl rfl Tryz.underlying5 Tryz.underlying3 rfl (.put rfl) ?_)
 obtain ⟨cA, ff, hM⟩ := ao hM
 refine At.cv sj (s3 (i64 x0) 97 122  ff) ?_
 rintro _ _ _ ⟨rfl, rfl, rfl⟩
 refine vs 1 ?_
 refine er ?_
 obtain rfl := af hM
 exact rt Tryz.func172 (.tmp rfl .nil) sr (hk _ _ _ ⟨rfl, rfl, rfl⟩)
theorem axl (x0 : Int)  {r : Bool} (hM : C0 x0 = some r) : aJ ag 173 #[.int .u8 x0] R H (λ v R' H' => R = R' ∧ H = H' ∧ v = .bool r) := by
 unfold C0 at hM
 refine aJ.aX Tryz.func173 rfl (n := 6) rfl rfl λ fr cs hk => ?_
 refine sg aL ?_
 refine vs 1 ?_
 refine nx bn ?_
 refine vs 1 ?_
 refine At.s rfl rfl (Ox.wm rfl rfl Tryz.underlying5 Tryz.underlying3 rfl (.put rfl) ?_)
 obtain ⟨cA, ff, hM⟩ := ao hM
 refine At.cv sj (s3 (i64 x0) 48 57  ff) ?_
 rintro _ _ _ ⟨rfl, rfl, rfl⟩
 refine vs 1 ?_
 refine er ?_
 obtain rfl := af hM
 exact rt Tryz.func173 (.tmp rfl .nil) sr (hk _ _ _ ⟨rfl, rfl, rfl⟩)
theorem aw8 (x0 : ByteArray)  {r : Bool} (hM : Hg x0 = some r) : aJ ag 161 #[.string x0] R H (λ v R' H' => R = R' ∧ H = H' ∧ v = .bool r) := by
 unfold Hg at hM
 refine aJ.aX Tryz.func161 rfl (n := 32) rfl rfl λ fr cs hk => ?_
 refine sg aL ?_
 refine vs 1 ?_
 refine es ?_
 refine sq ?_
 refine At.gR hM (λ (oJ : Bool) R' H' st' => R = R' ∧ H = H' ∧ aK st' [(0, .string x0), (13, .bool oJ)])  ?_ ?_
 rotate_right
 ·intro eY hM Ca
  refine At.rg mM ?_
  refine vs 1 ?_
  refine At.s rfl rfl (Ox.G2 rfl rfl Tryz.underlying9 rfl (.put rfl) ?_)
  obtain ⟨kP, GN, hM⟩ := ao hM
  refine At.cv sj (s3 (x0.size : Int) 1 12  GN) ?_
  rintro _ _ _ ⟨rfl, rfl, rfl⟩
  refine vs 2 ?_
  refine bA hM (λ qD hM => ?_) (λ qD hM => ?_)
  ·refine At.kn 8 qD ?_
   refine vs 5 ?_
   refine er ?_
   exact Ca _ (af hM).symm _ _ _ ⟨rfl, rfl, aA.sub ⟨rfl, rfl, trivial⟩⟩
  refine At.kn 8 qD ?_
  refine vs 1 ?_
  obtain ⟨jv, qK, hM⟩ := ao hM
  refine At.s rfl rfl (Ox.KZ rfl rfl rfl Tryz.underlying9 qK rfl (.put rfl) ?_)
  obtain ⟨iK, uX, hM⟩ := ao hM
  refine At.cv YT (abE jv  uX) ?_
  rintro _ _ _ ⟨rfl, rfl, rfl⟩
  refine vs 2 ?_
  refine er ?_
  exact Ca _ (af hM).symm _ _ _ ⟨rfl, rfl, aA.sub ⟨rfl, rfl, trivial⟩⟩
 rintro oJ W9 WI acC ⟨rfl, rfl, F5⟩ hM
 refine At.sub F5 ?_
 refine sc hM (λ asx hM => ?_) (λ asx hM => ?_)
 ·refine sg aL ?_
  refine vs 1 ?_
  refine er ?_
  obtain rfl := af hM
  exact rt Tryz.func161 (.tmp rfl .nil) sr (hk _ _ _ ⟨rfl, rfl, rfl⟩)
 refine sp ?_
 refine sq ?_
 refine sg aL ?_
 refine vs 1 ?_
 refine er ?_
 refine At.block ?_
 refine At.fh hM (λ (nG : Int) R' H' st' => R = R' ∧ H = H' ∧ aK st' [(0, .string x0), (3, iv nG)]) (λ (ayN : Unit) R' H' st' => R = R' ∧ H = H' ∧ aK st' []) 0 rfl ⟨rfl, rfl, aA.sub ⟨rfl, rfl, trivial⟩⟩ ?_ ?_
 rotate_right
 ·rintro nG R72 H72 aOZ ⟨rfl, rfl, aq3⟩ gC hM XM ajK ayp
  refine At.sub aq3 ?_
  refine sq ?_
  refine sg bn ?_
  refine vs 2 ?_
  refine At.s rfl rfl (Ox.G2 rfl rfl Tryz.underlying9 rfl (.put rfl) ?_)
  refine vs 1 ?_
  refine er ?_
  refine sc hM (λ xh hM => ?_) (λ xh hM => ?_)
  ·refine sp ?_
   refine sq ?_
   refine At.block ?_
   refine sg oV ?_
   refine vs 2 ?_
   obtain ⟨lR, GU, hM⟩ := ao hM
   refine At.s rfl rfl (Ox.KZ rfl rfl rfl Tryz.underlying9 GU rfl (.put rfl) ?_)
   obtain ⟨oS, GV, hM⟩ := ao hM
   refine At.cv YT (abE lR  GV) ?_
   rintro _ _ _ ⟨rfl, rfl, rfl⟩
   refine vs 2 ?_
   refine bA hM (λ Np hM => ?_) (λ Np hM => ?_)
   ·refine At.kn 25 Np ?_
    refine vs 2 ?_
    obtain ⟨iL, CC, hM⟩ := ao hM
    refine At.s rfl rfl (Ox.KZ rfl rfl rfl Tryz.underlying9 CC rfl (.put rfl) ?_)
    obtain ⟨yL, aeP, hM⟩ := ao hM
    refine At.cv aiK (axl iL  aeP) ?_
    rintro _ _ _ ⟨rfl, rfl, rfl⟩
    refine vs 2 ?_
    refine er ?_
    refine sc hM (λ SZ hM => ?_) (λ SZ hM => ?_)
    ·refine sg aL ?_
     refine vs 1 ?_
     refine er ?_
     replace hM := ayp _ (af hM).symm
     obtain rfl := af hM
     exact rt Tryz.func161 (.tmp rfl .nil) sr (hk _ _ _ ⟨rfl, rfl, rfl⟩)
    refine sp ?_
    refine At.inBlock ?_
    refine At.rg aS ?_
    refine vs 3 ?_
    refine er ?_
    exact XM _ (af hM).symm _ _ _ ⟨rfl, rfl, aA.sub ⟨rfl, rfl, trivial⟩⟩
   refine At.kn 25 Np ?_
   refine vs 6 ?_
   refine er ?_
   refine At.cond_false rfl ?_
   refine sp ?_
   refine At.inBlock ?_
   refine At.rg aS ?_
   refine vs 3 ?_
   refine er ?_
   exact XM _ (af hM).symm _ _ _ ⟨rfl, rfl, aA.sub ⟨rfl, rfl, trivial⟩⟩
  exact At.exit rfl (ajK _ (af hM).symm _ _ _ ⟨rfl, rfl, aA.sub trivial⟩)
 rintro ayN aG4 aFe aO0 ⟨rfl, rfl, aq4⟩ hM
 refine At.sub aq4 ?_
 refine sg aL ?_
 refine vs 1 ?_
 refine er ?_
 obtain rfl := af hM
 exact rt Tryz.func161 (.tmp rfl .nil) sr (hk _ _ _ ⟨rfl, rfl, rfl⟩)
theorem awV (x0 : aq) {aC aD aH : Value} (ay : aj bm 5 R aC x0.az) (_ : aj CZ 1 R aD x0.Out) (_ : aj bh 2 R aH x0.aO) {r : Int} (hM : G9 x0 = some r) : aJ ag 135 #[.agg #[iv x0.aE, iv x0.aa.an, iv x0.aa.ax, aC, aD, aH]] R H (λ v R' H' => R = R' ∧ H = H' ∧ v = iv r) := by
 unfold G9 at hM
 refine aJ.aX Tryz.func135 rfl (n := 69) rfl rfl λ fr cs hk => ?_
 refine sg aQ ?_
 refine bx λ kX => ?_
 refine vs 1 ?_
 refine es ?_
 refine sg bT ?_
 refine vs 1 ?_
 refine ld 3 cK z0 ?_
 refine ls ay Tryz.underlying24 ?_
 obtain ⟨IS, aav, hM⟩ := ao hM
 refine At.cv sj (s3 (x0.az.length : Int) 1 5  aav) ?_
 rintro _ _ _ ⟨rfl, rfl, rfl⟩
 refine vs 1 ?_
 refine er ?_
 refine sc hM (λ F8 hM => ?_) (λ F8 hM => ?_)
 ·refine sg aL ?_
  refine vs 1 ?_
  refine er ?_
  obtain rfl := af hM
  exact rt Tryz.func135 (.tmp rfl .nil) (so sr) (hk _ _ _ ⟨rfl, rfl, rfl⟩)
 refine sp ?_
 refine sq ?_
 refine sg aL ?_
 refine vs 1 ?_
 refine er ?_
 refine At.block ?_
 refine At.fh hM (λ (pQ : Int) R' H' st' => R = R' ∧ H' = (kX, .cells #[iv x0.aE, iv x0.aa.an, iv x0.aa.ax, aC, aD, aH] 28) :: H ∧ aK st' [(1, .pointer (some ⟨kX, 0, none⟩)), (3, iv pQ)]) (λ (ayG : Unit) R' H' st' => R = R' ∧ H = H' ∧ aK st' []) 0 rfl ⟨rfl, rfl, aA.sub ⟨rfl, rfl, trivial⟩⟩ ?_ ?_
 rotate_right
 ·rintro pQ aGg aEk aNN ⟨rfl, rfl, apR⟩ aRa hM agW ajg Lx
  refine At.sub apR ?_
  refine sq ?_
  refine sg bT ?_
  refine vs 2 ?_
  refine ld 3 cK z0 ?_
  refine ls ay Tryz.underlying24 ?_
  refine vs 1 ?_
  refine er ?_
  refine sc hM (λ ar3 hM => ?_) (λ ar3 hM => ?_)
  ·refine sp ?_
   refine sq ?_
   refine At.block ?_
   refine sg dY ?_
   refine vs 1 ?_
   refine ld 3 cK z0 ?_
   refine vs 1 ?_
   obtain ⟨gO, atN, hM⟩ := ao hM
   obtain ⟨aJG, aMM, _, ⟨U6, aax, rfl⟩, alJ, anv⟩ := ay.elem gN atN
   refine At.s rfl rfl (Ox.bq rfl rfl rfl anv rfl (.put rfl) ?_)
   refine At.s rfl rfl (Ox.bP (vs := [_, _, _, _, _]) rfl rfl ko rfl (alJ.any.part (j := 0) (n := 5) rfl) rfl (.put rfl) ?_)
   refine At.s rfl rfl (Ox.alloc (cs := #[.string (⟨#[]⟩), iv 0, iv 0, iv 0, .slice none 0 0]) rfl vO rfl λ BZ _ _ => ⟨_, (.put rfl), ?_⟩)
   refine At.s rfl rfl (Ox.bp (cs' := #[_, _, _, _, _]) rfl rfl rfl ko rfl (ak rfl (ak rfl (ak rfl (ak rfl (ak aax.one aW))))) .here rfl rfl rfl (.refl _) ?_)
   refine es ?_
   refine sg bn ?_
   refine vs 1 ?_
   refine ld 0 s6 z0 ?_
   obtain ⟨adD, atO, hM⟩ := ao hM
   refine At.cv aiz (aw8 gO.Name  atO) ?_
   rintro _ _ _ ⟨rfl, rfl, rfl⟩
   refine vs 1 ?_
   refine er ?_
   refine sc hM (λ ar5 hM => ?_) (λ ar5 hM => ?_)
   ·refine sg aL ?_
    refine vs 1 ?_
    refine er ?_
    replace hM := Lx _ (af hM).symm
    obtain rfl := af hM
    exact rt Tryz.func135 (.tmp rfl .nil) (so (so sr)) (hk _ _ _ ⟨rfl, rfl, rfl⟩)
   refine sp ?_
   refine sq ?_
   refine sg aL ?_
   refine vs 1 ?_
   refine er ?_
   refine At.block ?_
   refine At.fh hM (λ (Dk : Int) R' H' st' => R = R' ∧ H' = (BZ, .cells #[.string gO.Name, iv gO.dz, iv gO.Weight.an, iv gO.Weight.ax, U6] 58) :: (kX, .cells #[iv x0.aE, iv x0.aa.an, iv x0.aa.ax, aC, aD, aH] 28) :: H ∧ aK st' [(1, .pointer (some ⟨kX, 0, none⟩)), (3, iv pQ), (4, .pointer (some ⟨BZ, 0, none⟩)), (5, iv Dk)]) (λ (ayH : Unit) R' H' st' => R = R' ∧ H' = (BZ, .cells #[.string gO.Name, iv gO.dz, iv gO.Weight.an, iv gO.Weight.ax, U6] 58) :: (kX, .cells #[iv x0.aE, iv x0.aa.an, iv x0.aa.ax, aC, aD, aH] 28) :: H ∧ aK st' [(1, .pointer (some ⟨kX, 0, none⟩)), (3, iv pQ), (4, .pointer (some ⟨BZ, 0, none⟩))]) 2 rfl ⟨rfl, rfl, aA.sub ⟨rfl, rfl, rfl, rfl, trivial⟩⟩ ?_ ?_
   rotate_right
   ·rintro Dk aGw aEB aN6 ⟨rfl, rfl, aqa⟩ aRf hM ag3 ajn ayk
    refine At.sub aqa ?_
    refine sq ?_
    refine sg aS ?_
    refine vs 3 ?_
    refine er ?_
    refine sc hM (λ ar7 hM => ?_) (λ ar7 hM => ?_)
    ·refine sp ?_
     refine sq ?_
     refine At.block ?_
     refine sq ?_
     refine At.dw gd mixed ?_
     refine Any.vs 1 [0] rfl ?_
     refine tl 1 3 cK z1 ?_
     refine Any.vs 1 [2] rfl ?_
     obtain ⟨Bi, Tj, hM⟩ := ao hM
     obtain ⟨aJI, aMO, _, ⟨aP1, aLG, rfl⟩, alL, anx⟩ := ay.elem gN Tj
     refine Any.tk 3 rfl pp (λ R' H' hR hS => Ox.bq rfl rfl rfl anx rfl (.one rfl) ⟨rfl, rfl, rfl⟩) ?_
     refine Any.vs 1 [4] rfl ?_
     refine Any.tk 5 rfl pp (λ R' H' hR hS => Ox.bV rfl rfl s6 ((alL.up hR).one (j := 0) rfl) rfl (.one rfl) ⟨rfl, rfl, rfl⟩) ?_
     refine Any.vs 1 [6] rfl ?_
     refine tl 7 0 s6 z0 ?_
     refine Any.tk 8 rfl pp (λ R' H' hR hS => Ox.Pg rfl rfl rfl rfl rfl (.one rfl) ⟨rfl, rfl, rfl⟩) ?_
     refine Any.done ?_
     refine sc hM (λ Ab hM => ?_) (λ Ab hM => ?_)
     ·refine sg aL ?_
      refine vs 1 ?_
      refine er ?_
      replace hM := ayk _ (af hM).symm
      replace hM := Lx _ (af hM).symm
      obtain rfl := af hM
      exact rt Tryz.func135 (.tmp rfl .nil) (so (so sr)) (hk _ _ _ ⟨rfl, rfl, rfl⟩)
     refine sp ?_
     refine At.inBlock ?_
     refine At.rg aS ?_
     refine vs 3 ?_
     refine er ?_
     exact ag3 _ (af hM).symm _ _ _ ⟨rfl, rfl, aA.sub ⟨rfl, rfl, rfl, rfl, trivial⟩⟩
    exact At.exit rfl (ajn _ (af hM).symm _ _ _ ⟨rfl, rfl, aA.sub ⟨rfl, rfl, rfl, trivial⟩⟩)
   rintro ayH aGx aEC aN7 ⟨rfl, rfl, aqb⟩ hM
   refine At.sub aqb ?_
   refine sq ?_
   refine sq ?_
   refine At.gR hM (λ (LI : Bool) R' H' st' => R = R' ∧ H' = (BZ, .cells #[.string gO.Name, iv gO.dz, iv gO.Weight.an, iv gO.Weight.ax, U6] 58) :: (kX, .cells #[iv x0.aE, iv x0.aa.an, iv x0.aa.ax, aC, aD, aH] 28) :: H ∧ aK st' [(1, .pointer (some ⟨kX, 0, none⟩)), (3, iv pQ), (4, .pointer (some ⟨BZ, 0, none⟩)), (61, .bool LI)])  ?_ ?_
   rotate_right
   ·intro M3 hM PR
    refine At.rg acj ?_
    refine vs 1 ?_
    refine ld 1 bg z0 ?_
    obtain ⟨adH, at0, hM⟩ := ao hM
    refine At.cv sj (s3 gO.dz (-9) 9  at0) ?_
    rintro _ _ _ ⟨rfl, rfl, rfl⟩
    refine vs 2 ?_
    refine bA hM (λ Sn hM => ?_) (λ Sn hM => ?_)
    ·refine At.kn 46 Sn ?_
     refine vs 15 ?_
     refine er ?_
     exact PR _ (af hM).symm _ _ _ ⟨rfl, rfl, aA.sub ⟨rfl, rfl, rfl, rfl, trivial⟩⟩
    refine At.kn 46 Sn ?_
    refine vs 1 ?_
    refine lN [_, _] 2 2 eJ z0 ?_
    obtain ⟨tF, Tk, hM⟩ := ao hM
    refine At.cv Pz (Ud gO.Weight 1 99  Tk) ?_
    rintro _ _ _ ⟨rfl, rfl, rfl⟩
    refine vs 3 ?_
    refine bA hM (λ So hM => ?_) (λ So hM => ?_)
    ·refine At.kn 52 So ?_
     refine vs 9 ?_
     refine er ?_
     exact PR _ (af hM).symm _ _ _ ⟨rfl, rfl, aA.sub ⟨rfl, rfl, rfl, rfl, trivial⟩⟩
    refine At.kn 52 So ?_
    refine vs 2 ?_
    refine ld 3 bg z0 ?_
    refine vs 2 ?_
    refine ld 2 bg z0 ?_
    refine vs 3 ?_
    refine er ?_
    exact PR _ (af hM).symm _ _ _ ⟨rfl, rfl, aA.sub ⟨rfl, rfl, rfl, rfl, trivial⟩⟩
   rintro LI aGC aEH aOc ⟨rfl, rfl, aqg⟩ hM
   refine At.sub aqg ?_
   refine sc hM (λ asa hM => ?_) (λ asa hM => ?_)
   ·refine sg aL ?_
    refine vs 1 ?_
    refine er ?_
    replace hM := Lx _ (af hM).symm
    obtain rfl := af hM
    exact rt Tryz.func135 (.tmp rfl .nil) (so (so sr)) (hk _ _ _ ⟨rfl, rfl, rfl⟩)
   refine sp ?_
   refine sg bT ?_
   refine vs 1 ?_
   refine ld 4 bL z0 ?_
   refine vs 1 ?_
   obtain ⟨rE, Tl, hM⟩ := ao hM
   refine At.cv ael (aeW gO.On pQ aax.rd Tl) ?_
   rintro _ _ _ ⟨rfl, rfl, rfl⟩
   refine vs 1 ?_
   refine nx aQ ?_
   refine vs 2 ?_
   refine er ?_
   refine sc hM (λ asb hM => ?_) (λ asb hM => ?_)
   ·refine sg aQ ?_
    refine vs 2 ?_
    refine er ?_
    replace hM := Lx _ (af hM).symm
    obtain rfl := af hM
    exact rt Tryz.func135 (.tmp rfl .nil) (so (so sr)) (hk _ _ _ ⟨rfl, rfl, rfl⟩)
   refine sp ?_
   refine At.inBlock ?_
   refine At.rg aS ?_
   refine vs 3 ?_
   refine er ?_
   exact At.drop (so sr) (agW _ (af hM).symm _ _ _ ⟨rfl, rfl, aA.sub ⟨rfl, rfl, trivial⟩⟩)
  exact At.exit rfl (At.drop (so sr) (ajg _ (af hM).symm _ _ _ ⟨rfl, rfl, aA.sub trivial⟩))
 rintro ayG aGh aEl aNO ⟨rfl, rfl, apS⟩ hM
 refine At.sub apS ?_
 refine sg aL ?_
 refine vs 1 ?_
 refine er ?_
 obtain rfl := af hM
 exact rt Tryz.func135 (.tmp rfl .nil) sr (hk _ _ _ ⟨rfl, rfl, rfl⟩)
theorem AY (x0 : aq) {aC aD aH : Value} (ay : aj bm 5 R aC x0.az) (aB : aj CZ 1 R aD x0.Out) (aF : aj bh 2 R aH x0.aO) {r : Int} (hM : qQ x0 = some r) : aJ ag 61 #[.agg #[iv x0.aE, iv x0.aa.an, iv x0.aa.ax, aC, aD, aH]] R H (λ v R' H' => R = R' ∧ H = H' ∧ v = iv r) := by
 unfold qQ at hM
 refine aJ.aX Tryz.func61 rfl (n := 68) rfl rfl λ fr cs hk => ?_
 refine sg aQ ?_
 refine bx λ Ei => ?_
 refine vs 1 ?_
 refine es ?_
 refine sq ?_
 refine At.gR hM (λ (LW : Bool) R' H' st' => R = R' ∧ H' = (Ei, .cells #[iv x0.aE, iv x0.aa.an, iv x0.aa.ax, aC, aD, aH] 28) :: H ∧ aK st' [(1, .pointer (some ⟨Ei, 0, none⟩)), (25, .bool LW)])  ?_ ?_
 rotate_right
 ·intro tJ hM PV
  refine At.rg acj ?_
  refine vs 1 ?_
  refine ld 0 bg z0 ?_
  obtain ⟨Ir, TC, hM⟩ := ao hM
  refine At.cv sj (s3 x0.aE 0 9999  TC) ?_
  rintro _ _ _ ⟨rfl, rfl, rfl⟩
  refine vs 2 ?_
  refine bA hM (λ Ed hM => ?_) (λ Ed hM => ?_)
  ·refine At.kn 10 Ed ?_
   refine vs 15 ?_
   refine er ?_
   exact PV _ (af hM).symm _ _ _ ⟨rfl, rfl, aA.sub ⟨rfl, rfl, trivial⟩⟩
  refine At.kn 10 Ed ?_
  refine vs 1 ?_
  refine lN [_, _] 1 2 eJ z0 ?_
  obtain ⟨mV, CA, hM⟩ := ao hM
  refine At.cv Pz (Ud x0.aa (-999) 999  CA) ?_
  rintro _ _ _ ⟨rfl, rfl, rfl⟩
  refine vs 3 ?_
  refine bA hM (λ SY hM => ?_) (λ SY hM => ?_)
  ·refine At.kn 16 SY ?_
   refine vs 9 ?_
   refine er ?_
   exact PV _ (af hM).symm _ _ _ ⟨rfl, rfl, aA.sub ⟨rfl, rfl, trivial⟩⟩
  refine At.kn 16 SY ?_
  refine vs 2 ?_
  refine ld 2 bg z0 ?_
  refine vs 2 ?_
  refine ld 1 bg z0 ?_
  refine vs 3 ?_
  refine er ?_
  exact PV _ (af hM).symm _ _ _ ⟨rfl, rfl, aA.sub ⟨rfl, rfl, trivial⟩⟩
 rintro LW aG9 aFk aO8 ⟨rfl, rfl, arc⟩ hM
 refine At.sub arc ?_
 refine sc hM (λ Gw hM => ?_) (λ Gw hM => ?_)
 ·refine sg aL ?_
  refine vs 1 ?_
  refine er ?_
  obtain rfl := af hM
  exact rt Tryz.func61 (.tmp rfl .nil) (so sr) (hk _ _ _ ⟨rfl, rfl, rfl⟩)
 refine sp ?_
 refine sq ?_
 refine sg aS ?_
 refine lN [_, _, _, _, _, _] 0 6 aU z0 ?_
 obtain ⟨rO, KV, hM⟩ := ao hM
 refine At.cv ain (awV x0 ay aB aF KV) ?_
 rintro _ _ _ ⟨rfl, rfl, rfl⟩
 refine vs 1 ?_
 refine nx aQ ?_
 refine vs 2 ?_
 refine er ?_
 refine sc hM (λ asH hM => ?_) (λ asH hM => ?_)
 ·refine sg aQ ?_
  refine vs 2 ?_
  refine er ?_
  obtain rfl := af hM
  exact rt Tryz.func61 (.tmp rfl .nil) (so sr) (hk _ _ _ ⟨rfl, rfl, rfl⟩)
 refine sp ?_
 refine sq ?_
 refine sg bT ?_
 refine lN [_, _, _, _, _, _] 0 6 aU z0 ?_
 refine vs 1 ?_
 refine ld 4 bL z0 ?_
 obtain ⟨oS, GV, hM⟩ := ao hM
 refine At.cv PA (Ue x0 [] x0.Out ay aB aF aj.nil.rd aB.rd GV) ?_
 rintro _ _ _ ⟨rfl, rfl, rfl⟩
 refine vs 1 ?_
 refine nx aQ ?_
 refine vs 2 ?_
 refine er ?_
 refine sc hM (λ Gx hM => ?_) (λ Gx hM => ?_)
 ·refine sg aQ ?_
  refine vs 2 ?_
  refine er ?_
  obtain rfl := af hM
  exact rt Tryz.func61 (.tmp rfl .nil) (so sr) (hk _ _ _ ⟨rfl, rfl, rfl⟩)
 refine sp ?_
 refine sq ?_
 refine sg bn ?_
 refine vs 1 ?_
 refine ld 5 eu z0 ?_
 refine ls aF Tryz.underlying26 ?_
 refine vs 1 ?_
 refine er ?_
 refine sc hM (λ z9 hM => ?_) (λ z9 hM => ?_)
 ·refine sg aL ?_
  refine vs 1 ?_
  refine er ?_
  obtain rfl := af hM
  exact rt Tryz.func61 (.tmp rfl .nil) (so sr) (hk _ _ _ ⟨rfl, rfl, rfl⟩)
 refine sp ?_
 refine sq ?_
 refine sg aL ?_
 refine vs 1 ?_
 refine er ?_
 refine At.block ?_
 refine At.fh hM (λ (A6 : Int) R' H' st' => R = R' ∧ H' = (Ei, .cells #[iv x0.aE, iv x0.aa.an, iv x0.aa.ax, aC, aD, aH] 28) :: H ∧ aK st' [(1, .pointer (some ⟨Ei, 0, none⟩)), (5, iv A6)]) (λ (ayE : Unit) R' H' st' => R = R' ∧ H = H' ∧ aK st' []) 0 rfl ⟨rfl, rfl, aA.sub ⟨rfl, rfl, trivial⟩⟩ ?_ ?_
 rotate_right
 ·rintro A6 aF4 aD7 aNA ⟨rfl, rfl, apE⟩ kM hM agS ajb abP
  refine At.sub apE ?_
  refine sq ?_
  refine sg bT ?_
  refine vs 2 ?_
  refine ld 5 eu z0 ?_
  refine ls aF Tryz.underlying26 ?_
  refine vs 1 ?_
  refine er ?_
  refine sc hM (λ aey hM => ?_) (λ aey hM => ?_)
  ·refine sp ?_
   refine sq ?_
   refine At.block ?_
   refine sq ?_
   refine sq ?_
   refine At.dw yO mixed ?_
   refine Any.vs 1 [0] rfl ?_
   refine tl 1 5 eu z0 ?_
   refine Any.vs 1 [2] rfl ?_
   obtain ⟨rS, aau, hM⟩ := ao hM
   obtain ⟨Eh, aeG, hM⟩ := ao hM
   obtain ⟨aJm, aMs, _, rfl, aln, ana⟩ := aF.elem vr aau
   refine Any.tk 3 rfl pp (λ R' H' hR hS => Ox.bq rfl rfl rfl ana rfl (.one rfl) ⟨rfl, rfl, rfl⟩) ?_
   refine Any.vs 1 [4] rfl ?_
   refine Any.tk 5 rfl pp (λ R' H' hR hS => Ox.bV rfl rfl bg ((aln.up hR).one (j := 0) rfl) rfl (.one rfl) ⟨rfl, rfl, rfl⟩) ?_
   refine Any.vs 1 [6] rfl ?_
   refine tl 7 4 bL z0 ?_
   refine Any.tk 8 rfl pp (λ R' H' hR hS => Ox.tP (K := CZ) (k := 1) (xs := x0.Out) rfl rfl (aB.mono hR) Tryz.underlying25 rfl (.one rfl) ⟨rfl, rfl, rfl⟩) ?_
   refine Any.cv 9 sj (s3 rS.dr 0 (x0.Out.length : Int)  aeG) ?_
   rintro _ _ _ ⟨rfl, rfl, rfl⟩
   refine kp ?_
   refine Any.vs 1 [10] rfl ?_
   refine Any.done ?_
   refine sc hM (λ RY hM => ?_) (λ RY hM => ?_)
   ·refine sg aL ?_
    refine vs 1 ?_
    refine er ?_
    replace hM := abP _ (af hM).symm
    obtain rfl := af hM
    exact rt Tryz.func61 (.tmp rfl .nil) (so sr) (hk _ _ _ ⟨rfl, rfl, rfl⟩)
   refine sp ?_
   refine sg eC ?_
   refine vs 1 ?_
   refine ld 5 eu z0 ?_
   refine vs 1 ?_
   obtain ⟨rN, S4, hM⟩ := ao hM
   obtain ⟨dh, IB, hM⟩ := ao hM
   obtain ⟨aJn, aMt, _, rfl, alo, anb⟩ := aF.elem vr S4
   refine At.s rfl rfl (Ox.bq rfl rfl rfl anb rfl (.put rfl) ?_)
   refine vs 1 ?_
   refine At.ld Ls (alo.any.one (j := 1) rfl) ?_
   refine At.cv sj (s3 rN.dQ 0 2  IB) ?_
   rintro _ _ _ ⟨rfl, rfl, rfl⟩
   refine vs 1 ?_
   refine er ?_
   refine sc hM (λ RZ hM => ?_) (λ RZ hM => ?_)
   ·refine sg aL ?_
    refine vs 1 ?_
    refine er ?_
    replace hM := abP _ (af hM).symm
    obtain rfl := af hM
    exact rt Tryz.func61 (.tmp rfl .nil) (so sr) (hk _ _ _ ⟨rfl, rfl, rfl⟩)
   refine sp ?_
   refine At.inBlock ?_
   refine At.rg aS ?_
   refine vs 3 ?_
   refine er ?_
   exact agS _ (af hM).symm _ _ _ ⟨rfl, rfl, aA.sub ⟨rfl, rfl, trivial⟩⟩
  exact At.exit rfl (At.drop (so sr) (ajb _ (af hM).symm _ _ _ ⟨rfl, rfl, aA.sub trivial⟩))
 rintro ayE aF5 aD8 aNB ⟨rfl, rfl, apF⟩ hM
 refine At.sub apF ?_
 refine sg aL ?_
 refine vs 1 ?_
 refine er ?_
 obtain rfl := af hM
 exact rt Tryz.func61 (.tmp rfl .nil) sr (hk _ _ _ ⟨rfl, rfl, rfl⟩)
theorem Uh (x0 : aq) (x1 : cB) (x2 : (List Int)) {aC aD aH iV v2 : Value} (ay : aj bm 5 R aC x0.az) (_ : aj CZ 1 R aD x0.Out) (_ : aj bh 2 R aH x0.aO) (k5 : aj CZ 1 R iV x1.fD) (h2 : bC CZ 1 R H v2 x2) {r : Int} (hM : CQ x0 x1 x2 = some r) : aJ ag 140 #[.agg #[iv x0.aE, iv x0.aa.an, iv x0.aa.ax, aC, aD, aH], .agg #[iv x1.aa, iV], v2] R H (λ v R' H' => R = R' ∧ H = H' ∧ v = iv r) := by
 unfold CQ at hM
 refine aJ.aX Tryz.func140 rfl (n := 37) rfl rfl λ fr cs hk => ?_
 refine sg aS ?_
 refine bx λ r6 => ?_
 refine bx λ o8 => ?_
 refine vs 1 ?_
 refine nx aS ?_
 refine vs 1 ?_
 refine ld 0 bg z0 ?_
 refine vs 1 ?_
 refine es ?_
 refine sg aL ?_
 refine vs 1 ?_
 refine er ?_
 refine At.block ?_
 refine At.c8 hM (λ (cu : (Int × Int)) R' H' st' => R = R' ∧ H' = (o8, .cells #[iv x1.aa, iV] 66) :: (r6, .cells #[iv x0.aE, iv x0.aa.an, iv x0.aa.ax, aC, aD, aH] 28) :: H ∧ aK st' [(2, v2), (3, .pointer (some ⟨r6, 0, none⟩)), (4, .pointer (some ⟨o8, 0, none⟩)), (7, iv cu.1), (8, iv cu.2)]) (λ (eU : Int) R' H' st' => R = R' ∧ H = H' ∧ aK st' [(7, iv eU)]) 0 rfl ⟨rfl, rfl, aA.sub ⟨rfl, rfl, rfl, rfl, rfl, trivial⟩⟩ ?_ ?_
 rotate_right
 ·rintro cu OH N8 UQ ⟨rfl, rfl, z8⟩ nP hM qe sv
  refine At.sub z8 ?_
  refine sq ?_
  refine sg bT ?_
  refine vs 2 ?_
  refine ld 3 cK z1 ?_
  refine ls ay Tryz.underlying24 ?_
  refine vs 1 ?_
  refine er ?_
  refine sc hM (λ Gp hM => ?_) (λ Gp hM => ?_)
  ·refine sp ?_
   refine sq ?_
   refine At.block ?_
   refine sg bn ?_
   refine vs 2 ?_
   obtain ⟨rG, GM, hM⟩ := ao hM
   refine At.cv E7 (Hr x2 cu.2 (h2.sub (su (so (so sr)))) GM) ?_
   rintro _ _ _ ⟨rfl, rfl, rfl⟩
   refine vs 1 ?_
   refine er ?_
   refine sc hM (λ Gr hM => ?_) (λ Gr hM => ?_)
   ·refine At.dw BH mixed ?_
    refine Any.vs 2 [0, 1] rfl ?_
    refine tl 2 3 cK z1 ?_
    refine Any.vs 1 [3] rfl ?_
    obtain ⟨iX, qJ, hM⟩ := ao hM
    obtain ⟨jv, qK, hM⟩ := ao hM
    obtain ⟨aKa, aM9, _, ⟨aQF, aLR, rfl⟩, al5, anW⟩ := ay.elem gN qJ
    refine Any.tk 4 rfl pp (λ R' H' hR hS => Ox.bq rfl rfl rfl anW rfl (.one rfl) ⟨rfl, rfl, rfl⟩) ?_
    refine Any.vs 1 [5] rfl ?_
    refine Any.tk 6 rfl pp (λ R' H' hR hS => Ox.bV rfl rfl bg ((al5.up hR).one (j := 1) rfl) rfl (.one rfl) ⟨rfl, rfl, rfl⟩) ?_
    refine Any.vs 1 [7] rfl ?_
    refine tl 8 1 bL z0 ?_
    refine Any.vs 1 [9] rfl ?_
    obtain ⟨ahW, ayA, _, rfl, QK, Q6⟩ := k5.elem cL qK
    refine Any.tk 10 rfl pp (λ R' H' hR hS => Ox.bq rfl rfl rfl Q6 rfl (.one rfl) ⟨rfl, rfl, rfl⟩) ?_
    refine Any.tk 11 rfl pp (λ R' H' hR hS => Ox.bV rfl rfl bg ((QK.up hR).one (j := 0) rfl) rfl (.one rfl) ⟨rfl, rfl, rfl⟩) ?_
    refine Any.vs 3 [12, 13, 14] rfl ?_
    refine Any.done ?_
    refine At.inBlock ?_
    refine At.rg aS ?_
    refine vs 3 ?_
    refine er ?_
    exact qe _ (af hM).symm _ _ _ ⟨rfl, rfl, aA.sub ⟨rfl, rfl, rfl, rfl, rfl, trivial⟩⟩
   refine sp ?_
   refine At.inBlock ?_
   refine At.rg aS ?_
   refine vs 3 ?_
   refine er ?_
   exact qe _ (af hM).symm _ _ _ ⟨rfl, rfl, aA.sub ⟨rfl, rfl, rfl, rfl, rfl, trivial⟩⟩
  exact At.exit rfl (At.drop (so (so sr)) (sv _ (af hM).symm _ _ _ ⟨rfl, rfl, aA.sub ⟨rfl, trivial⟩⟩))
 rintro eU Ji IV L9 ⟨rfl, rfl, uJ⟩ hM
 refine At.sub uJ ?_
 refine sg aQ ?_
 refine vs 2 ?_
 refine er ?_
 obtain rfl := af hM
 exact rt Tryz.func140 (.tmp rfl .nil) sr (hk _ _ _ ⟨rfl, rfl, rfl⟩)
theorem awX (x0 : aq) (x1 : Int) {aC aD aH : Value} (_ : aj bm 5 R aC x0.az) (_ : aj CZ 1 R aD x0.Out) (_ : aj bh 2 R aH x0.aO) {r : Bool} (hM : La x0 x1 = some r) : aJ ag 141 #[.agg #[iv x0.aE, iv x0.aa.an, iv x0.aa.ax, aC, aD, aH], iv x1] R H (λ v R' H' => R = R' ∧ H = H' ∧ v = .bool r) := by
 unfold La at hM
 refine aJ.aX Tryz.func141 rfl (n := 16) rfl rfl λ fr cs hk => ?_
 refine sg aQ ?_
 refine bx λ jU => ?_
 refine vs 1 ?_
 refine nx oV ?_
 refine vs 2 ?_
 refine ld 0 bg z0 ?_
 refine vs 2 ?_
 refine bA hM (λ mB hM => ?_) (λ mB hM => ?_)
 ·refine At.kn 9 mB ?_
  refine vs 7 ?_
  refine er ?_
  obtain rfl := af hM
  exact rt Tryz.func141 (.tmp rfl .nil) (so sr) (hk _ _ _ ⟨rfl, rfl, rfl⟩)
 refine At.kn 9 mB ?_
 refine vs 2 ?_
 refine ld 0 bg z0 ?_
 refine At.s rfl rfl (Ox.Lp rfl rfl rfl (.put rfl) ?_)
 refine vs 3 ?_
 refine er ?_
 obtain rfl := af hM
 exact rt Tryz.func141 (.tmp rfl .nil) (so sr) (hk _ _ _ ⟨rfl, rfl, rfl⟩)
theorem awZ (x0 : Int)  {r : Int} (hM : Lc x0 = some r) : aJ ag 145 #[iv x0] R H (λ v R' H' => R = R' ∧ H = H' ∧ v = iv r) := by
 unfold Lc at hM
 refine aJ.aX Tryz.func145 rfl (n := 7) rfl rfl λ fr cs hk => ?_
 refine sg aL ?_
 refine vs 1 ?_
 refine es ?_
 refine sg aQ ?_
 refine vs 2 ?_
 refine er ?_
 refine sc hM (λ Gd hM => ?_) (λ Gd hM => ?_)
 ·refine sg aL ?_
  refine vs 1 ?_
  refine er ?_
  obtain rfl := af hM
  exact rt Tryz.func145 (.tmp rfl .nil) sr (hk _ _ _ ⟨rfl, rfl, rfl⟩)
 refine sp ?_
 refine sq ?_
 refine sg aQ ?_
 refine vs 2 ?_
 refine er ?_
 refine sc hM (λ mB hM => ?_) (λ mB hM => ?_)
 ·refine sg aL ?_
  refine vs 1 ?_
  refine er ?_
  obtain rfl := af hM
  exact rt Tryz.func145 (.tmp rfl .nil) sr (hk _ _ _ ⟨rfl, rfl, rfl⟩)
 refine sp ?_
 refine sg aL ?_
 refine vs 1 ?_
 refine er ?_
 obtain rfl := af hM
 exact rt Tryz.func145 (.tmp rfl .nil) sr (hk _ _ _ ⟨rfl, rfl, rfl⟩)
theorem awY (x0 : aq) (x1 : cB) {aC aD aH iV : Value} (ay : aj bm 5 R aC x0.az) (aB : aj CZ 1 R aD x0.Out) (aF : aj bh 2 R aH x0.aO) (k5 : aj CZ 1 R iV x1.fD) {r : Bool} (hM : Lb x0 x1 = some r) : aJ ag 144 #[.agg #[iv x0.aE, iv x0.aa.an, iv x0.aa.ax, aC, aD, aH], .agg #[iv x1.aa, iV]] R H (λ v R' H' => R = R' ∧ H = H' ∧ v = .bool r) := by
 unfold Lb at hM
 refine aJ.aX Tryz.func144 rfl (n := 48) rfl rfl λ fr cs hk => ?_
 refine sg aS ?_
 refine bx λ wJ => ?_
 refine bx λ wK => ?_
 refine vs 1 ?_
 refine es ?_
 refine sg aL ?_
 refine vs 1 ?_
 refine er ?_
 refine At.block ?_
 refine At.fh hM (λ (Dl : Int) R' H' st' => R = R' ∧ H' = (wK, .cells #[iv x1.aa, iV] 66) :: (wJ, .cells #[iv x0.aE, iv x0.aa.an, iv x0.aa.ax, aC, aD, aH] 28) :: H ∧ aK st' [(2, .pointer (some ⟨wJ, 0, none⟩)), (3, .pointer (some ⟨wK, 0, none⟩)), (5, iv Dl)]) (λ (ayO : Unit) R' H' st' => R = R' ∧ H' = (wK, .cells #[iv x1.aa, iV] 66) :: (wJ, .cells #[iv x0.aE, iv x0.aa.an, iv x0.aa.ax, aC, aD, aH] 28) :: H ∧ aK st' [(2, .pointer (some ⟨wJ, 0, none⟩)), (3, .pointer (some ⟨wK, 0, none⟩))]) 0 rfl ⟨rfl, rfl, aA.sub ⟨rfl, rfl, rfl, trivial⟩⟩ ?_ ?_
 rotate_right
 ·rintro Dl R74 H74 aO1 ⟨rfl, rfl, aq5⟩ jw hM ahg ajL ayq
  refine At.sub aq5 ?_
  refine sq ?_
  refine sg bT ?_
  refine vs 2 ?_
  refine ld 4 bL z1 ?_
  refine ls aB Tryz.underlying25 ?_
  refine vs 1 ?_
  refine er ?_
  refine sc hM (λ asG hM => ?_) (λ asG hM => ?_)
  ·refine sp ?_
   refine sq ?_
   refine At.block ?_
   refine sq ?_
   refine At.dw gd mixed ?_
   refine tN 0 [_, _, _, _, _, _] 0 6 aU z1 ?_
   refine tN 1 [_, _, _, _, _, _] 0 6 aU z1 ?_
   refine tN 2 [_, _] 0 2 rP z0 ?_
   refine Any.vs 1 [3] rfl ?_
   refine tl 4 4 bL z1 ?_
   refine Any.vs 1 [5] rfl ?_
   obtain ⟨ij, CB, hM⟩ := ao hM
   obtain ⟨Vw, avF, hM⟩ := ao hM
   obtain ⟨lR, GU, hM⟩ := ao hM
   obtain ⟨aQ3, avE, aop⟩ := aB.cut cL CB
   refine Any.tk 6 rfl pp (λ R' H' hR hS => Ox.wM rfl rfl rfl rfl aop rfl (.one rfl) ⟨rfl, rfl, rfl⟩) ?_
   refine Any.cv 7 PD (Uh x0 x1 ij ay aB aF k5 avE.rd avF) ?_
   rintro _ _ _ ⟨rfl, rfl, rfl⟩
   refine kp ?_
   refine Any.cv 8 aip (awX x0 Vw ay aB aF GU) ?_
   rintro _ _ _ ⟨rfl, rfl, rfl⟩
   refine kp ?_
   refine Any.done ?_
   refine sc hM (λ Nn hM => ?_) (λ Nn hM => ?_)
   ·refine sg aL ?_
    refine vs 1 ?_
    refine er ?_
    replace hM := ayq _ (af hM).symm
    obtain rfl := af hM
    exact rt Tryz.func144 (.tmp rfl .nil) (so (so sr)) (hk _ _ _ ⟨rfl, rfl, rfl⟩)
   refine sp ?_
   refine At.inBlock ?_
   refine At.rg aS ?_
   refine vs 3 ?_
   refine er ?_
   exact ahg _ (af hM).symm _ _ _ ⟨rfl, rfl, aA.sub ⟨rfl, rfl, rfl, trivial⟩⟩
  exact At.exit rfl (ajL _ (af hM).symm _ _ _ ⟨rfl, rfl, aA.sub ⟨rfl, rfl, trivial⟩⟩)
 rintro ayO aG5 aFf aO2 ⟨rfl, rfl, aq6⟩ hM
 refine At.sub aq6 ?_
 refine sq ?_
 refine sg aL ?_
 refine vs 1 ?_
 refine er ?_
 refine At.block ?_
 refine At.fh hM (λ (Dm : Int) R' H' st' => R = R' ∧ H' = (wK, .cells #[iv x1.aa, iV] 66) :: (wJ, .cells #[iv x0.aE, iv x0.aa.an, iv x0.aa.ax, aC, aD, aH] 28) :: H ∧ aK st' [(2, .pointer (some ⟨wJ, 0, none⟩)), (3, .pointer (some ⟨wK, 0, none⟩)), (6, iv Dm)]) (λ (ayQ : Unit) R' H' st' => R = R' ∧ H = H' ∧ aK st' []) 2 rfl ⟨rfl, rfl, aA.sub ⟨rfl, rfl, rfl, trivial⟩⟩ ?_ ?_
 rotate_right
 ·rintro Dm R96 H96 aPj ⟨rfl, rfl, arp⟩ kV hM aho ajT ayr
  refine At.sub arp ?_
  refine sq ?_
  refine sg bT ?_
  refine vs 2 ?_
  refine ld 5 eu z1 ?_
  refine ls aF Tryz.underlying26 ?_
  refine vs 1 ?_
  refine er ?_
  refine sc hM (λ Nm hM => ?_) (λ Nm hM => ?_)
  ·refine sp ?_
   refine sq ?_
   refine At.block ?_
   refine sg dY ?_
   refine vs 1 ?_
   refine ld 5 eu z1 ?_
   refine vs 1 ?_
   obtain ⟨tO, aat, hM⟩ := ao hM
   obtain ⟨aJl, aMr, _, rfl, alm, am9⟩ := aF.elem vr aat
   refine At.s rfl rfl (Ox.bq rfl rfl rfl am9 rfl (.put rfl) ?_)
   refine At.s rfl rfl (Ox.bP (vs := [_, _]) rfl rfl mW rfl (alm.any.part (j := 0) (n := 2) rfl) rfl (.put rfl) ?_)
   refine At.s rfl rfl (Ox.alloc (cs := #[iv 0, iv 0]) rfl Vz rfl λ aIW _ _ => ⟨_, (.put rfl), ?_⟩)
   refine At.s rfl rfl (Ox.bp (cs' := #[_, _]) rfl rfl rfl mW rfl (ak rfl (ak rfl aW)) .here rfl rfl rfl (.refl _) ?_)
   refine es ?_
   refine At.dw oV mixed ?_
   refine tN 0 [_, _, _, _, _, _] 0 6 aU z2 ?_
   refine tN 1 [_, _] 0 2 rP z1 ?_
   refine Any.vs 1 [2] rfl ?_
   refine tl 3 4 bL z2 ?_
   refine Any.vs 1 [4] rfl ?_
   refine tl 5 0 bg z0 ?_
   obtain ⟨D6, aeD, hM⟩ := ao hM
   obtain ⟨BM, aeE, hM⟩ := ao hM
   obtain ⟨wq, aeF, hM⟩ := ao hM
   obtain ⟨aPN, as1, aoj⟩ := aB.cut cL aeD
   refine Any.tk 6 rfl pp (λ R' H' hR hS => Ox.wM rfl rfl rfl rfl aoj rfl (.one rfl) ⟨rfl, rfl, rfl⟩) ?_
   refine Any.vs 1 [9] rfl ?_
   refine tl 10 1 Ls z0 ?_
   refine Any.cv 7 PD (Uh x0 x1 D6 ay aB aF k5 as1.rd aeE) ?_
   rintro _ _ _ ⟨rfl, rfl, rfl⟩
   refine kp ?_
   refine Any.cv 8 air (awZ BM  aeF) ?_
   rintro _ _ _ ⟨rfl, rfl, rfl⟩
   refine kp ?_
   refine Any.vs 1 [11] rfl ?_
   refine Any.done ?_
   refine sc hM (λ arP hM => ?_) (λ arP hM => ?_)
   ·refine sg aL ?_
    refine vs 1 ?_
    refine er ?_
    replace hM := ayr _ (af hM).symm
    obtain rfl := af hM
    exact rt Tryz.func144 (.tmp rfl .nil) (so (so (so sr))) (hk _ _ _ ⟨rfl, rfl, rfl⟩)
   refine sp ?_
   refine At.inBlock ?_
   refine At.rg aS ?_
   refine vs 3 ?_
   refine er ?_
   exact At.drop (so sr) (aho _ (af hM).symm _ _ _ ⟨rfl, rfl, aA.sub ⟨rfl, rfl, rfl, trivial⟩⟩)
  exact At.exit rfl (At.drop (so (so sr)) (ajT _ (af hM).symm _ _ _ ⟨rfl, rfl, aA.sub trivial⟩))
 rintro ayQ aHi aFu aPk ⟨rfl, rfl, arq⟩ hM
 refine At.sub arq ?_
 refine sg aL ?_
 refine vs 1 ?_
 refine er ?_
 obtain rfl := af hM
 exact rt Tryz.func144 (.tmp rfl .nil) sr (hk _ _ _ ⟨rfl, rfl, rfl⟩)
end
end Go.Proofs.YtabamagholjdcaaGreatDoor
