/- Walks, part 8: each function computes its model. -/
import Derived.Test.YtabamagholjdcaaGreatDoorQGHuP7
namespace Go.Proofs.YtabamagholjdcaaGreatDoor
open Go.Lg Go.Proofs
set_option maxRecDepth 100000
set_option maxHeartbeats 4000000
section
variable {B : Base} {main : Bool} {ah : Jd Tryz.prog B main} {R : aA} {H : ak}
theorem Tu  (hG : fG R) (hK : yF ah) {r : Bool} (hM : qF  = some r) : aB ah 19 #[] R H (λ v R' H' => aO R R' ∧ H = H' ∧ v = .bool r) := by
 unfold qF at hM
 refine aB.bk Tryz.func19 rfl (n := 349) rfl rfl λ fr cs hk => ?_
 refine sg aQ ?_
 refine vs 1 ?_
 refine nx aT ?_
 obtain ⟨bZ, atp, hM⟩ := aj hM
 refine At.cv ahA (azc   atp) ?_
 rintro _ aHh _ ⟨lF, rfl, Dj, Dk, Dl, bP, bQ, bR, rfl⟩
 replace hG := hG.mono lF
 refine At.s rfl rfl (Ox.alloc (cs := #[iv 0, iv 0, iv 0, .slice none 0 0, .slice none 0 0, .slice none 0 0]) rfl nY rfl λ gN _ _ => ⟨_, (.put rfl), ?_⟩)
 refine At.s rfl rfl (Ox.bG (cs' := #[_, _, _, _, _, _]) rfl rfl rfl bp rfl (aq rfl (aq rfl (aq rfl (aq bP.one (aq bQ.one (aq bR.one aW)))))) .here rfl rfl rfl (.refl _) ?_)
 refine nx c6 ?_
 refine lN [_, _, _, _, _, _] 0 6 bp z0 ?_
 obtain ⟨vv, R9, hM⟩ := aj hM
 refine At.cv ahw (ay7 bZ 2 bP bQ bR R9) ?_
 rintro _ aHi _ ⟨jO, rfl, aQK, aQL, aQM, atr, att, atu, rfl⟩
 replace hG := hG.mono jO
 replace bP := bP.mono jO
 replace bQ := bQ.mono jO
 replace bR := bR.mono jO
 refine At.s rfl rfl (Ox.build (cells := #[_, _]) rfl Lf rfl (bq rfl rfl rfl rfl bD) rfl (.put rfl) ?_)
 obtain ⟨k5, Sa, hM⟩ := aj hM
 refine At.cv NZ (Ty vv (⟨1, 0⟩ : cF) atr att atu Sa) ?_
 rintro _ aHj _ ⟨jP, rfl, acD, acE, acF, cX, cY, cZ, rfl⟩
 replace hG := hG.mono jP
 replace bP := bP.mono jP
 replace bQ := bQ.mono jP
 replace bR := bR.mono jP
 refine At.s rfl rfl (Ox.alloc (cs := #[iv 0, iv 0, iv 0, .slice none 0 0, .slice none 0 0, .slice none 0 0]) rfl nY rfl λ j7 _ _ => ⟨_, (.put rfl), ?_⟩)
 refine At.s rfl rfl (Ox.bG (cs' := #[_, _, _, _, _, _]) rfl rfl rfl bp rfl (aq rfl (aq rfl (aq rfl (aq cX.one (aq cY.one (aq cZ.one aW)))))) .here rfl rfl rfl (.refl _) ?_)
 refine nx mS ?_
 refine lN [_, _, _, _, _, _] 0 6 bp z1 ?_
 refine At.s rfl rfl (Ox.buildSlice (cells := #[_, _, _]) rfl cW rfl (by decide) BM (bq rfl rfl rfl rfl (bq rfl rfl rfl rfl (bq rfl rfl rfl rfl bD))) rfl λ aH5 _ _ => ⟨_, (.put rfl), ?_⟩)
 refine At.s rfl rfl (Ox.build (cells := #[_, _]) rfl aBD rfl (bq rfl rfl rfl rfl bD) rfl (.put rfl) ?_)
 refine At.s rfl rfl (Ox.buildSlice (cells := #[_]) rfl cW rfl (by decide) en (bq rfl rfl rfl rfl bD) rfl λ vR _ _ => ⟨_, (.put rfl), ?_⟩)
 refine At.qd (K := CZ) (k := 1) (H2 := (vR, _) :: (j7, _) :: (gN, _) :: H) (λ X => (vR, _) :: X ++ ((j7, _) :: (gN, _) :: H)) (.cons .id) rfl (aK.le (aK.cons (x := 21) rfl rfl (aK.cons (x := 30) rfl rfl (aK.cons (x := 10) rfl rfl aK.nil))) rfl) rfl (λ aGV iK akP => ?_)
 replace hG := hG.mono iK
 replace bP := bP.mono iK
 replace bQ := bQ.mono iK
 replace bR := bR.mono iK
 replace cX := cX.mono iK
 replace cY := cY.mono iK
 replace cZ := cZ.mono iK
 obtain ⟨A6, atw, hM⟩ := aj hM
 refine At.cv aht (ay3 bZ (⟨0, [21, 30, 10]⟩ : gM) [1] hG bP bQ bR akP (bV.lit z0 (aK.le (aK.cons (x := 1) rfl rfl aK.nil) rfl) rfl) atw) ?_
 rintro _ aHk _ ⟨iL, rfl, rfl⟩
 replace hG := hG.mono iL
 replace bP := bP.mono iL
 replace bQ := bQ.mono iL
 replace bR := bR.mono iL
 replace cX := cX.mono iL
 replace cY := cY.mono iL
 replace cZ := cZ.mono iL
 refine vs 5 ?_
 refine nx fe ?_
 refine lN [_, _, _, _, _, _] 0 6 bp z2 ?_
 obtain ⟨A7, atx, hM⟩ := aj hM
 refine At.cv HS (HV bZ hG bP bQ bR atx) ?_
 rintro _ aHl _ ⟨iM, rfl, rfl⟩
 replace hG := hG.mono iM
 replace bP := bP.mono iM
 replace bQ := bQ.mono iM
 replace bR := bR.mono iM
 replace cX := cX.mono iM
 replace cY := cY.mono iM
 replace cZ := cZ.mono iM
 refine vs 5 ?_
 refine nx fe ?_
 refine lN [_, _, _, _, _, _] 0 6 bp z2 ?_
 obtain ⟨A8, aty, hM⟩ := aj hM
 refine At.cv Vi (Vq bZ 0 hG bP bQ bR aty) ?_
 rintro _ aHm _ ⟨iN, rfl, aB1, jW, rfl⟩
 replace hG := hG.mono iN
 replace bP := bP.mono iN
 replace bQ := bQ.mono iN
 replace bR := bR.mono iN
 replace cX := cX.mono iN
 replace cY := cY.mono iN
 replace cZ := cZ.mono iN
 refine vs 5 ?_
 refine nx iG ?_
 refine lN [_, _, _, _, _, _] 0 6 bp z2 ?_
 refine At.s rfl rfl (Ox.buildSlice (cells := #[_]) rfl cW rfl (by decide) en (bq rfl rfl rfl rfl bD) rfl λ aH6 _ _ => ⟨_, (.put rfl), ?_⟩)
 refine At.qd (K := CZ) (k := 1) (H2 := (vR, _) :: (j7, _) :: (gN, _) :: H) (λ X => X ++ ((vR, _) :: (j7, _) :: (gN, _) :: H)) .id rfl (aK.le (aK.cons (x := 2) rfl rfl aK.nil) rfl) rfl (λ aGW ie akQ => ?_)
 replace hG := hG.mono ie
 replace bP := bP.mono ie
 replace bQ := bQ.mono ie
 replace bR := bR.mono ie
 replace cX := cX.mono ie
 replace cY := cY.mono ie
 replace cZ := cZ.mono ie
 replace jW := jW.mono ie
 obtain ⟨yd, atz, hM⟩ := aj hM
 refine At.cv ahz (azb bZ [2] hG bP bQ bR akQ atz) ?_
 rintro _ aHn _ ⟨iq, rfl, rfl⟩
 replace hG := hG.mono iq
 replace bP := bP.mono iq
 replace bQ := bQ.mono iq
 replace bR := bR.mono iq
 replace cX := cX.mono iq
 replace cY := cY.mono iq
 replace cZ := cZ.mono iq
 replace jW := jW.mono iq
 refine vs 3 ?_
 refine At.s rfl rfl (Ox.alloc (cs := #[iv 0, iv 0]) rfl Bq rfl λ BK _ _ => ⟨_, (.put rfl), ?_⟩)
 refine At.s rfl rfl (Ox.bG (cs' := #[_, _]) rfl rfl rfl fW rfl (aq rfl (aq rfl aW)) .here rfl rfl rfl (.refl _) ?_)
 refine vs 1 ?_
 refine nx eK ?_
 refine lN [_, _, _, _, _, _] 0 6 bp z3 ?_
 refine At.s rfl rfl (Ox.buildSlice (cells := #[_]) rfl cW rfl (by decide) en (bq rfl rfl rfl rfl bD) rfl λ aH7 _ _ => ⟨_, (.put rfl), ?_⟩)
 refine At.qd (K := CZ) (k := 1) (H2 := (BK, _) :: (vR, _) :: (j7, _) :: (gN, _) :: H) (λ X => X ++ ((BK, _) :: (vR, _) :: (j7, _) :: (gN, _) :: H)) .id rfl (aK.le (aK.cons (x := 0) rfl rfl aK.nil) rfl) rfl (λ aGX ig akR => ?_)
 replace hG := hG.mono ig
 replace bP := bP.mono ig
 replace bQ := bQ.mono ig
 replace bR := bR.mono ig
 replace cX := cX.mono ig
 replace cY := cY.mono ig
 replace cZ := cZ.mono ig
 replace jW := jW.mono ig
 obtain ⟨A9, atA, hM⟩ := aj hM
 refine At.cv XN (aa2 bZ [0] hG bP bQ bR akR atA) ?_
 rintro _ aHo _ ⟨ir, rfl, rfl⟩
 replace hG := hG.mono ir
 replace bP := bP.mono ir
 replace bQ := bQ.mono ir
 replace bR := bR.mono ir
 replace cX := cX.mono ir
 replace cY := cY.mono ir
 replace cZ := cZ.mono ir
 replace jW := jW.mono ir
 refine vs 5 ?_
 refine nx eK ?_
 refine lN [_, _, _, _, _, _] 0 6 bp z3 ?_
 refine At.s rfl rfl (Ox.buildSlice (cells := #[_, _]) rfl cW rfl (by decide) IY (bq rfl rfl rfl rfl (bq rfl rfl rfl rfl bD)) rfl λ aH8 _ _ => ⟨_, (.put rfl), ?_⟩)
 refine At.qd (K := CZ) (k := 1) (H2 := (BK, _) :: (vR, _) :: (j7, _) :: (gN, _) :: H) (λ X => X ++ ((BK, _) :: (vR, _) :: (j7, _) :: (gN, _) :: H)) .id rfl (aK.le (aK.cons (x := 1) rfl rfl (aK.cons (x := 2) rfl rfl aK.nil)) rfl) rfl (λ aGY ij akS => ?_)
 replace hG := hG.mono ij
 replace bP := bP.mono ij
 replace bQ := bQ.mono ij
 replace bR := bR.mono ij
 replace cX := cX.mono ij
 replace cY := cY.mono ij
 replace cZ := cZ.mono ij
 replace jW := jW.mono ij
 obtain ⟨Ba, atB, hM⟩ := aj hM
 refine At.cv XN (aa2 bZ [1, 2] hG bP bQ bR akS atB) ?_
 rintro _ aHp _ ⟨iu, rfl, rfl⟩
 replace hG := hG.mono iu
 replace bP := bP.mono iu
 replace bQ := bQ.mono iu
 replace bR := bR.mono iu
 replace cX := cX.mono iu
 replace cY := cY.mono iu
 replace cZ := cZ.mono iu
 replace jW := jW.mono iu
 refine vs 5 ?_
 refine nx fe ?_
 refine lN [_, _, _, _, _, _] 0 6 bp z3 ?_
 obtain ⟨Bb, atC, hM⟩ := aj hM
 refine At.cv ahu (ay4 bZ hG bP bQ bR atC) ?_
 rintro _ aHq _ ⟨iw, rfl, aB2, F5, rfl⟩
 replace hG := hG.mono iw
 replace bP := bP.mono iw
 replace bQ := bQ.mono iw
 replace bR := bR.mono iw
 replace cX := cX.mono iw
 replace cY := cY.mono iw
 replace cZ := cZ.mono iw
 replace jW := jW.mono iw
 refine vs 5 ?_
 refine nx fe ?_
 refine lN [_, _, _, _, _, _] 0 6 bp z3 ?_
 obtain ⟨Bc, atD, hM⟩ := aj hM
 refine At.cv ahf (ayG bZ hG hK bP bQ bR atD) ?_
 rintro _ aHr _ ⟨gR, rfl, aB3, Sb, rfl⟩
 replace hG := hG.mono gR
 replace bP := bP.mono gR
 replace bQ := bQ.mono gR
 replace bR := bR.mono gR
 replace cX := cX.mono gR
 replace cY := cY.mono gR
 replace cZ := cZ.mono gR
 replace jW := jW.mono gR
 replace F5 := F5.mono gR
 refine vs 5 ?_
 refine nx fe ?_
 refine lN [_, _, _, _, _, _] 0 6 bp z2 ?_
 obtain ⟨Bd, atF, hM⟩ := aj hM
 refine At.cv HS (HV k5 hG cX cY cZ atF) ?_
 rintro _ V3 _ ⟨gx, rfl, rfl⟩
 replace hG := hG.mono gx
 replace bP := bP.mono gx
 replace bQ := bQ.mono gx
 replace bR := bR.mono gx
 replace cX := cX.mono gx
 replace cY := cY.mono gx
 replace cZ := cZ.mono gx
 replace jW := jW.mono gx
 replace F5 := F5.mono gx
 replace Sb := Sb.mono gx
 refine vs 5 ?_
 refine es ?_
 refine sq ?_
 refine At.eZ hM (λ (CY : Bool) R' H' st' => V3 = R' ∧ H' = (BK, .cells #[iv yd.1.ao, iv yd.1.ax] 23) :: (j7, .cells #[iv k5.aD, iv k5.af.ao, iv k5.af.ax, acD, acE, acF] 28) :: (gN, .cells #[iv bZ.aD, iv bZ.af.ao, iv bZ.af.ax, Dj, Dk, Dl] 28) :: H ∧ aF st' [(1, .pointer (some ⟨gN, 0, none⟩)), (2, .pointer (some ⟨j7, 0, none⟩)), (3, iv A6.1), (5, iv A7.1), (7, aB1), (9, .pointer (some ⟨BK, 0, none⟩)), (11, iv A9.1), (13, iv Ba.1), (15, aB2), (17, aB3), (19, iv Bd.1), (121, .bool CY)])  ?_ ?_
 rotate_right
 ·intro aRB hM ua
  refine At.rg abM ?_
  refine vs 3 ?_
  refine bA hM (λ QH hM => ?_) (λ QH hM => ?_)
  ·refine At.kn 90 QH ?_
   refine vs 31 ?_
   refine er ?_
   exact At.drop (sk (so sr)) (ua _ (aa hM).symm _ _ _ ⟨rfl, rfl, ay.sub ⟨rfl, rfl, rfl, rfl, rfl, rfl, rfl, rfl, rfl, rfl, rfl, rfl, trivial⟩⟩)
  refine At.kn 90 QH ?_
  refine vs 4 ?_
  refine bA hM (λ QI hM => ?_) (λ QI hM => ?_)
  ·refine At.kn 94 QI ?_
   refine vs 27 ?_
   refine er ?_
   exact At.drop (sk (so sr)) (ua _ (aa hM).symm _ _ _ ⟨rfl, rfl, ay.sub ⟨rfl, rfl, rfl, rfl, rfl, rfl, rfl, rfl, rfl, rfl, rfl, rfl, trivial⟩⟩)
  refine At.kn 94 QI ?_
  refine vs 4 ?_
  refine bA hM (λ FF hM => ?_) (λ FF hM => ?_)
  ·refine At.kn 98 FF ?_
   refine vs 23 ?_
   refine er ?_
   exact At.drop (sk (so sr)) (ua _ (aa hM).symm _ _ _ ⟨rfl, rfl, ay.sub ⟨rfl, rfl, rfl, rfl, rfl, rfl, rfl, rfl, rfl, rfl, rfl, rfl, trivial⟩⟩)
  refine At.kn 98 FF ?_
  refine vs 4 ?_
  refine bA hM (λ FG hM => ?_) (λ FG hM => ?_)
  ·refine At.kn 102 FG ?_
   refine vs 19 ?_
   refine er ?_
   exact At.drop (sk (so sr)) (ua _ (aa hM).symm _ _ _ ⟨rfl, rfl, ay.sub ⟨rfl, rfl, rfl, rfl, rfl, rfl, rfl, rfl, rfl, rfl, rfl, rfl, trivial⟩⟩)
  refine At.kn 102 FG ?_
  refine vs 4 ?_
  refine bA hM (λ QJ hM => ?_) (λ QJ hM => ?_)
  ·refine At.kn 106 QJ ?_
   refine vs 15 ?_
   refine er ?_
   exact At.drop (sk (so sr)) (ua _ (aa hM).symm _ _ _ ⟨rfl, rfl, ay.sub ⟨rfl, rfl, rfl, rfl, rfl, rfl, rfl, rfl, rfl, rfl, rfl, rfl, trivial⟩⟩)
  refine At.kn 106 QJ ?_
  refine vs 4 ?_
  refine bA hM (λ QK hM => ?_) (λ QK hM => ?_)
  ·refine At.kn 110 QK ?_
   refine vs 11 ?_
   refine er ?_
   exact At.drop (sk (so sr)) (ua _ (aa hM).symm _ _ _ ⟨rfl, rfl, ay.sub ⟨rfl, rfl, rfl, rfl, rfl, rfl, rfl, rfl, rfl, rfl, rfl, rfl, trivial⟩⟩)
  refine At.kn 110 QK ?_
  refine vs 4 ?_
  refine bA hM (λ QL hM => ?_) (λ QL hM => ?_)
  ·refine At.kn 114 QL ?_
   refine vs 7 ?_
   refine er ?_
   exact At.drop (sk (so sr)) (ua _ (aa hM).symm _ _ _ ⟨rfl, rfl, ay.sub ⟨rfl, rfl, rfl, rfl, rfl, rfl, rfl, rfl, rfl, rfl, rfl, rfl, trivial⟩⟩)
  refine At.kn 114 QL ?_
  refine vs 4 ?_
  refine bA hM (λ QM hM => ?_) (λ QM hM => ?_)
  ·refine At.kn 118 QM ?_
   refine vs 3 ?_
   refine er ?_
   exact At.drop (sk (so sr)) (ua _ (aa hM).symm _ _ _ ⟨rfl, rfl, ay.sub ⟨rfl, rfl, rfl, rfl, rfl, rfl, rfl, rfl, rfl, rfl, rfl, rfl, trivial⟩⟩)
  refine At.kn 118 QM ?_
  refine vs 3 ?_
  refine er ?_
  exact At.drop (sk (so sr)) (ua _ (aa hM).symm _ _ _ ⟨rfl, rfl, ay.sub ⟨rfl, rfl, rfl, rfl, rfl, rfl, rfl, rfl, rfl, rfl, rfl, rfl, trivial⟩⟩)
 rintro CY aFC aDF aO2 ⟨rfl, rfl, apg⟩ hM
 refine At.sub apg ?_
 refine sc hM (λ QN hM => ?_) (λ QN hM => ?_)
 ·refine sg aQ ?_
  refine vs 1 ?_
  refine er ?_
  obtain rfl := aa hM
  exact rt Tryz.func19 (.tmp rfl .nil) (so (so (so sr))) (hk _ _ _ ⟨(((((((((((((((lF.trans jO).trans jP).trans iK).trans iL).trans iM).trans iN).trans ie).trans iq).trans ig).trans ir).trans ij).trans iu).trans iw).trans gR).trans gx), rfl, rfl⟩)
 refine sp ?_
 refine sq ?_
 refine sq ?_
 refine At.eZ hM (λ (C0 : Bool) R' H' st' => V3 = R' ∧ H' = (j7, .cells #[iv k5.aD, iv k5.af.ao, iv k5.af.ax, acD, acE, acF] 28) :: (gN, .cells #[iv bZ.aD, iv bZ.af.ao, iv bZ.af.ax, Dj, Dk, Dl] 28) :: H ∧ aF st' [(1, .pointer (some ⟨gN, 0, none⟩)), (2, .pointer (some ⟨j7, 0, none⟩)), (162, .bool C0)])  ?_ ?_
 rotate_right
 ·intro UK hM uc
  refine At.dw aAM mixed ?_
  refine Any.vs 3 [0, 1, 2] rfl ?_
  refine bA hM (λ zz hM => ?_) (λ zz hM => ?_)
  ·refine Any.known (t := 124) rfl zz ?_
   refine Any.vs 38 [3, 4, 5, 6, 7, 8, 9, 10, 11, 12, 13, 14, 15, 16, 17, 18, 19, 20, 21, 22, 23, 24, 25, 26, 27, 28, 29, 30, 31, 32, 33, 34, 35, 36, 37, 38, 39, 40] rfl ?_
   refine Any.done ?_
   exact At.drop (so sr) (uc _ (aa hM).symm _ _ _ ⟨rfl, rfl, ay.sub ⟨rfl, rfl, rfl, trivial⟩⟩)
  refine Any.known (t := 124) rfl zz ?_
  refine Any.vs 4 [3, 4, 5, 6] rfl ?_
  refine bA hM (λ FI hM => ?_) (λ FI hM => ?_)
  ·refine Any.known (t := 128) rfl FI ?_
   refine Any.vs 34 [7, 8, 9, 10, 11, 12, 13, 14, 15, 16, 17, 18, 19, 20, 21, 22, 23, 24, 25, 26, 27, 28, 29, 30, 31, 32, 33, 34, 35, 36, 37, 38, 39, 40] rfl ?_
   refine Any.done ?_
   exact At.drop (so sr) (uc _ (aa hM).symm _ _ _ ⟨rfl, rfl, ay.sub ⟨rfl, rfl, rfl, trivial⟩⟩)
  refine Any.known (t := 128) rfl FI ?_
  refine Any.vs 1 [7] rfl ?_
  refine Any.on 8 rfl rfl (aP.to (Ox.buildSlice (cells := #[_, _]) rfl cW rfl (by decide) IY (bq rfl rfl rfl rfl (bq rfl rfl rfl rfl bD)) rfl λ tT _ _ => ⟨_, (.put rfl), ⟨rr, (ku (so sr)), ?_⟩⟩))
  obtain ⟨fF, F7, hM⟩ := aj hM
  refine Any.cv 9 BU (CU A8.1 [20, 21] jW.rd (bV.lit z0 (aK.le (aK.cons (x := 20) rfl rfl (aK.cons (x := 21) rfl rfl aK.nil)) rfl) rfl) F7) ?_
  rintro _ _ _ ⟨rfl, rfl, rfl⟩
  refine ⟨rr, (ku (so sr)), ?_⟩
  refine Any.vs 3 [10, 11, 12] rfl ?_
  refine bA hM (λ FJ hM => ?_) (λ FJ hM => ?_)
  ·refine Any.known (t := 134) rfl FJ ?_
   refine Any.vs 28 [13, 14, 15, 16, 17, 18, 19, 20, 21, 22, 23, 24, 25, 26, 27, 28, 29, 30, 31, 32, 33, 34, 35, 36, 37, 38, 39, 40] rfl ?_
   refine Any.done ?_
   exact At.drop (so (so sr)) (uc _ (aa hM).symm _ _ _ ⟨rfl, rfl, ay.sub ⟨rfl, rfl, rfl, trivial⟩⟩)
  refine Any.known (t := 134) rfl FJ ?_
  refine Any.tk 13 rfl (su (so sr)) (λ R' H' hR hS => Ox.ck (vs := [_, _]) rfl rfl fW rfl ((aS.box (hS _ z0)).part (j := 0) (n := 2) rfl) rfl (.one rfl) ⟨rfl, rfl, rfl⟩) ?_
  obtain ⟨HJ, atU, hM⟩ := aj hM
  refine Any.cv 14 N0 (Tz (-3) 0  atU) ?_
  rintro _ _ _ ⟨rfl, rfl, rfl⟩
  refine ⟨rr, (ku (so sr)), ?_⟩
  refine Any.tk 15 rfl (su (so sr)) (λ R' H' hR hS => Ox.Ja rfl rfl rfl Oh (N5 _ _) rfl rfl (.one rfl) ⟨rfl, rfl, rfl⟩) ?_
  refine Any.vs 2 [16, 17] rfl ?_
  refine bA hM (λ J5 hM => ?_) (λ J5 hM => ?_)
  ·refine Any.known (t := 139) rfl J5 ?_
   refine Any.vs 23 [18, 19, 20, 21, 22, 23, 24, 25, 26, 27, 28, 29, 30, 31, 32, 33, 34, 35, 36, 37, 38, 39, 40] rfl ?_
   refine Any.done ?_
   exact At.drop (so (so sr)) (uc _ (aa hM).symm _ _ _ ⟨rfl, rfl, ay.sub ⟨rfl, rfl, rfl, trivial⟩⟩)
  refine Any.known (t := 139) rfl J5 ?_
  refine Any.vs 4 [18, 19, 20, 21] rfl ?_
  refine bA hM (λ FK hM => ?_) (λ FK hM => ?_)
  ·refine Any.known (t := 143) rfl FK ?_
   refine Any.vs 19 [22, 23, 24, 25, 26, 27, 28, 29, 30, 31, 32, 33, 34, 35, 36, 37, 38, 39, 40] rfl ?_
   refine Any.done ?_
   exact At.drop (so (so sr)) (uc _ (aa hM).symm _ _ _ ⟨rfl, rfl, ay.sub ⟨rfl, rfl, rfl, trivial⟩⟩)
  refine Any.known (t := 143) rfl FK ?_
  refine Any.vs 4 [22, 23, 24, 25] rfl ?_
  refine bA hM (λ FL hM => ?_) (λ FL hM => ?_)
  ·refine Any.known (t := 147) rfl FL ?_
   refine Any.vs 15 [26, 27, 28, 29, 30, 31, 32, 33, 34, 35, 36, 37, 38, 39, 40] rfl ?_
   refine Any.done ?_
   exact At.drop (so (so sr)) (uc _ (aa hM).symm _ _ _ ⟨rfl, rfl, ay.sub ⟨rfl, rfl, rfl, trivial⟩⟩)
  refine Any.known (t := 147) rfl FL ?_
  refine Any.vs 1 [26] rfl ?_
  refine Any.on 27 rfl rfl (aP.to (Ox.buildSlice (cells := #[_, _]) rfl cW rfl (by decide) IY (bq rfl rfl rfl rfl (bq rfl rfl rfl rfl bD)) rfl λ aH9 _ _ => ⟨_, (.put rfl), ⟨rr, (ku (so (so sr))), ?_⟩⟩))
  obtain ⟨Bf, Si, hM⟩ := aj hM
  refine Any.cv 28 BU (CU Bb.1 [1, 2] F5.rd (bV.lit z0 (aK.le (aK.cons (x := 1) rfl rfl (aK.cons (x := 2) rfl rfl aK.nil)) rfl) rfl) Si) ?_
  rintro _ _ _ ⟨rfl, rfl, rfl⟩
  refine ⟨rr, (ku (so (so sr))), ?_⟩
  refine Any.vs 3 [29, 30, 31] rfl ?_
  refine bA hM (λ QV hM => ?_) (λ QV hM => ?_)
  ·refine Any.known (t := 153) rfl QV ?_
   refine Any.vs 9 [32, 33, 34, 35, 36, 37, 38, 39, 40] rfl ?_
   refine Any.done ?_
   exact At.drop (so (so (so sr))) (uc _ (aa hM).symm _ _ _ ⟨rfl, rfl, ay.sub ⟨rfl, rfl, rfl, trivial⟩⟩)
  refine Any.known (t := 153) rfl QV ?_
  refine Any.vs 1 [32] rfl ?_
  refine Any.on 33 rfl rfl (aP.to (Ox.buildSlice (cells := #[_, _]) rfl cW rfl (by decide) IY (bq rfl rfl rfl rfl (bq rfl rfl rfl rfl bD)) rfl λ aIa _ _ => ⟨_, (.put rfl), ⟨rr, (ku (so (so (so sr)))), ?_⟩⟩))
  obtain ⟨ri, F8, hM⟩ := aj hM
  refine Any.cv 34 BU (CU Bc.1 [1, 2] Sb.rd (bV.lit z0 (aK.le (aK.cons (x := 1) rfl rfl (aK.cons (x := 2) rfl rfl aK.nil)) rfl) rfl) F8) ?_
  rintro _ _ _ ⟨rfl, rfl, rfl⟩
  refine ⟨rr, (ku (so (so (so sr)))), ?_⟩
  refine Any.vs 3 [35, 36, 37] rfl ?_
  refine bA hM (λ zA hM => ?_) (λ zA hM => ?_)
  ·refine Any.known (t := 159) rfl zA ?_
   refine Any.vs 3 [38, 39, 40] rfl ?_
   refine Any.done ?_
   exact At.drop (so (so (so (so sr)))) (uc _ (aa hM).symm _ _ _ ⟨rfl, rfl, ay.sub ⟨rfl, rfl, rfl, trivial⟩⟩)
  refine Any.known (t := 159) rfl zA ?_
  refine Any.vs 3 [38, 39, 40] rfl ?_
  refine Any.done ?_
  exact At.drop (so (so (so (so sr)))) (uc _ (aa hM).symm _ _ _ ⟨rfl, rfl, ay.sub ⟨rfl, rfl, rfl, trivial⟩⟩)
 rintro C0 aFH aDK aO9 ⟨rfl, rfl, apn⟩ hM
 refine At.sub apn ?_
 refine sc hM (λ QY hM => ?_) (λ QY hM => ?_)
 ·refine sg aQ ?_
  refine vs 1 ?_
  refine er ?_
  obtain rfl := aa hM
  exact rt Tryz.func19 (.tmp rfl .nil) (so (so sr)) (hk _ _ _ ⟨(((((((((((((((lF.trans jO).trans jP).trans iK).trans iL).trans iM).trans iN).trans ie).trans iq).trans ig).trans ir).trans ij).trans iu).trans iw).trans gR).trans gx), rfl, rfl⟩)
 refine sp ?_
 refine sg eK ?_
 refine lN [_, _, _, _, _, _] 0 6 bp z1 ?_
 refine At.s rfl rfl (Ox.buildSlice (cells := #[_, _, _]) rfl cW rfl (by decide) BM (bq rfl rfl rfl rfl (bq rfl rfl rfl rfl (bq rfl rfl rfl rfl bD))) rfl λ aIb _ _ => ⟨_, (.put rfl), ?_⟩)
 refine At.qd (K := CZ) (k := 1) (H2 := (j7, _) :: (gN, _) :: H) (λ X => X ++ ((j7, _) :: (gN, _) :: H)) .id rfl (aK.le (aK.cons (x := 2) rfl rfl (aK.cons (x := 0) rfl rfl (aK.cons (x := 1) rfl rfl aK.nil))) rfl) rfl (λ aGZ jl akT => ?_)
 replace hG := hG.mono jl
 replace bP := bP.mono jl
 replace bQ := bQ.mono jl
 replace bR := bR.mono jl
 replace cX := cX.mono jl
 replace cY := cY.mono jl
 replace cZ := cZ.mono jl
 obtain ⟨pP, Sm, hM⟩ := aj hM
 refine At.cv NW (Tw bZ [2, 0, 1] hG bP bQ bR akT Sm) ?_
 rintro _ aHv _ ⟨jo, rfl, rfl⟩
 replace hG := hG.mono jo
 replace bP := bP.mono jo
 replace bQ := bQ.mono jo
 replace bR := bR.mono jo
 replace cX := cX.mono jo
 replace cY := cY.mono jo
 replace cZ := cZ.mono jo
 refine vs 5 ?_
 refine nx eK ?_
 refine lN [_, _, _, _, _, _] 0 6 bp z1 ?_
 refine At.s rfl rfl (Ox.buildSlice (cells := #[_, _, _]) rfl cW rfl (by decide) BM (bq rfl rfl rfl rfl (bq rfl rfl rfl rfl (bq rfl rfl rfl rfl bD))) rfl λ aIc _ _ => ⟨_, (.put rfl), ?_⟩)
 refine At.qd (K := CZ) (k := 1) (H2 := (j7, _) :: (gN, _) :: H) (λ X => X ++ ((j7, _) :: (gN, _) :: H)) .id rfl (aK.le (aK.cons (x := 2) rfl rfl (aK.cons (x := 1) rfl rfl (aK.cons (x := 0) rfl rfl aK.nil))) rfl) rfl (λ aG1 jm akU => ?_)
 replace hG := hG.mono jm
 replace bP := bP.mono jm
 replace bQ := bQ.mono jm
 replace bR := bR.mono jm
 replace cX := cX.mono jm
 replace cY := cY.mono jm
 replace cZ := cZ.mono jm
 obtain ⟨tB, So, hM⟩ := aj hM
 refine At.cv NW (Tw bZ [2, 1, 0] hG bP bQ bR akU So) ?_
 rintro _ aHw _ ⟨jq, rfl, rfl⟩
 replace hG := hG.mono jq
 replace bP := bP.mono jq
 replace bQ := bQ.mono jq
 replace bR := bR.mono jq
 replace cX := cX.mono jq
 replace cY := cY.mono jq
 replace cZ := cZ.mono jq
 refine vs 5 ?_
 refine nx fe ?_
 refine lN [_, _, _, _, _, _] 0 6 bp z1 ?_
 refine At.s rfl rfl (Ox.buildSlice (cells := #[_, _, _]) rfl cW rfl (by decide) BM (bq rfl rfl rfl rfl (bq rfl rfl rfl rfl (bq rfl rfl rfl rfl bD))) rfl λ aId _ _ => ⟨_, (.put rfl), ?_⟩)
 refine At.qd (K := CZ) (k := 1) (H2 := (j7, _) :: (gN, _) :: H) (λ X => X ++ ((j7, _) :: (gN, _) :: H)) .id rfl (aK.le (aK.cons (x := 0) rfl rfl (aK.cons (x := 1) rfl rfl (aK.cons (x := 2) rfl rfl aK.nil))) rfl) rfl (λ aG2 jn akV => ?_)
 replace hG := hG.mono jn
 replace bP := bP.mono jn
 replace bQ := bQ.mono jn
 replace bR := bR.mono jn
 replace cX := cX.mono jn
 replace cY := cY.mono jn
 replace cZ := cZ.mono jn
 obtain ⟨vz, Sp, hM⟩ := aj hM
 refine At.cv NW (Tw bZ [0, 1, 2] hG bP bQ bR akV Sp) ?_
 rintro _ aHy _ ⟨jr, rfl, rfl⟩
 replace hG := hG.mono jr
 replace bP := bP.mono jr
 replace bQ := bQ.mono jr
 replace bR := bR.mono jr
 replace cX := cX.mono jr
 replace cY := cY.mono jr
 replace cZ := cZ.mono jr
 refine vs 4 ?_
 refine nx fe ?_
 refine lN [_, _, _, _, _, _] 0 6 bp z1 ?_
 obtain ⟨nU, F9, hM⟩ := aj hM
 refine At.cv NY (Tx bZ hG hK bP bQ bR F9) ?_
 rintro _ aHz _ ⟨js, rfl, rfl⟩
 replace hG := hG.mono js
 replace bP := bP.mono js
 replace bQ := bQ.mono js
 replace bR := bR.mono js
 replace cX := cX.mono js
 replace cY := cY.mono js
 replace cZ := cZ.mono js
 refine vs 5 ?_
 refine nx iG ?_
 refine lN [_, _, _, _, _, _] 0 6 bp z1 ?_
 obtain ⟨tC, at2, hM⟩ := aj hM
 refine At.cv aho (ayV bZ hG hK bP bQ bR at2) ?_
 rintro _ aHA _ ⟨ju, rfl, aB5, Ga, rfl⟩
 replace hG := hG.mono ju
 replace bP := bP.mono ju
 replace bQ := bQ.mono ju
 replace bR := bR.mono ju
 replace cX := cX.mono ju
 replace cY := cY.mono ju
 replace cZ := cZ.mono ju
 refine vs 7 ?_
 refine nx iG ?_
 refine lN [_, _, _, _, _, _] 0 6 bp z1 ?_
 obtain ⟨oQ, Sq, hM⟩ := aj hM
 refine At.cv ahp (ayW bZ hG hK bP bQ bR Sq) ?_
 rintro _ aHB _ ⟨jd, rfl, aB6, Sr, rfl⟩
 replace hG := hG.mono jd
 replace bP := bP.mono jd
 replace bQ := bQ.mono jd
 replace bR := bR.mono jd
 replace cX := cX.mono jd
 replace cY := cY.mono jd
 replace cZ := cZ.mono jd
 replace Ga := Ga.mono jd
 refine vs 7 ?_
 refine nx fe ?_
 refine lN [_, _, _, _, _, _] 0 6 bp z0 ?_
 obtain ⟨rj, Ss, hM⟩ := aj hM
 refine At.cv NY (Tx k5 hG hK cX cY cZ Ss) ?_
 rintro _ V5 _ ⟨jQ, rfl, rfl⟩
 replace hG := hG.mono jQ
 replace bP := bP.mono jQ
 replace bQ := bQ.mono jQ
 replace bR := bR.mono jQ
 replace Ga := Ga.mono jQ
 replace Sr := Sr.mono jQ
 refine vs 5 ?_
 refine es ?_
 refine sq ?_
 refine At.eZ hM (λ (iR : Bool) R' H' st' => V5 = R' ∧ H' = (gN, .cells #[iv bZ.aD, iv bZ.af.ao, iv bZ.af.ax, Dj, Dk, Dl] 28) :: H ∧ aF st' [(1, .pointer (some ⟨gN, 0, none⟩)), (3, iv nU.1), (5, iv rj.1), (21, iv pP.1), (22, iv tB.1), (23, aB5), (24, .bool tC.2.1), (25, aB6), (26, iv oQ.2.1), (228, .bool iR)])  ?_ ?_
 rotate_right
 ·intro HL hM ud
  refine At.rg aAK ?_
  refine vs 3 ?_
  refine bA hM (λ Q2 hM => ?_) (λ Q2 hM => ?_)
  ·refine At.kn 205 Q2 ?_
   refine vs 23 ?_
   refine er ?_
   exact At.drop (so sr) (ud _ (aa hM).symm _ _ _ ⟨rfl, rfl, ay.sub ⟨rfl, rfl, rfl, rfl, rfl, rfl, rfl, rfl, rfl, rfl, trivial⟩⟩)
  refine At.kn 205 Q2 ?_
  refine vs 4 ?_
  refine bA hM (λ Q3 hM => ?_) (λ Q3 hM => ?_)
  ·refine At.kn 209 Q3 ?_
   refine vs 19 ?_
   refine er ?_
   exact At.drop (so sr) (ud _ (aa hM).symm _ _ _ ⟨rfl, rfl, ay.sub ⟨rfl, rfl, rfl, rfl, rfl, rfl, rfl, rfl, rfl, rfl, trivial⟩⟩)
  refine At.kn 209 Q3 ?_
  refine vs 4 ?_
  refine bA hM (λ Q4 hM => ?_) (λ Q4 hM => ?_)
  ·refine At.kn 213 Q4 ?_
   refine vs 15 ?_
   refine er ?_
   exact At.drop (so sr) (ud _ (aa hM).symm _ _ _ ⟨rfl, rfl, ay.sub ⟨rfl, rfl, rfl, rfl, rfl, rfl, rfl, rfl, rfl, rfl, trivial⟩⟩)
  refine At.kn 213 Q4 ?_
  refine vs 4 ?_
  refine bA hM (λ Q5 hM => ?_) (λ Q5 hM => ?_)
  ·refine At.kn 217 Q5 ?_
   refine vs 11 ?_
   refine er ?_
   exact At.drop (so sr) (ud _ (aa hM).symm _ _ _ ⟨rfl, rfl, ay.sub ⟨rfl, rfl, rfl, rfl, rfl, rfl, rfl, rfl, rfl, rfl, trivial⟩⟩)
  refine At.kn 217 Q5 ?_
  refine vs 4 ?_
  refine bA hM (λ Q6 hM => ?_) (λ Q6 hM => ?_)
  ·refine At.kn 221 Q6 ?_
   refine vs 7 ?_
   refine er ?_
   exact At.drop (so sr) (ud _ (aa hM).symm _ _ _ ⟨rfl, rfl, ay.sub ⟨rfl, rfl, rfl, rfl, rfl, rfl, rfl, rfl, rfl, rfl, trivial⟩⟩)
  refine At.kn 221 Q6 ?_
  refine vs 4 ?_
  refine bA hM (λ Q7 hM => ?_) (λ Q7 hM => ?_)
  ·refine At.kn 225 Q7 ?_
   refine vs 3 ?_
   refine er ?_
   exact At.drop (so sr) (ud _ (aa hM).symm _ _ _ ⟨rfl, rfl, ay.sub ⟨rfl, rfl, rfl, rfl, rfl, rfl, rfl, rfl, rfl, rfl, trivial⟩⟩)
  refine At.kn 225 Q7 ?_
  refine vs 3 ?_
  refine er ?_
  exact At.drop (so sr) (ud _ (aa hM).symm _ _ _ ⟨rfl, rfl, ay.sub ⟨rfl, rfl, rfl, rfl, rfl, rfl, rfl, rfl, rfl, rfl, trivial⟩⟩)
 rintro iR aez adH aBi ⟨rfl, rfl, Qo⟩ hM
 refine At.sub Qo ?_
 refine sc hM (λ arz hM => ?_) (λ arz hM => ?_)
 ·refine sg aQ ?_
  refine vs 1 ?_
  refine er ?_
  obtain rfl := aa hM
  exact rt Tryz.func19 (.tmp rfl .nil) (so sr) (hk _ _ _ ⟨(((((((((((((((((((((((((lF.trans jO).trans jP).trans iK).trans iL).trans iM).trans iN).trans ie).trans iq).trans ig).trans ir).trans ij).trans iu).trans iw).trans gR).trans gx).trans jl).trans jo).trans jm).trans jq).trans jn).trans jr).trans js).trans ju).trans jd).trans jQ), rfl, rfl⟩)
 refine sp ?_
 refine sq ?_
 refine sq ?_
 refine At.eZ hM (λ (C3 : Bool) R' H' st' => V5 = R' ∧ H' = (gN, .cells #[iv bZ.aD, iv bZ.af.ao, iv bZ.af.ax, Dj, Dk, Dl] 28) :: H ∧ aF st' [(1, .pointer (some ⟨gN, 0, none⟩)), (262, .bool C3)])  ?_ ?_
 rotate_right
 ·intro aRG hM vW
  refine At.rg abM ?_
  refine vs 3 ?_
  refine bA hM (λ Q8 hM => ?_) (λ Q8 hM => ?_)
  ·refine At.kn 231 Q8 ?_
   refine vs 31 ?_
   refine er ?_
   exact vW _ (aa hM).symm _ _ _ ⟨rfl, rfl, ay.sub ⟨rfl, rfl, trivial⟩⟩
  refine At.kn 231 Q8 ?_
  refine vs 4 ?_
  refine bA hM (λ Q9 hM => ?_) (λ Q9 hM => ?_)
  ·refine At.kn 235 Q9 ?_
   refine vs 27 ?_
   refine er ?_
   exact vW _ (aa hM).symm _ _ _ ⟨rfl, rfl, ay.sub ⟨rfl, rfl, trivial⟩⟩
  refine At.kn 235 Q9 ?_
  refine vs 4 ?_
  refine bA hM (λ Ra hM => ?_) (λ Ra hM => ?_)
  ·refine At.kn 239 Ra ?_
   refine vs 23 ?_
   refine er ?_
   exact vW _ (aa hM).symm _ _ _ ⟨rfl, rfl, ay.sub ⟨rfl, rfl, trivial⟩⟩
  refine At.kn 239 Ra ?_
  refine vs 4 ?_
  refine bA hM (λ Rb hM => ?_) (λ Rb hM => ?_)
  ·refine At.kn 243 Rb ?_
   refine vs 19 ?_
   refine er ?_
   exact vW _ (aa hM).symm _ _ _ ⟨rfl, rfl, ay.sub ⟨rfl, rfl, trivial⟩⟩
  refine At.kn 243 Rb ?_
  refine vs 1 ?_
  refine At.s rfl rfl (Ox.buildSlice (cells := #[_, _, _]) rfl cW rfl (by decide) BM (bq rfl rfl rfl rfl (bq rfl rfl rfl rfl (bq rfl rfl rfl rfl bD))) rfl λ aIe _ _ => ⟨_, (.put rfl), ?_⟩)
  obtain ⟨LV, auh, hM⟩ := aj hM
  refine At.cv BU (CU tC.1 [2, 0, 1] Ga.rd (bV.lit z0 (aK.le (aK.cons (x := 2) rfl rfl (aK.cons (x := 0) rfl rfl (aK.cons (x := 1) rfl rfl aK.nil))) rfl) rfl) auh) ?_
  rintro _ _ _ ⟨rfl, rfl, rfl⟩
  refine vs 3 ?_
  refine bA hM (λ Rc hM => ?_) (λ Rc hM => ?_)
  ·refine At.kn 249 Rc ?_
   refine vs 13 ?_
   refine er ?_
   exact At.drop (so sr) (vW _ (aa hM).symm _ _ _ ⟨rfl, rfl, ay.sub ⟨rfl, rfl, trivial⟩⟩)
  refine At.kn 249 Rc ?_
  refine vs 1 ?_
  refine At.s rfl rfl (Ox.buildSlice (cells := #[_, _, _]) rfl cW rfl (by decide) BM (bq rfl rfl rfl rfl (bq rfl rfl rfl rfl (bq rfl rfl rfl rfl bD))) rfl λ aIf _ _ => ⟨_, (.put rfl), ?_⟩)
  obtain ⟨LW, aui, hM⟩ := aj hM
  refine At.cv BU (CU oQ.1 [2, 0, 1] Sr.rd (bV.lit z0 (aK.le (aK.cons (x := 2) rfl rfl (aK.cons (x := 0) rfl rfl (aK.cons (x := 1) rfl rfl aK.nil))) rfl) rfl) aui) ?_
  rintro _ _ _ ⟨rfl, rfl, rfl⟩
  refine vs 3 ?_
  refine bA hM (λ Re hM => ?_) (λ Re hM => ?_)
  ·refine At.kn 255 Re ?_
   refine vs 7 ?_
   refine er ?_
   exact At.drop (so (so sr)) (vW _ (aa hM).symm _ _ _ ⟨rfl, rfl, ay.sub ⟨rfl, rfl, trivial⟩⟩)
  refine At.kn 255 Re ?_
  refine vs 4 ?_
  refine bA hM (λ Rf hM => ?_) (λ Rf hM => ?_)
  ·refine At.kn 259 Rf ?_
   refine vs 3 ?_
   refine er ?_
   exact At.drop (so (so sr)) (vW _ (aa hM).symm _ _ _ ⟨rfl, rfl, ay.sub ⟨rfl, rfl, trivial⟩⟩)
  refine At.kn 259 Rf ?_
  refine vs 3 ?_
  refine er ?_
  exact At.drop (so (so sr)) (vW _ (aa hM).symm _ _ _ ⟨rfl, rfl, ay.sub ⟨rfl, rfl, trivial⟩⟩)
 rintro C3 aFZ aD1 aPs ⟨rfl, rfl, apH⟩ hM
 refine At.sub apH ?_
 refine sc hM (λ arA hM => ?_) (λ arA hM => ?_)
 ·refine sg aQ ?_
  refine vs 1 ?_
  refine er ?_
  obtain rfl := aa hM
  exact rt Tryz.func19 (.tmp rfl .nil) (so sr) (hk _ _ _ ⟨(((((((((((((((((((((((((lF.trans jO).trans jP).trans iK).trans iL).trans iM).trans iN).trans ie).trans iq).trans ig).trans ir).trans ij).trans iu).trans iw).trans gR).trans gx).trans jl).trans jo).trans jm).trans jq).trans jn).trans jr).trans js).trans ju).trans jd).trans jQ), rfl, rfl⟩)
 refine sp ?_
 refine sg iG ?_
 refine lN [_, _, _, _, _, _] 0 6 bp z0 ?_
 obtain ⟨yf, auk, hM⟩ := aj hM
 refine At.cv adk (adn bZ hG bP bQ bR auk) ?_
 rintro _ aHE _ ⟨mg, rfl, rfl⟩
 replace hG := hG.mono mg
 replace bP := bP.mono mg
 replace bQ := bQ.mono mg
 replace bR := bR.mono mg
 refine vs 7 ?_
 refine nx c6 ?_
 refine lN [_, _, _, _, _, _] 0 6 bp z0 ?_
 obtain ⟨LX, aul, hM⟩ := aj hM
 refine At.cv XL (aaZ bZ 0 hG bP bQ bR aul) ?_
 rintro _ aHF _ ⟨mh, rfl, aQW, aQX, aQY, aMN, aMO, aMP, rfl⟩
 replace hG := hG.mono mh
 replace bP := bP.mono mh
 replace bQ := bQ.mono mh
 replace bR := bR.mono mh
 refine vs 4 ?_
 refine nx eK ?_
 refine lN [_, _, _, _, _, _] 0 6 bp z0 ?_
 obtain ⟨tD, aum, hM⟩ := aj hM
 refine At.cv XL (aaZ bZ 2 hG bP bQ bR aum) ?_
 rintro _ aHG _ ⟨mj, rfl, aCc, aCd, aCe, ZT, ZU, ZV, rfl⟩
 replace hG := hG.mono mj
 replace bP := bP.mono mj
 replace bQ := bQ.mono mj
 replace bR := bR.mono mj
 refine vs 3 ?_
 refine At.s rfl rfl (Ox.alloc (cs := #[iv 0, iv 0, iv 0, .slice none 0 0, .slice none 0 0, .slice none 0 0]) rfl nY rfl λ afL _ _ => ⟨_, (.put rfl), ?_⟩)
 refine At.s rfl rfl (Ox.bG (cs' := #[_, _, _, _, _, _]) rfl rfl rfl bp rfl (aq rfl (aq rfl (aq rfl (aq ZT.one (aq ZU.one (aq ZV.one aW)))))) .here rfl rfl rfl (.refl _) ?_)
 refine vs 1 ?_
 refine nx fe ?_
 refine lN [_, _, _, _, _, _] 0 6 bp z0 ?_
 refine At.s rfl rfl (Ox.build (cells := #[_, _]) rfl Lf rfl (bq rfl rfl rfl rfl (bq rfl rfl rfl rfl bD)) rfl (.put rfl) ?_)
 obtain ⟨LY, aun, hM⟩ := aj hM
 refine At.cv ahr (ayY tD.1 (⟨1, 2⟩ : cF) hG ZT ZU ZV aun) ?_
 rintro _ aHH _ ⟨mq, rfl, aQZ, aQ0, aQ1, aMQ, aMR, aMS, rfl⟩
 replace hG := hG.mono mq
 replace bP := bP.mono mq
 replace bQ := bQ.mono mq
 replace bR := bR.mono mq
 refine vs 4 ?_
 refine nx fe ?_
 refine lN [_, _, _, _, _, _] 0 6 bp z1 ?_
 refine At.s rfl rfl (Ox.build (cells := #[_, _]) rfl Lf rfl (bq rfl rfl rfl rfl bD) rfl (.put rfl) ?_)
 obtain ⟨DE, auo, hM⟩ := aj hM
 refine At.cv NZ (Ty bZ (⟨0, 1⟩ : cF) bP bQ bR auo) ?_
 rintro _ aHI _ ⟨mw, rfl, aQ2, aQ3, aQ4, aup, auq, aur, rfl⟩
 replace hG := hG.mono mw
 replace bP := bP.mono mw
 replace bQ := bQ.mono mw
 replace bR := bR.mono mw
 refine At.s rfl rfl (Ox.build (cells := #[_, _]) rfl Lf rfl (bq rfl rfl rfl rfl bD) rfl (.put rfl) ?_)
 obtain ⟨rm, aus, hM⟩ := aj hM
 refine At.cv NZ (Ty DE (⟨0, 2⟩ : cF) aup auq aur aus) ?_
 rintro _ aHJ _ ⟨mz, rfl, acG, acH, acI, ZW, ZX, ZY, rfl⟩
 replace hG := hG.mono mz
 replace bP := bP.mono mz
 replace bQ := bQ.mono mz
 replace bR := bR.mono mz
 refine At.s rfl rfl (Ox.alloc (cs := #[iv 0, iv 0, iv 0, .slice none 0 0, .slice none 0 0, .slice none 0 0]) rfl nY rfl λ WC _ _ => ⟨_, (.put rfl), ?_⟩)
 refine At.s rfl rfl (Ox.bG (cs' := #[_, _, _, _, _, _]) rfl rfl rfl bp rfl (aq rfl (aq rfl (aq rfl (aq ZW.one (aq ZX.one (aq ZY.one aW)))))) .here rfl rfl rfl (.refl _) ?_)
 refine nx fe ?_
 refine lN [_, _, _, _, _, _] 0 6 bp z0 ?_
 obtain ⟨Bg, aut, hM⟩ := aj hM
 refine At.cv ahq (ayX rm hG ZW ZX ZY aut) ?_
 rintro _ aHK _ ⟨mA, rfl, aQ5, Gc, rfl⟩
 replace hG := hG.mono mA
 replace bP := bP.mono mA
 replace bQ := bQ.mono mA
 replace bR := bR.mono mA
 refine vs 5 ?_
 refine es ?_
 refine At.draw (n := 8) (is := [0, 1, 2, 3, 4, 5, 6, 7]) (many ((WC, .cells #[iv rm.aD, iv rm.af.ao, iv rm.af.ax, acG, acH, acI] 28) :: (afL, .cells #[iv tD.1.aD, iv tD.1.af.ao, iv tD.1.af.ax, aCc, aCd, aCe] 28) :: (gN, .cells #[iv bZ.aD, iv bZ.af.ao, iv bZ.af.ax, Dj, Dk, Dl] 28) :: H) [(6, (WC, .cells #[iv rm.aD, iv rm.af.ao, iv rm.af.ax, acG, acH, acI] 28) :: (gN, .cells #[iv bZ.aD, iv bZ.af.ao, iv bZ.af.ax, Dj, Dk, Dl] 28) :: H)]) mixed rfl (by decide +kernel) rfl rfl ?_
 refine ts 0 [2, 3, 4, 5, 6, 7] rfl (aN rfl (bf (su (so (so sr))))) (su (so (so sr))) (λ R' H' hR hS => Ox.ck (vs := [_, _, _, _, _, _]) rfl rfl bp rfl ((aS.box (hS _ z0)).part (j := 0) (n := 6) rfl) rfl (.one rfl) ⟨rfl, rfl, rfl⟩) ?_
 obtain ⟨DF, auu, hM⟩ := aj hM
 refine Any.cv 1 DQ (DU 21  auu) ?_
 rintro _ _ _ ⟨rfl, rfl, rfl⟩
 refine ⟨rr, (bL rfl pp), ?_⟩
 obtain ⟨Bh, auv, hM⟩ := aj hM
 refine Any.cv 2 Vh (Vp bZ 0 DF hG bP bQ bR auv) ?_
 rintro _ aHL _ ⟨nA, rfl, aQ6, aQ7, aQ8, ZZ, Z0, Z1, rfl⟩
 replace hG := hG.mono nA
 replace Gc := Gc.mono nA
 refine ⟨nA, (bL rfl pp), ?_⟩
 refine Any.vs 3 [3, 4, 5] rfl ?_
 refine Any.on 6 rfl rfl (aP.to (Ox.bG (cs' := #[_, _, _, _, _, _]) rfl rfl rfl bp rfl (aq rfl (aq rfl (aq rfl (aq ZZ.one (aq Z0.one (aq Z1.one aW)))))) (.there .here) rfl rfl rfl (.refl _) ⟨rr, (bL rfl (su (sk (so sr)))), ?_⟩))
 refine Any.vs 1 [7] rfl ?_
 refine Any.done ?_
 refine sg fe ?_
 refine lN [_, _, _, _, _, _] 0 6 bp z1 ?_
 obtain ⟨DG, auw, hM⟩ := aj hM
 refine At.cv NY (Tx Bh.1 hG hK ZZ Z0 Z1 auw) ?_
 rintro _ aHM _ ⟨o8, rfl, rfl⟩
 replace Gc := Gc.mono o8
 refine vs 5 ?_
 refine nx aAN ?_
 refine vs 3 ?_
 refine bA hM (λ Rh hM => ?_) (λ Rh hM => ?_)
 ·refine At.kn 308 Rh ?_
  refine vs 4 ?_
  refine bA hM (λ Ri hM => ?_) (λ Ri hM => ?_)
  ·refine At.kn 312 Ri ?_
   refine vs 4 ?_
   refine bA hM (λ Rj hM => ?_) (λ Rj hM => ?_)
   ·refine At.kn 316 Rj ?_
    refine vs 4 ?_
    refine bA hM (λ Rk hM => ?_) (λ Rk hM => ?_)
    ·refine At.kn 320 Rk ?_
     refine vs 4 ?_
     refine bA hM (λ Rl hM => ?_) (λ Rl hM => ?_)
     ·refine At.kn 324 Rl ?_
      refine vs 4 ?_
      refine bA hM (λ Rm hM => ?_) (λ Rm hM => ?_)
      ·refine At.kn 328 Rm ?_
       refine vs 4 ?_
       refine bA hM (λ Rn hM => ?_) (λ Rn hM => ?_)
       ·refine At.kn 332 Rn ?_
        refine vs 4 ?_
        refine bA hM (λ Ro hM => ?_) (λ Ro hM => ?_)
        ·refine At.kn 336 Ro ?_
         refine vs 4 ?_
         refine bA hM (λ Rp hM => ?_) (λ Rp hM => ?_)
         ·refine At.kn 340 Rp ?_
          refine vs 1 ?_
          refine At.s rfl rfl (Ox.buildSlice (cells := #[_]) rfl cW rfl (by decide) en (bq rfl rfl rfl rfl bD) rfl λ aIg _ _ => ⟨_, (.put rfl), ?_⟩)
          obtain ⟨LZ, auz, hM⟩ := aj hM
          refine At.cv BU (CU Bg.1 [0] Gc.rd (bV.lit z0 (aK.le (aK.cons (x := 0) rfl rfl aK.nil) rfl) rfl) auz) ?_
          rintro _ _ _ ⟨rfl, rfl, rfl⟩
          refine vs 2 ?_
          refine bA hM (λ Rq hM => ?_) (λ Rq hM => ?_)
          ·refine At.kn 345 Rq ?_
           refine vs 4 ?_
           refine er ?_
           obtain rfl := aa hM
           exact rt Tryz.func19 (.tmp rfl .nil) (so (so (so (so sr)))) (hk _ _ _ ⟨((((((((((((((((((((((((((((((((((lF.trans jO).trans jP).trans iK).trans iL).trans iM).trans iN).trans ie).trans iq).trans ig).trans ir).trans ij).trans iu).trans iw).trans gR).trans gx).trans jl).trans jo).trans jm).trans jq).trans jn).trans jr).trans js).trans ju).trans jd).trans jQ).trans mg).trans mh).trans mj).trans mq).trans mw).trans mz).trans mA).trans nA).trans o8), rfl, rfl⟩)
          refine At.kn 345 Rq ?_
          refine vs 4 ?_
          refine er ?_
          obtain rfl := aa hM
          exact rt Tryz.func19 (.tmp rfl .nil) (so (so (so (so sr)))) (hk _ _ _ ⟨((((((((((((((((((((((((((((((((((lF.trans jO).trans jP).trans iK).trans iL).trans iM).trans iN).trans ie).trans iq).trans ig).trans ir).trans ij).trans iu).trans iw).trans gR).trans gx).trans jl).trans jo).trans jm).trans jq).trans jn).trans jr).trans js).trans ju).trans jd).trans jQ).trans mg).trans mh).trans mj).trans mq).trans mw).trans mz).trans mA).trans nA).trans o8), rfl, rfl⟩)
         refine At.kn 340 Rp ?_
         refine vs 9 ?_
         refine er ?_
         obtain rfl := aa hM
         exact rt Tryz.func19 (.tmp rfl .nil) (so (so (so sr))) (hk _ _ _ ⟨((((((((((((((((((((((((((((((((((lF.trans jO).trans jP).trans iK).trans iL).trans iM).trans iN).trans ie).trans iq).trans ig).trans ir).trans ij).trans iu).trans iw).trans gR).trans gx).trans jl).trans jo).trans jm).trans jq).trans jn).trans jr).trans js).trans ju).trans jd).trans jQ).trans mg).trans mh).trans mj).trans mq).trans mw).trans mz).trans mA).trans nA).trans o8), rfl, rfl⟩)
        refine At.kn 336 Ro ?_
        refine vs 13 ?_
        refine er ?_
        obtain rfl := aa hM
        exact rt Tryz.func19 (.tmp rfl .nil) (so (so (so sr))) (hk _ _ _ ⟨((((((((((((((((((((((((((((((((((lF.trans jO).trans jP).trans iK).trans iL).trans iM).trans iN).trans ie).trans iq).trans ig).trans ir).trans ij).trans iu).trans iw).trans gR).trans gx).trans jl).trans jo).trans jm).trans jq).trans jn).trans jr).trans js).trans ju).trans jd).trans jQ).trans mg).trans mh).trans mj).trans mq).trans mw).trans mz).trans mA).trans nA).trans o8), rfl, rfl⟩)
       refine At.kn 332 Rn ?_
       refine vs 17 ?_
       refine er ?_
       obtain rfl := aa hM
       exact rt Tryz.func19 (.tmp rfl .nil) (so (so (so sr))) (hk _ _ _ ⟨((((((((((((((((((((((((((((((((((lF.trans jO).trans jP).trans iK).trans iL).trans iM).trans iN).trans ie).trans iq).trans ig).trans ir).trans ij).trans iu).trans iw).trans gR).trans gx).trans jl).trans jo).trans jm).trans jq).trans jn).trans jr).trans js).trans ju).trans jd).trans jQ).trans mg).trans mh).trans mj).trans mq).trans mw).trans mz).trans mA).trans nA).trans o8), rfl, rfl⟩)
      refine At.kn 328 Rm ?_
      refine vs 21 ?_
      refine er ?_
      obtain rfl := aa hM
      exact rt Tryz.func19 (.tmp rfl .nil) (so (so (so sr))) (hk _ _ _ ⟨((((((((((((((((((((((((((((((((((lF.trans jO).trans jP).trans iK).trans iL).trans iM).trans iN).trans ie).trans iq).trans ig).trans ir).trans ij).trans iu).trans iw).trans gR).trans gx).trans jl).trans jo).trans jm).trans jq).trans jn).trans jr).trans js).trans ju).trans jd).trans jQ).trans mg).trans mh).trans mj).trans mq).trans mw).trans mz).trans mA).trans nA).trans o8), rfl, rfl⟩)
     refine At.kn 324 Rl ?_
     refine vs 25 ?_
     refine er ?_
     obtain rfl := aa hM
     exact rt Tryz.func19 (.tmp rfl .nil) (so (so (so sr))) (hk _ _ _ ⟨((((((((((((((((((((((((((((((((((lF.trans jO).trans jP).trans iK).trans iL).trans iM).trans iN).trans ie).trans iq).trans ig).trans ir).trans ij).trans iu).trans iw).trans gR).trans gx).trans jl).trans jo).trans jm).trans jq).trans jn).trans jr).trans js).trans ju).trans jd).trans jQ).trans mg).trans mh).trans mj).trans mq).trans mw).trans mz).trans mA).trans nA).trans o8), rfl, rfl⟩)
    refine At.kn 320 Rk ?_
    refine vs 29 ?_
    refine er ?_
    obtain rfl := aa hM
    exact rt Tryz.func19 (.tmp rfl .nil) (so (so (so sr))) (hk _ _ _ ⟨((((((((((((((((((((((((((((((((((lF.trans jO).trans jP).trans iK).trans iL).trans iM).trans iN).trans ie).trans iq).trans ig).trans ir).trans ij).trans iu).trans iw).trans gR).trans gx).trans jl).trans jo).trans jm).trans jq).trans jn).trans jr).trans js).trans ju).trans jd).trans jQ).trans mg).trans mh).trans mj).trans mq).trans mw).trans mz).trans mA).trans nA).trans o8), rfl, rfl⟩)
   refine At.kn 316 Rj ?_
   refine vs 33 ?_
   refine er ?_
   obtain rfl := aa hM
   exact rt Tryz.func19 (.tmp rfl .nil) (so (so (so sr))) (hk _ _ _ ⟨((((((((((((((((((((((((((((((((((lF.trans jO).trans jP).trans iK).trans iL).trans iM).trans iN).trans ie).trans iq).trans ig).trans ir).trans ij).trans iu).trans iw).trans gR).trans gx).trans jl).trans jo).trans jm).trans jq).trans jn).trans jr).trans js).trans ju).trans jd).trans jQ).trans mg).trans mh).trans mj).trans mq).trans mw).trans mz).trans mA).trans nA).trans o8), rfl, rfl⟩)
  refine At.kn 312 Ri ?_
  refine vs 37 ?_
  refine er ?_
  obtain rfl := aa hM
  exact rt Tryz.func19 (.tmp rfl .nil) (so (so (so sr))) (hk _ _ _ ⟨((((((((((((((((((((((((((((((((((lF.trans jO).trans jP).trans iK).trans iL).trans iM).trans iN).trans ie).trans iq).trans ig).trans ir).trans ij).trans iu).trans iw).trans gR).trans gx).trans jl).trans jo).trans jm).trans jq).trans jn).trans jr).trans js).trans ju).trans jd).trans jQ).trans mg).trans mh).trans mj).trans mq).trans mw).trans mz).trans mA).trans nA).trans o8), rfl, rfl⟩)
 refine At.kn 308 Rh ?_
 refine vs 41 ?_
 refine er ?_
 obtain rfl := aa hM
 exact rt Tryz.func19 (.tmp rfl .nil) (so (so (so sr))) (hk _ _ _ ⟨((((((((((((((((((((((((((((((((((lF.trans jO).trans jP).trans iK).trans iL).trans iM).trans iN).trans ie).trans iq).trans ig).trans ir).trans ij).trans iu).trans iw).trans gR).trans gx).trans jl).trans jo).trans jm).trans jq).trans jn).trans jr).trans js).trans ju).trans jd).trans jQ).trans mg).trans mh).trans mj).trans mq).trans mw).trans mz).trans mA).trans nA).trans o8), rfl, rfl⟩)
theorem rF (x0 : Int) (x1 : Int) (x2 : Int)  {r : Bool} (hM : l5 x0 x1 x2 = some r) : aB ah 58 #[iv x0, iv x1, iv x2] R H (λ v R' H' => R = R' ∧ H = H' ∧ v = .bool r) := by
 unfold l5 at hM
 refine aB.bk Tryz.func58 rfl (n := 15) rfl rfl λ fr cs hk => ?_
 refine sg aQ ?_
 refine vs 1 ?_
 refine nx iG ?_
 refine vs 4 ?_
 refine bA hM (λ zy hM => ?_) (λ zy hM => ?_)
 ·refine At.kn 10 zy ?_
  refine vs 5 ?_
  refine er ?_
  obtain rfl := aa hM
  exact rt Tryz.func58 (.tmp rfl .nil) sr (hk _ _ _ ⟨rfl, rfl, rfl⟩)
 refine At.kn 10 zy ?_
 refine vs 5 ?_
 refine er ?_
 obtain rfl := aa hM
 exact rt Tryz.func58 (.tmp rfl .nil) sr (hk _ _ _ ⟨rfl, rfl, rfl⟩)
theorem aaN (x0 : Reach) (x1 : Int) (x2 : Int)  {r : Bool} (hM : Cs x0 x1 x2 = some r) : aB ah 124 #[.agg #[iv x0.ao, iv x0.ax], iv x1, iv x2] R H (λ v R' H' => R = R' ∧ H = H' ∧ v = .bool r) := by
 unfold Cs at hM
 refine aB.bk Tryz.func124 rfl (n := 24) rfl rfl λ fr cs hk => ?_
 refine sg aR ?_
 refine bx λ Es => ?_
 refine vs 1 ?_
 refine nx abK ?_
 refine vs 2 ?_
 refine ld 0 aV z0 ?_
 refine vs 2 ?_
 refine bA hM (λ mE hM => ?_) (λ mE hM => ?_)
 ·refine At.kn 11 mE ?_
  refine vs 1 ?_
  refine ld 0 aV z0 ?_
  refine vs 1 ?_
  refine ld 1 aV z0 ?_
  refine vs 3 ?_
  refine bA hM (λ mF hM => ?_) (λ mF hM => ?_)
  ·refine At.kn 18 mF ?_
   refine vs 1 ?_
   refine ld 1 aV z0 ?_
   refine vs 4 ?_
   refine er ?_
   obtain rfl := aa hM
   exact rt Tryz.func124 (.tmp rfl .nil) (so sr) (hk _ _ _ ⟨rfl, rfl, rfl⟩)
  refine At.kn 18 mF ?_
  refine vs 6 ?_
  refine er ?_
  obtain rfl := aa hM
  exact rt Tryz.func124 (.tmp rfl .nil) (so sr) (hk _ _ _ ⟨rfl, rfl, rfl⟩)
 refine At.kn 11 mE ?_
 refine vs 13 ?_
 refine er ?_
 obtain rfl := aa hM
 exact rt Tryz.func124 (.tmp rfl .nil) (so sr) (hk _ _ _ ⟨rfl, rfl, rfl⟩)
theorem HX (x0 : (List Int)) (x1 : Int) {v0 : Value} (h0 : bV CZ 1 R H v0 x0) {r : Bool} (hM : sS x0 x1 = some r) : aB ah 47 #[v0, iv x1] R H (λ v R' H' => R = R' ∧ H = H' ∧ v = .bool r) := by
 unfold sS at hM
 refine aB.bk Tryz.func47 rfl (n := 18) rfl rfl λ fr cs hk => ?_
 refine sg aQ ?_
 refine vs 1 ?_
 refine es ?_
 refine sg aQ ?_
 refine vs 1 ?_
 refine er ?_
 refine At.block ?_
 refine At.eR hM (λ (dr : Int) R' H' st' => R = R' ∧ H = H' ∧ aF st' [(0, v0), (1, iv x1), (5, iv dr)]) (λ (jz : Unit) R' H' st' => R = R' ∧ H = H' ∧ aF st' []) 0 rfl ⟨rfl, rfl, ay.sub ⟨rfl, rfl, rfl, trivial⟩⟩ ?_ ?_
 rotate_right
 ·rintro dr VU VD abY ⟨rfl, rfl, Fp⟩ cL hM El vX G3
  refine At.sub Fp ?_
  refine sq ?_
  refine sg bw ?_
  refine vs 2 ?_
  refine lr h0 Tryz.underlying25 ?_
  refine vs 1 ?_
  refine er ?_
  refine sc hM (λ uy hM => ?_) (λ uy hM => ?_)
  ·refine sp ?_
   refine sq ?_
   refine At.block ?_
   refine sg c6 ?_
   refine vs 2 ?_
   obtain ⟨oS, zP, hM⟩ := aj hM
   obtain ⟨af2, az4, _, rfl, O9, Pz⟩ := h0.elem bm zP
   refine At.s rfl rfl (Ox.aX rfl rfl rfl Pz rfl (.put rfl) ?_)
   refine At.ld aV ((O9.sub pp).one (j := 0) rfl) ?_
   refine vs 2 ?_
   refine er ?_
   refine sc hM (λ zE hM => ?_) (λ zE hM => ?_)
   ·refine sg aQ ?_
    refine vs 1 ?_
    refine er ?_
    replace hM := G3 _ (aa hM).symm
    obtain rfl := aa hM
    exact rt Tryz.func47 (.tmp rfl .nil) sr (hk _ _ _ ⟨rfl, rfl, rfl⟩)
   refine sp ?_
   refine At.inBlock ?_
   refine At.rg aT ?_
   refine vs 3 ?_
   refine er ?_
   exact El _ (aa hM).symm _ _ _ ⟨rfl, rfl, ay.sub ⟨rfl, rfl, rfl, trivial⟩⟩
  exact At.exit rfl (vX _ (aa hM).symm _ _ _ ⟨rfl, rfl, ay.sub trivial⟩)
 rintro jz MM Mr Ud ⟨rfl, rfl, zv⟩ hM
 refine At.sub zv ?_
 refine sg aQ ?_
 refine vs 1 ?_
 refine er ?_
 obtain rfl := aa hM
 exact rt Tryz.func47 (.tmp rfl .nil) sr (hk _ _ _ ⟨rfl, rfl, rfl⟩)
theorem axA (x0 : av) (x1 : Int) {aG aI aM : Value} (aE : az bI 5 R aG x0.au) (_ : az CZ 1 R aI x0.Out) (_ : az bB 2 R aM x0.aU) {r : Bool} (hM : Cr x0 x1 = some r) : aB ah 123 #[.agg #[iv x0.aD, iv x0.af.ao, iv x0.af.ax, aG, aI, aM], iv x1] R H (λ v R' H' => R = R' ∧ H = H' ∧ v = .bool r) := by
 unfold Cr at hM
 refine aB.bk Tryz.func123 rfl (n := 11) rfl rfl λ fr cs hk => ?_
 refine sg aR ?_
 refine bx λ kG => ?_
 refine vs 1 ?_
 refine nx fe ?_
 refine vs 2 ?_
 refine ld 3 dc z0 ?_
 refine ls aE Tryz.underlying24 ?_
 refine vs 1 ?_
 obtain ⟨eW, ko, hM⟩ := aj hM
 refine At.cv rD (rF x1 0 (i64 ((x0.au.length : Int) - 1))  ko) ?_
 rintro _ _ _ ⟨rfl, rfl, rfl⟩
 refine vs 1 ?_
 refine er ?_
 obtain rfl := aa hM
 exact rt Tryz.func123 (.tmp rfl .nil) (so sr) (hk _ _ _ ⟨rfl, rfl, rfl⟩)
theorem axR (x0 : av) (x1 : (List Int)) (x2 : Int) {aG aI aM v1 : Value} (aE : az bI 5 R aG x0.au) (_ : az CZ 1 R aI x0.Out) (_ : az bB 2 R aM x0.aU) (h1 : bV CZ 1 R H v1 x1) {r : Bool} (hM : Cw x0 x1 x2 = some r) : aB ah 150 #[.agg #[iv x0.aD, iv x0.af.ao, iv x0.af.ax, aG, aI, aM], v1, iv x2] R H (λ v R' H' => R = R' ∧ H = H' ∧ v = .bool r) := by
 unfold Cw at hM
 refine aB.bk Tryz.func150 rfl (n := 32) rfl rfl λ fr cs hk => ?_
 refine sg aR ?_
 refine bx λ rQ => ?_
 refine vs 1 ?_
 refine es ?_
 refine sg aT ?_
 refine vs 2 ?_
 obtain ⟨pQ, Gi, hM⟩ := aj hM
 refine At.cv HT (HX x1 x2 (h1.sub (su (so sr))) Gi) ?_
 rintro _ _ _ ⟨rfl, rfl, rfl⟩
 refine er ?_
 refine sc hM (λ oo hM => ?_) (λ oo hM => ?_)
 ·refine sg aQ ?_
  refine vs 1 ?_
  refine er ?_
  obtain rfl := aa hM
  exact rt Tryz.func150 (.tmp rfl .nil) (so sr) (hk _ _ _ ⟨rfl, rfl, rfl⟩)
 refine sp ?_
 refine sq ?_
 refine sg aQ ?_
 refine vs 1 ?_
 refine er ?_
 refine At.block ?_
 refine At.eR hM (λ (gU : Int) R' H' st' => R = R' ∧ H' = (rQ, .cells #[iv x0.aD, iv x0.af.ao, iv x0.af.ax, aG, aI, aM] 28) :: H ∧ aF st' [(1, v1), (2, iv x2), (3, .pointer (some ⟨rQ, 0, none⟩)), (7, iv gU)]) (λ (aAd : Unit) R' H' st' => R = R' ∧ H = H' ∧ aF st' []) 0 rfl ⟨rfl, rfl, ay.sub ⟨rfl, rfl, rfl, rfl, trivial⟩⟩ ?_ ?_
 rotate_right
 ·rintro gU VZ H55 aPT ⟨rfl, rfl, ap8⟩ ei hM En ah1 azT
  refine At.sub ap8 ?_
  refine sq ?_
  refine sg cB ?_
  refine vs 2 ?_
  refine ld 3 dc z0 ?_
  refine ls aE Tryz.underlying24 ?_
  refine vs 1 ?_
  refine er ?_
  refine sc hM (λ RH hM => ?_) (λ RH hM => ?_)
  ·refine sp ?_
   refine sq ?_
   refine At.block ?_
   refine sg qR ?_
   refine vs 2 ?_
   obtain ⟨k9, sJ, hM⟩ := aj hM
   refine At.cv HT (HX x1 gU (h1.sub (su (so sr))) sJ) ?_
   rintro _ _ _ ⟨rfl, rfl, rfl⟩
   refine vs 2 ?_
   refine bA hM (λ uB hM => ?_) (λ uB hM => ?_)
   ·refine At.kn 22 uB ?_
    refine vs 1 ?_
    refine ld 3 dc z0 ?_
    refine vs 1 ?_
    obtain ⟨Bn, SK, hM⟩ := aj hM
    obtain ⟨rB, wT, hM⟩ := aj hM
    obtain ⟨aJX, aOz, _, ⟨aRq, avr, rfl⟩, akz, ani⟩ := aE.elem jD SK
    refine At.s rfl rfl (Ox.aX rfl rfl rfl ani rfl (.put rfl) ?_)
    refine vs 1 ?_
    refine At.ld cO (akz.any.one (j := 4) rfl) ?_
    refine vs 1 ?_
    refine At.cv HT (HX Bn.On x2 avr.rd wT) ?_
    rintro _ _ _ ⟨rfl, rfl, rfl⟩
    refine vs 1 ?_
    refine er ?_
    refine sc hM (λ zI hM => ?_) (λ zI hM => ?_)
    ·refine sg aQ ?_
     refine vs 1 ?_
     refine er ?_
     replace hM := azT _ (aa hM).symm
     obtain rfl := aa hM
     exact rt Tryz.func150 (.tmp rfl .nil) (so sr) (hk _ _ _ ⟨rfl, rfl, rfl⟩)
    refine sp ?_
    refine At.inBlock ?_
    refine At.rg aT ?_
    refine vs 3 ?_
    refine er ?_
    exact En _ (aa hM).symm _ _ _ ⟨rfl, rfl, ay.sub ⟨rfl, rfl, rfl, rfl, trivial⟩⟩
   refine At.kn 22 uB ?_
   refine vs 9 ?_
   refine er ?_
   refine At.cond_false rfl ?_
   refine sp ?_
   refine At.inBlock ?_
   refine At.rg aT ?_
   refine vs 3 ?_
   refine er ?_
   exact En _ (aa hM).symm _ _ _ ⟨rfl, rfl, ay.sub ⟨rfl, rfl, rfl, rfl, trivial⟩⟩
  exact At.exit rfl (At.drop (so sr) (ah1 _ (aa hM).symm _ _ _ ⟨rfl, rfl, ay.sub trivial⟩))
 rintro aAd aGm aEq aPU ⟨rfl, rfl, ap9⟩ hM
 refine At.sub ap9 ?_
 refine sg aQ ?_
 refine vs 1 ?_
 refine er ?_
 obtain rfl := aa hM
 exact rt Tryz.func150 (.tmp rfl .nil) sr (hk _ _ _ ⟨rfl, rfl, rfl⟩)
theorem axC (x0 : av) (x1 : (List Int)) (x2 : (List Int)) {aG aI aM v1 v2 : Value} (aE : az bI 5 R aG x0.au) (aJ : az CZ 1 R aI x0.Out) (aL : az bB 2 R aM x0.aU) (h1 : bV CZ 1 R H v1 x1) (h2 : bV CZ 1 R H v2 x2) {r : Int} (hM : GG x0 x1 x2 = some r) : aB ah 126 #[.agg #[iv x0.aD, iv x0.af.ao, iv x0.af.ax, aG, aI, aM], v1, v2] R H (λ v R' H' => R = R' ∧ H = H' ∧ v = iv r) := by
 unfold GG at hM
 refine aB.bk Tryz.func126 rfl (n := 46) rfl rfl λ fr cs hk => ?_
 refine sg aR ?_
 refine bx λ IW => ?_
 refine vs 1 ?_
 refine nx bw ?_
 refine At.s rfl rfl (Ox.buildSlice (cells := #[]) rfl cW rfl (by decide) M9 bD rfl λ b88 _ _ => ⟨_, (.put rfl), ?_⟩)
 refine vs 1 ?_
 obtain ⟨x89, avy, hM⟩ := aj hM
 refine At.s rfl rfl (Ox.append (K := CZ) (λ X => X ++ ((IW, _) :: H)) rfl rfl rfl iZ Tryz.underlying25 (by simp) .id (bg.lit (aK.le aK.nil rfl) rfl) (h1.sub (su (so (so sr)))).arg avy rfl λ aCK aeq aoQ => ⟨_, (.put rfl), ?_⟩)
 refine vs 1 ?_
 refine es ?_
 refine sg aQ ?_
 refine vs 1 ?_
 refine er ?_
 refine At.block ?_
 refine At.eR hM (λ (gG : ((List Int) × Int)) R' H' st' => R = R' ∧ ∃ Uo MA, bg CZ 1 3 R' Uo gG.1 MA ∧ H' = MA ++ ((IW, .cells #[iv x0.aD, iv x0.af.ao, iv x0.af.ax, aG, aI, aM] 28) :: H) ∧ aF st' [(2, v2), (3, .pointer (some ⟨IW, 0, none⟩)), (7, Uo), (8, iv gG.2)]) (λ (aAi : Unit) R' H' st' => R = R' ∧ H = H' ∧ aF st' []) 0 rfl ⟨rfl, aCK, aeq, aoQ, rfl, ay.sub ⟨rfl, rfl, rfl, rfl, trivial⟩⟩ ?_ ?_
 rotate_right
 ·rintro gG R90 H90 aQk ⟨rfl, Uo, MA, P3, rfl, aqz⟩ x90 hM aft aib TR
  refine At.sub aqz ?_
  refine sq ?_
  refine sg bw ?_
  refine vs 2 ?_
  refine lr h2 Tryz.underlying25 ?_
  refine vs 1 ?_
  refine er ?_
  refine sc hM (λ FA hM => ?_) (λ FA hM => ?_)
  ·refine sp ?_
   refine sq ?_
   refine At.block ?_
   refine sq ?_
   refine sq ?_
   refine At.dw fe mixed ?_
   refine tN 0 [_, _, _, _, _, _] 0 6 bp (List.mem_append_right _ z0) ?_
   refine Any.vs 2 [1, 2] rfl ?_
   obtain ⟨HE, ate, hM⟩ := aj hM
   obtain ⟨LL, atf, hM⟩ := aj hM
   obtain ⟨aID, aNC, _, rfl, ajD, al2⟩ := h2.elem bm ate
   refine Any.tk 3 rfl pp (λ R' H' hR hS => Ox.aX rfl rfl rfl al2 rfl (.one rfl) ⟨rfl, rfl, rfl⟩) ?_
   refine Any.tk 4 rfl pp (λ R' H' hR hS => Ox.bu rfl rfl aV (((ajD.le hR).sub (λ p h => hS p ((su (aH (so sr))) p h))).one (j := 0) rfl) rfl (.one rfl) ⟨rfl, rfl, rfl⟩) ?_
   refine Any.cv 5 agA (axA x0 HE aE aJ aL atf) ?_
   rintro _ _ _ ⟨rfl, rfl, rfl⟩
   refine kp ?_
   refine Any.vs 1 [6] rfl ?_
   refine Any.done ?_
   refine sc hM (λ FB hM => ?_) (λ FB hM => ?_)
   ·refine sg aQ ?_
    refine vs 1 ?_
    refine er ?_
    replace hM := TR _ (aa hM).symm
    obtain rfl := aa hM
    exact rt Tryz.func126 (.tmp rfl .nil) (aH (so sr)) (hk _ _ _ ⟨rfl, rfl, rfl⟩)
   refine sp ?_
   refine sq ?_
   refine sg c6 ?_
   refine vs 3 ?_
   obtain ⟨gK, Kc, hM⟩ := aj hM
   obtain ⟨gW, Kd, hM⟩ := aj hM
   obtain ⟨afU, azZ, _, rfl, O4, Pt⟩ := h2.elem bm Kc
   refine At.s rfl rfl (Ox.aX rfl rfl rfl Pt rfl (.put rfl) ?_)
   refine At.ld aV ((O4.sub (su (aH (so sr)))).one (j := 0) rfl) ?_
   refine At.cv HT (HX gG.1 gK (P3.rd (λ _ h => (List.mem_append_left _ h))) Kd) ?_
   rintro _ _ _ ⟨rfl, rfl, rfl⟩
   refine er ?_
   refine sc hM (λ QE hM => ?_) (λ QE hM => ?_)
   ·refine sg aQ ?_
    refine vs 1 ?_
    refine er ?_
    replace hM := TR _ (aa hM).symm
    obtain rfl := aa hM
    exact rt Tryz.func126 (.tmp rfl .nil) (aH (so sr)) (hk _ _ _ ⟨rfl, rfl, rfl⟩)
   refine sp ?_
   refine sq ?_
   refine sq ?_
   refine At.dw eK mixed ?_
   refine tN 0 [_, _, _, _, _, _] 0 6 bp (List.mem_append_right _ z0) ?_
   refine Any.vs 3 [1, 2, 3] rfl ?_
   obtain ⟨HF, ath, hM⟩ := aj hM
   obtain ⟨Bv, ZN, hM⟩ := aj hM
   obtain ⟨aIF, aNE, _, rfl, ajF, al4⟩ := h2.elem bm ath
   refine Any.tk 4 rfl pp (λ R' H' hR hS => Ox.aX rfl rfl rfl al4 rfl (.one rfl) ⟨rfl, rfl, rfl⟩) ?_
   refine Any.tk 5 rfl pp (λ R' H' hR hS => Ox.bu rfl rfl aV (((ajF.le hR).sub (λ p h => hS p ((su (aH (so sr))) p h))).one (j := 0) rfl) rfl (.one rfl) ⟨rfl, rfl, rfl⟩) ?_
   refine Any.cv 6 agL (axR x0 gG.1 HF aE aJ aL (P3.rd (λ _ h => (List.mem_append_left _ h))) ZN) ?_
   rintro _ _ _ ⟨rfl, rfl, rfl⟩
   refine kp ?_
   refine Any.vs 1 [7] rfl ?_
   refine Any.done ?_
   refine sc hM (λ zx hM => ?_) (λ zx hM => ?_)
   ·refine sg aQ ?_
    refine vs 1 ?_
    refine er ?_
    replace hM := TR _ (aa hM).symm
    obtain rfl := aa hM
    exact rt Tryz.func126 (.tmp rfl .nil) (aH (so sr)) (hk _ _ _ ⟨rfl, rfl, rfl⟩)
   refine sp ?_
   refine At.rg eK ?_
   refine vs 3 ?_
   obtain ⟨gL, F4, hM⟩ := aj hM
   obtain ⟨LN, atj, hM⟩ := aj hM
   obtain ⟨WJ, abn, _, rfl, E3, E7⟩ := h2.elem bm F4
   refine At.s rfl rfl (Ox.aX rfl rfl rfl E7 rfl (.put rfl) ?_)
   refine At.ld aV ((E3.sub (su (aH (so sr)))).one (j := 0) rfl) ?_
   refine At.s rfl rfl (Ox.buildSlice (cells := #[_]) rfl cW rfl (by decide) en (bq rfl rfl rfl rfl bD) rfl λ afK _ _ => ⟨_, (.put rfl), ?_⟩)
   refine At.s rfl rfl (Ox.append (K := CZ) (λ X => (afK, _) :: X ++ ((IW, _) :: H)) rfl rfl rfl iZ Tryz.underlying25 (by simp) (.cons .id) P3 (dR.lit z0 (aK.le (aK.cons (x := gL) rfl rfl aK.nil) rfl) rfl) atj rfl λ aB0 aea aoB => ⟨_, (.put rfl), ?_⟩)
   refine vs 1 ?_
   refine er ?_
   refine At.inBlock ?_
   refine At.rg aT ?_
   refine vs 3 ?_
   refine er ?_
   exact At.drop (so sr) (aft _ (aa hM).symm _ _ _ ⟨rfl, aB0, aea, aoB, rfl, ay.sub ⟨rfl, rfl, rfl, rfl, trivial⟩⟩)
  exact At.exit rfl (At.drop (aH (so sr)) (aib _ (aa hM).symm _ _ _ ⟨rfl, rfl, ay.sub trivial⟩))
 rintro aAi aGz aEF aQl ⟨rfl, rfl, aqA⟩ hM
 refine At.sub aqA ?_
 refine sg aQ ?_
 refine vs 1 ?_
 refine er ?_
 obtain rfl := aa hM
 exact rt Tryz.func126 (.tmp rfl .nil) sr (hk _ _ _ ⟨rfl, rfl, rfl⟩)
theorem ay9 (x0 : (List Int)) (x1 : Int) {v0 : Value} (h0 : bV CZ 1 R H v0 x0) {r : Int} (hM : GR x0 x1 = some r) : aB ah 66 #[v0, iv x1] R H (λ v R' H' => R = R' ∧ H = H' ∧ v = iv r) := by
 unfold GR at hM
 refine aB.bk Tryz.func66 rfl (n := 34) rfl rfl λ fr cs hk => ?_
 refine sg aQ ?_
 refine vs 1 ?_
 refine es ?_
 refine sg aQ ?_
 refine vs 1 ?_
 refine er ?_
 refine At.block ?_
 refine At.eR hM (λ (s6 : Int) R' H' st' => R = R' ∧ H = H' ∧ aF st' [(0, v0), (1, iv x1), (5, iv s6)]) (λ (aAe : Unit) R' H' st' => R = R' ∧ H = H' ∧ aF st' []) 0 rfl ⟨rfl, rfl, ay.sub ⟨rfl, rfl, rfl, trivial⟩⟩ ?_ ?_
 rotate_right
 ·rintro s6 R57 H57 aPV ⟨rfl, rfl, aqa⟩ dH hM Wq ah2 abh
  refine At.sub aqa ?_
  refine sq ?_
  refine sg bw ?_
  refine vs 2 ?_
  refine lr h0 Tryz.underlying25 ?_
  refine vs 1 ?_
  refine er ?_
  refine sc hM (λ ar5 hM => ?_) (λ ar5 hM => ?_)
  ·refine sp ?_
   refine sq ?_
   refine At.block ?_
   refine sq ?_
   refine sg eK ?_
   refine vs 2 ?_
   obtain ⟨Va, avx, hM⟩ := aj hM
   obtain ⟨yu, Kj, hM⟩ := aj hM
   obtain ⟨aJY, aOA, _, rfl, akA, anj⟩ := h0.elem bm avx
   refine At.s rfl rfl (Ox.aX rfl rfl rfl anj rfl (.put rfl) ?_)
   refine At.ld aV ((akA.sub pp).one (j := 0) rfl) ?_
   refine vs 2 ?_
   refine At.cv rD (rF Va 0 (i64 (x1 - 1))  Kj) ?_
   rintro _ _ _ ⟨rfl, rfl, rfl⟩
   refine vs 1 ?_
   refine er ?_
   refine sc hM (λ ar7 hM => ?_) (λ ar7 hM => ?_)
   ·refine sg aQ ?_
    refine vs 1 ?_
    refine er ?_
    replace hM := abh _ (aa hM).symm
    obtain rfl := aa hM
    exact rt Tryz.func66 (.tmp rfl .nil) sr (hk _ _ _ ⟨rfl, rfl, rfl⟩)
   refine sp ?_
   refine sq ?_
   refine At.dw qR mixed ?_
   refine Any.vs 3 [0, 1, 2] rfl ?_
   refine bA hM (λ wG hM => ?_) (λ wG hM => ?_)
   ·refine Any.known (t := 22) rfl wG ?_
    refine Any.vs 2 [3, 4] rfl ?_
    obtain ⟨oU, Ci, hM⟩ := aj hM
    obtain ⟨fc, Kk, hM⟩ := aj hM
    obtain ⟨af9, az9, _, rfl, y9, PG⟩ := h0.elem bm Ci
    refine Any.tk 5 rfl pp (λ R' H' hR hS => Ox.aX rfl rfl rfl PG rfl (.one rfl) ⟨rfl, rfl, rfl⟩) ?_
    refine Any.tk 6 rfl pp (λ R' H' hR hS => Ox.bu rfl rfl aV (((y9.le hR).sub (λ p h => hS p (pp p h))).one (j := 0) rfl) rfl (.one rfl) ⟨rfl, rfl, rfl⟩) ?_
    refine Any.vs 3 [7, 8, 9] rfl ?_
    obtain ⟨aJ5, aOF, _, rfl, akF, anq⟩ := h0.elem bm Kk
    refine Any.tk 10 rfl pp (λ R' H' hR hS => Ox.aX rfl rfl rfl anq rfl (.one rfl) ⟨rfl, rfl, rfl⟩) ?_
    refine Any.tk 11 rfl pp (λ R' H' hR hS => Ox.bu rfl rfl aV (((akF.le hR).sub (λ p h => hS p (pp p h))).one (j := 0) rfl) rfl (.one rfl) ⟨rfl, rfl, rfl⟩) ?_
    refine Any.vs 2 [12, 13] rfl ?_
    refine Any.done ?_
    refine sc hM (λ zJ hM => ?_) (λ zJ hM => ?_)
    ·refine sg aQ ?_
     refine vs 1 ?_
     refine er ?_
     replace hM := abh _ (aa hM).symm
     obtain rfl := aa hM
     exact rt Tryz.func66 (.tmp rfl .nil) sr (hk _ _ _ ⟨rfl, rfl, rfl⟩)
    refine sp ?_
    refine At.inBlock ?_
    refine At.rg aT ?_
    refine vs 3 ?_
    refine er ?_
    exact Wq _ (aa hM).symm _ _ _ ⟨rfl, rfl, ay.sub ⟨rfl, rfl, rfl, trivial⟩⟩
   refine Any.known (t := 22) rfl wG ?_
   refine Any.vs 11 [3, 4, 5, 6, 7, 8, 9, 10, 11, 12, 13] rfl ?_
   refine Any.done ?_
   refine At.cond_false rfl ?_
   refine sp ?_
   refine At.inBlock ?_
   refine At.rg aT ?_
   refine vs 3 ?_
   refine er ?_
   exact Wq _ (aa hM).symm _ _ _ ⟨rfl, rfl, ay.sub ⟨rfl, rfl, rfl, trivial⟩⟩
  exact At.exit rfl (ah2 _ (aa hM).symm _ _ _ ⟨rfl, rfl, ay.sub trivial⟩)
 rintro aAe aGn aEs aPW ⟨rfl, rfl, aqb⟩ hM
 refine At.sub aqb ?_
 refine sg aQ ?_
 refine vs 1 ?_
 refine er ?_
 obtain rfl := aa hM
 exact rt Tryz.func66 (.tmp rfl .nil) sr (hk _ _ _ ⟨rfl, rfl, rfl⟩)
theorem aaV (x0 : Int)  {r : Bool} (hM : An x0 = some r) : aB ah 172 #[.int .u8 x0] R H (λ v R' H' => R = R' ∧ H = H' ∧ v = .bool r) := by
 unfold An at hM
 refine aB.bk Tryz.func172 rfl (n := 6) rfl rfl λ fr cs hk => ?_
 refine sg aQ ?_
 refine vs 1 ?_
 refine nx bw ?_
 refine vs 1 ?_
 refine At.s rfl rfl (Ox.qa rfl rfl Tryz.underlying5 Tryz.underlying3 rfl (.put rfl) ?_)
 obtain ⟨cy, eN, hM⟩ := aj hM
 refine At.cv rD (rF (i64 x0) 97 122  eN) ?_
 rintro _ _ _ ⟨rfl, rfl, rfl⟩
 refine vs 1 ?_
 refine er ?_
 obtain rfl := aa hM
 exact rt Tryz.func172 (.tmp rfl .nil) sr (hk _ _ _ ⟨rfl, rfl, rfl⟩)
end
end Go.Proofs.YtabamagholjdcaaGreatDoor
