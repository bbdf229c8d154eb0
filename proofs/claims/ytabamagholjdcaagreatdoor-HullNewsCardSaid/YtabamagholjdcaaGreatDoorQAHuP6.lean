/- Walks, part 6: each function computes its model. -/
import Derived.Test.YtabamagholjdcaaGreatDoorQAHuP5
namespace Go.Proofs.YtabamagholjdcaaGreatDoor
open Go.Lg Go.Proofs
set_option maxRecDepth 100000
set_option maxHeartbeats 4000000
section
variable {B : Base} {main : Bool} {ag : Jd Tryz.prog B main} {R : aI} {H : au}
theorem aB1 (x0 : aq) (x1 : aq) {aC aD aH jM iH jN : Value} (ay : aj bm 5 R aC x0.az) (aB : aj CZ 1 R aD x0.Out) (aF : aj bh 2 R aH x0.aO) (l5 : aj bm 5 R jM x1.az) (k6 : aj CZ 1 R iH x1.Out) (l6 : aj bh 2 R jN x1.aO) {r : Bool} (hM : AW x0 x1 = some r) : aJ ag 37 #[.agg #[iv x0.aE, iv x0.aa.an, iv x0.aa.ax, aC, aD, aH], .agg #[iv x1.aE, iv x1.aa.an, iv x1.aa.ax, jM, iH, jN]] R H (λ v R' H' => R = R' ∧ H = H' ∧ v = .bool r) := by
 unfold AW at hM
 refine aJ.aX Tryz.func37 rfl (n := 109) rfl rfl λ fr cs hk => ?_
 refine sg aS ?_
 refine bx λ qi => ?_
 refine bx λ ob => ?_
 refine vs 1 ?_
 refine es ?_
 refine sq ?_
 refine At.gR hM (λ (L1 : Bool) R' H' st' => R = R' ∧ H' = (ob, .cells #[iv x1.aE, iv x1.aa.an, iv x1.aa.ax, jM, iH, jN] 28) :: (qi, .cells #[iv x0.aE, iv x0.aa.an, iv x0.aa.ax, aC, aD, aH] 28) :: H ∧ aK st' [(2, .pointer (some ⟨qi, 0, none⟩)), (3, .pointer (some ⟨ob, 0, none⟩)), (46, .bool L1)])  ?_ ?_
 rotate_right
 ·intro iL hM Fe
  refine At.rg azh ?_
  refine vs 1 ?_
  refine ld 0 bg z1 ?_
  refine vs 1 ?_
  refine ld 0 bg z0 ?_
  refine vs 2 ?_
  refine bA hM (λ F6 hM => ?_) (λ F6 hM => ?_)
  ·refine At.kn 14 F6 ?_
   refine vs 32 ?_
   refine er ?_
   exact Fe _ (af hM).symm _ _ _ ⟨rfl, rfl, aA.sub ⟨rfl, rfl, rfl, trivial⟩⟩
  refine At.kn 14 F6 ?_
  refine vs 1 ?_
  refine lN [_, _] 1 2 eJ z1 ?_
  refine vs 1 ?_
  refine lN [_, _] 1 2 eJ z0 ?_
  refine At.s rfl rfl (Ox.JP rfl rfl rfl PZ (PN _ _) rfl rfl (.put rfl) ?_)
  refine vs 2 ?_
  refine bA hM (λ yp hM => ?_) (λ yp hM => ?_)
  ·refine At.kn 21 yp ?_
   refine vs 25 ?_
   refine er ?_
   exact Fe _ (af hM).symm _ _ _ ⟨rfl, rfl, aA.sub ⟨rfl, rfl, rfl, trivial⟩⟩
  refine At.kn 21 yp ?_
  refine vs 1 ?_
  refine ld 3 cK z1 ?_
  refine ls ay Tryz.underlying24 ?_
  refine vs 1 ?_
  refine ld 3 cK z0 ?_
  refine ls l5 Tryz.underlying24 ?_
  refine vs 3 ?_
  refine bA hM (λ Nk hM => ?_) (λ Nk hM => ?_)
  ·refine At.kn 30 Nk ?_
   refine vs 16 ?_
   refine er ?_
   exact Fe _ (af hM).symm _ _ _ ⟨rfl, rfl, aA.sub ⟨rfl, rfl, rfl, trivial⟩⟩
  refine At.kn 30 Nk ?_
  refine vs 1 ?_
  refine ld 5 eu z1 ?_
  refine ls aF Tryz.underlying26 ?_
  refine vs 1 ?_
  refine ld 5 eu z0 ?_
  refine ls l6 Tryz.underlying26 ?_
  refine vs 3 ?_
  refine bA hM (λ RV hM => ?_) (λ RV hM => ?_)
  ·refine At.kn 39 RV ?_
   refine vs 7 ?_
   refine er ?_
   exact Fe _ (af hM).symm _ _ _ ⟨rfl, rfl, aA.sub ⟨rfl, rfl, rfl, trivial⟩⟩
  refine At.kn 39 RV ?_
  refine vs 1 ?_
  refine ld 4 bL z1 ?_
  refine vs 1 ?_
  refine ld 4 bL z0 ?_
  obtain ⟨N2, asY, hM⟩ := ao hM
  refine At.cv JY (Le x0.Out x1.Out aB.rd k6.rd asY) ?_
  rintro _ _ _ ⟨rfl, rfl, rfl⟩
  refine vs 2 ?_
  refine er ?_
  exact Fe _ (af hM).symm _ _ _ ⟨rfl, rfl, aA.sub ⟨rfl, rfl, rfl, trivial⟩⟩
 rintro L1 aHj aFv aPl ⟨rfl, rfl, ars⟩ hM
 refine At.sub ars ?_
 refine sc hM (λ RX hM => ?_) (λ RX hM => ?_)
 ·refine sg aL ?_
  refine vs 1 ?_
  refine er ?_
  obtain rfl := af hM
  exact rt Tryz.func37 (.tmp rfl .nil) (so (so sr)) (hk _ _ _ ⟨rfl, rfl, rfl⟩)
 refine sp ?_
 refine sq ?_
 refine sg aL ?_
 refine vs 1 ?_
 refine er ?_
 refine At.block ?_
 refine At.fh hM (λ (xU : Int) R' H' st' => R = R' ∧ H' = (ob, .cells #[iv x1.aE, iv x1.aa.an, iv x1.aa.ax, jM, iH, jN] 28) :: (qi, .cells #[iv x0.aE, iv x0.aa.an, iv x0.aa.ax, aC, aD, aH] 28) :: H ∧ aK st' [(2, .pointer (some ⟨qi, 0, none⟩)), (3, .pointer (some ⟨ob, 0, none⟩)), (5, iv xU)]) (λ (ab1 : Unit) R' H' st' => R = R' ∧ H' = (ob, .cells #[iv x1.aE, iv x1.aa.an, iv x1.aa.ax, jM, iH, jN] 28) :: (qi, .cells #[iv x0.aE, iv x0.aa.an, iv x0.aa.ax, aC, aD, aH] 28) :: H ∧ aK st' [(2, .pointer (some ⟨qi, 0, none⟩)), (3, .pointer (some ⟨ob, 0, none⟩))]) 0 rfl ⟨rfl, rfl, aA.sub ⟨rfl, rfl, rfl, trivial⟩⟩ ?_ ?_
 rotate_right
 ·rintro xU aF7 aEb aNE ⟨rfl, rfl, apI⟩ Ve hM agU ajc Lt
  refine At.sub apI ?_
  refine sq ?_
  refine sg bT ?_
  refine vs 2 ?_
  refine ld 3 cK z1 ?_
  refine ls ay Tryz.underlying24 ?_
  refine vs 1 ?_
  refine er ?_
  refine sc hM (λ F7 hM => ?_) (λ F7 hM => ?_)
  ·refine sp ?_
   refine sq ?_
   refine At.block ?_
   refine sq ?_
   obtain ⟨kN, S5, hM⟩ := ao hM
   obtain ⟨kO, S6, hM⟩ := ao hM
   refine At.cut (λ R' H' st' => R = R' ∧ ∃ (kX : Nat) (ze : Nat) (Du : Value) (Dv : Value), aj CZ 1 R' Du kN.On ∧ aj CZ 1 R' Dv kO.On ∧ H' = (ze, .cells #[.string kO.Name, iv kO.dz, iv kO.Weight.an, iv kO.Weight.ax, Dv] 58) :: (kX, .cells #[.string kN.Name, iv kN.dz, iv kN.Weight.an, iv kN.Weight.ax, Du] 58) :: (ob, .cells #[iv x1.aE, iv x1.aa.an, iv x1.aa.ax, jM, iH, jN] 28) :: (qi, .cells #[iv x0.aE, iv x0.aa.an, iv x0.aa.ax, aC, aD, aH] 28) :: H ∧ aK st' [(2, .pointer (some ⟨qi, 0, none⟩)), (3, .pointer (some ⟨ob, 0, none⟩)), (5, iv xU), (6, .pointer (some ⟨kX, 0, none⟩)), (7, .pointer (some ⟨ze, 0, none⟩))]) ?_ ?_
   ·rintro aHk aFw aPn ⟨rfl, kX, ze, Du, Dv, Cx, Cy, rfl, aru⟩
    refine At.sub aru ?_
    refine sg ack ?_
    refine vs 1 ?_
    refine ld 0 s6 z1 ?_
    refine vs 1 ?_
    refine ld 0 s6 z0 ?_
    refine At.s rfl rfl (Ox.Pg rfl rfl rfl rfl rfl (.put rfl) ?_)
    refine vs 1 ?_
    refine bA hM (λ Cw hM => ?_) (λ Cw hM => ?_)
    ·refine At.kn 69 Cw ?_
     refine vs 21 ?_
     refine er ?_
     refine At.cond_true rfl ?_
     refine sg aL ?_
     refine vs 1 ?_
     refine er ?_
     replace hM := Lt _ (af hM).symm
     obtain rfl := af hM
     exact rt Tryz.func37 (.tmp rfl .nil) (so (so (so (so sr)))) (hk _ _ _ ⟨rfl, rfl, rfl⟩)
    refine At.kn 69 Cw ?_
    refine vs 1 ?_
    refine ld 1 bg z1 ?_
    refine vs 1 ?_
    refine ld 1 bg z0 ?_
    refine vs 3 ?_
    refine bA hM (λ F8 hM => ?_) (λ F8 hM => ?_)
    ·refine At.kn 76 F8 ?_
     refine vs 14 ?_
     refine er ?_
     refine At.cond_true rfl ?_
     refine sg aL ?_
     refine vs 1 ?_
     refine er ?_
     replace hM := Lt _ (af hM).symm
     obtain rfl := af hM
     exact rt Tryz.func37 (.tmp rfl .nil) (so (so (so (so sr)))) (hk _ _ _ ⟨rfl, rfl, rfl⟩)
    refine At.kn 76 F8 ?_
    refine vs 1 ?_
    refine lN [_, _] 2 2 eJ z1 ?_
    refine vs 1 ?_
    refine lN [_, _] 2 2 eJ z0 ?_
    refine At.s rfl rfl (Ox.JP rfl rfl rfl PZ (PN _ _) rfl rfl (.put rfl) ?_)
    refine vs 2 ?_
    refine bA hM (λ R7 hM => ?_) (λ R7 hM => ?_)
    ·refine At.kn 83 R7 ?_
     refine vs 7 ?_
     refine er ?_
     refine At.cond_true rfl ?_
     refine sg aL ?_
     refine vs 1 ?_
     refine er ?_
     replace hM := Lt _ (af hM).symm
     obtain rfl := af hM
     exact rt Tryz.func37 (.tmp rfl .nil) (so (so (so (so sr)))) (hk _ _ _ ⟨rfl, rfl, rfl⟩)
    refine At.kn 83 R7 ?_
    refine vs 1 ?_
    refine ld 4 bL z1 ?_
    refine vs 1 ?_
    refine ld 4 bL z0 ?_
    obtain ⟨adt, as8, hM⟩ := ao hM
    refine At.cv JY (Le kN.On kO.On Cx.rd Cy.rd as8) ?_
    rintro _ _ _ ⟨rfl, rfl, rfl⟩
    refine vs 2 ?_
    refine er ?_
    refine sc hM (λ F9 hM => ?_) (λ F9 hM => ?_)
    ·refine sg aL ?_
     refine vs 1 ?_
     refine er ?_
     replace hM := Lt _ (af hM).symm
     obtain rfl := af hM
     exact rt Tryz.func37 (.tmp rfl .nil) (so (so (so (so sr)))) (hk _ _ _ ⟨rfl, rfl, rfl⟩)
    refine sp ?_
    refine At.inBlock ?_
    refine At.rg aS ?_
    refine vs 3 ?_
    refine er ?_
    exact At.drop (so (so sr)) (agU _ (af hM).symm _ _ _ ⟨rfl, rfl, aA.sub ⟨rfl, rfl, rfl, trivial⟩⟩)
   intro ZP
   refine At.dw El mixed ?_
   refine Any.vs 1 [0] rfl ?_
   refine tl 1 3 cK z1 ?_
   refine Any.vs 1 [2] rfl ?_
   obtain ⟨ahN, ayt, _, ⟨Du, Cx, rfl⟩, QD, QZ⟩ := ay.elem gN S5
   refine Any.tk 3 rfl pp (λ R' H' hR hS => Ox.bq rfl rfl rfl QZ rfl (.one rfl) ⟨rfl, rfl, rfl⟩) ?_
   refine Any.tk 4 rfl pp (λ R' H' hR hS => Ox.bP (vs := [_, _, _, _, _]) rfl rfl ko rfl ((QD.up hR).part (j := 0) (n := 5) rfl) rfl (.one rfl) ⟨rfl, rfl, rfl⟩) ?_
   refine Any.vs 1 [5] rfl ?_
   refine tl 6 3 cK z0 ?_
   refine Any.vs 1 [7] rfl ?_
   obtain ⟨aJp, aMv, _, ⟨Dv, Cy, rfl⟩, alq, ane⟩ := l5.elem gN S6
   refine Any.tk 8 rfl pp (λ R' H' hR hS => Ox.bq rfl rfl rfl ane rfl (.one rfl) ⟨rfl, rfl, rfl⟩) ?_
   refine Any.tk 9 rfl pp (λ R' H' hR hS => Ox.bP (vs := [_, _, _, _, _]) rfl rfl ko rfl ((alq.up hR).part (j := 0) (n := 5) rfl) rfl (.one rfl) ⟨rfl, rfl, rfl⟩) ?_
   refine tw 10 11 ?_ ?_
   ·refine  (aR.to (Ox.alloc (cs := #[.string (⟨#[]⟩), iv 0, iv 0, iv 0, .slice none 0 0]) rfl vO rfl λ kX _ _ => ⟨_, (.put rfl), ⟨rr, (ku (so sr)), ?_⟩⟩))
    refine Any.on 11 rfl rfl (aR.to (Ox.alloc (cs := #[.string (⟨#[]⟩), iv 0, iv 0, iv 0, .slice none 0 0]) rfl vO rfl λ ze _ _ => ⟨_, (.put rfl), ⟨rr, (ku (so (so sr))), ?_⟩⟩))
    refine Any.on 12 rfl rfl (aR.to (Ox.bp (cs' := #[_, _, _, _, _]) rfl rfl rfl ko rfl (ak rfl (ak rfl (ak rfl (ak rfl (ak Cx.one aW))))) (.there .here) rfl rfl rfl (.refl _) ⟨rr, (ku (so (so sr))), ?_⟩))
    refine Any.on 13 rfl rfl (aR.to (Ox.bp (cs' := #[_, _, _, _, _]) rfl rfl rfl ko rfl (ak rfl (ak rfl (ak rfl (ak rfl (ak Cy.one aW))))) .here rfl rfl rfl (.refl _) ⟨rr, (ku (so (so sr))), ?_⟩))
    exact Any.done (ZP _ _ _ ⟨rfl, kX, ze, Du, Dv, Cx, Cy, rfl, aA.sub ⟨rfl, rfl, rfl, rfl, rfl, trivial⟩⟩)
   refine  (aR.to (Ox.alloc (cs := #[.string (⟨#[]⟩), iv 0, iv 0, iv 0, .slice none 0 0]) rfl vO rfl λ ze _ _ => ⟨_, (.put rfl), ⟨rr, (ku (so sr)), ?_⟩⟩))
   refine Any.on 10 rfl rfl (aR.to (Ox.alloc (cs := #[.string (⟨#[]⟩), iv 0, iv 0, iv 0, .slice none 0 0]) rfl vO rfl λ kX _ _ => ⟨_, (.put rfl), ⟨rr, (ku (so (so sr))), ?_⟩⟩))
   refine Any.on 12 rfl rfl (aR.to (Ox.bp (cs' := #[_, _, _, _, _]) rfl rfl rfl ko rfl (ak rfl (ak rfl (ak rfl (ak rfl (ak Cx.one aW))))) .here rfl rfl rfl (.refl _) ⟨rr, (ku (so (so sr))), ?_⟩))
   refine Any.on 13 rfl rfl (aR.to (Ox.bp (cs' := #[_, _, _, _, _]) rfl rfl rfl ko rfl (ak rfl (ak rfl (ak rfl (ak rfl (ak Cy.one aW))))) (.there .here) rfl rfl rfl (.refl _) ⟨rr, (ku (so (so sr))), ?_⟩))
   exact Any.done (At.perm (az2 _ _ _) (ZP _ _ _ ⟨rfl, kX, ze, Du, Dv, Cx, Cy, rfl, aA.sub ⟨rfl, rfl, rfl, rfl, rfl, trivial⟩⟩))
  exact At.exit rfl (ajc _ (af hM).symm _ _ _ ⟨rfl, rfl, aA.sub ⟨rfl, rfl, trivial⟩⟩)
 rintro ab1 aF8 aEc aNF ⟨rfl, rfl, apJ⟩ hM
 refine At.sub apJ ?_
 refine sq ?_
 refine sg aL ?_
 refine vs 1 ?_
 refine er ?_
 refine At.block ?_
 refine At.fh hM (λ (A7 : Int) R' H' st' => R = R' ∧ H' = (ob, .cells #[iv x1.aE, iv x1.aa.an, iv x1.aa.ax, jM, iH, jN] 28) :: (qi, .cells #[iv x0.aE, iv x0.aa.an, iv x0.aa.ax, aC, aD, aH] 28) :: H ∧ aK st' [(2, .pointer (some ⟨qi, 0, none⟩)), (3, .pointer (some ⟨ob, 0, none⟩)), (8, iv A7)]) (λ (ab2 : Unit) R' H' st' => R = R' ∧ H = H' ∧ aK st' []) 2 rfl ⟨rfl, rfl, aA.sub ⟨rfl, rfl, rfl, trivial⟩⟩ ?_ ?_
 rotate_right
 ·rintro A7 aGi aEm aNP ⟨rfl, rfl, apT⟩ gQ hM agX ajh ayi
  refine At.sub apT ?_
  refine sq ?_
  refine sg bT ?_
  refine vs 2 ?_
  refine ld 5 eu z1 ?_
  refine ls aF Tryz.underlying26 ?_
  refine vs 1 ?_
  refine er ?_
  refine sc hM (λ aap hM => ?_) (λ aap hM => ?_)
  ·refine sp ?_
   refine sq ?_
   refine At.block ?_
   refine sq ?_
   refine At.dw yO mixed ?_
   refine Any.vs 1 [0] rfl ?_
   refine tl 1 5 eu z1 ?_
   refine Any.vs 1 [2] rfl ?_
   obtain ⟨adv, atk, hM⟩ := ao hM
   obtain ⟨IT, aeM, hM⟩ := ao hM
   obtain ⟨aJt, aMz, _, rfl, alw, ani⟩ := aF.elem vr atk
   refine Any.tk 3 rfl pp (λ R' H' hR hS => Ox.bq rfl rfl rfl ani rfl (.one rfl) ⟨rfl, rfl, rfl⟩) ?_
   refine Any.tk 4 rfl pp (λ R' H' hR hS => Ox.bP (vs := [_, _]) rfl rfl mW rfl ((alw.up hR).part (j := 0) (n := 2) rfl) rfl (.one rfl) ⟨rfl, rfl, rfl⟩) ?_
   refine Any.vs 1 [5] rfl ?_
   refine tl 6 5 eu z0 ?_
   refine Any.vs 1 [7] rfl ?_
   obtain ⟨aJu, aMA, _, rfl, alx, anj⟩ := l6.elem vr aeM
   refine Any.tk 8 rfl pp (λ R' H' hR hS => Ox.bq rfl rfl rfl anj rfl (.one rfl) ⟨rfl, rfl, rfl⟩) ?_
   refine Any.tk 9 rfl pp (λ R' H' hR hS => Ox.bP (vs := [_, _]) rfl rfl mW rfl ((alx.up hR).part (j := 0) (n := 2) rfl) rfl (.one rfl) ⟨rfl, rfl, rfl⟩) ?_
   refine Any.tk 10 rfl pp (λ R' H' hR hS => Ox.JP rfl rfl rfl akk (ai6 _ _) rfl rfl (.one rfl) ⟨rfl, rfl, rfl⟩) ?_
   refine Any.done ?_
   refine sc hM (λ R9 hM => ?_) (λ R9 hM => ?_)
   ·refine sg aL ?_
    refine vs 1 ?_
    refine er ?_
    replace hM := ayi _ (af hM).symm
    obtain rfl := af hM
    exact rt Tryz.func37 (.tmp rfl .nil) (so (so sr)) (hk _ _ _ ⟨rfl, rfl, rfl⟩)
   refine sp ?_
   refine At.inBlock ?_
   refine At.rg aS ?_
   refine vs 3 ?_
   refine er ?_
   exact agX _ (af hM).symm _ _ _ ⟨rfl, rfl, aA.sub ⟨rfl, rfl, rfl, trivial⟩⟩
  exact At.exit rfl (At.drop (so (so sr)) (ajh _ (af hM).symm _ _ _ ⟨rfl, rfl, aA.sub trivial⟩))
 rintro ab2 aGj aEn aNQ ⟨rfl, rfl, apU⟩ hM
 refine At.sub apU ?_
 refine sg aL ?_
 refine vs 1 ?_
 refine er ?_
 obtain rfl := af hM
 exact rt Tryz.func37 (.tmp rfl .nil) sr (hk _ _ _ ⟨rfl, rfl, rfl⟩)
theorem axL (x0 : aq) (x1 : Int) (x2 : Reach) {aC aD aH : Value} (ay : aj bm 5 R aC x0.az) (aB : aj CZ 1 R aD x0.Out) (aF : aj bh 2 R aH x0.aO) {r : aq} (hM : NJ x0 x1 x2 = some r) : aJ ag 46 #[.agg #[iv x0.aE, iv x0.aa.an, iv x0.aa.ax, aC, aD, aH], iv x1, .agg #[iv x2.an, iv x2.ax]] R H (λ v R' H' => aN R R' ∧ H = H' ∧ ∃ dK dL dM, aj bm 5 R' dK r.az ∧ aj CZ 1 R' dL r.Out ∧ aj bh 2 R' dM r.aO ∧ v = .agg #[iv r.aE, iv r.aa.an, iv r.aa.ax, dK, dL, dM]) := by
 unfold NJ at hM
 refine aJ.aX Tryz.func46 rfl (n := 19) rfl rfl λ fr cs hk => ?_
 refine sg aS ?_
 refine bx λ gJ => ?_
 refine bx λ iN => ?_
 refine At.s rfl rfl (Ox.alloc (cs := #[iv 0, iv 0, iv 0, .slice none 0 0, .slice none 0 0, .slice none 0 0]) rfl jP rfl λ gm _ _ => ⟨_, (.put rfl), ?_⟩)
 refine nx dy ?_
 refine At.s rfl rfl (Ox.buildSlice (cells := #[]) rfl Po rfl (by decide) X0 aY rfl λ jW _ _ => ⟨_, (.put rfl), ?_⟩)
 refine vs 1 ?_
 refine ld 3 cK z3 ?_
 obtain ⟨dW, mF, hM⟩ := ao hM
 refine At.s rfl rfl (Ox.append (K := bm) (λ X => X ++ ((gm, _) :: (iN, _) :: (gJ, _) :: H)) rfl rfl rfl XR Tryz.underlying24 (by simp) .id (aZ.lit (aG.le aG.nil rfl) rfl) ay.arg mF rfl λ U7 qd Cr => ⟨_, (.put rfl), ?_⟩)
 refine vs 1 ?_
 refine At.s rfl rfl (Ox.cM (cs' := #[_, _, _, _, _, _]) rfl rfl rfl cK Cr.one (.skip (.there (.there .here))) rfl rfl rfl (.refl _) ?_)
 refine nx dY ?_
 refine vs 1 ?_
 refine ld 3 cK (List.mem_append_right _ z2) ?_
 refine vs 1 ?_
 refine lN [_, _] 0 2 eJ (List.mem_append_right _ z1) ?_
 obtain ⟨fJ, qF, hM⟩ := ao hM
 obtain ⟨aJN, aKM, _, ⟨aAJ, auG, rfl⟩, rfl, aK8, amZ, anB, aLf, avM, asP⟩ := Cr.E5 gN qF
 refine At.s rfl rfl (Ox.bq rfl rfl rfl anB rfl (.put rfl) ?_)
 refine vs 1 ?_
 refine At.s rfl rfl (Ox.HL (K := bm) (k := 5) (e := 58) (i := x1) (x' := (⟨fJ.Name, fJ.dz, ⟨x2.an, x2.ax⟩, fJ.On⟩ : cG)) (pre := [.string fJ.Name, iv fJ.dz]) (mid := [iv fJ.Weight.an, iv fJ.Weight.ax]) (post := [aAJ]) .id rfl rfl rfl rfl acs rfl (ak rfl (ak rfl aW)) amZ rfl rfl rfl avM asP ⟨_, auG, rfl⟩ rfl (.refl _) λ aFL Z8 => ?_)
 refine nx aQ ?_
 refine lN [_, _, _, _, _, _] 0 6 aU (List.mem_append_right _ z2) ?_
 refine At.s rfl rfl (Ox.bp (cs' := #[_, _, _, _, _, _]) rfl rfl rfl aU rfl (ak rfl (ak rfl (ak rfl (ak Z8.one (ak aB.one (ak aF.one aW)))))) (.skip .here) rfl rfl rfl (.refl _) ?_)
 refine er ?_
 refine At.dB (H2 := (gm, _) :: (iN, _) :: (gJ, _) :: H) (λ X => X ++ ((gm, _) :: (iN, _) :: (gJ, _) :: H)) .id rfl Z8 (λ agH Fu QW => ?_)
 replace aB := aB.mono Fu
 replace aF := aF.mono Fu
 obtain rfl := af hM
 exact rt Tryz.func46 (.agg rfl aU rfl (aT.box z0) .nil) (so (so (so sr))) (hk _ _ _ ⟨Fu, rfl, U7, aD, aH, QW, aB, aF, rfl⟩)
theorem abG (x0 : Reach) (x1 : Reach)  {r : Reach} (hM : N1 x0 x1 = some r) : aJ ag 63 #[.agg #[iv x0.an, iv x0.ax], .agg #[iv x1.an, iv x1.ax]] R H (λ v R' H' => R = R' ∧ H = H' ∧ v = .agg #[iv r.an, iv r.ax]) := by
 unfold N1 at hM
 refine aJ.aX Tryz.func63 rfl (n := 16) rfl rfl λ fr cs hk => ?_
 refine sg aS ?_
 refine bx λ BY => ?_
 refine bx λ n9 => ?_
 refine At.s rfl rfl (Ox.alloc (cs := #[iv 0, iv 0]) rfl tK rfl λ zf _ _ => ⟨_, (.put rfl), ?_⟩)
 refine nx oV ?_
 refine vs 1 ?_
 refine ld 0 bg z2 ?_
 refine vs 1 ?_
 refine ld 0 bg z1 ?_
 refine At.s rfl rfl (Ox.max (a := x0.an) (l := [x1.an]) rfl rfl rfl (.put rfl) ?_)
 refine vs 1 ?_
 refine ld 1 bg z2 ?_
 refine vs 1 ?_
 refine ld 1 bg z1 ?_
 refine At.s rfl rfl (Ox.min (a := x0.ax) (l := [x1.ax]) rfl rfl rfl (.put rfl) ?_)
 refine At.s rfl rfl (Ox.build (cells := #[_, _]) rfl HN rfl (bf rfl rfl rfl rfl (bf rfl rfl rfl rfl aY)) rfl (.put rfl) ?_)
 refine At.s rfl rfl (Ox.bp (cs' := #[_, _]) rfl rfl rfl eJ rfl (ak rfl (ak rfl aW)) .here rfl rfl rfl (.refl _) ?_)
 refine er ?_
 obtain rfl := af hM
 exact rt Tryz.func63 (.agg rfl eJ rfl (aT.box z0) .nil) (so (so (so sr))) (hk _ _ _ ⟨rfl, rfl, rfl⟩)
theorem aDL (x0 : aq) (x1 : Int) (x2 : Reach) {aC aD aH : Value} (ay : aj bm 5 R aC x0.az) (aB : aj CZ 1 R aD x0.Out) (aF : aj bh 2 R aH x0.aO) {r : (aq × Int)} (hM : NH x0 x1 x2 = some r) : aJ ag 39 #[.agg #[iv x0.aE, iv x0.aa.an, iv x0.aa.ax, aC, aD, aH], iv x1, .agg #[iv x2.an, iv x2.ax]] R H (λ v R' H' => aN R R' ∧ H = H' ∧ ∃ dK dL dM, aj bm 5 R' dK r.1.az ∧ aj CZ 1 R' dL r.1.Out ∧ aj bh 2 R' dM r.1.aO ∧ v = .tuple #[.agg #[iv r.1.aE, iv r.1.aa.an, iv r.1.aa.ax, dK, dL, dM], iv r.2]) := by
 unfold NH at hM
 refine aJ.aX Tryz.func39 rfl (n := 46) rfl rfl λ fr cs hk => ?_
 refine sg bn ?_
 refine bx λ r6 => ?_
 refine bx λ o8 => ?_
 refine At.s rfl rfl (Ox.alloc (cs := #[iv 0, iv 0, iv 0, .slice none 0 0, .slice none 0 0, .slice none 0 0]) rfl jP rfl λ jB _ _ => ⟨_, (.put rfl), ?_⟩)
 refine vs 1 ?_
 refine es ?_
 refine sg aS ?_
 refine lN [_, _, _, _, _, _] 0 6 aU z2 ?_
 obtain ⟨p6, pC, hM⟩ := ao hM
 refine At.cv zn (AY x0 ay aB aF pC) ?_
 rintro _ _ _ ⟨rfl, rfl, rfl⟩
 refine vs 1 ?_
 refine nx aQ ?_
 refine vs 2 ?_
 refine er ?_
 refine sc hM (λ Ae hM => ?_) (λ Ae hM => ?_)
 ·refine sg bn ?_
  refine At.s rfl rfl (Ox.build (cells := #[_, _, _, _, _, _]) rfl j5 rfl aY rfl (.put rfl) ?_)
  refine vs 1 ?_
  refine At.s rfl rfl (Ox.bp (cs' := #[_, _, _, _, _, _]) rfl rfl rfl aU rfl (ak rfl (ak rfl (ak rfl (ak rfl (ak rfl (ak rfl aW)))))) .here rfl rfl rfl (.refl _) ?_)
  refine vs 1 ?_
  refine er ?_
  obtain rfl := af hM
  exact rt Tryz.func39 (.agg rfl aU rfl (aT.box z0) (.tmp rfl .nil)) (so (so (so sr))) (hk _ _ _ ⟨(rr), rfl, .slice none 0 0, .slice none 0 0, .slice none 0 0, aj.nil, aj.nil, aj.nil, rfl⟩)
 refine sp ?_
 refine sq ?_
 refine sg bn ?_
 refine lN [_, _, _, _, _, _] 0 6 aU z2 ?_
 refine vs 1 ?_
 obtain ⟨mS, Aq, hM⟩ := ao hM
 refine At.cv YM (abx x0 x1 ay aB aF Aq) ?_
 rintro _ _ _ ⟨rfl, rfl, rfl⟩
 refine vs 1 ?_
 refine er ?_
 refine sc hM (λ ot hM => ?_) (λ ot hM => ?_)
 ·refine sg aS ?_
  refine At.s rfl rfl (Ox.build (cells := #[_, _, _, _, _, _]) rfl j5 rfl aY rfl (.put rfl) ?_)
  refine At.s rfl rfl (Ox.bp (cs' := #[_, _, _, _, _, _]) rfl rfl rfl aU rfl (ak rfl (ak rfl (ak rfl (ak rfl (ak rfl (ak rfl aW)))))) .here rfl rfl rfl (.refl _) ?_)
  refine vs 1 ?_
  refine er ?_
  obtain rfl := af hM
  exact rt Tryz.func39 (.agg rfl aU rfl (aT.box z0) (.tmp rfl .nil)) (so (so (so sr))) (hk _ _ _ ⟨(rr), rfl, .slice none 0 0, .slice none 0 0, .slice none 0 0, aj.nil, aj.nil, aj.nil, rfl⟩)
 refine sp ?_
 refine sq ?_
 refine sg aS ?_
 refine lN [_, _] 0 2 eJ z1 ?_
 obtain ⟨fA, kG, hM⟩ := ao hM
 refine At.cv Pz (Ud x2 1 99  kG) ?_
 rintro _ _ _ ⟨rfl, rfl, rfl⟩
 refine vs 1 ?_
 refine er ?_
 refine sc hM (λ asu hM => ?_) (λ asu hM => ?_)
 ·refine sg aS ?_
  refine At.s rfl rfl (Ox.build (cells := #[_, _, _, _, _, _]) rfl j5 rfl aY rfl (.put rfl) ?_)
  refine At.s rfl rfl (Ox.bp (cs' := #[_, _, _, _, _, _]) rfl rfl rfl aU rfl (ak rfl (ak rfl (ak rfl (ak rfl (ak rfl (ak rfl aW)))))) .here rfl rfl rfl (.refl _) ?_)
  refine vs 1 ?_
  refine er ?_
  obtain rfl := af hM
  exact rt Tryz.func39 (.agg rfl aU rfl (aT.box z0) (.tmp rfl .nil)) (so (so (so sr))) (hk _ _ _ ⟨(rr), rfl, .slice none 0 0, .slice none 0 0, .slice none 0 0, aj.nil, aj.nil, aj.nil, rfl⟩)
 refine sp ?_
 refine sq ?_
 obtain ⟨Br, Ty, hM⟩ := ao hM
 obtain ⟨eY, mH, hM⟩ := ao hM
 refine At.cut (λ R' H' st' => R = R' ∧ ∃ (cC : Nat), H' = (cC, .cells #[iv eY.an, iv eY.ax] 23) :: (jB, .cells #[iv 0, iv 0, iv 0, .slice none 0 0, .slice none 0 0, .slice none 0 0] 28) :: (r6, .cells #[iv x0.aE, iv x0.aa.an, iv x0.aa.ax, aC, aD, aH] 28) :: H ∧ aK st' [(1, iv x1), (3, .pointer (some ⟨r6, 0, none⟩)), (6, .pointer (some ⟨jB, 0, none⟩)), (9, .pointer (some ⟨cC, 0, none⟩))]) ?_ ?_
 ·rintro aHu aFG aPx ⟨rfl, cC, rfl, arE⟩
  refine At.sub arE ?_
  refine sq ?_
  refine sg bT ?_
  refine vs 1 ?_
  refine ld 0 bg z0 ?_
  refine vs 1 ?_
  refine ld 1 bg z0 ?_
  refine vs 1 ?_
  refine er ?_
  refine sc hM (λ Gr hM => ?_) (λ Gr hM => ?_)
  ·refine sg aS ?_
   refine At.s rfl rfl (Ox.build (cells := #[_, _, _, _, _, _]) rfl j5 rfl aY rfl (.put rfl) ?_)
   refine At.s rfl rfl (Ox.bp (cs' := #[_, _, _, _, _, _]) rfl rfl rfl aU rfl (ak rfl (ak rfl (ak rfl (ak rfl (ak rfl (ak rfl aW)))))) (.there .here) rfl rfl rfl (.refl _) ?_)
   refine vs 1 ?_
   refine er ?_
   obtain rfl := af hM
   exact rt Tryz.func39 (.agg rfl aU rfl (aT.box z1) (.tmp rfl .nil)) (so (so (so sr))) (hk _ _ _ ⟨(rr), rfl, .slice none 0 0, .slice none 0 0, .slice none 0 0, aj.nil, aj.nil, aj.nil, rfl⟩)
  refine sp ?_
  refine sg gd ?_
  refine lN [_, _, _, _, _, _] 0 6 aU z2 ?_
  refine vs 1 ?_
  refine lN [_, _] 0 2 eJ z0 ?_
  obtain ⟨iX, qJ, hM⟩ := ao hM
  refine At.cv ai0 (axL x0 x1 eY ay aB aF qJ) ?_
  rintro _ Xp _ ⟨pA, rfl, aQG, aQH, aQI, au5, au6, au7, rfl⟩
  obtain ⟨jv, qK, hM⟩ := ao hM
  refine At.cv Pw (Ua iX au5 au6 au7 qK) ?_
  rintro _ agP _ ⟨w5, rfl, aBd, aBe, aBf, aaZ, aa0, aa1, rfl⟩
  refine vs 2 ?_
  refine At.s rfl rfl (Ox.bp (cs' := #[_, _, _, _, _, _]) rfl rfl rfl aU rfl (ak rfl (ak rfl (ak rfl (ak aaZ.one (ak aa0.one (ak aa1.one aW)))))) (.there .here) rfl rfl rfl (.refl _) ?_)
  refine vs 1 ?_
  refine er ?_
  obtain rfl := af hM
  exact rt Tryz.func39 (.agg rfl aU rfl (aT.box z1) (.tmp rfl .nil)) (so (so (so sr))) (hk _ _ _ ⟨(pA.trans w5), rfl, aBd, aBe, aBf, aaZ, aa0, aa1, rfl⟩)
 intro ZS
 refine At.dw mM mixed ?_
 refine Any.vs 1 [0] rfl ?_
 refine tl 1 3 cK z2 ?_
 refine Any.vs 1 [2] rfl ?_
 obtain ⟨aJ6, aM5, _, ⟨aQD, aLP, rfl⟩, al1, anS⟩ := ay.elem gN Ty
 refine Any.tk 3 rfl pp (λ R' H' hR hS => Ox.bq rfl rfl rfl anS rfl (.one rfl) ⟨rfl, rfl, rfl⟩) ?_
 refine Any.vs 1 [4] rfl ?_
 refine Any.tk 5 rfl pp (λ R' H' hR hS => Ox.bP (vs := [_, _]) rfl rfl eJ rfl ((al1.up hR).part (j := 2) (n := 2) rfl) rfl (.one rfl) ⟨rfl, rfl, rfl⟩) ?_
 refine tN 6 [_, _] 0 2 eJ z1 ?_
 refine tw 7 8 ?_ ?_
 ·refine  (Ox.dO rfl rfl rfl rfl YV rfl rfl ((abG Br.Weight x2  mH).mono ?_))
  rintro _ _ _ ⟨rfl, rfl, rfl⟩
  refine ⟨_, (.put rfl), ⟨rr, ka, ?_⟩⟩
  refine Any.on 8 rfl rfl (aR.to (Ox.alloc (cs := #[iv 0, iv 0]) rfl tK rfl λ cC _ _ => ⟨_, (.put rfl), ⟨rr, (ku (so sr)), ?_⟩⟩))
  refine Any.on 9 rfl rfl (aR.to (Ox.bp (cs' := #[_, _]) rfl rfl rfl eJ rfl (ak rfl (ak rfl aW)) .here rfl rfl rfl (.refl _) ⟨rr, (ku (so sr)), ?_⟩))
  exact Any.done (At.drop (sk (sk (so sr))) (ZS _ _ _ ⟨rfl, cC, rfl, aA.sub ⟨rfl, rfl, rfl, rfl, trivial⟩⟩))
 refine  (aR.to (Ox.alloc (cs := #[iv 0, iv 0]) rfl tK rfl λ cC _ _ => ⟨_, (.put rfl), ⟨rr, (ku (so sr)), ?_⟩⟩))
 refine Any.cv 7 YV (abG Br.Weight x2  mH) ?_
 rintro _ _ _ ⟨rfl, rfl, rfl⟩
 refine ⟨rr, (ku (so sr)), ?_⟩
 refine Any.on 9 rfl rfl (aR.to (Ox.bp (cs' := #[_, _]) rfl rfl rfl eJ rfl (ak rfl (ak rfl aW)) .here rfl rfl rfl (.refl _) ⟨rr, (ku (so sr)), ?_⟩))
 exact Any.done (At.drop (sk (sk (so sr))) (ZS _ _ _ ⟨rfl, cC, rfl, aA.sub ⟨rfl, rfl, rfl, rfl, trivial⟩⟩))
theorem aDM (x0 : aq) (x1 : Int) {aC aD aH : Value} (ay : aj bm 5 R aC x0.az) (aB : aj CZ 1 R aD x0.Out) (aF : aj bh 2 R aH x0.aO) {r : (aq × Int)} (hM : NI x0 x1 = some r) : aJ ag 41 #[.agg #[iv x0.aE, iv x0.aa.an, iv x0.aa.ax, aC, aD, aH], iv x1] R H (λ v R' H' => aN R R' ∧ H = H' ∧ ∃ dK dL dM, aj bm 5 R' dK r.1.az ∧ aj CZ 1 R' dL r.1.Out ∧ aj bh 2 R' dM r.1.aO ∧ v = .tuple #[.agg #[iv r.1.aE, iv r.1.aa.an, iv r.1.aa.ax, dK, dL, dM], iv r.2]) := by
 unfold NI at hM
 refine aJ.aX Tryz.func41 rfl (n := 30) rfl rfl λ fr cs hk => ?_
 refine sg aS ?_
 refine bx λ e6 => ?_
 refine At.s rfl rfl (Ox.alloc (cs := #[iv 0, iv 0, iv 0, .slice none 0 0, .slice none 0 0, .slice none 0 0]) rfl jP rfl λ lW _ _ => ⟨_, (.put rfl), ?_⟩)
 refine vs 1 ?_
 refine es ?_
 refine sg aS ?_
 refine lN [_, _, _, _, _, _] 0 6 aU z1 ?_
 obtain ⟨nO, uT, hM⟩ := ao hM
 refine At.cv zn (AY x0 ay aB aF uT) ?_
 rintro _ _ _ ⟨rfl, rfl, rfl⟩
 refine vs 1 ?_
 refine nx aQ ?_
 refine vs 2 ?_
 refine er ?_
 refine sc hM (λ aso hM => ?_) (λ aso hM => ?_)
 ·refine sg bn ?_
  refine At.s rfl rfl (Ox.build (cells := #[_, _, _, _, _, _]) rfl j5 rfl aY rfl (.put rfl) ?_)
  refine vs 1 ?_
  refine At.s rfl rfl (Ox.bp (cs' := #[_, _, _, _, _, _]) rfl rfl rfl aU rfl (ak rfl (ak rfl (ak rfl (ak rfl (ak rfl (ak rfl aW)))))) .here rfl rfl rfl (.refl _) ?_)
  refine vs 1 ?_
  refine er ?_
  obtain rfl := af hM
  exact rt Tryz.func41 (.agg rfl aU rfl (aT.box z0) (.tmp rfl .nil)) (so (so sr)) (hk _ _ _ ⟨(rr), rfl, .slice none 0 0, .slice none 0 0, .slice none 0 0, aj.nil, aj.nil, aj.nil, rfl⟩)
 refine sp ?_
 refine sq ?_
 refine sg dY ?_
 refine lN [_, _, _, _, _, _] 0 6 aU z1 ?_
 refine vs 1 ?_
 refine ld 4 bL z1 ?_
 refine vs 1 ?_
 refine At.s rfl rfl (Ox.buildSlice (cells := #[_]) rfl ck rfl (by decide) cS (bf rfl rfl rfl rfl aY) rfl λ fS _ _ => ⟨_, (.put rfl), ?_⟩)
 obtain ⟨gP, sS, hM⟩ := ao hM
 refine At.cv PA (Ue x0 x0.Out [x1] ay aB aF aB.rd (bC.lit z0 (aG.le (aG.cons (x := x1) rfl rfl aG.nil) rfl) rfl) sS) ?_
 rintro _ _ _ ⟨rfl, rfl, rfl⟩
 refine vs 1 ?_
 refine nx aQ ?_
 refine vs 2 ?_
 refine er ?_
 refine sc hM (λ uL hM => ?_) (λ uL hM => ?_)
 ·refine sg bn ?_
  refine At.s rfl rfl (Ox.build (cells := #[_, _, _, _, _, _]) rfl j5 rfl aY rfl (.put rfl) ?_)
  refine vs 1 ?_
  refine At.s rfl rfl (Ox.bp (cs' := #[_, _, _, _, _, _]) rfl rfl rfl aU rfl (ak rfl (ak rfl (ak rfl (ak rfl (ak rfl (ak rfl aW)))))) (.there .here) rfl rfl rfl (.refl _) ?_)
  refine vs 1 ?_
  refine er ?_
  obtain rfl := af hM
  exact rt Tryz.func41 (.agg rfl aU rfl (aT.box z1) (.tmp rfl .nil)) (so (so (so sr))) (hk _ _ _ ⟨(rr), rfl, .slice none 0 0, .slice none 0 0, .slice none 0 0, aj.nil, aj.nil, aj.nil, rfl⟩)
 refine sp ?_
 refine sg eC ?_
 refine lN [_, _, _, _, _, _] 0 6 aU z2 ?_
 refine vs 1 ?_
 obtain ⟨fc, oC, hM⟩ := ao hM
 refine At.cv YW (abH x0 x1 ay aB aF oC) ?_
 rintro _ EL _ ⟨pz, rfl, adh, adi, adj, KO, KP, KQ, rfl⟩
 obtain ⟨eO, oD, hM⟩ := ao hM
 refine At.cv Pw (Ua fc KO KP KQ oD) ?_
 rintro _ Xm _ ⟨oh, rfl, aAU, aAV, aAW, aaP, aaQ, aaR, rfl⟩
 refine vs 2 ?_
 refine At.s rfl rfl (Ox.bp (cs' := #[_, _, _, _, _, _]) rfl rfl rfl aU rfl (ak rfl (ak rfl (ak rfl (ak aaP.one (ak aaQ.one (ak aaR.one aW)))))) (.there .here) rfl rfl rfl (.refl _) ?_)
 refine vs 1 ?_
 refine er ?_
 obtain rfl := af hM
 exact rt Tryz.func41 (.agg rfl aU rfl (aT.box z1) (.tmp rfl .nil)) (so (so (so sr))) (hk _ _ _ ⟨(pz.trans oh), rfl, aAU, aAV, aAW, aaP, aaQ, aaR, rfl⟩)
theorem aCO (x0 : aq) {aC aD aH : Value} (ay : aj bm 5 R aC x0.az) (aB : aj CZ 1 R aD x0.Out) (aF : aj bh 2 R aH x0.aO) {r : Bool} (hM : Hq x0 = some r) : aJ ag 42 #[.agg #[iv x0.aE, iv x0.aa.an, iv x0.aa.ax, aC, aD, aH]] R H (λ v R' H' => R = R' ∧ H = H' ∧ v = .bool r) := by
 unfold Hq at hM
 refine aJ.aX Tryz.func42 rfl (n := 11) rfl rfl λ fr cs hk => ?_
 refine sg aQ ?_
 refine bx λ n9 => ?_
 refine vs 1 ?_
 refine nx gd ?_
 refine lN [_, _, _, _, _, _] 0 6 aU z0 ?_
 obtain ⟨fQ, mD, hM⟩ := ao hM
 refine At.cv aej (aeT x0 ay aB aF mD) ?_
 rintro _ _ _ ⟨rfl, rfl, rfl⟩
 refine vs 2 ?_
 refine bA hM (λ kE hM => ?_) (λ kE hM => ?_)
 ·refine At.kn 6 kE ?_
  refine lN [_, _, _, _, _, _] 0 6 aU z0 ?_
  obtain ⟨jO, uR, hM⟩ := ao hM
  refine At.cv zn (AY x0 ay aB aF uR) ?_
  rintro _ _ _ ⟨rfl, rfl, rfl⟩
  refine vs 3 ?_
  refine er ?_
  obtain rfl := af hM
  exact rt Tryz.func42 (.tmp rfl .nil) (so sr) (hk _ _ _ ⟨rfl, rfl, rfl⟩)
 refine At.kn 6 kE ?_
 refine vs 5 ?_
 refine er ?_
 obtain rfl := af hM
 exact rt Tryz.func42 (.tmp rfl .nil) (so sr) (hk _ _ _ ⟨rfl, rfl, rfl⟩)
theorem aCP (x0 : (List Int)) (x1 : Int) {v0 : Value} (h0 : bC (CI .u16) 1 R H v0 x0) {r : Int} (hM : Ix x0 x1 = some r) : aJ ag 48 #[v0, iv x1] R H (λ v R' H' => R = R' ∧ H = H' ∧ v = iv r) := by
 unfold Ix at hM
 refine aJ.aX Tryz.func48 rfl (n := 14) rfl rfl λ fr cs hk => ?_
 refine sg aL ?_
 refine vs 1 ?_
 refine es ?_
 refine sg bn ?_
 refine vs 2 ?_
 refine lr h0 Tryz.underlying63 ?_
 refine vs 1 ?_
 refine er ?_
 refine sc hM (λ Gd hM => ?_) (λ Gd hM => ?_)
 ·refine sg dy ?_
  refine vs 2 ?_
  obtain ⟨ig, lp, hM⟩ := ao hM
  obtain ⟨aJF, aML, _, rfl, alI, anu⟩ := h0.elem azy lp
  refine At.s rfl rfl (Ox.bq rfl rfl rfl anu rfl (.put rfl) ?_)
  refine At.ld ayf ((alI.sub pp).one (j := 0) rfl) ?_
  refine At.s rfl rfl (Ox.wm rfl rfl Tryz.underlying157 Tryz.underlying3 rfl (.put rfl) ?_)
  refine vs 1 ?_
  refine er ?_
  obtain rfl := af hM
  exact rt Tryz.func48 (.tmp rfl .nil) sr (hk _ _ _ ⟨rfl, rfl, rfl⟩)
 refine sp ?_
 refine sg aL ?_
 refine vs 1 ?_
 refine er ?_
 obtain rfl := af hM
 exact rt Tryz.func48 (.tmp rfl .nil) sr (hk _ _ _ ⟨rfl, rfl, rfl⟩)
theorem aCQ (x0 : Int) (x1 : Int)  {r : (List Int)} (hM : yG x0 x1 = some r) : aJ ag 49 #[.int .u8 x0, iv x1] R H (λ v R' H' => aN R R' ∧ H = H' ∧ ∃ bU, aj CZ 1 R' bU r ∧ v = bU) := by
 unfold yG at hM
 refine aJ.aX Tryz.func49 rfl (n := 22) rfl rfl λ fr cs hk => ?_
 refine sg aL ?_
 refine vs 1 ?_
 refine nx aL ?_
 refine vs 1 ?_
 refine es ?_
 refine sg aL ?_
 refine vs 1 ?_
 refine er ?_
 refine At.block ?_
 refine At.c8 hM (λ (cu : ((List Int) × Int)) R' H' st' => R = R' ∧ ∃ HV Ey, aZ CZ 1 3 R' HV cu.1 Ey ∧ H' = Ey ++ (H) ∧ aK st' [(0, .int .u8 x0), (1, iv x1), (5, HV), (6, iv cu.2)]) (λ (eU : (List Int)) R' H' st' => R = R' ∧ ∃ Mq Of, aZ CZ 1 3 R' Mq eU Of ∧ H' = Of ++ (H) ∧ aK st' [(5, Mq)]) 0 rfl ⟨rfl, .slice none 0 0, [], aZ.nil, rfl, aA.sub ⟨rfl, rfl, rfl, rfl, trivial⟩⟩ ?_ ?_
 rotate_right
 ·rintro cu OH N8 UQ ⟨rfl, HV, Ey, Rn, rfl, z8⟩ nP hM qe sv
  refine At.sub z8 ?_
  refine sq ?_
  refine sg aS ?_
  refine vs 3 ?_
  refine er ?_
  refine sc hM (λ Gr hM => ?_) (λ Gr hM => ?_)
  ·refine sp ?_
   refine sq ?_
   refine At.block ?_
   refine sg bT ?_
   refine vs 2 ?_
   obtain ⟨iX, qJ, hM⟩ := ao hM
   refine At.s rfl rfl (Ox.shr rfl rfl rfl qJ rfl (.put rfl) ?_)
   obtain ⟨jv, qK, hM⟩ := ao hM
   refine At.s rfl rfl (Ox.bits rfl rfl rfl qK rfl (.put rfl) ?_)
   refine vs 1 ?_
   refine er ?_
   refine sc hM (λ Gs hM => ?_) (λ Gs hM => ?_)
   ·refine At.rg bT ?_
    refine vs 2 ?_
    refine At.s rfl rfl (Ox.buildSlice (cells := #[_]) rfl ck rfl (by decide) cS (bf rfl rfl rfl rfl aY) rfl λ Jz _ _ => ⟨_, (.put rfl), ?_⟩)
    obtain ⟨iJ, qL, hM⟩ := ao hM
    refine At.s rfl rfl (Ox.append (K := CZ) (λ X => (Jz, _) :: X ++ (H)) rfl rfl rfl cR Tryz.underlying25 (by simp) (.cons .id) Rn (cE.lit z0 (aG.le (aG.cons (x := cu.2) rfl rfl aG.nil) rfl) rfl) qL rfl λ MT I9 Cs => ⟨_, (.put rfl), ?_⟩)
    refine vs 1 ?_
    refine er ?_
    refine At.inBlock ?_
    refine At.rg aS ?_
    refine vs 3 ?_
    refine er ?_
    exact At.drop (so sr) (qe _ (af hM).symm _ _ _ ⟨rfl, MT, I9, Cs, rfl, aA.sub ⟨rfl, rfl, rfl, rfl, trivial⟩⟩)
   refine sp ?_
   refine At.inBlock ?_
   refine At.rg aS ?_
   refine vs 3 ?_
   refine er ?_
   exact qe _ (af hM).symm _ _ _ ⟨rfl, HV, Ey, Rn, rfl, aA.sub ⟨rfl, rfl, rfl, rfl, trivial⟩⟩
  exact At.exit rfl (sv _ (af hM).symm _ _ _ ⟨rfl, HV, Ey, Rn, rfl, aA.sub ⟨rfl, trivial⟩⟩)
 rintro eU Ji IV L9 ⟨rfl, Mq, Of, aoN, rfl, uJ⟩ hM
 refine At.sub uJ ?_
 refine sg aQ ?_
 refine vs 2 ?_
 refine er ?_
 refine At.dB (H2 := H) (λ X => X ++ (H)) .id rfl aoN (λ agK Fv QX => ?_)
 obtain rfl := af hM
 exact rt Tryz.func49 (.tmp rfl .nil) sr (hk _ _ _ ⟨Fv, rfl, Mq, QX, rfl⟩)
theorem aB2 (x0 : (List Int)) {v0 : Value} (h0 : bC CZ 1 R H v0 x0) {r : (List Int)} (hM : BK x0 = some r) : aJ ag 51 #[v0] R H (λ v R' H' => aN R R' ∧ H = H' ∧ ∃ bU, aj CZ 1 R' bU r ∧ v = bU) := by
 unfold BK at hM
 refine aJ.aX Tryz.func51 rfl (n := 60) rfl rfl λ fr cs hk => ?_
 refine sg aL ?_
 refine vs 1 ?_
 refine nx aL ?_
 refine vs 1 ?_
 refine es ?_
 refine sg aL ?_
 refine vs 1 ?_
 refine er ?_
 refine At.block ?_
 refine At.c8 hM (λ (hU : ((List Int) × Int)) R' H' st' => R = R' ∧ ∃ x7 kg, aZ CZ 1 3 R' x7 hU.1 kg ∧ H' = kg ++ (H) ∧ aK st' [(0, v0), (3, x7), (4, iv hU.2)]) (λ (LB : (List Int)) R' H' st' => R = R' ∧ ∃ Mi N9, aZ CZ 1 3 R' Mi LB N9 ∧ H' = N9 ++ (H) ∧ aK st' [(3, Mi)]) 0 rfl ⟨rfl, .slice none 0 0, [], aZ.nil, rfl, aA.sub ⟨rfl, rfl, rfl, trivial⟩⟩ ?_ ?_
 rotate_right
 ·rintro hU aF9 aEd aNG ⟨rfl, x7, kg, xb, rfl, apK⟩ BM hM Xz ajd
  refine At.sub apK ?_
  refine sq ?_
  refine sg bn ?_
  refine vs 2 ?_
  refine lr h0 Tryz.underlying25 ?_
  refine vs 1 ?_
  refine er ?_
  refine sc hM (λ arY hM => ?_) (λ arY hM => ?_)
  ·refine sp ?_
   refine sq ?_
   refine At.block ?_
   refine sg aL ?_
   refine vs 1 ?_
   refine es ?_
   refine At.block ?_
   refine At.c8 hM (λ (xV : Int) R' H' st' => R = R' ∧ H' = kg ++ (H) ∧ aK st' [(0, v0), (3, x7), (4, iv hU.2), (5, iv xV)]) (λ (xQ : Int) R' H' st' => R = R' ∧ H' = kg ++ (H) ∧ aK st' [(0, v0), (3, x7), (4, iv hU.2), (5, iv xQ)]) 2 rfl ⟨rfl, rfl, aA.sub ⟨rfl, rfl, rfl, rfl, trivial⟩⟩ ?_ ?_
   rotate_right
   ·rintro xV aGn aEs aNV ⟨rfl, rfl, apZ⟩ aRc hM agZ Y1
    refine At.sub apZ ?_
    refine sq ?_
    refine sq ?_
    refine At.dw BH mixed ?_
    refine Any.vs 2 [0, 1] rfl ?_
    refine Any.tk 2 rfl pp (λ R' H' hR hS => Ox.u0 rfl rfl (xb.mono hR) Tryz.underlying25 rfl (.one rfl) ⟨rfl, rfl, rfl⟩) ?_
    refine Any.vs 2 [3, 4] rfl ?_
    refine bA hM (λ Sa hM => ?_) (λ Sa hM => ?_)
    ·refine Any.known (t := 16) rfl Sa ?_
     refine Any.vs 2 [5, 6] rfl ?_
     obtain ⟨Vi, atE, hM⟩ := ao hM
     obtain ⟨ady, atF, hM⟩ := ao hM
     obtain ⟨aJz, aMF, _, rfl, alC, ano⟩ := (xb.rd (λ _ h => (List.mem_append_left _ h))).elem cL atE
     refine Any.tk 7 rfl pp (λ R' H' hR hS => Ox.bq rfl rfl rfl ano rfl (.one rfl) ⟨rfl, rfl, rfl⟩) ?_
     refine Any.tk 8 rfl pp (λ R' H' hR hS => Ox.bV rfl rfl bg (((alC.le hR).sub (λ p h => hS p (pp p h))).one (j := 0) rfl) rfl (.one rfl) ⟨rfl, rfl, rfl⟩) ?_
     refine Any.vs 2 [9, 10] rfl ?_
     obtain ⟨aJA, aMG, _, rfl, alD, anp⟩ := h0.elem cL atF
     refine Any.tk 11 rfl pp (λ R' H' hR hS => Ox.bq rfl rfl rfl anp rfl (.one rfl) ⟨rfl, rfl, rfl⟩) ?_
     refine Any.tk 12 rfl pp (λ R' H' hR hS => Ox.bV rfl rfl bg (((alD.le hR).sub (λ p h => hS p ((su (aP sr)) p h))).one (j := 0) rfl) rfl (.one rfl) ⟨rfl, rfl, rfl⟩) ?_
     refine Any.vs 2 [13, 14] rfl ?_
     refine Any.done ?_
     refine sc hM (λ arZ hM => ?_) (λ arZ hM => ?_)
     ·refine sp ?_
      refine At.block ?_
      refine At.rg aS ?_
      refine vs 3 ?_
      refine er ?_
      refine At.inBlock ?_
      exact agZ _ (af hM).symm _ _ _ ⟨rfl, rfl, aA.sub ⟨rfl, rfl, rfl, rfl, trivial⟩⟩
     exact At.exit rfl (Y1 _ (af hM).symm _ _ _ ⟨rfl, rfl, aA.sub ⟨rfl, rfl, rfl, rfl, trivial⟩⟩)
    refine Any.known (t := 16) rfl Sa ?_
    refine Any.vs 10 [5, 6, 7, 8, 9, 10, 11, 12, 13, 14] rfl ?_
    refine Any.done ?_
    refine At.cond_false rfl ?_
    exact At.exit rfl (Y1 _ (af hM).symm _ _ _ ⟨rfl, rfl, aA.sub ⟨rfl, rfl, rfl, rfl, trivial⟩⟩)
   rintro xQ aGo aEt aNW ⟨rfl, rfl, ap0⟩ hM
   refine At.sub ap0 ?_
   refine sq ?_
   refine At.gR hM (λ (LF : Bool) R' H' st' => R = R' ∧ H' = kg ++ (H) ∧ aK st' [(0, v0), (3, x7), (4, iv hU.2), (5, iv xQ), (43, .bool LF)])  ?_ ?_
   rotate_right
   ·intro MY hM Y2
    refine At.dw BH mixed ?_
    refine Any.vs 2 [0, 1] rfl ?_
    refine Any.tk 2 rfl pp (λ R' H' hR hS => Ox.u0 rfl rfl (xb.mono hR) Tryz.underlying25 rfl (.one rfl) ⟨rfl, rfl, rfl⟩) ?_
    refine Any.vs 2 [3, 4] rfl ?_
    refine bA hM (λ Sb hM => ?_) (λ Sb hM => ?_)
    ·refine Any.known (t := 33) rfl Sb ?_
     refine Any.vs 10 [5, 6, 7, 8, 9, 10, 11, 12, 13, 14] rfl ?_
     refine Any.done ?_
     exact Y2 _ (af hM).symm _ _ _ ⟨rfl, rfl, aA.sub ⟨rfl, rfl, rfl, rfl, rfl, trivial⟩⟩
    refine Any.known (t := 33) rfl Sb ?_
    refine Any.vs 2 [5, 6] rfl ?_
    obtain ⟨Im, Tb, hM⟩ := ao hM
    obtain ⟨adz, atH, hM⟩ := ao hM
    obtain ⟨aJB, aMH, _, rfl, alE, anq⟩ := (xb.rd (λ _ h => (List.mem_append_left _ h))).elem cL Tb
    refine Any.tk 7 rfl pp (λ R' H' hR hS => Ox.bq rfl rfl rfl anq rfl (.one rfl) ⟨rfl, rfl, rfl⟩) ?_
    refine Any.tk 8 rfl pp (λ R' H' hR hS => Ox.bV rfl rfl bg (((alE.le hR).sub (λ p h => hS p (pp p h))).one (j := 0) rfl) rfl (.one rfl) ⟨rfl, rfl, rfl⟩) ?_
    refine Any.vs 2 [9, 10] rfl ?_
    obtain ⟨aJC, aMI, _, rfl, alF, anr⟩ := h0.elem cL atH
    refine Any.tk 11 rfl pp (λ R' H' hR hS => Ox.bq rfl rfl rfl anr rfl (.one rfl) ⟨rfl, rfl, rfl⟩) ?_
    refine Any.tk 12 rfl pp (λ R' H' hR hS => Ox.bV rfl rfl bg (((alF.le hR).sub (λ p h => hS p ((su (aP sr)) p h))).one (j := 0) rfl) rfl (.one rfl) ⟨rfl, rfl, rfl⟩) ?_
    refine Any.vs 2 [13, 14] rfl ?_
    refine Any.done ?_
    exact Y2 _ (af hM).symm _ _ _ ⟨rfl, rfl, aA.sub ⟨rfl, rfl, rfl, rfl, rfl, trivial⟩⟩
   rintro LF aGs aEx aN0 ⟨rfl, rfl, ap4⟩ hM
   refine At.sub ap4 ?_
   refine sc hM (λ Ga hM => ?_) (λ Ga hM => ?_)
   ·obtain ⟨vL, Tc, hM⟩ := ao hM
    obtain ⟨MZ, Te, hM⟩ := ao hM
    obtain ⟨Io, atI, hM⟩ := ao hM
    obtain ⟨adA, Tf, hM⟩ := ao hM
    obtain ⟨adB, atJ, hM⟩ := ao hM
    obtain ⟨Vj, Ti, hM⟩ := ao hM
    refine At.cut (λ R' H' st' => R = R' ∧ ∃ (tq : Value) (rW : au), aZ CZ 1 3 R' tq Vj rW ∧ H' = rW ++ (H) ∧ aK st' [(0, v0), (3, tq), (4, iv hU.2)]) ?_ ?_
    ·rintro aHl aFx aPo ⟨rfl, tq, rW, zS, rfl, arv⟩
     refine At.sub arv ?_
     refine At.inBlock ?_
     refine At.rg aS ?_
     refine vs 3 ?_
     refine er ?_
     exact Xz _ (af hM).symm _ _ _ ⟨rfl, tq, rW, zS, rfl, aA.sub ⟨rfl, rfl, rfl, trivial⟩⟩
    intro Qv
    refine At.dw aci mixed ?_
    refine Any.vs 2 [1, 2] rfl ?_
    obtain ⟨aPY, Td, aok⟩ := (xb.rd (λ _ h => (List.mem_append_left _ h))).cut cL Tc
    refine Any.tk 3 rfl pp (λ R' H' hR hS => Ox.wM rfl rfl rfl rfl aok rfl (.one rfl) ⟨rfl, rfl, rfl⟩) ?_
    refine Any.vs 2 [5, 6] rfl ?_
    obtain ⟨aJD, aMJ, _, rfl, alG, ans⟩ := h0.elem cL atI
    refine Any.tk 7 rfl pp (λ R' H' hR hS => Ox.bq rfl rfl rfl ans rfl (.one rfl) ⟨rfl, rfl, rfl⟩) ?_
    refine Any.tk 8 rfl pp (λ R' H' hR hS => Ox.bV rfl rfl bg (((alG.le hR).sub (λ p h => hS p ((su (aP sr)) p h))).one (j := 0) rfl) rfl (.one rfl) ⟨rfl, rfl, rfl⟩) ?_
    refine Any.vs 2 [11, 12] rfl ?_
    obtain ⟨aPZ, Tg, aol⟩ := (xb.rd (λ _ h => (List.mem_append_left _ h))).cut cL atJ
    refine Any.tk 13 rfl pp (λ R' H' hR hS => Ox.wM rfl rfl rfl rfl aol rfl (.one rfl) ⟨rfl, rfl, rfl⟩) ?_
    refine tw 0 9 ?_ ?_
    ·refine  (aR.to (Ox.buildSlice (cells := #[]) rfl ck rfl (by decide) p7 aY rfl λ ahB _ _ => ⟨_, (.put rfl), ⟨rr, (ku (so sr)), ?_⟩⟩))
     refine tw 4 9 ?_ ?_
     ·refine  (aR.to (Ox.append (K := CZ) (λ X => X ++ (kg ++ (H))) rfl rfl rfl cR Tryz.underlying25 (by simp) .id (aZ.lit (aG.le aG.nil rfl) rfl) (Td.sub (su (so sr))).arg Te rfl λ ac8 WK FV => ⟨_, (.put rfl), ⟨rr, (ku (aP sr)), ?_⟩⟩))
      refine Any.on 9 rfl rfl (aR.to (Ox.buildSlice (cells := #[_]) rfl ck rfl (by decide) cS (bf rfl rfl rfl rfl aY) rfl λ r4 _ _ => ⟨_, (.put rfl), ⟨rr, (ku (so (aP sr))), ?_⟩⟩))
      refine Any.on 10 rfl rfl (aR.to (Ox.append (K := CZ) (λ X => (r4, _) :: X ++ (kg ++ (H))) rfl rfl rfl cR Tryz.underlying25 (by simp) (.cons .id) FV (cE.lit z0 (aG.le (aG.cons (x := Io) rfl rfl aG.nil) rfl) rfl) Tf rfl λ ac9 WL FW => ⟨_, (.put rfl), ⟨rr, (ku (so (aP sr))), ?_⟩⟩))
      refine Any.on 14 rfl rfl (aR.to (Ox.append (K := CZ) (λ X => (r4, _) :: X ++ (kg ++ (H))) rfl rfl rfl cR Tryz.underlying25 (by simp) (.cons .id) FW (Tg.sub (su (so (aP sr)))).arg Ti rfl λ tq rW zS => ⟨_, (.put rfl), ⟨rr, (ku (so (aP sr))), ?_⟩⟩))
      refine Any.vs 1 [15] rfl ?_
      exact Any.done (At.drop (so (eD (aP sr))) (Qv _ _ _ ⟨rfl, tq, rW, zS, rfl, aA.sub ⟨rfl, rfl, rfl, trivial⟩⟩))
     refine  (aR.to (Ox.buildSlice (cells := #[_]) rfl ck rfl (by decide) cS (bf rfl rfl rfl rfl aY) rfl λ r4 _ _ => ⟨_, (.put rfl), ⟨rr, (ku (so (so sr))), ?_⟩⟩))
     refine Any.on 4 rfl rfl (aR.to (Ox.append (K := CZ) (λ X => (r4, _) :: X ++ (kg ++ (H))) rfl rfl rfl cR Tryz.underlying25 (by simp) (.cons .id) (aZ.lit (aG.le aG.nil rfl) rfl) (Td.sub (su (so (so sr)))).arg Te rfl λ ac8 WK FV => ⟨_, (.put rfl), ⟨rr, (ku (so (aP sr))), ?_⟩⟩))
     refine Any.on 10 rfl rfl (aR.to (Ox.append (K := CZ) (λ X => (r4, _) :: X ++ (kg ++ (H))) rfl rfl rfl cR Tryz.underlying25 (by simp) (.cons .id) FV (cE.lit z0 (aG.le (aG.cons (x := Io) rfl rfl aG.nil) rfl) rfl) Tf rfl λ ac9 WL FW => ⟨_, (.put rfl), ⟨rr, (ku (so (aP sr))), ?_⟩⟩))
     refine Any.on 14 rfl rfl (aR.to (Ox.append (K := CZ) (λ X => (r4, _) :: X ++ (kg ++ (H))) rfl rfl rfl cR Tryz.underlying25 (by simp) (.cons .id) FW (Tg.sub (su (so (aP sr)))).arg Ti rfl λ tq rW zS => ⟨_, (.put rfl), ⟨rr, (ku (so (aP sr))), ?_⟩⟩))
     refine Any.vs 1 [15] rfl ?_
     exact Any.done (At.drop (so (eD (aP sr))) (Qv _ _ _ ⟨rfl, tq, rW, zS, rfl, aA.sub ⟨rfl, rfl, rfl, trivial⟩⟩))
    refine  (aR.to (Ox.buildSlice (cells := #[_]) rfl ck rfl (by decide) cS (bf rfl rfl rfl rfl aY) rfl λ r4 _ _ => ⟨_, (.put rfl), ⟨rr, (ku (so sr)), ?_⟩⟩))
    refine Any.on 0 rfl rfl (aR.to (Ox.buildSlice (cells := #[]) rfl ck rfl (by decide) p7 aY rfl λ ahB _ _ => ⟨_, (.put rfl), ⟨rr, (ku (so (so sr))), ?_⟩⟩))
    refine Any.on 4 rfl rfl (aR.to (Ox.append (K := CZ) (λ X => X ++ ((r4, _) :: kg ++ (H))) rfl rfl rfl cR Tryz.underlying25 (by simp) .id (aZ.lit (aG.le aG.nil rfl) rfl) (Td.sub (su (so (so sr)))).arg Te rfl λ ac8 WK FV => ⟨_, (.put rfl), ⟨rr, (ku (aP (so sr))), ?_⟩⟩))
    refine Any.on 10 rfl rfl (aR.to (Ox.append (K := CZ) (λ X => X ++ ((r4, _) :: kg ++ (H))) rfl rfl rfl cR Tryz.underlying25 (by simp) .id FV (cE.lit (List.mem_append_right _ z0) (aG.le (aG.cons (x := Io) rfl rfl aG.nil) rfl) rfl) Tf rfl λ ac9 WL FW => ⟨_, (.put rfl), ⟨rr, (ku (aP (so sr))), ?_⟩⟩))
    refine Any.on 14 rfl rfl (aR.to (Ox.append (K := CZ) (λ X => X ++ ((r4, _) :: kg ++ (H))) rfl rfl rfl cR Tryz.underlying25 (by simp) .id FW (Tg.sub (su (aP (so sr)))).arg Ti rfl λ tq rW zS => ⟨_, (.put rfl), ⟨rr, (ku (aP (so sr))), ?_⟩⟩))
    refine Any.vs 1 [15] rfl ?_
    exact Any.done (At.drop (eD (so (aP sr))) (Qv _ _ _ ⟨rfl, tq, rW, zS, rfl, aA.sub ⟨rfl, rfl, rfl, trivial⟩⟩))
   refine sp ?_
   refine At.inBlock ?_
   refine At.rg aS ?_
   refine vs 3 ?_
   refine er ?_
   exact Xz _ (af hM).symm _ _ _ ⟨rfl, x7, kg, xb, rfl, aA.sub ⟨rfl, rfl, rfl, trivial⟩⟩
  exact At.exit rfl (ajd _ (af hM).symm _ _ _ ⟨rfl, x7, kg, xb, rfl, aA.sub ⟨rfl, trivial⟩⟩)
 rintro LB aGa aEe aNH ⟨rfl, Mi, N9, aoE, rfl, apL⟩ hM
 refine At.sub apL ?_
 refine sg aQ ?_
 refine vs 2 ?_
 refine er ?_
 refine At.dB (H2 := H) (λ X => X ++ (H)) .id rfl aoE (λ aHH akS amy => ?_)
 obtain rfl := af hM
 exact rt Tryz.func51 (.tmp rfl .nil) sr (hk _ _ _ ⟨akS, rfl, Mi, amy, rfl⟩)
end
end Go.Proofs.YtabamagholjdcaaGreatDoor
